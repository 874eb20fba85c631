import PyProof.Rows.All
import Wide.All
import OpenK.AllK
import Wide.FinOn
import PySem.Value
import PySem.Syntax
import PyProof.ZipIter
import PyProof.ListNew
import PyProof.AttrMissHeap
import KE.KDictOf
import Lean
import PySem.Challenge.RW_nz0144_01
set_option Elab.async false
set_option linter.all false
set_option maxRecDepth 100000
set_option bootstrap.genMatcherCode false
set_option genSizeOf false
set_option genInjectivity false
set_option genCtorIdx false
set_option compiler.extract_closed false
section
open PySem PyProof.Rows
set_option backward.match.sparseCases false
namespace Mine
set_option genInjectivity true in
set_option genCtorIdx true in
inductive Key where
 | s (x:Str)
 | i (n:Int)
 | t (op:Str) (a b:Int)
 deriving DecidableEq
inductive PV where
 | none
 | bool (b:Bool)
 | int (i:Int)
 | str (s:Str)
 | tup (l:List PV)
 | klist (l:List PV)
 | ref (i:Nat)
 | val (v:Value)
 | rng (a b c:Int)
 | items (i:Nat)
 | clo (body:Expr) (scope:Scope) (cells:List (Str × Nat))
inductive Cell where
 | list (l:List PV)
 | dict (es:List (Key × PV))
 | inst (C:Addr) (es:List (Str × PV))
 | box (v:Option PV)
noncomputable abbrev Cells:=List Cell
noncomputable abbrev Locs:=List (Str × PV)
inductive R (α:Type) where
 | ok (a:α) (c:Cells) (l:Locs)
 | exc (c:Cells)
 | fail
noncomputable def R.ctorIdx (α:Type) (x:R α):Nat:=x.casesOn (λ zz zz zz=>0) (λ zz=>1) 2
inductive CR where
 | ok (v:PV) (c:Cells)
 | exc (c:Cells)
 | fail
noncomputable def M (α:Type):=Cells → Locs → R α
noncomputable def ret {α:Type} (a:α):M α:=λ c l=>.ok a c l
noncomputable def no {α:Type}:M α:=λ zz zz=>.fail
noncomputable def bnd {α β:Type} (m:M α) (f:α → M β):M β:=λ c l=>match m c l with
 | .ok a c' l'=>f a c' l'
 | .exc c'=>.exc c'
 | .fail=>.fail
structure Frm where
 scope:Scope
 cells:List (Str × Nat)
 tab:Option (Addr × Addr)
structure Fn where
 params:List Str
 body:List Stmt
 scope:Scope
 tab:Option (Addr × Addr)
structure Cls where
 init:Addr
 attrs:List Str
 meths:List (Str × Addr)
structure Tbl where
 glob:Str → Option PV
 fn:Addr → Option Fn
 cls:Addr → Option Cls
 fault:Addr
noncomputable def lim:Nat:=100000
section bricks
variable {α β:Type}
noncomputable def gd (b:Bool) (m:M β):M β:=λ c l=>bif b then m c l else .fail
noncomputable def sw (b:Bool) (m m':M β):M β:=λ c l=>bif b then m c l else m' c l
noncomputable def opt (o:Option α) (g:α → M β):M β:=λ c l=>match o with
 | some v=>g v c l
 | .none=>.fail
noncomputable def onO (o:Option α) (g:α → M β) (m:M β):M β:=match o with
 | some v=>g v
 | .none=>m
noncomputable def cell (a:Nat) (g:Cell → M β):M β:=λ c l=>opt c[a]? g c l
noncomputable def put (a:Nat) (x:Cell) (v:β):M β:=λ c l=>.ok v (c.set a x) l
noncomputable def newCell (x:Cell):M PV:=λ c l=>.ok (.ref c.length) (c ++ [x]) l
noncomputable def refOf:PV → Option Nat
 | .ref a=>some a
 | _=>.none
noncomputable def intOf:PV → Option Int
 | .int a=>some a
 | _=>.none
noncomputable def strOf:PV → Option Str
 | .str a=>some a
 | _=>.none
noncomputable def boolOf:PV → Option Bool
 | .bool a=>some a
 | _=>.none
noncomputable def tupOf:PV → Option (List PV)
 | .tup a=>some a
 | _=>.none
noncomputable def klOf:PV → Option (List PV)
 | .klist a=>some a
 | _=>.none
noncomputable def isNil:PV → Bool
 | .none=>true
 | _=>false
noncomputable def lstOf:Cell → Option (List PV)
 | .list l=>some l
 | _=>.none
noncomputable def dctOf:Cell → Option (List (Key × PV))
 | .dict l=>some l
 | _=>.none
noncomputable def insOf:Cell → Option (Addr × List (Str × PV))
 | .inst C l=>some (C,l)
 | _=>.none
noncomputable def boxOf:Cell → Option (Option PV)
 | .box v=>some v
 | _=>.none
noncomputable def onLst (x:PV) (g:Nat → List PV → M β):M β:=opt (refOf x) λ a=>cell a λ y=>opt (lstOf y) λ l=>g a l
noncomputable def onDct (x:PV) (g:Nat → List (Key × PV) → M β):M β:=opt (refOf x) λ a=>cell a λ y=>opt (dctOf y) λ l=>g a l
noncomputable def onIns (x:PV) (g:Nat → Addr × List (Str × PV) → M β):M β:=opt (refOf x) λ a=>cell a λ y=>opt (insOf y) λ p=>g a p
noncomputable def one (xs:List α) (g:α → M β):M β:=match xs with
 | []=>no
 | x :: r=>gd r.isEmpty (g x)
end bricks
section prims
variable (K:Tbl) (ro:Bool)
noncomputable def ldL (x:Str):M PV:=λ c l=>opt (l.lookup x) ret c l
noncomputable def ldB (i:Nat):M PV:=cell i λ y=>opt (boxOf y) λ o=>opt o ret
noncomputable def ldName (f:Frm) (x:Str):M PV:=gd (decide (x ≠ "__debug__") && decide (x ≠ "__classdict__")) (opt (f.scope.names.lookup x) λ k=>match k with
 | .local=>ldL x
 | .cell=>opt (f.cells.lookup x) ldB
 | .free=>opt (f.cells.lookup x) ldB
 | .globalImplicit=>opt (K.glob x) ret
 | .globalExplicit=>no)
noncomputable def putLoc (x:Str) (v:PV):Locs → Locs
 | []=>[(x,v)]
 | (y,u) :: r=>if y = x then (x,v) :: r else (y,u) :: putLoc x v r
noncomputable def stL (x:Str) (v:PV):M Unit:=λ c l=>.ok () c (putLoc x v l)
noncomputable def stB (i:Nat) (v:PV):M Unit:=cell i λ y=>opt (boxOf y) λ zz=>gd (!ro) (put i (.box (some v)) ())
noncomputable def stName (f:Frm) (x:Str) (v:PV):M Unit:=opt (f.scope.names.lookup x) λ k=>match k with
 | .local=>stL x v
 | .cell=>opt (f.cells.lookup x) λ i=>stB ro i v
 | .free=>no
 | .globalImplicit=>no
 | .globalExplicit=>no
noncomputable def keyT:List PV → Option Key
 | []=>.none
 | a :: r=>(strOf a).bind λ op=>match r with
  | []=>.none
  | b :: r=>match r with
   | []=>.none
   | p :: r=>(intOf p).bind λ x=>match r with
    | []=>.none
    | q :: r=>(intOf q).bind λ y=>bif r.isEmpty && (tupOf b).any (·.isEmpty) && PyData.strOk op then some (.t op x y) else .none
noncomputable def keyOf:PV → Option Key
 | .str s=>some (.s s)
 | .int i=>some (.i i)
 | .tup l=>keyT l
 | _=>.none
noncomputable def keyPV:Key → PV
 | .s x=>.str x
 | .i n=>.int n
 | .t op a b=>.tup [.str op,.tup [],.int a,.int b]
noncomputable def putKey (k:Key) (v:PV):List (Key × PV) → List (Key × PV)
 | []=>[(k,v)]
 | (j,u) :: r=>if j = k then (j,v) :: r else (j,u) :: putKey k v r
noncomputable def isS:Key → Bool
 | .s _=>true
 | _=>false
noncomputable def isI:Key → Bool
 | .i _=>true
 | _=>false
noncomputable def isT:Key → Bool
 | .t ..=>true
 | _=>false
noncomputable def kinds (k:Key) (es:List (Key × PV)):Bool:=match k with
 | .s _=>es.all λ e=>isS e.1
 | .i _=>es.all λ e=>isI e.1
 | .t ..=>es.all λ e=>isT e.1
mutual
noncomputable def toPy:PV → Option PyData
 | .none=>some .none
 | .bool b=>some (.bool b)
 | .int i=>some (.int i)
 | .str s=>some (.str s)
 | .tup l=>(toPys l).map .tuple
 | _=>.none
noncomputable def toPys:List PV → Option (List PyData)
 | []=>some []
 | x :: r=>(toPy x).bind λ a=>(toPys r).map (a :: ·)
end
noncomputable def smallD (x:PV):Bool:=(toPy x).any λ d=>d.canLay0 && decide (d.depth ≤ 60)
noncomputable def eqData (x y:PV):Bool:=((toPy x).bind λ a=>(toPy y).map λ b=>PyData.eqv a b) == some true
noncomputable def eqEntries:List (Key × PV) → List (Key × PV) → Bool
 | [],es=>es.isEmpty
 | (k,v) :: r,es=>match es with
  | []=>false
  | (j,u) :: t=>decide (k = j) && isS k && smallD v && smallD u && eqData v u && eqEntries r t
noncomputable def eqR (c:Cells) (a b:Nat):Option Bool:=c[a]?.bind λ y=>c[b]?.bind λ z=>match lstOf y,lstOf z with
 | some x,some y=>bif x.all smallD && y.all smallD then some (eqData (.tup x) (.tup y)) else .none
 | _,_=>(dctOf y).bind λ x=>(dctOf z).bind λ y=>bif a != b && eqEntries x y then some true else .none
noncomputable def eqV (c:Cells) (x y:PV):Option Bool:=match refOf x,refOf y with
 | some a,some b=>eqR c a b
 | _,_=>bif smallD x && smallD y then some (eqData x y) else .none
noncomputable def memV (c:Cells) (x y:PV):Option Bool:=match tupOf y with
 | some ys=>bif smallD x && ys.all smallD then some (ys.any λ v=>eqData v x) else .none
 | .none=>(refOf y).bind λ i=>c[i]?.bind λ z=>match lstOf z with
  | some ys=>bif smallD x && ys.all smallD then some (ys.any λ v=>eqData v x) else .none
  | .none=>(dctOf z).bind λ es=>(strOf x).bind λ k=>bif es.all λ e=>isS e.1 then some (es.any λ e=>decide (e.1 = .s k)) else .none
noncomputable def cmpI (x y:PV) (p:Int → Int → Bool):M Bool:=opt (intOf x) λ a=>opt (intOf y) λ b=>ret (p a b)
noncomputable def cmpV (op:CmpOp) (x y:PV):M Bool:=match op with
 | .Eq=>λ c l=>opt (eqV c x y) ret c l
 | .NotEq=>λ c l=>opt (eqV c x y) (λ b=>ret !b) c l
 | .Lt=>cmpI x y λ a b=>decide (a < b)
 | .LtE=>cmpI x y λ a b=>decide (a ≤ b)
 | .Gt=>cmpI x y λ a b=>decide (a > b)
 | .GtE=>no
 | .Is=>gd (isNil x && isNil y) (ret true)
 | .IsNot=>no
 | .In=>λ c l=>opt (memV c x y) ret c l
 | .NotIn=>λ c l=>opt (memV c x y) (λ b=>ret !b) c l
noncomputable def smallI (i:Int):Bool:=decide (-(2 ^ 62) < i) && decide (i < 2 ^ 62)
noncomputable def catV (x y:PV):M PV:=onLst x λ zz a=>onLst y λ zz b=>gd (decide (a.length + b.length ≤ lim)) (newCell (.list (a ++ b)))
noncomputable def binI (op:Operator) (a b:Int):M PV:=match op with
 | .Add=>ret (.int (a + b))
 | .Sub=>ret (.int (a - b))
 | .Mult=>gd (smallI a && smallI b) (ret (.int (a * b)))
 | .FloorDiv=>gd (decide (b = 2) && smallI a) (ret (.int (a.fdiv 2)))
 | .Mod=>gd (decide (0 < b) && decide (b ≤ 1009)) (ret (.int (a.fmod b)))
 | _=>no
noncomputable def binV (op:Operator) (x y:PV):M PV:=match intOf x with
 | some a=>opt (intOf y) (binI op a)
 | .none=>match op with
  | .Add=>catV x y
  | _=>no
noncomputable def idx (n:Nat) (i:Int):Option Nat:=if 0 ≤ i then (if i < n then some i.toNat else .none) else if 0 ≤ i + n then some (i + n).toNat else .none
noncomputable def itemL (xs:List PV) (i:PV):M PV:=opt (intOf i) λ i=>gd (decide (xs.length ≤ lim)) (opt ((idx xs.length i).bind λ j=>xs[j]?) ret)
noncomputable def look (k:Key) (es:List (Key × PV)):Option PV:=(es.find? λ e=>decide (e.1 = k)).map (·.2)
noncomputable def itemV (x i:PV):M PV:=match tupOf x with
 | some xs=>itemL xs i
 | .none=>match klOf x with
  | some xs=>itemL xs i
  | .none=>opt (refOf x) λ a=>cell a λ y=>match lstOf y with
   | some xs=>itemL xs i
   | .none=>opt (dctOf y) λ es=>opt (keyOf i) λ k=>gd (kinds k es && !isT k) (opt (look k es) ret)
noncomputable def cutL (xs:List PV) (k:Int):M PV:=gd (decide (0 ≤ k) && decide (k ≤ lim) && decide (xs.length ≤ lim)) (newCell (.list (xs.take k.toNat)))
noncomputable def sliceV (x k:PV):M PV:=opt (intOf k) λ k=>match klOf x with
 | some xs=>cutL xs k
 | .none=>onLst x λ zz xs=>cutL xs k
noncomputable def setItemV (x k v:PV):M Unit:=onDct x λ a es=>opt (keyOf k) λ k=>gd (!ro && kinds k es && decide (es.length ≤ lim) && (!isT k || es.all λ e=>decide (e.1 ≠ k))) (put a (.dict (putKey k v es)) ())
noncomputable def putAttr (x:Str) (v:PV):List (Str × PV) → List (Str × PV)
 | []=>[(x,v)]
 | (y,u) :: r=>if y = x then (y,v) :: r else (y,u) :: putAttr x v r
noncomputable def isV:PV → Bool
 | .val _=>true
 | _=>false
noncomputable def getAttrV (x:PV) (n:Str):M PV:=onIns x λ zz p=>opt (K.cls p.1) λ k=>gd (k.attrs.contains n) (opt (p.2.lookup n) λ v=>gd (!isV v) (ret v))
noncomputable def setAttrV (x:PV) (n:Str) (v:PV):M Unit:=onIns x λ a p=>opt (K.cls p.1) λ k=>gd (!ro && k.attrs.contains n && decide (p.2.length ≤ 100)) (put a (.inst p.1 (putAttr n v p.2)) ())
inductive Mth where
 | fn (a:Addr)
 | bi (lst:Bool) (n:Str)
noncomputable def methV (x:PV) (n:Str):M Mth:=opt (refOf x) λ a=>cell a λ y=>match y with
 | .inst C es=>opt (K.cls C) λ k=>gd (es.lookup n).isNone (opt (k.meths.lookup n) λ f=>ret (.fn f))
 | .list _=>gd (decide (n = "append") || decide (n = "pop")) (ret (.bi true n))
 | .dict _=>gd (decide (n = "get") || decide (n = "pop") || decide (n = "items") || decide (n = "update")) (ret (.bi false n))
 | .box _=>no
noncomputable def putAll:List (Key × PV) → List (Key × PV) → List (Key × PV)
 | [],es=>es
 | (k,v) :: r,es=>putAll r (putKey k v es)
noncomputable def mid (lst:Bool) (n:Str):String:=if lst then (if n = "append" then "list.append" else "list.pop") else if n = "get" then "dict.get" else if n = "pop" then "dict.pop" else if n = "items" then "dict.items" else "dict.update"
noncomputable def bApp (a:Nat) (xs:List PV) (v:PV):M PV:=gd (!ro && decide (xs.length ≤ lim)) (put a (.list (xs ++ [v])) .none)
noncomputable def bPop (a:Nat) (xs:List PV):M PV:=gd (!ro && decide (xs.length ≤ lim)) (opt xs.getLast? λ v=>put a (.list xs.dropLast) v)
noncomputable def bItems (a:Nat) (es:List (Key × PV)):M PV:=gd (es.all λ e=>isS e.1) (ret (.items a))
noncomputable def bGet (es:List (Key × PV)) (k d:PV):M PV:=opt (keyOf k) λ k=>gd (isT k && kinds k es && es.all λ e=>decide (e.1 ≠ k)) (ret d)
noncomputable def bDel (a:Nat) (es:List (Key × PV)) (k:PV):M PV:=opt (strOf k) λ k=>gd (!ro && kinds (.s k) es && decide (es.length ≤ lim)) (opt (look (.s k) es) λ v=>put a (.dict (es.filter λ e=>decide (e.1 ≠ .s k))) v)
noncomputable def bUpd (a:Nat) (es:List (Key × PV)) (k:PV):M PV:=onDct k λ b fs=>gd (!ro && a != b && es.all (λ e=>isS e.1) && fs.all (λ e=>isS e.1) && decide (es.length + fs.length ≤ lim)) (put a (.dict (putAll fs es)) .none)
noncomputable def methB (x:PV) (lst:Bool) (n:Str) (vs:List PV):M PV:=match lst with
 | true=>onLst x λ a xs=>sw (decide (n = "append")) (one vs (bApp ro a xs)) (gd (decide (n = "pop") && vs.isEmpty) (bPop ro a xs))
 | false=>onDct x λ a es=>match vs with
  | []=>gd (decide (n = "items")) (bItems a es)
  | k :: r=>match r with
   | []=>sw (decide (n = "pop")) (bDel ro a es k) (gd (decide (n = "update")) (bUpd ro a es k))
   | d :: r=>gd (r.isEmpty && decide (n = "get")) (bGet es k d)
noncomputable def allInts:List PV → Option (List Int)
 | []=>some []
 | x :: r=>(intOf x).bind λ i=>(allInts r).map (i :: ·)
noncomputable def pairOf (x:PV):Option (Key × PV):=(tupOf x).bind λ l=>match l with
 | []=>.none
 | a :: r=>(strOf a).bind λ k=>match r with
  | []=>.none
  | v :: r=>bif r.isEmpty then some (.s k,v) else .none
noncomputable def pairsOf:List PV → Option (List (Key × PV))
 | []=>some []
 | x :: r=>(pairOf x).bind λ p=>(pairsOf r).map (p :: ·)
noncomputable def lenV (x:PV):M PV:=match klOf x with
 | some xs=>gd (decide (xs.length ≤ lim)) (ret (.int xs.length))
 | .none=>onLst x λ zz xs=>gd (decide (xs.length ≤ lim)) (ret (.int xs.length))
noncomputable def absV (x:PV):M PV:=opt (intOf x) λ i=>ret (.int i.natAbs)
noncomputable def sumV (x:PV):M PV:=onLst x λ zz xs=>opt (allInts xs) λ is=>gd (decide (xs.length ≤ lim)) (ret (.int is.sum))
noncomputable def intV (x:PV):M PV:=opt (intOf x) λ i=>ret (.int i)
noncomputable def tupV (x:PV):M PV:=match tupOf x with
 | some xs=>ret (.tup xs)
 | .none=>onLst x λ zz xs=>gd (decide (xs.length ≤ lim)) (ret (.tup xs))
noncomputable def dctV (x:PV):M PV:=opt (refOf x) λ a=>cell a λ y=>match lstOf y with
 | some xs=>opt (pairsOf xs) λ ps=>gd (decide (ps.length ≤ lim)) (newCell (.dict (putAll ps [])))
 | .none=>opt (dctOf y) λ es=>gd (es.all (λ e=>isS e.1) && decide (es.length ≤ lim)) (newCell (.dict es))
noncomputable def rngV (vs:List PV):M PV:=match vs with
 | []=>no
 | x :: r=>opt (intOf x) λ a=>match r with
  | []=>gd (smallI a) (ret (.rng 0 a 1))
  | y :: r=>opt (intOf y) λ b=>one r λ z=>gd (smallI a && smallI b && decide (intOf z = some (-1))) (ret (.rng a b (-1)))
noncomputable def biFn (n:String) (vs:List PV):M PV:=if n = "len" then one vs lenV else if n = "abs" then one vs absV else if n = "sum" then one vs sumV else no
noncomputable def biTy (n:String) (vs:List PV):M PV:=if n = "int" then one vs intV else if n = "tuple" then one vs tupV else if n = "dict" then one vs dctV else if n = "range" then rngV vs else no
noncomputable def biCall (v:Value) (vs:List PV):M PV:=match v with
 | .builtin n=>biFn n vs
 | .type n=>biTy n vs
 | _=>no
noncomputable def notStar:Expr → Bool
 | .Starred ..=>false
 | _=>true
noncomputable def isSet:Expr → Bool
 | .Set ..=>true
 | _=>false
noncomputable def nameOf:Expr → Option Str
 | .Name x _=>some x
 | _=>.none
noncomputable def callOf:Expr → Option (Expr × List Expr × List Keyword)
 | .Call f as ks _=>some (f,as,ks)
 | _=>.none
noncomputable def plainBase (e:Expr):Bool:=!((callOf e).any λ p=>(nameOf p.1).isSome && p.2.1.isEmpty && p.2.2.isEmpty)
inductive It where
 | lst (i:Nat)
 | fix (l:List PV)
 | rng (a b k:Int)
 | items (i:Nat)
 | zip (i j:Nat)
noncomputable def iterV (x:PV):M It:=match x with
 | .ref a=>onLst (.ref a) λ a zz=>ret (.lst a)
 | .tup l'=>ret (.fix l')
 | .klist l'=>ret (.fix l')
 | .rng a b k=>gd (smallI a && smallI b && (decide (k = 1) || decide (k = -1))) (ret (.rng a b k))
 | .items a=>onDct (.ref a) λ a es=>gd (es.all λ e=>isS e.1) (ret (.items a))
 | _=>no
noncomputable def pairAt (x y:Option PV):Option PV:=x.bind λ a=>y.map λ b=>.tup [a,b]
noncomputable def lstAtC (c:Cells) (a:Nat):Option (List PV):=c[a]?.bind lstOf
noncomputable def itemAt (c:Cells):It → Nat → Option (Option PV)
 | .lst a,i=>(lstAtC c a).bind λ xs=>bif decide (xs.length ≤ lim) then some xs[i]? else .none
 | .fix l,i=>bif decide (l.length ≤ lim) then some l[i]? else .none
 | .rng a b k,i=>if k = 1 then some (if a + i < b then some (.int (a + i)) else .none) else if k = -1 then some (if b < a - i then some (.int (a - i)) else .none) else .none
 | .items a,i=>(c[a]?.bind dctOf).bind λ es=>bif es.all (λ e=>isS e.1) then some (es[i]?.map λ e=>.tup [keyPV e.1,e.2]) else .none
 | .zip a b,i=>(lstAtC c a).bind λ xs=>(lstAtC c b).bind λ ys=>bif decide (xs.length ≤ lim) && decide (ys.length ≤ lim) then some (pairAt xs[i]? ys[i]?) else .none
noncomputable def It.isRo:It → Bool
 | .items _=>true
 | _=>false
noncomputable def isTup:Expr → Bool
 | .Tuple ..=>true
 | _=>false
noncomputable def fitsB (t:Bool):It → Bool
 | .items _=>t
 | .zip _ _=>t
 | _=>true
noncomputable def It.fits (i:It) (t:Expr):Bool:=fitsB (isTup t) i
noncomputable def zipPairs:List PV → List PV → List PV
 | [],_=>[]
 | a :: r,ys=>match ys with
  | []=>[]
  | b :: t=>.tup [a,b] :: zipPairs r t
noncomputable def zipArg2 (as:List Expr):Option (Expr × Expr):=match as with
 | []=>.none
 | a :: r=>match r with
  | []=>.none
  | b :: r=>bif r.isEmpty && notStar a && notStar b then some (a,b) else .none
noncomputable def isZip (e:Expr):Option (Expr × Expr):=(callOf e).bind λ p=>bif p.2.2.isEmpty && decide (nameOf p.1 = some "zip") then zipArg2 p.2.1 else .none
noncomputable def zipArg:List Expr → Option (Expr × Expr)
 | []=>.none
 | a :: r=>bif r.isEmpty then isZip a else .none
noncomputable def isTyp (n:String):PV → Bool
 | .val v=>decide (v = .type n)
 | _=>false
noncomputable def zipV (fv zv x y:PV):M PV:=gd (isTyp "zip" zv) (onLst x λ zz xs=>onLst y λ zz ys=>gd (decide (xs.length ≤ lim) && decide (ys.length ≤ lim)) (sw (isTyp "list" fv) (newCell (.list (zipPairs xs ys)))
 (gd (isTyp "dict" fv) (opt (allInts xs) λ is=>gd (decide (is.length ≤ 100)) (newCell (.dict (putAll ((is.map Key.i).zip ys) [])))))))
inductive Flw where
 | nxt
 | ret (v:PV)
noncomputable def Flw.ctorIdx (x:Flw):Nat:=x.casesOn 0 λ zz=>1
noncomputable def lift (r:CR):M PV:=λ zz l=>match r with
 | .ok v c=>.ok v c l
 | .exc c=>.exc c
 | .fail=>.fail
end prims
noncomputable abbrev Callee:=Bool → PV → List PV → Cells → CR
section ev
variable (K:Tbl) (cf:Callee)
noncomputable def callV (ro:Bool) (f:PV) (vs:List PV):M PV:=match f with
 | .val v=>match v with
  | .ref a=>λ c l=>lift (cf ro (.val (.ref a)) vs c) c l
  | v=>biCall v vs
 | .clo b s k=>λ c l=>lift (cf ro (.clo b s k) vs c) c l
 | _=>no
noncomputable def doM (ro:Bool) (m:Mth) (x:PV) (vs:List PV):M PV:=match m with
 | .fn g=>callV cf ro (.val (.ref g)) (x :: vs)
 | .bi lst b=>methB ro x lst b vs
noncomputable def stEach (ro:Bool) (f:Frm):List Str → List PV → M Unit
 | [],vs=>gd vs.isEmpty (ret ())
 | x :: xs,vs=>match vs with
  | []=>no
  | v :: vs=>bnd (stName ro f x v) λ zz=>stEach ro f xs vs
noncomputable def onFlw (r:M Flw) (w:Flw):M Flw:=match w with
 | .nxt=>r
 | .ret v=>ret (.ret v)
noncomputable def loopN (more:M Bool) (turn:M Flw):Nat → M Flw
 | 0=>no
 | n + 1=>bnd more λ b=>sw b (bnd turn (onFlw (loopN more turn n))) (ret .nxt)
noncomputable def onItm {β:Type} (o:Option (Option PV)) (e:M β) (g:PV → M β):M β:=match o with
 | some o=>match o with
  | some v=>g v
  | .none=>e
 | .none=>no
noncomputable def loopIt (it:It) (turn:PV → M Flw):Nat → Nat → M Flw
 | 0,_=>no
 | n + 1,i=>λ c l=>onItm (itemAt c it i) (ret .nxt) (λ v=>bnd (turn v) (onFlw (loopIt it turn n (i + 1)))) c l
noncomputable def collIt (it:It) (turn:PV → M PV):Nat → Nat → M (List PV)
 | 0,_=>no
 | n + 1,i=>λ c l=>onItm (itemAt c it i) (ret []) (λ v=>bnd (turn v) λ x=>bnd (collIt it turn n (i + 1)) λ r=>ret (x :: r)) c l
noncomputable def freeCells (f:Frm):List (Str × NameKind) → Option (List (Str × Nat))
 | []=>some []
 | (x,k) :: r=>bif k == .free then (f.cells.lookup x).bind λ i=>(freeCells f r).map ((x,i) :: ·) else freeCells f r
noncomputable def plainScope (s:Scope):Bool:=s.kind == .function && !s.isGenerator && !s.isCoroutine && s.names.all λ x=>x.2 != .cell && (x.2 != .local || s.names.lookup x.1 == some .local)
noncomputable def compScope (o s:Scope):Scope:={ s with names:=s.names.map λ (n,k)=>if (k == .free && o.kind == .function && o.names.lookup n == some .cell) then (n,.cell) else (n,k) }
noncomputable def turns:Nat:=200
noncomputable def tupT (n:Nat) (b:Bool) (k:List PV → M Unit) (v:PV):M Unit:=opt (tupOf v) λ vs=>gd (decide (vs.length = n) && b) (k vs)
noncomputable def nilT (vs:List PV):M Unit:=gd vs.isEmpty (ret ())
noncomputable def consT (t:PV → M Unit) (r:List PV → M Unit) (vs:List PV):M Unit:=match vs with
 | []=>no
 | v :: vs=>bnd (t v) λ zz=>r vs
noncomputable def constV:Const → M PV
 | .none=>ret .none
 | .bool b=>ret (.bool b)
 | .int i=>ret (.int i)
 | .str s=>ret (.str s)
 | _=>no
noncomputable def intK:Expr → Option Int
 | .Constant k _ _=>match k with
  | .int i=>some i
  | _=>.none
 | _=>.none
noncomputable def strK:Expr → Option Str
 | .Constant k _ _=>match k with
  | .str i=>some i
  | _=>.none
 | _=>.none
noncomputable def sliceOf:Expr → Option (Option Expr × Option Expr × Option Expr)
 | .Slice a b c _=>some (a,b,c)
 | _=>.none
noncomputable def oneGen:List Comprehension → Option (Expr × Expr)
 | []=>.none
 | g :: r=>bif r.isEmpty && g.ifs.isEmpty && decide (g.is_async = 0) then some (g.target,g.iter) else .none
noncomputable def noArgs (a:Arguments):Bool:=a.posonlyargs.isEmpty && a.args.isEmpty && a.vararg.isNone && a.kwonlyargs.isEmpty && a.kw_defaults.isEmpty && a.kwarg.isNone && a.defaults.isEmpty
noncomputable def bin (op:Operator) (a b:M PV):M PV:=bnd a λ x=>bnd b λ y=>binV op x y
noncomputable def cmpB (op:CmpOp) (a b:M PV):M Bool:=bnd a λ x=>bnd b λ y=>cmpV op x y
noncomputable def cmpE (op:CmpOp) (a b:M PV):M PV:=bnd a λ x=>bnd b λ y=>bnd (cmpV op x y) λ t=>ret (.bool t)
noncomputable def notM (t:M Bool):M Bool:=bnd t λ b=>ret !b
noncomputable def ifM {α:Type} (t:M Bool) (a b:M α):M α:=bnd t λ q=>sw q a b
noncomputable def valT (e:M PV):M Bool:=bnd e λ v=>opt (boolOf v) ret
noncomputable def endB (op:BoolOp) (b:Bool):Bool:=match op with
 | .And=>!b
 | .Or=>b
noncomputable def bopT (op:BoolOp) (t r:M Bool):M Bool:=bnd t λ b=>sw (endB op b) (ret b) r
noncomputable def opV (op:BoolOp) (t r:M PV):M PV:=bnd t λ v=>opt (boolOf v) λ b=>sw (endB op b) (ret (.bool b)) r
noncomputable def tupM (m:M (List PV)):M PV:=bnd m λ vs=>gd (decide (vs.length ≤ 100)) (ret (.tup vs))
noncomputable def lstM (m:M (List PV)):M PV:=bnd m λ vs=>gd (decide (vs.length ≤ 100)) (newCell (.list vs))
noncomputable def dctM (m:M (List (Key × PV))):M PV:=bnd m λ ps=>newCell (.dict (putAll ps []))
noncomputable def attr (o:M PV) (a:Str):M PV:=bnd o λ x=>getAttrV K x a
noncomputable def sub (o i:M PV):M PV:=bnd o λ x=>bnd i λ y=>itemV x y
noncomputable def slc (o k:M PV):M PV:=bnd o λ x=>bnd k λ y=>sliceV x y
noncomputable def meth (ro:Bool) (o:M PV) (a:Str) (as:M (List PV)):M PV:=bnd o λ x=>bnd (methV K x a) λ m=>bnd as λ vs=>doM cf ro m x vs
noncomputable def calN (ro:Bool) (f:M PV) (as:M (List PV)):M PV:=bnd f λ fv=>bnd as λ vs=>callV cf ro fv vs
noncomputable def zipM (f z p q:M PV):M PV:=bnd f λ fv=>bnd z λ zv=>bnd p λ x=>bnd q λ y=>zipV fv zv x y
noncomputable def endC (l:Locs) (r:R (List PV)):R PV:=match r with
 | .ok vs c' _=>.ok (.ref c'.length) (c' ++ [.list vs]) l
 | .exc _=>.fail
 | .fail=>.fail
noncomputable def cprM (t:Bool) (it:M PV) (b:It → PV → M PV):M PV:=bnd it λ x=>bnd (iterV x) λ i=>gd (fitsB t i) λ c l=>endC l (collIt i (b i) turns 0 c [])
noncomputable def consM (x:M PV) (r:M (List PV)):M (List PV):=bnd x λ x=>bnd r λ xs=>ret (x :: xs)
noncomputable def dCons (k:Str) (v:M PV) (r:M (List (Key × PV))):M (List (Key × PV)):=bnd v λ x=>bnd r λ ps=>ret ((.s k,x) :: ps)
noncomputable def stA (ro:Bool) (o:M PV) (a:Str) (v:PV):M Unit:=bnd o λ x=>setAttrV K ro x a v
noncomputable def stI (ro:Bool) (o i:M PV) (v:PV):M Unit:=bnd o λ x=>bnd i λ k=>setItemV ro x k v
mutual
noncomputable def evE:Nat → Bool → Frm → Expr → M PV
 | 0,_,_,_=>no
 | n + 1,ro,f,e=>match e with
  | .Constant k _ _=>constV k
  | .Name x _=>ldName K f x
  | .BinOp a op b _=>bin op (evE n ro f a) (evE n ro f b)
  | .UnaryOp op x _=>match op with
   | .USub=>opt (intK x) λ i=>ret (.int (-i))
   | _=>no
  | .BoolOp op vs _=>evB n ro f op vs
  | .Compare a ops bs _=>one ops λ op=>one bs λ b=>gd (!isSet b) (cmpE op (evE n ro f a) (evE n ro f b))
  | .IfExp t a b _=>ifM (tst n ro f t) (evE n ro f a) (evE n ro f b)
  | .Tuple es _ _=>tupM (evL n ro f es)
  | .List es _=>lstM (evL n ro f es)
  | .Dict ks vs _=>sw (ks.isEmpty && vs.isEmpty) (newCell (.dict [])) (gd (ks.all (·.isSome) && decide (ks.length = vs.length) && decide (ks.length ≤ 15) && !ks.isEmpty) (dctM (evD n ro f ks vs)))
  | .Attribute o a _=>gd (plainBase o) (attr K (evE n ro f o) a)
  | .Subscript o i _=>onO (sliceOf i) (λ p=>gd (p.1.isNone && p.2.2.isNone) (opt p.2.1 λ k=>slc (evE n ro f o) (evE n ro f k))) (sub (evE n ro f o) (evE n ro f i))
  | .Call g as ks pos=>gd ks.isEmpty (match g with
   | .Attribute o a apos=>gd (plainBase o && as.all notStar && decide (as.length < 20) && apos.endLine == pos.line) (meth K cf ro (evE n ro f o) a (evL n ro f as))
   | .Name g _=>onO (zipArg as) (λ p=>zipM (ldName K f g) (ldName K f "zip") (evE n ro f p.1) (evE n ro f p.2)) (gd (as.all notStar) (calN cf ro (ldName K f g) (evL n ro f as)))
   | _=>no)
  | .ListComp elt gens scope _=>opt (oneGen gens) λ p=>gd (!isSet p.2 && plainScope scope) (opt (freeCells f scope.names) λ fc=>
    cprM (isTup p.1) (evE n ro f p.2) λ i v=>bnd (stTarget n (ro || i.isRo) ⟨compScope f.scope scope,fc,.none⟩ p.1 v) λ zz=>evE n (ro || i.isRo) ⟨compScope f.scope scope,fc,.none⟩ elt)
  | .Lambda a b scope _=>gd (noArgs a && plainScope scope && !ro && f.tab.isSome) (opt (freeCells f scope.names) λ fc=>ret (.clo b scope fc))
  | _=>no
noncomputable def evL:Nat → Bool → Frm → List Expr → M (List PV)
 | 0,_,_,_=>no
 | n + 1,ro,f,es=>match es with
  | []=>ret []
  | e :: r=>gd (notStar e) (consM (evE n ro f e) (evL n ro f r))
noncomputable def evD:Nat → Bool → Frm → List (Option Expr) → List Expr → M (List (Key × PV))
 | 0,_,_,_,_=>no
 | n + 1,ro,f,ks,vs=>match ks with
  | []=>gd vs.isEmpty (ret [])
  | k :: kr=>opt (k.bind strK) λ k=>match vs with
   | []=>no
   | v :: vr=>dCons k (evE n ro f v) (evD n ro f kr vr)
noncomputable def evB:Nat → Bool → Frm → BoolOp → List Expr → M PV
 | 0,_,_,_,_=>no
 | n + 1,ro,f,op,es=>match es with
  | []=>no
  | e :: r=>match r with
   | []=>evE n ro f e
   | e2 :: r=>opV op (evE n ro f e) (evB n ro f op (e2 :: r))
noncomputable def tst:Nat → Bool → Frm → Expr → M Bool
 | 0,_,_,_=>no
 | n + 1,ro,f,e=>match e with
  | .UnaryOp op x p=>match op with
   | .Not=>notM (tst n ro f x)
   | op=>valT (evE n ro f (.UnaryOp op x p))
  | .BoolOp op es _=>tstB n ro f op es
  | .Compare a ops bs _=>one ops λ op=>one bs λ b=>gd (!isSet b) (cmpB op (evE n ro f a) (evE n ro f b))
  | .IfExp ..=>no
  | e=>valT (evE n ro f e)
noncomputable def tstB:Nat → Bool → Frm → BoolOp → List Expr → M Bool
 | 0,_,_,_,_=>no
 | n + 1,ro,f,op,es=>match es with
  | []=>ret (op == .And)
  | e :: r=>bopT op (tst n ro f e) (tstB n ro f op r)
noncomputable def stTarget:Nat → Bool → Frm → Expr → PV → M Unit
 | 0,_,_,_,_=>no
 | n + 1,ro,f,t,v=>match t with
  | .Name x _=>stName ro f x v
  | .Attribute o a _=>stA K ro (evE n ro f o) a v
  | .Subscript o i _=>gd (sliceOf i).isNone (stI ro (evE n ro f o) (evE n ro f i) v)
  | .Tuple ts _ _=>tupT ts.length (ts.all notStar) (stList n ro f ts) v
  | _=>no
noncomputable def stList:Nat → Bool → Frm → List Expr → List PV → M Unit
 | 0,_,_,_,_=>no
 | n + 1,ro,f,ts,vs=>match ts with
  | []=>nilT vs
  | t :: ts=>gd (notStar t) (consT (stTarget n ro f t) (stList n ro f ts) vs)
end
noncomputable def isFault (f:Frm) (x:Str):Bool:=decide (x ≠ "__debug__") && decide (x ≠ "__classdict__") && decide (f.scope.names.lookup x = some .globalImplicit) && ((K.glob x).any λ v=>match v with
 | .val v=>decide (v = .ref K.fault)
 | _=>false)
noncomputable def isComp:Expr → Bool
 | .ListComp .. | .SetComp .. | .DictComp ..=>true
 | _=>false
noncomputable def tupE?:Expr → Option (List Expr)
 | .Tuple es _ _=>some es
 | _=>.none
noncomputable def okT:Expr → Bool
 | .List .. | .Starred ..=>false
 | _=>true
noncomputable def okE:Expr → Bool
 | .SetComp .. | .DictComp ..=>false
 | _=>true
noncomputable def okAssign (t e:Expr):Bool:=okT t && okE e
noncomputable def twoOf {α:Type}:List α → Option (α × α)
 | []=>.none
 | a :: r=>match r with
  | []=>.none
  | b :: r=>bif r.isEmpty then some (a,b) else .none
noncomputable def nameP:Expr → Option (Str × Pos)
 | .Name x p=>some (x,p)
 | _=>.none
noncomputable def swapOf (f:Frm) (t e:Expr):Option (Str × Str):=(tupE? t).bind λ ts=>(tupE? e).bind λ vs=>(twoOf ts).bind λ q=>(nameP q.1).bind λ a=>(nameP q.2).bind λ b=>
 bif f.scope.names.lookup a.1 == some .local && f.scope.names.lookup b.1 == some .local && b.2.line == a.2.line && a.1 != b.1 && vs.length == 2 && vs.all notStar && !vs.all (foldedForSure 8) && !vs.all (constantsAlone 8) then some (a.1,b.1) else .none
noncomputable def ownN (f:Frm):Expr → Bool
 | .Name x _=>f.scope.names.lookup x == some .local
 | _=>false
noncomputable def plainT (f:Frm) (t e:Expr):Bool:=!(tupE? t).isSome || !(tupE? e).isSome || (tupE? t).any λ ts=>!ts.all (ownN f)
noncomputable def swp (x1 x2:Str) (v:PV):M Unit:=opt ((tupOf v).bind twoOf) λ p=>bnd (stL x2 p.2) λ zz=>stL x1 p.1
noncomputable def fmtOf:Expr → Option Str
 | .FormattedValue e k s _=>bif decide (k = -1) && s.isNone then nameOf e else .none
 | _=>.none
noncomputable def jn (e:M PV) (r:M Unit):M Unit:=bnd e λ v=>opt (strOf v) λ z=>gd (decide (z.length ≤ 1000)) r
noncomputable def joined (f:Frm):List Expr → M Unit
 | []=>ret ()
 | e :: r=>onO (strK e) (λ x=>gd (decide (x.length ≤ 1000)) (joined f r)) (opt (fmtOf e) λ x=>jn (ldName K f x) (joined f r))
noncomputable def sq (s r:M Flw):M Flw:=bnd s (onFlw r)
noncomputable def retS (e:M PV):M Flw:=bnd e λ v=>ret (.ret v)
noncomputable def asg (e:M PV) (t:PV → M Unit):M Flw:=bnd e λ v=>bnd (t v) λ zz=>ret .nxt
noncomputable def expS (e:M PV):M Flw:=bnd e λ zz=>ret .nxt
noncomputable def forS (t:Bool) (it:M PV) (b:It → PV → M Flw):M Flw:=bnd it λ x=>bnd (iterV x) λ i=>gd (fitsB t i) (loopIt i (b i) turns 0)
noncomputable def fzip (t:Bool) (z p q:M PV) (b:PV → M Flw):M Flw:=bnd z λ zv=>bnd p λ x=>bnd q λ y=>gd (t && isTyp "zip" zv) (opt (refOf x) λ i=>opt (refOf y) λ j=>loopIt (.zip i j) b turns 0)
noncomputable def raiS (m:M Unit):M Flw:=bnd m λ zz=>λ c zz=>.exc c
noncomputable def tryR (r:Str) (x:R Flw):R Flw:=match x with
 | .exc c'=>.ok (.ret (.str r)) c' []
 | .ok v c l=>.ok v c l
 | .fail=>.fail
noncomputable def tryS (b:M Flw) (r:Str):M Flw:=λ c l=>tryR r (b c l)
noncomputable def joinOf:Expr → Option (List Expr)
 | .JoinedStr vs _=>some vs
 | _=>.none
noncomputable def headE {α:Type}:List α → Option α
 | []=>.none
 | x :: r=>bif r.isEmpty then some x else .none
noncomputable def raiseOf (e:Expr):Option (Str × List Expr):=(callOf e).bind λ p=>bif p.2.2.isEmpty then (nameOf p.1).bind λ x=>(headE p.2.1).bind λ a=>(joinOf a).map λ vs=>(x,vs) else .none
noncomputable def retOf:Stmt → Option Expr
 | .Return v _=>v
 | _=>.none
noncomputable def handOf:ExceptHandler → Option (Str × Str)
 | .ExceptHandler t n b _=>bif n.isNone then (t.bind nameOf).bind λ x=>((headE b).bind retOf).bind λ e=>(strK e).map λ r=>(x,r) else .none
mutual
noncomputable def exS:Nat → Bool → Frm → Stmt → M Flw
 | 0,_,_,_=>no
 | n + 1,ro,f,s=>match s with
  | .Return v _=>opt v λ e=>retS (evE K cf n ro f e)
  | .Assign ts e _=>one ts λ t=>gd (okAssign t e) (onO (swapOf f t e) (λ p=>asg (evE K cf n ro f e) (swp p.1 p.2)) (gd (plainT f t e) (asg (evE K cf n ro f e) (stTarget K cf n ro f t))))
  | .Expr e _=>gd (!isComp e) (expS (evE K cf n ro f e))
  | .If t a b _=>ifM (tst K cf n ro f t) (exL n ro f a) (exL n ro f b)
  | .While t b els _=>gd els.isEmpty (loopN (tst K cf n ro f t) (exL n ro f b) turns)
  | .For tg it b els _=>gd els.isEmpty (onO (isZip it) (λ p=>fzip (isTup tg) (ldName K f "zip") (evE K cf n ro f p.1) (evE K cf n ro f p.2) λ v=>bnd (stTarget K cf n ro f tg v) λ zz=>exL n ro f b)
   (gd (!isSet it) (forS (isTup tg) (evE K cf n ro f it) λ i v=>bnd (stTarget K cf n (ro || i.isRo) f tg v) λ zz=>exL n (ro || i.isRo) f b)))
  | .Raise ex cause _=>gd cause.isNone (opt (ex.bind raiseOf) λ p=>gd (isFault K f p.1 && !ro && decide (p.2.length ≤ 10)) (raiS (joined K f p.2)))
  | .Try b hs els fin _=>gd (els.isEmpty && fin.isEmpty) (opt ((headE hs).bind handOf) λ p=>gd (isFault K f p.1 && !ro) (tryS (exL n ro f b) p.2))
  | _=>no
noncomputable def exL:Nat → Bool → Frm → List Stmt → M Flw
 | 0,_,_,_=>no
 | n + 1,ro,f,ss=>match ss with
  | []=>ret .nxt
  | s :: r=>sq (exS n ro f s) (exL n ro f r)
end
end ev
noncomputable def boxes (binds:List (Str × PV)):List (Str × NameKind) → Cells
 | []=>[]
 | (x,k) :: r=>if k == .cell then .box (binds.lookup x) :: boxes binds r else boxes binds r
noncomputable def localsOf (scope:Scope):List (Str × PV) → Locs
 | []=>[]
 | (x,v) :: r=>if scope.names.lookup x = some .local then (x,v) :: localsOf scope r else localsOf scope r
noncomputable def fuel:Nat:=40
noncomputable def fin (r:R Flw):CR:=match r with
 | .ok w c' _=>match w with
  | .nxt=>.ok .none c'
  | .ret v=>.ok v c'
 | .exc c'=>.exc c'
 | .fail=>.fail
noncomputable def finE (r:R PV):CR:=match r with
 | .ok v c' _=>.ok v c'
 | .exc c'=>.exc c'
 | .fail=>.fail
noncomputable def newR (i:Nat) (r:CR):CR:=match r with
 | .ok v c'=>bif isNil v then .ok (.ref i) c' else .fail
 | .exc _=>.fail
 | .fail=>.fail
noncomputable def optC {α:Type} (o:Option α) (g:α → CR):CR:=match o with
 | some v=>g v
 | .none=>.fail
noncomputable def gdC (b:Bool) (r:CR):CR:=bif b then r else .fail
noncomputable def runFn (K:Tbl) (cf:Callee) (ro:Bool) (fd:Fn) (vs:List PV) (c:Cells):CR:=
 gdC (decide (vs.length = fd.params.length) && decide fd.params.Nodup && (fd.params.all λ x=>fd.scope.names.lookup x == some .local || fd.scope.names.lookup x == some .cell))
  (fin (exL K cf fuel ro ⟨fd.scope,cellsFrom c.length fd.scope.names [],fd.tab⟩ fd.body (c ++ boxes (fd.params.zip vs) fd.scope.names) (localsOf fd.scope (fd.params.zip vs))))
noncomputable def callFn (K:Tbl) (cf:Callee) (ro:Bool) (a:Addr) (vs:List PV) (c:Cells):CR:=match K.fn a with
 | some fd=>runFn K cf ro fd vs c
 | .none=>optC (K.cls a) λ k=>optC (K.fn k.init) λ fd=>gdC (!ro) (newR c.length (runFn K cf ro fd (.ref c.length :: vs) (c ++ [.inst a []])))
noncomputable def callLam (K:Tbl) (cf:Callee) (ro:Bool) (b:Expr) (s:Scope) (k:List (Str × Nat)) (vs:List PV) (c:Cells):CR:=gdC (vs.isEmpty && plainScope s) (finE (evE K cf fuel ro ⟨s,k,.none⟩ b c []))
noncomputable def callF (K:Tbl):Nat → Callee
 | 0,_,_,_,_=>.fail
 | d + 1,ro,f,vs,c=>match f with
  | .val v=>match v with
   | .ref a=>callFn K (callF K d) ro a vs c
   | _=>.fail
  | .clo b s k=>callLam K (callF K d) ro b s k vs c
  | _=>.fail
end Mine
end
section
open PySem
set_option backward.match.sparseCases false
namespace Mine
noncomputable def top:List Stmt:=PySem.Challenge.pw_nz0144_01.main.body
noncomputable def tabOfN (n:Str):Option (Addr × Addr):=if n = "_law_sort_deed" then some (523,521) else if n = "_law_function_deed" then some (528,526) else none
noncomputable def fnOfS (n:Str):Stmt → Option Fn
 | .FunctionDef m a b _ _ _ sc _ _ _=>if m = n then some ⟨a.args.map (·.arg),b,sc,tabOfN n⟩ else none
 | _=>none
noncomputable def bodyOfC (n:Str):Stmt → Option (List Stmt)
 | .ClassDef m _ _ b _ _ _ _ _ _ _=>if m = n then some b else none
 | _=>none
noncomputable def topFn (n:Str):Option Fn:=top.findSome? (fnOfS n)
noncomputable def methFn (c n:Str):Option Fn:=(top.findSome? (bodyOfC c)).bind λ b=>b.findSome? (fnOfS n)
noncomputable def fns:List (Addr × Str):=[(491,"_law_draw"),(498,"_law_picked"),(505,"_law_tried"),(512,"_law_is_free"),(519,"_law_brought"),(524,"_law_sort_deed"),(529,"_law_function_deed"),
 (536,"_law_back"),(543,"_law_scope_deed"),(548,"_law_binding_deed"),(553,"_law_stands"),(558,"law")]
noncomputable def bankMs:List (Str × Addr):=[("__init__",98),("sort_name",105),("declare_sort",112),("declare_fun",140),("fresh_const",154),("fun_name",161),("fun_result",175),("sort",203),("make",231),("true_term",266)]
noncomputable def symMs:List (Str × Addr):=[("__init__",366),("clear",373),("depth",380),("push",387),("pop",394),("mark",401),("roll_back",408),("bring_sort",415),("declare_sort",422),("define_sort",429),("bring_function",436),
 ("declare_fun",443),("define_fun",448),("visible",455),("bind",462),("unbind",469),("bound",476)]
noncomputable def seMs:List (Str × Addr):=[("__init__",317)]
noncomputable def feMs:List (Str × Addr):=[("__init__",338),("is_defined",345)]
noncomputable def nameAt (a:Addr):List (Str × Addr) → Option Str
 | []=>none
 | (n,b) :: r=>if b = a then some n else nameAt a r
noncomputable def fnT (a:Addr):Option Fn:=
 match fns.lookup a with
 | some n=>topFn n
 | none=>match nameAt a bankMs with
  | some n=>methFn "Bank" n
  | none=>match nameAt a symMs with
   | some n=>methFn "Symbols" n
   | none=>match nameAt a seMs with
    | some n=>methFn "SortEntry" n
    | none=>match nameAt a feMs with
     | some n=>methFn "FunEntry" n
     | none=>none
noncomputable def clsT (a:Addr):Option Cls:=
 if a = 297 then some ⟨98,["sort_names","sort_widths","fun_names","fun_args","fun_results","fresh_count","term_ops","term_args","term_sorts","term_datas","numbers","true_number","false_number"],bankMs⟩
 else if a = 320 then some ⟨317,["sort","params","body"],seMs⟩
 else if a = 348 then some ⟨338,["fun","arg_sorts","result","holders","body"],feMs⟩
 else if a = 479 then some ⟨366,["bank","sorts","functions","brought","scopes","lets","numeral_sort"],symMs⟩
 else none
noncomputable def asgS (n:Str):Stmt → Option Expr
 | .Assign [.Name m _] e _=>if m = n then some e else none
 | _=>none
noncomputable def strPV:Expr → PV
 | .Constant (.str s) _ _=>.str s
 | _=>.none
noncomputable def tupE:Nat → Expr → List PV
 | 0,_=>[]
 | n + 1,e=>match e with
  | .Tuple es _ _=>es.map strPV
  | .List es _=>es.map strPV
  | .BinOp a .Add b _=>tupE n a ++ tupE n b
  | .Name x _=>match top.findSome? (asgS x) with
   | some e=>tupE n e
   | none=>[]
  | _=>[]
noncomputable def textsOf (n:Str):List PV:=tupE 20 (.Name n default)
noncomputable def wordsL:List PV:=textsOf "WORDS"
noncomputable def sortsL:List PV:=textsOf "OWN_SORTS"
noncomputable def poolL:List PV:=textsOf "_law_pool"
noncomputable def ownL:List PV:=textsOf "OWN_NAMES"
noncomputable def globs:List (Str × PV):=[("SortFault",.val (.ref 67)),("BOOL",.int 0),("INT",.int 1),("Bank",.val (.ref 297)),("WORDS",.tup wordsL),("OWN_SORTS",.tup sortsL),("OWN_NAMES",.tup ownL),
 ("SortEntry",.val (.ref 320)),("FunEntry",.val (.ref 348)),("Symbols",.val (.ref 479)),("_law_pool",.klist poolL),
 ("_law_draw",.val (.ref 491)),("_law_picked",.val (.ref 498)),("_law_tried",.val (.ref 505)),("_law_is_free",.val (.ref 512)),("_law_brought",.val (.ref 519)),("_law_sort_deed",.val (.ref 524)),
 ("_law_function_deed",.val (.ref 529)),("_law_back",.val (.ref 536)),("_law_scope_deed",.val (.ref 543)),("_law_binding_deed",.val (.ref 548)),("_law_stands",.val (.ref 553)),
 ("len",.val (.builtin "len")),("abs",.val (.builtin "abs")),("sum",.val (.builtin "sum")),("int",.val (.type "int")),("tuple",.val (.type "tuple")),("dict",.val (.type "dict")),("list",.val (.type "list")),
 ("range",.val (.type "range")),("zip",.val (.type "zip"))]
noncomputable def tbl:Tbl:=⟨λ x=>globs.lookup x,fnT,clsT,67⟩
end Mine
end
section
section
open PySem
set_option backward.match.sparseCases false
namespace Mine
noncomputable def lamE:Expr → Option (Expr × Scope)
 | .Call _ as _ _=>match as with
  | []=>none
  | a :: _=>match a with
   | .Lambda _ b s _=>some (b,s)
   | _=>none
 | _=>none
mutual
noncomputable def lamS:Stmt → List (Expr × Scope)
 | .Assign _ e _=>(lamE e).toList
 | .If _ a b _=>lamL a ++ lamL b
 | _=>[]
noncomputable def lamL:List Stmt → List (Expr × Scope)
 | []=>[]
 | s :: r=>lamS s ++ lamL r
end
noncomputable def lam (a:Addr) (k:Nat) (fc:List (Str × Nat)):PV:=(((fnT a).bind λ fd=>(lamL fd.body)[k]?).map λ p=>PV.clo p.1 p.2 fc).getD .none
set_option genCtorIdx true in
inductive Ty where
 | e | t | l | d | s | ss | u
noncomputable abbrev Ty.V:Ty → Type
 | .e=>PV
 | .t=>Bool
 | .l=>List PV
 | .d=>List (Key × PV)
 | _=>Unit
noncomputable abbrev Ty.X:Ty → Type
 | .s=>PV
 | .ss=>List PV
 | _=>Unit
inductive G:Ty → Type
 | k (v:PV):G .e
 | loc (x:Str):G .e
 | box (i:Nat):G .e
 | bin (op:Operator) (a b:G .e):G .e
 | cmp (op:CmpOp) (a b:G .e):G .e
 | opV (op:BoolOp) (a b:G .e):G .e
 | ife (t:G .t) (a b:G .e):G .e
 | tup (l:G .l):G .e
 | lst (l:G .l):G .e
 | dct (d:G .d):G .e
 | emp:G .e
 | attr (o:G .e) (a:Str):G .e
 | sub (o i:G .e):G .e
 | slc (o i:G .e):G .e
 | meth (o:G .e) (a:Str) (l:G .l):G .e
 | call (f:G .e) (l:G .l):G .e
 | zip (f z p q:G .e):G .e
 | comp (tg:Bool) (it:G .e) (st:G .s) (x:G .e):G .e
 | lam (a k:Nat) (fc:List (Str × Nat)):G .e
 | nt (t:G .t):G .t
 | bop (op:BoolOp) (t r:G .t):G .t
 | tend (op:BoolOp):G .t
 | cmpT (op:CmpOp) (a b:G .e):G .t
 | val (e:G .e):G .t
 | nil:G .l
 | cons (e:G .e) (l:G .l):G .l
 | dnil:G .d
 | dcons (k:Str) (e:G .e) (d:G .d):G .d
 | sl (x:Str):G .s
 | sb (i:Nat):G .s
 | sa (o:G .e) (a:Str):G .s
 | si (o i:G .e):G .s
 | stup (n:Nat) (ss:G .ss):G .s
 | snil:G .ss
 | scons (s:G .s) (r:G .ss):G .ss
 | jend:G .u
 | jn (e:G .e) (u:G .u):G .u
inductive F where
 | sq (s r:F)
 | done
 | ret (e:G .e)
 | asg (e:G .e) (s:G .s)
 | swp (e:G .e) (a b:Str)
 | exp (e:G .e)
 | iff (t:G .t) (a b:F)
 | whl (t:G .t) (b:F)
 | for (tg:Bool) (it:G .e) (st:G .s) (b:F)
 | fzp (tg:Bool) (z p q:G .e) (st:G .s) (b:F)
 | rai (u:G .u)
 | tri (b:F) (r:Str)
structure In where
 cf:Callee
 ro:Bool
 b:Nat → Nat
noncomputable abbrev In.it (I:In) (i:It):In:={ I with ro:=I.ro || i.isRo }
noncomputable def den:{τ:Ty} → G τ → In → τ.X → M τ.V
 | _,.k v,_,_=>ret v
 | _,.loc x,_,_=>ldL x
 | _,.box i,I,_=>ldB (I.b i)
 | _,.bin op a b,I,_=>bin op (den a I ()) (den b I ())
 | _,.cmp op a b,I,_=>cmpE op (den a I ()) (den b I ())
 | _,.opV op a b,I,_=>opV op (den a I ()) (den b I ())
 | _,.ife t a b,I,_=>ifM (den t I ()) (den a I ()) (den b I ())
 | _,.tup l,I,_=>tupM (den l I ())
 | _,.lst l,I,_=>lstM (den l I ())
 | _,.dct d,I,_=>dctM (den d I ())
 | _,.emp,_,_=>newCell (.dict [])
 | _,.attr o a,I,_=>attr tbl (den o I ()) a
 | _,.sub o i,I,_=>sub (den o I ()) (den i I ())
 | _,.slc o i,I,_=>slc (den o I ()) (den i I ())
 | _,.meth o a l,I,_=>meth tbl I.cf I.ro (den o I ()) a (den l I ())
 | _,.call f l,I,_=>calN I.cf I.ro (den f I ()) (den l I ())
 | _,.zip f z p q,I,_=>zipM (den f I ()) (den z I ()) (den p I ()) (den q I ())
 | _,.comp tg it st x,I,_=>cprM tg (den it I ()) λ i v=>bnd (den st (I.it i) v) λ zz=>den x (I.it i) ()
 | _,.lam a k fc,I,_=>ret (Mine.lam a k (fc.map λ p=>(p.1,I.b p.2)))
 | _,.nt t,I,_=>notM (den t I ())
 | _,.bop op t r,I,_=>bopT op (den t I ()) (den r I ())
 | _,.tend op,_,_=>ret (op == .And)
 | _,.cmpT op a b,I,_=>cmpB op (den a I ()) (den b I ())
 | _,.val e,I,_=>valT (den e I ())
 | _,.nil,_,_=>ret []
 | _,.cons e l,I,_=>consM (den e I ()) (den l I ())
 | _,.dnil,_,_=>ret []
 | _,.dcons k e d,I,_=>dCons k (den e I ()) (den d I ())
 | _,.sl x,_,v=>stL x v
 | _,.sb i,I,v=>stB I.ro (I.b i) v
 | _,.sa o a,I,v=>stA tbl I.ro (den o I ()) a v
 | _,.si o i,I,v=>stI I.ro (den o I ()) (den i I ()) v
 | _,.stup n ss,I,v=>tupT n true (den ss I) v
 | _,.snil,_,vs=>nilT vs
 | _,.scons s r,I,vs=>consT (den s I) (den r I) vs
 | _,.jend,_,_=>ret ()
 | _,.jn e u,I,_=>jn (den e I ()) (den u I ())
noncomputable def denF:F → In → M Flw
 | .sq s r,I=>sq (denF s I) (denF r I)
 | .done,_=>ret .nxt
 | .ret e,I=>retS (den e I ())
 | .asg e s,I=>asg (den e I ()) (den s I)
 | .swp e a b,I=>asg (den e I ()) (swp a b)
 | .exp e,I=>expS (den e I ())
 | .iff t a b,I=>ifM (den t I ()) (denF a I) (denF b I)
 | .whl t b,I=>loopN (den t I ()) (denF b I) turns
 | .for tg it st b,I=>forS tg (den it I ()) λ i v=>bnd (den st (I.it i) v) λ zz=>denF b (I.it i)
 | .fzp tg z p q st b,I=>fzip tg (den z I ()) (den p I ()) (den q I ()) λ v=>bnd (den st I v) λ zz=>denF b I
 | .rai u,I=>gd (!I.ro && true) (raiS (den u I ()))
 | .tri b r,I=>gd (!I.ro) (tryS (denF b I) r)
end Mine
end
section
open PySem
set_option backward.match.sparseCases false
namespace Mine
noncomputable abbrev fnI (d:Nat) (ro:Bool) (n:Nat):In:=⟨callF tbl d,ro,λ k=>n + k⟩
noncomputable abbrev lamI (d:Nat) (l:List Nat):In:=⟨callF tbl d,false,λ k=>l[k]?.getD 0⟩
noncomputable def finC (i:Nat) (r:R Flw):CR:=newR i (fin r)
noncomputable def P491:F:=
 (.sq (.asg (.bin .Add (.sub (.loc "feed") (.k (.str "at"))) (.k (.int 1))) (.si (.loc "feed") (.k (.str "at")))) 
 (.sq (.asg (.sub (.loc "feed") (.k (.str "at"))) (.sl "here")) 
 (.sq (.iff (.cmpT .LtE (.loc "here") (.call (.k (.val (.builtin "len"))) (.cons (.sub (.loc "feed") (.k (.str "cells"))) .nil))) (.sq (.ret (.bin .Mod (.sub (.sub (.loc "feed") (.k (.str "cells"))) (.bin .Sub (.loc "here") (.k (.int 1)))) (.loc "wide"))) .done) .done) 
 (.sq (.ret (.bin .Mod (.bin .FloorDiv (.bin .Add (.bin .Add (.bin .Mult (.bin .Mult (.k (.int 7)) (.loc "here")) (.loc "here")) (.bin .Mult (.k (.int 3)) (.loc "here"))) (.sub (.loc "feed") (.k (.str "sum")))) (.k (.int 2))) (.loc "wide"))) .done))))
theorem o491 (d:Nat) (x0 x1:PV) (c:Cells):callF tbl (d + 1) false (.val (.ref 491)) [x0,x1] c = fin (denF P491 (fnI d false c.length) (c ++ []) [("feed",x0),("wide",x1)]):=by kernel_rfl
noncomputable def P498:F:=
 (.sq (.ret (.sub (.loc "some") (.call (.k (.val (.ref 491))) (.cons (.loc "feed") (.cons (.call (.k (.val (.builtin "len"))) (.cons (.loc "some") .nil)) .nil))))) .done)
theorem o498 (d:Nat) (x0 x1:PV) (c:Cells):callF tbl (d + 1) false (.val (.ref 498)) [x0,x1] c = fin (denF P498 (fnI d false c.length) (c ++ []) [("feed",x0),("some",x1)]):=by kernel_rfl
noncomputable def P505:F:=
 (.sq (.tri (.sq (.ret (.call (.loc "deed") .nil)) .done) "refused") .done)
theorem o505 (d:Nat) (x0:PV) (c:Cells):callF tbl (d + 1) false (.val (.ref 505)) [x0] c = fin (denF P505 (fnI d false c.length) (c ++ []) [("deed",x0)]):=by kernel_rfl
noncomputable def P512:F:=
 (.sq (.asg (.ife (.cmpT .Eq (.loc "place") (.k (.int 0))) (.lst (.cons (.k (.str "Int")) (.cons (.k (.str "let")) (.cons (.k (.str "par")) .nil)))) (.lst (.cons (.k (.str "let")) (.cons (.k (.str "and")) (.cons (.k (.str "par")) .nil))))) (.sl "own")) 
 (.sq (.ret (.opV .And (.cmp .NotIn (.loc "name") (.loc "own")) (.cmp .NotIn (.loc "name") (.sub (.sub (.sub (.loc "world") (.k (.str "pictures"))) (.k (.int (-1)))) (.loc "place"))))) .done))
theorem o512 (d:Nat) (x0 x1 x2:PV) (c:Cells):callF tbl (d + 1) false (.val (.ref 512)) [x0,x1,x2] c = fin (denF P512 (fnI d false c.length) (c ++ []) [("world",x0),("name",x1),("place",x2)]):=by kernel_rfl
noncomputable def P519:F:=
 (.sq (.asg (.sub (.sub (.loc "world") (.k (.str "pictures"))) (.k (.int (-1)))) (.sl "last")) 
 (.sq (.asg (.lst (.cons (.call (.k (.val (.type "dict"))) (.cons (.sub (.loc "last") (.k (.int 0))) .nil)) (.cons (.call (.k (.val (.type "dict"))) (.cons (.sub (.loc "last") (.k (.int 1))) .nil)) .nil))) (.sl "both")) 
 (.sq (.asg (.loc "row") (.si (.sub (.loc "both") (.loc "place")) (.loc "name"))) 
 (.sq (.exp (.meth (.sub (.loc "world") (.k (.str "pictures"))) "append" (.cons (.tup (.cons (.sub (.loc "both") (.k (.int 0))) (.cons (.sub (.loc "both") (.k (.int 1))) (.cons (.bin .Add (.sub (.loc "last") (.k (.int 2))) (.loc "seen")) .nil)))) .nil))) .done))))
theorem o519 (d:Nat) (x0 x1 x2 x3 x4:PV) (c:Cells):callF tbl (d + 1) false (.val (.ref 519)) [x0,x1,x2,x3,x4] c = fin (denF P519 (fnI d false c.length) (c ++ []) [("world",x0),("name",x1),("place",x2),("row",x3),("seen",x4)]):=by kernel_rfl
noncomputable def P524:F:=
 (.sq (.asg (.tup (.cons (.sub (.loc "world") (.k (.str "symbols"))) (.cons (.call (.k (.val (.ref 498))) (.cons (.box 0) (.cons (.k (.klist poolL)) .nil))) .nil))) (.stup 2 (.scons (.sb 4) (.scons (.sb 2) .snil)))) 
 (.sq (.iff (.cmpT .Eq (.call (.k (.val (.ref 491))) (.cons (.box 0) (.cons (.k (.int 2)) .nil))) (.k (.int 0))) (.sq (.asg (.call (.k (.val (.ref 505))) (.cons (.lam 524 0 [("name",2),("symbols",4)]) .nil)) (.sl "told")) 
 (.sq (.iff (.nt (.val (.call (.k (.val (.ref 512))) (.cons (.loc "world") (.cons (.box 2) (.cons (.k (.int 0)) .nil)))))) (.sq (.ret (.cmp .Eq (.loc "told") (.k (.str "refused")))) .done) .done) 
 (.sq (.asg (.sub (.loc "world") (.k (.str "sorts"))) (.sl "number")) 
 (.sq (.asg (.bin .Add (.loc "number") (.k (.int 1))) (.si (.loc "world") (.k (.str "sorts")))) 
 (.sq (.exp (.call (.k (.val (.ref 519))) (.cons (.loc "world") (.cons (.box 2) (.cons (.k (.int 0)) (.cons (.tup (.cons (.loc "number") (.cons (.tup .nil) (.cons (.k .none) .nil)))) (.cons (.lst .nil) .nil))))))) 
 (.sq (.ret (.opV .And (.cmp .Eq (.loc "told") (.loc "number")) (.cmp .Eq (.meth (.sub (.loc "world") (.k (.str "bank"))) "sort_name" (.cons (.loc "number") .nil)) (.box 2)))) .done)))))) .done) 
 (.sq (.asg (.call (.k (.val (.type "tuple"))) (.cons (.comp false (.call (.k (.val (.type "range"))) (.cons (.call (.k (.val (.ref 491))) (.cons (.box 0) (.cons (.k (.int 3)) .nil))) .nil)) (.sl "lap") (.call (.k (.val (.ref 498))) (.cons (.box 0) (.cons (.lst (.cons (.k (.str "X")) (.cons (.k (.str "S")) (.cons (.k (.str "Y")) (.cons (.k (.str "Bool")) .nil))))) .nil)))) .nil)) (.sb 3)) 
 (.sq (.asg (.call (.k (.val (.ref 498))) (.cons (.box 0) (.cons (.lst (.cons (.tup (.cons (.k (.str "sym")) (.cons (.k (.str "X")) .nil))) (.cons (.tup (.cons (.k (.str "list")) (.cons (.tup (.cons (.tup (.cons (.k (.str "sym")) (.cons (.k (.str "T")) .nil))) (.cons (.tup (.cons (.k (.str "sym")) (.cons (.k (.str "X")) .nil))) .nil))) .nil))) (.cons (.tup (.cons (.k (.str "num")) (.cons (.k (.int 3)) .nil))) .nil)))) .nil))) (.sb 1)) 
 (.sq (.asg (.call (.k (.val (.ref 505))) (.cons (.lam 524 1 [("body",1),("name",2),("params",3),("symbols",4)]) .nil)) (.sl "told")) 
 (.sq (.iff (.bop .Or (.cmpT .In (.k (.str "Bool")) (.box 3)) (.bop .Or (.nt (.val (.call (.k (.val (.ref 512))) (.cons (.loc "world") (.cons (.box 2) (.cons (.k (.int 0)) .nil)))))) (.tend .Or))) (.sq (.ret (.cmp .Eq (.loc "told") (.k (.str "refused")))) .done) .done) 
 (.sq (.exp (.call (.k (.val (.ref 519))) (.cons (.loc "world") (.cons (.box 2) (.cons (.k (.int 0)) (.cons (.tup (.cons (.k (.int 0)) (.cons (.box 3) (.cons (.box 1) .nil)))) (.cons (.lst .nil) .nil))))))) 
 (.sq (.ret (.cmp .Is (.loc "told") (.k .none))) .done))))))))
theorem o524 (d:Nat) (x0 x1:PV) (c:Cells):callF tbl (d + 1) false (.val (.ref 524)) [x0,x1] c = fin (denF P524 (fnI d false c.length) (c ++ [.box (some x0),.box .none,.box .none,.box .none,.box .none]) [("world",x1)]):=by kernel_rfl
noncomputable def L524_0:G .e:=
 .meth (.box 1) "declare_sort" (.cons (.box 0) .nil)
theorem ol524_0 (d:Nat) (i0 i1:Nat) (c:Cells):callF tbl (d + 1) false (lam 524 0 [("name",i0),("symbols",i1)]) [] c = finE (den L524_0 (lamI d [i0,i1]) () c []):=by kernel_rfl
noncomputable def L524_1:G .e:=
 .meth (.box 3) "define_sort" (.cons (.box 1) (.cons (.box 2) (.cons (.box 0) .nil)))
theorem ol524_1 (d:Nat) (i0 i1 i2 i3:Nat) (c:Cells):callF tbl (d + 1) false (lam 524 1 [("body",i0),("name",i1),("params",i2),("symbols",i3)]) [] c = finE (den L524_1 (lamI d [i0,i1,i2,i3]) () c []):=by kernel_rfl
noncomputable def P529:F:=
 (.sq (.asg (.tup (.cons (.sub (.box 1) (.k (.str "symbols"))) (.cons (.sub (.box 1) (.k (.str "bank"))) (.cons (.call (.k (.val (.ref 498))) (.cons (.box 0) (.cons (.k (.klist poolL)) .nil))) .nil)))) (.stup 3 (.scons (.sb 6) (.scons (.sl "bank") (.scons (.sb 5) .snil))))) 
 (.sq (.iff (.val (.loc "is_declared")) (.sq (.asg (.tup (.cons (.comp false (.call (.k (.val (.type "range"))) (.cons (.call (.k (.val (.ref 491))) (.cons (.box 0) (.cons (.k (.int 3)) .nil))) .nil)) (.sl "lap") (.call (.k (.val (.ref 491))) (.cons (.box 0) (.cons (.k (.int 3)) .nil)))) (.cons (.call (.k (.val (.ref 491))) (.cons (.box 0) (.cons (.k (.int 3)) .nil))) .nil))) (.stup 2 (.scons (.sb 7) (.scons (.sb 4) .snil)))) 
 (.sq (.asg (.call (.k (.val (.ref 505))) (.cons (.lam 529 0 [("last",4),("name",5),("symbols",6),("wanted",7)]) .nil)) (.sl "told")) 
 (.sq (.iff (.nt (.val (.call (.k (.val (.ref 512))) (.cons (.box 1) (.cons (.box 5) (.cons (.k (.int 1)) .nil)))))) (.sq (.ret (.cmp .Eq (.loc "told") (.k (.str "refused")))) .done) .done) 
 (.sq (.asg (.sub (.box 1) (.k (.str "functions"))) (.sl "number")) 
 (.sq (.asg (.bin .Add (.loc "number") (.k (.int 1))) (.si (.box 1) (.k (.str "functions")))) 
 (.sq (.exp (.call (.k (.val (.ref 519))) (.cons (.box 1) (.cons (.box 5) (.cons (.k (.int 1)) (.cons (.tup (.cons (.loc "number") (.cons (.call (.k (.val (.type "tuple"))) (.cons (.box 7) .nil)) (.cons (.box 4) (.cons (.tup .nil) (.cons (.k (.int 0)) .nil)))))) (.cons (.lst (.cons (.tup (.cons (.box 5) (.cons (.loc "number") (.cons (.call (.k (.val (.type "tuple"))) (.cons (.box 7) .nil)) (.cons (.box 4) .nil))))) .nil)) .nil))))))) 
 (.sq (.ret (.opV .And (.cmp .Eq (.loc "told") (.loc "number")) (.cmp .Eq (.tup (.cons (.meth (.loc "bank") "fun_name" (.cons (.loc "number") .nil)) (.cons (.meth (.loc "bank") "fun_result" (.cons (.loc "number") .nil)) .nil))) (.tup (.cons (.box 5) (.cons (.box 4) .nil)))))) .done))))))) .done) 
 (.sq (.asg (.comp false (.call (.k (.val (.type "range"))) (.cons (.call (.k (.val (.ref 491))) (.cons (.box 0) (.cons (.k (.int 3)) .nil))) .nil)) (.sl "lap") (.call (.k (.val (.ref 498))) (.cons (.box 0) (.cons (.sub (.box 1) (.k (.str "terms"))) .nil)))) (.sb 3)) 
 (.sq (.asg (.call (.k (.val (.ref 498))) (.cons (.box 0) (.cons (.sub (.box 1) (.k (.str "terms"))) .nil))) (.sb 2)) 
 (.sq (.asg (.call (.k (.val (.ref 505))) (.cons (.lam 529 1 [("body",2),("holders",3),("name",5),("symbols",6)]) .nil)) (.sl "told")) 
 (.sq (.iff (.nt (.val (.call (.k (.val (.ref 512))) (.cons (.box 1) (.cons (.box 5) (.cons (.k (.int 1)) .nil)))))) (.sq (.ret (.cmp .Eq (.loc "told") (.k (.str "refused")))) .done) .done) 
 (.sq (.asg (.call (.k (.val (.type "tuple"))) (.cons (.comp false (.box 3) (.sl "holder") (.sub (.sub (.box 1) (.k (.str "kinds"))) (.loc "holder"))) .nil)) (.sb 7)) 
 (.sq (.exp (.call (.k (.val (.ref 519))) (.cons (.box 1) (.cons (.box 5) (.cons (.k (.int 1)) (.cons (.tup (.cons (.k (.int (-1))) (.cons (.box 7) (.cons (.sub (.sub (.box 1) (.k (.str "kinds"))) (.box 2)) (.cons (.call (.k (.val (.type "tuple"))) (.cons (.box 3) .nil)) (.cons (.box 2) .nil)))))) (.cons (.lst .nil) .nil))))))) 
 (.sq (.ret (.cmp .Is (.loc "told") (.k .none))) .done)))))))))
theorem o529 (d:Nat) (x0 x1 x2:PV) (c:Cells):callF tbl (d + 1) false (.val (.ref 529)) [x0,x1,x2] c = fin (denF P529 (fnI d false c.length) (c ++ [.box (some x0),.box (some x1),.box .none,.box .none,.box .none,.box .none,.box .none,.box .none]) [("is_declared",x2)]):=by kernel_rfl
noncomputable def L529_0:G .e:=
 .meth (.box 2) "declare_fun" (.cons (.box 1) (.cons (.box 3) (.cons (.box 0) .nil)))
theorem ol529_0 (d:Nat) (i0 i1 i2 i3:Nat) (c:Cells):callF tbl (d + 1) false (lam 529 0 [("last",i0),("name",i1),("symbols",i2),("wanted",i3)]) [] c = finE (den L529_0 (lamI d [i0,i1,i2,i3]) () c []):=by kernel_rfl
noncomputable def L529_1:G .e:=
 .meth (.box 3) "define_fun" (.cons (.box 2) (.cons (.box 1) (.cons (.box 0) .nil)))
theorem ol529_1 (d:Nat) (i0 i1 i2 i3:Nat) (c:Cells):callF tbl (d + 1) false (lam 529 1 [("body",i0),("holders",i1),("name",i2),("symbols",i3)]) [] c = finE (den L529_1 (lamI d [i0,i1,i2,i3]) () c []):=by kernel_rfl
noncomputable def P536:F:=
 (.sq (.asg (.slc (.sub (.loc "world") (.k (.str "pictures"))) (.bin .Add (.loc "many") (.k (.int 1)))) (.si (.loc "world") (.k (.str "pictures")))) .done)
theorem o536 (d:Nat) (x0 x1:PV) (c:Cells):callF tbl (d + 1) false (.val (.ref 536)) [x0,x1] c = fin (denF P536 (fnI d false c.length) (c ++ []) [("world",x0),("many",x1)]):=by kernel_rfl
noncomputable def P543:F:=
 (.sq (.swp (.tup (.cons (.sub (.loc "world") (.k (.str "symbols"))) (.cons (.call (.k (.val (.ref 491))) (.cons (.loc "feed") (.cons (.k (.int 4)) .nil))) .nil))) "symbols" "way") 
 (.sq (.iff (.bop .And (.cmpT .Eq (.loc "way") (.k (.int 1))) (.bop .And (.cmpT .NotEq (.sub (.loc "world") (.k (.str "scopes"))) (.lst .nil)) (.tend .And))) (.sq (.exp (.meth (.loc "symbols") "pop" .nil)) 
 (.sq (.exp (.call (.k (.val (.ref 536))) (.cons (.loc "world") (.cons (.meth (.sub (.loc "world") (.k (.str "scopes"))) "pop" .nil) .nil)))) .done)) (.sq (.iff (.cmpT .Eq (.loc "way") (.k (.int 2))) (.sq (.exp (.meth (.sub (.loc "world") (.k (.str "marks"))) "append" (.cons (.meth (.loc "symbols") "mark" .nil) .nil))) .done) (.sq (.iff (.bop .And (.cmpT .Eq (.loc "way") (.k (.int 3))) (.bop .And (.cmpT .NotEq (.sub (.loc "world") (.k (.str "marks"))) (.lst .nil)) (.tend .And))) (.sq (.asg (.call (.k (.val (.ref 498))) (.cons (.loc "feed") (.cons (.sub (.loc "world") (.k (.str "marks"))) .nil))) (.sl "many")) 
  (.sq (.exp (.meth (.loc "symbols") "roll_back" (.cons (.loc "many") .nil))) 
  (.sq (.exp (.call (.k (.val (.ref 536))) (.cons (.loc "world") (.cons (.loc "many") .nil)))) .done))) (.sq (.exp (.meth (.loc "symbols") "push" .nil)) 
  (.sq (.exp (.meth (.sub (.loc "world") (.k (.str "scopes"))) "append" (.cons (.bin .Sub (.call (.k (.val (.builtin "len"))) (.cons (.sub (.loc "world") (.k (.str "pictures"))) .nil)) (.k (.int 1))) .nil))) .done))) .done)) .done)) 
 (.sq (.ret (.k (.bool true))) .done)))
theorem o543 (d:Nat) (x0 x1:PV) (c:Cells):callF tbl (d + 1) false (.val (.ref 543)) [x0,x1] c = fin (denF P543 (fnI d false c.length) (c ++ []) [("feed",x0),("world",x1)]):=by kernel_rfl
noncomputable def P548:F:=
 (.sq (.swp (.tup (.cons (.sub (.box 1) (.k (.str "symbols"))) (.cons (.call (.k (.val (.ref 491))) (.cons (.box 0) (.cons (.k (.int 5)) .nil))) .nil))) "symbols" "way") 
 (.sq (.iff (.cmpT .Lt (.loc "way") (.k (.int 3))) (.sq (.asg (.comp false (.call (.k (.val (.type "range"))) (.cons (.bin .Add (.k (.int 1)) (.call (.k (.val (.ref 491))) (.cons (.box 0) (.cons (.k (.int 2)) .nil)))) .nil)) (.sl "lap") (.call (.k (.val (.ref 498))) (.cons (.box 0) (.cons (.k (.klist poolL)) .nil)))) (.sl "names")) 
 (.sq (.asg (.comp false (.loc "names") (.sl "name") (.call (.k (.val (.ref 498))) (.cons (.box 0) (.cons (.sub (.box 1) (.k (.str "terms"))) .nil)))) (.sl "some")) 
 (.sq (.exp (.meth (.loc "symbols") "bind" (.cons (.loc "names") (.cons (.loc "some") .nil)))) 
 (.sq (.exp (.meth (.sub (.box 1) (.k (.str "bound"))) "append" (.cons (.zip (.k (.val (.type "list"))) (.k (.val (.type "zip"))) (.loc "names") (.loc "some")) .nil))) .done)))) (.sq (.iff (.cmpT .Eq (.loc "way") (.k (.int 3))) (.sq (.asg (.call (.k (.val (.ref 491))) (.cons (.box 0) (.cons (.bin .Add (.call (.k (.val (.builtin "len"))) (.cons (.sub (.box 1) (.k (.str "bound"))) .nil)) (.k (.int 2))) .nil))) (.sl "many")) 
  (.sq (.exp (.meth (.loc "symbols") "unbind" (.cons (.loc "many") .nil))) 
  (.sq (.asg (.slc (.sub (.box 1) (.k (.str "bound"))) (.loc "many")) (.si (.box 1) (.k (.str "bound")))) .done))) (.sq (.exp (.meth (.loc "symbols") "clear" .nil)) 
  (.sq (.asg (.tup (.cons (.lst (.cons (.tup (.cons (.emp) (.cons (.emp) (.cons (.lst .nil) .nil)))) .nil)) (.cons (.lst .nil) (.cons (.lst .nil) .nil)))) (.stup 3 (.scons (.si (.box 1) (.k (.str "pictures"))) (.scons (.si (.box 1) (.k (.str "scopes"))) (.scons (.si (.box 1) (.k (.str "bound"))) .snil))))) .done))) .done)) 
 (.sq (.ret (.k (.bool true))) .done)))
theorem o548 (d:Nat) (x0 x1:PV) (c:Cells):callF tbl (d + 1) false (.val (.ref 548)) [x0,x1] c = fin (denF P548 (fnI d false c.length) (c ++ [.box (some x0),.box (some x1)]) []):=by kernel_rfl
noncomputable def P553:F:=
 (.sq (.swp (.tup (.cons (.sub (.loc "world") (.k (.str "symbols"))) (.cons (.sub (.sub (.loc "world") (.k (.str "pictures"))) (.k (.int (-1)))) .nil))) "symbols" "last") 
 (.sq (.asg (.call (.k (.val (.type "dict"))) (.cons (.comp true (.meth (.attr (.loc "symbols") "sorts") "items" .nil) (.stup 2 (.scons (.sl "name") (.scons (.sl "one") .snil))) (.tup (.cons (.loc "name") (.cons (.tup (.cons (.attr (.loc "one") "sort") (.cons (.attr (.loc "one") "params") (.cons (.attr (.loc "one") "body") .nil)))) .nil)))) .nil)) (.sl "had")) 
 (.sq (.asg (.meth (.attr (.loc "symbols") "functions") "items" .nil) (.sl "more")) 
 (.sq (.asg (.call (.k (.val (.type "dict"))) (.cons (.comp true (.loc "more") (.stup 2 (.scons (.sl "name") (.scons (.sl "one") .snil))) (.tup (.cons (.loc "name") (.cons (.tup (.cons (.attr (.loc "one") "fun") (.cons (.attr (.loc "one") "arg_sorts") (.cons (.attr (.loc "one") "result") (.cons (.attr (.loc "one") "holders") (.cons (.attr (.loc "one") "body") .nil)))))) .nil)))) .nil)) (.sl "calls")) 
 (.sq (.iff (.bop .Or (.cmpT .NotEq (.loc "had") (.sub (.loc "last") (.k (.int 0)))) (.bop .Or (.cmpT .NotEq (.loc "calls") (.sub (.loc "last") (.k (.int 1)))) (.bop .Or (.cmpT .NotEq (.meth (.loc "symbols") "visible" .nil) (.sub (.loc "last") (.k (.int 2)))) (.tend .Or)))) (.sq (.ret (.k (.bool false))) .done) .done) 
 (.sq (.iff (.cmpT .NotEq (.comp true (.loc "more") (.stup 2 (.scons (.sl "name") (.scons (.sl "one") .snil))) (.meth (.loc "one") "is_defined" .nil)) (.comp true (.meth (.sub (.loc "last") (.k (.int 1))) "items" .nil) (.stup 2 (.scons (.sl "name") (.scons (.sl "row") .snil))) (.cmp .NotEq (.sub (.loc "row") (.k (.int 4))) (.k (.int 0))))) (.sq (.ret (.k (.bool false))) .done) .done) 
 (.sq (.iff (.bop .Or (.cmpT .NotEq (.meth (.loc "symbols") "depth" .nil) (.call (.k (.val (.builtin "len"))) (.cons (.sub (.loc "world") (.k (.str "scopes"))) .nil))) (.bop .Or (.cmpT .NotEq (.meth (.loc "symbols") "mark" .nil) (.bin .Sub (.call (.k (.val (.builtin "len"))) (.cons (.sub (.loc "world") (.k (.str "pictures"))) .nil)) (.k (.int 1)))) (.tend .Or))) (.sq (.ret (.k (.bool false))) .done) .done) 
 (.sq (.for false (.k (.klist poolL)) (.sl "name") (.sq (.asg (.k (.int 0)) (.sl "due")) 
 (.sq (.for false (.sub (.loc "world") (.k (.str "bound"))) (.sl "rows") (.sq (.for true (.loc "rows") (.stup 2 (.scons (.sl "other") (.scons (.sl "t") .snil))) (.sq (.asg (.ife (.cmpT .Eq (.loc "other") (.loc "name")) (.loc "t") (.loc "due")) (.sl "due")) .done)) .done)) 
 (.sq (.iff (.cmpT .NotEq (.meth (.loc "symbols") "bound" (.cons (.loc "name") .nil)) (.loc "due")) (.sq (.ret (.k (.bool false))) .done) .done) .done)))) 
 (.sq (.ret (.k (.bool true))) .done)))))))))
theorem o553 (d:Nat) (x0:PV) (c:Cells):callF tbl (d + 1) false (.val (.ref 553)) [x0] c = fin (denF P553 (fnI d false c.length) (c ++ []) [("world",x0)]):=by kernel_rfl
noncomputable def P558:F:=
 (.sq (.asg (.comp false (.slc (.loc "script") (.k (.int 40))) (.sl "this") (.call (.k (.val (.type "int"))) (.cons (.loc "this") .nil))) (.sl "cells")) 
 (.sq (.asg (.dct (.dcons "cells" (.loc "cells") (.dcons "at" (.k (.int 0)) (.dcons "sum" (.call (.k (.val (.builtin "sum"))) (.cons (.comp false (.loc "cells") (.sl "this") (.bin .Mod (.call (.k (.val (.builtin "abs"))) (.cons (.loc "this") .nil)) (.k (.int 1009)))) .nil)) .dnil)))) (.sl "feed")) 
 (.sq (.asg (.call (.k (.val (.ref 297))) .nil) (.sl "bank")) 
 (.sq (.asg (.lst (.cons (.meth (.loc "bank") "fresh_const" (.cons (.k (.str "c")) (.cons (.k (.int 0)) .nil))) (.cons (.meth (.loc "bank") "fresh_const" (.cons (.k (.str "d")) (.cons (.k (.int 1)) .nil))) (.cons (.meth (.loc "bank") "fresh_const" (.cons (.k (.str "e")) (.cons (.k (.int 2)) .nil))) (.cons (.meth (.loc "bank") "true_term" .nil) .nil))))) (.sl "terms_now")) 
 (.sq (.asg (.dct (.dcons "bank" (.loc "bank") (.dcons "symbols" (.call (.k (.val (.ref 479))) (.cons (.loc "bank") .nil)) (.dcons "terms" (.loc "terms_now") (.dcons "kinds" (.zip (.k (.val (.type "dict"))) (.k (.val (.type "zip"))) (.loc "terms_now") (.lst (.cons (.k (.int 0)) (.cons (.k (.int 1)) (.cons (.k (.int 2)) (.cons (.k (.int 0)) .nil)))))) .dnil))))) (.sl "world")) 
 (.sq (.exp (.meth (.loc "world") "update" (.cons (.dct (.dcons "pictures" (.lst (.cons (.tup (.cons (.emp) (.cons (.emp) (.cons (.lst .nil) .nil)))) .nil)) (.dcons "scopes" (.lst .nil) (.dcons "marks" (.lst .nil) (.dcons "bound" (.lst .nil) (.dcons "sorts" (.k (.int 3)) (.dcons "functions" (.k (.int 3)) .dnil))))))) .nil))) 
 (.sq (.for false (.call (.k (.val (.type "range"))) (.cons (.bin .Add (.k (.int 6)) (.call (.k (.val (.ref 491))) (.cons (.loc "feed") (.cons (.k (.int 7)) .nil)))) .nil)) (.sl "lap") (.sq (.asg (.call (.k (.val (.ref 491))) (.cons (.loc "feed") (.cons (.k (.int 9)) .nil))) (.sl "way")) 
 (.sq (.iff (.cmpT .Lt (.loc "way") (.k (.int 2))) (.sq (.asg (.call (.k (.val (.ref 524))) (.cons (.loc "feed") (.cons (.loc "world") .nil))) (.sl "is_right")) .done) (.sq (.iff (.cmpT .Lt (.loc "way") (.k (.int 5))) (.sq (.asg (.call (.k (.val (.ref 529))) (.cons (.loc "feed") (.cons (.loc "world") (.cons (.cmp .Lt (.loc "way") (.k (.int 4))) .nil)))) (.sl "is_right")) .done) (.sq (.asg (.ife (.cmpT .Lt (.loc "way") (.k (.int 8))) (.call (.k (.val (.ref 543))) (.cons (.loc "feed") (.cons (.loc "world") .nil))) (.call (.k (.val (.ref 548))) (.cons (.loc "feed") (.cons (.loc "world") .nil)))) (.sl "is_right")) .done)) .done)) 
 (.sq (.iff (.bop .Or (.nt (.val (.loc "is_right"))) (.bop .Or (.nt (.val (.call (.k (.val (.ref 553))) (.cons (.loc "world") .nil)))) (.tend .Or))) (.sq (.ret (.k (.bool false))) .done) .done) .done)))) 
 (.sq (.whl (.cmpT .NotEq (.sub (.loc "world") (.k (.str "scopes"))) (.lst .nil)) (.sq (.exp (.meth (.sub (.loc "world") (.k (.str "symbols"))) "pop" .nil)) 
 (.sq (.exp (.call (.k (.val (.ref 536))) (.cons (.loc "world") (.cons (.meth (.sub (.loc "world") (.k (.str "scopes"))) "pop" .nil) .nil)))) 
 (.sq (.iff (.nt (.val (.call (.k (.val (.ref 553))) (.cons (.loc "world") .nil)))) (.sq (.ret (.k (.bool false))) .done) .done) .done)))) 
 (.sq (.exp (.meth (.sub (.loc "world") (.k (.str "symbols"))) "roll_back" (.cons (.k (.int 0)) .nil))) 
 (.sq (.exp (.call (.k (.val (.ref 536))) (.cons (.loc "world") (.cons (.k (.int 0)) .nil)))) 
 (.sq (.ret (.call (.k (.val (.ref 553))) (.cons (.loc "world") .nil))) .done)))))))))))
theorem o558 (d:Nat) (x0:PV) (c:Cells):callF tbl (d + 1) false (.val (.ref 558)) [x0] c = fin (denF P558 (fnI d false c.length) (c ++ []) [("script",x0)]):=by kernel_rfl
noncomputable def P98:F:=
 (.sq (.asg (.lst (.cons (.k (.str "Bool")) (.cons (.k (.str "Int")) (.cons (.k (.str "Real")) .nil)))) (.sa (.loc "self") "sort_names")) 
 (.sq (.asg (.lst (.cons (.k (.int 0)) (.cons (.k (.int 0)) (.cons (.k (.int 0)) .nil)))) (.sa (.loc "self") "sort_widths")) 
 (.sq (.asg (.lst .nil) (.sa (.loc "self") "fun_names")) 
 (.sq (.asg (.lst .nil) (.sa (.loc "self") "fun_args")) 
 (.sq (.asg (.lst .nil) (.sa (.loc "self") "fun_results")) 
 (.sq (.asg (.k (.int 0)) (.sa (.loc "self") "fresh_count")) 
 (.sq (.asg (.lst (.cons (.k (.str "")) .nil)) (.sa (.loc "self") "term_ops")) 
 (.sq (.asg (.lst (.cons (.tup .nil) .nil)) (.sa (.loc "self") "term_args")) 
 (.sq (.asg (.lst (.cons (.k (.int 0)) .nil)) (.sa (.loc "self") "term_sorts")) 
 (.sq (.asg (.lst (.cons (.k (.int 0)) .nil)) (.sa (.loc "self") "term_datas")) 
 (.sq (.asg (.emp) (.sa (.loc "self") "numbers")) 
 (.sq (.asg (.meth (.loc "self") "make" (.cons (.k (.str "true")) (.cons (.tup .nil) (.cons (.k (.int 0)) (.cons (.k (.int 0)) .nil))))) (.sa (.loc "self") "true_number")) 
 (.sq (.asg (.meth (.loc "self") "make" (.cons (.k (.str "false")) (.cons (.tup .nil) (.cons (.k (.int 0)) (.cons (.k (.int 0)) .nil))))) (.sa (.loc "self") "false_number")) .done)))))))))))))
noncomputable def P105:F:=
 (.sq (.ret (.sub (.attr (.loc "self") "sort_names") (.loc "s"))) .done)
theorem o105 (d:Nat) (x0 x1:PV) (c:Cells):callF tbl (d + 1) false (.val (.ref 105)) [x0,x1] c = fin (denF P105 (fnI d false c.length) (c ++ []) [("self",x0),("s",x1)]):=by kernel_rfl
noncomputable def P112:F:=
 (.sq (.exp (.meth (.attr (.loc "self") "sort_names") "append" (.cons (.loc "name") .nil))) 
 (.sq (.exp (.meth (.attr (.loc "self") "sort_widths") "append" (.cons (.k (.int 0)) .nil))) 
 (.sq (.ret (.bin .Sub (.call (.k (.val (.builtin "len"))) (.cons (.attr (.loc "self") "sort_names") .nil)) (.k (.int 1)))) .done)))
theorem o112 (d:Nat) (x0 x1:PV) (c:Cells):callF tbl (d + 1) false (.val (.ref 112)) [x0,x1] c = fin (denF P112 (fnI d false c.length) (c ++ []) [("self",x0),("name",x1)]):=by kernel_rfl
noncomputable def P140:F:=
 (.sq (.exp (.meth (.attr (.loc "self") "fun_names") "append" (.cons (.loc "name") .nil))) 
 (.sq (.exp (.meth (.attr (.loc "self") "fun_args") "append" (.cons (.call (.k (.val (.type "tuple"))) (.cons (.loc "arg_sorts") .nil)) .nil))) 
 (.sq (.exp (.meth (.attr (.loc "self") "fun_results") "append" (.cons (.loc "result") .nil))) 
 (.sq (.ret (.bin .Sub (.call (.k (.val (.builtin "len"))) (.cons (.attr (.loc "self") "fun_names") .nil)) (.k (.int 1)))) .done))))
theorem o140 (d:Nat) (x0 x1 x2 x3:PV) (c:Cells):callF tbl (d + 1) false (.val (.ref 140)) [x0,x1,x2,x3] c = fin (denF P140 (fnI d false c.length) (c ++ []) [("self",x0),("name",x1),("arg_sorts",x2),("result",x3)]):=by kernel_rfl
noncomputable def P154:F:=
 (.sq (.ret (.meth (.loc "self") "make" (.cons (.k (.str "app")) (.cons (.tup .nil) (.cons (.loc "s") (.cons (.meth (.loc "self") "declare_fun" (.cons (.loc "name") (.cons (.tup .nil) (.cons (.loc "s") .nil)))) .nil)))))) .done)
noncomputable def P161:F:=
 (.sq (.ret (.sub (.attr (.loc "self") "fun_names") (.loc "f"))) .done)
theorem o161 (d:Nat) (x0 x1:PV) (c:Cells):callF tbl (d + 1) false (.val (.ref 161)) [x0,x1] c = fin (denF P161 (fnI d false c.length) (c ++ []) [("self",x0),("f",x1)]):=by kernel_rfl
noncomputable def P175:F:=
 (.sq (.ret (.sub (.attr (.loc "self") "fun_results") (.loc "f"))) .done)
theorem o175 (d:Nat) (x0 x1:PV) (c:Cells):callF tbl (d + 1) false (.val (.ref 175)) [x0,x1] c = fin (denF P175 (fnI d false c.length) (c ++ []) [("self",x0),("f",x1)]):=by kernel_rfl
noncomputable def P203:F:=
 (.sq (.ret (.sub (.attr (.loc "self") "term_sorts") (.loc "t"))) .done)
theorem o203 (d:Nat) (x0 x1:PV) (c:Cells):callF tbl (d + 1) false (.val (.ref 203)) [x0,x1] c = fin (denF P203 (fnI d false c.length) (c ++ []) [("self",x0),("t",x1)]):=by kernel_rfl
noncomputable def P231:F:=
 (.sq (.asg (.tup (.cons (.loc "op") (.cons (.loc "args") (.cons (.loc "sort") (.cons (.loc "data") .nil))))) (.sl "key")) 
 (.sq (.asg (.meth (.attr (.loc "self") "numbers") "get" (.cons (.loc "key") (.cons (.k (.int 0)) .nil))) (.sl "found")) 
 (.sq (.iff (.cmpT .Eq (.loc "found") (.k (.int 0))) (.sq (.asg (.call (.k (.val (.builtin "len"))) (.cons (.attr (.loc "self") "term_ops") .nil)) (.sl "found")) 
 (.sq (.exp (.meth (.attr (.loc "self") "term_ops") "append" (.cons (.loc "op") .nil))) 
 (.sq (.exp (.meth (.attr (.loc "self") "term_args") "append" (.cons (.loc "args") .nil))) 
 (.sq (.exp (.meth (.attr (.loc "self") "term_sorts") "append" (.cons (.loc "sort") .nil))) 
 (.sq (.exp (.meth (.attr (.loc "self") "term_datas") "append" (.cons (.loc "data") .nil))) 
 (.sq (.asg (.loc "found") (.si (.attr (.loc "self") "numbers") (.loc "key"))) .done)))))) .done) 
 (.sq (.ret (.loc "found")) .done))))
noncomputable def P266:F:=
 (.sq (.ret (.attr (.loc "self") "true_number")) .done)
noncomputable def P366:F:=
 (.sq (.asg (.loc "bank") (.sa (.loc "self") "bank")) 
 (.sq (.exp (.meth (.loc "self") "clear" .nil)) .done))
noncomputable def P373:F:=
 (.sq (.asg (.emp) (.sa (.loc "self") "sorts")) 
 (.sq (.asg (.emp) (.sa (.loc "self") "functions")) 
 (.sq (.asg (.lst .nil) (.sa (.loc "self") "brought")) 
 (.sq (.asg (.lst .nil) (.sa (.loc "self") "scopes")) 
 (.sq (.asg (.lst .nil) (.sa (.loc "self") "lets")) 
 (.sq (.asg (.k (.int 1)) (.sa (.loc "self") "numeral_sort")) .done))))))
theorem o373 (d:Nat) (x0:PV) (c:Cells):callF tbl (d + 1) false (.val (.ref 373)) [x0] c = fin (denF P373 (fnI d false c.length) (c ++ []) [("self",x0)]):=by kernel_rfl
noncomputable def P380:F:=
 (.sq (.ret (.call (.k (.val (.builtin "len"))) (.cons (.attr (.loc "self") "scopes") .nil))) .done)
theorem o380 (d:Nat) (x0:PV) (c:Cells):callF tbl (d + 1) false (.val (.ref 380)) [x0] c = fin (denF P380 (fnI d false c.length) (c ++ []) [("self",x0)]):=by kernel_rfl
noncomputable def P387:F:=
 (.sq (.exp (.meth (.attr (.loc "self") "scopes") "append" (.cons (.call (.k (.val (.builtin "len"))) (.cons (.attr (.loc "self") "brought") .nil)) .nil))) .done)
theorem o387 (d:Nat) (x0:PV) (c:Cells):callF tbl (d + 1) false (.val (.ref 387)) [x0] c = fin (denF P387 (fnI d false c.length) (c ++ []) [("self",x0)]):=by kernel_rfl
noncomputable def P394:F:=
 (.sq (.exp (.meth (.loc "self") "roll_back" (.cons (.meth (.attr (.loc "self") "scopes") "pop" .nil) .nil))) .done)
theorem o394 (d:Nat) (x0:PV) (c:Cells):callF tbl (d + 1) false (.val (.ref 394)) [x0] c = fin (denF P394 (fnI d false c.length) (c ++ []) [("self",x0)]):=by kernel_rfl
noncomputable def P401:F:=
 (.sq (.ret (.call (.k (.val (.builtin "len"))) (.cons (.attr (.loc "self") "brought") .nil))) .done)
theorem o401 (d:Nat) (x0:PV) (c:Cells):callF tbl (d + 1) false (.val (.ref 401)) [x0] c = fin (denF P401 (fnI d false c.length) (c ++ []) [("self",x0)]):=by kernel_rfl
noncomputable def P408:F:=
 (.sq (.whl (.cmpT .Gt (.call (.k (.val (.builtin "len"))) (.cons (.attr (.loc "self") "brought") .nil)) (.loc "mark")) (.sq (.asg (.meth (.attr (.loc "self") "brought") "pop" .nil) (.stup 2 (.scons (.sl "kind") (.scons (.sl "name") .snil)))) 
 (.sq (.asg (.ife (.cmpT .Eq (.loc "kind") (.k (.str "sort"))) (.attr (.loc "self") "sorts") (.attr (.loc "self") "functions")) (.sl "table")) 
 (.sq (.exp (.meth (.loc "table") "pop" (.cons (.loc "name") .nil))) .done)))) .done)
theorem o408 (d:Nat) (x0 x1:PV) (c:Cells):callF tbl (d + 1) false (.val (.ref 408)) [x0,x1] c = fin (denF P408 (fnI d false c.length) (c ++ []) [("self",x0),("mark",x1)]):=by kernel_rfl
noncomputable def P415:F:=
 (.sq (.iff (.bop .Or (.cmpT .In (.loc "name") (.k (.tup sortsL))) (.bop .Or (.cmpT .In (.loc "name") (.k (.tup wordsL))) (.tend .Or))) (.sq (.rai (.jn (.loc "name") .jend)) .done) .done) 
 (.sq (.iff (.cmpT .In (.loc "name") (.attr (.loc "self") "sorts")) (.sq (.rai (.jn (.loc "name") .jend)) .done) .done) 
 (.sq (.asg (.loc "entry") (.si (.attr (.loc "self") "sorts") (.loc "name"))) 
 (.sq (.exp (.meth (.attr (.loc "self") "brought") "append" (.cons (.tup (.cons (.k (.str "sort")) (.cons (.loc "name") .nil))) .nil))) .done))))
theorem o415 (d:Nat) (x0 x1 x2:PV) (c:Cells):callF tbl (d + 1) false (.val (.ref 415)) [x0,x1,x2] c = fin (denF P415 (fnI d false c.length) (c ++ []) [("self",x0),("name",x1),("entry",x2)]):=by kernel_rfl
noncomputable def P422:F:=
 (.sq (.asg (.call (.k (.val (.ref 320))) (.cons (.k (.int 0)) (.cons (.tup .nil) (.cons (.k .none) .nil)))) (.sl "entry")) 
 (.sq (.exp (.meth (.loc "self") "bring_sort" (.cons (.loc "name") (.cons (.loc "entry") .nil)))) 
 (.sq (.asg (.meth (.attr (.loc "self") "bank") "declare_sort" (.cons (.loc "name") .nil)) (.sa (.loc "entry") "sort")) 
 (.sq (.ret (.attr (.loc "entry") "sort")) .done))))
theorem o422 (d:Nat) (x0 x1:PV) (c:Cells):callF tbl (d + 1) false (.val (.ref 422)) [x0,x1] c = fin (denF P422 (fnI d false c.length) (c ++ []) [("self",x0),("name",x1)]):=by kernel_rfl
noncomputable def P429:F:=
 (.sq (.for false (.loc "params") (.sl "param") (.sq (.iff (.bop .Or (.cmpT .In (.loc "param") (.k (.tup sortsL))) (.bop .Or (.cmpT .In (.loc "param") (.k (.tup wordsL))) (.tend .Or))) (.sq (.rai (.jn (.loc "param") .jend)) .done) .done) .done)) 
 (.sq (.exp (.meth (.loc "self") "bring_sort" (.cons (.loc "name") (.cons (.call (.k (.val (.ref 320))) (.cons (.k (.int 0)) (.cons (.loc "params") (.cons (.loc "body") .nil)))) .nil)))) .done))
theorem o429 (d:Nat) (x0 x1 x2 x3:PV) (c:Cells):callF tbl (d + 1) false (.val (.ref 429)) [x0,x1,x2,x3] c = fin (denF P429 (fnI d false c.length) (c ++ []) [("self",x0),("name",x1),("params",x2),("body",x3)]):=by kernel_rfl
noncomputable def P436:F:=
 (.sq (.iff (.bop .Or (.cmpT .In (.loc "name") (.k (.tup ownL))) (.bop .Or (.cmpT .In (.loc "name") (.k (.tup wordsL))) (.tend .Or))) (.sq (.rai (.jn (.loc "name") .jend)) .done) .done) 
 (.sq (.iff (.cmpT .In (.loc "name") (.attr (.loc "self") "functions")) (.sq (.rai (.jn (.loc "name") .jend)) .done) .done) 
 (.sq (.asg (.loc "entry") (.si (.attr (.loc "self") "functions") (.loc "name"))) 
 (.sq (.exp (.meth (.attr (.loc "self") "brought") "append" (.cons (.tup (.cons (.k (.str "fun")) (.cons (.loc "name") .nil))) .nil))) .done))))
theorem o436 (d:Nat) (x0 x1 x2:PV) (c:Cells):callF tbl (d + 1) false (.val (.ref 436)) [x0,x1,x2] c = fin (denF P436 (fnI d false c.length) (c ++ []) [("self",x0),("name",x1),("entry",x2)]):=by kernel_rfl
noncomputable def P443:F:=
 (.sq (.asg (.call (.k (.val (.ref 348))) (.cons (.k (.int (-1))) (.cons (.call (.k (.val (.type "tuple"))) (.cons (.loc "arg_sorts") .nil)) (.cons (.loc "result") (.cons (.tup .nil) (.cons (.k (.int 0)) .nil)))))) (.sl "entry")) 
 (.sq (.exp (.meth (.loc "self") "bring_function" (.cons (.loc "name") (.cons (.loc "entry") .nil)))) 
 (.sq (.asg (.meth (.attr (.loc "self") "bank") "declare_fun" (.cons (.loc "name") (.cons (.call (.k (.val (.type "tuple"))) (.cons (.loc "arg_sorts") .nil)) (.cons (.loc "result") .nil)))) (.sa (.loc "entry") "fun")) 
 (.sq (.ret (.attr (.loc "entry") "fun")) .done))))
theorem o443 (d:Nat) (x0 x1 x2 x3:PV) (c:Cells):callF tbl (d + 1) false (.val (.ref 443)) [x0,x1,x2,x3] c = fin (denF P443 (fnI d false c.length) (c ++ []) [("self",x0),("name",x1),("arg_sorts",x2),("result",x3)]):=by kernel_rfl
noncomputable def P448:F:=
 (.sq (.asg (.call (.k (.val (.type "tuple"))) (.cons (.comp false (.loc "holders") (.sl "holder") (.meth (.attr (.box 0) "bank") "sort" (.cons (.loc "holder") .nil))) .nil)) (.sl "arg_sorts")) 
 (.sq (.exp (.meth (.box 0) "bring_function" (.cons (.loc "name") (.cons (.call (.k (.val (.ref 348))) (.cons (.k (.int (-1))) (.cons (.loc "arg_sorts") (.cons (.meth (.attr (.box 0) "bank") "sort" (.cons (.loc "body") .nil)) (.cons (.call (.k (.val (.type "tuple"))) (.cons (.loc "holders") .nil)) (.cons (.loc "body") .nil)))))) .nil)))) .done))
theorem o448 (d:Nat) (x0 x1 x2 x3:PV) (c:Cells):callF tbl (d + 1) false (.val (.ref 448)) [x0,x1,x2,x3] c = fin (denF P448 (fnI d false c.length) (c ++ [.box (some x0)]) [("name",x1),("holders",x2),("body",x3)]):=by kernel_rfl
noncomputable def P455:F:=
 (.sq (.asg (.lst .nil) (.sl "found")) 
 (.sq (.for true (.attr (.loc "self") "brought") (.stup 2 (.scons (.sl "kind") (.scons (.sl "name") .snil))) (.sq (.iff (.bop .And (.cmpT .Eq (.loc "kind") (.k (.str "fun"))) (.bop .And (.nt (.val (.meth (.sub (.attr (.loc "self") "functions") (.loc "name")) "is_defined" .nil))) (.tend .And))) (.sq (.asg (.sub (.attr (.loc "self") "functions") (.loc "name")) (.sl "entry")) 
  (.sq (.exp (.meth (.loc "found") "append" (.cons (.tup (.cons (.loc "name") (.cons (.attr (.loc "entry") "fun") (.cons (.attr (.loc "entry") "arg_sorts") (.cons (.attr (.loc "entry") "result") .nil))))) .nil))) .done)) .done) .done)) 
 (.sq (.ret (.loc "found")) .done)))
theorem o455 (d:Nat) (x0:PV) (c:Cells):callF tbl (d + 1) false (.val (.ref 455)) [x0] c = fin (denF P455 (fnI d false c.length) (c ++ []) [("self",x0)]):=by kernel_rfl
noncomputable def P462:F:=
 (.sq (.asg (.emp) (.sl "table")) 
 (.sq (.fzp true (.k (.val (.type "zip"))) (.loc "names") (.loc "terms") (.stup 2 (.scons (.sl "name") (.scons (.sl "term") .snil))) (.sq (.asg (.loc "term") (.si (.loc "table") (.loc "name"))) .done)) 
 (.sq (.exp (.meth (.attr (.loc "self") "lets") "append" (.cons (.loc "table") .nil))) .done)))
theorem o462 (d:Nat) (x0 x1 x2:PV) (c:Cells):callF tbl (d + 1) false (.val (.ref 462)) [x0,x1,x2] c = fin (denF P462 (fnI d false c.length) (c ++ []) [("self",x0),("names",x1),("terms",x2)]):=by kernel_rfl
noncomputable def P469:F:=
 (.sq (.whl (.cmpT .Gt (.call (.k (.val (.builtin "len"))) (.cons (.attr (.loc "self") "lets") .nil)) (.loc "many")) (.sq (.exp (.meth (.attr (.loc "self") "lets") "pop" .nil)) .done)) .done)
theorem o469 (d:Nat) (x0 x1:PV) (c:Cells):callF tbl (d + 1) false (.val (.ref 469)) [x0,x1] c = fin (denF P469 (fnI d false c.length) (c ++ []) [("self",x0),("many",x1)]):=by kernel_rfl
noncomputable def P476:F:=
 (.sq (.for false (.call (.k (.val (.type "range"))) (.cons (.bin .Sub (.call (.k (.val (.builtin "len"))) (.cons (.attr (.loc "self") "lets") .nil)) (.k (.int 1))) (.cons (.k (.int (-1))) (.cons (.k (.int (-1))) .nil)))) (.sl "place") (.sq (.iff (.cmpT .In (.loc "name") (.sub (.attr (.loc "self") "lets") (.loc "place"))) (.sq (.ret (.sub (.sub (.attr (.loc "self") "lets") (.loc "place")) (.loc "name"))) .done) .done) .done)) 
 (.sq (.ret (.k (.int 0))) .done))
theorem o476 (d:Nat) (x0 x1:PV) (c:Cells):callF tbl (d + 1) false (.val (.ref 476)) [x0,x1] c = fin (denF P476 (fnI d false c.length) (c ++ []) [("self",x0),("name",x1)]):=by kernel_rfl
noncomputable def P317:F:=
 (.sq (.asg (.loc "sort") (.sa (.loc "self") "sort")) 
 (.sq (.asg (.loc "params") (.sa (.loc "self") "params")) 
 (.sq (.asg (.loc "body") (.sa (.loc "self") "body")) .done)))
noncomputable def P338:F:=
 (.sq (.asg (.loc "fun") (.sa (.loc "self") "fun")) 
 (.sq (.asg (.loc "arg_sorts") (.sa (.loc "self") "arg_sorts")) 
 (.sq (.asg (.loc "result") (.sa (.loc "self") "result")) 
 (.sq (.asg (.loc "holders") (.sa (.loc "self") "holders")) 
 (.sq (.asg (.loc "body") (.sa (.loc "self") "body")) .done)))))
noncomputable def P345:F:=
 (.sq (.ret (.cmp .NotEq (.attr (.loc "self") "body") (.k (.int 0)))) .done)
theorem o345 (d:Nat) (ro:Bool) (x0:PV) (c:Cells):callF tbl (d + 1) ro (.val (.ref 345)) [x0] c = fin (denF P345 (fnI d ro c.length) (c ++ []) [("self",x0)]):=by kernel_rfl
theorem oc320 (d:Nat) (x0 x1 x2:PV) (c:Cells):callF tbl (d + 1) false (.val (.ref 320)) [x0,x1,x2] c = finC c.length (denF P317 (fnI d false (c ++ [Cell.inst 320 []]).length) ((c ++ [Cell.inst 320 []]) ++ []) [("self",.ref c.length),("sort",x0),("params",x1),("body",x2)]):=by kernel_rfl
theorem oc348 (d:Nat) (x0 x1 x2 x3 x4:PV) (c:Cells):callF tbl (d + 1) false (.val (.ref 348)) [x0,x1,x2,x3,x4] c = finC c.length (denF P338 (fnI d false (c ++ [Cell.inst 348 []]).length) ((c ++ [Cell.inst 348 []]) ++ []) [("self",.ref c.length),("fun",x0),("arg_sorts",x1),("result",x2),("holders",x3),("body",x4)]):=by kernel_rfl
end Mine
end
section
open PySem
set_option backward.match.sparseCases false
namespace Mine
noncomputable def WpR {α:Type} (r:R α) (Q:α → Cells → Locs → Prop) (E:Cells → Prop):Prop:=match r with
 | .ok a c' l'=>Q a c' l'
 | .exc c'=>E c'
 | .fail=>False
structure Wp {α:Type} (m:M α) (c:Cells) (l:Locs) (Q:α → Cells → Locs → Prop) (E:Cells → Prop):Prop where
 run:WpR (m c l) Q E
noncomputable def Cp (r:CR) (Q:PV → Cells → Prop) (E:Cells → Prop):Prop:=match r with
 | .ok v c'=>Q v c'
 | .exc c'=>E c'
 | .fail=>False
noncomputable def wpO {α:Type} (o:Option α) (p:α → Prop):Prop:=match o with
 | some v=>p v
 | none=>False
noncomputable def wpB (b:Bool) (p:Prop):Prop:=match b with
 | true=>p
 | false=>False
noncomputable def wpI (b:Bool) (p q:Prop):Prop:=match b with
 | true=>p
 | false=>q
noncomputable def wpL {α:Type} (l:List α) (p:α → List α → Prop):Prop:=match l with
 | []=>False
 | a :: r=>p a r
noncomputable def wpF (w:Flw) (p:Prop) (q:PV → Prop):Prop:=match w with
 | .nxt=>p
 | .ret v=>q v
noncomputable def flw (N:Cells → Locs → Prop) (R:PV → Cells → Locs → Prop) (w:Flw) (c:Cells) (l:Locs):Prop:=match w with
 | .nxt=>N c l
 | .ret v=>R v c l
section
variable {α β:Type} {c c':Cells} {l l':Locs} {E:Cells → Prop} {cf:Callee} {ro:Bool}
theorem wpR_mono {r:R α} {Q Q':α → Cells → Locs → Prop} {E':Cells → Prop} (h:WpR r Q E) (q:∀ a c l,Q a c l → Q' a c l) (e:∀ c,E c → E' c):WpR r Q' E':=by
 cases r with
 | ok a c l=>exact q _ _ _ h
 | exc c=>exact e _ h
 | fail=>exact h
theorem wp_mono {m:M α} {Q Q':α → Cells → Locs → Prop} {E':Cells → Prop} (h:Wp m c l Q E) (q:∀ a c l,Q a c l → Q' a c l) (e:∀ c,E c → E' c):Wp m c l Q' E':=⟨wpR_mono h.run q e⟩
theorem wp_to {m:M α} {Q Q':α → Cells → Locs → Prop} (h:Wp m c l Q E) (q:∀ a c l,Q a c l → Q' a c l):Wp m c l Q' E:=wp_mono h q λ zz h=>h
theorem cp_mono {r:CR} {Q Q':PV → Cells → Prop} {E':Cells → Prop} (h:Cp r Q E) (q:∀ a c,Q a c → Q' a c) (e:∀ c,E c → E' c):Cp r Q' E':=by
 cases r with
 | ok v c=>exact q _ _ h
 | exc c=>exact e _ h
 | fail=>exact h
theorem wp_bnd {m:M α} {f:α → M β} {Q:β → Cells → Locs → Prop} (h:Wp m c l (λ a c l=>Wp (f a) c l Q E) E):Wp (bnd m f) c l Q E:=by
 have h:=h.run
 refine ⟨?_⟩
 unfold bnd
 cases e:m c l with
 | ok a c' l'=>rw [e] at h; exact h.run
 | exc c'=>rw [e] at h; exact h
 | fail=>rw [e] at h; exact h
theorem wp_ret {Q:α → Cells → Locs → Prop} {a:α} (q:Q a c l):Wp (ret a) c l Q E:=⟨q⟩
theorem wp_opt {o:Option α} {g:α → M β} {Q:β → Cells → Locs → Prop} (h:wpO o λ v=>Wp (g v) c l Q E):Wp (opt o g) c l Q E:=by
 cases o with
 | some v=>exact ⟨h.run⟩
 | none=>exact h.elim
theorem wp_gd {b:Bool} {m:M β} {Q:β → Cells → Locs → Prop} (h:wpB b (Wp m c l Q E)):Wp (gd b m) c l Q E:=by
 cases b with
 | true=>exact ⟨h.run⟩
 | false=>exact h.elim
theorem wp_sw {b:Bool} {m m':M β} {Q:β → Cells → Locs → Prop} (h:wpI b (Wp m c l Q E) (Wp m' c l Q E)):Wp (sw b m m') c l Q E:=by
 cases b with
 | true=>exact ⟨h.run⟩
 | false=>exact ⟨h.run⟩
theorem wpO_to {o:Option α} {p q:α → Prop} (h:wpO o p) (k:∀ v,p v → q v):wpO o q:=by
 cases o with
 | some v=>exact k v h
 | none=>exact h
theorem wpB_to {b:Bool} {p q:Prop} (h:wpB b p) (k:p → q):wpB b q:=by
 cases b with
 | true=>exact k h
 | false=>exact h
theorem wpI_to {b:Bool} {p q p' q':Prop} (h:wpI b p q) (k:p → p') (k':q → q'):wpI b p' q':=by
 cases b with
 | true=>exact k h
 | false=>exact k' h
theorem wp_raise {Q:Flw → Cells → Locs → Prop} (h:E c):Wp (λ c zz=>(.exc c:R Flw)) c l Q E:=⟨h⟩
theorem wp_try {b:M Flw} {r:Str} {Q:Flw → Cells → Locs → Prop} (h:Wp b c l Q λ c'=>Q (.ret (.str r)) c' []):Wp (tryS b r) c l Q E:=by
 have h:=h.run
 refine ⟨?_⟩
 unfold tryS
 cases e:b c l with
 | ok v c' l'=>rw [e] at h; exact h
 | exc c'=>rw [e] at h; exact h
 | fail=>rw [e] at h; exact h
theorem wp_cpr {m:M (List PV)} {Q:PV → Cells → Locs → Prop} (h:Wp m c [] (λ vs c' zz=>Q (.ref c'.length) (c' ++ [.list vs]) l) λ zz=>False):Wp (λ c l=>endC l (m c [])) c l Q E:=by
 have h:=h.run
 refine ⟨?_⟩
 show WpR (endC l (m c [])) Q E
 cases e:m c [] with
 | ok v c' l'=>rw [e] at h; exact h
 | exc c'=>rw [e] at h; exact h.elim
 | fail=>rw [e] at h; exact h.elim
theorem wp_ldL {x:Str} {Q:PV → Cells → Locs → Prop} (h:wpO (l.lookup x) λ v=>Q v c l):Wp (ldL x) c l Q E:=⟨(wp_opt (o:=l.lookup x) (g:=ret) (wpO_to h λ zz h=>wp_ret h):Wp (opt (l.lookup x) ret) c l Q E).run⟩
theorem wp_one {x:Cell} {Q:PV → Cells → Locs → Prop} (h:Q (.ref c.length) (c ++ [x]) l):Wp (newCell x) c l Q E:=⟨h⟩
theorem wp_stL {x:Str} {v:PV} {Q:Unit → Cells → Locs → Prop} (h:Q () c (putLoc x v l)):Wp (stL x v) c l Q E:=⟨h⟩
theorem wp_consT {t:PV → M Unit} {r:List PV → M Unit} {vs:List PV} {Q:Unit → Cells → Locs → Prop} (h:wpL vs λ v vs=>Wp (t v) c l (λ zz c l=>Wp (r vs) c l Q E) E):Wp (consT t r vs) c l Q E:=by
 cases vs with
 | nil=>exact h.elim
 | cons v vs=>exact wp_bnd h
theorem wpL_to {xs:List α} {p q:α → List α → Prop} (h:wpL xs p) (k:∀ x r,p x r → q x r):wpL xs q:=by
 cases xs with
 | nil=>exact h
 | cons x r=>exact k x r h
end
theorem flw_to {N N':Cells → Locs → Prop} {R:PV → Cells → Locs → Prop} (k:∀ c l,N c l → N' c l):∀ w c l,flw N R w c l → flw N' R w c l
 | .nxt,c,l,h=>k c l h
 | .ret _,_,_,h=>h
theorem wp_fon {r:M Flw} {w:Flw} {c:Cells} {l:Locs} {E:Cells → Prop} {Q:Flw → Cells → Locs → Prop} (h:flw (λ c l=>Wp r c l Q E) (λ v c l=>Q (.ret v) c l) w c l):Wp (onFlw r w) c l Q E:=by
 cases w with
 | nxt=>exact ⟨h.run⟩
 | ret v=>exact ⟨h⟩
end Mine
end
section
open PySem
set_option backward.match.sparseCases false
namespace Mine
noncomputable def tupAt (xs:List PV) (i:Int):Option PV:=if xs.length ≤ lim then (idx xs.length i).bind λ j=>xs[j]? else .none
noncomputable def hasAt (C:Addr) (n:Str):Bool:=(clsT C).any λ k=>k.attrs.contains n
noncomputable def mthOf (C:Addr) (n:Str):Option Addr:=(clsT C).bind λ k=>k.meths.lookup n
section
variable {α β γ:Type} {c c':Cells} {l l':Locs} {E:Cells → Prop} {cf:Callee} {ro:Bool} {v:PV} {a:Nat}
section bricks
variable {Q:β → Cells → Locs → Prop} {m:M β}
theorem wp_cellT {g:Cell → M β} {x:Cell} (hc:c[a]? = some x) (h:Wp (g x) c l Q E):Wp (cell a g) c l Q E:=⟨by show WpR (opt c[a]? g c l) Q E; rw [hc]; exact h.run⟩
theorem wp_gdT {b:Bool} (hb:b = true) (h:Wp m c l Q E):Wp (gd b m) c l Q E:=wp_gd (hb ▸ h)
theorem wp_optT {o:Option γ} {g:γ → M β} {x:γ} (ho:o = some x) (h:Wp (g x) c l Q E):Wp (opt o g) c l Q E:=wp_opt (ho ▸ h)
theorem wp_onLst {g:Nat → List PV → M β} {xs:List PV} (hc:c[a]? = some (.list xs)) (h:Wp (g a xs) c l Q E):Wp (onLst (.ref a) g) c l Q E:=⟨(wp_cellT (g:=λ y=>opt (lstOf y) λ l=>g a l) hc ⟨h.run⟩:Wp (cell a λ y=>opt (lstOf y) λ l=>g a l) c l Q E).run⟩
theorem wp_onDct {g:Nat → List (Key × PV) → M β} {xs:List (Key × PV)} (hc:c[a]? = some (.dict xs)) (h:Wp (g a xs) c l Q E):Wp (onDct (.ref a) g) c l Q E:=⟨(wp_cellT (g:=λ y=>opt (dctOf y) λ l=>g a l) hc ⟨h.run⟩:Wp (cell a λ y=>opt (dctOf y) λ l=>g a l) c l Q E).run⟩
theorem wp_onIns {g:Nat → Addr × List (Str × PV) → M β} {C:Addr} {xs:List (Str × PV)} (hc:c[a]? = some (.inst C xs)) (h:Wp (g a (C,xs)) c l Q E):Wp (onIns (.ref a) g) c l Q E:=⟨(wp_cellT (g:=λ y=>opt (insOf y) λ p=>g a p) hc ⟨h.run⟩:Wp (cell a λ y=>opt (insOf y) λ p=>g a p) c l Q E).run⟩
theorem wp_put {x:Cell} {v:β} (h:Q v (c.set a x) l):Wp (put a x v) c l Q E:=⟨h⟩
end bricks
theorem and_t {a b:Bool} (h:a = true) (h':b = true):(a && b) = true:=by rw [h,h']; rfl
theorem limB {n:Nat} (h:n ≤ lim):decide (n ≤ lim) = true:=decide_eq_true h
variable {Q:PV → Cells → Locs → Prop}
theorem wp_ldB {i:Nat} (h:c[i]? = some (.box (some v))) (q:Q v c l):Wp (ldB i) c l Q E:=wp_cellT h ⟨q⟩
theorem wp_stB {Q:Unit → Cells → Locs → Prop} {i:Nat} {o:Option PV} (h:c[i]? = some (.box o)) (q:Q () (c.set i (.box (some v))) l):Wp (stB false i v) c l Q E:=wp_cellT h ⟨q⟩
theorem idx_of {xs:List PV} {i:Int} (h:tupAt xs i = some v):xs.length ≤ lim ∧ ((idx xs.length i).bind λ j=>xs[j]?) = some v:=by
 unfold tupAt at h
 by_cases q:xs.length ≤ lim
 ·rw [if_pos q] at h; exact ⟨q,h⟩
 ·rw [if_neg q] at h; cases h
theorem tupAt_nat {xs:List PV} {j:Nat} (hl:xs.length ≤ lim) (h:xs[j]? = some v):tupAt xs (j:Int) = some v:=by
 have hlt:=(List.getElem?_eq_some_iff.mp h).1
 unfold tupAt idx
 rw [if_pos hl,if_pos (by omega),if_pos (by omega)]
 simpa using h
theorem tupAt_last {xs:List PV} (hl:xs.length ≤ lim) (h:xs.getLast? = some v):tupAt xs (-1) = some v:=by
 unfold tupAt idx
 have hne:xs ≠ []:=λ q=>by subst q; cases h
 have hp:0 < xs.length:=List.length_pos_iff.mpr hne
 rw [if_pos hl,if_neg (by omega),if_pos (by omega)]
 have:(-1 + (xs.length:Int)).toNat = xs.length - 1:=by omega
 simp only [Option.bind_some,this]
 rw [← List.getLast?_eq_getElem?]; exact h
theorem wp_itemL {xs:List PV} {i:Int} (h:tupAt xs i = some v) (q:Q v c l):Wp (itemL xs (.int i)) c l Q E:=
 wp_optT (o:=intOf (.int i)) rfl (wp_gdT (limB (idx_of h).1) (wp_optT (idx_of h).2 ⟨q⟩))
theorem wp_itT {xs:List PV} {i:Int} (h:tupAt xs i = some v) (q:Q v c l):Wp (itemV (.tup xs) (.int i)) c l Q E:=wp_itemL h q
theorem wp_itK {xs:List PV} {i:Int} (h:tupAt xs i = some v) (q:Q v c l):Wp (itemV (.klist xs) (.int i)) c l Q E:=wp_itemL h q
theorem wp_itL {xs:List PV} {i:Int} (hc:c[a]? = some (.list xs)) (h:tupAt xs i = some v) (q:Q v c l):Wp (itemV (.ref a) (.int i)) c l Q E:=by
 unfold itemV
 exact wp_optT (o:=refOf (.ref a)) rfl (wp_cellT hc (wp_itemL h q))
theorem wp_itK' {es:List (Key × PV)} {k:Key} {i:PV} (hi:keyOf i = some k) (hT:isT k = false) (hc:c[a]? = some (.dict es)) (hk:kinds k es = true) (h:look k es = some v) (q:Q v c l):Wp (itemV (.ref a) i) c l Q E:=by
 unfold itemV
 exact wp_optT (o:=refOf (.ref a)) rfl (wp_cellT hc (wp_optT (o:=dctOf (.dict es)) rfl (wp_optT hi (wp_gdT (and_t hk (by rw [hT]; rfl)) (wp_optT h (wp_ret q))))))
theorem wp_itD {es:List (Key × PV)} {s:Str} (hc:c[a]? = some (.dict es)) (hk:kinds (.s s) es = true) (h:look (.s s) es = some v) (q:Q v c l):Wp (itemV (.ref a) (.str s)) c l Q E:=wp_itK' rfl rfl hc hk h q
theorem wp_itI {es:List (Key × PV)} {i:Int} (hc:c[a]? = some (.dict es)) (hk:kinds (.i i) es = true) (h:look (.i i) es = some v) (q:Q v c l):Wp (itemV (.ref a) (.int i)) c l Q E:=wp_itK' rfl rfl hc hk h q
theorem wp_si {Q:Unit → Cells → Locs → Prop} {es:List (Key × PV)} {s:Str} (hc:c[a]? = some (.dict es)) (hk:kinds (.s s) es = true) (hl:es.length ≤ lim) (q:Q () (c.set a (.dict (putKey (.s s) v es))) l):Wp (setItemV false (.ref a) (.str s) v) c l Q E:=
 wp_onDct hc (wp_optT (o:=keyOf (.str s)) rfl (wp_gdT (by rw [hk,limB hl]; rfl) (wp_put q)))
theorem has_cls {C:Addr} {n:Str} (h:hasAt C n = true):∃ k,clsT C = some k ∧ k.attrs.contains n = true:=by
 unfold hasAt at h
 cases e:clsT C with
 | none=>rw [e] at h; cases h
 | some k=>rw [e] at h; exact ⟨k,rfl,h⟩
theorem wp_ga {C:Addr} {es:List (Str × PV)} {n:Str} (hc:c[a]? = some (.inst C es)) (hn:hasAt C n = true) (h:es.lookup n = some v) (hv:isV v = false) (q:Q v c l):Wp (getAttrV tbl (.ref a) n) c l Q E:=by
 obtain ⟨k,e,hk⟩:=has_cls hn
 exact wp_onIns hc (wp_optT (show tbl.cls C = some k from e) (wp_gdT hk (wp_optT h (wp_gdT (by rw [hv]; rfl) ⟨q⟩))))
theorem wp_sa {Q:Unit → Cells → Locs → Prop} {C:Addr} {es:List (Str × PV)} {n:Str} (hc:c[a]? = some (.inst C es)) (hn:hasAt C n = true) (hl:es.length ≤ 100) (q:Q () (c.set a (.inst C (putAttr n v es))) l):Wp (setAttrV tbl false (.ref a) n v) c l Q E:=by
 obtain ⟨k,e,hk⟩:=has_cls hn
 exact wp_onIns hc (wp_optT (show tbl.cls C = some k from e) (wp_gdT (by rw [hk,decide_eq_true hl]; rfl) (wp_put q)))
theorem wp_mi {Q:Mth → Cells → Locs → Prop} {C:Addr} {es:List (Str × PV)} {n:Str} {g:Addr} (hc:c[a]? = some (.inst C es)) (hn:mthOf C n = some g) (h:es.lookup n = none) (q:Q (.fn g) c l):Wp (methV tbl (.ref a) n) c l Q E:=by
 obtain ⟨k,e,hk⟩:=Option.bind_eq_some_iff.mp hn
 exact wp_optT (o:=refOf (.ref a)) rfl (wp_cellT hc (wp_optT (show tbl.cls C = some k from e) (wp_gdT (by rw [h]; rfl) (wp_optT hk ⟨q⟩))))
theorem wp_mapp {Q:Mth → Cells → Locs → Prop} {xs:List PV} (hc:c[a]? = some (.list xs)) (q:Q (.bi true "append") c l):Wp (methV tbl (.ref a) "append") c l Q E:=wp_optT (o:=refOf (.ref a)) rfl (wp_cellT hc (wp_gdT (by decide +kernel) ⟨q⟩))
theorem wp_mpop {Q:Mth → Cells → Locs → Prop} {xs:List PV} (hc:c[a]? = some (.list xs)) (q:Q (.bi true "pop") c l):Wp (methV tbl (.ref a) "pop") c l Q E:=wp_optT (o:=refOf (.ref a)) rfl (wp_cellT hc (wp_gdT (by decide +kernel) ⟨q⟩))
theorem wp_mdict {Q:Mth → Cells → Locs → Prop} {es:List (Key × PV)} {n:Str} (hc:c[a]? = some (.dict es)) (hn:(decide (n = "get") || decide (n = "pop") || decide (n = "items") || decide (n = "update")) = true) (q:Q (.bi false n) c l):Wp (methV tbl (.ref a) n) c l Q E:=wp_optT (o:=refOf (.ref a)) rfl (wp_cellT hc (wp_gdT hn ⟨q⟩))
theorem wp_app {xs:List PV} (hc:c[a]? = some (.list xs)) (hl:xs.length ≤ lim) (q:Q .none (c.set a (.list (xs ++ [v]))) l):Wp (methB false (.ref a) true "append" [v]) c l Q E:=
 wp_onLst hc (wp_sw (by rw [decide_eq_true rfl]; exact wp_gdT (b:=[].isEmpty) rfl (wp_gdT (by rw [limB hl]; rfl) (wp_put q))))
theorem wp_pop {xs:List PV} (hc:c[a]? = some (.list xs)) (hl:xs.length ≤ lim) (h:xs.getLast? = some v) (q:Q v (c.set a (.list xs.dropLast)) l):Wp (methB false (.ref a) true "pop" []) c l Q E:=
 wp_onLst hc (wp_sw (by rw [show decide (("pop":Str) = "append") = false from by decide +kernel]; exact wp_gdT (by decide +kernel) (wp_gdT (by rw [limB hl]; rfl) (wp_optT h (wp_put q)))))
theorem wp_items {es:List (Key × PV)} (hc:c[a]? = some (.dict es)) (hk:(es.all λ e=>isS e.1) = true) (q:Q (.items a) c l):Wp (methB ro (.ref a) false "items" []) c l Q E:=
 wp_onDct hc (wp_gdT (by decide +kernel) (wp_gdT hk ⟨q⟩))
theorem wp_dpop {es:List (Key × PV)} {k:Str} (hc:c[a]? = some (.dict es)) (hk:(es.all λ e=>isS e.1) = true) (hl:es.length ≤ lim) (h:look (.s k) es = some v) (q:Q v (c.set a (.dict (es.filter λ e=>decide (e.1 ≠ .s k)))) l):Wp (methB false (.ref a) false "pop" [.str k]) c l Q E:=
 wp_onDct hc (wp_sw (by rw [decide_eq_true rfl]; exact wp_optT (o:=strOf (.str k)) rfl (wp_gdT (by rw [show kinds (.s k) es = true from hk,limB hl]; rfl) (wp_optT h (wp_put q)))))
theorem wp_bi {n:String} {x:PV} {g:PV → M PV} (e:biCall (.builtin n) [x] = g x) (h:Wp (g x) c l Q E):Wp (biCall (.builtin n) [x]) c l Q E:=e ▸ h
theorem wp_ty {n:String} {x:PV} {g:PV → M PV} (e:biCall (.type n) [x] = g x) (h:Wp (g x) c l Q E):Wp (biCall (.type n) [x]) c l Q E:=e ▸ h
theorem wp_len {xs:List PV} (hc:c[a]? = some (.list xs)) (hl:xs.length ≤ lim) (q:Q (.int xs.length) c l):Wp (biCall (.builtin "len") [.ref a]) c l Q E:=wp_bi (g:=lenV) rfl (by unfold lenV; exact wp_onLst hc (wp_gdT (limB hl) (wp_ret q)))
theorem wp_lenK {xs:List PV} (hl:xs.length ≤ lim) (q:Q (.int xs.length) c l):Wp (biCall (.builtin "len") [.klist xs]) c l Q E:=wp_bi (g:=lenV) rfl (by unfold lenV; exact wp_gdT (limB hl) (wp_ret q))
theorem wp_abs {i:Int} (q:Q (.int i.natAbs) c l):Wp (biCall (.builtin "abs") [.int i]) c l Q E:=wp_bi (g:=absV) rfl ⟨q⟩
theorem wp_sum {xs:List PV} {is:List Int} (hc:c[a]? = some (.list xs)) (hi:allInts xs = some is) (hl:xs.length ≤ lim) (q:Q (.int is.sum) c l):Wp (biCall (.builtin "sum") [.ref a]) c l Q E:=wp_bi (g:=sumV) rfl (wp_onLst hc (wp_optT hi (wp_gdT (limB hl) (wp_ret q))))
theorem wp_int {i:Int} (q:Q (.int i) c l):Wp (biCall (.type "int") [.int i]) c l Q E:=wp_ty (g:=intV) rfl ⟨q⟩
theorem wp_tupT' {xs:List PV} (q:Q (.tup xs) c l):Wp (biCall (.type "tuple") [.tup xs]) c l Q E:=wp_ty (g:=tupV) rfl ⟨q⟩
theorem wp_tupL {xs:List PV} (hc:c[a]? = some (.list xs)) (hl:xs.length ≤ lim) (q:Q (.tup xs) c l):Wp (biCall (.type "tuple") [.ref a]) c l Q E:=wp_ty (g:=tupV) rfl (by unfold tupV; exact wp_onLst hc (wp_gdT (limB hl) (wp_ret q)))
theorem wp_dictD {es:List (Key × PV)} (hc:c[a]? = some (.dict es)) (hk:(es.all λ e=>isS e.1) = true) (hl:es.length ≤ lim) (q:Q (.ref c.length) (c ++ [.dict es]) l):Wp (biCall (.type "dict") [.ref a]) c l Q E:=
 wp_ty (g:=dctV) rfl (by unfold dctV; exact wp_optT (o:=refOf (.ref a)) rfl (wp_cellT hc (wp_optT (o:=dctOf (.dict es)) rfl (wp_gdT (and_t hk (limB hl)) (wp_one q)))))
theorem wp_dictL {xs:List PV} {ps:List (Key × PV)} (hc:c[a]? = some (.list xs)) (hp:pairsOf xs = some ps) (hl:ps.length ≤ lim) (q:Q (.ref c.length) (c ++ [.dict (putAll ps [])]) l):Wp (biCall (.type "dict") [.ref a]) c l Q E:=
 wp_ty (g:=dctV) rfl (by unfold dctV; exact wp_optT (o:=refOf (.ref a)) rfl (wp_cellT hc (wp_optT hp (wp_gdT (limB hl) (wp_one q)))))
theorem wp_rng1 {b:Int} (h:smallI b = true) (q:Q (.rng 0 b 1) c l):Wp (biCall (.type "range") [.int b]) c l Q E:=wp_ty (g:=λ x=>rngV [x]) rfl (by show Wp (rngV [.int b]) c l Q E; unfold rngV; exact wp_optT (o:=intOf (.int b)) rfl (wp_gdT h (wp_ret q)))
theorem wp_rng3 {a b:Int} (h:smallI a = true) (h':smallI b = true) (q:Q (.rng a b (-1)) c l):Wp (biCall (.type "range") [.int a,.int b,.int (-1)]) c l Q E:=by
 show Wp (rngV [.int a,.int b,.int (-1)]) c l Q E
 unfold rngV
 exact wp_optT (o:=intOf (.int a)) rfl (wp_optT (o:=intOf (.int b)) rfl (wp_gdT (b:=[].isEmpty) rfl (wp_gdT (and_t (and_t h h') rfl) (wp_ret q))))
theorem wp_itrL {Q:It → Cells → Locs → Prop} {xs:List PV} (hc:c[a]? = some (.list xs)) (q:Q (.lst a) c l):Wp (iterV (.ref a)) c l Q E:=by
 unfold iterV
 exact wp_onLst hc (wp_ret q)
theorem wp_itrT {Q:It → Cells → Locs → Prop} {xs:List PV} (q:Q (.fix xs) c l):Wp (iterV (.tup xs)) c l Q E:=⟨q⟩
theorem wp_itrK {Q:It → Cells → Locs → Prop} {xs:List PV} (q:Q (.fix xs) c l):Wp (iterV (.klist xs)) c l Q E:=⟨q⟩
theorem wp_itrR {Q:It → Cells → Locs → Prop} {a b k:Int} (ha:smallI a = true) (hb:smallI b = true) (hk:k = 1 ∨ k = -1) (q:Q (.rng a b k) c l):Wp (iterV (.rng a b k)) c l Q E:=
 wp_gdT (and_t (and_t ha hb) (Bool.or_eq_true_iff.mpr (hk.imp decide_eq_true decide_eq_true))) (wp_ret q)
theorem wp_itrI {Q:It → Cells → Locs → Prop} {es:List (Key × PV)} (hc:c[a]? = some (.dict es)) (hk:(es.all λ e=>isS e.1) = true) (q:Q (.items a) c l):Wp (iterV (.items a)) c l Q E:=by
 unfold iterV
 exact wp_onDct hc (wp_gdT hk (wp_ret q))
theorem wp_add {a b:Int} (q:Q (.int (a + b)) c l):Wp (binV .Add (.int a) (.int b)) c l Q E:=⟨q⟩
theorem wp_subI {a b:Int} (q:Q (.int (a - b)) c l):Wp (binV .Sub (.int a) (.int b)) c l Q E:=⟨q⟩
theorem wp_mul {a b:Int} (ha:smallI a = true) (hb:smallI b = true) (q:Q (.int (a * b)) c l):Wp (binV .Mult (.int a) (.int b)) c l Q E:=wp_gdT (m:=ret (PV.int (a * b))) (and_t ha hb) (wp_ret q)
theorem wp_half {a:Int} (ha:smallI a = true) (q:Q (.int (a.fdiv 2)) c l):Wp (binV .FloorDiv (.int a) (.int 2)) c l Q E:=wp_gdT (m:=ret (PV.int (a.fdiv 2))) (b:=decide ((2:Int) = 2) && smallI a) (and_t rfl ha) (wp_ret q)
theorem wp_mod {a b:Int} (h:0 < b) (h':b ≤ 1009) (q:Q (.int (a.fmod b)) c l):Wp (binV .Mod (.int a) (.int b)) c l Q E:=wp_gdT (m:=ret (PV.int (a.fmod b))) (b:=decide (0 < b) && decide (b ≤ 1009)) (and_t (decide_eq_true h) (decide_eq_true h')) (wp_ret q)
theorem wp_cat {x y:List PV} {b:Nat} (ha:c[a]? = some (.list x)) (hb:c[b]? = some (.list y)) (hl:x.length + y.length ≤ lim) (q:Q (.ref c.length) (c ++ [.list (x ++ y)]) l):Wp (binV .Add (.ref a) (.ref b)) c l Q E:=
 (wp_onLst ha (wp_onLst hb (wp_gdT (limB hl) (wp_one q))):Wp (catV (.ref a) (.ref b)) c l Q E)
theorem wp_cut {xs:List PV} {k:Int} (h1:0 ≤ k) (h2:k ≤ lim) (h3:xs.length ≤ lim) (q:Q (.ref c.length) (c ++ [.list (xs.take k.toNat)]) l):Wp (cutL xs k) c l Q E:=wp_gdT (and_t (and_t (decide_eq_true h1) (decide_eq_true h2)) (limB h3)) (wp_one q)
theorem wp_slK {xs:List PV} {k:Int} (h1:0 ≤ k) (h2:k ≤ lim) (h3:xs.length ≤ lim) (q:Q (.ref c.length) (c ++ [.list (xs.take k.toNat)]) l):Wp (sliceV (.klist xs) (.int k)) c l Q E:=wp_optT (o:=intOf (.int k)) rfl (wp_cut h1 h2 h3 q)
theorem wp_slL {xs:List PV} {k:Int} (hc:c[a]? = some (.list xs)) (h1:0 ≤ k) (h2:k ≤ lim) (h3:xs.length ≤ lim) (q:Q (.ref c.length) (c ++ [.list (xs.take k.toNat)]) l):Wp (sliceV (.ref a) (.int k)) c l Q E:=wp_optT (o:=intOf (.int k)) rfl (wp_onLst (g:=λ zz xs=>cutL xs k) hc (wp_cut h1 h2 h3 q))
section cmp
variable {Q:Bool → Cells → Locs → Prop}
theorem wp_lt {a b:Int} (q:Q (decide (a < b)) c l):Wp (cmpV .Lt (.int a) (.int b)) c l Q E:=⟨q⟩
theorem wp_le {a b:Int} (q:Q (decide (a ≤ b)) c l):Wp (cmpV .LtE (.int a) (.int b)) c l Q E:=⟨q⟩
theorem wp_gt {a b:Int} (q:Q (decide (a > b)) c l):Wp (cmpV .Gt (.int a) (.int b)) c l Q E:=⟨q⟩
theorem wp_isN (q:Q true c l):Wp (cmpV .Is .none .none) c l Q E:=⟨q⟩
theorem wp_oc {o:Option Bool} {g:Bool → M Bool} {b:Bool} (h:o = some b) (q:Wp (g b) c l Q E):WpR (opt o g c l) Q E:=(wp_optT h q).run
theorem wp_eqq {x y:PV} {b:Bool} (h:eqV c x y = some b) (q:Q b c l):Wp (cmpV .Eq x y) c l Q E:=⟨wp_oc h (wp_ret q)⟩
theorem wp_neq {x y:PV} {b:Bool} (h:eqV c x y = some b) (q:Q (!b) c l):Wp (cmpV .NotEq x y) c l Q E:=⟨wp_oc (g:=λ b=>ret !b) h (wp_ret q)⟩
theorem wp_in {x y:PV} {b:Bool} (h:memV c x y = some b) (q:Q b c l):Wp (cmpV .In x y) c l Q E:=⟨wp_oc h (wp_ret q)⟩
theorem wp_nin {x y:PV} {b:Bool} (h:memV c x y = some b) (q:Q (!b) c l):Wp (cmpV .NotIn x y) c l Q E:=⟨wp_oc (g:=λ b=>ret !b) h (wp_ret q)⟩
end cmp
theorem eqV_d {x y:PV} (hx:refOf x = none) (h:smallD x = true) (h':smallD y = true):eqV c x y = some (eqData x y):=by
 unfold eqV
 rw [hx,h,h']; rfl
theorem eqV_i {i j:Int}:eqV c (.int i) (.int j) = some (i == j):=by
 show some (eqData (.int i) (.int j)) = some (i == j)
 have:eqData (.int i) (.int j) = (some (i == j) == some true):=rfl
 rw [this]
 cases i == j <;> rfl
theorem mem_bif {ys:List PV} {x:PV} (h:smallD x = true) (h':ys.all smallD = true):(bif smallD x && ys.all smallD then some (ys.any λ v=>eqData v x) else none) = some (ys.any λ v=>eqData v x):=by rw [h,h']; rfl
theorem memV_t {x:PV} {ys:List PV} (h:smallD x = true) (h':ys.all smallD = true):memV c x (.tup ys) = some (ys.any λ v=>eqData v x):=mem_bif h h'
theorem memV_l {x:PV} {ys:List PV} (hc:c[a]? = some (.list ys)) (h:smallD x = true) (h':ys.all smallD = true):memV c x (.ref a) = some (ys.any λ v=>eqData v x):=by
 unfold memV
 show (c[a]?.bind _) = _
 rw [hc]
 exact mem_bif h h'
theorem memV_k {k:Str} {es:List (Key × PV)} (hc:c[a]? = some (.dict es)) (h:(es.all λ e=>isS e.1) = true):memV c (.str k) (.ref a) = some (es.any λ e=>decide (e.1 = .s k)):=by
 unfold memV
 show (c[a]?.bind _) = _
 rw [hc]
 show (bif es.all (λ e=>isS e.1) then _ else _) = _
 rw [h]
 rfl
theorem wp_lz {x y:Nat} {xs ys:List PV} (hx:c[x]? = some (.list xs)) (hy:c[y]? = some (.list ys)) (h1:xs.length ≤ lim) (h2:ys.length ≤ lim) (q:Q (.ref c.length) (c ++ [.list (zipPairs xs ys)]) l):Wp (zipV (.val (.type "list")) (.val (.type "zip")) (.ref x) (.ref y)) c l Q E:=
 wp_gdT (b:=isTyp "zip" (.val (.type "zip"))) (by decide +kernel) (wp_onLst hx (wp_onLst hy (wp_gdT (and_t (limB h1) (limB h2)) (wp_sw (by rw [show isTyp "list" (.val (.type "list")) = true from by decide +kernel]; exact wp_one q)))))
theorem lstAt_of {xs:List PV} (hc:c[a]? = some (.list xs)):lstAtC c a = some xs:=by unfold lstAtC; rw [hc]; rfl
theorem it_lst {xs:List PV} {i:Nat} (hc:c[a]? = some (.list xs)) (hl:xs.length ≤ lim):itemAt c (.lst a) i = some xs[i]?:=by
 show ((lstAtC c a).bind λ xs=>bif decide (xs.length ≤ lim) then some xs[i]? else none) = _
 rw [lstAt_of hc]
 show (bif decide (xs.length ≤ lim) then some xs[i]? else none) = _
 rw [limB hl]; rfl
theorem it_fix {xs:List PV} {i:Nat} (hl:xs.length ≤ lim):itemAt c (.fix xs) i = some xs[i]?:=by
 show (bif decide (xs.length ≤ lim) then some xs[i]? else none) = _
 rw [limB hl]; rfl
theorem it_items {es:List (Key × PV)} {i:Nat} (hc:c[a]? = some (.dict es)) (hk:(es.all λ e=>isS e.1) = true):itemAt c (.items a) i = some (es.map λ e=>PV.tup [keyPV e.1,e.2])[i]?:=by
 show ((c[a]?.bind dctOf).bind λ es=>bif es.all (λ e=>isS e.1) then some (es[i]?.map λ e=>PV.tup [keyPV e.1,e.2]) else none) = _
 rw [hc,List.getElem?_map]
 show (bif es.all (λ e=>isS e.1) then some (es[i]?.map λ e=>PV.tup [keyPV e.1,e.2]) else none) = _
 rw [hk]; rfl
noncomputable def rngUp (b:Int):List PV:=(List.range b.toNat).map λ (i:Nat)=>PV.int i
theorem it_up {b:Int} {i:Nat}:itemAt c (.rng 0 b 1) i = some (rngUp b)[i]?:=by
 have e:itemAt c (.rng 0 b 1) i = some (if (0:Int) + i < b then some (PV.int (0 + i)) else none):=rfl
 rw [e]
 unfold rngUp
 rw [List.getElem?_map,Int.zero_add]
 congr 1
 by_cases h:(i:Int) < b
 ·rw [if_pos h,List.getElem?_range (show i < b.toNat by omega)]; rfl
 ·rw [if_neg h,List.getElem?_eq_none (by rw [List.length_range]; omega)]; rfl
noncomputable def rngDown (a:Int):List PV:=(List.range (a + 1).toNat).map λ (i:Nat)=>PV.int (a - i)
theorem it_down {i:Nat} {n:Int}:itemAt c (.rng n (-1) (-1)) i = some (rngDown n)[i]?:=by
 have e:itemAt c (.rng n (-1) (-1)) i = some (if -1 < n - (i:Int) then some (PV.int (n - i)) else none):=rfl
 rw [e]
 unfold rngDown
 rw [List.getElem?_map]
 congr 1
 by_cases h:-1 < n - (i:Int)
 ·rw [if_pos h,List.getElem?_range (show i < (n + 1).toNat by omega)]; rfl
 ·rw [if_neg h,List.getElem?_eq_none (by rw [List.length_range]; omega)]; rfl
theorem zip_items:∀ {xs ys:List PV} {i:Nat},pairAt xs[i]? ys[i]? = (zipPairs xs ys)[i]?
 | [],ys,j=>rfl
 | x :: xs,[],0=>rfl
 | x :: xs,[],j + 1=>by show pairAt xs[j]? none = none; cases xs[j]? <;> rfl
 | x :: xs,y :: ys,0=>rfl
 | x :: xs,y :: ys,j + 1=>zip_items (xs:=xs) (ys:=ys) (i:=j)
theorem it_zip {x y i:Nat} {xs ys:List PV} (hx:c[x]? = some (.list xs)) (hy:c[y]? = some (.list ys)) (h1:xs.length ≤ lim) (h2:ys.length ≤ lim):itemAt c (.zip x y) i = some (zipPairs xs ys)[i]?:=by
 show ((lstAtC c x).bind λ xs=>(lstAtC c y).bind λ ys=>bif decide (xs.length ≤ lim) && decide (ys.length ≤ lim) then some (pairAt xs[i]? ys[i]?) else none) = _
 rw [lstAt_of hx,lstAt_of hy]
 show (bif decide (xs.length ≤ lim) && decide (ys.length ≤ lim) then some (pairAt xs[i]? ys[i]?) else none) = _
 rw [limB h1,limB h2]
 exact congrArg some zip_items
end
end Mine
end
section
open PySem
set_option backward.match.sparseCases false
namespace Mine
inductive SV where
 | v (x:PV)
 | l (xs:List PV)
 | d (ps:List (Key × PV))
 | m (m:Mth)
inductive Ins where
 | k (v:PV)
 | loc (x:Str)
 | box (i:Nat)
 | bin (op:Operator)
 | cmp (op:CmpOp)
 | opV (op:BoolOp) (b:G .e)
 | ife (a b:G .e)
 | tup
 | lst
 | dct
 | emp
 | attr (a:Str)
 | sub
 | slc
 | mth (a:Str)
 | doM
 | call
 | zip
 | comp (tg:Bool) (s:G .s) (x:G .e)
 | lam (a k:Nat) (fc:List (Str × Nat))
 | nt
 | bop (op:BoolOp) (r:G .t)
 | val
 | nil
 | cons
 | dnil
 | dcons (k:Str)
 | sl (x:Str)
 | sb (i:Nat)
 | sa (a:Str)
 | si
 | unt (n:Nat)
 | hd
 | end0
 | ret
 | swp (a b:Str)
 | pop
 | ite (a b:F)
 | whl (t:G .t) (b:F)
 | for (tg:Bool) (s:G .s) (b:F)
 | fzp (tg:Bool) (s:G .s) (b:F)
 | chk
 | jn
 | rais
 | tri (b:F) (r:Str)
noncomputable def comp:{τ:Ty} → G τ → List Ins → List Ins
 | _,.k v,c=>.k v :: c
 | _,.loc x,c=>.loc x :: c
 | _,.box i,c=>.box i :: c
 | _,.bin op a b,c=>comp a (comp b (.bin op :: c))
 | _,.cmp op a b,c=>comp a (comp b (.cmp op :: c))
 | _,.opV op a b,c=>comp a (.opV op b :: c)
 | _,.ife t a b,c=>comp t (.ife a b :: c)
 | _,.tup l,c=>comp l (.tup :: c)
 | _,.lst l,c=>comp l (.lst :: c)
 | _,.dct d,c=>comp d (.dct :: c)
 | _,.emp,c=>.emp :: c
 | _,.attr o a,c=>comp o (.attr a :: c)
 | _,.sub o i,c=>comp o (comp i (.sub :: c))
 | _,.slc o i,c=>comp o (comp i (.slc :: c))
 | _,.meth o a l,c=>comp o (.mth a :: comp l (.doM :: c))
 | _,.call f l,c=>comp f (comp l (.call :: c))
 | _,.zip f z p q,c=>comp f (comp z (comp p (comp q (.zip :: c))))
 | _,.comp tg it s x,c=>comp it (.comp tg s x :: c)
 | _,.lam a k fc,c=>.lam a k fc :: c
 | _,.nt t,c=>comp t (.nt :: c)
 | _,.bop op t r,c=>comp t (.bop op r :: c)
 | _,.tend op,c=>.k (.bool (op == .And)) :: c
 | _,.cmpT op a b,c=>comp a (comp b (.cmp op :: c))
 | _,.val e,c=>comp e (.val :: c)
 | _,.nil,c=>.nil :: c
 | _,.cons e l,c=>comp e (comp l (.cons :: c))
 | _,.dnil,c=>.dnil :: c
 | _,.dcons k e d,c=>comp e (comp d (.dcons k :: c))
 | _,.sl x,c=>.sl x :: c
 | _,.sb i,c=>.sb i :: c
 | _,.sa o a,c=>comp o (.sa a :: c)
 | _,.si o i,c=>comp o (comp i (.si :: c))
 | _,.stup n ss,c=>.unt n :: comp ss c
 | _,.snil,c=>.end0 :: c
 | _,.scons s r,c=>.hd :: comp s (comp r c)
 | _,.jend,c=>c
 | _,.jn e u,c=>comp e (.jn :: comp u c)
noncomputable def compF:F → List Ins → List Ins
 | .sq s r,c=>compF s (compF r c)
 | .done,c=>c
 | .ret e,_=>comp e [.ret]
 | .asg e s,c=>comp e (comp s c)
 | .swp e a b,c=>comp e (.swp a b :: c)
 | .exp e,c=>comp e (.pop :: c)
 | .iff t a b,c=>comp t (.ite a b :: c)
 | .whl t b,c=>.whl t b :: c
 | .for tg it s b,c=>comp it (.for tg s b :: c)
 | .fzp tg z p q s b,c=>comp z (comp p (comp q (.fzp tg s b :: c)))
 | .rai u,_=>.chk :: comp u [.rais]
 | .tri b r,c=>.tri b r :: c
structure PC where
 N:Cells → Locs → Prop
 R:PV → Cells → Locs → Prop
 E:Cells → Prop
noncomputable def t1 (st:List SV) (f:PV → List SV → Prop):Prop:=match st with
 | .v x :: r=>f x r
 | _=>False
noncomputable def tb (st:List SV) (f:Bool → List SV → Prop):Prop:=t1 st λ v r=>match v with
 | .bool b=>f b r
 | _=>False
noncomputable def tl (st:List SV) (f:List PV → List SV → Prop):Prop:=match st with
 | .l x :: r=>f x r
 | _=>False
noncomputable def td (st:List SV) (f:List (Key × PV) → List SV → Prop):Prop:=match st with
 | .d x :: r=>f x r
 | _=>False
noncomputable def tm (st:List SV) (f:Mth → List SV → Prop):Prop:=match st with
 | .m x :: r=>f x r
 | _=>False
noncomputable def stp (i:Ins) (st:List SV) (I:In) (c:Cells) (l:Locs) (P:PC) (W:List SV → Cells → Locs → Prop):Prop:=match i with
 | .k v=>W (.v v :: st) c l
 | .loc x=>wpO (l.lookup x) λ v=>W (.v v :: st) c l
 | .box i=>Wp (ldB (I.b i)) c l (λ v=>W (.v v :: st)) P.E
 | .bin op=>t1 st λ y st=>t1 st λ x st=>Wp (binV op x y) c l (λ v=>W (.v v :: st)) P.E
 | .cmp op=>t1 st λ y st=>t1 st λ x st=>Wp (cmpV op x y) c l (λ b=>W (.v (.bool b) :: st)) P.E
 | .opV op b=>t1 st λ v st=>wpO (boolOf v) λ t=>wpI (endB op t) (W (.v (.bool t) :: st) c l) (Wp (den b I ()) c l (λ v=>W (.v v :: st)) P.E)
 | .ife a b=>tb st λ q st=>wpI q (Wp (den a I ()) c l (λ v=>W (.v v :: st)) P.E) (Wp (den b I ()) c l (λ v=>W (.v v :: st)) P.E)
 | .tup=>tl st λ vs st=>wpB (decide (vs.length ≤ 100)) (W (.v (.tup vs) :: st) c l)
 | .lst=>tl st λ vs st=>wpB (decide (vs.length ≤ 100)) (W (.v (.ref c.length) :: st) (c ++ [.list vs]) l)
 | .dct=>td st λ ps st=>W (.v (.ref c.length) :: st) (c ++ [.dict (putAll ps [])]) l
 | .emp=>W (.v (.ref c.length) :: st) (c ++ [.dict []]) l
 | .attr a=>t1 st λ x st=>Wp (getAttrV tbl x a) c l (λ v=>W (.v v :: st)) P.E
 | .sub=>t1 st λ y st=>t1 st λ x st=>Wp (itemV x y) c l (λ v=>W (.v v :: st)) P.E
 | .slc=>t1 st λ y st=>t1 st λ x st=>Wp (sliceV x y) c l (λ v=>W (.v v :: st)) P.E
 | .mth a=>t1 st λ x st=>Wp (methV tbl x a) c l (λ m=>W (.m m :: .v x :: st)) P.E
 | .doM=>tl st λ vs st=>tm st λ m st=>t1 st λ x st=>Wp (doM I.cf I.ro m x vs) c l (λ v=>W (.v v :: st)) P.E
 | .call=>tl st λ vs st=>t1 st λ f st=>Wp (callV I.cf I.ro f vs) c l (λ v=>W (.v v :: st)) P.E
 | .zip=>t1 st λ y st=>t1 st λ x st=>t1 st λ z st=>t1 st λ f st=>Wp (zipV f z x y) c l (λ v=>W (.v v :: st)) P.E
 | .comp tg s x=>t1 st λ y st=>Wp (iterV y) c l (λ i c l=>wpB (fitsB tg i) (Wp (collIt i (λ v=>bnd (den s (I.it i) v) λ zz=>den x (I.it i) ()) turns 0) c [] (λ vs c' zz=>W (.v (.ref c'.length) :: st) (c' ++ [.list vs]) l) λ zz=>False)) P.E
 | .lam a k fc=>W (.v (Mine.lam a k (fc.map λ p=>(p.1,I.b p.2))) :: st) c l
 | .nt=>tb st λ b st=>W (.v (.bool (!b)) :: st) c l
 | .bop op r=>tb st λ b st=>wpI (endB op b) (W (.v (.bool b) :: st) c l) (Wp (den r I ()) c l (λ b=>W (.v (.bool b) :: st)) P.E)
 | .val=>t1 st λ v st=>wpO (boolOf v) λ t=>W (.v (.bool t) :: st) c l
 | .nil=>W (.l [] :: st) c l
 | .cons=>tl st λ xs st=>t1 st λ x st=>W (.l (x :: xs) :: st) c l
 | .dnil=>W (.d [] :: st) c l
 | .dcons k=>td st λ ps st=>t1 st λ x st=>W (.d ((.s k,x) :: ps) :: st) c l
 | .sl x=>t1 st λ v st=>W st c (putLoc x v l)
 | .sb i=>t1 st λ v st=>Wp (stB I.ro (I.b i) v) c l (λ zz=>W st) P.E
 | .sa a=>t1 st λ o st=>t1 st λ v st=>Wp (setAttrV tbl I.ro o a v) c l (λ zz=>W st) P.E
 | .si=>t1 st λ i st=>t1 st λ o st=>t1 st λ v st=>Wp (setItemV I.ro o i v) c l (λ zz=>W st) P.E
 | .unt n=>t1 st λ v st=>wpO (tupOf v) λ vs=>wpB (decide (vs.length = n) && true) (W (.l vs :: st) c l)
 | .hd=>tl st λ vs st=>wpL vs λ x xs=>W (.v x :: .l xs :: st) c l
 | .end0=>tl st λ vs st=>wpB vs.isEmpty (W st c l)
 | .ret=>t1 st λ v zz=>P.R v c l
 | .swp a b=>t1 st λ v st=>wpO ((tupOf v).bind twoOf) λ p=>W st c (putLoc a p.1 (putLoc b p.2 l))
 | .pop=>t1 st λ zz st=>W st c l
 | .ite a b=>tb st λ q st=>wpI q (Wp (denF a I) c l (flw (W st) P.R) P.E) (Wp (denF b I) c l (flw (W st) P.R) P.E)
 | .whl t b=>Wp (loopN (den t I ()) (denF b I) turns) c l (flw (W st) P.R) P.E
 | .for tg s b=>t1 st λ y st=>Wp (iterV y) c l (λ i c l=>wpB (fitsB tg i) (Wp (loopIt i (λ v=>bnd (den s (I.it i) v) λ zz=>denF b (I.it i)) turns 0) c l (flw (W st) P.R) P.E)) P.E
 | .fzp tg s b=>t1 st λ y st=>t1 st λ x st=>t1 st λ z st=>wpB (tg && isTyp "zip" z) (wpO (refOf x) λ i=>wpO (refOf y) λ j=>Wp (loopIt (.zip i j) (λ v=>bnd (den s I v) λ zz=>denF b I) turns 0) c l (flw (W st) P.R) P.E)
 | .chk=>wpB (!I.ro && true) (W st c l)
 | .jn=>t1 st λ v st=>wpO (strOf v) λ z=>z.length ≤ 1000 ∧ W st c l
 | .rais=>P.E c
 | .tri b r=>wpB (!I.ro) (Wp (denF b I) c l (flw (W st) P.R) λ c'=>P.R (.str r) c' [])
noncomputable def wpC:List Ins → List SV → In → Cells → Locs → PC → Prop
 | [],_,_,c,l,P=>P.N c l
 | i :: k,st,I,c,l,P=>stp i st I c l P λ st c l=>wpC k st I c l P
noncomputable abbrev Ty.arg:(τ:Ty) → τ.X → List SV → List SV
 | .s,x,st=>.v x :: st
 | .ss,xs,st=>.l xs :: st
 | .e,_,st=>st
 | .t,_,st=>st
 | .l,_,st=>st
 | .d,_,st=>st
 | .u,_,st=>st
noncomputable abbrev Ty.res:(τ:Ty) → τ.V → List SV → List SV
 | .e,v,st=>.v v :: st
 | .t,b,st=>.v (.bool b) :: st
 | .l,vs,st=>.l vs :: st
 | .d,ps,st=>.d ps :: st
 | .s,_,st=>st
 | .ss,_,st=>st
 | .u,_,st=>st
theorem comp_ok {I:In} {P:PC}:∀ {τ:Ty} (g:G τ) {x:τ.X} {k:List Ins} {st:List SV} {c:Cells} {l:Locs},wpC (comp g k) (τ.arg x st) I c l P → Wp (den g I x) c l (λ v c l=>wpC k (τ.res v st) I c l P) P.E:=by
 intro τ g
 induction g with
 | k v=>exact λ h=>⟨h⟩
 | loc x=>exact λ h=>wp_ldL h
 | box i=>exact λ h=>h
 | bin op a b ia ib=>exact λ h=>wp_bnd (wp_to (ia h) λ zz zz zz h=>wp_bnd (wp_to (ib h) λ zz zz zz h=>h))
 | cmp op a b ia ib=>exact λ h=>wp_bnd (wp_to (ia h) λ zz zz zz h=>wp_bnd (wp_to (ib h) λ zz zz zz h=>wp_bnd (wp_to h λ zz zz zz h=>⟨h⟩)))
 | opV op a b ia ib=>exact λ h=>wp_bnd (wp_to (ia h) λ zz zz zz h=>wp_opt (wpO_to h λ zz h=>wp_sw (wpI_to h (λ h=>⟨h⟩) id)))
 | ife t a b it ia ib=>exact λ h=>wp_bnd (wp_to (it h) λ zz zz zz h=>wp_sw (wpI_to h id id))
 | tup s is=>exact λ h=>wp_bnd (wp_to (is h) λ zz zz zz h=>wp_gd (wpB_to h λ h=>⟨h⟩))
 | lst s is=>exact λ h=>wp_bnd (wp_to (is h) λ zz zz zz h=>wp_gd (wpB_to h λ h=>wp_one h))
 | dct d id=>exact λ h=>wp_bnd (wp_to (id h) λ zz zz zz h=>wp_one h)
 | emp=>exact λ h=>wp_one h
 | attr o a io=>exact λ h=>wp_bnd (wp_to (io h) λ zz zz zz h=>h)
 | sub o i io ii=>exact λ h=>wp_bnd (wp_to (io h) λ zz zz zz h=>wp_bnd (wp_to (ii h) λ zz zz zz h=>h))
 | slc o i io ii=>exact λ h=>wp_bnd (wp_to (io h) λ zz zz zz h=>wp_bnd (wp_to (ii h) λ zz zz zz h=>h))
 | meth o a s io is=>exact λ h=>wp_bnd (wp_to (io h) λ zz zz zz h=>wp_bnd (wp_to h λ zz zz zz h=>wp_bnd (wp_to (is h) λ zz zz zz h=>h)))
 | call f s jf is=>exact λ h=>wp_bnd (wp_to (jf h) λ zz zz zz h=>wp_bnd (wp_to (is h) λ zz zz zz h=>h))
 | zip f z p q jf iz ip iq=>exact λ h=>wp_bnd (wp_to (jf h) λ zz zz zz h=>wp_bnd (wp_to (iz h) λ zz zz zz h=>wp_bnd (wp_to (ip h) λ zz zz zz h=>wp_bnd (wp_to (iq h) λ zz zz zz h=>h))))
 | comp tg it st x ii is ix=>exact λ h=>wp_bnd (wp_to (ii h) λ zz zz zz h=>wp_bnd (wp_to h λ zz zz zz h=>wp_gd (wpB_to h λ h=>wp_cpr h)))
 | lam a k fc=>exact λ h=>⟨h⟩
 | nt t it=>exact λ h=>wp_bnd (wp_to (it h) λ zz zz zz h=>⟨h⟩)
 | bop op t r it ir=>exact λ h=>wp_bnd (wp_to (it h) λ zz zz zz h=>wp_sw (wpI_to h (λ h=>⟨h⟩) id))
 | tend op=>exact λ h=>⟨h⟩
 | cmpT op a b ia ib=>exact λ h=>wp_bnd (wp_to (ia h) λ zz zz zz h=>wp_bnd (wp_to (ib h) λ zz zz zz h=>h))
 | val e ie=>exact λ h=>wp_bnd (wp_to (ie h) λ zz zz zz h=>wp_opt (wpO_to h λ zz h=>⟨h⟩))
 | nil=>exact λ h=>⟨h⟩
 | cons e s ie is=>exact λ h=>wp_bnd (wp_to (ie h) λ zz zz zz h=>wp_bnd (wp_to (is h) λ zz zz zz h=>⟨h⟩))
 | dnil=>exact λ h=>⟨h⟩
 | dcons k e d ie id=>exact λ h=>wp_bnd (wp_to (ie h) λ zz zz zz h=>wp_bnd (wp_to (id h) λ zz zz zz h=>⟨h⟩))
 | sl x=>exact λ h=>wp_stL h
 | sb i=>exact λ h=>h
 | sa o a io=>exact λ h=>wp_bnd (wp_to (io h) λ zz zz zz h=>h)
 | si o i io ii=>exact λ h=>wp_bnd (wp_to (io h) λ zz zz zz h=>wp_bnd (wp_to (ii h) λ zz zz zz h=>h))
 | stup n ss is=>exact λ h=>wp_opt (wpO_to h λ zz h=>wp_gd (wpB_to h is))
 | snil=>exact λ h=>wp_gd (wpB_to h λ h=>⟨h⟩)
 | scons s r is ir=>exact λ h=>wp_consT (wpL_to h λ zz zz h=>wp_to (is h) λ zz zz zz h=>ir h)
 | jend=>exact λ h=>⟨h⟩
 | jn e u ie iu=>exact λ h=>wp_bnd (wp_to (ie h) λ zz zz zz h=>wp_opt (wpO_to h λ zz h=>wp_gd (by rw [decide_eq_true h.1]; exact iu h.2)))
theorem compF_ok {I:In} {P:PC}:∀ (g:F) {k:List Ins} {st:List SV} {c:Cells} {l:Locs},wpC (compF g k) st I c l P → Wp (denF g I) c l (flw (λ c l=>wpC k st I c l P) P.R) P.E
 | .sq s r,_,_,_,_,h=>wp_bnd (wp_to (compF_ok s h) λ w c l h=>wp_fon (flw_to (λ zz zz h=>compF_ok r h) w c l h))
 | .done,_,_,_,_,h=>⟨h⟩
 | .ret e,_,st,_,_,h=>wp_bnd (wp_to (comp_ok e (st:=st) (k:=[.ret]) h) λ zz zz zz h=>⟨h⟩)
 | .asg e s,_,_,_,_,h=>wp_bnd (wp_to (comp_ok e h) λ zz zz zz h=>wp_bnd (wp_to (comp_ok s h) λ zz zz zz h=>⟨h⟩))
 | .swp e a b,_,_,_,_,h=>wp_bnd (wp_to (comp_ok e h) λ zz zz zz h=>wp_bnd (wp_opt (wpO_to h λ zz h=>wp_bnd (wp_stL (wp_stL ⟨h⟩)))))
 | .exp e,_,_,_,_,h=>wp_bnd (wp_to (comp_ok e h) λ zz zz zz h=>⟨h⟩)
 | .iff t a b,_,_,_,_,h=>wp_bnd (wp_to (comp_ok t h) λ zz zz zz h=>wp_sw (wpI_to h id id))
 | .whl t b,_,_,_,_,h=>h
 | .for tg it s b,_,_,_,_,h=>wp_bnd (wp_to (comp_ok it h) λ zz zz zz h=>wp_bnd (wp_to h λ zz zz zz h=>wp_gd h))
 | .fzp tg z p q s b,_,_,_,_,h=>wp_bnd (wp_to (comp_ok z h) λ zz zz zz h=>wp_bnd (wp_to (comp_ok p h) λ zz zz zz h=>wp_bnd (wp_to (comp_ok q h) λ zz zz zz h=>wp_gd (wpB_to h λ h=>wp_opt (wpO_to h λ zz h=>wp_opt h)))))
 | .rai u,_,st,_,_,h=>wp_gd (wpB_to h λ h=>wp_bnd (wp_to (comp_ok u (x:=()) (st:=st) (k:=[.rais]) h) λ zz zz zz h=>wp_raise h))
 | .tri b r,_,_,_,_,h=>wp_gd (wpB_to h λ h=>wp_try h)
end Mine
end
section
open PySem
set_option backward.match.sparseCases false
namespace Mine
noncomputable def valF:Flw → PV
 | .nxt=>.none
 | .ret v=>v
section
variable {α β:Type} {c c':Cells} {l l':Locs} {E:Cells → Prop} {cf:Callee} {ro:Bool}
theorem wpO_s {o:Option α} {v:α} {p:α → Prop} (h:o = some v) (q:p v):wpO o p:=h ▸ q
theorem wp_stop {m:M α} {Q:α → Cells → Locs → Prop} (h:Wp m c l Q E):Wp m c l Q E:=h
section fl
variable {N:Cells → Locs → Prop} {R:PV → Cells → Locs → Prop}
theorem wp_while {t:M Bool} {b:M Flw} (I:Nat → Cells → Locs → Prop) (step:∀ n c l,I n c l → Wp t c l (λ q c l=>wpI q (∃ k,k < n ∧ Wp b c l (flw (I k) R) E) (N c l)) E) :
  ∀ k n c l,n < k → I n c l → Wp (loopN t b k) c l (flw N R) E
 | 0,n,c,l,hk,h=>absurd hk (Nat.not_lt_zero _)
 | k + 1,n,c,l,hk,h=>wp_bnd (wp_to (step n c l h) λ q c l h=>wp_sw (wpI_to h (λ ⟨n',e,hb⟩=>wp_bnd (wp_to hb λ w c l h=>wp_fon (flw_to (λ c l h=>wp_while I step k n' c l (Nat.lt_of_lt_of_le e (Nat.le_of_lt_succ hk)) h) w c l h))) λ h=>⟨h⟩))
theorem wp_itm {o:Option PV} {e:M β} {g:PV → M β} {Q:β → Cells → Locs → Prop} {it:It} {i:Nat} (hi:itemAt c it i = some o) (hn:o = none → Wp e c l Q E) (hs:∀ v,o = some v → Wp (g v) c l Q E):Wp (λ c l=>onItm (itemAt c it i) e g c l) c l Q E:=⟨by
 show WpR (onItm (itemAt c it i) e g c l) Q E
 rw [hi]
 cases o with
 | none=>exact (hn rfl).run
 | some v=>exact (hs v rfl).run⟩
theorem at_end {xs:List PV} {i:Nat} (h1:i ≤ xs.length) (hx:xs[i]? = none):i = xs.length:=Nat.le_antisymm h1 (List.getElem?_eq_none_iff.mp hx)
theorem in_at {xs:List PV} {i:Nat} {x:PV} (hx:xs[i]? = some x):i + 1 ≤ xs.length:=(List.getElem?_eq_some_iff.mp hx).1
theorem wp_loop {it:It} {b:PV → M Flw} (xs:List PV) (I:Nat → Cells → Locs → Prop) (hit:∀ i c l,I i c l → itemAt c it i = some xs[i]?)
  (step:∀ i c l x,xs[i]? = some x → I i c l → Wp (b x) c l (flw (I (i + 1)) R) E) (post:∀ c l,I xs.length c l → N c l) :
  ∀ k i c l,i ≤ xs.length → xs.length < i + k → I i c l → Wp (loopIt it b k i) c l (flw N R) E
 | 0,i,c,l,h1,h2,h=>absurd h2 (Nat.not_lt.mpr h1)
 | k + 1,i,c,l,h1,h2,h=>wp_itm (hit i c l h) (λ hx=>⟨post c l (at_end h1 hx ▸ h)⟩) λ x hx=>wp_bnd (wp_to (step i c l x hx h) λ w c l h=>wp_fon (flw_to (λ c l h=>wp_loop xs I hit step post k (i + 1) c l (in_at hx) (by rw [Nat.succ_add]; exact h2) h) w c l h))
end fl
theorem wp_coll {it:It} {b:PV → M PV} {Q:List PV → Cells → Locs → Prop} (xs:List PV) (I:Nat → List PV → Cells → Locs → Prop) (hit:∀ i a c l,I i a c l → itemAt c it i = some xs[i]?)
  (step:∀ i a c l x,xs[i]? = some x → I i a c l → Wp (b x) c l (λ v c l=>I (i + 1) (a ++ [v]) c l) E) :
  ∀ k i a c l,i ≤ xs.length → xs.length < i + k → I i a c l → (∀ r c l,I xs.length (a ++ r) c l → Q r c l) → Wp (collIt it b k i) c l Q E
 | 0,i,a,c,l,h1,h2,h,q=>absurd h2 (Nat.not_lt.mpr h1)
 | k + 1,i,a,c,l,h1,h2,h,q=>wp_itm (hit i a c l h) (λ hx=>⟨q [] c l (by rw [List.append_nil]; exact at_end h1 hx ▸ h)⟩) λ x hx=>wp_bnd (wp_to (step i a c l x hx h) λ v c l h=>
  wp_bnd (wp_coll xs I hit step k (i + 1) (a ++ [v]) c l (in_at hx) (by rw [Nat.succ_add]; exact h2) h λ r c l h=>⟨q (v :: r) c l (by rw [List.append_assoc] at h; exact h)⟩))
theorem cp_fin {m:M Flw} {Q:PV → Cells → Prop} (h:Wp m c l (flw (λ c zz=>Q .none c) λ v c zz=>Q v c) E):Cp (fin (m c l)) Q E:=by
 have h:=h.run
 cases e:m c l with
 | ok w c' l'=>rw [e] at h; cases w <;> exact h
 | exc c'=>rw [e] at h; exact h
 | fail=>rw [e] at h; exact h
theorem cp_finE {m:M PV} {Q:PV → Cells → Prop} (h:Wp m c l (λ v c zz=>Q v c) E):Cp (finE (m c l)) Q E:=by
 have h:=h.run
 cases e:m c l with
 | ok w c' l'=>rw [e] at h; exact h
 | exc c'=>rw [e] at h; exact h
 | fail=>rw [e] at h; exact h
theorem cp_finC {m:M Flw} {i:Nat} {Q:PV → Cells → Prop} (h:Wp m c l (flw (λ c zz=>Q (.ref i) c) λ zz zz zz=>False) λ zz=>False):Cp (finC i (m c l)) Q E:=by
 have h:=h.run
 unfold finC
 cases e:m c l with
 | ok w c' l'=>
  rw [e] at h
  cases w with
  | nxt=>exact h
  | ret v=>exact h.elim
 | exc c'=>rw [e] at h; exact h.elim
 | fail=>rw [e] at h; exact h
theorem wp_lift {Q:PV → Cells → Locs → Prop} {r:CR} (h:Cp r (λ v c=>Q v c l) E):WpR (lift r c l) Q E:=by
 cases r with
 | ok v c'=>exact h
 | exc c'=>exact h
 | fail=>exact h
theorem wp_fn {Q:PV → Cells → Locs → Prop} {a:Addr} {vs:List PV} (h:Cp (cf ro (.val (.ref a)) vs c) (λ v c=>Q v c l) E):Wp (callV cf ro (.val (.ref a)) vs) c l Q E:=⟨wp_lift (c:=c) h⟩
theorem wp_clo {Q:PV → Cells → Locs → Prop} {b:Expr} {s:Scope} {k:List (Str × Nat)} {vs:List PV} (h:Cp (cf ro (.clo b s k) vs c) (λ v c=>Q v c l) E):Wp (callV cf ro (.clo b s k) vs) c l Q E:=⟨wp_lift (c:=c) h⟩
theorem wp_dofn {Q:PV → Cells → Locs → Prop} {g:Addr} {x:PV} {vs:List PV} (h:Cp (cf ro (.val (.ref g)) (x :: vs) c) (λ v c=>Q v c l) E):Wp (doM cf ro (.fn g) x vs) c l Q E:=wp_fn h
theorem wp_dobi {Q:PV → Cells → Locs → Prop} {b:Bool} {n:Str} {x:PV} {vs:List PV} (h:Wp (methB ro x b n vs) c l Q E):Wp (doM cf ro (.bi b n) x vs) c l Q E:=h
theorem wp_cbi {Q:PV → Cells → Locs → Prop} {n:String} {vs:List PV} (h:Wp (biCall (.builtin n) vs) c l Q E):Wp (callV cf ro (.val (.builtin n)) vs) c l Q E:=h
theorem wp_cty {Q:PV → Cells → Locs → Prop} {n:String} {vs:List PV} (h:Wp (biCall (.type n) vs) c l Q E):Wp (callV cf ro (.val (.type n)) vs) c l Q E:=h
end
theorem lk_hd {β:Type} {x:Str} {v:β} {r:List (Str × β)}:List.lookup x ((x,v) :: r) = some v:=by rw [List.lookup_cons,beq_self_eq_true]
theorem lk_tl {β:Type} {x y:Str} {u:β} {r:List (Str × β)} {z:Option β} (h:(x == y) = false) (e:r.lookup x = z):List.lookup x ((y,u) :: r) = z:=by rw [List.lookup_cons,h]; exact e
theorem lk_put {x:Str} {v:PV} {l:Locs}:List.lookup x (putLoc x v l) = some v:=by
 induction l with
 | nil=>exact (List.lookup_cons ..).trans (by rw [beq_self_eq_true])
 | cons p r ih=>
  obtain ⟨y,u⟩:=p
  unfold putLoc
  by_cases h:y = x
  ·rw [if_pos h,List.lookup_cons,beq_self_eq_true]
  ·rw [if_neg h,List.lookup_cons,beq_false_of_ne λ q=>h q.symm]; exact ih
theorem lk_pne {x y:Str} {u:PV} {z:Option PV} {l:Locs} (h:(x == y) = false) (e:l.lookup x = z):List.lookup x (putLoc y u l) = z:=by
 induction l with
 | nil=>exact (List.lookup_cons ..).trans (by rw [h]; exact e)
 | cons p r ih=>
  obtain ⟨w,t⟩:=p
  unfold putLoc
  by_cases q:w = y
  ·rw [if_pos q,List.lookup_cons,h]
   rw [List.lookup_cons,q,h] at e
   exact e
  ·rw [if_neg q,List.lookup_cons]
   rw [List.lookup_cons] at e
   cases hb:x == w with
   | true=>rw [hb] at e; exact e
   | false=>rw [hb] at e; exact ih e
end Mine
end
section
open PySem
set_option backward.match.sparseCases false
namespace Mine
set_option genCtorIdx true in
inductive Rl where
 | feed | world | syms | sn | sw | fn | fa | fr | marks | pics | wsc | wbd | so | fu | br | sc | le
 deriving DecidableEq
structure Gh where
 A:Rl → Nat
 X:Rl → Cell
 I:Nat → Option Cell
noncomputable def upd {α:Type} (f:Rl → α) (r:Rl) (x:α):Rl → α:=λ s=>if s = r then x else f s
theorem upd_same {α:Type} {f:Rl → α} {r:Rl} {x:α}:upd f r x r = x:=by unfold upd; rw [if_pos rfl]
theorem upd_ne {α:Type} {f:Rl → α} {r s:Rl} {x:α} (h:s ≠ r):upd f r x s = f s:=by unfold upd; rw [if_neg h]
noncomputable def Gh.setX (g:Gh) (r:Rl) (x:Cell):Gh:=⟨g.A,upd g.X r x,g.I⟩
noncomputable def Gh.newA (g:Gh) (r:Rl) (n:Nat) (x:Cell):Gh:=⟨upd g.A r n,upd g.X r x,g.I⟩
noncomputable def Gh.addI (g:Gh) (n:Nat) (x:Cell):Gh:=⟨g.A,g.X,λ i=>if i = n then some x else g.I i⟩
theorem setX_same {g:Gh} {r:Rl} {x:Cell}:(g.setX r x).X r = x:=upd_same
theorem setX_ne {g:Gh} {r s:Rl} {x:Cell} (h:s ≠ r):(g.setX r x).X s = g.X s:=upd_ne h
structure St (g:Gh) (c:Cells):Prop where
 inj:∀ r s,g.A r = g.A s → r = s
 mt:∀ r,c[g.A r]? = some (g.X r)
 frz:∀ i x,g.I i = some x → c[i]? = some x
 apt:∀ i r x,g.I i = some x → g.A r ≠ i
section
variable {g g':Gh} {c:Cells} {x y:Cell} {i n:Nat} {r:Rl}
theorem St.ltA (h:St g c) (r:Rl):g.A r < c.length:=(List.getElem?_eq_some_iff.mp (h.mt r)).1
theorem St.ltI (h:St g c) (e:g.I i = some x):i < c.length:=(List.getElem?_eq_some_iff.mp (h.frz i x e)).1
theorem St.fresh (h:St g c) (hn:c.length ≤ n):g.I n = none:=by
 cases e:g.I n with
 | none=>rfl
 | some x=>exact absurd (h.ltI e) (by omega)
theorem get_app (e:c[i]? = some x) (xs:Cells):(c ++ xs)[i]? = some x:=by
 rw [List.getElem?_append_left (List.getElem?_eq_some_iff.mp e).1]; exact e
theorem get_end:(c ++ [x])[c.length]? = some x:=by simp
theorem get_set (h:i < c.length):(c.set i x)[i]? = some x:=by rw [List.getElem?_set_self h]
theorem get_set_ne (h:n ≠ i):(c.set n x)[i]? = c[i]?:=by rw [List.getElem?_set_ne h]
theorem St.app (h:St g c) (xs:Cells):St g (c ++ xs):=
 ⟨h.inj,λ r=>get_app (h.mt r) xs,λ i x e=>get_app (h.frz i x e) xs,h.apt⟩
theorem St.set (h:St g c) (r:Rl) (x:Cell):St (g.setX r x) (c.set (g.A r) x):=by
 refine ⟨h.inj,λ s=>?_,λ i y e=>?_,h.apt⟩
 ·show (c.set (g.A r) x)[g.A s]? = some (upd g.X r x s)
  by_cases q:s = r
  ·subst q; rw [upd_same,get_set (h.ltA _)]
  ·rw [upd_ne q,get_set_ne (λ z=>q (h.inj _ _ z).symm)]; exact h.mt s
 ·show (c.set (g.A r) x)[i]? = some y
  rw [get_set_ne (h.apt i r y e)]; exact h.frz i y e
theorem St.new (h:St g c) (r:Rl) (x:Cell):St (g.newA r c.length x) (c ++ [x]):=by
 refine ⟨λ a b e=>?_,λ s=>?_,λ i y e=>get_app (h.frz i y e) _,λ i s y e=>?_⟩
 ·have e':upd g.A r c.length a = upd g.A r c.length b:=e
  by_cases qa:a = r <;> by_cases qb:b = r
  ·rw [qa,qb]
  ·subst qa; rw [upd_same,upd_ne qb] at e'; exact absurd (h.ltA b) (by omega)
  ·subst qb; rw [upd_same,upd_ne qa] at e'; exact absurd (h.ltA a) (by omega)
  ·rw [upd_ne qa,upd_ne qb] at e'; exact h.inj _ _ e'
 ·show (c ++ [x])[upd g.A r c.length s]? = some (upd g.X r x s)
  by_cases q:s = r
  ·subst q; rw [upd_same,upd_same]; exact get_end
  ·rw [upd_ne q,upd_ne q]; exact get_app (h.mt s) _
 ·show upd g.A r c.length s ≠ i
  by_cases q:s = r
  ·subst q; rw [upd_same]; exact Nat.ne_of_gt (h.ltI (show g.I i = some y from e))
  ·rw [upd_ne q]; exact h.apt i s y e
theorem St.addI (h:St g c) (x:Cell):St (g.addI c.length x) (c ++ [x]):=by
 refine ⟨h.inj,λ s=>get_app (h.mt s) _,λ i y e=>?_,λ i s y e=>?_⟩
 ·have e':(if i = c.length then some x else g.I i) = some y:=e
  by_cases q:i = c.length
  ·subst q; rw [if_pos rfl] at e'; cases e'; exact get_end
  ·rw [if_neg q] at e'; exact get_app (h.frz i y e') _
 ·have e':(if i = c.length then some x else g.I i) = some y:=e
  by_cases q:i = c.length
  ·subst q; exact Nat.ne_of_lt (h.ltA s)
  ·rw [if_neg q] at e'; exact h.apt i s y e'
theorem St.reI (h:St g c) (hi:g.I n = some y) (x:Cell):St (g.addI n x) (c.set n x):=by
 refine ⟨h.inj,λ s=>?_,λ i z e=>?_,λ i s z e=>?_⟩
 ·show (c.set n x)[g.A s]? = some (g.X s)
  rw [get_set_ne (λ q=>h.apt n s y hi q.symm)]; exact h.mt s
 ·have e':(if i = n then some x else g.I i) = some z:=e
  by_cases q:i = n
  ·subst q; rw [if_pos rfl] at e'; cases e'; exact get_set (h.ltI hi)
  ·rw [if_neg q] at e'; rw [get_set_ne (λ z=>q z.symm)]; exact h.frz i z e'
 ·have e':(if i = n then some x else g.I i) = some z:=e
  by_cases q:i = n
  ·subst q; exact h.apt _ s y hi
  ·rw [if_neg q] at e'; exact h.apt i s z e'
theorem addI_self:(g.addI n x).I n = some x:=by unfold Gh.addI; dsimp only; rw [if_pos rfl]
theorem addI_of (h:g.I i = some y) (hn:g.I n = none):(g.addI n x).I i = some y:=by
 unfold Gh.addI; dsimp only; rw [if_neg (λ q=>by subst q; rw [h] at hn; cases hn)]; exact h
theorem addI_ne (h:i ≠ n):(g.addI n x).I i = g.I i:=by unfold Gh.addI; dsimp only; rw [if_neg h]
noncomputable def rls:List Rl:=[.feed,.world,.syms,.sn,.sw,.fn,.fa,.fr,.marks,.pics,.wsc,.wbd,.so,.fu,.br,.sc,.le]
noncomputable def subR (p q:Rl → Bool):Bool:=rls.all λ r=>!p r || q r
theorem rls_all:∀ r,r ∈ rls:=by intro r; cases r <;> decide
theorem sub_of {p q:Rl → Bool} (h:subR p q = true) (r:Rl) (e:p r = true):q r = true:=by
 have:=List.all_eq_true.mp h r (rls_all r)
 rw [e] at this; exact this
structure Kp (p:Rl → Bool) (g g':Gh):Prop where
 a:∀ r,p r = true → g'.A r = g.A r
 x:∀ r,p r = true → g'.X r = g.X r
 i:∀ i x,g.I i = some x → g'.I i = some x
theorem Kp.refl (p:Rl → Bool) (g:Gh):Kp p g g:=⟨λ zz zz=>rfl,λ zz zz=>rfl,λ zz zz h=>h⟩
theorem Kp.trans {p:Rl → Bool} {g g' g'':Gh} (h:Kp p g g') (h':Kp p g' g''):Kp p g g'':=
 ⟨λ r q=>(h'.a r q).trans (h.a r q),λ r q=>(h'.x r q).trans (h.x r q),λ i x q=>h'.i i x (h.i i x q)⟩
theorem Kp.mono {p q:Rl → Bool} (h:Kp p g g') (hq:subR q p = true):Kp q g g':=⟨λ r z=>h.a r (sub_of hq r z),λ r z=>h.x r (sub_of hq r z),h.i⟩
theorem Kp.setX {p:Rl → Bool} (hr:p r = false):Kp p g (g.setX r x):=
 ⟨λ zz zz=>rfl,λ s hs=>upd_ne (λ q=>by subst q; rw [hr] at hs; cases hs),λ zz zz h=>h⟩
theorem Kp.newA {p:Rl → Bool} (hr:p r = false):Kp p g (g.newA r n x):=
 ⟨λ s hs=>upd_ne (λ q=>by subst q; rw [hr] at hs; cases hs),λ s hs=>upd_ne (λ q=>by subst q; rw [hr] at hs; cases hs),λ zz zz h=>h⟩
theorem Kp.addI {p:Rl → Bool} (hn:g.I n = none):Kp p g (g.addI n x):=⟨λ zz zz=>rfl,λ zz zz=>rfl,λ i y h=>addI_of h hn⟩
theorem Kp.addI' {p:Rl → Bool} {g0:Gh} (h:Kp p g0 g) (hn:g0.I n = none):Kp p g0 (g.addI n x):=
 ⟨h.a,h.x,λ i y e=>by rw [addI_ne (λ q=>by subst q; rw [e] at hn; cases hn)]; exact h.i i y e⟩
noncomputable def nbx:Cell → Bool
 | .box _=>false
 | _=>true
structure Kn (p:Rl → Bool) (g g':Gh):Prop where
 a:∀ r,p r = true → g'.A r = g.A r
 x:∀ r,p r = true → g'.X r = g.X r
 i:∀ i x,nbx x = true → g.I i = some x → g'.I i = some x
theorem Kp.toKn {p:Rl → Bool} (h:Kp p g g'):Kn p g g':=⟨h.a,h.x,λ i x zz e=>h.i i x e⟩
theorem Kn.box {p:Rl → Bool} {o v:Option PV} (e:g.I n = some (.box o)):Kn p g (g.addI n (.box v)):=
 ⟨λ zz zz=>rfl,λ zz zz=>rfl,λ i x hx h=>(addI_ne λ q=>by subst q; cases e.symm.trans h; cases hx).trans h⟩
noncomputable def Fb (g:Gh) (n:Nat) (bs:List (Option PV)):Prop:=∀ j o,bs[j]? = some o → g.I (n + j) = some (.box o)
theorem Fb.kp {p:Rl → Bool} {bs:List (Option PV)} (h:Fb g n bs) (k:Kp p g g'):Fb g' n bs:=λ j o e=>k.i _ _ (h j o e)
theorem Fb.set {bs:List (Option PV)} (h:Fb g n bs) (j:Nat) (v:Option PV):Fb (g.addI (n + j) (.box v)) n (bs.set j v):=λ i o e=>by
 rw [List.getElem?_set] at e
 by_cases q:j = i
 ·subst q
  rw [if_pos rfl] at e
  by_cases hl:j < bs.length
  ·rw [if_pos hl] at e; cases e; exact addI_self
  ·rw [if_neg hl] at e; cases e
 ·rw [if_neg q] at e
  exact (addI_ne λ z=>q (Nat.add_left_cancel z).symm).trans (h i o e)
end
noncomputable def isS':Rl → Bool
 | .syms | .so | .fu | .br | .sc | .le=>true
 | _=>false
noncomputable def isW':Rl → Bool
 | .world | .marks | .pics | .wsc | .wbd=>true
 | _=>false
noncomputable def isB':Rl → Bool
 | .sn | .sw | .fn | .fa | .fr=>true
 | _=>false
noncomputable def isF':Rl → Bool
 | .feed=>true
 | _=>false
end Mine
end
section
open PySem
set_option backward.match.sparseCases false
namespace Mine
structure PG where
 N:Gh → Locs → Prop
 R:PV → Gh → Locs → Prop
 E:Gh → Prop
noncomputable def PG.up (P:PG):PC:=⟨λ c l=>∃ g,St g c ∧ P.N g l,λ v c l=>∃ g,St g c ∧ P.R v g l,λ c=>∃ g,St g c ∧ P.E g⟩
structure Lc where
 b:Bool
 val:Locs
noncomputable abbrev Lc.c (l:Locs):Lc:=⟨false,l⟩
noncomputable abbrev Lc.s (l:Locs):Lc:=⟨true,l⟩
noncomputable def Lc.get {α:Type} (l:Lc) (x:Str) (d:α) (f:PV → α):α:=match l.b with
 | true=>d
 | false=>match l.val.lookup x with
  | some v=>f v
  | none=>d
noncomputable abbrev Lc.put (l:Lc) (x:Str) (v:PV):Lc:=⟨l.b,putLoc x v l.val⟩
structure Cfg where
 k:List Ins
 st:List SV
 l:Lc
noncomputable def WG (m:Cfg) (I:In) (g:Gh) (P:PG):Prop:=∀ c,St g c → wpC m.k m.st I c m.l.val P.up
noncomputable def s1 (st:List SV) (d:Cfg) (f:PV → List SV → Cfg):Cfg:=match st with
 | .v x :: r=>f x r
 | _=>d
noncomputable def sB (st:List SV) (d:Cfg) (f:Bool → List SV → Cfg):Cfg:=s1 st d λ v r=>match v with
 | .bool b=>f b r
 | _=>d
noncomputable def sT (st:List SV) (d:Cfg) (f:List PV → List SV → Cfg):Cfg:=s1 st d λ v r=>match v with
 | .tup b=>f b r
 | _=>d
noncomputable def sI (st:List SV) (d:Cfg) (f:Int → List SV → Cfg):Cfg:=s1 st d λ v r=>match v with
 | .int b=>f b r
 | _=>d
noncomputable def binA (op:Operator) (x y:Int):Option Int:=match op with
 | .Add=>some (x + y)
 | .Sub=>some (x - y)
 | _=>none
noncomputable def cmpA (op:CmpOp) (x y:Int):Option Bool:=match op with
 | .Lt=>some (decide (x < y))
 | .LtE=>some (decide (x ≤ y))
 | .Gt=>some (decide (x > y))
 | .Eq=>some (x == y)
 | .NotEq=>some (!(x == y))
 | _=>none
noncomputable def sL (st:List SV) (d:Cfg) (f:List PV → List SV → Cfg):Cfg:=match st with
 | .l x :: r=>f x r
 | _=>d
noncomputable def sD (st:List SV) (d:Cfg) (f:List (Key × PV) → List SV → Cfg):Cfg:=match st with
 | .d x :: r=>f x r
 | _=>d
noncomputable def sO {α:Type} (o:Option α) (d:Cfg) (f:α → Cfg):Cfg:=match o with
 | some v=>f v
 | none=>d
noncomputable def sC (b:Bool) (d f:Cfg):Cfg:=match b with
 | true=>f
 | false=>d
noncomputable def sN (vs:List PV) (d:Cfg) (f:PV → List PV → Cfg) (e:Cfg):Cfg:=match vs with
 | x :: xs=>f x xs
 | []=>e
noncomputable def adv1 (i:Ins) (st:List SV) (l:Lc) (I:In) (d:Cfg) (W:List SV → Lc → Cfg):Cfg:=match i with
 | .k v=>W (.v v :: st) l
 | .loc x=>l.get x d λ v=>W (.v v :: st) l
 | .bin op=>sI st d λ y st=>sI st d λ x st=>sO (binA op x y) d λ v=>W (.v (.int v) :: st) l
 | .cmp op=>sI st d λ y st=>sI st d λ x st=>sO (cmpA op x y) d λ v=>W (.v (.bool v) :: st) l
 | .tup=>sL st d λ vs st=>sC (decide (vs.length ≤ 100)) d (W (.v (.tup vs) :: st) l)
 | .lam a k fc=>W (.v (Mine.lam a k (fc.map λ p=>(p.1,I.b p.2))) :: st) l
 | .nt=>sB st d λ b st=>W (.v (.bool (!b)) :: st) l
 | .val=>sB st d λ t st=>W (.v (.bool t) :: st) l
 | .nil=>W (.l [] :: st) l
 | .cons=>sL st d λ xs st=>s1 st d λ x st=>W (.l (x :: xs) :: st) l
 | .dnil=>W (.d [] :: st) l
 | .dcons k=>sD st d λ ps st=>s1 st d λ x st=>W (.d ((.s k,x) :: ps) :: st) l
 | .sl x=>s1 st d λ v st=>W st (l.put x v)
 | .unt n=>sT st d λ vs st=>sC (decide (vs.length = n)) d (W (.l vs :: st) l)
 | .hd=>sL st d λ vs st=>sN vs d (λ x xs=>W (.v x :: .l xs :: st) l) d
 | .end0=>sL st d λ vs st=>sN vs d (λ zz zz=>d) (W st l)
 | .swp a b=>s1 st d λ v st=>sO ((tupOf v).bind twoOf) d λ p=>W st ((l.put b p.2).put a p.1)
 | .pop=>s1 st d λ zz st=>W st l
 | .chk=>sC (!I.ro) d (W st l)
 | _=>d
noncomputable def adv:List Ins → List SV → Lc → In → Cfg
 | [],st,l,_=>⟨[],st,l⟩
 | i :: k,st,l,I=>adv1 i st l I ⟨i :: k,st,l⟩ λ st l=>adv k st l I
section
variable {I:In} {g:Gh} {P:PG} {G:Prop} {d:Cfg}
noncomputable abbrev HW (I:In) (g:Gh) (P:PG) (m:Cfg):Prop:=∀ c,St g c → wpC m.k m.st I c m.l.val P.up
theorem s1_ok {st:List SV} {f:PV → List SV → Cfg} (h:WG (s1 st d f) I g P) (hd:WG d I g P → G) (hf:∀ x r,st = .v x :: r → WG (f x r) I g P → G):G:=by
 rcases st with _ | ⟨_ | _ | _ | _,r⟩
 ·exact hd h
 ·exact hf _ _ rfl h
 all_goals exact hd h
theorem sB_ok {st:List SV} {f:Bool → List SV → Cfg} (h:WG (sB st d f) I g P) (hd:WG d I g P → G) (hf:∀ x r,st = .v (.bool x) :: r → WG (f x r) I g P → G):G:=
 s1_ok h hd λ x r e h=>by
  cases x
  case bool=>exact hf _ _ e h
  all_goals exact hd h
theorem sT_ok {st:List SV} {f:List PV → List SV → Cfg} (h:WG (sT st d f) I g P) (hd:WG d I g P → G) (hf:∀ x r,st = .v (.tup x) :: r → WG (f x r) I g P → G):G:=
 s1_ok h hd λ x r e h=>by
  cases x
  case tup=>exact hf _ _ e h
  all_goals exact hd h
theorem sI_ok {st:List SV} {f:Int → List SV → Cfg} (h:WG (sI st d f) I g P) (hd:WG d I g P → G) (hf:∀ x r,st = .v (.int x) :: r → WG (f x r) I g P → G):G:=
 s1_ok h hd λ x r e h=>by
  cases x
  case int=>exact hf _ _ e h
  all_goals exact hd h
theorem get_ok {l:Lc} {x:Str} {f:PV → Cfg} (h:WG (l.get x d f) I g P) (hd:WG d I g P → G) (hf:∀ v,l.val.lookup x = some v → WG (f v) I g P → G):G:=by
 unfold Lc.get at h
 cases e0:l.b with
 | true=>rw [e0] at h; exact hd h
 | false=>
  rw [e0] at h
  dsimp only at h
  cases e:l.val.lookup x with
  | none=>rw [e] at h; exact hd h
  | some v=>rw [e] at h; exact hf v e h
theorem binA_ok {op:Operator} {x y v:Int} {c:Cells} {l:Locs} {Q:PV → Cells → Locs → Prop} {E:Cells → Prop} (e:binA op x y = some v) (q:Q (.int v) c l):Wp (binV op (.int x) (.int y)) c l Q E:=by
 cases op
 case Add=>cases e; exact wp_add q
 case Sub=>cases e; exact wp_subI q
 all_goals cases e
theorem cmpA_ok {op:CmpOp} {x y:Int} {v:Bool} {c:Cells} {l:Locs} {Q:Bool → Cells → Locs → Prop} {E:Cells → Prop} (e:cmpA op x y = some v) (q:Q v c l):Wp (cmpV op (.int x) (.int y)) c l Q E:=by
 cases op
 case Lt=>cases e; exact wp_lt q
 case LtE=>cases e; exact wp_le q
 case Gt=>cases e; exact wp_gt q
 case Eq=>cases e; exact wp_eqq eqV_i q
 case NotEq=>cases e; exact wp_neq eqV_i q
 all_goals cases e
theorem sL_ok {st:List SV} {f:List PV → List SV → Cfg} (h:WG (sL st d f) I g P) (hd:WG d I g P → G) (hf:∀ x r,st = .l x :: r → WG (f x r) I g P → G):G:=by
 rcases st with _ | ⟨_ | _ | _ | _,r⟩
 case cons.l=>exact hf _ _ rfl h
 all_goals exact hd h
theorem sD_ok {st:List SV} {f:List (Key × PV) → List SV → Cfg} (h:WG (sD st d f) I g P) (hd:WG d I g P → G) (hf:∀ x r,st = .d x :: r → WG (f x r) I g P → G):G:=by
 rcases st with _ | ⟨_ | _ | _ | _,r⟩
 case cons.d=>exact hf _ _ rfl h
 all_goals exact hd h
theorem sO_ok {α:Type} {o:Option α} {f:α → Cfg} (h:WG (sO o d f) I g P) (hd:WG d I g P → G) (hf:∀ x,o = some x → WG (f x) I g P → G):G:=by
 cases o with
 | none=>exact hd h
 | some v=>exact hf _ rfl h
theorem sC_ok {b:Bool} {f:Cfg} (h:WG (sC b d f) I g P) (hd:WG d I g P → G) (hf:b = true → WG f I g P → G):G:=by
 cases b with
 | false=>exact hd h
 | true=>exact hf rfl h
theorem sN_ok {vs:List PV} {f:PV → List PV → Cfg} {e:Cfg} (h:WG (sN vs d f e) I g P) (he:vs = [] → WG e I g P → G) (hf:∀ x xs,vs = x :: xs → WG (f x xs) I g P → G):G:=by
 cases vs with
 | nil=>exact he rfl h
 | cons x xs=>exact hf _ _ rfl h
end
theorem adv_ok {I:In} {g:Gh} {P:PG}:∀ {k:List Ins} {st:List SV} {l:Lc},WG (adv k st l I) I g P → WG ⟨k,st,l⟩ I g P:=by
 intro k
 induction k with
 | nil=>exact λ h=>h
 | cons i k ih=>
  intro st l h
  have h:WG (adv1 i st l I ⟨i :: k,st,l⟩ λ st l=>adv k st l I) I g P:=h
  cases i
  case k v=>exact λ c s=>ih h c s
  case loc x=>
   exact get_ok h id λ v e h c s=>by
    show wpO _ _
    rw [e]; exact ih h c s
  case bin op=>exact sI_ok h id λ y r e h=>sI_ok h id λ x r' e' h=>sO_ok h id λ v e2 h c s=>e ▸ e' ▸ binA_ok e2 (ih h c s)
  case cmp op=>exact sI_ok h id λ y r e h=>sI_ok h id λ x r' e' h=>sO_ok h id λ v e2 h c s=>e ▸ e' ▸ cmpA_ok e2 (ih h c s)
  case tup=>
   exact sL_ok h id λ vs r e h=>sC_ok h id λ e' h2 c s=>by
    subst e
    show wpB _ _
    rw [e']; exact ih h2 c s
  case lam=>exact λ c s=>ih h c s
  case nt=>exact sB_ok h id λ b r e h c s=>e ▸ ih h c s
  case val=>exact sB_ok h id λ b r e h c s=>e ▸ ih h c s
  case nil=>exact λ c s=>ih h c s
  case cons=>
   exact sL_ok h id λ xs r e h=>s1_ok h id λ x r e' h c s=>by
    subst e e'
    exact ih h c s
  case dnil=>exact λ c s=>ih h c s
  case dcons=>
   exact sD_ok h id λ xs r e h=>s1_ok h id λ x r e' h c s=>by
    subst e e'
    exact ih h c s
  case sl=>exact s1_ok h id λ x r e h c s=>e ▸ ih h c s
  case unt n=>
   exact sT_ok h id λ vs r e h=>sC_ok h id λ e' h2 c s=>by
    subst e
    show wpB _ _
    rw [e']; exact ih h2 c s
  case hd=>
   exact sL_ok h id λ vs r e h=>sN_ok h (λ zz h=>h) λ x xs e' h c s=>by
    subst e e'
    exact ih h c s
  case end0=>exact sL_ok h id λ vs r e h=>sN_ok h (λ e' h c s=>by subst e e'; exact ih h c s) λ zz zz zz h=>h
  case swp a b=>
   exact s1_ok h id λ v r e h=>sO_ok h id λ p e' h2 c s=>by
    subst e
    show wpO _ _
    rw [e']; exact ih h2 c s
  case pop=>exact s1_ok h id λ x r e h c s=>e ▸ ih h c s
  case chk=>
   exact sC_ok h id λ e h2 c s=>by
    show wpB (!I.ro && true) _
    rw [e]; exact ih h2 c s
  all_goals exact h
end Mine
end
section
open PySem
set_option backward.match.sparseCases false
namespace Mine
theorem lim_of {n:Nat} (h:Nat.ble n 199 = true):n ≤ lim:=Nat.le_trans (Nat.le_of_ble_eq_true h) (by decide)
noncomputable def Ga (g:Gh) (a:Nat) (x:Cell):Prop:=∀ c,St g c → c[a]? = some x
noncomputable def Up (g:Gh) (a:Nat) (x:Cell) (g':Gh):Prop:=∀ c,St g c → St g' (c.set a x)
noncomputable def Al (g:Gh) (x:Cell) (g':Nat → Gh):Prop:=∀ c,St g c → St (g' c.length) (c ++ [x])
structure New (g:Gh) (n:Nat):Prop where
 i:g.I n = none
 a:∀ r,g.A r ≠ n
theorem New.ne {g:Gh} {n i:Nat} {x:Cell} (N:New g n) (h:g.I i = some x):i ≠ n:=λ q=>by rw [q,N.i] at h; cases h
noncomputable def Cg (cf:Callee) (ro:Bool) (f:PV) (vs:List PV) (g:Gh) (Q:PV → Gh → Prop) (E:Gh → Prop):Prop:=∀ c,St g c → Cp (cf ro f vs c) (λ v c'=>∃ g',St g' c' ∧ Q v g') λ c'=>∃ g',St g' c' ∧ E g'
section
variable {g g':Gh} {a:Nat} {x:Cell} {r:Rl}
theorem ga_i (h:g.I a = some x):Ga g a x:=λ zz s=>s.frz _ _ h
theorem ga_x (h:g.A r = a) (e:g.X r = x):Ga g a x:=λ zz s=>h ▸ e ▸ s.mt r
theorem ga_X (e:g.X r = x):Ga g (g.A r) x:=λ zz s=>e ▸ s.mt r
theorem up_x (h:g.A r = a):Up g a x (g.setX r x):=λ zz s=>h ▸ s.set r x
theorem up_i {y:Cell} (h:g.I a = some y):Up g a x (g.addI a x):=λ zz s=>s.reI h x
theorem al_i:Al g x λ n=>g.addI n x:=λ zz s=>s.addI x
theorem al_a (r:Rl):Al g x λ n=>g.newA r n x:=λ zz s=>s.new r x
theorem St.New {c:Cells} (s:St g c):New g c.length:=⟨s.fresh (Nat.le_refl _),λ r e=>Nat.ne_of_lt (s.ltA r) e⟩
end
section
variable {k:List Ins} {st:List SV} {l:Lc} {I:In} {g g':Gh} {P:PG} {a b:Nat} {v x y:PV} {xs ys:List PV} {es fs:List (Key × PV)} {n:Str} {gs:Nat → Gh}
theorem g_is {i:Ins} (q:WG ⟨i :: k,st,l⟩ I g P):WG ⟨i :: k,st,l⟩ I g P:=q
theorem g_loc {z:Str} (h:l.val.lookup z = some v) (q:WG (adv k (.v v :: st) l I) I g P):WG ⟨.loc z :: k,st,l⟩ I g P:=λ c s=>by
 show wpO (l.val.lookup z) _
 rw [h]; exact adv_ok q c s
theorem g_box {i:Nat} (h:Ga g (I.b i) (.box (some v))) (q:WG (adv k (.v v :: st) l I) I g P):WG ⟨.box i :: k,st,l⟩ I g P:=λ c s=>wp_ldB (h c s) (adv_ok q c s)
theorem g_sb {i:Nat} {o:Option PV} (ro:I.ro = false) (h:g.I (I.b i) = some (.box o)) (q:WG (adv k st l I) I (g.addI (I.b i) (.box (some v))) P):WG ⟨.sb i :: k,.v v :: st,l⟩ I g P:=λ c s=>by
 show Wp (stB I.ro _ _) _ _ _ _
 rw [ro]; exact wp_stB (ga_i h c s) (adv_ok q _ (up_i h c s))
theorem g_mul {i j:Int} (ha:smallI i = true) (hb:smallI j = true) (q:WG (adv k (.v (.int (i * j)) :: st) l I) I g P):WG ⟨.bin .Mult :: k,.v (.int j) :: .v (.int i) :: st,l⟩ I g P:=λ c s=>wp_mul ha hb (adv_ok q c s)
theorem g_half {i:Int} (ha:smallI i = true) (q:WG (adv k (.v (.int (i.fdiv 2)) :: st) l I) I g P):WG ⟨.bin .FloorDiv :: k,.v (.int 2) :: .v (.int i) :: st,l⟩ I g P:=λ c s=>wp_half ha (adv_ok q c s)
theorem g_mod {i j:Int} (h:0 < j) (h':j ≤ 1009) (q:WG (adv k (.v (.int (i.fmod j)) :: st) l I) I g P):WG ⟨.bin .Mod :: k,.v (.int j) :: .v (.int i) :: st,l⟩ I g P:=λ c s=>wp_mod h h' (adv_ok q c s)
theorem g_cat (ha:Ga g a (.list xs)) (hb:Ga g b (.list ys)) (hl:xs.length + ys.length ≤ lim) (al:Al g (.list (xs ++ ys)) gs) (q:∀ n,New g n → WG (adv k (.v (.ref n) :: st) l I) I (gs n) P):WG ⟨.bin .Add :: k,.v (.ref b) :: .v (.ref a) :: st,l⟩ I g P:=λ c s=>wp_cat (ha c s) (hb c s) hl (adv_ok (q _ s.New) _ (al c s))
theorem g_eq {t:Bool} (h:∀ c,St g c → eqV c x y = some t) (q:WG (adv k (.v (.bool t) :: st) l I) I g P):WG ⟨.cmp .Eq :: k,.v y :: .v x :: st,l⟩ I g P:=λ c s=>wp_eqq (h c s) (adv_ok q c s)
theorem g_ne {t:Bool} (h:∀ c,St g c → eqV c x y = some t) (q:WG (adv k (.v (.bool (!t)) :: st) l I) I g P):WG ⟨.cmp .NotEq :: k,.v y :: .v x :: st,l⟩ I g P:=λ c s=>wp_neq (h c s) (adv_ok q c s)
theorem g_in {t:Bool} (h:∀ c,St g c → memV c x y = some t) (q:WG (adv k (.v (.bool t) :: st) l I) I g P):WG ⟨.cmp .In :: k,.v y :: .v x :: st,l⟩ I g P:=λ c s=>wp_in (h c s) (adv_ok q c s)
theorem g_nin {t:Bool} (h:∀ c,St g c → memV c x y = some t) (q:WG (adv k (.v (.bool (!t)) :: st) l I) I g P):WG ⟨.cmp .NotIn :: k,.v y :: .v x :: st,l⟩ I g P:=λ c s=>wp_nin (h c s) (adv_ok q c s)
theorem g_isN (q:WG (adv k (.v (.bool true) :: st) l I) I g P):WG ⟨.cmp .Is :: k,.v .none :: .v .none :: st,l⟩ I g P:=λ c s=>wp_isN (adv_ok q c s)
theorem g_fgt {m:Cfg} {u:Nat} {x:Cell} (N:New g u) (q:WG m I g P):WG m I (g.addI u x) P:=λ c s=>q c ⟨s.inj,s.mt,λ i y e=>s.frz i y ((addI_ne (N.ne e)).trans e),λ i r y e=>s.apt i r y ((addI_ne (N.ne e)).trans e)⟩
theorem g_opT {op:BoolOp} {r:G .e} {t:Bool} (e:endB op t = true) (q:WG (adv k (.v (.bool t) :: st) l I) I g P):WG ⟨.opV op r :: k,.v (.bool t) :: st,l⟩ I g P:=λ c s=>by
 show wpI _ _ _
 rw [e]; exact adv_ok q c s
theorem g_opF {op:BoolOp} {r:G .e} {t:Bool} (e:endB op t = false) (q:WG (adv (comp r k) st l I) I g P):WG ⟨.opV op r :: k,.v (.bool t) :: st,l⟩ I g P:=λ c s=>by
 show wpI _ _ _
 rw [e]; exact comp_ok r (x:=()) (adv_ok q c s)
theorem g_bopT {op:BoolOp} {r:G .t} {t:Bool} (e:endB op t = true) (q:WG (adv k (.v (.bool t) :: st) l I) I g P):WG ⟨.bop op r :: k,.v (.bool t) :: st,l⟩ I g P:=λ c s=>by
 show wpI _ _ _
 rw [e]; exact adv_ok q c s
theorem g_bopF {op:BoolOp} {r:G .t} {t:Bool} (e:endB op t = false) (q:WG (adv (comp r k) st l I) I g P):WG ⟨.bop op r :: k,.v (.bool t) :: st,l⟩ I g P:=λ c s=>by
 show wpI _ _ _
 rw [e]; exact comp_ok r (x:=()) (adv_ok q c s)
theorem g_ife {t:Bool} {p r:G .e} (h:t = true → WG (adv (comp p k) st l I) I g P) (h':t = false → WG (adv (comp r k) st l I) I g P):WG ⟨.ife p r :: k,.v (.bool t) :: st,l⟩ I g P:=λ c s=>by
 cases t with
 | true=>exact comp_ok p (x:=()) (adv_ok (h rfl) c s)
 | false=>exact comp_ok r (x:=()) (adv_ok (h' rfl) c s)
theorem g_ite {t:Bool} {p r:F} (h:t = true → WG (adv (compF p k) st l I) I g P) (h':t = false → WG (adv (compF r k) st l I) I g P):WG ⟨.ite p r :: k,.v (.bool t) :: st,l⟩ I g P:=λ c s=>by
 cases t with
 | true=>exact compF_ok p (adv_ok (h rfl) c s)
 | false=>exact compF_ok r (adv_ok (h' rfl) c s)
theorem g_lst (hl:Nat.ble xs.length 100 = true) (al:Al g (.list xs) gs) (q:∀ n,New g n → WG (adv k (.v (.ref n) :: st) l I) I (gs n) P):WG ⟨.lst :: k,.l xs :: st,l⟩ I g P:=λ c s=>by
 show wpB _ _
 rw [decide_eq_true (Nat.le_of_ble_eq_true hl)]; exact adv_ok (q _ s.New) _ (al c s)
theorem g_emp (al:Al g (.dict []) gs) (q:∀ n,New g n → WG (adv k (.v (.ref n) :: st) l I) I (gs n) P):WG ⟨.emp :: k,st,l⟩ I g P:=λ c s=>adv_ok (q _ s.New) _ (al c s)
theorem g_ga {C:Addr} {es:List (Str × PV)} (h:Ga g a (.inst C es)) (hn:hasAt C n = true) (e:es.lookup n = some v) (hv:isV v = false) (q:WG (adv k (.v v :: st) l I) I g P):WG ⟨.attr n :: k,.v (.ref a) :: st,l⟩ I g P:=λ c s=>wp_ga (h c s) hn e hv (adv_ok q c s)
theorem g_sa {C:Addr} {es:List (Str × PV)} (ro:I.ro = false) (h:Ga g a (.inst C es)) (hn:hasAt C n = true) (hl:Nat.ble es.length 100 = true) (u:Up g a (.inst C (putAttr n v es)) g') (q:WG (adv k st l I) I g' P):WG ⟨.sa n :: k,.v (.ref a) :: .v v :: st,l⟩ I g P:=λ c s=>by
 show Wp (setAttrV tbl I.ro _ _ _) _ _ _ _
 rw [ro]; exact wp_sa (h c s) hn (Nat.le_of_ble_eq_true hl) (adv_ok q _ (u c s))
theorem g_itT {i:Int} (e:tupAt xs i = some v) (q:WG (adv k (.v v :: st) l I) I g P):WG ⟨.sub :: k,.v (.int i) :: .v (.tup xs) :: st,l⟩ I g P:=λ c s=>wp_itT e (adv_ok q c s)
theorem g_itK {i:Int} (e:tupAt xs i = some v) (q:WG (adv k (.v v :: st) l I) I g P):WG ⟨.sub :: k,.v (.int i) :: .v (.klist xs) :: st,l⟩ I g P:=λ c s=>wp_itK e (adv_ok q c s)
theorem g_itL {i:Int} (h:Ga g a (.list xs)) (e:tupAt xs i = some v) (q:WG (adv k (.v v :: st) l I) I g P):WG ⟨.sub :: k,.v (.int i) :: .v (.ref a) :: st,l⟩ I g P:=λ c s=>wp_itL (h c s) e (adv_ok q c s)
theorem g_itD {z:Str} (h:Ga g a (.dict es)) (hk:kinds (.s z) es = true) (e:look (.s z) es = some v) (q:WG (adv k (.v v :: st) l I) I g P):WG ⟨.sub :: k,.v (.str z) :: .v (.ref a) :: st,l⟩ I g P:=λ c s=>wp_itD (h c s) hk e (adv_ok q c s)
theorem g_itI {i:Int} (h:Ga g a (.dict es)) (hk:kinds (.i i) es = true) (e:look (.i i) es = some v) (q:WG (adv k (.v v :: st) l I) I g P):WG ⟨.sub :: k,.v (.int i) :: .v (.ref a) :: st,l⟩ I g P:=λ c s=>wp_itI (h c s) hk e (adv_ok q c s)
theorem g_si {z:Str} (ro:I.ro = false) (h:Ga g a (.dict es)) (hk:kinds (.s z) es = true) (hl:es.length ≤ lim) (u:Up g a (.dict (putKey (.s z) v es)) g') (q:WG (adv k st l I) I g' P):WG ⟨.si :: k,.v (.str z) :: .v (.ref a) :: .v v :: st,l⟩ I g P:=λ c s=>by
 show Wp (setItemV I.ro _ _ _) _ _ _ _
 rw [ro]; exact wp_si (h c s) hk hl (adv_ok q _ (u c s))
theorem g_slL {i:Int} (h:Ga g a (.list xs)) (h1:0 ≤ i) (h2:i ≤ lim) (h3:xs.length ≤ lim) (al:Al g (.list (xs.take i.toNat)) gs) (q:∀ n,New g n → WG (adv k (.v (.ref n) :: st) l I) I (gs n) P):WG ⟨.slc :: k,.v (.int i) :: .v (.ref a) :: st,l⟩ I g P:=λ c s=>wp_slL (h c s) h1 h2 h3 (adv_ok (q _ s.New) _ (al c s))
theorem g_mi {C f:Addr} {es:List (Str × PV)} (h:Ga g a (.inst C es)) (hn:mthOf C n = some f) (e:es.lookup n = none) (q:WG (adv k (.m (.fn f) :: .v (.ref a) :: st) l I) I g P):WG ⟨.mth n :: k,.v (.ref a) :: st,l⟩ I g P:=λ c s=>wp_mi (h c s) hn e (adv_ok q c s)
theorem g_mapp (h:Ga g a (.list xs)) (q:WG (adv k (.m (.bi true "append") :: .v (.ref a) :: st) l I) I g P):WG ⟨.mth "append" :: k,.v (.ref a) :: st,l⟩ I g P:=λ c s=>wp_mapp (h c s) (adv_ok q c s)
theorem g_mpop (h:Ga g a (.list xs)) (q:WG (adv k (.m (.bi true "pop") :: .v (.ref a) :: st) l I) I g P):WG ⟨.mth "pop" :: k,.v (.ref a) :: st,l⟩ I g P:=λ c s=>wp_mpop (h c s) (adv_ok q c s)
theorem g_mdict (h:Ga g a (.dict es)) (hn:(decide (n = "get") || decide (n = "pop") || decide (n = "items") || decide (n = "update")) = true) (q:WG (adv k (.m (.bi false n) :: .v (.ref a) :: st) l I) I g P):WG ⟨.mth n :: k,.v (.ref a) :: st,l⟩ I g P:=λ c s=>wp_mdict (h c s) hn (adv_ok q c s)
theorem g_app (ro:I.ro = false) (h:Ga g a (.list xs)) (hl:xs.length ≤ lim) (u:Up g a (.list (xs ++ [v])) g') (q:WG (adv k (.v .none :: st) l I) I g' P):WG ⟨.doM :: k,.l [v] :: .m (.bi true "append") :: .v (.ref a) :: st,l⟩ I g P:=λ c s=>by
 show Wp (doM I.cf I.ro _ _ _) _ _ _ _
 rw [ro]; exact wp_dobi <| wp_app (h c s) hl (adv_ok q _ (u c s))
theorem g_lpop (ro:I.ro = false) (h:Ga g a (.list xs)) (hl:xs.length ≤ lim) (e:xs.getLast? = some v) (u:Up g a (.list xs.dropLast) g') (q:WG (adv k (.v v :: st) l I) I g' P):WG ⟨.doM :: k,.l [] :: .m (.bi true "pop") :: .v (.ref a) :: st,l⟩ I g P:=λ c s=>by
 show Wp (doM I.cf I.ro _ _ _) _ _ _ _
 rw [ro]; exact wp_dobi <| wp_pop (h c s) hl e (adv_ok q _ (u c s))
theorem g_items (h:Ga g a (.dict es)) (hk:(es.all λ e=>isS e.1) = true) (q:WG (adv k (.v (.items a) :: st) l I) I g P):WG ⟨.doM :: k,.l [] :: .m (.bi false "items") :: .v (.ref a) :: st,l⟩ I g P:=λ c s=>wp_dobi (wp_items (h c s) hk (adv_ok q c s))
theorem g_dpop {z:Str} (ro:I.ro = false) (h:Ga g a (.dict es)) (hk:(es.all λ e=>isS e.1) = true) (hl:es.length ≤ lim) (e:look (.s z) es = some v) (u:Up g a (.dict (es.filter λ e=>decide (e.1 ≠ .s z))) g') (q:WG (adv k (.v v :: st) l I) I g' P):WG ⟨.doM :: k,.l [.str z] :: .m (.bi false "pop") :: .v (.ref a) :: st,l⟩ I g P:=λ c s=>by
 show Wp (doM I.cf I.ro _ _ _) _ _ _ _
 rw [ro]; exact wp_dobi <| wp_dpop (h c s) hk hl e (adv_ok q _ (u c s))
theorem g_doF {f:Addr} (h:Cg I.cf I.ro (.val (.ref f)) (x :: xs) g (λ v g=>WG (adv k (.v v :: st) l I) I g P) P.E):WG ⟨.doM :: k,.l xs :: .m (.fn f) :: .v x :: st,l⟩ I g P:=λ c s=>wp_dofn (cp_mono (h c s) (λ _ c ⟨_,s,q⟩=>adv_ok q c s) λ zz h=>h)
theorem g_cf {f:Addr} (h:Cg I.cf I.ro (.val (.ref f)) xs g (λ v g=>WG (adv k (.v v :: st) l I) I g P) P.E):WG ⟨.call :: k,.l xs :: .v (.val (.ref f)) :: st,l⟩ I g P:=λ c s=>wp_fn (cp_mono (h c s) (λ _ c ⟨_,s,q⟩=>adv_ok q c s) λ zz h=>h)
theorem g_clo {e:Expr} {sc:Scope} {fc:List (Str × Nat)} (h:Cg I.cf I.ro (.clo e sc fc) xs g (λ v g=>WG (adv k (.v v :: st) l I) I g P) P.E):WG ⟨.call :: k,.l xs :: .v (.clo e sc fc) :: st,l⟩ I g P:=λ c s=>wp_clo (cp_mono (h c s) (λ _ c ⟨_,s,q⟩=>adv_ok q c s) λ zz h=>h)
theorem g_len (h:Ga g a (.list xs)) (hl:xs.length ≤ lim) (q:WG (adv k (.v (.int xs.length) :: st) l I) I g P):WG ⟨.call :: k,.l [.ref a] :: .v (.val (.builtin "len")) :: st,l⟩ I g P:=λ c s=>wp_cbi (wp_len (h c s) hl (adv_ok q c s))
theorem g_lenK (hl:xs.length ≤ lim) (q:WG (adv k (.v (.int xs.length) :: st) l I) I g P):WG ⟨.call :: k,.l [.klist xs] :: .v (.val (.builtin "len")) :: st,l⟩ I g P:=λ c s=>wp_cbi (wp_lenK hl (adv_ok q c s))
theorem g_int {i:Int} (q:WG (adv k (.v (.int i) :: st) l I) I g P):WG ⟨.call :: k,.l [.int i] :: .v (.val (.type "int")) :: st,l⟩ I g P:=λ c s=>wp_cty (wp_int (adv_ok q c s))
theorem g_tupT (q:WG (adv k (.v (.tup xs) :: st) l I) I g P):WG ⟨.call :: k,.l [.tup xs] :: .v (.val (.type "tuple")) :: st,l⟩ I g P:=λ c s=>wp_cty (wp_tupT' (adv_ok q c s))
theorem g_tupL (h:Ga g a (.list xs)) (hl:xs.length ≤ lim) (q:WG (adv k (.v (.tup xs) :: st) l I) I g P):WG ⟨.call :: k,.l [.ref a] :: .v (.val (.type "tuple")) :: st,l⟩ I g P:=λ c s=>wp_cty (wp_tupL (h c s) hl (adv_ok q c s))
theorem g_dictD (h:Ga g a (.dict es)) (hk:(es.all λ e=>isS e.1) = true) (hl:es.length ≤ lim) (al:Al g (.dict es) gs) (q:∀ n,New g n → WG (adv k (.v (.ref n) :: st) l I) I (gs n) P):WG ⟨.call :: k,.l [.ref a] :: .v (.val (.type "dict")) :: st,l⟩ I g P:=λ c s=>wp_cty (wp_dictD (h c s) hk hl (adv_ok (q _ s.New) _ (al c s)))
theorem g_dictL {ps:List (Key × PV)} (h:Ga g a (.list xs)) (hp:pairsOf xs = some ps) (hl:ps.length ≤ lim) (al:Al g (.dict (putAll ps [])) gs) (q:∀ n,New g n → WG (adv k (.v (.ref n) :: st) l I) I (gs n) P):WG ⟨.call :: k,.l [.ref a] :: .v (.val (.type "dict")) :: st,l⟩ I g P:=λ c s=>wp_cty (wp_dictL (h c s) hp hl (adv_ok (q _ s.New) _ (al c s)))
theorem g_rng1 {i:Int} (h:smallI i = true) (q:WG (adv k (.v (.rng 0 i 1) :: st) l I) I g P):WG ⟨.call :: k,.l [.int i] :: .v (.val (.type "range")) :: st,l⟩ I g P:=λ c s=>wp_cty (wp_rng1 h (adv_ok q c s))
theorem g_rng3 {i j:Int} (h:smallI i = true) (h':smallI j = true) (q:WG (adv k (.v (.rng i j (-1)) :: st) l I) I g P):WG ⟨.call :: k,.l [.int i,.int j,.int (-1)] :: .v (.val (.type "range")) :: st,l⟩ I g P:=λ c s=>wp_cty (wp_rng3 h h' (adv_ok q c s))
theorem g_lz (hx:Ga g a (.list xs)) (hy:Ga g b (.list ys)) (h1:xs.length ≤ lim) (h2:ys.length ≤ lim) (al:Al g (.list (zipPairs xs ys)) gs) (q:∀ n,New g n → WG (adv k (.v (.ref n) :: st) l I) I (gs n) P):WG ⟨.zip :: k,.v (.ref b) :: .v (.ref a) :: .v (.val (.type "zip")) :: .v (.val (.type "list")) :: st,l⟩ I g P:=λ c s=>wp_lz (hx c s) (hy c s) h1 h2 (adv_ok (q _ s.New) _ (al c s))
theorem g_ret (q:P.R v g l.val):WG ⟨.ret :: k,.v v :: st,l⟩ I g P:=λ c s=>⟨g,s,q⟩
theorem g_end (q:P.N g l.val):WG ⟨[],st,l⟩ I g P:=λ c s=>⟨g,s,q⟩
theorem g_rais (q:P.E g):WG ⟨.rais :: k,st,l⟩ I g P:=λ c s=>⟨g,s,q⟩
theorem g_jn {z:Str} (h:z.length ≤ 1000) (q:WG (adv k st l I) I g P):WG ⟨.jn :: k,.v (.str z) :: st,l⟩ I g P:=λ c s=>⟨h,adv_ok q c s⟩
theorem g_tri {f:F} {z:Str} (ro:I.ro = false) (h:WG (adv (compF f []) [] l I) I g ⟨λ g l=>WG (adv k st (.s l) I) I g P,P.R,λ g=>P.R (.str z) g []⟩):WG ⟨.tri f z :: k,st,l⟩ I g P:=λ c s=>by
 show wpB (!I.ro) _
 rw [ro]
 refine wp_mono (compF_ok f (P:=PG.up _) (adv_ok h c s)) (λ w c l h=>?_) λ zz h=>h
 cases w with
 | nxt=>let ⟨g,s,q⟩:=h; exact adv_ok q c s
 | ret v=>exact h
end
end Mine
end
section
open PySem
set_option backward.match.sparseCases false
namespace Mine
noncomputable def tstP (P:PG) (A B:Gh → Locs → Prop):PG:=⟨λ zz zz=>False,λ v g l=>wpO (boolOf v) λ q=>wpI q (A g l) (B g l),P.E⟩
noncomputable def fnP (Q:PV → Gh → Prop) (E:Gh → Prop):PG:=⟨λ g zz=>Q .none g,λ v g zz=>Q v g,E⟩
noncomputable def Itr (g:Gh) (y:PV) (it:It):Prop:=∀ c l (Q:It → Cells → Locs → Prop) (E:Cells → Prop),St g c → Q it c l → Wp (iterV y) c l Q E
noncomputable def Its (g:Gh) (it:It) (xs:List PV):Prop:=∀ c i,St g c → itemAt c it i = some xs[i]?
noncomputable def adds (g:Gh) (n:Nat):List Cell → Gh
 | []=>g
 | x :: r=>adds (g.addI n x) (n + 1) r
section
variable {g:Gh} {a b:Nat} {xs ys:List PV} {es:List (Key × PV)}
theorem itr_l (h:Ga g a (.list xs)):Itr g (.ref a) (.lst a):=λ c zz zz zz s q=>wp_itrL (h c s) q
theorem itr_t:Itr g (.tup xs) (.fix xs):=λ c zz zz zz s q=>wp_itrT q
theorem itr_k:Itr g (.klist xs) (.fix xs):=λ c zz zz zz s q=>wp_itrK q
theorem itr_r {a b k:Int} (ha:smallI a = true) (hb:smallI b = true) (hk:k = 1 ∨ k = -1):Itr g (.rng a b k) (.rng a b k):=λ c zz zz zz s q=>wp_itrR ha hb hk q
theorem itr_i (h:Ga g a (.dict es)) (hk:(es.all λ e=>isS e.1) = true):Itr g (.items a) (.items a):=λ c zz zz zz s q=>wp_itrI (h c s) hk q
theorem its_l (h:Ga g a (.list xs)) (hl:xs.length ≤ lim):Its g (.lst a) xs:=λ c zz s=>it_lst (h c s) hl
theorem its_f (hl:xs.length ≤ lim):Its g (.fix xs) xs:=λ c zz s=>it_fix hl
theorem its_i (h:Ga g a (.dict es)) (hk:(es.all λ e=>isS e.1) = true):Its g (.items a) (es.map λ e=>PV.tup [keyPV e.1,e.2]):=λ c zz s=>it_items (h c s) hk
theorem its_u {b:Int}:Its g (.rng 0 b 1) (rngUp b):=λ c zz s=>it_up
theorem its_d {n:Int}:Its g (.rng n (-1) (-1)) (rngDown n):=λ c zz s=>it_down
theorem its_z (h:Ga g a (.list xs)) (h':Ga g b (.list ys)) (hl:xs.length ≤ lim) (hl':ys.length ≤ lim):Its g (.zip a b) (zipPairs xs ys):=λ c zz s=>it_zip (h c s) (h' c s) hl hl'
end
section
variable {k:List Ins} {st:List SV} {l:Lc} {I:In} {g:Gh} {P:PG} {v y:PV}
theorem g_tst {t:Bool} {A B:Gh → Locs → Prop} (h:t = true → A g l.val) (h':t = false → B g l.val):WG ⟨.ret :: k,.v (.bool t) :: st,l⟩ I g (tstP P A B):=g_ret (by
 cases t with
 | true=>exact h rfl
 | false=>exact h' rfl)
theorem g_whl {t:G .t} {b:F} (Inv:Nat → Gh → Locs → Prop) (step:∀ n g l (A B:Gh → Locs → Prop),(∀ m g l,m < n → WG (adv (compF b []) [] (.s l) I) I g ⟨Inv m,P.R,P.E⟩ → A g l) → (∀ g l,WG (adv k st (.s l) I) I g P → B g l) → Inv n g l → WG (adv (comp t [.ret]) [] (.s l) I) I g (tstP P A B))
  (n:Nat) (hn:n < turns) (h:Inv n g l.val):WG ⟨.whl t b :: k,st,l⟩ I g P:=λ c s=>
 wp_while (λ n c l=>∃ g,St g c ∧ Inv n g l) (λ n c l ⟨g,s,h⟩=>by
  have h0:=adv_ok (step n g l (λ g l=>∃ m,m < n ∧ WG (adv (compF b []) [] (.s l) I) I g ⟨Inv m,P.R,P.E⟩) (λ g l=>WG (adv k st (.s l) I) I g P) (λ m zz zz hm h=>⟨m,hm,h⟩) (λ zz zz h=>h) h) c s
  have h1:=comp_ok t (x:=()) (st:=[]) h0
  refine wp_to h1 λ q c l h=>?_
  obtain ⟨g,s,h⟩:=h
  refine wpI_to (show wpI q _ _ from h) (λ ⟨m,hm,h⟩=>⟨m,hm,?_⟩) λ h=>adv_ok h c s
  have h0:=adv_ok h c s
  exact compF_ok b h0) turns n c _ hn ⟨g,s,h⟩
theorem g_for {tg:Bool} {s:G .s} {b:F} {it:It} (hI:Itr g y it) (hf:fitsB tg it = true) (xs:List PV) (hl:Nat.ble xs.length 199 = true) (Inv:Nat → Gh → Locs → Prop) (hit:∀ i g l,Inv i g l → Its g it xs)
  (step:∀ i g l x,xs[i]? = some x → Inv i g l → WG (adv (comp s (compF b [])) [.v x] (.s l) (I.it it)) (I.it it) g ⟨Inv (i + 1),P.R,P.E⟩) (h:Inv 0 g l.val) (post:∀ g l,Inv xs.length g l → WG (adv k st (.s l) I) I g P) :
  WG ⟨.for tg s b :: k,.v y :: st,l⟩ I g P:=λ c s0=>hI c _ _ _ s0 (by
 show wpB _ _
 rw [hf]
 exact wp_loop xs (λ i c l=>∃ g,St g c ∧ Inv i g l) (λ i c l ⟨g,s,h⟩=>hit i g l h c i s) (λ i c l x hx ⟨g,s',h⟩=>wp_bnd (by
  have h0:=adv_ok (step i g l x hx h) c s'
  have h1:=comp_ok s (x:=x) (st:=[]) h0
  exact wp_to h1 λ zz c l h=>compF_ok b h))
  (λ c l ⟨g,s,h⟩=>adv_ok (post g l h) c s) turns 0 c _ (Nat.zero_le _) (by rw [Nat.zero_add]; exact Nat.lt_of_le_of_lt (Nat.le_of_ble_eq_true hl) (by decide)) ⟨g,s0,h⟩)
theorem g_fzp {tg:Bool} {s:G .s} {b:F} {x z:Nat} (ht:tg = true) (xs:List PV) (hl:Nat.ble xs.length 199 = true) (Inv:Nat → Gh → Locs → Prop) (hit:∀ i g l,Inv i g l → Its g (.zip x z) xs)
  (step:∀ i g l x,xs[i]? = some x → Inv i g l → WG (adv (comp s (compF b [])) [.v x] (.s l) I) I g ⟨Inv (i + 1),P.R,P.E⟩) (h:Inv 0 g l.val) (post:∀ g l,Inv xs.length g l → WG (adv k st (.s l) I) I g P) :
  WG ⟨.fzp tg s b :: k,.v (.ref z) :: .v (.ref x) :: .v (.val (.type "zip")) :: st,l⟩ I g P:=λ c s0=>by
 show wpB (tg && isTyp "zip" (.val (.type "zip"))) _
 rw [ht,show (true && isTyp "zip" (.val (.type "zip"))) = true from by decide +kernel]
 exact wp_loop xs (λ i c l=>∃ g,St g c ∧ Inv i g l) (λ i c l ⟨g,s,h⟩=>hit i g l h c i s) (λ i c l x hx ⟨g,s',h⟩=>wp_bnd (by
  have h0:=adv_ok (step i g l x hx h) c s'
  have h1:=comp_ok s (x:=x) (st:=[]) h0
  exact wp_to h1 λ zz c l h=>compF_ok b h))
  (λ c l ⟨g,s,h⟩=>adv_ok (post g l h) c s) turns 0 c _ (Nat.zero_le _) (by rw [Nat.zero_add]; exact Nat.lt_of_le_of_lt (Nat.le_of_ble_eq_true hl) (by decide)) ⟨g,s0,h⟩
theorem g_comp {tg:Bool} {s:G .s} {e:G .e} {it:It} (hI:Itr g y it) (hf:fitsB tg it = true) (xs:List PV) (hl:Nat.ble xs.length 199 = true) (Inv:Nat → List PV → Gh → Locs → Prop) (hit:∀ i vs g l,Inv i vs g l → Its g it xs)
  (step:∀ i vs g l x,xs[i]? = some x → Inv i vs g l → WG (adv (comp s (comp e [.ret])) [.v x] (.s l) (I.it it)) (I.it it) g ⟨λ zz zz=>False,λ v g l=>Inv (i + 1) (vs ++ [v]) g l,λ zz=>False⟩) (h:Inv 0 [] g [])
  (post:∀ vs g l' n,New g n → Inv xs.length vs g l' → WG (adv k (.v (.ref n) :: st) l I) I (g.addI n (.list vs)) P) :
  WG ⟨.comp tg s e :: k,.v y :: st,l⟩ I g P:=λ c s0=>hI c _ _ _ s0 (by
 show wpB _ _
 rw [hf]
 refine wp_coll xs (λ i vs c l=>∃ g,St g c ∧ Inv i vs g l) (λ i vs c l ⟨g,s,h⟩=>hit i vs g l h c i s) (λ i vs c l x hx ⟨g,s',h⟩=>wp_bnd (by
  have h0:=adv_ok (step i vs g l x hx h) c s'
  have h1:=comp_ok s (x:=x) (st:=[]) h0
  refine wp_mono h1 (λ zz c l h=>?_) λ _ ⟨_,_,h⟩=>h
  have h2:=comp_ok e (x:=()) (st:=[]) h
  exact wp_mono h2 (λ zz zz zz h=>h) λ _ ⟨_,_,h⟩=>h))
  turns 0 [] c _ (Nat.zero_le _) (by rw [Nat.zero_add]; exact Nat.lt_of_le_of_lt (Nat.le_of_ble_eq_true hl) (by decide)) ⟨g,s0,h⟩ λ vs c l' ⟨g,s,h⟩=>adv_ok (post vs g l' _ s.New h) _ (s.addI _))
theorem map_at {α:Type} {ys:List α} {f:α → PV} {i:Nat} {x:PV} {X:Prop} (h:(ys.map f)[i]? = some x) (k:∀ y,ys[i]? = some y → x = f y → X):X:=by
 rw [List.getElem?_map] at h
 cases e:ys[i]? with
 | none=>rw [e] at h; cases h
 | some y=>rw [e] at h; exact k y e (Option.some.inj h).symm
theorem g_sbF {n j:Nat} {bs:List (Option PV)} {o:Option PV} (ro:I.ro = false) (fb:Fb g n bs) (e:bs[j]? = some o) (hb:I.b j = n + j) (q:∀ g',Fb g' n (bs.set j (some v)) → Kn (λ zz=>true) g g' → WG (adv k st l I) I g' P):WG ⟨.sb j :: k,.v v :: st,l⟩ I g P:=
 g_sb ro (hb ▸ fb j o e) (hb ▸ q _ (fb.set j (some v)) (Kn.box (fb j o e)))
theorem g_forF {α:Type} {tg:Bool} {s:G .s} {b:F} {it:It} (ys:List α) (f:α → PV) (H:Nat → Gh) (Inv:Nat → Locs → Prop) (hI:Itr (H 0) y it) (hf:fitsB tg it = true) (hl:Nat.ble ys.length 199 = true) (hit:∀ i,Its (H i) it (ys.map f))
  (step:∀ i l y,ys[i]? = some y → Inv i l → WG (adv (comp s (compF b [])) [.v (f y)] (.s l) (I.it it)) (I.it it) (H i) ⟨λ g' l=>H (i + 1) = g' ∧ Inv (i + 1) l,P.R,P.E⟩) (h:Inv 0 l.val) (post:∀ l,Inv ys.length l → WG (adv k st (.s l) I) I (H ys.length) P) :
  WG ⟨.for tg s b :: k,.v y :: st,l⟩ I (H 0) P:=
 g_for hI hf (ys.map f) (by rw [List.length_map]; exact hl) (λ i g' l=>H i = g' ∧ Inv i l) (λ i g' l h=>h.1 ▸ hit i) (λ i g' l x hx h=>map_at hx λ y hy e=>by subst e; obtain ⟨rfl,h⟩:=h; exact step i l y hy h) ⟨rfl,h⟩ λ g' l h=>by
  rw [List.length_map] at h
  obtain ⟨rfl,h⟩:=h; exact post l h
theorem g_fzpF {α:Type} {tg:Bool} {s:G .s} {b:F} {x z:Nat} (ys:List α) (f:α → PV) (H:Nat → Gh) (Inv:Nat → Locs → Prop) (ht:tg = true) (hl:Nat.ble ys.length 199 = true) (hit:∀ i,Its (H i) (.zip x z) (ys.map f))
  (step:∀ i l y,ys[i]? = some y → Inv i l → WG (adv (comp s (compF b [])) [.v (f y)] (.s l) I) I (H i) ⟨λ g' l=>H (i + 1) = g' ∧ Inv (i + 1) l,P.R,P.E⟩) (h:Inv 0 l.val) (post:∀ l,Inv ys.length l → WG (adv k st (.s l) I) I (H ys.length) P) :
  WG ⟨.fzp tg s b :: k,.v (.ref z) :: .v (.ref x) :: .v (.val (.type "zip")) :: st,l⟩ I (H 0) P:=
 g_fzp ht (ys.map f) (by rw [List.length_map]; exact hl) (λ i g' l=>H i = g' ∧ Inv i l) (λ i g' l h=>h.1 ▸ hit i) (λ i g' l x hx h=>map_at hx λ y hy e=>by subst e; obtain ⟨rfl,h⟩:=h; exact step i l y hy h) ⟨rfl,h⟩ λ g' l h=>by
  rw [List.length_map] at h
  obtain ⟨rfl,h⟩:=h; exact post l h
theorem g_for0 {α:Type} {tg:Bool} {s:G .s} {b:F} {it:It} (ys:List α) (f:α → PV) (Inv:Nat → Locs → Prop) (hI:Itr g y it) (hf:fitsB tg it = true) (hl:Nat.ble ys.length 199 = true) (hit:Its g it (ys.map f))
  (step:∀ i l y,ys[i]? = some y → Inv i l → WG (adv (comp s (compF b [])) [.v (f y)] (.s l) (I.it it)) (I.it it) g ⟨λ g' l=>g = g' ∧ Inv (i + 1) l,P.R,P.E⟩) (h:Inv 0 l.val) (post:∀ l,Inv ys.length l → WG (adv k st (.s l) I) I g P) :
  WG ⟨.for tg s b :: k,.v y :: st,l⟩ I g P:=g_forF ys f (λ zz=>g) Inv hI hf hl (λ zz=>hit) step h post
theorem g_comp0 {α:Type} {tg:Bool} {s:G .s} {e:G .e} {it:It} (ys:List α) (f f':α → PV) (hI:Itr g y it) (hf:fitsB tg it = true) (hl:Nat.ble ys.length 199 = true) (hit:Its g it (ys.map f))
  (step:∀ l y,y ∈ ys → ∀ P:PG,(∀ l,P.R (f' y) g l) → WG (adv (comp s (comp e [.ret])) [.v (f y)] (.s l) (I.it it)) (I.it it) g P)
  (post:∀ n,New g n → WG (adv k (.v (.ref n) :: st) l I) I (g.addI n (.list (ys.map f'))) P) :
  WG ⟨.comp tg s e :: k,.v y :: st,l⟩ I g P:=
 g_comp hI hf (ys.map f) (by rw [List.length_map]; exact hl) (λ i vs g' l=>g = g' ∧ vs = (ys.take i).map f') (λ i vs g' l h=>h.1 ▸ hit) (λ i vs g' l x hx h=>map_at hx λ y hy e=>by
  subst e
  obtain ⟨rfl,rfl⟩:=h
  exact step l y (List.mem_of_getElem? hy) _ λ l=>⟨rfl,by rw [List.take_succ,hy,List.map_append]; rfl⟩) ⟨rfl,rfl⟩ λ vs g' l' n N h=>by
  rw [List.length_map,List.take_length] at h
  obtain ⟨rfl,rfl⟩:=h
  exact post n N
end
noncomputable def Has (fs l:Locs):Prop:=∀ x v,fs.lookup x = some v → l.lookup x = some v
theorem Has.put {fs l:Locs} {x:Str} {v:PV} (h:Has fs l) (hx:fs.lookup x = none):Has fs (putLoc x v l):=λ y u e=>lk_pne (beq_false_of_ne λ q=>by rw [q,hx] at e; cases e) (h y u e)
section
variable {d:Nat} {ro:Bool} {f:PV} {vs:List PV} {g:Gh} {Q:PV → Gh → Prop} {E:Gh → Prop} {F:F} {l:Locs}
theorem cg_fn (o:∀ c,callF tbl (d + 1) ro f vs c = fin (denF F (fnI d ro c.length) (c ++ []) l)) (h:∀ n,WG (adv (compF F []) [] (.c l) (fnI d ro n)) (fnI d ro n) g (fnP Q E)):Cg (callF tbl (d + 1)) ro f vs g Q E:=λ c s=>by
 rw [o c,List.append_nil]
 refine cp_fin (wp_to (compF_ok F (st:=[]) (k:=[]) (adv_ok (h c.length) c s)) λ w c l h=>?_)
 cases w <;> exact h
theorem adds_st:∀ {xs:List Cell} {g:Gh} {c:Cells} {n:Nat},n = c.length → St g c → St (adds g n xs) (c ++ xs)
 | [],g,c,_,_,s=>by rw [List.append_nil]; exact s
 | x :: r,g,c,_,e,s=>by
  subst e
  have:=adds_st (xs:=r) (n:=c.length + 1) (by simp) (s.addI x)
  rwa [List.append_assoc] at this
theorem cg_fb {xs:List Cell} (o:∀ c,callF tbl (d + 1) ro f vs c = fin (denF F (fnI d ro c.length) (c ++ xs) l)) (h:∀ n,(∀ i,n ≤ i → New g i) → WG (adv (compF F []) [] (.c l) (fnI d ro n)) (fnI d ro n) (adds g n xs) (fnP Q E)):Cg (callF tbl (d + 1)) ro f vs g Q E:=λ c s=>by
 rw [o c]
 refine cp_fin (wp_to (compF_ok F (st:=[]) (k:=[]) (adv_ok (h c.length λ i hi=>⟨s.fresh hi,λ r e=>absurd (s.ltA r) (by omega)⟩) _ (adds_st rfl s))) λ w c l h=>?_)
 cases w <;> exact h
theorem cg_lam {L:G .e} {J:In} (o:∀ c,callF tbl (d + 1) ro f vs c = finE (den L J () c [])) (h:WG (adv (comp L [.ret]) [] (.c []) J) J g (fnP Q E)):Cg (callF tbl (d + 1)) ro f vs g Q E:=λ c s=>by
 rw [o c]
 exact cp_finE (comp_ok L (x:=()) (st:=[]) (adv_ok h c s))
theorem cg_cls {C:Addr} {gs:Nat → Gh} {L:PV → Locs} (o:∀ c,callF tbl (d + 1) ro f vs c = finC c.length (denF F (fnI d ro (c ++ [Cell.inst C []]).length) ((c ++ [Cell.inst C []]) ++ []) (L (.ref c.length)))) (al:Al g (.inst C []) gs)
  (h:∀ n m,New g n → WG (adv (compF F []) [] (.c (L (.ref n))) (fnI d ro m)) (fnI d ro m) (gs n) ⟨λ g zz=>Q (.ref n) g,λ zz zz zz=>False,λ zz=>False⟩):Cg (callF tbl (d + 1)) ro f vs g Q E:=λ c s=>by
 rw [o c,List.append_nil]
 refine cp_finC (wp_mono (compF_ok F (st:=[]) (k:=[]) (adv_ok (h c.length (c ++ [Cell.inst C []]).length s.New) _ (al c s))) (λ w c l h=>?_) λ _ ⟨_,_,h⟩=>h)
 cases w with
 | nxt=>exact h
 | ret v=>exact h.elim λ zz h=>h.2
end
end Mine
end
open PySem
local macro_rules | `(tactic| walk_at "lk")=>`(tactic| first | assumption | with_reducible exact Mine.lk_put | ((with_reducible refine' Mine.lk_pne ?k1 ?k2); (case k1=>kernel_rfl); (case k2=>walk_at "lk")) | exact (by assumption:Mine.Has _ _) _ _ rfl | exact rfl)
local macro_rules | `(tactic| walk_at "ga")=>`(tactic| first | assumption | exact Mine.ga_i (by assumption) | exact Mine.ga_i ((by assumption:Mine.Fb _ _ _) _ _ rfl) | exact Mine.ga_X (by assumption) | ((refine' Mine.ga_x ?k1 ?k2); (case k1=>assumption); (case k2=>assumption)))
local macro_rules | `(tactic| walk_at "g")=>`(tactic| first
 | with_reducible first | refine Mine.g_tupT ?_ | refine Mine.g_int ?_ | refine Mine.g_isN ?_ | refine Mine.g_doF ?_ | refine Mine.g_cf ?_
 | ((fail_if_success (with_reducible refine Mine.g_is ?_)); refine Mine.g_is ?_)
 | ((with_reducible refine' Mine.g_loc ?k1 ?_); (case k1=>walk_at "lk"))
 | ((with_reducible refine' Mine.g_box ?k1 ?_); (case k1=>walk_at "ga"))
 | ((with_reducible refine' Mine.g_ga ?k1 ?k2 ?k3 ?k4 ?_); (case k1=>walk_at "ga"); (case k2=>kernel_rfl); (case k3=>exact rfl); (case k4=>exact rfl))
 | ((with_reducible refine' Mine.g_mapp ?k1 ?_); (case k1=>walk_at "ga"))
 | ((with_reducible refine' Mine.g_mpop ?k1 ?_); (case k1=>walk_at "ga"))
 | ((with_reducible refine' Mine.g_itD ?k1 ?k2 ?k3 ?_); (case k1=>walk_at "ga"); (case k2=>kernel_rfl); (case k3=>exact rfl))
 | ((with_reducible refine' Mine.g_len ?k1 ?k2 ?_); (case k1=>walk_at "ga"); (case k2=>assumption)))
section
open PySem
set_option backward.match.sparseCases false
namespace Mine
inductive Itm where
 | srt (name:Str) (e:Nat) (num:Int) (ps body:PV)
 | fn (name:Str) (e:Nat) (f:Int) (as:PV) (res:Int) (hs:PV) (b:Int)
noncomputable def Itm.name:Itm → Str
 | .srt n ..=>n
 | .fn n ..=>n
noncomputable def Itm.e:Itm → Nat
 | .srt _ e ..=>e
 | .fn _ e ..=>e
noncomputable def Itm.kind:Itm → Str
 | .srt ..=>"sort"
 | .fn ..=>"fun"
noncomputable def Itm.row:Itm → PV
 | .srt _ _ num ps b=>.tup [.int num,ps,b]
 | .fn _ _ f as r hs b=>.tup [.int f,as,.int r,hs,.int b]
noncomputable def Itm.ent:Itm → Cell
 | .srt _ _ num ps b=>.inst 320 [("sort",.int num),("params",ps),("body",b)]
 | .fn _ _ f as r hs b=>.inst 348 [("fun",.int f),("arg_sorts",as),("result",.int r),("holders",hs),("body",.int b)]
noncomputable def Itm.isSrt:Itm → Bool
 | .srt ..=>true
 | .fn ..=>false
noncomputable def Itm.ok (it:Itm):Prop:=PyData.strOk it.name = true ∧ smallD it.row = true
noncomputable def sel (k:Bool) (B:List Itm):List Itm:=B.filter λ it=>it.isSrt == k
noncomputable def selD (k:Bool) (B:List Itm):List (Key × PV):=(sel k B).map λ it=>(.s it.name,.ref it.e)
noncomputable def selP (k:Bool) (B:List Itm):List (Key × PV):=(sel k B).map λ it=>(.s it.name,it.row)
noncomputable def Itm.vis:Itm → Option PV
 | .srt ..=>none
 | .fn n _ f as r _ b=>if b = 0 then some (.tup [.str n,.int f,as,.int r]) else none
noncomputable def viP (B:List Itm):List PV:=B.filterMap Itm.vis
noncomputable def brL (B:List Itm):List PV:=B.map λ it=>.tup [.str it.kind,.str it.name]
noncomputable abbrev Bnd:=List (Str × Int) × Nat × Nat
noncomputable def natsL (l:List Nat):List PV:=l.map λ (k:Nat)=>.int k
structure SyR (B:List Itm) (scs:List Nat) (bd:List Bnd) (g:Gh):Prop where
 aS:g.A .syms = 16
 cS:g.X .syms = .inst 479 [("bank",.ref 4),("sorts",.ref (g.A .so)),("functions",.ref (g.A .fu)),("brought",.ref (g.A .br)),("scopes",.ref (g.A .sc)),("lets",.ref (g.A .le)),("numeral_sort",.int 1)]
 so:g.X .so = .dict (selD true B)
 fu:g.X .fu = .dict (selD false B)
 br:g.X .br = .list (brL B)
 sc:g.X .sc = .list (natsL scs)
 le:g.X .le = .list (bd.map λ x=>.ref x.2.1)
 ents:∀ it ∈ B,g.I it.e = some it.ent
 ok:∀ it ∈ B,it.ok
 nd:∀ k,((sel k B).map Itm.name).Nodup
 lets:∀ x ∈ bd,g.I x.2.1 = some (.dict (putAll (x.1.map λ p=>(.s p.1,.int p.2)) []))
noncomputable abbrev wD (p s b ns nf:Nat):List (Key × PV):=[(.s "bank",.ref 4),(.s "symbols",.ref 16),(.s "terms",.ref 15),(.s "kinds",.ref 23),(.s "pictures",.ref p),(.s "scopes",.ref s),(.s "marks",.ref 30),(.s "bound",.ref b),(.s "sorts",.int ns),(.s "functions",.int nf)]
noncomputable def Pic (g:Gh) (B:List Itm) (x:PV):Prop:=∀ X:Prop,(∀ d1 d2 v,x = .tup [.ref d1,.ref d2,.ref v] → g.I d1 = some (.dict (selP true B)) → g.I d2 = some (.dict (selP false B)) → g.I v = some (.list (viP B)) → X) → X
structure WoR (B:List Itm) (scs:List Nat) (bd:List Bnd) (mks:List Nat) (ns nf:Nat) (g:Gh):Prop where
 aW:g.A .world = 24
 cW:g.X .world = .dict (wD (g.A .pics) (g.A .wsc) (g.A .wbd) ns nf)
 aM:g.A .marks = 30
 mkc:g.X .marks = .list (natsL mks)
 wsc:g.X .wsc = .list (natsL scs)
 wbd:g.X .wbd = .list (bd.map λ x=>.ref x.2.2)
 rows:∀ x ∈ bd,g.I x.2.2 = some (.list (x.1.map λ p=>.tup [.str p.1,.int p.2]))
 rok:∀ x ∈ bd,∀ p ∈ x.1,PyData.strOk p.1 = true
 rlen:∀ x ∈ bd,x.1.length ≤ 2
 pics:∀ X:Prop,(∀ ps,g.X .pics = .list ps → ps.length = B.length + 1 → (∀ k x,ps[k]? = some x → Pic g (B.take k) x) → X) → X
noncomputable def adB:Rl → Nat
 | .sn=>5
 | .sw=>6
 | .fn=>7
 | .fa=>8
 | _=>9
noncomputable def cntB (ns nf:Nat):Rl → Nat
 | .sn=>ns
 | .sw=>ns
 | _=>nf
noncomputable def bankT:List (Nat × Cell):=[(4,.inst 297 [("sort_names",.ref 5),("sort_widths",.ref 6),("fun_names",.ref 7),("fun_args",.ref 8),("fun_results",.ref 9),("fresh_count",.int 0),("term_ops",.ref 10),("term_args",.ref 11),("term_sorts",.ref 12),("term_datas",.ref 13),("numbers",.ref 14),("true_number",.int 1),("false_number",.int 2)]),
 (12,.list [.int 0,.int 0,.int 0,.int 0,.int 1,.int 2]),(15,.list [.int 3,.int 4,.int 5,.int 1]),(23,.dict [(.i 3,.int 0),(.i 4,.int 1),(.i 5,.int 2),(.i 1,.int 0)])]
structure BaX (cnt:Rl → Nat) (g:Gh):Prop where
 ad:∀ r,isB' r = true → g.A r = adB r
 ls:∀ r,isB' r = true → ∀ X:Prop,(∀ xs,g.X r = .list xs → xs.length = cnt r → X) → X
 fz:∀ i x,(i,x) ∈ bankT → g.I i = some x
noncomputable abbrev BaR (ns nf:Nat):Gh → Prop:=BaX (cntB ns nf)
inductive FeR (b:Nat) (g:Gh):Prop
 | mk (n:Nat) (S:Int) (cs:List Int) (aF:g.A .feed = 3) (e1:g.X .feed = .dict [(.s "cells",.ref 1),(.s "at",.int n),(.s "sum",.int S)]) (e2:g.I 1 = some (.list (cs.map PV.int))) (hl:cs.length ≤ 40) (hS:0 ≤ S) (hS':S ≤ 1000000) (hn:n + b ≤ 190)
section
variable {B:List Itm} {scs mks:List Nat} {bd:List Bnd} {ns nf b:Nat} {g g':Gh} {p:Rl → Bool} {c:Cells}
theorem Itm.nb:∀ it:Itm,nbx it.ent = true
 | .srt ..=>rfl
 | .fn ..=>rfl
theorem bank_nb {i:Nat} {x:Cell} (h:(i,x) ∈ bankT):nbx x = true:=List.all_eq_true.mp (show (bankT.all λ p=>nbx p.2) = true from rfl) (i,x) h
theorem FeR.kn (h:FeR b g) (k:Kn p g g') (hp:subR isF' p = true):FeR b g':=by
 obtain ⟨n,S,cs,aF,e1,e2,hl,hS,hS',hn⟩:=h
 exact ⟨n,S,cs,(k.a _ (sub_of hp _ rfl)).trans aF,(k.x _ (sub_of hp _ rfl)).trans e1,k.i _ _ rfl e2,hl,hS,hS',hn⟩
variable {cnt cnt':Rl → Nat}
theorem FeR.kp (h:FeR b g) (k:Kp p g g') (hp:subR isF' p = true):FeR b g':=h.kn k.toKn hp
theorem BaX.kn (h:BaX cnt g) (k:Kn p g g') (hp:subR isB' p = true):BaX cnt g':=
 ⟨λ r q=>(k.a r (sub_of hp r q)).trans (h.ad r q),λ r q X c=>h.ls r q X λ xs e l=>c xs ((k.x r (sub_of hp r q)).trans e) l,λ i x m=>k.i _ _ (bank_nb m) (h.fz i x m)⟩
theorem BaX.kp (h:BaX cnt g) (k:Kp p g g') (hp:subR isB' p = true):BaX cnt g':=h.kn k.toKn hp
theorem BaX.bank (h:BaX cnt g):Ga g 4 (.inst 297 [("sort_names",.ref 5),("sort_widths",.ref 6),("fun_names",.ref 7),("fun_args",.ref 8),("fun_results",.ref 9),("fresh_count",.int 0),("term_ops",.ref 10),("term_args",.ref 11),("term_sorts",.ref 12),("term_datas",.ref 13),("numbers",.ref 14),("true_number",.int 1),("false_number",.int 2)]):=ga_i (h.fz _ _ (.head _))
theorem BaX.kinds12 (h:BaX cnt g):Ga g 12 (.list [.int 0,.int 0,.int 0,.int 0,.int 1,.int 2]):=ga_i (h.fz _ _ (.tail _ (.head _)))
theorem BaX.terms (h:BaX cnt g):Ga g 15 (.list [.int 3,.int 4,.int 5,.int 1]):=ga_i (h.fz _ _ (.tail _ (.tail _ (.head _))))
theorem BaX.kinds (h:BaX cnt g):Ga g 23 (.dict [(.i 3,.int 0),(.i 4,.int 1),(.i 5,.int 2),(.i 1,.int 0)]):=ga_i (h.fz _ _ (.tail _ (.tail _ (.tail _ (.head _)))))
theorem BaX.reI {n:Nat} {x:Cell} (h:BaX cnt g) (h0:BaX cnt' g') (N:New g' n):BaX cnt (g.addI n x):=
 ⟨h.ad,h.ls,λ i y m=>(addI_ne (N.ne (h0.fz i y m))).trans (h.fz i y m)⟩
noncomputable def bump (r:Rl) (cnt:Rl → Nat):Rl → Nat:=λ s=>if s = r then cnt s + 1 else cnt s
theorem BaX.push {r:Rl} {xs:List PV} {v:PV} (h:BaX cnt g) (hr:isB' r = true) (e:g.X r = .list xs):BaX (bump r cnt) (g.setX r (.list (xs ++ [v]))):=
 ⟨h.ad,λ s q X c=>h.ls s q X λ ys e2 l=>by
  by_cases z:s = r
  ·subst z
   cases e.symm.trans e2
   exact c _ setX_same (by rw [List.length_append,l]; exact (if_pos rfl).symm)
  ·exact c _ ((setX_ne z).trans e2) (l.trans (if_neg z).symm),h.fz⟩
theorem rl_B {p:Rl → Prop} (h1:p .sn) (h2:p .sw) (h3:p .fn) (h4:p .fa) (h5:p .fr):∀ r,isB' r = true → p r:=by
 intro r q
 cases r
 case sn=>exact h1
 case sw=>exact h2
 case fn=>exact h3
 case fa=>exact h4
 case fr=>exact h5
 all_goals cases q
theorem BaX.as (h:BaX cnt g) (e:∀ r,isB' r = true → cnt r = cnt' r):BaX cnt' g:=⟨h.ad,λ r q X c=>h.ls r q X λ xs e1 l=>c xs e1 (l.trans (e r q)),h.fz⟩
theorem SyR.kn (h:SyR B scs bd g) (k:Kn p g g') (hp:subR isS' p = true):SyR B scs bd g':=by
 have a:=λ r (q:isS' r = true)=>k.a r (sub_of hp r q)
 have x:=λ r (q:isS' r = true)=>k.x r (sub_of hp r q)
 refine ⟨(a _ rfl).trans h.aS,?_,(x _ rfl).trans h.so,(x _ rfl).trans h.fu,(x _ rfl).trans h.br,(x _ rfl).trans h.sc,(x _ rfl).trans h.le,λ it q=>k.i _ _ it.nb (h.ents it q),h.ok,h.nd,λ y q=>k.i _ _ rfl (h.lets y q)⟩
 rw [x _ rfl,h.cS,a _ rfl,a _ rfl,a _ rfl,a _ rfl,a _ rfl]
theorem SyR.kp (h:SyR B scs bd g) (k:Kp p g g') (hp:subR isS' p = true):SyR B scs bd g':=h.kn k.toKn hp
theorem Pic.kn {x:PV} (h:Pic g B x) (k:Kn p g g'):Pic g' B x:=λ X c=>h X λ d1 d2 v e h1 h2 h3=>c d1 d2 v e (k.i _ _ rfl h1) (k.i _ _ rfl h2) (k.i _ _ rfl h3)
theorem WoR.kn (h:WoR B scs bd mks ns nf g) (k:Kn p g g') (hp:subR isW' p = true):WoR B scs bd mks ns nf g':=by
 have a:=λ r (q:isW' r = true)=>k.a r (sub_of hp r q)
 have x:=λ r (q:isW' r = true)=>k.x r (sub_of hp r q)
 refine ⟨(a _ rfl).trans h.aW,?_,(a _ rfl).trans h.aM,(x _ rfl).trans h.mkc,(x _ rfl).trans h.wsc,(x _ rfl).trans h.wbd,λ y q=>k.i _ _ rfl (h.rows y q),h.rok,h.rlen,λ X c=>h.pics X λ ps e l q=>c ps ((x _ rfl).trans e) l λ j y e=>(q j y e).kn k⟩
 rw [x _ rfl,h.cW,a _ rfl,a _ rfl,a _ rfl]
theorem WoR.kp (h:WoR B scs bd mks ns nf g) (k:Kp p g g') (hp:subR isW' p = true):WoR B scs bd mks ns nf g':=h.kn k.toKn hp
theorem WoR.self (h:WoR B scs bd mks ns nf g):Ga g 24 (.dict (wD (g.A .pics) (g.A .wsc) (g.A .wbd) ns nf)):=ga_x h.aW h.cW
theorem brL_len:(brL B).length = B.length:=by simp [brL]
theorem nats_len {l:List Nat}:(natsL l).length = l.length:=by simp [natsL]
end
end Mine
end
section
open PySem
set_option backward.match.sparseCases false
namespace Mine
noncomputable def used (k:Bool) (B:List Itm) (n:Str):Bool:=(sel k B).any λ it=>decide (it.name = n)
noncomputable def rk (k:Bool):Rl:=if k then .so else .fu
section
variable {B:List Itm} {scs mks:List Nat} {bd:List Bnd} {ns nf b:Nat} {g g':Gh} {p:Rl → Bool} {c:Cells} {it:Itm} {k:Bool}
theorem sel_snoc:sel k (B ++ [it]) = sel k B ++ (if it.isSrt == k then [it] else []):=by
 unfold sel
 rw [List.filter_append]
 congr 1
 cases h:(it.isSrt == k) <;> simp [h]
theorem selD_same (h:it.isSrt = k):selD k (B ++ [it]) = selD k B ++ [(.s it.name,.ref it.e)]:=by
 unfold selD; rw [sel_snoc,h]; simp
theorem selP_same (h:it.isSrt = k):selP k (B ++ [it]) = selP k B ++ [(.s it.name,it.row)]:=by
 unfold selP; rw [sel_snoc,h]; simp
theorem sel_other (h:it.isSrt = !k):sel k (B ++ [it]) = sel k B:=by
 rw [sel_snoc,h]; cases k <;> simp
theorem selD_other (h:it.isSrt = !k):selD k (B ++ [it]) = selD k B:=by unfold selD; rw [sel_other h]
theorem selP_other (h:it.isSrt = !k):selP k (B ++ [it]) = selP k B:=by unfold selP; rw [sel_other h]
theorem brL_snoc:brL (B ++ [it]) = brL B ++ [.tup [.str it.kind,.str it.name]]:=by simp [brL]
theorem viP_snoc:viP (B ++ [it]) = viP B ++ it.vis.toList:=by
 unfold viP
 rw [List.filterMap_append]
 cases h:it.vis <;> simp [List.filterMap_cons,h]
theorem selD_allS:((selD k B).all λ e=>isS e.1) = true:=by unfold selD; rw [List.all_eq_true]; intro e h; obtain ⟨i,zz,rfl⟩:=List.mem_map.mp h; rfl
theorem selP_allS:((selP k B).all λ e=>isS e.1) = true:=by unfold selP; rw [List.all_eq_true]; intro e h; obtain ⟨i,zz,rfl⟩:=List.mem_map.mp h; rfl
theorem selD_len:(selD k B).length ≤ B.length:=by unfold selD sel; rw [List.length_map]; exact List.length_filter_le ..
theorem selP_len:(selP k B).length ≤ B.length:=by unfold selP sel; rw [List.length_map]; exact List.length_filter_le ..
theorem selD_any {n:Str}:((selD k B).any λ e=>decide (e.1 = .s n)) = used k B n:=by
 unfold selD used; rw [List.any_map]; congr 1; funext i; simp
theorem selP_any {n:Str}:((selP k B).any λ e=>decide (e.1 = .s n)) = used k B n:=by
 unfold selP used; rw [List.any_map]; congr 1; funext i; simp
theorem putKey_new {n:Key} {v:PV}:∀ {es:List (Key × PV)},(es.any λ e=>decide (e.1 = n)) = false → putKey n v es = es ++ [(n,v)]
 | [],_=>rfl
 | (j,u) :: r,h=>by
  simp only [List.any_cons,Bool.or_eq_false_iff,decide_eq_false_iff_not] at h
  unfold putKey
  rw [if_neg h.1,putKey_new h.2]; rfl
theorem look_last {n:Key} {v:PV} {es:List (Key × PV)} (h:(es.any λ e=>decide (e.1 = n)) = false):look n (es ++ [(n,v)]) = some v:=by
 unfold look
 rw [List.find?_append,List.find?_eq_none.mpr (λ e he=>by simpa using (List.any_eq_false.mp h e he))]
 simp
theorem filter_last {n:Key} {v:PV} {es:List (Key × PV)} (h:(es.any λ e=>decide (e.1 = n)) = false):((es ++ [(n,v)]).filter λ e=>decide (e.1 ≠ n)) = es:=by
 rw [List.filter_append,List.filter_eq_self.mpr (λ e he=>by simpa using (List.any_eq_false.mp h e he))]
 simp
theorem used_nd (h:((sel k B).map Itm.name).Nodup) (hu:used k B it.name = false) (hk:it.isSrt = k):((sel k (B ++ [it])).map Itm.name).Nodup:=by
 rw [sel_snoc,hk]
 simp only [beq_self_eq_true,if_true,List.map_append,List.map_cons,List.map_nil]
 rw [List.nodup_append]
 refine ⟨h,by simp,λ a ha b hb=>?_⟩
 simp only [List.mem_singleton] at hb
 subst hb
 obtain ⟨i,hi,rfl⟩:=List.mem_map.mp ha
 simpa using List.any_eq_false.mp hu i hi
theorem used_of_nd (h:((sel it.isSrt (B ++ [it])).map Itm.name).Nodup):used it.isSrt B it.name = false:=by
 rw [sel_snoc] at h
 simp only [beq_self_eq_true,if_true,List.map_append,List.map_cons,List.map_nil] at h
 rw [List.nodup_append] at h
 unfold used
 rw [List.any_eq_false]
 intro i hi
 simpa using h.2.2 _ (List.mem_map_of_mem hi) _ (by simp)
theorem nd_pre (h:((sel k (B ++ [it])).map Itm.name).Nodup):((sel k B).map Itm.name).Nodup:=by
 rw [sel_snoc,List.map_append] at h
 exact (List.nodup_append.mp h).1
theorem SyR.add (hy:SyR B scs bd g) (he:g.I it.e = some it.ent) (hok:it.ok) (hn:used it.isSrt B it.name = false) :
  SyR (B ++ [it]) scs bd ((g.setX (rk it.isSrt) (.dict (selD it.isSrt (B ++ [it])))).setX .br (.list (brL (B ++ [it])))):=by
 have hr:rk it.isSrt = .so ∨ rk it.isSrt = .fu:=by cases it.isSrt <;> simp [rk]
 refine ⟨hy.aS,?_,?_,?_,setX_same,?_,?_,λ i hi=>?_,λ i hi=>?_,λ k=>?_,hy.lets⟩
 ·rw [setX_ne (by decide),setX_ne (by rcases hr with q | q <;> rw [q] <;> decide),hy.cS]; rfl
 ·rw [setX_ne (by decide)]
  cases q:it.isSrt with
  | true=>exact setX_same
  | false=>rw [selD_other (show _ = !true from q)]; exact (setX_ne (by decide)).trans hy.so
 ·rw [setX_ne (by decide)]
  cases q:it.isSrt with
  | false=>exact setX_same
  | true=>rw [selD_other (show _ = !false from q)]; exact (setX_ne (by decide)).trans hy.fu
 ·rw [setX_ne (by decide),setX_ne (by rcases hr with q | q <;> rw [q] <;> decide),hy.sc]
 ·rw [setX_ne (by decide),setX_ne (by rcases hr with q | q <;> rw [q] <;> decide),hy.le]
 ·rcases List.mem_append.mp hi with q | q
  ·exact hy.ents i q
  ·rw [List.mem_singleton] at q; subst q; exact he
 ·rcases List.mem_append.mp hi with q | q
  ·exact hy.ok i q
  ·rw [List.mem_singleton] at q; subst q; exact hok
 ·by_cases q:it.isSrt = k
  ·subst q; exact used_nd (hy.nd _) hn rfl
  ·rw [sel_other (by revert q; cases it.isSrt <;> cases k <;> simp)]; exact hy.nd k
theorem SyR.del (hy:SyR (B ++ [it]) scs bd g):SyR B scs bd ((g.setX .br (.list (brL B))).setX (rk it.isSrt) (.dict (selD it.isSrt B))):=by
 have hr:rk it.isSrt = .so ∨ rk it.isSrt = .fu:=by cases it.isSrt <;> simp [rk]
 have no:∀ r,r ≠ .so → r ≠ .fu → r ≠ rk it.isSrt:=λ r h1 h2=>by rcases hr with q | q <;> rw [q] <;> assumption
 refine ⟨hy.aS,?_,?_,?_,?_,?_,?_,λ i hi=>hy.ents i (List.mem_append_left _ hi),λ i hi=>hy.ok i (List.mem_append_left _ hi),λ k=>nd_pre (hy.nd k),hy.lets⟩
 ·rw [setX_ne (no _ (by decide) (by decide)),setX_ne (by decide),hy.cS]; rfl
 ·cases q:it.isSrt with
  | true=>exact setX_same
  | false=>exact (setX_ne (by decide)).trans ((setX_ne (by decide)).trans (hy.so.trans (by rw [selD_other (show _ = !true from q)])))
 ·cases q:it.isSrt with
  | false=>exact setX_same
  | true=>exact (setX_ne (by decide)).trans ((setX_ne (by decide)).trans (hy.fu.trans (by rw [selD_other (show _ = !false from q)])))
 ·rw [setX_ne (no _ (by decide) (by decide)),setX_same]
 ·rw [setX_ne (no _ (by decide) (by decide)),setX_ne (by decide),hy.sc]
 ·rw [setX_ne (no _ (by decide) (by decide)),setX_ne (by decide),hy.le]
theorem SyR.scs' (hy:SyR B scs bd g) (scs':List Nat):SyR B scs' bd (g.setX .sc (.list (natsL scs'))):=
 ⟨hy.aS,(setX_ne (by decide)).trans hy.cS,(setX_ne (by decide)).trans hy.so,(setX_ne (by decide)).trans hy.fu,(setX_ne (by decide)).trans hy.br,setX_same,(setX_ne (by decide)).trans hy.le,hy.ents,hy.ok,hy.nd,hy.lets⟩
theorem SyR.bds (hy:SyR B scs bd g) (bd':List Bnd) (h:∀ x ∈ bd',g.I x.2.1 = some (.dict (putAll (x.1.map λ p=>(.s p.1,.int p.2)) []))):SyR B scs bd' (g.setX .le (.list (bd'.map λ x=>.ref x.2.1))):=
 ⟨hy.aS,(setX_ne (by decide)).trans hy.cS,(setX_ne (by decide)).trans hy.so,(setX_ne (by decide)).trans hy.fu,(setX_ne (by decide)).trans hy.br,(setX_ne (by decide)).trans hy.sc,setX_same,hy.ents,hy.ok,hy.nd,h⟩
theorem SyR.re {it':Itm} (hy:SyR (B ++ [it]) scs bd g) (h1:it'.name = it.name) (h2:it'.e = it.e) (h3:it'.isSrt = it.isSrt) (h4:it'.ok) (hB:∀ i ∈ B,i.e ≠ it.e) (hb:∀ x ∈ bd,x.2.1 ≠ it.e) :
  SyR (B ++ [it']) scs bd (g.addI it.e it'.ent):=by
 have hk:it'.kind = it.kind:=by cases it <;> cases it' <;> first | rfl | cases h3
 have hs:∀ k,selD k (B ++ [it']) = selD k (B ++ [it]):=λ k=>by
  unfold selD; rw [sel_snoc,sel_snoc,h3]; cases q:(it.isSrt == k) <;> simp [h1,h2]
 refine ⟨hy.aS,hy.cS,?_,?_,?_,hy.sc,hy.le,λ i hi=>?_,λ i hi=>?_,λ k=>?_,λ x hx=>?_⟩
 ·rw [hs]; exact hy.so
 ·rw [hs]; exact hy.fu
 ·rw [brL_snoc,hk,h1,← brL_snoc]; exact hy.br
 ·rcases List.mem_append.mp hi with q | q
  ·rw [addI_ne (hB i q)]; exact hy.ents i (List.mem_append_left _ q)
  ·rw [List.mem_singleton] at q; subst q; rw [h2]; exact addI_self
 ·rcases List.mem_append.mp hi with q | q
  ·exact hy.ok i (List.mem_append_left _ q)
  ·rw [List.mem_singleton] at q; subst q; exact h4
 ·have:=hy.nd k
  rw [sel_snoc] at this ⊢
  rw [h3]
  cases q:(it.isSrt == k)
  ·rw [q] at this; exact this
  ·rw [q] at this; simpa [h1] using this
 ·rw [addI_ne (hb x hx)]; exact hy.lets x hx
end
end Mine
end
section
open PySem
set_option backward.match.sparseCases false
namespace Mine
section
variable {B:List Itm} {scs mks:List Nat} {bd:List Bnd} {ns nf b d:Nat} {g g':Gh} {Q:PV → Gh → Prop} {E:Gh → Prop}
noncomputable def notF (r:Rl):Bool:=!isF' r
theorem sm_of {i:Int} (h:0 ≤ i) (h':i ≤ 4000000):smallI i = true:=by
 unfold smallI
 rw [decide_eq_true (Int.lt_of_lt_of_le (by decide) h),decide_eq_true (Int.lt_of_le_of_lt h' (by decide))]; rfl
theorem draw_sp (f:FeR (b + 1) g) {w:Int} (hw:0 < w) (hw':w ≤ 1009)
  (q:∀ v g',0 ≤ v → v < w → FeR b g' → Kp notF g g' → Q (.int v) g'):Cg (callF tbl (d + 1)) false (.val (.ref 491)) [.ref 3,.int w] g Q E:=by
 obtain ⟨n,S,cs,aF,e1,e2,hl,hS,hS',hn⟩:=f
 refine cg_fn (λ c=>o491 ..) λ zz=>?_
 repeat walk_at "g"
 refine g_si rfl (ga_x aF e1) (by kernel_rfl) (lim_of rfl) (show Up g 3 _ (g.setX .feed (.dict [(.s "cells",.ref 1),(.s "at",.int ((n:Int) + 1)),(.s "sum",.int S)])) from up_x aF) ?_
 have f2:FeR b (g.setX .feed (.dict [(.s "cells",.ref 1),(.s "at",.int ((n:Int) + 1)),(.s "sum",.int S)])):=⟨n + 1,S,cs,aF,setX_same,e2,hl,hS,hS',by lia⟩
 have k2:Kp notF g (g.setX .feed (.dict [(.s "cells",.ref 1),(.s "at",.int ((n:Int) + 1)),(.s "sum",.int S)])):=Kp.setX rfl
 have x2:(g.setX .feed (.dict [(.s "cells",.ref 1),(.s "at",.int ((n:Int) + 1)),(.s "sum",.int S)])).X .feed = _:=setX_same
 generalize g.setX .feed (.dict [(.s "cells",.ref 1),(.s "at",.int ((n:Int) + 1)),(.s "sum",.int S)]) = g2 at f2 k2 x2 ⊢
 have i2:=k2.i _ _ e2
 have aF:=(show g2.A .feed = 3 from by cases f2; assumption)
 have hll:(cs.map PV.int).length ≤ lim:=by rw [List.length_map]; exact Nat.le_trans hl (by decide)
 repeat walk_at "g"
 refine g_ite (λ hc=>?_) λ hc=>?_
 ·have hc:=of_decide_eq_true hc
  rw [List.length_map] at hc
  have hcn:n < cs.length:=Int.ofNat_lt.mp hc
  repeat walk_at "g"
  refine g_itL (ga_i i2) (v:=.int cs[n]) ?_ ?_
  ·rw [show (n:Int) + 1 - 1 = (n:Nat) from Int.add_sub_cancel ..]
   exact tupAt_nat hll (by rw [List.getElem?_map,List.getElem?_eq_getElem hcn]; rfl)
  repeat walk_at "g"
  refine g_mod hw hw' ?_
  exact g_ret (q _ _ (Int.fmod_nonneg_of_pos _ hw) (Int.fmod_lt_of_pos _ hw) f2 k2)
 ·have hb1:0 ≤ (n:Int) + 1:=by lia
  have hb2:(n:Int) + 1 ≤ 190:=by lia
  generalize (n:Int) + 1 = m at *
  repeat walk_at "g"
  have hm2:0 ≤ 7 * m * m:=Int.mul_nonneg (Int.mul_nonneg (by decide) hb1) hb1
  have hm3:7 * m * m ≤ 7 * 190 * 190:=Int.mul_le_mul (Int.mul_le_mul_of_nonneg_left hb2 (by decide)) hb2 hb1 (by decide)
  have hm5:3 * m ≤ 3 * 190:=Int.mul_le_mul_of_nonneg_left hb2 (by decide)
  have hm4:0 ≤ 3 * m:=Int.mul_nonneg (by decide) hb1
  have hm6:7 * m ≤ 7 * 190:=Int.mul_le_mul_of_nonneg_left hb2 (by decide)
  have hm7:0 ≤ 7 * m:=Int.mul_nonneg (by decide) hb1
  refine g_mul (by decide) (sm_of hb1 (Int.le_trans hb2 (by decide))) ?_
  repeat walk_at "g"
  refine g_mul (sm_of hm7 (Int.le_trans hm6 (by decide))) (sm_of hb1 (Int.le_trans hb2 (by decide))) ?_
  repeat walk_at "g"
  refine g_mul (by decide) (sm_of hb1 (Int.le_trans hb2 (by decide))) ?_
  repeat walk_at "g"
  refine g_half (sm_of (Int.add_nonneg (Int.add_nonneg hm2 hm4) hS) (Int.le_trans (Int.add_le_add (Int.add_le_add hm3 hm5) hS') (by decide))) ?_
  repeat walk_at "g"
  refine g_mod hw hw' ?_
  exact g_ret (q _ _ (Int.fmod_nonneg_of_pos _ hw) (Int.fmod_lt_of_pos _ hw) f2 k2)
end
end Mine
end
section
open PySem
set_option backward.match.sparseCases false
namespace Mine
noncomputable abbrev LL (l:Locs) (x:Str) (v:PV):Prop:=l.lookup x = some v
noncomputable def notS (r:Rl):Bool:=!isS' r
theorem mth_roll:mthOf 479 "roll_back" = some 408:=by kernel_rfl
section
variable {B:List Itm} {scs mks:List Nat} {bd:List Bnd} {ns nf b d:Nat} {g g':Gh} {Q:PV → Gh → Prop} {E:Gh → Prop}
theorem brL_lim (hl:B.length ≤ 190):(brL B).length ≤ lim:=by rw [brL_len]; exact Nat.le_trans hl (by decide)
theorem nats_lim {l:List Nat} (hl:l.length ≤ 190):(natsL l).length ≤ lim:=by rw [nats_len]; exact Nat.le_trans hl (by decide)
theorem SyR.self (hy:SyR B scs bd g):Ga g 16 (.inst 479 [("bank",.ref 4),("sorts",.ref (g.A .so)),("functions",.ref (g.A .fu)),("brought",.ref (g.A .br)),("scopes",.ref (g.A .sc)),("lets",.ref (g.A .le)),("numeral_sort",.int 1)]):=ga_x hy.aS hy.cS
theorem depth_sp (hy:SyR B scs bd g) (hl:scs.length ≤ 190) (q:Q (.int scs.length) g):Cg (callF tbl (d + 1)) false (.val (.ref 380)) [.ref 16] g Q E:=by
 have h1:=hy.self
 have h2:=hy.sc
 have hl2:=nats_lim hl
 refine cg_fn (λ c=>o380 ..) λ zz=>?_
 repeat walk_at "g"
 rw [nats_len]; exact g_ret q
theorem mark_sp (hy:SyR B scs bd g) (hl:B.length ≤ 190) (q:Q (.int B.length) g):Cg (callF tbl (d + 1)) false (.val (.ref 401)) [.ref 16] g Q E:=by
 have h1:=hy.self
 have h2:=hy.br
 have hl2:=brL_lim hl
 refine cg_fn (λ c=>o401 ..) λ zz=>?_
 repeat walk_at "g"
 rw [brL_len]; exact g_ret q
theorem push_sp (hy:SyR B scs bd g) (hl:scs.length ≤ 190) (hB:B.length ≤ 190) (q:∀ g',SyR (scs:=scs ++ [B.length]) B bd g' → Kp notS g g' → Q .none g'):Cg (callF tbl (d + 1)) false (.val (.ref 387)) [.ref 16] g Q E:=by
 have h1:=hy.self
 have h2:=hy.br
 have h3:=hy.sc
 have hl2:=brL_lim hB
 have e:natsL scs ++ [.int ((brL B).length:Nat)] = natsL (scs ++ [B.length]):=by rw [brL_len]; unfold natsL; rw [List.map_append]; rfl
 refine cg_fn (λ c=>o387 ..) λ zz=>?_
 repeat walk_at "g"
 refine g_app rfl (ga_X h3) (nats_lim hl) (up_x rfl) ?_
 repeat walk_at "g"
 exact g_end (q _ (e ▸ hy.scs' _) (Kp.setX rfl))
theorem SyR.xK (hy:SyR B scs bd g):∀ k,g.X (rk k) = .dict (selD k B)
 | true=>hy.so
 | false=>hy.fu
theorem rk_br:∀ k,rk k ≠ .br
 | true=>by decide
 | false=>by decide
theorem rk_S:∀ k,notS (rk k) = false
 | true=>rfl
 | false=>rfl
theorem kind_eq:∀ {it:Itm} {c:Cells},eqV c (.str it.kind) (.str "sort") = some it.isSrt
 | .srt ..,_=>by kernel_rfl
 | .fn ..,_=>by kernel_rfl
theorem snocE {α:Type} {X:Prop}:∀ {l:List α},0 < l.length → (∀ r a,l = r ++ [a] → X) → X
 | a :: r,_,k=>k _ _ (List.dropLast_concat_getLast (List.cons_ne_nil a r)).symm
theorem g_tab {so fu br sc le:Nat} {k:List Ins} {st:List SV} {l:Lc} {I:In} {P:PG} (h:Ga g 16 (.inst 479 [("bank",.ref 4),("sorts",.ref so),("functions",.ref fu),("brought",.ref br),("scopes",.ref sc),("lets",.ref le),("numeral_sort",.int 1)])) (l1:LL l.val "self" (.ref 16)) (hb:l.b = true) :
  ∀ {t:Bool},WG (adv k (.v (.ref (if t then so else fu)) :: st) l I) I g P → WG ⟨.ife (.attr (.loc "self") "sorts") (.attr (.loc "self") "functions") :: k,.v (.bool t) :: st,l⟩ I g P:=by
 obtain ⟨lb,lv⟩:=l
 cases hb
 intro t q
 refine g_ife (λ e=>?_) λ e=>?_
 all_goals
  subst e
  repeat walk_at "g"
  exact q
theorem rk_A:∀ t:Bool,(if t then g.A .so else g.A .fu) = g.A (rk t)
 | true=>rfl
 | false=>rfl
noncomputable def bodyW:F → F
 | .sq (.whl _ b) _=>b
 | f=>f
theorem roll_step {B1 B2:List Itm} {it:Itm} {l:Locs} {m n:Nat} {P:PG} (e:B2 = B1 ++ [it]) (hy:SyR B2 scs bd g) (hl:B2.length ≤ 190) (l1:LL l "self" (.ref 16)) (l2:LL l "mark" (.int m))
  (q:∀ g' l,SyR B1 scs bd g' → Kp notS g g' → LL l "self" (.ref 16) → LL l "mark" (.int m) → P.N g' l):WG (adv (compF (bodyW P408) []) [] (.s l) (fnI d false n)) (fnI d false n) g P:=by
 subst e
 have h1:=hy.self
 have h2:=hy.br.trans (congrArg Cell.list brL_snoc)
 have hll:=brL_lim hl
 rw [brL_snoc] at hll
 have hv:(List.any (selD it.isSrt B1) λ e=>decide (e.1 = .s it.name)) = false:=selD_any.trans (used_of_nd (hy.nd it.isSrt))
 have ex:=(hy.xK it.isSrt).trans (congrArg Cell.dict (selD_same rfl))
 repeat walk_at "g"
 refine g_lpop rfl (ga_X h2) hll (v:=.tup [.str it.kind,.str it.name]) List.getLast?_concat (show Up g _ _ (g.setX .br (.list (brL B1))) from by rw [List.dropLast_concat]; exact up_x rfl) ?_
 have h1:Ga (g.setX .br (.list (brL B1))) 16 _:=ga_x hy.aS hy.cS
 have h3:Ga (g.setX .br (.list (brL B1))) (g.A (rk it.isSrt)) _:=ga_X ((setX_ne (rk_br it.isSrt)).trans ex)
 repeat walk_at "g"
 refine g_eq (λ c zz=>kind_eq) ?_
 refine g_tab h1 (by walk_at "lk") rfl ?_
 rw [rk_A]
 repeat walk_at "g"
 refine g_mdict h3 (by decide +kernel) ?_
 repeat walk_at "g"
 refine g_dpop rfl h3 (by rw [← selD_same rfl]; exact selD_allS) (by rw [← selD_same rfl]; exact Nat.le_trans selD_len (Nat.le_trans hl (by decide))) (look_last hv) (by rw [filter_last hv]; exact up_x rfl) ?_
 repeat walk_at "g"
 exact g_end (q _ _ hy.del ((Kp.setX rfl).trans (Kp.setX (rk_S _))) (by walk_at "lk") (by walk_at "lk"))
noncomputable def RollI (B:List Itm) (scs:List Nat) (bd:List Bnd) (g:Gh) (m n:Nat) (g':Gh) (l:Locs):Prop:=∀ X:Prop,(∀ B1,B1.length = n → n ≤ 190 → B1.take m = B.take m → SyR B1 scs bd g' → Kp notS g g' → LL l "self" (.ref 16) → LL l "mark" (.int m) → X) → X
theorem roll_sp {m:Nat} (hy:SyR B scs bd g) (hl:B.length ≤ 190) (q:∀ g',SyR (B.take m) scs bd g' → Kp notS g g' → Q .none g'):Cg (callF tbl (d + 1)) false (.val (.ref 408)) [.ref 16,.int m] g Q E:=by
 refine cg_fn (λ c=>o408 ..) λ zz=>g_is ?_
 refine g_whl (RollI B scs bd g m) ?_ B.length (Nat.lt_of_le_of_lt hl (by decide)) λ X k=>k B rfl hl rfl hy (Kp.refl _ _) rfl rfl
 intro n g' l A A' hA hA' h
 refine h _ λ B1 hn hl1 ht hy kp l1 l2=>?_
 have h1:=hy.self
 have h2:=hy.br
 have hl2:=brL_lim (hn ▸ hl1)
 repeat walk_at "g"
 rw [brL_len]
 refine g_tst (λ hq=>?_) λ hq=>?_
 ·have hq:=Int.ofNat_lt.mp (of_decide_eq_true hq)
  refine snocE (Nat.zero_lt_of_lt hq) λ B' it e=>?_
  have hL:B1.length = B'.length + 1:=e ▸ List.length_append
  refine hA B'.length _ _ (hn ▸ hL ▸ Nat.lt_succ_self _) (roll_step e hy (hn ▸ hl1) l1 l2 λ g' l hy' k' l1 l2 X k=>k B' rfl (Nat.le_of_succ_le (show B'.length + 1 ≤ 190 from hL ▸ hn ▸ hl1)) ?_ hy' (kp.trans k') l1 l2)
  rw [← ht,e,List.take_append_of_le_length (Nat.le_of_lt_succ (show m < B'.length + 1 from hL ▸ hq))]
 ·have hq:=Int.ofNat_le.mp (Int.not_lt.mp (of_decide_eq_false hq))
  rw [List.take_of_length_le hq] at ht
  exact hA' _ _ (g_end (q _ (ht ▸ hy) kp))
end
end Mine
end
section
open PySem
set_option backward.match.sparseCases false
namespace Mine
noncomputable def nmOk (n:Str):Prop:=PyData.strOk n = true ∧ n.length ≤ 1000
noncomputable def inL (L:List PV) (n:Str):Bool:=L.any λ v=>eqData v (.str n)
noncomputable def ownK (k:Bool):List PV:=if k then sortsL else ownL
noncomputable def badK (k:Bool) (n:Str):Bool:=inL (ownK k) n || (inL wordsL n || false)
theorem smW:wordsL.all smallD = true:=by decide +kernel
theorem smK:∀ k,(ownK k).all smallD = true
 | true=>by decide +kernel
 | false=>by decide +kernel
theorem smallD_str {n:Str} (h:PyData.strOk n = true):smallD (.str n) = true:=by
 rw [show smallD (.str n) = (PyData.strOk n && true) from by kernel_rfl,h]; rfl
theorem addI_addI {g:Gh} {n:Nat} {x y:Cell}:(g.addI n x).addI n y = g.addI n y:=by
 unfold Gh.addI
 congr 1
 funext i
 by_cases h:i = n
 ·rw [if_pos h,if_pos h]
 ·rw [if_neg h,if_neg h]; exact if_neg h
noncomputable abbrev tabN (k:Bool):Str:=if k then "sorts" else "functions"
noncomputable abbrev kndN (k:Bool):Str:=if k then "sort" else "fun"
noncomputable def PB (k:Bool):F:=
 (.sq (.iff (.bop .Or (.cmpT .In (.loc "name") (.k (.tup (ownK k)))) (.bop .Or (.cmpT .In (.loc "name") (.k (.tup wordsL))) (.tend .Or))) (.sq (.rai (.jn (.loc "name") .jend)) .done) .done)
 (.sq (.iff (.cmpT .In (.loc "name") (.attr (.loc "self") (tabN k))) (.sq (.rai (.jn (.loc "name") .jend)) .done) .done)
 (.sq (.asg (.loc "entry") (.si (.attr (.loc "self") (tabN k)) (.loc "name")))
 (.sq (.exp (.meth (.attr (.loc "self") "brought") "append" (.cons (.tup (.cons (.k (.str (kndN k))) (.cons (.loc "name") .nil))) .nil))) .done))))
noncomputable abbrev brF (k:Bool):Addr:=if k then 415 else 436
theorem oB {d:Nat} {x0 x1 x2:PV} (c:Cells):∀ k,callF tbl (d + 1) false (.val (.ref (brF k))) [x0,x1,x2] c = fin (denF (PB k) (fnI d false c.length) (c ++ []) [("self",x0),("name",x1),("entry",x2)])
 | true=>o415 ..
 | false=>o436 ..
section
variable {B:List Itm} {scs mks:List Nat} {bd:List Bnd} {ns nf b d:Nat} {g g':Gh} {Q:PV → Gh → Prop} {E:Gh → Prop}
theorem up_aa {n:Nat} {x y:Cell}:Up (g.addI n x) n y (g.addI n y):=λ c s=>addI_addI ▸ up_i addI_self c s
theorem g_or {k:List Ins} {st:List SV} {l:Lc} {I:In} {P:PG} {t u:Bool} {r:G .t} (hr:∀ k,WG (adv k (.v (.bool u) :: st) l I) I g P → WG (adv (comp r k) st l I) I g P) (q:WG (adv k (.v (.bool (t || u)) :: st) l I) I g P):WG ⟨.bop .Or r :: k,.v (.bool t) :: st,l⟩ I g P:=by
 cases t with
 | true=>exact g_bopT rfl q
 | false=>exact g_bopF rfl (hr _ q)
theorem se_sp {x y z:PV} (q:∀ n,New g n → Q (.ref n) (g.addI n (.inst 320 [("sort",x),("params",y),("body",z)]))):Cg (callF tbl (d + 1)) false (.val (.ref 320)) [x,y,z] g Q E:=by
 refine cg_cls (L:=λ r=>[("self",r),("sort",x),("params",y),("body",z)]) (λ c=>oc320 ..) al_i λ n zz hn=>?_
 repeat walk_at "g"
 refine g_sa rfl (ga_i addI_self) (by kernel_rfl) rfl up_aa ?_
 repeat walk_at "g"
 refine g_sa rfl (ga_i addI_self) (by kernel_rfl) rfl up_aa ?_
 repeat walk_at "g"
 refine g_sa rfl (ga_i addI_self) (by kernel_rfl) rfl up_aa ?_
 exact (g_end (q n hn))
theorem fe_sp {x y z u v:PV} (q:∀ n,New g n → Q (.ref n) (g.addI n (.inst 348 [("fun",x),("arg_sorts",y),("result",z),("holders",u),("body",v)]))):Cg (callF tbl (d + 1)) false (.val (.ref 348)) [x,y,z,u,v] g Q E:=by
 refine cg_cls (L:=λ r=>[("self",r),("fun",x),("arg_sorts",y),("result",z),("holders",u),("body",v)]) (λ c=>oc348 ..) al_i λ n zz hn=>?_
 repeat walk_at "g"
 refine g_sa rfl (ga_i addI_self) (by kernel_rfl) rfl up_aa ?_
 repeat walk_at "g"
 refine g_sa rfl (ga_i addI_self) (by kernel_rfl) rfl up_aa ?_
 repeat walk_at "g"
 refine g_sa rfl (ga_i addI_self) (by kernel_rfl) rfl up_aa ?_
 repeat walk_at "g"
 refine g_sa rfl (ga_i addI_self) (by kernel_rfl) rfl up_aa ?_
 repeat walk_at "g"
 refine g_sa rfl (ga_i addI_self) (by kernel_rfl) rfl up_aa ?_
 exact (g_end (q n hn))
theorem isdef_sp {ro:Bool} {n:Str} {e:Nat} {f r bb:Int} {as hs:PV} (h:g.I e = some (Itm.ent (.fn n e f as r hs bb))) (q:Q (.bool (!(bb == 0))) g):Cg (callF tbl (d + 1)) ro (.val (.ref 345)) [.ref e] g Q E:=by
 have h:Ga g e (.inst 348 [("fun",.int f),("arg_sorts",as),("result",.int r),("holders",hs),("body",.int bb)]):=ga_i h
 refine cg_fn (λ c=>o345 ..) λ zz=>?_
 repeat walk_at "g"
 exact g_ret q
theorem pop_sp {k:Nat} (hy:SyR B (scs ++ [k]) bd g) (hl:B.length ≤ 190) (hl2:(scs ++ [k]).length ≤ 190) (q:∀ g',SyR (B.take k) scs bd g' → Kp notS g g' → Q .none g'):Cg (callF tbl (d + 2)) false (.val (.ref 394)) [.ref 16] g Q E:=by
 have h1:=hy.self
 have h2:=hy.sc
 have e:natsL (scs ++ [k]) = natsL scs ++ [.int k]:=List.map_append
 refine cg_fn (λ c=>o394 ..) λ zz=>?_
 repeat walk_at "g"
 refine g_mi h1 mth_roll rfl ?_
 repeat walk_at "g"
 refine g_lpop rfl (ga_X h2) (nats_lim hl2) (v:=.int k) (by rw [e]; exact List.getLast?_concat) (show Up g _ _ (g.setX .sc (.list (natsL scs))) from by rw [e,List.dropLast_concat]; exact up_x rfl) ?_
 repeat walk_at "g"
 refine roll_sp (hy.scs' scs) hl λ g' hy' k'=>?_
 exact (g_end (q _ hy' ((Kp.setX rfl).trans k')))
theorem hasK:∀ k,hasAt 479 (tabN k) = true
 | true=>by kernel_rfl
 | false=>by kernel_rfl
theorem lookK {br sc le:Nat} {es:List (Str × PV)}:∀ k,List.lookup (tabN k) ([("bank",.ref 4),("sorts",.ref (g.A .so)),("functions",.ref (g.A .fu)),("brought",.ref br),("scopes",.ref sc),("lets",.ref le),("numeral_sort",.int 1)]:List (Str × PV)) = some (.ref (g.A (rk k)))
 | true=>rfl
 | false=>rfl
theorem kind_it:∀ {it:Itm},kndN it.isSrt = it.kind
 | .srt ..=>rfl
 | .fn ..=>rfl
theorem bring_sp {it:Itm} (hn:nmOk it.name) (hy:SyR B scs bd g) (hB:B.length ≤ 190) (he:g.I it.e = some it.ent) (hok:it.ok)
  (q1:(badK it.isSrt it.name || used it.isSrt B it.name) = true → E g)
  (q2:(badK it.isSrt it.name || used it.isSrt B it.name) = false → ∀ g',SyR (B ++ [it]) scs bd g' → Kp notS g g' → g'.I = g.I → Q .none g') :
  Cg (callF tbl (d + 1)) false (.val (.ref (brF it.isSrt))) [.ref 16,.str it.name,.ref it.e] g Q E:=by
 have h1:=hy.self
 have h2:Ga g (g.A (rk it.isSrt)) _:=ga_X (hy.xK it.isSrt)
 have sn:=smallD_str hn.1
 refine cg_fn (λ c=>oB ..) λ n=>?_
 repeat walk_at "g"
 refine g_in (λ c zz=>memV_t sn (smK _)) (g_is (g_or (u:=inL wordsL it.name || false) (λ k q=>?_) (g_is (g_ite (λ hb=>?_) λ hb=>?_))))
 ·repeat walk_at "g"
  exact g_in (λ c zz=>memV_t sn smW) (g_is (g_or (λ k q=>q) q))
 ·repeat walk_at "g"
  exact g_jn hn.2 (g_is (g_rais (q1 (by rw [show badK it.isSrt it.name = true from hb]; rfl))))
 ·repeat walk_at "g"
  refine g_ga h1 (hasK _) (lookK (es:=[]) _) rfl ?_
  refine g_is (g_in (λ c s=>memV_k (h2 c s) selD_allS) ?_)
  rw [selD_any]
  refine g_is (g_ite (λ hu=>?_) λ hu=>?_)
  ·repeat walk_at "g"
   exact g_jn hn.2 (g_is (g_rais (q1 (by rw [hu,Bool.or_true]))))
  ·repeat walk_at "g"
   refine g_ga h1 (hasK _) (lookK (es:=[]) _) rfl ?_
   repeat walk_at "g"
   have e:putKey (.s it.name) (.ref it.e) (selD it.isSrt B) = selD it.isSrt (B ++ [it]):=(putKey_new (selD_any.trans hu)).trans (selD_same rfl).symm
   refine g_si rfl h2 selD_allS (Nat.le_trans selD_len (Nat.le_trans hB (by decide))) (show Up g _ _ (g.setX (rk it.isSrt) (.dict (selD it.isSrt (B ++ [it])))) from e ▸ up_x rfl) ?_
   have h1:Ga (g.setX (rk it.isSrt) (.dict (selD it.isSrt (B ++ [it])))) 16 _:=ga_x hy.aS ((setX_ne (by cases it.isSrt <;> decide)).trans hy.cS)
   have h3:(g.setX (rk it.isSrt) (.dict (selD it.isSrt (B ++ [it])))).X .br = _:=(setX_ne (rk_br _).symm).trans hy.br
   repeat walk_at "g"
   refine g_app rfl (ga_X (r:=.br) h3) (brL_lim hB) (up_x rfl) ?_
   refine (g_end (q2 (by rw [show badK it.isSrt it.name = false from hb]; exact hu) _ ?_ ((Kp.setX (rk_S _)).trans (Kp.setX rfl)) rfl))
   rw [kind_it,← brL_snoc]
   exact hy.add he hok hu
end
end Mine
end
section
open PySem
set_option backward.match.sparseCases false
namespace Mine
noncomputable def notB (r:Rl):Bool:=!isB' r
noncomputable def notSB (r:Rl):Bool:=!isB' r && !isS' r
noncomputable def Bat (g:Gh) (r:Rl) (k:Nat) (v:PV):Prop:=∃ xs,g.X r = .list xs ∧ xs.length ≤ 1000 ∧ xs[k]? = some v
theorem Bat.x {g g':Gh} {r:Rl} {k:Nat} {v:PV} (h:Bat g r k v) (e:g'.X r = g.X r):Bat g' r k v:=h.imp λ zz h=>⟨e.trans h.1,h.2⟩
theorem mth_bringS:∀ k,mthOf 479 (if k then "bring_sort" else "bring_function") = some (brF k)
 | true=>by kernel_rfl
 | false=>by kernel_rfl
theorem mth_decS:mthOf 297 "declare_sort" = some 112:=by kernel_rfl
theorem mth_decF:mthOf 297 "declare_fun" = some 140:=by kernel_rfl
theorem mth_sort:mthOf 297 "sort" = some 203:=by kernel_rfl
section
variable {B:List Itm} {scs mks:List Nat} {bd:List Bnd} {ns nf b d:Nat} {g g':Gh} {Q:PV → Gh → Prop} {E:Gh → Prop} {cnt:Rl → Nat}
theorem KpS (h:Kp notS g g'):Kp notSB g g':=h.mono rfl
theorem KpB (h:Kp notB g g'):Kp notSB g g':=h.mono rfl
theorem bsort_sp {t k:Int} (h:BaX cnt g) (ht:tupAt [.int 0,.int 0,.int 0,.int 0,.int 1,.int 2] t = some (.int k)) (q:Q (.int k) g):Cg (callF tbl (d + 1)) false (.val (.ref 203)) [.ref 4,.int t] g Q E:=by
 have h0:=h.bank
 refine cg_fn (λ c=>o203 ..) λ zz=>?_
 repeat walk_at "g"
 exact g_itL h.kinds12 ht (g_ret q)
theorem bat_it {r:Rl} {k:Nat} {v:PV} {K:List Ins} {st:List SV} {l:Lc} {I:In} {P:PG} (h:BaX cnt g) (hr:isB' r = true) (hx:Bat g r k v) (q:WG (adv K (.v v :: st) l I) I g P):WG ⟨.sub :: K,.v (.int k) :: .v (.ref (adB r)) :: st,l⟩ I g P:=by
 obtain ⟨xs,e,hl,hk⟩:=hx
 exact g_itL (ga_x (h.ad r hr) e) (tupAt_nat (Nat.le_trans hl (by decide)) hk) q
theorem sname_sp {k:Nat} {v:PV} (h:BaX cnt g) (hx:Bat g .sn k v) (q:Q v g):Cg (callF tbl (d + 1)) false (.val (.ref 105)) [.ref 4,.int k] g Q E:=by
 have h0:=h.bank
 refine cg_fn (λ c=>o105 ..) λ zz=>?_
 repeat walk_at "g"
 exact bat_it h rfl hx (g_ret q)
theorem fname_sp {k:Nat} {v:PV} (h:BaX cnt g) (hx:Bat g .fn k v) (q:Q v g):Cg (callF tbl (d + 1)) false (.val (.ref 161)) [.ref 4,.int k] g Q E:=by
 have h0:=h.bank
 refine cg_fn (λ c=>o161 ..) λ zz=>?_
 repeat walk_at "g"
 exact bat_it h rfl hx (g_ret q)
theorem fres_sp {k:Nat} {v:PV} (h:BaX cnt g) (hx:Bat g .fr k v) (q:Q v g):Cg (callF tbl (d + 1)) false (.val (.ref 175)) [.ref 4,.int k] g Q E:=by
 have h0:=h.bank
 refine cg_fn (λ c=>o175 ..) λ zz=>?_
 repeat walk_at "g"
 exact bat_it h rfl hx (g_ret q)
theorem len_pre {α:Type} {xs:List α} {v:α} {n:Nat} (h:xs.length = n) (hn:n ≤ 200):xs.length ≤ lim ∧ (xs ++ [v]).length ≤ 1000 ∧ (xs ++ [v])[n]? = some v:=by
 subst h
 exact ⟨Nat.le_trans hn (by decide),by rw [List.length_append]; exact Nat.le_trans (Nat.succ_le_succ hn) (by decide),List.getElem?_concat_length⟩
theorem bdecS_sp {n:Str} (h:BaR ns nf g) (hn:ns ≤ 200)
  (q:∀ g',BaR (ns + 1) nf g' → Bat g' .sn ns (.str n) → Kp notB g g' → g'.I = g.I → Q (.int ns) g'):Cg (callF tbl (d + 1)) false (.val (.ref 112)) [.ref 4,.str n] g Q E:=by
 refine h.ls .sn rfl _ λ xs ex lx=>?_
 refine h.ls .sw rfl _ λ ys ey ly=>?_
 have h2:=h.push (r:=.sn) (v:=.str n) rfl ex
 have ey2:(g.setX .sn (.list (xs ++ [.str n]))).X .sw = _:=ey
 have h3:=h2.push (r:=.sw) (v:=.int 0) rfl ey2
 have l1:=len_pre (v:=PV.str n) lx hn
 have l2:=len_pre (v:=PV.int 0) ly hn
 have h0:=h.bank
 have a1:=ga_x (h.ad .sn rfl) ex
 refine cg_fn (λ c=>o112 ..) λ zz=>?_
 repeat walk_at "g"
 refine g_app rfl a1 l1.1 (up_x (h.ad .sn rfl)) ?_
 have h0:=h2.bank
 have a1:=ga_x (h2.ad .sw rfl) ey2
 repeat walk_at "g"
 refine g_app rfl a1 l2.1 (up_x (h.ad .sw rfl)) ?_
 have h0:=h3.bank
 repeat walk_at "g"
 refine g_len (ga_x (r:=.sn) (h.ad .sn rfl) rfl) (Nat.le_trans l1.2.1 (by decide)) ?_
 have e:(((xs ++ [PV.str n]).length:Nat):Int) - 1 = (ns:Int):=by rw [List.length_append,lx]; exact Int.add_sub_cancel (ns:Int) 1
 refine g_is (g_ret ?_)
 rw [e]
 exact q _ (h3.as (rl_B rfl rfl rfl rfl rfl)) ⟨_,rfl,l1.2⟩ ((Kp.setX rfl).trans (Kp.setX rfl)) rfl
theorem bdecF_sp {n:Str} {as:List PV} {r:Int} (h:BaR ns nf g) (hn:nf ≤ 200)
  (q:∀ g',BaR ns (nf + 1) g' → Bat g' .fn nf (.str n) → Bat g' .fr nf (.int r) → Kp notB g g' → g'.I = g.I → Q (.int nf) g') :
  Cg (callF tbl (d + 1)) false (.val (.ref 140)) [.ref 4,.str n,.tup as,.int r] g Q E:=by
 refine h.ls .fn rfl _ λ xs ex lx=>?_
 refine h.ls .fa rfl _ λ ys ey ly=>?_
 refine h.ls .fr rfl _ λ zs ez lz=>?_
 have h2:=h.push (r:=.fn) (v:=.str n) rfl ex
 have ey2:(g.setX .fn (.list (xs ++ [.str n]))).X .fa = _:=ey
 have h3:=h2.push (r:=.fa) (v:=.tup as) rfl ey2
 have ez2:((g.setX .fn (.list (xs ++ [.str n]))).setX .fa (.list (ys ++ [.tup as]))).X .fr = _:=ez
 have h4:=h3.push (r:=.fr) (v:=.int r) rfl ez2
 have l1:=len_pre (v:=PV.str n) lx hn
 have l2:=len_pre (v:=PV.tup as) ly hn
 have l3:=len_pre (v:=PV.int r) lz hn
 have h0:=h.bank
 have a1:=ga_x (h.ad .fn rfl) ex
 refine cg_fn (λ c=>o140 ..) λ zz=>?_
 repeat walk_at "g"
 refine g_app rfl a1 l1.1 (up_x (h.ad .fn rfl)) ?_
 have h0:=h2.bank
 have a1:=ga_x (h2.ad .fa rfl) ey2
 repeat walk_at "g"
 refine g_app rfl a1 l2.1 (up_x (h.ad .fa rfl)) ?_
 have h0:=h3.bank
 have a1:=ga_x (h3.ad .fr rfl) ez2
 repeat walk_at "g"
 refine g_app rfl a1 l3.1 (up_x (h.ad .fr rfl)) ?_
 have h0:=h4.bank
 repeat walk_at "g"
 refine g_len (ga_x (r:=.fn) (h.ad .fn rfl) rfl) (Nat.le_trans l1.2.1 (by decide)) ?_
 have e:(((xs ++ [PV.str n]).length:Nat):Int) - 1 = (nf:Int):=by rw [List.length_append,lx]; exact Int.add_sub_cancel (nf:Int) 1
 refine g_is (g_ret ?_)
 rw [e]
 exact q _ (h4.as (rl_B rfl rfl rfl rfl rfl)) ⟨_,rfl,l1.2⟩ ⟨_,rfl,l3.2⟩ ((Kp.setX rfl).trans ((Kp.setX rfl).trans (Kp.setX rfl))) rfl
theorem decS_sp {n:Str} (hn:nmOk n) (hy:SyR B scs bd g) (hb:BaR ns nf g) (hB:B.length ≤ 190) (hns:ns ≤ 200)
  (q1:(badK true n || used true B n) = true → ∀ g',Kp (λ zz=>true) g g' → E g')
  (q2:(badK true n || used true B n) = false → ∀ g' e,SyR (B ++ [.srt n e ns (.tup []) .none]) scs bd g' → BaR (ns + 1) nf g' → Bat g' .sn ns (.str n) → Kp notSB g g' → Q (.int ns) g') :
  Cg (callF tbl (d + 2)) false (.val (.ref 422)) [.ref 16,.str n] g Q E:=by
 have h1:=hy.self
 refine cg_fn (λ c=>o422 ..) λ zz=>?_
 repeat walk_at "g"
 refine se_sp λ e N=>?_
 have k1:Kp (λ zz=>true) g (g.addI e (Itm.ent (.srt n e 0 (.tup []) .none))):=Kp.addI N.i
 have hy1:=hy.kp k1 rfl
 have h1:=hy1.self
 have ok0:∀ k:Int,(Itm.srt n e k (.tup []) .none).ok:=λ k=>⟨hn.1,rfl⟩
 repeat walk_at "g"
 refine g_mi h1 (mth_bringS true) rfl ?_
 repeat walk_at "g"
 refine bring_sp (it:=.srt n e 0 (.tup []) .none) hn hy1 hB addI_self (ok0 0) (λ hq=>q1 hq _ k1) λ hq g2 hy2 k2 hI2=>?_
 have hb2:=(hb.kp k1 rfl).kp k2 rfl
 have h3:=hy2.self
 have h4:=hb2.bank
 repeat walk_at "g"
 refine g_mi h4 mth_decS rfl ?_
 repeat walk_at "g"
 refine bdecS_sp hb2 hns λ g3 hb3 ex k3 hI3=>?_
 have f3:g3.I e = some (.inst 320 [("sort",.int 0),("params",.tup []),("body",.none)]):=by rw [hI3,hI2]; exact addI_self
 repeat walk_at "g"
 refine g_sa rfl (ga_i f3) (by kernel_rfl) rfl (show Up g3 e _ (g3.addI e (Itm.ent (.srt n e ns (.tup []) .none))) from up_i f3) ?_
 have hy4:=(hy2.kp k3 rfl).re (it':=.srt n e ns (.tup []) .none) rfl rfl rfl (ok0 _) (λ i hi=>N.ne (hy.ents i hi)) (λ x hx=>N.ne (hy.lets x hx))
 have f4:Ga (g3.addI e (Itm.ent (.srt n e ns (.tup []) .none))) e (.inst 320 [("sort",.int ns),("params",.tup []),("body",.none)]):=ga_i addI_self
 repeat walk_at "g"
 exact g_ret (q2 hq _ e hy4 (hb3.reI hb N) ex (Kp.addI' ((k1.mono rfl).trans ((KpS k2).trans (KpB k3))) N.i))
end
end Mine
end
section
open PySem
set_option backward.match.sparseCases false
namespace Mine
noncomputable def kd (t:Int):Int:=if t = 4 then 1 else if t = 5 then 2 else 0
noncomputable def isTm (t:Int):Prop:=t = 3 ∨ t = 4 ∨ t = 5 ∨ t = 1
theorem kd_at {t:Int} (h:isTm t):tupAt [.int 0,.int 0,.int 0,.int 0,.int 1,.int 2] t = some (.int (kd t)):=by
 rcases h with rfl | rfl | rfl | rfl <;> rfl
theorem any_take {α:Type} {p:α → Bool} {xs:List α} {i:Nat} {x:α} (h:(xs.take i).any p = false) (hx:xs[i]? = some x) (e:p x = false):(xs.take (i + 1)).any p = false:=by
 rw [List.take_succ,List.any_append,h,hx]
 show (p x || false) = false
 rw [e]; rfl
section
variable {B:List Itm} {scs mks:List Nat} {bd:List Bnd} {ns nf b d:Nat} {g g':Gh} {Q:PV → Gh → Prop} {E:Gh → Prop} {cnt:Rl → Nat}
theorem ble_199 {α:Type} {xs:List α} (h:xs.length ≤ 100):Nat.ble xs.length 199 = true:=Nat.ble_eq_true_of_le (Nat.le_trans h (by decide))
theorem defS_sp {n:Str} {ps:List Str} {body:PV} (hn:nmOk n) (hp:∀ p ∈ ps,nmOk p) (hl:ps.length ≤ 100) (hok:∀ e,(Itm.srt n e 0 (.tup (ps.map PV.str)) body).ok) (hy:SyR B scs bd g) (hB:B.length ≤ 190)
  (q1:(ps.any (badK true) || (badK true n || used true B n)) = true → ∀ g',Kp (λ zz=>true) g g' → E g')
  (q2:(ps.any (badK true) || (badK true n || used true B n)) = false → ∀ g' e,SyR (B ++ [.srt n e 0 (.tup (ps.map PV.str)) body]) scs bd g' → Kp notS g g' → Q .none g') :
  Cg (callF tbl (d + 2)) false (.val (.ref 429)) [.ref 16,.str n,.tup (ps.map PV.str),body] g Q E:=by
 refine cg_fn (λ c=>o429 ..) λ zz=>?_
 repeat walk_at "g"
 refine g_for0 ps PV.str (λ i l=>(ps.take i).any (badK true) = false ∧ Has [("self",.ref 16),("name",.str n),("params",.tup (ps.map PV.str)),("body",body)] l) itr_t rfl (ble_199 hl) (its_f (by rw [List.length_map]; exact Nat.le_trans hl (by decide))) (λ i l z hx hI=>?_) ⟨rfl,λ zz zz h=>h⟩ λ l hI=>?_
 ·have hz:=hp z (List.mem_of_getElem? hx)
  have sz:=smallD_str hz.1
  repeat walk_at "g"
  refine g_in (λ c zz=>memV_t sz (smK true)) (g_is (g_or (u:=inL wordsL z || false) (λ k q=>?_) (g_is (g_ite (λ hb=>?_) λ hb=>?_))))
  ·repeat walk_at "g"
   exact g_in (λ c zz=>memV_t sz smW) (g_is (g_or (λ k q=>q) q))
  ·repeat walk_at "g"
   exact g_jn hz.2 (g_is (g_rais (q1 (by rw [List.any_eq_true.mpr ⟨_,List.mem_of_getElem? hx,hb⟩]; rfl) _ (Kp.refl _ _))))
  ·exact g_end ⟨rfl,any_take hI.1 hx hb,hI.2.put rfl⟩
 ·have hb:=hI.1
  have hI:=hI.2
  rw [List.take_length] at hb
  rw [hb,Bool.false_or] at q1 q2
  have h1:=hy.self
  repeat walk_at "g"
  refine g_mi h1 (mth_bringS true) rfl ?_
  repeat walk_at "g"
  refine se_sp λ e N=>?_
  have k1:Kp (λ zz=>true) g (g.addI e (Itm.ent (.srt n e 0 (.tup (ps.map PV.str)) body))):=Kp.addI N.i
  repeat walk_at "g"
  refine bring_sp (it:=.srt n e 0 (.tup (ps.map PV.str)) body) hn (hy.kp k1 rfl) hB addI_self (hok _) (λ hq=>q1 hq _ k1) λ hq g2 hy2 k2 hI2=>?_
  exact g_end (q2 hq _ e hy2 ((k1.mono rfl).trans k2))
theorem decF_sp {n:Str} {a:Nat} {as:List PV} {r:Int} (hn:nmOk n) (ha:g.I a = some (.list as)) (hl:as.length ≤ 100) (hok:∀ e k,(Itm.fn n e k (.tup as) r (.tup []) 0).ok) (hy:SyR B scs bd g) (hb:BaR ns nf g) (hB:B.length ≤ 190) (hnf:nf ≤ 200)
  (q1:(badK false n || used false B n) = true → ∀ g',Kp (λ zz=>true) g g' → E g')
  (q2:(badK false n || used false B n) = false → ∀ g' e,SyR (B ++ [.fn n e nf (.tup as) r (.tup []) 0]) scs bd g' → BaR ns (nf + 1) g' → Bat g' .fn nf (.str n) → Bat g' .fr nf (.int r) → Kp notSB g g' → Q (.int nf) g') :
  Cg (callF tbl (d + 2)) false (.val (.ref 443)) [.ref 16,.str n,.ref a,.int r] g Q E:=by
 have h1:=hy.self
 have hll:as.length ≤ lim:=Nat.le_trans hl (by decide)
 refine cg_fn (λ c=>o443 ..) λ zz=>?_
 repeat walk_at "g"
 refine g_tupL (ga_i ha) hll ?_
 repeat walk_at "g"
 refine fe_sp λ e N=>?_
 have k1:Kp (λ zz=>true) g (g.addI e (Itm.ent (.fn n e (-1) (.tup as) r (.tup []) 0))):=Kp.addI N.i
 have hy1:=hy.kp k1 rfl
 have h1:=hy1.self
 repeat walk_at "g"
 refine g_mi h1 (mth_bringS false) rfl ?_
 repeat walk_at "g"
 refine bring_sp (it:=.fn n e (-1) (.tup as) r (.tup []) 0) hn hy1 hB addI_self (hok _ _) (λ hq=>q1 hq _ k1) λ hq g2 hy2 k2 hI2=>?_
 have hb2:=(hb.kp k1 rfl).kp k2 rfl
 have h3:=hy2.self
 have h4:=hb2.bank
 repeat walk_at "g"
 refine g_mi h4 mth_decF rfl ?_
 repeat walk_at "g"
 refine g_tupL (ga_i (k2.i _ _ (k1.i _ _ ha))) hll ?_
 repeat walk_at "g"
 refine bdecF_sp hb2 hnf λ g3 hb3 ex ey k3 hI3=>?_
 have f3:g3.I e = some (.inst 348 [("fun",.int (-1)),("arg_sorts",.tup as),("result",.int r),("holders",.tup []),("body",.int 0)]):=by rw [hI3,hI2]; exact addI_self
 repeat walk_at "g"
 refine g_sa rfl (ga_i f3) (by kernel_rfl) rfl (show Up g3 e _ (g3.addI e (Itm.ent (.fn n e nf (.tup as) r (.tup []) 0))) from up_i f3) ?_
 have hy4:=(hy2.kp k3 rfl).re (it':=.fn n e nf (.tup as) r (.tup []) 0) rfl rfl rfl (hok _ _) (λ i hi=>N.ne (hy.ents i hi)) (λ x hx=>N.ne (hy.lets x hx))
 have f4:Ga (g3.addI e (Itm.ent (.fn n e nf (.tup as) r (.tup []) 0))) e (.inst 348 [("fun",.int nf),("arg_sorts",.tup as),("result",.int r),("holders",.tup []),("body",.int 0)]):=ga_i addI_self
 repeat walk_at "g"
 exact g_ret (q2 hq _ e hy4 (hb3.reI hb N) ex ey (Kp.addI' ((k1.mono rfl).trans ((KpS k2).trans (KpB k3))) N.i))
theorem defF_sp {n:Str} {a:Nat} {hs:List Int} {t:Int} (hn:nmOk n) (ha:g.I a = some (.list (hs.map PV.int))) (hl:hs.length ≤ 100) (ht:∀ t ∈ hs,isTm t) (htt:isTm t)
  (hok:∀ e,(Itm.fn n e (-1) (.tup (hs.map λ t=>.int (kd t))) (kd t) (.tup (hs.map PV.int)) t).ok) (hy:SyR B scs bd g) (hb:BaR ns nf g) (hB:B.length ≤ 190)
  (q1:(badK false n || used false B n) = true → ∀ g',Kp (λ zz=>true) g g' → E g')
  (q2:(badK false n || used false B n) = false → ∀ g' e,SyR (B ++ [.fn n e (-1) (.tup (hs.map λ t=>.int (kd t))) (kd t) (.tup (hs.map PV.int)) t]) scs bd g' → Kp notS g g' → Q .none g') :
  Cg (callF tbl (d + 2)) false (.val (.ref 448)) [.ref 16,.str n,.ref a,.int t] g Q E:=by
 refine cg_fb (λ c=>o448 ..) λ m hm=>?_
 have N0:=hm m (Nat.le_refl _)
 have k0:Kp (λ zz=>true) g (adds g m [.box (some (.ref 16))]):=Kp.addI N0.i
 have b0:(adds g m [.box (some (.ref 16))]).I m = _:=addI_self
 generalize adds g m [.box (some (.ref 16))] = g0 at k0 b0 ⊢
 have hlm:(hs.map PV.int).length ≤ lim:=by rw [List.length_map]; exact Nat.le_trans hl (by decide)
 have hb0:=hb.kp k0 rfl
 have hy0:=hy.kp k0 rfl
 have h1:=hy0.self
 have h2:=hb0.bank
 repeat walk_at "g"
 refine g_comp0 hs PV.int (λ t=>.int (kd t)) (itr_l (ga_i (k0.i _ _ ha))) rfl (ble_199 hl) (its_l (ga_i (k0.i _ _ ha)) hlm) (λ l t ht' P hP=>?_) λ u N=>?_
 ·repeat walk_at "g"
  refine g_mi h2 mth_sort rfl ?_
  repeat walk_at "g"
  exact bsort_sp hb0 (kd_at (ht t ht')) (g_ret (hP _))
 ·have k1:Kp (λ zz=>true) g0 (g0.addI u (.list (hs.map λ t=>.int (kd t)))):=Kp.addI N.i
  have b1:=k1.i _ _ b0
  have hb1:=hb0.kp k1 rfl
  have hy1:=hy0.kp k1 rfl
  have h1:=hy1.self
  have h2:=hb1.bank
  repeat walk_at "g"
  refine g_tupL (ga_i addI_self) (by rw [List.length_map]; exact Nat.le_trans hl (by decide)) ?_
  repeat walk_at "g"
  refine g_mi h1 (mth_bringS false) rfl ?_
  repeat walk_at "g"
  refine g_mi h2 mth_sort rfl ?_
  repeat walk_at "g"
  refine bsort_sp hb1 (kd_at htt) ?_
  repeat walk_at "g"
  refine g_tupL (ga_i (k1.i _ _ (k0.i _ _ ha))) hlm ?_
  repeat walk_at "g"
  refine fe_sp λ e N=>?_
  have k2:Kp (λ zz=>true) _ (Gh.addI _ e (Itm.ent (.fn n e (-1) (.tup (hs.map λ t=>.int (kd t))) (kd t) (.tup (hs.map PV.int)) t))):=Kp.addI N.i
  repeat walk_at "g"
  refine bring_sp (it:=.fn n e (-1) (.tup (hs.map λ t=>.int (kd t))) (kd t) (.tup (hs.map PV.int)) t) hn (hy1.kp k2 rfl) hB addI_self (hok _) (λ hq=>q1 hq _ (k0.trans (k1.trans k2))) λ hq g2 hy2 k3 hI2=>?_
  exact g_end (q2 hq _ e hy2 (((k0.trans (k1.trans k2)).mono rfl).trans k3))
end
end Mine
end
section
open PySem
set_option backward.match.sparseCases false
namespace Mine
theorem dk_hd {k:Key} {v:PV} {r:List (Key × PV)}:look k ((k,v) :: r) = some v:=by
 unfold look; rw [List.find?_cons,show decide ((k,v).1 = k) = true from decide_eq_true rfl]; rfl
theorem dk_tl {k j:Key} {u:PV} {r:List (Key × PV)} {z:Option PV} (h:decide (j = k) = false) (e:look k r = z):look k ((j,u) :: r) = z:=by
 rw [← e]
 unfold look; rw [List.find?_cons,show decide ((j,u).1 = k) = false from h]
theorem look_sel {it:Itm} {f:Itm → PV}:∀ {L:List Itm},(L.map Itm.name).Nodup → it ∈ L → look (.s it.name) (L.map λ i=>(.s i.name,f i)) = some (f it)
 | i :: r,nd,h=>by
  rw [List.map_cons,List.nodup_cons] at nd
  rcases List.mem_cons.mp h with rfl | h
  ·rw [List.map_cons]; exact dk_hd
  ·rw [List.map_cons]
   refine dk_tl (decide_eq_false λ q=>?_) (look_sel nd.2 h)
   exact nd.1 (List.mem_map.mpr ⟨it,h,(Key.s.inj q).symm⟩)
theorem mem_sel {k:Bool} {B:List Itm} {it:Itm} (h:it ∈ B) (hk:it.isSrt = k):it ∈ sel k B:=by
 unfold sel; rw [List.mem_filter]; exact ⟨h,by simp [hk]⟩
theorem putAll_snoc {k:Key} {v:PV}:∀ (ps es:List (Key × PV)),putAll (ps ++ [(k,v)]) es = putKey k v (putAll ps es)
 | [],_=>rfl
 | (j,u) :: r,es=>putAll_snoc r _
theorem look_putKey {k j:Key} {v:PV}:∀ {es:List (Key × PV)},look k (putKey j v es) = if j = k then some v else look k es
 | []=>by
  by_cases h:j = k
  ·rw [if_pos h]; subst h; exact dk_hd
  ·rw [if_neg h]; exact dk_tl (decide_eq_false h) rfl
 | (i,u) :: r=>by
  unfold putKey
  by_cases h:i = j
  ·rw [if_pos h]
   subst h
   by_cases h2:i = k
   ·rw [if_pos h2]; subst h2; exact dk_hd
   ·rw [if_neg h2,dk_tl (decide_eq_false h2) rfl,dk_tl (decide_eq_false h2) rfl]
  ·rw [if_neg h]
   by_cases h2:i = k
   ·subst h2
    rw [dk_hd,dk_hd,if_neg (λ q=>h q.symm)]
   ·rw [dk_tl (decide_eq_false h2) rfl,look_putKey,dk_tl (decide_eq_false h2) rfl]
theorem putKey_allS {k:Str} {v:PV}:∀ {es:List (Key × PV)},(es.all λ e=>isS e.1) = true → ((putKey (.s k) v es).all λ e=>isS e.1) = true
 | [],_=>rfl
 | (i,u) :: r,h=>by
  simp only [List.all_cons,Bool.and_eq_true] at h
  unfold putKey
  split
  ·simp only [List.all_cons,Bool.and_eq_true]; exact h
  ·simp only [List.all_cons,Bool.and_eq_true]; exact ⟨h.1,putKey_allS h.2⟩
theorem putKey_len {k:Key} {v:PV}:∀ {es:List (Key × PV)},(putKey k v es).length ≤ es.length + 1
 | []=>Nat.le_refl _
 | (i,u) :: r=>by
  unfold putKey
  split
  ·simp
  ·simpa using putKey_len (es:=r)
theorem look_any {k:Key} {es:List (Key × PV)}:(es.any λ e=>decide (e.1 = k)) = (look k es).isSome:=by
 unfold look
 rw [Option.isSome_map]
 induction es with
 | nil=>rfl
 | cons x r ih=>
  rw [List.any_cons,List.find?_cons,ih]
  cases decide (x.1 = k) <;> rfl
noncomputable def rowK (rows:List (Str × Int)):List (Key × PV):=rows.map λ p=>(.s p.1,.int p.2)
noncomputable def rowD (rows:List (Str × Int)):List (Key × PV):=putAll (rowK rows) []
theorem rowD_snoc {rows:List (Str × Int)} {p:Str × Int}:rowD (rows ++ [p]) = putKey (.s p.1) (.int p.2) (rowD rows):=by
 unfold rowD rowK; rw [List.map_append]; exact putAll_snoc _ _
theorem snocInd {α:Type} {P:List α → Prop} (h0:P []) (h1:∀ l x,P l → P (l ++ [x])) (l:List α):P l:=by
 rw [← List.reverse_reverse l]
 generalize l.reverse = r
 induction r with
 | nil=>exact h0
 | cons x r ih=>rw [List.reverse_cons]; exact h1 _ _ ih
theorem rowD_allS (rows:List (Str × Int)):((rowD rows).all λ e=>isS e.1) = true:=
 snocInd (P:=λ rows=>((rowD rows).all λ e=>isS e.1) = true) rfl (λ l x h=>by rw [rowD_snoc]; exact putKey_allS h) rows
theorem rowD_len (rows:List (Str × Int)):(rowD rows).length ≤ rows.length:=
 snocInd (P:=λ rows=>(rowD rows).length ≤ rows.length) (Nat.le_refl _) (λ l x h=>by
  rw [rowD_snoc,List.length_append]
  exact Nat.le_trans putKey_len (Nat.succ_le_succ h)) rows
noncomputable def dueR (rows:List (Str × Int)) (n:Str) (d:Int):Int:=rows.foldl (λ d p=>if p.1 = n then p.2 else d) d
noncomputable def due (bd:List Bnd) (n:Str):Int:=bd.foldl (λ d x=>dueR x.1 n d) 0
theorem due_look (n:Str) (rows:List (Str × Int)):match look (.s n) (rowD rows) with
  | some v=>∀ d,v = .int (dueR rows n d)
  | none=>∀ d,dueR rows n d = d:=
 snocInd (P:=λ rows=>match look (.s n) (rowD rows) with | some v=>∀ d,v = .int (dueR rows n d) | none=>∀ d,dueR rows n d = d) (λ d=>rfl) (λ l x h=>by
  rw [rowD_snoc,look_putKey]
  have e:∀ d,dueR (l ++ [x]) n d = if x.1 = n then x.2 else dueR l n d:=λ d=>by unfold dueR; rw [List.foldl_append]; rfl
  by_cases q:x.1 = n
  ·rw [if_pos (by rw [q])]
   intro d; rw [e,if_pos q]
  ·rw [if_neg (λ z=>q (by simpa using z))]
   revert h
   cases look (.s n) (rowD l) with
   | none=>intro h d; rw [e,if_neg q]; exact h d
   | some v=>intro h d; rw [e,if_neg q]; exact h d) rows
section
variable {B:List Itm} {scs mks:List Nat} {bd:List Bnd} {ns nf b d:Nat} {g g':Gh} {Q:PV → Gh → Prop} {E:Gh → Prop} {cnt:Rl → Nat}
theorem kind_fun:∀ {it:Itm} {c:Cells},eqV c (.str it.kind) (.str "fun") = some (!it.isSrt)
 | .srt ..,_=>by kernel_rfl
 | .fn ..,_=>by kernel_rfl
theorem mth_isdef:mthOf 348 "is_defined" = some 345:=by kernel_rfl
noncomputable def VisI (n _i:Nat) (l:Locs):Prop:=Has [("self",.ref 16),("found",.ref n)] l
theorem viP_len:(viP B).length ≤ B.length:=List.length_filterMap_le _ _
theorem viP_take {i:Nat} {it:Itm} (h:B[i]? = some it):viP (B.take (i + 1)) = viP (B.take i) ++ it.vis.toList:=by
 rw [List.take_succ,h]; exact viP_snoc
theorem vis_skip {i n:Nat} {it:Itm} {l:Locs} (hit:B[i]? = some it) (e:it.vis = none) (h:Has [("self",.ref 16),("found",.ref n)] l):g.addI n (.list (viP (B.take (i + 1)))) = g.addI n (.list (viP (B.take i))) ∧ VisI n (i + 1) l:=by
 refine ⟨?_,h⟩
 rw [viP_take hit,e]
 show g.addI n (.list (viP (B.take i) ++ [])) = _
 rw [List.append_nil]
theorem ok_tup {nm:Str} {e:Nat} {f r bb:Int} {as hs:PV} (h:(Itm.fn nm e f as r hs bb).ok):isV as = false:=by
 have:=h.2
 cases as
 all_goals first | rfl | cases this
theorem vis_sp (hy:SyR B scs bd g) (hB:B.length ≤ 190) (q:∀ n,New g n → Q (.ref n) (g.addI n (.list (viP B)))):Cg (callF tbl (d + 2)) false (.val (.ref 455)) [.ref 16] g Q E:=by
 have h4:=hy.br
 refine cg_fn (λ c=>o455 ..) λ zz=>?_
 repeat walk_at "g"
 refine g_lst rfl al_i λ n N=>?_
 have k0:∀ x,Kp (λ zz=>true) g (g.addI n x):=λ x=>Kp.addI N.i
 have h1:=(hy.kp (k0 (.list [])) rfl).self
 repeat walk_at "g"
 refine g_forF B (λ it=>.tup [.str it.kind,.str it.name]) (λ i=>g.addI n (.list (viP (B.take i)))) (VisI n) (itr_l (ga_X (r:=.br) h4)) rfl (Nat.ble_eq_true_of_le (Nat.le_trans hB (by decide))) (λ i=>its_l (ga_X (r:=.br) h4) (brL_lim hB)) (λ i l it hit hI=>?_) (λ zz zz h=>h) λ l hI=>?_
 ·have h1:=(hy.kp (k0 (.list (viP (B.take i)))) rfl).self
  have h3:Ga (g.addI n (.list (viP (B.take i)))) (g.A .fu) _:=ga_X (r:=.fu) hy.fu
  have hm:it ∈ B:=List.mem_of_getElem? hit
  have ke:=(k0 (.list (viP (B.take i)))).i _ _ (hy.ents it hm)
  have lk:=look_sel (f:=λ i=>PV.ref i.e) (hy.nd it.isSrt) (mem_sel hm rfl)
  have hok:=hy.ok it hm
  repeat walk_at "g"
  refine g_eq (λ c zz=>kind_fun) ?_
  cases it with
  | srt nm e num ps bdy=>
   refine g_is (g_bopT rfl (g_is (g_ite (λ q=>nomatch q) λ zz=>?_)))
   exact g_end (vis_skip hit rfl ((hI.put rfl).put rfl))
  | fn nm e f as r hs bb=>
   refine g_is (g_bopF rfl ?_)
   repeat walk_at "g"
   refine g_itD h3 selD_allS lk ?_
   refine g_is (g_mi (ga_i ke) mth_isdef rfl ?_)
   repeat walk_at "g"
   refine isdef_sp ke ?_
   cases hb:(bb == 0) with
   | false=>
    refine g_is (g_bopT rfl (g_is (g_ite (λ q=>nomatch q) λ zz=>?_)))
    exact g_end (vis_skip hit (if_neg (beq_eq_false_iff_ne.mp hb)) ((hI.put rfl).put rfl))
   | true=>
    refine g_is (g_bopF rfl (g_is (g_ite (λ zz=>?_) (λ q=>nomatch q))))
    have e2:viP (B.take (i + 1)) = viP (B.take i) ++ [.tup [.str nm,.int f,as,.int r]]:=(viP_take hit).trans (congrArg _ (congrArg Option.toList (if_pos (eq_of_beq hb))))
    have ke:=ga_i ke
    repeat walk_at "g"
    refine g_itD h3 selD_allS lk ?_
    repeat walk_at "g"
    refine g_mapp (ga_i addI_self) ?_
    repeat walk_at "g"
    refine g_ga ke (by kernel_rfl) rfl (ok_tup hok) ?_
    repeat walk_at "g"
    refine g_app rfl (ga_i addI_self) (Nat.le_trans viP_len (Nat.le_trans (List.length_take_le' ..) (Nat.le_trans hB (by decide)))) up_aa ?_
    exact g_end ⟨by rw [e2]; rfl,((hI.put rfl).put rfl).put rfl⟩
 ·rw [List.take_length]
  repeat walk_at "g"
  exact g_ret (q n N)
theorem zipP_rows:∀ (rows:List (Str × Int)),zipPairs (rows.map λ p=>PV.str p.1) (rows.map λ p=>PV.int p.2) = rows.map λ p=>PV.tup [.str p.1,.int p.2]
 | []=>rfl
 | p :: r=>congrArg (_ :: ·) (zipP_rows r)
noncomputable def BindI (a a2 n _i:Nat) (l:Locs):Prop:=Has [("self",.ref 16),("names",.ref a),("terms",.ref a2),("table",.ref n)] l
theorem bds_map {e r2:Nat} {rows:List (Str × Int)}:List.map (λ (x:Bnd)=>PV.ref x.2.1) (bd ++ [((rows,e,r2):Bnd)]) = List.map (λ (x:Bnd)=>PV.ref x.2.1) bd ++ [PV.ref e]:=List.map_append
theorem map_lim {α β:Type} {f:α → β} {l:List α} (h:l.length ≤ 190):(l.map f).length ≤ lim:=by rw [List.length_map]; exact Nat.le_trans h (by decide)
theorem bind_sp {rows:List (Str × Int)} {a a2:Nat} (hl:rows.length ≤ 100) (ha:g.I a = some (.list (rows.map λ p=>.str p.1))) (ha2:g.I a2 = some (.list (rows.map λ p=>.int p.2))) (hy:SyR B scs bd g) (hb:bd.length ≤ 190)
  (q:∀ g' e,(∀ r2,SyR B scs (bd ++ [(rows,e,r2)]) g') → Kp notS g g' → Q .none g'):Cg (callF tbl (d + 1)) false (.val (.ref 462)) [.ref 16,.ref a,.ref a2] g Q E:=by
 have hl1:rows.length ≤ 190:=Nat.le_trans hl (by decide)
 refine cg_fn (λ c=>o462 ..) λ zz=>?_
 repeat walk_at "g"
 refine g_emp al_i λ n N=>?_
 have k0:∀ x,Kp (λ zz=>true) g (g.addI n x):=λ x=>Kp.addI N.i
 refine g_is (g_fzpF rows (λ p=>.tup [.str p.1,.int p.2]) (λ i=>g.addI n (.dict (rowD (rows.take i)))) (BindI a a2 n) rfl (ble_199 hl) (λ i=>zipP_rows rows ▸ its_z (ga_i ((k0 _).i _ _ ha)) (ga_i ((k0 _).i _ _ ha2)) (map_lim hl1) (map_lim hl1)) (λ i l p hp hI=>?_) (λ zz zz h=>h) λ l hI=>?_)
 ·have hI:Has _ l:=hI
  repeat walk_at "g"
  refine g_si rfl (ga_i addI_self) (rowD_allS _) (Nat.le_trans (rowD_len _) (Nat.le_trans (List.length_take_le' ..) (Nat.le_trans hl (by decide)))) up_aa ?_
  refine g_end ⟨?_,(hI.put rfl).put rfl⟩
  rw [List.take_succ,hp]
  exact congrArg (λ z=>g.addI n (Cell.dict z)) rowD_snoc
 ·have hI:Has _ l:=hI
  rw [List.take_length]
  have hy1:=hy.kp (k0 (.dict (rowD rows))) rfl
  have h1:=hy1.self
  have h2:=hy1.le
  repeat walk_at "g"
  refine g_app rfl (ga_X (r:=.le) h2) (map_lim hb) (up_x rfl) ?_
  refine g_end (q _ n (λ r2=>?_) ((k0 _).mono rfl |>.trans (Kp.setX rfl)))
  rw [← bds_map (r2:=r2)]
  refine hy1.bds (bd ++ [(rows,n,r2)]) λ x hx=>?_
  rcases List.mem_append.mp hx with z | z
  ·exact hy1.lets x z
  ·rw [List.mem_singleton] at z; subst z; exact addI_self
noncomputable def UnbI (B:List Itm) (scs:List Nat) (bd:List Bnd) (g:Gh) (m n:Nat) (g':Gh) (l:Locs):Prop:=∀ X:Prop,(∀ bs:List Bnd,bs.length = n → n ≤ 190 → bs.take m = bd.take m → SyR B scs bs g' → Kp notS g g' → Has [("self",.ref 16),("many",.int m)] l → X) → X
theorem unbind_sp {m:Nat} (hy:SyR B scs bd g) (hl:bd.length ≤ 190) (q:∀ g',SyR B scs (bd.take m) g' → Kp notS g g' → Q .none g'):Cg (callF tbl (d + 1)) false (.val (.ref 469)) [.ref 16,.int m] g Q E:=by
 refine cg_fn (λ c=>o469 ..) λ zz=>g_is ?_
 refine g_whl (UnbI B scs bd g m) ?_ bd.length (Nat.lt_of_le_of_lt hl (by decide)) λ X k=>k bd rfl hl rfl hy (Kp.refl _ _) λ zz zz h=>h
 intro n g' l A A' hA hA' h
 refine h _ λ bs hn hl1 ht hy kp hI=>?_
 have h1:=hy.self
 have h2:=hy.le
 have hl2:(bs.map λ (x:Bnd)=>PV.ref x.2.1).length ≤ lim:=map_lim (hn ▸ hl1)
 repeat walk_at "g"
 rw [List.length_map]
 refine g_tst (λ hq=>?_) λ hq=>?_
 ·have hq:=Int.ofNat_lt.mp (of_decide_eq_true hq)
  refine snocE (Nat.zero_lt_of_lt hq) λ b' x e=>?_
  have hL:bs.length = b'.length + 1:=e ▸ List.length_append
  refine hA b'.length _ _ (hn ▸ hL ▸ Nat.lt_succ_self _) ?_
  rw [e,List.map_append] at h2
  rw [e,List.map_append] at hl2
  repeat walk_at "g"
  refine g_lpop rfl (ga_X (r:=.le) h2) hl2 (v:=.ref x.2.1) List.getLast?_concat (show Up g' _ _ (g'.setX .le (.list (b'.map λ (x:Bnd)=>PV.ref x.2.1))) from List.dropLast_concat ▸ up_x rfl) ?_
  refine g_end λ X k=>k b' rfl (Nat.le_of_succ_le (show b'.length + 1 ≤ 190 from hL ▸ hn ▸ hl1)) ?_ (hy.bds b' λ y hy'=>hy.lets y (e ▸ List.mem_append_left _ hy')) (kp.trans (Kp.setX rfl)) hI
  rw [← ht,e,List.take_append_of_le_length (Nat.le_of_lt_succ (show m < b'.length + 1 from hL ▸ hq))]
 ·have hq:=Int.ofNat_le.mp (Int.not_lt.mp (of_decide_eq_false hq))
  rw [List.take_of_length_le hq] at ht
  exact hA' _ _ (g_end (q _ (ht ▸ hy) kp))
end
end Mine
end
section
open PySem
set_option backward.match.sparseCases false
namespace Mine
theorem due_snoc {bd:List Bnd} {x:Bnd} {n:Str}:due (bd ++ [x]) n = dueR x.1 n (due bd n):=by unfold due; rw [List.foldl_append]; rfl
theorem rngDown_nat {k:Nat}:rngDown ((k:Int) - 1) = (List.range k).map λ (i:Nat)=>PV.int ((k:Int) - 1 - i):=by
 unfold rngDown; rw [Int.sub_add_cancel,Int.toNat_natCast]
theorem range_at {n i y:Nat} (h:(List.range n)[i]? = some y):y = i ∧ i < n:=by
 obtain ⟨h1,h2⟩:=List.getElem?_eq_some_iff.mp h
 rw [List.getElem_range] at h2
 rw [List.length_range] at h1
 exact ⟨h2.symm,h1⟩
section
variable {B:List Itm} {scs mks:List Nat} {bd:List Bnd} {ns nf b d:Nat} {g g':Gh} {Q:PV → Gh → Prop} {E:Gh → Prop} {cnt:Rl → Nat}
noncomputable def BouI (bd:List Bnd) (n:Str) (i:Nat) (l:Locs):Prop:=due bd n = due (bd.take (bd.length - i)) n ∧ Has [("self",.ref 16),("name",.str n)] l
theorem bou_at {i:Nat} {n:Str} {l:Locs} (hi:i < bd.length) (h:BouI bd n i l) {X:Prop} (k:∀ (j:Nat) y,bd[j]? = some y → y ∈ bd → ((bd.length:Int) - 1 - (i:Nat)) = (j:Int) → due bd n = dueR y.1 n (due (bd.take (bd.length - (i + 1))) n) → X):X:=by
 have e:bd.length - i = (bd.length - (i + 1)) + 1:=by lia
 have hj:bd.length - (i + 1) < bd.length:=by lia
 refine k (bd.length - (i + 1)) _ (List.getElem?_eq_getElem hj) (List.getElem_mem hj) (by lia) ?_
 rw [← due_snoc,h.1,e,List.take_succ_eq_append_getElem hj]
theorem bound_sp {n:Str} (hy:SyR B scs bd g) (hl:bd.length ≤ 190) (q:Q (.int (due bd n)) g):Cg (callF tbl (d + 1)) false (.val (.ref 476)) [.ref 16,.str n] g Q E:=by
 have h1:=hy.self
 have h2:=hy.le
 have hll:(bd.map λ (x:Bnd)=>PV.ref x.2.1).length ≤ lim:=map_lim hl
 refine cg_fn (λ c=>o476 ..) λ zz=>?_
 repeat walk_at "g"
 rw [List.length_map]
 have sm:smallI ((bd.length:Int) - 1) = true:=by
  unfold smallI
  rw [decide_eq_true (by lia),decide_eq_true (by lia)]; rfl
 refine g_rng3 sm (by decide +kernel) ?_
 repeat walk_at "g"
 refine g_for0 (List.range bd.length) (λ (i:Nat)=>.int ((bd.length:Int) - 1 - i)) (BouI bd n) (itr_r sm (by decide +kernel) (.inr rfl)) rfl (by rw [List.length_range]; exact Nat.ble_eq_true_of_le (Nat.le_trans hl (by decide))) (rngDown_nat ▸ its_d) (λ i l y hi hI=>?_) ⟨by rw [Nat.sub_zero,List.take_length],λ zz zz h=>h⟩ λ l hI=>?_
 ·obtain ⟨rfl,hi⟩:=range_at hi
  refine bou_at hi hI λ j y hj hm e hd=>?_
  rw [e]
  have hI:=hI.2
  have it:=tupAt_nat hll (List.getElem?_map.trans (congrArg (Option.map _) hj))
  have hg:Ga g y.2.1 (.dict (rowD y.1)):=ga_i (hy.lets _ hm)
  have hk:=due_look n y.1
  repeat walk_at "g"
  refine g_itL (ga_X (r:=.le) h2) it ?_
  refine g_is (g_in (λ c s=>memV_k (hg c s) (rowD_allS _)) ?_)
  rw [look_any]
  cases e:look (.s n) (rowD y.1) with
  | none=>
   rw [e] at hk
   refine g_is (g_ite (λ q=>nomatch q) λ zz=>?_)
   exact g_end ⟨rfl,hd.trans (hk _),hI.put rfl⟩
  | some v=>
   rw [e] at hk
   refine g_is (g_ite (λ zz=>?_) (λ q=>nomatch q))
   repeat walk_at "g"
   refine g_itL (ga_X (r:=.le) h2) it ?_
   repeat walk_at "g"
   refine g_itD hg (rowD_allS _) e ?_
   exact g_is (g_ret (by rw [hk,← hd]; exact q))
 ·have hd:=hI.1
  rw [List.length_range,Nat.sub_self] at hd
  repeat walk_at "g"
  exact g_ret (by rw [hd] at q; exact q)
theorem clear_sp (hy:SyR B scs bd g) (q:∀ g',SyR [] [] [] g' → Kp notS g g' → Q .none g'):Cg (callF tbl (d + 1)) false (.val (.ref 373)) [.ref 16] g Q E:=by
 have aS:=hy.aS
 have cS:=hy.cS
 refine cg_fn (λ c=>o373 ..) λ zz=>?_
 repeat walk_at "g"
 refine g_emp (al_a .so) λ n0 zz=>?_
 repeat walk_at "g"
 refine g_sa rfl (ga_x (r:=.syms) aS cS) (by kernel_rfl) rfl (up_x (r:=.syms) aS) ?_
 repeat walk_at "g"
 refine g_emp (al_a .fu) λ n1 zz=>?_
 repeat walk_at "g"
 refine g_sa rfl (ga_x (r:=.syms) aS rfl) (by kernel_rfl) rfl (up_x (r:=.syms) aS) ?_
 repeat walk_at "g"
 refine g_lst rfl (al_a .br) λ n2 zz=>?_
 repeat walk_at "g"
 refine g_sa rfl (ga_x (r:=.syms) aS rfl) (by kernel_rfl) rfl (up_x (r:=.syms) aS) ?_
 repeat walk_at "g"
 refine g_lst rfl (al_a .sc) λ n3 zz=>?_
 repeat walk_at "g"
 refine g_sa rfl (ga_x (r:=.syms) aS rfl) (by kernel_rfl) rfl (up_x (r:=.syms) aS) ?_
 repeat walk_at "g"
 refine g_lst rfl (al_a .le) λ n4 zz=>?_
 repeat walk_at "g"
 refine g_sa rfl (ga_x (r:=.syms) aS rfl) (by kernel_rfl) rfl (up_x (r:=.syms) aS) ?_
 repeat walk_at "g"
 refine g_sa rfl (ga_x (r:=.syms) aS rfl) (by kernel_rfl) rfl (up_x (r:=.syms) aS) ?_
 refine g_end (q _ ⟨aS,rfl,rfl,rfl,rfl,rfl,rfl,(λ i hi=>nomatch hi),(λ i hi=>nomatch hi),(λ k=>List.nodup_nil),(λ i hi=>nomatch hi)⟩ ?_)
 exact (Kp.newA (r:=.so) rfl).trans ((Kp.setX (r:=.syms) rfl).trans ((Kp.newA (r:=.fu) rfl).trans ((Kp.setX (r:=.syms) rfl).trans ((Kp.newA (r:=.br) rfl).trans ((Kp.setX (r:=.syms) rfl).trans ((Kp.newA (r:=.sc) rfl).trans ((Kp.setX (r:=.syms) rfl).trans ((Kp.newA (r:=.le) rfl).trans ((Kp.setX (r:=.syms) rfl).trans (Kp.setX (r:=.syms) rfl))))))))))
end
end Mine
end
section
open PySem
set_option backward.match.sparseCases false
namespace Mine
noncomputable def notW (r:Rl):Bool:=!isW' r
noncomputable def inPool (n:Str):Prop:=PV.str n ∈ poolL
noncomputable def ownP (k:Bool):List PV:=if k then [.str "Int",.str "let",.str "par"] else [.str "let",.str "and",.str "par"]
noncomputable def plI (k:Bool):Int:=if k then 0 else 1
theorem pool_ok {n:Str} (h:inPool n):(∀ k,inL (ownP k) n = badK k n) ∧ nmOk n:=by
 have hall:(poolL.all λ v=>match v with | .str n=>(inL (ownP true) n == badK true n) && (inL (ownP false) n == badK false n) && (PyData.strOk n && decide (n.length ≤ 1000)) | _=>false) = true:=by decide +kernel
 have h:=List.all_eq_true.mp hall _ h
 have h:=Bool.and_eq_true_iff.mp h
 have h1:=Bool.and_eq_true_iff.mp h.1
 have h2:=Bool.and_eq_true_iff.mp h.2
 exact ⟨Bool.rec (eq_of_beq h1.2) (eq_of_beq h1.1),h2.1,of_decide_eq_true h2.2⟩
section
variable {B:List Itm} {scs mks:List Nat} {bd:List Bnd} {ns nf b d:Nat} {g g':Gh} {Q:PV → Gh → Prop} {E:Gh → Prop} {cnt:Rl → Nat}
theorem pick_at {xs:List PV} {v:Int} (h1:xs.length ≤ 200) (h:0 ≤ v) (h':v < xs.length) {X:Prop} (k:∀ x,x ∈ xs → tupAt xs v = some x → X):X:=by
 have e:=Int.toNat_of_nonneg h
 have hv:v.toNat < xs.length:=Int.ofNat_lt.mp (e.symm ▸ h')
 exact k _ (List.getElem_mem hv) ((congrArg (tupAt xs) e).symm.trans (tupAt_nat (Nat.le_trans h1 (by decide)) (List.getElem?_eq_getElem hv)))
theorem pickK_sp {xs:List PV} (f:FeR (b + 1) g) (h1:0 < xs.length) (h2:xs.length ≤ 200)
  (q:∀ v g',v ∈ xs → FeR b g' → Kp notF g g' → Q v g'):Cg (callF tbl (d + 2)) false (.val (.ref 498)) [.ref 3,.klist xs] g Q E:=by
 refine cg_fn (λ c=>o498 ..) λ zz=>?_
 repeat walk_at "g"
 refine g_lenK (Nat.le_trans h2 (by decide)) ?_
 repeat walk_at "g"
 refine draw_sp f (Int.ofNat_lt.mpr h1) (Int.le_trans (Int.ofNat_le.mpr h2) (by decide)) λ v g' v1 v2 f' k'=>?_
 exact pick_at h2 v1 v2 λ x hx e=>g_is (g_itK e (g_ret (q _ _ hx f' k')))
theorem pickL_sp {xs:List PV} {a:Nat} (f:FeR (b + 1) g) (ha:∀ g',Kp notF g g' → Ga g' a (.list xs)) (h1:0 < xs.length) (h2:xs.length ≤ 200)
  (q:∀ v g',v ∈ xs → FeR b g' → Kp notF g g' → Q v g'):Cg (callF tbl (d + 2)) false (.val (.ref 498)) [.ref 3,.ref a] g Q E:=by
 have ha1:=ha g (Kp.refl _ _)
 have hll:xs.length ≤ lim:=Nat.le_trans h2 (by decide)
 refine cg_fn (λ c=>o498 ..) λ zz=>?_
 repeat walk_at "g"
 refine draw_sp f (Int.ofNat_lt.mpr h1) (Int.le_trans (Int.ofNat_le.mpr h2) (by decide)) λ v g' v1 v2 f' k'=>?_
 exact pick_at h2 v1 v2 λ x hx e=>g_is (g_itL (ha _ k') e (g_ret (q _ _ hx f' k')))
noncomputable def isClo:PV → Bool
 | .clo ..=>true
 | _=>false
theorem clo_inv {v:PV} {X:Prop} (hv:isClo v = true) (k:∀ b s c,v = .clo b s c → X):X:=by
 induction v using PV.casesOn with
 | clo b s c=>exact k _ _ _ rfl
 | _=>cases hv
theorem tried_sp {v:PV} (hv:isClo v = true) (h:Cg (callF tbl d) false v [] g Q λ g=>Q (.str "refused") g):Cg (callF tbl (d + 1)) false (.val (.ref 505)) [v] g Q E:=by
 refine clo_inv hv λ b s c e=>?_
 subst e
 refine cg_fn (λ c=>o505 ..) λ zz=>g_is (g_tri rfl (g_is (g_clo λ c s=>?_)))
 exact cp_mono (h c s) (λ v c ⟨g,s,q⟩=>⟨g,s,g_is (g_ret q)⟩) λ c h=>h
theorem WoR.last (w:WoR B scs bd mks ns nf g) {X:Prop} (c:∀ ps d1 d2 v,g.X .pics = .list ps → ps.length = B.length + 1 → ps.getLast? = some (.tup [.ref d1,.ref d2,.ref v]) → g.I d1 = some (.dict (selP true B)) → g.I d2 = some (.dict (selP false B)) → g.I v = some (.list (viP B)) → X):X:=
 w.pics X λ ps e l h=>by
  have hl:B.length < ps.length:=l ▸ Nat.lt_succ_self _
  refine h B.length _ (List.getElem?_eq_getElem hl) X λ d1 d2 v e0 e1 e2 e3=>?_
  rw [List.take_length] at e1 e2 e3
  refine c ps d1 d2 v e l ?_ e1 e2 e3
  rw [List.getLast?_eq_getElem?,l]
  exact (List.getElem?_eq_getElem hl).trans (congrArg some e0)
theorem pl_eq:∀ k,(plI k == 0) = k
 | true=>rfl
 | false=>rfl
theorem sel_lim {k:Bool} (hB:B.length ≤ 190):(selP k B).length ≤ lim:=Nat.le_trans selP_len (Nat.le_trans hB (by decide))
theorem pl_at {x y z:PV}:∀ k,tupAt [x,y,z] (plI k) = some (if k then x else y)
 | true=>rfl
 | false=>rfl
theorem free_sp {k:Bool} {n:Str} (hn:inPool n) (w:WoR B scs bd mks ns nf g) (hB:B.length ≤ 190) (q:Q (.bool (!(badK k n || used k B n))) g) :
  Cg (callF tbl (d + 1)) false (.val (.ref 512)) [.ref 24,.str n,.int (plI k)] g Q E:=by
 refine w.last λ ps d1 d2 v e l la e1 e2 e3=>?_
 have p:=pool_ok hn
 have sn:=smallD_str p.2.1
 refine cg_fn (λ c=>o512 ..) λ m=>?_
 refine g_is ?_
 rw [pl_eq]
 have own:∀ {K:List Ins} {st:List SV} {l:Lc} {P:PG},(∀ u,New g u → WG (adv K (.v (.ref u) :: st) l (fnI d false m)) (fnI d false m) (g.addI u (.list (ownP k))) P) → WG ⟨.ife (.lst (.cons (.k (.str "Int")) (.cons (.k (.str "let")) (.cons (.k (.str "par")) .nil)))) (.lst (.cons (.k (.str "let")) (.cons (.k (.str "and")) (.cons (.k (.str "par")) .nil)))) :: K,.v (.bool k) :: st,l⟩ (fnI d false m) g P:=λ q=>by
  cases k
  ·exact g_ife (λ q=>nomatch q) λ zz=>g_is (g_lst rfl al_i q)
  ·exact g_ife (λ zz=>g_is (g_lst rfl al_i q)) (λ q=>nomatch q)
 refine own λ u N=>?_
 have k1:Kp (λ zz=>true) g (g.addI u (.list (ownP k))):=Kp.addI N.i
 have h1:=(w.kp k1 rfl).self
 have h2:Ga (g.addI u (.list (ownP k))) (g.A .pics) _:=ga_X (r:=.pics) e
 have h3:Ga (g.addI u (.list (ownP k))) (if k then d1 else d2) (.dict (selP k B)):=by
  cases k
  ·exact ga_i (k1.i _ _ e2)
  ·exact ga_i (k1.i _ _ e1)
 rw [← p.1 k] at q
 repeat walk_at "g"
 refine g_nin (λ c s=>memV_l (ga_i addI_self c s) sn (by cases k <;> decide +kernel)) (g_is ?_)
 cases hb:inL (ownP k) n with
 | true=>
  rw [hb] at q
  rw [show ((ownP k).any λ v=>eqData v (.str n)) = true from hb]
  exact g_opT rfl (g_fgt N (g_is (g_ret q)))
 | false=>
  rw [hb] at q
  rw [show ((ownP k).any λ v=>eqData v (.str n)) = false from hb]
  refine g_opF rfl ?_
  repeat walk_at "g"
  refine g_itL h2 (tupAt_last (l ▸ Nat.le_trans (Nat.succ_le_succ hB) (by decide)) la) ?_
  repeat walk_at "g"
  refine g_itT (pl_at k) ?_
  rw [show (if k then PV.ref d1 else .ref d2) = .ref (if k then d1 else d2) from by cases k <;> rfl]
  refine g_is (g_nin (λ c s=>memV_k (h3 c s) selP_allS) ?_)
  rw [selP_any]
  exact g_fgt N (g_is (g_ret q))
theorem WoR.addPic (w:WoR B scs bd mks ns nf g) {it:Itm} {ps:List PV} {x:PV} (hp:g.X .pics = .list ps) (h:Pic g (B ++ [it]) x):WoR (B ++ [it]) scs bd mks ns nf (g.setX .pics (.list (ps ++ [x]))):=by
 refine ⟨w.aW,w.cW,w.aM,w.mkc,w.wsc,w.wbd,w.rows,w.rok,w.rlen,λ X c=>w.pics X λ qs e l q=>?_⟩
 cases hp.symm.trans e
 refine c _ setX_same (by rw [List.length_append,List.length_append,l]; rfl) λ j y e=>?_
 by_cases hj:j < ps.length
 ·rw [List.getElem?_append_left hj] at e
  rw [List.take_append_of_le_length (Nat.le_of_lt_succ (show j < B.length + 1 from l ▸ hj))]
  exact q j y e
 ·have hl:=(List.getElem?_eq_some_iff.mp e).1
  rw [List.length_append] at hl
  cases Nat.le_antisymm (Nat.le_of_lt_succ hl) (Nat.le_of_not_lt hj)
  rw [List.getElem?_concat_length] at e
  cases e
  rw [List.take_of_length_le (by rw [List.length_append,l]; exact Nat.le_refl _)]
  exact h
theorem brought_sp {it:Itm} {sn:Nat} (w:WoR B scs bd mks ns nf g) (hB:B.length ≤ 190) (hu:used it.isSrt B it.name = false) (hsn:g.I sn = some (.list it.vis.toList))
  (q:∀ g',WoR (B ++ [it]) scs bd mks ns nf g' → Kp notW g g' → Q .none g') :
  Cg (callF tbl (d + 1)) false (.val (.ref 519)) [.ref 24,.str it.name,.int (plI it.isSrt),it.row,.ref sn] g Q E:=by
 refine w.last λ ps d1 d2 v e l la e1 e2 e3=>?_
 have h1:=w.self
 have hps:ps.length ≤ lim:=l ▸ Nat.le_trans (Nat.succ_le_succ hB) (by decide)
 refine cg_fn (λ c=>o519 ..) λ m=>?_
 repeat walk_at "g"
 refine g_itL (ga_X e) (tupAt_last hps la) ?_
 repeat walk_at "g"
 refine g_itT (v:=.ref d1) rfl ?_
 repeat walk_at "g"
 refine g_dictD (ga_i e1) selP_allS (sel_lim hB) al_i λ n0 N0=>?_
 have K0:Kp (λ zz=>true) g (g.addI n0 (.dict (selP true B))):=Kp.addI N0.i
 have j0:(g.addI n0 (.dict (selP true B))).I n0 = _:=addI_self
 generalize g.addI n0 (.dict (selP true B)) = g0 at K0 j0 ⊢
 repeat walk_at "g"
 refine g_itT (v:=.ref d2) rfl ?_
 repeat walk_at "g"
 refine g_dictD (ga_i (K0.i _ _ e2)) selP_allS (sel_lim hB) al_i λ n1 N1=>?_
 have K1:Kp (λ zz=>true) g (g0.addI n1 (.dict (selP false B))):=K0.trans (Kp.addI N1.i)
 have j1:∀ t,(g0.addI n1 (.dict (selP false B))).I (if t then n0 else n1) = some (.dict (selP t B)):=Bool.rec addI_self (addI_of j0 N1.i)
 have ne:=N1.ne j0
 have M1:g.I n1 = none:=by
  cases z:g.I n1 with
  | none=>rfl
  | some y=>exact absurd rfl (N1.ne (K0.i _ _ z))
 generalize g0.addI n1 (.dict (selP false B)) = g1 at K1 j1 ⊢
 repeat walk_at "g"
 refine g_lst rfl al_i λ n2 N2=>?_
 have K2:Kp (λ zz=>true) g (g1.addI n2 (.list [.ref n0,.ref n1])):=K1.trans (Kp.addI N2.i)
 have j2:∀ t,(g1.addI n2 (.list [.ref n0,.ref n1])).I (if t then n0 else n1) = some (.dict (selP t B)):=λ t=>addI_of (j1 t) N2.i
 have i2:(g1.addI n2 (.list [.ref n0,.ref n1])).I n2 = _:=addI_self
 have ne2:∀ t:Bool,n2 ≠ (if t then n0 else n1):=λ t=>(N2.ne (j1 t)).symm
 generalize g1.addI n2 (.list [.ref n0,.ref n1]) = g2 at K2 j2 i2 ⊢
 repeat walk_at "g"
 refine g_itL (ga_i i2) (v:=.ref (if it.isSrt then n0 else n1)) (by cases it.isSrt <;> rfl) ?_
 repeat walk_at "g"
 have ek:putKey (.s it.name) it.row (selP it.isSrt B) = selP it.isSrt (B ++ [it]):=(putKey_new (selP_any.trans hu)).trans (selP_same rfl).symm
 refine g_si rfl (ga_i (j2 _)) selP_allS (sel_lim hB) (show Up g2 _ _ (g2.addI (if it.isSrt then n0 else n1) (.dict (selP it.isSrt (B ++ [it])))) from ek ▸ up_i (j2 _)) ?_
 have Nk:g.I (if it.isSrt then n0 else n1) = none:=by cases it.isSrt; exact M1; exact N0.i
 have K3:Kp (λ zz=>true) g (g2.addI (if it.isSrt then n0 else n1) (.dict (selP it.isSrt (B ++ [it])))):=Kp.addI' K2 Nk
 have j3:∀ t,(g2.addI (if it.isSrt then n0 else n1) (.dict (selP it.isSrt (B ++ [it])))).I (if t then n0 else n1) = some (.dict (selP t (B ++ [it]))):=λ t=>by
  by_cases z:t = it.isSrt
  ·subst z; exact addI_self
  ·have z2:it.isSrt = !t:=by revert z; cases t <;> cases it.isSrt <;> simp
   rw [addI_ne (by rw [z2]; cases t; exact ne.symm; exact ne),selP_other z2]
   exact j2 t
 have i3:(g2.addI (if it.isSrt then n0 else n1) (.dict (selP it.isSrt (B ++ [it])))).I n2 = _:=(addI_ne (ne2 _)).trans i2
 generalize g2.addI (if it.isSrt then n0 else n1) (.dict (selP it.isSrt (B ++ [it]))) = g3 at K3 j3 i3 ⊢
 have w3:=w.kp K3 rfl
 have h1:=w3.self
 have e':=(K3.x .pics rfl).trans e
 repeat walk_at "g"
 refine g_itL (ga_i i3) (v:=.ref n0) rfl ?_
 repeat walk_at "g"
 refine g_itL (ga_i i3) (v:=.ref n1) rfl ?_
 repeat walk_at "g"
 refine g_itT (v:=.ref v) rfl ?_
 repeat walk_at "g"
 refine g_cat (ga_i (K3.i _ _ e3)) (ga_i (K3.i _ _ hsn)) ?_ al_i λ n4 N4=>?_
 ·exact Nat.le_trans (Nat.add_le_add viP_len (show _ ≤ 1 by cases it.vis <;> simp)) (Nat.le_trans (Nat.succ_le_succ hB) (by decide))
 rw [← viP_snoc]
 have k4:Kp (λ zz=>true) g3 (g3.addI n4 (.list (viP (B ++ [it])))):=Kp.addI N4.i
 have w4:=w3.kp k4 rfl
 repeat walk_at "g"
 refine g_app rfl (ga_X (r:=.pics) e') hps (up_x rfl) ?_
 exact g_end (q _ (w4.addPic e' λ X c=>c n0 n1 n4 rfl (k4.i _ _ (j3 true)) (k4.i _ _ (j3 false)) addI_self) (((K3.trans k4).mono rfl).trans (Kp.setX rfl)))
end
end Mine
end
section
open PySem
set_option backward.match.sparseCases false
namespace Mine
section
variable {B B':List Itm} {scs scs' mks mks':List Nat} {bd bd':List Bnd} {ns nf ns' nf' b d:Nat} {g g':Gh} {Q:PV → Gh → Prop} {E:Gh → Prop} {cnt:Rl → Nat} {p:Rl → Bool}
theorem adds_A:∀ {xs:List Cell} {g:Gh} {n:Nat},(adds g n xs).A = g.A ∧ (adds g n xs).X = g.X
 | [],_,_=>⟨rfl,rfl⟩
 | x :: r,g,n=>adds_A (xs:=r) (g:=g.addI n x)
theorem adds_I:∀ {xs:List Cell} {g:Gh} {n i:Nat},i < n → (adds g n xs).I i = g.I i
 | [],_,_,_,_=>rfl
 | x :: r,g,n,i,h=>(adds_I (xs:=r) (Nat.lt_succ_of_lt h)).trans (addI_ne (Nat.ne_of_lt h))
theorem adds_at:∀ {xs:List Cell} {g:Gh} {n j:Nat} {x:Cell},xs[j]? = some x → (adds g n xs).I (n + j) = some x
 | y :: r,g,n,0,x,h=>(adds_I (xs:=r) (Nat.lt_succ_self n)).trans (addI_self.trans h)
 | y :: r,g,n,j + 1,x,h=>by
  have:=adds_at (xs:=r) (g:=g.addI n y) (n:=n + 1) (j:=j) h
  rw [Nat.succ_add] at this
  exact this
theorem adds_kp {n:Nat} (h:∀ i,n ≤ i → New g i) (xs:List Cell):Kp p g (adds g n xs):=
 ⟨λ r zz=>congrFun adds_A.1 r,λ r zz=>congrFun adds_A.2 r,λ i x e=>(adds_I (Nat.lt_of_not_le λ q=>absurd rfl ((h i q).ne e))).trans e⟩
theorem adds_fb {n:Nat} {bs:List (Option PV)}:Fb (adds g n (bs.map Cell.box)) n bs:=λ j o e=>adds_at (by rw [List.getElem?_map,e]; rfl)
theorem FeR.mono {b':Nat} (h:FeR b g) (hb:b' ≤ b):FeR b' g:=by
 obtain ⟨n,S,cs,a,e1,e2,l,z1,z2,z3⟩:=h
 exact ⟨n,S,cs,a,e1,e2,l,z1,z2,Nat.le_trans (Nat.add_le_add_left hb n) z3⟩
noncomputable def DrI {α:Type} (f:α → PV) (ok:α → Prop) (b n:Nat) (g:Gh) (i:Nat) (vs:List PV) (g':Gh) (_l:Locs):Prop:=∀ X:Prop,(∀ (zs:List α) (r:Nat),vs = zs.map f → zs.length = i → (∀ z ∈ zs,ok z) → r + i = n → FeR (b + r) g' → Kp notF g g' → X) → X
theorem g_draws {α:Type} {tg:Bool} {s:G .s} {e:G .e} {it:It} {k:List Ins} {st:List SV} {l:Lc} {I:In} {P:PG} {y:PV} (f:α → PV) (ok:α → Prop) (b:Nat) (xs:List PV) (hI:Itr g y it) (hf:fitsB tg it = true) (hl:Nat.ble xs.length 199 = true) (hit:∀ g',Kp notF g g' → Its g' it xs) (f0:FeR (b + xs.length) g)
  (step:∀ (l:Locs) (x:PV) (g':Gh) (r:Nat),x ∈ xs → FeR (b + r + 1) g' → Kp notF g g' → ∀ P:PG,(∀ z g'' l,ok z → FeR (b + r) g'' → Kp notF g' g'' → P.R (f z) g'' l) → WG (adv (comp s (comp e [.ret])) [.v x] (.s l) (I.it it)) (I.it it) g' P)
  (post:∀ (zs:List α) (g':Gh) (n:Nat),zs.length = xs.length → (∀ z ∈ zs,ok z) → FeR b g' → Kp notF g g' → New g' n → WG (adv k (.v (.ref n) :: st) l I) I (g'.addI n (.list (zs.map f))) P) :
  WG ⟨.comp tg s e :: k,.v y :: st,l⟩ I g P:=by
 refine g_comp hI hf xs hl (DrI f ok b xs.length g) (λ i vs g' l hI=>hI _ λ zz zz zz zz zz zz zz K=>hit g' K) (λ i vs g' l x hx hI=>?_) (λ X c=>c [] xs.length rfl rfl (λ zz h=>nomatch h) rfl f0 (Kp.refl _ _)) λ vs g' l' n N hI=>?_
 ·refine hI _ λ zs r e hz hm hr f1 K=>?_
  have hi:=(List.getElem?_eq_some_iff.mp hx).1
  cases r with
  | zero=>exact absurd hi (by rw [← hr,Nat.zero_add]; exact Nat.lt_irrefl _)
  | succ r=>
   refine step l x g' r (List.mem_of_getElem? hx) f1 K _ λ z g2 l hz2 f2 K2 X c=>?_
   refine c (zs ++ [z]) r (by rw [e,List.map_append]; rfl) (by rw [List.length_append,hz]; rfl) (λ y hy=>?_) (by rw [← hr]; exact (Nat.succ_add_eq_add_succ r i).symm) f2 (K.trans K2)
   rcases List.mem_append.mp hy with q | q
   ·exact hm y q
   ·rw [List.mem_singleton] at q; exact q ▸ hz2
 ·refine hI _ λ zs r e hz hm hr f1 K=>?_
  subst e
  exact post zs g' n hz hm (f1.mono (Nat.le_add_right b r)) K N
theorem WoR.setNs (w:WoR B scs bd mks ns nf g) (ns' nf':Nat):WoR B scs bd mks ns' nf' (g.setX .world (.dict (wD (g.A .pics) (g.A .wsc) (g.A .wbd) ns' nf'))):=
 ⟨w.aW,rfl,w.aM,w.mkc,w.wsc,w.wbd,w.rows,w.rok,w.rlen,w.pics⟩
theorem back_sp {k:Nat} (w:WoR B scs bd mks ns nf g) (hB:B.length ≤ 190) (hk:k ≤ 190) (q:∀ g',WoR (B.take k) scs bd mks ns nf g' → Kp notW g g' → Q .none g'):Cg (callF tbl (d + 1)) false (.val (.ref 536)) [.ref 24,.int k] g Q E:=by
 refine w.pics _ λ ps e l hp=>?_
 have h1:=w.self
 refine cg_fn (λ c=>o536 ..) λ zz=>?_
 repeat walk_at "g"
 refine g_slL (ga_X e) (Int.ofNat_nonneg (k + 1)) (Int.ofNat_le.mpr (Nat.le_trans (Nat.succ_le_succ hk) (by decide))) (l ▸ Nat.le_trans (Nat.succ_le_succ hB) (by decide)) (al_a .pics) λ n N=>?_
 repeat walk_at "g"
 refine g_si rfl (ga_x (r:=.world) w.aW w.cW) (by kernel_rfl) (lim_of rfl) (show Up (g.newA .pics n (.list (ps.take (k + 1)))) 24 _ ((g.newA .pics n (.list (ps.take (k + 1)))).setX .world (.dict (wD n (g.A .wsc) (g.A .wbd) ns nf))) from up_x (r:=.world) w.aW) ?_
 refine g_end (q _ ⟨w.aW,rfl,w.aM,w.mkc,w.wsc,w.wbd,w.rows,w.rok,w.rlen,λ X c=>c (ps.take (k + 1)) rfl ?_ λ j x e=>?_⟩ ((Kp.newA (r:=.pics) rfl).trans (Kp.setX (r:=.world) rfl)))
 ·rw [List.length_take,List.length_take,l]; exact Nat.succ_min_succ ..
 ·have hj:j < k + 1:=by
   have:=(List.getElem?_eq_some_iff.mp e).1
   rw [List.length_take] at this
   exact Nat.lt_of_lt_of_le this (Nat.min_le_left ..)
  rw [List.getElem?_take_of_lt hj] at e
  rw [List.take_take,Nat.min_eq_left (Nat.le_of_lt_succ hj)]
  exact hp j x e
structure Zs (B:List Itm) (scs:List Nat) (bd:List Bnd) (mks:List Nat) (ns nf b:Nat):Prop where
 z1:B.length + b ≤ 190
 z2:scs.length + b ≤ 190
 z3:bd.length + b ≤ 190
 z4:mks.length + b ≤ 190
 z5:ns + b ≤ 200
 z6:nf + b ≤ 200
 z7:∀ k ∈ scs,k ≤ 190
 z8:∀ k ∈ mks,k ≤ 190
theorem z_step {n n' b m:Nat} (z:n + (b + 1) ≤ m) (h:n' ≤ n + 1):n' + b ≤ m:=Nat.le_trans (Nat.add_le_add_right h b) (by rw [Nat.add_right_comm]; exact z)
theorem Zs.step (z:Zs B scs bd mks ns nf (b + 1)) (h1:B'.length ≤ B.length + 1) (h2:scs'.length ≤ scs.length + 1) (h3:bd'.length ≤ bd.length + 1) (h4:mks'.length ≤ mks.length + 1) (h5:ns' ≤ ns + 1) (h6:nf' ≤ nf + 1) (h7:∀ k ∈ scs',k ≤ 190) (h8:∀ k ∈ mks',k ≤ 190):Zs B' scs' bd' mks' ns' nf' b:=
 ⟨z_step z.z1 h1,z_step z.z2 h2,z_step z.z3 h3,z_step z.z4 h4,z_step z.z5 h5,z_step z.z6 h6,h7,h8⟩
theorem z_le {n b m:Nat} (z:n + b ≤ m):n ≤ m:=Nat.le_trans (Nat.le_add_right n b) z
theorem z_less {n b b' m:Nat} (z:n + b ≤ m) (h:b' ≤ b):n + b' ≤ m:=Nat.le_trans (Nat.add_le_add_left h n) z
theorem Zs.less {b':Nat} (z:Zs B scs bd mks ns nf b) (h:b' ≤ b):Zs B scs bd mks ns nf b':=⟨z_less z.z1 h,z_less z.z2 h,z_less z.z3 h,z_less z.z4 h,z_less z.z5 h,z_less z.z6 h,z.z7,z.z8⟩
structure Wo (B:List Itm) (scs:List Nat) (bd:List Bnd) (mks:List Nat) (ns nf b:Nat) (g:Gh):Prop where
 fe:FeR b g
 sy:SyR B scs bd g
 wo:WoR B scs bd mks ns nf g
 ba:BaR ns nf g
 z:Zs B scs bd mks ns nf b
theorem Wo.less {b':Nat} (h:Wo B scs bd mks ns nf b g) (hb:b' ≤ b):Wo B scs bd mks ns nf b' g:=⟨h.fe.mono hb,h.sy,h.wo,h.ba,h.z.less hb⟩
theorem Wo.fed {b':Nat} (h:Wo B scs bd mks ns nf b g) (f:FeR b' g') (k:Kp notF g g') (hb:b' ≤ b):Wo B scs bd mks ns nf b' g':=⟨f,h.sy.kp k rfl,h.wo.kp k rfl,h.ba.kp k rfl,h.z.less hb⟩
theorem Wo.kn (h:Wo B scs bd mks ns nf b g) (k:Kn (λ zz=>true) g g'):Wo B scs bd mks ns nf b g':=⟨h.fe.kn k rfl,h.sy.kn k rfl,h.wo.kn k rfl,h.ba.kn k rfl,h.z⟩
theorem Wo.kp (h:Wo B scs bd mks ns nf b g) (k:Kp (λ zz=>true) g g'):Wo B scs bd mks ns nf b g':=h.kn k.toKn
end
end Mine
end
section
open PySem
set_option backward.match.sparseCases false
namespace Mine
theorem str_inv {v:PV} {X:Prop} (h:(strOf v).isSome = true) (k:∀ n,v = .str n → X):X:=by
 induction v using PV.casesOn with
 | str n=>exact k n rfl
 | _=>cases h
theorem pool_str {v:PV} {X:Prop} (h:v ∈ poolL) (k:∀ n,v = .str n → inPool n → X):X:=
 str_inv (List.all_eq_true.mp (show (poolL.all λ v=>(strOf v).isSome) = true by decide +kernel) _ h) λ n e=>k n e (show PV.str n ∈ poolL from e ▸ h)
theorem pool_len:0 < poolL.length ∧ poolL.length ≤ 200:=by decide +kernel
theorem eqD_ref {c:Cells}:eqV c (.str "refused") (.str "refused") = some true:=by kernel_rfl
theorem eqD_refl {x:PV} (h:smallD x = true):eqData x x = true:=by
 unfold smallD at h
 unfold eqData
 cases e:toPy x with
 | none=>rw [e] at h; cases h
 | some d=>
  rw [e] at h
  show (some (PyData.eqv d d) == some true) = true
  rw [PySem.SeqAt.eqv_refl d (Bool.and_eq_true_iff.mp h).1]; rfl
theorem eq_dat {c:Cells} {x:PV} (hx:refOf x = none) (h:smallD x = true):eqV c x x = some true:=by
 rw [eqV_d hx h h,eqD_refl h]
theorem mth_d1:mthOf 479 "declare_sort" = some 422:=by kernel_rfl
theorem mth_sname:mthOf 297 "sort_name" = some 105:=by kernel_rfl
noncomputable def brA:F → F
 | .sq _ (.sq (.iff _ a _) _)=>a
 | f=>f
noncomputable def brB:F → F
 | .sq _ (.sq (.iff _ _ _) b)=>b
 | f=>f
theorem used_of {k:Bool} {B:List Itm} {n:Str} (h:(badK k n || used k B n) = false):used k B n = false:=(Bool.or_eq_false_iff.mp h).2
section
variable {B:List Itm} {scs mks:List Nat} {bd:List Bnd} {ns nf b d:Nat} {g g':Gh} {Q:PV → Gh → Prop} {E:Gh → Prop} {cnt:Rl → Nat} {p:Rl → Bool}
theorem Wo.z1 (W:Wo B scs bd mks ns nf b g):B.length ≤ 190:=z_le W.z.z1
theorem Wo.brt {B':List Itm} {ns' nf':Nat} (W:Wo B scs bd mks ns nf (b + 1) g) (f:FeR (b + 1) g') (y:SyR B' scs bd g') (w:WoR B' scs bd mks ns' nf' g') (a:BaR ns' nf' g') (hB:B'.length ≤ B.length + 1) (h5:ns' ≤ ns + 1) (h6:nf' ≤ nf + 1):Wo B' scs bd mks ns' nf' b g':=
 ⟨f.mono (Nat.le_succ b),y,w,a,W.z.step hB (Nat.le_succ _) (Nat.le_succ _) (Nat.le_succ _) h5 h6 W.z.z7 W.z.z8⟩
theorem declS_deed {n:Nat} {nm:Str} {K:List Ins} (hp:inPool nm) (W:Wo B scs bd mks ns nf (b + 1) g) {v0 v1 v3:Option PV} (fb:Fb g n [v0,v1,some (.str nm),v3,some (.ref 16)])
  (q:∀ B' ns' g',Wo B' scs bd mks ns' nf b g' → Q (.bool true) g') :
  WG (adv (compF (brA P524) K) [] (.c [("world",.ref 24)]) (fnI (d + 4) false n)) (fnI (d + 4) false n) g (fnP Q E):=by
 have nmk:=(pool_ok hp).2
 have sn:=smallD_str nmk.1
 repeat walk_at "g"
 refine tried_sp (by kernel_rfl) (cg_lam (λ c=>ol524_0 ..) ?_)
 have h1:=W.sy.self
 repeat walk_at "g"
 refine g_mi h1 mth_d1 rfl ?_
 repeat walk_at "g"
 refine decS_sp nmk W.sy W.ba W.z1 (z_le W.z.z5) (λ hq g1 k1=>?_) λ hq g2 e sy2 ba2 ex K2=>g_is (g_ret ?_)
 ·have W1:=W.kp k1
  have fb:=fb.kp k1
  repeat walk_at "g"
  refine free_sp (k:=true) hp W1.wo W1.z1 ?_
  rw [hq]
  refine g_is (g_ite (λ zz=>?_) (λ q=>nomatch q))
  repeat walk_at "g"
  refine g_eq (λ c zz=>eqD_ref) ?_
  exact g_is (g_ret (q _ _ _ (W1.less (Nat.le_succ b))))
 ·have w2:=W.wo.kp K2 rfl
  have f2:=W.fe.kp K2 rfl
  have fb:=fb.kp K2
  repeat walk_at "g"
  refine free_sp (k:=true) hp w2 W.z1 ?_
  rw [hq]
  refine g_is (g_ite (λ q=>nomatch q) λ zz=>?_)
  have h3:=w2.self
  repeat walk_at "g"
  refine g_si rfl h3 (by kernel_rfl) (lim_of rfl) (show Up g2 24 _ (g2.setX .world (.dict (wD (g2.A .pics) (g2.A .wsc) (g2.A .wbd) (ns + 1) nf))) from up_x (r:=.world) w2.aW) ?_
  have w4:=w2.setNs (ns + 1) nf
  have K4:Kp notW g2 (g2.setX .world (.dict (wD (g2.A .pics) (g2.A .wsc) (g2.A .wbd) (ns + 1) nf))):=Kp.setX rfl
  generalize g2.setX .world (.dict (wD (g2.A .pics) (g2.A .wsc) (g2.A .wbd) (ns + 1) nf)) = g4 at w4 K4 ⊢
  have fb:=fb.kp K4
  repeat walk_at "g"
  refine g_lst rfl al_i λ u N=>?_
  have K5:Kp (λ zz=>true) g4 (g4.addI u (.list [])):=Kp.addI N.i
  repeat walk_at "g"
  refine brought_sp (it:=.srt nm e ns (.tup []) .none) (w4.kp K5 rfl) W.z1 (used_of hq) addI_self λ g6 w6 K6=>?_
  have KK:Kp notW g2 g6:=K4.trans ((K5.mono rfl).trans K6)
  have ba6:=ba2.kp KK rfl
  have fb:=(fb.kp K5).kp K6
  have h4:=ba6.bank
  have h6:=w6.self
  repeat walk_at "g"
  rw [beq_self_eq_true]
  refine g_opF rfl ?_
  repeat walk_at "g"
  refine g_mi h4 mth_sname rfl ?_
  repeat walk_at "g"
  refine sname_sp ba6 (ex.x (KK.x _ rfl)) ?_
  repeat walk_at "g"
  refine g_eq (λ c zz=>eq_dat rfl sn) (g_is (g_ret ?_))
  exact q _ _ _ (W.brt (f2.kp KK rfl) (sy2.kp KK rfl) w6 ba6 (by rw [List.length_append]; exact Nat.le_refl _) (Nat.le_refl _) (Nat.le_succ _))
end
end Mine
end
section
open PySem
set_option backward.match.sparseCases false
namespace Mine
noncomputable def dropF:Nat → F → F
 | 0,f=>f
 | n + 1,f=>match f with
  | .sq _ r=>dropF n r
  | f=>f
noncomputable def okD (k:Nat) (x:PV):Bool:=(toPy x).any λ d=>d.canLay0 && decide (d.depth ≤ k)
theorem okD_mono {k k':Nat} {x:PV} (h:okD k x = true) (hk:k ≤ k'):okD k' x = true:=by
 unfold okD at *
 cases e:toPy x with
 | none=>rw [e] at h; cases h
 | some d=>
  rw [e] at h
  have h:=Bool.and_eq_true_iff.mp h
  exact and_t h.1 (decide_eq_true (Nat.le_trans (of_decide_eq_true h.2) hk))
theorem okDs {k:Nat}:∀ {l:List PV},l.all (okD k) = true → ∃ ds,toPys l = some ds ∧ PyData.canLayAll0 ds = true ∧ PyData.depthAll ds ≤ k
 | [],_=>⟨[],rfl,rfl,Nat.zero_le _⟩
 | x :: r,h=>by
  have h:=Bool.and_eq_true_iff.mp h
  obtain ⟨ds,e,h1,h2⟩:=okDs h.2
  have hx:=h.1
  unfold okD at hx
  cases e2:toPy x with
  | none=>rw [e2] at hx; cases hx
  | some d=>
   rw [e2] at hx
   have hx:=Bool.and_eq_true_iff.mp hx
   exact ⟨d :: ds,show (toPy x).bind _ = _ by rw [e2,e]; rfl,and_t hx.1 h1,Nat.max_le.mpr ⟨of_decide_eq_true hx.2,h2⟩⟩
theorem okD_tup {k:Nat} {l:List PV} (h:l.all (okD k) = true):okD (k + 1) (.tup l) = true:=by
 obtain ⟨ds,e,h1,h2⟩:=okDs h
 show ((toPys l).map PyData.tuple).any _ = true
 rw [e]
 exact and_t h1 (decide_eq_true (Nat.succ_le_succ h2))
theorem smallD_of {k:Nat} {x:PV} (h:okD k x = true) (hk:k ≤ 60):smallD x = true:=okD_mono h hk
theorem okD_map {α:Type} {k:Nat} {f:α → PV} {l:List α} (h:∀ x ∈ l,okD k (f x) = true):okD (k + 1) (.tup (l.map f)) = true:=
 okD_tup (List.all_eq_true.mpr λ x hx=>let ⟨y,hy,e⟩:=List.mem_map.mp hx; e ▸ h y hy)
theorem okD_int {i:Int}:okD 1 (.int i) = true:=rfl
theorem okD_str {n:Str} (h:PyData.strOk n = true):okD 1 (.str n) = true:=and_t h rfl
noncomputable def L4:List Str:=["X","S","Y","Bool"]
noncomputable def L3:List PV:=[.tup [.str "sym",.str "X"],.tup [.str "list",.tup [.tup [.str "sym",.str "T"],.tup [.str "sym",.str "X"]]],.tup [.str "num",.int 3]]
theorem L4_ok {z:Str} (h:z ∈ L4):nmOk z ∧ eqData (.str z) (.str "Bool") = badK true z:=by
 have h:=Bool.and_eq_true_iff.mp (List.all_eq_true.mp (show (L4.all λ z=>(PyData.strOk z && decide (z.length ≤ 1000)) && (eqData (.str z) (.str "Bool") == badK true z)) = true from by decide +kernel) z h)
 have h1:=Bool.and_eq_true_iff.mp h.1
 exact ⟨⟨h1.1,of_decide_eq_true h1.2⟩,eq_of_beq h.2⟩
theorem L3_ok {v:PV} (h:v ∈ L3):okD 10 v = true:=List.all_eq_true.mp (show (L3.all (okD 10)) = true from by decide +kernel) _ h
theorem any_L4:∀ {ps:List Str},(∀ z ∈ ps,z ∈ L4) → ((ps.map PV.str).any λ v=>eqData v (.str "Bool")) = ps.any (badK true)
 | [],_=>rfl
 | z :: r,h=>by
  rw [List.map_cons,List.any_cons,List.any_cons,any_L4 λ y hy=>h y (.tail _ hy),(L4_ok (h z (.head _))).2]
theorem or_nn (a x:Bool):(a || ((!!x) || false)) = (a || x):=by cases x <;> rfl
theorem mth_defS:mthOf 479 "define_sort" = some 429:=by kernel_rfl
section
variable {B:List Itm} {scs mks:List Nat} {bd:List Bnd} {ns nf b d:Nat} {g g':Gh} {Q:PV → Gh → Prop} {E:Gh → Prop} {cnt:Rl → Nat} {p:Rl → Bool}
theorem defS_deed {n:Nat} {nm:Str} {ps:List Str} {body:PV} {v0:Option PV} (hp:inPool nm) (hps:∀ x ∈ ps,x ∈ L4) (hpl:ps.length ≤ 100) (hbd:body ∈ L3) (W:Wo B scs bd mks ns nf (b + 1) g)
  (fb:Fb g n [v0,some body,some (.str nm),some (.tup (ps.map PV.str)),some (.ref 16)]) (q:∀ B' ns' g',Wo B' scs bd mks ns' nf b g' → Q (.bool true) g') :
  WG (adv (compF (dropF 4 P524) []) [] (.c [("world",.ref 24)]) (fnI (d + 4) false n)) (fnI (d + 4) false n) g (fnP Q E):=by
 have nmk:=(pool_ok hp).2
 have hsm:(ps.map PV.str).all smallD = true:=List.all_eq_true.mpr λ x hx=>let ⟨y,hy,e⟩:=List.mem_map.mp hx; e ▸ smallD_str (L4_ok (hps y hy)).1.1
 have hok:∀ e,(Itm.srt nm e 0 (.tup (ps.map PV.str)) body).ok:=λ e=>⟨nmk.1,smallD_of (k:=11) (okD_tup (k:=10) (and_t (okD_mono okD_int (by decide)) (and_t (okD_mono (okD_map λ y hy=>okD_str (L4_ok (hps y hy)).1.1) (by decide)) (and_t (L3_ok hbd) rfl)))) (by decide)⟩
 have bsm:smallD (.str "Bool") = true:=by decide +kernel
 have h1:=W.sy.self
 repeat walk_at "g"
 refine tried_sp (by kernel_rfl) (cg_lam (λ c=>ol524_1 ..) ?_)
 repeat walk_at "g"
 refine g_mi h1 mth_defS rfl ?_
 repeat walk_at "g"
 refine defS_sp nmk (λ x hx=>(L4_ok (hps x hx)).1) hpl hok W.sy W.z1 (λ hq g1 k1=>?_) λ hq g2 e sy2 K2=>g_is (g_ret ?_)
 ·have W1:=W.kp k1
  have fb:=fb.kp k1
  repeat walk_at "g"
  refine g_in (λ c zz=>memV_t bsm hsm) ?_
  rw [any_L4 hps]
  refine g_is (g_or (u:=(!!(badK true nm || used true B nm)) || false) (λ k q=>?_) ?_)
  ·repeat walk_at "g"
   refine free_sp (k:=true) hp W1.wo W1.z1 ?_
   exact g_is (g_or (λ k q=>q) q)
  rw [or_nn,hq]
  refine g_is (g_ite (λ zz=>?_) (λ q=>nomatch q))
  repeat walk_at "g"
  refine g_eq (λ c zz=>eqD_ref) ?_
  exact g_is (g_ret (q _ _ _ (W1.less (Nat.le_succ b))))
 ·have w2:=W.wo.kp K2 rfl
  have fb:=fb.kp K2
  repeat walk_at "g"
  refine g_in (λ c zz=>memV_t bsm hsm) ?_
  rw [any_L4 hps]
  refine g_is (g_or (u:=(!!(badK true nm || used true B nm)) || false) (λ k q=>?_) ?_)
  ·repeat walk_at "g"
   refine free_sp (k:=true) hp w2 W.z1 ?_
   exact g_is (g_or (λ k q=>q) q)
  rw [or_nn,hq]
  refine g_is (g_ite (λ q=>nomatch q) λ zz=>?_)
  repeat walk_at "g"
  refine g_lst rfl al_i λ u N=>?_
  have K5:Kp (λ zz=>true) g2 (g2.addI u (.list [])):=Kp.addI N.i
  repeat walk_at "g"
  refine brought_sp (it:=.srt nm e 0 (.tup (ps.map PV.str)) body) (w2.kp K5 rfl) W.z1 (used_of (Bool.or_eq_false_iff.mp hq).2) addI_self λ g6 w6 K6=>?_
  have KK:Kp notW g2 g6:=(K5.mono rfl).trans K6
  repeat walk_at "g"
  refine g_ret ?_
  exact q _ _ _ (W.brt ((W.fe.kp K2 rfl).kp KK rfl) (sy2.kp KK rfl) w6 ((W.ba.kp K2 rfl).kp KK rfl) (by rw [List.length_append]; exact Nat.le_refl _) (Nat.le_succ _) (Nat.le_succ _))
theorem sm_v {v w:Int} (h:0 ≤ v) (h':v < w) (hw:w ≤ 1000):smallI v = true:=sm_of h (Int.le_trans (Int.le_of_lt h') (Int.le_trans hw (by decide)))
theorem rngUp_len {v:Int} {n:Nat} (h:0 ≤ v) (h':v < (n:Int)):(rngUp v).length < n:=by
 unfold rngUp
 rw [List.length_map,List.length_range]
 exact Int.ofNat_lt.mp (by rw [Int.toNat_of_nonneg h]; exact h')
theorem sort_deed (W:Wo B scs bd mks ns nf (b + 8) g) (q:∀ B' ns' g',Wo B' scs bd mks ns' nf b g' → Q (.bool true) g'):Cg (callF tbl (d + 5)) false (.val (.ref 524)) [.ref 3,.ref 24] g Q E:=by
 refine cg_fb (λ c=>o524 ..) λ n N=>?_
 have W:=W.kp (adds_kp N [.box (some (.ref 3)),.box .none,.box .none,.box .none,.box .none])
 have fb:Fb (adds g n [.box (some (.ref 3)),.box .none,.box .none,.box .none,.box .none]) n [some (.ref 3),.none,.none,.none,.none]:=adds_fb
 generalize adds g n [.box (some (.ref 3)),.box .none,.box .none,.box .none,.box .none] = g0 at W fb ⊢
 have h1:=W.wo.self
 repeat walk_at "g"
 refine pickK_sp (b:=b + 7) W.fe pool_len.1 pool_len.2 λ v g1 hv f1 K1=>pool_str hv λ nm e hp=>?_
 subst e
 have W:=W.fed f1 K1 (Nat.le_succ _)
 have fb:=fb.kp K1
 repeat walk_at "g"
 refine g_sbF rfl fb rfl rfl λ g2 fb K2=>?_
 have W:=W.kn K2
 repeat walk_at "g"
 refine g_sbF rfl fb rfl rfl λ g3 fb K3=>?_
 have W:=W.kn K3
 have fb:Fb g3 n [some (.ref 3),.none,some (.str nm),.none,some (.ref 16)]:=fb
 repeat walk_at "g"
 refine draw_sp (b:=b + 6) W.fe (by decide) (by decide) λ v g4 v1 v2 f4 K4=>?_
 have W:=W.fed f4 K4 (Nat.le_succ _)
 have fb:=fb.kp K4
 repeat walk_at "g"
 refine g_ite (λ zz=>declS_deed hp (W.less (Nat.le_add_right (b + 1) 5)) fb q) λ zz=>?_
 repeat walk_at "g"
 refine draw_sp (b:=b + 5) W.fe (by decide) (by decide) λ v g5 v1 v2 f5 K5=>?_
 have W:=W.fed f5 K5 (Nat.le_succ _)
 have fb:=fb.kp K5
 have sv:=sm_v v1 v2 (by decide)
 have hl:=rngUp_len v1 v2
 repeat walk_at "g"
 refine g_rng1 sv ?_
 repeat walk_at "g"
 refine g_draws PV.str (· ∈ L4) (b + 3) (rngUp v) (itr_r (by decide) sv (.inl rfl)) rfl (Nat.ble_eq_true_of_le (Nat.le_trans (Nat.le_of_lt hl) (by decide))) (λ zz zz=>its_u) (W.fe.mono (Nat.add_le_add_left (Nat.le_of_lt_succ hl) (b + 3))) (λ l x g' r hx f K P hP=>?_) λ zs g' u hz hm f6 K6 N=>?_
 ·have fb:=fb.kp K
  repeat walk_at "g"
  refine g_lst rfl al_i λ u N=>?_
  have K7:Kp (λ zz=>true) g' (g'.addI u (.list (L4.map PV.str))):=Kp.addI N.i
  repeat walk_at "g"
  refine pickL_sp (xs:=L4.map PV.str) (f.kp K7 rfl) (λ g2 k2=>ga_i (k2.i _ _ addI_self)) (by decide) (by decide) λ w g8 hw f8 K8=>?_
  obtain ⟨z,hz4,rfl⟩:=List.mem_map.mp hw
  exact g_is (g_ret (hP z g8 _ hz4 f8 ((K7.mono rfl).trans K8)))
 ·have hpl:zs.length ≤ 100:=by rw [hz]; exact Nat.le_trans (Nat.le_of_lt hl) (by decide)
  have W:=(W.fed f6 K6 (Nat.le_add_right (b + 3) 2)).kp (Kp.addI (x:=.list (zs.map PV.str)) N.i)
  have fb:=(fb.kp K6).kp (p:=λ zz=>true) (Kp.addI (x:=.list (zs.map PV.str)) N.i)
  repeat walk_at "g"
  refine g_tupL (ga_i addI_self) (by rw [List.length_map]; exact Nat.le_trans hpl (by decide)) ?_
  generalize g'.addI u (.list (zs.map PV.str)) = g7 at W fb ⊢
  repeat walk_at "g"
  refine g_sbF rfl fb rfl rfl λ g8 fb K8=>?_
  have W:=W.kn K8
  have fb:Fb g8 n [some (.ref 3),.none,some (.str nm),some (.tup (zs.map PV.str)),some (.ref 16)]:=fb
  repeat walk_at "g"
  refine g_lst rfl al_i λ u N=>?_
  have K9:Kp (λ zz=>true) g8 (g8.addI u (.list L3)):=Kp.addI N.i
  have W:=W.kp K9
  have fb:=fb.kp K9
  repeat walk_at "g"
  refine pickL_sp (b:=b + 2) (xs:=L3) W.fe (λ g2 k2=>ga_i (k2.i _ _ addI_self)) (by decide) (by decide) λ body g10 hw f10 K10=>?_
  have W:=W.fed f10 K10 (Nat.le_succ _)
  have fb:=fb.kp K10
  repeat walk_at "g"
  refine g_sbF rfl fb rfl rfl λ g11 fb K11=>?_
  exact defS_deed hp hm hpl hw ((W.kn K11).less (Nat.le_succ _)) fb q
end
end Mine
end
section
open PySem
set_option backward.match.sparseCases false
namespace Mine
theorem kd_look {t:Int} (h:isTm t):look (.i t) [(.i 3,.int 0),(.i 4,.int 1),(.i 5,.int 2),(.i 1,.int 0)] = some (.int (kd t)):=by
 rcases h with rfl | rfl | rfl | rfl <;> rfl
theorem mth_declF:mthOf 479 "declare_fun" = some 443:=by kernel_rfl
theorem mth_defF:mthOf 479 "define_fun" = some 448:=by kernel_rfl
theorem mth_fname:mthOf 297 "fun_name" = some 161:=by kernel_rfl
theorem mth_fres:mthOf 297 "fun_result" = some 175:=by kernel_rfl
section
variable {B:List Itm} {scs mks:List Nat} {bd:List Bnd} {ns nf b d:Nat} {g g':Gh} {Q:PV → Gh → Prop} {E:Gh → Prop} {cnt:Rl → Nat} {p:Rl → Bool}
theorem declF_deed {n a:Nat} {nm:Str} {as:List Int} {r:Int} {v2 v3:Option PV} {K:List Ins} (hp:inPool nm) (hal:as.length ≤ 100) (W:Wo B scs bd mks ns nf (b + 1) g)
  (fb:Fb g n [some (.ref 3),some (.ref 24),v2,v3,some (.int r),some (.str nm),some (.ref 16),some (.ref a)]) (ia:g.I a = some (.list (as.map PV.int))) (q:∀ B' nf' g',Wo B' scs bd mks ns nf' b g' → Q (.bool true) g') :
  WG (adv (compF (dropF 1 (brA P529)) K) [] (.c [("is_declared",.bool true),("bank",.ref 4)]) (fnI (d + 4) false n)) (fnI (d + 4) false n) g (fnP Q E):=by
 have nmk:=(pool_ok hp).2
 have hok:∀ e k,(Itm.fn nm e k (.tup (as.map PV.int)) r (.tup []) 0).ok:=λ e k=>⟨nmk.1,smallD_of (k:=3) (okD_tup (k:=2) (and_t rfl (and_t (okD_map λ zz zz=>okD_int) rfl))) (by decide)⟩
 have hml:(as.map PV.int).length ≤ 100:=by rw [List.length_map]; exact hal
 have hll:(as.map PV.int).length ≤ lim:=Nat.le_trans hml (by decide)
 have h1:=W.sy.self
 repeat walk_at "g"
 refine tried_sp (by kernel_rfl) (cg_lam (λ c=>ol529_0 ..) ?_)
 repeat walk_at "g"
 refine g_mi h1 mth_declF rfl ?_
 repeat walk_at "g"
 refine decF_sp nmk ia hml hok W.sy W.ba W.z1 (z_le W.z.z6) (λ hq g1 k1=>?_) λ hq g2 e sy2 ba2 ex ey K2=>g_is (g_ret ?_)
 ·have W1:=W.kp k1
  have fb:=fb.kp k1
  repeat walk_at "g"
  refine free_sp (k:=false) hp W1.wo W1.z1 ?_
  rw [hq]
  refine g_is (g_ite (λ zz=>?_) (λ q=>nomatch q))
  repeat walk_at "g"
  refine g_eq (λ c zz=>eqD_ref) ?_
  exact g_is (g_ret (q _ _ _ (W1.less (Nat.le_succ b))))
 ·have w2:=W.wo.kp K2 rfl
  have fb:=fb.kp K2
  have ia:=K2.i _ _ ia
  repeat walk_at "g"
  refine free_sp (k:=false) hp w2 W.z1 ?_
  rw [hq]
  refine g_is (g_ite (λ q=>nomatch q) λ zz=>?_)
  have h3:=w2.self
  repeat walk_at "g"
  refine g_si rfl h3 (by kernel_rfl) (lim_of rfl) (show Up g2 24 _ (g2.setX .world (.dict (wD (g2.A .pics) (g2.A .wsc) (g2.A .wbd) ns (nf + 1)))) from up_x (r:=.world) w2.aW) ?_
  have w4:=w2.setNs ns (nf + 1)
  have K4:Kp notW g2 (g2.setX .world (.dict (wD (g2.A .pics) (g2.A .wsc) (g2.A .wbd) ns (nf + 1)))):=Kp.setX rfl
  generalize g2.setX .world (.dict (wD (g2.A .pics) (g2.A .wsc) (g2.A .wbd) ns (nf + 1))) = g4 at w4 K4 ⊢
  have fb:=fb.kp K4
  have ia:=ga_i (K4.i _ _ ia)
  repeat walk_at "g"
  refine g_tupL ia hll ?_
  repeat walk_at "g"
  refine g_tupL ia hll ?_
  repeat walk_at "g"
  refine g_lst rfl al_i λ u N=>?_
  have K5:Kp (λ zz=>true) g4 (g4.addI u (.list [.tup [.str nm,.int nf,.tup (as.map PV.int),.int r]])):=Kp.addI N.i
  repeat walk_at "g"
  refine brought_sp (it:=.fn nm e nf (.tup (as.map PV.int)) r (.tup []) 0) (w4.kp K5 rfl) W.z1 (used_of hq) addI_self λ g6 w6 K6=>?_
  have KK:Kp notW g2 g6:=K4.trans ((K5.mono rfl).trans K6)
  have ba6:=ba2.kp KK rfl
  have fb:=(fb.kp K5).kp K6
  have h4:=ba6.bank
  repeat walk_at "g"
  rw [beq_self_eq_true]
  refine g_opF rfl ?_
  repeat walk_at "g"
  refine g_mi h4 mth_fname rfl ?_
  repeat walk_at "g"
  refine fname_sp ba6 (ex.x (KK.x _ rfl)) ?_
  repeat walk_at "g"
  refine g_mi h4 mth_fres rfl ?_
  repeat walk_at "g"
  refine fres_sp ba6 (ey.x (KK.x _ rfl)) ?_
  repeat walk_at "g"
  refine g_eq (λ c zz=>eq_dat rfl (smallD_of (k:=2) (okD_tup (k:=1) (and_t (okD_str nmk.1) rfl)) (by decide))) (g_is (g_ret ?_))
  exact q _ _ _ (W.brt ((W.fe.kp K2 rfl).kp KK rfl) (sy2.kp KK rfl) w6 ba6 (by rw [List.length_append]; exact Nat.le_refl _) (Nat.le_succ _) (Nat.le_refl _))
theorem tm_ne {t:Int} (h:isTm t):t ≠ 0:=by rcases h with rfl | rfl | rfl | rfl <;> decide
theorem defF_deed {n a:Nat} {nm:Str} {hs:List Int} {t:Int} {v4 v7:Option PV} (hp:inPool nm) (hhl:hs.length ≤ 100) (hh:∀ t ∈ hs,isTm t) (ht:isTm t) (W:Wo B scs bd mks ns nf (b + 1) g)
  (fb:Fb g n [some (.ref 3),some (.ref 24),some (.int t),some (.ref a),v4,some (.str nm),some (.ref 16),v7]) (ia:g.I a = some (.list (hs.map PV.int))) (q:∀ B' nf' g',Wo B' scs bd mks ns nf' b g' → Q (.bool true) g') :
  WG (adv (compF (dropF 4 P529) []) [] (.c [("is_declared",.bool false),("bank",.ref 4)]) (fnI (d + 4) false n)) (fnI (d + 4) false n) g (fnP Q E):=by
 have nmk:=(pool_ok hp).2
 have hok:∀ e,(Itm.fn nm e (-1) (.tup (hs.map λ t=>.int (kd t))) (kd t) (.tup (hs.map PV.int)) t).ok:=λ e=>⟨nmk.1,smallD_of (k:=3) (okD_tup (k:=2) (and_t rfl (and_t (okD_map λ zz zz=>okD_int) (and_t rfl (and_t (okD_map λ zz zz=>okD_int) rfl))))) (by decide)⟩
 have hll:(hs.map PV.int).length ≤ lim:=by rw [List.length_map]; exact Nat.le_trans hhl (by decide)
 have h1:=W.sy.self
 repeat walk_at "g"
 refine tried_sp (by kernel_rfl) (cg_lam (λ c=>ol529_1 ..) ?_)
 repeat walk_at "g"
 refine g_mi h1 mth_defF rfl ?_
 repeat walk_at "g"
 refine defF_sp nmk ia hhl hh ht hok W.sy W.ba W.z1 (λ hq g1 k1=>?_) λ hq g2 e sy2 K2=>g_is (g_ret ?_)
 ·have W1:=W.kp k1
  have fb:=fb.kp k1
  repeat walk_at "g"
  refine free_sp (k:=false) hp W1.wo W1.z1 ?_
  rw [hq]
  refine g_is (g_ite (λ zz=>?_) (λ q=>nomatch q))
  repeat walk_at "g"
  refine g_eq (λ c zz=>eqD_ref) ?_
  exact g_is (g_ret (q _ _ _ (W1.less (Nat.le_succ b))))
 ·have w2:=W.wo.kp K2 rfl
  have b2:=W.ba.kp K2 rfl
  have f2:=W.fe.kp K2 rfl
  have fb:=fb.kp K2
  have ia:=K2.i _ _ ia
  repeat walk_at "g"
  refine free_sp (k:=false) hp w2 W.z1 ?_
  rw [hq]
  refine g_is (g_ite (λ q=>nomatch q) λ zz=>?_)
  have h3:=w2.self
  repeat walk_at "g"
  refine g_comp0 hs PV.int (λ t=>.int (kd t)) (itr_l (ga_i ia)) rfl (ble_199 hhl) (its_l (ga_i ia) hll) (λ l t ht' P hP=>?_) λ u N=>?_
  ·repeat walk_at "g"
   exact g_itI b2.kinds (by kernel_rfl) (kd_look (hh t ht')) (g_ret (hP _))
  repeat walk_at "g"
  refine g_tupL (ga_i addI_self) (by rw [List.length_map]; exact Nat.le_trans hhl (by decide)) (g_fgt N ?_)
  repeat walk_at "g"
  refine g_sbF rfl fb rfl rfl λ g3 fb K3=>?_
  have fb:Fb g3 n [some (.ref 3),some (.ref 24),some (.int t),some (.ref a),v4,some (.str nm),some (.ref 16),some (.tup (hs.map λ t=>.int (kd t)))]:=fb
  have w3:=w2.kn K3 rfl
  have b3:=b2.kn K3 rfl
  have ia:=ga_i (K3.i _ _ rfl ia)
  have h3:=w3.self
  repeat walk_at "g"
  refine g_itI b3.kinds (by kernel_rfl) (kd_look ht) ?_
  repeat walk_at "g"
  refine g_tupL ia hll ?_
  repeat walk_at "g"
  refine g_lst rfl al_i λ u N=>?_
  have K5:Kp (λ zz=>true) g3 (g3.addI u (.list [])):=Kp.addI N.i
  repeat walk_at "g"
  refine brought_sp (it:=.fn nm e (-1) (.tup (hs.map λ t=>.int (kd t))) (kd t) (.tup (hs.map PV.int)) t) (w3.kp K5 rfl) W.z1 (used_of hq) (show _ = some (Cell.list (Option.toList (if t = 0 then _ else none))) from (if_neg (tm_ne ht)).symm ▸ addI_self) λ g6 w6 K6=>?_
  have KK:Kp notW g3 g6:=(K5.mono rfl).trans K6
  repeat walk_at "g"
  refine g_ret ?_
  exact q _ _ _ (W.brt ((f2.kn K3 rfl).kp KK rfl) ((sy2.kn K3 rfl).kp KK rfl) w6 (b3.kp KK rfl) (by rw [List.length_append]; exact Nat.le_refl _) (Nat.le_succ _) (Nat.le_succ _))
end
end Mine
end
section
open PySem
set_option backward.match.sparseCases false
namespace Mine
noncomputable def tmL:List Int:=[3,4,5,1]
theorem tm_of {t:Int} (h:t ∈ tmL):isTm t:=(List.mem_cons.mp h).imp_right λ h=>(List.mem_cons.mp h).imp_right λ h=>(List.mem_cons.mp h).imp_right List.mem_singleton.mp
section
variable {B:List Itm} {scs mks:List Nat} {bd:List Bnd} {ns nf b d:Nat} {g g':Gh} {Q:PV → Gh → Prop} {E:Gh → Prop} {cnt:Rl → Nat} {p:Rl → Bool}
theorem pickT_sp (f:FeR (b + 1) g) (h:BaX cnt g) (q:∀ t g',isTm t → FeR b g' → Kp notF g g' → Q (.int t) g'):Cg (callF tbl (d + 2)) false (.val (.ref 498)) [.ref 3,.ref 15] g Q E:=
 pickL_sp (xs:=tmL.map PV.int) f (λ g2 k2=>(h.kp k2 rfl).terms) (by decide) (by decide) λ w g9 hw f9 K9=>
  let ⟨t,ht,e⟩:=List.mem_map.mp hw
  e ▸ q t g9 (tm_of ht) f9 K9
theorem fun_deed {isd:Bool} (W:Wo B scs bd mks ns nf (b + 10) g) (q:∀ B' nf' g',Wo B' scs bd mks ns nf' b g' → Q (.bool true) g'):Cg (callF tbl (d + 5)) false (.val (.ref 529)) [.ref 3,.ref 24,.bool isd] g Q E:=by
 refine cg_fb (λ c=>o529 ..) λ n N=>?_
 have W:=W.kp (adds_kp N [.box (some (.ref 3)),.box (some (.ref 24)),.box .none,.box .none,.box .none,.box .none,.box .none,.box .none])
 have fb:Fb (adds g n [.box (some (.ref 3)),.box (some (.ref 24)),.box .none,.box .none,.box .none,.box .none,.box .none,.box .none]) n [some (.ref 3),some (.ref 24),.none,.none,.none,.none,.none,.none]:=adds_fb
 generalize adds g n [.box (some (.ref 3)),.box (some (.ref 24)),.box .none,.box .none,.box .none,.box .none,.box .none,.box .none] = g0 at W fb ⊢
 have h1:=W.wo.self
 repeat walk_at "g"
 refine pickK_sp (b:=b + 9) W.fe pool_len.1 pool_len.2 λ v g1 hv f1 K1=>pool_str hv λ nm e hp=>?_
 subst e
 have W:=W.fed f1 K1 (Nat.le_succ _)
 have fb:=fb.kp K1
 repeat walk_at "g"
 refine g_sbF rfl fb rfl rfl λ g2 fb K2=>?_
 have W:=W.kn K2
 repeat walk_at "g"
 refine g_sbF rfl fb rfl rfl λ g3 fb K3=>?_
 have W:=W.kn K3
 have fb:Fb g3 n [some (.ref 3),some (.ref 24),.none,.none,.none,some (.str nm),some (.ref 16),.none]:=fb
 repeat walk_at "g"
 refine g_ite (λ hd=>?_) λ hd=>?_
 all_goals
  subst hd
  repeat walk_at "g"
  refine draw_sp (b:=b + 8) W.fe (by decide) (by decide) λ v g4 v1 v2 f4 K4=>?_
  have W:=W.fed f4 K4 (Nat.le_succ _)
  have fb:=fb.kp K4
  have sv:=sm_v v1 v2 (by decide)
  have hl:=rngUp_len v1 v2
  repeat walk_at "g"
  refine g_rng1 sv ?_
  repeat walk_at "g"
 ·refine g_draws PV.int (λ zz=>True) (b + 6) (rngUp v) (itr_r (by decide) sv (.inl rfl)) rfl (Nat.ble_eq_true_of_le (Nat.le_trans (Nat.le_of_lt hl) (by decide))) (λ zz zz=>its_u) (W.fe.mono (Nat.add_le_add_left (Nat.le_of_lt_succ hl) (b + 6))) (λ l x g' r hx f K P hP=>?_) λ zs g' u hz hm f6 K6 N=>?_
  ·have fb:=fb.kp K
   repeat walk_at "g"
   refine draw_sp f (by decide) (by decide) λ w g8 w1 w2 f8 K8=>?_
   exact g_is (g_ret (hP w g8 _ trivial f8 K8))
  ·have hpl:zs.length ≤ 100:=by rw [hz]; exact Nat.le_trans (Nat.le_of_lt hl) (by decide)
   have W:=(W.fed f6 K6 (Nat.le_add_right (b + 6) 2)).kp (Kp.addI (x:=.list (zs.map PV.int)) N.i)
   have fb:=(fb.kp K6).kp (p:=λ zz=>true) (Kp.addI (x:=.list (zs.map PV.int)) N.i)
   have ia:(g'.addI u (.list (zs.map PV.int))).I u = _:=addI_self
   generalize g'.addI u (.list (zs.map PV.int)) = g7 at W fb ia ⊢
   repeat walk_at "g"
   refine draw_sp (b:=b + 5) W.fe (by decide) (by decide) λ r g8 v1 v2 f8 K8=>?_
   have W:=W.fed f8 K8 (Nat.le_succ _)
   have fb:=fb.kp K8
   have ia:=K8.i _ _ ia
   repeat walk_at "g"
   refine g_sbF rfl fb rfl rfl λ g9 fb K9=>?_
   have W:=W.kn K9
   have ia:=K9.i _ _ rfl ia
   repeat walk_at "g"
   refine g_sbF rfl fb rfl rfl λ g10 fb K10=>?_
   exact g_is (declF_deed hp hpl ((W.kn K10).less (Nat.le_add_right (b + 1) 4)) fb (K10.i _ _ rfl ia) q)
 ·refine g_draws PV.int isTm (b + 6) (rngUp v) (itr_r (by decide) sv (.inl rfl)) rfl (Nat.ble_eq_true_of_le (Nat.le_trans (Nat.le_of_lt hl) (by decide))) (λ zz zz=>its_u) (W.fe.mono (Nat.add_le_add_left (Nat.le_of_lt_succ hl) (b + 6))) (λ l x g' r hx f K P hP=>?_) λ zs g' u hz hm f6 K6 N=>?_
  ·have fb:=fb.kp K
   have h1:=(W.wo.kp K rfl).self
   repeat walk_at "g"
   refine pickT_sp f (W.ba.kp K rfl) λ t g8 ht f8 K8=>?_
   exact g_is (g_ret (hP t g8 _ ht f8 K8))
  ·have hpl:zs.length ≤ 100:=by rw [hz]; exact Nat.le_trans (Nat.le_of_lt hl) (by decide)
   have W:=(W.fed f6 K6 (Nat.le_add_right (b + 6) 2)).kp (Kp.addI (x:=.list (zs.map PV.int)) N.i)
   have fb:=(fb.kp K6).kp (p:=λ zz=>true) (Kp.addI (x:=.list (zs.map PV.int)) N.i)
   have ia:(g'.addI u (.list (zs.map PV.int))).I u = _:=addI_self
   generalize g'.addI u (.list (zs.map PV.int)) = g7 at W fb ia ⊢
   repeat walk_at "g"
   refine g_sbF rfl fb rfl rfl λ g8 fb K8=>?_
   have W:=W.kn K8
   have ia:=K8.i _ _ rfl ia
   have fb:Fb g8 n [some (.ref 3),some (.ref 24),.none,some (.ref u),.none,some (.str nm),some (.ref 16),.none]:=fb
   have h1:=W.wo.self
   repeat walk_at "g"
   refine pickT_sp (b:=b + 5) W.fe W.ba λ t g9 ht f9 K9=>?_
   have W:=W.fed f9 K9 (Nat.le_succ _)
   have fb:=fb.kp K9
   have ia:=K9.i _ _ ia
   repeat walk_at "g"
   refine g_sbF rfl fb rfl rfl λ g10 fb K10=>?_
   exact defF_deed hp hpl hm ht ((W.kn K10).less (Nat.le_add_right (b + 1) 4)) fb (K10.i _ _ rfl ia) q
end
end Mine
end
section
open PySem
set_option backward.match.sparseCases false
namespace Mine
theorem toPys_nats:∀ l:List Nat,toPys (natsL l) = some (l.map λ (k:Nat)=>PyData.int k)
 | []=>rfl
 | x :: r=>by
  show (toPy (.int x)).bind (λ a=>(toPys (natsL r)).map (a :: ·)) = _
  rw [toPys_nats r]; rfl
theorem nats_small {l:List Nat}:(natsL l).all smallD = true:=List.all_eq_true.mpr λ x hx=>let ⟨_,_,e⟩:=List.mem_map.mp hx; e ▸ rfl
theorem eq_nil {c:Cells} {a b:Nat} {l:List Nat} (ha:c[a]? = some (.list (natsL l))) (hb:c[b]? = some (.list [])):eqV c (.ref a) (.ref b) = some l.isEmpty:=by
 show eqR c a b = _
 unfold eqR
 rw [ha,hb]
 show (bif (natsL l).all smallD && true then some (eqData (.tup (natsL l)) (.tup [])) else _) = _
 rw [nats_small]
 show some (((toPys (natsL l)).map PyData.tuple).bind (λ a=>some (PyData.eqv a (.tuple []))) == some true) = _
 rw [toPys_nats]
 cases l <;> rfl
theorem nats_snoc {l:List Nat} {k:Nat}:natsL (l ++ [k]) = natsL l ++ [.int k]:=List.map_append
theorem mth_pop:mthOf 479 "pop" = some 394:=by kernel_rfl
theorem mth_push:mthOf 479 "push" = some 387:=by kernel_rfl
theorem mth_mark:mthOf 479 "mark" = some 401:=by kernel_rfl
theorem take_le {l:List Itm} {k:Nat}:(l.take k).length ≤ l.length:=List.length_take_le' ..
section
variable {B:List Itm} {scs mks:List Nat} {bd:List Bnd} {ns nf b d:Nat} {g g':Gh} {Q:PV → Gh → Prop} {E:Gh → Prop} {cnt:Rl → Nat} {p:Rl → Bool} {I:In} {P:PG}
theorem WoR.setSc (w:WoR B scs bd mks ns nf g) (scs':List Nat):WoR B scs' bd mks ns nf (g.setX .wsc (.list (natsL scs'))):=
 ⟨w.aW,w.cW,w.aM,w.mkc,rfl,w.wbd,w.rows,w.rok,w.rlen,w.pics⟩
theorem WoR.setMk (w:WoR B scs bd mks ns nf g) (mks':List Nat):WoR B scs bd mks' ns nf (g.setX .marks (.list (natsL mks'))):=
 ⟨w.aW,w.cW,w.aM,rfl,w.wsc,w.wbd,w.rows,w.rok,w.rlen,w.pics⟩
theorem g_and {k:List Ins} {st:List SV} {l:Lc} {t u:Bool} {r:G .t} (hr:∀ k,WG (adv k (.v (.bool u) :: st) l I) I g P → WG (adv (comp r k) st l I) I g P) (q:WG (adv k (.v (.bool (t && u)) :: st) l I) I g P):WG ⟨.bop .And r :: k,.v (.bool t) :: st,l⟩ I g P:=by
 cases t with
 | false=>exact g_bopT rfl q
 | true=>exact g_bopF rfl (hr _ q)
theorem g_s {k:List Ins} {st:List SV} {l:Lc} (q:WG ⟨k,st,.s l.val⟩ I g P):WG ⟨k,st,l⟩ I g P:=q
noncomputable def popC:G .e:=.call (.k (.val (.ref 536))) (.cons (.loc "world") (.cons (.meth (.sub (.loc "world") (.k (.str "scopes"))) "pop" .nil) .nil))
theorem close_sp {k n:Nat} {l:Locs} {K:List Ins} (W:Wo B (scs ++ [k]) bd mks ns nf b g) (lw:LL l "world" (.ref 24)) (q:∀ B' g',Wo B' scs bd mks ns nf b g' → WG (adv K [] (.s l) (fnI (d + 2) false n)) (fnI (d + 2) false n) g' P) :
  WG ⟨.mth "pop" :: .nil :: .doM :: .pop :: comp popC (.pop :: K),[.v (.ref 16)],.s l⟩ (fnI (d + 2) false n) g P:=by
 have h0:=W.sy.self
 have hk:=W.z.z7 k (List.mem_append_right _ (.head _))
 have e:natsL (scs ++ [k]) = natsL scs ++ [.int k]:=nats_snoc
 refine g_mi h0 mth_pop rfl ?_
 repeat walk_at "g"
 refine pop_sp W.sy W.z1 (z_le W.z.z2) λ g2 sy2 K2=>?_
 have w2:=W.wo.kp K2 rfl
 have h1:=w2.self
 have h3:=w2.wsc
 repeat walk_at "g"
 refine g_lpop rfl (ga_X h3) (nats_lim (z_le W.z.z2)) (v:=.int k) (by rw [e]; exact List.getLast?_concat) (show Up g2 _ _ (g2.setX .wsc (.list (natsL scs))) from by rw [e,List.dropLast_concat]; exact up_x rfl) ?_
 have K3:Kp notW g2 (g2.setX .wsc (.list (natsL scs))):=Kp.setX rfl
 repeat walk_at "g"
 refine back_sp (w2.setSc scs) W.z1 hk λ g4 w4 K4=>?_
 have KK:Kp notW g2 g4:=K3.trans K4
 refine (q _ _ ⟨(W.fe.kp K2 rfl).kp KK rfl,sy2.kp KK rfl,w4,(W.ba.kp K2 rfl).kp KK rfl,?_⟩)
 have z2:=W.z.z2
 rw [List.length_append] at z2
 exact ⟨Nat.le_trans (Nat.add_le_add_right take_le b) W.z.z1,Nat.le_trans (Nat.add_le_add_right (Nat.le_add_right _ 1) b) z2,W.z.z3,W.z.z4,W.z.z5,W.z.z6,λ j hj=>W.z.z7 j (List.mem_append_left _ hj),W.z.z8⟩
theorem scope_deed (W:Wo B scs bd mks ns nf (b + 4) g) (q:∀ B' scs' mks' g',Wo B' scs' bd mks' ns nf b g' → Q (.bool true) g'):Cg (callF tbl (d + 3)) false (.val (.ref 543)) [.ref 3,.ref 24] g Q E:=by
 have h1:=W.wo.self
 refine cg_fn (λ c=>o543 ..) λ m=>?_
 repeat walk_at "g"
 refine draw_sp (b:=b + 3) W.fe (by decide) (by decide) λ v g1 v1 v2 f1 K1=>?_
 have W:=W.fed f1 K1 (Nat.le_succ _)
 have h1:=W.wo.self
 repeat walk_at "g"
 refine g_and (u:=!scs.isEmpty && true) (λ k q=>?_) (g_is (g_ite (λ ht=>?_) λ zz=>?_))
 ·repeat walk_at "g"
  refine g_lst rfl al_i λ u N=>?_
  repeat walk_at "g"
  refine g_ne (λ c s=>eq_nil (ga_X (g:=g1.addI u _) (r:=.wsc) W.wo.wsc c s) (ga_i addI_self c s)) (g_fgt N ?_)
  exact g_is (g_and (λ k q=>q) q)
 ·have ht:=(Bool.and_eq_true_iff.mp ht).2
  cases scs with
  | nil=>cases ht
  | cons x r=>
   refine snocE (l:=x :: r) (Nat.succ_pos _) λ scs' k e=>?_
   rw [e] at W
   repeat walk_at "g"
   refine g_s (close_sp (W.less (Nat.le_add_right b 3)) rfl λ B' g' W'=>?_)
   repeat walk_at "g"
   exact g_ret (q _ _ _ _ W')
 ·repeat walk_at "g"
  have h0:=W.sy.self
  refine g_ite (λ zz=>?_) λ zz=>?_
  ·have h2:=ga_x W.wo.aM W.wo.mkc
   repeat walk_at "g"
   refine g_mi h0 mth_mark rfl ?_
   repeat walk_at "g"
   refine mark_sp W.sy W.z1 ?_
   repeat walk_at "g"
   refine g_app rfl h2 (nats_lim (z_le W.z.z4)) (show Up g1 30 _ (g1.setX .marks (.list (natsL (mks ++ [B.length])))) from nats_snoc ▸ up_x W.wo.aM) ?_
   have K3:Kp notW g1 (g1.setX .marks (.list (natsL (mks ++ [B.length])))):=Kp.setX rfl
   repeat walk_at "g"
   refine g_ret (q _ _ _ _ ⟨(W.fe.kp K3 rfl).mono (Nat.le_add_right b 3),W.sy.kp K3 rfl,W.wo.setMk _,W.ba.kp K3 rfl,?_⟩)
   have z:=W.z.less (Nat.le_add_right (b + 1) 2)
   refine z.step (Nat.le_succ _) (Nat.le_succ _) (Nat.le_succ _) (by rw [List.length_append]; exact Nat.le_refl _) (Nat.le_succ _) (Nat.le_succ _) W.z.z7 λ j hj=>?_
   rcases List.mem_append.mp hj with y | y
   ·exact W.z.z8 j y
   ·rw [List.mem_singleton] at y; exact y ▸ W.z1
  ·repeat walk_at "g"
   refine g_and (u:=!mks.isEmpty && true) (λ k q=>?_) (g_is (g_ite (λ ht=>?_) λ zz=>?_))
   ·repeat walk_at "g"
    refine g_lst rfl al_i λ u N=>?_
    repeat walk_at "g"
    refine g_ne (λ c s=>eq_nil (ga_x (g:=g1.addI u _) (r:=.marks) W.wo.aM W.wo.mkc c s) (ga_i addI_self c s)) (g_fgt N ?_)
    exact g_is (g_and (λ k q=>q) q)
   ·have ht:=(Bool.and_eq_true_iff.mp (Bool.and_eq_true_iff.mp ht).2).1
    have hm:0 < mks.length:=by
     cases mks with
     | nil=>cases ht
     | cons=>exact Nat.succ_pos _
    repeat walk_at "g"
    refine pickL_sp (b:=b + 2) (xs:=natsL mks) W.fe (λ g2 k2=>let w:=W.wo.kp k2 rfl; ga_x w.aM w.mkc) (by rw [nats_len]; exact hm) (by rw [nats_len]; exact Nat.le_trans (z_le W.z.z4) (by decide)) λ v g2 hv f2 K2=>?_
    have W:=W.fed f2 K2 (Nat.le_succ _)
    obtain ⟨k,hk,rfl⟩:=List.mem_map.mp hv
    have h0:=W.sy.self
    repeat walk_at "g"
    refine g_mi h0 mth_roll rfl ?_
    repeat walk_at "g"
    refine roll_sp W.sy W.z1 λ g3 sy3 K3=>?_
    repeat walk_at "g"
    refine back_sp (W.wo.kp K3 rfl) W.z1 (W.z.z8 k hk) λ g4 w4 K4=>?_
    repeat walk_at "g"
    refine g_ret (q _ _ _ _ ⟨((W.fe.kp K3 rfl).kp K4 rfl).mono (Nat.le_add_right b 2),sy3.kp K4 rfl,w4,(W.ba.kp K3 rfl).kp K4 rfl,?_⟩)
    have z:=W.z.less (Nat.le_add_right (b + 1) 1)
    exact z.step (Nat.le_trans take_le (Nat.le_succ _)) (Nat.le_succ _) (Nat.le_succ _) (Nat.le_succ _) (Nat.le_succ _) (Nat.le_succ _) W.z.z7 W.z.z8
   ·repeat walk_at "g"
    refine g_mi h0 mth_push rfl ?_
    repeat walk_at "g"
    refine push_sp W.sy (z_le W.z.z2) W.z1 λ g2 sy2 K2=>?_
    have w2:=W.wo.kp K2 rfl
    have h1:=w2.self
    have h3:=w2.wsc
    refine w2.pics _ λ ps e l hps=>?_
    have hll:ps.length ≤ lim:=l ▸ Nat.le_trans (Nat.succ_le_succ W.z1) (by decide)
    repeat walk_at "g"
    have e2:natsL scs ++ [.int ((ps.length:Int) - 1)] = natsL (scs ++ [B.length]):=by
     rw [l,show ((B.length + 1:Nat):Int) - 1 = (B.length:Int) from Int.add_sub_cancel (B.length:Int) 1]
     exact nats_snoc.symm
    refine g_app rfl (ga_X h3) (nats_lim (z_le W.z.z2)) (show Up g2 _ _ (g2.setX .wsc (.list (natsL (scs ++ [B.length])))) from e2 ▸ up_x rfl) ?_
    have K3:Kp notW g2 (g2.setX .wsc (.list (natsL (scs ++ [B.length])))):=Kp.setX rfl
    repeat walk_at "g"
    refine g_ret (q _ _ _ _ ⟨((W.fe.kp K2 rfl).kp K3 rfl).mono (Nat.le_add_right b 3),sy2.kp K3 rfl,w2.setSc _,(W.ba.kp K2 rfl).kp K3 rfl,?_⟩)
    have z:=W.z.less (Nat.le_add_right (b + 1) 2)
    refine z.step (Nat.le_succ _) (by rw [List.length_append]; exact Nat.le_refl _) (Nat.le_succ _) (Nat.le_succ _) (Nat.le_succ _) (Nat.le_succ _) (λ j hj=>?_) W.z.z8
    rcases List.mem_append.mp hj with y | y
    ·exact W.z.z7 j y
    ·rw [List.mem_singleton] at y; exact y ▸ W.z1
end
end Mine
end
section
open PySem
set_option backward.match.sparseCases false
namespace Mine
theorem zip_fst:∀ {a:List Str} {b:List Int},a.length = b.length → ((a.zip b).map λ p=>PV.str p.1) = a.map PV.str
 | [],[],_=>rfl
 | x :: a,y :: b,h=>congrArg (_ :: ·) (zip_fst (a:=a) (b:=b) (Nat.succ.inj h))
theorem zip_snd:∀ {a:List Str} {b:List Int},a.length = b.length → ((a.zip b).map λ p=>PV.int p.2) = b.map PV.int
 | [],[],_=>rfl
 | x :: a,y :: b,h=>congrArg (_ :: ·) (zip_snd (a:=a) (b:=b) (Nat.succ.inj h))
theorem mth_bind:mthOf 479 "bind" = some 462:=by kernel_rfl
theorem mth_unb:mthOf 479 "unbind" = some 469:=by kernel_rfl
theorem mth_clr:mthOf 479 "clear" = some 373:=by kernel_rfl
section
variable {B:List Itm} {scs mks:List Nat} {bd:List Bnd} {ns nf b d:Nat} {g g':Gh} {Q:PV → Gh → Prop} {E:Gh → Prop} {cnt:Rl → Nat} {p:Rl → Bool} {I:In} {P:PG}
theorem WoR.setBd (w:WoR B scs bd mks ns nf g) (bd':List Bnd) (h1:∀ x ∈ bd',g.I x.2.2 = some (.list (x.1.map λ p=>.tup [.str p.1,.int p.2]))) (h2:∀ x ∈ bd',∀ p ∈ x.1,PyData.strOk p.1 = true) (h3:∀ x ∈ bd',x.1.length ≤ 2):WoR B scs bd' mks ns nf (g.setX .wbd (.list (bd'.map λ x=>.ref x.2.2))):=
 ⟨w.aW,w.cW,w.aM,w.mkc,w.wsc,rfl,h1,h2,h3,w.pics⟩
theorem mem_snoc {α:Type} {p:α → Prop} {l:List α} {x:α} (h:∀ y ∈ l,p y) (hx:p x) (y:α) (hy:y ∈ l ++ [x]):p y:=(List.mem_append.mp hy).elim (h y) λ z=>List.mem_singleton.mp z ▸ hx
theorem bind_deed (W:Wo B scs bd mks ns nf (b + 10) g) (q:∀ B' scs' bd' g',Wo B' scs' bd' mks ns nf b g' → Q (.bool true) g'):Cg (callF tbl (d + 4)) false (.val (.ref 548)) [.ref 3,.ref 24] g Q E:=by
 refine cg_fb (λ c=>o548 ..) λ n N=>?_
 have W:=W.kp (adds_kp N [.box (some (.ref 3)),.box (some (.ref 24))])
 have fb:Fb (adds g n [.box (some (.ref 3)),.box (some (.ref 24))]) n [some (.ref 3),some (.ref 24)]:=adds_fb
 generalize adds g n [.box (some (.ref 3)),.box (some (.ref 24))] = g0 at W fb ⊢
 have h1:=W.wo.self
 repeat walk_at "g"
 refine draw_sp (b:=b + 9) W.fe (by decide) (by decide) λ v g1 v1 v2 f1 K1=>?_
 have W:=W.fed f1 K1 (Nat.le_succ _)
 have fb:=fb.kp K1
 have h1:=W.wo.self
 repeat walk_at "g"
 refine g_ite (λ zz=>?_) λ zz=>?_
 ·repeat walk_at "g"
  refine draw_sp (b:=b + 8) W.fe (by decide) (by decide) λ v g2 v1 v2 f2 K2=>?_
  have W:=W.fed f2 K2 (Nat.le_succ _)
  have fb:=fb.kp K2
  have w1:0 ≤ 1 + v:=Int.add_nonneg (by decide) v1
  have w2:1 + v < ((3:Nat):Int):=Int.add_lt_add_left v2 1
  have sv:=sm_v w1 w2 (by decide)
  have hl:=rngUp_len w1 w2
  repeat walk_at "g"
  refine g_rng1 sv ?_
  repeat walk_at "g"
  refine g_draws PV.str inPool (b + 6) (rngUp (1 + v)) (itr_r (by decide) sv (.inl rfl)) rfl (Nat.ble_eq_true_of_le (Nat.le_trans (Nat.le_of_lt hl) (by decide))) (λ zz zz=>its_u) (W.fe.mono (Nat.add_le_add_left (Nat.le_of_lt_succ hl) (b + 6))) (λ l x g' r hx f K P hP=>?_) λ nms g3 u hz hm f3 K3 N3=>?_
  ·have fb:=fb.kp K
   repeat walk_at "g"
   refine pickK_sp f pool_len.1 pool_len.2 λ w g8 hw f8 K8=>pool_str hw λ nm e hp=>?_
   subst e
   exact g_is (g_ret (hP nm g8 _ hp f8 K8))
  have rl:nms.length ≤ 2:=hz ▸ Nat.le_of_lt_succ hl
  have W:=(W.fed f3 K3 (Nat.le_add_right (b + 6) 2)).kp (Kp.addI (x:=.list (nms.map PV.str)) N3.i)
  have fb:=(fb.kp K3).kp (p:=λ zz=>true) (Kp.addI (x:=.list (nms.map PV.str)) N3.i)
  have a1:(g3.addI u (.list (nms.map PV.str))).I u = _:=addI_self
  generalize g3.addI u (.list (nms.map PV.str)) = g4 at W fb a1 ⊢
  have l1:(nms.map PV.str).length ≤ lim:=by rw [List.length_map]; exact Nat.le_trans rl (by decide)
  have l2:(nms.map PV.str).length ≤ 2:=by rw [List.length_map]; exact rl
  repeat walk_at "g"
  refine g_draws PV.int isTm (b + 4) (nms.map PV.str) (itr_l (ga_i a1)) rfl (Nat.ble_eq_true_of_le (Nat.le_trans l2 (by decide))) (λ g' K=>its_l (ga_i (K.i _ _ a1)) l1) (W.fe.mono (Nat.add_le_add_left l2 (b + 4))) (λ l x g' r hx f K P hP=>?_) λ tms g5 u2 hz2 hm2 f5 K5 N5=>?_
  ·have fb:=fb.kp K
   have h1:=(W.wo.kp K rfl).self
   repeat walk_at "g"
   refine pickT_sp f (W.ba.kp K rfl) λ t g8 ht f8 K8=>?_
   exact g_is (g_ret (hP t g8 _ ht f8 K8))
  rw [List.length_map] at hz2
  have e1:=zip_fst hz2.symm
  have e2:=zip_snd hz2.symm
  have rz:(nms.zip tms).length ≤ 2:=by rw [List.length_zip]; exact Nat.le_trans (Nat.min_le_left ..) rl
  have K6:Kp (λ zz=>true) g5 (g5.addI u2 (.list (tms.map PV.int))):=Kp.addI N5.i
  have W:=(W.fed f5 K5 (Nat.le_add_right (b + 4) 2)).kp K6
  have fb:=(fb.kp K5).kp K6
  have a1:=K6.i _ _ (K5.i _ _ a1)
  have a2:(g5.addI u2 (.list (tms.map PV.int))).I u2 = _:=addI_self
  generalize g5.addI u2 (.list (tms.map PV.int)) = g6 at W fb a1 a2 ⊢
  have h0:=W.sy.self
  rw [← e1] at a1
  rw [← e2] at a2
  repeat walk_at "g"
  refine g_mi h0 mth_bind rfl ?_
  repeat walk_at "g"
  refine bind_sp (rows:=nms.zip tms) (Nat.le_trans rz (by decide)) a1 a2 W.sy (z_le W.z.z3) λ g7 e sy7 K7=>?_
  have w7:=W.wo.kp K7 rfl
  have fb:=fb.kp K7
  have h1:=w7.self
  have h4:=w7.wbd
  repeat walk_at "g"
  refine g_lz (ga_i (K7.i _ _ a1)) (ga_i (K7.i _ _ a2)) (map_lim (Nat.le_trans rz (by decide))) (map_lim (Nat.le_trans rz (by decide))) al_i λ u3 N8=>?_
  rw [zipP_rows]
  have K8:Kp (λ zz=>true) g7 (g7.addI u3 (.list ((nms.zip tms).map λ p=>PV.tup [.str p.1,.int p.2]))):=Kp.addI N8.i
  have w8:=w7.kp K8 rfl
  have a3:(g7.addI u3 (.list ((nms.zip tms).map λ p=>PV.tup [.str p.1,.int p.2]))).I u3 = _:=addI_self
  generalize g7.addI u3 (.list ((nms.zip tms).map λ p=>PV.tup [.str p.1,.int p.2])) = g8 at K8 w8 a3 ⊢
  repeat walk_at "g"
  refine g_app rfl (ga_x (K8.a .wbd rfl) w8.wbd) (map_lim (z_le W.z.z3)) (show Up g8 _ _ (g8.setX .wbd (.list ((bd ++ [((nms.zip tms,e,u3):Bnd)]).map λ x=>.ref x.2.2))) from (List.map_append (f:=λ x:Bnd=>PV.ref x.2.2)) ▸ up_x (K8.a .wbd rfl)) ?_
  have K9:Kp notW g8 (g8.setX .wbd (.list ((bd ++ [((nms.zip tms,e,u3):Bnd)]).map λ x=>.ref x.2.2))):=Kp.setX rfl
  have KK:Kp notW g7 (g8.setX .wbd (.list ((bd ++ [((nms.zip tms,e,u3):Bnd)]).map λ x=>.ref x.2.2))):=(K8.mono rfl).trans K9
  have w9:=w8.setBd (bd ++ [((nms.zip tms,e,u3):Bnd)]) (mem_snoc w8.rows a3) (mem_snoc w8.rok λ p hp=>(pool_ok (hm p.1 (List.of_mem_zip (p.eta ▸ hp)).1)).2.1) (mem_snoc w8.rlen rz)
  repeat walk_at "g"
  refine g_ret (q _ _ _ _ ⟨((W.fe.kp K7 rfl).kp KK rfl).mono (Nat.le_add_right b 4),(sy7 u3).kp KK rfl,w9,(W.ba.kp K7 rfl).kp KK rfl,?_⟩)
  exact (W.z.less (Nat.le_add_right (b + 1) 3)).step (Nat.le_succ _) (Nat.le_succ _) (by rw [List.length_append]; exact Nat.le_refl _) (Nat.le_succ _) (Nat.le_succ _) (Nat.le_succ _) W.z.z7 W.z.z8
 ·repeat walk_at "g"
  refine g_ite (λ zz=>?_) λ zz=>?_
  ·have h4:=W.wo.wbd
   have hll:(bd.map λ (x:Bnd)=>PV.ref x.2.2).length ≤ lim:=map_lim (z_le W.z.z3)
   repeat walk_at "g"
   rw [List.length_map]
   have hb:(bd.length:Int) + 2 ≤ 200:=Int.ofNat_le.mpr (Nat.le_trans (Nat.add_le_add_right (z_le W.z.z3) 2) (by decide))
   refine draw_sp (b:=b + 8) W.fe (Int.add_pos_of_nonneg_of_pos (Int.ofNat_nonneg _) (by decide)) (Int.le_trans hb (by decide)) λ v g2 v1 v2 f2 K2=>?_
   have W:=W.fed f2 K2 (Nat.le_succ _)
   have fb:=fb.kp K2
   obtain ⟨m,rfl⟩:=Int.eq_ofNat_of_zero_le v1
   have hm:(m:Int) ≤ lim:=Int.le_trans (Int.le_of_lt v2) (Int.le_trans hb (by decide))
   have h0:=W.sy.self
   repeat walk_at "g"
   refine g_mi h0 mth_unb rfl ?_
   repeat walk_at "g"
   refine unbind_sp W.sy (z_le W.z.z3) λ g3 sy3 K3=>?_
   have w3:=W.wo.kp K3 rfl
   have fb:=fb.kp K3
   have h1:=w3.self
   repeat walk_at "g"
   refine g_slL (ga_X w3.wbd) v1 hm hll (al_a .wbd) λ u N=>?_
   rw [Int.toNat_natCast,← List.map_take]
   have fb:Fb (g3.newA .wbd u (.list ((bd.take m).map λ x=>.ref x.2.2))) n _:=fb
   repeat walk_at "g"
   refine g_si rfl (ga_x (r:=.world) w3.aW w3.cW) (by kernel_rfl) (lim_of rfl) (show Up (g3.newA .wbd u (.list ((bd.take m).map λ x=>.ref x.2.2))) 24 _ ((g3.newA .wbd u (.list ((bd.take m).map λ x=>.ref x.2.2))).setX .world (.dict (wD (g3.A .pics) (g3.A .wsc) u ns nf))) from up_x (r:=.world) w3.aW) ?_
   have KK:Kp notW g3 ((g3.newA .wbd u (.list ((bd.take m).map λ x=>.ref x.2.2))).setX .world (.dict (wD (g3.A .pics) (g3.A .wsc) u ns nf))):=(Kp.newA (r:=.wbd) rfl).trans (Kp.setX (r:=.world) rfl)
   repeat walk_at "g"
   refine g_ret (q _ _ _ _ ⟨((W.fe.kp K3 rfl).kp KK rfl).mono (Nat.le_add_right b 8),sy3.kp KK rfl,⟨w3.aW,rfl,w3.aM,w3.mkc,w3.wsc,rfl,λ x hx=>w3.rows x (List.mem_of_mem_take hx),λ x hx=>w3.rok x (List.mem_of_mem_take hx),λ x hx=>w3.rlen x (List.mem_of_mem_take hx),w3.pics⟩,(W.ba.kp K3 rfl).kp KK rfl,?_⟩)
   exact (W.z.less (Nat.le_add_right (b + 1) 7)).step (Nat.le_succ _) (Nat.le_succ _) (Nat.le_trans (List.length_take_le' ..) (Nat.le_succ _)) (Nat.le_succ _) (Nat.le_succ _) (Nat.le_succ _) W.z.z7 W.z.z8
  ·have h0:=W.sy.self
   repeat walk_at "g"
   refine g_mi h0 mth_clr rfl ?_
   repeat walk_at "g"
   refine clear_sp W.sy λ g2 sy2 K2=>?_
   have w2:=W.wo.kp K2 rfl
   have fb:=fb.kp K2
   repeat walk_at "g"
   refine g_emp al_i λ n0 N0=>?_
   have K3:Kp (λ zz=>true) g2 (g2.addI n0 (.dict [])):=Kp.addI N0.i
   have i0:(g2.addI n0 (.dict [])).I n0 = _:=addI_self
   generalize g2.addI n0 (.dict []) = g3 at K3 i0 ⊢
   repeat walk_at "g"
   refine g_emp al_i λ n1 N1=>?_
   have K4:Kp (λ zz=>true) g3 (g3.addI n1 (.dict [])):=Kp.addI N1.i
   have i1:(g3.addI n1 (.dict [])).I n1 = _:=addI_self
   have i0:=K4.i _ _ i0
   generalize g3.addI n1 (.dict []) = g4 at K4 i0 i1 ⊢
   repeat walk_at "g"
   refine g_lst rfl al_i λ n2 N2=>?_
   have K5:Kp (λ zz=>true) g4 (g4.addI n2 (.list [])):=Kp.addI N2.i
   have i2:(g4.addI n2 (.list [])).I n2 = _:=addI_self
   have i0:=K5.i _ _ i0
   have i1:=K5.i _ _ i1
   have K5:=K3.trans (K4.trans K5)
   generalize g4.addI n2 (.list []) = g5 at K5 i0 i1 i2 ⊢
   have w5:=w2.kp K5 rfl
   have fb:=fb.kp K5
   repeat walk_at "g"
   refine g_lst rfl (al_a .pics) λ n3 zz=>?_
   repeat walk_at "g"
   refine g_lst rfl (al_a .wsc) λ n4 zz=>?_
   repeat walk_at "g"
   refine g_lst rfl (al_a .wbd) λ n5 zz=>?_
   repeat walk_at "g"
   refine g_si rfl (ga_x (r:=.world) w5.aW w5.cW) (by kernel_rfl) (lim_of rfl) (up_x (r:=.world) w5.aW) ?_
   repeat walk_at "g"
   refine g_si rfl (ga_x (r:=.world) w5.aW rfl) (by kernel_rfl) (lim_of rfl) (up_x (r:=.world) w5.aW) ?_
   repeat walk_at "g"
   refine g_si rfl (ga_x (r:=.world) w5.aW rfl) (by kernel_rfl) (lim_of rfl) (up_x (r:=.world) w5.aW) ?_
   have KK:Kp notW g2 _:=(K5.mono rfl).trans ((Kp.newA (g:=g5) (r:=.pics) (n:=n3) (x:=.list [.tup [.ref n0,.ref n1,.ref n2]]) rfl).trans ((Kp.newA (r:=.wsc) (n:=n4) (x:=.list []) rfl).trans ((Kp.newA (r:=.wbd) (n:=n5) (x:=.list []) rfl).trans ((Kp.setX (r:=.world) (x:=.dict (wD n3 (g5.A .wsc) (g5.A .wbd) ns nf)) rfl).trans ((Kp.setX (r:=.world) (x:=.dict (wD n3 n4 (g5.A .wbd) ns nf)) rfl).trans (Kp.setX (r:=.world) (x:=.dict (wD n3 n4 n5 ns nf)) rfl))))))
   repeat walk_at "g"
   refine g_ret (q [] [] [] _ ⟨((W.fe.kp K2 rfl).kp KK rfl).mono (Nat.le_add_right b 9),sy2.kp KK rfl,⟨w5.aW,rfl,w5.aM,w5.mkc,rfl,rfl,(λ x hx=>nomatch hx),(λ x hx=>nomatch hx),(λ x hx=>nomatch hx),λ X c=>c _ rfl rfl λ k x e=>?_⟩,(W.ba.kp K2 rfl).kp KK rfl,?_⟩)
   ·cases k with
    | zero=>cases e; exact λ X c=>c n0 n1 n2 rfl i0 i1 i2
    | succ k=>cases e
   ·exact (W.z.less (Nat.le_add_right (b + 1) 8)).step (Nat.zero_le _) (Nat.zero_le _) (Nat.zero_le _) (Nat.le_succ _) (Nat.le_succ _) (Nat.le_succ _) (λ zz h=>nomatch h) W.z.z8
end
end Mine
end
section
open PySem
set_option backward.match.sparseCases false
namespace Mine
theorem eqD_tup {l:List PV} (h:l.all smallD = true):eqData (.tup l) (.tup l) = true:=by
 obtain ⟨ds,e,h1,zz⟩:=okDs (k:=60) (l:=l) h
 show (((toPys l).map PyData.tuple).bind (λ a=>((toPys l).map PyData.tuple).map λ b=>PyData.eqv a b) == some true) = true
 rw [e]
 show (some (PyData.eqv (.tuple ds) (.tuple ds)) == some true) = true
 rw [PySem.SeqAt.eqv_refl (.tuple ds) h1]; rfl
theorem eqEntries_refl:∀ {es:List (Key × PV)},(es.all λ e=>isS e.1) = true → (es.all λ e=>smallD e.2) = true → eqEntries es es = true
 | [],_,_=>rfl
 | (k,v) :: r,h,h2=>by
  have h:=Bool.and_eq_true_iff.mp h
  have h2:=Bool.and_eq_true_iff.mp h2
  exact and_t (and_t (and_t (and_t (and_t (decide_eq_true rfl) h.1) h2.1) h2.1) (eqD_refl h2.1)) (eqEntries_refl h.2 h2.2)
theorem okD_inv {k:Nat}:∀ {l:List PV} {ds:List PyData},toPys l = some ds → PyData.canLayAll0 ds = true → PyData.depthAll ds ≤ k → ∀ x ∈ l,okD k x = true
 | x :: r,ds,e,h1,h2,y,hy=>by
  have e:(toPy x).bind (λ a=>(toPys r).map (a :: ·)) = some ds:=e
  cases e1:toPy x with
  | none=>rw [e1] at e; cases e
  | some d=>
   rw [e1] at e
   obtain ⟨t,e2,rfl⟩:=Option.map_eq_some_iff.mp e
   have h1:=Bool.and_eq_true_iff.mp h1
   have h2:=Nat.max_le.mp h2
   rcases List.mem_cons.mp hy with rfl | hy
   ·unfold okD; rw [e1]; exact and_t h1.1 (decide_eq_true h2.1)
   ·exact okD_inv e2 h1.2 h2.2 y hy
theorem row_ok {l:List PV} (h:smallD (.tup l) = true):∀ x ∈ l,okD 59 x = true:=by
 have h:((toPys l).map PyData.tuple).any (λ d=>d.canLay0 && decide (d.depth ≤ 60)) = true:=h
 cases e:toPys l with
 | none=>rw [e] at h; cases h
 | some ds=>
  rw [e] at h
  have h:=Bool.and_eq_true_iff.mp h
  exact okD_inv e h.1 (Nat.le_of_succ_le_succ (of_decide_eq_true h.2))
theorem isV_data {x:PV} {k:Nat} (h:okD k x = true):isV x = false:=by
 induction x using PV.casesOn with
 | val=>cases h
 | _=>rfl
section
variable {B:List Itm} {scs mks:List Nat} {bd:List Bnd} {ns nf b d:Nat} {g g':Gh} {c:Cells} {Q:PV → Gh → Prop} {E:Gh → Prop} {cnt:Rl → Nat} {p:Rl → Bool} {I:In} {P:PG}
theorem eqV_dict {x y:Nat} {es:List (Key × PV)} (hx:c[x]? = some (.dict es)) (hy:c[y]? = some (.dict es)) (h:x ≠ y) (h1:(es.all λ e=>isS e.1) = true) (h2:(es.all λ e=>smallD e.2) = true):eqV c (.ref x) (.ref y) = some true:=by
 show eqR c x y = _
 unfold eqR
 rw [hx,hy]
 show (bif x != y && eqEntries es es then some true else none) = _
 rw [eqEntries_refl h1 h2,bne_iff_ne.mpr h]; rfl
theorem eqV_list {x y:Nat} {l:List PV} (hx:c[x]? = some (.list l)) (hy:c[y]? = some (.list l)) (h:l.all smallD = true):eqV c (.ref x) (.ref y) = some true:=by
 show eqR c x y = _
 unfold eqR
 rw [hx,hy]
 show (bif l.all smallD && l.all smallD then some (eqData (.tup l) (.tup l)) else none) = _
 rw [h,eqD_tup h]; rfl
theorem bools_small {α:Type} {f:α → Bool} {l:List α}:(l.map λ x=>PV.bool (f x)).all smallD = true:=by
 rw [List.all_map]
 exact List.all_eq_true.mpr λ x zz=>by
  show smallD (.bool (f x)) = true
  cases f x <;> rfl
theorem eqD_str {a b:Str}:eqData (.str a) (.str b) = (a == b):=by
 rw [show eqData (.str a) (.str b) = (some (a == b) == some true) from by kernel_rfl]
 cases a == b <;> rfl
theorem pairs_map {f:Itm → PV}:∀ (l:List Itm),pairsOf (l.map λ it=>.tup [.str it.name,f it]) = some (l.map λ it=>(.s it.name,f it))
 | []=>rfl
 | x :: r=>by
  show (some (Key.s x.name,f x)).bind (λ p=>(pairsOf (r.map λ it=>.tup [.str it.name,f it])).map (p :: ·)) = _
  rw [pairs_map r]; rfl
theorem putAll_nd {f:Itm → PV} {l:List Itm} (h:(l.map Itm.name).Nodup):putAll (l.map λ it=>(Key.s it.name,f it)) [] = l.map λ it=>(Key.s it.name,f it):=by
 revert h
 refine snocInd (P:=λ l=>(l.map Itm.name).Nodup → putAll (l.map λ it=>(Key.s it.name,f it)) [] = l.map λ it=>(Key.s it.name,f it)) (λ zz=>rfl) (λ l x ih h=>?_) l
 rw [List.map_append] at h
 have h:=List.nodup_append.mp h
 rw [List.map_append]
 show putAll (_ ++ [(Key.s x.name,f x)]) [] = _
 rw [putAll_snoc,ih h.1,putKey_new]
 ·rfl
 ·rw [List.any_eq_false]
  intro e he
  obtain ⟨i,hi,rfl⟩:=List.mem_map.mp he
  exact λ z=>h.2.2 i.name (List.mem_map_of_mem hi) x.name (.head _) (Key.s.inj (of_decide_eq_true z))
theorem sel_mem {k:Bool} {it:Itm} (h:it ∈ sel k B):it ∈ B ∧ it.isSrt = k:=(List.mem_filter.mp h).imp_right eq_of_beq
theorem selP_small {k:Bool} (h:∀ it ∈ B,it.ok):((selP k B).all λ e=>smallD e.2) = true:=List.all_eq_true.mpr λ e he=>by
 obtain ⟨i,hi,rfl⟩:=List.mem_map.mp he
 exact (h i (sel_mem hi).1).2
theorem vis_ok {it:Itm} {v:PV} (h:it.ok) (e:it.vis = some v):smallD v = true:=by
 cases it with
 | srt=>cases e
 | fn n e' f as r hs bb=>
  have hr:=row_ok h.2
  by_cases z:bb = 0
  ·cases (show some _ = some v from (if_pos z).symm.trans e)
   exact smallD_of (k:=60) (okD_tup (k:=59) (and_t (okD_mono (okD_str h.1) (by decide)) (and_t (okD_mono okD_int (by decide)) (and_t (hr as (.tail _ (.head _))) (and_t (okD_mono okD_int (by decide)) rfl))))) (by decide)
  ·cases (show none = some v from (if_neg z).symm.trans e)
theorem viP_small (h:∀ it ∈ B,it.ok):(viP B).all smallD = true:=List.all_eq_true.mpr λ e he=>by
 obtain ⟨i,hi,hv⟩:=List.mem_filterMap.mp he
 exact vis_ok (h i hi) hv
theorem sel_len {k:Bool}:(sel k B).length ≤ B.length:=List.length_filter_le ..
theorem New.of {n m:Nat} {x:Cell} (N1:New (g.addI n x) m) (N:New g n):New g m:=⟨by
 cases e:g.I m with
 | none=>rfl
 | some y=>exact absurd rfl (N1.ne ((Kp.addI (p:=λ zz=>true) N.i).i _ _ e)),N1.a⟩
theorem g_fgt1 {m:Cfg} {n u:Nat} {x y:Cell} (N:New g n) (q:WG m I (g.addI u y) P):WG m I ((g.addI n x).addI u y) P:=λ c s=>by
 have h:∀ i z,(g.addI u y).I i = some z → ((g.addI n x).addI u y).I i = some z:=λ i z e=>by
  by_cases hi:i = u
  ·subst hi; exact addI_self.trans (addI_self.symm.trans e)
  ·rw [addI_ne hi] at e
   exact (addI_ne hi).trans ((addI_ne (N.ne e)).trans e)
 exact q c ⟨s.inj,s.mt,λ i z e=>s.frz i z (h i z e),λ i r z e=>s.apt i r z (h i z e)⟩
theorem g_dlist {n:Nat} {f:Itm → PV} {L:List Itm} {k:List Ins} {st:List SV} {l:Lc} (nd:(L.map Itm.name).Nodup) (hl:L.length ≤ 190) (N:New g n) (q:∀ m,New g m → WG (adv k (.v (.ref m) :: st) l I) I (g.addI m (.dict (L.map λ it=>(.s it.name,f it)))) P) :
  WG ⟨.call :: k,.l [.ref n] :: .v (.val (.type "dict")) :: st,l⟩ I (g.addI n (.list (L.map λ it=>.tup [.str it.name,f it]))) P:=
 g_dictL (ga_i addI_self) (pairs_map _) (map_lim hl) al_i λ m N1=>g_fgt1 N (by rw [putAll_nd nd]; exact q m (N1.of N))
noncomputable def bodyOf:Itm → Bool
 | .srt ..=>false
 | .fn _ _ _ _ _ _ bb=>!(bb == 0)
theorem itm_D {k:Bool}:((selD k B).map λ e=>PV.tup [keyPV e.1,e.2]) = (sel k B).map λ it=>.tup [.str it.name,.ref it.e]:=by unfold selD; rw [List.map_map]; rfl
theorem itm_P {k:Bool}:((selP k B).map λ e=>PV.tup [keyPV e.1,e.2]) = (sel k B).map λ it=>.tup [.str it.name,it.row]:=by unfold selP; rw [List.map_map]; rfl
theorem its_D {a:Nat} {k:Bool} (h:Ga g a (.dict (selD k B))):Its g (.items a) ((sel k B).map λ it=>.tup [.str it.name,.ref it.e]):=itm_D ▸ its_i h selD_allS
theorem its_P {a:Nat} {k:Bool} (h:Ga g a (.dict (selP k B))):Its g (.items a) ((sel k B).map λ it=>.tup [.str it.name,it.row]):=itm_P ▸ its_i h selP_allS
theorem mth_vis:mthOf 479 "visible" = some 455:=by kernel_rfl
theorem mth_depth:mthOf 479 "depth" = some 380:=by kernel_rfl
theorem mth_bound:mthOf 479 "bound" = some 476:=by kernel_rfl
theorem Has.nil {l:Locs}:Has [] l:=λ zz zz h=>nomatch h
theorem Has.cons {fs l:Locs} {x:Str} {v:PV} (e:l.lookup x = some v) (h:Has fs l):Has ((x,v) :: fs) l:=λ y u q=>by
 by_cases z:y = x
 ·subst z; rw [lk_hd] at q; cases q; exact e
 ·exact h y u ((lk_tl (beq_false_of_ne z) rfl).symm.trans q)
noncomputable def StI (_i:Nat) (l:Locs):Prop:=Has [("symbols",.ref 16),("world",.ref 24)] l
noncomputable def StJ (n:Str) (D:Nat → Int) (j:Nat) (l:Locs):Prop:=Has [("symbols",.ref 16),("world",.ref 24)] l ∧ LL l "name" (.str n) ∧ LL l "due" (.int (D j))
theorem dueR_take {rows:List (Str × Int)} {k:Nat} {p:Str × Int} {n:Str} {d:Int} (h:rows[k]? = some p):dueR (rows.take (k + 1)) n d = if p.1 = n then p.2 else dueR (rows.take k) n d:=by
 rw [List.take_succ,h]; unfold dueR; rw [List.foldl_append]; rfl
theorem due_take {j:Nat} {w:Bnd} {n:Str} (h:bd[j]? = some w):due (bd.take (j + 1)) n = dueR w.1 n (due (bd.take j) n):=by
 rw [List.take_succ,h]; exact due_snoc
theorem srt_inv {it:Itm} {X:Prop} (h:it.isSrt = true) (q:∀ n e num ps b,it = .srt n e num ps b → X):X:=by
 cases it with
 | srt n e num ps b=>exact q _ _ _ _ _ rfl
 | fn=>cases h
theorem fn_inv {it:Itm} {X:Prop} (h:it.isSrt = false) (q:∀ n e f as r hs b,it = .fn n e f as r hs b → X):X:=by
 cases it with
 | fn n e f as r hs b=>exact q _ _ _ _ _ _ _ rfl
 | srt=>cases h
theorem stands_sp (W:Wo B scs bd mks ns nf b g) (q:Q (.bool true) g):Cg (callF tbl (d + 3)) false (.val (.ref 553)) [.ref 24] g Q E:=by
 have sy:=W.sy
 refine W.wo.last λ ps d1 d2 v pe pl la e1 e2 e3=>?_
 have hps:ps.length ≤ lim:=pl ▸ Nat.le_trans (Nat.succ_le_succ W.z1) (by decide)
 have hs:∀ k,(sel k B).length ≤ 190:=λ k=>Nat.le_trans sel_len W.z1
 have hs9:∀ k,Nat.ble (sel k B).length 199 = true:=λ k=>Nat.ble_eq_true_of_le (Nat.le_trans (hs k) (by decide))
 have h1:=W.wo.self
 have y1:=sy.self
 have y2:Ga g (g.A .so) _:=ga_X sy.so
 refine cg_fn (λ c=>o553 ..) λ m=>?_
 repeat walk_at "g"
 refine g_itL (ga_X pe) (tupAt_last hps la) ?_
 repeat walk_at "g"
 refine g_mdict y2 (by decide +kernel) ?_
 repeat walk_at "g"
 refine g_items y2 selD_allS ?_
 repeat walk_at "g"
 refine g_comp0 (sel true B) (λ it=>.tup [.str it.name,.ref it.e]) (λ it=>.tup [.str it.name,it.row]) (itr_i y2 selD_allS) rfl (hs9 _) (its_D y2) (λ l it hm P hP=>?_) λ n N=>?_
 ·have hm:=sel_mem hm
  have ke:=ga_i (sy.ents it hm.1)
  have hr:=(sy.ok it hm.1).2
  refine srt_inv hm.2 λ nm e num ps bb e1=>?_
  subst e1
  have hr:=row_ok hr
  repeat walk_at "g"
  refine g_ga ke (by kernel_rfl) rfl (isV_data (hr ps (.tail _ (.head _)))) ?_
  repeat walk_at "g"
  refine g_ga ke (by kernel_rfl) rfl (isV_data (hr bb (.tail _ (.tail _ (.head _))))) ?_
  exact g_is (g_ret (hP _))
 repeat walk_at "g"
 refine g_dlist (sy.nd true) (hs _) N λ n1 N1=>?_
 have K1:Kp (λ zz=>true) g (g.addI n1 (.dict (selP true B))):=Kp.addI N1.i
 have i1:(g.addI n1 (.dict (selP true B))).I n1 = _:=addI_self
 have y1:Ga (g.addI n1 (.dict (selP true B))) 16 _:=(sy.kp K1 rfl).self
 have y3:Ga (g.addI n1 (.dict (selP true B))) (g.A .fu) _:=ga_X (r:=.fu) sy.fu
 repeat walk_at "g"
 refine g_mdict y3 (by decide +kernel) ?_
 repeat walk_at "g"
 refine g_items y3 selD_allS ?_
 repeat walk_at "g"
 refine g_comp0 (sel false B) (λ it=>.tup [.str it.name,.ref it.e]) (λ it=>.tup [.str it.name,it.row]) (itr_i y3 selD_allS) rfl (hs9 _) (its_D y3) (λ l it hm P hP=>?_) λ n N=>?_
 ·have hm:=sel_mem hm
  have ke:=ga_i (K1.i _ _ (sy.ents it hm.1))
  have hr:=(sy.ok it hm.1).2
  refine fn_inv hm.2 λ nm e f as r hs bb e1=>?_
  subst e1
  have hr:=row_ok hr
  repeat walk_at "g"
  refine g_ga ke (by kernel_rfl) rfl (isV_data (hr as (.tail _ (.head _)))) ?_
  repeat walk_at "g"
  refine g_ga ke (by kernel_rfl) rfl (isV_data (hr hs (.tail _ (.tail _ (.tail _ (.head _)))))) ?_
  repeat walk_at "g"
  exact g_ret (hP _)
 repeat walk_at "g"
 refine g_dlist (sy.nd false) (hs _) N λ n2 N2=>?_
 have K2:=K1.trans (Kp.addI (x:=.dict (selP false B)) N2.i)
 have i1:=addI_of (x:=.dict (selP false B)) i1 N2.i
 have i2:((g.addI n1 (.dict (selP true B))).addI n2 (.dict (selP false B))).I n2 = _:=addI_self
 have y1:Ga ((g.addI n1 (.dict (selP true B))).addI n2 (.dict (selP false B))) 16 _:=(sy.kp K2 rfl).self
 repeat walk_at "g"
 refine g_itT (v:=.ref d1) rfl ?_
 refine g_is (g_ne (λ c s=>eqV_dict (s.frz _ _ i1) (s.frz _ _ (K2.i _ _ e1)) (N1.ne e1).symm selP_allS (selP_small sy.ok)) (g_is (g_bopF rfl ?_)))
 repeat walk_at "g"
 refine g_itT (v:=.ref d2) rfl ?_
 refine g_is (g_ne (λ c s=>eqV_dict (s.frz _ _ i2) (s.frz _ _ (K2.i _ _ e2)) (N2.ne (K1.i _ _ e2)).symm selP_allS (selP_small sy.ok)) (g_is (g_bopF rfl ?_)))
 repeat walk_at "g"
 refine g_mi y1 mth_vis rfl ?_
 repeat walk_at "g"
 refine vis_sp (sy.kp K2 rfl) W.z1 λ n3 N3=>?_
 repeat walk_at "g"
 refine g_itT (v:=.ref v) rfl ?_
 refine g_is (g_ne (λ c s=>eqV_list (s.frz _ _ addI_self) (s.frz _ _ ((Kp.addI (p:=λ zz=>true) N3.i).i _ _ (K2.i _ _ e3))) (viP_small sy.ok)) (g_is (g_bopF rfl ?_)))
 refine g_is (g_ite (t:=false) (λ q=>nomatch q) λ zz=>g_fgt N3 (g_fgt N2 (g_fgt N1 ?_)))
 clear N3 N2 N1 K1 K2 i1 i2 y1 y3
 have y3:Ga g (g.A .fu) _:=ga_X sy.fu
 repeat walk_at "g"
 refine g_comp0 (sel false B) (λ it=>.tup [.str it.name,.ref it.e]) (λ it=>.bool (bodyOf it)) (itr_i y3 selD_allS) rfl (hs9 _) (its_D y3) (λ l it hm P hP=>?_) λ n3 N3=>?_
 ·have hm:=sel_mem hm
  have ke:=sy.ents it hm.1
  refine fn_inv hm.2 λ nm e f as r hs bb e1=>?_
  subst e1
  repeat walk_at "g"
  refine g_mi (ga_i ke) mth_isdef rfl ?_
  repeat walk_at "g"
  exact isdef_sp ke (g_is (g_ret (hP _)))
 have K3:Kp (λ zz=>true) g (g.addI n3 (.list ((sel false B).map λ it=>.bool (bodyOf it)))):=Kp.addI N3.i
 have i3:(g.addI n3 (.list ((sel false B).map λ it=>.bool (bodyOf it)))).I n3 = _:=addI_self
 have q2:=ga_i (K3.i _ _ e2)
 repeat walk_at "g"
 refine g_itT (v:=.ref d2) rfl ?_
 repeat walk_at "g"
 refine g_mdict q2 (by decide +kernel) ?_
 repeat walk_at "g"
 refine g_items q2 selP_allS ?_
 repeat walk_at "g"
 refine g_comp0 (sel false B) (λ it=>.tup [.str it.name,it.row]) (λ it=>.bool (bodyOf it)) (itr_i q2 selP_allS) rfl (hs9 _) (its_P q2) (λ l it hm P hP=>?_) λ n4 N4=>?_
 ·refine fn_inv (sel_mem hm).2 λ nm e f as r hs bb e1=>?_
  subst e1
  repeat walk_at "g"
  refine g_itT (v:=.int bb) rfl ?_
  repeat walk_at "g"
  exact g_ret (hP _)
 refine g_is (g_ne (λ c s=>eqV_list (s.frz _ _ (addI_of i3 N4.i)) (s.frz _ _ addI_self) bools_small) (g_is (g_ite (t:=false) (λ q=>nomatch q) λ zz=>g_fgt N4 (g_fgt N3 ?_))))
 clear N3 N4 K3 i3 q2
 have y1:=sy.self
 have h3:=W.wo.wsc
 have hl3:=nats_lim (z_le W.z.z2)
 repeat walk_at "g"
 refine g_mi y1 mth_depth rfl ?_
 repeat walk_at "g"
 refine depth_sp sy (z_le W.z.z2) ?_
 repeat walk_at "g"
 rw [nats_len,beq_self_eq_true]
 refine g_bopF rfl ?_
 repeat walk_at "g"
 refine g_mi y1 mth_mark rfl ?_
 repeat walk_at "g"
 refine mark_sp sy W.z1 ?_
 repeat walk_at "g"
 rw [pl,show ((B.length + 1:Nat):Int) - 1 = (B.length:Int) from Int.add_sub_cancel (B.length:Int) 1,beq_self_eq_true]
 refine g_bopF rfl ?_
 refine g_is (g_ite (t:=false) (λ q=>nomatch q) λ zz=>?_)
 repeat walk_at "g"
 refine g_for0 poolL (λ x=>x) StI itr_k rfl (by decide +kernel) (by rw [List.map_id']; exact its_f (by decide +kernel)) (λ i l z hz hI=>?_) (Has.cons (by walk_at "lk") (Has.cons (by walk_at "lk") Has.nil)) λ l hI=>?_
 ·refine pool_str (List.mem_of_getElem? hz) λ n e hn=>?_
  subst e
  have hI:Has _ l:=hI
  have h4:=W.wo.wbd
  have hnok:=smallD_str (pool_ok hn).2.1
  repeat walk_at "g"
  refine g_for0 bd (λ x=>.ref x.2.2) (StJ n λ j=>due (bd.take j) n) (itr_l (ga_X h4)) rfl (Nat.ble_eq_true_of_le (Nat.le_trans (z_le W.z.z3) (by decide))) (its_l (ga_X h4) (map_lim (z_le W.z.z3))) (λ j l w hw hJ=>?_) ⟨(hI.put rfl).put rfl,by walk_at "lk",(show LL _ "due" (.int 0) from by walk_at "lk")⟩ λ l hJ=>?_
  ·have hm:=List.mem_of_getElem? hw
   have hr:=ga_i (W.wo.rows w hm)
   have hrl:=W.wo.rlen w hm
   have l0:=hJ.1
   have l1:=hJ.2.1
   have l2:=hJ.2.2
   repeat walk_at "g"
   refine g_for0 w.1 (λ p=>.tup [.str p.1,.int p.2]) (StJ n λ k=>dueR (w.1.take k) n (due (bd.take j) n)) (itr_l hr) rfl (Nat.ble_eq_true_of_le (Nat.le_trans hrl (by decide))) (its_l hr (map_lim (Nat.le_trans hrl (by decide)))) (λ k l pr hpr hK=>?_) ⟨l0.put rfl,by walk_at "lk",(show LL _ "due" (.int (due (bd.take j) n)) from by walk_at "lk")⟩ λ l hK=>?_
   ·have hpk:=smallD_str (W.wo.rok w hm pr (List.mem_of_getElem? hpr))
    have hd:=dueR_take (n:=n) (d:=due (bd.take j) n) hpr
    have l0:=hK.1
    have l1:=hK.2.1
    have l2:=hK.2.2
    repeat walk_at "g"
    refine g_eq (λ c zz=>eqV_d rfl hpk hnok) ?_
    rw [eqD_str]
    refine g_is (g_ife (λ hb=>?_) λ hb=>?_)
    ·rw [if_pos (eq_of_beq hb)] at hd
     repeat walk_at "g"
     exact g_end ⟨rfl,((l0.put rfl).put rfl).put rfl,by walk_at "lk",(show LL _ "due" (.int (dueR (w.1.take (k + 1)) n (due (bd.take j) n))) from by rw [hd]; exact lk_put)⟩
    ·rw [if_neg (beq_eq_false_iff_ne.mp hb)] at hd
     repeat walk_at "g"
     exact g_end ⟨rfl,((l0.put rfl).put rfl).put rfl,by walk_at "lk",(show LL _ "due" (.int (dueR (w.1.take (k + 1)) n (due (bd.take j) n))) from by rw [hd]; exact lk_put)⟩
   ·have hd:=due_take (n:=n) hw
    have l2:LL l "due" (.int (dueR (w.1.take w.1.length) n (due (bd.take j) n))):=hK.2.2
    rw [List.take_length,← hd] at l2
    exact g_end ⟨rfl,hK.1,hK.2.1,l2⟩
  ·have l0:=hJ.1
   have l1:=hJ.2.1
   have l2:LL l "due" (.int (due (bd.take bd.length) n)):=hJ.2.2
   rw [List.take_length] at l2
   repeat walk_at "g"
   refine g_mi y1 mth_bound rfl ?_
   repeat walk_at "g"
   refine bound_sp sy (z_le W.z.z3) ?_
   repeat walk_at "g"
   rw [beq_self_eq_true]
   refine g_ite (t:=false) (λ q=>nomatch q) λ zz=>?_
   exact g_end ⟨rfl,l0⟩
 ·repeat walk_at "g"
  exact g_ret q
end
end Mine
end
section
open PySem
set_option backward.match.sparseCases false
namespace Mine
noncomputable def seqF:List F → F → F
 | [],r=>r
 | s :: t,r=>.sq s (seqF t r)
noncomputable def takeF:Nat → F → List F
 | 0,_=>[]
 | n + 1,f=>match f with
  | .sq s r=>s :: takeF n r
  | _=>[]
section
variable {E:Cells → Prop} {I:In} {Q:Flw → Cells → Locs → Prop} {c c':Cells} {l l':Locs}
theorem sq_ok {s r:F} (h:wpC (compF s []) [] I c l ⟨λ c l=>Wp (denF r I) c l Q E,λ v c l=>Q (.ret v) c l,E⟩):Wp (denF (.sq s r) I) c l Q E:=wp_bnd (wp_to (compF_ok s h) λ w c l h=>wp_fon h)
theorem seq_run:∀ {ss:List F} {r:F} {c:Cells} {l:Locs},denF (seqF ss .done) I c l = .ok .nxt c' l' → Wp (denF r I) c' l' Q E → Wp (denF (seqF ss r) I) c l Q E
 | [],r,c,l,e,h=>by cases e; exact h
 | s :: t,r,c,l,e,h=>by
  have e:bnd (denF s I) (onFlw (denF (seqF t .done) I)) c l = R.ok Flw.nxt c' l':=e
  unfold bnd at e
  refine wp_bnd ⟨?_⟩
  cases e1:denF s I c l with
  | ok w c2 l2=>
   rw [e1] at e
   cases w with
   | nxt=>exact seq_run (ss:=t) e h
   | ret v=>cases e
  | exc c2=>rw [e1] at e; cases e
  | fail=>rw [e1] at e; cases e
end
@[irreducible] noncomputable def cells33 (X Y Z:List PV) (S:Int):Cells:=[
 .list X,.list Y,.list Z,.dict [(.s "cells",.ref 1),(.s "at",.int 0),(.s "sum",.int S)],
 .inst 297 [("sort_names",.ref 5),("sort_widths",.ref 6),("fun_names",.ref 7),("fun_args",.ref 8),("fun_results",.ref 9),("fresh_count",.int 0),("term_ops",.ref 10),("term_args",.ref 11),("term_sorts",.ref 12),("term_datas",.ref 13),("numbers",.ref 14),("true_number",.int 1),("false_number",.int 2)],
 .list [.str "Bool",.str "Int",.str "Real"],.list [.int 0,.int 0,.int 0],.list [.str "c",.str "d",.str "e"],.list [.tup [],.tup [],.tup []],.list [.int 0,.int 1,.int 2],
 .list [.str "",.str "true",.str "false",.str "app",.str "app",.str "app"],.list [.tup [],.tup [],.tup [],.tup [],.tup [],.tup []],.list [.int 0,.int 0,.int 0,.int 0,.int 1,.int 2],.list [.int 0,.int 0,.int 0,.int 0,.int 1,.int 2],
 .dict [(.t "true" 0 0,.int 1),(.t "false" 0 0,.int 2),(.t "app" 0 0,.int 3),(.t "app" 1 1,.int 4),(.t "app" 2 2,.int 5)],
 .list [.int 3,.int 4,.int 5,.int 1],
 .inst 479 [("bank",.ref 4),("sorts",.ref 17),("functions",.ref 18),("brought",.ref 19),("scopes",.ref 20),("lets",.ref 21),("numeral_sort",.int 1)],
 .dict [],.dict [],.list [],.list [],.list [],.list [.int 0,.int 1,.int 2,.int 0],.dict [(.i 3,.int 0),(.i 4,.int 1),(.i 5,.int 2),(.i 1,.int 0)],
 .dict [(.s "bank",.ref 4),(.s "symbols",.ref 16),(.s "terms",.ref 15),(.s "kinds",.ref 23),(.s "pictures",.ref 28),(.s "scopes",.ref 29),(.s "marks",.ref 30),(.s "bound",.ref 31),(.s "sorts",.int 3),(.s "functions",.int 3)],
 .dict [],.dict [],.list [],.list [.tup [.ref 25,.ref 26,.ref 27]],.list [],.list [],.list [],
 .dict [(.s "pictures",.ref 28),(.s "scopes",.ref 29),(.s "marks",.ref 30),(.s "bound",.ref 31),(.s "sorts",.int 3),(.s "functions",.int 3)]]
theorem pre4_ok (d n:Nat) (X Y Z:List PV) (S:Int) (s:PV):denF (seqF (takeF 4 (dropF 2 P558)) .done) (fnI (d + 5) false n) [.list X,.list Y,.list Z,.dict [(.s "cells",.ref 1),(.s "at",.int 0),(.s "sum",.int S)]] [("script",s),("cells",.ref 1),("feed",.ref 3)] = .ok .nxt (cells33 X Y Z S) [("script",s),("cells",.ref 1),("feed",.ref 3),("bank",.ref 4),("terms_now",.ref 15),("world",.ref 24)]:=by kernel_rfl
noncomputable def A33:Rl → Nat
 | .feed=>3 | .world=>24 | .syms=>16 | .sn=>5 | .sw=>6 | .fn=>7 | .fa=>8 | .fr=>9 | .marks=>30 | .pics=>28 | .wsc=>29 | .wbd=>31 | .so=>17 | .fu=>18 | .br=>19 | .sc=>20 | .le=>21
noncomputable def inv33 (i:Nat):Rl:=(rls.find? λ r=>A33 r == i).getD .le
theorem inv33_A:∀ r,inv33 (A33 r) = r:=λ r=>eq_of_beq (List.all_eq_true.mp (show (rls.all λ r=>inv33 (A33 r) == r) = true from by decide +kernel) r (rls_all r))
noncomputable def isI33 (i:Nat):Bool:=i == 1 || i == 4 || i == 12 || i == 15 || i == 23 || i == 25 || i == 26 || i == 27
theorem nI33 (r:Rl):isI33 (A33 r) = false:=eq_of_beq (List.all_eq_true.mp (show (rls.all λ r=>isI33 (A33 r) == false) = true from by decide +kernel) r (rls_all r))
theorem lt33 (r:Rl):A33 r < 33:=of_decide_eq_true (List.all_eq_true.mp (show (rls.all λ r=>decide (A33 r < 33)) = true from by decide +kernel) r (rls_all r))
noncomputable def g33 (c:Cells):Gh:=⟨A33,λ r=>c[A33 r]?.getD (.list []),λ i=>if isI33 i then c[i]? else none⟩
theorem st33 {c:Cells} (h:33 ≤ c.length):St (g33 c) c:=by
 refine ⟨λ r s h=>?_,λ r=>?_,λ i x e=>?_,λ i r x e q=>?_⟩
 ·rw [← inv33_A r,← inv33_A s,show A33 r = A33 s from h]
 ·have:=List.getElem?_eq_getElem (Nat.lt_of_lt_of_le (lt33 r) h)
  show c[A33 r]? = some (c[A33 r]?.getD _)
  rw [this]; rfl
 ·have e':(if isI33 i then c[i]? else none) = some x:=e
  split at e'
  ·exact e'
  ·cases e'
 ·have e':(if isI33 i then c[i]? else none) = some x:=e
  rw [← show A33 r = i from q,nI33] at e'
  cases e'
theorem all4 {α:Type} {p:α → Prop} {a b c d:α} (ha:p a) (hb:p b) (hc:p c) (hd:p d) (x:α) (hx:x ∈ [a,b,c,d]):p x:=by
 rcases List.mem_cons.mp hx with rfl | hx
 ·exact ha
 rcases List.mem_cons.mp hx with rfl | hx
 ·exact hb
 rcases List.mem_cons.mp hx with rfl | hx
 ·exact hc
 ·exact List.mem_singleton.mp hx ▸ hd
theorem wo33 {cs:List Int} {X Z:List PV} {S:Int} (hl:cs.length ≤ 40) (h0:0 ≤ S) (h1:S ≤ 1000000):Wo [] [] [] [] 3 3 150 (g33 (cells33 X (cs.map PV.int) Z S)) where
 fe:=⟨0,S,cs,by kernel_rfl,by kernel_rfl,by kernel_rfl,hl,h0,h1,by decide⟩
 sy:=⟨by kernel_rfl,by kernel_rfl,by kernel_rfl,by kernel_rfl,by kernel_rfl,by kernel_rfl,by kernel_rfl,(λ i hi=>nomatch hi),(λ i hi=>nomatch hi),(λ k=>List.nodup_nil),(λ i hi=>nomatch hi)⟩
 wo:=⟨by kernel_rfl,by kernel_rfl,by kernel_rfl,by kernel_rfl,by kernel_rfl,by kernel_rfl,(λ i hi=>nomatch hi),(λ i hi=>nomatch hi),(λ i hi=>nomatch hi),λ X c=>c [.tup [.ref 25,.ref 26,.ref 27]] (by kernel_rfl) rfl λ k x e=>by
  cases k with
  | zero=>cases e; exact λ X c=>c 25 26 27 rfl (by kernel_rfl) (by kernel_rfl) (by kernel_rfl)
  | succ k=>cases e⟩
 ba:=⟨rl_B (by kernel_rfl) (by kernel_rfl) (by kernel_rfl) (by kernel_rfl) (by kernel_rfl),rl_B (λ X c=>c [.str "Bool",.str "Int",.str "Real"] (by kernel_rfl) rfl) (λ X c=>c [.int 0,.int 0,.int 0] (by kernel_rfl) rfl) (λ X c=>c [.str "c",.str "d",.str "e"] (by kernel_rfl) rfl) (λ X c=>c [.tup [],.tup [],.tup []] (by kernel_rfl) rfl) (λ X c=>c [.int 0,.int 1,.int 2] (by kernel_rfl) rfl),
  λ i x m=>all4 (p:=λ q:Nat × Cell=>(g33 (cells33 X (cs.map PV.int) Z S)).I q.1 = some q.2) (by kernel_rfl) (by kernel_rfl) (by kernel_rfl) (by kernel_rfl) (i,x) m⟩
 z:=⟨by decide,by decide,by decide,by decide,by decide,by decide,(λ i hi=>nomatch hi),(λ i hi=>nomatch hi)⟩
end Mine
end
section
open PySem
set_option backward.match.sparseCases false
namespace Mine
theorem allInts_map:∀ l:List Int,allInts (l.map PV.int) = some l
 | []=>rfl
 | x :: r=>by
  show (allInts (r.map PV.int)).map (x :: ·) = _
  rw [allInts_map r]; rfl
theorem sum_bd:∀ l:List Int,(∀ x ∈ l,0 ≤ x ∧ x < 1009) → 0 ≤ l.sum ∧ l.sum ≤ 1009 * (l.length:Int)
 | [],_=>⟨Int.le_refl _,Int.le_refl _⟩
 | x :: r,h=>by
  have h1:=h x List.mem_cons_self
  have h2:=sum_bd r λ y hy=>h y (List.mem_cons_of_mem _ hy)
  rw [List.sum_cons,List.length_cons]
  exact ⟨Int.add_nonneg h1.1 h2.1,by lia⟩
noncomputable def forB:F → F
 | .sq (.for _ _ _ b) _=>b
 | f=>f
section
variable {d:Nat} {g:Gh} {P:PG} {n i:Nat} {l:Locs}
noncomputable def LawI (N i:Nat) (g:Gh) (l:Locs):Prop:=∀ X:Prop,(∀ B scs bd mks ns nf r,r + i = N → Wo B scs bd mks ns nf (11 * r) g → Has [("feed",.ref 3),("world",.ref 24)] l → X) → X
theorem turn_end {B:List Itm} {scs mks:List Nat} {bd:List Bnd} {ns nf b:Nat} {I:In} (hI:I = fnI (d + 5) false n) (W:Wo B scs bd mks ns nf b g) (h:Has [("feed",.ref 3),("world",.ref 24)] l) (hr:LL l "is_right" (.bool true)) (q:P.N g l):WG (adv (compF (dropF 2 (forB (dropF 6 P558))) []) [] (.s l) I) I g P:=by
 subst hI
 repeat walk_at "g"
 refine g_bopF rfl ?_
 repeat walk_at "g"
 refine stands_sp W ?_
 repeat walk_at "g"
 refine g_bopF rfl ?_
 refine g_is (g_ite (t:=false) (λ q=>nomatch q) λ zz=>?_)
 exact g_end q
theorem turn_ok {N r:Nat} {B:List Itm} {scs mks:List Nat} {bd:List Bnd} {ns nf:Nat} {I:In} (hI:I = fnI (d + 5) false n) (hr:r + (i + 1) = N) (W:Wo B scs bd mks ns nf (11 * r + 11) g) (h:Has [("feed",.ref 3),("world",.ref 24)] l) (q:∀ g l,LawI N (i + 1) g l → P.N g l):WG (adv (compF (forB (dropF 6 P558)) []) [] (.s l) I) I g P:=by
 subst hI
 have fin:∀ {B':List Itm} {scs' mks':List Nat} {bd':List Bnd} {ns' nf':Nat} {g':Gh} {l':Locs},Wo B' scs' bd' mks' ns' nf' (11 * r) g' → Has [("feed",.ref 3),("world",.ref 24)] l' → P.N g' l':=λ W' h'=>q _ _ λ X c=>c _ _ _ _ _ _ r hr W' h'
 repeat walk_at "g"
 refine draw_sp (b:=11 * r + 10) W.fe (by decide) (by decide) λ w g2 w1 w2 f2 K2=>?_
 have W2:=W.fed f2 K2 (Nat.le_succ _)
 repeat walk_at "g"
 refine g_ite (λ zz=>?_) λ zz=>?_
 ·repeat walk_at "g"
  refine sort_deed (b:=11 * r) (W2.less (Nat.le_add_right _ 2)) λ B' ns' g' W'=>?_
  exact g_is (turn_end rfl W' ((h.put rfl).put rfl) lk_put (fin W' ((h.put rfl).put rfl)))
 ·repeat walk_at "g"
  refine g_ite (λ zz=>?_) λ zz=>?_
  ·repeat walk_at "g"
   refine fun_deed (b:=11 * r) W2 λ B' nf' g' W'=>?_
   exact g_is (turn_end rfl W' ((h.put rfl).put rfl) lk_put (fin W' ((h.put rfl).put rfl)))
  ·repeat walk_at "g"
   refine g_ife (λ zz=>?_) λ zz=>?_
   ·repeat walk_at "g"
    refine scope_deed (b:=11 * r) (W2.less (Nat.le_add_right _ 6)) λ B' scs' mks' g' W'=>?_
    exact g_is (turn_end rfl W' ((h.put rfl).put rfl) lk_put (fin W' ((h.put rfl).put rfl)))
   ·repeat walk_at "g"
    refine bind_deed (b:=11 * r) W2 λ B' scs' bd' g' W'=>?_
    exact g_is (turn_end rfl W' ((h.put rfl).put rfl) lk_put (fin W' ((h.put rfl).put rfl)))
noncomputable def LawJ (n:Nat) (g:Gh) (l:Locs):Prop:=∀ X:Prop,(∀ B scs bd mks ns nf,scs.length = n → Wo B scs bd mks ns nf 0 g → Has [("feed",.ref 3),("world",.ref 24)] l → X) → X
theorem law_rest {I:In} (hI:I = fnI (d + 5) false n) {B:List Itm} {scs mks:List Nat} {bd:List Bnd} {ns nf:Nat} (W:Wo B scs bd mks ns nf 150 g) (h:Has [("feed",.ref 3),("world",.ref 24)] l) (q:∀ g l,P.R (.bool true) g l):WG (adv (compF (dropF 6 P558) []) [] (.s l) I) I g P:=by
 subst hI
 repeat walk_at "g"
 refine draw_sp (b:=149) W.fe (by decide) (by decide) λ v g1 v1 v2 f1 K1=>?_
 have W1:=W.fed f1 K1 (Nat.le_succ _)
 have w1:0 ≤ 6 + v:=Int.add_nonneg (by decide) v1
 have w2:6 + v < ((13:Nat):Int):=Int.add_lt_add_left v2 6
 have sv:=sm_v w1 w2 (by decide)
 have hl:=rngUp_len w1 w2
 repeat walk_at "g"
 refine g_rng1 sv ?_
 repeat walk_at "g"
 refine g_for (itr_r (by decide) sv (.inl rfl)) rfl (rngUp (6 + v)) (Nat.ble_eq_true_of_le (Nat.le_trans (Nat.le_of_lt hl) (by decide))) (LawI (rngUp (6 + v)).length) (λ zz zz zz zz=>its_u) (λ i g l x hx hI=>?_)
  (λ X c=>c _ _ _ _ _ _ _ rfl (W1.less (Nat.le_trans (Nat.mul_le_mul_left 11 (Nat.le_of_lt_succ hl)) (by decide))) h) λ g l hI=>?_
 ·refine hI _ λ B scs bd mks ns nf r hr W h=>?_
  have hi:=(List.getElem?_eq_some_iff.mp hx).1
  cases r with
  | zero=>exact absurd hi (by rw [← hr,Nat.zero_add]; exact Nat.lt_irrefl _)
  | succ r=>
   exact turn_ok (N:=(rngUp (6 + v)).length) (i:=i) (r:=r) rfl (by rw [← hr]; exact (Nat.succ_add_eq_add_succ r i).symm) W (h.put rfl) λ g l h=>h
 ·refine hI _ λ B scs bd mks ns nf r hr W h=>?_
  refine g_is (g_whl LawJ ?_ scs.length (Nat.lt_of_le_of_lt (z_le W.z.z2) (by decide)) λ X c=>c _ _ _ _ _ _ rfl (W.less (Nat.zero_le _)) h)
  intro k g l A A' hA hA' hJ
  refine hJ _ λ B scs bd mks ns nf hk W h=>?_
  have h1:=W.wo.self
  repeat walk_at "g"
  refine g_lst rfl al_i λ u N=>?_
  repeat walk_at "g"
  refine g_ne (λ c s=>eq_nil (ga_X (g:=g.addI u _) (r:=.wsc) W.wo.wsc c s) (ga_i addI_self c s)) (g_fgt N (g_is (g_tst (λ ht=>?_) λ zz=>?_)))
  ·cases scs with
   | nil=>cases ht
   | cons x r=>
    refine snocE (l:=x :: r) (Nat.succ_pos _) λ scs' k' e=>?_
    rw [e] at W hk
    have hk:scs'.length < k:=by rw [← hk,List.length_append]; exact Nat.lt_succ_self _
    refine hA scs'.length _ _ hk ?_
    repeat walk_at "g"
    refine close_sp W (h _ _ rfl) λ B' g' W'=>?_
    repeat walk_at "g"
    refine stands_sp W' ?_
    refine g_is (g_ite (t:=false) (λ q=>nomatch q) λ zz=>?_)
    exact g_end λ X c=>c _ _ _ _ _ _ rfl W' h
  ·refine hA' _ _ ?_
   have h0:=W.sy.self
   repeat walk_at "g"
   refine g_mi h0 mth_roll rfl ?_
   repeat walk_at "g"
   refine roll_sp (m:=0) W.sy W.z1 λ g3 sy3 K3=>?_
   repeat walk_at "g"
   refine back_sp (k:=0) (W.wo.kp K3 rfl) W.z1 (Nat.zero_le _) λ g4 w4 K4=>?_
   repeat walk_at "g"
   refine stands_sp ⟨(W.fe.kp K3 rfl).kp K4 rfl,sy3.kp K4 rfl,w4,(W.ba.kp K3 rfl).kp K4 rfl,W.z.z1 |> λ zz=>⟨Nat.zero_le _,W.z.z2,W.z.z3,W.z.z4,W.z.z5,W.z.z6,W.z.z7,W.z.z8⟩⟩ ?_
   exact g_is (g_ret (q _ _))
theorem e_ok {e:G .e} {I:In} {c:Cells} {l:Locs} {Q:PV → Cells → Locs → Prop} {E:Cells → Prop} (h:wpC (comp e [.ret]) [] I c l ⟨λ zz zz=>False,Q,E⟩):Wp (den e I ()) c l Q E:=wp_to (comp_ok e (x:=()) (st:=[]) h) λ zz zz zz h=>h
theorem law_sp {zs:List Int} {E:Cells → Prop} (hi:zs.length ≤ 63):Cp (callF tbl (d + 6) false (.val (.ref 558)) [.klist (zs.map PV.int)] []) (λ v zz=>v = .bool true) E:=by
 rw [o558,List.append_nil]
 refine cp_fin (sq_ok (wp_stop ?_))
 refine wp_slK (by decide) (by decide) (by rw [List.length_map]; exact Nat.le_trans hi (by decide)) (wp_stop ?_)
 rw [show ((40:Int).toNat) = 40 from rfl,← List.map_take]
 have hcl:(zs.take 40).length ≤ 40:=List.length_take_le ..
 generalize zs.take 40 = cs at *
 have hll:(cs.map PV.int).length ≤ lim:=by rw [List.length_map]; exact Nat.le_trans hcl (by decide)
 have htl:(cs.map PV.int).length < 0 + turns:=by rw [List.length_map]; exact Nat.lt_of_le_of_lt hcl (by decide)
 refine wp_itrL (xs:=cs.map PV.int) rfl (wp_stop ?_)
 refine wp_coll (cs.map PV.int) (λ i acc c' l=>c' = [.list (cs.map PV.int)] ∧ acc = (cs.take i).map PV.int) (λ i acc c' l h=>by rw [h.1]; exact it_lst rfl hll) (λ i acc c' l x hx hI=>map_at hx λ y hy e=>?_) _ _ [] _ _ (Nat.zero_le _) htl ⟨rfl,rfl⟩ λ acc c' l hI=>?_
 ·subst e
  obtain ⟨rfl,rfl⟩:=hI
  refine wp_bnd (wp_stL (e_ok (wpO_s lk_put (wp_stop (wp_cty (wp_int ⟨rfl,?_⟩))))))
  rw [List.take_succ,hy,List.map_append]; rfl
 obtain ⟨rfl,rfl⟩:=hI
 rw [List.length_map,List.take_length]
 refine wp_stop (sq_ok (wp_stop ?_))
 refine wp_itrL (xs:=cs.map PV.int) rfl (wp_stop ?_)
 refine wp_coll (cs.map PV.int) (λ i acc c' l=>c' = [.list (cs.map PV.int),.list (cs.map PV.int)] ∧ acc = (cs.take i).map λ x=>PV.int (((x.natAbs:Int)).fmod 1009)) (λ i acc c' l h=>by rw [h.1]; exact it_lst rfl hll) (λ i acc c' l x hx hI=>map_at hx λ y hy e=>?_) _ _ [] _ _ (Nat.zero_le _) htl ⟨rfl,rfl⟩ λ acc c' l hI=>?_
 ·subst e
  obtain ⟨rfl,rfl⟩:=hI
  refine wp_bnd (wp_stL (e_ok (wpO_s lk_put (wp_stop (wp_cbi (wp_abs (wp_stop (wp_mod (by decide) (by decide) ⟨rfl,?_⟩))))))))
  rw [List.take_succ,hy,List.map_append]; rfl
 obtain ⟨rfl,rfl⟩:=hI
 rw [List.length_map,List.take_length]
 have hsum:=sum_bd (cs.map λ x=>((x.natAbs:Int)).fmod 1009) λ x hx=>by
  obtain ⟨y,zz,rfl⟩:=List.mem_map.mp hx
  exact ⟨Int.fmod_nonneg_of_pos _ (by decide),Int.fmod_lt_of_pos _ (by decide)⟩
 rw [List.length_map] at hsum
 have hs2:(cs.map λ x=>((x.natAbs:Int)).fmod 1009).sum ≤ 1000000:=Int.le_trans hsum.2 (Int.le_trans (Int.mul_le_mul_of_nonneg_left (Int.ofNat_le.mpr hcl) (by decide)) (by decide))
 rw [show (cs.map λ x=>PV.int (((x.natAbs:Int)).fmod 1009)) = (cs.map λ x=>((x.natAbs:Int)).fmod 1009).map PV.int from (List.map_map ..).symm]
 have hs1:=hsum.1
 have hzl:((cs.map λ x=>((x.natAbs:Int)).fmod 1009).map PV.int).length ≤ lim:=by rw [List.length_map,List.length_map]; exact Nat.le_trans hcl (by decide)
 generalize (cs.map λ x=>((x.natAbs:Int)).fmod 1009) = fs at *
 refine wp_stop (wp_cbi (wp_sum (xs:=fs.map PV.int) rfl (allInts_map _) hzl ?_))
 generalize fs.sum = S at *
 refine wp_stop (seq_run (ss:=takeF 4 (dropF 2 P558)) (r:=dropF 6 P558) (pre4_ok d _ (cs.map PV.int) (cs.map PV.int) (fs.map PV.int) S (.klist (zs.map PV.int))) ?_)
 have W:=wo33 (X:=cs.map PV.int) (Z:=fs.map PV.int) hcl hs1 hs2
 have s:=st33 (c:=cells33 (cs.map PV.int) (cs.map PV.int) (fs.map PV.int) S) (by unfold cells33; exact Nat.le_refl _)
 generalize cells33 (cs.map PV.int) (cs.map PV.int) (fs.map PV.int) S = c at W s ⊢
 have h:=adv_ok (law_rest (n:=([]:Cells).length) (P:=⟨λ zz zz=>False,λ v zz zz=>v = .bool true,λ zz=>False⟩) (d:=d) rfl W (l:=[("script",.klist (zs.map PV.int)),("cells",.ref 1),("feed",.ref 3),("bank",.ref 4),("terms_now",.ref 15),("world",.ref 24)]) (Has.cons rfl (Has.cons rfl Has.nil)) λ zz zz=>rfl) c s
 refine wp_mono (compF_ok _ (st:=[]) (k:=[]) h) (λ w c l h=>?_) λ c ⟨_,_,h⟩=>h.elim
 cases w with
 | nxt=>exact h.elim λ zz h=>h.2.elim
 | ret v=>exact h.elim λ zz h=>h.2
end
end Mine
end
end
section
open PySem PySem.W PySem.Calls PyProof.Rows
set_option backward.match.sparseCases false
namespace Mine
inductive Tag where
 | free
 | froz (o:Obj)
 | cell (i:Nat)
 | sub (i:Nat)
 | tab (c:Addr) (q:Str)
noncomputable def Tag.ctorIdx (x:Tag):Nat:=x.casesOn 0 (λ zz=>1) (λ zz=>2) (λ zz=>3) λ zz zz=>4
noncomputable abbrev Tags:=Addr → Tag
noncomputable def Tags.le (T T':Tags):Prop:=∀ a,T a ≠ .free → T' a = T a
theorem Tags.le.refl (T:Tags):T.le T:=λ zz zz=>rfl
theorem Tags.le.trans {T T' T'':Tags} (x:T.le T') (y:T'.le T''):T.le T'':=λ a h=>by rw [y a (by rw [x a h]; exact h),x a h]
theorem Tags.le.froz {T T':Tags} (x:T.le T') {a:Addr} {o:Obj} (h:T a = .froz o):T' a = .froz o:=by rw [x a (by rw [h]; exact λ e=>nomatch e),h]
theorem Tags.le.cell {T T':Tags} (x:T.le T') {a:Addr} {i:Nat} (h:T a = .cell i):T' a = .cell i:=by rw [x a (by rw [h]; exact λ e=>nomatch e),h]
theorem Tags.le.sub {T T':Tags} (x:T.le T') {a:Addr} {i:Nat} (h:T a = .sub i):T' a = .sub i:=by rw [x a (by rw [h]; exact λ e=>nomatch e),h]
theorem Tags.le.tab {T T':Tags} (x:T.le T') {a c:Addr} {q:Str} (h:T a = .tab c q):T' a = .tab c q:=by rw [x a (by rw [h]; exact λ e=>nomatch e),h]
noncomputable def Tags.put (T:Tags) (a:Addr) (t:Tag):Tags:=λ b=>if b = a then t else T b
theorem Tags.put_self (T:Tags) (a:Addr) (t:Tag):T.put a t a = t:=if_pos rfl
theorem Tags.put_ne (T:Tags) {a b:Addr} (t:Tag) (h:b ≠ a):T.put a t b = T b:=if_neg h
theorem Tags.le_put {T:Tags} {a:Addr} (t:Tag) (h:T a = .free):T.le (T.put a t):=λ b hb=>T.put_ne t λ e=>hb (e ▸ h)
noncomputable abbrev tupObj (vs:Array Value) (n:Nat):Obj:={ cls:=.type "tuple",data:=.seq vs n }
noncomputable abbrev lstObj (vs:Array Value) (n:Nat):Obj:={ cls:=.type "list",data:=.seq vs n }
noncomputable abbrev dctObj (es:Array DictEntry) (n:Nat):Obj:={ cls:=.type "dict",data:=.dict es n }
noncomputable abbrev rngObj (a b k:Int) (t u x:Tok):Obj:={ cls:=.type "range",data:=.fields #[.int a t,.int b u,.int k x] }
noncomputable abbrev itmObj (d:Addr):Obj:={ cls:=.type "dict_items",data:=.fields #[.ref d] }
inductive CodeFz (T:Tags) (q:Str):Value → Prop
 | mk (c:Addr) (oc:Obj) (vs:Array Value) (t:Tok) (a:T c = .froz oc) (b:oc.data = .fields vs) (r:vs[1]? = some (.str q t)):CodeFz T q (.ref c)
theorem CodeFz.mono {T T':Tags} (x:T.le T') {v:Value} {q:Str}:CodeFz T q v → CodeFz T' q v
 | mk c oc vs t a b r=>mk c oc vs t (x.froz a) b r
structure LamOk (T:Tags) (b:Expr) (sc:Scope) (k:List (Str × Nat)) (fd:FuncData):Prop where
 params:fd.params = ⟨[],[],none,[],[],none,[]⟩
 body:fd.body = .expr b
 scope:fd.scope = sc
 glob:fd.globals = mainGlobals
 bi:fd.builtins = builtinsNs
 dflt:fd.defaults = .none
 kwd:fd.kwdefaults = .none
 code:CodeFz T fd.qualname fd.code
 cells:∀ x i,k.lookup x = some i → ∃ c,fd.closure.lookup x = some c ∧ T c = .cell i
inductive LamFz (T:Tags) (b:Expr) (sc:Scope) (k:List (Str × Nat)):Value → Prop
 | mk (a:Addr) (fd:FuncData) (ta:T a = .froz { cls:=.type "function",data:=.func fd }) (h:LamOk T b sc k fd):LamFz T b sc k (.ref a)
theorem LamFz.mono {T T':Tags} (x:T.le T') {b:Expr} {sc:Scope} {k:List (Str × Nat)} {v:Value}:LamFz T b sc k v → LamFz T' b sc k v
 | mk a fd ta h=>mk a fd (x.froz ta) { h with code:=h.code.mono x,cells:=λ y i hy=>let ⟨c,c1,c2⟩:=h.cells y i hy; ⟨c,c1,x.cell c2⟩ }
inductive IntV (i:Int):Value → Prop
 | mk (t:Tok):IntV i (.int i t)
inductive StrV (i:Str):Value → Prop
 | mk (t:Tok):StrV i (.str i t)
inductive SeqFz (T:Tags) (o:Array Value → Nat → Obj) (P:List Value → Prop):Value → Prop
 | mk (a:Addr) (n:Nat) (vs:Array Value) (ta:T a = .froz (o vs n)) (h:P vs.toList):SeqFz T o P (.ref a)
inductive RefC (T:Tags) (i:Nat):Value → Prop
 | mk (a:Addr) (ta:T a = .cell i):RefC T i (.ref a)
inductive RngV (T:Tags) (a b k:Int):Value → Prop
 | mk (r:Addr) (t u x:Tok) (h:T r = .froz (rngObj a b k t u x)):RngV T a b k (.ref r)
inductive ItmV (T:Tags) (i:Nat):Value → Prop
 | mk (r d:Addr) (h:T r = .froz (itmObj d)) (td:T d = .cell i):ItmV T i (.ref r)
inductive ConsV (P:Value → Prop) (Q:List Value → Prop):List Value → Prop
 | mk (u:Value) (t:List Value) (h:P u) (k:Q t):ConsV P Q (u :: t)
theorem SeqFz.mono {T T':Tags} (x:T.le T') {o:Array Value → Nat → Obj} {P P':List Value → Prop} (p:∀ l,P l → P' l) {v:Value}:SeqFz T o P v → SeqFz T' o P' v
 | mk a n vs ta h=>mk a n vs (x.froz ta) (p _ h)
theorem RefC.mono {T T':Tags} (x:T.le T') {i:Nat} {v:Value}:RefC T i v → RefC T' i v
 | mk a ta=>mk a (x.cell ta)
theorem RngV.mono {T T':Tags} (x:T.le T') {a b k:Int} {v:Value}:RngV T a b k v → RngV T' a b k v
 | mk r t u y h=>mk r t u y (x.froz h)
theorem ItmV.mono {T T':Tags} (x:T.le T') {i:Nat} {v:Value}:ItmV T i v → ItmV T' i v
 | mk r d h td=>mk r d (x.froz h) (x.cell td)
theorem ConsV.mono {P P':Value → Prop} {Q Q':List Value → Prop} (p:∀ v,P v → P' v) (q:∀ l,Q l → Q' l) {vs:List Value}:ConsV P Q vs → ConsV P' Q' vs
 | mk u t h k=>mk u t (p _ h) (q _ k)
mutual
noncomputable def Rel (T:Tags):PV → Value → Prop
 | .none=>(· = .none)
 | .bool b=>(· = .bool b)
 | .int i=>IntV i
 | .str s=>StrV s
 | .tup l=>SeqFz T tupObj (RelL T l)
 | .klist l=>SeqFz T lstObj (RelL T l)
 | .ref i=>RefC T i
 | .val u=>(· = u)
 | .rng a b k=>RngV T a b k
 | .items i=>ItmV T i
 | .clo b sc k=>LamFz T b sc k
noncomputable def RelL (T:Tags):List PV → List Value → Prop
 | []=>(· = [])
 | x :: r=>ConsV (Rel T x) (RelL T r)
end
mutual
theorem Rel.mono {T T':Tags} (x:T.le T'):∀ (p:PV) (v:Value),Rel T p v → Rel T' p v
 | .none,_,h=>h
 | .bool _,_,h=>h
 | .int _,_,h=>h
 | .str _,_,h=>h
 | .tup l,_,h=>SeqFz.mono x (RelL.mono x l) h
 | .klist l,_,h=>SeqFz.mono x (RelL.mono x l) h
 | .ref _,_,h=>RefC.mono x h
 | .val _,_,h=>h
 | .rng ..,_,h=>RngV.mono x h
 | .items _,_,h=>ItmV.mono x h
 | .clo ..,_,h=>LamFz.mono x h
theorem RelL.mono {T T':Tags} (x:T.le T'):∀ (p:List PV) (v:List Value),RelL T p v → RelL T' p v
 | [],_,h=>h
 | y :: r,_,h=>ConsV.mono (Rel.mono x y) (RelL.mono x r) h
end
theorem RelL.nil {T:Tags}:RelL T [] []:=rfl
theorem RelL.cons {T:Tags} {p:PV} {v:Value} {ps:List PV} {vs:List Value} (h:Rel T p v) (t:RelL T ps vs):RelL T (p :: ps) (v :: vs):=ConsV.mk v vs h t
theorem RelL.one {T:Tags} {p:PV} {v:Value} (h:Rel T p v):RelL T [p] [v]:=RelL.cons h RelL.nil
theorem RelL.inv {T:Tags} {p:PV} {ps:List PV} {vs:List Value} (h:RelL T (p :: ps) vs):ConsV (Rel T p) (RelL T ps) vs:=h
theorem RelL.length {T:Tags}:∀ {ps:List PV} {vs:List Value},RelL T ps vs → vs.length = ps.length
 | [],_,h=>congrArg List.length h
 | _ :: _,_,h=>by
  induction h.inv using Mine.ConsV.casesOn with
  | mk u t _ k=>exact congrArg Nat.succ (RelL.length k)
theorem RelL.get {T:Tags}:∀ {ps:List PV} {vs:List Value},RelL T ps vs → ∀ {i:Nat} {p:PV},ps[i]? = some p → ∃ v,vs[i]? = some v ∧ Rel T p v
 | [],_,_,_,_,e=>nomatch e
 | _ :: _,_,h,0,p,e=>by
  induction h.inv using Mine.ConsV.casesOn with
  | mk u t hh k=>exact ⟨u,rfl,Option.some.inj e ▸ hh⟩
 | _ :: _,_,h,i + 1,p,e=>by
  induction h.inv using Mine.ConsV.casesOn with
  | mk u t h k=>exact RelL.get (i:=i) k e
theorem RelL.append {T:Tags}:∀ {ps qs:List PV} {vs us:List Value},RelL T ps vs → RelL T qs us → RelL T (ps ++ qs) (vs ++ us)
 | [],_,_,_,h,g=>by subst h; exact g
 | _ :: _,_,_,_,h,g=>by
  induction h.inv using Mine.ConsV.casesOn with
  | mk u t hh k=>exact RelL.cons hh (RelL.append k g)
theorem RelL.take {T:Tags}:∀ {ps:List PV} {vs:List Value} (n:Nat),RelL T ps vs → RelL T (ps.take n) (vs.take n)
 | _,_,0,_=>RelL.nil
 | [],_,_ + 1,h=>by subst h; exact RelL.nil
 | _ :: _,_,n + 1,h=>by
  induction h.inv using Mine.ConsV.casesOn with
  | mk u t hh k=>exact RelL.cons hh (RelL.take n k)
theorem RelL.set {T:Tags}:∀ {ps:List PV} {vs:List Value} (i:Nat) {p:PV} {v:Value},RelL T ps vs → Rel T p v → RelL T (ps.set i p) (vs.set i v)
 | [],_,_,_,_,h,_=>by subst h; exact RelL.nil
 | _ :: _,_,0,_,_,h,g=>by
  induction h.inv using Mine.ConsV.casesOn with
  | mk u t h k=>exact RelL.cons g k
 | _ :: _,_,i + 1,_,_,h,g=>by
  induction h.inv using Mine.ConsV.casesOn with
  | mk u t hh k=>exact RelL.cons hh (RelL.set i k g)
section
variable (w:World)
noncomputable def KeyRel (T:Tags):Key → Value → Int → Prop
 | .s x,v,hs=>Value.isStrOf x v = true ∧ hs = hashStr w x
 | .i n,v,hs=>Value.isInt n v = true ∧ hs = hashInt n
 | .t op a b,v,hs=>(Rel T (.tup [.str op,.tup [],.int a,.int b]) v ∧ PyData.strOk op = true) ∧ hs = reduceHash (Builtin.Tuple.tupleHashOf [hashStr w op,reduceHash (Builtin.Tuple.tupleHashOf []),hashInt a,hashInt b])
inductive ConsE (P:DictEntry → Prop) (Q:List DictEntry → Prop):List DictEntry → Prop
 | mk (u:DictEntry) (t:List DictEntry) (h:P u) (k:Q t):ConsE P Q (u :: t)
theorem ConsE.mono {P P':DictEntry → Prop} {Q Q':List DictEntry → Prop} (p:∀ v,P v → P' v) (q:∀ l,Q l → Q' l) {vs:List DictEntry}:ConsE P Q vs → ConsE P' Q' vs
 | mk u t h k=>mk u t (p _ h) (q _ k)
noncomputable def EntsRel (T:Tags):List (Key × PV) → List DictEntry → Prop
 | []=>(· = [])
 | x :: r=>ConsE (λ e=>KeyRel w T x.1 e.key e.hash ∧ Rel T x.2 e.val) (EntsRel T r)
noncomputable def AttrRel (T:Tags):List (Str × PV) → List DictEntry → Prop
 | []=>(· = [])
 | x :: r=>ConsE (λ e=>StrV x.1 e.key ∧ Rel T x.2 e.val) (AttrRel T r)
noncomputable def OptRel (T:Tags):Option PV → Option Value → Prop
 | none,v=>v = none
 | some p,v=>∃ u,v = some u ∧ Rel T p u
inductive LstC (T:Tags) (h:Heap) (i:Nat) (l:List PV):Prop
 | mk (a:Addr) (n:Nat) (vs:Array Value) (ta:T a = .cell i) (hg:h.get? a = some (lstObj vs n)) (hr:RelL T l vs.toList):LstC T h i l
inductive DctC (T:Tags) (h:Heap) (i:Nat) (es:List (Key × PV)):Prop
 | mk (a:Addr) (n:Nat) (ents:Array DictEntry) (ta:T a = .cell i) (hg:h.get? a = some (dctObj ents n)) (hr:EntsRel w T es ents.toList) (hn:(es.map (·.1)).Nodup):DctC T h i es
inductive InsC (T:Tags) (h:Heap) (i:Nat) (C:Addr) (es:List (Str × PV)):Prop
 | mk (a d:Addr) (n:Nat) (ents:List DictEntry) (ta:T a = .cell i) (td:T d = .sub i) (hg:h.get? a = some (instObj C d)) (hd:h.get? d = some (dictOf ents n)) (hr:AttrRel T es ents) (hn:(es.map (·.1)).Nodup):InsC T h i C es
inductive BoxC (T:Tags) (h:Heap) (i:Nat) (v:Option PV):Prop
 | mk (a:Addr) (u:Option Value) (ta:T a = .cell i) (hc:h.IsCell a u) (hr:OptRel T v u):BoxC T h i v
noncomputable def CellAt (T:Tags) (h:Heap) (i:Nat):Cell → Prop
 | .list l=>LstC T h i l
 | .dict es=>DctC w T h i es
 | .inst C es=>InsC T h i C es
 | .box v=>BoxC T h i v
theorem KeyRel.mono {T T':Tags} (x:T.le T'):∀ {k:Key} {v:Value} {hs:Int},KeyRel w T k v hs → KeyRel w T' k v hs
 | .s _,_,_,h=>h
 | .i _,_,_,h=>h
 | .t ..,_,_,h=>⟨⟨Rel.mono x _ _ h.1.1,h.1.2⟩,h.2⟩
theorem EntsRel.mono {T T':Tags} (x:T.le T'):∀ {es:List (Key × PV)} {ds:List DictEntry},EntsRel w T es ds → EntsRel w T' es ds
 | [],_,h=>h
 | _ :: _,_,h=>ConsE.mono (λ zz h=>⟨h.1.mono w x,Rel.mono x _ _ h.2⟩) (λ zz h=>EntsRel.mono x h) h
theorem AttrRel.mono {T T':Tags} (x:T.le T'):∀ {es:List (Str × PV)} {ds:List DictEntry},AttrRel T es ds → AttrRel T' es ds
 | [],_,h=>h
 | _ :: _,_,h=>ConsE.mono (λ zz h=>⟨h.1,Rel.mono x _ _ h.2⟩) (λ zz h=>AttrRel.mono x h) h
theorem OptRel.mono {T T':Tags} (x:T.le T'):∀ {v:Option PV} {u:Option Value},OptRel T v u → OptRel T' v u
 | none,_,h=>h
 | some _,_,⟨u,h1,h2⟩=>⟨u,h1,Rel.mono x _ _ h2⟩
theorem CellAt.keep {T T':Tags} (x:T.le T') {h h':Heap} {i:Nat} (hk:∀ a o,T a = .cell i ∨ T a = .sub i → h.get? a = some o → h'.get? a = some o) :
  ∀ {c:Cell},CellAt w T h i c → CellAt w T' h' i c
 | .list _,h=>by
  induction h using Mine.LstC.casesOn with
  | mk a n vs h1 h2 h3=>exact ⟨a,n,vs,x.cell h1,hk _ _ (.inl h1) h2,RelL.mono x _ _ h3⟩
 | .dict _,h=>by
  induction h using Mine.DctC.casesOn with
  | mk a n es h1 h2 h3 h4=>exact ⟨a,n,es,x.cell h1,hk _ _ (.inl h1) h2,h3.mono w x,h4⟩
 | .inst _ _,h=>by
  induction h using Mine.InsC.casesOn with
  | mk a d n es h1 h2 h3 h4 h5 h6=>exact ⟨a,d,n,es,x.cell h1,x.sub h2,hk _ _ (.inl h1) h3,hk _ _ (.inr h2) h4,h5.mono x,h6⟩
 | .box _,h=>by
  induction h using Mine.BoxC.casesOn with
  | mk a u h1 h2 h4=>exact ⟨a,u,x.cell h1,h2.imp λ o h=>⟨hk _ _ (.inl h1) h.1,h.2⟩,h4.mono x⟩
structure Wd (h₀:Heap) (T:Tags) (c:Cells) (h:Heap):Prop where
 old:∀ a o,h₀.get? a = some o → T a = .froz o
 live:∀ a,T a ≠ .free → (h.get? a).isSome = true
 froz:∀ a o,T a = .froz o → h.get? a = some o
 cells:∀ i x,c[i]? = some x → CellAt w T h i x
 uniq:∀ a b i,T a = .cell i → T b = .cell i → a = b
 ids:∀ a i,T a = .cell i ∨ T a = .sub i → i < c.length
 tabs:∀ P cd q,T P = .tab cd q → CodeHd h₀ cd P ∧ ∃ ps,h.get? P = some (tabObj ps) ∧ TriplesOk ps.toList ∧ ∀ pos v,codeAmong pos ps.toList = some v → CodeFz T q v
theorem Wd.lt {h₀ h:Heap} {T:Tags} {c:Cells} (W:Wd w h₀ T c h) (a:Addr) (ha:T a ≠ .free):a < h.objs.size:=let ⟨_,e⟩:=Option.isSome_iff_exists.mp (W.live a ha); Heap.lt_size e
theorem Wd.keeps {h₀ h:Heap} {T:Tags} {c:Cells} (W:Wd w h₀ T c h):∀ b o,h₀.get? b = some o → h.get? b = some o:=λ b o e=>W.froz b o (W.old b o e)
structure Step (ro:Bool) (Fs:List Addr) (L:Addr) (T:Tags) (h:Heap) (T':Tags) (h':Heap):Prop where
 live:∀ a,(h.get? a).isSome = true → (h'.get? a).isSome = true
 tag:∀ a,(h.get? a).isSome = true → T' a = T a
 keep:∀ a o,a ≠ L → T a = .free → h.get? a = some o → ∃ sl,h'.get? a = some { o with slots:=sl } ∧ (a ∉ Fs → sl = o.slots)
 rest:ro = true → ∀ a o,a ≠ L → h.get? a = some o → h'.get? a = some o
theorem liveOf {h:Heap} {a:Addr} {o:Obj} (e:h.get? a = some o):(h.get? a).isSome = true:=by rw [e]; rfl
theorem Step.refl {ro:Bool} {Fs:List Addr} {L:Addr} {T:Tags} {h:Heap}:Step ro Fs L T h T h:=
 ⟨λ zz h=>h,λ zz zz=>rfl,λ zz o zz zz e=>⟨o.slots,e,λ zz=>rfl⟩,λ zz zz zz zz e=>e⟩
theorem Step.trans {ro:Bool} {Fs:List Addr} {L:Addr} {T T' T'':Tags} {h h' h'':Heap} (x:Step ro Fs L T h T' h') (y:Step ro Fs L T' h' T'' h''):Step ro Fs L T h T'' h'':=by
 refine ⟨λ a ha=>y.live a (x.live a ha),λ a ha=>(y.tag a (x.live a ha)).trans (x.tag a ha),λ a o hL hf e=>?_,λ hr a o hL e=>y.rest hr a o hL (x.rest hr a o hL e)⟩
 refine Classical.byContradiction λ hcps=>?_
 obtain ⟨sl,e1,s1⟩:=x.keep a o hL hf e
 obtain ⟨sl',e2,s2⟩:=y.keep a _ hL ((x.tag a (liveOf e)).trans hf) e1
 refine hcps ?_
 clear hcps
 exact ⟨sl',e2,λ hF=>(s2 hF).trans (s1 hF)⟩
theorem Step.next {ro:Bool} {Fs:List Addr} {L:Addr} {T T' T'':Tags} {h h' h'':Heap} (x:Step ro Fs L T h T' h') (ht:∀ a,(h.get? a).isSome = true → T'' a = T' a) (hk:∀ a o,(h.get? a).isSome = true → h'.get? a = some o → h''.get? a = some o):Step ro Fs L T h T'' h'':=
 ⟨λ a ha=>(let ⟨o,e⟩:=Option.isSome_iff_exists.mp (x.live a ha); liveOf (hk a o ha e)),λ a ha=>(ht a ha).trans (x.tag a ha),λ a o hL hf e=>(let ⟨sl,e1,s1⟩:=x.keep a o hL hf e; ⟨sl,hk a _ (liveOf e) e1,s1⟩),λ hr a o hL e=>hk a o (liveOf e) (x.rest hr a o hL e)⟩
theorem Step.outer {ro:Bool} {Fs:List Addr} {L L':Addr} {T T':Tags} {h h':Heap} (x:Step ro (L' :: Fs) L' T h T' h') (hL:h.get? L' = none):Step ro Fs L T h T' h':=by
 refine ⟨x.live,x.tag,λ a o zz hf e=>?_,λ hr a o zz e=>x.rest hr a o (λ q=>by subst q; rw [e] at hL; cases hL) e⟩
 have ne:a ≠ L':=λ q=>by subst q; rw [e] at hL; cases hL
 refine Classical.byContradiction λ hcps=>?_
 obtain ⟨sl,e1,s1⟩:=x.keep a o ne hf e
 refine hcps ?_
 clear hcps
 exact ⟨sl,e1,λ hF=>s1 λ hm=>(List.mem_cons.mp hm).elim ne hF⟩
theorem Step.le {ro:Bool} {Fs:List Addr} {L:Addr} {T T':Tags} {h h' h₀:Heap} {c:Cells} (x:Step ro Fs L T h T' h') (W:Wd w h₀ T c h):T.le T':=λ a ha=>x.tag a (W.live a ha)
theorem Step.grow {ro:Bool} {Fs:List Addr} {L:Addr} {T:Tags} {h h':Heap} (hk:∀ b o,h.get? b = some o → h'.get? b = some o):Step ro Fs L T h T h':=
 ⟨λ a ha=>(let ⟨o,e⟩:=Option.isSome_iff_exists.mp ha; liveOf (hk a o e)),λ zz zz=>rfl,λ a o zz zz e=>⟨o.slots,hk a o e,λ zz=>rfl⟩,λ zz a o zz e=>hk a o e⟩
section
variable {h₀ h h':Heap} {T T':Tags} {c:Cells} {ro:Bool} {Fs:List Addr} {L:Addr}
theorem Wd.fresh (W:Wd w h₀ T c h):T h.objs.size = .free:=by
 induction e:T h.objs.size using Mine.Tag.casesOn with
 | free=>rfl
 | _=>exact absurd (W.lt w _ (by rw [e]; exact λ q=>nomatch q)) (Nat.lt_irrefl _)
theorem Wd.push_le (W:Wd w h₀ T c h) (t:Tag):T.le (T.put h.objs.size t):=Tags.le_put t (W.fresh w)
theorem put_fresh_ne {a:Addr} (t:Tag) (ha:a < h.objs.size):T.put h.objs.size t a = T a:=T.put_ne t (Nat.ne_of_lt ha)
theorem Step.push (W:Wd w h₀ T c h) (t:Tag) (o:Obj):Step ro Fs L T h (T.put h.objs.size t) (h.push o):=
 ⟨λ a ha=>(let ⟨_,e⟩:=Option.isSome_iff_exists.mp ha; liveOf (Heap.get?_push_of_some o e)),λ a ha=>(let ⟨_,e⟩:=Option.isSome_iff_exists.mp ha; put_fresh_ne t (Heap.lt_size e)),λ zz o' zz zz e=>⟨o'.slots,Heap.get?_push_of_some o e,λ zz=>rfl⟩,λ zz zz zz zz e=>Heap.get?_push_of_some o e⟩
theorem Wd.retag (W:Wd w h₀ T c h) {a:Addr} {x:Cell} (ha:T a = .free) (hlt:(h.get? a).isSome = true) (hx:CellAt w (T.put a (.cell c.length)) h c.length x):Wd w h₀ (T.put a (.cell c.length)) (c ++ [x]) h:=by
 have le:T.le (T.put a (.cell c.length)):=Tags.le_put _ ha
 refine ⟨λ b o e=>le.froz (W.old b o e),λ b hb=>?_,λ b o e=>?_,λ i y e=>?_,λ b b' i hb hb'=>?_,λ b i hb=>?_,λ P cd q e=>?_⟩
 ·by_cases q:b = a
  ·subst q; exact hlt
  ·rw [Tags.put_ne T _ q] at hb; exact W.live b hb
 ·by_cases q:b = a
  ·subst q; rw [Tags.put_self] at e; cases e
  ·rw [Tags.put_ne T _ q] at e; exact W.froz b o e
 ·by_cases hi:i < c.length
  ·rw [List.getElem?_append_left hi] at e
   exact (W.cells i y e).keep w le λ zz zz zz e'=>e'
  ·by_cases he:i = c.length
   ·subst he
    rw [List.getElem?_append_right (Nat.le_refl _)] at e
    simp only [Nat.sub_self,List.getElem?_cons_zero,Option.some.injEq] at e
    subst e; exact hx
   ·rw [List.getElem?_eq_none (by rw [List.length_append,List.length_singleton]; lia)] at e; cases e
 ·by_cases hi:i = c.length
  ·subst hi
   have one:∀ z,T.put a (.cell c.length) z = .cell c.length → z = a:=λ z hz=>by
    by_cases q:z = a
    ·exact q
    ·rw [Tags.put_ne T _ q] at hz
     exact absurd (W.ids z _ (.inl hz)) (Nat.lt_irrefl _)
   rw [one b hb,one b' hb']
  ·have ne:∀ z,T.put a (.cell c.length) z = .cell i → z ≠ a:=λ z hz q=>by
    subst q; rw [Tags.put_self] at hz; exact hi (by injection hz with hz; exact hz.symm)
   rw [Tags.put_ne T _ (ne b hb)] at hb
   rw [Tags.put_ne T _ (ne b' hb')] at hb'
   exact W.uniq b b' i hb hb'
 ·rw [List.length_append,List.length_singleton]
  by_cases q:b = a
  ·subst q
   rw [Tags.put_self] at hb
   rcases hb with hb | hb
   ·injection hb with hb; lia
   ·cases hb
  ·rw [Tags.put_ne T _ q] at hb
   exact Nat.lt_succ_of_lt (W.ids b i hb)
 ·by_cases q':P = a
  ·subst q'; rw [Tags.put_self] at e; cases e
  ·rw [Tags.put_ne T _ q'] at e
   refine Classical.byContradiction λ hcps=>?_
   obtain ⟨h1,ps,h2,h3,h4⟩:=W.tabs P cd q e
   refine hcps ?_
   clear hcps
   exact ⟨h1,ps,h2,h3,λ pos v hv=>(h4 pos v hv).mono le⟩
theorem Wd.free (W:Wd w h₀ T c h) (hk:∀ a o,T a ≠ .free → h.get? a = some o → h'.get? a = some o):Wd w h₀ T c h':=by
 refine ⟨W.old,λ a ha=>(let ⟨_,e⟩:=Option.isSome_iff_exists.mp (W.live a ha); by rw [hk a _ ha e]; rfl),λ a o e=>hk a o (by rw [e]; exact λ q=>nomatch q) (W.froz a o e),λ i x e=>?_,W.uniq,W.ids,λ P cd q e=>?_⟩
 ·refine (W.cells i x e).keep w (Tags.le.refl T) λ a o ha e'=>hk a o ?_ e'
  rcases ha with ha | ha <;> (rw [ha]; exact λ q=>nomatch q)
 ·refine Classical.byContradiction λ hcps=>?_
  obtain ⟨h1,ps,h2,h3⟩:=W.tabs P cd q e
  refine hcps ?_
  clear hcps
  exact ⟨h1,ps,hk P _ (by rw [e]; exact λ q=>nomatch q) h2,h3⟩
theorem Wd.push (W:Wd w h₀ T c h) (o:Obj):Wd w h₀ T c (h.push o):=W.free w λ zz zz zz e=>Heap.get?_push_of_some o e
theorem Wd.tagFroz (W:Wd w h₀ T c h) {a:Addr} {o:Obj} (ha:T a = .free) (e:h.get? a = some o):Wd w h₀ (T.put a (.froz o)) c h:=by
 have le:T.le (T.put a (.froz o)):=Tags.le_put _ ha
 have back:∀ {z t},(∀ q,t ≠ .froz q) → T.put a (.froz o) z = t → T z = t:=λ {z t} ht hz=>by
  by_cases q:z = a
  ·subst q; rw [T.put_self] at hz; exact absurd hz.symm (ht o)
  ·rw [T.put_ne _ q] at hz; exact hz
 refine ⟨λ b ob q=>le.froz (W.old b ob q),λ b hb=>?_,λ b ob q=>?_,λ i x q=>(W.cells i x q).keep w le λ zz zz zz z=>z,λ x y i hx hy=>W.uniq x y i (back (λ zz q=>nomatch q) hx) (back (λ zz q=>nomatch q) hy),λ b i hb=>W.ids b i (hb.imp (back λ zz q=>nomatch q) (back λ zz q=>nomatch q)),λ P cd q z=>?_⟩
 ·by_cases q:b = a
  ·subst q; exact liveOf e
  ·rw [T.put_ne _ q] at hb; exact W.live b hb
 ·by_cases z:b = a
  ·subst z; rw [T.put_self] at q; injection q with q; exact q ▸ e
  ·rw [T.put_ne _ z] at q; exact W.froz b ob q
 ·refine Classical.byContradiction λ hcps=>?_
  obtain ⟨h1,ps,h2,h3,h4⟩:=W.tabs P cd q (back (λ zz q=>nomatch q) z)
  refine hcps ?_
  clear hcps
  exact ⟨h1,ps,h2,h3,λ pos v hv=>(h4 pos v hv).mono le⟩
theorem Wd.push_froz (W:Wd w h₀ T c h) (o:Obj) (hf:o.isFreed = false):Wd w h₀ (T.put h.objs.size (.froz o)) c (h.push o):=(W.push w o).tagFroz w (W.fresh w) (Heap.get?_push_size h hf)
theorem Wd.same (W:Wd w h₀ T c h) {a:Addr} (ha:T a = .free) (hs:Heap.SameBut a h h'):Wd w h₀ T c h':=
 W.free w λ b o hb e=>(hs.2 b λ q=>hb (q ▸ ha)).trans e
theorem Wd.upd (W:Wd w h₀ T c h) {a:Addr} {i:Nat} {x:Cell} (ha:T a = .cell i ∨ T a = .sub i) (hs:Heap.SameBut a h h') (hl:(h'.get? a).isSome = true) (hx:CellAt w T h' i x):Wd w h₀ T (c.set i x) h':=by
 have nc:∀ o,T a ≠ .froz o:=λ o e=>by rw [e] at ha; rcases ha with ha | ha <;> cases ha
 refine ⟨W.old,λ b hb=>(if q:b = a then q ▸ hl else (hs.2 b q).symm ▸ W.live b hb),λ b o e=>?_,λ j y e=>?_,W.uniq,λ b j hb=>by rw [List.length_set]; exact W.ids b j hb,λ P cd q e=>?_⟩
 ·exact (hs.2 b λ q=>nc o (q ▸ e)).trans (W.froz b o e)
 ·by_cases hj:j = i
  ·subst hj
   rw [List.getElem?_set_self (W.ids a j ha)] at e
   cases e; exact hx
  ·rw [List.getElem?_set_ne (Ne.symm hj)] at e
   refine (W.cells j y e).keep w (Tags.le.refl T) λ b o hb e'=>(hs.2 b λ q=>?_).trans e'
   subst q
   rcases ha with ha | ha <;> rcases hb with hb | hb <;> (rw [ha] at hb; first | (injection hb with hb; exact hj hb.symm) | cases hb)
 ·refine Classical.byContradiction λ hcps=>?_
  obtain ⟨h1,ps,h2,h3⟩:=W.tabs P cd q e
  refine hcps ?_
  clear hcps
  refine ⟨h1,ps,(hs.2 P λ q'=>?_).trans h2,h3⟩
  subst q'
  rw [e] at ha; rcases ha with ha | ha <;> cases ha
theorem same_live {a:Addr} (hs:Heap.SameBut a h h') (hl:(h'.get? a).isSome = true) (b:Addr) (hb:(h.get? b).isSome = true):(h'.get? b).isSome = true:=by
 by_cases q:b = a
 ·subst q; exact hl
 ·rw [hs.2 b q]; exact hb
theorem Step.upd {a:Addr} {i:Nat} (ha:T a = .cell i ∨ T a = .sub i) (hs:Heap.SameBut a h h') (hl:(h'.get? a).isSome = true):Step false Fs L T h T h':=
 ⟨same_live hs hl,λ zz zz=>rfl,λ b o zz hf e=>⟨o.slots,(hs.2 b λ q=>by subst q; rw [hf] at ha; rcases ha with ha | ha <;> cases ha).trans e,λ zz=>rfl⟩,λ q=>nomatch q⟩
theorem Step.own (hs:Heap.SameBut L h h') (hl:(h'.get? L).isSome = true):Step ro Fs L T h T h':=
 ⟨same_live hs hl,λ zz zz=>rfl,λ b o hb zz e=>⟨o.slots,(hs.2 b hb).trans e,λ zz=>rfl⟩,λ zz b o hb e=>(hs.2 b hb).trans e⟩
end
end
end Mine
end
section
open PySem PySem.W PySem.Calls PyProof.Rows
set_option backward.match.sparseCases false
namespace Mine
theorem nS {α:Type} {P:Prop} {b:α} (h:none = some b):P:=nomatch h
theorem fT {P:Prop} (h:false = true):P:=nomatch h
noncomputable def tabs0:List (Addr × Addr × Str):=[(521,523,"_law_sort_deed.<locals>.<lambda>"),(526,528,"_law_function_deed.<locals>.<lambda>")]
noncomputable def Based (T:Tags):Prop:=∀ P cd q,(P,cd,q) ∈ tabs0 → T P = .tab cd q
theorem Based.mono {T T':Tags} (x:T.le T') (B:Based T):Based T':=λ P cd q h=>x.tab (B P cd q h)
structure FrmOk (T:Tags) (f:Frm) (env:Env):Prop where
 scope:env.scope = f.scope
 kind:env.scope.kind = .function
 glob:env.globals = mainGlobals
 bi:env.builtins = builtinsNs
 cells:∀ x i,f.cells.lookup x = some i → ∃ a,env.cells.lookup x = some a ∧ T a = .cell i
 tab:∀ c P,f.tab = some (c,P) → env.code = .ref c ∧ T P = .tab c (env.qual ++ "<lambda>")
 base:Based T
theorem FrmOk.mono {T T':Tags} (x:T.le T') {f:Frm} {env:Env} (F:FrmOk T f env):FrmOk T' f env:=
 ⟨F.scope,F.kind,F.glob,F.bi,λ y i h=>let ⟨a,h1,h2⟩:=F.cells y i h; ⟨a,h1,x.cell h2⟩,λ c P h=>let ⟨h1,h2⟩:=F.tab c P h; ⟨h1,x.tab h2⟩,F.base.mono x⟩
structure Loc (T:Tags) (h:Heap) (env:Env) (l:Locs):Prop where
 free:T env.locals = .free
 ns:∃ m,h.Ns env.locals m ∧ ∀ x v,l.lookup x = some v → ∃ u,m x = some u ∧ Rel T v u
noncomputable def frsOf (es:List Env):List Addr:=es.filterMap (·.frame)
noncomputable def Frs (T:Tags) (h:Heap) (es:List Env):Prop:=∀ e ∈ es,e.scope.kind ≠ .module ∧ ∃ F o,e.frame = some F ∧ T F = .free ∧ h.get? F = some o ∧ ∀ vs,o.data ≠ .fields vs
structure AOk (A:Around) (d:Nat) (es:List Env):Prop where
 hand:A.handled = none
 dep:A.depth + 4 * d + 20 < recursionLimit
 un:A.units + 40 * d + 400 < cLine
 fr:A.frames = some es
theorem AOk.units {A:Around} {d:Nat} {es:List Env} (a:AOk A d es):A.units < cLine:=by have:=a.un; omega
theorem AOk.units64 {A:Around} {d:Nat} {es:List Env} (a:AOk A d es):A.units + 64 < cLine:=by have:=a.un; lia
theorem AOk.in1 {A:Around} {d:Nat} {es:List Env} (a:AOk A d es):A.in1.units + 64 < cLine:=by have:=a.un; show A.units + 1 + 64 < cLine; lia
theorem AOk.room {A:Around} {d:Nat} {es:List Env} (a:AOk A d es):A.depth < recursionLimit:=by have:=a.dep; lia
theorem nsLive {h:Heap} {a:Addr} {m:Str → Option Value} (x:h.Ns a m):(h.get? a).isSome = true:=let ⟨_,_,_,e,_⟩:=x; liveOf e
theorem Loc.live {T:Tags} {h:Heap} {env:Env} {l:Locs} (x:Loc T h env l):(h.get? env.locals).isSome = true:=let ⟨_,h,_⟩:=x.ns; nsLive h
theorem Loc.keep {T T':Tags} {h h':Heap} {env:Env} {l:Locs} (x:Loc T h env l) (le:T.le T') (ht:T' env.locals = T env.locals) (hk:∀ o es ep,h.get? env.locals = some o → o.data = .dict es ep → h'.get? env.locals = some o):Loc T' h' env l:=by
 obtain ⟨lf,m,⟨o,es,ep,ho,hd,hm⟩,lr⟩:=x
 exact ⟨ht.trans lf,m,⟨o,es,ep,hk o es ep ho hd,hd,hm⟩,λ y v hy=>let ⟨u,u1,u2⟩:=lr y v hy; ⟨u,u1,Rel.mono le _ _ u2⟩⟩
theorem Loc.step {ro:Bool} {Fs:List Addr} {L:Addr} {T T':Tags} {h h':Heap} {env:Env} {l:Locs} (S:Step ro Fs L T h T' h') (le:T.le T') (hL:env.locals ≠ L) (x:Loc T h env l):Loc T' h' env l:=by
 refine Classical.byContradiction λ hcps=>?_
 obtain ⟨hf,m,⟨o,es,ep,ho,hd,hk,hm⟩,hr⟩:=x
 obtain ⟨sl,e1,zz⟩:=S.keep _ o hL hf ho
 refine hcps ?_
 clear hcps
 exact ⟨(S.tag _ (liveOf ho)).trans hf,m,⟨_,es,ep,e1,hd,hk,hm⟩,λ y v hy=>let ⟨u,u1,u2⟩:=hr y v hy; ⟨u,u1,Rel.mono le _ _ u2⟩⟩
theorem Frs.step {ro:Bool} {Fs:List Addr} {T T':Tags} {h h':Heap} {env:Env} {l:Locs} {es:List Env} (S:Step ro Fs env.locals T h T' h') (x:Frs T h es) (y:Loc T' h' env l):Frs T' h' es:=by
 intro e he
 refine Classical.byContradiction λ hcps=>?_
 obtain ⟨hk,F,o,hf,ht,ho,hd⟩:=x e he
 refine hcps ?_
 clear hcps
 refine ⟨hk,?_⟩
 by_cases q:F = env.locals
 ·subst q
  refine Classical.byContradiction λ hcps=>?_
  obtain ⟨yf,m,⟨o',es',ep,ho',hd',zz⟩,zz⟩:=y
  refine hcps ?_
  clear hcps
  exact ⟨_,o',hf,yf,ho',λ vs e=>by rw [hd'] at e; cases e⟩
 ·refine Classical.byContradiction λ hcps=>?_
  obtain ⟨sl,e1,zz⟩:=S.keep F o q ht ho
  refine hcps ?_
  clear hcps
  exact ⟨F,_,hf,(S.tag F (liveOf ho)).trans ht,e1,hd⟩
inductive TbOk (h0:Heap) (T:Tags) (h:Heap) (fl:Option Addr) (e:Addr):Value → Prop
 | none:TbOk h0 T h fl e .none
 | mk (tb:Addr) (ot:Obj) (ts:Array Value) (q1:h0.get? tb = .none) (q2:T tb = .free) (q3:tb ≠ e) (q4:h.get? tb = some ot) (q5:ot.data = .fields ts) (q6:ts[3]? = some .none ∨ ∃ F,fl = some F ∧ ts[3]? = some (rawInt F)):TbOk h0 T h fl e (.ref tb)
inductive ExcAt (fault:Addr) (h0:Heap) (T:Tags) (h:Heap) (fl:Option Addr) (e:Addr):Prop
 | mk (oe:Obj) (vs:Array Value) (a0 t:Value) (new:h0.get? e = none) (free:T e = .free) (ho:h.get? e = some oe) (hc:oe.cls = .ref fault) (hd:oe.data = .fields vs) (k0:vs[0]? = some a0) (k1:vs[1]? = some t) (tb:TbOk h0 T h fl e t):ExcAt fault h0 T h fl e
theorem none_older {h0 h1:Heap} (hl:∀ a,(h0.get? a).isSome = true → (h1.get? a).isSome = true) {a:Addr} (h:h1.get? a = none):h0.get? a = none:=by
 induction e:h0.get? a using Option.casesOn with
 | none=>rfl
 | some o=>have:=hl a (by rw [e]; rfl); rw [h] at this; cases this
theorem TbOk.older {h0 h1 h:Heap} {T:Tags} {fl:Option Addr} {e:Addr} {t:Value} (hl:∀ a,(h0.get? a).isSome = true → (h1.get? a).isSome = true):TbOk h1 T h fl e t → TbOk h0 T h fl e t
 | none=>none
 | mk tb ot ts q1 q2 q3 q4 q5 q6=>mk tb ot ts (none_older hl q1) q2 q3 q4 q5 q6
theorem TbOk.held {h1 h:Heap} {T:Tags} {fl:Option Addr} {e:Addr} {t:Value}:TbOk h1 T h .none e t → TbOk h1 T h fl e t
 | none=>none
 | mk tb ot ts q1 q2 q3 q4 q5 q6=>mk tb ot ts q1 q2 q3 q4 q5 (.inl (q6.elim id λ q=>nomatch q.choose_spec.1))
theorem ExcAt.older {fault:Addr} {h0 h1 h:Heap} {T:Tags} {fl:Option Addr} {e:Addr} (hl:∀ a,(h0.get? a).isSome = true → (h1.get? a).isSome = true):ExcAt fault h1 T h fl e → ExcAt fault h0 T h fl e
 | mk oe vs a0 t n f h1' h2 h3 h4 h5 h6=>mk oe vs a0 t (none_older hl n) f h1' h2 h3 h4 h5 (h6.older hl)
theorem ExcAt.held {fault:Addr} {h1 h:Heap} {T:Tags} {fl:Option Addr} {e:Addr}:ExcAt fault h1 T h none e → ExcAt fault h1 T h fl e
 | mk oe vs a0 t n f h1' h2 h3 h4 h5 h6=>mk oe vs a0 t n f h1' h2 h3 h4 h5 h6.held
section
variable {prog:Program} {w:World} (h₀:Heap) (K:Tbl)
structure Pre (T:Tags) (c:Cells) (l:Locs) (s:Shared) (f:Frm) (env:Env) (es:List Env):Prop where
 wd:Wd w h₀ T c s.heap
 loc:Loc T s.heap env l
 frs:Frs T s.heap es
 frm:FrmOk T f env
noncomputable def Alike (s s':Shared):Prop:=∃ h tk,s' = { s with heap:=h,toks:=tk }
theorem Alike.refl (s:Shared):Alike s s:=⟨s.heap,s.toks,rfl⟩
theorem Alike.trans {s s' s'':Shared} (x:Alike s s') (y:Alike s' s''):Alike s s'':=by
 obtain ⟨h,t,rfl⟩:=x
 obtain ⟨h',t',rfl⟩:=y
 exact ⟨h',t',rfl⟩
variable (ro:Bool) (f:Frm) (env:Env) (es:List Env)
structure Out (T:Tags) (s:Shared) (T':Tags) (c':Cells) (l':Locs) (s':Shared):Prop where
 step:Step ro (frsOf es) env.locals T s.heap T' s'.heap
 same:Alike s s'
 pre:Pre (w:=w) h₀ T' c' l' s' f env es
inductive OutR {α β:Type} (RR:Tags → β → α → Prop) (T:Tags) (s:Shared) (c:Cells) (l:Locs) (v:β) (u:α) (s':Shared):Prop
 | mk (T':Tags) (o:Out (w:=w) h₀ ro f env es T s T' c l s') (r:RR T' v u):OutR RR T s c l v u s'
inductive ExcR (T:Tags) (s:Shared) (c:Cells) (s':Shared):Value → Prop
 | mk (T':Tags) (e:Addr) (hr:ro = false) (st:Step ro (frsOf es) env.locals T s.heap T' s'.heap) (al:Alike s s') (wd:Wd w h₀ T' c s'.heap) (fr:Frs T' s'.heap es) (lo:Loc T' s'.heap env []) (x:ExcAt K.fault s.heap T' s'.heap env.frame e):ExcR T s c s' (.ref e)
noncomputable def QR {α β:Type} (RR:Tags → β → α → Prop) (T:Tags) (s:Shared) (r:R β) (u:α) (s':Shared):Prop:=match r with
 | .ok v c l=>OutR (w:=w) h₀ ro f env es RR T s c l v u s'
 | .exc _=>False
 | .fail=>False
noncomputable def ER {β:Type} (T:Tags) (s:Shared) (r:R β) (v:Value) (s':Shared):Prop:=match r with
 | .exc c=>ExcR (w:=w) h₀ K ro env es T s c s' v
 | .ok _ _ _=>False
 | .fail=>False
noncomputable def At {α β:Type} (prog:Program) (A:Around) (T:Tags) (c:Cells) (l:Locs) (s:Shared) (t:Sem α) (m:M β) (RR:Tags → β → α → Prop):Prop:=
 m c l ≠ .fail → wpAny (model prog w) A t (QR (w:=w) h₀ ro f env es RR T s (m c l)) (ER (w:=w) h₀ K ro env es T s (m c l)) s
end
section
variable {prog:Program} {w:World} {h₀:Heap} {K:Tbl} {ro:Bool} {f:Frm} {env:Env} {es:List Env} {A:Around} {T:Tags} {c:Cells} {l:Locs} {s:Shared}
theorem Out.le {T':Tags} {c':Cells} {l':Locs} {s':Shared} (P:Pre (w:=w) h₀ T c l s f env es) (o:Out (w:=w) h₀ ro f env es T s T' c' l' s'):T.le T':=o.step.le w P.wd
theorem Out.refl (P:Pre (w:=w) h₀ T c l s f env es):Out (w:=w) h₀ ro f env es T s T c l s:=⟨Step.refl,Alike.refl s,P⟩
theorem Out.trans {T' T'':Tags} {c' c'':Cells} {l' l'':Locs} {s' s'':Shared} (x:Out (w:=w) h₀ ro f env es T s T' c' l' s') (y:Out (w:=w) h₀ ro f env es T' s' T'' c'' l'' s''):Out (w:=w) h₀ ro f env es T s T'' c'' l'' s'':=
 ⟨x.step.trans y.step,x.same.trans y.same,y.pre⟩
theorem OutR.trans {α β:Type} {RR:Tags → β → α → Prop} {T':Tags} {c':Cells} {l':Locs} {s':Shared} (x:Out (w:=w) h₀ ro f env es T s T' c' l' s') {v:β} {u:α} {s'':Shared} :
  OutR (w:=w) h₀ ro f env es RR T' s' c l v u s'' → OutR (w:=w) h₀ ro f env es RR T s c l v u s''
 | mk T'' o r=>mk T'' (x.trans o) r
theorem ExcR.trans {T':Tags} {c':Cells} {l':Locs} {s':Shared} (x:Out (w:=w) h₀ ro f env es T s T' c' l' s') {u:Value} {s'':Shared} :
  ExcR (w:=w) h₀ K ro env es T' s' c s'' u → ExcR (w:=w) h₀ K ro env es T s c s'' u
 | mk T'' e h1 h2 h3 h4 h5 h6 h7=>mk T'' e h1 (x.step.trans h2) (x.same.trans h3) h4 h5 h6 (h7.older x.step.live)
theorem QR.trans {α β:Type} {RR:Tags → β → α → Prop} {T':Tags} {c':Cells} {l':Locs} {s':Shared} (x:Out (w:=w) h₀ ro f env es T s T' c' l' s') {u:α} {s'':Shared} :
  ∀ {r:R β},QR (w:=w) h₀ ro f env es RR T' s' r u s'' → QR (w:=w) h₀ ro f env es RR T s r u s''
 | .ok _ _ _,y=>OutR.trans x y
 | .exc _,y=>y
 | .fail,y=>y
theorem ER.trans {β:Type} {T':Tags} {c':Cells} {l':Locs} {s':Shared} (x:Out (w:=w) h₀ ro f env es T s T' c' l' s') {u:Value} {s'':Shared} :
  ∀ {r:R β},ER (w:=w) h₀ K ro env es T' s' r u s'' → ER (w:=w) h₀ K ro env es T s r u s''
 | .exc _,y=>ExcR.trans x y
 | .ok _ _ _,y=>y
 | .fail,y=>y
theorem At.seq {α β γ δ:Type} {t:Sem α} {k:α → Sem γ} {m:M β} {g:β → M δ} {RR:Tags → β → α → Prop} {Q:γ → Shared → Prop} {E:Value → Shared → Prop}
  (hm:At (w:=w) h₀ K ro f env es prog A T c l s t m RR)
  (hnf:bnd m g c l ≠ .fail)
  (hE:∀ c' v s',m c l = .exc c' → ER (w:=w) h₀ K ro env es T s (β:=δ) (.exc c') v s' → E v s')
  (hk:∀ v c' l' u s' T',m c l = .ok v c' l' → Out (w:=w) h₀ ro f env es T s T' c' l' s' → RR T' v u → g v c' l' ≠ .fail → wpAny (model prog w) A (k u) Q E s') :
  wpAny (model prog w) A t (λ u s'=>wpAny (model prog w) A (k u) Q E s') E s:=by
 have hm':=hm
 unfold At at hm'
 unfold bnd at hnf
 induction e:m c l using Mine.R.casesOn with
 | fail=>rw [e] at hnf; exact absurd rfl hnf
 | exc c'=>
  rw [e] at hm'
  refine wpAny_mono (hm' (λ q=>nomatch q)) (λ zz zz h=>h.elim) λ v s' h=>?_
  exact hE c' v s' e h
 | ok v c' l'=>
  rw [e] at hm' hnf
  refine wpAny_mono (hm' (λ q=>nomatch q)) (λ u s' h=>?_) λ zz zz h=>h.elim
  obtain ⟨T',o,q⟩:=h
  exact hk v c' l' u s' T' e o q hnf
theorem At.bind {α β γ δ:Type} {t:Sem α} {k:α → Sem γ} {m:M β} {g:β → M δ} {RR:Tags → β → α → Prop} {R2:Tags → δ → γ → Prop}
  (hm:At (w:=w) h₀ K ro f env es prog A T c l s t m RR)
  (hk:∀ v c' l' u s' T',Out (w:=w) h₀ ro f env es T s T' c' l' s' → RR T' v u → At (w:=w) h₀ K ro f env es prog A T' c' l' s' (k u) (g v) R2) :
  At (w:=w) h₀ K ro f env es prog A T c l s (t >>= k) (bnd m g) R2:=by
 intro hnf
 refine wpAny_bind (At.seq (g:=g) hm hnf (λ c' v s' e h=>?_) λ v c' l' u s' T' e o q hg=>?_)
 ·have:bnd m g c l = .exc c':=by unfold bnd; rw [e]
  rw [this]; exact h
 ·have:bnd m g c l = g v c' l':=by unfold bnd; rw [e]
  rw [this]
  exact wpAny_mono (hk v c' l' u s' T' o q hg) (λ zz zz h=>h.trans o) λ zz zz h=>h.trans o
theorem At.of {α β:Type} {t:Sem α} {m:M β} {RR:Tags → β → α → Prop} (h:m c l ≠ .fail → wpAny (model prog w) A t (QR (w:=w) h₀ ro f env es RR T s (m c l)) (ER (w:=w) h₀ K ro env es T s (m c l)) s) :
  At (w:=w) h₀ K ro f env es prog A T c l s t m RR:=h
theorem At.ok {α β:Type} {t:Sem α} {m:M β} {RR:Tags → β → α → Prop} {v:β} {c':Cells} {l':Locs} (e:m c l = .ok v c' l')
  (h:∀ E,wpAny (model prog w) A t (OutR (w:=w) h₀ ro f env es RR T s c' l' v) E s):At (w:=w) h₀ K ro f env es prog A T c l s t m RR:=by
 intro zz
 rw [e]
 exact h _
theorem At.eq {α β:Type} {t t':Sem α} {m:M β} {RR:Tags → β → α → Prop} (e:t = t') (h:At (w:=w) h₀ K ro f env es prog A T c l s t' m RR):At (w:=w) h₀ K ro f env es prog A T c l s t m RR:=e ▸ h
theorem At.no {α β:Type} {t:Sem α} {m:M β} {RR:Tags → β → α → Prop} (e:m c l = .fail):At (w:=w) h₀ K ro f env es prog A T c l s t m RR:=λ h=>absurd e h
theorem At.mono {α β:Type} {t:Sem α} {m:M β} {RR R2:Tags → β → α → Prop} (h:At (w:=w) h₀ K ro f env es prog A T c l s t m RR) (hr:∀ T v u,RR T v u → R2 T v u):At (w:=w) h₀ K ro f env es prog A T c l s t m R2:=by
 intro hnf
 refine wpAny_mono (h hnf) (λ u s'=>?_) λ zz zz q=>q
 induction m c l using Mine.R.casesOn with
 | ok v c' l'=>exact λ q=>by induction q using Mine.OutR.casesOn with | mk T' o q=>exact ⟨T',o,hr _ _ _ q⟩
 | _=>exact id
theorem gd_by {β:Type} {G:R β → Prop} {b:Bool} {m:M β} (hf:G .fail) (h:b = true → G (m c l)):G (gd b m c l):=by
 cases b
 ·exact hf
 ·exact h rfl
theorem opt_by {γ β:Type} {G:R β → Prop} {o:Option γ} {g:γ → M β} (hf:G .fail) (h:∀ v,o = some v → G (g v c l)):G (opt o g c l):=by
 cases o
 ·exact hf
 ·exact h _ rfl
section bricks
variable {α β γ:Type} {t:Sem α} {m m':M β} {RR:Tags → β → α → Prop} {b:Bool}
theorem At.gd (h:b = true → At (w:=w) h₀ K ro f env es prog A T c l s t m RR):At (w:=w) h₀ K ro f env es prog A T c l s t (gd b m) RR:=by
 cases b
 ·exact At.no rfl
 ·exact h rfl
theorem At.sw (h:b = true → At (w:=w) h₀ K ro f env es prog A T c l s t m RR) (h':b = false → At (w:=w) h₀ K ro f env es prog A T c l s t m' RR):At (w:=w) h₀ K ro f env es prog A T c l s t (sw b m m') RR:=by
 cases b
 ·exact h' rfl
 ·exact h rfl
theorem At.opt {o:Option γ} {g:γ → M β} (h:∀ v,o = some v → At (w:=w) h₀ K ro f env es prog A T c l s t (g v) RR):At (w:=w) h₀ K ro f env es prog A T c l s t (opt o g) RR:=by
 cases o
 ·exact At.no rfl
 ·exact h _ rfl
theorem At.onO {o:Option γ} {g:γ → M β} (h:∀ v,o = some v → At (w:=w) h₀ K ro f env es prog A T c l s t (g v) RR) (h':o = none → At (w:=w) h₀ K ro f env es prog A T c l s t m RR):At (w:=w) h₀ K ro f env es prog A T c l s t (onO o g m) RR:=by
 cases o
 ·exact h' rfl
 ·exact h _ rfl
theorem At.optC {o:Cells → Locs → Option γ} {g:γ → M β} (h:∀ v,o c l = some v → At (w:=w) h₀ K ro f env es prog A T c l s t (g v) RR):At (w:=w) h₀ K ro f env es prog A T c l s t (λ c l=>Mine.opt (o c l) g c l) RR:=
 At.opt (o:=o c l) h
theorem At.cell {a:Nat} {g:Cell → M β} (h:∀ v,c[a]? = some v → At (w:=w) h₀ K ro f env es prog A T c l s t (g v) RR):At (w:=w) h₀ K ro f env es prog A T c l s t (Mine.cell a g) RR:=
 At.opt (o:=c[a]?) h
end bricks
theorem Pre.push {o:Obj} (P:Pre (w:=w) h₀ T c l s f env es) (t:Tag) {c':Cells} {tk:Nat} (W:Wd w h₀ (T.put s.heap.objs.size t) c' (s.heap.push o)) :
  Out (w:=w) h₀ ro f env es T s (T.put s.heap.objs.size t) c' l { s with heap:=s.heap.push o,toks:=tk }:=by
 have S:Step ro (frsOf es) env.locals T s.heap (T.put s.heap.objs.size t) (s.heap.push o):=Step.push w P.wd t o
 have le:=S.le w P.wd
 have L:Loc (T.put s.heap.objs.size t) (s.heap.push o) env l:=P.loc.keep le (S.tag _ P.loc.live) λ zz zz zz e zz=>Heap.get?_push_of_some o e
 exact ⟨S,⟨_,_,rfl⟩,W,L,P.frs.step S L,P.frm.mono le⟩
theorem Pre.tok (P:Pre (w:=w) h₀ T c l s f env es) (tk:Nat):Out (w:=w) h₀ ro f env es T s T c l { s with toks:=tk }:=⟨Step.refl,⟨_,_,rfl⟩,P.wd,P.loc,P.frs,P.frm⟩
theorem Pre.grow {h':Heap} (P:Pre (w:=w) h₀ T c l s f env es) (hk:∀ b o,s.heap.get? b = some o → h'.get? b = some o) {tk:Nat}:Out (w:=w) h₀ ro f env es T s T c l { s with heap:=h',toks:=tk }:=by
 have S:Step ro (frsOf es) env.locals T s.heap T h':=Step.grow hk
 have L:Loc T h' env l:=P.loc.keep (Tags.le.refl T) rfl λ o zz zz e zz=>hk _ o e
 exact ⟨S,⟨_,_,rfl⟩,P.wd.free w λ a o zz e=>hk a o e,L,P.frs.step S L,P.frm⟩
theorem Pre.free {o:Obj} (P:Pre (w:=w) h₀ T c l s f env es) {tk:Nat}:Out (w:=w) h₀ ro f env es T s T c l { s with heap:=s.heap.push o,toks:=tk }:=P.grow λ zz zz e=>Heap.get?_push_of_some o e
theorem Pre.froz {o:Obj} (P:Pre (w:=w) h₀ T c l s f env es) (hf:o.isFreed = false) {tk:Nat} :
  Out (w:=w) h₀ ro f env es T s (T.put s.heap.objs.size (.froz o)) c l { s with heap:=s.heap.push o,toks:=tk }:=P.push _ (P.wd.push_froz w o hf)
theorem Pre.cell {o:Obj} {x:Cell} (P:Pre (w:=w) h₀ T c l s f env es) (hf:o.isFreed = false) (hx:CellAt w (T.put s.heap.objs.size (.cell c.length)) (s.heap.push o) c.length x) {tk:Nat} :
  Out (w:=w) h₀ ro f env es T s (T.put s.heap.objs.size (.cell c.length)) (c ++ [x]) l { s with heap:=s.heap.push o,toks:=tk }:=
 P.push _ ((P.wd.push w o).retag w (P.wd.fresh w) (by rw [Heap.get?_push_size _ hf]; rfl) hx)
theorem Pre.upd {a:Addr} {i:Nat} {x:Cell} {h':Heap} (P:Pre (w:=w) h₀ T c l s f env es) (ha:T a = .cell i ∨ T a = .sub i) (hs:Heap.SameBut a s.heap h') (hl:(h'.get? a).isSome = true) (hx:CellAt w T h' i x) {tk:Nat} :
  Out (w:=w) h₀ false f env es T s T (c.set i x) l { s with heap:=h',toks:=tk }:=by
 have S:Step false (frsOf es) env.locals T s.heap T h':=Step.upd ha hs hl
 have ne:env.locals ≠ a:=λ q=>by rw [← q,P.loc.free] at ha; rcases ha with ha | ha <;> cases ha
 have L:Loc T h' env l:=P.loc.keep (Tags.le.refl T) rfl λ o zz zz e zz=>(hs.2 _ ne).trans e
 exact ⟨S,⟨_,_,rfl⟩,P.wd.upd w ha hs hl hx,L,P.frs.step S L,P.frm⟩
theorem lookup_putLoc (x:Str) (v:PV) (y:Str):∀ l:Locs,(putLoc x v l).lookup y = if y = x then some v else l.lookup y
 | []=>by
  unfold putLoc
  rw [List.lookup_cons]
  by_cases q:y = x
  ·subst q; simp
  ·rw [beq_false_of_ne q,if_neg q]
 | (z,b) :: r=>by
  unfold putLoc
  by_cases hz:z = x
  ·rw [if_pos hz]
   subst hz
   simp only [List.lookup_cons]
   by_cases q:y = z
   ·subst q; simp
   ·rw [beq_false_of_ne q,if_neg q]
  ·rw [if_neg hz,List.lookup_cons,List.lookup_cons,lookup_putLoc x v y r]
   by_cases q:y = z
   ·subst q; simp [hz]
   ·rw [beq_false_of_ne q]
theorem Pre.store {x:Str} {v:PV} {u:Value} {h':Heap} {m:Str → Option Value} (P:Pre (w:=w) h₀ T c l s f env es) (hm:s.heap.Ns env.locals m) (hr:∀ y p,l.lookup y = some p → ∃ q,m y = some q ∧ Rel T p q)
  (hv:Rel T v u) (hn:h'.Ns env.locals (λ y=>if y = x then some u else m y)) (hs:Heap.SameBut env.locals s.heap h') {tk:Nat} :
  Out (w:=w) h₀ ro f env es T s T c (putLoc x v l) { s with heap:=h',toks:=tk }:=by
 have S:Step ro (frsOf es) env.locals T s.heap T h':=Step.own hs (nsLive hn)
 have key:∀ y p,(putLoc x v l).lookup y = some p → ∃ q,(if y = x then some u else m y) = some q ∧ Rel T p q:=by
  intro y p e
  rw [lookup_putLoc] at e
  by_cases q:y = x
  ·rw [if_pos q] at e ⊢; cases e; exact ⟨u,rfl,hv⟩
  ·rw [if_neg q] at e ⊢; exact hr y p e
 have L:Loc T h' env (putLoc x v l):=⟨P.loc.free,_,hn,key⟩
 exact ⟨S,⟨_,_,rfl⟩,P.wd.same w P.loc.free hs,L,P.frs.step S L,P.frm⟩
end
end Mine
end
section
open PySem PySem.W PySem.Calls PyProof.Rows
set_option backward.match.sparseCases false
namespace Mine
noncomputable abbrev RV:Tags → PV → Value → Prop:=λ T p u=>Rel T p u
noncomputable abbrev RB:Tags → Bool → Value → Prop:=λ zz b r=>r = Value.bool b
noncomputable abbrev RU {α β:Type}:Tags → α → β → Prop:=λ zz zz zz=>True
section
variable {prog:Program} {w:World} {h₀:Heap} {K:Tbl} {ro:Bool} {f:Frm} {env:Env} {es:List Env} {A:Around} {T:Tags} {c:Cells} {l:Locs} {s:Shared} {d:Nat}
theorem at_newTuple (P:Pre (w:=w) h₀ T c l s f env es) {ps:List PV} {vs:List Value} (R:RelL T ps vs) (hl:ps.length ≤ sizeLine) {tk:Nat} {E:Value → Shared → Prop} :
  wpAny (model prog w) A (newTuple vs) (OutR (w:=w) h₀ ro f env es RV T s c l (.tup ps)) E { s with toks:=tk }:=by
 have o:=P.froz (ro:=ro) (o:=tupObj vs.toArray 0) rfl (tk:=tk)
 exact wpAny_newTuple ⟨_,o,SeqFz.mk s.heap.objs.size 0 vs.toArray (Tags.put_self ..) (RelL.mono (o.le P) _ _ R)⟩ (by rw [R.length]; exact hl)
theorem at_newList (P:Pre (w:=w) h₀ T c l s f env es) {ps:List PV} {vs:List Value} (R:RelL T ps vs) (hl:ps.length ≤ sizeLine) {tk:Nat} {E:Value → Shared → Prop} :
  wpAny (model prog w) A (newList vs) (OutR (w:=w) h₀ ro f env es RV T s (c ++ [.list ps]) l (.ref c.length)) E { s with toks:=tk }:=by
 have o:=P.cell (ro:=ro) (o:=lstObj vs.toArray 0) (x:=.list ps) rfl
  ⟨s.heap.objs.size,0,vs.toArray,Tags.put_self ..,Heap.get?_push_size _ rfl,RelL.mono (P.wd.push_le w _) _ _ R⟩ (tk:=tk)
 exact wpAny_newList ⟨_,o,RefC.mk s.heap.objs.size (Tags.put_self ..)⟩ (by rw [R.length]; exact hl)
theorem at_const {k:Const} {n:Nat} {pos:Pos} (P:Pre (w:=w) h₀ T c l s f env es):At (w:=w) h₀ K ro f env es prog A T c l s (eval (.Constant k n pos) env) (constV k) RV:=by
 induction k using PySem.Const.casesOn with
 | none=>exact At.ok rfl λ E=>wpAny_Constant_none ⟨T,Out.refl P,rfl⟩
 | bool b=>exact At.ok rfl λ E=>wpAny_Constant_bool ⟨T,Out.refl P,rfl⟩
 | int i=>exact At.ok rfl λ E=>wpAny_Constant_int ⟨T,P.tok _,⟨_⟩⟩
 | str x=>exact At.ok rfl λ E=>wpAny_Constant_str ⟨T,P.tok _,⟨_⟩⟩
 | _=>exact At.no rfl
inductive IsLst (T:Tags) (h:Heap) (i:Nat) (xs:List PV):Value → Prop
 | mk (a:Addr) (n:Nat) (vs:Array Value) (ta:T a = .cell i) (hg:h.get? a = some (lstObj vs n)) (hr:RelL T xs vs.toList):IsLst T h i xs (.ref a)
inductive IsDct (w:World) (T:Tags) (h:Heap) (i:Nat) (xs:List (Key × PV)):Value → Prop
 | mk (a:Addr) (n:Nat) (ents:Array DictEntry) (ta:T a = .cell i) (hg:h.get? a = some (dctObj ents n)) (hr:EntsRel w T xs ents.toList) (hn:(xs.map (·.1)).Nodup):IsDct w T h i xs (.ref a)
inductive IsIns (T:Tags) (h:Heap) (i:Nat) (C:Addr) (xs:List (Str × PV)):Value → Prop
 | mk (a d:Addr) (n:Nat) (ents:List DictEntry) (ta:T a = .cell i) (td:T d = .sub i) (hg:h.get? a = some (instObj C d)) (hd:h.get? d = some (dictOf ents n)) (hr:AttrRel T xs ents) (hn:(xs.map (·.1)).Nodup):IsIns T h i C xs (.ref a)
theorem Pre.lst (P:Pre (w:=w) h₀ T c l s f env es) {i:Nat} {u:Value} {xs:List PV} (h:RefC T i u) (e:c[i]? = some (.list xs)):IsLst T s.heap i xs u:=by
 induction h using Mine.RefC.casesOn with
 | mk a ta=>
  induction P.wd.cells i _ e using Mine.LstC.casesOn with
  | mk a' n vs ta' hg hr=>exact P.wd.uniq _ _ i ta ta' ▸ ⟨a',n,vs,ta',hg,hr⟩
theorem Pre.dct (P:Pre (w:=w) h₀ T c l s f env es) {i:Nat} {u:Value} {xs:List (Key × PV)} (h:RefC T i u) (e:c[i]? = some (.dict xs)):IsDct w T s.heap i xs u:=by
 induction h using Mine.RefC.casesOn with
 | mk a ta=>
  induction P.wd.cells i _ e using Mine.DctC.casesOn with
  | mk a' n vs ta' hg hr hn=>exact P.wd.uniq _ _ i ta ta' ▸ ⟨a',n,vs,ta',hg,hr,hn⟩
theorem Pre.ins (P:Pre (w:=w) h₀ T c l s f env es) {i:Nat} {u:Value} {C:Addr} {xs:List (Str × PV)} (h:RefC T i u) (e:c[i]? = some (.inst C xs)):IsIns T s.heap i C xs u:=by
 induction h using Mine.RefC.casesOn with
 | mk a ta=>
  induction P.wd.cells i _ e using Mine.InsC.casesOn with
  | mk a' dd n vs ta' td hg hd hr hn=>exact P.wd.uniq _ _ i ta ta' ▸ ⟨a',dd,n,vs,ta',td,hg,hd,hr,hn⟩
theorem lstAt {h:Heap} {a:Addr} {vs:Array Value} {n:Nat} (e:h.get? a = some (lstObj vs n)):h.IsList a vs:=⟨_,e,rfl,n,rfl⟩
theorem lim_le {n:Nat} (h:n ≤ lim):n ≤ sizeLine:=by rw [sizeLine_eq]; unfold lim at h; lia
theorem RelL.size {T:Tags} {ps:List PV} {vs:Array Value} (h:RelL T ps vs.toList):vs.size = ps.length:=h.length
theorem RelL.fits {T:Tags} {ps:List PV} {vs:Array Value} (h:RelL T ps vs.toList) (hl:ps.length ≤ lim):vs.size ≤ sizeLine:=by rw [h.size]; exact lim_le hl
theorem RelL.at_ {T:Tags} {ps:List PV} {vs:Array Value} (h:RelL T ps vs.toList) {i:Nat} {p:PV} (e:ps[i]? = some p):∃ v,vs[i]? = some v ∧ Rel T p v:=(h.get e).imp λ zz h=>⟨Array.getElem?_toList ▸ h.1,h.2⟩
section values
variable {α β:Type} {tt:Value → Sem α} {RR:Tags → β → α → Prop} {x:PV} {u:Value}
theorem At.int {g:Int → M β} (hx:Rel T x u) (h:∀ i t,At (w:=w) h₀ K ro f env es prog A T c l s (tt (.int i t)) (g i) RR):At (w:=w) h₀ K ro f env es prog A T c l s (tt u) (Mine.opt (intOf x) g) RR:=by
 induction x using Mine.PV.casesOn with
 | int i=>induction hx using Mine.IntV.casesOn with | mk t=>exact h i t
 | _=>exact At.no rfl
theorem At.str {g:Str → M β} (hx:Rel T x u) (h:∀ i t,At (w:=w) h₀ K ro f env es prog A T c l s (tt (.str i t)) (g i) RR):At (w:=w) h₀ K ro f env es prog A T c l s (tt u) (Mine.opt (strOf x) g) RR:=by
 induction x using Mine.PV.casesOn with
 | str i=>induction hx using Mine.StrV.casesOn with | mk t=>exact h i t
 | _=>exact At.no rfl
theorem At.bool {g:Bool → M β} (hx:Rel T x u) (h:∀ b,At (w:=w) h₀ K ro f env es prog A T c l s (tt (.bool b)) (g b) RR):At (w:=w) h₀ K ro f env es prog A T c l s (tt u) (Mine.opt (boolOf x) g) RR:=by
 induction x using Mine.PV.casesOn with
 | bool b=>subst hx; exact h b
 | _=>exact At.no rfl
theorem At.tup {g:List PV → M β} (hx:Rel T x u) (h:∀ xs a n vs,T a = .froz (tupObj vs n) → RelL T xs vs.toList → At (w:=w) h₀ K ro f env es prog A T c l s (tt (.ref a)) (g xs) RR):At (w:=w) h₀ K ro f env es prog A T c l s (tt u) (Mine.opt (tupOf x) g) RR:=by
 induction x using Mine.PV.casesOn with
 | tup xs=>induction hx using Mine.SeqFz.casesOn with | mk a n vs ta hr=>exact h xs a n vs ta hr
 | _=>exact At.no rfl
theorem At.ref {g:Nat → M β} (hx:Rel T x u) (h:∀ i,RefC T i u → At (w:=w) h₀ K ro f env es prog A T c l s (tt u) (g i) RR):At (w:=w) h₀ K ro f env es prog A T c l s (tt u) (Mine.opt (refOf x) g) RR:=by
 induction x using Mine.PV.casesOn with
 | ref i=>exact h i hx
 | _=>exact At.no rfl
theorem At.lstC {g:List PV → M β} {y:Cell} {i:Nat} (P:Pre (w:=w) h₀ T c l s f env es) (hx:RefC T i u) (hc:c[i]? = some y) (h:∀ xs a n vs,c[i]? = some (.list xs) → T a = .cell i → s.heap.get? a = some (lstObj vs n) → RelL T xs vs.toList → At (w:=w) h₀ K ro f env es prog A T c l s (tt (.ref a)) (g xs) RR):At (w:=w) h₀ K ro f env es prog A T c l s (tt u) (Mine.opt (lstOf y) g) RR:=by
 induction y using Mine.Cell.casesOn with
 | list xs=>induction P.lst hx hc using Mine.IsLst.casesOn with | mk a n vs ta hg hr=>exact h xs a n vs hc ta hg hr
 | _=>exact At.no rfl
theorem At.dctC {g:List (Key × PV) → M β} {y:Cell} {i:Nat} (P:Pre (w:=w) h₀ T c l s f env es) (hx:RefC T i u) (hc:c[i]? = some y) (h:∀ xs a n vs,c[i]? = some (.dict xs) → T a = .cell i → s.heap.get? a = some (dctObj vs n) → EntsRel w T xs vs.toList → (xs.map (·.1)).Nodup → At (w:=w) h₀ K ro f env es prog A T c l s (tt (.ref a)) (g xs) RR):At (w:=w) h₀ K ro f env es prog A T c l s (tt u) (Mine.opt (dctOf y) g) RR:=by
 induction y using Mine.Cell.casesOn with
 | dict xs=>induction P.dct hx hc using Mine.IsDct.casesOn with | mk a n vs ta hg hr hn=>exact h xs a n vs hc ta hg hr hn
 | _=>exact At.no rfl
theorem At.lst {g:Nat → List PV → M β} (P:Pre (w:=w) h₀ T c l s f env es) (hx:Rel T x u) (h:∀ i xs a n vs,c[i]? = some (.list xs) → T a = .cell i → s.heap.get? a = some (lstObj vs n) → RelL T xs vs.toList → At (w:=w) h₀ K ro f env es prog A T c l s (tt (.ref a)) (g i xs) RR):At (w:=w) h₀ K ro f env es prog A T c l s (tt u) (onLst x g) RR:=
 At.ref hx λ i hi=>At.cell λ y hy=>At.lstC P hi hy λ xs a n vs hc ta hg hr=>h i xs a n vs hc ta hg hr
theorem At.dct {g:Nat → List (Key × PV) → M β} (P:Pre (w:=w) h₀ T c l s f env es) (hx:Rel T x u) (h:∀ i xs a n vs,c[i]? = some (.dict xs) → T a = .cell i → s.heap.get? a = some (dctObj vs n) → EntsRel w T xs vs.toList → (xs.map (·.1)).Nodup → At (w:=w) h₀ K ro f env es prog A T c l s (tt (.ref a)) (g i xs) RR):At (w:=w) h₀ K ro f env es prog A T c l s (tt u) (onDct x g) RR:=
 At.ref hx λ i hi=>At.cell λ y hy=>At.dctC P hi hy λ xs a n vs hc ta hg hr hn=>h i xs a n vs hc ta hg hr hn
theorem At.ins {g:Nat → Addr × List (Str × PV) → M β} (P:Pre (w:=w) h₀ T c l s f env es) (hx:Rel T x u) (h:∀ i C xs a,c[i]? = some (.inst C xs) → IsIns T s.heap i C xs (.ref a) → At (w:=w) h₀ K ro f env es prog A T c l s (tt (.ref a)) (g i (C,xs)) RR):At (w:=w) h₀ K ro f env es prog A T c l s (tt u) (onIns x g) RR:=
 At.ref hx λ i hi=>At.cell λ y hy=>by
  induction y using Mine.Cell.casesOn with
  | inst C xs=>exact At.opt λ p e=>by cases e; induction P.ins hi hy using Mine.IsIns.casesOn with | mk a d n en ta td hg hd hr hn=>exact h i C xs a hy ⟨a,d,n,en,ta,td,hg,hd,hr,hn⟩
  | _=>exact At.no rfl
theorem At.one {tt:List Value → Sem α} {vs:List PV} {us:List Value} {g:PV → M β} (hv:RelL T vs us) (h:∀ x u,Rel T x u → At (w:=w) h₀ K ro f env es prog A T c l s (tt [u]) (g x) RR):At (w:=w) h₀ K ro f env es prog A T c l s (tt us) (Mine.one vs g) RR:=by
 induction vs using List.casesOn with
 | nil=>exact At.no rfl
 | cons x r=>
  refine At.gd λ hr=>?_
  induction r using List.casesOn with
  | nil=>induction hv.inv using Mine.ConsV.casesOn with | mk u t hu ht=>subst ht; exact h x u hu
  | cons=>cases hr
theorem At.val {t:Sem α} {v:β} (h:∀ E,wpAny (model prog w) A t (OutR (w:=w) h₀ ro f env es RR T s c l v) E s):At (w:=w) h₀ K ro f env es prog A T c l s t (Mine.ret v) RR:=At.ok rfl h
end values
structure GlobOk (h₀:Heap) (K:Tbl) (mg mb:Str → Option Value):Prop where
 g:h₀.Ns mainGlobals mg
 b:h₀.Ns builtinsNs mb
 at_:∀ x v,K.glob x = some v → ∃ u,(mg x = some u ∨ (mg x = none ∧ mb x = some u)) ∧ ∀ T:Tags,(∀ a o,h₀.get? a = some o → T a = .froz o) → Rel T v u
variable {mg mb:Str → Option Value}
theorem Pre.box (P:Pre (w:=w) h₀ T c l s f env es) {x:Str} {i:Nat} (hi:f.cells.lookup x = some i) {y:Cell} (hy:c[i]? = some y) {o:Option PV} (ho:boxOf y = some o):∃ a u,env.cells.lookup x = some a ∧ T a = .cell i ∧ s.heap.IsCell a u ∧ OptRel T o u:=by
 induction y using Mine.Cell.casesOn with
 | box v=>
  cases ho
  refine Classical.byContradiction λ hcps=>?_
  obtain ⟨a,ea,ta⟩:=P.frm.cells x i hi
  refine hcps ?_
  clear hcps
  induction P.wd.cells i _ hy using Mine.BoxC.casesOn with
  | mk a' u ta' hc hu=>exact ⟨a,u,ea,ta,P.wd.uniq _ _ i ta' ta ▸ hc,hu⟩
 | _=>cases ho
theorem Pre.kindOf (P:Pre (w:=w) h₀ T c l s f env es) (x:Str):env.kindOf x = f.scope.names.lookup x:=by unfold Env.kindOf; rw [P.frm.scope]
theorem at_ldName (G:GlobOk h₀ K mg mb) (P:Pre (w:=w) h₀ T c l s f env es) {x:Str}:At (w:=w) h₀ K ro f env es prog A T c l s (loadName env x) (ldName K f x) RV:=by
 refine At.gd λ hn=>?_
 have hcd:(x == "__classdict__") = false:=beq_false_of_ne (of_decide_eq_true (Bool.and_eq_true_iff.mp hn).2)
 have hk:=P.frm.kind
 refine At.opt λ kd e=>?_
 have hkind:=(P.kindOf x).trans e
 have box:∀ i,f.cells.lookup x = some i → (∀ a u,env.cells.lookup x = some a → s.heap.IsCell a (some u) → ∀ Q E,Q u s → wpAny (model prog w) A (loadName env x) Q E s) → At (w:=w) h₀ K ro f env es prog A T c l s (loadName env x) (ldB i) RV:=λ i hi h=>
  At.cell λ y hy=>At.opt λ o ho=>At.opt λ v hv=>At.val λ E=>by
   subst hv
   refine Classical.byContradiction λ hcps=>?_
   obtain ⟨a,u,ea,ta,hc,u',rfl,hr⟩:=P.box hi hy ho
   refine hcps ?_
   clear hcps
   exact h a u' ea hc _ E ⟨T,Out.refl P,hr⟩
 induction kd using PySem.NameKind.casesOn with
 | «local»=>
  refine Classical.byContradiction λ hcps=>?_
  obtain ⟨m,ln,lr⟩:=P.loc.ns
  refine hcps ?_
  clear hcps
  exact At.optC (o:=λ zz l=>l.lookup x) λ v hv=>At.val λ E=>let ⟨u,hu,hr⟩:=lr x v hv; wpAny_loadName_local hk hkind ln hu ⟨T,Out.refl P,hr⟩
 | cell=>exact At.opt λ i hi=>box i hi λ a u ea hc Q E q=>wpAny_loadName_cell hk hkind ea hc q
 | free=>exact At.opt λ i hi=>box i hi λ a u ea hc Q E q=>wpAny_loadName_free hk hkind ea hc q hcd
 | globalImplicit=>
  refine At.opt λ v hv=>At.val λ E=>?_
  refine Classical.byContradiction λ hcps=>?_
  obtain ⟨u,hu,hr⟩:=G.at_ x v hv
  refine hcps ?_
  clear hcps
  have q:OutR (w:=w) h₀ ro f env es RV T s c l v u s:=⟨T,Out.refl P,hr T P.wd.old⟩
  have kp:=P.wd.keeps w
  have hg:s.heap.Ns env.globals mg:=P.frm.glob ▸ G.g.keeps kp
  have hb:s.heap.Ns env.builtins mb:=P.frm.bi ▸ G.b.keeps kp
  have hbk:env.blockKind = .function:=by unfold Env.blockKind; rw [hk]; rfl
  unfold loadName
  simp only [hk,hbk,hkind,ScopeKind.isAnnotationScope,Bool.false_and,Bool.false_eq_true,if_false]
  rcases hu with hu | ⟨h1,h2⟩
  ·exact loadGlobal_global hg hu q
  ·exact loadGlobal_builtin hg h1 hb h2 q
 | globalExplicit=>exact At.no rfl
theorem and_l {a b:Bool} (h:(a && b) = true):a = true:=(Bool.and_eq_true_iff.mp h).1
theorem and_r {a b:Bool} (h:(a && b) = true):b = true:=(Bool.and_eq_true_iff.mp h).2
theorem not_t {a:Bool} (h:(!a) = true):a = false:=by cases a; rfl; cases h
theorem smallI_of {a:Int} (h:smallI a = true):-(2 ^ 62) < a ∧ a < 2 ^ 62:=⟨of_decide_eq_true (and_l h),of_decide_eq_true (and_r h)⟩
theorem Pre.int (P:Pre (w:=w) h₀ T c l s f env es) {i:Int} {t:Tok} {tk:Nat}:OutR (w:=w) h₀ ro f env es RV T s c l (.int i) (.int i t) { s with toks:=tk }:=⟨T,P.tok _,⟨_⟩⟩
theorem at_binI {op:Operator} {a b:Int} {t t':Tok} (P:Pre (w:=w) h₀ T c l s f env es):At (w:=w) h₀ K ro f env es prog A T c l s (binaryOp op (.int a t) (.int b t')) (binI op a b) RV:=by
 induction op using PySem.Operator.casesOn with
 | Add=>exact At.val λ E=>add_int P.int
 | Sub=>exact At.val λ E=>sub_int' P.int
 | Mult=>
  refine At.gd λ h=>At.val λ E=>?_
  refine Classical.byContradiction λ hcps=>?_
  obtain ⟨a1,a2⟩:=smallI_of (and_l h)
  obtain ⟨b1,b2⟩:=smallI_of (and_r h)
  refine hcps ?_
  clear hcps
  exact mul_int P.int (by mul_fits)
 | FloorDiv=>
  refine At.gd λ h=>At.val λ E=>?_
  refine Classical.byContradiction λ hcps=>?_
  obtain ⟨a1,a2⟩:=smallI_of (and_r h)
  refine hcps ?_
  clear hcps
  cases of_decide_eq_true (and_l h)
  exact floordiv_int (by decide) P.int (.inl (PyProof.noPylong_small (by lia)))
 | Mod=>exact At.gd λ h=>At.val λ E=>mod_int' (λ q=>by rw [q] at h; cases h) P.int
 | _=>exact At.no rfl
theorem at_cat (P:Pre (w:=w) h₀ T c l s f env es) {x y:PV} {u v:Value} (hx:Rel T x u) (hy:Rel T y v):At (w:=w) h₀ K ro f env es prog A T c l s (binaryOp .Add u v) (catV x y) RV:=by
 refine At.lst (tt:=λ u=>binaryOp .Add u v) P hx λ zz xs a n vs zz zz ga ra=>At.lst (tt:=binaryOp .Add (.ref a)) P hy λ zz ys b m us zz zz gb rb=>At.gd λ hl=>At.ok rfl λ E=>?_
 have hsz:vs.size + us.size ≤ sizeLine:=by rw [ra.size,rb.size]; exact lim_le (of_decide_eq_true hl)
 refine concat_meets ⟨_,ga,rfl⟩ ⟨_,gb,rfl⟩ noFill_list_add seq_list_add PySem.F.slot_list_add PySem.F.entry_list_add (PySem.F.args_list_add_2 _ _) (list_addW a b vs us n m none none #[] #[] hsz) ⟨ga,gb,?_⟩
 have o:=P.cell (ro:=ro) (o:=lstObj (vs ++ us) 0) (x:=.list (xs ++ ys)) rfl
  ⟨s.heap.objs.size,0,vs ++ us,Tags.put_self ..,Heap.get?_push_size _ rfl,by rw [Array.toList_append]; exact RelL.mono (P.wd.push_le w _) _ _ (ra.append rb)⟩ (tk:=s.toks)
 exact ⟨_,o,RefC.mk s.heap.objs.size (Tags.put_self ..)⟩
theorem at_binV (hA:AOk A d es) (P:Pre (w:=w) h₀ T c l s f env es) {op:Operator} {x y:PV} {u v:Value} (hx:Rel T x u) (hy:Rel T y v):At (w:=w) h₀ K ro f env es prog A T c l s (binaryOp op u v) (binV op x y) RV:=by
 have other:intOf x = none → At (w:=w) h₀ K ro f env es prog A T c l s (binaryOp op u v) (binV op x y) RV:=λ e=>by
  unfold binV
  rw [e]
  induction op using PySem.Operator.casesOn with
  | Add=>exact at_cat P hx hy
  | _=>exact At.no rfl
 induction x using Mine.PV.casesOn with
 | int a=>induction hx using Mine.IntV.casesOn with | mk t=>exact At.int (tt:=binaryOp op (.int a t)) hy λ b t'=>at_binI P
 | _=>exact other rfl
end
end Mine
end
section
open PySem PySem.W PySem.Calls PyProof.Rows
set_option backward.match.sparseCases false
namespace Mine
mutual
theorem reads_of {T:Tags} {h:Heap} (hf:∀ a o,T a = .froz o → h.get? a = some o):∀ {p:PV} {u:Value} {d:PyData},toPy p = some d → Rel T p u → ∃ as,Reads h u d as
 | .none,_,_,e,r=>by cases e; subst r; exact ⟨_,.none⟩
 | .bool _,_,_,e,r=>by cases e; subst r; exact ⟨_,.bool _⟩
 | .int _,_,_,e,r=>by
  cases e
  induction r using Mine.IntV.casesOn with | mk t=>exact ⟨_,.int _ _⟩
 | .str _,_,_,e,r=>by
  cases e
  induction r using Mine.StrV.casesOn with | mk t=>exact ⟨_,.str _ _⟩
 | .tup l,_,_,e,r=>by
  induction r using Mine.SeqFz.casesOn with
  | mk a n vs ta hr=>
   obtain ⟨ds,e1,rfl⟩:=Option.map_eq_some_iff.mp e
   exact (reads_ofs hf e1 hr).imp λ zz q=>.tuple (hf _ _ ta) rfl rfl q
 | .klist _,_,_,e,_=>nomatch e
 | .ref _,_,_,e,_=>nomatch e
 | .val _,_,_,e,_=>nomatch e
 | .rng ..,_,_,e,_=>nomatch e
 | .items _,_,_,e,_=>nomatch e
 | .clo ..,_,_,e,_=>nomatch e
theorem reads_ofs {T:Tags} {h:Heap} (hf:∀ a o,T a = .froz o → h.get? a = some o):∀ {p:List PV} {u:List Value} {d:List PyData},toPys p = some d → RelL T p u → ∃ as,ReadsAll h u d as
 | [],_,_,e,r=>by cases e; subst r; exact ⟨_,.nil⟩
 | x :: t,_,_,e,r=>by
  obtain ⟨a,e1,e2⟩:=Option.bind_eq_some_iff.mp e
  obtain ⟨ds,e3,rfl⟩:=Option.map_eq_some_iff.mp e2
  induction r.inv using Mine.ConsV.casesOn with
  | mk u vs h k=>
   obtain ⟨as,q1⟩:=reads_of hf e1 h
   obtain ⟨bs,q2⟩:=reads_ofs hf e3 k
   exact ⟨_,.cons q1 q2⟩
end
inductive Dat (h:Heap) (x:PV) (u:Value):Prop
 | mk (d:PyData) (as:List Addr) (e:toPy x = some d) (r:Reads h u d as) (hc:d.canLay0 = true) (hd:d.depth ≤ 60):Dat h x u
inductive Dats (h:Heap) (x:List PV) (u:List Value):Prop
 | mk (d:List PyData) (as:List Addr) (e:toPys x = some d) (r:ReadsAll h u d as) (hc:PyData.canLayAll0 d = true) (hd:PyData.depthAll d ≤ 60):Dats h x u
theorem small_inv {x:PV} (h:smallD x = true):∃ d,toPy x = some d ∧ d.canLay0 = true ∧ d.depth ≤ 60:=by
 unfold smallD at h
 induction e:toPy x using Option.casesOn with
 | none=>rw [e] at h; cases h
 | some d=>rw [e] at h; exact ⟨d,rfl,and_l h,of_decide_eq_true (and_r h)⟩
theorem dat_of {T:Tags} {h:Heap} (hf:∀ a o,T a = .froz o → h.get? a = some o) {x:PV} {u:Value} (r:Rel T x u) (hx:smallD x = true):Dat h x u:=
 let ⟨d,e,hc,hd⟩:=small_inv hx
 let ⟨as,q⟩:=reads_of hf e r
 ⟨d,as,e,q,hc,hd⟩
theorem dats_of {T:Tags} {h:Heap} (hf:∀ a o,T a = .froz o → h.get? a = some o):∀ {xs:List PV} {us:List Value},RelL T xs us → xs.all smallD = true → Dats h xs us
 | [],_,r,_=>by subst r; exact ⟨[],_,rfl,.nil,rfl,Nat.zero_le _⟩
 | x :: t,_,r,hx=>by
  rw [List.all_cons] at hx
  induction r.inv using Mine.ConsV.casesOn with
  | mk u vs hu k=>
   induction dat_of hf hu (and_l hx) using Mine.Dat.casesOn with
   | mk d as e q hc hd=>
    induction dats_of hf k (and_r hx) using Mine.Dats.casesOn with
    | mk ds bs e2 q2 hc2 hd2=>exact ⟨d :: ds,_,Option.bind_eq_some_iff.mpr ⟨d,e,Option.map_eq_some_iff.mpr ⟨ds,e2,rfl⟩⟩,.cons q q2,Bool.and_eq_true_iff.mpr ⟨hc,hc2⟩,Nat.max_le.mpr ⟨hd,hd2⟩⟩
theorem some_beq {a:Bool}:(some a == some true) = a:=by cases a <;> rfl
theorem eqData_of {x y:PV} {a b:PyData} (hx:toPy x = some a) (hy:toPy y = some b):eqData x y = PyData.eqv a b:=by
 unfold eqData
 rw [hx,hy]
 exact some_beq
theorem toPy_tup {x:List PV} {a:List PyData} (h:toPys x = some a):toPy (.tup x) = some (.tuple a):=by
 show (toPys x).map PyData.tuple = _
 rw [h]; rfl
theorem eqDatas_of {x y:List PV} {a b:List PyData} (hx:toPys x = some a) (hy:toPys y = some b):eqData (.tup x) (.tup y) = PyData.eqvAll a b:=eqData_of (toPy_tup hx) (toPy_tup hy)
theorem any_of {x:PV} {d:PyData} (hx:toPy x = some d):∀ {xs:List PV} {ds:List PyData},toPys xs = some ds → (ds.any λ y=>PyData.eqv y d) = xs.any λ v=>eqData v x
 | [],_,h=>by cases h; rfl
 | y :: r,_,h=>by
  obtain ⟨a,e1,e2⟩:=Option.bind_eq_some_iff.mp h
  obtain ⟨ds,e3,rfl⟩:=Option.map_eq_some_iff.mp e2
  rw [List.any_cons,List.any_cons,eqData_of e1 hx,any_of hx e3]
theorem shaped_of {d:PyData} (hc:d.canLay0 = true) (hd:d.depth ≤ 60):SeqAt.shaped d = true:=Bool.and_eq_true_iff.mpr ⟨hc,decide_eq_true (Nat.le_trans hd (by decide))⟩
theorem shapedL {d:List PyData} (hc:PyData.canLayAll0 d = true) (hd:PyData.depthAll d ≤ 60):SeqAt.shaped (.list d) = true:=Bool.and_eq_true_iff.mpr ⟨hc,decide_eq_true (Nat.le_trans (Nat.succ_le_succ hd) (by decide))⟩
end Mine
end
section
open PySem PySem.W PySem.Calls PyProof.Rows
set_option backward.match.sparseCases false
namespace Mine
section
variable {prog:Program} {w:World} {α:Type} [DecidableEq α]
structure Emb (knd:KeyKind prog w α) (emb:α → Key) (is:Key → Bool):Prop where
 inj:∀ a b,emb a = emb b → a = b
 of:∀ j,is j = true → ∃ k,j = emb k
 yes:∀ k,is (emb k) = true
 rel:∀ T k v hs,KeyRel w T (emb k) v hs ↔ knd.is k v = true ∧ hs = knd.hash k
theorem embS (prog:Program) (w:World):Emb (strKind prog w) Key.s isS:=
 ⟨λ zz zz h=>by injection h,λ j h=>by (cases j <;> first | exact ⟨_,rfl⟩ | cases h),λ zz=>rfl,λ zz zz zz zz=>Iff.rfl⟩
theorem embI (prog:Program) (w:World):Emb (intKind prog w) Key.i isI:=
 ⟨λ zz zz h=>by injection h,λ j h=>by (cases j <;> first | exact ⟨_,rfl⟩ | cases h),λ zz=>rfl,λ zz zz zz zz=>Iff.rfl⟩
inductive KEnts (emb:α → Key) (T:Tags):List (Key × PV) → List (α × Value) → Prop
 | nil:KEnts emb T [] []
 | cons (k:α) (v:Value) {p:PV} {r:List (Key × PV)} {t:List (α × Value)} (h:Rel T p v) (q:KEnts emb T r t):KEnts emb T ((emb k,p) :: r) ((k,v) :: t)
variable {knd:KeyKind prog w α} {emb:α → Key} {is:Key → Bool} {T T':Tags} {es:List (Key × PV)} {kvs:List (α × Value)}
theorem KEnts.mono (x:T.le T') (h:KEnts emb T es kvs):KEnts emb T' es kvs:=by
 induction h with
 | nil=>exact .nil
 | cons k v h _ ih=>exact .cons k v (Rel.mono x _ _ h) ih
theorem KEnts.length (h:KEnts emb T es kvs):kvs.length = es.length:=by
 induction h with
 | nil=>rfl
 | cons k v h _ ih=>exact congrArg Nat.succ ih
theorem KEnts.keys (h:KEnts emb T es kvs):es.map (·.1) = (kvs.map (·.1)).map emb:=by
 induction h with
 | nil=>rfl
 | cons k v h _ ih=>exact congrArg (emb k :: ·) ih
theorem nodup_map {β:Type} {g:α → β} (hg:∀ a b,g a = g b → a = b):∀ {l:List α},(l.map g).Nodup ↔ l.Nodup
 | []=>by simp
 | a :: r=>by
  simp only [List.map_cons,List.nodup_cons,nodup_map hg,List.mem_map]
  constructor
  ·rintro ⟨h1,h2⟩; exact ⟨λ hm=>h1 ⟨a,hm,rfl⟩,h2⟩
  ·rintro ⟨h1,h2⟩; exact ⟨λ ⟨b,hb,e⟩=>h1 (hg _ _ e ▸ hb),h2⟩
theorem KEnts.nodup (M:Emb knd emb is) {es:List (Key × PV)} {kvs:List (α × Value)} (h:KEnts emb T es kvs):(es.map (·.1)).Nodup ↔ (kvs.map (·.1)).Nodup:=by
 rw [h.keys]; exact nodup_map M.inj
inductive EntsTo (knd:KeyKind prog w α) (emb:α → Key) (T:Tags) (es:List (Key × PV)) (ents:List DictEntry):Prop
 | mk (kvs:List (α × Value)) (p:Pairs knd ents kvs) (k:∀ e ∈ ents,∃ k,knd.is k e.key = true ∧ e.hash = knd.hash k) (q:KEnts emb T es kvs):EntsTo knd emb T es ents
theorem ents_to (M:Emb knd emb is):∀ {es:List (Key × PV)} {ents:List DictEntry},es.all (λ e=>is e.1) = true → EntsRel w T es ents → EntsTo knd emb T es ents
 | [],_,_,h=>by subst h; exact ⟨[],.nil,(λ zz h=>nomatch h),.nil⟩
 | (j,p) :: r,_,ha,h=>by
  rw [List.all_cons] at ha
  refine Classical.byContradiction λ hcps=>?_
  obtain ⟨k,rfl⟩:=M.of j (and_l ha)
  refine hcps ?_
  clear hcps
  induction show ConsE _ (EntsRel w T r) _ from h using Mine.ConsE.casesOn with
  | mk e t h2 h4=>
   induction ents_to M (and_r ha) h4 using Mine.EntsTo.casesOn with
   | mk kvs q1 q2 q3=>
    have kk:=(M.rel T k e.key e.hash).mp h2.1
    exact ⟨(k,e.val) :: kvs,.cons kk.1 rfl q1,λ y hy=>(List.mem_cons.mp hy).elim (λ q=>q ▸ ⟨k,kk⟩) (q2 y),.cons k _ h2.2 q3⟩
theorem ents_from (M:Emb knd emb is) {es:List (Key × PV)} {kvs:List (α × Value)} (h:KEnts emb T es kvs):∀ {ents:List DictEntry},Pairs knd ents kvs → (∀ e ∈ ents,∃ k,knd.is k e.key = true ∧ e.hash = knd.hash k) → EntsRel w T es ents:=by
 induction h with
 | nil=>intro ents hp zz; cases hp; rfl
 | cons k v h q ih=>
  intro ents hp hk
  cases hp with
  | @cons e _ es _ q1 q2 q3=>
   refine Classical.byContradiction λ hcps=>?_
   obtain ⟨k',k1,k2⟩:=hk e List.mem_cons_self
   refine hcps ?_
   clear hcps
   exact ConsE.mk e es ⟨(M.rel T k e.key e.hash).mpr ⟨q1,(knd.inj _ _ _ k1 q1:k' = k) ▸ k2⟩,(show e.val = v from q2) ▸ h⟩ (ih q3 λ y hy=>hk y (List.mem_cons_of_mem _ hy))
inductive DictTo (knd:KeyKind prog w α) (emb:α → Key) (T:Tags) (h:Heap) (a:Addr) (n:Nat) (es:List (Key × PV)):Prop
 | mk (kvs:List (α × Value)) (d:h.DictAt knd a kvs n) (k:KEnts emb T es kvs):DictTo knd emb T h a n es
theorem dict_to (M:Emb knd emb is) {h:Heap} {a:Addr} {n:Nat} {ents:Array DictEntry} (g:h.get? a = some (dctObj ents n)) (r:EntsRel w T es ents.toList) (hn:(es.map (·.1)).Nodup) (ha:es.all (λ e=>is e.1) = true) :
  DictTo knd emb T h a n es:=by
 induction ents_to M ha r using Mine.EntsTo.casesOn with
 | mk kvs q1 q2 q3=>exact ⟨kvs,⟨_,ents,g,⟨rfl,rfl,rfl⟩,rfl,λ e he=>q2 e (Array.mem_toList_iff.mpr he),q1,(q3.nodup M).mp hn⟩,q3⟩
theorem dict_from (M:Emb knd emb is) {h:Heap} {a:Addr} {i:Nat} (ta:T a = .cell i) (d:h.DictOf knd a kvs) (k:KEnts emb T es kvs):CellAt w T h i (.dict es):=by
 refine Classical.byContradiction λ hcps=>?_
 obtain ⟨o,ents,ep,ho,⟨hc,hd,hs⟩,hdat,hk,hp,hn⟩:=d
 refine hcps ?_
 clear hcps
 have:o = dctObj ents ep:=by obtain ⟨c,dd,dt,sl⟩:=o; simp only at hc hd hs hdat; subst hc hd hs hdat; rfl
 exact ⟨a,ep,ents,ta,this ▸ ho,ents_from M k hp (λ e he=>hk e (Array.mem_toList_iff.mp he)),(k.nodup M).mpr hn⟩
theorem Emb.dec (M:Emb knd emb is) (a b:α):decide (emb a = emb b) = decide (a = b):=by
 by_cases q:a = b
 ·rw [q,decide_eq_true rfl,decide_eq_true rfl]
 ·rw [decide_eq_false q,decide_eq_false λ e=>q (M.inj _ _ e)]
theorem KEnts.valueAt_some (M:Emb knd emb is) {k:α} (h:KEnts emb T es kvs):∀ {p:PV},look (emb k) es = some p → ∃ v,valueAt kvs k = some v ∧ Rel T p v:=by
 induction h with
 | nil=>intro p e; cases e
 | @cons k' v q r t h _ ih=>
  intro p e
  unfold look at e ih
  unfold valueAt at ih ⊢
  rw [List.find?_cons,M.dec] at e
  rw [List.find?_cons]
  dsimp only
  generalize decide (k' = k) = b at e ⊢
  cases b
  ·exact ih e
  ·cases e; exact ⟨v,rfl,h⟩
theorem KEnts.valueAt_isSome (M:Emb knd emb is) {k:α} (h:KEnts emb T es kvs):(valueAt kvs k).isSome = es.any (λ e=>decide (e.1 = emb k)):=by
 induction h with
 | nil=>rfl
 | @cons k' v q r t h _ ih=>
  unfold valueAt at ih ⊢
  rw [List.any_cons,← ih,M.dec,List.find?_cons]
  dsimp only
  cases decide (k' = k) <;> rfl
theorem KEnts.stored (M:Emb knd emb is) {k:α} {p:PV} {v:Value} (h:KEnts emb T es kvs) (hn:(kvs.map (·.1)).Nodup) (hv:Rel T p v):KEnts emb T (putKey (emb k) p es) (PySem.stored kvs k v):=by
 unfold PySem.stored
 induction h with
 | nil=>exact .cons k v hv .nil
 | @cons k' v' q r t h h4 ih=>
  rw [List.map_cons,List.nodup_cons] at hn
  unfold putKey
  rw [List.any_cons,List.map_cons]
  by_cases q:k' = k
  ·subst q
   rw [if_pos rfl,decide_eq_true rfl,Bool.true_or,if_pos rfl,if_pos rfl,map_store_of_not_mem t _ v hn.1]
   exact .cons k' v hv h4
  ·rw [if_neg λ e=>q (M.inj _ _ e),decide_eq_false q,Bool.false_or,if_neg q]
   have:=ih hn.2
   split at this
   ·rename_i hany; rw [if_pos hany]; exact .cons k' v' h this
   ·rename_i hany; rw [if_neg hany]; exact .cons k' v' h this
end
end Mine
end
section
open PySem PySem.W PySem.Calls PyProof.Rows
set_option backward.match.sparseCases false
namespace Mine
section
variable {prog:Program} {w:World} {h₀:Heap} {K:Tbl} {ro:Bool} {f:Frm} {env:Env} {es:List Env} {A:Around} {T:Tags} {c:Cells} {l:Locs} {s:Shared} {d:Nat}
theorem Pre.notSys (P:Pre (w:=w) h₀ T c l s f env es) (hs:(h₀.get? sysModules).isSome = true) {a:Addr} {i:Nat} (ta:T a = .cell i):(a == sysModules) = false:=by
 obtain ⟨o,ho⟩:=Option.isSome_iff_exists.mp hs
 refine beq_false_of_ne λ q=>?_
 have:=P.wd.old _ o ho
 rw [← q,ta] at this; cases this
theorem bif_some {α:Type} {b:Bool} {a v:α} (h:(bif b then some a else none) = some v):b = true ∧ a = v:=by
 cases b
 ·exact nS h
 ·exact ⟨rfl,Option.some.inj h⟩
theorem strOf_some {x:PV} {k:Str} (h:strOf x = some k):x = .str k:=by
 cases x <;> first | exact congrArg PV.str (Option.some.inj h) | exact nS h
theorem intOf_some {x:PV} {k:Int} (h:intOf x = some k):x = .int k:=by
 cases x <;> first | exact congrArg PV.int (Option.some.inj h) | exact nS h
theorem tupOf_some {x:PV} {k:List PV} (h:tupOf x = some k):x = .tup k:=by
 cases x <;> first | exact congrArg PV.tup (Option.some.inj h) | exact nS h
theorem isNil_some {x:PV} (h:isNil x = true):x = .none:=by
 cases x <;> first | rfl | exact fT h
theorem isEmpty_inv {α:Type} {l:List α} (h:l.isEmpty = true):l = []:=by
 cases l
 ·rfl
 ·exact fT h
theorem keyT_some:∀ {l:List PV} {k:Key},keyT l = some k → ∃ op a b,k = .t op a b ∧ l = [.str op,.tup [],.int a,.int b] ∧ PyData.strOk op = true
 | [],_,h=>nomatch h
 | x :: r,_,h=>by
  refine Classical.byContradiction λ hcps=>?_
  obtain ⟨op,e1,h⟩:=Option.bind_eq_some_iff.mp h
  refine hcps ?_
  clear hcps
  rcases r with _ | ⟨y,_ | ⟨p,r⟩⟩
  ·exact nS h
  ·exact nS h
  refine Classical.byContradiction λ hcps=>?_
  obtain ⟨a,e2,h⟩:=Option.bind_eq_some_iff.mp h
  refine hcps ?_
  clear hcps
  rcases r with _ | ⟨q,r⟩
  ·exact nS h
  refine Classical.byContradiction λ hcps=>?_
  obtain ⟨b,e3,h⟩:=Option.bind_eq_some_iff.mp h
  obtain ⟨g,rfl⟩:=bif_some h
  refine hcps ?_
  clear hcps
  have h1:=and_l g
  refine Classical.byContradiction λ hcps=>?_
  obtain ⟨z,e4,e5⟩:=(Option.any_eq_true _ _).mp (and_r h1)
  refine hcps ?_
  clear hcps
  rw [strOf_some e1,intOf_some e2,intOf_some e3,tupOf_some e4,isEmpty_inv (and_l h1),isEmpty_inv e5]
  exact ⟨op,a,b,rfl,rfl,and_r g⟩
inductive KeyV:PV → Key → Prop
 | s (x:Str):KeyV (.str x) (.s x)
 | i (n:Int):KeyV (.int n) (.i n)
 | t (op:Str) (a b:Int) (h:PyData.strOk op = true):KeyV (.tup [.str op,.tup [],.int a,.int b]) (.t op a b)
theorem keyOf_some {x:PV} {k:Key} (h:keyOf x = some k):KeyV x k:=by
 induction x using Mine.PV.casesOn with
 | str z=>cases h; exact .s z
 | int z=>cases h; exact .i z
 | tup z=>
  obtain ⟨op,a,b,rfl,rfl,q⟩:=keyT_some h
  exact .t op a b q
 | _=>exact nS h
theorem Pre.dat (P:Pre (w:=w) h₀ T c l s f env es) {x:PV} {u:Value} (r:Rel T x u) (h:smallD x = true):Dat s.heap x u:=dat_of P.wd.froz r h
theorem Pre.dats (P:Pre (w:=w) h₀ T c l s f env es) {x:List PV} {u:List Value} (r:RelL T x u) (h:x.all smallD = true):Dats s.heap x u:=dats_of P.wd.froz r h
theorem KEnts.uncons {T:Tags} {k:Str} {p:PV} {r:List (Key × PV)} {kvs:List (Str × Value)} (h:KEnts Key.s T ((.s k,p) :: r) kvs):∃ v t,kvs = (k,v) :: t ∧ Rel T p v ∧ KEnts Key.s T r t:=by
 cases h with | cons k v h q=>exact ⟨v,_,rfl,h,q⟩
theorem isS_some {k:Key} (h:isS k = true):∃ x,k = .s x:=by
 cases k <;> first | exact ⟨_,rfl⟩ | exact fT h
inductive EqE:List (Key × PV) → List (Key × PV) → Prop
 | nil:EqE [] []
 | cons (k:Str) (p q:PV) {r t:List (Key × PV)} (h1:smallD p = true) (h2:smallD q = true) (h3:eqData p q = true) (h:EqE r t):EqE ((.s k,p) :: r) ((.s k,q) :: t)
theorem eqE_of:∀ {xs ys:List (Key × PV)},eqEntries xs ys = true → EqE xs ys
 | [],_,h=>by cases isEmpty_inv h; exact .nil
 | _ :: _,[],h=>nomatch h
 | (j,p) :: r,(j',q) :: t,h=>by
  have h1:=and_l h; have h2:=and_l h1; have h3:=and_l h2; have h4:=and_l h3
  obtain ⟨k,rfl⟩:=isS_some (and_r h4)
  cases of_decide_eq_true (and_l h4)
  exact .cons k p q (and_r h3) (and_r h2) (and_r h1) (eqE_of (and_r h))
theorem eqE_hits (P:Pre (w:=w) h₀ T c l s f env es) (hA:AOk A d es) {xs ys:List (Key × PV)} (h:EqE xs ys):∀ {ka kb:List (Str × Value)},KEnts Key.s T xs ka → KEnts Key.s T ys kb →
  ∀ pre:List (Str × Value),(∀ k ∈ ka.map (·.1),k ∉ pre.map (·.1)) → (ka.map (·.1)).Nodup → KeqHits A.in1 s (pre ++ kb) ka true:=by
 induction h with
 | nil=>intro ka kb ea zz pre zz zz; cases ea; exact .nil
 | cons k p q e3 e4 e5 _ ih=>
  intro ka kb ea eb pre hpre hn
  refine Classical.byContradiction λ hcps=>?_
  obtain ⟨v,ka,rfl,h3,h4⟩:=ea.uncons
  obtain ⟨v',kb,rfl,g3,g4⟩:=eb.uncons
  refine hcps ?_
  clear hcps
  rw [List.map_cons,List.nodup_cons] at hn
  have hk:valueAt (pre ++ (k,v') :: kb) k = some v':=by
   have:pre.find? (λ kv=>decide (kv.1 = k)) = none:=List.find?_eq_none.mpr λ y hy e=>hpre k List.mem_cons_self (List.mem_map.mpr ⟨y,hy,of_decide_eq_true e⟩)
   unfold valueAt
   rw [List.find?_append,this,Option.none_or,List.find?_cons]
   dsimp only
   rw [decide_eq_true rfl]
   rfl
  induction P.dat h3 e3 using Mine.Dat.casesOn with
  | mk da as ea ra hca hda=>
   induction P.dat g3 e4 using Mine.Dat.casesOn with
   | mk db bs eb rb hcb hdb=>
    have at_:=keq_at (A:=A) (s:=s) ra rb (shaped_of hca hda) (shaped_of hcb hdb) hA.in1
    rw [← eqData_of ea eb,e5] at at_
    have ih:=ih h4 g4 (pre ++ [(k,v')]) (λ y hy hm=>?_) hn.2
    ·rw [List.append_assoc] at ih
     exact KeqHits.hit hk at_ ih
    ·rw [List.map_append,List.mem_append] at hm
     exact hm.elim (hpre y (List.mem_cons_of_mem _ hy)) λ hm=>hn.1 ((List.mem_singleton.mp hm:y = k) ▸ hy)
theorem EqE.len {xs ys:List (Key × PV)} (h:EqE xs ys):xs.all (λ e=>isS e.1) = true ∧ ys.all (λ e=>isS e.1) = true ∧ xs.length = ys.length:=by
 induction h with
 | nil=>exact ⟨rfl,rfl,rfl⟩
 | cons k p q _ _ _ _ ih=>exact ⟨ih.1,ih.2.1,congrArg Nat.succ ih.2.2⟩
structure EqOk (prog:Program) (w:World) (A:Around) (s:Shared) (u v:Value) (b:Bool):Prop where
 eq:∀ {Q:Value → Shared → Prop} {E:Value → Shared → Prop},Q (.bool b) s → wpAny (model prog w) A (compareOp .Eq u v) Q E s
 ne:∀ {Q:Value → Shared → Prop} {E:Value → Shared → Prop},Q (.bool (!b)) s → wpAny (model prog w) A (compareOp .NotEq u v) Q E s
theorem eq_small (hA:AOk A d es) (P:Pre (w:=w) h₀ T c l s f env es) {x y:PV} {u v:Value} (hx:Rel T x u) (hy:Rel T y v) {b:Bool} (e:(bif smallD x && smallD y then some (eqData x y) else none) = some b):EqOk prog w A s u v b:=by
 obtain ⟨h,rfl⟩:=bif_some e
 induction P.dat hx (and_l h) using Mine.Dat.casesOn with
 | mk da as ea ra hca hda=>
  induction P.dat hy (and_r h) using Mine.Dat.casesOn with
  | mk db bs eb rb hcb hdb=>
   rw [eqData_of ea eb]
   exact ⟨eq_dataH ra rb (shaped_of hca hda) (shaped_of hcb hdb) hA.units64,ne_dataH ra rb (shaped_of hca hda) (shaped_of hcb hdb) hA.units64⟩
theorem eq_ref (hs:(h₀.get? sysModules).isSome = true) (hA:AOk A d es) (P:Pre (w:=w) h₀ T c l s f env es) {i j:Nat} {u v:Value} (hx:RefC T i u) (hy:RefC T j v) {b:Bool} (e:eqR c i j = some b):EqOk prog w A s u v b:=by
 obtain ⟨y,hi,e⟩:=Option.bind_eq_some_iff.mp e
 obtain ⟨z,hj,e⟩:=Option.bind_eq_some_iff.mp e
 induction y using Mine.Cell.casesOn with
 | list xs=>
  induction z using Mine.Cell.casesOn with
  | list ys=>
   obtain ⟨h,rfl⟩:=bif_some e
   induction P.lst hx hi using Mine.IsLst.casesOn with
   | mk a n vs ta ga ra=>
    induction P.lst hy hj using Mine.IsLst.casesOn with
    | mk b' m us tb gb rb=>
     induction P.dats ra (and_l h) using Mine.Dats.casesOn with
     | mk da as ea r1 hca hda=>
      induction P.dats rb (and_r h) using Mine.Dats.casesOn with
      | mk db bs eb r2 hcb hdb=>
       rw [eqDatas_of ea eb]
       exact ⟨eq_dataH (.list ga rfl rfl r1) (.list gb rfl rfl r2) (shapedL hca hda) (shapedL hcb hdb) hA.units64,ne_dataH (.list ga rfl rfl r1) (.list gb rfl rfl r2) (shapedL hca hda) (shapedL hcb hdb) hA.units64⟩
  | _=>exact nS e
 | dict xs=>
  induction z using Mine.Cell.casesOn with
  | dict ys=>
   obtain ⟨h,rfl⟩:=bif_some e
   have h:=eqE_of (and_r h)
   induction P.dct hx hi using Mine.IsDct.casesOn with
   | mk a n vs ta ga ra na=>
    induction P.dct hy hj using Mine.IsDct.casesOn with
    | mk b' m us tb gb rb nb=>
     induction dict_to (embS prog w) ga ra na h.len.1 using Mine.DictTo.casesOn with
     | mk ka da ea=>
      induction dict_to (embS prog w) gb rb nb h.len.2.1 using Mine.DictTo.casesOn with
      | mk kb db eb=>
       have hits:=eqE_hits P hA h ea eb [] (λ zz zz q=>nomatch q) ((ea.nodup (embS prog w)).mp na)
       have hlen:(ka.length == kb.length) = true:=by rw [ea.length,eb.length,h.len.2.2]; exact beq_self_eq_true _
       exact ⟨λ q=>keq_eq (P.notSys hs ta) (P.notSys hs tb) da.dictOf db.dictOf hA.units (λ zz=>hits) (by rw [hlen]; exact q),λ q=>keq_ne (P.notSys hs ta) (P.notSys hs tb) da.dictOf db.dictOf hA.units (λ zz=>hits) (by rw [hlen]; exact q)⟩
  | _=>exact nS e
 | _=>cases z <;> exact nS e
theorem at_eqV (hs:(h₀.get? sysModules).isSome = true) (hA:AOk A d es) (P:Pre (w:=w) h₀ T c l s f env es) {x y:PV} {u v:Value} (hx:Rel T x u) (hy:Rel T y v) {b:Bool} (e:eqV c x y = some b):EqOk prog w A s u v b:=by
 induction x using Mine.PV.casesOn with
 | ref i=>
  induction y using Mine.PV.casesOn with
  | ref j=>exact eq_ref hs hA P hx hy e
  | _=>exact eq_small hA P hx hy e
 | _=>exact eq_small hA P hx hy e
structure InOk (prog:Program) (w:World) (A:Around) (s:Shared) (u v:Value) (b:Bool):Prop where
 in_:∀ {Q:Value → Shared → Prop} {E:Value → Shared → Prop},(∀ tk,Q (.bool b) { s with toks:=tk }) → wpAny (model prog w) A (compareOp .In u v) Q E s
 nin:∀ {Q:Value → Shared → Prop} {E:Value → Shared → Prop},(∀ tk,Q (.bool (!b)) { s with toks:=tk }) → wpAny (model prog w) A (compareOp .NotIn u v) Q E s
theorem AOk.room2 (hA:AOk A d es) {xs:List PyData} {dd:PyData} (hd:dd.depth ≤ 60):A.units + 1 + min (PyData.depthAll xs) dd.depth < cLine:=by
 have h2:min (PyData.depthAll xs) dd.depth ≤ dd.depth:=Nat.min_le_right _ _
 have:=hA.un
 lia
theorem at_memV (hs:(h₀.get? sysModules).isSome = true) (hA:AOk A d es) (P:Pre (w:=w) h₀ T c l s f env es) {x y:PV} {u v:Value} (hx:Rel T x u) (hy:Rel T y v) {b:Bool} (e:memV c x y = some b):InOk prog w A s u v b:=by
 induction y using Mine.PV.casesOn with
 | tup ys=>
  obtain ⟨h,rfl⟩:=bif_some e
  induction P.dat hx (and_l h) using Mine.Dat.casesOn with
  | mk da as ea ra hca hda=>
   induction hy using Mine.SeqFz.casesOn with
   | mk a n vs ta hr=>
    induction P.dats hr (and_r h) using Mine.Dats.casesOn with
    | mk db bs eb rb hcb hdb=>
     rw [← any_of ea eb]
     have rt:Reads s.heap (.ref a) (.tuple db) bs:=.tuple (P.wd.froz _ _ ta) rfl rfl rb
     exact ⟨λ q=>SeqAt.in_tuple_reads rt ra hcb hca (hA.room2 hda) (q _),λ q=>SeqAt.notIn_tuple_reads rt ra hcb hca (hA.room2 hda) (q _)⟩
 | ref i=>
  obtain ⟨z,hi,e⟩:=Option.bind_eq_some_iff.mp e
  induction z using Mine.Cell.casesOn with
  | list ys=>
   obtain ⟨h,rfl⟩:=bif_some e
   induction P.dat hx (and_l h) using Mine.Dat.casesOn with
   | mk da as ea ra hca hda=>
    induction P.lst hy hi using Mine.IsLst.casesOn with
    | mk a n vs ta ga hr=>
     induction P.dats hr (and_r h) using Mine.Dats.casesOn with
     | mk db bs eb rb hcb hdb=>
      rw [← any_of ea eb]
      have rt:Reads s.heap (.ref a) (.list db) (a :: bs):=.list ga rfl rfl rb
      exact ⟨λ q=>SeqAt.in_list_reads rt ra hcb hca (hA.room2 hda) (q _),λ q=>SeqAt.notIn_list_reads rt ra hcb hca (hA.room2 hda) (q _)⟩
  | dict ents=>
   obtain ⟨k,hk,e⟩:=Option.bind_eq_some_iff.mp (show (strOf x).bind _ = some b from e)
   obtain ⟨h,rfl⟩:=bif_some e
   cases strOf_some hk
   induction hx using Mine.StrV.casesOn with
   | mk t=>
    induction P.dct hy hi using Mine.IsDct.casesOn with
    | mk a n us ta ga ra na=>
     induction dict_to (embS prog w) ga ra na h using Mine.DictTo.casesOn with
     | mk ka da ea=>
      have hkey:(PySem.strKind prog w).is k (.str k t) = true:=decide_eq_true rfl
      rw [← ea.valueAt_isSome (embS prog w)]
      exact ⟨λ q=>wpAny_in_of hkey (P.notSys hs ta) da.dictOf.mapOf (q _),λ q=>wpAny_notIn_of hkey (P.notSys hs ta) da.dictOf.mapOf (q _)⟩
  | _=>exact nS e
 | _=>exact nS e
theorem Pre.bool (P:Pre (w:=w) h₀ T c l s f env es) (b:Bool) (tk:Nat):OutR (w:=w) h₀ ro f env es RB T s c l b (.bool b) { s with toks:=tk }:=⟨T,P.tok tk,rfl⟩
theorem at_cmpI (P:Pre (w:=w) h₀ T c l s f env es) {op:CmpOp} {x y:PV} {u v:Value} {p:Int → Int → Bool} (hp:∀ a t b t' Q E,Q (.bool (p a b)) s → wpAny (model prog w) A (compareOp op (.int a t) (.int b t')) Q E s) (hx:Rel T x u) (hy:Rel T y v) :
  At (w:=w) h₀ K ro f env es prog A T c l s (compareOp op u v) (cmpI x y p) RB:=
 At.int (tt:=λ u=>compareOp op u v) hx λ a t=>At.int (tt:=λ v=>compareOp op (.int a t) v) hy λ b t'=>At.val λ E=>hp a t b t' _ E (P.bool _ _)
theorem at_cmpV (hs:(h₀.get? sysModules).isSome = true) (hA:AOk A d es) (P:Pre (w:=w) h₀ T c l s f env es) {op:CmpOp} {x y:PV} {u v:Value} (hx:Rel T x u) (hy:Rel T y v) :
  At (w:=w) h₀ K ro f env es prog A T c l s (compareOp op u v) (cmpV op x y) RB:=by
 induction op using PySem.CmpOp.casesOn with
 | Eq=>exact At.optC (o:=λ c zz=>eqV c x y) λ b e=>At.val λ E=>(at_eqV hs hA P hx hy e).eq (P.bool b _)
 | NotEq=>exact At.optC (o:=λ c zz=>eqV c x y) λ b e=>At.val λ E=>(at_eqV hs hA P hx hy e).ne (P.bool _ _)
 | Lt=>exact at_cmpI P (λ zz zz zz zz zz zz=>lt_int) hx hy
 | LtE=>exact at_cmpI P (λ zz zz zz zz zz zz=>le_int) hx hy
 | Gt=>exact at_cmpI P (λ zz zz zz zz zz zz=>gt_int) hx hy
 | Is=>
  refine At.gd λ h=>At.val λ E=>?_
  cases isNil_some (and_l h)
  cases isNil_some (and_r h)
  subst hx; subst hy; exact is_none (P.bool true _)
 | In=>exact At.optC (o:=λ c zz=>memV c x y) λ b e=>At.val λ E=>(at_memV hs hA P hx hy e).in_ λ tk=>P.bool b tk
 | NotIn=>exact At.optC (o:=λ c zz=>memV c x y) λ b e=>At.val λ E=>(at_memV hs hA P hx hy e).nin λ tk=>P.bool _ tk
 | _=>exact At.no rfl
end
end Mine
end
section
open PySem PySem.W PySem.Calls PyProof.Rows
set_option backward.match.sparseCases false
namespace Mine
section
variable {prog:Program} {w:World} {h₀:Heap} {K:Tbl} {ro:Bool} {f:Frm} {env:Env} {es:List Env} {A:Around} {T:Tags} {c:Cells} {l:Locs} {s:Shared} {d:Nat}
theorem At.hold {α β:Type} {t:Sem α} {m:M β} {vs:List Value} {RR:Tags → β → α → Prop} (h:At (w:=w) h₀ K ro f env es prog A T c l s t m RR):At (w:=w) h₀ K ro f env es prog A T c l s (holding vs t) m RR:=
 λ hnf=>wpAny_holding (h hnf)
theorem At.pos {α β:Type} {k:Unit → Sem α} {m:M β} {p:Pos} {RR:Tags → β → α → Prop} (h:At (w:=w) h₀ K ro f env es prog A T c l s (k ()) m RR):At (w:=w) h₀ K ro f env es prog A T c l s (standAt p >>= k) m RR:=
 λ hnf=>wpAny_bind (wpAny_standAt (h hnf))
theorem At.oper {β:Type} {t:Sem Value} {m:M β} {vs:List Value} {RR:Tags → β → Value → Prop} (h:At (w:=w) h₀ K ro f env es prog A T c l s t m RR):At (w:=w) h₀ K ro f env es prog A T c l s (operate vs t) m RR:=
 λ hnf=>wpAny_operating (h hnf)
theorem idx_seq {n:Nat} {i:Int} {j:Nat} (h:idx n i = some j):seqIndex? i n = some j ∧ j < n ∧ ((0 ≤ i ∧ j = i.toNat) ∨ (i < 0 ∧ -(n:Int) ≤ i ∧ j = (i + n).toNat)):=by
 unfold idx at h
 unfold seqIndex?
 split at h
 ·rename_i h0
  split at h
  ·rename_i h1
   injection h with h
   have hn:¬ i < 0:=by lia
   simp only [if_neg hn]
   rw [if_pos (by simp; lia),h]
   exact ⟨rfl,by lia,.inl ⟨h0,rfl⟩⟩
  ·cases h
 ·rename_i h0
  split at h
  ·rename_i h1
   injection h with h
   have hn:i < 0:=by lia
   simp only [if_pos hn]
   rw [if_pos (by simp; lia),h]
   exact ⟨rfl,by lia,.inr ⟨hn,by lia,rfl⟩⟩
  ·cases h
theorem lim_fit {n:Nat} (h:n ≤ lim):n < 2 ^ 62:=by unfold lim at h; lia
theorem item_list {E:Value → Shared → Prop} {Q:Value → Shared → Prop} {a:Addr} {vs:Array Value} {n:Nat} {xs:List PV} {i:Int} {t:Tok} {j:Nat} {p:PV} (g:s.heap.get? a = some (lstObj vs n)) (r:RelL T xs vs.toList) (hl:xs.length ≤ lim)
  (hj:idx xs.length i = some j) (hp:xs[j]? = some p) (h:∀ u,Rel T p u → Q u s):wpAny (model prog w) A (getItem (.ref a) (.int i t)) Q E s:=by
 refine Classical.byContradiction λ hcps=>?_
 obtain ⟨zz,hlt,q⟩:=idx_seq hj
 refine hcps ?_
 clear hcps
 have hf:=lim_fit hl
 have e:=r.size
 refine Classical.byContradiction λ hcps=>?_
 obtain ⟨u,hu,ru⟩:=r.at_ hp
 refine hcps ?_
 clear hcps
 rcases q with ⟨q1,q2⟩ | ⟨q1,q2,q3⟩
 ·exact wpAny_getItem_list (lstAt g) q1 (by lia) (q2 ▸ hu) (h u ru)
 ·exact wpAny_getItem_list_neg (lstAt g) q1 (by rw [e]; exact q2) (by lia) (by rw [e,← q3]; exact hu) (h u ru)
theorem keyS {k:Str} {t:Tok}:(PySem.strKind prog w).is k (.str k t) = true:=decide_eq_true rfl
theorem keyI {k:Int} {t:Tok}:(PySem.intKind prog w).is k (.int k t) = true:=decide_eq_true rfl
noncomputable def SubAt (w:World) (h₀:Heap) (ro:Bool) (f:Frm) (env:Env) (es:List Env) (prog:Program) (A:Around) (T:Tags) (s s1:Shared) (u v:Value) (r:R PV):Prop:=
 r ≠ .fail → ∀ E,SubscriptOn (model prog w) A u v (QR (w:=w) h₀ ro f env es RV T s r) E s1
theorem SubAt.no {s1:Shared} {u v:Value}:SubAt w h₀ ro f env es prog A T s s1 u v .fail:=λ h=>absurd rfl h
theorem item_seq (P:Pre (w:=w) h₀ T c l s f env es) {xs:List PV} {y:PV} {u v:Value} (hy:Rel T y v) (hit:∀ i t j p,xs.length ≤ lim → idx xs.length i = some j → xs[j]? = some p → ∀ Q E,(∀ u,Rel T p u → Q u s) → SubscriptOn (model prog w) A u (.int i t) Q E s) :
  SubAt w h₀ ro f env es prog A T s s u v (itemL xs y c l):=
 opt_by SubAt.no λ i hi=>gd_by SubAt.no λ hl=>opt_by SubAt.no λ p hp zz E=>by
  cases intOf_some hi
  induction hy using Mine.IntV.casesOn with
  | mk t=>
   refine Classical.byContradiction λ hcps=>?_
   obtain ⟨j,hj,hp⟩:=Option.bind_eq_some_iff.mp hp
   refine hcps ?_
   clear hcps
   exact hit i t j p (of_decide_eq_true hl) hj hp _ E λ u ru=>⟨T,Out.refl P,ru⟩
theorem item_lst {a:Addr} {n:Nat} {vs:Array Value} {xs:List PV} (hg:s.heap.get? a = some (lstObj vs n)) (hr:RelL T xs vs.toList) (i:Int) (t:Tok) (j:Nat) (p:PV) (hl:xs.length ≤ lim) (hj:idx xs.length i = some j) (hp:xs[j]? = some p) (Q E:Value → Shared → Prop)
  (h:∀ u,Rel T p u → Q u s):SubscriptOn (model prog w) A (.ref a) (.int i t) Q E s:=⟨"list",_,slot_list_getitem.lookup,(lstAt hg).typeIs,item_list hg hr hl hj hp h⟩
theorem item_dct {α:Type} [DecidableEq α] {knd:KeyKind prog w α} {emb:α → Key} {is:Key → Bool} (M:Emb knd emb is) (P:Pre (w:=w) h₀ T c l s f env es) {a:Addr} {n:Nat} {es':Array DictEntry} {xs:List (Key × PV)} {k:α} {v:Value} {p:PV} (hg:s.heap.get? a = some (dctObj es' n)) (hr:EntsRel w T xs es'.toList) (hn:(xs.map (·.1)).Nodup)
  (ha:xs.all (λ e=>is e.1) = true) (hk:knd.is k v = true) (hp:look (emb k) xs = some p) {E:Value → Shared → Prop}:SubscriptOn (model prog w) A (.ref a) v (OutR (w:=w) h₀ ro f env es RV T s c l p) E s:=by
 induction dict_to M hg hr hn ha using Mine.DictTo.casesOn with
 | mk ka da ea=>
  refine Classical.byContradiction λ hcps=>?_
  obtain ⟨u,hu,ru⟩:=ea.valueAt_some M hp
  refine hcps ?_
  clear hcps
  exact ⟨"dict",_,slot_dict_getitem.lookup,da.dictOf.mapOf.typeIs,wpAny_getItem_of hk da.dictOf.mapOf hu ⟨T,P.tok _,ru⟩⟩
theorem at_itemV (hA:AOk A d es) (P:Pre (w:=w) h₀ T c l s f env es) {x y:PV} {u v:Value} (hx:Rel T x u) (hy:Rel T y v):SubAt w h₀ ro f env es prog A T s s u v (itemV x y c l):=by
 induction x using Mine.PV.casesOn with
 | tup xs=>
  induction hx using Mine.SeqFz.casesOn with
  | mk a n vs ta hr=>
   refine item_seq P hy λ i t j p hl hj hp Q E h=>?_
   refine Classical.byContradiction λ hcps=>?_
   obtain ⟨q1,q2,q3⟩:=idx_seq hj
   obtain ⟨u,hu,ru⟩:=hr.at_ hp
   refine hcps ?_
   clear hcps
   have hf:=lim_fit hl
   have htup:IsTup s.heap a vs:=⟨_,P.wd.froz _ _ ta,rfl,n,rfl⟩
   exact ⟨"tuple",_,slot_tuple_getitem.lookup,htup.typeIs,getItem_tuple htup (by omega) (by omega) (hr.size ▸ q1) hu (h u ru)⟩
 | klist xs=>
  induction hx using Mine.SeqFz.casesOn with
  | mk a n vs ta hr=>exact item_seq P hy (item_lst (P.wd.froz _ _ ta) hr)
 | ref i=>
  refine opt_by (o:=c[i]?) SubAt.no λ z hz=>?_
  induction z using Mine.Cell.casesOn with
  | list xs=>induction P.lst hx hz using Mine.IsLst.casesOn with | mk a n vs ta hg hr=>exact item_seq P hy (item_lst hg hr)
  | dict xs=>
   refine opt_by (o:=keyOf y) SubAt.no λ k hk=>gd_by SubAt.no λ hkk=>opt_by SubAt.no λ p hp zz E=>?_
   induction P.dct hx hz using Mine.IsDct.casesOn with
   | mk a n us ta hg hr hn=>
    induction keyOf_some hk using Mine.KeyV.casesOn with
    | s kk=>induction hy using Mine.StrV.casesOn with | mk t=>exact item_dct (embS prog w) P hg hr hn (and_l hkk) keyS hp
    | i kk=>induction hy using Mine.IntV.casesOn with | mk t=>exact item_dct (embI prog w) P hg hr hn (and_l hkk) keyI hp
    | t op a b h=>exact fT (and_r hkk)
  | _=>exact SubAt.no
 | _=>exact SubAt.no
theorem at_subTail {slice value:Expr} {o i:Value} {Q:Value → Shared → Prop} {E:Value → Shared → Prop} (hs:∀ v g,subscripted slice false v g = operate [v,g] (getItem v g))
  (h:SubscriptOn (model prog w) A o i Q E s):wpAny (model prog w) A (getitemInPython o >>= λ b=>subscripted slice b o i >>= λ r=>letTemporaryGo value o r >>= λ zz=>pure r) Q E s:=by
 refine Classical.byContradiction λ hcps=>?_
 obtain ⟨T,id,hl,hT,hg⟩:=h
 refine hcps ?_
 clear hcps
 refine wpAny_bind ?_
 rw [getitemInPython_of_ne hT.not_modules]
 refine wpAny_bind (wpAny_specialOf hT hl ?_)
 have fin:wpAny (model prog w) A (operate [o,i] (getItem o i)) (λ r s₃=>wpAny (model prog w) A (letTemporaryGo value o r >>= λ zz=>pure r) Q E s₃) E s:=
  wpAny_operating (wpAny_mono hg (λ r s₃ h₃=>wpAny_bind (wpAny_letTemporaryGo (wpAny_pure h₃))) λ zz zz x=>x)
 refine wpAny_pure (wpAny_bind ?_)
 rw [hs]
 exact fin
theorem at_subTailS {value:Expr} {lo hi:Option Expr} {p:Pos} {o i:Value} {Q:Value → Shared → Prop} {E:Value → Shared → Prop}
  (h:SubscriptOn (model prog w) A o i Q E s):wpAny (model prog w) A (getitemInPython o >>= λ b=>subscripted (.Slice lo hi none p) b o i >>= λ r=>letTemporaryGo value o r >>= λ zz=>pure r) Q E s:=by
 refine Classical.byContradiction λ hcps=>?_
 obtain ⟨T,id,hl,hT,hg⟩:=h
 refine hcps ?_
 clear hcps
 refine wpAny_bind ?_
 rw [getitemInPython_of_ne hT.not_modules]
 refine wpAny_bind (wpAny_specialOf hT hl ?_)
 have fin:wpAny (model prog w) A (operate [i,o] (getItem o i)) (λ r s₃=>wpAny (model prog w) A (letTemporaryGo value o r >>= λ zz=>pure r) Q E s₃) E s:=
  wpAny_operating (wpAny_mono hg (λ r s₃ h₃=>wpAny_bind (wpAny_letTemporaryGo (wpAny_pure h₃))) λ zz zz x=>x)
 exact wpAny_pure (wpAny_bind fin)
theorem At.tok_of {α β:Type} {t:Sem α} {m:M β} {RR:Tags → β → α → Prop} {T':Tags} {c':Cells} {l':Locs} {s':Shared} (o:Out (w:=w) h₀ ro f env es T s T' c' l' s') (e:m c l = m c' l')
  (h:At (w:=w) h₀ K ro f env es prog A T' c' l' s' t m RR):m c l ≠ .fail → wpAny (model prog w) A t (QR (w:=w) h₀ ro f env es RR T s (m c l)) (ER (w:=w) h₀ K ro env es T s (m c l)) s':=by
 intro hnf
 rw [e] at hnf ⊢
 exact wpAny_mono (h hnf) (λ zz zz q=>q.trans o) λ zz zz q=>q.trans o
theorem pick_upto (items:Array Value) {y:Int} (h:0 ≤ y):(slicePick items none (some y) none).toList = items.toList.take y.toNat:=by
 obtain ⟨k,rfl⟩:=Int.eq_ofNat_of_zero_le h
 have e:sliceBounds none (some (k:Int)) none items.size = (((0:Nat):Int),((min k items.size:Nat):Int),1):=by
  simp only [sliceBounds,Option.getD_none,show (1:Int) > 0 by decide,if_true,if_neg (show ¬ ((k:Int) < 0) from Int.not_lt.mpr h)]
  rcases Nat.le_total k items.size with q | q
  ·rw [Nat.min_eq_left q,Int.min_eq_left (Int.ofNat_le.mpr q),Int.max_eq_right h]; rfl
  ·rw [Nat.min_eq_right q,Int.min_eq_right (Int.ofNat_le.mpr q),Int.max_eq_right (Int.natCast_nonneg _)]; rfl
 rw [kmk_pick_nat _ e]
 show (items.toList.drop 0).take (min k items.size - 0) = _
 rw [List.drop_zero,Nat.sub_zero,← Array.length_toList,kmk_take_min]
 rfl
noncomputable abbrev slcObj (v:Value):Obj:={ cls:=.type "slice",data:=.fields #[.none,v,.none] }
theorem cut_lst (P:Pre (w:=w) h₀ T c l s f env es) {a:Addr} {n:Nat} {vs:Array Value} {xs:List PV} {k:Int} {t:Tok} (hg:s.heap.get? a = some (lstObj vs n)) (hr:RelL T xs vs.toList) :
  SubAt w h₀ ro f env es prog A T s { s with heap:=s.heap.push (slcObj (.int k t)) } (.ref a) (.ref s.heap.objs.size) (cutL xs k c l):=
 gd_by SubAt.no λ h zz E=>by
  have o:=P.free (ro:=ro) (o:=slcObj (.int k t)) (tk:=s.toks)
  have hl':=(lstAt hg).push (slcObj (.int k t))
  have hr':RelL T (xs.take k.toNat) (slicePick vs none (some k) none).toList:=by rw [pick_upto _ (of_decide_eq_true (and_l (and_l h)))]; exact hr.take _
  have o2:=o.pre.cell (ro:=ro) (o:=lstObj (slicePick vs none (some k) none) 0) (x:=.list (xs.take k.toNat)) rfl
   ⟨_,0,_,Tags.put_self ..,Heap.get?_push_size _ rfl,RelL.mono (o.pre.wd.push_le w _) _ _ hr'⟩ (tk:=s.toks)
  exact ⟨"list",_,slot_list_getitem.lookup,hl'.typeIs,wpAny_getItem_list_slice hl' (Heap.IsSliceOf.new ..) .none (.int k t) .none (by simp) ⟨_,o.trans o2,RefC.mk _ (Tags.put_self ..)⟩ (hr.fits (of_decide_eq_true (and_r h)))⟩
theorem at_sliceV (P:Pre (w:=w) h₀ T c l s f env es) {x y:PV} {u v:Value} (hx:Rel T x u) (hy:Rel T y v):SubAt w h₀ ro f env es prog A T s { s with heap:=s.heap.push (slcObj v) } u (.ref s.heap.objs.size) (sliceV x y c l):=
 opt_by SubAt.no λ k hk=>by
  cases intOf_some hk
  induction hy using Mine.IntV.casesOn with
  | mk t=>
   induction x using Mine.PV.casesOn with
   | klist xs=>induction hx using Mine.SeqFz.casesOn with | mk a n vs ta hr=>exact cut_lst P (P.wd.froz _ _ ta) hr
   | ref i=>
    refine opt_by (o:=c[i]?) SubAt.no λ z hz=>?_
    induction z using Mine.Cell.casesOn with
    | list xs=>induction P.lst hx hz using Mine.IsLst.casesOn with | mk a n vs ta hg hr=>exact cut_lst P hg hr
    | _=>exact SubAt.no
   | _=>exact SubAt.no
end
end Mine
end
section
open PySem PySem.W PySem.Calls PyProof.Rows
set_option backward.match.sparseCases false
namespace Mine
set_option genInjectivity true in
structure TK where
 op:Str
 a:Int
 b:Int
 deriving DecidableEq
inductive IsTK (h:Heap) (k:TK) (p:Addr):Prop
 | mk (n m:Nat) (e:Addr) (t ta tb:Tok) (h1:h.get? p = some (tupObj #[.str k.op t,.ref e,.int k.a ta,.int k.b tb] n)) (h2:h.get? e = some (tupObj #[] m)) (h3:PyData.strOk k.op = true):IsTK h k p
noncomputable def tkIn (o:Option Obj):Option (Str × Int × Int):=o.bind λ o=>match o.data with
 | .seq vs _=>match vs.toList with
  | [.str a _,_,.int b _,.int c _]=>some (a,b,c)
  | _=>none
 | _=>none
theorem IsTK.inj {h:Heap} {p:Addr} {x y:TK} (hx:IsTK h x p) (hy:IsTK h y p):x = y:=by
 induction hx using Mine.IsTK.casesOn with
 | mk n m e t ta tb h1=>
  induction hy using Mine.IsTK.casesOn with
  | mk n' m' e' t' ta' tb' g1=>
   have q:some (x.op,x.a,x.b) = some (y.op,y.a,y.b):=congrArg tkIn (h1.symm.trans g1)
   cases x; cases y; cases q; rfl
theorem IsTK.keeps {h h':Heap} {k:TK} {a d:Addr} {o:Obj} {es:Array DictEntry} {ep:Nat} (x:IsTK h k a) (ho:h.get? d = some o) (hd:o.data = .dict es ep) (hs:Heap.SameBut d h h'):IsTK h' k a:=by
 obtain ⟨n,m,e,t,ta,tb,h1,h2,h3⟩:=x
 have ne:∀ b vs n,h.get? b = some (tupObj vs n) → b ≠ d:=by
  rintro b vs n hb rfl
  rw [ho] at hb; cases hb; cases hd
 exact ⟨n,m,e,t,ta,tb,(hs.2 _ (ne _ _ _ h1)).trans h1,(hs.2 _ (ne _ _ _ h2)).trans h2,h3⟩
noncomputable def tkData (k:TK):PyData:=.tuple [.str k.op,.tuple [],.int k.a,.int k.b]
theorem IsTK.reads {h:Heap} {k:TK} {a:Addr} (x:IsTK h k a):∃ as,Reads h (.ref a) (tkData k) as:=by
 obtain ⟨n,m,e,t,ta,tb,h1,h2,h3⟩:=x
 exact ⟨_,.tuple h1 rfl rfl (.cons (.str _ _) (.cons (.tuple h2 rfl rfl .nil) (.cons (.int _ _) (.cons (.int _ _) .nil))))⟩
theorem tk_eqv (x y:TK):PyData.eqv (tkData x) (tkData y) = decide (x = y):=by
 obtain ⟨o,a,b⟩:=x
 obtain ⟨o',a',b'⟩:=y
 have e:decide ((⟨o,a,b⟩:TK) = ⟨o',a',b'⟩) = (decide (o = o') && (decide (a = a') && decide (b = b'))):=by
  rw [Bool.eq_iff_iff]
  simp only [TK.mk.injEq,decide_eq_true_eq,Bool.and_eq_true]
 rw [e]
 have h1:∀ x y:Str,(x == y) = decide (x = y):=λ x y=>by rw [Bool.eq_iff_iff]; simp
 have h2:∀ x y:Int,(x == y) = decide (x = y):=λ x y=>by rw [Bool.eq_iff_iff]; simp
 simp [tkData,PyData.eqv,PyData.eqvAll,h1,h2]
section
variable {prog:Program} {w:World} {A:Around} {E:Value → Shared → Prop} {s:Shared}
theorem IsTK.typeIs {k:TK} {a:Addr} (x:IsTK s.heap k a):s.TypeIs (.ref a) "tuple":=let ⟨_,_,_,_,_,_,h,_,_⟩:=x; ⟨_,h,rfl⟩
noncomputable def tkHash (w:World) (k:TK):Int:=reduceHash (Builtin.Tuple.tupleHashOf [hashStr w k.op,reduceHash (Builtin.Tuple.tupleHashOf []),hashInt k.a,hashInt k.b])
theorem pyHash_empty {a:Addr} {m:Nat} {Q:Int → Shared → Prop} (hu:A.units < cLine) (h:s.heap.get? a = some (tupObj #[] m)) (q:Q (reduceHash (Builtin.Tuple.tupleHashOf [])) { s with toks:=s.toks + 1 }):wpAny (model prog w) A (pyHash (.ref a)) Q E s:=
 wpAny_pyHash_tuple (knd:=PySem.intKind prog w) (ks:=[]) hu ⟨_,_,_,h,rfl,rfl,.nil⟩ q
theorem tk_pyHash {k:TK} {a:Addr} {Q:Int → Shared → Prop} (hu:A.units + 8 < cLine) (hk:IsTK s.heap k a) (h:Q (tkHash w k) { s with toks:=s.toks + 5 }):wpAny (model prog w) A (pyHash (.ref a)) Q E s:=by
 have hT:=hk.typeIs
 obtain ⟨n,m,e,t,ta,tb,ho,he,zz⟩:=hk
 unfold pyHash
 first | unfold pyHashByItsType | skip
 first | refine wpAny_bind (wpAny_cRoomFor_or (.inr (by lia)) ?_) | skip
 refine wpAny_bind (wpAny_specialOf hT F.slot_tuple_hash.lookup ?_)
 show wpAny _ _ (if (some (Value.builtin "tuple.__hash__") == some Value.none) = true then _ else _) Q E s
 rw [if_neg (by rw [beq_builtin_none]; exact Bool.false_ne_true)]
 refine wpAny_bind (wpAny_specialOf hT F.slot_tuple_hash.lookup ?_)
 show wpAny _ _ (callSpecialIfBoundUnlessNone? (.ref a) "__hash__" _ >>= _) Q E s
 refine wpAny_bind (wpAny_callSpecialIfBoundUnlessNone?_slot hT F.slot_tuple_hash (wpAny_call_entry F.slot_tuple_hash hT F.entry_tuple_hash ?_ (F.args_tuple_hash_1 _)))
 show wpAny _ _ (Builtin.Tuple.tupleItemsOf (.ref a) >>= _) _ _ s
 refine wpAny_bind (wpAny_tupleItemsOf ho rfl ?_)
 refine wpAny_bind ?_
 rw [← Array.forIn_toList]
 simp only [List.forIn_cons,List.forIn_nil]
 refine wpAny_bind (wpAny_bind (wpAny_pyHash_str (wpAny_pure ?_)))
 refine wpAny_bind (wpAny_bind (pyHash_empty (A:=A.in1) (by show A.units + 1 < cLine; lia) he (wpAny_pure ?_)))
 refine wpAny_bind (wpAny_bind (wpAny_pyHash_int (wpAny_pure ?_)))
 refine wpAny_bind (wpAny_bind (wpAny_pyHash_int (wpAny_pure (wpAny_pure ?_))))
 refine wpAny_ret_mkInt ?_
 show wpAny _ _ (pyHashByItsType.reduced (Builtin.Tuple.tupleHashOf [hashStr w k.op,reduceHash (Builtin.Tuple.tupleHashOf []),hashInt k.a,hashInt k.b])) Q E _
 unfold tkHash at h
 generalize Builtin.Tuple.tupleHashOf [hashStr w k.op,reduceHash (Builtin.Tuple.tupleHashOf []),hashInt k.a,hashInt k.b] = z at h
 unfold reduceHash at h
 unfold pyHashByItsType.reduced
 by_cases hr:(decide (-(2:Int) ^ 63 ≤ z) && decide (z < 2 ^ 63)) = true
 ·rw [if_pos hr]
  rw [if_pos hr] at h
  exact wpAny_pure h
 ·rw [if_neg hr]
  rw [if_neg hr] at h
  exact wpAny_bind (wpAny_rule (wpAny_pure h))
theorem tk_eqBool {x y:TK} {a b:Addr} {Q:Bool → Shared → Prop} (hu:A.units + 8 < cLine) (hx:IsTK s.heap x a) (hy:IsTK s.heap y b) (h:Q (decide (x = y)) s):wpAny (model prog w) A (eqBool (.ref a) (.ref b)) Q E s:=by
 refine Classical.byContradiction λ hcps=>?_
 obtain ⟨as,ra⟩:=hx.reads
 obtain ⟨bs,rb⟩:=hy.reads
 refine hcps ?_
 clear hcps
 have c1:∀ k:TK,PyData.strOk k.op = true → (tkData k).canLay0 = true:=λ k hk=>by simp [tkData,PyData.canLay0,PyData.canLayAll0,hk]
 refine SeqAt.eqAt_reads (tkData x) (tkData y) A s _ _ as bs ra rb (c1 x ?_) (c1 y ?_) ?_ prog w E Q (by rw [tk_eqv]; exact h)
 ·obtain ⟨zz,zz,zz,zz,zz,zz,zz,zz,q⟩:=hx; exact q
 ·obtain ⟨zz,zz,zz,zz,zz,zz,zz,zz,q⟩:=hy; exact q
 ·have:(tkData x).depth ≤ 4:=by simp [tkData,PyData.depth,PyData.depthAll]
  have h2:min (tkData x).depth (tkData y).depth ≤ (tkData x).depth:=Nat.min_le_left _ _
  lia
theorem tk_quiet {k:TK} {a:Addr} {Q:Bool → Shared → Prop} (hk:IsTK s.heap k a) (h:Q true s):wpAny (model prog w) A (eqIsQuiet 8 (.ref a)) Q E s:=by
 have hT:=hk.typeIs
 obtain ⟨n,m,e,t,ta,tb,ho,he,zz⟩:=hk
 have inner:∀ Q:Bool → Shared → Prop,Q true s → wpAny (model prog w) A (eqIsQuiet 7 (.ref e)) Q E s:=by
  intro Q h
  have hT':s.TypeIs (.ref e) "tuple":=⟨_,he,rfl⟩
  unfold eqIsQuiet
  refine wpAny_bind (wpAny_specialOf hT' F.slot_tuple_eq.lookup ?_)
  show wpAny _ _ (isInstance (.ref e) (.type "tuple") >>= _) _ _ s
  refine wpAny_bind (wpAny_isInstance hT' isSubtype_tuple_tuple ?_)
  simp only [Bool.not_true,Bool.false_eq_true,if_false]
  refine wpAny_bind (wpAny_seqItems he rfl ?_)
  refine wpAny_bind ?_
  show wpAny _ _ (forIn #[] _ _) _ _ s
  rw [← Array.forIn_toList]
  simp only [List.forIn_nil]
  exact wpAny_pure (wpAny_pure h)
 unfold eqIsQuiet
 refine wpAny_bind (wpAny_specialOf hT F.slot_tuple_eq.lookup ?_)
 show wpAny _ _ (isInstance (.ref a) (.type "tuple") >>= _) _ _ s
 refine wpAny_bind (wpAny_isInstance hT isSubtype_tuple_tuple ?_)
 simp only [Bool.not_true,Bool.false_eq_true,if_false]
 refine wpAny_bind (wpAny_seqItems ho rfl ?_)
 refine wpAny_bind ?_
 show wpAny _ _ (forIn #[Value.str k.op t,.ref e,.int k.a ta,.int k.b tb] _ _) _ _ s
 rw [← Array.forIn_toList]
 simp only [List.forIn_cons,List.forIn_nil]
 rw [eqIsQuiet_byValue _ (v:=.str k.op t) rfl]
 rw [eqIsQuiet_byValue _ (v:=.int k.a ta) rfl]
 rw [eqIsQuiet_byValue _ (v:=.int k.b tb) rfl]
 refine wpAny_bind (wpAny_bind (wpAny_pure (wpAny_pure ?_)))
 refine wpAny_bind (wpAny_bind (inner _ (wpAny_pure ?_)))
 refine wpAny_bind (wpAny_bind (wpAny_pure (wpAny_pure ?_)))
 exact wpAny_bind (wpAny_bind (wpAny_pure (wpAny_pure (wpAny_pure (wpAny_pure h)))))
end
noncomputable def tkKind (prog:Program) (w:World):HeapKind prog w TK where
 is:=IsTK
 hash:=tkHash w
 draws:=λ zz=>5
 room:=λ A=>A.units + 8 < cLine
 inj:=λ hx hy=>hx.inj hy
 keeps:=λ x ho hd hs=>x.keeps ho hd hs
 pyHash:=λ hu hk h=>tk_pyHash hu hk h
 eqBool:=λ hu hx hy h=>tk_eqBool hu hx hy h
 quiet:=λ hk h=>tk_quiet hk h
end Mine
end
section
open PySem PySem.W PySem.Calls PyProof.Rows
set_option backward.match.sparseCases false
namespace Mine
section
variable {prog:Program} {w:World} {h₀:Heap} {K:Tbl} {ro:Bool} {f:Frm} {env:Env} {es:List Env} {A:Around} {T:Tags} {c:Cells} {l:Locs} {s:Shared} {d:Nat}
noncomputable abbrev tkP (k:TK):PV:=.tup [.str k.op,.tup [],.int k.a,.int k.b]
noncomputable abbrev tkK (k:TK):Key:=.t k.op k.a k.b
inductive TEnts (T:Tags):List (Key × PV) → List (TK × Addr × Value) → Prop
 | nil:TEnts T [] []
 | cons (k:TK) (a:Addr) (v:Value) {p:PV} {r:List (Key × PV)} {t:List (TK × Addr × Value)} (h1:Rel T (tkP k) (.ref a)) (h2:PyData.strOk k.op = true) (h3:Rel T p v) (h:TEnts T r t):TEnts T ((tkK k,p) :: r) ((k,a,v) :: t)
inductive IsTKV (h:Heap) (k:TK):Value → Prop
 | mk (a:Addr) (g:IsTK h k a):IsTKV h k (.ref a)
theorem isTK_of {h:Heap} {k:TK} {v:Value} (fz:∀ a o,T a = .froz o → h.get? a = some o) (r:Rel T (tkP k) v) (hs:PyData.strOk k.op = true):IsTKV h k v:=by
 induction r using Mine.SeqFz.casesOn with
 | mk a n vs ta hr=>
  obtain ⟨vs⟩:=vs
  cases hr.inv with
  | mk _ _ h1 k1=>
   induction k1.inv using Mine.ConsV.casesOn with
   | mk _ _ h2 k2=>
    induction k2.inv using Mine.ConsV.casesOn with
    | mk _ _ h3 k3=>
     induction k3.inv using Mine.ConsV.casesOn with
     | mk _ _ h4 k4=>
      induction h1 using Mine.StrV.casesOn with
      | mk t1=>
       induction h2 using Mine.SeqFz.casesOn with
       | mk a2 n2 vs2 t2 q2=>
        obtain ⟨vs2⟩:=vs2
        induction h3 using Mine.IntV.casesOn with
        | mk t3=>
         induction h4 using Mine.IntV.casesOn with
         | mk t4=>
          subst k4; subst q2
          exact ⟨a,n,n2,a2,t1,t3,t4,fz _ _ ta,fz _ _ t2,hs⟩
inductive TEntsOf (prog:Program) (w:World) (T:Tags) (h:Heap) (es:List (Key × PV)) (ents:List DictEntry):Prop
 | mk (xs:List (TK × Addr × Value)) (e:ents = xs.map (entryOfKey (tkKind prog w))) (k:∀ x ∈ xs,IsTK h x.1 x.2.1) (q:TEnts T es xs):TEntsOf prog w T h es ents
theorem isT_some {k:Key} (h:isT k = true):∃ x,k = tkK x:=by
 cases k <;> first | exact ⟨⟨_,_,_⟩,rfl⟩ | exact fT h
theorem tents_of {prog:Program} {h:Heap} (fz:∀ a o,T a = .froz o → h.get? a = some o):∀ {es:List (Key × PV)} {ents:List DictEntry},es.all (λ e=>isT e.1) = true → EntsRel w T es ents → TEntsOf prog w T h es ents
 | [],_,_,h=>by subst h; exact ⟨[],rfl,(λ zz h=>nomatch h),.nil⟩
 | (j,p) :: r,_,ha,h=>by
  rw [List.all_cons] at ha
  refine Classical.byContradiction λ hcps=>?_
  obtain ⟨k,rfl⟩:=isT_some (and_l ha)
  refine hcps ?_
  clear hcps
  induction show ConsE _ (EntsRel w T r) _ from h using Mine.ConsE.casesOn with
  | mk e t h2 h4=>
   induction (tents_of fz (and_r ha) h4:TEntsOf prog w T _ r t) using Mine.TEntsOf.casesOn with
   | mk xs q1 q2 q3=>
    refine Classical.byContradiction λ hcps=>?_
    obtain ⟨hs,kv,v⟩:=e
    obtain ⟨⟨⟨h5,h6⟩,h7⟩,h3⟩:=h2
    refine hcps ?_
    clear hcps
    cases isTK_of fz h5 h6 with
    | mk a g=>exact ⟨(k,a,v) :: xs,by rw [List.map_cons,← q1]; exact congrArg (λ x=>(⟨x,.ref a,v⟩:DictEntry) :: t) h7,λ z hz=>(List.mem_cons.mp hz).elim (λ q=>q ▸ g) (q2 z),.cons k a v h5 h6 h3 q3⟩
section
variable {es:List (Key × PV)} {xs:List (TK × Addr × Value)}
theorem TEnts.keys (h:TEnts T es xs):es.map (·.1) = (xs.map (·.1)).map tkK:=by
 induction h with
 | nil=>rfl
 | cons k a v _ _ _ _ ih=>exact congrArg (tkK k :: ·) ih
theorem TEnts.length (h:TEnts T es xs):xs.length = es.length:=by
 induction h with
 | nil=>rfl
 | cons k a v _ _ _ _ ih=>exact congrArg Nat.succ ih
theorem TEnts.back (h:TEnts T es xs):EntsRel w T es (xs.map (entryOfKey (tkKind prog w))):=by
 induction h with
 | nil=>rfl
 | cons k a v h1 h2 h3 _ ih=>exact ConsE.mk _ _ ⟨⟨⟨h1,h2⟩,rfl⟩,h3⟩ ih
theorem tk_inj:∀ a b:TK,tkK a = tkK b → a = b:=by
 rintro ⟨_,_,_⟩ ⟨_,_,_⟩ h
 cases h; rfl
theorem TEnts.append (h:TEnts T es xs) {k:TK} {a:Addr} {v:Value} {p:PV} (h3:Rel T (tkP k) (.ref a)) (h5:PyData.strOk k.op = true) (h6:Rel T p v):TEnts T (es ++ [(tkK k,p)]) (xs ++ [(k,a,v)]):=by
 induction h with
 | nil=>exact .cons k a v h3 h5 h6 .nil
 | cons k' a' v' g3 g5 g6 _ ih=>exact .cons k' a' v' g3 g5 g6 ih
end
theorem putKey_absent {k:Key} {p:PV}:∀ {es:List (Key × PV)},es.all (λ e=>decide (e.1 ≠ k)) = true → putKey k p es = es ++ [(k,p)]
 | [],_=>rfl
 | (j,q) :: r,h=>by
  rw [List.all_cons] at h
  unfold putKey
  rw [if_neg (of_decide_eq_true (and_l h)),putKey_absent (and_r h)]; rfl
theorem TEnts.absent {es:List (Key × PV)} {xs:List (TK × Addr × Value)} {k:TK} (h:TEnts T es xs) (ha:es.all (λ e=>decide (e.1 ≠ tkK k)) = true):atKey xs k = none:=by
 refine atKey_none_of_get λ j p hj=>?_
 have:k ∈ xs.map (·.1):=List.mem_map.mpr ⟨_,List.mem_of_getElem? hj,rfl⟩
 have:tkK k ∈ es.map (·.1):=by rw [h.keys]; exact List.mem_map.mpr ⟨k,this,rfl⟩
 obtain ⟨e,he,q⟩:=List.mem_map.mp this
 exact absurd q (of_decide_eq_true (List.all_eq_true.mp ha e he))
inductive DictToT (prog:Program) (w:World) (T:Tags) (h:Heap) (a:Addr) (xs:List (Key × PV)):Prop
 | mk (ys:List (TK × Addr × Value)) (d:h.DictOfH (tkKind prog w) a ys) (k:TEnts T xs ys):DictToT prog w T h a xs
theorem dict_toT (P:Pre (w:=w) h₀ T c l s f env es) {a:Addr} {n:Nat} {xs:List (Key × PV)} {ents:Array DictEntry} (g:s.heap.get? a = some (dctObj ents n)) (r:EntsRel w T xs ents.toList) (hn:(xs.map (·.1)).Nodup) (ha:xs.all (λ e=>isT e.1) = true) :
  DictToT prog w T s.heap a xs:=by
 induction (tents_of P.wd.froz ha r:TEntsOf prog w T _ xs _) using Mine.TEntsOf.casesOn with
 | mk ys q1 q2 q3=>exact ⟨ys,⟨_,ents,n,g,⟨rfl,rfl,rfl⟩,rfl,q1,q2,by rw [q3.keys] at hn; exact (nodup_map tk_inj).mp hn⟩,q3⟩
theorem dict_fromT {h:Heap} {a:Addr} {i:Nat} {xs:List (Key × PV)} {ys:List (TK × Addr × Value)} (ta:T a = .cell i) (d:h.DictOfH (tkKind prog w) a ys) (k:TEnts T xs ys):CellAt w T h i (.dict xs):=by
 refine Classical.byContradiction λ hcps=>?_
 obtain ⟨o,ents,ep,ho,⟨hc,hd,hs⟩,hdat,he,hk,hn⟩:=d
 refine hcps ?_
 clear hcps
 have:o = dctObj ents ep:=by obtain ⟨c,dd,dt,sl⟩:=o; simp only at hc hd hs hdat; subst hc hd hs hdat; rfl
 subst this
 exact ⟨a,ep,ents,ta,ho,by rw [he]; exact k.back,by rw [k.keys]; exact (nodup_map tk_inj).mpr hn⟩
theorem AOk.tk (hA:AOk A d es):A.in1.units + 8 < cLine:=Nat.lt_of_le_of_lt (Nat.add_le_add_left (by decide) _) hA.in1
theorem dLive {α:Type} [DecidableEq α] {knd:KeyKind prog w α} {h:Heap} {a:Addr} {kvs:List (α × Value)} (d:h.DictOf knd a kvs):(h.get? a).isSome = true:=let ⟨_,_,_,ho,_⟩:=d; liveOf ho
theorem tLive {h:Heap} {a:Addr} {kvs:List (TK × Addr × Value)} (d:h.DictOfH (tkKind prog w) a kvs):(h.get? a).isSome = true:=let ⟨_,_,_,ho,_⟩:=d; liveOf ho
theorem set_kind {α:Type} [DecidableEq α] {knd:KeyKind prog w α} {emb:α → Key} {is:Key → Bool} (M:Emb knd emb is) (P:Pre (w:=w) h₀ T c l s f env es) {a:Addr} {i n:Nat} {es':Array DictEntry} {xs:List (Key × PV)} {k:α} {v:PV} {u z:Value} (ta:T a = .cell i) (hg:s.heap.get? a = some (dctObj es' n))
  (hr:EntsRel w T xs es'.toList) (hn:(xs.map (·.1)).Nodup) (ha:xs.all (λ e=>is e.1) = true) (hk:knd.is k u = true) (hv:Rel T v z) (hl:xs.length ≤ lim) {E:Value → Shared → Prop} :
  wpAny (model prog w) A (setItem (.ref a) u z) (OutR (w:=w) h₀ false f env es RU T s (c.set i (.dict (putKey (emb k) v xs))) l ()) E s:=by
 induction dict_to M hg hr hn ha using Mine.DictTo.casesOn with
 | mk ka da ea=>exact wpAny_setItem_pairs hk da.dictOf (λ h' hd hs=>⟨T,P.upd (.inl ta) hs (dLive hd) (dict_from M ta hd (ea.stored M ((ea.nodup M).mp hn) hv)),trivial⟩) (by rw [ea.length]; exact lim_le hl)
theorem at_setItemV (hA:AOk A d es) (P:Pre (w:=w) h₀ T c l s f env es) {x k v:PV} {u i z:Value} (hx:Rel T x u) (hk:Rel T k i) (hv:Rel T v z) :
  At (w:=w) h₀ K ro f env es prog A T c l s (setItem u i z) (setItemV ro x k v) RU:=by
 refine At.dct (tt:=λ u=>setItem u i z) P hx λ j xs a n us hc ta hg hr hn=>At.opt λ kk hkk=>At.gd λ h=>At.ok rfl λ E=>?_
 cases not_t (and_l (and_l (and_l h)))
 have hkind:=and_r (and_l (and_l h)); have hlen:=of_decide_eq_true (and_r (and_l h))
 induction keyOf_some hkk using Mine.KeyV.casesOn with
 | s kk=>induction hk using Mine.StrV.casesOn with | mk t=>exact set_kind (embS prog w) P ta hg hr hn hkind keyS hv hlen
 | i kk=>induction hk using Mine.IntV.casesOn with | mk t=>exact set_kind (embI prog w) P ta hg hr hn hkind keyI hv hlen
 | t op x y hop=>
  have habs:xs.all (λ e=>decide (e.1 ≠ tkK ⟨op,x,y⟩)) = true:=and_r h
  induction dict_toT (prog:=prog) P hg hr hn hkind using Mine.DictToT.casesOn with
  | mk ys da ea=>
   induction isTK_of (k:=⟨op,x,y⟩) P.wd.froz hk hop using Mine.IsTKV.casesOn with
   | mk ka kis=>
    refine wpAny_setItem_heap (knd:=tkKind prog w) (k:=⟨op,x,y⟩) hA.tk kis da (λ h' hd hs=>?_) (by rw [ea.length]; exact lim_le hlen)
    rw [storedH_new (ea.absent habs)] at hd
    exact ⟨T,P.upd (.inl ta) hs (tLive hd) (dict_fromT ta hd (by rw [putKey_absent habs]; exact ea.append hk hop hv)),trivial⟩
end
end Mine
end
section
open PySem PySem.W PySem.Calls PyProof.Rows Builtin Builtin.ObjectAttr
set_option backward.match.sparseCases false
namespace Mine
structure ClsOk (X:Frag) (C:Addr) (k:Cls):Prop where
 get:plainGet X C "" = true
 dict:hasDictIn X C = true
 set:findIn X (.ref C) "__setattr__" = some (some (.builtin "object.__setattr__"))
 over:plainOver X C = true
 attr:∀ n,k.attrs.contains n = true → takerIn X C n = some none ∧ ∃ a,findIn X (.ref C) n = some a ∧ noGet X a = true
 meth:∀ n f,k.meths.lookup n = some f → findIn X (.ref C) n = some (some (.ref f)) ∧ isFn X (.ref f) = true
 make:makesIn X C = true
 init:findIn X (.ref C) "__init__" = some (some (.ref k.init)) ∧ typeIn X (.ref k.init) = some (.type "function")
section
variable {prog:Program} {w:World} {h₀:Heap} {K:Tbl} {ro:Bool} {f:Frm} {env:Env} {es:List Env} {A:Around} {T:Tags} {c:Cells} {l:Locs} {s:Shared} {d:Nat}
theorem AttrRel.inv {x:Str × PV} {r:List (Str × PV)} {ents:List DictEntry} (h:AttrRel T (x :: r) ents):ConsE (λ e=>StrV x.1 e.key ∧ Rel T x.2 e.val) (AttrRel T r) ents:=h
theorem strV_isStr {x n:Str} {v:Value} (h:StrV x v):v.isStr n = (x == n):=by cases h; rfl
theorem strV_ref {x:Str} {e:DictEntry} (h:StrV x e.key):e.refKey = false:=by
 unfold DictEntry.refKey
 induction e using PySem.DictEntry.casesOn with | mk _ k _=>cases h; rfl
theorem getL_cons {x n:Str} {e:DictEntry} {t:List DictEntry} (h:StrV x e.key):getL n (e :: t) = bif x == n then some (some e.val) else getL n t:=by
 unfold getL
 rw [List.find?_cons,strV_isStr h,List.any_cons,strV_ref h,Bool.false_or]
 cases x == n <;> rfl
theorem AttrRel.get:∀ {xs:List (Str × PV)} {ents:List DictEntry} {n:Str} {p:PV},AttrRel T xs ents → xs.lookup n = some p → ∃ v,getL n ents = some (some v) ∧ Rel T p v
 | [],_,_,_,_,h=>nS h
 | (x,q) :: r,_,n,p,g,h=>by
  induction g.inv using Mine.ConsE.casesOn with
  | mk e t hk hr=>
   rw [List.lookup_cons] at h
   rw [getL_cons hk.1]
   rw [show (n == x) = (x == n) from Bool.beq_comm] at h
   change (match x == n with | true=>some q | false=>r.lookup n) = some p at h
   dsimp only at h ⊢
   generalize (x == n) = b at h ⊢
   cases b
   ·exact AttrRel.get hr h
   ·cases h; exact ⟨_,rfl,hk.2⟩
theorem AttrRel.miss:∀ {xs:List (Str × PV)} {ents:List DictEntry} {n:Str},AttrRel T xs ents → xs.lookup n = none → getL n ents = some none
 | [],_,_,h,_=>by subst h; rfl
 | (x,q) :: r,_,n,g,h=>by
  induction g.inv using Mine.ConsE.casesOn with
  | mk e t hk hr=>
   rw [List.lookup_cons] at h
   rw [getL_cons hk.1]
   rw [show (n == x) = (x == n) from Bool.beq_comm] at h
   change (match x == n with | true=>some q | false=>r.lookup n) = none at h
   dsimp only at h ⊢
   generalize (x == n) = b at h ⊢
   cases b
   ·exact AttrRel.miss hr h
   ·cases h
theorem AttrRel.put {n:Str} {hsh:Int} {tk:Tok} {z:Value} {p:PV} (hz:Rel T p z):∀ {xs:List (Str × PV)} {ents:List DictEntry},AttrRel T xs ents → AttrRel T (putAttr n p xs) (putL n hsh (.str n tk) z ents)
 | [],_,h=>by subst h; exact ConsE.mk _ _ ⟨⟨tk⟩,hz⟩ rfl
 | (x,q) :: r,_,h=>by
  induction h.inv using Mine.ConsE.casesOn with
  | mk e t hk hr=>
   unfold putAttr putL
   rw [strV_isStr hk.1]
   by_cases g:x = n
   ·rw [if_pos (beq_iff_eq.mpr g),if_pos g]
    exact ConsE.mk _ t ⟨hk.1,hz⟩ hr
   ·rw [if_neg (λ q=>g (beq_iff_eq.mp q)),if_neg g]
    exact ConsE.mk e _ hk (AttrRel.put hz hr)
theorem putAttr_keys {n:Str} {p:PV}:∀ {xs:List (Str × PV)},((putAttr n p xs).map (·.1)) = if n ∈ xs.map (·.1) then xs.map (·.1) else xs.map (·.1) ++ [n]
 | []=>by simp [putAttr]
 | (x,q) :: r=>by
  unfold putAttr
  by_cases g:x = n
  ·subst g; simp
  ·rw [if_neg g]
   have g':¬ n = x:=λ e=>g e.symm
   simp only [List.map_cons,List.mem_cons,putAttr_keys (xs:=r),g',false_or]
   split <;> simp
theorem putAttr_nodup {n:Str} {p:PV} {xs:List (Str × PV)} (h:(xs.map (·.1)).Nodup):((putAttr n p xs).map (·.1)).Nodup:=by
 rw [putAttr_keys]
 split
 ·exact h
 ·rename_i q
  rw [List.nodup_append]
  exact ⟨h,by simp,λ a ha b hb e=>by simp at hb; subst hb; subst e; exact q ha⟩
theorem putL_len {n:Str} {hsh:Int} {key z:Value}:∀ {ents:List DictEntry},(putL n hsh key z ents).length ≤ ents.length + 1
 | []=>by simp [putL]
 | e :: r=>by unfold putL; split <;> simp; exact putL_len
theorem AttrRel.length:∀ {xs:List (Str × PV)} {ents:List DictEntry},AttrRel T xs ents → ents.length = xs.length
 | [],_,h=>by subst h; rfl
 | _ :: _,_,h=>by
  induction h.inv using Mine.ConsE.casesOn with
  | mk e t _ hr=>exact congrArg Nat.succ (AttrRel.length hr)
theorem handed_of {p:PV} {v:Value} (h:Rel T p v) (hp:isV p = false):handedIn v = true:=by
 induction p using Mine.PV.casesOn with
 | val u=>exact nomatch hp
 | none=>subst h; rfl
 | bool=>subst h; rfl
 | _=>cases h with | mk=>rfl
variable {X:Frag} (hX:X.In h₀) (hC:∀ C k,K.cls C = some k → ClsOk X C k)
include hX hC
theorem at_getAttrV (P:Pre (w:=w) h₀ T c l s f env es) {x:PV} {u:Value} {n:Str} {expr:Bool} (hx:Rel T x u) :
  At (w:=w) h₀ K ro f env es prog A T c l s (getAttr u n expr) (getAttrV K x n) RV:=by
 refine At.ins (tt:=λ u=>getAttr u n expr) P hx λ i C xs a hc I=>At.opt λ k hk=>At.gd λ hcn=>At.opt λ v hv=>At.gd λ hnv=>At.val λ E=>?_
 cases I with
 | mk _ dd m ents ta td hg hd hr hn=>
  have ok:=hC C k hk
  have ka:=ok.attr n hcn
  refine Classical.byContradiction λ hcps=>?_
  obtain ⟨z,hz,rz⟩:=hr.get hv
  obtain ⟨at_,ha,hng⟩:=ka.2
  refine hcps ?_
  clear hcps
  exact get_value (hX.keeps (P.wd.keeps w)) (⟨hg,rfl,rfl,hd⟩:InstAt s.heap a (instObj C dd) C (some (dictOf ents m))) (plainGet_of ok.get).1 (findObj_own ok.dict ha hng (by rw [lookIn_dict]; exact hz)) (handed_of rz (not_t hnv)) ⟨T,P.tok _,rz⟩
theorem osa_at {ox:Obj} {x C:Addr} {dx:Addr} {name:Str} {tk:Tok} {v:Value} {ents:List DictEntry} {n:Nat} {R:Result → Shared → Prop} (XI:X.In s.heap)
  (I:W.InstAt s.heap x ox C (some (dictOf ents n))) (hd:ox.dict = some dx) (hp:plainOver X C = true) (ht:takerIn X C name = some none) (hh:hasDictIn X C = true)
  (hl:(getL name ents).isSome = true) (hz:ents.length ≤ 200)
  (h:∀ h',h'.get? dx = some (dictOf (putL name (PyData.keyHash w.params name) (.str name s.toks) v ents) (putN name ents n)) → Heap.SameBut dx s.heap h' → R (.ok (.ret .none)) { s with heap:=h',toks:=s.toks + 1 }) :
  codeAny (model prog w) A (.call (.builtin "object.__setattr__") ⟨[.ref x,.str name tk,v],[]⟩) R s:=by
 refine osa_open XI I hp ht λ b=>?_
 refine Classical.byContradiction λ hcps=>?_
 obtain ⟨cd,hc,hd'⟩:=any_some hh
 refine hcps ?_
 clear hcps
 have D:s.heap.get? dx = some (dictOf ents n):=by have q:=I.dict; rw [hd] at q; exact q
 have e:Obj.putName name (PyData.keyHash w.params name) (.str name s.toks) v (dictOf ents n) = dictOf (putL name (PyData.keyHash w.params name) (.str name s.toks) v ents) (putN name ents n):=putName_dict ..
 have D':=Heap.get?_update_self (Obj.putName name (PyData.keyHash w.params name) (.str name s.toks) v) D (by rw [e]; rfl)
 rw [e] at D'
 have key:=h _ D' (Heap.SameBut.update ..)
 refine Classical.byContradiction λ hcps=>?_
 obtain ⟨hx,hcl,hn,-⟩:=I
 obtain ⟨oc,odi,oda,osl⟩:=ox
 refine hcps ?_
 clear hcps
 dsimp only at hcl hd
 subst hcl hd
 refine wpAny_bind (wpAny_pure (wpAny_bind (wpAny_bind (wpAny_loadPart hx (wpAny_bind ((looks_clsIn XI hc).here ?_))))))
 rw [hd']
 refine wpAny_pure (a:=some dx) (wpAny_bind (wpAny_pure (wpAny_bind ?_)))
 unfold nsSet
 refine wpAny_bind (wpAny_bind (wpAny_askSetting (wpAny_pure (wpAny_bind (wpAny_mkText (wpAny_bind (wpAny_loadPart D ?_)))))))
 dsimp only
 have c:(!ents.toArray.any (·.key.isStr name) && ents.toArray.any (·.refKey)) = false:=by
  rw [← Array.any_toList,← Array.any_toList]
  unfold getL at hl
  split at hl
  ·rename_i en he
   rw [List.any_eq_true.mpr ⟨en,List.mem_of_find?_eq_some he,List.find?_some he⟩]; rfl
  ·split at hl
   ·cases hl
   ·rename_i z; rw [Bool.not_eq_true] at z; rw [z,Bool.and_false]
 rw [aRefKeyMayBeTheName_at,c]
 refine wpAny_updatePart D ?_
 refine wpAny_bind (wpAny_lookBehind D' (pastItsLine_dict (by have:=putL_len (n:=name) (hsh:=PyData.keyHash w.params name) (key:=.str name s.toks) (z:=v) (ents:=ents); rw [List.size_toArray,sizeLine_eq]; lia)) ?_)
 exact wpAny_pure key
theorem at_setAttrV (P:Pre (w:=w) h₀ T c l s f env es) {x v:PV} {u z:Value} {n:Str} (hx:Rel T x u) (hv:Rel T v z) :
  At (w:=w) h₀ K ro f env es prog A T c l s (setAttr u n z) (setAttrV K ro x n v) RU:=by
 refine At.ins (tt:=λ u=>setAttr u n z) P hx λ i C xs a hc I=>At.opt λ k hk=>At.gd λ h=>At.ok rfl λ E=>?_
 cases not_t (and_l (and_l h))
 cases I with
 | mk _ dd m ents ta td hg hd hr hn=>
  have ok:=hC C k hk
  have XI:=hX.keeps (P.wd.keeps w)
  have I:W.InstAt s.heap a (instObj C dd) C (some (dictOf ents m)):=⟨hg,rfl,rfl,hd⟩
  have hl:(getL n ents).isSome = true:=by
   induction e:xs.lookup n using Option.casesOn with
   | none=>rw [hr.miss e]; rfl
   | some v=>obtain ⟨z,hz,zz⟩:=hr.get e; rw [hz]; rfl
  refine set_plain XI I ok.set (osa_at hX hC (s:={ s with toks:=s.toks + 1 }) XI I rfl ok.over (ok.attr n (and_r (and_l h))).1 ok.dict hl (by rw [hr.length]; exact Nat.le_trans (of_decide_eq_true (and_r h)) (by decide)) λ h' hd' hs'=>?_)
  have hg':h'.get? a = some (instObj C dd):=(hs'.2 a (λ q=>by rw [← q,ta] at td; cases td)).trans hg
  exact ⟨T,P.upd (x:=.inst C (putAttr n v xs)) (.inr td) hs' (liveOf hd') ⟨a,dd,_,_,ta,td,hg',hd',hr.put hv,putAttr_nodup hn⟩,trivial⟩
end
end Mine
end
section
open PySem PySem.W PySem.Calls PyProof.Rows Builtin Builtin.ObjectAttr
set_option backward.match.sparseCases false
namespace Mine
section
variable {prog:Program} {w:World} {h₀:Heap} {K:Tbl} {ro:Bool} {f:Frm} {env:Env} {es:List Env} {A:Around} {T:Tags} {c:Cells} {l:Locs} {s:Shared} {d:Nat}
theorem Pre.made {h':Heap} {a:Addr} {x:Cell} (P:Pre (w:=w) h₀ T c l s f env es) (hk:∀ b o,s.heap.get? b = some o → h'.get? b = some o) (ha:s.heap.get? a = none) (hl:(h'.get? a).isSome = true)
  (hx:CellAt w (T.put a (.cell c.length)) h' c.length x) {tk:Nat}:Out (w:=w) h₀ ro f env es T s (T.put a (.cell c.length)) (c ++ [x]) l { s with heap:=h',toks:=tk }:=by
 have o:=P.grow (ro:=ro) hk (tk:=tk)
 have tf:T a = .free:=by
  induction e:T a using Mine.Tag.casesOn with
  | free=>rfl
  | _=>exact absurd (P.wd.live a (by rw [e]; exact λ q=>nomatch q)) (by rw [ha]; simp)
 have W:Wd w h₀ (T.put a (.cell c.length)) (c ++ [x]) h':=o.pre.wd.retag w tf hl hx
 have S:Step ro (frsOf es) env.locals T s.heap (T.put a (.cell c.length)) h':=o.step.next (λ b hb=>T.put_ne _ (λ q=>by subst q; rw [ha] at hb; cases hb)) λ zz zz zz e=>e
 have le:=S.le w P.wd
 have L:Loc (T.put a (.cell c.length)) h' env l:=P.loc.keep le (S.tag _ P.loc.live) λ zz zz zz e zz=>hk _ _ e
 exact ⟨S,⟨_,_,rfl⟩,W,L,P.frs.step S L,P.frm.mono le⟩
theorem stored_nodup {α:Type} [DecidableEq α] (ka:List (α × Value)) (k:α) (v:Value) (h:(ka.map (·.1)).Nodup):((stored ka k v).map (·.1)).Nodup:=by
 unfold stored
 split
 ·have:(ka.map λ kv=>if kv.1 = k then (kv.1,v) else kv).map (·.1) = ka.map (·.1):=by
   rw [List.map_map]
   refine List.map_congr_left λ x zz=>?_
   show (if x.1 = k then (x.1,v) else x).1 = x.1
   split <;> rfl
  rw [this]; exact h
 ·rename_i q
  rw [List.map_append,List.nodup_append]
  refine ⟨h,by simp,λ a ha b hb e=>?_⟩
  simp only [List.map_cons,List.map_nil,List.mem_singleton] at hb
  subst hb; subst e
  obtain ⟨x,hx,rfl⟩:=List.mem_map.mp ha
  exact q (List.any_eq_true.mpr ⟨x,hx,by simp⟩)
theorem putAll_ents {knd:KeyKind prog w Str} (M:Emb knd Key.s isS) {T:Tags} {fs:List (Key × PV)} {kb:List (Str × Value)} (h:KEnts Key.s T fs kb):∀ {es:List (Key × PV)} {ka:List (Str × Value)},KEnts Key.s T es ka → (ka.map (·.1)).Nodup →
  KEnts Key.s T (putAll fs es) (merged ka kb):=by
 induction h with
 | nil=>intro es ka g zz; exact g
 | cons k v hv _ ih=>intro es ka g hn; exact ih (g.stored M hn hv) (stored_nodup ka k v hn)
theorem filter_ents {T:Tags} {k:Str} {es:List (Key × PV)} {ka:List (Str × Value)} (h:KEnts Key.s T es ka):KEnts Key.s T (es.filter λ e=>decide (e.1 ≠ Key.s k)) (without ka k):=by
 unfold without
 induction h with
 | nil=>exact .nil
 | @cons k' v p r t hv _ ih=>
  rw [List.filter_cons,List.filter_cons]
  dsimp only
  by_cases q:k' = k
  ·rw [decide_eq_false (show ¬ Key.s k' ≠ Key.s k from λ z=>z (congrArg Key.s q)),decide_eq_false (show ¬ k' ≠ k from λ z=>z q)]; exact ih
  ·rw [decide_eq_true (show Key.s k' ≠ Key.s k from λ e=>q (by injection e)),decide_eq_true (show k' ≠ k from q),if_pos rfl,if_pos rfl]
   exact .cons k' v hv ih
section meth
variable {i n:Nat} {a:Addr} {us:List Value} {vs:List PV}
theorem at_app (P:Pre (w:=w) h₀ T c l s f env es) {as:Array Value} {xs:List PV} (ta:T a = .cell i) (hg:s.heap.get? a = some (lstObj as n)) (hr:RelL T xs as.toList) {x:PV} {u:Value} (hx:Rel T x u):At (w:=w) h₀ K ro f env es prog A T c l s (call (.builtin "list.append") [.ref a,u]) (bApp ro i xs x) RV:=
 At.gd λ h=>At.ok rfl λ E=>by
  cases not_t (and_l h)
  refine wpAny_list_append_plain (items:=as) ⟨n,hg⟩ (λ h' ⟨m',hg'⟩ hs'=>⟨T,P.upd (x:=.list (xs ++ [x])) (.inl ta) hs' (liveOf hg') ⟨a,m',_,ta,hg',?_⟩,rfl⟩) (hr.fits (of_decide_eq_true (and_r h)))
  rw [Array.toList_push]
  exact hr.append (RelL.one hx)
theorem pop_toList {as:Array Value} (h:0 < as.size):(as.eraseIdxIfInBounds (as.size - 1)).toList = as.toList.take (as.size - 1):=by
 rw [Array.eraseIdxIfInBounds,dif_pos (Nat.sub_lt h Nat.one_pos),Array.toList_eraseIdx,List.eraseIdx_eq_take_drop_succ,List.drop_of_length_le (by rw [Array.length_toList,Nat.sub_add_cancel h]; exact Nat.le_refl _),List.append_nil]
theorem at_pop (P:Pre (w:=w) h₀ T c l s f env es) {as:Array Value} {xs:List PV} (ta:T a = .cell i) (hg:s.heap.get? a = some (lstObj as n)) (hr:RelL T xs as.toList):At (w:=w) h₀ K ro f env es prog A T c l s (call (.builtin "list.pop") [.ref a]) (bPop ro i xs) RV:=
 At.gd λ h=>At.opt λ v e=>At.ok rfl λ E=>by
  cases not_t (and_l h)
  rw [List.getLast?_eq_getElem?] at e
  refine Classical.byContradiction λ hcps=>?_
  obtain ⟨z,hz,rz⟩:=hr.at_ e
  refine hcps ?_
  clear hcps
  rw [← hr.size] at hz
  have h0:0 < as.size:=Nat.lt_of_le_of_lt (Nat.zero_le _) (Array.getElem?_eq_some_iff.mp hz).1
  obtain ⟨m2,e2⟩:∃ m2,Obj.mapSeq (λ ys=>ys.eraseIdxIfInBounds (as.size - 1)) (lstObj as n) = lstObj (as.eraseIdxIfInBounds (as.size - 1)) m2:=⟨_,rfl⟩
  have hg':=Heap.get?_update_self (Obj.mapSeq (λ ys=>ys.eraseIdxIfInBounds (as.size - 1))) hg (by rw [e2]; rfl)
  rw [e2] at hg'
  refine call_meets PySem.F.slot_list_pop (lstAt hg).typeIs PySem.F.entry_list_pop (PySem.F.args_list_pop_1 _) (MeetsSeq.list_pop_last a as n z hz (hr.fits (of_decide_eq_true (and_r h))))
   ⟨hg,T,P.upd (x:=.list xs.dropLast) (tk:=s.toks) (.inl ta) (Heap.SameBut.update ..) (liveOf hg') ⟨a,m2,_,ta,hg',?_⟩,rz⟩
  rw [pop_toList h0,List.dropLast_eq_take,← hr.size]
  exact hr.take _
section dict
variable {en:Array DictEntry} {xs:List (Key × PV)} (hs:(h₀.get? sysModules).isSome = true) (P:Pre (w:=w) h₀ T c l s f env es) (ta:T a = .cell i) (hg:s.heap.get? a = some (dctObj en n)) (hr:EntsRel w T xs en.toList) (hn:(xs.map (·.1)).Nodup)
include hs P ta hg hr hn
theorem at_items:At (w:=w) h₀ K ro f env es prog A T c l s (call (.builtin "dict.items") [.ref a]) (bItems i xs) RV:=
 At.gd λ h=>At.val λ E=>by
  induction dict_to (embS prog w) hg hr hn h using Mine.DictTo.casesOn with
  | mk ka da ea=>
   have o:=P.froz (ro:=ro) (o:=itmObj a) rfl (tk:=s.toks)
   exact call_meetsIn PySem.F.slot_dict_items da.dictOf.typeIs PySem.F.entry_dict_items (PySem.F.args_dict_items_1 _) (meets_dict_items (PySem.strKind prog w) a (P.notSys hs ta)) ⟨⟨ka,da.dictOf⟩,_,o,ItmV.mk _ a (Tags.put_self ..) ((o.le P).cell ta)⟩
theorem at_get (hA:AOk A d es) {x y:PV} {u v:Value} (hx:Rel T x u) (hy:Rel T y v):At (w:=w) h₀ K ro f env es prog A T c l s (call (.builtin "dict.get") [.ref a,u,v]) (bGet xs x y) RV:=
 At.opt λ k hk=>At.gd λ h=>At.val λ E=>by
  have hT:=and_l (and_l h)
  induction keyOf_some hk using Mine.KeyV.casesOn with
  | t op p q hop=>
   induction dict_toT (prog:=prog) P hg hr hn (and_r (and_l h)) using Mine.DictToT.casesOn with
   | mk ys da ea=>
    induction isTK_of (k:=⟨op,p,q⟩) P.wd.froz hx hop using Mine.IsTKV.casesOn with
    | mk ka kis=>
     refine call_meetsIn PySem.F.slot_dict_get da.typeIs PySem.F.entry_dict_get (PySem.F.args_dict_get_3 _ _ _) (meetsH_dict_get_default (tkKind prog w) a ka (P.notSys hs ta) v) ⟨hA.tk,⟨op,p,q⟩,ys,kis,da,?_⟩
     rw [ea.absent (k:=⟨op,p,q⟩) (and_r h)]
     exact ⟨T,P.tok _,hy⟩
  | _=>exact fT hT
theorem at_del {x:PV} {u:Value} (hx:Rel T x u):At (w:=w) h₀ K ro f env es prog A T c l s (call (.builtin "dict.pop") [.ref a,u]) (bDel ro i xs x) RV:=
 At.str (tt:=λ u=>call (.builtin "dict.pop") [.ref a,u]) hx λ k t=>At.gd λ h=>At.opt λ v hv=>At.ok rfl λ E=>by
  cases not_t (and_l (and_l h))
  induction dict_to (embS prog w) hg hr hn (and_r (and_l h)) using Mine.DictTo.casesOn with
  | mk ka da ea=>
   refine Classical.byContradiction λ hcps=>?_
   obtain ⟨z,hz,rz⟩:=ea.valueAt_some (embS prog w) hv
   refine hcps ?_
   clear hcps
   exact call_meetsIn PySem.F.slot_dict_pop da.dictOf.typeIs PySem.F.entry_dict_pop (PySem.F.args_dict_pop_2 _ _) (meets_dict_pop_there (PySem.strKind prog w) a (k:=k) keyS [] (.inl rfl) rfl)
    ⟨ka,z,da.dictOf,by rw [ea.length]; exact lim_le (of_decide_eq_true (and_r h)),hz,λ h' hd' hs'=>⟨T,P.upd (.inl ta) hs' (dLive hd') (dict_from (embS prog w) ta hd' (filter_ents ea)),rz⟩⟩
theorem at_upd {x:PV} {u:Value} (hx:Rel T x u):At (w:=w) h₀ K ro f env es prog A T c l s (call (.builtin "dict.update") [.ref a,u]) (bUpd ro i xs x) RV:=
 At.dct (tt:=λ u=>call (.builtin "dict.update") [.ref a,u]) P hx λ j ys b m us hc tb hgb hrb hnb=>At.gd λ h=>At.ok rfl λ E=>by
  have h2:=and_l h; have h3:=and_l h2; have h4:=and_l h3
  cases not_t (and_l h4)
  induction dict_to (embS prog w) hg hr hn (and_r h3) using Mine.DictTo.casesOn with
  | mk ka da ea=>
   induction dict_to (embS prog w) hgb hrb hnb (and_r h2) using Mine.DictTo.casesOn with
   | mk kb db eb=>
    have hab:a ≠ b:=λ q=>bne_iff_ne.mp (and_r h4) (by rw [q,tb] at ta; injection ta with ta; exact ta.symm)
    exact call_meetsIn PySem.F.slot_dict_update da.dictOf.typeIs PySem.F.entry_dict_update (PySem.F.args_dict_update_2 _ _) (meets_dict_update (PySem.strKind prog w) a b hab (P.notSys hs tb))
     ⟨ka,kb,da.dictOf,db.dictOf,by rw [ea.length,eb.length]; exact lim_le (of_decide_eq_true (and_r h)),λ h' hd' zz hs'=>⟨T,P.upd (.inl ta) hs' (dLive hd') (dict_from (embS prog w) ta hd' (putAll_ents (embS prog w) eb ea ((ea.nodup (embS prog w)).mp hn))),rfl⟩⟩
end dict
end meth
theorem at_methB (hs:(h₀.get? sysModules).isSome = true) (hA:AOk A d es) (P:Pre (w:=w) h₀ T c l s f env es) {x:PV} {u:Value} {lst:Bool} {n:Str} {vs:List PV} {us:List Value} (hx:Rel T x u) (hv:RelL T vs us) :
  At (w:=w) h₀ K ro f env es prog A T c l s (call (.builtin (mid lst n)) (u :: us)) (methB ro x lst n vs) RV:=by
 induction lst using Bool.casesOn with
 | true=>
  refine At.lst (tt:=λ u=>call (.builtin (mid true n)) (u :: us)) P hx λ i xs a m as hc ta hg hr=>At.sw (λ h=>?_) λ zz=>At.gd λ h=>?_
  ·cases of_decide_eq_true h
   exact At.one (tt:=λ us=>call (.builtin "list.append") (.ref a :: us)) hv λ x u hx=>at_app P ta hg hr hx
  ·cases of_decide_eq_true (and_l h)
   cases isEmpty_inv (and_r h)
   subst hv
   exact at_pop P ta hg hr
 | false=>
  refine At.dct (tt:=λ u=>call (.builtin (mid false n)) (u :: us)) P hx λ i xs a m as hc ta hg hr hn=>?_
  induction vs using List.casesOn with
  | nil=>
   refine At.gd λ h=>?_
   cases of_decide_eq_true h
   subst hv
   exact at_items hs P ta hg hr hn
  | cons k r=>
   induction hv.inv using Mine.ConsV.casesOn with
   | mk z us hz hv2=>
    induction r using List.casesOn with
    | nil=>
     subst hv2
     refine At.sw (λ h=>?_) λ zz=>At.gd λ h=>?_
     ·cases of_decide_eq_true h
      exact at_del hs P ta hg hr hn hz
     ·cases of_decide_eq_true h
      exact at_upd hs P ta hg hr hn hz
    | cons y r=>
     refine At.gd λ h=>?_
     cases isEmpty_inv (and_l h)
     cases of_decide_eq_true (and_r h)
     induction hv2.inv using Mine.ConsV.casesOn with
     | mk z2 us hz2 hv3=>subst hv3; exact at_get hs P ta hg hr hn hA hz hz2
end
end Mine
end
section
open PySem PySem.W PySem.Calls PyProof.Rows Builtin Builtin.ObjectAttr
set_option backward.match.sparseCases false
namespace Mine
theorem list_no_keys:typeLookup (.type "list") "keys" = pure none:=by rw [typeLookup_type,builtinLookup_eq_fast]; kernel_rfl
theorem zip_no_keys:typeLookup (.type "zip") "keys" = pure none:=by rw [typeLookup_type,builtinLookup_eq_fast]; kernel_rfl
theorem zip_getattr_none:typeLookup (.type "zip") "__getattr__" = pure none:=by rw [typeLookup_type,builtinLookup_eq_fast]; kernel_rfl
theorem entry_zip_getattribute':entryFor table "zip.__getattribute__" = some Builtin.«object.__getattribute__»:=
 entryFor_alias (id':="object.__getattribute__") (by kernel_rfl) (by decide +kernel) (by decide +kernel) (by kernel_rfl)
noncomputable abbrev zipObj (f0 f1:Value) (TI TO:Addr):Obj:={ cls:=.type "zip",dict:=none,data:=.fields #[f0,f1,.bool false,.ref TI,.ref TO],slots:=#[] }
theorem meets_miss_zip (a:Addr) (f0 f1:Value) (TI TO:Addr) (u:Tok) :
  Meets (Builtin.«object.__getattribute__» ⟨[.ref a,.str "keys" u],[]⟩) (λ A R s=>s.heap.get? a = some (zipObj f0 f1 TI TO) ∧ raisesAttr (.ref a) "keys" A R s):=
 Meets.of_wp λ prog w A R s hs=>by
  obtain ⟨hp,g,d,tk,os⟩:=s
  obtain ⟨hx,hs⟩:=hs
  have hT:(⟨hp,g,d,tk,os⟩:Shared).TypeIs (.ref a) "zip":=⟨_,hx,rfl⟩
  have hmiss:=zip_no_keys
  have hname:(["__module__","__name__","__qualname__","__doc__","__annotations__"]:List Str).contains "keys" = false:=by decide +kernel
  unfold Builtin.«object.__getattribute__»
  repeat (any_goals (first | assumption | wp_step))
  try simp only [hname,Bool.false_eq_true,if_false]
  repeat (any_goals (first | assumption | wp_step))
  exact wpAny_raiseAttrError hs.1 hs.2 (attrMsg_fits (by decide +kernel) (by decide +kernel))
section
variable {prog:Program} {w:World} {A:Around} {E:Value → Shared → Prop} {s:Shared}
theorem getAttrMiss_list {a:Addr} {xs:Array Value} {k:Nat} {u:Tok} {Q:Value → Shared → Prop} (hx:s.heap.get? a = some (lstObj xs k)) (hA:A.handled = none)
  (h:∀ h' tk e,Heap.NewExcOf s.heap h' e "AttributeError" → E (.ref e) { s with heap:=h',toks:=tk }):wpAny (model prog w) A (getAttrBy (.ref a) (.str "keys" u) false) Q E s:=by
 refine Classical.byContradiction λ hcps=>?_
 obtain ⟨hp,g,d,tk,os⟩:=s
 refine hcps ?_
 clear hcps
 have hT:∀ tk',(⟨hp,g,d,tk',os⟩:Shared).TypeIs (.ref a) "list":=λ zz=>⟨_,hx,rfl⟩
 have f1:=sub_AttributeError
 have f3:=PySem.F.slot_list_getattribute.lookup
 have f4:=PySem.F.slot_list_getattribute.bind (.ref a)
 have f5:=am_list_getattr_none
 unfold getAttrBy
 repeat (any_goals (first | assumption | exact hT _ | ((with_reducible show wpAny _ _ (call (Value.builtin "list.__getattribute__") _ _) _ _ _); refine call_meets PySem.F.slot_list_getattribute (hT _) am_entry_list_getattribute (PySem.F.args_list_getattribute_2 _ _) (meets_getattribute_miss_list a xs k #[] "keys" _ list_no_keys (by decide +kernel)) ⟨hx,hA,λ h' tk' e hx'=>?_⟩) | wp_step))
 refine Classical.byContradiction λ hcps=>?_
 obtain ⟨t',u',he⟩:=hx'.there
 refine hcps ?_
 clear hcps
 show wpAny _ _ (getattributeRaised _ _ _ _ _ _ _) _ _ _
 unfold getattributeRaised
 repeat (any_goals (first | assumption | wp_step))
 exact h _ _ _ hx'.of
theorem getAttrMiss_zip {a:Addr} {f0 f1:Value} {TI TO:Addr} {u:Tok} {Q:Value → Shared → Prop} (hx:s.heap.get? a = some (zipObj f0 f1 TI TO)) (hA:A.handled = none)
  (h:∀ h' tk e,Heap.NewExcOf s.heap h' e "AttributeError" → E (.ref e) { s with heap:=h',toks:=tk }):wpAny (model prog w) A (getAttrBy (.ref a) (.str "keys" u) false) Q E s:=by
 refine Classical.byContradiction λ hcps=>?_
 obtain ⟨hp,g,d,tk,os⟩:=s
 refine hcps ?_
 clear hcps
 have hT:∀ tk',(⟨hp,g,d,tk',os⟩:Shared).TypeIs (.ref a) "zip":=λ zz=>⟨_,hx,rfl⟩
 have f1:=sub_AttributeError
 have f3:=PySem.F.slot_zip_getattribute.lookup
 have f4:=PySem.F.slot_zip_getattribute.bind (.ref a)
 have f5:=zip_getattr_none
 unfold getAttrBy
 repeat (any_goals (first | assumption | exact hT _ | ((with_reducible show wpAny _ _ (call (Value.builtin "zip.__getattribute__") _ _) _ _ _); refine call_meets PySem.F.slot_zip_getattribute (hT _) entry_zip_getattribute' (PySem.F.args_zip_getattribute_2 _ _) (meets_miss_zip a _ _ TI TO _) ⟨hx,hA,λ h' tk' e hx'=>?_⟩) | wp_step))
 refine Classical.byContradiction λ hcps=>?_
 obtain ⟨t',u',he⟩:=hx'.there
 refine hcps ?_
 clear hcps
 show wpAny _ _ (getattributeRaised _ _ _ _ _ _ _) _ _ _
 unfold getattributeRaised
 repeat (any_goals (first | assumption | wp_step))
 exact h _ _ _ hx'.of
theorem noKeys_zip {a:Addr} {f0 f1:Value} {TI TO:Addr} {Q:Option Value → Shared → Prop} (ha:s.heap.get? a = some (zipObj f0 f1 TI TO)) (hA:A.handled = none)
  (h:∀ h' tk,(∀ b o,s.heap.get? b = some o → h'.get? b = some o) → Q none { s with heap:=h',toks:=tk }):wpAny (model prog w) A (getAttr? (.ref a) "keys") Q E s:=by
 unfold getAttr? getAttrBy?
 refine wpAny_bind (wpAny_mkText ?_)
 refine wpAny_bind (wpAny_attempt (getAttrMiss_zip (E:=λ e s'=>_) ha hA λ h' tk e x=>?_))
 refine Classical.byContradiction λ hcps=>?_
 obtain ⟨o,zz,he,hc,zz⟩:=x.there
 refine hcps ?_
 clear hcps
 have f1:=sub_AttributeError
 refine wpAny_bind (wpAny_isInstance (T:="AttributeError") ⟨o,he,hc⟩ f1 ?_)
 exact wpAny_pure (h _ _ x.keeps)
theorem noKeys_list {a:Addr} {xs:Array Value} {k:Nat} {Q:Option Value → Shared → Prop} (ha:s.heap.get? a = some (lstObj xs k)) (hA:A.handled = none)
  (h:∀ h' tk,(∀ b o,s.heap.get? b = some o → h'.get? b = some o) → Q none { s with heap:=h',toks:=tk }):wpAny (model prog w) A (getAttr? (.ref a) "keys") Q E s:=by
 unfold getAttr? getAttrBy?
 refine wpAny_bind (wpAny_mkText ?_)
 refine wpAny_bind (wpAny_attempt (getAttrMiss_list (E:=λ e s'=>_) ha hA λ h' tk e x=>?_))
 refine Classical.byContradiction λ hcps=>?_
 obtain ⟨o,zz,he,hc,zz⟩:=x.there
 refine hcps ?_
 clear hcps
 have f1:=sub_AttributeError
 refine wpAny_bind (wpAny_isInstance (T:="AttributeError") ⟨o,he,hc⟩ f1 ?_)
 exact wpAny_pure (h _ _ x.keeps)
end
end Mine
end
section
open PySem PySem.W PySem.Calls PyProof.Rows Builtin Builtin.ObjectAttr
set_option backward.match.sparseCases false
namespace Mine
theorem plain_dloop:plainId "dict.update.loop" = true:=by decide +kernel
theorem entry_dloop:entryFor table "dict.update.loop" = some Builtin.«dict.update.loop»:=entryFor_of_fast (by kernel_rfl)
section
variable {prog:Program} {w:World} {A:Around} {E:Value → Shared → Prop} {s:Shared}
theorem call_dict_from {α:Type} [DecidableEq α] (knd:KeyKind prog w α) {x:Addr} {Ty:String} {Q:Value → Shared → Prop} (hTy:∀ s':Shared,(∀ b o,s.heap.get? b = some o → s'.heap.get? b = some o) → s'.TypeIs (.ref x) Ty) (hne:(Value.type Ty != .type "dict") = true)
  (hkeys:∀ (A:Around) (E:Value → Shared → Prop) (s':Shared) (Q:Option Value → Shared → Prop),A.handled = none → (∀ b o,s.heap.get? b = some o → s'.heap.get? b = some o) → (∀ h' tk,(∀ b o,s'.heap.get? b = some o → h'.get? b = some o) → Q none { s' with heap:=h',toks:=tk }) → wpAny (model prog w) A (getAttr? (.ref x) "keys") Q E s')
  (hA:A.handled = none)
  (hk:∀ (R:Result → Shared → Prop) (s1:Shared),(∃ h' tk,s1 = { s with heap:=h',toks:=tk }) → (∀ b o,s.heap.get? b = some o → s1.heap.get? b = some o) → s1.heap.DictOf knd s.heap.objs.size ([]:List (α × Value)) → s.heap.objs.size < s1.heap.objs.size →
   (∀ s2,Q (.ref s.heap.objs.size) s2 → R (.ok (.ret .none)) s2) →
   wpAny (model prog w) A.in1.in1 (pyIter (.ref x)) (λ it s2=>codeAny (model prog w) A.in1 (.builtin "dict.update.loop" ⟨[.ref s.heap.objs.size,it,rawInt 0,.none],[]⟩) R s2) (λ e s'=>R (.error e) s') s1) :
  wpAny (model prog w) A (call (.type "dict") [.ref x]) Q E s:=by
 refine callType_codes (Q₁:=λ obj s₁=>obj = .ref s.heap.objs.size ∧ s₁ = { s with heap:=s.heap.push { cls:=.type "dict",data:=.dict #[] } }) PySem.F.kt_called_dict (PySem.F.kt_typeCall_dict_1 _) PySem.F.entry_dict_init (kt_code_dict_new _ ⟨rfl,rfl⟩) ?_
 rintro obj s₁ ⟨rfl,rfl⟩
 have hnew:(s.heap.push { cls:=.type "dict",data:=.dict #[] }).DictOf knd s.heap.objs.size []:=Heap.DictOf.new s.heap
 have old:∀ b o,s.heap.get? b = some o → (s.heap.push { cls:=.type "dict",data:=.dict #[] }).get? b = some o:=λ b o e=>Heap.get?_push_of_some _ e
 refine ⟨hnew.typeIs,PySem.F.args_dict_init_2 _ _,?_⟩
 unfold Builtin.«dict.__init__»
 refine wpAny_bind ?_
 unfold Builtin.Dict.selfAndRest
 refine wpAny_bind (wpAny_notOrdered_dict hnew.typeIs ?_)
 show wpAny _ _ (pure (s.heap.objs.size,[Value.ref x])) _ _ _
 refine wpAny_pure ?_
 show wpAny _ _ (Builtin.Dict.updateFrom "dict.__init__" s.heap.objs.size (.ref x) [] .none) _ _ _
 unfold Builtin.Dict.updateFrom
 refine wpAny_bind (wpAny_typeOf (hTy _ old) ?_)
 rw [if_pos hne]
 refine wpAny_bind (hkeys _ _ _ _ hA old λ h' tk hk'=>?_)
 simp only [Option.isNone_none,if_true]
 refine wpAny_bind (wpAny_rule ?_)
 have old':∀ b o,s.heap.get? b = some o → h'.get? b = some o:=λ b o e=>hk' b o (old b o e)
 have hd':h'.DictOf knd s.heap.objs.size ([]:List (α × Value)):=hnew.extBut (b:=s.heap.objs.size + 1) (λ a o zz e=>hk' a o e) (Nat.ne_of_lt (Nat.lt_succ_self _))
 have hsz:s.heap.objs.size < h'.objs.size:=by
  refine Classical.byContradiction λ hcps=>?_
  obtain ⟨zz,zz,zz,hg,zz⟩:=id hd'
  refine hcps ?_
  clear hcps
  exact Heap.lt_size hg
 exact wpAny_bind (wpAny_mono (hk _ _ ⟨_,_,rfl⟩ old' hd' hsz (λ s2 q=>⟨rfl,q⟩)) (λ it s2 q=>wpAny_pure ⟨plainId_quiet plain_dloop _,q⟩) λ zz zz q=>q)
inductive DTurn {K:Type} [DecidableEq K] (knd:KeyKind prog w K) (A:Around) (D J:Addr) (i:Nat) (R:Result → Shared → Prop) (s':Shared):Value → Prop
 | mk (t:Addr) (key v:Value) (m:Nat) (k:K) (kvs:List (K × Value)) (ht:s'.heap.get? t = some (tupObj #[key,v] m)) (hk:knd.is k key = true) (hd:s'.heap.DictOf knd D kvs) (hl:kvs.length ≤ sizeLine)
  (hq:∀ h',h'.DictOf knd D (stored kvs k v) → Heap.SameBut D s'.heap h' → codeAny (model prog w) A (.builtin "dict.update.loop" ⟨[.ref D,.ref J,rawInt (i + 1:Nat),.none],[]⟩) R { s' with heap:=h',toks:=s'.toks + 1 }):DTurn knd A D J i R s' (.ref t)
theorem dloop_step {K:Type} [DecidableEq K] {knd:KeyKind prog w K} {D J:Addr} {i:Nat} {R:Result → Shared → Prop}
  (h:wpAny (model prog w) A.in1 (pyNext (.ref J)) (λ r s'=>match r with
   | none=>R (.ok (.ret .none)) s'
   | some u=>DTurn knd A D J i R s' u)
   (λ e s'=>R (.error e) s') s) :
  codeAny (model prog w) A (.builtin "dict.update.loop" ⟨[.ref D,.ref J,rawInt i,.none],[]⟩) R s:=by
 refine codeAny_builtin entry_dloop ?_
 rw [Around.under_plainId plain_dloop _]
 show wpAny _ A.in1 (pyNext (.ref J) >>= _) _ _ s
 refine wpAny_bind (wpAny_mono h (λ r s' q=>?_) λ zz zz q=>q)
 induction r using Option.casesOn with
 | none=>exact wpAny_bind (wpAny_pure (wpAny_pure q))
 | some u=>
  obtain ⟨t,key,v,m,k,kvs,ht,hkey,hd,hsz,hq⟩:=q
  show wpAny _ _ (holding [Value.ref t] _ >>= _) _ _ _
  refine wpAny_bind (wpAny_holding ?_)
  refine wpAny_bind (wpAny_tryCatch ?_)
  unfold Builtin.Dict.pairItems
  refine wpAny_bind (wpAny_typeOf (T:="tuple") (show s'.TypeIs (.ref t) "tuple" from ⟨_,ht,rfl⟩) ?_)
  rw [if_pos (by decide)]
  refine wpAny_bind (wpAny_seqItems ht rfl ?_)
  refine wpAny_pure ?_
  show wpAny _ _ (holding [key,v] (dictSet D key v)) _ _ _
  refine wpAny_holding ?_
  refine wpAny_dictSet_pairs hkey hd (λ h' hd' hs'=>?_) hsz
  exact wpAny_pure ⟨plainId_quiet plain_dloop _,hq h' hd' hs'⟩
end
end Mine
end
section
open PySem PySem.W PySem.Calls PyProof.Rows Builtin Builtin.ObjectAttr
set_option backward.match.sparseCases false
namespace Mine
inductive PairsAt (h:Heap):List Value → List (Str × Value) → Prop
 | nil:PairsAt h [] []
 | cons (t tok m:Nat) (k:Str) (v:Value) {vs:List Value} {ps:List (Str × Value)} (ht:h.get? t = some (tupObj #[.str k tok,v] m)) (q:PairsAt h vs ps):PairsAt h (.ref t :: vs) ((k,v) :: ps)
inductive PairAt (h:Heap) (ps:List (Str × Value)) (i:Nat):Value → Prop
 | mk (t tok m:Nat) (k:Str) (v:Value) (e:ps[i]? = some (k,v)) (ht:h.get? t = some (tupObj #[.str k tok,v] m)):PairAt h ps i (.ref t)
theorem PairsAt.get {h:Heap} {vs:List Value} {ps:List (Str × Value)} (q:PairsAt h vs ps):∀ {i:Nat} {x:Value},vs[i]? = some x → PairAt h ps i x:=by
 induction q with
 | nil=>intro i x e; cases e
 | cons t tok m k v ht _ ih=>
  intro i x e
  induction i using Nat.casesOn with
  | zero=>cases e; exact ⟨t,tok,m,k,v,rfl,ht⟩
  | succ i=>
   induction ih (i:=i) e using Mine.PairAt.casesOn with
   | mk t' tok' m' k' v' e' ht'=>exact ⟨t',tok',m',k',v',e',ht'⟩
theorem PairsAt.length {h:Heap} {vs:List Value} {ps:List (Str × Value)} (q:PairsAt h vs ps):vs.length = ps.length:=by
 induction q with
 | nil=>rfl
 | cons _ _ _ _ _ _ _ ih=>exact congrArg Nat.succ ih
section
variable {prog:Program} {w:World} {A:Around} {E:Value → Shared → Prop} {s0:Shared}
theorem dloop_list {la D J:Addr} {items:Array Value} {n:Nat} {ps:List (Str × Value)} {R:Result → Shared → Prop} (hA:A.handled = none) (hl:s0.heap.get? la = some (lstObj items n)) (hp:PairsAt s0.heap items.toList ps) (hlen:ps.length ≤ sizeLine)
  (hD:s0.heap.get? D = none) (hJ:s0.heap.get? J = none) (hDJ:D ≠ J) (hR:∀ h tk,h.DictOf (strKind prog w) D (merged [] ps) → (∀ b o,s0.heap.get? b = some o → h.get? b = some o) → R (.ok (.ret .none)) { s0 with heap:=h,toks:=tk }) :
  ∀ (k i:Nat) (h:Heap) (tk:Nat),items.size - i = k → i ≤ items.size → (∀ b o,s0.heap.get? b = some o → h.get? b = some o) → h.IsListIter J la i → h.DictOf (strKind prog w) D (merged [] (ps.take i)) →
   codeAny (model prog w) A (.builtin "dict.update.loop" ⟨[.ref D,.ref J,rawInt i,.none],[]⟩) R { s0 with heap:=h,toks:=tk }:=by
 have hpl:=hp.length
 rw [Array.length_toList] at hpl
 have nold:∀ {b o},s0.heap.get? b = some o → b ≠ D ∧ b ≠ J:=λ {b o} e=>⟨(λ q=>by subst q; rw [hD] at e; cases e),(λ q=>by subst q; rw [hJ] at e; cases e)⟩
 intro k
 induction k with
 | zero=>
  intro i h tk hk hi old hit hd
  have hin:i = items.size:=by lia
  refine dloop_step (knd:=strKind prog w) ?_
  refine wpAny_pyNext_list_end hA hit (lstAt (old _ _ hl)) (by rw [hin]; simp) λ h' hs=>?_
  have e:ps.take i = ps:=List.take_of_length_le (by lia)
  rw [e] at hd
  exact hR h' tk (hd.extBut (λ a o q e=>hs _ _ q e) hDJ) λ b o e=>hs _ _ (nold e).2 (old b o e)
 | succ k ih=>
  intro i h tk hk hi old hit hd
  have hlt:i < items.size:=by lia
  refine dloop_step (knd:=strKind prog w) ?_
  have hx:items[i]? = some items[i]:=Array.getElem?_eq_getElem hlt
  obtain ⟨x,e0,hx⟩:∃ x,items.toList[i]? = some x ∧ items[i]? = some x:=⟨_,Array.getElem?_toList.trans hx,hx⟩
  refine Classical.byContradiction λ hcps=>?_
  obtain ⟨t,tok,m,key,v,hpi,ht⟩:=hp.get e0
  refine hcps ?_
  clear hcps
  refine wpAny_pyNext_list_item hit (lstAt (old _ _ hl)) hx λ h' hit' hs=>?_
  refine ⟨t,.str key tok,v,m,key,merged [] (ps.take i),hs.extBut _ _ (nold ht).2 (old _ _ ht),strKind_is _ _ _ _,hd.sameBut hs hDJ,?_,λ h'' hd'' hs''=>?_⟩
  ·have:=merged_length_le ([]:List (Str × Value)) (ps.take i)
   rw [List.length_take] at this
   simp only [List.length_nil] at this
   lia
  ·refine ih (i + 1) h'' (tk + 1) (by lia) (by lia) (λ b o e=>hs''.extBut _ _ (nold e).1 (hs.extBut _ _ (nold e).2 (old b o e))) (hit'.extBut hs''.extBut (Ne.symm hDJ)) ?_
   rw [merged_take_succ _ _ _ _ hpi]
   exact hd''
theorem dict_list_pairs {s:Shared} {la:Addr} {items:Array Value} {n:Nat} {ps:List (Str × Value)} {Q:Value → Shared → Prop} (hA:A.handled = none) (hl:s.heap.get? la = some (lstObj items n)) (hp:PairsAt s.heap items.toList ps) (hlen:ps.length ≤ sizeLine)
  (hQ:∀ h tk,h.DictOf (strKind prog w) s.heap.objs.size (merged [] ps) → (∀ b o,s.heap.get? b = some o → h.get? b = some o) → Q (.ref s.heap.objs.size) { s with heap:=h,toks:=tk }) :
  wpAny (model prog w) A (call (.type "dict") [.ref la]) Q E s:=by
 refine call_dict_from (strKind prog w) (Ty:="list") (λ s' k=>⟨_,k _ _ hl,rfl⟩) (by decide) (λ A' E' s' Q' hA' k hq=>noKeys_list (k _ _ hl) hA' hq) hA λ R s1 he k hd hsz hR=>?_
 obtain ⟨h1,tk1,rfl⟩:=he
 refine wpAny_pyIter_list (lstAt (k _ _ hl)) ?_
 have hJ:s.heap.get? h1.objs.size = none:=Heap.get?_none_of_le (Nat.le_of_lt hsz)
 have old:∀ b o,s.heap.get? b = some o → (h1.push { cls:=.type "list_iterator",data:=.fields #[.ref la,.int 0 0] }).get? b = some o:=λ b o e=>Heap.get?_push_of_some _ (k b o e)
 refine dloop_list (s0:=s) (A:=A.in1) (items:=items) (n:=n) (ps:=ps) hA hl hp hlen (Heap.get?_none_of_le (Nat.le_refl _)) hJ (Nat.ne_of_lt hsz) (λ h tk hd' k'=>hR _ (hQ h tk hd' k')) _ 0 _ tk1 rfl (Nat.zero_le _) old ⟨_,Heap.get?_push_size _ rfl,rfl,rfl⟩ ?_
 rw [List.take_zero]
 exact hd.push _
end
end Mine
end
section
open PySem PySem.W PySem.Calls PyProof.Rows Builtin Builtin.ObjectAttr
set_option backward.match.sparseCases false
namespace Mine
section
variable {prog:Program} {w:World} {h₀:Heap} {K:Tbl} {ro:Bool} {f:Frm} {env:Env} {es:List Env} {A:Around} {T:Tags} {c:Cells} {l:Locs} {s:Shared} {d:Nat}
theorem ints_of:∀ {xs:List PV} {is:List Int} {vs:List Value},allInts xs = some is → RelL T xs vs → IntsAre vs is
 | [],_,_,h,r=>by cases h; subst r; exact .nil
 | x :: xs,is,_,h,r=>by
  obtain ⟨i,hi,h⟩:=Option.bind_eq_some_iff.mp h
  obtain ⟨js,hj,rfl⟩:=Option.map_eq_some_iff.mp h
  cases intOf_some hi
  induction r.inv using Mine.ConsV.casesOn with
  | mk u t h1 h2=>induction h1 using Mine.IntV.casesOn with | mk tk=>exact .cons _ _ (ints_of hj h2)
theorem pairOf_some {x:PV} {p:Key × PV} (h:pairOf x = some p):∃ k v,x = .tup [.str k,v] ∧ p = (.s k,v):=by
 obtain ⟨l,hl,h⟩:=Option.bind_eq_some_iff.mp h
 rcases l with _ | ⟨a,r⟩
 ·exact nS h
 obtain ⟨k,hk,h⟩:=Option.bind_eq_some_iff.mp h
 rcases r with _ | ⟨v,r⟩
 ·exact nS h
 obtain ⟨g,rfl⟩:=bif_some h
 rw [tupOf_some hl,strOf_some hk,isEmpty_inv g]
 exact ⟨k,v,rfl,rfl⟩
inductive PairsTo (T:Tags) (h:Heap) (ps:List (Key × PV)) (vs:List Value):Prop
 | mk (kvs:List (Str × Value)) (p:PairsAt h vs kvs) (q:KEnts Key.s T ps kvs):PairsTo T h ps vs
theorem pairs_at {h:Heap} (W:Wd w h₀ T c h):∀ {xs:List PV} {ps:List (Key × PV)} {vs:List Value},pairsOf xs = some ps → RelL T xs vs → PairsTo T h ps vs
 | [],ps,vs,e,r=>by cases e; subst r; exact ⟨[],.nil,.nil⟩
 | x :: xs,ps,vs,e,r=>by
  obtain ⟨p,hp,e⟩:=Option.bind_eq_some_iff.mp e
  obtain ⟨ps',hps,rfl⟩:=Option.map_eq_some_iff.mp e
  obtain ⟨k,v,rfl,rfl⟩:=pairOf_some hp
  induction r.inv using Mine.ConsV.casesOn with
  | mk u t h1 h2=>
   induction h1 using Mine.SeqFz.casesOn with
   | mk a n ws ta hw=>
    obtain ⟨ws⟩:=ws
    cases hw.inv with
    | mk _ _ g1 g2=>
     induction g2.inv using Mine.ConsV.casesOn with
     | mk z _ g3 g4=>
      subst g4
      induction g1 using Mine.StrV.casesOn with
      | mk tok=>
       induction pairs_at W hps h2 using Mine.PairsTo.casesOn with
       | mk kvs q1 q2=>exact ⟨(k,z) :: kvs,.cons a tok n k z (W.froz _ _ ta) q1,.cons k z g3 q2⟩
theorem Pre.tupAt {h':Heap} {xs:List PV} {vs:Array Value} (P:Pre (w:=w) h₀ T c l s f env es) (hk:∀ b o,s.heap.get? b = some o → h'.get? b = some o) (r:RelL T xs vs.toList) {tk:Nat} :
  OutR (w:=w) h₀ ro f env es RV T s c l (.tup xs) (.ref h'.objs.size) { s with heap:=h'.push (tupObj vs 0),toks:=tk }:=by
 have o:=P.grow (ro:=ro) hk (tk:=tk)
 have o2:=o.pre.froz (ro:=ro) (o:=tupObj vs 0) rfl (tk:=tk)
 exact ⟨_,o.trans o2,SeqFz.mk _ 0 vs (Tags.put_self ..) (RelL.mono (o2.le o.pre) _ _ r)⟩
section fns
variable {x:PV} {u:Value} (hx:Rel T x u)
theorem RelL.len62 {xs:List PV} {as:Array Value} (h:RelL T xs as.toList) (hl:xs.length ≤ lim):(as.size:Int) < 2 ^ 63:=by have:=lim_fit hl; rw [h.size]; lia
include hx
theorem at_len (P:Pre (w:=w) h₀ T c l s f env es):At (w:=w) h₀ K ro f env es prog A T c l s (call (.builtin "len") [u]) (lenV x) RV:=by
 have key:∀ {xs:List PV} {a:Addr} {as:Array Value} {m:Nat},s.heap.get? a = some (lstObj as m) → RelL T xs as.toList → At (w:=w) h₀ K ro f env es prog A T c l s (call (.builtin "len") [.ref a]) (Mine.gd (decide (xs.length ≤ lim)) (Mine.ret (.int xs.length))) RV:=λ hg hr=>
  At.gd λ h=>At.val λ E=>call_len_list (lstAt hg) (hr.len62 (of_decide_eq_true h)) ⟨T,P.tok _,hr.size ▸ ⟨_⟩⟩
 have other:klOf x = none → At (w:=w) h₀ K ro f env es prog A T c l s (call (.builtin "len") [u]) (lenV x) RV:=λ e=>by
  unfold lenV
  rw [e]
  exact At.lst (tt:=λ u=>call (.builtin "len") [u]) P hx λ i xs a m as hc ta hg hr=>key hg hr
 induction x using Mine.PV.casesOn with
 | klist xs=>induction hx using Mine.SeqFz.casesOn with | mk a m as ta hr=>exact key (P.wd.froz _ _ ta) hr
 | _=>exact other rfl
theorem at_abs (P:Pre (w:=w) h₀ T c l s f env es):At (w:=w) h₀ K ro f env es prog A T c l s (call (.builtin "abs") [u]) (absV x) RV:=
 At.int (tt:=λ u=>call (.builtin "abs") [u]) hx λ i t=>At.val λ E=>call_abs_int λ u tk=>by
  have:(if i < 0 then -i else i) = (i.natAbs:Int):=by split <;> omega
  first | exact this ▸ P.int | (refine ⟨T,P.tok _,?_⟩; rw [← this]; exact ⟨u⟩)
theorem at_sum (hA:AOk A d es) (P:Pre (w:=w) h₀ T c l s f env es):At (w:=w) h₀ K ro f env es prog A T c l s (call (.builtin "sum") [u]) (sumV x) RV:=
 At.lst (tt:=λ u=>call (.builtin "sum") [u]) P hx λ i xs a m as hc ta hg hr=>At.opt λ is hi=>At.gd λ h=>At.val λ E=>by
  have hI:=ints_of hi hr
  have hall:AllInts as:=by have:=hI.allInts; rwa [Array.toArray_toList] at this
  have hn:=hI.numsOf
  refine Classical.byContradiction λ hcps=>?_
  obtain ⟨ys,rfl⟩:=hall.items
  refine hcps ?_
  clear hcps
  rw [nums_intItems] at hn
  refine sum_intListG hA.hand (lstAt hg) λ h' tk t' hk=>⟨T,P.grow hk,?_⟩
  rw [preSum_eq,List.take_of_length_le (by simp),hn]
  exact ⟨t'⟩
theorem at_int (P:Pre (w:=w) h₀ T c l s f env es):At (w:=w) h₀ K ro f env es prog A T c l s (call (.type "int") [u]) (intV x) RV:=
 At.int (tt:=λ u=>call (.type "int") [u]) hx λ i t=>At.val λ E=>call_int_int ⟨T,Out.refl P,⟨_⟩⟩
theorem at_tup (P:Pre (w:=w) h₀ T c l s f env es):At (w:=w) h₀ K ro f env es prog A T c l s (call (.type "tuple") [u]) (tupV x) RV:=by
 have other:tupOf x = none → At (w:=w) h₀ K ro f env es prog A T c l s (call (.type "tuple") [u]) (tupV x) RV:=λ e=>by
  unfold tupV
  rw [e]
  exact At.lst (tt:=λ u=>call (.type "tuple") [u]) P hx λ i xs a m as hc ta hg hr=>At.gd λ h=>At.val λ E=>call_tuple_list (lstAt hg) (λ h' hk=>P.tupAt hk hr) (hr.fits (of_decide_eq_true h))
 induction x using Mine.PV.casesOn with
 | tup xs=>
  have hx':=hx
  induction hx using Mine.SeqFz.casesOn with | mk a m as ta hr=>exact At.val λ E=>call_tuple_same ⟨_,P.wd.froz _ _ ta,rfl,m,rfl⟩ ⟨T,Out.refl P,hx'⟩
 | _=>exact other rfl
theorem at_dct (hs:(h₀.get? sysModules).isSome = true) (hA:AOk A d es) (P:Pre (w:=w) h₀ T c l s f env es):At (w:=w) h₀ K ro f env es prog A T c l s (call (.type "dict") [u]) (dctV x) RV:=
 At.ref (tt:=λ u=>call (.type "dict") [u]) hx λ i hi=>At.cell λ y hy=>by
  have hnone:s.heap.get? s.heap.objs.size = none:=Heap.get?_none_of_le (Nat.le_refl _)
  have le:T.le (T.put s.heap.objs.size (.cell c.length)):=P.wd.push_le w _
  have fin:∀ {h':Heap} {tk:Nat} {ps:List (Key × PV)} {kvs:List (Str × Value)},h'.DictOf (PySem.strKind prog w) s.heap.objs.size kvs → (∀ b o,s.heap.get? b = some o → h'.get? b = some o) → KEnts Key.s T ps kvs →
    OutR (w:=w) h₀ ro f env es RV T s (c ++ [.dict ps]) l (.ref c.length) (.ref s.heap.objs.size) { s with heap:=h',toks:=tk }:=λ hd hk q=>
   ⟨_,P.made hk hnone (dLive hd) (dict_from (embS prog w) (Tags.put_self ..) hd (q.mono le)),RefC.mk _ (Tags.put_self ..)⟩
  induction y using Mine.Cell.casesOn with
  | list xs=>
   refine At.opt λ ps hps=>At.gd λ h=>At.ok rfl λ E=>?_
   induction P.lst hi hy using Mine.IsLst.casesOn with
   | mk a m as ta hg hr=>
    induction pairs_at P.wd hps hr using Mine.PairsTo.casesOn with
    | mk kvs hpa hke=>
     have hk':KEnts Key.s T (putAll ps []) (merged [] kvs):=putAll_ents (embS prog w) hke .nil List.nodup_nil
     exact dict_list_pairs hA.hand hg hpa (by rw [hke.length]; exact lim_le (of_decide_eq_true h)) λ h' tk hd' hk=>fin hd' hk hk'
  | dict xs=>
   refine At.opt λ zz e=>At.gd λ h=>At.ok rfl λ E=>?_
   cases e
   induction P.dct hi hy using Mine.IsDct.casesOn with
   | mk a m as ta hg hr hn=>
    induction dict_to (embS prog w) hg hr hn (and_l h) using Mine.DictTo.casesOn with
    | mk ka da ea=>exact kt_call_dict (P.notSys hs ta) da.dictOf (by rw [ea.length]; exact lim_le (of_decide_eq_true (and_r h))) λ h' hd' hs'=>fin hd' (λ b o e=>(hs'.2 b (Nat.ne_of_lt (Heap.lt_size e))).trans (Heap.get?_push_of_some _ e)) ea
  | _=>exact At.no rfl
end fns
theorem at_rng (P:Pre (w:=w) h₀ T c l s f env es) {vs:List PV} {us:List Value} (hv:RelL T vs us):At (w:=w) h₀ K ro f env es prog A T c l s (call (.type "range") us) (rngV vs) RV:=by
 induction vs using List.casesOn with
 | nil=>exact At.no rfl
 | cons x r=>
  induction hv.inv using Mine.ConsV.casesOn with
  | mk u us hx hr=>
   refine At.int (tt:=λ u=>call (.type "range") (u :: us)) hx λ a t=>?_
   induction r using List.casesOn with
   | nil=>
    subst hr
    exact At.gd λ h=>At.val λ E=>call_range_1 ⟨_,P.froz (ro:=ro) (o:=rngObj 0 a 1 s.toks t (s.toks + 1)) rfl (tk:=s.toks + 1 + 1),RngV.mk _ _ _ _ (Tags.put_self ..)⟩
   | cons y r=>
    induction hr.inv using Mine.ConsV.casesOn with
    | mk v us hy hr2=>
     refine At.int (tt:=λ v=>call (.type "range") (.int a t :: v :: us)) hy λ b t2=>At.one (tt:=λ us=>call (.type "range") (.int a t ::  .int b t2 :: us)) hr2 λ z u hz=>At.gd λ h=>At.val λ E=>?_
     cases intOf_some (of_decide_eq_true (and_r h))
     induction hz using Mine.IntV.casesOn with
     | mk t3=>exact call_range_3 (by decide) ⟨_,P.froz (ro:=ro) (o:=rngObj a b (-1) t t2 t3) rfl (tk:=s.toks),RngV.mk _ _ _ _ (Tags.put_self ..)⟩ (.inl (PyProof.noPylong_small (by decide)))
theorem At.ite {β:Type} {p:Prop} [Decidable p] {t:Sem Value} {m m':M β} {RR:Tags → β → Value → Prop} (h:p → At (w:=w) h₀ K ro f env es prog A T c l s t m RR) (h':At (w:=w) h₀ K ro f env es prog A T c l s t m' RR):At (w:=w) h₀ K ro f env es prog A T c l s t (if p then m else m') RR:=by
 by_cases q:p
 ·rw [if_pos q]; exact h q
 ·rw [if_neg q]; exact h'
theorem at_biCall (hs:(h₀.get? sysModules).isSome = true) (hA:AOk A d es) (P:Pre (w:=w) h₀ T c l s f env es) {v:Value} {vs:List PV} {us:List Value} (hv:RelL T vs us):At (w:=w) h₀ K ro f env es prog A T c l s (call v us) (biCall v vs) RV:=by
 induction v using PySem.Value.casesOn with
 | builtin n=>
  refine At.ite (λ q=>?_) (At.ite (λ q=>?_) (At.ite (λ q=>?_) (At.no rfl)))
  ·subst q; exact At.one (tt:=λ us=>call (.builtin "len") us) hv λ x u hx=>at_len hx P
  ·subst q; exact At.one (tt:=λ us=>call (.builtin "abs") us) hv λ x u hx=>at_abs hx P
  ·subst q; exact At.one (tt:=λ us=>call (.builtin "sum") us) hv λ x u hx=>at_sum hx hA P
 | type n=>
  refine At.ite (λ q=>?_) (At.ite (λ q=>?_) (At.ite (λ q=>?_) (At.ite (λ q=>?_) (At.no rfl))))
  ·subst q; exact At.one (tt:=λ us=>call (.type "int") us) hv λ x u hx=>at_int hx P
  ·subst q; exact At.one (tt:=λ us=>call (.type "tuple") us) hv λ x u hx=>at_tup hx P
  ·subst q; exact At.one (tt:=λ us=>call (.type "dict") us) hv λ x u hx=>at_dct hx hs hA P
  ·subst q; exact at_rng P hv
 | _=>exact At.no rfl
end
end Mine
end
section
open PySem PySem.W PySem.Calls PyProof.Rows Builtin Builtin.ObjectAttr
set_option backward.match.sparseCases false
namespace Mine
noncomputable abbrev RVL:Tags → List PV → List Value → Prop:=λ T ps vs=>RelL T ps vs
noncomputable abbrev RT:Tags → Bool → Bool → Prop:=λ zz b r=>r = b
section
variable {prog:Program} {w:World} {h₀:Heap} {K:Tbl} {ro:Bool} {f:Frm} {env:Env} {es:List Env} {A:Around} {T:Tags} {c:Cells} {l:Locs} {s:Shared} {d:Nat}
theorem bnd_ok {α β:Type} {m:M α} {g:α → M β} {v:α} {c':Cells} {l':Locs} (e:m c l = .ok v c' l'):bnd m g c l = g v c' l':=by unfold bnd; rw [e]
theorem bnd_exc {α β:Type} {m:M α} {g:α → M β} {c':Cells} (e:m c l = .exc c'):bnd m g c l = .exc c':=by unfold bnd; rw [e]
theorem bnd_nf {α β:Type} {m:M α} {g:α → M β} (h:bnd m g c l ≠ .fail):m c l ≠ .fail:=λ e=>h (by unfold bnd; rw [e])
theorem At.ret {β α:Type} {RR:Tags → β → α → Prop} {v:β} {u:α} (P:Pre (w:=w) h₀ T c l s f env es) (h:RR T v u):At (w:=w) h₀ K ro f env es prog A T c l s (pure u) (ret v) RR:=
 λ zz=>wpAny_pure ⟨T,Out.refl P,h⟩
theorem At.seqP {α β δ:Type} {t:Sem α} {m:M β} {g:β → M δ} {RR:Tags → β → α → Prop} {Φ:α → Shared → Prop} {E:Value → Shared → Prop}
  (hm:At (w:=w) h₀ K ro f env es prog A T c l s t m RR)
  (hnf:bnd m g c l ≠ .fail)
  (hE:∀ v s',ER (w:=w) h₀ K ro env es T s (bnd m g c l) v s' → E v s')
  (hk:∀ v c' l' u s' T',m c l = .ok v c' l' → bnd m g c l = g v c' l' → Out (w:=w) h₀ ro f env es T s T' c' l' s' → RR T' v u → g v c' l' ≠ .fail → Φ u s') :
  wpAny (model prog w) A t Φ E s:=by
 have hm':=hm
 unfold At at hm'
 induction e:m c l using Mine.R.casesOn with
 | fail=>exact absurd e (bnd_nf hnf)
 | exc c'=>
  rw [e] at hm'
  exact wpAny_mono (hm' (λ q=>nomatch q)) (λ zz zz h=>h.elim) λ v s' h=>hE v s' (by rw [bnd_exc e]; exact h)
 | ok v c' l'=>
  rw [e] at hm'
  have hb:=bnd_ok (g:=g) e
  refine wpAny_mono (hm' (λ q=>nomatch q)) (λ u s' h=>?_) λ zz zz h=>h.elim
  obtain ⟨T',o,q⟩:=h
  exact hk v c' l' u s' T' e hb o q (hb ▸ hnf)
theorem At.cons {x:Sem Value} {rest:List (Bool × Sem Value)} {m:M PV} {mr:M (List PV)} (hx:At (w:=w) h₀ K ro f env es prog A T c l s x m RV)
  (hr:∀ v c' l' u s' T',Out (w:=w) h₀ ro f env es T s T' c' l' s' → Rel T' v u → At (w:=w) h₀ K ro f env es prog A T' c' l' s' (spliced rest) mr RVL) :
  At (w:=w) h₀ K ro f env es prog A T c l s (spliced ((false,x) :: rest)) (consM m mr) RVL:=by
 refine At.eq (t':=x >>= λ v=>holding [v] (spliced rest) >>= λ r=>pure ([v] ++ r)) (by rw [spliced]; rfl) ?_
 refine At.bind hx λ v c' l' u s' T' o r=>?_
 refine At.bind (At.hold (hr v c' l' u s' T' o r)) λ vs c'' l'' us s'' T'' o2 r2=>?_
 exact At.ret o2.pre (RelL.cons (Rel.mono (o2.le o.pre) _ _ r) r2)
noncomputable def KeepOk (M:Model) (h:Heap) (u:Value):Prop:=∃ k,(k = Keeper.frame ∨ k = Keeper.machine ∨ k = Keeper.boundFrame) ∧ Looks M h (keeperOf u) k
theorem keep_builtin {M:Model} {h:Heap} {i:String}:KeepOk M h (.builtin i):=⟨.machine,.inr (.inl rfl),Looks.of_pure rfl⟩
theorem keep_type {M:Model} {h:Heap} {i:String}:KeepOk M h (.type i):=⟨.machine,.inr (.inl rfl),Looks.of_pure rfl⟩
theorem args_plain {u:Value} {trees:List (Bool × Sem Value)} (ht:trees.any (·.1) = false) {Q:Args → Shared → Prop} {E:Value → Shared → Prop} (h:wpAny (model prog w) A (spliced trees) (λ vs s'=>Q ⟨vs,[]⟩ s') E s) :
  wpAny (model prog w) A (evalArgs u true trees []) Q E s:=by
 induction trees using List.casesOn with
 | nil=>
  unfold evalArgs
  show wpAny _ _ (spliced [] >>= _) Q E s
  refine wpAny_bind (wpAny_mono h (λ vs s' h'=>?_) λ zz zz x=>x)
  refine wpAny_bind (wpAny_pure ?_)
  refine wpAny_holding ?_
  exact wpAny_bind (wpAny_pure (wpAny_bind (wpAny_pure (wpAny_pure h'))))
 | cons x r=>
  obtain ⟨b,t⟩:=x
  obtain ⟨rfl,zz⟩:=Bool.or_eq_false_iff.mp (show (b || r.any (·.1)) = false from ht)
  exact evalArgs_plain h
theorem at_callWith {pos:Pos} {u:Value} {first:List Value} {trees:List (Bool × Sem Value)} {ml:M (List PV)} {g:List PV → M PV} (ht:trees.any (·.1) = false)
  (ha:At (w:=w) h₀ K ro f env es prog A T c l s (spliced trees) ml RVL)
  (hk:∀ vs c' l' s' T',Out (w:=w) h₀ ro f env es T s T' c' l' s' → g vs c' l' ≠ .fail → KeepOk (model prog w) s'.heap u)
  (hc:∀ vs c' l' us s' T',Out (w:=w) h₀ ro f env es T s T' c' l' s' → RelL T' vs us → At (w:=w) h₀ K ro f env es prog A T' c' l' s' (call u (first ++ us)) (g vs) RV) :
  At (w:=w) h₀ K ro f env es prog A T c l s (callWith pos u first trees []) (bnd ml g) RV:=by
 intro hnf
 refine callWith_of (P:=λ h=>KeepOk (model prog w) h u) (by rw [ht]; rfl) (λ zz h=>h) (args_plain ht ?_)
 refine At.seqP ha hnf (λ zz zz h=>h) λ vs c' l' us s' T' e hb o r hg=>⟨hk vs c' l' s' T' o hg,?_⟩
 rw [hb]
 exact wpAny_mono (hc vs c' l' us s' T' o r hg) (λ zz zz h=>h.trans o) λ zz zz h=>h.trans o
theorem star_cons {e:Expr} (h:notStar e = true) (r:List Expr):starEach (e :: r) env = (false,eval e env) :: starEach r env:=by cases e <;> first | rfl | exact fT h
theorem star_none:∀ {as:List Expr} {pos:Pos},as.all notStar = true → (backTo pos (starEach as env)).any (·.1) = false ∧ (backTo pos (starEach as env)).all (λ x=>!x.1) = true
 | [],_,_=>⟨rfl,rfl⟩
 | e :: r,pos,h=>by
  rw [List.all_cons] at h
  rw [star_cons (and_l h)]
  exact star_none (pos:=pos) (and_r h)
theorem back_cons {e:Expr} (h:notStar e = true) (r:List Expr) (pos:Pos):backTo pos (starEach (e :: r) env) = (false,eval e env) :: backTo pos (starEach r env):=by rw [star_cons h]; rfl
end
end Mine
end
section
open PySem PySem.W PySem.Calls PyProof.Rows Builtin Builtin.ObjectAttr
set_option backward.match.sparseCases false
namespace Mine
noncomputable def RM (u:Value):Tags → Mth → Value × List Value → Prop:=λ zz m p=>match m with
 | .fn g=>p = (.ref g,[u])
 | .bi lst b=>p = (.builtin (mid lst b),[u])
section
variable {prog:Program} {w:World} {h₀:Heap} {K:Tbl} {ro:Bool} {f:Frm} {env:Env} {es:List Env} {A:Around} {T:Tags} {c:Cells} {l:Locs} {s:Shared} {d:Nat}
theorem callOf_some {e:Expr} {p:Expr × List Expr × List Keyword}:callOf e = some p → ∃ pos,e = .Call p.1 p.2.1 p.2.2 pos:=by
 induction e using PySem.Expr.casesOn with
 | Call g as ks pos=>exact λ h=>⟨pos,Option.some.inj h ▸ rfl⟩
 | _=>exact nS
theorem nameOf_some {e:Expr} {x:Str}:nameOf e = some x → ∃ pos,e = .Name x pos:=by
 induction e using PySem.Expr.casesOn with
 | Name y pos=>exact λ h=>⟨pos,Option.some.inj h ▸ rfl⟩
 | _=>exact nS
theorem base_eq {o:Expr} {a:Str} (h:plainBase o = true) (m:Sem Value):attributeBase o a env m = m:=by
 induction o using PySem.Expr.casesOn with
 | Call g as ks pos=>
  induction g using PySem.Expr.casesOn with
  | Name x p=>
   induction as using List.casesOn with
   | nil=>
    induction ks using List.casesOn with
    | nil=>exact fT h
    | cons=>rfl
   | cons=>rfl
  | _=>rfl
 | _=>rfl
variable {X:Frag} (hX:X.In h₀) (hC:∀ C k,K.cls C = some k → ClsOk X C k)
theorem or_inv {p q:Prop} [Decidable p] [Decidable q] (h:(decide p || decide q) = true):p ∨ q:=(Bool.or_eq_true_iff.mp h).imp of_decide_eq_true of_decide_eq_true
theorem at_mbi {a:Addr} {n:Str} {lst:Bool} {pl:Sem Bool} {Ty:String} (P:Pre (w:=w) h₀ T c l s f env es) (hT:s.TypeIs (.ref a) Ty) (hd:∃ o,s.heap.get? a = some o ∧ o.dict = none)
  (h:∀ {Q:Value × List Value → Shared → Prop} {E:Value → Shared → Prop},(∀ b,Value.ref a = .ref b → ∃ o,s.heap.get? b = some o ∧ o.dict = none) → Q (.builtin (mid lst n),[.ref a]) s → wpAny (model prog w) A (getMethod (.ref a) n pl) Q E s):At (w:=w) h₀ K ro f env es prog A T c l s (getMethod (.ref a) n pl) (Mine.ret (.bi lst n)) (RM (.ref a)):=
 At.val λ E=>h (λ b e=>by cases e; exact hd) ⟨T,Out.refl P,rfl⟩
include hX hC in
theorem at_methV (P:Pre (w:=w) h₀ T c l s f env es) {x:PV} {u:Value} {n:Str} {pl:Sem Bool} (hx:Rel T x u):At (w:=w) h₀ K ro f env es prog A T c l s (getMethod u n pl) (methV K x n) (RM u):=by
 refine At.ref (tt:=λ u=>getMethod u n pl) hx λ i hi=>At.cell λ y hy=>?_
 induction y using Mine.Cell.casesOn with
 | inst C xs=>
  refine At.opt λ k hk=>At.gd λ e2=>At.opt λ g e1=>At.val λ E=>?_
  induction P.ins hi hy using Mine.IsIns.casesOn with
  | mk a dd m ents ta td hg hd hr hn=>
   have ok:=hC C k hk
   obtain ⟨hf,ht⟩:=ok.meth n g e1
   exact method_fn (hX.keeps (P.wd.keeps w)) (⟨hg,rfl,rfl,hd⟩:W.InstAt s.heap a (instObj C dd) C (some (dictOf ents m))) (plainGet_of ok.get).1 (plainGet_of ok.get).2 hf (beq_iff_eq.mp ht)
    (by show (lookIn n (dictOf ents m)).map _ = _; rw [lookIn_dict,hr.miss (Option.isNone_iff_eq_none.mp e2)]; rfl) ⟨T,Out.refl P,rfl⟩
 | list xs=>
  refine At.gd λ h=>?_
  induction P.lst hi hy using Mine.IsLst.casesOn with
  | mk a m as ta hg hr=>
   rcases or_inv h with rfl | rfl
   ·exact at_mbi P (lstAt hg).typeIs ⟨_,hg,rfl⟩ λ hd q=>getMethod_builtin (lstAt hg).typeIs PySem.F.plainAttrs_list PySem.F.slot_list_append PySem.F.type_list_append hd q
   ·exact at_mbi P (lstAt hg).typeIs ⟨_,hg,rfl⟩ λ hd q=>getMethod_builtin (lstAt hg).typeIs PySem.F.plainAttrs_list PySem.F.slot_list_pop PySem.F.type_list_pop hd q
 | dict xs=>
  refine At.gd λ h=>?_
  induction P.dct hi hy using Mine.IsDct.casesOn with
  | mk a m as ta hg hr hn=>
   have hT:s.TypeIs (.ref a) "dict":=⟨_,hg,rfl⟩
   rcases Bool.or_eq_true_iff.mp h with h | h
   ·rcases Bool.or_eq_true_iff.mp h with h | h
    ·rcases or_inv h with rfl | rfl
     ·exact at_mbi P hT ⟨_,hg,rfl⟩ λ hd q=>getMethod_builtin hT PySem.F.plainAttrs_dict PySem.F.slot_dict_get PySem.F.type_dict_get hd q
     ·exact at_mbi P hT ⟨_,hg,rfl⟩ λ hd q=>getMethod_builtin hT PySem.F.plainAttrs_dict PySem.F.slot_dict_pop PySem.F.type_dict_pop hd q
    ·cases of_decide_eq_true h
     exact at_mbi P hT ⟨_,hg,rfl⟩ λ hd q=>getMethod_builtin hT PySem.F.plainAttrs_dict PySem.F.slot_dict_items PySem.F.type_dict_items hd q
   ·cases of_decide_eq_true h
    exact at_mbi P hT ⟨_,hg,rfl⟩ λ hd q=>getMethod_builtin hT PySem.F.plainAttrs_dict PySem.F.slot_dict_update PySem.F.type_dict_update hd q
 | box=>exact At.no rfl
inductive CallV (T:Tags) (s:Shared) (es:List Env) (v:PV) (c:Cells) (u:Value) (s':Shared):Prop
 | mk (T':Tags) (st:∀ L,Step ro (frsOf es) L T s.heap T' s'.heap) (al:Alike s s') (wd:Wd w h₀ T' c s'.heap) (fr:Frs T' s'.heap es) (r:Rel T' v u):CallV T s es v c u s'
inductive CallE (fault:Addr) (T:Tags) (s:Shared) (es:List Env) (c:Cells) (s':Shared):Value → Prop
 | mk (T':Tags) (e:Addr) (hr:ro = false) (st:∀ L,Step ro (frsOf es) L T s.heap T' s'.heap) (al:Alike s s') (wd:Wd w h₀ T' c s'.heap) (fr:Frs T' s'.heap es) (x:ExcAt fault s.heap T' s'.heap none e):CallE fault T s es c s' (.ref e)
noncomputable def CQ (T:Tags) (s:Shared) (es:List Env) (r:CR) (u:Value) (s':Shared):Prop:=match r with
 | .ok v c=>CallV (w:=w) (h₀:=h₀) (ro:=ro) T s es v c u s'
 | .exc _=>False
 | .fail=>False
noncomputable def CE (fault:Addr) (T:Tags) (s:Shared) (es:List Env) (r:CR) (v:Value) (s':Shared):Prop:=match r with
 | .exc c=>CallE (w:=w) (h₀:=h₀) (ro:=ro) fault T s es c s' v
 | .ok _ _=>False
 | .fail=>False
noncomputable def isCallee:PV → Bool
 | .val (.ref _)=>true
 | .clo ..=>true
 | _=>false
structure CallOk (prog:Program) (w:World) (h₀:Heap) (K:Tbl) (cf:Callee) (d:Nat):Prop where
 call:∀ (ro:Bool) (fv:PV) (vs:List PV) (u:Value) (us:List Value) (A:Around) (T:Tags) (c:Cells) (s:Shared) (es:List Env),isCallee fv = true → AOk A d es → Wd w h₀ T c s.heap → Based T → Frs T s.heap es → Rel T fv u → RelL T vs us →
  cf ro fv vs c ≠ .fail → wpAny (model prog w) A (PySem.call u us) (CQ (w:=w) (h₀:=h₀) (ro:=ro) T s es (cf ro fv vs c)) (CE (w:=w) (h₀:=h₀) (ro:=ro) K.fault T s es (cf ro fv vs c)) s
 keep:∀ (ro:Bool) (fv:PV) (vs:List PV) (u:Value) (T:Tags) (c:Cells) (h:Heap),isCallee fv = true → Wd w h₀ T c h → Rel T fv u → cf ro fv vs c ≠ .fail → KeepOk (model prog w) h u
theorem Out.ofCall {T':Tags} {c':Cells} {s':Shared} (P:Pre (w:=w) h₀ T c l s f env es) (S:∀ L,Step ro (frsOf es) L T s.heap T' s'.heap) (al:Alike s s') (W:Wd w h₀ T' c' s'.heap) (Fs:Frs T' s'.heap es) :
  Out (w:=w) h₀ ro f env es T s T' c' l s':=by
 have le:=(S 0).le w P.wd
 have L:Loc T' s'.heap env l:=P.loc.step (S (env.locals + 1)) le (Nat.ne_of_lt (Nat.lt_succ_self _))
 exact ⟨S _,al,W,L,Fs,P.frm.mono le⟩
theorem Pre.loc0 (P:Pre (w:=w) h₀ T c l s f env es) {T':Tags} {s':Shared} (S:∀ L,Step ro (frsOf es) L T s.heap T' s'.heap):Loc T' s'.heap env []:=
 (show Loc T s.heap env [] from ⟨P.loc.free,P.loc.ns.imp λ m q=>⟨q.1,λ zz zz q=>nomatch q⟩⟩).step (S (env.locals + 1)) ((S 0).le w P.wd) (Nat.ne_of_lt (Nat.lt_succ_self _))
theorem lift_nf {r:CR} (h:lift r c l ≠ .fail):r ≠ .fail:=λ q=>h (by rw [q]; rfl)
theorem at_lift (P:Pre (w:=w) h₀ T c l s f env es) {t:Sem Value} {r:CR} (h:r ≠ .fail → wpAny (model prog w) A t (CQ (w:=w) (h₀:=h₀) (ro:=ro) T s es r) (CE (w:=w) (h₀:=h₀) (ro:=ro) K.fault T s es r) s) {m:M PV} (e:m c l = lift r c l):At (w:=w) h₀ K ro f env es prog A T c l s t m RV:=by
 intro hnf
 rw [e] at hnf ⊢
 refine wpAny_mono (h (lift_nf hnf)) (λ z s' q=>?_) λ z s' q=>?_
 ·induction r using Mine.CR.casesOn with
  | ok v c'=>induction q using Mine.CallV.casesOn with | mk T' S al W Fs r=>exact ⟨T',Out.ofCall P S al W Fs,r⟩
  | _=>exact q.elim
 ·induction r using Mine.CR.casesOn with
  | exc c'=>induction q using Mine.CallE.casesOn with | mk T' e hro S al W Fs x=>exact ⟨T',e,hro,S _,al,W,Fs,P.loc0 S,x.held⟩
  | _=>exact q.elim
theorem at_callV (hs:(h₀.get? sysModules).isSome = true) {cf:Callee} (hcf:CallOk prog w h₀ K cf d) (hA:AOk A d es) (P:Pre (w:=w) h₀ T c l s f env es) {fv:PV} {u:Value} {vs:List PV} {us:List Value} (hf:Rel T fv u) (hv:RelL T vs us) :
  At (w:=w) h₀ K ro f env es prog A T c l s (call u us) (callV cf ro fv vs) RV:=by
 induction fv using Mine.PV.casesOn with
 | val v=>
  induction v using PySem.Value.casesOn with
  | ref a=>exact at_lift P (hcf.call ro (.val (.ref a)) vs u us A T c s es rfl hA P.wd P.frm.base P.frs hf hv) rfl
  | _=>subst hf; exact at_biCall hs hA P hv
 | clo b sc k=>exact at_lift P (hcf.call ro (.clo b sc k) vs u us A T c s es rfl hA P.wd P.frm.base P.frs hf hv) rfl
 | _=>exact At.no rfl
theorem keep_callV {cf:Callee} (hcf:CallOk prog w h₀ K cf d) {fv:PV} {u:Value} {vs:List PV} {h:Heap} (W:Wd w h₀ T c h) (hf:Rel T fv u) (hnf:callV cf ro fv vs c l ≠ .fail):KeepOk (model prog w) h u:=by
 induction fv using Mine.PV.casesOn with
 | val v=>
  induction v using PySem.Value.casesOn with
  | ref a=>exact hcf.keep ro (.val (.ref a)) vs u T c h rfl W hf (lift_nf (c:=c) (l:=l) hnf)
  | builtin i=>subst hf; exact keep_builtin
  | type i=>subst hf; exact keep_type
  | _=>exact absurd rfl hnf
 | clo b sc k=>exact hcf.keep ro (.clo b sc k) vs u T c h rfl W hf (lift_nf (c:=c) (l:=l) hnf)
 | _=>exact absurd rfl hnf
include hX hC in
theorem at_callMethod (hs:(h₀.get? sysModules).isSome = true) {cf:Callee} (hcf:CallOk prog w h₀ K cf d) (hA:AOk A d es) {o:Expr} {a:Str} {apos pos:Pos} {as:List Expr} {mo:M PV} {ml:M (List PV)}
  (hp:plainBase o = true) (hns:as.all notStar = true) (hlen:as.length < 20) (hline:(apos.endLine == pos.line) = true)
  (ho:At (w:=w) h₀ K ro f env es prog A T c l s (eval o env) mo RV)
  (ha:∀ T c l s,Pre (w:=w) h₀ T c l s f env es → At (w:=w) h₀ K ro f env es prog A T c l s (spliced (backTo pos (starEach as env))) ml RVL) :
  At (w:=w) h₀ K ro f env es prog A T c l s (eval (.Call (.Attribute o a apos) as [] pos) env)
   (meth K cf ro mo a ml) RV:=by
 have hst:=star_none (env:=env) (pos:=pos) hns
 have hform:methodCallForm (as.length + ([]:List Keyword).length) (backTo pos (starEach as env)) (backToKw pos (keywordEach [] env)) = true:=by
  unfold methodCallForm
  rw [hst.2]
  show (true && true && decide (as.length + 0 + 0 < 30)) = true
  simp
  lia
 have hpos:methodCallPos true o env apos pos = pure pos:=by unfold methodCallPos; simp [hline]
 refine At.eq (arm_eval_Call ..) ?_
 rw [base_eq hp]
 refine At.bind ho λ x c' l' u s' T' o1 r=>?_
 refine At.pos ?_
 unfold methodCall
 rw [hform]
 refine At.bind (At.hold (at_methV hX hC o1.pre r)) λ m c'' l'' p s'' T'' o2 rm=>?_
 have ru:=Rel.mono (o2.le o1.pre) _ _ r
 rw [hpos]
 show At (w:=w) h₀ K ro f env es prog A T'' c'' l'' s'' (callWith pos p.1 p.2 (backTo pos (starEach as env)) []) _ RV
 induction m using Mine.Mth.casesOn with
 | fn g=>
  obtain rfl:=rm
  refine at_callWith hst.1 (ha _ _ _ _ o2.pre) (λ vs c3 l3 s3 T3 o3 hg=>keep_callV (fv:=.val (.ref g)) hcf o3.pre.wd rfl hg) λ vs c3 l3 us s3 T3 o3 rl=>?_
  exact at_callV (fv:=.val (.ref g)) hs hcf hA o3.pre rfl (RelL.cons (Rel.mono (o3.le o2.pre) _ _ ru) rl)
 | bi lst b=>
  obtain rfl:=rm
  refine at_callWith hst.1 (ha _ _ _ _ o2.pre) (λ vs c3 l3 s3 T3 o3 hg=>keep_builtin) λ vs c3 l3 us s3 T3 o3 rl=>?_
  exact at_methB hs hA o3.pre (Rel.mono (o3.le o2.pre) _ _ ru) rl
theorem at_callName (hs:(h₀.get? sysModules).isSome = true) {cf:Callee} (hcf:CallOk prog w h₀ K cf d) (hA:AOk A d es) {g:Str} {p pos:Pos} {as:List Expr} {mo:M PV} {ml:M (List PV)}
  (hns:as.all notStar = true) (ho:At (w:=w) h₀ K ro f env es prog A T c l s (eval (.Name g p) env) mo RV)
  (ha:∀ T c l s,Pre (w:=w) h₀ T c l s f env es → At (w:=w) h₀ K ro f env es prog A T c l s (spliced (backTo pos (starEach as env))) ml RVL) :
  At (w:=w) h₀ K ro f env es prog A T c l s (eval (.Call (.Name g p) as [] pos) env) (calN cf ro mo ml) RV:=by
 have hst:=star_none (env:=env) (pos:=pos) hns
 refine At.eq (arm_eval_Call_Name' ..) ?_
 refine At.bind ho λ fv c' l' u s' T' o1 r=>?_
 refine at_callWith hst.1 (ha _ _ _ _ o1.pre) (λ vs c3 l3 s3 T3 o3 hg=>keep_callV hcf o3.pre.wd (Rel.mono (o3.le o1.pre) _ _ r) hg) λ vs c3 l3 us s3 T3 o3 rl=>?_
 exact at_callV hs hcf hA o3.pre (Rel.mono (o3.le o1.pre) _ _ r) rl
end
end Mine
end
section
open PySem PySem.W PySem.Calls PyProof.Rows Builtin Builtin.ObjectAttr
set_option backward.match.sparseCases false
namespace Mine
section
variable {prog:Program} {w:World} {h₀:Heap} {K:Tbl} {ro:Bool} {f:Frm} {env:Env} {es:List Env} {A:Around} {T:Tags} {c:Cells} {l:Locs} {s:Shared} {d:Nat}
theorem at_stL (P:Pre (w:=w) h₀ T c l s f env es) {x:Str} {v:PV} {u:Value} (hk:env.kindOf x = some .local) (hv:Rel T v u):At (w:=w) h₀ K ro f env es prog A T c l s (bindName env x u) (stL x v) RU:=At.ok rfl λ E=>by
 refine Classical.byContradiction λ hcps=>?_
 obtain ⟨m,ln,lr⟩:=P.loc.ns
 refine hcps ?_
 clear hcps
 exact wpAny_bindName (wpAny_storeName_local hk ln (λ h' hn hs=>⟨T,P.store ln lr hv hn hs,trivial⟩) (by rw [P.frm.kind]; rfl))
theorem at_stName (P:Pre (w:=w) h₀ T c l s f env es) {x:Str} {v:PV} {u:Value} (hv:Rel T v u):At (w:=w) h₀ K ro f env es prog A T c l s (bindName env x u) (stName ro f x v) RU:=by
 have bn:∀ {m:M Unit},At (w:=w) h₀ K ro f env es prog A T c l s (storeName env x u) m RU → At (w:=w) h₀ K ro f env es prog A T c l s (bindName env x u) m RU:=λ h hnf=>wpAny_bindName (h hnf)
 refine At.opt λ kd e=>?_
 have hkind:=(P.kindOf x).trans e
 induction kd using PySem.NameKind.casesOn with
 | «local»=>exact at_stL P hkind hv
 | cell=>
  refine bn (At.opt λ i hi=>At.cell λ y hy=>At.opt λ o ho=>At.gd λ h=>At.ok rfl λ E=>?_)
  cases not_t h
  refine Classical.byContradiction λ hcps=>?_
  obtain ⟨a,u',ea,ta,hc,hr⟩:=P.box hi hy ho
  refine hcps ?_
  clear hcps
  exact wpAny_storeName_cell P.frm.kind hkind ea hc λ h' hc' hs=>⟨T,P.upd (x:=.box (some v)) (.inl ta) hs (let ⟨o,ho,_⟩:=hc'; liveOf ho) ⟨a,some u,ta,hc',u,rfl,hv⟩,trivial⟩
 | _=>exact At.no rfl
theorem marks_set {op:CmpOp} {b:Expr}:isSet b = false → behindInMarks op b = false:=by
 induction b using PySem.Expr.casesOn with
 | Set=>exact λ h=>nomatch h
 | _=>exact λ zz=>rfl
theorem at_Compare {pos:Pos} {a b:Expr} {op:CmpOp} {ma mb:M PV} (hs:(h₀.get? sysModules).isSome = true) (hA:AOk A d es) (hb:isSet b = false)
  (ha:At (w:=w) h₀ K ro f env es prog A T c l s (eval a env) ma RV) (hbb:∀ T c l s,Pre (w:=w) h₀ T c l s f env es → At (w:=w) h₀ K ro f env es prog A T c l s (eval b env) mb RV) :
  At (w:=w) h₀ K ro f env es prog A T c l s (eval (.Compare a [op] [b] pos) env) (cmpE op ma mb) RV:=by
 have hm:behindInMarks op b = false:=marks_set hb
 refine At.eq (t':=eval a env >>= λ left=>compareChain pos left [op] (markedEach [op] [b] (evalEach [b] env))) rfl ?_
 refine At.bind ha λ x c' l' u s' T' o r=>?_
 have e:markedEach [op] [b] (evalEach [b] env) = [eval b env]:=markedEach_of_false [op] [b] _ hm
 rw [e]
 show At (w:=w) h₀ K ro f env es prog A T' c' l' s' (holding [u] (eval b env) >>= λ rv=>standAt pos >>= λ zz=>operate [u,rv] (compareOp op u rv)) _ RV
 refine At.bind (At.hold (hbb _ _ _ _ o.pre)) λ y c'' l'' v s'' T'' o2 r2=>?_
 refine At.pos (At.oper ?_)
 refine λ hnf=>At.seqP (at_cmpV hs hA o2.pre (Rel.mono (o2.le o.pre) _ _ r) r2) hnf (λ zz zz h=>h) λ t c3 l3 z s3 T3 e3 hb3 o3 r3 zz=>?_
 rw [hb3]
 exact ⟨T3,o3,r3⟩
theorem at_testCompare {pos:Pos} {a b:Expr} {op:CmpOp} {ma mb:M PV} (hs:(h₀.get? sysModules).isSome = true) (hA:AOk A d es) (hb:isSet b = false)
  (ha:At (w:=w) h₀ K ro f env es prog A T c l s (eval a env) ma RV) (hbb:∀ T c l s,Pre (w:=w) h₀ T c l s f env es → At (w:=w) h₀ K ro f env es prog A T c l s (eval b env) mb RV) {t:Sem Value} :
  At (w:=w) h₀ K ro f env es prog A T c l s (isTrue (.Compare a [op] [b] pos) env t) (cmpB op ma mb) RT:=by
 have hm:behindInMarks op b = false:=marks_set hb
 refine At.eq (t':=eval a env >>= λ left=>testChain pos left [op] (markedEach [op] [b] (evalEach [b] env))) rfl ?_
 refine At.bind ha λ x c' l' u s' T' o r=>?_
 have e:markedEach [op] [b] (evalEach [b] env) = [eval b env]:=markedEach_of_false [op] [b] _ hm
 rw [e]
 show At (w:=w) h₀ K ro f env es prog A T' c' l' s' (holding [u] (eval b env) >>= λ rv=>standAt pos >>= λ zz=>operate [u,rv] (compareOp op u rv) >>= λ c=>holding [c] (truthy c)) _ RT
 refine At.bind (At.hold (hbb _ _ _ _ o.pre)) λ y c'' l'' v s'' T'' o2 r2=>?_
 refine At.pos ?_
 intro hnf
 refine wpAny_bind (wpAny_operating (wpAny_mono (at_cmpV hs hA o2.pre (Rel.mono (o2.le o.pre) _ _ r) r2 hnf) (λ z s3 q=>?_) λ zz zz q=>q))
 induction hr:cmpV op x y c'' l'' using Mine.R.casesOn with
 | ok t c3 l3=>
  rw [hr] at q
  induction q using Mine.OutR.casesOn with | mk T3 o3 r=>subst r; exact wpAny_holding (wpAny_truthy_bool ⟨T3,o3,rfl⟩)
 | _=>rw [hr] at q; exact q.elim
theorem at_testVal {e:Expr} {me:M PV} (he:∀ t,isTrue e env t = (t >>= λ v=>standAt e.pos >>= λ zz=>holding [v] (truthy v))) (hv:At (w:=w) h₀ K ro f env es prog A T c l s (eval e env) me RV) :
  At (w:=w) h₀ K ro f env es prog A T c l s (isTrue e env (eval e env)) (valT me) RT:=by
 refine At.eq (he _) ?_
 refine At.bind hv λ v c' l' u s' T' o r=>At.pos (At.hold ?_)
 exact At.bool (tt:=truthy) r λ b=>At.val λ E=>wpAny_truthy_bool ⟨T',Out.refl o.pre,rfl⟩
theorem at_pair {k:Str} {n:Nat} {kp pos:Pos} {e:Expr} {me:M PV} {rest:List (Sem Value × Sem Value)} {mr:M (List (Key × PV))} (P:Pre (w:=w) h₀ T c l s f env es)
  (he:∀ T c l s,Pre (w:=w) h₀ T c l s f env es → At (w:=w) h₀ K ro f env es prog A T c l s (eval e env) me RV)
  (hr:∀ T c l s,Pre (w:=w) h₀ T c l s f env es → At (w:=w) h₀ K ro f env es prog A T c l s (evalPairs rest) mr (λ T ps vs=>∃ kvs,Carries (PySem.strKind prog w) vs kvs ∧ KEnts Key.s T ps kvs)) :
  At (w:=w) h₀ K ro f env es prog A T c l s (evalPairs ((eval (.Constant (.str k) n kp) env,eval e env >>= λ x=>standAt pos >>= λ zz=>pure x) :: rest))
   (dCons k me mr) (λ T ps vs=>∃ kvs,Carries (PySem.strKind prog w) vs kvs ∧ KEnts Key.s T ps kvs):=by
 refine At.eq (t':=eval (.Constant (.str k) n kp) env >>= λ kv=>holding [kv] (eval e env >>= λ x=>standAt pos >>= λ zz=>pure x) >>= λ vv=>holding [kv,vv] (evalPairs rest) >>= λ r=>pure ((kv,vv) :: r)) rfl ?_
 intro hnf
 refine wpAny_bind (wpAny_Constant_str ?_)
 have o0:=P.tok (ro:=ro) (s.toks + 1)
 refine At.tok_of o0 rfl ?_ hnf
 refine At.bind (At.hold (m:=me) (RR:=RV) ?_) λ x c' l' u s' T' o r=>?_
 ·intro hnf2
  refine wpAny_bind (wpAny_mono (he _ _ _ _ o0.pre hnf2) (λ z s3 q=>wpAny_bind (wpAny_standAt (wpAny_pure q))) λ zz zz q=>q)
 refine At.bind (At.hold (hr _ _ _ _ o.pre)) λ ps c'' l'' vs s'' T'' o2 ⟨kvs,h1,h2⟩=>?_
 exact At.ret o2.pre ⟨(k,u) :: kvs,⟨keyS,rfl,h1⟩,.cons k u (Rel.mono (o2.le o.pre) _ _ r) h2⟩
end
end Mine
end
section
open PySem PySem.W PySem.Calls PyProof.Rows Builtin Builtin.ObjectAttr
set_option backward.match.sparseCases false
namespace Mine
noncomputable abbrev RPairs (prog:Program) (w:World):Tags → List (Key × PV) → List (Value × Value) → Prop:=λ T ps vs=>∃ kvs,Carries (PySem.strKind prog w) vs kvs ∧ KEnts Key.s T ps kvs
section
variable (prog:Program) (w:World) (h₀:Heap) (K:Tbl) (cf:Callee) (d:Nat)
noncomputable def pairTrees (env:Env) (pos:Pos):List (Option Expr) → List Expr → List (Sem Value × Sem Value)
 | some k :: ks,v :: vs=>(eval k env,eval v env >>= λ x=>standAt pos >>= λ zz=>pure x) :: pairTrees env pos ks vs
 | _,_=>[]
structure EvOk (n:Nat):Prop where
 e:∀ (ro:Bool) (f:Frm) (env:Env) (es:List Env) (A:Around) (T:Tags) (c:Cells) (l:Locs) (s:Shared) (x:Expr),AOk A d es → Pre (w:=w) h₀ T c l s f env es →
  At (w:=w) h₀ K ro f env es prog A T c l s (eval x env) (evE K cf n ro f x) RV
 ll:∀ (ro:Bool) (f:Frm) (env:Env) (es:List Env) (A:Around) (T:Tags) (c:Cells) (l:Locs) (s:Shared) (xs:List Expr) (pos:Pos),AOk A d es → Pre (w:=w) h₀ T c l s f env es →
  At (w:=w) h₀ K ro f env es prog A T c l s (spliced (backTo pos (starEach xs env))) (evL K cf n ro f xs) RVL
 dd:∀ (ro:Bool) (f:Frm) (env:Env) (es:List Env) (A:Around) (T:Tags) (c:Cells) (l:Locs) (s:Shared) (ks:List (Option Expr)) (vs:List Expr) (pos:Pos),AOk A d es → Pre (w:=w) h₀ T c l s f env es →
  At (w:=w) h₀ K ro f env es prog A T c l s (evalPairs (pairTrees env pos ks vs)) (evD K cf n ro f ks vs) (RPairs prog w)
 b:∀ (ro:Bool) (f:Frm) (env:Env) (es:List Env) (A:Around) (T:Tags) (c:Cells) (l:Locs) (s:Shared) (op:BoolOp) (xs:List Expr) (pos:Pos),AOk A d es → Pre (w:=w) h₀ T c l s f env es →
  At (w:=w) h₀ K ro f env es prog A T c l s (boolOp pos op (evalEach xs env)) (evB K cf n ro f op xs) RV
 t:∀ (ro:Bool) (f:Frm) (env:Env) (es:List Env) (A:Around) (T:Tags) (c:Cells) (l:Locs) (s:Shared) (x:Expr),AOk A d es → Pre (w:=w) h₀ T c l s f env es →
  At (w:=w) h₀ K ro f env es prog A T c l s (isTrue x env (eval x env)) (tst K cf n ro f x) RT
 tb:∀ (ro:Bool) (f:Frm) (env:Env) (es:List Env) (A:Around) (T:Tags) (c:Cells) (l:Locs) (s:Shared) (op:BoolOp) (xs:List Expr),AOk A d es → Pre (w:=w) h₀ T c l s f env es →
  At (w:=w) h₀ K ro f env es prog A T c l s (allTrue op xs env) (tstB K cf n ro f op xs) RT
 st:∀ (ro:Bool) (f:Frm) (env:Env) (es:List Env) (A:Around) (T:Tags) (c:Cells) (l:Locs) (s:Shared) (x:Expr) (v:PV) (u:Value),AOk A d es → Pre (w:=w) h₀ T c l s f env es → Rel T v u →
  At (w:=w) h₀ K ro f env es prog A T c l s (assign x env u) (stTarget K cf n ro f x v) RU
 sl:∀ (ro:Bool) (f:Frm) (env:Env) (es:List Env) (A:Around) (T:Tags) (c:Cells) (l:Locs) (s:Shared) (xs:List Expr) (vs:List PV) (us:List Value),AOk A d es → Pre (w:=w) h₀ T c l s f env es → RelL T vs us →
  At (w:=w) h₀ K ro f env es prog A T c l s (assignInOrder ((assignEach xs env).map (·.2)) us) (stList K cf n ro f xs vs) RU
end
section
variable {prog:Program} {w:World} {h₀:Heap} {K:Tbl} {ro:Bool} {f:Frm} {env:Env} {es:List Env} {A:Around} {T:Tags} {c:Cells} {l:Locs} {s:Shared} {d:Nat} {cf:Callee} {n:Nat}
theorem ev_l (I:EvOk prog w h₀ K cf d n) (hA:AOk A d es) (P:Pre (w:=w) h₀ T c l s f env es) (xs:List Expr) (pos:Pos):At (w:=w) h₀ K ro f env es prog A T c l s (spliced (backTo pos (starEach xs env))) (evL K cf (n + 1) ro f xs) RVL:=by
 induction xs using List.casesOn with
 | nil=>exact At.ret P RelL.nil
 | cons e r=>
  refine At.gd λ hn=>?_
  rw [back_cons hn]
  exact At.cons (I.e _ _ _ _ _ _ _ _ _ _ hA P) λ v c' l' u s' T' o r=>I.ll _ _ _ _ _ _ _ _ _ _ _ hA o.pre
theorem strK_some {e:Expr} {k:Str}:strK e = some k → ∃ n p,e = .Constant (.str k) n p:=by
 induction e using PySem.Expr.casesOn with
 | Constant v n p=>
  induction v using PySem.Const.casesOn with
  | str z=>exact λ h=>⟨n,p,Option.some.inj h ▸ rfl⟩
  | _=>exact nS
 | _=>exact nS
theorem intK_some {e:Expr} {k:Int}:intK e = some k → ∃ n p,e = .Constant (.int k) n p:=by
 induction e using PySem.Expr.casesOn with
 | Constant v n p=>
  induction v using PySem.Const.casesOn with
  | int z=>exact λ h=>⟨n,p,Option.some.inj h ▸ rfl⟩
  | _=>exact nS
 | _=>exact nS
theorem ev_d (I:EvOk prog w h₀ K cf d n) (hA:AOk A d es) (P:Pre (w:=w) h₀ T c l s f env es) (ks:List (Option Expr)) (vs:List Expr) (pos:Pos):At (w:=w) h₀ K ro f env es prog A T c l s (evalPairs (pairTrees env pos ks vs)) (evD K cf (n + 1) ro f ks vs) (RPairs prog w):=by
 induction ks using List.casesOn with
 | nil=>
  refine At.gd λ h=>?_
  cases isEmpty_inv h
  exact At.ret P ⟨[],trivial,.nil⟩
 | cons k kr=>
  refine At.opt λ z hz=>?_
  obtain ⟨e,rfl,he⟩:=Option.bind_eq_some_iff.mp hz
  obtain ⟨m,p,rfl⟩:=strK_some he
  induction vs using List.casesOn with
  | nil=>exact At.no rfl
  | cons v vr=>exact at_pair P (λ T c l s P=>I.e _ _ _ _ _ _ _ _ _ _ hA P) λ T c l s P=>I.dd _ _ _ _ _ _ _ _ _ _ _ _ hA P
set_option backward.match.sparseCases true
theorem bop_tree {α:Type} {op:BoolOp} {b:Bool} {x y:α}:(match op,b with | .And,false | .Or,true=>x | _,_=>y) = bif endB op b then x else y:=by
 cases op <;> cases b <;> rfl
theorem ev_b (I:EvOk prog w h₀ K cf d n) (hA:AOk A d es) (P:Pre (w:=w) h₀ T c l s f env es) (op:BoolOp) (xs:List Expr) (pos:Pos):At (w:=w) h₀ K ro f env es prog A T c l s (boolOp pos op (evalEach xs env)) (evB K cf (n + 1) ro f op xs) RV:=by
 induction xs using List.casesOn with
 | nil=>exact At.no rfl
 | cons e r=>
  induction r using List.casesOn with
  | nil=>exact At.eq rfl (I.e _ _ _ _ _ _ _ _ _ _ hA P)
  | cons e2 r=>
   refine At.eq (t':=eval e env >>= λ v=>standAt pos >>= λ zz=>holding [v] (truthy v) >>= λ t=>match op,t with | .And,false | .Or,true=>pure v | _,_=>boolOp pos op (evalEach (e2 :: r) env)) rfl ?_
   refine At.bind (I.e _ _ _ _ _ _ _ _ _ _ hA P) λ v c' l' u s' T' o rr=>At.pos ?_
   refine At.bool (tt:=λ u=>holding [u] (truthy u) >>= λ t=>match op,t with | .And,false | .Or,true=>pure u | _,_=>boolOp pos op (evalEach (e2 :: r) env)) rr λ b=>?_
   intro hnf
   refine wpAny_bind (wpAny_holding (wpAny_truthy_bool ?_))
   rw [bop_tree]
   revert hnf
   show At (w:=w) h₀ K ro f env es prog A T' c' l' s' (bif endB op b then pure (Value.bool b) else boolOp pos op (evalEach (e2 :: r) env)) (Mine.sw (endB op b) (Mine.ret (.bool b)) (evB K cf n ro f op (e2 :: r))) RV
   cases endB op b
   ·exact I.b _ _ _ _ _ _ _ _ _ _ _ _ hA o.pre
   ·exact At.ret o.pre rfl
theorem ev_tb (I:EvOk prog w h₀ K cf d n) (hA:AOk A d es) (P:Pre (w:=w) h₀ T c l s f env es) (op:BoolOp) (xs:List Expr):At (w:=w) h₀ K ro f env es prog A T c l s (allTrue op xs env) (tstB K cf (n + 1) ro f op xs) RT:=by
 induction xs using List.casesOn with
 | nil=>exact At.eq rfl (At.ret P rfl)
 | cons e r=>
  refine At.eq (t':=isTrue e env (eval e env) >>= λ t=>match op,t with | .And,false=>pure false | .Or,true=>pure true | _,_=>allTrue op r env) rfl ?_
  refine At.bind (I.t _ _ _ _ _ _ _ _ _ _ hA P) λ b c' l' u s' T' o rr=>?_
  cases rr
  cases op <;> cases b
  ·exact At.ret o.pre rfl
  ·exact I.tb _ _ _ _ _ _ _ _ _ _ _ hA o.pre
  ·exact I.tb _ _ _ _ _ _ _ _ _ _ _ hA o.pre
  ·exact At.ret o.pre rfl
set_option backward.match.sparseCases false
theorem At.one2 {α β γ:Type} {tt:List γ → Sem α} {xs:List γ} {g:γ → M β} {RR:Tags → β → α → Prop} (h:∀ x,At (w:=w) h₀ K ro f env es prog A T c l s (tt [x]) (g x) RR):At (w:=w) h₀ K ro f env es prog A T c l s (tt xs) (Mine.one xs g) RR:=by
 induction xs using List.casesOn with
 | nil=>exact At.no rfl
 | cons x r=>
  refine At.gd λ hr=>?_
  cases isEmpty_inv hr
  exact h x
theorem ev_t (hs:(h₀.get? sysModules).isSome = true) (I:EvOk prog w h₀ K cf d n) (hA:AOk A d es) (P:Pre (w:=w) h₀ T c l s f env es) (x:Expr):At (w:=w) h₀ K ro f env es prog A T c l s (isTrue x env (eval x env)) (tst K cf (n + 1) ro f x) RT:=by
 induction x using PySem.Expr.casesOn with
 | UnaryOp op x pos=>
  induction op using PySem.UnaryOp.casesOn with
  | Not=>
   refine At.eq (t':=isTrue x env (eval x env) >>= λ b=>pure !b) rfl ?_
   refine At.bind (I.t _ _ _ _ _ _ _ _ _ _ hA P) λ b c' l' u s' T' o rr=>?_
   subst rr
   exact At.ret o.pre rfl
  | _=>exact at_testVal (λ t=>rfl) (I.e _ _ _ _ _ _ _ _ _ _ hA P)
 | BoolOp op xs pos=>exact At.eq rfl (I.tb _ _ _ _ _ _ _ _ _ _ _ hA P)
 | Compare a ops bs pos=>
  exact At.one2 (tt:=λ ops=>isTrue (.Compare a ops bs pos) env (eval (.Compare a ops bs pos) env)) λ op=>At.one2 (tt:=λ bs=>isTrue (.Compare a [op] bs pos) env (eval (.Compare a [op] bs pos) env)) λ b=>At.gd λ hb=>
   at_testCompare hs hA (not_t hb) (I.e _ _ _ _ _ _ _ _ _ _ hA P) λ T c l s P=>I.e _ _ _ _ _ _ _ _ _ _ hA P
 | IfExp=>exact At.no rfl
 | _=>exact at_testVal (λ t=>rfl) (I.e _ _ _ _ _ _ _ _ _ _ hA P)
theorem each_cons {t:Expr} (h:notStar t = true) (r:List Expr):assignEach (t :: r) env = (false,assign t env) :: assignEach r env:=by
 induction t using PySem.Expr.casesOn with
 | Starred=>exact fT h
 | _=>rfl
theorem each_nostar {ts:List Expr} (h:ts.all notStar = true):(assignEach ts env).findIdx? (·.1) = none ∧ (assignEach ts env).length = ts.length:=by
 induction ts with
 | nil=>exact ⟨rfl,rfl⟩
 | cons t r ih=>
  rw [List.all_cons] at h
  obtain ⟨i1,i2⟩:=ih (and_r h)
  rw [each_cons (and_l h)]
  exact ⟨by rw [List.findIdx?_cons,i1]; rfl,congrArg Nat.succ i2⟩
variable {X:Frag} (hX:X.In h₀) (hC:∀ C k,K.cls C = some k → ClsOk X C k)
include hX hC in
theorem ev_st (I:EvOk prog w h₀ K cf d n) (hA:AOk A d es) (P:Pre (w:=w) h₀ T c l s f env es) (x:Expr) {v:PV} {u:Value} (hv:Rel T v u):At (w:=w) h₀ K ro f env es prog A T c l s (assign x env u) (stTarget K cf (n + 1) ro f x v) RU:=by
 induction x using PySem.Expr.casesOn with
 | Name x pos=>exact At.pos (at_stName P hv)
 | Attribute o a pos=>
  refine At.eq (t':=holding [u] (eval o env) >>= λ ov=>standAt pos.atName >>= λ zz=>holding [u,ov] (setAttr ov a u) >>= λ zz=>release [u,ov] []) rfl ?_
  refine At.bind (At.hold (I.e _ _ _ _ _ _ _ _ _ _ hA P)) λ y c' l' z s' T' o1 r=>At.pos λ hnf=>?_
  exact wpAny_bind (wpAny_mono (At.hold (at_setAttrV hX hC o1.pre r (Rel.mono (o1.le P) _ _ hv)) hnf) (λ zz zz q=>wpAny_release q) λ zz zz q=>q)
 | Subscript o i pos=>
  refine At.gd λ zz=>At.eq (arm_assign_Subscript ..) ?_
  refine At.bind (At.hold (I.e _ _ _ _ _ _ _ _ _ _ hA P)) λ y c' l' z s' T' o1 r=>?_
  refine At.bind (At.hold (I.e _ _ _ _ _ _ _ _ _ _ hA o1.pre)) λ y2 c2 l2 z2 s2 T2 o2 r2=>At.pos λ hnf=>?_
  exact wpAny_bind (wpAny_mono (At.hold (at_setItemV (K:=K) (prog:=prog) hA o2.pre (Rel.mono (o2.le o1.pre) _ _ r) r2 (Rel.mono ((o1.le P).trans (o2.le o1.pre)) _ _ hv)) hnf) (λ zz zz q=>wpAny_release q) λ zz zz q=>q)
 | Tuple ts k pos=>
  refine At.tup (tt:=λ u=>assign (.Tuple ts k pos) env u) hv λ vs a m as ta hr=>At.gd λ hc=>?_
  obtain ⟨e1,e2⟩:=each_nostar (env:=env) (and_r hc)
  refine At.pos λ hnf=>?_
  refine wpAny_unpack_tuple hA.hand (items:=as) ⟨_,P.wd.froz _ _ ta,rfl,m,rfl⟩ (by rw [e2,hr.size,of_decide_eq_true (and_l hc)]) e1 λ h' hx=>?_
  have o:=P.grow (ro:=ro) (h':=h') (tk:=s.toks) λ b ob e=>hx b ob (λ q=>absurd (Heap.lt_size e) (q ▸ Nat.lt_irrefl _)) e
  exact At.tok_of o rfl (I.sl _ _ _ _ _ _ _ _ _ _ _ _ hA o.pre hr) hnf
 | _=>exact At.no rfl
theorem ev_sl (I:EvOk prog w h₀ K cf d n) (hA:AOk A d es) (P:Pre (w:=w) h₀ T c l s f env es) (xs:List Expr) {vs:List PV} {us:List Value} (hv:RelL T vs us):At (w:=w) h₀ K ro f env es prog A T c l s (assignInOrder ((assignEach xs env).map (·.2)) us) (stList K cf (n + 1) ro f xs vs) RU:=by
 induction xs using List.casesOn with
 | nil=>
  refine At.gd λ h=>?_
  cases isEmpty_inv h
  subst hv
  exact At.eq rfl (At.ret P trivial)
 | cons t ts=>
  refine At.gd λ hn=>?_
  induction vs using List.casesOn with
  | nil=>exact At.no rfl
  | cons v vs=>
   induction hv.inv using Mine.ConsV.casesOn with
   | mk u r h1 h2=>
    refine At.eq (t':=holding r (assign t env u) >>= λ zz=>assignInOrder ((assignEach ts env).map (·.2)) r) (by rw [each_cons hn]; rfl) ?_
    exact At.bind (At.hold (I.st _ _ _ _ _ _ _ _ _ _ _ _ hA P h1)) λ zz c' l' zz s' T' o zz=>I.sl _ _ _ _ _ _ _ _ _ _ _ _ hA o.pre (RelL.mono (o.le P) _ _ h2)
end
end Mine
end
section
open PySem PySem.W PySem.Calls PyProof.Rows Builtin Builtin.ObjectAttr
set_option backward.match.sparseCases false
namespace Mine
section
variable {prog:Program} {w:World} {h₀:Heap} {K:Tbl} {ro:Bool} {f:Frm} {env:Env} {es:List Env} {A:Around} {T:Tags} {c:Cells} {l:Locs} {s:Shared} {d:Nat} {cf:Callee} {n:Nat}
theorem at_Subscript {o i:Expr} {pos:Pos} {mo mi:M PV} (hA:AOk A d es) (hs:∀ v g,subscripted i false v g = operate [v,g] (getItem v g))
  (ho:At (w:=w) h₀ K ro f env es prog A T c l s (eval o env) mo RV) (hi:∀ T c l s,Pre (w:=w) h₀ T c l s f env es → At (w:=w) h₀ K ro f env es prog A T c l s (eval i env) mi RV) :
  At (w:=w) h₀ K ro f env es prog A T c l s (eval (.Subscript o i pos) env) (sub mo mi) RV:=by
 refine At.eq (eval_Subscript ..) ?_
 refine At.bind ho λ x c' l' u s' T' o1 r=>?_
 refine At.bind (At.hold (hi _ _ _ _ o1.pre)) λ y c2 l2 z s2 T2 o2 r2=>At.pos ?_
 intro hnf
 exact at_subTail hs (at_itemV hA o2.pre (Rel.mono (o2.le o1.pre) _ _ r) r2 hnf _)
theorem at_Slice {o k:Expr} {p pos:Pos} {mo mi:M PV} (hA:AOk A d es)
  (ho:At (w:=w) h₀ K ro f env es prog A T c l s (eval o env) mo RV) (hi:∀ T c l s,Pre (w:=w) h₀ T c l s f env es → At (w:=w) h₀ K ro f env es prog A T c l s (eval k env) mi RV) :
  At (w:=w) h₀ K ro f env es prog A T c l s (eval (.Subscript o (.Slice none (some k) none p) pos) env) (slc mo mi) RV:=by
 refine At.eq (eval_Subscript ..) ?_
 refine At.bind ho λ x c' l' u s' T' o1 r=>?_
 intro hnf
 refine wpAny_bind (wpAny_holding (wpAny_Slice (wpAny_pure (At.seqP (hi _ _ _ _ o1.pre) hnf (λ zz zz h=>h) λ y c2 l2 z s2 T2 e hb o2 r2 hg=>wpAny_pure (wpAny_bind (wpAny_standAt ?_))))))
 rw [hb]
 exact wpAny_mono (at_subTailS (at_sliceV (prog:=prog) o2.pre (Rel.mono (o2.le o1.pre) _ _ r) r2 hg (ER (w:=w) h₀ K ro env es T2 s2 (sliceV x y c2 l2)))) (λ zz zz q=>q.trans o2) λ zz zz q=>q.trans o2
theorem newDict_at (P:Pre (w:=w) h₀ T c l s f env es):At (w:=w) h₀ K ro f env es prog A T c l s newDict (newCell (.dict [])) RV:=by
 refine At.ok rfl λ E=>?_
 have o:=P.cell (ro:=ro) (o:=dctObj #[] 0) (x:=.dict []) rfl ⟨s.heap.objs.size,0,#[],Tags.put_self ..,Heap.get?_push_size _ rfl,rfl,List.nodup_nil⟩ (tk:=s.toks)
 exact wpAny_bind (wpAny_alloc (wpAny_pure ⟨_,o,RefC.mk _ (Tags.put_self ..)⟩))
theorem at_Tuple {xs:List Expr} {k:Nat} {pos:Pos} {ml:M (List PV)} (hl:At (w:=w) h₀ K ro f env es prog A T c l s (spliced (backTo pos (starEach xs env))) ml RVL) :
  At (w:=w) h₀ K ro f env es prog A T c l s (eval (.Tuple xs k pos) env) (tupM ml) RV:=
 At.pos (At.bind hl λ vs c' l' us s' T' o r=>At.gd λ h=>At.ok rfl λ E=>at_newTuple (tk:=s'.toks) o.pre r (Nat.le_trans (of_decide_eq_true h) (by rw [sizeLine_eq]; decide)))
theorem at_List {xs:List Expr} {pos:Pos} {ml:M (List PV)} (hl:At (w:=w) h₀ K ro f env es prog A T c l s (spliced (backTo pos (starEach xs env))) ml RVL) :
  At (w:=w) h₀ K ro f env es prog A T c l s (eval (.List xs pos) env) (lstM ml) RV:=
 At.pos (At.bind hl λ vs c' l' us s' T' o r=>At.gd λ h=>At.ok rfl λ E=>at_newList (tk:=s'.toks) o.pre r (Nat.le_trans (of_decide_eq_true h) (by rw [sizeLine_eq]; decide)))
theorem pairs_shape (pos:Pos):∀ {ks:List (Option Expr)} {vs:List Expr},ks.all (·.isSome) = true → ks.length = vs.length →
  (evalEachOpt ks env).zip ((evalEach vs env).map λ v=>do let x ← v; standAt pos; pure x) = (pairTrees env pos ks vs).map (λ p=>(some p.1,p.2)) ∧ (pairTrees env pos ks vs).length = ks.length
 | [],[],_,_=>⟨rfl,rfl⟩
 | [],_ :: _,_,h=>by cases h
 | _ :: _,[],_,h=>by cases h
 | k :: ks,v :: vs,h,hl=>by
  rw [List.all_cons] at h
  obtain ⟨k,rfl⟩:=Option.isSome_iff_exists.mp (and_l h)
  obtain ⟨i1,i2⟩:=pairs_shape pos (and_r h) (Nat.succ.inj hl)
  refine ⟨?_,congrArg Nat.succ i2⟩
  show ((some (eval k env),_) :: ((evalEachOpt ks env).zip _)) = _
  rw [i1]; rfl
theorem at_Dict0 {pos:Pos} (P:Pre (w:=w) h₀ T c l s f env es):At (w:=w) h₀ K ro f env es prog A T c l s (eval (.Dict [] [] pos) env) (newCell (.dict [])) RV:=
 At.eq (t':=standAt pos >>= λ zz=>newDict) rfl (At.pos (newDict_at P))
theorem Out.fresh {T':Tags} {c':Cells} {l':Locs} {s':Shared} {N:Addr} {h':Heap} {x:Cell} {tk:Nat} (P:Pre (w:=w) h₀ T c l s f env es) (o:Out (w:=w) h₀ ro f env es T s T' c' l' s') (hN:s.heap.get? N = none) (tN:T' N = .free)
  (hs:Heap.SameBut N s'.heap h') (hl:(h'.get? N).isSome = true) (hx:CellAt w (T'.put N (.cell c'.length)) h' c'.length x) :
  Out (w:=w) h₀ ro f env es T s (T'.put N (.cell c'.length)) (c' ++ [x]) l' { s' with heap:=h',toks:=tk }:=by
 have ne:∀ a,(s.heap.get? a).isSome = true → a ≠ N:=λ a ha q=>by subst q; rw [hN] at ha; cases ha
 have S:Step ro (frsOf es) env.locals T s.heap (T'.put N (.cell c'.length)) h':=o.step.next (λ a ha=>T'.put_ne _ (ne a ha)) λ a zz ha e=>(hs.2 a (ne a ha)).trans e
 have W:Wd w h₀ (T'.put N (.cell c'.length)) (c' ++ [x]) h':=(o.pre.wd.same w tN hs).retag w tN hl hx
 have le:T'.le (T'.put N (.cell c'.length)):=Tags.le_put _ tN
 have nL:=ne _ P.loc.live
 have L:Loc (T'.put N (.cell c'.length)) h' env l':=o.pre.loc.keep le (T'.put_ne _ nL) λ zz zz zz e zz=>(hs.2 _ nL).trans e
 exact ⟨S,o.same.trans ⟨h',tk,rfl⟩,W,L,P.frs.step S L,o.pre.frm.mono le⟩
theorem fresh_notFr {N:Addr} {h:Heap} (Fs:Frs T h es) (hN:h.get? N = none):N ∉ frsOf es:=by
 intro hm
 obtain ⟨e,he,q⟩:=List.mem_filterMap.mp hm
 obtain ⟨zz,F,o,hf,zz,ho,zz⟩:=Fs e he
 rw [hf] at q; cases q
 rw [hN] at ho; cases ho
theorem at_Dict {ks:List (Option Expr)} {vs:List Expr} {pos:Pos} {md:M (List (Key × PV))} (P:Pre (w:=w) h₀ T c l s f env es) (hk:ks.all (·.isSome) = true) (hl:ks.length = vs.length) (h15:ks.length ≤ 15) (hne:ks.isEmpty = false)
  (hd:∀ T c l s,Pre (w:=w) h₀ T c l s f env es → At (w:=w) h₀ K ro f env es prog A T c l s (evalPairs (pairTrees env pos ks vs)) md (RPairs prog w)) :
  At (w:=w) h₀ K ro f env es prog A T c l s (eval (.Dict ks vs pos) env) (dctM md) RV:=by
 refine Classical.byContradiction λ hcps=>?_
 obtain ⟨hshape,hlen⟩:=pairs_shape (env:=env) pos hk hl
 refine hcps ?_
 clear hcps
 have h0:pairTrees env pos ks vs ≠ []:=by
  intro q
  rw [q] at hlen
  have:=List.length_eq_zero_iff.mp hlen.symm
  subst this; cases hne
 intro hnf
 refine wpAny_Dict_pairs (knd:=PySem.strKind prog w) hshape h0 (by rw [hlen]; exact h15) ?_
 have o1:=P.free (ro:=ro) (o:=dctObj #[] 0) (tk:=s.toks)
 have hN:s.heap.get? s.heap.objs.size = none:=Heap.get?_none_of_le (Nat.le_refl _)
 refine At.seqP (hd _ _ _ _ o1.pre) hnf (λ zz zz q=>q.trans o1) λ ps c' l' ys s' T' e hb o2 ⟨kvs,hc,hke⟩ hg=>?_
 have g1:(s.heap.push (dctObj #[] 0)).get? s.heap.objs.size = some (dctObj #[] 0):=Heap.get?_push_size _ rfl
 have nL:s.heap.objs.size ≠ env.locals:=λ q=>by
  have:=nsLive P.loc.ns.choose_spec.1
  rw [← q,hN] at this; cases this
 refine Classical.byContradiction λ hcps=>?_
 obtain ⟨sl,g2,q2⟩:=o2.step.keep s.heap.objs.size _ nL (P.wd.fresh w) g1
 refine hcps ?_
 clear hcps
 rw [q2 (fresh_notFr P.frs hN)] at g2
 have tN:T' s.heap.objs.size = .free:=(o2.step.tag _ (liveOf g1)).trans (P.wd.fresh w)
 refine ⟨kvs,hc,⟨_,#[],0,g2,⟨rfl,rfl,rfl⟩,rfl,(λ zz h=>by simp at h),.nil,List.nodup_nil⟩,λ h' hd' hs'=>?_⟩
 rw [show dctM md c l = _ from hb]
 have le:T'.le (T'.put s.heap.objs.size (.cell c'.length)):=Tags.le_put _ tN
 have hk':KEnts Key.s T' (putAll ps []) (merged [] kvs):=putAll_ents (embS prog w) hke .nil List.nodup_nil
 have:=Out.fresh P (o1.trans o2) hN tN hs' (dLive hd') (dict_from (embS prog w) (Tags.put_self ..) hd' (hk'.mono le)) (tk:=s'.toks + ys.length)
 exact ⟨_,this,RefC.mk _ (Tags.put_self ..)⟩
end
end Mine
end
section
open PySem PySem.W PySem.Calls PyProof.Rows Builtin Builtin.ObjectAttr
set_option backward.match.sparseCases false
namespace Mine
structure Fresh (h:Heap) (T:Tags) (a:Addr):Prop where
 new:h.get? a = none
 free:T a = .free
theorem none_size (h:Heap):h.get? h.objs.size = none:=Heap.get?_none_of_le (Nat.le_refl _)
structure PlainOb (ob:Obj):Prop where
 nd:∀ es ep,ob.data ≠ .dict es ep
 nl:ob.cls ≠ .type "list"
theorem plainN {n:String} {vs:Array Value} (h:n ≠ "list"):PlainOb { cls:=.type n,data:=.fields vs }:=⟨(λ zz zz q=>nomatch q),λ q=>h (by injection q)⟩
theorem plainTup {n:Nat} {vs:Array Value}:PlainOb (tupObj vs n):=⟨(λ zz zz q=>nomatch q),λ q=>absurd (show "tuple" = "list" by injection q) (by decide)⟩
theorem plainC {n:String} {vs:Array Value} {o:Obj} (hc:o.cls = .type n) (hd:o.data = .fields vs) (h:n ≠ "list"):PlainOb o:=⟨(λ zz zz q=>nomatch hd.symm.trans q),λ q=>h (by rw [hc] at q; injection q)⟩
noncomputable def Plain (h:Heap) (a:Addr):Prop:=∃ ob,h.get? a = some ob ∧ PlainOb ob
section
variable {prog:Program} {w:World} {h₀:Heap} {K:Tbl} {ro:Bool} {f:Frm} {env:Env} {es:List Env} {A:Around} {T T0:Tags} {c c0:Cells} {l l0:Locs} {s s0:Shared} {d:Nat}
theorem Fresh.ne {h:Heap} {a b:Addr} (x:Fresh h T a) (hb:(h.get? b).isSome = true):b ≠ a:=λ q=>by subst q; rw [x.new] at hb; cases hb
theorem Fresh.put {h h':Heap} {a N:Addr} {t:Tag} (x:Fresh h T a) (ha:(h'.get? a).isSome = true) (hN:h'.get? N = none):Fresh h (T.put N t) a:=⟨x.new,(T.put_ne _ (λ q=>by subst q; rw [hN] at ha; cases ha)).trans x.free⟩
theorem Out.touch {S:Addr → Prop} {h':Heap} {tk:Nat} (P:Pre (w:=w) h₀ T0 c0 l0 s0 f env es) (o:Out (w:=w) h₀ ro f env es T0 s0 T c l s) (hS:∀ a,S a → Fresh s0.heap T a) (hk:∀ b ob,¬ S b → s.heap.get? b = some ob → h'.get? b = some ob) :
  Out (w:=w) h₀ ro f env es T0 s0 T c l { s with heap:=h',toks:=tk }:=by
 have ne:∀ a,(s0.heap.get? a).isSome = true → ¬ S a:=λ a ha q=>(hS a q).ne ha rfl
 have S':Step ro (frsOf es) env.locals T0 s0.heap T h':=o.step.next (λ zz zz=>rfl) λ a ob ha e=>hk a ob (ne a ha) e
 have L:Loc T h' env l:=o.pre.loc.keep (Tags.le.refl T) rfl λ ob zz zz e zz=>hk _ ob (ne _ P.loc.live) e
 exact ⟨S',o.same.trans ⟨h',tk,rfl⟩,o.pre.wd.free w λ a ob ha e=>hk a ob (λ q=>ha (hS a q).free) e,L,P.frs.step S' L,o.pre.frm⟩
theorem Out.froz {N:Addr} {ob:Obj} (P:Pre (w:=w) h₀ T0 c0 l0 s0 f env es) (o:Out (w:=w) h₀ ro f env es T0 s0 T c l s) (hN:Fresh s0.heap T N) (e:s.heap.get? N = some ob) :
  Out (w:=w) h₀ ro f env es T0 s0 (T.put N (.froz ob)) c l s:=by
 have le:T.le (T.put N (.froz ob)):=Tags.le_put _ hN.free
 have S':Step ro (frsOf es) env.locals T0 s0.heap (T.put N (.froz ob)) s.heap:=o.step.next (λ a ha=>T.put_ne _ (hN.ne ha)) λ zz zz zz e=>e
 have L:Loc (T.put N (.froz ob)) s.heap env l:=o.pre.loc.keep le (T.put_ne _ (hN.ne P.loc.live)) λ zz zz zz e zz=>e
 exact ⟨S',o.same,o.pre.wd.tagFroz w hN.free e,L,P.frs.step S' L,o.pre.frm.mono le⟩
theorem Pre.none_free (P:Pre (w:=w) h₀ T c l s f env es) {N:Addr} (hN:s.heap.get? N = none):T N = .free:=by
 induction e:T N using Mine.Tag.casesOn with
 | free=>rfl
 | _=>have:=P.wd.live N (by rw [e]; exact λ q=>nomatch q); rw [hN] at this; cases this
theorem Out.newer (o:Out (w:=w) h₀ ro f env es T0 s0 T c l s) {N:Addr} (hN:s.heap.get? N = none):Fresh s0.heap T N:=⟨none_older o.step.live hN,o.pre.none_free hN⟩
inductive LstIt (h0:Heap) (T:Tags) (h:Heap) (J:Addr) (a i:Nat):Prop
 | mk (ax:Addr) (fr:Fresh h0 T J) (ta:T ax = .cell a) (hj:h.IsListIter J ax i):LstIt h0 T h J a i
inductive FixIt (h0:Heap) (T:Tags) (h:Heap) (J:Addr) (l:List PV) (i:Nat):Prop
 | tup (t:Addr) (n:Nat) (vs:Array Value) (fr:Fresh h0 T J) (hr:RelL T l vs.toList) (tt:T t = .froz (tupObj vs n)) (hj:h.IsTupleIter J t i):FixIt h0 T h J l i
 | lst (t:Addr) (n:Nat) (vs:Array Value) (fr:Fresh h0 T J) (hr:RelL T l vs.toList) (tt:T t = .froz (lstObj vs n)) (hj:h.IsListIter J t i):FixIt h0 T h J l i
inductive RngIt (h0:Heap) (T:Tags) (h:Heap) (J:Addr) (a b k:Int) (i:Nat):Prop
 | mk (fr:Fresh h0 T J) (hk:k = 1 ∨ k = -1) (hj:IsRangeIter h J (a + k * i) (Builtin.Range.rangeSize a b k - i) k):RngIt h0 T h J a b k i
inductive ItmIt (h0:Heap) (T:Tags) (h:Heap) (J:Addr) (a i:Nat):Prop
 | mk (dd:Addr) (n:Nat) (en:Array DictEntry) (ok ov:Value) (fr:Fresh h0 T J) (td:T dd = .cell a) (hg:h.get? dd = some (dctObj en n)) (hj:IsItemIter h J dd i en.size n ok ov):ItmIt h0 T h J a i
inductive ZipIt (h0:Heap) (T:Tags) (h:Heap) (J:Addr) (a b i:Nat):Prop
 | mk (TI TO i1 i2 l1 l2:Addr) (x y:Value) (f0:Fresh h0 T J) (f1:Fresh h0 T TI) (f2:Fresh h0 T TO) (f3:Fresh h0 T i1) (f4:Fresh h0 T i2) (t1:T l1 = .cell a) (t2:T l2 = .cell b) (ap:ZipApart J TI TO i1 i2 l1 l2)
   (hz:IsZip h J TI TO .none) (p1:IsPair h TI (.ref i1) (.ref i2)) (p2:IsPair h TO x y) (j1:h.IsListIter i1 l1 i) (j2:h.IsListIter i2 l2 i):ZipIt h0 T h J a b i
noncomputable def ItAt (h0:Heap) (T:Tags) (h:Heap) (J:Addr):It → Nat → Prop
 | .lst a,i=>LstIt h0 T h J a i
 | .fix l,i=>FixIt h0 T h J l i
 | .rng a b k,i=>RngIt h0 T h J a b k i
 | .items a,i=>ItmIt h0 T h J a i
 | .zip a b,i=>ZipIt h0 T h J a b i
theorem lit_plain {h:Heap} {J a:Addr} {i:Nat} (x:h.IsListIter J a i):Plain h J:=let ⟨o,h1,h2,h3⟩:=x; ⟨o,h1,plainC h2 h3 (by decide)⟩
theorem tit_plain {h:Heap} {J a:Addr} {i:Nat} (x:h.IsTupleIter J a i):Plain h J:=let ⟨o,h1,h2,h3⟩:=x; ⟨o,h1,plainC h2 h3 (by decide)⟩
theorem Plain.live {h:Heap} {J:Addr} (x:Plain h J):(h.get? J).isSome = true:=let ⟨_,e,_⟩:=x; liveOf e
structure Stay (h0:Heap) (T T':Tags) (h h':Heap):Prop where
 le:T.le T'
 keep:∀ a o,Fresh h0 T a → h.get? a = some o → PlainOb o → h'.get? a = some o
 free:∀ a,Fresh h0 T a → (h.get? a).isSome = true → T' a = .free
theorem Stay.fr {h0 h h':Heap} {T T':Tags} (S:Stay h0 T T' h h') {a:Addr} (x:Fresh h0 T a) (hl:Plain h a):Fresh h0 T' a:=⟨x.new,S.free a x hl.live⟩
theorem Stay.lit {h0 h h':Heap} {T T':Tags} (S:Stay h0 T T' h h') {J a:Addr} {i:Nat} (x:Fresh h0 T J):h.IsListIter J a i → h'.IsListIter J a i
 | ⟨o,h1,h2,h3⟩=>⟨o,S.keep J o x h1 (plainC h2 h3 (by decide)),h2,h3⟩
theorem Stay.tit {h0 h h':Heap} {T T':Tags} (S:Stay h0 T T' h h') {J a:Addr} {i:Nat} (x:Fresh h0 T J):h.IsTupleIter J a i → h'.IsTupleIter J a i
 | ⟨o,h1,h2,h3⟩=>⟨o,S.keep J o x h1 (plainC h2 h3 (by decide)),h2,h3⟩
theorem ItAt.map {h0 h h':Heap} {J:Addr} {T T':Tags} {it:It} {i:Nat} (x:ItAt h0 T h J it i) (S:Stay h0 T T' h h') (hd:it.isRo = true → ∀ a j en n,T a = .cell j → h.get? a = some (dctObj en n) → h'.get? a = some (dctObj en n)):ItAt h0 T' h' J it i:=by
 induction it using Mine.It.casesOn with
 | lst a=>induction x using Mine.LstIt.casesOn with | mk ax fr ta hj=>exact ⟨ax,S.fr fr (lit_plain hj),S.le.cell ta,S.lit fr hj⟩
 | fix l=>
  induction x using Mine.FixIt.casesOn with
  | tup t n vs fr hr tt hj=>exact .tup t n vs (S.fr fr (tit_plain hj)) (RelL.mono S.le _ _ hr) (S.le.froz tt) (S.tit fr hj)
  | lst t n vs fr hr tt hj=>exact .lst t n vs (S.fr fr (lit_plain hj)) (RelL.mono S.le _ _ hr) (S.le.froz tt) (S.lit fr hj)
 | rng a b k=>induction x using Mine.RngIt.casesOn with | mk fr hk hj=>exact ⟨S.fr fr ⟨_,hj,plainN (by decide)⟩,hk,S.keep _ _ fr hj (plainN (by decide))⟩
 | items a=>induction x using Mine.ItmIt.casesOn with | mk dd n en ok ov fr td hg hj=>exact ⟨dd,n,en,ok,ov,S.fr fr ⟨_,hj,plainN (by decide)⟩,S.le.cell td,hd rfl dd a en n td hg,S.keep _ _ fr hj (plainN (by decide))⟩
 | zip a b=>
  induction x using Mine.ZipIt.casesOn with
  | mk TI TO i1 i2 l1 l2 x y f0 f1 f2 f3 f4 t1 t2 ap hz p1 p2 j1 j2=>
   exact ⟨TI,TO,i1,i2,l1,l2,x,y,S.fr f0 ⟨_,hz,plainN (by decide)⟩,S.fr f1 ⟨_,p1,plainTup⟩,S.fr f2 ⟨_,p2,plainTup⟩,S.fr f3 (lit_plain j1),S.fr f4 (lit_plain j2),S.le.cell t1,S.le.cell t2,ap,
    S.keep _ _ f0 hz (plainN (by decide)),S.keep _ _ f1 p1 plainTup,S.keep _ _ f2 p2 plainTup,S.lit f3 j1,S.lit f4 j2⟩
theorem Step.fresh {ro':Bool} {Fs:List Addr} {L:Addr} {h0 h h':Heap} {T T':Tags} (S:Step ro' Fs L T h T' h') (hF:∀ a ∈ Fs,(h0.get? a).isSome = true) {a:Addr} {o:Obj} (x:Fresh h0 T a) (hL:a ≠ L) (e:h.get? a = some o):h'.get? a = some o:=by
 obtain ⟨sl,e1,e2⟩:=S.keep a o hL x.free e
 rw [e2 λ q=>x.ne (hF a q) rfl] at e1
 exact e1
theorem ns_ne {h:Heap} {L a:Addr} {m:Str → Option Value} {o:Obj} (hL:h.Ns L m) (e:h.get? a = some o) (hd:∀ es ep,o.data ≠ .dict es ep):a ≠ L:=λ q=>by
 subst q
 obtain ⟨o',es,ep,e',h',zz⟩:=hL
 rw [e] at e'; cases e'
 exact hd es ep h'
theorem ItAt.step {ro':Bool} {Fs:List Addr} {L J:Addr} {h0 h h':Heap} {T T':Tags} {it:It} {i:Nat} {m:Str → Option Value} (x:ItAt h0 T h J it i) (S:Step ro' Fs L T h T' h') (le:T.le T') (hL:h.Ns L m) (tL:T L = .free) (hF:∀ a ∈ Fs,(h0.get? a).isSome = true)
  (hro:it.isRo = true → ro' = true):ItAt h0 T' h' J it i:=
 x.map ⟨le,λ a o fr e p=>S.fresh hF fr (ns_ne hL e p.nd) e,λ a fr ha=>(S.tag a ha).trans fr.free⟩ λ hr a j en n ta e=>S.rest (hro hr) a _ (λ q=>by subst q; rw [tL] at ta; cases ta) e
inductive Acc (h0:Heap) (T:Tags) (h:Heap) (D:Addr) (vs:List PV):Prop
 | mk (as:Array Value) (m:Nat) (fr:Fresh h0 T D) (hg:h.get? D = some (lstObj as m)) (hr:RelL T vs as.toList):Acc h0 T h D vs
theorem Acc.step {ro:Bool} {Fs:List Addr} {L D:Addr} {h0 h h':Heap} {T T':Tags} {vs:List PV} {m:Str → Option Value} (S:Step ro Fs L T h T' h') (le:T.le T') (hL:h.Ns L m) (hF:∀ a ∈ Fs,(h0.get? a).isSome = true):Acc h0 T h D vs → Acc h0 T' h' D vs
 | mk as n fr hg hr=>mk as n ⟨fr.new,(S.tag D (liveOf hg)).trans fr.free⟩ (S.fresh hF fr (ns_ne hL hg λ zz zz q=>nomatch q) hg) (RelL.mono le _ _ hr)
structure Run (h₀:Heap) (ro:Bool) (f:Frm) (env:Env) (es:List Env) (T0:Tags) (s0:Shared) (l:Locs) (f':Frm) (env':Env) (ac:Option (Addr × List PV)) (T:Tags) (c:Cells) (l':Locs) (s:Shared):Prop where
 out:Out (w:=w) h₀ ro f env es T0 s0 T c l s
 pre:Pre (w:=w) h₀ T c l' s f' env' es
 acc:∀ D vs,ac = some (D,vs) → Acc s0.heap T s.heap D vs
variable {f':Frm} {env':Env} {l':Locs} {ac:Option (Addr × List PV)}
theorem Frs.keep {T':Tags} {h h':Heap} (x:Frs T h es) (ht:∀ a ∈ frsOf es,T a = .free → T' a = .free) (hk:∀ a o,a ∈ frsOf es → h.get? a = some o → h'.get? a = some o):Frs T' h' es:=λ e he=>by
 refine Classical.byContradiction λ hcps=>?_
 obtain ⟨h1,F,o,h2,h3,h4,h5⟩:=x e he
 refine hcps ?_
 clear hcps
 have hm:F ∈ frsOf es:=List.mem_filterMap.mpr ⟨e,he,h2⟩
 exact ⟨h1,F,o,h2,ht F hm h3,hk F o hm h4,h5⟩
theorem Plain.notNs {h:Heap} {a:Addr} (x:Plain h a) {o:Obj} {es:Array DictEntry} {ep:Nat} (e:h.get? a = some o) (hd:o.data = .dict es ep) {P:Prop}:P:=by
 obtain ⟨o',e',p⟩:=x
 rw [e] at e'; cases e'
 exact absurd hd (p.nd _ _)
theorem Plain.notLst {h:Heap} {a:Addr} (x:Plain h a) {as:Array Value} {m:Nat} (e:h.get? a = some (lstObj as m)) {P:Prop}:P:=by
 obtain ⟨o',e',p⟩:=x
 rw [e] at e'; cases e'
 exact absurd rfl p.nl
theorem Run.touch {S:Addr → Prop} {h':Heap} {tk:Nat} (P:Pre (w:=w) h₀ T0 c0 l0 s0 f env es) (o:Run (w:=w) h₀ ro f env es T0 s0 l f' env' ac T c l' s) (hS:∀ a,S a → Fresh s0.heap T a ∧ Plain s.heap a) (hk:∀ b ob,¬ S b → s.heap.get? b = some ob → h'.get? b = some ob) :
  Run (w:=w) h₀ ro f env es T0 s0 l f' env' ac T c l' { s with heap:=h',toks:=tk }:=by
 have O:=o.out.touch P (tk:=tk) (λ a q=>(hS a q).1) hk
 have L:Loc T h' env' l':=o.pre.loc.keep (Tags.le.refl T) rfl λ ob es' ep e hd=>hk _ ob (λ q=>(hS _ q).2.notNs e hd) e
 exact ⟨O,⟨O.pre.wd,L,O.pre.frs,o.pre.frm⟩,λ D vs e=>by induction o.acc D vs e using Mine.Acc.casesOn with | mk as m fr hg hr=>exact ⟨as,m,fr,hk D _ (λ q=>(hS D q).2.notLst hg) hg,hr⟩⟩
theorem Run.froz {N:Addr} {ob:Obj} (P:Pre (w:=w) h₀ T0 c0 l0 s0 f env es) (o:Run (w:=w) h₀ ro f env es T0 s0 l f' env' ac T c l' s) (hN:Fresh s0.heap T N) (e:s.heap.get? N = some ob) (nd:PlainOb ob) :
  Run (w:=w) h₀ ro f env es T0 s0 l f' env' ac (T.put N (.froz ob)) c l' s:=by
 have O:=o.out.froz P hN e
 have le:T.le (T.put N (.froz ob)):=Tags.le_put _ hN.free
 have L:Loc (T.put N (.froz ob)) s.heap env' l':=o.pre.loc.keep le (T.put_ne _ (ns_ne o.pre.loc.ns.choose_spec.1 e nd.nd).symm) λ zz zz zz e zz=>e
 refine ⟨O,⟨O.pre.wd,L,O.pre.frs,o.pre.frm.mono le⟩,λ D vs q=>?_⟩
 induction o.acc D vs q using Mine.Acc.casesOn with
 | mk as m fr hg hr=>exact ⟨as,m,⟨fr.new,(T.put_ne _ (λ q=>Plain.notLst ⟨_,e,nd⟩ (q ▸ hg))).trans fr.free⟩,hg,RelL.mono le _ _ hr⟩
theorem letOwned_other {target:Expr} {J:Addr} {u:Value} {o:Obj} {n:String} {Q:Unit → Shared → Prop} {E:Value → Shared → Prop} (ho:s.heap.get? J = some o) (hc:o.cls = .type n)
  (hn:["enumerate","zip","dict_itemiterator","dict_reverseitemiterator","odict_iterator","itertools.zip_longest","itertools.pairwise"].contains n = false) (q:Q () s) :
  wpAny (model prog w) A (letOwnedTupleGo target (.ref J) u) Q E s:=by
 have main:∀ e x p,wpAny (model prog w) A (letOwnedTupleGo (.Tuple e x p) (.ref J) u) Q E s:=λ e x p=>by
  cases u
  case ref a=>
   refine wpAny_bind (wpAny_load ho ?_)
   rw [hc]
   cases o.data
   case fields vs=>
    dsimp only
    rw [if_neg (by rw [hn]; exact λ q=>nomatch q)]
    exact wpAny_pure q
   all_goals exact wpAny_pure q
  all_goals exact wpAny_pure q
 cases target
 case Tuple=>exact main _ _ _
 case List=>exact main [] default default
 all_goals exact wpAny_pure q
end
end Mine
end
section
open PySem PySem.W PySem.Calls PyProof.Rows Builtin Builtin.ObjectAttr
set_option backward.match.sparseCases false
namespace Mine
theorem EntsRel.length {w:World} {T:Tags}:∀ {xs:List (Key × PV)} {ents:List DictEntry},EntsRel w T xs ents → ents.length = xs.length
 | [],_,h=>by subst h; rfl
 | (_,_) :: _,_,h=>by
  induction show ConsE _ _ _ from h using Mine.ConsE.casesOn with
  | mk u t _ k=>exact congrArg Nat.succ (EntsRel.length k)
theorem lstOf_some {y:Cell} {l:List PV}:lstOf y = some l → y = .list l:=by
 induction y using Mine.Cell.casesOn with
 | list l=>exact λ h=>congrArg Cell.list (Option.some.inj h)
 | _=>exact nS
theorem dctOf_some {y:Cell} {l:List (Key × PV)}:dctOf y = some l → y = .dict l:=by
 induction y using Mine.Cell.casesOn with
 | dict l=>exact λ h=>congrArg Cell.dict (Option.some.inj h)
 | _=>exact nS
theorem KEnts.get {α:Type} {emb:α → Key} {T:Tags} {xs:List (Key × PV)} {kvs:List (α × Value)} (h:KEnts emb T xs kvs):∀ {i:Nat} {p:Key × PV},xs[i]? = some p → ∃ k v,kvs[i]? = some (k,v) ∧ p.1 = emb k ∧ Rel T p.2 v:=by
 induction h with
 | nil=>exact λ e=>nomatch e
 | @cons k v p r t hv _ ih=>
  intro i q e
  induction i using Nat.casesOn with
  | zero=>cases e; exact ⟨k,v,rfl,rfl,hv⟩
  | succ i=>exact ih (i:=i) e
section
variable {prog:Program} {w:World} {h₀:Heap} {K:Tbl} {ro:Bool} {f:Frm} {env:Env} {es:List Env} {A:Around} {T T0:Tags} {c c0:Cells} {l l0:Locs} {s s0:Shared} {d:Nat} {f':Frm} {env':Env} {l':Locs} {ac:Option (Addr × List PV)}
inductive LstA (T:Tags) (h:Heap) (a:Addr) (xs:List PV):Prop
 | mk (n:Nat) (vs:Array Value) (hg:h.get? a = some (lstObj vs n)) (hr:RelL T xs vs.toList):LstA T h a xs
theorem Pre.lstA (P:Pre (w:=w) h₀ T c l s f env es) {i:Nat} {a:Addr} {xs:List PV} (ta:T a = .cell i) (e:c[i]? = some (.list xs)):LstA T s.heap a xs:=by
 induction P.wd.cells i _ e using Mine.LstC.casesOn with
 | mk a' n vs ta' hg hr=>exact P.wd.uniq _ _ i ta' ta ▸ ⟨n,vs,hg,hr⟩
inductive DctA (prog:Program) (w:World) (T:Tags) (h:Heap) (a:Addr) (xs:List (Key × PV)):Prop
 | mk (n:Nat) (en:Array DictEntry) (kvs:List (Str × Value)) (hg:h.get? a = some (dctObj en n)) (hl:kvs.length = en.size) (da:h.DictAt (strKind prog w) a kvs n) (ea:KEnts Key.s T xs kvs):DctA prog w T h a xs
theorem Pre.dctA (P:Pre (w:=w) h₀ T c l s f env es) {i:Nat} {a:Addr} {xs:List (Key × PV)} (ta:T a = .cell i) (e:c[i]? = some (.dict xs)) (hS:xs.all (λ e=>isS e.1) = true):DctA prog w T s.heap a xs:=by
 induction P.wd.cells i _ e using Mine.DctC.casesOn with
 | mk a' n en ta' hg hr hn=>
  induction dict_to (embS prog w) hg hr hn hS using Mine.DictTo.casesOn with
  | mk kvs da ea=>exact P.wd.uniq _ _ i ta' ta ▸ ⟨n,en,kvs,hg,by rw [ea.length]; exact hr.length.symm,da,ea⟩
variable (h₀ ro f env es T s) in
inductive ItR (it:It) (c':Cells) (l':Locs):Value → Shared → Prop
 | mk (J:Addr) (T':Tags) (s':Shared) (o:Out (w:=w) h₀ ro f env es T s T' c' l' s') (h:ItAt s.heap T' s'.heap J it 0):ItR it c' l' (.ref J) s'
variable (h₀ ro f env es T s) in
noncomputable def ItQ (r:R It) (v:Value) (s':Shared):Prop:=match r with
 | .ok it c' l'=>ItR (w:=w) h₀ ro f env es T s it c' l' v s'
 | .exc _=>False
 | .fail=>False
variable (prog A h₀ ro f env es T s) in
noncomputable def ItG (u:Value) (E:Value → Shared → Prop) (r:R It):Prop:=r ≠ .fail → wpAny (model prog w) A (pyIter u) (ItQ (w:=w) h₀ ro f env es T s r) E s
theorem start_lst (P:Pre (w:=w) h₀ T c l s f env es) {i:Nat} {u:Value} {xs:List PV} (h:RefC T i u) (e:c[i]? = some (.list xs)) {E:Value → Shared → Prop}:wpAny (model prog w) A (pyIter u) (ItR (w:=w) h₀ ro f env es T s (.lst i) c l) E s:=by
 induction P.lst h e using Mine.IsLst.casesOn with
 | mk a n vs ta hg hr=>exact wpAny_pyIter_list (lstAt hg) ⟨_,T,_,P.free (tk:=s.toks),⟨a,⟨none_size _,P.wd.fresh w⟩,ta,_,Heap.get?_push_size _ rfl,rfl,rfl⟩⟩
theorem rng_small {a b k:Int} (ha:smallI a = true) (hb:smallI b = true) (hk:k = 1 ∨ k = -1):Builtin.Range.small a b k = true:=by
 refine Classical.byContradiction λ hcps=>?_
 obtain ⟨a1,a2⟩:=smallI_of ha
 obtain ⟨b1,b2⟩:=smallI_of hb
 refine hcps ?_
 clear hcps
 rcases hk with rfl | rfl
 ·exact small_one (Int.le_of_lt a1) a2 (Int.le_of_lt b1) b2
 ·exact small_down (Int.le_of_lt a1) a2 (Int.le_of_lt b1) b2
theorem start_rng (P:Pre (w:=w) h₀ T c l s f env es) {a b k:Int} {u:Value} (h:RngV T a b k u) (hg:(smallI a && smallI b && (decide (k = 1) || decide (k = -1))) = true) {E:Value → Shared → Prop}:wpAny (model prog w) A (pyIter u) (ItR (w:=w) h₀ ro f env es T s (.rng a b k) c l) E s:=by
 have hk:=or_inv (and_r hg)
 induction h using Mine.RngV.casesOn with
 | mk r t u x tr=>
  refine wpAny_pyIter_range (a:=a) (b:=b) (c:=k) (t:=t) (u:=u) (v:=x) (P.wd.froz _ _ tr) (rng_small (and_l (and_l hg)) (and_r (and_l hg)) hk) ⟨_,T,_,P.free (tk:=s.toks),⟨⟨none_size _,P.wd.fresh w⟩,hk,?_⟩⟩
  rw [show a + k * ((0:Nat):Int) = a from (congrArg (a + ·) (Int.mul_zero k)).trans (Int.add_zero a),show Builtin.Range.rangeSize a b k - ((0:Nat):Int) = Builtin.Range.rangeSize a b k from Int.sub_zero _]
  exact Heap.get?_push_size _ rfl
theorem start_itm (P:Pre (w:=w) h₀ T c l s f env es) {i:Nat} {u:Value} {xs:List (Key × PV)} (h:ItmV T i u) (e:c[i]? = some (.dict xs)) (hS:xs.all (λ e=>isS e.1) = true) {E:Value → Shared → Prop}:wpAny (model prog w) A (pyIter u) (ItR (w:=w) h₀ ro f env es T s (.items i) c l) E s:=by
 induction h using Mine.ItmV.casesOn with
 | mk r dd hr td=>
  induction P.dctA (prog:=prog) td e hS using Mine.DctA.casesOn with
  | mk n en kvs hg hl da ea=>
   refine wpAny_pyIter_items (d:=dd) (ep:=n) ⟨_,P.wd.froz _ _ hr,rfl,rfl⟩ da ⟨_,T,_,P.free (tk:=s.toks),⟨dd,n,en,.none,.none,⟨none_size _,P.wd.fresh w⟩,td,Heap.get?_push_of_some _ hg,?_⟩⟩
   rw [hl]
   exact Heap.get?_push_size _ rfl
theorem it_start (P:Pre (w:=w) h₀ T c l s f env es) {x:PV} {u:Value} (hx:Rel T x u) {E:Value → Shared → Prop}:ItG (w:=w) prog h₀ ro f env es A T s u E (iterV x c l):=by
 have no:ItG (w:=w) prog h₀ ro f env es A T s u E .fail:=λ h=>absurd rfl h
 induction x using Mine.PV.casesOn with
 | ref a=>exact opt_by (o:=c[a]?) no λ y hy=>opt_by no λ xs hxs zz=>start_lst P hx (hy.trans (congrArg some (lstOf_some hxs)))
 | tup xs=>exact λ zz=>by induction hx using Mine.SeqFz.casesOn with | mk t n vs tt hr=>exact wpAny_pyIter_tuple ⟨_,P.wd.froz _ _ tt,rfl,n,rfl⟩ ⟨_,T,_,P.free (tk:=s.toks),.tup t n vs ⟨none_size _,P.wd.fresh w⟩ hr tt ⟨_,Heap.get?_push_size _ rfl,rfl,rfl⟩⟩
 | klist xs=>exact λ zz=>by induction hx using Mine.SeqFz.casesOn with | mk t n vs tt hr=>exact wpAny_pyIter_list (lstAt (P.wd.froz _ _ tt)) ⟨_,T,_,P.free (tk:=s.toks),.lst t n vs ⟨none_size _,P.wd.fresh w⟩ hr tt ⟨_,Heap.get?_push_size _ rfl,rfl,rfl⟩⟩
 | rng a b k=>exact gd_by no λ hg zz=>start_rng P hx hg
 | items a=>exact opt_by (o:=c[a]?) no λ y hy=>opt_by no λ xs hxs=>gd_by no λ hS zz=>start_itm P hx (hy.trans (congrArg some (dctOf_some hxs))) hS
 | _=>exact no
theorem it_seq {δ:Type} {g:It → M δ} {x:PV} {u:Value} {Q:Value → Shared → Prop} {E:Value → Shared → Prop} (P:Pre (w:=w) h₀ T c l s f env es) (hx:Rel T x u) (hnf:bnd (iterV x) g c l ≠ .fail)
  (hk:∀ it c' l' J s' T',bnd (iterV x) g c l = g it c' l' → Out (w:=w) h₀ ro f env es T s T' c' l' s' → ItAt s.heap T' s'.heap J it 0 → g it c' l' ≠ .fail → Q (.ref J) s'):wpAny (model prog w) A (pyIter u) Q E s:=by
 have h:=it_start (prog:=prog) (A:=A) (ro:=ro) P hx (E:=E)
 unfold ItG at h
 unfold bnd at hnf hk
 induction e:iterV x c l using Mine.R.casesOn with
 | ok it c' l'=>
  rw [e] at h hnf hk
  exact wpAny_mono (h (λ q=>nomatch q)) (λ v s' q=>by induction q using Mine.ItR.casesOn with | mk J T' s' o hi=>exact hk _ _ _ J s' T' rfl o hi hnf) λ zz zz q=>q
 | exc _=>rw [e] at h; exact wpAny_mono (h (λ q=>nomatch q)) (λ v s' q=>q.elim) λ zz zz q=>q
 | fail=>rw [e] at hnf; exact absurd rfl hnf
section next
variable (J:Addr) (it:It) (i:Nat) (target:Expr)
variable (h₀ ro f env es T0 s0 l f' env' ac c l') in
inductive GoR (T1:Tags):Unit → Shared → Prop
 | mk (s2:Shared) (o:Run (w:=w) h₀ ro f env es T0 s0 l f' env' ac T1 c l' s2) (h:ItAt s0.heap T1 s2.heap J it (i + 1)):GoR T1 () s2
variable (prog A h₀ ro f env es T0 s0 l f' env' ac T c l') in
inductive NextR:Option PV → Option Value → Shared → Prop
 | done (s1:Shared) (o:Run (w:=w) h₀ ro f env es T0 s0 l f' env' ac T c l' s1):NextR none none s1
 | item (p:PV) (u:Value) (T1:Tags) (s1:Shared) (o:Run (w:=w) h₀ ro f env es T0 s0 l f' env' ac T1 c l' s1) (r:Rel T1 p u) (go:∀ E,wpAny (model prog w) A (letOwnedTupleGo target (.ref J) u) (GoR (w:=w) h₀ ro f env es T0 c l s0 f' env' l' ac J it i T1) E s1):NextR (some p) (some u) s1
variable {J it i target}
theorem NextR.plain {p:PV} {u:Value} {s1:Shared} {ob:Obj} {n:String} (hJ:s1.heap.get? J = some ob) (hc:ob.cls = .type n) (hn:["enumerate","zip","dict_itemiterator","dict_reverseitemiterator","odict_iterator","itertools.zip_longest","itertools.pairwise"].contains n = false)
  (o:Run (w:=w) h₀ ro f env es T0 s0 l f' env' ac T c l' s1) (r:Rel T p u) (h:ItAt s0.heap T s1.heap J it (i + 1)):NextR (w:=w) prog h₀ ro f env es A T T0 c l s0 f' env' l' ac J it i target (some p) (some u) s1:=
 .item p u T s1 o r λ E=>letOwned_other hJ hc hn ⟨s1,o,h⟩
theorem one_S {a J:Addr} (hf:Fresh s0.heap T J) (hp:Plain s.heap J) (e:a = J):Fresh s0.heap T a ∧ Plain s.heap a:=e ▸ ⟨hf,hp⟩
theorem off_end {xs:List PV} {as:Array Value} (h:RelL T xs as.toList) (e:xs[i]? = none):as[i]? = none:=by
 rw [List.getElem?_eq_none_iff] at e
 rw [Array.getElem?_eq_none_iff,h.size]; exact e
theorem KEnts.off {xs:List (Key × PV)} {kvs:List (Str × Value)} (ea:KEnts Key.s T xs kvs) (e:xs[i]? = none):kvs[i]? = none:=by rw [List.getElem?_eq_none_iff] at e ⊢; rw [ea.length]; exact e
theorem pair_rel {k:Str} {y:Key} {x:PV} {key v:Value} (h:y = .s k) (hk:Value.isStrOf k key = true) (hv:Rel T x v):RelL T [keyPV y,x] [key,v]:=by
 subst h
 refine RelL.cons (show StrV k key from ?_) (RelL.one hv)
 induction key using PySem.Value.casesOn with
 | str z t=>cases of_decide_eq_true (show decide (z = k) = true from hk); exact ⟨t⟩
 | _=>cases hk
inductive ItmIn (prog:Program) (w:World) (h0:Heap) (T:Tags) (h:Heap) (J:Addr) (a:Nat) (xs:List (Key × PV)) (i:Nat):Prop
 | mk (dd:Addr) (n:Nat) (en:Array DictEntry) (kvs:List (Str × Value)) (ok ov:Value) (fr:Fresh h0 T J) (td:T dd = .cell a) (hg:h.get? dd = some (dctObj en n)) (hj:IsItemIter h J dd i kvs.length n ok ov) (hl:kvs.length = en.size) (da:h.DictAt (strKind prog w) dd kvs n) (ea:KEnts Key.s T xs kvs):ItmIn prog w h0 T h J a xs i
theorem dct_inj {a b:Array DictEntry} {n m:Nat} (h:some (dctObj a n) = some (dctObj b m)):a = b ∧ n = m:=by cases h; exact ⟨rfl,rfl⟩
theorem itm_in {h0:Heap} {a:Nat} {xs:List (Key × PV)} (P:Pre (w:=w) h₀ T c l s f env es) (hx:c[a]?.bind dctOf = some xs) (hS:xs.all (λ e=>isS e.1) = true):ItmIt h0 T s.heap J a i → ItmIn prog w h0 T s.heap J a xs i
 | ⟨dd,n,en,ok,ov,fr,td,hg,hj⟩=>by
  refine Classical.byContradiction λ hcps=>?_
  obtain ⟨y,hy,e⟩:=Option.bind_eq_some_iff.mp hx
  refine hcps ?_
  clear hcps
  induction P.dctA (prog:=prog) td (hy.trans (congrArg some (dctOf_some e))) hS using Mine.DctA.casesOn with
  | mk n' en' kvs hg' hl da ea=>
   refine Classical.byContradiction λ hcps=>?_
   obtain ⟨rfl,rfl⟩:=dct_inj (hg.symm.trans hg')
   refine hcps ?_
   clear hcps
   exact ⟨dd,n,en,kvs,ok,ov,fr,td,hg,hl ▸ hj,hl,da,ea⟩
inductive ZipIn (h0:Heap) (T:Tags) (h:Heap) (J:Addr) (a b:Nat) (xs ys:List PV) (i:Nat):Prop
 | mk (TI TO i1 i2 l1 l2:Addr) (x y:Value) (as bs:Array Value) (f0:Fresh h0 T J) (f1:Fresh h0 T TI) (f2:Fresh h0 T TO) (f3:Fresh h0 T i1) (f4:Fresh h0 T i2) (t1:T l1 = .cell a) (t2:T l2 = .cell b) (ap:ZipApart J TI TO i1 i2 l1 l2)
   (hz:IsZip h J TI TO .none) (p1:IsPair h TI (.ref i1) (.ref i2)) (p2:IsPair h TO x y) (j1:h.IsListIter i1 l1 i) (j2:h.IsListIter i2 l2 i) (g1:h.IsList l1 as) (g2:h.IsList l2 bs) (r1:RelL T xs as.toList) (r2:RelL T ys bs.toList):ZipIn h0 T h J a b xs ys i
theorem lstAtC_some {a:Nat} {xs:List PV} (h:lstAtC c a = some xs):c[a]? = some (.list xs):=by
 obtain ⟨y,hy,e⟩:=Option.bind_eq_some_iff.mp h
 exact hy.trans (congrArg some (lstOf_some e))
theorem zip_in {h0:Heap} {a b:Nat} {xs ys:List PV} (P:Pre (w:=w) h₀ T c l s f env es) (hx:lstAtC c a = some xs) (hy:lstAtC c b = some ys):ZipIt h0 T s.heap J a b i → ZipIn h0 T s.heap J a b xs ys i
 | ⟨TI,TO,i1,i2,l1,l2,x,y,f0,f1,f2,f3,f4,t1,t2,D,hz,p1,p2,j1,j2⟩=>by
  induction P.lstA t1 (lstAtC_some hx) using Mine.LstA.casesOn with
  | mk n as g1 r1=>induction P.lstA t2 (lstAtC_some hy) using Mine.LstA.casesOn with | mk m bs g2 r2=>exact ⟨TI,TO,i1,i2,l1,l2,x,y,as,bs,f0,f1,f2,f3,f4,t1,t2,D,hz,p1,p2,j1,j2,lstAt g1,lstAt g2,r1,r2⟩
theorem four {z a b c d:Addr} {p q:Prop} (nb:¬ (z = a ∨ z = b ∨ z = c ∨ z = d)) (k:z ≠ a → z ≠ b → z ≠ c → z ≠ d → p → q):p → q:=k (λ q=>nb (.inl q)) (λ q=>nb (.inr (.inl q))) (λ q=>nb (.inr (.inr (.inl q)))) (λ q=>nb (.inr (.inr (.inr q))))
theorem lit_at {h h':Heap} {J a b:Addr} {i:Nat} (hs:Heap.SameBut b h h') (ne:J ≠ b):h.IsListIter J a i → h'.IsListIter J a i
 | ⟨ob,e,r⟩=>⟨ob,(hs.2 _ ne).trans e,r⟩
theorem isTup_some {e:Expr}:isTup e = true → ∃ a x p,e = .Tuple a x p:=by
 induction e using PySem.Expr.casesOn with
 | Tuple a x p=>exact λ zz=>⟨a,x,p,rfl⟩
 | _=>exact fT
variable (hA:AOk A d es) (P:Pre (w:=w) h₀ T0 c0 l0 s0 f env es) (o:Run (w:=w) h₀ ro f env es T0 s0 l f' env' ac T c l' s)
include hA P o
theorem nextList {ax:Addr} {xs:List PV} {as:Array Value} (hf:Fresh s0.heap T J) (hj:s.heap.IsListIter J ax i) (hl:s.heap.IsList ax as) (hr:RelL T xs as.toList)
  (hI:∀ h',h'.IsListIter J ax (i + 1) → ItAt s0.heap T h' J it (i + 1)) {E:Value → Shared → Prop} :
  wpAny (model prog w) A (pyNext (.ref J)) (NextR (w:=w) prog h₀ ro f env es A T T0 c l s0 f' env' l' ac J it i target xs[i]?) E s:=by
 have hS:=λ a=>one_S (a:=a) hf (lit_plain hj)
 induction e:xs[i]? using Option.casesOn with
 | none=>exact wpAny_pyNext_list_end hA.hand hj hl (off_end hr e) λ h' he=>.done _ (o.touch P (tk:=s.toks) hS he)
 | some p=>
  refine Classical.byContradiction λ hcps=>?_
  obtain ⟨u,hu,ru⟩:=hr.at_ e
  refine hcps ?_
  clear hcps
  refine wpAny_pyNext_list_item hj hl hu λ h' hj' hs'=>?_
  have o':=o.touch P (tk:=s.toks) hS (h':=h') λ b ob nb eb=>(hs'.2 b nb).trans eb
  refine Classical.byContradiction λ hcps=>?_
  obtain ⟨ob,hob,hcl,hd⟩:=id hj'
  refine hcps ?_
  clear hcps
  exact .plain hob hcl (by decide) o' ru (hI h' hj')
theorem nextTup {t:Addr} {n:Nat} {xs:List PV} {as:Array Value} (hf:Fresh s0.heap T J) (hr:RelL T xs as.toList) (tt:T t = .froz (tupObj as n)) (hj:s.heap.IsTupleIter J t i) {E:Value → Shared → Prop} :
  wpAny (model prog w) A (pyNext (.ref J)) (NextR (w:=w) prog h₀ ro f env es A T T0 c l s0 f' env' l' ac J (.fix xs) i target xs[i]?) E s:=by
 have hS:=λ a=>one_S (a:=a) hf (tit_plain hj)
 have hl:s.heap.IsTuple t as:=⟨_,o.out.pre.wd.froz _ _ tt,rfl,n,rfl⟩
 induction e:xs[i]? using Option.casesOn with
 | none=>exact wpAny_pyNext_tuple_end hA.hand hj hl (off_end hr e) λ h' he=>.done _ (o.touch P (tk:=s.toks) hS he)
 | some p=>
  refine Classical.byContradiction λ hcps=>?_
  obtain ⟨u,hu,ru⟩:=hr.at_ e
  refine hcps ?_
  clear hcps
  refine wpAny_pyNext_tuple_item hj hl hu λ h' hj' hs'=>?_
  have o':=o.touch P (tk:=s.toks) hS (h':=h') λ b ob nb eb=>(hs'.2 b nb).trans eb
  refine Classical.byContradiction λ hcps=>?_
  obtain ⟨ob,hob,hcl,hd⟩:=id hj'
  refine hcps ?_
  clear hcps
  exact .plain hob hcl (by decide) o' ru (.tup t n as hf hr tt hj')
theorem nextRng {a b k:Int} (hf:Fresh s0.heap T J) (hk:k = 1 ∨ k = -1) (hj:IsRangeIter s.heap J (a + k * i) (Builtin.Range.rangeSize a b k - i) k) {r:Option PV} (hr:itemAt c (.rng a b k) i = some r) {E:Value → Shared → Prop} :
  wpAny (model prog w) A (pyNext (.ref J)) (NextR (w:=w) prog h₀ ro f env es A T T0 c l s0 f' env' l' ac J (.rng a b k) i target r) E s:=by
 have hS:=λ a=>one_S (a:=a) hf ⟨_,hj,plainN (by decide)⟩
 have key:(0 < Builtin.Range.rangeSize a b k - i ∧ r = some (.int (a + k * i))) ∨ (Builtin.Range.rangeSize a b k - i ≤ 0 ∧ r = none):=by
  rcases hk with rfl | rfl
  ·have hr:(if a + i < b then some (PV.int (a + i)) else none) = r:=Option.some.inj hr
   rw [rangeSize_nat]
   by_cases h1:a + i < b
   ·rw [if_pos h1] at hr; exact .inl ⟨by lia,by rw [Int.one_mul]; exact hr.symm⟩
   ·rw [if_neg h1] at hr; exact .inr ⟨by lia,hr.symm⟩
  ·have hr:(if b < a - i then some (PV.int (a - i)) else none) = r:=Option.some.inj hr
   rw [rangeSize_downNat]
   by_cases h1:b < a - i
   ·rw [if_pos h1] at hr; exact .inl ⟨by lia,by rw [Int.neg_mul,Int.one_mul]; exact hr.symm⟩
   ·rw [if_neg h1] at hr; exact .inr ⟨by lia,hr.symm⟩
 rcases key with ⟨h0,rfl⟩ | ⟨h0,rfl⟩
 ·refine wpAny_pyNext_range_item hj h0 λ h' hj' hs'=>?_
  have o':=o.touch P (tk:=s.toks + 1) hS (h':=h') λ b ob nb eb=>(hs'.2 b nb).trans eb
  have e1:a + k * ((i + 1:Nat):Int) = a + k * (i:Int) + k:=by rw [Int.natCast_add,Int.mul_add,Int.add_assoc]; exact congrArg (λ z=>a + (k * (i:Int) + z)) (Int.mul_one k)
  have e2:Builtin.Range.rangeSize a b k - ((i + 1:Nat):Int) = Builtin.Range.rangeSize a b k - (i:Int) - 1:=by lia
  exact .plain hj' rfl (by decide) o' ⟨_⟩ ⟨hf,hk,by rw [e1,e2]; exact hj'⟩
 ·exact wpAny_pyNext_range_end hA.hand hj h0 λ h' he=>.done _ (o.touch P (tk:=s.toks) hS he)
theorem nextItm {a:Nat} {xs:List (Key × PV)} {e:List Expr} {x:Nat} {pos:Pos} (I:ItmIn prog w s0.heap T s.heap J a xs i) {E:Value → Shared → Prop} :
  wpAny (model prog w) A (pyNext (.ref J)) (NextR (w:=w) prog h₀ ro f env es A T T0 c l s0 f' env' l' ac J (.items a) i (.Tuple e x pos) (xs[i]?.map λ e=>.tup [keyPV e.1,e.2])) E s:=by
 induction I using Mine.ItmIn.casesOn with
 | mk dd n en kvs ok ov hf td hg hj hl da ea=>
  have hS:=λ a=>one_S (a:=a) hf ⟨_,hj,plainN (by decide)⟩
  induction e:xs[i]? using Option.casesOn with
  | none=>exact wpAny_pyNext_items_end hA.hand hj da (ea.off e) λ h' he=>.done _ (o.touch P (tk:=s.toks) hS he)
  | some p=>
   refine Classical.byContradiction λ hcps=>?_
   obtain ⟨k,v,hk,h1,h2⟩:=ea.get e
   refine hcps ?_
   clear hcps
   refine wpAny_pyNext_items_item hj da hk λ key h' hkey hj' ht' zz hk'=>?_
   have fN:=o.out.newer (none_size s.heap)
   have o2:=(o.touch P (tk:=s.toks) hS (h':=h') hk').froz P fN (ob:=tupObj #[key,v] 0) ht' plainTup
   have le:T.le (T.put s.heap.objs.size (.froz (tupObj #[key,v] 0))):=Tags.le_put _ fN.free
   have fJ:=hf.put (t:=.froz (tupObj #[key,v] 0)) (liveOf hj) (none_size s.heap)
   refine .item _ (.ref s.heap.objs.size) _ _ o2 (SeqFz.mk _ 0 #[key,v] (Tags.put_self ..) (pair_rel h1 hkey (Rel.mono le _ _ h2))) λ E2=>wpAny_letOwnedTupleGo_items hj' λ h2 hj2 hs2=>?_
   have o3:=o2.touch P (tk:=s.toks) (h':=h2) (λ a=>one_S (a:=a) fJ ⟨_,hj',plainN (by decide)⟩) λ b ob nb eb=>(hs2.2 b nb).trans eb
   have n1:dd ≠ J:=λ q=>by rw [q,hf.free] at td; cases td
   exact ⟨_,o3,dd,n,en,key,v,fJ,le.cell td,(hs2.2 dd n1).trans (hk' dd _ n1 hg),hl ▸ hj2⟩
theorem nextZip {a b:Nat} {xs ys:List PV} {e:List Expr} {k:Nat} {pos:Pos} (I:ZipIn s0.heap T s.heap J a b xs ys i) {E:Value → Shared → Prop} :
  wpAny (model prog w) A (pyNext (.ref J)) (NextR (w:=w) prog h₀ ro f env es A T T0 c l s0 f' env' l' ac J (.zip a b) i (.Tuple e k pos) (pairAt xs[i]? ys[i]?)) E s:=by
 induction I using Mine.ZipIn.casesOn with
 | mk TI TO i1 i2 l1 l2 x y as bs f0 f1 f2 f3 f4 t1 t2 D hz p1 p2 j1 j2 g1 g2 r1 r2=>
  have hS:∀ z,(z = J ∨ z = TO ∨ z = i1 ∨ z = i2) → Fresh s0.heap T z ∧ Plain s.heap z:=λ z q=>
   q.elim (one_S f0 ⟨_,hz,plainN (by decide)⟩) λ q=>q.elim (one_S f2 ⟨_,p2,plainTup⟩) λ q=>q.elim (one_S f3 (lit_plain j1)) (one_S f4 (lit_plain j2))
  have stop:as[i]? = none ∨ bs[i]? = none → wpAny (model prog w) A (pyNext (.ref J)) (NextR (w:=w) prog h₀ ro f env es A T T0 c l s0 f' env' l' ac J (.zip a b) i (.Tuple e k pos) none) E s:=λ q=>
   wpAny_pyNext_zip_end hA.hand D hz p1 p2 j1 j2 g1 g2 q λ h' hk'=>.done _ (o.touch P (tk:=s.toks) hS λ b ob nb=>four nb (hk' b ob))
  induction ea:xs[i]? using Option.casesOn with
  | none=>exact stop (.inl (off_end r1 ea))
  | some p=>
   induction eb:ys[i]? using Option.casesOn with
   | none=>exact stop (.inr (off_end r2 eb))
   | some q=>
    refine Classical.byContradiction λ hcps=>?_
    obtain ⟨u,hu,ru⟩:=r1.at_ ea
    obtain ⟨v,hv,rv⟩:=r2.at_ eb
    refine hcps ?_
    clear hcps
    refine wpAny_pyNext_zip_item D hz p1 p2 j1 j2 g1 g2 hu hv λ h' a1 a2 a3 a4 a5 zz hk'=>?_
    have fN:=o.out.newer (none_size s.heap)
    have o2:=(o.touch P (tk:=s.toks) hS (h':=h') λ b ob nb=>four nb (hk' b ob)).froz P fN (ob:=tupObj #[u,v] 0) a5 plainTup
    have le:T.le (T.put s.heap.objs.size (.froz (tupObj #[u,v] 0))):=Tags.le_put _ fN.free
    have fr:∀ {z},Fresh s0.heap T z → Plain s.heap z → Fresh s0.heap (T.put s.heap.objs.size (.froz (tupObj #[u,v] 0))) z:=λ fz pz=>fz.put pz.live (none_size s.heap)
    have g0:=fr f0 ⟨_,hz,plainN (by decide)⟩
    refine .item _ (.ref s.heap.objs.size) _ _ o2 (SeqFz.mk _ 0 #[u,v] (Tags.put_self ..) (RelL.cons (Rel.mono le _ _ ru) (RelL.one (Rel.mono le _ _ rv)))) λ E2=>wpAny_letOwnedTupleGo_zip a1 λ h2 hj2 hs2=>?_
    have o3:=o2.touch P (tk:=s.toks) (h':=h2) (λ a=>one_S (a:=a) g0 ⟨_,a1,plainN (by decide)⟩) λ b ob nb eb=>(hs2.2 b nb).trans eb
    exact ⟨_,o3,TI,TO,i1,i2,l1,l2,u,v,g0,fr f1 ⟨_,p1,plainTup⟩,fr f2 ⟨_,p2,plainTup⟩,fr f3 (lit_plain j1),fr f4 (lit_plain j2),le.cell t1,le.cell t2,D,hj2,(hs2.2 _ D.TIz).trans (hk' _ _ D.TIz D.TITO D.TIi1 D.TIi2 p1),(hs2.2 _ D.TOz).trans a2,lit_at hs2 D.i1z a3,lit_at hs2 D.i2z a4⟩
theorem it_next (I:ItAt s0.heap T s.heap J it i) (ht:it.fits target = true) {r:Option PV} (hr:itemAt c it i = some r) {E:Value → Shared → Prop} :
  wpAny (model prog w) A (pyNext (.ref J)) (NextR (w:=w) prog h₀ ro f env es A T T0 c l s0 f' env' l' ac J it i target r) E s:=by
 induction it using Mine.It.casesOn with
 | lst a=>
  obtain ⟨xs,hxs,hr⟩:=Option.bind_eq_some_iff.mp hr
  obtain ⟨zz,rfl⟩:=bif_some hr
  induction I using Mine.LstIt.casesOn with
  | mk ax hf ta hj=>induction o.out.pre.lstA ta (lstAtC_some hxs) using Mine.LstA.casesOn with | mk n as hg hrel=>exact nextList (it:=.lst a) hA P o hf hj (lstAt hg) hrel λ h' hj'=>⟨ax,hf,ta,hj'⟩
 | fix lf=>
  obtain ⟨zz,rfl⟩:=bif_some hr
  induction I using Mine.FixIt.casesOn with
  | tup t n vs hf hr tt hj=>exact nextTup hA P o hf hr tt hj
  | lst t n vs hf hr tt hj=>exact nextList (it:=.fix lf) hA P o hf hj (lstAt (o.out.pre.wd.froz _ _ tt)) hr λ h' hj'=>FixIt.lst t n vs hf hr tt hj'
 | rng a b k=>induction I using Mine.RngIt.casesOn with | mk hf hk hj=>exact nextRng hA P o hf hk hj hr
 | items a=>
  obtain ⟨xs,hxs,hr⟩:=Option.bind_eq_some_iff.mp hr
  obtain ⟨hall,rfl⟩:=bif_some hr
  obtain ⟨e,x,p,rfl⟩:=isTup_some ht
  exact nextItm hA P o (itm_in o.out.pre hxs hall I)
 | zip a b=>
  obtain ⟨xs,hxs,hr⟩:=Option.bind_eq_some_iff.mp hr
  obtain ⟨ys,hys,hr⟩:=Option.bind_eq_some_iff.mp hr
  obtain ⟨zz,rfl⟩:=bif_some hr
  obtain ⟨e,x,p,rfl⟩:=isTup_some ht
  exact nextZip hA P o (zip_in o.out.pre hxs hys I)
theorem it_none (I:ItAt s0.heap T s.heap J it i) (ht:it.fits target = true) (hr:itemAt c it i = some none) {Q:Option Value → Shared → Prop} {E:Value → Shared → Prop} (k:∀ s1,Run (w:=w) h₀ ro f env es T0 s0 l f' env' ac T c l' s1 → Q none s1):wpAny (model prog w) A (pyNext (.ref J)) Q E s:=
 wpAny_mono (it_next hA P o I ht hr) (λ v s1 h=>by cases h with | done s1 o=>exact k s1 o) λ zz zz q=>q
theorem it_some (I:ItAt s0.heap T s.heap J it i) (ht:it.fits target = true) {p:PV} (hr:itemAt c it i = some (some p)) {Q:Option Value → Shared → Prop} {E:Value → Shared → Prop}
  (k:∀ u T1 s1,Run (w:=w) h₀ ro f env es T0 s0 l f' env' ac T1 c l' s1 → Rel T1 p u → (∀ (Q:Unit → Shared → Prop) E,(∀ s2,Run (w:=w) h₀ ro f env es T0 s0 l f' env' ac T1 c l' s2 → ItAt s0.heap T1 s2.heap J it (i + 1) → Q () s2) → wpAny (model prog w) A (letOwnedTupleGo target (.ref J) u) Q E s1) → Q (some u) s1) :
  wpAny (model prog w) A (pyNext (.ref J)) Q E s:=
 wpAny_mono (it_next hA P o I ht hr) (λ v s1 h=>by cases h with | item p u T1 s1 o r go=>exact k u T1 s1 o r λ Q E z=>wpAny_mono (go E) (λ zz s2 h=>by induction h using Mine.GoR.casesOn with | mk s2 o2 h2=>exact z s2 o2 h2) λ zz zz q=>q) λ zz zz q=>q
end next
end
end Mine
end
section
open PySem PySem.W PySem.Calls PyProof.Rows Builtin Builtin.ObjectAttr
set_option backward.match.sparseCases false
namespace Mine
noncomputable def closL (env:Env):List (Str × NameKind) → List (Str × Addr) → List (Str × Addr)
 | [],acc=>acc
 | (x,k) :: r,acc=>if k == .free then closL env r ((x,(env.cells.lookup x).getD 0) :: acc) else closL env r acc
theorem closL_lookup (env:Env) (x:Str):∀ (names:List (Str × NameKind)) (acc:List (Str × Addr)),(acc.lookup x = none ∨ acc.lookup x = some ((env.cells.lookup x).getD 0)) →
  ((closL env names acc).lookup x = acc.lookup x ∧ (∀ k,(x,k) ∈ names → k ≠ .free)) ∨ (closL env names acc).lookup x = some ((env.cells.lookup x).getD 0)
 | [],acc,_=>.inl ⟨rfl,λ zz h=>nomatch h⟩
 | (y,k) :: r,acc,h=>by
  unfold closL
  by_cases hk:(k == NameKind.free) = true
  ·rw [if_pos hk]
   by_cases q:x = y
   ·subst q
    have e:((x,(env.cells.lookup x).getD 0) :: acc).lookup x = some ((env.cells.lookup x).getD 0):=by simp
    rcases closL_lookup env x r _ (.inr e) with ⟨i,_⟩ | i
    ·exact .inr (i.trans e)
    ·exact .inr i
   ·have e:((y,(env.cells.lookup y).getD 0) :: acc).lookup x = acc.lookup x:=by rw [List.lookup_cons,beq_false_of_ne q]
    rcases closL_lookup env x r ((y,(env.cells.lookup y).getD 0) :: acc) (by rw [e]; exact h) with ⟨i,j⟩ | i
    ·refine .inl ⟨i.trans e,λ k' hm=>?_⟩
     rcases List.mem_cons.mp hm with hm | hm
     ·cases hm; exact absurd rfl q
     ·exact j k' hm
    ·exact .inr i
  ·rw [if_neg hk]
   rcases closL_lookup env x r acc h with ⟨i,j⟩ | i
   ·refine .inl ⟨i,λ k' hm=>?_⟩
    rcases List.mem_cons.mp hm with hm | hm
    ·cases hm; intro q; subst q; exact hk rfl
    ·exact j k' hm
   ·exact .inr i
theorem closure_eq {env:Env} {scope:Scope} (h:∀ x k,(x,k) ∈ scope.names → k = .free → (env.cells.lookup x).isSome = true):closureFor scope env = pure (closL env scope.names []):=by
 have key:∀ (names:List (Str × NameKind)) (acc:List (Str × Addr)),(∀ x k,(x,k) ∈ names → k = .free → (env.cells.lookup x).isSome = true) →
   (forIn names acc λ p cs=>(if (p.2 == NameKind.free) = true then (cellOf env p.1 >>= λ a=>pure (ForInStep.yield ((p.1,a) :: cs))) else pure (ForInStep.yield cs):Sem _)) = pure (closL env names acc):=by
  intro names
  induction names with
  | nil=>intro acc zz; rfl
  | cons p r ih=>
   obtain ⟨x,k⟩:=p
   intro acc hh
   rw [List.forIn_cons]
   unfold closL
   by_cases hk:(k == NameKind.free) = true
   ·have hk':k = .free:=eq_of_beq hk
    obtain ⟨a,ha⟩:=Option.isSome_iff_exists.mp (hh x k (by simp) hk')
    simp only [hk,if_true]
    unfold cellOf
    rw [ha]
    exact ih _ λ y k' hm=>hh y k' (List.mem_cons_of_mem _ hm)
   ·simp only [hk,if_false,Bool.false_eq_true]
    exact ih _ λ y k' hm=>hh y k' (List.mem_cons_of_mem _ hm)
 unfold closureFor
 exact (congrArg (λ t:Sem (List (Str × Addr))=>t >>= λ cs=>pure cs) (key scope.names [] h)).trans rfl
structure FreeOk (f:Frm) (names:List (Str × NameKind)) (fc:List (Str × Nat)):Prop where
 free:∀ x k,(x,k) ∈ names → k = .free → (f.cells.lookup x).isSome = true
 at_:∀ x i,fc.lookup x = some i → f.cells.lookup x = some i ∧ (x,NameKind.free) ∈ names
theorem freeCells_some {f:Frm}:∀ {names:List (Str × NameKind)} {fc:List (Str × Nat)},freeCells f names = some fc → FreeOk f names fc
 | [],fc,h=>by cases h; exact ⟨(λ zz zz h=>nomatch h),λ zz zz h=>nomatch h⟩
 | (y,k) :: r,fc,h=>by
  unfold freeCells at h
  induction hb:(k == NameKind.free) using Bool.casesOn with
  | true=>
   rw [hb] at h
   cases eq_of_beq hb
   obtain ⟨i,e1,h⟩:=Option.bind_eq_some_iff.mp h
   obtain ⟨l,e2,rfl⟩:=Option.map_eq_some_iff.mp h
   have I:=freeCells_some e2
   refine ⟨λ x k hm hk=>(List.mem_cons.mp hm).elim (λ q=>?_) λ q=>I.free x k q hk,λ x j hx=>?_⟩
   ·cases q; rw [e1]; rfl
   ·rw [List.lookup_cons] at hx
    by_cases q:x = y
    ·subst q
     rw [beq_self_eq_true] at hx
     cases hx
     exact ⟨e1,List.mem_cons_self⟩
    ·rw [beq_false_of_ne q] at hx
     exact ⟨(I.at_ x j hx).1,List.mem_cons_of_mem _ (I.at_ x j hx).2⟩
  | false=>
   rw [hb] at h
   have I:=freeCells_some (show freeCells f r = some fc from h)
   refine ⟨λ x k' hm hk'=>(List.mem_cons.mp hm).elim (λ q=>?_) λ q=>I.free x k' q hk',λ x j hx=>⟨(I.at_ x j hx).1,List.mem_cons_of_mem _ (I.at_ x j hx).2⟩⟩
   cases q; subst hk'; cases hb
theorem closure_of {T:Tags} {f:Frm} {env:Env} (F:FrmOk T f env) {scope:Scope} {fc:List (Str × Nat)} (h:freeCells f scope.names = some fc) :
  ∃ cl,closureFor scope env = pure cl ∧ ∀ x i,fc.lookup x = some i → ∃ a,cl.lookup x = some a ∧ T a = .cell i:=by
 have H:=freeCells_some h
 have h3:∀ x k,(x,k) ∈ scope.names → k = .free → (env.cells.lookup x).isSome = true:=λ x k hm hk=>by
  refine Classical.byContradiction λ hcps=>?_
  obtain ⟨i,hi⟩:=Option.isSome_iff_exists.mp (H.free x k hm hk)
  obtain ⟨a,ha,zz⟩:=F.cells x i hi
  refine hcps ?_
  clear hcps
  rw [ha]; rfl
 refine ⟨_,closure_eq h3,λ x i hx=>?_⟩
 refine Classical.byContradiction λ hcps=>?_
 obtain ⟨h4,h5⟩:=H.at_ x i hx
 obtain ⟨a,ha,ta⟩:=F.cells x i h4
 refine hcps ?_
 clear hcps
 rcases closL_lookup env x scope.names [] (.inl rfl) with ⟨_,j⟩ | e
 ·exact absurd rfl (j _ h5)
 ·rw [ha] at e; exact ⟨a,e,ta⟩
section
variable {prog:Program} {w:World} {h₀:Heap} {K:Tbl} {ro ro':Bool} {f:Frm} {env:Env} {es:List Env} {A:Around} {T T0:Tags} {c c0:Cells} {l l0:Locs} {s s0:Shared} {d:Nat} {f':Frm} {env':Env} {l':Locs}
theorem At.okE {α β:Type} {t:Sem α} {m:M β} {RR:Tags → β → α → Prop} {v:β} {c':Cells} {l':Locs} {E:Value → Shared → Prop} (h:At (w:=w) h₀ K ro f env es prog A T c l s t m RR) (e:m c l = .ok v c' l') :
  wpAny (model prog w) A t (OutR (w:=w) h₀ ro f env es RR T s c' l' v) E s:=by
 unfold At at h
 rw [e] at h
 exact wpAny_mono (h (λ q=>nomatch q)) (λ zz zz q=>q) λ zz zz q=>q.elim
theorem Out.inner {T':Tags} {c':Cells} {l1:Locs} {s':Shared} (P:Pre (w:=w) h₀ T0 c0 l0 s0 f env es) (o:Out (w:=w) h₀ ro f env es T0 s0 T c l s) (y:Out (w:=w) h₀ ro' f' env' es T s T' c' l1 s') (hC:s0.heap.get? env'.locals = none) (hro:ro = true → ro' = true) :
  Out (w:=w) h₀ ro f env es T0 s0 T' c' l s':=by
 have S:Step ro (frsOf es) env.locals T0 s0.heap T' s'.heap:=by
  have nC:∀ {a ob},s0.heap.get? a = some ob → a ≠ env'.locals:=λ e q=>by subst q; rw [e] at hC; cases hC
  refine ⟨λ a ha=>y.step.live a (o.step.live a ha),λ a ha=>(y.step.tag a (o.step.live a ha)).trans (o.step.tag a ha),λ a ob hL hf e=>?_,λ hr a ob hL e=>y.step.rest (hro hr) a ob (nC e) (o.step.rest hr a ob hL e)⟩
  refine Classical.byContradiction λ hcps=>?_
  obtain ⟨sl,e1,e2⟩:=o.step.keep a ob hL hf e
  obtain ⟨sl',e3,e4⟩:=y.step.keep a _ (nC e) ((o.step.tag a (liveOf e)).trans hf) e1
  refine hcps ?_
  clear hcps
  exact ⟨sl',e3,λ hF=>(e4 hF).trans (e2 hF)⟩
 have le:T.le T':=y.step.le w o.pre.wd
 have nL:env.locals ≠ env'.locals:=λ q=>by have:=P.loc.live; rw [q,hC] at this; cases this
 have L:Loc T' s'.heap env l:=o.pre.loc.step y.step le nL
 exact ⟨S,o.same.trans y.same,y.pre.wd,L,y.pre.frs,o.pre.frm.mono le⟩
theorem frs_live {h:Heap} (Fs:Frs T h es):∀ a ∈ frsOf es,(h.get? a).isSome = true:=λ a hm=>by
 refine Classical.byContradiction λ hcps=>?_
 obtain ⟨e,he,q⟩:=List.mem_filterMap.mp hm
 obtain ⟨zz,F,o,hf,zz,ho,zz⟩:=Fs e he
 refine hcps ?_
 clear hcps
 rw [hf] at q; cases q
 exact liveOf ho
end
end Mine
end
section
open PySem PySem.W PySem.Calls PyProof.Rows Builtin Builtin.ObjectAttr
set_option backward.match.sparseCases false
namespace Mine
section
variable {prog:Program} {w:World} {h₀:Heap} {K:Tbl} {ro ro':Bool} {f:Frm} {env:Env} {es:List Env} {A:Around} {T T0:Tags} {c c0:Cells} {l l0:Locs} {s s0:Shared} {d:Nat} {f':Frm} {env':Env} {l':Locs} {cf:Callee} {n:Nat} {ac:Option (Addr × List PV)}
inductive BndOk {α β:Type} (m:M α) (g:α → M β) (c:Cells) (l:Locs) (v:β) (c':Cells) (l':Locs):Prop
 | mk (a:α) (c1:Cells) (l1:Locs) (e:m c l = .ok a c1 l1) (h:g a c1 l1 = .ok v c' l'):BndOk m g c l v c' l'
theorem bnd_split {α β:Type} {m:M α} {g:α → M β} {v:β} {c':Cells} {l':Locs} (h:bnd m g c l = .ok v c' l'):BndOk m g c l v c' l':=by
 unfold bnd at h
 induction e:m c l using Mine.R.casesOn with
 | ok a c1 l1=>rw [e] at h; exact ⟨a,c1,l1,e,h⟩
 | exc=>rw [e] at h; cases h
 | fail=>rw [e] at h; cases h
inductive CollOk (it:It) (g:PV → M PV) (k i:Nat) (c:Cells) (l:Locs) (vs:List PV) (c2:Cells) (l2:Locs):Prop
 | none (hi:itemAt c it i = some none) (hv:vs = []) (hc:c2 = c) (hl:l2 = l):CollOk it g k i c l vs c2 l2
 | some (p x:PV) (c1:Cells) (l1:Locs) (rest:List PV) (hi:itemAt c it i = some (some p)) (hx:g p c l = .ok x c1 l1) (hr:collIt it g k (i + 1) c1 l1 = .ok rest c2 l2) (hv:vs = x :: rest):CollOk it g k i c l vs c2 l2
theorem coll_split {it:It} {g:PV → M PV} {k i:Nat} {vs:List PV} {c2:Cells} {l2:Locs} (h:collIt it g (k + 1) i c l = .ok vs c2 l2):CollOk it g k i c l vs c2 l2:=by
 have h:onItm (itemAt c it i) (Mine.ret []) (λ v=>bnd (g v) λ x=>bnd (collIt it g k (i + 1)) λ r=>Mine.ret (x :: r)) c l = .ok vs c2 l2:=h
 induction hi:itemAt c it i using Option.casesOn with
 | none=>rw [hi] at h; cases h
 | some r=>
  rw [hi] at h
  induction r using Option.casesOn with
  | none=>cases h; exact .none hi rfl rfl rfl
  | some p=>
   induction bnd_split h using Mine.BndOk.casesOn with
   | mk x c1 l1 hx h=>
    induction bnd_split h using Mine.BndOk.casesOn with
    | mk rest cr lr hr hf=>cases hf; exact .some p x c1 l1 rest hi hx hr rfl
theorem Run.inner {T':Tags} {c':Cells} {l1:Locs} {s':Shared} (P:Pre (w:=w) h₀ T0 c0 l0 s0 f env es) (o:Run (w:=w) h₀ ro f env es T0 s0 l f' env' ac T c l' s) (y:Out (w:=w) h₀ ro' f' env' es T s T' c' l1 s') (hC:s0.heap.get? env'.locals = none) (hro:ro = true → ro' = true) :
  Run (w:=w) h₀ ro f env es T0 s0 l f' env' ac T' c' l1 s':=
 ⟨o.out.inner P y hC hro,y.pre,λ D vs e=>(o.acc D vs e).step y.step (y.le o.pre) o.pre.loc.ns.choose_spec.1 (frs_live P.frs)⟩
theorem Run.it {T':Tags} {c':Cells} {l1:Locs} {s':Shared} {J:Addr} {it:It} {i:Nat} (P:Pre (w:=w) h₀ T0 c0 l0 s0 f env es) (o:Run (w:=w) h₀ ro f env es T0 s0 l f' env' ac T c l' s) (y:Out (w:=w) h₀ ro' f' env' es T s T' c' l1 s') (hro2:it.isRo = true → ro' = true) (h:ItAt s0.heap T s.heap J it i):ItAt s0.heap T' s'.heap J it i:=
 h.step y.step (y.le o.pre) o.pre.loc.ns.choose_spec.1 o.pre.loc.free (frs_live P.frs) hro2
theorem ItAt.keepBut {h0 h h':Heap} {T:Tags} {J D:Addr} {it:It} {i:Nat} {as:Array Value} {m:Nat} (x:ItAt h0 T h J it i) (gD:h.get? D = some (lstObj as m)) (hs:Heap.SameBut D h h'):ItAt h0 T h' J it i:=
 x.map ⟨Tags.le.refl T,λ a o zz e p=>(hs.2 a λ q=>Plain.notLst ⟨o,e,p⟩ (q ▸ gD)).trans e,λ a fr zz=>fr.free⟩ λ zz a j en n zz e=>(hs.2 a λ q=>by
  rw [q,gD] at e
  exact absurd (show "list" = "dict" by injection congrArg Obj.cls (Option.some.inj e)) (by decide)).trans e
theorem Run.app {D:Addr} {vs0:List PV} {x:PV} {u:Value} {as:Array Value} {m m5:Nat} {h5:Heap} (P0:Pre (w:=w) h₀ T0 c0 l0 s0 f env es) (r:Run (w:=w) h₀ ro f env es T0 s0 l f' env' (some (D,vs0)) T c l' s) (fD:Fresh s0.heap T D) (gD:s.heap.get? D = some (lstObj as m)) (rD:RelL T vs0 as.toList)
  (g5:h5.get? D = some (lstObj (as.push u) m5)) (hs5:Heap.SameBut D s.heap h5) (ry:Rel T x u):Run (w:=w) h₀ ro f env es T0 s0 l f' env' (some (D,vs0 ++ [x])) T c l' { s with heap:=h5 }:=by
 have o5:=r.out.touch P0 (S:=λ a=>a = D) (tk:=s.toks) (h':=h5) (λ a e=>e ▸ fD) λ b ob nb eb=>(hs5.2 b nb).trans eb
 have L:Loc T h5 env' l':=r.pre.loc.keep (Tags.le.refl T) rfl λ ob es' ep e hd=>(hs5.2 _ λ q=>by rw [q,gD] at e; cases e; cases hd).trans e
 exact ⟨o5,⟨o5.pre.wd,L,o5.pre.frs,r.pre.frm⟩,λ D' vs' e=>by cases e; exact ⟨as.push u,m5,fD,g5,by rw [Array.toList_push]; exact rD.append (RelL.one ry)⟩⟩
section loop
variable {elt tg iter:Expr} {scope:Scope} {pos:Pos} {it:It} {J D:Addr} {R:Result → Shared → Prop} (I:EvOk prog w h₀ K cf d n) (hA:AOk A d es) (P0:Pre (w:=w) h₀ T0 c0 l0 s0 f env es) (hro:ro = true → ro' = true) (hro2:it.isRo = true → ro' = true) (hC:s0.heap.get? env'.locals = none)
include I hA P0 hro hro2 hC
theorem comp_elem {i:Nat} {T1:Tags} {c1 c2:Cells} {l1 l2:Locs} {s1:Shared} {vs0:List PV} {p x:PV} {u:Value} (r:Run (w:=w) h₀ ro f env es T0 s0 l f' env' (some (D,vs0)) T1 c1 l1 s1) (hi:ItAt s0.heap T1 s1.heap J it i) (ru:Rel T1 p u)
  (e:bnd (stTarget K cf n ro' f' tg p) (λ zz=>evE K cf n ro' f' elt) c1 l1 = .ok x c2 l2) (hsz:vs0.length ≤ sizeLine) {Q:Unit → Shared → Prop} {E:Value → Shared → Prop}
  (hk:∀ T2 s2,Run (w:=w) h₀ ro f env es T0 s0 l f' env' (some (D,vs0 ++ [x])) T2 c2 l2 s2 → ItAt s0.heap T2 s2.heap J it i → Q () s2) :
  wpAny (model prog w) A (assign tg env' u) (λ zz s=>wpAny (model prog w) A (eval elt env' >>= λ y=>call (.builtin "list.append") [.ref D,y] >>= λ zz=>pure ()) Q E s) E s1:=by
 induction bnd_split e using Mine.BndOk.casesOn with
 | mk _ ca la hst hel=>
  refine wpAny_mono (At.okE (I.st ro' f' env' es A T1 c1 l1 s1 tg p u hA r.pre ru) hst) (λ zz s3 h3=>?_) λ zz zz q=>q
  induction h3 using Mine.OutR.casesOn with
  | mk T3 o3 _=>
   have r3:=r.inner P0 o3 hC hro
   refine wpAny_bind (wpAny_mono (At.okE (I.e ro' f' env' es A T3 ca la s3 elt hA r3.pre) hel) (λ y s4 h4=>?_) λ zz zz q=>q)
   induction h4 using Mine.OutR.casesOn with
   | mk T4 o4 ry=>
    have r4:=r3.inner P0 o4 hC hro
    have i4:=r3.it P0 o4 hro2 (r.it P0 o3 hro2 hi)
    induction r4.acc D vs0 rfl using Mine.Acc.casesOn with
    | mk as m fD gD rD=>exact wpAny_bind (wpAny_list_append_plain (items:=as) ⟨m,gD⟩ (λ h5 ⟨m5,g5⟩ hs5=>wpAny_pure (hk _ _ (r4.app P0 fD gD rD g5 hs5 ry) (i4.keepBut gD hs5))) (by rw [rD.size]; exact hsz))
theorem comp_loop (hft:it.fits tg = true) :
  ∀ (k i:Nat) (T:Tags) (c:Cells) (l':Locs) (s:Shared) (vs0:List PV) (vs:List PV) (c2:Cells) (l2:Locs),
   Run (w:=w) h₀ ro f env es T0 s0 l f' env' (some (D,vs0)) T c l' s → ItAt s0.heap T s.heap J it i →
   collIt it (λ v=>bnd (stTarget K cf n ro' f' tg v) λ zz=>evE K cf n ro' f' elt) k i c l' = .ok vs c2 l2 → vs0.length + k ≤ sizeLine →
   (∀ T2 s2,Run (w:=w) h₀ ro f env es T0 s0 l f' env' (some (D,vs0 ++ vs)) T2 c2 l2 s2 → R (.ok .next) s2) →
   codeAny (model prog w) A (.compLoop (.ListComp elt [⟨tg,iter,[],0⟩] scope pos) 0 (.ref J) (.ref D) env') R s:=by
 intro k
 induction k with
 | zero=>intro i T c l' s vs0 vs c2 l2 zz zz h; cases h
 | succ k ih=>
  intro i T c l' s vs0 vs c2 l2 hrun hit hcoll hsz hR
  refine codeAny_of_tree ?_
  show wpAny _ A ((compTurn (.ListComp elt [⟨tg,iter,[],0⟩] scope pos) 0 (.ref J) (.ref D) env').onRaise (λ x=>do noteFrame x env'; theTreesLotGoes x)) _ _ s
  refine wpAny_noted ?_
  rw [compTurn_list1]
  refine wpAny_bind (wpAny_standAt (wpAny_bind ?_))
  induction coll_split hcoll using Mine.CollOk.casesOn with
  | none hi hv hc hl=>
   refine it_none hA P0 hrun hit hft hi λ s1 o=>wpAny_pure (hR T _ ?_)
   rw [hv,hc,hl,List.append_nil]
   exact o
  | some p x c1 l1 rest hi hx hrest hv=>
   refine it_some hA P0 hrun hit hft hi λ u T1 s1 o ru go=>wpAny_bind (go _ _ λ s2 o2 hit2=>wpAny_bind ?_)
   refine wpAny_mono (comp_elem I hA P0 hro hro2 hC o2 hit2 ru hx (by lia) λ T2 s2 r5 i5=>wpAny_pure ⟨rfl,?_⟩) (λ zz zz q=>wpAny_bind q) λ zz zz q=>q
   exact ih (i + 1) T2 c1 l1 _ (vs0 ++ [x]) rest c2 l2 r5 i5 hrest (by rw [List.length_append,List.length_singleton]; lia) λ T2 s2 hr2=>hR T2 s2 (by rw [hv]; exact List.append_assoc vs0 [x] rest ▸ hr2)
end loop
end
end Mine
end
section
open PySem PySem.W PySem.Calls PyProof.Rows Builtin Builtin.ObjectAttr
set_option backward.match.sparseCases false
namespace Mine
theorem entry_itemiter_iter:entryFor table "dict_itemiterator.__iter__" = some Builtin.«dict_keyiterator.__iter__»:=
 entryFor_alias (id':="dict_keyiterator.__iter__") (by kernel_rfl) rfl (by decide +kernel) (by kernel_rfl)
section
variable {prog:Program} {w:World} {h₀:Heap} {K:Tbl} {ro ro':Bool} {f:Frm} {env:Env} {es:List Env} {A:Around} {T T0:Tags} {c c0:Cells} {l l0:Locs} {s s0:Shared} {d:Nat} {f':Frm} {env':Env} {l':Locs} {cf:Callee} {n:Nat} {ac:Option (Addr × List PV)}
theorem it_self {h0:Heap} {J:Addr} {it:It} {i:Nat} (x:ItAt h0 T s.heap J it i) {Q:Value → Shared → Prop} {E:Value → Shared → Prop} (q:Q (.ref J) s):wpAny (model prog w) A (pyIter (.ref J)) Q E s:=by
 induction it using Mine.It.casesOn with
 | lst a=>induction x using Mine.LstIt.casesOn with | mk _ _ _ ho=>exact wpAny_pyIter_listiter ho q
 | fix l=>
  induction x using Mine.FixIt.casesOn with
  | tup _ _ _ _ _ _ ho=>exact wpAny_pyIter_tupleiter ho q
  | lst _ _ _ _ _ _ ho=>exact wpAny_pyIter_listiter ho q
 | rng a b k=>induction x using Mine.RngIt.casesOn with | mk _ _ ho=>exact wpAny_pyIter_rangeiter ho q
 | items a=>
  induction x using Mine.ItmIt.casesOn with
  | mk _ _ _ _ _ _ _ _ ho=>
   have hT:s.TypeIs (.ref J) "dict_itemiterator":=⟨_,ho,rfl⟩
   refine wpAny_pyIter_slot hT PySem.F.slot_dict_itemiterator_iter (wpAny_call_entry PySem.F.slot_dict_itemiterator_iter hT entry_itemiter_iter ?_ (PySem.F.args_dict_itemiterator_iter_1 _))
   show wpAny _ _ (PySem.ret (.ref J)) _ _ s
   exact wpAny_pure ⟨_,rfl,"dict_itemiterator",_,hT,PySem.F.slot_dict_itemiterator_next.lookup,q⟩
 | zip a b=>induction x using Mine.ZipIt.casesOn with | mk _ _ _ _ _ _ _ _ _ _ _ _ _ _ _ _ hz=>exact wpAny_pyIter_zip hz q
structure PlainSc (sc:Scope):Prop where
 kind:sc.kind = .function
 gen:sc.isGenerator = false
 co:sc.isCoroutine = false
 cell:∀ x ∈ sc.names,x.2 ≠ .cell
 loc:∀ x ∈ sc.names,x.2 = .local → sc.names.lookup x.1 = some .local
theorem plain_of {sc:Scope} (h:plainScope sc = true):PlainSc sc:=by
 have h1:=and_l h
 have h4:=λ x hx=>List.all_eq_true.mp (and_r h) x hx
 exact ⟨eq_of_beq (and_l (and_l h1)),not_t (and_r (and_l h1)),not_t (and_r h1),λ x hx=>bne_iff_ne.mp (and_l (h4 x hx)),λ x hx hl=>(Bool.or_eq_true_iff.mp (and_r (h4 x hx))).elim (λ q=>absurd hl (bne_iff_ne.mp q)) eq_of_beq⟩
theorem relabel_eq (F:FrmOk T f env) (scope:Scope):relabel scope env = compScope f.scope scope:=by
 unfold relabel compScope Env.kindOf
 rw [F.scope]
noncomputable abbrev cTurn (K:Tbl) (cf:Callee) (n:Nat) (ro:Bool) (f:Frm) (fc:List (Str × Nat)) (elt tg:Expr) (scope:Scope) (i:It) (v:PV):M PV:=
 bnd (stTarget K cf n (ro || i.isRo) ⟨compScope f.scope scope,fc,none⟩ tg v) λ zz=>evE K cf n (ro || i.isRo) ⟨compScope f.scope scope,fc,none⟩ elt
theorem comp_block {elt tg iter:Expr} {scope:Scope} {pos:Pos} {it:It} {J:Addr} {cl:List (Str × Addr)} {fc:List (Str × Nat)} {vs:List PV} {c2:Cells} {l2:Locs} {RR:Value → Addr → Result → Shared → Prop} {E:Value → Shared → Prop}
  (I:EvOk prog w h₀ K cf d n) (hA:AOk A d es) (P0:Pre (w:=w) h₀ T0 c0 l0 s0 f env es) (o:Out (w:=w) h₀ ro f env es T0 s0 T c l s) (hit:ItAt s0.heap T s.heap J it 0) (hft:it.fits tg = true)
  (hsc:PlainSc scope) (hcl:∀ x i,fc.lookup x = some i → ∃ a,cl.lookup x = some a ∧ T a = .cell i)
  (hcoll:collIt it (cTurn K cf n ro f fc elt tg scope it) turns 0 c [] = .ok vs c2 l2)
  (hRR:∀ D T2 s2 cenv,Run (w:=w) h₀ ro f env es T0 s0 l ⟨compScope f.scope scope,fc,none⟩ cenv (some (D,vs)) T2 c2 l2 s2 → s0.heap.get? cenv.locals = none → RR (.ref D) cenv.locals (.ok .next) s2) :
  wpAny (model prog w) A (newList []) (λ acc s₃=>wpAny (model prog w) A (newFunctionEnv scope env.globals cl [] env.qual none .none (some env)) (λ cenv s₄=>
   codeAny (model prog w) A (.compStart (.ListComp elt [⟨tg,iter,[],0⟩] scope pos) 0 (.ref J) acc { cenv with scope:=relabel scope env }) (RR acc cenv.locals) s₄) E s₃) E s:=by
 refine wpAny_newList (wpAny_newFunctionEnv hsc.cell (λ zz hy=>nomatch hy) (λ h₁ hns₁ hsb₁=>?_) hsc.kind)
 dsimp only at hns₁ hsb₁ ⊢
 generalize hH2:s.heap.push { cls:=.type "list",dict:=none,data:=.seq ([]:List Value).toArray } = H2 at hns₁ hsb₁ ⊢
 have hC:H2.objs.size = s.heap.objs.size + 1:=by rw [← hH2,Heap.size_push]
 have keep:∀ {b ob},H2.get? b = some ob → b < s.heap.objs.size + 1 → h₁.get? b = some ob:=λ {b ob} e lt=>(hsb₁.2 b (hC ▸ Nat.ne_of_lt lt)).trans (Heap.get?_push_of_some _ e)
 have old:∀ b ob,s.heap.get? b = some ob → h₁.get? b = some ob:=λ b ob e=>keep (hH2 ▸ Heap.get?_push_of_some _ e) (Nat.lt_succ_of_lt (Heap.lt_size e))
 have gD:h₁.get? s.heap.objs.size = some (lstObj #[] 0):=keep (hH2 ▸ Heap.get?_push_size _ rfl) (Nat.lt_succ_self _)
 have nC:s.heap.get? H2.objs.size = none:=Heap.get?_none_of_le (by rw [hC]; exact Nat.le_succ _)
 have fC:=o.newer nC
 have o1:=o.trans (o.pre.grow (ro:=ro) (tk:=s.toks) old)
 have F:FrmOk T ⟨compScope f.scope scope,fc,none⟩ (compEnvC scope cl H2.objs.size env):=⟨relabel_eq o.pre.frm scope,hsc.kind,o.pre.frm.glob,o.pre.frm.bi,hcl,(λ zz zz q=>nomatch q),o.pre.frm.base⟩
 have run:Run (w:=w) h₀ ro f env es T0 s0 l ⟨compScope f.scope scope,fc,none⟩ (compEnvC scope cl H2.objs.size env) (some (s.heap.objs.size,[])) T c [] { s with heap:=h₁,toks:=s.toks + 0 }:=
  ⟨o1,⟨o1.pre.wd,⟨fC.free,_,hns₁,λ zz zz q=>nomatch q⟩,o1.pre.frs,F⟩,λ D vs e=>by cases e; exact ⟨#[],0,o.newer (none_size s.heap),gD,RelL.nil⟩⟩
 have hit1:ItAt s0.heap T h₁ J it 0:=hit.step (ro':=true) (Step.grow (Fs:=frsOf es) (L:=env.locals) old) (Tags.le.refl T) o.pre.loc.ns.choose_spec.1 o.pre.loc.free (frs_live P0.frs) (λ zz=>rfl)
 have loop:codeAny (model prog w) A (.compLoop (.ListComp elt [⟨tg,iter,[],0⟩] scope pos) 0 (.ref J) (.ref s.heap.objs.size) (compEnvC scope cl H2.objs.size env)) (RR (.ref s.heap.objs.size) H2.objs.size) { s with heap:=h₁,toks:=s.toks + 0 }:=
  comp_loop I hA P0 (ro:=ro) (ro':=ro || it.isRo) (λ q=>by rw [q,Bool.true_or]) (λ q=>by rw [q,Bool.or_true]) fC.new hft turns 0 T c [] _ [] vs c2 l2 run hit1 hcoll (by rw [sizeLine_eq]; decide) λ T2 s2 r2=>hRR _ T2 s2 _ r2 fC.new
 exact codeAny_compStart_list loop (it_self hit1 loop)
theorem folded_id {e:Expr} (h:isSet e = false) (env:Env) (x:Value):foldedSetIterable e env x = pure x:=by
 induction e using PySem.Expr.casesOn with
 | Set=>cases h
 | _=>rfl
structure DoneR (w:World) (h₀:Heap) (ro:Bool) (f:Frm) (env:Env) (es:List Env) (T0:Tags) (s0:Shared) (l:Locs) (cenv:Env) (D:Addr) (vs:List PV) (T':Tags) (c2:Cells) (s2:Shared):Prop where
 out:Out (w:=w) h₀ ro f env es T0 s0 T' (c2 ++ [.list vs]) l s2
 rel:Rel T' (.ref c2.length) (.ref D)
 free:T' cenv.locals = .free
theorem Run.done {fi:Frm} {cenv:Env} {D:Addr} {vs:List PV} {T2:Tags} {c2:Cells} {l2:Locs} {s2:Shared} (P0:Pre (w:=w) h₀ T0 c0 l0 s0 f env es) (r:Run (w:=w) h₀ ro f env es T0 s0 l fi cenv (some (D,vs)) T2 c2 l2 s2) :
  DoneR w h₀ ro f env es T0 s0 l cenv D vs (T2.put D (.cell c2.length)) c2 s2:=by
 induction r.acc D vs rfl using Mine.Acc.casesOn with
 | mk as m fD gD rD=>
  have le:T2.le (T2.put D (.cell c2.length)):=Tags.le_put _ fD.free
  have o:=Out.fresh (h':=s2.heap) (tk:=s2.toks) P0 r.out fD.new fD.free (Heap.SameBut.refl _ _) (liveOf gD) (x:=.list vs) ⟨D,m,as,Tags.put_self ..,gD,RelL.mono le _ _ rD⟩
  exact ⟨o,⟨D,Tags.put_self ..⟩,(Tags.put_ne _ _ (ns_ne r.pre.loc.ns.choose_spec.1 gD λ zz zz q=>nomatch q).symm).trans r.pre.loc.free⟩
inductive CollIs (r:R (List PV)) (l:Locs) (x:R PV):Prop
 | mk (vs:List PV) (c2:Cells) (l2:Locs) (e:r = .ok vs c2 l2) (h:x = .ok (.ref c2.length) (c2 ++ [.list vs]) l):CollIs r l x
theorem endC_ok {r:R (List PV)} (h:endC l r ≠ .fail):CollIs r l (endC l r):=by
 induction r using Mine.R.casesOn with
 | ok vs c2 l2=>exact ⟨vs,c2,l2,rfl,rfl⟩
 | _=>exact absurd rfl h
theorem comp_use {elt tg iter:Expr} {scope:Scope} {pos p1:Pos} {fc:List (Str × Nat)} {use:Option (Value → Sem Unit)} {Q:Value → Shared → Prop} {E:Value → Shared → Prop}
  (I:EvOk prog w h₀ K cf d n) (hA:AOk A d es) (P:Pre (w:=w) h₀ T c l s f env es) (hset:isSet iter = false) (hsc:plainScope scope = true) (hfc:freeCells f scope.names = some fc) {m:M PV} (hm:m = cprM (isTup tg) (evE K cf n ro f iter) (cTurn K cf n ro f fc elt tg scope))
  (hnf:m c l ≠ .fail) (hE:∀ v s',ER (w:=w) h₀ K ro env es T s (m c l) v s' → E v s')
  (hU:∀ v c' l' u s' T' (cenv:Env),m c l = .ok v c' l' → Out (w:=w) h₀ ro f env es T s T' c' l' s' → Rel T' v u → s.heap.get? cenv.locals = none → (∃ mm,s'.heap.Ns cenv.locals mm) → T' cenv.locals = .free →
   compPost (model prog w) A E use Q u cenv.locals (.ok .next) s') :
  wpAny (model prog w) A (comprehension (.ListComp elt [⟨tg,iter,[],0⟩] scope pos) scope env p1 (newList []) false (eval iter env) use) Q E s:=by
 subst hm
 obtain ⟨cl,hclos,hcl⟩:=closure_of P.frm hfc
 have hS:=plain_of hsc
 refine wpAny_comprehension_free rfl (folded_id hset env) hclos hS.kind hS.loc (At.seqP (I.e ro f env es A T c l s iter hA P) hnf hE λ x c' l' u s1 T1 e1 hb1 o1 rx hg=>?_)
 refine it_seq (ro:=ro) o1.pre rx hg λ i c2 l2 J s2 T2 hb2 o2 hit hg2=>?_
 have hft:i.fits tg = true:=by
  unfold It.fits
  induction e:fitsB (isTup tg) i using Bool.casesOn with
  | true=>rfl
  | false=>rw [e] at hg2; exact absurd rfl hg2
 have hmc:=hb1.trans (hb2.trans (by rw [show fitsB (isTup tg) i = true from hft]; rfl:_ = endC l2 (collIt i (cTurn K cf n ro f fc elt tg scope i) turns 0 c2 [])))
 induction endC_ok (λ q=>hnf (hmc.trans q)) using Mine.CollIs.casesOn with
 | mk vs c3 l3 hcoll he=>
  have o12:=o1.trans o2
  refine comp_block (RR:=λ acc C=>compPost (model prog w) A E use Q acc C) (E:=E) (pos:=pos) (iter:=iter) I hA o1.pre o2 hit hft hS (λ x i hx=>let ⟨a,h1,h2⟩:=hcl x i hx; ⟨a,h1,(o12.le P).cell h2⟩) hcoll λ D T3 s3 cenv r3 hC=>?_
  have D:=r3.done o1.pre
  exact hU _ _ _ _ s3 _ cenv (hmc.trans he) (o1.trans D.out) D.rel (none_older o1.step.live hC) ⟨_,r3.pre.loc.ns.choose_spec.1⟩ D.free
theorem at_comp {elt tg iter:Expr} {scope:Scope} {pos:Pos} {fc:List (Str × Nat)} (I:EvOk prog w h₀ K cf d n) (hA:AOk A d es) (P:Pre (w:=w) h₀ T c l s f env es) (hset:isSet iter = false) (hsc:plainScope scope = true) (hfc:freeCells f scope.names = some fc) :
  At (w:=w) h₀ K ro f env es prog A T c l s (eval (.ListComp elt [⟨tg,iter,[],0⟩] scope pos) env) (cprM (isTup tg) (evE K cf n ro f iter) (cTurn K cf n ro f fc elt tg scope)) RV:=by
 intro hnf
 rw [eval_ListComp]
 refine comp_use I hA P hset hsc hfc rfl hnf (λ zz zz q=>q) λ v c' l' u s' T' cenv e o r hC ⟨mm,hn⟩ tC=>?_
 rw [e]
 exact ⟨mm,hn,λ h' hs'=>⟨T',o.touch P (S:=λ a=>a = cenv.locals) (tk:=s'.toks) (h':=h') (λ a q=>q ▸ ⟨hC,tC⟩) λ b ob nb eb=>(hs'.2 b nb).trans eb,r⟩⟩
end
end Mine
end
section
open PySem PySem.W PySem.Calls PyProof.Rows Builtin Builtin.ObjectAttr
set_option backward.match.sparseCases false
namespace Mine
noncomputable def BMain (h:Heap) (mg:Str → Option Value):Prop:=∃ bm ob,mg "__builtins__" = some (.ref bm) ∧ bm ≠ builtinsNs ∧ h.get? bm = some ob ∧ ob.cls = .type "module" ∧ ob.dict = some builtinsNs ∧ ob.data = .plain
theorem codeAmong_app {pos p2:Pos} {c v:Value}:∀ (l:List Value),TriplesOk l → codeAmong p2 (l ++ [rawInt pos.line,rawInt pos.col,c]) = some v → codeAmong p2 l = some v ∨ v = c:=by
 intro l h e
 fun_induction TriplesOk l with
 | case1=>
  simp only [List.nil_append,codeAmong,rawInt] at e
  split at e
  ·injection e with e; exact .inr e.symm
  ·cases e
 | case2 a t b u x rest ih=>
  simp only [List.cons_append,codeAmong] at e ⊢
  split at e
  ·rename_i q; rw [if_pos q]; exact .inl e
  ·rename_i q; rw [if_neg q]; exact ih h e
 | case3 l h1 h2=>exact h.elim
section
variable {w:World} {h₀ h h':Heap} {T:Tags} {c:Cells}
theorem Wd.tabPut (W:Wd w h₀ T c h) {P cd c':Addr} {q:Str} {ps:Array Value} {oc:Obj} {pos:Pos} {cvs:Array Value} {tq:Tok} (tP:T P = .tab cd q) (hP:h.get? P = some (tabObj ps)) (hx:Heap.ExtBut P h h') (hc:h.get? c' = none) (hoc:h'.get? c' = some oc)
  (hd:oc.data = .fields cvs) (hq:cvs[1]? = some (.str q tq)) (htb:h'.get? P = some (tabObj (ps ++ #[rawInt pos.line,rawInt pos.col,.ref c']))) (tc:T c' = .free):Wd w h₀ (T.put c' (.froz oc)) c h':=by
 have le:T.le (T.put c' (.froz oc)):=Tags.le_put _ tc
 have nP:∀ a o,T a = .froz o → a ≠ P:=λ a o e q=>by subst q; rw [tP] at e; cases e
 have nPc:∀ a i,T a = .cell i ∨ T a = .sub i → a ≠ P:=λ a i e q=>by subst q; rw [tP] at e; rcases e with e | e <;> cases e
 have back:∀ {z t},(∀ q,t ≠ .froz q) → T.put c' (.froz oc) z = t → T z = t:=λ {z t} ht hz=>by
  by_cases q:z = c'
  ·subst q; rw [T.put_self] at hz; exact absurd hz.symm (ht oc)
  ·rw [T.put_ne _ q] at hz; exact hz
 refine ⟨λ b ob z=>le.froz (W.old b ob z),λ b hb=>?_,λ b ob z=>?_,λ i x z=>(W.cells i x z).keep w le λ a o ha e=>hx a o (nPc a i ha) e,λ x y i hx hy=>W.uniq x y i (back (λ zz q=>nomatch q) hx) (back (λ zz q=>nomatch q) hy),λ b i hb=>W.ids b i (hb.imp (back λ zz q=>nomatch q) (back λ zz q=>nomatch q)),λ P' cd' q' z=>?_⟩
 ·by_cases z:b = c'
  ·subst z; rw [hoc]; rfl
  ·rw [T.put_ne _ z] at hb
   by_cases z2:b = P
   ·subst z2; rw [htb]; rfl
   ·refine Classical.byContradiction λ hcps=>?_
    obtain ⟨ob,e⟩:=Option.isSome_iff_exists.mp (W.live b hb)
    refine hcps ?_
    clear hcps
    rw [hx b ob z2 e]; rfl
 ·by_cases z2:b = c'
  ·subst z2; rw [T.put_self] at z; cases z; exact hoc
  ·rw [T.put_ne _ z2] at z; exact hx b ob (nP b ob z) (W.froz b ob z)
 ·have z:T P' = .tab cd' q':=back (λ zz q=>nomatch q) z
  refine Classical.byContradiction λ hcps=>?_
  obtain ⟨h1,ps',h2,h3,h4⟩:=W.tabs P' cd' q' z
  refine hcps ?_
  clear hcps
  by_cases e:P' = P
  ·subst e
   rw [tP] at z; cases z
   rw [hP] at h2; cases h2
   refine ⟨h1,_,htb,?_,λ pos' v hv=>?_⟩
   ·rw [Array.toList_append]; exact TriplesOk_snoc _ _ _ _ h3
   ·rw [Array.toList_append] at hv
    rcases codeAmong_app _ h3 hv with hv | rfl
    ·exact (h4 pos' v hv).mono le
    ·exact ⟨c',oc,cvs,tq,Tags.put_self ..,hd,hq⟩
  ·exact ⟨h1,ps',hx P' _ e h2,h3,λ pos' v hv=>(h4 pos' v hv).mono le⟩
end
section
variable {prog:Program} {w:World} {h₀:Heap} {K:Tbl} {ro ro':Bool} {f:Frm} {env:Env} {es:List Env} {A:Around} {T T0:Tags} {c c0:Cells} {l l0:Locs} {s s0:Shared} {d:Nat} {mg mb:Str → Option Value}
theorem lam_fin {b:Expr} {sc:Scope} {fc:List (Str × Nat)} {cl:List (Str × Addr)} {nm:Value} {T1:Tags} {h1:Heap} {tk:Nat} {cv ctv:Value} (P:Pre (w:=w) h₀ T c l s f env es) (hcl:∀ x i,fc.lookup x = some i → ∃ a,cl.lookup x = some a ∧ T a = .cell i) (o1:Out (w:=w) h₀ false f env es T s T1 c l { s with heap:=h1,toks:=tk }) (hcv:CodeFz T1 (env.qual ++ "<lambda>") cv) :
  OutR (w:=w) h₀ false f env es RV T s c l (.clo b sc fc) (.ref h1.objs.size) { s with heap:=h1.push { cls:=.type "function",data:=.func (kla_fn "<lambda>" (env.qual ++ "<lambda>") ⟨[],[],none,[],[],none,[]⟩ b sc cl nm cv ctv) },toks:=tk }:=by
 have o2:=o1.pre.froz (ro:=false) (o:={ cls:=.type "function",data:=.func (kla_fn "<lambda>" (env.qual ++ "<lambda>") ⟨[],[],none,[],[],none,[]⟩ b sc cl nm cv ctv) }) rfl (tk:=tk)
 have le:=o2.le o1.pre
 exact ⟨_,o1.trans o2,LamFz.mk _ _ (Tags.put_self ..) ⟨rfl,rfl,rfl,rfl,rfl,rfl,rfl,hcv.mono le,λ x i hx=>let ⟨a,h1,h2⟩:=hcl x i hx; ⟨a,h1,le.cell ((o1.le P).cell h2)⟩⟩⟩
theorem BMain.at_ {P:Addr} (B:BMain h₀ mg) (G:h₀.Ns mainGlobals mg) {h:Heap} (kp:∀ b o,h₀.get? b = some o → h.get? b = some o) (nP:∀ {a o},h₀.get? a = some o → a ≠ P):h.BuiltinsAt mg P:=by
 refine Classical.byContradiction λ hcps=>?_
 obtain ⟨bm,ob,b1,b2,b3,b4,b5,b6⟩:=B
 refine hcps ?_
 clear hcps
 refine ⟨bm,ob,b1,b2,λ q=>?_,nP b3,kp _ _ b3,b4,b5,b6⟩
 refine Classical.byContradiction λ hcps=>?_
 obtain ⟨o,es',ep,e,hd,zz⟩:=G
 refine hcps ?_
 clear hcps
 rw [q,e] at b3; cases b3; cases hd.symm.trans b6
theorem at_lam (G:GlobOk h₀ K mg mb) (B:BMain h₀ mg) (P:Pre (w:=w) h₀ T c l s f env es) {b:Expr} {sc:Scope} {pos:Pos} {fc:List (Str × Nat)} (hfc:freeCells f sc.names = some fc) (hro:ro = false) {cp:Addr × Addr} (htab:f.tab = some cp) :
  At (w:=w) h₀ K ro f env es prog A T c l s (eval (.Lambda ⟨[],[],none,[],[],none,[]⟩ b sc pos) env) (Mine.ret (.clo b sc fc)) RV:=by
 refine Classical.byContradiction λ hcps=>?_
 obtain ⟨cd,Pt⟩:=cp
 refine hcps ?_
 clear hcps
 subst hro
 refine Classical.byContradiction λ hcps=>?_
 obtain ⟨cl,hclos,hcl⟩:=closure_of P.frm hfc
 obtain ⟨hcode,tP⟩:=P.frm.tab cd Pt htab
 obtain ⟨hC,ps,hP,htr,hvs⟩:=P.wd.tabs Pt cd _ tP
 refine hcps ?_
 clear hcps
 have kp:=P.wd.keeps w
 have hg:=G.g.keeps kp
 have nP:∀ {a o},h₀.get? a = some o → a ≠ Pt:=λ e q=>by have:=P.wd.old _ _ e; rw [q,tP] at this; cases this
 have hb:=B.at_ G.g kp nP
 have hC':=hC.keeps kp
 refine At.ok (v:=.clo b sc fc) rfl λ E=>?_
 show wpAny _ _ (makeFunction "<lambda>" (env.qual ++ "<lambda>") ⟨[],[],none,[],[],none,[]⟩ (.expr b) sc env [] [] [] pos pos.line) _ E s
 induction hca:codeAmong pos ps.toList using Option.casesOn with
 | some cv=>exact kla_makeFunctionHit hclos P.frm.glob hg hcode hC' hP htr hca hb λ ctv h' tk hk hsz=>lam_fin P hcl (P.grow hk) (hvs pos cv hca)
 | none=>
  refine kla_makeFunction hclos P.frm.glob hg hcode hC' hP htr hca (let ⟨o,_,_,e,_⟩:=G.g; nP e) hb λ c' ctv h' tk hx hge hlt hrec htb=>?_
  refine Classical.byContradiction λ hcps=>?_
  obtain ⟨c₂,oc,vs,t,e2,hoc,hd,hv⟩:=hrec
  refine hcps ?_
  clear hcps
  cases e2
  have hcn:s.heap.get? c' = none:=Heap.get?_none_of_le hge
  have tc:T c' = .free:=P.none_free hcn
  have le:T.le (T.put c' (.froz oc)):=Tags.le_put _ tc
  have S:Step false (frsOf es) env.locals T s.heap (T.put c' (.froz oc)) h':=by
   refine ⟨λ a ha=>?_,λ a ha=>T.put_ne _ (λ q=>by subst q; rw [hcn] at ha; cases ha),λ a ob zz hf e=>⟨ob.slots,hx a ob (λ q=>by subst q; rw [tP] at hf; cases hf) e,λ zz=>rfl⟩,λ q=>nomatch q⟩
   by_cases q:a = Pt
   ·subst q; exact liveOf htb
   ·refine Classical.byContradiction λ hcps=>?_
    obtain ⟨ob,e⟩:=Option.isSome_iff_exists.mp ha
    refine hcps ?_
    clear hcps
    exact liveOf (hx a ob q e)
  have nL:env.locals ≠ Pt:=λ q=>by have:=P.loc.free; rw [q,tP] at this; cases this
  have L:Loc (T.put c' (.froz oc)) h' env l:=P.loc.keep le (S.tag _ P.loc.live) λ zz zz zz e zz=>hx _ _ nL e
  exact lam_fin P hcl (tk:=tk) ⟨S,⟨_,_,rfl⟩,P.wd.tabPut tP hP hx hcn hoc hd hv htb tc,L,P.frs.step S L,P.frm.mono le⟩ ⟨c',oc,vs,t,Tags.put_self ..,hd,hv⟩
end
end Mine
end
section
open PySem PySem.W PySem.Calls PyProof.Rows Builtin Builtin.ObjectAttr
set_option backward.match.sparseCases false
namespace Mine
theorem apart_new (S l1 l2:Nat) (h1:l1 < S) (h2:l2 < S):ZipApart (S + 4) (S + 2) (S + 3) S (S + 1) l1 l2:=by
 have up:∀ k l,l < S → (l:Nat) ≠ S + k:=λ k l h q=>absurd (q ▸ h:S + k < S) (Nat.not_lt.mpr (Nat.le_add_right _ _))
 have ne:∀ i j,i ≠ j → S + i ≠ S + j:=λ i j h q=>h (Nat.add_left_cancel q)
 constructor <;> first | exact ne _ _ (by decide) | exact ne 0 _ (by decide) | exact ne _ 0 (by decide) | exact up _ _ h1 | exact up 0 _ h1 | exact up _ _ h2 | exact up 0 _ h2
section
variable {prog:Program} {w:World} {h₀:Heap} {K:Tbl} {ro ro':Bool} {f:Frm} {env:Env} {es outer:List Env} {A:Around} {T T0:Tags} {c c0:Cells} {l l0 l':Locs} {s s0:Shared} {d:Nat} {cf:Callee} {n:Nat} {mg mb:Str → Option Value} {X:Frag} {e:Addr}
theorem zip_made (P:Pre (w:=w) h₀ T c l s f env es) {a b:Nat} {u v:Value} {xs ys:List PV} (hu:RefC T a u) (hv:RefC T b v) (hxs:c[a]? = some (.list xs)) (hys:c[b]? = some (.list ys)) {E:Value → Shared → Prop} {Q:Value → Shared → Prop}
  (hq:∀ J h',(∀ b o,s.heap.get? b = some o → h'.get? b = some o) → ItAt s.heap T h' J (.zip a b) 0 → Q (.ref J) { s with heap:=h' }) :
  wpAny (model prog w) A (call (.type "zip") [u,v]) Q E s:=by
 induction P.lst hu hxs using Mine.IsLst.casesOn with
 | mk l1 n1 as t1 g1 r1=>
  induction P.lst hv hys using Mine.IsLst.casesOn with
  | mk l2 n2 bs t2 g2 r2=>
   refine call_zip_2 (lstAt g1) (lstAt g2) λ h' hz hTI hTO h1 h2 hsz hk=>?_
   have fr:∀ k,Fresh s.heap T (s.heap.objs.size + k):=λ k=>(let hn:=Heap.get?_none_of_le (Nat.le_add_right _ _); ⟨hn,P.none_free hn⟩)
   exact hq _ h' hk ⟨_,_,_,_,l1,l2,_,_,fr 4,fr 2,fr 3,fr 0,fr 1,t1,t2,apart_new _ _ _ (Heap.lt_size g1) (Heap.lt_size g2),hz,hTI,hTO,h1,h2⟩
noncomputable abbrev z3 {δ:Type} (mz mp mq:M PV) (g:PV → PV → PV → M δ):M δ:=bnd mz λ zv=>bnd mp λ x=>bnd mq λ y=>g zv x y
inductive ZipGo (c:Cells) (zv x y:PV):Prop
 | mk (a b:Nat) (xs ys:List PV) (hz:zv = .val (.type "zip")) (ha:x = .ref a) (hb:y = .ref b) (hx:c[a]? = some (.list xs)) (hy:c[b]? = some (.list ys)):ZipGo c zv x y
theorem wpAny_spliced {x:Sem Value} {rest:List (Bool × Sem Value)} {Q:List Value → Shared → Prop} {E:Value → Shared → Prop} (h:wpAny (model prog w) A x (λ v s'=>wpAny (model prog w) A (spliced rest) (λ vs s'=>Q (v :: vs) s') E s') E s):wpAny (model prog w) A (spliced ((false,x) :: rest)) Q E s:=by
 rw [spliced]
 show wpAny _ _ (x >>= λ v=>holding [v] (spliced rest) >>= λ r=>pure ([v] ++ r)) _ _ _
 exact wpAny_bind (wpAny_mono h (λ v s' q=>wpAny_bind (wpAny_holding (wpAny_mono q (λ zz zz q=>wpAny_pure q) λ zz zz q=>q))) λ zz zz q=>q)
theorem zip_wp {δ:Type} {mz mp mq:M PV} (P:Pre (w:=w) h₀ T c l s f env es) {p q:Expr} {p1 p2:Pos} (hp:notStar p = true) (hq:notStar q = true) (hz:At (w:=w) h₀ K ro f env es prog A T c l s (eval (.Name "zip" p1) env) mz RV)
  (hmp:∀ T c l s,Pre (w:=w) h₀ T c l s f env es → At (w:=w) h₀ K ro f env es prog A T c l s (eval p env) mp RV) (hmq:∀ T c l s,Pre (w:=w) h₀ T c l s f env es → At (w:=w) h₀ K ro f env es prog A T c l s (eval q env) mq RV)
  {g:PV → PV → PV → M δ} {Q E:Value → Shared → Prop} (hnf:z3 mz mp mq g c l ≠ .fail) (hg:∀ zv x y c l,g zv x y c l ≠ .fail → ZipGo c zv x y)
  (hE:∀ v s',ER (w:=w) h₀ K ro env es T s (z3 mz mp mq g c l) v s' → E v s')
  (hk:∀ a b xs ys c' l' J T' s1 s2,z3 mz mp mq g c l = g (.val (.type "zip")) (.ref a) (.ref b) c' l' →
   Out (w:=w) h₀ ro f env es T s T' c' l' s1 → Out (w:=w) h₀ ro f env es T' s1 T' c' l' s2 → c'[a]? = some (.list xs) → c'[b]? = some (.list ys) → ItAt s1.heap T' s2.heap J (.zip a b) 0 → (∀ bb ob,s1.heap.get? bb = some ob → s2.heap.get? bb = some ob) → g (.val (.type "zip")) (.ref a) (.ref b) c' l' ≠ .fail → Q (.ref J) s2) :
  wpAny (model prog w) A (eval (.Call (.Name "zip" p1) [p,q] [] p2) env) Q E s:=by
 have hst:(backTo p2 (starEach [p,q] env)).any (·.1) = false:=(star_none (as:=[p,q]) (by rw [List.all_cons,List.all_cons,hp,hq]; rfl)).1
 rw [arm_eval_Call_Name']
 refine wpAny_bind (At.seqP hz hnf hE λ zv c1 l1 u s1 T1 e1 hb1 o1 r1 hg1=>?_)
 refine callWith_of (P:=λ h=>KeepOk (model prog w) h u) (by rw [hst]; rfl) (λ zz h=>h) (args_plain hst ?_)
 rw [back_cons hp,back_cons hq]
 refine wpAny_spliced (At.seqP (hmp _ _ _ _ o1.pre) hg1 (λ v s' z=>hE v s' ((show z3 mz mp mq g c l = _ from hb1) ▸ z.trans o1)) λ x c2 l2 ux s2 T2 e2 hb2 o2 r2 hg2=>wpAny_spliced ?_)
 refine At.seqP (hmq _ _ _ _ o2.pre) hg2 (λ v s' z=>hE v s' ((show z3 mz mp mq g c l = _ from hb1.trans hb2) ▸ (z.trans o2).trans o1)) λ y c3 l3 uy s3 T3 e3 hb3 o3 r3 hg3=>?_
 show wpAny _ _ (pure []) _ _ _
 refine wpAny_pure ?_
 have hb:=hb1.trans (hb2.trans hb3)
 induction hg _ _ _ _ _ hg3 using Mine.ZipGo.casesOn with
 | mk a b xs ys hz' ha hb' hxs hys=>
  subst hz' ha hb'
  subst r1
  exact ⟨keep_type,zip_made o3.pre (Rel.mono (o3.le o2.pre) _ _ r2) r3 hxs hys λ J h' hkp hit=>hk a b xs ys c3 l3 J T3 s3 _ hb ((o1.trans o2).trans o3) (o3.pre.grow (tk:=s3.toks) hkp) hxs hys hit hkp hg3⟩
end
end Mine
end
section
open PySem PySem.W PySem.Calls PyProof.Rows Builtin Builtin.ObjectAttr
set_option backward.match.sparseCases false
namespace Mine
inductive ZipB (h:Heap) (z TI TO i1 i2:Addr):Prop
 | mk (t:Nat) (f1:Value) (ot:Obj) (hz:h.get? z = some (zipObj (rawInt t) f1 TI TO)) (ht:h.get? t = some ot) (nz:t ≠ z) (n1:t ≠ i1) (n2:t ≠ i2):ZipB h z TI TO i1 i2
section
variable {prog:Program} {w:World} {A:Around} {E:Value → Shared → Prop} {s:Shared}
theorem wpAny_loadIfAlive {M:Model} {a:Addr} {Q:Option Obj → Shared → Prop} (h:Q (s.heap.get? a) s):wpAny M A (loadIfAlive a) Q E s:=λ Γ p _=>by
 unfold loadIfAlive
 rw [Sem.wp_loadIfAlive]
 exact h
theorem owned_held {z TI TO i1 i2:Addr} {Q:Bool → Shared → Prop} (hz:ZipB s.heap z TI TO i1 i2) (h:∀ h',ZipB h' z TI TO i1 i2 → Heap.SameBut z s.heap h' → Q false { s with heap:=h' }):wpAny (model prog w) A (Builtin.SmallTypes.ownedTupleIsFree (.ref z)) Q E s:=by
 induction hz using Mine.ZipB.casesOn with
 | mk t f1 ot hz ht hne n1 n2=>
  unfold Builtin.SmallTypes.ownedTupleIsFree
  refine wpAny_bind (wpAny_field hz rfl (x:=rawInt t) rfl ?_)
  show wpAny _ _ (loadIfAlive ((t:Int).toNat) >>= _) _ _ _
  refine wpAny_bind (wpAny_loadIfAlive ?_)
  rw [Int.toNat_natCast,ht]
  refine wpAny_bind (wpAny_field hz rfl (x:=f1) rfl ?_)
  by_cases hf:(f1 != .bool true) = true
  ·rw [if_pos hf]
   exact wpAny_bind (wpAny_setField_rec hz (show (1:Nat) < 5 from by decide) λ h₁ hz₁ hs₁=>wpAny_pure (h h₁ ⟨t,.bool true,ot,hz₁,hs₁.extBut _ _ hne ht,hne,n1,n2⟩ hs₁))
  ·rw [if_neg hf]
   exact wpAny_pure (h s.heap ⟨t,f1,ot,hz,ht,hne,n1,n2⟩ (Heap.SameBut.refl _ _))
theorem zip_next_item2 {z TI TO i1 i2 l1 l2:Addr} {k1 k2:Nat} {xs ys:Array Value} {x y:Value} {Q:Value → Shared → Prop} (D:ZipApart z TI TO i1 i2 l1 l2)
  (hz:ZipB s.heap z TI TO i1 i2) (hTI:IsPair s.heap TI (.ref i1) (.ref i2))
  (h1:s.heap.IsListIter i1 l1 k1) (h2:s.heap.IsListIter i2 l2 k2) (hl1:s.heap.IsList l1 xs) (hl2:s.heap.IsList l2 ys) (hx:xs[k1]? = some x) (hy:ys[k2]? = some y)
  (hQ:∀ h',ZipB h' z TI TO i1 i2 → h'.IsListIter i1 l1 (k1 + 1) → h'.IsListIter i2 l2 (k2 + 1) → IsPair h' s.heap.objs.size x y →
   (∀ c o,c ≠ z → c ≠ i1 → c ≠ i2 → s.heap.get? c = some o → h'.get? c = some o) → Q (.ref s.heap.objs.size) { s with heap:=h' }) :
  wpAny (model prog w) A (Builtin.«zip.__next__» ⟨[.ref z],[]⟩) (λ fin s'=>∃ v,fin = .done (.ret v) ∧ Q v s') E s:=by
 have hz0:=hz
 obtain ⟨t,f1,ot,hz,ht,hne,n1',n2'⟩:=hz
 show wpAny _ _ (field (.ref z) 2 >>= _) _ _ _
 refine wpAny_bind (wpAny_field hz rfl (x:=.bool false) rfl ?_)
 show wpAny _ _ (field (.ref z) 3 >>= _) _ _ _
 refine wpAny_bind (wpAny_field hz rfl (x:=.ref TI) rfl ?_)
 refine wpAny_bind (wpAny_seqItems hTI rfl ?_)
 show wpAny _ _ (Builtin.SmallTypes.ownedTupleIsFree (.ref z) >>= _) _ _ _
 refine wpAny_bind (owned_held hz0 λ h₁ hz₁ hs₁=>?_)
 have n1:h₁.IsListIter i1 l1 k1:=h1.extBut hs₁.extBut D.i1z
 have n2:h₁.IsListIter i2 l2 k2:=h2.extBut hs₁.extBut D.i2z
 have m1:h₁.IsList l1 xs:=hl1.extBut hs₁.extBut D.l1z
 have m2:h₁.IsList l2 ys:=hl2.extBut hs₁.extBut D.l2z
 show wpAny _ _ (_ >>= _) _ _ _
 rw [← Array.forIn_toList]
 rw [List.forIn_cons]
 refine wpAny_bind (wpAny_bind (wpAny_bind (wpAny_holding ?_)))
 show wpAny _ _ (Builtin.SmallTypes.nextOf (.ref i1) >>= _) _ _ _
 refine wpAny_bind (wpAny_nextOf_list_item n1 m1 hx λ h₂ h1₂ hs₂=>wpAny_pure ?_)
 refine wpAny_pure ?_
 refine wpAny_bind (wpAny_bind (wpAny_holding ?_))
 show wpAny _ _ (Builtin.SmallTypes.nextOf (.ref i2) >>= _) _ _ _
 refine wpAny_bind (wpAny_nextOf_list_item (n2.extBut hs₂.extBut D.i12.symm) (m2.extBut hs₂.extBut D.l2i1) hy λ h₃ h2₃ hs₃=>wpAny_pure ?_)
 refine wpAny_pure ?_
 refine wpAny_pure ?_
 show wpAny _ _ (newTuple [x,y] >>= λ v=>PySem.ret v) _ _ _
 refine wpAny_bind (wpAny_newTuple ?_)
 have hsz:h₃.objs.size = s.heap.objs.size:=by rw [hs₃.1,hs₂.1,hs₁.1]
 obtain ⟨t',f1',ot',hz',ht',hne',hn1',hn2'⟩:=hz₁
 have k3:∀ c o,c ≠ i1 → c ≠ i2 → h₁.get? c = some o → h₃.get? c = some o:=λ c o c1 c2 e=>hs₃.extBut _ _ c2 (hs₂.extBut _ _ c1 e)
 have up:∀ c o,h₃.get? c = some o → (h₃.push { cls:=.type "tuple",data:=.seq #[x,y] }).get? c = some o:=λ c o e=>Heap.get?_push_of_some _ e
 refine wpAny_pure ⟨_,rfl,?_⟩
 show Q (.ref h₃.objs.size) _
 have hT:IsPair (h₃.push { cls:=.type "tuple",data:=.seq #[x,y] }) h₃.objs.size x y:=Heap.get?_push_size _ rfl
 rw [hsz] at hT ⊢
 refine hQ _ ⟨t',f1',ot',up _ _ (k3 _ _ D.i1z.symm D.i2z.symm hz'),up _ _ (k3 _ _ hn1' hn2' ht'),hne',hn1',hn2'⟩ ((h1₂.extBut hs₃.extBut D.i12).at λ o e=>up _ o e) (h2₃.at λ o e=>up _ o e) hT λ c o c1 c2 c3 e=>up _ _ (k3 _ _ c2 c3 (hs₁.extBut _ _ c1 e))
theorem zip_next_end2 {z TI TO i1 i2 l1 l2:Addr} {k1 k2:Nat} {xs ys:Array Value} {Q:PySem.Fin → Shared → Prop} (hh:A.handled = none) (D:ZipApart z TI TO i1 i2 l1 l2)
  (hz:ZipB s.heap z TI TO i1 i2) (hTI:IsPair s.heap TI (.ref i1) (.ref i2))
  (h1:s.heap.IsListIter i1 l1 k1) (h2:s.heap.IsListIter i2 l2 k2) (hl1:s.heap.IsList l1 xs) (hl2:s.heap.IsList l2 ys) (hend:xs[k1]? = none ∨ ys[k2]? = none)
  (hE:∀ h' e,(∀ c o,c ≠ z → c ≠ i1 → c ≠ i2 → s.heap.get? c = some o → h'.get? c = some o) → (∃ o,h'.get? e = some o ∧ o.cls = .type "StopIteration") → E (.ref e) { s with heap:=h' }) :
  wpAny (model prog w) A (Builtin.«zip.__next__» ⟨[.ref z],[]⟩) Q E s:=by
 have hz0:=hz
 obtain ⟨t,f1,ot,hz,ht,hne,n1',n2'⟩:=hz
 show wpAny _ _ (field (.ref z) 2 >>= _) _ _ _
 refine wpAny_bind (wpAny_field hz rfl (x:=.bool false) rfl ?_)
 show wpAny _ _ (field (.ref z) 3 >>= _) _ _ _
 refine wpAny_bind (wpAny_field hz rfl (x:=.ref TI) rfl ?_)
 refine wpAny_bind (wpAny_seqItems hTI rfl ?_)
 show wpAny _ _ (Builtin.SmallTypes.ownedTupleIsFree (.ref z) >>= _) _ _ _
 refine wpAny_bind (owned_held hz0 λ h₁ hz₁ hs₁=>?_)
 have n1:h₁.IsListIter i1 l1 k1:=h1.extBut hs₁.extBut D.i1z
 have n2:h₁.IsListIter i2 l2 k2:=h2.extBut hs₁.extBut D.i2z
 have m1:h₁.IsList l1 xs:=hl1.extBut hs₁.extBut D.l1z
 have m2:h₁.IsList l2 ys:=hl2.extBut hs₁.extBut D.l2z
 show wpAny _ _ (_ >>= _) _ _ _
 rw [← Array.forIn_toList]
 rw [List.forIn_cons]
 refine wpAny_bind (wpAny_bind (wpAny_bind (wpAny_holding ?_)))
 show wpAny _ _ (Builtin.SmallTypes.nextOf (.ref i1) >>= _) _ _ _
 induction hx:xs[k1]? using Option.casesOn with
 | none=>
  refine wpAny_bind (wpAny_nextOf_list_end hh n1 m1 hx λ h₂ e hs₂ he=>?_)
  exact hE h₂ e (λ c o c1 c3 c4 x=>hs₂ _ _ c3 (hs₁.extBut _ _ c1 x)) he
 | some x=>
  have hy:ys[k2]? = none:=by rcases hend with h | h; rw [hx] at h; cases h; exact h
  refine wpAny_bind (wpAny_nextOf_list_item n1 m1 hx λ h₂ h1₂ hs₂=>wpAny_pure ?_)
  refine wpAny_pure ?_
  refine wpAny_bind (wpAny_bind (wpAny_holding ?_))
  show wpAny _ _ (Builtin.SmallTypes.nextOf (.ref i2) >>= _) _ _ _
  refine wpAny_bind (wpAny_nextOf_list_end hh (n2.extBut hs₂.extBut D.i12.symm) (m2.extBut hs₂.extBut D.l2i1) hy λ h₃ e hs₃ he=>?_)
  exact hE h₃ e (λ c o c1 c3 c4 x=>hs₃ _ _ c4 (hs₂.extBut _ _ c3 (hs₁.extBut _ _ c1 x))) he
end
end Mine
end
section
open PySem PySem.W PySem.Calls PyProof.Rows Builtin Builtin.ObjectAttr
set_option backward.match.sparseCases false
namespace Mine
inductive ZState (h:Heap) (z TI TO i1 i2:Addr):Prop
 | new (a b:Value) (q:IsZip h z TI TO .none) (p:IsPair h TO a b):ZState h z TI TO i1 i2
 | on (q:ZipB h z TI TO i1 i2):ZState h z TI TO i1 i2
structure ZS (h:Heap) (z TI TO i1 i2 l1 l2:Addr) (i:Nat):Prop where
 ti:IsPair h TI (.ref i1) (.ref i2)
 j1:h.IsListIter i1 l1 i
 j2:h.IsListIter i2 l2 i
 to:(h.get? TO).isSome = true
 st:ZState h z TI TO i1 i2
theorem ZState.isZip {s:Shared} {z TI TO i1 i2:Addr}:ZState s.heap z TI TO i1 i2 → s.TypeIs (.ref z) "zip"
 | .new _ _ q _=>⟨_,q,rfl⟩
 | .on ⟨_,_,_,q,_,_,_,_⟩=>⟨_,q,rfl⟩
theorem live_at {h h':Heap} {a:Addr} (x:(h.get? a).isSome = true) (k:∀ o,h.get? a = some o → h'.get? a = some o):(h'.get? a).isSome = true:=let ⟨o,e⟩:=Option.isSome_iff_exists.mp x; liveOf (k o e)
theorem live_lt {h:Heap} {a:Addr} (x:(h.get? a).isSome = true):h.objs.size ≠ a:=let ⟨_,e⟩:=Option.isSome_iff_exists.mp x; Nat.ne_of_gt (Heap.lt_size e)
section
variable {prog:Program} {w:World} {A:Around} {E:Value → Shared → Prop} {s:Shared}
theorem ZS.lz {h:Heap} {z TI TO i1 i2 l1 l2:Addr} {i:Nat} (x:ZS h z TI TO i1 i2 l1 l2 i):(h.get? z).isSome = true:=by
 induction x.st using Mine.ZState.casesOn with
 | new _ _ q _=>exact liveOf q
 | on q=>induction q using Mine.ZipB.casesOn with | mk _ _ _ q=>exact liveOf q
theorem ZS.l1 {h:Heap} {z TI TO i1 i2 l1 l2:Addr} {i:Nat} (x:ZS h z TI TO i1 i2 l1 l2 i):(h.get? i1).isSome = true:=(lit_plain x.j1).live
theorem ZS.l2 {h:Heap} {z TI TO i1 i2 l1 l2:Addr} {i:Nat} (x:ZS h z TI TO i1 i2 l1 l2 i):(h.get? i2).isSome = true:=(lit_plain x.j2).live
theorem pyNext_zs_item {z TI TO i1 i2 l1 l2:Addr} {i:Nat} {xs ys:Array Value} {x y:Value} {Q:Option Value → Shared → Prop} (D:ZipApart z TI TO i1 i2 l1 l2) (hz:ZS s.heap z TI TO i1 i2 l1 l2 i)
  (hl1:s.heap.IsList l1 xs) (hl2:s.heap.IsList l2 ys) (hx:xs[i]? = some x) (hy:ys[i]? = some y)
  (hQ:∀ h',ZS h' z TI TO i1 i2 l1 l2 (i + 1) → IsPair h' s.heap.objs.size x y → (∀ c o,c ≠ z → c ≠ TO → c ≠ i1 → c ≠ i2 → s.heap.get? c = some o → h'.get? c = some o) → Q (some (.ref s.heap.objs.size)) { s with heap:=h' }) :
  wpAny (model prog w) A (pyNext (.ref z)) Q E s:=by
 have hT:=hz.st.isZip
 induction hz.st using Mine.ZState.casesOn with
 | new a b q hTO=>
  refine wpAny_pyNext_zip_item D q hz.ti hTO hz.j1 hz.j2 hl1 hl2 hx hy λ h' a1 a2 a3 a4 a5 a6 a7=>?_
  exact hQ h' ⟨a7 _ _ D.TIz D.TITO D.TIi1 D.TIi2 hz.ti,a3,a4,liveOf a2,.on ⟨s.heap.objs.size,.bool false,_,a1,a5,live_lt hz.lz,live_lt hz.l1,live_lt hz.l2⟩⟩ a5 a7
 | on q=>
  unfold pyNext
  exact wpAny_bind (wpAny_attempt (wpAny_callSpecial?_slot (name:=Str.ofString "__next__") hT PySem.F.slot_zip_next
   (wpAny_call_entry PySem.F.slot_zip_next hT PySem.F.entry_zip_next
    (zip_next_item2 D q hz.ti hz.j1 hz.j2 hl1 hl2 hx hy λ h' a1 a2 a3 a4 a5=>wpAny_pure (hQ h' ⟨a5 _ _ D.TIz D.TIi1 D.TIi2 hz.ti,a2,a3,live_at hz.to λ o=>a5 _ o D.TOz D.TOi1 D.TOi2,.on a1⟩ a4 λ c o c1 zz c3 c4 e=>a5 c o c1 c3 c4 e)) (PySem.F.args_zip_next_1 _))))
theorem pyNext_zs_end {z TI TO i1 i2 l1 l2:Addr} {i:Nat} {xs ys:Array Value} {Q:Option Value → Shared → Prop} (hh:A.handled = none) (D:ZipApart z TI TO i1 i2 l1 l2) (hz:ZS s.heap z TI TO i1 i2 l1 l2 i)
  (hl1:s.heap.IsList l1 xs) (hl2:s.heap.IsList l2 ys) (hend:xs[i]? = none ∨ ys[i]? = none)
  (hQ:∀ h',(∀ c o,c ≠ z → c ≠ TO → c ≠ i1 → c ≠ i2 → s.heap.get? c = some o → h'.get? c = some o) → Q none { s with heap:=h' }) :
  wpAny (model prog w) A (pyNext (.ref z)) Q E s:=by
 have hT:=hz.st.isZip
 induction hz.st using Mine.ZState.casesOn with
 | new a b q hTO=>exact wpAny_pyNext_zip_end hh D q hz.ti hTO hz.j1 hz.j2 hl1 hl2 hend hQ
 | on q=>
  unfold pyNext
  refine wpAny_bind (wpAny_attempt (wpAny_callSpecial?_slot (name:=Str.ofString "__next__") hT PySem.F.slot_zip_next
   (wpAny_call_entry PySem.F.slot_zip_next hT PySem.F.entry_zip_next (zip_next_end2 hh D q hz.ti hz.j1 hz.j2 hl1 hl2 hend λ h' e hk he=>?_) (PySem.F.args_zip_next_1 _))))
  obtain ⟨o,ho,hc⟩:=he
  exact wpAny_bind (wpAny_isInstance (T:="StopIteration") (b:=true) ⟨o,ho,hc⟩ isSubtype_stop (wpAny_pure (hQ _ λ c o c1 zz c3 c4 e=>hk c o c1 c3 c4 e)))
structure ZEnv (hb:Heap) (z TI TO i1 i2 l1 l2 S:Addr) (as bs:Array Value):Prop where
 D:ZipApart z TI TO i1 i2 l1 l2
 l1:∃ n,hb.get? l1 = some (lstObj as n)
 l2:∃ n,hb.get? l2 = some (lstObj bs n)
 nz:hb.get? z = none
 nTO:hb.get? TO = none
 n1:hb.get? i1 = none
 n2:hb.get? i2 = none
 nS:hb.get? S = none
 Sz:S ≠ z
 STI:S ≠ TI
 STO:S ≠ TO
 S1:S ≠ i1
 S2:S ≠ i2
theorem apart {h:Heap} {a b:Addr} {o:Obj} (e:h.get? a = some o) (n:h.get? b = none):a ≠ b:=λ q=>by rw [q,n] at e; cases e
theorem ZEnv.old {hb h h':Heap} {z TI TO i1 i2 l1 l2 S:Addr} {as bs:Array Value} (Z:ZEnv hb z TI TO i1 i2 l1 l2 S as bs) (old:∀ b o,hb.get? b = some o → h.get? b = some o) (hk:∀ c o,c ≠ z → c ≠ TO → c ≠ i1 → c ≠ i2 → h.get? c = some o → h'.get? c = some o):∀ b o,hb.get? b = some o → h'.get? b = some o:=λ b o e=>
 hk b o (apart e Z.nz) (apart e Z.nTO) (apart e Z.n1) (apart e Z.n2) (old b o e)
theorem ZEnv.oldS {hb h h':Heap} {z TI TO i1 i2 l1 l2 S:Addr} {as bs:Array Value} (Z:ZEnv hb z TI TO i1 i2 l1 l2 S as bs) (old:∀ b o,hb.get? b = some o → h.get? b = some o) (hk:∀ c o,c ≠ S → h.get? c = some o → h'.get? c = some o):∀ b o,hb.get? b = some o → h'.get? b = some o:=λ b o e=>hk b o (apart e Z.nS) (old b o e)
theorem ZS.keep {hb h h':Heap} {z TI TO i1 i2 l1 l2 S:Addr} {as bs:Array Value} {i:Nat} (x:ZS h z TI TO i1 i2 l1 l2 i) (Z:ZEnv hb z TI TO i1 i2 l1 l2 S as bs) (k:∀ c o,c ≠ S → h.get? c = some o → h'.get? c = some o) (kS:(h'.get? S).isSome = true):ZS h' z TI TO i1 i2 l1 l2 i:=by
 refine ⟨k _ _ Z.STI.symm x.ti,x.j1.at λ o e=>k _ o Z.S1.symm e,x.j2.at λ o e=>k _ o Z.S2.symm e,live_at x.to λ o=>k _ o Z.STO.symm,?_⟩
 induction x.st using Mine.ZState.casesOn with
 | new a b q p=>exact .new a b (k _ _ Z.Sz.symm q) (k _ _ Z.STO.symm p)
 | on q=>
  induction q using Mine.ZipB.casesOn with
  | mk t f1 ot q1 q2 q3 q4 q5=>
   obtain ⟨o,eo⟩:∃ o,h'.get? t = some o:=by
    by_cases e:t = S
    ·exact Option.isSome_iff_exists.mp (e ▸ kS)
    ·exact ⟨ot,k _ _ e q2⟩
   exact .on ⟨t,f1,o,k _ _ Z.Sz.symm q1,eo,q3,q4,q5⟩
inductive TupAt (hb h:Heap) (z TO i1 i2 S:Addr) (as bs:Array Value) (j:Nat) (t:Addr):Prop
 | mk (x y:Value) (hx:as[j]? = some x) (hy:bs[j]? = some y) (e:h.get? t = some (tupObj #[x,y] 0)) (n:hb.get? t = none) (h1:t ≠ z) (h2:t ≠ TO) (h3:t ≠ i1) (h4:t ≠ i2) (h5:t ≠ S):TupAt hb h z TO i1 i2 S as bs j t
structure Tups (hb h:Heap) (z TO i1 i2 S:Addr) (as bs:Array Value) (ts:List Addr):Prop where
 nd:ts.Nodup
 at':∀ (j:Nat) (t:Addr),ts[j]? = some t → TupAt hb h z TO i1 i2 S as bs j t
theorem Tups.keep {hb h h':Heap} {z TO i1 i2 S:Addr} {as bs:Array Value} {ts:List Addr} (x:Tups hb h z TO i1 i2 S as bs ts) (k:∀ c o,c ≠ z → c ≠ TO → c ≠ i1 → c ≠ i2 → c ≠ S → h.get? c = some o → h'.get? c = some o):Tups hb h' z TO i1 i2 S as bs ts:=
 ⟨x.nd,λ j t e=>by induction x.at' j t e using Mine.TupAt.casesOn with | mk a b e1 e2 e3 n q1 q2 q3 q4 q5=>exact ⟨a,b,e1,e2,k _ _ q1 q2 q3 q4 q5 e3,n,q1,q2,q3,q4,q5⟩⟩
theorem Tups.snoc {hb h:Heap} {z TO i1 i2 S t:Addr} {as bs:Array Value} {ts:List Addr} (q:Tups hb h z TO i1 i2 S as bs ts) (T:TupAt hb h z TO i1 i2 S as bs ts.length t) (hnew:t ∉ ts):Tups hb h z TO i1 i2 S as bs (ts ++ [t]):=by
 refine ⟨List.nodup_append.mpr ⟨q.nd,List.nodup_cons.mpr ⟨(λ h=>nomatch h),List.nodup_nil⟩,λ a ha b hb' e=>hnew (List.mem_singleton.mp hb' ▸ e ▸ ha)⟩,λ j u hu=>?_⟩
 by_cases hj:j < ts.length
 ·rw [List.getElem?_append_left hj] at hu; exact q.at' j u hu
 ·rw [List.getElem?_append_right (Nat.le_of_not_lt hj)] at hu
  obtain ⟨h0,hu⟩:=List.getElem?_eq_some_iff.mp hu
  have e:=Nat.sub_eq_zero_iff_le.mp (Nat.lt_one_iff.mp h0)
  cases Nat.le_antisymm (Nat.le_of_not_lt hj) e
  cases List.mem_singleton.mp (hu ▸ List.getElem_mem h0)
  exact T
structure Left (as bs:Array Value) (n i k:Nat):Prop where
 sum:i + k = n
 l1:n ≤ as.size
 l2:n ≤ bs.size
 fin:as.size ≤ n ∨ bs.size ≤ n
theorem Left.off {as bs:Array Value} {n i:Nat} (L:Left as bs n i 0):as[i]? = none ∨ bs[i]? = none:=L.fin.imp (λ h=>Array.getElem?_eq_none_iff.mpr (Nat.le_trans h (Nat.le_of_eq L.sum.symm))) λ h=>Array.getElem?_eq_none_iff.mpr (Nat.le_trans h (Nat.le_of_eq L.sum.symm))
theorem Left.lt {as bs:Array Value} {n i k:Nat} (L:Left as bs n i (k + 1)):i < n:=L.sum ▸ Nat.lt_add_of_pos_right (Nat.succ_pos k)
theorem Left.succ {as bs:Array Value} {n i k:Nat} (L:Left as bs n i (k + 1)):Left as bs n (i + 1) k:=⟨(Nat.succ_add_eq_add_succ i k).trans L.sum,L.l1,L.l2,L.fin⟩
theorem Left.items {as bs:Array Value} {n i k:Nat} (L:Left as bs n i (k + 1)):∃ x y,as[i]? = some x ∧ bs[i]? = some y:=⟨_,_,Array.getElem?_eq_getElem (Nat.lt_of_lt_of_le L.lt L.l1),Array.getElem?_eq_getElem (Nat.lt_of_lt_of_le L.lt L.l2)⟩
theorem Left.start (as bs:Array Value):Left as bs (min as.size bs.size) 0 (min as.size bs.size):=⟨Nat.zero_add _,Nat.min_le_left ..,Nat.min_le_right ..,(Nat.le_total as.size bs.size).imp (λ h=>by rw [Nat.min_eq_left h]; exact Nat.le_refl _) λ h=>by rw [Nat.min_eq_right h]; exact Nat.le_refl _⟩
theorem xloop_zip {hb:Heap} {s0:Shared} {z TI TO i1 i2 l1 l2 S:Addr} {as bs:Array Value} {nn:Nat} {R:Result → Shared → Prop} (hA:A.handled = none) (Z:ZEnv hb z TI TO i1 i2 l1 l2 S as bs) (hsz:as.size ≤ sizeLine)
  (hR:∀ h acc n ts,(∀ b o,hb.get? b = some o → h.get? b = some o) → h.get? S = some (lstObj acc n) → acc.toList = ts.map Value.ref → ts.length = nn → Tups hb h z TO i1 i2 S as bs ts → R (.ok (.ret .none)) { s0 with heap:=h }) :
  ∀ (k:Nat) (h:Heap) (acc:Array Value) (n:Nat) (ts:List Addr),Left as bs nn ts.length k → (∀ b o,hb.get? b = some o → h.get? b = some o) → ZS h z TI TO i1 i2 l1 l2 ts.length → h.get? S = some (lstObj acc n) → acc.toList = ts.map Value.ref → Tups hb h z TO i1 i2 S as bs ts →
   codeAny (model prog w) A (.builtin "list.extend.loop" ⟨[.ref S,.ref z,.none],[]⟩) R { s0 with heap:=h }:=by
 refine Classical.byContradiction λ hcps=>?_
 obtain ⟨n1,e1⟩:=Z.l1
 obtain ⟨n2,e2⟩:=Z.l2
 refine hcps ?_
 clear hcps
 intro k
 induction k with
 | zero=>
  intro h acc n ts L old hz hS ha T
  refine codeAny_builtin PySem.F.entry_extend_loop ?_
  rw [Around.under_plainId PySem.F.plain_extend_loop _]
  exact wpAny_bind (pyNext_zs_end (s:={ s0 with heap:=h }) hA Z.D hz (lstAt (old _ _ e1)) (lstAt (old _ _ e2)) L.off λ h' hk'=>
   wpAny_pure (hR h' acc n ts (Z.old old hk') (hk' _ _ Z.Sz Z.STO Z.S1 Z.S2 hS) ha L.sum (T.keep λ c o c1 c2 c3 c4 zz e=>hk' c o c1 c2 c3 c4 e)))
 | succ k ih=>
  intro h acc n ts L old hz hS ha T
  refine Classical.byContradiction λ hcps=>?_
  obtain ⟨x,y,hx,hy⟩:=L.items
  refine hcps ?_
  clear hcps
  refine codeAny_builtin PySem.F.entry_extend_loop ?_
  rw [Around.under_plainId PySem.F.plain_extend_loop _]
  refine wpAny_bind (pyNext_zs_item (s:={ s0 with heap:=h }) Z.D hz (lstAt (old _ _ e1)) (lstAt (old _ _ e2)) hx hy λ h' hz' hp hk'=>?_)
  have hS':=hk' _ _ Z.Sz Z.STO Z.S1 Z.S2 hS
  have accl:acc.size = ts.length:=by rw [← Array.length_toList,ha,List.length_map]
  have lt:ts.length + 1 ≤ sizeLine:=Nat.le_trans (Nat.lt_of_lt_of_le L.lt L.l1) hsz
  show wpAny _ A.in1 (updateSeq S (·.push (.ref h.objs.size)) >>= _) _ _ _
  refine wpAny_bind (wpAny_updateSeq hS' rfl (wpAny_pure ⟨plainId_quiet PySem.F.plain_extend_loop _,?_⟩) (by rw [accl]; exact Nat.le_of_succ_le lt) (by show (acc.push _).size ≤ _; rw [Array.size_push,accl]; exact Nat.le_succ_of_le lt))
  have upd:∀ c o,c ≠ S → h'.get? c = some o → (h'.update S (Obj.mapSeq (·.push (Value.ref h.objs.size)))).get? c = some o:=λ c o hc e=>(Heap.get?_update_other _ _ (Ne.symm hc)).trans e
  have hup:(h'.update S (Obj.mapSeq (·.push (Value.ref h.objs.size)))).get? S = some (lstObj (acc.push (.ref h.objs.size)) _):=Heap.get?_update_self _ hS' rfl
  have T':=(T.keep (h':=h'.update S (Obj.mapSeq (·.push (Value.ref h.objs.size)))) λ c o c1 c2 c3 c4 c5 e=>upd _ _ c5 (hk' c o c1 c2 c3 c4 e)).snoc
   ⟨x,y,hx,hy,upd _ _ (live_lt (liveOf hS)) hp,none_older (λ a ha=>let ⟨o,e⟩:=Option.isSome_iff_exists.mp ha; liveOf (old a o e)) (none_size h),live_lt hz.lz,live_lt hz.to,live_lt hz.l1,live_lt hz.l2,live_lt (liveOf hS)⟩ λ hm=>by
    refine Classical.byContradiction λ hcps=>?_
    obtain ⟨j,hj⟩:=List.getElem?_of_mem hm
    refine hcps ?_
    clear hcps
    induction T.at' j _ hj using Mine.TupAt.casesOn with | mk _ _ _ _ e=>exact absurd (Heap.lt_size e) (Nat.lt_irrefl _)
  have hl:(ts ++ [h.objs.size]).length = ts.length + 1:=List.length_append
  exact ih _ _ _ (ts ++ [h.objs.size]) (hl ▸ L.succ) (Z.oldS (Z.old old hk') upd) (hl ▸ hz'.keep Z upd (liveOf hup)) hup (by rw [Array.toList_push,ha,List.map_append]; rfl) T'
end
end Mine
end
section
open PySem PySem.W PySem.Calls PyProof.Rows Builtin Builtin.ObjectAttr
set_option backward.match.sparseCases false
namespace Mine
theorem zip_no_len:typeLookup (.type "zip") "__len__" = pure none:=by rw [typeLookup_type,builtinLookup_eq_fast]; kernel_rfl
theorem zip_no_hint:typeLookup (.type "zip") "__length_hint__" = pure none:=by rw [typeLookup_type,builtinLookup_eq_fast]; kernel_rfl
section
variable {prog:Program} {w:World} {A:Around} {E:Value → Shared → Prop} {s:Shared}
theorem extend_zip {hb:Heap} {z TI TO i1 i2 l1 l2 S:Addr} {as bs:Array Value} {n nn:Nat} {R:Result → Shared → Prop} (hA:A.handled = none) (Z:ZEnv hb z TI TO i1 i2 l1 l2 S as bs) (hsz:as.size ≤ sizeLine) (Lf:Left as bs nn 0 nn)
  (hz:ZS s.heap z TI TO i1 i2 l1 l2 0) (hz0:IsZip s.heap z TI TO .none) (old:∀ b o,hb.get? b = some o → s.heap.get? b = some o) (hS:s.heap.get? S = some (lstObj #[] n))
  (hR:∀ h acc n ts,(∀ b o,hb.get? b = some o → h.get? b = some o) → h.get? S = some (lstObj acc n) → acc.toList = ts.map Value.ref → ts.length = nn → Tups hb h z TO i1 i2 S as bs ts → R (.ok (.ret .none)) { s with heap:=h }) :
  wpAny (model prog w) A.in1 (Builtin.List.listExtendWith (.ref S) (.ref z) .none)
   (λ fin s'=>match fin with | .done f=>R (.ok f) s' | .again c'=>c'.quiet = true ∧ codeAny (model prog w) A c' R s') (λ e s'=>R (.error e) s') s:=by
 have hT:s.TypeIs (.ref z) "zip":=⟨_,hz0,rfl⟩
 unfold Builtin.List.listExtendWith
 refine wpAny_bind (wpAny_typeOf hT ?_)
 have h1:Builtin.List.listSameRef (.ref S) (.ref z) = false:=beq_false_of_ne Z.Sz
 have h2:(Value.type "zip" == Value.type "list") = false:=by decide
 have h3:(Value.type "zip" == Value.type "tuple") = false:=by decide
 simp only [h1,h2,h3,Bool.or_false,Bool.false_eq_true,if_false]
 refine wpAny_bind (wpAny_pyIter_zip hz0 ?_)
 refine wpAny_bind (wpAny_holding ?_)
 unfold Builtin.List.listLengthHint
 refine wpAny_bind (wpAny_specialOf hT zip_no_len ?_)
 show wpAny _ A.in1 (specialOf (Value.ref z) (Str.ofString "__length_hint__") >>= _) _ _ _
 refine wpAny_bind (wpAny_specialOf hT zip_no_hint ?_)
 refine wpAny_pure ?_
 show wpAny _ A.in1 (rule "list.extend.makes-room" >>= λ zz=>Builtin.List.listTouch (.ref S) >>= λ zz=>
  again (.builtin "list.extend.loop" ⟨[.ref S,.ref z,.none],[]⟩)) _ _ _
 refine wpAny_bind (wpAny_rule ?_)
 refine wpAny_bind ?_
 show wpAny _ A.in1 (updateSeq S (·.push .none) >>= λ zz=>updateSeq S (·.pop)) _ _ _
 refine wpAny_bind (wpAny_updateSeq hS rfl ?_)
 have hS₂:=Heap.get?_update_self (Obj.mapSeq (·.push Value.none)) hS rfl
 refine wpAny_updateSeq (hz:=by seq_fits) hS₂ rfl ?_
 have hS₃:=Heap.get?_update_self (Obj.mapSeq (·.pop)) hS₂ rfl
 have oth:∀ b o,b ≠ S → s.heap.get? b = some o → ((s.heap.update S (Obj.mapSeq (·.push Value.none))).update S (Obj.mapSeq (·.pop))).get? b = some o:=
  λ b o hb e=>(Heap.get?_update_other _ _ (Ne.symm hb)).trans ((Heap.get?_update_other _ _ (Ne.symm hb)).trans e)
 exact wpAny_pure ⟨plainId_quiet PySem.F.plain_extend_loop _,xloop_zip (s0:=s) hA Z hsz hR nn _ #[] _ [] Lf (Z.oldS old oth) (hz.keep Z oth (liveOf hS₃)) hS₃ rfl ⟨List.nodup_nil,λ j t e=>nomatch e⟩⟩
theorem call_list_zip {hb:Heap} {z TI TO i1 i2 l1 l2:Addr} {as bs:Array Value} {nn:Nat} {Q:Value → Shared → Prop} (hA:A.handled = none) (Z:ZEnv hb z TI TO i1 i2 l1 l2 s.heap.objs.size as bs) (hsz:as.size ≤ sizeLine) (Lf:Left as bs nn 0 nn)
  (hz:ZS s.heap z TI TO i1 i2 l1 l2 0) (hz0:IsZip s.heap z TI TO .none) (old:∀ b o,hb.get? b = some o → s.heap.get? b = some o)
  (hQ:∀ h acc n ts,(∀ b o,hb.get? b = some o → h.get? b = some o) → h.get? s.heap.objs.size = some (lstObj acc n) → acc.toList = ts.map Value.ref → ts.length = nn → Tups hb h z TO i1 i2 s.heap.objs.size as bs ts → Q (.ref s.heap.objs.size) { s with heap:=h }) :
  wpAny (model prog w) A (call (.type "list") [.ref z]) Q E s:=by
 refine callType_codes (Q₁:=λ obj s₁=>obj = .ref s.heap.objs.size ∧ s₁ = { s with heap:=s.heap.push { cls:=.type "list",data:=.seq #[] } }) PySem.F.called_list (PySem.F.typeCall_list_1 _) PySem.F.entry_list_init
  (code_list_new _ ⟨rfl,rfl⟩) λ obj s₁ h₁=>?_
 obtain ⟨rfl,rfl⟩:=h₁
 have hS:(s.heap.push { cls:=.type "list",data:=.seq #[] }).get? s.heap.objs.size = some { cls:=.type "list",data:=.seq #[] }:=Heap.get?_push_size _ rfl
 refine ⟨⟨_,hS,rfl⟩,PySem.F.args_list_init_2 _ _,?_⟩
 have up:∀ b o,s.heap.get? b = some o → (s.heap.push { cls:=.type "list",data:=.seq #[] }).get? b = some o:=λ b o e=>Heap.get?_push_of_some _ e
 show wpAny _ _ (do let old ← Builtin.List.listItems (.ref s.heap.objs.size); Builtin.List.listUpdate (.ref s.heap.objs.size) (λ zz=>#[]); letGo old.toList.reverse; Builtin.List.listExtendWith (.ref s.heap.objs.size) (.ref z) .none) _ _ _
 refine wpAny_bind ?_
 unfold Builtin.List.listItems
 refine wpAny_bind (wpAny_seqItems hS rfl (wpAny_pure ?_))
 show wpAny _ _ (updateSeq s.heap.objs.size (λ zz=>#[]) >>= λ zz=>letGo (#[]:Array Value).toList.reverse >>= λ zz=>Builtin.List.listExtendWith (.ref s.heap.objs.size) (.ref z) .none) _ _ _
 refine wpAny_bind (wpAny_updateSeq hS rfl ?_)
 have hS₂:=Heap.get?_update_self (Obj.mapSeq (λ zz=>(#[]:Array Value))) hS rfl
 refine wpAny_bind (wpAny_letGo ?_)
 have k:∀ b o,b ≠ s.heap.objs.size → s.heap.get? b = some o → ((s.heap.push { cls:=.type "list",data:=.seq #[] }).update s.heap.objs.size (Obj.mapSeq (λ zz=>(#[]:Array Value)))).get? b = some o:=
  λ b o hb e=>(Heap.get?_update_other _ _ (Ne.symm hb)).trans (up b o e)
 exact extend_zip (hb:=hb) hA Z hsz Lf (hz.keep Z k (liveOf hS₂)) (k _ _ Z.Sz.symm hz0) (Z.oldS old k) hS₂ λ h acc n ts h1 h2 h3 h4 h5=>⟨rfl,hQ h acc n ts h1 h2 h3 h4 h5⟩
end
end Mine
end
section
open PySem PySem.W PySem.Calls PyProof.Rows Builtin Builtin.ObjectAttr
set_option backward.match.sparseCases false
namespace Mine
section
variable {prog:Program} {w:World} {A:Around} {E:Value → Shared → Prop} {s:Shared}
theorem dictOf_keep {K:Type} [DecidableEq K] {knd:KeyKind prog w K} {h h':Heap} {a:Addr} {kvs:List (K × Value)} (x:h.DictOf knd a kvs) (k:∀ o,h.get? a = some o → h'.get? a = some o):h'.DictOf knd a kvs:=by
 refine Classical.byContradiction λ hcps=>?_
 obtain ⟨o,es,ep,e,r⟩:=x
 refine hcps ?_
 clear hcps
 exact ⟨o,es,ep,k o e,r⟩
noncomputable def KeysAt (as:Array Value) (ks:List Int):Prop:=∀ (j:Nat) (x:Value),as[j]? = some x → ∃ k t,ks[j]? = some k ∧ x = .int k t
theorem dloop_zip {hb:Heap} {s0:Shared} {z TI TO i1 i2 l1 l2 D:Addr} {as bs:Array Value} {ks:List Int} {nn:Nat} {R:Result → Shared → Prop} (hA:A.handled = none) (Z:ZEnv hb z TI TO i1 i2 l1 l2 D as bs) (hks:KeysAt as ks) (hzl:(ks.zip bs.toList).length = nn) (hsz:as.size ≤ sizeLine)
  (hR:∀ h tk,(∀ b o,hb.get? b = some o → h.get? b = some o) → h.DictOf (intKind prog w) D (merged [] (ks.zip bs.toList)) → R (.ok (.ret .none)) { s0 with heap:=h,toks:=tk }) :
  ∀ (k i:Nat) (h:Heap) (tk:Nat),Left as bs nn i k → (∀ b o,hb.get? b = some o → h.get? b = some o) → ZS h z TI TO i1 i2 l1 l2 i → h.DictOf (intKind prog w) D (merged [] ((ks.zip bs.toList).take i)) →
   codeAny (model prog w) A (.builtin "dict.update.loop" ⟨[.ref D,.ref z,rawInt i,.none],[]⟩) R { s0 with heap:=h,toks:=tk }:=by
 refine Classical.byContradiction λ hcps=>?_
 obtain ⟨n1,e1⟩:=Z.l1
 obtain ⟨n2,e2⟩:=Z.l2
 refine hcps ?_
 clear hcps
 intro k
 induction k with
 | zero=>
  intro i h tk L old hz hd
  refine dloop_step (knd:=intKind prog w) (pyNext_zs_end (s:={ s0 with heap:=h,toks:=tk }) hA Z.D hz (lstAt (old _ _ e1)) (lstAt (old _ _ e2)) L.off λ h' hk'=>?_)
  rw [List.take_of_length_le (show (ks.zip bs.toList).length ≤ i from Nat.le_of_eq (hzl.trans L.sum.symm))] at hd
  exact hR h' tk (Z.old old hk') (dictOf_keep hd λ o e=>hk' _ _ Z.Sz Z.STO Z.S1 Z.S2 e)
 | succ k ih=>
  intro i h tk L old hz hd
  refine Classical.byContradiction λ hcps=>?_
  obtain ⟨x,y,hx,hy⟩:=L.items
  refine hcps ?_
  clear hcps
  refine dloop_step (knd:=intKind prog w) (pyNext_zs_item (s:={ s0 with heap:=h,toks:=tk }) Z.D hz (lstAt (old _ _ e1)) (lstAt (old _ _ e2)) hx hy λ h' hz' hp hk'=>?_)
  refine Classical.byContradiction λ hcps=>?_
  obtain ⟨key,tok,hkey,hxk⟩:=hks i x hx
  refine hcps ?_
  clear hcps
  have hd':=dictOf_keep hd λ o e=>hk' D o Z.Sz Z.STO Z.S1 Z.S2 e
  have hpi:(ks.zip bs.toList)[i]? = some (key,y):=List.getElem?_zip_eq_some.mpr ⟨hkey,Array.getElem?_toList ▸ hy⟩
  refine ⟨h.objs.size,x,y,0,key,merged [] ((ks.zip bs.toList).take i),hp,hxk ▸ intKind_is _ _ _ _,hd',?_,λ h'' hd'' hs''=>?_⟩
  ·refine Nat.le_trans (merged_length_le ([]:List (Int × Value)) ((ks.zip bs.toList).take i)) ?_
   rw [List.length_nil,Nat.zero_add,List.length_take]
   exact Nat.le_trans (Nat.min_le_right ..) (Nat.le_trans (Nat.le_of_eq hzl) (Nat.le_trans L.l1 hsz))
  ·exact ih (i + 1) h'' (tk + 1) L.succ (Z.oldS (Z.old old hk') hs''.extBut) (hz'.keep Z hs''.extBut (let ⟨o,_,_,e,_⟩:=hd''; liveOf e)) (by rw [merged_take_succ _ _ _ _ hpi]; exact hd'')
theorem call_dict_zip {hb:Heap} {z TI TO i1 i2 l1 l2:Addr} {as bs:Array Value} {ks:List Int} {nn:Nat} {Q:Value → Shared → Prop} (hA:A.handled = none) (Z:ZEnv hb z TI TO i1 i2 l1 l2 s.heap.objs.size as bs) (hks:KeysAt as ks) (hzl:(ks.zip bs.toList).length = nn) (hsz:as.size ≤ sizeLine) (Lf:Left as bs nn 0 nn)
  (hz:ZS s.heap z TI TO i1 i2 l1 l2 0) (hz0:IsZip s.heap z TI TO .none) (old:∀ b o,hb.get? b = some o → s.heap.get? b = some o)
  (hQ:∀ h tk,(∀ b o,hb.get? b = some o → h.get? b = some o) → h.DictOf (intKind prog w) s.heap.objs.size (merged [] (ks.zip bs.toList)) → Q (.ref s.heap.objs.size) { s with heap:=h,toks:=tk }) :
  wpAny (model prog w) A (call (.type "dict") [.ref z]) Q E s:=by
 refine call_dict_from (intKind prog w) (Ty:="zip") (λ s' k=>⟨_,k _ _ hz0,rfl⟩) (by decide) (λ A' E' s' Q' hA' k hq=>noKeys_zip (k _ _ hz0) hA' hq) hA λ R s1 he k hd hszz hR=>?_
 obtain ⟨h1,tk1,rfl⟩:=he
 exact wpAny_pyIter_zip (k _ _ hz0) (dloop_zip (s0:=s) (A:=A.in1) (hb:=hb) hA Z hks hzl hsz (λ h tk h1 h2=>hR _ (hQ h tk h1 h2)) nn 0 h1 tk1 Lf (λ b o e=>k b o (old b o e)) (hz.keep Z (λ c o zz e=>k c o e) (let ⟨o,_,_,e,_⟩:=hd; liveOf e)) hd)
end
end Mine
end
section
open PySem PySem.W PySem.Calls PyProof.Rows Builtin Builtin.ObjectAttr
set_option backward.match.sparseCases false
namespace Mine
theorem relL_idx {T:Tags}:∀ {l:List PV} {vs:List Value},l.length = vs.length → (∀ (j:Nat) x v,l[j]? = some x → vs[j]? = some v → Rel T x v) → RelL T l vs
 | [],[],_,_=>RelL.nil
 | x :: l,v :: vs,h,q=>RelL.cons (q 0 x v rfl rfl) (relL_idx (Nat.succ.inj h) λ j x v h1 h2=>q (j + 1) x v h1 h2)
 | [],_ :: _,h,_=>nomatch h
 | _ :: _,[],h,_=>nomatch h
theorem zipP_at:∀ {xs ys:List PV} {j:Nat},(zipPairs xs ys)[j]? = pairAt xs[j]? ys[j]?
 | [],ys,j=>rfl
 | x :: xs,[],0=>rfl
 | x :: xs,[],j + 1=>by show none = pairAt xs[j]? none; cases xs[j]? <;> rfl
 | x :: xs,y :: ys,0=>rfl
 | x :: xs,y :: ys,j + 1=>zipP_at (xs:=xs) (ys:=ys) (j:=j)
theorem zipP_len:∀ {xs ys:List PV},(zipPairs xs ys).length = min xs.length ys.length
 | [],ys=>(Nat.zero_min _).symm
 | x :: xs,[]=>(Nat.min_zero _).symm
 | x :: xs,y :: ys=>by
  show (zipPairs xs ys).length + 1 = min (xs.length + 1) (ys.length + 1)
  rw [zipP_len (xs:=xs) (ys:=ys),Nat.succ_min_succ]
section
variable {prog:Program} {w:World} {h₀:Heap} {K:Tbl} {ro:Bool} {f:Frm} {env:Env} {es:List Env} {A:Around} {T:Tags} {c:Cells} {l:Locs} {s:Shared} {d:Nat}
inductive TagAll (w:World) (h₀:Heap) (ro:Bool) (f:Frm) (env:Env) (es:List Env) (T0:Tags) (s0:Shared) (c:Cells) (l:Locs) (s:Shared) (T:Tags) (ts:List Addr):Prop
 | mk (T':Tags) (out:Out (w:=w) h₀ ro f env es T0 s0 T' c l s) (le:T.le T') (froz:∀ t ∈ ts,∀ ob,s.heap.get? t = some ob → T' t = .froz ob) (other:∀ b,b ∉ ts → T' b = T b):TagAll w h₀ ro f env es T0 s0 c l s T ts
theorem tag_all {s0:Shared} {T0:Tags} {c0:Cells} {l0:Locs} (P:Pre (w:=w) h₀ T0 c0 l0 s0 f env es):∀ (ts:List Addr) (T:Tags),Out (w:=w) h₀ ro f env es T0 s0 T c l s → (∀ t ∈ ts,Fresh s0.heap T t) → ts.Nodup → (∀ t ∈ ts,(s.heap.get? t).isSome = true) → TagAll w h₀ ro f env es T0 s0 c l s T ts
 | [],T,o,_,_,_=>⟨T,o,Tags.le.refl T,(λ t ht=>nomatch ht),λ zz zz=>rfl⟩
 | t :: ts,T,o,hf,hn,ha=>by
  obtain ⟨ob,hob⟩:=Option.isSome_iff_exists.mp (ha t List.mem_cons_self)
  have h1:=hf t List.mem_cons_self
  obtain ⟨hn1,hn2⟩:=List.nodup_cons.mp hn
  have ne:∀ u ∈ ts,u ≠ t:=λ u hu e=>hn1 (e ▸ hu)
  induction tag_all P ts _ (o.froz P h1 hob) (λ u hu=>⟨(hf u (List.mem_cons_of_mem _ hu)).new,(T.put_ne _ (ne u hu)).trans (hf u (List.mem_cons_of_mem _ hu)).free⟩) hn2 λ u hu=>ha u (List.mem_cons_of_mem _ hu) using Mine.TagAll.casesOn with
  | mk T' o' le q1 q2=>
   refine ⟨T',o',(Tags.le_put _ h1.free).trans le,λ u hu ob' hob'=>(List.mem_cons.mp hu).elim (λ e=>?_) λ hu=>q1 u hu ob' hob',λ b hb=>?_⟩
   ·subst e
    rw [hob] at hob'
    exact (q2 _ hn1).trans ((Tags.put_self ..).trans (congrArg Tag.froz (Option.some.inj hob')))
   ·exact (q2 b λ q=>hb (List.mem_cons_of_mem _ q)).trans (T.put_ne _ λ q=>hb (q ▸ List.mem_cons_self))
theorem pairAt_some {x y:Option PV} {p:PV} (h:pairAt x y = some p):∃ a b,x = some a ∧ y = some b ∧ p = .tup [a,b]:=by
 refine Classical.byContradiction λ hcps=>?_
 obtain ⟨a,ha,h⟩:=Option.bind_eq_some_iff.mp h
 obtain ⟨b,hb,h⟩:=Option.map_eq_some_iff.mp h
 refine hcps ?_
 clear hcps
 exact ⟨a,b,ha,hb,h.symm⟩
theorem zip_listed {s0:Shared} {h:Heap} {z TO i1 i2 S:Addr} {as bs acc:Array Value} {n:Nat} {ts:List Addr} {xs ys:List PV} {tk:Nat} (P:Pre (w:=w) h₀ T c l s0 f env es) (hx:RelL T xs as.toList) (hy:RelL T ys bs.toList) (old:∀ b o,s0.heap.get? b = some o → h.get? b = some o) (hS:h.get? S = some (lstObj acc n)) (nS:s0.heap.get? S = none)
  (ha:acc.toList = ts.map Value.ref) (hl:ts.length = min as.size bs.size) (Q:Tups s0.heap h z TO i1 i2 S as bs ts) :
  OutR (w:=w) h₀ ro f env es RV T s0 (c ++ [.list (zipPairs xs ys)]) l (.ref c.length) (.ref S) { s0 with heap:=h,toks:=tk }:=by
 have at_:∀ t ∈ ts,∃ j,TupAt s0.heap h z TO i1 i2 S as bs j t:=λ t ht=>let ⟨j,hj⟩:=List.getElem?_of_mem ht; ⟨j,Q.at' j t hj⟩
 induction tag_all P ts T (P.grow (ro:=ro) old (tk:=tk)) (λ t ht=>let ⟨j,q⟩:=at_ t ht; by cases q with | mk _ _ _ _ _ n=>exact ⟨n,P.none_free n⟩) Q.nd (λ t ht=>let ⟨j,q⟩:=at_ t ht; by cases q with | mk _ _ _ _ e=>exact liveOf e) using Mine.TagAll.casesOn with
 | mk T1 o1 le1 q1 q2=>
  have tS:T1 S = .free:=(q2 S λ hm=>let ⟨j,q⟩:=at_ S hm; by induction q using Mine.TupAt.casesOn with | mk _ _ _ _ _ _ _ _ _ _ h5=>exact h5 rfl).trans (P.none_free nS)
  have R:RelL T1 (zipPairs xs ys) acc.toList:=by
   refine relL_idx (by rw [zipP_len,ha,List.length_map,hl,hx.size,hy.size]) λ j p v hp hv=>?_
   rw [ha,List.getElem?_map] at hv
   refine Classical.byContradiction λ hcps=>?_
   obtain ⟨t,ht,rfl⟩:=Option.map_eq_some_iff.mp hv
   obtain ⟨a,b,ex,ey,rfl⟩:=pairAt_some (zipP_at.symm.trans hp)
   refine hcps ?_
   clear hcps
   induction Q.at' j t ht using Mine.TupAt.casesOn with
   | mk x y e1 e2 e3=>
    refine Classical.byContradiction λ hcps=>?_
    obtain ⟨u,hu,ru⟩:=hx.at_ ex
    obtain ⟨v,hv',rv⟩:=hy.at_ ey
    refine hcps ?_
    clear hcps
    cases e1.symm.trans hu
    cases e2.symm.trans hv'
    exact SeqFz.mk t 0 #[x,y] (q1 t (List.mem_of_getElem? ht) _ e3) (RelL.cons (Rel.mono le1 _ _ ru) (RelL.one (Rel.mono le1 _ _ rv)))
  have le2:T1.le (T1.put S (.cell c.length)):=Tags.le_put _ tS
  exact ⟨_,Out.fresh (s':={ s0 with heap:=h,toks:=tk }) (h':=h) (tk:=tk) P o1 nS tS (Heap.SameBut.refl _ _) (liveOf hS) (x:=.list (zipPairs xs ys)) ⟨S,n,acc,Tags.put_self ..,hS,RelL.mono le2 _ _ R⟩,RefC.mk S (Tags.put_self ..)⟩
end
end Mine
end
section
open PySem PySem.W PySem.Calls PyProof.Rows Builtin Builtin.ObjectAttr
set_option backward.match.sparseCases false
namespace Mine
section
variable {prog:Program} {w:World} {h₀:Heap} {K:Tbl} {ro:Bool} {f:Frm} {env:Env} {es:List Env} {A:Around} {T:Tags} {c:Cells} {l:Locs} {s:Shared} {d:Nat}
theorem putAll_entsI {knd:KeyKind prog w Int} (M:Emb knd Key.i isI) {T:Tags} {fs:List (Key × PV)} {kb:List (Int × Value)} (h:KEnts Key.i T fs kb):∀ {es:List (Key × PV)} {ka:List (Int × Value)},KEnts Key.i T es ka → (ka.map (·.1)).Nodup → KEnts Key.i T (putAll fs es) (merged ka kb):=by
 induction h with
 | nil=>intro es ka g zz; exact g
 | cons k v hv _ ih=>intro es ka g hn; exact ih (g.stored M hn hv) (stored_nodup ka k v hn)
theorem kents_zip {T:Tags}:∀ {is:List Int} {ys:List PV} {vs:List Value},RelL T ys vs → KEnts Key.i T ((is.map Key.i).zip ys) (is.zip vs)
 | [],ys,vs,_=>.nil
 | i :: is,[],vs,r=>by subst r; exact .nil
 | i :: is,y :: ys,vs,r=>by
  induction r.inv using Mine.ConsV.casesOn with
  | mk u t ru rt=>exact .cons i u ru (kents_zip rt)
theorem ints_len {vs:List Value} {is:List Int} (h:IntsAre vs is):is.length = vs.length:=by
 induction h with
 | nil=>rfl
 | cons n t r ih=>exact congrArg Nat.succ ih
theorem ints_at {vs:List Value} {is:List Int} (h:IntsAre vs is):∀ (j:Nat) (x:Value),vs[j]? = some x → ∃ k t,is[j]? = some k ∧ x = .int k t:=by
 induction h with
 | nil=>exact λ j x e=>nomatch e
 | cons n t r ih=>
  intro j x e
  induction j using Nat.casesOn with
  | zero=>exact ⟨n,t,rfl,(Option.some.inj e).symm⟩
  | succ j=>exact ih j x e
theorem zip_dicted {s0:Shared} {h:Heap} {S:Addr} {bs:Array Value} {ys:List PV} {ks:List Int} {tk:Nat} (P:Pre (w:=w) h₀ T c l s0 f env es) (hy:RelL T ys bs.toList) (old:∀ b o,s0.heap.get? b = some o → h.get? b = some o) (nS:s0.heap.get? S = none)
  (hd:h.DictOf (intKind prog w) S (merged [] (ks.zip bs.toList))) :
  OutR (w:=w) h₀ ro f env es RV T s0 (c ++ [.dict (putAll ((ks.map Key.i).zip ys) [])]) l (.ref c.length) (.ref S) { s0 with heap:=h,toks:=tk }:=by
 have le:T.le (T.put S (.cell c.length)):=Tags.le_put _ (P.none_free nS)
 have hk':KEnts Key.i T (putAll ((ks.map Key.i).zip ys) []) (merged [] (ks.zip bs.toList)):=putAll_entsI (embI prog w) (kents_zip hy) .nil List.nodup_nil
 exact ⟨_,P.made old nS (let ⟨o,_,_,ho,_⟩:=hd; liveOf ho) (dict_from (embI prog w) (Tags.put_self ..) hd (hk'.mono le)) (tk:=tk),RefC.mk S (Tags.put_self ..)⟩
inductive ZipEnv (T:Tags) (hb h:Heap) (J:Addr) (xs ys:List PV):Prop
 | mk (TI TO i1 i2 l1 l2:Addr) (as bs:Array Value) (Z:ZEnv hb J TI TO i1 i2 l1 l2 h.objs.size as bs) (st:ZS h J TI TO i1 i2 l1 l2 0) (hz:IsZip h J TI TO .none) (rx:RelL T xs as.toList) (ry:RelL T ys bs.toList):ZipEnv T hb h J xs ys
theorem zenv_of {s2 s3:Shared} {J:Addr} {a b:Nat} {xs ys:List PV} (P:Pre (w:=w) h₀ T c l s2 f env es) (hit:ItAt s2.heap T s3.heap J (.zip a b) 0) (hxs:c[a]? = some (.list xs)) (hys:c[b]? = some (.list ys)) (hk:∀ bb o,s2.heap.get? bb = some o → s3.heap.get? bb = some o):ZipEnv T s2.heap s3.heap J xs ys:=by
 induction hit using Mine.ZipIt.casesOn with
 | mk TI TO i1 i2 l1 l2 x y f0 f1 f2 f3 f4 t1 t2 D hz p1 p2 j1 j2=>
  induction P.lstA t1 hxs using Mine.LstA.casesOn with
  | mk n1 as g1 r1=>
   induction P.lstA t2 hys using Mine.LstA.casesOn with
   | mk n2 bs g2 r2=>
    exact ⟨TI,TO,i1,i2,l1,l2,as,bs,⟨D,⟨n1,g1⟩,⟨n2,g2⟩,f0.new,f2.new,f3.new,f4.new,none_older (λ a ha=>let ⟨o,e⟩:=Option.isSome_iff_exists.mp ha; liveOf (hk a o e)) (none_size _),live_lt (liveOf hz),live_lt (liveOf p1),live_lt (liveOf p2),live_lt (lit_plain j1).live,live_lt (lit_plain j2).live⟩,
     ⟨p1,j1,j2,liveOf p2,.new x y hz p2⟩,hz,r1,r2⟩
end
end Mine
end
section
open PySem PySem.W PySem.Calls PyProof.Rows Builtin Builtin.ObjectAttr
set_option backward.match.sparseCases false
namespace Mine
structure World0 (h₀:Heap) (K:Tbl) (X:Frag) (mg mb:Str → Option Value):Prop where
 sys:(h₀.get? sysModules).isSome = true
 inX:X.In h₀
 cls:∀ C k,K.cls C = some k → ClsOk X C k
 glob:GlobOk h₀ K mg mb
 bm:BMain h₀ mg
theorem isTyp_some {n:String} {v:PV}:isTyp n v = true → v = .val (.type n):=by
 induction v using Mine.PV.casesOn with
 | val v=>exact λ h=>congrArg PV.val (of_decide_eq_true h)
 | _=>exact fT
noncomputable abbrev zipT (fv:PV) (xs ys:List PV):M PV:=gd (decide (xs.length ≤ lim) && decide (ys.length ≤ lim)) (sw (isTyp "list" fv) (newCell (.list (zipPairs xs ys)))
 (gd (isTyp "dict" fv) (opt (allInts xs) λ is=>gd (decide (is.length ≤ 100)) (newCell (.dict (putAll ((is.map Key.i).zip ys) []))))))
inductive LstGo {β:Type} (x:PV) (g:Nat → List PV → M β) (c:Cells) (l:Locs):Prop
 | mk (a:Nat) (xs:List PV) (hx:x = .ref a) (hc:c[a]? = some (.list xs)) (e:onLst x g c l = g a xs c l):LstGo x g c l
theorem onLst_go {β:Type} {x:PV} {g:Nat → List PV → M β} {c:Cells} {l:Locs} (h:onLst x g c l ≠ .fail):LstGo x g c l:=by
 induction x using Mine.PV.casesOn with
 | ref a=>
  have e0:onLst (.ref a) g c l = opt c[a]? (λ y=>opt (lstOf y) λ l=>g a l) c l:=rfl
  rw [e0] at h
  induction e:c[a]? using Option.casesOn with
  | none=>rw [e] at h; exact absurd rfl h
  | some y=>
   rw [e] at h e0
   induction y using Mine.Cell.casesOn with
   | list xs=>exact ⟨a,xs,rfl,e,e0⟩
   | _=>exact absurd rfl h
 | _=>exact absurd rfl h
inductive ZipVR (fv zv x y:PV) (c:Cells) (l:Locs):Prop
 | mk (a b:Nat) (xs ys:List PV) (hz:zv = .val (.type "zip")) (ha:x = .ref a) (hb:y = .ref b) (hx:c[a]? = some (.list xs)) (hy:c[b]? = some (.list ys)) (e:zipV fv zv x y c l = zipT fv xs ys c l):ZipVR fv zv x y c l
theorem zipV_go {fv zv x y:PV} {c:Cells} {l:Locs} (h:zipV fv zv x y c l ≠ .fail):ZipVR fv zv x y c l:=by
 unfold zipV at h
 induction hz:isTyp "zip" zv using Bool.casesOn with
 | false=>rw [hz] at h; exact absurd rfl h
 | true=>
  rw [hz] at h
  have h:onLst x (λ zz xs=>onLst y λ zz ys=>zipT fv xs ys) c l ≠ .fail:=h
  induction onLst_go h using Mine.LstGo.casesOn with
  | mk a xs hx ha ea=>
   rw [ea] at h
   induction onLst_go h using Mine.LstGo.casesOn with
   | mk b ys hy hb eb=>exact ⟨a,b,xs,ys,isTyp_some hz,hx,hy,ha,hb,by unfold zipV; rw [hz]; exact ea.trans eb⟩
theorem zipV_zip {fv zv x y:PV} {c:Cells} {l:Locs} (h:zipV fv zv x y c l ≠ .fail):ZipGo c zv x y:=by
 induction zipV_go h using Mine.ZipVR.casesOn with | mk a b xs ys hz ha hb hx hy=>exact ⟨a,b,xs,ys,hz,ha,hb,hx,hy⟩
theorem bif_opt {α:Type} {b:Bool} {o:Option α} {v:α} (h:(bif b then o else none) = some v):b = true ∧ o = some v:=by
 cases b
 ·exact nS h
 ·exact ⟨rfl,h⟩
inductive ZipForm (p q:Expr):List Expr → Prop
 | mk (p1 p2:Pos) (hp:notStar p = true) (hq:notStar q = true):ZipForm p q [.Call (.Name "zip" p1) [p,q] [] p2]
inductive ZipCall (p q:Expr):Expr → Prop
 | mk (p1 p2:Pos) (hp:notStar p = true) (hq:notStar q = true):ZipCall p q (.Call (.Name "zip" p1) [p,q] [] p2)
theorem isZip_some {e:Expr} {p:Expr × Expr} (h:isZip e = some p):ZipCall p.1 p.2 e:=by
 obtain ⟨t,ht,h⟩:=Option.bind_eq_some_iff.mp h
 obtain ⟨pos,rfl⟩:=callOf_some ht
 obtain ⟨g,as,ks⟩:=t
 obtain ⟨hb,h⟩:=bif_opt h
 cases isEmpty_inv (and_l hb)
 obtain ⟨p1,rfl⟩:=nameOf_some (of_decide_eq_true (and_r hb))
 rcases as with _ | ⟨a,_ | ⟨b,r⟩⟩
 ·exact nS h
 ·exact nS h
 ·obtain ⟨hc,rfl⟩:=bif_some h
  cases isEmpty_inv (and_l (and_l hc))
  exact ⟨p1,pos,and_r (and_l hc),and_r hc⟩
theorem zipArg_some {as:List Expr} {p:Expr × Expr} (h:zipArg as = some p):∃ e,as = [e] ∧ ZipCall p.1 p.2 e:=by
 rcases as with _ | ⟨a,r⟩
 ·exact nS h
 ·obtain ⟨hr,h⟩:=bif_opt h
  cases isEmpty_inv hr
  exact ⟨a,rfl,isZip_some h⟩
theorem oneGen_some {gs:List Comprehension} {p:Expr × Expr} (h:oneGen gs = some p):gs = [⟨p.1,p.2,[],0⟩]:=by
 rcases gs with _ | ⟨⟨t,i,fs,n⟩,r⟩
 ·exact nS h
 ·obtain ⟨hc,rfl⟩:=bif_some h
  cases isEmpty_inv (and_l (and_l hc))
  cases isEmpty_inv (and_r (and_l hc))
  cases of_decide_eq_true (and_r hc)
  rfl
theorem noArgs_eq {a:Arguments} (h:noArgs a = true):a = ⟨[],[],none,[],[],none,[]⟩:=by
 obtain ⟨a1,a2,a3,a4,a5,a6,a7⟩:=a
 have h6:=and_l h; have h5:=and_l h6; have h4:=and_l h5; have h3:=and_l h4; have h2:=and_l h3
 cases isEmpty_inv (and_l h2)
 cases isEmpty_inv (and_r h2)
 cases Option.isNone_iff_eq_none.mp (and_r h3)
 cases isEmpty_inv (and_r h4)
 cases isEmpty_inv (and_r h5)
 cases Option.isNone_iff_eq_none.mp (and_r h6)
 cases isEmpty_inv (and_r h)
 rfl
theorem sliceOf_some {i:Expr} {p:Option Expr × Option Expr × Option Expr}:sliceOf i = some p → ∃ q,i = .Slice p.1 p.2.1 p.2.2 q:=by
 induction i using PySem.Expr.casesOn with
 | Slice a b c q=>exact λ h=>⟨q,Option.some.inj h ▸ rfl⟩
 | _=>exact nS
theorem sliceOf_none {i:Expr}:sliceOf i = none → ∀ v g,subscripted i false v g = operate [v,g] (getItem v g):=by
 induction i using PySem.Expr.casesOn with
 | Slice=>exact λ h=>nomatch h
 | _=>exact λ zz zz zz=>rfl
section
variable {prog:Program} {w:World} {h₀:Heap} {K:Tbl} {ro:Bool} {f:Frm} {env:Env} {es:List Env} {A:Around} {T:Tags} {c:Cells} {l:Locs} {s:Shared} {d:Nat} {cf:Callee} {n:Nat} {mg mb:Str → Option Value} {X:Frag}
theorem at_Name (V:World0 h₀ K X mg mb) (P:Pre (w:=w) h₀ T c l s f env es) (x:Str) (pos:Pos):At (w:=w) h₀ K ro f env es prog A T c l s (eval (.Name x pos) env) (ldName K f x) RV:=by
 refine At.eq (t':=standAt pos >>= λ zz=>if x == ("__debug__":Str) then debugConstant else loadName env x) rfl (At.pos ?_)
 by_cases h:x = "__debug__"
 ·subst h; exact At.no rfl
 ·rw [if_neg λ q=>h (eq_of_beq q)]
  exact at_ldName V.glob P
theorem zip_call {s2 s3:Shared} {J:Addr} {xs ys:List PV} {fv:PV} {u:Value} (hA:AOk A d es) (P:Pre (w:=w) h₀ T c l s2 f env es) (Z:ZipEnv T s2.heap s3.heap J xs ys) (al:Alike s2 s3) (hk:∀ b o,s2.heap.get? b = some o → s3.heap.get? b = some o) (hf:Rel T fv u) {E:Value → Shared → Prop} :
  zipT fv xs ys c l ≠ .fail → KeepOk (model prog w) s3.heap u ∧ wpAny (model prog w) A (call u [.ref J]) (QR (w:=w) h₀ ro f env es RV T s2 (zipT fv xs ys c l)) E s3:=by
 have no:(R.fail:R PV) ≠ .fail → KeepOk (model prog w) s3.heap u ∧ wpAny (model prog w) A (call u [.ref J]) (QR (w:=w) h₀ ro f env es RV T s2 (R.fail:R PV)) E s3:=λ h=>absurd rfl h
 induction Z using Mine.ZipEnv.casesOn with
 | mk TI TO i1 i2 l1 l2 as bs Z st hz rx ry=>
  refine gd_by (G:=λ r=>r ≠ .fail → KeepOk (model prog w) s3.heap u ∧ wpAny (model prog w) A (call u [.ref J]) (QR (w:=w) h₀ ro f env es RV T s2 r) E s3) no λ hl=>?_
  have hsz:=rx.fits (of_decide_eq_true (and_l hl))
  obtain ⟨h',tk',rfl⟩:=al
  induction hl:isTyp "list" fv using Bool.casesOn with
  | true=>
   intro zz
   cases isTyp_some hl
   subst hf
   exact ⟨keep_type,call_list_zip hA.hand Z hsz (Left.start as bs) st hz hk λ h acc n ts h1 h2 h3 h4 h5=>zip_listed (ro:=ro) (tk:=tk') P rx ry h1 h2 Z.nS h3 h4 h5⟩
  | false=>
   refine gd_by (G:=λ r=>r ≠ .fail → KeepOk (model prog w) h' u ∧ wpAny (model prog w) A (call u [.ref J]) (QR (w:=w) h₀ ro f env es RV T s2 r) E { s2 with heap:=h',toks:=tk' }) no λ hd=>?_
   refine opt_by (G:=λ r=>r ≠ .fail → KeepOk (model prog w) h' u ∧ wpAny (model prog w) A (call u [.ref J]) (QR (w:=w) h₀ ro f env es RV T s2 r) E { s2 with heap:=h',toks:=tk' }) no λ is hi=>?_
   refine gd_by (G:=λ r=>r ≠ .fail → KeepOk (model prog w) h' u ∧ wpAny (model prog w) A (call u [.ref J]) (QR (w:=w) h₀ ro f env es RV T s2 r) E { s2 with heap:=h',toks:=tk' }) no λ zz zz=>?_
   cases isTyp_some hd
   subst hf
   have hI:=ints_of hi rx
   exact ⟨keep_type,call_dict_zip hA.hand Z (ks:=is) (λ j x e=>ints_at hI j x (by rw [Array.getElem?_toList]; exact e)) (by rw [List.length_zip,ints_len hI]; rfl) hsz (Left.start as bs) st hz hk λ h tk h1 h2=>zip_dicted (ro:=ro) (tk:=tk) P ry h1 Z.nS h2⟩
theorem at_zip (V:World0 h₀ K X mg mb) (I:EvOk prog w h₀ K cf d n) (hA:AOk A d es) (P:Pre (w:=w) h₀ T c l s f env es) {g:Str} {gp p1 p2 pos:Pos} {a b:Expr} (ha:notStar a = true) (hb:notStar b = true) :
  At (w:=w) h₀ K ro f env es prog A T c l s (eval (.Call (.Name g gp) [.Call (.Name "zip" p1) [a,b] [] p2] [] pos) env)
   (zipM (ldName K f g) (ldName K f "zip") (evE K cf n ro f a) (evE K cf n ro f b)) RV:=by
 intro hnf
 have hst:(backTo pos (starEach [Expr.Call (.Name "zip" p1) [a,b] [] p2] env)).any (·.1) = false:=(star_none (as:=[Expr.Call (.Name "zip" p1) [a,b] [] p2]) rfl).1
 rw [arm_eval_Call_Name']
 refine wpAny_bind (At.seqP (at_Name V P g gp) hnf (λ zz zz q=>q) λ fv c1 l1 u s1 T1 e1 hb1 o1 r1 hg1=>?_)
 refine callWith_of (P:=λ h=>KeepOk (model prog w) h u) (by rw [hst]; rfl) (λ zz h=>h) (args_plain hst ?_)
 rw [back_cons (show notStar (Expr.Call (.Name "zip" p1) [a,b] [] p2) = true from rfl)]
 refine wpAny_spliced (zip_wp (g:=zipV fv) o1.pre ha hb (at_Name V o1.pre "zip" p1) (λ zz zz zz zz P=>I.e _ _ _ _ _ _ _ _ _ _ hA P) (λ zz zz zz zz P=>I.e _ _ _ _ _ _ _ _ _ _ hA P) hg1 (λ zv x y c l h=>zipV_zip h) (λ v s' z=>?_) λ a' b' xs ys c' l' J T' s2 s3 e o2 o3 hxs hys hit hkeep hgz=>?_)
 ·exact (show zipM (ldName K f g) (ldName K f "zip") (evE K cf n ro f a) (evE K cf n ro f b) c l = _ from hb1) ▸ z.trans o1
 show wpAny _ _ (pure []) _ _ _
 refine wpAny_pure ?_
 have hm:=(show zipM (ldName K f g) (ldName K f "zip") (evE K cf n ro f a) (evE K cf n ro f b) c l = _ from hb1).trans e
 induction zipV_go hgz using Mine.ZipVR.casesOn with
 | mk a2 b2 xs2 ys2 _ q1 q2 q3 q4 hq=>
  rw [hm,hq]
  cases q1; cases q2
  cases Option.some.inj (hxs.symm.trans q3)
  cases Option.some.inj (hys.symm.trans q4)
  have h:=zip_call (prog:=prog) (ro:=ro) (E:=ER (w:=w) h₀ K ro env es T s (zipT fv xs ys c' l')) hA o2.pre (zenv_of o2.pre hit hxs hys hkeep) o3.same hkeep (Rel.mono (o2.le o1.pre) _ _ r1) (hq ▸ hgz)
  exact ⟨h.1,wpAny_mono h.2 (λ zz zz q=>q.trans (o1.trans o2)) λ zz zz q=>q⟩
section
variable (V:World0 h₀ K X mg mb) (hcf:CallOk prog w h₀ K cf d) (I:EvOk prog w h₀ K cf d n) (hA:AOk A d es) (P:Pre (w:=w) h₀ T c l s f env es)
include V hcf I hA P
theorem ev_Call (g:Expr) (as:List Expr) (ks:List Keyword) (pos:Pos):At (w:=w) h₀ K ro f env es prog A T c l s (eval (.Call g as ks pos) env) (evE K cf (n + 1) ro f (.Call g as ks pos)) RV:=by
 refine At.gd λ hk=>?_
 cases isEmpty_inv hk
 induction g using PySem.Expr.casesOn with
 | Attribute o a apos=>exact At.gd λ h=>at_callMethod V.inX V.cls V.sys hcf hA (and_l (and_l (and_l h))) (and_r (and_l (and_l h))) (of_decide_eq_true (and_r (and_l h))) (and_r h) (I.e _ _ _ _ _ _ _ _ _ _ hA P) λ T c l s P=>I.ll _ _ _ _ _ _ _ _ _ _ _ hA P
 | Name g gp=>
  refine At.onO (λ p hz=>?_) λ zz=>At.gd λ hns=>at_callName V.sys hcf hA hns (at_Name V P _ _) λ T c l s P=>I.ll _ _ _ _ _ _ _ _ _ _ _ hA P
  obtain ⟨e,rfl,he⟩:=zipArg_some hz
  induction he using Mine.ZipCall.casesOn with
  | mk p1 p2 hp hq=>exact at_zip V I hA P hp hq
 | _=>exact At.no rfl
theorem ev_Sub (o i:Expr) (pos:Pos):At (w:=w) h₀ K ro f env es prog A T c l s (eval (.Subscript o i pos) env) (evE K cf (n + 1) ro f (.Subscript o i pos)) RV:=by
 refine At.onO (λ p h=>At.gd λ hn=>At.opt λ k hk=>?_) λ h=>at_Subscript hA (sliceOf_none h) (I.e _ _ _ _ _ _ _ _ _ _ hA P) λ T c l s P=>I.e _ _ _ _ _ _ _ _ _ _ hA P
 obtain ⟨q,rfl⟩:=sliceOf_some h
 rw [Option.isNone_iff_eq_none.mp (and_l hn),Option.isNone_iff_eq_none.mp (and_r hn),hk]
 exact at_Slice hA (I.e _ _ _ _ _ _ _ _ _ _ hA P) λ T c l s P=>I.e _ _ _ _ _ _ _ _ _ _ hA P
theorem ev_e (x:Expr):At (w:=w) h₀ K ro f env es prog A T c l s (eval x env) (evE K cf (n + 1) ro f x) RV:=by
 have E1:∀ T c l s (x:Expr),Pre (w:=w) h₀ T c l s f env es → At (w:=w) h₀ K ro f env es prog A T c l s (eval x env) (evE K cf n ro f x) RV:=λ T c l s x P=>I.e _ _ _ _ _ _ _ _ _ _ hA P
 induction x using PySem.Expr.casesOn with
 | Constant k m pos=>exact at_const P
 | Name x pos=>exact at_Name V P _ _
 | BinOp a op b pos=>
  refine At.eq (t':=eval a env >>= λ u=>holding [u] (eval b env) >>= λ v=>standAt pos >>= λ zz=>operate [u,v] (binaryOp op u v)) rfl ?_
  refine At.bind (E1 _ _ _ _ _ P) λ x c' l' u s' T' o r=>At.bind (At.hold (E1 _ _ _ _ _ o.pre)) λ y c2 l2 v s2 T2 o2 r2=>At.pos (At.oper ?_)
  exact at_binV hA o2.pre (Rel.mono (o2.le o.pre) _ _ r) r2
 | UnaryOp op x pos=>
  induction op using PySem.UnaryOp.casesOn with
  | USub=>
   refine At.opt λ i hi=>At.val λ E=>?_
   refine Classical.byContradiction λ hcps=>?_
   obtain ⟨k,p1,rfl⟩:=intK_some hi
   refine hcps ?_
   clear hcps
   show wpAny _ _ (eval (.Constant (.int i) k p1) env >>= λ v=>standAt pos >>= λ zz=>holding [v] (unaryOp .USub v)) _ E s
   exact wpAny_bind (wpAny_Constant_int (wpAny_bind (wpAny_standAt (wpAny_holding (neg_int P.int)))))
  | _=>exact At.no rfl
 | BoolOp op vs pos=>exact At.eq rfl (I.b _ _ _ _ _ _ _ _ _ _ _ _ hA P)
 | Compare a ops bs pos=>
  exact At.one2 (tt:=λ ops=>eval (.Compare a ops bs pos) env) λ op=>At.one2 (tt:=λ bs=>eval (.Compare a [op] bs pos) env) λ b=>At.gd λ hb=>at_Compare V.sys hA (not_t hb) (E1 _ _ _ _ _ P) λ T c l s P=>E1 _ _ _ _ _ P
 | IfExp t a b pos=>
  refine At.eq (t':=isTrue t env (eval t env) >>= λ q=>if q then eval a env else eval b env) rfl ?_
  refine At.bind (I.t _ _ _ _ _ _ _ _ _ _ hA P) λ q c' l' u s' T' o r=>?_
  cases r
  cases q
  ·exact E1 _ _ _ _ _ o.pre
  ·exact E1 _ _ _ _ _ o.pre
 | Tuple es k pos=>exact at_Tuple (I.ll _ _ _ _ _ _ _ _ _ _ _ hA P)
 | List es pos=>exact at_List (I.ll _ _ _ _ _ _ _ _ _ _ _ hA P)
 | Dict ks vs pos=>
  refine At.sw (λ h=>?_) λ zz=>At.gd λ h=>?_
  ·cases isEmpty_inv (and_l h)
   cases isEmpty_inv (and_r h)
   exact at_Dict0 P
  ·exact at_Dict P (and_l (and_l (and_l h))) (of_decide_eq_true (and_r (and_l (and_l h)))) (of_decide_eq_true (and_r (and_l h))) (not_t (and_r h)) λ T c l s P=>I.dd _ _ _ _ _ _ _ _ _ _ _ _ hA P
 | Attribute o a pos=>
  refine At.gd λ hp=>At.eq (t':=attributeBase o a env (eval o env) >>= λ u=>standAt pos.atName >>= λ zz=>holding [u] (getAttr u a true) >>= λ r=>letTemporaryGo o u r >>= λ zz=>pure r) rfl ?_
  rw [base_eq hp]
  refine At.bind (E1 _ _ _ _ _ P) λ x c' l' u s' T' o1 r=>At.pos λ hnf=>?_
  exact wpAny_bind (wpAny_mono (At.hold (at_getAttrV V.inX V.cls o1.pre r) hnf) (λ zz zz q=>wpAny_bind (wpAny_letTemporaryGo (wpAny_pure q))) λ zz zz q=>q)
 | Subscript o i pos=>exact ev_Sub V hcf I hA P o i pos
 | Call g as ks pos=>exact ev_Call V hcf I hA P g as ks pos
 | ListComp elt gens scope pos=>
  refine At.opt λ p hp=>At.gd λ h=>At.opt λ fc hfc=>?_
  cases oneGen_some hp
  exact at_comp I hA P (not_t (and_l h)) (and_r h) hfc
 | Lambda a b scope pos=>
  refine At.gd λ h=>At.opt λ fc hfc=>?_
  cases noArgs_eq (and_l (and_l (and_l h)))
  refine Classical.byContradiction λ hcps=>?_
  obtain ⟨cp,hcp⟩:=Option.isSome_iff_exists.mp (and_r h)
  refine hcps ?_
  clear hcps
  exact at_lam V.glob V.bm P hfc (not_t (and_r (and_l h))) hcp
 | _=>exact At.no rfl
end
theorem ev_ok (V:World0 h₀ K X mg mb) (hcf:CallOk prog w h₀ K cf d):∀ n,EvOk prog w h₀ K cf d n
 | 0=>by constructor <;> intros <;> exact At.no rfl
 | n + 1=>by
  have I:=ev_ok V hcf n
  exact ⟨λ zz zz zz zz zz zz zz zz zz x hA P=>ev_e V hcf I hA P x,λ zz zz zz zz zz zz zz zz zz xs pos hA P=>ev_l I hA P xs pos,λ zz zz zz zz zz zz zz zz zz ks vs pos hA P=>ev_d I hA P ks vs pos,
   λ zz zz zz zz zz zz zz zz zz op xs pos hA P=>ev_b I hA P op xs pos,λ zz zz zz zz zz zz zz zz zz x hA P=>ev_t V.sys I hA P x,λ zz zz zz zz zz zz zz zz zz op xs hA P=>ev_tb I hA P op xs,
   λ zz zz zz zz zz zz zz zz zz x zz zz hA P hv=>ev_st V.inX V.cls I hA P x hv,λ zz zz zz zz zz zz zz zz zz xs zz zz hA P hv=>ev_sl I hA P xs hv⟩
end
end Mine
end
section
open PySem PySem.W PySem.Calls PyProof.Rows Builtin Builtin.ObjectAttr
set_option backward.match.sparseCases false
namespace Mine
inductive Hid (h0:Heap) (T:Tags) (h:Heap) (a:Addr):Prop
 | mk (o:Obj) (vs:Array Value) (new:h0.get? a = none) (free:T a = .free) (ho:h.get? a = some o) (hd:o.data = .fields vs):Hid h0 T h a
theorem Hid.new {h0 h:Heap} {T:Tags} {a:Addr} (x:Hid h0 T h a):h0.get? a = none:=by cases x; assumption
theorem Hid.free {h0 h:Heap} {T:Tags} {a:Addr} (x:Hid h0 T h a):T a = .free:=by cases x; assumption
theorem Hid.not {h0 h:Heap} {T:Tags} {a:Addr} {o:Obj} (x:Hid h0 T h a) (ho:h.get? a = some o) (hd:∀ vs,o.data ≠ .fields vs):False:=by
 induction x using Mine.Hid.casesOn with | mk o' vs _ _ ho' hd'=>exact hd vs (Option.some.inj (ho'.symm.trans ho) ▸ hd')
inductive ExcMv (h0:Heap) (T:Tags) (es:List Env) (h h':Heap):Prop
 | mk (S:Addr → Prop) (hS:∀ a,S a → Hid h0 T h a) (hk:∀ b o,¬ S b → h.get? b = some o → ∃ sl,h'.get? b = some { o with slots:=sl } ∧ (b ∉ frsOf es → sl = o.slots)):ExcMv h0 T es h h'
inductive HasTb (h:Heap) (e:Addr):Prop
 | mk (oe:Obj) (vs:Array Value) (tb:Addr) (ho:h.get? e = some oe) (hd:oe.data = .fields vs) (k1:vs[1]? = some (.ref tb)):HasTb h e
section
variable {prog:Program} {w:World} {M:Model} {h₀:Heap} {K:Tbl} {ro:Bool} {f:Frm} {env:Env} {es outer:List Env} {A:Around} {T T0:Tags} {c:Cells} {l:Locs} {s s0:Shared} {fault e L:Addr} {h0 h:Heap} {E:Value → Shared → Prop}
theorem funFrames_of {base:Heap} (hb:∀ a,a ∈ frsOf es → base.get? a = none):∀ {l:List Env},(∀ x ∈ l,x ∈ es) → Frs T h es → h.FunFrames base l
 | [],_,_=>trivial
 | x :: r,hm,Fs=>by
  obtain ⟨h1,F,o,h2,h3,h4,h5⟩:=Fs x (hm x List.mem_cons_self)
  exact ⟨h1,⟨F,o,h2,hb F (List.mem_filterMap.mpr ⟨x,hm x List.mem_cons_self,h2⟩),h4,h5⟩,funFrames_of hb (λ y hy=>hm y (List.mem_cons_of_mem _ hy)) Fs⟩
theorem frs_noFields {h:Heap} (Fs:Frs T h es):∀ a ∈ frsOf es,∀ o,h.get? a = some o → ∀ vs,o.data ≠ .fields vs:=λ a hm o ho=>by
 refine Classical.byContradiction λ hcps=>?_
 obtain ⟨x,hx,q⟩:=List.mem_filterMap.mp hm
 obtain ⟨zz,F,o',hf,zz,ho',hd⟩:=Fs x hx
 refine hcps ?_
 clear hcps
 cases Option.some.inj (hf.symm.trans q)
 exact Option.some.inj (ho'.symm.trans ho) ▸ hd
structure Base (h0:Heap) (T:Tags) (es:List Env) (h:Heap) (hid:List Addr) (e:Addr):Prop where
 own:∀ a,a ∈ hid → a ∉ frsOf es → Hid h0 T h a
 frs:Frs T h es
 live:∀ a,(h0.get? a).isSome = true → (h.get? a).isSome = true
 tags:∀ a,T a ≠ .free → (h.get? a).isSome = true
 stay:(hideAll h hid).StaysIn h
 hide:(hideAll h hid).get? e = none
 ff:h.FunFrames (hideAll h hid) es
theorem base_of {tbs:List Addr} (Fs:Frs T h es) (hl:∀ a,(h0.get? a).isSome = true → (h.get? a).isSome = true) (hT:∀ a,T a ≠ .free → (h.get? a).isSome = true) (he:Hid h0 T h e) (ht:∀ tb ∈ tbs,Hid h0 T h tb):Base h0 T es h (e :: (tbs ++ frsOf es)) e:=
 ⟨λ a hm nF=>(List.mem_cons.mp hm).elim (λ q=>q ▸ he) λ hm=>(List.mem_append.mp hm).elim (ht a) λ q=>absurd q nF,Fs,hl,hT,λ b o e=>of_hideAll _ e,hideAll_none _ List.mem_cons_self,
  funFrames_of (λ a hm=>hideAll_none _ (List.mem_cons_of_mem _ (List.mem_append_right _ hm))) (λ zz hy=>hy) Fs⟩
variable {hid:List Addr} {h':Heap} {fl:Option Addr}
theorem Base.mv (B:Base h0 T es h hid e) (hst:(hideAll h hid).StaysIn h') (hup:h.UpToSlots h'):ExcMv h0 T es h h':=
 ⟨λ a=>a ∈ hid ∧ a ∉ frsOf es,λ a q=>B.own a q.1 q.2,λ b o nb hb=>by
  by_cases hF:b ∈ frsOf es
  ·obtain ⟨sl,e⟩:=hup b o hb (frs_noFields B.frs b hF o hb)
   exact ⟨sl,e,λ q=>absurd hF q⟩
  ·exact ⟨o.slots,hst b o (hideAll_get hid hb λ q=>nb ⟨q,hF⟩),λ zz=>rfl⟩⟩
theorem Base.tb {tb:Addr} {ot:Obj} {ts:Array Value} (B:Base h0 T es h hid e) (hup:h.UpToSlots h') (hb:(hideAll h hid).get? tb = none) (ho:h'.get? tb = some ot) (hd:ot.data = .fields ts):h0.get? tb = none ∧ T tb = .free:=by
 induction q:h.get? tb using Option.casesOn with
 | none=>
  refine ⟨none_older B.live q,?_⟩
  induction z:T tb using Mine.Tag.casesOn with
  | free=>rfl
  | _=>have:=B.tags tb (by rw [z]; exact λ q=>nomatch q); rw [q] at this; cases this
 | some ob=>
  by_cases hF:tb ∈ frsOf es
  ·have nf:=frs_noFields B.frs tb hF ob q
   refine Classical.byContradiction λ hcps=>?_
   obtain ⟨sl,e1⟩:=hup tb ob q nf
   refine hcps ?_
   clear hcps
   have:=(Option.some.inj (ho.symm.trans e1) ▸ hd:({ ob with slots:=sl }:Obj).data = .fields ts)
   exact absurd this (nf ts)
  ·by_cases z:tb ∈ hid
   ·have:=B.own tb z hF; exact ⟨this.new,this.free⟩
   ·rw [hideAll_get hid q z] at hb; cases hb
theorem Base.exc {a0 flv:Value} (B:Base h0 T es h hid e) (x0:h0.get? e = none) (x1:T e = .free) (hfl:flv = .none ∨ ∃ F,fl = some F ∧ flv = rawInt F) (hup:h.UpToSlots h') (ht:h'.TracedAtW (hideAll h hid) e (.ref fault) a0 flv):ExcAt fault h0 T h' fl e:=by
 refine Classical.byContradiction λ hcps=>?_
 obtain ⟨oe,vs,tb,ot,ts,g1,⟨g2,g3⟩,g4,g5,g6,g7,g8,g9,g10⟩:=ht
 obtain ⟨b1,b2⟩:=B.tb hup g6 g8 g9
 refine hcps ?_
 clear hcps
 exact ⟨oe,vs,a0,.ref tb,x0,x1,g1,g2,g4,g3,g5,.mk tb ot ts b1 b2 g7 g8 g9 (hfl.imp (λ (q:flv = .none)=>q ▸ g10) λ ⟨F,h1,(q:flv = rawInt F)⟩=>⟨F,h1,q ▸ g10⟩)⟩
theorem there {b:Heap} {c a0 flv:Value} (x:h'.TracedAtW b e c a0 flv):HasTb h' e:=by
 refine Classical.byContradiction λ hcps=>?_
 obtain ⟨oe,vs,tb,zz,zz,q1,zz,q2,q3,zz⟩:=x
 refine hcps ?_
 clear hcps
 exact ⟨oe,vs,tb,q1,q2,q3⟩
section on
variable (hes:es = env :: outer) (hfr:A.frames = some es) (hf:env.frame = some L) (x:ExcAt fault h0 T s.heap env.frame e) (Fs:Frs T s.heap es) (hl:∀ a,(h0.get? a).isSome = true → (s.heap.get? a).isSome = true) (hT:∀ a,T a ≠ .free → (s.heap.get? a).isSome = true)
include hes hfr hf x Fs hl hT
theorem exc_leave {Q:Unit → Shared → Prop} (hQ:∀ h',ExcMv h0 T es s.heap h' → ExcAt fault h0 T h' none e → Q () { s with heap:=h' }):wpAny M A (leaving env (.ref e)) Q E s:=by
 have hfr':A.frames = some (env :: outer):=hes ▸ hfr
 induction x using Mine.ExcAt.casesOn with
 | mk oe vs a0 t x0 x1 g1 g2 g3 g4 k1 tbk=>
  induction tbk using Mine.TbOk.casesOn with
  | none=>
   have B:=base_of (tbs:=[]) Fs hl hT ⟨oe,vs,x0,x1,g1,g3⟩ λ zz h=>nomatch h
   refine wpAny_leaving_firstW (outer:=outer) hfr' (hes ▸ B.ff) hf g1 B.stay B.hide g3 k1 g4 λ h' hL=>?_
   refine Classical.byContradiction λ hcps=>?_
   obtain ⟨k1,k2,k3,k4⟩:=hL
   refine hcps ?_
   clear hcps
   rw [g2] at k3
   exact hQ h' (B.mv k1 k4) (B.exc (flv:=.none) x0 x1 (.inl rfl) k4 k3.at)
  | mk tb ot ts q1 q2 q3 q4 q5 q6=>
   have B:=base_of (tbs:=[tb]) Fs hl hT ⟨oe,vs,x0,x1,g1,g3⟩ λ t ht=>List.mem_singleton.mp ht ▸ ⟨ot,ts,q1,q2,q4,q5⟩
   have hbt:(hideAll s.heap (e :: ([tb] ++ frsOf es))).get? tb = none:=hideAll_none _ (List.mem_cons_of_mem _ List.mem_cons_self)
   have tr:∀ {v},ts[3]? = some v → s.heap.TracedAtW (hideAll s.heap (e :: ([tb] ++ frsOf es))) e (.ref fault) a0 v:=λ q=>⟨oe,vs,tb,ot,ts,g1,⟨g2,g4⟩,g3,k1,hbt,q3,q4,q5,q⟩
   rcases q6 with q7 | ⟨F,r1,q7⟩
   ·refine wpAny_leaving_nextW (outer:=outer) hfr' (hes ▸ B.ff) hf ⟨oe,vs,tb,ot,ts,g1,⟨g2,g4⟩,g3,k1,hbt,q3,q4,q5,q7⟩ B.stay B.hide λ h' hL=>?_
    refine Classical.byContradiction λ hcps=>?_
    obtain ⟨k1,k2,k3,k4⟩:=hL
    refine hcps ?_
    clear hcps
    exact hQ h' (B.mv k1 k4) (B.exc (flv:=.none) x0 x1 (.inl rfl) k4 k3.at)
   ·cases Option.some.inj (hf.symm.trans r1)
    refine wpAny_bind (wpAny_noteFrame_againW hf (tr q7) (wpAny_landsW (l:=es) ⟨B.stay,B.hide,B.ff,tr q7⟩ λ h' hfl hup=>?_))
    refine Classical.byContradiction λ hcps=>?_
    obtain ⟨k1,k2,k3,k4⟩:=hfl
    refine hcps ?_
    clear hcps
    exact hQ h' (B.mv k1 hup) (B.exc (flv:=.none) x0 x1 (.inl rfl) hup k4.at)
theorem exc_note {Q:Unit → Shared → Prop} (hQ:∀ h',ExcMv h0 T es s.heap h' → ExcAt fault h0 T h' env.frame e → HasTb h' e → Q () { s with heap:=h' }):wpAny M A (noteFrame (.ref e) env) Q E s:=by
 have hfr':A.frames = some (env :: outer):=hes ▸ hfr
 have hx:=x
 induction x using Mine.ExcAt.casesOn with
 | mk oe vs a0 t x0 x1 g1 g2 g3 g4 k1 tbk=>
  have flv:rawInt L = .none ∨ ∃ F,env.frame = some F ∧ rawInt L = rawInt F:=.inr ⟨L,hf,rfl⟩
  induction tbk using Mine.TbOk.casesOn with
  | none=>
   have B:=base_of (tbs:=[]) Fs hl hT ⟨oe,vs,x0,x1,g1,g3⟩ λ zz h=>nomatch h
   unfold noteFrame
   rw [hf]
   refine wpAny_bind (wpAny_field g1 g3 k1 ?_)
   rw [if_neg (by decide)]
   refine wpAny_entryW (outer:=outer) hfr' (hes ▸ B.ff) hf g1 B.stay B.hide g3 (Array.getElem?_eq_some_iff.mp k1).1 g4 λ h' hL=>?_
   refine Classical.byContradiction λ hcps=>?_
   obtain ⟨k1,k2,k3,k4⟩:=hL
   refine hcps ?_
   clear hcps
   rw [g2] at k3
   exact hQ h' (B.mv k1 k4) (B.exc x0 x1 flv k4 k3) (there k3)
  | mk tb ot ts q1 q2 q3 q4 q5 q6=>
   have B:=base_of (tbs:=[tb]) Fs hl hT ⟨oe,vs,x0,x1,g1,g3⟩ λ t ht=>List.mem_singleton.mp ht ▸ ⟨ot,ts,q1,q2,q4,q5⟩
   have hbt:(hideAll s.heap (e :: ([tb] ++ frsOf es))).get? tb = none:=hideAll_none _ (List.mem_cons_of_mem _ List.mem_cons_self)
   rcases q6 with q7 | ⟨F,r1,q7⟩
   ·refine wpAny_noteFrame_onW (outer:=outer) hfr' (hes ▸ B.ff) hf ⟨oe,vs,tb,ot,ts,g1,⟨g2,g4⟩,g3,k1,hbt,q3,q4,q5,q7⟩ B.stay B.hide λ h' hL=>?_
    refine Classical.byContradiction λ hcps=>?_
    obtain ⟨k1,k2,k3,k4⟩:=hL
    refine hcps ?_
    clear hcps
    exact hQ h' (B.mv k1 k4) (B.exc x0 x1 flv k4 k3) (there k3)
   ·cases Option.some.inj (hf.symm.trans r1)
    exact wpAny_noteFrame_againW hf (base:=hideAll s.heap (e :: ([tb] ++ frsOf es))) ⟨oe,vs,tb,ot,ts,g1,⟨g2,g4⟩,g3,k1,hbt,q3,q4,q5,q7⟩ (hQ s.heap (B.mv B.stay (Heap.UpToSlots.refl _)) hx ⟨oe,vs,tb,g1,g3,k1⟩)
end on
theorem exc_flight {fl':Option Addr} (x:ExcAt fault h0 T s.heap fl e) (ht:HasTb s.heap e)
  {Q:Unit → Shared → Prop} (hQ:∀ h',ExcMv h0 T es s.heap h' → ExcAt fault h0 T h' fl' e → HasTb h' e → Q () { s with heap:=h' }):wpAny M A (setFlight (.ref e) fl') Q E s:=by
 induction x using Mine.ExcAt.casesOn with
 | mk oe vs a0 t x0 x1 g1 g2 g3 g4 k1 tbk=>
  induction tbk using Mine.TbOk.casesOn with
  | none=>
   induction ht using Mine.HasTb.casesOn with
   | mk oe' vs' tb' t1 t2 t3=>
    have e2:vs = vs':=Data.fields.inj (g3.symm.trans (Option.some.inj (t1.symm.trans g1) ▸ t2))
    rw [← e2,k1] at t3; cases t3
  | mk tb ot ts q1 q2 q3 q4 q5 q6=>
   have h3:3 < ts.size:=q6.elim (λ q=>(Array.getElem?_eq_some_iff.mp q).1) λ ⟨F,_,q⟩=>(Array.getElem?_eq_some_iff.mp q).1
   unfold setFlight
   refine wpAny_bind (wpAny_field g1 g3 k1 ?_)
   rw [if_pos (show (Value.ref tb != Value.none) = true from rfl)]
   have oth:∀ {F:Obj → Obj} {b o},b ≠ tb → s.heap.get? b = some o → (s.heap.update tb F).get? b = some o:=λ nb e=>(Heap.get?_update_other _ _ (Ne.symm nb)).trans e
   refine wpAny_setField q4 q5 h3 (hQ _ ⟨λ a=>a = tb,λ a q=>q ▸ ⟨ot,ts,q1,q2,q4,q5⟩,λ b o nb hb=>⟨o.slots,oth nb hb,λ zz=>rfl⟩⟩ ?_ ⟨oe,vs,tb,oth q3.symm g1,g3,k1⟩)
   refine ⟨oe,vs,a0,.ref tb,x0,x1,oth q3.symm g1,g2,g3,g4,k1,.mk tb _ _ q1 q2 q3 (Heap.get?_update_self _ q4 (Obj.isFreed_of_fields (Obj.data_mapFields q5 _))) (Obj.data_mapFields q5 _) ?_⟩
   induction fl' using Option.casesOn with
   | none=>exact .inl (Array.getElem?_setIfInBounds_self_of_lt h3)
   | some F=>exact .inr ⟨F,rfl,Array.getElem?_setIfInBounds_self_of_lt h3⟩
end
end Mine
end
section
open PySem PySem.W PySem.Calls PyProof.Rows Builtin Builtin.ObjectAttr
set_option backward.match.sparseCases false
namespace Mine
inductive OwnFr (A:Around) (env:Env) (es:List Env):Prop
 | mk (outer:List Env) (L:Addr) (top:es = env :: outer) (fr:A.frames = some es) (here:env.frame = some L):OwnFr A env es
section
variable {prog:Program} {w:World} {M:Model} {h₀:Heap} {K:Tbl} {ro ro':Bool} {f:Frm} {env:Env} {es outer:List Env} {A:Around} {T T0:Tags} {c c0:Cells} {l l0 l':Locs} {s s0:Shared} {d:Nat} {cf:Callee} {n:Nat} {mg mb:Str → Option Value} {X:Frag} {e:Addr}
structure Fly (w:World) (h₀:Heap) (fault:Addr) (ro:Bool) (env:Env) (es:List Env) (T0:Tags) (s0:Shared) (T:Tags) (c:Cells) (s:Shared) (e:Addr):Prop where
 rof:ro = false
 step:Step ro (frsOf es) env.locals T0 s0.heap T s.heap
 same:Alike s0 s
 wd:Wd w h₀ T c s.heap
 frs:Frs T s.heap es
 loc:Loc T s.heap env []
 exc:ExcAt fault s0.heap T s.heap env.frame e
theorem fly_of {c:Cells} {v:Value} {α:Type} {P:Prop} (q:ER (w:=w) h₀ K ro env es T0 s0 (β:=α) (.exc c) v s) (k:∀ T e,v = .ref e → Fly w h₀ K.fault ro env es T0 s0 T c s e → P):P:=by
 induction show ExcR (w:=w) h₀ K ro env es T0 s0 c s v from q using Mine.ExcR.casesOn with
 | mk T' e h1 h2 h3 h4 h5 h6 h7=>exact k T' e rfl ⟨h1,h2,h3,h4,h5,h6,h7⟩
theorem Fly.er {α:Type} (x:Fly w h₀ K.fault ro env es T0 s0 T c s e):ER (w:=w) h₀ K ro env es T0 s0 (β:=α) (.exc c) (.ref e) s:=ExcR.mk T e x.rof x.step x.same x.wd x.frs x.loc x.exc
theorem Fly.move {fault:Addr} {h':Heap} (x:Fly w h₀ fault ro env es T0 s0 T c s e) (mv:ExcMv s0.heap T es s.heap h') (y:ExcAt fault s0.heap T h' env.frame e):Fly w h₀ fault ro env es T0 s0 T c { s with heap:=h' } e:=by
 induction mv using Mine.ExcMv.casesOn with
 | mk S hS hk=>
  have live:∀ {a o},s0.heap.get? a = some o → ¬ S a:=λ e q=>by rw [(hS _ q).new] at e; cases e
  have nS:∀ {a o},s.heap.get? a = some o → (∀ vs,o.data ≠ .fields vs) → ¬ S a:=λ e hd q=>(hS _ q).not e hd
  have tF:∀ {a},a ∈ frsOf es → T a = .free:=λ q=>by
   refine Classical.byContradiction λ hcps=>?_
   obtain ⟨y,hy,hq⟩:=List.mem_filterMap.mp q
   obtain ⟨zz,F,o',hf,ht,zz⟩:=x.frs y hy
   refine hcps ?_
   clear hcps
   exact Option.some.inj (hf.symm.trans hq) ▸ ht
  have step:Step ro (frsOf es) env.locals T0 s0.heap T h':=by
   refine ⟨λ a ha=>?_,x.step.tag,λ a o hL hf e=>?_,λ q=>by rw [x.rof] at q; cases q⟩
   ·refine Classical.byContradiction λ hcps=>?_
    obtain ⟨o0,e0⟩:=Option.isSome_iff_exists.mp ha
    obtain ⟨o,eo⟩:=Option.isSome_iff_exists.mp (x.step.live a ha)
    obtain ⟨sl,e1,zz⟩:=hk a o (live e0) eo
    refine hcps ?_
    clear hcps
    exact liveOf e1
   ·refine Classical.byContradiction λ hcps=>?_
    obtain ⟨sl,e1,e2⟩:=x.step.keep a o hL hf e
    obtain ⟨sl',e3,e4⟩:=hk a _ (live e) e1
    refine hcps ?_
    clear hcps
    exact ⟨sl',e3,λ hF=>(e4 hF).trans (e2 hF)⟩
  have keep:∀ {a o},a ∉ frsOf es → ¬ S a → s.heap.get? a = some o → h'.get? a = some o:=λ nF nS e=>by
   refine Classical.byContradiction λ hcps=>?_
   obtain ⟨sl,e1,e2⟩:=hk _ _ nS e
   refine hcps ?_
   clear hcps
   rw [e2 nF] at e1
   exact e1
  have wd:Wd w h₀ T c h':=x.wd.free w λ a o ha e=>keep (λ q=>ha (tF q)) (λ q=>ha (hS a q).free) e
  have frs:Frs T h' es:=λ y hy=>by
   refine Classical.byContradiction λ hcps=>?_
   obtain ⟨h1,F,o,h2,h3,h4,h5⟩:=x.frs y hy
   obtain ⟨sl,e1,zz⟩:=hk F o (nS h4 h5) h4
   refine hcps ?_
   clear hcps
   exact ⟨h1,F,_,h2,h3,e1,h5⟩
  have loc:Loc T h' env []:=by
   refine Classical.byContradiction λ hcps=>?_
   obtain ⟨lf,m,⟨o,es',ep,ho,hd,hm⟩,lr⟩:=x.loc
   obtain ⟨sl,e1,zz⟩:=hk _ o (nS ho λ vs q=>nomatch hd.symm.trans q) ho
   refine hcps ?_
   clear hcps
   exact ⟨lf,m,⟨_,es',ep,e1,hd,hm⟩,lr⟩
  exact ⟨x.rof,step,x.same.trans ⟨h',_,rfl⟩,wd,frs,loc,y⟩
theorem Fly.passes {α:Type} (O:OwnFr A env es) (x:Fly w h₀ K.fault ro env es T0 s0 T c s e):notedBy (model prog w) A env (cameBackBy (model prog w) A env (ER (w:=w) h₀ K ro env es T0 s0 (β:=α) (.exc c))) (.ref e) s:=by
 induction O using Mine.OwnFr.casesOn with
 | mk outer L hes hfr hf=>
  refine exc_note hes hfr hf x.exc x.frs x.step.live x.wd.live λ h' mv y tb=>?_
  have x2:=x.move mv y
  have tb2:=tb
  induction tb using Mine.HasTb.casesOn with
  | mk oe vs tb' q1 q2 q3=>
   refine wpAny_bind (wpAny_field q1 q2 q3 ?_)
   rw [if_neg (λ q=>nomatch q)]
   exact exc_flight (es:=es) x2.exc tb2 λ h2 mv2 y2 zz=>(x2.move mv2 y2).er
theorem er_passes {α:Type} (O:OwnFr A env es) {r:R α} {v:Value} (q:ER (w:=w) h₀ K ro env es T0 s0 r v s):notedBy (model prog w) A env (cameBackBy (model prog w) A env (ER (w:=w) h₀ K ro env es T0 s0 r)) v s:=by
 induction r using Mine.R.casesOn with
 | exc c=>exact fly_of q λ T e hv x=>hv ▸ x.passes O
 | _=>exact q.elim
theorem Step.weak {Fs:List Addr} {L:Addr} {T T':Tags} {h h':Heap} (x:Step ro' Fs L T h T' h') (hro:ro = true → ro' = true):Step ro Fs L T h T' h':=⟨x.live,x.tag,x.keep,λ q=>x.rest (hro q)⟩
theorem Out.weak {T':Tags} {c':Cells} {s':Shared} (x:Out (w:=w) h₀ ro' f env es T s T' c' l' s') (hro:ro = true → ro' = true):Out (w:=w) h₀ ro f env es T s T' c' l' s':=⟨x.step.weak hro,x.same,x.pre⟩
theorem ER.weak {α:Type} {r:R α} {v:Value} {s':Shared} (x:ER (w:=w) h₀ K ro' env es T s r v s') (hro:ro = true → ro' = true):ER (w:=w) h₀ K ro env es T s r v s':=by
 induction r using Mine.R.casesOn with
 | exc c=>
  induction show ExcR (w:=w) h₀ K ro' env es T s c s' v from x using Mine.ExcR.casesOn with
  | mk T' e h0 h2 h3 h4 h5 h6 h7=>
   refine ExcR.mk T' e ?_ (h2.weak hro) h3 h4 h5 h6 h7
   induction ro using Bool.casesOn with
   | false=>rfl
   | true=>exact (hro rfl).symm.trans h0
 | _=>exact x.elim
inductive RetV (T:Tags) (v:PV):Flow → Prop
 | mk (u:Value) (h:Rel T v u):RetV T v (.ret u)
noncomputable def RF:Tags → Flw → Flow → Prop:=λ T w=>match w with
 | .nxt=>(· = .next)
 | .ret v=>RetV T v
structure ExOk (prog:Program) (w:World) (h₀:Heap) (K:Tbl) (cf:Callee) (d n:Nat):Prop where
 s:∀ (ro:Bool) (f:Frm) (env:Env) (es:List Env) (A:Around) (T:Tags) (c:Cells) (l:Locs) (s:Shared) (x:Stmt),AOk A d es → OwnFr A env es → Pre (w:=w) h₀ T c l s f env es →
  At (w:=w) h₀ K ro f env es prog A T c l s (exec x env) (exS K cf n ro f x) RF
 l:∀ (ro:Bool) (f:Frm) (env:Env) (es:List Env) (A:Around) (T:Tags) (c:Cells) (l:Locs) (s:Shared) (x:List Stmt),AOk A d es → OwnFr A env es → Pre (w:=w) h₀ T c l s f env es →
  At (w:=w) h₀ K ro f env es prog A T c l s (execs x env) (exL K cf n ro f x) RF
set_option backward.match.sparseCases true in
theorem ex_l (I:ExOk prog w h₀ K cf d n) (hA:AOk A d es) (O:OwnFr A env es) (P:Pre (w:=w) h₀ T c l s f env es) (xs:List Stmt) :
  At (w:=w) h₀ K ro f env es prog A T c l s (execs xs env) (exL K cf (n + 1) ro f xs) RF:=by
 induction xs using List.casesOn with
 | nil=>exact At.eq rfl (At.ret P rfl)
 | cons x r=>
  refine At.eq (t':=exec x env >>= λ fl=>match fl with | .next=>execs r env | fl=>pure fl) rfl ?_
  refine At.bind (I.s _ _ _ _ _ _ _ _ _ _ hA O P) λ v c' l' u s' T' o rr=>?_
  induction v using Mine.Flw.casesOn with
  | nxt=>subst rr; exact I.l _ _ _ _ _ _ _ _ _ _ hA O o.pre
  | ret v=>induction rr using Mine.RetV.casesOn with | mk z rz=>exact At.eq rfl (At.ret o.pre (RetV.mk z rz))
end
end Mine
end
section
open PySem PySem.W PySem.Calls PyProof.Rows Builtin Builtin.ObjectAttr
set_option backward.match.sparseCases false
namespace Mine
theorem bnd_assoc {α β γ:Type} (m:M α) (p:α → M β) (g:β → M γ):bnd (bnd m p) g = bnd m λ a=>bnd (p a) g:=by
 funext c l
 unfold bnd
 cases m c l <;> rfl
section
variable {it:It} {turn:PV → M Flw} {k i:Nat} {c:Cells} {l:Locs}
theorem loop_eq:loopIt it turn (k + 1) i c l = onItm (itemAt c it i) (ret .nxt) (λ v=>bnd (turn v) (onFlw (loopIt it turn k (i + 1)))) c l:=rfl
theorem loop_item {p:PV} (h:itemAt c it i = some (some p)):loopIt it turn (k + 1) i c l = bnd (turn p) (onFlw (loopIt it turn k (i + 1))) c l:=by rw [loop_eq,h]; rfl
theorem loop_end (h:itemAt c it i = some none):loopIt it turn (k + 1) i c l = .ok .nxt c l:=by rw [loop_eq,h]; rfl
theorem loop_no (h:itemAt c it i = none):loopIt it turn (k + 1) i c l = .fail:=by rw [loop_eq,h]; rfl
end
section
variable {prog:Program} {w:World} {M:Model} {h₀:Heap} {K:Tbl} {ro ro':Bool} {f:Frm} {env:Env} {es outer:List Env} {A:Around} {T T0:Tags} {c c0:Cells} {l l0 l':Locs} {s s0:Shared} {d:Nat} {cf:Callee} {n:Nat} {mg mb:Str → Option Value} {X:Frag} {e:Addr}
noncomputable def LoopR (w:World) (h₀:Heap) (K:Tbl) (ro:Bool) (f:Frm) (env:Env) (es:List Env) (A:Around) (prog:Program) (T0:Tags) (s0:Shared) (r:R Flw):Result → Shared → Prop:=λ x s'=>match x with
 | .ok fl=>QR (w:=w) h₀ ro f env es RF T0 s0 r fl s'
 | .error e=>cameBackBy (model prog w) A env (ER (w:=w) h₀ K ro env es T0 s0 r) e s'
theorem loop_lift (O:OwnFr A env es) {r r':R Flw} {v:Value} {s2 s3:Shared} {T2:Tags} {c2:Cells} {l2:Locs} (hro:ro = true → ro' = true) (o:Out (w:=w) h₀ ro f env es T0 s0 T2 c2 l2 s2) (q:ER (w:=w) h₀ K ro' env es T2 s2 r v s3) (e:r' = r):notedBy (model prog w) A env (λ e s'=>LoopR w h₀ K ro f env es A prog T0 s0 r' (.error e) s') v s3:=
 e ▸ er_passes O ((q.weak hro).trans o)
theorem for_loop {tg:Expr} {body:List Stmt} {it:It} {J:Addr} (I:EvOk prog w h₀ K cf d n) (IX:ExOk prog w h₀ K cf d n) (hA:AOk A d es) (O:OwnFr A env es) (P0:Pre (w:=w) h₀ T0 c0 l0 s0 f env es)
  (hft:it.fits tg = true) (hro:ro = true → ro' = true) (hro2:it.isRo = true → ro' = true) :
  ∀ (k i:Nat) (T:Tags) (c:Cells) (l:Locs) (s:Shared),
   Run (w:=w) h₀ ro f env es T0 s0 l f env none T c l s → ItAt s0.heap T s.heap J it i →
   loopIt it (λ v=>bnd (stTarget K cf n ro' f tg v) λ zz=>exL K cf n ro' f body) k i c l ≠ .fail →
   codeAny (model prog w) A (.forLoop tg (.ref J) body [] env) (LoopR w h₀ K ro f env es A prog T0 s0 (loopIt it (λ v=>bnd (stTarget K cf n ro' f tg v) λ zz=>exL K cf n ro' f body) k i c l)) s:=by
 intro k
 induction k with
 | zero=>intro i T c l s zz zz h; exact absurd rfl h
 | succ k ih=>
  intro i T c l s hrun hit hnf
  refine codeAny_of_tree ?_
  show wpAny _ A ((forTurn tg (.ref J) body [] env).onRaise (λ x=>do noteFrame x env; theTreesLotGoes x)) _ _ s
  refine wpAny_noted ?_
  unfold forTurn
  refine wpAny_bind (wpAny_standAt (wpAny_bind (wpAny_onRaise ?_)))
  induction hi:itemAt c it i using Option.casesOn with
  | none=>exact absurd (loop_no hi) hnf
  | some r=>
   induction r using Option.casesOn with
   | none=>
    rw [loop_end hi]
    exact it_none hA P0 hrun hit hft hi λ s1 o=>wpAny_pure ⟨rfl,codeAny_block (wpAny_execs_nil ⟨T,o.out,rfl⟩)⟩
   | some p=>
    rw [loop_item hi,bnd_assoc] at hnf ⊢
    refine it_some hA P0 hrun hit hft hi λ u T1 s1 zz ru go=>wpAny_bind (go _ _ λ s2 r2 i2=>wpAny_bind ?_)
    refine At.seqP (I.st ro' f env es A T1 c l _ tg p u hA r2.pre ru) hnf (λ v s3 q=>loop_lift O hro r2.out q rfl) λ zz c3 l3 zz s3 T3 e3 hb3 o3 zz hg3=>wpAny_bind ?_
    have out3:=r2.out.trans (o3.weak hro)
    refine At.seqP (IX.l ro' f env es A T3 c3 l3 s3 body hA O o3.pre) hg3 (λ v s4 q=>loop_lift O hro out3 q hb3) λ w4 c4 l4 fl s4 T4 e4 hb4 o4 r4 hg4=>?_
    rw [hb3,hb4]
    have out4:=out3.trans (o4.weak hro)
    induction w4 using Mine.Flw.casesOn with
    | nxt=>
     subst r4
     have i3:=i2.step o3.step (o3.le r2.pre) r2.pre.loc.ns.choose_spec.1 r2.pre.loc.free (frs_live P0.frs) hro2
     exact wpAny_pure ⟨rfl,ih (i + 1) T4 c4 l4 s4 ⟨out4,o4.pre,λ zz zz q=>nomatch q⟩ (i3.step o4.step (o4.le o3.pre) o3.pre.loc.ns.choose_spec.1 o3.pre.loc.free (frs_live P0.frs) hro2) hg4⟩
    | ret v=>induction r4 using Mine.RetV.casesOn with | mk z rz=>exact wpAny_pure ⟨T4,out4,RetV.mk z rz⟩
theorem while_loop {test:Expr} {body:List Stmt} (I:EvOk prog w h₀ K cf d n) (IX:ExOk prog w h₀ K cf d n) (hA:AOk A d es) (O:OwnFr A env es) :
  ∀ (k:Nat) (T:Tags) (c:Cells) (l:Locs) (s:Shared),Out (w:=w) h₀ ro f env es T0 s0 T c l s → loopN (tst K cf n ro f test) (exL K cf n ro f body) k c l ≠ .fail →
   codeAny (model prog w) A (.whileLoop test body [] env) (LoopR w h₀ K ro f env es A prog T0 s0 (loopN (tst K cf n ro f test) (exL K cf n ro f body) k c l)) s:=by
 intro k
 induction k with
 | zero=>intro T c l s zz h; exact absurd rfl h
 | succ k ih=>
  intro T c l s o hnf
  refine codeAny_of_tree ?_
  show wpAny _ A ((whileTurn test body [] env).onRaise (λ x=>do noteFrame x env; theTreesLotGoes x)) _ _ s
  refine wpAny_noted ?_
  unfold whileTurn
  refine wpAny_bind (At.seqP (I.t ro f env es A T c l s test hA o.pre) hnf (λ v s3 q=>loop_lift O id o q rfl) λ b c3 l3 b' s3 T3 e3 hb3 o3 rb hg3=>?_)
  cases rb
  have out3:=o.trans o3
  induction b using Bool.casesOn with
  | false=>
   rw [show loopN (tst K cf n ro f test) (exL K cf n ro f body) (k + 1) c l = _ from hb3]
   exact wpAny_bind (wpAny_execs_nil (wpAny_pure ⟨T3,out3,rfl⟩))
  | true=>
   refine wpAny_bind (At.seqP (IX.l ro f env es A T3 c3 l3 s3 body hA O o3.pre) hg3 (λ v s4 q=>loop_lift O id out3 q hb3) λ w4 c4 l4 fl s4 T4 e4 hb4 o4 r4 hg4=>?_)
   rw [show loopN (tst K cf n ro f test) (exL K cf n ro f body) (k + 1) c l = _ from hb3.trans hb4]
   have out4:=out3.trans o4
   induction w4 using Mine.Flw.casesOn with
   | nxt=>subst r4; exact wpAny_pure ⟨rfl,ih T4 c4 l4 s4 out4 hg4⟩
   | ret v=>induction r4 using Mine.RetV.casesOn with | mk z rz=>exact wpAny_pure ⟨T4,out4,RetV.mk z rz⟩
end
end Mine
end
section
open PySem PySem.W PySem.Calls PyProof.Rows Builtin Builtin.ObjectAttr
set_option backward.match.sparseCases false
namespace Mine
section
variable {prog:Program} {w:World} {h₀:Heap} {K:Tbl} {ro ro':Bool} {f:Frm} {env:Env} {es outer:List Env} {A:Around} {T T0:Tags} {c c0:Cells} {l l0 l':Locs} {s s0:Shared} {d:Nat} {cf:Callee} {n:Nat} {mg mb:Str → Option Value} {X:Frag} {e:Addr}
theorem loop_out {r r':R Flw} {x:Result} {s1 s3:Shared} {T':Tags} {c':Cells} {l':Locs} (o1:Out (w:=w) h₀ ro f env es T s T' c' l' s1) (e:r' = r) (q:LoopR w h₀ K ro f env es A prog T' s1 r x s3):LoopR w h₀ K ro f env es A prog T s r' x s3:=by
 subst e
 induction x using Except.casesOn with
 | ok fl=>exact QR.trans o1 q
 | error e=>exact wpAny_mono q (λ zz zz z=>z.trans o1) λ zz zz z=>z.trans o1
theorem ex_for (V:World0 h₀ K X mg mb) (I:EvOk prog w h₀ K cf d n) (IX:ExOk prog w h₀ K cf d n) (hA:AOk A d es) (O:OwnFr A env es) (P:Pre (w:=w) h₀ T c l s f env es) {tg it:Expr} {b:List Stmt} {pos:Pos} (hset:isSet it = false) :
  At (w:=w) h₀ K ro f env es prog A T c l s (exec (.For tg it b [] pos) env)
   (forS (isTup tg) (evE K cf n ro f it) λ i v=>bnd (stTarget K cf n (ro || i.isRo) f tg v) λ zz=>exL K cf n (ro || i.isRo) f b) RF:=by
 intro hnf
 refine wpAny_For ?_ (folded_id hset env)
 refine At.seqP (I.e ro f env es A T c l s it hA P) hnf (λ zz zz q=>q) λ x c' l' u s1 T1 e1 hb1 o1 rx hg=>it_seq (ro:=ro) o1.pre rx hg λ i c2 l2 J s2 T2 hb2 o2 hit hg2=>?_
 have hft:i.fits tg = true:=by
  unfold It.fits
  induction e:fitsB (isTup tg) i using Bool.casesOn with
  | true=>rfl
  | false=>rw [e] at hg2; exact absurd rfl hg2
 have hm:=hb1.trans (hb2.trans (by rw [show fitsB (isTup tg) i = true from hft]; rfl:_ = loopIt i (λ v=>bnd (stTarget K cf n (ro || i.isRo) f tg v) λ zz=>exL K cf n (ro || i.isRo) f b) turns 0 c2 l2))
 exact codeAny_mono (for_loop I IX hA O o1.pre hft (ro':=ro || i.isRo) (λ q=>by rw [q,Bool.true_or]) (λ q=>by rw [q,Bool.or_true]) turns 0 T2 c2 l2 s2 ⟨o2,o2.pre,λ zz zz q=>nomatch q⟩ hit λ q=>hnf (hm.trans q)) λ r s3 q=>(have q:=loop_out o1 hm q; by cases r <;> exact q)
noncomputable abbrev fzG (t:Bool) (b:PV → M Flw) (zv x y:PV):M Flw:=gd (t && isTyp "zip" zv) (opt (refOf x) λ i=>opt (refOf y) λ j=>loopIt (.zip i j) b turns 0)
inductive FzR (t:Bool) (b:PV → M Flw) (zv x y:PV) (c:Cells) (l:Locs):Prop
 | mk (i j:Nat) (ht:t = true) (hz:zv = .val (.type "zip")) (hx:x = .ref i) (hy:y = .ref j) (e:fzG t b zv x y c l = loopIt (.zip i j) b turns 0 c l):FzR t b zv x y c l
theorem refOf_some {x:PV} {i:Nat}:refOf x = some i → x = .ref i:=by
 induction x using Mine.PV.casesOn with
 | ref j=>exact λ h=>congrArg PV.ref (Option.some.inj h)
 | _=>exact nS
theorem fz_go {t:Bool} {b:PV → M Flw} {zv x y:PV} (h:fzG t b zv x y c l ≠ .fail):FzR t b zv x y c l:=by
 induction hg:t && isTyp "zip" zv using Bool.casesOn with
 | false=>unfold fzG at h; rw [hg] at h; exact absurd rfl h
 | true=>
  have e:fzG t b zv x y = opt (refOf x) λ i=>opt (refOf y) λ j=>loopIt (.zip i j) b turns 0:=by unfold fzG; rw [hg]; rfl
  rw [e] at h
  induction hx:refOf x using Option.casesOn with
  | none=>rw [hx] at h; exact absurd rfl h
  | some i=>
   induction hy:refOf y using Option.casesOn with
   | none=>rw [hx,hy] at h; exact absurd rfl h
   | some j=>exact ⟨i,j,and_l hg,isTyp_some (and_r hg),refOf_some hx,refOf_some hy,by rw [e,hx,hy]; rfl⟩
theorem fz_zip {t:Bool} {b:PV → M Flw} {zv x y:PV} (h:fzG t b zv x y c l ≠ .fail):ZipGo c zv x y:=by
 induction fz_go h using Mine.FzR.casesOn with
 | mk i j ht hz hx hy e=>
  rw [e] at h
  induction hi:itemAt c (.zip i j) 0 using Option.casesOn with
  | none=>exact absurd (loop_no (k:=199) hi) h
  | some r=>
   refine Classical.byContradiction λ hcps=>?_
   obtain ⟨xs,hxs,hi⟩:=Option.bind_eq_some_iff.mp hi
   obtain ⟨ys,hys,zz⟩:=Option.bind_eq_some_iff.mp hi
   refine hcps ?_
   clear hcps
   exact ⟨i,j,xs,ys,hz,hx,hy,lstAtC_some hxs,lstAtC_some hys⟩
theorem ex_forzip (V:World0 h₀ K X mg mb) (I:EvOk prog w h₀ K cf d n) (IX:ExOk prog w h₀ K cf d n) (hA:AOk A d es) (O:OwnFr A env es) (P:Pre (w:=w) h₀ T c l s f env es) {tg p q:Expr} {b:List Stmt} {p1 p2 pos:Pos} (hp:notStar p = true) (hq:notStar q = true) :
  At (w:=w) h₀ K ro f env es prog A T c l s (exec (.For tg (.Call (.Name "zip" p1) [p,q] [] p2) b [] pos) env)
   (fzip (isTup tg) (ldName K f "zip") (evE K cf n ro f p) (evE K cf n ro f q) λ v=>bnd (stTarget K cf n ro f tg v) λ zz=>exL K cf n ro f b) RF:=by
 intro hnf
 refine wpAny_For ?_ (λ zz=>rfl)
 refine zip_wp (g:=fzG (isTup tg) λ v=>bnd (stTarget K cf n ro f tg v) λ zz=>exL K cf n ro f b) P hp hq (at_Name V P _ _) (λ zz zz zz zz P=>I.e _ _ _ _ _ _ _ _ _ _ hA P) (λ zz zz zz zz P=>I.e _ _ _ _ _ _ _ _ _ _ hA P) hnf (λ zv x y c l hg=>fz_zip hg) (λ zz zz q=>q) λ a b' xs ys c' l' J T' s1 s2 e o1 o2 hxs hys hit zz hg=>it_self hit ?_
 induction fz_go hg using Mine.FzR.casesOn with
 | mk i j ht hz hx hy e2=>
  cases hx; cases hy
  rw [e2] at hg
  exact codeAny_mono (for_loop I IX hA O o1.pre (it:=.zip a b') ht (ro':=ro) (λ q=>q) (λ q=>nomatch q) turns 0 T' c' l' s2 ⟨o2,o2.pre,λ zz zz q=>nomatch q⟩ hit hg) λ r s3 qq=>(have qq:=loop_out o1 (e.trans e2) qq; by cases r <;> exact qq)
theorem notcomp_swap {e:Expr}:isComp e = false → ∀ (t:Option Expr) (line:Nat),swapsWith e t line env = pure false:=by
 induction e using PySem.Expr.casesOn with
 | ListComp=>exact λ h=>nomatch h
 | SetComp=>exact λ h=>nomatch h
 | DictComp=>exact λ h=>nomatch h
 | _=>exact λ zz zz zz=>rfl
theorem at_dropValue {x:Expr} {pos:Pos} {u:Value} {Q:Flow → Shared → Prop} {E:Value → Shared → Prop} (q:Q .next s):wpAny (model prog w) A (dropValue x pos u) Q E s:=by
 unfold dropValue
 split
 ·exact wpAny_pure q
 ·exact wpAny_bind (wpAny_standAt (wpAny_bind (wpAny_runValue (codeAny_builtin entry_let_go (show wpAny _ _ (PySem.ret .none) _ _ s from wpAny_pure (wpAny_pure q))))))
 ·exact wpAny_pure q
theorem ex_expr (I:EvOk prog w h₀ K cf d n) (hA:AOk A d es) (P:Pre (w:=w) h₀ T c l s f env es) {x:Expr} {pos:Pos} (hc:isComp x = false) :
  At (w:=w) h₀ K ro f env es prog A T c l s (exec (.Expr x pos) env) (expS (evE K cf n ro f x)) RF:=by
 have hint:interactive env = false:=by unfold interactive; rw [P.frm.kind]; rfl
 refine At.eq (t':=standAt pos >>= λ zz=>if interactive env then printExpr (eval x env) else (swapsWith x none pos.line env >>= λ b=>if b then (evalThenUse x env (λ zz=>point) >>= λ zz=>pure .next) else (eval x env >>= λ v=>dropValue x pos v))) rfl (At.pos ?_)
 rw [hint,notcomp_swap hc]
 refine At.eq (t':=eval x env >>= λ v=>dropValue x pos v) rfl ?_
 refine At.bind (I.e _ _ _ _ _ _ _ _ _ _ hA P) λ v c' l' u s' T' o r=>?_
 exact λ zz=>at_dropValue ⟨T',Out.refl o.pre,rfl⟩
theorem ex_if (I:EvOk prog w h₀ K cf d n) (IX:ExOk prog w h₀ K cf d n) (hA:AOk A d es) (O:OwnFr A env es) (P:Pre (w:=w) h₀ T c l s f env es) {t:Expr} {a b:List Stmt} {pos:Pos} :
  At (w:=w) h₀ K ro f env es prog A T c l s (exec (.If t a b pos) env) (ifM (tst K cf n ro f t) (exL K cf n ro f a) (exL K cf n ro f b)) RF:=by
 refine At.eq (t':=standAt pos >>= λ zz=>isTrue t env (eval t env) >>= λ q=>if q then execs a env else execs b env) rfl (At.pos ?_)
 refine At.bind (I.t _ _ _ _ _ _ _ _ _ _ hA P) λ q c' l' u s' T' o r=>?_
 cases r
 cases q
 ·exact IX.l _ _ _ _ _ _ _ _ _ _ hA O o.pre
 ·exact IX.l _ _ _ _ _ _ _ _ _ _ hA O o.pre
theorem ex_ret (I:EvOk prog w h₀ K cf d n) (hA:AOk A d es) (P:Pre (w:=w) h₀ T c l s f env es) {x:Expr} {pos:Pos} :
  At (w:=w) h₀ K ro f env es prog A T c l s (exec (.Return (some x) pos) env) (retS (evE K cf n ro f x)) RF:=by
 refine At.eq (t':=standAt pos >>= λ zz=>eval x env >>= λ v=>pure (.ret v)) rfl (At.pos ?_)
 refine At.bind (I.e _ _ _ _ _ _ _ _ _ _ hA P) λ v c' l' u s' T' o r=>?_
 exact At.ret o.pre (RetV.mk u r)
theorem ex_while (I:EvOk prog w h₀ K cf d n) (IX:ExOk prog w h₀ K cf d n) (hA:AOk A d es) (O:OwnFr A env es) (P:Pre (w:=w) h₀ T c l s f env es) {t:Expr} {b:List Stmt} {pos:Pos} :
  At (w:=w) h₀ K ro f env es prog A T c l s (exec (.While t b [] pos) env) (loopN (tst K cf n ro f t) (exL K cf n ro f b) turns) RF:=by
 intro hnf
 exact wpAny_While (codeAny_mono (while_loop I IX hA O turns T c l s (Out.refl P) hnf) λ r s3 q=>by cases r <;> exact q)
theorem ex_assign1 {t x:Expr} {pos:Pos} {m:M PV} {ms:PV → M Unit} (hsw:swapsWithSole [t] x pos.line env = pure false) (hst:swappedStores [t] x env = pure none)
  (hm:At (w:=w) h₀ K ro f env es prog A T c l s (eval x env) m RV)
  (hs:∀ v u T c l s,Pre (w:=w) h₀ T c l s f env es → Rel T v u → At (w:=w) h₀ K ro f env es prog A T c l s (assign t env u) (ms v) RU) (hns:notStar t = true) :
  At (w:=w) h₀ K ro f env es prog A T c l s (exec (.Assign [t] x pos) env) (asg m ms) RF:=by
 refine At.eq (t':=standAt pos >>= λ zz=>swapsWithSole [t] x pos.line env >>= λ b=>if b then (evalThenUse x env (λ v=>assignAll v ((assignEach [t] env).map (·.2))) >>= λ zz=>pure .next)
  else (eval x env >>= λ v=>swappedStores [t] x env >>= λ sw=>assignStores env v sw ((assignEach [t] env).map (·.2)))) rfl (At.pos ?_)
 rw [hsw]
 refine At.eq (t':=eval x env >>= λ v=>swappedStores [t] x env >>= λ sw=>assignStores env v sw ((assignEach [t] env).map (·.2))) rfl ?_
 refine At.bind hm λ v c' l' u s' T' o r=>?_
 rw [hst]
 have e:(assignEach [t] env).map (·.2) = [assign t env]:=by rw [each_cons hns]; rfl
 rw [e]
 refine At.eq (t':=assign t env u >>= λ zz=>pure .next) rfl ?_
 refine At.bind (hs v u _ _ _ _ o.pre r) λ zz c2 l2 zz s2 T2 o2 zz=>?_
 exact At.ret o2.pre rfl
end
end Mine
end
section
open PySem PySem.W PySem.Calls PyProof.Rows Builtin Builtin.ObjectAttr
set_option backward.match.sparseCases false
namespace Mine
theorem twoOf_some {α:Type} {l:List α} {p:α × α} (h:twoOf l = some p):l = [p.1,p.2]:=by
 rcases l with _ | ⟨a,_ | ⟨b,r⟩⟩
 ·exact nS h
 ·exact nS h
 ·obtain ⟨hr,rfl⟩:=bif_some h
  rw [isEmpty_inv hr]
theorem nameP_some {e:Expr} {x:Str × Pos}:nameP e = some x → e = .Name x.1 x.2:=by
 induction e using PySem.Expr.casesOn with
 | Name y p=>exact λ h=>by cases h; rfl
 | _=>exact nS
theorem tupE_some {e:Expr} {l:List Expr}:tupE? e = some l → ∃ k p,e = .Tuple l k p:=by
 induction e using PySem.Expr.casesOn with
 | Tuple l k p=>exact λ h=>⟨k,p,by cases h; rfl⟩
 | _=>exact nS
inductive SwapForm (env:Env) (a b:Str):Expr → Expr → Prop
 | mk (vs:List Expr) (k k2:Nat) (p1 p2 p p':Pos) (ka:env.kindOf a = some .local) (kb:env.kindOf b = some .local) (hs:swappedStores [.Tuple [.Name a p1,.Name b p2] k p] (.Tuple vs k2 p') env = pure (some [a,b])):SwapForm env a b (.Tuple [.Name a p1,.Name b p2] k p) (.Tuple vs k2 p')
theorem any_no {g:Expr → Bool} {vs:List Expr} (h:vs.all notStar = true) (hg:∀ e,notStar e = true → g e = false):vs.any g = false:=by
 induction vs with
 | nil=>rfl
 | cons e r ih=>
  rw [List.all_cons] at h
  rw [List.any_cons,ih (and_r h),hg e (and_l h)]
  rfl
theorem nodup2 {a b:Str} (h:(a != b) = true):[a,b].eraseDups.length = 2:=by
 rw [List.eraseDups_cons]
 have:(!(b == a)) = true:=by rw [Bool.not_eq_true']; exact beq_false_of_ne λ q=>bne_iff_ne.mp h q.symm
 show ([b].filter λ y=>!(y == a)).eraseDups.length + 1 = 2
 rw [List.filter_cons,if_pos this]
 rfl
theorem swap_eq {env:Env} {a b:Str} {vs:List Expr} {k k2:Nat} {p1 p2 p p':Pos} (hb:env.blockKind = .function) (ka:env.kindOf a = some .local) (kb:env.kindOf b = some .local) (hl:(p2.line == p1.line) = true) (ne:(a != b) = true) (len:vs.length = 2) (st:vs.all notStar = true)
  (h1:vs.all (foldedForSure 8) = false) (h2:vs.all (constantsAlone 8) = false):swappedStores [.Tuple [.Name a p1,.Name b p2] k p] (.Tuple vs k2 p') env = pure (some [a,b]):=by
 unfold swappedStores
 refine (if_neg ?_).trans ((if_neg ?_).trans ?_)
 ·rw [hb,len]; exact λ q=>nomatch q
 ·refine ne_true_of_eq_false (any_no st λ e he=>?_)
  induction e using PySem.Expr.casesOn with
  | Starred=>exact fT he
  | _=>rfl
 ·have q:∀ x (p:Pos),(Expr.Name x p).pos = p:=λ zz zz=>rfl
  simp [List.filterMap_cons,ka,kb,eq_of_beq hl,q,h1,h2,nodup2 ne]
theorem swap_of {env:Env} {f:Frm} (hk:∀ x,env.kindOf x = f.scope.names.lookup x) (hb:env.blockKind = .function) {t e:Expr} {q:Str × Str} (h:swapOf f t e = some q):SwapForm env q.1 q.2 t e:=by
 refine Classical.byContradiction λ hcps=>?_
 obtain ⟨ts,ht,h⟩:=Option.bind_eq_some_iff.mp h
 obtain ⟨vs,he,h⟩:=Option.bind_eq_some_iff.mp h
 obtain ⟨ab,hab,h⟩:=Option.bind_eq_some_iff.mp h
 obtain ⟨a,ha,h⟩:=Option.bind_eq_some_iff.mp h
 obtain ⟨b,hb',h⟩:=Option.bind_eq_some_iff.mp h
 obtain ⟨hc,rfl⟩:=bif_some h
 obtain ⟨k,p,rfl⟩:=tupE_some ht
 obtain ⟨k2,p',rfl⟩:=tupE_some he
 refine hcps ?_
 clear hcps
 cases twoOf_some hab
 rw [nameP_some ha,nameP_some hb']
 have c7:=and_l hc; have c6:=and_l c7; have c5:=and_l c6; have c4:=and_l c5; have c3:=and_l c4; have c2:=and_l c3
 have ka:=(hk a.1).trans (eq_of_beq (and_l c2))
 have kb:=(hk b.1).trans (eq_of_beq (and_r c2))
 exact ⟨vs,k,k2,a.2,b.2,p,p',ka,kb,swap_eq hb ka kb (and_r c3) (and_r c4) (eq_of_beq (and_r c5)) (and_r c6) (not_t (and_r c7)) (not_t (and_r hc))⟩
end Mine
end
section
open PySem PySem.W PySem.Calls PyProof.Rows Builtin Builtin.ObjectAttr
set_option backward.match.sparseCases false
namespace Mine
section
variable {α β γ:Type} {c:Cells} {l:Locs}
theorem opt_go {o:Option γ} {g:γ → M β} (h:opt o g c l ≠ .fail):∃ v,o = some v ∧ opt o g = g v:=by
 induction o using Option.casesOn with
 | none=>exact absurd rfl h
 | some v=>exact ⟨v,rfl,rfl⟩
theorem gd_go {b:Bool} {m:M β} (h:gd b m c l ≠ .fail):b = true ∧ gd b m = m:=by
 induction b using Bool.casesOn with
 | false=>exact absurd rfl h
 | true=>exact ⟨rfl,rfl⟩
end
theorem RelL.two {T:Tags} {a b:PV} {vs:List Value} (h:RelL T [a,b] vs):∃ u v,vs = [u,v] ∧ Rel T a u ∧ Rel T b v:=by
 induction h.inv using Mine.ConsV.casesOn with
 | mk u r h1 h2=>induction h2.inv using Mine.ConsV.casesOn with | mk v r h3 h4=>subst h4; exact ⟨u,v,rfl,h1,h3⟩
section
variable {prog:Program} {w:World} {h₀:Heap} {K:Tbl} {ro ro':Bool} {f:Frm} {env:Env} {es outer:List Env} {A:Around} {T T0:Tags} {c c0:Cells} {l l0 l':Locs} {s s0:Shared} {d:Nat} {cf:Callee} {n:Nat} {mg mb:Str → Option Value} {X:Frag} {e:Addr}
theorem ex_swap (hA:AOk A d es) (P:Pre (w:=w) h₀ T c l s f env es) {t x:Expr} {q:Str × Str} {pos:Pos} {m:M PV} (hm:At (w:=w) h₀ K ro f env es prog A T c l s (eval x env) m RV) (hs:swapOf f t x = some q):At (w:=w) h₀ K ro f env es prog A T c l s (exec (.Assign [t] x pos) env) (asg m (swp q.1 q.2)) RF:=by
 induction swap_of P.kindOf (by unfold Env.blockKind; rw [P.frm.kind]; rfl) hs using Mine.SwapForm.casesOn with
 | mk vs k k2 p1 p2 p p' ka kb hsw=>
  refine At.eq (t':=standAt pos >>= λ zz=>eval (.Tuple vs k2 p') env >>= λ v=>swappedStores [.Tuple [.Name q.1 p1,.Name q.2 p2] k p] (.Tuple vs k2 p') env >>= λ sw=>assignStores env v sw ((assignEach [.Tuple [.Name q.1 p1,.Name q.2 p2] k p] env).map (·.2))) rfl (At.pos ?_)
  refine At.bind hm λ v c' l' u s' T' o rv=>?_
  rw [hsw]
  intro hnf
  refine Classical.byContradiction λ hcps=>?_
  obtain ⟨ab,hab,zz⟩:=opt_go (bnd_nf hnf)
  obtain ⟨ws,hws,h2⟩:=Option.bind_eq_some_iff.mp hab
  refine hcps ?_
  clear hcps
  cases tupOf_some hws
  cases twoOf_some h2
  induction rv using Mine.SeqFz.casesOn with
  | mk a i us ta hr=>
   refine Classical.byContradiction λ hcps=>?_
   obtain ⟨u1,u2,ea,r1,r2⟩:=hr.two
   refine hcps ?_
   clear hcps
   have hn:([q.1,q.2]:List Str).length = us.size:=by rw [← Array.length_toList,ea]; rfl
   refine wpAny_bind (wpAny_pure ?_)
   unfold assignStores
   refine wpAny_bind (wpAny_rule (wpAny_bind ?_))
   rw [hn]
   refine wpAny_unpackItems_tuple hA.hand ⟨_,o.pre.wd.froz _ _ ta,rfl,i,rfl⟩ λ h' hx=>?_
   have o0:=o.pre.grow (ro:=ro) (h':=h') (tk:=s'.toks) λ b ob e=>hx b ob (λ q=>absurd (Heap.lt_size e) (q ▸ Nat.lt_irrefl _)) e
   rw [ea]
   refine wpAny_bind (wpAny_bind (wpAny_holding (At.seqP (at_stL (K:=K) (ro:=ro) o0.pre kb r2) (g:=λ zz=>bnd (stL q.1 ab.1) λ zz=>Mine.ret Flw.nxt) (show R.ok Flw.nxt c' _ ≠ .fail from λ q=>nomatch q) (λ zz zz q=>q.elim) λ zz c2 l2 zz s2 T2 e2 zz o2 zz zz=>?_)))
   cases e2
   refine wpAny_bind (wpAny_holding (At.seqP (at_stL (K:=K) (ro:=ro) o2.pre ka (Rel.mono (o2.le o0.pre) _ _ r1)) (g:=λ zz=>Mine.ret Flw.nxt) (show R.ok Flw.nxt c' _ ≠ .fail from λ q=>nomatch q) (λ zz zz q=>q.elim) λ zz c3 l3 zz s3 T3 e3 zz o3 zz zz=>?_))
   cases e3
   exact wpAny_pure (wpAny_pure ⟨T3,o0.trans (o2.trans o3),rfl⟩)
theorem er_bnd {α β:Type} {m:M α} {g:α → M β} {v:Value} {s':Shared} (q:ER (w:=w) h₀ K ro env es T s (m c l) v s'):ER (w:=w) h₀ K ro env es T s (bnd m g c l) v s':=by
 induction hr:m c l using Mine.R.casesOn with
 | exc c'=>rw [bnd_exc hr]; rw [hr] at q; exact q
 | _=>rw [hr] at q; exact q.elim
theorem ex_assignComp (I:∀ n,EvOk prog w h₀ K cf d n) (hA:AOk A d es) (P:Pre (w:=w) h₀ T c l s f env es) {tn:Str} {tp pos cpos:Pos} {elt:Expr} {gens:List Comprehension} {scope:Scope}
  (hsw:swapsWithSole [.Name tn tp] (.ListComp elt gens scope cpos) pos.line env = pure true) :
  At (w:=w) h₀ K ro f env es prog A T c l s (exec (.Assign [.Name tn tp] (.ListComp elt gens scope cpos) pos) env)
   (asg (evE K cf n ro f (.ListComp elt gens scope cpos)) (stTarget K cf n ro f (.Name tn tp))) RF:=by
 intro hnf
 induction n using Nat.casesOn with
 | zero=>exact absurd rfl hnf
 | succ n=>
  have hm:=bnd_nf hnf
  refine Classical.byContradiction λ hcps=>?_
  obtain ⟨p,hp,e1⟩:=opt_go (o:=oneGen gens) (g:=λ p=>gd (!isSet p.2 && plainScope scope) (opt (freeCells f scope.names) λ fc=>cprM (isTup p.1) (evE K cf n ro f p.2) (cTurn K cf n ro f fc elt p.1 scope))) hm
  refine hcps ?_
  clear hcps
  have hm:opt (oneGen gens) (λ p=>gd (!isSet p.2 && plainScope scope) (opt (freeCells f scope.names) λ fc=>cprM (isTup p.1) (evE K cf n ro f p.2) (cTurn K cf n ro f fc elt p.1 scope))) c l ≠ .fail:=hm
  rw [e1] at hm
  refine Classical.byContradiction λ hcps=>?_
  obtain ⟨hg,e2⟩:=gd_go hm
  refine hcps ?_
  clear hcps
  rw [e2] at hm
  refine Classical.byContradiction λ hcps=>?_
  obtain ⟨fc,hfc,e3⟩:=opt_go hm
  refine hcps ?_
  clear hcps
  have he:evE K cf (n + 1) ro f (.ListComp elt gens scope cpos) = _:=e1.trans (e2.trans e3)
  cases oneGen_some hp
  refine Classical.byContradiction λ hcps=>?_
  obtain ⟨tg,it⟩:=p
  refine hcps ?_
  clear hcps
  have key:exec (.Assign [.Name tn tp] (.ListComp elt [⟨tg,it,[],0⟩] scope cpos) pos) env = (standAt pos >>= λ zz=>swapsWithSole [.Name tn tp] (.ListComp elt [⟨tg,it,[],0⟩] scope cpos) pos.line env >>= λ b=>if b then (evalThenUse (.ListComp elt [⟨tg,it,[],0⟩] scope cpos) env (λ v=>assignAll v ((assignEach [.Name tn tp] env).map (·.2))) >>= λ zz=>pure .next)
   else (eval (.ListComp elt [⟨tg,it,[],0⟩] scope cpos) env >>= λ v=>swappedStores [.Name tn tp] (.ListComp elt [⟨tg,it,[],0⟩] scope cpos) env >>= λ sw=>assignStores env v sw ((assignEach [.Name tn tp] env).map (·.2)))):=rfl
  rw [key,hsw]
  refine wpAny_bind (wpAny_standAt ?_)
  show wpAny _ _ ((comprehension (.ListComp elt [⟨tg,it,[],0⟩] scope cpos) scope env it.pos (newList []) false (eval it env) (some (λ v=>assign (.Name tn tp) env v)) >>= λ zz=>pure ()) >>= λ zz=>pure Flow.next) _ _ _
  refine wpAny_bind (wpAny_bind (comp_use (Q:=λ zz s'=>wpAny (model prog w) A (pure ()) (λ zz s''=>wpAny (model prog w) A (pure Flow.next) _ _ s'') _ s') (I n) hA P (not_t (and_l hg)) (and_r hg) hfc he (bnd_nf hnf) (λ v s' q=>er_bnd q) λ v c' l' u s' T' cenv e o r hC hn tC=>?_))
  have hb:=bnd_ok (g:=λ v=>bnd (stTarget K cf (n + 1) ro f (.Name tn tp) v) λ zz=>Mine.ret Flw.nxt) e
  show wpAny (model prog w) A (assign (.Name tn tp) env u) _ _ s'
  refine At.seqP ((I (n + 1)).st ro f env es A T' c' l' s' (.Name tn tp) v u hA o.pre r) (λ q=>hnf (hb.trans q)) (λ v s3 q=>(show asg (evE K cf (n + 1) ro f (.ListComp elt [⟨tg,it,[],0⟩] scope cpos)) (stTarget K cf (n + 1) ro f (.Name tn tp)) c l = _ from hb) ▸ q.trans o) λ zz c3 l3 zz s3 T3 e3 hb3 o3 zz hg3=>?_
  refine Classical.byContradiction λ hcps=>?_
  obtain ⟨mm,ob,es',ep,ho,hd,hk⟩:=hn
  obtain ⟨sl,g1,zz⟩:=o3.step.keep _ ob (λ q=>by have:=P.loc.live; rw [← q,hC] at this; cases this) tC ho
  refine hcps ?_
  clear hcps
  refine ⟨mm,⟨_,es',ep,g1,hd,hk⟩,λ h' hs'=>?_⟩
  have t3:T3 cenv.locals = .free:=(o3.step.tag _ (liveOf ho)).trans tC
  have:=(o.trans o3).touch P (S:=λ a=>a = cenv.locals) (tk:=s3.toks) (h':=h') (λ a q=>q ▸ ⟨hC,t3⟩) λ b ob nb eb=>(hs'.2 b nb).trans eb
  exact wpAny_pure (wpAny_pure ((show asg (evE K cf (n + 1) ro f (.ListComp elt [⟨tg,it,[],0⟩] scope cpos)) (stTarget K cf (n + 1) ro f (.Name tn tp)) c l = _ from hb.trans hb3) ▸ (⟨T3,this,rfl⟩:OutR (w:=w) h₀ ro f env es RF T s c3 l3 .nxt Flow.next { s3 with heap:=h' })))
end
end Mine
end
section
open PySem PySem.W PySem.Calls PyProof.Rows Builtin Builtin.ObjectAttr
set_option backward.match.sparseCases false
namespace Mine
section
variable {prog:Program} {w:World} {h₀:Heap} {K:Tbl} {ro ro':Bool} {f:Frm} {env:Env} {es outer:List Env} {A:Around} {T T0:Tags} {c c0:Cells} {l l0 l':Locs} {s s0:Shared} {d:Nat} {cf:Callee} {n:Nat} {mg mb:Str → Option Value} {X:Frag} {e:Addr}
theorem okT_star {t:Expr}:okT t = true → notStar t = true:=by
 induction t using PySem.Expr.casesOn with
 | Starred=>exact fT
 | _=>exact λ zz=>rfl
theorem ite_same {α:Type} {c:Prop} [Decidable c] {x e:α} (h:e = x):(if c then x else e) = x:=by
 by_cases q:c
 ·exact if_pos q
 ·exact (if_neg q).trans h
theorem fm_le {α β:Type} {g:α → Option β}:∀ l:List α,(l.filterMap g).length ≤ l.length
 | []=>Nat.le_refl _
 | a :: r=>by
  rw [List.filterMap_cons]
  induction g a using Option.casesOn with
  | none=>exact Nat.le_succ_of_le (fm_le r)
  | some b=>exact Nat.succ_le_succ (fm_le r)
theorem fm_lt {α β:Type} {g:α → Option β} {p:α → Bool} (hg:∀ a,p a = false → g a = none):∀ l:List α,l.all p = false → (l.filterMap g).length < l.length
 | [],h=>nomatch h
 | a :: r,h=>by
  rw [List.filterMap_cons]
  rw [List.all_cons] at h
  induction hp:p a using Bool.casesOn with
  | false=>rw [hg a hp]; exact Nat.lt_succ_of_le (fm_le r)
  | true=>
   rw [hp] at h
   induction g a using Option.casesOn with
   | none=>exact Nat.lt_succ_of_le (fm_le r)
   | some b=>exact Nat.succ_lt_succ (fm_lt hg r h)
theorem noswap2 {ts vs:List Expr} {k k2:Nat} {p p2:Pos} (hk:∀ x,env.kindOf x = f.scope.names.lookup x) (h:ts.all (ownN f) = false):swappedStores [.Tuple ts k p] (.Tuple vs k2 p2) env = pure none:=by
 unfold swappedStores
 refine ite_same (ite_same (if_pos ?_))
 refine Bool.or_eq_true_iff.mpr (.inl (bne_iff_ne.mpr (Nat.ne_of_lt (fm_lt (p:=ownN f) (λ t ht=>?_) ts h))))
 induction t using PySem.Expr.casesOn with
 | Name x q=>
  have ht:(env.kindOf x == some .local) = false:=(hk x).symm ▸ ht
  show (if (env.kindOf x == some .local && _) = true then _ else _) = _
  rw [ht]
  rfl
 | _=>rfl
theorem noswap {t x:Expr} (hk:∀ x,env.kindOf x = f.scope.names.lookup x) (h:okT t = true) (hs:plainT f t x = true):swappedStores [t] x env = pure none:=by
 induction t using PySem.Expr.casesOn with
 | List=>exact fT h
 | Tuple ts k p=>
  induction x using PySem.Expr.casesOn with
  | Tuple vs k2 p2=>exact noswap2 hk (not_t hs)
  | _=>rfl
 | _=>rfl
theorem comp_list {x:Expr}:isComp x = true → okE x = true → ∃ a b c d,x = .ListComp a b c d:=by
 induction x using PySem.Expr.casesOn with
 | ListComp a b c d=>exact λ zz zz=>⟨a,b,c,d,rfl⟩
 | SetComp=>exact λ zz=>fT
 | DictComp=>exact λ zz=>fT
 | _=>exact fT
theorem sole {t:Expr} {a b c d} {n:Nat}:(∃ x p,t = .Name x p) ∨ swapsWithSole [t] (.ListComp a b c d) n env = pure false:=by
 induction t using PySem.Expr.casesOn with
 | Name x p=>exact .inl ⟨x,p,rfl⟩
 | _=>exact .inr rfl
theorem sole_name {x:Str} {p:Pos} {a b c d} {n:Nat}:∃ q,swapsWithSole [.Name x p] (.ListComp a b c d) n env = pure q:=⟨_,rfl⟩
theorem ex_assign (I:∀ n,EvOk prog w h₀ K cf d n) (hA:AOk A d es) (P:Pre (w:=w) h₀ T c l s f env es) {t x:Expr} {pos:Pos} (hok:okAssign t x = true) :
  At (w:=w) h₀ K ro f env es prog A T c l s (exec (.Assign [t] x pos) env) (onO (swapOf f t x) (λ p=>asg (evE K cf n ro f x) (swp p.1 p.2)) (gd (plainT f t x) (asg (evE K cf n ro f x) (stTarget K cf n ro f t)))) RF:=by
 refine At.onO (λ q hq=>ex_swap hA P ((I n).e _ _ _ _ _ _ _ _ _ _ hA P) hq) λ zz=>At.gd λ hs=>?_
 have one:swapsWithSole [t] x pos.line env = pure false → At (w:=w) h₀ K ro f env es prog A T c l s (exec (.Assign [t] x pos) env) (asg (evE K cf n ro f x) (stTarget K cf n ro f t)) RF:=
  λ h1=>ex_assign1 h1 (noswap P.kindOf (and_l hok) hs) ((I n).e _ _ _ _ _ _ _ _ _ _ hA P) (λ v u T c l s P hv=>(I n).st _ _ _ _ _ _ _ _ _ _ _ _ hA P hv) (okT_star (and_l hok))
 induction hc:isComp x using Bool.casesOn with
 | false=>exact one (notcomp_swap hc _ _)
 | true=>
  refine Classical.byContradiction λ hcps=>?_
  obtain ⟨elt,gens,scope,cpos,rfl⟩:=comp_list hc (and_r hok)
  refine hcps ?_
  clear hcps
  rcases sole (t:=t) with ⟨tn,tp,rfl⟩ | h
  ·obtain ⟨b,hb⟩:=sole_name
   induction b using Bool.casesOn with
   | false=>exact one hb
   | true=>exact ex_assignComp I hA P hb
  ·exact one h
end
end Mine
end
section
open PySem PySem.W PySem.Calls PyProof.Rows Builtin Builtin.ObjectAttr
set_option backward.match.sparseCases false
namespace Mine
section
variable {prog:Program} {w:World} {h₀:Heap} {K:Tbl} {ro ro':Bool} {f:Frm} {env:Env} {es outer:List Env} {A:Around} {T T0:Tags} {c c0:Cells} {l l0 l':Locs} {s s0:Shared} {d:Nat} {cf:Callee} {n:Nat} {mg mb:Str → Option Value} {X:Frag} {e:Addr}
structure FaultN (K:Tbl) (f:Frm) (x:Str):Prop where
 dbg:x ≠ "__debug__"
 kind:f.scope.names.lookup x = some .globalImplicit
 glob:K.glob x = some (.val (.ref K.fault))
theorem fault_of {x:Str} (hx:isFault K f x = true):FaultN K f x:=by
 have h2:=and_l hx
 refine ⟨of_decide_eq_true (and_l (and_l h2)),of_decide_eq_true (and_r h2),?_⟩
 have h4:=and_r hx
 induction e:K.glob x using Option.casesOn with
 | none=>rw [e] at h4; cases h4
 | some v=>
  rw [e] at h4
  induction v using Mine.PV.casesOn with
  | val v=>exact congrArg (λ v=>some (PV.val v)) (of_decide_eq_true h4)
  | _=>cases h4
theorem at_faultName (V:World0 h₀ K X mg mb) (W:Wd w h₀ T c s.heap) (F:FrmOk T f env) {x:Str} {pos:Pos} (hx:isFault K f x = true) {M:Model} {E:Value → Shared → Prop} {Q:Value → Shared → Prop} (q:Q (.ref K.fault) s) :
  wpAny M A (eval (.Name x pos) env) Q E s:=by
 have H:=fault_of hx
 refine Classical.byContradiction λ hcps=>?_
 obtain ⟨u,hu,hr⟩:=V.glob.at_ x _ H.glob
 refine hcps ?_
 clear hcps
 cases hr T W.old
 show wpAny M A (standAt pos >>= λ zz=>if x == ("__debug__":Str) then debugConstant else loadName env x) Q E s
 refine wpAny_bind (wpAny_standAt ?_)
 rw [if_neg λ q=>H.dbg (eq_of_beq q)]
 have hkind:env.kindOf x = some .globalImplicit:=by unfold Env.kindOf; rw [F.scope]; exact H.kind
 refine ks_loadName_global F.kind hkind ?_
 have hg:s.heap.Ns env.globals mg:=F.glob ▸ V.glob.g.keeps (W.keeps w)
 have hb:s.heap.Ns env.builtins mb:=F.bi ▸ V.glob.b.keeps (W.keeps w)
 rcases hu with hu | ⟨k1,k2⟩
 ·exact loadGlobal_global hg hu q
 ·exact loadGlobal_builtin hg k1 hb k2 q
theorem looks_typeOf {M:Model} {h:Heap} {a:Addr} {o:Obj} (ho:h.get? a = some o):Looks M h (typeOf (.ref a)) o.cls:=by
 intro A Q E s k q
 exact wpAny_bind (wpAny_loadPart (k _ _ ho) (wpAny_pure q))
theorem exc_obj {fault:Addr} {h0 h:Heap} {fl:Option Addr} {e:Addr} (x:ExcAt fault h0 T h fl e):∃ o,h.get? e = some o ∧ o.cls = .ref fault:=by
 induction x using Mine.ExcAt.casesOn with | mk oe vs a0 t n f ho hc=>exact ⟨oe,ho,hc⟩
theorem ex_try (V:World0 h₀ K X mg mb) (hF:exmOne X (.ref K.fault) (.ref K.fault) = some true) (IX:ExOk prog w h₀ K cf d n) (hA:AOk A d es) (O:OwnFr A env es) (P:Pre (w:=w) h₀ T c l s f env es)
  {b:List Stmt} {x r:Str} {np p1 p2 p3 pos:Pos} {kk:Nat} (hx:isFault K f x = true) :
  At (w:=w) h₀ K ro f env es prog A T c l s (exec (Stmt.Try b [.ExceptHandler (some (.Name x np)) none [.Return (some (.Constant (.str r) kk p1)) p2] p3] [] [] pos) env) (tryS (exL K cf n ro f b) r) RF:=by
 intro hnf
 have hb:=IX.l ro f env es A T c l s b hA O P
 unfold At at hb
 refine wpAny_Try_except ?_
 unfold tryS at hnf ⊢
 generalize exL K cf n ro f b c l = r0 at hb hnf ⊢
 induction r0 using Mine.R.casesOn with
 | fail=>exact absurd rfl hnf
 | ok v c' l'=>
  refine wpAny_mono (hb (λ q=>nomatch q)) (λ fl s1 q=>?_) λ zz zz q=>q.elim
  induction show OutR (w:=w) h₀ ro f env es RF T s c' l' v fl s1 from q using Mine.OutR.casesOn with
  | mk T' o q=>
   induction v using Mine.Flw.casesOn with
   | nxt=>subst q; exact wpAny_execs_nil ⟨T',o,rfl⟩
   | ret v=>induction q using Mine.RetV.casesOn with | mk z rz=>exact ⟨T',o,RetV.mk z rz⟩
 | exc c'=>
  refine wpAny_mono (hb (λ q=>nomatch q)) (λ zz zz q=>q.elim) λ v s1 q=>fly_of q λ T' x1 hv fl=>?_
  subst hv
  induction O using Mine.OwnFr.casesOn with
  | mk outer L hes hfr0 hfr=>
   refine exc_note hes hfr0 hfr fl.exc fl.frs fl.step.live fl.wd.live λ h1 mv y tb=>?_
   have f1:=fl.move mv y
   refine exc_flight (fl':=none) (es:=es) f1.exc tb λ h2 mv2 y2 tb2=>?_
   have f2:=f1.move mv2 y2.held
   have FR:FrmOk T' f env:=P.frm.mono (f2.step.le w P.wd)
   refine wpAny_handleBy_cons (codeAny_handlers_test (at_faultName V f2.wd FR hx ?_)) (λ q=>nomatch q)
   refine Classical.byContradiction λ hcps=>?_
   obtain ⟨oe,g1,g2⟩:=exc_obj f2.exc
   refine hcps ?_
   clear hcps
   have LT:Looks (model prog w) h2 (typeOf (.ref x1)) (.ref K.fault):=g2 ▸ looks_typeOf g1
   refine (exm_one (V.inX.keeps (f2.wd.keeps w)) LT hF).here (codeAny_handlers_suite ?_)
   refine exc_flight (fl':=none) (es:=es) f2.exc tb2 λ h3 mv3 y3 tb3=>wpAny_execs_cons (wpAny_Return_some ?_)
   have f3:=f2.move mv3 y3.held
   have P3:Pre (w:=w) h₀ T' c' [] { s1 with heap:=h3 } f env es:=⟨f3.wd,f3.loc,f3.frs,FR⟩
   refine wpAny_mono (At.okE (at_const (K:=K) (ro:=ro) (A:=A.mark (some (.ref x1))) (prog:=prog) P3 (k:=.str r) (n:=kk) (pos:=p1)) rfl) (λ u s4 q=>?_) λ zz zz q=>q
   induction q using Mine.OutR.casesOn with
   | mk T4 o4 ru=>exact ⟨T4,⟨f3.step.trans o4.step,f3.same.trans o4.same,o4.pre⟩,RetV.mk u ru⟩
end
end Mine
end
section
open PySem PySem.W PySem.Calls PyProof.Rows Builtin Builtin.ObjectAttr
set_option backward.match.sparseCases false
namespace Mine
structure ExcMro (B:String) (bm:List Value):Prop where
 hasB:bm.contains (.type B) = true
 noAttr:bm.contains (.type "AttributeError") = false
 noName:bm.contains (.type "NameError") = false
 hasBase:bm.contains (.type "BaseException") = true
section
variable {prog:Program} {w:World} {M:Model} {A:Around} {E:Value → Shared → Prop} {R:Result → Shared → Prop} {h:Heap} {g:Array GenState} {d:Drawn} {t:Nat} {os:OsState} {X:Frag}
variable {nm q:Str} {C N:Addr} {bs bm:List Value} {hdct:Bool} {sn:List Str} {sub:List Value} {ab:Bool} {col:Option Bool} {dd:Option Addr} {k0 k1 k2 k3 k5:Option Value} {B newId initId:String} {bmB:List Value}
theorem ec_check_new (G:ExcBaseFacts B newId initId bmB) (F:ExcMro B bm) {rest:List Value} {Q:Unit → Shared → Prop} (hC:h.get? C = some (excClassObj nm q C N bs bm hdct sn sub ab col dd k0 k1 k2 k3 k5 newId))
  (hq:Q () ⟨h,g,d,t,os⟩):wpAny M A (checkBuiltinCall newId ⟨.ref C :: rest,[]⟩) Q E ⟨h,g,d,t,os⟩:=by
 have hcont:(Value.ref C :: bm).contains (.type B) = true:=by rw [List.contains_cons,F.hasB,Bool.or_true]
 have hstar:=G.noStar
 simp only [checkBuiltinCall,G.newKind,G.newSplit,G.newRow]
 repeat (first | refine wpAny_loadPart_at hC ?_ | (refine wpAny_isSubtype_exc hC ?_; rw [hcont]) | refine wpAny_staticBase_exc hC ?_ | refine wpAny_madeBy_exc hC ?_ | simp only [bne_self_eq_false,Bool.false_eq_true,if_false] | wp_step)
 exact hq
theorem ec_new (G:ExcBaseFacts B newId initId bmB) (F:ExcMro B bm) {rest:List Value} (hC:h.get? C = some (excClassObj nm q C N bs bm hdct sn sub ab col dd k0 k1 k2 k3 k5 newId))
  (hq:R (.ok (.ret (.ref (h.objs.size + 1)))) ⟨(h.push { cls:=.type "tuple",data:=.seq rest.toArray }).push
   { cls:=.ref C,data:=.fields #[.ref h.objs.size,.none,.none,.none,.bool false,.none] },g,d,t,os⟩) (hrest:rest.length ≤ sizeLine) :
  codeAny (model prog w) A (.builtin newId ⟨.ref C :: rest,[]⟩) R ⟨h,g,d,t,os⟩:=by
 have hends:=G.ends
 have hcB:(Value.ref C :: bm).contains (.type B) = true:=by rw [List.contains_cons,F.hasB,Bool.or_true]
 have hcA:(Value.ref C :: bm).contains (.type "AttributeError") = false:=by rw [List.contains_cons,F.noAttr]; rfl
 have hcN:(Value.ref C :: bm).contains (.type "NameError") = false:=by rw [List.contains_cons,F.noName]; rfl
 refine codeAny_builtinAt G.entry ?_
 unfold Builtin.«BaseException.__new__»
 refine _root_.PySem.wpAt_bind ?_
 show _root_.PySem.wpAt _ _ _ (stack >>= _) _ _ _
 refine _root_.PySem.wpAt_bind (_root_.PySem.wpAt_stack λ p below=>_root_.PySem.wpAt_of_wpAny ?_)
 wp_walk
 refine _root_.PySem.wpAt_of_wpAny ?_
 rw [G.owner]
 repeat (first | with_reducible refine wpAny_madeHere_exc G.canon hC ?_ | with_reducible refine wpAny_loadPart_at hC ?_ | (with_reducible refine wpAny_isSubtype_exc hC ?_; first | rw [hcB] | rw [hcA] | rw [hcN]) | wp_step)
 show R _ _
 rw [Heap.size_push]
 exact hq
theorem ec_type_call (G:ExcBaseFacts B newId initId bmB) (F:ExcMro B bm) {rest:List Value} {fI:Addr} {Q:Fin → Shared → Prop} (hX:X.In h)
  (hC:h.get? C = some (excClassObj nm q C N bs bm hdct sn sub ab col dd k0 k1 k2 k3 k5 newId)) (hi:findIn X (.ref C) "__init__" = some (some (.ref fI))) (hf:typeIn X (.ref fI) = some (.type "function"))
  (hq:∀ h' e,Heap.MadeExcOf h h' e (.ref C) rest → e = h.objs.size + 1 →
   wpAny (model prog w) A (call (.ref fI) (.ref e :: rest)) (λ r s'=>r = .none ∧ Q (.done (.ret (.ref e))) s') E ⟨h',g,d,t,os⟩) (hrest:rest.length ≤ sizeLine) :
  wpAny (model prog w) A (Builtin.«type.__call__» ⟨.ref C :: rest,[]⟩) Q E ⟨h,g,d,t,os⟩:=by
 repeat (first | with_reducible refine wpAny_loadPart_at hC ?_ | with_reducible refine wpAny_madeBy_exc hC ?_ | wp_step)
 refine codeAny_call_builtin_code (Code.quiet_builtin _ G.quiet) (ec_check_new G F hC ?_)
 refine ec_new G F hC ?_ hrest
 show wpAny _ _ _ _ _ _
 have up:∀ b o,h.get? b = some o → ((h.push { cls:=.type "tuple",data:=.seq rest.toArray }).push { cls:=.ref C,data:=.fields #[.ref h.objs.size,.none,.none,.none,.bool false,.none] }).get? b = some o:=
  λ b o e=>Heap.get?_push_of_some _ (Heap.get?_push_of_some _ e)
 have hC₁:=up _ _ hC
 have X1:=hX.keeps up
 have hget:((h.push { cls:=.type "tuple",data:=.seq rest.toArray }).push
   { cls:=.ref C,data:=.fields #[.ref h.objs.size,.none,.none,.none,.bool false,.none] }).get? (h.objs.size + 1) = some
   { cls:=.ref C,data:=.fields #[.ref h.objs.size,.none,.none,.none,.bool false,.none] }:=by heap_get
 have hcC:(Value.ref C :: bm).contains (.ref C) = true:=by simp
 unfold isInstance
 repeat (first | with_reducible refine wpAny_loadPart_at hget ?_ | (with_reducible refine wpAny_isSubtype_exc hC₁ ?_; rw [hcC]) | wp_step)
 show wpAny _ _ (typeLookup (.ref C) _) _ _ _
 refine (looks_findIn X1 hi).here ?_
 refine wpAny_holding (wpAny_bind ?_)
 unfold bindSpecial
 refine wpAny_bind ((looks_typeIn X1 hf).here ?_)
 rw [if_pos (by decide)]
 refine wpAny_pure (wpAny_bind (wpAny_mono (hq _ (h.objs.size + 1) ⟨up,Heap.get?_none_of_le (Nat.le_succ _),h.objs.size,hget,Heap.get?_none_of_le (Nat.le_refl _),?_⟩ rfl) (λ r s' hr=>?_) λ zz zz x=>x))
 ·exact Heap.get?_push_of_some _ (Heap.get?_push_at rfl rfl)
 ·obtain ⟨rfl,hQ⟩:=hr
  wp_walk
  exact hQ
theorem ec_call (G:ExcBaseFacts B newId initId bmB) (F:ExcMro B bm) {rest:List Value} {fI:Addr} {Q:Value → Shared → Prop} (hX:X.In h)
  (hC:h.get? C = some (excClassObj nm q C N bs bm hdct sn sub ab col dd k0 k1 k2 k3 k5 newId)) (hi:findIn X (.ref C) "__init__" = some (some (.ref fI))) (hf:typeIn X (.ref fI) = some (.type "function"))
  (hq:∀ h' e,Heap.MadeExcOf h h' e (.ref C) rest → e = h.objs.size + 1 →
   wpAny (model prog w) (A.under (.builtin "type.__call__" ⟨.ref C :: rest,[]⟩)) (call (.ref fI) (.ref e :: rest)) (λ r s'=>r = .none ∧ Q (.ref e) s') E ⟨h',g,d,t,os⟩) (hrest:rest.length ≤ sizeLine) :
  wpAny (model prog w) A (call (.ref C) rest) Q E ⟨h,g,d,t,os⟩:=by
 have f1:=tc_lookup
 have f2:=tc_bind (.ref C)
 have hT:(⟨h,g,d,t,os⟩:Shared).TypeIs (.ref C) "type":=⟨_,hC,rfl⟩
 refine wpAny_call (codeAny_of_tree ?_)
 show wpAny _ _ (callAny (.ref C) _) _ _ _
 repeat (any_goals (first | assumption | with_reducible refine wpAny_loadPart_at hC ?_ | wp_step))
 refine ⟨rfl,?_⟩
 refine codeAny_call_builtin_at (Code.quiet_builtin _ (by decide +kernel)) entry_typeCall (wpAny_check_type_call_sub hC (ec_type_call G F hX hC hi hf (λ h' e hm he=>?_) hrest))
 exact hq h' e hm he
end
end Mine
end
section
open PySem PySem.W PySem.Calls PyProof.Rows Builtin Builtin.ObjectAttr
set_option backward.match.sparseCases false
namespace Mine
noncomputable def eInit:String:="Exception.__init__"
theorem slot_wd_get:Slot "wrapper_descriptor" "__get__" "wrapper_descriptor.__get__":=.of (owner:="wrapper_descriptor") (n:="__get__") (by rw [typeLookup_type,builtinLookup_eq_fast]; kernel_rfl) (by decide +kernel) (by decide +kernel) (by decide +kernel)
 (by first | exact .inl (by decide +kernel) | exact .inr (by decide +kernel)) (by rw [isSubtype_type]; kernel_rfl)
theorem entry_wd_get:entryFor table "wrapper_descriptor.__get__" = some Builtin.«wrapper_descriptor.__get__»:=entryFor_of_tree (by kernel_rfl)
theorem args_wd_get (a b c:Value):argsOk "wrapper_descriptor.__get__" ⟨[a,b,c],[]⟩:=by unfold argsOk; kernel_rfl
theorem type_eInit:typeOf (.builtin eInit) = pure (.type "wrapper_descriptor"):=by kernel_rfl
theorem cut_eInit:eInit.cutAt '.' = ["Exception","__init__"]:=by decide +kernel
section
variable {prog:Program} {w:World} {M:Model} {A:Around} {E:Value → Shared → Prop} {R:Result → Shared → Prop} {h:Heap} {g:Array GenState} {d:Drawn} {t:Nat} {os:OsState} {X:Frag}
noncomputable abbrev wrapObj (x:Addr):Obj:={ cls:=.type "method-wrapper",data:=.fields #[.builtin eInit,.ref x] }
theorem inter_eInit:".".intercalate ["Exception","__init__"].dropLast = "Exception":=by decide +kernel
theorem wd_get {x C:Addr} {ox:Obj} {c:Value} {Q:Fin → Shared → Prop} (hx:h.get? x = some ox) (hc:ox.cls = .ref C) (hs:Looks (model prog w) h (isSubtype (.ref C) (.type "Exception")) true)
  (hq:Q (.done (.ret (.ref h.objs.size))) ⟨h.push (wrapObj x),g,d,t,os⟩) :
  wpAny (model prog w) A (Builtin.«wrapper_descriptor.__get__» ⟨[.builtin eInit,.ref x,c],[]⟩) Q E ⟨h,g,d,t,os⟩:=by
 have e:=cut_eInit
 have e2:=inter_eInit
 unfold Builtin.«wrapper_descriptor.__get__»
 repeat (first | (with_reducible refine wpAny_loadPart_at hx ?_; rw [hc]) | (with_reducible refine Looks.at hs ?_) | simp only [e,e2] | wp_step | dsimp only)
 all_goals exact hq
theorem ex_super_ga {so D x C:Addr} {ox:Obj} {l₀ l:List Value} {tk:Tok} {Q:Fin → Shared → Prop}
  (hso:h.get? so = some { cls:=.type "super",dict:=none,data:=.fields #[.ref D,.ref x,.ref C],slots:=#[] }) (hno:Looks (model prog w) h (opaqueClassAbove (.ref C)) none)
  (hC:Looks (model prog w) h (mroOf (.ref C)) l₀) (hl:(l₀.dropWhile (· != .ref D)).drop 1 = l) (hX:X.In h) (hx:h.get? x = some ox) (hxc:ox.cls = .ref C) (hs:Looks (model prog w) h (isSubtype (.ref C) (.type "Exception")) true)
  (hf:alongIn X "__init__" l = some (some (.builtin eInit))) (hxC:x ≠ C)
  (hq:Q (.done (.ret (.ref h.objs.size))) ⟨h.push (wrapObj x),g,d,t,os⟩) :
  wpAny (model prog w) A (Builtin.«super.__getattribute__» ⟨[.ref so,.str "__init__" tk],[]⟩) Q E ⟨h,g,d,t,os⟩:=by
 have hlk:=slot_wd_get.lookup
 have hne:(Value.ref x == Value.ref C) = false:=by simp [hxC]
 have hn:(("__init__":Str) == ("__class__":Str)) = false:=by decide
 have hTf:(⟨h,g,d,t,os⟩:Shared).TypeIs (.builtin eInit) "wrapper_descriptor":=type_eInit
 have hdt:({ cls:=.type "super",dict:=none,data:=.fields #[.ref D,.ref x,.ref C],slots:=#[] }:Obj).data = .fields #[.ref D,.ref x,.ref C]:=rfl
 have f0:(#[.ref D,.ref x,.ref C]:Array Value)[0]? = some (.ref D):=rfl
 have f1:(#[.ref D,.ref x,.ref C]:Array Value)[1]? = some (.ref x):=rfl
 have f2:(#[.ref D,.ref x,.ref C]:Array Value)[2]? = some (.ref C):=rfl
 unfold Builtin.«super.__getattribute__»
 repeat (first
  | (with_reducible refine wpAny_field hso hdt f0 ?_) | (with_reducible refine wpAny_field hso hdt f1 ?_) | (with_reducible refine wpAny_field hso hdt f2 ?_)
  | (with_reducible refine ks_wpAny_notOpaque hno ?_)
  | (with_reducible refine Looks.at hC ?_; rw [hl])
  | (refine ks_forIn_along hX (λ zz zz=>rfl) rfl ?_ hf)
  | (with_reducible refine wpAny_typeOf hTf ?_)
  | (with_reducible refine wpAny_call_entry slot_wd_get hTf entry_wd_get ?_ (args_wd_get _ _ _))
  | (with_reducible refine wd_get hx hxc hs ?_)
  | (with_reducible refine ⟨_,rfl,?_⟩)
  | (simp only [hn,hne,Bool.or_false,Bool.false_eq_true,if_false])
  | wp_step
  | dsimp only)
 all_goals exact hq
end
end Mine
end
section
open PySem PySem.W PySem.Calls PyProof.Rows Builtin Builtin.ObjectAttr
set_option backward.match.sparseCases false
namespace Mine
section
variable {prog:Program} {w:World} {M:Model} {A:Around} {E:Value → Shared → Prop} {R:Result → Shared → Prop} {h:Heap} {g:Array GenState} {d:Drawn} {t:Nat} {os:OsState} {X:Frag}
theorem ex_getMethod_super {so D x C:Addr} {ox:Obj} {l₀ l:List Value} {pl:Sem Bool} {Q:Value × List Value → Shared → Prop}
  (hso:h.get? so = some { cls:=.type "super",dict:=none,data:=.fields #[.ref D,.ref x,.ref C],slots:=#[] }) (hno:Looks (model prog w) h (opaqueClassAbove (.ref C)) none)
  (hC:Looks (model prog w) h (mroOf (.ref C)) l₀) (hl:(l₀.dropWhile (· != .ref D)).drop 1 = l) (hX:X.In h) (hx:h.get? x = some ox) (hxc:ox.cls = .ref C) (hs:Looks (model prog w) h (isSubtype (.ref C) (.type "Exception")) true)
  (hf:alongIn X "__init__" l = some (some (.builtin eInit))) (hxC:x ≠ C)
  (hq:Q (.ref h.objs.size,[]) ⟨h.push (wrapObj x),g,d,t + 1,os⟩) :
  wpAny (model prog w) A (getMethod (.ref so) "__init__" pl) Q E ⟨h,g,d,t,os⟩:=by
 have hlk:=PySem.F.ks_slot_super_ga.lookup
 have hcan:=PySem.F.ks_canon_super_ga
 have hT:∀ t',(⟨h,g,d,t',os⟩:Shared).TypeIs (.ref so) "super":=λ zz=>⟨_,hso,rfl⟩
 unfold getMethod
 refine wpAny_bind (wpAny_specialOf (hT _) hlk ?_)
 show wpAny _ _ (if (Manifest.canonical "super.__getattribute__" != "object.__getattribute__") = true then _ else _) _ _ _
 rw [if_pos hcan]
 unfold getAttr getAttrBy
 refine wpAny_bind (wpAny_bind (wpAny_mkText (wpAny_holding (wpAny_bind (wpAny_typeOf (hT _) (wpAny_bind (wpAny_of_eq hlk ?_)))))))
 show wpAny _ _ (getAttrByItsOwn (.ref so) (.str "__init__" t) (.type "super") (.builtin "super.__getattribute__") true false) _ _ _
 unfold getAttrByItsOwn hookBefore callGetattribute boundAndCalled
 refine wpAny_bind (wpAny_of_eq (show (if onTheHeap (.type "super") then typeLookup (.type "super") "__getattr__" else pure none) = pure none from rfl) ?_)
 refine wpAny_bind (wpAny_attempt (wpAny_holding ?_))
 show wpAny _ _ (bindSpecial (.builtin "super.__getattribute__") (.ref so) >>= _) _ _ _
 refine wpAny_bind (wpAny_of_eq (PySem.F.ks_slot_super_ga.bind _) ?_)
 refine wpAny_mono (Q:=λ v s'=>v = .ref h.objs.size ∧ s' = ⟨h.push (wrapObj x),g,d,t + 1,os⟩) (E:=λ zz zz=>False)
  (wpAny_call_entry PySem.F.ks_slot_super_ga (hT _) PySem.F.ks_entry_super_ga (ex_super_ga hso hno hC hl hX hx hxc hs hf hxC ⟨_,rfl,rfl,rfl⟩) (PySem.F.ks_gaArgs_super _ _)) (λ v s' hv=>?_) λ zz zz z=>z.elim
 obtain ⟨rfl,rfl⟩:=hv
 exact wpAny_pure (wpAny_pure hq)
variable {nm q:Str} {C N:Addr} {bs bm:List Value} {hdct:Bool} {sn:List Str} {sub:List Value} {ab:Bool} {col:Option Bool} {dd:Option Addr} {k0 k1 k2 k3 k5:Option Value} {B newId initId:String} {bmB:List Value}
theorem bound_check (G:ExcBaseFacts B newId initId bmB) (F:ExcMro B bm) {e:Addr} {oe:Obj} {rest:List Value} {Q:Unit → Shared → Prop}
  (hC:h.get? C = some (excClassObj nm q C N bs bm hdct sn sub ab col dd k0 k1 k2 k3 k5 newId)) (he:h.get? e = some oe) (hcls:oe.cls = .ref C) (hq:Q () ⟨h,g,d,t,os⟩) :
  wpAny M A (checkBoundCall initId ⟨.ref e :: rest,[]⟩) Q E ⟨h,g,d,t,os⟩:=by
 have hcB:(Value.ref C :: bm).contains (.type B) = true:=by rw [List.contains_cons,F.hasB,Bool.or_true]
 have hshort:=G.noStar
 simp only [checkBoundCall,G.initKind,G.initRow]
 repeat (first | (with_reducible refine wpAny_loadPart_at he ?_; rw [hcls]) | with_reducible refine wpAny_loadPart_at hC ?_ | (with_reducible refine wpAny_isSubtype_exc hC ?_; rw [hcB]) | wp_step)
 refine wpAny_onRaise ?_
 rw [show ∀ (a b:String) (n:Nat),Bind.check ⟨.positional,"*",B,.self,[⟨"args",.varPos,false⟩]⟩ a b n (List.map (λ x=>x.fst) ({ pos:=Value.ref e :: rest }:Args).kw) = pure () from
  λ a b n=>check_star_args _ _ _ _ _ _]
 exact wpAny_pure hq
theorem wrap_call (F:ExcMro "Exception" bm) {b x:Addr} {v:Value} {t0:Addr} {ot:Obj} (hC:h.get? C = some (excClassObj nm q C N bs bm hdct sn sub ab col dd k0 k1 k2 k3 k5 "Exception.__new__")) (hb:h.get? b = some (wrapObj x)) (hx:h.get? x = some { cls:=.ref C,data:=.fields #[.ref t0,.none,.none,.none,.bool false,.none] })
  (ht:h.get? t0 = some ot)
  (hq:∀ h',h'.get? x = some { cls:=.ref C,data:=.fields #[.ref h.objs.size,.none,.none,.none,.bool false,.none] } → (∀ y o,y ≠ x → h.get? y = some o → h'.get? y = some o) → R (.ok (.ret .none)) ⟨h',g,d,t,os⟩) :
  codeAny (model prog w) A (.call (.ref b) ⟨[v],[]⟩) R ⟨h,g,d,t,os⟩:=by
 refine codeAny_of_tree ?_
 show wpAny _ A.in1 (callAny (.ref b) _) _ _ _
 unfold callAny
 refine wpAny_bind (wpAny_load hb ?_)
 show wpAny _ _ (checkBoundCall eInit ⟨[.ref x,v],[]⟩ >>= λ zz=>again (.builtin eInit ⟨[.ref x,v],[]⟩)) _ _ _
 refine wpAny_bind (bound_check PySem.F.excBase_Exception F hC hx rfl ?_)
 refine wpAny_pure ⟨?_,?_⟩
 ·exact Code.quiet_builtin _ (by decide +kernel)
 refine codeAny_builtin PySem.F.excBase_Exception.initEntry ?_
 show wpAny _ _ (Builtin.«BaseException.__init__» ⟨[.ref x,v],[]⟩) _ _ _
 wp_walk
 refine hq _ ?_ λ y o hy ey=>?_
 ·exact Heap.get?_update_self _ (Heap.get?_push_of_some _ hx) rfl
 ·rw [Heap.get?_update_other _ _ (Ne.symm hy)]
  exact Heap.get?_push_of_some _ ey
end
end Mine
end
section
open PySem PySem.W PySem.Calls PyProof.Rows Builtin Builtin.ObjectAttr
set_option backward.match.sparseCases false
namespace Mine
structure ExcSet (X:Frag) (C:Addr) (name:Str):Prop where
 set:findIn X (.ref C) "__setattr__" = some (some (.builtin "object.__setattr__"))
 take:takerIn X C name = some none
 dict:hasDictIn X C = true
 cd:∃ cd,clsIn X C = some cd ∧ ∀ self,refuseLoop self "__setattr__" cd.mro = pure ()
 obj:mroIn X C (.type "object") = some true
section
variable {prog:Program} {w:World} {M:Model} {A:Around} {E:Value → Shared → Prop} {R:Result → Shared → Prop} {s:Shared} {X:Frag} {x C:Addr} {v:Value} {name:Str} {ff:Array Value}
theorem exc_setattr {Q:Unit → Shared → Prop} (XI:X.In s.heap) (S:ExcSet X C name) (hx:s.heap.get? x = some { cls:=.ref C,data:=.fields ff })
  (h:∀ h' dx tk,h'.get? x = some { cls:=.ref C,dict:=some dx,data:=.fields ff } → (∀ y o,y ≠ x → s.heap.get? y = some o → h'.get? y = some o) → Q () { s with heap:=h',toks:=tk }) :
  wpAny (model prog w) A (setAttr (.ref x) name v) Q E s:=by
 have I:W.InstAt s.heap x { cls:=.ref C,data:=.fields ff } C none:=⟨hx,rfl,rfl,trivial⟩
 have SF:=PySem.F.store_object
 refine Classical.byContradiction λ hcps=>?_
 obtain ⟨cd,hc,hr⟩:=S.cd
 refine hcps ?_
 clear hcps
 refine set_plain XI I S.set ?_
 generalize hs1:({ s with toks:=s.toks + 1 }:Shared) = s1
 have hp1:s1.heap = s.heap:=by rw [← hs1]
 have X1:X.In s1.heap:=hp1 ▸ XI
 have I1:W.InstAt s1.heap x { cls:=.ref C,data:=.fields ff } C none:=hp1 ▸ I
 have sub:Looks (model prog w) s1.heap (isInstance (.ref x) (.type "object")) true:=I1.type.andThen (looks_mroIn X1 S.obj)
 refine codeAny_call_builtin SF.slot.plain SF.entry (@check_slot (model prog w) _ _ s1 "object.__setattr__" "object" "__setattr__" (.ref x) [.str name s.toks,v] [] _ SF.kind SF.split sub (SF.args (.ref x) (.str name s.toks) v) ?_)
 refine Classical.byContradiction λ hcps=>?_
 obtain ⟨attr,ha,hr2⟩:=Option.bind_eq_some_iff.mp S.take
 refine hcps ?_
 clear hcps
 have hm:Looks (model prog w) s1.heap (mroOf (.ref C)) cd.mro:=(looks_clsIn X1 hc).andThen .now
 have L3:Looks (model prog w) s1.heap (storeTaker? attr) none:=by
  induction attr using Option.casesOn with
  | none=>exact .now
  | some a=>
   refine Classical.byContradiction λ hcps=>?_
   obtain ⟨b,hb,hb2⟩:=Option.map_eq_some_iff.mp hr2
   refine hcps ?_
   clear hcps
   refine (looks_takesIn X1 hb).andThen ?_
   cases b
   ·exact .now
   ·cases hb2
 rw [osa_eq,refuse_eq]
 refine wpAny_bind (wpAny_bind (I1.type.here (wpAny_bind (hm.here ?_))))
 rw [hr]
 refine wpAny_pure (wpAny_bind (I1.type.here (wpAny_bind ((looks_findIn X1 ha).here (wpAny_bind (L3.here ?_))))))
 refine Classical.byContradiction λ hcps=>?_
 obtain ⟨cd',hc',hd'⟩:=any_some S.dict
 refine hcps ?_
 clear hcps
 unfold storeInOwnDict
 refine wpAny_bind (wpAny_pure ?_)
 dsimp only
 unfold ownDictForStores instanceDict
 have hx1:s1.heap.get? x = some { cls:=.ref C,data:=.fields ff }:=I1.at_
 have hxs:x ≠ s1.heap.objs.size:=Nat.ne_of_lt (Heap.lt_size hx1)
 rw [if_neg (show ¬ ((Value.ref C == Value.type "module") = true) from by simp)]
 refine wpAny_bind (wpAny_bind (wpAny_loadPart hx1 (wpAny_bind ((looks_clsIn X1 hc').here ?_))))
 rw [hd']
 rw [if_neg (show ¬ ((!true) = true) from by decide)]
 dsimp only
 rw [if_neg (show ¬ ((!true || !typeHasDict (Value.ref C)) = true) from by simp [typeHasDict])]
 refine wpAny_bind (wpAny_alloc' (wpAny_bind (wpAny_update' (Heap.get?_push_of_some _ hx1) (wpAny_pure ?_))))
 dsimp only
 have hx2:((s1.heap.push { cls:=.type "dict",data:=.dict #[] }).update x λ o=>{ cls:=o.cls,dict:=some s1.heap.objs.size,data:=o.data,slots:=o.slots }).get? x = some { cls:=.ref C,dict:=some s1.heap.objs.size,data:=.fields ff }:=
  Heap.get?_update_self _ (Heap.get?_push_of_some _ hx1) rfl
 have hgd:((s1.heap.push { cls:=.type "dict",data:=.dict #[] }).update x λ o=>{ cls:=o.cls,dict:=some s1.heap.objs.size,data:=o.data,slots:=o.slots }).get? s1.heap.objs.size = some { cls:=.type "dict",data:=.dict #[] }:=
  (Heap.get?_update_ne _ _ _ _ hxs.symm).trans (Heap.get?_push_at rfl rfl)
 have hnd:((s1.heap.push { cls:=.type "dict",data:=.dict #[] }).update x λ o=>{ cls:=o.cls,dict:=some s1.heap.objs.size,data:=o.data,slots:=o.slots }).Ns s1.heap.objs.size (λ zz=>none):=
  ⟨_,#[],_,hgd,rfl,λ e he=>absurd he (by simp),λ zz=>rfl⟩
 unfold storeInDict newKeyGuard
 refine wpAny_bind (wpAny_pure (wpAny_bind (wpAny_nsSet1 (Heap.Ns1.of_empty hnd) λ h' hn' hs=>?_)))
 refine Classical.byContradiction λ hcps=>?_
 obtain ⟨oD,esD,epD,hoD,hdD,hcD⟩:=hn'.count (Within.cons name v Within.nil)
 refine hcps ?_
 clear hcps
 refine wpAny_bind (wpAny_lookBehind hoD (by rw [hdD]; exact pastItsLine_dict (Nat.le_trans hcD (by rw [List.length_cons,List.length_nil,sizeLine_eq]; lia))) ?_)
 refine wpAny_pure ?_
 subst hs1
 refine h h' _ _ ((hs.2 x hxs).trans hx2) λ y o hy ey=>?_
 exact (hs.2 y (Nat.ne_of_lt (Heap.lt_size ey))).trans ((Heap.get?_update_ne _ _ _ _ hy).trans (Heap.get?_push_of_some _ ey))
end
end Mine
end
section
open PySem PySem.W PySem.Calls PyProof.Rows Builtin Builtin.ObjectAttr
set_option backward.match.sparseCases false
namespace Mine
structure InitOk (prog:Program) (X:Frag) (mg mb:Str → Option Value) (fault fI cc cda smt:Addr) (fd:FuncData):Prop where
 find:findIn X (.ref fault) "__init__" = some (some (.ref fI))
 type:typeIn X (.ref fI) = some (.type "function")
 obj:∃ oc od osl,X.lookup fI = some ⟨oc,od,.func fd,osl⟩
 body:∃ p0 p1 p2 p3 p4 p5 p6 p7 p8 p9,fd.body = .stmts [.Expr (.Call (.Attribute (.Call (.Name "super" p0) [] [] p1) "__init__" p2) [.Name "what" p3] [] p4) p5,.Assign [.Attribute (.Name "self" p6) "what" p7] (.Name "what" p8) p9] ∧ (p2.endLine == p4.line) = true
 code:fd.code = .ref cda
 codeIn:codeIn X fd.code fd.qualname = true
 params:∃ ar,(fd.params.posonlyargs ++ fd.params.args).head? = some ar ∧ ar.arg = "self"
 bind:∀ a b,bindArgs fd ⟨[a,b],[]⟩ = pure [(("self":Str),a),(("what":Str),b)]
 kind:fd.scope.kind = .function
 co:fd.scope.isCoroutine = false
 gen:fd.scope.isGenerator = false
 nocell:∀ x ∈ fd.scope.names,x.2 ≠ .cell
 n1:fd.scope.names.lookup ("super":Str) = some .globalImplicit
 n2:fd.scope.names.lookup ("__class__":Str) = some .free
 n3:fd.scope.names.lookup ("self":Str) = some .local
 n4:fd.scope.names.lookup ("what":Str) = some .local
 glob:fd.globals = mainGlobals
 bi:fd.builtins = builtinsNs
 cell:fd.closure.lookup ("__class__":Str) = some cc
 cc:∃ c d sl,X.lookup cc = some ⟨c,d,.cell (some (.ref smt)),sl⟩
 cda:∃ ccl cdd ccs vs file tf,X.lookup cda = some ⟨ccl,cdd,.fields vs,ccs⟩ ∧ vs[2]? = some (.str file tf) ∧ ((prog.main.file:Str) == file) = true
 up:∃ cd,clsIn X smt = some cd
 mro:mroIn X fault (.ref smt) = some true
 exc:mroIn X fault (.type "Exception") = some true
 sup:ks_superIn X fault smt "__init__" = some (some (.builtin eInit))
 opq:nsIn X cStatics "thirdparty.any" = some none
 top:(prog.main.scope.names.lookup ("super":Str)).isSome = false
 mg:mg "super" = none
 mb:mb "super" = some (.type "super")
 set:ExcSet X fault "what"
 cls:∃ nm q N bs bm hdct sn sub ab col dd k0 k1 k2 k3 k5,X.lookup fault = some (excClassObj nm q fault N bs bm hdct sn sub ab col dd k0 k1 k2 k3 k5 "Exception.__new__") ∧ ExcMro "Exception" bm
section
variable {prog:Program} {w:World} {A:Around} {R:Result → Shared → Prop} {s:Shared} {X:Frag} {mg mb:Str → Option Value} {fault fI cc cda smt e t0:Addr} {fd:FuncData}
theorem init_call (IO:InitOk prog X mg mb fault fI cc cda smt fd) (hX:X.In s.heap) (hg:s.heap.Ns mainGlobals mg) (hb:s.heap.Ns builtinsNs mb) (hlim:s.heap.NoLimit) (hroom:A.depth < recursionLimit) (hef:e ≠ fault) (hXe:X.lookup e = none)
  {v:Value} {ot:Obj} (he:s.heap.get? e = some { cls:=.ref fault,data:=.fields #[.ref t0,.none,.none,.none,.bool false,.none] }) (ht:s.heap.get? t0 = some ot)
  (hq:∀ h' dx t1 tk,h'.get? e = some { cls:=.ref fault,dict:=some dx,data:=.fields #[.ref t1,.none,.none,.none,.bool false,.none] } → (∀ y o,y ≠ e → s.heap.get? y = some o → h'.get? y = some o) → R (.ok (.ret .none)) { s with heap:=h',toks:=tk }) :
  codeAny (model prog w) A (.call (.ref fI) ⟨[.ref e,v],[]⟩) R s:=by
 refine Classical.byContradiction λ hcps=>?_
 obtain ⟨oc,od,osl,ho⟩:=IO.obj
 obtain ⟨p0,p1,p2,p3,p4,p5,p6,p7,p8,p9,hbody,hline⟩:=IO.body
 obtain ⟨ar,hp,har⟩:=IO.params
 obtain ⟨c1,c2,c3,hcc⟩:=IO.cc
 obtain ⟨ccl,cdd,ccs,vs,file,tf,hcda,hvs,hfile⟩:=IO.cda
 obtain ⟨cdD,hD⟩:=IO.up
 obtain ⟨nm,q,N,bs,bm,hdct,sn,sub,ab,col,dd,k0,k1,k2,k3,k5,hcls,FM⟩:=IO.cls
 refine hcps ?_
 clear hcps
 refine ks_codeAny_call_defAt (fd:=fd) (binds:=[(("self":Str),.ref e),(("what":Str),v)]) hroom (hX _ _ ho) rfl hlim (codeRec_of hX IO.codeIn) hbody (.of_eq (IO.bind _ _)) IO.nocell (λ x hx=>?_) (λ h1 hns hk1=>?_) IO.co IO.gen IO.kind
 ·rcases List.mem_cons.mp hx with rfl | hx
  ·exact IO.n3
  ·rw [List.mem_singleton] at hx; subst hx; exact IO.n4
 generalize hL:s.heap.objs.size = L at hns
 generalize hen:callEnv fd L fI = env
 have hsc:env.scope = fd.scope:=by rw [← hen]; rfl
 have hkd:env.scope.kind = .function:=by rw [hsc]; exact IO.kind
 have hko:∀ x,env.kindOf x = fd.scope.names.lookup x:=λ x=>by unfold Env.kindOf; rw [hsc]
 have hloc:env.locals = L:=by rw [← hen]; rfl
 have hcells:env.cells = fd.closure:=by rw [← hen]; rfl
 have hgl:env.globals = mainGlobals:=by rw [← hen]; exact IO.glob
 have hbi:env.builtins = builtinsNs:=by rw [← hen]; exact IO.bi
 have hX1:X.In h1:=hX.keeps hk1
 have he1:=hk1 _ _ he
 have hm1:∀ y,([(("self":Str),Value.ref e),(("what":Str),v)]:List (Str × Value)).reverse.lookup y = if y = ("what":Str) then some v else if y = ("self":Str) then some (.ref e) else none:=λ y=>by
  show ([(("what":Str),v),(("self":Str),Value.ref e)]:List (Str × Value)).lookup y = _
  rw [List.lookup_cons,List.lookup_cons]
  by_cases q1:y = ("what":Str)
  ·subst q1; simp
  ·rw [beq_false_of_ne q1,if_neg q1]
   by_cases q2:y = ("self":Str)
   ·subst q2; simp
   ·rw [beq_false_of_ne q2,if_neg q2]; rfl
 have lwhat:∀ {s':Shared} {Q:Value → Shared → Prop} {E:Value → Shared → Prop} {A':Around},(∀ b o,h1.get? b = some o → b ≠ e → s'.heap.get? b = some o) → Q v s' → wpAny (model prog w) A' (loadName env "what") Q E s':=λ hk q=>by
  refine Classical.byContradiction λ hcps=>?_
  obtain ⟨oL,es,ep,hoL,r⟩:=hns
  refine hcps ?_
  clear hcps
  have hLe:L ≠ e:=λ z=>by
   have:=Heap.lt_size he
   rw [← z,hL] at this
   exact absurd this (Nat.lt_irrefl _)
  refine wpAny_loadName_local hkd ((hko _).trans IO.n4) (m:=λ y=>([(("self":Str),Value.ref e),(("what":Str),v)]:List (Str × Value)).reverse.lookup y) ?_ (by rw [hm1,if_pos rfl]) q
  rw [hloc]
  exact ⟨oL,es,ep,hk _ _ hoL hLe,r⟩
 have lself:∀ {s':Shared} {Q:Value → Shared → Prop} {E:Value → Shared → Prop} {A':Around},(∀ b o,h1.get? b = some o → b ≠ e → s'.heap.get? b = some o) → Q (.ref e) s' → wpAny (model prog w) A' (loadName env "self") Q E s':=λ hk q=>by
  refine Classical.byContradiction λ hcps=>?_
  obtain ⟨oL,es,ep,hoL,r⟩:=hns
  refine hcps ?_
  clear hcps
  have hLe:L ≠ e:=λ z=>by
   have:=Heap.lt_size he
   rw [← z,hL] at this
   exact absurd this (Nat.lt_irrefl _)
  refine wpAny_loadName_local hkd ((hko _).trans IO.n3) (m:=λ y=>([(("self":Str),Value.ref e),(("what":Str),v)]:List (Str × Value)).reverse.lookup y) ?_ (by rw [hm1,if_neg (by decide),if_pos rfl]) q
  rw [hloc]
  exact ⟨oL,es,ep,hk _ _ hoL hLe,r⟩
 have hform:∀ pos,methodCallForm ([Expr.Name "what" p3].length + ([]:List Keyword).length) (backTo pos (starEach [Expr.Name "what" p3] env)) (backToKw pos (keywordEach [] env)) = true:=λ zz=>rfl
 have hpos:∀ o,methodCallPos true o env p2 p4 = pure p4:=λ o=>by unfold methodCallPos; simp [hline]
 refine ks_wpAt_execs_cons (ks_wpAt_Expr_any (ks_wpAt_MethodCall (pl:=do return (← importBound (.Call (.Name "super" p0) [] [] p1) env).getD true) ?_ (by
  rw [arm_eval_Call]
  unfold methodCall
  rw [hform,hpos]
  rfl)) (by unfold interactive; rw [hkd]; rfl))
 obtain ⟨oD,hD1,hD2⟩:∃ oD,h1.get? smt = some oD ∧ oD.data = .cls cdD:=by
  unfold clsIn at hD
  split at hD
  ·rename_i c d cd' sl ho'
   cases hD
   exact ⟨_,hX1 _ _ ho',rfl⟩
  ·cases hD
 refine ks_wpAt_super_base (env:=env) ((hko _).trans IO.n1) ((hko _).trans IO.n2) (by decide) (show env.func = some fI by rw [← hen]; rfl) (hX1 _ _ ho) rfl hp (show env.code = .ref cda by rw [← hen]; exact IO.code) (hX1 _ _ hcda) rfl hvs hfile IO.top ?_
 refine ks_loadName_global hkd ((hko _).trans IO.n1) (loadGlobal_builtin (by rw [hgl]; exact hg.keeps hk1) IO.mg (by rw [hbi]; exact hb.keeps hk1) IO.mb ⟨rfl,?_⟩)
 refine wpAny_loadName_free hkd ((hko _).trans IO.n2) (by rw [hcells]; exact IO.cell) ⟨_,hX1 _ _ hcc,rfl⟩ ?_
 rw [har]
 refine lself (λ zz zz h zz=>h) ?_
 refine ks_wpAny_isType_cls hD1 hD2 ⟨rfl,?_⟩
 refine ks_wpAny_call_super hD1 hD2 he1 rfl (λ c=>by simp) (looks_mroIn hX1 IO.mro) (λ h2 e2 k2=>?_)
 have hX2:X.In h2:=hX1.keeps k2
 obtain ⟨cdf,hcdf⟩:∃ cd,clsIn X fault = some cd:=⟨_,by unfold clsIn; rw [hcls]⟩
 have hsup:=IO.sup
 unfold ks_superIn at hsup
 rw [hcdf] at hsup
 refine ex_getMethod_super (l₀:=cdf.mro) e2 (looks_opaque hX2 IO.opq) (λ A Q E s k q=>wpAny_bind ((looks_clsIn hX2 hcdf) A _ E s k (wpAny_pure q))) rfl hX2 (k2 _ _ he1) rfl (looks_mroIn hX2 IO.exc) hsup hef ?_
 have n2:(h2.push (wrapObj e)).get? h2.objs.size = some (wrapObj e):=Heap.get?_push_size _ rfl
 have k3:∀ b o,h2.get? b = some o → (h2.push (wrapObj e)).get? b = some o:=λ b o q=>Heap.get?_push_of_some _ q
 have keep:Looks (model prog w) (h2.push (wrapObj e)) (keeperOf (.ref h2.objs.size)) .machine:=λ A Q E s k q=>wpAny_bind (wpAny_load (k _ _ n2) (wpAny_pure q))
 refine callWith_of (P:=λ h=>KeepOk (model prog w) h (.ref h2.objs.size)) rfl (λ zz h=>h) (args_plain rfl ?_)
 have hname:∀ {x:Str} {pos:Pos} {s':Shared} {Q:Value → Shared → Prop} {E:Value → Shared → Prop} {A':Around},(x == ("__debug__":Str)) = false → wpAny (model prog w) A' (loadName env x) Q E s' → wpAny (model prog w) A' (eval (.Name x pos) env) Q E s':=λ {x pos s' Q E A'} hx h=>by
  show wpAny _ _ (standAt pos >>= λ zz=>if x == ("__debug__":Str) then debugConstant else loadName env x) Q E _
  refine wpAny_bind (wpAny_standAt ?_)
  rw [hx]
  exact h
 show wpAny _ _ (spliced [(false,eval (.Name "what" p3) env)]) _ _ _
 rw [spliced]
 refine wpAny_bind (hname (by decide) (lwhat (λ b o q zz=>k3 _ _ (k2 _ _ q)) ?_))
 refine wpAny_bind (wpAny_pure (wpAny_bind (wpAny_holding (wpAny_pure (wpAny_pure ⟨⟨.machine,.inr (.inl rfl),keep⟩,?_⟩)))))
 refine wpAny_call (wrap_call FM (k3 _ _ (hX2 _ _ hcls)) n2 (k3 _ _ (k2 _ _ he1)) (k3 _ _ (k2 _ _ (hk1 _ _ ht))) λ h4 e4 k4=>?_)
 have hne:∀ {b:Addr} {o:Obj},h1.get? b = some o → b ≠ e → h4.get? b = some o:=λ q n=>k4 _ _ n (k3 _ _ (k2 _ _ q))
 have hX4:X.In h4:=λ b o q=>hne (hX1 b o q) (λ z=>by subst z; rw [hXe] at q; cases q)
 refine ks_wpAt_execs_cons (ks_wpAt_Assign_Attr ?_ (by rfl))
 refine _root_.PySem.wpAt_of_wpAny ?_
 refine hname (by decide) (lwhat (λ b o q n=>hne q n) ?_)
 refine hname (by decide) (lself (λ b o q n=>hne q n) ?_)
 refine exc_setattr hX4 IO.set e4 λ h5 dx tk e5 k5=>?_
 refine _root_.PySem.wpAt_of_wpAny (wpAny_execs_nil ?_)
 exact hq h5 dx _ _ e5 λ y o n q=>k5 _ _ n (hne (hk1 _ _ q) n)
end
end Mine
end
section
open PySem PySem.W PySem.Calls PyProof.Rows Builtin Builtin.ObjectAttr
set_option backward.match.sparseCases false
namespace Mine
inductive JStr:Value → Prop
 | mk (z:Str) (t:Tok) (h:z.length ≤ 20000):JStr (.str z t)
noncomputable def RJ:Tags → Unit → Value → Prop:=λ zz zz=>JStr
section
variable {prog:Program} {w:World} {h₀:Heap} {K:Tbl} {ro ro':Bool} {f:Frm} {env:Env} {es outer:List Env} {A:Around} {T T0:Tags} {c c0:Cells} {l l0 l':Locs} {s s0:Shared} {d:Nat} {cf:Callee} {n:Nat} {mg mb:Str → Option Value} {X:Frag} {e:Addr}
theorem fmtOf_some {x:Expr} {y:Str}:fmtOf x = some y → ∃ p1 p2,x = .FormattedValue (.Name y p1) (-1) none p2:=by
 induction x using PySem.Expr.casesOn with
 | FormattedValue e k s p=>
  intro h
  obtain ⟨hb,h⟩:=bif_opt h
  obtain ⟨p1,rfl⟩:=nameOf_some h
  cases of_decide_eq_true (and_l hb)
  cases Option.isNone_iff_eq_none.mp (and_r hb)
  exact ⟨p1,p,rfl⟩
 | _=>exact nS
theorem join_part (V:World0 h₀ K X mg mb) (P:Pre (w:=w) h₀ T c l s f env es) {x:Expr} {r:List Expr} (hnf:joined K f (x :: r) c l ≠ .fail) {Q E:Value → Shared → Prop} (hE:∀ v s',ER (w:=w) h₀ K ro env es T s (joined K f (x :: r) c l) v s' → E v s')
  (k:∀ z t c' l' s' T',joined K f (x :: r) c l = joined K f r c' l' → z.length ≤ 1000 → Out (w:=w) h₀ ro f env es T s T' c' l' s' → joined K f r c' l' ≠ .fail → Q (.str z t) s'):wpAny (model prog w) A (eval x env) Q E s:=by
 have e0:joined K f (x :: r) = onO (strK x) (λ z:Str=>gd (decide (z.length ≤ 1000)) (joined K f r)) (opt (fmtOf x) λ x=>jn (ldName K f x) (joined K f r)):=rfl
 induction hk:strK x using Option.casesOn with
 | some z=>
  rw [hk] at e0
  obtain ⟨hz,e⟩:=gd_go (m:=joined K f r) (e0 ▸ hnf)
  have e1:joined K f (x :: r) = joined K f r:=e0.trans e
  obtain ⟨n,p,rfl⟩:=strK_some hk
  exact wpAny_Constant_str (k z _ c l _ T (congrFun (congrFun e1 c) l) (of_decide_eq_true hz) (P.tok _) (e1 ▸ hnf))
 | none=>
  rw [hk] at e0
  obtain ⟨y,hy,e⟩:=opt_go (g:=λ x=>jn (ldName K f x) (joined K f r)) (e0 ▸ hnf)
  have e1:joined K f (x :: r) = jn (ldName K f y) (joined K f r):=e0.trans e
  obtain ⟨p1,p2,rfl⟩:=fmtOf_some hy
  refine FormattedValue_plain (At.seqP (at_Name V P y p1) (show jn (ldName K f y) (joined K f r) c l ≠ .fail from e1 ▸ hnf) (λ v s' q=>hE v s' (e1 ▸ q)) λ v c' l' u s1 T1 zz hb o ru hg=>?_)
  obtain ⟨z,hz,e2⟩:=opt_go hg
  rw [e2] at hg
  obtain ⟨hl,e3⟩:=gd_go hg
  rw [e3] at hg
  cases strOf_some hz
  induction ru using Mine.StrV.casesOn with
  | mk t=>
   exact formatField_str (λ t' tk=>k z t' c' l' _ T1 ((congrFun (congrFun e1 c) l).trans (hb.trans (congrFun (congrFun (e2.trans e3) c') l'))) (of_decide_eq_true hl) (o.trans (o.pre.tok tk)) hg) (Nat.le_trans (of_decide_eq_true hl) (by rw [sizeLine_eq]; decide))
theorem at_join (V:World0 h₀ K X mg mb):∀ (vs:List Expr) (acc:Str) (T:Tags) (c:Cells) (l:Locs) (s:Shared),Pre (w:=w) h₀ T c l s f env es → acc.length + 1000 * vs.length ≤ 20000 → At (w:=w) h₀ K ro f env es prog A T c l s (joinParts acc (evalEach vs env)) (joined K f vs) RJ
 | [],acc,T,c,l,s,P,hl=>At.ok rfl λ E=>joinParts_nil ⟨T,P.tok _,JStr.mk acc _ hl⟩ (Nat.le_trans hl (by rw [sizeLine_eq]; decide))
 | x :: r,acc,T,c,l,s,P,hl=>λ hnf=>joinParts_cons (join_part V P hnf (λ zz zz q=>q) λ z t c' l' s' T' e hz o hg=>by
  have hlen:(acc ++ z).length = acc.length + z.length:=strLen_append ..
  rw [List.length_cons] at hl
  have hl2:(acc ++ z).length + 1000 * r.length ≤ 20000:=by rw [hlen]; lia
  refine ⟨Nat.le_trans (Nat.le_add_right _ _) (Nat.le_trans hl2 (by rw [sizeLine_eq]; decide)),?_⟩
  rw [e]
  exact wpAny_mono (at_join V r (acc ++ z) T' c' l' s' o.pre hl2 hg) (λ zz zz q=>q.trans o) λ zz zz q=>q.trans o)
theorem at_joinedStr (V:World0 h₀ K X mg mb) {vs:List Expr} {jp:Pos} (P:Pre (w:=w) h₀ T c l s f env es) (hl:vs.length ≤ 10):At (w:=w) h₀ K ro f env es prog A T c l s (eval (.JoinedStr vs jp) env) (joined K f vs) RJ:=by
 refine At.eq (arm_eval_JoinedStr ..) ?_
 have many:=at_join (ro:=ro) (A:=A) (prog:=prog) V vs Str.empty T c l s P (by show 0 + _ ≤ _; lia)
 rcases vs with _ | ⟨x,_ | ⟨y,r⟩⟩
 ·exact many
 ·exact λ hnf=>join_part V P hnf (λ zz zz q=>q) λ z t c' l' s' T' e hz o hg=>by
   rw [e]
   exact ⟨T',o,JStr.mk z t (Nat.le_trans hz (by decide))⟩
 ·exact many
end
end Mine
end
section
open PySem PySem.W PySem.Calls PyProof.Rows Builtin Builtin.ObjectAttr
set_option backward.match.sparseCases false
namespace Mine
section
variable {M:Model} {A:Around} {env:Env} {X:Frag}
variable {nm q:Str} {C N:Addr} {bs bm:List Value} {hdct:Bool} {sn:List Str} {sub:List Value} {ab:Bool} {col:Option Bool} {dd:Option Addr} {k0 k1 k2 k3 k5:Option Value} {newId:String}
theorem raise_made {s:Shared} {x:Sem Value} {E:Value → Shared → Prop} {Q:Flow → Shared → Prop} (hbase:bm.contains (.type "BaseException") = true) (hh:A.handled = none)
  (h:wpAny M A x (λ v s₁=>∃ e t dx,v = .ref e ∧ s₁.heap.get? C = some (excClassObj nm q C N bs bm hdct sn sub ab col dd k0 k1 k2 k3 k5 newId) ∧
   s₁.heap.get? e = some { cls:=.ref C,dict:=dx,data:=.fields #[.ref t,.none,.none,.none,.bool false,.none] } ∧ E (.ref e) s₁) E s) :
  wpAny M A (raiseStmt env (some x) none) Q E s:=by
 have hcB:(Value.ref C :: bm).contains (.type "BaseException") = true:=by rw [List.contains_cons,hbase,Bool.or_true]
 unfold raiseStmt
 refine wpAny_bind (wpAny_mono h (λ v s₁ h₁=>?_) λ zz zz x=>x)
 refine Classical.byContradiction λ hcps=>?_
 obtain ⟨e,t,dx,rfl,hC,he,hE⟩:=h₁
 obtain ⟨hp,g,d,tk,os⟩:=s₁
 refine hcps ?_
 clear hcps
 repeat (first | with_reducible refine wpAny_loadPart_at he ?_ | with_reducible refine wpAny_loadPart_at hC ?_ | (with_reducible refine wpAny_isSubtype_exc hC ?_; rw [hcB]) | wp_step)
 exact wpAny_raiseNew_none hh hE
end
section
variable {prog:Program} {w:World} {h₀:Heap} {K:Tbl} {ro ro':Bool} {f:Frm} {env:Env} {es outer:List Env} {A:Around} {T T0:Tags} {c c0:Cells} {l l0 l':Locs} {s s0:Shared} {d:Nat} {cf:Callee} {n:Nat} {mg mb:Str → Option Value} {X:Frag} {e:Addr}
theorem ex_raise {fI cc cda smt:Addr} {fd:FuncData} (V:World0 h₀ K X mg mb) (IO:InitOk prog X mg mb K.fault fI cc cda smt fd) (hlim:h₀.NoLimit) (hA:AOk A d es) (P:Pre (w:=w) h₀ T c l s f env es)
  {x:Str} {vs:List Expr} {np jp cp pos:Pos} (hx:isFault K f x = true) (hro:ro = false) (hvs:vs.length ≤ 10) :
  At (w:=w) h₀ K ro f env es prog A T c l s (exec (.Raise (some (.Call (.Name x np) [.JoinedStr vs jp] [] cp)) none pos) env) (raiS (joined K f vs)) RF:=by
 intro hnf
 refine Classical.byContradiction λ hcps=>?_
 obtain ⟨nm,q,N,bs,bm,hdct,sn,sub,ab,col,dd,k0,k1,k2,k3,k5,hcls,FM⟩:=IO.cls
 refine hcps ?_
 clear hcps
 rw [arm_exec_Raise]
 show wpAny _ _ (standAt pos >>= λ zz=>raiseStmt env (some (eval (.Call (.Name x np) [.JoinedStr vs jp] [] cp) env >>= λ v=>standAt pos >>= λ zz=>pure v)) none) _ _ _
 refine wpAny_bind (wpAny_standAt (raise_made (nm:=nm) (q:=q) (C:=K.fault) (N:=N) (bs:=bs) (bm:=bm) (hdct:=hdct) (sn:=sn) (sub:=sub) (ab:=ab) (col:=col) (dd:=dd) (k0:=k0) (k1:=k1) (k2:=k2) (k3:=k3) (k5:=k5) (newId:="Exception.__new__") FM.hasBase hA.hand (wpAny_bind (wpAny_Call_ofName (at_faultName V P.wd P.frm hx ?_)))))
 refine callWith_of (P:=λ h=>KeepOk (model prog w) h (.ref K.fault)) rfl (λ zz h=>h) (args_plain rfl ?_)
 refine wpAny_spliced (x:=eval (.JoinedStr vs jp) env) (rest:=[]) (At.seqP (at_joinedStr (ro:=ro) V P hvs) hnf (λ zz zz q=>q) λ zz c' l' v s2 T2 zz hb o2 rj zz=>wpAny_pure ?_)
 rw [show raiS (joined K f vs) c l = .exc c' from hb]
 have kp:=o2.pre.wd.keeps w
 have X2:=V.inX.keeps kp
 refine ⟨⟨.machine,.inr (.inl rfl),λ A Q E s k q=>?_⟩,?_⟩
 ·refine Classical.byContradiction λ hcps=>?_
  obtain ⟨hp,g,d,tk,os⟩:=s
  refine hcps ?_
  clear hcps
  exact wpAny_keeperOf_exc (k _ _ (X2 _ _ hcls)) q
 refine Classical.byContradiction λ hcps=>?_
 obtain ⟨hp2,g2,d2,tk2,os2⟩:=s2
 refine hcps ?_
 clear hcps
 refine ec_call PySem.F.excBase_Exception FM X2 (X2 _ _ hcls) IO.find IO.type (λ h3 e hm he=>?_) (show 1 ≤ sizeLine by rw [sizeLine_eq]; decide)
 refine Classical.byContradiction λ hcps=>?_
 obtain ⟨t0,ht,htn,ht0⟩:=hm.there
 refine hcps ?_
 clear hcps
 have newer:∀ {b o},X.lookup b = some o → b ≠ e:=λ q z=>by have:=hm.new; rw [← z,X2 _ _ q] at this; cases this
 have hXe:X.lookup e = none:=by
  induction q:X.lookup e using Option.casesOn with
  | none=>rfl
  | some o=>exact absurd rfl (newer q)
 have k3:∀ b o,h₀.get? b = some o → h3.get? b = some o:=λ b o q=>hm.keeps _ _ (kp _ _ q)
 refine wpAny_call (init_call IO (X2.keeps hm.keeps) (V.glob.g.keeps k3) (V.glob.b.keeps k3) (hlim.keeps k3) (by have:=hA.dep; rw [depth_under_make]; lia) (newer hcls).symm hXe ht ht0 λ h4 dx t1 tk e4 k4=>⟨rfl,wpAny_bind (wpAny_standAt (wpAny_pure ?_))⟩)
 have k5:∀ b o,hp2.get? b = some o → h4.get? b = some o:=λ b o q=>k4 _ _ (λ z=>by rw [z,hm.new] at q; cases q) (hm.keeps _ _ q)
 have o3:=o2.trans (o2.pre.grow (h':=h4) (tk:=tk) k5)
 refine Classical.byContradiction λ hcps=>?_
 obtain ⟨lf,m,ln,zz⟩:=o3.pre.loc
 refine hcps ?_
 clear hcps
 exact ⟨e,t1,some dx,rfl,k5 _ _ (X2 _ _ hcls),e4,ExcR.mk T2 e hro o3.step o3.same o3.pre.wd o3.pre.frs ⟨lf,m,ln,λ zz zz q=>nomatch q⟩ ⟨_,_,_,.none,none_older o2.step.live hm.new,o2.pre.none_free hm.new,e4,rfl,rfl,rfl,rfl,.none⟩⟩
end
end Mine
end
section
open PySem PySem.W PySem.Calls PyProof.Rows Builtin Builtin.ObjectAttr
set_option backward.match.sparseCases false
namespace Mine
structure World1 (prog:Program) (h₀:Heap) (K:Tbl) (X:Frag) (mg mb:Str → Option Value):Prop extends World0 h₀ K X mg mb where
 exm:exmOne X (.ref K.fault) (.ref K.fault) = some true
 lim:h₀.NoLimit
 init:∃ fI cc cda smt fd,InitOk prog X mg mb K.fault fI cc cda smt fd
section
variable {prog:Program} {w:World} {h₀:Heap} {K:Tbl} {ro ro':Bool} {f:Frm} {env:Env} {es outer:List Env} {A:Around} {T T0:Tags} {c c0:Cells} {l l0 l':Locs} {s s0:Shared} {d:Nat} {cf:Callee} {n:Nat} {mg mb:Str → Option Value} {X:Frag} {e:Addr}
theorem headE_some {α:Type} {l:List α} {x:α} (h:headE l = some x):l = [x]:=by
 rcases l with _ | ⟨y,r⟩
 ·exact nS h
 ·obtain ⟨hr,rfl⟩:=bif_some h
  rw [isEmpty_inv hr]
theorem joinOf_some {e:Expr} {vs:List Expr}:joinOf e = some vs → ∃ p,e = .JoinedStr vs p:=by
 induction e using PySem.Expr.casesOn with
 | JoinedStr ws p=>exact λ h=>⟨p,by cases h; rfl⟩
 | _=>exact nS
theorem raiseOf_some {e:Expr} {p:Str × List Expr} (h:raiseOf e = some p):∃ np jp cp,e = .Call (.Name p.1 np) [.JoinedStr p.2 jp] [] cp:=by
 refine Classical.byContradiction λ hcps=>?_
 obtain ⟨t,ht,h⟩:=Option.bind_eq_some_iff.mp h
 obtain ⟨cp,rfl⟩:=callOf_some ht
 obtain ⟨hk,h⟩:=bif_opt h
 obtain ⟨x,hx,h⟩:=Option.bind_eq_some_iff.mp h
 obtain ⟨a,ha,h⟩:=Option.bind_eq_some_iff.mp h
 obtain ⟨vs,hv,rfl⟩:=Option.map_eq_some_iff.mp h
 obtain ⟨np,hn⟩:=nameOf_some hx
 obtain ⟨jp,rfl⟩:=joinOf_some hv
 refine hcps ?_
 clear hcps
 exact ⟨np,jp,cp,by rw [hn,headE_some ha,isEmpty_inv hk]⟩
theorem retOf_some {s:Stmt} {e:Expr}:retOf s = some e → ∃ p,s = .Return (some e) p:=by
 induction s using PySem.Stmt.casesOn with
 | Return v p=>exact λ h=>⟨p,by rw [show v = some e from h]⟩
 | _=>exact nS
theorem handOf_some {hd:ExceptHandler} {p:Str × Str} (h:handOf hd = some p):∃ np kk p1 p2 p3,hd = .ExceptHandler (some (.Name p.1 np)) none [.Return (some (.Constant (.str p.2) kk p1)) p2] p3:=by
 refine Classical.byContradiction λ hcps=>?_
 obtain ⟨t,n,b,p3⟩:=hd
 obtain ⟨hn,h⟩:=bif_opt h
 obtain ⟨x,hx,h⟩:=Option.bind_eq_some_iff.mp h
 obtain ⟨e,he,h⟩:=Option.bind_eq_some_iff.mp h
 obtain ⟨r,hr,rfl⟩:=Option.map_eq_some_iff.mp h
 obtain ⟨t,rfl,ht⟩:=Option.bind_eq_some_iff.mp hx
 obtain ⟨st,hst,he⟩:=Option.bind_eq_some_iff.mp he
 obtain ⟨np,rfl⟩:=nameOf_some ht
 obtain ⟨p2,rfl⟩:=retOf_some he
 obtain ⟨kk,p1,rfl⟩:=strK_some hr
 refine hcps ?_
 clear hcps
 exact ⟨np,kk,p1,p2,p3,by rw [headE_some hst,Option.isNone_iff_eq_none.mp hn]⟩
theorem ex_s (V:World1 prog h₀ K X mg mb) (I:∀ n,EvOk prog w h₀ K cf d n) (IX:ExOk prog w h₀ K cf d n) (hA:AOk A d es) (O:OwnFr A env es) (P:Pre (w:=w) h₀ T c l s f env es) (x:Stmt) :
  At (w:=w) h₀ K ro f env es prog A T c l s (exec x env) (exS K cf (n + 1) ro f x) RF:=by
 induction x using PySem.Stmt.casesOn with
 | Return v pos=>exact At.opt λ e he=>by subst he; exact ex_ret (I n) hA P
 | Assign ts e pos=>exact At.one2 (tt:=λ ts=>exec (.Assign ts e pos) env) λ t=>At.gd λ hok=>ex_assign I hA P hok
 | Expr e pos=>exact At.gd λ hc=>ex_expr (I n) hA P (not_t hc)
 | If t a b pos=>exact ex_if (I n) IX hA O P
 | While t b els pos=>exact At.gd λ h=>by cases isEmpty_inv h; exact ex_while (I n) IX hA O P
 | For tg it b els pos=>
  refine At.gd λ h=>?_
  cases isEmpty_inv h
  refine At.onO (λ p hp=>?_) λ zz=>At.gd λ hs=>ex_for V.toWorld0 (I n) IX hA O P (not_t hs)
  induction isZip_some hp using Mine.ZipCall.casesOn with
  | mk p1 p2 h1 h2=>exact ex_forzip V.toWorld0 (I n) IX hA O P h1 h2
 | Raise ex cause pos=>
  refine At.gd λ hn=>At.opt λ p hp=>At.gd λ hc=>?_
  cases Option.isNone_iff_eq_none.mp hn
  refine Classical.byContradiction λ hcps=>?_
  obtain ⟨e,rfl,he⟩:=Option.bind_eq_some_iff.mp hp
  obtain ⟨np,jp,cp,rfl⟩:=raiseOf_some he
  obtain ⟨fI,cc,cda,smt,fd,IO⟩:=V.init
  refine hcps ?_
  clear hcps
  exact ex_raise V.toWorld0 IO V.lim hA P (and_l (and_l hc)) (not_t (and_r (and_l hc))) (of_decide_eq_true (and_r hc))
 | Try b hs els fin pos=>
  refine At.gd λ hn=>At.opt λ p hp=>At.gd λ hc=>?_
  cases isEmpty_inv (and_l hn)
  cases isEmpty_inv (and_r hn)
  refine Classical.byContradiction λ hcps=>?_
  obtain ⟨hd,hh,hp⟩:=Option.bind_eq_some_iff.mp hp
  refine hcps ?_
  clear hcps
  cases headE_some hh
  refine Classical.byContradiction λ hcps=>?_
  obtain ⟨np,kk,p1,p2,p3,rfl⟩:=handOf_some hp
  refine hcps ?_
  clear hcps
  exact ex_try V.toWorld0 V.exm IX hA O P (and_l hc)
 | _=>exact At.no rfl
theorem ex_ok (V:World1 prog h₀ K X mg mb) (I:∀ n,EvOk prog w h₀ K cf d n):∀ n,ExOk prog w h₀ K cf d n
 | 0=>⟨λ zz zz zz zz zz zz zz zz zz x zz zz zz=>At.no rfl,λ zz zz zz zz zz zz zz zz zz x zz zz zz=>At.no rfl⟩
 | n + 1=>⟨λ zz zz zz zz zz zz zz zz zz x hA O P=>ex_s V I (ex_ok V I n) hA O P x,λ zz zz zz zz zz zz zz zz zz xs hA O P=>ex_l (ex_ok V I n) hA O P xs⟩
end
end Mine
end
section
open PySem PySem.W PySem.Calls PyProof.Rows Builtin Builtin.ObjectAttr
set_option backward.match.sparseCases false
namespace Mine
noncomputable def cellNames:List (Str × NameKind) → List Str
 | []=>[]
 | (x,k) :: r=>if k == .cell then x :: cellNames r else cellNames r
theorem boxes_map (bs:List (Str × PV)):∀ names,boxes bs names = (cellNames names).map λ x=>.box (bs.lookup x)
 | []=>rfl
 | (x,k) :: r=>by
  unfold boxes cellNames
  split
  ·rw [List.map_cons,boxes_map bs r]
  ·exact boxes_map bs r
theorem cells_of:∀ (names:List (Str × NameKind)) (n:Nat) (acc:List (Str × Addr)) (x:Str) (a:Addr),(cellsFrom n names acc).lookup x = some a → (∃ k,(cellNames names)[k]? = some x ∧ a = n + k) ∨ acc.lookup x = some a
 | [],_,_,_,_,h=>.inr h
 | (y,kd) :: r,n,acc,x,a,h=>by
  unfold cellsFrom at h
  unfold cellNames
  split at h
  ·rename_i hk
   rw [if_pos hk]
   rcases cells_of r (n + 1) _ x a h with ⟨k,h1,rfl⟩ | h1
   ·exact .inl ⟨k + 1,h1,show (n + 1 + k:Nat) = n + (k + 1) by lia⟩
   ·rw [List.lookup_cons] at h1
    by_cases q:x = y
    ·subst q
     simp only [beq_self_eq_true,Option.some.injEq] at h1
     exact .inl ⟨0,rfl,h1.symm⟩
    ·rw [beq_false_of_ne q] at h1
     exact .inr h1
  ·rename_i hk
   rw [if_neg hk]
   exact cells_of r n acc x a h
theorem cells_at:∀ (names:List (Str × NameKind)) (n:Nat) (acc:List (Str × Addr)) (x:Str) (k:Nat),(cellNames names).Nodup → (cellNames names)[k]? = some x → (cellsFrom n names acc).lookup x = some (n + k)
 | [],_,_,_,_,_,h=>by simp [cellNames] at h
 | (y,kd) :: r,n,acc,x,k,hn,h=>by
  unfold cellsFrom
  unfold cellNames at hn h
  split at hn
  ·rename_i hk
   rw [if_pos hk] at h ⊢
   refine Classical.byContradiction λ hcps=>?_
   obtain ⟨h1,h2⟩:=List.nodup_cons.mp hn
   refine hcps ?_
   clear hcps
   induction k using Nat.casesOn with
   | zero=>
    simp only [List.getElem?_cons_zero,Option.some.injEq] at h
    subst h
    have miss:∀ (names:List (Str × NameKind)) (n:Nat) (acc:List (Str × Addr)),y ∉ cellNames names → (cellsFrom n names acc).lookup y = acc.lookup y:=by
     intro names
     induction names with
     | nil=>intro n acc zz; rfl
     | cons z r ih=>
      intro n acc hz
      refine Classical.byContradiction λ hcps=>?_
      obtain ⟨z,kz⟩:=z
      refine hcps ?_
      clear hcps
      unfold cellsFrom
      unfold cellNames at hz
      split at hz
      ·rename_i hk'
       rw [if_pos hk',ih _ _ (λ q=>hz (List.mem_cons_of_mem _ q)),List.lookup_cons,beq_false_of_ne (λ q=>hz (by rw [q]; exact List.mem_cons_self))]
      ·rename_i hk'
       rw [if_neg hk',ih _ _ hz]
    rw [miss r (n + 1) _ h1]
    simp
   | succ k=>
    simp only [List.getElem?_cons_succ] at h
    rw [cells_at r (n + 1) _ x k h2 h]
    congr 1
    lia
  ·rename_i hk
   rw [if_neg hk] at h ⊢
   exact cells_at r n acc x k hn h
theorem mem_cellNames {names:List (Str × NameKind)} {x:Str}:x ∈ cellNames names ↔ (x,NameKind.cell) ∈ names:=by
 induction names with
 | nil=>simp [cellNames]
 | cons y r ih=>
  obtain ⟨y,k⟩:=y
  unfold cellNames
  split
  ·rename_i hk
   have:k = .cell:=by simpa using hk
   subst this
   simp [ih]
  ·rename_i hk
   rw [ih]
   simp only [List.mem_cons,Prod.mk.injEq]
   constructor
   ·exact .inr
   ·rintro (⟨rfl,rfl⟩ | h)
    ·exact absurd rfl hk
    ·exact h
section
variable {w:World} {h₀ h:Heap}
structure Retag (w:World) (h₀ h:Heap) (T:Tags) (c cs:Cells) (n:Nat) (T':Tags):Prop where
 wd:Wd w h₀ T' (c ++ cs) h
 le:T.le T'
 low:∀ a,a < n → T' a = T a
 at_:∀ k,k < cs.length → T' (n + k) = .cell (c.length + k)
theorem retagAll {bs:Str → Option PV} {cm:Str → Option Value}:∀ (xs:List Str) (n:Nat) (T:Tags) (c:Cells),Wd w h₀ T c h →
  (∀ k x,xs[k]? = some x → T (n + k) = .free ∧ h.IsCell (n + k) (cm x) ∧ OptRel T (bs x) (cm x)) → ∃ T',Retag w h₀ h T c (xs.map λ x=>.box (bs x)) n T'
 | [],n,T,c,W,_=>⟨T,(List.append_nil c).symm ▸ W,Tags.le.refl T,λ zz zz=>rfl,λ k hk=>absurd hk (Nat.not_lt_zero _)⟩
 | x :: r,n,T,c,W,H=>by
  obtain ⟨tf,hc,hr⟩:=H 0 x rfl
  have le1:T.le (T.put n (.cell c.length)):=Tags.le_put _ tf
  have W1:=W.retag w (x:=.box (bs x)) tf (let ⟨o,ho,_⟩:=hc; liveOf ho) ⟨n,cm x,Tags.put_self ..,hc,hr.mono le1⟩
  have sh:∀ k,n + (k + 1) = n + 1 + k:=λ k=>by lia
  obtain ⟨T',R⟩:=retagAll (bs:=bs) (cm:=cm) r (n + 1) (T.put n (.cell c.length)) (c ++ [.box (bs x)]) W1 (λ k y hk=>by
   obtain ⟨t1,t2,t3⟩:=H (k + 1) y hk
   rw [sh k] at t1 t2
   exact ⟨(T.put_ne _ (show (n + 1 + k:Nat) ≠ n by lia)).trans t1,t2,t3.mono le1⟩)
  refine ⟨T',?_,le1.trans R.le,λ a ha=>(R.low a (Nat.lt_succ_of_lt ha)).trans (T.put_ne _ (Nat.ne_of_lt ha)),λ k hk=>?_⟩
  ·have:=R.wd
   rw [List.append_assoc] at this
   exact this
  ·induction k using Nat.casesOn with
   | zero=>exact R.le.cell (Tags.put_self ..)
   | succ k=>
    have:=R.at_ k (Nat.lt_of_succ_lt_succ hk)
    rw [List.length_append,List.length_singleton] at this
    rw [sh k,this,Nat.succ_add_eq_add_succ]
end
theorem bindL_lookup (kindOf:Str → Option NameKind) (y:Str):∀ (bs:List (Str × Value)) (m:Str → Option Value),(bs.map (·.1)).Nodup → bindL kindOf bs m y = (match bs.lookup y with | some v=>if kindOf y = some .local then some v else m y | none=>m y)
 | [],m,_=>rfl
 | (x,v) :: r,m,hn=>by
  obtain ⟨h1,h2⟩:=List.nodup_cons.mp hn
  unfold bindL
  rw [bindL_lookup kindOf y r _ h2,List.lookup_cons]
  by_cases q:y = x
  ·subst q
   have:r.lookup y = none:=by
    induction z:r.lookup y using Option.casesOn with
    | none=>rfl
    | some u=>exact absurd (List.mem_map_of_mem (mem_of_lookup z)) h1
   rw [this]
   simp only [beq_self_eq_true]
   by_cases hk:kindOf y = some .local
   ·rw [if_pos hk,if_pos hk,if_pos rfl]
   ·rw [if_neg hk,if_neg hk]
  ·rw [beq_false_of_ne q]
   have e:(if kindOf x = some .local then λ z=>if z = x then some v else m z else m) y = m y:=by
    split
    ·exact if_neg q
    ·rfl
   dsimp only
   rw [e]
theorem bindC_lookup (kindOf:Str → Option NameKind) (y:Str):∀ (bs:List (Str × Value)) (m:Str → Option Value),(bs.map (·.1)).Nodup → bindC kindOf bs m y = (match bs.lookup y with | some v=>if kindOf y = some .local then m y else some v | none=>m y)
 | [],m,_=>rfl
 | (x,v) :: r,m,hn=>by
  obtain ⟨h1,h2⟩:=List.nodup_cons.mp hn
  unfold bindC
  rw [bindC_lookup kindOf y r _ h2,List.lookup_cons]
  by_cases q:y = x
  ·subst q
   have:r.lookup y = none:=by
    induction z:r.lookup y using Option.casesOn with
    | none=>rfl
    | some u=>exact absurd (List.mem_map_of_mem (mem_of_lookup z)) h1
   rw [this]
   simp only [beq_self_eq_true]
   by_cases hk:kindOf y = some .local
   ·rw [if_pos hk,if_pos hk]
   ·rw [if_neg hk,if_neg hk,if_pos rfl]
  ·rw [beq_false_of_ne q]
   have e:(if kindOf x = some .local then m else λ z=>if z = x then some v else m z) y = m y:=by
    split
    ·rfl
    ·exact if_neg q
   dsimp only
   rw [e]
theorem zip_lookup {T:Tags} {y:Str}:∀ {ps:List Str} {vs:List PV} {us:List Value},RelL T vs us → vs.length = ps.length → OptRel T ((ps.zip vs).lookup y) ((ps.zip us).lookup y)
 | [],_,_,_,_=>by simp [OptRel]
 | p :: ps,[],_,_,h=>by cases h
 | p :: ps,v :: vs,us,r,h=>by
  induction r.inv using Mine.ConsV.casesOn with
  | mk u t r1 r2=>
   rw [List.zip_cons_cons,List.zip_cons_cons,List.lookup_cons,List.lookup_cons]
   induction y == p using Bool.casesOn with
   | true=>exact ⟨u,rfl,r1⟩
   | false=>exact zip_lookup r2 (Nat.succ.inj h)
theorem localsOf_lookup {sc:Scope} {y:Str} {v:PV}:∀ {bs:List (Str × PV)},(localsOf sc bs).lookup y = some v → bs.lookup y = some v ∧ sc.names.lookup y = some .local
 | [],h=>by cases h
 | (x,u) :: r,h=>by
  unfold localsOf at h
  split at h
  ·rename_i hx
   rw [List.lookup_cons] at h ⊢
   by_cases q:y = x
   ·subst q
    simp only [beq_self_eq_true] at h ⊢
    exact ⟨h,hx⟩
   ·rw [beq_false_of_ne q] at h ⊢
    exact localsOf_lookup h
  ·rename_i hx
   obtain ⟨h1,h2⟩:=localsOf_lookup h
   refine ⟨?_,h2⟩
   rw [List.lookup_cons,beq_false_of_ne (λ q=>by subst q; exact hx h2)]
   exact h1
end Mine
end
section
open PySem PySem.W PySem.Calls PyProof.Rows Builtin Builtin.ObjectAttr
set_option backward.match.sparseCases false
namespace Mine
structure FnData (X:Frag) (fd:Fn) (F:FuncData):Prop where
 body:F.body = .stmts fd.body
 scope:F.scope = fd.scope
 glob:F.globals = mainGlobals
 bi:F.builtins = builtinsNs
 clo:F.closure = []
 code:codeIn X F.code F.qualname = true
 kind:F.scope.kind = .function
 co:F.scope.isCoroutine = false
 gen:F.scope.isGenerator = false
 bind:∀ us:List Value,us.length = fd.params.length → bindArgs F ⟨us,[]⟩ = pure (fd.params.zip us)
 nodup:(cellNames fd.scope.names).Nodup
 cellk:∀ x ∈ cellNames fd.scope.names,fd.scope.names.lookup x = some .cell
 tab:∀ cd P,fd.tab = some (cd,P) → F.code = .ref cd ∧ (P,cd,F.qualname ++ ".<locals>." ++ "<lambda>") ∈ tabs0
noncomputable def FnOk (X:Frag) (a:Addr) (fd:Fn):Prop:=∃ oc od osl F,X.lookup a = some ⟨oc,od,.func F,osl⟩ ∧ FnData X fd F
section
variable {prog:Program} {w:World} {h₀:Heap} {K:Tbl} {ro ro':Bool} {f:Frm} {env:Env} {es outer:List Env} {A:Around} {T T0:Tags} {c c0:Cells} {l l0 l':Locs} {s s0:Shared} {d:Nat} {cf:Callee} {n:Nat} {mg mb:Str → Option Value} {X:Frag} {e:Addr}
theorem AOk.deep (h:AOk A (d + 1) es):AOk (A.deeper env) d (env :: es):=by
 refine ⟨h.hand,?_,?_,?_⟩
 ·have:=h.dep; show A.depth + 1 + 4 * d + 20 < _; lia
 ·have:=h.un; show A.units + 3 + 40 * d + 400 < _; lia
 ·show A.frames.map _ = _; rw [h.fr]; rfl
theorem frame_new {a:Addr} {fd:Fn} {F:FuncData} {vs:List PV} {us:List Value} {s1:Shared} (D:FnData X fd F) (W:Wd w h₀ T c s.heap) (B:Based T) (Fs:Frs T s.heap es) (rl:RelL T vs us) (hl:vs.length = fd.params.length) (hn:fd.params.Nodup)
  (hp:∀ x ∈ fd.params,fd.scope.names.lookup x = some .local ∨ fd.scope.names.lookup x = some .cell)
  (x:InCallC s (callEnvC F s.heap.objs.size a).locals (bindL (callEnvC F s.heap.objs.size a).kindOf (fd.params.zip us) λ zz=>none) (callEnvC F s.heap.objs.size a).cells (bindC (callEnvC F s.heap.objs.size a).kindOf (fd.params.zip us) λ zz=>none) s1) :
  ∃ T1,(∀ L,Step ro (frsOf es) L T s.heap T1 s1.heap) ∧ Alike s s1 ∧ Pre (w:=w) h₀ T1 (c ++ boxes (fd.params.zip vs) fd.scope.names) (localsOf fd.scope (fd.params.zip vs)) s1 ⟨fd.scope,cellsFrom c.length fd.scope.names [],fd.tab⟩ (callEnvC F s.heap.objs.size a) (callEnvC F s.heap.objs.size a :: es):=by
 generalize hL:s.heap.objs.size = L at x ⊢
 have hul:us.length = fd.params.length:=(RelL.length rl).trans hl
 have hnz:((fd.params.zip us).map (·.1)).Nodup:=by
  rw [List.map_fst_zip (by lia)]; exact hn
 have hko:∀ y,(callEnvC F L a).kindOf y = fd.scope.names.lookup y:=λ y=>by show F.scope.names.lookup y = _; rw [D.scope]
 have hcs:(callEnvC F L a).cells = cellsFrom (L + 1) fd.scope.names []:=by show cellsFrom (L + 1) F.scope.names [] = _; rw [D.scope]
 have keep:=x.toInCall.keep
 have freeL:∀ b,L ≤ b → T b = .free:=λ b hb=>by
  induction z:T b using Mine.Tag.casesOn with
  | free=>rfl
  | _=>
   have:=W.lt w b (by rw [z]; exact λ q=>nomatch q)
   rw [hL] at this
   exact absurd this (Nat.not_lt.mpr hb)
 have W1:Wd w h₀ T c s1.heap:=W.free w λ b o zz e=>keep b o e
 have H:∀ k y,(cellNames fd.scope.names)[k]? = some y → T (L + 1 + k) = .free ∧ s1.heap.IsCell (L + 1 + k) ((bindC (callEnvC F L a).kindOf (fd.params.zip us) λ zz=>none) y) ∧ OptRel T ((fd.params.zip vs).lookup y) ((bindC (callEnvC F L a).kindOf (fd.params.zip us) λ zz=>none) y):=by
  intro k y hk
  have hlk:=D.cellk y (List.mem_of_getElem? hk)
  refine ⟨freeL _ (by lia),x.cell y _ (by rw [hcs]; exact cells_at _ _ _ _ _ D.nodup hk),?_⟩
  have hz:=zip_lookup (y:=y) (ps:=fd.params) rl hl
  rw [bindC_lookup _ _ _ _ hnz]
  induction q:(fd.params.zip us).lookup y using Option.casesOn with
  | none=>rw [q] at hz; exact hz
  | some u=>
   rw [q] at hz
   dsimp only
   rw [if_neg (by rw [hko,hlk]; decide)]
   exact hz
 refine Classical.byContradiction λ hcps=>?_
 obtain ⟨T1,⟨W2,le,hlow,hat⟩⟩:=retagAll (bs:=λ y=>(fd.params.zip vs).lookup y) (cm:=bindC (callEnvC F L a).kindOf (fd.params.zip us) λ zz=>none) (cellNames fd.scope.names) (L + 1) T c W1 H
 refine hcps ?_
 clear hcps
 have tag:∀ b,(s.heap.get? b).isSome = true → T1 b = T b:=λ b hb=>hlow b (by
  refine Classical.byContradiction λ hcps=>?_
  obtain ⟨o,e⟩:=Option.isSome_iff_exists.mp hb
  refine hcps ?_
  clear hcps
  have:=Heap.lt_size e
  rw [hL] at this
  exact Nat.lt_succ_of_lt this)
 have S:∀ L',Step ro (frsOf es) L' T s.heap T1 s1.heap:=λ L'=>
  ⟨λ b hb=>(let ⟨o,e⟩:=Option.isSome_iff_exists.mp hb; liveOf (keep b o e)),tag,λ b o zz zz e=>⟨o.slots,keep b o e,λ zz=>rfl⟩,λ zz b o zz e=>keep b o e⟩
 have tL:T1 L = .free:=(hlow L (Nat.lt_succ_self _)).trans (freeL L (Nat.le_refl _))
 have hns:=x.toInCall.ns
 have loc:Loc T1 s1.heap (callEnvC F L a) (localsOf fd.scope (fd.params.zip vs)):=by
  refine ⟨tL,_,hns,λ y v hy=>?_⟩
  refine Classical.byContradiction λ hcps=>?_
  obtain ⟨h1,h2⟩:=localsOf_lookup hy
  refine hcps ?_
  clear hcps
  have hz:=zip_lookup (y:=y) (ps:=fd.params) rl hl
  rw [h1] at hz
  refine Classical.byContradiction λ hcps=>?_
  obtain ⟨u,hu,hr⟩:=hz
  refine hcps ?_
  clear hcps
  refine ⟨u,?_,Rel.mono le _ _ hr⟩
  rw [bindL_lookup _ _ _ _ hnz,hu]
  dsimp only
  rw [if_pos (by rw [hko]; exact h2)]
 refine ⟨T1,S,x.toInCall.same,by rw [boxes_map]; exact W2,loc,?_,?_⟩
 ·intro y hy
  rcases List.mem_cons.mp hy with rfl | hy
  ·refine Classical.byContradiction λ hcps=>?_
   obtain ⟨o,es',ep,ho,hd,zz⟩:=hns
   refine hcps ?_
   clear hcps
   exact ⟨by show F.scope.kind ≠ _; rw [D.kind]; decide,L,o,rfl,tL,ho,λ vs q=>by rw [hd] at q; cases q⟩
  ·refine Classical.byContradiction λ hcps=>?_
   obtain ⟨hk,G,o,h1,h2,h3,h4⟩:=Fs y hy
   refine hcps ?_
   clear hcps
   exact ⟨hk,G,o,h1,(tag G (liveOf h3)).trans h2,keep _ _ h3,h4⟩
 ·refine ⟨D.scope,D.kind,D.glob,D.bi,λ y i hi=>?_,λ cd P hP=>?_,B.mono le⟩
  ·rcases cells_of _ _ _ _ _ hi with ⟨k,hk,rfl⟩ | q
   ·refine ⟨L + 1 + k,by rw [hcs]; exact cells_at _ _ _ _ _ D.nodup hk,hat k ?_⟩
    rw [List.length_map]; exact (List.getElem?_eq_some_iff.mp hk).1
   ·cases q
  ·refine Classical.byContradiction λ hcps=>?_
   obtain ⟨h1,h2⟩:=D.tab cd P hP
   refine hcps ?_
   clear hcps
   exact ⟨h1,(B.mono le) _ _ _ h2⟩
end
end Mine
end
section
open PySem PySem.W PySem.Calls PyProof.Rows Builtin Builtin.ObjectAttr
set_option backward.match.sparseCases false
namespace Mine
theorem Step.widen {ro:Bool} {Fs Fs':List Addr} {L:Addr} {T T':Tags} {h h':Heap} (x:Step ro Fs L T h T' h') (hs:∀ a,a ∈ Fs → a ∈ Fs'):Step ro Fs' L T h T' h':=
 ⟨x.live,x.tag,λ a o hL hf e=>let ⟨sl,e1,e2⟩:=x.keep a o hL hf e; ⟨sl,e1,λ hF=>e2 λ q=>hF (hs a q)⟩,x.rest⟩
section
variable {prog:Program} {w:World} {h₀:Heap} {K:Tbl} {ro ro':Bool} {f:Frm} {env:Env} {es outer:List Env} {A:Around} {T T0:Tags} {c c0:Cells} {l l0 l':Locs} {s s0:Shared} {d:Nat} {cf:Callee} {n:Nat} {mg mb:Str → Option Value} {X:Frag} {e:Addr}
structure AOkC (A:Around) (d:Nat) (es:List Env):Prop where
 hand:A.handled = none
 dep:A.depth + 4 * d + 22 < recursionLimit
 un:A.units + 40 * d + 404 < cLine
 fr:A.frames = some es
theorem AOk.room1 (h:AOk A (d + 1) es):AOkC A d es:=⟨h.hand,by have:=h.dep; lia,by have:=h.un; lia,h.fr⟩
theorem AOkC.deep (h:AOkC A d es):AOk (A.deeper env) d (env :: es):=by
 refine ⟨h.hand,?_,?_,?_⟩
 ·have:=h.dep; show A.depth + 1 + 4 * d + 20 < _; lia
 ·have:=h.un; show A.units + 3 + 40 * d + 400 < _; lia
 ·show A.frames.map _ = _; rw [h.fr]; rfl
noncomputable def CallR (w:World) (h₀:Heap) (K:Tbl) (ro:Bool) (T:Tags) (s:Shared) (es:List Env) (r:CR):Result → Shared → Prop:=λ x s'=>match x with
 | .ok (.ret v)=>CQ (w:=w) (h₀:=h₀) (ro:=ro) T s es r v s'
 | .ok _=>False
 | .error e=>CE (w:=w) (h₀:=h₀) (ro:=ro) K.fault T s es r e s'
theorem frs_top {env:Env} (h:env.frame = some env.locals):frsOf (env :: es) = env.locals :: frsOf es:=by unfold frsOf; rw [List.filterMap_cons,h]
structure Inner (ro:Bool) (env:Env) (es:List Env) (T:Tags) (s:Shared) (T1:Tags) (s1:Shared):Prop where
 fr:env.frame = some env.locals
 new:s.heap.get? env.locals = none
 step:∀ L,Step ro (frsOf es) L T s.heap T1 s1.heap
 same:Alike s s1
theorem Inner.total {T1 T':Tags} {s1 s2:Shared} (H:Inner ro env es T s T1 s1) (y:Step ro (frsOf (env :: es)) env.locals T1 s1.heap T' s2.heap) (L:Addr):Step ro (frsOf es) L T s.heap T' s2.heap:=by
 rw [frs_top H.fr] at y
 exact (((H.step env.locals).widen (λ a h=>List.mem_cons_of_mem _ h)).trans y).outer H.new
theorem Inner.out {T1 T':Tags} {s1 s2:Shared} {c':Cells} {l':Locs} {v:PV} {u:Value} (H:Inner ro env es T s T1 s1) (o:Out (w:=w) h₀ ro f env (env :: es) T1 s1 T' c' l' s2) (r:Rel T' v u):CQ (w:=w) (h₀:=h₀) (ro:=ro) T s es (.ok v c') u s2:=
 CallV.mk T' (H.total o.step) (H.same.trans o.same) o.pre.wd (λ y hy=>o.pre.frs y (List.mem_cons_of_mem _ hy)) r
theorem Inner.exc {β:Type} {M:Model} {T1:Tags} {s1 s2:Shared} {c':Cells} {v:Value} {Q:Unit → Shared → Prop} {E:Value → Shared → Prop} (H:Inner ro env es T s T1 s1) (hfr:A.frames = some (env :: es)) (q:ER (w:=w) h₀ K ro env (env :: es) T1 s1 (β:=β) (.exc c') v s2)
  (k:∀ h',CE (w:=w) (h₀:=h₀) (ro:=ro) K.fault T s es (.exc c') v { s2 with heap:=h' } → Q () { s2 with heap:=h' }):wpAny M A (leaving env v) Q E s2:=fly_of q λ T' x1 hv fl=>by
 subst hv
 refine exc_leave rfl hfr H.fr fl.exc fl.frs fl.step.live fl.wd.live λ h' mv y=>k h' ?_
 have f2:=fl.move mv y.held
 exact CallE.mk T' x1 f2.rof (H.total f2.step) (H.same.trans f2.same) f2.wd (λ z hz=>f2.frs z (List.mem_cons_of_mem _ hz)) (y.older (H.step 0).live)
theorem gdC_go {b:Bool} {r:CR} (h:gdC b r ≠ .fail):b = true ∧ gdC b r = r:=by
 induction b using Bool.casesOn with
 | false=>exact absurd rfl h
 | true=>exact ⟨rfl,rfl⟩
theorem fn_call (V:World1 prog h₀ K X mg mb) {a:Addr} {fd:Fn} (fo:FnOk X a fd) (IX:∀ n,ExOk prog w h₀ K cf d n) (hA:AOkC A d es) (W:Wd w h₀ T c s.heap) (B:Based T) (Fs:Frs T s.heap es) {vs:List PV} {us:List Value} (rl:RelL T vs us)
  (hnf:runFn K cf ro fd vs c ≠ .fail):codeAny (model prog w) A (.call (.ref a) ⟨us,[]⟩) (CallR w h₀ K ro T s es (runFn K cf ro fd vs c)) s:=by
 refine Classical.byContradiction λ hcps=>?_
 obtain ⟨oc,od,osl,F,ho,D⟩:=fo
 refine hcps ?_
 clear hcps
 have kp:=W.keeps w
 have XP:=V.inX.keeps kp
 refine Classical.byContradiction λ hcps=>?_
 obtain ⟨hc,he⟩:=gdC_go hnf
 refine hcps ?_
 clear hcps
 rw [show runFn K cf ro fd vs c = _ from he] at hnf ⊢
 have hl:=of_decide_eq_true (and_l (and_l hc))
 have hp:∀ x ∈ fd.params,fd.scope.names.lookup x = some .local ∨ fd.scope.names.lookup x = some .cell:=λ x hx=>(Bool.or_eq_true_iff.mp (List.all_eq_true.mp (and_r hc) x hx)).imp eq_of_beq eq_of_beq
 refine codeAny_call_cells (by have:=hA.dep; lia) (XP _ _ ho) rfl (V.lim.keeps kp) (codeRec_of XP D.code) D.body (D.bind us ((RelL.length rl).trans hl)) D.clo (λ x hx=>?_) (λ s1 x=>?_) D.co D.gen D.kind
 ·rw [D.scope]
  refine (hp _ (List.of_mem_zip (show (x.1,x.2) ∈ fd.params.zip us from hx)).1).imp id λ h=>⟨h,?_⟩
  refine Classical.byContradiction λ hcps=>?_
  obtain ⟨k,hk⟩:=List.getElem?_of_mem (mem_cellNames.mpr (mem_of_lookup h))
  refine hcps ?_
  clear hcps
  rw [cells_at _ _ _ _ k D.nodup hk]
  rfl
 refine Classical.byContradiction λ hcps=>?_
 obtain ⟨T1,S,al,P⟩:=frame_new (ro:=ro) D W B Fs rl hl (of_decide_eq_true (and_r (and_l hc))) hp x
 refine hcps ?_
 clear hcps
 have hAd:AOk (A.deeper (callEnvC F s.heap.objs.size a)) d (callEnvC F s.heap.objs.size a :: es):=hA.deep
 have H:Inner ro (callEnvC F s.heap.objs.size a) es T s T1 s1:=⟨rfl,none_size s.heap,S,al⟩
 have body:=(IX fuel).l ro _ _ _ _ T1 _ _ s1 fd.body hAd (.mk es _ rfl hAd.fr rfl) P
 unfold At at body
 generalize exL K cf fuel ro ⟨fd.scope,cellsFrom c.length fd.scope.names [],fd.tab⟩ fd.body (c ++ boxes (fd.params.zip vs) fd.scope.names) (localsOf fd.scope (fd.params.zip vs)) = r0 at body hnf ⊢
 induction r0 using Mine.R.casesOn with
 | fail=>exact absurd rfl hnf
 | ok fl c' l'=>
  refine wpAny_mono (body (λ q=>nomatch q)) (λ u s2 q=>?_) λ zz zz q=>q.elim
  induction show OutR (w:=w) h₀ ro _ _ _ RF T1 s1 c' l' fl u s2 from q using Mine.OutR.casesOn with
  | mk T' o rr=>
   induction fl using Mine.Flw.casesOn with
   | nxt=>subst rr; exact H.out (v:=.none) o rfl
   | ret v=>induction rr using Mine.RetV.casesOn with | mk z rz=>exact H.out o rz
 | exc c'=>exact wpAny_mono (body (λ q=>nomatch q)) (λ zz zz q=>q.elim) λ v s2 q=>H.exc hAd.fr q λ h' z=>z
end
end Mine
end
section
open PySem PySem.W PySem.Calls PyProof.Rows Builtin Builtin.ObjectAttr
set_option backward.match.sparseCases false
namespace Mine
section
variable {prog:Program} {w:World} {h₀:Heap} {K:Tbl} {ro ro':Bool} {f:Frm} {env:Env} {es outer:List Env} {A:Around} {T T0:Tags} {c c0:Cells} {l l0 l':Locs} {s s0:Shared} {d:Nat} {cf:Callee} {n:Nat} {mg mb:Str → Option Value} {X:Frag} {e:Addr}
theorem bind_nil {fd:FuncData} (h1:fd.params = ⟨[],[],none,[],[],none,[]⟩) (h2:fd.defaults = .none) (h3:fd.kwdefaults = .none):bindArgs fd ⟨[],[]⟩ = pure []:=by
 obtain ⟨a1,a2,a3,a4,a5,a6,a7,a8,a9,a10,a11,a12,a13,a14,a15⟩:=fd
 dsimp only at h1 h2 h3
 subst h1 h2 h3
 rfl
theorem lam_call (V:World1 prog h₀ K X mg mb) {a:Addr} {fd:FuncData} {b:Expr} {sc:Scope} {k:List (Str × Nat)} (ta:T a = .froz { cls:=.type "function",data:=.func fd }) (L:LamOk T b sc k fd) (hsc:plainScope sc = true) (I:∀ n,EvOk prog w h₀ K cf d n) (hA:AOkC A d es) (W:Wd w h₀ T c s.heap) (B:Based T) (Fs:Frs T s.heap es)
  (hnf:finE (evE K cf fuel ro ⟨sc,k,.none⟩ b c []) ≠ .fail):codeAny (model prog w) A (.call (.ref a) ⟨[],[]⟩) (CallR w h₀ K ro T s es (finE (evE K cf fuel ro ⟨sc,k,.none⟩ b c []))) s:=by
 have hs:=L.scope
 subst hs
 have kp:=W.keeps w
 have hS:=plain_of hsc
 have hcd:s.heap.CodeRec fd.code fd.qualname:=by
  have h:=L.code
  generalize fd.code = x at h ⊢
  induction h using Mine.CodeFz.casesOn with | mk cc oc vs t e2 e3 e4=>exact ⟨cc,oc,vs,t,rfl,W.froz _ _ e2,e3,e4⟩
 refine kla_callFunE (by have:=hA.dep; lia) (W.froz _ _ ta) rfl hS.co hS.gen L.body hcd ?_
 rw [bind_nil L.params L.dflt L.kwd]
 refine wpAny_pure (wpAny_newFunctionEnv hS.cell (λ x hx=>nomatch hx) (λ hp hns hsb=>?_) hS.kind)
 have keep:∀ x o,s.heap.get? x = some o → hp.get? x = some o:=λ x o e=>hsb.extBut x o (Nat.ne_of_lt (Heap.lt_size e)) (Heap.get?_push_of_some _ e)
 refine ⟨V.lim.keeps (λ x o e=>keep x o (kp x o e)),kla_codeExpr ?_⟩
 generalize hen:newEnv fd.scope s.heap.objs.size fd.globals fd.closure (fd.qualname ++ ".<locals>.") (some a) fd.code none fd.builtins = env
 have hloc:env.locals = s.heap.objs.size:=by rw [← hen]; rfl
 have hfrL:env.frame = some env.locals:=by rw [← hen]; rfl
 have hAd:AOk (A.deeper env) d (env :: es):=hA.deep
 have H:Inner ro env es T s T { s with heap:=hp,toks:=s.toks + ([]:List (Str × Value)).length }:=⟨hfrL,hloc ▸ none_size s.heap,λ L=>Step.grow keep,⟨_,_,rfl⟩⟩
 have tL:T env.locals = .free:=hloc ▸ W.fresh w
 rw [← hloc] at hns
 have P:Pre (w:=w) h₀ T c [] { s with heap:=hp,toks:=s.toks + ([]:List (Str × Value)).length } ⟨fd.scope,k,.none⟩ env (env :: es):=by
  refine ⟨W.free w λ x o zz e=>keep x o e,⟨tL,_,hns,λ zz zz q=>nomatch q⟩,λ y hy=>(List.mem_cons.mp hy).elim (λ q=>?_) λ hy=>?_,?_⟩
  ·subst q
   refine Classical.byContradiction λ hcps=>?_
   obtain ⟨o,es',ep,ho,hd,zz⟩:=hns
   refine hcps ?_
   clear hcps
   exact ⟨by rw [← hen]; show fd.scope.kind ≠ _; rw [hS.kind]; decide,_,o,hfrL,tL,ho,λ vs q=>nomatch hd.symm.trans q⟩
  ·refine Classical.byContradiction λ hcps=>?_
   obtain ⟨hk,G,o,g1,g2,g3,g4⟩:=Fs y hy
   refine hcps ?_
   clear hcps
   exact ⟨hk,G,o,g1,g2,keep _ _ g3,g4⟩
  ·subst hen
   exact ⟨rfl,hS.kind,L.glob,L.bi,L.cells,(λ zz zz q=>nomatch q),B⟩
 have body:=(I fuel).e ro ⟨fd.scope,k,.none⟩ env (env :: es) (A.deeper env) T c [] _ b hAd P
 unfold At at body
 generalize evE K cf fuel ro ⟨fd.scope,k,.none⟩ b c [] = r0 at body hnf ⊢
 induction r0 using Mine.R.casesOn with
 | fail=>exact absurd rfl hnf
 | ok v c' l'=>
  refine wpAny_mono (body (λ q=>nomatch q)) (λ u s2 q=>?_) λ zz zz q=>q.elim
  induction show OutR (w:=w) h₀ ro _ _ _ RV T _ c' l' v u s2 from q using Mine.OutR.casesOn with
  | mk T' o rr=>exact H.out o rr
 | exc c'=>exact wpAny_mono (body (λ q=>nomatch q)) (λ zz zz q=>q.elim) λ v s2 q=>H.exc hAd.fr q λ h' z=>z
end
end Mine
end
section
open PySem PySem.W PySem.Calls PyProof.Rows Builtin Builtin.ObjectAttr
set_option backward.match.sparseCases false
namespace Mine
noncomputable def instTags (T:Tags) (n i:Nat):Tags:=(T.put n (.sub i)).put (n + 1) (.cell i)
section
variable {w:World} {h₀ h:Heap} {T:Tags} {c:Cells} {C:Addr}
theorem Wd.inst (W:Wd w h₀ T c h):T.le (instTags T h.objs.size c.length) ∧ Wd w h₀ (instTags T h.objs.size c.length) (c ++ [.inst C []]) ((h.push emptyDict).push (instObj C h.objs.size)):=by
 generalize hD:h.objs.size = D
 have freeD:∀ b,D ≤ b → T b = .free:=λ b hb=>by
  induction z:T b using Mine.Tag.casesOn with
  | free=>rfl
  | _=>
   have:=W.lt w b (by rw [z]; exact λ q=>nomatch q)
   rw [hD] at this
   exact absurd this (Nat.not_lt.mpr hb)
 have tI:instTags T D c.length (D + 1) = .cell c.length:=Tags.put_self ..
 have tD:instTags T D c.length D = .sub c.length:=by unfold instTags; rw [Tags.put_ne _ _ (Nat.ne_of_lt (Nat.lt_succ_self D)),Tags.put_self]
 have tO:∀ b,b ≠ D → b ≠ D + 1 → instTags T D c.length b = T b:=λ b h1 h2=>by unfold instTags; rw [Tags.put_ne _ _ h2,Tags.put_ne _ _ h1]
 have le:T.le (instTags T D c.length):=λ b hb=>tO b (λ q=>hb (by subst q; exact freeD _ (Nat.le_refl _))) (λ q=>hb (by subst q; exact freeD _ (Nat.le_succ _)))
 have keep:∀ b o,h.get? b = some o → ((h.push emptyDict).push (instObj C D)).get? b = some o:=λ b o e=>Heap.get?_push_of_some _ (Heap.get?_push_of_some _ e)
 have gI:((h.push emptyDict).push (instObj C D)).get? (D + 1) = some (instObj C D):=Heap.get?_push_at (by rw [Heap.size_push,hD]) rfl
 have gD:((h.push emptyDict).push (instObj C D)).get? D = some emptyDict:=Heap.get?_push_of_some _ (Heap.get?_push_at hD.symm rfl)
 refine ⟨le,λ a o e=>le.froz (W.old a o e),λ a ha=>?_,λ a o e=>?_,λ i x e=>?_,λ a b i ha hb=>?_,λ a i ha=>?_,λ P cd q e=>?_⟩
 ·by_cases q1:a = D
  ·subst q1; rw [gD]; rfl
  ·by_cases q2:a = D + 1
   ·subst q2; rw [gI]; rfl
   ·rw [tO a q1 q2] at ha
    refine Classical.byContradiction λ hcps=>?_
    obtain ⟨o,e⟩:=Option.isSome_iff_exists.mp (W.live a ha)
    refine hcps ?_
    clear hcps
    rw [keep a o e]; rfl
 ·by_cases q1:a = D
  ·subst q1; rw [tD] at e; cases e
  ·by_cases q2:a = D + 1
   ·subst q2; rw [tI] at e; cases e
   ·rw [tO a q1 q2] at e
    exact keep a o (W.froz a o e)
 ·by_cases hi:i < c.length
  ·rw [List.getElem?_append_left hi] at e
   exact (W.cells i x e).keep w le λ a o zz e'=>keep a o e'
  ·by_cases he:i = c.length
   ·subst he
    rw [List.getElem?_append_right (Nat.le_refl _)] at e
    simp only [Nat.sub_self,List.getElem?_cons_zero,Option.some.injEq] at e
    subst e
    exact ⟨D + 1,D,0,[],tI,tD,gI,gD,rfl,List.nodup_nil⟩
   ·rw [List.getElem?_eq_none (by rw [List.length_append,List.length_singleton]; lia)] at e; cases e
 ·have one:∀ z,instTags T D c.length z = .cell i → z = D + 1 ∨ (T z = .cell i ∧ i < c.length):=λ z hz=>by
   by_cases q1:z = D
   ·subst q1; rw [tD] at hz; cases hz
   ·by_cases q2:z = D + 1
    ·exact .inl q2
    ·rw [tO z q1 q2] at hz
     exact .inr ⟨hz,W.ids z i (.inl hz)⟩
  rcases one a ha with rfl | ⟨a1,a2⟩ <;> rcases one b hb with rfl | ⟨b1,b2⟩
  ·rfl
  ·rw [tI] at ha; injection ha with ha; exact absurd b2 (by lia)
  ·rw [tI] at hb; injection hb with hb; exact absurd a2 (by lia)
  ·exact W.uniq a b i a1 b1
 ·rw [List.length_append,List.length_singleton]
  by_cases q1:a = D
  ·subst q1
   rw [tD] at ha
   rcases ha with ha | ha
   ·cases ha
   ·injection ha with ha; lia
  ·by_cases q2:a = D + 1
   ·subst q2
    rw [tI] at ha
    rcases ha with ha | ha
    ·injection ha with ha; lia
    ·cases ha
   ·rw [tO a q1 q2] at ha
    exact Nat.lt_succ_of_lt (W.ids a i ha)
 ·have n1:P ≠ D:=λ q=>by subst q; rw [tD] at e; cases e
  have n2:P ≠ D + 1:=λ q=>by subst q; rw [tI] at e; cases e
  rw [tO P n1 n2] at e
  refine Classical.byContradiction λ hcps=>?_
  obtain ⟨h1,ps,h2,h3,h4⟩:=W.tabs P cd q e
  refine hcps ?_
  clear hcps
  exact ⟨h1,ps,keep _ _ h2,h3,λ pos v hv=>(h4 pos v hv).mono le⟩
end
section
variable {prog:Program} {w:World} {h₀:Heap} {K:Tbl} {ro ro':Bool} {f:Frm} {env:Env} {es outer:List Env} {A:Around} {T T0:Tags} {c c0:Cells} {l l0 l':Locs} {s s0:Shared} {d:Nat} {cf:Callee} {n:Nat} {mg mb:Str → Option Value} {X:Frag} {e:Addr}
theorem cls_call (V:World1 prog h₀ K X mg mb) {a:Addr} {k:Cls} {fd:Fn} (hk:K.cls a = some k) (fo:FnOk X k.init fd) (IX:∀ n,ExOk prog w h₀ K cf d n) (hA:AOk A (d + 1) es) (W:Wd w h₀ T c s.heap) (B:Based T) (Fs:Frs T s.heap es) {vs:List PV} {us:List Value} (rl:RelL T vs us)
  (hnf:gdC (!ro) (newR c.length (runFn K cf ro fd (.ref c.length :: vs) (c ++ [.inst a []]))) ≠ .fail):codeAny (model prog w) A (.call (.ref a) ⟨us,[]⟩) (CallR w h₀ K ro T s es (gdC (!ro) (newR c.length (runFn K cf ro fd (.ref c.length :: vs) (c ++ [.inst a []]))))) s:=by
 have kp:=W.keeps w
 have XP:=V.inX.keeps kp
 have ok:=V.cls a k hk
 refine Classical.byContradiction λ hcps=>?_
 obtain ⟨hro,e⟩:=gdC_go hnf
 refine hcps ?_
 clear hcps
 cases not_t hro
 rw [e] at hnf ⊢
 refine Classical.byContradiction λ hcps=>?_
 obtain ⟨le,W1⟩:=W.inst (C:=a)
 obtain ⟨hp,g,dr,tk,os⟩:=s
 refine hcps ?_
 clear hcps
 refine make_core (makes_of XP ok.make) (looks_findIn XP ok.init.1) (λ self=>bind_fn XP self ok.init.2) (.inl rfl) ?_
 have keep:∀ b o,hp.get? b = some o → ((hp.push emptyDict).push (instObj a hp.objs.size)).get? b = some o:=λ b o e=>Heap.get?_push_of_some _ (Heap.get?_push_of_some _ e)
 have tag:∀ b,(hp.get? b).isSome = true → instTags T hp.objs.size c.length b = T b:=λ b hb=>by
  refine Classical.byContradiction λ hcps=>?_
  obtain ⟨o,e⟩:=Option.isSome_iff_exists.mp hb
  refine hcps ?_
  clear hcps
  have:=Heap.lt_size e
  unfold instTags
  rw [Tags.put_ne _ _ (Nat.ne_of_lt (Nat.lt_succ_of_lt this)),Tags.put_ne _ _ (Nat.ne_of_lt this)]
 have S:∀ L,Step false (frsOf es) L T hp (instTags T hp.objs.size c.length) ((hp.push emptyDict).push (instObj a hp.objs.size)):=λ L=>
  ⟨λ b hb=>(let ⟨o,e⟩:=Option.isSome_iff_exists.mp hb; liveOf (keep b o e)),tag,λ b o zz zz e=>⟨o.slots,keep b o e,λ zz=>rfl⟩,λ zz b o zz e=>keep b o e⟩
 have Fs1:Frs (instTags T hp.objs.size c.length) ((hp.push emptyDict).push (instObj a hp.objs.size)) es:=λ y hy=>by
  refine Classical.byContradiction λ hcps=>?_
  obtain ⟨hk,G,o,g1,g2,g3,g4⟩:=Fs y hy
  refine hcps ?_
  clear hcps
  exact ⟨hk,G,o,g1,(tag G (liveOf g3)).trans g2,keep _ _ g3,g4⟩
 have hself:Rel (instTags T hp.objs.size c.length) (.ref c.length) (.ref (hp.objs.size + 1)):=by
  exact RefC.mk _ (Tags.put_self ..)
 have hA':AOkC (A.under (.builtin "type.__call__" ⟨.ref a :: us,[]⟩)) d es:=by
  refine ⟨hA.hand,?_,?_,?_⟩
  ·rw [depth_under_make]; have:=hA.dep; lia
  ·have:=hA.un; show A.units + 1 + 40 * d + 404 < _; lia
  ·exact hA.fr
 have hnf1:runFn K cf false fd (.ref c.length :: vs) (c ++ [.inst a []]) ≠ .fail:=λ q=>hnf (by rw [q]; rfl)
 have main:=fn_call (ro:=false) (cf:=cf) (K:=K) (s:=⟨(hp.push emptyDict).push (instObj a hp.objs.size),g,dr,tk,os⟩) V fo IX hA' W1 (B.mono le) Fs1 (RelL.cons hself (RelL.mono le _ _ rl)) hnf1
 refine codeAny_mono main λ r s' q=>?_
 generalize runFn K cf false fd (.ref c.length :: vs) (c ++ [.inst a []]) = r1 at q hnf ⊢
 induction r1 using Mine.CR.casesOn with
 | fail=>exact absurd rfl hnf
 | exc c'=>exact absurd rfl hnf
 | ok v c'=>
  induction r using Except.casesOn with
  | error e=>exact q.elim
  | ok fl=>
   induction fl using PySem.Flow.casesOn with
   | ret u=>
    induction show CallV (w:=w) (h₀:=h₀) (ro:=false) (instTags T hp.objs.size c.length) _ es v c' u s' from q using Mine.CallV.casesOn with
    | mk T' S' al W' Fs' rv=>
     induction v using Mine.PV.casesOn with
     | none=>exact ⟨rv,CallV.mk T' (λ L=>(S L).trans (S' L)) ((show Alike _ _ from ⟨_,_,rfl⟩).trans al) W' Fs' (Rel.mono ((S' 0).le w W1) _ _ hself)⟩
     | _=>exact absurd rfl hnf
   | _=>exact False.elim q
end
end Mine
end
section
open PySem PySem.W PySem.Calls PyProof.Rows Builtin Builtin.ObjectAttr
set_option backward.match.sparseCases false
namespace Mine
section
variable {prog:Program} {w:World} {h₀:Heap} {K:Tbl} {ro ro':Bool} {f:Frm} {env:Env} {es outer:List Env} {A:Around} {T T0:Tags} {c c0:Cells} {l l0 l':Locs} {s s0:Shared} {d:Nat} {cf:Callee} {n:Nat} {mg mb:Str → Option Value} {X:Frag} {e:Addr}
theorem call_of {r:CR} {u:Value} {us:List Value} (h:codeAny (model prog w) A (.call u ⟨us,[]⟩) (CallR w h₀ K ro T s es r) s) :
  wpAny (model prog w) A (PySem.call u us) (CQ (w:=w) (h₀:=h₀) (ro:=ro) T s es r) (CE (w:=w) (h₀:=h₀) (ro:=ro) K.fault T s es r) s:=by
 refine wpAny_call (codeAny_mono h λ x s' q=>?_)
 induction x using Except.casesOn with
 | error e=>exact q
 | ok fl=>cases fl <;> exact q
theorem keep_fn {h:Heap} {a:Addr} {fd:Fn} (fo:FnOk X a fd) (XP:X.In h):KeepOk (model prog w) h (.ref a):=by
 refine Classical.byContradiction λ hcps=>?_
 obtain ⟨oc,od,osl,F,ho,D⟩:=fo
 refine hcps ?_
 clear hcps
 exact ⟨.frame,.inl rfl,λ A Q E s k q=>wpAny_bind (wpAny_load (k _ _ (XP _ _ ho)) (wpAny_pure q))⟩
theorem keep_cls {h:Heap} {a:Addr} {k:Cls} (ok:ClsOk X a k) (XP:X.In h):KeepOk (model prog w) h (.ref a):=by
 have Y:=makes_of (M:=model prog w) XP ok.make
 refine Classical.byContradiction λ hcps=>?_
 obtain ⟨oc,od,cd,sl,hC,zz⟩:=Y.obj
 refine hcps ?_
 clear hcps
 refine ⟨.machine,.inr (.inl rfl),λ A Q E s k q=>wpAny_bind (wpAny_load (k _ _ hC) ?_)⟩
 exact wpAny_bind ((Y.call.keeps k).here (wpAny_pure q))
theorem optC_go {α:Type} {o:Option α} {g:α → CR} (h:optC o g ≠ .fail):∃ v,o = some v ∧ optC o g = g v:=by
 induction o using Option.casesOn with
 | none=>exact absurd rfl h
 | some v=>exact ⟨v,rfl,rfl⟩
inductive FnGo (K:Tbl) (cf:Callee) (ro:Bool) (a:Addr) (vs:List PV) (c:Cells):Prop
 | fn (fd:Fn) (h:K.fn a = some fd) (e:callFn K cf ro a vs c = runFn K cf ro fd vs c):FnGo K cf ro a vs c
 | cls (k:Cls) (fd:Fn) (h:K.cls a = some k) (h2:K.fn k.init = some fd) (e:callFn K cf ro a vs c = gdC (!ro) (newR c.length (runFn K cf ro fd (.ref c.length :: vs) (c ++ [.inst a []])))):FnGo K cf ro a vs c
theorem fn_go {a:Addr} {vs:List PV} (h:callFn K cf ro a vs c ≠ .fail):FnGo K cf ro a vs c:=by
 induction e1:K.fn a using Option.casesOn with
 | some fd=>exact .fn fd e1 (by unfold callFn; rw [e1])
 | none=>
  have e:callFn K cf ro a vs c = optC (K.cls a) λ k=>optC (K.fn k.init) λ fd=>gdC (!ro) (newR c.length (runFn K cf ro fd (.ref c.length :: vs) (c ++ [.inst a []]))):=by unfold callFn; rw [e1]
  rw [e] at h
  obtain ⟨k,hk,e2⟩:=optC_go h
  rw [e2] at h
  obtain ⟨fd,hf,e3⟩:=optC_go h
  exact .cls k fd hk hf (e.trans (e2.trans e3))
theorem call_ok (V:World1 prog h₀ K X mg mb) (TF:∀ a fd,K.fn a = some fd → FnOk X a fd):∀ d,CallOk prog w h₀ K (callF K d) d
 | 0=>⟨λ ro fv vs u us A T c s es zz zz zz zz zz zz zz h=>absurd rfl h,λ ro fv vs u T c h zz zz zz q=>absurd rfl q⟩
 | d + 1=>by
  have C:=call_ok V TF d
  have I:=ev_ok V.toWorld0 C
  have IX:=ex_ok V I
  refine ⟨λ ro fv vs u us A T c s es hi hA W B Fs rf rl hnf=>?_,λ ro fv vs u T c h hi W rf hnf=>?_⟩
  ·induction fv using Mine.PV.casesOn with
   | val v=>
    induction v using PySem.Value.casesOn with
    | ref a=>
     subst rf
     induction fn_go (show callFn K (callF K d) ro a vs c ≠ .fail from hnf) using Mine.FnGo.casesOn with
     | fn fd h e=>
      rw [show callF K (d + 1) ro (.val (.ref a)) vs c = _ from e] at hnf ⊢
      exact call_of (fn_call V (TF a fd h) IX hA.room1 W B Fs rl hnf)
     | cls k fd h h2 e=>
      rw [show callF K (d + 1) ro (.val (.ref a)) vs c = _ from e] at hnf ⊢
      exact call_of (cls_call V h (TF _ _ h2) IX hA W B Fs rl hnf)
    | _=>cases hi
   | clo b sc k=>
    induction rf using Mine.LamFz.casesOn with
    | mk a fd ta L=>
     obtain ⟨hc,e⟩:=gdC_go (show callLam K (callF K d) ro b sc k vs c ≠ .fail from hnf)
     rw [show callF K (d + 1) ro (.clo b sc k) vs c = _ from e] at hnf ⊢
     cases isEmpty_inv (and_l hc)
     subst rl
     exact call_of (lam_call V ta L (and_r hc) I hA.room1 W B Fs hnf)
   | _=>cases hi
  ·have XP:=V.inX.keeps (W.keeps w)
   induction fv using Mine.PV.casesOn with
   | val v=>
    induction v using PySem.Value.casesOn with
    | ref a=>
     subst rf
     induction fn_go (show callFn K (callF K d) ro a vs c ≠ .fail from hnf) using Mine.FnGo.casesOn with
     | fn fd h e=>exact keep_fn (TF a fd h) XP
     | cls k fd h h2 e=>exact keep_cls (V.cls a k h) XP
    | _=>cases hi
   | clo b sc k=>
    induction rf using Mine.LamFz.casesOn with
    | mk a fd ta L=>exact ⟨.frame,.inl rfl,λ A Q E s k q=>wpAny_bind (wpAny_load (k _ _ (W.froz _ _ ta)) (wpAny_pure q))⟩
   | _=>cases hi
end
end Mine
end
section
open PySem PySem.W PySem.Calls PyProof.Rows
namespace Mine
noncomputable def funcO (o:Option Obj):FuncData:=match o with
 | some ⟨_,_,.func F,_⟩=>F
 | _=>default
noncomputable def isFuncO (o:Option Obj):Bool:=match o with
 | some ⟨_,_,.func _,_⟩=>true
 | _=>false
theorem funcO_ok {o:Option Obj} (h:isFuncO o = true):∃ oc od osl,o = some ⟨oc,od,.func (funcO o),osl⟩:=by
 unfold isFuncO at h
 split at h
 ·exact ⟨_,_,_,rfl⟩
 ·cases h
noncomputable abbrev funcOf (X:Frag) (a:Addr):FuncData:=funcO (X.lookup a)
noncomputable def fnOf (a:Addr):Fn:=(fnT a).getD ⟨[],[],default,none⟩
noncomputable def tabB (F:FuncData):Option (Addr × Addr) → Bool
 | none=>true
 | some (cd,P)=>F.code == .ref cd && decide ((P,cd,F.qualname ++ ".<locals>." ++ "<lambda>") ∈ tabs0)
noncomputable def fnB (X:Frag) (f:Fn) (F:FuncData):Bool:=
 (F.scope == f.scope && (F.globals == mainGlobals && F.builtins == builtinsNs)) && ((F.closure.isEmpty && codeIn X F.code F.qualname) && (F.scope.kind == .function && (!F.scope.isCoroutine && !F.scope.isGenerator))) &&
 ((decide (cellNames f.scope.names).Nodup && (cellNames f.scope.names).all λ x=>f.scope.names.lookup x == some .cell) && (tabB F f.tab && Nat.ble f.params.length 6))
noncomputable def fnAddrs:List Addr:=fns.map (·.1) ++ bankMs.map (·.2) ++ symMs.map (·.2) ++ seMs.map (·.2) ++ feMs.map (·.2)
structure XOk (X:Frag):Prop where
 fnO:(fnAddrs.all λ a=>isFuncO (X.lookup a) && fnB X (fnOf a) (funcOf X a)) = true
 body:(fnAddrs.map λ a=>(funcOf X a).body) = fnAddrs.map λ a=>FuncBody.stmts (fnOf a).body
 bind:∀ u1 u2 u3 u4 u5 u6:Value,(fnAddrs.map λ a=>bindArgs (funcOf X a) ⟨[u1,u2,u3,u4,u5,u6].take (fnOf a).params.length,[]⟩) = fnAddrs.map λ a=>pure ((fnOf a).params.zip ([u1,u2,u3,u4,u5,u6].take (fnOf a).params.length))
theorem map_at2 {α β:Type} {f g:α → β} {a:α}:∀ {l:List α},l.map f = l.map g → a ∈ l → f a = g a:=λ {l} h m=>by
 induction l with
 | nil=>cases m
 | cons x r ih=>
  rw [List.map_cons,List.map_cons] at h
  have h2:=List.cons.inj h
  rcases List.mem_cons.mp m with e | m
  ·rw [e]; exact h2.1
  ·exact ih h2.2 m
theorem take6:∀ us:List Value,us.length ≤ 6 → ∃ u1 u2 u3 u4 u5 u6,us = [u1,u2,u3,u4,u5,u6].take us.length:=λ us h=>by
 have e:(us ++ List.replicate 6 Value.none).take us.length = us:=List.take_left
 have key:∀ (n:Nat) (z:List Value),n ≤ 6 → 6 ≤ z.length → ∃ u1 u2 u3 u4 u5 u6,z.take n = [u1,u2,u3,u4,u5,u6].take n:=λ n z hn hz=>by
  rcases z with _ | ⟨a,_ | ⟨b,_ | ⟨c,_ | ⟨d,_ | ⟨e,_ | ⟨f,r⟩⟩⟩⟩⟩⟩
  iterate 6 exact absurd hz (by simp)
  refine ⟨a,b,c,d,e,f,?_⟩
  rw [show a :: b :: c :: d :: e :: f :: r = [a,b,c,d,e,f] ++ r from rfl,List.take_append_of_le_length hn]
 have:=key us.length (us ++ List.replicate 6 Value.none) h (by rw [List.length_append,List.length_replicate]; exact Nat.le_add_left ..)
 rw [e] at this
 exact this
theorem lookup_mem {n:Str} {a:Addr} {l:List (Addr × Str)} (h:l.lookup a = some n):a ∈ l.map (·.1):=by
 induction l with
 | nil=>cases h
 | cons x r ih=>
  rw [List.lookup_cons] at h
  by_cases q:a = x.1
  ·rw [q]; exact List.mem_cons_self
  ·rw [beq_false_of_ne q] at h
   exact List.mem_cons_of_mem _ (ih h)
theorem nameAt_mem {n:Str} {a:Addr} {l:List (Str × Addr)} (h:nameAt a l = some n):a ∈ l.map (·.2):=by
 induction l with
 | nil=>cases h
 | cons x r ih=>
  unfold nameAt at h
  by_cases q:x.2 = a
  ·rw [← q]; exact List.mem_cons_self
  ·rw [if_neg q] at h
   exact List.mem_cons_of_mem _ (ih h)
theorem fnT_mem {a:Addr} {fd:Fn} (h:fnT a = some fd):a ∈ fnAddrs:=by
 unfold fnT at h
 induction e:fns.lookup a using Option.casesOn with
 | some n=>exact List.mem_append_left _ (List.mem_append_left _ (List.mem_append_left _ (List.mem_append_left _ (lookup_mem e))))
 | none=>
 rw [e] at h; dsimp only at h; clear e
 induction e:nameAt a bankMs using Option.casesOn with
 | some n=>exact List.mem_append_left _ (List.mem_append_left _ (List.mem_append_left _ (List.mem_append_right _ (nameAt_mem e))))
 | none=>
 rw [e] at h; dsimp only at h; clear e
 induction e:nameAt a symMs using Option.casesOn with
 | some n=>exact List.mem_append_left _ (List.mem_append_left _ (List.mem_append_right _ (nameAt_mem e)))
 | none=>
 rw [e] at h; dsimp only at h; clear e
 induction e:nameAt a seMs using Option.casesOn with
 | some n=>exact List.mem_append_left _ (List.mem_append_right _ (nameAt_mem e))
 | none=>
 rw [e] at h; dsimp only at h; clear e
 induction e:nameAt a feMs using Option.casesOn with
 | some n=>exact List.mem_append_right _ (nameAt_mem e)
 | none=>rw [e] at h; cases h
theorem fn_all {X:Frag} (O:XOk X) (a:Addr) (fd:Fn) (h:tbl.fn a = some fd):FnOk X a fd:=by
 have h':fnT a = some fd:=h
 have m:=fnT_mem h'
 have e:fnOf a = fd:=by unfold fnOf; rw [h']; rfl
 have q:=List.all_eq_true.mp O.fnO a m
 have qb:=map_at2 O.body m
 have qn:=λ u1 u2 u3 u4 u5 u6=>map_at2 (O.bind u1 u2 u3 u4 u5 u6) m
 simp only [e] at q qb qn
 unfold fnB at q
 simp only [Bool.and_eq_true,beq_iff_eq,decide_eq_true_eq,Bool.not_eq_true',List.isEmpty_iff,List.all_eq_true] at q
 obtain ⟨q1,⟨⟨q2,q3,q4⟩,⟨q5,q6⟩,q7,q8,q9⟩,⟨q10,q11⟩,q12,q13⟩:=q
 obtain ⟨oc,od,osl,x⟩:=funcO_ok q1
 refine ⟨oc,od,osl,_,x,qb,q2,q3,q4,q5,q6,q7,q8,q9,λ us hu=>?_,q10,q11,λ cd P ht=>?_⟩
 ·obtain ⟨u1,u2,u3,u4,u5,u6,hus⟩:=take6 us (hu ▸ Nat.le_of_ble_eq_true q13)
  rw [hu] at hus
  rw [hus]
  exact qn u1 u2 u3 u4 u5 u6
 ·rw [ht] at q12
  unfold tabB at q12
  simp only [Bool.and_eq_true,beq_iff_eq,decide_eq_true_eq] at q12
  exact q12
end Mine
end
section
open PySem PySem.W PySem.Calls PyProof.Rows
namespace Mine
noncomputable def clsOkB (X:Frag) (C:Addr) (k:Cls):Bool:=
 ((plainGet X C "" && (hasDictIn X C && ((findIn X (.ref C) "__setattr__" == some (some (.builtin "object.__setattr__"))) && plainOver X C))) &&
 ((k.attrs.all λ n=>takerIn X C n == some none && (findIn X (.ref C) n).any (noGet X)) &&
 (k.meths.all λ p=>findIn X (.ref C) p.1 == some (some (.ref p.2)) && isFn X (.ref p.2)))) &&
 (makesIn X C && (findIn X (.ref C) "__init__" == some (some (.ref k.init)) && typeIn X (.ref k.init) == some (.type "function")))
theorem clsOk_of {X:Frag} {C:Addr} {k:Cls} (h:clsOkB X C k = true):ClsOk X C k:=by
 unfold clsOkB at h
 simp only [Bool.and_eq_true,beq_iff_eq,List.all_eq_true] at h
 obtain ⟨⟨⟨h1,h2,h3,h4⟩,h5,h6⟩,h7,h8,h9⟩:=h
 refine ⟨h1,h2,h3,h4,λ n hn=>?_,λ n f hf=>h6 (n,f) (mem_of_lookup hf),h7,h8,h9⟩
 obtain ⟨a1,a2⟩:=h5 n (List.contains_iff_mem.mp hn)
 obtain ⟨a,e,q⟩:=Option.any_eq_true _ _ |>.mp a2
 exact ⟨a1,a,e,q⟩
noncomputable def strsB:List PV → List Value → Bool
 | [],[]=>true
 | .str a :: r,.str b _ :: t=>a == b && strsB r t
 | _,_=>false
noncomputable def seqB (X:Frag) (t:String) (l:List PV) (a:Addr):Bool:=match X.lookup a with
 | some ⟨.type n,none,.seq vs _,sl⟩=>n == t && (sl.isEmpty && strsB l vs.toList)
 | _=>false
noncomputable def globB (X:Frag) (x:Str):PV → Bool
 | .val (.ref a)=>nsIn X mainGlobals x == some (some (.ref a))
 | .val v=>nsIn X mainGlobals x == some none && (bootBuiltins x == some v && x != "__name__")
 | .int i=>match nsIn X mainGlobals x with
  | some (some (.int j _))=>i == j
  | _=>false
 | .tup l=>match nsIn X mainGlobals x with
  | some (some (.ref a))=>seqB X "tuple" l a
  | _=>false
 | .klist l=>match nsIn X mainGlobals x with
  | some (some (.ref a))=>seqB X "list" l a
  | _=>false
 | _=>false
noncomputable def clsA:List Addr:=[297,320,348,479]
structure YOk (X:Frag):Prop extends XOk X where
 cls:(clsA.all λ a=>(clsT a).all λ k=>clsOkB X a k) = true
 glob:(globs.all λ p=>globB X p.1 p.2) = true
 exm:exmOne X (.ref 67) (.ref 67) = some true
 nsup:nsIn X mainGlobals "super" = some none
 init:∀ mg mb:Str → Option Value,mg "super" = none → mb "super" = some (.type "super") → InitOk PySem.Challenge.pw_nz0144_01 X mg mb 67 37 25 36 47 (funcOf X 37)
theorem clsT_mem {a:Addr} {k:Cls} (h:clsT a = some k):a ∈ clsA:=by
 unfold clsT at h
 unfold clsA
 by_cases h1:a = 297
 ·rw [h1]; exact .head _
 rw [if_neg h1] at h
 by_cases h2:a = 320
 ·rw [h2]; exact .tail _ (.head _)
 rw [if_neg h2] at h
 by_cases h3:a = 348
 ·rw [h3]; exact .tail _ (.tail _ (.head _))
 rw [if_neg h3] at h
 by_cases h4:a = 479
 ·rw [h4]; exact .tail _ (.tail _ (.tail _ (.head _)))
 rw [if_neg h4] at h
 cases h
theorem cls_all {X:Frag} (O:YOk X) (a:Addr) (k:Cls) (h:tbl.cls a = some k):ClsOk X a k:=by
 have h':clsT a = some k:=h
 have q:=List.all_eq_true.mp O.cls a (clsT_mem h')
 rw [h'] at q
 exact clsOk_of q
theorem strs_rel {T:Tags} {ps:List PV} {vs:List Value} (h:strsB ps vs = true):RelL T ps vs:=by
 induction ps generalizing vs with
 | nil=>cases vs with
  | nil=>exact RelL.nil
  | cons v u=>cases h
 | cons p r ih=>
  cases vs with
  | nil=>cases p <;> cases h
  | cons v u=>
   cases p with
   | str a=>cases v with
    | str b t=>
     have h':(a == b && strsB r u) = true:=h
     rw [Bool.and_eq_true,beq_iff_eq] at h'
     exact RelL.cons (show Rel T (.str a) (.str b t) from h'.1 ▸ StrV.mk t) (ih h'.2)
    | _=>cases h
   | _=>cases h
theorem seqB_ok {X:Frag} {t:String} {l:List PV} {a:Addr} (h:seqB X t l a = true):∃ vs n,X.lookup a = some ⟨.type t,none,.seq vs n,#[]⟩ ∧ strsB l vs.toList = true:=by
 unfold seqB at h
 split at h
 ·rename_i n vs m sl e
  simp only [Bool.and_eq_true,beq_iff_eq] at h
  have hs:sl = #[]:=by simpa using h.2.1
  exact ⟨vs,m,by rw [e,h.1,hs],h.2.2⟩
 ·cases h
section
variable {X:Frag} {h₀:Heap} {mg mb:Str → Option Value}
theorem glob_of (hX:X.In h₀) (g:h₀.Ns mainGlobals mg) (b:∀ x:Str,x ≠ "__name__" → mb x = bootBuiltins x) {x:Str} {v:PV} (h:globB X x v = true) :
  ∃ u,(mg x = some u ∨ (mg x = none ∧ mb x = some u)) ∧ ∀ T:Tags,(∀ a o,h₀.get? a = some o → T a = .froz o) → Rel T v u:=by
 have sq:∀ {t:String} {l:List PV} {P:Value → Prop},(match nsIn X mainGlobals x with | some (some (.ref a))=>seqB X t l a | _=>false) = true → ∃ a vs n,mg x = some (.ref a) ∧ h₀.get? a = some ⟨.type t,none,.seq vs n,#[]⟩ ∧ strsB l vs.toList = true:=λ {t l P} h=>by
  split at h
  ·rename_i a e
   obtain ⟨vs,n,e2,e3⟩:=seqB_ok h
   exact ⟨a,vs,n,mg_of hX g e,hX _ _ e2,e3⟩
  ·cases h
 cases v with
 | int i=>
  unfold globB at h
  dsimp only at h
  split at h
  ·rename_i j t e
   rw [beq_iff_eq] at h
   exact ⟨_,.inl (mg_of hX g e),λ T zz=>(h ▸ IntV.mk t:IntV i (.int j t))⟩
  ·cases h
 | tup l=>
  obtain ⟨a,vs,n,e1,e2,e3⟩:=sq (P:=λ zz=>True) h
  exact ⟨_,.inl e1,λ T hT=>SeqFz.mk a n vs (hT _ _ e2) (strs_rel e3)⟩
 | klist l=>
  obtain ⟨a,vs,n,e1,e2,e3⟩:=sq (P:=λ zz=>True) h
  exact ⟨_,.inl e1,λ T hT=>SeqFz.mk a n vs (hT _ _ e2) (strs_rel e3)⟩
 | val u=>
  have builtin:(nsIn X mainGlobals x == some none && (bootBuiltins x == some u && x != "__name__")) = true → ∃ z,(mg x = some z ∨ (mg x = none ∧ mb x = some z)) ∧ ∀ T:Tags,(∀ a o,h₀.get? a = some o → T a = .froz o) → Rel T (.val u) z:=λ h=>by
   simp only [Bool.and_eq_true,beq_iff_eq,bne_iff_ne] at h
   exact ⟨u,.inr ⟨mg_none_of hX g h.1,(b x h.2.2).trans h.2.1⟩,λ T zz=>rfl⟩
  cases u with
  | ref a=>exact ⟨_,.inl (mg_of hX g (beq_iff_eq.mp h)),λ T zz=>rfl⟩
  | _=>exact builtin h
 | _=>cases h
theorem world1 (O:YOk X) (hX:X.In h₀) {loose:List Str} {mean:ExcName → Option Value} {p:Program} (T:Top p loose mean mg mb h₀) (hsys:(h₀.get? sysModules).isSome = true):World1 PySem.Challenge.pw_nz0144_01 h₀ tbl X mg mb:=
 ⟨⟨hsys,hX,cls_all O,⟨T.g,T.b,λ x v h=>glob_of hX T.g T.builtins (List.all_eq_true.mp O.glob (x,v) (mem_of_lookup h))⟩,T.bmain⟩,O.exm,T.nolimit,37,25,36,47,_,O.init _ _ (mg_none_of hX T.g O.nsup) ((T.builtins _ (by decide +kernel)).trans (by kernel_rfl))⟩
end
end Mine
end
section
open PySem PySem.W PySem.Calls PyProof.Rows
namespace Mine
theorem mro67:ExcMro "Exception" [.ref 47,.type "Exception",.type "BaseException",.type "object"]:=⟨by decide +kernel,by decide +kernel,by decide +kernel,by decide +kernel⟩
noncomputable def tags0 (h₀:Heap):Tags:=λ a=>if a = 521 then .tab 523 "_law_sort_deed.<locals>.<lambda>" else if a = 526 then .tab 528 "_law_function_deed.<locals>.<lambda>" else
 match h₀.get? a with
 | some o=>.froz o
 | none=>.free
section
variable {w:World} {h₀ h:Heap}
theorem based0:Based (tags0 h₀):=λ P cd q hm=>by
 unfold tabs0 at hm
 simp only [List.mem_cons,Prod.mk.injEq,List.not_mem_nil,or_false] at hm
 rcases hm with ⟨rfl,rfl,rfl⟩ | ⟨rfl,rfl,rfl⟩
 ·rfl
 ·rfl
theorem tags0_other {a:Addr} (h1:a ≠ 521) (h2:a ≠ 526):tags0 h₀ a = (match h₀.get? a with | some o=>.froz o | none=>.free):=by
 unfold tags0; rw [if_neg h1,if_neg h2]
theorem wd0 (hk:∀ b o,h₀.get? b = some o → h.get? b = some o) (n1:h₀.get? 521 = none) (n2:h₀.get? 526 = none) (t1:h.get? 521 = some (tabObj #[])) (t2:h.get? 526 = some (tabObj #[])) (c1:CodeHd h₀ 523 521) (c2:CodeHd h₀ 528 526) :
  Wd w h₀ (tags0 h₀) [] h:=by
 have key:∀ a,a = 521 ∨ a = 526 ∨ (a ≠ 521 ∧ a ≠ 526):=λ a=>by
  by_cases q1:a = 521
  ·exact .inl q1
  ·by_cases q2:a = 526
   ·exact .inr (.inl q2)
   ·exact .inr (.inr ⟨q1,q2⟩)
 have nocell:∀ a i,tags0 h₀ a ≠ .cell i ∧ tags0 h₀ a ≠ .sub i:=λ a i=>by
  rcases key a with rfl | rfl | ⟨q1,q2⟩
  ·exact ⟨(λ q=>nomatch q),(λ q=>nomatch q)⟩
  ·exact ⟨(λ q=>nomatch q),(λ q=>nomatch q)⟩
  ·rw [tags0_other q1 q2]
   cases h₀.get? a <;> exact ⟨(λ q=>nomatch q),(λ q=>nomatch q)⟩
 refine ⟨λ a o e=>?_,λ a ha=>?_,λ a o e=>?_,λ i x e=>(by simp at e),λ a b i ha zz=>absurd ha (nocell a i).1,λ a i ha=>?_,λ P cd q e=>?_⟩
 ·rw [tags0_other (λ q=>by subst q; rw [n1] at e; cases e) (λ q=>by subst q; rw [n2] at e; cases e),e]
 ·rcases key a with rfl | rfl | ⟨q1,q2⟩
  ·rw [t1]; rfl
  ·rw [t2]; rfl
  ·rw [tags0_other q1 q2] at ha
   cases z:h₀.get? a with
   | none=>rw [z] at ha; exact absurd rfl ha
   | some o=>rw [hk a o z]; rfl
 ·rcases key a with rfl | rfl | ⟨q1,q2⟩
  ·cases e
  ·cases e
  ·rw [tags0_other q1 q2] at e
   cases z:h₀.get? a with
   | none=>rw [z] at e; cases e
   | some o'=>rw [z] at e; cases e; exact hk a _ z
 ·rcases ha with ha | ha
  ·exact absurd ha (nocell a i).1
  ·exact absurd ha (nocell a i).2
 ·rcases key P with rfl | rfl | ⟨q1,q2⟩
  ·cases e
   exact ⟨c1,#[],t1,trivial,λ pos v hv=>(by cases hv)⟩
  ·cases e
   exact ⟨c2,#[],t2,trivial,λ pos v hv=>(by cases hv)⟩
  ·rw [tags0_other q1 q2] at e
   cases z:h₀.get? P <;> (rw [z] at e; cases e)
end
theorem law_run {zs:List Int} (hz:zs.length ≤ 63) {ps:List Str} {body:List Stmt} {scope:Scope} (hf:fnT 558 = some ⟨ps,body,scope,none⟩) :
  ∃ c' l',exL tbl (callF tbl 11) fuel false ⟨scope,[],none⟩ body [] [("script",.klist (zs.map PV.int))] = .ok (.ret (.bool true)) c' l' ∧ scope.kind = .function:=by
 have h:=law_sp (d:=6) (E:=λ zz=>False) hz
 have e0:(fnOf 558).scope.kind = .function:=by kernel_rfl
 have e:callF tbl 12 false (.val (.ref 558)) [.klist (zs.map PV.int)] [] = fin (exL tbl (callF tbl 11) fuel false ⟨(fnOf 558).scope,[],none⟩ (fnOf 558).body [] [("script",.klist (zs.map PV.int))]):=by kernel_rfl
 have ef:fnOf 558 = ⟨ps,body,scope,none⟩:=by unfold fnOf; rw [hf]; rfl
 rw [ef] at e e0
 rw [show callF tbl (6 + 6) false (.val (.ref 558)) [.klist (zs.map PV.int)] [] = _ from e] at h
 generalize exL tbl (callF tbl 11) fuel false ⟨scope,[],none⟩ body [] [("script",.klist (zs.map PV.int))] = r at h
 cases r with
 | ok w c' l'=>
  cases w with
  | nxt=>exact nomatch (show true = false from congrArg isNil (show PV.none = .bool true from h))
  | ret v=>exact ⟨c',l',by rw [show v = .bool true from h],e0⟩
 | exc c'=>exact h.elim
 | fail=>exact h.elim
section
variable {prog:Program} {w:World} {h₀:Heap} {K:Tbl} {X:Frag} {mg mb:Str → Option Value} {A:Around} {env:Env} {f:Frm} {s:Shared} {T:Tags} {c:Cells} {l:Locs} {d:Nat} {body:List Stmt} {v:PV}
theorem run_body2 (V:World1 prog h₀ K X mg mb) (TF:∀ a fd,K.fn a = some fd → FnOk X a fd) (hA:AOk A d [env]) (hf:∃ L,env.frame = some L) (P:Pre (w:=w) h₀ T c l s f env [env]) {c':Cells} {l':Locs}
  (hr:exL K (callF K d) fuel false f body c l = .ok (.ret v) c' l') {E:Value → Shared → Prop} {Q:Flow → Shared → Prop}
  (hq:∀ u s' T' m,Rel T' v u → Alike s s' → s'.heap.Ns env.locals m → (∀ b o,h₀.get? b = some o → s'.heap.get? b = some o) → GrownAll [(528,526),(523,521)] s'.heap → Q (.ret u) s'):wpAny (model prog w) A (execs body env) Q E s:=by
 have C:=call_ok (prog:=prog) (w:=w) V TF d
 have I:=ev_ok V.toWorld0 C
 have IX:=ex_ok V I
 obtain ⟨L,hf⟩:=hf
 have run:=(IX fuel).l false f env [env] A T c l s body hA (.mk [] L rfl hA.fr hf) P
 refine wpAny_mono (At.okE run hr) (λ fl s' q=>?_) λ zz zz q=>q
 obtain ⟨T',o,ru⟩:=q
 obtain ⟨u,ru⟩:RetV T' v fl:=ru
 obtain ⟨zz,m,ln,zz⟩:=o.pre.loc
 have g:∀ P cd q,(P,cd,q) ∈ tabs0 → GrownAt P s'.heap:=λ P cd q hm=>let ⟨_,ps,e,_⟩:=o.pre.wd.tabs _ _ _ (o.pre.frm.base P cd q hm); ⟨ps,e⟩
 exact hq u s' T' m ru o.same ln (o.pre.wd.keeps w) ⟨g 526 528 _ (.tail _ (.head _)),g 521 523 _ (.head _),trivial⟩
end
theorem well_ints {P:Params} {h:Heap}:∀ {vs:List Value} {zs:List Int},WellAll P h vs (ofPys (zs.map PyData.int)) → ∀ T:Tags,RelL T (zs.map PV.int) vs
 | [],[],_,T=>rfl
 | v :: vs,z :: zs,h,T=>by
  cases h with
  | cons h1 h2=>
   cases h1 with
   | int i t=>
    show RelL T (PV.int z :: zs.map PV.int) (Value.int z t :: vs)
    exact RelL.cons (IntV.mk t:IntV z (.int z t)) (well_ints h2 T)
section
variable {w:World} {s₁:Shared} {h₁ gh:Heap} {mg mb m:Str → Option Value} {loose:List Str} {mean:ExcName → Option Value} {p:Program} {A:Around}
theorem sys_of {tabs:List (Addr × Addr)} (T:Top p loose mean mg mb h₁) (hi:importsNone p = true) (hT:TabsAt tabs h₁):((ghostOf h₁ tabs).get? sysModules).isSome = true:=by
 obtain ⟨mm,⟨o,es,ep,e,hd,zz⟩,zz⟩:=(T.seer hi).mods
 rw [ghost_get hT e (λ q=>by subst q; cases hd)]; rfl
theorem law_body {name:Str} {fa a:Addr} {cd:Value} {zs:List Int} {body:List Stmt} {scope:Scope} (hfd0:fnT 558 = some ⟨["script"],body,scope,none⟩) (hz:zs.length ≤ 63) {X:Frag} (O:YOk X) (hX:X.In gh) (T:Top p loose mean mg mb gh) (hi:(gh.get? sysModules).isSome = true)
  (wl:Well w.params s₁.heap (.ref a) (ofPy (PyData.list (zs.map PyData.int)))) (hT:TabsAt [(528,526),(523,521)] s₁.heap) (hgh:gh = ghostOf s₁.heap [(528,526),(523,521)])
  (F:Fr gh s₁.heap.objs.size h₁ m) (hm:m "script" = some (.ref a)) (c2:CodeHd gh 528 526) (c1:CodeHd gh 523 521) (N:News gh s₁.heap.objs.size h₁ [(526,tabObj #[]),(521,tabObj #[])])
  (hA:AOk A 11 [envOf name scope s₁.heap.objs.size fa cd]) {s:Shared} (hs:s.heap = h₁) {E:Value → Shared → Prop} {Q:Flow → Shared → Prop}
  (hq:∀ s' m',Alike s s' → Fr gh s₁.heap.objs.size s'.heap m' → GrownAll [(528,526),(523,521)] s'.heap → Q (.ret (.bool true)) s') :
  wpAny (model PySem.Challenge.pw_nz0144_01 w) A (execs body (envOf name scope s₁.heap.objs.size fa cd)) Q E s:=by
 obtain ⟨c',l',hr,hsk⟩:=law_run hz hfd0
 obtain ⟨t2,ne2,n2⟩:=N (526,tabObj #[]) (.head _)
 obtain ⟨t1,ne1,n1⟩:=N (521,tabObj #[]) (.tail _ (.head _))
 have szf:gh.get? s₁.heap.objs.size = none:=Heap.get?_none_of_le F.above
 have tL:tags0 gh s₁.heap.objs.size = .free:=by
  rw [tags0_other (λ q=>ne1 q.symm) (λ q=>ne2 q.symm),szf]
 obtain ⟨o,es,ep,ho,hd,hk,hfind⟩:=id F.ns
 have W:=wd0 (w:=w) F.keep n1 n2 t1 t2 c1 c2
 subst hs
 have R:Rel (tags0 gh) (.klist (zs.map PV.int)) (.ref a):=by
  cases wl with
  | list hg hall=>
   rename_i vs
   have hg':gh.get? a = some (lstObj vs.toArray 0):=by rw [hgh]; exact ghost_get hT hg (by simp)
   exact SeqFz.mk a 0 vs.toArray (W.old _ _ hg') (well_ints hall _)
 have P:Pre (w:=w) gh (tags0 gh) [] [("script",.klist (zs.map PV.int))] s ⟨scope,[],none⟩ (envOf name scope s₁.heap.objs.size fa cd) [envOf name scope s₁.heap.objs.size fa cd]:=by
  refine ⟨W,⟨tL,m,F.ns,λ x v hx=>?_⟩,λ e he=>?_,⟨rfl,?_,rfl,rfl,λ x i h=>(by cases h),λ c P h=>(by cases h),based0⟩⟩
  ·rw [List.lookup_cons] at hx
   split at hx
   ·rename_i q
    cases hx
    have:x = "script":=by simpa using q
    subst this
    exact ⟨_,hm,R⟩
   ·cases hx
  ·rw [List.mem_singleton] at he
   subst he
   refine ⟨?_,s₁.heap.objs.size,o,rfl,tL,ho,λ vs q=>by rw [hd] at q; cases q⟩
   show scope.kind ≠ .module
   rw [hsk]; exact λ q=>nomatch q
  ·exact hsk
 refine run_body2 (world1 O hX T hi) (fn_all O.toXOk) hA ⟨_,rfl⟩ P hr λ u s' T' m' ru al ns kp g=>?_
 have:u = .bool true:=ru
 subst this
 exact hq s' m' al ⟨ns,kp,F.above⟩ g
theorem aok (env:Env):AOk (callerA.deeper env) 11 [env]:=
 ⟨rfl,by simp only [depth_deeper,depth_caller]; decide,by show 4 + _ + _ < _; decide,rfl⟩
end
end Mine
end
set_option Elab.async true
namespace Mine.whole
theorem tw10000958634945066235:True:=⟨⟩
theorem tw10002100669626812175:True:=⟨⟩
theorem tw10007520593648235073:True:=⟨⟩
theorem tw10019450917411332427:True:=⟨⟩
theorem tw10025635815308576066:True:=⟨⟩
theorem tw10025991395723482450:True:=⟨⟩
theorem tw10084071824679271942:True:=⟨⟩
theorem tw10118140284582671090:True:=⟨⟩
theorem tw10144505478992762587:True:=⟨⟩
theorem tw10153838690179905649:True:=⟨⟩
theorem tw10178181129370835086:True:=⟨⟩
theorem tw1021466310418864216:True:=⟨⟩
theorem tw10219327507634694686:True:=⟨⟩
theorem tw10240183823617578283:True:=⟨⟩
theorem tw1028817268384753636:True:=⟨⟩
theorem tw10301362462094837657:True:=⟨⟩
theorem tw10319702536984744784:True:=⟨⟩
theorem tw10332575325313852403:True:=⟨⟩
theorem tw10335108021726791369:True:=⟨⟩
theorem tw10339747121181971505:True:=⟨⟩
theorem tw10344827342348678470:True:=⟨⟩
theorem tw10354518954362131899:True:=⟨⟩
theorem tw10379991877525085312:True:=⟨⟩
theorem tw10387336663765257279:True:=⟨⟩
theorem tw10393562808733323261:True:=⟨⟩
theorem tw10423522819347714589:True:=⟨⟩
theorem tw10438997657263567297:True:=⟨⟩
theorem tw10446497943914359417:True:=⟨⟩
theorem tw10461253832287612282:True:=⟨⟩
theorem tw10467399731503315703:True:=⟨⟩
theorem tw10488504414272976643:True:=⟨⟩
theorem tw10565146586650446459:True:=⟨⟩
theorem tw1058133836064258550:True:=⟨⟩
theorem tw10602399703277881627:True:=⟨⟩
theorem tw10616696396452150886:True:=⟨⟩
theorem tw10646667717487897683:True:=⟨⟩
theorem tw10654317064775040509:True:=⟨⟩
theorem tw1072497446573119103:True:=⟨⟩
theorem tw10765999639320066096:True:=⟨⟩
theorem tw10795012362202508061:True:=⟨⟩
theorem tw10805158454514937742:True:=⟨⟩
theorem tw10832908153356258463:True:=⟨⟩
theorem tw10835839796424057354:True:=⟨⟩
theorem tw10838650209671834137:True:=⟨⟩
theorem tw10840090224303567227:True:=⟨⟩
theorem tw10879388597655286671:True:=⟨⟩
theorem tw10887019763833697050:True:=⟨⟩
theorem tw10922663048198985862:True:=⟨⟩
theorem tw10951800313117414527:True:=⟨⟩
theorem tw10981959625080579500:True:=⟨⟩
theorem tw11018331769982298155:True:=⟨⟩
theorem tw11024528398593038377:True:=⟨⟩
theorem tw11027412199618322810:True:=⟨⟩
theorem tw11030684522653666869:True:=⟨⟩
theorem tw11081603558227693051:True:=⟨⟩
theorem tw11100186960236547562:True:=⟨⟩
theorem tw11124209341801176217:True:=⟨⟩
theorem tw1114806542021703131:True:=⟨⟩
theorem tw11187447588885237514:True:=⟨⟩
theorem tw11188280186532128609:True:=⟨⟩
theorem tw11331365046741114882:True:=⟨⟩
theorem tw11357175057958205107:True:=⟨⟩
theorem tw11384259339768038936:True:=⟨⟩
theorem tw113900542113845248:True:=⟨⟩
theorem tw11392060985427220233:True:=⟨⟩
theorem tw11395692770084462984:True:=⟨⟩
theorem tw11401351377558187561:True:=⟨⟩
theorem tw1140656964413138424:True:=⟨⟩
theorem tw11409993775148365219:True:=⟨⟩
theorem tw11423436602419212718:True:=⟨⟩
theorem tw11447198823506915613:True:=⟨⟩
theorem tw11459245631466036986:True:=⟨⟩
theorem tw11476502588441444683:True:=⟨⟩
theorem tw1147815978188729584:True:=⟨⟩
theorem tw11579432869886197636:True:=⟨⟩
theorem tw11652624631766696257:True:=⟨⟩
theorem tw11670040512431834200:True:=⟨⟩
theorem tw11670093711784454257:True:=⟨⟩
theorem tw11678933692714762019:True:=⟨⟩
theorem tw11690859581915506653:True:=⟨⟩
theorem tw1169358714977055332:True:=⟨⟩
theorem tw11775131333759173506:True:=⟨⟩
theorem tw11777355322855799659:True:=⟨⟩
theorem tw11791088910183784695:True:=⟨⟩
theorem tw11793381155483064346:True:=⟨⟩
theorem tw11831613935261219028:True:=⟨⟩
theorem tw11836910150536664915:True:=⟨⟩
theorem tw11841974853317911985:True:=⟨⟩
theorem tw11862022474199680377:True:=⟨⟩
theorem tw11876454138822706389:True:=⟨⟩
theorem tw11896201609302106115:True:=⟨⟩
theorem tw11952309323241053379:True:=⟨⟩
theorem tw11959834037327795482:True:=⟨⟩
theorem tw11966515284280811977:True:=⟨⟩
theorem tw11975771152792504044:True:=⟨⟩
theorem tw11988251369728918034:True:=⟨⟩
theorem tw1200200279266715423:True:=⟨⟩
theorem tw12044105500090777872:True:=⟨⟩
theorem tw12063277863729348616:True:=⟨⟩
theorem tw12064908160898778525:True:=⟨⟩
theorem tw12066178620653064874:True:=⟨⟩
theorem tw12077107353733055826:True:=⟨⟩
theorem tw12098860561503762481:True:=⟨⟩
theorem tw12101772971524344381:True:=⟨⟩
theorem tw12114987751065605754:True:=⟨⟩
theorem tw12117460353608821864:True:=⟨⟩
theorem tw12180422818723984309:True:=⟨⟩
theorem tw12186894253409539890:True:=⟨⟩
theorem tw1219099391390118749:True:=⟨⟩
theorem tw12207685810698929643:True:=⟨⟩
theorem tw12219512705738599021:True:=⟨⟩
theorem tw12294887724330564330:True:=⟨⟩
theorem tw12365302626169338283:True:=⟨⟩
theorem tw12381228794656768651:True:=⟨⟩
theorem tw12384220206497402333:True:=⟨⟩
theorem tw12384909515848061526:True:=⟨⟩
theorem tw1242133270297695508:True:=⟨⟩
theorem tw12442016628978143412:True:=⟨⟩
theorem tw12471785041798745281:True:=⟨⟩
theorem tw12474861257701531764:True:=⟨⟩
theorem tw12478609949429157409:True:=⟨⟩
theorem tw12484011378766964031:True:=⟨⟩
theorem tw12499812526503966003:True:=⟨⟩
theorem tw12505054689143061370:True:=⟨⟩
theorem tw12507882389757649525:True:=⟨⟩
theorem tw12509332252045503800:True:=⟨⟩
theorem tw12548274353314379123:True:=⟨⟩
theorem tw1255956871972877904:True:=⟨⟩
theorem tw12562849145585476731:True:=⟨⟩
theorem tw12590650055501746483:True:=⟨⟩
theorem tw12591319150774080885:True:=⟨⟩
theorem tw12598572606399187110:True:=⟨⟩
theorem tw12620984872611610876:True:=⟨⟩
theorem tw1266484639899004939:True:=⟨⟩
theorem tw12698311456782994138:True:=⟨⟩
theorem tw12740454516981205806:True:=⟨⟩
theorem tw12742087137024979937:True:=⟨⟩
theorem tw127423454215802840:True:=⟨⟩
theorem tw12755130789335188444:True:=⟨⟩
theorem tw12761472262123182041:True:=⟨⟩
theorem tw12808456870637180559:True:=⟨⟩
theorem tw12809664267019061670:True:=⟨⟩
theorem tw12850242359631670003:True:=⟨⟩
theorem tw12852820008105578649:True:=⟨⟩
theorem tw12920395458479335663:True:=⟨⟩
theorem tw12928932934922122878:True:=⟨⟩
theorem tw12929571550936607752:True:=⟨⟩
theorem tw12967805889597932581:True:=⟨⟩
theorem tw12976933641374925533:True:=⟨⟩
theorem tw12982672189386914922:True:=⟨⟩
theorem tw1299319290729411920:True:=⟨⟩
theorem tw13000713063990318526:True:=⟨⟩
theorem tw13011607508168736217:True:=⟨⟩
theorem tw13018183266405097566:True:=⟨⟩
theorem tw13045181716907704641:True:=⟨⟩
theorem tw13061340530893119238:True:=⟨⟩
theorem tw13110515450571257733:True:=⟨⟩
theorem tw13142167418276237254:True:=⟨⟩
theorem tw13149474316023798553:True:=⟨⟩
theorem tw13155097880312403346:True:=⟨⟩
theorem tw1318554304652621475:True:=⟨⟩
theorem tw13213058742666125385:True:=⟨⟩
theorem tw1321319160052600332:True:=⟨⟩
theorem tw13262402704330787269:True:=⟨⟩
theorem tw13285438998962464343:True:=⟨⟩
theorem tw1329479340354266572:True:=⟨⟩
theorem tw13297878767709546727:True:=⟨⟩
theorem tw13329942582686594379:True:=⟨⟩
theorem tw13334927893685096626:True:=⟨⟩
theorem tw1335791156554467795:True:=⟨⟩
theorem tw13373713576854631141:True:=⟨⟩
theorem tw13397120828393852246:True:=⟨⟩
theorem tw13406957107772272364:True:=⟨⟩
theorem tw1342645848660009235:True:=⟨⟩
theorem tw13463558215457259582:True:=⟨⟩
theorem tw13468676432958742306:True:=⟨⟩
theorem tw13468923340822585488:True:=⟨⟩
theorem tw13478315594510353802:True:=⟨⟩
theorem tw1350920760672359567:True:=⟨⟩
theorem tw13533835726952830686:True:=⟨⟩
theorem tw1353902047762577225:True:=⟨⟩
theorem tw13562979760119101899:True:=⟨⟩
theorem tw1357757348178948127:True:=⟨⟩
theorem tw13589495451009096285:True:=⟨⟩
theorem tw13600218594186718376:True:=⟨⟩
theorem tw13664935262549406174:True:=⟨⟩
theorem tw13719171679594634575:True:=⟨⟩
theorem tw13730376311393935369:True:=⟨⟩
theorem tw13749801708979339770:True:=⟨⟩
theorem tw13762013822233420738:True:=⟨⟩
theorem tw137721658169608169:True:=⟨⟩
theorem tw13823951767099335047:True:=⟨⟩
theorem tw13829708278779851847:True:=⟨⟩
theorem tw13835169320686990480:True:=⟨⟩
theorem tw1393339623888494026:True:=⟨⟩
theorem tw13960669724093699300:True:=⟨⟩
theorem tw13962616709173656972:True:=⟨⟩
theorem tw13974613887430780637:True:=⟨⟩
theorem tw13989200534822022692:True:=⟨⟩
theorem tw14031613983174702221:True:=⟨⟩
theorem tw14062873862729552008:True:=⟨⟩
theorem tw14105509162872741218:True:=⟨⟩
theorem tw14120694959671187261:True:=⟨⟩
theorem tw14173393766343599159:True:=⟨⟩
theorem tw14192229110069238088:True:=⟨⟩
theorem tw14239292526413980002:True:=⟨⟩
theorem tw14249640844001687384:True:=⟨⟩
theorem tw14328502944104624683:True:=⟨⟩
theorem tw14381574177426341226:True:=⟨⟩
theorem tw14390007995909808975:True:=⟨⟩
theorem tw14395644662136614805:True:=⟨⟩
theorem tw14398639782218008916:True:=⟨⟩
theorem tw14398828562116658018:True:=⟨⟩
theorem tw14407849266092530191:True:=⟨⟩
theorem tw14443708556783366652:True:=⟨⟩
theorem tw14457598465852218886:True:=⟨⟩
theorem tw14492196311604417308:True:=⟨⟩
theorem tw14590790631899776401:True:=⟨⟩
theorem tw14592908492388784131:True:=⟨⟩
theorem tw14621228733418778453:True:=⟨⟩
theorem tw14628220171574447489:True:=⟨⟩
theorem tw14654356449610600485:True:=⟨⟩
theorem tw14661705875561194100:True:=⟨⟩
theorem tw14671651394210877623:True:=⟨⟩
theorem tw14676366378414606867:True:=⟨⟩
theorem tw1469495571348798126:True:=⟨⟩
theorem tw1470681187219097129:True:=⟨⟩
theorem tw14725644924352215136:True:=⟨⟩
theorem tw14756447051001558117:True:=⟨⟩
theorem tw14765760737338471991:True:=⟨⟩
theorem tw14776171463994254414:True:=⟨⟩
theorem tw14852934547574820571:True:=⟨⟩
theorem tw14857529406646634625:True:=⟨⟩
theorem tw14877643965249282964:True:=⟨⟩
theorem tw1488662743745869538:True:=⟨⟩
theorem tw14890280090424698046:True:=⟨⟩
theorem tw14904662530626821806:True:=⟨⟩
theorem tw14916202748087371944:True:=⟨⟩
theorem tw14998389939795375158:True:=⟨⟩
theorem tw15013576625721048695:True:=⟨⟩
theorem tw15015764479258077956:True:=⟨⟩
theorem tw15089273742334493110:True:=⟨⟩
theorem tw1509033169537457064:True:=⟨⟩
theorem tw15103685750691789098:True:=⟨⟩
theorem tw15105012252411618398:True:=⟨⟩
theorem tw15117479482001565679:True:=⟨⟩
theorem tw15189915617685484396:True:=⟨⟩
theorem tw15206955865107345967:True:=⟨⟩
theorem tw15251578357679609785:True:=⟨⟩
theorem tw15264306265154332586:True:=⟨⟩
theorem tw15285801702533195368:True:=⟨⟩
theorem tw1533094020690680647:True:=⟨⟩
theorem tw15338273372565686330:True:=⟨⟩
theorem tw15401142651479110994:True:=⟨⟩
theorem tw15469157617142141710:True:=⟨⟩
theorem tw15490696404161045352:True:=⟨⟩
theorem tw15539963934695697727:True:=⟨⟩
theorem tw15564212434770411261:True:=⟨⟩
theorem tw15590627282705473993:True:=⟨⟩
theorem tw15657491793718945610:True:=⟨⟩
theorem tw15680802009173567957:True:=⟨⟩
theorem tw15695161780090201225:True:=⟨⟩
theorem tw15753584648845244147:True:=⟨⟩
theorem tw15761127226676153883:True:=⟨⟩
theorem tw15771390255919318617:True:=⟨⟩
theorem tw15803673994437570577:True:=⟨⟩
theorem tw15811116968426213322:True:=⟨⟩
theorem tw15819564801051643881:True:=⟨⟩
theorem tw15835130817642446534:True:=⟨⟩
theorem tw15848567645679474065:True:=⟨⟩
theorem tw1587768003098754325:True:=⟨⟩
theorem tw15930047269337530508:True:=⟨⟩
theorem tw15950631773475717186:True:=⟨⟩
theorem tw16000088419691856984:True:=⟨⟩
theorem tw1601961968588287001:True:=⟨⟩
theorem tw16026843855606243410:True:=⟨⟩
theorem tw16039693123603110109:True:=⟨⟩
theorem tw16062187612904122858:True:=⟨⟩
theorem tw16089163917832698231:True:=⟨⟩
theorem tw161333873384909080:True:=⟨⟩
theorem tw16146633858663668739:True:=⟨⟩
theorem tw16151222146762293071:True:=⟨⟩
theorem tw161632788893874429:True:=⟨⟩
theorem tw16316554137538487329:True:=⟨⟩
theorem tw16337621169857538619:True:=⟨⟩
theorem tw1633898876240874773:True:=⟨⟩
theorem tw16342273516520970692:True:=⟨⟩
theorem tw16398205279857054297:True:=⟨⟩
theorem tw1640677438868554593:True:=⟨⟩
theorem tw16442795661328238356:True:=⟨⟩
theorem tw1645590182628983409:True:=⟨⟩
theorem tw16467933323881711526:True:=⟨⟩
theorem tw16505068655815891843:True:=⟨⟩
theorem tw16529046165737248422:True:=⟨⟩
theorem tw16576061068926947915:True:=⟨⟩
theorem tw16586233370728154131:True:=⟨⟩
theorem tw16588625043399567139:True:=⟨⟩
theorem tw16595449952281916149:True:=⟨⟩
theorem tw16607669324509118938:True:=⟨⟩
theorem tw16616245412964173377:True:=⟨⟩
theorem tw16668768811381343612:True:=⟨⟩
theorem tw16691007607992939502:True:=⟨⟩
theorem tw16708263669468244151:True:=⟨⟩
theorem tw16710806586956947785:True:=⟨⟩
theorem tw16721588368965777027:True:=⟨⟩
theorem tw16731332320388202666:True:=⟨⟩
theorem tw16732526662816644420:True:=⟨⟩
theorem tw16739781802365451968:True:=⟨⟩
theorem tw16741440440132755172:True:=⟨⟩
theorem tw16800997667575721541:True:=⟨⟩
theorem tw16827500432841332687:True:=⟨⟩
theorem tw16845944245580146995:True:=⟨⟩
theorem tw16912792503757511054:True:=⟨⟩
theorem tw1692622564874605650:True:=⟨⟩
theorem tw169747851870786472:True:=⟨⟩
theorem tw16986268789631483586:True:=⟨⟩
theorem tw17037309529492816295:True:=⟨⟩
theorem tw17044950167386977207:True:=⟨⟩
theorem tw17060747222450192753:True:=⟨⟩
theorem tw17075553230084287909:True:=⟨⟩
theorem tw17092094596097150618:True:=⟨⟩
theorem tw17128258169734466478:True:=⟨⟩
theorem tw17139489815344077886:True:=⟨⟩
theorem tw17169624498616045403:True:=⟨⟩
theorem tw17179786008130999086:True:=⟨⟩
theorem tw17195952149560314771:True:=⟨⟩
theorem tw17256302963761357986:True:=⟨⟩
theorem tw17258676653681215673:True:=⟨⟩
theorem tw17295703372945214271:True:=⟨⟩
theorem tw17333791097184162534:True:=⟨⟩
theorem tw1733744953317856445:True:=⟨⟩
theorem tw17352401548598318492:True:=⟨⟩
theorem tw17395194986337826024:True:=⟨⟩
theorem tw17454085226186693669:True:=⟨⟩
theorem tw17475311184863085016:True:=⟨⟩
theorem tw17480726222106551122:True:=⟨⟩
theorem tw17510340352245238577:True:=⟨⟩
theorem tw17529894129228449367:True:=⟨⟩
theorem tw17580786090293021976:True:=⟨⟩
theorem tw17583434110615651305:True:=⟨⟩
theorem tw17598439363315890097:True:=⟨⟩
theorem tw17641713804859348092:True:=⟨⟩
theorem tw1765076044715932963:True:=⟨⟩
theorem tw17659150536888882668:True:=⟨⟩
theorem tw17692944630003236201:True:=⟨⟩
theorem tw17756055853247313500:True:=⟨⟩
theorem tw17768757769460313278:True:=⟨⟩
theorem tw17781206938751360472:True:=⟨⟩
theorem tw17789319016849944305:True:=⟨⟩
theorem tw17794071737211314316:True:=⟨⟩
theorem tw17814491789457634051:True:=⟨⟩
theorem tw17818493641747277991:True:=⟨⟩
theorem tw17819583843959417973:True:=⟨⟩
theorem tw17841917278309519415:True:=⟨⟩
theorem tw17870152368367076345:True:=⟨⟩
theorem tw17870853324313594786:True:=⟨⟩
theorem tw17881794589497109145:True:=⟨⟩
theorem tw17886057370482458864:True:=⟨⟩
theorem tw17933440416606161858:True:=⟨⟩
theorem tw17948893368442150300:True:=⟨⟩
theorem tw17980908128825299112:True:=⟨⟩
theorem tw17991299263585117788:True:=⟨⟩
theorem tw17992364426957274132:True:=⟨⟩
theorem tw18026328337398066365:True:=⟨⟩
theorem tw18056553881098321084:True:=⟨⟩
theorem tw18060336119277286115:True:=⟨⟩
theorem tw18135788421098096370:True:=⟨⟩
theorem tw18174217711786252908:True:=⟨⟩
theorem tw18186416632783805872:True:=⟨⟩
theorem tw18223413143505370273:True:=⟨⟩
theorem tw18293881159641894451:True:=⟨⟩
theorem tw18314547241281667657:True:=⟨⟩
theorem tw18324492136986001645:True:=⟨⟩
theorem tw18354614867481654581:True:=⟨⟩
theorem tw18382394861701510011:True:=⟨⟩
theorem tw1859146779660683823:True:=⟨⟩
theorem tw1897105925431849711:True:=⟨⟩
theorem tw1902754551582867561:True:=⟨⟩
theorem tw1924431887339951452:True:=⟨⟩
theorem tw1934810232205804993:True:=⟨⟩
theorem tw1975147037884041520:True:=⟨⟩
theorem tw1999433592531618509:True:=⟨⟩
theorem tw2013318861076662011:True:=⟨⟩
theorem tw2028823117376367632:True:=⟨⟩
theorem tw203428145850139289:True:=⟨⟩
theorem tw2047193779265307260:True:=⟨⟩
theorem tw2081632904089052959:True:=⟨⟩
theorem tw2083198920140632441:True:=⟨⟩
theorem tw213970696928864655:True:=⟨⟩
theorem tw2151346155558304222:True:=⟨⟩
theorem tw2151871088471828822:True:=⟨⟩
theorem tw2155487761632659812:True:=⟨⟩
theorem tw2168223474955763204:True:=⟨⟩
theorem tw2198523743367551842:True:=⟨⟩
theorem tw2201306404548609547:True:=⟨⟩
theorem tw2249504304506360813:True:=⟨⟩
theorem tw2257964759858552478:True:=⟨⟩
theorem tw2290268214366725154:True:=⟨⟩
theorem tw2302033354624455591:True:=⟨⟩
theorem tw2349701861695252166:True:=⟨⟩
theorem tw2362521522948952975:True:=⟨⟩
theorem tw2380868127642377217:True:=⟨⟩
theorem tw2401531773124529735:True:=⟨⟩
theorem tw2404457027504551060:True:=⟨⟩
theorem tw2409123336234807113:True:=⟨⟩
theorem tw2412972146837434115:True:=⟨⟩
theorem tw2439357469168130064:True:=⟨⟩
theorem tw2469003464257525574:True:=⟨⟩
theorem tw2536362301702204066:True:=⟨⟩
theorem tw254780913952180833:True:=⟨⟩
theorem tw2554714600840530319:True:=⟨⟩
theorem tw2558861820686608913:True:=⟨⟩
theorem tw2580061231857448207:True:=⟨⟩
theorem tw2608646628457097981:True:=⟨⟩
theorem tw2626972384719194784:True:=⟨⟩
theorem tw2649048575011448004:True:=⟨⟩
theorem tw2665807779830099079:True:=⟨⟩
theorem tw2675290096998512546:True:=⟨⟩
theorem tw2685624786292725039:True:=⟨⟩
theorem tw2733790213765534055:True:=⟨⟩
theorem tw2781955308351554444:True:=⟨⟩
theorem tw2783269125865542102:True:=⟨⟩
theorem tw280920844665842053:True:=⟨⟩
theorem tw285988719286631819:True:=⟨⟩
theorem tw2896436902973227457:True:=⟨⟩
theorem tw29202618045891971:True:=⟨⟩
theorem tw2959683903145980101:True:=⟨⟩
theorem tw2962858822866373933:True:=⟨⟩
theorem tw2989192609971925910:True:=⟨⟩
theorem tw3011435400849643553:True:=⟨⟩
theorem tw3016316376071577429:True:=⟨⟩
theorem tw302538394102154784:True:=⟨⟩
theorem tw3028004478679740547:True:=⟨⟩
theorem tw3085902745639715626:True:=⟨⟩
theorem tw3099174332690161747:True:=⟨⟩
theorem tw3117049408229778687:True:=⟨⟩
theorem tw3118101993129739532:True:=⟨⟩
theorem tw3125283655325999989:True:=⟨⟩
theorem tw3127163415804763599:True:=⟨⟩
theorem tw3141554390599180669:True:=⟨⟩
theorem tw3150075250938504248:True:=⟨⟩
theorem tw3162264621223815677:True:=⟨⟩
theorem tw3166543957339863982:True:=⟨⟩
theorem tw3168900989282067249:True:=⟨⟩
theorem tw3243557710152264731:True:=⟨⟩
theorem tw3270133029678145397:True:=⟨⟩
theorem tw3280129329062278201:True:=⟨⟩
theorem tw3306209509626126654:True:=⟨⟩
theorem tw3336266095096057487:True:=⟨⟩
theorem tw3345510996311645767:True:=⟨⟩
theorem tw3369746551918469629:True:=⟨⟩
theorem tw3384207784612787380:True:=⟨⟩
theorem tw3388183141720772199:True:=⟨⟩
theorem tw3390907139478361160:True:=⟨⟩
theorem tw340442491454447764:True:=⟨⟩
theorem tw3467671131507365174:True:=⟨⟩
theorem tw3479739002732855021:True:=⟨⟩
theorem tw3559878232441866632:True:=⟨⟩
theorem tw356215775963413058:True:=⟨⟩
theorem tw3604371722874584219:True:=⟨⟩
theorem tw369943808078234791:True:=⟨⟩
theorem tw3720110479823389818:True:=⟨⟩
theorem tw3724477965614018403:True:=⟨⟩
theorem tw3733001107339715835:True:=⟨⟩
theorem tw3742335343461010818:True:=⟨⟩
theorem tw3798757254938238448:True:=⟨⟩
theorem tw3802398583823018356:True:=⟨⟩
theorem tw381110514646162275:True:=⟨⟩
theorem tw3817958767811374121:True:=⟨⟩
theorem tw3831098155750919189:True:=⟨⟩
theorem tw3856153580267494730:True:=⟨⟩
theorem tw3860174431591174066:True:=⟨⟩
theorem tw3869719713472690019:True:=⟨⟩
theorem tw3935972832432928633:True:=⟨⟩
theorem tw3945383572190744343:True:=⟨⟩
theorem tw3947618128840659280:True:=⟨⟩
theorem tw397210227534267232:True:=⟨⟩
theorem tw3995449140538097629:True:=⟨⟩
theorem tw4009164454077540199:True:=⟨⟩
theorem tw4024587099455181709:True:=⟨⟩
theorem tw4056270910917201831:True:=⟨⟩
theorem tw4086658223068553736:True:=⟨⟩
theorem tw409525538239758689:True:=⟨⟩
theorem tw4104619502420251389:True:=⟨⟩
theorem tw4107823604484434990:True:=⟨⟩
theorem tw4162360135600614074:True:=⟨⟩
theorem tw4163455835068889971:True:=⟨⟩
theorem tw4180466227808675834:True:=⟨⟩
theorem tw4221266100470226451:True:=⟨⟩
theorem tw4234479992401935053:True:=⟨⟩
theorem tw427333557424167660:True:=⟨⟩
theorem tw4325337674984583414:True:=⟨⟩
theorem tw4337987958061720545:True:=⟨⟩
theorem tw4338333698743118245:True:=⟨⟩
theorem tw4346055641746905949:True:=⟨⟩
theorem tw4347982837100205910:True:=⟨⟩
theorem tw435229417069212923:True:=⟨⟩
theorem tw4357746044423742650:True:=⟨⟩
theorem tw43722865635132848:True:=⟨⟩
theorem tw4444701892398472603:True:=⟨⟩
theorem tw4445204285082115520:True:=⟨⟩
theorem tw4447922135398794285:True:=⟨⟩
theorem tw4466201941553827358:True:=⟨⟩
theorem tw4478484345807364305:True:=⟨⟩
theorem tw4479364801722962140:True:=⟨⟩
theorem tw4487652198498899664:True:=⟨⟩
theorem tw4497405343062392443:True:=⟨⟩
theorem tw4559885085590827626:True:=⟨⟩
theorem tw4605417425148642151:True:=⟨⟩
theorem tw46433443316919834:True:=⟨⟩
theorem tw4672207989499910625:True:=⟨⟩
theorem tw4689585835679557668:True:=⟨⟩
theorem tw4725433933799282014:True:=⟨⟩
theorem tw4779742677757752892:True:=⟨⟩
theorem tw482805393138593929:True:=⟨⟩
theorem tw487143721646681983:True:=⟨⟩
theorem tw4897329129694005586:True:=⟨⟩
theorem tw4901011727050283698:True:=⟨⟩
theorem tw4902818953507920398:True:=⟨⟩
theorem tw4909349585908861296:True:=⟨⟩
theorem tw4918820536221260690:True:=⟨⟩
theorem tw4934077235998201596:True:=⟨⟩
theorem tw49618309497685836:True:=⟨⟩
theorem tw4977384430496418070:True:=⟨⟩
theorem tw5001923725869043736:True:=⟨⟩
theorem tw5049987766257362985:True:=⟨⟩
theorem tw5055955640874334904:True:=⟨⟩
theorem tw5078443471013023264:True:=⟨⟩
theorem tw5081031077709457048:True:=⟨⟩
theorem tw5099900934548537757:True:=⟨⟩
theorem tw5137022389394785357:True:=⟨⟩
theorem tw5146043315109619605:True:=⟨⟩
theorem tw5159705281301196996:True:=⟨⟩
theorem tw5171116725156735389:True:=⟨⟩
theorem tw5189780602208921310:True:=⟨⟩
theorem tw5201323674647411954:True:=⟨⟩
theorem tw5233578499609466721:True:=⟨⟩
theorem tw5254450366334392284:True:=⟨⟩
theorem tw5277294116208204688:True:=⟨⟩
theorem tw5277582801102665213:True:=⟨⟩
theorem tw5349422690488739272:True:=⟨⟩
theorem tw5360207378560713126:True:=⟨⟩
theorem tw5361092306138085264:True:=⟨⟩
theorem tw536816803628104207:True:=⟨⟩
theorem tw5405151241437436114:True:=⟨⟩
theorem tw5408107943391738:True:=⟨⟩
theorem tw5433660331597885046:True:=⟨⟩
theorem tw543460287212350964:True:=⟨⟩
theorem tw5438831827131416888:True:=⟨⟩
theorem tw5454423673936232090:True:=⟨⟩
theorem tw5460680643579594377:True:=⟨⟩
theorem tw5462770333876777704:True:=⟨⟩
theorem tw5477020428343274486:True:=⟨⟩
theorem tw5507206668745343223:True:=⟨⟩
theorem tw5515949286892933951:True:=⟨⟩
theorem tw5531847113258461380:True:=⟨⟩
theorem tw5542149417468696053:True:=⟨⟩
theorem tw5586392500970708615:True:=⟨⟩
theorem tw561600600097829391:True:=⟨⟩
theorem tw5662987942479315956:True:=⟨⟩
theorem tw5682345275169407818:True:=⟨⟩
theorem tw572749868224977959:True:=⟨⟩
theorem tw5790326999694950120:True:=⟨⟩
theorem tw5803101561360292368:True:=⟨⟩
theorem tw5804886461390523402:True:=⟨⟩
theorem tw5833760311655045577:True:=⟨⟩
theorem tw5879479702872096659:True:=⟨⟩
theorem tw5882343337706715899:True:=⟨⟩
theorem tw5891782929134035036:True:=⟨⟩
theorem tw590541238101311183:True:=⟨⟩
theorem tw5938623499991607928:True:=⟨⟩
theorem tw5942346508108547180:True:=⟨⟩
theorem tw60084206612377972:True:=⟨⟩
theorem tw6014040228023658700:True:=⟨⟩
theorem tw6018008695308894833:True:=⟨⟩
theorem tw6049599900894316688:True:=⟨⟩
theorem tw6065093676875020208:True:=⟨⟩
theorem tw6067178945074143734:True:=⟨⟩
theorem tw6084657873442493111:True:=⟨⟩
theorem tw6095937858554715304:True:=⟨⟩
theorem tw6097748072631727781:True:=⟨⟩
theorem tw6150244297128479101:True:=⟨⟩
theorem tw6187261993980536492:True:=⟨⟩
theorem tw6197045082498751548:True:=⟨⟩
theorem tw620233503781600244:True:=⟨⟩
theorem tw6211587326476211309:True:=⟨⟩
theorem tw627836218701940097:True:=⟨⟩
theorem tw6330323023686639657:True:=⟨⟩
theorem tw6377287985247879410:True:=⟨⟩
theorem tw6396017553259284124:True:=⟨⟩
theorem tw6416634858453334624:True:=⟨⟩
theorem tw6421574377784992043:True:=⟨⟩
theorem tw6453619897266653623:True:=⟨⟩
theorem tw6472696656209681604:True:=⟨⟩
theorem tw6496092161831514541:True:=⟨⟩
theorem tw6507163766276112266:True:=⟨⟩
theorem tw6525215580464160042:True:=⟨⟩
theorem tw6525437661541442089:True:=⟨⟩
theorem tw6543890796684900771:True:=⟨⟩
theorem tw6553984163096543158:True:=⟨⟩
theorem tw6554874851225637503:True:=⟨⟩
theorem tw6612613915786651340:True:=⟨⟩
theorem tw6648197116569056673:True:=⟨⟩
theorem tw6677481401041580341:True:=⟨⟩
theorem tw6711224856247384401:True:=⟨⟩
theorem tw6743021324641148519:True:=⟨⟩
theorem tw675793542917168019:True:=⟨⟩
theorem tw6758007706158031737:True:=⟨⟩
theorem tw6772379921613518395:True:=⟨⟩
theorem tw6774775609766916077:True:=⟨⟩
theorem tw6783627951005175229:True:=⟨⟩
theorem tw679095792406170707:True:=⟨⟩
theorem tw6795950696382679116:True:=⟨⟩
theorem tw6823266097380344784:True:=⟨⟩
theorem tw6831798877050662096:True:=⟨⟩
theorem tw6866068747796929802:True:=⟨⟩
theorem tw6872907005359335961:True:=⟨⟩
theorem tw6891315699540082446:True:=⟨⟩
theorem tw6896427876366098391:True:=⟨⟩
theorem tw6933715213461094250:True:=⟨⟩
theorem tw6975664082121306202:True:=⟨⟩
theorem tw7073311072910153293:True:=⟨⟩
theorem tw7078629122812257199:True:=⟨⟩
theorem tw7101197657001211085:True:=⟨⟩
theorem tw7154100213019291727:True:=⟨⟩
theorem tw715978364194892080:True:=⟨⟩
theorem tw7181214704614307865:True:=⟨⟩
theorem tw7185185305316088854:True:=⟨⟩
theorem tw7187317218736086229:True:=⟨⟩
theorem tw7248877203947682478:True:=⟨⟩
theorem tw7276013540153241084:True:=⟨⟩
theorem tw7280849871689594849:True:=⟨⟩
theorem tw7315993881563675004:True:=⟨⟩
theorem tw7368006489180217709:True:=⟨⟩
theorem tw7452821578398259720:True:=⟨⟩
theorem tw7466904020207815869:True:=⟨⟩
theorem tw7499365098147365621:True:=⟨⟩
theorem tw7509650053966640704:True:=⟨⟩
theorem tw7525632177321363660:True:=⟨⟩
theorem tw7545590854473540767:True:=⟨⟩
theorem tw7564407027854533171:True:=⟨⟩
theorem tw7576292583959916747:True:=⟨⟩
theorem tw7582116766257987118:True:=⟨⟩
theorem tw7588574119468234827:True:=⟨⟩
theorem tw7645621925510333512:True:=⟨⟩
theorem tw7689902935678670512:True:=⟨⟩
theorem tw772474843232632690:True:=⟨⟩
theorem tw7728773200315073681:True:=⟨⟩
theorem tw7763615457305083410:True:=⟨⟩
theorem tw7781976810680006178:True:=⟨⟩
theorem tw7868544009499267292:True:=⟨⟩
theorem tw7877845480710146401:True:=⟨⟩
theorem tw7885708016979292634:True:=⟨⟩
theorem tw7892903329919386008:True:=⟨⟩
theorem tw7910221479046277610:True:=⟨⟩
theorem tw7925426705801168976:True:=⟨⟩
theorem tw7967871255840070022:True:=⟨⟩
theorem tw7977878525754885090:True:=⟨⟩
theorem tw7978788361824508945:True:=⟨⟩
theorem tw803728761352460389:True:=⟨⟩
theorem tw8102634817939251817:True:=⟨⟩
theorem tw8109663874093803249:True:=⟨⟩
theorem tw817909704231249520:True:=⟨⟩
theorem tw8184708281838074206:True:=⟨⟩
theorem tw8269794280708405034:True:=⟨⟩
theorem tw8284271217205693211:True:=⟨⟩
theorem tw8309436690622926411:True:=⟨⟩
theorem tw8341004590406740810:True:=⟨⟩
theorem tw8350250358471643572:True:=⟨⟩
theorem tw8351164730277109312:True:=⟨⟩
theorem tw8389592306716628391:True:=⟨⟩
theorem tw8403751301525005671:True:=⟨⟩
theorem tw8404662182687332519:True:=⟨⟩
theorem tw842793390314483620:True:=⟨⟩
theorem tw8443025263604155638:True:=⟨⟩
theorem tw8444963059077079450:True:=⟨⟩
theorem tw8529020170189433330:True:=⟨⟩
theorem tw8572516506043022915:True:=⟨⟩
theorem tw8602141644225615130:True:=⟨⟩
theorem tw8615399842404961663:True:=⟨⟩
theorem tw8699793337390238261:True:=⟨⟩
theorem tw8719548228035378133:True:=⟨⟩
theorem tw8868806382682364411:True:=⟨⟩
theorem tw8884531897199943920:True:=⟨⟩
theorem tw8894826161267586577:True:=⟨⟩
theorem tw8958426612096339740:True:=⟨⟩
theorem tw8961415085178454156:True:=⟨⟩
theorem tw8965215075514910880:True:=⟨⟩
theorem tw8983667203327932493:True:=⟨⟩
theorem tw8983756257105130227:True:=⟨⟩
theorem tw899187281708718853:True:=⟨⟩
theorem tw9033953771586226978:True:=⟨⟩
theorem tw9035394219717786629:True:=⟨⟩
theorem tw905634021204347684:True:=⟨⟩
theorem tw9063790561628003831:True:=⟨⟩
theorem tw9088682870026954680:True:=⟨⟩
theorem tw9095261259357604559:True:=⟨⟩
theorem tw9170513070990267023:True:=⟨⟩
theorem tw9189751539129569556:True:=⟨⟩
theorem tw9212966250080664162:True:=⟨⟩
theorem tw9235561108164731721:True:=⟨⟩
theorem tw9242471422690250210:True:=⟨⟩
theorem tw9261806104794426953:True:=⟨⟩
theorem tw9275448389876633987:True:=⟨⟩
theorem tw927568089824032536:True:=⟨⟩
theorem tw9315315907157715723:True:=⟨⟩
theorem tw9347626172496877827:True:=⟨⟩
theorem tw9406530864695525851:True:=⟨⟩
theorem tw9416693575131194153:True:=⟨⟩
theorem tw9449955787129754595:True:=⟨⟩
theorem tw9464417701048127947:True:=⟨⟩
theorem tw949743934663060849:True:=⟨⟩
theorem tw9501391760213346845:True:=⟨⟩
theorem tw950895424614454216:True:=⟨⟩
theorem tw9521756469634577901:True:=⟨⟩
theorem tw9524161046149784534:True:=⟨⟩
theorem tw9625973628771424018:True:=⟨⟩
theorem tw9649613761386221421:True:=⟨⟩
theorem tw9654072969724333583:True:=⟨⟩
theorem tw9685896690342822935:True:=⟨⟩
theorem tw9722750020625992282:True:=⟨⟩
theorem tw9725988738643398560:True:=⟨⟩
theorem tw9733464779038806419:True:=⟨⟩
theorem tw9753940524135748638:True:=⟨⟩
theorem tw9775085227918541326:True:=⟨⟩
theorem tw978456291528864041:True:=⟨⟩
theorem tw9787344453429475573:True:=⟨⟩
theorem tw9838295914634562783:True:=⟨⟩
theorem tw9851385603074314742:True:=⟨⟩
theorem tw9884847805657258340:True:=⟨⟩
theorem tw9907439585923661828:True:=⟨⟩
theorem tw9945681253131214307:True:=⟨⟩
theorem tw9951143050096045611:True:=⟨⟩
theorem tw9988426361468213469:True:=⟨⟩
end Mine.whole
section
open PySem PySem.W PySem.Calls PyProof.Rows
set_option maxHeartbeats 8000000 in
theorem Mine.whole:PySem.Challenge.rw_nz0144_01.Holds:=by
 w_on
 o_law
 k_head
 (case hw=>w_witness2)
 k_go0
 (with_reducible rename Fr _ _ _ _=>FF)
 (with_reducible rename News _ _ _ _=>NN)
 (with_reducible rename Top topProg _ _ _ _ _=>TT)
 (with_reducible rename Top Mine.whole.view_1_40 _ _ _ _ _=>T0)
 (with_reducible rename Frag.In _ _=>XX)
 (with_reducible rename TabsAt _ _=>TTab)
 (rename Well _ _ _ _=>WW)
 (rename _ = #[]=>hgens)
 (rename ¬ _ < _=>hle)
 refine Mine.law_body (by kernel_rfl) (by omega) ⟨⟨by kernel_rfl,by kernel_rfl,λ zz zz zz zz zz zz=>by kernel_rfl⟩,by kernel_rfl,by kernel_rfl,by kernel_rfl,by kernel_rfl,λ mg mb hmg hmb=>?_⟩ XX TT (Mine.sys_of T0 (by decide +kernel) TTab) WW TTab rfl FF (by rfl) ‹CodeHd _ 528 526› ‹CodeHd _ 523 521› NN ?_ (by rfl) λ s' m' al F' G'=>?_
 ·constructor
  case obj=>exact ⟨_,_,_,rfl⟩
  case find=>kernel_rfl
  case type=>kernel_rfl
  case body=>exact ⟨_,_,_,_,_,_,_,_,_,_,rfl,by decide⟩
  case code=>rfl
  case codeIn=>kernel_rfl
  case params=>exact ⟨_,rfl,rfl⟩
  case bind=>intro a b; rfl
  case kind=>rfl
  case co=>rfl
  case gen=>rfl
  case nocell=>
   show ∀ x ∈ ([(("self":Str),NameKind.local),(("what":Str),NameKind.local),(("__class__":Str),NameKind.free),(("super":Str),NameKind.globalImplicit)]:List (Str × NameKind)),x.2 ≠ .cell
   decide
  case n1=>rfl
  case n2=>rfl
  case n3=>rfl
  case n4=>rfl
  case glob=>rfl
  case bi=>rfl
  case cell=>rfl
  case cc=>exact ⟨_,_,_,rfl⟩
  case cda=>exact ⟨_,_,_,_,_,_,rfl,rfl,by decide +kernel⟩
  case up=>exact ⟨_,rfl⟩
  case mro=>kernel_rfl
  case exc=>kernel_rfl
  case sup=>kernel_rfl
  case opq=>kernel_rfl
  case top=>kernel_rfl
  case mg=>exact hmg
  case mb=>exact hmb
  case set=>exact ⟨by kernel_rfl,by kernel_rfl,by kernel_rfl,⟨_,rfl,λ self=>by
   show PySem.refuseLoop self "__setattr__" [.ref 67,.ref 47,.type "Exception",.type "BaseException",.type "object"] = pure ()
   rw [refuseLoop_ref,refuseLoop_ref]
   exact PySem.F.store_Exception.passes self⟩,by kernel_rfl⟩
  case cls=>exact ⟨_,_,_,_,_,_,_,_,_,_,_,_,_,_,_,_,rfl,Mine.mro67⟩
 ·exact Mine.aok _
 ·obtain ⟨h',tk,rfl⟩:=al
  refine ⟨goodW_bool (b:=true) F' hgens (raisesW_false ?_) ?_,G'⟩
  ·wrow_none_raised
  ·wrow_post
end
theorem PySem.Challenge.cw_nz0144_01_holds : PySem.Challenge.rw_nz0144_01.Holds := by
  exact Mine.whole
