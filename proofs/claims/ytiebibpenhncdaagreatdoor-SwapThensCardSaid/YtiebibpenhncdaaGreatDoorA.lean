/- A part of the proof: the ideal machine, and what the functions of the program answer over it. -/
import GoSem.Step
import Derived.RangeFuncLeaves
import Derived.Laws.Sem
import Derived.Laws.World
import Derived.Laws.Cells
import Derived.ChangeKeysEq
import Derived.Laws.Entries
import Derived.Laws.CopyRow
import Derived.RangeFuncRecord
import Derived.MapKept
import Derived.Laws.StructEq
import Derived.Laws.Strings
import Derived.Laws.Concat
import Derived.Laws.Cover1
import Derived.Laws.MakeOwn
import Derived.Deep.AppendSrc
set_option linter.unusedSimpArgs false
set_option linter.unusedVariables false
set_option linter.unusedSectionVars false
namespace Go.Ideal
noncomputable section
def bitsF (f:Nat):Nat→List Bool:=
 Nat.rec (motive:=fun _=>Nat→List Bool) (fun _=>[]) (fun _ ih n=>Nat.rec (motive:=fun _=>List Bool) [] (fun _ _=>Nat.beq (n%2) 1::ih (n / 2)) n) f
def bits (n:Nat):List Bool:=bitsF n n
inductive PT (α:Type) where
 |nil
 |node (l:PT α) (v:Option α) (r:PT α)
def PT.get {α:Type} (t:PT α) (p:List Bool):Option α:=
 List.rec (motive:=fun _=>PT α→Option α) (fun t=>PT.rec (motive:=fun _=>Option α) none (fun _ v _ _ _=>v) t)
  (fun b _ ih t=>PT.rec (motive:=fun _=>Option α) none (fun l _ r _ _=>Bool.rec (motive:=fun _=>Option α) (ih l) (ih r) b) t) p t
def PT.set {α:Type} (t:PT α) (p:List Bool) (a:α):PT α:=
 List.rec (motive:=fun _=>PT α→PT α) (fun t=>PT.rec (motive:=fun _=>PT α) (.node .nil (some a) .nil) (fun l _ r _ _=>.node l (some a) r) t)
  (fun b _ ih t=>PT.rec (motive:=fun _=>PT α) (Bool.rec (motive:=fun _=>PT α) (.node (ih .nil) none .nil) (.node .nil none (ih .nil)) b)
    (fun l v r _ _=>Bool.rec (motive:=fun _=>PT α) (.node (ih l) v r) (.node l v (ih r)) b) t) p t
abbrev za:=PT Value
def zc:Nat:=18446744073709551616
def roE:Nat:=18446744073709551616
inductive CO where
 |t (p:List Bool)
 |c (v:Value)
inductive LK where
 |int|bool|str
inductive EK where
 |other|bool|ptr|slice|map|func|iface (g:Bool)|leaves (l:List Nat)|leavesK (l:List (Nat×LK))
inductive KK where
 |int|str|leaves (l:List Nat)
inductive CB where
 |len|lenStr|lenMap|append (size bytes:Nat)|min|max|clear (z:List Value)|copy (size:Nat)
inductive COp where
 |mv (x:CO)
 |pick (c a b:CO)
 |alloc (zero:List Value)
 |box (x:CO)
 |build (zero:List Value) (parts:List (Nat×Nat×CO))
 |buildSlice (len size:Nat) (zero:List Value) (parts:List (Nat×CO))
 |load1 (a:CO)
 |loadN (n:Nat) (a:CO)
 |store (n:Nat) (a x:CO)
 |nilCheck (x:CO)
 |bin (op:BinOp) (ek:EK) (x y:CO)
 |un (op:UnOp) (x:CO)
 |conv (k:IntKind) (x:CO)
 |makeFunc (fn:Fn) (first captured:List CO)
 |makeMap
 |makeSlice (size bytes:Nat) (zero:List Value) (l c:CO)
 |slice (size:Nat) (x:CO) (lo hi:Option CO)
 |fieldAddr (off:Nat) (x:CO)
 |indexAddr (size:Nat) (x i:CO)
 |indexArr (n size:Nat) (x i:CO)
 |lookup (kk:KK) (zero:Value) (ok:Bool) (x i:CO)
 |mapUpdate (kk:KK) (m k x:CO)
 |extract (x:CO) (i:Nat)
 |call (f:CO) (args:List CO)
 |blt (b:CB) (args:List CO)
 |strIdx (x i:CO)
 |panic (x:CO)
 |recov
 |mkI (t:TypeId) (x:CO)
 |assertT (t:TypeId) (z:Value) (ok:Bool) (x:CO)
 |invoke (tbl:List (Nat×Nat)) (x:CO) (args:List CO)
 |strSlice (x:CO) (lo hi:Option CO)
 |stuck
 |s2b (x:CO)
 |b2s (x:CO)
 |fld (off:Nat) (n:Option Nat) (x:CO)
 |slice3 (size:Nat) (x:CO) (lo:Option CO) (hi mx:CO)
structure CI where
 dst:Option (List Bool)
 op:COp
 guard:Option (List Bool×Bool)
 lo:Nat
inductive CC where
 |skip
 |ops (l:List CI)
 |draw (l:List CI)
 |draw2 (l:List CI) (x y:CI)
 |seq (a:CC) (L:List (List Bool)) (b:CC)
 |cond (c:CO) (a b:CC)
 |block (id:Nat) (b:CC)
 |loop (L:List (List Bool)) (b:CC)
 |rangeFunc (rid:Nat) (L:List (List Bool)) (f:CO) (ps:List (List Bool)) (assign body:CC)
 |exit (id:Nat)
 |ret
 |scope (b:CC) (l1:Nat) (r1:CC) (l2:Nat) (r2:CC)
inductive CR where
 |tmp (p:List Bool)
 |cell (n:Option Nat) (p:List Bool)
def zA:CC→CC
 |.skip=>.skip
 |.ops l=>.ops l
 |.draw l=>.draw l
 |.draw2 l x y=>.draw2 l x y
 |.seq a _ b=>.seq (zA a) [] (zA b)
 |.cond c a b=>.cond c (zA a) (zA b)
 |.block i b=>.block i (zA b)
 |.loop _ b=>.loop [] (zA b)
 |.rangeFunc _ _ f ps as b=>.rangeFunc 0 [] f ps (zA as) (zA b)
 |.exit i=>.exit i
 |.ret=>.ret
 |.scope b l1 r1 l2 r2=>.scope (zA b) l1 (zA r1) l2 (zA r2)
def zci (ps:List (List Bool)) (s:za):za:=
 List.rec (motive:=fun _=>za) .nil (fun p _ r=>match s.get p with|some v=>r.set p v|none=>r) ps
def zb5 (L:List (List Bool)) (s:za):za:=List.rec (motive:=fun _=>za) s (fun _ _ _=>zci L s) L
def zdW:Value→Bool
 |.bool _=>true
 |.int _ _=>true
 |.string _=>true
 |.pointer none=>true
 |.slice none 0 0=>true
 |.map none=>true
 |.nilFunc=>true
 |.nilIface=>true
 |_=>false
def zfK:Value→Bool
 |.agg cs=>cs.toList.all zdW
 |v=>zdW v
def co:Operand→Option CO
 |.tmp t=>some (.t (bits t))
 |.const v=>if zfK v then some (.c v) else none
 |.global _=>none
 |.func f=>some (.c (.func (.func f) #[] #[]))
def coO:Option Operand→Option (Option CO)
 |none=>some none
 |some x=>(co x).map some
def allO {α β:Type} (f:α→Option β):List α→Option (List β)
 | []=>some []
 |a::r=>(f a).bind fun b=>(allO f r).map (b:: ·)
def zdB (P:Program) (t:TypeId):Option (Option Nat):=
 (P.underlying t).bind fun d=>match d with
   |.struct _|.array _ _=>(P.info? t).map (some ·.size)
   |_=>some none
def zbC (P:Program) (t:TypeId):Option (List Value):=(P.info? t).bind fun i=>i.zero.bind fun z=>if z.cells.toList.all zdW then some z.cells.toList else none
def zJ (P:Program) (t:TypeId):Option Nat:=(P.info? t).map (·.size)
def zis (P:Program) (t:TypeId):Bool:=
 match P.underlying t with
 |some (.int _)=>true
 |_=>false
def zf0 (P:Program) (t:TypeId):Option (List Nat):=(P.underlying t).bind fun u=>match u with
    |.struct fs=>if P.stoodInHeld t then none else if fs.toList.all (fun f=>f.name != "_" &&zis P f.type) then some (fs.toList.map (·.offset)) else none
    |.array n e=>if zis P e&&(zJ P e==some 1) then some (List.range n) else none
    |_=>none
def inLeaf (o s:Nat) (l:List (Nat×LK)):Option (List (Nat×LK)):=if l.all (fun x=>Nat.ble o x.1&&Nat.blt x.1 (o+s)) then some l else none
def leavesK (P:Program):Nat→Nat→TypeId→Option (List (Nat×LK))
 |0,_,_=>none
 |n+1,o,t=>(P.underlying t).bind fun u=>match u with
  |.int _=>some [(o,.int)]
  |.bool=>some [(o,.bool)]
  |.string=>some [(o,.str)]
  |.struct fs=>if P.stoodInHeld t then none else(allO (fun(f:Field)=>if f.name== "_" then none else(zJ P f.type).bind fun s=>(leavesK P n (o+f.offset) f.type).bind (inLeaf (o+f.offset) s)) fs.toList).map List.flatten
  |.array m e=>(zJ P e).bind fun s=>(allO (fun i=>(leavesK P n (o+i*s) e).bind (inLeaf (o+i*s) s)) (List.range m)).map List.flatten
  |_=>none
def zfb (P:Program) (t:TypeId):Bool:=match P.underlying t with
 |some (.struct _)=>true
 |some (.array _ _)=>true
 |_=>false
def zcU (P:Program) (t:TypeId):Option KK:=(P.underlying t).bind fun u=>match u with
    |.int _=>some .int
    |.string=>some .str
    |_=>(zf0 P t).map .leaves
def zh3:Operand→Bool
 |.const _=>true
 |_=>false
def zlB (P:Program) (t:TypeId) (x y:Operand):EK:=
 match P.underlying t with
 |some .bool=>.bool
 |some (.pointer _)=>.ptr
 |some (.slice _)=>.slice
 |some (.map _ _)=>.map
 |some (.func _ _ _)=>.func
 |some (.interface ms)=>.iface (ms.isEmpty||zh3 x||zh3 y)
 |_=>match zf0 P t with
  |some l=>if P.eqGuardType P.depth t then .other else .leaves l
  |none=>match leavesK P 6 0 t with
   |some l=>if P.eqGuardType P.depth t|| !zfb P t then .other else .leavesK l
   |none=>.other
def zbU (P:Program) (b:Builtin) (ts:Array TypeId):Option CB:=
 match b with
 |.len=>(ts[0]?).bind fun t=>(P.underlying t).bind fun u=>match u with
  |.map _ _=>some .lenMap
  |.string=>some .lenStr
  |.slice _=>some .len
  |_=>none
 |.append=>match ts.toList with
  | [t,t1]=>(P.underlying t).bind fun u=>(P.underlying t1).bind fun u1=>match u,u1 with
    |.slice e,.slice _=>(P.info? e).bind fun i=>i.zero.bind fun z=>if i.size=0∨i.bytes=0∨z.cells.size≠i.size then none else some (.append i.size i.bytes)
    |.slice e,.string=>(P.info? e).bind fun i=>i.zero.bind fun z=>if i.size=0∨i.bytes=0∨z.cells.size≠i.size then none else some (.append i.size i.bytes)
    |_,_=>none
  |_=>none
 |.min=>some .min
 |.max=>some .max
 |.clear=>(ts[0]?).bind fun t=>(P.underlying t).bind fun u=>match u with
  |.slice e=>(zbC P e).bind fun z=>if z.length=0 then none else some (.clear z)
  |_=>none
 |.copy=>(ts[0]?).bind fun t=>(P.underlying t).bind fun u=>match u with
  |.slice e=>(zJ P e).bind fun s=>if s=0 then none else some (.copy s)
  |_=>none
 |_=>none
def zi0 (P:Program) (t:TypeId) (nm:String):Option FuncId:=(P.info? t).bind fun i=>(i.methods.find? (fun m=>m.name==nm)).bind fun m=>
 if m.path.toList.isEmpty then m.func.bind fun f=>(P.underlying t).bind fun u=>match u,f.2 with
  |.pointer _,true=>some f.1
  |.pointer _,false=>none
  |_,false=>some f.1
  |_,true=>none
 else none
def zhh (P:Program) (nm:String):List (Nat×Nat):=(List.range P.types.size).filterMap fun t=>(zi0 P t nm).map fun f=>(t,f)
def isRecover:Builtin→Bool
 |.recover=>true
 |_=>false
def zbk (P:Program) (o:Oper):Option COp:=
 match o.op with
 |.move x|.assign x=>(co x).map .mv
 |.pick c a b=>(co c).bind fun c=>(co a).bind fun a=>(co b).map fun b=>.pick c a b
 |.alloc e=>(zbC P e).map .alloc
 |.box _ x=>(co x).map .box
 |.build t parts=>(zbC P t).bind fun z=>(P.underlying t).bind fun u=>match u with
  |.struct fs=>if fs.toList.all (fun f=>(zJ P f.type).isSome) then(allO (fun(p:Nat×Operand)=>(fs[p.1]?).bind fun f=>(zJ P f.type).bind fun s=>(co p.2).map fun x=>(f.offset,s,x)) parts.toList).map (.build z) else none
  |.array _ e=>(zJ P e).bind fun s=>(allO (fun(p:Nat×Operand)=>(co p.2).map fun x=>(p.1*s,s,x)) parts.toList).map (.build z)
  |_=>none
 |.buildSlice t len parts=>(P.underlying t).bind fun u=>match u with
  |.slice e=>(zJ P e).bind fun s=>if len*s>2^24 then none else(zbC P e).bind fun z=>if z.length≠s then none else if¬(len<zc) then none else
    (allO (fun(p:Nat×Operand)=>(co p.2).map fun x=>(p.1,x)) parts.toList).map (.buildSlice len s z)
  |_=>none
 |.load t a=>(co a).bind fun a=>(zdB P t).map fun s=>match s with|some n=>.loadN n a|none=>.load1 a
 |.store t a x=>(co a).bind fun a=>(co x).bind fun x=>(zJ P t).bind fun n=>if n=0 then none else some (.store n a x)
 |.nilCheck x=>(co x).map .nilCheck
 |.binOp op t x y _=>(co x).bind fun a=>(co y).map fun b=>.bin op (zlB P t x y) a b
 |.unOp op _ x=>(co x).map (.un op)
 |.convert s d x=>(co x).bind fun x=>(P.underlying s).bind fun a=>(P.underlying d).bind fun b=>match a,b with
  |.int _,.int k=>some (.conv k x)
  |.string,.slice e=>(P.underlying e).bind fun u=>match u with
   |.int .u8=>some (.s2b x)
   |_=>none
  |.slice e,.string=>(P.underlying e).bind fun u=>match u with
   |.int .u8=>some (.b2s x)
   |_=>none
  |_,_=>none
 |.makeFunc fn first cap=>match fn with
  |.func _=>(allO co first.toList).bind fun f=>(allO co cap.toList).map fun c=>.makeFunc fn f c
  |_=>none
 |.makeMap _ r=>match r with
  |none=>some .makeMap
  |some _=>none
 |.makeSlice t l c=>(co l).bind fun l=>(co c).bind fun c=>(P.underlying t).bind fun u=>match u with
  |.slice e=>(P.info? e).bind fun i=>(zbC P e).bind fun z=>if z.length≠i.size then none else some (.makeSlice i.size i.bytes z l c)
  |_=>none
 |.slice t x lo hi mx=>(co x).bind fun x=>(coO lo).bind fun lo=>(coO hi).bind fun hi=>(P.underlying t).bind fun u=>match u,mx with
  |.slice e,none=>(zJ P e).map fun s=>.slice s x lo hi
  |.slice e,some mx=>(co mx).bind fun mx=>hi.bind fun hi=>(zJ P e).map fun s=>.slice3 s x lo hi mx
  |.string,none=>some (.strSlice x lo hi)
  |_,_=>none
 |.fieldAddr s x f=>(co x).bind fun x=>(P.underlying s).bind fun u=>match u with
  |.struct fs=>(fs[f]?).bind fun fl=>(zJ P fl.type).bind fun sz=>if sz=0 then none else some (.fieldAddr fl.offset x)
  |_=>none
 |.indexAddr t x i=>(co x).bind fun x=>(co i).bind fun i=>(P.underlying t).bind fun u=>match u with
  |.slice e=>(zJ P e).map fun s=>.indexAddr s x i
  |.array n e=>(zJ P e).map fun s=>.indexArr n s x i
  |_=>none
 |.lookup t x i ok=>(co x).bind fun x=>(co i).bind fun i=>(P.underlying t).bind fun u=>match u with
  |.map k e=>(zcU P k).bind fun l=>(P.info? e).bind fun j=>j.zero.bind fun z=>if zfK z then some (.lookup l z ok x i) else none
  |_=>none
 |.mapUpdate t m k x|.insert t m k x=>(co m).bind fun m=>(co k).bind fun k=>(co x).bind fun x=>(P.underlying t).bind fun u=>match u with
  |.map kt _=>(zcU P kt).map fun l=>.mapUpdate l m k x
  |_=>none
 |.extract x i=>(co x).map fun x=>.extract x i
 |.field t x i=>(co x).bind fun x=>(P.underlying t).bind fun u=>match u with
  |.struct fs=>(fs[i]?).bind fun f=>(zdB P f.type).map fun n=>.fld f.offset n x
  |_=>none
 |.index t x i=>(co x).bind fun x=>(co i).bind fun i=>(P.underlying t).bind fun u=>match u with
  |.string=>some (.strIdx x i)
  |_=>none
 |.call c=>match c.callee with
  |.value f=>(co f).bind fun f=>(allO co c.args.toList).map fun as=>.call f as
  |.builtin b=>if isRecover b then some .recov else(zbU P b c.argTypes).bind fun cb=>(allO co c.args.toList).map fun as=>.blt cb as
  |.invoke r nm=>(co r).bind fun r=>(allO co c.args.toList).map fun as=>.invoke (zhh P nm) r as
 |.panic x=>(co x).map .panic
 |.makeInterface t x=>(P.underlying t).bind fun u=>match u with
  |.interface _=>none
  |_=>(co x).map fun x=>.mkI t x
 |.typeAssert x _ d ok=>(P.underlying d).bind fun u=>match u with
  |.interface _=>none
  |_=>(co x).bind fun x=>match ok with
   |false=>some (.assertT d (.bool false) false x)
   |true=>(P.info? d).bind fun j=>j.zero.bind fun z=>if zfK z then some (.assertT d z true x) else none
 |_=>none
def isDefer:Op→Bool
 |.defer _=>true
 |_=>false
def zca (P:Program) (o:Oper):Option COp:=if isDefer o.op then none else some ((zbk P o).getD .stuck)
def dstOf (ops:Array Oper) (j:Nat):Option (List Bool):=((ops[j]?).bind (·.dst)).map bits
def zu (P:Program) (N:Nat) (ops:Array Oper) (o:Oper):Option CI:=
 if o.dst.all (· <N) then
 (zca P o).bind fun op=>match o.guard with
   |none=>some {dst:=o.dst.map bits,op,guard:=none,lo:=0}
   |some (j,w)=>(dstOf ops j).map fun p=>{dst:=o.dst.map bits,op,guard:=some (p,w),lo:=0}
 else none
def isW:COp→Bool
 |.store _ _ _=>true
 |.mapUpdate _ _ _ _=>true
 |.blt (.append _ _) _=>true
 |.blt (.clear _) _=>true
 |.blt (.copy _) _=>true
 |.call _ _=>true
 |.panic _=>true
 |.recov=>true
 |.invoke _ _ _=>true
 |.s2b _=>true
 |_=>false
def isRd:COp→Bool
 |.load1 _=>true
 |.loadN _ _=>true
 |.lookup _ _ _ _ _=>true
 |.slice _ _ _ _=>true
 |.slice3 _ _ _ _ _=>true
 |.blt .lenMap _=>true
 |.b2s _=>true
 |_=>false
def beqP:List Bool→List Bool→Bool
 | [],[]=>true
 |a::l,b::m=>(a==b)&&beqP l m
 |_,_=>false
def zh:CO→List (List Bool)
 |.t p=>[p]
 |.c _=>[]
def zdX:Option CO→List (List Bool)
 |none=>[]
 |some x=>zh x
def zf:COp→List (List Bool)
 |.mv x=>zh x
 |.pick c a b=>zh c++zh a++zh b
 |.alloc _=>[]
 |.box x=>zh x
 |.build _ ps=>ps.flatMap fun p=>zh p.2.2
 |.buildSlice _ _ _ ps=>ps.flatMap fun p=>zh p.2
 |.load1 a=>zh a
 |.loadN _ a=>zh a
 |.store _ a x=>zh a++zh x
 |.nilCheck x=>zh x
 |.bin _ _ x y=>zh x++zh y
 |.un _ x=>zh x
 |.conv _ x=>zh x
 |.makeFunc _ a b=>a.flatMap zh++b.flatMap zh
 |.makeMap=>[]
 |.makeSlice _ _ _ l c=>zh l++zh c
 |.slice _ x lo hi=>zh x++zdX lo++zdX hi
 |.fieldAddr _ x=>zh x
 |.indexAddr _ x i=>zh x++zh i
 |.indexArr _ _ x i=>zh x++zh i
 |.lookup _ _ _ x i=>zh x++zh i
 |.mapUpdate _ m k x=>zh m++zh k++zh x
 |.extract x _=>zh x
 |.call f as=>zh f++as.flatMap zh
 |.blt _ as=>as.flatMap zh
 |.strIdx x i=>zh x++zh i
 |.panic x=>zh x
 |.recov=>[]
 |.mkI _ x=>zh x
 |.assertT _ _ _ x=>zh x
 |.invoke _ x as=>zh x++as.flatMap zh
 |.strSlice x lo hi=>zh x++zdX lo++zdX hi
 |.stuck=>[]
 |.s2b x=>zh x
 |.b2s x=>zh x
 |.fld _ _ x=>zh x
 |.slice3 _ x lo hi mx=>zh x++(zdX lo++(zh hi++zh mx))
def zdf:Option (List Bool×Bool)→List (List Bool)
 |none=>[]
 |some g=>[g.1]
def zbs (c:CI):List (List Bool):=zdf c.guard++c.dst.toList++zf c.op
def ancOf (d:List Nat) (o:Oper):Nat:=(o.after.toList.filter (Region.binds .any)).foldl (fun s e=>s ||| 2^e.on ||| d.getD e.on 0) 0
def ancs (ops:List Oper):List Nat:=ops.foldl (fun d o=>d++[ancOf d o]) []
def canonL (anc:List Nat) (all:List Nat):List Nat→Nat→List Nat
 | [],seen=>all.filter fun i=> !seen.testBit i
 |k::ws,seen=>if seen.testBit k then canonL anc all ws seen else
  let m:=anc.getD k 0
  all.filter (fun i=>m.testBit i&& !seen.testBit i)++k::canonL anc all ws (seen ||| m ||| 2^k)
def namesOk (anc:List Nat) (cis:List CI) (j:Nat) (c:CI):Bool:=(zbs c).all fun x=>cis.zipIdx.all fun(d,i)=>match d.dst with
 |none=>true
 |some y=> !beqP x y||i==j||(anc.getD j 0).testBit i||(anc.getD i 0).testBit j
def isFl:COp→Bool
 |.alloc _=>false
 |.box _=>false
 |.buildSlice _ _ _ _=>false
 |.makeMap=>false
 |.makeSlice _ _ _ _ _=>false
 |op=> !isW op&& !isRd op
def zj2 (anc:List Nat) (cis:List CI) (j:Nat) (i:Nat):Bool:=match cis[i]? with
 |some d=>isFl d.op||(anc.getD j 0).testBit i
 |none=>true
def zhZ (anc:List Nat) (cis:List CI):List Nat→Nat→List Nat→Bool
 | [],_,_=>true
 |j::r,seen,seenL=>match cis[j]? with
  |none=>false
  |some c=> !seen.testBit j&&Nat.beq (anc.getD j 0 &&& seen) (anc.getD j 0)&&(!isW c.op||seenL.all (zj2 anc cis j))&&namesOk anc cis j c&&zhZ anc cis r (seen ||| 2^j) (j::seenL)
def loOf (anc:List Nat) (ws:List Nat) (j:Nat):Nat:=(ws.filter fun k=>(anc.getD j 0).testBit k).length
def wsOf (cis:List CI):List Nat:=(List.range cis.length).filter fun i=>match cis[i]? with|some c=>isW c.op|none=>false
def zdm (anc:List Nat) (cis:List CI) (order:List Nat):Option (List CI):=allO (fun j=>(cis[j]?).map fun c=>{c with lo:=loOf anc (wsOf cis) j}) order
def lastOk (anc:List Nat) (cis:List CI) (rest:List Nat) (x y:Nat) (c:CI):Bool:=
 (match c.op with|.store _ _ _=>true|_=>false)&&c.dst.isNone&&c.guard.isNone&&rest.all (zj2 anc cis x)&& !(anc.getD x 0).testBit y&& !(anc.getD x 0).testBit x&&rest.all (fun j=> !(anc.getD j 0).testBit x)&&
 (zf c.op).all fun p=>cis.zipIdx.all fun(d,i)=>match d.dst with
   |none=>true
   |some q=> !beqP p q||(anc.getD x 0).testBit i
def draw2In (anc:List Nat) (cis:List CI) (rest:List Nat) (x y:Nat):Option CC:=
 (cis[x]?).bind fun c=>(cis[y]?).bind fun d=>
 let order:=canonL anc rest ((wsOf cis).filter fun i=> !(Nat.beq i x)&& !(Nat.beq i y)) 0
 if zhZ anc cis order 0 []&&rest.all (fun i=>order.any (Nat.beq i))&&order.all (fun i=>rest.any (Nat.beq i))&&lastOk anc cis rest x y c&&lastOk anc cis rest y x d&& !Nat.beq x y then
  (zdm anc cis order).map fun l=>.draw2 l c d else none
def zez (anc:List Nat) (cis:List CI):Option CC:=
 let all:=List.range cis.length
 let order:=canonL anc all (wsOf cis) 0
 if zhZ anc cis order 0 []&&Nat.beq order.length cis.length&&all.all (fun i=>order.any (Nat.beq i)) then(zdm anc cis order).map .draw else
 match(wsOf cis).reverse with
  |y::x::_=>draw2In anc cis (all.filter fun i=> !(Nat.beq i x)&& !(Nat.beq i y)) x y
  |_=>none
def zfk:CC:=.cond (.c .nilFunc) .skip .skip
def scopeOf (c:CC):List (Nat×CC)→CC
 | []=>c
 | [(l,r)]=>.scope c l r l r
 | [(l,r),(m,q)]=>match Nat.beq l m with|true=>zfk|false=>.scope c l r m q
 |_=>zfk
def zcv (l:Nat):Nat:=2*l+1
mutual
def ze (P:Program) (N:Nat):Code→Option CC
 |.skip=>some .skip
 |.region _ ops d=>(allO (zu P N ops) ops.toList).bind fun l=>match d with
  |false=>some (.ops l)
  |true=>some ((if ops.toList.zipIdx.all (fun x=>(x.1.after.toList.filter (Region.binds .any)).all fun e=>Nat.blt e.on x.2) then zez (ancs ops.toList) l else none).getD zfk)
 |.seq a b=>(ze P N a).bind fun a=>(ze P N b).map fun b=>.seq a [] b
 |.cond c a b=>(co c).bind fun c=>(ze P N a).bind fun a=>(ze P N b).map fun b=>.cond c a b
 |.block id b=>(ze P N b).map (.block (2*id))
 |.loop b=>(ze P N b).map (.loop [])
 |.rangeFunc f ps as b=>if ps.toList.all (· <N) then(co f).bind fun f=>(ze P N as).bind fun as=>(ze P N b).map fun b=>.rangeFunc 0 [] f (ps.toList.map bits) as b else none
 |.exit id=>some (.exit (2*id))
 |.ret=>some .ret
 |.label _=>some .skip
 |.scope b=>(ze P N b).bind fun c=>(labC P N b).map (scopeOf c)
 |.goto l=>some (.exit (zcv l))
 |.refuse _=>some zfk
def labC (P:Program) (N:Nat):Code→Option (List (Nat×CC))
 |.label l=>some [(l,.skip)]
 |.seq a b=>(labC P N a).bind fun la=>(labC P N b).bind fun lb=>match la with
  | []=>some lb
  |x::la=>(ze P N b).map fun cb=>(x::la).map (fun y=>(y.1,.seq y.2 [] cb))++lb
 |_=>some []
end
def zbf (P:Program):ResultVar→Option CR
 |.tmp t=>some (.tmp (bits t))
 |.cell a t=>(zdB P t).map fun n=>.cell n (bits a)
structure RC where
 rid:Nat
 L:List (List Bool)
 ps:List (List Bool)
 as:CC
 b:CC
inductive IObj where
 |cells (cs:List Value) (esz:Nat)
 |map (es:List (Value×Value×Nat)) (clock:Nat)
 |loop (state:LoopState) (pending:Option CC) (slots:za) (rc:RC)
 |dead
 |glob (b:Nat) (x:Value)
structure H where
 next:Nat
 mem:PT IObj
def H.get (h:H) (i:Nat):Option IObj:=h.mem.get (bits i)
def H.put (h:H) (i:Nat) (o:IObj):H:=⟨h.next,h.mem.set (bits i) o⟩
def H.new (h:H) (o:IObj):H:=⟨h.next+1,h.mem.set (bits h.next) o⟩
def H.empty:H:=⟨0,.nil⟩
structure Dfr where
 f:CO
 args:List CO
 L:List (List Bool)
 rest:CC
structure zb where
 ntmps:Nat
 results:List CR
 body:CC
 dfr:Option Dfr:=none
 prim:Option (List Value→H→Option (Value×H)):=none
def stripD (d:Dfr):Dfr:={d with L:=[],rest:=zA d.rest}
def zfl (cf:zb):zb:={cf with body:=zA cf.body,dfr:=cf.dfr.map stripD}
def deferIn:List Oper→Option (List Oper×Call×List Oper)
 | []=>none
 |o::l=>match o.op,o.guard,o.dst with
  |.defer c,none,none=>some ([],c,l)
  |_,_,_=>(deferIn l).map fun x=>(o::x.1,x.2)
def seqD (a:CC):CC×Option Dfr→CC×Option Dfr:=fun x=>(.seq a [] x.1,x.2)
def zbv (P:Program) (N:Nat):Code→Option (CC×Option Dfr)
 |.seq (.region id ops false) b=>match deferIn ops.toList with
  |none=>(ze P N (.region id ops false)).bind fun a=>(zbv P N b).map (seqD a)
  |some (pre,c,post)=>match c.callee with
   |.value f=>(co f).bind fun f=>(allO co c.args.toList).bind fun as=>(allO (zu P N ops) pre).bind fun pre=>(allO (zu P N ops) post).bind fun post=>
     (ze P N b).map fun b=>(.ops pre,some ⟨f,as,[],.seq (.ops post) [] b⟩)
   |_=>none
 |.seq a b=>(ze P N a).bind fun a=>(zbv P N b).map (seqD a)
 |c=>(ze P N c).map fun c=>(c,none)
def zbp (P:Program) (f:Func):Option zb:=
 if f.name== "runtime.NumGoroutine" then none else f.body.bind fun b=>(zbv P f.ntmps b).bind fun c=>(allO (zbf P) f.results.toList).map fun rs=>{ntmps:=f.ntmps,results:=rs,body:=c.1,dfr:=c.2}
def zhO {α:Type} (n:Nat) (l:List α):Option (List α):=
 Nat.rec (motive:=fun _=>List α→Option (List α)) (fun _=>some []) (fun _ ih l=>List.rec (motive:=fun _=>Option (List α)) none (fun a r _=>(ih r).map (a:: ·)) l) n l
def zey {α:Type} (n:Nat) (l:List α):List α:=
 Nat.rec (motive:=fun _=>List α→List α) (fun l=>l) (fun _ ih l=>List.rec (motive:=fun _=>List α) [] (fun _ r _=>ih r) l) n l
def poison:Value:=.complex .f32 0 0
def clean1:Value→Bool
 |.complex _ _ _=>false
 |_=>true
def cleanL (l:List Value):Option (List Value):=if l.all clean1 then some l else none
def zkJ (n:Nat) (l:List Value):Option (List Value):=(zhO n l).bind cleanL
def zbt:List Value→Nat→List Value→Option (List Value)
 |cs,_,[]=>some cs
 |_::cs,0,v::vs=>(zbt cs 0 vs).map (v:: ·)
 |c::cs,n+1,v::vs=>(zbt cs n (v::vs)).map (c:: ·)
 | [],_,_::_=>none
def isCell:Value→Bool
 |.agg _=>false
 |.tuple _=>false
 |_=>true
def readObj (off n:Nat):IObj→Option (List Value)
 |.cells cs _=>zkJ n (zey off cs)
 |_=>none
def H.readN (h:H) (i off n:Nat):Option (List Value):=(h.get i).bind (readObj off n)
def zfR (h:H) (i off:Nat) (vs:List Value):IObj→Option H
 |.cells cs esz=>if vs.all isCell&& !Nat.beq esz roE then(zbt cs off vs).map fun cs'=>h.put i (.cells cs' esz) else none
 |_=>none
def H.write (h:H) (i off:Nat) (vs:List Value):Option H:=(h.get i).bind (zfR h i off vs)
def zM:Value:=.tuple #[]
abbrev R:=Option (Value×H)
def CO.ev (s:za) (x:CO):Option Value:=CO.rec (motive:=fun _=>za→Option Value) (fun p s=>s.get p) (fun v _=>some v) x s
def evL (s:za) (l:List CO):Option (List Value):=
 List.rec (motive:=fun _=>Option (List Value)) (some []) (fun x _ ih=>(x.ev s).bind fun v=>ih.map (v:: ·)) l
def evO (s:za):Option CO→Option (Option Value)
 |none=>some none
 |some x=>(x.ev s).map some
def zW:Value→List Value
 |.agg cs=>cs.toList
 |v=>[v]
def ziS (cells:List Value):List (Nat×Nat×Value)→Option (List Value)
 | []=>some cells
 | (off,size,v)::r=>if Nat.beq (zW v).length size&&Nat.blt 0 size then(zbt cells off (zW v)).bind fun c=>ziS c r else none
def zbr (z:List Value):Nat→List Value
 |0=>[]
 |n+1=>z++zbr z n
def ltI (a b:Int):Bool:=match a,b with
 |.ofNat m,.ofNat n=>Nat.blt m n
 |.negSucc m,.negSucc n=>Nat.blt n m
 |.negSucc _,.ofNat _=>true
 |.ofNat _,.negSucc _=>false
def eqI (a b:Int):Bool:=match a,b with
 |.ofNat m,.ofNat n=>Nat.beq m n
 |.negSucc m,.negSucc n=>Nat.beq n m
 |_,_=>false
def z6:List UInt8→List UInt8→Bool
 | [],[]=>true
 |a::l,b::m=>Nat.beq a.toNat b.toNat&&z6 l m
 |_,_=>false
def zbL:List UInt8→List UInt8→Bool
 |_,[]=>false
 | [],_::_=>true
 |a::l,b::m=>Nat.blt a.toNat b.toNat||(Nat.beq a.toNat b.toNat&&zbL l m)
def strB (a b:List UInt8):BinOp→Option Value
 |.eql=>some (.bool (z6 a b))
 |.neq=>some (.bool (!(z6 a b)))
 |.lss=>some (.bool (zbL a b))
 |.leq=>some (.bool (zbL a b||z6 a b))
 |.gtr=>some (.bool (!(zbL a b||z6 a b)))
 |.geq=>some (.bool (!(zbL a b)))
 |.add=>if Nat.ble (a.length+b.length) 1073741824 then some (.string ⟨⟨a++b⟩⟩) else none
 |_=>none
def zg6:Value→Value→Option Bool
 |.int k a,.int k' b=>if k=k' then some (eqI a b) else none
 |_,_=>none
def sameAt (xs ys:List Value):List Nat→Option Bool
 | []=>some true
 |i::r=>(xs[i]?).bind fun x=>(ys[i]?).bind fun y=>(zg6 x y).bind fun b=>(sameAt xs ys r).map fun c=>b&&c
def sameK:LK→Value→Value→Option Bool
 |.int,.int k a,.int k' b=>if k=k' then some (eqI a b) else none
 |.bool,.bool a,.bool b=>some (a==b)
 |.str,.string a,.string b=>some (z6 a.data.toList b.data.toList)
 |_,_,_=>none
def zdK (xs ys:List Value):List (Nat×LK)→Option Bool
 | []=>some true
 |i::r=>(xs[i.1]?).bind fun x=>(ys[i.1]?).bind fun y=>(sameK i.2 x y).bind fun b=>(zdK xs ys r).map fun c=>b&&c
def eqV:EK→Value→Value→Option Bool
 |.ptr,.pointer none,.pointer b=>some b.isNone
 |.ptr,.pointer (some _),.pointer none=>some false
 |.slice,.slice none _ _,.slice b _ _=>some b.isNone
 |.slice,.slice (some _) _ _,.slice none _ _=>some false
 |.map,.map none,.map b=>some b.isNone
 |.map,.map (some _),.map none=>some false
 |.func,.nilFunc,.nilFunc=>some true
 |.func,.nilFunc,.func _ _ _=>some false
 |.func,.func _ _ _,.nilFunc=>some false
 |.iface true,.nilIface,.nilIface=>some true
 |.iface _,.nilIface,.iface _ _=>some false
 |.iface _,.iface _ _,.nilIface=>some false
 |.bool,.bool a,.bool b=>some (a==b)
 |.leaves l,.agg xs,.agg ys=>sameAt xs.toList ys.toList l
 |.leavesK l,.agg xs,.agg ys=>zdK xs.toList ys.toList l
 |_,_,_=>none
def smallOf:IntKind→Nat
 |.i8=>127|.i16=>32767|.i32=>2147483647|.i64=>9223372036854775807
 |.u8=>255|.u16=>65535|.u32=>4294967295|.u64=>18446744073709551615
def zkG (k:IntKind) (n:Int):Int:=match n with
 |.ofNat m=>match Nat.ble m (smallOf k) with|true=>.ofNat m|false=>k.wrap (.ofNat m)
 |.negSucc m=>k.wrap (.negSucc m)
def intB (k:IntKind) (a b:Int):BinOp→Option Value
 |.add=>some (.int k (zkG k (a+b)))
 |.sub=>some (.int k (zkG k (a - b)))
 |.mul=>some (.int k (zkG k (a*b)))
 |.quo=>if eqI b 0 then none else some (.int k (zkG k (a.tdiv b)))
 |.rem=>if eqI b 0 then none else some (.int k (a.tmod b))
 |.eql=>some (.bool (eqI a b))
 |.neq=>some (.bool (!(eqI a b)))
 |.lss=>some (.bool (ltI a b))
 |.leq=>some (.bool (!(ltI b a)))
 |.gtr=>some (.bool (ltI b a))
 |.geq=>some (.bool (!(ltI a b)))
 |.and=>some (.int k (k.wrap ((BitVec.ofInt k.bits a &&& BitVec.ofInt k.bits b).toNat:Nat)))
 |.or=>some (.int k (k.wrap ((BitVec.ofInt k.bits a ||| BitVec.ofInt k.bits b).toNat:Nat)))
 |.xor=>some (.int k (k.wrap ((BitVec.ofInt k.bits a ^^^ BitVec.ofInt k.bits b).toNat:Nat)))
 |.andNot=>some (.int k (k.wrap ((BitVec.ofInt k.bits a &&& ~~~(BitVec.ofInt k.bits b)).toNat:Nat)))
 |_=>none
def eqlV (ek:EK) (x y:Value):BinOp→Option Value
 |.eql=>(eqV ek x y).map .bool
 |.neq=>(eqV ek x y).map fun b=>.bool (!b)
 |_=>none
def intS (k k':IntKind) (a b:Int):BinOp→Option Value
 |.shl=>if ltI b 0 then none else some (.int k (k.wrap (a*2^(min b.toNat k.bits))))
 |.shr=>if ltI b 0 then none else some (.int k (a.fdiv (2^(min b.toNat k.bits))))
 |op=>if k=k' then intB k a b op else none
def binV (op:BinOp) (ek:EK) (x y:Value):Option Value:=
 match x,y with
 |.int k a,.int k' b=>intS k k' a b op
 |.string a,.string b=>strB a.data.toList b.data.toList op
 |x,y=>eqlV ek x y op
def unV:UnOp→Value→Option Value
 |.neg,.int k n=>some (.int k (k.wrap (0 - n)))
 |.not,.bool b=>some (.bool !b)
 |_,_=>none
def inB (i:Int) (n:Nat):Option Nat:=match i with
 |.ofNat m=>if Nat.ble m n then some m else none
 |.negSucc _=>none
def zbP (dflt y:Nat):Option Value→Option Nat
 |none=>some dflt
 |some (.int _ i)=>inB i y
 |some _=>none
def zcg:KK→Value→Value→Option Bool
 |.str,.string a,.string b=>some (z6 a.data.toList b.data.toList)
 |.int,.int k a,.int k' b=>if k=k' then some (eqI a b) else none
 |.leaves l,.agg xs,.agg ys=>sameAt xs.toList ys.toList l
 |_,_,_=>none
def findE (kk:KK) (k:Value):List (Value×Value×Nat)→Option (Option Value)
 | []=>some none
 | (key,v,_)::r=>(zcg kk k key).bind fun b=>match b with|true=>some (some v)|false=>findE kk k r
def zD:List Value→List Value→Bool
 | [],[]=>true
 |.int k a::r,.int k' b::r'=>match decide (k=k')&&eqI a b with|true=>zD r r'|false=>false
 |.string a::r,.string b::r'=>match z6 a.data.toList b.data.toList with|true=>zD r r'|false=>false
 |_,_=>false
def setE (kk:KK) (k v:Value) (clock:Nat):List (Value×Value×Nat)→Option (List (Value×Value×Nat)×Nat)
 | []=>some ([(k,v,clock)],clock+1)
 | (key,w,b)::r=>(zcg kk k key).bind fun s=>match s with
   |true=>if zD (zW k) (zW key) then some ((k,v,b)::r,clock) else none
   |false=>(setE kk k v clock r).map fun x=>((key,w,b)::x.1,x.2)
def zdO (isMax:Bool):Value→List Value→Option Value
 |v,[]=>some v
 |.int k x,.int k' y::r=>if k=k' then zdO isMax (.int k (match isMax with|true=>(match ltI x y with|true=>y|false=>x)|false=>(match ltI y x with|true=>y|false=>x))) r else none
 |_,_=>none
def zhz (b:UInt8):Value:=.int .u8 b.toNat
def zdY (h:H) (size:Nat):Value→Option (Nat×List Value)
 |.string s=>if Nat.beq size 1 then some (s.size,s.data.toList.map zhz) else none
 |.slice none n _=>if Nat.beq n 0 then some (0,[]) else none
 |.slice (some a) n _=>if Nat.beq n 0 then some (0,[]) else(h.readN a.block a.off (n*size)).map fun l=>(n,l)
 |_=>none
def zgF (h:H) (need size:Nat) (cs:List Value):Value×H:=
 (.slice (some ⟨h.next,0,none⟩) need zc,h.new (.cells cs size))
def zj8 (size:Nat) (a:Addr) (len n:Nat) (new:List Value) (h:H) (cs:List Value):R:=
 (zkJ (len*size) (zey a.off cs)).map fun old=>zgF h (len+n) size (old++new)
def putIn (size:Nat) (a:Addr) (len cap n:Nat) (new:List Value) (h:H):R:=
 (h.write a.block (a.off+len*size) new).map fun h=>(.slice (some a) (len+n) cap,h)
def zdZ (size:Nat) (a:Addr) (len cap n:Nat) (new:List Value) (h:H):IObj→R
 |.cells cs esz=>
  if Nat.beq cap zc then
   if Nat.beq esz size&& !Nat.beq esz roE then
    if Nat.ble (len+n) ((cs.length - a.off) / size) then putIn size a len cap n new h
    else zj8 size a len n new (h.put a.block .dead) cs
   else none
  else if Nat.ble (len+n) cap then putIn size a len cap n new h
  else zj8 size a len n new h cs
 |_=>none
def zcK (size bytes:Nat) (n:Nat) (new:List Value) (h:H):Value→R
 |.slice base len cap=>
  if Nat.beq n 0 then some (.slice base len cap,h) else
  if Nat.ble ((len+n)*bytes) 1073741824&&new.all isCell then
   match base with
   |none=>if Nat.beq len 0&&Nat.beq cap 0 then some (zgF h n size new) else none
   |some a=>(h.get a.block).bind (zdZ size a len cap n new h)
  else none
 |_=>none
def copyV (size:Nat) (h:H) (a:Addr) (k:Nat):Option Addr→R
 |some b=>if Nat.beq k 0 then some (.int .i64 (0:Nat),h) else(h.readN b.block b.off (k*size)).bind fun cs=>(h.write a.block a.off cs).map fun h=>(.int .i64 k,h)
 |none=>if Nat.beq k 0 then some (.int .i64 (0:Nat),h) else none
def zhl (m n:Nat):Nat:=match Nat.ble m n with|true=>m|false=>n
def bltV (h:H):CB→List Value→R
 |.lenStr,[.string s]=>some (.int .i64 s.size,h)
 |.len,[.slice _ n _]=>some (.int .i64 n,h)
 |.lenMap,[.map none]=>some (.int .i64 0,h)
 |.lenMap,[.map (some r)]=>match h.get r with|some (.map es _)=>some (.int .i64 es.length,h)|_=>none
 |.append size bytes,[s,x]=>(zdY h size x).bind fun nl=>zcK size bytes nl.1 nl.2 h s
 |.min,v::r=>(zdO false v r).map (·,h)
 |.max,v::r=>(zdO true v r).map (·,h)
 |.clear _,[.slice none _ _]=>some (zM,h)
 |.clear z,[.slice (some a) n _]=>if Nat.beq n 0 then some (zM,h) else(h.write a.block a.off (zbr z n)).map fun h=>(zM,h)
 |.copy size,[.slice (some a) n _,.slice b m _]=>copyV size h a (zhl m n) b
 |_,_=>none
def zgD:Value→Option Addr
 |.pointer (some a)=>some a
 |_=>none
def ze3 (s:za):List (Nat×Nat×CO)→Option (List (Nat×Nat×Value))
 | []=>some []
 | (o,n,x)::r=>(x.ev s).bind fun v=>(ze3 s r).map ((o,n,v):: ·)
def zcJ (s:za) (size:Nat):List (Nat×CO)→Option (List (Nat×Nat×Value))
 | []=>some []
 | (i,x)::r=>(x.ev s).bind fun v=>(zcJ s size r).map ((i*size,size,v):: ·)
def bMv (x:CO) (s:za) (h:H):R:=(x.ev s).map (·,h)
def zkN (a b:CO) (s:za) (h:H):Value→R
 |.bool true=>(a.ev s).map (·,h)
 |.bool false=>(b.ev s).map (·,h)
 |_=>none
def bPick (c a b:CO) (s:za) (h:H):R:=(c.ev s).bind (zkN a b s h)
def newPtr (h:H) (cs:List Value):Value×H:=(.pointer (some ⟨h.next,0,none⟩),h.new (.cells cs 0))
def bAlloc (z:List Value) (_:za) (h:H):R:=some (newPtr h z)
def bBox (x:CO) (s:za) (h:H):R:=(x.ev s).map fun v=>newPtr h (zW v)
def zkz (z:List Value) (ps:List (Nat×Nat×CO)) (s:za) (h:H):R:=(ze3 s ps).bind fun l=>(ziS z l).map fun c=>(.agg ⟨c⟩,h)
def zcH (len size:Nat) (z:List Value) (ps:List (Nat×CO)) (s:za) (h:H):R:=
 (zcJ s size ps).bind fun l=>(ziS (zbr z len) l).map fun c=>(.slice (some ⟨h.next,0,none⟩) len len,h.new (.cells c 0))
def oneOf:List Value→Option Value
 | [v]=>some v
 |_=>none
def zky (a:CO) (s:za) (h:H):R:=(a.ev s).bind fun v=>(zgD v).bind fun a=>(h.readN a.block a.off 1).bind fun l=>(oneOf l).map (·,h)
def zkx (n:Nat) (a:CO) (s:za) (h:H):R:=(a.ev s).bind fun v=>(zgD v).bind fun a=>(h.readN a.block a.off n).map fun l=>(.agg ⟨l⟩,h)
def zkv (n:Nat) (a x:CO) (s:za) (h:H):R:=(a.ev s).bind fun v=>(x.ev s).bind fun x=>(zgD v).bind fun a=>
 if Nat.beq (zW x).length n then(h.write a.block a.off (zW x)).map fun h=>(zM,h) else none
def nilV:Value→Option Value
 |.pointer (some a)=>some (.pointer (some a))
 |.func (.func f) a b=>some (.func (.func f) a b)
 |.func (.yield l) a b=>some (.func (.yield l) a b)
 |_=>none
def zdy (x:CO) (s:za) (h:H):R:=(x.ev s).bind fun v=>(nilV v).map (·,h)
def bBin (op:BinOp) (l:EK) (x y:CO) (s:za) (h:H):R:=(x.ev s).bind fun a=>(y.ev s).bind fun b=>(binV op l a b).map (·,h)
def bUn (op:UnOp) (x:CO) (s:za) (h:H):R:=(x.ev s).bind fun a=>(unV op a).map (·,h)
def convV (k:IntKind):Value→Option Value
 |.int _ n=>some (.int k (k.wrap n))
 |_=>none
def bConv (k:IntKind) (x:CO) (s:za) (h:H):R:=(x.ev s).bind fun a=>(convV k a).map (·,h)
def zdz (fn:Fn) (a b:List CO) (s:za) (h:H):R:=(evL s a).bind fun a=>(evL s b).map fun b=>(.func fn ⟨a⟩ ⟨b⟩,h)
def bMakeMap (_:za) (h:H):R:=some (.map (some h.next),h.new (.map [] 0))
def zdd (bytes:Nat) (z:List Value) (h:H):Value→Value→R
 |.int .i64 (.ofNat l),.int .i64 (.ofNat c)=>if Nat.ble l c&&Nat.ble (c*bytes) 1073741824&&Nat.ble c 1073741824 then some (.slice (some ⟨h.next,0,none⟩) l c,h.new (.cells (zbr z c) 0)) else none
 |_,_=>none
def zdg (_ bytes:Nat) (z:List Value) (l c:CO) (s:za) (h:H):R:=(l.ev s).bind fun l=>(c.ev s).bind fun c=>zdd bytes z h l c
def zdi (size:Nat) (a:Addr) (len:Nat) (lo hi:Option Value) (h:H):IObj→R
 |.cells cs esz=>if Nat.beq esz size&&(Nat.blt 0 size&& !Nat.beq esz roE) then(zbP len ((cs.length - a.off) / size) hi).bind fun hi=>(zbP 0 hi lo).map fun lo=>(.slice (some ⟨a.block,a.off+lo*size,none⟩) (hi - lo) zc,h) else none
 |_=>none
def zfa (size:Nat) (h:H) (lo hi:Option Value):Value→R
 |.slice base len cap=>
  if Nat.beq cap zc then base.bind fun a=>(h.get a.block).bind (zdi size a len lo hi h)
  else(zbP len cap hi).bind fun hi=>(zbP 0 hi lo).map fun lo=>
   (.slice (if Nat.beq cap lo then base else base.map fun a=>⟨a.block,a.off+lo*size,none⟩) (hi - lo) (cap - lo),h)
 |_=>none
def zkw (size:Nat) (x:CO) (lo hi:Option CO) (s:za) (h:H):R:=(x.ev s).bind fun v=>(evO s lo).bind fun lo=>(evO s hi).bind fun hi=>zfa size h lo hi v
def zcG (off:Nat) (x:CO) (s:za) (h:H):R:=(x.ev s).bind fun v=>(zgD v).map fun a=>(.pointer (some ⟨a.block,a.off+off,none⟩),h)
def zix (size:Nat):Value→Value→Option Value
 |.slice (some a) len _,.int _ (.ofNat i)=>if Nat.blt i len then some (.pointer (some ⟨a.block,a.off+i*size,none⟩)) else none
 |_,_=>none
def zcF (size:Nat) (x i:CO) (s:za) (h:H):R:=(x.ev s).bind fun v=>(i.ev s).bind fun i=>(zix size v i).map (·,h)
def zem (n size:Nat):Value→Value→Option Value
 |.pointer (some a),.int _ (.ofNat i)=>if Nat.blt i n then some (.pointer (some ⟨a.block,a.off+i*size,none⟩)) else none
 |_,_=>none
def zdA (n size:Nat) (x i:CO) (s:za) (h:H):R:=(x.ev s).bind fun v=>(i.ev s).bind fun i=>(zem n size v i).map (·,h)
def zdw (h:H):Value→Option (List (Value×Value×Nat))
 |.map none=>some []
 |.map (some r)=>match h.get r with|some (.map es _)=>some es|_=>none
 |_=>none
def zfq (z:Value) (ok:Bool):Option Value→Value
 |some v=>match ok with|true=>.tuple #[v,.bool true]|false=>v
 |none=>match ok with|true=>.tuple #[z,.bool false]|false=>z
def zgU (kk:KK) (z:Value) (ok:Bool) (x i:CO) (s:za) (h:H):R:=
 (x.ev s).bind fun m=>(i.ev s).bind fun k=>(zcg kk k k).bind fun _=>(zdw h m).bind fun es=>(findE kk k es).map fun r=>(zfq z ok r,h)
def mapSet (kk:KK) (h:H) (k x:Value) (r:Nat):IObj→R
 |.map es clock=>(zcg kk k k).bind fun _=>(setE kk k x clock es).map fun y=>(zM,h.put r (.map y.1 y.2))
 |_=>none
def mapUpd (kk:KK) (h:H) (k x:Value):Value→R
 |.map (some r)=>(h.get r).bind (mapSet kk h k x r)
 |_=>none
def zeD (kk:KK) (m k x:CO) (s:za) (h:H):R:=(m.ev s).bind fun m=>(k.ev s).bind fun k=>(x.ev s).bind fun x=>mapUpd kk h k x m
def extractV (i:Nat):Value→Option Value
 |.tuple vs=>vs.toList[i]?
 |_=>none
def ze6 (x:CO) (i:Nat) (s:za) (h:H):R:=(x.ev s).bind fun v=>(extractV i v).map (·,h)
def strIdxV:Value→Value→Option Value
 |.string s,.int _ (.ofNat i)=>(s.data.toList[i]?).map fun b=>.int .u8 b.toNat
 |_,_=>none
def zgS (x i:CO) (s:za) (h:H):R:=(x.ev s).bind fun v=>(i.ev s).bind fun i=>(strIdxV v i).map (·,h)
def bNone1 (_:CO) (_:za) (_:H):R:=none
def zg2 (lo hi:Option Value):Value→Option Value
 |.string s=>(zbP s.size s.size hi).bind fun hi=>(zbP 0 hi lo).bind fun lo=>(zhO (hi - lo) (zey lo s.data.toList)).map fun l=>.string ⟨⟨l⟩⟩
 |_=>none
def zdx (x:CO) (lo hi:Option CO) (s:za) (h:H):R:=(x.ev s).bind fun v=>(evO s lo).bind fun lo=>(evO s hi).bind fun hi=>(zg2 lo hi v).map (·,h)
def bNoneI (_:List (Nat×Nat)) (_:CO) (_:List CO) (_:za) (_:H):R:=none
def bNone (_:za) (_:H):R:=none
def bMkI (t:TypeId) (x:CO) (s:za) (h:H):R:=(x.ev s).map fun v=>(.iface t v,h)
def zkA (t:TypeId) (z:Value) (ok:Bool):Value→Option Value
 |.iface u v=>match Nat.beq u t,ok with
  |true,true=>some (.tuple #[v,.bool true])
  |true,false=>some v
  |false,true=>some (.tuple #[z,.bool false])
  |false,false=>none
 |.nilIface=>match ok with
  |true=>some (.tuple #[z,.bool false])
  |false=>none
 |_=>none
def ze7 (t:TypeId) (z:Value) (ok:Bool) (x:CO) (s:za) (h:H):R:=(x.ev s).bind fun v=>(zkA t z ok v).map (·,h)
def bBlt (b:CB) (args:List CO) (s:za) (h:H):R:=(evL s args).bind fun l=>bltV h b l
def bCall (_:CO) (_:List CO) (_:za) (_:H):R:=none
def bStuck (_:za) (_:H):R:=none
def s2bV (h:H):Value→R
 |.string s=>some (.slice (some ⟨h.next,0,none⟩) s.size zc,h.new (.cells (s.data.toList.map zhz) roE))
 |_=>none
def bS2b (x:CO) (s:za) (h:H):R:=(x.ev s).bind (s2bV h)
def zkr:Value→Option UInt8
 |.int .u8 (.ofNat n)=>some (UInt8.ofNat n)
 |_=>none
def b2sV (h:H):Value→Option Value
 |.slice none _ _=>some (.string ⟨⟨[]⟩⟩)
 |.slice (some a) n _=>if Nat.beq n 0 then some (.string ⟨⟨[]⟩⟩) else(h.readN a.block a.off n).bind fun l=>(allO zkr l).map fun l=>.string ⟨⟨l⟩⟩
 |_=>none
def bB2s (x:CO) (s:za) (h:H):R:=(x.ev s).bind fun v=>(b2sV h v).map (·,h)
def partV (off:Nat) (cs:List Value):Option Nat→Option Value
 |some n=>(zhO n (zey off cs)).map fun l=>.agg ⟨l⟩
 |none=>(zey off cs).head?
def fldV (off:Nat) (n:Option Nat):Value→Option Value
 |.agg cs=>partV off cs.toList n
 |_=>none
def bFld (off:Nat) (n:Option Nat) (x:CO) (s:za) (h:H):R:=(x.ev s).bind fun v=>(fldV off n v).map (·,h)
def zec (size:Nat) (a:Addr) (lo:Option Value) (hi mx:Value) (h:H):IObj→R
 |.cells cs esz=>if Nat.beq esz size&&(Nat.blt 0 size&& !Nat.beq esz roE) then(zbP 0 ((cs.length - a.off) / size) (some mx)).bind fun m=>if Nat.blt 0 m&&Nat.blt m zc then(zbP 0 m (some hi)).bind fun hi=>(zbP 0 hi lo).map fun lo=>
   (.slice (if Nat.beq m lo then some a else some ⟨a.block,a.off+lo*size,none⟩) (hi - lo) (m - lo),h) else none else none
 |_=>none
def zeH (size:Nat) (h:H) (lo:Option Value) (hi mx:Value):Value→R
 |.slice base _ cap=>
  if Nat.beq cap zc then base.bind fun a=>(h.get a.block).bind (zec size a lo hi mx h)
  else(zbP 0 cap (some mx)).bind fun m=>(zbP 0 m (some hi)).bind fun hi=>(zbP 0 hi lo).map fun lo=>
   (.slice (if Nat.beq m lo then base else base.map fun a=>⟨a.block,a.off+lo*size,none⟩) (hi - lo) (m - lo),h)
 |_=>none
def zgT (size:Nat) (x:CO) (lo:Option CO) (hi mx:CO) (s:za) (h:H):R:=(x.ev s).bind fun v=>(evO s lo).bind fun lo=>(hi.ev s).bind fun hi=>(mx.ev s).bind fun mx=>zeH size h lo hi mx v
def opV (op:COp):za→H→R:=
 COp.rec (motive:=fun _=>za→H→R) bMv bPick bAlloc bBox zkz zcH zky zkx zkv zdy bBin bUn bConv zdz bMakeMap zdg zkw zcG zcF zdA zgU zeD ze6 bCall bBlt zgS bNone1 bNone bMkI ze7 bNoneI zdx bStuck bS2b bB2s bFld zgT op
inductive Out where
 |nrm (s:za) (h:H)
 |exit (id:Nat) (s:za) (h:H)
 |ret (s:za) (h:H)
 |val (v:Value) (h:H)
 |pan (v:Value) (s:za) (h:H)
inductive Task where
 |code (c:CC) (s:za) (h:H)
 |call (f:Value) (args:List Value) (h:H)
 |hand (f:Value) (args:List Value) (p:Option Value) (h:H)
 |scope (b:CC) (l1:Nat) (r1:CC) (l2:Nat) (r2:CC) (s:za) (h:H)
abbrev IH:=Task→Option Out
def zfV (ps:List (List Bool)) (vs:List Value) (s:za):Option za:=
 List.rec (motive:=fun _=>List Value→za→Option za) (fun vs s=>match vs with| []=>some s|_::_=>none)
  (fun p _ ih vs s=>match vs with| []=>none|v::vs=>ih vs (s.set p v)) ps vs s
def zbB (vs:List Value) (i:Nat) (s:za):za:=
 List.rec (motive:=fun _=>Nat→za→za) (fun _ s=>s) (fun v _ ih i s=>ih (i+1) (s.set (bits i) v)) vs i s
def wantedV (w:Bool):Value→Option Bool
 |.bool b=>some (b==w)
 |.tuple _=>some false
 |_=>none
def zbb (g:Option (List Bool×Bool)) (s:za):Option Bool:=
 match g with
 |none=>some true
 |some (p,w)=>(s.get p).bind (wantedV w)
def zhL:Out→R
 |.val v h=>some (v,h)
 |_=>none
def zgr (ih:IH) (f:CO) (args:List CO) (s:za) (h:H):R:=
 (f.ev s).bind fun f=>(evL s args).bind fun l=>(ih (.call f l h)).bind zhL
def zjW (t:Nat) (l:List (Nat×Nat)):Option Nat:=List.rec (motive:=fun _=>Option Nat) none (fun p _ ih=>match Nat.beq p.1 t with|true=>some p.2|false=>ih) l
def zgI (tbl:List (Nat×Nat)):Value→Option (Nat×Value)
 |.iface t v=>(zjW t tbl).map fun f=>(f,v)
 |_=>none
def zkT (ih:IH) (tbl:List (Nat×Nat)) (x:CO) (args:List CO) (s:za) (h:H):R:=
 (x.ev s).bind fun v=>(zgI tbl v).bind fun r=>(evL s args).bind fun l=>(ih (.call (.func (.func r.1) #[] #[]) (r.2::l) h)).bind zhL
def doOp (ih:IH) (op:COp) (s:za) (h:H):R:=match op with
 |.call f args=>zgr ih f args s h
 |.invoke tbl x args=>zkT ih tbl x args s h
 |op=>opV op s h
def zY (d:Option (List Bool)) (v:Value) (s:za):za:=match d with
 |none=>s
 |some p=>s.set p v
def zkP:Out→Option Out
 |.val v h=>some (.val v h)
 |.pan v s h=>some (.pan v s h)
 |_=>none
def zkp (ih:IH) (f:CO) (args:List CO) (s:za) (h:H):Option Out:=
 (f.ev s).bind fun f=>(evL s args).bind fun l=>(ih (.call f l h)).bind zkP
def panV (h:H):Value→Option Out
 |.iface t v=>some (.pan (.iface t v) .nil h)
 |_=>none
def panP (x:CO) (s:za) (h:H):Option Out:=(x.ev s).bind (panV h)
def valO (x:Value×H):Out:=.val x.1 x.2
def invP (ih:IH) (tbl:List (Nat×Nat)) (x:CO) (args:List CO) (s:za) (h:H):Option Out:=
 (x.ev s).bind fun v=>(zgI tbl v).bind fun r=>(evL s args).bind fun l=>(ih (.call (.func (.func r.1) #[] #[]) (r.2::l) h)).bind zkP
def zcV (ih:IH) (op:COp) (s:za) (h:H):Option Out:=match op with
 |.call f args=>zkp ih f args s h
 |.invoke tbl x args=>invP ih tbl x args s h
 |.panic x=>panP x s h
 |op=>(opV op s h).map valO
def zdI (ih:IH) (o:CI) (s:za) (h:H):Option Out:=(zbb o.guard s).bind fun b=>match b with
 |true=>zcV ih o.op s h
 |false=>some (.val zM h)
def nextOp (rec:za→H→Option Out) (d:Option (List Bool)) (s:za):Out→Option Out
 |.val v h=>rec (zY d v s) h
 |.pan v _ h=>some (.pan v s h)
 |_=>none
def zb7 (ih:IH) (l:List CI):za→H→Option Out:=
 List.rec (motive:=fun _=>za→H→Option Out) (fun s h=>some (.nrm s h)) (fun o _ rec s h=>(zdI ih o s h).bind (nextOp rec o.dst s)) l
def zeo (o:CI) (rec:Option Value→za→H→Option (Option Value×za×H)) (p:Option Value) (s:za) (h:H):Option (Option Value×za×H):=match o.op with
 |.recov=>rec none (zY o.dst (p.getD .nilIface) s) h
 |op=>(opV op s h).bind fun x=>rec p (zY o.dst x.1 s) x.2
def zbo (l:List CI):Option Value→za→H→Option (Option Value×za×H):=
 List.rec (motive:=fun _=>Option Value→za→H→Option (Option Value×za×H)) (fun p s h=>some (p,s,h))
  (fun o _ rec p s h=>(zbb o.guard s).bind fun b=>match b with
    |true=>zeo o rec p s h
    |false=>rec p (zY o.dst zM s) h) l
def zhu (a b:Addr):Bool:=Nat.beq a.block b.block&&Nat.beq a.off b.off&&a.spot.isNone&&b.spot.isNone
def zgm:Value→Value→Bool
 |.bool a,.bool b=>a==b
 |.int k a,.int k' b=>decide (k=k')&&eqI a b
 |.string a,.string b=>z6 a.data.toList b.data.toList
 |.pointer none,.pointer none=>true
 |.pointer (some a),.pointer (some b)=>zhu a b
 |.slice none n c,.slice none n' c'=>Nat.beq n n'&&Nat.beq c c'
 |.slice (some a) n c,.slice (some b) n' c'=>zhu a b&&Nat.beq n n'&&Nat.beq c c'
 |.map none,.map none=>true
 |.map (some a),.map (some b)=>Nat.beq a b
 |.nilFunc,.nilFunc=>true
 |_,_=>false
def zib:List Value→List Value→Bool
 | [],[]=>true
 |a::l,b::m=>zgm a b&&zib l m
 |_,_=>false
def zkh:Value→Value→Bool
 |.agg a,.agg b=>zib a.toList b.toList
 |a,b=>zgm a b
def zlA:List Value→List Value→Bool
 | [],[]=>true
 |a::l,b::m=>zkh a b&&zlA l m
 |_,_=>false
def eqVal:Value→Value→Bool
 |.tuple a,.tuple b=>zlA a.toList b.toList
 |a,b=>zkh a b
def zeQ (op:COp) (s:za) (lo:Nat) (v:Value):List (Nat×H)→Bool
 | []=>true
 |x::r=>if Nat.blt x.1 lo then zeQ op s lo v r else match opV op s x.2 with
  |some y=>eqVal v y.1&&zeQ op s lo v r
  |none=>false
def ze1 (op:COp) (s:za) (n m:Nat):Bool:=match op with
 |.b2s x=>match x.ev s with
  |some (.slice (some a) _ _)=>Nat.ble n a.block&&Nat.blt a.block m
  |_=>false
 |_=>false
def ziC (op:COp) (s:za) (lo:Nat) (h:H):List (Nat×H)→Option (Value×H×List (Nat×H))
 | []=>none
 |x::r=>if ze1 op s x.2.next h.next then(opV op s h).map fun y=>(y.1,h,x::r) else(opV op s x.2).bind fun y=>if zeQ op s lo y.1 r then some (y.1,h,x::r) else none
def zkR:List (Nat×H)→Nat
 | []=>0
 |x::_=>x.1+1
def zcP (ih:IH) (o:CI) (bs:List (Nat×H)) (s:za) (h:H):Option (Value×H×List (Nat×H)):=
 if isW o.op then(doOp ih o.op s h).map fun x=>(x.1,x.2,(zkR bs,x.2)::bs)
 else if isRd o.op then ziC o.op s o.lo h bs
 else(opV o.op s h).map fun x=>(x.1,x.2,bs)
def zw (ih:IH) (o:CI) (bs:List (Nat×H)) (s:za) (h:H):Option (Value×H×List (Nat×H)):=(zbb o.guard s).bind fun b=>match b with
 |true=>zcP ih o bs s h
 |false=>some (zM,h,if isW o.op then(zkR bs,h)::bs else bs)
def zx (ih:IH) (l:List CI):List (Nat×H)→za→H→Option (za×H):=
 List.rec (motive:=fun _=>List (Nat×H)→za→H→Option (za×H)) (fun _ s h=>some (s,h)) (fun o _ rec bs s h=>(zw ih o bs s h).bind fun x=>rec x.2.2 (zY o.dst x.1 s) x.2.1) l
def panOf (r:Option (za×H)):Out→Option Out
 |.pan v s h=>r.map fun _=>.pan v s h
 |_=>none
def panAt (ih:IH) (o:CI) (l:List CI) (bs:List (Nat×H)) (s:za) (h:H):Option Out:=match bs with
 | []=>none
 |x::_=>(zbb o.guard s).bind fun b=>match b&&isW o.op with
  |true=>(zcV ih o.op s h).bind (panOf (zx ih (l.filter fun p=>Nat.ble p.lo x.1) bs s h))
  |false=>none
def zge (ih:IH) (l:List CI):List (Nat×H)→za→H→Option Out:=
 List.rec (motive:=fun _=>List (Nat×H)→za→H→Option Out) (fun _ _ _=>none) (fun o l rec bs s h=>match zw ih o bs s h with
  |some x=>rec x.2.2 (zY o.dst x.1 s) x.2.1
  |none=>panAt ih o l bs s h) l
def resV (s:za) (h:H):CR→Option Value
 |.tmp p=>s.get p
 |.cell n p=>(s.get p).bind fun v=>(zgD v).bind fun a=>match n with
  |some n=>(h.readN a.block a.off n).map fun l=>.agg ⟨l⟩
  |none=>(h.readN a.block a.off 1).bind oneOf
def zhM:List Value→Value
 | [v]=>v
 |vs=>.tuple ⟨vs⟩
def ziN (rs:List CR) (s:za) (h:H):Option Out:=(allO (resV s h) rs).map fun vs=>.val (zhM vs) h
abbrev Step:=IH→za→H→Option Out
def sSkip:Step:=fun _ s h=>some (.nrm s h)
def nrmOf (x:za×H):Out:=.nrm x.1 x.2
def sOps (l:List CI):Step:=fun ih s h=>zb7 ih l s h
def sDraw (l:List CI):Step:=fun ih s h=>match zx ih l [(0,h)] s h with
 |some x=>some (nrmOf x)
 |none=>zge ih l [(0,h)] s h
def store2 (n:Nat) (p v:Value) (m:Nat) (q u:Value) (h:H):Option H:=(zgD p).bind fun p=>(zgD q).bind fun q=>
 if Nat.beq p.block q.block then none else if Nat.beq (zW v).length n&&Nat.beq (zW u).length m then(h.write p.block p.off (zW v)).bind fun h=>h.write q.block q.off (zW u) else none
def zdH (x y:COp) (s:za) (h:H):Option H:=match x,y with
 |.store n a b,.store m c d=>(a.ev s).bind fun p=>(b.ev s).bind fun v=>(c.ev s).bind fun q=>(d.ev s).bind fun u=>store2 n p v m q u h
 |_,_=>none
def sDraw2 (l:List CI) (x y:CI):Step:=fun ih s h=>(zx ih l [(0,h)] s h).bind fun r=>(zdH x.op y.op r.1 r.2).map fun h=>.nrm r.1 h
def thenK (ih:IH) (L:List (List Bool)) (b:CC):Out→Option Out
 |.nrm s h=>ih (.code b (zb5 L s) h)
 |o=>some o
def sSeq (a:CC) (L:List (List Bool)) (b:CC):Step:=fun ih s h=>(ih (.code a s h)).bind (thenK ih L b)
def condV (a b:CC):Value→Option CC
 |.bool true=>some a
 |.bool false=>some b
 |_=>none
def sCond (c:CO) (a b:CC):Step:=fun ih s h=>(c.ev s).bind fun v=>(condV a b v).bind fun x=>ih (.code x s h)
def zhA (id:Nat):Out→Out
 |.exit i s h=>match Nat.beq i id with|true=>.nrm s h|false=>.exit i s h
 |o=>o
def sBlock (id:Nat) (b:CC):Step:=fun ih s h=>(ih (.code b s h)).map (zhA id)
def loopK (ih:IH) (L:List (List Bool)) (b:CC):Out→Option Out
 |.nrm s h=>ih (.code (.loop L b) s h)
 |o=>some o
def sLoop (L:List (List Bool)) (b:CC):Step:=fun ih s h=>(ih (.code b (zb5 L s) h)).bind (loopK ih L b)
def zkO (s:za) (h:H):Option CC→Option Out
 |none=>some (.nrm s h)
 |some .ret=>some (.ret s h)
 |some (.exit i)=>some (.exit i s h)
 |_=>none
def zfX (l:Nat) (s:za) (h:H):IObj→Option Out
 |.loop .ready pend sl rc=>zkO s (h.put l (.loop .exhausted pend sl rc)) pend
 |.loop .done pend sl rc=>zkO s (h.put l (.loop .exhausted pend sl rc)) pend
 |_=>none
def isFn:Value→Option Value
 |.func (.func g) a b=>some (.func (.func g) a b)
 |_=>none
def sRange (rid:Nat) (L:List (List Bool)) (f:CO) (ps:List (List Bool)) (as b:CC):Step:=fun ih s h=>(f.ev s).bind fun f=>(isFn f).bind fun f=>
 (ih (.call f [.func (.yield h.next) #[] #[]] (h.new (.loop .ready none (zb5 L s) ⟨rid,L,ps,as,b⟩)))).bind fun o=>(zhL o).bind fun x=>(x.2.get h.next).bind (zfX h.next s x.2)
def sExit (id:Nat):Step:=fun _ s h=>some (.exit id s h)
def sRet:Step:=fun _ s h=>some (.ret s h)
def sScope (b:CC) (l1:Nat) (r1:CC) (l2:Nat) (r2:CC):Step:=fun ih s h=>ih (.scope b l1 r1 l2 r2 s h)
def zdk (ih:IH) (l1:Nat) (r1:CC) (l2:Nat) (r2:CC) (i:Nat) (s:za) (h:H):Option Out:=match Nat.beq i (zcv l1) with
 |true=>ih (.scope r1 l1 r1 l2 r2 s h)
 |false=>match Nat.beq i (zcv l2) with
  |true=>ih (.scope r2 l1 r1 l2 r2 s h)
  |false=>some (.exit i s h)
def scopeK (ih:IH) (l1:Nat) (r1:CC) (l2:Nat) (r2:CC):Out→Option Out
 |.exit i s h=>zdk ih l1 r1 l2 r2 i s h
 |.nrm s h=>some (.nrm s h)
 |.ret s h=>some (.ret s h)
 |.val v h=>some (.val v h)
 |.pan v s h=>some (.pan v s h)
def zdl (ih:IH) (b:CC) (l1:Nat) (r1:CC) (l2:Nat) (r2:CC) (s:za) (h:H):Option Out:=(ih (.code b s h)).bind (scopeK ih l1 r1 l2 r2)
def zbA (c:CC):Step:=
 CC.rec (motive:=fun _=>Step) sSkip sOps sDraw sDraw2 (fun a L b _ _=>sSeq a L b) (fun c a b _ _=>sCond c a b) (fun id b _=>sBlock id b) (fun L b _=>sLoop L b) (fun rid L f ps as b _ _=>sRange rid L f ps as b) sExit sRet (fun b l1 r1 l2 r2 _ _ _=>sScope b l1 r1 l2 r2) c
def retK (rs:List CR):Out→Option Out
 |.nrm s h=>ziN rs s h
 |.ret s h=>ziN rs s h
 |.pan v _ h=>some (.pan v .nil h)
 |_=>none
def resK1 (rs:List CR) (s:za):Out→Option Out
 |.val _ h=>ziN rs s h
 |_=>none
def doneK (ih:IH) (f:Value) (args:List Value) (rs:List CR):Out→Option Out
 |.nrm s h=>(ih (.hand f args none h)).bind (resK1 rs s)
 |.ret s h=>(ih (.hand f args none h)).bind (resK1 rs s)
 |.pan v s h=>(ih (.hand f args (some v) h)).bind (resK1 rs s)
 |_=>none
def dfrK (ih:IH) (d:Dfr) (rs:List CR):Out→Option Out
 |.nrm s h=>(d.f.ev s).bind fun f=>(isFn f).bind fun f=>(evL s d.args).bind fun l=>(ih (.code d.rest (zb5 d.L s) h)).bind (doneK ih f l rs)
 |.pan v _ h=>some (.pan v .nil h)
 |_=>none
def bodyK (ih:IH) (rs:List CR):Option Dfr→Out→Option Out
 |none=>retK rs
 |some d=>dfrK ih d rs
def zbz (ih:IH) (cf:zb) (args:List Value) (h:H):Option Out:=
 if Nat.ble args.length cf.ntmps then(ih (.code cf.body (zbB args 0 .nil) h)).bind (bodyK ih cf.results cf.dfr) else none
def zhY (h:H) (x:Value×H):Option Out:=if Nat.ble h.next x.2.next then some (.val x.1 x.2) else none
def zcr (ih:IH) (cf:zb) (args:List Value) (h:H):Option Out:=
 match cf.prim with
 |none=>zbz ih cf args h
 |some p=>match p args h with
  |some x=>zhY h x
  |none=>zbz ih cf args h
def stOf:Option CC→LoopState
 |none=>.ready
 |some _=>.done
def zlz (l:Nat) (p:Option CC) (h:H):IObj→Option Out
 |.loop _ _ sl rc=>some (.val (.bool p.isNone) (h.put l (.loop (stOf p) p sl rc)))
 |_=>none
def finRound (l:Nat):Out→Option Out
 |.nrm _ h=>(h.get l).bind (zlz l none h)
 |.ret _ h=>(h.get l).bind (zlz l (some .ret) h)
 |.exit i _ h=>(h.get l).bind (zlz l (some (.exit i)) h)
 |_=>none
def zg9 (ih:IH) (l:Nat) (b:CC) (s:za) (h:H):IObj→Option Out
 |.loop .ready pend sl rc=>(ih (.code b s (h.put l (.loop .busy pend sl rc)))).bind (finRound l)
 |_=>none
def roundAssign (ih:IH) (l:Nat) (b:CC):Out→Option Out
 |.nrm s h=>(h.get l).bind (zg9 ih l b s h)
 |_=>none
def runRound (ih:IH) (l:Nat) (args:List Value) (h:H):IObj→Option Out
 |.loop _ _ sl rc=>(zfV rc.ps args (zb5 rc.L sl)).bind fun s=>(ih (.code rc.as s h)).bind (roundAssign ih l rc.b)
 |_=>none
def zcx (F:FuncId→Option zb) (ih:IH) (args:List Value) (h:H):Value→Option Out
 |.func (.func g) first captured=>(F g).bind fun cf=>zcr ih cf (first.toList++args++captured.toList) h
 |.func (.yield l) first captured=>if first.isEmpty&&captured.isEmpty then(h.get l).bind (runRound ih l args h) else none
 |_=>none
def retV (rs:List CR):Out→Option Out
 |.nrm s h=>ziN rs s h
 |.ret s h=>ziN rs s h
 |_=>none
def handEnd (ih:IH) (rs:List CR) (L:List (List Bool)) (b:CC) (x:Option Value×za×H):Option Out:=
 match x.1 with
 |none=>(ih (.code b (zb5 L x.2.1) x.2.2)).bind (retV rs)
 |some _=>none
def zi5 (ih:IH) (rs:List CR) (p:Option Value) (s:za) (h:H):CC→Option Out
 |.seq (.ops l) L b=>(zbo l p s h).bind (handEnd ih rs L b)
 |_=>none
def zfn (ih:IH) (cf:zb) (args:List Value) (p:Option Value) (h:H):Option Out:=
 match cf.prim,cf.dfr with
 |none,none=>if Nat.ble args.length cf.ntmps then zi5 ih cf.results p (zbB args 0 .nil) h cf.body else none
 |_,_=>none
def zct (F:FuncId→Option zb) (ih:IH) (args:List Value) (p:Option Value) (h:H):Value→Option Out
 |.func (.func g) first captured=>(F g).bind fun cf=>zfn ih cf (first.toList++args++captured.toList) p h
 |_=>none
def body (F:FuncId→Option zb) (ih:IH) (t:Task):Option Out:=
 Task.rec (motive:=fun _=>Option Out) (fun c s h=>zbA c ih s h) (fun f args h=>zcx F ih args h f) (fun f args p h=>zct F ih args p h f) (fun b l1 r1 l2 r2 s h=>zdl ih b l1 r1 l2 r2 s h) t
def E (F:FuncId→Option zb) (n:Nat):Task→Option Out:=Nat.rec (motive:=fun _=>Task→Option Out) (fun _=>none) (fun _ ih=>body F ih) n
def isErrT (rt et ng:Nat):Value→Bool
 |.iface r (.agg cs)=>Nat.beq r rt&&(match cs.toList with
  | [.pointer (some a)]=>Nat.beq a.block ng&&(Nat.beq a.off et&&a.spot.isNone)
  |_=>false)
 |_=>false
def isStr1:Value→Bool
 |.agg cs=>(match cs.toList with
  | [.string _]=>true
  |_=>false)
 |_=>false
def asIn (rt et ng n:Nat) (a:Addr) (v:Value) (h:H):IObj→Option (Value×H)
 |.glob b x=>if Nat.beq b 0&&(isErrT rt et ng x&&(isStr1 v&&(Nat.beq n 1&&a.spot.isNone))) then(h.write a.block a.off (zW v)).map fun h=>(.bool true,h) else none
 |_=>none
def asP (rt et ng tp te n:Nat) (args:List Value) (h:H):Option (Value×H):=match args with
 | [.nilIface,_]=>some (.bool false,h)
 | [.iface t v,.iface u (.pointer (some a))]=>if Nat.beq t te&&Nat.beq u tp then(h.get 0).bind (asIn rt et ng n a v h) else none
 |_=>none
end
end Go.Ideal
namespace Go.Ideal
def gZ:Option (Nat×Value):=some (0,.iface 264 (.agg #[.pointer (some ⟨1,129,none⟩)]))
def GlOk (w:World):Prop:= ∀b x,gZ=some (b,x)→w.cell? ⟨b,0,none⟩=some x
end Go.Ideal
namespace Go.Ideal
theorem zlH (n:Nat):bitsF 0 n=[]:=rfl
theorem zfM (f:Nat):bitsF (f+1) 0=[]:=rfl
theorem zcz (f n:Nat):bitsF (f+1) (n+1)=Nat.beq ((n+1)%2) 1::bitsF f ((n+1) / 2):=rfl
theorem bitsF_inj: ∀(f g m n:Nat),m≤f→n≤g→bitsF f m=bitsF g n→m=n:=by
 intro f
 induction f with
 |zero=>
  intro g m n hm hn h
  obtain rfl:m=0:=by omega
  cases n with
  |zero=>rfl
  |succ n=>
   cases g with
   |zero=>omega
   |succ g=>grind [zlH,zcz]
 |succ f ih=>
  intro g m n hm hn h
  cases m with
  |zero=>
   rw[zfM] at h
   cases n with
   |zero=>rfl
   |succ n=>cases g with
    |zero=>omega
    |succ g=>grind [zcz]
  |succ m=>
   rw[zcz] at h
   cases g with
   |zero=>grind [zlH]
   |succ g=>cases n with
    |zero=>grind [zfM]
    |succ n=>
     rw[zcz] at h
     injection h with h1 h2
     have h3:=ih g ((m+1) / 2) ((n+1) / 2) (by omega) (by omega) h2
     have e:((m+1)%2=1)↔((n+1)%2=1):=by
      grind [Nat.beq]
     omega
theorem zf3 {m n:Nat} (h:bits m=bits n):m=n:=bitsF_inj m n m n (Nat.le_refl _) (Nat.le_refl _) h
@[simp] theorem PT.get_nil {α:Type} (p:List Bool):(PT.nil:PT α).get p=none:=by cases p<;>rfl
@[simp] theorem PT.get_node_nil {α:Type} (l r:PT α) (v:Option α):(PT.node l v r).get []=v:=rfl
@[simp] theorem PT.get_node_true {α:Type} (l r:PT α) (v:Option α) (p:List Bool):(PT.node l v r).get (true::p)=r.get p:=rfl
@[simp] theorem PT.get_node_false {α:Type} (l r:PT α) (v:Option α) (p:List Bool):(PT.node l v r).get (false::p)=l.get p:=rfl
theorem PT.set_nil_nil {α:Type} (a:α):(PT.nil:PT α).set [] a=.node .nil (some a) .nil:=rfl
theorem PT.set_node_nil {α:Type} (l r:PT α) (v:Option α) (a:α):(PT.node l v r).set [] a=.node l (some a) r:=rfl
theorem PT.set_nil_true {α:Type} (p:List Bool) (a:α):(PT.nil:PT α).set (true::p) a=.node .nil none (PT.set .nil p a):=rfl
theorem PT.set_nil_false {α:Type} (p:List Bool) (a:α):(PT.nil:PT α).set (false::p) a=.node (PT.set .nil p a) none .nil:=rfl
theorem PT.set_node_true {α:Type} (l r:PT α) (v:Option α) (p:List Bool) (a:α):(PT.node l v r).set (true::p) a=.node l v (r.set p a):=rfl
theorem PT.set_node_false {α:Type} (l r:PT α) (v:Option α) (p:List Bool) (a:α):(PT.node l v r).set (false::p) a=.node (l.set p a) v r:=rfl
theorem PT.get_set_same {α:Type} (a:α): ∀(p:List Bool) (t:PT α),(t.set p a).get p=some a:=by
 intro p
 induction p with
 |nil=>intro t;cases t<;>rfl
 |cons b p ih=>intro t;cases t<;>cases b<;>simp[PT.set_nil_true,PT.set_nil_false,PT.set_node_true,PT.set_node_false,ih]
theorem PT.get_set_ne {α:Type} (a:α): ∀(p q:List Bool) (t:PT α),p≠q→(t.set p a).get q=t.get q:=by
 intro p
 induction p with
 |nil=>
  intro q t h
  cases q with
  |nil=>grind
  |cons c q=>cases t<;>cases c<;>simp[PT.set_nil_nil,PT.set_node_nil]
 |cons b p ih=>
  intro q t h
  cases q with
  |nil=>cases t<;>cases b<;>simp[PT.set_nil_true,PT.set_nil_false,PT.set_node_true,PT.set_node_false]<;>rfl
  |cons c q=>
   by_cases e:b=c
   ·subst e
    have h':p≠q:=fun e=>h (by rw[e])
    cases t<;>cases b<;>simp[PT.set_nil_true,PT.set_nil_false,PT.set_node_true,PT.set_node_false,ih _ _ h']
   ·cases t<;>cases b<;>cases c<;>simp_all[PT.set_nil_true,PT.set_nil_false,PT.set_node_true,PT.set_node_false]
theorem PT.get_set_bits {α:Type} (t:PT α) (m n:Nat) (a:α):(t.set (bits m) a).get (bits n)=if m=n then some a else t.get (bits n):=by
 grind [PT.get_set_same,PT.get_set_ne,zf3]
@[simp] theorem H.get_put (h:H) (i j:Nat) (o:IObj):(h.put i o).get j=if i=j then some o else h.get j:=PT.get_set_bits _ _ _ _
@[simp] theorem H.get_new (h:H) (j:Nat) (o:IObj):(h.new o).get j=if h.next=j then some o else h.get j:=PT.get_set_bits _ _ _ _
@[simp] theorem H.next_put (h:H) (i:Nat) (o:IObj):(h.put i o).next=h.next:=rfl
@[simp] theorem H.next_new (h:H) (o:IObj):(h.new o).next=h.next+1:=rfl
@[simp] theorem H.get_empty (j:Nat):H.empty.get j=none:=PT.get_nil _
theorem takeN_zero {α:Type} (l:List α):zhO 0 l=some []:=rfl
theorem zjo {α:Type} (n:Nat) (a:α) (l:List α):zhO (n+1) (a::l)=(zhO n l).map (a:: ·):=rfl
theorem zkI {α:Type} (n:Nat):zhO (n+1) ([]:List α)=none:=rfl
theorem zdG {α:Type}: ∀(n:Nat) (l:List α),zhO n l=if n≤l.length then some (l.take n) else none:=by
 intro n
 induction n with
 |zero=>grind [takeN_zero]
 |succ n ih=>
  intro l
  cases l with
  |nil=>simp[zkI]
  |cons a l=>grind [zjo]
theorem zcf {α:Type}: ∀(n:Nat) (l:List α),zey n l=l.drop n:=by
 intro n
 induction n with
 |zero=>intro l;rfl
 |succ n ih=>
  intro l
  cases l with
  |nil=>rfl
  |cons a l=>grind [zey]
theorem zgf: ∀(cs:List Value) (o:Nat) (vs cs':List Value),zbt cs o vs=some cs'→cs'.length=cs.length:=by
 intro cs
 induction cs with
 |nil=>intro o vs cs' h;cases vs with
  |nil=>grind [zbt]
  |cons v vs=>grind [zbt]
 |cons c cs ih=>
  intro o vs cs' h
  cases vs with
  |nil=>grind [zbt]
  |cons v vs=>
   cases o with
   |zero=>
    grind [zbt,Option.map_eq_some_iff]
   |succ o=>
    grind [zbt,Option.map_eq_some_iff]
theorem zjh: ∀(cs:List Value) (o:Nat) (vs cs':List Value),zbt cs o vs=some cs'→(vs=[]∨o+vs.length≤cs.length)∧ ∀j,cs'[j]? =if o≤j∧j<o+vs.length then vs[j - o]? else cs[j]?:=by
 intro cs
 induction cs with
 |nil=>intro o vs cs' h;cases vs with
  |nil=>grind [zbt]
  |cons v vs=>grind [zbt]
 |cons c cs ih=>
  intro o vs cs' h
  cases vs with
  |nil=>grind [zbt]
  |cons v vs=>
   cases o with
   |zero=>
    grind [zbt,Option.map_eq_some_iff]
   |succ o=>
    grind [zbt,Option.map_eq_some_iff]
structure RB where
 blk:Nat
 base:Nat
 csize:Nat
 esz:Nat
 ilen:Nat
 fix:Option Obj
abbrev Rho:=Nat→Option RB
inductive VR (ρ:Rho):Value→Value→Prop where
 |bool (b:Bool):VR ρ (.bool b) (.bool b)
 |int (k:IntKind) (n:Int):VR ρ (.int k n) (.int k n)
 |str (s:ByteArray):VR ρ (.string s) (.string s)
 |ptrNil:VR ρ (.pointer none) (.pointer none)
 |ptr {i o:Nat} {R:RB} (h:ρ i=some R):VR ρ (.pointer (some ⟨i,o,none⟩)) (.pointer (some ⟨R.blk,R.base+o,none⟩))
 |sliceNil:VR ρ (.slice none 0 0) (.slice none 0 0)
 |slice {i o len cap:Nat} {R:RB} (h:ρ i=some R) (hc:cap<zc) (hl:len≤cap):
   VR ρ (.slice (some ⟨i,o,none⟩) len cap) (.slice (some ⟨R.blk,R.base+o,none⟩) len cap)
 |sliceO {i o len cap:Nat} {R:RB} (h:ρ i=some R) (he:0<R.esz) (hl:len≤cap) (hs:R.base+o+cap*R.esz≤R.csize) (hb:R.ilen≤o+cap*R.esz):
   VR ρ (.slice (some ⟨i,o,none⟩) len zc) (.slice (some ⟨R.blk,R.base+o,none⟩) len cap)
 |sliceE {i o o':Nat} {R:RB} (h:ρ i=some R) (he:0<R.esz) (hb:R.ilen≤o):
   VR ρ (.slice (some ⟨i,o,none⟩) 0 zc) (.slice (some ⟨R.blk,o',none⟩) 0 0)
 |sliceD {i o:Nat} {ad:Addr} {R:RB} (h:ρ i=some R) (hm:R.csize<R.ilen):VR ρ (.slice (some ⟨i,o,none⟩) 0 0) (.slice (some ad) 0 0)
 |sliceR {i o len cap:Nat} {R:RB} (h:ρ i=some R) (he:R.esz=roE) (hl:len≤cap):
   VR ρ (.slice (some ⟨i,o,none⟩) len zc) (.slice (some ⟨R.blk,R.base+o,none⟩) len cap)
 |mapNil:VR ρ (.map none) (.map none)
 |map {i:Nat} {R:RB} (h:ρ i=some R):VR ρ (.map (some i)) (.map (some R.blk))
 |func (f:FuncId) {a b a' b':Array Value} (ha:a.size=a'.size) (hb:b.size=b'.size)
   (ra: ∀(j:Nat) x y,a[j]? =some x→a'[j]? =some y→VR ρ x y) (rb: ∀(j:Nat) x y,b[j]? =some x→b'[j]? =some y→VR ρ x y):
   VR ρ (.func (.func f) a b) (.func (.func f) a' b')
 |yield {i:Nat} {R:RB} (h:ρ i=some R):VR ρ (.func (.yield i) #[] #[]) (.func (.yield R.blk) #[] #[])
 |nilFunc:VR ρ .nilFunc .nilFunc
 |nilIface:VR ρ .nilIface .nilIface
 |iface (t:TypeId) {v v':Value} (h:VR ρ v v'):VR ρ (.iface t v) (.iface t v')
 |agg {a a':Array Value} (ha:a.size=a'.size) (ra: ∀(j:Nat) x y,a[j]? =some x→a'[j]? =some y→VR ρ x y):VR ρ (.agg a) (.agg a')
 |tuple {a a':Array Value} (ha:a.size=a'.size) (ra: ∀(j:Nat) x y,a[j]? =some x→a'[j]? =some y→VR ρ x y):VR ρ (.tuple a) (.tuple a')
def zhD (ρ σ:Rho):Prop:= ∀i R,ρ i=some R→σ i=some R
theorem VR.mono {ρ σ:Rho} (hl:zhD ρ σ) {v v':Value} (h:VR ρ v v'):VR σ v v':=by
 induction h with
 |bool b=>exact .bool b
 |int k n=>grind [int]
 |str s=>exact .str s
 |ptrNil=>exact .ptrNil
 |ptr h=>exact .ptr (hl _ _ h)
 |sliceNil=>exact .sliceNil
 |slice h hc hl'=>exact .slice (hl _ _ h) hc hl'
 |sliceO h he hl' hs hb=>exact .sliceO (hl _ _ h) he hl' hs hb
 |sliceE h he hb=>exact .sliceE (hl _ _ h) he hb
 |sliceD h hm=>exact .sliceD (hl _ _ h) hm
 |sliceR h he hl'=>exact .sliceR (hl _ _ h) he hl'
 |mapNil=>exact .mapNil
 |map h=>exact .map (hl _ _ h)
 |func f ha hb ra rb ih1 ih2=>grind [func]
 |yield h=>exact .yield (hl _ _ h)
 |nilFunc=>exact .nilFunc
 |nilIface=>exact .nilIface
 |iface t h ih=>grind [iface]
 |agg ha ra ih=>grind [agg]
 |tuple ha ra ih=>grind [tuple]
def VRL (ρ:Rho) (xs ys:List Value):Prop:=xs.length=ys.length∧ ∀(j:Nat) x y,xs[j]? =some x→ys[j]? =some y→VR ρ x y
theorem VRL.nil (ρ:Rho):VRL ρ [] []:=⟨rfl,by simp⟩
theorem VRL.cons {ρ:Rho} {x y:Value} {xs ys:List Value} (h:VR ρ x y) (hs:VRL ρ xs ys):VRL ρ (x::xs) (y::ys):=by
 refine⟨by simp[hs.1],fun j a b ha hb=> ?_⟩
 cases j with
 |zero=>grind
 |succ j=>simp at ha hb;exact hs.2 j a b ha hb
theorem VRL.head {ρ:Rho} {x y:Value} {xs ys:List Value} (h:VRL ρ (x::xs) (y::ys)):VR ρ x y:=h.2 0 x y rfl rfl
theorem VRL.tail {ρ:Rho} {x y:Value} {xs ys:List Value} (h:VRL ρ (x::xs) (y::ys)):VRL ρ xs ys:=
 ⟨by simpa using h.1,fun j a b ha hb=>h.2 (j+1) a b (by grind) (by grind)⟩
theorem VRL.nil_left {ρ:Rho} {ys:List Value} (h:VRL ρ [] ys):ys=[]:=by grind [VRL]
theorem VRL.cons_left {ρ:Rho} {x:Value} {xs ys:List Value} (h:VRL ρ (x::xs) ys): ∃y ys',ys=y::ys'∧VR ρ x y∧VRL ρ xs ys':=by
 cases ys with
 |nil=>grind [VRL]
 |cons y ys=>exact⟨y,ys,rfl,h.head,h.tail⟩
theorem VRL.append {ρ:Rho} {xs ys:List Value} (h:VRL ρ xs ys): ∀{as bs:List Value},VRL ρ as bs→VRL ρ (xs++as) (ys++bs):=by
 induction xs generalizing ys with
 |nil=>intro as bs hs;rw[h.nil_left];exact hs
 |cons x xs ih=>intro as bs hs;obtain⟨y,ys',rfl,h1,h2⟩:=h.cons_left;grind [cons]
theorem VRL.get {ρ:Rho} {xs ys:List Value} (h:VRL ρ xs ys) {j:Nat} {x:Value} (hx:xs[j]? =some x): ∃y,ys[j]? =some y∧VR ρ x y:=by
 have hlt:j<ys.length:=by rw[←h.1];grind
 exact⟨ys[j],List.getElem?_eq_getElem hlt,h.2 j x _ hx (List.getElem?_eq_getElem hlt)⟩
theorem VRL.mono {ρ σ:Rho} (hl:zhD ρ σ) {xs ys:List Value} (h:VRL ρ xs ys):VRL σ xs ys:=⟨h.1,fun j x y hx hy=>(h.2 j x y hx hy).mono hl⟩
theorem VRL.of_agg {ρ:Rho} {a a':Array Value} (h:VR ρ (.agg a) (.agg a')):VRL ρ a.toList a'.toList:=by
 cases h with|agg ha ra=>exact⟨by grind,fun j x y hx hy=>ra j x y (by grind) (by grind)⟩
theorem VR.agg_of {ρ:Rho} {xs ys:List Value} (h:VRL ρ xs ys):VR ρ (.agg ⟨xs⟩) (.agg ⟨ys⟩):=.agg (by simpa using h.1) (fun j x y hx hy=>h.2 j x y (by grind) (by grind))
theorem VR.tuple_of {ρ:Rho} {xs ys:List Value} (h:VRL ρ xs ys):VR ρ (.tuple ⟨xs⟩) (.tuple ⟨ys⟩):=.tuple (by simpa using h.1) (fun j x y hx hy=>h.2 j x y (by grind) (by grind))
theorem VR.cells {ρ:Rho} {v v':Value} (h:VR ρ v v'):VRL ρ (zW v) v'.cells.toList:=by
 cases h with
 |agg ha ra=>exact VRL.of_agg (.agg ha ra)
 |bool b=>exact .cons (.bool b) (.nil _)
 |int k n=>exact .cons (.int k n) (.nil _)
 |str s=>exact .cons (.str s) (.nil _)
 |ptrNil=>exact .cons .ptrNil (.nil _)
 |ptr h=>exact .cons (.ptr h) (.nil _)
 |sliceNil=>exact .cons .sliceNil (.nil _)
 |slice h hc hl=>exact .cons (.slice h hc hl) (.nil _)
 |sliceO h he hl hs hb=>exact .cons (.sliceO h he hl hs hb) (.nil _)
 |sliceE h he hb=>exact .cons (.sliceE h he hb) (.nil _)
 |sliceD h hm=>exact .cons (.sliceD h hm) (.nil _)
 |sliceR h he hl=>exact .cons (.sliceR h he hl) (.nil _)
 |mapNil=>exact .cons .mapNil (.nil _)
 |map h=>exact .cons (.map h) (.nil _)
 |func f ha hb ra rb=>exact .cons (.func f ha hb ra rb) (.nil _)
 |yield h=>exact .cons (.yield h) (.nil _)
 |nilFunc=>exact .cons .nilFunc (.nil _)
 |nilIface=>exact .cons .nilIface (.nil _)
 |iface t h=>exact .cons (.iface t h) (.nil _)
 |tuple ha ra=>exact .cons (.tuple ha ra) (.nil _)
def SR (ρ:Rho) (s:za) (tmps:Array Value):Prop:= ∀(t:Nat) v,s.get (bits t)=some v→ ∃v',tmps[t]? =some v'∧VR ρ v v'
def exOf (i:Nat):Exit:=match Nat.beq (i%2) 0 with|true=>.exit (i / 2)|false=>.goto (i / 2)
def coOf (i:Nat):Code:=match Nat.beq (i%2) 0 with|true=>.exit (i / 2)|false=>.goto (i / 2)
theorem zcN (i:Nat):exOf (2*i)=.exit i:=by
 simp_all[exOf]
theorem zdu (l:Nat):exOf (zcv l)=.goto l:=by
 unfold exOf zcv
 rw[show(2*l+1)%2=1 by omega,show(2*l+1) / 2=l by omega]
theorem coOf_even (i:Nat):coOf (2*i)=.exit i:=by
 simp_all[coOf]
theorem coOf_goto (l:Nat):coOf (zcv l)=.goto l:=by
 unfold coOf zcv
 rw[show(2*l+1)%2=1 by omega,show(2*l+1) / 2=l by omega]
theorem zhq (i:Nat):(∃j,i=2*j)∨ ∃l,i=zcv l:=by
 rcases Nat.mod_two_eq_zero_or_one i with h|h
 ·exact .inl ⟨i / 2,by omega⟩
 ·exact .inr ⟨i / 2,by grind [zcv]⟩
def PendR:Option CC→Option Code→Prop
 |none,none=>True
 |some .ret,some .ret=>True
 |some (.exit i),some c=>c=coOf i
 |_,_=>False
def FixOk (R:RB) (esz:Nat) (o:Obj) (fr:Nat×Nat):Prop:=(R.fix=none∧fr=(0,0))∨(R.fix=some o∧esz=roE)
def Calm (o:Obj):Prop:= ∀c t fr,o=.cells c t fr→fr=(0,0)
theorem zbl (c:Array Value) (t:TypeId):Calm (.cells c t):=fun _ _ _ h=>by grind
theorem zhw (c:Array MapEntry) (t:Nat):Calm (.map c t):=fun _ _ _ h=>by cases h
theorem zhx (l:Loop):Calm (.loop l):=fun _ _ _ h=>by cases h
theorem zbh (l:Option (List Deferred)):Calm (.deferred l):=fun _ _ _ h=>by cases h
def OR (P:Program) (ρ:Rho) (w:World) (R:RB):IObj→Prop
 |.cells cs esz=>R.esz=esz∧R.ilen=cs.length∧ ∃c t fr,w.heap[R.blk]? =some (.cells c t fr)∧FixOk R esz (.cells c t fr) fr∧c.size=R.csize∧R.base+cs.length≤c.size∧
   ∀(j:Nat) v,cs[j]? =some v→ ∃v',c[R.base+j]? =some v'∧(v=poison∨VR ρ v v')
 |.map es clock=> ∃es':Array MapEntry,w.heap[R.blk]? =some (.map es' clock)∧es.length=es'.size∧
   ∀(j:Nat) e,es[j]? =some e→ ∃e',es'[j]? =some e'∧VR ρ e.1 e'.key∧VR ρ e.2.1 e'.val∧e'.born=e.2.2
 |.loop st pend sl rc=> ∃r:Loop,w.heap[R.blk]? =some (.loop r)∧r.state=st∧PendR pend r.pending∧SR ρ sl r.tmps∧rc.ps=r.params.toList.map bits∧
   (∀t∈r.params.toList,t<r.tmps.size)∧ze P r.tmps.size r.assign=some (zA rc.as)∧ze P r.tmps.size r.body=some (zA rc.b)
 |.dead=>True
 |.glob b x=>R.blk=b∧ ∃c t fr,R.fix=some (.cells c t fr)∧w.heap[R.blk]? =some (.cells c t fr)∧c[0]? =some x
def zeF (h:H) (i:Nat):Prop:= ∃o,h.get i=some o∧o≠ .dead
structure HR (P:Program) (ρ:Rho) (h:H) (w:World):Prop where
 obj: ∀i R o,ρ i=some R→h.get i=some o→OR P ρ w R o
 nxt: ∀i,h.next≤i→ρ i=none∧h.get i=none
 sep: ∀i j R S,ρ i=some R→ρ j=some S→zeF h i→zeF h j→R.blk=S.blk→i=j
 blk: ∀i R,ρ i=some R→R.blk<w.heap.size
 glb: ∀i b x,h.get i=some (.glob b x)→ ∃R,ρ i=some R
 gl:GlOk w∧ ∀b x,gZ=some (b,x)→ ∀i R,ρ i=some R→R.blk=b→R.fix≠none
structure Ext (ρ:Rho) (w:World) (σ:Rho) (w':World):Prop where
 le:zhD ρ σ
 size:w.heap.size≤w'.heap.size
 fresh: ∀i R,σ i=some R→(∃j S,ρ j=some S∧S.blk=R.blk)∨w.heap.size≤R.blk
 frame: ∀B:Nat,B<w.heap.size→(∀i R,ρ i=some R→R.blk≠B)→w'.heap[B]? =w.heap[B]?
 loops: ∀(B:Nat) (r:Loop),w.heap[B]? =some (Obj.loop r)→ ∃r':Loop,w'.heap[B]? =some (Obj.loop r')∧r'.defers=r.defers
 os:w'.os=w.os
 out:w'.output=w.output
 froz: ∀a:Addr,a.block<w.heap.size→w'.frozen? a=w.frozen? a
 td:w'.tape=w.tape∧w.drawn≤w'.drawn
theorem Ext.refl (ρ:Rho) (w:World):Ext ρ w ρ w:=⟨fun _ _ h=>h,Nat.le_refl _,fun i R h=>.inl ⟨i,R,h,rfl⟩,fun _ _ _=>rfl,fun _ r h=>⟨r,h,rfl⟩,rfl,rfl,fun _ _=>rfl,⟨rfl,Nat.le_refl _⟩⟩
theorem Ext.trans {ρ σ τ:Rho} {w w' w'':World} (h:Ext ρ w σ w') (k:Ext σ w' τ w''):Ext ρ w τ w'' where
 le:=fun i R hi=>k.le i R (h.le i R hi)
 size:=Nat.le_trans h.size k.size
 fresh:=fun i R hi=>by
  rcases k.fresh i R hi with⟨j,S,hj,hs⟩|hb
  ·rcases h.fresh j S hj with⟨l,T,hl,ht⟩|hb
   all_goals grind
  ·exact .inr (Nat.le_trans h.size hb)
 frame:=fun B hB hn=>by
  rw[k.frame B (Nat.lt_of_lt_of_le hB h.size) ?_,h.frame B hB hn]
  intro i R hi e
  rcases h.fresh i R hi with⟨j,S,hj,hs⟩|hb
  all_goals grind
 loops:=fun B r hr=>by
  obtain⟨r',h1,h2⟩:=h.loops B r hr
  obtain⟨r'',h3,h4⟩:=k.loops B r' h1
  grind
 os:=k.os.trans h.os
 out:=k.out.trans h.out
 froz:=fun a ha=>(k.froz a (Nat.lt_of_lt_of_le ha h.size)).trans (h.froz a ha)
 td:=⟨k.td.1.trans h.td.1,Nat.le_trans h.td.2 k.td.2⟩
theorem SR.mono {ρ σ:Rho} (hl:zhD ρ σ) {s:za} {tmps:Array Value} (h:SR ρ s tmps):SR σ s tmps:=
 fun t v hv=>let⟨v',h1,h2⟩:=h t v hv;⟨v',h1,h2.mono hl⟩
theorem SR.set {ρ:Rho} {s:za} {tmps:Array Value} (h:SR ρ s tmps) {t:Nat} (ht:t<tmps.size) {v v':Value} (hv:VR ρ v v'):SR ρ (s.set (bits t) v) (tmps.setIfInBounds t v'):=by
 intro u x hx
 rw[PT.get_set_bits] at hx
 by_cases e:t=u
 ·grind
 ·rw[if_neg e] at hx
  obtain⟨y,hy,hr⟩:=h u x hx
  grind
theorem zlr (p:List Bool) (ps:List (List Bool)) (s:za):zci (p::ps) s=match s.get p with|some v=>(zci ps s).set p v|none=>zci ps s:=rfl
theorem zcM (ps:List (List Bool)) (s:za) (p:List Bool):(zci ps s).get p=if p∈ps then s.get p else none:=by
 induction ps with
 |nil=>exact PT.get_nil _
 |cons q ps ih=>
  grind [zlr,PT.get_set_same,PT.get_set_ne]
theorem SR.keep0 {ρ:Rho} {s:za} {tmps:Array Value} (h:SR ρ s tmps) (L:List (List Bool)):SR ρ (zci L s) tmps:=by
 intro t v hv
 rw[zcM] at hv
 split at hv
 ·exact h t v hv
 grind
theorem SR.keep {ρ:Rho} {s:za} {tmps:Array Value} (h:SR ρ s tmps) (L:List (List Bool)):SR ρ (zb5 L s) tmps:=by
 cases L with
 |nil=>exact h
 |cons p L=>exact h.keep0 (p::L)
end Go.Ideal
namespace Go.Ideal
variable {P:Program}
def upd (ρ:Rho) (i:Nat) (R:RB):Rho:=fun j=>if j=i then some R else ρ j
theorem zH (ρ:Rho) (i:Nat) (R:RB):upd ρ i R i=some R:=by simp[upd]
theorem zdF {ρ:Rho} {i:Nat} (R:RB) (h:ρ i=none):zhD ρ (upd ρ i R):=by
 intro j S hj
 grind [upd]
theorem OR.mono {ρ σ:Rho} {w w':World} {R:RB} {o:IObj} (h:OR P ρ w R o) (hl:zhD ρ σ) (hw:w'.heap[R.blk]? =w.heap[R.blk]?):OR P σ w' R o:=by
 cases o with
 |cells cs esz=>
  obtain⟨h1,h2,c,t,fr,h3,h7,h4,h5,h6⟩:=h
  exact⟨h1,h2,c,t,fr,hw.trans h3,h7,h4,h5,fun j v hj=>let⟨v',a,b⟩:=h6 j v hj;⟨v',a,b.imp id (·.mono hl)⟩⟩
 |map es clock=>
  obtain⟨es',h1,h2,h3⟩:=h
  exact⟨es',hw.trans h1,h2,fun j e hj=>let⟨e',a,b,c,d⟩:=h3 j e hj;⟨e',a,b.mono hl,c.mono hl,d⟩⟩
 |loop st pend sl rc=>
  obtain⟨r,h1,h2,h3,h4,h5⟩:=h
  exact⟨r,hw.trans h1,h2,h3,h4.mono hl,h5⟩
 |dead=>trivial
 |glob b x=>
  obtain⟨h1,c,t,fr,h2,h3,h4⟩:=h
  exact⟨h1,c,t,fr,h2,hw.trans h3,h4⟩
theorem zI {w:World} {o:Obj} {B:Nat} (h:B<w.heap.size):(w.alloc o).heap[B]? =w.heap[B]?:=by
 show(w.heap.push o)[B]? =_
 grind
theorem zbS (w:World) (o:Obj):(w.alloc o).heap[w.heap.size]? =some o:=by
 show(w.heap.push o)[w.heap.size]? =_
 grind
theorem zlx {w:World} {o:Obj} (hc:Calm o) (a:Addr):(w.alloc o).frozen? a=w.frozen? a:=by
 unfold World.frozen?
 by_cases h:a.block=w.heap.size
 ·rw[h,zbS]
  have e:w.heap[w.heap.size]? =none:=by simp
  rw[e]
  cases o with
  |cells c t fr=>rw[hc c t fr rfl];simp
  |_=>rfl
 ·have e:(w.alloc o).heap[a.block]? =w.heap[a.block]?:=by
   show(w.heap.push o)[a.block]? =_
   grind
  rw[e]
theorem froz_old {w:World} {o:Obj} {a:Addr} (h:a.block<w.heap.size):(w.alloc o).frozen? a=w.frozen? a:=by
 grind [World.frozen?,zI]
theorem froz_put {w:World} {B:Nat} {o o0:Obj} (hw:w.heap[B]? =some o0) (h0:Calm o0) (hc:Calm o) (a:Addr):World.frozen? {w with heap:=w.heap.setIfInBounds B o} a=w.frozen? a:=by
 unfold World.frozen?
 have hlt:=(Array.getElem?_eq_some_iff.1 hw).1
 by_cases h:a.block=B
 ·have e:(w.heap.setIfInBounds B o)[a.block]? =some o:=by grind
  have e0:w.heap[a.block]? =some o0:=by grind
  simp only[e,e0]
  cases o with
  |cells c t fr=>
   rw[hc c t fr rfl]
   cases o0 with
   |cells c0 t0 fr0=>rw[h0 c0 t0 fr0 rfl]
   |_=>simp
  |_=>
   cases o0 with
   |cells c0 t0 fr0=>rw[h0 c0 t0 fr0 rfl];simp
   |_=>rfl
 grind
theorem GlOk.at {w:World} (h:GlOk w) {b:Nat} {x:Value} (e:gZ=some (b,x)): ∃c t fr,w.heap[b]? =some (.cells c t fr):=by
 have:=h b x e
 unfold World.cell? at this
 dsimp only at this
 split at this
 ·rename_i hb;exact⟨_,_,_,hb⟩
 ·cases this
theorem GlOk.lt {w:World} (h:GlOk w) {b:Nat} {x:Value} (e:gZ=some (b,x)):b<w.heap.size:=by
 obtain⟨_,_,_,hb⟩:=h.at e
 exact(Array.getElem?_eq_some_iff.1 hb).1
theorem GlOk.to {w w':World} (h:GlOk w) (k: ∀b x,gZ=some (b,x)→w'.heap[b]? =w.heap[b]?):GlOk w':=fun b x e=>by
 have:=h b x e
 unfold World.cell? at this⊢
 rw[k b x e];exact this
theorem HR.glUpd {ρ:Rho} {h:H} {w:World} (hr:HR P ρ h w) {i:Nat} {R:RB} (hb:R.blk=w.heap.size): ∀b x,gZ=some (b,x)→ ∀j S,upd ρ i R j=some S→S.blk=b→S.fix≠none:=fun b x e j S hj hs=>by
 by_cases ej:j=i
 ·subst ej;rw[zH] at hj;cases hj
  have:=hr.gl.1.lt e;omega
 ·simp only[upd,ej,if_false] at hj
  exact hr.gl.2 b x e j S hj hs
theorem HR.glAlloc {ρ:Rho} {h:H} {w:World} (hr:HR P ρ h w) (o:Obj):GlOk (w.alloc o):=hr.gl.1.to fun _ _ e=>zI (hr.gl.1.lt e)
theorem HR.newIdeal {ρ:Rho} {h:H} {w:World} (hr:HR P ρ h w) (io:IObj) (hng: ∀b x,io≠ .glob b x):HR P ρ (h.new io) w where
 obj:=fun i R o hi ho=>by
  rw[H.get_new] at ho
  by_cases e:h.next=i
  ·subst e;rw[(hr.nxt _ (Nat.le_refl _)).1] at hi;cases hi
  ·rw[if_neg e] at ho;exact hr.obj i R o hi ho
 nxt:=fun i hi=>by
  rw[H.next_new] at hi
  rw[H.get_new,if_neg (by omega)]
  exact hr.nxt i (by omega)
 sep:=fun i j R S hi hj ai aj e=>by
  have k: ∀i R,ρ i=some R→zeF (h.new io) i→zeF h i:=by
   intro i R hi ⟨o,ho,hd⟩
   rw[H.get_new] at ho
   by_cases e:h.next=i
   ·subst e;rw[(hr.nxt _ (Nat.le_refl _)).1] at hi;cases hi
   ·rw[if_neg e] at ho;exact⟨o,ho,hd⟩
  exact hr.sep i j R S hi hj (k i R hi ai) (k j S hj aj) e
 blk:=hr.blk
 glb:=fun i b x hi=>by
  rw[H.get_new] at hi
  by_cases e:h.next=i
  ·grind
  ·rw[if_neg e] at hi;exact hr.glb i b x hi
 gl:=hr.gl
theorem HR.mapNew {ρ:Rho} {h:H} {w:World} (hr:HR P ρ h w) {i:Nat} {R:RB} {io:IObj} {o:Obj} (hi:ρ i=none) (hlt:i<h.next) (hg:h.get i=some io)
 (hb:R.blk=w.heap.size) (hcalm:True) (ho:OR P (upd ρ i R) (w.alloc o) R io):HR P (upd ρ i R) h (w.alloc o)∧Ext ρ w (upd ρ i R) (w.alloc o):=by
 refine⟨⟨fun j S o' hj ho'=> ?_,fun j hj=> ?_,fun j k S T hj hk aj ak e=> ?_,fun j S hj=> ?_,fun j b x hj=>let⟨S,hS⟩:=hr.glb j b x hj;⟨S,zdF R hi j S hS⟩,hr.glAlloc o,hr.glUpd hb⟩,⟨zdF R hi,by simp,fun j S hj=> ?_,fun B hB hn=>zI hB,fun B r hr'=>⟨r,?_,rfl⟩,rfl,rfl,fun a ha=>froz_old ha,⟨rfl,Nat.le_refl _⟩⟩⟩
 ·by_cases e:j=i
  ·grind [zH]
  ·simp only[upd,e,if_false] at hj
   exact(hr.obj j S o' hj ho').mono (zdF R hi) (zI (hr.blk j S hj))
 ·have:=hr.nxt j hj
  grind [upd]
 ·by_cases ej:j=i
  ·subst ej
   rw[zH] at hj;cases hj
   by_cases ek:k=j
   ·grind
   ·simp only[upd,ek,if_false] at hk
    have:=hr.blk k T hk;omega
  ·simp only[upd,ej,if_false] at hj
   by_cases ek:k=i
   ·subst ek;rw[zH] at hk;cases hk
    have:=hr.blk j S hj;omega
   ·simp only[upd,ek,if_false] at hk
    exact hr.sep j k S T hj hk aj ak e
 ·by_cases e:j=i
  ·simp_all[zH]
  ·simp only[upd,e,if_false] at hj
   have:=hr.blk j S hj;simp;omega
 all_goals grind [upd,zI]
theorem HR.newF {ρ:Rho} {h:H} {w:World} (hr:HR P ρ h w) {R:RB} {io:IObj} {o:Obj} (hb:R.blk=w.heap.size) (ho:OR P (upd ρ h.next R) (w.alloc o) R io):
 HR P (upd ρ h.next R) (h.new io) (w.alloc o)∧Ext ρ w (upd ρ h.next R) (w.alloc o):=by
 have hi:=(hr.nxt _ (Nat.le_refl _)).1
 have hd:HR P ρ (h.new .dead) w:=hr.newIdeal .dead (fun _ _ e=>by cases e)
 obtain⟨k1,k2⟩:=hd.mapNew (R:=R) (o:=o) (io:=.dead) hi (by simp) (by simp) hb True.intro trivial
 have gets: ∀j x,(h.new io).get j=some x→(h.next=j∧x=io)∨(h.next≠j∧(h.new .dead).get j=some x∧h.get j=some x):=fun j x hx=>by
  grind [H.get_new]
 refine⟨⟨fun j S x hj hx=> ?_,fun j hj=>⟨(k1.nxt j hj).1,?_⟩,fun j k S T hj hk aj ak e=> ?_,k1.blk,fun j b x hj=> ?_,k1.gl⟩,k2⟩
 ·rcases gets j x hx with⟨rfl,rfl⟩| ⟨e,h1,-⟩
  ·grind [zH]
  ·exact k1.obj j S x hj h1
 ·have hj':h.next+1≤j:=hj
  rw[H.get_new,if_neg (by omega)];exact(hr.nxt j (by omega)).2
 ·by_cases ej:j=h.next
  ·subst ej;rw[zH] at hj;cases hj
   by_cases ek:k=h.next
   ·grind
   ·simp only[upd,ek,if_false] at hk
    have:=hr.blk k T hk;omega
  ·simp only[upd,ej,if_false] at hj
   by_cases ek:k=h.next
   ·subst ek;rw[zH] at hk;cases hk
    have:=hr.blk j S hj;omega
   ·simp only[upd,ek,if_false] at hk
    have al: ∀l,l≠h.next→zeF (h.new io) l→zeF h l:=fun l hl ⟨x,hx,hxd⟩=>by
     rcases gets l x hx with⟨e,-⟩| ⟨-,-,h2⟩
     ·grind
     ·exact⟨x,h2,hxd⟩
    exact hr.sep j k S T hj hk (al j ej aj) (al k ek ak) e
 ·rcases gets j _ hj with⟨rfl,-⟩| ⟨e,-,h2⟩
  ·simp_all[zH]
  ·obtain⟨S,hS⟩:=hr.glb j b x h2
   exact⟨S,zdF R hi j S hS⟩
theorem HR.new {ρ:Rho} {h:H} {w:World} (hr:HR P ρ h w) {R:RB} {io:IObj} {o:Obj} (hb:R.blk=w.heap.size) (_hcalm:Calm o) (ho:OR P (upd ρ h.next R) (w.alloc o) R io):
 HR P (upd ρ h.next R) (h.new io) (w.alloc o)∧Ext ρ w (upd ρ h.next R) (w.alloc o):=hr.newF hb ho
theorem OR.newCells {ρ:Rho} {w:World} {R:RB} {cs:List Value} {esz:Nat} {c:Array Value} (t:TypeId) (hb:R.blk=w.heap.size) (h1:R.esz=esz) (h2:R.ilen=cs.length) (h0:R.base=0) (hf:R.fix=none)
 (h3:c.size=R.csize) (h4:cs.length≤c.size) (hv:VRL ρ cs (c.toList.take cs.length)):OR P ρ (w.alloc (.cells c t)) R (.cells cs esz):=by
 refine⟨h1,h2,c,t,_,by grind [zbS],.inl ⟨hf,rfl⟩,h3,by grind,fun j v hj=> ?_⟩
 obtain⟨v',hv',hr⟩:=hv.get hj
 grind
theorem HR.drew {ρ:Rho} {h:H} {w:World} (hr:HR P ρ h w):HR P ρ h w.drew:=
 ⟨fun i R o hi ho=>(hr.obj i R o hi ho).mono (fun _ _ h=>h) rfl,hr.nxt,hr.sep,hr.blk,hr.glb,hr.gl⟩
theorem Ext.drew (ρ:Rho) (w:World):Ext ρ w ρ w.drew:=
 ⟨fun _ _ h=>h,Nat.le_refl _,fun i R h=>.inl ⟨i,R,h,rfl⟩,fun _ _ _=>rfl,fun _ r h=>⟨r,h,rfl⟩,rfl,rfl,fun _ _=>rfl,⟨rfl,Nat.le_succ _⟩⟩
theorem HR.putBoth {ρ:Rho} {h:H} {w:World} (hr:HR P ρ h w) {i:Nat} {R:RB} {io io0:IObj} {o o0:Obj} (hi:ρ i=some R) (hg:h.get i=some io0) (hd:io0≠ .dead)
 (hw:w.heap[R.blk]? =some o0) (hl: ∀r:Loop,o0=.loop r→ ∃r':Loop,o=.loop r'∧r'.defers=r.defers) (hc0:Calm o0) (hc:Calm o) (hnc:(∀c t fr,o0≠ .cells c t fr)∨R.fix=none)
 (ho:OR P ρ {w with heap:=w.heap.setIfInBounds R.blk o} R io):
 HR P ρ (h.put i io) {w with heap:=w.heap.setIfInBounds R.blk o}∧Ext ρ w ρ {w with heap:=w.heap.setIfInBounds R.blk o}:=by
 have hlt:=hr.blk i R hi
 have other: ∀B,B≠R.blk→(w.heap.setIfInBounds R.blk o)[B]? =w.heap[B]?:=fun B hB=>by grind
 have ali:zeF h i:=⟨io0,hg,hd⟩
 have hgl: ∀b x,gZ=some (b,x)→b≠R.blk:=fun b x e hb=>by
  rcases hnc with h1|h1
  ·obtain⟨c,t,fr,h2⟩:=hr.gl.1.at e
   rw[hb,hw] at h2
   exact h1 c t fr (Option.some.inj h2)
  ·exact hr.gl.2 b x e i R hi hb.symm h1
 refine⟨⟨fun j S o' hj ho'=> ?_,fun j hj=> ?_,fun j k S T hj hk aj ak e=> ?_,fun j S hj=>by have:=hr.blk j S hj;grind,fun j b x hj=> ?_,hr.gl.1.to fun b x e=>other b (hgl b x e),hr.gl.2⟩,⟨fun _ _ h=>h,by simp,fun j S hj=>.inl ⟨j,S,hj,rfl⟩,fun B hB hn=>other B (fun e=>hn i R hi e.symm),fun B r hrr=> ?_,rfl,rfl,fun a _=>froz_put hw hc0 hc a,⟨rfl,Nat.le_refl _⟩⟩⟩
 ·rw[H.get_put] at ho'
  by_cases e:i=j
  ·grind
  ·rw[if_neg e] at ho'
   by_cases ed:o'=.dead
   ·subst ed;trivial
   ·refine(hr.obj j S o' hj ho').mono (fun _ _ h=>h) (other _ ?_)
    intro eb
    exact e (hr.sep i j R S hi hj ali ⟨o',ho',ed⟩ eb.symm)
 ·have hn:i≠j:=by
   intro e;subst e
   have:=(hr.nxt i hj).1;grind
  rw[H.next_put] at hj
  rw[H.get_put,if_neg hn];exact hr.nxt j hj
 ·have k0: ∀l,zeF (h.put i io) l→zeF h l:=by
   intro l ⟨x,hx,hxd⟩
   rw[H.get_put] at hx
   by_cases e:i=l
   ·grind
   ·rw[if_neg e] at hx;exact⟨x,hx,hxd⟩
  exact hr.sep j k S T hj hk (k0 j aj) (k0 k ak) e
 ·rw[H.get_put] at hj
  by_cases e:i=j
  ·grind
  ·rw[if_neg e] at hj;exact hr.glb j b x hj
 grind
theorem HR.kill {ρ:Rho} {h:H} {w:World} (hr:HR P ρ h w) {i:Nat} (hn:i<h.next):HR P ρ (h.put i .dead) w where
 obj:=fun j R o hj ho=>by
  rw[H.get_put] at ho
  by_cases e:i=j
  ·rw[if_pos e] at ho;cases ho;trivial
  ·rw[if_neg e] at ho;exact hr.obj j R o hj ho
 nxt:=fun j hj=>by
  rw[H.next_put] at hj
  rw[H.get_put,if_neg (by omega)];exact hr.nxt j hj
 sep:=fun j k R S hj hk aj ak e=>by
  have k0: ∀l,zeF (h.put i .dead) l→zeF h l:=by
   intro l ⟨x,hx,hxd⟩
   rw[H.get_put] at hx
   by_cases e:i=l
   ·grind
   ·rw[if_neg e] at hx;exact⟨x,hx,hxd⟩
  exact hr.sep j k R S hj hk (k0 j aj) (k0 k ak) e
 blk:=hr.blk
 glb:=fun j b x hj=>by
  rw[H.get_put] at hj
  by_cases e:i=j
  ·grind
  ·rw[if_neg e] at hj;exact hr.glb j b x hj
 gl:=hr.gl
theorem HR.lt {ρ:Rho} {h:H} {w:World} (hr:HR P ρ h w) {i:Nat} {o:IObj} (hg:h.get i=some o):i<h.next:=by
 by_cases hn:h.next≤i
 ·rw[(hr.nxt i hn).2] at hg;cases hg
 ·omega
theorem HR.garbage {ρ:Rho} {h:H} {w:World} (hr:HR P ρ h w) {o:Obj} (hcalm:Calm o):HR P ρ h (w.alloc o)∧Ext ρ w ρ (w.alloc o):=
 ⟨⟨fun i R o' hi ho=>(hr.obj i R o' hi ho).mono (fun _ _ h=>h) (zI (hr.blk i R hi)),hr.nxt,hr.sep,fun i R hi=>by have:=hr.blk i R hi;simp;omega,hr.glb,hr.glAlloc o,hr.gl.2⟩,
  ⟨fun _ _ h=>h,by simp,fun i R h=>.inl ⟨i,R,h,rfl⟩,fun B hB _=>zI hB,fun B r hr'=>⟨r,by grind [zI],rfl⟩,rfl,rfl,fun a _=>zlx hcalm a,⟨rfl,Nat.le_refl _⟩⟩⟩
theorem HR.shut {ρ σ:Rho} {h:H} {w w':World} (hr:HR P σ h w') (he:Ext ρ w σ w') {D:Nat} {o:Obj} (hcalm:Calm o) {o0:Obj} (ho0:w'.heap[D]? =some o0) (hc0:Calm o0) (hnc: ∀c t fr,o0≠ .cells c t fr) (hD:w.heap.size≤D) (hn: ∀i R,σ i=some R→R.blk≠D):
 HR P σ h (w'.putObj D o)∧Ext ρ w σ (w'.putObj D o):=by
 have other: ∀B,B≠D→(w'.putObj D o).heap[B]? =w'.heap[B]?:=fun B hB=>World.putObj_heap_other hB
 refine⟨⟨fun i R o' hi ho=>(hr.obj i R o' hi ho).mono (fun _ _ h=>h) (other _ (hn i R hi)),hr.nxt,hr.sep,fun i R hi=>by have:=hr.blk i R hi;simp_all,hr.glb,hr.gl.1.to (fun b x e=>other b (fun eb=>by
  obtain⟨c,t,fr,h2⟩:=hr.gl.1.at e
  rw[eb,ho0] at h2
  exact hnc c t fr (Option.some.inj h2))),hr.gl.2⟩,
  ⟨he.le,by have:=he.size;simp_all,he.fresh,fun B hB h=>by rw[other B (by omega)];exact he.frame B hB h,fun B r hr'=> ?_,he.os,he.out,fun a ha=>(froz_put ho0 hc0 hcalm a).trans (he.froz a ha),he.td⟩⟩
 have hB:=(Array.getElem?_eq_some_iff.1 hr').1
 rw[other B (by omega)]
 exact he.loops B r hr'
end Go.Ideal
namespace Go.Ideal
variable {P:Program}
theorem aof {α β:Type} {f:α→Option β} {o:Option α} {b:β} (h:o.bind f=some b): ∃a,o=some a∧f a=some b:=Option.bind_eq_some_iff.1 h
theorem amf {α β:Type} {f:α→β} {o:Option α} {b:β} (h:o.map f=some b): ∃a,o=some a∧f a=b:=Option.map_eq_some_iff.1 h
theorem VR.refl1 {ρ:Rho} {v:Value} (h:zdW v=true):VR ρ v v:=by
 unfold zdW at h
 grind [bool,int,str,ptrNil,sliceNil,mapNil,nilFunc,nilIface]
theorem VRL.refl1 {ρ:Rho} {l:List Value} (h: ∀v∈l,zdW v=true):VRL ρ l l:=
 ⟨rfl,fun j x y hx hy=>by grind [VR.refl1]⟩
theorem VR.refl {ρ:Rho} {v:Value} (h:zfK v=true):VR ρ v v:=by
 unfold zfK at h
 split at h
 ·rename_i cs
  have hl:VRL ρ cs.toList cs.toList:=VRL.refl1 (fun v hv=>List.all_eq_true.1 h v hv)
  exact VR.agg_of hl
 grind [VR.refl1]
theorem zbg {x:Operand} {c:CO} (hc:co x=some c) {ρ:Rho} {s:za} {a:Act} (hs:SR ρ s a.tmps) {v:Value} (hv:c.ev s=some v):VR ρ v (a.eval x):=by
 cases x with
 |tmp t=>
  simp only[co,Option.some.injEq] at hc;subst hc
  obtain⟨v',h1,h2⟩:=hs t v hv
  have:a.eval (.tmp t)=v':=by show a.tmps.getD t undef=v';simp_all
  grind
 |const u=>
  simp only[co] at hc
  split at hc
  ·rename_i hk
   cases hc
   have e:u=v:=by grind [CO.ev]
   subst e
   exact VR.refl hk
  grind
 |global g=>cases hc
 |func f=>
  simp only[co,Option.some.injEq] at hc;subst hc
  have e:Value.func (.func f) #[] #[]=v:=by grind [CO.ev]
  subst e
  exact .func f rfl rfl (by simp) (by simp)
theorem evL_cons (s:za) (x:CO) (l:List CO):evL s (x::l)=(x.ev s).bind fun v=>(evL s l).map (v:: ·):=rfl
theorem coL_ev {ρ:Rho} {s:za} {a:Act} (hs:SR ρ s a.tmps): ∀{xs:List Operand} {cs:List CO} {vs:List Value},allO co xs=some cs→evL s cs=some vs→VRL ρ vs (xs.map a.eval)
 | [],cs,vs,h,hv=>by cases h;cases hv;exact .nil _
 |x::xs,cs,vs,h,hv=>by
  obtain⟨c,hc,h⟩:=aof h
  obtain⟨cs',hcs,rfl⟩:=amf h
  rw[evL_cons] at hv
  obtain⟨v,hv1,hv⟩:=aof hv
  obtain⟨vs',hv2,rfl⟩:=amf hv
  exact .cons (zbg hc hs hv1) (coL_ev hs hcs hv2)
theorem VR.inv_int {ρ:Rho} {k:IntKind} {n:Int} {v':Value} (h:VR ρ (.int k n) v'):v'=.int k n:=by cases h;rfl
theorem VR.inv_bool {ρ:Rho} {b:Bool} {v':Value} (h:VR ρ (.bool b) v'):v'=.bool b:=by cases h;rfl
theorem VR.inv_str {ρ:Rho} {b:ByteArray} {v':Value} (h:VR ρ (.string b) v'):v'=.string b:=by cases h;rfl
theorem VR.inv_ptr {ρ:Rho} {a:Addr} {v':Value} (h:VR ρ (.pointer (some a)) v'): ∃R,ρ a.block=some R∧v'=.pointer (some ⟨R.blk,R.base+a.off,none⟩):=by
 cases h with|ptr h=>grind
theorem zee {v:Value} {a:Addr} (h:zgD v=some a):v=.pointer (some a):=by
 unfold zgD at h;grind
theorem Addr.add_mk (b o n:Nat):(⟨b,o,none⟩:Addr).add n=⟨b,o+n,none⟩:=by grind [Addr.add]
theorem zk6 {n:Nat} {l r:List Value} (h:zkJ n l=some r):zhO n l=some r∧ ∀v∈r,v≠poison:=by
 obtain⟨x,hx,h⟩:=aof h
 unfold cleanL at h
 split at h
 ·rename_i hc
  cases h
  refine⟨hx,fun v hv e=> ?_⟩
  have:=List.all_eq_true.1 hc v hv
  rw[e] at this;cases this
 grind
theorem zhW {h:H} {i off n:Nat} {l:List Value} (hr:h.readN i off n=some l): ∃cs esz,h.get i=some (.cells cs esz)∧n≤(cs.drop off).length∧l=(cs.drop off).take n∧ ∀v∈l,v≠poison:=by
 obtain⟨o,ho,hr⟩:=aof hr
 cases o with
 |cells cs esz=>
  obtain⟨hr,hcl⟩:=zk6 (show zkJ n (zey off cs)=some l from hr)
  grind [zdG,zcf]
 |map es c=>cases hr
 |loop a b c d=>cases hr
 |dead=>cases hr
 |glob _ _=>cases hr
theorem zeB {ρ:Rho} {h:H} {w:World} (hr:HR P ρ h w) {i off n:Nat} {R:RB} (hi:ρ i=some R) {l:List Value} (hl:h.readN i off n=some l):
 l.length=n∧ ∃l',VRL ρ l l'∧ ∀j v,l'[j]? =some v→w.cell? ((⟨R.blk,R.base+off,none⟩:Addr).add j)=some v:=by
 obtain⟨cs,esz,hg,hle,rfl,hcl⟩:=zhW hl
 obtain⟨_,_,c,t,fr,hb,_,hcs,hfit,hcell⟩:=hr.obj i R _ hi hg
 rw[List.length_drop] at hle
 refine⟨by grind,(c.toList.drop (R.base+off)).take n,⟨by grind,fun j x y hx hy=> ?_⟩,fun j v hj=> ?_⟩
 all_goals grind [Addr.add_mk,World.cell?]
theorem zh1 {ρ:Rho} {h:H} {w:World} (hr:HR P ρ h w) {i off n:Nat} {R:RB} (hi:ρ i=some R) {l:List Value} (hl:h.readN i off n=some l):
 ∃l',VRL ρ l l'∧(loadCells ⟨R.blk,R.base+off,none⟩ n).run P w=.ok ⟨l'⟩ w:=by
 obtain⟨hn,l',hv,hc⟩:=zeB hr hi hl
 refine⟨l',hv,?_⟩
 have e:n=l'.length:=by rw[←hn];exact hv.1
 grind [run_loadCells_list]
theorem load_cell {ρ:Rho} {h:H} {w:World} (hr:HR P ρ h w) {i off:Nat} {R:RB} (hi:ρ i=some R) {l:List Value} (hl:h.readN i off 1=some l) {v:Value} (ho:oneOf l=some v):
 ∃v',VR ρ v v'∧(load ⟨R.blk,R.base+off,none⟩).run P w=.ok v' w:=by
 obtain⟨hn,l',hv,hc⟩:=zeB hr hi hl
 unfold oneOf at ho
 split at ho
 ·rename_i x
  cases ho
  obtain⟨y,ys,rfl,h1,h2⟩:=hv.cons_left
  refine⟨y,h1,?_⟩
  have:=hc 0 y rfl
  grind [Addr.add_mk,run_load]
 grind
theorem ziJ {t:TypeId} {n:Nat} (h:zdB P t=some (some n)):(∀w,(isAgg t).run P w=.ok true w)∧(∀w,(sizeOf t).run P w=.ok n w):=by
 obtain⟨d,hd,h⟩:=aof h
 cases d<;>simp only[Option.map_eq_some_iff,Option.some.injEq,reduceCtorEq] at h
 all_goals
  obtain⟨i,hi,rfl⟩:=h
  simp_all[isAgg,run_underlying,sizeOf,run_typeInfo]
theorem ziK {t:TypeId} (h:zdB P t=some none): ∀w,(isAgg t).run P w=.ok false w:=by
 obtain⟨d,hd,h⟩:=aof h
 intro w
 cases d<;>simp only[Option.map_eq_some_iff,reduceCtorEq,and_false,exists_false] at h
 all_goals simp[isAgg,run_underlying hd]
theorem zG {t:TypeId} {n:Nat} (h:zJ P t=some n) (w:World):(sizeOf t).run P w=.ok n w:=by
 obtain⟨i,hi,rfl⟩:=amf h
 simp[sizeOf,run_typeInfo w hi]
theorem zco {t:TypeId} {z:List Value} (h:zbC P t=some z):(∃v:Value,v.cells.toList=z∧ ∀w,(zeroValue t).run P w=.ok v w)∧ ∀v∈z,zdW v=true:=by
 obtain⟨i,hi,h⟩:=aof h
 obtain⟨v,hv,h⟩:=aof h
 simp_all[zeroValue,run_typeInfo]
theorem loadVarN {ρ:Rho} {h:H} {w:World} (hr:HR P ρ h w) {t:TypeId} {n:Nat} (ht:zdB P t=some (some n)) {i off:Nat} {R:RB} (hi:ρ i=some R) {l:List Value} (hl:h.readN i off n=some l):
 ∃v',VR ρ (.agg ⟨l⟩) v'∧(loadVar t ⟨R.blk,R.base+off,none⟩).run P w=.ok v' w:=by
 obtain⟨l',hv,hrun⟩:=zh1 hr hi hl
 simp_all[ziJ,VR.agg_of,loadVar]
theorem loadVar1 {ρ:Rho} {h:H} {w:World} (hr:HR P ρ h w) {t:TypeId} (ht:zdB P t=some none) {i off:Nat} {R:RB} (hi:ρ i=some R) {l:List Value} (hl:h.readN i off 1=some l) {v:Value} (ho:oneOf l=some v):
 ∃v',VR ρ v v'∧(loadVar t ⟨R.blk,R.base+off,none⟩).run P w=.ok v' w:=by
 grind [load_cell,loadVar,Sem.run_bind,ziK,Result.andThen_ok]
def SimP (P:Program) (ρ:Rho) (w:World) (r:Result Next) (v:Value):Prop:= ∃v',r=.ok (.value v') w∧VR ρ v v'
theorem zp {ρ:Rho} {w:World} {s:Sem Value} {v v':Value} (h:s.run P w=.ok v' w) (hv:VR ρ v v'):SimP P ρ w ((do pure (Next.value (←s)):Sem Next).run P w) v:=
 ⟨v',by simp[h],hv⟩
end Go.Ideal
namespace Go.Ideal
variable {P:Program}
theorem zhs (a b:Int):eqI a b=(a==b):=by
 cases a<;>cases b<;>simp[eqI]<;>(rw[Bool.eq_iff_iff];simp)<;>omega
theorem zej (a b:Int):ltI a b=decide (a<b):=by
 cases a with
 |ofNat m=>cases b with
  |ofNat n=>grind [ltI,Nat.blt_eq]
  |negSucc n=>grind [ltI]
 |negSucc m=>cases b with
  |ofNat n=>grind [ltI]
  |negSucc n=>grind [ltI,Nat.blt_eq]
theorem wrap_small (k:IntKind) (m:Nat) (h:m≤smallOf k):k.wrap (Int.ofNat m)=Int.ofNat m:=by
 cases k<;>simp[IntKind.wrap,IntKind.bits,IntKind.signed,smallOf] at* <;>omega
theorem wrapF_eq (k:IntKind) (n:Int):zkG k n=k.wrap n:=by
 cases n with
 |ofNat m=>
  grind [zkG,wrap_small,Nat.le_of_ble_eq_true]
 |negSucc m=>rfl
theorem zew: ∀{a b:List UInt8},z6 a b=true→a=b
 | [],[],_=>rfl
 |x::a,y::b,h=>by
  simp only[z6,Bool.and_eq_true] at h
  rw[zew h.2,UInt8.toNat_inj.1 (Nat.eq_of_beq_eq_true h.1)]
 | [],_::_,h=>by cases h
 |_::_,[],h=>by cases h
theorem zdT: ∀(l:List UInt8),z6 l l=true
 | []=>rfl
 |a::l=>by simp[z6,zdT l]
theorem zdU (l m:List UInt8):z6 l m=(l==m):=by
 grind [zew,zdT]
theorem beq_bytes (a b:ByteArray):(a==b)=(a.data==b.data):=by cases a;cases b;rfl
theorem zki (a b:ByteArray):z6 a.data.toList b.data.toList=(a==b):=by
 grind [beq_bytes,Array.toList_inj,zew,zdT]
theorem zgs (a:ByteArray):(a==a)=true:=by rw[beq_bytes];simp
theorem zkq {a b:ByteArray} (h:z6 a.data.toList b.data.toList=true):a=b:=by
 have:=Array.toList_inj.1 (zew h)
 cases a;simp_all
theorem zek: ∀(l m:List UInt8),zbL l m=Op.bytesLess l m
 |_,[]=>by grind [zbL,Op.bytesLess]
 | [],_::_=>rfl
 |a::l,b::m=>by
  have h1:Nat.blt a.toNat b.toNat=decide (a<b):=by grind [Nat.blt_eq,UInt8.lt_iff_toNat_lt]
  have h2:Nat.beq a.toNat b.toNat=(a==b):=by
   grind [UInt8.toNat_inj,Nat.eq_of_beq_eq_true,Nat.beq_refl]
  simp only[zbL,Op.bytesLess,h1,h2,zek l m]
theorem strB_run {a b:ByteArray} {op:BinOp} {v:Value} (h:strB a.data.toList b.data.toList op=some v) (t:TypeId) (w:World):(binOp op t (.string a) (.string b)).run P w=.ok v w∧zdW v=true:=by
 cases op<;>simp only[strB,Option.some.injEq,reduceCtorEq] at h
 case eql=>subst h;exact⟨by grind [binOp_string_eql,ByteArray.toList_eq,zdU,Sem.run_pure],rfl⟩
 case neq=>subst h;exact⟨by grind [binOp_string_neq,ByteArray.toList_eq,zdU,Sem.run_pure],rfl⟩
 case lss=>subst h;exact⟨by grind [binOp_string_lss,ByteArray.toList_eq,zek,Sem.run_pure],rfl⟩
 case leq=>subst h;exact⟨by grind [binOp_string_leq,ByteArray.toList_eq,zek,zdU,Sem.run_pure],rfl⟩
 case gtr=>subst h;exact⟨by grind [binOp_string_gtr,ByteArray.toList_eq,zek,zdU,Sem.run_pure],rfl⟩
 case geq=>subst h;exact⟨by grind [binOp_string_geq,ByteArray.toList_eq,zek,Sem.run_pure],rfl⟩
 case add=>
  split at h
  ·rename_i hle
   cases h
   have hle:=Nat.le_of_ble_eq_true hle
   refine⟨?_,rfl⟩
   have e:(⟨⟨a.data.toList++b.data.toList⟩⟩:ByteArray)=a++b:=by
    apply ByteArray.ext
    simp_all
   rw[binOp_string_add,e]
   have h1:a.size=a.data.toList.length:=rfl
   have h2:b.size=b.data.toList.length:=rfl
   grind [run_string_add_sum]
  grind
theorem zdM {t:TypeId} (h:zis P t=true): ∃k,P.underlying t=some (.int k):=by
 grind [zis]
theorem zbF {e:TypeId} (he:zis P e=true) {xs:Array Value} {off:Nat} {v:Value} (hx:xs[off]? =some v) (w:World):(part e xs off).run P w=.ok v w:=by
 obtain⟨k,hk⟩:=zdM he
 simp[part,isAgg,run_underlying hk,hx]
theorem zkL {x y:Value} {b:Bool} (h:zg6 x y=some b): ∃k m n,x=.int k m∧y=.int k n∧b=(m==n):=by
 unfold zg6 at h
 grind [zhs]
theorem zeN {xs ys:List Value} {i:Nat} {r:List Nat} {b:Bool} (h:sameAt xs ys (i::r)=some b):
 ∃k m n c,xs[i]? =some (.int k m)∧ys[i]? =some (.int k n)∧sameAt xs ys r=some c∧b=((m==n)&&c):=by
 obtain⟨x,hx,h⟩:=aof h
 obtain⟨y,hy,h⟩:=aof h
 obtain⟨b',hb,h⟩:=aof h
 obtain⟨c,hc,rfl⟩:=amf h
 grind [zkL]
theorem VRL.int_at {ρ:Rho} {xs ys:List Value} (h:VRL ρ xs ys) {i:Nat} {k:IntKind} {m:Int} (hx:xs[i]? =some (.int k m)):ys[i]? =some (.int k m):=by
 obtain⟨y,hy,hv⟩:=h.get hx
 rw[hv.inv_int] at hy;exact hy
theorem zhT {ρ:Rho} {xs ys xs' ys':List Value} (hx:VRL ρ xs xs') (hy:VRL ρ ys ys'): ∀{l:List Nat} {b:Bool},sameAt xs ys l=some b→sameAt xs' ys' l=some b
 | [],b,h=>h
 |i::r,b,h=>by
  obtain⟨k,m,n,c,h1,h2,h3,rfl⟩:=zeN h
  simp only[sameAt,hx.int_at h1,hy.int_at h2,Option.bind_some,zg6,if_true,zhs,zhT hx hy h3,Option.map_some]
theorem zfG (d:Nat) (xs ys:Array Value) (w:World): ∀(fs:List Field) (b:Bool),fs.all (fun f=>f.name != "_" &&zis P f.type)=true→sameAt xs.toList ys.toList (fs.map (·.offset))=some b→
 (Op.eqFields (d+1) xs ys fs).run P w=.ok b w
 | [],b,_,h=>by cases h;simp[Op.eqFields]
 |f::fs,b,hf,h=>by
  simp only[List.all_cons,Bool.and_eq_true] at hf
  obtain⟨⟨hn,hp⟩,hrest⟩:=hf
  obtain⟨k,m,n,c,h1,h2,h3,rfl⟩:=zeN h
  obtain⟨k0,hk0⟩:=zdM hp
  have hn':f.name≠ "_" :=by grind
  rw[Array.getElem?_toList] at h1 h2
  have ih:=zfG d xs ys w fs c hrest h3
  simp only[Op.eqFields,Sem.run_ite,if_pos hn',Sem.run_bind,zbF hp h1,zbF hp h2,Result.andThen_ok,run_equalIn_int w d f.type k k0 m n hk0]
  cases hmn:(m==n)
  ·simp
  grind
theorem zgl {e:TypeId} (he:zis P e=true) (d:Nat) (xs ys:Array Value) (w:World): ∀(is:List Nat) (b:Bool),sameAt xs.toList ys.toList is=some b→(Op.eqItems (d+1) e 1 xs ys is).run P w=.ok b w
 | [],b,h=>by cases h;simp[Op.eqItems]
 |i::is,b,h=>by
  obtain⟨k,m,n,c,h1,h2,h3,rfl⟩:=zeN h
  obtain⟨k0,hk0⟩:=zdM he
  rw[Array.getElem?_toList] at h1 h2
  have ih:=zgl he d xs ys w is c h3
  simp only[Op.eqItems,Nat.mul_one,Sem.run_bind,zbF he h1,zbF he h2,Result.andThen_ok,run_equalIn_int w d e k k0 m n hk0]
  cases hmn:(m==n)
  ·simp
  grind
theorem ziu {t:TypeId} {l:List Nat} (hl:zf0 P t=some l) (d:Nat) (xs ys:Array Value) (w:World) {b:Bool} (h:sameAt xs.toList ys.toList l=some b):
 (Op.equalIn (d+2) t (.agg xs) (.agg ys)).run P w=.ok b w:=by
 obtain⟨u,hu,hl⟩:=aof hl
 cases u with
 |struct fs=>
  grind [Program.fieldsOf,run_equalIn_struct,zfG]
 |array n e=>
  dsimp only at hl
  split at hl
  ·rename_i hp
   cases hl
   simp only[Bool.and_eq_true,beq_iff_eq] at hp
   obtain⟨i,hi,hsz⟩:=amf hp.2
   rw[run_equalIn_array w (d+1) xs ys hu hi]
   grind [Program.cellsOf,zgl]
  grind
 |_=>cases hl
theorem sameK_rel {ρ:Rho} {k:LK} {x y x' y':Value} (hx:VR ρ x x') (hy:VR ρ y y') {b:Bool} (h:sameK k x y=some b):sameK k x' y'=some b:=by
 unfold sameK at h
 split at h
 ·obtain rfl:=hx.inv_int;obtain rfl:=hy.inv_int;exact h
 ·obtain rfl:=hx.inv_bool;obtain rfl:=hy.inv_bool;exact h
 ·have e1:=hx.inv_str;have e2:=hy.inv_str;subst e1;subst e2;exact h
 grind
theorem zlf {ρ:Rho} {xs ys xs' ys':List Value} (hx:VRL ρ xs xs') (hy:VRL ρ ys ys'): ∀{l:List (Nat×LK)} {b:Bool},zdK xs ys l=some b→zdK xs' ys' l=some b
 | [],b,h=>h
 |i::r,b,h=>by
  obtain⟨x,h1,h⟩:=aof h
  obtain⟨y,h2,h⟩:=aof h
  obtain⟨b1,h3,h⟩:=aof h
  obtain⟨c,h4,rfl⟩:=amf h
  obtain⟨x',g1,r1⟩:=hx.get h1
  obtain⟨y',g2,r2⟩:=hy.get h2
  simp only[zdK,g1,g2,Option.bind_some,sameK_rel r1 r2 h3,zlf hx hy h4,Option.map_some]
theorem zeI {xs ys:List Value}: ∀{l m:List (Nat×LK)} {b:Bool},zdK xs ys (l++m)=some b→ ∃b1 b2,zdK xs ys l=some b1∧zdK xs ys m=some b2∧b=(b1&&b2)
 | [],m,b,h=>⟨true,b,rfl,h,by simp⟩
 |i::l,m,b,h=>by
  obtain⟨x,h1,h⟩:=aof h
  obtain⟨y,h2,h⟩:=aof h
  obtain⟨b1,h3,h⟩:=aof h
  obtain⟨c,h4,rfl⟩:=amf h
  obtain⟨c1,c2,e1,e2,rfl⟩:=zeI h4
  simp_all[Bool.and_assoc,zdK]
def SubK (P:Program) (t:TypeId) (X:List Value) (o:Nat) (l:List (Nat×LK)) (x:Value):Prop:=
 if zfb P t=true then∃xs:Array Value,x=.agg xs∧ ∀p∈l,∃i,p.1=o+i∧xs[i]? =X[p.1]? else X[o]? =some x
theorem zj1 {o s:Nat} {l m:List (Nat×LK)} (h:inLeaf o s l=some m):m=l∧ ∀p∈l,o≤p.1∧p.1<o+s:=by
 unfold inLeaf at h
 split at h
 ·rename_i hc
  cases h
  refine⟨rfl,fun p hp=> ?_⟩
  have:=List.all_eq_true.1 hc p hp
  simp_all
 grind
theorem ziv {n o:Nat} {t:TypeId} {l:List (Nat×LK)} (h:leavesK P n o t=some l) (ha:zfb P t=false): ∃k,l=[(o,k)]:=by
 cases n with
 |zero=>cases h
 |succ n=>
  obtain⟨u,hu,h⟩:=aof h
  grind [zfb]
theorem sameK_some {k:LK} {x y:Value} {b:Bool} (h:sameK k x y=some b):(∃q m n,k=.int∧x=.int q m∧y=.int q n∧b=(m==n))∨(∃m n,k=.bool∧x=.bool m∧y=.bool n∧b=(m==n))∨(∃m n,k=.str∧x=.string m∧y=.string n∧b=(m==n)):=by
 unfold sameK at h
 grind [zhs,zki]
theorem ziX {t:TypeId} {s:Nat} (hs:zJ P t=some s) {n o off:Nat} {l:List (Nat×LK)} (hl:leavesK P n (o+off) t=some l) (hin: ∀p∈l,o+off≤p.1∧p.1<o+off+s) {xs:Array Value} {X Y:List Value} {b:Bool} (hx: ∀p∈l,∃i,p.1=o+i∧xs[i]? =X[p.1]?)
 (hsome: ∀p∈l,∃v,X[p.1]? =some v) (w:World): ∃x,(part t xs off).run P w=.ok x w∧SubK P t X (o+off) l x:=by
 obtain⟨i,hi,rfl⟩:=amf hs
 cases hagg:zfb P t with
 |true=>
  refine⟨.agg (xs.extract off (off+i.size)),?_,?_⟩
  ·unfold zfb at hagg
   split at hagg
   all_goals simp_all[part,isAgg,run_underlying,run_sizeOf,Program.cellsOf]
  ·unfold SubK;rw[if_pos hagg]
   refine⟨_,rfl,fun p hp=> ?_⟩
   obtain⟨j,e,hj⟩:=hx p hp
   obtain⟨h1,h2⟩:=hin p hp
   refine⟨p.1 - (o+off),by omega,?_⟩
   grind
 |false=>
  obtain⟨k,rfl⟩:=ziv hl hagg
  obtain⟨j,e,hj⟩:=hx _ (List.mem_singleton.2 rfl)
  obtain⟨v,hv⟩:=hsome _ (List.mem_singleton.2 rfl)
  have e:j=off:=by grind
  subst e
  refine⟨v,?_,?_⟩
  ·have hxv:xs[j]? =some v:=hj.trans hv
   cases n with
   |zero=>cases hl
   |succ n=>
    obtain⟨u,hu,hl⟩:=aof hl
    unfold zfb at hagg
    rw[hu] at hagg
    cases u<;>first| (simp[part,isAgg,run_underlying hu,hxv];done)|grind
  grind [SubK]
theorem zlg {xs ys:List Value}: ∀{l:List (Nat×LK)} {b:Bool},zdK xs ys l=some b→ ∀p∈l,(∃v,xs[p.1]? =some v)∧ ∃v,ys[p.1]? =some v
 | [],_,_,p,hp=>by cases hp
 |i::r,b,h,p,hp=>by
  obtain⟨x,h1,h⟩:=aof h
  obtain⟨y,h2,h⟩:=aof h
  obtain⟨b1,h3,h⟩:=aof h
  obtain⟨c,h4,rfl⟩:=amf h
  rcases List.mem_cons.1 hp with rfl|hp
  ·grind
  ·exact zlg h4 p hp
theorem eqK_run (w:World): ∀(n o:Nat) (t:TypeId) (l:List (Nat×LK)),leavesK P n o t=some l→ ∀(X Y:List Value) (b:Bool),zdK X Y l=some b→ ∀x y,SubK P t X o l x→SubK P t Y o l y→ ∀d,(Op.equalIn (d+n) t x y).run P w=.ok b w:=by
 intro n
 induction n with
 |zero=>intro o t l h;cases h
 |succ n ih=>
  intro o t l hl X Y b hb x y hx hy d
  have hmem:=zlg hb
  obtain⟨u,hu,h⟩:=aof hl
  cases hagg:zfb P t with
  |false=>
   obtain⟨k,rfl⟩:=ziv hl hagg
   unfold SubK at hx hy
   rw[if_neg (by grind)] at hx hy
   obtain⟨x1,h1,hb⟩:=aof hb
   obtain⟨y1,h2,hb⟩:=aof hb
   obtain⟨b1,h3,hb⟩:=aof hb
   obtain⟨c,h4,rfl⟩:=amf hb
   cases h4
   have ex:x1=x:=Option.some.inj (h1.symm.trans hx)
   have ey:y1=y:=Option.some.inj (h2.symm.trans hy)
   subst ex;subst ey
   rw[Bool.and_true]
   unfold zfb at hagg
   rw[hu] at hagg
   rcases sameK_some h3 with⟨q,m,m',rfl,rfl,rfl,rfl⟩| ⟨m,m',rfl,rfl,rfl,rfl⟩| ⟨m,m',rfl,rfl,rfl,rfl⟩
   ·cases u<;>first| (cases h;done)|cases hagg|skip
    grind [run_equalIn_int]
   ·cases u<;>first| (cases h;done)|cases hagg|skip
    simp[Op.equalIn,run_underlying hu]
   ·cases u<;>first| (cases h;done)|cases hagg|skip
    simp[Op.equalIn,run_underlying hu]
  |true=>
   unfold SubK at hx hy
   rw[if_pos hagg] at hx hy
   obtain⟨xs,rfl,hx⟩:=hx
   obtain⟨ys,rfl,hy⟩:=hy
   unfold zfb at hagg
   rw[hu] at hagg
   cases u<;>first| (cases hagg;done)|skip
   case struct fs=>
    dsimp only at h
    split at h
    ·cases h
    ·rename_i hst
     obtain⟨ls,hls,rfl⟩:=amf h
     have e:P.fieldsOf t=fs:=by simp[Program.fieldsOf,hu]
     rw[show d+(n+1)=(d+n)+1 from rfl,run_equalIn_struct w (d+n) t xs ys (by grind) (by grind),e]
     clear h hl hagg hu e
     generalize fs.toList=fl at hls⊢
     induction fl generalizing ls b with
     |nil=>cases hls;cases hb;simp[Op.eqFields]
     |cons f fl ihf=>
      obtain⟨lf,hf,hls⟩:=aof hls
      obtain⟨lr,hlr,rfl⟩:=amf hls
      dsimp only at hf
      split at hf
      ·cases hf
      ·rename_i hnm
       obtain⟨s,hs,hf⟩:=aof hf
       obtain⟨l0,hl0,hf⟩:=aof hf
       obtain⟨rfl,hin⟩:=zj1 hf
       rw[List.flatten_cons] at hb hx hy hmem
       obtain⟨b1,b2,g1,g2,rfl⟩:=zeI hb
       obtain⟨xv,p1,s1⟩:=ziX (Y:=Y) (b:=b1) hs hl0 hin (fun p hp=>hx p (List.mem_append.2 (.inl hp))) (fun p hp=>(hmem p (List.mem_append.2 (.inl hp))).1) w
       obtain⟨yv,p2,s2⟩:=ziX (Y:=X) (b:=b1) hs hl0 hin (fun p hp=>hy p (List.mem_append.2 (.inl hp))) (fun p hp=>(hmem p (List.mem_append.2 (.inl hp))).2) w
       have hr:=ih _ _ _ hl0 X Y b1 g1 xv yv s1 s2 d
       have hrest:=ihf (b:=b2) (ls:=lr) g2 (fun p hp=>hmem p (List.mem_append.2 (.inr hp))) (fun p hp=>hx p (List.mem_append.2 (.inr hp))) (fun p hp=>hy p (List.mem_append.2 (.inr hp))) hlr
       have hn':f.name≠ "_" :=by grind
       simp only[Op.eqFields,Sem.run_ite,if_pos hn',Sem.run_bind,p1,p2,Result.andThen_ok,hr]
       cases b1
       ·simp
       grind
   case array m e=>
    obtain⟨s,hs,h2⟩:=aof h
    obtain⟨ls,hls,rfl⟩:=amf h2
    clear h2
    obtain⟨i,hi,hsz⟩:=amf hs
    rw[show d+(n+1)=(d+n)+1 from rfl,run_equalIn_array w (d+n) xs ys hu hi]
    have hce:P.cellsOf e=s:=by grind [Program.cellsOf]
    rw[hce]
    clear h hl hagg hu
    generalize List.range m=fl at hls⊢
    induction fl generalizing ls b with
    |nil=>cases hls;cases hb;simp[Op.eqItems]
    |cons f fl ihf=>
     obtain⟨lf,hf,hls⟩:=aof hls
     obtain⟨lr,hlr,rfl⟩:=amf hls
     obtain⟨l0,hl0,hf⟩:=aof hf
     obtain⟨rfl,hin⟩:=zj1 hf
     rw[List.flatten_cons] at hb hx hy hmem
     obtain⟨b1,b2,g1,g2,rfl⟩:=zeI hb
     obtain⟨xv,p1,s1⟩:=ziX (Y:=Y) (b:=b1) hs hl0 hin (fun p hp=>hx p (List.mem_append.2 (.inl hp))) (fun p hp=>(hmem p (List.mem_append.2 (.inl hp))).1) w
     obtain⟨yv,p2,s2⟩:=ziX (Y:=X) (b:=b1) hs hl0 hin (fun p hp=>hy p (List.mem_append.2 (.inl hp))) (fun p hp=>(hmem p (List.mem_append.2 (.inl hp))).2) w
     have hr:=ih _ _ _ hl0 X Y b1 g1 xv yv s1 s2 d
     have hrest:=ihf (b:=b2) (ls:=lr) g2 (fun p hp=>hmem p (List.mem_append.2 (.inr hp))) (fun p hp=>hx p (List.mem_append.2 (.inr hp))) (fun p hp=>hy p (List.mem_append.2 (.inr hp))) hlr
     simp only[Op.eqItems,Sem.run_bind,p1,p2,Result.andThen_ok,hr]
     cases b1
     ·simp
     grind
theorem leavesK_equal {t:TypeId} {l:List (Nat×LK)} (hl:leavesK P 6 0 t=some l) (ha:zfb P t=true) (d:Nat) (xs ys:Array Value) (w:World) {b:Bool} (h:zdK xs.toList ys.toList l=some b):
 (Op.equalIn (d+6) t (.agg xs) (.agg ys)).run P w=.ok b w:=by
 refine eqK_run w 6 0 t l hl _ _ b h _ _ ?_ ?_ d
 all_goals grind [SubK]
def EKOk (P:Program) (t:TypeId):EK→Prop
 |.other=>True
 |.bool=>P.underlying t=some .bool
 |.ptr=> ∃e,P.underlying t=some (.pointer e)
 |.slice=> ∃e,P.underlying t=some (.slice e)
 |.map=> ∃k e,P.underlying t=some (.map k e)
 |.func=> ∃a b c,P.underlying t=some (.func a b c)
 |.iface _=> ∃ms,P.underlying t=some (.interface ms)
 |.leaves l=>zf0 P t=some l∧P.eqGuardType P.depth t=false
 |.leavesK l=>leavesK P 6 0 t=some l∧zfb P t=true∧P.eqGuardType P.depth t=false
theorem eqKind_ok (t:TypeId) (x y:Operand):EKOk P t (zlB P t x y):=by
 unfold zlB
 split
 ·rename_i h;exact h
 ·rename_i h;exact⟨_,h⟩
 ·rename_i h;exact⟨_,h⟩
 ·rename_i h;exact⟨_,_,h⟩
 ·rename_i h;exact⟨_,_,_,h⟩
 ·rename_i h;exact⟨_,h⟩
 ·split
  ·rename_i l hl
   split
   ·trivial
   ·rename_i hg;exact⟨hl,by grind⟩
  ·split
   ·rename_i l hl
    split
    ·trivial
    ·rename_i hg
     simp only[Bool.or_eq_true,Bool.not_eq_true',not_or,Bool.not_eq_true,Bool.not_eq_false] at hg
     exact⟨hl,hg.2,hg.1⟩
   ·trivial
def NilOk (P:Program) (t:TypeId) (ek:EK) (x0 y0:Operand):Prop:=ek=.iface true→ ∀op w,(eqGuard op t x0 y0 .nilIface .nilIface).run P w=.ok () w
theorem eqKind_nil (t:TypeId) (x y:Operand):NilOk P t (zlB P t x y) x y:=by
 intro h op w
 unfold zlB at h
 split at h<;>try cases h
 ·rename_i ms hu
  simp only[EK.iface.injEq,Bool.or_eq_true] at h
  unfold eqGuard
  have hk:(zh3 x=true∨zh3 y=true)∨ms.isEmpty=true:=by
   grind
  have key:(Op.eqGuardIn Op.maxDepth t .nilIface .nilIface).run P w=.ok (!ms.isEmpty) w:=by
   have k: ∀d,(Op.eqGuardIn (d+1) t .nilIface .nilIface).run P w=.ok (!ms.isEmpty) w:=by
    simp_all[Op.eqGuardIn,run_underlying]
   exact k 9999
  rcases hk with(hk|hk)|hk
  ·cases x<;>simp[zh3] at hk
   simp_all
  ·cases y<;>simp[zh3] at hk
   simp_all
  simp_all
 grind
theorem VR.inv_nilIface {ρ:Rho} {y:Value} (h:VR ρ .nilIface y):y=.nilIface:=by cases h;rfl
theorem VR.inv_iface {ρ:Rho} {t:TypeId} {v y:Value} (h:VR ρ (.iface t v) y): ∃v',y=.iface t v'∧VR ρ v v':=by cases h with|iface t h=>grind
theorem VR.inv_slice {ρ:Rho} {b:Option Addr} {n c:Nat} {y:Value} (h:VR ρ (.slice b n c) y): ∃b' c',y=.slice b' n c'∧b'.isNone=b.isNone:=by cases h<;>exact⟨_,_,rfl,rfl⟩
theorem VR.inv_pointer {ρ:Rho} {b:Option Addr} {y:Value} (h:VR ρ (.pointer b) y): ∃b',y=.pointer b'∧b'.isNone=b.isNone:=by cases h<;>exact⟨_,rfl,rfl⟩
theorem VR.inv_map {ρ:Rho} {b:Option Nat} {y:Value} (h:VR ρ (.map b) y): ∃b',y=.map b'∧b'.isNone=b.isNone:=by cases h<;>exact⟨_,rfl,rfl⟩
theorem VR.inv_func {ρ:Rho} {f:Fn} {a b:Array Value} {y:Value} (h:VR ρ (.func f a b) y): ∃f' a' b',y=.func f' a' b':=by cases h<;>exact⟨_,_,_,rfl⟩
theorem VR.inv_nilFunc {ρ:Rho} {y:Value} (h:VR ρ .nilFunc y):y=.nilFunc:=by cases h;rfl
theorem VR.inv_agg {ρ:Rho} {xs:Array Value} {y:Value} (h:VR ρ (.agg xs) y): ∃ys,y=.agg ys∧VRL ρ xs.toList ys.toList:=by
 cases h with|agg ha ra=>grind [VRL.of_agg,agg]
theorem VR.inv_tuple {ρ:Rho} {xs:Array Value} {y:Value} (h:VR ρ (.tuple xs) y): ∃ys,y=.tuple ys∧VRL ρ xs.toList ys.toList:=by
 cases h with|tuple ha ra=>exact⟨_,rfl,⟨by grind,fun j x y hx hy=>ra j x y (by grind) (by grind)⟩⟩
section
variable (d:Nat) {t:TypeId} (w:World)
theorem eq_slice_none {e:TypeId} (hu:P.underlying t=some (.slice e)) (l c:Nat) (b:Option Addr) (l' c':Nat):(Op.equalIn (d+1) t (.slice none l c) (.slice b l' c')).run P w=.ok b.isNone w:=by simp[Op.equalIn,run_underlying hu]
theorem eq_slice_some {e:TypeId} (hu:P.underlying t=some (.slice e)) (a:Addr) (l c:Nat) (l' c':Nat):(Op.equalIn (d+1) t (.slice (some a) l c) (.slice none l' c')).run P w=.ok false w:=by simp[Op.equalIn,run_underlying hu]
theorem eq_ptr_none {e:TypeId} (hu:P.underlying t=some (.pointer e)) (b:Option Addr):(Op.equalIn (d+1) t (.pointer none) (.pointer b)).run P w=.ok b.isNone w:=by simp[Op.equalIn,run_underlying hu]
theorem eq_ptr_some {e:TypeId} (hu:P.underlying t=some (.pointer e)) (a:Addr):(Op.equalIn (d+1) t (.pointer (some a)) (.pointer none)).run P w=.ok false w:=by simp[Op.equalIn,run_underlying hu]
theorem eq_map_none {k e:TypeId} (hu:P.underlying t=some (.map k e)) (b:Option Nat):(Op.equalIn (d+1) t (.map none) (.map b)).run P w=.ok b.isNone w:=by simp[Op.equalIn,run_underlying hu]
theorem eq_map_some {k e:TypeId} (hu:P.underlying t=some (.map k e)) (a:Nat):(Op.equalIn (d+1) t (.map (some a)) (.map none)).run P w=.ok false w:=by simp[Op.equalIn,run_underlying hu]
theorem eq_func_nil {a b:Array TypeId} {c:Bool} (hu:P.underlying t=some (.func a b c)):(Op.equalIn (d+1) t .nilFunc .nilFunc).run P w=.ok true w:=by simp[Op.equalIn,run_underlying hu]
theorem eq_func_left {a b:Array TypeId} {c:Bool} (hu:P.underlying t=some (.func a b c)) (f:Fn) (x y:Array Value):(Op.equalIn (d+1) t .nilFunc (.func f x y)).run P w=.ok false w:=by simp[Op.equalIn,run_underlying hu]
theorem eq_func_right {a b:Array TypeId} {c:Bool} (hu:P.underlying t=some (.func a b c)) (f:Fn) (x y:Array Value):(Op.equalIn (d+1) t (.func f x y) .nilFunc).run P w=.ok false w:=by simp[Op.equalIn,run_underlying hu]
theorem eq_if_nil {ms:Array (String×TypeId)} (hu:P.underlying t=some (.interface ms)):(Op.equalIn (d+1) t .nilIface .nilIface).run P w=.ok true w:=by simp[Op.equalIn,run_underlying hu]
theorem eq_if_left {ms:Array (String×TypeId)} (hu:P.underlying t=some (.interface ms)) (u:TypeId) (v:Value):(Op.equalIn (d+1) t .nilIface (.iface u v)).run P w=.ok false w:=by simp[Op.equalIn,run_underlying hu]
theorem eq_if_right {ms:Array (String×TypeId)} (hu:P.underlying t=some (.interface ms)) (u:TypeId) (v:Value):(Op.equalIn (d+1) t (.iface u v) .nilIface).run P w=.ok false w:=by simp[Op.equalIn,run_underlying hu]
theorem eq_bool (hu:P.underlying t=some .bool) (x y:Bool):(Op.equalIn (d+1) t (.bool x) (.bool y)).run P w=.ok (x==y) w:=by simp[Op.equalIn,run_underlying hu]
end
theorem zjS {α β:Type} {b:Option α} (h:b.isNone=(none:Option β).isNone):b=none:=by simp_all
theorem zhR {α β:Type} {b:Option α} {x:β} (h:b.isNone=(some x).isNone): ∃y,b=some y:=by cases b<;>simp_all
theorem eqV_runD {ρ:Rho} {t:TypeId} {ek:EK} {x0 y0:Operand} (hek:EKOk P t ek) (hnil:NilOk P t ek x0 y0) {x y x' y':Value} {b:Bool} (h:eqV ek x y=some b) (hx:VR ρ x x') (hy:VR ρ y y') (w:World):
 ∀d,((Op.equalIn (d+6) t x' y').run P w=.ok b w∧ ∀op,(eqGuard op t x0 y0 x' y').run P w=.ok () w)∧
  (∀r,(Op.equal t x' y').run P w=.ok r w→(binOp .eql t x' y').run P w=.ok (.bool r) w∧(binOp .neq t x' y').run P w=.ok (.bool (!r)) w):=by
 intro d
 unfold eqV at h
 split at h
 case h_1=>
  obtain⟨e,hu⟩:=hek;cases h;cases hx;obtain⟨b',rfl,hb⟩:=hy.inv_pointer
  simp_all[eq_ptr_none,eqGuard,binOp]
 case h_2=>
  obtain⟨e,hu⟩:=hek;cases h;cases hy;obtain⟨b',rfl,hb⟩:=hx.inv_pointer;obtain⟨a,rfl⟩:=zhR hb
  simp_all[eq_ptr_some,eqGuard,binOp]
 case h_3=>
  obtain⟨e,hu⟩:=hek;cases h;obtain⟨b',c',rfl,hb⟩:=hy.inv_slice;obtain⟨b0,c0,rfl,hb0⟩:=hx.inv_slice;simp_all[eq_slice_none,eqGuard,binOp]
 case h_4=>
  obtain⟨e,hu⟩:=hek;cases h;obtain⟨b',c',rfl,hb⟩:=hy.inv_slice;obtain⟨b0,c0,rfl,hb0⟩:=hx.inv_slice;obtain rfl:=zjS hb;obtain⟨a,rfl⟩:=zhR hb0
  simp_all[eq_slice_some,eqGuard,binOp]
 case h_5=>
  obtain⟨k,e,hu⟩:=hek;cases h;obtain⟨b',rfl,hb⟩:=hy.inv_map;obtain⟨b0,rfl,hb0⟩:=hx.inv_map;obtain rfl:=zjS hb0
  exact⟨⟨by grind [eq_map_none],fun op=>by simp_all[eqGuard]⟩,fun r hr=>by simp_all[binOp]⟩
 case h_6=>
  obtain⟨k,e,hu⟩:=hek;cases h;obtain⟨b',rfl,hb⟩:=hy.inv_map;obtain⟨b0,rfl,hb0⟩:=hx.inv_map;obtain rfl:=zjS hb;obtain⟨a,rfl⟩:=zhR hb0
  exact⟨⟨eq_map_some (d+5) w hu _,fun op=>by simp_all[eqGuard]⟩,fun r hr=>by simp_all[binOp]⟩
 case h_7=>
  obtain⟨_,_,_,hu⟩:=hek;cases h;obtain rfl:=hx.inv_nilFunc;obtain rfl:=hy.inv_nilFunc
  exact⟨⟨eq_func_nil (d+5) w hu,fun op=>by simp_all[eqGuard]⟩,fun r hr=>by simp_all[binOp]⟩
 case h_8=>
  obtain⟨_,_,_,hu⟩:=hek;cases h;obtain rfl:=hx.inv_nilFunc;obtain⟨f,a,b,rfl⟩:=hy.inv_func
  exact⟨⟨eq_func_left (d+5) w hu _ _ _,fun op=>by simp_all[eqGuard]⟩,fun r hr=>by simp_all[binOp]⟩
 case h_9=>
  obtain⟨_,_,_,hu⟩:=hek;cases h;obtain rfl:=hy.inv_nilFunc;obtain⟨f,a,b,rfl⟩:=hx.inv_func
  exact⟨⟨eq_func_right (d+5) w hu _ _ _,fun op=>by simp_all[eqGuard]⟩,fun r hr=>by simp_all[binOp]⟩
 case h_10=>
  obtain⟨_,hu⟩:=hek;cases h;obtain rfl:=hx.inv_nilIface;obtain rfl:=hy.inv_nilIface
  exact⟨⟨eq_if_nil (d+5) w hu,fun op=>hnil rfl op w⟩,fun r hr=>by simp_all[binOp]⟩
 case h_11=>
  obtain⟨_,hu⟩:=hek;cases h;obtain rfl:=hx.inv_nilIface;obtain⟨v',rfl,-⟩:=hy.inv_iface
  simp_all[eq_if_left,eqGuard,binOp]
 case h_12=>
  obtain⟨_,hu⟩:=hek;cases h;obtain rfl:=hy.inv_nilIface;obtain⟨v',rfl,-⟩:=hx.inv_iface
  simp_all[eq_if_right,eqGuard,binOp]
 case h_13=>
  cases h;obtain rfl:=hx.inv_bool;obtain rfl:=hy.inv_bool
  exact⟨⟨eq_bool (d+5) w hek _ _,fun op=>by simp_all[eqGuard]⟩,fun r hr=>by simp_all[binOp]⟩
 case h_14=>
  obtain⟨xs',rfl,hxs⟩:=hx.inv_agg;obtain⟨ys',rfl,hys⟩:=hy.inv_agg
  exact⟨⟨ziu hek.1 (d+4) _ _ w (zhT hxs hys h),fun op=>run_eqGuard_agg w op t _ _ _ _ hek.2⟩,fun r hr=>by simp_all[binOp]⟩
 case h_15=>
  obtain⟨xs',rfl,hxs⟩:=hx.inv_agg;obtain⟨ys',rfl,hys⟩:=hy.inv_agg
  exact⟨⟨leavesK_equal hek.1 hek.2.1 d _ _ w (zlf hxs hys h),fun op=>run_eqGuard_agg w op t _ _ _ _ hek.2.2⟩,fun r hr=>by simp_all[binOp]⟩
 grind
theorem eqV_run {ρ:Rho} {t:TypeId} {ek:EK} {x0 y0:Operand} (hek:EKOk P t ek) (hnil:NilOk P t ek x0 y0) {x y x' y':Value} {b:Bool} (h:eqV ek x y=some b) (hx:VR ρ x x') (hy:VR ρ y y') (w:World):
 (Op.equal t x' y').run P w=.ok b w∧ ∀op,(eqGuard op t x0 y0 x' y').run P w=.ok () w:=(eqV_runD hek hnil h hx hy w 9994).1
theorem intB_run {k:IntKind} {a b:Int} {op:BinOp} {v:Value} (h:intB k a b op=some v) (t:TypeId) (w:World):(binOp op t (.int k a) (.int k b)).run P w=.ok v w:=by
 cases op<;>simp only[intB,Option.some.injEq,reduceCtorEq,wrapF_eq,zhs,zej] at h
 case add=>simp_all[binOp,Op.intArith]
 case and=>simp_all[binOp,Op.intBits]
 case or=>simp_all[binOp,Op.intBits]
 case xor=>simp_all[binOp,Op.intBits]
 case andNot=>simp_all[binOp,Op.intBits]
 case sub=>simp_all[binOp,Op.intArith]
 case mul=>simp_all[binOp,Op.intArith]
 case quo=>
  simp_all[binOp,Op.intDiv]
 case rem=>
  simp_all[binOp,Op.intDiv]
 case eql=>simp_all[binOp,Op.intCmp]
 case neq=>subst h;simp[binOp,Op.intCmp];rfl
 case lss=>simp_all[binOp,Op.intCmp]
 case leq=>subst h;simp[binOp,Op.intCmp];grind
 case gtr=>simp_all[binOp,Op.intCmp]
 case geq=>subst h;simp[binOp,Op.intCmp];grind
theorem intS_run {k k':IntKind} {a b:Int} {op:BinOp} {v:Value} (h:intS k k' a b op=some v) (t:TypeId) (w:World):(binOp op t (.int k a) (.int k' b)).run P w=.ok v w:=by
 have other: ∀op',(op'≠ .shl)→(op'≠ .shr)→(if k=k' then intB k a b op' else none)=some v→(binOp op' t (.int k a) (.int k' b)).run P w=.ok v w:=by
  grind [intB_run]
 cases op<;>simp only[intS] at h
 case shl=>
  rw[zej] at h
  split at h
  ·cases h
  ·rename_i hb;cases h;have hb': ¬b<0:=by grind
   simp[binOp,Op.shift,hb']
 case shr=>
  rw[zej] at h
  split at h
  ·cases h
  ·rename_i hb;cases h;have hb': ¬b<0:=by grind
   simp[binOp,Op.shift,hb']
 all_goals grind
theorem eqGuard_int (op:BinOp) (t:TypeId) (x y:Operand) (k k':IntKind) (a b:Int) (w:World):(eqGuard op t x y (.int k a) (.int k' b)).run P w=.ok () w:=by
 simp_all[eqGuard]
theorem binV_run {ρ:Rho} {t:TypeId} {ek:EK} {x0 y0:Operand} (hek:EKOk P t ek) (hnil:NilOk P t ek x0 y0) {op:BinOp} {x y x' y' v:Value} (h:binV op ek x y=some v) (hx:VR ρ x x') (hy:VR ρ y y') (w:World):
 ∃v',VR ρ v v'∧(binOp op t x' y').run P w=.ok v' w∧(eqGuard op t x0 y0 x' y').run P w=.ok () w:=by
 unfold binV at h
 split at h
 ·rename_i k a k' b
  rw[hx.inv_int,hy.inv_int]
  refine⟨v,?_,intS_run h t w,eqGuard_int op t x0 y0 _ _ _ _ w⟩
  have key: ∀op',intB k a b op'=some v→VR ρ v v:=by
   intro op' h
   cases op'<;>simp only[intB,Option.some.injEq,reduceCtorEq] at h
   all_goals first
    | (subst h;first|exact .int _ _|exact .bool _)
    | (split at h
       ·cases h
       ·cases h;exact .int _ _)
  have key2: ∀op',(if k=k' then intB k a b op' else none)=some v→VR ρ v v:=by
   grind
  cases op
  case shl=>simp only[intS] at h;split at h;(cases h);(cases h;exact .int _ _)
  case shr=>simp only[intS] at h;split at h;(cases h);(cases h;exact .int _ _)
  all_goals exact key2 _ h
 ·rename_i sa sb
  rw[hx.inv_str,hy.inv_str]
  obtain⟨h1,h2⟩:=strB_run h t w
  exact⟨v,VR.refl1 h2,h1,by simp_all[eqGuard]⟩
 ·cases op<;>simp only[eqlV,reduceCtorEq] at h
  case eql=>
   obtain⟨b,hb,rfl⟩:=amf h
   obtain⟨h1,h2⟩:=eqV_run hek hnil hb hx hy w
   exact⟨.bool b,.bool b,((eqV_runD hek hnil hb hx hy w 0).2 _ h1).1,h2 _⟩
  case neq=>
   obtain⟨b,hb,rfl⟩:=amf h
   obtain⟨h1,h2⟩:=eqV_run hek hnil hb hx hy w
   exact⟨.bool (!b),.bool _,((eqV_runD hek hnil hb hx hy w 0).2 _ h1).2,h2 _⟩
end Go.Ideal
namespace Go.Ideal
variable {P:Program}
section
variable {ρ:Rho} {h h':H} {w:World} {s:za} {a:Act} {v:Value}
theorem s_mv (hs:SR ρ s a.tmps) {x:Operand} {c:CO} (hc:co x=some c) (hv:bMv c s h=some (v,h')):h'=h∧SimP P ρ w (Result.ok (Next.value (a.eval x)) w) v:=by
 obtain⟨u,hu,e⟩:=amf hv
 cases e
 exact⟨rfl,_,rfl,zbg hc hs hu⟩
theorem s_pick (hs:SR ρ s a.tmps) {c x y:Operand} {c' x' y':CO} (hc:co c=some c') (hx:co x=some x') (hy:co y=some y') (hv:bPick c' x' y' s h=some (v,h')):
 h'=h∧SimP P ρ w ((do pure (Next.value (if←asBool (a.eval c) then a.eval x else a.eval y)):Sem Next).run P w) v:=by
 obtain⟨u,hu,hv⟩:=aof hv
 have hcv:=zbg hc hs hu
 unfold zkN at hv
 split at hv
 ·obtain⟨z,hz,e⟩:=amf hv;cases e
  rw[hcv.inv_bool]
  exact⟨rfl,_,by simp[asBool],zbg hx hs hz⟩
 ·obtain⟨z,hz,e⟩:=amf hv;cases e
  rw[hcv.inv_bool]
  exact⟨rfl,_,by simp[asBool],zbg hy hs hz⟩
 grind
theorem s_load1 (hr:HR P ρ h w) (hs:SR ρ s a.tmps) {x:Operand} {c:CO} (hc:co x=some c) {t:TypeId} (ht:zdB P t=some none) (hv:zky c s h=some (v,h')):
 h'=h∧SimP P ρ w ((do pure (Next.value (←Instr.loadAt t (a.eval x))):Sem Next).run P w) v:=by
 obtain⟨u,hu,hv⟩:=aof hv
 obtain⟨ad,had,hv⟩:=aof hv
 obtain⟨l,hl,hv⟩:=aof hv
 obtain⟨z,hz,e⟩:=amf hv
 cases e
 obtain rfl:=zee had
 obtain⟨R,hR,e⟩:=(zbg hc hs hu).inv_ptr
 grind [loadVar1,zp,Instr.loadAt,Instr.sureAddr]
theorem s_loadN (hr:HR P ρ h w) (hs:SR ρ s a.tmps) {x:Operand} {c:CO} (hc:co x=some c) {t:TypeId} {n:Nat} (ht:zdB P t=some (some n)) (hv:zkx n c s h=some (v,h')):
 h'=h∧SimP P ρ w ((do pure (Next.value (←Instr.loadAt t (a.eval x))):Sem Next).run P w) v:=by
 obtain⟨u,hu,hv⟩:=aof hv
 obtain⟨ad,had,hv⟩:=aof hv
 obtain⟨l,hl,e⟩:=amf hv
 cases e
 obtain rfl:=zee had
 obtain⟨R,hR,e⟩:=(zbg hc hs hu).inv_ptr
 grind [loadVarN,zp,Instr.loadAt,Instr.sureAddr]
theorem s_nilCheck (hs:SR ρ s a.tmps) {o:Oper} {x:Operand} (ho:o.op=.nilCheck x) {c:CO} (hc:co x=some c) (hv:zdy c s h=some (v,h')):h'=h∧SimP P ρ w ((execOp a.eval o).run P w) v:=by
 obtain⟨u,hu,hv⟩:=aof hv
 obtain⟨z,hz,e⟩:=amf hv
 cases e
 have hx:=zbg hc hs hu
 refine⟨rfl,?_⟩
 simp only[execOp,ho]
 generalize a.eval x=y at hx
 unfold nilV at hz
 split at hz
 ·cases hz;cases hx with|ptr hR=>exact⟨_,by simp,.ptr hR⟩
 ·cases hz;cases hx with|func f ha hb ra rb=>exact⟨_,by simp,.func _ ha hb ra rb⟩
 ·cases hz;cases hx with|yield hy=>exact⟨_,by simp,.yield hy⟩
 grind
theorem s_bin (hs:SR ρ s a.tmps) {x y:Operand} {c d:CO} (hc:co x=some c) (hd:co y=some d) {op:BinOp} {t:TypeId} (hv:bBin op (zlB P t x y) c d s h=some (v,h')):
 h'=h∧SimP P ρ w ((do pure (Next.value (←(do eqGuard op t x y (a.eval x) (a.eval y);binOp op t (a.eval x) (a.eval y)))):Sem Next).run P w) v:=by
 obtain⟨u,hu,hv⟩:=aof hv
 obtain⟨z,hz,hv⟩:=aof hv
 obtain⟨r,hr,e⟩:=amf hv
 cases e
 obtain⟨v',h1,h2,h3⟩:=binV_run (eqKind_ok (P:=P) t x y) (eqKind_nil t x y) hr (zbg hc hs hu) (zbg hd hs hz) w
 exact⟨rfl,zp (by simp_all) h1⟩
theorem s_un (hs:SR ρ s a.tmps) {x:Operand} {c:CO} (hc:co x=some c) {op:UnOp} (hv:bUn op c s h=some (v,h')):
 h'=h∧SimP P ρ w ((do pure (Next.value (←Op.unary op (a.eval x))):Sem Next).run P w) v:=by
 obtain⟨u,hu,hv⟩:=aof hv
 obtain⟨z,hz,e⟩:=amf hv
 cases e
 have hx:=zbg hc hs hu
 refine⟨rfl,?_⟩
 unfold unV at hz
 split at hz
 ·cases hz;rw[hx.inv_int];exact zp (by simp[Op.unary,Op.intArith]) (.int _ _)
 ·cases hz;rw[hx.inv_bool];exact zp (by simp[Op.unary]) (.bool _)
 grind
theorem s_conv (hs:SR ρ s a.tmps) {x:Operand} {c:CO} (hc:co x=some c) {k k0:IntKind} {sr d:TypeId} (h1:P.underlying sr=some (.int k0)) (h2:P.underlying d=some (.int k)) (hv:bConv k c s h=some (v,h')):
 h'=h∧SimP P ρ w ((do pure (Next.value (←convert sr d (a.eval x))):Sem Next).run P w) v:=by
 obtain⟨u,hu,hv⟩:=aof hv
 obtain⟨z,hz,e⟩:=amf hv
 cases e
 have hx:=zbg hc hs hu
 refine⟨rfl,?_⟩
 unfold convV at hz
 split at hz
 ·cases hz;rw[hx.inv_int];exact zp (by simp_all[convert,run_underlying,Conv.intToInt]) (.int _ _)
 grind
theorem s_makeFunc (hs:SR ρ s a.tmps) {f:FuncId} {fs cs:Array Operand} {fs' cs':List CO} (hf:allO co fs.toList=some fs') (hc:allO co cs.toList=some cs') (hv:zdz (.func f) fs' cs' s h=some (v,h')):
 h'=h∧SimP P ρ w ((do pure (Next.value (←Instr.makeFunc (.func f) (fs.map a.eval) (cs.map a.eval))):Sem Next).run P w) v:=by
 obtain⟨l,hl,hv⟩:=aof hv
 obtain⟨m,hm,e⟩:=amf hv
 cases e
 have r1:=coL_ev hs hf hl
 have r2:=coL_ev hs hc hm
 refine⟨rfl,zp (v':=.func (.func f) (fs.map a.eval) (cs.map a.eval)) (by simp[Instr.makeFunc]) ?_⟩
 refine .func f ?_ ?_ (fun j x y hx hy=> ?_) (fun j x y hx hy=> ?_)
 ·have:=r1.1;grind
 ·have:=r2.1;grind
 ·exact r1.2 j x y (by grind) (by grind)
 ·exact r2.2 j x y (by grind) (by grind)
theorem s_fieldAddr (hs:SR ρ s a.tmps) {x:Operand} {c:CO} (hc:co x=some c) {t:TypeId} {fs:Array Field} {i:Nat} {f:Field} {sz:Nat} (h1:P.underlying t=some (.struct fs)) (h2:fs[i]? =some f)
 (h3:zJ P f.type=some sz) (h4:sz≠0) (hv:zcG f.offset c s h=some (v,h')):
 h'=h∧SimP P ρ w ((do pure (Next.value (←Instr.fieldAt t (a.eval x) i)):Sem Next).run P w) v:=by
 obtain⟨u,hu,hv⟩:=aof hv
 obtain⟨ad,had,e⟩:=amf hv
 cases e
 obtain rfl:=zee had
 obtain⟨R,hR,e⟩:=(zbg hc hs hu).inv_ptr
 refine⟨rfl,zp (v':=.pointer (some ⟨R.blk,R.base+(ad.off+f.offset),none⟩)) ?_ (.ptr hR)⟩
 simp_all[Instr.fieldAt,run_underlying,Instr.sureAddr,fieldPlace,zG,Addr.add_mk,Nat.add_assoc]
theorem VR.inv_slice_some {ρ:Rho} {b:Addr} {n c:Nat} {y:Value} (hn:n≠0) (h:VR ρ (.slice (some b) n c) y): ∃R c',ρ b.block=some R∧y=.slice (some ⟨R.blk,R.base+b.off,none⟩) n c':=by
 cases h with
 |slice h hc hl=>grind
 |sliceO h he hl hs hb=>grind
 |sliceE h he hb=>grind
 |sliceD h hm=>grind
 |sliceR h he hl=>grind
theorem indexV_some {sz:Nat} {v i r:Value} (h:zix sz v i=some r): ∃b len cap k j,v=.slice (some b) len cap∧i=.int k (.ofNat j)∧j<len∧r=.pointer (some ⟨b.block,b.off+j*sz,none⟩):=by
 unfold zix at h
 split at h
 ·split at h
  ·rename_i hlt;cases h;exact⟨_,_,_,_,_,rfl,rfl,Nat.blt_eq.mp hlt,rfl⟩
  grind
 grind
theorem zkU {n sz:Nat} {v i r:Value} (h:zem n sz v i=some r): ∃b k j,v=.pointer (some b)∧i=.int k (.ofNat j)∧j<n∧r=.pointer (some ⟨b.block,b.off+j*sz,none⟩):=by
 unfold zem at h
 split at h
 ·split at h
  ·rename_i hlt;cases h;exact⟨_,_,_,rfl,rfl,Nat.blt_eq.mp hlt,rfl⟩
  grind
 grind
theorem s_indexAddr (hs:SR ρ s a.tmps) {x y:Operand} {c d:CO} (hc:co x=some c) (hd:co y=some d) {t e:TypeId} {sz:Nat} (h1:P.underlying t=some (.slice e)) (h3:zJ P e=some sz)
 (hv:zcF sz c d s h=some (v,h')):h'=h∧SimP P ρ w ((do pure (Next.value (←Instr.indexAt t (a.eval x) (a.eval y))):Sem Next).run P w) v:=by
 obtain⟨u,hu,hv⟩:=aof hv
 obtain⟨z,hz,hv⟩:=aof hv
 obtain⟨r,hr,e⟩:=amf hv
 cases e
 have hx:=zbg hc hs hu
 have hy:=zbg hd hs hz
 refine⟨rfl,?_⟩
 obtain⟨b,len,cap,k,i,rfl,rfl,hlt,rfl⟩:=indexV_some hr
 obtain⟨R,c',hR,e⟩:=hx.inv_slice_some (by omega)
 rw[e,hy.inv_int]
 refine zp (v':=.pointer (some ⟨R.blk,R.base+(b.off+i*sz),none⟩)) ?_ (.ptr hR)
 simp[Instr.indexAt,asIntOf,run_underlying h1,hlt,zG h3,Addr.add_mk,Nat.add_assoc]
theorem s_indexArr (hs:SR ρ s a.tmps) {x y:Operand} {c d:CO} (hc:co x=some c) (hd:co y=some d) {t e:TypeId} {n sz:Nat} (h1:P.underlying t=some (.array n e)) (h3:zJ P e=some sz)
 (hv:zdA n sz c d s h=some (v,h')):h'=h∧SimP P ρ w ((do pure (Next.value (←Instr.indexAt t (a.eval x) (a.eval y))):Sem Next).run P w) v:=by
 obtain⟨u,hu,hv⟩:=aof hv
 obtain⟨z,hz,hv⟩:=aof hv
 obtain⟨r,hr,e⟩:=amf hv
 cases e
 have hx:=zbg hc hs hu
 have hy:=zbg hd hs hz
 refine⟨rfl,?_⟩
 obtain⟨b,k,i,rfl,rfl,hlt,rfl⟩:=zkU hr
 obtain⟨R,hR,e⟩:=hx.inv_ptr
 rw[e,hy.inv_int]
 refine zp (v':=.pointer (some ⟨R.blk,R.base+(b.off+i*sz),none⟩)) ?_ (.ptr hR)
 simp[Instr.indexAt,asIntOf,run_underlying h1,hlt,zG h3,Addr.add_mk,Nat.add_assoc,Instr.sureAddr]
theorem s_extract (hs:SR ρ s a.tmps) {x:Operand} {c:CO} (hc:co x=some c) {i:Nat} (hv:ze6 c i s h=some (v,h')):
 h'=h∧SimP P ρ w ((do pure (Next.value (←Instr.extract (a.eval x) i)):Sem Next).run P w) v:=by
 obtain⟨u,hu,hv⟩:=aof hv
 obtain⟨z,hz,e⟩:=amf hv
 cases e
 have hx:=zbg hc hs hu
 refine⟨rfl,?_⟩
 unfold extractV at hz
 split at hz
 ·obtain⟨ys,e,hl⟩:=hx.inv_tuple
  obtain⟨y,hy,hyv⟩:=hl.get hz
  rw[Array.getElem?_toList] at hy
  exact zp (by simp_all[Instr.extract]) hyv
 grind
end
end Go.Ideal
namespace Go.Ideal
variable {P:Program}
theorem foldl_write (vs:List Value) (off:Nat): ∀(k:Nat) (cs:Array Value),((vs.zipIdx k).foldl (fun cs (p:Value×Nat)=>cs.setIfInBounds (off+p.2) p.1) cs).size=cs.size∧
 ∀j,((vs.zipIdx k).foldl (fun cs (p:Value×Nat)=>cs.setIfInBounds (off+p.2) p.1) cs)[j]? =if off+k≤j∧j<off+k+vs.length∧j<cs.size then vs[j - (off+k)]? else cs[j]?:=by
 induction vs with
 |nil=>intro k cs;exact⟨rfl,fun j=>by rw[if_neg (by grind)];rfl⟩
 |cons v vs ih=>
  grind [List.zipIdx_cons]
def zhE (ρ:Rho) (l:List (Nat×Nat×Value)) (l':List (Nat×Value)) (place:Nat→Option (Nat×Nat)):Prop:=
 l.length=l'.length∧ ∀(j:Nat) p q,l[j]? =some p→l'[j]? =some q→place q.1=some (p.1,p.2.1)∧VR ρ p.2.2 q.2
theorem zhE.nil (ρ:Rho) (pl:Nat→Option (Nat×Nat)):zhE ρ [] [] pl:=⟨rfl,by simp⟩
theorem zhE.cons {ρ:Rho} {pl:Nat→Option (Nat×Nat)} {o n:Nat} {v:Value} {i:Nat} {v':Value} {l l'} (h1:pl i=some (o,n)) (h2:VR ρ v v') (h:zhE ρ l l' pl):zhE ρ ((o,n,v)::l) ((i,v')::l') pl:=by
 refine⟨by simp[h.1],fun j p q hp hq=> ?_⟩
 cases j with
 |zero=>grind
 |succ j=>exact h.2 j p q (by grind) (by grind)
theorem fill_rel {ρ:Rho} {pl:Nat→Option (Nat×Nat)}: ∀{l:List (Nat×Nat×Value)} {l':List (Nat×Value)} {cs cs':List Value} {ds:Array Value},zhE ρ l l' pl→VRL ρ cs ds.toList→ziS cs l=some cs'→
 ∃ds',Instr.fill pl ds l'=some ds'∧VRL ρ cs' ds'.toList
 | [],l',cs,cs',ds,hp,hv,h=>by
   cases h
   obtain rfl:l'=[]:=by have:=hp.1;grind
   exact⟨ds,rfl,hv⟩
 | (o,n,v)::l,[],cs,cs',ds,hp,hv,h=>by have:=hp.1;grind
 | (o,n,v)::l,(i,v')::l',cs,cs',ds,hp,hv,h=>by
   obtain⟨h1,h2⟩:=hp.2 0 _ _ rfl rfl
   have hrest:zhE ρ l l' pl:=⟨by have:=hp.1;grind,fun j p q hp' hq'=>hp.2 (j+1) p q (by grind) (by grind)⟩
   simp only[ziS] at h
   split at h
   ·rename_i hn
    simp only[Bool.and_eq_true] at hn
    have hn':(zW v).length=n:=Nat.eq_of_beq_eq_true hn.1
    have hz:0<n:=Nat.blt_eq.mp hn.2
    obtain⟨c1,hc1,h⟩:=aof h
    have hcv:=h2.cells
    have hsz:v'.cells.size=n:=by have:=hcv.1;grind
    obtain⟨hfit,hget⟩:=zjh _ _ _ _ hc1
    have hlen:=zgf _ _ _ _ hc1
    have hcsds:cs.length=ds.size:=by have:=hv.1;grind
    obtain⟨g1,g2⟩:=foldl_write v'.cells.toList o 0 ds
    have hne:zW v≠[]:=by grind
    have hfit':o+(zW v).length≤cs.length:=hfit.resolve_left hne
    have hv1:VRL ρ c1 ((v'.cells.toList.zipIdx 0).foldl (fun cs (p:Value×Nat)=>cs.setIfInBounds (o+p.2) p.1) ds).toList:=by
     refine⟨by grind,fun j x y hx hy=> ?_⟩
     rw[Array.getElem?_toList,g2 j] at hy
     rw[hget j] at hx
     have hvl:v'.cells.toList.length=(zW v).length:=hcv.1.symm
     by_cases c:o≤j∧j<o+(zW v).length
     ·rw[if_pos c] at hx
      rw[if_pos (by omega)] at hy
      rw[Nat.add_zero] at hy
      exact hcv.2 _ _ _ hx hy
     ·rw[if_neg c] at hx
      rw[if_neg (by omega)] at hy
      exact hv.2 j x y hx (by grind)
    obtain⟨ds',hd1,hd2⟩:=fill_rel hrest hv1 h
    grind [Instr.fill,Array.toList_zipIdx]
   grind
theorem zg7 {α β:Type} (f:α→Sem β) (g:α→β) (w:World): ∀(l:List α),(∀a∈l,(f a).run P w=.ok (g a) w)→(l.mapM f).run P w=.ok (l.map g) w
 | [],_=>by simp
 |a::l,h=>by
  rw[List.mapM_cons]
  simp[h a (by simp),zg7 f g w l (fun b hb=>h b (by simp[hb]))]
theorem zkM {α β:Type} (f:α→Sem β) (g:α→β) (w:World) (l:Array α) (h: ∀a∈l.toList,(f a).run P w=.ok (g a) w):(l.mapM f).run P w=.ok (l.map g) w:=by
 rw[Array.mapM_eq_mapM_toList]
 simp only[Sem.run_map,zg7 f g w l.toList h,Result.andThen_ok]
 congr 1
 grind
section
variable {ρ:Rho} {h h':H} {w:World} {s:za} {a:Act} {v:Value}
theorem zke (hs:SR ρ s a.tmps) {f:Nat×Operand→Option (Nat×Nat×CO)} {pl:Nat→Option (Nat×Nat)} (hf: ∀p q,f p=some q→pl p.1=some (q.1,q.2.1)∧co p.2=some q.2.2):
 ∀{ps:List (Nat×Operand)} {qs:List (Nat×Nat×CO)} {l:List (Nat×Nat×Value)},allO f ps=some qs→ze3 s qs=some l→zhE ρ l (ps.map fun p=>(p.1,a.eval p.2)) pl
 | [],qs,l,h,hl=>by cases h;cases hl;exact .nil _ _
 |p::ps,qs,l,h,hl=>by
  obtain⟨q,hq,h⟩:=aof h
  obtain⟨qs',hqs,rfl⟩:=amf h
  obtain⟨o,n,x⟩:=q
  obtain⟨u,hu,hl⟩:=aof hl
  obtain⟨l',hl',rfl⟩:=amf hl
  obtain⟨h1,h2⟩:=hf _ _ hq
  exact .cons h1 (zbg h2 hs hu) (zke hs hf hqs hl')
theorem s_build (hs:SR ρ s a.tmps) {t:TypeId} {ps:Array (Nat×Operand)} {z:List Value} {qs:List (Nat×Nat×CO)} {f:Nat×Operand→Option (Nat×Nat×CO)} {pl:Nat→Option (Nat×Nat)}
 (hz:zbC P t=some z) (hq:allO f ps.toList=some qs) (hf: ∀p q,f p=some q→pl p.1=some (q.1,q.2.1)∧co p.2=some q.2.2)
 (hrun: ∀(l:Array (Nat×Value)) z' cs,(zeroValue t).run P w=.ok z' w→Instr.fill pl z'.cells l.toList=some cs→(Instr.build t l).run P w=.ok (.agg cs) w)
 (hv:zkz z qs s h=some (v,h')):h'=h∧SimP P ρ w ((do pure (Next.value (←Instr.build t (ps.map fun(i,x)=>(i,a.eval x)))):Sem Next).run P w) v:=by
 obtain⟨l,hl,hv⟩:=aof hv
 obtain⟨c,hc,e⟩:=amf hv
 cases e
 obtain⟨⟨zv,hzv,hzr⟩,hzc⟩:=zco hz
 have hp:=zke (a:=a) hs hf hq hl
 obtain⟨ds,hd1,hd2⟩:=fill_rel (ds:=zv.cells) hp (by grind [VRL.refl1]) hc
 refine⟨rfl,zp (hrun _ zv ds (hzr w) ?_) (VR.agg_of hd2)⟩
 simp_all
theorem ziM {t:TypeId} {fs:Array Field} (hu:P.underlying t=some (.struct fs)) (hall:fs.toList.all (fun(f:Field)=>(zJ P f.type).isSome)=true) (l:Array (Nat×Value)) {z':Value} {cs:Array Value}
 (hz:(zeroValue t).run P w=.ok z' w) (hfill:Instr.fill (fun i:Nat=>(fs[i]?).bind fun(f:Field)=>(zJ P f.type).map fun s=>(f.offset,s)) z'.cells l.toList=some cs):(Instr.build t l).run P w=.ok (.agg cs) w:=by
 have hm:=zkM (P:=P) (fun f:Field=>do pure (f.offset,←sizeOf f.type)) (fun f:Field=>(f.offset,(zJ P f.type).getD 0)) w fs (fun f hf=>by
  have:=List.all_eq_true.1 hall f hf
  obtain⟨n,hn⟩:=Option.isSome_iff_exists.1 this
  simp[zG hn,hn])
 have e:(fun i:Nat=>(fs[i]?).bind fun(f:Field)=>(zJ P f.type).map fun s=>(f.offset,s))=fun i:Nat=>(fs.map fun(f:Field)=>(f.offset,(zJ P f.type).getD 0))[i]?:=by
  grind [Option.isSome_iff_exists]
 simp_all[Instr.build,run_underlying]
theorem zjE {t e:TypeId} {n sz:Nat} (hu:P.underlying t=some (.array n e)) (hsz:zJ P e=some sz) (l:Array (Nat×Value)) {z':Value} {cs:Array Value}
 (hz:(zeroValue t).run P w=.ok z' w) (hfill:Instr.fill (fun i=>some (i*sz,sz)) z'.cells l.toList=some cs):(Instr.build t l).run P w=.ok (.agg cs) w:=by
 simp_all[Instr.build,run_underlying,zG]
end
end Go.Ideal
namespace Go.Ideal
variable {P:Program}
theorem inB_some {i:Int} {n m:Nat} (h:inB i n=some m):i=.ofNat m∧m≤n:=by
 unfold inB at h
 split at h
 ·split at h
  all_goals simp_all
 grind
theorem zcE {d y m:Nat} {v:Option Value} (h:zbP d y v=some m):(v=none∧m=d)∨(∃k,v=some (.int k (.ofNat m))∧m≤y):=by
 unfold zbP at h
 split at h
 ·grind
 ·obtain⟨rfl,h2⟩:=inB_some h;grind
 grind
theorem z8 {k:IntKind} {m y:Nat} (h:m≤y) (code:BoundsCode) (w:World):(Instr.sliceBound (.int k ((m:Nat):Int)) y code).run P w=.ok m w:=by
 simp[Instr.sliceBound,asIntOf,h]
theorem zbE {sl:Bool} {len cap known lo hi:Nat} {vl vh vl' vh':Option Value} (hk:known≤cap) (hlc:vh=none→len≤cap) (h1:zbP len known vh=some hi) (h2:zbP 0 hi vl=some lo)
 (rl: ∀v,vl=some v→ ∀k m,v=.int k m→vl'=some (.int k m)) (rl0:vl=none→vl'=none) (rh: ∀v,vh=some v→ ∀k m,v=.int k m→vh'=some (.int k m)) (rh0:vh=none→vh'=none) (w:World):
 (Instr.sliceBounds sl len cap vl' vh' none).run P w=.ok (lo,hi,cap) w∧lo≤hi∧hi≤cap∧(vh≠none→hi≤known):=by
 rcases zcE h1 with⟨e1,rfl⟩| ⟨k1,e1,b1⟩
 ·rw[rh0 e1]
  rcases zcE h2 with⟨e2,rfl⟩| ⟨k2,e2,b2⟩
  all_goals simp_all[Instr.sliceBounds,z8]
 ·rw[rh _ e1 _ _ rfl]
  rcases zcE h2 with⟨e2,rfl⟩| ⟨k2,e2,b2⟩
  ·rw[rl0 e2];exact⟨by simp[Instr.sliceBounds,z8 (Nat.le_trans b1 hk)],by omega,by omega,fun _=>b1⟩
  ·rw[rl _ e2 _ _ rfl];exact⟨by simp[Instr.sliceBounds,z8 b2,z8 (Nat.le_trans b1 hk)],b2,by omega,fun _=>b1⟩
section
variable {ρ:Rho} {h h':H} {w:World} {s:za} {a:Act} {v:Value}
theorem zkf (hs:SR ρ s a.tmps) {x:Option Operand} {c:Option CO} (hc:coO x=some c) {v:Option Value} (hv:evO s c=some v):
 (∀u,v=some u→ ∀k m,u=.int k m→x.map a.eval=some (.int k m))∧(v=none→x.map a.eval=none):=by
 cases x with
 |none=>cases hc;cases hv;grind
 |some x=>
  obtain⟨c',hc',rfl⟩:=amf hc
  obtain⟨u,hu,rfl⟩:=amf hv
  refine⟨fun u' e k m e'=> ?_,by simp⟩
  cases e
  have:=zbg hc' hs hu
  rw[e'] at this
  simp[this.inv_int]
theorem s_strSlice (hs:SR ρ s a.tmps) {x:Operand} {c:CO} (hc:co x=some c) {lo hi:Option Operand} {lo' hi':Option CO} (hlo:coO lo=some lo') (hhi:coO hi=some hi') {t:TypeId}
 (h1:P.underlying t=some .string) (hv:zdx c lo' hi' s h=some (v,h')):
 h'=h∧SimP P ρ w ((do pure (Next.value (←Instr.sliceAt t (a.eval x) (lo.map a.eval) (hi.map a.eval) none)):Sem Next).run P w) v:=by
 obtain⟨u,hu,hv1⟩:=aof hv
 obtain⟨vl,hvl,hv2⟩:=aof hv1
 obtain⟨vh,hvh,hv3⟩:=aof hv2
 obtain⟨r,hr0,e⟩:=amf hv3
 cases e
 have hx:=zbg hc hs hu
 obtain⟨rl,rl0⟩:=zkf hs hlo hvl
 obtain⟨rh,rh0⟩:=zkf hs hhi hvh
 refine⟨rfl,?_⟩
 unfold zg2 at hr0
 split at hr0
 ·rename_i sb
  obtain⟨nh,hh,hr1⟩:=aof hr0
  obtain⟨nl,hl,hr2⟩:=aof hr1
  obtain⟨l,ht,rfl⟩:=amf hr2
  rw[hx.inv_str]
  obtain⟨hb1,hb2,hb3,_⟩:=zbE (P:=P) (sl:=false) (Nat.le_refl sb.size) (fun _=>Nat.le_refl _) hh hl rl rl0 rh rh0 w
  have e:sb.extract nl nh=⟨⟨l⟩⟩:=by
   rw[zdG,zcf] at ht
   split at ht
   ·cases ht
    apply ByteArray.ext
    apply Array.toList_inj.1
    simp
   grind
  refine zp (v':=.string ⟨⟨l⟩⟩) ?_ (.str _)
  simp_all[Instr.sliceAt,run_underlying,Instr.slice]
 grind
theorem s_slice (hr:HR P ρ h w) (hs:SR ρ s a.tmps) {x:Operand} {c:CO} (hc:co x=some c) {lo hi:Option Operand} {lo' hi':Option CO} (hlo:coO lo=some lo') (hhi:coO hi=some hi') {t e:TypeId} {sz:Nat}
 (h1:P.underlying t=some (.slice e)) (h3:zJ P e=some sz) (hv:zkw sz c lo' hi' s h=some (v,h')):
 h'=h∧SimP P ρ w ((do pure (Next.value (←Instr.sliceAt t (a.eval x) (lo.map a.eval) (hi.map a.eval) none)):Sem Next).run P w) v:=by
 obtain⟨u,hu,hv1⟩:=aof hv
 clear hv
 obtain⟨vl,hvl,hv2⟩:=aof hv1
 clear hv1
 obtain⟨vh,hvh,hv⟩:=aof hv2
 clear hv2
 have hx:=zbg hc hs hu
 obtain⟨rl,rl0⟩:=zkf hs hlo hvl
 obtain⟨rh,rh0⟩:=zkf hs hhi hvh
 have hat: ∀y,(Instr.sliceAt t y (lo.map a.eval) (hi.map a.eval) none).run P w=(Instr.slice t y (lo.map a.eval) (hi.map a.eval) none).run P w:=by
  simp_all[Instr.sliceAt,run_underlying]
 have hsl: ∀b n c l m,(Instr.sliceBounds true n c (lo.map a.eval) (hi.map a.eval) none).run P w=.ok (l,m,c) w→
  (Instr.slice t (.slice b n c) (lo.map a.eval) (hi.map a.eval) none).run P w=.ok (.slice (if c=l then b else b.map (·.add (l*sz))) (m - l) (c - l)) w:=by
  simp_all[Instr.slice,run_underlying,zG]
 obtain⟨base,len,cap,rfl⟩: ∃base len cap,u=.slice base len cap:=by
  unfold zfa at hv
  grind
 ·simp only[zfa] at hv
  split at hv
  ·
   rename_i hcap
   obtain rfl:cap=zc:=Nat.eq_of_beq_eq_true hcap
   obtain⟨ad,hbase,hv1⟩:=aof hv
   clear hv
   subst hbase
   obtain⟨o,ho,hv⟩:=aof hv1
   clear hv1
   cases o with
   |cells cs esz=>
    simp only[zdi] at hv
    split at hv
    ·rename_i hes
     simp only[Bool.and_eq_true] at hes
     obtain rfl:esz=sz:=Nat.eq_of_beq_eq_true hes.1
     have hpos:0<esz:=Nat.blt_eq.mp hes.2.1
     have hnro:esz≠roE:=fun e=>by grind
     obtain⟨h_,hh,hv⟩:=aof hv
     obtain⟨l_,hl,hv⟩:=amf hv
     cases hv
     refine⟨rfl,?_⟩
     generalize a.eval x=y at hx
     cases hx with
     |slice hR hc' hl'=>grind
     | @sliceO i o len cap' R hR he hl' hs' hb=>
       obtain⟨q1,q2,_⟩:=hr.obj _ _ _ hR ho
       have hkn:(cs.length - o) / esz≤cap':=by
        rw[Nat.div_le_iff_le_mul_add_pred hpos]
        grind
       obtain⟨hb1,hb2,hb3,_⟩:=zbE (P:=P) hkn (fun _=>hl') hh hl rl rl0 rh rh0 w
       refine zp (by rw[hat,hsl _ _ _ _ _ hb1]) ?_
       by_cases e:cap'=l_
       ·rw[if_pos e]
        have e1:h_ - l_=0:=by omega
        have e2:cap' - l_=0:=by omega
        rw[e1,e2]
        exact .sliceE hR he (by grind)
       ·rw[if_neg e]
        simp only[Option.map_some,Addr.add_mk,Nat.add_assoc]
        have hmul:l_*esz+(cap' - l_)*R.esz=cap'*R.esz:=by rw[q1,←Nat.add_mul,Nat.add_sub_cancel' (Nat.le_trans hb2 hb3)]
        exact .sliceO hR he (by omega) (by omega) (by omega)
     | @sliceE i o o' R hR he hb=>
       obtain⟨q1,q2,_⟩:=hr.obj _ _ _ hR ho
       have hkn:(cs.length - o) / esz≤0:=by
        simp_all
       obtain⟨hb1,hb2,hb3,_⟩:=zbE (P:=P) hkn (fun _=>Nat.le_refl _) hh hl rl rl0 rh rh0 w
       obtain rfl:h_=0:=by omega
       obtain rfl:l_=0:=by omega
       refine zp (by rw[hat,hsl _ _ _ _ _ hb1]) ?_
       simp only[if_true,Nat.sub_self,Nat.zero_mul,Nat.add_zero]
       exact .sliceE hR he hb
     |sliceR hR he hl'=>
      obtain⟨q1,_⟩:=hr.obj _ _ _ hR ho
      grind
    grind
   |map _ _=>cases hv
   |loop _ _ _ _=>cases hv
   |dead=>cases hv
   |glob _ _=>cases hv
  ·
   rename_i hcap
   have hcap':cap≠zc:=by simp_all
   obtain⟨h_,hh,hv⟩:=aof hv
   obtain⟨l_,hl,hv⟩:=amf hv
   cases hv
   refine⟨rfl,?_⟩
   generalize a.eval x=y at hx
   cases hx with
   |sliceNil=>
    obtain⟨hb1,hb2,hb3,_⟩:=zbE (P:=P) (Nat.le_refl 0) (fun _=>Nat.le_refl 0) hh hl rl rl0 rh rh0 w
    obtain rfl:h_=0:=by omega
    obtain rfl:l_=0:=by omega
    exact zp (by rw[hat,hsl _ _ _ _ _ hb1]) (by grind [VR.sliceNil])
   |slice hR hc' hl'=>
    obtain⟨hb1,hb2,hb3,_⟩:=zbE (P:=P) (Nat.le_refl cap) (fun _=>hl') hh hl rl rl0 rh rh0 w
    refine zp (by rw[hat,hsl _ _ _ _ _ hb1]) ?_
    by_cases e:cap=l_
    ·have e3:Nat.beq cap l_=true:=by rw[e];simp
     rw[if_pos e,if_pos e3]
     exact .slice hR (by omega) (by omega)
    ·have e3: ¬Nat.beq cap l_=true:=by simp_all
     rw[if_neg e,if_neg e3]
     simp only[Option.map_some,Addr.add_mk,Nat.add_assoc]
     exact .slice hR (by omega) (by omega)
   |sliceO hR _ _ _ _=>grind
   |sliceE hR _ _=>grind
   |sliceR hR _ _=>grind
   |sliceD hR hm=>
    obtain⟨hb1,hb2,hb3,_⟩:=zbE (P:=P) (Nat.le_refl 0) (fun _=>Nat.le_refl 0) hh hl rl rl0 rh rh0 w
    obtain rfl:h_=0:=by omega
    obtain rfl:l_=0:=by omega
    exact zp (by rw[hat,hsl _ _ _ _ _ hb1]) (by grind [VR.sliceD])
theorem zbN {sl:Bool} {len cap known m lo hi:Nat} {vl vl':Option Value} {vh vm vh' vm':Value} (hk:known≤cap) (h0:zbP 0 known (some vm)=some m) (h1:zbP 0 m (some vh)=some hi) (h2:zbP 0 hi vl=some lo)
 (rl: ∀v,vl=some v→ ∀k m,v=.int k m→vl'=some (.int k m)) (rl0:vl=none→vl'=none) (rh: ∀k m,vh=.int k m→vh'=.int k m) (rm: ∀k m,vm=.int k m→vm'=.int k m) (w:World):
 (Instr.sliceBounds sl len cap vl' (some vh') (some vm')).run P w=.ok (lo,hi,m) w∧lo≤hi∧hi≤m∧m≤known:=by
 rcases zcE h0 with⟨e0,_⟩| ⟨k0,e0,b0⟩
 ·cases e0
 rcases zcE h1 with⟨e1,_⟩| ⟨k1,e1,b1⟩
 ·cases e1
 cases e0;cases e1
 rw[rh _ _ rfl,rm _ _ rfl]
 rcases zcE h2 with⟨e2,rfl⟩| ⟨k2,e2,b2⟩
 ·rw[rl0 e2];exact⟨by simp[Instr.sliceBounds,z8 (Nat.le_trans b0 hk),z8 b1],by omega,b1,b0⟩
 ·rw[rl _ e2 _ _ rfl];exact⟨by simp[Instr.sliceBounds,z8 (Nat.le_trans b0 hk),z8 b1,z8 b2],b2,b1,b0⟩
theorem s_slice3 (hr:HR P ρ h w) (hs:SR ρ s a.tmps) {x:Operand} {c:CO} (hc:co x=some c) {lo:Option Operand} {hi mx:Operand} {lo':Option CO} {hi' mx':CO} (hlo:coO lo=some lo') (hhi:co hi=some hi') (hmx:co mx=some mx') {t e:TypeId} {sz:Nat}
 (h1:P.underlying t=some (.slice e)) (h3:zJ P e=some sz) (hv:zgT sz c lo' hi' mx' s h=some (v,h')):
 h'=h∧SimP P ρ w ((do pure (Next.value (←Instr.sliceAt t (a.eval x) (lo.map a.eval) (some (a.eval hi)) (some (a.eval mx)))):Sem Next).run P w) v:=by
 obtain⟨u,hu,hv1⟩:=aof hv
 clear hv
 obtain⟨vl,hvl,hv2⟩:=aof hv1
 clear hv1
 obtain⟨vh,hvh,hv3⟩:=aof hv2
 clear hv2
 obtain⟨vm,hvm,hv⟩:=aof hv3
 clear hv3
 have hx:=zbg hc hs hu
 obtain⟨rl,rl0⟩:=zkf hs hlo hvl
 have rh: ∀k m,vh=.int k m→a.eval hi=.int k m:=fun k m e=>by have:=zbg hhi hs hvh;rw[e] at this;exact this.inv_int
 have rm: ∀k m,vm=.int k m→a.eval mx=.int k m:=fun k m e=>by have:=zbg hmx hs hvm;rw[e] at this;exact this.inv_int
 have hat: ∀y,(Instr.sliceAt t y (lo.map a.eval) (some (a.eval hi)) (some (a.eval mx))).run P w=(Instr.slice t y (lo.map a.eval) (some (a.eval hi)) (some (a.eval mx))).run P w:=by
  simp_all[Instr.sliceAt,run_underlying]
 have hsl: ∀b n c l h m,(Instr.sliceBounds true n c (lo.map a.eval) (some (a.eval hi)) (some (a.eval mx))).run P w=.ok (l,h,m) w→
  (Instr.slice t (.slice b n c) (lo.map a.eval) (some (a.eval hi)) (some (a.eval mx))).run P w=.ok (.slice (if m=l then b else b.map (·.add (l*sz))) (h - l) (m - l)) w:=by
  simp_all[Instr.slice,run_underlying,zG]
 obtain⟨base,len,cap,rfl⟩: ∃base len cap,u=.slice base len cap:=by
  unfold zeH at hv
  grind
 ·simp only[zeH] at hv
  split at hv
  ·rename_i hcap
   obtain rfl:cap=zc:=Nat.eq_of_beq_eq_true hcap
   obtain⟨ad,hbase,hv1⟩:=aof hv
   clear hv
   subst hbase
   obtain⟨o,ho,hv⟩:=aof hv1
   clear hv1
   cases o with
   |cells cs esz=>
    simp only[zec] at hv
    split at hv
    ·rename_i hes
     simp only[Bool.and_eq_true] at hes
     obtain rfl:esz=sz:=Nat.eq_of_beq_eq_true hes.1
     have hpos:0<esz:=Nat.blt_eq.mp hes.2.1
     have hnro:esz≠roE:=fun e=>by grind
     obtain⟨m_,hm,hv⟩:=aof hv
     split at hv
     ·rename_i hmm
      simp only[Bool.and_eq_true] at hmm
      have hm0:0<m_:=Nat.blt_eq.mp hmm.1
      have hm1:m_<zc:=Nat.blt_eq.mp hmm.2
      obtain⟨h_,hh,hv⟩:=aof hv
      obtain⟨l_,hl,hv⟩:=amf hv
      cases hv
      refine⟨rfl,?_⟩
      generalize a.eval x=y at hx
      cases hx with
      |slice hR hc' hl'=>grind
      | @sliceO i o len cap' R hR he hl' hs' hb=>
        obtain⟨q1,q2,_⟩:=hr.obj _ _ _ hR ho
        have hkn:(cs.length - o) / esz≤cap':=by
         rw[Nat.div_le_iff_le_mul_add_pred hpos]
         grind
        obtain⟨hb1,hb2,hb3,hb4⟩:=zbN (P:=P) (len:=len) hkn hm hh hl rl rl0 rh rm w
        refine zp (by rw[hat,hsl _ _ _ _ _ _ hb1]) ?_
        by_cases e:m_=l_
        ·rw[if_pos e,if_pos (by rw[e];simp)]
         exact .slice hR (by omega) (by omega)
        ·rw[if_neg e,if_neg (fun h=>e (Nat.eq_of_beq_eq_true h))]
         simp only[Option.map_some,Addr.add_mk,Nat.add_assoc]
         exact .slice hR (by omega) (by omega)
      | @sliceE i o o' R hR he hb=>
        obtain⟨q1,q2,_⟩:=hr.obj _ _ _ hR ho
        have hkn:(cs.length - o) / esz≤0:=by
         simp_all
        obtain⟨hb1,hb2,hb3,hb4⟩:=zbN (P:=P) (sl:=true) (len:=0) hkn hm hh hl rl rl0 rh rm w
        omega
      |sliceR hR he hl'=>
       obtain⟨q1,_⟩:=hr.obj _ _ _ hR ho
       grind
     grind
    grind
   |map _ _=>cases hv
   |loop _ _ _ _=>cases hv
   |dead=>cases hv
   |glob _ _=>cases hv
  ·rename_i hcap
   have hcap':cap≠zc:=by simp_all
   obtain⟨m_,hm,hv⟩:=aof hv
   obtain⟨h_,hh,hv⟩:=aof hv
   obtain⟨l_,hl,hv⟩:=amf hv
   cases hv
   refine⟨rfl,?_⟩
   generalize a.eval x=y at hx
   cases hx with
   |sliceNil=>
    obtain⟨hb1,hb2,hb3,hb4⟩:=zbN (P:=P) (len:=0) (Nat.le_refl 0) hm hh hl rl rl0 rh rm w
    obtain rfl:m_=0:=by omega
    obtain rfl:h_=0:=by omega
    obtain rfl:l_=0:=by omega
    exact zp (by rw[hat,hsl _ _ _ _ _ _ hb1]) (by grind [VR.sliceNil])
   |slice hR hc' hl'=>
    obtain⟨hb1,hb2,hb3,hb4⟩:=zbN (P:=P) (len:=len) (Nat.le_refl cap) hm hh hl rl rl0 rh rm w
    refine zp (by rw[hat,hsl _ _ _ _ _ _ hb1]) ?_
    by_cases e:m_=l_
    ·rw[if_pos e,if_pos (by rw[e];simp)]
     exact .slice hR (by omega) (by omega)
    ·rw[if_neg e,if_neg (fun h=>e (Nat.eq_of_beq_eq_true h))]
     simp only[Option.map_some,Addr.add_mk,Nat.add_assoc]
     exact .slice hR (by omega) (by omega)
   |sliceO hR _ _ _ _=>grind
   |sliceE hR _ _=>grind
   |sliceR hR _ _=>grind
   |sliceD hR hm'=>
    obtain⟨hb1,hb2,hb3,hb4⟩:=zbN (P:=P) (len:=0) (Nat.le_refl 0) hm hh hl rl rl0 rh rm w
    obtain rfl:m_=0:=by omega
    obtain rfl:h_=0:=by omega
    obtain rfl:l_=0:=by omega
    exact zp (by rw[hat,hsl _ _ _ _ _ _ hb1]) (by grind [VR.sliceD])
def EntR (ρ:Rho) (e:Value×Value×Nat) (e':MapEntry):Prop:=VR ρ e.1 e'.key∧VR ρ e.2.1 e'.val∧e'.born=e.2.2
def zfg (ρ:Rho) (es:List (Value×Value×Nat)) (es':List MapEntry):Prop:=es.length=es'.length∧ ∀(j:Nat) e,es[j]? =some e→ ∃e',es'[j]? =some e'∧EntR ρ e e'
theorem zfg.cons_left {ρ:Rho} {e:Value×Value×Nat} {es es'} (h:zfg ρ (e::es) es'): ∃e' es'',es'=e'::es''∧EntR ρ e e'∧zfg ρ es es'':=by
 cases es' with
 |nil=>grind [zfg]
 |cons e' es''=>
  obtain⟨x,hx,hr⟩:=h.2 0 e rfl
  simp at hx;subst hx
  exact⟨e',es'',rfl,hr,by have:=h.1;grind,fun j y hy=>by have:=h.2 (j+1) y (by grind);grind⟩
theorem zfg.nil_left {ρ:Rho} {es'} (h:zfg ρ [] es'):es'=[]:=by have:=h.1;grind
theorem zeJ {kk:KK} {k x:Value} {b:Bool} (h:zcg kk k x=some b):
 (kk=.int∧ ∃q m n,k=.int q m∧x=.int q n∧b=(m==n))∨(kk=.str∧ ∃m n,k=.string m∧x=.string n∧b=(m==n))∨(∃l xs ys,kk=.leaves l∧k=.agg xs∧x=.agg ys∧sameAt xs.toList ys.toList l=some b):=by
 unfold zcg at h
 split at h
 ·grind [zki]
 ·split at h
  ·rename_i e;subst e;grind [zhs]
  grind
 all_goals grind
def isNow:KK→Bool
 |.leaves _=>false
 |_=>true
theorem zjD (w:World) (d:Nat) {t:TypeId} (hu:P.underlying t=some .string) (a b:ByteArray):(Op.equalIn (d+1) t (.string a) (.string b)).run P w=.ok (a==b) w:=by
 simp[Op.equalIn,run_underlying hu]
theorem zel {kt:TypeId} {kk:KK} (hl:zcU P kt=some kk) {ρ:Rho} {k k' x x':Value} (hk:VR ρ k k') (hx:VR ρ x x') {b:Bool} (h:zcg kk k x=some b) (w:World):
 (Op.equal kt k' x').run P w=.ok b w∧((isNow kk=true∧ ∃d,P.underlying kt=some d∧Instr.sameNow d k' x'=some b)∨(∃l,kk=.leaves l∧ ∃d,P.underlying kt=some d∧ ∀y,Instr.sameNow d k' y=none)):=by
 obtain⟨u,hu,hl⟩:=aof hl
 rcases zeJ h with⟨rfl,q,m,n,rfl,rfl,rfl⟩| ⟨rfl,m,n,rfl,rfl,rfl⟩| ⟨l,xs,ys,rfl,rfl,rfl,hs⟩
 ·rw[hk.inv_int,hx.inv_int]
  cases u with
  |int q0=>exact⟨by grind [Op.equal,Op.maxDepth,run_equalIn_int],.inl ⟨rfl,_,hu,by simp[Instr.sameNow]⟩⟩
  |_=>simp at hl
 ·rw[hk.inv_str,hx.inv_str]
  cases u with
  |string=>exact⟨by grind [Op.equal,Op.maxDepth,zjD],.inl ⟨rfl,_,hu,by simp[Instr.sameNow]⟩⟩
  |_=>simp at hl
 ·obtain⟨xs',rfl,hxs⟩:=hk.inv_agg
  obtain⟨ys',rfl,hys⟩:=hx.inv_agg
  have hlv:zf0 P kt=some l:=by
   cases u with
   |int q=>grind
   |string=>grind
   |_=>simpa using hl
  exact⟨ziu hlv 9998 _ _ w (zhT hxs hys hs),.inr ⟨l,rfl,u,hu,fun y=>by cases u<;>rfl⟩⟩
end
end Go.Ideal
namespace Go.Ideal
variable {P:Program}
theorem zlh {xs ys:List Value}: ∀{l:List Nat} {b:Bool},sameAt xs ys l=some b→ ∀i∈l,∃k m,xs[i]? =some (.int k m)
 | [],_,_,i,hi=>by cases hi
 |j::r,b,h,i,hi=>by
  obtain⟨k,m,n,c,h1,h2,h3,rfl⟩:=zeN h
  rcases List.mem_cons.1 hi with rfl|hi
  ·grind
  ·exact zlh h3 i hi
theorem ziF (e:Bool) (d:Nat) {t:TypeId} (ht:zis P t=true) (k:IntKind) (m:Int) (w:World):(Instr.checkKey e (d+1) t (.int k m)).run P w=.ok () w:=by
 obtain⟨q,hq⟩:=zdM ht
 simp[Instr.checkKey,run_underlying hq]
theorem ziE {kt:TypeId} {kk:KK} (hl:zcU P kt=some kk) {ρ:Rho} {k k':Value} (hk:VR ρ k k') {b:Bool} (h:zcg kk k k=some b) (e:Bool) (d:Nat) (w:World):(Instr.checkKey e (d+2) kt k').run P w=.ok () w:=by
 obtain⟨u,hu,hl⟩:=aof hl
 rcases zeJ h with⟨rfl,q,m,n,rfl,-,-⟩| ⟨rfl,m,n,rfl,-,-⟩| ⟨l,xs,ys,rfl,rfl,-,hs⟩
 ·rw[hk.inv_int]
  cases u with
  |int q0=>simp[Instr.checkKey,run_underlying hu]
  |_=>simp at hl
 ·rw[hk.inv_str]
  cases u with
  |string=>simp[Instr.checkKey,run_underlying hu]
  |_=>simp at hl
 ·obtain⟨xs',rfl,hxs⟩:=hk.inv_agg
  have hlv:zf0 P kt=some l:=by
   cases u with
   |int q=>grind
   |string=>grind
   |_=>simpa using hl
  obtain⟨u',hu',hlv⟩:=aof hlv
  rw[hu] at hu';cases hu'
  have hcell: ∀i∈l,∃kk m,xs'[i]? =some (.int kk m):=by
   intro i hi
   obtain⟨kk,m,hx⟩:=zlh hs i hi
   have:=hxs.int_at hx
   grind
  cases u with
  |struct fs=>
   dsimp only at hlv
   split at hlv
   ·grind
   ·split at hlv
    ·rename_i hall
     cases hlv
     rw[Instr.checkKey]
     simp only[Sem.run_bind,run_underlying hu,Result.andThen_ok]
     rw[←Array.forIn_toList]
     have: ∀(l:List Field),(∀f∈l,f∈fs.toList)→(forIn l PUnit.unit fun(f:Field) _=>if f.name≠ "_" then(do let a←part f.type xs' f.offset;Instr.checkKey e (d+1) f.type a;pure (ForInStep.yield PUnit.unit)) else pure (ForInStep.yield PUnit.unit)).run P w=.ok PUnit.unit w:=by
      intro l
      induction l with
      |nil=>simp_all
      |cons f l ih=>
       intro hsub
       have hf:=List.all_eq_true.1 hall f (hsub f (by simp))
       simp only[Bool.and_eq_true] at hf
       obtain⟨kk,m,hc⟩:=hcell f.offset (List.mem_map.2 ⟨f,hsub f (by simp),rfl⟩)
       simp_all[zbF,ziF]
     grind [Result.andThen_ok,Sem.run_pure]
    grind
  |array n el=>
   dsimp only at hlv
   split at hlv
   ·rename_i hp
    cases hlv
    simp only[Bool.and_eq_true,beq_iff_eq] at hp
    rw[Instr.checkKey]
    simp only[Sem.run_bind,run_underlying hu,Result.andThen_ok]
    rw[Std.Legacy.Range.forIn_eq_forIn_range']
    simp only[Std.Legacy.Range.size,Nat.sub_zero,Nat.add_sub_cancel,Nat.div_one,←List.range_eq_range']
    have: ∀(l:List Nat),(∀f∈l,f∈List.range n)→(forIn l PUnit.unit fun i _=>do let z←sizeOf el;let a←part el xs' (i*z);Instr.checkKey e (d+1) el a;pure (ForInStep.yield PUnit.unit)).run P w=.ok PUnit.unit w:=by
     intro l
     induction l with
     |nil=>simp_all
     |cons f l ih=>
      intro hsub
      obtain⟨kk,m,hc⟩:=hcell f (hsub f (by simp))
      simp_all[zG,zbF,ziF]
    simp_all
   grind
  |_=>cases hlv
def zim (ρ:Rho) (es':List MapEntry) (i:Nat):Option Value→Option (Nat×Value)→Prop
 |none,none=>True
 |some v,some p=>i≤p.1∧ ∃e',es'[p.1 - i]? =some e'∧e'.val=p.2∧VR ρ v p.2
 |_,_=>False
theorem zim.step {ρ:Rho} {es':List MapEntry} {e':MapEntry} {i:Nat} {r:Option Value} {r':Option (Nat×Value)} (h:zim ρ es' (i+1) r r'):zim ρ (e'::es') i r r':=by
 cases r with
 |none=>cases r'<;>exact h
 |some v=>cases r' with
  |none=>exact h
  |some p=>
   obtain⟨hj,e2,he2,hv2⟩:=h
   refine⟨by omega,e2,?_,hv2⟩
   grind
theorem zkd {kt:TypeId} {kk:KK} (hl:zcU P kt=some kk) (hnw:isNow kk=true) {d:TypeDesc} (hd:P.underlying kt=some d) {ρ:Rho} {k k':Value} (hk:VR ρ k k'):
 ∀(es:List (Value×Value×Nat)) (es':List MapEntry) (r:Option Value) (i:Nat),zfg ρ es es'→findE kk k es=some r→
  ∃r',Instr.findNow d k' es' i=some r'∧zim ρ es' i r r'
 | [],es',r,i,he,h=>by cases h;rw[he.nil_left];exact⟨none,rfl,trivial⟩
 | (key,v,b)::es,es',r,i,he,h=>by
   obtain⟨e',es'',rfl,her,hrest⟩:=he.cons_left
   obtain⟨c,hc,h⟩:=aof h
   obtain⟨_,hn⟩:=zel hl hk her.1 hc (default:World)
   rcases hn with⟨_,d',hd',hn⟩| ⟨l,hl',_⟩
   ·rw[hd] at hd';cases hd'
    cases c with
    |true=>
     cases h
     exact⟨some (i,e'.val),by simp[Instr.findNow,hn],Nat.le_refl _,e',by simp,rfl,her.2.1⟩
    |false=>
     obtain⟨r',h1,h2⟩:=zkd hl hnw hd hk es es'' r (i+1) hrest h
     exact⟨r',by grind [Instr.findNow],h2.step⟩
   ·subst hl';cases hnw
theorem zgj {kt:TypeId} {kk:KK} (hl:zcU P kt=some kk) {ρ:Rho} {k k':Value} (hk:VR ρ k k') (w:World):
 ∀(es:List (Value×Value×Nat)) (es':List MapEntry) (r:Option Value) (i:Nat),zfg ρ es es'→findE kk k es=some r→
  ∃r',(Instr.findAsking kt k' es' i).run P w=.ok r' w∧zim ρ es' i r r'
 | [],es',r,i,he,h=>by cases h;rw[he.nil_left];exact⟨none,rfl,trivial⟩
 | (key,v,b)::es,es',r,i,he,h=>by
   obtain⟨e',es'',rfl,her,hrest⟩:=he.cons_left
   obtain⟨c,hc,h⟩:=aof h
   obtain⟨hq,_⟩:=zel hl hk her.1 hc w
   cases c with
   |true=>
    cases h
    exact⟨some (i,e'.val),by simp[Instr.findAsking,hq],Nat.le_refl _,e',by simp,rfl,her.2.1⟩
   |false=>
    obtain⟨r',h1,h2⟩:=zgj hl hk w es es'' r (i+1) hrest h
    exact⟨r',by simp[Instr.findAsking,hq,h1],h2.step⟩
theorem findKey_run {kt:TypeId} {kk:KK} (hl:zcU P kt=some kk) {ρ:Rho} {k k':Value} (hk:VR ρ k k') {b:Bool} (hself:zcg kk k k=some b) (w:World)
 {es:List (Value×Value×Nat)} {es':List MapEntry} {r:Option Value} (he:zfg ρ es es') (h:findE kk k es=some r):
 ∃r',(Instr.findKey kt k' es').run P w=.ok r' w∧zim ρ es' 0 r r':=by
 obtain⟨u,hu,hl0⟩:=aof hl
 obtain⟨hself',hn⟩:=zel hl hk hk hself w
 rcases hn with⟨hnw,d,hd,hn⟩| ⟨l,rfl,d,hd,hn⟩
 ·obtain⟨r',h1,h2⟩:=zkd hl hnw hd hk es es' r 0 he h
  simp_all[Instr.findKey,run_underlying]
 ·cases es' with
  |nil=>
   have:es=[]:=by have:=he.1;grind
   subst this
   cases h
   exact⟨none,by simp[Instr.findKey,run_underlying hd,Instr.findNow],trivial⟩
  |cons e' es''=>
   obtain⟨r',h1,h2⟩:=zgj hl hk w es (e'::es'') r 0 he h
   simp_all[Instr.findKey,run_underlying,Instr.findNow]
section
variable {ρ:Rho} {h h':H} {w:World} {s:za} {a:Act} {v:Value}
theorem zeu {r:Nat} {es:Array MapEntry} {clock:Nat} (hb:w.heap[r]? =some (.map es clock)):(getObj r).run P w=.ok (.map es clock) w:=by
 simp[getObj,Sem.run,hb]
theorem zlb {r:Nat} {es:Array MapEntry} {clock:Nat} (o:Obj) (hb:w.heap[r]? =some (.map es clock)):(setObj r o).run P w=.ok () {w with heap:=w.heap.setIfInBounds r o}:=by
 simp[setObj,Sem.run,hb]
theorem zfg.of_OR {R:RB} {es:List (Value×Value×Nat)} {clock:Nat} (ho:OR P ρ w R (.map es clock)): ∃es':Array MapEntry,w.heap[R.blk]? =some (.map es' clock)∧zfg ρ es es'.toList:=by
 obtain⟨es',h1,h2,h3⟩:=ho
 exact⟨es',h1,by grind,fun j e he=>by obtain⟨e',a,b,c,d⟩:=h3 j e he;exact⟨e',by grind,b,c,d⟩⟩
theorem s_lookup (hr:HR P ρ h w) (hs:SR ρ s a.tmps) {x y:Operand} {c d:CO} (hc:co x=some c) (hd:co y=some d) {t kt e:TypeId} {kk:KK} {z:Value} {ok:Bool} (h1:P.underlying t=some (.map kt e)) (h2:zcU P kt=some kk)
 (h3: ∀w,(zeroValue e).run P w=.ok z w) (hz:zfK z=true) (hv:zgU kk z ok c d s h=some (v,h')):
 h'=h∧SimP P ρ w ((do pure (Next.value (←Instr.lookup t (a.eval x) (a.eval y) ok)):Sem Next).run P w) v:=by
 obtain⟨m,hm,hv1⟩:=aof hv
 obtain⟨k,hk,hv2⟩:=aof hv1
 obtain⟨b,hb,hv3⟩:=aof hv2
 obtain⟨es,hes,hv4⟩:=aof hv3
 obtain⟨r,hr',e'⟩:=amf hv4
 clear hv hv1 hv2 hv3 hv4
 cases e'
 have hx:=zbg hc hs hm
 have hy:=zbg hd hs hk
 refine⟨rfl,?_⟩
 generalize a.eval x=X at hx
 generalize a.eval y=Y at hy
 have hck: ∀e,(Instr.checkKey e 10000 kt Y).run P w=.ok () w:=fun e=>ziE h2 hy hb e 9998 w
 have key: ∀es':Array MapEntry,zfg ρ es es'.toList→
  ∃v',VR ρ (zfq z ok r) v'∧ ∃r',(Instr.findKey kt Y es'.toList).run P w=.ok r' w∧
   ((r'=none∧v'=(if ok then .tuple #[z,.bool false] else z))∨(∃p:Nat×Value,r'=some p∧v'=(if ok then .tuple #[p.2,.bool true] else p.2))):=by
  intro es' he
  obtain⟨r',hf,hrel⟩:=findKey_run h2 hy hb w he hr'
  cases r with
  |none=>
   cases r' with
   |none=>
    refine⟨_,?_,none,hf,.inl ⟨rfl,rfl⟩⟩
    cases ok
    ·exact VR.refl hz
    ·exact VR.tuple_of (.cons (VR.refl hz) (.cons (.bool false) (.nil _)))
   |some p=>exact hrel.elim
  |some u=>
   cases r' with
   |none=>exact hrel.elim
   |some p=>
    obtain⟨_,e',_,_,hv⟩:=hrel
    refine⟨_,?_,some p,hf,.inr ⟨p,rfl,rfl⟩⟩
    cases ok
    ·exact hv
    ·exact VR.tuple_of (.cons hv (.cons (.bool true) (.nil _)))
 unfold zdw at hes
 split at hes
 ·cases hes;cases hx
  obtain⟨v',hv',r',hf,hcase⟩:=key #[] ⟨rfl,by simp⟩
  refine zp ?_ hv'
  rcases hcase with⟨rfl,rfl⟩| ⟨p,rfl,rfl⟩
  all_goals simp_all[Instr.lookup,run_underlying]
 ·rename_i i
  split at hes
  ·rename_i es0 clock ho
   cases hes
   cases hx with
   |map hR=>
    obtain⟨es',q1,q2⟩:=zfg.of_OR (hr.obj _ _ _ hR ho)
    obtain⟨v',hv',r',hf,hcase⟩:=key es' q2
    refine zp ?_ hv'
    rcases hcase with⟨rfl,rfl⟩| ⟨p,rfl,rfl⟩
    ·simp only[Instr.lookup,Sem.run_bind,run_underlying h1,Result.andThen_ok,Sem.run_pure,zeu q1,hck,hf,h3]
    ·simp only[Instr.lookup,Sem.run_bind,run_underlying h1,Result.andThen_ok,Sem.run_pure,zeu q1,hck,hf]
  grind
 grind
end
theorem minmax_cons {isMax:Bool} {k:IntKind} {m:Int} {y:Value} {l:List Value} {r:Value} (h:zdO isMax (.int k m) (y::l)=some r):
 ∃n,y=.int k n∧zdO isMax (.int k (if isMax then(if m<n then n else m) else(if n<m then n else m))) l=some r:=by
 cases y<;>simp only[zdO,reduceCtorEq] at h
 grind [zej]
theorem zh0 {ρ:Rho} {w:World} (isMax:Bool): ∀(l:List Value) (k:IntKind) (m:Int) (r:Value) (ys:List Value),zdO isMax (.int k m) l=some r→VRL ρ l ys→(∃n,r=.int k n)∧(ys.foldlM (if isMax then Builtin.max2 else Builtin.min2) (.int k m)).run P w=.ok r w
 | [],k,m,r,ys,h,hv=>by cases h;rw[hv.nil_left];simp_all
 |y::l,k,m,r,ys,h,hv=>by
  obtain⟨y',ys',rfl,h1,h2⟩:=hv.cons_left
  obtain⟨n,rfl,h3⟩:=minmax_cons h
  obtain⟨q,hq⟩:=zh0 isMax l k _ r ys' h3 h2
  refine⟨q,?_⟩
  rw[List.foldlM_cons,h1.inv_int]
  cases isMax
  ·simp only[Bool.false_eq_true,if_false,Sem.run_bind,Builtin.min2,Sem.run_pure,Result.andThen_ok] at hq⊢
   exact hq
  grind [Builtin.max2]
theorem zi7 {ρ:Rho} {s:za} {a:Act} (hs:SR ρ s a.tmps) {xs:Array Operand} {cs:List CO} {vs:List Value} (hc:allO co xs.toList=some cs) (hv:evL s cs=some vs):VRL ρ vs (xs.map a.eval).toList:=by
 grind [Array.toList_map,coL_ev]
section
variable {ρ:Rho} {h h':H} {w:World} {s:za} {a:Act} {v:Value}
theorem s_blt (hr:HR P ρ h w) {b:Builtin} {ts:Array TypeId} {cb:CB} (hcb:zbU P b ts=some cb) (hna: ∀x y,cb≠ .append x y) (hnc: ∀z,cb≠ .clear z) (hnp: ∀z,cb≠ .copy z) {vs:List Value} {args:Array Value} (hargs:VRL ρ vs args.toList) (hv:bltV h cb vs=some (v,h')) (type:TypeId) (cs:Array Bool):
 h'=h∧SimP P ρ w ((builtin b ts type cs args).run P w) v:=by
 cases b<;>simp only[zbU,reduceCtorEq] at hcb
 case append=>
  split at hcb
  ·obtain⟨u,hu,hcb⟩:=aof hcb
   obtain⟨u1,hu1,hcb⟩:=aof hcb
   split at hcb
   ·obtain⟨i,hi,hcb⟩:=aof hcb
    obtain⟨z,hz,hcb⟩:=aof hcb
    grind
   ·obtain⟨i,hi,hcb⟩:=aof hcb
    obtain⟨z,hz,hcb⟩:=aof hcb
    grind
   grind
  grind
 case clear=>
  obtain⟨t,ht,hcb⟩:=aof hcb
  obtain⟨u,hu,hcb⟩:=aof hcb
  cases u<;>simp only[reduceCtorEq] at hcb
  obtain⟨z,hz,hcb⟩:=aof hcb
  grind
 case copy=>
  obtain⟨t,ht,hcb⟩:=aof hcb
  obtain⟨u,hu,hcb⟩:=aof hcb
  cases u<;>simp only[reduceCtorEq] at hcb
  obtain⟨z,hz,hcb⟩:=aof hcb
  grind
 case len=>
  obtain⟨t,ht,hcb⟩:=aof hcb
  obtain⟨u,hu,hcb⟩:=aof hcb
  have hts:ts[0]? =some t:=ht
  cases u<;>simp only[Option.some.injEq,reduceCtorEq] at hcb
  case string=>
   subst hcb
   cases vs with
   |nil=>grind [bltV]
   |cons x l=>
    obtain⟨y,ys,hys,h1,h2⟩:=hargs.cons_left
    have hy:args[0]? =some y:=by rw[←Array.getElem?_toList,hys];rfl
    cases x<;>cases l<;>simp only[bltV,Option.some.injEq,Prod.mk.injEq,reduceCtorEq] at hv
    obtain⟨rfl,rfl⟩:=hv
    rw[h1.inv_str] at hy
    exact⟨rfl,zp (v':=.int .i64 _) (by simp_all[Builtin.len_,run_underlying,goInt]) (.int _ _)⟩
  case slice e=>
   subst hcb
   cases vs with
   |nil=>grind [bltV]
   |cons x l=>
    obtain⟨y,ys,hys,h1,h2⟩:=hargs.cons_left
    have hy:args[0]? =some y:=by rw[←Array.getElem?_toList,hys];rfl
    cases x<;>cases l<;>simp only[bltV,Option.some.injEq,Prod.mk.injEq,reduceCtorEq] at hv
    obtain⟨rfl,rfl⟩:=hv
    obtain⟨b',c',rfl,_⟩:=h1.inv_slice
    exact⟨rfl,zp (v':=.int .i64 _) (by simp_all[Builtin.len_,run_underlying,goInt]) (.int _ _)⟩
  case map k e=>
   subst hcb
   cases vs with
   |nil=>grind [bltV]
   |cons x l=>
    obtain⟨y,ys,hys,h1,h2⟩:=hargs.cons_left
    have hy:args[0]? =some y:=by rw[←Array.getElem?_toList,hys];rfl
    cases x with
    |map r=>
     cases l with
     |cons z l=>grind [bltV]
     |nil=>
      cases r with
      |none=>
       simp only[bltV,Option.some.injEq,Prod.mk.injEq] at hv
       obtain⟨rfl,rfl⟩:=hv
       obtain⟨b',rfl,hb⟩:=h1.inv_map
       obtain rfl:=zjS hb
       exact⟨rfl,zp (v':=.int .i64 0) (by simp_all[Builtin.len_,run_underlying,goInt]) (.int _ _)⟩
      |some r=>
       simp only[bltV] at hv
       split at hv
       ·rename_i es clock ho
        simp only[Option.some.injEq,Prod.mk.injEq] at hv
        obtain⟨rfl,rfl⟩:=hv
        cases h1 with
        |map hR=>
         obtain⟨es',q1,q2⟩:=zfg.of_OR (hr.obj _ _ _ hR ho)
         have hl:es.length=es'.size:=by have:=q2.1;grind
         exact⟨rfl,zp (v':=.int .i64 es.length) (by simp[Builtin.len_,hts,hy,run_underlying hu,goInt,zeu q1,hl]) (.int _ _)⟩
       grind
    |_=>cases l<;>simp[bltV] at hv
 case max=>
  cases hcb
  cases vs with
  |nil=>grind [bltV]
  |cons x l=>
   simp only[bltV] at hv
   obtain⟨r,hr',e⟩:=amf hv
   cases e
   obtain⟨y,ys,hys,h1,h2⟩:=hargs.cons_left
   refine⟨rfl,?_⟩
   cases l with
   |nil=>
    cases hr'
    have:=h2.nil_left;subst this
    exact zp (by simp[Builtin.max_,hys]) h1
   |cons z l=>
    obtain⟨k,m,rfl⟩: ∃k m,x=.int k m:=by
     cases x<;>first|exact⟨_,_,rfl⟩| (simp[zdO] at hr')
    obtain⟨⟨n,rfl⟩,hq⟩:=zh0 (P:=P) (w:=w) true (z::l) _ _ _ ys hr' h2
    rw[h1.inv_int] at hys
    exact zp (by grind [Builtin.max_]) (.int _ _)
 case min=>
  cases hcb
  cases vs with
  |nil=>grind [bltV]
  |cons x l=>
   simp only[bltV] at hv
   obtain⟨r,hr',e⟩:=amf hv
   cases e
   obtain⟨y,ys,hys,h1,h2⟩:=hargs.cons_left
   refine⟨rfl,?_⟩
   cases l with
   |nil=>
    cases hr'
    have:=h2.nil_left;subst this
    exact zp (by simp[Builtin.min_,hys]) h1
   |cons z l=>
    obtain⟨k,m,rfl⟩: ∃k m,x=.int k m:=by
     cases x<;>first|exact⟨_,_,rfl⟩| (simp[zdO] at hr')
    obtain⟨⟨n,rfl⟩,hq⟩:=zh0 (P:=P) (w:=w) false (z::l) _ _ _ ys hr' h2
    rw[h1.inv_int] at hys
    exact zp (by grind [Builtin.min_]) (.int _ _)
end
end Go.Ideal
namespace Go.Ideal
variable {P:Program}
def Sim (P:Program) (ρ:Rho) (w:World) (r:Result Next) (v:Value) (h':H):Prop:=
 ∃n v' w' σ,r=.ok n w'∧(n=.value v'∨(n=.skip∧v'=undef))∧VR σ v v'∧HR P σ h' w'∧Ext ρ w σ w'
theorem SimP.sim {ρ:Rho} {h:H} {w:World} {r:Result Next} {v:Value} (hs:SimP P ρ w r v) (hr:HR P ρ h w):Sim P ρ w r v h:=by
 obtain⟨v',h1,h2⟩:=hs
 exact⟨_,v',w,ρ,h1,.inl rfl,h2,hr,.refl _ _⟩
def SimA (P:Program) (ρ:Rho) (w:World) (r:Result Next) (i:Nat) (v:Value) (io:IObj):Prop:=
 ∃v' o R,r=.ok (.value v') (w.alloc o)∧R.blk=w.heap.size∧VR (upd ρ i R) v v'∧OR P (upd ρ i R) (w.alloc o) R io∧Calm o
theorem SimA.sim {ρ:Rho} {h:H} {w:World} {r:Result Next} {v:Value} {io:IObj} (hs:SimA P ρ w r h.next v io) (hr:HR P ρ h w):Sim P ρ w r v (h.new io):=by
 obtain⟨v',o,R,h1,h2,h3,h4,h5⟩:=hs
 obtain⟨q1,q2⟩:=hr.new h2 h5 h4
 exact⟨_,v',_,_,h1,.inl rfl,h3,q1,q2⟩
theorem zfW (t:TypeId) (c:Array Value) (w:World):(newRow t c).run P w=.ok ⟨w.heap.size,0,none⟩ (w.alloc (.cells c t)):=by
 simp[newRow]
theorem OR.row {ρ:Rho} {w:World} {i:Nat} {cs:List Value} {c:Array Value} (t:TypeId) (hi:ρ i=none) (hv:VRL ρ cs c.toList):
 OR P (upd ρ i ⟨w.heap.size,0,c.size,0,cs.length,none⟩) (w.alloc (.cells c t)) ⟨w.heap.size,0,c.size,0,cs.length,none⟩ (.cells cs 0):=by
 have hl:cs.length=c.size:=by have:=hv.1;grind
 exact OR.newCells t rfl rfl rfl rfl rfl rfl (by omega) (by rw[List.take_of_length_le (by simp[hl])];exact hv.mono (zdF _ hi))
section
variable {ρ:Rho} {h h':H} {w:World} {s:za} {a:Act} {v:Value}
theorem s_alloc {i:Nat} (hi:ρ i=none) {t:TypeId} {z:List Value} (hz:zbC P t=some z):
 SimA P ρ w ((do pure (Next.value (←Instr.alloc t true (.tuple #[]))):Sem Next).run P w) i (.pointer (some ⟨i,0,none⟩)) (.cells z 0):=by
 obtain⟨⟨zv,hzv,hzr⟩,hzc⟩:=zco hz
 have hv:VRL ρ z zv.cells.toList:=by grind [VRL.refl1]
 refine⟨.pointer (some ⟨w.heap.size,0,none⟩),.cells zv.cells t,_,?_,rfl,?_,OR.row t hi hv,zbl _ _⟩
 ·simp[Instr.alloc,hzr,newVar,zfW]
 ·have:=VR.ptr (ρ:=upd ρ i ⟨w.heap.size,0,zv.cells.size,0,z.length,none⟩) (o:=0) (zH _ _ _)
  grind
theorem s_box (hs:SR ρ s a.tmps) {i:Nat} (hi:ρ i=none) {t:TypeId} {x:Operand} {c:CO} (hc:co x=some c) {u:Value} (hu:c.ev s=some u):
 SimA P ρ w ((do pure (Next.value (←Instr.box t (a.eval x))):Sem Next).run P w) i (.pointer (some ⟨i,0,none⟩)) (.cells (zW u) 0):=by
 have hx:=(zbg hc hs hu).cells
 refine⟨.pointer (some ⟨w.heap.size,0,none⟩),.cells (a.eval x).cells t,_,?_,rfl,?_,OR.row t hi hx,zbl _ _⟩
 ·simp[Instr.box,newVar,zfW]
 ·have:=VR.ptr (ρ:=upd ρ i ⟨w.heap.size,0,(a.eval x).cells.size,0,(zW u).length,none⟩) (o:=0) (zH _ _ _)
  grind
theorem zcI (z:List Value): ∀n,(zbr z n).length=n*z.length
 |0=>by simp[zbr]
 |n+1=>by simp[zbr,zcI z n,Nat.add_mul,Nat.add_comm]
theorem zjK (z:List Value) (hz:0<z.length): ∀n j,j<n*z.length→(zbr z n)[j]? =z[j%z.length]?
 |0,j,hj=>by grind
 |n+1,j,hj=>by
  rw[zbr,List.getElem?_append]
  split
  ·grind [Nat.mod_eq_of_lt]
  ·rename_i h
   rw[zjK z hz n (j - z.length) (by grind)]
   grind [Nat.mod_eq_sub_mod]
theorem zjf {ρ:Rho} {z:List Value} {zv:Array Value} (hv:VRL ρ z zv.toList) (n m:Nat) (hm:m=n*z.length):VRL ρ (zbr z n) (((Array.range m).map (zv[· %zv.size]!)).toList):=by
 have hl:z.length=zv.size:=by have:=hv.1;grind
 refine⟨by grind [zcI],fun j x y hx hy=> ?_⟩
 have hj:j<n*z.length:=by
  grind
 have hz:0<z.length:=by
  grind
 rw[zjK z hz n j hj] at hx
 have hlt:j%z.length<zv.size:=by grind
 simp only[Array.toList_map,List.getElem?_map] at hy
 have hr:(Array.range m).toList[j]? =some j:=by grind
 rw[hr] at hy
 simp only[Option.map_some,Option.some.injEq] at hy
 subst hy
 rw[←hl,getElem!_pos zv (j%z.length) hlt]
 exact hv.2 _ _ _ hx (by grind)
theorem ziA (hs:SR ρ s a.tmps) (sz:Nat):
 ∀{ps:List (Nat×Operand)} {qs:List (Nat×CO)} {l:List (Nat×Nat×Value)},allO (fun(p:Nat×Operand)=>(co p.2).map fun x=>(p.1,x)) ps=some qs→zcJ s sz qs=some l→
  zhE ρ l (ps.map fun p=>(p.1,a.eval p.2)) (fun i=>some (i*sz,sz))
 | [],qs,l,h,hl=>by cases h;cases hl;exact .nil _ _
 |p::ps,qs,l,h,hl=>by
  obtain⟨q,hq,h⟩:=aof h
  obtain⟨qs',hqs,rfl⟩:=amf h
  obtain⟨x,hx,rfl⟩:=amf hq
  obtain⟨u,hu,hl⟩:=aof hl
  obtain⟨l',hl',rfl⟩:=amf hl
  exact .cons rfl (zbg hx hs hu) (ziA hs sz hqs hl')
theorem s_buildSlice (hs:SR ρ s a.tmps) {i:Nat} (hi:ρ i=none) {t e:TypeId} {len sz:Nat} {z:List Value} {ps:Array (Nat×Operand)} {qs:List (Nat×CO)} (h1:P.underlying t=some (.slice e)) (h2:zJ P e=some sz)
 (h3: ¬len*sz>2^24) (h4:zbC P e=some z) (h5:z.length=sz) (hq:allO (fun(p:Nat×Operand)=>(co p.2).map fun x=>(p.1,x)) ps.toList=some qs) {l:List (Nat×Nat×Value)} (hl:zcJ s sz qs=some l)
 {c:List Value} (hc:ziS (zbr z len) l=some c) (hlen:len<zc):
 SimA P ρ w ((do pure (Next.value (←Instr.buildSlice t len (ps.map fun(i,x)=>(i,a.eval x)))):Sem Next).run P w) i (.slice (some ⟨i,0,none⟩) len len) (.cells c 0):=by
 obtain⟨⟨zv,hzv,hzr⟩,hzc⟩:=zco h4
 have hv:VRL ρ z zv.cells.toList:=by grind [VRL.refl1]
 have hp:=ziA (a:=a) hs sz hq hl
 have key: ∀zz:Array Value,VRL ρ (zbr z len) (((Array.range (len*sz)).map (zz[· %zz.size]!)).toList)→
  (∀ds:Array Value,Instr.fill (fun i=>some (i*sz,sz)) ((Array.range (len*sz)).map (zz[· %zz.size]!)) (ps.map fun(i,x)=>(i,a.eval x)).toList=some ds→
    (Instr.buildSlice t len (ps.map fun(i,x)=>(i,a.eval x))).run P w=.ok (.slice (some ⟨w.heap.size,0,none⟩) len len) (w.alloc (.cells ds e)))→
  SimA P ρ w ((do pure (Next.value (←Instr.buildSlice t len (ps.map fun(i,x)=>(i,a.eval x)))):Sem Next).run P w) i (.slice (some ⟨i,0,none⟩) len len) (.cells c 0):=by
  intro zz hzz hrun
  obtain⟨ds,hd1,hd2⟩:=fill_rel hp hzz hc
  refine⟨.slice (some ⟨w.heap.size,0,none⟩) len len,.cells ds e,_,?_,rfl,?_,OR.row e hi hd2,zbl _ _⟩
  ·simp_all
  ·have:=VR.slice (ρ:=upd ρ i ⟨w.heap.size,0,ds.size,0,c.length,none⟩) (o:=0) (zH _ _ _) hlen (Nat.le_refl len)
   grind
 by_cases e0:len*sz=0
 ·refine key #[] ?_ (fun ds hd=> ?_)
  ·have:zbr z len=[]:=by grind [zcI]
   rw[this,e0];exact⟨by simp,by simp⟩
  ·rw[e0] at hd
   simp only[Instr.buildSlice,Sem.run_bind,run_underlying h1,Result.andThen_ok,zG h2,e0,if_true,Sem.run_pure,Sem.run_ite]
   grind [zfW,Sem.run_bind,Result.andThen_ok,Sem.run_pure]
 ·refine key zv.cells (zjf hv len _ (by rw[h5])) (fun ds hd=> ?_)
  simp only[Instr.buildSlice,Sem.run_bind,run_underlying h1,Result.andThen_ok,zG h2,if_neg h3,if_neg e0,Sem.run_pure,Sem.run_ite,hzr]
  grind [zfW,Sem.run_bind,Result.andThen_ok,Sem.run_pure]
theorem s_makeMap {i:Nat} {t:TypeId}:SimA P ρ w ((do pure (Next.value (←Instr.makeMap t none)):Sem Next).run P w) i (.map (some i)) (.map [] 0):=by
 refine⟨.map (some w.heap.size),.map #[] 0,⟨w.heap.size,0,0,0,0,none⟩,rfl,rfl,?_,⟨#[],zbS _ _,rfl,fun j e hj=>by cases hj⟩,zhw _ _⟩
 exact VR.map (ρ:=upd ρ i ⟨w.heap.size,0,0,0,0,none⟩) (zH _ _ _)
theorem s_makeSlice {i:Nat} (hi:ρ i=none) {t e:TypeId} {info:TypeInfo} {z:List Value} (h1:P.underlying t=some (.slice e)) (h2:P.info? e=some info) (h4:zbC P e=some z) (h5:z.length=info.size)
 {l c:Nat} (hlc:l≤c) (hb:c*info.bytes≤1073741824) (hc:c≤1073741824):
 SimA P ρ w ((do pure (Next.value (←Instr.makeSlice t (.int .i64 l) (.int .i64 c))):Sem Next).run P w) i (.slice (some ⟨i,0,none⟩) l c) (.cells (zbr z c) 0):=by
 obtain⟨info',hinfo',hz0⟩:=aof h4
 rw[h2] at hinfo';cases hinfo'
 obtain⟨zv,hzv,hz1⟩:=aof hz0
 split at hz1
 ·rename_i hall
  cases hz1
  have hv:VRL ρ zv.cells.toList zv.cells.toList:=VRL.refl1 (fun v hv=>List.all_eq_true.1 hall v hv)
  rw[Nat.mul_comm] at hb
  have hbytes:((info.bytes*c:Nat):Int)≤1073741824:=by omega
  rw[Int.natCast_mul] at hbytes
  have hrun:=run_make (P:=P) w t e info zv h1 h2 hzv .i64 .i64 (l:Int) (c:Int) (by omega) (by omega) (by omega) (by omega)
  simp only[Int.toNat_natCast] at hrun
  have hzz:VRL ρ (zbr zv.cells.toList c) (madeCells zv.cells (c*info.size)).toList:=zjf hv c _ (by rw[h5])
  refine⟨.slice (some ⟨w.heap.size,0,none⟩) l c,.cells (madeCells zv.cells (c*info.size)) e,_,?_,rfl,?_,OR.row e hi hzz,zbl _ _⟩
  ·simp_all
  ·have:=VR.slice (ρ:=upd ρ i ⟨w.heap.size,0,(madeCells zv.cells (c*info.size)).size,0,(zbr zv.cells.toList c).length,none⟩) (o:=0) (len:=l) (cap:=c) (zH _ _ _) (by grind [zc]) hlc
   grind
 grind
theorem VR.cellOk {ρ:Rho} {v v':Value} (h:VR ρ v v') (hc:isCell v=true):v'.oneCell'=true:=by
 cases h<;>simp_all[isCell,Value.oneCell']
theorem zg4 (w:World) (g:Nat) (old cs:Array Value) (t:TypeId) (fr:Nat×Nat) (hg:w.heap[g]? =some (.cells old t fr)):w.setRow g cs={w with heap:=w.heap.setIfInBounds g (.cells cs t fr)}:=by
 unfold World.setRow
 congr 1
 grind
theorem zd9 (hr:HR P ρ h w) {i off:Nat} {R:RB} (hi:ρ i=some R) {vs:List Value} {ws:List Value} (hv:VRL ρ vs ws) (hne:vs≠[]) (hw:h.write i off vs=some h'):
 ∃w',(storeCells ⟨R.blk,R.base+off,none⟩ ws).run P w=.ok () w'∧HR P ρ h' w'∧Ext ρ w ρ w':=by
 obtain⟨o,ho,hw⟩:=aof hw
 cases o with
 |cells cs esz=>
  simp only[zfR] at hw
  split at hw
  ·rename_i hcc
   rw[Bool.and_eq_true] at hcc
   obtain⟨hcell,hnro⟩:=hcc
   obtain⟨cs',hcs,e⟩:=amf hw
   cases e
   obtain⟨q1,q2,c,t,fr,hb,hfx,hsz,hfit,hget⟩:=hr.obj i R _ hi ho
   obtain⟨hfx2,rfl⟩:=hfx.resolve_right (fun h=>by simp_all)
   obtain⟨f1,f2⟩:=zjh _ _ _ _ hcs
   have hlen:=zgf _ _ _ _ hcs
   have f1':=f1.resolve_left hne
   have hwl:ws.length=vs.length:=hv.1.symm
   have hone: ∀x∈ws,x.oneCell'=true:=by
    intro x hx
    obtain⟨j,hj⟩:=List.mem_iff_getElem?.1 hx
    obtain⟨y,hy⟩: ∃y,vs[j]? =some y:=by
     grind
    exact(hv.2 j y x hy hj).cellOk (List.all_eq_true.1 hcell y (List.mem_of_getElem? hy))
   have hrun:=run_storeCells_at (P:=P) R.blk (R.base+off) t ws 0 c w hb (by omega) hone
   rw[zg4 w _ c _ t _ hb,Nat.add_zero] at hrun
   generalize hrow:(c.toList.take (R.base+off)++ws++c.toList.drop (R.base+off+ws.length))=row at hrun
   have hrl:row.length=c.size:=by grind
   refine⟨_,hrun,?_⟩
   refine hr.putBoth hi ho (by simp) hb (fun r hr'=>by grind) (zbl _ _) (zbl _ _) (.inr hfx2) ?_
   have hblt:=hr.blk i R hi
   refine⟨q1,by grind,row.toArray,t,_,by grind,.inl ⟨hfx2,rfl⟩,by grind,by grind,fun j v hj=> ?_⟩
   rw[f2 j] at hj
   simp only[List.getElem?_toArray]
   rw[←hrow]
   have hcl:c.toList.length=c.size:=by simp
   by_cases cd:off≤j∧j<off+vs.length
   ·rw[if_pos cd] at hj
    obtain⟨y,hy,hvy⟩:=hv.get hj
    refine⟨y,?_,.inr hvy⟩
    rw[List.append_assoc,List.getElem?_append_right (by grind),List.getElem?_append_left (by grind)]
    grind
   ·rw[if_neg cd] at hj
    obtain⟨v',hv',hvv⟩:=hget j v hj
    refine⟨v',?_,hvv⟩
    have hjc:j<cs.length:=(List.getElem?_eq_some_iff.1 hj).1
    grind [List.getElem?_append_right]
  grind
 |map _ _=>cases hw
 |loop _ _ _ _=>cases hw
 |dead=>cases hw
 |glob _ _=>cases hw
theorem s_store (hr:HR P ρ h w) (hs:SR ρ s a.tmps) {x y:Operand} {c d:CO} (hc:co x=some c) (hd:co y=some d) {t:TypeId} {n:Nat} (ht:zJ P t=some n) (hn:n≠0) (hv:zkv n c d s h=some (v,h')):
 Sim P ρ w ((do Instr.storeAt t (a.eval x) (a.eval y);pure Next.skip:Sem Next).run P w) v h':=by
 obtain⟨u,hu,hv1⟩:=aof hv
 obtain⟨z,hz,hv2⟩:=aof hv1
 obtain⟨ad,had,hv3⟩:=aof hv2
 clear hv hv1 hv2
 have hx:=zbg hc hs hu
 have hy:=zbg hd hs hz
 split at hv3
 ·rename_i hlen
  have hlen':(zW z).length=n:=Nat.eq_of_beq_eq_true hlen
  obtain⟨h1,hw,e⟩:=amf hv3
  cases e
  obtain rfl:=zee had
  obtain⟨R,hR,e⟩:=hx.inv_ptr
  have hcl:=hy.cells
  have hne:zW z≠[]:=by grind
  obtain⟨w',hrun,q1,q2⟩:=zd9 hr hR hcl hne hw
  refine⟨.skip,undef,w',ρ,?_,.inr ⟨rfl,rfl⟩,VR.tuple_of (VRL.nil _),q1,q2⟩
  have hsz:(a.eval y).cells.size=n:=by have:=hcl.1;grind
  simp_all[Instr.storeAt,Instr.sureAddr,storeVar,zG]
 grind
end
end Go.Ideal
namespace Go.Ideal
variable {P:Program}
def posE (kk:KK) (k:Value):List (Value×Value×Nat)→Option (Option Nat)
 | []=>some none
 | (key,_,_)::r=>(zcg kk k key).bind fun b=>match b with|true=>some (some 0)|false=>(posE kk k r).map (·.map (· +1))
theorem setE_pos {kk:KK} {k v:Value} {clock:Nat}: ∀{es es2:List (Value×Value×Nat)} {c2:Nat},setE kk k v clock es=some (es2,c2)→
 (posE kk k es=some none∧es2=es++[(k,v,clock)]∧c2=clock+1)∨(∃j key w b,posE kk k es=some (some j)∧es[j]? =some (key,w,b)∧es2=es.set j (k,v,b)∧c2=clock∧zD (zW k) (zW key)=true∧ ∃s,zcg kk k key=some s)
 | [],es2,c2,h=>by cases h;exact .inl ⟨rfl,rfl,rfl⟩
 | (key,w,b)::r,es2,c2,h=>by
   obtain⟨s,hs,h⟩:=aof h
   cases s with
   |true=>
    grind [posE]
   |false=>
    obtain⟨⟨x1,x2⟩,hx,e⟩:=amf h
    cases e
    rcases setE_pos hx with⟨h1,rfl,rfl⟩| ⟨j,key',w',b',h1,h2,rfl,rfl,h3⟩
    all_goals grind [posE]
theorem zlk {kt:TypeId} {kk:KK} (hl:zcU P kt=some kk) (hnw:isNow kk=true) {d:TypeDesc} (hd:P.underlying kt=some d) {ρ:Rho} {k k':Value} (hk:VR ρ k k'):
 ∀(es:List (Value×Value×Nat)) (es':List MapEntry) (r:Option Nat) (i:Nat),zfg ρ es es'→posE kk k es=some r→
  ∃r',Instr.findNow d k' es' i=some r'∧r'.map (·.1)=r.map (i+ ·)
 | [],es',r,i,he,h=>by cases h;rw[he.nil_left];exact⟨none,rfl,rfl⟩
 | (key,v,b)::es,es',r,i,he,h=>by
   obtain⟨e',es'',rfl,her,hrest⟩:=he.cons_left
   obtain⟨c,hc,h⟩:=aof h
   obtain⟨_,hn⟩:=zel hl hk her.1 hc (default:World)
   rcases hn with⟨_,d',hd',hn⟩| ⟨l,hl',_⟩
   ·rw[hd] at hd';cases hd'
    cases c with
    |true=>cases h;simp_all[Instr.findNow]
    |false=>
     obtain⟨q,hq,rfl⟩:=amf h
     obtain⟨r',h1,h2⟩:=zlk hl hnw hd hk es es'' q (i+1) hrest hq
     refine⟨r',by grind [Instr.findNow],?_⟩
     rw[h2];cases q<;>simp;omega
   ·subst hl';cases hnw
theorem zhb {kt:TypeId} {kk:KK} (hl:zcU P kt=some kk) {ρ:Rho} {k k':Value} (hk:VR ρ k k') (w:World):
 ∀(es:List (Value×Value×Nat)) (es':List MapEntry) (r:Option Nat) (i:Nat),zfg ρ es es'→posE kk k es=some r→
  ∃r',(Instr.findAsking kt k' es' i).run P w=.ok r' w∧r'.map (·.1)=r.map (i+ ·)
 | [],es',r,i,he,h=>by cases h;rw[he.nil_left];exact⟨none,rfl,rfl⟩
 | (key,v,b)::es,es',r,i,he,h=>by
   obtain⟨e',es'',rfl,her,hrest⟩:=he.cons_left
   obtain⟨c,hc,h⟩:=aof h
   obtain⟨hq,_⟩:=zel hl hk her.1 hc w
   cases c with
   |true=>cases h;simp_all[Instr.findAsking]
   |false=>
    obtain⟨q,hq',rfl⟩:=amf h
    obtain⟨r',h1,h2⟩:=zhb hl hk w es es'' q (i+1) hrest hq'
    refine⟨r',by simp[Instr.findAsking,hq,h1],?_⟩
    rw[h2];cases q<;>simp;omega
theorem zll {kt:TypeId} {kk:KK} (hl:zcU P kt=some kk) {ρ:Rho} {k k':Value} (hk:VR ρ k k') {b:Bool} (hself:zcg kk k k=some b) (w:World)
 {es:List (Value×Value×Nat)} {es':List MapEntry} {r:Option Nat} (he:zfg ρ es es') (h:posE kk k es=some r):
 ∃r',(Instr.findKey kt k' es').run P w=.ok r' w∧r'.map (·.1)=r:=by
 obtain⟨hself',hn⟩:=zel hl hk hk hself w
 have fin: ∀q:Option Nat,q.map (0+ ·)=q:=by simp_all
 rcases hn with⟨hnw,d,hd,hn⟩| ⟨l,rfl,d,hd,hn⟩
 ·obtain⟨r',h1,h2⟩:=zlk hl hnw hd hk es es' r 0 he h
  simp_all[Instr.findKey,run_underlying]
 ·cases es' with
  |nil=>
   have:es=[]:=by have:=he.1;grind
   subst this
   cases h
   simp_all[Instr.findKey,run_underlying,Instr.findNow]
  |cons e' es''=>
   obtain⟨r',h1,h2⟩:=zhb hl hk w es (e'::es'') r 0 he h
   simp_all[Instr.findKey,run_underlying,Instr.findNow]
theorem zeL: ∀{l l':List Value},zD l l'=true→l.length=l'.length∧ ∀(n:Nat),(l'.zip l).all (fun(x,y)=>Instr.sameBits n x y)=true
 | [],[],_=>by simp_all
 |.int k a::r,.int k' b::r',h=>by
  simp only[zD] at h
  split at h
  ·rename_i hc
   simp only[Bool.and_eq_true,decide_eq_true_eq,zhs,beq_iff_eq] at hc
   obtain⟨rfl,rfl⟩:=hc
   obtain⟨h1,h2⟩:=zeL h
   simp_all[Instr.sameBits]
  grind
 |.string a::r,.string b::r',h=>by
  simp only[zD] at h
  split at h
  ·rename_i hc
   obtain rfl:=zkq hc
   obtain⟨h1,h2⟩:=zeL h
   simp_all[Instr.sameBits,zgs]
  grind
 | [],_::_,h=>by grind [zD]
 |.int _ _::_,[],h=>by grind [zD]
 |.string _::_,[],h=>by grind [zD]
theorem zeK {ρ:Rho}: ∀{l l' m:List Value},zD l m=true→VRL ρ l l'→l'=l
 | [],l',m,_,hv=>hv.nil_left
 |.int k a::r,l',m,h,hv=>by
  cases m with
  |nil=>grind [zD]
  |cons y m=>
   obtain⟨z,zs,rfl,h1,h2⟩:=hv.cons_left
   cases y<;>simp only[zD,Bool.false_eq_true] at h
   split at h
   ·rw[h1.inv_int,zeK h h2]
   grind
 |.string a::r,l',m,h,hv=>by
  cases m with
  |nil=>grind [zD]
  |cons y m=>
   obtain⟨z,zs,rfl,h1,h2⟩:=hv.cons_left
   cases y<;>simp only[zD,Bool.false_eq_true] at h
   split at h
   ·rw[h1.inv_str,zeK h h2]
   grind
theorem zd0 {ρ:Rho}: ∀{l m m':List Value},zD l m=true→VRL ρ m m'→m'=m
 | [],m,m',h,hv=>by cases m with
   |nil=>exact hv.nil_left
   |cons y m=>grind [zD]
 |.int k a::r,m,m',h,hv=>by
  cases m with
  |nil=>grind [zD]
  |cons y m=>
   obtain⟨z,zs,rfl,h1,h2⟩:=hv.cons_left
   cases y<;>simp only[zD,Bool.false_eq_true] at h
   split at h
   ·rw[h1.inv_int,zd0 h h2]
   grind
 |.string a::r,m,m',h,hv=>by
  cases m with
  |nil=>grind [zD]
  |cons y m=>
   obtain⟨z,zs,rfl,h1,h2⟩:=hv.cons_left
   cases y<;>simp only[zD,Bool.false_eq_true] at h
   split at h
   ·rw[h1.inv_str,zd0 h h2]
   grind
theorem keyStays {ρ:Rho} {kk:KK} {k k' key key':Value} {b:Bool} (hs:zcg kk k key=some b) (hi:zD (zW k) (zW key)=true) (hk:VR ρ k k') (hkey:VR ρ key key') (w:World):(Instr.keyThatStays key' k').run P w=.ok k' w:=by
 have:Instr.sameBits 10000 key' k'=true:=by
  rcases zeJ hs with⟨rfl,q,m,n,rfl,rfl,-⟩| ⟨rfl,m,n,rfl,rfl,-⟩| ⟨l,xs,ys,rfl,rfl,rfl,-⟩
  ·rw[hk.inv_int,hkey.inv_int]
   grind [zW,zD,zhs,Instr.sameBits]
  ·rw[hk.inv_str,hkey.inv_str]
   grind [zW,zD,zkq,Instr.sameBits,zgs]
  ·obtain⟨xs',rfl,hxs⟩:=hk.inv_agg
   obtain⟨ys',rfl,hys⟩:=hkey.inv_agg
   simp only[zW] at hi
   have e1:=zeK hi hxs
   have e2:=zd0 hi hys
   obtain⟨h1,h2⟩:=zeL hi
   simp_all[Instr.sameBits]
 simp[Instr.keyThatStays,this]
section
variable {ρ:Rho} {h h':H} {w:World} {s:za} {a:Act} {v:Value}
theorem zjC (hr:HR P ρ h w) (hs:SR ρ s a.tmps) {m k x:Operand} {m' k' x':CO} (hm:co m=some m') (hk:co k=some k') (hx:co x=some x') {t kt e:TypeId} {kk:KK} (h1:P.underlying t=some (.map kt e)) (h2:zcU P kt=some kk)
 (hv:zeD kk m' k' x' s h=some (v,h')):Sim P ρ w ((do Instr.mapUpdate t (a.eval m) (a.eval k) (a.eval x);pure Next.skip:Sem Next).run P w) v h':=by
 obtain⟨um,hum,hv1⟩:=aof hv
 obtain⟨uk,huk,hv2⟩:=aof hv1
 obtain⟨ux,hux,hv3⟩:=aof hv2
 clear hv hv1 hv2
 have rm:=zbg hm hs hum
 have rk:=zbg hk hs huk
 have rx:=zbg hx hs hux
 generalize a.eval m=M at rm
 generalize a.eval k=K at rk
 generalize a.eval x=X at rx
 unfold mapUpd at hv3
 split at hv3
 ·rename_i i
  obtain⟨o,ho,hv4⟩:=aof hv3
  clear hv3
  cases o with
  |map es clock=>
   obtain⟨b,hb,hv5⟩:=aof hv4
   obtain⟨⟨es2,c2⟩,hset,e'⟩:=amf hv5
   cases e'
   cases rm with
   | @map _ R hR=>
     obtain⟨es',q1,q2⟩:=zfg.of_OR (hr.obj _ _ _ hR ho)
     have hck:(Instr.checkKey false 10000 kt K).run P w=.ok () w:=ziE h2 rk hb false 9998 w
     have hblt:=hr.blk _ _ hR
     have hl:es.length=es'.size:=by have:=q2.1;grind
     rcases setE_pos hset with⟨p1,rfl,rfl⟩| ⟨j,key,w0,b0,p1,p2,rfl,rfl,p3,sb,p4⟩
     ·obtain⟨r',hf,hpos⟩:=zll h2 rk hb w q2 p1
      have:r'=none:=by simp_all
      subst this
      obtain⟨g1,g2⟩:=hr.putBoth (io:=.map (es++[(uk,ux,clock)]) (clock+1)) (o:=.map (es'.push {key:=K,val:=X,born:=clock}) (clock+1)) hR ho (by simp) q1 (fun r hr=>by cases hr) (zhw _ _) (zhw _ _) (.inl nofun) (by
       refine⟨es'.push {key:=K,val:=X,born:=clock},by grind,by simp[hl],fun j e he=> ?_⟩
       by_cases hj:j<es.length
       ·rw[List.getElem?_append_left hj] at he
        obtain⟨e',he',r1,r2,r3⟩:=q2.2 j e he
        grind
       ·have hj2:j=es.length:=by
         grind
        subst hj2
        simp at he;subst he
        simp_all)
      refine⟨.skip,undef,_,ρ,?_,.inr ⟨rfl,rfl⟩,VR.tuple_of (VRL.nil _),g1,g2⟩
      simp only[Instr.mapUpdate,Sem.run_bind,run_underlying h1,Result.andThen_ok,zeu q1,hck,hf,zlb _ q1,Sem.run_pure]
     ·obtain⟨r',hf,hpos⟩:=zll h2 rk hb w q2 p1
      obtain⟨p,rfl,hp⟩: ∃p,r'=some p∧p.1=j:=by simp_all
      obtain⟨e',he',r1,r2,r3⟩:=q2.2 j _ p2
      have he2:es'[p.1]? =some e':=by grind
      have hst:=keyStays (P:=P) p4 p3 rk r1 w
      obtain⟨g1,g2⟩:=hr.putBoth (io:=.map (es.set j (uk,ux,b0)) c2) (o:=.map (es'.modify p.1 fun e=>{e with key:=K,val:=X}) c2) hR ho (by simp) q1 (fun r hr=>by cases hr) (zhw _ _) (zhw _ _) (.inl nofun) (by
       refine⟨es'.modify p.1 fun e=>{e with key:=K,val:=X},by grind,by simp[hl],fun i e he=> ?_⟩
       rw[Array.getElem?_modify]
       by_cases hij:j=i
       ·grind
       ·rw[List.getElem?_set,if_neg hij] at he
        rw[hp,if_neg hij]
        obtain⟨e2,he2,t1,t2,t3⟩:=q2.2 i e he
        grind)
      refine⟨.skip,undef,_,ρ,?_,.inr ⟨rfl,rfl⟩,VR.tuple_of (VRL.nil _),g1,g2⟩
      simp only[Instr.mapUpdate,Sem.run_bind,run_underlying h1,Result.andThen_ok,zeu q1,hck,hf,he2,Option.map_some,Option.getD_some,hst,zlb _ q1,Sem.run_pure]
  |cells _ _=>cases hv4
  |loop _ _ _ _=>cases hv4
  |dead=>cases hv4
  |glob _ _=>cases hv4
 grind
end
end Go.Ideal
namespace Go.Ideal
variable {P:Program}
theorem growBy_le (newLen:Nat): ∀(r c:Nat),c≤2*newLen+200→Builtin.growBy newLen r c≤2*newLen+200
 |0,c,h=>h
 |r+1,c,h=>by
  unfold Builtin.growBy
  split
  ·exact h
  ·exact growBy_le newLen r _ (by omega)
theorem zjT {need old:Nat} (h:old<need):Builtin.nextslicecap need old≤2*need+200:=by
 grind [Builtin.nextslicecap,growBy_le]
theorem HR.steal {ρ:Rho} {h:H} {w:World} (hr:HR P ρ h w) {i:Nat} {R R':RB} {io io0:IObj} {o o0:Obj} (hi:ρ i=some R) (hg:h.get i=some io0) (hd:io0≠ .dead) (hw:w.heap[R.blk]? =some o0)
 (hnl: ∀r:Loop,o0≠ .loop r) (hc0:Calm o0) (hc:Calm o) (hb:R'.blk=R.blk) (hfx:R.fix=none) (ho:OR P (upd ρ h.next R') {w with heap:=w.heap.setIfInBounds R.blk o} R' io):
 HR P (upd ρ h.next R') ((h.put i .dead).new io) {w with heap:=w.heap.setIfInBounds R.blk o}∧Ext ρ w (upd ρ h.next R') {w with heap:=w.heap.setIfInBounds R.blk o}:=by
 have hlt:=hr.blk i R hi
 have hin:i<h.next:=hr.lt hg
 have hfree:=(hr.nxt _ (Nat.le_refl _)).1
 have hgl: ∀b x,gZ=some (b,x)→b≠R.blk:=fun b x e eb=>hr.gl.2 b x e i R hi eb.symm hfx
 have other: ∀B,B≠R.blk→(w.heap.setIfInBounds R.blk o)[B]? =w.heap[B]?:=fun B hB=>by grind
 have gets: ∀j,((h.put i .dead).new io).get j=if h.next=j then some io else if i=j then some .dead else h.get j:=fun j=>by simp_all
 refine⟨⟨fun j S o' hj ho'=> ?_,fun j hj=> ?_,fun j k S T hj hk aj ak e=> ?_,fun j S hj=> ?_,fun j b x hj=> ?_,hr.gl.1.to (fun b x e=>other b (hgl b x e)),fun b x e j S hj hs=>by
  by_cases ej:j=h.next
  ·subst ej;rw[zH] at hj;cases hj;exact absurd (hs.symm.trans hb) (hgl b x e)
  ·simp only[upd,ej,if_false] at hj;exact hr.gl.2 b x e j S hj hs⟩,⟨zdF R' hfree,by simp,fun j S hj=> ?_,fun B hB hn=>other B (fun e=>hn i R hi e.symm),fun B r hrr=> ?_,rfl,rfl,fun a _=>froz_put hw hc0 hc a,⟨rfl,Nat.le_refl _⟩⟩⟩
 ·rw[gets] at ho'
  by_cases e:j=h.next
  ·grind [zH]
  ·simp only[upd,e,if_false] at hj
   rw[if_neg (fun e'=>e e'.symm)] at ho'
   by_cases e2:i=j
   ·rw[if_pos e2] at ho';cases ho';trivial
   ·rw[if_neg e2] at ho'
    by_cases ed:o'=.dead
    ·subst ed;trivial
    ·refine(hr.obj j S o' hj ho').mono (zdF R' hfree) (other _ ?_)
     intro eb
     exact e2 (hr.sep i j R S hi hj ⟨io0,hg,hd⟩ ⟨o',ho',ed⟩ eb.symm)
 ·rw[H.next_new,H.next_put] at hj
  rw[gets,if_neg (by omega),if_neg (by omega)]
  exact⟨by simp only[upd];rw[if_neg (by omega)];exact(hr.nxt j (by omega)).1,(hr.nxt j (by omega)).2⟩
 ·have k0: ∀l S,upd ρ h.next R' l=some S→zeF ((h.put i .dead).new io) l→l=h.next∧S=R'∨(l≠h.next∧l≠i∧ρ l=some S∧zeF h l):=by
   intro l S hl ⟨x,hx,hxd⟩
   rw[gets] at hx
   by_cases e1:l=h.next
   ·grind [zH]
   ·simp only[upd,e1,if_false] at hl
    rw[if_neg (fun e'=>e1 e'.symm)] at hx
    by_cases e2:i=l
    ·grind
    ·rw[if_neg e2] at hx;exact .inr ⟨e1,fun e=>e2 e.symm,hl,x,hx,hxd⟩
  rcases k0 j S hj aj with⟨rfl,rfl⟩| ⟨j1,j2,j3,j4⟩
  ·rcases k0 k T hk ak with⟨rfl,rfl⟩| ⟨k1,k2,k3,k4⟩
   ·rfl
   ·exact absurd (hr.sep i k R T hi k3 ⟨io0,hg,hd⟩ k4 (hb.symm.trans e)).symm k2
  ·rcases k0 k T hk ak with⟨rfl,rfl⟩| ⟨k1,k2,k3,k4⟩
   ·exact absurd (hr.sep i j R S hi j3 ⟨io0,hg,hd⟩ j4 (hb.symm.trans e.symm)).symm j2
   ·exact hr.sep j k S T j3 k3 j4 k4 e
 ·by_cases e:j=h.next
  ·grind [zH]
  ·simp only[upd,e,if_false] at hj;have:=hr.blk j S hj;grind
 ·rw[gets] at hj
  by_cases e:h.next=j
  ·grind [zH]
  ·rw[if_neg e] at hj
   by_cases e2:i=j
   ·grind
   ·rw[if_neg e2] at hj
    obtain⟨S,hS⟩:=hr.glb j b x hj
    exact⟨S,zdF R' hfree j S hS⟩
 all_goals grind [upd]
section
variable {ρ:Rho} {h h':H} {w:World} {s:za} {a:Act} {v:Value}
theorem bytes_rel (ρ:Rho) (s:ByteArray):VRL ρ (s.data.toList.map zhz) (s.data.toList.map zhz):=⟨rfl,fun j x y hx hy=>by
 rw[hx] at hy;cases hy
 obtain⟨b,-,rfl⟩:=List.mem_map.1 (List.mem_of_getElem? hx)
 exact .int _ _⟩
theorem appended_run (hr:HR P ρ h w) {size n:Nat} {x x':Value} {new:List Value} (hx:VR ρ x x') (ha:zdY h size x=some (n,new)):
 (∀w,(Builtin.lenOf x').run P w=.ok n w)∧new.length=n*size∧ ∃l,VRL ρ new l∧(Builtin.firstCells size n x').run P w=.ok ⟨l⟩ w∧(Builtin.firstCells size n x').run P w.drew=.ok ⟨l⟩ w.drew:=by
 unfold zdY at ha
 split at ha
 ·rename_i s
  split at ha
  ·rename_i h1
   obtain rfl:size=1:=Nat.eq_of_beq_eq_true h1
   cases ha
   rw[hx.inv_str]
   refine⟨fun w=>by simp[Builtin.lenOf],by simp,s.data.toList.map zhz,bytes_rel ρ s,?_⟩
   have e:(s.data.map fun b=>Value.int .u8 b.toNat)=⟨s.data.toList.map zhz⟩:=by
    apply Array.toList_inj.1
    rw[Array.toList_map];rfl
   simp_all[Builtin.firstCells]
  grind
 ·split at ha
  ·rename_i hn
   cases ha
   cases hx
   exact⟨fun w=>by simp[Builtin.lenOf],by simp,[],.nil _,by simp[Builtin.firstCells],by simp[Builtin.firstCells]⟩
  grind
 ·rename_i ad m c
  split at ha
  ·rename_i hn0
   obtain rfl:m=0:=Nat.eq_of_beq_eq_true hn0
   cases ha
   obtain⟨b',c',rfl,hb⟩:=hx.inv_slice
   obtain⟨a',rfl⟩:=zhR hb
   refine⟨fun w=>by simp[Builtin.lenOf],by simp,[],.nil _,?_⟩
   simp only[Builtin.firstCells,Nat.zero_mul]
   exact⟨rfl,rfl⟩
  ·rename_i hn0
   obtain⟨l,hl,e⟩:=amf ha
   cases e
   have hn:n≠0:=by simp_all
   obtain⟨R,c',hR,rfl⟩:=hx.inv_slice_some hn
   obtain⟨hnn,l',hv,hcc⟩:=zeB (P:=P) hr hR hl
   have en:n*size=l'.length:=by rw[←hnn];exact hv.1
   simp_all[run_loadCells_list,Builtin.lenOf,Builtin.firstCells]
 grind
structure AppOk (P:Program) (ts:Array TypeId) (e:TypeId) (i:TypeInfo) (zv:Value):Prop where
 ts: ∃t tx,ts= #[t,tx]∧P.underlying t=some (.slice e)∧((∃e',P.underlying tx=some (.slice e'))∨P.underlying tx=some .string)
 info:P.info? e=some i
 zero:i.zero=some zv
 zsize:zv.cells.size=i.size
 size:i.size≠0
 bytes:i.bytes≠0
theorem zcd {ts:Array TypeId} {e:TypeId} {i:TypeInfo} {zv:Value} (ok:AppOk P ts e i zv) (type:TypeId) {base:Option Addr} {len cap n:Nat} {x':Value} {l:List Value} {w':World}
 (hn: ∀w,(Builtin.lenOf x').run P w=.ok n w) (hc:(Builtin.firstCells i.size n x').run P w=.ok ⟨l⟩ w) (hle:len+n≤cap)
 (hst:(match base with|some b=>storeCells (b.add (len*i.size)) l|none=>pure ():Sem Unit).run P w=.ok () w'):
 (Builtin.append_ ts type #[.slice base len cap,x']).run P w=.ok (.slice base (len+n) cap) w':=by
 obtain⟨t,tx,rfl,h1,h2⟩:=ok.ts
 cases base with
 |none=>
  simp at hst;subst hst
  rcases h2 with⟨e',h2⟩|h2<;>simp[Builtin.append_,run_underlying h1,run_underlying h2,sizeOf,typeInfo,ok.info,hn,hle,hc]
 |some b=>
  simp only at hst
  rcases h2 with⟨e',h2⟩|h2<;>simp[Builtin.append_,run_underlying h1,run_underlying h2,sizeOf,typeInfo,ok.info,hn,hle,hc,hst]
theorem zcp {ts:Array TypeId} {e:TypeId} {i:TypeInfo} {zv:Value} (ok:AppOk P ts e i zv) (type:TypeId) {base:Option Addr} {len cap n:Nat} {x':Value} {l old:List Value}
 (hn: ∀w,(Builtin.lenOf x').run P w=.ok n w) (hle: ¬len+n≤cap) (hb:(len+n)*i.bytes≤1073741824)
 (hold:(Builtin.firstCells i.size len (.slice base len cap)).run P w.drew=.ok ⟨old⟩ w.drew) (hc:(Builtin.firstCells i.size n x').run P w=.ok ⟨l⟩ w) (hcD:(Builtin.firstCells i.size n x').run P w.drew=.ok ⟨l⟩ w.drew)
 (hl:l.length=n*i.size) (hone: ∀u∈l,u.oneCell'=true):
 ∃nc,len+n≤nc∧(Builtin.append_ ts type #[.slice base len cap,x']).run P w=.ok (.slice (some ⟨w.heap.size,0,none⟩) (len+n) nc) (w.drew.alloc (.cells ((old++l).toArray++Builtin.zeroCells zv.cells (nc - (len+n))) e)):=by
 obtain⟨t,tx,rfl,h1,h2⟩:=ok.ts
 have hcap:Builtin.nextslicecap (len+n) cap≤2*(len+n)+200:=zjT (by omega)
 have hpos:1≤len+n:=by omega
 have hbl:i.bytes≤1073741824:=Nat.le_trans (Nat.le_mul_of_pos_left _ hpos) hb
 have hbig:Builtin.nextslicecap (len+n) cap*i.bytes≤281474976710656:=by
  have h2:Builtin.nextslicecap (len+n) cap*i.bytes≤(2*(len+n)+200)*i.bytes:=Nat.mul_le_mul_right _ hcap
  grind
 have hlen:len+n≤1073741824:=Nat.le_trans (Nat.le_mul_of_pos_right _ (Nat.pos_of_ne_zero ok.bytes)) hb
 exact⟨grownCap w (len+n) cap e,by simp[grownCap,Question.cut],run_append_grow_src (P:=P) w t tx type e i zv h1 ok.info ok.zero base len cap old hold x' n l ⟨h2,hn,hc,hcD,hl,hone⟩ (by omega) (by omega) hbig⟩
theorem one_of {ρ:Rho} {l l':List Value} (hv:VRL ρ l l') (hc:l.all isCell=true): ∀u∈l',u.oneCell'=true:=by
 intro x hx
 obtain⟨j,hj⟩:=List.mem_iff_getElem?.1 hx
 have hlt:j<l.length:=by rw[hv.1];grind
 exact(hv.2 j _ x (List.getElem?_eq_getElem hlt) hj).cellOk (List.all_eq_true.1 hc _ (List.getElem_mem hlt))
theorem calm_append (a b:Array Value) (t:TypeId):Calm (.cells (a++b) t):=zbl _ _
theorem zi6 {i:TypeInfo} {e:TypeId} {zv:Value} (hz:zv.cells.size=i.size) (hsz:i.size≠0) {ρ:Rho} {h:H} {w:World} (hr:HR P ρ h w) {old new old' l:List Value} (ho:VRL ρ old old') (hl:VRL ρ new l) {need nc:Nat}
 (hneed:(old++new).length=need*i.size) (hnc:need≤nc):
 ∃σ v',VR σ (zgF h need i.size (old++new)).1 (.slice (some ⟨w.heap.size,0,none⟩) need nc)∧v'=Value.slice (some ⟨w.heap.size,0,none⟩) need nc∧
  HR P σ (zgF h need i.size (old++new)).2 (w.alloc (.cells ((old'++l).toArray++Builtin.zeroCells zv.cells (nc - need)) e))∧Ext ρ w σ (w.alloc (.cells ((old'++l).toArray++Builtin.zeroCells zv.cells (nc - need)) e)):=by
 have hv:=ho.append hl
 have hfree:=(hr.nxt _ (Nat.le_refl _)).1
 have hsize:((old'++l).toArray++Builtin.zeroCells zv.cells (nc - need)).size=nc*i.size:=by
  have h1:(old'++l).length=need*i.size:=by rw[←hv.1,hneed]
  grind [Builtin.zeroCells,Nat.add_sub_cancel']
 have hpos:=Nat.pos_of_ne_zero hsz
 have hle:need*i.size≤nc*i.size:=Nat.mul_le_mul_right _ hnc
 obtain⟨g1,g2⟩:=hr.new (R:=⟨w.heap.size,0,nc*i.size,i.size,need*i.size,none⟩) (io:=.cells (old++new) i.size) (o:=.cells ((old'++l).toArray++Builtin.zeroCells zv.cells (nc - need)) e) rfl
  (calm_append _ _ _) (OR.newCells e rfl rfl hneed.symm rfl rfl hsize (by grind) (by
    have:(((old'++l).toArray++Builtin.zeroCells zv.cells (nc - need)).toList.take (old++new).length)=old'++l:=by
     rw[Array.toList_append,hv.1,List.take_left]
    rw[this];exact hv.mono (zdF _ hfree)))
 refine⟨_,_,?_,rfl,g1,g2⟩
 have:=VR.sliceO (ρ:=upd ρ h.next ⟨w.heap.size,0,nc*i.size,i.size,need*i.size,none⟩) (o:=0) (len:=need) (cap:=nc) (zH _ _ _) hpos hnc (by simp) (by grind)
 grind [zgF]
theorem s_append (hr:HR P ρ h w) {ts:Array TypeId} {e:TypeId} {i:TypeInfo} {zv:Value} (ok:AppOk P ts e i zv) (type:TypeId) (cs:Array Bool) {sv xv sv' xv':Value} (rs:VR ρ sv sv') (rx:VR ρ xv xv')
 (hv:bltV h (.append i.size i.bytes) [sv,xv]=some (v,h')):Sim P ρ w ((builtin .append ts type cs #[sv',xv']).run P w) v h':=by
 simp only[bltV] at hv
 obtain⟨⟨n,new⟩,ha,hv1⟩:=aof hv
 clear hv
 obtain⟨hlen,hnl,l,hvl,hcells,hcellsD⟩:=appended_run (P:=P) (w:=w) hr rx ha
 have fin: ∀{v':Value} {w':World} {σ:Rho},(Builtin.append_ ts type #[sv',xv']).run P w=.ok v' w'→VR σ v v'→HR P σ h' w'→Ext ρ w σ w'→Sim P ρ w ((builtin .append ts type cs #[sv',xv']).run P w) v h':=by
  intro v' w' σ q1 q2 q3 q4
  exact⟨.value v',v',w',σ,by simp[builtin,q1],.inl rfl,q2,q3,q4⟩
 cases sv with
 |slice base len cap=>
  simp only[zcK] at hv1
  split at hv1
  ·
   rename_i hn
   obtain rfl:n=0:=Nat.eq_of_beq_eq_true hn
   cases hv1
   have hl0:l=[]:=by
    have:=hvl.1;grind
   subst hl0
   obtain⟨b',c',rfl,hb⟩:=rs.inv_slice
   have hle:len+0≤c':=by cases rs<;>omega
   have:=zcd ok type (base:=b') (len:=len) (cap:=c') (n:=0) (w:=w) (w':=w) hlen hcells hle (by cases b'<;>simp[storeCells])
   exact fin this (by grind) hr (.refl _ _)
  ·rename_i hn0
   have hn:n≠0:=by simp_all
   split at hv1
   ·rename_i hcond
    simp only[Bool.and_eq_true] at hcond
    have hbytes:(len+n)*i.bytes≤1073741824:=Nat.le_of_ble_eq_true hcond.1
    have hcell:=hcond.2
    have hone:=one_of hvl hcell
    have hll:l.length=n*i.size:=by rw[←hvl.1,hnl]
    have hpos:=Nat.pos_of_ne_zero ok.size
    have hnne:new≠[]:=by
     intro e;rw[e] at hnl
     have:0<n*i.size:=Nat.mul_pos (Nat.pos_of_ne_zero hn) hpos
     grind
    cases base with
    |none=>
     dsimp only at hv1
     split at hv1
     ·rename_i hz
      simp only[Bool.and_eq_true] at hz
      obtain rfl:len=0:=Nat.eq_of_beq_eq_true hz.1
      obtain rfl:cap=0:=Nat.eq_of_beq_eq_true hz.2
      cases hv1
      cases rs
      obtain⟨nc,hnc,hrun⟩:=zcp (w:=w) ok type (base:=none) (len:=0) (cap:=0) (n:=n) (old:=[]) hlen (by omega) hbytes (by simp[Builtin.firstCells]) hcells hcellsD hll hone
      obtain⟨σ,v',q1,rfl,q2,q3⟩:=zi6 (P:=P) (e:=e) ok.zsize ok.size hr.drew (VRL.nil ρ) hvl (need:=n) (nc:=nc) (by grind) (by omega)
      simp only[List.nil_append,Nat.zero_add] at*
      exact fin hrun q1 q2 ((Ext.drew ρ w).trans q3)
     grind
    |some ad=>
     obtain⟨o,ho,hv2⟩:=aof hv1
     clear hv1
     cases o with
     |cells ics esz=>
      have hread: ∀k old,zkJ k (zey ad.off ics)=some old→h.readN ad.block ad.off k=some old:=by
       grind [H.readN,readObj]
      have oldlen: ∀k old,zkJ k (zey ad.off ics)=some old→old.length=k:=by
       intro k old hk
       have hk:=(zk6 hk).1
       grind [zdG]
      simp only[zdZ] at hv2
      split at hv2
      ·
       rename_i hcap
       obtain rfl:cap=zc:=Nat.eq_of_beq_eq_true hcap
       split at hv2
       ·rename_i hes
        rw[Bool.and_eq_true] at hes
        obtain⟨hes,hnro0⟩:=hes
        obtain rfl:esz=i.size:=Nat.eq_of_beq_eq_true hes
        have hnro:i.size≠roE:=fun e=>by grind
        split at hv2
        ·
         rename_i hkn
         have hkn':len+n≤(ics.length - ad.off) / i.size:=Nat.le_of_ble_eq_true hkn
         obtain⟨h1,hw,e0⟩:=amf hv2
         cases e0
         cases rs with
         |slice hR hc hl=>grind
         | @sliceO i0 o0 _ cap' R hR he hl hs hb=>
           obtain⟨q1,q2,_⟩:=hr.obj _ _ _ hR ho
           have hle:len+n≤cap':=by
            refine Nat.le_trans hkn' ?_
            rw[Nat.div_le_iff_le_mul_add_pred hpos]
            grind
           obtain⟨w',hst,g1,g2⟩:=zd9 (P:=P) hr hR hvl hnne hw
           have hrun:=zcd ok type (base:=some ⟨R.blk,R.base+o0,none⟩) (len:=len) (cap:=cap') (n:=n) (w:=w) (w':=w') hlen hcells hle (by
            grind [Addr.add_mk])
           exact fin hrun (.sliceO hR he hle hs hb) g1 g2
         |sliceR hR he hl=>
          obtain⟨q1,_⟩:=hr.obj _ _ _ hR ho
          grind
         | @sliceE i0 o0 o' R hR he hb=>
           obtain⟨q1,q2,_⟩:=hr.obj _ _ _ hR ho
           simp_all
        ·
         obtain⟨old,hold,e0⟩:=amf hv2
         have hol:=oldlen _ _ hold
         have hre:=hread _ _ hold
         have hkill:=hr.kill (i:=ad.block) (hr.lt ho)
         have hsum:(old++new).length=(len+n)*i.size:=by grind
         cases e0
         cases rs with
         |slice hR hc hl=>grind
         | @sliceO i0 o0 _ cap' R hR he hl hs hb=>
           obtain⟨old',hvo,hrunO⟩:=zh1 (P:=P) hr.drew hR hre
           by_cases hle:len+n≤cap'
           ·
            obtain⟨q1,q2,c,t,fr,hb1,hfx,hsz,hfit,hget⟩:=hr.obj _ _ _ hR ho
            obtain⟨hfx2,rfl⟩:=hfx.resolve_right (fun h=>hnro h.2)
            have hroom:R.base+o0+(len*i.size)+l.length≤c.size:=by
             have h1:(len+n)*i.size≤cap'*i.size:=Nat.mul_le_mul_right _ hle
             grind
            have hst:=run_storeCells_at (P:=P) R.blk (R.base+o0+len*i.size) t l 0 c w hb1 (by omega) hone
            rw[zg4 w _ c _ t _ hb1,Nat.add_zero] at hst
            generalize hrow:(c.toList.take (R.base+o0+len*i.size)++l++c.toList.drop (R.base+o0+len*i.size+l.length))=row at hst
            have hrl:row.length=c.size:=by grind
            have hrun:=zcd ok type (base:=some ⟨R.blk,R.base+o0,none⟩) (len:=len) (cap:=cap') (n:=n) (w:=w) hlen hcells hle (by
             dsimp only;rw[Addr.add_mk];omega)
            have hblt:=hr.blk _ _ hR
            have hfree:=(hr.nxt _ (Nat.le_refl _)).1
            obtain⟨g1,g2⟩:=hr.steal (R':=⟨R.blk,R.base+o0,R.csize,i.size,(len+n)*i.size,none⟩) (io:=.cells (old++new) i.size) (o:=.cells row.toArray t) hR ho (by simp) hb1 (fun r hr=>by cases hr) (zbl _ _) (zbl _ _) rfl hfx2 (by
             refine⟨rfl,hsum.symm,row.toArray,t,_,by grind,.inl ⟨rfl,rfl⟩,by grind,by grind,fun j x hj=> ?_⟩
             simp only[List.getElem?_toArray]
             rw[←hrow]
             by_cases hj1:j<old.length
             ·rw[List.getElem?_append_left hj1] at hj
              obtain⟨cs0,esz0,hg0,hle0,e1,-⟩:=zhW hre
              rw[ho] at hg0;cases hg0
              rw[e1,List.getElem?_take,if_pos (by omega),List.getElem?_drop] at hj
              obtain⟨v',hv',hvv⟩:=hget _ x hj
              refine⟨v',?_,hvv.imp id (·.mono (zdF _ hfree))⟩
              grind
             ·rw[List.getElem?_append_right (by omega)] at hj
              obtain⟨y,hy,hyv⟩:=hvl.get hj
              refine⟨y,?_,.inr (hyv.mono (zdF _ hfree))⟩
              have hyl:j - old.length<l.length:=(List.getElem?_eq_some_iff.1 hy).1
              rw[List.append_assoc,List.getElem?_append_right (by grind),List.getElem?_append_left (by grind)]
              have e3:R.base+o0+j - (List.take (R.base+o0+len*i.size) c.toList).length=j - old.length:=by
               grind
              grind)
            have hvr:VR (upd ρ h.next ⟨R.blk,R.base+o0,R.csize,i.size,(len+n)*i.size,none⟩) (.slice (some ⟨h.next,0,none⟩) (len+n) zc) (.slice (some ⟨R.blk,R.base+o0+0,none⟩) (len+n) cap'):=by
             have h1:(len+n)*i.size≤cap'*i.size:=Nat.mul_le_mul_right _ hle
             refine VR.sliceO (zH _ _ _) hpos hle ?_ (by grind)
             grind
            exact fin hrun (by simp_all) g1 g2
           ·obtain⟨nc,hnc,hrun⟩:=zcp (w:=w) ok type (base:=some ⟨R.blk,R.base+o0,none⟩) (len:=len) (cap:=cap') (n:=n) (old:=old') hlen hle hbytes (by grind [Builtin.firstCells]) hcells hcellsD hll hone
            obtain⟨σ,v',p1,rfl,p2,p3⟩:=zi6 (P:=P) (e:=e) ok.zsize ok.size hkill.drew hvo hvl (need:=len+n) (nc:=nc) hsum hnc
            exact fin hrun p1 p2 ((Ext.drew ρ w).trans p3)
         |sliceR hR he hl=>
          obtain⟨q1,_⟩:=hr.obj _ _ _ hR ho
          grind
         | @sliceE i0 o0 o' R hR he hb=>
           have:old=[]:=by grind
           subst this
           obtain⟨nc,hnc,hrun⟩:=zcp (w:=w) ok type (base:=some ⟨R.blk,o',none⟩) (len:=0) (cap:=0) (n:=n) (old:=[]) hlen (by omega) hbytes (by simp only[Builtin.firstCells,Nat.zero_mul];rfl) hcells hcellsD hll hone
           obtain⟨σ,v',p1,rfl,p2,p3⟩:=zi6 (P:=P) (e:=e) ok.zsize ok.size hkill.drew (VRL.nil ρ) hvl (need:=0+n) (nc:=nc) hsum hnc
           exact fin hrun p1 p2 ((Ext.drew ρ w).trans p3)
       grind
      ·
       rename_i hcap
       have hcap':cap≠zc:=by simp_all
       cases rs with
       |sliceO hR _ _ _ _=>grind
       |sliceE hR _ _=>grind
       |sliceR hR _ _=>grind
       |sliceD hR hm=>
        obtain⟨q1,q2,c,t,fr,hb,hfx,hsz,hfit,hget⟩:=hr.obj _ _ _ hR ho
        grind
       | @slice i0 o0 _ _ R hR hc hl=>
         split at hv2
         ·rename_i hle
          have hle':len+n≤cap:=Nat.le_of_ble_eq_true hle
          obtain⟨h1,hw,e0⟩:=amf hv2
          cases e0
          obtain⟨w',hst,g1,g2⟩:=zd9 (P:=P) hr hR hvl hnne hw
          have hrun:=zcd ok type (base:=some ⟨R.blk,R.base+o0,none⟩) (len:=len) (cap:=cap) (n:=n) (w:=w) (w':=w') hlen hcells hle' (by
           grind [Addr.add_mk])
          exact fin hrun (.slice hR hc hle') g1 g2
         ·rename_i hle
          have hle': ¬len+n≤cap:=fun h=>hle (Nat.ble_eq_true_of_le h)
          obtain⟨old,hold,e0⟩:=amf hv2
          have hol:=oldlen _ _ hold
          have hre:=hread _ _ hold
          have hsum:(old++new).length=(len+n)*i.size:=by grind
          cases e0
          obtain⟨old',hvo,hrunO⟩:=zh1 (P:=P) hr.drew hR hre
          obtain⟨nc,hnc,hrun⟩:=zcp (w:=w) ok type (base:=some ⟨R.blk,R.base+o0,none⟩) (len:=len) (cap:=cap) (n:=n) (old:=old') hlen hle' hbytes (by grind [Builtin.firstCells]) hcells hcellsD hll hone
          obtain⟨σ,v',p1,rfl,p2,p3⟩:=zi6 (P:=P) (e:=e) ok.zsize ok.size hr.drew hvo hvl (need:=len+n) (nc:=nc) hsum hnc
          exact fin hrun p1 p2 ((Ext.drew ρ w).trans p3)
     |map _ _=>cases hv2
     |loop _ _ _ _=>cases hv2
     |dead=>cases hv2
     |glob _ _=>cases hv2
   grind
 |_=>simp[zcK] at hv1
end
end Go.Ideal
