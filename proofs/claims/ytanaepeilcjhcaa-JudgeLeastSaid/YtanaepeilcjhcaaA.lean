/- A part of the proof: the ideal machine, and what the functions of the program answer over it. -/
import GoSem.Step
import Derived.RangeFuncLeaves
import Derived.Laws.Sem
import Derived.Laws.World
import Derived.Laws.Cells
import Derived.ChangeKeysEq
import Derived.Laws.Entries
import Derived.Laws.CopyRow
import Derived.RangeFuncRecord
import Derived.MapKept
import Derived.Laws.StructEq
import Derived.Laws.MakeOwn
import Derived.Deep.AppendSrc
import Derived.OrdersIn
import Derived.LoopNIn
set_option linter.unusedSimpArgs false
set_option linter.unusedVariables false
set_option linter.unusedSectionVars false
namespace Go.Ideal
noncomputable section
def bitsF (f : Nat) : Nat → List Bool :=
  Nat.rec (motive := fun _ => Nat → List Bool) (fun _ => []) (fun _ ih n => Nat.rec (motive := fun _ => List Bool) [] (fun _ _ => Nat.beq (n % 2) 1 :: ih (n / 2)) n) f
def bits (n : Nat) : List Bool := bitsF n n
inductive PT (α : Type) where
  | nil
  | node (l : PT α) (v : Option α) (r : PT α)
def PT.get {α : Type} (t : PT α) (p : List Bool) : Option α :=
  List.rec (motive := fun _ => PT α → Option α) (fun t => PT.rec (motive := fun _ => Option α) none (fun _ v _ _ _ => v) t)
    (fun b _ ih t => PT.rec (motive := fun _ => Option α) none (fun l _ r _ _ => Bool.rec (motive := fun _ => Option α) (ih l) (ih r) b) t) p t
def PT.set {α : Type} (t : PT α) (p : List Bool) (a : α) : PT α :=
  List.rec (motive := fun _ => PT α → PT α) (fun t => PT.rec (motive := fun _ => PT α) (.node .nil (some a) .nil) (fun l _ r _ _ => .node l (some a) r) t)
    (fun b _ ih t => PT.rec (motive := fun _ => PT α) (Bool.rec (motive := fun _ => PT α) (.node (ih .nil) none .nil) (.node .nil none (ih .nil)) b)
      (fun l v r _ _ => Bool.rec (motive := fun _ => PT α) (.node (ih l) v r) (.node l v (ih r)) b) t) p t
abbrev zf := PT Value
def zk : Nat := 18446744073709551616
def roE : Nat := 18446744073709551616
inductive CO where
  | t (p : List Bool)
  | c (v : Value)
inductive EK where
  | other | bool | ptr | slice | map | func | leaves (l : List Nat)
inductive KK where
  | int | leaves (l : List Nat)
inductive CB where
  | len | lenStr | lenMap | append (size bytes : Nat) | min | max | clear (z : List Value)
inductive COp where
  | mv (x : CO)
  | pick (c a b : CO)
  | alloc (zero : List Value)
  | box (x : CO)
  | build (zero : List Value) (parts : List (Nat × Nat × CO))
  | buildSlice (len size : Nat) (zero : List Value) (parts : List (Nat × CO))
  | load1 (a : CO)
  | loadN (n : Nat) (a : CO)
  | store (n : Nat) (a x : CO)
  | nilCheck (x : CO)
  | bin (op : BinOp) (ek : EK) (x y : CO)
  | un (op : UnOp) (x : CO)
  | conv (k : IntKind) (x : CO)
  | makeFunc (fn : Fn) (first captured : List CO)
  | makeMap
  | makeSlice (size bytes : Nat) (zero : List Value) (l c : CO)
  | slice (size : Nat) (x : CO) (lo hi : Option CO)
  | fieldAddr (off : Nat) (x : CO)
  | indexAddr (size : Nat) (x i : CO)
  | indexArr (n size : Nat) (x i : CO)
  | lookup (kk : KK) (zero : Value) (ok : Bool) (x i : CO)
  | mapUpdate (kk : KK) (m k x : CO)
  | extract (x : CO) (i : Nat)
  | call (f : CO) (args : List CO)
  | blt (b : CB) (args : List CO)
  | strIdx (x i : CO)
structure CI where
  dst : Option (List Bool)
  op : COp
  guard : Option (List Bool × Bool)
  lo : Nat
inductive CC where
  | skip
  | ops (l : List CI)
  | draw (l : List CI)
  | draw2 (l : List CI) (x y : CI)
  | seq (a : CC) (L : List (List Bool)) (b : CC)
  | cond (c : CO) (a b : CC)
  | block (id : Nat) (b : CC)
  | loop (L : List (List Bool)) (b : CC)
  | rangeFunc (rid : Nat) (L : List (List Bool)) (f : CO) (ps : List (List Bool)) (assign body : CC)
  | exit (id : Nat)
  | ret
inductive CR where
  | tmp (p : List Bool)
  | cell (n : Option Nat) (p : List Bool)
def zT : CC → CC
  | .skip => .skip
  | .ops l => .ops l
  | .draw l => .draw l
  | .draw2 l x y => .draw2 l x y
  | .seq a _ b => .seq (zT a) [] (zT b)
  | .cond c a b => .cond c (zT a) (zT b)
  | .block i b => .block i (zT b)
  | .loop _ b => .loop [] (zT b)
  | .rangeFunc _ _ f ps as b => .rangeFunc 0 [] f ps (zT as) (zT b)
  | .exit i => .exit i
  | .ret => .ret
def zL (ps : List (List Bool)) (s : zf) : zf :=
  List.rec (motive := fun _ => zf) .nil (fun p _ r => match s.get p with | some v => r.set p v | none => r) ps
def zdN : Value → Bool
  | .bool _ => true
  | .int _ _ => true
  | .string _ => true
  | .pointer none => true
  | .slice none 0 0 => true
  | .map none => true
  | .nilFunc => true
  | _ => false
def zif : Value → Bool
  | .agg cs => cs.toList.all zdN
  | v => zdN v
def co : Operand → Option CO
  | .tmp t => some (.t (bits t))
  | .const v => if zif v then some (.c v) else none
  | .global _ => none
  | .func f => some (.c (.func (.func f) #[] #[]))
def coO : Option Operand → Option (Option CO)
  | none => some none
  | some x => (co x).map some
def allO {α β : Type} (f : α → Option β) : List α → Option (List β)
  | [] => some []
  | a :: r => (f a).bind fun b => (allO f r).map (b :: ·)
def zep (P : Program) (t : TypeId) : Option (Option Nat) :=
  (P.underlying t).bind fun d => match d with
    | .struct _ | .array _ _ => (P.info? t).map (some ·.size)
    | _ => some none
def zbm (P : Program) (t : TypeId) : Option (List Value) := (P.info? t).bind fun i => i.zero.bind fun z => if z.cells.toList.all zdN then some z.cells.toList else none
def zW (P : Program) (t : TypeId) : Option Nat := (P.info? t).map (·.size)
def zgK (P : Program) (t : TypeId) : Bool :=
  match P.underlying t with
  | some (.int _) => true
  | _ => false
def zeP (P : Program) (t : TypeId) : Option (List Nat) := (P.underlying t).bind fun u => match u with
    | .struct fs => if P.stoodInHeld t then none else if fs.toList.all (fun f => f.name != "_" && zgK P f.type) then some (fs.toList.map (·.offset)) else none
    | .array n e => if zgK P e && (zW P e == some 1) then some (List.range n) else none
    | _ => none
def zcz (P : Program) (t : TypeId) : Option KK := (P.underlying t).bind fun u => match u with
    | .int _ => some .int
    | _ => (zeP P t).map .leaves
def eqKind (P : Program) (t : TypeId) : EK :=
  match P.underlying t with
  | some .bool => .bool
  | some (.pointer _) => .ptr
  | some (.slice _) => .slice
  | some (.map _ _) => .map
  | some (.func _ _ _) => .func
  | _ => match zeP P t with
    | some l => if P.eqGuardType P.depth t then .other else .leaves l
    | none => .other
def zbL (P : Program) (b : Builtin) (ts : Array TypeId) : Option CB :=
  match b with
  | .len => (ts[0]?).bind fun t => (P.underlying t).bind fun u => match u with
    | .map _ _ => some .lenMap
    | .string => some .lenStr
    | .slice _ => some .len
    | _ => none
  | .append => match ts.toList with
    | [t, t1] => (P.underlying t).bind fun u => (P.underlying t1).bind fun u1 => match u, u1 with
      | .slice e, .slice _ => (P.info? e).bind fun i => i.zero.bind fun z => if i.size = 0 ∨ i.bytes = 0 ∨ z.cells.size ≠ i.size then none else some (.append i.size i.bytes)
      | _, _ => none
    | _ => none
  | .min => some .min
  | .max => some .max
  | .clear => (ts[0]?).bind fun t => (P.underlying t).bind fun u => match u with
    | .slice e => (zbm P e).bind fun z => if z.length = 0 then none else some (.clear z)
    | _ => none
  | _ => none
def zct (P : Program) (o : Oper) : Option COp :=
  match o.op with
  | .move x | .assign x => (co x).map .mv
  | .pick c a b => (co c).bind fun c => (co a).bind fun a => (co b).map fun b => .pick c a b
  | .alloc e => (zbm P e).map .alloc
  | .box _ x => (co x).map .box
  | .build t parts => (zbm P t).bind fun z => (P.underlying t).bind fun u => match u with
    | .struct fs => if fs.toList.all (fun f => (zW P f.type).isSome) then (allO (fun (p : Nat × Operand) => (fs[p.1]?).bind fun f => (zW P f.type).bind fun s => (co p.2).map fun x => (f.offset, s, x)) parts.toList).map (.build z) else none
    | .array _ e => (zW P e).bind fun s => (allO (fun (p : Nat × Operand) => (co p.2).map fun x => (p.1 * s, s, x)) parts.toList).map (.build z)
    | _ => none
  | .buildSlice t len parts => (P.underlying t).bind fun u => match u with
    | .slice e => (zW P e).bind fun s => if len * s > 2 ^ 24 then none else (zbm P e).bind fun z => if z.length ≠ s then none else if ¬ (len < zk) then none else
        (allO (fun (p : Nat × Operand) => (co p.2).map fun x => (p.1, x)) parts.toList).map (.buildSlice len s z)
    | _ => none
  | .load t a => (co a).bind fun a => (zep P t).map fun s => match s with | some n => .loadN n a | none => .load1 a
  | .store t a x => (co a).bind fun a => (co x).bind fun x => (zW P t).bind fun n => if n = 0 then none else some (.store n a x)
  | .nilCheck x => (co x).map .nilCheck
  | .binOp op t x y _ => (co x).bind fun x => (co y).map fun y => .bin op (eqKind P t) x y
  | .unOp op _ x => (co x).map (.un op)
  | .convert s d x => (co x).bind fun x => (P.underlying s).bind fun a => (P.underlying d).bind fun b => match a, b with
    | .int _, .int k => some (.conv k x)
    | _, _ => none
  | .makeFunc fn first cap => match fn with
    | .func _ => (allO co first.toList).bind fun f => (allO co cap.toList).map fun c => .makeFunc fn f c
    | _ => none
  | .makeMap _ r => match r with
    | none => some .makeMap
    | some _ => none
  | .makeSlice t l c => (co l).bind fun l => (co c).bind fun c => (P.underlying t).bind fun u => match u with
    | .slice e => (P.info? e).bind fun i => (zbm P e).bind fun z => if z.length ≠ i.size then none else some (.makeSlice i.size i.bytes z l c)
    | _ => none
  | .slice t x lo hi mx => (co x).bind fun x => (coO lo).bind fun lo => (coO hi).bind fun hi => (P.underlying t).bind fun u => match u, mx with
    | .slice e, none => (zW P e).map fun s => .slice s x lo hi
    | _, _ => none
  | .fieldAddr s x f => (co x).bind fun x => (P.underlying s).bind fun u => match u with
    | .struct fs => (fs[f]?).bind fun fl => (zW P fl.type).bind fun sz => if sz = 0 then none else some (.fieldAddr fl.offset x)
    | _ => none
  | .indexAddr t x i => (co x).bind fun x => (co i).bind fun i => (P.underlying t).bind fun u => match u with
    | .slice e => (zW P e).map fun s => .indexAddr s x i
    | .array n e => (zW P e).map fun s => .indexArr n s x i
    | _ => none
  | .lookup t x i ok => (co x).bind fun x => (co i).bind fun i => (P.underlying t).bind fun u => match u with
    | .map k e => (zcz P k).bind fun l => (P.info? e).bind fun j => j.zero.bind fun z => if zif z then some (.lookup l z ok x i) else none
    | _ => none
  | .mapUpdate t m k x => (co m).bind fun m => (co k).bind fun k => (co x).bind fun x => (P.underlying t).bind fun u => match u with
    | .map kt _ => (zcz P kt).map fun l => .mapUpdate l m k x
    | _ => none
  | .extract x i => (co x).map fun x => .extract x i
  | .index t x i => (co x).bind fun x => (co i).bind fun i => (P.underlying t).bind fun u => match u with
    | .string => some (.strIdx x i)
    | _ => none
  | .call c => match c.callee with
    | .value f => (co f).bind fun f => (allO co c.args.toList).map fun as => .call f as
    | .builtin b => (zbL P b c.argTypes).bind fun cb => (allO co c.args.toList).map fun as => .blt cb as
    | .invoke _ _ => none
  | _ => none
def dstOf (ops : Array Oper) (j : Nat) : Option (List Bool) := ((ops[j]?).bind (·.dst)).map bits
def zR (P : Program) (N : Nat) (ops : Array Oper) (o : Oper) : Option CI :=
  if o.dst.all (· < N) then
  (zct P o).bind fun op => match o.guard with
    | none => some { dst := o.dst.map bits, op, guard := none, lo := 0 }
    | some (j, w) => (dstOf ops j).map fun p => { dst := o.dst.map bits, op, guard := some (p, w), lo := 0 }
  else none
def isW : COp → Bool
  | .store _ _ _ => true
  | .mapUpdate _ _ _ _ => true
  | .blt (.append _ _) _ => true
  | .blt (.clear _) _ => true
  | .call _ _ => true
  | _ => false
def isRd : COp → Bool
  | .load1 _ => true
  | .loadN _ _ => true
  | .lookup _ _ _ _ _ => true
  | .slice _ _ _ _ => true
  | .blt .lenMap _ => true
  | _ => false
def beqP : List Bool → List Bool → Bool
  | [], [] => true
  | a :: l, b :: m => (a == b) && beqP l m
  | _, _ => false
def zA : CO → List (List Bool)
  | .t p => [p]
  | .c _ => []
def coONames : Option CO → List (List Bool)
  | none => []
  | some x => zA x
def zce : COp → List (List Bool)
  | .mv x => zA x
  | .pick c a b => zA c ++ zA a ++ zA b
  | .alloc _ => []
  | .box x => zA x
  | .build _ ps => ps.flatMap fun p => zA p.2.2
  | .buildSlice _ _ _ ps => ps.flatMap fun p => zA p.2
  | .load1 a => zA a
  | .loadN _ a => zA a
  | .store _ a x => zA a ++ zA x
  | .nilCheck x => zA x
  | .bin _ _ x y => zA x ++ zA y
  | .un _ x => zA x
  | .conv _ x => zA x
  | .makeFunc _ a b => a.flatMap zA ++ b.flatMap zA
  | .makeMap => []
  | .makeSlice _ _ _ l c => zA l ++ zA c
  | .slice _ x lo hi => zA x ++ coONames lo ++ coONames hi
  | .fieldAddr _ x => zA x
  | .indexAddr _ x i => zA x ++ zA i
  | .indexArr _ _ x i => zA x ++ zA i
  | .lookup _ _ _ x i => zA x ++ zA i
  | .mapUpdate _ m k x => zA m ++ zA k ++ zA x
  | .extract x _ => zA x
  | .call f as => zA f ++ as.flatMap zA
  | .blt _ as => as.flatMap zA
  | .strIdx x i => zA x ++ zA i
def zdm : Option (List Bool × Bool) → List (List Bool)
  | none => []
  | some g => [g.1]
def zbB (c : CI) : List (List Bool) := zdm c.guard ++ c.dst.toList ++ zce c.op
def ancOf (d : List Nat) (o : Oper) : Nat := (o.after.toList.filter (Region.binds .any)).foldl (fun s e => s ||| 2 ^ e.on ||| d.getD e.on 0) 0
def ancs (ops : List Oper) : List Nat := ops.foldl (fun d o => d ++ [ancOf d o]) []
def canonL (anc : List Nat) (all : List Nat) : List Nat → Nat → List Nat
  | [], seen => all.filter fun i => !seen.testBit i
  | k :: ws, seen => if seen.testBit k then canonL anc all ws seen else
    let m := anc.getD k 0
    all.filter (fun i => m.testBit i && !seen.testBit i) ++ k :: canonL anc all ws (seen ||| m ||| 2 ^ k)
def namesOk (anc : List Nat) (cis : List CI) (j : Nat) (c : CI) : Bool := (zbB c).all fun x => cis.zipIdx.all fun (d, i) => match d.dst with
  | none => true
  | some y => !beqP x y || i == j || (anc.getD j 0).testBit i || (anc.getD i 0).testBit j
def isFl : COp → Bool
  | .alloc _ => false
  | .box _ => false
  | .buildSlice _ _ _ _ => false
  | .makeMap => false
  | .makeSlice _ _ _ _ _ => false
  | op => !isW op && !isRd op
def zh1 (anc : List Nat) (cis : List CI) (j : Nat) (i : Nat) : Bool := match cis[i]? with
  | some d => isFl d.op || (anc.getD j 0).testBit i
  | none => true
def zgb (anc : List Nat) (cis : List CI) : List Nat → Nat → List Nat → Bool
  | [], _, _ => true
  | j :: r, seen, seenL => match cis[j]? with
    | none => false
    | some c => !seen.testBit j && Nat.beq (anc.getD j 0 &&& seen) (anc.getD j 0) && (!isW c.op || seenL.all (zh1 anc cis j)) && namesOk anc cis j c && zgb anc cis r (seen ||| 2 ^ j) (j :: seenL)
def loOf (anc : List Nat) (ws : List Nat) (j : Nat) : Nat := (ws.filter fun k => (anc.getD j 0).testBit k).length
def wsOf (cis : List CI) : List Nat := (List.range cis.length).filter fun i => match cis[i]? with | some c => isW c.op | none => false
def zhO (anc : List Nat) (cis : List CI) (order : List Nat) : Option (List CI) := allO (fun j => (cis[j]?).map fun c => { c with lo := loOf anc (wsOf cis) j }) order
def lastOk (anc : List Nat) (cis : List CI) (rest : List Nat) (x y : Nat) (c : CI) : Bool :=
  (match c.op with | .store _ _ _ => true | _ => false) && c.dst.isNone && c.guard.isNone && rest.all (zh1 anc cis x) && !(anc.getD x 0).testBit y && !(anc.getD x 0).testBit x && rest.all (fun j => !(anc.getD j 0).testBit x) &&
  (zce c.op).all fun p => cis.zipIdx.all fun (d, i) => match d.dst with
    | none => true
    | some q => !beqP p q || (anc.getD x 0).testBit i
def draw2In (anc : List Nat) (cis : List CI) (rest : List Nat) (x y : Nat) : Option CC :=
  (cis[x]?).bind fun c => (cis[y]?).bind fun d =>
  let order := canonL anc rest ((wsOf cis).filter fun i => !(Nat.beq i x) && !(Nat.beq i y)) 0
  if zgb anc cis order 0 [] && rest.all (fun i => order.any (Nat.beq i)) && order.all (fun i => rest.any (Nat.beq i)) && lastOk anc cis rest x y c && lastOk anc cis rest y x d && !Nat.beq x y then
    (zhO anc cis order).map fun l => .draw2 l c d else none
def drawIn (anc : List Nat) (cis : List CI) : Option CC :=
  let all := List.range cis.length
  let order := canonL anc all (wsOf cis) 0
  if zgb anc cis order 0 [] && Nat.beq order.length cis.length && all.all (fun i => order.any (Nat.beq i)) then (zhO anc cis order).map .draw else
  match (wsOf cis).reverse with
    | y :: x :: _ => draw2In anc cis (all.filter fun i => !(Nat.beq i x) && !(Nat.beq i y)) x y
    | _ => none
def zx (P : Program) (N : Nat) : Code → Option CC
  | .skip => some .skip
  | .region _ ops d => (allO (zR P N ops) ops.toList).bind fun l => match d with
    | false => some (.ops l)
    | true => if ops.toList.zipIdx.all (fun x => (x.1.after.toList.filter (Region.binds .any)).all fun e => Nat.blt e.on x.2) then drawIn (ancs ops.toList) l else none
  | .seq a b => (zx P N a).bind fun a => (zx P N b).map fun b => .seq a [] b
  | .cond c a b => (co c).bind fun c => (zx P N a).bind fun a => (zx P N b).map fun b => .cond c a b
  | .block id b => (zx P N b).map (.block id)
  | .loop b => (zx P N b).map (.loop [])
  | .rangeFunc f ps as b => if ps.toList.all (· < N) then (co f).bind fun f => (zx P N as).bind fun as => (zx P N b).map fun b => .rangeFunc 0 [] f (ps.toList.map bits) as b else none
  | .exit id => some (.exit id)
  | .ret => some .ret
  | .label _ => some .skip
  | .scope b => zx P N b
  | .goto _ | .refuse _ => none
def zb4 (P : Program) : ResultVar → Option CR
  | .tmp t => some (.tmp (bits t))
  | .cell a t => (zep P t).map fun n => .cell n (bits a)
structure RC where
  rid : Nat
  L : List (List Bool)
  ps : List (List Bool)
  as : CC
  b : CC
inductive IObj where
  | cells (cs : List Value) (esz : Nat)
  | map (es : List (Value × Value × Nat)) (clock : Nat)
  | loop (state : LoopState) (pending : Option CC) (slots : zf) (rc : RC)
  | dead
structure H where
  next : Nat
  mem : PT IObj
def H.get (h : H) (i : Nat) : Option IObj := h.mem.get (bits i)
def H.put (h : H) (i : Nat) (o : IObj) : H := ⟨h.next, h.mem.set (bits i) o⟩
def H.new (h : H) (o : IObj) : H := ⟨h.next + 1, h.mem.set (bits h.next) o⟩
def H.empty : H := ⟨0, .nil⟩
structure zr where
  ntmps : Nat
  results : List CR
  body : CC
  prim : Option (List Value → H → Option (Value × H)) := none
def zu (cf : zr) : zr := { cf with body := zT cf.body }
def zd (P : Program) (f : Func) : Option zr :=
  if f.name == "runtime.NumGoroutine" then none else f.body.bind fun b => (zx P f.ntmps b).bind fun c => (allO (zb4 P) f.results.toList).map fun rs => { ntmps := f.ntmps, results := rs, body := c }
def zfA {α : Type} (n : Nat) (l : List α) : Option (List α) :=
  Nat.rec (motive := fun _ => List α → Option (List α)) (fun _ => some []) (fun _ ih l => List.rec (motive := fun _ => Option (List α)) none (fun a r _ => (ih r).map (a :: ·)) l) n l
def zby {α : Type} (n : Nat) (l : List α) : List α :=
  Nat.rec (motive := fun _ => List α → List α) (fun l => l) (fun _ ih l => List.rec (motive := fun _ => List α) [] (fun _ r _ => ih r) l) n l
def poison : Value := .complex .f32 0 0
def zS : Value → Bool
  | .complex _ _ _ => false
  | _ => true
def zjA (l : List Value) : Option (List Value) := if l.all zS then some l else none
def zU (n : Nat) (l : List Value) : Option (List Value) := (zfA n l).bind zjA
def zE : List Value → Nat → List Value → Option (List Value)
  | cs, _, [] => some cs
  | _ :: cs, 0, v :: vs => (zE cs 0 vs).map (v :: ·)
  | c :: cs, n + 1, v :: vs => (zE cs n (v :: vs)).map (c :: ·)
  | [], _, _ :: _ => none
def zbb : Value → Bool
  | .agg _ => false
  | .tuple _ => false
  | _ => true
def readObj (off n : Nat) : IObj → Option (List Value)
  | .cells cs _ => zU n (zby off cs)
  | _ => none
def H.readN (h : H) (i off n : Nat) : Option (List Value) := (h.get i).bind (readObj off n)
def zc8 (h : H) (i off : Nat) (vs : List Value) : IObj → Option H
  | .cells cs esz => if vs.all zbb && !Nat.beq esz roE then (zE cs off vs).map fun cs' => h.put i (.cells cs' esz) else none
  | _ => none
def H.write (h : H) (i off : Nat) (vs : List Value) : Option H := (h.get i).bind (zc8 h i off vs)
def zD : Value := .tuple #[]
abbrev R := Option (Value × H)
def CO.ev (s : zf) (x : CO) : Option Value := CO.rec (motive := fun _ => zf → Option Value) (fun p s => s.get p) (fun v _ => some v) x s
def evL (s : zf) (l : List CO) : Option (List Value) :=
  List.rec (motive := fun _ => Option (List Value)) (some []) (fun x _ ih => (x.ev s).bind fun v => ih.map (v :: ·)) l
def evO (s : zf) : Option CO → Option (Option Value)
  | none => some none
  | some x => (x.ev s).map some
def zj : Value → List Value
  | .agg cs => cs.toList
  | v => [v]
def zp (cells : List Value) : List (Nat × Nat × Value) → Option (List Value)
  | [] => some cells
  | (off, size, v) :: r => if Nat.beq (zj v).length size && Nat.blt 0 size then (zE cells off (zj v)).bind fun c => zp c r else none
def zl (z : List Value) : Nat → List Value
  | 0 => []
  | n + 1 => z ++ zl z n
def ltI (a b : Int) : Bool := match a, b with
  | .ofNat m, .ofNat n => Nat.blt m n
  | .negSucc m, .negSucc n => Nat.blt n m
  | .negSucc _, .ofNat _ => true
  | .ofNat _, .negSucc _ => false
def eqI (a b : Int) : Bool := match a, b with
  | .ofNat m, .ofNat n => Nat.beq m n
  | .negSucc m, .negSucc n => Nat.beq n m
  | _, _ => false
def zhk : Value → Value → Option Bool
  | .int k a, .int k' b => if k = k' then some (eqI a b) else none
  | _, _ => none
def sameAt (xs ys : List Value) : List Nat → Option Bool
  | [] => some true
  | i :: r => (xs[i]?).bind fun x => (ys[i]?).bind fun y => (zhk x y).bind fun b => (sameAt xs ys r).map fun c => b && c
def eqV : EK → Value → Value → Option Bool
  | .ptr, .pointer none, .pointer b => some b.isNone
  | .ptr, .pointer (some _), .pointer none => some false
  | .slice, .slice none _ _, .slice b _ _ => some b.isNone
  | .slice, .slice (some _) _ _, .slice none _ _ => some false
  | .map, .map none, .map b => some b.isNone
  | .map, .map (some _), .map none => some false
  | .func, .nilFunc, .nilFunc => some true
  | .func, .nilFunc, .func _ _ _ => some false
  | .func, .func _ _ _, .nilFunc => some false
  | .bool, .bool a, .bool b => some (a == b)
  | .leaves l, .agg xs, .agg ys => sameAt xs.toList ys.toList l
  | _, _, _ => none
def smallOf : IntKind → Nat
  | .i8 => 127 | .i16 => 32767 | .i32 => 2147483647 | .i64 => 9223372036854775807
  | .u8 => 255 | .u16 => 65535 | .u32 => 4294967295 | .u64 => 18446744073709551615
def wrapF (k : IntKind) (n : Int) : Int := match n with
  | .ofNat m => match Nat.ble m (smallOf k) with | true => .ofNat m | false => k.wrap (.ofNat m)
  | .negSucc m => k.wrap (.negSucc m)
def intB (k : IntKind) (a b : Int) : BinOp → Option Value
  | .add => some (.int k (wrapF k (a + b)))
  | .sub => some (.int k (wrapF k (a - b)))
  | .mul => some (.int k (wrapF k (a * b)))
  | .quo => if eqI b 0 then none else some (.int k (wrapF k (a.tdiv b)))
  | .rem => if eqI b 0 then none else some (.int k (a.tmod b))
  | .eql => some (.bool (eqI a b))
  | .neq => some (.bool (!(eqI a b)))
  | .lss => some (.bool (ltI a b))
  | .leq => some (.bool (!(ltI b a)))
  | .gtr => some (.bool (ltI b a))
  | .geq => some (.bool (!(ltI a b)))
  | _ => none
def eqlV (ek : EK) (x y : Value) : BinOp → Option Value
  | .eql => (eqV ek x y).map .bool
  | .neq => (eqV ek x y).map fun b => .bool (!b)
  | _ => none
def intS (k k' : IntKind) (a b : Int) : BinOp → Option Value
  | .shl => if ltI b 0 then none else some (.int k (k.wrap (a * 2 ^ (min b.toNat k.bits))))
  | .shr => if ltI b 0 then none else some (.int k (a.fdiv (2 ^ (min b.toNat k.bits))))
  | op => if k = k' then intB k a b op else none
def binV (op : BinOp) (ek : EK) (x y : Value) : Option Value :=
  match x, y with
  | .int k a, .int k' b => intS k k' a b op
  | x, y => eqlV ek x y op
def unV : UnOp → Value → Option Value
  | .neg, .int k n => some (.int k (k.wrap (0 - n)))
  | .not, .bool b => some (.bool !b)
  | _, _ => none
def inB (i : Int) (n : Nat) : Option Nat := match i with
  | .ofNat m => if Nat.ble m n then some m else none
  | .negSucc _ => none
def zdr (dflt y : Nat) : Option Value → Option Nat
  | none => some dflt
  | some (.int _ i) => inB i y
  | some _ => none
def zbh : KK → Value → Value → Option Bool
  | .int, .int k a, .int k' b => if k = k' then some (eqI a b) else none
  | .leaves l, .agg xs, .agg ys => sameAt xs.toList ys.toList l
  | _, _, _ => none
def zeZ (kk : KK) (k : Value) : List (Value × Value × Nat) → Option (Option Value)
  | [] => some none
  | (key, v, _) :: r => (zbh kk k key).bind fun b => match b with | true => some (some v) | false => zeZ kk k r
def zY : List Value → List Value → Bool
  | [], [] => true
  | .int k a :: r, .int k' b :: r' => match decide (k = k') && eqI a b with | true => zY r r' | false => false
  | _, _ => false
def setE (kk : KK) (k v : Value) (clock : Nat) : List (Value × Value × Nat) → Option (List (Value × Value × Nat) × Nat)
  | [] => some ([(k, v, clock)], clock + 1)
  | (key, w, b) :: r => (zbh kk k key).bind fun s => match s with
    | true => if zY (zj k) (zj key) then some ((k, v, b) :: r, clock) else none
    | false => (setE kk k v clock r).map fun x => ((key, w, b) :: x.1, x.2)
def zco (isMax : Bool) : Value → List Value → Option Value
  | v, [] => some v
  | .int k x, .int k' y :: r => if k = k' then zco isMax (.int k (match isMax with | true => (match ltI x y with | true => y | false => x) | false => (match ltI y x with | true => y | false => x))) r else none
  | _, _ => none
def zcm (h : H) (size : Nat) : Value → Option (Nat × List Value)
  | .slice none n _ => if Nat.beq n 0 then some (0, []) else none
  | .slice (some a) n _ => if Nat.beq n 0 then some (0, []) else (h.readN a.block a.off (n * size)).map fun l => (n, l)
  | _ => none
def zdH (h : H) (need size : Nat) (cs : List Value) : Value × H :=
  (.slice (some ⟨h.next, 0, none⟩) need zk, h.new (.cells cs size))
def zjq (size : Nat) (a : Addr) (len n : Nat) (new : List Value) (h : H) (cs : List Value) : R :=
  (zU (len * size) (zby a.off cs)).map fun old => zdH h (len + n) size (old ++ new)
def putIn (size : Nat) (a : Addr) (len cap n : Nat) (new : List Value) (h : H) : R :=
  (h.write a.block (a.off + len * size) new).map fun h => (.slice (some a) (len + n) cap, h)
def zeV (size : Nat) (a : Addr) (len cap n : Nat) (new : List Value) (h : H) : IObj → R
  | .cells cs esz =>
    if Nat.beq cap zk then
      if Nat.beq esz size && !Nat.beq esz roE then
        if Nat.ble (len + n) ((cs.length - a.off) / size) then putIn size a len cap n new h
        else zjq size a len n new (h.put a.block .dead) cs
      else none
    else if Nat.ble (len + n) cap then putIn size a len cap n new h
    else zjq size a len n new h cs
  | _ => none
def zcn (size bytes : Nat) (n : Nat) (new : List Value) (h : H) : Value → R
  | .slice base len cap =>
    if Nat.beq n 0 then some (.slice base len cap, h) else
    if Nat.ble ((len + n) * bytes) 1073741824 && new.all zbb then
      match base with
      | none => if Nat.beq len 0 && Nat.beq cap 0 then some (zdH h n size new) else none
      | some a => (h.get a.block).bind (zeV size a len cap n new h)
    else none
  | _ => none
def bltV (h : H) : CB → List Value → R
  | .lenStr, [.string s] => some (.int .i64 s.size, h)
  | .len, [.slice _ n _] => some (.int .i64 n, h)
  | .lenMap, [.map none] => some (.int .i64 0, h)
  | .lenMap, [.map (some r)] => match h.get r with | some (.map es _) => some (.int .i64 es.length, h) | _ => none
  | .append size bytes, [s, x] => (zcm h size x).bind fun nl => zcn size bytes nl.1 nl.2 h s
  | .min, v :: r => (zco false v r).map (·, h)
  | .max, v :: r => (zco true v r).map (·, h)
  | .clear _, [.slice none _ _] => some (zD, h)
  | .clear z, [.slice (some a) n _] => if Nat.beq n 0 then some (zD, h) else (h.write a.block a.off (zl z n)).map fun h => (zD, h)
  | _, _ => none
def zeY : Value → Option Addr
  | .pointer (some a) => some a
  | _ => none
def zgl (s : zf) : List (Nat × Nat × CO) → Option (List (Nat × Nat × Value))
  | [] => some []
  | (o, n, x) :: r => (x.ev s).bind fun v => (zgl s r).map ((o, n, v) :: ·)
def zdL (s : zf) (size : Nat) : List (Nat × CO) → Option (List (Nat × Nat × Value))
  | [] => some []
  | (i, x) :: r => (x.ev s).bind fun v => (zdL s size r).map ((i * size, size, v) :: ·)
def bMv (x : CO) (s : zf) (h : H) : R := (x.ev s).map (·, h)
def pickV (a b : CO) (s : zf) (h : H) : Value → R
  | .bool true => (a.ev s).map (·, h)
  | .bool false => (b.ev s).map (·, h)
  | _ => none
def bPick (c a b : CO) (s : zf) (h : H) : R := (c.ev s).bind (pickV a b s h)
def zi (h : H) (cs : List Value) : Value × H := (.pointer (some ⟨h.next, 0, none⟩), h.new (.cells cs 0))
def bAlloc (z : List Value) (_ : zf) (h : H) : R := some (zi h z)
def bBox (x : CO) (s : zf) (h : H) : R := (x.ev s).map fun v => zi h (zj v)
def ziy (z : List Value) (ps : List (Nat × Nat × CO)) (s : zf) (h : H) : R := (zgl s ps).bind fun l => (zp z l).map fun c => (.agg ⟨c⟩, h)
def zci (len size : Nat) (z : List Value) (ps : List (Nat × CO)) (s : zf) (h : H) : R :=
  (zdL s size ps).bind fun l => (zp (zl z len) l).map fun c => (.slice (some ⟨h.next, 0, none⟩) len len, h.new (.cells c 0))
def zhP : List Value → Option Value
  | [v] => some v
  | _ => none
def zix (a : CO) (s : zf) (h : H) : R := (a.ev s).bind fun v => (zeY v).bind fun a => (h.readN a.block a.off 1).bind fun l => (zhP l).map (·, h)
def ziw (n : Nat) (a : CO) (s : zf) (h : H) : R := (a.ev s).bind fun v => (zeY v).bind fun a => (h.readN a.block a.off n).map fun l => (.agg ⟨l⟩, h)
def ziu (n : Nat) (a x : CO) (s : zf) (h : H) : R := (a.ev s).bind fun v => (x.ev s).bind fun x => (zeY v).bind fun a =>
  if Nat.beq (zj x).length n then (h.write a.block a.off (zj x)).map fun h => (zD, h) else none
def nilV : Value → Option Value
  | .pointer (some a) => some (.pointer (some a))
  | .func (.func f) a b => some (.func (.func f) a b)
  | .func (.yield l) a b => some (.func (.yield l) a b)
  | _ => none
def zcZ (x : CO) (s : zf) (h : H) : R := (x.ev s).bind fun v => (nilV v).map (·, h)
def bBin (op : BinOp) (l : EK) (x y : CO) (s : zf) (h : H) : R := (x.ev s).bind fun a => (y.ev s).bind fun b => (binV op l a b).map (·, h)
def bUn (op : UnOp) (x : CO) (s : zf) (h : H) : R := (x.ev s).bind fun a => (unV op a).map (·, h)
def convV (k : IntKind) : Value → Option Value
  | .int _ n => some (.int k (k.wrap n))
  | _ => none
def bConv (k : IntKind) (x : CO) (s : zf) (h : H) : R := (x.ev s).bind fun a => (convV k a).map (·, h)
def zc0 (fn : Fn) (a b : List CO) (s : zf) (h : H) : R := (evL s a).bind fun a => (evL s b).map fun b => (.func fn ⟨a⟩ ⟨b⟩, h)
def bMakeMap (_ : zf) (h : H) : R := some (.map (some h.next), h.new (.map [] 0))
def zbT (bytes : Nat) (z : List Value) (h : H) : Value → Value → R
  | .int .i64 (.ofNat l), .int .i64 (.ofNat c) => if Nat.ble l c && Nat.ble (c * bytes) 1073741824 && Nat.ble c 1073741824 then some (.slice (some ⟨h.next, 0, none⟩) l c, h.new (.cells (zl z c) 0)) else none
  | _, _ => none
def zcK (_ bytes : Nat) (z : List Value) (l c : CO) (s : zf) (h : H) : R := (l.ev s).bind fun l => (c.ev s).bind fun c => zbT bytes z h l c
def zcN (size : Nat) (a : Addr) (len : Nat) (lo hi : Option Value) (h : H) : IObj → R
  | .cells cs esz => if Nat.beq esz size && Nat.blt 0 size then (zdr len ((cs.length - a.off) / size) hi).bind fun hi => (zdr 0 hi lo).map fun lo => (.slice (some ⟨a.block, a.off + lo * size, none⟩) (hi - lo) zk, h) else none
  | _ => none
def zbk (size : Nat) (h : H) (lo hi : Option Value) : Value → R
  | .slice base len cap =>
    if Nat.beq cap zk then base.bind fun a => (h.get a.block).bind (zcN size a len lo hi h)
    else (zdr len cap hi).bind fun hi => (zdr 0 hi lo).map fun lo =>
      (.slice (if Nat.beq cap lo then base else base.map fun a => ⟨a.block, a.off + lo * size, none⟩) (hi - lo) (cap - lo), h)
  | _ => none
def ziv (size : Nat) (x : CO) (lo hi : Option CO) (s : zf) (h : H) : R := (x.ev s).bind fun v => (evO s lo).bind fun lo => (evO s hi).bind fun hi => zbk size h lo hi v
def zch (off : Nat) (x : CO) (s : zf) (h : H) : R := (x.ev s).bind fun v => (zeY v).map fun a => (.pointer (some ⟨a.block, a.off + off, none⟩), h)
def indexV (size : Nat) : Value → Value → Option Value
  | .slice (some a) len _, .int _ (.ofNat i) => if Nat.blt i len then some (.pointer (some ⟨a.block, a.off + i * size, none⟩)) else none
  | _, _ => none
def zcg (size : Nat) (x i : CO) (s : zf) (h : H) : R := (x.ev s).bind fun v => (i.ev s).bind fun i => (indexV size v i).map (·, h)
def zfP (n size : Nat) : Value → Value → Option Value
  | .pointer (some a), .int _ (.ofNat i) => if Nat.blt i n then some (.pointer (some ⟨a.block, a.off + i * size, none⟩)) else none
  | _, _ => none
def zc1 (n size : Nat) (x i : CO) (s : zf) (h : H) : R := (x.ev s).bind fun v => (i.ev s).bind fun i => (zfP n size v i).map (·, h)
def zbK (h : H) : Value → Option (List (Value × Value × Nat))
  | .map none => some []
  | .map (some r) => match h.get r with | some (.map es _) => some es | _ => none
  | _ => none
def zed (z : Value) (ok : Bool) : Option Value → Value
  | some v => match ok with | true => .tuple #[v, .bool true] | false => v
  | none => match ok with | true => .tuple #[z, .bool false] | false => z
def zfq (kk : KK) (z : Value) (ok : Bool) (x i : CO) (s : zf) (h : H) : R :=
  (x.ev s).bind fun m => (i.ev s).bind fun k => (zbh kk k k).bind fun _ => (zbK h m).bind fun es => (zeZ kk k es).map fun r => (zed z ok r, h)
def mapSet (kk : KK) (h : H) (k x : Value) (r : Nat) : IObj → R
  | .map es clock => (zbh kk k k).bind fun _ => (setE kk k x clock es).map fun y => (zD, h.put r (.map y.1 y.2))
  | _ => none
def ze2 (kk : KK) (h : H) (k x : Value) : Value → R
  | .map (some r) => (h.get r).bind (mapSet kk h k x r)
  | _ => none
def zds (kk : KK) (m k x : CO) (s : zf) (h : H) : R := (m.ev s).bind fun m => (k.ev s).bind fun k => (x.ev s).bind fun x => ze2 kk h k x m
def extractV (i : Nat) : Value → Option Value
  | .tuple vs => vs.toList[i]?
  | _ => none
def zdP (x : CO) (i : Nat) (s : zf) (h : H) : R := (x.ev s).bind fun v => (extractV i v).map (·, h)
def strIdxV : Value → Value → Option Value
  | .string s, .int _ (.ofNat i) => (s.data.toList[i]?).map fun b => .int .u8 b.toNat
  | _, _ => none
def zfp (x i : CO) (s : zf) (h : H) : R := (x.ev s).bind fun v => (i.ev s).bind fun i => (strIdxV v i).map (·, h)
def bBlt (b : CB) (args : List CO) (s : zf) (h : H) : R := (evL s args).bind fun l => bltV h b l
def bCall (_ : CO) (_ : List CO) (_ : zf) (_ : H) : R := none
def opV (op : COp) : zf → H → R :=
  COp.rec (motive := fun _ => zf → H → R) bMv bPick bAlloc bBox ziy zci zix ziw ziu zcZ bBin bUn bConv zc0 bMakeMap zcK ziv zch zcg zc1 zfq zds zdP bCall bBlt zfp op
inductive Out where
  | nrm (s : zf) (h : H)
  | exit (id : Nat) (s : zf) (h : H)
  | ret (s : zf) (h : H)
  | val (v : Value) (h : H)
inductive Task where
  | code (c : CC) (s : zf) (h : H)
  | call (f : Value) (args : List Value) (h : H)
abbrev IH := Task → Option Out
def zdb (ps : List (List Bool)) (vs : List Value) (s : zf) : Option zf :=
  List.rec (motive := fun _ => List Value → zf → Option zf) (fun vs s => match vs with | [] => some s | _ :: _ => none)
    (fun p _ ih vs s => match vs with | [] => none | v :: vs => ih vs (s.set p v)) ps vs s
def zcl (vs : List Value) (i : Nat) (s : zf) : zf :=
  List.rec (motive := fun _ => Nat → zf → zf) (fun _ s => s) (fun v _ ih i s => ih (i + 1) (s.set (bits i) v)) vs i s
def wantedV (w : Bool) : Value → Option Bool
  | .bool b => some (b == w)
  | .tuple _ => some false
  | _ => none
def zcc (g : Option (List Bool × Bool)) (s : zf) : Option Bool :=
  match g with
  | none => some true
  | some (p, w) => (s.get p).bind (wantedV w)
def zhy : Out → R
  | .val v h => some (v, h)
  | _ => none
def zgS (ih : IH) (f : CO) (args : List CO) (s : zf) (h : H) : R :=
  (f.ev s).bind fun f => (evL s args).bind fun l => (ih (.call f l h)).bind zhy
def doOp (ih : IH) (op : COp) (s : zf) (h : H) : R := match op with
  | .call f args => zgS ih f args s h
  | op => opV op s h
def zb2 (d : Option (List Bool)) (v : Value) (s : zf) : zf := match d with
  | none => s
  | some p => s.set p v
def zgE (ih : IH) (o : CI) (s : zf) (h : H) : R := (zcc o.guard s).bind fun b => match b with
  | true => doOp ih o.op s h
  | false => some (zD, h)
def zdT (ih : IH) (l : List CI) : zf → H → Option (zf × H) :=
  List.rec (motive := fun _ => zf → H → Option (zf × H)) (fun s h => some (s, h)) (fun o _ rec s h => (zgE ih o s h).bind fun x => rec (zb2 o.dst x.1 s) x.2) l
def zjw (a b : Addr) : Bool := Nat.beq a.block b.block && Nat.beq a.off b.off && a.spot.isNone && b.spot.isNone
def eqBytes : List UInt8 → List UInt8 → Bool
  | [], [] => true
  | a :: l, b :: m => Nat.beq a.toNat b.toNat && eqBytes l m
  | _, _ => false
def zcD : Value → Value → Bool
  | .bool a, .bool b => a == b
  | .int k a, .int k' b => decide (k = k') && eqI a b
  | .string a, .string b => eqBytes a.data.toList b.data.toList
  | .pointer none, .pointer none => true
  | .pointer (some a), .pointer (some b) => zjw a b
  | .slice none n c, .slice none n' c' => Nat.beq n n' && Nat.beq c c'
  | .slice (some a) n c, .slice (some b) n' c' => zjw a b && Nat.beq n n' && Nat.beq c c'
  | .map none, .map none => true
  | .map (some a), .map (some b) => Nat.beq a b
  | .nilFunc, .nilFunc => true
  | _, _ => false
def zel : List Value → List Value → Bool
  | [], [] => true
  | a :: l, b :: m => zcD a b && zel l m
  | _, _ => false
def eqVal1 : Value → Value → Bool
  | .agg a, .agg b => zel a.toList b.toList
  | a, b => zcD a b
def eqVals : List Value → List Value → Bool
  | [], [] => true
  | a :: l, b :: m => eqVal1 a b && eqVals l m
  | _, _ => false
def zh6 : Value → Value → Bool
  | .tuple a, .tuple b => eqVals a.toList b.toList
  | a, b => eqVal1 a b
def zfl (op : COp) (s : zf) (lo : Nat) (v : Value) : List (Nat × H) → Bool
  | [] => true
  | x :: r => if Nat.blt x.1 lo then zfl op s lo v r else match opV op s x.2 with
    | some y => zh6 v y.1 && zfl op s lo v r
    | none => false
def drawRd (op : COp) (s : zf) (lo : Nat) (h : H) : List (Nat × H) → Option (Value × H × List (Nat × H))
  | [] => none
  | x :: r => (opV op s x.2).bind fun y => if zfl op s lo y.1 r then some (y.1, h, x :: r) else none
def nextB : List (Nat × H) → Nat
  | [] => 0
  | x :: _ => x.1 + 1
def zic (ih : IH) (o : CI) (bs : List (Nat × H)) (s : zf) (h : H) : Option (Value × H × List (Nat × H)) :=
  if isW o.op then (doOp ih o.op s h).map fun x => (x.1, x.2, (nextB bs, x.2) :: bs)
  else if isRd o.op then drawRd o.op s o.lo h bs
  else (opV o.op s h).map fun x => (x.1, x.2, bs)
def zck (ih : IH) (o : CI) (bs : List (Nat × H)) (s : zf) (h : H) : Option (Value × H × List (Nat × H)) := (zcc o.guard s).bind fun b => match b with
  | true => zic ih o bs s h
  | false => some (zD, h, if isW o.op then (nextB bs, h) :: bs else bs)
def zbQ (ih : IH) (l : List CI) : List (Nat × H) → zf → H → Option (zf × H) :=
  List.rec (motive := fun _ => List (Nat × H) → zf → H → Option (zf × H)) (fun _ s h => some (s, h)) (fun o _ rec bs s h => (zck ih o bs s h).bind fun x => rec x.2.2 (zb2 o.dst x.1 s) x.2.1) l
def resV (s : zf) (h : H) : CR → Option Value
  | .tmp p => s.get p
  | .cell n p => (s.get p).bind fun v => (zeY v).bind fun a => match n with
    | some n => (h.readN a.block a.off n).map fun l => .agg ⟨l⟩
    | none => (h.readN a.block a.off 1).bind zhP
def ze : List Value → Value
  | [v] => v
  | vs => .tuple ⟨vs⟩
def resOf (rs : List CR) (s : zf) (h : H) : Option Out := (allO (resV s h) rs).map fun vs => .val (ze vs) h
abbrev Step := IH → zf → H → Option Out
def sSkip : Step := fun _ s h => some (.nrm s h)
def nrmOf (x : zf × H) : Out := .nrm x.1 x.2
def sOps (l : List CI) : Step := fun ih s h => (zdT ih l s h).map nrmOf
def sDraw (l : List CI) : Step := fun ih s h => (zbQ ih l [(0, h)] s h).map nrmOf
def store2 (n : Nat) (p v : Value) (m : Nat) (q u : Value) (h : H) : Option H := (zeY p).bind fun p => (zeY q).bind fun q =>
  if Nat.beq p.block q.block then none else if Nat.beq (zj v).length n && Nat.beq (zj u).length m then (h.write p.block p.off (zj v)).bind fun h => h.write q.block q.off (zj u) else none
def zdB (x y : COp) (s : zf) (h : H) : Option H := match x, y with
  | .store n a b, .store m c d => (a.ev s).bind fun p => (b.ev s).bind fun v => (c.ev s).bind fun q => (d.ev s).bind fun u => store2 n p v m q u h
  | _, _ => none
def sDraw2 (l : List CI) (x y : CI) : Step := fun ih s h => (zbQ ih l [(0, h)] s h).bind fun r => (zdB x.op y.op r.1 r.2).map fun h => .nrm r.1 h
def thenK (ih : IH) (L : List (List Bool)) (b : CC) : Out → Option Out
  | .nrm s h => ih (.code b (zL L s) h)
  | o => some o
def sSeq (a : CC) (L : List (List Bool)) (b : CC) : Step := fun ih s h => (ih (.code a s h)).bind (thenK ih L b)
def condV (a b : CC) : Value → Option CC
  | .bool true => some a
  | .bool false => some b
  | _ => none
def sCond (c : CO) (a b : CC) : Step := fun ih s h => (c.ev s).bind fun v => (condV a b v).bind fun x => ih (.code x s h)
def zis (id : Nat) : Out → Out
  | .exit i s h => match Nat.beq i id with | true => .nrm s h | false => .exit i s h
  | o => o
def sBlock (id : Nat) (b : CC) : Step := fun ih s h => (ih (.code b s h)).map (zis id)
def loopK (ih : IH) (L : List (List Bool)) (b : CC) : Out → Option Out
  | .nrm s h => ih (.code (.loop L b) s h)
  | o => some o
def sLoop (L : List (List Bool)) (b : CC) : Step := fun ih s h => (ih (.code b (zL L s) h)).bind (loopK ih L b)
def pendK (s : zf) (h : H) : Option CC → Option Out
  | none => some (.nrm s h)
  | some .ret => some (.ret s h)
  | some (.exit i) => some (.exit i s h)
  | _ => none
def zfJ (l : Nat) (s : zf) (h : H) : IObj → Option Out
  | .loop .ready pend sl rc => pendK s (h.put l (.loop .exhausted pend sl rc)) pend
  | .loop .done pend sl rc => pendK s (h.put l (.loop .exhausted pend sl rc)) pend
  | _ => none
def isFn : Value → Option Value
  | .func (.func g) a b => some (.func (.func g) a b)
  | _ => none
def sRange (rid : Nat) (L : List (List Bool)) (f : CO) (ps : List (List Bool)) (as b : CC) : Step := fun ih s h => (f.ev s).bind fun f => (isFn f).bind fun f =>
  (ih (.call f [.func (.yield h.next) #[] #[]] (h.new (.loop .ready none (zL L s) ⟨rid, L, ps, as, b⟩)))).bind fun o => (zhy o).bind fun x => (x.2.get h.next).bind (zfJ h.next s x.2)
def sExit (id : Nat) : Step := fun _ s h => some (.exit id s h)
def sRet : Step := fun _ s h => some (.ret s h)
def zb5 (c : CC) : Step :=
  CC.rec (motive := fun _ => Step) sSkip sOps sDraw sDraw2 (fun a L b _ _ => sSeq a L b) (fun c a b _ _ => sCond c a b) (fun id b _ => sBlock id b) (fun L b _ => sLoop L b) (fun rid L f ps as b _ _ => sRange rid L f ps as b) sExit sRet c
def retK (rs : List CR) : Out → Option Out
  | .nrm s h => resOf rs s h
  | .ret s h => resOf rs s h
  | _ => none
def zd6 (ih : IH) (cf : zr) (args : List Value) (h : H) : Option Out :=
  match cf.prim with
  | none => if Nat.ble args.length cf.ntmps then (ih (.code cf.body (zcl args 0 .nil) h)).bind (retK cf.results) else none
  | some p => (p args h).bind fun x => if Nat.ble h.next x.2.next then some (.val x.1 x.2) else none
def stOf : Option CC → LoopState
  | none => .ready
  | some _ => .done
def ze5 (l : Nat) (p : Option CC) (h : H) : IObj → Option Out
  | .loop _ _ sl rc => some (.val (.bool p.isNone) (h.put l (.loop (stOf p) p sl rc)))
  | _ => none
def zho (l : Nat) : Out → Option Out
  | .nrm _ h => (h.get l).bind (ze5 l none h)
  | .ret _ h => (h.get l).bind (ze5 l (some .ret) h)
  | .exit i _ h => (h.get l).bind (ze5 l (some (.exit i)) h)
  | _ => none
def zd7 (ih : IH) (l : Nat) (b : CC) (s : zf) (h : H) : IObj → Option Out
  | .loop .ready pend sl rc => (ih (.code b s (h.put l (.loop .busy pend sl rc)))).bind (zho l)
  | _ => none
def zhK (ih : IH) (l : Nat) (b : CC) : Out → Option Out
  | .nrm s h => (h.get l).bind (zd7 ih l b s h)
  | _ => none
def runRound (ih : IH) (l : Nat) (args : List Value) (h : H) : IObj → Option Out
  | .loop _ _ sl rc => (zdb rc.ps args (zL rc.L sl)).bind fun s => (ih (.code rc.as s h)).bind (zhK ih l rc.b)
  | _ => none
def zbc (F : FuncId → Option zr) (ih : IH) (args : List Value) (h : H) : Value → Option Out
  | .func (.func g) first captured => (F g).bind fun cf => zd6 ih cf (first.toList ++ args ++ captured.toList) h
  | .func (.yield l) first captured => if first.isEmpty && captured.isEmpty then (h.get l).bind (runRound ih l args h) else none
  | _ => none
def body (F : FuncId → Option zr) (ih : IH) (t : Task) : Option Out :=
  Task.rec (motive := fun _ => Option Out) (fun c s h => zb5 c ih s h) (fun f args h => zbc F ih args h f) t
def E (F : FuncId → Option zr) (n : Nat) : Task → Option Out := Nat.rec (motive := fun _ => Task → Option Out) (fun _ => none) (fun _ ih => body F ih) n
def progF (P : Program) (g : FuncId) : Option zr := (P.funcs[g]?).bind (zd P)
end
end Go.Ideal
namespace Go.Ideal
theorem zjE (n : Nat) : bitsF 0 n = [] := rfl
theorem zeo (f : Nat) : bitsF (f + 1) 0 = [] := rfl
theorem zb6 (f n : Nat) : bitsF (f + 1) (n + 1) = Nat.beq ((n + 1) % 2) 1 :: bitsF f ((n + 1) / 2) := rfl
theorem bitsF_inj : ∀ (f g m n : Nat), m ≤ f → n ≤ g → bitsF f m = bitsF g n → m = n := by
  intro f
  induction f with
  | zero =>
    intro g m n hm hn h
    obtain rfl : m = 0 := by omega
    cases n with
    | zero => rfl
    | succ n =>
      cases g with
      | zero => omega
      | succ g => rw [zjE, zb6] at h; cases h
  | succ f ih =>
    intro g m n hm hn h
    cases m with
    | zero =>
      rw [zeo] at h
      cases n with
      | zero => rfl
      | succ n => cases g with
        | zero => omega
        | succ g => rw [zb6] at h; cases h
    | succ m =>
      rw [zb6] at h
      cases g with
      | zero => rw [zjE] at h; cases h
      | succ g => cases n with
        | zero => rw [zeo] at h; cases h
        | succ n =>
          rw [zb6] at h
          injection h with h1 h2
          have h3 := ih g ((m + 1) / 2) ((n + 1) / 2) (by omega) (by omega) h2
          have e : ((m + 1) % 2 = 1) ↔ ((n + 1) % 2 = 1) := by
            constructor
            · intro e; have : Nat.beq ((n + 1) % 2) 1 = true := by rw [← h1]; exact (by simpa using e)
              exact Nat.eq_of_beq_eq_true this
            · intro e; have : Nat.beq ((m + 1) % 2) 1 = true := by rw [h1]; exact (by simpa using e)
              exact Nat.eq_of_beq_eq_true this
          omega
theorem bits_inj {m n : Nat} (h : bits m = bits n) : m = n := bitsF_inj m n m n (Nat.le_refl _) (Nat.le_refl _) h
@[simp] theorem PT.get_nil {α : Type} (p : List Bool) : (PT.nil : PT α).get p = none := by cases p <;> rfl
@[simp] theorem PT.get_node_nil {α : Type} (l r : PT α) (v : Option α) : (PT.node l v r).get [] = v := rfl
@[simp] theorem PT.get_node_true {α : Type} (l r : PT α) (v : Option α) (p : List Bool) : (PT.node l v r).get (true :: p) = r.get p := rfl
@[simp] theorem PT.get_node_false {α : Type} (l r : PT α) (v : Option α) (p : List Bool) : (PT.node l v r).get (false :: p) = l.get p := rfl
theorem PT.set_nil_nil {α : Type} (a : α) : (PT.nil : PT α).set [] a = .node .nil (some a) .nil := rfl
theorem PT.set_node_nil {α : Type} (l r : PT α) (v : Option α) (a : α) : (PT.node l v r).set [] a = .node l (some a) r := rfl
theorem PT.set_nil_true {α : Type} (p : List Bool) (a : α) : (PT.nil : PT α).set (true :: p) a = .node .nil none (PT.set .nil p a) := rfl
theorem PT.set_nil_false {α : Type} (p : List Bool) (a : α) : (PT.nil : PT α).set (false :: p) a = .node (PT.set .nil p a) none .nil := rfl
theorem PT.set_node_true {α : Type} (l r : PT α) (v : Option α) (p : List Bool) (a : α) : (PT.node l v r).set (true :: p) a = .node l v (r.set p a) := rfl
theorem PT.set_node_false {α : Type} (l r : PT α) (v : Option α) (p : List Bool) (a : α) : (PT.node l v r).set (false :: p) a = .node (l.set p a) v r := rfl
theorem PT.get_set_same {α : Type} (a : α) : ∀ (p : List Bool) (t : PT α), (t.set p a).get p = some a := by
  intro p
  induction p with
  | nil => intro t; cases t <;> rfl
  | cons b p ih => intro t; cases t <;> cases b <;> simp [PT.set_nil_true, PT.set_nil_false, PT.set_node_true, PT.set_node_false, ih]
theorem PT.get_set_ne {α : Type} (a : α) : ∀ (p q : List Bool) (t : PT α), p ≠ q → (t.set p a).get q = t.get q := by
  intro p
  induction p with
  | nil =>
    intro q t h
    cases q with
    | nil => exact absurd rfl h
    | cons c q => cases t <;> cases c <;> simp [PT.set_nil_nil, PT.set_node_nil]
  | cons b p ih =>
    intro q t h
    cases q with
    | nil => cases t <;> cases b <;> simp [PT.set_nil_true, PT.set_nil_false, PT.set_node_true, PT.set_node_false] <;> rfl
    | cons c q =>
      by_cases e : b = c
      · subst e
        have h' : p ≠ q := fun e => h (by rw [e])
        cases t <;> cases b <;> simp [PT.set_nil_true, PT.set_nil_false, PT.set_node_true, PT.set_node_false, ih _ _ h']
      · cases t <;> cases b <;> cases c <;> simp_all [PT.set_nil_true, PT.set_nil_false, PT.set_node_true, PT.set_node_false]
theorem PT.get_set_bits {α : Type} (t : PT α) (m n : Nat) (a : α) : (t.set (bits m) a).get (bits n) = if m = n then some a else t.get (bits n) := by
  by_cases e : m = n
  · subst e; rw [if_pos rfl, PT.get_set_same]
  · rw [if_neg e, PT.get_set_ne _ _ _ _ (fun h => e (bits_inj h))]
@[simp] theorem H.get_put (h : H) (i j : Nat) (o : IObj) : (h.put i o).get j = if i = j then some o else h.get j := PT.get_set_bits _ _ _ _
@[simp] theorem H.get_new (h : H) (j : Nat) (o : IObj) : (h.new o).get j = if h.next = j then some o else h.get j := PT.get_set_bits _ _ _ _
@[simp] theorem H.next_put (h : H) (i : Nat) (o : IObj) : (h.put i o).next = h.next := rfl
@[simp] theorem H.next_new (h : H) (o : IObj) : (h.new o).next = h.next + 1 := rfl
@[simp] theorem H.get_empty (j : Nat) : H.empty.get j = none := PT.get_nil _
theorem takeN_zero {α : Type} (l : List α) : zfA 0 l = some [] := rfl
theorem zhz {α : Type} (n : Nat) (a : α) (l : List α) : zfA (n + 1) (a :: l) = (zfA n l).map (a :: ·) := rfl
theorem ziW {α : Type} (n : Nat) : zfA (n + 1) ([] : List α) = none := rfl
theorem zfz {α : Type} : ∀ (n : Nat) (l : List α), zfA n l = if n ≤ l.length then some (l.take n) else none := by
  intro n
  induction n with
  | zero => intro l; simp [takeN_zero]
  | succ n ih =>
    intro l
    cases l with
    | nil => simp [ziW]
    | cons a l => rw [zhz, ih]; by_cases h : n ≤ l.length <;> simp [h]
theorem zfU {α : Type} : ∀ (n : Nat) (l : List α), zby n l = l.drop n := by
  intro n
  induction n with
  | zero => intro l; rfl
  | succ n ih =>
    intro l
    cases l with
    | nil => rfl
    | cons a l => show zby n l = _; rw [ih]; rfl
theorem ze0 : ∀ (cs : List Value) (o : Nat) (vs cs' : List Value), zE cs o vs = some cs' → cs'.length = cs.length := by
  intro cs
  induction cs with
  | nil => intro o vs cs' h; cases vs with
    | nil => simp [zE] at h; subst h; rfl
    | cons v vs => simp [zE] at h
  | cons c cs ih =>
    intro o vs cs' h
    cases vs with
    | nil => simp [zE] at h; subst h; rfl
    | cons v vs =>
      cases o with
      | zero =>
        simp only [zE, Option.map_eq_some_iff] at h
        obtain ⟨x, hx, rfl⟩ := h
        simp [ih _ _ _ hx]
      | succ o =>
        simp only [zE, Option.map_eq_some_iff] at h
        obtain ⟨x, hx, rfl⟩ := h
        simp [ih _ _ _ hx]
theorem zhx : ∀ (cs : List Value) (o : Nat) (vs cs' : List Value), zE cs o vs = some cs' → (vs = [] ∨ o + vs.length ≤ cs.length) ∧ ∀ j, cs'[j]? = if o ≤ j ∧ j < o + vs.length then vs[j - o]? else cs[j]? := by
  intro cs
  induction cs with
  | nil => intro o vs cs' h; cases vs with
    | nil => simp [zE] at h; subst h; exact ⟨.inl rfl, fun j => by simp⟩
    | cons v vs => simp [zE] at h
  | cons c cs ih =>
    intro o vs cs' h
    cases vs with
    | nil => simp [zE] at h; subst h; exact ⟨.inl rfl, fun j => by rw [if_neg (by simp)]⟩
    | cons v vs =>
      cases o with
      | zero =>
        simp only [zE, Option.map_eq_some_iff] at h
        obtain ⟨x, hx, rfl⟩ := h
        obtain ⟨h1, h2⟩ := ih _ _ _ hx
        refine ⟨.inr ?_, fun j => ?_⟩
        · rcases h1 with rfl | h1 <;> simp at * <;> omega
        · cases j with
          | zero => simp
          | succ j =>
            have := h2 j
            simp only [Nat.zero_le, true_and, Nat.zero_add, Nat.sub_zero, List.getElem?_cons_succ, List.length_cons, Nat.add_lt_add_iff_right] at this ⊢
            exact this
      | succ o =>
        simp only [zE, Option.map_eq_some_iff] at h
        obtain ⟨x, hx, rfl⟩ := h
        obtain ⟨h1, h2⟩ := ih _ _ _ hx
        refine ⟨.inr ?_, fun j => ?_⟩
        · rcases h1 with h1 | h1 <;> simp at * <;> omega
        · cases j with
          | zero => simp
          | succ j =>
            have := h2 j
            have e : (o + 1 ≤ j + 1 ∧ j + 1 < o + 1 + (v :: vs).length) ↔ (o ≤ j ∧ j < o + (v :: vs).length) := by omega
            simp only [List.getElem?_cons_succ, e, Nat.add_sub_add_right] at this ⊢
            exact this
structure RB where
  blk : Nat
  base : Nat
  csize : Nat
  esz : Nat
  ilen : Nat
  fix : Option Obj
abbrev Rho := Nat → Option RB
inductive VR (ρ : Rho) : Value → Value → Prop where
  | bool (b : Bool) : VR ρ (.bool b) (.bool b)
  | int (k : IntKind) (n : Int) : VR ρ (.int k n) (.int k n)
  | str (s : ByteArray) : VR ρ (.string s) (.string s)
  | ptrNil : VR ρ (.pointer none) (.pointer none)
  | ptr {i o : Nat} {R : RB} (h : ρ i = some R) : VR ρ (.pointer (some ⟨i, o, none⟩)) (.pointer (some ⟨R.blk, R.base + o, none⟩))
  | sliceNil : VR ρ (.slice none 0 0) (.slice none 0 0)
  | slice {i o len cap : Nat} {R : RB} (h : ρ i = some R) (hc : cap < zk) (hl : len ≤ cap) :
      VR ρ (.slice (some ⟨i, o, none⟩) len cap) (.slice (some ⟨R.blk, R.base + o, none⟩) len cap)
  | sliceO {i o len cap : Nat} {R : RB} (h : ρ i = some R) (he : 0 < R.esz) (hl : len ≤ cap) (hs : R.base + o + cap * R.esz ≤ R.csize) (hb : R.ilen ≤ o + cap * R.esz) :
      VR ρ (.slice (some ⟨i, o, none⟩) len zk) (.slice (some ⟨R.blk, R.base + o, none⟩) len cap)
  | sliceE {i o o' : Nat} {R : RB} (h : ρ i = some R) (he : 0 < R.esz) (hb : R.ilen ≤ o) :
      VR ρ (.slice (some ⟨i, o, none⟩) 0 zk) (.slice (some ⟨R.blk, o', none⟩) 0 0)
  | sliceD {i o : Nat} {ad : Addr} {R : RB} (h : ρ i = some R) (hm : R.csize < R.ilen) : VR ρ (.slice (some ⟨i, o, none⟩) 0 0) (.slice (some ad) 0 0)
  | mapNil : VR ρ (.map none) (.map none)
  | map {i : Nat} {R : RB} (h : ρ i = some R) : VR ρ (.map (some i)) (.map (some R.blk))
  | func (f : FuncId) {a b a' b' : Array Value} (ha : a.size = a'.size) (hb : b.size = b'.size)
      (ra : ∀ (j : Nat) x y, a[j]? = some x → a'[j]? = some y → VR ρ x y) (rb : ∀ (j : Nat) x y, b[j]? = some x → b'[j]? = some y → VR ρ x y) :
      VR ρ (.func (.func f) a b) (.func (.func f) a' b')
  | yield {i : Nat} {R : RB} (h : ρ i = some R) : VR ρ (.func (.yield i) #[] #[]) (.func (.yield R.blk) #[] #[])
  | nilFunc : VR ρ .nilFunc .nilFunc
  | agg {a a' : Array Value} (ha : a.size = a'.size) (ra : ∀ (j : Nat) x y, a[j]? = some x → a'[j]? = some y → VR ρ x y) : VR ρ (.agg a) (.agg a')
  | tuple {a a' : Array Value} (ha : a.size = a'.size) (ra : ∀ (j : Nat) x y, a[j]? = some x → a'[j]? = some y → VR ρ x y) : VR ρ (.tuple a) (.tuple a')
def zf4 (ρ σ : Rho) : Prop := ∀ i R, ρ i = some R → σ i = some R
theorem VR.mono {ρ σ : Rho} (hl : zf4 ρ σ) {v v' : Value} (h : VR ρ v v') : VR σ v v' := by
  induction h with
  | bool b => exact .bool b
  | int k n => exact .int k n
  | str s => exact .str s
  | ptrNil => exact .ptrNil
  | ptr h => exact .ptr (hl _ _ h)
  | sliceNil => exact .sliceNil
  | slice h hc hl' => exact .slice (hl _ _ h) hc hl'
  | sliceO h he hl' hs hb => exact .sliceO (hl _ _ h) he hl' hs hb
  | sliceE h he hb => exact .sliceE (hl _ _ h) he hb
  | sliceD h hm => exact .sliceD (hl _ _ h) hm
  | mapNil => exact .mapNil
  | map h => exact .map (hl _ _ h)
  | func f ha hb ra rb ih1 ih2 => exact .func f ha hb (fun j x y hx hy => ih1 j x y hx hy) (fun j x y hx hy => ih2 j x y hx hy)
  | yield h => exact .yield (hl _ _ h)
  | nilFunc => exact .nilFunc
  | agg ha ra ih => exact .agg ha (fun j x y hx hy => ih j x y hx hy)
  | tuple ha ra ih => exact .tuple ha (fun j x y hx hy => ih j x y hx hy)
def VRL (ρ : Rho) (xs ys : List Value) : Prop := xs.length = ys.length ∧ ∀ (j : Nat) x y, xs[j]? = some x → ys[j]? = some y → VR ρ x y
theorem VRL.nil (ρ : Rho) : VRL ρ [] [] := ⟨rfl, by simp⟩
theorem VRL.cons {ρ : Rho} {x y : Value} {xs ys : List Value} (h : VR ρ x y) (hs : VRL ρ xs ys) : VRL ρ (x :: xs) (y :: ys) := by
  refine ⟨by simp [hs.1], fun j a b ha hb => ?_⟩
  cases j with
  | zero => simp at ha hb; subst ha hb; exact h
  | succ j => simp at ha hb; exact hs.2 j a b ha hb
theorem VRL.head {ρ : Rho} {x y : Value} {xs ys : List Value} (h : VRL ρ (x :: xs) (y :: ys)) : VR ρ x y := h.2 0 x y rfl rfl
theorem VRL.tail {ρ : Rho} {x y : Value} {xs ys : List Value} (h : VRL ρ (x :: xs) (y :: ys)) : VRL ρ xs ys :=
  ⟨by simpa using h.1, fun j a b ha hb => h.2 (j + 1) a b (by simpa using ha) (by simpa using hb)⟩
theorem VRL.nil_left {ρ : Rho} {ys : List Value} (h : VRL ρ [] ys) : ys = [] := by cases ys with | nil => rfl | cons y ys => simp [VRL] at h
theorem VRL.cons_left {ρ : Rho} {x : Value} {xs ys : List Value} (h : VRL ρ (x :: xs) ys) : ∃ y ys', ys = y :: ys' ∧ VR ρ x y ∧ VRL ρ xs ys' := by
  cases ys with
  | nil => simp [VRL] at h
  | cons y ys => exact ⟨y, ys, rfl, h.head, h.tail⟩
theorem VRL.append {ρ : Rho} {xs ys : List Value} (h : VRL ρ xs ys) : ∀ {as bs : List Value}, VRL ρ as bs → VRL ρ (xs ++ as) (ys ++ bs) := by
  induction xs generalizing ys with
  | nil => intro as bs hs; rw [h.nil_left]; exact hs
  | cons x xs ih => intro as bs hs; obtain ⟨y, ys', rfl, h1, h2⟩ := h.cons_left; exact .cons h1 (ih h2 hs)
theorem VRL.take {ρ : Rho} {xs ys : List Value} (h : VRL ρ xs ys) (n : Nat) : VRL ρ (xs.take n) (ys.take n) := by
  refine ⟨by simp [h.1], fun j x y hx hy => ?_⟩
  rw [List.getElem?_take] at hx hy
  split at hx
  · rename_i hlt; rw [if_pos hlt] at hy; exact h.2 j x y hx hy
  · cases hx
theorem VRL.drop {ρ : Rho} {xs ys : List Value} (h : VRL ρ xs ys) (n : Nat) : VRL ρ (xs.drop n) (ys.drop n) := by
  refine ⟨by simp [h.1], fun j x y hx hy => ?_⟩
  rw [List.getElem?_drop] at hx hy
  exact h.2 _ x y hx hy
theorem VRL.get {ρ : Rho} {xs ys : List Value} (h : VRL ρ xs ys) {j : Nat} {x : Value} (hx : xs[j]? = some x) : ∃ y, ys[j]? = some y ∧ VR ρ x y := by
  have hlt : j < ys.length := by rw [← h.1]; exact (List.getElem?_eq_some_iff.1 hx).1
  exact ⟨ys[j], List.getElem?_eq_getElem hlt, h.2 j x _ hx (List.getElem?_eq_getElem hlt)⟩
theorem VRL.mono {ρ σ : Rho} (hl : zf4 ρ σ) {xs ys : List Value} (h : VRL ρ xs ys) : VRL σ xs ys := ⟨h.1, fun j x y hx hy => (h.2 j x y hx hy).mono hl⟩
theorem VRL.of_agg {ρ : Rho} {a a' : Array Value} (h : VR ρ (.agg a) (.agg a')) : VRL ρ a.toList a'.toList := by
  cases h with | agg ha ra => exact ⟨by simpa using ha, fun j x y hx hy => ra j x y (by simpa using hx) (by simpa using hy)⟩
theorem VR.agg_of {ρ : Rho} {xs ys : List Value} (h : VRL ρ xs ys) : VR ρ (.agg ⟨xs⟩) (.agg ⟨ys⟩) := .agg (by simpa using h.1) (fun j x y hx hy => h.2 j x y (by simpa using hx) (by simpa using hy))
theorem VR.tuple_of {ρ : Rho} {xs ys : List Value} (h : VRL ρ xs ys) : VR ρ (.tuple ⟨xs⟩) (.tuple ⟨ys⟩) := .tuple (by simpa using h.1) (fun j x y hx hy => h.2 j x y (by simpa using hx) (by simpa using hy))
theorem cellsL_eq (v : Value) : zj v = v.cells.toList := by cases v <;> rfl
theorem VR.cells {ρ : Rho} {v v' : Value} (h : VR ρ v v') : VRL ρ (zj v) v'.cells.toList := by
  cases h with
  | agg ha ra => exact VRL.of_agg (.agg ha ra)
  | bool b => exact .cons (.bool b) (.nil _)
  | int k n => exact .cons (.int k n) (.nil _)
  | str s => exact .cons (.str s) (.nil _)
  | ptrNil => exact .cons .ptrNil (.nil _)
  | ptr h => exact .cons (.ptr h) (.nil _)
  | sliceNil => exact .cons .sliceNil (.nil _)
  | slice h hc hl => exact .cons (.slice h hc hl) (.nil _)
  | sliceO h he hl hs hb => exact .cons (.sliceO h he hl hs hb) (.nil _)
  | sliceE h he hb => exact .cons (.sliceE h he hb) (.nil _)
  | sliceD h hm => exact .cons (.sliceD h hm) (.nil _)
  | mapNil => exact .cons .mapNil (.nil _)
  | map h => exact .cons (.map h) (.nil _)
  | func f ha hb ra rb => exact .cons (.func f ha hb ra rb) (.nil _)
  | yield h => exact .cons (.yield h) (.nil _)
  | nilFunc => exact .cons .nilFunc (.nil _)
  | tuple ha ra => exact .cons (.tuple ha ra) (.nil _)
def SR (ρ : Rho) (s : zf) (tmps : Array Value) : Prop := ∀ (t : Nat) v, s.get (bits t) = some v → ∃ v', tmps[t]? = some v' ∧ VR ρ v v'
def PendR : Option CC → Option Code → Prop
  | none, none => True
  | some .ret, some .ret => True
  | some (.exit i), some (.exit j) => i = j
  | _, _ => False
def FixOk (R : RB) (esz : Nat) (o : Obj) (fr : Nat × Nat) : Prop := (R.fix = none ∧ fr = (0, 0)) ∨ (R.fix = some o ∧ esz = roE)
def Calm (o : Obj) : Prop := ∀ c t fr, o = .cells c t fr → fr = (0, 0)
theorem zbx (c : Array Value) (t : TypeId) : Calm (.cells c t) := fun _ _ _ h => by cases h; rfl
theorem zfV (c : Array MapEntry) (t : Nat) : Calm (.map c t) := fun _ _ _ h => by cases h
theorem zfW (l : Loop) : Calm (.loop l) := fun _ _ _ h => by cases h
theorem zdO (l : Option (List Deferred)) : Calm (.deferred l) := fun _ _ _ h => by cases h
def OR (P : Program) (ρ : Rho) (w : World) (R : RB) : IObj → Prop
  | .cells cs esz => R.esz = esz ∧ R.ilen = cs.length ∧ ∃ c t fr, w.heap[R.blk]? = some (.cells c t fr) ∧ FixOk R esz (.cells c t fr) fr ∧ c.size = R.csize ∧ R.base + cs.length ≤ c.size ∧
      ∀ (j : Nat) v, cs[j]? = some v → ∃ v', c[R.base + j]? = some v' ∧ (v = poison ∨ VR ρ v v')
  | .map es clock => ∃ es' : Array MapEntry, w.heap[R.blk]? = some (.map es' clock) ∧ es.length = es'.size ∧
      ∀ (j : Nat) e, es[j]? = some e → ∃ e', es'[j]? = some e' ∧ VR ρ e.1 e'.key ∧ VR ρ e.2.1 e'.val ∧ e'.born = e.2.2
  | .loop st pend sl rc => ∃ r : Loop, w.heap[R.blk]? = some (.loop r) ∧ r.state = st ∧ PendR pend r.pending ∧ SR ρ sl r.tmps ∧ rc.ps = r.params.toList.map bits ∧
      (∀ t ∈ r.params.toList, t < r.tmps.size) ∧ zx P r.tmps.size r.assign = some (zT rc.as) ∧ zx P r.tmps.size r.body = some (zT rc.b)
  | .dead => True
def zgw (h : H) (i : Nat) : Prop := ∃ o, h.get i = some o ∧ o ≠ .dead
structure HR (P : Program) (ρ : Rho) (h : H) (w : World) : Prop where
  obj : ∀ i R o, ρ i = some R → h.get i = some o → OR P ρ w R o
  nxt : ∀ i, h.next ≤ i → ρ i = none ∧ h.get i = none
  sep : ∀ i j R S, ρ i = some R → ρ j = some S → zgw h i → zgw h j → R.blk = S.blk → i = j
  blk : ∀ i R, ρ i = some R → R.blk < w.heap.size
structure Ext (ρ : Rho) (w : World) (σ : Rho) (w' : World) : Prop where
  le : zf4 ρ σ
  size : w.heap.size ≤ w'.heap.size
  fresh : ∀ i R, σ i = some R → (∃ j S, ρ j = some S ∧ S.blk = R.blk) ∨ w.heap.size ≤ R.blk
  frame : ∀ B : Nat, B < w.heap.size → (∀ i R, ρ i = some R → R.blk ≠ B) → w'.heap[B]? = w.heap[B]?
  loops : ∀ (B : Nat) (r : Loop), w.heap[B]? = some (Obj.loop r) → ∃ r' : Loop, w'.heap[B]? = some (Obj.loop r') ∧ r'.defers = r.defers
  os : w'.os = w.os
  out : w'.output = w.output
  froz : ∀ a : Addr, a.block < w.heap.size → w'.frozen? a = w.frozen? a
  td : w'.tape = w.tape ∧ w.drawn ≤ w'.drawn
theorem Ext.refl (ρ : Rho) (w : World) : Ext ρ w ρ w := ⟨fun _ _ h => h, Nat.le_refl _, fun i R h => .inl ⟨i, R, h, rfl⟩, fun _ _ _ => rfl, fun _ r h => ⟨r, h, rfl⟩, rfl, rfl, fun _ _ => rfl, ⟨rfl, Nat.le_refl _⟩⟩
theorem Ext.trans {ρ σ τ : Rho} {w w' w'' : World} (h : Ext ρ w σ w') (k : Ext σ w' τ w'') : Ext ρ w τ w'' where
  le := fun i R hi => k.le i R (h.le i R hi)
  size := Nat.le_trans h.size k.size
  fresh := fun i R hi => by
    rcases k.fresh i R hi with ⟨j, S, hj, hs⟩ | hb
    · rcases h.fresh j S hj with ⟨l, T, hl, ht⟩ | hb
      · exact .inl ⟨l, T, hl, ht.trans hs⟩
      · exact .inr (hs ▸ hb)
    · exact .inr (Nat.le_trans h.size hb)
  frame := fun B hB hn => by
    rw [k.frame B (Nat.lt_of_lt_of_le hB h.size) ?_, h.frame B hB hn]
    intro i R hi e
    rcases h.fresh i R hi with ⟨j, S, hj, hs⟩ | hb
    · exact hn j S hj (hs.trans e)
    · omega
  loops := fun B r hr => by
    obtain ⟨r', h1, h2⟩ := h.loops B r hr
    obtain ⟨r'', h3, h4⟩ := k.loops B r' h1
    exact ⟨r'', h3, h4.trans h2⟩
  os := k.os.trans h.os
  out := k.out.trans h.out
  froz := fun a ha => (k.froz a (Nat.lt_of_lt_of_le ha h.size)).trans (h.froz a ha)
  td := ⟨k.td.1.trans h.td.1, Nat.le_trans h.td.2 k.td.2⟩
theorem SR.mono {ρ σ : Rho} (hl : zf4 ρ σ) {s : zf} {tmps : Array Value} (h : SR ρ s tmps) : SR σ s tmps :=
  fun t v hv => let ⟨v', h1, h2⟩ := h t v hv; ⟨v', h1, h2.mono hl⟩
theorem SR.set {ρ : Rho} {s : zf} {tmps : Array Value} (h : SR ρ s tmps) {t : Nat} (ht : t < tmps.size) {v v' : Value} (hv : VR ρ v v') : SR ρ (s.set (bits t) v) (tmps.setIfInBounds t v') := by
  intro u x hx
  rw [PT.get_set_bits] at hx
  by_cases e : t = u
  · subst e; rw [if_pos rfl] at hx; cases hx
    exact ⟨v', by simp [ht], hv⟩
  · rw [if_neg e] at hx
    obtain ⟨y, hy, hr⟩ := h u x hx
    exact ⟨y, by rw [Array.getElem?_setIfInBounds, if_neg e]; exact hy, hr⟩
theorem zbU (p : List Bool) (ps : List (List Bool)) (s : zf) : zL (p :: ps) s = match s.get p with | some v => (zL ps s).set p v | none => zL ps s := rfl
theorem zcU (ps : List (List Bool)) (s : zf) (p : List Bool) : (zL ps s).get p = if p ∈ ps then s.get p else none := by
  induction ps with
  | nil => exact PT.get_nil _
  | cons q ps ih =>
    rw [zbU]
    by_cases hq : q = p
    · subst hq
      cases hg : s.get q with
      | none => rw [ih]; simp [hg]
      | some v => simp [PT.get_set_same]
    · have hne : p ≠ q := fun h => hq h.symm
      cases hg : s.get q with
      | none => rw [ih]; simp [hne]
      | some v => dsimp only; rw [PT.get_set_ne _ _ _ _ hq, ih]; simp [hne]
theorem SR.keep {ρ : Rho} {s : zf} {tmps : Array Value} (h : SR ρ s tmps) (L : List (List Bool)) : SR ρ (zL L s) tmps := by
  intro t v hv
  rw [zcU] at hv
  split at hv
  · exact h t v hv
  · cases hv
end Go.Ideal
namespace Go.Ideal
variable {P : Program}
def upd (ρ : Rho) (i : Nat) (R : RB) : Rho := fun j => if j = i then some R else ρ j
theorem zV (ρ : Rho) (i : Nat) (R : RB) : upd ρ i R i = some R := by simp [upd]
theorem zdS {ρ : Rho} {i : Nat} (R : RB) (h : ρ i = none) : zf4 ρ (upd ρ i R) := by
  intro j S hj
  by_cases e : j = i
  · subst e; rw [h] at hj; cases hj
  · simp [upd, e, hj]
theorem OR.mono {ρ σ : Rho} {w w' : World} {R : RB} {o : IObj} (h : OR P ρ w R o) (hl : zf4 ρ σ) (hw : w'.heap[R.blk]? = w.heap[R.blk]?) : OR P σ w' R o := by
  cases o with
  | cells cs esz =>
    obtain ⟨h1, h2, c, t, fr, h3, h7, h4, h5, h6⟩ := h
    exact ⟨h1, h2, c, t, fr, hw.trans h3, h7, h4, h5, fun j v hj => let ⟨v', a, b⟩ := h6 j v hj; ⟨v', a, b.imp id (·.mono hl)⟩⟩
  | map es clock =>
    obtain ⟨es', h1, h2, h3⟩ := h
    exact ⟨es', hw.trans h1, h2, fun j e hj => let ⟨e', a, b, c, d⟩ := h3 j e hj; ⟨e', a, b.mono hl, c.mono hl, d⟩⟩
  | loop st pend sl rc =>
    obtain ⟨r, h1, h2, h3, h4, h5⟩ := h
    exact ⟨r, hw.trans h1, h2, h3, h4.mono hl, h5⟩
  | dead => trivial
theorem zZ {w : World} {o : Obj} {B : Nat} (h : B < w.heap.size) : (w.alloc o).heap[B]? = w.heap[B]? := by
  show (w.heap.push o)[B]? = _
  rw [Array.getElem?_push, if_neg (Nat.ne_of_lt h)]
theorem zbJ (w : World) (o : Obj) : (w.alloc o).heap[w.heap.size]? = some o := by
  show (w.heap.push o)[w.heap.size]? = _
  rw [Array.getElem?_push, if_pos rfl]
theorem zgj {w : World} {o : Obj} (hc : Calm o) (a : Addr) : (w.alloc o).frozen? a = w.frozen? a := by
  unfold World.frozen?
  by_cases h : a.block = w.heap.size
  · rw [h, zbJ]
    have e : w.heap[w.heap.size]? = none := by simp
    rw [e]
    cases o with
    | cells c t fr => rw [hc c t fr rfl]; simp
    | _ => rfl
  · have e : (w.alloc o).heap[a.block]? = w.heap[a.block]? := by
      show (w.heap.push o)[a.block]? = _
      rw [Array.getElem?_push, if_neg h]
    rw [e]
theorem froz_put {w : World} {B : Nat} {o o0 : Obj} (hw : w.heap[B]? = some o0) (h0 : Calm o0) (hc : Calm o) (a : Addr) : World.frozen? { w with heap := w.heap.setIfInBounds B o } a = w.frozen? a := by
  unfold World.frozen?
  have hlt := (Array.getElem?_eq_some_iff.1 hw).1
  by_cases h : a.block = B
  · have e : (w.heap.setIfInBounds B o)[a.block]? = some o := by rw [h]; simp [hlt]
    have e0 : w.heap[a.block]? = some o0 := by rw [h]; exact hw
    simp only [e, e0]
    cases o with
    | cells c t fr =>
      rw [hc c t fr rfl]
      cases o0 with
      | cells c0 t0 fr0 => rw [h0 c0 t0 fr0 rfl]
      | _ => simp
    | _ =>
      cases o0 with
      | cells c0 t0 fr0 => rw [h0 c0 t0 fr0 rfl]; simp
      | _ => rfl
  · have e : (w.heap.setIfInBounds B o)[a.block]? = w.heap[a.block]? := by rw [Array.getElem?_setIfInBounds, if_neg (fun e => h e.symm)]
    simp only [e]
theorem HR.newIdeal {ρ : Rho} {h : H} {w : World} (hr : HR P ρ h w) (io : IObj) : HR P ρ (h.new io) w where
  obj := fun i R o hi ho => by
    rw [H.get_new] at ho
    by_cases e : h.next = i
    · subst e; rw [(hr.nxt _ (Nat.le_refl _)).1] at hi; cases hi
    · rw [if_neg e] at ho; exact hr.obj i R o hi ho
  nxt := fun i hi => by
    rw [H.next_new] at hi
    rw [H.get_new, if_neg (by omega)]
    exact hr.nxt i (by omega)
  sep := fun i j R S hi hj ai aj e => by
    have k : ∀ i R, ρ i = some R → zgw (h.new io) i → zgw h i := by
      intro i R hi ⟨o, ho, hd⟩
      rw [H.get_new] at ho
      by_cases e : h.next = i
      · subst e; rw [(hr.nxt _ (Nat.le_refl _)).1] at hi; cases hi
      · rw [if_neg e] at ho; exact ⟨o, ho, hd⟩
    exact hr.sep i j R S hi hj (k i R hi ai) (k j S hj aj) e
  blk := hr.blk
theorem HR.mapNew {ρ : Rho} {h : H} {w : World} (hr : HR P ρ h w) {i : Nat} {R : RB} {io : IObj} {o : Obj} (hi : ρ i = none) (hlt : i < h.next) (hg : h.get i = some io)
    (hb : R.blk = w.heap.size) (hcalm : Calm o) (ho : OR P (upd ρ i R) (w.alloc o) R io) : HR P (upd ρ i R) h (w.alloc o) ∧ Ext ρ w (upd ρ i R) (w.alloc o) := by
  refine ⟨⟨fun j S o' hj ho' => ?_, fun j hj => ?_, fun j k S T hj hk aj ak e => ?_, fun j S hj => ?_⟩, ⟨zdS R hi, by simp, fun j S hj => ?_, fun B hB hn => zZ hB, fun B r hr' => ⟨r, ?_, rfl⟩, rfl, rfl, fun a _ => zgj hcalm a, ⟨rfl, Nat.le_refl _⟩⟩⟩
  · by_cases e : j = i
    · subst e; rw [zV] at hj; cases hj; rw [hg] at ho'; cases ho'; exact ho
    · simp only [upd, e, if_false] at hj
      exact (hr.obj j S o' hj ho').mono (zdS R hi) (zZ (hr.blk j S hj))
  · have := hr.nxt j hj
    exact ⟨by simp only [upd]; rw [if_neg (by omega)]; exact this.1, this.2⟩
  · by_cases ej : j = i
    · subst ej
      rw [zV] at hj; cases hj
      by_cases ek : k = j
      · exact ek.symm
      · simp only [upd, ek, if_false] at hk
        have := hr.blk k T hk; omega
    · simp only [upd, ej, if_false] at hj
      by_cases ek : k = i
      · subst ek; rw [zV] at hk; cases hk
        have := hr.blk j S hj; omega
      · simp only [upd, ek, if_false] at hk
        exact hr.sep j k S T hj hk aj ak e
  · by_cases e : j = i
    · subst e; rw [zV] at hj; cases hj; simp [hb]
    · simp only [upd, e, if_false] at hj
      have := hr.blk j S hj; simp; omega
  · by_cases e : j = i
    · subst e; rw [zV] at hj; cases hj; exact .inr (by omega)
    · simp only [upd, e, if_false] at hj; exact .inl ⟨j, S, hj, rfl⟩
  · rw [zZ (Array.getElem?_eq_some_iff.1 hr').1]; exact hr'
theorem HR.new {ρ : Rho} {h : H} {w : World} (hr : HR P ρ h w) {R : RB} {io : IObj} {o : Obj} (hb : R.blk = w.heap.size) (hcalm : Calm o) (ho : OR P (upd ρ h.next R) (w.alloc o) R io) :
    HR P (upd ρ h.next R) (h.new io) (w.alloc o) ∧ Ext ρ w (upd ρ h.next R) (w.alloc o) :=
  (hr.newIdeal io).mapNew (hr.nxt _ (Nat.le_refl _)).1 (by simp) (by simp) hb hcalm ho
theorem OR.newCells {ρ : Rho} {w : World} {R : RB} {cs : List Value} {esz : Nat} {c : Array Value} (t : TypeId) (hb : R.blk = w.heap.size) (h1 : R.esz = esz) (h2 : R.ilen = cs.length) (h0 : R.base = 0) (hf : R.fix = none)
    (h3 : c.size = R.csize) (h4 : cs.length ≤ c.size) (hv : VRL ρ cs (c.toList.take cs.length)) : OR P ρ (w.alloc (.cells c t)) R (.cells cs esz) := by
  refine ⟨h1, h2, c, t, _, by rw [hb]; exact zbJ _ _, .inl ⟨hf, rfl⟩, h3, by rw [h0]; omega, fun j v hj => ?_⟩
  obtain ⟨v', hv', hr⟩ := hv.get hj
  rw [List.getElem?_take] at hv'
  split at hv'
  · exact ⟨v', by rw [h0, Nat.zero_add]; simpa using hv', .inr hr⟩
  · cases hv'
theorem HR.newRow {ρ : Rho} {h : H} {w : World} (hr : HR P ρ h w) {cs : List Value} {c : Array Value} (t : TypeId) (hv : VRL ρ cs c.toList) :
    ∃ R, R.blk = w.heap.size ∧ R.base = 0 ∧ HR P (upd ρ h.next R) (h.new (.cells cs 0)) (w.alloc (.cells c t)) ∧ Ext ρ w (upd ρ h.next R) (w.alloc (.cells c t)) := by
  refine ⟨⟨w.heap.size, 0, c.size, 0, cs.length, none⟩, rfl, rfl, hr.new rfl (zbx _ _) ?_⟩
  have hl : cs.length = c.size := by have := hv.1; simpa using this
  exact OR.newCells t rfl rfl rfl rfl rfl rfl (by omega) (by rw [List.take_of_length_le (by simp [hl])]; exact hv.mono (zdS _ (hr.nxt _ (Nat.le_refl _)).1))
theorem HR.drew {ρ : Rho} {h : H} {w : World} (hr : HR P ρ h w) : HR P ρ h w.drew :=
  ⟨fun i R o hi ho => (hr.obj i R o hi ho).mono (fun _ _ h => h) rfl, hr.nxt, hr.sep, hr.blk⟩
theorem Ext.drew (ρ : Rho) (w : World) : Ext ρ w ρ w.drew :=
  ⟨fun _ _ h => h, Nat.le_refl _, fun i R h => .inl ⟨i, R, h, rfl⟩, fun _ _ _ => rfl, fun _ r h => ⟨r, h, rfl⟩, rfl, rfl, fun _ _ => rfl, ⟨rfl, Nat.le_succ _⟩⟩
theorem HR.putBoth {ρ : Rho} {h : H} {w : World} (hr : HR P ρ h w) {i : Nat} {R : RB} {io io0 : IObj} {o o0 : Obj} (hi : ρ i = some R) (hg : h.get i = some io0) (hd : io0 ≠ .dead)
    (hw : w.heap[R.blk]? = some o0) (hl : ∀ r : Loop, o0 = .loop r → ∃ r' : Loop, o = .loop r' ∧ r'.defers = r.defers) (hc0 : Calm o0) (hc : Calm o)
    (ho : OR P ρ { w with heap := w.heap.setIfInBounds R.blk o } R io) :
    HR P ρ (h.put i io) { w with heap := w.heap.setIfInBounds R.blk o } ∧ Ext ρ w ρ { w with heap := w.heap.setIfInBounds R.blk o } := by
  have hlt := hr.blk i R hi
  have other : ∀ B, B ≠ R.blk → (w.heap.setIfInBounds R.blk o)[B]? = w.heap[B]? := fun B hB => by rw [Array.getElem?_setIfInBounds, if_neg (fun e => hB e.symm)]
  have ali : zgw h i := ⟨io0, hg, hd⟩
  refine ⟨⟨fun j S o' hj ho' => ?_, fun j hj => ?_, fun j k S T hj hk aj ak e => ?_, fun j S hj => by have := hr.blk j S hj; simpa using this⟩, ⟨fun _ _ h => h, by simp, fun j S hj => .inl ⟨j, S, hj, rfl⟩, fun B hB hn => other B (fun e => hn i R hi e.symm), fun B r hrr => ?_, rfl, rfl, fun a _ => froz_put hw hc0 hc a, ⟨rfl, Nat.le_refl _⟩⟩⟩
  · rw [H.get_put] at ho'
    by_cases e : i = j
    · subst e; rw [if_pos rfl] at ho'; cases ho'; rw [hi] at hj; cases hj; exact ho
    · rw [if_neg e] at ho'
      by_cases ed : o' = .dead
      · subst ed; trivial
      · refine (hr.obj j S o' hj ho').mono (fun _ _ h => h) (other _ ?_)
        intro eb
        exact e (hr.sep i j R S hi hj ali ⟨o', ho', ed⟩ eb.symm)
  · have hn : i ≠ j := by
      intro e; subst e
      have := (hr.nxt i hj).1; rw [hi] at this; cases this
    rw [H.next_put] at hj
    rw [H.get_put, if_neg hn]; exact hr.nxt j hj
  · have k0 : ∀ l, zgw (h.put i io) l → zgw h l := by
      intro l ⟨x, hx, hxd⟩
      rw [H.get_put] at hx
      by_cases e : i = l
      · subst e; exact ali
      · rw [if_neg e] at hx; exact ⟨x, hx, hxd⟩
    exact hr.sep j k S T hj hk (k0 j aj) (k0 k ak) e
  · by_cases e : B = R.blk
    · subst e
      rw [hw] at hrr; cases hrr
      obtain ⟨r', h1, h2⟩ := hl r rfl
      subst h1
      exact ⟨r', by simp [hlt], h2⟩
    · exact ⟨r, by rw [other B e]; exact hrr, rfl⟩
theorem HR.kill {ρ : Rho} {h : H} {w : World} (hr : HR P ρ h w) {i : Nat} (hn : i < h.next) : HR P ρ (h.put i .dead) w where
  obj := fun j R o hj ho => by
    rw [H.get_put] at ho
    by_cases e : i = j
    · rw [if_pos e] at ho; cases ho; trivial
    · rw [if_neg e] at ho; exact hr.obj j R o hj ho
  nxt := fun j hj => by
    rw [H.next_put] at hj
    rw [H.get_put, if_neg (by omega)]; exact hr.nxt j hj
  sep := fun j k R S hj hk aj ak e => by
    have k0 : ∀ l, zgw (h.put i .dead) l → zgw h l := by
      intro l ⟨x, hx, hxd⟩
      rw [H.get_put] at hx
      by_cases e : i = l
      · rw [if_pos e] at hx; cases hx; exact absurd rfl hxd
      · rw [if_neg e] at hx; exact ⟨x, hx, hxd⟩
    exact hr.sep j k R S hj hk (k0 j aj) (k0 k ak) e
  blk := hr.blk
theorem HR.lt {ρ : Rho} {h : H} {w : World} (hr : HR P ρ h w) {i : Nat} {o : IObj} (hg : h.get i = some o) : i < h.next := by
  by_cases hn : h.next ≤ i
  · rw [(hr.nxt i hn).2] at hg; cases hg
  · omega
theorem HR.garbage {ρ : Rho} {h : H} {w : World} (hr : HR P ρ h w) {o : Obj} (hcalm : Calm o) : HR P ρ h (w.alloc o) ∧ Ext ρ w ρ (w.alloc o) :=
  ⟨⟨fun i R o' hi ho => (hr.obj i R o' hi ho).mono (fun _ _ h => h) (zZ (hr.blk i R hi)), hr.nxt, hr.sep, fun i R hi => by have := hr.blk i R hi; simp; omega⟩,
   ⟨fun _ _ h => h, by simp, fun i R h => .inl ⟨i, R, h, rfl⟩, fun B hB _ => zZ hB, fun B r hr' => ⟨r, by rw [zZ (Array.getElem?_eq_some_iff.1 hr').1]; exact hr', rfl⟩, rfl, rfl, fun a _ => zgj hcalm a, ⟨rfl, Nat.le_refl _⟩⟩⟩
theorem HR.shut {ρ σ : Rho} {h : H} {w w' : World} (hr : HR P σ h w') (he : Ext ρ w σ w') {D : Nat} {o : Obj} (hcalm : Calm o) {o0 : Obj} (ho0 : w'.heap[D]? = some o0) (hc0 : Calm o0) (hD : w.heap.size ≤ D) (hn : ∀ i R, σ i = some R → R.blk ≠ D) :
    HR P σ h (w'.putObj D o) ∧ Ext ρ w σ (w'.putObj D o) := by
  have other : ∀ B, B ≠ D → (w'.putObj D o).heap[B]? = w'.heap[B]? := fun B hB => World.putObj_heap_other hB
  refine ⟨⟨fun i R o' hi ho => (hr.obj i R o' hi ho).mono (fun _ _ h => h) (other _ (hn i R hi)), hr.nxt, hr.sep, fun i R hi => by have := hr.blk i R hi; simpa using this⟩,
   ⟨he.le, by have := he.size; simpa using this, he.fresh, fun B hB h => by rw [other B (by omega)]; exact he.frame B hB h, fun B r hr' => ?_, he.os, he.out, fun a ha => (froz_put ho0 hc0 hcalm a).trans (he.froz a ha), he.td⟩⟩
  have hB := (Array.getElem?_eq_some_iff.1 hr').1
  rw [other B (by omega)]
  exact he.loops B r hr'
end Go.Ideal
namespace Go.Ideal
variable {P : Program}
theorem aof {α β : Type} {f : α → Option β} {o : Option α} {b : β} (h : o.bind f = some b) : ∃ a, o = some a ∧ f a = some b := Option.bind_eq_some_iff.1 h
theorem amf {α β : Type} {f : α → β} {o : Option α} {b : β} (h : o.map f = some b) : ∃ a, o = some a ∧ f a = b := Option.map_eq_some_iff.1 h
theorem VR.refl1 {ρ : Rho} {v : Value} (h : zdN v = true) : VR ρ v v := by
  unfold zdN at h
  split at h
  · exact .bool _
  · exact .int _ _
  · exact .str _
  · exact .ptrNil
  · exact .sliceNil
  · exact .mapNil
  · exact .nilFunc
  · cases h
theorem VRL.refl1 {ρ : Rho} {l : List Value} (h : ∀ v ∈ l, zdN v = true) : VRL ρ l l :=
  ⟨rfl, fun j x y hx hy => by rw [hx] at hy; cases hy; exact VR.refl1 (h x (List.mem_of_getElem? hx))⟩
theorem VR.refl {ρ : Rho} {v : Value} (h : zif v = true) : VR ρ v v := by
  unfold zif at h
  split at h
  · rename_i cs
    have hl : VRL ρ cs.toList cs.toList := VRL.refl1 (fun v hv => List.all_eq_true.1 h v hv)
    exact VR.agg_of hl
  · exact VR.refl1 h
theorem zbz {x : Operand} {c : CO} (hc : co x = some c) {ρ : Rho} {s : zf} {a : Act} (hs : SR ρ s a.tmps) {v : Value} (hv : c.ev s = some v) : VR ρ v (a.eval x) := by
  cases x with
  | tmp t =>
    simp only [co, Option.some.injEq] at hc; subst hc
    obtain ⟨v', h1, h2⟩ := hs t v hv
    have : a.eval (.tmp t) = v' := by show a.tmps.getD t undef = v'; rw [Array.getD_eq_getD_getElem?, h1]; rfl
    rw [this]; exact h2
  | const u =>
    simp only [co] at hc
    split at hc
    · rename_i hk
      cases hc
      have e : u = v := by simpa [CO.ev] using hv
      subst e
      exact VR.refl hk
    · cases hc
  | global g => cases hc
  | func f =>
    simp only [co, Option.some.injEq] at hc; subst hc
    have e : Value.func (.func f) #[] #[] = v := by simpa [CO.ev] using hv
    subst e
    exact .func f rfl rfl (by simp) (by simp)
theorem evL_nil (s : zf) : evL s [] = some [] := rfl
theorem evL_cons (s : zf) (x : CO) (l : List CO) : evL s (x :: l) = (x.ev s).bind fun v => (evL s l).map (v :: ·) := rfl
theorem coL_ev {ρ : Rho} {s : zf} {a : Act} (hs : SR ρ s a.tmps) : ∀ {xs : List Operand} {cs : List CO} {vs : List Value}, allO co xs = some cs → evL s cs = some vs → VRL ρ vs (xs.map a.eval)
  | [], cs, vs, h, hv => by cases h; cases hv; exact .nil _
  | x :: xs, cs, vs, h, hv => by
    obtain ⟨c, hc, h⟩ := aof h
    obtain ⟨cs', hcs, rfl⟩ := amf h
    rw [evL_cons] at hv
    obtain ⟨v, hv1, hv⟩ := aof hv
    obtain ⟨vs', hv2, rfl⟩ := amf hv
    exact .cons (zbz hc hs hv1) (coL_ev hs hcs hv2)
theorem VR.inv_int {ρ : Rho} {k : IntKind} {n : Int} {v' : Value} (h : VR ρ (.int k n) v') : v' = .int k n := by cases h; rfl
theorem VR.inv_bool {ρ : Rho} {b : Bool} {v' : Value} (h : VR ρ (.bool b) v') : v' = .bool b := by cases h; rfl
theorem VR.inv_str {ρ : Rho} {b : ByteArray} {v' : Value} (h : VR ρ (.string b) v') : v' = .string b := by cases h; rfl
theorem VR.inv_ptr {ρ : Rho} {a : Addr} {v' : Value} (h : VR ρ (.pointer (some a)) v') : ∃ R, ρ a.block = some R ∧ v' = .pointer (some ⟨R.blk, R.base + a.off, none⟩) := by
  cases h with | ptr h => exact ⟨_, h, rfl⟩
theorem zdk {v : Value} {a : Addr} (h : zeY v = some a) : v = .pointer (some a) := by
  unfold zeY at h; split at h
  · cases h; rfl
  · cases h
theorem Addr.add_mk (b o n : Nat) : (⟨b, o, none⟩ : Addr).add n = ⟨b, o + n, none⟩ := by unfold Addr.add; split <;> simp_all
theorem zeM {n : Nat} {l r : List Value} (h : zU n l = some r) : zfA n l = some r ∧ ∀ v ∈ r, v ≠ poison := by
  obtain ⟨x, hx, h⟩ := aof h
  unfold zjA at h
  split at h
  · rename_i hc
    cases h
    refine ⟨hx, fun v hv e => ?_⟩
    have := List.all_eq_true.1 hc v hv
    rw [e] at this; cases this
  · cases h
theorem zf9 {h : H} {i off n : Nat} {l : List Value} (hr : h.readN i off n = some l) : ∃ cs esz, h.get i = some (.cells cs esz) ∧ n ≤ (cs.drop off).length ∧ l = (cs.drop off).take n ∧ ∀ v ∈ l, v ≠ poison := by
  obtain ⟨o, ho, hr⟩ := aof hr
  cases o with
  | cells cs esz =>
    obtain ⟨hr, hcl⟩ := zeM (show zU n (zby off cs) = some l from hr)
    rw [zfz, zfU] at hr
    split at hr
    · rename_i hle; cases hr; exact ⟨cs, esz, ho, hle, rfl, hcl⟩
    · cases hr
  | map es c => cases hr
  | loop a b c d => cases hr
  | dead => cases hr
theorem zgq {ρ : Rho} {h : H} {w : World} (hr : HR P ρ h w) {i off n : Nat} {R : RB} (hi : ρ i = some R) {l : List Value} (hl : h.readN i off n = some l) :
    l.length = n ∧ ∃ l', VRL ρ l l' ∧ ∀ j v, l'[j]? = some v → w.cell? ((⟨R.blk, R.base + off, none⟩ : Addr).add j) = some v := by
  obtain ⟨cs, esz, hg, hle, rfl, hcl⟩ := zf9 hl
  obtain ⟨_, _, c, t, fr, hb, _, hcs, hfit, hcell⟩ := hr.obj i R _ hi hg
  rw [List.length_drop] at hle
  refine ⟨by simp; omega, (c.toList.drop (R.base + off)).take n, ⟨by simp; omega, fun j x y hx hy => ?_⟩, fun j v hj => ?_⟩
  · have hxm := List.mem_of_getElem? hx
    rw [List.getElem?_take] at hx hy
    split at hx
    · rename_i hj
      rw [if_pos hj] at hy
      rw [List.getElem?_drop] at hx hy
      obtain ⟨v', h1, h2⟩ := hcell _ _ hx
      have e : y = v' := by
        have : R.base + off + j = R.base + (off + j) := by omega
        rw [this] at hy
        rw [Array.getElem?_toList] at hy
        rw [h1] at hy; exact (Option.some.inj hy).symm
      rw [e]; exact h2.resolve_left (hcl x hxm)
    · cases hx
  · rw [List.getElem?_take] at hj
    split at hj
    · rw [List.getElem?_drop, Array.getElem?_toList] at hj
      simp only [Addr.add_mk, World.cell?, hb, Option.isSome_none, Bool.false_eq_true, if_false]
      exact hj
    · cases hj
theorem zge {ρ : Rho} {h : H} {w : World} (hr : HR P ρ h w) {i off n : Nat} {R : RB} (hi : ρ i = some R) {l : List Value} (hl : h.readN i off n = some l) :
    ∃ l', VRL ρ l l' ∧ (loadCells ⟨R.blk, R.base + off, none⟩ n).run P w = .ok ⟨l'⟩ w := by
  obtain ⟨hn, l', hv, hc⟩ := zgq hr hi hl
  refine ⟨l', hv, ?_⟩
  have e : n = l'.length := by rw [← hn]; exact hv.1
  rw [e]
  exact run_loadCells_list (P := P) w _ l' hc
theorem load_cell {ρ : Rho} {h : H} {w : World} (hr : HR P ρ h w) {i off : Nat} {R : RB} (hi : ρ i = some R) {l : List Value} (hl : h.readN i off 1 = some l) {v : Value} (ho : zhP l = some v) :
    ∃ v', VR ρ v v' ∧ (load ⟨R.blk, R.base + off, none⟩).run P w = .ok v' w := by
  obtain ⟨hn, l', hv, hc⟩ := zgq hr hi hl
  unfold zhP at ho
  split at ho
  · rename_i x
    cases ho
    obtain ⟨y, ys, rfl, h1, h2⟩ := hv.cons_left
    refine ⟨y, h1, ?_⟩
    have := hc 0 y rfl
    rw [Addr.add_mk, Nat.add_zero] at this
    rw [run_load, this]
  · cases ho
theorem aggSize_some {t : TypeId} {n : Nat} (h : zep P t = some (some n)) : (∀ w, (isAgg t).run P w = .ok true w) ∧ (∀ w, (sizeOf t).run P w = .ok n w) := by
  obtain ⟨d, hd, h⟩ := aof h
  cases d <;> simp only [Option.map_eq_some_iff, Option.some.injEq, reduceCtorEq] at h
  all_goals
    obtain ⟨i, hi, rfl⟩ := h
    exact ⟨fun w => by simp [isAgg, run_underlying hd], fun w => by simp [sizeOf, run_typeInfo w hi]⟩
theorem aggSize_none {t : TypeId} (h : zep P t = some none) : ∀ w, (isAgg t).run P w = .ok false w := by
  obtain ⟨d, hd, h⟩ := aof h
  intro w
  cases d <;> simp only [Option.map_eq_some_iff, reduceCtorEq, and_false, exists_false] at h
  all_goals simp [isAgg, run_underlying hd]
theorem z7 {t : TypeId} {n : Nat} (h : zW P t = some n) (w : World) : (sizeOf t).run P w = .ok n w := by
  obtain ⟨i, hi, rfl⟩ := amf h
  simp [sizeOf, run_typeInfo w hi]
theorem zbZ {t : TypeId} {z : List Value} (h : zbm P t = some z) : (∃ v : Value, v.cells.toList = z ∧ ∀ w, (zeroValue t).run P w = .ok v w) ∧ ∀ v ∈ z, zdN v = true := by
  obtain ⟨i, hi, h⟩ := aof h
  obtain ⟨v, hv, h⟩ := aof h
  split at h
  · rename_i hall
    cases h
    exact ⟨⟨v, rfl, fun w => by simp [zeroValue, run_typeInfo w hi, hv]⟩, fun x hx => List.all_eq_true.1 hall x hx⟩
  · cases h
theorem loadVarN {ρ : Rho} {h : H} {w : World} (hr : HR P ρ h w) {t : TypeId} {n : Nat} (ht : zep P t = some (some n)) {i off : Nat} {R : RB} (hi : ρ i = some R) {l : List Value} (hl : h.readN i off n = some l) :
    ∃ v', VR ρ (.agg ⟨l⟩) v' ∧ (loadVar t ⟨R.blk, R.base + off, none⟩).run P w = .ok v' w := by
  obtain ⟨l', hv, hrun⟩ := zge hr hi hl
  obtain ⟨h1, h2⟩ := aggSize_some ht
  exact ⟨.agg ⟨l'⟩, VR.agg_of hv, by simp [loadVar, h1, h2, hrun]⟩
theorem loadVar1 {ρ : Rho} {h : H} {w : World} (hr : HR P ρ h w) {t : TypeId} (ht : zep P t = some none) {i off : Nat} {R : RB} (hi : ρ i = some R) {l : List Value} (hl : h.readN i off 1 = some l) {v : Value} (ho : zhP l = some v) :
    ∃ v', VR ρ v v' ∧ (loadVar t ⟨R.blk, R.base + off, none⟩).run P w = .ok v' w := by
  obtain ⟨v', hv, hrun⟩ := load_cell (P := P) hr hi hl ho
  refine ⟨v', hv, ?_⟩
  simp only [loadVar, Sem.run_bind, aggSize_none ht, Result.andThen_ok, Bool.false_eq_true, if_false]
  exact hrun
def SimP (P : Program) (ρ : Rho) (w : World) (r : Result Next) (v : Value) : Prop := ∃ v', r = .ok (.value v') w ∧ VR ρ v v'
theorem zO {ρ : Rho} {w : World} {s : Sem Value} {v v' : Value} (h : s.run P w = .ok v' w) (hv : VR ρ v v') : SimP P ρ w ((do pure (Next.value (← s)) : Sem Next).run P w) v :=
  ⟨v', by simp [h], hv⟩
end Go.Ideal
namespace Go.Ideal
variable {P : Program}
theorem zcs (a b : Int) : eqI a b = (a == b) := by
  cases a <;> cases b <;> simp [eqI] <;> (rw [Bool.eq_iff_iff]; simp) <;> omega
theorem zcT (a b : Int) : ltI a b = decide (a < b) := by
  cases a with
  | ofNat m => cases b with
    | ofNat n => simp only [ltI]; rw [Bool.eq_iff_iff]; simp [Nat.blt_eq]
    | negSucc n => simp only [ltI]; rw [Bool.eq_iff_iff]; simp; omega
  | negSucc m => cases b with
    | ofNat n => simp only [ltI]; rw [Bool.eq_iff_iff]; simp; omega
    | negSucc n => simp only [ltI]; rw [Bool.eq_iff_iff]; simp [Nat.blt_eq]; omega
theorem wrap_small (k : IntKind) (m : Nat) (h : m ≤ smallOf k) : k.wrap (Int.ofNat m) = Int.ofNat m := by
  cases k <;> simp [IntKind.wrap, IntKind.bits, IntKind.signed, smallOf] at * <;> omega
theorem wrapF_eq (k : IntKind) (n : Int) : wrapF k n = k.wrap n := by
  cases n with
  | ofNat m =>
    simp only [wrapF]
    cases h : Nat.ble m (smallOf k) with
    | true => exact (wrap_small k m (Nat.le_of_ble_eq_true h)).symm
    | false => rfl
  | negSucc m => rfl
theorem zdc {t : TypeId} (h : zgK P t = true) : ∃ k, P.underlying t = some (.int k) := by
  unfold zgK at h
  split at h
  · rename_i k hk; exact ⟨k, hk⟩
  · cases h
theorem zbn {e : TypeId} (he : zgK P e = true) {xs : Array Value} {off : Nat} {v : Value} (hx : xs[off]? = some v) (w : World) : (part e xs off).run P w = .ok v w := by
  obtain ⟨k, hk⟩ := zdc he
  simp [part, isAgg, run_underlying hk, hx]
theorem ziY {x y : Value} {b : Bool} (h : zhk x y = some b) : ∃ k m n, x = .int k m ∧ y = .int k n ∧ b = (m == n) := by
  unfold zhk at h
  split at h
  · split at h
    · rename_i k m k' n e; subst e; cases h; exact ⟨k, m, n, rfl, rfl, zcs m n⟩
    · cases h
  · cases h
theorem zdE {xs ys : List Value} {i : Nat} {r : List Nat} {b : Bool} (h : sameAt xs ys (i :: r) = some b) :
    ∃ k m n c, xs[i]? = some (.int k m) ∧ ys[i]? = some (.int k n) ∧ sameAt xs ys r = some c ∧ b = ((m == n) && c) := by
  obtain ⟨x, hx, h⟩ := aof h
  obtain ⟨y, hy, h⟩ := aof h
  obtain ⟨b', hb, h⟩ := aof h
  obtain ⟨c, hc, rfl⟩ := amf h
  obtain ⟨k, m, n, rfl, rfl, rfl⟩ := ziY hb
  exact ⟨k, m, n, c, hx, hy, hc, rfl⟩
theorem VRL.int_at {ρ : Rho} {xs ys : List Value} (h : VRL ρ xs ys) {i : Nat} {k : IntKind} {m : Int} (hx : xs[i]? = some (.int k m)) : ys[i]? = some (.int k m) := by
  obtain ⟨y, hy, hv⟩ := h.get hx
  rw [hv.inv_int] at hy; exact hy
theorem zf7 {ρ : Rho} {xs ys xs' ys' : List Value} (hx : VRL ρ xs xs') (hy : VRL ρ ys ys') : ∀ {l : List Nat} {b : Bool}, sameAt xs ys l = some b → sameAt xs' ys' l = some b
  | [], b, h => h
  | i :: r, b, h => by
    obtain ⟨k, m, n, c, h1, h2, h3, rfl⟩ := zdE h
    simp only [sameAt, hx.int_at h1, hy.int_at h2, Option.bind_some, zhk, if_true, zcs, zf7 hx hy h3, Option.map_some]
theorem zek (d : Nat) (xs ys : Array Value) (w : World) : ∀ (fs : List Field) (b : Bool), fs.all (fun f => f.name != "_" && zgK P f.type) = true → sameAt xs.toList ys.toList (fs.map (·.offset)) = some b →
    (Op.eqFields (d + 1) xs ys fs).run P w = .ok b w
  | [], b, _, h => by cases h; simp [Op.eqFields]
  | f :: fs, b, hf, h => by
    simp only [List.all_cons, Bool.and_eq_true] at hf
    obtain ⟨⟨hn, hp⟩, hrest⟩ := hf
    obtain ⟨k, m, n, c, h1, h2, h3, rfl⟩ := zdE h
    obtain ⟨k0, hk0⟩ := zdc hp
    have hn' : f.name ≠ "_" := by simpa using hn
    rw [Array.getElem?_toList] at h1 h2
    have ih := zek d xs ys w fs c hrest h3
    simp only [Op.eqFields, Sem.run_ite, if_pos hn', Sem.run_bind, zbn hp h1, zbn hp h2, Result.andThen_ok, run_equalIn_int w d f.type k k0 m n hk0]
    cases hmn : (m == n)
    · simp
    · simp [ih]
theorem ze7 {e : TypeId} (he : zgK P e = true) (d : Nat) (xs ys : Array Value) (w : World) : ∀ (is : List Nat) (b : Bool), sameAt xs.toList ys.toList is = some b → (Op.eqItems (d + 1) e 1 xs ys is).run P w = .ok b w
  | [], b, h => by cases h; simp [Op.eqItems]
  | i :: is, b, h => by
    obtain ⟨k, m, n, c, h1, h2, h3, rfl⟩ := zdE h
    obtain ⟨k0, hk0⟩ := zdc he
    rw [Array.getElem?_toList] at h1 h2
    have ih := ze7 he d xs ys w is c h3
    simp only [Op.eqItems, Nat.mul_one, Sem.run_bind, zbn he h1, zbn he h2, Result.andThen_ok, run_equalIn_int w d e k k0 m n hk0]
    cases hmn : (m == n)
    · simp
    · simp [ih]
theorem zgN {t : TypeId} {l : List Nat} (hl : zeP P t = some l) (d : Nat) (xs ys : Array Value) (w : World) {b : Bool} (h : sameAt xs.toList ys.toList l = some b) :
    (Op.equalIn (d + 2) t (.agg xs) (.agg ys)).run P w = .ok b w := by
  obtain ⟨u, hu, hl⟩ := aof hl
  cases u with
  | struct fs =>
    dsimp only at hl
    split at hl
    · cases hl
    · rename_i hst
      split at hl
      · rename_i hall
        cases hl
        have e : P.fieldsOf t = fs := by simp [Program.fieldsOf, hu]
        rw [run_equalIn_struct w (d + 1) t xs ys (by rw [e]; exact hu) (by simpa using hst), e]
        exact zek d xs ys w _ _ hall h
      · cases hl
  | array n e =>
    dsimp only at hl
    split at hl
    · rename_i hp
      cases hl
      simp only [Bool.and_eq_true, beq_iff_eq] at hp
      obtain ⟨i, hi, hsz⟩ := amf hp.2
      rw [run_equalIn_array w (d + 1) xs ys hu hi]
      have : P.cellsOf e = 1 := by simp [Program.cellsOf, hi, hsz]
      rw [this]
      exact ze7 hp.1 d xs ys w _ _ h
    · cases hl
  | _ => cases hl
def EKOk (P : Program) (t : TypeId) : EK → Prop
  | .other => True
  | .bool => P.underlying t = some .bool
  | .ptr => ∃ e, P.underlying t = some (.pointer e)
  | .slice => ∃ e, P.underlying t = some (.slice e)
  | .map => ∃ k e, P.underlying t = some (.map k e)
  | .func => ∃ a b c, P.underlying t = some (.func a b c)
  | .leaves l => zeP P t = some l ∧ P.eqGuardType P.depth t = false
theorem eqKind_ok (t : TypeId) : EKOk P t (eqKind P t) := by
  unfold eqKind
  split
  · rename_i h; exact h
  · rename_i h; exact ⟨_, h⟩
  · rename_i h; exact ⟨_, h⟩
  · rename_i h; exact ⟨_, _, h⟩
  · rename_i h; exact ⟨_, _, _, h⟩
  · split
    · rename_i l hl
      split
      · trivial
      · rename_i hg; exact ⟨hl, by simpa using hg⟩
    · trivial
theorem VR.inv_slice {ρ : Rho} {b : Option Addr} {n c : Nat} {y : Value} (h : VR ρ (.slice b n c) y) : ∃ b' c', y = .slice b' n c' ∧ b'.isNone = b.isNone := by cases h <;> exact ⟨_, _, rfl, rfl⟩
theorem VR.inv_pointer {ρ : Rho} {b : Option Addr} {y : Value} (h : VR ρ (.pointer b) y) : ∃ b', y = .pointer b' ∧ b'.isNone = b.isNone := by cases h <;> exact ⟨_, rfl, rfl⟩
theorem VR.inv_map {ρ : Rho} {b : Option Nat} {y : Value} (h : VR ρ (.map b) y) : ∃ b', y = .map b' ∧ b'.isNone = b.isNone := by cases h <;> exact ⟨_, rfl, rfl⟩
theorem VR.inv_func {ρ : Rho} {f : Fn} {a b : Array Value} {y : Value} (h : VR ρ (.func f a b) y) : ∃ f' a' b', y = .func f' a' b' := by cases h <;> exact ⟨_, _, _, rfl⟩
theorem VR.inv_nilFunc {ρ : Rho} {y : Value} (h : VR ρ .nilFunc y) : y = .nilFunc := by cases h; rfl
theorem VR.inv_agg {ρ : Rho} {xs : Array Value} {y : Value} (h : VR ρ (.agg xs) y) : ∃ ys, y = .agg ys ∧ VRL ρ xs.toList ys.toList := by
  cases h with | agg ha ra => exact ⟨_, rfl, VRL.of_agg (.agg ha ra)⟩
theorem VR.inv_tuple {ρ : Rho} {xs : Array Value} {y : Value} (h : VR ρ (.tuple xs) y) : ∃ ys, y = .tuple ys ∧ VRL ρ xs.toList ys.toList := by
  cases h with | tuple ha ra => exact ⟨_, rfl, ⟨by simpa using ha, fun j x y hx hy => ra j x y (by simpa using hx) (by simpa using hy)⟩⟩
section
variable (d : Nat) {t : TypeId} (w : World)
theorem eq_slice_none {e : TypeId} (hu : P.underlying t = some (.slice e)) (l c : Nat) (b : Option Addr) (l' c' : Nat) : (Op.equalIn (d + 1) t (.slice none l c) (.slice b l' c')).run P w = .ok b.isNone w := by simp [Op.equalIn, run_underlying hu]
theorem eq_slice_some {e : TypeId} (hu : P.underlying t = some (.slice e)) (a : Addr) (l c : Nat) (l' c' : Nat) : (Op.equalIn (d + 1) t (.slice (some a) l c) (.slice none l' c')).run P w = .ok false w := by simp [Op.equalIn, run_underlying hu]
theorem eq_ptr_none {e : TypeId} (hu : P.underlying t = some (.pointer e)) (b : Option Addr) : (Op.equalIn (d + 1) t (.pointer none) (.pointer b)).run P w = .ok b.isNone w := by simp [Op.equalIn, run_underlying hu]
theorem eq_ptr_some {e : TypeId} (hu : P.underlying t = some (.pointer e)) (a : Addr) : (Op.equalIn (d + 1) t (.pointer (some a)) (.pointer none)).run P w = .ok false w := by simp [Op.equalIn, run_underlying hu]
theorem eq_map_none {k e : TypeId} (hu : P.underlying t = some (.map k e)) (b : Option Nat) : (Op.equalIn (d + 1) t (.map none) (.map b)).run P w = .ok b.isNone w := by simp [Op.equalIn, run_underlying hu]
theorem eq_map_some {k e : TypeId} (hu : P.underlying t = some (.map k e)) (a : Nat) : (Op.equalIn (d + 1) t (.map (some a)) (.map none)).run P w = .ok false w := by simp [Op.equalIn, run_underlying hu]
theorem eq_func_nil {a b : Array TypeId} {c : Bool} (hu : P.underlying t = some (.func a b c)) : (Op.equalIn (d + 1) t .nilFunc .nilFunc).run P w = .ok true w := by simp [Op.equalIn, run_underlying hu]
theorem eq_func_left {a b : Array TypeId} {c : Bool} (hu : P.underlying t = some (.func a b c)) (f : Fn) (x y : Array Value) : (Op.equalIn (d + 1) t .nilFunc (.func f x y)).run P w = .ok false w := by simp [Op.equalIn, run_underlying hu]
theorem eq_func_right {a b : Array TypeId} {c : Bool} (hu : P.underlying t = some (.func a b c)) (f : Fn) (x y : Array Value) : (Op.equalIn (d + 1) t (.func f x y) .nilFunc).run P w = .ok false w := by simp [Op.equalIn, run_underlying hu]
theorem eq_bool (hu : P.underlying t = some .bool) (x y : Bool) : (Op.equalIn (d + 1) t (.bool x) (.bool y)).run P w = .ok (x == y) w := by simp [Op.equalIn, run_underlying hu]
end
theorem isNone_eq {α β : Type} {b : Option α} {b' : Option β} (h : b'.isNone = b.isNone) : b'.isNone = b.isNone := h
theorem zhQ {α β : Type} {b : Option α} (h : b.isNone = (none : Option β).isNone) : b = none := by cases b <;> simp_all
theorem some_of {α β : Type} {b : Option α} {x : β} (h : b.isNone = (some x).isNone) : ∃ y, b = some y := by cases b <;> simp_all
theorem eqV_runD {ρ : Rho} {t : TypeId} {ek : EK} (hek : EKOk P t ek) {x y x' y' : Value} {b : Bool} (h : eqV ek x y = some b) (hx : VR ρ x x') (hy : VR ρ y y') (w : World) :
    ∀ d, ((Op.equalIn (d + 2) t x' y').run P w = .ok b w ∧ ∀ op x0 y0, (eqGuard op t x0 y0 x' y').run P w = .ok () w) ∧
      (∀ r, (Op.equal t x' y').run P w = .ok r w → (binOp .eql t x' y').run P w = .ok (.bool r) w ∧ (binOp .neq t x' y').run P w = .ok (.bool (!r)) w) := by
  intro d
  unfold eqV at h
  split at h
  case h_1 =>
    obtain ⟨e, hu⟩ := hek; cases h; cases hx; obtain ⟨b', rfl, hb⟩ := hy.inv_pointer
    exact ⟨⟨by rw [eq_ptr_none (d + 1) w hu, hb], fun op _ _ => by cases op <;> simp [eqGuard]⟩, fun r hr => by simp only [binOp]; simp [hr]⟩
  case h_2 =>
    obtain ⟨e, hu⟩ := hek; cases h; cases hy; obtain ⟨b', rfl, hb⟩ := hx.inv_pointer; obtain ⟨a, rfl⟩ := some_of hb
    exact ⟨⟨eq_ptr_some (d + 1) w hu a, fun op _ _ => by cases op <;> simp [eqGuard]⟩, fun r hr => by simp only [binOp]; simp [hr]⟩
  case h_3 =>
    obtain ⟨e, hu⟩ := hek; cases h; obtain ⟨b', c', rfl, hb⟩ := hy.inv_slice; obtain ⟨b0, c0, rfl, hb0⟩ := hx.inv_slice; obtain rfl := zhQ hb0
    exact ⟨⟨by rw [eq_slice_none (d + 1) w hu, hb], fun op _ _ => by cases op <;> simp [eqGuard]⟩, fun r hr => by simp only [binOp]; simp [hr]⟩
  case h_4 =>
    obtain ⟨e, hu⟩ := hek; cases h; obtain ⟨b', c', rfl, hb⟩ := hy.inv_slice; obtain ⟨b0, c0, rfl, hb0⟩ := hx.inv_slice; obtain rfl := zhQ hb; obtain ⟨a, rfl⟩ := some_of hb0
    exact ⟨⟨eq_slice_some (d + 1) w hu _ _ _ _ _, fun op _ _ => by cases op <;> simp [eqGuard]⟩, fun r hr => by simp only [binOp]; simp [hr]⟩
  case h_5 =>
    obtain ⟨k, e, hu⟩ := hek; cases h; obtain ⟨b', rfl, hb⟩ := hy.inv_map; obtain ⟨b0, rfl, hb0⟩ := hx.inv_map; obtain rfl := zhQ hb0
    exact ⟨⟨by rw [eq_map_none (d + 1) w hu, hb], fun op _ _ => by cases op <;> simp [eqGuard]⟩, fun r hr => by simp only [binOp]; simp [hr]⟩
  case h_6 =>
    obtain ⟨k, e, hu⟩ := hek; cases h; obtain ⟨b', rfl, hb⟩ := hy.inv_map; obtain ⟨b0, rfl, hb0⟩ := hx.inv_map; obtain rfl := zhQ hb; obtain ⟨a, rfl⟩ := some_of hb0
    exact ⟨⟨eq_map_some (d + 1) w hu _, fun op _ _ => by cases op <;> simp [eqGuard]⟩, fun r hr => by simp only [binOp]; simp [hr]⟩
  case h_7 =>
    obtain ⟨_, _, _, hu⟩ := hek; cases h; obtain rfl := hx.inv_nilFunc; obtain rfl := hy.inv_nilFunc
    exact ⟨⟨eq_func_nil (d + 1) w hu, fun op _ _ => by cases op <;> simp [eqGuard]⟩, fun r hr => by simp only [binOp]; simp [hr]⟩
  case h_8 =>
    obtain ⟨_, _, _, hu⟩ := hek; cases h; obtain rfl := hx.inv_nilFunc; obtain ⟨f, a, b, rfl⟩ := hy.inv_func
    exact ⟨⟨eq_func_left (d + 1) w hu _ _ _, fun op _ _ => by cases op <;> simp [eqGuard]⟩, fun r hr => by simp only [binOp]; simp [hr]⟩
  case h_9 =>
    obtain ⟨_, _, _, hu⟩ := hek; cases h; obtain rfl := hy.inv_nilFunc; obtain ⟨f, a, b, rfl⟩ := hx.inv_func
    exact ⟨⟨eq_func_right (d + 1) w hu _ _ _, fun op _ _ => by cases op <;> simp [eqGuard]⟩, fun r hr => by simp only [binOp]; simp [hr]⟩
  case h_10 =>
    cases h; obtain rfl := hx.inv_bool; obtain rfl := hy.inv_bool
    exact ⟨⟨eq_bool (d + 1) w hek _ _, fun op _ _ => by cases op <;> simp [eqGuard]⟩, fun r hr => by simp only [binOp]; simp [hr]⟩
  case h_11 =>
    obtain ⟨xs', rfl, hxs⟩ := hx.inv_agg; obtain ⟨ys', rfl, hys⟩ := hy.inv_agg
    exact ⟨⟨zgN hek.1 d _ _ w (zf7 hxs hys h), fun op _ _ => run_eqGuard_agg w op t _ _ _ _ hek.2⟩, fun r hr => by simp only [binOp]; simp [hr]⟩
  case h_12 => cases h
theorem eqV_run {ρ : Rho} {t : TypeId} {ek : EK} (hek : EKOk P t ek) {x y x' y' : Value} {b : Bool} (h : eqV ek x y = some b) (hx : VR ρ x x') (hy : VR ρ y y') (w : World) :
    (Op.equal t x' y').run P w = .ok b w ∧ ∀ op x0 y0, (eqGuard op t x0 y0 x' y').run P w = .ok () w := (eqV_runD hek h hx hy w 9998).1
theorem intB_run {k : IntKind} {a b : Int} {op : BinOp} {v : Value} (h : intB k a b op = some v) (t : TypeId) (w : World) : (binOp op t (.int k a) (.int k b)).run P w = .ok v w := by
  cases op <;> simp only [intB, Option.some.injEq, reduceCtorEq, wrapF_eq, zcs, zcT] at h
  case add => subst h; simp [binOp, Op.intArith]
  case sub => subst h; simp [binOp, Op.intArith]
  case mul => subst h; simp [binOp, Op.intArith]
  case quo =>
    split at h
    · cases h
    · rename_i hb; cases h; have hb' : ¬ b = 0 := by simpa using hb
      simp [binOp, Op.intDiv, hb']
  case rem =>
    split at h
    · cases h
    · rename_i hb; cases h; have hb' : ¬ b = 0 := by simpa using hb
      simp [binOp, Op.intDiv, hb']
  case eql => subst h; simp [binOp, Op.intCmp]
  case neq => subst h; simp [binOp, Op.intCmp]; rfl
  case lss => subst h; simp [binOp, Op.intCmp]
  case leq => subst h; simp [binOp, Op.intCmp]; rw [Bool.eq_iff_iff]; simp
  case gtr => subst h; simp [binOp, Op.intCmp]
  case geq => subst h; simp [binOp, Op.intCmp]; rw [Bool.eq_iff_iff]; simp
theorem intS_run {k k' : IntKind} {a b : Int} {op : BinOp} {v : Value} (h : intS k k' a b op = some v) (t : TypeId) (w : World) : (binOp op t (.int k a) (.int k' b)).run P w = .ok v w := by
  have other : ∀ op', (op' ≠ .shl) → (op' ≠ .shr) → (if k = k' then intB k a b op' else none) = some v → (binOp op' t (.int k a) (.int k' b)).run P w = .ok v w := by
    intro op' _ _ h'
    split at h'
    · rename_i e; subst e; exact intB_run h' t w
    · cases h'
  cases op <;> simp only [intS] at h
  case shl =>
    rw [zcT] at h
    split at h
    · cases h
    · rename_i hb; cases h; have hb' : ¬ b < 0 := by simpa using hb
      simp [binOp, Op.shift, hb']
  case shr =>
    rw [zcT] at h
    split at h
    · cases h
    · rename_i hb; cases h; have hb' : ¬ b < 0 := by simpa using hb
      simp [binOp, Op.shift, hb']
  all_goals exact other _ (by simp) (by simp) h
theorem eqGuard_int (op : BinOp) (t : TypeId) (x y : Operand) (k k' : IntKind) (a b : Int) (w : World) : (eqGuard op t x y (.int k a) (.int k' b)).run P w = .ok () w := by
  cases op <;> simp [eqGuard]
theorem binV_run {ρ : Rho} {t : TypeId} {ek : EK} (hek : EKOk P t ek) {op : BinOp} {x y x' y' v : Value} (h : binV op ek x y = some v) (hx : VR ρ x x') (hy : VR ρ y y') (w : World) :
    ∃ v', VR ρ v v' ∧ (binOp op t x' y').run P w = .ok v' w ∧ ∀ x0 y0, (eqGuard op t x0 y0 x' y').run P w = .ok () w := by
  unfold binV at h
  split at h
  · rename_i k a k' b
    rw [hx.inv_int, hy.inv_int]
    refine ⟨v, ?_, intS_run h t w, fun x0 y0 => eqGuard_int op t x0 y0 _ _ _ _ w⟩
    have key : ∀ op', intB k a b op' = some v → VR ρ v v := by
      intro op' h
      cases op' <;> simp only [intB, Option.some.injEq, reduceCtorEq] at h
      all_goals first
        | (subst h; first | exact .int _ _ | exact .bool _)
        | (split at h
           · cases h
           · cases h; exact .int _ _)
    have key2 : ∀ op', (if k = k' then intB k a b op' else none) = some v → VR ρ v v := by
      intro op' h
      split at h
      · exact key op' h
      · cases h
    cases op
    case shl => simp only [intS] at h; split at h; (cases h); (cases h; exact .int _ _)
    case shr => simp only [intS] at h; split at h; (cases h); (cases h; exact .int _ _)
    all_goals exact key2 _ h
  · cases op <;> simp only [eqlV, reduceCtorEq] at h
    case eql =>
      obtain ⟨b, hb, rfl⟩ := amf h
      obtain ⟨h1, h2⟩ := eqV_run hek hb hx hy w
      exact ⟨.bool b, .bool b, ((eqV_runD hek hb hx hy w 0).2 _ h1).1, fun x0 y0 => h2 _ x0 y0⟩
    case neq =>
      obtain ⟨b, hb, rfl⟩ := amf h
      obtain ⟨h1, h2⟩ := eqV_run hek hb hx hy w
      exact ⟨.bool (!b), .bool _, ((eqV_runD hek hb hx hy w 0).2 _ h1).2, fun x0 y0 => h2 _ x0 y0⟩
end Go.Ideal
namespace Go.Ideal
variable {P : Program}
theorem opV_mv (x : CO) : opV (.mv x) = bMv x := rfl
section
variable {ρ : Rho} {h h' : H} {w : World} {s : zf} {a : Act} {v : Value}
theorem s_mv (hs : SR ρ s a.tmps) {x : Operand} {c : CO} (hc : co x = some c) (hv : bMv c s h = some (v, h')) : h' = h ∧ SimP P ρ w (Result.ok (Next.value (a.eval x)) w) v := by
  obtain ⟨u, hu, e⟩ := amf hv
  cases e
  exact ⟨rfl, _, rfl, zbz hc hs hu⟩
theorem s_pick (hs : SR ρ s a.tmps) {c x y : Operand} {c' x' y' : CO} (hc : co c = some c') (hx : co x = some x') (hy : co y = some y') (hv : bPick c' x' y' s h = some (v, h')) :
    h' = h ∧ SimP P ρ w ((do pure (Next.value (if ← asBool (a.eval c) then a.eval x else a.eval y)) : Sem Next).run P w) v := by
  obtain ⟨u, hu, hv⟩ := aof hv
  have hcv := zbz hc hs hu
  unfold pickV at hv
  split at hv
  · obtain ⟨z, hz, e⟩ := amf hv; cases e
    rw [hcv.inv_bool]
    exact ⟨rfl, _, by simp [asBool], zbz hx hs hz⟩
  · obtain ⟨z, hz, e⟩ := amf hv; cases e
    rw [hcv.inv_bool]
    exact ⟨rfl, _, by simp [asBool], zbz hy hs hz⟩
  · cases hv
theorem s_load1 (hr : HR P ρ h w) (hs : SR ρ s a.tmps) {x : Operand} {c : CO} (hc : co x = some c) {t : TypeId} (ht : zep P t = some none) (hv : zix c s h = some (v, h')) :
    h' = h ∧ SimP P ρ w ((do pure (Next.value (← Instr.loadAt t (a.eval x))) : Sem Next).run P w) v := by
  obtain ⟨u, hu, hv⟩ := aof hv
  obtain ⟨ad, had, hv⟩ := aof hv
  obtain ⟨l, hl, hv⟩ := aof hv
  obtain ⟨z, hz, e⟩ := amf hv
  cases e
  obtain rfl := zdk had
  obtain ⟨R, hR, e⟩ := (zbz hc hs hu).inv_ptr
  obtain ⟨v', hv', hrun⟩ := loadVar1 hr ht hR hl hz
  refine ⟨rfl, zO ?_ hv'⟩
  simp [Instr.loadAt, Instr.sureAddr, e, hrun]
theorem s_loadN (hr : HR P ρ h w) (hs : SR ρ s a.tmps) {x : Operand} {c : CO} (hc : co x = some c) {t : TypeId} {n : Nat} (ht : zep P t = some (some n)) (hv : ziw n c s h = some (v, h')) :
    h' = h ∧ SimP P ρ w ((do pure (Next.value (← Instr.loadAt t (a.eval x))) : Sem Next).run P w) v := by
  obtain ⟨u, hu, hv⟩ := aof hv
  obtain ⟨ad, had, hv⟩ := aof hv
  obtain ⟨l, hl, e⟩ := amf hv
  cases e
  obtain rfl := zdk had
  obtain ⟨R, hR, e⟩ := (zbz hc hs hu).inv_ptr
  obtain ⟨v', hv', hrun⟩ := loadVarN hr ht hR hl
  refine ⟨rfl, zO ?_ hv'⟩
  simp [Instr.loadAt, Instr.sureAddr, e, hrun]
theorem s_nilCheck (hs : SR ρ s a.tmps) {o : Oper} {x : Operand} (ho : o.op = .nilCheck x) {c : CO} (hc : co x = some c) (hv : zcZ c s h = some (v, h')) : h' = h ∧ SimP P ρ w ((execOp a.eval o).run P w) v := by
  obtain ⟨u, hu, hv⟩ := aof hv
  obtain ⟨z, hz, e⟩ := amf hv
  cases e
  have hx := zbz hc hs hu
  refine ⟨rfl, ?_⟩
  simp only [execOp, ho]
  generalize a.eval x = y at hx
  unfold nilV at hz
  split at hz
  · cases hz; cases hx with | ptr hR => exact ⟨_, by simp, .ptr hR⟩
  · cases hz; cases hx with | func f ha hb ra rb => exact ⟨_, by simp, .func _ ha hb ra rb⟩
  · cases hz; cases hx with | yield hy => exact ⟨_, by simp, .yield hy⟩
  · cases hz
theorem s_bin (hs : SR ρ s a.tmps) {x y : Operand} {c d : CO} (hc : co x = some c) (hd : co y = some d) {op : BinOp} {t : TypeId} (hv : bBin op (eqKind P t) c d s h = some (v, h')) :
    h' = h ∧ SimP P ρ w ((do pure (Next.value (← (do eqGuard op t x y (a.eval x) (a.eval y); binOp op t (a.eval x) (a.eval y)))) : Sem Next).run P w) v := by
  obtain ⟨u, hu, hv⟩ := aof hv
  obtain ⟨z, hz, hv⟩ := aof hv
  obtain ⟨r, hr, e⟩ := amf hv
  cases e
  obtain ⟨v', h1, h2, h3⟩ := binV_run (eqKind_ok (P := P) t) hr (zbz hc hs hu) (zbz hd hs hz) w
  exact ⟨rfl, zO (by simp [h2, h3]) h1⟩
theorem s_un (hs : SR ρ s a.tmps) {x : Operand} {c : CO} (hc : co x = some c) {op : UnOp} (hv : bUn op c s h = some (v, h')) :
    h' = h ∧ SimP P ρ w ((do pure (Next.value (← Op.unary op (a.eval x))) : Sem Next).run P w) v := by
  obtain ⟨u, hu, hv⟩ := aof hv
  obtain ⟨z, hz, e⟩ := amf hv
  cases e
  have hx := zbz hc hs hu
  refine ⟨rfl, ?_⟩
  unfold unV at hz
  split at hz
  · cases hz; rw [hx.inv_int]; exact zO (by simp [Op.unary, Op.intArith]) (.int _ _)
  · cases hz; rw [hx.inv_bool]; exact zO (by simp [Op.unary]) (.bool _)
  · cases hz
theorem s_conv (hs : SR ρ s a.tmps) {x : Operand} {c : CO} (hc : co x = some c) {k k0 : IntKind} {sr d : TypeId} (h1 : P.underlying sr = some (.int k0)) (h2 : P.underlying d = some (.int k)) (hv : bConv k c s h = some (v, h')) :
    h' = h ∧ SimP P ρ w ((do pure (Next.value (← convert sr d (a.eval x))) : Sem Next).run P w) v := by
  obtain ⟨u, hu, hv⟩ := aof hv
  obtain ⟨z, hz, e⟩ := amf hv
  cases e
  have hx := zbz hc hs hu
  refine ⟨rfl, ?_⟩
  unfold convV at hz
  split at hz
  · cases hz; rw [hx.inv_int]; exact zO (by simp [convert, run_underlying h1, run_underlying h2, Conv.intToInt]) (.int _ _)
  · cases hz
theorem s_makeFunc (hs : SR ρ s a.tmps) {f : FuncId} {fs cs : Array Operand} {fs' cs' : List CO} (hf : allO co fs.toList = some fs') (hc : allO co cs.toList = some cs') (hv : zc0 (.func f) fs' cs' s h = some (v, h')) :
    h' = h ∧ SimP P ρ w ((do pure (Next.value (← Instr.makeFunc (.func f) (fs.map a.eval) (cs.map a.eval))) : Sem Next).run P w) v := by
  obtain ⟨l, hl, hv⟩ := aof hv
  obtain ⟨m, hm, e⟩ := amf hv
  cases e
  have r1 := coL_ev hs hf hl
  have r2 := coL_ev hs hc hm
  refine ⟨rfl, zO (v' := .func (.func f) (fs.map a.eval) (cs.map a.eval)) (by simp [Instr.makeFunc]) ?_⟩
  refine .func f ?_ ?_ (fun j x y hx hy => ?_) (fun j x y hx hy => ?_)
  · have := r1.1; simpa using this
  · have := r2.1; simpa using this
  · exact r1.2 j x y (by simpa using hx) (by rw [← Array.toList_map, Array.getElem?_toList]; exact hy)
  · exact r2.2 j x y (by simpa using hx) (by rw [← Array.toList_map, Array.getElem?_toList]; exact hy)
theorem s_fieldAddr (hs : SR ρ s a.tmps) {x : Operand} {c : CO} (hc : co x = some c) {t : TypeId} {fs : Array Field} {i : Nat} {f : Field} {sz : Nat} (h1 : P.underlying t = some (.struct fs)) (h2 : fs[i]? = some f)
    (h3 : zW P f.type = some sz) (h4 : sz ≠ 0) (hv : zch f.offset c s h = some (v, h')) :
    h' = h ∧ SimP P ρ w ((do pure (Next.value (← Instr.fieldAt t (a.eval x) i)) : Sem Next).run P w) v := by
  obtain ⟨u, hu, hv⟩ := aof hv
  obtain ⟨ad, had, e⟩ := amf hv
  cases e
  obtain rfl := zdk had
  obtain ⟨R, hR, e⟩ := (zbz hc hs hu).inv_ptr
  refine ⟨rfl, zO (v' := .pointer (some ⟨R.blk, R.base + (ad.off + f.offset), none⟩)) ?_ (.ptr hR)⟩
  simp [Instr.fieldAt, run_underlying h1, h2, Instr.sureAddr, e, fieldPlace, z7 h3, h4, Addr.add_mk, Nat.add_assoc]
theorem VR.inv_slice_some {ρ : Rho} {b : Addr} {n c : Nat} {y : Value} (hn : n ≠ 0) (h : VR ρ (.slice (some b) n c) y) : ∃ R c', ρ b.block = some R ∧ y = .slice (some ⟨R.blk, R.base + b.off, none⟩) n c' := by
  cases h with
  | slice h hc hl => exact ⟨_, _, h, rfl⟩
  | sliceO h he hl hs hb => exact ⟨_, _, h, rfl⟩
  | sliceE h he hb => exact absurd rfl hn
  | sliceD h hm => exact absurd rfl hn
theorem indexV_some {sz : Nat} {v i r : Value} (h : indexV sz v i = some r) : ∃ b len cap k j, v = .slice (some b) len cap ∧ i = .int k (.ofNat j) ∧ j < len ∧ r = .pointer (some ⟨b.block, b.off + j * sz, none⟩) := by
  unfold indexV at h
  split at h
  · split at h
    · rename_i hlt; cases h; exact ⟨_, _, _, _, _, rfl, rfl, Nat.blt_eq.mp hlt, rfl⟩
    · cases h
  · cases h
theorem zi1 {n sz : Nat} {v i r : Value} (h : zfP n sz v i = some r) : ∃ b k j, v = .pointer (some b) ∧ i = .int k (.ofNat j) ∧ j < n ∧ r = .pointer (some ⟨b.block, b.off + j * sz, none⟩) := by
  unfold zfP at h
  split at h
  · split at h
    · rename_i hlt; cases h; exact ⟨_, _, _, rfl, rfl, Nat.blt_eq.mp hlt, rfl⟩
    · cases h
  · cases h
theorem s_indexAddr (hs : SR ρ s a.tmps) {x y : Operand} {c d : CO} (hc : co x = some c) (hd : co y = some d) {t e : TypeId} {sz : Nat} (h1 : P.underlying t = some (.slice e)) (h3 : zW P e = some sz)
    (hv : zcg sz c d s h = some (v, h')) : h' = h ∧ SimP P ρ w ((do pure (Next.value (← Instr.indexAt t (a.eval x) (a.eval y))) : Sem Next).run P w) v := by
  obtain ⟨u, hu, hv⟩ := aof hv
  obtain ⟨z, hz, hv⟩ := aof hv
  obtain ⟨r, hr, e⟩ := amf hv
  cases e
  have hx := zbz hc hs hu
  have hy := zbz hd hs hz
  refine ⟨rfl, ?_⟩
  obtain ⟨b, len, cap, k, i, rfl, rfl, hlt, rfl⟩ := indexV_some hr
  obtain ⟨R, c', hR, e⟩ := hx.inv_slice_some (by omega)
  rw [e, hy.inv_int]
  refine zO (v' := .pointer (some ⟨R.blk, R.base + (b.off + i * sz), none⟩)) ?_ (.ptr hR)
  simp [Instr.indexAt, asIntOf, run_underlying h1, hlt, z7 h3, Addr.add_mk, Nat.add_assoc]
theorem s_indexArr (hs : SR ρ s a.tmps) {x y : Operand} {c d : CO} (hc : co x = some c) (hd : co y = some d) {t e : TypeId} {n sz : Nat} (h1 : P.underlying t = some (.array n e)) (h3 : zW P e = some sz)
    (hv : zc1 n sz c d s h = some (v, h')) : h' = h ∧ SimP P ρ w ((do pure (Next.value (← Instr.indexAt t (a.eval x) (a.eval y))) : Sem Next).run P w) v := by
  obtain ⟨u, hu, hv⟩ := aof hv
  obtain ⟨z, hz, hv⟩ := aof hv
  obtain ⟨r, hr, e⟩ := amf hv
  cases e
  have hx := zbz hc hs hu
  have hy := zbz hd hs hz
  refine ⟨rfl, ?_⟩
  obtain ⟨b, k, i, rfl, rfl, hlt, rfl⟩ := zi1 hr
  obtain ⟨R, hR, e⟩ := hx.inv_ptr
  rw [e, hy.inv_int]
  refine zO (v' := .pointer (some ⟨R.blk, R.base + (b.off + i * sz), none⟩)) ?_ (.ptr hR)
  simp [Instr.indexAt, asIntOf, run_underlying h1, hlt, z7 h3, Addr.add_mk, Nat.add_assoc, Instr.sureAddr]
theorem s_extract (hs : SR ρ s a.tmps) {x : Operand} {c : CO} (hc : co x = some c) {i : Nat} (hv : zdP c i s h = some (v, h')) :
    h' = h ∧ SimP P ρ w ((do pure (Next.value (← Instr.extract (a.eval x) i)) : Sem Next).run P w) v := by
  obtain ⟨u, hu, hv⟩ := aof hv
  obtain ⟨z, hz, e⟩ := amf hv
  cases e
  have hx := zbz hc hs hu
  refine ⟨rfl, ?_⟩
  unfold extractV at hz
  split at hz
  · obtain ⟨ys, e, hl⟩ := hx.inv_tuple
    obtain ⟨y, hy, hyv⟩ := hl.get hz
    rw [Array.getElem?_toList] at hy
    exact zO (by rw [e]; simp [Instr.extract, hy]) hyv
  · cases hz
end
end Go.Ideal
namespace Go.Ideal
variable {P : Program}
theorem foldl_write (vs : List Value) (off : Nat) : ∀ (k : Nat) (cs : Array Value), ((vs.zipIdx k).foldl (fun cs (p : Value × Nat) => cs.setIfInBounds (off + p.2) p.1) cs).size = cs.size ∧
    ∀ j, ((vs.zipIdx k).foldl (fun cs (p : Value × Nat) => cs.setIfInBounds (off + p.2) p.1) cs)[j]? = if off + k ≤ j ∧ j < off + k + vs.length ∧ j < cs.size then vs[j - (off + k)]? else cs[j]? := by
  induction vs with
  | nil => intro k cs; exact ⟨rfl, fun j => by rw [if_neg (by simp; omega)]; rfl⟩
  | cons v vs ih =>
    intro k cs
    simp only [List.zipIdx_cons, List.foldl_cons]
    obtain ⟨h1, h2⟩ := ih (k + 1) (cs.setIfInBounds (off + k) v)
    refine ⟨by rw [h1]; simp, fun j => ?_⟩
    rw [h2, Array.getElem?_setIfInBounds, Array.size_setIfInBounds]
    by_cases e : off + k = j
    · subst e
      rw [if_neg (by omega), if_pos rfl]
      by_cases hb : off + k < cs.size
      · simp [hb]
      · simp [hb]
    · rw [if_neg e]
      by_cases c : off + (k + 1) ≤ j ∧ j < off + (k + 1) + vs.length ∧ j < cs.size
      · rw [if_pos c, if_pos (by simp; omega)]
        have : j - (off + k) = (j - (off + (k + 1))) + 1 := by omega
        rw [this]; rfl
      · rw [if_neg c, if_neg (by simp; omega)]
def zf5 (ρ : Rho) (l : List (Nat × Nat × Value)) (l' : List (Nat × Value)) (place : Nat → Option (Nat × Nat)) : Prop :=
  l.length = l'.length ∧ ∀ (j : Nat) p q, l[j]? = some p → l'[j]? = some q → place q.1 = some (p.1, p.2.1) ∧ VR ρ p.2.2 q.2
theorem zf5.nil (ρ : Rho) (pl : Nat → Option (Nat × Nat)) : zf5 ρ [] [] pl := ⟨rfl, by simp⟩
theorem zf5.cons {ρ : Rho} {pl : Nat → Option (Nat × Nat)} {o n : Nat} {v : Value} {i : Nat} {v' : Value} {l l'} (h1 : pl i = some (o, n)) (h2 : VR ρ v v') (h : zf5 ρ l l' pl) : zf5 ρ ((o, n, v) :: l) ((i, v') :: l') pl := by
  refine ⟨by simp [h.1], fun j p q hp hq => ?_⟩
  cases j with
  | zero => simp at hp hq; subst hp hq; exact ⟨h1, h2⟩
  | succ j => exact h.2 j p q (by simpa using hp) (by simpa using hq)
theorem fill_rel {ρ : Rho} {pl : Nat → Option (Nat × Nat)} : ∀ {l : List (Nat × Nat × Value)} {l' : List (Nat × Value)} {cs cs' : List Value} {ds : Array Value}, zf5 ρ l l' pl → VRL ρ cs ds.toList → zp cs l = some cs' →
    ∃ ds', Instr.fill pl ds l' = some ds' ∧ VRL ρ cs' ds'.toList
  | [], l', cs, cs', ds, hp, hv, h => by
    cases h
    obtain rfl : l' = [] := by have := hp.1; simpa using this.symm
    exact ⟨ds, rfl, hv⟩
  | (o, n, v) :: l, [], cs, cs', ds, hp, hv, h => by have := hp.1; simp at this
  | (o, n, v) :: l, (i, v') :: l', cs, cs', ds, hp, hv, h => by
    obtain ⟨h1, h2⟩ := hp.2 0 _ _ rfl rfl
    have hrest : zf5 ρ l l' pl := ⟨by have := hp.1; simpa using this, fun j p q hp' hq' => hp.2 (j + 1) p q (by simpa using hp') (by simpa using hq')⟩
    simp only [zp] at h
    split at h
    · rename_i hn
      simp only [Bool.and_eq_true] at hn
      have hn' : (zj v).length = n := Nat.eq_of_beq_eq_true hn.1
      have hz : 0 < n := Nat.blt_eq.mp hn.2
      obtain ⟨c1, hc1, h⟩ := aof h
      have hcv := h2.cells
      have hsz : v'.cells.size = n := by have := hcv.1; rw [hn'] at this; simpa using this.symm
      obtain ⟨hfit, hget⟩ := zhx _ _ _ _ hc1
      have hlen := ze0 _ _ _ _ hc1
      have hcsds : cs.length = ds.size := by have := hv.1; simpa using this
      obtain ⟨g1, g2⟩ := foldl_write v'.cells.toList o 0 ds
      have hne : zj v ≠ [] := by intro e; rw [e] at hn'; simp at hn'; omega
      have hfit' : o + (zj v).length ≤ cs.length := hfit.resolve_left hne
      have hv1 : VRL ρ c1 ((v'.cells.toList.zipIdx 0).foldl (fun cs (p : Value × Nat) => cs.setIfInBounds (o + p.2) p.1) ds).toList := by
        refine ⟨by rw [hlen, hcsds]; simpa using g1.symm, fun j x y hx hy => ?_⟩
        rw [Array.getElem?_toList, g2 j] at hy
        rw [hget j] at hx
        have hvl : v'.cells.toList.length = (zj v).length := hcv.1.symm
        by_cases c : o ≤ j ∧ j < o + (zj v).length
        · rw [if_pos c] at hx
          rw [if_pos (by omega)] at hy
          rw [Nat.add_zero] at hy
          exact hcv.2 _ _ _ hx hy
        · rw [if_neg c] at hx
          rw [if_neg (by omega)] at hy
          exact hv.2 j x y hx (by simpa using hy)
      obtain ⟨ds', hd1, hd2⟩ := fill_rel hrest hv1 h
      refine ⟨ds', ?_, hd2⟩
      simp only [Instr.fill, h1]
      rw [if_neg (by simp; omega), ← hd1]
      congr 1
      rw [← Array.foldl_toList]
      simp [Array.toList_zipIdx]
    · cases h
theorem zfG {α β : Type} (f : α → Sem β) (g : α → β) (w : World) : ∀ (l : List α), (∀ a ∈ l, (f a).run P w = .ok (g a) w) → (l.mapM f).run P w = .ok (l.map g) w
  | [], _ => by simp
  | a :: l, h => by
    rw [List.mapM_cons]
    simp [h a (by simp), zfG f g w l (fun b hb => h b (by simp [hb]))]
theorem ziZ {α β : Type} (f : α → Sem β) (g : α → β) (w : World) (l : Array α) (h : ∀ a ∈ l.toList, (f a).run P w = .ok (g a) w) : (l.mapM f).run P w = .ok (l.map g) w := by
  rw [Array.mapM_eq_mapM_toList]
  simp only [Sem.run_map, zfG f g w l.toList h, Result.andThen_ok]
  congr 1
  apply Array.ext'
  simp
section
variable {ρ : Rho} {h h' : H} {w : World} {s : zf} {a : Act} {v : Value}
theorem zh5 (hs : SR ρ s a.tmps) {f : Nat × Operand → Option (Nat × Nat × CO)} {pl : Nat → Option (Nat × Nat)} (hf : ∀ p q, f p = some q → pl p.1 = some (q.1, q.2.1) ∧ co p.2 = some q.2.2) :
    ∀ {ps : List (Nat × Operand)} {qs : List (Nat × Nat × CO)} {l : List (Nat × Nat × Value)}, allO f ps = some qs → zgl s qs = some l → zf5 ρ l (ps.map fun p => (p.1, a.eval p.2)) pl
  | [], qs, l, h, hl => by cases h; cases hl; exact .nil _ _
  | p :: ps, qs, l, h, hl => by
    obtain ⟨q, hq, h⟩ := aof h
    obtain ⟨qs', hqs, rfl⟩ := amf h
    obtain ⟨o, n, x⟩ := q
    obtain ⟨u, hu, hl⟩ := aof hl
    obtain ⟨l', hl', rfl⟩ := amf hl
    obtain ⟨h1, h2⟩ := hf _ _ hq
    exact .cons h1 (zbz h2 hs hu) (zh5 hs hf hqs hl')
theorem s_build (hs : SR ρ s a.tmps) {t : TypeId} {ps : Array (Nat × Operand)} {z : List Value} {qs : List (Nat × Nat × CO)} {f : Nat × Operand → Option (Nat × Nat × CO)} {pl : Nat → Option (Nat × Nat)}
    (hz : zbm P t = some z) (hq : allO f ps.toList = some qs) (hf : ∀ p q, f p = some q → pl p.1 = some (q.1, q.2.1) ∧ co p.2 = some q.2.2)
    (hrun : ∀ (l : Array (Nat × Value)) z' cs, (zeroValue t).run P w = .ok z' w → Instr.fill pl z'.cells l.toList = some cs → (Instr.build t l).run P w = .ok (.agg cs) w)
    (hv : ziy z qs s h = some (v, h')) : h' = h ∧ SimP P ρ w ((do pure (Next.value (← Instr.build t (ps.map fun (i, x) => (i, a.eval x)))) : Sem Next).run P w) v := by
  obtain ⟨l, hl, hv⟩ := aof hv
  obtain ⟨c, hc, e⟩ := amf hv
  cases e
  obtain ⟨⟨zv, hzv, hzr⟩, hzc⟩ := zbZ hz
  have hp := zh5 (a := a) hs hf hq hl
  obtain ⟨ds, hd1, hd2⟩ := fill_rel (ds := zv.cells) hp (by rw [hzv]; exact VRL.refl1 hzc) hc
  refine ⟨rfl, zO (hrun _ zv ds (hzr w) ?_) (VR.agg_of hd2)⟩
  simpa using hd1
theorem zgZ {t : TypeId} {fs : Array Field} (hu : P.underlying t = some (.struct fs)) (hall : fs.toList.all (fun (f : Field) => (zW P f.type).isSome) = true) (l : Array (Nat × Value)) {z' : Value} {cs : Array Value}
    (hz : (zeroValue t).run P w = .ok z' w) (hfill : Instr.fill (fun i : Nat => (fs[i]?).bind fun (f : Field) => (zW P f.type).map fun s => (f.offset, s)) z'.cells l.toList = some cs) : (Instr.build t l).run P w = .ok (.agg cs) w := by
  have hm := ziZ (P := P) (fun f : Field => do pure (f.offset, ← sizeOf f.type)) (fun f : Field => (f.offset, (zW P f.type).getD 0)) w fs (fun f hf => by
    have := List.all_eq_true.1 hall f hf
    obtain ⟨n, hn⟩ := Option.isSome_iff_exists.1 this
    simp [z7 hn, hn])
  have e : (fun i : Nat => (fs[i]?).bind fun (f : Field) => (zW P f.type).map fun s => (f.offset, s)) = fun i : Nat => (fs.map fun (f : Field) => (f.offset, (zW P f.type).getD 0))[i]? := by
    funext i
    rw [Array.getElem?_map]
    cases hi : fs[i]? with
    | none => rfl
    | some f =>
      have := List.all_eq_true.1 hall f (Array.mem_toList_iff.2 (Array.mem_of_getElem? hi))
      obtain ⟨n, hn⟩ := Option.isSome_iff_exists.1 this
      simp [hn]
  rw [e] at hfill
  simp only [Instr.build, Sem.run_bind, hz, Result.andThen_ok, run_underlying hu, hm, hfill, Sem.run_pure]
theorem zhG {t e : TypeId} {n sz : Nat} (hu : P.underlying t = some (.array n e)) (hsz : zW P e = some sz) (l : Array (Nat × Value)) {z' : Value} {cs : Array Value}
    (hz : (zeroValue t).run P w = .ok z' w) (hfill : Instr.fill (fun i => some (i * sz, sz)) z'.cells l.toList = some cs) : (Instr.build t l).run P w = .ok (.agg cs) w := by
  simp only [Instr.build, Sem.run_bind, hz, Result.andThen_ok, run_underlying hu, z7 hsz, hfill, Sem.run_pure]
end
end Go.Ideal
namespace Go.Ideal
variable {P : Program}
theorem inB_some {i : Int} {n m : Nat} (h : inB i n = some m) : i = .ofNat m ∧ m ≤ n := by
  unfold inB at h
  split at h
  · split at h
    · rename_i hle; cases h; exact ⟨rfl, Nat.le_of_ble_eq_true hle⟩
    · cases h
  · cases h
theorem zfo {d y m : Nat} {v : Option Value} (h : zdr d y v = some m) : (v = none ∧ m = d) ∨ (∃ k, v = some (.int k (.ofNat m)) ∧ m ≤ y) := by
  unfold zdr at h
  split at h
  · cases h; exact .inl ⟨rfl, rfl⟩
  · obtain ⟨rfl, h2⟩ := inB_some h; exact .inr ⟨_, rfl, h2⟩
  · cases h
theorem zcj {k : IntKind} {m y : Nat} (h : m ≤ y) (code : BoundsCode) (w : World) : (Instr.sliceBound (.int k ((m : Nat) : Int)) y code).run P w = .ok m w := by
  simp [Instr.sliceBound, asIntOf, h]
theorem zbA {len cap known lo hi : Nat} {vl vh vl' vh' : Option Value} (hk : known ≤ cap) (hlc : vh = none → len ≤ cap) (h1 : zdr len known vh = some hi) (h2 : zdr 0 hi vl = some lo)
    (rl : ∀ v, vl = some v → ∀ k m, v = .int k m → vl' = some (.int k m)) (rl0 : vl = none → vl' = none) (rh : ∀ v, vh = some v → ∀ k m, v = .int k m → vh' = some (.int k m)) (rh0 : vh = none → vh' = none) (w : World) :
    (Instr.sliceBounds true len cap vl' vh' none).run P w = .ok (lo, hi, cap) w ∧ lo ≤ hi ∧ hi ≤ cap ∧ (vh ≠ none → hi ≤ known) := by
  rcases zfo h1 with ⟨e1, rfl⟩ | ⟨k1, e1, b1⟩
  · rw [rh0 e1]
    rcases zfo h2 with ⟨e2, rfl⟩ | ⟨k2, e2, b2⟩
    · rw [rl0 e2]; exact ⟨by simp [Instr.sliceBounds], by omega, hlc e1, fun h => absurd e1 h⟩
    · rw [rl _ e2 _ _ rfl]; exact ⟨by simp [Instr.sliceBounds, zcj b2], b2, hlc e1, fun h => absurd e1 h⟩
  · rw [rh _ e1 _ _ rfl]
    rcases zfo h2 with ⟨e2, rfl⟩ | ⟨k2, e2, b2⟩
    · rw [rl0 e2]; exact ⟨by simp [Instr.sliceBounds, zcj (Nat.le_trans b1 hk)], by omega, by omega, fun _ => b1⟩
    · rw [rl _ e2 _ _ rfl]; exact ⟨by simp [Instr.sliceBounds, zcj b2, zcj (Nat.le_trans b1 hk)], b2, by omega, fun _ => b1⟩
section
variable {ρ : Rho} {h h' : H} {w : World} {s : zf} {a : Act} {v : Value}
theorem evO_rel (hs : SR ρ s a.tmps) {x : Option Operand} {c : Option CO} (hc : coO x = some c) {v : Option Value} (hv : evO s c = some v) :
    (∀ u, v = some u → ∀ k m, u = .int k m → x.map a.eval = some (.int k m)) ∧ (v = none → x.map a.eval = none) := by
  cases x with
  | none => cases hc; cases hv; exact ⟨by simp, by simp⟩
  | some x =>
    obtain ⟨c', hc', rfl⟩ := amf hc
    obtain ⟨u, hu, rfl⟩ := amf hv
    refine ⟨fun u' e k m e' => ?_, by simp⟩
    cases e
    have := zbz hc' hs hu
    rw [e'] at this
    simp [this.inv_int]
theorem s_slice (hr : HR P ρ h w) (hs : SR ρ s a.tmps) {x : Operand} {c : CO} (hc : co x = some c) {lo hi : Option Operand} {lo' hi' : Option CO} (hlo : coO lo = some lo') (hhi : coO hi = some hi') {t e : TypeId} {sz : Nat}
    (h1 : P.underlying t = some (.slice e)) (h3 : zW P e = some sz) (hv : ziv sz c lo' hi' s h = some (v, h')) :
    h' = h ∧ SimP P ρ w ((do pure (Next.value (← Instr.sliceAt t (a.eval x) (lo.map a.eval) (hi.map a.eval) none)) : Sem Next).run P w) v := by
  obtain ⟨u, hu, hv1⟩ := aof hv
  clear hv
  obtain ⟨vl, hvl, hv2⟩ := aof hv1
  clear hv1
  obtain ⟨vh, hvh, hv⟩ := aof hv2
  clear hv2
  have hx := zbz hc hs hu
  obtain ⟨rl, rl0⟩ := evO_rel hs hlo hvl
  obtain ⟨rh, rh0⟩ := evO_rel hs hhi hvh
  have hat : ∀ y, (Instr.sliceAt t y (lo.map a.eval) (hi.map a.eval) none).run P w = (Instr.slice t y (lo.map a.eval) (hi.map a.eval) none).run P w := by
    intro y; simp [Instr.sliceAt, run_underlying h1]
  have hsl : ∀ b n c l m, (Instr.sliceBounds true n c (lo.map a.eval) (hi.map a.eval) none).run P w = .ok (l, m, c) w →
      (Instr.slice t (.slice b n c) (lo.map a.eval) (hi.map a.eval) none).run P w = .ok (.slice (if c = l then b else b.map (·.add (l * sz))) (m - l) (c - l)) w := by
    intro b n c l m hb
    simp only [Instr.slice, Sem.run_bind, run_underlying h1, Result.andThen_ok, hb, z7 h3, Sem.run_pure]
  obtain ⟨base, len, cap, rfl⟩ : ∃ base len cap, u = .slice base len cap := by
    unfold zbk at hv
    split at hv
    · exact ⟨_, _, _, rfl⟩
    · cases hv
  · simp only [zbk] at hv
    split at hv
    ·
      rename_i hcap
      obtain rfl : cap = zk := Nat.eq_of_beq_eq_true hcap
      obtain ⟨ad, hbase, hv1⟩ := aof hv
      clear hv
      subst hbase
      obtain ⟨o, ho, hv⟩ := aof hv1
      clear hv1
      cases o with
      | cells cs esz =>
        simp only [zcN] at hv
        split at hv
        · rename_i hes
          simp only [Bool.and_eq_true] at hes
          obtain rfl : esz = sz := Nat.eq_of_beq_eq_true hes.1
          have hpos : 0 < esz := Nat.blt_eq.mp hes.2
          obtain ⟨h_, hh, hv⟩ := aof hv
          obtain ⟨l_, hl, hv⟩ := amf hv
          cases hv
          refine ⟨rfl, ?_⟩
          generalize a.eval x = y at hx
          cases hx with
          | slice hR hc' hl' => exact (Nat.lt_irrefl zk hc').elim
          | @sliceO i o len cap' R hR he hl' hs' hb =>
            obtain ⟨q1, q2, _⟩ := hr.obj _ _ _ hR ho
            have hkn : (cs.length - o) / esz ≤ cap' := by
              rw [Nat.div_le_iff_le_mul_add_pred hpos]
              rw [← q2, ← q1]; rw [Nat.mul_comm]; omega
            obtain ⟨hb1, hb2, hb3, _⟩ := zbA (P := P) hkn (fun _ => hl') hh hl rl rl0 rh rh0 w
            refine zO (by rw [hat, hsl _ _ _ _ _ hb1]) ?_
            by_cases e : cap' = l_
            · rw [if_pos e]
              have e1 : h_ - l_ = 0 := by omega
              have e2 : cap' - l_ = 0 := by omega
              rw [e1, e2]
              exact .sliceE hR he (by rw [← e, ← q1]; exact hb)
            · rw [if_neg e]
              simp only [Option.map_some, Addr.add_mk, Nat.add_assoc]
              have hmul : l_ * esz + (cap' - l_) * R.esz = cap' * R.esz := by rw [q1, ← Nat.add_mul, Nat.add_sub_cancel' (Nat.le_trans hb2 hb3)]
              exact .sliceO hR he (by omega) (by omega) (by omega)
          | @sliceE i o o' R hR he hb =>
            obtain ⟨q1, q2, _⟩ := hr.obj _ _ _ hR ho
            have hkn : (cs.length - o) / esz ≤ 0 := by
              rw [Nat.div_le_iff_le_mul_add_pred hpos]; omega
            obtain ⟨hb1, hb2, hb3, _⟩ := zbA (P := P) hkn (fun _ => Nat.le_refl _) hh hl rl rl0 rh rh0 w
            obtain rfl : h_ = 0 := by omega
            obtain rfl : l_ = 0 := by omega
            refine zO (by rw [hat, hsl _ _ _ _ _ hb1]) ?_
            simp only [if_true, Nat.sub_self, Nat.zero_mul, Nat.add_zero]
            exact .sliceE hR he hb
        · cases hv
      | map _ _ => cases hv
      | loop _ _ _ _ => cases hv
      | dead => cases hv
    ·
      rename_i hcap
      have hcap' : cap ≠ zk := by intro e; rw [e] at hcap; exact hcap (by simp)
      obtain ⟨h_, hh, hv⟩ := aof hv
      obtain ⟨l_, hl, hv⟩ := amf hv
      cases hv
      refine ⟨rfl, ?_⟩
      generalize a.eval x = y at hx
      cases hx with
      | sliceNil =>
        obtain ⟨hb1, hb2, hb3, _⟩ := zbA (P := P) (Nat.le_refl 0) (fun _ => Nat.le_refl 0) hh hl rl rl0 rh rh0 w
        obtain rfl : h_ = 0 := by omega
        obtain rfl : l_ = 0 := by omega
        exact zO (by rw [hat, hsl _ _ _ _ _ hb1]) (by simpa using VR.sliceNil)
      | slice hR hc' hl' =>
        obtain ⟨hb1, hb2, hb3, _⟩ := zbA (P := P) (Nat.le_refl cap) (fun _ => hl') hh hl rl rl0 rh rh0 w
        refine zO (by rw [hat, hsl _ _ _ _ _ hb1]) ?_
        by_cases e : cap = l_
        · have e3 : Nat.beq cap l_ = true := by rw [e]; simp
          rw [if_pos e, if_pos e3]
          exact .slice hR (by omega) (by omega)
        · have e3 : ¬ Nat.beq cap l_ = true := by intro h; exact e (Nat.eq_of_beq_eq_true h)
          rw [if_neg e, if_neg e3]
          simp only [Option.map_some, Addr.add_mk, Nat.add_assoc]
          exact .slice hR (by omega) (by omega)
      | sliceO hR _ _ _ _ => exact absurd rfl hcap'
      | sliceE hR _ _ => exact absurd rfl hcap'
      | sliceD hR hm =>
        obtain ⟨hb1, hb2, hb3, _⟩ := zbA (P := P) (Nat.le_refl 0) (fun _ => Nat.le_refl 0) hh hl rl rl0 rh rh0 w
        obtain rfl : h_ = 0 := by omega
        obtain rfl : l_ = 0 := by omega
        exact zO (by rw [hat, hsl _ _ _ _ _ hb1]) (by simpa using VR.sliceD hR hm)
theorem findE_nil (l : KK) (k : Value) : zeZ l k [] = some none := rfl
def EntR (ρ : Rho) (e : Value × Value × Nat) (e' : MapEntry) : Prop := VR ρ e.1 e'.key ∧ VR ρ e.2.1 e'.val ∧ e'.born = e.2.2
def zdh (ρ : Rho) (es : List (Value × Value × Nat)) (es' : List MapEntry) : Prop := es.length = es'.length ∧ ∀ (j : Nat) e, es[j]? = some e → ∃ e', es'[j]? = some e' ∧ EntR ρ e e'
theorem zdh.cons_left {ρ : Rho} {e : Value × Value × Nat} {es es'} (h : zdh ρ (e :: es) es') : ∃ e' es'', es' = e' :: es'' ∧ EntR ρ e e' ∧ zdh ρ es es'' := by
  cases es' with
  | nil => simp [zdh] at h
  | cons e' es'' =>
    obtain ⟨x, hx, hr⟩ := h.2 0 e rfl
    simp at hx; subst hx
    exact ⟨e', es'', rfl, hr, by have := h.1; simpa using this, fun j y hy => by have := h.2 (j + 1) y (by simpa using hy); simpa using this⟩
theorem zdh.cons {ρ : Rho} {e : Value × Value × Nat} {e' : MapEntry} {es es'} (h : EntR ρ e e') (hs : zdh ρ es es') : zdh ρ (e :: es) (e' :: es') := by
  refine ⟨by simp [hs.1], fun j y hy => ?_⟩
  cases j with
  | zero => simp at hy; subst hy; exact ⟨e', rfl, h⟩
  | succ j => simpa using hs.2 j y (by simpa using hy)
theorem zdh.nil_left {ρ : Rho} {es'} (h : zdh ρ [] es') : es' = [] := by have := h.1; cases es' <;> simp_all
theorem zdD {kk : KK} {k x : Value} {b : Bool} (h : zbh kk k x = some b) :
    (kk = .int ∧ ∃ q m n, k = .int q m ∧ x = .int q n ∧ b = (m == n)) ∨ (∃ l xs ys, kk = .leaves l ∧ k = .agg xs ∧ x = .agg ys ∧ sameAt xs.toList ys.toList l = some b) := by
  unfold zbh at h
  split at h
  · split at h
    · rename_i e; subst e; cases h; exact .inl ⟨rfl, _, _, _, rfl, rfl, zcs _ _⟩
    · cases h
  · exact .inr ⟨_, _, _, rfl, rfl, rfl, h⟩
  · cases h
theorem zdl {kt : TypeId} {kk : KK} (hl : zcz P kt = some kk) {ρ : Rho} {k k' x x' : Value} (hk : VR ρ k k') (hx : VR ρ x x') {b : Bool} (h : zbh kk k x = some b) (w : World) :
    (Op.equal kt k' x').run P w = .ok b w ∧ ((kk = .int ∧ ∃ d, P.underlying kt = some d ∧ Instr.sameNow d k' x' = some b) ∨ (∃ l, kk = .leaves l ∧ ∃ d, P.underlying kt = some d ∧ ∀ y, Instr.sameNow d k' y = none)) := by
  obtain ⟨u, hu, hl⟩ := aof hl
  rcases zdD h with ⟨rfl, q, m, n, rfl, rfl, rfl⟩ | ⟨l, xs, ys, rfl, rfl, rfl, hs⟩
  · rw [hk.inv_int, hx.inv_int]
    cases u with
    | int q0 => exact ⟨by simpa [Op.equal, Op.maxDepth] using run_equalIn_int w 9999 kt q q0 m n hu, .inl ⟨rfl, _, hu, by simp [Instr.sameNow]⟩⟩
    | _ => simp at hl
  · obtain ⟨xs', rfl, hxs⟩ := hk.inv_agg
    obtain ⟨ys', rfl, hys⟩ := hx.inv_agg
    have hlv : zeP P kt = some l := by
      cases u with
      | int q => simp at hl
      | _ => simpa using hl
    exact ⟨zgN hlv 9998 _ _ w (zf7 hxs hys hs), .inr ⟨l, rfl, u, hu, fun y => by cases u <;> rfl⟩⟩
end
end Go.Ideal
namespace Go.Ideal
variable {P : Program}
theorem zjj {xs ys : List Value} : ∀ {l : List Nat} {b : Bool}, sameAt xs ys l = some b → ∀ i ∈ l, ∃ k m, xs[i]? = some (.int k m)
  | [], _, _, i, hi => by cases hi
  | j :: r, b, h, i, hi => by
    obtain ⟨k, m, n, c, h1, h2, h3, rfl⟩ := zdE h
    rcases List.mem_cons.1 hi with rfl | hi
    · exact ⟨k, m, h1⟩
    · exact zjj h3 i hi
theorem zgR (e : Bool) (d : Nat) {t : TypeId} (ht : zgK P t = true) (k : IntKind) (m : Int) (w : World) : (Instr.checkKey e (d + 1) t (.int k m)).run P w = .ok () w := by
  obtain ⟨q, hq⟩ := zdc ht
  simp [Instr.checkKey, run_underlying hq]
theorem zh2 {α : Type} (f : α → Sem Unit) (w : World) : ∀ (l : List α), (∀ a ∈ l, (f a).run P w = .ok () w) → (forIn l PUnit.unit fun a _ => do f a; pure (.yield PUnit.unit)).run P w = .ok PUnit.unit w
  | [], _ => by simp
  | a :: l, h => by
    simp only [List.forIn_cons, Sem.run_bind, h a (by simp), Result.andThen_ok, Sem.run_pure]
    exact zh2 f w l (fun b hb => h b (by simp [hb]))
theorem zgQ {kt : TypeId} {kk : KK} (hl : zcz P kt = some kk) {ρ : Rho} {k k' : Value} (hk : VR ρ k k') {b : Bool} (h : zbh kk k k = some b) (e : Bool) (d : Nat) (w : World) : (Instr.checkKey e (d + 2) kt k').run P w = .ok () w := by
  obtain ⟨u, hu, hl⟩ := aof hl
  rcases zdD h with ⟨rfl, q, m, n, rfl, -, -⟩ | ⟨l, xs, ys, rfl, rfl, -, hs⟩
  · rw [hk.inv_int]
    cases u with
    | int q0 => simp [Instr.checkKey, run_underlying hu]
    | _ => simp at hl
  · obtain ⟨xs', rfl, hxs⟩ := hk.inv_agg
    have hlv : zeP P kt = some l := by
      cases u with
      | int q => simp at hl
      | _ => simpa using hl
    obtain ⟨u', hu', hlv⟩ := aof hlv
    rw [hu] at hu'; cases hu'
    have hcell : ∀ i ∈ l, ∃ kk m, xs'[i]? = some (.int kk m) := by
      intro i hi
      obtain ⟨kk, m, hx⟩ := zjj hs i hi
      have := hxs.int_at hx
      exact ⟨kk, m, by simpa using this⟩
    cases u with
    | struct fs =>
      dsimp only at hlv
      split at hlv
      · cases hlv
      · split at hlv
        · rename_i hall
          cases hlv
          rw [Instr.checkKey]
          simp only [Sem.run_bind, run_underlying hu, Result.andThen_ok]
          rw [← Array.forIn_toList]
          have : ∀ (l : List Field), (∀ f ∈ l, f ∈ fs.toList) → (forIn l PUnit.unit fun (f : Field) _ => if f.name ≠ "_" then (do let a ← part f.type xs' f.offset; Instr.checkKey e (d + 1) f.type a; pure (ForInStep.yield PUnit.unit)) else pure (ForInStep.yield PUnit.unit)).run P w = .ok PUnit.unit w := by
            intro l
            induction l with
            | nil => intro _; simp
            | cons f l ih =>
              intro hsub
              have hf := List.all_eq_true.1 hall f (hsub f (by simp))
              simp only [Bool.and_eq_true] at hf
              obtain ⟨kk, m, hc⟩ := hcell f.offset (List.mem_map.2 ⟨f, hsub f (by simp), rfl⟩)
              have hn : f.name ≠ "_" := by simpa using hf.1
              simp only [List.forIn_cons, if_pos hn, Sem.run_bind, zbn hf.2 hc, zgR e d hf.2, Result.andThen_ok, Sem.run_pure]
              exact ih (fun g hg => hsub g (by simp [hg]))
          have := this fs.toList (fun _ h => h)
          simp only [this, Result.andThen_ok, Sem.run_pure]
        · cases hlv
    | array n el =>
      dsimp only at hlv
      split at hlv
      · rename_i hp
        cases hlv
        simp only [Bool.and_eq_true, beq_iff_eq] at hp
        rw [Instr.checkKey]
        simp only [Sem.run_bind, run_underlying hu, Result.andThen_ok]
        rw [Std.Legacy.Range.forIn_eq_forIn_range']
        simp only [Std.Legacy.Range.size, Nat.sub_zero, Nat.add_sub_cancel, Nat.div_one, ← List.range_eq_range']
        have : ∀ (l : List Nat), (∀ f ∈ l, f ∈ List.range n) → (forIn l PUnit.unit fun i _ => do let z ← sizeOf el; let a ← part el xs' (i * z); Instr.checkKey e (d + 1) el a; pure (ForInStep.yield PUnit.unit)).run P w = .ok PUnit.unit w := by
          intro l
          induction l with
          | nil => intro _; simp
          | cons f l ih =>
            intro hsub
            obtain ⟨kk, m, hc⟩ := hcell f (hsub f (by simp))
            simp only [List.forIn_cons, Sem.run_bind, z7 hp.2, Nat.mul_one, zbn hp.1 hc, zgR e d hp.1, Result.andThen_ok, Sem.run_pure]
            exact ih (fun g hg => hsub g (by simp [hg]))
        have := this (List.range n) (fun _ h => h)
        simp only [this, Result.andThen_ok, Sem.run_pure]
      · cases hlv
    | _ => cases hlv
def zgC (ρ : Rho) (es' : List MapEntry) (i : Nat) : Option Value → Option (Nat × Value) → Prop
  | none, none => True
  | some v, some p => i ≤ p.1 ∧ ∃ e', es'[p.1 - i]? = some e' ∧ e'.val = p.2 ∧ VR ρ v p.2
  | _, _ => False
theorem zgC.step {ρ : Rho} {es' : List MapEntry} {e' : MapEntry} {i : Nat} {r : Option Value} {r' : Option (Nat × Value)} (h : zgC ρ es' (i + 1) r r') : zgC ρ (e' :: es') i r r' := by
  cases r with
  | none => cases r' <;> exact h
  | some v => cases r' with
    | none => exact h
    | some p =>
      obtain ⟨hj, e2, he2, hv2⟩ := h
      refine ⟨by omega, e2, ?_, hv2⟩
      have : p.1 - i = (p.1 - (i + 1)) + 1 := by omega
      rw [this]; simpa using he2
theorem zh4 {kt : TypeId} (hl : zcz P kt = some .int) {d : TypeDesc} (hd : P.underlying kt = some d) {ρ : Rho} {k k' : Value} (hk : VR ρ k k') :
    ∀ (es : List (Value × Value × Nat)) (es' : List MapEntry) (r : Option Value) (i : Nat), zdh ρ es es' → zeZ .int k es = some r →
      ∃ r', Instr.findNow d k' es' i = some r' ∧ zgC ρ es' i r r'
  | [], es', r, i, he, h => by cases h; rw [he.nil_left]; exact ⟨none, rfl, trivial⟩
  | (key, v, b) :: es, es', r, i, he, h => by
    obtain ⟨e', es'', rfl, her, hrest⟩ := he.cons_left
    obtain ⟨c, hc, h⟩ := aof h
    obtain ⟨_, hn⟩ := zdl hl hk her.1 hc (default : World)
    rcases hn with ⟨_, d', hd', hn⟩ | ⟨l, hl', _⟩
    · rw [hd] at hd'; cases hd'
      cases c with
      | true =>
        cases h
        exact ⟨some (i, e'.val), by simp [Instr.findNow, hn], Nat.le_refl _, e', by simp, rfl, her.2.1⟩
      | false =>
        obtain ⟨r', h1, h2⟩ := zh4 hl hd hk es es'' r (i + 1) hrest h
        exact ⟨r', by simp [Instr.findNow, hn, h1], h2.step⟩
    · cases hl'
theorem ze4 {kt : TypeId} {kk : KK} (hl : zcz P kt = some kk) {ρ : Rho} {k k' : Value} (hk : VR ρ k k') (w : World) :
    ∀ (es : List (Value × Value × Nat)) (es' : List MapEntry) (r : Option Value) (i : Nat), zdh ρ es es' → zeZ kk k es = some r →
      ∃ r', (Instr.findAsking kt k' es' i).run P w = .ok r' w ∧ zgC ρ es' i r r'
  | [], es', r, i, he, h => by cases h; rw [he.nil_left]; exact ⟨none, rfl, trivial⟩
  | (key, v, b) :: es, es', r, i, he, h => by
    obtain ⟨e', es'', rfl, her, hrest⟩ := he.cons_left
    obtain ⟨c, hc, h⟩ := aof h
    obtain ⟨hq, _⟩ := zdl hl hk her.1 hc w
    cases c with
    | true =>
      cases h
      exact ⟨some (i, e'.val), by simp [Instr.findAsking, hq], Nat.le_refl _, e', by simp, rfl, her.2.1⟩
    | false =>
      obtain ⟨r', h1, h2⟩ := ze4 hl hk w es es'' r (i + 1) hrest h
      exact ⟨r', by simp [Instr.findAsking, hq, h1], h2.step⟩
theorem findKey_run {kt : TypeId} {kk : KK} (hl : zcz P kt = some kk) {ρ : Rho} {k k' : Value} (hk : VR ρ k k') {b : Bool} (hself : zbh kk k k = some b) (w : World)
    {es : List (Value × Value × Nat)} {es' : List MapEntry} {r : Option Value} (he : zdh ρ es es') (h : zeZ kk k es = some r) :
    ∃ r', (Instr.findKey kt k' es').run P w = .ok r' w ∧ zgC ρ es' 0 r r' := by
  obtain ⟨u, hu, hl0⟩ := aof hl
  obtain ⟨hself', hn⟩ := zdl hl hk hk hself w
  rcases hn with ⟨rfl, d, hd, hn⟩ | ⟨l, rfl, d, hd, hn⟩
  · obtain ⟨r', h1, h2⟩ := zh4 hl hd hk es es' r 0 he h
    exact ⟨r', by simp [Instr.findKey, run_underlying hd, h1], h2⟩
  · cases es' with
    | nil =>
      have : es = [] := by have := he.1; cases es <;> simp_all
      subst this
      cases h
      exact ⟨none, by simp [Instr.findKey, run_underlying hd, Instr.findNow], trivial⟩
    | cons e' es'' =>
      obtain ⟨r', h1, h2⟩ := ze4 hl hk w es (e' :: es'') r 0 he h
      exact ⟨r', by simp only [Instr.findKey, Sem.run_bind, run_underlying hd, Result.andThen_ok, Instr.findNow, hn]; exact h1, h2⟩
section
variable {ρ : Rho} {h h' : H} {w : World} {s : zf} {a : Act} {v : Value}
theorem zdn {r : Nat} {es : Array MapEntry} {clock : Nat} (hb : w.heap[r]? = some (.map es clock)) : (getObj r).run P w = .ok (.map es clock) w := by
  simp [getObj, Sem.run, hb]
theorem zji {r : Nat} {es : Array MapEntry} {clock : Nat} (o : Obj) (hb : w.heap[r]? = some (.map es clock)) : (setObj r o).run P w = .ok () { w with heap := w.heap.setIfInBounds r o } := by
  simp [setObj, Sem.run, hb]
theorem zdh.of_OR {R : RB} {es : List (Value × Value × Nat)} {clock : Nat} (ho : OR P ρ w R (.map es clock)) : ∃ es' : Array MapEntry, w.heap[R.blk]? = some (.map es' clock) ∧ zdh ρ es es'.toList := by
  obtain ⟨es', h1, h2, h3⟩ := ho
  exact ⟨es', h1, by simpa using h2, fun j e he => by obtain ⟨e', a, b, c, d⟩ := h3 j e he; exact ⟨e', by simpa using a, b, c, d⟩⟩
theorem s_lookup (hr : HR P ρ h w) (hs : SR ρ s a.tmps) {x y : Operand} {c d : CO} (hc : co x = some c) (hd : co y = some d) {t kt e : TypeId} {kk : KK} {z : Value} {ok : Bool} (h1 : P.underlying t = some (.map kt e)) (h2 : zcz P kt = some kk)
    (h3 : ∀ w, (zeroValue e).run P w = .ok z w) (hz : zif z = true) (hv : zfq kk z ok c d s h = some (v, h')) :
    h' = h ∧ SimP P ρ w ((do pure (Next.value (← Instr.lookup t (a.eval x) (a.eval y) ok)) : Sem Next).run P w) v := by
  obtain ⟨m, hm, hv1⟩ := aof hv
  obtain ⟨k, hk, hv2⟩ := aof hv1
  obtain ⟨b, hb, hv3⟩ := aof hv2
  obtain ⟨es, hes, hv4⟩ := aof hv3
  obtain ⟨r, hr', e'⟩ := amf hv4
  clear hv hv1 hv2 hv3 hv4
  cases e'
  have hx := zbz hc hs hm
  have hy := zbz hd hs hk
  refine ⟨rfl, ?_⟩
  generalize a.eval x = X at hx
  generalize a.eval y = Y at hy
  have hck : ∀ e, (Instr.checkKey e 10000 kt Y).run P w = .ok () w := fun e => zgQ h2 hy hb e 9998 w
  have key : ∀ es' : Array MapEntry, zdh ρ es es'.toList →
      ∃ v', VR ρ (zed z ok r) v' ∧ ∃ r', (Instr.findKey kt Y es'.toList).run P w = .ok r' w ∧
        ((r' = none ∧ v' = (if ok then .tuple #[z, .bool false] else z)) ∨ (∃ p : Nat × Value, r' = some p ∧ v' = (if ok then .tuple #[p.2, .bool true] else p.2))) := by
    intro es' he
    obtain ⟨r', hf, hrel⟩ := findKey_run h2 hy hb w he hr'
    cases r with
    | none =>
      cases r' with
      | none =>
        refine ⟨_, ?_, none, hf, .inl ⟨rfl, rfl⟩⟩
        cases ok
        · exact VR.refl hz
        · exact VR.tuple_of (.cons (VR.refl hz) (.cons (.bool false) (.nil _)))
      | some p => exact hrel.elim
    | some u =>
      cases r' with
      | none => exact hrel.elim
      | some p =>
        obtain ⟨_, e', _, _, hv⟩ := hrel
        refine ⟨_, ?_, some p, hf, .inr ⟨p, rfl, rfl⟩⟩
        cases ok
        · exact hv
        · exact VR.tuple_of (.cons hv (.cons (.bool true) (.nil _)))
  unfold zbK at hes
  split at hes
  · cases hes; cases hx
    obtain ⟨v', hv', r', hf, hcase⟩ := key #[] ⟨rfl, by simp⟩
    refine zO ?_ hv'
    rcases hcase with ⟨rfl, rfl⟩ | ⟨p, rfl, rfl⟩
    · simp only [Instr.lookup, Sem.run_bind, run_underlying h1, Result.andThen_ok, Sem.run_pure, hck, hf, h3]
    · simp only [Instr.lookup, Sem.run_bind, run_underlying h1, Result.andThen_ok, Sem.run_pure, hck, hf]
  · rename_i i
    split at hes
    · rename_i es0 clock ho
      cases hes
      cases hx with
      | map hR =>
        obtain ⟨es', q1, q2⟩ := zdh.of_OR (hr.obj _ _ _ hR ho)
        obtain ⟨v', hv', r', hf, hcase⟩ := key es' q2
        refine zO ?_ hv'
        rcases hcase with ⟨rfl, rfl⟩ | ⟨p, rfl, rfl⟩
        · simp only [Instr.lookup, Sem.run_bind, run_underlying h1, Result.andThen_ok, Sem.run_pure, zdn q1, hck, hf, h3]
        · simp only [Instr.lookup, Sem.run_bind, run_underlying h1, Result.andThen_ok, Sem.run_pure, zdn q1, hck, hf]
    · cases hes
  · cases hes
end
theorem minmax_cons {isMax : Bool} {k : IntKind} {m : Int} {y : Value} {l : List Value} {r : Value} (h : zco isMax (.int k m) (y :: l) = some r) :
    ∃ n, y = .int k n ∧ zco isMax (.int k (if isMax then (if m < n then n else m) else (if n < m then n else m))) l = some r := by
  cases y <;> simp only [zco, reduceCtorEq] at h
  rename_i k' n
  split at h
  · rename_i e; subst e
    refine ⟨n, rfl, ?_⟩
    rw [← h]
    congr 2
    cases isMax
    · simp only [zcT, Bool.false_eq_true, if_false]; by_cases c : n < m <;> simp [c]
    · simp only [zcT, if_true]; by_cases c : m < n <;> simp [c]
  · cases h
theorem zgc {ρ : Rho} {w : World} (isMax : Bool) : ∀ (l : List Value) (k : IntKind) (m : Int) (r : Value) (ys : List Value), zco isMax (.int k m) l = some r → VRL ρ l ys → (∃ n, r = .int k n) ∧ (ys.foldlM (if isMax then Builtin.max2 else Builtin.min2) (.int k m)).run P w = .ok r w
  | [], k, m, r, ys, h, hv => by cases h; rw [hv.nil_left]; exact ⟨⟨_, rfl⟩, by simp⟩
  | y :: l, k, m, r, ys, h, hv => by
    obtain ⟨y', ys', rfl, h1, h2⟩ := hv.cons_left
    obtain ⟨n, rfl, h3⟩ := minmax_cons h
    obtain ⟨q, hq⟩ := zgc isMax l k _ r ys' h3 h2
    refine ⟨q, ?_⟩
    rw [List.foldlM_cons, h1.inv_int]
    cases isMax
    · simp only [Bool.false_eq_true, if_false, Sem.run_bind, Builtin.min2, Sem.run_pure, Result.andThen_ok] at hq ⊢
      exact hq
    · simp only [if_true, Sem.run_bind, Builtin.max2, Sem.run_pure, Result.andThen_ok, gt_iff_lt] at hq ⊢
      exact hq
theorem evL_args {ρ : Rho} {s : zf} {a : Act} (hs : SR ρ s a.tmps) {xs : Array Operand} {cs : List CO} {vs : List Value} (hc : allO co xs.toList = some cs) (hv : evL s cs = some vs) : VRL ρ vs (xs.map a.eval).toList := by
  rw [Array.toList_map]; exact coL_ev hs hc hv
section
variable {ρ : Rho} {h h' : H} {w : World} {s : zf} {a : Act} {v : Value}
theorem s_blt (hr : HR P ρ h w) {b : Builtin} {ts : Array TypeId} {cb : CB} (hcb : zbL P b ts = some cb) (hna : ∀ x y, cb ≠ .append x y) (hnc : ∀ z, cb ≠ .clear z) {vs : List Value} {args : Array Value} (hargs : VRL ρ vs args.toList) (hv : bltV h cb vs = some (v, h')) (type : TypeId) (cs : Array Bool) :
    h' = h ∧ SimP P ρ w ((builtin b ts type cs args).run P w) v := by
  cases b <;> simp only [zbL, reduceCtorEq] at hcb
  case append =>
    split at hcb
    · obtain ⟨u, hu, hcb⟩ := aof hcb
      obtain ⟨u1, hu1, hcb⟩ := aof hcb
      split at hcb
      · obtain ⟨i, hi, hcb⟩ := aof hcb
        obtain ⟨z, hz, hcb⟩ := aof hcb
        split at hcb
        · cases hcb
        · cases hcb; exact absurd rfl (hna _ _)
      · cases hcb
    · cases hcb
  case clear =>
    obtain ⟨t, ht, hcb⟩ := aof hcb
    obtain ⟨u, hu, hcb⟩ := aof hcb
    cases u <;> simp only [reduceCtorEq] at hcb
    obtain ⟨z, hz, hcb⟩ := aof hcb
    split at hcb
    · cases hcb
    · cases hcb; exact absurd rfl (hnc _)
  case len =>
    obtain ⟨t, ht, hcb⟩ := aof hcb
    obtain ⟨u, hu, hcb⟩ := aof hcb
    have hts : ts[0]? = some t := ht
    cases u <;> simp only [Option.some.injEq, reduceCtorEq] at hcb
    case string =>
      subst hcb
      cases vs with
      | nil => simp [bltV] at hv
      | cons x l =>
        obtain ⟨y, ys, hys, h1, h2⟩ := hargs.cons_left
        have hy : args[0]? = some y := by rw [← Array.getElem?_toList, hys]; rfl
        cases x <;> cases l <;> simp only [bltV, Option.some.injEq, Prod.mk.injEq, reduceCtorEq] at hv
        obtain ⟨rfl, rfl⟩ := hv
        rw [h1.inv_str] at hy
        exact ⟨rfl, zO (v' := .int .i64 _) (by simp [Builtin.len_, hts, hy, run_underlying hu, goInt]) (.int _ _)⟩
    case slice e =>
      subst hcb
      cases vs with
      | nil => simp [bltV] at hv
      | cons x l =>
        obtain ⟨y, ys, hys, h1, h2⟩ := hargs.cons_left
        have hy : args[0]? = some y := by rw [← Array.getElem?_toList, hys]; rfl
        cases x <;> cases l <;> simp only [bltV, Option.some.injEq, Prod.mk.injEq, reduceCtorEq] at hv
        obtain ⟨rfl, rfl⟩ := hv
        obtain ⟨b', c', rfl, _⟩ := h1.inv_slice
        exact ⟨rfl, zO (v' := .int .i64 _) (by simp [Builtin.len_, hts, hy, run_underlying hu, goInt]) (.int _ _)⟩
    case map k e =>
      subst hcb
      cases vs with
      | nil => simp [bltV] at hv
      | cons x l =>
        obtain ⟨y, ys, hys, h1, h2⟩ := hargs.cons_left
        have hy : args[0]? = some y := by rw [← Array.getElem?_toList, hys]; rfl
        cases x with
        | map r =>
          cases l with
          | cons z l => cases r <;> simp [bltV] at hv
          | nil =>
            cases r with
            | none =>
              simp only [bltV, Option.some.injEq, Prod.mk.injEq] at hv
              obtain ⟨rfl, rfl⟩ := hv
              obtain ⟨b', rfl, hb⟩ := h1.inv_map
              obtain rfl := zhQ hb
              exact ⟨rfl, zO (v' := .int .i64 0) (by simp [Builtin.len_, hts, hy, run_underlying hu, goInt]) (.int _ _)⟩
            | some r =>
              simp only [bltV] at hv
              split at hv
              · rename_i es clock ho
                simp only [Option.some.injEq, Prod.mk.injEq] at hv
                obtain ⟨rfl, rfl⟩ := hv
                cases h1 with
                | map hR =>
                  obtain ⟨es', q1, q2⟩ := zdh.of_OR (hr.obj _ _ _ hR ho)
                  have hl : es.length = es'.size := by have := q2.1; simpa using this
                  exact ⟨rfl, zO (v' := .int .i64 es.length) (by simp [Builtin.len_, hts, hy, run_underlying hu, goInt, zdn q1, hl]) (.int _ _)⟩
              · cases hv
        | _ => cases l <;> simp [bltV] at hv
  case max =>
    cases hcb
    cases vs with
    | nil => simp [bltV] at hv
    | cons x l =>
      simp only [bltV] at hv
      obtain ⟨r, hr', e⟩ := amf hv
      cases e
      obtain ⟨y, ys, hys, h1, h2⟩ := hargs.cons_left
      refine ⟨rfl, ?_⟩
      cases l with
      | nil =>
        cases hr'
        have := h2.nil_left; subst this
        exact zO (by simp [Builtin.max_, hys]) h1
      | cons z l =>
        obtain ⟨k, m, rfl⟩ : ∃ k m, x = .int k m := by
          cases x <;> first | exact ⟨_, _, rfl⟩ | (simp [zco] at hr')
        obtain ⟨⟨n, rfl⟩, hq⟩ := zgc (P := P) (w := w) true (z :: l) _ _ _ ys hr' h2
        rw [h1.inv_int] at hys
        exact zO (by simpa [Builtin.max_, hys] using hq) (.int _ _)
  case min =>
    cases hcb
    cases vs with
    | nil => simp [bltV] at hv
    | cons x l =>
      simp only [bltV] at hv
      obtain ⟨r, hr', e⟩ := amf hv
      cases e
      obtain ⟨y, ys, hys, h1, h2⟩ := hargs.cons_left
      refine ⟨rfl, ?_⟩
      cases l with
      | nil =>
        cases hr'
        have := h2.nil_left; subst this
        exact zO (by simp [Builtin.min_, hys]) h1
      | cons z l =>
        obtain ⟨k, m, rfl⟩ : ∃ k m, x = .int k m := by
          cases x <;> first | exact ⟨_, _, rfl⟩ | (simp [zco] at hr')
        obtain ⟨⟨n, rfl⟩, hq⟩ := zgc (P := P) (w := w) false (z :: l) _ _ _ ys hr' h2
        rw [h1.inv_int] at hys
        exact zO (by simpa [Builtin.min_, hys] using hq) (.int _ _)
end
end Go.Ideal
namespace Go.Ideal
variable {P : Program}
def Sim (P : Program) (ρ : Rho) (w : World) (r : Result Next) (v : Value) (h' : H) : Prop :=
  ∃ n v' w' σ, r = .ok n w' ∧ (n = .value v' ∨ (n = .skip ∧ v' = undef)) ∧ VR σ v v' ∧ HR P σ h' w' ∧ Ext ρ w σ w'
theorem SimP.sim {ρ : Rho} {h : H} {w : World} {r : Result Next} {v : Value} (hs : SimP P ρ w r v) (hr : HR P ρ h w) : Sim P ρ w r v h := by
  obtain ⟨v', h1, h2⟩ := hs
  exact ⟨_, v', w, ρ, h1, .inl rfl, h2, hr, .refl _ _⟩
def SimA (P : Program) (ρ : Rho) (w : World) (r : Result Next) (i : Nat) (v : Value) (io : IObj) : Prop :=
  ∃ v' o R, r = .ok (.value v') (w.alloc o) ∧ R.blk = w.heap.size ∧ VR (upd ρ i R) v v' ∧ OR P (upd ρ i R) (w.alloc o) R io ∧ Calm o
theorem SimA.sim {ρ : Rho} {h : H} {w : World} {r : Result Next} {v : Value} {io : IObj} (hs : SimA P ρ w r h.next v io) (hr : HR P ρ h w) : Sim P ρ w r v (h.new io) := by
  obtain ⟨v', o, R, h1, h2, h3, h4, h5⟩ := hs
  obtain ⟨q1, q2⟩ := hr.new h2 h5 h4
  exact ⟨_, v', _, _, h1, .inl rfl, h3, q1, q2⟩
theorem zeN (t : TypeId) (c : Array Value) (w : World) : (newRow t c).run P w = .ok ⟨w.heap.size, 0, none⟩ (w.alloc (.cells c t)) := by
  simp [newRow]
theorem OR.row {ρ : Rho} {w : World} {i : Nat} {cs : List Value} {c : Array Value} (t : TypeId) (hi : ρ i = none) (hv : VRL ρ cs c.toList) :
    OR P (upd ρ i ⟨w.heap.size, 0, c.size, 0, cs.length, none⟩) (w.alloc (.cells c t)) ⟨w.heap.size, 0, c.size, 0, cs.length, none⟩ (.cells cs 0) := by
  have hl : cs.length = c.size := by have := hv.1; simpa using this
  exact OR.newCells t rfl rfl rfl rfl rfl rfl (by omega) (by rw [List.take_of_length_le (by simp [hl])]; exact hv.mono (zdS _ hi))
section
variable {ρ : Rho} {h h' : H} {w : World} {s : zf} {a : Act} {v : Value}
theorem s_alloc {i : Nat} (hi : ρ i = none) {t : TypeId} {z : List Value} (hz : zbm P t = some z) :
    SimA P ρ w ((do pure (Next.value (← Instr.alloc t true (.tuple #[]))) : Sem Next).run P w) i (.pointer (some ⟨i, 0, none⟩)) (.cells z 0) := by
  obtain ⟨⟨zv, hzv, hzr⟩, hzc⟩ := zbZ hz
  have hv : VRL ρ z zv.cells.toList := by rw [hzv]; exact VRL.refl1 hzc
  refine ⟨.pointer (some ⟨w.heap.size, 0, none⟩), .cells zv.cells t, _, ?_, rfl, ?_, OR.row t hi hv, zbx _ _⟩
  · simp [Instr.alloc, hzr, newVar, zeN]
  · have := VR.ptr (ρ := upd ρ i ⟨w.heap.size, 0, zv.cells.size, 0, z.length, none⟩) (o := 0) (zV _ _ _)
    simpa using this
theorem s_box (hs : SR ρ s a.tmps) {i : Nat} (hi : ρ i = none) {t : TypeId} {x : Operand} {c : CO} (hc : co x = some c) {u : Value} (hu : c.ev s = some u) :
    SimA P ρ w ((do pure (Next.value (← Instr.box t (a.eval x))) : Sem Next).run P w) i (.pointer (some ⟨i, 0, none⟩)) (.cells (zj u) 0) := by
  have hx := (zbz hc hs hu).cells
  refine ⟨.pointer (some ⟨w.heap.size, 0, none⟩), .cells (a.eval x).cells t, _, ?_, rfl, ?_, OR.row t hi hx, zbx _ _⟩
  · simp [Instr.box, newVar, zeN]
  · have := VR.ptr (ρ := upd ρ i ⟨w.heap.size, 0, (a.eval x).cells.size, 0, (zj u).length, none⟩) (o := 0) (zV _ _ _)
    simpa using this
theorem zbI (z : List Value) : ∀ n, (zl z n).length = n * z.length
  | 0 => by simp [zl]
  | n + 1 => by simp [zl, zbI z n, Nat.add_mul, Nat.add_comm]
theorem zhL (z : List Value) (hz : 0 < z.length) : ∀ n j, j < n * z.length → (zl z n)[j]? = z[j % z.length]?
  | 0, j, hj => by simp at hj
  | n + 1, j, hj => by
    rw [zl, List.getElem?_append]
    split
    · rename_i h; rw [Nat.mod_eq_of_lt h]
    · rename_i h
      rw [zhL z hz n (j - z.length) (by rw [Nat.add_mul] at hj; omega)]
      congr 1
      exact (Nat.mod_eq_sub_mod (by omega)).symm
theorem zhs {ρ : Rho} {z : List Value} {zv : Array Value} (hv : VRL ρ z zv.toList) (n m : Nat) (hm : m = n * z.length) : VRL ρ (zl z n) (((Array.range m).map (zv[· % zv.size]!)).toList) := by
  have hl : z.length = zv.size := by have := hv.1; simpa using this
  refine ⟨by rw [zbI]; simp [hm], fun j x y hx hy => ?_⟩
  have hj : j < n * z.length := by
    have := (List.getElem?_eq_some_iff.1 hx).1
    rwa [zbI] at this
  have hz : 0 < z.length := by
    rcases Nat.eq_zero_or_pos z.length with e | e
    · rw [e] at hj; simp at hj
    · exact e
  rw [zhL z hz n j hj] at hx
  have hlt : j % z.length < zv.size := by rw [← hl]; exact Nat.mod_lt _ hz
  simp only [Array.toList_map, List.getElem?_map] at hy
  have hr : (Array.range m).toList[j]? = some j := by simp [hm, hj]
  rw [hr] at hy
  simp only [Option.map_some, Option.some.injEq] at hy
  subst hy
  rw [← hl, getElem!_pos zv (j % z.length) hlt]
  exact hv.2 _ _ _ hx (by simp [hlt])
theorem zgO (hs : SR ρ s a.tmps) (sz : Nat) :
    ∀ {ps : List (Nat × Operand)} {qs : List (Nat × CO)} {l : List (Nat × Nat × Value)}, allO (fun (p : Nat × Operand) => (co p.2).map fun x => (p.1, x)) ps = some qs → zdL s sz qs = some l →
      zf5 ρ l (ps.map fun p => (p.1, a.eval p.2)) (fun i => some (i * sz, sz))
  | [], qs, l, h, hl => by cases h; cases hl; exact .nil _ _
  | p :: ps, qs, l, h, hl => by
    obtain ⟨q, hq, h⟩ := aof h
    obtain ⟨qs', hqs, rfl⟩ := amf h
    obtain ⟨x, hx, rfl⟩ := amf hq
    obtain ⟨u, hu, hl⟩ := aof hl
    obtain ⟨l', hl', rfl⟩ := amf hl
    exact .cons rfl (zbz hx hs hu) (zgO hs sz hqs hl')
theorem s_buildSlice (hs : SR ρ s a.tmps) {i : Nat} (hi : ρ i = none) {t e : TypeId} {len sz : Nat} {z : List Value} {ps : Array (Nat × Operand)} {qs : List (Nat × CO)} (h1 : P.underlying t = some (.slice e)) (h2 : zW P e = some sz)
    (h3 : ¬ len * sz > 2 ^ 24) (h4 : zbm P e = some z) (h5 : z.length = sz) (hq : allO (fun (p : Nat × Operand) => (co p.2).map fun x => (p.1, x)) ps.toList = some qs) {l : List (Nat × Nat × Value)} (hl : zdL s sz qs = some l)
    {c : List Value} (hc : zp (zl z len) l = some c) (hlen : len < zk) :
    SimA P ρ w ((do pure (Next.value (← Instr.buildSlice t len (ps.map fun (i, x) => (i, a.eval x)))) : Sem Next).run P w) i (.slice (some ⟨i, 0, none⟩) len len) (.cells c 0) := by
  obtain ⟨⟨zv, hzv, hzr⟩, hzc⟩ := zbZ h4
  have hv : VRL ρ z zv.cells.toList := by rw [hzv]; exact VRL.refl1 hzc
  have hp := zgO (a := a) hs sz hq hl
  have key : ∀ zz : Array Value, VRL ρ (zl z len) (((Array.range (len * sz)).map (zz[· % zz.size]!)).toList) →
      (∀ ds : Array Value, Instr.fill (fun i => some (i * sz, sz)) ((Array.range (len * sz)).map (zz[· % zz.size]!)) (ps.map fun (i, x) => (i, a.eval x)).toList = some ds →
        (Instr.buildSlice t len (ps.map fun (i, x) => (i, a.eval x))).run P w = .ok (.slice (some ⟨w.heap.size, 0, none⟩) len len) (w.alloc (.cells ds e))) →
      SimA P ρ w ((do pure (Next.value (← Instr.buildSlice t len (ps.map fun (i, x) => (i, a.eval x)))) : Sem Next).run P w) i (.slice (some ⟨i, 0, none⟩) len len) (.cells c 0) := by
    intro zz hzz hrun
    obtain ⟨ds, hd1, hd2⟩ := fill_rel hp hzz hc
    refine ⟨.slice (some ⟨w.heap.size, 0, none⟩) len len, .cells ds e, _, ?_, rfl, ?_, OR.row e hi hd2, zbx _ _⟩
    · have := hrun ds (by simpa using hd1)
      simp only [Sem.run_bind, this, Result.andThen_ok, Sem.run_pure]
    · have := VR.slice (ρ := upd ρ i ⟨w.heap.size, 0, ds.size, 0, c.length, none⟩) (o := 0) (zV _ _ _) hlen (Nat.le_refl len)
      simpa using this
  by_cases e0 : len * sz = 0
  · refine key #[] ?_ (fun ds hd => ?_)
    · have : zl z len = [] := by apply List.eq_nil_of_length_eq_zero; rw [zbI, h5]; exact e0
      rw [this, e0]; exact ⟨by simp, by simp⟩
    · rw [e0] at hd
      simp only [Instr.buildSlice, Sem.run_bind, run_underlying h1, Result.andThen_ok, z7 h2, e0, if_true, Sem.run_pure, Sem.run_ite]
      simp only [hd, zeN, Sem.run_bind, Result.andThen_ok, Sem.run_pure]
      simp
  · refine key zv.cells (zhs hv len _ (by rw [h5])) (fun ds hd => ?_)
    simp only [Instr.buildSlice, Sem.run_bind, run_underlying h1, Result.andThen_ok, z7 h2, if_neg h3, if_neg e0, Sem.run_pure, Sem.run_ite, hzr]
    simp only [hd, zeN, Sem.run_bind, Result.andThen_ok, Sem.run_pure]
theorem s_makeMap {i : Nat} {t : TypeId} : SimA P ρ w ((do pure (Next.value (← Instr.makeMap t none)) : Sem Next).run P w) i (.map (some i)) (.map [] 0) := by
  refine ⟨.map (some w.heap.size), .map #[] 0, ⟨w.heap.size, 0, 0, 0, 0, none⟩, rfl, rfl, ?_, ⟨#[], zbJ _ _, rfl, fun j e hj => by cases hj⟩, zfV _ _⟩
  exact VR.map (ρ := upd ρ i ⟨w.heap.size, 0, 0, 0, 0, none⟩) (zV _ _ _)
theorem s_makeSlice {i : Nat} (hi : ρ i = none) {t e : TypeId} {info : TypeInfo} {z : List Value} (h1 : P.underlying t = some (.slice e)) (h2 : P.info? e = some info) (h4 : zbm P e = some z) (h5 : z.length = info.size)
    {l c : Nat} (hlc : l ≤ c) (hb : c * info.bytes ≤ 1073741824) (hc : c ≤ 1073741824) :
    SimA P ρ w ((do pure (Next.value (← Instr.makeSlice t (.int .i64 l) (.int .i64 c))) : Sem Next).run P w) i (.slice (some ⟨i, 0, none⟩) l c) (.cells (zl z c) 0) := by
  obtain ⟨info', hinfo', hz0⟩ := aof h4
  rw [h2] at hinfo'; cases hinfo'
  obtain ⟨zv, hzv, hz1⟩ := aof hz0
  split at hz1
  · rename_i hall
    cases hz1
    have hv : VRL ρ zv.cells.toList zv.cells.toList := VRL.refl1 (fun v hv => List.all_eq_true.1 hall v hv)
    rw [Nat.mul_comm] at hb
    have hbytes : ((info.bytes * c : Nat) : Int) ≤ 1073741824 := by omega
    rw [Int.natCast_mul] at hbytes
    have hrun := run_make (P := P) w t e info zv h1 h2 hzv .i64 .i64 (l : Int) (c : Int) (by omega) (by omega) (by omega) (by omega)
    simp only [Int.toNat_natCast] at hrun
    have hzz : VRL ρ (zl zv.cells.toList c) (madeCells zv.cells (c * info.size)).toList := zhs hv c _ (by rw [h5])
    refine ⟨.slice (some ⟨w.heap.size, 0, none⟩) l c, .cells (madeCells zv.cells (c * info.size)) e, _, ?_, rfl, ?_, OR.row e hi hzz, zbx _ _⟩
    · simp only [Sem.run_bind, hrun, Result.andThen_ok, Sem.run_pure]
    · have := VR.slice (ρ := upd ρ i ⟨w.heap.size, 0, (madeCells zv.cells (c * info.size)).size, 0, (zl zv.cells.toList c).length, none⟩) (o := 0) (len := l) (cap := c) (zV _ _ _) (by unfold zk; omega) hlc
      simpa using this
  · cases hz1
theorem isCell_eq (v : Value) : zbb v = v.oneCell' := by cases v <;> rfl
theorem VR.cellOk {ρ : Rho} {v v' : Value} (h : VR ρ v v') (hc : zbb v = true) : v'.oneCell' = true := by
  cases h <;> simp_all [zbb, Value.oneCell']
theorem zfD (w : World) (g : Nat) (old cs : Array Value) (t : TypeId) (fr : Nat × Nat) (hg : w.heap[g]? = some (.cells old t fr)) : w.setRow g cs = { w with heap := w.heap.setIfInBounds g (.cells cs t fr) } := by
  unfold World.setRow
  congr 1
  apply Array.ext_getElem?
  intro j
  rw [Array.getElem?_modify, Array.getElem?_setIfInBounds]
  have hlt := (Array.getElem?_eq_some_iff.1 hg).1
  by_cases e : g = j
  · subst e; have hx := (Array.getElem?_eq_some_iff.1 hg).2; simp [hlt, hx]
  · simp [e]
theorem zft (hr : HR P ρ h w) {i off : Nat} {R : RB} (hi : ρ i = some R) {vs : List Value} {ws : List Value} (hv : VRL ρ vs ws) (hne : vs ≠ []) (hw : h.write i off vs = some h') :
    ∃ w', (storeCells ⟨R.blk, R.base + off, none⟩ ws).run P w = .ok () w' ∧ HR P ρ h' w' ∧ Ext ρ w ρ w' := by
  obtain ⟨o, ho, hw⟩ := aof hw
  cases o with
  | cells cs esz =>
    simp only [zc8] at hw
    split at hw
    · rename_i hcc
      rw [Bool.and_eq_true] at hcc
      obtain ⟨hcell, hnro⟩ := hcc
      obtain ⟨cs', hcs, e⟩ := amf hw
      cases e
      obtain ⟨q1, q2, c, t, fr, hb, hfx, hsz, hfit, hget⟩ := hr.obj i R _ hi ho
      obtain ⟨hfx2, rfl⟩ := hfx.resolve_right (fun h => by rw [h.2] at hnro; simp at hnro)
      obtain ⟨f1, f2⟩ := zhx _ _ _ _ hcs
      have hlen := ze0 _ _ _ _ hcs
      have f1' := f1.resolve_left hne
      have hwl : ws.length = vs.length := hv.1.symm
      have hone : ∀ x ∈ ws, x.oneCell' = true := by
        intro x hx
        obtain ⟨j, hj⟩ := List.mem_iff_getElem?.1 hx
        obtain ⟨y, hy⟩ : ∃ y, vs[j]? = some y := by
          have : j < vs.length := by rw [← hwl]; exact (List.getElem?_eq_some_iff.1 hj).1
          exact ⟨_, List.getElem?_eq_getElem this⟩
        exact (hv.2 j y x hy hj).cellOk (List.all_eq_true.1 hcell y (List.mem_of_getElem? hy))
      have hrun := run_storeCells_at (P := P) R.blk (R.base + off) t ws 0 c w hb (by omega) hone
      rw [zfD w _ c _ t _ hb, Nat.add_zero] at hrun
      generalize hrow : (c.toList.take (R.base + off) ++ ws ++ c.toList.drop (R.base + off + ws.length)) = row at hrun
      have hrl : row.length = c.size := by rw [← hrow]; simp; omega
      refine ⟨_, hrun, ?_⟩
      refine hr.putBoth hi ho (by simp) hb (fun r hr' => by cases hr') (zbx _ _) (zbx _ _) ?_
      have hblt := hr.blk i R hi
      refine ⟨q1, by rw [q2, hlen], row.toArray, t, _, by simp [hblt], .inl ⟨hfx2, rfl⟩, by simp [hrl, hsz], by simp [hrl, hlen]; omega, fun j v hj => ?_⟩
      rw [f2 j] at hj
      simp only [List.getElem?_toArray]
      rw [← hrow]
      have hcl : c.toList.length = c.size := by simp
      by_cases cd : off ≤ j ∧ j < off + vs.length
      · rw [if_pos cd] at hj
        obtain ⟨y, hy, hvy⟩ := hv.get hj
        refine ⟨y, ?_, .inr hvy⟩
        rw [List.append_assoc, List.getElem?_append_right (by simp; omega), List.getElem?_append_left (by simp; omega)]
        rw [← hy]; congr 1
        simp; omega
      · rw [if_neg cd] at hj
        obtain ⟨v', hv', hvv⟩ := hget j v hj
        refine ⟨v', ?_, hvv⟩
        have hjc : j < cs.length := (List.getElem?_eq_some_iff.1 hj).1
        by_cases cl : j < off
        · rw [List.append_assoc, List.getElem?_append_left (by simp; omega), List.getElem?_take, if_pos (by omega)]
          simpa using hv'
        · rw [List.getElem?_append_right (by simp; omega), List.getElem?_drop]
          have : R.base + off + ws.length + (R.base + j - (List.take (R.base + off) c.toList ++ ws).length) = R.base + j := by simp; omega
          rw [this]; simpa using hv'
    · cases hw
  | map _ _ => cases hw
  | loop _ _ _ _ => cases hw
  | dead => cases hw
theorem VRL.ne_nil {ρ : Rho} {vs ws : List Value} (h : VRL ρ vs ws) (hn : vs ≠ []) : ws ≠ [] := by
  intro e; subst e
  apply hn
  have := h.1
  exact List.eq_nil_of_length_eq_zero (by simpa using this)
theorem s_store (hr : HR P ρ h w) (hs : SR ρ s a.tmps) {x y : Operand} {c d : CO} (hc : co x = some c) (hd : co y = some d) {t : TypeId} {n : Nat} (ht : zW P t = some n) (hn : n ≠ 0) (hv : ziu n c d s h = some (v, h')) :
    Sim P ρ w ((do Instr.storeAt t (a.eval x) (a.eval y); pure Next.skip : Sem Next).run P w) v h' := by
  obtain ⟨u, hu, hv1⟩ := aof hv
  obtain ⟨z, hz, hv2⟩ := aof hv1
  obtain ⟨ad, had, hv3⟩ := aof hv2
  clear hv hv1 hv2
  have hx := zbz hc hs hu
  have hy := zbz hd hs hz
  split at hv3
  · rename_i hlen
    have hlen' : (zj z).length = n := Nat.eq_of_beq_eq_true hlen
    obtain ⟨h1, hw, e⟩ := amf hv3
    cases e
    obtain rfl := zdk had
    obtain ⟨R, hR, e⟩ := hx.inv_ptr
    have hcl := hy.cells
    have hne : zj z ≠ [] := by intro e; rw [e] at hlen'; simp at hlen'; exact hn hlen'.symm
    obtain ⟨w', hrun, q1, q2⟩ := zft hr hR hcl hne hw
    refine ⟨.skip, undef, w', ρ, ?_, .inr ⟨rfl, rfl⟩, VR.tuple_of (VRL.nil _), q1, q2⟩
    have hsz : (a.eval y).cells.size = n := by have := hcl.1; rw [hlen'] at this; simpa using this.symm
    simp only [Instr.storeAt, e, Instr.sureAddr, storeVar, Sem.run_bind, Sem.run_pure, Result.andThen_ok, z7 ht, hsz, ne_eq, not_true_eq_false, if_false, hrun]
  · cases hv3
end
end Go.Ideal
namespace Go.Ideal
variable {P : Program}
def posE (kk : KK) (k : Value) : List (Value × Value × Nat) → Option (Option Nat)
  | [] => some none
  | (key, _, _) :: r => (zbh kk k key).bind fun b => match b with | true => some (some 0) | false => (posE kk k r).map (·.map (· + 1))
theorem setE_pos {kk : KK} {k v : Value} {clock : Nat} : ∀ {es es2 : List (Value × Value × Nat)} {c2 : Nat}, setE kk k v clock es = some (es2, c2) →
    (posE kk k es = some none ∧ es2 = es ++ [(k, v, clock)] ∧ c2 = clock + 1) ∨ (∃ j key w b, posE kk k es = some (some j) ∧ es[j]? = some (key, w, b) ∧ es2 = es.set j (k, v, b) ∧ c2 = clock ∧ zY (zj k) (zj key) = true ∧ ∃ s, zbh kk k key = some s)
  | [], es2, c2, h => by cases h; exact .inl ⟨rfl, rfl, rfl⟩
  | (key, w, b) :: r, es2, c2, h => by
    obtain ⟨s, hs, h⟩ := aof h
    cases s with
    | true =>
      dsimp only at h
      split at h
      · rename_i hi; cases h; exact .inr ⟨0, key, w, b, by simp [posE, hs], rfl, rfl, rfl, hi, _, hs⟩
      · cases h
    | false =>
      obtain ⟨⟨x1, x2⟩, hx, e⟩ := amf h
      cases e
      rcases setE_pos hx with ⟨h1, rfl, rfl⟩ | ⟨j, key', w', b', h1, h2, rfl, rfl, h3⟩
      · exact .inl ⟨by simp [posE, hs, h1], rfl, rfl⟩
      · exact .inr ⟨j + 1, key', w', b', by simp [posE, hs, h1], by simpa using h2, rfl, rfl, h3⟩
theorem zjm {kt : TypeId} (hl : zcz P kt = some .int) {d : TypeDesc} (hd : P.underlying kt = some d) {ρ : Rho} {k k' : Value} (hk : VR ρ k k') :
    ∀ (es : List (Value × Value × Nat)) (es' : List MapEntry) (r : Option Nat) (i : Nat), zdh ρ es es' → posE .int k es = some r →
      ∃ r', Instr.findNow d k' es' i = some r' ∧ r'.map (·.1) = r.map (i + ·)
  | [], es', r, i, he, h => by cases h; rw [he.nil_left]; exact ⟨none, rfl, rfl⟩
  | (key, v, b) :: es, es', r, i, he, h => by
    obtain ⟨e', es'', rfl, her, hrest⟩ := he.cons_left
    obtain ⟨c, hc, h⟩ := aof h
    obtain ⟨_, hn⟩ := zdl hl hk her.1 hc (default : World)
    rcases hn with ⟨_, d', hd', hn⟩ | ⟨l, hl', _⟩
    · rw [hd] at hd'; cases hd'
      cases c with
      | true => cases h; exact ⟨some (i, e'.val), by simp [Instr.findNow, hn], rfl⟩
      | false =>
        obtain ⟨q, hq, rfl⟩ := amf h
        obtain ⟨r', h1, h2⟩ := zjm hl hd hk es es'' q (i + 1) hrest hq
        refine ⟨r', by simp [Instr.findNow, hn, h1], ?_⟩
        rw [h2]; cases q <;> simp; omega
    · cases hl'
theorem zfL {kt : TypeId} {kk : KK} (hl : zcz P kt = some kk) {ρ : Rho} {k k' : Value} (hk : VR ρ k k') (w : World) :
    ∀ (es : List (Value × Value × Nat)) (es' : List MapEntry) (r : Option Nat) (i : Nat), zdh ρ es es' → posE kk k es = some r →
      ∃ r', (Instr.findAsking kt k' es' i).run P w = .ok r' w ∧ r'.map (·.1) = r.map (i + ·)
  | [], es', r, i, he, h => by cases h; rw [he.nil_left]; exact ⟨none, rfl, rfl⟩
  | (key, v, b) :: es, es', r, i, he, h => by
    obtain ⟨e', es'', rfl, her, hrest⟩ := he.cons_left
    obtain ⟨c, hc, h⟩ := aof h
    obtain ⟨hq, _⟩ := zdl hl hk her.1 hc w
    cases c with
    | true => cases h; exact ⟨some (i, e'.val), by simp [Instr.findAsking, hq], rfl⟩
    | false =>
      obtain ⟨q, hq', rfl⟩ := amf h
      obtain ⟨r', h1, h2⟩ := zfL hl hk w es es'' q (i + 1) hrest hq'
      refine ⟨r', by simp [Instr.findAsking, hq, h1], ?_⟩
      rw [h2]; cases q <;> simp; omega
theorem zjn {kt : TypeId} {kk : KK} (hl : zcz P kt = some kk) {ρ : Rho} {k k' : Value} (hk : VR ρ k k') {b : Bool} (hself : zbh kk k k = some b) (w : World)
    {es : List (Value × Value × Nat)} {es' : List MapEntry} {r : Option Nat} (he : zdh ρ es es') (h : posE kk k es = some r) :
    ∃ r', (Instr.findKey kt k' es').run P w = .ok r' w ∧ r'.map (·.1) = r := by
  obtain ⟨hself', hn⟩ := zdl hl hk hk hself w
  have fin : ∀ q : Option Nat, q.map (0 + ·) = q := by intro q; cases q <;> simp
  rcases hn with ⟨rfl, d, hd, hn⟩ | ⟨l, rfl, d, hd, hn⟩
  · obtain ⟨r', h1, h2⟩ := zjm hl hd hk es es' r 0 he h
    exact ⟨r', by simp [Instr.findKey, run_underlying hd, h1], by rw [h2, fin]⟩
  · cases es' with
    | nil =>
      have : es = [] := by have := he.1; cases es <;> simp_all
      subst this
      cases h
      exact ⟨none, by simp [Instr.findKey, run_underlying hd, Instr.findNow], rfl⟩
    | cons e' es'' =>
      obtain ⟨r', h1, h2⟩ := zfL hl hk w es (e' :: es'') r 0 he h
      exact ⟨r', by simp only [Instr.findKey, Sem.run_bind, run_underlying hd, Result.andThen_ok, Instr.findNow, hn]; exact h1, by rw [h2, fin]⟩
theorem zfF : ∀ {l l' : List Value}, zY l l' = true → l.length = l'.length ∧ ∀ (n : Nat), (l'.zip l).all (fun (x, y) => Instr.sameBits n x y) = true
  | [], [], _ => ⟨rfl, fun _ => rfl⟩
  | .int k a :: r, .int k' b :: r', h => by
    simp only [zY] at h
    split at h
    · rename_i hc
      simp only [Bool.and_eq_true, decide_eq_true_eq, zcs, beq_iff_eq] at hc
      obtain ⟨rfl, rfl⟩ := hc
      obtain ⟨h1, h2⟩ := zfF h
      exact ⟨by simp [h1], fun n => by simp only [List.zip_cons_cons, List.all_cons, h2 n, Bool.and_true]; cases n <;> simp [Instr.sameBits]⟩
    · cases h
  | [], _ :: _, h => by simp [zY] at h
  | .int _ _ :: _, [], h => by simp [zY] at h
theorem zfE {ρ : Rho} : ∀ {l l' m : List Value}, zY l m = true → VRL ρ l l' → l' = l
  | [], l', m, _, hv => hv.nil_left
  | .int k a :: r, l', m, h, hv => by
    cases m with
    | nil => simp [zY] at h
    | cons y m =>
      obtain ⟨z, zs, rfl, h1, h2⟩ := hv.cons_left
      cases y <;> simp only [zY, Bool.false_eq_true] at h
      split at h
      · rw [h1.inv_int, zfE h h2]
      · cases h
theorem ze1 {ρ : Rho} : ∀ {l m m' : List Value}, zY l m = true → VRL ρ m m' → m' = m
  | [], m, m', h, hv => by cases m with
    | nil => exact hv.nil_left
    | cons y m => simp [zY] at h
  | .int k a :: r, m, m', h, hv => by
    cases m with
    | nil => simp [zY] at h
    | cons y m =>
      obtain ⟨z, zs, rfl, h1, h2⟩ := hv.cons_left
      cases y <;> simp only [zY, Bool.false_eq_true] at h
      split at h
      · rw [h1.inv_int, ze1 h h2]
      · cases h
theorem keyStays {ρ : Rho} {kk : KK} {k k' key key' : Value} {b : Bool} (hs : zbh kk k key = some b) (hi : zY (zj k) (zj key) = true) (hk : VR ρ k k') (hkey : VR ρ key key') (w : World) : (Instr.keyThatStays key' k').run P w = .ok k' w := by
  have : Instr.sameBits 10000 key' k' = true := by
    rcases zdD hs with ⟨rfl, q, m, n, rfl, rfl, -⟩ | ⟨l, xs, ys, rfl, rfl, rfl, -⟩
    · rw [hk.inv_int, hkey.inv_int]
      simp only [zj, zY] at hi
      split at hi
      · rename_i hc
        simp only [Bool.and_eq_true, decide_eq_true_eq, zcs, beq_iff_eq] at hc
        simp [Instr.sameBits, hc.2]
      · cases hi
    · obtain ⟨xs', rfl, hxs⟩ := hk.inv_agg
      obtain ⟨ys', rfl, hys⟩ := hkey.inv_agg
      simp only [zj] at hi
      have e1 := zfE hi hxs
      have e2 := ze1 hi hys
      obtain ⟨h1, h2⟩ := zfF hi
      show (ys'.size == xs'.size && (ys'.toList.zip xs'.toList).all fun (x, y) => Instr.sameBits 9999 x y) = true
      rw [e1, e2, h2]
      have : ys'.size = xs'.size := by
        rw [← Array.length_toList, ← Array.length_toList, e1, e2]; exact h1.symm
      simp [this]
  simp [Instr.keyThatStays, this]
section
variable {ρ : Rho} {h h' : H} {w : World} {s : zf} {a : Act} {v : Value}
theorem s_mapUpdate (hr : HR P ρ h w) (hs : SR ρ s a.tmps) {m k x : Operand} {m' k' x' : CO} (hm : co m = some m') (hk : co k = some k') (hx : co x = some x') {t kt e : TypeId} {kk : KK} (h1 : P.underlying t = some (.map kt e)) (h2 : zcz P kt = some kk)
    (hv : zds kk m' k' x' s h = some (v, h')) : Sim P ρ w ((do Instr.mapUpdate t (a.eval m) (a.eval k) (a.eval x); pure Next.skip : Sem Next).run P w) v h' := by
  obtain ⟨um, hum, hv1⟩ := aof hv
  obtain ⟨uk, huk, hv2⟩ := aof hv1
  obtain ⟨ux, hux, hv3⟩ := aof hv2
  clear hv hv1 hv2
  have rm := zbz hm hs hum
  have rk := zbz hk hs huk
  have rx := zbz hx hs hux
  generalize a.eval m = M at rm
  generalize a.eval k = K at rk
  generalize a.eval x = X at rx
  unfold ze2 at hv3
  split at hv3
  · rename_i i
    obtain ⟨o, ho, hv4⟩ := aof hv3
    clear hv3
    cases o with
    | map es clock =>
      obtain ⟨b, hb, hv5⟩ := aof hv4
      obtain ⟨⟨es2, c2⟩, hset, e'⟩ := amf hv5
      cases e'
      cases rm with
      | @map _ R hR =>
        obtain ⟨es', q1, q2⟩ := zdh.of_OR (hr.obj _ _ _ hR ho)
        have hck : (Instr.checkKey false 10000 kt K).run P w = .ok () w := zgQ h2 rk hb false 9998 w
        have hblt := hr.blk _ _ hR
        have hl : es.length = es'.size := by have := q2.1; simpa using this
        rcases setE_pos hset with ⟨p1, rfl, rfl⟩ | ⟨j, key, w0, b0, p1, p2, rfl, rfl, p3, sb, p4⟩
        · obtain ⟨r', hf, hpos⟩ := zjn h2 rk hb w q2 p1
          have : r' = none := by cases r' <;> simp_all
          subst this
          obtain ⟨g1, g2⟩ := hr.putBoth (io := .map (es ++ [(uk, ux, clock)]) (clock + 1)) (o := .map (es'.push { key := K, val := X, born := clock }) (clock + 1)) hR ho (by simp) q1 (fun r hr => by cases hr) (zfV _ _) (zfV _ _) (by
            refine ⟨es'.push { key := K, val := X, born := clock }, by simp [hblt], by simp [hl], fun j e he => ?_⟩
            by_cases hj : j < es.length
            · rw [List.getElem?_append_left hj] at he
              obtain ⟨e', he', r1, r2, r3⟩ := q2.2 j e he
              exact ⟨e', by rw [Array.getElem?_push, if_neg (by omega)]; simpa using he', r1, r2, r3⟩
            · have hj2 : j = es.length := by
                have := (List.getElem?_eq_some_iff.1 he).1; simp at this; omega
              subst hj2
              simp at he; subst he
              exact ⟨{ key := K, val := X, born := clock }, by rw [hl]; simp, rk, rx, rfl⟩)
          refine ⟨.skip, undef, _, ρ, ?_, .inr ⟨rfl, rfl⟩, VR.tuple_of (VRL.nil _), g1, g2⟩
          simp only [Instr.mapUpdate, Sem.run_bind, run_underlying h1, Result.andThen_ok, zdn q1, hck, hf, zji _ q1, Sem.run_pure]
        · obtain ⟨r', hf, hpos⟩ := zjn h2 rk hb w q2 p1
          obtain ⟨p, rfl, hp⟩ : ∃ p, r' = some p ∧ p.1 = j := by cases r' <;> simp_all
          obtain ⟨e', he', r1, r2, r3⟩ := q2.2 j _ p2
          have he2 : es'[p.1]? = some e' := by rw [hp]; simpa using he'
          have hst := keyStays (P := P) p4 p3 rk r1 w
          obtain ⟨g1, g2⟩ := hr.putBoth (io := .map (es.set j (uk, ux, b0)) c2) (o := .map (es'.modify p.1 fun e => { e with key := K, val := X }) c2) hR ho (by simp) q1 (fun r hr => by cases hr) (zfV _ _) (zfV _ _) (by
            refine ⟨es'.modify p.1 fun e => { e with key := K, val := X }, by simp [hblt], by simp [hl], fun i e he => ?_⟩
            rw [Array.getElem?_modify]
            by_cases hij : j = i
            · subst hij
              rw [hp, if_pos rfl]
              have hjl := (List.getElem?_eq_some_iff.1 p2).1
              simp only [List.getElem?_set, if_pos, hjl, Option.some.injEq] at he
              subst he
              refine ⟨{ e' with key := K, val := X }, by rw [← hp, he2]; rfl, rk, rx, r3⟩
            · rw [List.getElem?_set, if_neg hij] at he
              rw [hp, if_neg hij]
              obtain ⟨e2, he2, t1, t2, t3⟩ := q2.2 i e he
              exact ⟨e2, by simpa using he2, t1, t2, t3⟩)
          refine ⟨.skip, undef, _, ρ, ?_, .inr ⟨rfl, rfl⟩, VR.tuple_of (VRL.nil _), g1, g2⟩
          simp only [Instr.mapUpdate, Sem.run_bind, run_underlying h1, Result.andThen_ok, zdn q1, hck, hf, he2, Option.map_some, Option.getD_some, hst, zji _ q1, Sem.run_pure]
    | cells _ _ => cases hv4
    | loop _ _ _ _ => cases hv4
    | dead => cases hv4
  · cases hv3
end
end Go.Ideal
namespace Go.Ideal
variable {P : Program}
theorem growBy_le (newLen : Nat) : ∀ (r c : Nat), c ≤ 2 * newLen + 200 → Builtin.growBy newLen r c ≤ 2 * newLen + 200
  | 0, c, h => h
  | r + 1, c, h => by
    unfold Builtin.growBy
    split
    · exact h
    · exact growBy_le newLen r _ (by omega)
theorem zhR {need old : Nat} (h : old < need) : Builtin.nextslicecap need old ≤ 2 * need + 200 := by
  unfold Builtin.nextslicecap
  split
  · omega
  · split
    · omega
    · exact growBy_le need 4 old (by omega)
theorem HR.steal {ρ : Rho} {h : H} {w : World} (hr : HR P ρ h w) {i : Nat} {R R' : RB} {io io0 : IObj} {o o0 : Obj} (hi : ρ i = some R) (hg : h.get i = some io0) (hd : io0 ≠ .dead) (hw : w.heap[R.blk]? = some o0)
    (hnl : ∀ r : Loop, o0 ≠ .loop r) (hc0 : Calm o0) (hc : Calm o) (hb : R'.blk = R.blk) (ho : OR P (upd ρ h.next R') { w with heap := w.heap.setIfInBounds R.blk o } R' io) :
    HR P (upd ρ h.next R') ((h.put i .dead).new io) { w with heap := w.heap.setIfInBounds R.blk o } ∧ Ext ρ w (upd ρ h.next R') { w with heap := w.heap.setIfInBounds R.blk o } := by
  have hlt := hr.blk i R hi
  have hin : i < h.next := hr.lt hg
  have hfree := (hr.nxt _ (Nat.le_refl _)).1
  have other : ∀ B, B ≠ R.blk → (w.heap.setIfInBounds R.blk o)[B]? = w.heap[B]? := fun B hB => by rw [Array.getElem?_setIfInBounds, if_neg (fun e => hB e.symm)]
  have gets : ∀ j, ((h.put i .dead).new io).get j = if h.next = j then some io else if i = j then some .dead else h.get j := fun j => by rw [H.get_new, H.get_put, H.next_put]
  refine ⟨⟨fun j S o' hj ho' => ?_, fun j hj => ?_, fun j k S T hj hk aj ak e => ?_, fun j S hj => ?_⟩, ⟨zdS R' hfree, by simp, fun j S hj => ?_, fun B hB hn => other B (fun e => hn i R hi e.symm), fun B r hrr => ?_, rfl, rfl, fun a _ => froz_put hw hc0 hc a, ⟨rfl, Nat.le_refl _⟩⟩⟩
  · rw [gets] at ho'
    by_cases e : j = h.next
    · subst e; rw [zV] at hj; cases hj; rw [if_pos rfl] at ho'; cases ho'; exact ho
    · simp only [upd, e, if_false] at hj
      rw [if_neg (fun e' => e e'.symm)] at ho'
      by_cases e2 : i = j
      · rw [if_pos e2] at ho'; cases ho'; trivial
      · rw [if_neg e2] at ho'
        by_cases ed : o' = .dead
        · subst ed; trivial
        · refine (hr.obj j S o' hj ho').mono (zdS R' hfree) (other _ ?_)
          intro eb
          exact e2 (hr.sep i j R S hi hj ⟨io0, hg, hd⟩ ⟨o', ho', ed⟩ eb.symm)
  · rw [H.next_new, H.next_put] at hj
    rw [gets, if_neg (by omega), if_neg (by omega)]
    exact ⟨by simp only [upd]; rw [if_neg (by omega)]; exact (hr.nxt j (by omega)).1, (hr.nxt j (by omega)).2⟩
  · have k0 : ∀ l S, upd ρ h.next R' l = some S → zgw ((h.put i .dead).new io) l → l = h.next ∧ S = R' ∨ (l ≠ h.next ∧ l ≠ i ∧ ρ l = some S ∧ zgw h l) := by
      intro l S hl ⟨x, hx, hxd⟩
      rw [gets] at hx
      by_cases e1 : l = h.next
      · subst e1; rw [zV] at hl; cases hl; exact .inl ⟨rfl, rfl⟩
      · simp only [upd, e1, if_false] at hl
        rw [if_neg (fun e' => e1 e'.symm)] at hx
        by_cases e2 : i = l
        · rw [if_pos e2] at hx; cases hx; exact absurd rfl hxd
        · rw [if_neg e2] at hx; exact .inr ⟨e1, fun e => e2 e.symm, hl, x, hx, hxd⟩
    rcases k0 j S hj aj with ⟨rfl, rfl⟩ | ⟨j1, j2, j3, j4⟩
    · rcases k0 k T hk ak with ⟨rfl, rfl⟩ | ⟨k1, k2, k3, k4⟩
      · rfl
      · exact absurd (hr.sep i k R T hi k3 ⟨io0, hg, hd⟩ k4 (hb.symm.trans e)).symm k2
    · rcases k0 k T hk ak with ⟨rfl, rfl⟩ | ⟨k1, k2, k3, k4⟩
      · exact absurd (hr.sep i j R S hi j3 ⟨io0, hg, hd⟩ j4 (hb.symm.trans e.symm)).symm j2
      · exact hr.sep j k S T j3 k3 j4 k4 e
  · by_cases e : j = h.next
    · subst e; rw [zV] at hj; cases hj; simp [hb, hlt]
    · simp only [upd, e, if_false] at hj; have := hr.blk j S hj; simpa using this
  · by_cases e : j = h.next
    · subst e; rw [zV] at hj; cases hj; exact .inl ⟨i, R, hi, hb.symm⟩
    · simp only [upd, e, if_false] at hj; exact .inl ⟨j, S, hj, rfl⟩
  · by_cases e : B = R.blk
    · subst e; rw [hw] at hrr; cases hrr; exact absurd rfl (hnl r)
    · exact ⟨r, by rw [other B e]; exact hrr, rfl⟩
section
variable {ρ : Rho} {h h' : H} {w : World} {s : zf} {a : Act} {v : Value}
theorem appended_run (hr : HR P ρ h w) {size n : Nat} {x x' : Value} {new : List Value} (hx : VR ρ x x') (ha : zcm h size x = some (n, new)) :
    (∀ w, (Builtin.lenOf x').run P w = .ok n w) ∧ new.length = n * size ∧ ∃ l, VRL ρ new l ∧ (Builtin.firstCells size n x').run P w = .ok ⟨l⟩ w ∧ (Builtin.firstCells size n x').run P w.drew = .ok ⟨l⟩ w.drew := by
  unfold zcm at ha
  split at ha
  · split at ha
    · rename_i hn
      cases ha
      cases hx
      exact ⟨fun w => by simp [Builtin.lenOf], by simp, [], .nil _, by simp [Builtin.firstCells], by simp [Builtin.firstCells]⟩
    · cases ha
  · rename_i ad m c
    split at ha
    · rename_i hn0
      obtain rfl : m = 0 := Nat.eq_of_beq_eq_true hn0
      cases ha
      obtain ⟨b', c', rfl, hb⟩ := hx.inv_slice
      obtain ⟨a', rfl⟩ := some_of hb
      refine ⟨fun w => by simp [Builtin.lenOf], by simp, [], .nil _, ?_⟩
      simp only [Builtin.firstCells, Nat.zero_mul]
      exact ⟨rfl, rfl⟩
    · rename_i hn0
      obtain ⟨l, hl, e⟩ := amf ha
      cases e
      have hn : n ≠ 0 := by intro e; subst e; exact hn0 rfl
      obtain ⟨R, c', hR, rfl⟩ := hx.inv_slice_some hn
      obtain ⟨hnn, l', hv, hcc⟩ := zgq (P := P) hr hR hl
      have en : n * size = l'.length := by rw [← hnn]; exact hv.1
      have hrun := run_loadCells_list (P := P) w _ l' hcc
      have hrunD := run_loadCells_list (P := P) w.drew ⟨R.blk, R.base + ad.off, none⟩ l' (fun j v hj => by rw [World.cell?_drew]; exact hcc j v hj)
      rw [← en] at hrun hrunD
      obtain ⟨cs, esz, hg, hle, e, -⟩ := zf9 hl
      refine ⟨fun w => by simp [Builtin.lenOf], by rw [e]; simp at hle ⊢; omega, l', hv, ?_⟩
      exact ⟨by simpa [Builtin.firstCells] using hrun, by simpa [Builtin.firstCells] using hrunD⟩
  · cases ha
structure AppOk (P : Program) (ts : Array TypeId) (e : TypeId) (i : TypeInfo) (zv : Value) : Prop where
  ts : ∃ t tx e', ts = #[t, tx] ∧ P.underlying t = some (.slice e) ∧ P.underlying tx = some (.slice e')
  info : P.info? e = some i
  zero : i.zero = some zv
  zsize : zv.cells.size = i.size
  size : i.size ≠ 0
  bytes : i.bytes ≠ 0
theorem zbP {ts : Array TypeId} {e : TypeId} {i : TypeInfo} {zv : Value} (ok : AppOk P ts e i zv) (type : TypeId) {base : Option Addr} {len cap n : Nat} {x' : Value} {l : List Value} {w' : World}
    (hn : ∀ w, (Builtin.lenOf x').run P w = .ok n w) (hc : (Builtin.firstCells i.size n x').run P w = .ok ⟨l⟩ w) (hle : len + n ≤ cap)
    (hst : (match base with | some b => storeCells (b.add (len * i.size)) l | none => pure () : Sem Unit).run P w = .ok () w') :
    (Builtin.append_ ts type #[.slice base len cap, x']).run P w = .ok (.slice base (len + n) cap) w' := by
  obtain ⟨t, tx, e', rfl, h1, h2⟩ := ok.ts
  cases base with
  | none =>
    simp at hst; subst hst
    simp [Builtin.append_, run_underlying h1, run_underlying h2, sizeOf, typeInfo, ok.info, hn, hle, hc]
  | some b =>
    simp only at hst
    simp [Builtin.append_, run_underlying h1, run_underlying h2, sizeOf, typeInfo, ok.info, hn, hle, hc, hst]
theorem zb1 {ts : Array TypeId} {e : TypeId} {i : TypeInfo} {zv : Value} (ok : AppOk P ts e i zv) (type : TypeId) {base : Option Addr} {len cap n : Nat} {x' : Value} {l old : List Value}
    (hn : ∀ w, (Builtin.lenOf x').run P w = .ok n w) (hle : ¬ len + n ≤ cap) (hb : (len + n) * i.bytes ≤ 1073741824)
    (hold : (Builtin.firstCells i.size len (.slice base len cap)).run P w.drew = .ok ⟨old⟩ w.drew) (hc : (Builtin.firstCells i.size n x').run P w = .ok ⟨l⟩ w) (hcD : (Builtin.firstCells i.size n x').run P w.drew = .ok ⟨l⟩ w.drew)
    (hl : l.length = n * i.size) (hone : ∀ u ∈ l, u.oneCell' = true) :
    ∃ nc, len + n ≤ nc ∧ (Builtin.append_ ts type #[.slice base len cap, x']).run P w = .ok (.slice (some ⟨w.heap.size, 0, none⟩) (len + n) nc) (w.drew.alloc (.cells ((old ++ l).toArray ++ Builtin.zeroCells zv.cells (nc - (len + n))) e)) := by
  obtain ⟨t, tx, e', rfl, h1, h2⟩ := ok.ts
  have hcap : Builtin.nextslicecap (len + n) cap ≤ 2 * (len + n) + 200 := zhR (by omega)
  have hpos : 1 ≤ len + n := by omega
  have hbl : i.bytes ≤ 1073741824 := Nat.le_trans (Nat.le_mul_of_pos_left _ hpos) hb
  have hbig : Builtin.nextslicecap (len + n) cap * i.bytes ≤ 281474976710656 := by
    have h2 : Builtin.nextslicecap (len + n) cap * i.bytes ≤ (2 * (len + n) + 200) * i.bytes := Nat.mul_le_mul_right _ hcap
    have h3 : (2 * (len + n) + 200) * i.bytes = 2 * ((len + n) * i.bytes) + 200 * i.bytes := by rw [Nat.add_mul, Nat.mul_assoc]
    omega
  have hlen : len + n ≤ 1073741824 := Nat.le_trans (Nat.le_mul_of_pos_right _ (Nat.pos_of_ne_zero ok.bytes)) hb
  exact ⟨grownCap w (len + n) cap e, by simp [grownCap, Question.cut], run_append_grow_src (P := P) w t tx type e i zv h1 ok.info ok.zero base len cap old hold x' n l ⟨.inl ⟨e', h2⟩, hn, hc, hcD, hl, hone⟩ (by omega) (by omega) hbig⟩
theorem one_of {ρ : Rho} {l l' : List Value} (hv : VRL ρ l l') (hc : l.all zbb = true) : ∀ u ∈ l', u.oneCell' = true := by
  intro x hx
  obtain ⟨j, hj⟩ := List.mem_iff_getElem?.1 hx
  have hlt : j < l.length := by rw [hv.1]; exact (List.getElem?_eq_some_iff.1 hj).1
  exact (hv.2 j _ x (List.getElem?_eq_getElem hlt) hj).cellOk (List.all_eq_true.1 hc _ (List.getElem_mem hlt))
theorem calm_append (a b : Array Value) (t : TypeId) : Calm (.cells (a ++ b) t) := zbx _ _
theorem zhn {i : TypeInfo} {e : TypeId} {zv : Value} (hz : zv.cells.size = i.size) (hsz : i.size ≠ 0) {ρ : Rho} {h : H} {w : World} (hr : HR P ρ h w) {old new old' l : List Value} (ho : VRL ρ old old') (hl : VRL ρ new l) {need nc : Nat}
    (hneed : (old ++ new).length = need * i.size) (hnc : need ≤ nc) :
    ∃ σ v', VR σ (zdH h need i.size (old ++ new)).1 (.slice (some ⟨w.heap.size, 0, none⟩) need nc) ∧ v' = Value.slice (some ⟨w.heap.size, 0, none⟩) need nc ∧
      HR P σ (zdH h need i.size (old ++ new)).2 (w.alloc (.cells ((old' ++ l).toArray ++ Builtin.zeroCells zv.cells (nc - need)) e)) ∧ Ext ρ w σ (w.alloc (.cells ((old' ++ l).toArray ++ Builtin.zeroCells zv.cells (nc - need)) e)) := by
  have hv := ho.append hl
  have hfree := (hr.nxt _ (Nat.le_refl _)).1
  have hsize : ((old' ++ l).toArray ++ Builtin.zeroCells zv.cells (nc - need)).size = nc * i.size := by
    have h1 : (old' ++ l).length = need * i.size := by rw [← hv.1, hneed]
    have h2 : (Builtin.zeroCells zv.cells (nc - need)).size = (nc - need) * i.size := by simp [Builtin.zeroCells, hz]
    rw [Array.size_append, h2]
    simp only [List.size_toArray, h1]
    rw [← Nat.add_mul, Nat.add_sub_cancel' hnc]
  have hpos := Nat.pos_of_ne_zero hsz
  have hle : need * i.size ≤ nc * i.size := Nat.mul_le_mul_right _ hnc
  obtain ⟨g1, g2⟩ := hr.new (R := ⟨w.heap.size, 0, nc * i.size, i.size, need * i.size, none⟩) (io := .cells (old ++ new) i.size) (o := .cells ((old' ++ l).toArray ++ Builtin.zeroCells zv.cells (nc - need)) e) rfl
    (calm_append _ _ _) (OR.newCells e rfl rfl hneed.symm rfl rfl hsize (by rw [hsize, hneed]; exact hle) (by
      have : (((old' ++ l).toArray ++ Builtin.zeroCells zv.cells (nc - need)).toList.take (old ++ new).length) = old' ++ l := by
        rw [Array.toList_append, hv.1, List.take_left]
      rw [this]; exact hv.mono (zdS _ hfree)))
  refine ⟨_, _, ?_, rfl, g1, g2⟩
  have := VR.sliceO (ρ := upd ρ h.next ⟨w.heap.size, 0, nc * i.size, i.size, need * i.size, none⟩) (o := 0) (len := need) (cap := nc) (zV _ _ _) hpos hnc (by simp) (by simpa using hle)
  simpa [zdH] using this
theorem s_append (hr : HR P ρ h w) {ts : Array TypeId} {e : TypeId} {i : TypeInfo} {zv : Value} (ok : AppOk P ts e i zv) (type : TypeId) (cs : Array Bool) {sv xv sv' xv' : Value} (rs : VR ρ sv sv') (rx : VR ρ xv xv')
    (hv : bltV h (.append i.size i.bytes) [sv, xv] = some (v, h')) : Sim P ρ w ((builtin .append ts type cs #[sv', xv']).run P w) v h' := by
  simp only [bltV] at hv
  obtain ⟨⟨n, new⟩, ha, hv1⟩ := aof hv
  clear hv
  obtain ⟨hlen, hnl, l, hvl, hcells, hcellsD⟩ := appended_run (P := P) (w := w) hr rx ha
  have fin : ∀ {v' : Value} {w' : World} {σ : Rho}, (Builtin.append_ ts type #[sv', xv']).run P w = .ok v' w' → VR σ v v' → HR P σ h' w' → Ext ρ w σ w' → Sim P ρ w ((builtin .append ts type cs #[sv', xv']).run P w) v h' := by
    intro v' w' σ q1 q2 q3 q4
    exact ⟨.value v', v', w', σ, by simp [builtin, q1], .inl rfl, q2, q3, q4⟩
  cases sv with
  | slice base len cap =>
    simp only [zcn] at hv1
    split at hv1
    ·
      rename_i hn
      obtain rfl : n = 0 := Nat.eq_of_beq_eq_true hn
      cases hv1
      have hl0 : l = [] := by
        have := hvl.1; rw [hnl, Nat.zero_mul] at this
        exact List.eq_nil_of_length_eq_zero this.symm
      subst hl0
      obtain ⟨b', c', rfl, hb⟩ := rs.inv_slice
      have hle : len + 0 ≤ c' := by cases rs <;> omega
      have := zbP ok type (base := b') (len := len) (cap := c') (n := 0) (w := w) (w' := w) hlen hcells hle (by cases b' <;> simp [storeCells])
      exact fin this (by simpa using rs) hr (.refl _ _)
    · rename_i hn0
      have hn : n ≠ 0 := by intro e; subst e; exact hn0 rfl
      split at hv1
      · rename_i hcond
        simp only [Bool.and_eq_true] at hcond
        have hbytes : (len + n) * i.bytes ≤ 1073741824 := Nat.le_of_ble_eq_true hcond.1
        have hcell := hcond.2
        have hone := one_of hvl hcell
        have hll : l.length = n * i.size := by rw [← hvl.1, hnl]
        have hpos := Nat.pos_of_ne_zero ok.size
        have hnne : new ≠ [] := by
          intro e; rw [e] at hnl
          have : 0 < n * i.size := Nat.mul_pos (Nat.pos_of_ne_zero hn) hpos
          simp at hnl; omega
        cases base with
        | none =>
          dsimp only at hv1
          split at hv1
          · rename_i hz
            simp only [Bool.and_eq_true] at hz
            obtain rfl : len = 0 := Nat.eq_of_beq_eq_true hz.1
            obtain rfl : cap = 0 := Nat.eq_of_beq_eq_true hz.2
            cases hv1
            cases rs
            obtain ⟨nc, hnc, hrun⟩ := zb1 (w := w) ok type (base := none) (len := 0) (cap := 0) (n := n) (old := []) hlen (by omega) hbytes (by simp [Builtin.firstCells]) hcells hcellsD hll hone
            obtain ⟨σ, v', q1, rfl, q2, q3⟩ := zhn (P := P) (e := e) ok.zsize ok.size hr.drew (VRL.nil ρ) hvl (need := n) (nc := nc) (by simpa using hnl) (by omega)
            simp only [List.nil_append, Nat.zero_add] at *
            exact fin hrun q1 q2 ((Ext.drew ρ w).trans q3)
          · cases hv1
        | some ad =>
          obtain ⟨o, ho, hv2⟩ := aof hv1
          clear hv1
          cases o with
          | cells ics esz =>
            have hread : ∀ k old, zU k (zby ad.off ics) = some old → h.readN ad.block ad.off k = some old := by
              intro k old hk
              simp only [H.readN, ho, Option.bind_some, readObj, hk]
            have oldlen : ∀ k old, zU k (zby ad.off ics) = some old → old.length = k := by
              intro k old hk
              have hk := (zeM hk).1
              rw [zfz, zfU] at hk
              split at hk
              · cases hk; simp at *; omega
              · cases hk
            simp only [zeV] at hv2
            split at hv2
            ·
              rename_i hcap
              obtain rfl : cap = zk := Nat.eq_of_beq_eq_true hcap
              split at hv2
              · rename_i hes
                rw [Bool.and_eq_true] at hes
                obtain ⟨hes, hnro0⟩ := hes
                obtain rfl : esz = i.size := Nat.eq_of_beq_eq_true hes
                have hnro : i.size ≠ roE := fun e => by rw [e] at hnro0; simp at hnro0
                split at hv2
                ·
                  rename_i hkn
                  have hkn' : len + n ≤ (ics.length - ad.off) / i.size := Nat.le_of_ble_eq_true hkn
                  obtain ⟨h1, hw, e0⟩ := amf hv2
                  cases e0
                  cases rs with
                  | slice hR hc hl => exact (Nat.lt_irrefl zk hc).elim
                  | @sliceO i0 o0 _ cap' R hR he hl hs hb =>
                    obtain ⟨q1, q2, _⟩ := hr.obj _ _ _ hR ho
                    have hle : len + n ≤ cap' := by
                      refine Nat.le_trans hkn' ?_
                      rw [Nat.div_le_iff_le_mul_add_pred hpos]
                      dsimp only
                      rw [← q2, ← q1, Nat.mul_comm]; omega
                    obtain ⟨w', hst, g1, g2⟩ := zft (P := P) hr hR hvl hnne hw
                    have hrun := zbP ok type (base := some ⟨R.blk, R.base + o0, none⟩) (len := len) (cap := cap') (n := n) (w := w) (w' := w') hlen hcells hle (by
                      dsimp only; rw [Addr.add_mk, Nat.add_assoc]; exact hst)
                    exact fin hrun (.sliceO hR he hle hs hb) g1 g2
                  | @sliceE i0 o0 o' R hR he hb =>
                    obtain ⟨q1, q2, _⟩ := hr.obj _ _ _ hR ho
                    exfalso
                    have : (ics.length - o0) / i.size ≤ 0 := by
                      rw [Nat.div_le_iff_le_mul_add_pred hpos]; omega
                    dsimp only at hkn'
                    omega
                ·
                  obtain ⟨old, hold, e0⟩ := amf hv2
                  have hol := oldlen _ _ hold
                  have hre := hread _ _ hold
                  have hkill := hr.kill (i := ad.block) (hr.lt ho)
                  have hsum : (old ++ new).length = (len + n) * i.size := by simp [hol, hnl, Nat.add_mul]
                  cases e0
                  cases rs with
                  | slice hR hc hl => exact (Nat.lt_irrefl zk hc).elim
                  | @sliceO i0 o0 _ cap' R hR he hl hs hb =>
                    obtain ⟨old', hvo, hrunO⟩ := zge (P := P) hr.drew hR hre
                    by_cases hle : len + n ≤ cap'
                    ·
                      obtain ⟨q1, q2, c, t, fr, hb1, hfx, hsz, hfit, hget⟩ := hr.obj _ _ _ hR ho
                      obtain ⟨hfx, rfl⟩ := hfx.resolve_right (fun h => hnro h.2)
                      have hroom : R.base + o0 + (len * i.size) + l.length ≤ c.size := by
                        have h1 : (len + n) * i.size ≤ cap' * i.size := Nat.mul_le_mul_right _ hle
                        rw [hll, hsz, Nat.add_assoc (R.base + o0), ← Nat.add_mul]
                        rw [q1] at hs; omega
                      have hst := run_storeCells_at (P := P) R.blk (R.base + o0 + len * i.size) t l 0 c w hb1 (by omega) hone
                      rw [zfD w _ c _ t _ hb1, Nat.add_zero] at hst
                      generalize hrow : (c.toList.take (R.base + o0 + len * i.size) ++ l ++ c.toList.drop (R.base + o0 + len * i.size + l.length)) = row at hst
                      have hrl : row.length = c.size := by rw [← hrow]; simp; omega
                      have hrun := zbP ok type (base := some ⟨R.blk, R.base + o0, none⟩) (len := len) (cap := cap') (n := n) (w := w) hlen hcells hle (by
                        dsimp only; rw [Addr.add_mk]; exact hst)
                      have hblt := hr.blk _ _ hR
                      have hfree := (hr.nxt _ (Nat.le_refl _)).1
                      obtain ⟨g1, g2⟩ := hr.steal (R' := ⟨R.blk, R.base + o0, R.csize, i.size, (len + n) * i.size, none⟩) (io := .cells (old ++ new) i.size) (o := .cells row.toArray t) hR ho (by simp) hb1 (fun r hr => by cases hr) (zbx _ _) (zbx _ _) rfl (by
                        refine ⟨rfl, hsum.symm, row.toArray, t, _, by simp [hblt], .inl ⟨rfl, rfl⟩, by simp [hrl, hsz], by simp only [List.size_toArray, hrl]; rw [hsum, Nat.add_mul]; omega, fun j x hj => ?_⟩
                        simp only [List.getElem?_toArray]
                        rw [← hrow]
                        by_cases hj1 : j < old.length
                        · rw [List.getElem?_append_left hj1] at hj
                          obtain ⟨cs0, esz0, hg0, hle0, e1, -⟩ := zf9 hre
                          rw [ho] at hg0; cases hg0
                          rw [e1, List.getElem?_take, if_pos (by omega), List.getElem?_drop] at hj
                          obtain ⟨v', hv', hvv⟩ := hget _ x hj
                          refine ⟨v', ?_, hvv.imp id (·.mono (zdS _ hfree))⟩
                          have hlt : R.base + (o0 + j) < c.size := (Array.getElem?_eq_some_iff.1 hv').1
                          rw [List.append_assoc, List.getElem?_append_left (by simp; omega), List.getElem?_take, if_pos (by omega), Array.getElem?_toList, Nat.add_assoc]
                          exact hv'
                        · rw [List.getElem?_append_right (by omega)] at hj
                          obtain ⟨y, hy, hyv⟩ := hvl.get hj
                          refine ⟨y, ?_, .inr (hyv.mono (zdS _ hfree))⟩
                          have hyl : j - old.length < l.length := (List.getElem?_eq_some_iff.1 hy).1
                          rw [List.append_assoc, List.getElem?_append_right (by simp; omega), List.getElem?_append_left (by simp; omega)]
                          have e3 : R.base + o0 + j - (List.take (R.base + o0 + len * i.size) c.toList).length = j - old.length := by
                            rw [List.length_take, Array.length_toList]; omega
                          rw [e3]; exact hy)
                      have hvr : VR (upd ρ h.next ⟨R.blk, R.base + o0, R.csize, i.size, (len + n) * i.size, none⟩) (.slice (some ⟨h.next, 0, none⟩) (len + n) zk) (.slice (some ⟨R.blk, R.base + o0 + 0, none⟩) (len + n) cap') := by
                        have h1 : (len + n) * i.size ≤ cap' * i.size := Nat.mul_le_mul_right _ hle
                        refine VR.sliceO (zV _ _ _) hpos hle ?_ (by simpa using h1)
                        dsimp only; rw [q1] at hs; omega
                      exact fin hrun (by simpa [zdH] using hvr) g1 g2
                    · obtain ⟨nc, hnc, hrun⟩ := zb1 (w := w) ok type (base := some ⟨R.blk, R.base + o0, none⟩) (len := len) (cap := cap') (n := n) (old := old') hlen hle hbytes (by simpa [Builtin.firstCells] using hrunO) hcells hcellsD hll hone
                      obtain ⟨σ, v', p1, rfl, p2, p3⟩ := zhn (P := P) (e := e) ok.zsize ok.size hkill.drew hvo hvl (need := len + n) (nc := nc) hsum hnc
                      exact fin hrun p1 p2 ((Ext.drew ρ w).trans p3)
                  | @sliceE i0 o0 o' R hR he hb =>
                    have : old = [] := by apply List.eq_nil_of_length_eq_zero; rw [hol, Nat.zero_mul]
                    subst this
                    obtain ⟨nc, hnc, hrun⟩ := zb1 (w := w) ok type (base := some ⟨R.blk, o', none⟩) (len := 0) (cap := 0) (n := n) (old := []) hlen (by omega) hbytes (by simp only [Builtin.firstCells, Nat.zero_mul]; rfl) hcells hcellsD hll hone
                    obtain ⟨σ, v', p1, rfl, p2, p3⟩ := zhn (P := P) (e := e) ok.zsize ok.size hkill.drew (VRL.nil ρ) hvl (need := 0 + n) (nc := nc) hsum hnc
                    exact fin hrun p1 p2 ((Ext.drew ρ w).trans p3)
              · cases hv2
            ·
              rename_i hcap
              have hcap' : cap ≠ zk := by intro e; subst e; exact hcap (Nat.beq_refl _)
              cases rs with
              | sliceO hR _ _ _ _ => exact absurd rfl hcap'
              | sliceE hR _ _ => exact absurd rfl hcap'
              | sliceD hR hm =>
                obtain ⟨q1, q2, c, t, fr, hb, hfx, hsz, hfit, hget⟩ := hr.obj _ _ _ hR ho
                exfalso; omega
              | @slice i0 o0 _ _ R hR hc hl =>
                split at hv2
                · rename_i hle
                  have hle' : len + n ≤ cap := Nat.le_of_ble_eq_true hle
                  obtain ⟨h1, hw, e0⟩ := amf hv2
                  cases e0
                  obtain ⟨w', hst, g1, g2⟩ := zft (P := P) hr hR hvl hnne hw
                  have hrun := zbP ok type (base := some ⟨R.blk, R.base + o0, none⟩) (len := len) (cap := cap) (n := n) (w := w) (w' := w') hlen hcells hle' (by
                    dsimp only; rw [Addr.add_mk, Nat.add_assoc]; exact hst)
                  exact fin hrun (.slice hR hc hle') g1 g2
                · rename_i hle
                  have hle' : ¬ len + n ≤ cap := fun h => hle (Nat.ble_eq_true_of_le h)
                  obtain ⟨old, hold, e0⟩ := amf hv2
                  have hol := oldlen _ _ hold
                  have hre := hread _ _ hold
                  have hsum : (old ++ new).length = (len + n) * i.size := by simp [hol, hnl, Nat.add_mul]
                  cases e0
                  obtain ⟨old', hvo, hrunO⟩ := zge (P := P) hr.drew hR hre
                  obtain ⟨nc, hnc, hrun⟩ := zb1 (w := w) ok type (base := some ⟨R.blk, R.base + o0, none⟩) (len := len) (cap := cap) (n := n) (old := old') hlen hle' hbytes (by simpa [Builtin.firstCells] using hrunO) hcells hcellsD hll hone
                  obtain ⟨σ, v', p1, rfl, p2, p3⟩ := zhn (P := P) (e := e) ok.zsize ok.size hr.drew hvo hvl (need := len + n) (nc := nc) hsum hnc
                  exact fin hrun p1 p2 ((Ext.drew ρ w).trans p3)
          | map _ _ => cases hv2
          | loop _ _ _ _ => cases hv2
          | dead => cases hv2
      · cases hv1
  | _ => simp [zcn] at hv1
end
end Go.Ideal
namespace Go.Ideal
variable {P : Program}
inductive Cl where
  | pure | alloc | eff | call
def zQ : COp → Cl
  | .alloc _ => .alloc
  | .box _ => .alloc
  | .buildSlice .. => .alloc
  | .makeMap => .alloc
  | .makeSlice .. => .alloc
  | .store .. => .eff
  | .mapUpdate .. => .eff
  | .blt (.append _ _) _ => .eff
  | .blt (.clear _) _ => .eff
  | .call .. => .call
  | _ => .pure
section
variable {ρ : Rho} {h h' : H} {w : World} {s : zf} {a : Act} {v : Value}
theorem Sim.of_sem {sem : Sem Value} {v' : Value} {w' : World} {σ : Rho} (h1 : sem.run P w = .ok v' w') (h2 : VR σ v v') (h3 : HR P σ h' w') (h4 : Ext ρ w σ w') : Sim P ρ w ((do pure (Next.value (← sem)) : Sem Next).run P w) v h' :=
  ⟨.value v', v', w', σ, by simp [h1], .inl rfl, h2, h3, h4⟩
def ClSim (P : Program) (ρ : Rho) (h : H) (w : World) (r : Result Next) (v : Value) (h' : H) : Cl → Prop
  | .pure => h' = h ∧ SimP P ρ w r v
  | .alloc => ∃ (f : Nat → Value) (io : IObj), v = f h.next ∧ h' = h.new io ∧ ∀ i, ρ i = none → SimA P ρ w r i (f i) io
  | .eff => Sim P ρ w r v h'
  | .call => True
theorem s_clear (hr : HR P ρ h w) {ts : Array TypeId} {t e : TypeId} {z : List Value} (hts : ts[0]? = some t) (hu : P.underlying t = some (.slice e)) (hz : zbm P e = some z) (hz0 : z.length ≠ 0) {vs : List Value} {args : Array Value} (hargs : VRL ρ vs args.toList) (hv : bltV h (.clear z) vs = some (v, h')) (type : TypeId) (cs : Array Bool) :
    Sim P ρ w ((builtin .clear ts type cs args).run P w) v h' := by
  cases vs with
  | nil => simp [bltV] at hv
  | cons x l => cases l with
    | cons y l => cases x <;> simp [bltV] at hv
    | nil =>
      obtain ⟨y, ys, hys, h1, h2⟩ := hargs.cons_left
      have hy : args[0]? = some y := by rw [← Array.getElem?_toList, hys]; rfl
      cases x with
      | slice b n c =>
        cases b with
        | none =>
          simp only [bltV, Option.some.injEq, Prod.mk.injEq] at hv
          obtain ⟨rfl, rfl⟩ := hv
          cases h1
          exact ⟨.value (.tuple #[]), .tuple #[], w, ρ, by simp [builtin, Builtin.clear_, hts, hy, run_underlying hu], .inl rfl, VR.tuple_of (VRL.nil ρ), hr, .refl _ _⟩
        | some ad =>
          simp only [bltV] at hv
          split at hv
          · rename_i hn
            obtain rfl : n = 0 := Nat.eq_of_beq_eq_true hn
            cases hv
            obtain ⟨b', c', rfl, hb⟩ := h1.inv_slice
            exact ⟨.value (.tuple #[]), .tuple #[], w, ρ, by cases b' <;> simp [builtin, Builtin.clear_, hts, hy, run_underlying hu], .inl rfl, VR.tuple_of (VRL.nil ρ), hr, .refl _ _⟩
          · rename_i hn
            have hn0 : n ≠ 0 := by intro e; subst e; exact hn rfl
            obtain ⟨g, hg, e0⟩ := amf hv
            cases e0
            obtain ⟨R, c', hR, rfl⟩ := h1.inv_slice_some hn0
            obtain ⟨⟨zv, hzv, hzr⟩, hzc⟩ := zbZ hz
            have hvz : VRL ρ z zv.cells.toList := by rw [hzv]; exact VRL.refl1 hzc
            have hl : z.length = zv.cells.size := by have := hvz.1; simpa using this
            have hrel : VRL ρ (zl z n) (Builtin.zeroCells zv.cells n).toList := zhs hvz n _ (by rw [hl])
            have hne : zl z n ≠ [] := by
              intro e
              have := congrArg List.length e
              rw [zbI] at this
              have h2 : 0 < n * z.length := Nat.mul_pos (by omega) (by omega)
              simp at this; omega
            obtain ⟨w', hst, g1, g2⟩ := zft (P := P) hr hR hrel hne hg
            obtain ⟨m, rfl⟩ : ∃ m, n = m + 1 := ⟨n - 1, by omega⟩
            exact ⟨.value (.tuple #[]), .tuple #[], w', ρ, by simp [builtin, Builtin.clear_, hts, hy, run_underlying hu, hzr, hst], .inl rfl, VR.tuple_of (VRL.nil ρ), g1, g2⟩
      | _ => simp [bltV] at hv
theorem s_strIdx (hs : SR ρ s a.tmps) {x y : Operand} {c d : CO} (hc : co x = some c) (hd : co y = some d) {t : TypeId} (h1 : P.underlying t = some .string) (hv : zfp c d s h = some (v, h')) :
    h' = h ∧ SimP P ρ w ((do pure (Next.value (← Instr.index t (a.eval x) (a.eval y))) : Sem Next).run P w) v := by
  obtain ⟨u, hu, hv⟩ := aof hv
  obtain ⟨i, hi, hv⟩ := aof hv
  obtain ⟨r, hr, e⟩ := amf hv
  cases e
  have rx := zbz hc hs hu
  have ri := zbz hd hs hi
  unfold strIdxV at hr
  split at hr
  · rename_i sv k j _
    obtain ⟨b, hb, rfl⟩ := amf hr
    rw [rx.inv_str, ri.inv_int]
    have hsz : j < sv.size := by have := (List.getElem?_eq_some_iff.1 hb).1; simpa using this
    have hget : sv[j]? = some b := by
      rw [getElem?_pos sv j hsz]
      rw [← hb]
      show some (sv.data[j]) = _
      rw [Array.getElem?_toList, Array.getElem?_eq_getElem]
    refine ⟨rfl, zO (v' := .int .u8 b.toNat) ?_ (.int _ _)⟩
    simp [Instr.index, asIntOf, run_underlying h1, hget]
  · cases hr
theorem op_sim {o : Oper} {op : COp} (hc : zct P o = some op) (hr : HR P ρ h w) (hs : SR ρ s a.tmps) (hv : opV op s h = some (v, h')) :
    ClSim P ρ h w ((execOp a.eval o).run P w) v h' (zQ op) := by
  cases ho : o.op <;> simp only [zct, ho, reduceCtorEq] at hc
  case move x => obtain ⟨c, h1, rfl⟩ := amf hc; simpa [execOp, ho, ClSim, zQ] using s_mv (w := w) (P := P) hs h1 hv
  case assign x => obtain ⟨c, h1, rfl⟩ := amf hc; simpa [execOp, ho, ClSim, zQ] using s_mv (w := w) (P := P) hs h1 hv
  case pick c x y =>
    obtain ⟨c', h1, hc⟩ := aof hc; obtain ⟨x', h2, hc⟩ := aof hc; obtain ⟨y', h3, rfl⟩ := amf hc
    have := s_pick (w := w) (P := P) hs h1 h2 h3 hv
    simp only [execOp, ho]; exact this
  case alloc e =>
    obtain ⟨z, h1, rfl⟩ := amf hc
    cases hv
    refine ⟨fun i => .pointer (some ⟨i, 0, none⟩), .cells z 0, rfl, rfl, fun i hi => ?_⟩
    simp only [execOp, ho]; exact s_alloc hi h1
  case box e x =>
    obtain ⟨c, h1, rfl⟩ := amf hc
    obtain ⟨u, hu, e⟩ := amf hv
    cases e
    refine ⟨fun i => .pointer (some ⟨i, 0, none⟩), .cells (zj u) 0, rfl, rfl, fun i hi => ?_⟩
    simp only [execOp, ho]; exact s_box hs hi h1 hu
  case build t parts =>
    obtain ⟨z, h1, hc⟩ := aof hc; obtain ⟨u, h2, hc⟩ := aof hc
    cases u <;> simp only [reduceCtorEq] at hc
    case struct fs =>
      split at hc
      · rename_i hall
        obtain ⟨qs, h3, rfl⟩ := amf hc
        simp only [execOp, ho]
        exact s_build (pl := fun i => (fs[i]?).bind fun (f : Field) => (zW P f.type).map fun s => (f.offset, s)) hs h1 h3 (fun p q hpq => by
          obtain ⟨f, hf, hpq⟩ := aof hpq; obtain ⟨sz, hsz, hpq⟩ := aof hpq; obtain ⟨x, hx, rfl⟩ := amf hpq
          exact ⟨by simp [hf, hsz], hx⟩) (fun l z' cs hz hfill => zgZ h2 hall l hz hfill) hv
      · cases hc
    case array n e =>
      obtain ⟨sz, h3, hc⟩ := aof hc
      obtain ⟨qs, h4, rfl⟩ := amf hc
      simp only [execOp, ho]
      exact s_build (pl := fun i => some (i * sz, sz)) hs h1 h4 (fun p q hpq => by obtain ⟨x, hx, rfl⟩ := amf hpq; exact ⟨rfl, hx⟩) (fun l z' cs hz hfill => zhG h2 h3 l hz hfill) hv
  case buildSlice t len parts =>
    obtain ⟨u, h1, hc⟩ := aof hc
    cases u <;> simp only [reduceCtorEq] at hc
    case slice e =>
      obtain ⟨sz, h2, hc⟩ := aof hc
      split at hc
      · cases hc
      · rename_i h3
        obtain ⟨z, h4, hc⟩ := aof hc
        split at hc
        · cases hc
        · rename_i h5
          split at hc
          · cases hc
          · rename_i h7
            obtain ⟨qs, h6, rfl⟩ := amf hc
            obtain ⟨l, hl, hv⟩ := aof hv
            obtain ⟨c, hcf, e0⟩ := amf hv
            cases e0
            refine ⟨fun i => .slice (some ⟨i, 0, none⟩) len len, .cells c 0, rfl, rfl, fun i hi => ?_⟩
            simp only [execOp, ho]; exact s_buildSlice hs hi h1 h2 h3 h4 (by simpa using h5) h6 hl hcf (by simpa using h7)
  case load t x =>
    obtain ⟨c, h1, hc⟩ := aof hc; obtain ⟨sz, h2, hc⟩ := amf hc
    cases sz with
    | some n => cases hc; simp only [execOp, ho]; exact s_loadN hr hs h1 h2 hv
    | none => cases hc; simp only [execOp, ho]; exact s_load1 hr hs h1 h2 hv
  case store t x y =>
    obtain ⟨c, h1, hc⟩ := aof hc; obtain ⟨d, h2, hc⟩ := aof hc; obtain ⟨n, h3, hc⟩ := aof hc
    split at hc
    · cases hc
    · rename_i hn
      cases hc
      simp only [execOp, ho]; exact s_store hr hs h1 h2 h3 hn hv
  case nilCheck x => obtain ⟨c, h1, rfl⟩ := amf hc; exact s_nilCheck hs ho h1 hv
  case binOp op t x y yt =>
    obtain ⟨c, h1, hc⟩ := aof hc; obtain ⟨d, h2, rfl⟩ := amf hc
    simp only [execOp, ho]; exact s_bin hs h1 h2 hv
  case unOp op t x => obtain ⟨c, h1, rfl⟩ := amf hc; simp only [execOp, ho]; exact s_un hs h1 hv
  case convert sr d x =>
    obtain ⟨c, h1, hc⟩ := aof hc; obtain ⟨u1, h2, hc⟩ := aof hc; obtain ⟨u2, h3, hc⟩ := aof hc
    cases u1 <;> cases u2 <;> simp only [reduceCtorEq, Option.some.injEq] at hc
    subst hc
    simp only [execOp, ho]; exact s_conv hs h1 h2 h3 hv
  case makeFunc fn fs cs =>
    cases fn <;> simp only [reduceCtorEq] at hc
    obtain ⟨l, h1, hc⟩ := aof hc; obtain ⟨m, h2, rfl⟩ := amf hc
    simp only [execOp, ho]; exact s_makeFunc hs h1 h2 hv
  case makeMap t r =>
    cases r with
    | none =>
      cases hc; cases hv
      refine ⟨fun i => .map (some i), .map [] 0, rfl, rfl, fun i hi => ?_⟩
      simp only [execOp, ho]; exact s_makeMap
    | some _ => cases hc
  case makeSlice t l c =>
    obtain ⟨l', h1, hc⟩ := aof hc; obtain ⟨c', h2, hc⟩ := aof hc; obtain ⟨u, h3, hc⟩ := aof hc
    cases u <;> simp only [reduceCtorEq] at hc
    case slice e =>
      obtain ⟨i0, h4, hc⟩ := aof hc; obtain ⟨z, h5, hc⟩ := aof hc
      split at hc
      · cases hc
      · rename_i h6
        cases hc
        obtain ⟨ul, hl, hv⟩ := aof hv; obtain ⟨uc, hcv, hv⟩ := aof hv
        have rl := zbz h1 hs hl
        have rc := zbz h2 hs hcv
        unfold zbT at hv
        split at hv
        · split at hv
          · rename_i hcond
            simp only [Bool.and_eq_true] at hcond
            cases hv
            have q1 := Nat.le_of_ble_eq_true hcond.1.1
            have q2 := Nat.le_of_ble_eq_true hcond.1.2
            have q3 := Nat.le_of_ble_eq_true hcond.2
            refine ⟨fun i => .slice (some ⟨i, 0, none⟩) _ _, .cells _ 0, rfl, rfl, fun i hi => ?_⟩
            simp only [execOp, ho]; rw [rl.inv_int, rc.inv_int]; exact s_makeSlice hi h3 h4 h5 (by simpa using h6) q1 q2 q3
          · cases hv
        · cases hv
  case slice t x lo hi mx =>
    obtain ⟨c, h1, hc⟩ := aof hc; obtain ⟨lo', h2, hc⟩ := aof hc; obtain ⟨hi', h3, hc⟩ := aof hc; obtain ⟨u, h4, hc⟩ := aof hc
    cases u <;> cases mx <;> simp only [reduceCtorEq] at hc
    obtain ⟨sz, h5, rfl⟩ := amf hc
    simp only [execOp, ho]; exact s_slice hr hs h1 h2 h3 h4 h5 hv
  case fieldAddr t x f =>
    obtain ⟨c, h1, hc⟩ := aof hc; obtain ⟨u, h2, hc⟩ := aof hc
    cases u <;> simp only [reduceCtorEq] at hc
    obtain ⟨fl, h3, hc⟩ := aof hc; obtain ⟨sz, h4, hc⟩ := aof hc
    split at hc
    · cases hc
    · rename_i h5; cases hc; simp only [execOp, ho]; exact s_fieldAddr hs h1 h2 h3 h4 h5 hv
  case indexAddr t x y =>
    obtain ⟨c, h1, hc⟩ := aof hc; obtain ⟨d, h2, hc⟩ := aof hc; obtain ⟨u, h3, hc⟩ := aof hc
    cases u <;> simp only [reduceCtorEq] at hc
    case slice e => obtain ⟨sz, h4, rfl⟩ := amf hc; simp only [execOp, ho]; exact s_indexAddr hs h1 h2 h3 h4 hv
    case array n e => obtain ⟨sz, h4, rfl⟩ := amf hc; simp only [execOp, ho]; exact s_indexArr hs h1 h2 h3 h4 hv
  case lookup t x y ok =>
    obtain ⟨c, h1, hc⟩ := aof hc; obtain ⟨d, h2, hc⟩ := aof hc; obtain ⟨u, h3, hc⟩ := aof hc
    cases u <;> simp only [reduceCtorEq] at hc
    obtain ⟨kk, h4, hc⟩ := aof hc; obtain ⟨j, h5, hc⟩ := aof hc; obtain ⟨z, h6, hc⟩ := aof hc
    split at hc
    · rename_i h7; cases hc
      simp only [execOp, ho]
      exact s_lookup hr hs h1 h2 h3 h4 (fun w => by simp [zeroValue, run_typeInfo w h5, h6]) h7 hv
    · cases hc
  case mapUpdate t m k x =>
    obtain ⟨m', h1, hc⟩ := aof hc; obtain ⟨k', h2, hc⟩ := aof hc; obtain ⟨x', h3, hc⟩ := aof hc; obtain ⟨u, h4, hc⟩ := aof hc
    cases u <;> simp only [reduceCtorEq] at hc
    obtain ⟨kk, h5, rfl⟩ := amf hc
    simp only [execOp, ho]; exact s_mapUpdate hr hs h1 h2 h3 h4 h5 hv
  case index t x y =>
    obtain ⟨c, h1, hc⟩ := aof hc; obtain ⟨d, h2, hc⟩ := aof hc; obtain ⟨u, h3, hc⟩ := aof hc
    cases u <;> simp only [reduceCtorEq, Option.some.injEq] at hc
    subst hc
    simp only [execOp, ho]; exact s_strIdx hs h1 h2 h3 hv
  case extract x i => obtain ⟨c, h1, rfl⟩ := amf hc; simp only [execOp, ho]; exact s_extract hs h1 hv
  case call c =>
    split at hc
    · obtain ⟨f, h1, hc⟩ := aof hc; obtain ⟨as, h2, rfl⟩ := amf hc; trivial
    · rename_i b hcal
      obtain ⟨cb, h1, hc⟩ := aof hc; obtain ⟨as, h2, rfl⟩ := amf hc
      obtain ⟨vs, hvs, hv⟩ := aof hv
      have hargs := evL_args hs h2 hvs
      obtain ⟨consts, hx⟩ : ∃ consts, (execOp a.eval o).run P w = (builtin b c.argTypes o.type consts (c.args.map a.eval)).run P w :=
        ⟨_, by simp only [execOp, ho, resolve, hcal, Sem.run_bind, Sem.run_pure, Result.andThen_ok, invoke]; rfl⟩
      rw [hx]
      by_cases happ : ∃ x y, cb = .append x y
      · obtain ⟨x, y, rfl⟩ := happ
        show Sim _ _ _ _ _ _
        cases b <;> simp only [zbL, reduceCtorEq] at h1
        case append =>
          split at h1
          · rename_i t t1 hts
            obtain ⟨u, hu, h1⟩ := aof h1; obtain ⟨u1, hu1, h1⟩ := aof h1
            split at h1
            · obtain ⟨i, hi, h1⟩ := aof h1; obtain ⟨z, hz, h1⟩ := aof h1
              split at h1
              · cases h1
              · rename_i hcond
                cases h1
                have ok : AppOk P c.argTypes _ i z := ⟨⟨t, t1, _, Array.toList_inj.1 (by simpa using hts), hu, hu1⟩, hi, hz, by simpa using fun h => hcond (.inr (.inr h)), fun h => hcond (.inl h), fun h => hcond (.inr (.inl h))⟩
                cases vs with
                | nil => simp [bltV] at hv
                | cons sv vs => cases vs with
                  | nil => simp [bltV] at hv
                  | cons xv vs => cases vs with
                    | cons _ _ => simp [bltV] at hv
                    | nil =>
                      obtain ⟨sv', l1, e1, r1, hl1⟩ := hargs.cons_left
                      obtain ⟨xv', l2, e2, r2, hl2⟩ := hl1.cons_left
                      have := hl2.nil_left; subst this; subst e2
                      have : c.args.map a.eval = #[sv', xv'] := Array.toList_inj.1 (by simpa using e1)
                      rw [this]
                      exact s_append hr ok _ _ r1 r2 hv
            · cases h1
          · cases h1
        case len =>
          exfalso
          obtain ⟨t, ht, h1⟩ := aof h1; obtain ⟨u, hu, h1⟩ := aof h1
          cases u <;> simp at h1
        case clear =>
          exfalso
          obtain ⟨t, ht, h1⟩ := aof h1; obtain ⟨u, hu, h1⟩ := aof h1
          cases u <;> simp only [reduceCtorEq] at h1
          obtain ⟨z', hz', h1⟩ := aof h1
          split at h1 <;> cases h1
        all_goals cases h1
      · by_cases hclr : ∃ z, cb = .clear z
        · obtain ⟨z, rfl⟩ := hclr
          show Sim _ _ _ _ _ _
          cases b <;> simp only [zbL, reduceCtorEq] at h1
          case clear =>
            obtain ⟨t, ht, h1⟩ := aof h1; obtain ⟨u, hu, h1⟩ := aof h1
            cases u <;> simp only [reduceCtorEq] at h1
            obtain ⟨z', hz', h1⟩ := aof h1
            split at h1
            · cases h1
            · rename_i hz0; cases h1; exact s_clear hr ht hu hz' hz0 hargs hv o.type consts
          case append =>
            split at h1
            · obtain ⟨u, hu, h1⟩ := aof h1; obtain ⟨u1, hu1, h1⟩ := aof h1
              split at h1
              · obtain ⟨i, hi, h1⟩ := aof h1; obtain ⟨z, hz, h1⟩ := aof h1
                split at h1 <;> cases h1
              · cases h1
            · cases h1
          case len =>
            exfalso
            obtain ⟨t, ht, h1⟩ := aof h1; obtain ⟨u, hu, h1⟩ := aof h1
            cases u <;> simp at h1
          all_goals cases h1
        · have := s_blt hr h1 (fun x y e => happ ⟨x, y, e⟩) (fun z e => hclr ⟨z, e⟩) hargs hv o.type consts
          have hcl : zQ (.blt cb as) = .pure := by
            cases cb <;> first | rfl | exact absurd ⟨_, _, rfl⟩ happ | exact absurd ⟨_, rfl⟩ hclr
          rw [hcl]; exact this
    · cases hc
end
end Go.Ideal
namespace Go.Ideal
variable {P : Program}
abbrev Wf (r : Option Nat) : Fence := match r with | none => Fence.wide | some l => Fence.wide.inRound l
theorem Wf_fn (r : Option Nat) (f : FuncId) : (Wf r).fn f := by cases r <;> trivial
theorem Wf_depth (r : Option Nat) : (Wf r).depth = none := by cases r <;> rfl
theorem Wf_round (r : Option Nat) : (Wf r).round = r := by cases r <;> rfl
def zbS (D : Nat) : Deferred := { target := .collected D, args := #[] }
structure zc7 (ρ : Rho) (w : World) (Ds : List Nat) : Prop where
  nodup : Ds.Nodup
  ok : ∀ D ∈ Ds, D < w.heap.size ∧ (∀ i R, ρ i = some R → R.blk ≠ D) ∧ w.heap[D]? = some (.deferred (some []))
theorem zc7.ext {ρ σ : Rho} {w w' : World} {Ds : List Nat} (h : zc7 ρ w Ds) (he : Ext ρ w σ w') : zc7 σ w' Ds :=
  ⟨h.nodup, fun D hD => by
    obtain ⟨h1, h2, h3⟩ := h.ok D hD
    refine ⟨Nat.lt_of_lt_of_le h1 he.size, fun i R hi e => ?_, by rw [he.frame D h1 h2]; exact h3⟩
    rcases he.fresh i R hi with ⟨j, S, hj, hs⟩ | hb
    · exact h2 j S hj (hs.trans e)
    · omega⟩
def zeK (r : Option Nat) (w : World) : Prop := ∀ l, r = some l → ∃ lp : Loop, w.heap[l]? = some (.loop lp)
theorem zeK.ext {ρ σ : Rho} {w w' : World} {r : Option Nat} (h : zeK r w) (he : Ext ρ w σ w') : zeK r w' :=
  fun l hl => let ⟨lp, h1⟩ := h l hl; let ⟨lp', h2, _⟩ := he.loops l lp h1; ⟨lp', h2⟩
def VPost (P : Program) (ρ : Rho) (w : World) (o : Out) (e : Ending) (w' : World) : Prop :=
  ∃ v h v' σ, o = .val v h ∧ e = .returned v' ∧ VR σ v v' ∧ HR P σ h w' ∧ Ext ρ w σ w'
def zdR (P : Program) (ρ : Rho) (w : World) (N : Nat) (Ds0 : List Nat) (o : Out) (e : Exit) (a' : Act) (w' : World) : Prop :=
  ∃ σ Ds s h, Ext ρ w σ w' ∧ a'.tmps.size = N ∧ a'.defers = Ds.map zbS ∧ (zc7 σ w' Ds ∧ ∀ D ∈ Ds, D ∈ Ds0 ∨ w.heap.size ≤ D) ∧ SR σ s a'.tmps ∧ HR P σ h w' ∧
    ((o = .nrm s h ∧ e = .normal) ∨ (∃ i, o = .exit i s h ∧ e = .exit i) ∨ (o = .ret s h ∧ e = .ret))
def CallOk (P : Program) (ρ : Rho) (w : World) (args' : Array Value) (o : Out) : Value → Prop
  | .func (.func g) first captured => CallsIn Fence.wide 0 P g (first ++ args' ++ captured) w (VPost P ρ w o) ∧ (∀ w, (callFunc g (first ++ args' ++ captured)).run P w = .ok (.enter g (first ++ args' ++ captured)) w)
  | .func (.yield l) _ _ => ∃ fn tmps assign body, (Instr.yield l args').run P w = .ok (.round l fn tmps assign body) w ∧ RoundIn Fence.wide 0 P l fn tmps assign body w (VPost P ρ w o)
  | _ => False
def CodeOk (P : Program) (m : Nat) (r : Option Nat) (Q : Exit → Act → World → Prop) (a : Act) (w : World) : Code → Prop
  | .loop c => Code.roundsIn (Wf r) 0 P c Q m a w
  | c => c.wpIn (Wf r) 0 P Q a w
theorem CodeOk.wpIn {m : Nat} {r : Option Nat} {Q : Exit → Act → World → Prop} {a : Act} {w : World} {c : Code} (h : CodeOk P m r Q a w c) : c.wpIn (Wf r) 0 P Q a w := by
  cases c <;> first | exact h | exact wpIn_loop_rounds m h
def zhj (P : Program) (m : Nat) : Task → Out → Prop
  | .code c s h, o => ∀ (code : Code) (N : Nat), zx P N code = some (zT c) → ∀ (r : Option Nat) (ρ : Rho) (a : Act) (w : World) (Ds : List Nat), zeK r w → a.tmps.size = N → SR ρ s a.tmps → HR P ρ h w → a.defers = Ds.map zbS → zc7 ρ w Ds →
      CodeOk P m r (zdR P ρ w N Ds o) a w code
  | .call f args h, o => ∀ (ρ : Rho) (f' : Value) (args' : Array Value) (w : World), VR ρ f f' → VRL ρ args args'.toList → HR P ρ h w → CallOk P ρ w args' o f'
section
variable {ρ : Rho} {h h' : H} {w : World} {s : zf} {a : Act} {v : Value}
theorem SR.get {ρ : Rho} {s : zf} {tmps : Array Value} (h : SR ρ s tmps) {t : Nat} {v : Value} (hv : s.get (bits t) = some v) : ∃ v', tmps[t]? = some v' ∧ VR ρ v v' := h t v hv
theorem zcp {N : Nat} {ops : Array Oper} {o : Oper} {c : CI} (hc : zR P N ops o = some c) (hs : SR ρ s a.tmps) {b : Bool} (hb : zcc c.guard s = some b) : Region.wanted o (yielded ops a.tmps) = b := by
  unfold zR at hc
  split at hc
  · obtain ⟨op, hop, hc⟩ := aof hc
    unfold Region.wanted
    cases hg : o.guard with
    | none => rw [hg] at hc; cases hc; simp [zcc] at hb; subst hb; rfl
    | some g =>
      obtain ⟨j, want⟩ := g
      rw [hg] at hc
      obtain ⟨p, hp, e⟩ := amf hc
      subst e
      obtain ⟨t, ht, e⟩ := amf hp
      subst e
      simp only [zcc] at hb
      obtain ⟨u, hu, hb⟩ := aof hb
      obtain ⟨u', hu', hr⟩ := hs.get hu
      simp only [yielded, ht, Option.bind_some, hu']
      unfold wantedV at hb
      split at hb
      · cases hb; rw [hr.inv_bool]; simp
      · cases hb; cases hr; simp
      · cases hb
  · cases hc
theorem z8 {N : Nat} {ops : Array Oper} {o : Oper} {c : CI} (hc : zR P N ops o = some c) : zct P o = some c.op ∧ c.dst = o.dst.map bits ∧ ∀ d, o.dst = some d → d < N := by
  unfold zR at hc
  split at hc
  · rename_i hd
    obtain ⟨op, hop, hc⟩ := aof hc
    have hd' : ∀ d, o.dst = some d → d < N := by intro d e; rw [e] at hd; simpa using hd
    cases hg : o.guard with
    | none => rw [hg] at hc; cases hc; exact ⟨hop, rfl, hd'⟩
    | some g => rw [hg] at hc; obtain ⟨p, hp, e⟩ := amf hc; subst e; exact ⟨hop, rfl, hd'⟩
  · cases hc
theorem put_rel {N : Nat} {σ : Rho} {v v' : Value} {o : Oper} {c : CI} (hd : c.dst = o.dst.map bits) (hlt : ∀ d, o.dst = some d → d < N) (hs : SR σ s a.tmps) (hN : a.tmps.size = N) (hv : VR σ v v') :
    SR σ (zb2 c.dst v s) (a.put o.dst v').tmps ∧ (a.put o.dst v').tmps.size = N ∧ (a.put o.dst v').defers = a.defers := by
  rw [hd]
  cases ho : o.dst with
  | none => exact ⟨hs, hN, rfl⟩
  | some d => exact ⟨hs.set (by rw [hN]; exact hlt d ho) hv, by simp [Act.put, hN], rfl⟩
theorem ClSim.sim {op : COp} {r : Result Next} (hc : ClSim P ρ h w r v h' (zQ op)) (hr : HR P ρ h w) (hn : zQ op ≠ .call) : Sim P ρ w r v h' := by
  cases e : zQ op with
  | pure => rw [e] at hc; obtain ⟨rfl, h2⟩ := hc; exact h2.sim hr
  | alloc => rw [e] at hc; obtain ⟨f, io, rfl, rfl, h3⟩ := hc; exact (h3 _ (hr.nxt _ (Nat.le_refl _)).1).sim hr
  | eff => rw [e] at hc; exact hc
  | call => exact absurd e hn
theorem notDefer {o : Oper} {op : COp} (hc : zct P o = some op) : ∀ c, o.op ≠ .defer c := by
  intro c e
  simp [zct, e] at hc
theorem compile_call {o : Oper} {f : CO} {args : List CO} (hop : zct P o = some (.call f args)) : ∃ cl : Call, o.op = .call cl ∧ ∃ fo, cl.callee = .value fo ∧ co fo = some f ∧ allO co cl.args.toList = some args := by
  cases e : o.op <;> simp only [zct, e, reduceCtorEq] at hop
  case call cl =>
    refine ⟨cl, rfl, ?_⟩
    split at hop
    · rename_i fo hfo
      obtain ⟨f', h1, hop⟩ := aof hop; obtain ⟨as', h2, e2⟩ := amf hop
      cases e2
      exact ⟨fo, hfo, h1, h2⟩
    · obtain ⟨cb, h1, hop⟩ := aof hop; obtain ⟨as', h2, e2⟩ := amf hop; cases e2
    · cases hop
  all_goals (exfalso; revert hop; simp only [Option.bind_eq_some_iff, Option.map_eq_some_iff, reduceCtorEq, and_false, exists_false, imp_false, not_false_eq_true])
  all_goals (intro hop; repeat' (first | (obtain ⟨_, _, hop⟩ := hop) | split at hop))
  all_goals simp_all [Option.bind_eq_some_iff, Option.map_eq_some_iff]
theorem callsIn_W {n : Nat} {g : FuncId} {args : Array Value} {w : World} {R : Ending → World → Prop} (r : Option Nat) (h : CallsIn Fence.wide n P g args w R) : CallsIn (Wf r) n P g args w R := by cases r <;> exact h
theorem roundIn_W {n l : Nat} {g : FuncId} {tmps : Array Value} {as b : Code} {w : World} {R : Ending → World → Prop} (r : Option Nat) (h : RoundIn Fence.wide n P l g tmps as b w R) : RoundIn (Wf r) n P l g tmps as b w R := by cases r <;> exact h
theorem opClass_blt (cb : CB) (as : List CO) : zQ (.blt cb as) ≠ .call := by cases cb <;> simp [zQ]
theorem op_wpIn {ih : IH} {M : Nat} (hih : ∀ t o, ih t = some o → zhj P M t o) {N : Nat} {ops : Array Oper} {o : Oper} {c : CI} (hc : zR P N ops o = some c) (r : Option Nat) (hr : HR P ρ h w) (hs : SR ρ s a.tmps) (hv : doOp ih c.op s h = some (v, h'))
    {next : Act → World → Prop} {Q : Exit → Act → World → Prop} (hnext : ∀ v' w' σ, VR σ v v' → HR P σ h' w' → Ext ρ w σ w' → next (a.put o.dst v') w') :
    o.wpIn (Wf r) 0 P a w next Q := by
  obtain ⟨hop, -, -⟩ := z8 hc
  refine ⟨fun f _ => Wf_fn r f, ?_⟩
  rw [Oper.semAt_eq _ _ _ (notDefer hop)]
  have sim : ∀ op, c.op = op → zQ op ≠ .call → opV op s h = some (v, h') → o.uponIn (Wf r) 0 P a next Q ((execOp a.eval o).run P w) := by
    intro op e hcl hv
    rw [e] at hop
    obtain ⟨n, v', w', σ, h1, h2, h3, h4, h5⟩ := (op_sim hop hr hs hv).sim hr hcl
    rw [h1]
    rcases h2 with rfl | ⟨rfl, rfl⟩
    · exact hnext v' w' σ h3 h4 h5
    · exact hnext undef w' σ h3 h4 h5
  cases hcop : c.op <;> rw [hcop] at hv <;> try exact sim _ hcop (by first | (simp [zQ]; done) | exact opClass_blt _ _) hv
  case call f args =>
    obtain ⟨uf, huf, hv⟩ := aof hv
    obtain ⟨l, hl, hv⟩ := aof hv
    obtain ⟨out, ho, hv⟩ := aof hv
    have hsound := hih _ _ ho
    rw [hcop] at hop
    have hcall := compile_call hop
    obtain ⟨cl, hocl, fo, hfo, hf, hargs⟩ := hcall
    have rf := zbz hf hs huf
    have ra := evL_args hs hargs hl
    have hok := hsound ρ (a.eval fo) (cl.args.map a.eval) w rf ra hr
    cases out <;> simp only [zhy, Option.some.injEq, Prod.mk.injEq, reduceCtorEq] at hv
    obtain ⟨rfl, rfl⟩ := hv
    generalize hfe : a.eval fo = fv at rf hok
    unfold CallOk at hok
    split at hok
    · rename_i g first captured
      obtain ⟨hcalls, henter⟩ := hok
      have hx : (execOp a.eval o).run P w = .ok (.enter g (first ++ cl.args.map a.eval ++ captured)) w := by
        simp only [execOp, hocl, resolve, hfo, hfe, Deferred.ofValue, Sem.run_bind, Sem.run_pure, Result.andThen_ok, invoke]
        exact henter w
      rw [hx]
      refine ⟨(fun h => by rw [Wf_depth] at h; cases h), ?_⟩
      refine (callsIn_W r hcalls).mono ?_
      rintro e w' ⟨v1, h1, v', σ, e1, rfl, q1, q2, q3⟩
      cases e1
      exact hnext v' w' σ q1 q2 q3
    · rename_i l0 first captured
      obtain ⟨fn, tmps, assign, body, hy, hround⟩ := hok
      have hemp : first = #[] ∧ captured = #[] := by cases rf; exact ⟨rfl, rfl⟩
      obtain ⟨rfl, rfl⟩ := hemp
      have hx : (execOp a.eval o).run P w = .ok (.round l0 fn tmps assign body) w := by
        simp only [execOp, hocl, resolve, hfo, hfe, Deferred.ofValue, Sem.run_bind, Sem.run_pure, Result.andThen_ok, invoke, Array.empty_append]
        exact hy
      rw [hx]
      refine ⟨(fun h => by rw [Wf_depth] at h; cases h), ?_⟩
      refine (roundIn_W r hround).mono ?_
      rintro e w' ⟨v1, h1, v', σ, e1, rfl, q1, q2, q3⟩
      cases e1
      exact hnext v' w' σ q1 q2 q3
    · exact hok.elim
theorem zf8 (ih : IH) (s : zf) (h : H) : zdT ih [] s h = some (s, h) := rfl
theorem zcQ (ih : IH) (o : CI) (l : List CI) (s : zf) (h : H) : zdT ih (o :: l) s h = (zgE ih o s h).bind fun x => zdT ih l (zb2 o.dst x.1 s) x.2 := rfl
theorem ops_wpIn {ih : IH} {M : Nat} (hih : ∀ t o, ih t = some o → zhj P M t o) {N : Nat} {ops : Array Oper} (r : Option Nat) {w0 : World} {ρ0 : Rho} {Ds : List Nat} {sF : zf} {hF : H} :
    ∀ (m k : Nat) (l : List CI) (ρ : Rho) (s : zf) (h : H) (a : Act) (w : World), k + m = ops.size → allO (zR P N ops) (ops.toList.drop k) = some l → zdT ih l s h = some (sF, hF) →
      HR P ρ h w → SR ρ s a.tmps → a.tmps.size = N → a.defers = Ds.map zbS → zc7 ρ w Ds → Ext ρ0 w0 ρ w → wpOpsIn (Wf r) 0 P ops (zdR P ρ0 w0 N Ds (.nrm sF hF)) (List.range' k m) a w
  | 0, k, l, ρ, s, h, a, w, hk, hl, hrun, hr, hs, hN, hd, hD, hE => by
    have : ops.toList.drop k = [] := by apply List.drop_eq_nil_of_le; simp; omega
    rw [this] at hl; cases hl
    rw [zf8] at hrun; cases hrun
    exact ⟨ρ, Ds, _, _, hE, hN, hd, ⟨hD, fun D h => .inl h⟩, hs, hr, .inl ⟨rfl, rfl⟩⟩
  | m + 1, k, l, ρ, s, h, a, w, hk, hl, hrun, hr, hs, hN, hd, hD, hE => by
    have hlt : k < ops.size := by omega
    have hdr : ops.toList.drop k = ops[k] :: ops.toList.drop (k + 1) := by
      rw [← List.getElem_cons_drop (by simpa using hlt)]; simp
    rw [hdr] at hl
    obtain ⟨c, hc, hl⟩ := aof hl
    obtain ⟨l', hl', e⟩ := amf hl
    subst e
    rw [zcQ] at hrun
    obtain ⟨⟨v, h1⟩, hstep, hrest⟩ := aof hrun
    obtain ⟨b, hb, hstep⟩ := aof hstep
    obtain ⟨hop, hdst, hdlt⟩ := z8 hc
    have hwant := zcp hc hs hb
    rw [List.range'_succ]
    simp only [wpOpsIn, Array.getElem?_eq_getElem hlt, hwant]
    cases b with
    | true =>
      simp only [if_true]
      refine op_wpIn hih hc r hr hs hstep (fun v' w' σ q1 q2 q3 => ?_)
      obtain ⟨p1, p2, p3⟩ := put_rel hdst hdlt (hs.mono q3.le) hN q1
      exact ops_wpIn hih r m (k + 1) l' σ _ _ _ _ (by omega) hl' hrest q2 p1 p2 (p3.trans hd) (hD.ext q3) (hE.trans q3)
    | false =>
      simp only [Bool.false_eq_true, if_false]
      cases hstep
      obtain ⟨p1, p2, p3⟩ := put_rel (v' := undef) hdst hdlt hs hN (VR.tuple_of (VRL.nil ρ))
      exact ⟨fun f _ => Wf_fn r f, ops_wpIn hih r m (k + 1) l' ρ _ _ _ _ (by omega) hl' hrest hr p1 p2 (p3.trans hd) hD hE⟩
end
section
variable {ρ : Rho} {h h' : H} {w : World} {s : zf} {a : Act}
theorem zhJ {F : Fence} {n : Nat} {c : Code} {Q Q' : Exit → Act → World → Prop} (hq : ∀ e a w, Q e a w → Q' e a w) : ∀ (m : Nat) (a : Act) (w : World), Code.roundsIn F n P c Q m a w → Code.roundsIn F n P c Q' m a w
  | 0, _, _, h => h
  | m + 1, a, w, h => by
    rw [roundsIn_succ] at h ⊢
    refine wpIn_mono h (fun e a w h => ?_)
    cases e
    case normal => exact zhJ hq m a w h
    all_goals exact hq _ _ _ h
theorem zdR.ext {ρ σ : Rho} {w w' : World} {N : Nat} {Ds0 Ds : List Nat} {o : Out} {e : Exit} {a : Act} {w'' : World} (he : Ext ρ w σ w') (hds : ∀ D ∈ Ds, D ∈ Ds0 ∨ w.heap.size ≤ D) (hp : zdR P σ w' N Ds o e a w'') : zdR P ρ w N Ds0 o e a w'' := by
  obtain ⟨τ, Ds, s, h, h1, h2, h3, ⟨h4, h5⟩, h6⟩ := hp
  exact ⟨τ, Ds, s, h, he.trans h1, h2, h3, ⟨h4, fun D hD => (h5 D hD).elim (fun h => hds D h) (fun h => .inr (Nat.le_trans he.size h))⟩, h6⟩
theorem wpIn_scope {F : Fence} {n : Nat} {c : Code} {Q : Exit → Act → World → Prop} (h : c.wpIn F n P Q a w) (hq : ∀ l a w, ¬ Q (.goto l) a w) : (Code.scope c).wpIn F n P Q a w := by
  intro b k cs hro hb hr
  have h0 : (lone (b.atR a (.code (.scope c) :: k)) cs w).fenced P F := fenced_calm hb hr rfl
  have s0 : step P (lone (b.atR a (.code (.scope c) :: k)) cs w) = .next (lone (b.atR a (.code c :: .inScope c :: k)) cs w) := step_lone_go (by simp [stepG, stepG.exec, Frame.atR])
  obtain ⟨e, a₁, w₁, hQ, harr⟩ := h b (.inScope c :: k) cs hro hb hr
  cases e with
  | normal =>
    have s1 : step P (lone (b.atR a₁ (.inScope c :: k)) cs w₁) = .next (lone (b.atR a₁ k) cs w₁) := step_lone_go (by simp [stepG, stepG.exec, Frame.atR])
    exact ⟨.normal, a₁, w₁, hQ, .head h0 s0 (StepsIn.trans harr (.one (fenced_calm hb hr rfl) s1))⟩
  | exit id =>
    have hx : exitTo id (.inScope c :: k) = exitTo id k := by simp [exitTo]
    exact ⟨.exit id, a₁, w₁, hQ, fun k' hk => .head h0 s0 (harr.1 k' (by rw [hx]; exact hk)), fun hr' hk => let ⟨k₁, h1, h2⟩ := harr.2 hr' (by rw [hx]; exact hk); ⟨k₁, h1, .head h0 s0 h2⟩⟩
  | goto l => exact absurd hQ (hq l _ _)
  | ret => exact ⟨_, a₁, w₁, hQ, .of_steps (.one h0 s0) harr⟩
  | panic ch => exact ⟨_, a₁, w₁, hQ, .of_steps (.one h0 s0) harr⟩
  | outgrown => exact ⟨_, a₁, w₁, hQ, .of_steps (.one h0 s0) harr⟩
theorem zjd {c : CC} (h : CC.skip = zT c) : c = .skip := by cases c <;> simp [zT] at h; rfl
theorem strip_exit {c : CC} {i : Nat} (h : CC.exit i = zT c) : c = .exit i := by cases c <;> simp [zT] at h; rw [h]
theorem strip_ret {c : CC} (h : CC.ret = zT c) : c = .ret := by cases c <;> simp [zT] at h; rfl
theorem strip_ops {c : CC} {l : List CI} (h : CC.ops l = zT c) : c = .ops l := by cases c <;> simp [zT] at h; rw [h]
theorem strip_draw {c : CC} {l : List CI} (h : CC.draw l = zT c) : c = .draw l := by cases c <;> simp [zT] at h; rw [h]
theorem strip_draw2 {c : CC} {l : List CI} {x y : CI} (h : CC.draw2 l x y = zT c) : c = .draw2 l x y := by cases c <;> simp [zT] at h; rw [h.1, h.2.1, h.2.2]
theorem strip_seq {c x y : CC} {L : List (List Bool)} (h : CC.seq x L y = zT c) : ∃ a L' b, c = .seq a L' b ∧ x = zT a ∧ y = zT b := by
  cases c <;> simp [zT] at h
  exact ⟨_, _, _, rfl, h.1, h.2.2⟩
theorem strip_cond {c x y : CC} {v : CO} (h : CC.cond v x y = zT c) : ∃ a b, c = .cond v a b ∧ x = zT a ∧ y = zT b := by
  cases c <;> simp [zT] at h
  obtain ⟨rfl, h1, h2⟩ := h
  exact ⟨_, _, rfl, h1, h2⟩
theorem strip_block {c x : CC} {i : Nat} (h : CC.block i x = zT c) : ∃ a, c = .block i a ∧ x = zT a := by
  cases c <;> simp [zT] at h
  obtain ⟨rfl, h1⟩ := h
  exact ⟨_, rfl, h1⟩
theorem strip_loop {c x : CC} {L : List (List Bool)} (h : CC.loop L x = zT c) : ∃ L' a, c = .loop L' a ∧ x = zT a := by
  cases c <;> simp [zT] at h
  exact ⟨_, _, rfl, h.2⟩
theorem strip_range {c x y : CC} {r : Nat} {L : List (List Bool)} {f : CO} {ps : List (List Bool)} (h : CC.rangeFunc r L f ps x y = zT c) : ∃ r' L' a b, c = .rangeFunc r' L' f ps a b ∧ x = zT a ∧ y = zT b := by
  cases c <;> simp [zT] at h
  obtain ⟨_, _, rfl, rfl, h1, h2⟩ := h
  exact ⟨_, _, _, _, rfl, h1, h2⟩
end
end Go.Ideal
namespace Go.Ideal
variable {P : Program}
section
variable {ρ : Rho} {h h' : H} {w : World} {s : zf} {a : Act}
theorem isFn_some {v u : Value} (h : isFn v = some u) : ∃ g x y, v = .func (.func g) x y ∧ u = v := by
  unfold isFn at h
  split at h
  · cases h; exact ⟨_, _, _, rfl, rfl⟩
  · cases h
theorem zfM (hr : HR P ρ h w) {i : Nat} {R : RB} (hi : ρ i = some R) {st : LoopState} {pend : Option CC} {sl : zf} {rc : RC} (hg : h.get i = some (.loop st pend sl rc)) :
    ∃ lp : Loop, w.heap[R.blk]? = some (.loop lp) ∧ lp.state = st ∧ PendR pend lp.pending ∧ SR ρ sl lp.tmps ∧ rc.ps = lp.params.toList.map bits ∧ (∀ t ∈ lp.params.toList, t < lp.tmps.size) ∧ zx P lp.tmps.size lp.assign = some (zT rc.as) ∧ zx P lp.tmps.size lp.body = some (zT rc.b) :=
  hr.obj i R _ hi hg
theorem loop_put (hr : HR P ρ h w) {i : Nat} {R : RB} (hi : ρ i = some R) {st : LoopState} {pend : Option CC} {sl : zf} {rc : RC} (hg : h.get i = some (.loop st pend sl rc)) {lp lp' : Loop}
    (hl : w.heap[R.blk]? = some (.loop lp)) {st' : LoopState} {pend' : Option CC} (h1 : lp'.state = st') (h2 : PendR pend' lp'.pending) (h3 : lp'.tmps = lp.tmps) (h4 : lp'.params = lp.params) (h5 : lp'.assign = lp.assign) (h6 : lp'.body = lp.body) (h7 : lp'.defers = lp.defers) :
    HR P ρ (h.put i (.loop st' pend' sl rc)) (w.putObj R.blk (.loop lp')) ∧ Ext ρ w ρ (w.putObj R.blk (.loop lp')) := by
  obtain ⟨lp0, q0, q1, q2, q3, q4, q5, q6, q7⟩ := zfM hr hi hg
  rw [hl] at q0; cases q0
  have hblt := hr.blk i R hi
  exact hr.putBoth hi hg (by simp) hl (fun r hr' => by cases hr'; exact ⟨lp', rfl, h7⟩) (zfW _) (zfW _) ⟨lp', by simp [hblt], h1, h2, by rw [h3]; exact q3, by rw [h4]; exact q4, by rw [h3, h4]; exact q5, by rw [h3, h5]; exact q6, by rw [h3, h6]; exact q7⟩
theorem pend_wpIn {N : Nat} {Ds : List Nat} {o : Out} {pend : Option CC} {jump : Option Code} (hp : PendR pend jump) (ho : pendK s h pend = some o) {r : Option Nat} {Ds0 : List Nat} {ρ0 : Rho} {w0 : World} (he : Ext ρ0 w0 ρ w) (hN : a.tmps.size = N) (hd : a.defers = Ds.map zbS) (hD : zc7 ρ w Ds)
    (hds : ∀ D ∈ Ds, D ∈ Ds0 ∨ w0.heap.size ≤ D) (hs : SR ρ s a.tmps) (hr : HR P ρ h w) :
    (match (generalizing := false) jump with | none => zdR P ρ0 w0 N Ds0 o .normal a w | some c => c.wpIn (Wf r) 0 P (zdR P ρ0 w0 N Ds0 o) a w) := by
  unfold pendK at ho
  split at ho
  · cases ho
    cases jump with
    | none => exact ⟨ρ, Ds, s, h, he, hN, hd, ⟨hD, hds⟩, hs, hr, .inl ⟨rfl, rfl⟩⟩
    | some c => cases c <;> exact hp.elim
  · cases ho
    cases jump with
    | none => exact hp.elim
    | some c => cases c <;> first | exact hp.elim | exact wpIn_ret ⟨ρ, Ds, s, h, he, hN, hd, ⟨hD, hds⟩, hs, hr, .inr (.inr ⟨rfl, rfl⟩)⟩
  · cases ho
    cases jump with
    | none => exact hp.elim
    | some c => cases c <;> first | exact hp.elim | exact wpIn_exit ⟨ρ, Ds, s, h, he, hN, hd, ⟨hD, hds⟩, hs, hr, .inr (.inl ⟨_, rfl, by have : _ = _ := hp; rw [this]⟩)⟩
  · cases ho
theorem range_sound {ih : IH} {M : Nat} (hih : ∀ t o, ih t = some o → zhj P M t o) {N : Nat} {f : Operand} {ps : Array Tmp} {as b : Code} {cf : CO} {cas cb : CC} (hps : ps.toList.all (· < N) = true) (hf : co f = some cf) (has : zx P N as = some (zT cas)) (hb : zx P N b = some (zT cb)) {rid : Nat} {L : List (List Bool)}
    {o : Out} (hv : sRange rid L cf (ps.toList.map bits) cas cb ih s h = some o) {r : Option Nat} {Ds : List Nat} (hR : zeK r w) (hN : a.tmps.size = N) (hs : SR ρ s a.tmps) (hr : HR P ρ h w) (hd : a.defers = Ds.map zbS) (hD : zc7 ρ w Ds) :
    (Code.rangeFunc f ps as b).wpIn (Wf r) 0 P (zdR P ρ w N Ds o) a w := by
  obtain ⟨u, hu, hv1⟩ := aof hv
  obtain ⟨u', hfn, hv2⟩ := aof hv1
  obtain ⟨o1, ho1, hv3⟩ := aof hv2
  obtain ⟨⟨v1, h1⟩, hval, hv4⟩ := aof hv3
  obtain ⟨lo, hlo, hv5⟩ := aof hv4
  clear hv hv1 hv2 hv3 hv4
  obtain ⟨g, first, captured, rfl, rfl⟩ := isFn_some hfn
  obtain ⟨v0, h0, rfl⟩ : ∃ v0 h0, o1 = .val v0 h0 := by cases o1 <;> first | exact ⟨_, _, rfl⟩ | (simp [zhy] at hval)
  simp only [zhy, Option.some.injEq, Prod.mk.injEq] at hval
  obtain ⟨rfl, rfl⟩ := hval
  have rf := zbz hf hs hu
  obtain ⟨first', captured', hfe⟩ : ∃ x y, a.eval f = .func (.func g) x y := by
    generalize a.eval f = y at rf; cases rf; exact ⟨_, _, rfl⟩
  rw [hfe] at rf
  refine wpIn_rangeFunc ?_
  intro fn _
  have enter : ∃ (l : Nat) (mark : List Deferred) (Dn : List Nat) (w1 : World) (σ : Rho) (R : RB), (Instr.enterLoop fn a.tmps ps as b (Wf r).round).run P w = .ok (l, mark) w1 ∧ mark = Dn.map zbS ∧ (∀ D ∈ Dn, w.heap.size ≤ D) ∧
      R.blk = l ∧ σ h.next = some R ∧ HR P σ (h.new (.loop .ready none (zL L s) ⟨rid, L, ps.toList.map bits, cas, cb⟩)) w1 ∧ Ext ρ w σ w1 ∧ zc7 σ w1 (Dn ++ Ds) := by
    have hor : ∀ (w0 : World) (σ : Rho) (R : RB) (dd : Nat), R.blk = w0.heap.size → SR σ s a.tmps → OR P σ (w0.alloc (.loop { state := .ready, pending := none, fn, tmps := a.tmps, params := ps, assign := as, body := b, defers := dd })) R (.loop .ready none (zL L s) ⟨rid, L, ps.toList.map bits, cas, cb⟩) := by
      intro w0 σ R dd hR hs
      refine ⟨{ state := .ready, pending := none, fn, tmps := a.tmps, params := ps, assign := as, body := b, defers := dd }, by rw [hR]; exact zbJ _ _, rfl, trivial, hs.keep L, rfl, fun t ht => ?_, by dsimp only; rw [hN]; exact has, by dsimp only; rw [hN]; exact hb⟩
      have := List.all_eq_true.1 hps t ht
      simp only [decide_eq_true_eq] at this
      show t < a.tmps.size
      rw [hN]; exact this
    rw [Wf_round]
    cases r with
    | none =>
      obtain ⟨g1, g2⟩ := hr.garbage (o := .deferred (some [])) (zdO _)
      have hfree := (hr.nxt _ (Nat.le_refl _)).1
      obtain ⟨k1, k2⟩ := g1.new (R := ⟨(w.alloc (.deferred (some []))).heap.size, 0, 0, 0, 0, none⟩) (io := .loop .ready none (zL L s) ⟨rid, L, ps.toList.map bits, cas, cb⟩) rfl (zfW _) (hor _ _ _ w.heap.size rfl (hs.mono (zdS _ hfree)))
      refine ⟨_, _, [w.heap.size], _, _, _, run_enterLoop_outer fn a.tmps ps as b, rfl, by simp, by simp, zV _ _ _, k1, g2.trans k2, ?_⟩
      have hD1 : zc7 ρ (w.alloc (.deferred (some []))) (w.heap.size :: Ds) := by
        have hD' := hD.ext g2
        refine ⟨List.nodup_cons.2 ⟨fun hm => by have := (hD.ok _ hm).1; omega, hD.nodup⟩, fun D hm => ?_⟩
        rcases List.mem_cons.1 hm with rfl | hm
        · exact ⟨by simp, fun i R hi e => by have := hr.blk i R hi; omega, zbJ _ _⟩
        · exact hD'.ok D hm
      exact hD1.ext k2
    | some l0 =>
      obtain ⟨lp, hlp⟩ := hR l0 rfl
      have hfree := (hr.nxt _ (Nat.le_refl _)).1
      obtain ⟨k1, k2⟩ := hr.new (R := ⟨w.heap.size, 0, 0, 0, 0, none⟩) (io := .loop .ready none (zL L s) ⟨rid, L, ps.toList.map bits, cas, cb⟩) rfl (zfW _) (hor _ _ _ lp.defers rfl (hs.mono (zdS _ hfree)))
      refine ⟨w.heap.size, [], [], _, _, _, ?_, rfl, by simp, rfl, zV _ _ _, k1, k2, hD.ext k2⟩
      unfold Instr.enterLoop
      simp only [Sem.run_bind, run_getLoop hlp, Result.andThen_ok, Sem.run_pure, run_newObj, World.alloc_eq]
  obtain ⟨l, mark, Dn, w1, σ, R, e1, rfl, e2, rfl, e4, e5, e6, e7⟩ := enter
  have hcall := hih _ _ ho1 σ (.func (.func g) first' captured') #[.func (.yield R.blk) #[] #[]] w1 (rf.mono e6.le) (.cons (.yield e4) (.nil _)) e5
  obtain ⟨hcalls, henter⟩ := hcall
  refine ⟨R.blk, Dn.map zbS, w1, { target := .fn (.func g) captured', args := first' ++ #[.func (.yield R.blk) #[] #[]] }, w1, g, first' ++ #[.func (.yield R.blk) #[] #[]] ++ captured', w1, e1, ?_, fun f' _ => Wf_fn r f', ?_, (fun h => by rw [Wf_depth] at h; cases h), ?_⟩
  · have hy : a.eval (.const (.func (.yield R.blk) #[] #[])) = .func (.yield R.blk) #[] #[] := rfl
    simp [resolve, hfe, Deferred.ofValue, hy]
  · simp only [invoke]; exact henter w1
  · refine (callsIn_W r hcalls).mono ?_
    rintro e w3 ⟨v3, h3, v', τ, eo, rfl, q1, q2, q3⟩
    cases eo
    have hi : τ h.next = some R := q3.le _ _ e4
    have fin : ∀ {st : LoopState} {pend : Option CC} {sl : zf} {rc : RC}, st ≠ .busy → h0.get h.next = some (IObj.loop st pend sl rc) → pendK s (h0.put h.next (IObj.loop .exhausted pend sl rc)) pend = some o →
        rangePost (Wf r) 0 P R.blk (zdR P ρ w N Ds o) { a with defers := Dn.map zbS ++ a.defers } (.returned v') w3 := by
      intro st pend sl rc hst hg hpk
      obtain ⟨lp, p0, p1, p2, p3⟩ := zfM q2 hi hg
      obtain ⟨g1, g2⟩ := loop_put q2 hi hg p0 (lp' := { lp with state := .exhausted }) (st' := .exhausted) (pend' := pend) rfl p2 rfl rfl rfl rfl rfl
      refine ⟨lp.pending, _, run_endLoop p0 (by rw [p1]; exact hst), ?_⟩
      have hE : Ext ρ w τ (w3.putObj R.blk (.loop { lp with state := .exhausted })) := (e6.trans q3).trans g2
      exact pend_wpIn (a := { a with defers := Dn.map zbS ++ a.defers }) (Ds := Dn ++ Ds) p2 hpk hE hN (by show Dn.map zbS ++ a.defers = _; rw [hd, List.map_append]) ((e7.ext q3).ext g2) (fun D hm => (List.mem_append.1 hm).elim (fun h => .inr (e2 D h)) .inl) (hs.mono hE.le) g1
    cases lo with
    | loop st pend sl rc =>
      cases st <;> simp only [zfJ, reduceCtorEq] at hv5
      · exact fin (by simp) hlo hv5
      · exact fin (by simp) hlo hv5
    | cells _ _ => cases hv5
    | map _ _ => cases hv5
    | dead => cases hv5
theorem argSlots_nil (i : Nat) (s : zf) : zcl [] i s = s := rfl
theorem argSlots_cons (v : Value) (l : List Value) (i : Nat) (s : zf) : zcl (v :: l) i s = zcl l (i + 1) (s.set (bits i) v) := rfl
theorem zgT : ∀ (l : List Value) (i : Nat) (s : zf) (t : Nat) (v : Value), (zcl l i s).get (bits t) = some v → (i ≤ t ∧ l[t - i]? = some v) ∨ (s.get (bits t) = some v ∧ ¬ (i ≤ t ∧ t < i + l.length))
  | [], i, s, t, v, h => .inr ⟨h, by simp⟩
  | x :: l, i, s, t, v, h => by
    rw [argSlots_cons] at h
    rcases zgT l (i + 1) _ t v h with ⟨h1, h2⟩ | ⟨h1, h2⟩
    · refine .inl ⟨by omega, ?_⟩
      have : t - i = (t - (i + 1)) + 1 := by omega
      rw [this]; simpa using h2
    · rw [PT.get_set_bits] at h1
      by_cases e : i = t
      · subst e; rw [if_pos rfl] at h1; cases h1; exact .inl ⟨Nat.le_refl _, by simp⟩
      · rw [if_neg e] at h1
        exact .inr ⟨h1, by simp; omega⟩
theorem args_SR {ρ : Rho} {l : List Value} {args : Array Value} (hv : VRL ρ l args.toList) (m : Nat) : SR ρ (zcl l 0 .nil) (args ++ Array.replicate m undef) := by
  intro t v h
  rcases zgT l 0 .nil t v h with ⟨_, h2⟩ | ⟨h2, _⟩
  · rw [Nat.sub_zero] at h2
    obtain ⟨v', hv', hr⟩ := hv.get h2
    rw [Array.getElem?_toList] at hv'
    exact ⟨v', by rw [Array.getElem?_append_left (Array.getElem?_eq_some_iff.1 hv').1]; exact hv', hr⟩
  · simp at h2
theorem setSlots_nil (vs : List Value) (s : zf) : zdb [] vs s = match vs with | [] => some s | _ :: _ => none := rfl
theorem zfC (p : List Bool) (ps : List (List Bool)) (vs : List Value) (s : zf) : zdb (p :: ps) vs s = match vs with | [] => none | v :: vs => zdb ps vs (s.set p v) := rfl
theorem zhE {ρ : Rho} : ∀ (ps : List Tmp) (vs : List Value) (ws : List Value) (s s' : zf) (tmps : Array Value), zdb (ps.map bits) vs s = some s' → VRL ρ vs ws → SR ρ s tmps → (∀ t ∈ ps, t < tmps.size) →
    vs.length = ps.length ∧ SR ρ s' ((ps.zip ws).foldl (fun tmps (p : Tmp × Value) => tmps.setIfInBounds p.1 p.2) tmps) ∧ ((ps.zip ws).foldl (fun tmps (p : Tmp × Value) => tmps.setIfInBounds p.1 p.2) tmps).size = tmps.size
  | [], vs, ws, s, s', tmps, h, hv, hs, hl => by
    rw [List.map_nil, setSlots_nil] at h
    cases vs with
    | nil => cases h; exact ⟨rfl, hs, rfl⟩
    | cons v vs => cases h
  | p :: ps, vs, ws, s, s', tmps, h, hv, hs, hl => by
    rw [List.map_cons, zfC] at h
    cases vs with
    | nil => cases h
    | cons v vs =>
      obtain ⟨y, ys, rfl, h1, h2⟩ := hv.cons_left
      obtain ⟨q1, q2, q3⟩ := zhE ps vs ys _ s' (tmps.setIfInBounds p y) h h2 (hs.set (hl p (by simp)) h1) (fun t ht => by simpa using hl t (by simp [ht]))
      exact ⟨by simp [q1], by simpa using q2, by simpa using q3⟩
theorem asAddr_run {ρ : Rho} {v : Value} {ad : Addr} (hp : zeY v = some ad) {v' : Value} (hv : VR ρ v v') (w : World) : ∃ R, ρ ad.block = some R ∧ (asAddr v').run P w = .ok ⟨R.blk, R.base + ad.off, none⟩ w := by
  obtain rfl := zdk hp
  obtain ⟨R, hR, rfl⟩ := hv.inv_ptr
  exact ⟨R, hR, by simp [asAddr]⟩
theorem getD_of {tmps : Array Value} {t : Nat} {v : Value} (h : tmps[t]? = some v) : tmps.getD t undef = v := by rw [Array.getD_eq_getD_getElem?, h]; rfl
theorem results_run {fn : Func} {rs : List CR} (hc : allO (zb4 P) fn.results.toList = some rs) {ρ : Rho} {h : H} {w : World} {s : zf} {tmps : Array Value} (hr : HR P ρ h w) (hs : SR ρ s tmps) {o : Out} (ho : resOf rs s h = some o) :
    ∃ v v', o = .val v h ∧ (results fn tmps).run P w = .ok v' w ∧ VR ρ v v' := by
  obtain ⟨vs, hvs, rfl⟩ := amf ho
  have key : ∀ (xs : List ResultVar) (rs : List CR) (vs : List Value), allO (zb4 P) xs = some rs → allO (resV s h) rs = some vs →
      ∃ ws, VRL ρ vs ws ∧ ∀ f : ResultVar → Sem Value, (∀ t, f (.tmp t) = pure (tmps.getD t undef)) → (∀ a t, f (.cell a t) = do loadVar t (← asAddr (tmps.getD a undef))) → (xs.mapM f).run P w = .ok ws w := by
    intro xs
    induction xs with
    | nil => intro rs vs h1 h2; cases h1; cases h2; exact ⟨[], .nil _, fun f _ _ => by simp⟩
    | cons x xs ih =>
      intro rs vs h1 h2
      obtain ⟨c, hcx, h1⟩ := aof h1
      obtain ⟨cs, hcs, rfl⟩ := amf h1
      obtain ⟨u, hu, h2⟩ := aof h2
      obtain ⟨us, hus, rfl⟩ := amf h2
      obtain ⟨ws, hw1, hw2⟩ := ih cs us hcs hus
      cases x with
      | tmp t =>
        cases hcx
        obtain ⟨u', hu', hr'⟩ := hs t u hu
        exact ⟨u' :: ws, .cons hr' hw1, fun f f1 f2 => by rw [List.mapM_cons, f1]; simp only [Sem.run_bind, Sem.run_pure, Result.andThen_ok, getD_of hu', hw2 f f1 f2]⟩
      | cell a t =>
        obtain ⟨n, hn, rfl⟩ := amf hcx
        obtain ⟨p, hp, hu⟩ := aof hu
        obtain ⟨ad, had, hu⟩ := aof hu
        obtain ⟨p', hp', hrp⟩ := hs a p hp
        obtain ⟨R, hR, hrun⟩ := asAddr_run (P := P) had hrp w
        cases n with
        | some n =>
          obtain ⟨l, hl, rfl⟩ := amf hu
          obtain ⟨v', hv', hlv⟩ := loadVarN hr hn hR hl
          exact ⟨v' :: ws, .cons hv' hw1, fun f f1 f2 => by rw [List.mapM_cons, f2]; simp only [Sem.run_bind, Sem.run_pure, Result.andThen_ok, getD_of hp', hrun, hlv, hw2 f f1 f2]⟩
        | none =>
          obtain ⟨l, hl, hone⟩ := aof hu
          obtain ⟨v', hv', hlv⟩ := loadVar1 hr hn hR hl hone
          exact ⟨v' :: ws, .cons hv' hw1, fun f f1 f2 => by rw [List.mapM_cons, f2]; simp only [Sem.run_bind, Sem.run_pure, Result.andThen_ok, getD_of hp', hrun, hlv, hw2 f f1 f2]⟩
  obtain ⟨ws, h1, h2⟩ := key _ _ _ hc hvs
  have hm : ∀ f : ResultVar → Sem Value, (∀ t, f (.tmp t) = pure (tmps.getD t undef)) → (∀ a t, f (.cell a t) = do loadVar t (← asAddr (tmps.getD a undef))) → (fn.results.mapM f).run P w = .ok ⟨ws⟩ w := by
    intro f f1 f2
    rw [Array.mapM_eq_mapM_toList]
    simp only [Sem.run_map, h2 f f1 f2, Result.andThen_ok]
  refine ⟨ze vs, if h : ws.length = 1 then ws[0] else .tuple ⟨ws⟩, rfl, ?_, ?_⟩
  · unfold results
    simp only [Sem.run_bind]
    rw [hm _ (fun _ => rfl) (fun _ _ => rfl)]
    simp
  · by_cases e : ws.length = 1
    · match ws, e with
      | [y], _ =>
        match vs, h1 with
        | [x], h1 => simpa [ze] using h1.head
    · rw [dif_neg e]
      have : vs.length ≠ 1 := by rw [h1.1]; exact e
      have ht : ze vs = .tuple ⟨vs⟩ := by
        match vs, this with
        | [], _ => rfl
        | _ :: _ :: _, _ => rfl
      rw [ht]; exact VR.tuple_of h1
end
end Go.Ideal
