/- A part of the proof: the ideal machine, and what the functions of the program answer over it. -/
import Derived.Test.YtiebibpenhncdaaGreatDoorProg
import Derived.WalkKit
import Derived.LaidEql
import Derived.Stop.Asserts
import Derived.RowKitTokens
import Derived.Test.YtiebibpenhncdaaGreatDoorCards
import Derived.Test.YtiebibpenhncdaaGreatDoorTie
import Derived.LaidLaws
import Derived.LaidHandle
import Derived.SevenTiedAt
import Derived.ChangeVars
import Derived.Stop.Joined
import Derived.Test.YtiebibpenhncdaaGreatDoorG
set_option linter.unusedSimpArgs false
set_option linter.unusedVariables false
set_option linter.unusedSectionVars false
set_option maxRecDepth 100000
namespace Go.Proofs.YtiebibpenhncdaaGreatDoor
open Go.RowKit Go.Extern.Stop Go.Stop Go.Extern
theorem as_nil (t:Value) (w:World):
 Calls Tryz.prog 54 #[.nilIface,t] w fun e w'=>e=.returned (.bool false)∧w'=w:=by
 go_enter Tryz.func54,Tryz.ntmps54
 go_wp2
 go_ret
 exact⟨rfl,rfl⟩
theorem valueOf138 (t:Addr) (w:World):(ReflectliteValue.unpack (.iface 138 (.pointer (some t)))).run Tryz.prog w
 =.ok (.agg #[.pointer (some ⟨1,138,none⟩),.pointer (some ⟨w.heap.size,0,none⟩),.int .u64 150]) (w.alloc (.cells #[.pointer (some t)] 138)):=by kernel_rfl
theorem type138 (a:Addr) (w:World):(ReflectliteValue.methodAny (ReflectliteValue.valueError "reflectlite.Value.Type" 0) (fun t _ _ _=>ReflectliteType.toType t) #[.agg #[.pointer (some ⟨1,138,none⟩),.pointer (some a),.int .u64 150]]).run Tryz.prog w
 =.ok (.iface 264 (.agg #[.pointer (some ⟨1,138,none⟩)])) w:=by kernel_rfl
theorem methodKind (h:Value) (w:World):(Go.method 477 264 (.agg #[h]) "Kind").run Tryz.prog w=.ok (229,h) w:=by kernel_rfl
theorem kind138 (w:World):((ReflectliteType.abiMethod fun t=>(fun a:Nat=>Value.int IntKind.u8 (a:Int)) <$> Rtype.kind t) #[.pointer (some ⟨1,138,none⟩)]).run Tryz.prog w=.ok (.int .u8 22) w:=by kernel_rfl
theorem kind136 (w:World):((ReflectliteType.abiMethod fun t=>(fun a:Nat=>Value.int IntKind.u8 (a:Int)) <$> Rtype.kind t) #[.pointer (some ⟨1,136,none⟩)]).run Tryz.prog w=.ok (.int .u8 25) w:=by kernel_rfl
theorem rlm (z:Sem Value) (f:TypeId→Addr→Nat→Nat→Sem Value) (v:Value):
 ReflectliteValue.method z f #[v]=(do match←ReflectliteValue.parts v with|none=>z|some (t,a,fl)=>f t a fl (fl%32)):=rfl
theorem parts138 (a:Addr) (w:World):(ReflectliteValue.parts (.agg #[.pointer (some ⟨1,138,none⟩),.pointer (some a),.int .u64 150])).run Tryz.prog w=.ok (some (138,a,150)) w:=by kernel_rfl
theorem isNil138 (a p:Addr) (W:World) (ha:W.cell? a=some (.pointer (some p))):
 (ReflectliteValue.method (ReflectliteValue.valueError "reflectlite.Value.IsNil" 0) ReflectliteValue.isNil #[.agg #[.pointer (some ⟨1,138,none⟩),.pointer (some a),.int .u64 150]]).run Tryz.prog W=.ok (.bool false) W:=by
 rw[rlm]
 simp only[Sem.run_bind,parts138,Result.andThen]
 simp[ReflectliteValue.isNil,loadVar,isAgg,underlying,Tryz.underlying138,ha,Result.andThen]
theorem methodElem (h:Value) (w:World):(Go.method 477 264 (.agg #[h]) "Elem").run Tryz.prog w=.ok (239,.agg #[h]) w:=by kernel_rfl
theorem ziQ (h:Value) (w:World):(Go.method 477 264 (.agg #[h]) "Implements").run Tryz.prog w=.ok (240,.agg #[h]) w:=by kernel_rfl
theorem zhi (h:Value) (w:World):(Go.method 477 264 (.agg #[h]) "AssignableTo").run Tryz.prog w=.ok (237,.agg #[h]) w:=by kernel_rfl
theorem elem138 (w:World):(ReflectliteType.method ReflectliteType.elem #[.agg #[.pointer (some ⟨1,138,none⟩)]]).run Tryz.prog w=.ok (.iface 264 (.agg #[.pointer (some ⟨1,136,none⟩)])) w:=by kernel_rfl
theorem implements136 (w:World):(ReflectliteType.relation "Implements" ReflectliteType.implements_ #[.agg #[.pointer (some ⟨1,136,none⟩)],.iface 264 (.agg #[.pointer (some ⟨1,129,none⟩)])]).run Tryz.prog w=.ok (.bool true) w:=by kernel_rfl
theorem typeOf136 (v:Value) (w:World):(ReflectliteType.typeOf #[.iface 136 v]).run Tryz.prog w=.ok (.iface 264 (.agg #[.pointer (some ⟨1,136,none⟩)])) w:=by kernel_rfl
theorem assignable136 (w:World):(ReflectliteType.relation "AssignableTo" ReflectliteType.assignableTo #[.agg #[.pointer (some ⟨1,136,none⟩)],.iface 264 (.agg #[.pointer (some ⟨1,136,none⟩)])]).run Tryz.prog w=.ok (.bool true) w:=by kernel_rfl
theorem valueOf136 (s:ByteArray) (w:World):(ReflectliteValue.unpack (.iface 136 (.agg #[.string s]))).run Tryz.prog w
 =.ok (.agg #[.pointer (some ⟨1,136,none⟩),.pointer (some ⟨w.heap.size,0,none⟩),.int .u64 153]) (w.alloc (.cells #[.string s] 136)):=by kernel_rfl
theorem elemOf138 (w:World):(Rtype.elem? 138).run Tryz.prog w=.ok (some 136) w:=by kernel_rfl
theorem mk136 (p:Addr) (w:World):(ReflectliteValue.mk 136 p ReflectliteValue.flagAddr).run Tryz.prog w=.ok (.agg #[.pointer (some ⟨1,136,none⟩),.pointer (some p),.int .u64 409]) w:=by kernel_rfl
theorem elemV138 (a p:Addr) (W:World) (ha:W.cell? a=some (.pointer (some p))):
 (ReflectliteValue.method (ReflectliteValue.valueError "reflectlite.Value.Elem" 0) ReflectliteValue.elem #[.agg #[.pointer (some ⟨1,138,none⟩),.pointer (some a),.int .u64 150]]).run Tryz.prog W
   =.ok (.agg #[.pointer (some ⟨1,136,none⟩),.pointer (some p),.int .u64 409]) W:=by
 rw[rlm]
 simp only[Sem.run_bind,parts138,Result.andThen]
 simp[ReflectliteValue.elem,loadVar,isAgg,underlying,Tryz.underlying138,ha,Result.andThen,elemOf138,mk136]
theorem rls (v x:Value):ReflectliteValue.set #[v,x]=(do
 let(some (dst,a,fl),some (src,b,_)):=(←ReflectliteValue.parts v,←ReflectliteValue.parts x)
  |unsupported (.noEntry "extern/(internal/reflectlite.Value).Set.zeroValue")
 if fl / ReflectliteValue.flagAddr%2==0 then unsupported (.noEntry "extern/(internal/reflectlite.Value).Set.unaddressable")
 let val←loadVar src b
 if←Rtype.directlyAssignable dst src then storeVar dst a val
 else if←Rtype.implements dst src then
  if(←Rtype.kind src)==20 then
   match val with
   |.nilIface=>unsupported (.noEntry "extern/reflectlite: a nil value of one interface type handed on as a value of another")
   |_=>storeVar dst a val
  else storeVar dst a (.iface src val)
 else panicString ("reflectlite.Set: value of type " ++(←Rtype.spelt src)++ " is not assignable to type " ++(←Rtype.spelt dst))
 pure (.tuple #[])):=rfl
theorem parts136a (a:Addr) (w:World):(ReflectliteValue.parts (.agg #[.pointer (some ⟨1,136,none⟩),.pointer (some a),.int .u64 409])).run Tryz.prog w=.ok (some (136,a,409)) w:=by kernel_rfl
theorem parts136 (a:Addr) (w:World):(ReflectliteValue.parts (.agg #[.pointer (some ⟨1,136,none⟩),.pointer (some a),.int .u64 153])).run Tryz.prog w=.ok (some (136,a,153)) w:=by kernel_rfl
theorem direct136 (w:World):(Rtype.directlyAssignable 136 136).run Tryz.prog w=.ok true w:=by kernel_rfl
theorem size136 (w:World):(sizeOf 136).run Tryz.prog w=.ok 1 w:=by kernel_rfl
theorem load136 (b:Addr) (s:ByteArray) (W:World) (hb:W.cell? b=some (.string s)):(loadVar 136 b).run Tryz.prog W=.ok (.agg #[.string s]) W:=by
 simp[loadVar,isAgg,underlying,Tryz.underlying136,size136,loadCells,loadCellsFrom,Addr.add,hb,Result.andThen]
theorem set136 (ta b:Addr) (s:ByteArray) (W W':World) (hb:W.cell? b=some (.string s)) (hst:(storeCells ta [.string s]).run Tryz.prog W=.ok () W'):
 (ReflectliteValue.set #[.agg #[.pointer (some ⟨1,136,none⟩),.pointer (some ta),.int .u64 409],.agg #[.pointer (some ⟨1,136,none⟩),.pointer (some b),.int .u64 153]]).run Tryz.prog W
   =.ok (.tuple #[]) W':=by
 rw[rls]
 simp only[Sem.run_bind,parts136a,parts136,Result.andThen]
 simp[ReflectliteValue.flagAddr,load136 b s W hb,Result.andThen,direct136,storeVar,Value.cells,size136,hst]
end Go.Proofs.YtiebibpenhncdaaGreatDoor
namespace Go.Proofs.YtiebibpenhncdaaGreatDoor
open Go.RowKit Go.Extern.Stop Go.Stop Go.Extern
def asWorld (w:World) (t:Addr) (s:ByteArray):World:=(((w.alloc (.cells #[.pointer (some t)] 138)).alloc (.cells #[.pointer (some ⟨1,138,none⟩),.pointer (some ⟨w.heap.size,0,none⟩),.int .u64 150] 213)).alloc (.cells #[.pointer (some ⟨1,138,none⟩),.pointer (some ⟨w.heap.size,0,none⟩),.int .u64 150] 213)).alloc (.cells #[.string s] 136)
set_option maxHeartbeats 4000000 in
theorem as_hit (s:ByteArray) (t:Addr) (w w':World) (hg:w.cell? ⟨0,0,none⟩=some (.iface 264 (.agg #[.pointer (some ⟨1,129,none⟩)]))) (hst:(storeCells t [.string s]).run Tryz.prog (asWorld w t s)=.ok () w'):
 Calls Tryz.prog 54 #[.iface 136 (.agg #[.string s]),.iface 138 (.pointer (some t))] w fun ev w2=>ev=.returned (.bool true)∧w2=w':=by
 have h6:= @run_callFunc_extern Tryz.prog 100 _ (fun args=>ReflectliteValue.unpack (args.getD 0 (.tuple #[]))) Tryz.func100 (by kernel_rfl) (by kernel_rfl) (by kernel_rfl) (by kernel_rfl)
 have h7:= @run_callFunc_extern Tryz.prog 101 _ (ReflectliteValue.methodAny (ReflectliteValue.valueError "reflectlite.Value.Type" 0) (fun t _ _ _=>ReflectliteType.toType t)) Tryz.func101 (by kernel_rfl) (by kernel_rfl) (by kernel_rfl) (by kernel_rfl)
 have h8:= @run_callFunc_extern Tryz.prog 102 _ (ReflectliteValue.method (ReflectliteValue.valueError "reflectlite.Value.IsNil" 0) ReflectliteValue.isNil) Tryz.func102 (by kernel_rfl) (by kernel_rfl) (by kernel_rfl) (by kernel_rfl)
 have h27:= @run_callFunc_extern Tryz.prog 229 _ (ReflectliteType.abiMethod fun t=>do pure (.int .u8 (←Rtype.kind t))) Tryz.func229 (by kernel_rfl) (by kernel_rfl) (by kernel_rfl) (by kernel_rfl)
 have h37:= @run_callFunc_extern Tryz.prog 239 _ (ReflectliteType.method ReflectliteType.elem) Tryz.func239 (by kernel_rfl) (by kernel_rfl) (by kernel_rfl) (by kernel_rfl)
 have h38:= @run_callFunc_extern Tryz.prog 240 _ (ReflectliteType.relation "Implements" ReflectliteType.implements_) Tryz.func240 (by kernel_rfl) (by kernel_rfl) (by kernel_rfl) (by kernel_rfl)
 have h10:= @run_callFunc_extern Tryz.prog 138 _ ReflectliteType.typeOf Tryz.func138 (by kernel_rfl) (by kernel_rfl) (by kernel_rfl) (by kernel_rfl)
 have h35:= @run_callFunc_extern Tryz.prog 237 _ (ReflectliteType.relation "AssignableTo" ReflectliteType.assignableTo) Tryz.func237 (by kernel_rfl) (by kernel_rfl) (by kernel_rfl) (by kernel_rfl)
 have h11:= @run_callFunc_extern Tryz.prog 139 _ (ReflectliteValue.method (ReflectliteValue.valueError "reflectlite.Value.Elem" 0) ReflectliteValue.elem) Tryz.func139 (by kernel_rfl) (by kernel_rfl) (by kernel_rfl) (by kernel_rfl)
 have h12:= @run_callFunc_extern Tryz.prog 140 _ ReflectliteValue.set Tryz.func140 (by kernel_rfl) (by kernel_rfl) (by kernel_rfl) (by kernel_rfl)
 have tO:=typeOf136
 have mA:=zhi
 have a25:=assignable136
 have v25:=valueOf136
 have f6:=valueOf138
 have f7:=type138
 have mK:=methodKind
 have mE:=methodElem
 have mI:=ziQ
 have k27:=kind138
 have k25:=kind136
 have e27:=elem138
 have i25:=implements136
 have n8:=isNil138 ⟨w.heap.size,0,none⟩ t ((w.alloc (.cells #[.pointer (some t)] 138)).alloc (.cells #[.pointer (some ⟨1,138,none⟩),.pointer (some ⟨w.heap.size,0,none⟩),.int .u64 150] 213)) (by simp)
 have hlt:0<w.heap.size:=by
  rcases Nat.eq_zero_or_pos w.heap.size with h0|h
  ·simp[World.cell?,h0] at hg
  ·exact h
 have hg2:((w.alloc (.cells #[.pointer (some t)] 138)).alloc (.cells #[.pointer (some ⟨1,138,none⟩),.pointer (some ⟨w.heap.size,0,none⟩),.int .u64 150] 213)).cell? ⟨0,0,none⟩=some (.iface 264 (.agg #[.pointer (some ⟨1,129,none⟩)])):=by
  rw[World.cell?_alloc_lt _ _ ⟨0,0,none⟩ (by simp),World.cell?_alloc_lt _ _ ⟨0,0,none⟩ hlt];exact hg
 have el:=elemV138 ⟨w.heap.size,0,none⟩ t (((w.alloc (.cells #[.pointer (some t)] 138)).alloc (.cells #[.pointer (some ⟨1,138,none⟩),.pointer (some ⟨w.heap.size,0,none⟩),.int .u64 150] 213)).alloc (.cells #[.pointer (some ⟨1,138,none⟩),.pointer (some ⟨w.heap.size,0,none⟩),.int .u64 150] 213)) (by rw[World.cell?_alloc_lt _ _ ⟨w.heap.size,0,none⟩ (by simp;omega)];simp)
 have st:=set136 t ⟨w.heap.size+1+1+1,0,none⟩ s (asWorld w t s) w' (by unfold asWorld;rw[World.cell?_alloc_at _ _ _ _ (by simp)];rfl) hst
 unfold asWorld at st
 go_enter Tryz.func54,Tryz.ntmps54
 go_wp2
 refine wp_loop_rounds 1 ?_
 rw[rounds_succ]
 go_wp2
 go_ret
 exact⟨rfl,rfl⟩
open Go.Ideal
noncomputable def asE:List Value→H→Option (Value×H):=asP 264 129 1 138 136 1
theorem str1 {v:Value} (h:isStr1 v=true): ∃s,v=.agg #[.string s]:=by
 unfold isStr1 at h
 split at h
 ·rename_i cs
  split at h
  ·rename_i s hs
   exact⟨s,by rw[←Array.toArray_toList (xs:=cs),hs]⟩
  ·cases h
 ·cases h
theorem errT {x:Value} (h:isErrT 264 129 1 x=true):x=.iface 264 (.agg #[.pointer (some ⟨1,129,none⟩)]):=by
 unfold isErrT at h
 split at h
 ·rename_i r cs
  rw[Bool.and_eq_true] at h
  obtain⟨h1,h2⟩:=h
  split at h2
  ·rename_i a hs
   simp only[Bool.and_eq_true,Option.isNone_iff_eq_none] at h2
   obtain⟨g1,g2,g3⟩:=h2
   obtain⟨b,o,sp⟩:=a
   have e1:b=1:=Nat.eq_of_beq_eq_true g1
   have e2:o=129:=Nat.eq_of_beq_eq_true g2
   have e3:sp=none:=g3
   subst e1 e2 e3
   rw[Nat.eq_of_beq_eq_true h1,←Array.toArray_toList (xs:=cs),hs]
  ·cases h2
 ·cases h
theorem VRL.two {ρ:Rho} {x y:Value} {args:Array Value} (h:VRL ρ [x,y] args.toList): ∃x' y',args= #[x',y']∧VR ρ x x'∧VR ρ y y':=by
 obtain⟨x',l,e,h1,h2⟩:=h.cons_left
 obtain⟨y',l2,rfl,h3,h4⟩:=h2.cons_left
 rw[h4.nil_left] at e
 exact⟨x',y',by rw[←Array.toArray_toList (xs:=args),e],h1,h3⟩
theorem asOk:FnOk Tryz.prog 54 (primP asE):=by
 refine .inr (.inr (.inl ⟨_,rfl,fun args w=> ?_,fun args h v h' hp ρ args' w ra hr=> ?_⟩))
 ·have hb:Tryz.f54.body≠none:=by rw[show(Tryz.f54.body≠none)=(Tryz.f54.body.isSome=true) from by simp[Option.isSome_iff_ne_none]];kernel_rfl
  have hn: ¬Tryz.f54.name= "runtime.NumGoroutine" :=by decide+kernel
  simp[callFunc,Tryz.func54,hb,hn]
 ·unfold asE asP at hp
  split at hp
  ·cases hp
   obtain⟨x',y',rfl,r1,r2⟩:=VRL.two ra
   obtain rfl:=r1.inv_nilIface
   refine(as_nil y' w).mono ?_
   rintro e w' ⟨rfl,rfl⟩
   exact⟨_,_,_,ρ,rfl,rfl,.bool _,hr,.refl _ _⟩
  ·rename_i t v0 u a
   split at hp
   ·rename_i hc
    rw[Bool.and_eq_true] at hc
    obtain rfl:=Nat.eq_of_beq_eq_true hc.1
    obtain rfl:=Nat.eq_of_beq_eq_true hc.2
    obtain⟨o,ho,hp⟩:=aof hp
    unfold asIn at hp
    split at hp
    ·rename_i b x
     split at hp
     ·rename_i hcc
      simp only[Bool.and_eq_true,Option.isNone_iff_eq_none] at hcc
      obtain⟨c1,c2,c3,c4,c5⟩:=hcc
      obtain rfl:=Nat.eq_of_beq_eq_true c1
      obtain rfl:=errT c2
      obtain⟨s,rfl⟩:=str1 c3
      obtain⟨hh,hw,hp⟩:=amf hp
      cases hp
      obtain⟨x',y',rfl,r1,r2⟩:=VRL.two ra
      obtain⟨e',rfl,r3⟩:=r1.inv_iface
      obtain⟨ys,rfl,r4⟩:=r3.inv_agg
      obtain⟨p',rfl,r5⟩:=r2.inv_iface
      obtain⟨blk,off,sp⟩:=a
      simp only at c5
      subst c5
      obtain⟨R,hR,rfl⟩:=r5.inv_ptr
      have es:ys= #[.string s]:=by
       obtain⟨z,l,e,h1,h2⟩:=r4.cons_left
       rw[h2.nil_left,h1.inv_str] at e
       rw[←Array.toArray_toList (xs:=ys),e]
      subst es
      have hg:w.cell? ⟨0,0,none⟩=some (.iface 264 (.agg #[.pointer (some ⟨1,129,none⟩)])):=by
       obtain⟨R0,hR0⟩:=hr.glb 0 _ _ ho
       obtain⟨g1,cc,ty,fr,-,g2,g3⟩:=hr.obj 0 R0 _ hR0 ho
       unfold World.cell?
       rw[g1] at g2
       rw[g2];exact g3
      obtain⟨a1,x1⟩:=hr.garbage (zbl #[.pointer (some ⟨R.blk,R.base+off,none⟩)] 138)
      obtain⟨a2,x2⟩:=a1.garbage (zbl #[.pointer (some ⟨1,138,none⟩),.pointer (some ⟨w.heap.size,0,none⟩),.int .u64 150] 213)
      obtain⟨a3,x3⟩:=a2.garbage (zbl #[.pointer (some ⟨1,138,none⟩),.pointer (some ⟨w.heap.size,0,none⟩),.int .u64 150] 213)
      obtain⟨a4,x4⟩:=a3.garbage (zbl #[.string s] 136)
      obtain⟨w',hrun,q1,q2⟩:=zd9 a4 hR (vs:=[.string s]) (ws:=[.string s]) (.cons (.str s) (.nil _)) (by simp) hw
      refine(as_hit s ⟨R.blk,R.base+off,none⟩ w w' hg hrun).mono ?_
      rintro e w2 ⟨rfl,rfl⟩
      exact⟨_,_,_,ρ,rfl,rfl,.bool _,q1,(((x1.trans x2).trans x3).trans x4).trans q2⟩
     ·cases hp
    ·cases hp
   ·cases hp
  ·cases hp
end Go.Proofs.YtiebibpenhncdaaGreatDoor
set_option maxHeartbeats 4000000
noncomputable section
namespace Go.Ideal.X
open Go Go.Ideal
theorem hmix:Go.Proofs.Tryz.prog.follows .mixedOrders=true:=by kernel_rfl
theorem call:AllC Go.Proofs.Tryz.prog tabC:=(((c0.app c1).app c2).app c3)
theorem okF: ∀g cf,F g=some cf→FnOk Go.Proofs.Tryz.prog g cf:=look_ok (List.forall_mem_cons.2 ⟨Go.Proofs.YtiebibpenhncdaaGreatDoor.asOk,call.ok⟩)
end Go.Ideal.X
end
noncomputable section
namespace Go.Ideal.X
open Go Go.Ideal
def q196:zda:=⟨[vA [sL 9 0 1 1,sL 13 0 5 5,sL 10 0 1 1,0],vA [sL 38 0 1 1,sL 60 0 1 oC,sL 58 0 2 oC,vS],vA [sL 9 0 1 1,sL 13 0 5 5,sL 10 0 1 1,0],vA [sL 241 0 1 oC,sL 259 0 1 oC,sL 251 0 5 oC]],261,[(0,.glob 0 (.iface 264 (vA [pT 1 129]))),(251,cL [0,1,2,3,4] 1),(257,cL [0,1] 1),(259,cL [sL 257 0 2 oC] 1),(241,cL [0] 1),(78,cL [1,2] 2),(67,cL [1,1] 2),(83,cL [sL 67 0 1 oC,sL 78 0 1 oC] 1),(58,cL [0,0,0,sL 83 0 2 oC,0,1,0,vS] 4),(50,cL [2,0,3,0,3,1] 2),(60,cL [0,0,sL 50 0 3 oC] 3),(38,cL [iI (-1),vF] 0),(3,cL [0,1] 0),(4,cL [0,sL 3 0 2 2,1] 0),(2,cL [0,1,0,0] 0),(10,cL [sL 2 0 2 2,vS,sL 4 0 1 1] 0),(8,cL [1,2,vS] 0),(7,cL [1,1,vS] 0),(12,cL [3,4] 0),(6,cL [2,3,vS] 0),(11,cL [2] 0),(13,cL [4,0,vS,sL 11 0 1 1,2,0,sL 6 0 1 1,vS,3,0,vS,sL 12 0 2 2,2,1,sL 7 0 1 1,vS,2,1,sL 8 0 1 1,vS] 0),(9,cL [.string ⟨#[111,117,116]⟩] 0)],(.tuple ⟨[vA [sL 590 0 1 oC,sL 628 0 1 oC,sL 659 0 2 oC,vS],0]⟩),662,[(9,cL [.string ⟨#[111,117,116]⟩] 0),(13,cL [4,0,vS,sL 11 0 1 1,2,0,sL 6 0 1 1,vS,3,0,vS,sL 12 0 2 2,2,1,sL 7 0 1 1,vS,2,1,sL 8 0 1 1,vS] 0),(11,cL [2] 0),(6,cL [2,3,vS] 0),(12,cL [3,4] 0),(7,cL [1,1,vS] 0),(8,cL [1,2,vS] 0),(10,cL [sL 2 0 2 2,vS,sL 4 0 1 1] 0),(2,cL [0,1,0,0] 0),(4,cL [0,sL 3 0 2 2,1] 0),(3,cL [0,1] 0),(38,cL [iI (-1),vF] 0),(60,cL [0,0,sL 50 0 3 oC] 3),(50,cL [2,0,3,0,3,1] 2),(58,cL [0,0,0,sL 83 0 2 oC,0,1,0,vS] 4),(83,cL [sL 67 0 1 oC,sL 78 0 1 oC] 1),(67,cL [1,1] 2),(78,cL [1,2] 2),(241,cL [0] 1),(259,cL [sL 257 0 2 oC] 1),(257,cL [0,1] 1),(251,cL [0,1,2,3,4] 1),(0,.glob 0 (.iface 264 (vA [pT 1 129]))),(648,cL [1,2] 2),(639,cL [1,1] 2),(650,cL [sL 639 0 1 oC,sL 648 0 1 oC] 1),(659,cL [0,0,0,sL 650 0 2 oC,0,1,0,vS] 4),(626,cL [2,0,3,0,3,1] 2),(628,cL [0,0,sL 626 0 3 oC] 3),(590,cL [iI (-1),vF] 2)]⟩
def q475:zda:=⟨[vA [sL 9 0 1 1,sL 13 0 5 5,sL 10 0 1 1,0],vA [sL 38 0 1 1,sL 60 0 1 oC,sL 58 0 2 oC,vS],vA [sL 24 0 1 1,sL 28 0 5 5,sL 33 0 1 1,0],vA [sL 681 0 1 oC,sL 701 0 1 1,sL 698 0 5 oC]],702,[(0,.glob 0 (.iface 264 (vA [pT 1 129]))),(698,cL [0,1,2,3,4] 1),(700,cL [1,0] 0),(701,cL [sL 700 0 2 2] 0),(681,cL [0] 1),(31,cL [1,0] 0),(32,cL [0,sL 31 0 2 2,1] 0),(30,cL [0,0,0,1] 0),(33,cL [sL 30 0 2 2,vS,sL 32 0 1 1] 0),(23,cL [1,2,vS] 0),(22,cL [1,1,vS] 0),(27,cL [3,4] 0),(21,cL [2,3,vS] 0),(26,cL [2] 0),(28,cL [4,0,vS,sL 26 0 1 1,2,0,sL 21 0 1 1,vS,3,0,vS,sL 27 0 2 2,2,2,sL 22 0 1 1,vS,2,2,sL 23 0 1 1,vS] 0),(24,cL [.string ⟨#[111,117,116]⟩] 0),(78,cL [1,2] 2),(67,cL [1,1] 2),(83,cL [sL 67 0 1 oC,sL 78 0 1 oC] 1),(58,cL [0,0,0,sL 83 0 2 oC,0,1,0,vS] 4),(50,cL [2,0,3,0,3,1] 2),(60,cL [0,0,sL 50 0 3 oC] 3),(38,cL [iI (-1),vF] 0),(3,cL [0,1] 0),(4,cL [0,sL 3 0 2 2,1] 0),(2,cL [0,1,0,0] 0),(10,cL [sL 2 0 2 2,vS,sL 4 0 1 1] 0),(8,cL [1,2,vS] 0),(7,cL [1,1,vS] 0),(12,cL [3,4] 0),(6,cL [2,3,vS] 0),(11,cL [2] 0),(13,cL [4,0,vS,sL 11 0 1 1,2,0,sL 6 0 1 1,vS,3,0,vS,sL 12 0 2 2,2,1,sL 7 0 1 1,vS,2,1,sL 8 0 1 1,vS] 0),(9,cL [.string ⟨#[111,117,116]⟩] 0)],(.tuple ⟨[vA [sL 1031 0 1 oC,sL 1069 0 1 oC,sL 1100 0 2 oC,vS],0]⟩),1103,[(9,cL [.string ⟨#[111,117,116]⟩] 0),(13,cL [4,0,vS,sL 11 0 1 1,2,0,sL 6 0 1 1,vS,3,0,vS,sL 12 0 2 2,2,1,sL 7 0 1 1,vS,2,1,sL 8 0 1 1,vS] 0),(11,cL [2] 0),(6,cL [2,3,vS] 0),(12,cL [3,4] 0),(7,cL [1,1,vS] 0),(8,cL [1,2,vS] 0),(10,cL [sL 2 0 2 2,vS,sL 4 0 1 1] 0),(2,cL [0,1,0,0] 0),(4,cL [0,sL 3 0 2 2,1] 0),(3,cL [0,1] 0),(38,cL [iI (-1),vF] 0),(60,cL [0,0,sL 50 0 3 oC] 3),(50,cL [2,0,3,0,3,1] 2),(58,cL [0,0,0,sL 83 0 2 oC,0,1,0,vS] 4),(83,cL [sL 67 0 1 oC,sL 78 0 1 oC] 1),(67,cL [1,1] 2),(78,cL [1,2] 2),(24,cL [.string ⟨#[111,117,116]⟩] 0),(28,cL [4,0,vS,sL 26 0 1 1,2,0,sL 21 0 1 1,vS,3,0,vS,sL 27 0 2 2,2,2,sL 22 0 1 1,vS,2,2,sL 23 0 1 1,vS] 0),(26,cL [2] 0),(21,cL [2,3,vS] 0),(27,cL [3,4] 0),(22,cL [1,1,vS] 0),(23,cL [1,2,vS] 0),(33,cL [sL 30 0 2 2,vS,sL 32 0 1 1] 0),(30,cL [0,0,0,1] 0),(32,cL [0,sL 31 0 2 2,1] 0),(31,cL [1,0] 0),(681,cL [0] 1),(701,cL [sL 700 0 2 2] 0),(700,cL [1,0] 0),(698,cL [0,1,2,3,4] 1),(0,.glob 0 (.iface 264 (vA [pT 1 129]))),(1094,cL [1,2] 2),(1085,cL [1,1] 2),(1096,cL [sL 1085 0 1 oC,sL 1094 0 1 oC] 1),(1100,cL [0,0,0,vS,0,1,0,sL 1096 0 2 oC] 4),(1067,cL [2,0,3,0,3,1] 2),(1069,cL [0,0,sL 1067 0 3 oC] 3),(1031,cL [iI (-1),vF] 2)]⟩
def q754:zda:=⟨[vA [sL 9 0 1 1,sL 13 0 5 5,sL 10 0 1 1,0],vA [sL 38 0 1 1,sL 60 0 1 oC,sL 58 0 2 oC,vS],vA [sL 24 0 1 1,sL 28 0 5 5,sL 33 0 1 1,0],vA [sL 1122 0 1 oC,sL 1142 0 1 1,sL 1139 0 5 oC]],1143,[(0,.glob 0 (.iface 264 (vA [pT 1 129]))),(1139,cL [0,1,2,3,4] 1),(1141,cL [iI (-1),0] 0),(1142,cL [sL 1141 0 2 2] 0),(1122,cL [0] 1),(31,cL [1,0] 0),(32,cL [0,sL 31 0 2 2,1] 0),(30,cL [0,0,0,1] 0),(33,cL [sL 30 0 2 2,vS,sL 32 0 1 1] 0),(23,cL [1,2,vS] 0),(22,cL [1,1,vS] 0),(27,cL [3,4] 0),(21,cL [2,3,vS] 0),(26,cL [2] 0),(28,cL [4,0,vS,sL 26 0 1 1,2,0,sL 21 0 1 1,vS,3,0,vS,sL 27 0 2 2,2,2,sL 22 0 1 1,vS,2,2,sL 23 0 1 1,vS] 0),(24,cL [.string ⟨#[111,117,116]⟩] 0),(78,cL [1,2] 2),(67,cL [1,1] 2),(83,cL [sL 67 0 1 oC,sL 78 0 1 oC] 1),(58,cL [0,0,0,sL 83 0 2 oC,0,1,0,vS] 4),(50,cL [2,0,3,0,3,1] 2),(60,cL [0,0,sL 50 0 3 oC] 3),(38,cL [iI (-1),vF] 0),(3,cL [0,1] 0),(4,cL [0,sL 3 0 2 2,1] 0),(2,cL [0,1,0,0] 0),(10,cL [sL 2 0 2 2,vS,sL 4 0 1 1] 0),(8,cL [1,2,vS] 0),(7,cL [1,1,vS] 0),(12,cL [3,4] 0),(6,cL [2,3,vS] 0),(11,cL [2] 0),(13,cL [4,0,vS,sL 11 0 1 1,2,0,sL 6 0 1 1,vS,3,0,vS,sL 12 0 2 2,2,1,sL 7 0 1 1,vS,2,1,sL 8 0 1 1,vS] 0),(9,cL [.string ⟨#[111,117,116]⟩] 0)],(.tuple ⟨[vA [vS,vS,vS,vS],7]⟩),1469,[(9,cL [.string ⟨#[111,117,116]⟩] 0),(13,cL [4,0,vS,sL 11 0 1 1,2,0,sL 6 0 1 1,vS,3,0,vS,sL 12 0 2 2,2,1,sL 7 0 1 1,vS,2,1,sL 8 0 1 1,vS] 0),(11,cL [2] 0),(6,cL [2,3,vS] 0),(12,cL [3,4] 0),(7,cL [1,1,vS] 0),(8,cL [1,2,vS] 0),(10,cL [sL 2 0 2 2,vS,sL 4 0 1 1] 0),(2,cL [0,1,0,0] 0),(4,cL [0,sL 3 0 2 2,1] 0),(3,cL [0,1] 0),(38,cL [iI (-1),vF] 0),(60,cL [0,0,sL 50 0 3 oC] 3),(50,cL [2,0,3,0,3,1] 2),(58,cL [0,0,0,sL 83 0 2 oC,0,1,0,vS] 4),(83,cL [sL 67 0 1 oC,sL 78 0 1 oC] 1),(67,cL [1,1] 2),(78,cL [1,2] 2),(24,cL [.string ⟨#[111,117,116]⟩] 0),(28,cL [4,0,vS,sL 26 0 1 1,2,0,sL 21 0 1 1,vS,3,0,vS,sL 27 0 2 2,2,2,sL 22 0 1 1,vS,2,2,sL 23 0 1 1,vS] 0),(26,cL [2] 0),(21,cL [2,3,vS] 0),(27,cL [3,4] 0),(22,cL [1,1,vS] 0),(23,cL [1,2,vS] 0),(33,cL [sL 30 0 2 2,vS,sL 32 0 1 1] 0),(30,cL [0,0,0,1] 0),(32,cL [0,sL 31 0 2 2,1] 0),(31,cL [1,0] 0),(1122,cL [0] 1),(1142,cL [sL 1141 0 2 2] 0),(1141,cL [iI (-1),0] 0),(1139,cL [0,1,2,3,4] 1),(0,.glob 0 (.iface 264 (vA [pT 1 129])))]⟩
def q1019:zda:=⟨[vA [sL 9 0 1 1,sL 13 0 5 5,sL 10 0 1 1,0],vA [sL 38 0 1 1,sL 60 0 1 oC,sL 58 0 2 oC,vS],vA [sL 24 0 1 1,sL 28 0 5 5,sL 33 0 1 1,0],vA [sL 1488 0 1 oC,sL 1508 0 1 1,sL 1505 0 5 oC]],1509,[(0,.glob 0 (.iface 264 (vA [pT 1 129]))),(1505,cL [0,1,2,3,4] 1),(1507,cL [1,iI (-1)] 0),(1508,cL [sL 1507 0 2 2] 0),(1488,cL [0] 1),(31,cL [1,0] 0),(32,cL [0,sL 31 0 2 2,1] 0),(30,cL [0,0,0,1] 0),(33,cL [sL 30 0 2 2,vS,sL 32 0 1 1] 0),(23,cL [1,2,vS] 0),(22,cL [1,1,vS] 0),(27,cL [3,4] 0),(21,cL [2,3,vS] 0),(26,cL [2] 0),(28,cL [4,0,vS,sL 26 0 1 1,2,0,sL 21 0 1 1,vS,3,0,vS,sL 27 0 2 2,2,2,sL 22 0 1 1,vS,2,2,sL 23 0 1 1,vS] 0),(24,cL [.string ⟨#[111,117,116]⟩] 0),(78,cL [1,2] 2),(67,cL [1,1] 2),(83,cL [sL 67 0 1 oC,sL 78 0 1 oC] 1),(58,cL [0,0,0,sL 83 0 2 oC,0,1,0,vS] 4),(50,cL [2,0,3,0,3,1] 2),(60,cL [0,0,sL 50 0 3 oC] 3),(38,cL [iI (-1),vF] 0),(3,cL [0,1] 0),(4,cL [0,sL 3 0 2 2,1] 0),(2,cL [0,1,0,0] 0),(10,cL [sL 2 0 2 2,vS,sL 4 0 1 1] 0),(8,cL [1,2,vS] 0),(7,cL [1,1,vS] 0),(12,cL [3,4] 0),(6,cL [2,3,vS] 0),(11,cL [2] 0),(13,cL [4,0,vS,sL 11 0 1 1,2,0,sL 6 0 1 1,vS,3,0,vS,sL 12 0 2 2,2,1,sL 7 0 1 1,vS,2,1,sL 8 0 1 1,vS] 0),(9,cL [.string ⟨#[111,117,116]⟩] 0)],(.tuple ⟨[vA [sL 1838 0 1 oC,sL 1876 0 1 oC,sL 1907 0 2 oC,vS],0]⟩),1910,[(9,cL [.string ⟨#[111,117,116]⟩] 0),(13,cL [4,0,vS,sL 11 0 1 1,2,0,sL 6 0 1 1,vS,3,0,vS,sL 12 0 2 2,2,1,sL 7 0 1 1,vS,2,1,sL 8 0 1 1,vS] 0),(11,cL [2] 0),(6,cL [2,3,vS] 0),(12,cL [3,4] 0),(7,cL [1,1,vS] 0),(8,cL [1,2,vS] 0),(10,cL [sL 2 0 2 2,vS,sL 4 0 1 1] 0),(2,cL [0,1,0,0] 0),(4,cL [0,sL 3 0 2 2,1] 0),(3,cL [0,1] 0),(38,cL [iI (-1),vF] 0),(60,cL [0,0,sL 50 0 3 oC] 3),(50,cL [2,0,3,0,3,1] 2),(58,cL [0,0,0,sL 83 0 2 oC,0,1,0,vS] 4),(83,cL [sL 67 0 1 oC,sL 78 0 1 oC] 1),(67,cL [1,1] 2),(78,cL [1,2] 2),(24,cL [.string ⟨#[111,117,116]⟩] 0),(28,cL [4,0,vS,sL 26 0 1 1,2,0,sL 21 0 1 1,vS,3,0,vS,sL 27 0 2 2,2,2,sL 22 0 1 1,vS,2,2,sL 23 0 1 1,vS] 0),(26,cL [2] 0),(21,cL [2,3,vS] 0),(27,cL [3,4] 0),(22,cL [1,1,vS] 0),(23,cL [1,2,vS] 0),(33,cL [sL 30 0 2 2,vS,sL 32 0 1 1] 0),(30,cL [0,0,0,1] 0),(32,cL [0,sL 31 0 2 2,1] 0),(31,cL [1,0] 0),(1488,cL [0] 1),(1508,cL [sL 1507 0 2 2] 0),(1507,cL [1,iI (-1)] 0),(1505,cL [0,1,2,3,4] 1),(0,.glob 0 (.iface 264 (vA [pT 1 129]))),(1901,cL [1,2] 2),(1892,cL [1,1] 2),(1903,cL [sL 1892 0 1 oC,sL 1901 0 1 oC] 1),(1907,cL [0,0,0,vS,0,1,0,sL 1903 0 2 oC] 4),(1874,cL [2,0,3,0,3,1] 2),(1876,cL [0,0,sL 1874 0 3 oC] 3),(1838,cL [iI (-1),vF] 2)]⟩
end Go.Ideal.X
end
noncomputable section
namespace Go.Ideal.X
open Go Go.Ideal
def F196:FuncId→Option zb:=F
theorem r196:q196.runs F196 100000 16=true:=by kernel_rfl
theorem g196:q196.good=true:=by kernel_rfl
end Go.Ideal.X
end
noncomputable section
namespace Go.Ideal.X
open Go Go.Ideal
def F475:FuncId→Option zb:=F
theorem r475:q475.runs F475 100000 16=true:=by kernel_rfl
theorem g475:q475.good=true:=by kernel_rfl
end Go.Ideal.X
end
noncomputable section
namespace Go.Ideal.X
open Go Go.Ideal
def F754:FuncId→Option zb:=F
theorem r754:q754.runs F754 100000 16=true:=by kernel_rfl
theorem g754:q754.good=true:=by kernel_rfl
end Go.Ideal.X
end
noncomputable section
namespace Go.Ideal.X
open Go Go.Ideal
def F1019:FuncId→Option zb:=F
theorem r1019:q1019.runs F1019 100000 16=true:=by kernel_rfl
theorem g1019:q1019.good=true:=by kernel_rfl
end Go.Ideal.X
end
noncomputable section
namespace Go.Ideal.X
open Go Go.Ideal
def F0:FuncId→Option zb:=overF [(16,primW (piecesV [q196,q475,q754,q1019]) f16)] F
abbrev xG:Value:=.iface 264 (.agg #[.pointer (some ⟨1,129,none⟩)])
theorem r0:endsT xG (E F0 100000 (.call (.func (.func 14) #[] #[]) [] (globH 0 xG)))=true:=by kernel_rfl
end Go.Ideal.X
end
noncomputable section
namespace Go.Ideal.X
open Go Go.Ideal
theorem ok1019: ∀g cf,F1019 g=some cf→FnOk Go.Proofs.Tryz.prog g cf:=okF
theorem ok754: ∀g cf,F754 g=some cf→FnOk Go.Proofs.Tryz.prog g cf:=okF
theorem ok475: ∀g cf,F475 g=some cf→FnOk Go.Proofs.Tryz.prog g cf:=okF
theorem ok196: ∀g cf,F196 g=some cf→FnOk Go.Proofs.Tryz.prog g cf:=okF
theorem ok0: ∀g cf,F0 g=some cf→FnOk Go.Proofs.Tryz.prog g cf:=over_ok (List.forall_mem_cons.2 ⟨call.pieces hmix (g:=16) (by kernel_rfl) (List.forall_mem_cons.2 ⟨⟨g196,F196,100000,ok196,r196⟩,(List.forall_mem_cons.2 ⟨⟨g475,F475,100000,ok475,r475⟩,(List.forall_mem_cons.2 ⟨⟨g754,F754,100000,ok754,r754⟩,(List.forall_mem_cons.2 ⟨⟨g1019,F1019,100000,ok1019,r1019⟩,(fun _ h=>by cases h)⟩)⟩)⟩)⟩),(fun _ h=>by cases h)⟩) okF
theorem law_calls {W:World} (hgl:GlOk W):Calls Go.Proofs.Tryz.prog 14 #[] W fun e W'=>e=.returned (.bool true)∧Same W W':=by
 obtain⟨h',e,hg⟩:=endsT_some r0
 exact calls_glob hmix ok0 e hg hgl (hgl 0 xG rfl)
theorem root_true:FnOk Go.Proofs.Tryz.prog 14 (ziP true):=by
 obtain⟨fn,h1,h2⟩:=call.at (g:=14) (cf:=f14) (by kernel_rfl)
 exact .inr (.inl ⟨fn,f14,true,h1,h2,rfl,fun w hg=>law_calls hg⟩)
end Go.Ideal.X
end
noncomputable section
namespace Go.Ideal.Y
open Go Go.Ideal Q
theorem c0:AllC Go.Proofs.Tryz.prog tab0:=by unfold AllC;kernel_rfl
end Go.Ideal.Y
end
noncomputable section
namespace Go.Ideal.Y
open Go Go.Ideal Q
theorem c1:AllC Go.Proofs.Tryz.prog tab1:=by unfold AllC;kernel_rfl
end Go.Ideal.Y
end
noncomputable section
namespace Go.Ideal.Y
open Go Go.Ideal Q
theorem call:AllC Go.Proofs.Tryz.prog Q.tabC:=(c0.app c1)
end Go.Ideal.Y
end
noncomputable section
namespace Go.Ideal.Y
open Go Go.Ideal Q
theorem okF: ∀g cf,Q.F g=some cf→FnOk Go.Proofs.Tryz.prog g cf:=look_ok (List.forall_mem_cons.2 ⟨X.root_true,call.ok⟩)
end Go.Ideal.Y
end
namespace Go.Proofs.YtiebibpenhncdaaGreatDoor
open Go.ChangeShapes Go.WideShapes Go.RowKit Go.Ideal Go.Ideal.S
theorem et:Tryz.prog.globalNamed "errors.errorType" =some 0:=by kernel_rfl
theorem rt:(Tryz.prog.cutTypes.find? (·.1== "internal/reflectlite.rtype")).map (·.2)=some 264:=by kernel_rfl
theorem oneRow:((List.range 377).filter fun t=>Tryz.prog.rowNamed t [101,114,114,111,114])=[129]:=by kernel_rfl
theorem size:Tryz.prog.types.size=377:=by kernel_rfl
abbrev laid {H:Type}:List (String×DataW H):=[("errors.errorType",Rows.laid_errors_errorType)]
theorem zkV {W:World} (h:laidMetH Tryz.prog laid W):GlOk W:=by
 have h':laidMet Tryz.prog [] W∧handlesMet Tryz.prog laid W:=h
 obtain⟨name,u,ty,e1,e2,e3,e4,e5⟩:=h'.2 _ (List.mem_singleton.2 rfl)
 have en:name=[101,114,114,111,114]:=(Option.some.inj e1).symm
 subst en
 obtain rfl:=Option.some.inj (rt.symm.trans e2)
 have hm:ty∈(List.range 377).filter fun t=>Tryz.prog.rowNamed t [101,114,114,111,114]:=List.mem_filter.2 ⟨List.mem_range.2 (by rw[←size];exact e3),e4⟩
 rw[oneRow] at hm
 obtain rfl:=List.mem_singleton.1 hm
 have hh:typeHandle Tryz.prog 129=.pointer (some ⟨1,129,none⟩):=by kernel_rfl
 rw[hh] at e5
 intro b x e
 cases e
 simpa using World.var?_cell et e5 0
noncomputable def laidWorld (os:Os):World:=
 let w0:=World.holding Tryz.prog os ⟨#[],#[],[]⟩
 {w0 with heap:=w0.heap.modify 0 fun
   |.cells _ t frozen=>.cells #[.iface 264 (.agg #[.pointer (some ⟨1,129,none⟩)])] t frozen
   |o=>o}
theorem laidWorld_met (os:Os) (args:Array Value):laidMetH Tryz.prog laid ((laidWorld os).forCall (fun _ _=>0) ⟨#[],args,[]⟩).memory:=
 laidMetH_of_parts (laidMet_nil _ _) (by kernel_rfl)
theorem law_lifted (os:Os) (started:os.Started) (H:Type) (enc:TypeId×Value→H):
 ReturnsInHanded {} Tryz.checked os 8 .any (fun w args=>(Rows.swapThensSpec.pre enc Tryz.prog Tryz.f8 [] false w args∧laidMetH Tryz.prog laid w)∧sizedMet enc Tryz.prog Tryz.f8 (OpenSpec.ofChange Rows.swapThensSpec) false w args)
  (Rows.swapThensSpec.post enc Tryz.prog Tryz.f8 false true false false):=by
 refine returnsInHanded_of_change_and (C:=Tryz.checked) (X:=fun w _=>laidMetH Tryz.prog laid w) (fun _ _ _ hh h=>h.of_heap hh) own started (by kernel_rfl) Tryz.func8
  (ChangeSpec.witness_at (enc:=enc) (C:=Tryz.checked) (os:=os) (X:=fun w _=>laidMetH Tryz.prog laid w) false (laidWorld os) #[.agg #[.slice none 0 0,.slice none 0 0,.slice none 0 0,.int .i64 0],.agg #[.slice none 0 0,.slice none 0 0,.slice none 0 0,.int .i64 0],.agg #[.slice none 0 0,.slice none 0 0,.slice none 0 0,.int .i64 0],.agg #[.slice none 0 0,.slice none 0 0,.slice none 0 0],.agg #[.slice none 0 0,.slice none 0 0,.slice none 0 0]] 8 rfl (by kernel_rfl) (by kernel_rfl) (by kernel_rfl) (by kernel_rfl) (by kernel_rfl) (laidWorld_met os _)) ?_
 intro W base args ds gs before hval0 hW _ _ hL _
 have hval: ∀(j:Nat) t v,Tryz.f8.params[j]? =some t→args[j]? =some v→Value.okWide Tryz.prog W .any base t v:=hval0
 have hW':=hW
 obtain⟨p,q,hA0,hV0,rfl,hfz,hnd⟩:=hW
 have hA:DataW.TrodAll enc Tryz.prog W 0 (fun _=>true) true Tryz.f8.params.toList args.toList ds p:=hA0
 rw[Tryz.params8] at hA hval
 obtain⟨v0,vs0,d0,ds0,q0,qs0,e0,rfl,rfl,h0,hr0⟩:=trodAll_cons hA
 obtain⟨v1,vs1,d1,ds1,q1,qs1,e1,rfl,rfl,h1,hr1⟩:=trodAll_cons hr0
 obtain⟨v2,vs2,d2,ds2,q2,qs2,e2,rfl,rfl,h2,hr2⟩:=trodAll_cons hr1
 obtain⟨v3,vs3,d3,ds3,q3,qs3,e3,rfl,rfl,h3,hr3⟩:=trodAll_cons hr2
 obtain⟨v4,vs4,d4,ds4,q4,qs4,e4,rfl,rfl,h4,hr4⟩:=trodAll_cons hr3
 obtain⟨e5,rfl,rfl⟩:=trodAll_nil hr4
 obtain rfl:args= #[v0,v1,v2,v3,v4]:=by rw[←Array.toArray_toList (xs:=args),e0,e1,e2,e3,e4,e5]
 obtain⟨o0,x0,b0,r0⟩:=prog_in (hval 0 26 v0 rfl rfl) h0
 obtain⟨o1,x1,b1,r1⟩:=prog_in (hval 1 26 v1 rfl rfl) h1
 obtain⟨o2,x2,b2,r2⟩:=prog_in (hval 2 26 v2 rfl rfl) h2
 obtain⟨o3,x3,r3⟩:=map_in (hval 3 43 v3 rfl rfl) h3
 obtain⟨o4,x4,r4⟩:=map_in (hval 4 43 v4 rfl rfl) h4
 obtain⟨rfl,rfl⟩:=trodVars_none hV0
 refine(v_calls Go.Ideal.X.hmix Go.Ideal.Y.okF (zkV hL) (thens_law x0 x1 x2 x3 x4 b0 b1 b2 (fun _=>rfl)) (fun v hv=>by
  simp only[List.mem_cons,List.not_mem_nil,or_false] at hv
  rcases hv with rfl|rfl|rfl|rfl|rfl
  ·exact o0
  ·exact o1
  ·exact o2
  ·exact o3
  ·exact o4) (LRel.cons r0 (LRel.cons r1 (LRel.cons r2 (LRel.cons r3 (ziV r4)))))).mono fun e W' ⟨he,hs⟩=>⟨_,he,?_⟩
 exact law_post hW' rfl rfl (t:=4) (by kernel_rfl) Tryz.underlying4 hs laidOut (fun t ht=>by
  rw[Tryz.params8] at ht
  simp only[List.mem_cons,List.not_mem_nil,or_false] at ht
  rcases ht with rfl|rfl|rfl|rfl|rfl<;>exact⟨by kernel_rfl,of_decide_eq_true (by kernel_rfl)⟩)
end Go.Proofs.YtiebibpenhncdaaGreatDoor
namespace Go.Proofs.YtiebibpenhncdaaGreatDoor
open Go.ChangeShapes Go.WideShapes Go.RowKit
theorem rhA:Tryz.pinned.checked.prog.funcNamed Rows.swapThensRow.func=some 8:=by kernel_rfl
theorem rhC:Tryz.f8.isInstance Tryz.pinned.checked.prog Rows.swapThensRow.origin Rows.swapThensRow.targs:=of_decide_eq_true (by kernel_rfl)
end Go.Proofs.YtiebibpenhncdaaGreatDoor
