/- A part of the proof: the ideal machine, and what the functions of the program answer over it. -/
import Derived.RecoverIn
import Derived.RowKit
import Derived.OpenShut
import Derived.WideKeyArgs
import Derived.ChangeSame
import Derived.Test.YtjkoholloclgeaaGreatDoorB
set_option linter.unusedSimpArgs false
set_option linter.unusedVariables false
set_option linter.unusedSectionVars false
namespace Go.Ideal
variable {P:Program}
theorem z8.tail_put {ρ:Rho} {w:World} {D:Nat} {Ds:List Nat} (h:z8 ρ w (D::Ds)) (o:Obj):z8 ρ (w.putObj D o) Ds:=by
 obtain⟨h1,h2⟩:=List.nodup_cons.1 h.nodup
 refine⟨h2,fun D' hD'=> ?_⟩
 obtain⟨q1,q2,q3⟩:=h.ok D' (by simp[hD'])
 have hne:D'≠D:=fun e=>h1 (e▸hD')
 exact⟨by simpa using q1,q2,by rw[World.putObj_heap_other hne];exact q3⟩
theorem zbU {fn:Func} {rs:List CR} (hc:allO (zy P) fn.results.toList=some rs) {s:zc} {tmps:Array Value} {h:H} {o:Out} (ho:zfx rs s h=some o) {ρ0:Rho} {w0:World} {σ:Rho} (hs:SR σ s tmps):
 ∀(Ds:List Nat) (w:World),z8 σ w Ds→(∀D∈Ds,w0.heap.size≤D)→HR P σ h w→Ext ρ0 w0 σ w→LeavesInM Fence.wide 0 P fn tmps (zdJ P ρ0 w0 o) (Ds.map zl) .returning w
 | [],w,hD,hds,hr,he=>by
   obtain⟨v,v',rfl,h1,h2⟩:=zeP hc hr hs ho
   exact⟨v',h1,.inl ⟨v,h,v',σ,rfl,rfl,h2,hr,he⟩⟩
 |D::Ds,w,hD,hds,hr,he=>by
  obtain⟨q1,q2,q3⟩:=hD.ok D (by simp)
  obtain⟨g1,g2⟩:=hr.shut he (o:=.deferred none) (zB _) q3 (zB _) (hds D (by simp)) q2
  refine⟨by simp,.inl ⟨D,_,rfl,run_takeDeferred q3,?_⟩⟩
  exact zbU hc ho hs Ds _ (hD.tail_put _) (fun D' h=>hds D' (by simp[h])) g1 g2
theorem zbT {fn:Func} {tmps:Array Value} {v v':Value} {h:H} {ρ0:Rho} {w0:World} {σ:Rho} (hv:VR σ v v'):
 ∀(Ds:List Nat) (w:World),z8 σ w Ds→(∀D∈Ds,w0.heap.size≤D)→HR P σ h w→Ext ρ0 w0 σ w→LeavesInM Fence.wide 0 P fn tmps (zdJ P ρ0 w0 (.pan v .nil h)) (Ds.map zl) (.panicking (one v')) w
 | [],w,hD,hds,hr,he=>.inr ⟨v,h,v',σ,rfl,rfl,hv,hr,he⟩
 |D::Ds,w,hD,hds,hr,he=>by
  obtain⟨q1,q2,q3⟩:=hD.ok D (by simp)
  obtain⟨g1,g2⟩:=hr.shut he (o:=.deferred none) (zB _) q3 (zB _) (hds D (by simp)) q2
  refine⟨by simp,.inl ⟨D,_,rfl,run_takeDeferred q3,?_⟩⟩
  exact zbT hv Ds _ (hD.tail_put _) (fun D' h=>hds D' (by simp[h])) g1 g2
theorem zbQ.nil_ge {ρ:Rho} {w w':World} {N:Nat} {Db:List Deferred} {o:Out} {e:Exit} {a:Act} (h:zbQ P ρ w N [] Db o e a w'): ∃σ Ds s h,Ext ρ w σ w'∧a.tmps.size=N∧a.defers=Ds.map zl++Db∧z8 σ w' Ds∧(∀D∈Ds,w.heap.size≤D)∧SR σ s a.tmps∧HR P σ h w'∧
 ((o=.nrm s h∧e=.normal)∨(∃i,o=.exit i s h∧e=exOf i)∨(o=.ret s h∧e=.ret)∨(∃v v',o=.pan v s h∧VR σ v v'∧e=.panic (one v'))):=by
 obtain⟨σ,Ds,s,h,h1,h2,h3,⟨h4,h5⟩,h6⟩:=h
 exact⟨σ,Ds,s,h,h1,h2,h3,h4,fun D hD=>(h5 D hD).resolve_left (by simp),h6⟩
theorem zN {fn:Func} {cf:zd} (h:za P fn=some (zb cf)):(fn.name== "runtime.NumGoroutine")=false∧ ∃c,fn.body=some c∧zF P fn.ntmps c=some (zj cf.body,cf.dfr.map stripD)∧allO (zy P) fn.results.toList=some cf.results∧cf.ntmps=fn.ntmps∧cf.prim=none:=by
 unfold za at h
 split at h
 ·cases h
 ·rename_i hn
  obtain⟨c,hc,h⟩:=aof h
  obtain⟨cc,hcc,h⟩:=aof h
  obtain⟨rs,hrs,h⟩:=amf h
  unfold zb at h
  simp only[zd.mk.injEq] at h
  obtain⟨h1,h2,h3,h4,h5⟩:=h
  exact⟨by simpa using hn,c,hc,by rw[hcc,←h3,←h4],by rw[hrs,h2],h1.symm,h5.symm⟩
theorem zby: ∀{N:Nat} {code:Code} {c:CC},zF P N code=some (c,none)→ze P N code=some c
 |N,.seq a b,c,h=>by
  have key:((ze P N a).bind fun a=>(zF P N b).map (seqD a))=some (c,none)→ze P N (.seq a b)=some c:=by
   intro h
   obtain⟨ca,ha,h⟩:=aof h
   obtain⟨⟨cb,d⟩,hb,e⟩:=amf h
   cases e
   have:=zby hb
   simp[ze,ha,this]
  cases a with
  |region id ops d=>
   cases d with
   |true=>exact key h
   |false=>
    unfold zF at h
    split at h
    ·exact key h
    ·split at h
     ·obtain⟨_,_,h⟩:=aof h
      obtain⟨_,_,h⟩:=aof h
      obtain⟨_,_,h⟩:=aof h
      obtain⟨_,_,h⟩:=aof h
      obtain⟨_,_,h⟩:=amf h
      cases h
     ·cases h
  |_=>exact key h
 |N,.skip,c,h=>by obtain⟨x,hx,e⟩:=amf h;cases e;exact hx
 |N,.region _ _ _,c,h=>by obtain⟨x,hx,e⟩:=amf h;cases e;exact hx
 |N,.cond _ _ _,c,h=>by obtain⟨x,hx,e⟩:=amf h;cases e;exact hx
 |N,.block _ _,c,h=>by obtain⟨x,hx,e⟩:=amf h;cases e;exact hx
 |N,.loop _,c,h=>by obtain⟨x,hx,e⟩:=amf h;cases e;exact hx
 |N,.rangeFunc _ _ _ _,c,h=>by obtain⟨x,hx,e⟩:=amf h;cases e;exact hx
 |N,.exit _,c,h=>by obtain⟨x,hx,e⟩:=amf h;cases e;exact hx
 |N,.ret,c,h=>by obtain⟨x,hx,e⟩:=amf h;cases e;exact hx
 |N,.label _,c,h=>by obtain⟨x,hx,e⟩:=amf h;cases e;exact hx
 |N,.scope _,c,h=>by obtain⟨x,hx,e⟩:=amf h;cases e;exact hx
 |N,.goto _,c,h=>by obtain⟨x,hx,e⟩:=amf h;cases e;exact hx
 |N,.refuse _,c,h=>by obtain⟨x,hx,e⟩:=amf h;cases e;exact hx
theorem zed: ∀{l pre post:List Oper} {c:Call},deferIn l=some (pre,c,post)→ ∃o,l=pre++o::post∧o.op=.defer c∧o.guard=none∧o.dst=none
 | [],_,_,_,h=>by cases h
 |o::l,pre,post,c,h=>by
  unfold deferIn at h
  split at h
  ·rename_i c' h1 h2 h3
   cases h
   exact⟨o,rfl,h1,h2,h3⟩
  ·obtain⟨⟨pre',c',post'⟩,hx,e⟩:=amf h
   cases e
   obtain⟨o',e1,e2⟩:=zed hx
   exact⟨o',by rw[e1];rfl,e2⟩
theorem zc2 {fn:Func} {tmps:Array Value} {R:Ending→World→Prop} {rest:List Deferred} {u:FrameMode} (hu:u≠ .run) {h:H} {ρ0:Rho} {w0:World} {σ:Rho} {Dr:List Nat}:
 ∀(Ds:List Nat) (w:World),z8 σ w (Ds++Dr)→(∀D∈Ds,w0.heap.size≤D)→HR P σ h w→Ext ρ0 w0 σ w→(∀w1,z8 σ w1 Dr→HR P σ h w1→Ext ρ0 w0 σ w1→LeavesInM Fence.wide 0 P fn tmps R rest u w1)→LeavesInM Fence.wide 0 P fn tmps R (Ds.map zl++rest) u w
 | [],w,hD,hds,hr,he,hk=>hk w hD hr he
 |D::Ds,w,hD,hds,hr,he,hk=>by
  obtain⟨q1,q2,q3⟩:=hD.ok D (by simp)
  obtain⟨g1,g2⟩:=hr.shut he (o:=.deferred none) (zB _) q3 (zB _) (hds D (by simp)) q2
  refine⟨hu,.inl ⟨D,_,rfl,run_takeDeferred q3,?_⟩⟩
  exact zc2 hu Ds _ (z8.tail_put (Ds:=Ds++Dr) hD _) (fun D' h=>hds D' (by simp[h])) g1 g2 hk
theorem zfu (p:Option Value):settle (zbe p)=.returning:=by cases p<;>rfl
theorem zfS (p:Option Value):zcE p≠ .run:=by cases p<;>simp[zcE]
theorem isFn_eq {u g:Value} (h:isFn u=some g):u=g∧ ∃f a b,g=.func (.func f) a b:=by
 unfold isFn at h
 split at h
 ·cases h;exact⟨rfl,_,_,_,rfl⟩
 ·cases h
theorem leaves_hand {ih:IH} {M:Nat} (hih: ∀t o,ih t=some o→zbR P M t o) {fn:Func} {rs:List CR} (hrs:allO (zy P) fn.results.toList=some rs) {f f':Value} {args:List Value} {args':Array Value} {g:FuncId} {first cap:Array Value} (hf':f'=.func (.func g) first cap)
 {p p':Option Value} {o1 o2:Out} {s:zc} {tmps:Array Value} {h:H} {w:World} {ρ0:Rho} {w0:World} {σ:Rho} {Ds:List Nat} (ho:ih (.hand f args p h)=some o1) (hk:resK1 rs s o1=some o2) (rf:VR σ f f') (ra:VRL σ args args'.toList) (rp:POR σ p p') (hs:SR σ s tmps)
 (hr:HR P σ h w) (he:Ext ρ0 w0 σ w) (hD:z8 σ w Ds) (hds: ∀D∈Ds,w0.heap.size≤D):
 LeavesInM Fence.wide 0 P fn tmps (zdJ P ρ0 w0 o2) ({target:=.fn (.func g) cap,args:=first++args'}::Ds.map zl) (zcE p') w:=by
 subst hf'
 obtain⟨h1,h2⟩:=hih _ _ ho σ _ args' p' w rf ra rp hr
 refine⟨zfS p',.inr ⟨fun h=>by simp[Fence.wide] at h,.func g,cap,g,first++args'++cap,rfl,?_,fun _ _=>trivial,?_⟩⟩
 ·simp only[invoke];exact h2 w
 ·refine CallsDIn.mono h1 ?_
  rintro e u' w' ⟨⟨v,h3,v',τ,rfl,rfl,q1,q2,q3⟩,rfl⟩
  show LeavesInM _ _ _ _ _ _ _ (settle (zbe p')) w'
  rw[zfu]
  exact zbU hrs hk (hs.mono q3.le) Ds w' (hD.ext q3) hds q2 (he.trans q3)
theorem done_post {ih:IH} {M:Nat} (hih: ∀t o,ih t=some o→zbR P M t o) {fn:Func} {rs:List CR} (hrs:allO (zy P) fn.results.toList=some rs) {f f':Value} {args:List Value} {args':Array Value} {g:FuncId} {first cap:Array Value} (hf':f'=.func (.func g) first cap)
 {N:Nat} {o o2:Out} {ρ0 ρ:Rho} {w0 w:World} {Ds:List Nat} (hdone:doneK ih f args rs o=some o2) (rf:VR ρ f f') (ra:VRL ρ args args'.toList) (he:Ext ρ0 w0 ρ w) (hD:z8 ρ w Ds) (hds: ∀D∈Ds,w0.heap.size≤D) {e:Exit} {a1:Act} {w1:World}
 (hp:zbQ P ρ w N [] ({target:=.fn (.func g) cap,args:=first++args'}::Ds.map zl) o e a1 w1):
 bodyPostM Fence.wide 0 P fn (zdJ P ρ0 w0 o2) e a1 w1:=by
 obtain⟨σ,D1,s1,h1,e1,hN,hd,hD1,hds1,hs1,hr1,hcase⟩:=hp.nil_ge
 have hall:z8 σ w1 (D1++Ds):=by
  have h2:=hD.ext e1
  refine⟨List.nodup_append.2 ⟨hD1.nodup,h2.nodup,fun x hx y hy e=> ?_⟩,fun D hm=> ?_⟩
  ·subst e
   have:=hds1 x hx
   have:=(hD.ok x hy).1
   omega
  ·rcases List.mem_append.1 hm with hm|hm
   ·exact hD1.ok D hm
   ·exact h2.ok D hm
 have hds1': ∀D∈D1,w0.heap.size≤D:=fun D h=>Nat.le_trans he.size (hds1 D h)
 have key: ∀(p p':Option Value),POR σ p p'→(∃o1,ih (.hand f args p h1)=some o1∧resK1 rs s1 o1=some o2)→LeavesInM Fence.wide 0 P fn a1.tmps (zdJ P ρ0 w0 o2) a1.defers (zcE p') w1:=by
  rintro p p' rp ⟨o1,q1,q2⟩
  rw[hd]
  refine zc2 (zfS p') D1 w1 hall hds1' hr1 (he.trans e1) (fun w2 k1 k2 k3=> ?_)
  exact leaves_hand hih hrs hf' q1 q2 (rf.mono e1.le) (ra.mono e1.le) rp hs1 k2 k3 k1 hds
 rcases hcase with⟨rfl,rfl⟩| ⟨i,rfl,rfl⟩| ⟨rfl,rfl⟩| ⟨v,v',rfl,hv,rfl⟩
 ·obtain⟨o1,q1,q2⟩:=aof hdone
  exact key none none trivial ⟨o1,q1,q2⟩
 ·cases hdone
 ·obtain⟨o1,q1,q2⟩:=aof hdone
  exact key none none trivial ⟨o1,q1,q2⟩
 ·obtain⟨o1,q1,q2⟩:=aof hdone
  exact key (some v) (some v') hv ⟨o1,q1,q2⟩
theorem dfr_wp {ih:IH} {M:Nat} (hih: ∀t o,ih t=some o→zbR P M t o) (hdec: ∀c s h o,ih (.code c s h)=some o→zH c ih s h=some o) {fn:Func} {rs:List CR} (hrs:allO (zy P) fn.results.toList=some rs) {ρ0:Rho} {w0:World} {o2:Out} {N:Nat}:
 ∀(code:Code) (c:CC) (d:Dfr),zF P N code=some (zj c,some (stripD d))→ ∀(s:zc) (h:H) (o:Out),ih (.code c s h)=some o→dfrK ih d rs o=some o2→ ∀(ρ:Rho) (a:Act) (w:World) (Ds:List Nat),a.tmps.size=N→SR ρ s a.tmps→HR P ρ h w→a.defers=Ds.map zl→z8 ρ w Ds→(∀D∈Ds,w0.heap.size≤D)→Ext ρ0 w0 ρ w→
  code.wpIn Fence.wide 0 P (bodyPostM Fence.wide 0 P fn (zdJ P ρ0 w0 o2)) a w
 |.seq x y,c,d,hc,s,h,o,ho,hK,ρ,a,w,Ds,hN,hs,hr,hd,hD,hds,hE=>by
  have plain:((ze P N x).bind fun a=>(zF P N y).map (seqD a))=some (zj c,some (stripD d))→(Code.seq x y).wpIn Fence.wide 0 P (bodyPostM Fence.wide 0 P fn (zdJ P ρ0 w0 o2)) a w:=by
   intro hc
   obtain⟨ca,ha,hc⟩:=aof hc
   obtain⟨⟨cb,d'⟩,hb,e⟩:=amf hc
   simp only[seqD,Prod.mk.injEq] at e
   obtain⟨e1,rfl⟩:=e
   obtain⟨ca',L,cb',rfl,rfl,rfl⟩:=zeE e1
   obtain⟨o1,h1,h2⟩:=aof (show(ih (.code ca' s h)).bind (thenK ih L cb')=some o from hdec _ _ _ _ ho)
   refine wpIn_seq (wpIn_mono ((hih _ _ h1 x N ha none ρ a w Ds [] (by intro l hl;cases hl) hN hs hr (by rw[hd,List.append_nil]) hD).wpIn) ?_)
   rintro e a1 w1 ⟨σ,D1,s1,hh1,he,hN1,hd1,⟨hD1,hds1⟩,hs1,hr1,hcase⟩
   rw[List.append_nil] at hd1
   have hdsN: ∀D∈D1,w0.heap.size≤D:=fun D hm=>(hds1 D hm).elim (hds D) (fun h=>Nat.le_trans hE.size h)
   rcases hcase with⟨rfl,rfl⟩| ⟨i,rfl,rfl⟩| ⟨rfl,rfl⟩| ⟨v,v',rfl,hv,rfl⟩
   ·exact dfr_wp hih hdec hrs y cb' d hb (zb7 L s1) hh1 o h2 hK σ a1 w1 D1 hN1 (hs1.keep L) hr1 hd1 hD1 hdsN (hE.trans he)
   ·cases h2;cases hK
   ·cases h2;cases hK
   ·cases h2
    cases hK
    show LeavesInM _ _ _ _ _ _ a1.defers _ _
    rw[hd1]
    exact zbT hv D1 w1 hD1 hdsN hr1 (hE.trans he)
  cases x with
  |region id ops dr=>
   cases dr with
   |true=>exact plain hc
   |false=>
    unfold zF at hc
    split at hc
    ·exact plain hc
    ·rename_i pre cl post hdi
     obtain⟨od,hl,hod,hg,hdst⟩:=zed hdi
     split at hc
     ·rename_i fo hfo
      obtain⟨f,hf,hc⟩:=aof hc
      obtain⟨as,has,hc⟩:=aof hc
      obtain⟨preC,hpre,hc⟩:=aof hc
      obtain⟨postC,hpost,hc⟩:=aof hc
      obtain⟨bC,hb,e⟩:=amf hc
      simp only[Prod.mk.injEq,Option.some.injEq] at e
      obtain⟨e1,e2⟩:=e
      obtain rfl:=zeF e1
      obtain⟨df,da,dL,dr⟩:=d
      simp only[stripD,Dfr.mk.injEq] at e2
      obtain⟨rfl,rfl,-,e3⟩:=e2
      obtain⟨pC,L',bC',rfl,e4,rfl⟩:=zeE e3
      obtain rfl:=zeF e4
      have hrun:zbz ih preC s h=some o:=hdec _ _ _ _ ho
      have hlen:ops.size=pre.length+1+post.length:=by rw[←Array.length_toList,hl];simp;omega
      have hrange:List.range ops.size=List.range' 0 pre.length++(pre.length::List.range' (pre.length+1) post.length):=by
       have e1:= @List.range'_append_1 0 pre.length (post.length+1)
       rw[Nat.zero_add,List.range'_succ] at e1
       rw[List.range_eq_range',hlen,show pre.length+1+post.length=pre.length+(post.length+1) by omega,←e1]
      refine wpIn_seq (wpIn_region ?_)
      rw[hrange]
      have hIn: ∀D∈Ds,w0.heap.size≤D:=hds
      refine zeU (ops:=ops) hih none (w0:=w) (ρ0:=ρ) (Ds:=Ds) (Db:=[]) (out:=o) ?_ ?_ pre.length 0 preC ρ s h a w (by omega) (by rw[List.drop_zero,hl,List.take_left];exact hpre) hrun hr hs hN (by rw[hd,List.append_nil]) hD (.refl _ _)
      ·intro sF hF σ a1 w1 eo q1 q2 q3 q4 q5 q6
       subst eo
       rw[List.append_nil] at q4
       obtain⟨fv,hfv,hK⟩:=aof hK
       obtain⟨fv',hfn,hK⟩:=aof hK
       obtain⟨av,hav,hK⟩:=aof hK
       obtain⟨o3,ho3,hdone⟩:=aof hK
       obtain⟨rfl,g,first,cap,rfl⟩:=isFn_eq hfn
       have rf:=zA hf q1 hfv
       have ra:=zew q1 has hav
       obtain⟨first',cap',hfe⟩: ∃x y,a1.eval fo=.func (.func g) x y:=by
        generalize a1.eval fo=y at rf;cases rf;exact⟨_,_,rfl⟩
       have hget:ops[pre.length]? =some od:=by rw[←Array.getElem?_toList,hl];simp
       have hwant:Region.wanted od (yielded ops a1.tmps)=true:=by simp[Region.wanted,hg]
       simp only[wpOpsIn,hget,hwant,if_true]
       refine⟨fun f _=>trivial,?_⟩
       have hsem:(od.semAt (Wf none).round a1.eval).run P w1=.ok (.defer {target:=.fn (.func g) cap',args:=first'++cl.args.map a1.eval}) w1:=by
        show(od.semAt none a1.eval).run P w1=_
        rw[Oper.semAt_none]
        simp only[execOp,hod,resolve,hfo,hfe,Deferred.ofValue,Sem.run_bind,Sem.run_pure,Result.andThen_ok]
       rw[hsem,Oper.uponIn_defer]
       have hput:({a1 with defers:=({target:=.fn (.func g) cap',args:=first'++cl.args.map a1.eval}:Deferred)::a1.defers}:Act).put od.dst undef={a1 with defers:=({target:=.fn (.func g) cap',args:=first'++cl.args.map a1.eval}:Deferred)::Ds.map zl}:=by
        rw[hdst,q4];rfl
       rw[hput]
       rw[hfe] at rf
       have hE1:Ext ρ0 w0 σ w1:=hE.trans q6
       obtain⟨o4,h4,h5⟩:=aof (show(ih (.code (.ops postC) (zb7 dL sF) hF)).bind (thenK ih L' bC')=some o3 from hdec _ _ _ _ ho3)
       have hrun4:zbz ih postC (zb7 dL sF) hF=some o4:=hdec _ _ _ _ h4
       have hpost':=zeU (ops:=ops) (Q:=Exit.then (y.wpIn Fence.wide 0 P (bodyPostM Fence.wide 0 P fn (zdJ P ρ0 w0 o2))) (bodyPostM Fence.wide 0 P fn (zdJ P ρ0 w0 o2))) (rest:=[]) hih none (w0:=w1) (ρ0:=σ) (Ds:=[]) (Db:=({target:=.fn (.func g) cap',args:=first'++cl.args.map a1.eval}:Deferred)::Ds.map zl) (out:=o4)
        (fun sG hG τ a2 w2 eo k1 k2 k3 k4 k5 k6=>by
          subst eo
          show y.wpIn _ _ _ _ a2 w2
          refine wpIn_mono ((hih _ _ h5 y N hb none τ a2 w2 [] _ (by intro l hl;cases hl) k3 (k1.keep L') k2 k4 k5).wpIn) (fun e a3 w3 hp=> ?_)
          exact done_post hih hrs rfl hdone (rf.mono k6.le) (ra.mono k6.le) (hE1.trans k6) ((q5).ext k6) hIn hp)
        (fun v sG hG v' τ a2 w2 eo k0 k1 k2 k3 k4 k5 k6=>by
          subst eo
          cases h5
          exact done_post (o:=.pan v sG hG) hih hrs rfl hdone (rf.mono k6.le) (ra.mono k6.le) (hE1.trans k6) ((q5).ext k6) hIn ⟨τ,[],sG,hG,.refl _ _,k3,k4,⟨k5,fun D h=>by cases h⟩,k1,k2,.inr (.inr (.inr ⟨v,v',rfl,k0,rfl⟩))⟩)
        post.length (pre.length+1) postC σ (zb7 dL sF) hF {a1 with defers:=({target:=.fn (.func g) cap',args:=first'++cl.args.map a1.eval}:Deferred)::Ds.map zl} w1 (by omega)
        (by rw[hl,show pre++od::post=(pre++[od])++post by simp,show pre.length+1=(pre++[od]).length by simp,List.drop_left,List.take_length];exact hpost) hrun4 q2 (q1.keep dL) q3 rfl ⟨List.nodup_nil,by simp⟩ (.refl _ _)
       rw[List.append_nil] at hpost'
       exact hpost'
      ·intro v sF hF v' σ a1 w1 eo q0 q1 q2 q3 q4 q5 q6
       subst eo
       cases hK
       show LeavesInM _ _ _ _ _ _ a1.defers _ _
       rw[q4,List.append_nil]
       exact zbT q0 Ds w1 q5 hds q2 (hE.trans q6)
     ·cases hc
  |_=>exact plain hc
 |.skip,c,d,hc,s,h,o,ho,hK,ρ,a,w,Ds,hN,hs,hr,hd,hD,hds,hE=>by obtain⟨x,hx,e⟩:=amf hc;cases e
 |.region _ _ _,c,d,hc,s,h,o,ho,hK,ρ,a,w,Ds,hN,hs,hr,hd,hD,hds,hE=>by obtain⟨x,hx,e⟩:=amf hc;cases e
 |.cond _ _ _,c,d,hc,s,h,o,ho,hK,ρ,a,w,Ds,hN,hs,hr,hd,hD,hds,hE=>by obtain⟨x,hx,e⟩:=amf hc;cases e
 |.block _ _,c,d,hc,s,h,o,ho,hK,ρ,a,w,Ds,hN,hs,hr,hd,hD,hds,hE=>by obtain⟨x,hx,e⟩:=amf hc;cases e
 |.loop _,c,d,hc,s,h,o,ho,hK,ρ,a,w,Ds,hN,hs,hr,hd,hD,hds,hE=>by obtain⟨x,hx,e⟩:=amf hc;cases e
 |.rangeFunc _ _ _ _,c,d,hc,s,h,o,ho,hK,ρ,a,w,Ds,hN,hs,hr,hd,hD,hds,hE=>by obtain⟨x,hx,e⟩:=amf hc;cases e
 |.exit _,c,d,hc,s,h,o,ho,hK,ρ,a,w,Ds,hN,hs,hr,hd,hD,hds,hE=>by obtain⟨x,hx,e⟩:=amf hc;cases e
 |.ret,c,d,hc,s,h,o,ho,hK,ρ,a,w,Ds,hN,hs,hr,hd,hD,hds,hE=>by obtain⟨x,hx,e⟩:=amf hc;cases e
 |.label _,c,d,hc,s,h,o,ho,hK,ρ,a,w,Ds,hN,hs,hr,hd,hD,hds,hE=>by obtain⟨x,hx,e⟩:=amf hc;cases e
 |.scope _,c,d,hc,s,h,o,ho,hK,ρ,a,w,Ds,hN,hs,hr,hd,hD,hds,hE=>by obtain⟨x,hx,e⟩:=amf hc;cases e
 |.goto _,c,d,hc,s,h,o,ho,hK,ρ,a,w,Ds,hN,hs,hr,hd,hD,hds,hE=>by obtain⟨x,hx,e⟩:=amf hc;cases e
 |.refuse _,c,d,hc,s,h,o,ho,hK,ρ,a,w,Ds,hN,hs,hr,hd,hD,hds,hE=>by obtain⟨x,hx,e⟩:=amf hc;cases e
theorem zfY {ih:IH} {M:Nat} (hih: ∀t o,ih t=some o→zbR P M t o) (hdec: ∀c s h o,ih (.code c s h)=some o→zH c ih s h=some o) {g:FuncId} {fn:Func} {cf:zd} (hfn:P.funcs[g]? =some fn) (hcf:za P fn=some (zb cf)) {args:List Value} {h:H} {o:Out} (hv:z9 ih cf args h=some o)
 {ρ:Rho} {args':Array Value} {w:World} (ra:VRL ρ args args'.toList) (hr:HR P ρ h w):CallsIn Fence.wide 0 P g args' w (zdJ P ρ w o)∧ ∀w,(callFunc g args').run P w=.ok (.enter g args') w:=by
 obtain⟨hname,c,hbody,hcc,hrs,hnt,hnp⟩:=zN hcf
 unfold z9 at hv
 split at hv
 ·rename_i hle
  have hle':args'.size≤fn.ntmps:=by
   have:=Nat.le_of_ble_eq_true hle
   rw[hnt,ra.1] at this;simpa using this
  obtain⟨o1,ho1,hret⟩:=aof hv
  refine⟨?_,fun w=> ?_⟩
  ·refine callsIn_of_wp_marks hfn hbody trivial ?_
   have hsz:(args'++Array.replicate (fn.ntmps - args'.size) undef).size=fn.ntmps:=by simp;omega
   cases hdf:cf.dfr with
   |none=>
    rw[hdf] at hcc hret
    have hret:retK cf.results o1=some o:=hret
    have hcode:=(hih _ _ ho1 c fn.ntmps (zby hcc) none ρ {tmps:=args'++Array.replicate (fn.ntmps - args'.size) undef,defers:=[]} w [] [] (by intro l hl;cases hl) hsz (args_SR ra _) hr rfl ⟨List.nodup_nil,by simp⟩).wpIn
    refine wpIn_mono hcode ?_
    intro e a1 w1 hp
    obtain⟨σ,Ds,s1,h1,he,hN,hd,hD,hds,hs1,hr1,hcase⟩:=hp.nil_ge
    rw[List.append_nil] at hd
    rcases hcase with⟨rfl,rfl⟩| ⟨i,rfl,rfl⟩| ⟨rfl,rfl⟩| ⟨v,v',rfl,hvv,rfl⟩
    ·show LeavesInM _ _ _ _ _ _ a1.defers _ _
     rw[hd];exact zbU hrs hret hs1 Ds w1 hD hds hr1 he
    ·cases hret
    ·show LeavesInM _ _ _ _ _ _ a1.defers _ _
     rw[hd];exact zbU hrs hret hs1 Ds w1 hD hds hr1 he
    ·cases hret
     show LeavesInM _ _ _ _ _ _ a1.defers _ _
     rw[hd];exact zbT hvv Ds w1 hD hds hr1 he
   |some d=>
    rw[hdf] at hcc hret
    exact dfr_wp hih hdec hrs c cf.body d hcc _ _ _ ho1 hret ρ _ w [] hsz (args_SR ra _) hr rfl ⟨List.nodup_nil,by simp⟩ (by simp) (.refl _ _)
  ·have hne: ¬fn.name= "runtime.NumGoroutine" :=by simpa using hname
   simp[callFunc,hfn,hne,hbody]
 ·cases hv
theorem round_sound {ih:IH} {M:Nat} (hih: ∀t o,ih t=some o→zbR P M t o) {l:Nat} {args:List Value} {h:H} {o:Out} {lo:IObj} (hlo:h.get l=some lo) (hv:runRound ih l args h lo=some o)
 {ρ:Rho} {R:RB} {args':Array Value} {w:World} (hi:ρ l=some R) (ra:VRL ρ args args'.toList) (hr:HR P ρ h w):
 ∃fn tmps assign body,(Instr.yield R.blk args').run P w=.ok (.round R.blk fn tmps assign body) w∧RoundIn Fence.wide 0 P R.blk fn tmps assign body w (zen P ρ w o):=by
 cases lo with
 |loop st pend sl rc=>
  obtain⟨s0,hs0,hv1⟩:=aof hv
  obtain⟨o1,ho1,hv2⟩:=aof hv1
  clear hv hv1
  obtain⟨lp,p0,p1,p2,p3,p4,p5,p6,p7⟩:=zdy hr hi hlo
  rw[p4] at hs0
  obtain⟨q1,q2,q3⟩:=zeI lp.params.toList args args'.toList (zb7 rc.L sl) s0 lp.tmps hs0 ra (p3.keep _) p5
  have hsz:args'.size=lp.params.size:=by rw[←Array.length_toList,←ra.1,q1,Array.length_toList]
  have hfold:(lp.params.zip args').foldl (fun tmps (x:Tmp×Value)=>tmps.setIfInBounds x.1 x.2) lp.tmps=(lp.params.toList.zip args'.toList).foldl (fun tmps (x:Tmp×Value)=>tmps.setIfInBounds x.1 x.2) lp.tmps:=by
   rw[←Array.foldl_toList,Array.toList_zip]
  refine⟨lp.fn,_,lp.assign,lp.body,run_yield p0 hsz,?_⟩
  have hR:zcv (some R.blk) w:=by intro l hl;cases hl;exact⟨lp,p0⟩
  refine roundIn_of_wpIn trivial ?_
  have hassign:=(hih _ _ ho1 lp.assign lp.tmps.size p6 (some R.blk) ρ {tmps:=(lp.params.zip args').foldl (fun tmps (x:Tmp×Value)=>tmps.setIfInBounds x.1 x.2) lp.tmps,defers:=[]} w [] [] hR (by dsimp only;rw[hfold];exact q3) (by dsimp only;rw[hfold];exact q2) hr rfl ⟨List.nodup_nil,by simp⟩).wpIn
  refine wpIn_mono hassign ?_
  intro e a1 w1 hp
  obtain⟨σ,Ds,s1,h1,he,hN,hd,hD,hds,hs1,hr1,hcase⟩:=hp.nil_ge
  rcases hcase with⟨rfl,rfl⟩| ⟨i,rfl,rfl⟩| ⟨rfl,rfl⟩| ⟨v,v',rfl,hvv,rfl⟩
  ·obtain⟨lo1,hlo1,hv3⟩:=aof hv2
   cases lo1 with
   |loop st1 pend1 sl1 rc1=>
    cases st1<;>simp only[zdt,reduceCtorEq] at hv3
    obtain⟨o2,ho2,hfin⟩:=aof hv3
    have hi1:σ l=some R:=he.le _ _ hi
    obtain⟨lp1,r0,r1,r2,r3,r4,r5,r6,r7⟩:=zdy hr1 hi1 hlo1
    obtain⟨g1,g2⟩:=loop_put hr1 hi1 hlo1 r0 (lp':={lp1 with state:=.busy}) (st':=.busy) (pend':=pend1) rfl r2 rfl rfl rfl rfl rfl
    refine⟨_,run_beginRound r0 r1,?_⟩
    have hRb:zcv (some R.blk) (w1.putObj R.blk (.loop {lp1 with state:=.busy})):=by
     intro l hl;cases hl;exact⟨_,World.putObj_heap_same (Array.getElem?_eq_some_iff.1 r0).1⟩
    have hbody:=(hih _ _ ho2 lp.body lp.tmps.size p7 (some R.blk) σ a1 _ Ds [] hRb hN hs1 g1 hd (hD.ext g2)).wpIn
    refine wpIn_mono hbody ?_
    intro e a2 w2 hp2
    obtain⟨τ,Ds2,s2,h2,he2,hN2,hd2,hD2,hs2,hr2,hcase2⟩:=hp2
    have hi2:τ l=some R:=he2.le _ _ hi1
    have fin: ∀(p:Option CC) (jump:Option Code) (lo2:IObj),PendR p jump→h2.get l=some lo2→finObj l p h2 lo2=some o→ ∃v w',(Instr.endRound R.blk jump).run P w2=.ok v w'∧zen P ρ w o (.returned v) w':=by
     intro p jump lo2 hp hlo2 hfin
     cases lo2 with
     |loop st2 pend2 sl2 rc2=>
      cases hfin
      obtain⟨lp2,t0,t1,t2,t3,t4⟩:=zdy hr2 hi2 hlo2
      have hnone:jump.isNone=p.isNone:=by
       cases p with
       |none=>cases jump with
        |none=>rfl
        |some c=>exact hp.elim
       |some c=>cases jump with
        |none=>cases c<;>exact hp.elim
        |some c'=>rfl
      obtain⟨k1,k2⟩:=loop_put hr2 hi2 hlo2 t0 (lp':={lp2 with state:=if jump.isNone then .ready else .done,pending:=jump}) (st':=stOf p) (pend':=p) (by dsimp only;rw[hnone];cases p<;>rfl) hp rfl rfl rfl rfl rfl
      refine⟨_,_,run_endRound jump t0,_,_,_,τ,rfl,rfl,?_,k1,((he.trans g2).trans he2).trans k2⟩
      rw[hnone];exact .bool _
     |cells _ _=>cases hfin
     |map _ _=>cases hfin
     |dead=>cases hfin
     |glob _ _=>cases hfin
    rcases hcase2 with⟨rfl,rfl⟩| ⟨i,rfl,rfl⟩| ⟨rfl,rfl⟩| ⟨v,v',rfl,hvv,rfl⟩
    ·obtain⟨lo2,hlo2,hfo⟩:=aof hfin
     exact fin none none lo2 trivial hlo2 hfo
    ·obtain⟨lo2,hlo2,hfo⟩:=aof hfin
     rcases zcX i with⟨j,rfl⟩| ⟨l,rfl⟩
     ·rw[zbg];exact fin (some (.exit (2*j))) (some (.exit j)) lo2 (coOf_even j).symm hlo2 hfo
     ·rw[zbv];exact fin (some (.exit (zV l))) (some (.goto l)) lo2 (coOf_goto l).symm hlo2 hfo
    ·obtain⟨lo2,hlo2,hfo⟩:=aof hfin
     exact fin (some .ret) (some .ret) lo2 trivial hlo2 hfo
    ·cases hfin
   |cells _ _=>cases hv3
   |map _ _=>cases hv3
   |dead=>cases hv3
   |glob _ _=>cases hv3
  ·cases hv2
  ·cases hv2
  ·cases hv2
 |cells _ _=>cases hv
 |map _ _=>cases hv
 |dead=>cases hv
 |glob _ _=>cases hv
theorem VRL.of_func {ρ:Rho} {f:FuncId} {x y x' y':Array Value} (h:VR ρ (.func (.func f) x y) (.func (.func f) x' y')):VRL ρ x.toList x'.toList∧VRL ρ y.toList y'.toList:=by
 cases h with
 |func _ ha hb ra rb=>exact⟨⟨by simpa using ha,fun j a b h1 h2=>ra j a b (by simpa using h1) (by simpa using h2)⟩,⟨by simpa using hb,fun j a b h1 h2=>rb j a b (by simpa using h1) (by simpa using h2)⟩⟩
theorem zeB {F:Fence} {n:Nat} {c:Code} {Q:Exit→Act→List Frame→World→Prop} {a:Act} {cs:List Frame} {w:World} (h:c.wpSIn F n P Q a cs w) (hq: ∀l a cs w,¬Q (.goto l) a cs w):(Code.scope c).wpSIn F n P Q a cs w:=by
 intro b k hk hro hb hr
 have h0:(lone (b.atR a (.code (.scope c)::k)) cs w).fenced P F:=fenced_calm hb hr rfl
 have s0:step P (lone (b.atR a (.code (.scope c)::k)) cs w)=.next (lone (b.atR a (.code c:: .inScope c::k)) cs w):=step_lone_go (by simp[stepG,stepG.exec,Frame.atR])
 obtain⟨e,a₁,cs₁,w₁,hl,hQ,harr⟩:=h b (.inScope c::k) hk hro hb hr
 cases e with
 |normal=>
  have s1:step P (lone (b.atR a₁ (.inScope c::k)) cs₁ w₁)=.next (lone (b.atR a₁ k) cs₁ w₁):=step_lone_go (by simp[stepG,stepG.exec,Frame.atR])
  exact⟨.normal,a₁,cs₁,w₁,hl,hQ,.head h0 s0 (StepsIn.trans harr (.one (fenced_calm hb (hl▸hr) rfl) s1))⟩
 |exit id=>
  have hx:exitTo id (.inScope c::k)=exitTo id k:=by simp[exitTo]
  exact⟨.exit id,a₁,cs₁,w₁,hl,hQ,fun k' hk=>.head h0 s0 (harr.1 k' (by rw[hx];exact hk)),fun hr' hk=>let⟨k₁,h1,h2⟩:=harr.2 hr' (by rw[hx];exact hk);⟨k₁,h1,.head h0 s0 h2⟩⟩
 |goto l=>exact absurd hQ (hq l _ _ _)
 |ret=>exact⟨_,a₁,cs₁,w₁,hl,hQ,.of_steps (.one h0 s0) harr⟩
 |panic ch=>exact⟨_,a₁,cs₁,w₁,hl,hQ,.of_steps (.one h0 s0) harr⟩
 |outgrown=>exact⟨_,a₁,cs₁,w₁,hl,hQ,.of_steps (.one h0 s0) harr⟩
def Takes (P:Program) (Q:World→Prop):List Deferred→World→Prop
 | [],w=>Q w
 |d::ds,w=> ∃r w',d.target=.collected r∧(Instr.takeDeferred r).run P w=.ok [] w'∧Takes P Q ds w'
theorem zda {F:Fence} {n:Nat} {Q:World→Prop}: ∀(ds:List Deferred) (w:World) (fr:Frame) (cs:List Frame),fr.mode=.returning→fr.defers=ds→F.fn fr.fn→F.room (cs.length+1+n)→Takes P Q ds w→
 ∃w',Q w'∧StepsIn (Machine.fenced P F) P (lone fr cs w) (lone {fr with defers:=[]} cs w')
 | [],w,fr,cs,hm,hd,hb,hr,h=>⟨w,h,by
     have:({fr with defers:=[]}:Frame)=fr:=by cases fr;cases hd;rfl
     rw[this];exact StepsIn.refl _⟩
 |d::ds,w,fr,cs,hm,hd,hb,hr,h=>by
  obtain⟨r,w',ht,hk,hrest⟩:=h
  have h1:=step_collected (cs:=cs) (by rw[hm];simp) hd ht hk
  have i1:(lone fr cs w).fenced P F:=fenced_out hb hr (by rw[hm];simp) hd (fun g hg=>by rw[ht] at hg;simp[Target.leads] at hg)
  obtain⟨w2,q1,q2⟩:=zda ds w' {fr with defers:=[]++ds} cs hm rfl hb hr hrest
  exact⟨w2,q1,.head i1 h1 q2⟩
def handPost (P:Program) (fn:Func) (c₀:Frame) (cs:List Frame) (R:Ending→FrameMode→World→Prop) (e:Exit) (a:Act) (cs':List Frame) (w:World):Prop:=
 (e=.normal∨e=.ret)∧ ∃u',cs'={c₀ with mode:=u'}::cs∧Takes P (fun w=> ∃v,(results fn a.tmps).run P w=.ok v w∧R (.returned v) u' w) a.defers w
theorem zfC {F:Fence} {n:Nat} {f:FuncId} {fn:Func} {c:Code} {args:Array Value} {u:FrameMode} {w:World} {R:Ending→FrameMode→World→Prop}
 (hf:P.funcs[f]? =some fn) (hb:fn.body=some c) (hF:F.fn f)
 (h: ∀(c₀:Frame) (cs:List Frame),c₀.mode=u→
   c.wpSIn F n P (handPost P fn c₀ cs R) {tmps:=args++Array.replicate (fn.ntmps - args.size) undef,defers:=[]} (c₀::cs) w):
 CallsDIn F n P f args u w R:=by
 refine⟨hF,fun c₀ cs hu hroom=> ?_⟩
 let b:Frame:={(default:Frame) with fn:=f,kind:=.deferred,roundOf:=none}
 have henter:Frame.enter P f args .deferred=
  b.atR {tmps:=args++Array.replicate (fn.ntmps - args.size) undef,defers:=[]} [.code c]:=by
  simp[Frame.enter,Frame.atR,hf,hb,b]
 obtain⟨e,a',cs',w',hl,⟨he,u',rfl,ht⟩,harr⟩:=h c₀ cs hu b [] rfl rfl hF hroom
 rw[←henter] at harr
 rcases he with rfl|rfl
 ·obtain⟨w2,⟨v,hr,hR⟩,hs2⟩:=zda (F:=F) (n:=n) a'.defers w' {b.atR a' [] with mode:=.returning} ({c₀ with mode:=u'}::cs) rfl rfl hF hroom ht
  exact⟨.returned v,u',w2,_,hR,StepsIn.trans (StepsIn.trans harr (.one (fenced_calm (fr:=b.atR a' []) hF hroom rfl) (stepR_end rfl))) hs2,rfl,rfl,rfl,rfl,fn,hf,hr⟩
 ·obtain⟨todo,hs⟩:=harr.1 rfl
  obtain⟨w2,⟨v,hr,hR⟩,hs2⟩:=zda (F:=F) (n:=n) a'.defers w' {b.atR a' todo with mode:=.returning} ({c₀ with mode:=u'}::cs) rfl rfl hF hroom ht
  exact⟨.returned v,u',w2,_,hR,StepsIn.trans hs hs2,rfl,rfl,rfl,rfl,fn,hf,hr⟩
def RecR (σ:Rho) (p0:Option Value) (p:Option Value) (u:FrameMode):Prop:=
 (p=none∧u=zbe p0)∨ ∃v v',p=some v∧p0=some v'∧VR σ v v'∧u=zcE p0
theorem RecR.mono {ρ σ:Rho} (hl:zdH ρ σ) {p0 p:Option Value} {u:FrameMode} (h:RecR ρ p0 p u):RecR σ p0 p u:=by
 rcases h with h| ⟨v,v',h1,h2,h3,h4⟩
 ·exact .inl h
 ·exact .inr ⟨v,v',h1,h2,h3.mono hl,h4⟩
theorem zfz {o:Oper} (hop:zD P o=some .recov): ∃cl:Call,o.op=.call cl∧cl.callee=.builtin .recover:=by
 cases e:o.op<;>simp only[zD,e,reduceCtorEq] at hop
 case call cl=>
  refine⟨cl,rfl,?_⟩
  split at hop
  ·obtain⟨f',h1,hop⟩:=aof hop;obtain⟨as',h2,e2⟩:=amf hop;cases e2
  ·rename_i b hb
   split at hop
   ·rename_i hrec
    cases b<;>simp[isRecover] at hrec
    exact hb
   ·obtain⟨cb,h1,hop⟩:=aof hop;obtain⟨as',h2,e2⟩:=amf hop;cases e2
  ·obtain⟨f',h1,hop⟩:=aof hop;obtain⟨as',h2,e2⟩:=amf hop;cases e2
 case convert sr d x0=>
  obtain⟨x1,-,hop⟩:=aof hop;obtain⟨u1,-,hop⟩:=aof hop;obtain⟨u2,-,hop⟩:=aof hop
  cases u1<;>cases u2<;>first| (cases hop;done)| (obtain⟨u,-,hop⟩:=aof hop;split at hop<;>cases hop)
 all_goals (exfalso;revert hop;simp only[Option.bind_eq_some_iff,Option.map_eq_some_iff,reduceCtorEq,and_false,exists_false,imp_false,not_false_eq_true])
 all_goals (intro hop;repeat' (first| (obtain⟨_,_,hop⟩:=hop)|split at hop))
 all_goals simp_all[Option.bind_eq_some_iff,Option.map_eq_some_iff]
theorem compile_recov {o:Oper} (hop:z6 P o=some .recov): ∃cl:Call,o.op=.call cl∧cl.callee=.builtin .recover:=by
 rcases(zP hop).2 with h|h
 ·exact zfz h
 ·cases h
theorem ze4 (p:Option Value) (s:zc) (h:H):zbn [] p s h=some (p,s,h):=rfl
theorem zea (o:CI) (l:List CI) (p:Option Value) (s:zc) (h:H):zbn (o::l) p s h=(zbj o.guard s).bind fun b=>match b with
 |true=>ze5 o (zbn l) p s h
 |false=>zbn l p (zbI o.dst zU s) h:=rfl
theorem zdA {N:Nat} {ops:Array Oper} {p0:Option Value} {c₀:Frame} {cs:List Frame} {Q:Exit→Act→List Frame→World→Prop} {w0:World} {ρ0:Rho} {x:Option Value×zc×H}
 (hQ: ∀σ u1 (a1:Act) w1,RecR σ p0 x.1 u1→SR σ x.2.1 a1.tmps→HR P σ x.2.2 w1→a1.tmps.size=N→a1.defers=[]→Ext ρ0 w0 σ w1→Q .normal a1 ({c₀ with mode:=u1}::cs) w1):
 ∀(m k:Nat) (l:List CI) (ρ:Rho) (p:Option Value) (u:FrameMode) (s:zc) (h:H) (a:Act) (w:World),k+m=ops.size→allO (zi P N ops) (ops.toList.drop k)=some l→zbn l p s h=some x→
  RecR ρ p0 p u→HR P ρ h w→SR ρ s a.tmps→a.tmps.size=N→a.defers=[]→Ext ρ0 w0 ρ w→wpOpsSIn Fence.wide 0 P ops Q (List.range' k m) a ({c₀ with mode:=u}::cs) w
 |0,k,l,ρ,p,u,s,h,a,w,hk,hl,hrun,hp,hr,hs,hN,hd,hE=>by
  have:ops.toList.drop k=[]:=by apply List.drop_eq_nil_of_le;simp;omega
  rw[this] at hl;cases hl
  rw[ze4] at hrun;cases hrun
  exact hQ ρ u a w hp hs hr hN hd hE
 |m+1,k,l,ρ,p,u,s,h,a,w,hk,hl,hrun,hp,hr,hs,hN,hd,hE=>by
  have hlt:k<ops.size:=by omega
  have hdr:ops.toList.drop k=ops[k]::ops.toList.drop (k+1):=by
   rw[←List.getElem_cons_drop (by simpa using hlt)];simp
  rw[hdr] at hl
  obtain⟨c,hc,hl⟩:=aof hl
  obtain⟨l',hl',e⟩:=amf hl
  subst e
  rw[zea] at hrun
  obtain⟨b,hb,hrun⟩:=aof hrun
  obtain⟨hop,hdst,hdlt⟩:=zC hc
  have hwant:=zbu hc hs hb
  rw[List.range'_succ]
  simp only[wpOpsSIn,Array.getElem?_eq_getElem hlt,hwant]
  refine⟨fun f _=>trivial,?_⟩
  cases b with
  |true=>
   simp only[if_true]
   have hrun:ze5 c (zbn l') p s h=some x:=hrun
   by_cases hrec:c.op=.recov
   ·rw[hrec] at hop
    obtain⟨cl,hocl,hcb⟩:=compile_recov hop
    have hx:(execOp a.eval ops[k]).run P w=.ok .recover w:=by
     simp[execOp,hocl,resolve,hcb,invoke,builtin]
    rw[hx]
    dsimp only
    have hrun:zbn l' none (zbI c.dst (p.getD .nilIface) s) h=some x:=by
     unfold ze5 at hrun;rw[hrec] at hrun;exact hrun
    rcases hp with⟨rfl,rfl⟩| ⟨v,v',rfl,rfl,hv,rfl⟩
    ·have hn:recoverD ({c₀ with mode:=zbe p0}::cs)=none:=by cases p0<;>rfl
     rw[hn]
     obtain⟨p1,p2,p3⟩:=zdQ hdst hdlt hs hN (VR.nilIface (ρ:=ρ))
     exact zdA hQ m (k+1) l' ρ none _ _ _ _ _ (by omega) hl' hrun (.inl ⟨rfl,rfl⟩) hr p1 p2 (p3.trans hd) hE
    ·have hn:recoverD ({c₀ with mode:=zcE (some v')}::cs)=some (v',{c₀ with mode:=zbe (some v')}::cs):=rfl
     rw[hn]
     obtain⟨p1,p2,p3⟩:=zdQ hdst hdlt hs hN hv
     exact zdA hQ m (k+1) l' ρ none _ _ _ _ _ (by omega) hl' hrun (.inl ⟨rfl,rfl⟩) hr p1 p2 (p3.trans hd) hE
   ·have hrun:(opV c.op s h).bind (fun x=>zbn l' p (zbI c.dst x.1 s) x.2)=some x:=by
     unfold ze5 at hrun
     split at hrun
     ·rename_i e;exact absurd e hrec
     ·exact hrun
    obtain⟨⟨v,h1⟩,hv,hrest⟩:=aof hrun
    have hcl:zt c.op≠ .call:=by
     intro e
     cases hcop:c.op<;>rw[hcop] at e hv<;>first| (cases hv;done)| (simp[zt] at e;done)|exact absurd e (zeV _ _)
    obtain⟨n,v',w',σ,h1',h2,h3,h4,h5⟩:=(op_sim hop hr hs hv).sim hr hcl
    rw[h1']
    have go: ∀v0,VR σ v v0→wpOpsSIn Fence.wide 0 P ops Q (List.range' (k+1) m) (a.put ops[k].dst v0) ({c₀ with mode:=u}::cs) w':=by
     intro v0 hv0
     obtain⟨p1,p2,p3⟩:=zdQ hdst hdlt (hs.mono h5.le) hN hv0
     exact zdA hQ m (k+1) l' σ p u _ _ _ _ (by omega) hl' hrest (hp.mono h5.le) h4 p1 p2 (p3.trans hd) (hE.trans h5)
    rcases h2 with rfl| ⟨rfl,rfl⟩
    ·exact go v' h3
    ·exact go undef h3
  |false=>
   simp only[Bool.false_eq_true,if_false]
   obtain⟨p1,p2,p3⟩:=zdQ (v':=undef) hdst hdlt hs hN (VR.tuple_of (VRL.nil ρ))
   exact zdA hQ m (k+1) l' ρ p u _ _ _ _ (by omega) hl' hrun hp hr p1 p2 (p3.trans hd) hE
theorem ze3 {N:Nat} {l:List CI} {Q:Exit→Act→List Frame→World→Prop} (hq: ∀l a cs w,¬Q (.goto l) a cs w) {a:Act} {cs:List Frame} {w:World}: ∀(x:Code),ze P N x=some (.ops l)→
 (∀ops:Array Oper,allO (zi P N ops) ops.toList=some l→wpOpsSIn Fence.wide 0 P ops Q (List.range ops.size) a cs w)→x.wpSIn Fence.wide 0 P Q a cs w
 |.region id ops d,hc,h=>by
  obtain⟨l',hl,hc⟩:=aof hc
  cases d with
  |false=>cases hc;exact wpSIn_region (h ops hl)
  |true=>
   have hc:some ((if ops.toList.zipIdx.all (fun x=>(x.1.after.toList.filter (Region.binds .any)).all fun e=>Nat.blt e.on x.2) then zcd (ancs ops.toList) l' else none).getD zcC)=some (.ops l):=hc
   have hc:(if ops.toList.zipIdx.all (fun x=>(x.1.after.toList.filter (Region.binds .any)).all fun e=>Nat.blt e.on x.2) then zcd (ancs ops.toList) l' else none)=some (.ops l):=by
    generalize hd:(if ops.toList.zipIdx.all (fun x=>(x.1.after.toList.filter (Region.binds .any)).all fun e=>Nat.blt e.on x.2) then zcd (ancs ops.toList) l' else none)=dd at hc
    cases dd with
    |some x=>exact hc
    |none=>cases hc
   split at hc
   ·rcases zcs hc with⟨_,_,e,_⟩| ⟨_,_,_,_,_,_,_,e,_⟩<;>cases e
   ·cases hc
 |.scope b,hc,h=>by
  rcases zdc hc with⟨hc,_⟩|hc| ⟨_,_,_,_,_,_,hc,_⟩
  ·exact zeB (ze3 hq b hc h) hq
  ·cases hc
  ·cases hc
 |.seq _ _,hc,_=>by obtain⟨_,_,hc⟩:=aof hc;obtain⟨_,_,hc⟩:=amf hc;cases hc
 |.cond _ _ _,hc,_=>by obtain⟨_,_,hc⟩:=aof hc;obtain⟨_,_,hc⟩:=aof hc;obtain⟨_,_,hc⟩:=amf hc;cases hc
 |.block _ _,hc,_=>by obtain⟨_,_,hc⟩:=amf hc;cases hc
 |.loop _,hc,_=>by obtain⟨_,_,hc⟩:=amf hc;cases hc
 |.rangeFunc _ _ _ _,hc,_=>by
  unfold ze at hc
  split at hc
  ·obtain⟨_,_,hc⟩:=aof hc;obtain⟨_,_,hc⟩:=aof hc;obtain⟨_,_,hc⟩:=amf hc;cases hc
  ·cases hc
 |.skip,hc,_=>by cases hc
 |.exit _,hc,_=>by cases hc
 |.ret,hc,_=>by cases hc
 |.label _,hc,_=>by cases hc
 |.goto _,hc,_=>by cases hc
 |.refuse _,hc,_=>by cases hc
theorem hand_wp {ih:IH} {M:Nat} (hih: ∀t o,ih t=some o→zbR P M t o) {fn:Func} {rs:List CR} (hrs:allO (zy P) fn.results.toList=some rs) {N:Nat} {l:List CI} {L:List (List Bool)} {b:CC} {o:Out} {p p0:Option Value} {s:zc} {h:H} {x:Option Value×zc×H} (hx:zbn l p s h=some x) (hend:handEnd ih rs L b x=some o)
 {c₀:Frame} {cs:List Frame} {ρ:Rho} {a:Act} {w:World} (hN:a.tmps.size=N) (hs:SR ρ s a.tmps) (hr:HR P ρ h w) (hd:a.defers=[]) (hp:POR ρ p p0): ∀(code:Code),ze P N code=some (zj (.seq (.ops l) L b))→
   code.wpSIn Fence.wide 0 P (handPost P fn c₀ cs (fun e u w'=>zen P ρ w o e w'∧u=zbe p0)) a ({c₀ with mode:=zcE p0}::cs) w
 |.seq y z,hc=>by
  obtain⟨cy,hy,hc⟩:=aof hc
  obtain⟨cz,hz,e⟩:=amf hc
  simp only[zj,CC.seq.injEq,true_and] at e
  obtain⟨rfl,rfl⟩:=e
  have hrec:RecR ρ p0 p (zcE p0):=by
   cases p with
   |none=>cases p0 with
    |none=>exact .inl ⟨rfl,rfl⟩
    |some _=>exact hp.elim
   |some v=>cases p0 with
    |none=>exact hp.elim
    |some v'=>exact .inr ⟨v,v',rfl,rfl,hp,rfl⟩
  refine wpSIn_seq (ze3 ?_ y hy fun ops hl=> ?_)
  ·intro l a cs w h
   obtain⟨h|h,_⟩:=h<;>cases h
  ·rw[List.range_eq_range']
   refine zdA (x:=x) (ρ0:=ρ) (w0:=w) (N:=N) ?_ ops.size 0 l ρ p _ s h a w (by omega) (by simpa using hl) hx hrec hr hs hN hd (.refl _ _)
   intro σ u1 a1 w1 q1 q2 q3 q4 q5 q6
   show z.wpSIn _ _ _ _ _ _ _
   obtain⟨px,sx,hhx⟩:=x
   cases px with
   |some v=>cases hend
   |none=>
    obtain⟨o1,ho1,hret⟩:=aof (show(ih (.code b (zb7 L sx) hhx)).bind (retV rs)=some o from hend)
    rcases q1 with⟨-,rfl⟩| ⟨v,v',e,_⟩
    ·refine wpSIn_of_wpIn rfl (wpIn_mono ((hih _ _ ho1 z N hz none σ a1 w1 [] [] (by intro l hl;cases hl) q4 (q2.keep L) q3 (by rw[q5];rfl) ⟨List.nodup_nil,by simp⟩).wpIn) ?_)
     intro e a2 w2 hpost
     obtain⟨τ,Ds,s2,h2,he,hN2,hd2,hD,hds,hs2,hr2,hcase⟩:=hpost.nil_ge
     rw[List.append_nil] at hd2
     have key:zfx rs s2 h2=some o→Takes P (fun w'=> ∃v,(results fn a2.tmps).run P w'=.ok v w'∧zen P ρ w o (.returned v) w'∧zbe p0=zbe p0) a2.defers w2:=by
      intro hres
      rw[hd2]
      have main: ∀(Ds:List Nat) (w3:World),z8 τ w3 Ds→(∀D∈Ds,w.heap.size≤D)→HR P τ h2 w3→Ext ρ w τ w3→Takes P (fun w'=> ∃v,(results fn a2.tmps).run P w'=.ok v w'∧zen P ρ w o (.returned v) w'∧zbe p0=zbe p0) (Ds.map zl) w3:=by
       intro Ds
       induction Ds with
       |nil=>
        intro w3 g1 g2 g3 g4
        obtain⟨v,v',rfl,k1,k2⟩:=zeP hrs g3 hs2 hres
        exact⟨v',k1,⟨v,h2,v',τ,rfl,rfl,k2,g3,g4⟩,rfl⟩
       |cons D Ds ih=>
        intro w3 g1 g2 g3 g4
        obtain⟨k1,k2,k3⟩:=g1.ok D (by simp)
        obtain⟨j1,j2⟩:=g3.shut g4 (o:=.deferred none) (zB _) k3 (zB _) (g2 D (by simp)) k2
        exact⟨D,_,rfl,run_takeDeferred k3,ih _ (g1.tail_put _) (fun D' hD'=>g2 D' (by simp[hD'])) j1 j2⟩
      exact main Ds w2 hD (fun D hm=>Nat.le_trans q6.size (hds D hm)) hr2 (q6.trans he)
     rcases hcase with⟨rfl,rfl⟩| ⟨i,rfl,rfl⟩| ⟨rfl,rfl⟩| ⟨v,v',rfl,_,rfl⟩
     ·exact⟨.inl rfl,zbe p0,rfl,key hret⟩
     ·cases hret
     ·exact⟨.inr rfl,zbe p0,rfl,key hret⟩
     ·cases hret
    ·cases e
 |.scope c,hc=>by
  rcases zdc hc with⟨hc,_⟩|hc| ⟨_,_,_,_,_,_,hc,_⟩
  ·exact zeB (hand_wp hih hrs hx hend hN hs hr hd hp c hc) (by
    intro l a cs w h
    obtain⟨h|h,_⟩:=h<;>cases h)
  ·cases hc
  ·cases hc
 |.region id ops d,hc=>by
  obtain⟨l',hl,hc⟩:=aof hc
  cases d with
  |false=>cases hc
  |true=>
   have hc:some ((if ops.toList.zipIdx.all (fun x=>(x.1.after.toList.filter (Region.binds .any)).all fun e=>Nat.blt e.on x.2) then zcd (ancs ops.toList) l' else none).getD zcC)=some (zj (.seq (.ops l) L b)):=hc
   have hc:(if ops.toList.zipIdx.all (fun x=>(x.1.after.toList.filter (Region.binds .any)).all fun e=>Nat.blt e.on x.2) then zcd (ancs ops.toList) l' else none)=some (zj (.seq (.ops l) L b)):=by
    generalize hd:(if ops.toList.zipIdx.all (fun x=>(x.1.after.toList.filter (Region.binds .any)).all fun e=>Nat.blt e.on x.2) then zcd (ancs ops.toList) l' else none)=dd at hc
    cases dd with
    |some x=>exact hc
    |none=>cases hc
   split at hc
   ·rcases zcs hc with⟨_,_,e,_⟩| ⟨_,_,_,_,_,_,_,e,_⟩<;>cases e
   ·cases hc
 |.cond _ _ _,hc=>by obtain⟨_,_,hc⟩:=aof hc;obtain⟨_,_,hc⟩:=aof hc;obtain⟨_,_,hc⟩:=amf hc;cases hc
 |.block _ _,hc=>by obtain⟨_,_,hc⟩:=amf hc;cases hc
 |.loop _,hc=>by obtain⟨_,_,hc⟩:=amf hc;cases hc
 |.rangeFunc _ _ _ _,hc=>by
  unfold ze at hc
  split at hc
  ·obtain⟨_,_,hc⟩:=aof hc;obtain⟨_,_,hc⟩:=aof hc;obtain⟨_,_,hc⟩:=amf hc;cases hc
  ·cases hc
 |.skip,hc=>by cases hc
 |.exit _,hc=>by cases hc
 |.ret,hc=>by cases hc
 |.label _,hc=>by cases hc
 |.goto _,hc=>by cases hc
 |.refuse _,hc=>by cases hc
theorem hand_sound {ih:IH} {M:Nat} (hih: ∀t o,ih t=some o→zbR P M t o) {g:FuncId} {fn:Func} {cf:zd} (hfn:P.funcs[g]? =some fn) (hcf:za P fn=some (zb cf)) {args:List Value} {p p0:Option Value} {h:H} {o:Out} (hv:zdM ih cf args p h=some o)
 {ρ:Rho} {args':Array Value} {w:World} (ra:VRL ρ args args'.toList) (rp:POR ρ p p0) (hr:HR P ρ h w):CallsDIn Fence.wide 0 P g args' (zcE p0) w (fun e u w'=>zen P ρ w o e w'∧u=zbe p0)∧ ∀w,(callFunc g args').run P w=.ok (.enter g args') w:=by
 obtain⟨hname,c,hbody,hcc,hrs,hnt,hnp⟩:=zN hcf
 unfold zdM at hv
 rw[hnp] at hv
 cases hdf:cf.dfr with
 |some d=>rw[hdf] at hv;cases hv
 |none=>
  rw[hdf] at hv hcc
  dsimp only at hv
  split at hv
  ·rename_i hle
   have hle':args'.size≤fn.ntmps:=by
    have:=Nat.le_of_ble_eq_true hle
    rw[hnt,ra.1] at this;simpa using this
   have hcc:=zby hcc
   generalize hbd:cf.body=bd at hv hcc
   unfold zeu at hv
   split at hv
   ·rename_i l L b
    obtain⟨x,hx,hend⟩:=aof hv
    refine⟨zfC hfn hbody trivial fun c₀ cs hu=> ?_,fun w=> ?_⟩
    ·have:=hand_wp hih hrs hx hend (c₀:=c₀) (cs:=cs) (a:={tmps:=args'++Array.replicate (fn.ntmps - args'.size) undef,defers:=[]}) (N:=fn.ntmps) (w:=w) (by simp;omega) (args_SR ra _) hr rfl rp c hcc
     have e:({c₀ with mode:=zcE p0}:Frame)=c₀:=by rw[←hu]
     rw[e] at this;exact this
    ·have hne: ¬fn.name= "runtime.NumGoroutine" :=by simpa using hname
     simp[callFunc,hfn,hne,hbody]
   ·cases hv
  ·cases hv
structure Same (W W':World):Prop where
 os:W'.os=W.os
 out:W'.output=W.output
 heap: ∀B:Nat,B<W.heap.size→W'.heap[B]? =W.heap[B]?
 froz: ∀a:Addr,a.block<W.heap.size→W'.frozen? a=W.frozen? a
 td:W'.tape=W.tape∧W.drawn≤W'.drawn
 size:W.heap.size≤W'.heap.size
def primF (b:Bool):zd:=⟨0,[.tmp (bits 0)],.ops [⟨some (bits 0),.mv (.c (.bool b)),none,0⟩],none,none⟩
def primP (p:List Value→H→Option (Value×H)):zd:=⟨0,[],.exit 0,none,some p⟩
def primW (p:List Value→H→Option (Value×H)) (cf:zd):zd:={cf with prim:=some p}
def PrimOk (P:Program) (g:FuncId) (p:List Value→H→Option (Value×H)):Prop:=
 (∀args w,(callFunc g args).run P w=.ok (.enter g args) w)∧
 ∀args h v h',p args h=some (v,h')→ ∀ρ (args':Array Value) w,VRL ρ args args'.toList→HR P ρ h w→Calls P g args' w (zen P ρ w (.val v h'))
def FnOk (P:Program) (g:FuncId) (cf:zd):Prop:=
 (∃fn,P.funcs[g]? =some fn∧za P fn=some (zb cf))∨
 (∃fn cf0 b,P.funcs[g]? =some fn∧za P fn=some (zb cf0)∧cf=primF b∧ ∀w,Calls P g #[] w fun e w'=>e=.returned (.bool b)∧Same w w')∨
 (∃p,cf=primP p∧PrimOk P g p)∨
 ∃p fn cf0,cf=primW p cf0∧PrimOk P g p∧P.funcs[g]? =some fn∧za P fn=some (zb cf0)
theorem Same.HR {ρ:Rho} {h:H} {w w':World} (hs:Same w w') (hr:HR P ρ h w):HR P ρ h w' where
 obj:=fun i R o hi ho=>by
  have:=hr.obj i R o hi ho
  have hb:=hs.heap R.blk (hr.blk i R hi)
  cases o<;>simp only[OR,hb] at this⊢ <;>exact this
 nxt:=hr.nxt
 sep:=hr.sep
 glb:=hr.glb
 blk:=fun i R hi=>Nat.lt_of_lt_of_le (hr.blk i R hi) hs.size
theorem Same.ext {ρ:Rho} {w w':World} (hs:Same w w'):Ext ρ w ρ w' where
 le:=fun _ _ h=>h
 size:=hs.size
 fresh:=fun i R h=>.inl ⟨i,R,h,rfl⟩
 frame:=fun B hB _=>hs.heap B hB
 loops:=fun B r hr=>⟨r,by rw[hs.heap B (Array.getElem?_eq_some_iff.1 hr).1];exact hr,rfl⟩
 os:=hs.os
 out:=hs.out
 froz:=hs.froz
 td:=hs.td
theorem call_sound {F:FuncId→Option zd} (hF: ∀g cf,F g=some cf→FnOk P g cf) {ih:IH} (hdec: ∀c s h o,ih (.code c s h)=some o→zH c ih s h=some o) (hprim: ∀b s h o,ih (.code (primF b).body s h)=some o→o=.nrm (s.set (bits 0) (.bool b)) h) {M:Nat} (hih: ∀t o,ih t=some o→zbR P M t o) {f:Value} {args:List Value} {h:H} {o:Out} (hv:zbb F ih args h f=some o):
 zbR P (M+1) (.call f args h) o:=by
 intro ρ f' args' w rf ra hr
 unfold zbb at hv
 split at hv
 ·rename_i g first captured
  obtain⟨cf,hcf,hv⟩:=aof hv
  obtain⟨first',captured',rfl⟩: ∃x y,f'=.func (.func g) x y:=by cases rf;exact⟨_,_,rfl⟩
  obtain⟨r1,r2⟩:=VRL.of_func rf
  have rall:VRL ρ (first.toList++args++captured.toList) (first'++args'++captured').toList:=by simpa using(r1.append ra).append r2
  have pri: ∀{p:List Value→H→Option (Value×H)} {x:Value×H},PrimOk P g p→p (first.toList++args++captured.toList) h=some x→zdR h x=some o→CallsIn Fence.wide 0 P g (first'++args'++captured') w (zdJ P ρ w o)∧ ∀w,(callFunc g (first'++args'++captured')).run P w=.ok (.enter g (first'++args'++captured')) w:=by
   intro p x ⟨hent,hpk⟩ hp ho
   unfold zdR at ho
   split at ho
   ·cases ho
    obtain⟨v,h'⟩:=x
    exact⟨callsIn_wide.2 ((hpk _ _ _ _ hp ρ _ w rall hr).mono fun e w' h=>.inl h),hent _⟩
   ·cases ho
  rcases hF g cf hcf with⟨fn,hfn,hcomp⟩| ⟨fn,cf0,b,hfn,hcomp,rfl,hcalls⟩| ⟨p,rfl,hpr⟩| ⟨p,fn,cf0,rfl,hpr,hfn,hcomp⟩
  ·unfold zde at hv
   rw[(zN hcomp).2.choose_spec.2.2.2.2] at hv
   exact zfY hih hdec hfn hcomp hv rall hr
  ·unfold zde at hv
   have hv:(if Nat.ble (first.toList++args++captured.toList).length (primF b).ntmps then(ih (.code (primF b).body (zbt (first.toList++args++captured.toList) 0 .nil) h)).bind (retK (primF b).results) else none)=some o:=hv
   split at hv
   ·rename_i hle
    have hnil:(first.toList++args++captured.toList)=[]:=List.eq_nil_of_length_eq_zero (by simpa[primF] using Nat.le_of_ble_eq_true hle)
    obtain⟨o1,ho1,hret⟩:=aof hv
    obtain rfl:=hprim _ _ _ _ ho1
    have harr:first'++args'++captured'= #[]:=by
     have:=rall.1
     rw[hnil] at this
     exact Array.eq_empty_of_size_eq_zero (by rw[←Array.length_toList,←this];rfl)
    have ho:o=.val (.bool b) h:=by
     have e:zfx [.tmp (bits 0)] ((zbt (first.toList++args++captured.toList) 0 .nil).set (bits 0) (.bool b)) h=some o:=hret
     rw[hnil] at e
     exact(Option.some.inj e).symm
    subst ho
    show CallsIn _ _ _ _ (first'++args'++captured') _ _∧_
    rw[harr]
    refine⟨callsIn_wide.2 ((hcalls w).mono ?_),fun w=> ?_⟩
    ·rintro e w' ⟨rfl,hs⟩
     exact .inl ⟨_,_,_,ρ,rfl,rfl,.bool _,hs.HR hr,hs.ext⟩
    ·obtain⟨hname,c,hbody,hcc,hrs,hnt,-⟩:=zN hcomp
     have hne: ¬fn.name= "runtime.NumGoroutine" :=by simpa using hname
     simp[callFunc,hfn,hne,hbody]
   ·cases hv
  ·unfold zde at hv
   have hv:(match p (first.toList++args++captured.toList) h with|some x=>zdR h x|none=>z9 ih (primP p) (first.toList++args++captured.toList) h)=some o:=hv
   split at hv
   ·rename_i x hp
    exact pri hpr hp hv
   ·unfold z9 at hv
    split at hv
    ·obtain⟨o1,h1,h2⟩:=aof hv
     have:=hdec _ _ _ _ h1
     have e:o1=.exit 0 (zbt (first.toList++args++captured.toList) 0 .nil) h:=(Option.some.inj this).symm
     subst e;cases h2
    ·cases hv
  ·unfold zde at hv
   have hv:(match p (first.toList++args++captured.toList) h with|some x=>zdR h x|none=>z9 ih cf0 (first.toList++args++captured.toList) h)=some o:=hv
   split at hv
   ·rename_i x hp
    exact pri hpr hp hv
   ·exact zfY hih hdec hfn hcomp hv rall hr
 ·rename_i l first captured
  split at hv
  ·obtain⟨lo,hlo,hv⟩:=aof hv
   obtain⟨R,hR,rfl⟩: ∃R,ρ l=some R∧f'=.func (.yield R.blk) #[] #[]:=by cases rf with|yield h=>exact⟨_,h,rfl⟩
   exact round_sound hih hlo hv hR ra hr
  ·cases hv
 ·cases hv
theorem hand_task {F:FuncId→Option zd} (hF: ∀g cf,F g=some cf→FnOk P g cf) {ih:IH} {M:Nat} (hih: ∀t o,ih t=some o→zbR P M t o) {f:Value} {args:List Value} {p:Option Value} {h:H} {o:Out} (hv:zbf F ih args p h f=some o):
 zbR P (M+1) (.hand f args p h) o:=by
 intro ρ f' args' p' w rf ra rp hr
 unfold zbf at hv
 split at hv
 ·rename_i g first captured
  obtain⟨cf,hcf,hv⟩:=aof hv
  obtain⟨first',captured',rfl⟩: ∃x y,f'=.func (.func g) x y:=by cases rf;exact⟨_,_,rfl⟩
  obtain⟨r1,r2⟩:=VRL.of_func rf
  have rall:VRL ρ (first.toList++args++captured.toList) (first'++args'++captured').toList:=by simpa using(r1.append ra).append r2
  rcases hF g cf hcf with⟨fn,hfn,hcomp⟩| ⟨fn,cf0,b,hfn,hcomp,rfl,hcalls⟩| ⟨p,rfl,hpr⟩| ⟨p,fn,cf0,rfl,hpr,hfn,hcomp⟩
  ·exact hand_sound hih hfn hcomp hv rall rp hr
  ·exfalso
   unfold zdM primF at hv
   dsimp only at hv
   split at hv
   ·cases hv
   ·cases hv
  ·cases hv
  ·cases hv
 ·cases hv
end Go.Ideal
namespace Go.Ideal
variable {P:Program}
theorem zeN {ih:IH} (hnx: ∀t o,ih t=some o→zdf t≤zL o): ∀{l:List CI} {s:zc} {h:H} {o:Out},zbz ih l s h=some o→h.next≤zL o
 | [],s,h,o,hv=>by rw[zfO] at hv;cases hv;exact Nat.le_refl _
 |c::l,s,h,o,hv=>by
  rw[zdd] at hv
  obtain⟨y,hstep,hrest⟩:=aof hv
  obtain⟨b,hb,hstep⟩:=aof hstep
  have h1:h.next≤zL y:=by
   cases b with
   |true=>exact doOpP_next hnx hstep
   |false=>cases hstep;exact Nat.le_refl _
  refine Nat.le_trans h1 ?_
  cases y with
  |val v g=>exact zeN hnx (show zbz ih l _ _=some o from hrest)
  |pan _ _ _=>cases hrest;exact Nat.le_refl _
  |nrm _ _=>cases hrest
  |exit _ _ _=>cases hrest
  |ret _ _=>cases hrest
theorem zcN {ih:IH} (hnx: ∀t o,ih t=some o→zdf t≤zL o): ∀{l:List CI} {bs:List (Nat×H)} {s:zc} {h:H} {s':zc} {h':H},zbx ih l bs s h=some (s',h')→h.next≤h'.next
 | [],bs,s,h,s',h',hv=>by rw[zfc] at hv;cases hv;exact Nat.le_refl _
 |o::l,bs,s,h,s',h',hv=>by
  rw[zcO] at hv
  obtain⟨⟨v,h1,bs1⟩,hstep,hrest⟩:=aof hv
  obtain⟨b,hb,hstep⟩:=aof hstep
  refine Nat.le_trans ?_ (zcN hnx hrest)
  cases b with
  |true=>
   simp only[drawDo] at hstep
   split at hstep
   ·obtain⟨x,hx,e⟩:=amf hstep;cases e;exact doOp_next hnx hx
   ·split at hstep
    ·cases bs with
     |nil=>cases hstep
     |cons b0 bs=>
      obtain⟨y,hy,hstep⟩:=aof hstep
      split at hstep
      ·cases hstep;exact Nat.le_refl _
      ·cases hstep
    ·obtain⟨x,hx,e⟩:=amf hstep;cases e;exact zdv hx
  |false=>cases hstep;exact Nat.le_refl _
theorem thenK_next {ih:IH} (hnx: ∀t o,ih t=some o→zdf t≤zL o) {L:List (List Bool)} {b:CC} {o o':Out} (h:thenK ih L b o=some o'):zL o≤zL o':=by
 cases o with
 |nrm s h1=>exact hnx _ _ h
 |exit _ _ _=>cases h;exact Nat.le_refl _
 |ret _ _=>cases h;exact Nat.le_refl _
 |val _ _=>cases h;exact Nat.le_refl _
 |pan _ _ _=>cases h;exact Nat.le_refl _
theorem loopK_next {ih:IH} (hnx: ∀t o,ih t=some o→zdf t≤zL o) {L:List (List Bool)} {b:CC} {o o':Out} (h:loopK ih L b o=some o'):zL o≤zL o':=by
 cases o with
 |nrm s h1=>exact hnx _ _ h
 |exit _ _ _=>cases h;exact Nat.le_refl _
 |ret _ _=>cases h;exact Nat.le_refl _
 |val _ _=>cases h;exact Nat.le_refl _
 |pan _ _ _=>cases h;exact Nat.le_refl _
theorem zb2 {rs:List CR} {s:zc} {h:H} {o:Out} (ho:zfx rs s h=some o):zL o=h.next:=by
 obtain⟨vs,hvs,rfl⟩:=amf ho;rfl
theorem zfR {s:zc} {h:H} {p:Option CC} {o:Out} (ho:pendK s h p=some o):zL o=h.next:=by
 unfold pendK at ho
 split at ho<;>cases ho<;>rfl
theorem codeStep_next {ih:IH} (hnx: ∀t o,ih t=some o→zdf t≤zL o) {c:CC} {s:zc} {h:H} {o:Out} (hv:zH c ih s h=some o):h.next≤zL o:=by
 cases c with
 |skip=>cases hv;exact Nat.le_refl _
 |ops l=>exact zeN hnx (show zbz ih l s h=some o from hv)
 |draw l=>obtain⟨⟨s',h'⟩,hr,e⟩:=amf hv;subst e;exact zcN hnx hr
 |draw2 l x y=>
  obtain⟨⟨s',h'⟩,hr,hv⟩:=aof hv
  obtain⟨g,hg,e⟩:=amf hv
  subst e
  obtain⟨_,_,_,_,_,_,_,_,n2⟩:=zeG hg
  have:=zcN hnx hr
  show h.next≤g.next
  rw[n2];exact this
 |seq a L b=>obtain⟨o1,h1,h2⟩:=aof hv;exact Nat.le_trans (hnx _ _ h1) (thenK_next hnx h2)
 |cond x a b=>obtain⟨u,hu,hv⟩:=aof hv;obtain⟨y,hy,hv⟩:=aof hv;exact hnx _ _ hv
 |block i b=>
  obtain⟨o1,h1,e⟩:=amf hv
  have:=hnx _ _ h1
  subst e
  cases o1 with
  |exit j s' h'=>
   simp only[blockK]
   split<;>exact this
  |nrm _ _=>exact this
  |ret _ _=>exact this
  |val _ _=>exact this
  |pan _ _ _=>exact this
 |loop L b=>obtain⟨o1,h1,h2⟩:=aof hv;exact Nat.le_trans (hnx _ _ h1) (loopK_next hnx h2)
 |rangeFunc rid L f ps as b=>
  obtain⟨u,hu,hv⟩:=aof hv
  obtain⟨g,hg,hv⟩:=aof hv
  obtain⟨o1,ho1,hv⟩:=aof hv
  obtain⟨⟨v1,h1⟩,hval,hv⟩:=aof hv
  obtain⟨lo,hlo,hv⟩:=aof hv
  have h2:=hnx _ _ ho1
  cases o1 with
  |val v0 g0=>
   simp only[zfs,Option.some.injEq,Prod.mk.injEq] at hval
   obtain⟨-,rfl⟩:=hval
   have h3:h.next+1≤g0.next:=h2
   have:zL o=g0.next:=by
    unfold rangeEnd at hv
    split at hv
    ·have:=zfR hv;exact this
    ·have:=zfR hv;exact this
    ·cases hv
   omega
  |nrm _ _=>cases hval
  |exit _ _ _=>cases hval
  |ret _ _=>cases hval
  |pan _ _ _=>cases hval
 |exit i=>cases hv;exact Nat.le_refl _
 |ret=>cases hv;exact Nat.le_refl _
 |scope b l1 r1 l2 r2=>exact hnx (.scope b l1 r1 l2 r2 s h) _ hv
theorem finRound_next {l:Nat} {o o':Out} (h:finRound l o=some o'):zL o=zL o':=by
 have fin: ∀{p:Option CC} {g:H} {lo:IObj},finObj l p g lo=some o'→g.next=zL o':=by
  intro p g lo hf
  cases lo with
  |loop _ _ _ _=>cases hf;rfl
  |cells _ _=>cases hf
  |map _ _=>cases hf
  |dead=>cases hf
  |glob _ _=>cases hf
 cases o with
 |nrm s g=>obtain⟨lo,-,hf⟩:=aof h;exact fin hf
 |exit i s g=>obtain⟨lo,-,hf⟩:=aof h;exact fin hf
 |ret s g=>obtain⟨lo,-,hf⟩:=aof h;exact fin hf
 |val _ _=>cases h
 |pan _ _ _=>cases h
theorem zdN {rs:List CR} {s:zc} {o x:Out} (h:resK1 rs s o=some x):zL x=zL o:=by
 cases o with
 |val v g=>exact zb2 h
 |nrm _ _=>cases h
 |exit _ _ _=>cases h
 |ret _ _=>cases h
 |pan _ _ _=>cases h
theorem doneK_next {ih:IH} (hnx: ∀t o,ih t=some o→zdf t≤zL o) {f:Value} {args:List Value} {rs:List CR} {o x:Out} (hv:doneK ih f args rs o=some x):zL o≤zL x:=by
 cases o with
 |nrm s h=>obtain⟨o1,h1,h2⟩:=aof hv;rw[zdN h2];exact hnx _ _ h1
 |ret s h=>obtain⟨o1,h1,h2⟩:=aof hv;rw[zdN h2];exact hnx _ _ h1
 |pan v s h=>obtain⟨o1,h1,h2⟩:=aof hv;rw[zdN h2];exact hnx _ _ h1
 |exit _ _ _=>cases hv
 |val _ _=>cases hv
theorem bodyK_next {ih:IH} (hnx: ∀t o,ih t=some o→zdf t≤zL o) {rs:List CR} {d:Option Dfr} {o x:Out} (hv:bodyK ih rs d o=some x):zL o≤zL x:=by
 cases d with
 |none=>
  cases o with
  |nrm s g=>exact Nat.le_of_eq (zb2 hv).symm
  |ret s g=>exact Nat.le_of_eq (zb2 hv).symm
  |pan v s g=>cases hv;exact Nat.le_refl _
  |exit _ _ _=>cases hv
  |val _ _=>cases hv
 |some d=>
  cases o with
  |nrm s h=>
   obtain⟨f,h1,hv⟩:=aof (show(d.f.ev s).bind _=some x from hv)
   obtain⟨f',h2,hv⟩:=aof hv
   obtain⟨l,h3,hv⟩:=aof hv
   obtain⟨o1,h4,hv⟩:=aof hv
   exact Nat.le_trans (hnx _ _ h4) (doneK_next hnx hv)
  |pan _ _ _=>cases hv;exact Nat.le_refl _
  |ret _ _=>cases hv
  |exit _ _ _=>cases hv
  |val _ _=>cases hv
theorem zbW: ∀{l:List CI} {p:Option Value} {s:zc} {h:H} {x:Option Value×zc×H},zbn l p s h=some x→h.next≤x.2.2.next
 | [],p,s,h,x,hv=>by rw[ze4] at hv;cases hv;exact Nat.le_refl _
 |o::l,p,s,h,x,hv=>by
  rw[zea] at hv
  obtain⟨b,hb,hv⟩:=aof hv
  cases b with
  |true=>
   have hv:ze5 o (zbn l) p s h=some x:=hv
   unfold ze5 at hv
   split at hv
   ·exact zbW hv
   ·obtain⟨y,hy,hv⟩:=aof hv
    exact Nat.le_trans (zdv hy) (zbW hv)
  |false=>exact zbW (show zbn l p _ h=some x from hv)
theorem handStep_next {F:FuncId→Option zd} {ih:IH} (hnx: ∀t o,ih t=some o→zdf t≤zL o) {f:Value} {args:List Value} {p:Option Value} {h:H} {o:Out} (hv:zbf F ih args p h f=some o):h.next≤zL o:=by
 unfold zbf at hv
 split at hv
 ·obtain⟨cf,hcf,hv⟩:=aof hv
  unfold zdM at hv
  split at hv
  ·split at hv
   ·unfold zeu at hv
    split at hv
    ·rename_i l L b hbd
     obtain⟨⟨px,sx,gx⟩,hx,hv⟩:=aof hv
     cases px with
     |some _=>cases hv
     |none=>
      obtain⟨o1,h1,hv⟩:=aof (show(ih (.code b (zb7 L sx) gx)).bind _=some o from hv)
      have h2:=zbW hx
      have h3:=hnx _ _ h1
      cases o1 with
      |nrm s g=>rw[zb2 hv];exact Nat.le_trans h2 h3
      |ret s g=>rw[zb2 hv];exact Nat.le_trans h2 h3
      |exit _ _ _=>cases hv
      |val _ _=>cases hv
      |pan _ _ _=>cases hv
    ·cases hv
   ·cases hv
  ·cases hv
 ·cases hv
theorem callStep_next {F:FuncId→Option zd} {ih:IH} (hnx: ∀t o,ih t=some o→zdf t≤zL o) {f:Value} {args:List Value} {h:H} {o:Out} (hv:zbb F ih args h f=some o):h.next≤zL o:=by
 unfold zbb at hv
 split at hv
 ·obtain⟨cf,hcf,hv⟩:=aof hv
  have wk: ∀l,z9 ih cf l h=some o→h.next≤zL o:=by
   intro l hv
   unfold z9 at hv
   split at hv
   ·obtain⟨o1,ho1,hret⟩:=aof hv
    exact Nat.le_trans (hnx _ _ ho1) (bodyK_next hnx hret)
   ·cases hv
  unfold zde at hv
  split at hv
  ·exact wk _ hv
  ·split at hv
   ·unfold zdR at hv
    split at hv
    ·rename_i hle;cases hv;exact Nat.le_of_ble_eq_true hle
    ·cases hv
   ·exact wk _ hv
 ·split at hv
  ·obtain⟨lo,hlo,hv⟩:=aof hv
   cases lo with
   |loop st pend sl rc=>
    obtain⟨s0,hs0,hv⟩:=aof hv
    obtain⟨o1,ho1,hv⟩:=aof hv
    have h1:=hnx _ _ ho1
    cases o1 with
    |nrm s g=>
     obtain⟨lo1,hlo1,hv⟩:=aof hv
     cases lo1 with
     |loop st1 pend1 sl1 rc1=>
      cases st1<;>simp only[zdt,reduceCtorEq] at hv
      obtain⟨o2,ho2,hfin⟩:=aof hv
      have h2:=hnx _ _ ho2
      rw[←finRound_next hfin]
      exact Nat.le_trans h1 h2
     |cells _ _=>cases hv
     |map _ _=>cases hv
     |dead=>cases hv
     |glob _ _=>cases hv
    |exit _ _ _=>cases hv
    |ret _ _=>cases hv
    |val _ _=>cases hv
    |pan _ _ _=>cases hv
   |cells _ _=>cases hv
   |map _ _=>cases hv
   |dead=>cases hv
   |glob _ _=>cases hv
  ·cases hv
 ·cases hv
theorem zfr {F:FuncId→Option zd}: ∀(n:Nat) (t:Task) (o:Out),E F n t=some o→zdf t≤zL o
 |0,t,o,h=>by cases h
 |n+1,t,o,h=>by
  cases t with
  |code c s g=>exact codeStep_next (zfr n) (show zH c (E F n) s g=some o from h)
  |call f args g=>exact callStep_next (zfr n) (show zbb F (E F n) args g f=some o from h)
  |hand f args p g=>exact handStep_next (zfr n) (show zbf F (E F n) args p g f=some o from h)
  |scope b l1 r1 l2 r2 s g=>
   obtain⟨o1,h1,h2⟩:=aof (show zbH (E F n) b l1 r1 l2 r2 s g=some o from h)
   have h3:=zfr n _ _ h1
   cases o1 with
   |exit i s' g'=>
    have h2:zbG (E F n) l1 r1 l2 r2 i s' g'=some o:=h2
    unfold zbG at h2
    refine Nat.le_trans h3 ?_
    split at h2
    ·exact zfr n _ _ h2
    ·split at h2
     ·exact zfr n _ _ h2
     ·cases h2;exact Nat.le_refl _
   |nrm _ _=>cases h2;exact h3
   |ret _ _=>cases h2;exact h3
   |val _ _=>cases h2;exact h3
   |pan _ _ _=>cases h2;exact h3
section
theorem zdb {ih:IH} {c:CC} {s:zc} {h:H} (hc:zcC=zj c):zH c ih s h=none:=by
 obtain⟨a,b,rfl,-,-⟩:=zfH hc
 rfl
theorem zc8 {ih:IH} {M:Nat} (hih: ∀t o,ih t=some o→zbR P M t o) (hmix:P.follows .mixedOrders=true) (hnx: ∀t o,ih t=some o→zdf t≤zL o): ∀(code:Code) (c:CC) (N:Nat),ze P N code=some (zj c)→ ∀(s:zc) (h:H) (o:Out),zH c ih s h=some o→
 ∀(r:Option Nat) (ρ:Rho) (a:Act) (w:World) (Ds:List Nat) (Db:List Deferred),zcv r w→a.tmps.size=N→SR ρ s a.tmps→HR P ρ h w→a.defers=Ds.map zl++Db→z8 ρ w Ds→CodeOk P (M+1) r (zbQ P ρ w N Ds Db o) a w code
 |.skip,c,N,hc,s,h,o,hv,r,ρ,a,w,Ds,Db,hR,hN,hs,hr,hd,hD=>by
  obtain rfl:=zfF (Option.some.inj hc);cases hv
  exact wpIn_skip ⟨ρ,Ds,s,h,.refl _ _,hN,hd,⟨hD,fun D h=>.inl h⟩,hs,hr,.inl ⟨rfl,rfl⟩⟩
 |.label l,c,N,hc,s,h,o,hv,r,ρ,a,w,Ds,Db,hR,hN,hs,hr,hd,hD=>by
  obtain rfl:=zfF (Option.some.inj hc);cases hv
  exact wpIn_label ⟨ρ,Ds,s,h,.refl _ _,hN,hd,⟨hD,fun D h=>.inl h⟩,hs,hr,.inl ⟨rfl,rfl⟩⟩
 |.exit i,c,N,hc,s,h,o,hv,r,ρ,a,w,Ds,Db,hR,hN,hs,hr,hd,hD=>by
  obtain rfl:=zfG (Option.some.inj hc);cases hv
  exact wpIn_exit ⟨ρ,Ds,s,h,.refl _ _,hN,hd,⟨hD,fun D h=>.inl h⟩,hs,hr,.inr (.inl ⟨_,rfl,(zbg i).symm⟩)⟩
 |.ret,c,N,hc,s,h,o,hv,r,ρ,a,w,Ds,Db,hR,hN,hs,hr,hd,hD=>by
  obtain rfl:=strip_ret (Option.some.inj hc);cases hv
  exact wpIn_ret ⟨ρ,Ds,s,h,.refl _ _,hN,hd,⟨hD,fun D h=>.inl h⟩,hs,hr,.inr (.inr (.inl ⟨rfl,rfl⟩))⟩
 |.goto l,c,N,hc,s,h,o,hv,r,ρ,a,w,Ds,Db,hR,hN,hs,hr,hd,hD=>by
  obtain rfl:=zfG (Option.some.inj hc);cases hv
  exact wpIn_goto ⟨ρ,Ds,s,h,.refl _ _,hN,hd,⟨hD,fun D h=>.inl h⟩,hs,hr,.inr (.inl ⟨_,rfl,(zbv l).symm⟩)⟩
 |.refuse l,c,N,hc,s,h,o,hv,_,_,_,_,_,_,_,_,_,_,_,_=>by rw[zdb (Option.some.inj hc)] at hv;cases hv
 |.scope b,c,N,hc,s,h,o,hv,r,ρ,a,w,Ds,Db,hR,hN,hs,hr,hd,hD=>by
  rcases zdc hc with⟨hc,hl⟩|hc| ⟨cb,l1,r1,l2,r2,hb,hc,⟨s1,f1,g1⟩,⟨s2,f2,g2⟩,f3⟩
  ·exact wpIn_scope (zc8 hih hmix hnx b c N hc s h o hv r ρ a w Ds Db hR hN hs hr hd hD).wpIn hl
  ·rw[zdb hc.symm] at hv;cases hv
  ·obtain⟨b',r1',r2',rfl,rfl,rfl,rfl⟩:=strip_scope hc.symm
   exact wpIn_inScope (hih _ _ (show ih (.scope b' l1 r1' l2 r2' s h)=some o from hv) b b N hb ⟨⟨s1,f1,g1⟩,⟨s2,f2,g2⟩,f3⟩ r ρ a w Ds Db hR hN hs hr hd hD)
 |.region id ops d,c,N,hc,s,h,o,hv,r,ρ,a,w,Ds,Db,hR,hN,hs,hr,hd,hD=>by
  obtain⟨l,hl,hc⟩:=aof hc
  cases d with
  |false=>
   obtain rfl:=zeF (Option.some.inj hc)
   exact wpIn_region (ops_wpIn hih r hl (show zbz ih l s h=some o from hv) hr hs hN hd hD)
  |true=>
   have hc:some ((if ops.toList.zipIdx.all (fun x=>(x.1.after.toList.filter (Region.binds .any)).all fun e=>Nat.blt e.on x.2) then zcd (ancs ops.toList) l else none).getD zcC)=some (zj c):=hc
   have hc:(if ops.toList.zipIdx.all (fun x=>(x.1.after.toList.filter (Region.binds .any)).all fun e=>Nat.blt e.on x.2) then zcd (ancs ops.toList) l else none)=some (zj c):=by
    generalize hd:(if ops.toList.zipIdx.all (fun x=>(x.1.after.toList.filter (Region.binds .any)).all fun e=>Nat.blt e.on x.2) then zcd (ancs ops.toList) l else none)=dd at hc
    cases dd with
    |some x=>exact hc
    |none=>rw[zdb (Option.some.inj hc)] at hv;cases hv
   split at hc
   ·rename_i hbk
    have e:zj c=c:=by
     rcases zcs hc with⟨l',order,e,-⟩| ⟨l',order,x,y,c',d,rest,e,-⟩
     ·rw[strip_draw e.symm];rfl
     ·rw[strip_draw2 e.symm];rfl
    rw[e] at hc
    exact draw_sound hmix hih hnx hl hbk hc hv hN hs hr hd hD
   ·cases hc
 |.seq x y,c,N,hc,s,h,o,hv,r,ρ,a,w,Ds,Db,hR,hN,hs,hr,hd,hD=>by
  obtain⟨cx,hx,hc⟩:=aof hc
  obtain⟨cy,hy,hc⟩:=amf hc
  obtain⟨ca,L,cb,rfl,rfl,rfl⟩:=zeE hc
  obtain⟨o1,h1,h2⟩:=aof hv
  refine wpIn_seq (wpIn_mono ((hih _ _ h1 x N hx r ρ a w Ds Db hR hN hs hr hd hD).wpIn) ?_)
  rintro e a1 w1 ⟨σ,Ds1,s1,hh1,he,hN1,hd1,⟨hD1,hds1⟩,hs1,hr1,hcase⟩
  rcases hcase with⟨rfl,rfl⟩| ⟨i,rfl,rfl⟩| ⟨rfl,rfl⟩| ⟨pv,pv',rfl,hpv,rfl⟩
  ·exact wpIn_mono ((hih _ _ h2 y N hy r σ a1 w1 Ds1 Db (hR.ext he) hN1 (hs1.keep L) hr1 hd1 hD1).wpIn) (fun e a2 w2 h=>h.ext he hds1)
  ·cases h2
   have hp:zbQ P ρ w N Ds Db (.exit i s1 hh1) (exOf i) a1 w1:=⟨σ,Ds1,s1,hh1,he,hN1,hd1,⟨hD1,hds1⟩,hs1,hr1,.inr (.inl ⟨i,rfl,rfl⟩)⟩
   rcases zcX i with⟨j,rfl⟩| ⟨l,rfl⟩
   ·rw[zbg] at hp⊢;exact hp
   ·rw[zbv] at hp⊢;exact hp
  ·cases h2;exact⟨σ,Ds1,s1,hh1,he,hN1,hd1,⟨hD1,hds1⟩,hs1,hr1,.inr (.inr (.inl ⟨rfl,rfl⟩))⟩
  ·cases h2;exact⟨σ,Ds1,s1,hh1,he,hN1,hd1,⟨hD1,hds1⟩,hs1,hr1,.inr (.inr (.inr ⟨pv,pv',rfl,hpv,rfl⟩))⟩
 |.cond x y z,c,N,hc,s,h,o,hv,r,ρ,a,w,Ds,Db,hR,hN,hs,hr,hd,hD=>by
  obtain⟨cx,hx,hc⟩:=aof hc
  obtain⟨cy,hy,hc⟩:=aof hc
  obtain⟨cz,hz,hc⟩:=amf hc
  obtain⟨ca,cb,rfl,rfl,rfl⟩:=zfH hc
  obtain⟨u,hu,hv⟩:=aof hv
  obtain⟨cc,hcc,hv⟩:=aof hv
  have hxv:=zA hx hs hu
  unfold condV at hcc
  split at hcc
  ·cases hcc
   exact wpIn_cond_true hxv.inv_bool ((hih _ _ hv y N hy r ρ a w Ds Db hR hN hs hr hd hD).wpIn)
  ·cases hcc
   exact wpIn_cond_false hxv.inv_bool ((hih _ _ hv z N hz r ρ a w Ds Db hR hN hs hr hd hD).wpIn)
  ·cases hcc
 |.block id b,c,N,hc,s,h,o,hv,r,ρ,a,w,Ds,Db,hR,hN,hs,hr,hd,hD=>by
  obtain⟨cb,hb,hc⟩:=amf hc
  obtain⟨ca,rfl,rfl⟩:=strip_block hc
  obtain⟨o1,h1,rfl⟩:=amf hv
  refine wpIn_block (wpIn_mono ((hih _ _ h1 b N hb r ρ a w Ds Db hR hN hs hr hd hD).wpIn) ?_)
  rintro e a1 w1 ⟨σ,Ds1,s1,hh1,he,hN1,hd1,⟨hD1,hds1⟩,hs1,hr1,hcase⟩
  rcases hcase with⟨rfl,rfl⟩| ⟨i,rfl,rfl⟩| ⟨rfl,rfl⟩| ⟨pv,pv',rfl,hpv,rfl⟩
  ·exact⟨σ,Ds1,s1,hh1,he,hN1,hd1,⟨hD1,hds1⟩,hs1,hr1,.inl ⟨rfl,rfl⟩⟩
  ·by_cases hid:i=2*id
   ·subst hid
    rw[zbg]
    simp only[Exit.inBlock,if_true,blockK,Nat.beq_refl]
    exact⟨σ,Ds1,s1,hh1,he,hN1,hd1,⟨hD1,hds1⟩,hs1,hr1,.inl ⟨rfl,rfl⟩⟩
   ·have:Nat.beq i (2*id)=false:=by
     cases h:Nat.beq i (2*id) with
     |false=>rfl
     |true=>exact absurd (Nat.eq_of_beq_eq_true h) hid
    have hp:zbQ P ρ w N Ds Db (blockK (2*id) (.exit i s1 hh1)) (exOf i) a1 w1:=⟨σ,Ds1,s1,hh1,he,hN1,hd1,⟨hD1,hds1⟩,hs1,hr1,.inr (.inl ⟨i,by simp only[blockK,this],rfl⟩)⟩
    rcases zcX i with⟨j,rfl⟩| ⟨l,rfl⟩
    ·rw[zbg] at hp⊢
     simp only[Exit.inBlock,if_neg (show¬j=id by omega)]
     exact hp
    ·rw[zbv] at hp⊢
     exact hp
  ·exact⟨σ,Ds1,s1,hh1,he,hN1,hd1,⟨hD1,hds1⟩,hs1,hr1,.inr (.inr (.inl ⟨rfl,rfl⟩))⟩
  ·exact⟨σ,Ds1,s1,hh1,he,hN1,hd1,⟨hD1,hds1⟩,hs1,hr1,.inr (.inr (.inr ⟨pv,pv',rfl,hpv,rfl⟩))⟩
 |.loop b,c,N,hc,s,h,o,hv,r,ρ,a,w,Ds,Db,hR,hN,hs,hr,hd,hD=>by
  obtain⟨cb,hb,hc⟩:=amf hc
  obtain⟨L,ca,rfl,rfl⟩:=strip_loop hc
  obtain⟨o1,h1,h2⟩:=aof hv
  show Code.roundsIn (Wf r) 0 P b _ (M+1) a w
  rw[roundsIn_succ]
  refine wpIn_mono ((hih _ _ h1 b N hb r ρ a w Ds Db hR hN (hs.keep L) hr hd hD).wpIn) ?_
  rintro e a1 w1 ⟨σ,Ds1,s1,hh1,he,hN1,hd1,⟨hD1,hds1⟩,hs1,hr1,hcase⟩
  rcases hcase with⟨rfl,rfl⟩| ⟨i,rfl,rfl⟩| ⟨rfl,rfl⟩| ⟨pv,pv',rfl,hpv,rfl⟩
  ·have hl:CodeOk P M r (zbQ P σ w1 N Ds1 Db o) a1 w1 (.loop b):=hih _ _ h2 (.loop b) N (by simp[ze,hb,zj]) r σ a1 w1 Ds1 Db (hR.ext he) hN1 hs1 hr1 hd1 hD1
   exact zeO (fun e a2 w2 h=>h.ext he hds1) M a1 w1 hl
  ·cases h2
   have hp:zbQ P ρ w N Ds Db (.exit i s1 hh1) (exOf i) a1 w1:=⟨σ,Ds1,s1,hh1,he,hN1,hd1,⟨hD1,hds1⟩,hs1,hr1,.inr (.inl ⟨i,rfl,rfl⟩)⟩
   rcases zcX i with⟨j,rfl⟩| ⟨l,rfl⟩
   ·rw[zbg] at hp⊢;exact hp
   ·rw[zbv] at hp⊢;exact hp
  ·cases h2;exact⟨σ,Ds1,s1,hh1,he,hN1,hd1,⟨hD1,hds1⟩,hs1,hr1,.inr (.inr (.inl ⟨rfl,rfl⟩))⟩
  ·cases h2;exact⟨σ,Ds1,s1,hh1,he,hN1,hd1,⟨hD1,hds1⟩,hs1,hr1,.inr (.inr (.inr ⟨pv,pv',rfl,hpv,rfl⟩))⟩
 |.rangeFunc f ps as b,c,N,hc,s,h,o,hv,r,ρ,a,w,Ds,Db,hR,hN,hs,hr,hd,hD=>by
  unfold ze at hc
  split at hc
  ·rename_i hps
   obtain⟨cf,hf,hc⟩:=aof hc
   obtain⟨cas,has,hc⟩:=aof hc
   obtain⟨cb,hb,hc⟩:=amf hc
   obtain⟨rid,L,ca,cb',rfl,rfl,rfl⟩:=strip_range hc
   exact range_sound hih hps hf has hb hv hR hN hs hr hd hD
  ·cases hc
end
theorem E_sound {F:FuncId→Option zd} (hmix:P.follows .mixedOrders=true) (hF: ∀g cf,F g=some cf→FnOk P g cf): ∀(n:Nat) (t:Task) (o:Out),E F n t=some o→zbR P n t o
 |0,t,o,h=>by cases h
 |n+1,t,o,h=>by
  have hih:=E_sound hmix hF n
  cases t with
  |code c s g=>
   intro code N hc r ρ a w Ds Db hR hN hs hr hd hD
   exact zc8 hih hmix (zfr n) code c N hc s g o (show zH c (E F n) s g=some o from h) r ρ a w Ds Db hR hN hs hr hd hD
  |call f args g=>
   refine call_sound hF (E_dec n) (fun b s h o he=> ?_) hih (show zbb F (E F n) args g f=some o from h)
   cases n with
   |zero=>cases he
   |succ n=>exact(Option.some.inj he).symm
  |hand f args p g=>exact hand_task hF hih (show zbf F (E F n) args p g f=some o from h)
  |scope b l1 r1 l2 r2 s g=>exact scope_sound hih (show zbH (E F n) b l1 r1 l2 r2 s g=some o from h)
theorem zcf {F:FuncId→Option zd} (hmix:P.follows .mixedOrders=true) (hF: ∀g cf,F g=some cf→FnOk P g cf) {n:Nat} {g:FuncId} {args:List Value} {h h':H} {v:Value}
 (he:E F n (.call (.func (.func g) #[] #[]) args h)=some (.val v h')) {ρ:Rho} {args':Array Value} {w:World} (ra:VRL ρ args args'.toList) (hr:HR P ρ h w):
 Calls P g args' w fun e w'=> ∃v' σ,e=.returned v'∧VR σ v v'∧HR P σ h' w'∧Ext ρ w σ w':=by
 have hs:=E_sound hmix hF n _ _ he ρ (.func (.func g) #[] #[]) args' w (.func g rfl rfl (by simp) (by simp)) ra hr
 have hc:=callsIn_wide.1 hs.1
 simp only[Array.empty_append,Array.append_empty] at hc
 refine hc.mono ?_
 intro e w' hpp
 obtain⟨v0,h0,v',σ,e1,e2,q1,q2,q3⟩:=hpp.val
 cases e1
 exact⟨v',σ,e2,q1,q2,q3⟩
end Go.Ideal
namespace Go.Ideal
noncomputable section
variable {P:Program}
def zbm (W:World) (b:Nat):Bool:=match W.heap[b]? with
 |some (.cells _ _ _)=>true
 |_=>false
def okV (W:World):Value→Bool
 |.bool _=>true
 |.int _ _=>true
 |.string _=>true
 |.nilFunc=>true
 |.pointer none=>true
 |.map none=>true
 |.slice none 0 0=>true
 |.slice (some a) len cap=>a.spot.isNone&&(decide (len≤cap)&&(decide (cap<zr)&&zbm W a.block))
 |.pointer (some a)=>a.spot.isNone&&zbm W a.block
 |_=>false
def isDang:Value→Bool
 |.slice (some _) 0 0=>true
 |_=>false
def dang (W:World):Value:=.slice (some ⟨W.heap.size,0,none⟩) 0 0
def impV (W:World) (v:Value):Value:=if okV W v then v else if isDang v then dang W else poison
def impObj (W:World):Obj→Option IObj
 |.cells c _ _=>some (.cells (c.toList.map (impV W)) roE)
 |_=>none
open Classical in
def dangR (W:World):Option RB:=if h: ∃b,zbm W b=true then some ⟨Classical.choose h,0,0,0,1,none⟩ else none
def zbV (W:World) (i:Nat):Option RB:=if i=W.heap.size then dangR W else(W.heap[i]?).bind fun o=>match o with
 |.cells c _ _=>some ⟨i,0,c.size,roE,c.size,some o⟩
 |_=>none
def zfW (W:World) (n:Nat):PT IObj:=Nat.rec (motive:=fun _=>PT IObj) .nil (fun i t=>match(W.heap[i]?).bind (impObj W) with|some o=>t.set (bits i) o|none=>t) n
def impH (W:World):H:=⟨W.heap.size+1,zfW W W.heap.size⟩
theorem zdY (W:World): ∀(n j:Nat),(zfW W n).get (bits j)=if j<n then(W.heap[j]?).bind (impObj W) else none
 |0,j=>by rw[if_neg (by omega)];exact PT.get_nil _
 |n+1,j=>by
  have e:zfW W (n+1)=match(W.heap[n]?).bind (impObj W) with|some o=>(zfW W n).set (bits n) o|none=>zfW W n:=rfl
  rw[e]
  cases ho:(W.heap[n]?).bind (impObj W) with
  |none=>
   rw[zdY W n j]
   by_cases h:j<n
   ·rw[if_pos h,if_pos (by omega)]
   ·rw[if_neg h]
    by_cases e:j=n
    ·subst e;rw[if_pos (by omega),ho]
    ·rw[if_neg (by omega)]
  |some o=>
   dsimp only
   rw[PT.get_set_bits,zdY W n j]
   by_cases e:n=j
   ·subst e;rw[if_pos rfl,if_pos (by omega),ho]
   ·rw[if_neg e]
    by_cases h:j<n
    ·rw[if_pos h,if_pos (by omega)]
    ·rw[if_neg h,if_neg (by omega)]
theorem zet (W:World) (j:Nat):(impH W).get j=(W.heap[j]?).bind (impObj W):=by
 show(zfW W W.heap.size).get (bits j)=_
 rw[zdY]
 by_cases h:j<W.heap.size
 ·rw[if_pos h]
 ·rw[if_neg h,Array.getElem?_eq_none (by omega)];rfl
theorem zfX {W:World} {b:Nat} {c:Array Value} {t:TypeId} {fr:Nat×Nat} (h:W.heap[b]? =some (.cells c t fr)):(impH W).get b=some (.cells (c.toList.map (impV W)) roE):=by rw[zet,h];rfl
theorem impH_next (W:World):(impH W).next=W.heap.size+1:=rfl
theorem zfV {W:World} {b:Nat} (h:zbm W b=true):b<W.heap.size:=by
 unfold zbm at h
 split at h
 ·rename_i hb;exact(Array.getElem?_eq_some_iff.1 hb).1
 ·cases h
theorem impRho_lt {W:World} {i:Nat} (h:i<W.heap.size):zbV W i=(W.heap[i]?).bind fun o=>match o with|.cells c _ _=>some ⟨i,0,c.size,roE,c.size,some o⟩|_=>none:=by
 unfold zbV;rw[if_neg (by omega)]
theorem zcI {W:World} {b:Nat} (h:zbm W b=true): ∃R,zbV W b=some R∧R.blk=b∧R.base=0:=by
 have hlt:=zfV h
 unfold zbm at h
 split at h
 ·rename_i c t fr hb
  exact⟨_,by rw[impRho_lt hlt,hb];rfl,rfl,rfl⟩
 ·cases h
theorem okV_rel {W:World} {v:Value} (h:okV W v=true):VR (zbV W) v v:=by
 unfold okV at h
 split at h
 ·exact .bool _
 ·exact .int _ _
 ·exact .str _
 ·exact .nilFunc
 ·exact .ptrNil
 ·exact .mapNil
 ·exact .sliceNil
 ·rename_i a len cap
  simp only[Bool.and_eq_true,Option.isNone_iff_eq_none,decide_eq_true_eq] at h
  obtain⟨h1,h2,h3,h4⟩:=h
  obtain⟨R,hR,hb,h0⟩:=zcI h4
  obtain⟨b,o,sp⟩:=a
  simp only at h1 hR hb
  subst h1
  have:=VR.slice (o:=o) (len:=len) hR h3 h2
  rw[hb,h0,Nat.zero_add] at this
  exact this
 ·rename_i a
  simp only[Bool.and_eq_true,Option.isNone_iff_eq_none] at h
  obtain⟨h1,h4⟩:=h
  obtain⟨R,hR,hb,h0⟩:=zcI h4
  obtain⟨b,o,sp⟩:=a
  simp only at h1 hR hb
  subst h1
  have:=VR.ptr (o:=o) hR
  rw[hb,h0,Nat.zero_add] at this
  exact this
 ·cases h
theorem zcp {W:World} {i:Nat} {R:RB} (h:zbV W i=some R):(i≠W.heap.size∧ ∃c t fr,W.heap[i]? =some (.cells c t fr)∧R=⟨i,0,c.size,roE,c.size,some (.cells c t fr)⟩)∨(i=W.heap.size∧zbm W R.blk=true):=by
 unfold zbV at h
 split at h
 ·rename_i e
  refine .inr ⟨e,?_⟩
  unfold dangR at h
  split at h
  ·rename_i hx;cases h;exact Classical.choose_spec hx
  ·cases h
 ·rename_i e
  obtain⟨o,ho,h⟩:=aof h
  cases o with
  |cells c t fr=>cases h;exact .inl ⟨e,c,t,fr,ho,rfl⟩
  |_=>cases h
theorem zdX {W:World} {i:Nat} {R:RB} {o:IObj} (h:zbV W i=some R) (ho:(impH W).get i=some o): ∃c t fr,W.heap[i]? =some (.cells c t fr)∧R=⟨i,0,c.size,roE,c.size,some (.cells c t fr)⟩:=by
 rcases zcp h with⟨-,h⟩| ⟨rfl,-⟩
 ·exact h
 ·rw[zet,Array.getElem?_eq_none (Nat.le_refl _)] at ho;cases ho
theorem dang_rel {W:World} {v:Value} {b:Nat} (hb:zbm W b=true) (h:isDang v=true):VR (zbV W) (dang W) v:=by
 unfold isDang at h
 split at h
 ·refine .sliceD (R:=⟨Classical.choose (⟨b,hb⟩: ∃b,zbm W b=true),0,0,0,1,none⟩) ?_ (by show 0<1;omega)
  unfold zbV;rw[if_pos rfl];unfold dangR;rw[dif_pos ⟨b,hb⟩]
 ·cases h
theorem imp_HR (W:World):HR P (zbV W) (impH W) W where
 obj:=fun i R o hi ho=>by
  obtain⟨c,t,fr,hb,rfl⟩:=zdX hi ho
  rw[zfX hb] at ho;cases ho
  refine⟨rfl,by simp,c,t,fr,hb,.inr ⟨rfl,rfl⟩,rfl,by simp,fun j v hj=> ?_⟩
  rw[List.getElem?_map] at hj
  obtain⟨x,hx,rfl⟩:=Option.map_eq_some_iff.1 hj
  refine⟨x,by rw[Array.getElem?_toList] at hx;simpa using hx,?_⟩
  unfold impV
  by_cases hok:okV W x=true
  ·rw[if_pos hok];exact .inr (okV_rel hok)
  ·rw[if_neg hok]
   by_cases hd:isDang x=true
   ·rw[if_pos hd];exact .inr (dang_rel (b:=i) (by unfold zbm;rw[hb]) hd)
   ·rw[if_neg hd];exact .inl rfl
 nxt:=fun i hi=>by
  have hi':W.heap.size+1≤i:=hi
  have hn:W.heap[i]? =none:=Array.getElem?_eq_none (by omega)
  exact⟨by unfold zbV;rw[if_neg (by omega),hn];rfl,by rw[zet,hn];rfl⟩
 sep:=fun i j R S hi hj ai aj e=>by
  obtain⟨o,ho,-⟩:=ai
  obtain⟨o',ho',-⟩:=aj
  obtain⟨_,_,_,_,rfl⟩:=zdX hi ho
  obtain⟨_,_,_,_,rfl⟩:=zdX hj ho'
  exact e
 blk:=fun i R hi=>by
  rcases zcp hi with⟨-,_,_,_,hb,rfl⟩| ⟨-,hc⟩
  ·exact(Array.getElem?_eq_some_iff.1 hb).1
  ·exact zfV hc
 glb:=fun i b x hi=>by
  rw[zet] at hi
  obtain⟨o,-,ho⟩:=aof hi
  cases o<;>cases ho
def okArg (W:World):Value→Bool
 |.agg cs=>cs.toList.all (okV W)
 |v=>okV W v
theorem okArg_rel {W:World} {v:Value} (h:okArg W v=true):VR (zbV W) v v:=by
 unfold okArg at h
 split at h
 ·rename_i cs
  have:VRL (zbV W) cs.toList cs.toList:=⟨rfl,fun j x y hx hy=>by rw[hx] at hy;cases hy;exact okV_rel (List.all_eq_true.1 h x (List.mem_of_getElem? hx))⟩
  exact VR.agg_of this
 ·exact okV_rel h
theorem calls_import {F:FuncId→Option zd} (hmix:P.follows .mixedOrders=true) (hF: ∀g cf,F g=some cf→FnOk P g cf) {g:FuncId} {args:Array Value} {W:World} (hargs: ∀v∈args.toList,okArg W v=true)
 {b:Bool} {n:Nat} {h':H} (hn:E F n (.call (.func (.func g) #[] #[]) args.toList (impH W))=some (.val (.bool b) h')) (hfr: ∀i,i<W.heap.size→h'.get i=(impH W).get i):
 Calls P g args W fun e W'=>e=.returned (.bool b)∧Same W W':=by
 have ra:VRL (zbV W) args.toList args.toList:=⟨rfl,fun j x y hx hy=>by rw[hx] at hy;cases hy;exact okArg_rel (hargs x (List.mem_of_getElem? hx))⟩
 refine(zcf hmix hF hn ra (imp_HR W)).mono ?_
 rintro e W' ⟨v',σ,rfl,hv,hr,hx⟩
 refine⟨by rw[hv.inv_bool],hx.os,hx.out,fun B hB=> ?_,hx.froz,hx.td,hx.size⟩
 by_cases hc:zbm W B=true
 ·obtain⟨R,hR,hb,h0⟩:=zcI hc
  obtain⟨-,c,t,fr,hWB,rfl⟩:=(zcp hR).resolve_right (fun h=>by omega)
  have ho:=hr.obj B _ _ (hx.le _ _ hR) (by rw[hfr B hB];exact zfX hWB)
  obtain⟨_,_,c',t',fr',q1,q2,_⟩:=ho
  rcases q2 with⟨q2,_⟩| ⟨q2,_⟩
  ·cases q2
  ·rw[q1,hWB];exact(q2.symm▸rfl:some (Obj.cells c' t' fr')=some (Obj.cells c t fr))
 ·refine hx.frame B hB fun i R hi e=> ?_
  rcases zcp hi with⟨-,c,t,fr,hWB,rfl⟩| ⟨-,hcc⟩
  ·have e:i=B:=e
   subst e
   exact hc (by unfold zbm;rw[hWB])
  ·rw[e] at hcc;exact hc hcc
theorem prim_of {F:FuncId→Option zd} (hmix:P.follows .mixedOrders=true) (hF: ∀g cf,F g=some cf→FnOk P g cf) {g:FuncId} {fn:Func} {cf0:zd} (hfn:P.funcs[g]? =some fn) (hcf:za P fn=some (zb cf0)) {b:Bool} {n:Nat} {h':H}
 (he:E F n (.call (.func (.func g) #[] #[]) [] .empty)=some (.val (.bool b) h')):FnOk P g (primF b):=by
 refine .inr (.inl ⟨fn,cf0,b,hfn,hcf,rfl,fun w=> ?_⟩)
 have hr:HR P (fun _=>none) H.empty w:=⟨fun _ _ _ h=>(by cases h),fun i _=>⟨rfl,PT.get_nil _⟩,fun _ _ _ _ h=>(by cases h),fun _ _ h=>(by cases h),fun i _ _ h=>by rw[H.get_empty] at h;cases h⟩
 refine(zcf hmix hF he (args':= #[]) ⟨rfl,fun j x y hx=>by simp at hx⟩ hr).mono ?_
 rintro e w' ⟨v',σ,rfl,hv,-,hx⟩
 exact⟨by rw[hv.inv_bool],hx.os,hx.out,fun B hB=>hx.frame B hB fun _ _ h=>(by cases h),hx.froz,hx.td,hx.size⟩
theorem calls_closed {F:FuncId→Option zd} (hmix:P.follows .mixedOrders=true) (hF: ∀g cf,F g=some cf→FnOk P g cf) {g:FuncId} {b:Bool} {n:Nat} {h':H}
 (he:E F n (.call (.func (.func g) #[] #[]) [] .empty)=some (.val (.bool b) h')) (w:World):Calls P g #[] w fun e w'=>e=.returned (.bool b)∧Same w w':=by
 have hr:HR P (fun _=>none) H.empty w:=⟨fun _ _ _ h=>(by cases h),fun i _=>⟨rfl,PT.get_nil _⟩,fun _ _ _ _ h=>(by cases h),fun _ _ h=>(by cases h),fun i _ _ h=>by rw[H.get_empty] at h;cases h⟩
 refine(zcf hmix hF he (args':= #[]) ⟨rfl,fun j x y hx=>by simp at hx⟩ hr).mono ?_
 rintro e w' ⟨v',σ,rfl,hv,-,hx⟩
 exact⟨by rw[hv.inv_bool],hx.os,hx.out,fun B hB=>hx.frame B hB fun _ _ h=>(by cases h),hx.froz,hx.td,hx.size⟩
def globH (b:Nat) (x:Value):H:=H.empty.new (.glob b x)
def zdh (b:Nat) (o:Obj) (i:Nat):Option RB:=if i=0 then some ⟨b,0,0,0,0,some o⟩ else none
theorem glob_HR {b:Nat} {x:Value} {W:World} {c:Array Value} {t:TypeId} {fr:Nat×Nat} (hW:W.heap[b]? =some (.cells c t fr)) (hx:c[0]? =some x):HR P (zdh b (.cells c t fr)) (globH b x) W where
 obj:=fun i R o hi ho=>by
  unfold zdh at hi
  split at hi
  ·rename_i e;subst e;cases hi
   have ho:(globH b x).get 0=some o:=ho
   rw[show(globH b x).get 0=some (.glob b x) from by unfold globH;rw[H.get_new];exact if_pos rfl] at ho
   cases ho
   exact⟨rfl,c,t,fr,rfl,hW,hx⟩
  ·cases hi
 nxt:=fun i hi=>by
  have hi:1≤i:=hi
  refine⟨by unfold zdh;rw[if_neg (by omega)],?_⟩
  unfold globH;rw[H.get_new,if_neg (by show¬(0=i);omega)];exact PT.get_nil _
 sep:=fun i j R S hi hj _ _ _=>by
  unfold zdh at hi hj
  split at hi
  ·split at hj
   ·rename_i a b;rw[a,b]
   ·cases hj
  ·cases hi
 blk:=fun i R hi=>by
  unfold zdh at hi
  split at hi
  ·cases hi;exact(Array.getElem?_eq_some_iff.1 hW).1
  ·cases hi
 glb:=fun i b' x' hi=>by
  unfold globH at hi
  rw[H.get_new] at hi
  by_cases e:H.empty.next=i
  ·subst e;exact⟨_,rfl⟩
  ·rw[if_neg e,H.get_empty] at hi;cases hi
theorem calls_glob {F:FuncId→Option zd} (hmix:P.follows .mixedOrders=true) (hF: ∀g cf,F g=some cf→FnOk P g cf) {g:FuncId} {b n:Nat} {x:Value} {h':H} {t:Bool}
 (he:E F n (.call (.func (.func g) #[] #[]) [] (globH b x))=some (.val (.bool t) h')) (hg:h'.get 0=some (.glob b x)) {W:World} (hW:W.cell? ⟨b,0,none⟩=some x):Calls P g #[] W fun e W'=>e=.returned (.bool t)∧Same W W':=by
 obtain⟨c,ty,fr,hb,hx⟩: ∃c t fr,W.heap[b]? =some (.cells c t fr)∧c[0]? =some x:=by
  unfold World.cell? at hW
  dsimp only at hW
  split at hW
  ·rename_i hb;exact⟨_,_,_,hb,hW⟩
  ·cases hW
 refine(zcf hmix hF he (args':= #[]) ⟨rfl,fun j x y hx=>by simp at hx⟩ (glob_HR hb hx)).mono ?_
 rintro e w' ⟨v',σ,rfl,hv,hr,hx'⟩
 refine⟨by rw[hv.inv_bool],hx'.os,hx'.out,fun B hB=> ?_,hx'.froz,hx'.td,hx'.size⟩
 have h0:zdh b (.cells c ty fr) 0=some ⟨b,0,0,0,0,some (.cells c ty fr)⟩:=rfl
 by_cases e:B=b
 ·subst e
  obtain⟨-,c',t',fr',q1,q2,-⟩:=hr.obj 0 _ _ (hx'.le _ _ h0) hg
  rw[q2,hb,←q1]
 ·refine hx'.frame B hB fun i R hi e'=> ?_
  unfold zdh at hi
  split at hi
  ·cases hi;exact e e'.symm
  ·cases hi
section
open Go.ChangeShapes Go.WideShapes Go.RowKit
variable {H:Type} {enc:TypeId×Value→H}
theorem Same.kept {W W':World} (h:Same W W') (may:MemPlace→Prop):W.keptBut W' may:=by
 refine⟨h.os,h.out,fun i hi=> ?_⟩
 rw[h.heap i hi]
 cases ho:W.heap[i]? with
 |none=>trivial
 |some o=>
  cases o with
  |cells c t fr=>exact⟨rfl,rfl,rfl,fun _ _=>rfl⟩
  |map es c=>exact .inr ⟨rfl,rfl⟩
  |_=>rfl
theorem Same.at {W W':World} (h:Same W W') {p:MemPlace} (hp:p.block<W.heap.size):W.sameAt W' p:=by
 cases p with
 |cell b off=>
  show W'.cell? ⟨b,off,none⟩=W.cell? ⟨b,off,none⟩
  have:=h.heap b hp
  simp only[World.cell?,this]
 |map b=>exact h.heap b hp
theorem zdo (hl:laidOutB P=true) {W W':World} {sp':Nat→Bool} (hs:Same W W'): ∀{ts:List TypeId} {vs:List Value} {ds:List (DataW H)} {ps:List MemPlace},(∀t∈ts,P.readableRec t=true∧t<P.types.size)→
 DataW.TrodAll enc P W 0 (fun _=>true) true ts vs ds ps→(∀p∈ps,p.block<W.heap.size)→(∀p∈ps,sp' p.block=true)→DataW.TrodAll enc P W' 0 sp' true ts vs ds ps
 | [],vs,ds,ps,_,h,_,_=>by
   obtain⟨rfl,rfl,rfl⟩:=trodAll_nil h
   exact trodAll_mk0
 |t::ts,vs,ds,ps,ht,h,hlt,hsp=>by
  obtain⟨v,vs',d,ds',p,q,rfl,rfl,rfl,h1,h2⟩:=trodAll_cons h
  obtain⟨r1,r2⟩:=ht t (by simp)
  exact trodAll_cons_mk (WideElems.Trod_stays hl r1 r2 h1 (fun x hx=>hs.at (hlt x (by simp[hx]))) (fun x hx=>hsp x (by simp[hx])))
   (zdo hl hs (fun t ht'=>ht t (by simp[ht'])) h2 (fun x hx=>hlt x (by simp[hx])) (fun x hx=>hsp x (by simp[hx])))
theorem post_kept {f:Func} {s:ChangeSpec} {apart fresh handsOn again:Bool} {W W':World} {args:Array Value} {v:Value} {ds gs:List (DataW H)} {before pa pv:List MemPlace}
 (hW:DataW.Whole enc P f.params.toList s.vars apart W args.toList ds gs before)
 (hres: ∀(b:Nat) (sp:Nat→Bool) (hd:Bool),DataW.TrodAll enc P W' b sp hd f.resultTypes.toList (v.resultList f.resultTypes.size) (s.fn H (ds++gs)).results [])
 (hargs: ∀sp:Nat→Bool,(∀p∈before,sp p.block=true)→DataW.TrodAll enc P W' 0 sp true f.params.toList args.toList (s.fn H (ds++gs)).args pa)
 (hvars: ∀sp:Nat→Bool,(∀p∈before,sp p.block=true)→DataW.TrodVars enc P W' sp s.vars (s.fn H (ds++gs)).vars pv)
 (hps:before=pa++pv) (hk:W.keptBut W' (· ∈before)) (hfz: ∀a:Addr,a.block<W.heap.size→W'.frozen? a=W.frozen? a)
 (hok: ∀(j:Nat) (t:TypeId) (r:Value),f.resultTypes[j]? =some t→(v.resultList f.resultTypes.size)[j]? =some r→Value.okWide P W' .any 0 t r):
 s.post enc P f apart fresh handsOn again W args v W':=by
 refine⟨ds,gs,before,[],pa,pv,hW,hres _ _ _,hargs _ fun p hp=>by simpa using hW.lt p hp,hvars _ fun p hp=>by simpa using hW.lt p hp,World.keptBut_mono (fun p hp=>⟨hp,?_⟩) hk,fun _=> ?_⟩
 ·rw[hps,List.mem_append] at hp
  exact Or.inr hp
 ·have hlt:=hW.lt
  obtain⟨_,_,_,_,_,hz,hn⟩:=hW
  refine⟨hok,_,_,([]++pa)++pv,⟨[]++pa,pv,trodAll_append (hargs _ (fun _ _=>rfl)) (hres _ _ _),hvars _ (fun _ _=>rfl),rfl,fun b off hp=> ?_,fun ha=> ?_⟩,fun p hp _=> ?_⟩
  ·have hb:MemPlace.cell b off∈before:=by rw[hps];simpa using hp
   rw[hfz ⟨b,off,none⟩ (hlt _ hb)]
   exact hz b off hb
  ·have:=hn ha
   rw[hps] at this
   simpa using this
  ·rw[hps]
   simpa using hp
theorem law_post {s:ChangeSpec} {fn:Func} {apart fresh handsOn again:Bool} {W W':World} {args:Array Value} {ds gs:List (DataW H)} {before:List MemPlace} {t:TypeId} (hW:DataW.Whole enc P fn.params.toList s.vars apart W args.toList ds gs before)
 (hvars:s.vars=[]) (hspec:s.fn H (ds++gs)={results:=[.lit (.bool true)],args:=ds}) (hres:fn.resultTypes= #[t]) (ht:P.underlying t=some .bool) (hsame:Same W W') (hl:laidOutB P=true) (hr: ∀t∈fn.params.toList,P.readableRec t=true∧t<P.types.size):
 s.post enc P fn apart fresh handsOn again W args (.bool true) W':=by
 have hW':=hW
 obtain⟨p,q,hA,hV,rfl,hfz,hnd⟩:=hW
 rw[hvars] at hV
 obtain⟨rfl,rfl⟩:=trodVars_none hV
 refine post_kept (pa:=p) (pv:=[]) hW' (fun b sp hd=> ?_) (fun sp hsp=> ?_) (fun sp hsp=> ?_) rfl (hsame.kept _) hsame.froz ?_
 ·rw[hspec,hres]
  exact trodAll_mk1 (shut_bool ht true)
 ·rw[hspec]
  exact zdo hl hsame hr hA (fun x hx=>hW'.lt x (by simp[hx])) (fun x hx=>hsp x (by simp[hx]))
 ·rw[hspec,hvars];rfl
 ·exact ok_one hres rfl (okWide_bool_mk ht true)
end
end
end Go.Ideal
namespace Go.Ideal
noncomputable section
variable {P:Program}
def allEq {α:Type} (f:α→α→Bool):List α→List α→Bool
 | [],[]=>true
 |a::l,b::m=>f a b&&allEq f l m
 |_,_=>false
theorem zcZ {α:Type} {f:α→α→Bool} (hf: ∀a b,f a b=true→a=b): ∀{l m:List α},allEq f l m=true→l=m
 | [],[],_=>rfl
 | [],_::_,h=>by cases h
 |_::_,[],h=>by cases h
 |a::l,b::m,h=>by
  simp only[allEq,Bool.and_eq_true] at h
  rw[hf _ _ h.1,zcZ hf h.2]
def eqX:Nat→Value→Value→Bool
 |n+1,.agg a,.agg b=>allEq (eqX n) a.toList b.toList
 |n+1,.tuple a,.tuple b=>allEq (eqX n) a.toList b.toList
 |n+1,.iface t a,.iface u b=>Nat.beq t u&&eqX n a b
 |_,.nilIface,.nilIface=>true
 |_,.func (.func f) a b,.func (.func g) c d=>Nat.beq f g&&(a.isEmpty&&b.isEmpty&&(c.isEmpty&&d.isEmpty))
 |_,a,b=>eqCell a b
theorem zf0: ∀(n:Nat) (a b:Value),eqX n a b=true→a=b:=by
 intro n
 induction n with
 |zero=>
  intro a b h
  unfold eqX at h
  split at h
  ·rename_i e;exact absurd e (by simp)
  ·rename_i e;exact absurd e (by simp)
  ·rename_i e;exact absurd e (by simp)
  ·rfl
  ·simp only[Bool.and_eq_true,Array.isEmpty_iff] at h
   obtain⟨h1,⟨h2,h3⟩,h4,h5⟩:=h
   rw[Nat.eq_of_beq_eq_true h1,h2,h3,h4,h5]
  ·exact zdD h
 |succ n ih=>
  intro a b h
  unfold eqX at h
  split at h
  ·rename_i e;cases e;rw[Array.toList_inj.1 (zcZ ih h)]
  ·rename_i e;cases e;rw[Array.toList_inj.1 (zcZ ih h)]
  ·rename_i e;cases e;rw[Bool.and_eq_true] at h;rw[Nat.eq_of_beq_eq_true h.1,ih _ _ h.2]
  ·rfl
  ·simp only[Bool.and_eq_true,Array.isEmpty_iff] at h
   obtain⟨h1,⟨h2,h3⟩,h4,h5⟩:=h
   rw[Nat.eq_of_beq_eq_true h1,h2,h3,h4,h5]
  ·exact zdD h
def eqEnt (a b:Value×Value×Nat):Bool:=eqX 4 a.1 b.1&&(eqX 4 a.2.1 b.2.1&&Nat.beq a.2.2 b.2.2)
theorem eqEnt_eq (a b:Value×Value×Nat) (h:eqEnt a b=true):a=b:=by
 simp only[eqEnt,Bool.and_eq_true] at h
 obtain⟨a1,a2,a3⟩:=a
 obtain⟨b1,b2,b3⟩:=b
 have h1:=zf0 _ _ _ h.1
 have h2:=zf0 _ _ _ h.2.1
 have h3:=Nat.eq_of_beq_eq_true h.2.2
 simp only at h1 h2 h3
 rw[h1,h2,h3]
def eqObj:IObj→IObj→Bool
 |.cells a e,.cells b f=>Nat.beq e f&&allEq (eqX 4) a b
 |.map a c,.map b d=>Nat.beq c d&&allEq eqEnt a b
 |.glob b x,.glob c y=>Nat.beq b c&&eqX 4 x y
 |.dead,.dead=>true
 |_,_=>false
theorem eqObj_eq {a b:IObj} (h:eqObj a b=true):a=b:=by
 unfold eqObj at h
 split at h
 ·rw[Bool.and_eq_true] at h;rw[Nat.eq_of_beq_eq_true h.1,zcZ (zf0 4) h.2]
 ·rw[Bool.and_eq_true] at h;rw[Nat.eq_of_beq_eq_true h.1,zcZ eqEnt_eq h.2]
 ·rw[Bool.and_eq_true] at h;rw[Nat.eq_of_beq_eq_true h.1,zf0 _ _ _ h.2]
 ·rfl
 ·cases h
def liveO:IObj→Bool
 |.dead=>false
 |_=>true
def refF (S:Nat→Bool):Nat→Value→Bool
 |n+1,.agg a=>a.toList.all (refF S n)
 |n+1,.tuple a=>a.toList.all (refF S n)
 |n+1,.iface _ v=>refF S n v
 |_,.pointer (some a)=>S a.block
 |_,.slice (some a) _ _=>S a.block
 |_,.map (some i)=>S i
 |_,.func (.func _) a b=>a.isEmpty&&b.isEmpty
 |_,.bool _=>true
 |_,.int _ _=>true
 |_,.string _=>true
 |_,.pointer none=>true
 |_,.slice none _ _=>true
 |_,.map none=>true
 |_,.nilFunc=>true
 |_,.nilIface=>true
 |_,.complex _ _ _=>true
 |_,_=>false
theorem VR.agree {ρ σ:Rho} {S:Nat→Bool} (hS: ∀i,S i=true→σ i=ρ i): ∀(n:Nat) {v v':Value},VR ρ v v'→refF S n v=true→VR σ v v':=by
 intro n
 induction n with
 |zero=>
  intro v v' h hv
  cases h with
  |bool b=>exact .bool b
  |int k n=>exact .int k n
  |str s=>exact .str s
  |ptrNil=>exact .ptrNil
  |ptr h=>exact .ptr ((hS _ hv).trans h)
  |sliceNil=>exact .sliceNil
  |slice h hc hl=>exact .slice ((hS _ hv).trans h) hc hl
  |sliceO h he hl hs hb=>exact .sliceO ((hS _ hv).trans h) he hl hs hb
  |sliceE h he hb=>exact .sliceE ((hS _ hv).trans h) he hb
  |sliceD h hm=>exact .sliceD ((hS _ hv).trans h) hm
  |sliceR h he hl=>exact .sliceR ((hS _ hv).trans h) he hl
  |mapNil=>exact .mapNil
  |map h=>exact .map ((hS _ hv).trans h)
  |func f ha hb ra rb=>
   have hv:(Array.isEmpty _&&Array.isEmpty _)=true:=hv
   simp only[Bool.and_eq_true,Array.isEmpty_iff] at hv
   obtain⟨rfl,rfl⟩:=hv
   exact .func f ha hb (fun j x y hx=>by simp at hx) (fun j x y hx=>by simp at hx)
  |yield h=>cases hv
  |nilFunc=>exact .nilFunc
  |nilIface=>exact .nilIface
  |iface t h=>cases hv
  |agg ha ra=>cases hv
  |tuple ha ra=>cases hv
 |succ n ih=>
  intro v v' h hv
  cases h with
  |bool b=>exact .bool b
  |int k n=>exact .int k n
  |str s=>exact .str s
  |ptrNil=>exact .ptrNil
  |ptr h=>exact .ptr ((hS _ hv).trans h)
  |sliceNil=>exact .sliceNil
  |slice h hc hl=>exact .slice ((hS _ hv).trans h) hc hl
  |sliceO h he hl hs hb=>exact .sliceO ((hS _ hv).trans h) he hl hs hb
  |sliceE h he hb=>exact .sliceE ((hS _ hv).trans h) he hb
  |sliceD h hm=>exact .sliceD ((hS _ hv).trans h) hm
  |sliceR h he hl=>exact .sliceR ((hS _ hv).trans h) he hl
  |mapNil=>exact .mapNil
  |map h=>exact .map ((hS _ hv).trans h)
  |func f ha hb ra rb=>
   have hv:(Array.isEmpty _&&Array.isEmpty _)=true:=hv
   simp only[Bool.and_eq_true,Array.isEmpty_iff] at hv
   obtain⟨rfl,rfl⟩:=hv
   exact .func f ha hb (fun j x y hx=>by simp at hx) (fun j x y hx=>by simp at hx)
  |yield h=>cases hv
  |nilFunc=>exact .nilFunc
  |nilIface=>exact .nilIface
  |iface t h=>exact .iface t (ih h hv)
  |agg ha ra=>
   exact .agg ha (fun j x y hx hy=>ih (ra j x y hx hy) (List.all_eq_true.1 (show(Array.toList _).all (refF S n)=true from hv) x (Array.mem_toList_iff.2 (Array.mem_of_getElem? hx))))
  |tuple ha ra=>
   exact .tuple ha (fun j x y hx hy=>ih (ra j x y hx hy) (List.all_eq_true.1 (show(Array.toList _).all (refF S n)=true from hv) x (Array.mem_toList_iff.2 (Array.mem_of_getElem? hx))))
def refO (S:Nat→Bool):IObj→Bool
 |.cells cs _=>cs.all (refF S 4)
 |.map es _=>es.all fun e=>refF S 4 e.1&&refF S 4 e.2.1
 |.glob _ _=>true
 |.dead=>true
 |.loop _ _ _ _=>false
theorem OR.agree {ρ σ:Rho} {S:Nat→Bool} (hS: ∀i,S i=true→σ i=ρ i) {w:World} {R:RB} {o:IObj} (h:OR P ρ w R o) (ho:refO S o=true):OR P σ w R o:=by
 cases o with
 |cells cs esz=>
  obtain⟨h1,h2,c,t,fr,h3,h7,h4,h5,h6⟩:=h
  exact⟨h1,h2,c,t,fr,h3,h7,h4,h5,fun j v hj=>let⟨v',a,b⟩:=h6 j v hj;⟨v',a,b.imp id (fun b=>b.agree hS 4 (List.all_eq_true.1 ho v (List.mem_of_getElem? hj)))⟩⟩
 |map es clock=>
  obtain⟨es',h1,h2,h3⟩:=h
  refine⟨es',h1,h2,fun j e hj=> ?_⟩
  obtain⟨e',a,b,c,d⟩:=h3 j e hj
  have:=List.all_eq_true.1 ho e (List.mem_of_getElem? hj)
  rw[Bool.and_eq_true] at this
  exact⟨e',a,b.agree hS 4 this.1,c.agree hS 4 this.2,d⟩
 |glob b x=>exact h
 |loop _ _ _ _=>cases ho
 |dead=>trivial
theorem VRL.agree {ρ σ:Rho} {S:Nat→Bool} (hS: ∀i,S i=true→σ i=ρ i) {xs ys:List Value} (h:VRL ρ xs ys) (hx:xs.all (refF S 4)=true):VRL σ xs ys:=
 ⟨h.1,fun j x y h1 h2=>(h.2 j x y h1 h2).agree hS 4 (List.all_eq_true.1 hx x (List.mem_of_getElem? h1))⟩
structure zbs where
 args:List Value
 next:Nat
 pre:List (Nat×IObj)
 val:Value
 next':Nat
 post:List (Nat×IObj)
def zeJ (l:List (Nat×IObj)) (t:PT IObj):PT IObj:=List.rec (motive:=fun _=>PT IObj) t (fun x _ ih=>ih.set (bits x.1) x.2) l
def matchH (h:H) (l:List (Nat×IObj)):Bool:=l.all fun x=>match h.get x.1 with
 |some o=>eqObj o x.2
 |none=>false
def zE (l:List (Nat×IObj)) (i:Nat):Bool:=l.any fun x=>Nat.beq x.1 i
def zbs.fits (p:zbs) (args:List Value) (h:H):Bool:=Nat.beq h.next p.next&&(allEq (eqX 4) args p.args&&matchH h p.pre)
def zbs.out (p:zbs) (h:H):Value×H:=(p.val,⟨p.next',zeJ p.post h.mem⟩)
def zco (l:List zbs) (args:List Value) (h:H):Option (Value×H):=
 List.rec (motive:=fun _=>Option (Value×H)) none (fun p _ ih=>match p.fits args h with|true=>some (p.out h)|false=>ih) l
def zbs.start (p:zbs):H:=⟨p.next,zeJ p.pre .nil⟩
def zbs.ends (p:zbs):Option Out→Bool
 |some (.val v h)=>eqX 4 v p.val&&(Nat.beq h.next p.next'&&matchH h p.post)
 |_=>false
def zbs.runs (F:FuncId→Option zd) (n:Nat) (g:FuncId) (p:zbs):Bool:=p.ends (E F n (.call (.func (.func g) #[] #[]) p.args p.start))
def zbs.good (p:zbs):Bool:=
 Nat.ble p.next p.next'&&(p.pre.all (fun x=>Nat.blt x.1 p.next&&zE p.post x.1)&&(p.post.all (fun x=>zE p.pre x.1||(Nat.ble p.next x.1&&Nat.blt x.1 p.next'))&&
 (p.args.all (refF (zE p.pre) 4)&&(p.pre.all (fun x=>liveO x.2&&refO (zE p.pre) x.2)&&(refF (zE p.post) 4 p.val&&p.post.all (fun x=>refO (zE p.post) x.2))))))
theorem hasId_iff {l:List (Nat×IObj)} {i:Nat}:zE l i=true↔ ∃o,(i,o)∈l:=by
 unfold zE
 rw[List.any_eq_true]
 constructor
 ·rintro⟨⟨j,o⟩,h1,h2⟩;exact⟨o,by rw[←Nat.eq_of_beq_eq_true h2];exact h1⟩
 ·rintro⟨o,h⟩;exact⟨(i,o),h,Nat.beq_refl i⟩
theorem zfK {l:List (Nat×IObj)} {t:PT IObj} {i:Nat} (h:zE l i=false):(zeJ l t).get (bits i)=t.get (bits i):=by
 induction l with
 |nil=>rfl
 |cons x l ih=>
  have h':(Nat.beq x.1 i||zE l i)=false:=h
  rw[Bool.or_eq_false_iff] at h'
  show((zeJ l t).set (bits x.1) x.2).get (bits i)=_
  rw[PT.get_set_bits,if_neg (by rintro rfl;rw[Nat.beq_refl] at h';cases h'.1),ih h'.2]
theorem setAll_in {l:List (Nat×IObj)} {t:PT IObj} {i:Nat} (h:zE l i=true): ∃o,(i,o)∈l∧(zeJ l t).get (bits i)=some o:=by
 induction l with
 |nil=>cases h
 |cons x l ih=>
  have e:(zeJ (x::l) t).get (bits i)=if x.1=i then some x.2 else(zeJ l t).get (bits i):=PT.get_set_bits _ _ _ _
  rw[e]
  by_cases hi:x.1=i
  ·rw[if_pos hi];exact⟨x.2,by subst hi;simp,rfl⟩
  ·rw[if_neg hi]
   have h':(Nat.beq x.1 i||zE l i)=true:=h
   rw[Bool.or_eq_true] at h'
   obtain⟨o,h1,h2⟩:=ih (h'.resolve_left fun e=>hi (Nat.eq_of_beq_eq_true e))
   exact⟨o,by simp[h1],h2⟩
theorem zfT {h:H} {l:List (Nat×IObj)} (hm:matchH h l=true) {i:Nat} {o:IObj} (hi:(i,o)∈l):h.get i=some o:=by
 have:=List.all_eq_true.1 hm _ hi
 dsimp only at this
 split at this
 ·rename_i o' ho;have e:=eqObj_eq this;subst e;exact ho
 ·cases this
theorem piece_calls {F:FuncId→Option zd} (hmix:P.follows .mixedOrders=true) (hF: ∀g cf,F g=some cf→FnOk P g cf) {n:Nat} {g:FuncId} {p:zbs} (hg:p.good=true) (hrun:p.runs F n g=true)
 {args:List Value} {h:H} (hfit:p.fits args h=true) {ρ:Rho} {args':Array Value} {w:World} (ra:VRL ρ args args'.toList) (hr:HR P ρ h w):
 Calls P g args' w (zen P ρ w (.val (p.out h).1 (p.out h).2)):=by
 simp only[zbs.good,Bool.and_eq_true] at hg
 obtain⟨g1,g2,g3,g4,g5,g6,g7⟩:=hg
 simp only[zbs.fits,Bool.and_eq_true] at hfit
 obtain⟨f1,f2,f3⟩:=hfit
 have f2:=zcZ (zf0 4) f2
 subst f2
 have f1:=Nat.eq_of_beq_eq_true f1
 have g1:=Nat.le_of_ble_eq_true g1
 have preLt: ∀i,zE p.pre i=true→i<p.next∧zE p.post i=true:=fun i hi=>by
  obtain⟨o,ho⟩:=hasId_iff.1 hi
  have:=List.all_eq_true.1 g2 _ ho
  rw[Bool.and_eq_true] at this
  exact⟨Nat.le_of_ble_eq_true this.1,this.2⟩
 have postIn: ∀i,zE p.post i=true→zE p.pre i=true∨(p.next≤i∧i<p.next'):=fun i hi=>by
  obtain⟨o,ho⟩:=hasId_iff.1 hi
  have:=List.all_eq_true.1 g3 _ ho
  rw[Bool.or_eq_true,Bool.and_eq_true] at this
  exact this.imp id fun h=>⟨Nat.le_of_ble_eq_true h.1,Nat.le_of_ble_eq_true h.2⟩
 have preGet: ∀i,zE p.pre i=true→ ∃o,h.get i=some o∧o≠ .dead∧p.start.get i=some o∧refO (zE p.pre) o=true:=fun i hi=>by
  obtain⟨o,h1,h2⟩:=setAll_in (t:=.nil) hi
  have q1:=zfT f3 h1
  have q4:=List.all_eq_true.1 g5 _ h1
  rw[Bool.and_eq_true] at q4
  exact⟨o,q1,by rintro rfl;exact Bool.false_ne_true q4.1,h2,q4.2⟩
 have preNo: ∀i,zE p.pre i=false→p.start.get i=none:=fun i hi=>(zfK hi).trans (PT.get_nil _)
 obtain⟨ρ',hρ'⟩: ∃ρ':Rho,∀i,ρ' i=if zE p.pre i=true then ρ i else none:=⟨_,fun _=>rfl⟩
 have agr: ∀i,zE p.pre i=true→ρ' i=ρ i:=fun i hi=>by rw[hρ',if_pos hi]
 have sub: ∀i R,ρ' i=some R→zE p.pre i=true∧ρ i=some R:=fun i R hi=>by
  rw[hρ'] at hi
  split at hi
  ·rename_i hc;exact⟨hc,hi⟩
  ·cases hi
 have hr':HR P ρ' p.start w:={
  obj:=fun i R o hi ho=>by
   obtain⟨hc,hi⟩:=sub i R hi
   obtain⟨o',q1,q2,q3,q4⟩:=preGet i hc
   have e:o'=o:=Option.some.inj (q3.symm.trans ho)
   subst e
   exact(hr.obj i R o' hi q1).agree agr q4
  nxt:=fun i hi=>by
   have hi:p.next≤i:=hi
   have hc:zE p.pre i=false:=by
    rw[Bool.eq_false_iff];intro hc;have:=(preLt i hc).1;omega
   exact⟨by rw[hρ',if_neg (by rw[hc];simp)],preNo i hc⟩
  sep:=fun i j R S hi hj _ _ e=>by
   obtain⟨hc,hi⟩:=sub i R hi
   obtain⟨hd,hj⟩:=sub j S hj
   obtain⟨o,q1,q2,-,-⟩:=preGet i hc
   obtain⟨o',r1,r2,-,-⟩:=preGet j hd
   exact hr.sep i j R S hi hj ⟨o,q1,q2⟩ ⟨o',r1,r2⟩ e
  blk:=fun i R hi=>hr.blk i R (sub i R hi).2
  glb:=fun i b x hi=>by
   cases hc:zE p.pre i with
   |false=>rw[preNo i hc] at hi;cases hi
   |true=>
    obtain⟨o',q1,-,q3,-⟩:=preGet i hc
    have e:o'=.glob b x:=Option.some.inj (q3.symm.trans hi)
    subst e
    obtain⟨R,hR⟩:=hr.glb i b x q1
    exact⟨R,(agr i hc).trans hR⟩}
 have ra':VRL ρ' p.args args'.toList:=ra.agree agr g4
 unfold zbs.runs at hrun
 generalize he:E F n (.call (.func (.func g) #[] #[]) p.args p.start)=out at hrun
 unfold zbs.ends at hrun
 split at hrun
 ·rename_i v h2
  simp only[Bool.and_eq_true] at hrun
  obtain⟨e1,e2,e3⟩:=hrun
  obtain rfl:=zf0 _ _ _ e1
  have e2:=Nat.eq_of_beq_eq_true e2
  refine(zcf hmix hF he ra' hr').mono ?_
  rintro e w' ⟨v',σ2,rfl,hv,hr2,hx⟩
  obtain⟨σ,hσ⟩: ∃σ:Rho,∀i,σ i=if zE p.post i=true then σ2 i else ρ i:=⟨_,fun _=>rfl⟩
  have agr2: ∀i,zE p.post i=true→σ i=σ2 i:=fun i hi=>by rw[hσ,if_pos hi]
  have oth: ∀i,zE p.post i=false→σ i=ρ i:=fun i hi=>by rw[hσ,if_neg (by rw[hi];simp)]
  have le:zdH ρ σ:=fun i R hi=>by
   cases hc:zE p.post i with
   |false=>rw[oth i hc];exact hi
   |true=>
    rw[agr2 i hc]
    rcases postIn i hc with hp| ⟨hp,-⟩
    ·exact hx.le i R ((agr i hp).trans hi)
    ·have:=(hr.nxt i (by omega)).1;rw[hi] at this;cases this
  have postGet: ∀i,zE p.post i=true→ ∃o,h2.get i=some o∧(p.out h).2.get i=some o∧refO (zE p.post) o=true:=fun i hi=>by
   obtain⟨o,h1,h3⟩:=setAll_in (t:=h.mem) hi
   have q1:=zfT e3 h1
   exact⟨o,q1,h3,List.all_eq_true.1 g7 _ h1⟩
  have postNo: ∀i,zE p.post i=false→(p.out h).2.get i=h.get i:=fun i hi=>zfK hi
  have apart: ∀i R j S,zE p.post i=true→σ2 i=some R→zE p.post j=false→ρ j=some S→zci h j→R.blk≠S.blk:=fun i R j S hi hiR hj hjS aj e=>by
   rcases hx.fresh i R hiR with⟨k,T,hk,hT⟩|hb
   ·obtain⟨hc,hk⟩:=sub k T hk
    obtain⟨o,q1,q2,-,-⟩:=preGet k hc
    have:=hr.sep k j T S hk hjS ⟨o,q1,q2⟩ aj (hT.trans e)
    subst this
    rw[(preLt k hc).2] at hj;cases hj
   ·have:=hr.blk j S hjS;omega
  have hrN:HR P σ (p.out h).2 w':={
   obj:=fun i R o hi ho=>by
    cases hc:zE p.post i with
    |true=>
     rw[agr2 i hc] at hi
     obtain⟨o',q1,q3,q4⟩:=postGet i hc
     have e:o'=o:=Option.some.inj (q3.symm.trans ho)
     subst e
     exact(hr2.obj i R o' hi q1).agree agr2 q4
    |false=>
     rw[oth i hc] at hi
     rw[postNo i hc] at ho
     by_cases hd:o=.dead
     ·subst hd;trivial
     ·refine(hr.obj i R o hi ho).mono le (hx.frame _ (hr.blk i R hi) fun j S hj e=> ?_)
      obtain⟨hp,hj⟩:=sub j S hj
      obtain⟨o',q1,q2,-,-⟩:=preGet j hp
      have:=hr.sep j i S R hj hi ⟨o',q1,q2⟩ ⟨o,ho,hd⟩ e
      subst this
      rw[(preLt j hp).2] at hc;cases hc
   nxt:=fun i hi=>by
    have hi:p.next'≤i:=hi
    have hc:zE p.post i=false:=by
     rw[Bool.eq_false_iff];intro hc
     rcases postIn i hc with hp|hp
     ·have:=(preLt i hp).1;omega
     ·omega
    rw[oth i hc,postNo i hc]
    exact hr.nxt i (by omega)
   sep:=fun i j R S hi hj ai aj e=>by
    have al: ∀k,zE p.post k=true→zci (p.out h).2 k→zci h2 k:=fun k hk ⟨o,h1,h3⟩=>by
     obtain⟨o',q1,q2,-⟩:=postGet k hk
     have e:o'=o:=Option.some.inj (q2.symm.trans h1)
     subst e;exact⟨o',q1,h3⟩
    have al': ∀k,zE p.post k=false→zci (p.out h).2 k→zci h k:=fun k hk ⟨o,h1,h3⟩=>⟨o,(postNo k hk).symm.trans h1,h3⟩
    cases hc:zE p.post i with
    |true=>
     rw[agr2 i hc] at hi
     cases hd:zE p.post j with
     |true=>rw[agr2 j hd] at hj;exact hr2.sep i j R S hi hj (al i hc ai) (al j hd aj) e
     |false=>rw[oth j hd] at hj;exact absurd e (apart i R j S hc hi hd hj (al' j hd aj))
    |false=>
     rw[oth i hc] at hi
     cases hd:zE p.post j with
     |true=>rw[agr2 j hd] at hj;exact absurd e.symm (apart j S i R hd hj hc hi (al' i hc ai))
     |false=>rw[oth j hd] at hj;exact hr.sep i j R S hi hj (al' i hc ai) (al' j hd aj) e
   blk:=fun i R hi=>by
    cases hc:zE p.post i with
    |true=>rw[agr2 i hc] at hi;exact hr2.blk i R hi
    |false=>rw[oth i hc] at hi;exact Nat.lt_of_lt_of_le (hr.blk i R hi) hx.size
   glb:=fun i b x hi=>by
    cases hc:zE p.post i with
    |true=>
     obtain⟨o',q1,q3,-⟩:=postGet i hc
     have e:o'=.glob b x:=Option.some.inj (q3.symm.trans hi)
     subst e
     obtain⟨R,hR⟩:=hr2.glb i b x q1
     exact⟨R,(agr2 i hc).trans hR⟩
    |false=>
     rw[postNo i hc] at hi
     obtain⟨R,hR⟩:=hr.glb i b x hi
     exact⟨R,(oth i hc).trans hR⟩}
  refine⟨_,_,v',σ,rfl,rfl,hv.agree agr2 4 g6,hrN,le,hx.size,fun i R hi=> ?_,fun B hB hn=>hx.frame B hB fun i R hi=>hn i R (sub i R hi).2,hx.loops,hx.os,hx.out,hx.froz,hx.td⟩
  cases hc:zE p.post i with
  |true=>
   rw[agr2 i hc] at hi
   rcases hx.fresh i R hi with⟨j,S,hj,e⟩|hb
   ·exact .inl ⟨j,S,(sub j S hj).2,e⟩
   ·exact .inr hb
  |false=>rw[oth i hc] at hi;exact .inl ⟨i,R,hi,rfl⟩
 ·cases hrun
theorem zbJ (hmix:P.follows .mixedOrders=true) {g:FuncId} {fn:Func} {cf0:zd} (hfn:P.funcs[g]? =some fn) (hcf:za P fn=some (zb cf0))
 {l:List zbs} (hl: ∀p∈l,p.good=true∧ ∃F n,(∀g cf,F g=some cf→FnOk P g cf)∧p.runs F n g=true):FnOk P g (primW (zco l) cf0):=by
 refine .inr (.inr (.inr ⟨_,fn,cf0,rfl,⟨fun args w=> ?_,fun args h v h' hp ρ args' w ra hr=> ?_⟩,hfn,hcf⟩))
 ·obtain⟨hname,c,hbody,-⟩:=zN hcf
  have hne: ¬fn.name= "runtime.NumGoroutine" :=by simpa using hname
  simp[callFunc,hfn,hne,hbody]
 ·induction l with
  |nil=>cases hp
  |cons p l ih=>
   have hp:(match p.fits args h with|true=>some (p.out h)|false=>zco l args h)=some (v,h'):=hp
   split at hp
   ·rename_i hfit
    obtain⟨q1,F,n,hF,q2⟩:=hl p (by simp)
    have e:p.out h=(v,h'):=Option.some.inj hp
    have:=piece_calls hmix hF q1 q2 hfit ra hr
    rw[e] at this;exact this
   ·exact ih (fun p hp=>hl p (by simp[hp])) hp
def lookE (l:List (Nat×zd)) (g:Nat):Option zd:=List.rec (motive:=fun _=>Option zd) none (fun p _ ih=>match Nat.beq p.1 g with|true=>some p.2|false=>ih) l
theorem zeX: ∀{t:List (Nat×zd)} {g:Nat} {cf:zd},lookE t g=some cf→ ∃p∈t,p.1=g∧p.2=cf
 | [],g,x,h=>by cases h
 |p::t,g,x,h=>by
  have h:(match Nat.beq p.1 g with|true=>some p.2|false=>lookE t g)=some x:=h
  split at h
  ·rename_i e;cases h;exact⟨p,by simp,Nat.eq_of_beq_eq_true e,rfl⟩
  ·obtain⟨q,hq,e⟩:=zeX h;exact⟨q,by simp[hq],e⟩
def overF (l:List (Nat×zd)) (F:FuncId→Option zd):FuncId→Option zd:=fun g=>match lookE l g with
 |some cf=>some cf
 |none=>F g
theorem over_ok {l:List (Nat×zd)} {F:FuncId→Option zd} (hl: ∀p∈l,FnOk P p.1 p.2) (hF: ∀g cf,F g=some cf→FnOk P g cf): ∀g cf,overF l F g=some cf→FnOk P g cf:=by
 intro g cf h
 unfold overF at h
 split at h
 ·rename_i c hc;cases h;obtain⟨p,hp,rfl,rfl⟩:=zeX hc;exact hl p hp
 ·exact hF g cf h
theorem look_ok {l:List (Nat×zd)} (hl: ∀p∈l,FnOk P p.1 p.2): ∀g cf,lookE l g=some cf→FnOk P g cf:=fun g cf h=>by
 obtain⟨p,hp,rfl,rfl⟩:=zeX h;exact hl p hp
def endsT (x:Value):Option Out→Bool
 |some (.val (.bool true) h)=>(match h.get 0 with|some o=>eqObj o (.glob 0 x)|none=>false)
 |_=>false
theorem endsT_some {x:Value} {o:Option Out} (h:endsT x o=true): ∃h',o=some (.val (.bool true) h')∧h'.get 0=some (.glob 0 x):=by
 unfold endsT at h
 split at h
 ·rename_i h'
  split at h
  ·rename_i o ho;exact⟨_,rfl,by rw[ho,eqObj_eq h]⟩
  ·cases h
 ·cases h
def endsTrue:Option Out→Bool
 |some (.val (.bool true) _)=>true
 |_=>false
theorem endsTrue_some {o:Option Out} (h:endsTrue o=true): ∃h',o=some (.val (.bool true) h'):=by
 unfold endsTrue at h
 split at h
 ·exact⟨_,rfl⟩
 ·cases h
end
end Go.Ideal
