/- A part of the proof: the ideal machine, and what the functions of the program answer over it. -/
import Derived.RecoverIn
import Derived.Test.YtjkoholloclgeaaGreatDoorB
set_option linter.unusedSimpArgs false
set_option linter.unusedVariables false
set_option linter.unusedSectionVars false
namespace Go.Ideal
variable {P:Program}
theorem zb5.tail_put {ρ:Rho} {w:World} {D:Nat} {Ds:List Nat} (h:zb5 ρ w (D::Ds)) (o:Obj):zb5 ρ (w.putObj D o) Ds:=by
 obtain⟨h1,h2⟩:=List.nodup_cons.1 h.nodup
 refine⟨h2,fun D' hD'=> ?_⟩
 obtain⟨q1,q2,q3⟩:=h.ok D' (by simp[hD'])
 have hne:D'≠D:=fun e=>h1 (e▸hD')
 exact⟨by simpa using q1,q2,by rw[World.putObj_heap_other hne];exact q3⟩
theorem zdg {fn:Func} {rs:List CR} (hc:allO (zZ P) fn.results.toList=some rs) {s:zl} {tmps:Array Value} {h:H} {o:Out} (ho:zf5 rs s h=some o) {ρ0:Rho} {w0:World} {σ:Rho} (hs:SR σ s tmps):
 ∀(Ds:List Nat) (w:World),zb5 σ w Ds→(∀D∈Ds,w0.heap.size≤D)→HR P σ h w→Ext ρ0 w0 σ w→LeavesInM Fence.wide 0 P fn tmps (zgv P ρ0 w0 o) (Ds.map zI) .returning w
 | [],w,hD,hds,hr,he=>by
   obtain⟨v,v',rfl,h1,h2⟩:=zih hc hr hs ho
   exact⟨v',h1,.inl ⟨v,h,v',σ,rfl,rfl,h2,hr,he⟩⟩
 |D::Ds,w,hD,hds,hr,he=>by
  obtain⟨q1,q2,q3⟩:=hD.ok D (by simp)
  obtain⟨g1,g2⟩:=hr.shut he (o:=.deferred none) (z7 _) q3 (z7 _) (hds D (by simp)) q2
  refine⟨by simp,.inl ⟨D,_,rfl,run_takeDeferred q3,?_⟩⟩
  exact zdg hc ho hs Ds _ (hD.tail_put _) (fun D' h=>hds D' (by simp[h])) g1 g2
theorem zdf {fn:Func} {tmps:Array Value} {v v':Value} {h:H} {ρ0:Rho} {w0:World} {σ:Rho} (hv:VR σ v v'):
 ∀(Ds:List Nat) (w:World),zb5 σ w Ds→(∀D∈Ds,w0.heap.size≤D)→HR P σ h w→Ext ρ0 w0 σ w→LeavesInM Fence.wide 0 P fn tmps (zgv P ρ0 w0 (.pan v .nil h)) (Ds.map zI) (.panicking (one v')) w
 | [],w,hD,hds,hr,he=>.inr ⟨v,h,v',σ,rfl,rfl,hv,hr,he⟩
 |D::Ds,w,hD,hds,hr,he=>by
  obtain⟨q1,q2,q3⟩:=hD.ok D (by simp)
  obtain⟨g1,g2⟩:=hr.shut he (o:=.deferred none) (z7 _) q3 (z7 _) (hds D (by simp)) q2
  refine⟨by simp,.inl ⟨D,_,rfl,run_takeDeferred q3,?_⟩⟩
  exact zdf hv Ds _ (hD.tail_put _) (fun D' h=>hds D' (by simp[h])) g1 g2
theorem zc5.nil_ge {ρ:Rho} {w w':World} {N:Nat} {Db:List Deferred} {o:Out} {e:Exit} {a:Act} (h:zc5 P ρ w N [] Db o e a w'): ∃σ Ds s h,Ext ρ w σ w'∧a.tmps.size=N∧a.defers=Ds.map zI++Db∧zb5 σ w' Ds∧(∀D∈Ds,w.heap.size≤D)∧SR σ s a.tmps∧HR P σ h w'∧
 ((o=.nrm s h∧e=.normal)∨(∃i,o=.exit i s h∧e=exOf i)∨(o=.ret s h∧e=.ret)∨(∃v v',o=.pan v s h∧VR σ v v'∧e=.panic (one v'))):=by
 obtain⟨σ,Ds,s,h,h1,h2,h3,⟨h4,h5⟩,h6⟩:=h
 exact⟨σ,Ds,s,h,h1,h2,h3,h4,fun D hD=>(h5 D hD).resolve_left (by simp),h6⟩
theorem zbD {fn:Func} {cf:zm} (h:zc P fn=some (zn cf)):(fn.name== "runtime.NumGoroutine")=false∧ ∃c,fn.body=some c∧zbg P fn.ntmps c=some (zE cf.body,cf.dfr.map stripD)∧allO (zZ P) fn.results.toList=some cf.results∧cf.ntmps=fn.ntmps∧cf.prim=none:=by
 unfold zc at h
 split at h
 ·cases h
 ·rename_i hn
  obtain⟨c,hc,h⟩:=aof h
  obtain⟨cc,hcc,h⟩:=aof h
  obtain⟨rs,hrs,h⟩:=amf h
  unfold zn at h
  simp only[zm.mk.injEq] at h
  obtain⟨h1,h2,h3,h4,h5⟩:=h
  exact⟨by simpa using hn,c,hc,by rw[hcc,←h3,←h4],by rw[hrs,h2],h1.symm,h5.symm⟩
theorem zcz: ∀{N:Nat} {code:Code} {c:CC},zbg P N code=some (c,none)→zo P N code=some c
 |N,.seq a b,c,h=>by
  have key:((zo P N a).bind fun a=>(zbg P N b).map (seqD a))=some (c,none)→zo P N (.seq a b)=some c:=by
   intro h
   obtain⟨ca,ha,h⟩:=aof h
   obtain⟨⟨cb,d⟩,hb,e⟩:=amf h
   cases e
   have:=zcz hb
   simp[zo,ha,this]
  cases a with
  |region id ops d=>
   cases d with
   |true=>exact key h
   |false=>
    unfold zbg at h
    split at h
    ·exact key h
    ·split at h
     ·obtain⟨_,_,h⟩:=aof h
      obtain⟨_,_,h⟩:=aof h
      obtain⟨_,_,h⟩:=aof h
      obtain⟨_,_,h⟩:=aof h
      obtain⟨_,_,h⟩:=amf h
      cases h
     ·cases h
  |_=>exact key h
 |N,.skip,c,h=>by obtain⟨x,hx,e⟩:=amf h;cases e;exact hx
 |N,.region _ _ _,c,h=>by obtain⟨x,hx,e⟩:=amf h;cases e;exact hx
 |N,.cond _ _ _,c,h=>by obtain⟨x,hx,e⟩:=amf h;cases e;exact hx
 |N,.block _ _,c,h=>by obtain⟨x,hx,e⟩:=amf h;cases e;exact hx
 |N,.loop _,c,h=>by obtain⟨x,hx,e⟩:=amf h;cases e;exact hx
 |N,.rangeFunc _ _ _ _,c,h=>by obtain⟨x,hx,e⟩:=amf h;cases e;exact hx
 |N,.exit _,c,h=>by obtain⟨x,hx,e⟩:=amf h;cases e;exact hx
 |N,.ret,c,h=>by obtain⟨x,hx,e⟩:=amf h;cases e;exact hx
 |N,.label _,c,h=>by obtain⟨x,hx,e⟩:=amf h;cases e;exact hx
 |N,.scope _,c,h=>by obtain⟨x,hx,e⟩:=amf h;cases e;exact hx
 |N,.goto _,c,h=>by obtain⟨x,hx,e⟩:=amf h;cases e;exact hx
 |N,.refuse _,c,h=>by obtain⟨x,hx,e⟩:=amf h;cases e;exact hx
theorem zhf: ∀{l pre post:List Oper} {c:Call},deferIn l=some (pre,c,post)→ ∃o,l=pre++o::post∧o.op=.defer c∧o.guard=none∧o.dst=none
 | [],_,_,_,h=>by cases h
 |o::l,pre,post,c,h=>by
  unfold deferIn at h
  split at h
  ·rename_i c' h1 h2 h3
   cases h
   exact⟨o,rfl,h1,h2,h3⟩
  ·obtain⟨⟨pre',c',post'⟩,hx,e⟩:=amf h
   cases e
   obtain⟨o',e1,e2⟩:=zhf hx
   exact⟨o',by rw[e1];rfl,e2⟩
theorem zfk {fn:Func} {tmps:Array Value} {R:Ending→World→Prop} {rest:List Deferred} {u:FrameMode} (hu:u≠ .run) {h:H} {ρ0:Rho} {w0:World} {σ:Rho} {Dr:List Nat}:
 ∀(Ds:List Nat) (w:World),zb5 σ w (Ds++Dr)→(∀D∈Ds,w0.heap.size≤D)→HR P σ h w→Ext ρ0 w0 σ w→(∀w1,zb5 σ w1 Dr→HR P σ h w1→Ext ρ0 w0 σ w1→LeavesInM Fence.wide 0 P fn tmps R rest u w1)→LeavesInM Fence.wide 0 P fn tmps R (Ds.map zI++rest) u w
 | [],w,hD,hds,hr,he,hk=>hk w hD hr he
 |D::Ds,w,hD,hds,hr,he,hk=>by
  obtain⟨q1,q2,q3⟩:=hD.ok D (by simp)
  obtain⟨g1,g2⟩:=hr.shut he (o:=.deferred none) (z7 _) q3 (z7 _) (hds D (by simp)) q2
  refine⟨hu,.inl ⟨D,_,rfl,run_takeDeferred q3,?_⟩⟩
  exact zfk hu Ds _ (zb5.tail_put (Ds:=Ds++Dr) hD _) (fun D' h=>hds D' (by simp[h])) g1 g2 hk
theorem zjd (p:Option Value):settle (zcc p)=.returning:=by cases p<;>rfl
theorem zjX (p:Option Value):zeC p≠ .run:=by cases p<;>simp[zeC]
theorem isFn_eq {u g:Value} (h:isFn u=some g):u=g∧ ∃f a b,g=.func (.func f) a b:=by
 unfold isFn at h
 split at h
 ·cases h;exact⟨rfl,_,_,_,rfl⟩
 ·cases h
theorem leaves_hand {ih:IH} {M:Nat} (hih: ∀t o,ih t=some o→zc6 P M t o) {fn:Func} {rs:List CR} (hrs:allO (zZ P) fn.results.toList=some rs) {f f':Value} {args:List Value} {args':Array Value} {g:FuncId} {first cap:Array Value} (hf':f'=.func (.func g) first cap)
 {p p':Option Value} {o1 o2:Out} {s:zl} {tmps:Array Value} {h:H} {w:World} {ρ0:Rho} {w0:World} {σ:Rho} {Ds:List Nat} (ho:ih (.hand f args p h)=some o1) (hk:resK1 rs s o1=some o2) (rf:VR σ f f') (ra:VRL σ args args'.toList) (rp:POR σ p p') (hs:SR σ s tmps)
 (hr:HR P σ h w) (he:Ext ρ0 w0 σ w) (hD:zb5 σ w Ds) (hds: ∀D∈Ds,w0.heap.size≤D):
 LeavesInM Fence.wide 0 P fn tmps (zgv P ρ0 w0 o2) ({target:=.fn (.func g) cap,args:=first++args'}::Ds.map zI) (zeC p') w:=by
 subst hf'
 obtain⟨h1,h2⟩:=hih _ _ ho σ _ args' p' w rf ra rp hr
 refine⟨zjX p',.inr ⟨fun h=>by simp[Fence.wide] at h,.func g,cap,g,first++args'++cap,rfl,?_,fun _ _=>trivial,?_⟩⟩
 ·simp only[invoke];exact h2 w
 ·refine CallsDIn.mono h1 ?_
  rintro e u' w' ⟨⟨v,h3,v',τ,rfl,rfl,q1,q2,q3⟩,rfl⟩
  show LeavesInM _ _ _ _ _ _ _ (settle (zcc p')) w'
  rw[zjd]
  exact zdg hrs hk (hs.mono q3.le) Ds w' (hD.ext q3) hds q2 (he.trans q3)
theorem done_post {ih:IH} {M:Nat} (hih: ∀t o,ih t=some o→zc6 P M t o) {fn:Func} {rs:List CR} (hrs:allO (zZ P) fn.results.toList=some rs) {f f':Value} {args:List Value} {args':Array Value} {g:FuncId} {first cap:Array Value} (hf':f'=.func (.func g) first cap)
 {N:Nat} {o o2:Out} {ρ0 ρ:Rho} {w0 w:World} {Ds:List Nat} (hdone:zjt ih f args rs o=some o2) (rf:VR ρ f f') (ra:VRL ρ args args'.toList) (he:Ext ρ0 w0 ρ w) (hD:zb5 ρ w Ds) (hds: ∀D∈Ds,w0.heap.size≤D) {e:Exit} {a1:Act} {w1:World}
 (hp:zc5 P ρ w N [] ({target:=.fn (.func g) cap,args:=first++args'}::Ds.map zI) o e a1 w1):
 bodyPostM Fence.wide 0 P fn (zgv P ρ0 w0 o2) e a1 w1:=by
 obtain⟨σ,D1,s1,h1,e1,hN,hd,hD1,hds1,hs1,hr1,hcase⟩:=hp.nil_ge
 have hall:zb5 σ w1 (D1++Ds):=by
  have h2:=hD.ext e1
  refine⟨List.nodup_append.2 ⟨hD1.nodup,h2.nodup,fun x hx y hy e=> ?_⟩,fun D hm=> ?_⟩
  ·subst e
   have:=hds1 x hx
   have:=(hD.ok x hy).1
   omega
  ·rcases List.mem_append.1 hm with hm|hm
   ·exact hD1.ok D hm
   ·exact h2.ok D hm
 have hds1': ∀D∈D1,w0.heap.size≤D:=fun D h=>Nat.le_trans he.size (hds1 D h)
 have key: ∀(p p':Option Value),POR σ p p'→(∃o1,ih (.hand f args p h1)=some o1∧resK1 rs s1 o1=some o2)→LeavesInM Fence.wide 0 P fn a1.tmps (zgv P ρ0 w0 o2) a1.defers (zeC p') w1:=by
  rintro p p' rp ⟨o1,q1,q2⟩
  rw[hd]
  refine zfk (zjX p') D1 w1 hall hds1' hr1 (he.trans e1) (fun w2 k1 k2 k3=> ?_)
  exact leaves_hand hih hrs hf' q1 q2 (rf.mono e1.le) (ra.mono e1.le) rp hs1 k2 k3 k1 hds
 rcases hcase with⟨rfl,rfl⟩| ⟨i,rfl,rfl⟩| ⟨rfl,rfl⟩| ⟨v,v',rfl,hv,rfl⟩
 ·obtain⟨o1,q1,q2⟩:=aof hdone
  exact key none none trivial ⟨o1,q1,q2⟩
 ·cases hdone
 ·obtain⟨o1,q1,q2⟩:=aof hdone
  exact key none none trivial ⟨o1,q1,q2⟩
 ·obtain⟨o1,q1,q2⟩:=aof hdone
  exact key (some v) (some v') hv ⟨o1,q1,q2⟩
theorem dfr_wp {ih:IH} {M:Nat} (hih: ∀t o,ih t=some o→zc6 P M t o) (hdec: ∀c s h o,ih (.code c s h)=some o→zbl c ih s h=some o) {fn:Func} {rs:List CR} (hrs:allO (zZ P) fn.results.toList=some rs) {ρ0:Rho} {w0:World} {o2:Out} {N:Nat}:
 ∀(code:Code) (c:CC) (d:Dfr),zbg P N code=some (zE c,some (stripD d))→ ∀(s:zl) (h:H) (o:Out),ih (.code c s h)=some o→dfrK ih d rs o=some o2→ ∀(ρ:Rho) (a:Act) (w:World) (Ds:List Nat),a.tmps.size=N→SR ρ s a.tmps→HR P ρ h w→a.defers=Ds.map zI→zb5 ρ w Ds→(∀D∈Ds,w0.heap.size≤D)→Ext ρ0 w0 ρ w→
  code.wpIn Fence.wide 0 P (bodyPostM Fence.wide 0 P fn (zgv P ρ0 w0 o2)) a w
 |.seq x y,c,d,hc,s,h,o,ho,hK,ρ,a,w,Ds,hN,hs,hr,hd,hD,hds,hE=>by
  have plain:((zo P N x).bind fun a=>(zbg P N y).map (seqD a))=some (zE c,some (stripD d))→(Code.seq x y).wpIn Fence.wide 0 P (bodyPostM Fence.wide 0 P fn (zgv P ρ0 w0 o2)) a w:=by
   intro hc
   obtain⟨ca,ha,hc⟩:=aof hc
   obtain⟨⟨cb,d'⟩,hb,e⟩:=amf hc
   simp only[seqD,Prod.mk.injEq] at e
   obtain⟨e1,rfl⟩:=e
   obtain⟨ca',L,cb',rfl,rfl,rfl⟩:=zhW e1
   obtain⟨o1,h1,h2⟩:=aof (show(ih (.code ca' s h)).bind (thenK ih L cb')=some o from hdec _ _ _ _ ho)
   refine wpIn_seq (wpIn_mono ((hih _ _ h1 x N ha none ρ a w Ds [] (by intro l hl;cases hl) hN hs hr (by rw[hd,List.append_nil]) hD).wpIn) ?_)
   rintro e a1 w1 ⟨σ,D1,s1,hh1,he,hN1,hd1,⟨hD1,hds1⟩,hs1,hr1,hcase⟩
   rw[List.append_nil] at hd1
   have hdsN: ∀D∈D1,w0.heap.size≤D:=fun D hm=>(hds1 D hm).elim (hds D) (fun h=>Nat.le_trans hE.size h)
   rcases hcase with⟨rfl,rfl⟩| ⟨i,rfl,rfl⟩| ⟨rfl,rfl⟩| ⟨v,v',rfl,hv,rfl⟩
   ·exact dfr_wp hih hdec hrs y cb' d hb (zbi L s1) hh1 o h2 hK σ a1 w1 D1 hN1 (hs1.keep L) hr1 hd1 hD1 hdsN (hE.trans he)
   ·cases h2;cases hK
   ·cases h2;cases hK
   ·cases h2
    cases hK
    show LeavesInM _ _ _ _ _ _ a1.defers _ _
    rw[hd1]
    exact zdf hv D1 w1 hD1 hdsN hr1 (hE.trans he)
  cases x with
  |region id ops dr=>
   cases dr with
   |true=>exact plain hc
   |false=>
    unfold zbg at hc
    split at hc
    ·exact plain hc
    ·rename_i pre cl post hdi
     obtain⟨od,hl,hod,hg,hdst⟩:=zhf hdi
     split at hc
     ·rename_i fo hfo
      obtain⟨f,hf,hc⟩:=aof hc
      obtain⟨as,has,hc⟩:=aof hc
      obtain⟨preC,hpre,hc⟩:=aof hc
      obtain⟨postC,hpost,hc⟩:=aof hc
      obtain⟨bC,hb,e⟩:=amf hc
      simp only[Prod.mk.injEq,Option.some.injEq] at e
      obtain⟨e1,e2⟩:=e
      obtain rfl:=zhX e1
      obtain⟨df,da,dL,dr⟩:=d
      simp only[stripD,Dfr.mk.injEq] at e2
      obtain⟨rfl,rfl,-,e3⟩:=e2
      obtain⟨pC,L',bC',rfl,e4,rfl⟩:=zhW e3
      obtain rfl:=zhX e4
      have hrun:zbY ih preC s h=some o:=hdec _ _ _ _ ho
      have hlen:ops.size=pre.length+1+post.length:=by rw[←Array.length_toList,hl];simp;omega
      have hrange:List.range ops.size=List.range' 0 pre.length++(pre.length::List.range' (pre.length+1) post.length):=by
       have e1:= @List.range'_append_1 0 pre.length (post.length+1)
       rw[Nat.zero_add,List.range'_succ] at e1
       rw[List.range_eq_range',hlen,show pre.length+1+post.length=pre.length+(post.length+1) by omega,←e1]
      refine wpIn_seq (wpIn_region ?_)
      rw[hrange]
      have hIn: ∀D∈Ds,w0.heap.size≤D:=hds
      refine zin (ops:=ops) hih none (w0:=w) (ρ0:=ρ) (Ds:=Ds) (Db:=[]) (out:=o) ?_ ?_ pre.length 0 preC ρ s h a w (by omega) (by rw[List.drop_zero,hl,List.take_left];exact hpre) hrun hr hs hN (by rw[hd,List.append_nil]) hD (.refl _ _)
      ·intro sF hF σ a1 w1 eo q1 q2 q3 q4 q5 q6
       subst eo
       rw[List.append_nil] at q4
       obtain⟨fv,hfv,hK⟩:=aof hK
       obtain⟨fv',hfn,hK⟩:=aof hK
       obtain⟨av,hav,hK⟩:=aof hK
       obtain⟨o3,ho3,hdone⟩:=aof hK
       obtain⟨rfl,g,first,cap,rfl⟩:=isFn_eq hfn
       have rf:=z6 hf q1 hfv
       have ra:=zhI q1 has hav
       obtain⟨first',cap',hfe⟩: ∃x y,a1.eval fo=.func (.func g) x y:=by
        generalize a1.eval fo=y at rf;cases rf;exact⟨_,_,rfl⟩
       have hget:ops[pre.length]? =some od:=by rw[←Array.getElem?_toList,hl];simp
       have hwant:Region.wanted od (yielded ops a1.tmps)=true:=by simp[Region.wanted,hg]
       simp only[wpOpsIn,hget,hwant,if_true]
       refine⟨fun f _=>trivial,?_⟩
       have hsem:(od.semAt (Wf none).round a1.eval).run P w1=.ok (.defer {target:=.fn (.func g) cap',args:=first'++cl.args.map a1.eval}) w1:=by
        show(od.semAt none a1.eval).run P w1=_
        rw[Oper.semAt_none]
        simp only[execOp,hod,resolve,hfo,hfe,Deferred.ofValue,Sem.run_bind,Sem.run_pure,Result.andThen_ok]
       rw[hsem,Oper.uponIn_defer]
       have hput:({a1 with defers:=({target:=.fn (.func g) cap',args:=first'++cl.args.map a1.eval}:Deferred)::a1.defers}:Act).put od.dst undef={a1 with defers:=({target:=.fn (.func g) cap',args:=first'++cl.args.map a1.eval}:Deferred)::Ds.map zI}:=by
        rw[hdst,q4];rfl
       rw[hput]
       rw[hfe] at rf
       have hE1:Ext ρ0 w0 σ w1:=hE.trans q6
       obtain⟨o4,h4,h5⟩:=aof (show(ih (.code (.ops postC) (zbi dL sF) hF)).bind (thenK ih L' bC')=some o3 from hdec _ _ _ _ ho3)
       have hrun4:zbY ih postC (zbi dL sF) hF=some o4:=hdec _ _ _ _ h4
       have hpost':=zin (ops:=ops) (Q:=Exit.then (y.wpIn Fence.wide 0 P (bodyPostM Fence.wide 0 P fn (zgv P ρ0 w0 o2))) (bodyPostM Fence.wide 0 P fn (zgv P ρ0 w0 o2))) (rest:=[]) hih none (w0:=w1) (ρ0:=σ) (Ds:=[]) (Db:=({target:=.fn (.func g) cap',args:=first'++cl.args.map a1.eval}:Deferred)::Ds.map zI) (out:=o4)
        (fun sG hG τ a2 w2 eo k1 k2 k3 k4 k5 k6=>by
          subst eo
          show y.wpIn _ _ _ _ a2 w2
          refine wpIn_mono ((hih _ _ h5 y N hb none τ a2 w2 [] _ (by intro l hl;cases hl) k3 (k1.keep L') k2 k4 k5).wpIn) (fun e a3 w3 hp=> ?_)
          exact done_post hih hrs rfl hdone (rf.mono k6.le) (ra.mono k6.le) (hE1.trans k6) ((q5).ext k6) hIn hp)
        (fun v sG hG v' τ a2 w2 eo k0 k1 k2 k3 k4 k5 k6=>by
          subst eo
          cases h5
          exact done_post (o:=.pan v sG hG) hih hrs rfl hdone (rf.mono k6.le) (ra.mono k6.le) (hE1.trans k6) ((q5).ext k6) hIn ⟨τ,[],sG,hG,.refl _ _,k3,k4,⟨k5,fun D h=>by cases h⟩,k1,k2,.inr (.inr (.inr ⟨v,v',rfl,k0,rfl⟩))⟩)
        post.length (pre.length+1) postC σ (zbi dL sF) hF {a1 with defers:=({target:=.fn (.func g) cap',args:=first'++cl.args.map a1.eval}:Deferred)::Ds.map zI} w1 (by omega)
        (by rw[hl,show pre++od::post=(pre++[od])++post by simp,show pre.length+1=(pre++[od]).length by simp,List.drop_left,List.take_length];exact hpost) hrun4 q2 (q1.keep dL) q3 rfl ⟨List.nodup_nil,by simp⟩ (.refl _ _)
       rw[List.append_nil] at hpost'
       exact hpost'
      ·intro v sF hF v' σ a1 w1 eo q0 q1 q2 q3 q4 q5 q6
       subst eo
       cases hK
       show LeavesInM _ _ _ _ _ _ a1.defers _ _
       rw[q4,List.append_nil]
       exact zdf q0 Ds w1 q5 hds q2 (hE.trans q6)
     ·cases hc
  |_=>exact plain hc
 |.skip,c,d,hc,s,h,o,ho,hK,ρ,a,w,Ds,hN,hs,hr,hd,hD,hds,hE=>by obtain⟨x,hx,e⟩:=amf hc;cases e
 |.region _ _ _,c,d,hc,s,h,o,ho,hK,ρ,a,w,Ds,hN,hs,hr,hd,hD,hds,hE=>by obtain⟨x,hx,e⟩:=amf hc;cases e
 |.cond _ _ _,c,d,hc,s,h,o,ho,hK,ρ,a,w,Ds,hN,hs,hr,hd,hD,hds,hE=>by obtain⟨x,hx,e⟩:=amf hc;cases e
 |.block _ _,c,d,hc,s,h,o,ho,hK,ρ,a,w,Ds,hN,hs,hr,hd,hD,hds,hE=>by obtain⟨x,hx,e⟩:=amf hc;cases e
 |.loop _,c,d,hc,s,h,o,ho,hK,ρ,a,w,Ds,hN,hs,hr,hd,hD,hds,hE=>by obtain⟨x,hx,e⟩:=amf hc;cases e
 |.rangeFunc _ _ _ _,c,d,hc,s,h,o,ho,hK,ρ,a,w,Ds,hN,hs,hr,hd,hD,hds,hE=>by obtain⟨x,hx,e⟩:=amf hc;cases e
 |.exit _,c,d,hc,s,h,o,ho,hK,ρ,a,w,Ds,hN,hs,hr,hd,hD,hds,hE=>by obtain⟨x,hx,e⟩:=amf hc;cases e
 |.ret,c,d,hc,s,h,o,ho,hK,ρ,a,w,Ds,hN,hs,hr,hd,hD,hds,hE=>by obtain⟨x,hx,e⟩:=amf hc;cases e
 |.label _,c,d,hc,s,h,o,ho,hK,ρ,a,w,Ds,hN,hs,hr,hd,hD,hds,hE=>by obtain⟨x,hx,e⟩:=amf hc;cases e
 |.scope _,c,d,hc,s,h,o,ho,hK,ρ,a,w,Ds,hN,hs,hr,hd,hD,hds,hE=>by obtain⟨x,hx,e⟩:=amf hc;cases e
 |.goto _,c,d,hc,s,h,o,ho,hK,ρ,a,w,Ds,hN,hs,hr,hd,hD,hds,hE=>by obtain⟨x,hx,e⟩:=amf hc;cases e
 |.refuse _,c,d,hc,s,h,o,ho,hK,ρ,a,w,Ds,hN,hs,hr,hd,hD,hds,hE=>by obtain⟨x,hx,e⟩:=amf hc;cases e
theorem zj4 {ih:IH} {M:Nat} (hih: ∀t o,ih t=some o→zc6 P M t o) (hdec: ∀c s h o,ih (.code c s h)=some o→zbl c ih s h=some o) {g:FuncId} {fn:Func} {cf:zm} (hfn:P.funcs[g]? =some fn) (hcf:zc P fn=some (zn cf)) {args:List Value} {h:H} {o:Out} (hv:zbk ih cf args h=some o)
 {ρ:Rho} {args':Array Value} {w:World} (ra:VRL ρ args args'.toList) (hr:HR P ρ h w):CallsIn Fence.wide 0 P g args' w (zgv P ρ w o)∧ ∀w,(callFunc g args').run P w=.ok (.enter g args') w:=by
 obtain⟨hname,c,hbody,hcc,hrs,hnt,hnp⟩:=zbD hcf
 unfold zbk at hv
 split at hv
 ·rename_i hle
  have hle':args'.size≤fn.ntmps:=by
   have:=Nat.le_of_ble_eq_true hle
   rw[hnt,ra.1] at this;simpa using this
  obtain⟨o1,ho1,hret⟩:=aof hv
  refine⟨?_,fun w=> ?_⟩
  ·refine callsIn_of_wp_marks hfn hbody trivial ?_
   have hsz:(args'++Array.replicate (fn.ntmps - args'.size) undef).size=fn.ntmps:=by simp;omega
   cases hdf:cf.dfr with
   |none=>
    rw[hdf] at hcc hret
    have hret:retK cf.results o1=some o:=hret
    have hcode:=(hih _ _ ho1 c fn.ntmps (zcz hcc) none ρ {tmps:=args'++Array.replicate (fn.ntmps - args'.size) undef,defers:=[]} w [] [] (by intro l hl;cases hl) hsz (args_SR ra _) hr rfl ⟨List.nodup_nil,by simp⟩).wpIn
    refine wpIn_mono hcode ?_
    intro e a1 w1 hp
    obtain⟨σ,Ds,s1,h1,he,hN,hd,hD,hds,hs1,hr1,hcase⟩:=hp.nil_ge
    rw[List.append_nil] at hd
    rcases hcase with⟨rfl,rfl⟩| ⟨i,rfl,rfl⟩| ⟨rfl,rfl⟩| ⟨v,v',rfl,hvv,rfl⟩
    ·show LeavesInM _ _ _ _ _ _ a1.defers _ _
     rw[hd];exact zdg hrs hret hs1 Ds w1 hD hds hr1 he
    ·cases hret
    ·show LeavesInM _ _ _ _ _ _ a1.defers _ _
     rw[hd];exact zdg hrs hret hs1 Ds w1 hD hds hr1 he
    ·cases hret
     show LeavesInM _ _ _ _ _ _ a1.defers _ _
     rw[hd];exact zdf hvv Ds w1 hD hds hr1 he
   |some d=>
    rw[hdf] at hcc hret
    exact dfr_wp hih hdec hrs c cf.body d hcc _ _ _ ho1 hret ρ _ w [] hsz (args_SR ra _) hr rfl ⟨List.nodup_nil,by simp⟩ (by simp) (.refl _ _)
  ·have hne: ¬fn.name= "runtime.NumGoroutine" :=by simpa using hname
   simp[callFunc,hfn,hne,hbody]
 ·cases hv
theorem round_sound {ih:IH} {M:Nat} (hih: ∀t o,ih t=some o→zc6 P M t o) {l:Nat} {args:List Value} {h:H} {o:Out} {lo:IObj} (hlo:h.get l=some lo) (hv:zhz ih l args h lo=some o)
 {ρ:Rho} {R:RB} {args':Array Value} {w:World} (hi:ρ l=some R) (ra:VRL ρ args args'.toList) (hr:HR P ρ h w):
 ∃fn tmps assign body,(Instr.yield R.blk args').run P w=.ok (.round R.blk fn tmps assign body) w∧RoundIn Fence.wide 0 P R.blk fn tmps assign body w (zhw P ρ w o):=by
 cases lo with
 |loop st pend sl rc=>
  obtain⟨s0,hs0,hv1⟩:=aof hv
  obtain⟨o1,ho1,hv2⟩:=aof hv1
  clear hv hv1
  obtain⟨lp,p0,p1,p2,p3,p4,p5,p6,p7⟩:=zgb hr hi hlo
  rw[p4] at hs0
  obtain⟨q1,q2,q3⟩:=zh4 lp.params.toList args args'.toList (zbi rc.L sl) s0 lp.tmps hs0 ra (p3.keep _) p5
  have hsz:args'.size=lp.params.size:=by rw[←Array.length_toList,←ra.1,q1,Array.length_toList]
  have hfold:(lp.params.zip args').foldl (fun tmps (x:Tmp×Value)=>tmps.setIfInBounds x.1 x.2) lp.tmps=(lp.params.toList.zip args'.toList).foldl (fun tmps (x:Tmp×Value)=>tmps.setIfInBounds x.1 x.2) lp.tmps:=by
   rw[←Array.foldl_toList,Array.toList_zip]
  refine⟨lp.fn,_,lp.assign,lp.body,run_yield p0 hsz,?_⟩
  have hR:zel (some R.blk) w:=by intro l hl;cases hl;exact⟨lp,p0⟩
  refine roundIn_of_wpIn trivial ?_
  have hassign:=(hih _ _ ho1 lp.assign lp.tmps.size p6 (some R.blk) ρ {tmps:=(lp.params.zip args').foldl (fun tmps (x:Tmp×Value)=>tmps.setIfInBounds x.1 x.2) lp.tmps,defers:=[]} w [] [] hR (by dsimp only;rw[hfold];exact q3) (by dsimp only;rw[hfold];exact q2) hr rfl ⟨List.nodup_nil,by simp⟩).wpIn
  refine wpIn_mono hassign ?_
  intro e a1 w1 hp
  obtain⟨σ,Ds,s1,h1,he,hN,hd,hD,hds,hs1,hr1,hcase⟩:=hp.nil_ge
  rcases hcase with⟨rfl,rfl⟩| ⟨i,rfl,rfl⟩| ⟨rfl,rfl⟩| ⟨v,v',rfl,hvv,rfl⟩
  ·obtain⟨lo1,hlo1,hv3⟩:=aof hv2
   cases lo1 with
   |loop st1 pend1 sl1 rc1=>
    cases st1<;>simp only[zez,reduceCtorEq] at hv3
    obtain⟨o2,ho2,hfin⟩:=aof hv3
    have hi1:σ l=some R:=he.le _ _ hi
    obtain⟨lp1,r0,r1,r2,r3,r4,r5,r6,r7⟩:=zgb hr1 hi1 hlo1
    obtain⟨g1,g2⟩:=loop_put hr1 hi1 hlo1 r0 (lp':={lp1 with state:=.busy}) (st':=.busy) (pend':=pend1) rfl r2 rfl rfl rfl rfl rfl
    refine⟨_,run_beginRound r0 r1,?_⟩
    have hRb:zel (some R.blk) (w1.putObj R.blk (.loop {lp1 with state:=.busy})):=by
     intro l hl;cases hl;exact⟨_,World.putObj_heap_same (Array.getElem?_eq_some_iff.1 r0).1⟩
    have hbody:=(hih _ _ ho2 lp.body lp.tmps.size p7 (some R.blk) σ a1 _ Ds [] hRb hN hs1 g1 hd (hD.ext g2)).wpIn
    refine wpIn_mono hbody ?_
    intro e a2 w2 hp2
    obtain⟨τ,Ds2,s2,h2,he2,hN2,hd2,hD2,hs2,hr2,hcase2⟩:=hp2
    have hi2:τ l=some R:=he2.le _ _ hi1
    have fin: ∀(p:Option CC) (jump:Option Code) (lo2:IObj),PendR p jump→h2.get l=some lo2→zfn l p h2 lo2=some o→ ∃v w',(Instr.endRound R.blk jump).run P w2=.ok v w'∧zhw P ρ w o (.returned v) w':=by
     intro p jump lo2 hp hlo2 hfin
     cases lo2 with
     |loop st2 pend2 sl2 rc2=>
      cases hfin
      obtain⟨lp2,t0,t1,t2,t3,t4⟩:=zgb hr2 hi2 hlo2
      have hnone:jump.isNone=p.isNone:=by
       cases p with
       |none=>cases jump with
        |none=>rfl
        |some c=>exact hp.elim
       |some c=>cases jump with
        |none=>cases c<;>exact hp.elim
        |some c'=>rfl
      obtain⟨k1,k2⟩:=loop_put hr2 hi2 hlo2 t0 (lp':={lp2 with state:=if jump.isNone then .ready else .done,pending:=jump}) (st':=stOf p) (pend':=p) (by dsimp only;rw[hnone];cases p<;>rfl) hp rfl rfl rfl rfl rfl
      refine⟨_,_,run_endRound jump t0,_,_,_,τ,rfl,rfl,?_,k1,((he.trans g2).trans he2).trans k2⟩
      rw[hnone];exact .bool _
     |cells _ _=>cases hfin
     |map _ _=>cases hfin
     |dead=>cases hfin
     |glob _ _=>cases hfin
    rcases hcase2 with⟨rfl,rfl⟩| ⟨i,rfl,rfl⟩| ⟨rfl,rfl⟩| ⟨v,v',rfl,hvv,rfl⟩
    ·obtain⟨lo2,hlo2,hfo⟩:=aof hfin
     exact fin none none lo2 trivial hlo2 hfo
    ·obtain⟨lo2,hlo2,hfo⟩:=aof hfin
     rcases zfc i with⟨j,rfl⟩| ⟨l,rfl⟩
     ·rw[zcd];exact fin (some (.exit (2*j))) (some (.exit j)) lo2 (coOf_even j).symm hlo2 hfo
     ·rw[zct];exact fin (some (.exit (zbs l))) (some (.goto l)) lo2 (coOf_goto l).symm hlo2 hfo
    ·obtain⟨lo2,hlo2,hfo⟩:=aof hfin
     exact fin (some .ret) (some .ret) lo2 trivial hlo2 hfo
    ·cases hfin
   |cells _ _=>cases hv3
   |map _ _=>cases hv3
   |dead=>cases hv3
   |glob _ _=>cases hv3
  ·cases hv2
  ·cases hv2
  ·cases hv2
 |cells _ _=>cases hv
 |map _ _=>cases hv
 |dead=>cases hv
 |glob _ _=>cases hv
theorem VRL.of_func {ρ:Rho} {f:FuncId} {x y x' y':Array Value} (h:VR ρ (.func (.func f) x y) (.func (.func f) x' y')):VRL ρ x.toList x'.toList∧VRL ρ y.toList y'.toList:=by
 cases h with
 |func _ ha hb ra rb=>exact⟨⟨by simpa using ha,fun j a b h1 h2=>ra j a b (by simpa using h1) (by simpa using h2)⟩,⟨by simpa using hb,fun j a b h1 h2=>rb j a b (by simpa using h1) (by simpa using h2)⟩⟩
theorem zhP {F:Fence} {n:Nat} {c:Code} {Q:Exit→Act→List Frame→World→Prop} {a:Act} {cs:List Frame} {w:World} (h:c.wpSIn F n P Q a cs w) (hq: ∀l a cs w,¬Q (.goto l) a cs w):(Code.scope c).wpSIn F n P Q a cs w:=by
 intro b k hk hro hb hr
 have h0:(lone (b.atR a (.code (.scope c)::k)) cs w).fenced P F:=fenced_calm hb hr rfl
 have s0:step P (lone (b.atR a (.code (.scope c)::k)) cs w)=.next (lone (b.atR a (.code c:: .inScope c::k)) cs w):=step_lone_go (by simp[stepG,stepG.exec,Frame.atR])
 obtain⟨e,a₁,cs₁,w₁,hl,hQ,harr⟩:=h b (.inScope c::k) hk hro hb hr
 cases e with
 |normal=>
  have s1:step P (lone (b.atR a₁ (.inScope c::k)) cs₁ w₁)=.next (lone (b.atR a₁ k) cs₁ w₁):=step_lone_go (by simp[stepG,stepG.exec,Frame.atR])
  exact⟨.normal,a₁,cs₁,w₁,hl,hQ,.head h0 s0 (StepsIn.trans harr (.one (fenced_calm hb (hl▸hr) rfl) s1))⟩
 |exit id=>
  have hx:exitTo id (.inScope c::k)=exitTo id k:=by simp[exitTo]
  exact⟨.exit id,a₁,cs₁,w₁,hl,hQ,fun k' hk=>.head h0 s0 (harr.1 k' (by rw[hx];exact hk)),fun hr' hk=>let⟨k₁,h1,h2⟩:=harr.2 hr' (by rw[hx];exact hk);⟨k₁,h1,.head h0 s0 h2⟩⟩
 |goto l=>exact absurd hQ (hq l _ _ _)
 |ret=>exact⟨_,a₁,cs₁,w₁,hl,hQ,.of_steps (.one h0 s0) harr⟩
 |panic ch=>exact⟨_,a₁,cs₁,w₁,hl,hQ,.of_steps (.one h0 s0) harr⟩
 |outgrown=>exact⟨_,a₁,cs₁,w₁,hl,hQ,.of_steps (.one h0 s0) harr⟩
def Takes (P:Program) (Q:World→Prop):List Deferred→World→Prop
 | [],w=>Q w
 |d::ds,w=> ∃r w',d.target=.collected r∧(Instr.takeDeferred r).run P w=.ok [] w'∧Takes P Q ds w'
theorem zfy {F:Fence} {n:Nat} {Q:World→Prop}: ∀(ds:List Deferred) (w:World) (fr:Frame) (cs:List Frame),fr.mode=.returning→fr.defers=ds→F.fn fr.fn→F.room (cs.length+1+n)→Takes P Q ds w→
 ∃w',Q w'∧StepsIn (Machine.fenced P F) P (lone fr cs w) (lone {fr with defers:=[]} cs w')
 | [],w,fr,cs,hm,hd,hb,hr,h=>⟨w,h,by
     have:({fr with defers:=[]}:Frame)=fr:=by cases fr;cases hd;rfl
     rw[this];exact StepsIn.refl _⟩
 |d::ds,w,fr,cs,hm,hd,hb,hr,h=>by
  obtain⟨r,w',ht,hk,hrest⟩:=h
  have h1:=step_collected (cs:=cs) (by rw[hm];simp) hd ht hk
  have i1:(lone fr cs w).fenced P F:=fenced_out hb hr (by rw[hm];simp) hd (fun g hg=>by rw[ht] at hg;simp[Target.leads] at hg)
  obtain⟨w2,q1,q2⟩:=zfy ds w' {fr with defers:=[]++ds} cs hm rfl hb hr hrest
  exact⟨w2,q1,.head i1 h1 q2⟩
def handPost (P:Program) (fn:Func) (c₀:Frame) (cs:List Frame) (R:Ending→FrameMode→World→Prop) (e:Exit) (a:Act) (cs':List Frame) (w:World):Prop:=
 (e=.normal∨e=.ret)∧ ∃u',cs'={c₀ with mode:=u'}::cs∧Takes P (fun w=> ∃v,(results fn a.tmps).run P w=.ok v w∧R (.returned v) u' w) a.defers w
theorem zjx {F:Fence} {n:Nat} {f:FuncId} {fn:Func} {c:Code} {args:Array Value} {u:FrameMode} {w:World} {R:Ending→FrameMode→World→Prop}
 (hf:P.funcs[f]? =some fn) (hb:fn.body=some c) (hF:F.fn f)
 (h: ∀(c₀:Frame) (cs:List Frame),c₀.mode=u→
   c.wpSIn F n P (handPost P fn c₀ cs R) {tmps:=args++Array.replicate (fn.ntmps - args.size) undef,defers:=[]} (c₀::cs) w):
 CallsDIn F n P f args u w R:=by
 refine⟨hF,fun c₀ cs hu hroom=> ?_⟩
 let b:Frame:={(default:Frame) with fn:=f,kind:=.deferred,roundOf:=none}
 have henter:Frame.enter P f args .deferred=
  b.atR {tmps:=args++Array.replicate (fn.ntmps - args.size) undef,defers:=[]} [.code c]:=by
  simp[Frame.enter,Frame.atR,hf,hb,b]
 obtain⟨e,a',cs',w',hl,⟨he,u',rfl,ht⟩,harr⟩:=h c₀ cs hu b [] rfl rfl hF hroom
 rw[←henter] at harr
 rcases he with rfl|rfl
 ·obtain⟨w2,⟨v,hr,hR⟩,hs2⟩:=zfy (F:=F) (n:=n) a'.defers w' {b.atR a' [] with mode:=.returning} ({c₀ with mode:=u'}::cs) rfl rfl hF hroom ht
  exact⟨.returned v,u',w2,_,hR,StepsIn.trans (StepsIn.trans harr (.one (fenced_calm (fr:=b.atR a' []) hF hroom rfl) (stepR_end rfl))) hs2,rfl,rfl,rfl,rfl,fn,hf,hr⟩
 ·obtain⟨todo,hs⟩:=harr.1 rfl
  obtain⟨w2,⟨v,hr,hR⟩,hs2⟩:=zfy (F:=F) (n:=n) a'.defers w' {b.atR a' todo with mode:=.returning} ({c₀ with mode:=u'}::cs) rfl rfl hF hroom ht
  exact⟨.returned v,u',w2,_,hR,StepsIn.trans hs hs2,rfl,rfl,rfl,rfl,fn,hf,hr⟩
def RecR (σ:Rho) (p0:Option Value) (p:Option Value) (u:FrameMode):Prop:=
 (p=none∧u=zcc p0)∨ ∃v v',p=some v∧p0=some v'∧VR σ v v'∧u=zeC p0
theorem RecR.mono {ρ σ:Rho} (hl:zgt ρ σ) {p0 p:Option Value} {u:FrameMode} (h:RecR ρ p0 p u):RecR σ p0 p u:=by
 rcases h with h| ⟨v,v',h1,h2,h3,h4⟩
 ·exact .inl h
 ·exact .inr ⟨v,v',h1,h2,h3.mono hl,h4⟩
theorem zju {o:Oper} (hop:z9 P o=some .recov): ∃cl:Call,o.op=.call cl∧cl.callee=.builtin .recover:=by
 cases e:o.op<;>simp only[z9,e,reduceCtorEq] at hop
 case call cl=>
  refine⟨cl,rfl,?_⟩
  split at hop
  ·obtain⟨f',h1,hop⟩:=aof hop;obtain⟨as',h2,e2⟩:=amf hop;cases e2
  ·rename_i b hb
   split at hop
   ·rename_i hrec
    cases b<;>simp[isRecover] at hrec
    exact hb
   ·obtain⟨cb,h1,hop⟩:=aof hop;obtain⟨as',h2,e2⟩:=amf hop;cases e2
  ·obtain⟨f',h1,hop⟩:=aof hop;obtain⟨as',h2,e2⟩:=amf hop;cases e2
 case convert sr d x0=>
  obtain⟨x1,-,hop⟩:=aof hop;obtain⟨u1,-,hop⟩:=aof hop;obtain⟨u2,-,hop⟩:=aof hop
  cases u1<;>cases u2<;>first| (cases hop;done)| (obtain⟨u,-,hop⟩:=aof hop;split at hop<;>cases hop)
 all_goals (exfalso;revert hop;simp only[Option.bind_eq_some_iff,Option.map_eq_some_iff,reduceCtorEq,and_false,exists_false,imp_false,not_false_eq_true])
 all_goals (intro hop;repeat' (first| (obtain⟨_,_,hop⟩:=hop)|split at hop))
 all_goals simp_all[Option.bind_eq_some_iff,Option.map_eq_some_iff]
theorem compile_recov {o:Oper} (hop:zb1 P o=some .recov): ∃cl:Call,o.op=.call cl∧cl.callee=.builtin .recover:=by
 rcases(zbH hop).2 with h|h
 ·exact zju h
 ·cases h
theorem ziF (p:Option Value) (s:zl) (h:H):zX [] p s h=some (p,s,h):=rfl
theorem zhc (o:CI) (l:List CI) (p:Option Value) (s:zl) (h:H):zX (o::l) p s h=(zbn o.guard s).bind fun b=>match b with
 |true=>zdG o (zX l) p s h
 |false=>zX l p (zU o.dst zM s) h:=rfl
theorem zge {N:Nat} {ops:Array Oper} {p0:Option Value} {c₀:Frame} {cs:List Frame} {Q:Exit→Act→List Frame→World→Prop} {w0:World} {ρ0:Rho} {x:Option Value×zl×H}
 (hQ: ∀σ u1 (a1:Act) w1,RecR σ p0 x.1 u1→SR σ x.2.1 a1.tmps→HR P σ x.2.2 w1→a1.tmps.size=N→a1.defers=[]→Ext ρ0 w0 σ w1→Q .normal a1 ({c₀ with mode:=u1}::cs) w1):
 ∀(m k:Nat) (l:List CI) (ρ:Rho) (p:Option Value) (u:FrameMode) (s:zl) (h:H) (a:Act) (w:World),k+m=ops.size→allO (zB P N ops) (ops.toList.drop k)=some l→zX l p s h=some x→
  RecR ρ p0 p u→HR P ρ h w→SR ρ s a.tmps→a.tmps.size=N→a.defers=[]→Ext ρ0 w0 ρ w→wpOpsSIn Fence.wide 0 P ops Q (List.range' k m) a ({c₀ with mode:=u}::cs) w
 |0,k,l,ρ,p,u,s,h,a,w,hk,hl,hrun,hp,hr,hs,hN,hd,hE=>by
  have:ops.toList.drop k=[]:=by apply List.drop_eq_nil_of_le;simp;omega
  rw[this] at hl;cases hl
  rw[ziF] at hrun;cases hrun
  exact hQ ρ u a w hp hs hr hN hd hE
 |m+1,k,l,ρ,p,u,s,h,a,w,hk,hl,hrun,hp,hr,hs,hN,hd,hE=>by
  have hlt:k<ops.size:=by omega
  have hdr:ops.toList.drop k=ops[k]::ops.toList.drop (k+1):=by
   rw[←List.getElem_cons_drop (by simpa using hlt)];simp
  rw[hdr] at hl
  obtain⟨c,hc,hl⟩:=aof hl
  obtain⟨l',hl',e⟩:=amf hl
  subst e
  rw[zhc] at hrun
  obtain⟨b,hb,hrun⟩:=aof hrun
  obtain⟨hop,hdst,hdlt⟩:=z8 hc
  have hwant:=zcs hc hs hb
  rw[List.range'_succ]
  simp only[wpOpsSIn,Array.getElem?_eq_getElem hlt,hwant]
  refine⟨fun f _=>trivial,?_⟩
  cases b with
  |true=>
   simp only[if_true]
   have hrun:zdG c (zX l') p s h=some x:=hrun
   by_cases hrec:c.op=.recov
   ·rw[hrec] at hop
    obtain⟨cl,hocl,hcb⟩:=compile_recov hop
    have hx:(execOp a.eval ops[k]).run P w=.ok .recover w:=by
     simp[execOp,hocl,resolve,hcb,invoke,builtin]
    rw[hx]
    dsimp only
    have hrun:zX l' none (zU c.dst (p.getD .nilIface) s) h=some x:=by
     unfold zdG at hrun;rw[hrec] at hrun;exact hrun
    rcases hp with⟨rfl,rfl⟩| ⟨v,v',rfl,rfl,hv,rfl⟩
    ·have hn:recoverD ({c₀ with mode:=zcc p0}::cs)=none:=by cases p0<;>rfl
     rw[hn]
     obtain⟨p1,p2,p3⟩:=zgJ hdst hdlt hs hN (VR.nilIface (ρ:=ρ))
     exact zge hQ m (k+1) l' ρ none _ _ _ _ _ (by omega) hl' hrun (.inl ⟨rfl,rfl⟩) hr p1 p2 (p3.trans hd) hE
    ·have hn:recoverD ({c₀ with mode:=zeC (some v')}::cs)=some (v',{c₀ with mode:=zcc (some v')}::cs):=rfl
     rw[hn]
     obtain⟨p1,p2,p3⟩:=zgJ hdst hdlt hs hN hv
     exact zge hQ m (k+1) l' ρ none _ _ _ _ _ (by omega) hl' hrun (.inl ⟨rfl,rfl⟩) hr p1 p2 (p3.trans hd) hE
   ·have hrun:(opV c.op s h).bind (fun x=>zX l' p (zU c.dst x.1 s) x.2)=some x:=by
     unfold zdG at hrun
     split at hrun
     ·rename_i e;exact absurd e hrec
     ·exact hrun
    obtain⟨⟨v,h1⟩,hv,hrest⟩:=aof hrun
    have hcl:zQ c.op≠ .call:=by
     intro e
     cases hcop:c.op<;>rw[hcop] at e hv<;>first| (cases hv;done)| (simp[zQ] at e;done)|exact absurd e (zir _ _)
    obtain⟨n,v',w',σ,h1',h2,h3,h4,h5⟩:=(op_sim hop hr hs hv).sim hr hcl
    rw[h1']
    have go: ∀v0,VR σ v v0→wpOpsSIn Fence.wide 0 P ops Q (List.range' (k+1) m) (a.put ops[k].dst v0) ({c₀ with mode:=u}::cs) w':=by
     intro v0 hv0
     obtain⟨p1,p2,p3⟩:=zgJ hdst hdlt (hs.mono h5.le) hN hv0
     exact zge hQ m (k+1) l' σ p u _ _ _ _ (by omega) hl' hrest (hp.mono h5.le) h4 p1 p2 (p3.trans hd) (hE.trans h5)
    rcases h2 with rfl| ⟨rfl,rfl⟩
    ·exact go v' h3
    ·exact go undef h3
  |false=>
   simp only[Bool.false_eq_true,if_false]
   obtain⟨p1,p2,p3⟩:=zgJ (v':=undef) hdst hdlt hs hN (VR.tuple_of (VRL.nil ρ))
   exact zge hQ m (k+1) l' ρ p u _ _ _ _ (by omega) hl' hrun hp hr p1 p2 (p3.trans hd) hE
theorem ziE {N:Nat} {l:List CI} {Q:Exit→Act→List Frame→World→Prop} (hq: ∀l a cs w,¬Q (.goto l) a cs w) {a:Act} {cs:List Frame} {w:World}: ∀(x:Code),zo P N x=some (.ops l)→
 (∀ops:Array Oper,allO (zB P N ops) ops.toList=some l→wpOpsSIn Fence.wide 0 P ops Q (List.range ops.size) a cs w)→x.wpSIn Fence.wide 0 P Q a cs w
 |.region id ops d,hc,h=>by
  obtain⟨l',hl,hc⟩:=aof hc
  cases d with
  |false=>cases hc;exact wpSIn_region (h ops hl)
  |true=>
   have hc:some ((if ops.toList.zipIdx.all (fun x=>(x.1.after.toList.filter (Region.binds .any)).all fun e=>Nat.blt e.on x.2) then zdR (ancs ops.toList) l' else none).getD zew)=some (.ops l):=hc
   have hc:(if ops.toList.zipIdx.all (fun x=>(x.1.after.toList.filter (Region.binds .any)).all fun e=>Nat.blt e.on x.2) then zdR (ancs ops.toList) l' else none)=some (.ops l):=by
    generalize hd:(if ops.toList.zipIdx.all (fun x=>(x.1.after.toList.filter (Region.binds .any)).all fun e=>Nat.blt e.on x.2) then zdR (ancs ops.toList) l' else none)=dd at hc
    cases dd with
    |some x=>exact hc
    |none=>cases hc
   split at hc
   ·rcases zei hc with⟨_,_,e,_⟩| ⟨_,_,_,_,_,_,_,e,_⟩<;>cases e
   ·cases hc
 |.scope b,hc,h=>by
  rcases zfB hc with⟨hc,_⟩|hc| ⟨_,_,_,_,_,_,hc,_⟩
  ·exact zhP (ziE hq b hc h) hq
  ·cases hc
  ·cases hc
 |.seq _ _,hc,_=>by obtain⟨_,_,hc⟩:=aof hc;obtain⟨_,_,hc⟩:=amf hc;cases hc
 |.cond _ _ _,hc,_=>by obtain⟨_,_,hc⟩:=aof hc;obtain⟨_,_,hc⟩:=aof hc;obtain⟨_,_,hc⟩:=amf hc;cases hc
 |.block _ _,hc,_=>by obtain⟨_,_,hc⟩:=amf hc;cases hc
 |.loop _,hc,_=>by obtain⟨_,_,hc⟩:=amf hc;cases hc
 |.rangeFunc _ _ _ _,hc,_=>by
  unfold zo at hc
  split at hc
  ·obtain⟨_,_,hc⟩:=aof hc;obtain⟨_,_,hc⟩:=aof hc;obtain⟨_,_,hc⟩:=amf hc;cases hc
  ·cases hc
 |.skip,hc,_=>by cases hc
 |.exit _,hc,_=>by cases hc
 |.ret,hc,_=>by cases hc
 |.label _,hc,_=>by cases hc
 |.goto _,hc,_=>by cases hc
 |.refuse _,hc,_=>by cases hc
theorem hand_wp {ih:IH} {M:Nat} (hih: ∀t o,ih t=some o→zc6 P M t o) {fn:Func} {rs:List CR} (hrs:allO (zZ P) fn.results.toList=some rs) {N:Nat} {l:List CI} {L:List (List Bool)} {b:CC} {o:Out} {p p0:Option Value} {s:zl} {h:H} {x:Option Value×zl×H} (hx:zX l p s h=some x) (hend:ziG ih rs L b x=some o)
 {c₀:Frame} {cs:List Frame} {ρ:Rho} {a:Act} {w:World} (hN:a.tmps.size=N) (hs:SR ρ s a.tmps) (hr:HR P ρ h w) (hd:a.defers=[]) (hp:POR ρ p p0): ∀(code:Code),zo P N code=some (zE (.seq (.ops l) L b))→
   code.wpSIn Fence.wide 0 P (handPost P fn c₀ cs (fun e u w'=>zhw P ρ w o e w'∧u=zcc p0)) a ({c₀ with mode:=zeC p0}::cs) w
 |.seq y z,hc=>by
  obtain⟨cy,hy,hc⟩:=aof hc
  obtain⟨cz,hz,e⟩:=amf hc
  simp only[zE,CC.seq.injEq,true_and] at e
  obtain⟨rfl,rfl⟩:=e
  have hrec:RecR ρ p0 p (zeC p0):=by
   cases p with
   |none=>cases p0 with
    |none=>exact .inl ⟨rfl,rfl⟩
    |some _=>exact hp.elim
   |some v=>cases p0 with
    |none=>exact hp.elim
    |some v'=>exact .inr ⟨v,v',rfl,rfl,hp,rfl⟩
  refine wpSIn_seq (ziE ?_ y hy fun ops hl=> ?_)
  ·intro l a cs w h
   obtain⟨h|h,_⟩:=h<;>cases h
  ·rw[List.range_eq_range']
   refine zge (x:=x) (ρ0:=ρ) (w0:=w) (N:=N) ?_ ops.size 0 l ρ p _ s h a w (by omega) (by simpa using hl) hx hrec hr hs hN hd (.refl _ _)
   intro σ u1 a1 w1 q1 q2 q3 q4 q5 q6
   show z.wpSIn _ _ _ _ _ _ _
   obtain⟨px,sx,hhx⟩:=x
   cases px with
   |some v=>cases hend
   |none=>
    obtain⟨o1,ho1,hret⟩:=aof (show(ih (.code b (zbi L sx) hhx)).bind (retV rs)=some o from hend)
    rcases q1 with⟨-,rfl⟩| ⟨v,v',e,_⟩
    ·refine wpSIn_of_wpIn rfl (wpIn_mono ((hih _ _ ho1 z N hz none σ a1 w1 [] [] (by intro l hl;cases hl) q4 (q2.keep L) q3 (by rw[q5];rfl) ⟨List.nodup_nil,by simp⟩).wpIn) ?_)
     intro e a2 w2 hpost
     obtain⟨τ,Ds,s2,h2,he,hN2,hd2,hD,hds,hs2,hr2,hcase⟩:=hpost.nil_ge
     rw[List.append_nil] at hd2
     have key:zf5 rs s2 h2=some o→Takes P (fun w'=> ∃v,(results fn a2.tmps).run P w'=.ok v w'∧zhw P ρ w o (.returned v) w'∧zcc p0=zcc p0) a2.defers w2:=by
      intro hres
      rw[hd2]
      have main: ∀(Ds:List Nat) (w3:World),zb5 τ w3 Ds→(∀D∈Ds,w.heap.size≤D)→HR P τ h2 w3→Ext ρ w τ w3→Takes P (fun w'=> ∃v,(results fn a2.tmps).run P w'=.ok v w'∧zhw P ρ w o (.returned v) w'∧zcc p0=zcc p0) (Ds.map zI) w3:=by
       intro Ds
       induction Ds with
       |nil=>
        intro w3 g1 g2 g3 g4
        obtain⟨v,v',rfl,k1,k2⟩:=zih hrs g3 hs2 hres
        exact⟨v',k1,⟨v,h2,v',τ,rfl,rfl,k2,g3,g4⟩,rfl⟩
       |cons D Ds ih=>
        intro w3 g1 g2 g3 g4
        obtain⟨k1,k2,k3⟩:=g1.ok D (by simp)
        obtain⟨j1,j2⟩:=g3.shut g4 (o:=.deferred none) (z7 _) k3 (z7 _) (g2 D (by simp)) k2
        exact⟨D,_,rfl,run_takeDeferred k3,ih _ (g1.tail_put _) (fun D' hD'=>g2 D' (by simp[hD'])) j1 j2⟩
      exact main Ds w2 hD (fun D hm=>Nat.le_trans q6.size (hds D hm)) hr2 (q6.trans he)
     rcases hcase with⟨rfl,rfl⟩| ⟨i,rfl,rfl⟩| ⟨rfl,rfl⟩| ⟨v,v',rfl,_,rfl⟩
     ·exact⟨.inl rfl,zcc p0,rfl,key hret⟩
     ·cases hret
     ·exact⟨.inr rfl,zcc p0,rfl,key hret⟩
     ·cases hret
    ·cases e
 |.scope c,hc=>by
  rcases zfB hc with⟨hc,_⟩|hc| ⟨_,_,_,_,_,_,hc,_⟩
  ·exact zhP (hand_wp hih hrs hx hend hN hs hr hd hp c hc) (by
    intro l a cs w h
    obtain⟨h|h,_⟩:=h<;>cases h)
  ·cases hc
  ·cases hc
 |.region id ops d,hc=>by
  obtain⟨l',hl,hc⟩:=aof hc
  cases d with
  |false=>cases hc
  |true=>
   have hc:some ((if ops.toList.zipIdx.all (fun x=>(x.1.after.toList.filter (Region.binds .any)).all fun e=>Nat.blt e.on x.2) then zdR (ancs ops.toList) l' else none).getD zew)=some (zE (.seq (.ops l) L b)):=hc
   have hc:(if ops.toList.zipIdx.all (fun x=>(x.1.after.toList.filter (Region.binds .any)).all fun e=>Nat.blt e.on x.2) then zdR (ancs ops.toList) l' else none)=some (zE (.seq (.ops l) L b)):=by
    generalize hd:(if ops.toList.zipIdx.all (fun x=>(x.1.after.toList.filter (Region.binds .any)).all fun e=>Nat.blt e.on x.2) then zdR (ancs ops.toList) l' else none)=dd at hc
    cases dd with
    |some x=>exact hc
    |none=>cases hc
   split at hc
   ·rcases zei hc with⟨_,_,e,_⟩| ⟨_,_,_,_,_,_,_,e,_⟩<;>cases e
   ·cases hc
 |.cond _ _ _,hc=>by obtain⟨_,_,hc⟩:=aof hc;obtain⟨_,_,hc⟩:=aof hc;obtain⟨_,_,hc⟩:=amf hc;cases hc
 |.block _ _,hc=>by obtain⟨_,_,hc⟩:=amf hc;cases hc
 |.loop _,hc=>by obtain⟨_,_,hc⟩:=amf hc;cases hc
 |.rangeFunc _ _ _ _,hc=>by
  unfold zo at hc
  split at hc
  ·obtain⟨_,_,hc⟩:=aof hc;obtain⟨_,_,hc⟩:=aof hc;obtain⟨_,_,hc⟩:=amf hc;cases hc
  ·cases hc
 |.skip,hc=>by cases hc
 |.exit _,hc=>by cases hc
 |.ret,hc=>by cases hc
 |.label _,hc=>by cases hc
 |.goto _,hc=>by cases hc
 |.refuse _,hc=>by cases hc
theorem hand_sound {ih:IH} {M:Nat} (hih: ∀t o,ih t=some o→zc6 P M t o) {g:FuncId} {fn:Func} {cf:zm} (hfn:P.funcs[g]? =some fn) (hcf:zc P fn=some (zn cf)) {args:List Value} {p p0:Option Value} {h:H} {o:Out} (hv:zd7 ih cf args p h=some o)
 {ρ:Rho} {args':Array Value} {w:World} (ra:VRL ρ args args'.toList) (rp:POR ρ p p0) (hr:HR P ρ h w):CallsDIn Fence.wide 0 P g args' (zeC p0) w (fun e u w'=>zhw P ρ w o e w'∧u=zcc p0)∧ ∀w,(callFunc g args').run P w=.ok (.enter g args') w:=by
 obtain⟨hname,c,hbody,hcc,hrs,hnt,hnp⟩:=zbD hcf
 unfold zd7 at hv
 rw[hnp] at hv
 cases hdf:cf.dfr with
 |some d=>rw[hdf] at hv;cases hv
 |none=>
  rw[hdf] at hv hcc
  dsimp only at hv
  split at hv
  ·rename_i hle
   have hle':args'.size≤fn.ntmps:=by
    have:=Nat.le_of_ble_eq_true hle
    rw[hnt,ra.1] at this;simpa using this
   have hcc:=zcz hcc
   generalize hbd:cf.body=bd at hv hcc
   unfold zhF at hv
   split at hv
   ·rename_i l L b
    obtain⟨x,hx,hend⟩:=aof hv
    refine⟨zjx hfn hbody trivial fun c₀ cs hu=> ?_,fun w=> ?_⟩
    ·have:=hand_wp hih hrs hx hend (c₀:=c₀) (cs:=cs) (a:={tmps:=args'++Array.replicate (fn.ntmps - args'.size) undef,defers:=[]}) (N:=fn.ntmps) (w:=w) (by simp;omega) (args_SR ra _) hr rfl rp c hcc
     have e:({c₀ with mode:=zeC p0}:Frame)=c₀:=by rw[←hu]
     rw[e] at this;exact this
    ·have hne: ¬fn.name= "runtime.NumGoroutine" :=by simpa using hname
     simp[callFunc,hfn,hne,hbody]
   ·cases hv
  ·cases hv
structure Same (W W':World):Prop where
 os:W'.os=W.os
 out:W'.output=W.output
 heap: ∀B:Nat,B<W.heap.size→W'.heap[B]? =W.heap[B]?
 froz: ∀a:Addr,a.block<W.heap.size→W'.frozen? a=W.frozen? a
 td:W'.tape=W.tape∧W.drawn≤W'.drawn
 size:W.heap.size≤W'.heap.size
def zgK (b:Bool):zm:=⟨0,[.tmp (bits 0)],.ops [⟨some (bits 0),.mv (.c (.bool b)),none,0⟩],none,none⟩
def primP (p:List Value→H→Option (Value×H)):zm:=⟨0,[],.exit 0,none,some p⟩
def primW (p:List Value→H→Option (Value×H)) (cf:zm):zm:={cf with prim:=some p}
def PrimOk (P:Program) (g:FuncId) (p:List Value→H→Option (Value×H)):Prop:=
 (∀args w,(callFunc g args).run P w=.ok (.enter g args) w)∧
 ∀args h v h',p args h=some (v,h')→ ∀ρ (args':Array Value) w,VRL ρ args args'.toList→HR P ρ h w→Calls P g args' w (zhw P ρ w (.val v h'))
def FnOk (P:Program) (g:FuncId) (cf:zm):Prop:=
 (∃fn,P.funcs[g]? =some fn∧zc P fn=some (zn cf))∨
 (∃fn cf0 b,P.funcs[g]? =some fn∧zc P fn=some (zn cf0)∧cf=zgK b∧ ∀w,Calls P g #[] w fun e w'=>e=.returned (.bool b)∧Same w w')∨
 (∃p,cf=primP p∧PrimOk P g p)∨
 ∃p fn cf0,cf=primW p cf0∧PrimOk P g p∧P.funcs[g]? =some fn∧zc P fn=some (zn cf0)
theorem Same.HR {ρ:Rho} {h:H} {w w':World} (hs:Same w w') (hr:HR P ρ h w):HR P ρ h w' where
 obj:=fun i R o hi ho=>by
  have:=hr.obj i R o hi ho
  have hb:=hs.heap R.blk (hr.blk i R hi)
  cases o<;>simp only[OR,hb] at this⊢ <;>exact this
 nxt:=hr.nxt
 sep:=hr.sep
 glb:=hr.glb
 blk:=fun i R hi=>Nat.lt_of_lt_of_le (hr.blk i R hi) hs.size
theorem Same.ext {ρ:Rho} {w w':World} (hs:Same w w'):Ext ρ w ρ w' where
 le:=fun _ _ h=>h
 size:=hs.size
 fresh:=fun i R h=>.inl ⟨i,R,h,rfl⟩
 frame:=fun B hB _=>hs.heap B hB
 loops:=fun B r hr=>⟨r,by rw[hs.heap B (Array.getElem?_eq_some_iff.1 hr).1];exact hr,rfl⟩
 os:=hs.os
 out:=hs.out
 froz:=hs.froz
 td:=hs.td
theorem call_sound {F:FuncId→Option zm} (hF: ∀g cf,F g=some cf→FnOk P g cf) {ih:IH} (hdec: ∀c s h o,ih (.code c s h)=some o→zbl c ih s h=some o) (hprim: ∀b s h o,ih (.code (zgK b).body s h)=some o→o=.nrm (s.set (bits 0) (.bool b)) h) {M:Nat} (hih: ∀t o,ih t=some o→zc6 P M t o) {f:Value} {args:List Value} {h:H} {o:Out} (hv:zbM F ih args h f=some o):
 zc6 P (M+1) (.call f args h) o:=by
 intro ρ f' args' w rf ra hr
 unfold zbM at hv
 split at hv
 ·rename_i g first captured
  obtain⟨cf,hcf,hv⟩:=aof hv
  obtain⟨first',captured',rfl⟩: ∃x y,f'=.func (.func g) x y:=by cases rf;exact⟨_,_,rfl⟩
  obtain⟨r1,r2⟩:=VRL.of_func rf
  have rall:VRL ρ (first.toList++args++captured.toList) (first'++args'++captured').toList:=by simpa using(r1.append ra).append r2
  have pri: ∀{p:List Value→H→Option (Value×H)} {x:Value×H},PrimOk P g p→p (first.toList++args++captured.toList) h=some x→zfE h x=some o→CallsIn Fence.wide 0 P g (first'++args'++captured') w (zgv P ρ w o)∧ ∀w,(callFunc g (first'++args'++captured')).run P w=.ok (.enter g (first'++args'++captured')) w:=by
   intro p x ⟨hent,hpk⟩ hp ho
   unfold zfE at ho
   split at ho
   ·cases ho
    obtain⟨v,h'⟩:=x
    exact⟨callsIn_wide.2 ((hpk _ _ _ _ hp ρ _ w rall hr).mono fun e w' h=>.inl h),hent _⟩
   ·cases ho
  rcases hF g cf hcf with⟨fn,hfn,hcomp⟩| ⟨fn,cf0,b,hfn,hcomp,rfl,hcalls⟩| ⟨p,rfl,hpr⟩| ⟨p,fn,cf0,rfl,hpr,hfn,hcomp⟩
  ·unfold zcQ at hv
   rw[(zbD hcomp).2.choose_spec.2.2.2.2] at hv
   exact zj4 hih hdec hfn hcomp hv rall hr
  ·unfold zcQ at hv
   have hv:(if Nat.ble (first.toList++args++captured.toList).length (zgK b).ntmps then(ih (.code (zgK b).body (zbW (first.toList++args++captured.toList) 0 .nil) h)).bind (retK (zgK b).results) else none)=some o:=hv
   split at hv
   ·rename_i hle
    have hnil:(first.toList++args++captured.toList)=[]:=List.eq_nil_of_length_eq_zero (by simpa[zgK] using Nat.le_of_ble_eq_true hle)
    obtain⟨o1,ho1,hret⟩:=aof hv
    obtain rfl:=hprim _ _ _ _ ho1
    have harr:first'++args'++captured'= #[]:=by
     have:=rall.1
     rw[hnil] at this
     exact Array.eq_empty_of_size_eq_zero (by rw[←Array.length_toList,←this];rfl)
    have ho:o=.val (.bool b) h:=by
     have e:zf5 [.tmp (bits 0)] ((zbW (first.toList++args++captured.toList) 0 .nil).set (bits 0) (.bool b)) h=some o:=hret
     rw[hnil] at e
     exact(Option.some.inj e).symm
    subst ho
    show CallsIn _ _ _ _ (first'++args'++captured') _ _∧_
    rw[harr]
    refine⟨callsIn_wide.2 ((hcalls w).mono ?_),fun w=> ?_⟩
    ·rintro e w' ⟨rfl,hs⟩
     exact .inl ⟨_,_,_,ρ,rfl,rfl,.bool _,hs.HR hr,hs.ext⟩
    ·obtain⟨hname,c,hbody,hcc,hrs,hnt,-⟩:=zbD hcomp
     have hne: ¬fn.name= "runtime.NumGoroutine" :=by simpa using hname
     simp[callFunc,hfn,hne,hbody]
   ·cases hv
  ·unfold zcQ at hv
   have hv:(match p (first.toList++args++captured.toList) h with|some x=>zfE h x|none=>zbk ih (primP p) (first.toList++args++captured.toList) h)=some o:=hv
   split at hv
   ·rename_i x hp
    exact pri hpr hp hv
   ·unfold zbk at hv
    split at hv
    ·obtain⟨o1,h1,h2⟩:=aof hv
     have:=hdec _ _ _ _ h1
     have e:o1=.exit 0 (zbW (first.toList++args++captured.toList) 0 .nil) h:=(Option.some.inj this).symm
     subst e;cases h2
    ·cases hv
  ·unfold zcQ at hv
   have hv:(match p (first.toList++args++captured.toList) h with|some x=>zfE h x|none=>zbk ih cf0 (first.toList++args++captured.toList) h)=some o:=hv
   split at hv
   ·rename_i x hp
    exact pri hpr hp hv
   ·exact zj4 hih hdec hfn hcomp hv rall hr
 ·rename_i l first captured
  split at hv
  ·obtain⟨lo,hlo,hv⟩:=aof hv
   obtain⟨R,hR,rfl⟩: ∃R,ρ l=some R∧f'=.func (.yield R.blk) #[] #[]:=by cases rf with|yield h=>exact⟨_,h,rfl⟩
   exact round_sound hih hlo hv hR ra hr
  ·cases hv
 ·cases hv
theorem hand_task {F:FuncId→Option zm} (hF: ∀g cf,F g=some cf→FnOk P g cf) {ih:IH} {M:Nat} (hih: ∀t o,ih t=some o→zc6 P M t o) {f:Value} {args:List Value} {p:Option Value} {h:H} {o:Out} (hv:zbU F ih args p h f=some o):
 zc6 P (M+1) (.hand f args p h) o:=by
 intro ρ f' args' p' w rf ra rp hr
 unfold zbU at hv
 split at hv
 ·rename_i g first captured
  obtain⟨cf,hcf,hv⟩:=aof hv
  obtain⟨first',captured',rfl⟩: ∃x y,f'=.func (.func g) x y:=by cases rf;exact⟨_,_,rfl⟩
  obtain⟨r1,r2⟩:=VRL.of_func rf
  have rall:VRL ρ (first.toList++args++captured.toList) (first'++args'++captured').toList:=by simpa using(r1.append ra).append r2
  rcases hF g cf hcf with⟨fn,hfn,hcomp⟩| ⟨fn,cf0,b,hfn,hcomp,rfl,hcalls⟩| ⟨p,rfl,hpr⟩| ⟨p,fn,cf0,rfl,hpr,hfn,hcomp⟩
  ·exact hand_sound hih hfn hcomp hv rall rp hr
  ·exfalso
   unfold zd7 zgK at hv
   dsimp only at hv
   split at hv
   ·cases hv
   ·cases hv
  ·cases hv
  ·cases hv
 ·cases hv
end Go.Ideal
namespace Go.Ideal
variable {P:Program}
theorem zid {ih:IH} (hnx: ∀t o,ih t=some o→zfG t≤zbx o): ∀{l:List CI} {s:zl} {h:H} {o:Out},zbY ih l s h=some o→h.next≤zbx o
 | [],s,h,o,hv=>by rw[zjR] at hv;cases hv;exact Nat.le_refl _
 |c::l,s,h,o,hv=>by
  rw[zb8] at hv
  obtain⟨y,hstep,hrest⟩:=aof hv
  obtain⟨b,hb,hstep⟩:=aof hstep
  have h1:h.next≤zbx y:=by
   cases b with
   |true=>exact doOpP_next hnx hstep
   |false=>cases hstep;exact Nat.le_refl _
  refine Nat.le_trans h1 ?_
  cases y with
  |val v g=>exact zid hnx (show zbY ih l _ _=some o from hrest)
  |pan _ _ _=>cases hrest;exact Nat.le_refl _
  |nrm _ _=>cases hrest
  |exit _ _ _=>cases hrest
  |ret _ _=>cases hrest
theorem zeV {ih:IH} (hnx: ∀t o,ih t=some o→zfG t≤zbx o): ∀{l:List CI} {bs:List (Nat×H)} {s:zl} {h:H} {s':zl} {h':H},zbA ih l bs s h=some (s',h')→h.next≤h'.next
 | [],bs,s,h,s',h',hv=>by rw[ziR] at hv;cases hv;exact Nat.le_refl _
 |o::l,bs,s,h,s',h',hv=>by
  rw[zcv] at hv
  obtain⟨⟨v,h1,bs1⟩,hstep,hrest⟩:=aof hv
  obtain⟨b,hb,hstep⟩:=aof hstep
  refine Nat.le_trans ?_ (zeV hnx hrest)
  cases b with
  |true=>
   simp only[zdS] at hstep
   split at hstep
   ·obtain⟨x,hx,e⟩:=amf hstep;cases e;exact doOp_next hnx hx
   ·split at hstep
    ·cases bs with
     |nil=>cases hstep
     |cons b0 bs=>
      obtain⟨y,hy,hstep⟩:=aof hstep
      split at hstep
      ·cases hstep;exact Nat.le_refl _
      ·cases hstep
    ·obtain⟨x,hx,e⟩:=amf hstep;cases e;exact zf8 hx
  |false=>cases hstep;exact Nat.le_refl _
theorem thenK_next {ih:IH} (hnx: ∀t o,ih t=some o→zfG t≤zbx o) {L:List (List Bool)} {b:CC} {o o':Out} (h:thenK ih L b o=some o'):zbx o≤zbx o':=by
 cases o with
 |nrm s h1=>exact hnx _ _ h
 |exit _ _ _=>cases h;exact Nat.le_refl _
 |ret _ _=>cases h;exact Nat.le_refl _
 |val _ _=>cases h;exact Nat.le_refl _
 |pan _ _ _=>cases h;exact Nat.le_refl _
theorem loopK_next {ih:IH} (hnx: ∀t o,ih t=some o→zfG t≤zbx o) {L:List (List Bool)} {b:CC} {o o':Out} (h:loopK ih L b o=some o'):zbx o≤zbx o':=by
 cases o with
 |nrm s h1=>exact hnx _ _ h
 |exit _ _ _=>cases h;exact Nat.le_refl _
 |ret _ _=>cases h;exact Nat.le_refl _
 |val _ _=>cases h;exact Nat.le_refl _
 |pan _ _ _=>cases h;exact Nat.le_refl _
theorem zdy {rs:List CR} {s:zl} {h:H} {o:Out} (ho:zf5 rs s h=some o):zbx o=h.next:=by
 obtain⟨vs,hvs,rfl⟩:=amf ho;rfl
theorem zjV {s:zl} {h:H} {p:Option CC} {o:Out} (ho:zjj s h p=some o):zbx o=h.next:=by
 unfold zjj at ho
 split at ho<;>cases ho<;>rfl
theorem codeStep_next {ih:IH} (hnx: ∀t o,ih t=some o→zfG t≤zbx o) {c:CC} {s:zl} {h:H} {o:Out} (hv:zbl c ih s h=some o):h.next≤zbx o:=by
 cases c with
 |skip=>cases hv;exact Nat.le_refl _
 |ops l=>exact zid hnx (show zbY ih l s h=some o from hv)
 |draw l=>obtain⟨⟨s',h'⟩,hr,e⟩:=amf hv;subst e;exact zeV hnx hr
 |draw2 l x y=>
  obtain⟨⟨s',h'⟩,hr,hv⟩:=aof hv
  obtain⟨g,hg,e⟩:=amf hv
  subst e
  obtain⟨_,_,_,_,_,_,_,_,n2⟩:=zhZ hg
  have:=zeV hnx hr
  show h.next≤g.next
  rw[n2];exact this
 |seq a L b=>obtain⟨o1,h1,h2⟩:=aof hv;exact Nat.le_trans (hnx _ _ h1) (thenK_next hnx h2)
 |cond x a b=>obtain⟨u,hu,hv⟩:=aof hv;obtain⟨y,hy,hv⟩:=aof hv;exact hnx _ _ hv
 |block i b=>
  obtain⟨o1,h1,e⟩:=amf hv
  have:=hnx _ _ h1
  subst e
  cases o1 with
  |exit j s' h'=>
   simp only[zft]
   split<;>exact this
  |nrm _ _=>exact this
  |ret _ _=>exact this
  |val _ _=>exact this
  |pan _ _ _=>exact this
 |loop L b=>obtain⟨o1,h1,h2⟩:=aof hv;exact Nat.le_trans (hnx _ _ h1) (loopK_next hnx h2)
 |rangeFunc rid L f ps as b=>
  obtain⟨u,hu,hv⟩:=aof hv
  obtain⟨g,hg,hv⟩:=aof hv
  obtain⟨o1,ho1,hv⟩:=aof hv
  obtain⟨⟨v1,h1⟩,hval,hv⟩:=aof hv
  obtain⟨lo,hlo,hv⟩:=aof hv
  have h2:=hnx _ _ ho1
  cases o1 with
  |val v0 g0=>
   simp only[zgA,Option.some.injEq,Prod.mk.injEq] at hval
   obtain⟨-,rfl⟩:=hval
   have h3:h.next+1≤g0.next:=h2
   have:zbx o=g0.next:=by
    unfold zeb at hv
    split at hv
    ·have:=zjV hv;exact this
    ·have:=zjV hv;exact this
    ·cases hv
   omega
  |nrm _ _=>cases hval
  |exit _ _ _=>cases hval
  |ret _ _=>cases hval
  |pan _ _ _=>cases hval
 |exit i=>cases hv;exact Nat.le_refl _
 |ret=>cases hv;exact Nat.le_refl _
 |scope b l1 r1 l2 r2=>exact hnx (.scope b l1 r1 l2 r2 s h) _ hv
theorem finRound_next {l:Nat} {o o':Out} (h:zgi l o=some o'):zbx o=zbx o':=by
 have fin: ∀{p:Option CC} {g:H} {lo:IObj},zfn l p g lo=some o'→g.next=zbx o':=by
  intro p g lo hf
  cases lo with
  |loop _ _ _ _=>cases hf;rfl
  |cells _ _=>cases hf
  |map _ _=>cases hf
  |dead=>cases hf
  |glob _ _=>cases hf
 cases o with
 |nrm s g=>obtain⟨lo,-,hf⟩:=aof h;exact fin hf
 |exit i s g=>obtain⟨lo,-,hf⟩:=aof h;exact fin hf
 |ret s g=>obtain⟨lo,-,hf⟩:=aof h;exact fin hf
 |val _ _=>cases h
 |pan _ _ _=>cases h
theorem zgG {rs:List CR} {s:zl} {o x:Out} (h:resK1 rs s o=some x):zbx x=zbx o:=by
 cases o with
 |val v g=>exact zdy h
 |nrm _ _=>cases h
 |exit _ _ _=>cases h
 |ret _ _=>cases h
 |pan _ _ _=>cases h
theorem doneK_next {ih:IH} (hnx: ∀t o,ih t=some o→zfG t≤zbx o) {f:Value} {args:List Value} {rs:List CR} {o x:Out} (hv:zjt ih f args rs o=some x):zbx o≤zbx x:=by
 cases o with
 |nrm s h=>obtain⟨o1,h1,h2⟩:=aof hv;rw[zgG h2];exact hnx _ _ h1
 |ret s h=>obtain⟨o1,h1,h2⟩:=aof hv;rw[zgG h2];exact hnx _ _ h1
 |pan v s h=>obtain⟨o1,h1,h2⟩:=aof hv;rw[zgG h2];exact hnx _ _ h1
 |exit _ _ _=>cases hv
 |val _ _=>cases hv
theorem bodyK_next {ih:IH} (hnx: ∀t o,ih t=some o→zfG t≤zbx o) {rs:List CR} {d:Option Dfr} {o x:Out} (hv:bodyK ih rs d o=some x):zbx o≤zbx x:=by
 cases d with
 |none=>
  cases o with
  |nrm s g=>exact Nat.le_of_eq (zdy hv).symm
  |ret s g=>exact Nat.le_of_eq (zdy hv).symm
  |pan v s g=>cases hv;exact Nat.le_refl _
  |exit _ _ _=>cases hv
  |val _ _=>cases hv
 |some d=>
  cases o with
  |nrm s h=>
   obtain⟨f,h1,hv⟩:=aof (show(d.f.ev s).bind _=some x from hv)
   obtain⟨f',h2,hv⟩:=aof hv
   obtain⟨l,h3,hv⟩:=aof hv
   obtain⟨o1,h4,hv⟩:=aof hv
   exact Nat.le_trans (hnx _ _ h4) (doneK_next hnx hv)
  |pan _ _ _=>cases hv;exact Nat.le_refl _
  |ret _ _=>cases hv
  |exit _ _ _=>cases hv
  |val _ _=>cases hv
theorem zdi: ∀{l:List CI} {p:Option Value} {s:zl} {h:H} {x:Option Value×zl×H},zX l p s h=some x→h.next≤x.2.2.next
 | [],p,s,h,x,hv=>by rw[ziF] at hv;cases hv;exact Nat.le_refl _
 |o::l,p,s,h,x,hv=>by
  rw[zhc] at hv
  obtain⟨b,hb,hv⟩:=aof hv
  cases b with
  |true=>
   have hv:zdG o (zX l) p s h=some x:=hv
   unfold zdG at hv
   split at hv
   ·exact zdi hv
   ·obtain⟨y,hy,hv⟩:=aof hv
    exact Nat.le_trans (zf8 hy) (zdi hv)
  |false=>exact zdi (show zX l p _ h=some x from hv)
theorem handStep_next {F:FuncId→Option zm} {ih:IH} (hnx: ∀t o,ih t=some o→zfG t≤zbx o) {f:Value} {args:List Value} {p:Option Value} {h:H} {o:Out} (hv:zbU F ih args p h f=some o):h.next≤zbx o:=by
 unfold zbU at hv
 split at hv
 ·obtain⟨cf,hcf,hv⟩:=aof hv
  unfold zd7 at hv
  split at hv
  ·split at hv
   ·unfold zhF at hv
    split at hv
    ·rename_i l L b hbd
     obtain⟨⟨px,sx,gx⟩,hx,hv⟩:=aof hv
     cases px with
     |some _=>cases hv
     |none=>
      obtain⟨o1,h1,hv⟩:=aof (show(ih (.code b (zbi L sx) gx)).bind _=some o from hv)
      have h2:=zdi hx
      have h3:=hnx _ _ h1
      cases o1 with
      |nrm s g=>rw[zdy hv];exact Nat.le_trans h2 h3
      |ret s g=>rw[zdy hv];exact Nat.le_trans h2 h3
      |exit _ _ _=>cases hv
      |val _ _=>cases hv
      |pan _ _ _=>cases hv
    ·cases hv
   ·cases hv
  ·cases hv
 ·cases hv
theorem callStep_next {F:FuncId→Option zm} {ih:IH} (hnx: ∀t o,ih t=some o→zfG t≤zbx o) {f:Value} {args:List Value} {h:H} {o:Out} (hv:zbM F ih args h f=some o):h.next≤zbx o:=by
 unfold zbM at hv
 split at hv
 ·obtain⟨cf,hcf,hv⟩:=aof hv
  have wk: ∀l,zbk ih cf l h=some o→h.next≤zbx o:=by
   intro l hv
   unfold zbk at hv
   split at hv
   ·obtain⟨o1,ho1,hret⟩:=aof hv
    exact Nat.le_trans (hnx _ _ ho1) (bodyK_next hnx hret)
   ·cases hv
  unfold zcQ at hv
  split at hv
  ·exact wk _ hv
  ·split at hv
   ·unfold zfE at hv
    split at hv
    ·rename_i hle;cases hv;exact Nat.le_of_ble_eq_true hle
    ·cases hv
   ·exact wk _ hv
 ·split at hv
  ·obtain⟨lo,hlo,hv⟩:=aof hv
   cases lo with
   |loop st pend sl rc=>
    obtain⟨s0,hs0,hv⟩:=aof hv
    obtain⟨o1,ho1,hv⟩:=aof hv
    have h1:=hnx _ _ ho1
    cases o1 with
    |nrm s g=>
     obtain⟨lo1,hlo1,hv⟩:=aof hv
     cases lo1 with
     |loop st1 pend1 sl1 rc1=>
      cases st1<;>simp only[zez,reduceCtorEq] at hv
      obtain⟨o2,ho2,hfin⟩:=aof hv
      have h2:=hnx _ _ ho2
      rw[←finRound_next hfin]
      exact Nat.le_trans h1 h2
     |cells _ _=>cases hv
     |map _ _=>cases hv
     |dead=>cases hv
     |glob _ _=>cases hv
    |exit _ _ _=>cases hv
    |ret _ _=>cases hv
    |val _ _=>cases hv
    |pan _ _ _=>cases hv
   |cells _ _=>cases hv
   |map _ _=>cases hv
   |dead=>cases hv
   |glob _ _=>cases hv
  ·cases hv
 ·cases hv
theorem zjb {F:FuncId→Option zm}: ∀(n:Nat) (t:Task) (o:Out),E F n t=some o→zfG t≤zbx o
 |0,t,o,h=>by cases h
 |n+1,t,o,h=>by
  cases t with
  |code c s g=>exact codeStep_next (zjb n) (show zbl c (E F n) s g=some o from h)
  |call f args g=>exact callStep_next (zjb n) (show zbM F (E F n) args g f=some o from h)
  |hand f args p g=>exact handStep_next (zjb n) (show zbU F (E F n) args p g f=some o from h)
  |scope b l1 r1 l2 r2 s g=>
   obtain⟨o1,h1,h2⟩:=aof (show zcP (E F n) b l1 r1 l2 r2 s g=some o from h)
   have h3:=zjb n _ _ h1
   cases o1 with
   |exit i s' g'=>
    have h2:zbN (E F n) l1 r1 l2 r2 i s' g'=some o:=h2
    unfold zbN at h2
    refine Nat.le_trans h3 ?_
    split at h2
    ·exact zjb n _ _ h2
    ·split at h2
     ·exact zjb n _ _ h2
     ·cases h2;exact Nat.le_refl _
   |nrm _ _=>cases h2;exact h3
   |ret _ _=>cases h2;exact h3
   |val _ _=>cases h2;exact h3
   |pan _ _ _=>cases h2;exact h3
section
theorem zfz {ih:IH} {c:CC} {s:zl} {h:H} (hc:zew=zE c):zbl c ih s h=none:=by
 obtain⟨a,b,rfl,-,-⟩:=zjH hc
 rfl
theorem zfs {ih:IH} {M:Nat} (hih: ∀t o,ih t=some o→zc6 P M t o) (hmix:P.follows .mixedOrders=true) (hnx: ∀t o,ih t=some o→zfG t≤zbx o): ∀(code:Code) (c:CC) (N:Nat),zo P N code=some (zE c)→ ∀(s:zl) (h:H) (o:Out),zbl c ih s h=some o→
 ∀(r:Option Nat) (ρ:Rho) (a:Act) (w:World) (Ds:List Nat) (Db:List Deferred),zel r w→a.tmps.size=N→SR ρ s a.tmps→HR P ρ h w→a.defers=Ds.map zI++Db→zb5 ρ w Ds→CodeOk P (M+1) r (zc5 P ρ w N Ds Db o) a w code
 |.skip,c,N,hc,s,h,o,hv,r,ρ,a,w,Ds,Db,hR,hN,hs,hr,hd,hD=>by
  obtain rfl:=zjF (Option.some.inj hc);cases hv
  exact wpIn_skip ⟨ρ,Ds,s,h,.refl _ _,hN,hd,⟨hD,fun D h=>.inl h⟩,hs,hr,.inl ⟨rfl,rfl⟩⟩
 |.label l,c,N,hc,s,h,o,hv,r,ρ,a,w,Ds,Db,hR,hN,hs,hr,hd,hD=>by
  obtain rfl:=zjF (Option.some.inj hc);cases hv
  exact wpIn_label ⟨ρ,Ds,s,h,.refl _ _,hN,hd,⟨hD,fun D h=>.inl h⟩,hs,hr,.inl ⟨rfl,rfl⟩⟩
 |.exit i,c,N,hc,s,h,o,hv,r,ρ,a,w,Ds,Db,hR,hN,hs,hr,hd,hD=>by
  obtain rfl:=zjG (Option.some.inj hc);cases hv
  exact wpIn_exit ⟨ρ,Ds,s,h,.refl _ _,hN,hd,⟨hD,fun D h=>.inl h⟩,hs,hr,.inr (.inl ⟨_,rfl,(zcd i).symm⟩)⟩
 |.ret,c,N,hc,s,h,o,hv,r,ρ,a,w,Ds,Db,hR,hN,hs,hr,hd,hD=>by
  obtain rfl:=strip_ret (Option.some.inj hc);cases hv
  exact wpIn_ret ⟨ρ,Ds,s,h,.refl _ _,hN,hd,⟨hD,fun D h=>.inl h⟩,hs,hr,.inr (.inr (.inl ⟨rfl,rfl⟩))⟩
 |.goto l,c,N,hc,s,h,o,hv,r,ρ,a,w,Ds,Db,hR,hN,hs,hr,hd,hD=>by
  obtain rfl:=zjG (Option.some.inj hc);cases hv
  exact wpIn_goto ⟨ρ,Ds,s,h,.refl _ _,hN,hd,⟨hD,fun D h=>.inl h⟩,hs,hr,.inr (.inl ⟨_,rfl,(zct l).symm⟩)⟩
 |.refuse l,c,N,hc,s,h,o,hv,_,_,_,_,_,_,_,_,_,_,_,_=>by rw[zfz (Option.some.inj hc)] at hv;cases hv
 |.scope b,c,N,hc,s,h,o,hv,r,ρ,a,w,Ds,Db,hR,hN,hs,hr,hd,hD=>by
  rcases zfB hc with⟨hc,hl⟩|hc| ⟨cb,l1,r1,l2,r2,hb,hc,⟨s1,f1,g1⟩,⟨s2,f2,g2⟩,f3⟩
  ·exact wpIn_scope (zfs hih hmix hnx b c N hc s h o hv r ρ a w Ds Db hR hN hs hr hd hD).wpIn hl
  ·rw[zfz hc.symm] at hv;cases hv
  ·obtain⟨b',r1',r2',rfl,rfl,rfl,rfl⟩:=strip_scope hc.symm
   exact wpIn_inScope (hih _ _ (show ih (.scope b' l1 r1' l2 r2' s h)=some o from hv) b b N hb ⟨⟨s1,f1,g1⟩,⟨s2,f2,g2⟩,f3⟩ r ρ a w Ds Db hR hN hs hr hd hD)
 |.region id ops d,c,N,hc,s,h,o,hv,r,ρ,a,w,Ds,Db,hR,hN,hs,hr,hd,hD=>by
  obtain⟨l,hl,hc⟩:=aof hc
  cases d with
  |false=>
   obtain rfl:=zhX (Option.some.inj hc)
   exact wpIn_region (ops_wpIn hih r hl (show zbY ih l s h=some o from hv) hr hs hN hd hD)
  |true=>
   have hc:some ((if ops.toList.zipIdx.all (fun x=>(x.1.after.toList.filter (Region.binds .any)).all fun e=>Nat.blt e.on x.2) then zdR (ancs ops.toList) l else none).getD zew)=some (zE c):=hc
   have hc:(if ops.toList.zipIdx.all (fun x=>(x.1.after.toList.filter (Region.binds .any)).all fun e=>Nat.blt e.on x.2) then zdR (ancs ops.toList) l else none)=some (zE c):=by
    generalize hd:(if ops.toList.zipIdx.all (fun x=>(x.1.after.toList.filter (Region.binds .any)).all fun e=>Nat.blt e.on x.2) then zdR (ancs ops.toList) l else none)=dd at hc
    cases dd with
    |some x=>exact hc
    |none=>rw[zfz (Option.some.inj hc)] at hv;cases hv
   split at hc
   ·rename_i hbk
    have e:zE c=c:=by
     rcases zei hc with⟨l',order,e,-⟩| ⟨l',order,x,y,c',d,rest,e,-⟩
     ·rw[strip_draw e.symm];rfl
     ·rw[strip_draw2 e.symm];rfl
    rw[e] at hc
    exact draw_sound hmix hih hnx hl hbk hc hv hN hs hr hd hD
   ·cases hc
 |.seq x y,c,N,hc,s,h,o,hv,r,ρ,a,w,Ds,Db,hR,hN,hs,hr,hd,hD=>by
  obtain⟨cx,hx,hc⟩:=aof hc
  obtain⟨cy,hy,hc⟩:=amf hc
  obtain⟨ca,L,cb,rfl,rfl,rfl⟩:=zhW hc
  obtain⟨o1,h1,h2⟩:=aof hv
  refine wpIn_seq (wpIn_mono ((hih _ _ h1 x N hx r ρ a w Ds Db hR hN hs hr hd hD).wpIn) ?_)
  rintro e a1 w1 ⟨σ,Ds1,s1,hh1,he,hN1,hd1,⟨hD1,hds1⟩,hs1,hr1,hcase⟩
  rcases hcase with⟨rfl,rfl⟩| ⟨i,rfl,rfl⟩| ⟨rfl,rfl⟩| ⟨pv,pv',rfl,hpv,rfl⟩
  ·exact wpIn_mono ((hih _ _ h2 y N hy r σ a1 w1 Ds1 Db (hR.ext he) hN1 (hs1.keep L) hr1 hd1 hD1).wpIn) (fun e a2 w2 h=>h.ext he hds1)
  ·cases h2
   have hp:zc5 P ρ w N Ds Db (.exit i s1 hh1) (exOf i) a1 w1:=⟨σ,Ds1,s1,hh1,he,hN1,hd1,⟨hD1,hds1⟩,hs1,hr1,.inr (.inl ⟨i,rfl,rfl⟩)⟩
   rcases zfc i with⟨j,rfl⟩| ⟨l,rfl⟩
   ·rw[zcd] at hp⊢;exact hp
   ·rw[zct] at hp⊢;exact hp
  ·cases h2;exact⟨σ,Ds1,s1,hh1,he,hN1,hd1,⟨hD1,hds1⟩,hs1,hr1,.inr (.inr (.inl ⟨rfl,rfl⟩))⟩
  ·cases h2;exact⟨σ,Ds1,s1,hh1,he,hN1,hd1,⟨hD1,hds1⟩,hs1,hr1,.inr (.inr (.inr ⟨pv,pv',rfl,hpv,rfl⟩))⟩
 |.cond x y z,c,N,hc,s,h,o,hv,r,ρ,a,w,Ds,Db,hR,hN,hs,hr,hd,hD=>by
  obtain⟨cx,hx,hc⟩:=aof hc
  obtain⟨cy,hy,hc⟩:=aof hc
  obtain⟨cz,hz,hc⟩:=amf hc
  obtain⟨ca,cb,rfl,rfl,rfl⟩:=zjH hc
  obtain⟨u,hu,hv⟩:=aof hv
  obtain⟨cc,hcc,hv⟩:=aof hv
  have hxv:=z6 hx hs hu
  unfold condV at hcc
  split at hcc
  ·cases hcc
   exact wpIn_cond_true hxv.inv_bool ((hih _ _ hv y N hy r ρ a w Ds Db hR hN hs hr hd hD).wpIn)
  ·cases hcc
   exact wpIn_cond_false hxv.inv_bool ((hih _ _ hv z N hz r ρ a w Ds Db hR hN hs hr hd hD).wpIn)
  ·cases hcc
 |.block id b,c,N,hc,s,h,o,hv,r,ρ,a,w,Ds,Db,hR,hN,hs,hr,hd,hD=>by
  obtain⟨cb,hb,hc⟩:=amf hc
  obtain⟨ca,rfl,rfl⟩:=strip_block hc
  obtain⟨o1,h1,rfl⟩:=amf hv
  refine wpIn_block (wpIn_mono ((hih _ _ h1 b N hb r ρ a w Ds Db hR hN hs hr hd hD).wpIn) ?_)
  rintro e a1 w1 ⟨σ,Ds1,s1,hh1,he,hN1,hd1,⟨hD1,hds1⟩,hs1,hr1,hcase⟩
  rcases hcase with⟨rfl,rfl⟩| ⟨i,rfl,rfl⟩| ⟨rfl,rfl⟩| ⟨pv,pv',rfl,hpv,rfl⟩
  ·exact⟨σ,Ds1,s1,hh1,he,hN1,hd1,⟨hD1,hds1⟩,hs1,hr1,.inl ⟨rfl,rfl⟩⟩
  ·by_cases hid:i=2*id
   ·subst hid
    rw[zcd]
    simp only[Exit.inBlock,if_true,zft,Nat.beq_refl]
    exact⟨σ,Ds1,s1,hh1,he,hN1,hd1,⟨hD1,hds1⟩,hs1,hr1,.inl ⟨rfl,rfl⟩⟩
   ·have:Nat.beq i (2*id)=false:=by
     cases h:Nat.beq i (2*id) with
     |false=>rfl
     |true=>exact absurd (Nat.eq_of_beq_eq_true h) hid
    have hp:zc5 P ρ w N Ds Db (zft (2*id) (.exit i s1 hh1)) (exOf i) a1 w1:=⟨σ,Ds1,s1,hh1,he,hN1,hd1,⟨hD1,hds1⟩,hs1,hr1,.inr (.inl ⟨i,by simp only[zft,this],rfl⟩)⟩
    rcases zfc i with⟨j,rfl⟩| ⟨l,rfl⟩
    ·rw[zcd] at hp⊢
     simp only[Exit.inBlock,if_neg (show¬j=id by omega)]
     exact hp
    ·rw[zct] at hp⊢
     exact hp
  ·exact⟨σ,Ds1,s1,hh1,he,hN1,hd1,⟨hD1,hds1⟩,hs1,hr1,.inr (.inr (.inl ⟨rfl,rfl⟩))⟩
  ·exact⟨σ,Ds1,s1,hh1,he,hN1,hd1,⟨hD1,hds1⟩,hs1,hr1,.inr (.inr (.inr ⟨pv,pv',rfl,hpv,rfl⟩))⟩
 |.loop b,c,N,hc,s,h,o,hv,r,ρ,a,w,Ds,Db,hR,hN,hs,hr,hd,hD=>by
  obtain⟨cb,hb,hc⟩:=amf hc
  obtain⟨L,ca,rfl,rfl⟩:=strip_loop hc
  obtain⟨o1,h1,h2⟩:=aof hv
  show Code.roundsIn (Wf r) 0 P b _ (M+1) a w
  rw[roundsIn_succ]
  refine wpIn_mono ((hih _ _ h1 b N hb r ρ a w Ds Db hR hN (hs.keep L) hr hd hD).wpIn) ?_
  rintro e a1 w1 ⟨σ,Ds1,s1,hh1,he,hN1,hd1,⟨hD1,hds1⟩,hs1,hr1,hcase⟩
  rcases hcase with⟨rfl,rfl⟩| ⟨i,rfl,rfl⟩| ⟨rfl,rfl⟩| ⟨pv,pv',rfl,hpv,rfl⟩
  ·have hl:CodeOk P M r (zc5 P σ w1 N Ds1 Db o) a1 w1 (.loop b):=hih _ _ h2 (.loop b) N (by simp[zo,hb,zE]) r σ a1 w1 Ds1 Db (hR.ext he) hN1 hs1 hr1 hd1 hD1
   exact zig (fun e a2 w2 h=>h.ext he hds1) M a1 w1 hl
  ·cases h2
   have hp:zc5 P ρ w N Ds Db (.exit i s1 hh1) (exOf i) a1 w1:=⟨σ,Ds1,s1,hh1,he,hN1,hd1,⟨hD1,hds1⟩,hs1,hr1,.inr (.inl ⟨i,rfl,rfl⟩)⟩
   rcases zfc i with⟨j,rfl⟩| ⟨l,rfl⟩
   ·rw[zcd] at hp⊢;exact hp
   ·rw[zct] at hp⊢;exact hp
  ·cases h2;exact⟨σ,Ds1,s1,hh1,he,hN1,hd1,⟨hD1,hds1⟩,hs1,hr1,.inr (.inr (.inl ⟨rfl,rfl⟩))⟩
  ·cases h2;exact⟨σ,Ds1,s1,hh1,he,hN1,hd1,⟨hD1,hds1⟩,hs1,hr1,.inr (.inr (.inr ⟨pv,pv',rfl,hpv,rfl⟩))⟩
 |.rangeFunc f ps as b,c,N,hc,s,h,o,hv,r,ρ,a,w,Ds,Db,hR,hN,hs,hr,hd,hD=>by
  unfold zo at hc
  split at hc
  ·rename_i hps
   obtain⟨cf,hf,hc⟩:=aof hc
   obtain⟨cas,has,hc⟩:=aof hc
   obtain⟨cb,hb,hc⟩:=amf hc
   obtain⟨rid,L,ca,cb',rfl,rfl,rfl⟩:=strip_range hc
   exact range_sound hih hps hf has hb hv hR hN hs hr hd hD
  ·cases hc
end
theorem E_sound {F:FuncId→Option zm} (hmix:P.follows .mixedOrders=true) (hF: ∀g cf,F g=some cf→FnOk P g cf): ∀(n:Nat) (t:Task) (o:Out),E F n t=some o→zc6 P n t o
 |0,t,o,h=>by cases h
 |n+1,t,o,h=>by
  have hih:=E_sound hmix hF n
  cases t with
  |code c s g=>
   intro code N hc r ρ a w Ds Db hR hN hs hr hd hD
   exact zfs hih hmix (zjb n) code c N hc s g o (show zbl c (E F n) s g=some o from h) r ρ a w Ds Db hR hN hs hr hd hD
  |call f args g=>
   refine call_sound hF (E_dec n) (fun b s h o he=> ?_) hih (show zbM F (E F n) args g f=some o from h)
   cases n with
   |zero=>cases he
   |succ n=>exact(Option.some.inj he).symm
  |hand f args p g=>exact hand_task hF hih (show zbU F (E F n) args p g f=some o from h)
  |scope b l1 r1 l2 r2 s g=>exact scope_sound hih (show zcP (E F n) b l1 r1 l2 r2 s g=some o from h)
theorem zdU {F:FuncId→Option zm} (hmix:P.follows .mixedOrders=true) (hF: ∀g cf,F g=some cf→FnOk P g cf) {n:Nat} {g:FuncId} {args:List Value} {h h':H} {v:Value}
 (he:E F n (.call (.func (.func g) #[] #[]) args h)=some (.val v h')) {ρ:Rho} {args':Array Value} {w:World} (ra:VRL ρ args args'.toList) (hr:HR P ρ h w):
 Calls P g args' w fun e w'=> ∃v' σ,e=.returned v'∧VR σ v v'∧HR P σ h' w'∧Ext ρ w σ w':=by
 have hs:=E_sound hmix hF n _ _ he ρ (.func (.func g) #[] #[]) args' w (.func g rfl rfl (by simp) (by simp)) ra hr
 have hc:=callsIn_wide.1 hs.1
 simp only[Array.empty_append,Array.append_empty] at hc
 refine hc.mono ?_
 intro e w' hpp
 obtain⟨v0,h0,v',σ,e1,e2,q1,q2,q3⟩:=hpp.val
 cases e1
 exact⟨v',σ,e2,q1,q2,q3⟩
end Go.Ideal
namespace Go.Ideal
noncomputable section
variable {P:Program}
structure K where
 nrm:zl→H→Option Out
 ext:Nat→zl→H→Option Out
 ret:zl→H→Option Out
 pan:Value→zl→H→Option Out
def apK (k:K):Out→Option Out
 |.nrm s h=>k.nrm s h
 |.exit i s h=>k.ext i s h
 |.ret s h=>k.ret s h
 |.val _ _=>none
 |.pan v s h=>k.pan v s h
def k2 (r:R) (k:Value→H→Option Out):Option Out:=r.bind fun x=>k x.1 x.2
def kc (r p:R) (kp:Value→H→Option Out) (k:Value→H→Option Out):Option Out:=match r with
 |some x=>k x.1 x.2
 |none=>p.bind fun x=>kp x.1 x.2
structure Rn where
 call:Value→List Value→H→R
 pan:Value→List Value→H→R
 hand:Value→List Value→Option Value→H→Option H
 loop:List (List Bool)→CC→K→((List Value→H→Option Out)→List Value→H→Option Out)→List Value→H→Option Out
abbrev uc (vs:List Value) (k:Value→List Value→Option Out):Option Out:=List.rec (motive:=fun _=>Option Out) none (fun v r _=>k v r) vs
abbrev un (vs:List Value) (k:Option Out):Option Out:=List.rec (motive:=fun _=>Option Out) k (fun _ _ _=>none) vs
def br (v:Value) (a b:Option Out):Option Out:=match v with
 |.bool true=>a
 |.bool false=>b
 |_=>none
abbrev getL (L:List (List Bool)) (s:zl):(List Value→Option Out)→Option Out:=
 List.rec (motive:=fun _=>(List Value→Option Out)→Option Out) (fun k=>k []) (fun p _ ih k=>(s.get p).bind fun v=>ih fun vs=>k (v::vs)) L
abbrev zhQ (L:List (List Bool)):List Value→(zl→Option Out)→Option Out:=
 List.rec (motive:=fun _=>List Value→(zl→Option Out)→Option Out) (fun vs k=>un vs (k .nil)) (fun p _ ih vs k=>uc vs fun v vs=>ih vs fun s=>k (s.set p v)) L
def setL (L:List (List Bool)):List Value→zl:=
 List.rec (motive:=fun _=>List Value→zl) (fun _=>.nil) (fun p _ ih vs=>match vs with|v::vs=>(ih vs).set p v| []=>.nil) L
abbrev rdL (L:List (List Bool)) (s:zl):(zl→Option Out)→Option Out:=
 List.rec (motive:=fun _=>(zl→Option Out)→Option Out) (fun k=>k .nil) (fun p _ ih k=>(s.get p).bind fun v=>ih fun s'=>k (s'.set p v)) L
abbrev zh5 (ps:List (List Bool)):List Value→zl→(zl→Option Out)→Option Out:=
 List.rec (motive:=fun _=>List Value→zl→(zl→Option Out)→Option Out) (fun vs s k=>un vs (k s)) (fun p _ ih vs s k=>uc vs fun v vs=>ih vs (s.set p v) k) ps
abbrev withA (n:Nat):Nat→List Value→zl→(zl→Option Out)→Option Out:=
 Nat.rec (motive:=fun _=>Nat→List Value→zl→(zl→Option Out)→Option Out) (fun _ vs s k=>un vs (k s)) (fun _ ih i vs s k=>uc vs fun v vs=>ih (i+1) vs (s.set (bits i) v) k) n
def shDo (X:Rn) (op:COp) (s:zl) (h:H) (kp:Value→H→Option Out) (k:Value→H→Option Out):Option Out:=match op with
 |.call f args=>(f.ev s).bind fun f=>(evL s args).bind fun l=>kc (X.call f l h) (X.pan f l h) kp k
 |.invoke tbl x args=>(x.ev s).bind fun v=>(zeH tbl v).bind fun r=>(evL s args).bind fun l=>kc (X.call (.func (.func r.1) #[] #[]) (r.2::l) h) (X.pan (.func (.func r.1) #[] #[]) (r.2::l) h) kp k
 |.panic x=>(x.ev s).bind fun v=>match v with|.iface t u=>kp (.iface t u) h|_=>none
 |op=>k2 (opV op s h) k
def shStep (X:Rn) (o:CI) (s:zl) (h:H) (kp:Value→H→Option Out) (k:Value→H→Option Out):Option Out:=(zbn o.guard s).bind fun b=>match b with
 |true=>shDo X o.op s h kp k
 |false=>k zM h
def shOps (X:Rn) (kp:Value→zl→H→Option Out) (l:List CI):zl→H→(zl→H→Option Out)→Option Out:=
 List.rec (motive:=fun _=>zl→H→(zl→H→Option Out)→Option Out) (fun s h k=>k s h) (fun o _ ih s h k=>shStep X o s h (fun v h=>kp v s h) fun v h=>ih (zU o.dst v s) h k) l
def shDo1 (X:Rn) (op:COp) (s:zl) (h:H):R:=match op with
 |.call f args=>(f.ev s).bind fun f=>(evL s args).bind fun l=>X.call f l h
 |.invoke tbl x args=>(x.ev s).bind fun v=>(zeH tbl v).bind fun r=>(evL s args).bind fun l=>X.call (.func (.func r.1) #[] #[]) (r.2::l) h
 |op=>opV op s h
def zh2 (X:Rn) (o:CI) (s:zl) (h:H):R:=(zbn o.guard s).bind fun b=>match b with
 |true=>shDo1 X o.op s h
 |false=>some (zM,h)
def zjS (rd:H→R) (lo:Nat) (v:Value):List (Nat×H)→Bool
 | []=>true
 |x::r=>if Nat.blt x.1 lo then zjS rd lo v r else match rd x.2 with
  |some y=>eqVal v y.1&&zjS rd lo v r
  |none=>false
def rdF (rd:H→R) (lo:Nat) (h:H):List (Nat×H)→R
 | []=>none
 |x::r=>(rd x.2).bind fun y=>if zjS rd lo y.1 r then some (y.1,h) else none
def rdStep (o:CI) (bs:List (Nat×H)) (s:zl) (h:H):R:=(zbn o.guard s).bind fun b=>match b with
 |true=>rdF (opV o.op s) o.lo h bs
 |false=>some (zM,h)
def zfY (X:Rn) (l:List CI):List (Nat×H)→zl→H→(zl→H→Option Out)→Option Out:=
 List.rec (motive:=fun _=>List (Nat×H)→zl→H→(zl→H→Option Out)→Option Out) (fun _ s h k=>k s h)
  (fun o _ ih bs s h k=>match isW o.op with
    |true=>k2 (zh2 X o s h) fun v h=>ih ((zjm bs,h)::bs) (zU o.dst v s) h k
    |false=>match isRd o.op with
     |true=>k2 (rdStep o bs s h) fun v h=>ih bs (zU o.dst v s) h k
     |false=>k2 (zh2 X o s h) fun v h=>ih bs (zU o.dst v s) h k) l
def pendK2 (k:K) (s:zl) (h:H):Option CC→Option Out
 |none=>k.nrm s h
 |some .ret=>k.ret s h
 |some (.exit i)=>k.ext i s h
 |_=>none
def rgEnd (k:K) (s:zl) (l:Nat) (h:H):Option Out:=(h.get l).bind fun o=>match o with
 |.loop .ready pend sl rc=>pendK2 k s (h.put l (.loop .exhausted pend sl rc)) pend
 |.loop .done pend sl rc=>pendK2 k s (h.put l (.loop .exhausted pend sl rc)) pend
 |_=>none
def st2 (g:Option H) (k:H→Option Out):Option Out:=g.bind k
def blkX (i:Nat) (k:K) (j:Nat) (s:zl) (h:H):Option Out:=match Nat.beq j i with
 |true=>k.nrm s h
 |false=>k.ext j s h
def someL (L:List (List Bool)) (o:Option Out):Option Out:=List.rec (motive:=fun _=>Option Out) none (fun _ _ _=>o) L
def sh (X:Rn) (c:CC):K→zl→H→Option Out:=
 CC.rec (motive:=fun _=>K→zl→H→Option Out)
  (fun k s h=>k.nrm s h)
  (fun l k s h=>shOps X k.pan l s h k.nrm)
  (fun l k s h=>zfY X l [(0,h)] s h k.nrm)
  (fun l x y k s h=>zfY X l [(0,h)] s h fun s h=>st2 (zcB x.op y.op s h) fun h=>k.nrm s h)
  (fun _ L _ iha ihb k s h=>iha ⟨fun s h=>ihb k (zbi L s) h,k.ext,k.ret,k.pan⟩ s h)
  (fun c _ _ iha ihb k s h=>(c.ev s).bind fun v=>br v (iha k s h) (ihb k s h))
  (fun i _ ih k s h=>ih ⟨k.nrm,blkX i k,k.ret,k.pan⟩ s h)
  (fun L b ih k s h=>someL L (getL L s fun vs=>X.loop L b k (fun self vs h=>zhQ L vs fun s=>ih ⟨fun s h=>getL L s fun vs=>self vs h,k.ext,k.ret,k.pan⟩ s h) vs h))
  (fun rid L f ps as b _ _ k s h=>(f.ev s).bind fun f=>(isFn f).bind fun f=>k2 (X.call f [.func (.yield h.next) #[] #[]] (h.new (.loop .ready none (zbi L s) ⟨rid,L,ps,as,b⟩))) fun _ h'=>rgEnd k s h.next h')
  (fun i k s h=>k.ext i s h)
  (fun k s h=>k.ret s h)
  (fun _ _ _ _ _ _ _ _ _ _ _=>none) c
def resK (rs:List CR) (s:zl) (h:H):(List Value→Option Out)→Option Out:=
 List.rec (motive:=fun _=>(List Value→Option Out)→Option Out) (fun k=>k []) (fun r _ ih k=>(resV s h r).bind fun v=>ih fun vs=>k (v::vs)) rs
def endK (rs:List CR) (s:zl) (h:H):Option Out:=resK rs s h fun vs=>some (.val (zfx vs) h)
def panO (v:Value) (_:zl) (h:H):Option Out:=some (.pan v .nil h)
def fnK (rs:List CR):K:=⟨endK rs,fun _ _ _=>none,endK rs,panO⟩
def doneKs (X:Rn) (f:Value) (l:List Value) (rs:List CR):K:=
 ⟨fun s h=>(X.hand f l none h).bind (endK rs s),fun _ _ _=>none,fun s h=>(X.hand f l none h).bind (endK rs s),fun v s h=>(X.hand f l (some v) h).bind (endK rs s)⟩
def dfrKs (X:Rn) (d:Dfr) (rs:List CR):K:=
 ⟨fun s h=>(d.f.ev s).bind fun f=>(isFn f).bind fun f=>(evL s d.args).bind fun l=>sh X d.rest (doneKs X f l rs) (zbi d.L s) h,fun _ _ _=>none,fun _ _=>none,panO⟩
def bodyKs (X:Rn) (rs:List CR):Option Dfr→K
 |none=>fnK rs
 |some d=>dfrKs X d rs
def shFunc (X:Rn) (n:Nat) (cf:zm) (args:List Value) (h:H):Option Out:=match cf.prim with
 |none=>withA n 0 args .nil fun s=>sh X cf.body (bodyKs X cf.results cf.dfr) s h
 |some _=>none
def handKs (rs:List CR):K:=⟨endK rs,fun _ _ _=>none,endK rs,fun _ _ _=>none⟩
def shHand (X:Rn) (n:Nat) (cf:zm) (args:List Value) (p:Option Value) (h:H):Option Out:=match cf.prim,cf.dfr with
 |none,none=>withA n 0 args .nil fun s=>match cf.body with
  |.seq (.ops l) L b=>(zX l p s h).bind fun x=>match x.1 with
   |none=>sh X b (handKs cf.results) (zbi L x.2.1) x.2.2
   |some _=>none
  |_=>none
 |_,_=>none
def finK (l:Nat):K:=⟨fun _ h=>(h.get l).bind (zfn l none h),fun i _ h=>(h.get l).bind (zfn l (some (.exit i)) h),fun _ h=>(h.get l).bind (zfn l (some .ret) h),fun _ _ _=>none⟩
def busyK (l:Nat) (h:H) (k:H→Option Out):Option Out:=(h.get l).bind fun o=>match o with
 |.loop .ready pend sl rc=>k (h.put l (.loop .busy pend sl rc))
 |_=>none
def asK (X:Rn) (l:Nat) (b:CC):K:=⟨fun s h=>busyK l h fun h=>sh X b (finK l) s h,fun _ _ _=>none,fun _ _=>none,fun _ _ _=>none⟩
def rdA (L:List (List Bool)) (s:zl) (k:zl→Option Out):Option Out:=List.rec (motive:=fun _=>Option Out) (k s) (fun _ _ _=>rdL L s k) L
def shRound (X:Rn) (rc:RC) (l:Nat) (args:List Value) (sl:zl) (h:H):Option Out:=
 rdA rc.L sl fun s=>zh5 rc.ps args s fun s=>sh X rc.as (asK X l rc.b) s h
def iter (body:(List Value→H→Option Out)→List Value→H→Option Out) (m:Nat):List Value→H→Option Out:=Nat.rec (motive:=fun _=>List Value→H→Option Out) (fun _ _=>none) (fun _ self=>body self) m
structure ze5 (F:FuncId→Option zm) (X:Rn):Prop where
 call: ∀f args h v h',X.call f args h=some (v,h')→ ∃n,E F n (.call f args h)=some (.val v h')
 pan: ∀f args h v h',X.pan f args h=some (v,h')→ ∃n,E F n (.call f args h)=some (.pan v .nil h')
 hand: ∀f args p h h',X.hand f args p h=some h'→ ∃n v,E F n (.hand f args p h)=some (.val v h')
 loop: ∀L b k body vs h r,X.loop L b k body vs h=some r→ ∃n o,E F n (.code (.loop L b) (setL L vs) h)=some o∧apK k o=some r
section
variable {F:FuncId→Option zm} {X:Rn}
theorem ziA {r:R} {k:Value→H→Option Out} {o:Out} (h:k2 r k=some o): ∃v h',r=some (v,h')∧k v h'=some o:=by
 obtain⟨⟨v,h'⟩,h1,h2⟩:=aof h;exact⟨v,h',h1,h2⟩
theorem kc_some {r p:R} {kp k:Value→H→Option Out} {o:Out} (h:kc r p kp k=some o):(∃v h',r=some (v,h')∧k v h'=some o)∨(∃v h',p=some (v,h')∧kp v h'=some o):=by
 cases r with
 |some x=>exact .inl ⟨x.1,x.2,rfl,h⟩
 |none=>obtain⟨⟨v,h'⟩,h1,h2⟩:=aof (show p.bind (fun x=>kp x.1 x.2)=some o from h);exact .inr ⟨v,h',h1,h2⟩
theorem uc_some {vs:List Value} {k:Value→List Value→Option Out} {o:Out} (h:uc vs k=some o): ∃v r,vs=v::r∧k v r=some o:=by
 cases vs with
 |nil=>cases h
 |cons v r=>exact⟨v,r,rfl,h⟩
theorem un_some {vs:List Value} {k:Option Out} {o:Out} (h:un vs k=some o):vs=[]∧k=some o:=by
 cases vs with
 |nil=>exact⟨rfl,h⟩
 |cons v r=>cases h
theorem br_some {v:Value} {a b:Option Out} {o:Out} (h:br v a b=some o):(v=.bool true∧a=some o)∨(v=.bool false∧b=some o):=by
 unfold br at h
 split at h
 ·exact .inl ⟨rfl,h⟩
 ·exact .inr ⟨rfl,h⟩
 ·cases h
theorem ziI: ∀{L:List (List Bool)} {s:zl} {k:List Value→Option Out} {o:Out},getL L s k=some o→ ∃vs,zbt L s=setL L vs∧k vs=some o
 | [],s,k,o,h=>⟨[],rfl,h⟩
 |p::L,s,k,o,h=>by
  obtain⟨v,hv,h⟩:=aof (show(s.get p).bind (fun v=>getL L s fun vs=>k (v::vs))=some o from h)
  obtain⟨vs,h1,h2⟩:=ziI h
  exact⟨v::vs,by rw[zb9,hv];show(zbt L s).set p v=(setL L vs).set p v;rw[h1],h2⟩
theorem withL_some {L:List (List Bool)}: ∀{vs:List Value} {k:zl→Option Out} {o:Out},zhQ L vs k=some o→k (setL L vs)=some o:=by
 induction L with
 |nil=>intro vs k o h;exact(un_some h).2
 |cons p L ih=>
  intro vs k o h
  obtain⟨v,r,rfl,h⟩:=uc_some (show uc vs (fun v vs=>zhQ L vs fun s=>k (s.set p v))=some o from h)
  exact ih h
theorem rdL_some: ∀{L:List (List Bool)} {s:zl} {k:zl→Option Out} {o:Out},rdL L s k=some o→k (zbt L s)=some o
 | [],s,k,o,h=>h
 |p::L,s,k,o,h=>by
  obtain⟨v,hv,h⟩:=aof (show(s.get p).bind (fun v=>rdL L s fun s'=>k (s'.set p v))=some o from h)
  have:=rdL_some h
  rw[zb9,hv];exact this
theorem rdA_some {L:List (List Bool)} {s:zl} {k:zl→Option Out} {o:Out} (h:rdA L s k=some o):k (zbi L s)=some o:=by
 cases L with
 |nil=>exact h
 |cons p L=>exact rdL_some (show rdL (p::L) s k=some o from h)
theorem zje {ps:List (List Bool)}: ∀{vs:List Value} {s:zl} {k:zl→Option Out} {o:Out},zh5 ps vs s k=some o→ ∃s',zcm ps vs s=some s'∧k s'=some o:=by
 induction ps with
 |nil=>
  intro vs s k o h
  obtain⟨rfl,h⟩:=un_some h
  exact⟨s,rfl,h⟩
 |cons p ps ih=>
  intro vs s k o h
  obtain⟨v,r,rfl,h⟩:=uc_some (show uc vs (fun v vs=>zh5 ps vs (s.set p v) k)=some o from h)
  obtain⟨s',h1,h2⟩:=ih h
  exact⟨s',by rw[zfZ];exact h1,h2⟩
theorem zjC {n:Nat}: ∀{i:Nat} {vs:List Value} {s:zl} {k:zl→Option Out} {o:Out},withA n i vs s k=some o→vs.length=n∧k (zbW vs i s)=some o:=by
 induction n with
 |zero=>
  intro i vs s k o h
  obtain⟨rfl,h⟩:=un_some h
  exact⟨rfl,h⟩
 |succ n ih=>
  intro i vs s k o h
  obtain⟨v,r,rfl,h⟩:=uc_some (show uc vs (fun v vs=>withA n (i+1) vs (s.set (bits i) v) k)=some o from h)
  obtain⟨h1,h2⟩:=ih h
  exact⟨by simp[h1],h2⟩
theorem resK_some: ∀{rs:List CR} {s:zl} {h:H} {k:List Value→Option Out} {o:Out},resK rs s h k=some o→ ∃vs,allO (resV s h) rs=some vs∧k vs=some o
 | [],s,h,k,o,hk=>⟨[],rfl,hk⟩
 |r::rs,s,h,k,o,hk=>by
  obtain⟨v,hv,hk⟩:=aof (show(resV s h r).bind (fun v=>resK rs s h fun vs=>k (v::vs))=some o from hk)
  obtain⟨vs,h1,h2⟩:=resK_some hk
  exact⟨v::vs,by simp[allO,hv,h1],h2⟩
theorem zeS {rs:List CR} {s:zl} {h:H} {o:Out} (hk:endK rs s h=some o):zf5 rs s h=some o:=by
 obtain⟨vs,q1,q2⟩:=resK_some hk
 unfold zf5;rw[q1];exact q2
theorem zjr {n m:Nat}:n≤n+m∧m≤n+m:=⟨by omega,by omega⟩
theorem shDo_some (S:ze5 F X) {op:COp} {s:zl} {h:H} {kp k:Value→H→Option Out} {o:Out} (hv:shDo X op s h kp k=some o):
 ∃n,(∃v h',zeW (E F n) op s h=some (.val v h')∧k v h'=some o)∨(∃v s' h',zeW (E F n) op s h=some (.pan v s' h')∧kp v h'=some o):=by
 have call: ∀f l,kc (X.call f l h) (X.pan f l h) kp k=some o→ ∃n,(∃v h',(E F n (.call f l h)).bind zjk=some (.val v h')∧k v h'=some o)∨(∃v s' h',(E F n (.call f l h)).bind zjk=some (.pan v s' h')∧kp v h'=some o):=by
  intro f l hk
  rcases kc_some hk with⟨v,h',h1,h2⟩| ⟨v,h',h1,h2⟩
  ·obtain⟨n,hn⟩:=S.call _ _ _ _ _ h1
   exact⟨n,.inl ⟨v,h',by rw[hn];rfl,h2⟩⟩
  ·obtain⟨n,hn⟩:=S.pan _ _ _ _ _ h1
   exact⟨n,.inr ⟨v,.nil,h',by rw[hn];rfl,h2⟩⟩
 by_cases h1: ∃f as,op=.call f as
 ·obtain⟨f,as,rfl⟩:=h1
  obtain⟨u,hu,hv⟩:=aof hv
  obtain⟨l,hl,hv⟩:=aof hv
  obtain⟨n,hn⟩:=call _ _ hv
  refine⟨n,?_⟩
  show(∃v h',callP _ _ _ _ _=_∧_)∨(∃v s' h',callP _ _ _ _ _=_∧_)
  unfold callP
  simp only[hu,hl,Option.bind_some];exact hn
 ·by_cases h2: ∃tbl x as,op=.invoke tbl x as
  ·obtain⟨tbl,x,as,rfl⟩:=h2
   obtain⟨u,hu,hv⟩:=aof hv
   obtain⟨r,hr,hv⟩:=aof hv
   obtain⟨l,hl,hv⟩:=aof hv
   obtain⟨n,hn⟩:=call _ _ hv
   refine⟨n,?_⟩
   show(∃v h',invP _ _ _ _ _ _=_∧_)∨(∃v s' h',invP _ _ _ _ _ _=_∧_)
   unfold invP
   simp only[hu,hr,hl,Option.bind_some];exact hn
  ·by_cases h3: ∃x,op=.panic x
   ·obtain⟨x,rfl⟩:=h3
    obtain⟨u,hu,hv⟩:=aof hv
    split at hv
    ·rename_i t v
     refine⟨0,.inr ⟨_,.nil,h,?_,hv⟩⟩
     show panP _ _ _=_
     unfold panP;rw[hu];rfl
    ·cases hv
   ·have e1:shDo X op s h kp k=k2 (opV op s h) k:=by
     cases op<;>first|rfl|exact absurd ⟨_,_,rfl⟩ h1|exact absurd ⟨_,_,_,rfl⟩ h2|exact absurd ⟨_,rfl⟩ h3
    have e2: ∀ih:IH,zeW ih op s h=(opV op s h).map valO:=by
     intro ih;cases op<;>first|rfl|exact absurd ⟨_,_,rfl⟩ h1|exact absurd ⟨_,_,_,rfl⟩ h2|exact absurd ⟨_,rfl⟩ h3
    rw[e1] at hv
    obtain⟨v,h',q1,q2⟩:=ziA hv
    exact⟨0,.inl ⟨v,h',by rw[e2,q1];rfl,q2⟩⟩
theorem shStep_some (S:ze5 F X) {op:CI} {s:zl} {h:H} {kp k:Value→H→Option Out} {o:Out} (hv:shStep X op s h kp k=some o):
 ∃n,(∃v h',zc9 (E F n) op s h=some (.val v h')∧k v h'=some o)∨(∃v s' h',zc9 (E F n) op s h=some (.pan v s' h')∧kp v h'=some o):=by
 obtain⟨b,hb,hv⟩:=aof hv
 cases b with
 |true=>
  obtain⟨n,hn⟩:=shDo_some S hv
  refine⟨n,?_⟩
  unfold zc9;rw[hb];exact hn
 |false=>exact⟨0,.inl ⟨zM,h,by unfold zc9;rw[hb];rfl,hv⟩⟩
theorem zjK (S:ze5 F X) {kp:Value→zl→H→Option Out}: ∀{l:List CI} {s:zl} {h:H} {k:zl→H→Option Out} {o:Out},shOps X kp l s h k=some o→
 ∃n,(∃s' h',zbY (E F n) l s h=some (.nrm s' h')∧k s' h'=some o)∨(∃v s' h',zbY (E F n) l s h=some (.pan v s' h')∧kp v s' h'=some o)
 | [],s,h,k,o,hv=>⟨0,.inl ⟨s,h,rfl,hv⟩⟩
 |c::l,s,h,k,o,hv=>by
  obtain⟨n,hn⟩:=shStep_some S (show shStep X c s h (fun v h=>kp v s h) (fun v h=>shOps X kp l (zU c.dst v s) h k)=some o from hv)
  rcases hn with⟨v,h',h1,h2⟩| ⟨v,s',h',h1,h2⟩
  ·obtain⟨m,hm⟩:=zjK S h2
   refine⟨n+m,?_⟩
   have e: ∀x,zbY (E F m) l (zU c.dst v s) h'=some x→zbY (E F (n+m)) (c::l) s h=some x:=by
    intro x hx
    rw[zb8,zh0 (E_le zjr.1) h1]
    exact zf3 (E_le zjr.2) hx
   rcases hm with⟨s',h2',q1,q2⟩| ⟨v',s',h2',q1,q2⟩
   ·exact .inl ⟨s',h2',e _ q1,q2⟩
   ·exact .inr ⟨v',s',h2',e _ q1,q2⟩
  ·exact⟨n,.inr ⟨v,s,h',by rw[zb8,h1];rfl,h2⟩⟩
theorem shDo1_some (S:ze5 F X) {op:COp} {s:zl} {h:H} {v:Value} {h':H} (hv:shDo1 X op s h=some (v,h')): ∃n,doOp (E F n) op s h=some (v,h'):=by
 by_cases hc: ∃f as,op=.call f as
 ·obtain⟨f,as,rfl⟩:=hc
  obtain⟨u,hu,hv⟩:=aof hv
  obtain⟨l,hl,hv⟩:=aof hv
  obtain⟨n,h1⟩:=S.call _ _ _ _ _ hv
  refine⟨n,?_⟩
  show zhj _ _ _ _ _=_
  unfold zhj
  simp only[hu,hl,Option.bind_some,h1];rfl
 ·by_cases h2: ∃tbl x as,op=.invoke tbl x as
  ·obtain⟨tbl,x,as,rfl⟩:=h2
   obtain⟨u,hu,hv⟩:=aof hv
   obtain⟨r,hr,hv⟩:=aof hv
   obtain⟨l,hl,hv⟩:=aof hv
   obtain⟨n,h1⟩:=S.call _ _ _ _ _ hv
   refine⟨n,?_⟩
   show invOp _ _ _ _ _ _=_
   unfold invOp
   simp only[hu,hr,hl,Option.bind_some,h1];rfl
  ·have e1:shDo1 X op s h=opV op s h:=by cases op<;>first|rfl|exact absurd ⟨_,_,rfl⟩ hc|exact absurd ⟨_,_,_,rfl⟩ h2
   have e2: ∀ih:IH,doOp ih op s h=opV op s h:=by intro ih;cases op<;>first|rfl|exact absurd ⟨_,_,rfl⟩ hc|exact absurd ⟨_,_,_,rfl⟩ h2
   rw[e1] at hv
   exact⟨0,by rw[e2];exact hv⟩
theorem zg4 (S:ze5 F X) {o:CI} {s:zl} {h:H} {v:Value} {h':H} (hv:zh2 X o s h=some (v,h')): ∃n b,zbn o.guard s=some b∧(b=true→doOp (E F n) o.op s h=some (v,h'))∧(b=false→v=zM∧h'=h):=by
 obtain⟨b,hb,hv⟩:=aof hv
 cases b with
 |true=>
  obtain⟨n,h1⟩:=shDo1_some S hv
  exact⟨n,true,hb,fun _=>h1,fun e=>by cases e⟩
 |false=>cases hv;exact⟨0,false,hb,fun e=>(by cases e),fun _=>⟨rfl,rfl⟩⟩
theorem readsF_eq (op:COp) (s:zl) (lo:Nat) (v:Value): ∀(bs:List (Nat×H)),zjS (opV op s) lo v bs=zea op s lo v bs
 | []=>rfl
 |x::bs=>by
  unfold zjS zea
  rw[readsF_eq op s lo v bs]
  cases opV op s x.2<;>rfl
theorem zfA (S:ze5 F X): ∀{l:List CI} {bs:List (Nat×H)} {s:zl} {h:H} {k:zl→H→Option Out} {o:Out},zfY X l bs s h k=some o→ ∃n s' h',zbA (E F n) l bs s h=some (s',h')∧k s' h'=some o
 | [],bs,s,h,k,o,hv=>⟨0,s,h,rfl,hv⟩
 |c::l,bs,s,h,k,o,hv=>by
  have hv:(match isW c.op with
   |true=>k2 (zh2 X c s h) fun v h=>zfY X l ((zjm bs,h)::bs) (zU c.dst v s) h k
   |false=>match isRd c.op with
    |true=>k2 (rdStep c bs s h) fun v h=>zfY X l bs (zU c.dst v s) h k
    |false=>k2 (zh2 X c s h) fun v h=>zfY X l bs (zU c.dst v s) h k)=some o:=hv
  have main: ∃n v h1 bs1,zbb (E F n) c bs s h=some (v,h1,bs1)∧zfY X l bs1 (zU c.dst v s) h1 k=some o:=by
   cases hw:isW c.op with
   |true=>
    rw[hw] at hv
    obtain⟨v,h1,hs,hv⟩:=ziA hv
    obtain⟨n,b,hb,g1,g2⟩:=zg4 S hs
    refine⟨n,v,h1,_,?_,hv⟩
    unfold zbb
    rw[hb,Option.bind_some]
    cases b with
    |true=>simp only[zdS,hw,if_true];rw[g1 rfl];rfl
    |false=>obtain⟨rfl,rfl⟩:=g2 rfl;simp[hw]
   |false=>
    rw[hw] at hv
    cases hr:isRd c.op with
    |true=>
     rw[hr] at hv
     obtain⟨v,h1,hs,hv⟩:=ziA hv
     obtain⟨b,hb,hs⟩:=aof hs
     cases b with
     |true=>
      cases bs with
      |nil=>cases hs
      |cons x bs=>
       obtain⟨y,hy,hs⟩:=aof (show(opV c.op s x.2).bind (fun y=>if zjS (opV c.op s) c.lo y.1 bs then some (y.1,h) else none)=some (v,h1) from hs)
       split at hs
       ·rename_i hreads
        cases hs
        refine⟨0,y.1,h,x::bs,?_,hv⟩
        unfold zbb
        rw[hb,Option.bind_some]
        rw[readsF_eq] at hreads
        simp only[zdS,hw,hr,if_true,Bool.false_eq_true,if_false,drawRd,hy,Option.bind_some]
        rw[if_pos hreads]
       ·cases hs
     |false=>
      cases hs
      refine⟨0,zM,h,bs,?_,hv⟩
      unfold zbb
      rw[hb,Option.bind_some];simp[hw]
    |false=>
     rw[hr] at hv
     obtain⟨v,h1,hs,hv⟩:=ziA hv
     obtain⟨n,b,hb,g1,g2⟩:=zg4 S hs
     refine⟨n,v,h1,bs,?_,hv⟩
     unfold zbb
     rw[hb,Option.bind_some]
     cases b with
     |true=>
      have:=g1 rfl
      rw[zjl hw] at this
      simp only[zdS,hw,hr,Bool.false_eq_true,if_false,this];rfl
     |false=>obtain⟨rfl,rfl⟩:=g2 rfl;simp[hw]
  obtain⟨n,v,h1,bs1,q1,q3⟩:=main
  obtain⟨m,s',h',h2,h4⟩:=zfA S q3
  refine⟨n+m,s',h',?_,h4⟩
  rw[zcv,zfN (E_le zjr.1) q1]
  exact zdQ (E_le zjr.2) h2
theorem pendK_of {k:K} {s:zl} {h:H} {p:Option CC} {o:Out} (hv:pendK2 k s h p=some o): ∃o1,zjj s h p=some o1∧apK k o1=some o:=by
 unfold pendK2 at hv
 split at hv
 ·exact⟨.nrm s h,rfl,hv⟩
 ·exact⟨.ret s h,rfl,hv⟩
 ·exact⟨.exit _ s h,rfl,hv⟩
 ·cases hv
theorem zcN (S:ze5 F X): ∀(c:CC) {k:K} {s:zl} {h:H} {r:Out},sh X c k s h=some r→ ∃n o,E F n (.code c s h)=some o∧apK k o=some r
 |.skip,k,s,h,r,hv=>⟨1,.nrm s h,rfl,hv⟩
 |.exit i,k,s,h,r,hv=>⟨1,.exit i s h,rfl,hv⟩
 |.ret,k,s,h,r,hv=>⟨1,.ret s h,rfl,hv⟩
 |.scope _ _ _ _ _,_,_,_,_,hv=>by cases hv
 |.ops l,k,s,h,r,hv=>by
  obtain⟨n,hn⟩:=zjK S (show shOps X k.pan l s h k.nrm=some r from hv)
  rcases hn with⟨s',h',h1,h3⟩| ⟨v,s',h',h1,h3⟩
  ·exact⟨n+1,.nrm s' h',h1,h3⟩
  ·exact⟨n+1,.pan v s' h',h1,h3⟩
 |.draw l,k,s,h,r,hv=>by
  obtain⟨n,s',h',h1,h3⟩:=zfA S (show zfY X l [(0,h)] s h k.nrm=some r from hv)
  exact⟨n+1,.nrm s' h',by show(zbA (E F n) l [(0,h)] s h).map nrmOf=_;rw[h1];rfl,h3⟩
 |.draw2 l x y,k,s,h,r,hv=>by
  obtain⟨n,s',h',h1,h3⟩:=zfA S (show zfY X l [(0,h)] s h (fun s h=>st2 (zcB x.op y.op s h) fun h=>k.nrm s h)=some r from hv)
  obtain⟨g,hg,h3⟩:=aof h3
  exact⟨n+1,.nrm s' g,by show(zbA (E F n) l [(0,h)] s h).bind _=_;rw[h1,Option.bind_some];show(zcB x.op y.op s' h').map _=_;rw[hg];rfl,h3⟩
 |.seq a L b,k,s,h,r,hv=>by
  obtain⟨n,o,h1,h3⟩:=zcN S a (show sh X a ⟨fun s h=>sh X b k (zbi L s) h,k.ext,k.ret,k.pan⟩ s h=some r from hv)
  cases o with
  |nrm s' h'=>
   obtain⟨m,o',h4,h6⟩:=zcN S b (show sh X b k (zbi L s') h'=some r from h3)
   refine⟨n+m+1,o',?_,h6⟩
   show(E F (n+m) _).bind _=_
   rw[E_le zjr.1 _ _ h1]
   exact E_le zjr.2 _ _ h4
  |exit i s' h'=>exact⟨n+1,.exit i s' h',by show(E F n _).bind _=_;rw[h1];rfl,(show k.ext i s' h'=some r from h3)⟩
  |ret s' h'=>exact⟨n+1,.ret s' h',by show(E F n _).bind _=_;rw[h1];rfl,(show k.ret s' h'=some r from h3)⟩
  |val _ _=>cases h3
  |pan v s' h'=>exact⟨n+1,.pan v s' h',by show(E F n _).bind _=_;rw[h1];rfl,(show k.pan v s' h'=some r from h3)⟩
 |.cond x a b,k,s,h,r,hv=>by
  obtain⟨v,hx,hv⟩:=aof (show(x.ev s).bind (fun v=>br v (sh X a k s h) (sh X b k s h))=some r from hv)
  rcases br_some hv with⟨rfl,hv⟩| ⟨rfl,hv⟩
  ·obtain⟨n,o,h1,h3⟩:=zcN S a hv
   exact⟨n+1,o,by show(x.ev s).bind _=_;rw[hx];exact h1,h3⟩
  ·obtain⟨n,o,h1,h3⟩:=zcN S b hv
   exact⟨n+1,o,by show(x.ev s).bind _=_;rw[hx];exact h1,h3⟩
 |.block i b,k,s,h,r,hv=>by
  obtain⟨n,o,h1,h3⟩:=zcN S b (show sh X b ⟨k.nrm,blkX i k,k.ret,k.pan⟩ s h=some r from hv)
  refine⟨n+1,zft i o,by show(E F n _).map _=_;rw[h1];rfl,?_⟩
  cases o with
  |nrm s' h'=>exact h3
  |ret s' h'=>exact h3
  |val _ _=>cases h3
  |pan _ _ _=>exact h3
  |exit j s' h'=>
   have h3:blkX i k j s' h'=some r:=h3
   unfold blkX at h3
   cases hb:Nat.beq j i with
   |true=>rw[hb] at h3;simp only[zft,hb];exact h3
   |false=>rw[hb] at h3;simp only[zft,hb];exact h3
 |.loop [] b,k,s,h,r,hv=>by cases hv
 |.loop (p::L) b,k,s,h,r,hv=>by
  obtain⟨vs,hk,hv⟩:=ziI (show getL (p::L) s (fun vs=>X.loop (p::L) b k (fun self vs h=>zhQ (p::L) vs fun s=>sh X b ⟨fun s h=>getL (p::L) s fun vs=>self vs h,k.ext,k.ret,k.pan⟩ s h) vs h)=some r from hv)
  obtain⟨n,o,h1,h3⟩:=S.loop _ _ _ _ _ _ _ hv
  rw[←hk] at h1
  refine⟨n,o,?_,h3⟩
  cases n with
  |zero=>cases h1
  |succ n=>
   have h1:(E F n (.code b (zbt (p::L) (zbt (p::L) s)) h)).bind (loopK (E F n) (p::L) b)=some o:=h1
   show(E F n (.code b (zbt (p::L) s) h)).bind (loopK (E F n) (p::L) b)=some o
   have gen: ∀(L0 L':List (List Bool)),(∀p∈L',p∈L0)→zbt L' (zbt L0 s)=zbt L' s:=by
    intro L0 L'
    induction L' with
    |nil=>intro _;rfl
    |cons p L' ihL=>
     intro hp
     rw[zb9,zb9,zcq,if_pos (hp p (by simp)),ihL (fun q hq=>hp q (by simp[hq]))]
   rw[gen (p::L) (p::L) (fun _ h=>h)] at h1;exact h1
 |.rangeFunc rid L f ps as b,k,s,h,r,hv=>by
  obtain⟨u,hu,hv⟩:=aof (show(f.ev s).bind (fun f=>(isFn f).bind fun f=>k2 (X.call f [.func (.yield h.next) #[] #[]] (h.new (.loop .ready none (zbi L s) ⟨rid,L,ps,as,b⟩))) fun _ h'=>rgEnd k s h.next h')=some r from hv)
  obtain⟨g,hg,hv⟩:=aof hv
  obtain⟨v1,h1,hcall,hv⟩:=ziA hv
  obtain⟨n,hn⟩:=S.call _ _ _ _ _ hcall
  obtain⟨o,ho,hv⟩:=aof hv
  have fin: ∀{st:LoopState} {pend:Option CC} {sl:zl} {rc:RC},h1.get h.next=some (.loop st pend sl rc)→zeb h.next s h1 (.loop st pend sl rc)=zjj s (h1.put h.next (.loop .exhausted pend sl rc)) pend→
   pendK2 k s (h1.put h.next (.loop .exhausted pend sl rc)) pend=some r→ ∃n o,E F n (.code (.rangeFunc rid L f ps as b) s h)=some o∧apK k o=some r:=by
   intro st pend sl rc hget hre hp
   obtain⟨o1,p1,p2⟩:=pendK_of hp
   refine⟨n+1,o1,?_,p2⟩
   rw[E_code]
   show sRange rid L f ps as b (E F n) s h=_
   unfold sRange
   rw[hu,Option.bind_some,hg,Option.bind_some,hn,Option.bind_some]
   show(h1.get h.next).bind _=_
   rw[hget,Option.bind_some]
   show zeb h.next s h1 _=_
   rw[hre,p1]
  cases o with
  |loop st pend sl rc=>
   cases st with
   |ready=>exact fin ho rfl hv
   |done=>exact fin ho rfl hv
   |busy=>cases hv
   |exhausted=>cases hv
  |cells _ _=>cases hv
  |map _ _=>cases hv
  |dead=>cases hv
  |glob _ _=>cases hv
theorem E_hand (F:FuncId→Option zm) (n:Nat) (f:Value) (a:List Value) (p:Option Value) (h:H):E F (n+1) (.hand f a p h)=zbU F (E F n) a p h f:=rfl
theorem zh3 (S:ze5 F X) {g:FuncId} {cf:zm} (hF:F g=some cf) {n:Nat} (hn:n≤cf.ntmps) {first captured:Array Value} {args:List Value} {h:H} {r:Out}
 (hv:shFunc X n cf (first.toList++args++captured.toList) h=some r): ∃m,E F m (.call (.func (.func g) first captured) args h)=some r:=by
 have hprim:cf.prim=none:=by
  cases hp:cf.prim with
  |none=>rfl
  |some p=>unfold shFunc at hv;rw[hp] at hv;cases hv
 unfold shFunc at hv
 rw[hprim] at hv
 obtain⟨hlen,hv⟩:=zjC hv
 obtain⟨m,o,h1,h3⟩:=zcN S _ hv
 have key: ∀{M:Nat},m≤M→bodyK (E F M) cf.results cf.dfr o=some r→E F (M+1) (.call (.func (.func g) first captured) args h)=some r:=by
  intro M hM q2
  rw[E_call]
  unfold zbM
  simp only[hF,Option.bind_some]
  unfold zcQ
  rw[hprim]
  show zbk _ _ _ _=_
  unfold zbk
  rw[if_pos (by rw[Nat.ble_eq];omega),E_le hM _ _ h1];exact q2
 cases hd:cf.dfr with
 |none=>
  rw[hd] at h3 key
  refine⟨m+1,key (Nat.le_refl _) ?_⟩
  cases o with
  |nrm s g1=>exact zeS h3
  |ret s g1=>exact zeS h3
  |exit _ _ _=>cases h3
  |val _ _=>cases h3
  |pan v s g1=>exact h3
 |some d=>
  rw[hd] at h3 key
  cases o with
  |exit _ _ _=>cases h3
  |val _ _=>cases h3
  |ret _ _=>cases h3
  |pan v s g1=>exact⟨m+1,key (Nat.le_refl _) h3⟩
  |nrm s g1=>
   obtain⟨f,hf,h3⟩:=aof (show(d.f.ev s).bind (fun f=>(isFn f).bind fun f=>(evL s d.args).bind fun l=>sh X d.rest (doneKs X f l cf.results) (zbi d.L s) g1)=some r from h3)
   obtain⟨f1,hf1,h3⟩:=aof h3
   obtain⟨l,hl,h3⟩:=aof h3
   obtain⟨m2,o2,q1,q2⟩:=zcN S _ h3
   have fin2: ∀{s2:zl} {g2:H} {p:Option Value},(∀ih,zjt ih f1 l cf.results o2=(ih (.hand f1 l p g2)).bind (resK1 cf.results s2))→(X.hand f1 l p g2).bind (endK cf.results s2)=some r→ ∃m,E F m (.call (.func (.func g) first captured) args h)=some r:=by
    intro s2 g2 p hdn hx
    obtain⟨g3,hg3,hend⟩:=aof hx
    obtain⟨m3,v3,hm3⟩:=S.hand _ _ _ _ _ hg3
    refine⟨m+m2+m3+1,key (M:=m+m2+m3) (by omega) ?_⟩
    show dfrK _ d cf.results (.nrm s g1)=_
    show(d.f.ev s).bind (fun f=>(isFn f).bind fun f=>(evL s d.args).bind fun l=>(E F (m+m2+m3) (.code d.rest (zbi d.L s) g1)).bind (zjt (E F (m+m2+m3)) f l cf.results))=_
    rw[hf,Option.bind_some,hf1,Option.bind_some,hl,Option.bind_some,E_le (show m2≤m+m2+m3 by omega) _ _ q1,Option.bind_some,hdn,E_le (show m3≤m+m2+m3 by omega) _ _ hm3]
    exact zeS hend
   cases o2 with
   |nrm s2 g2=>exact fin2 (p:=none) (fun _=>rfl) q2
   |ret s2 g2=>exact fin2 (p:=none) (fun _=>rfl) q2
   |pan v s2 g2=>exact fin2 (p:=some v) (fun _=>rfl) q2
   |exit _ _ _=>cases q2
   |val _ _=>cases q2
theorem shHand_some (S:ze5 F X) {g:FuncId} {cf:zm} (hF:F g=some cf) {n:Nat} (hn:n≤cf.ntmps) {first captured:Array Value} {args:List Value} {p:Option Value} {h:H} {r:Out}
 (hv:shHand X n cf (first.toList++args++captured.toList) p h=some r): ∃m,E F m (.hand (.func (.func g) first captured) args p h)=some r:=by
 unfold shHand at hv
 split at hv
 ·rename_i hp hd
  obtain⟨hlen,hv⟩:=zjC hv
  split at hv
  ·rename_i l L b hb
   obtain⟨x,hx,hv⟩:=aof hv
   split at hv
   ·rename_i hx1
    obtain⟨m,o,h1,h3⟩:=zcN S _ hv
    refine⟨m+1,?_⟩
    rw[E_hand]
    unfold zbU
    simp only[hF,Option.bind_some]
    unfold zd7
    rw[hp,hd]
    dsimp only
    rw[if_pos (by rw[Nat.ble_eq];omega),hb]
    show(zX l p _ h).bind (ziG (E F m) cf.results L b)=some r
    rw[hx,Option.bind_some]
    unfold ziG
    rw[hx1]
    dsimp only
    rw[h1]
    cases o with
    |nrm s g1=>exact zeS h3
    |ret s g1=>exact zeS h3
    |exit _ _ _=>cases h3
    |val _ _=>cases h3
    |pan v s g1=>cases h3
   ·cases hv
  ·cases hv
 ·cases hv
theorem shRound_some (S:ze5 F X) {l:Nat} {st:LoopState} {pend:Option CC} {sl:zl} {rc:RC} {h:H} (hg:h.get l=some (.loop st pend sl rc)) {args:List Value} {r:Out}
 (hv:shRound X rc l args sl h=some r): ∃m,E F m (.call (.func (.yield l) #[] #[]) args h)=some r:=by
 obtain⟨s',hs',hv⟩:=zje (rdA_some hv)
 obtain⟨m,o,h1,h3⟩:=zcN S rc.as hv
 cases o with
 |nrm s g1=>
  obtain⟨o1,ho1,h4⟩:=aof (show(g1.get l).bind _=some r from h3)
  cases o1 with
  |loop st1 pend1 sl1 rc1=>
   cases st1 with
   |ready=>
    obtain⟨m',o2,h5,h7⟩:=zcN S rc.b (show sh X rc.b (finK l) s (g1.put l (.loop .busy pend1 sl1 rc1))=some r from h4)
    have hfin:zgi l o2=some r:=by
     cases o2 with
     |nrm _ _=>exact h7
     |exit _ _ _=>exact h7
     |ret _ _=>exact h7
     |val _ _=>cases h7
     |pan _ _ _=>cases h7
    refine⟨m+m'+1,?_⟩
    rw[E_call]
    show(h.get l).bind (zhz (E F (m+m')) l args h)=_
    rw[hg,Option.bind_some]
    show(zcm rc.ps args (zbi rc.L sl)).bind (fun s=>(E F (m+m') (.code rc.as s h)).bind (zd8 (E F (m+m')) l rc.b))=_
    rw[hs',Option.bind_some,E_le zjr.1 _ _ h1,Option.bind_some]
    show(g1.get l).bind (zez (E F (m+m')) l rc.b s g1)=_
    rw[ho1,Option.bind_some]
    show(E F (m+m') (.code rc.b s (g1.put l (.loop .busy pend1 sl1 rc1)))).bind (zgi l)=_
    rw[E_le zjr.2 _ _ h5];exact hfin
   |busy=>cases h4
   |done=>cases h4
   |exhausted=>cases h4
  |cells _ _=>cases h4
  |map _ _=>cases h4
  |dead=>cases h4
  |glob _ _=>cases h4
 |exit _ _ _=>cases h3
 |ret _ _=>cases h3
 |val _ _=>cases h3
 |pan _ _ _=>cases h3
open Classical in
def callI (F:FuncId→Option zm) (f:Value) (args:List Value) (h:H):R:=
 if hx: ∃(x:Value×H) (n:Nat),E F n (.call f args h)=some (.val x.1 x.2) then some (Classical.choose hx) else none
open Classical in
def panI (F:FuncId→Option zm) (f:Value) (args:List Value) (h:H):R:=
 if hx: ∃(x:Value×H) (n:Nat),E F n (.call f args h)=some (.pan x.1 .nil x.2) then some (Classical.choose hx) else none
open Classical in
def handI (F:FuncId→Option zm) (f:Value) (args:List Value) (p:Option Value) (h:H):Option H:=
 if hx: ∃(h':H) (n:Nat) (v:Value),E F n (.hand f args p h)=some (.val v h') then some (Classical.choose hx) else none
open Classical in
def loopI (F:FuncId→Option zm) (L:List (List Bool)) (b:CC) (k:K) (_:(List Value→H→Option Out)→List Value→H→Option Out) (vs:List Value) (h:H):Option Out:=
 if hx: ∃(r:Out) (n:Nat) (o:Out),E F n (.code (.loop L b) (setL L vs) h)=some o∧apK k o=some r then some (Classical.choose hx) else none
def rI (F:FuncId→Option zm):Rn:=⟨callI F,panI F,handI F,loopI F⟩
theorem zeY {f:Value} {args:List Value} {h:H} {v:Value} {h':H}:callI F f args h=some (v,h')↔ ∃n,E F n (.call f args h)=some (.val v h'):=by
 unfold callI
 constructor
 ·intro hv
  split at hv
  ·rename_i hx
   obtain⟨n,hn⟩:=Classical.choose_spec hx
   rw[Option.some.inj hv] at hn
   exact⟨n,hn⟩
  ·cases hv
 ·rintro⟨n,hn⟩
  have hx: ∃(x:Value×H) (n:Nat),E F n (.call f args h)=some (.val x.1 x.2):=⟨(v,h'),n,hn⟩
  rw[dif_pos hx]
  obtain⟨m,hm⟩:=Classical.choose_spec hx
  have:=E_det hm hn
  simp only[Out.val.injEq] at this
  exact congrArg some (Prod.ext this.1 this.2)
theorem panI_iff {f:Value} {args:List Value} {h:H} {v:Value} {h':H}:panI F f args h=some (v,h')↔ ∃n,E F n (.call f args h)=some (.pan v .nil h'):=by
 unfold panI
 constructor
 ·intro hv
  split at hv
  ·rename_i hx
   obtain⟨n,hn⟩:=Classical.choose_spec hx
   rw[Option.some.inj hv] at hn
   exact⟨n,hn⟩
  ·cases hv
 ·rintro⟨n,hn⟩
  have hx: ∃(x:Value×H) (n:Nat),E F n (.call f args h)=some (.pan x.1 .nil x.2):=⟨(v,h'),n,hn⟩
  rw[dif_pos hx]
  obtain⟨m,hm⟩:=Classical.choose_spec hx
  have:=E_det hm hn
  simp only[Out.pan.injEq] at this
  exact congrArg some (Prod.ext this.1 this.2.2)
theorem callI_none {f:Value} {args:List Value} {h:H} {x:Value×H} (hp:panI F f args h=some x):callI F f args h=none:=by
 obtain⟨n,hn⟩:=panI_iff.1 (show panI F f args h=some (x.1,x.2) from hp)
 cases hc:callI F f args h with
 |none=>rfl
 |some y=>
  obtain⟨m,hm⟩:=zeY.1 (show callI F f args h=some (y.1,y.2) from hc)
  have:=E_det hm hn;cases this
theorem handI_iff {f:Value} {args:List Value} {p:Option Value} {h h':H}:handI F f args p h=some h'↔ ∃n v,E F n (.hand f args p h)=some (.val v h'):=by
 unfold handI
 constructor
 ·intro hv
  split at hv
  ·rename_i hx
   have:=Classical.choose_spec hx
   rw[Option.some.inj hv] at this
   exact this
  ·cases hv
 ·rintro⟨n,v,hn⟩
  have hx: ∃(h':H) (n:Nat) (v:Value),E F n (.hand f args p h)=some (.val v h'):=⟨h',n,v,hn⟩
  rw[dif_pos hx]
  obtain⟨m,u,hm⟩:=Classical.choose_spec hx
  have:=E_det hm hn
  simp only[Out.val.injEq] at this
  exact congrArg some this.2
theorem ziw {L:List (List Bool)} {b:CC} {k:K} {body:(List Value→H→Option Out)→List Value→H→Option Out} {vs:List Value} {h:H} {r:Out}:loopI F L b k body vs h=some r↔ ∃n o,E F n (.code (.loop L b) (setL L vs) h)=some o∧apK k o=some r:=by
 unfold loopI
 constructor
 ·intro hv
  split at hv
  ·rename_i hx
   obtain⟨n,o,h1,h2⟩:=Classical.choose_spec hx
   rw[Option.some.inj hv] at h2
   exact⟨n,o,h1,h2⟩
  ·cases hv
 ·rintro⟨n,o,h1,h2⟩
  have hx: ∃(r:Out) (n:Nat) (o:Out),E F n (.code (.loop L b) (setL L vs) h)=some o∧apK k o=some r:=⟨r,n,o,h1,h2⟩
  rw[dif_pos hx]
  obtain⟨m,o',h3,h4⟩:=Classical.choose_spec hx
  rw[E_det h3 h1,h2] at h4
  exact h4.symm
theorem soundI:ze5 F (rI F) where
 call:=fun f args h v h' hv=>zeY.1 hv
 pan:=fun f args h v h' hv=>panI_iff.1 hv
 hand:=fun f args p h h' hv=>handI_iff.1 hv
 loop:=fun L b k body vs h r hv=>(ziw (body:=body)).1 hv
theorem callI_func {g:FuncId} {cf:zm} (hF:F g=some cf) {n:Nat} (hn:n≤cf.ntmps) {first captured:Array Value} {args:List Value} {h:H} {v:Value} {h':H}
 (hv:shFunc (rI F) n cf (first.toList++args++captured.toList) h=some (.val v h')):callI F (.func (.func g) first captured) args h=some (v,h'):=
 zeY.2 (zh3 soundI hF hn hv)
theorem panI_func {g:FuncId} {cf:zm} (hF:F g=some cf) {n:Nat} (hn:n≤cf.ntmps) {first captured:Array Value} {args:List Value} {h:H} {v:Value} {h':H}
 (hv:shFunc (rI F) n cf (first.toList++args++captured.toList) h=some (.pan v .nil h')):panI F (.func (.func g) first captured) args h=some (v,h'):=
 panI_iff.2 (zh3 soundI hF hn hv)
theorem handI_func {g:FuncId} {cf:zm} (hF:F g=some cf) {n:Nat} (hn:n≤cf.ntmps) {first captured:Array Value} {args:List Value} {p:Option Value} {h:H} {v:Value} {h':H}
 (hv:shHand (rI F) n cf (first.toList++args++captured.toList) p h=some (.val v h')):handI F (.func (.func g) first captured) args p h=some h':=by
 obtain⟨m,hm⟩:=shHand_some soundI hF hn hv
 exact handI_iff.2 ⟨m,v,hm⟩
theorem callI_prim {g:FuncId} {cf:zm} (hF:F g=some cf) {p:List Value→H→Option (Value×H)} (hp:cf.prim=some p) {args:List Value} {h:H} {v:Value} {h':H}
 (hv:p args h=some (v,h')) (hn:h.next≤h'.next):callI F (.func (.func g) #[] #[]) args h=some (v,h'):=by
 refine zeY.2 ⟨1,?_⟩
 rw[E_call]
 unfold zbM
 simp only[hF,Option.bind_some]
 unfold zcQ
 rw[hp]
 dsimp only
 simp only[List.nil_append,List.append_nil,hv]
 unfold zfE
 rw[if_pos (Nat.ble_eq_true_of_le hn)]
theorem callI_yield {l:Nat} {st:LoopState} {pend:Option CC} {sl:zl} {rc:RC} {h:H} (hg:h.get l=some (.loop st pend sl rc)) {args:List Value} {v:Value} {h':H}
 (hv:shRound (rI F) rc l args sl h=some (.val v h')):callI F (.func (.yield l) #[] #[]) args h=some (v,h'):=
 zeY.2 (shRound_some soundI hg hv)
theorem setL_cons (p:List Bool) (L:List (List Bool)) (v:Value) (vs:List Value):setL (p::L) (v::vs)=(setL L vs).set p v:=rfl
theorem keepS_of {L:List (List Bool)}: ∀{vs:List Value} {s:zl},vs.length=L.length→(∀(i:Nat) p v,L[i]? =some p→vs[i]? =some v→s.get p=some v)→zbt L s=setL L vs:=by
 induction L with
 |nil=>intro vs s _ _;rfl
 |cons p L ih=>
  intro vs s hl hs
  cases vs with
  |nil=>cases hl
  |cons v vs=>
   rw[zb9,hs 0 p v rfl rfl,setL_cons]
   dsimp only
   rw[ih (by simpa using hl) (fun i q u h1 h2=>hs (i+1) q u (by simpa using h1) (by simpa using h2))]
theorem setL_get {L:List (List Bool)}: ∀{vs:List Value},L.Nodup→vs.length=L.length→ ∀(i:Nat) p v,L[i]? =some p→vs[i]? =some v→(setL L vs).get p=some v:=by
 induction L with
 |nil=>intro vs _ _ i p v h;simp at h
 |cons q L ih=>
  intro vs hn hl i p v h1 h2
  obtain⟨hq,hn⟩:=List.nodup_cons.1 hn
  cases vs with
  |nil=>cases hl
  |cons u vs=>
   rw[setL_cons]
   cases i with
   |zero=>simp at h1 h2;subst h1;subst h2;exact PT.get_set_same _ _ _
   |succ i=>
    simp at h1 h2
    have:q≠p:=fun e=>hq (e▸List.mem_of_getElem? h1)
    rw[PT.get_set_ne _ _ _ _ this]
    exact ih hn (by simpa using hl) i p v h1 h2
theorem withL_length {L:List (List Bool)}: ∀{vs:List Value} {k:zl→Option Out} {o:Out},zhQ L vs k=some o→vs.length=L.length:=by
 induction L with
 |nil=>intro vs k o h;rw[(un_some (show un vs (k .nil)=some o from h)).1];rfl
 |cons p L ih=>
  intro vs k o h
  obtain⟨v,r,rfl,h⟩:=uc_some (show uc vs (fun v vs=>zhQ L vs fun s=>k (s.set p v))=some o from h)
  simp[ih h]
theorem loopI_step {q:List Bool} {L0:List (List Bool)} (hn:(q::L0).Nodup) {b:CC} {k:K} {body body':(List Value→H→Option Out)→List Value→H→Option Out} {vs:List Value} {h:H} {r:Out}
 (hv:zhQ (q::L0) vs (fun s=>sh (rI F) b ⟨fun s h=>getL (q::L0) s fun vs=>loopI F (q::L0) b k body vs h,k.ext,k.ret,k.pan⟩ s h)=some r):loopI F (q::L0) b k body' vs h=some r:=by
 have hl:=withL_length hv
 obtain⟨n,o,h1,h3⟩:=zcN soundI b (withL_some hv)
 have hk:zbt (q::L0) (setL (q::L0) vs)=setL (q::L0) vs:=keepS_of hl (setL_get hn hl)
 have stp: ∀N,E F (N+1) (.code (.loop (q::L0) b) (setL (q::L0) vs) h)=(E F N (.code b (setL (q::L0) vs) h)).bind (loopK (E F N) (q::L0) b):=by
  intro N
  rw[E_code]
  show(E F N (.code b (zbt (q::L0) (setL (q::L0) vs)) h)).bind (loopK (E F N) (q::L0) b)=_
  rw[hk]
 refine ziw.2 ?_
 cases o with
 |nrm s' h'=>
  obtain⟨vs',hk',hv'⟩:=ziI (show getL (q::L0) s' (fun vs=>loopI F (q::L0) b k body vs h')=some r from h3)
  obtain⟨m,o',h4,h5⟩:=ziw.1 hv'
  refine⟨n+m+1,o',?_,h5⟩
  have e: ∀{m:Nat} {o:Out},E F m (.code (.loop (q::L0) b) (setL (q::L0) vs') h')=some o→E F m (.code (.loop (q::L0) b) s' h')=some o:=by
   intro m o ho
   cases m with
   |zero=>cases ho
   |succ m=>
    rw[E_code] at ho⊢
    have ho:(E F m (.code b (zbt (q::L0) (setL (q::L0) vs')) h')).bind (loopK (E F m) (q::L0) b)=some o:=ho
    have gen: ∀(M L':List (List Bool)),(∀p∈L',p∈M)→zbt L' (zbt M s')=zbt L' s':=by
     intro M L'
     induction L' with
     |nil=>intro _;rfl
     |cons p L' ihL=>
      intro hp
      rw[zb9,zb9,zcq,if_pos (hp p (by simp)),ihL (fun q hq=>hp q (by simp[hq]))]
    have:zbt (q::L0) (setL (q::L0) vs')=zbt (q::L0) s':=by
     rw[←hk']
     exact gen (q::L0) (q::L0) (fun _ h=>h)
    rw[this] at ho;exact ho
  rw[stp,E_le zjr.1 _ _ h1]
  exact E_le zjr.2 _ _ (e h4)
 |exit i s' h'=>exact⟨n+1,.exit i s' h',by rw[stp,h1];rfl,(show k.ext i s' h'=some r from h3)⟩
 |ret s' h'=>exact⟨n+1,.ret s' h',by rw[stp,h1];rfl,(show k.ret s' h'=some r from h3)⟩
 |pan v s' h'=>exact⟨n+1,.pan v s' h',by rw[stp,h1];rfl,(show k.pan v s' h'=some r from h3)⟩
 |val _ _=>cases h3
def cl (X:Rn) (f:Value) (l:List Value) (h:H) (kp k:Value→H→Option Out):Option Out:=kc (X.call f l h) (X.pan f l h) kp k
def iv (X:Rn) (tbl:List (Nat×Nat)) (x:Value) (l:List Value) (h:H) (kp k:Value→H→Option Out):Option Out:=(zeH tbl x).bind fun r=>cl X (.func (.func r.1) #[] #[]) (r.2::l) h kp k
def pn (x:Value) (h:H) (kp:Value→H→Option Out):Option Out:=match x with
 |.iface t u=>kp (.iface t u) h
 |_=>none
def gk (v:Value) (w:Bool) (h:H) (k:Value→H→Option Out) (a:Option Out):Option Out:=(zhR w v).bind fun b=>match b with
 |true=>a
 |false=>k zM h
def vPick (c a b:Value) (h:H):R:=match c with
 |.bool true=>some (a,h)
 |.bool false=>some (b,h)
 |_=>none
def vSlice (n:Nat) (c:Option (List Value)) (h:H):R:=c.map fun c=>(.slice (some ⟨h.next,0,none⟩) n n,h.new (.cells c 0))
def vLoad1 (a:Value) (h:H):R:=(zdB a).bind fun a=>(h.readN a.block a.off 1).bind fun l=>(oneOf l).map (·,h)
def vLoadN (n:Nat) (a:Value) (h:H):R:=(zdB a).bind fun a=>(h.readN a.block a.off n).map fun l=>(.agg ⟨l⟩,h)
def vStore (n:Nat) (a x:Value) (h:H):R:=(zdB a).bind fun a=>if Nat.beq (zP x).length n then(h.write a.block a.off (zP x)).map fun h=>(zM,h) else none
def vNil (x:Value) (h:H):R:=(nilV x).map (·,h)
def vBin (op:BinOp) (ek:EK) (a b:Value) (h:H):R:=(binV op ek a b).map (·,h)
def vUn (op:UnOp) (a:Value) (h:H):R:=(unV op a).map (·,h)
def vConv (k:IntKind) (a:Value) (h:H):R:=(convV k a).map (·,h)
def vField (off:Nat) (x:Value) (h:H):R:=(zdB x).map fun a=>(.pointer (some ⟨a.block,a.off+off,none⟩),h)
def vIndex (size:Nat) (x i:Value) (h:H):R:=(zhb size x i).map (·,h)
def vIndexA (n size:Nat) (x i:Value) (h:H):R:=(zcU n size x i).map (·,h)
def vLookup (kk:KK) (z:Value) (ok:Bool) (m k:Value) (h:H):R:=(zbX kk k k).bind fun _=>(zcu h m).bind fun es=>(zjs kk k es).map fun r=>(zdE z ok r,h)
def vExtract (i:Nat) (x:Value) (h:H):R:=(zhH i x).map (·,h)
def vStrIdx (x i:Value) (h:H):R:=(zhY x i).map (·,h)
def vStrSlice (lo hi:Option Value) (x:Value) (h:H):R:=(zex lo hi x).map (·,h)
def vAssert (t:TypeId) (z:Value) (ok:Bool) (x:Value) (h:H):R:=(zgX t z ok x).map (·,h)
def vB2s (x:Value) (h:H):R:=(b2sV h x).map (·,h)
def vRes (n:Option Nat) (v:Value) (h:H):Option Value:=(zdB v).bind fun a=>match n with
 |some n=>(h.readN a.block a.off n).map fun l=>.agg ⟨l⟩
 |none=>(h.readN a.block a.off 1).bind oneOf
def gd (v:Value) (w:Bool) (h:H) (r:R):R:=(zhR w v).bind fun b=>match b with
 |true=>r
 |false=>some (zM,h)
def kBlk (i:Nat) (k:K):K:=⟨k.nrm,blkX i k,k.ret,k.pan⟩
def kSeq (X:Rn) (c:CC) (L:List (List Bool)) (k:K):K:=⟨fun s h=>sh X c k (zbi L s) h,k.ext,k.ret,k.pan⟩
def lp (X:Rn) (L:List (List Bool)) (b:CC) (k:K) (vs:List Value) (h:H):Option Out:=
 X.loop L b k (fun self vs h=>zhQ L vs fun s=>sh X b ⟨fun s h=>getL L s fun vs=>self vs h,k.ext,k.ret,k.pan⟩ s h) vs h
def kLoop (X:Rn) (L:List (List Bool)) (b:CC) (k:K):K:=⟨fun s h=>getL L s fun vs=>lp X L b k vs h,k.ext,k.ret,k.pan⟩
def fin (l:Nat) (p:Option CC) (h:H):Option Out:=(h.get l).bind (zfn l p h)
def bx (i j:Nat) (a b:Option Out):Option Out:=match Nat.beq i j with
 |true=>a
 |false=>b
def rgP (l:Nat) (h:H) (kn:H→Option Out) (ke:Nat→H→Option Out) (kr:H→Option Out):Option Out:=(h.get l).bind fun o=>
 let f:=fun(pend:Option CC) (h:H)=>match pend with
  |none=>kn h
  |some .ret=>kr h
  |some (.exit i)=>ke i h
  |_=>none
 match o with
 |.loop .ready pend sl rc=>f pend (h.put l (.loop .exhausted pend sl rc))
 |.loop .done pend sl rc=>f pend (h.put l (.loop .exhausted pend sl rc))
 |_=>none
def lookF (l:List (Nat×zm)) (g:Nat):Option zm:=List.rec (motive:=fun _=>Option zm) none (fun p _ ih=>match Nat.beq p.1 g with|true=>some p.2|false=>ih) l
theorem lp_step {F:FuncId→Option zm} {q:List Bool} {L:List (List Bool)} (hn:(q::L).Nodup) {b:CC} {k:K} {vs:List Value} {h:H} {r:Out} (hv:zhQ (q::L) vs (fun s=>sh (rI F) b (kLoop (rI F) (q::L) b k) s h)=some r):lp (rI F) (q::L) b k vs h=some r:=
 loopI_step (body:=fun self vs h=>zhQ (q::L) vs fun s=>sh (rI F) b ⟨fun s h=>getL (q::L) s fun vs=>self vs h,k.ext,k.ret,k.pan⟩ s h) (body':=fun self vs h=>zhQ (q::L) vs fun s=>sh (rI F) b ⟨fun s h=>getL (q::L) s fun vs=>self vs h,k.ext,k.ret,k.pan⟩ s h) hn hv
end
end
end Go.Ideal
namespace Go.Ideal
noncomputable section
inductive DV where
 |int (k:IntKind) (n:Int)
 |bool (b:Bool)
 |str (s:ByteArray)
 |agg (l:List DV)
 |tup (l:List DV)
 |nilS
 |lst (s:Nat) (rows:List (List DV))
 |pl (s:Nat) (rows:List (List DV)) (i off:Nat)
 |ms (j lo len cap:Nat)
 |nilP
 |ptr (j i off:Nat)
 |nilM
 |map (j:Nat)
 |nilF
 |fn (g:Nat) (a c:List DV)
 |yld (l:Nat)
 |nilI
 |ifc (t:Nat) (v:DV)
 deriving Inhabited
abbrev DS:=List (List Bool×DV)
def getS:DS→List Bool→Option DV
 | [],_=>none
 | (q,d)::s,p=>match beqP q p with|true=>some d|false=>getS s p
def zjn (s:DS):List (List Bool)→DS
 | []=>[]
 |p::L=>match getS s p with|some d=>(p,d)::zjn s L|none=>zjn s L
def zbu:List (List Bool)→DS→DS
 | [],s=>s
 |p::L,s=>zjn s (p::L)
def zY (d:Option (List Bool)) (v:DV) (s:DS):DS:=match d with
 |none=>s
 |some p=>(p,v)::s
inductive MO where
 |rows (op:Bool) (sz:Nat) (rs:List (List DV))
 |map (es:List (DV×DV))
 |loop (st:LoopState) (pend:Option CC) (sl:DS) (rc:RC)
structure VM where
 next:Nat
 get:Nat→Option (MO×Nat)
def VM.obj (M:VM) (j:Nat):Option MO:=(M.get j).map Prod.fst
def VM.new (M:VM) (o:MO):VM:=⟨M.next+1,fun i=>if i=M.next then some (o,M.next) else M.get i⟩
def VM.put (M:VM) (j:Nat) (o:MO):VM:=⟨M.next+1,fun i=>if i=j then some (o,M.next) else M.get i⟩
def VM.del (M:VM) (j:Nat):VM:=⟨M.next,fun i=>if i=j then none else M.get i⟩
abbrev RD:=Option (DV×VM)
def dOf1:Value→Option DV
 |.bool b=>some (.bool b)
 |.int k n=>some (.int k n)
 |.string s=>some (.str s)
 |.pointer none=>some .nilP
 |.slice none 0 0=>some .nilS
 |.map none=>some .nilM
 |.nilFunc=>some .nilF
 |.nilIface=>some .nilI
 |_=>none
def dOfL:List Value→Option (List DV)
 | []=>some []
 |v::r=>(dOf1 v).bind fun d=>(dOfL r).map (d:: ·)
def dOf:Value→Option DV
 |.func (.func f) ⟨[]⟩ ⟨[]⟩=>some (.fn f [] [])
 |.agg ⟨cs⟩=>(dOfL cs).map .agg
 |v=>dOf1 v
def evD (s:DS):CO→Option DV
 |.t p=>getS s p
 |.c v=>dOf v
def evDL (s:DS):List CO→Option (List DV)
 | []=>some []
 |x::r=>(evD s x).bind fun v=>(evDL s r).map (v:: ·)
def evDO (s:DS):Option CO→Option (Option DV)
 |none=>some none
 |some x=>(evD s x).map some
def zA:DV→List DV
 |.agg l=>l
 |v=>[v]
def zF:DV→Bool
 |.agg _=>false
 |.tup _=>false
 |_=>true
def zR:List DV→Nat→List DV→Option (List DV)
 |cs,_,[]=>some cs
 |_::cs,0,v::vs=>(zR cs 0 vs).map (v:: ·)
 |c::cs,n+1,v::vs=>(zR cs n (v::vs)).map (c:: ·)
 | [],_,_::_=>none
def zdZ:Nat→List DV→Option (List DV)
 |0,_=>some []
 |n+1,a::l=>(zdZ n l).map (a:: ·)
 |_+1,[]=>none
def zgV (cells:List DV):List (Nat×Nat×DV)→Option (List DV)
 | []=>some cells
 | (off,size,v)::r=>if(zA v).length=size∧0<size∧(zA v).all zF=true then(zR cells off (zA v)).bind fun c=>zgV c r else none
def zch (size:Nat) (rows:List (List DV)):List (Nat×DV)→Option (List (List DV))
 | []=>some rows
 | (i,v)::r=>if(zA v).length=size∧0<size∧(zA v).all zF=true∧i<rows.length then zch size (rows.set i (zA v)) r else none
def zcC (M:VM):DV→Option (List DV)
 |.pl _ rows i off=>(rows[i]?).map fun r=>r.drop off
 |.ptr j i off=>(M.obj j).bind fun o=>match o with
  |.rows _ _ rs=>(rs[i]?).map fun r=>r.drop off
  |_=>none
 |_=>none
def oneD:List DV→Option DV
 |v::_=>some v
 |_=>none
def zey (n:Nat) (M:VM) (x:DV):DV→Option VM
 |.ptr j i off=>(M.obj j).bind fun o=>match o with
  |.rows op sz rs=>(rs[i]?).bind fun r=>if(zA x).length=n∧0<n∧(zA x).all zF=true then(zR r off (zA x)).map fun r'=>M.put j (.rows op sz (rs.set i r')) else none
  |_=>none
 |_=>none
def nilD:DV→Option DV
 |.ptr j i o=>some (.ptr j i o)
 |.pl s r i o=>some (.pl s r i o)
 |.fn g a c=>some (.fn g a c)
 |.yld l=>some (.yld l)
 |_=>none
def zh8:DV→DV→Option Bool
 |.int k a,.int k' b=>if k=k' then some (eqI a b) else none
 |_,_=>none
def sameAtD (xs ys:List DV):List Nat→Option Bool
 | []=>some true
 |i::r=>(xs[i]?).bind fun x=>(ys[i]?).bind fun y=>(zh8 x y).bind fun b=>(sameAtD xs ys r).map fun c=>b&&c
def sameKD:LK→DV→DV→Option Bool
 |.int,.int k a,.int k' b=>if k=k' then some (eqI a b) else none
 |.bool,.bool a,.bool b=>some (a==b)
 |.str,.str a,.str b=>some (zbz a.data.toList b.data.toList)
 |_,_,_=>none
def sameKsD (xs ys:List DV):List (Nat×LK)→Option Bool
 | []=>some true
 |i::r=>(xs[i.1]?).bind fun x=>(ys[i.1]?).bind fun y=>(sameKD i.2 x y).bind fun b=>(sameKsD xs ys r).map fun c=>b&&c
def eqD:EK→DV→DV→Option Bool
 |.ptr,.nilP,.nilP=>some true
 |.ptr,.nilP,.ptr _ _ _=>some false
 |.ptr,.nilP,.pl _ _ _ _=>some false
 |.ptr,.ptr _ _ _,.nilP=>some false
 |.ptr,.pl _ _ _ _,.nilP=>some false
 |.slice,.nilS,.nilS=>some true
 |.slice,.nilS,.ms _ _ _ _=>some false
 |.slice,.ms _ _ _ _,.nilS=>some false
 |.slice,.nilS,.lst _ (_::_)=>some false
 |.slice,.lst _ (_::_),.nilS=>some false
 |.map,.nilM,.nilM=>some true
 |.map,.nilM,.map _=>some false
 |.map,.map _,.nilM=>some false
 |.func,.nilF,.nilF=>some true
 |.func,.nilF,.fn _ _ _=>some false
 |.func,.fn _ _ _,.nilF=>some false
 |.iface true,.nilI,.nilI=>some true
 |.iface _,.nilI,.ifc _ _=>some false
 |.iface _,.ifc _ _,.nilI=>some false
 |.bool,.bool a,.bool b=>some (a==b)
 |.leaves l,.agg xs,.agg ys=>sameAtD xs ys l
 |.leavesK l,.agg xs,.agg ys=>sameKsD xs ys l
 |_,_,_=>none
def eqlD (ek:EK) (x y:DV):BinOp→Option DV
 |.eql=>(eqD ek x y).map .bool
 |.neq=>(eqD ek x y).map fun b=>.bool (!b)
 |_=>none
def binD (op:BinOp) (ek:EK) (x y:DV):Option DV:=match x,y with
 |.int k a,.int k' b=>(intS k k' a b op).bind dOf1
 |.str a,.str b=>(strB a.data.toList b.data.toList op).bind dOf1
 |x,y=>eqlD ek x y op
def unD:UnOp→DV→Option DV
 |.neg,.int k n=>some (.int k (k.wrap (0 - n)))
 |.not,.bool b=>some (.bool !b)
 |_,_=>none
def convD (k:IntKind):DV→Option DV
 |.int _ n=>some (.int k (k.wrap n))
 |_=>none
def zb6:KK→DV→DV→Option Bool
 |.str,.str a,.str b=>some (zbz a.data.toList b.data.toList)
 |.int,.int k a,.int k' b=>if k=k' then some (eqI a b) else none
 |.leaves l,.agg xs,.agg ys=>sameAtD xs ys l
 |_,_,_=>none
def findD (kk:KK) (k:DV):List (DV×DV)→Option (Option DV)
 | []=>some none
 | (key,v)::r=>(zb6 kk k key).bind fun b=>match b with|true=>some (some v)|false=>findD kk k r
def zdx:List DV→List DV→Bool
 | [],[]=>true
 |.int k a::r,.int k' b::r'=>decide (k=k')&&eqI a b&&zdx r r'
 |.str a::r,.str b::r'=>zbz a.data.toList b.data.toList&&zdx r r'
 |_,_=>false
def setD (kk:KK) (k v:DV):List (DV×DV)→Option (List (DV×DV))
 | []=>some [(k,v)]
 | (key,w)::r=>(zb6 kk k key).bind fun s=>match s with
   |true=>if zdx (zA k) (zA key)=true then some ((k,v)::r) else none
   |false=>(setD kk k v r).map fun x=>(key,w)::x
def zcx (isMax:Bool):DV→List DV→Option DV
 |v,[]=>some v
 |.int k x,.int k' y::r=>if k=k' then zcx isMax (.int k (match isMax with|true=>(match ltI x y with|true=>y|false=>x)|false=>(match ltI y x with|true=>y|false=>x))) r else none
 |_,_=>none
def inD (y:Nat):DV→Option Nat
 |.int _ (.ofNat m)=>if m≤y then some m else none
 |_=>none
def zD (dflt y:Nat):Option DV→Option Nat
 |none=>some dflt
 |some d=>inD y d
def zgo (M:VM) (size:Nat):DV→Option (List (List DV))
 |.nilS=>some []
 |.lst s rows=>if s=size then some rows else none
 |.ms j lo len _=>(M.obj j).bind fun o=>match o with
  |.rows _ sz rs=>if sz=size∧lo+len≤rs.length then some ((rs.drop lo).take len) else none
  |_=>none
 |_=>none
def sliceD (size:Nat) (M:VM) (lo hi:Option DV):DV→Option DV
 |.nilS=>(zD 0 0 hi).bind fun hi=>(zD 0 hi lo).map fun _=>.nilS
 |.lst s rows=>if s=size∧0<s then(zD rows.length rows.length hi).bind fun hi=>(zD 0 hi lo).map fun lo=>.lst s ((rows.drop lo).take (hi - lo)) else none
 |.ms j l len cap=>(M.obj j).bind fun o=>match o with
  |.rows true sz rs=>if sz=size∧cap=zp∧l≤rs.length then(zD len (rs.length - l) hi).bind fun hi=>(zD 0 hi lo).map fun lo=>.ms j (l+lo) (hi - lo) zp else none
  |.rows false sz _=>if sz=size∧cap<zp then(zD len cap hi).bind fun hi=>(zD 0 hi lo).map fun lo=>.ms j (if cap=lo then l else l+lo) (hi - lo) (cap - lo) else none
  |_=>none
 |_=>none
def zgE (size:Nat) (M:VM) (lo:Option DV) (hi mx:DV):DV→Option DV
 |.ms j l _ cap=>(M.obj j).bind fun o=>match o with
  |.rows true sz rs=>if sz=size∧cap=zp∧l≤rs.length then(zD 0 (rs.length - l) (some mx)).bind fun m=>if 0<m∧m<zp then(zD 0 m (some hi)).bind fun hi=>(zD 0 hi lo).map fun lo=>.ms j (if m=lo then l else l+lo) (hi - lo) (m - lo) else none else none
  |.rows false sz _=>if sz=size∧cap<zp then(zD 0 cap (some mx)).bind fun m=>(zD 0 m (some hi)).bind fun hi=>(zD 0 hi lo).map fun lo=>.ms j (if m=lo then l else l+lo) (hi - lo) (m - lo) else none
  |_=>none
 |_=>none
def zjz (size:Nat) (M:VM) (i:DV):DV→Option DV
 |.lst s rows=>match i with
  |.int _ (.ofNat i)=>if s=size∧i<rows.length then some (.pl s rows i 0) else none
  |_=>none
 |.ms j lo len _=>(M.obj j).bind fun o=>match o,i with
  |.rows _ sz _,.int _ (.ofNat i)=>if sz=size∧i<len then some (.ptr j (lo+i) 0) else none
  |_,_=>none
 |_=>none
def offD (n:Nat):DV→Option DV
 |.pl s rows i o=>some (.pl s rows i (o+n))
 |.ptr j i o=>some (.ptr j i (o+n))
 |_=>none
def arrD (n size:Nat) (i x:DV):Option DV:=match i with
 |.int _ (.ofNat i)=>if i<n then offD (i*size) x else none
 |_=>none
def byteD (b:UInt8):DV:=.int .u8 b.toNat
def bytesD (s:ByteArray):List (List DV):=s.data.toList.map fun b=>[byteD b]
def zbF (M:VM) (size:Nat):DV→Option (List (List DV))
 |.str s=>if size=1 then some (bytesD s) else none
 |d=>zgo M size d
def zfH (M:VM) (size:Nat) (rs:List (List DV)):DV×VM:=(.ms M.next 0 rs.length zp,M.new (.rows true size rs))
def zcR (rs new:List (List DV)) (at_:Nat):List (List DV):=rs.take at_++new++rs.drop (at_+new.length)
def zdn (size:Nat) (M:VM) (new:List (List DV)) (j lo len cap:Nat):MO→RD
 |.rows op sz rs=>if sz=size∧lo+len≤rs.length then match op with
  |true=>if cap=zp then
    if lo+len+new.length≤rs.length then some (.ms j lo (len+new.length) cap,M.put j (.rows true sz (zcR rs new (lo+len))))
    else some (zfH (M.del j) size ((rs.drop lo).take len++new)) else none
  |false=>if cap<zp then
    if len+new.length≤cap then(if lo+cap≤rs.length then some (.ms j lo (len+new.length) cap,M.put j (.rows false sz (zcR rs new (lo+len)))) else none)
    else some (zfH M size ((rs.drop lo).take len++new)) else none
  else none
 |_=>none
def zbR (size bytes:Nat) (M:VM) (new:List (List DV)) (d:DV):RD:=
 if new=[] then(match d with|.nilS=>some (d,M)|.lst _ _=>some (d,M)|.ms _ _ _ _=>some (d,M)|_=>none) else match d with
 |.nilS=>if new.length*bytes≤1073741824 then some (zfH M size new) else none
 |.ms j lo len cap=>if(len+new.length)*bytes≤1073741824 then(M.obj j).bind (zdn size M new j lo len cap) else none
 |_=>none
def lenD (M:VM):DV→Option Nat
 |.nilS=>some 0
 |.lst _ rows=>some rows.length
 |.ms _ _ len _=>some len
 |_=>none
def zW (M:VM):DV→Option (List (DV×DV))
 |.nilM=>some []
 |.map j=>(M.obj j).bind fun o=>match o with|.map es=>some es|_=>none
 |_=>none
def bltD (M:VM) (b:CB) (args:List DV):RD:=match b,args with
 |.lenStr,[.str s]=>some (.int .i64 s.size,M)
 |.len,[d]=>(lenD M d).map fun(n:Nat)=>(.int .i64 (n:Int),M)
 |.lenMap,[d]=>(zW M d).map fun es=>(.int .i64 es.length,M)
 |.append size bytes,[s,x]=>if 0<size∧size<roE then(zbF M size x).bind fun new=>if new.all (fun r=>r.all zF)=true then zbR size bytes M new s else none else none
 |.min,v::r=>(zcx false v r).map (·,M)
 |.max,v::r=>(zcx true v r).map (·,M)
 |_,_=>none
def zeF (z:DV) (ok:Bool):Option DV→DV
 |some v=>match ok with|true=>.tup [v,.bool true]|false=>v
 |none=>match ok with|true=>.tup [z,.bool false]|false=>z
def updD (kk:KK) (M:VM) (k x:DV):DV→Option VM
 |.map j=>(M.obj j).bind fun o=>match o with
  |.map es=>(zb6 kk k k).bind fun _=>(setD kk k x es).map fun es=>M.put j (.map es)
  |_=>none
 |_=>none
def strIdxD:DV→DV→Option DV
 |.str s,.int _ (.ofNat i)=>(s.data.toList[i]?).map byteD
 |_,_=>none
def zfX (lo hi:Option DV):DV→Option DV
 |.str s=>(zD s.size s.size hi).bind fun hi=>(zD 0 hi lo).bind fun lo=>(zgB (hi - lo) (zds lo s.data.toList)).map fun l=>.str ⟨⟨l⟩⟩
 |_=>none
def ze1 (t:TypeId) (z:DV) (ok:Bool):DV→Option DV
 |.ifc u v=>match Nat.beq u t,ok with
  |true,true=>some (.tup [v,.bool true])
  |true,false=>some v
  |false,true=>some (.tup [z,.bool false])
  |false,false=>none
 |.nilI=>match ok with
  |true=>some (.tup [z,.bool false])
  |false=>none
 |_=>none
def byteOfD:List DV→Option UInt8
 | [.int .u8 (.ofNat n)]=>some (UInt8.ofNat n)
 |_=>none
def b2sD (M:VM) (d:DV):Option DV:=(zgo M 1 d).bind fun rows=>(allO byteOfD rows).map fun l=>.str ⟨⟨l⟩⟩
def zcG (bytes:Nat) (z:List DV) (M:VM):DV→DV→RD
 |.int .i64 (.ofNat l),.int .i64 (.ofNat c)=>if l≤c∧c*bytes≤1073741824∧c≤1073741824 then some (.ms M.next 0 l c,M.new (.rows false z.length (List.replicate c z))) else none
 |_,_=>none
def zf7 (s:DS):List (Nat×Nat×CO)→Option (List (Nat×Nat×DV))
 | []=>some []
 | (o,n,x)::r=>(evD s x).bind fun v=>(zf7 s r).map ((o,n,v):: ·)
def zec (s:DS):List (Nat×CO)→Option (List (Nat×DV))
 | []=>some []
 | (i,x)::r=>(evD s x).bind fun v=>(zec s r).map ((i,v):: ·)
def pickD (a b:Option DV):DV→Option DV
 |.bool true=>a
 |.bool false=>b
 |_=>none
def fldD (off:Nat) (n:Option Nat):DV→Option DV
 |.agg cs=>match n with
  |some n=>(zdZ n (cs.drop off)).map .agg
  |none=>oneD (cs.drop off)
 |_=>none
def opD (op:COp) (s:DS) (M:VM):RD:=match op with
 |.mv x=>(evD s x).map (·,M)
 |.pick c a b=>(evD s c).bind fun c=>(pickD (evD s a) (evD s b) c).map (·,M)
 |.alloc z=>(dOfL z).map fun z=>(.ptr M.next 0 0,M.new (.rows false z.length [z]))
 |.box x=>(evD s x).map fun v=>(.ptr M.next 0 0,M.new (.rows false (zA v).length [zA v]))
 |.build z ps=>(dOfL z).bind fun z=>(zf7 s ps).bind fun l=>(zgV z l).map fun c=>(.agg c,M)
 |.buildSlice len size z ps=>(dOfL z).bind fun z=>if z.length=size∧len<zp then(zec s ps).bind fun l=>(zch size (List.replicate len z) l).map fun rows=>(.ms M.next 0 len len,M.new (.rows false size rows)) else none
 |.load1 a=>(evD s a).bind fun a=>(zcC M a).bind fun r=>(oneD r).map (·,M)
 |.loadN n a=>(evD s a).bind fun a=>(zcC M a).bind fun r=>(zdZ n r).map fun l=>(.agg l,M)
 |.store n a x=>(evD s a).bind fun a=>(evD s x).bind fun x=>(zey n M x a).map (.tup [],·)
 |.nilCheck x=>(evD s x).bind fun v=>(nilD v).map (·,M)
 |.bin op ek x y=>(evD s x).bind fun a=>(evD s y).bind fun b=>(binD op ek a b).map (·,M)
 |.un op x=>(evD s x).bind fun a=>(unD op a).map (·,M)
 |.conv k x=>(evD s x).bind fun a=>(convD k a).map (·,M)
 |.makeFunc (.func g) a b=>(evDL s a).bind fun a=>(evDL s b).map fun b=>(.fn g a b,M)
 |.makeMap=>some (.map M.next,M.new (.map []))
 |.makeSlice _ bytes z l c=>(evD s l).bind fun l=>(evD s c).bind fun c=>(dOfL z).bind fun z=>zcG bytes z M l c
 |.slice size x lo hi=>(evD s x).bind fun v=>(evDO s lo).bind fun lo=>(evDO s hi).bind fun hi=>(sliceD size M lo hi v).map (·,M)
 |.fieldAddr off x=>(evD s x).bind fun v=>(offD off v).map (·,M)
 |.indexAddr size x i=>(evD s x).bind fun v=>(evD s i).bind fun i=>(zjz size M i v).map (·,M)
 |.indexArr n size x i=>(evD s x).bind fun v=>(evD s i).bind fun i=>(arrD n size i v).map (·,M)
 |.lookup kk z ok x i=>(evD s x).bind fun m=>(evD s i).bind fun k=>(dOf z).bind fun z=>(zb6 kk k k).bind fun _=>(zW M m).bind fun es=>(findD kk k es).map fun r=>(zeF z ok r,M)
 |.mapUpdate kk m k x=>(evD s m).bind fun m=>(evD s k).bind fun k=>(evD s x).bind fun x=>(updD kk M k x m).map (.tup [],·)
 |.extract x i=>(evD s x).bind fun v=>match v with|.tup l=>(l[i]?).map (·,M)|_=>none
 |.blt b args=>(evDL s args).bind fun l=>bltD M b l
 |.strIdx x i=>(evD s x).bind fun v=>(evD s i).bind fun i=>(strIdxD v i).map (·,M)
 |.mkI t x=>(evD s x).map fun v=>(.ifc t v,M)
 |.assertT t z ok x=>(evD s x).bind fun v=>(dOf z).bind fun z=>(ze1 t z ok v).map (·,M)
 |.strSlice x lo hi=>(evD s x).bind fun v=>(evDO s lo).bind fun lo=>(evDO s hi).bind fun hi=>(zfX lo hi v).map (·,M)
 |.b2s x=>(evD s x).bind fun v=>(b2sD M v).map (·,M)
 |.slice3 size x lo hi mx=>(evD s x).bind fun v=>(evDO s lo).bind fun lo=>(evD s hi).bind fun hi=>(evD s mx).bind fun mx=>(zgE size M lo hi mx v).map (·,M)
 |.fld off n x=>(evD s x).bind fun v=>(fldD off n v).map (·,M)
 |_=>none
structure KD where
 nrm:DS→VM→Prop
 ext:Nat→DS→VM→Prop
 ret:DS→VM→Prop
 pan:DV→DS→VM→Prop
structure RnD where
 call:DV→List DV→VM→(DV→VM→Prop)→(DV→VM→Prop)→Prop
 hand:DV→List DV→Option DV→VM→(VM→Prop)→Prop
 loop:List (List Bool)→CC→KD→DS→VM→Prop
 scope:CC→Nat→CC→Nat→CC→KD→DS→VM→Prop
def okD (r:RD) (k:DV→VM→Prop):Prop:=match r with
 |some x=>k x.1 x.2
 |none=>False
def ofD {α:Type} (r:Option α) (k:α→Prop):Prop:=match r with
 |some x=>k x
 |none=>False
def wantD (g:Option (List Bool×Bool)) (s:DS):Option Bool:=match g with
 |none=>some true
 |some (p,w)=>(getS s p).bind fun d=>match d with
  |.bool b=>some (b==w)
  |.tup _=>some false
  |_=>none
def wDo (X:RnD) (op:COp) (s:DS) (M:VM) (kp k:DV→VM→Prop):Prop:=match op with
 |.call f args=>ofD (evD s f) fun f=>ofD (evDL s args) fun l=>X.call f l M k kp
 |.invoke tbl x args=>ofD (evD s x) fun v=>match v with
  |.ifc t v=>ofD (lookM t tbl) fun f=>ofD (evDL s args) fun l=>X.call (.fn f [] []) (v::l) M k kp
  |_=>False
 |.panic x=>ofD (evD s x) fun v=>match v with|.ifc t u=>kp (.ifc t u) M|_=>False
 |op=>okD (opD op s M) k
def zgz (X:RnD) (o:CI) (s:DS) (M:VM) (kp k:DV→VM→Prop):Prop:=ofD (wantD o.guard s) fun b=>match b with
 |true=>wDo X o.op s M kp k
 |false=>k (.tup []) M
def wOps (X:RnD) (kp:DV→DS→VM→Prop):List CI→DS→VM→(DS→VM→Prop)→Prop
 | [],s,M,k=>k s M
 |o::l,s,M,k=>zgz X o s M (fun v M=>kp v s M) fun v M=>wOps X kp l (zY o.dst v s) M k
def zcw:DV→Bool
 |.bool _=>true
 |.int _ _=>true
 |.str _=>true
 |.nilS=>true
 |.lst _ _=>true
 |.pl _ _ _ _=>true
 |.ms _ _ _ _=>true
 |.nilP=>true
 |.ptr _ _ _=>true
 |.nilM=>true
 |.map _=>true
 |.nilF=>true
 |_=>false
def zcO:DV→Bool
 |.agg l=>l.all zcw
 |.tup l=>l.all fun d=>match d with|.agg l=>l.all zcw|d=>zcw d
 |d=>zcw d
def refD:DV→List Nat
 |.ptr j _ _=>[j]
 |.ms j _ _ _=>[j]
 |.map j=>[j]
 |_=>[]
def zcp (s:DS) (x:CO):List Nat:=match evD s x with|some d=>refD d|none=>[]
def zbO (s:DS):COp→List Nat
 |.load1 a=>zcp s a
 |.loadN _ a=>zcp s a
 |.lookup _ _ _ x _=>zcp s x
 |.slice _ x _ _=>zcp s x
 |.slice3 _ x _ _ _=>zcp s x
 |.blt _ as=>as.flatMap (zcp s)
 |.b2s x=>zcp s x
 |_=>[]
def ze3:List Nat→VM→VM→Prop
 | [],_,_=>True
 |j::r,M,M'=>(M.get j=M'.get j∧(M.get j).isSome=true)∧ze3 r M M'
def inP (l:List (List Bool)) (p:List Bool):Bool:=match l with
 | []=>false
 |q::r=>match beqP q p with|true=>true|false=>inP r p
def zcX (bad:List (List Bool)):List (List Bool)→Bool
 | []=>true
 |p::r=>match inP bad p with|true=>false|false=>zcX bad r
structure Mo where
 idx:Nat
 M:VM
 bad:List (List Bool)
def zcg (q:Option (List Bool)) (x:Mo):Mo:=match q with
 |none=>x
 |some q=>⟨x.idx,x.M,q::x.bad⟩
def zf9 (ns:List (List Bool)) (q:Option (List Bool)) (x:Mo):Mo:=match zcX x.bad ns with
 |true=>x
 |false=>zcg q x
def rdAt (rs:List Nat) (ns:List (List Bool)) (M:VM) (x:Mo):Prop:=zcX x.bad ns=true∧ze3 rs M x.M
def rdOk (rs:List Nat) (ns:List (List Bool)) (M:VM) (lo:Nat):List Mo→Prop
 | []=>True
 |x::r=>(match Nat.blt x.idx lo with|true=>True|false=>rdAt rs ns M x)∧rdOk rs ns M lo r
def zij (lo:Nat) (q:Option (List Bool)):List Mo→List Mo
 | []=>[]
 |x::r=>(match Nat.blt x.idx lo with|true=>zcg q x|false=>x)::zij lo q r
def zjN (bs:List Mo) (d:DV):Bool:=match bs with
 | []=>true
 | [_]=>true
 |_=>zcO d
def wRead (op:COp) (ns:List (List Bool)) (q:Option (List Bool)) (s:DS) (lo:Nat) (M:VM) (k:DV→List Mo→Prop):List Mo→Prop
 | []=>False
 |x::r=>okD (opD op s M) fun d _=>rdAt (zbO s op) ns M x∧rdOk (zbO s op) ns M lo r∧zjN (x::r) d=true∧k d (x::zij lo q r)
def zit (bs:List Mo):Nat:=match bs with
 | []=>0
 |x::_=>x.idx+1
def zdp (X:RnD):List CI→List Mo→DS→VM→(DS→VM→Prop)→Prop
 | [],_,s,M,k=>k s M
 |o::l,bs,s,M,k=>match isW o.op with
  |true=>zgz X o s M (fun _ _=>False) fun v M=>zdp X l (⟨zit bs,M,[]⟩::bs.map (zcg o.dst)) (zY o.dst v s) M k
  |false=>match isRd o.op with
   |true=>ofD (wantD o.guard s) fun b=>match b with
    |true=>wRead o.op (zq o.op) o.dst s o.lo M (fun v bs=>zdp X l bs (zY o.dst v s) M k) bs
    |false=>zdp X l (bs.map (zf9 (zq o.op) o.dst)) (zY o.dst (.tup []) s) M k
   |false=>match isFl o.op with
    |true=>zgz X o s M (fun _ _=>False) fun v M=>zdp X l (bs.map (zf9 (zq o.op) o.dst)) (zY o.dst v s) M k
    |false=>zgz X o s M (fun _ _=>False) fun v M=>zdp X l (bs.map (zcg o.dst)) (zY o.dst v s) M k
def wStore2 (x y:COp) (s:DS) (M:VM) (k:VM→Prop):Prop:=match x,y with
 |.store n a b,.store m c d=>ofD (evD s a) fun a=>ofD (evD s b) fun b=>ofD (evD s c) fun c=>ofD (evD s d) fun d=>match a,c with
  |.ptr i _ _,.ptr j _ _=>i≠j∧ofD (zey n M b a) fun M=>ofD (zey m M d c) k
  |_,_=>False
 |_,_=>False
def wIf (v:DV) (a b:Prop):Prop:=match v with
 |.bool true=>a
 |.bool false=>b
 |_=>False
def blkD (i:Nat) (k:KD) (j:Nat) (s:DS) (M:VM):Prop:=match Nat.beq j i with
 |true=>k.nrm s M
 |false=>k.ext j s M
def pendD (k:KD) (s:DS) (M:VM):Option CC→Prop
 |none=>k.nrm s M
 |some .ret=>k.ret s M
 |some (.exit i)=>k.ext i s M
 |_=>False
def zf4 (k:KD) (s:DS) (l:Nat) (M:VM):Prop:=ofD (M.obj l) fun o=>match o with
 |.loop .ready pend sl rc=>pendD k s (M.put l (.loop .exhausted pend sl rc)) pend
 |.loop .done pend sl rc=>pendD k s (M.put l (.loop .exhausted pend sl rc)) pend
 |_=>False
def wp (X:RnD):CC→KD→DS→VM→Prop
 |.skip,k,s,M=>k.nrm s M
 |.ops l,k,s,M=>wOps X k.pan l s M k.nrm
 |.draw l,k,s,M=>zdp X l [⟨0,M,[]⟩] s M k.nrm
 |.draw2 l x y,k,s,M=>zdp X l [⟨0,M,[]⟩] s M fun s M=>wStore2 x.op y.op s M fun M=>k.nrm s M
 |.seq a L b,k,s,M=>wp X a ⟨fun s M=>wp X b k (zbu L s) M,k.ext,k.ret,k.pan⟩ s M
 |.cond c a b,k,s,M=>ofD (evD s c) fun v=>wIf v (wp X a k s M) (wp X b k s M)
 |.block i b,k,s,M=>wp X b ⟨k.nrm,blkD i k,k.ret,k.pan⟩ s M
 |.loop L b,k,s,M=>X.loop L b k (zbu L s) M
 |.rangeFunc rid L f ps as b,k,s,M=>ofD (evD s f) fun f=>match f with
  |.fn g a c=>X.call (.fn g a c) [.yld M.next] (M.new (.loop .ready none (zbu L s) ⟨rid,L,ps,as,b⟩)) (fun _ M'=>zf4 k s M.next M') fun _ _=>False
  |_=>False
 |.exit i,k,s,M=>k.ext i s M
 |.ret,k,s,M=>k.ret s M
 |.scope b l1 r1 l2 r2,k,s,M=>X.scope b l1 r1 l2 r2 k s M
def resD (s:DS) (M:VM):CR→Option DV
 |.tmp p=>getS s p
 |.cell n p=>(getS s p).bind fun v=>(zcC M v).bind fun r=>match n with
  |some n=>(zdZ n r).map .agg
  |none=>oneD r
def zjh (s:DS) (M:VM):List CR→Option (List DV)
 | []=>some []
 |r::rs=>(resD s M r).bind fun v=>(zjh s M rs).map (v:: ·)
def zhT:List DV→DV
 | [v]=>v
 |vs=>.tup vs
def endD (rs:List CR) (k:DV→VM→Prop) (s:DS) (M:VM):Prop:=ofD (zjh s M rs) fun vs=>k (zhT vs) M
def argsD:List DV→Nat→DS→DS
 | [],_,s=>s
 |v::vs,i,s=>argsD vs (i+1) ((bits i,v)::s)
def fnKD (rs:List CR) (k kp:DV→VM→Prop):KD:=⟨endD rs k,fun _ _ _=>False,endD rs k,fun v _ M=>kp v M⟩
def doneKD (X:RnD) (f:DV) (l:List DV) (rs:List CR) (k:DV→VM→Prop):KD:=
 ⟨fun s M=>X.hand f l none M fun M=>endD rs k s M,fun _ _ _=>False,fun s M=>X.hand f l none M fun M=>endD rs k s M,fun v s M=>X.hand f l (some v) M fun M=>endD rs k s M⟩
def dfrKD (X:Nat→RnD) (d:Dfr) (rs:List CR) (k kp:DV→VM→Prop):KD:=
 ⟨fun s M=>ofD (evD s d.f) fun f=>match f with
   |.fn g a c=>ofD (evDL s d.args) fun l=>wp (X M.next) d.rest (doneKD (X M.next) (.fn g a c) l rs k) (zbu d.L s) M
   |_=>False,fun _ _ _=>False,fun _ _=>False,fun v _ M=>kp v M⟩
def bodyKD (X:Nat→RnD) (rs:List CR) (k kp:DV→VM→Prop):Option Dfr→KD
 |none=>fnKD rs k kp
 |some d=>dfrKD X d rs k kp
def wFunc (X:Nat→RnD) (cf:zm) (args:List DV) (M:VM) (k kp:DV→VM→Prop):Prop:=args.length≤cf.ntmps∧wp (X M.next) cf.body (bodyKD X cf.results k kp cf.dfr) (argsD args 0 []) M
def handD:List CI→Option DV→DS→VM→(Option DV→DS→VM→Prop)→Prop
 | [],p,s,M,k=>k p s M
 |o::l,p,s,M,k=>ofD (wantD o.guard s) fun b=>match b with
  |true=>match o.op with
   |.recov=>handD l none (zY o.dst (p.getD .nilI) s) M k
   |op=>okD (opD op s M) fun v M=>handD l p (zY o.dst v s) M k
  |false=>handD l p (zY o.dst (.tup []) s) M k
def wHand (X:RnD) (cf:zm) (args:List DV) (p:Option DV) (M:VM) (k:VM→Prop):Prop:=args.length≤cf.ntmps∧match cf.dfr,cf.body with
 |none,.seq (.ops l) L b=>handD l p (argsD args 0 []) M fun p s M=>match p with
  |none=>wp X b ⟨endD cf.results fun _ M=>k M,fun _ _ _=>False,endD cf.results fun _ M=>k M,fun _ _ _=>False⟩ (zbu L s) M
  |some _=>False
 |_,_=>False
def finD (l:Nat) (k:DV→VM→Prop) (p:Option CC) (M:VM):Prop:=ofD (M.obj l) fun o=>match o with
 |.loop _ _ sl rc=>k (.bool p.isNone) (M.put l (.loop (stOf p) p sl rc))
 |_=>False
def finKD (l:Nat) (k:DV→VM→Prop):KD:=⟨fun _ M=>finD l k none M,fun i _ M=>finD l k (some (.exit i)) M,fun _ M=>finD l k (some .ret) M,fun _ _ _=>False⟩
def setSD:List (List Bool)→List DV→DS→Option DS
 | [],[],s=>some s
 |p::ps,v::vs,s=>setSD ps vs ((p,v)::s)
 |_,_,_=>none
def wRound (X:RnD) (l:Nat) (sl:DS) (rc:RC) (args:List DV) (M:VM) (k:DV→VM→Prop):Prop:=ofD (setSD rc.ps args (zbu rc.L sl)) fun s=>
 wp X rc.as ⟨fun s M=>ofD (M.obj l) fun o=>match o with
  |.loop .ready pend sl rc'=>wp X rc.b (finKD l k) s (M.put l (.loop .busy pend sl rc'))
  |_=>False,fun _ _ _=>False,fun _ _=>False,fun _ _ _=>False⟩ s M
end
end Go.Ideal
namespace Go.Ideal
structure RBd where
 blk:Nat
 sz:Nat
 op:Bool
structure Wd where
 rho:Nat→Option RBd
 Z:Nat→Option (List Value×Nat)
structure Wd.Le (w w':Wd):Prop where
 rho: ∀j R,w.rho j=some R→w'.rho j=some R
 Z: ∀b z,w.Z b=some z→w'.Z b=some z
theorem Wd.Le.refl (w:Wd):w.Le w:=⟨fun _ _ h=>h,fun _ _ h=>h⟩
theorem Wd.Le.trans {a b c:Wd} (h:a.Le b) (h':b.Le c):a.Le c:=⟨fun _ _ e=>h'.rho _ _ (h.rho _ _ e),fun _ _ e=>h'.Z _ _ (h.Z _ _ e)⟩
inductive VRel (w:Wd):DV→Value→Prop where
 |int (k:IntKind) (n:Int):VRel w (.int k n) (.int k n)
 |bool (b:Bool):VRel w (.bool b) (.bool b)
 |str (s:ByteArray):VRel w (.str s) (.string s)
 |nilS:VRel w .nilS (.slice none 0 0)
 |nilP:VRel w .nilP (.pointer none)
 |nilM:VRel w .nilM (.map none)
 |nilF:VRel w .nilF .nilFunc
 |nilI:VRel w .nilI .nilIface
 |agg {l:List DV} {vs:List Value} (hl:l.length=vs.length) (h: ∀(k:Nat) d v,l[k]? =some d→vs[k]? =some v→VRel w d v):VRel w (.agg l) (.agg ⟨vs⟩)
 |tup {l:List DV} {vs:List Value} (hl:l.length=vs.length) (h: ∀(k:Nat) d v,l[k]? =some d→vs[k]? =some v→VRel w d v):VRel w (.tup l) (.tuple ⟨vs⟩)
 |fn (g:Nat) {a c:List DV} {a' c':List Value} (ha:a.length=a'.length) (hc:c.length=c'.length) (h: ∀(k:Nat) d v,a[k]? =some d→a'[k]? =some v→VRel w d v)
   (h': ∀(k:Nat) d v,c[k]? =some d→c'[k]? =some v→VRel w d v):VRel w (.fn g a c) (.func (.func g) ⟨a'⟩ ⟨c'⟩)
 |yld {l:Nat} {R:RBd} (h:w.rho l=some R):VRel w (.yld l) (.func (.yield R.blk) #[] #[])
 |ifc (t:Nat) {d:DV} {v:Value} (h:VRel w d v):VRel w (.ifc t d) (.iface t v)
 |map {j:Nat} {R:RBd} (h:w.rho j=some R):VRel w (.map j) (.map (some R.blk))
 |ptr {j i off:Nat} {R:RBd} (h:w.rho j=some R):VRel w (.ptr j i off) (.pointer (some ⟨R.blk,i*R.sz+off,none⟩))
 |ms {j lo len cap:Nat} {R:RBd} (h:w.rho j=some R) (ho:cap=zp→R.op=true) (hc:cap≠zp→len≤cap∧cap<zp):VRel w (.ms j lo len cap) (.slice (some ⟨R.blk,lo*R.sz,none⟩) len cap)
 |lst {b o s n cap e:Nat} {cs:List Value} {rows:List (List DV)} (hz:w.Z b=some (cs,e)) (hs: ∀r∈rows,r.length=s) (hb:o+rows.length*s≤cs.length)
   (h: ∀(k:Nat) d v,rows.flatten[k]? =some d→cs[o+k]? =some v→VRel w d v)
   (ho:cap=zp→e=s∧0<s∧s<roE) (hc:cap≠zp→rows.length≤cap∧cap<zp) (hn:n=rows.length):VRel w (.lst s rows) (.slice (some ⟨b,o,none⟩) n cap)
 |lst0 {s cap:Nat} {base:Option Addr} (hc:cap<zp) (hsp: ∀a,base=some a→a.spot=none):VRel w (.lst s []) (.slice base 0 cap)
 |pl {b o s e i off:Nat} {cs:List Value} {rows:List (List DV)} (hz:w.Z b=some (cs,e)) (hs: ∀r∈rows,r.length=s) (hb:o+rows.length*s≤cs.length)
   (h: ∀(k:Nat) d v,rows.flatten[k]? =some d→cs[o+k]? =some v→VRel w d v):VRel w (.pl s rows i off) (.pointer (some ⟨b,o+i*s+off,none⟩))
theorem VRel.mono {w w':Wd} (hl:w.Le w') {d:DV} {v:Value} (h:VRel w d v):VRel w' d v:=by
 induction h with
 |int k n=>exact .int k n
 |bool b=>exact .bool b
 |str s=>exact .str s
 |nilS=>exact .nilS
 |nilP=>exact .nilP
 |nilM=>exact .nilM
 |nilF=>exact .nilF
 |nilI=>exact .nilI
 |agg hl' _ ih=>exact .agg hl' ih
 |tup hl' _ ih=>exact .tup hl' ih
 |fn g ha hc _ _ ih ih'=>exact .fn g ha hc ih ih'
 |yld h=>exact .yld (hl.rho _ _ h)
 |ifc t _ ih=>exact .ifc t ih
 |map h=>exact .map (hl.rho _ _ h)
 |ptr h=>exact .ptr (hl.rho _ _ h)
 |ms h ho hc=>exact .ms (hl.rho _ _ h) ho hc
 |lst hz hs hb _ ho hc hn ih=>exact .lst (hl.Z _ _ hz) hs hb ih ho hc hn
 |lst0 hc hsp=>exact .lst0 hc hsp
 |pl hz hs hb _ ih=>exact .pl (hl.Z _ _ hz) hs hb ih
structure LRel (w:Wd) (l:List DV) (vs:List Value):Prop where
 len:l.length=vs.length
 at_: ∀(k:Nat) d v,l[k]? =some d→vs[k]? =some v→VRel w d v
theorem LRel.nil {w:Wd}:LRel w [] []:=⟨rfl,fun k d v h=>by simp at h⟩
theorem LRel.cons {w:Wd} {d:DV} {v:Value} {l:List DV} {vs:List Value} (h:VRel w d v) (h':LRel w l vs):LRel w (d::l) (v::vs):=
 ⟨by simp[h'.len],fun k d' v' h1 h2=>by
   cases k with
   |zero=>simp at h1 h2;subst h1;subst h2;exact h
   |succ k=>simp at h1 h2;exact h'.at_ k d' v' h1 h2⟩
theorem LRel.head {w:Wd} {d:DV} {l:List DV} {vs:List Value} (h:LRel w (d::l) vs): ∃v r,vs=v::r∧VRel w d v∧LRel w l r:=by
 obtain⟨h1,h2⟩:=h
 cases vs with
 |nil=>simp at h1
 |cons v r=>exact⟨v,r,rfl,h2 0 d v rfl rfl,by simpa using h1,fun k d' v' a b=>h2 (k+1) d' v' (by simpa using a) (by simpa using b)⟩
theorem LRel.inv_nil {w:Wd} {vs:List Value} (h:LRel w [] vs):vs=[]:=by
 have:=h.len
 cases vs with
 |nil=>rfl
 |cons=>simp at this
theorem LRel.mono {w w':Wd} (hl:w.Le w') {l:List DV} {vs:List Value} (h:LRel w l vs):LRel w' l vs:=⟨h.len,fun k d v a b=>(h.at_ k d v a b).mono hl⟩
theorem LRel.get {w:Wd} {l:List DV} {vs:List Value} (h:LRel w l vs) {k:Nat} {d:DV} (hk:l[k]? =some d): ∃v,vs[k]? =some v∧VRel w d v:=by
 have hlt:k<vs.length:=by
  have:=(List.getElem?_eq_some_iff.1 hk).1
  have:=h.len;omega
 exact⟨vs[k],List.getElem?_eq_getElem hlt,h.at_ k d _ hk (List.getElem?_eq_getElem hlt)⟩
theorem LRel.append {w:Wd} {l m:List DV} {vs us:List Value} (h:LRel w l vs) (h':LRel w m us):LRel w (l++m) (vs++us):=by
 induction l generalizing vs with
 |nil=>rw[h.inv_nil];exact h'
 |cons d l ih=>obtain⟨v,r,rfl,hv,hr⟩:=h.head;exact .cons hv (ih hr)
theorem LRel.take {w:Wd} {l:List DV} {vs:List Value} (h:LRel w l vs) (n:Nat):LRel w (l.take n) (vs.take n):=
 ⟨by simp[h.len],fun k d v a b=>by
   rw[List.getElem?_take] at a b
   split at a
   ·rename_i hk;rw[if_pos hk] at b;exact h.at_ k d v a b
   ·cases a⟩
theorem LRel.drop {w:Wd} {l:List DV} {vs:List Value} (h:LRel w l vs) (n:Nat):LRel w (l.drop n) (vs.drop n):=
 ⟨by simp[h.len],fun k d v a b=>by rw[List.getElem?_drop] at a b;exact h.at_ _ d v a b⟩
theorem VRel.agg_of {w:Wd} {l:List DV} {vs:List Value} (h:LRel w l vs):VRel w (.agg l) (.agg ⟨vs⟩):=.agg h.len h.at_
theorem VRel.tup_of {w:Wd} {l:List DV} {vs:List Value} (h:LRel w l vs):VRel w (.tup l) (.tuple ⟨vs⟩):=.tup h.len h.at_
section
variable {w:Wd} {v:Value}
theorem VRel.inv_int {k:IntKind} {n:Int} (h:VRel w (.int k n) v):v=.int k n:=by cases h;rfl
theorem VRel.inv_bool {b:Bool} (h:VRel w (.bool b) v):v=.bool b:=by cases h;rfl
theorem VRel.inv_str {s:ByteArray} (h:VRel w (.str s) v):v=.string s:=by cases h;rfl
theorem VRel.inv_agg {l:List DV} (h:VRel w (.agg l) v): ∃vs,v=.agg ⟨vs⟩∧LRel w l vs:=by cases h with|agg hl h=>exact⟨_,rfl,hl,h⟩
theorem VRel.inv_tup {l:List DV} (h:VRel w (.tup l) v): ∃vs,v=.tuple ⟨vs⟩∧LRel w l vs:=by cases h with|tup hl h=>exact⟨_,rfl,hl,h⟩
theorem VRel.inv_fn {g:Nat} {a c:List DV} (h:VRel w (.fn g a c) v): ∃a' c',v=.func (.func g) ⟨a'⟩ ⟨c'⟩∧LRel w a a'∧LRel w c c':=by cases h with|fn _ ha hc h h'=>exact⟨_,_,rfl,⟨ha,h⟩,hc,h'⟩
theorem VRel.cells {d:DV} (h:VRel w d v):LRel w (zA d) (zP v):=by
 cases h with
 |agg hl h=>exact⟨hl,h⟩
 |_=>exact .cons (by constructor<;>assumption) .nil
theorem VRel.isCell {d:DV} (h:VRel w d v) (hc:zF d=true):Ideal.isCell v=true:=by
 cases h<;>first|rfl|cases hc
theorem VRel.clean {d:DV} (h:VRel w d v):clean1 v=true:=by cases h<;>rfl
theorem LRel.clean {l:List DV} {vs:List Value} (h:LRel w l vs):vs.all clean1=true:=by
 rw[List.all_eq_true]
 intro x hx
 obtain⟨k,hk,e⟩:=List.getElem_of_mem hx
 have hk':k<l.length:=by rw[h.len];exact hk
 exact(h.at_ k _ x (List.getElem?_eq_getElem hk') (by rw[←e];exact List.getElem?_eq_getElem hk)).clean
theorem LRel.isCell {l:List DV} {vs:List Value} (h:LRel w l vs) (hc:l.all zF=true):vs.all Ideal.isCell=true:=by
 rw[List.all_eq_true] at hc⊢
 intro x hx
 obtain⟨k,hk,e⟩:=List.getElem_of_mem hx
 have hk':k<l.length:=by rw[h.len];exact hk
 exact(h.at_ k _ x (List.getElem?_eq_getElem hk') (by rw[←e];exact List.getElem?_eq_getElem hk)).isCell (hc _ (List.getElem_mem hk'))
end
theorem zhK {w:Wd} {v:Value} {d:DV} (h:dOf1 v=some d):VRel w d v:=by
 unfold dOf1 at h
 split at h<;>cases h<;>constructor
theorem zfd {w:Wd}: ∀{vs:List Value} {l:List DV},dOfL vs=some l→LRel w l vs
 | [],l,h=>by cases h;exact .nil
 |v::r,l,h=>by
  obtain⟨d,hd,h⟩:=aof h
  obtain⟨l',hl,rfl⟩:=amf h
  exact .cons (zhK hd) (zfd hl)
theorem dOf_rel {w:Wd} {v:Value} {d:DV} (h:dOf v=some d):VRel w d v:=by
 unfold dOf at h
 split at h
 ·cases h;exact .fn _ rfl rfl (fun k d v h=>by simp at h) (fun k d v h=>by simp at h)
 ·obtain⟨l,hl,rfl⟩:=amf h;exact .agg_of (zfd hl)
 ·exact zhK h
def SRel (w:Wd) (s:DS) (t:zl):Prop:= ∀p d,getS s p=some d→ ∃v,t.get p=some v∧VRel w d v
theorem SRel.mono {w w':Wd} (hl:w.Le w') {s:DS} {t:zl} (h:SRel w s t):SRel w' s t:=fun p d e=>by obtain⟨v,a,b⟩:=h p d e;exact⟨v,a,b.mono hl⟩
theorem SRel.nil {w:Wd} {t:zl}:SRel w [] t:=fun p d e=>by cases e
theorem beqP_eq: ∀{p q:List Bool},beqP p q=true→p=q
 | [],[],_=>rfl
 |a::l,b::m,h=>by
  have h:((a==b)&&beqP l m)=true:=h
  rw[Bool.and_eq_true,beq_iff_eq] at h
  rw[h.1,beqP_eq h.2]
 | [],_::_,h=>by cases h
 |_::_,[],h=>by cases h
theorem zcW (q:List Bool) (d:DV) (s:DS) (p:List Bool):getS ((q,d)::s) p=if q=p then some d else getS s p:=by
 show(match beqP q p with|true=>some d|false=>getS s p)=_
 cases h:beqP q p with
 |true=>rw[if_pos (beqP_eq h)]
 |false=>rw[if_neg (fun e=>by rw[e,zdV] at h;cases h)]
theorem SRel.set {w:Wd} {s:DS} {t:zl} (h:SRel w s t) {d:DV} {v:Value} (hv:VRel w d v) (p:List Bool):SRel w ((p,d)::s) (t.set p v):=by
 intro q e hq
 rw[zcW] at hq
 by_cases hp:p=q
 ·rw[if_pos hp] at hq;cases hq;subst hp;exact⟨v,PT.get_set_same v p t,hv⟩
 ·rw[if_neg hp] at hq;rw[PT.get_set_ne v p q t hp];exact h q e hq
theorem SRel.put {w:Wd} {s:DS} {t:zl} (h:SRel w s t) {d:DV} {v:Value} (hv:VRel w d v) (p:Option (List Bool)):SRel w (zY p d s) (zU p v t):=by
 cases p with
 |none=>exact h
 |some p=>exact h.set hv p
theorem zj2 (s:DS) (p:List Bool): ∀L:List (List Bool),getS (zjn s L) p=if p∈L then getS s p else none
 | []=>rfl
 |q::L=>by
  have ih:=zj2 s p L
  unfold zjn
  cases hq:getS s q with
  |none=>
   dsimp only
   rw[ih]
   by_cases e:p=q
   ·subst e;rw[hq];simp
   ·simp[e]
  |some d=>
   dsimp only
   rw[zcW,ih]
   by_cases e:q=p
   ·subst e;rw[if_pos rfl,hq];simp
   ·rw[if_neg e];simp[Ne.symm e]
theorem zj3 {L:List (List Bool)} {s:DS} {p:List Bool} {d:DV} (h:getS (zbu L s) p=some d):getS s p=some d∧(L=[]∨p∈L):=by
 cases L with
 |nil=>exact⟨h,.inl rfl⟩
 |cons q L=>
  have h:getS (zjn s (q::L)) p=some d:=h
  rw[zj2] at h
  split at h
  ·rename_i hm;exact⟨h,.inr hm⟩
  ·cases h
theorem SRel.keep {w:Wd} {s:DS} {t:zl} (h:SRel w s t) (L:List (List Bool)):SRel w (zbu L s) (zbi L t):=by
 intro p d hp
 obtain⟨h1,h2⟩:=zj3 hp
 obtain⟨v,hv,hr⟩:=h p d h1
 refine⟨v,?_,hr⟩
 cases L with
 |nil=>exact hv
 |cons q L=>
  show(zbt (q::L) t).get p=some v
  rw[zcq,if_pos (h2.resolve_left (by simp))];exact hv
def zi8 (w:Wd) (N:List (List Bool)) (s:DS) (t:zl):Prop:= ∀p∈N,∀d,getS s p=some d→ ∃v,t.get p=some v∧VRel w d v
theorem SRel.N {w:Wd} {s:DS} {t:zl} (h:SRel w s t) (N:List (List Bool)):zi8 w N s t:=fun p _ d e=>h p d e
theorem zi8.sub {w:Wd} {N N':List (List Bool)} {s:DS} {t:zl} (h:zi8 w N s t) (hs: ∀p∈N',p∈N):zi8 w N' s t:=fun p hp d e=>h p (hs p hp) d e
theorem zx {w:Wd} {s:DS} {t:zl} {x:CO} (h:zi8 w (zr x) s t) {d:DV} (hx:evD s x=some d): ∃v,x.ev t=some v∧VRel w d v:=by
 cases x with
 |t p=>exact h p (List.mem_singleton.2 rfl) d hx
 |c v=>exact⟨v,rfl,dOf_rel hx⟩
theorem zbK {w:Wd} {s:DS} {t:zl} (h:SRel w s t) {x:CO} {d:DV} (hx:evD s x=some d): ∃v,x.ev t=some v∧VRel w d v:=zx (h.N _) hx
theorem zdN {w:Wd} {s:DS} {t:zl}: ∀{l:List CO} {ds:List DV},zi8 w (l.flatMap zr) s t→evDL s l=some ds→ ∃vs,evL t l=some vs∧LRel w ds vs
 | [],ds,_,hx=>by cases hx;exact⟨[],rfl,.nil⟩
 |x::l,ds,h,hx=>by
  obtain⟨d,hd,hx⟩:=aof hx
  obtain⟨r,hr,rfl⟩:=amf hx
  obtain⟨v,hv,h1⟩:=zx (h.sub fun p hp=>by simp[hp]) hd
  obtain⟨vs,hvs,h2⟩:=zdN (h.sub fun p hp=>by rw[List.flatMap_cons];exact List.mem_append_right _ hp) hr
  exact⟨v::vs,by show(x.ev t).bind _=_;rw[hv];show(evL t l).map _=_;rw[hvs];rfl,.cons h1 h2⟩
theorem zhJ {w:Wd} {s:DS} {t:zl} (h:SRel w s t) {l:List CO} {ds:List DV} (hx:evDL s l=some ds): ∃vs,evL t l=some vs∧LRel w ds vs:=zdN (h.N _) hx
def ORelO (w:Wd):Option DV→Option Value→Prop
 |none,none=>True
 |some d,some v=>VRel w d v
 |_,_=>False
theorem zeP {w:Wd} {s:DS} {t:zl} {x:Option CO} (h:zi8 w (zdm x) s t) {d:Option DV} (hx:evDO s x=some d): ∃v,evO t x=some v∧ORelO w d v:=by
 cases x with
 |none=>cases hx;exact⟨none,rfl,trivial⟩
 |some x=>
  obtain⟨e,he,rfl⟩:=amf hx
  obtain⟨v,hv,hr⟩:=zx h he
  exact⟨some v,by show(x.ev t).map some=_;rw[hv];rfl,hr⟩
end Go.Ideal
namespace Go.Ideal
section
variable {rs:List (List DV)} {s:Nat}
theorem zV (h: ∀r∈rs,r.length=s):rs.flatten.length=rs.length*s:=by
 induction rs with
 |nil=>simp
 |cons r rs ih=>
  rw[List.flatten_cons,List.length_append,ih fun x hx=>h x (List.mem_cons_of_mem _ hx),h r (List.mem_cons_self ..),List.length_cons,Nat.succ_mul];omega
theorem zcY (h: ∀r∈rs,r.length=s) (n:Nat):(rs.drop n).flatten=rs.flatten.drop (n*s):=by
 induction rs generalizing n with
 |nil=>simp
 |cons r rs ih=>
  cases n with
  |zero=>simp
  |succ n=>
   have hr:=h r (List.mem_cons_self ..)
   rw[List.drop_succ_cons,ih fun x hx=>h x (List.mem_cons_of_mem _ hx),List.flatten_cons,Nat.succ_mul,List.drop_append,show r.drop (n*s+s)=[] from List.drop_of_length_le (by omega),List.nil_append]
   congr 1;omega
theorem zdL (h: ∀r∈rs,r.length=s) (n:Nat):(rs.take n).flatten=rs.flatten.take (n*s):=by
 induction rs generalizing n with
 |nil=>simp
 |cons r rs ih=>
  cases n with
  |zero=>simp
  |succ n=>
   have hr:=h r (List.mem_cons_self ..)
   rw[List.take_succ_cons,List.flatten_cons,ih fun x hx=>h x (List.mem_cons_of_mem _ hx),List.flatten_cons,Nat.succ_mul,List.take_append,show r.take (n*s+s)=r from List.take_of_length_le (by omega)]
   congr 2;omega
theorem flat_at (h: ∀r∈rs,r.length=s) {i:Nat} {r:List DV} (hi:rs[i]? =some r): ∃tl,rs.flatten.drop (i*s)=r++tl:=by
 rw[←zcY h,List.drop_eq_getElem_cons (List.getElem?_eq_some_iff.1 hi).1]
 obtain⟨h1,rfl⟩:=List.getElem?_eq_some_iff.1 hi
 exact⟨_,rfl⟩
end
theorem ze7: ∀{n:Nat} {l r:List DV},zdZ n l=some r→n≤l.length∧r=l.take n
 |0,l,r,h=>by cases h;exact⟨Nat.zero_le _,rfl⟩
 |n+1,[],r,h=>by cases h
 |n+1,a::l,r,h=>by
  obtain⟨r',hr,rfl⟩:=amf h
  obtain⟨h1,rfl⟩:=ze7 hr
  exact⟨by simp;omega,rfl⟩
theorem zdu {w:Wd}: ∀{l:List DV} {vs:List Value} {off:Nat} {xs:List DV} {us:List Value} {l':List DV},LRel w l vs→LRel w xs us→zR l off xs=some l'→ ∃vs',zbd vs off us=some vs'∧LRel w l' vs'
 |l,vs,off,[],us,l',h,hx,e=>by
  rw[hx.inv_nil]
  have:l'=l:=by cases l<;>cases off<;>cases e<;>rfl
  subst this
  exact⟨vs,by cases vs<;>cases off<;>rfl,h⟩
 | [],vs,off,x::xs,us,l',h,hx,e=>by cases off<;>cases e
 |c::l,vs,0,x::xs,us,l',h,hx,e=>by
  obtain⟨v,r,rfl,hv,hr⟩:=h.head
  obtain⟨u,us',rfl,hu,hus⟩:=hx.head
  obtain⟨l2,e2,rfl⟩:=amf (show(zR l 0 xs).map (x:: ·)=some l' from e)
  obtain⟨vs',e3,h3⟩:=zdu hr hus e2
  exact⟨u::vs',by show(zbd r 0 us').map (u:: ·)=_;rw[e3];rfl,.cons hu h3⟩
 |c::l,vs,n+1,x::xs,us,l',h,hx,e=>by
  obtain⟨v,r,rfl,hv,hr⟩:=h.head
  obtain⟨u,us',rfl,hu,hus⟩:=hx.head
  obtain⟨l2,e2,rfl⟩:=amf (show(zR l n (x::xs)).map (c:: ·)=some l' from e)
  obtain⟨vs',e3,h3⟩:=zdu hr hx e2
  exact⟨v::vs',by show(zbd r n (u::us')).map (v:: ·)=_;rw[e3];rfl,.cons hv h3⟩
theorem writeD_len {l:List DV} {off:Nat} {xs l':List DV} (h:zR l off xs=some l'):l'.length=l.length:=by
 induction l generalizing off xs l' with
 |nil=>
  cases xs with
  |nil=>cases off<;>cases h<;>rfl
  |cons=>cases off<;>cases h
 |cons c l ih=>
  cases xs with
  |nil=>cases off<;>cases h<;>rfl
  |cons x xs=>
   cases off with
   |zero=>obtain⟨l2,e2,rfl⟩:=amf (show(zR l 0 xs).map (x:: ·)=some l' from h);simp[ih e2]
   |succ n=>obtain⟨l2,e2,rfl⟩:=amf (show(zR l n (x::xs)).map (c:: ·)=some l' from h);simp[ih e2]
section
variable {w:Wd}
theorem zC {dflt y n:Nat} {d:Option DV} {v:Option Value} (h:zD dflt y d=some n) (hv:ORelO w d v):zbE dflt y v=some n:=by
 cases d with
 |none=>cases v with
  |none=>exact h
  |some=>exact hv.elim
 |some d=>cases v with
  |none=>exact hv.elim
  |some v=>
   unfold zD inD at h
   dsimp only at h
   split at h
   ·have hv:VRel w _ v:=hv
    rw[hv.inv_int]
    split at h
    ·rename_i m hle;cases h
     show inB (.ofNat _) y=_
     unfold inB;simp[hle]
    ·cases h
   ·cases h
theorem zb2 {y n dflt:Nat} {d:Option DV} (h:zD dflt y d=some n):n≤y∨(d=none∧n=dflt):=by
 unfold zD at h
 split at h
 ·cases h;exact .inr ⟨rfl,rfl⟩
 ·unfold inD at h
  split at h
  ·split at h
   ·cases h;exact .inl ‹_›
   ·cases h
  ·cases h
theorem sameLeafD_rel {x y:DV} {x' y':Value} {b:Bool} (h:zh8 x y=some b) (hx:VRel w x x') (hy:VRel w y y'):zf1 x' y'=some b:=by
 unfold zh8 at h
 split at h
 ·rw[hx.inv_int,hy.inv_int];exact h
 ·cases h
theorem zfC {xs ys:List DV} {vs us:List Value} (hx:LRel w xs vs) (hy:LRel w ys us): ∀{l:List Nat} {b:Bool},sameAtD xs ys l=some b→sameAt vs us l=some b
 | [],b,h=>h
 |i::r,b,h=>by
  obtain⟨x,h1,h⟩:=aof h
  obtain⟨y,h2,h⟩:=aof h
  obtain⟨c,h3,h⟩:=aof h
  obtain⟨e,h4,rfl⟩:=amf h
  obtain⟨x',g1,q1⟩:=hx.get h1
  obtain⟨y',g2,q2⟩:=hy.get h2
  unfold sameAt
  rw[g1,g2,Option.bind_some,Option.bind_some,sameLeafD_rel h3 q1 q2,Option.bind_some,zfC hx hy h4];rfl
theorem sameKD_rel {k:LK} {x y:DV} {x' y':Value} {b:Bool} (h:sameKD k x y=some b) (hx:VRel w x x') (hy:VRel w y y'):sameK k x' y'=some b:=by
 unfold sameKD at h
 split at h
 ·rw[hx.inv_int,hy.inv_int];exact h
 ·rw[hx.inv_bool,hy.inv_bool];exact h
 ·rw[hx.inv_str,hy.inv_str];exact h
 ·cases h
theorem zh9 {xs ys:List DV} {vs us:List Value} (hx:LRel w xs vs) (hy:LRel w ys us): ∀{l:List (Nat×LK)} {b:Bool},sameKsD xs ys l=some b→zdb vs us l=some b
 | [],b,h=>h
 |i::r,b,h=>by
  obtain⟨x,h1,h⟩:=aof h
  obtain⟨y,h2,h⟩:=aof h
  obtain⟨c,h3,h⟩:=aof h
  obtain⟨e,h4,rfl⟩:=amf h
  obtain⟨x',g1,q1⟩:=hx.get h1
  obtain⟨y',g2,q2⟩:=hy.get h2
  unfold zdb
  rw[g1,g2,Option.bind_some,Option.bind_some,sameKD_rel h3 q1 q2,Option.bind_some,zh9 hx hy h4];rfl
theorem eqD_rel {ek:EK} {x y:DV} {x' y':Value} {b:Bool} (h:eqD ek x y=some b) (hx:VRel w x x') (hy:VRel w y y'):eqV ek x' y'=some b:=by
 unfold eqD at h
 split at h
 case h_21=>
  obtain⟨vs,rfl,r1⟩:=hx.inv_agg;obtain⟨us,rfl,r2⟩:=hy.inv_agg
  exact zfC r1 r2 h
 case h_22=>
  obtain⟨vs,rfl,r1⟩:=hx.inv_agg;obtain⟨us,rfl,r2⟩:=hy.inv_agg
  exact zh9 r1 r2 h
 case h_23=>cases h
 all_goals (cases hx<;>cases hy<;>first|exact h| (cases h;rfl)| (cases h;cases ‹Bool› <;>rfl))
theorem binD_rel {op:BinOp} {ek:EK} {x y d:DV} {x' y':Value} (h:binD op ek x y=some d) (hx:VRel w x x') (hy:VRel w y y'): ∃v,binV op ek x' y'=some v∧VRel w d v:=by
 unfold binD at h
 split at h
 ·rw[hx.inv_int,hy.inv_int]
  obtain⟨v,hv,hd⟩:=aof h
  exact⟨v,hv,zhK hd⟩
 ·rw[hx.inv_str,hy.inv_str]
  obtain⟨v,hv,hd⟩:=aof h
  exact⟨v,hv,zhK hd⟩
 ·rename_i n1 n2
  have e:eqlV ek x' y' op=binV op ek x' y':=by
   unfold binV
   split
   ·cases hx;cases hy;exact absurd rfl (n1 _ _ _ _ rfl)
   ·cases hx;cases hy;exact absurd rfl (n2 _ _ rfl)
   ·rfl
  rw[←e]
  unfold eqlD at h
  split at h
  ·obtain⟨b,hb,rfl⟩:=amf h
   exact⟨.bool b,by show(eqV ek x' y').map _=_;rw[eqD_rel hb hx hy];rfl,.bool _⟩
  ·obtain⟨b,hb,rfl⟩:=amf h
   exact⟨.bool !b,by show(eqV ek x' y').map _=_;rw[eqD_rel hb hx hy];rfl,.bool _⟩
  ·cases h
theorem unD_rel {op:UnOp} {x d:DV} {x':Value} (h:unD op x=some d) (hx:VRel w x x'): ∃v,unV op x'=some v∧VRel w d v:=by
 unfold unD at h
 split at h
 ·cases h;rw[hx.inv_int];exact⟨_,rfl,.int _ _⟩
 ·cases h;rw[hx.inv_bool];exact⟨_,rfl,.bool _⟩
 ·cases h
theorem convD_rel {k:IntKind} {x d:DV} {x':Value} (h:convD k x=some d) (hx:VRel w x x'): ∃v,convV k x'=some v∧VRel w d v:=by
 unfold convD at h
 split at h
 ·cases h;rw[hx.inv_int];exact⟨_,rfl,.int _ _⟩
 ·cases h
theorem zdc {kk:KK} {x y:DV} {x' y':Value} {b:Bool} (h:zb6 kk x y=some b) (hx:VRel w x x') (hy:VRel w y y'):zbX kk x' y'=some b:=by
 unfold zb6 at h
 split at h
 ·rw[hx.inv_str,hy.inv_str];exact h
 ·rw[hx.inv_int,hy.inv_int];exact h
 ·obtain⟨vs,rfl,r1⟩:=hx.inv_agg;obtain⟨us,rfl,r2⟩:=hy.inv_agg
  exact zfC r1 r2 h
 ·cases h
theorem zfI {m:Bool}: ∀{l:List DV} {x d:DV} {x':Value} {vs:List Value},zcx m x l=some d→VRel w x x'→LRel w l vs→ ∃v,zde m x' vs=some v∧VRel w d v
 | [],x,d,x',vs,h,hx,hl=>by
   rw[hl.inv_nil]
   have:d=x:=by unfold zcx at h;cases x<;>cases h<;>rfl
   subst this
   exact⟨x',by unfold zde;cases x'<;>rfl,hx⟩
 |y::l,x,d,x',vs,h,hx,hl=>by
  obtain⟨y',r,rfl,hy,hr⟩:=hl.head
  unfold zcx at h
  split at h
  ·cases ‹_::_=[]›
  ·rename_i e;cases e
   split at h
   ·rename_i hk
    subst hk
    rw[hx.inv_int,hy.inv_int]
    obtain⟨v,hv,hd⟩:=zfI h (.int _ _) hr
    exact⟨v,by unfold zde;rw[if_pos rfl];exact hv,hd⟩
   ·cases h
  ·cases h
theorem zjW {s:DS} {t:zl}: ∀{ps:List (Nat×Nat×CO)} {l:List (Nat×Nat×DV)},zi8 w (ps.flatMap fun p=>zr p.2.2) s t→zf7 s ps=some l→
 ∃l',zeh t ps=some l'∧l'.map (fun x=>(x.1,x.2.1))=l.map (fun x=>(x.1,x.2.1))∧LRel w (l.map fun x=>x.2.2) (l'.map fun x=>x.2.2)
 | [],l,_,h=>by cases h;exact⟨[],rfl,rfl,.nil⟩
 | (o,n,x)::ps,l,hs,h=>by
   obtain⟨d,hd,h⟩:=aof h
   obtain⟨r,hr,rfl⟩:=amf h
   obtain⟨v,hv,h1⟩:=zx (hs.sub fun p hp=>by simp[hp]) hd
   obtain⟨r',hr',e,h2⟩:=zjW (hs.sub fun p hp=>by rw[List.flatMap_cons];exact List.mem_append_right _ hp) hr
   exact⟨(o,n,v)::r',by unfold zeh;rw[hv,Option.bind_some,hr'];rfl,by simp[e],.cons h1 h2⟩
theorem fillD_rel: ∀{l:List (Nat×Nat×DV)} {l':List (Nat×Nat×Value)} {cs cs':List DV} {vs:List Value},LRel w cs vs→l'.map (fun x=>(x.1,x.2.1))=l.map (fun x=>(x.1,x.2.1))→LRel w (l.map fun x=>x.2.2) (l'.map fun x=>x.2.2)→zgV cs l=some cs'→
 ∃vs',zhv vs l'=some vs'∧LRel w cs' vs'
 | [],l',cs,cs',vs,hc,e,_,h=>by
   cases h
   cases l' with
   |nil=>exact⟨vs,rfl,hc⟩
   |cons=>cases e
 | (o,n,x)::l,[],cs,cs',vs,hc,e,_,h=>by cases e
 | (o,n,x)::l,(o',n',x')::l',cs,cs',vs,hc,e,hl,h=>by
   simp only[List.map_cons,List.cons.injEq,Prod.mk.injEq] at e hl
   obtain⟨⟨rfl,rfl⟩,e⟩:=e
   obtain⟨x2,r2,e2,hx,hr⟩:=hl.head
   cases e2
   unfold zgV at h
   split at h
   ·rename_i hc1
    obtain⟨c1,h1,h⟩:=aof h
    obtain⟨v1,h2,h3⟩:=zdu hc hx.cells h1
    obtain⟨vs',h4,h5⟩:=fillD_rel h3 e hr h
    refine⟨vs',?_,h5⟩
    unfold zhv
    rw[if_pos (by simp[←hx.cells.len,hc1.1,hc1.2.1]),h2,Option.bind_some,h4]
   ·cases h
theorem offD_rel {n:Nat} {x d:DV} {x':Value} (h:offD n x=some d) (hx:VRel w x x'): ∃a,x'=.pointer (some a)∧VRel w d (.pointer (some ⟨a.block,a.off+n,none⟩)):=by
 unfold offD at h
 split at h
 ·cases h
  cases hx with
  |pl hz hs hb h=>refine⟨_,rfl,?_⟩;dsimp only;rw[Nat.add_assoc,Nat.add_assoc,←Nat.add_assoc];exact VRel.pl hz hs hb h
 ·cases h
  cases hx with
  |ptr h=>exact⟨_,rfl,(Nat.add_assoc _ _ _).symm▸VRel.ptr h⟩
 ·cases h
def MTy (w:Wd) (M:VM):Prop:= ∀j R op sz rs,M.obj j=some (.rows op sz rs)→w.rho j=some R→sz=R.sz∧op=R.op
theorem addrD_rel {M:VM} (hm:MTy w M) {size:Nat} {i x d:DV} {i' x':Value} (h:zjz size M i x=some d) (hi:VRel w i i') (hx:VRel w x x'): ∃v,zhb size x' i'=some v∧VRel w d v:=by
 cases x with
 |lst s rows=>
  unfold zjz at h
  dsimp only at h
  split at h
  ·split at h
   ·rename_i hc
    obtain⟨rfl,hlt⟩:=hc
    cases h
    rw[hi.inv_int]
    cases hx with
    |lst hz hs hb h ho hc hn=>
     subst hn
     refine⟨_,?_,.pl hz hs hb h⟩
     unfold zhb;simp[hlt]
    |lst0=>simp at hlt
   ·cases h
  ·cases h
 |ms j lo len cap=>
  unfold zjz at h
  dsimp only at h
  obtain⟨o,ho,h1⟩:=aof h
  clear h
  cases o with
  |rows op sz rs=>
   cases i with
   |int k n=>
    cases n with
    |ofNat i=>
     dsimp only at h1
     split at h1
     ·rename_i hc
      obtain⟨rfl,hlt⟩:=hc
      cases h1
      rw[hi.inv_int]
      cases hx with
      | @ms _ _ _ _ R hr _ _=>
        obtain⟨rfl,-⟩:=hm _ R _ _ _ ho hr
        have:=VRel.ptr (i:=lo+i) (off:=0) hr
        refine⟨_,?_,this⟩
        unfold zhb;simp[hlt,Nat.add_mul]
     ·cases h1
    |negSucc=>cases h1
   |_=>cases h1
  |_=>cases h1
 |_=>cases h
theorem arrD_rel {n size:Nat} {i x d:DV} {i' x':Value} (h:arrD n size i x=some d) (hi:VRel w i i') (hx:VRel w x x'): ∃v,zcU n size x' i'=some v∧VRel w d v:=by
 unfold arrD at h
 split at h
 ·split at h
  ·rename_i hlt
   obtain⟨a,rfl,hd⟩:=offD_rel h hx
   rw[hi.inv_int]
   exact⟨_,by unfold zcU;simp[hlt],hd⟩
  ·cases h
 ·cases h
theorem nilD_rel {x d:DV} {x':Value} (h:nilD x=some d) (hx:VRel w x x'): ∃v,nilV x'=some v∧VRel w d v:=by
 unfold nilD at h
 split at h<;>cases h<;>(refine⟨x',?_,hx⟩)<;>cases hx<;>rfl
theorem assertD_rel {t:TypeId} {z x d:DV} {ok:Bool} {x' z':Value} (h:ze1 t z ok x=some d) (hx:VRel w x x') (hz:VRel w z z'): ∃v,zgX t z' ok x'=some v∧VRel w d v:=by
 unfold ze1 at h
 split at h
 ·rename_i u y
  cases hx with
  |ifc _ hv=>
   unfold zgX
   dsimp only
   split at h<;>rename_i e1
   ·cases h;rw[e1];exact⟨_,rfl,.tup_of (.cons hv (.cons (.bool _) .nil))⟩
   ·cases h;rw[e1];exact⟨_,rfl,hv⟩
   ·cases h;rw[e1];exact⟨_,rfl,.tup_of (.cons hz (.cons (.bool _) .nil))⟩
   ·cases h
 ·split at h
  ·cases h;cases hx;exact⟨_,rfl,.tup_of (.cons hz (.cons (.bool _) .nil))⟩
  ·cases h
 ·cases h
end
end Go.Ideal
namespace Go.Ideal
structure RowsRel (w:Wd) (R:RBd) (op:Bool) (sz:Nat) (rs:List (List DV)) (cs:List Value) (e:Nat):Prop where
 hop:op=R.op
 hsz:sz=R.sz
 esz:e=if op=true then sz else 0
 pos:op=true→0<sz∧sz<roE
 row: ∀r∈rs,r.length=sz
 rel:LRel w rs.flatten cs
structure MapRel (w:Wd) (es:List (DV×DV)) (es':List (Value×Value×Nat)):Prop where
 keys:LRel w (es.map Prod.fst) (es'.map Prod.fst)
 vals:LRel w (es.map Prod.snd) (es'.map fun x=>x.2.1)
inductive zgx (w:Wd) (R:RBd):MO→IObj→Prop where
 |rows {op:Bool} {sz:Nat} {rs:List (List DV)} {cs:List Value} {e:Nat} (h:RowsRel w R op sz rs cs e):zgx w R (.rows op sz rs) (.cells cs e)
 |map {es:List (DV×DV)} {es':List (Value×Value×Nat)} {c:Nat} (h:MapRel w es es'):zgx w R (.map es) (.map es' c)
 |loop {st:LoopState} {pend:Option CC} {sl:DS} {sl':zl} {rc:RC} (h:SRel w sl sl'):zgx w R (.loop st pend sl rc) (.loop st pend sl' rc)
theorem zgx.mono {w w':Wd} (hl:w.Le w') {R:RBd} {o:MO} {e:IObj} (h:zgx w R o e):zgx w' R o e:=by
 cases h with
 |rows h=>exact .rows ⟨h.hop,h.hsz,h.esz,h.pos,h.row,h.rel.mono hl⟩
 |map h=>exact .map ⟨h.keys.mono hl,h.vals.mono hl⟩
 |loop h=>exact .loop (h.mono hl)
structure HRel (w:Wd) (M:VM) (h:H):Prop where
 wf: ∀j o st,M.get j=some (o,st)→j<M.next∧st<M.next∧ ∃R,w.rho j=some R
 dom: ∀j R,w.rho j=some R→j<M.next∧R.blk<h.next
 zd: ∀b z,w.Z b=some z→b<h.next∧h.get b=some (.cells z.1 z.2)
 obj: ∀j o st R,M.get j=some (o,st)→w.rho j=some R→w.Z R.blk=none∧ ∃e,h.get R.blk=some e∧zgx w R o e
 inj: ∀i j R S,w.rho i=some R→w.rho j=some S→(M.get i).isSome=true→(M.get j).isSome=true→R.blk=S.blk→i=j
structure Hist (w0:Wd) (M0:VM) (h0:H) (w:Wd) (M:VM) (h:H):Prop where
 le:w0.Le w
 nxt:M0.next≤M.next
 hnx:h0.next≤h.next
 old: ∀j o st,M.get j=some (o,st)→M0.get j=some (o,st)∨M0.next≤st
 same: ∀j x R,M0.get j=some x→M.get j=some x→w0.rho j=some R→h.get R.blk=h0.get R.blk
 own: ∀j R,w.rho j=some R→w0.rho j=some R∨h0.next≤R.blk
 rest: ∀b,b<h0.next→(∀j R,w0.rho j=some R→R.blk≠b)→h.get b=h0.get b
theorem Hist.refl (w:Wd) (M:VM) (h:H):Hist w M h w M h:=⟨.refl _,Nat.le_refl _,Nat.le_refl _,fun _ _ _ e=>.inl e,fun _ _ _ _ _ _=>rfl,fun _ _ e=>.inl e,fun _ _ _=>rfl⟩
theorem Hist.trans {w0 w1 w2:Wd} {M0 M1 M2:VM} {h0 h1 h2:H} (h:HRel w0 M0 h0) (a:Hist w0 M0 h0 w1 M1 h1) (b:Hist w1 M1 h1 w2 M2 h2):Hist w0 M0 h0 w2 M2 h2 where
 le:=a.le.trans b.le
 nxt:=Nat.le_trans a.nxt b.nxt
 hnx:=Nat.le_trans a.hnx b.hnx
 old:=fun j o st e=>by
  rcases b.old j o st e with e1|e1
  ·exact a.old j o st e1
  ·exact .inr (Nat.le_trans a.nxt e1)
 same:=fun j x R e0 e2 hR=>by
  obtain⟨o,st⟩:=x
  have hst:=(h.wf j o st e0).2.1
  have e1:M1.get j=some (o,st):=by
   rcases b.old j o st e2 with e1|e1
   ·exact e1
   ·have:=a.nxt;omega
  rw[b.same j _ R e1 e2 (a.le.rho _ _ hR),a.same j _ R e0 e1 hR]
 own:=fun j R e=>by
  rcases b.own j R e with e1|e1
  ·exact a.own j R e1
  ·exact .inr (Nat.le_trans a.hnx e1)
 rest:=fun x hx hn=>by
  rw[b.rest x (Nat.lt_of_lt_of_le hx a.hnx) fun j R e eb=> ?_,a.rest x hx hn]
  rcases a.own j R e with e1|e1
  ·exact hn j R e1 eb
  ·omega
theorem get_new (M:VM) (o:MO) (i:Nat):(M.new o).get i=if i=M.next then some (o,M.next) else M.get i:=rfl
theorem get_put (M:VM) (j:Nat) (o:MO) (i:Nat):(M.put j o).get i=if i=j then some (o,M.next) else M.get i:=rfl
theorem get_del (M:VM) (j:Nat) (i:Nat):(M.del j).get i=if i=j then none else M.get i:=rfl
theorem zbw {M:VM} {j:Nat} {o:MO} (h:M.obj j=some o): ∃st,M.get j=some (o,st):=by
 obtain⟨⟨o',st⟩,h1,rfl⟩:=amf h;exact⟨st,h1⟩
theorem HRel.ty {w:Wd} {M:VM} {h:H} (hr:HRel w M h):MTy w M:=fun j R op sz rs ho hR=>by
 obtain⟨st,hg⟩:=zbw ho
 obtain⟨-,e,-,hr⟩:=hr.obj j _ st R hg hR
 cases hr with
 |rows h=>exact⟨h.hsz,h.hop⟩
def Wd.add (w:Wd) (j:Nat) (R:RBd):Wd:=⟨fun i=>if i=j then some R else w.rho i,w.Z⟩
theorem Wd.add_le {w:Wd} {j:Nat} {R:RBd} (h:w.rho j=none):w.Le (w.add j R):=⟨fun i S e=>by
 show(if i=j then some R else w.rho i)=_
 by_cases hi:i=j
 ·subst hi;rw[h] at e;cases e
 ·rw[if_neg hi];exact e,fun _ _ e=>e⟩
section
variable {w:Wd} {M:VM} {h:H} (hr:HRel w M h)
include hr
theorem HRel.rho_none {j:Nat} (hj:M.next≤j):w.rho j=none:=by
 cases e:w.rho j with
 |none=>rfl
 |some R=>have:=(hr.dom j R e).1;omega
theorem HRel.new {o:MO} {e:IObj} {sz:Nat} {op:Bool} (ho:zgx (w.add M.next ⟨h.next,sz,op⟩) ⟨h.next,sz,op⟩ o e):
 HRel (w.add M.next ⟨h.next,sz,op⟩) (M.new o) (h.new e)∧Hist w M h (w.add M.next ⟨h.next,sz,op⟩) (M.new o) (h.new e):=by
 have hn:=hr.rho_none (Nat.le_refl M.next)
 have hle:=Wd.add_le (R:=⟨h.next,sz,op⟩) hn
 have rho_add: ∀j R,(w.add M.next ⟨h.next,sz,op⟩).rho j=some R→(j=M.next∧R=⟨h.next,sz,op⟩)∨(j≠M.next∧w.rho j=some R):=fun j R e=>by
  have e:(if j=M.next then some _ else w.rho j)=some R:=e
  by_cases hj:j=M.next
  ·rw[if_pos hj] at e;cases e;exact .inl ⟨hj,rfl⟩
  ·rw[if_neg hj] at e;exact .inr ⟨hj,e⟩
 have gnew: ∀b,b<h.next→(h.new e).get b=h.get b:=fun b hb=>by rw[H.get_new,if_neg (by omega)]
 constructor
 ·constructor
  ·intro j o' st e'
   rw[get_new] at e'
   by_cases hj:j=M.next
   ·rw[if_pos hj] at e';cases e'
    exact⟨by show j<M.next+1;omega,Nat.lt_succ_self _,⟨h.next,sz,op⟩,by show(if j=M.next then _ else _)=_;rw[if_pos hj]⟩
   ·rw[if_neg hj] at e'
    obtain⟨h1,h2,R,h3⟩:=hr.wf j o' st e'
    exact⟨Nat.lt_succ_of_lt h1,Nat.lt_succ_of_lt h2,R,hle.rho _ _ h3⟩
  ·intro j R e'
   rcases rho_add j R e' with⟨rfl,rfl⟩| ⟨hj,e'⟩
   ·exact⟨Nat.lt_succ_self _,Nat.lt_succ_self _⟩
   ·have:=hr.dom j R e';exact⟨Nat.lt_succ_of_lt this.1,Nat.lt_succ_of_lt this.2⟩
  ·intro b z hz
   have:=hr.zd b z hz
   exact⟨Nat.lt_succ_of_lt this.1,by rw[gnew b this.1];exact this.2⟩
  ·intro j o' st R e' hR
   rw[get_new] at e'
   rcases rho_add j R hR with⟨rfl,rfl⟩| ⟨hj,hR⟩
   ·rw[if_pos rfl] at e';cases e'
    refine⟨?_,e,by rw[H.get_new,if_pos rfl],ho⟩
    show w.Z h.next=none
    cases hz:w.Z h.next with
    |none=>rfl
    |some z=>have:=(hr.zd _ z hz).1;omega
   ·rw[if_neg hj] at e'
    obtain⟨h1,e2,h2,h3⟩:=hr.obj j o' st R e' hR
    exact⟨h1,e2,by rw[gnew _ (hr.dom j R hR).2];exact h2,h3.mono hle⟩
  ·intro i j R S hi hj ai aj eb
   rcases rho_add i R hi with⟨rfl,rfl⟩| ⟨ni,hi⟩
   ·rcases rho_add j S hj with⟨rfl,rfl⟩| ⟨nj,hj⟩
    ·rfl
    ·have:=(hr.dom j S hj).2;simp only at eb;omega
   ·rcases rho_add j S hj with⟨rfl,rfl⟩| ⟨nj,hj⟩
    ·have:=(hr.dom i R hi).2;simp only at eb;omega
    ·rw[get_new,if_neg ni] at ai;rw[get_new,if_neg nj] at aj
     exact hr.inj i j R S hi hj ai aj eb
 ·refine⟨hle,Nat.le_succ _,Nat.le_succ _,fun j o' st e'=> ?_,fun j x R e0 e1 hR=>gnew _ (hr.dom j R hR).2,fun j R e'=> ?_,fun b hb _=>gnew b hb⟩
  ·rw[get_new] at e'
   by_cases hj:j=M.next
   ·rw[if_pos hj] at e';cases e';exact .inr (Nat.le_refl _)
   ·rw[if_neg hj] at e';exact .inl e'
  ·rcases rho_add j R e' with⟨rfl,rfl⟩| ⟨hj,e'⟩
   ·exact .inr (Nat.le_refl _)
   ·exact .inl e'
theorem HRel.put {j:Nat} {x:MO×Nat} {R:RBd} (hj:M.get j=some x) (hR:w.rho j=some R) {o:MO} {e:IObj} (ho:zgx w R o e):HRel w (M.put j o) (h.put R.blk e)∧Hist w M h w (M.put j o) (h.put R.blk e):=by
 obtain⟨o0,st0⟩:=x
 obtain⟨hz,e0,he0,-⟩:=hr.obj j o0 st0 R hj hR
 have gput: ∀b,b≠R.blk→(h.put R.blk e).get b=h.get b:=fun b hb=>by rw[H.get_put,if_neg (Ne.symm hb)]
 have hlt:=(hr.dom j R hR)
 constructor
 ·constructor
  ·intro i o' st e'
   rw[get_put] at e'
   by_cases hi:i=j
   ·rw[if_pos hi] at e';cases e';subst hi
    exact⟨Nat.lt_succ_of_lt hlt.1,Nat.lt_succ_self _,R,hR⟩
   ·rw[if_neg hi] at e'
    obtain⟨h1,h2,h3⟩:=hr.wf i o' st e'
    exact⟨Nat.lt_succ_of_lt h1,Nat.lt_succ_of_lt h2,h3⟩
  ·intro i S e';have:=hr.dom i S e';exact⟨Nat.lt_succ_of_lt this.1,this.2⟩
  ·intro b z hb
   have:=hr.zd b z hb
   exact⟨this.1,by rw[gput b (fun e=>by subst e;rw[hz] at hb;cases hb)];exact this.2⟩
  ·intro i o' st S e' hS
   rw[get_put] at e'
   by_cases hi:i=j
   ·rw[if_pos hi] at e';cases e';subst hi
    rw[hR] at hS;cases hS
    exact⟨hz,e,by rw[H.get_put,if_pos rfl],ho⟩
   ·rw[if_neg hi] at e'
    obtain⟨h1,e2,h2,h3⟩:=hr.obj i o' st S e' hS
    refine⟨h1,e2,?_,h3⟩
    rw[gput _ fun eb=>hi (hr.inj i j S R hS hR (by rw[e'];rfl) (by rw[hj];rfl) eb)];exact h2
  ·intro a b A B ha hb la lb eb
   refine hr.inj a b A B ha hb ?_ ?_ eb
   ·rw[get_put] at la;by_cases hi:a=j
    ·rw[hi,hj];rfl
    ·rwa [if_neg hi] at la
   ·rw[get_put] at lb;by_cases hi:b=j
    ·rw[hi,hj];rfl
    ·rwa [if_neg hi] at lb
 ·refine⟨.refl _,Nat.le_succ _,Nat.le_refl _,fun i o' st e'=> ?_,fun i x S e1 e2 hS=> ?_,fun i S e'=>.inl e',fun b hb hn=>gput b fun e=>hn j R hR e.symm⟩
  ·rw[get_put] at e'
   by_cases hi:i=j
   ·rw[if_pos hi] at e';cases e';exact .inr (Nat.le_refl _)
   ·rw[if_neg hi] at e';exact .inl e'
  ·rw[get_put] at e2
   by_cases hi:i=j
   ·rw[if_pos hi] at e2;cases e2
    have:=(hr.wf i _ _ e1).2.1;omega
   ·refine gput _ fun eb=>hi (hr.inj i j S R hS hR (by rw[e1];rfl) (by rw[hj];rfl) eb)
theorem HRel.kill {j:Nat} {x:MO×Nat} {R:RBd} (hj:M.get j=some x) (hR:w.rho j=some R) (e:IObj):HRel w (M.del j) (h.put R.blk e)∧Hist w M h w (M.del j) (h.put R.blk e):=by
 obtain⟨o0,st0⟩:=x
 obtain⟨hz,e0,he0,-⟩:=hr.obj j o0 st0 R hj hR
 have gput: ∀b,b≠R.blk→(h.put R.blk e).get b=h.get b:=fun b hb=>by rw[H.get_put,if_neg (Ne.symm hb)]
 have dl: ∀i x,(M.del j).get i=some x→i≠j∧M.get i=some x:=fun i x e'=>by
  rw[get_del] at e'
  by_cases hi:i=j
  ·rw[if_pos hi] at e';cases e'
  ·rw[if_neg hi] at e';exact⟨hi,e'⟩
 constructor
 ·constructor
  ·intro i o' st e';exact hr.wf i o' st (dl _ _ e').2
  ·intro i S e';exact hr.dom i S e'
  ·intro b z hb
   have:=hr.zd b z hb
   exact⟨this.1,by rw[gput b (fun e=>by subst e;rw[hz] at hb;cases hb)];exact this.2⟩
  ·intro i o' st S e' hS
   obtain⟨hi,e'⟩:=dl _ _ e'
   obtain⟨h1,e2,h2,h3⟩:=hr.obj i o' st S e' hS
   exact⟨h1,e2,by rw[gput _ fun eb=>hi (hr.inj i j S R hS hR (by rw[e'];rfl) (by rw[hj];rfl) eb)];exact h2,h3⟩
  ·intro a b A B ha hb la lb eb
   obtain⟨xa,ea⟩:=Option.isSome_iff_exists.1 la
   obtain⟨xb,ebb⟩:=Option.isSome_iff_exists.1 lb
   exact hr.inj a b A B ha hb (by rw[(dl _ _ ea).2];rfl) (by rw[(dl _ _ ebb).2];rfl) eb
 ·refine⟨.refl _,Nat.le_refl _,Nat.le_refl _,fun i o' st e'=>.inl (dl _ _ e').2,fun i x S e1 e2 hS=> ?_,fun i S e'=>.inl e',fun b hb hn=>gput b fun e=>hn j R hR e.symm⟩
  exact gput _ fun eb=>(dl _ _ e2).1 (hr.inj i j S R hS hR (by rw[e1];rfl) (by rw[hj];rfl) eb)
theorem HRel.newZ (cs:List Value) (e:Nat):HRel ⟨w.rho,fun b=>if b=h.next then some (cs,e) else w.Z b⟩ M (h.new (.cells cs e))∧Hist w M h ⟨w.rho,fun b=>if b=h.next then some (cs,e) else w.Z b⟩ M (h.new (.cells cs e)):=by
 have gnew: ∀b,b<h.next→(h.new (.cells cs e)).get b=h.get b:=fun b hb=>by rw[H.get_new,if_neg (by omega)]
 have hle:w.Le ⟨w.rho,fun b=>if b=h.next then some (cs,e) else w.Z b⟩:=⟨fun _ _ e=>e,fun b z hz=>by
  show(if b=h.next then _ else _)=_
  rw[if_neg (by have:=(hr.zd b z hz).1;omega)];exact hz⟩
 constructor
 ·constructor
  ·exact hr.wf
  ·intro j R e';have:=hr.dom j R e';exact⟨this.1,Nat.lt_succ_of_lt this.2⟩
  ·intro b z hz
   have hz:(if b=h.next then some (cs,e) else w.Z b)=some z:=hz
   by_cases hb:b=h.next
   ·rw[if_pos hb] at hz;cases hz;subst hb
    exact⟨Nat.lt_succ_self _,by rw[H.get_new,if_pos rfl]⟩
   ·rw[if_neg hb] at hz
    have:=hr.zd b z hz
    exact⟨Nat.lt_succ_of_lt this.1,by rw[gnew b this.1];exact this.2⟩
  ·intro j o st R e' hR
   obtain⟨h1,e2,h2,h3⟩:=hr.obj j o st R e' hR
   have hb:=(hr.dom j R hR).2
   refine⟨?_,e2,by rw[gnew _ hb];exact h2,h3.mono hle⟩
   show(if R.blk=h.next then _ else _)=_
   rw[if_neg (by omega)];exact h1
  ·exact hr.inj
 ·exact⟨hle,Nat.le_refl _,Nat.le_succ _,fun j o st e'=>.inl e',fun j x R e0 e1 hR=>gnew _ (hr.dom j R hR).2,fun j R e'=>.inl e',fun b hb _=>gnew b hb⟩
end
end Go.Ideal
namespace Go.Ideal
theorem takeC_app {us tl:List Value} {n:Nat} (hn:n≤us.length) (hc:us.all clean1=true):zhV n (us++tl)=some (us.take n):=by
 unfold zhV
 rw[zc8,if_pos (by simp;omega),Option.bind_some,List.take_append_of_le_length hn]
 unfold cleanL
 rw[if_pos]
 rw[List.all_eq_true] at hc⊢
 exact fun x hx=>hc x (List.mem_of_mem_take hx)
section
variable {w:Wd} {M:VM} {h:H}
def RdB (w:Wd) (js:List Nat) (b:Nat):Prop:=(∃j R,j∈js∧w.rho j=some R∧R.blk=b)∨(w.Z b).isSome=true
theorem zie (hr:HRel w M h) {d:DV} {r:List DV} {v:Value} (hd:zcC M d=some r) (hv:VRel w d v):
 ∃b off cs e us tl,v=.pointer (some ⟨b,off,none⟩)∧h.get b=some (.cells cs e)∧RdB w (refD d) b∧cs.drop off=us++tl∧LRel w r us:=by
 cases hv with
 | @pl b o s e i off cs rows hz hs hb hk=>
   obtain⟨r0,h0,rfl⟩:=amf (show(rows[i]?).map (fun r=>r.drop off)=some r from hd)
   have hl:=zV hs
   have hR:LRel w rows.flatten ((cs.drop o).take rows.flatten.length):=⟨by rw[List.length_take,List.length_drop];omega,fun k d v a b=>by
    rw[List.getElem?_take] at b
    split at b
    ·rw[List.getElem?_drop] at b;exact hk k d v a b
    ·cases b⟩
   have hsplit:=(List.take_append_drop rows.flatten.length (cs.drop o)).symm
   obtain⟨tl,ht⟩:=flat_at hs h0
   have h1:=hR.drop (i*s+off)
   have hlen0:=hs r0 (List.mem_of_getElem? h0)
   rw[←List.drop_drop,ht,List.drop_append] at h1
   have h2:=h1.take (r0.drop off).length
   rw[List.take_left] at h2
   refine⟨b,o+i*s+off,cs,e,_,(((cs.drop o).take rows.flatten.length).drop (i*s+off)).drop (r0.drop off).length++(cs.drop o).drop (max rows.flatten.length (i*s+off)),rfl,(hr.zd _ _ hz).2,.inr (by rw[hz];rfl),?_,h2⟩
   rw[←List.append_assoc,List.take_append_drop]
   rw[show o+i*s+off=o+(i*s+off) by omega,←List.drop_drop]
   conv=>lhs;rw[hsplit]
   rw[List.drop_append,List.drop_drop,List.length_take]
   congr 1
   rcases Nat.le_total rows.flatten.length (i*s+off) with hle|hle
   ·rw[Nat.max_eq_right hle]
    have:min rows.flatten.length (cs.drop o).length=rows.flatten.length:=by rw[List.length_drop];omega
    rw[this,List.drop_drop,List.drop_drop];congr 1;omega
   ·rw[Nat.max_eq_left hle]
    have:min rows.flatten.length (cs.drop o).length=rows.flatten.length:=by rw[List.length_drop];omega
    rw[this,Nat.sub_eq_zero_of_le hle];simp
 | @ptr j i off R hR=>
   obtain⟨o,ho,hd⟩:=aof (show(M.obj j).bind _=some r from hd)
   obtain⟨st,hg⟩:=zbw ho
   obtain⟨hz,e,he,hro⟩:=hr.obj j o st R hg hR
   cases hro with
   | @rows op sz rs cs e' hrows=>
     obtain⟨r0,h0,rfl⟩:=amf (show(rs[i]?).map (fun r=>r.drop off)=some r from hd)
     have hs:=hrows.row
     obtain⟨tl,ht⟩:=flat_at hs h0
     have h1:=hrows.rel.drop (i*sz+off)
     rw[←List.drop_drop,ht,List.drop_append] at h1
     have h2:=h1.take (r0.drop off).length
     rw[List.take_left] at h2
     refine⟨R.blk,i*R.sz+off,cs,e',_,(cs.drop (i*sz+off)).drop (r0.drop off).length,rfl,he,.inl ⟨j,R,List.mem_singleton.2 rfl,hR,rfl⟩,?_,h2⟩
     rw[←hrows.hsz,List.take_append_drop]
   |map=>cases hd
   |loop=>cases hd
 |_=>cases hd
theorem ze9 {b off:Nat} {cs us tl:List Value} {e n:Nat} (hg:h.get b=some (.cells cs e)) (hs:cs.drop off=us++tl) (hn:n≤us.length) (hc:us.all clean1=true):h.readN b off n=some (us.take n):=by
 unfold H.readN
 rw[hg,Option.bind_some]
 show zhV n (zds off cs)=_
 rw[zbV,hs,takeC_app hn hc]
theorem zka (hr:HRel w M h) {d:DV} {rows:List (List DV)} {size:Nat} {v:Value} (hd:zgo M size d=some rows) (hv:VRel w d v):
 ∃base cap,v=.slice base rows.length cap∧(∀r∈rows,r.length=size)∧(rows=[]∨ ∃b o cs e us tl,base=some ⟨b,o,none⟩∧h.get b=some (.cells cs e)∧RdB w (refD d) b∧cs.drop o=us++tl∧LRel w rows.flatten us):=by
 cases hv with
 |nilS=>cases hd;exact⟨none,0,rfl,by simp,.inl rfl⟩
 | @lst b o s n cap e cs rows' hz hs hb hk hO hC hn=>
   have hd:(if s=size then some rows' else none)=some rows:=hd
   split at hd
   ·rename_i hsz;cases hd;subst hsz;subst hn
    refine⟨_,cap,rfl,hs,.inr ⟨b,o,cs,e,(cs.drop o).take rows.flatten.length,(cs.drop o).drop rows.flatten.length,rfl,(hr.zd _ _ hz).2,.inr (by rw[hz];rfl),(List.take_append_drop _ _).symm,?_⟩⟩
    have hl:=zV hs
    exact⟨by rw[List.length_take,List.length_drop];omega,fun k d v a b=>by
     rw[List.getElem?_take] at b
     split at b
     ·rw[List.getElem?_drop] at b;exact hk k d v a b
     ·cases b⟩
   ·cases hd
 | @lst0 s cap base hc _=>
   have hd:(if s=size then some [] else none)=some rows:=hd
   split at hd
   ·cases hd;exact⟨base,cap,rfl,by simp,.inl rfl⟩
   ·cases hd
 | @ms j lo len cap R hR hO hC=>
   obtain⟨o,ho,hd⟩:=aof (show(M.obj j).bind _=some rows from hd)
   obtain⟨st,hg⟩:=zbw ho
   obtain⟨hz,e,he,hro⟩:=hr.obj j o st R hg hR
   cases hro with
   | @rows op sz rs cs e' hrows=>
     have hd2:(if sz=size∧lo+len≤rs.length then some ((rs.drop lo).take len) else none)=some rows:=hd
     clear hd
     split at hd2
     ·rename_i hc;obtain⟨rfl,hle⟩:=hc;cases hd2
      have hs:=hrows.row
      refine⟨some ⟨R.blk,lo*R.sz,none⟩,cap,by simp;omega,fun r hr=>hs r (List.mem_of_mem_drop (List.mem_of_mem_take hr)),.inr ⟨R.blk,lo*R.sz,cs,e',(cs.drop (lo*R.sz)).take (len*sz),(cs.drop (lo*R.sz)).drop (len*sz),rfl,he,.inl ⟨j,R,List.mem_singleton.2 rfl,hR,rfl⟩,(List.take_append_drop _ _).symm,?_⟩⟩
      have hs': ∀r∈rs.drop lo,r.length=sz:=fun r hr=>hs r (List.mem_of_mem_drop hr)
      rw[zdL hs',zcY hs,←hrows.hsz]
      exact(hrows.rel.drop _).take _
     ·cases hd2
   |map=>cases hd
   |loop=>cases hd
 |_=>cases hd
theorem allO_byte: ∀{rows:List (List DV)} {l:List UInt8} {us:List Value},allO byteOfD rows=some l→(∀r∈rows,r.length=1)→LRel w rows.flatten us→allO ziY us=some l
 | [],l,us,h,_,hl=>by rw[hl.inv_nil];exact h
 |r::rows,l,us,h,hs,hl=>by
  obtain⟨b,hb,h⟩:=aof h
  obtain⟨l',hl',rfl⟩:=amf h
  unfold byteOfD at hb
  split at hb
  ·cases hb
   obtain⟨v,us',rfl,hv,hus⟩:=hl.head
   rw[hv.inv_int]
   show((ziY _).bind fun b=>(allO ziY us').map (b:: ·))=_
   rw[allO_byte hl' (fun r hr=>hs r (List.mem_cons_of_mem _ hr)) hus];rfl
  ·cases hb
theorem zhe (hr:HRel w M h) {d:DV} {es:List (DV×DV)} {v:Value} (hd:zW M d=some es) (hv:VRel w d v):
 ∃es',MapRel w es es'∧ ∀g:H,(∀b,RdB w (refD d) b→g.get b=h.get b)→zcu g v=some es':=by
 cases hv with
 |nilM=>cases hd;exact⟨[],⟨.nil,.nil⟩,fun g _=>rfl⟩
 | @map j R hR=>
   obtain⟨o,ho,hd⟩:=aof (show(M.obj j).bind _=some es from hd)
   obtain⟨st,hg⟩:=zbw ho
   obtain⟨hz,e,he,hro⟩:=hr.obj j o st R hg hR
   cases hro with
   | @map es0 es' c hm=>
     cases hd
     refine⟨es',hm,fun g hgg=> ?_⟩
     unfold zcu
     dsimp only
     rw[hgg R.blk (.inl ⟨j,R,List.mem_singleton.2 rfl,hR,rfl⟩),he]
   |rows=>cases hd
   |loop=>cases hd
 |_=>cases hd
theorem findD_rel {kk:KK} {k:DV} {k':Value} (hk:VRel w k k'): ∀{es:List (DV×DV)} {es':List (Value×Value×Nat)} {r:Option DV},findD kk k es=some r→MapRel w es es'→ ∃r',zjs kk k' es'=some r'∧ORelO w r r'
 | [],[],r,h,hm=>by cases h;exact⟨none,rfl,trivial⟩
 | [],_::_,r,h,hm=>by have:=hm.keys.len;simp at this
 |_::_,[],r,h,hm=>by have:=hm.keys.len;simp at this
 | (key,v)::es,(key',v',c)::es',r,h,hm=>by
   obtain⟨x1,r1,e1,hkey,hks⟩:=hm.keys.head
   obtain⟨x2,r2,e2,hval,hvs⟩:=hm.vals.head
   cases e1;cases e2
   obtain⟨b,hb,h⟩:=aof (show(zb6 kk k key).bind _=some r from h)
   unfold zjs
   rw[zdc hb hk hkey,Option.bind_some]
   cases b with
   |true=>cases h;exact⟨some v',rfl,hval⟩
   |false=>exact findD_rel hk (show findD kk k es=some r from h) ⟨hks,hvs⟩
theorem zd5: ∀{l m:List DV} {vs us:List Value},zdx l m=true→LRel w l vs→LRel w m us→zG vs us=true
 | [],[],vs,us,h,h1,h2=>by rw[h1.inv_nil,h2.inv_nil];rfl
 | [],_::_,vs,us,h,_,_=>by cases h
 |d::l,[],vs,us,h,_,_=>by cases d<;>cases h
 |d::l,e::m,vs,us,h,h1,h2=>by
  obtain⟨v,vs',rfl,hv,hl⟩:=h1.head
  obtain⟨u,us',rfl,hu,hm⟩:=h2.head
  unfold zdx at h
  split at h
  ·cases ‹_::_=[]›
  ·rename_i ea eb;cases ea;cases eb
   simp only[Bool.and_eq_true] at h
   rw[hv.inv_int,hu.inv_int]
   unfold zG
   rw[show(decide (_=_)&&eqI _ _)=true from by rw[Bool.and_eq_true];exact h.1]
   exact zd5 h.2 hl hm
  ·rename_i ea eb;cases ea;cases eb
   simp only[Bool.and_eq_true] at h
   rw[hv.inv_str,hu.inv_str]
   unfold zG
   rw[h.1]
   exact zd5 h.2 hl hm
  ·cases h
theorem setD_rel {kk:KK} {k x:DV} {k' x':Value} (hk:VRel w k k') (hx:VRel w x x') (c:Nat): ∀{es es2:List (DV×DV)} {es':List (Value×Value×Nat)},setD kk k x es=some es2→MapRel w es es'→ ∃es2' c',setE kk k' x' c es'=some (es2',c')∧MapRel w es2 es2'
 | [],es2,[],h,hm=>by cases h;exact⟨_,_,rfl,.cons hk .nil,.cons hx .nil⟩
 | [],es2,_::_,h,hm=>by have:=hm.keys.len;simp at this
 |_::_,es2,[],h,hm=>by have:=hm.keys.len;simp at this
 | (key,v)::es,es2,(key',v',b')::es',h,hm=>by
   obtain⟨x1,r1,e1,hkey,hks⟩:=hm.keys.head
   obtain⟨x2,r2,e2,hval,hvs⟩:=hm.vals.head
   cases e1;cases e2
   obtain⟨b,hb,h⟩:=aof (show(zb6 kk k key).bind _=some es2 from h)
   unfold setE
   rw[zdc hb hk hkey,Option.bind_some]
   cases b with
   |true=>
    have h:(if zdx (zA k) (zA key)=true then some ((k,x)::es) else none)=some es2:=h
    split at h
    ·rename_i hsi;cases h
     refine⟨_,_,if_pos (zd5 hsi hk.cells hkey.cells),.cons hk hks,.cons hx hvs⟩
    ·cases h
   |false=>
    obtain⟨es3,h3,rfl⟩:=amf (show(setD kk k x es).map _=some es2 from h)
    obtain⟨es3',c',h4,h5⟩:=setD_rel hk hx c h3 ⟨hks,hvs⟩
    refine⟨(key',v',b')::es3',c',?_,.cons hkey h5.keys,.cons hval h5.vals⟩
    dsimp only
    rw[h4];rfl
end
theorem zgy (l:List DV) (o:Nat):zR l o []=some l:=by cases l<;>cases o<;>rfl
theorem zdv: ∀{l:List DV} {o:Nat} {xs:List DV},o+xs.length≤l.length→zR l o xs=some (l.take o++xs++l.drop (o+xs.length))
 |l,o,[],h=>by rw[zgy];simp
 | [],o,x::xs,h=>by simp at h
 |c::l,0,x::xs,h=>by
  show(zR l 0 xs).map (x:: ·)=_
  rw[zdv (by simp at h⊢;omega)];simp
 |c::l,n+1,x::xs,h=>by
  show(zR l n (x::xs)).map (c:: ·)=_
  rw[zdv (by simp at h⊢;omega),show n+1+(x::xs).length=(n+(x::xs).length)+1 by omega,List.drop_succ_cons,List.take_succ_cons]
  rfl
theorem zet: ∀{l:List DV} {o:Nat} {xs l':List DV},zR l o xs=some l'→xs=[]∨o+xs.length≤l.length
 |l,o,[],l',h=>.inl rfl
 | [],o,x::xs,l',h=>by cases o<;>cases h
 |c::l,0,x::xs,l',h=>by
  obtain⟨l2,e2,rfl⟩:=amf (show(zR l 0 xs).map (x:: ·)=some l' from h)
  rcases zet e2 with rfl|h3
  ·right;simp
  ·right;simp at h3⊢;omega
 |c::l,n+1,x::xs,l',h=>by
  obtain⟨l2,e2,rfl⟩:=amf (show(zR l n (x::xs)).map (c:: ·)=some l' from h)
  rcases zet e2 with h3|h3
  ·cases h3
  ·right;simp at h3⊢;omega
theorem zhN {rs:List (List DV)} {s i off:Nat} {r r' xs:List DV} (hs: ∀r∈rs,r.length=s) (hi:rs[i]? =some r) (hw:zR r off xs=some r'):zR rs.flatten (i*s+off) xs=some (rs.set i r').flatten:=by
 rcases zet hw with rfl|hb
 ·rw[zgy] at hw⊢;cases hw
  congr 2
  obtain⟨h1,rfl⟩:=List.getElem?_eq_some_iff.1 hi
  simp
 ·rw[zdv hb] at hw;cases hw
  have hlt:=(List.getElem?_eq_some_iff.1 hi).1
  have hr:r.length=s:=hs r (List.mem_of_getElem? hi)
  have hl:=zV hs
  have hil:i*s+s≤rs.length*s:=by rw[←Nat.succ_mul];exact Nat.mul_le_mul_right s hlt
  rw[zdv (by omega)]
  congr 1
  obtain⟨tl,ht⟩:=flat_at hs hi
  have h0:rs.flatten=rs.flatten.take (i*s)++(r++tl):=by rw[←ht,List.take_append_drop]
  have e1:(rs.set i (r.take off++xs++r.drop (off+xs.length))).flatten=rs.flatten.take (i*s)++((r.take off++xs++r.drop (off+xs.length))++rs.flatten.drop ((i+1)*s)):=by
   rw[←zdL hs,←zcY hs,List.set_eq_take_append_cons_drop,if_pos hlt];simp
  have e2:rs.flatten.drop ((i+1)*s)=tl:=by
   rw[Nat.succ_mul,←List.drop_drop,ht,←hr,List.drop_left]
  have hlen:(rs.flatten.take (i*s)).length=i*s:=by rw[List.length_take];omega
  rw[e1,e2]
  conv=>lhs;rw[h0]
  rw[List.take_append,List.drop_append,hlen,List.take_of_length_le (by omega),List.drop_of_length_le (l:=rs.flatten.take (i*s)) (by omega),Nat.add_sub_cancel_left,List.take_append_of_le_length (by omega),show i*s+off+xs.length - i*s=off+xs.length by omega,List.drop_append_of_le_length hb]
  simp
theorem putRows_flat {rs new:List (List DV)} {s at_:Nat} (hs: ∀r∈rs,r.length=s) (hn: ∀r∈new,r.length=s) (hb:at_+new.length≤rs.length):zR rs.flatten (at_*s) new.flatten=some (zcR rs new at_).flatten:=by
 have hl:=zV hs
 have hl2:=zV hn
 have:at_*s+new.length*s≤rs.length*s:=by rw[←Nat.add_mul];exact Nat.mul_le_mul_right s hb
 rw[zdv (by omega)]
 unfold zcR
 rw[List.flatten_append,List.flatten_append,zdL hs,zcY hs,Nat.add_mul,hl2]
theorem zfD {w:Wd} {z:List DV} {vs:List Value} (h:LRel w z vs): ∀n,LRel w (List.replicate n z).flatten (zbe vs n)
 |0=>.nil
 |n+1=>by rw[List.replicate_succ,List.flatten_cons];exact h.append (zfD h n)
end Go.Ideal
namespace Go.Ideal
section
variable {w:Wd} {M:VM} {s:DS} {t:zl}
theorem ziq {op:COp} (hp:isFl op=true) (hm:MTy w M) (hs:zi8 w (zq op) s t) {d:DV} {M':VM} (h:opD op s M=some (d,M')):M'=M∧ ∃v,VRel w d v∧ ∀g:H,opV op t g=some (v,g):=by
 cases op
 case mv x=>
  obtain⟨y,hy,e⟩:=amf h;cases e
  obtain⟨v,hv,hr⟩:=zx hs hy
  exact⟨rfl,v,hr,fun g=>by show(x.ev t).map _=_;rw[hv];rfl⟩
 case pick c a b=>
  obtain⟨y,hy,h⟩:=aof h
  obtain⟨z,hz,e⟩:=amf h;cases e
  obtain⟨v,hv,hr⟩:=zx (hs.sub fun p hp=>by simp[zq,hp]) hy
  unfold pickD at hz
  split at hz
  ·obtain⟨u,hu,hr2⟩:=zx (hs.sub fun p hp=>by simp[zq,hp]) hz
   refine⟨rfl,u,hr2,fun g=> ?_⟩
   show(c.ev t).bind (zji a b t g)=_
   rw[hv,hr.inv_bool];show(a.ev t).map _=_;rw[hu];rfl
  ·obtain⟨u,hu,hr2⟩:=zx (hs.sub fun p hp=>by simp[zq,hp]) hz
   refine⟨rfl,u,hr2,fun g=> ?_⟩
   show(c.ev t).bind (zji a b t g)=_
   rw[hv,hr.inv_bool];show(b.ev t).map _=_;rw[hu];rfl
  ·cases hz
 case build z ps=>
  obtain⟨z',hz,h⟩:=aof h
  obtain⟨l,hl,h⟩:=aof h
  obtain⟨c,hc,e⟩:=amf h;cases e
  obtain⟨l',hl',e1,e2⟩:=zjW (w:=w) hs hl
  obtain⟨vs,hvs,hr⟩:=fillD_rel (zfd hz) e1 e2 hc
  refine⟨rfl,_,.agg_of hr,fun g=> ?_⟩
  show((zeh t ps).bind fun l=>(zhv z l).map fun c=>(Value.agg ⟨c⟩,g))=_
  rw[hl',Option.bind_some,hvs];rfl
 case nilCheck x=>
  obtain⟨y,hy,h⟩:=aof h
  obtain⟨z,hz,e⟩:=amf h;cases e
  obtain⟨v,hv,hr⟩:=zx hs hy
  obtain⟨u,hu,hr2⟩:=nilD_rel hz hr
  exact⟨rfl,u,hr2,fun g=>by show((x.ev t).bind fun v=>(nilV v).map (·,g))=_;rw[hv,Option.bind_some,hu];rfl⟩
 case bin op ek x y=>
  obtain⟨a,ha,h⟩:=aof h
  obtain⟨b,hb,h⟩:=aof h
  obtain⟨z,hz,e⟩:=amf h;cases e
  obtain⟨a',ha',r1⟩:=zx (hs.sub fun p hp=>by simp[zq,hp]) ha
  obtain⟨b',hb',r2⟩:=zx (hs.sub fun p hp=>by simp[zq,hp]) hb
  obtain⟨u,hu,hr2⟩:=binD_rel hz r1 r2
  exact⟨rfl,u,hr2,fun g=>by show((x.ev t).bind fun a=>(y.ev t).bind fun b=>(binV op ek a b).map (·,g))=_;rw[ha',hb',Option.bind_some,Option.bind_some,hu];rfl⟩
 case un op x=>
  obtain⟨a,ha,h⟩:=aof h
  obtain⟨z,hz,e⟩:=amf h;cases e
  obtain⟨a',ha',r1⟩:=zx hs ha
  obtain⟨u,hu,hr2⟩:=unD_rel hz r1
  exact⟨rfl,u,hr2,fun g=>by show((x.ev t).bind fun a=>(unV op a).map (·,g))=_;rw[ha',Option.bind_some,hu];rfl⟩
 case conv k x=>
  obtain⟨a,ha,h⟩:=aof h
  obtain⟨z,hz,e⟩:=amf h;cases e
  obtain⟨a',ha',r1⟩:=zx hs ha
  obtain⟨u,hu,hr2⟩:=convD_rel hz r1
  exact⟨rfl,u,hr2,fun g=>by show((x.ev t).bind fun a=>(convV k a).map (·,g))=_;rw[ha',Option.bind_some,hu];rfl⟩
 case makeFunc fn a b=>
  cases fn with
  |func g=>
   obtain⟨x,hx,h⟩:=aof h
   obtain⟨y,hy,e⟩:=amf h;cases e
   obtain⟨a',ha',r1⟩:=zdN (hs.sub fun p hp=>List.mem_append_left _ hp) hx
   obtain⟨b',hb',r2⟩:=zdN (hs.sub fun p hp=>List.mem_append_right _ hp) hy
   exact⟨rfl,_,.fn g r1.len r2.len r1.at_ r2.at_,fun g'=>by show((evL t a).bind fun a=>(evL t b).map fun b=>(Value.func (.func g) ⟨a⟩ ⟨b⟩,g'))=_;rw[ha',hb'];rfl⟩
  |_=>cases h
 case fieldAddr n x=>
  obtain⟨a,ha,h⟩:=aof h
  obtain⟨z,hz,e⟩:=amf h;cases e
  obtain⟨a',ha',r1⟩:=zx hs ha
  obtain⟨ad,rfl,hr2⟩:=offD_rel hz r1
  exact⟨rfl,_,hr2,fun g=>by show((x.ev t).bind fun v=>(zdB v).map fun a=>(Value.pointer (some ⟨a.block,a.off+n,none⟩),g))=_;rw[ha'];rfl⟩
 case indexAddr n x y=>
  obtain⟨a,ha,h⟩:=aof h
  obtain⟨b,hb,h⟩:=aof h
  obtain⟨z,hz,e⟩:=amf h;cases e
  obtain⟨a',ha',r1⟩:=zx (hs.sub fun p hp=>by simp[zq,hp]) ha
  obtain⟨b',hb',r2⟩:=zx (hs.sub fun p hp=>by simp[zq,hp]) hb
  obtain⟨u,hu,hr2⟩:=addrD_rel hm hz r2 r1
  exact⟨rfl,u,hr2,fun g=>by show((x.ev t).bind fun v=>(y.ev t).bind fun i=>(zhb n v i).map (·,g))=_;rw[ha',hb',Option.bind_some,Option.bind_some,hu];rfl⟩
 case indexArr n m x y=>
  obtain⟨a,ha,h⟩:=aof h
  obtain⟨b,hb,h⟩:=aof h
  obtain⟨z,hz,e⟩:=amf h;cases e
  obtain⟨a',ha',r1⟩:=zx (hs.sub fun p hp=>by simp[zq,hp]) ha
  obtain⟨b',hb',r2⟩:=zx (hs.sub fun p hp=>by simp[zq,hp]) hb
  obtain⟨u,hu,hr2⟩:=arrD_rel hz r2 r1
  exact⟨rfl,u,hr2,fun g=>by show((x.ev t).bind fun v=>(y.ev t).bind fun i=>(zcU n m v i).map (·,g))=_;rw[ha',hb',Option.bind_some,Option.bind_some,hu];rfl⟩
 case extract x n=>
  obtain⟨a,ha,h⟩:=aof h
  cases a with
  |tup l=>
   obtain⟨z,hz,e⟩:=amf h;cases e
   obtain⟨a',ha',r1⟩:=zx hs ha
   obtain⟨vs,rfl,hl⟩:=r1.inv_tup
   obtain⟨v,hv,r2⟩:=hl.get hz
   exact⟨rfl,v,r2,fun g=>by show((x.ev t).bind fun v=>(zhH n v).map (·,g))=_;rw[ha',Option.bind_some];show(vs[n]?).map _=_;rw[hv];rfl⟩
  |_=>cases h
 case blt b as=>
  obtain⟨l,hl,h⟩:=aof h
  obtain⟨vs,hvs,hr⟩:=zdN (w:=w) hs hl
  have goal: ∀v,(∀g:H,bltV g b vs=some (v,g))→ ∀g:H,opV (.blt b as) t g=some (v,g):=fun v hv g=>by
   show((evL t as).bind fun l=>bltV g b l)=_
   rw[hvs];exact hv g
  cases b with
  |append _ _=>cases hp
  |clear _=>cases hp
  |copy _=>cases hp
  |lenMap=>cases hp
  |len=>
   match l,h,hr with
   | [d0],h,hr=>
     obtain⟨n,hn,e⟩:=amf (show(lenD M d0).map _=_ from h);cases e
     obtain⟨v,r,rfl,hv,hr⟩:=hr.head
     rw[hr.inv_nil] at goal
     refine⟨rfl,_,.int _ _,goal _ fun g=> ?_⟩
     cases hv<;>cases hn<;>subst_vars<;>rfl
   | [],h,_=>cases h
   |_::_::_,h,_=>cases h
  |lenStr=>
   match l,h,hr with
   | [d0],h,hr=>
     obtain⟨v,r,rfl,hv,hr⟩:=hr.head
     rw[hr.inv_nil] at goal
     cases hv<;>first| (cases h;done)|skip
     ·cases h;exact⟨rfl,_,.int _ _,goal _ fun g=>rfl⟩
   | [],h,_=>cases h
   |x::y::r,h,_=>cases x<;>cases h
  |min=>
   match l,h,hr with
   |d0::l,h,hr=>
    obtain⟨v,r,rfl,hv,hr⟩:=hr.head
    obtain⟨z,hz,e⟩:=amf (show(zcx false d0 l).map _=_ from h);cases e
    obtain⟨u,hu,r2⟩:=zfI hz hv hr
    exact⟨rfl,u,r2,goal _ fun g=>by show(zde false v r).map _=_;rw[hu];rfl⟩
   | [],h,_=>cases h
  |max=>
   match l,h,hr with
   |d0::l,h,hr=>
    obtain⟨v,r,rfl,hv,hr⟩:=hr.head
    obtain⟨z,hz,e⟩:=amf (show(zcx true d0 l).map _=_ from h);cases e
    obtain⟨u,hu,r2⟩:=zfI hz hv hr
    exact⟨rfl,u,r2,goal _ fun g=>by show(zde true v r).map _=_;rw[hu];rfl⟩
   | [],h,_=>cases h
 case strIdx x y=>
  obtain⟨a,ha,h⟩:=aof h
  obtain⟨b,hb,h⟩:=aof h
  obtain⟨z,hz,e⟩:=amf h;cases e
  obtain⟨a',ha',r1⟩:=zx (hs.sub fun p hp=>by simp[zq,hp]) ha
  obtain⟨b',hb',r2⟩:=zx (hs.sub fun p hp=>by simp[zq,hp]) hb
  unfold strIdxD at hz
  split at hz
  ·obtain⟨y',hy',rfl⟩:=amf hz
   refine⟨rfl,_,.int _ _,fun g=> ?_⟩
   show((x.ev t).bind fun v=>(y.ev t).bind fun i=>(zhY v i).map (·,g))=_
   rw[ha',hb',r1.inv_str,r2.inv_int,Option.bind_some,Option.bind_some]
   unfold zhY
   dsimp only
   rw[hy'];rfl
  ·cases hz
 case mkI ty x=>
  obtain⟨a,ha,e⟩:=amf h;cases e
  obtain⟨a',ha',r1⟩:=zx hs ha
  exact⟨rfl,_,.ifc ty r1,fun g=>by show(x.ev t).map _=_;rw[ha'];rfl⟩
 case assertT ty z ok x=>
  obtain⟨a,ha,h⟩:=aof h
  obtain⟨z',hz',h⟩:=aof h
  obtain⟨y,hy,e⟩:=amf h;cases e
  obtain⟨a',ha',r1⟩:=zx hs ha
  obtain⟨u,hu,r2⟩:=assertD_rel hy r1 (dOf_rel hz')
  exact⟨rfl,u,r2,fun g=>by show((x.ev t).bind fun v=>(zgX ty z ok v).map (·,g))=_;rw[ha',Option.bind_some,hu];rfl⟩
 case fld off n x=>
  obtain⟨a,ha,h⟩:=aof h
  obtain⟨z,hz,e⟩:=amf h;cases e
  obtain⟨a',ha',r1⟩:=zx hs ha
  cases a with
  |agg cs=>
   obtain⟨vs,rfl,hl⟩:=r1.inv_agg
   have hd:=hl.drop off
   suffices hh: ∃u,partV off vs n=some u∧VRel w d u by
    obtain⟨u,hu,r2⟩:=hh
    exact⟨rfl,u,r2,fun g=>by show((x.ev t).bind fun v=>(fldV off n v).map (·,g))=_;rw[ha',Option.bind_some];show(partV off vs n).map _=_;rw[hu];rfl⟩
   cases n with
   |some n=>
    obtain⟨y,hy,rfl⟩:=amf (show(zdZ n (cs.drop off)).map DV.agg=some d from hz)
    obtain⟨hn,rfl⟩:=ze7 hy
    refine⟨_,?_,.agg_of (hd.take n)⟩
    show(zgB n (zds off vs)).map _=_
    rw[zbV,zc8,if_pos (by rw[←hd.len];exact hn)];rfl
   |none=>
    have hz:oneD (cs.drop off)=some d:=hz
    unfold oneD at hz
    split at hz
    ·rename_i e;cases hz
     rw[e] at hd
     obtain⟨u,us',e2,hu,hus⟩:=hd.head
     refine⟨u,?_,hu⟩
     show(zds off vs).head? =_
     rw[zbV,e2];rfl
    ·cases hz
  |_=>cases hz
 case strSlice x lo hi=>
  obtain⟨a,ha,h⟩:=aof h
  obtain⟨l,hl,h⟩:=aof h
  obtain⟨b,hb,h⟩:=aof h
  obtain⟨z,hz,e⟩:=amf h;cases e
  obtain⟨a',ha',r1⟩:=zx (hs.sub fun p hp=>by simp[zq,hp]) ha
  obtain⟨l',hl',r2⟩:=zeP (w:=w) (hs.sub fun p hp=>by simp[zq,hp]) hl
  obtain⟨b',hb',r3⟩:=zeP (w:=w) (hs.sub fun p hp=>by simp[zq,hp]) hb
  unfold zfX at hz
  split at hz
  ·obtain⟨n,hn,hz⟩:=aof hz
   obtain⟨m,hm',hz⟩:=aof hz
   obtain⟨q,hq,rfl⟩:=amf hz
   refine⟨rfl,_,.str _,fun g=> ?_⟩
   show((x.ev t).bind fun v=>(evO t lo).bind fun lo=>(evO t hi).bind fun hi=>(zex lo hi v).map (·,g))=_
   rw[ha',hl',hb',r1.inv_str,Option.bind_some,Option.bind_some,Option.bind_some]
   unfold zex
   dsimp only
   rw[zC hn r3,Option.bind_some,zC hm' r2,Option.bind_some,hq];rfl
  ·cases hz
 all_goals first| (cases hp;done)|cases h
theorem zh1 {size:Nat} {g:H} {lo hi:Option Value} {base:Option Addr} {len:Nat}:zem size g lo hi (.slice base len zp)=base.bind fun a=>(g.get a.block).bind (zcM size a len lo hi g):=by
 unfold zem;dsimp only;rw[if_pos (by rw[Nat.beq_refl])]
theorem zda {size:Nat} {g:H} {lo hi:Option Value} {base:Option Addr} {len cap:Nat} (hc:cap≠zp):zem size g lo hi (.slice base len cap)=(zbE len cap hi).bind fun hi=>(zbE 0 hi lo).map fun lo=>
 (.slice (if Nat.beq cap lo then base else base.map fun a=>⟨a.block,a.off+lo*size,none⟩) (hi - lo) (cap - lo),g):=by
 unfold zem;dsimp only;rw[if_neg (fun e=>hc (Nat.eq_of_beq_eq_true e))]
theorem zhB {e s:Nat} (h:e=s) (h1:0<s) (h2:s<roE):(Nat.beq e s&&(Nat.blt 0 s&& !Nat.beq e roE))=true:=by
 subst h
 have b:Nat.beq e roE=false:=by
  cases hb:Nat.beq e roE with
  |false=>rfl
  |true=>have:=Nat.eq_of_beq_eq_true hb;omega
 have a:Nat.blt 0 e=true:=by show Nat.ble 1 e=true;rw[Nat.ble_eq];exact h1
 rw[a,b,Nat.beq_refl];rfl
variable {h:H}
def SameRd (w:Wd) (js:List Nat) (h g:H):Prop:= ∀b,RdB w js b→g.get b=h.get b
theorem zbL {x:CO} {d:DV} (hx:evD s x=some d):zcp s x=refD d:=by unfold zcp;rw[hx]
theorem zio {op:COp} (hp:isRd op=true) (hr:HRel w M h) (hs:zi8 w (zq op) s t) {d:DV} {M':VM} (hd:opD op s M=some (d,M')):M'=M∧ ∃v,VRel w d v∧ ∀g:H,SameRd w (zbO s op) h g→opV op t g=some (v,g):=by
 cases op
 case load1 a=>
  obtain⟨x,hx,hd⟩:=aof hd
  obtain⟨r,hr1,hd⟩:=aof hd
  obtain⟨y,hy,e⟩:=amf hd;cases e
  obtain⟨v,hv,r1⟩:=zx hs hx
  obtain⟨b,off,cs,e,us,tl,rfl,hg,hb,hsp,hl⟩:=zie hr hr1 r1
  unfold oneD at hy
  split at hy
  ·cases hy
   obtain⟨u,us',rfl,hu,hus⟩:=hl.head
   refine⟨rfl,u,hu,fun g hg2=> ?_⟩
   show((a.ev t).bind fun v=>(zdB v).bind fun a=>(g.readN a.block a.off 1).bind fun l=>(oneOf l).map (·,g))=_
   rw[hv,Option.bind_some]
   show((g.readN b off 1).bind _)=_
   rw[ze9 ((hg2 b (by show RdB w (zcp s a) b;rw[zbL hx];exact hb)).trans hg) hsp (by simp) hl.clean]
   rfl
  ·cases hy
 case loadN n a=>
  obtain⟨x,hx,hd⟩:=aof hd
  obtain⟨r,hr1,hd⟩:=aof hd
  obtain⟨y,hy,e⟩:=amf hd;cases e
  obtain⟨v,hv,r1⟩:=zx hs hx
  obtain⟨b,off,cs,e,us,tl,rfl,hg,hb,hsp,hl⟩:=zie hr hr1 r1
  obtain⟨hn,rfl⟩:=ze7 hy
  refine⟨rfl,_,.agg_of (hl.take n),fun g hg2=> ?_⟩
  show((a.ev t).bind fun v=>(zdB v).bind fun a=>(g.readN a.block a.off n).map fun l=>(Value.agg ⟨l⟩,g))=_
  rw[hv,Option.bind_some]
  show((g.readN b off n).map _)=_
  rw[ze9 ((hg2 b (by show RdB w (zcp s a) b;rw[zbL hx];exact hb)).trans hg) hsp (by rw[←hl.len];exact hn) hl.clean]
  rfl
 case lookup kk z ok x i=>
  obtain⟨m,hm,hd⟩:=aof hd
  obtain⟨k,hk,hd⟩:=aof hd
  obtain⟨z',hz,hd⟩:=aof hd
  obtain⟨b,hb,hd⟩:=aof hd
  obtain⟨es,hes,hd⟩:=aof hd
  obtain⟨r,hr1,e⟩:=amf hd;cases e
  obtain⟨m',hm',r1⟩:=zx (hs.sub fun p hp=>by simp[zq,hp]) hm
  obtain⟨k',hk',r2⟩:=zx (hs.sub fun p hp=>by simp[zq,hp]) hk
  obtain⟨es',hmr,hes'⟩:=zhe hr hes r1
  obtain⟨r',hr',ho⟩:=findD_rel r2 hr1 hmr
  refine⟨rfl,zdE z ok r',?_,fun g hg2=> ?_⟩
  ·unfold zeF zdE
   cases r with
   |none=>cases r' with
    |none=>cases ok with
     |true=>exact .tup_of (.cons (dOf_rel hz) (.cons (.bool _) .nil))
     |false=>exact dOf_rel hz
    |some=>exact ho.elim
   |some y=>cases r' with
    |none=>exact ho.elim
    |some y'=>cases ok with
     |true=>exact .tup_of (.cons ho (.cons (.bool _) .nil))
     |false=>exact ho
  ·show((x.ev t).bind fun m=>(i.ev t).bind fun k=>(zbX kk k k).bind fun _=>(zcu g m).bind fun es=>(zjs kk k es).map fun r=>(zdE z ok r,g))=_
   rw[hm',hk',Option.bind_some,Option.bind_some,zdc hb r2 r2,Option.bind_some,hes' g (fun b hb=>hg2 b (by show RdB w (zcp s x) b;rw[zbL hm];exact hb)),Option.bind_some,hr'];rfl
 case slice size x lo hi=>
  obtain⟨y,hy,hd⟩:=aof hd
  obtain⟨l,hl,hd⟩:=aof hd
  obtain⟨u,hu,hd⟩:=aof hd
  obtain⟨z,hz,e⟩:=amf hd;cases e
  obtain⟨y',hy',r1⟩:=zx (hs.sub fun p hp=>by simp[zq,hp]) hy
  obtain⟨l',hl',r2⟩:=zeP (w:=w) (hs.sub fun p hp=>by simp[zq,hp]) hl
  obtain⟨u',hu',r3⟩:=zeP (w:=w) (hs.sub fun p hp=>by simp[zq,hp]) hu
  refine⟨rfl,?_⟩
  suffices hh: ∃v,VRel w d v∧ ∀g:H,SameRd w (refD y) h g→zem size g l' u' y'=some (v,g) by
   obtain⟨v,hv,hg⟩:=hh
   refine⟨v,hv,fun g hg2=> ?_⟩
   show((x.ev t).bind fun v=>(evO t lo).bind fun lo=>(evO t hi).bind fun hi=>zem size g lo hi v)=_
   rw[hy',hl',hu',Option.bind_some,Option.bind_some,Option.bind_some,hg g (fun b hb=>hg2 b (by show RdB w (zcp s x) b;rw[zbL hy];exact hb))]
  cases r1 with
  |nilS=>
   obtain⟨n,hn,hz⟩:=aof (show(zD 0 0 u).bind _=some d from hz)
   obtain⟨m,hm,rfl⟩:=amf hz
   have hn0:n=0:=by rcases zb2 hn with h|h<;>omega
   subst hn0
   have hm0:m=0:=by rcases zb2 hm with h|h<;>omega
   subst hm0
   refine⟨.slice none 0 0,.nilS,fun g _=> ?_⟩
   rw[zda (by decide),zC hn r3,Option.bind_some,zC hm r2];rfl
  | @lst b o s0 n cap e cs rows hzz hss hbb hk hO hC hnn=>
    have hz2:(if s0=size∧0<s0 then(zD rows.length rows.length u).bind fun hi=>(zD 0 hi l).map fun lo=>DV.lst s0 ((rows.drop lo).take (hi - lo)) else none)=some d:=hz
    clear hz
    split at hz2
    ·rename_i hc;obtain⟨rfl,hpos⟩:=hc
     obtain⟨n2,hn,hz2⟩:=aof hz2
     obtain⟨m,hm,rfl⟩:=amf hz2
     subst hnn
     have hn2:n2≤rows.length:=by rcases zb2 hn with h|h<;>omega
     have hmn:m≤n2:=by rcases zb2 hm with h|h<;>omega
     have hl:=zV hss
     have hsub: ∀r∈(rows.drop m).take (n2 - m),r.length=s0:=fun r hr=>hss r (List.mem_of_mem_drop (List.mem_of_mem_take hr))
     have hlen:((rows.drop m).take (n2 - m)).length=n2 - m:=by simp;omega
     have hmul:m*s0+(n2 - m)*s0≤rows.length*s0:=by rw[←Nat.add_mul];exact Nat.mul_le_mul_right _ (by omega)
     have hsub2: ∀(k:Nat) d v,((rows.drop m).take (n2 - m)).flatten[k]? =some d→cs[o+m*s0+k]? =some v→VRel w d v:=fun k d v h1 h2=>by
      rw[zdL (fun r hr=>hss r (List.mem_of_mem_drop hr)),zcY hss,List.getElem?_take] at h1
      split at h1
      ·rw[List.getElem?_drop] at h1;exact hk _ d v h1 (by rw[←h2];congr 1;omega)
      ·cases h1
     by_cases hcap:cap=zp
     ·subst hcap
      obtain⟨he,he1,he2⟩:=hO rfl
      refine⟨.slice (some ⟨b,o+m*s0,none⟩) (n2 - m) zp,.lst hzz hsub (by rw[hlen];omega) hsub2 hO (fun h=>absurd rfl h) hlen.symm,fun g hg2=> ?_⟩
      have hgb:=(hg2 b (.inr (by rw[hzz];rfl))).trans (hr.zd _ _ hzz).2
      rw[zh1]
      show(g.get b).bind _=_
      rw[hgb,Option.bind_some]
      unfold zcM
      dsimp only
      have hq:rows.length≤(cs.length - o) / s0:=by rw[Nat.le_div_iff_mul_le hpos];omega
      have b1:zbE rows.length ((cs.length - o) / s0) u'=some n2:=by
       cases u with
       |none=>cases u' with
        |none=>cases hn;rfl
        |some=>exact r3.elim
       |some u=>
        have:zD rows.length ((cs.length - o) / s0) (some u)=some n2:=by
         unfold zD inD at hn⊢
         dsimp only at hn⊢
         split at hn
         ·split at hn
          ·rw[if_pos (by omega)];exact hn
          ·cases hn
         ·cases hn
        exact zC this r3
      rw[if_pos (zhB he he1 he2),b1,Option.bind_some,zC hm r2];rfl
     ·have hrc:=hC hcap
      have b1:zbE rows.length cap u'=some n2:=by
       cases u with
       |none=>cases u' with
        |none=>cases hn;rfl
        |some=>exact r3.elim
       |some u=>
        have:zD rows.length cap (some u)=some n2:=by
         unfold zD inD at hn⊢
         dsimp only at hn⊢
         split at hn
         ·split at hn
          ·rw[if_pos (by omega)];exact hn
          ·cases hn
         ·cases hn
        exact zC this r3
      have hE: ∀g:H,zem s0 g l' u' (.slice (some ⟨b,o,none⟩) rows.length cap)=some (.slice (if Nat.beq cap m then some ⟨b,o,none⟩ else some ⟨b,o+m*s0,none⟩) (n2 - m) (cap - m),g):=fun g=>by
       rw[zda hcap,b1,Option.bind_some,zC hm r2,Option.map_some];rfl
      refine⟨_,?_,fun g _=>hE g⟩
      by_cases hcm:cap=m
      ·subst hcm
       have:n2 - cap=0:=by omega
       have e0:(rows.drop cap).take (n2 - cap)=[]:=by rw[this];rfl
       rw[e0,this,Nat.sub_self]
       exact .lst0 (by unfold zp;omega) (fun a e=>by split at e<;>cases e<;>rfl)
      ·rw[if_neg (by simp;exact hcm)]
       by_cases hoc:cap - m=zp
       ·omega
       ·exact .lst hzz hsub (by rw[hlen];omega) hsub2 (fun h=>absurd h hoc) (fun _=>by rw[hlen];omega) hlen.symm
    ·cases hz2
  | @lst0 s0 cap base hc hsp=>
    have hz2:(if s0=size∧0<s0 then(zD 0 0 u).bind fun hi=>(zD 0 hi l).map fun lo=>DV.lst s0 (([]:List (List DV)).drop lo |>.take (hi - lo)) else none)=some d:=hz
    clear hz
    split at hz2
    ·rename_i hc2;obtain⟨rfl,hpos⟩:=hc2
     obtain⟨n2,hn,hz2⟩:=aof hz2
     obtain⟨m,hm,rfl⟩:=amf hz2
     have hn0:n2=0:=by rcases zb2 hn with h|h<;>omega
     subst hn0
     have hm0:m=0:=by rcases zb2 hm with h|h<;>omega
     subst hm0
     have b1:zbE 0 cap u'=some 0:=by
      cases u with
      |none=>cases u' with
       |none=>rfl
       |some=>exact r3.elim
      |some u=>
       have:zD 0 cap (some u)=some 0:=by
        unfold zD inD at hn⊢
        dsimp only at hn⊢
        split at hn
        ·split at hn
         ·cases hn;rw[if_pos (by omega)]
         ·cases hn
        ·cases hn
       exact zC this r3
     refine⟨.slice (if Nat.beq cap 0 then base else base.map fun a=>⟨a.block,a.off+0*s0,none⟩) 0 (cap - 0),?_,fun g _=> ?_⟩
     ·rw[show((([]:List (List DV)).drop 0).take (0 - 0))=[] from rfl];exact .lst0 hc (fun a e=>by
       cases base with
       |none=>split at e<;>cases e
       |some b=>split at e<;>cases e<;>first|rfl|exact hsp _ rfl)
     ·rw[zda (by omega),b1,Option.bind_some,zC hm r2];rfl
    ·cases hz2
  | @ms j lo0 len cap R hR hO hC=>
    obtain⟨o,ho,hz⟩:=aof (show(M.obj j).bind _=some d from hz)
    obtain⟨st,hg⟩:=zbw ho
    obtain⟨hzz,e,he,hro⟩:=hr.obj j o st R hg hR
    cases hro with
    | @rows op sz rs cs e' hrows=>
      have hl:=zV hrows.row
      have hcl:=hrows.rel.len
      cases op with
      |true=>
       have hz2:(if sz=size∧cap=zp∧lo0≤rs.length then(zD len (rs.length - lo0) u).bind fun hi=>(zD 0 hi l).map fun lo=>DV.ms j (lo0+lo) (hi - lo) zp else none)=some d:=hz
       clear hz
       split at hz2
       ·rename_i hc2;obtain⟨rfl,rfl,hlo⟩:=hc2
        obtain⟨n2,hn,hz2⟩:=aof hz2
        obtain⟨m,hm,rfl⟩:=amf hz2
        obtain⟨hp1,hp2⟩:=hrows.pos rfl
        have hes:=hrows.esz
        rw[if_pos rfl] at hes
        refine⟨.slice (some ⟨R.blk,(lo0+m)*R.sz,none⟩) (n2 - m) zp,.ms hR hO (fun h=>absurd rfl h),fun g hg2=> ?_⟩
        have hgb:=(hg2 R.blk (.inl ⟨j,R,List.mem_singleton.2 rfl,hR,rfl⟩)).trans he
        rw[zh1]
        show(g.get R.blk).bind _=_
        rw[hgb,Option.bind_some]
        unfold zcM
        dsimp only
        have hq:(cs.length - lo0*R.sz) / sz=rs.length - lo0:=by
         rw[←hcl,hl,←hrows.hsz,←Nat.sub_mul,Nat.mul_div_cancel _ hp1]
        rw[if_pos (zhB hes hp1 hp2),hq,zC hn r3,Option.bind_some,zC hm r2,Option.map_some,Nat.add_mul,hrows.hsz]
       ·cases hz2
      |false=>
       have hz2:(if sz=size∧cap<zp then(zD len cap u).bind fun hi=>(zD 0 hi l).map fun lo=>DV.ms j (if cap=lo then lo0 else lo0+lo) (hi - lo) (cap - lo) else none)=some d:=hz
       clear hz
       split at hz2
       ·rename_i hc2;obtain⟨rfl,hlt⟩:=hc2
        obtain⟨n2,hn,hz2⟩:=aof hz2
        obtain⟨m,hm,rfl⟩:=amf hz2
        have hcap:cap≠zp:=by omega
        have hnc:n2≤cap:=by
         rcases zb2 hn with h|h
         ·exact h
         ·rw[h.2];exact(hC hcap).1
        refine⟨.slice (some ⟨R.blk,(if cap=m then lo0 else lo0+m)*R.sz,none⟩) (n2 - m) (cap - m),.ms hR (fun h=>by omega) (fun _=>⟨by omega,by omega⟩),fun g hg2=> ?_⟩
        rw[zda hcap,zC hn r3,Option.bind_some,zC hm r2,Option.map_some]
        by_cases hcm:cap=m
        ·subst hcm;rw[if_pos (by simp),if_pos rfl]
        ·rw[if_neg (by simp;exact hcm),if_neg hcm,Nat.add_mul,←hrows.hsz];rfl
       ·cases hz2
    |map=>cases hz
    |loop=>cases hz
  |_=>cases hz
 case slice3 size x lo hi mx=>
  obtain⟨y,hy,hd⟩:=aof hd
  obtain⟨l,hl,hd⟩:=aof hd
  obtain⟨u,hu,hd⟩:=aof hd
  obtain⟨q,hq,hd⟩:=aof hd
  obtain⟨z,hz,e⟩:=amf hd;cases e
  obtain⟨y',hy',r1⟩:=zx (hs.sub fun p hp=>by simp[zq,hp]) hy
  obtain⟨l',hl',r2⟩:=zeP (w:=w) (hs.sub fun p hp=>by simp[zq,hp]) hl
  obtain⟨u',hu',r3⟩:=zx (hs.sub fun p hp=>by simp[zq,hp]) hu
  obtain⟨q',hq',r4⟩:=zx (hs.sub fun p hp=>by simp[zq,hp]) hq
  refine⟨rfl,?_⟩
  suffices hh: ∃v,VRel w d v∧ ∀g:H,SameRd w (refD y) h g→zd0 size g l' u' q' y'=some (v,g) by
   obtain⟨v,hv,hg⟩:=hh
   refine⟨v,hv,fun g hg2=> ?_⟩
   show((x.ev t).bind fun v=>(evO t lo).bind fun lo=>(hi.ev t).bind fun hi=>(mx.ev t).bind fun mx=>zd0 size g lo hi mx v)=_
   rw[hy',hl',hu',hq',Option.bind_some,Option.bind_some,Option.bind_some,Option.bind_some,hg g (fun b hb=>hg2 b (by show RdB w (zcp s x) b;rw[zbL hy];exact hb))]
  cases r1 with
  | @ms j lo0 len cap R hR hO hC=>
    obtain⟨o,ho,hz⟩:=aof (show(M.obj j).bind _=some d from hz)
    obtain⟨st,hg⟩:=zbw ho
    obtain⟨hzz,e,he,hro⟩:=hr.obj j o st R hg hR
    cases hro with
    | @rows op sz rs cs e' hrows=>
      have hl:=zV hrows.row
      have hcl:=hrows.rel.len
      cases op with
      |true=>
       have hz2:(if sz=size∧cap=zp∧lo0≤rs.length then(zD 0 (rs.length - lo0) (some q)).bind fun m=>if 0<m∧m<zp then(zD 0 m (some u)).bind fun hi=>(zD 0 hi l).map fun lo=>DV.ms j (if m=lo then lo0 else lo0+lo) (hi - lo) (m - lo) else none else none)=some d:=hz
       clear hz
       split at hz2
       ·rename_i hc2;obtain⟨rfl,rfl,hlo⟩:=hc2
        obtain⟨m,hm,hz2⟩:=aof hz2
        split at hz2
        ·rename_i hmm
         obtain⟨n2,hn,hz2⟩:=aof hz2
         obtain⟨m2,hm2,rfl⟩:=amf hz2
         obtain⟨hp1,hp2⟩:=hrows.pos rfl
         have hes:=hrows.esz
         rw[if_pos rfl] at hes
         have hb1:n2≤m:=by exact(zb2 hn).resolve_right (fun h=>by cases h.1)
         refine⟨.slice (some ⟨R.blk,(if m=m2 then lo0 else lo0+m2)*R.sz,none⟩) (n2 - m2) (m - m2),.ms hR (fun h=>by omega) (fun _=>⟨by omega,by omega⟩),fun g hg2=> ?_⟩
         have hgb:=(hg2 R.blk (.inl ⟨j,R,List.mem_singleton.2 rfl,hR,rfl⟩)).trans he
         unfold zd0
         dsimp only
         rw[if_pos (Nat.beq_refl _)]
         show(g.get R.blk).bind _=_
         rw[hgb,Option.bind_some]
         unfold zdw
         dsimp only
         have hq2:(cs.length - lo0*R.sz) / sz=rs.length - lo0:=by
          rw[←hcl,hl,←hrows.hsz,←Nat.sub_mul,Nat.mul_div_cancel _ hp1]
         rw[if_pos (zhB hes hp1 hp2),hq2,zC (v:=some q') hm r4,Option.bind_some,if_pos (by rw[Bool.and_eq_true];exact⟨by show Nat.ble 1 m=true;rw[Nat.ble_eq];exact hmm.1,by show Nat.ble (m+1) zp=true;rw[Nat.ble_eq];exact hmm.2⟩),zC (v:=some u') hn r3,Option.bind_some,zC hm2 r2,Option.map_some]
         by_cases hcm:m=m2
         ·rw[if_pos (by rw[hcm,Nat.beq_refl]),if_pos hcm]
         ·rw[if_neg (fun e=>hcm (Nat.eq_of_beq_eq_true e)),if_neg hcm,Nat.add_mul,←hrows.hsz]
        ·cases hz2
       ·cases hz2
      |false=>
       have hz2:(if sz=size∧cap<zp then(zD 0 cap (some q)).bind fun m=>(zD 0 m (some u)).bind fun hi=>(zD 0 hi l).map fun lo=>DV.ms j (if m=lo then lo0 else lo0+lo) (hi - lo) (m - lo) else none)=some d:=hz
       clear hz
       split at hz2
       ·rename_i hc2;obtain⟨rfl,hlt⟩:=hc2
        obtain⟨m,hm,hz2⟩:=aof hz2
        obtain⟨n2,hn,hz2⟩:=aof hz2
        obtain⟨m2,hm2,rfl⟩:=amf hz2
        have hcap:cap≠zp:=by omega
        have hb0:m≤cap:=by exact(zb2 hm).resolve_right (fun h=>by cases h.1)
        have hb1:n2≤m:=by exact(zb2 hn).resolve_right (fun h=>by cases h.1)
        refine⟨.slice (some ⟨R.blk,(if m=m2 then lo0 else lo0+m2)*R.sz,none⟩) (n2 - m2) (m - m2),.ms hR (fun h=>by omega) (fun _=>⟨by omega,by omega⟩),fun g hg2=> ?_⟩
        unfold zd0
        dsimp only
        rw[if_neg (fun e=>hcap (Nat.eq_of_beq_eq_true e)),zC (v:=some q') hm r4,Option.bind_some,zC (v:=some u') hn r3,Option.bind_some,zC hm2 r2,Option.map_some]
        by_cases hcm:m=m2
        ·rw[if_pos (by rw[hcm,Nat.beq_refl]),if_pos hcm]
        ·rw[if_neg (fun e=>hcm (Nat.eq_of_beq_eq_true e)),if_neg hcm,Nat.add_mul,←hrows.hsz];rfl
       ·cases hz2
    |map=>cases hz
    |loop=>cases hz
  |_=>cases hz
 case blt b as=>
  cases b with
  |lenMap=>
   obtain⟨l,hl,hd⟩:=aof hd
   obtain⟨vs,hvs,hrl⟩:=zdN (w:=w) hs hl
   match l,hd,hrl,hl with
   | [],hd,_,_=>cases hd
   |_::_::_,hd,_,_=>cases hd
   | [d0],hd,hrl,hl=>
     obtain⟨es,hes,e⟩:=amf (show(zW M d0).map _=_ from hd);cases e
     obtain⟨v,r,rfl,hv,hrr⟩:=hrl.head
     rw[hrr.inv_nil] at hvs
     obtain⟨es',hmr,hes'⟩:=zhe hr hes hv
     have hlen:es.length=es'.length:=by have:=hmr.keys.len;simpa using this
     refine⟨rfl,.int .i64 es'.length,by rw[hlen];exact .int _ _,fun g hg2=> ?_⟩
     have hj: ∀b,RdB w (refD d0) b→RdB w (zbO s (.blt .lenMap as)) b:=fun b hb=>by
      rcases hb with⟨j,R,hj,h2⟩|hb
      ·refine .inl ⟨j,R,?_,h2⟩
       match as,hl with
       | [x],hl=>
         obtain⟨y,hy,h3⟩:=aof hl
         obtain⟨z,hz,h4⟩:=amf h3
         cases hz;cases h4
         show j∈[x].flatMap (zcp s)
         simp[zbL hy,hj]
       | [],hl=>cases hl
       |x::y::r,hl=>
        obtain⟨y,hy,h3⟩:=aof hl
        obtain⟨z,hz,h4⟩:=amf h3
        obtain⟨y2,hy2,h5⟩:=aof hz
        obtain⟨z2,hz2,h6⟩:=amf h5
        subst h6;cases h4
      ·exact .inr hb
     have hee:=hes' g (fun b hb=>hg2 b (hj b hb))
     show((evL t as).bind fun l=>bltV g .lenMap l)=_
     rw[hvs,Option.bind_some]
     unfold zcu at hee
     split at hee
     ·cases hee;rfl
     ·show(match g.get _ with|some (.map es _)=>some (Value.int .i64 es.length,g)|_=>none)=_
      split at hee
      ·rename_i hgg;cases hee;rw[hgg]
      ·cases hee
     ·cases hee
  |_=>cases hp
 case b2s x=>
  obtain⟨y,hy,hd⟩:=aof hd
  obtain⟨z,hz,e⟩:=amf hd;cases e
  obtain⟨y',hy',r1⟩:=zx hs hy
  obtain⟨rows,hrows,hz⟩:=aof (show(zgo M 1 y).bind _=some d from hz)
  obtain⟨bl,hbl,rfl⟩:=amf hz
  obtain⟨base,cap,rfl,hlen,hcase⟩:=zka hr hrows r1
  refine⟨rfl,_,.str _,fun g hg2=> ?_⟩
  show((x.ev t).bind fun v=>(b2sV g v).map (·,g))=_
  rw[hy',Option.bind_some]
  rcases hcase with rfl| ⟨b,o,cs,e,us,tl,rfl,hg,hb,hsp,hl⟩
  ·cases hbl
   unfold b2sV
   cases base<;>rfl
  ·have hfl:=zV hlen
   have hgb:=(hg2 b (by show RdB w (zcp s x) b;rw[zbL hy];exact hb)).trans hg
   unfold b2sV
   dsimp only
   by_cases h0:rows.length=0
   ·rw[if_pos (by simp[h0])]
    have:rows=[]:=List.eq_nil_of_length_eq_zero h0
    subst this;cases hbl;rfl
   ·rw[if_neg (by simp;exact fun h=>h0 (by rw[h];rfl)),ze9 hgb hsp (by rw[←hl.len];omega) hl.clean,Option.bind_some,List.take_of_length_le (by rw[←hl.len];omega),allO_byte hbl hlen hl];rfl
 all_goals cases hp
end
end Go.Ideal
