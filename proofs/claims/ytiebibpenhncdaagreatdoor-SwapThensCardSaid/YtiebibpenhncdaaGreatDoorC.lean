/- A part of the proof: the ideal machine, and what the functions of the program answer over it. -/
import Derived.RecoverIn
import Derived.Test.YtiebibpenhncdaaGreatDoorB
set_option linter.unusedSimpArgs false
set_option linter.unusedVariables false
set_option linter.unusedSectionVars false
namespace Go.Ideal
variable {P:Program}
theorem zR.tail_put {ρ:Rho} {w:World} {D:Nat} {Ds:List Nat} (h:zR ρ w (D::Ds)) (o:Obj):zR ρ (w.putObj D o) Ds:=by
 obtain⟨h1,h2⟩:=List.nodup_cons.1 h.nodup
 refine⟨h2,fun D' hD'=> ?_⟩
 obtain⟨q1,q2,q3⟩:=h.ok D' (by grind)
 grind [World.putObj_heap_other]
theorem zdQ {fn:Func} {rs:List CR} (hc:allO (zbf P) fn.results.toList=some rs) {s:za} {tmps:Array Value} {h:H} {o:Out} (ho:ziN rs s h=some o) {ρ0:Rho} {w0:World} {σ:Rho} (hs:SR σ s tmps):
 ∀(Ds:List Nat) (w:World),zR σ w Ds→(∀D∈Ds,w0.heap.size≤D)→HR P σ h w→Ext ρ0 w0 σ w→LeavesInM Fence.wide 0 P fn tmps (zhF P ρ0 w0 o) (Ds.map zC) .returning w
 | [],w,hD,hds,hr,he=>by
   obtain⟨v,v',rfl,h1,h2⟩:=zjJ hc hr hs ho
   exact⟨v',h1,.inl ⟨v,h,v',σ,rfl,rfl,h2,hr,he⟩⟩
 |D::Ds,w,hD,hds,hr,he=>by
  obtain⟨q1,q2,q3⟩:=hD.ok D (by simp)
  obtain⟨g1,g2⟩:=hr.shut he (o:=.deferred none) (zbh _) q3 (zbh _) nofun (hds D (by simp)) q2
  refine⟨by simp,.inl ⟨D,_,rfl,run_takeDeferred q3,?_⟩⟩
  exact zdQ hc ho hs Ds _ (hD.tail_put _) (fun D' h=>hds D' (by simp[h])) g1 g2
theorem zdP {fn:Func} {tmps:Array Value} {v v':Value} {h:H} {ρ0:Rho} {w0:World} {σ:Rho} (hv:VR σ v v'):
 ∀(Ds:List Nat) (w:World),zR σ w Ds→(∀D∈Ds,w0.heap.size≤D)→HR P σ h w→Ext ρ0 w0 σ w→LeavesInM Fence.wide 0 P fn tmps (zhF P ρ0 w0 (.pan v .nil h)) (Ds.map zC) (.panicking (one v')) w
 | [],w,hD,hds,hr,he=>.inr ⟨v,h,v',σ,rfl,rfl,hv,hr,he⟩
 |D::Ds,w,hD,hds,hr,he=>by
  obtain⟨q1,q2,q3⟩:=hD.ok D (by simp)
  obtain⟨g1,g2⟩:=hr.shut he (o:=.deferred none) (zbh _) q3 (zbh _) nofun (hds D (by simp)) q2
  refine⟨by simp,.inl ⟨D,_,rfl,run_takeDeferred q3,?_⟩⟩
  exact zdP hv Ds _ (hD.tail_put _) (fun D' h=>hds D' (by simp[h])) g1 g2
theorem zcY.nil_ge {ρ:Rho} {w w':World} {N:Nat} {Db:List Deferred} {o:Out} {e:Exit} {a:Act} (h:zcY P ρ w N [] Db o e a w'): ∃σ Ds s h,Ext ρ w σ w'∧a.tmps.size=N∧a.defers=Ds.map zC++Db∧zR σ w' Ds∧(∀D∈Ds,w.heap.size≤D)∧SR σ s a.tmps∧HR P σ h w'∧
 ((o=.nrm s h∧e=.normal)∨(∃i,o=.exit i s h∧e=exOf i)∨(o=.ret s h∧e=.ret)∨(∃v v',o=.pan v s h∧VR σ v v'∧e=.panic (one v'))):=by
 obtain⟨σ,Ds,s,h,h1,h2,h3,⟨h4,h5⟩,h6⟩:=h
 grind
theorem zbO {fn:Func} {cf:zb} (h:zbp P fn=some (zfl cf)):(fn.name== "runtime.NumGoroutine")=false∧ ∃c,fn.body=some c∧zbv P fn.ntmps c=some (zA cf.body,cf.dfr.map stripD)∧allO (zbf P) fn.results.toList=some cf.results∧cf.ntmps=fn.ntmps∧cf.prim=none:=by
 unfold zbp at h
 split at h
 ·cases h
 ·rename_i hn
  obtain⟨c,hc,h⟩:=aof h
  obtain⟨cc,hcc,h⟩:=aof h
  obtain⟨rs,hrs,h⟩:=amf h
  grind [zfl]
theorem zcX: ∀{N:Nat} {code:Code} {c:CC},zbv P N code=some (c,none)→ze P N code=some c
 |N,.seq a b,c,h=>by
  have key:((ze P N a).bind fun a=>(zbv P N b).map (seqD a))=some (c,none)→ze P N (.seq a b)=some c:=by
   intro h
   obtain⟨ca,ha,h⟩:=aof h
   obtain⟨⟨cb,d⟩,hb,e⟩:=amf h
   cases e
   have:=zcX hb
   grind [ze]
  cases a with
  |region id ops d=>
   cases d with
   |true=>exact key h
   |false=>
    unfold zbv at h
    split at h
    ·grind
    ·split at h
     ·obtain⟨_,_,h⟩:=aof h
      obtain⟨_,_,h⟩:=aof h
      obtain⟨_,_,h⟩:=aof h
      obtain⟨_,_,h⟩:=aof h
      simp_all
     grind
  |_=>exact key h
 |N,.skip,c,h=>by obtain⟨x,hx,e⟩:=amf h;grind
 |N,.region _ _ _,c,h=>by obtain⟨x,hx,e⟩:=amf h;grind
 |N,.cond _ _ _,c,h=>by obtain⟨x,hx,e⟩:=amf h;grind
 |N,.block _ _,c,h=>by obtain⟨x,hx,e⟩:=amf h;grind
 |N,.loop _,c,h=>by obtain⟨x,hx,e⟩:=amf h;grind
 |N,.rangeFunc _ _ _ _,c,h=>by obtain⟨x,hx,e⟩:=amf h;grind
 |N,.exit _,c,h=>by obtain⟨x,hx,e⟩:=amf h;grind
 |N,.ret,c,h=>by obtain⟨x,hx,e⟩:=amf h;grind
 |N,.label _,c,h=>by obtain⟨x,hx,e⟩:=amf h;grind
 |N,.scope _,c,h=>by obtain⟨x,hx,e⟩:=amf h;grind
 |N,.goto _,c,h=>by obtain⟨x,hx,e⟩:=amf h;grind
 |N,.refuse _,c,h=>by obtain⟨x,hx,e⟩:=amf h;grind
theorem ziD: ∀{l pre post:List Oper} {c:Call},deferIn l=some (pre,c,post)→ ∃o,l=pre++o::post∧o.op=.defer c∧o.guard=none∧o.dst=none
 | [],_,_,_,h=>by cases h
 |o::l,pre,post,c,h=>by
  unfold deferIn at h
  split at h
  ·grind
  ·obtain⟨⟨pre',c',post'⟩,hx,e⟩:=amf h
   cases e
   obtain⟨o',e1,e2⟩:=ziD hx
   grind
theorem zgi {fn:Func} {tmps:Array Value} {R:Ending→World→Prop} {rest:List Deferred} {u:FrameMode} (hu:u≠ .run) {h:H} {ρ0:Rho} {w0:World} {σ:Rho} {Dr:List Nat}:
 ∀(Ds:List Nat) (w:World),zR σ w (Ds++Dr)→(∀D∈Ds,w0.heap.size≤D)→HR P σ h w→Ext ρ0 w0 σ w→(∀w1,zR σ w1 Dr→HR P σ h w1→Ext ρ0 w0 σ w1→LeavesInM Fence.wide 0 P fn tmps R rest u w1)→LeavesInM Fence.wide 0 P fn tmps R (Ds.map zC++rest) u w
 | [],w,hD,hds,hr,he,hk=>by grind
 |D::Ds,w,hD,hds,hr,he,hk=>by
  obtain⟨q1,q2,q3⟩:=hD.ok D (by simp)
  obtain⟨g1,g2⟩:=hr.shut he (o:=.deferred none) (zbh _) q3 (zbh _) nofun (hds D (by simp)) q2
  refine⟨hu,.inl ⟨D,_,rfl,run_takeDeferred q3,?_⟩⟩
  exact zgi hu Ds _ (zR.tail_put (Ds:=Ds++Dr) hD _) (fun D' h=>hds D' (by simp[h])) g1 g2 hk
theorem zkK (p:Option Value):settle (zcs p)=.returning:=by cases p<;>rfl
theorem zlp (p:Option Value):zgh p≠ .run:=by cases p<;>simp[zgh]
theorem isFn_eq {u g:Value} (h:isFn u=some g):u=g∧ ∃f a b,g=.func (.func f) a b:=by
 unfold isFn at h
 grind
theorem leaves_hand {ih:IH} {M:Nat} (hih: ∀t o,ih t=some o→zdE P M t o) {fn:Func} {rs:List CR} (hrs:allO (zbf P) fn.results.toList=some rs) {f f':Value} {args:List Value} {args':Array Value} {g:FuncId} {first cap:Array Value} (hf':f'=.func (.func g) first cap)
 {p p':Option Value} {o1 o2:Out} {s:za} {tmps:Array Value} {h:H} {w:World} {ρ0:Rho} {w0:World} {σ:Rho} {Ds:List Nat} (ho:ih (.hand f args p h)=some o1) (hk:resK1 rs s o1=some o2) (rf:VR σ f f') (ra:VRL σ args args'.toList) (rp:POR σ p p') (hs:SR σ s tmps)
 (hr:HR P σ h w) (he:Ext ρ0 w0 σ w) (hD:zR σ w Ds) (hds: ∀D∈Ds,w0.heap.size≤D):
 LeavesInM Fence.wide 0 P fn tmps (zhF P ρ0 w0 o2) ({target:=.fn (.func g) cap,args:=first++args'}::Ds.map zC) (zgh p') w:=by
 subst hf'
 obtain⟨h1,h2⟩:=hih _ _ ho σ _ args' p' w rf ra rp hr
 refine⟨zlp p',.inr ⟨fun h=>by grind [Fence.wide],.func g,cap,g,first++args'++cap,rfl,?_,fun _ _=>trivial,?_⟩⟩
 ·grind [invoke]
 ·refine CallsDIn.mono h1 ?_
  rintro e u' w' ⟨⟨v,h3,v',τ,rfl,rfl,q1,q2,q3⟩,rfl⟩
  show LeavesInM _ _ _ _ _ _ _ (settle (zcs p')) w'
  rw[zkK]
  exact zdQ hrs hk (hs.mono q3.le) Ds w' (hD.ext q3) hds q2 (he.trans q3)
theorem done_post {ih:IH} {M:Nat} (hih: ∀t o,ih t=some o→zdE P M t o) {fn:Func} {rs:List CR} (hrs:allO (zbf P) fn.results.toList=some rs) {f f':Value} {args:List Value} {args':Array Value} {g:FuncId} {first cap:Array Value} (hf':f'=.func (.func g) first cap)
 {N:Nat} {o o2:Out} {ρ0 ρ:Rho} {w0 w:World} {Ds:List Nat} (hdone:doneK ih f args rs o=some o2) (rf:VR ρ f f') (ra:VRL ρ args args'.toList) (he:Ext ρ0 w0 ρ w) (hD:zR ρ w Ds) (hds: ∀D∈Ds,w0.heap.size≤D) {e:Exit} {a1:Act} {w1:World}
 (hp:zcY P ρ w N [] ({target:=.fn (.func g) cap,args:=first++args'}::Ds.map zC) o e a1 w1):
 bodyPostM Fence.wide 0 P fn (zhF P ρ0 w0 o2) e a1 w1:=by
 obtain⟨σ,D1,s1,h1,e1,hN,hd,hD1,hds1,hs1,hr1,hcase⟩:=hp.nil_ge
 have hall:zR σ w1 (D1++Ds):=by
  have h2:=hD.ext e1
  refine⟨List.nodup_append.2 ⟨hD1.nodup,h2.nodup,fun x hx y hy e=> ?_⟩,fun D hm=> ?_⟩
  ·subst e
   have:=hds1 x hx
   have:=(hD.ok x hy).1
   omega
  ·rcases List.mem_append.1 hm with hm|hm
   ·exact hD1.ok D hm
   ·exact h2.ok D hm
 have hds1': ∀D∈D1,w0.heap.size≤D:=fun D h=>Nat.le_trans he.size (hds1 D h)
 have key: ∀(p p':Option Value),POR σ p p'→(∃o1,ih (.hand f args p h1)=some o1∧resK1 rs s1 o1=some o2)→LeavesInM Fence.wide 0 P fn a1.tmps (zhF P ρ0 w0 o2) a1.defers (zgh p') w1:=by
  rintro p p' rp ⟨o1,q1,q2⟩
  rw[hd]
  refine zgi (zlp p') D1 w1 hall hds1' hr1 (he.trans e1) (fun w2 k1 k2 k3=> ?_)
  exact leaves_hand hih hrs hf' q1 q2 (rf.mono e1.le) (ra.mono e1.le) rp hs1 k2 k3 k1 hds
 rcases hcase with⟨rfl,rfl⟩| ⟨i,rfl,rfl⟩| ⟨rfl,rfl⟩| ⟨v,v',rfl,hv,rfl⟩
 ·obtain⟨o1,q1,q2⟩:=aof hdone
  exact key none none trivial ⟨o1,q1,q2⟩
 ·cases hdone
 ·obtain⟨o1,q1,q2⟩:=aof hdone
  exact key none none trivial ⟨o1,q1,q2⟩
 ·obtain⟨o1,q1,q2⟩:=aof hdone
  exact key (some v) (some v') hv ⟨o1,q1,q2⟩
theorem dfr_wp {ih:IH} {M:Nat} (hih: ∀t o,ih t=some o→zdE P M t o) (hdec: ∀c s h o,ih (.code c s h)=some o→zbA c ih s h=some o) {fn:Func} {rs:List CR} (hrs:allO (zbf P) fn.results.toList=some rs) {ρ0:Rho} {w0:World} {o2:Out} {N:Nat}:
 ∀(code:Code) (c:CC) (d:Dfr),zbv P N code=some (zA c,some (stripD d))→ ∀(s:za) (h:H) (o:Out),ih (.code c s h)=some o→dfrK ih d rs o=some o2→ ∀(ρ:Rho) (a:Act) (w:World) (Ds:List Nat),a.tmps.size=N→SR ρ s a.tmps→HR P ρ h w→a.defers=Ds.map zC→zR ρ w Ds→(∀D∈Ds,w0.heap.size≤D)→Ext ρ0 w0 ρ w→
  code.wpIn Fence.wide 0 P (bodyPostM Fence.wide 0 P fn (zhF P ρ0 w0 o2)) a w
 |.seq x y,c,d,hc,s,h,o,ho,hK,ρ,a,w,Ds,hN,hs,hr,hd,hD,hds,hE=>by
  have plain:((ze P N x).bind fun a=>(zbv P N y).map (seqD a))=some (zA c,some (stripD d))→(Code.seq x y).wpIn Fence.wide 0 P (bodyPostM Fence.wide 0 P fn (zhF P ρ0 w0 o2)) a w:=by
   intro hc
   obtain⟨ca,ha,hc⟩:=aof hc
   obtain⟨⟨cb,d'⟩,hb,e⟩:=amf hc
   simp only[seqD,Prod.mk.injEq] at e
   obtain⟨e1,rfl⟩:=e
   obtain⟨ca',L,cb',rfl,rfl,rfl⟩:=zjp e1
   obtain⟨o1,h1,h2⟩:=aof (show(ih (.code ca' s h)).bind (thenK ih L cb')=some o from hdec _ _ _ _ ho)
   refine wpIn_seq (wpIn_mono ((hih _ _ h1 x N ha none ρ a w Ds [] (by intro l hl;cases hl) hN hs hr (by grind) hD).wpIn) ?_)
   rintro e a1 w1 ⟨σ,D1,s1,hh1,he,hN1,hd1,⟨hD1,hds1⟩,hs1,hr1,hcase⟩
   rw[List.append_nil] at hd1
   have hdsN: ∀D∈D1,w0.heap.size≤D:=fun D hm=>(hds1 D hm).elim (hds D) (fun h=>Nat.le_trans hE.size h)
   rcases hcase with⟨rfl,rfl⟩| ⟨i,rfl,rfl⟩| ⟨rfl,rfl⟩| ⟨v,v',rfl,hv,rfl⟩
   ·exact dfr_wp hih hdec hrs y cb' d hb (zb5 L s1) hh1 o h2 hK σ a1 w1 D1 hN1 (hs1.keep L) hr1 hd1 hD1 hdsN (hE.trans he)
   ·cases h2;cases hK
   ·cases h2;cases hK
   ·cases h2
    cases hK
    show LeavesInM _ _ _ _ _ _ a1.defers _ _
    rw[hd1]
    exact zdP hv D1 w1 hD1 hdsN hr1 (hE.trans he)
  cases x with
  |region id ops dr=>
   cases dr with
   |true=>exact plain hc
   |false=>
    unfold zbv at hc
    split at hc
    ·grind
    ·rename_i pre cl post hdi
     obtain⟨od,hl,hod,hg,hdst⟩:=ziD hdi
     split at hc
     ·rename_i fo hfo
      obtain⟨f,hf,hc⟩:=aof hc
      obtain⟨as,has,hc⟩:=aof hc
      obtain⟨preC,hpre,hc⟩:=aof hc
      obtain⟨postC,hpost,hc⟩:=aof hc
      obtain⟨bC,hb,e⟩:=amf hc
      simp only[Prod.mk.injEq,Option.some.injEq] at e
      obtain⟨e1,e2⟩:=e
      obtain rfl:=zjq e1
      obtain⟨df,da,dL,dr⟩:=d
      simp only[stripD,Dfr.mk.injEq] at e2
      obtain⟨rfl,rfl,-,e3⟩:=e2
      obtain⟨pC,L',bC',rfl,e4,rfl⟩:=zjp e3
      obtain rfl:=zjq e4
      have hrun:zb7 ih preC s h=some o:=hdec _ _ _ _ ho
      have hlen:ops.size=pre.length+1+post.length:=by grind [Array.length_toList]
      have hrange:List.range ops.size=List.range' 0 pre.length++(pre.length::List.range' (pre.length+1) post.length):=by
       have e1:= @List.range'_append_1 0 pre.length (post.length+1)
       grind [List.range'_succ,List.range_eq_range']
      refine wpIn_seq (wpIn_region ?_)
      rw[hrange]
      have hIn: ∀D∈Ds,w0.heap.size≤D:=hds
      refine zjN (ops:=ops) hih none (w0:=w) (ρ0:=ρ) (Ds:=Ds) (Db:=[]) (out:=o) ?_ ?_ pre.length 0 preC ρ s h a w (by omega) (by grind) hrun hr hs hN (by grind) hD (.refl _ _)
      ·intro sF hF σ a1 w1 eo q1 q2 q3 q4 q5 q6
       subst eo
       rw[List.append_nil] at q4
       obtain⟨fv,hfv,hK⟩:=aof hK
       obtain⟨fv',hfn,hK⟩:=aof hK
       obtain⟨av,hav,hK⟩:=aof hK
       obtain⟨o3,ho3,hdone⟩:=aof hK
       obtain⟨rfl,g,first,cap,rfl⟩:=isFn_eq hfn
       have rf:=zbg hf q1 hfv
       have ra:=zi7 q1 has hav
       obtain⟨first',cap',hfe⟩: ∃x y,a1.eval fo=.func (.func g) x y:=by
        generalize a1.eval fo=y at rf;cases rf;grind
       have hget:ops[pre.length]? =some od:=by rw[←Array.getElem?_toList,hl];simp
       have hwant:Region.wanted od (yielded ops a1.tmps)=true:=by simp[Region.wanted,hg]
       simp only[wpOpsIn,hget,hwant,if_true]
       refine⟨fun f _=>trivial,?_⟩
       have hsem:(od.semAt (Wf none).round a1.eval).run P w1=.ok (.defer {target:=.fn (.func g) cap',args:=first'++cl.args.map a1.eval}) w1:=by
        show(od.semAt none a1.eval).run P w1=_
        grind [Oper.semAt_none,execOp,resolve,Deferred.ofValue,Sem.run_pure]
       rw[hsem,Oper.uponIn_defer]
       have hput:({a1 with defers:=({target:=.fn (.func g) cap',args:=first'++cl.args.map a1.eval}:Deferred)::a1.defers}:Act).put od.dst undef={a1 with defers:=({target:=.fn (.func g) cap',args:=first'++cl.args.map a1.eval}:Deferred)::Ds.map zC}:=by
        rw[hdst,q4];rfl
       rw[hput]
       rw[hfe] at rf
       have hE1:Ext ρ0 w0 σ w1:=hE.trans q6
       obtain⟨o4,h4,h5⟩:=aof (show(ih (.code (.ops postC) (zb5 dL sF) hF)).bind (thenK ih L' bC')=some o3 from hdec _ _ _ _ ho3)
       have hrun4:zb7 ih postC (zb5 dL sF) hF=some o4:=hdec _ _ _ _ h4
       have hpost':=zjN (ops:=ops) (Q:=Exit.then (y.wpIn Fence.wide 0 P (bodyPostM Fence.wide 0 P fn (zhF P ρ0 w0 o2))) (bodyPostM Fence.wide 0 P fn (zhF P ρ0 w0 o2))) (rest:=[]) hih none (w0:=w1) (ρ0:=σ) (Ds:=[]) (Db:=({target:=.fn (.func g) cap',args:=first'++cl.args.map a1.eval}:Deferred)::Ds.map zC) (out:=o4)
        (fun sG hG τ a2 w2 eo k1 k2 k3 k4 k5 k6=>by
          subst eo
          show y.wpIn _ _ _ _ a2 w2
          refine wpIn_mono ((hih _ _ h5 y N hb none τ a2 w2 [] _ (by intro l hl;cases hl) k3 (k1.keep L') k2 k4 k5).wpIn) (fun e a3 w3 hp=> ?_)
          exact done_post hih hrs rfl hdone (rf.mono k6.le) (ra.mono k6.le) (hE1.trans k6) ((q5).ext k6) hIn hp)
        (fun v sG hG v' τ a2 w2 eo k0 k1 k2 k3 k4 k5 k6=>by
          subst eo
          cases h5
          exact done_post (o:=.pan v sG hG) hih hrs rfl hdone (rf.mono k6.le) (ra.mono k6.le) (hE1.trans k6) ((q5).ext k6) hIn ⟨τ,[],sG,hG,.refl _ _,k3,k4,⟨k5,fun D h=>by cases h⟩,k1,k2,.inr (.inr (.inr ⟨v,v',rfl,k0,rfl⟩))⟩)
        post.length (pre.length+1) postC σ (zb5 dL sF) hF {a1 with defers:=({target:=.fn (.func g) cap',args:=first'++cl.args.map a1.eval}:Deferred)::Ds.map zC} w1 (by omega)
        (by rw[hl,show pre++od::post=(pre++[od])++post by simp,show pre.length+1=(pre++[od]).length by simp,List.drop_left,List.take_length];grind) hrun4 q2 (q1.keep dL) q3 rfl ⟨List.nodup_nil,by simp⟩ (.refl _ _)
       grind
      ·intro v sF hF v' σ a1 w1 eo q0 q1 q2 q3 q4 q5 q6
       subst eo
       cases hK
       show LeavesInM _ _ _ _ _ _ a1.defers _ _
       rw[q4,List.append_nil]
       exact zdP q0 Ds w1 q5 hds q2 (hE.trans q6)
     grind
  |_=>exact plain hc
 |.skip,c,d,hc,s,h,o,ho,hK,ρ,a,w,Ds,hN,hs,hr,hd,hD,hds,hE=>by obtain⟨x,hx,e⟩:=amf hc;cases e
 |.region _ _ _,c,d,hc,s,h,o,ho,hK,ρ,a,w,Ds,hN,hs,hr,hd,hD,hds,hE=>by obtain⟨x,hx,e⟩:=amf hc;cases e
 |.cond _ _ _,c,d,hc,s,h,o,ho,hK,ρ,a,w,Ds,hN,hs,hr,hd,hD,hds,hE=>by obtain⟨x,hx,e⟩:=amf hc;cases e
 |.block _ _,c,d,hc,s,h,o,ho,hK,ρ,a,w,Ds,hN,hs,hr,hd,hD,hds,hE=>by obtain⟨x,hx,e⟩:=amf hc;cases e
 |.loop _,c,d,hc,s,h,o,ho,hK,ρ,a,w,Ds,hN,hs,hr,hd,hD,hds,hE=>by obtain⟨x,hx,e⟩:=amf hc;cases e
 |.rangeFunc _ _ _ _,c,d,hc,s,h,o,ho,hK,ρ,a,w,Ds,hN,hs,hr,hd,hD,hds,hE=>by obtain⟨x,hx,e⟩:=amf hc;cases e
 |.exit _,c,d,hc,s,h,o,ho,hK,ρ,a,w,Ds,hN,hs,hr,hd,hD,hds,hE=>by obtain⟨x,hx,e⟩:=amf hc;cases e
 |.ret,c,d,hc,s,h,o,ho,hK,ρ,a,w,Ds,hN,hs,hr,hd,hD,hds,hE=>by obtain⟨x,hx,e⟩:=amf hc;cases e
 |.label _,c,d,hc,s,h,o,ho,hK,ρ,a,w,Ds,hN,hs,hr,hd,hD,hds,hE=>by obtain⟨x,hx,e⟩:=amf hc;cases e
 |.scope _,c,d,hc,s,h,o,ho,hK,ρ,a,w,Ds,hN,hs,hr,hd,hD,hds,hE=>by obtain⟨x,hx,e⟩:=amf hc;cases e
 |.goto _,c,d,hc,s,h,o,ho,hK,ρ,a,w,Ds,hN,hs,hr,hd,hD,hds,hE=>by obtain⟨x,hx,e⟩:=amf hc;cases e
 |.refuse _,c,d,hc,s,h,o,ho,hK,ρ,a,w,Ds,hN,hs,hr,hd,hD,hds,hE=>by obtain⟨x,hx,e⟩:=amf hc;cases e
theorem zlw {ih:IH} {M:Nat} (hih: ∀t o,ih t=some o→zdE P M t o) (hdec: ∀c s h o,ih (.code c s h)=some o→zbA c ih s h=some o) {g:FuncId} {fn:Func} {cf:zb} (hfn:P.funcs[g]? =some fn) (hcf:zbp P fn=some (zfl cf)) {args:List Value} {h:H} {o:Out} (hv:zbz ih cf args h=some o)
 {ρ:Rho} {args':Array Value} {w:World} (ra:VRL ρ args args'.toList) (hr:HR P ρ h w):CallsIn Fence.wide 0 P g args' w (zhF P ρ w o)∧ ∀w,(callFunc g args').run P w=.ok (.enter g args') w:=by
 obtain⟨hname,c,hbody,hcc,hrs,hnt,hnp⟩:=zbO hcf
 unfold zbz at hv
 split at hv
 ·rename_i hle
  have hle':args'.size≤fn.ntmps:=by
   have:=Nat.le_of_ble_eq_true hle
   rw[hnt,ra.1] at this;grind
  obtain⟨o1,ho1,hret⟩:=aof hv
  refine⟨?_,fun w=> ?_⟩
  ·refine callsIn_of_wp_marks hfn hbody trivial ?_
   have hsz:(args'++Array.replicate (fn.ntmps - args'.size) undef).size=fn.ntmps:=by grind
   cases hdf:cf.dfr with
   |none=>
    rw[hdf] at hcc hret
    have hret:retK cf.results o1=some o:=hret
    have hcode:=(hih _ _ ho1 c fn.ntmps (zcX hcc) none ρ {tmps:=args'++Array.replicate (fn.ntmps - args'.size) undef,defers:=[]} w [] [] (by intro l hl;cases hl) hsz (args_SR ra _) hr rfl ⟨List.nodup_nil,by simp⟩).wpIn
    refine wpIn_mono hcode ?_
    intro e a1 w1 hp
    obtain⟨σ,Ds,s1,h1,he,hN,hd,hD,hds,hs1,hr1,hcase⟩:=hp.nil_ge
    rw[List.append_nil] at hd
    rcases hcase with⟨rfl,rfl⟩| ⟨i,rfl,rfl⟩| ⟨rfl,rfl⟩| ⟨v,v',rfl,hvv,rfl⟩
    ·show LeavesInM _ _ _ _ _ _ a1.defers _ _
     rw[hd];exact zdQ hrs hret hs1 Ds w1 hD hds hr1 he
    ·cases hret
    ·show LeavesInM _ _ _ _ _ _ a1.defers _ _
     rw[hd];exact zdQ hrs hret hs1 Ds w1 hD hds hr1 he
    ·cases hret
     show LeavesInM _ _ _ _ _ _ a1.defers _ _
     grind [zdP]
   |some d=>
    rw[hdf] at hcc hret
    exact dfr_wp hih hdec hrs c cf.body d hcc _ _ _ ho1 hret ρ _ w [] hsz (args_SR ra _) hr rfl ⟨List.nodup_nil,by simp⟩ (by simp) (.refl _ _)
  simp_all[callFunc]
 grind
theorem round_sound {ih:IH} {M:Nat} (hih: ∀t o,ih t=some o→zdE P M t o) {l:Nat} {args:List Value} {h:H} {o:Out} {lo:IObj} (hlo:h.get l=some lo) (hv:runRound ih l args h lo=some o)
 {ρ:Rho} {R:RB} {args':Array Value} {w:World} (hi:ρ l=some R) (ra:VRL ρ args args'.toList) (hr:HR P ρ h w):
 ∃fn tmps assign body,(Instr.yield R.blk args').run P w=.ok (.round R.blk fn tmps assign body) w∧RoundIn Fence.wide 0 P R.blk fn tmps assign body w (ziT P ρ w o):=by
 cases lo with
 |loop st pend sl rc=>
  obtain⟨s0,hs0,hv1⟩:=aof hv
  obtain⟨o1,ho1,hv2⟩:=aof hv1
  clear hv hv1
  obtain⟨lp,p0,p1,p2,p3,p4,p5,p6,p7⟩:=zhj hr hi hlo
  rw[p4] at hs0
  obtain⟨q1,q2,q3⟩:=zjw lp.params.toList args args'.toList (zb5 rc.L sl) s0 lp.tmps hs0 ra (p3.keep _) p5
  have hsz:args'.size=lp.params.size:=by rw[←Array.length_toList,←ra.1,q1,Array.length_toList]
  have hfold:(lp.params.zip args').foldl (fun tmps (x:Tmp×Value)=>tmps.setIfInBounds x.1 x.2) lp.tmps=(lp.params.toList.zip args'.toList).foldl (fun tmps (x:Tmp×Value)=>tmps.setIfInBounds x.1 x.2) lp.tmps:=by
   grind [Array.toList_zip]
  refine⟨lp.fn,_,lp.assign,lp.body,run_yield p0 hsz,?_⟩
  have hR:ze9 (some R.blk) w:=by intro l hl;grind
  refine roundIn_of_wpIn trivial ?_
  have hassign:=(hih _ _ ho1 lp.assign lp.tmps.size p6 (some R.blk) ρ {tmps:=(lp.params.zip args').foldl (fun tmps (x:Tmp×Value)=>tmps.setIfInBounds x.1 x.2) lp.tmps,defers:=[]} w [] [] hR (by grind) (by grind) hr rfl ⟨List.nodup_nil,by simp⟩).wpIn
  refine wpIn_mono hassign ?_
  intro e a1 w1 hp
  obtain⟨σ,Ds,s1,h1,he,hN,hd,hD,hds,hs1,hr1,hcase⟩:=hp.nil_ge
  rcases hcase with⟨rfl,rfl⟩| ⟨i,rfl,rfl⟩| ⟨rfl,rfl⟩| ⟨v,v',rfl,hvv,rfl⟩
  ·obtain⟨lo1,hlo1,hv3⟩:=aof hv2
   cases lo1 with
   |loop st1 pend1 sl1 rc1=>
    cases st1<;>simp only[zg9,reduceCtorEq] at hv3
    obtain⟨o2,ho2,hfin⟩:=aof hv3
    have hi1:σ l=some R:=he.le _ _ hi
    obtain⟨lp1,r0,r1,r2,r3,r4,r5,r6,r7⟩:=zhj hr1 hi1 hlo1
    obtain⟨g1,g2⟩:=loop_put hr1 hi1 hlo1 r0 (lp':={lp1 with state:=.busy}) (st':=.busy) (pend':=pend1) rfl r2 rfl rfl rfl rfl rfl
    refine⟨_,run_beginRound r0 r1,?_⟩
    have hRb:ze9 (some R.blk) (w1.putObj R.blk (.loop {lp1 with state:=.busy})):=by
     intro l hl;grind [World.putObj_heap_same]
    have hbody:=(hih _ _ ho2 lp.body lp.tmps.size p7 (some R.blk) σ a1 _ Ds [] hRb hN hs1 g1 hd (hD.ext g2)).wpIn
    refine wpIn_mono hbody ?_
    intro e a2 w2 hp2
    obtain⟨τ,Ds2,s2,h2,he2,hN2,hd2,hD2,hs2,hr2,hcase2⟩:=hp2
    have hi2:τ l=some R:=he2.le _ _ hi1
    have fin: ∀(p:Option CC) (jump:Option Code) (lo2:IObj),PendR p jump→h2.get l=some lo2→zlz l p h2 lo2=some o→ ∃v w',(Instr.endRound R.blk jump).run P w2=.ok v w'∧ziT P ρ w o (.returned v) w':=by
     intro p jump lo2 hp hlo2 hfin
     cases lo2 with
     |loop st2 pend2 sl2 rc2=>
      cases hfin
      obtain⟨lp2,t0,t1,t2,t3,t4⟩:=zhj hr2 hi2 hlo2
      have hnone:jump.isNone=p.isNone:=by
       cases p with
       |none=>cases jump with
        |none=>rfl
        |some c=>exact hp.elim
       |some c=>cases jump with
        |none=>cases c<;>exact hp.elim
        |some c'=>rfl
      obtain⟨k1,k2⟩:=loop_put hr2 hi2 hlo2 t0 (lp':={lp2 with state:=if jump.isNone then .ready else .done,pending:=jump}) (st':=stOf p) (pend':=p) (by dsimp only;rw[hnone];cases p<;>rfl) hp rfl rfl rfl rfl rfl
      refine⟨_,_,run_endRound jump t0,_,_,_,τ,rfl,rfl,?_,k1,((he.trans g2).trans he2).trans k2⟩
      rw[hnone];exact .bool _
     |cells _ _=>cases hfin
     |map _ _=>cases hfin
     |dead=>cases hfin
     |glob _ _=>cases hfin
    rcases hcase2 with⟨rfl,rfl⟩| ⟨i,rfl,rfl⟩| ⟨rfl,rfl⟩| ⟨v,v',rfl,hvv,rfl⟩
    ·obtain⟨lo2,hlo2,hfo⟩:=aof hfin
     exact fin none none lo2 trivial hlo2 hfo
    ·obtain⟨lo2,hlo2,hfo⟩:=aof hfin
     rcases zhq i with⟨j,rfl⟩| ⟨l,rfl⟩
     ·rw[zcN];exact fin (some (.exit (2*j))) (some (.exit j)) lo2 (coOf_even j).symm hlo2 hfo
     ·rw[zdu];exact fin (some (.exit (zcv l))) (some (.goto l)) lo2 (coOf_goto l).symm hlo2 hfo
    ·obtain⟨lo2,hlo2,hfo⟩:=aof hfin
     exact fin (some .ret) (some .ret) lo2 trivial hlo2 hfo
    ·cases hfin
   |cells _ _=>cases hv3
   |map _ _=>cases hv3
   |dead=>cases hv3
   |glob _ _=>cases hv3
  ·cases hv2
  ·cases hv2
  ·cases hv2
 |cells _ _=>cases hv
 |map _ _=>cases hv
 |dead=>cases hv
 |glob _ _=>cases hv
theorem VRL.of_func {ρ:Rho} {f:FuncId} {x y x' y':Array Value} (h:VR ρ (.func (.func f) x y) (.func (.func f) x' y')):VRL ρ x.toList x'.toList∧VRL ρ y.toList y'.toList:=by
 cases h with
 |func _ ha hb ra rb=>exact⟨⟨by grind,fun j a b h1 h2=>ra j a b (by grind) (by grind)⟩,⟨by grind,fun j a b h1 h2=>rb j a b (by grind) (by grind)⟩⟩
theorem zji {F:Fence} {n:Nat} {c:Code} {Q:Exit→Act→List Frame→World→Prop} {a:Act} {cs:List Frame} {w:World} (h:c.wpSIn F n P Q a cs w) (hq: ∀l a cs w,¬Q (.goto l) a cs w):(Code.scope c).wpSIn F n P Q a cs w:=by
 intro b k hk hro hb hr
 have h0:(lone (b.atR a (.code (.scope c)::k)) cs w).fenced P F:=fenced_calm hb hr rfl
 have s0:step P (lone (b.atR a (.code (.scope c)::k)) cs w)=.next (lone (b.atR a (.code c:: .inScope c::k)) cs w):=step_lone_go (by simp[stepG,stepG.exec,Frame.atR])
 obtain⟨e,a₁,cs₁,w₁,hl,hQ,harr⟩:=h b (.inScope c::k) hk hro hb hr
 cases e with
 |normal=>
  have s1:step P (lone (b.atR a₁ (.inScope c::k)) cs₁ w₁)=.next (lone (b.atR a₁ k) cs₁ w₁):=step_lone_go (by simp[stepG,stepG.exec,Frame.atR])
  exact⟨.normal,a₁,cs₁,w₁,hl,hQ,.head h0 s0 (StepsIn.trans harr (.one (fenced_calm hb (hl▸hr) rfl) s1))⟩
 |exit id=>
  have hx:exitTo id (.inScope c::k)=exitTo id k:=by simp[exitTo]
  exact⟨.exit id,a₁,cs₁,w₁,hl,hQ,fun k' hk=>.head h0 s0 (harr.1 k' (by grind)),fun hr' hk=>let⟨k₁,h1,h2⟩:=harr.2 hr' (by grind);⟨k₁,h1,.head h0 s0 h2⟩⟩
 |goto l=>grind
 |ret=>exact⟨_,a₁,cs₁,w₁,hl,hQ,.of_steps (.one h0 s0) harr⟩
 |panic ch=>exact⟨_,a₁,cs₁,w₁,hl,hQ,.of_steps (.one h0 s0) harr⟩
 |outgrown=>exact⟨_,a₁,cs₁,w₁,hl,hQ,.of_steps (.one h0 s0) harr⟩
def Takes (P:Program) (Q:World→Prop):List Deferred→World→Prop
 | [],w=>Q w
 |d::ds,w=> ∃r w',d.target=.collected r∧(Instr.takeDeferred r).run P w=.ok [] w'∧Takes P Q ds w'
theorem zgv {F:Fence} {n:Nat} {Q:World→Prop}: ∀(ds:List Deferred) (w:World) (fr:Frame) (cs:List Frame),fr.mode=.returning→fr.defers=ds→F.fn fr.fn→F.room (cs.length+1+n)→Takes P Q ds w→
 ∃w',Q w'∧StepsIn (Machine.fenced P F) P (lone fr cs w) (lone {fr with defers:=[]} cs w')
 | [],w,fr,cs,hm,hd,hb,hr,h=>⟨w,h,by
     grind [Frame,StepsIn.refl]⟩
 |d::ds,w,fr,cs,hm,hd,hb,hr,h=>by
  obtain⟨r,w',ht,hk,hrest⟩:=h
  have h1:=step_collected (cs:=cs) (by grind) hd ht hk
  have i1:(lone fr cs w).fenced P F:=fenced_out hb hr (by grind) hd (fun g hg=>by grind [Target.leads])
  obtain⟨w2,q1,q2⟩:=zgv ds w' {fr with defers:=[]++ds} cs hm rfl hb hr hrest
  exact⟨w2,q1,.head i1 h1 q2⟩
def handPost (P:Program) (fn:Func) (c₀:Frame) (cs:List Frame) (R:Ending→FrameMode→World→Prop) (e:Exit) (a:Act) (cs':List Frame) (w:World):Prop:=
 (e=.normal∨e=.ret)∧ ∃u',cs'={c₀ with mode:=u'}::cs∧Takes P (fun w=> ∃v,(results fn a.tmps).run P w=.ok v w∧R (.returned v) u' w) a.defers w
theorem zk2 {F:Fence} {n:Nat} {f:FuncId} {fn:Func} {c:Code} {args:Array Value} {u:FrameMode} {w:World} {R:Ending→FrameMode→World→Prop}
 (hf:P.funcs[f]? =some fn) (hb:fn.body=some c) (hF:F.fn f)
 (h: ∀(c₀:Frame) (cs:List Frame),c₀.mode=u→
   c.wpSIn F n P (handPost P fn c₀ cs R) {tmps:=args++Array.replicate (fn.ntmps - args.size) undef,defers:=[]} (c₀::cs) w):
 CallsDIn F n P f args u w R:=by
 refine⟨hF,fun c₀ cs hu hroom=> ?_⟩
 let b:Frame:={(default:Frame) with fn:=f,kind:=.deferred,roundOf:=none}
 have henter:Frame.enter P f args .deferred=
  b.atR {tmps:=args++Array.replicate (fn.ntmps - args.size) undef,defers:=[]} [.code c]:=by
  grind [Frame.enter,Frame.atR]
 obtain⟨e,a',cs',w',hl,⟨he,u',rfl,ht⟩,harr⟩:=h c₀ cs hu b [] rfl rfl hF hroom
 rw[←henter] at harr
 rcases he with rfl|rfl
 ·obtain⟨w2,⟨v,hr,hR⟩,hs2⟩:=zgv (F:=F) (n:=n) a'.defers w' {b.atR a' [] with mode:=.returning} ({c₀ with mode:=u'}::cs) rfl rfl hF hroom ht
  exact⟨.returned v,u',w2,_,hR,StepsIn.trans (StepsIn.trans harr (.one (fenced_calm (fr:=b.atR a' []) hF hroom rfl) (stepR_end rfl))) hs2,rfl,rfl,rfl,rfl,fn,hf,hr⟩
 ·obtain⟨todo,hs⟩:=harr.1 rfl
  obtain⟨w2,⟨v,hr,hR⟩,hs2⟩:=zgv (F:=F) (n:=n) a'.defers w' {b.atR a' todo with mode:=.returning} ({c₀ with mode:=u'}::cs) rfl rfl hF hroom ht
  exact⟨.returned v,u',w2,_,hR,StepsIn.trans hs hs2,rfl,rfl,rfl,rfl,fn,hf,hr⟩
def RecR (σ:Rho) (p0:Option Value) (p:Option Value) (u:FrameMode):Prop:=
 (p=none∧u=zcs p0)∨ ∃v v',p=some v∧p0=some v'∧VR σ v v'∧u=zgh p0
theorem RecR.mono {ρ σ:Rho} (hl:zhD ρ σ) {p0 p:Option Value} {u:FrameMode} (h:RecR ρ p0 p u):RecR σ p0 p u:=by
 rcases h with h| ⟨v,v',h1,h2,h3,h4⟩
 ·exact .inl h
 ·exact .inr ⟨v,v',h1,h2,h3.mono hl,h4⟩
theorem zkZ {o:Oper} (hop:zbk P o=some .recov): ∃cl:Call,o.op=.call cl∧cl.callee=.builtin .recover:=by
 cases e:o.op<;>simp only[zbk,e,reduceCtorEq] at hop
 case call cl=>
  refine⟨cl,rfl,?_⟩
  split at hop
  ·obtain⟨f',h1,hop⟩:=aof hop;simp_all
  ·rename_i b hb
   split at hop
   ·grind [isRecover]
   ·obtain⟨cb,h1,hop⟩:=aof hop;simp_all
  ·obtain⟨f',h1,hop⟩:=aof hop;simp_all
 case convert sr d x0=>
  obtain⟨x1,-,hop⟩:=aof hop;obtain⟨u1,-,hop⟩:=aof hop;obtain⟨u2,-,hop⟩:=aof hop
  cases u1<;>cases u2<;>first| (cases hop;done)| (obtain⟨u,-,hop⟩:=aof hop;grind)
 all_goals (exfalso;revert hop;simp only[Option.bind_eq_some_iff,Option.map_eq_some_iff,reduceCtorEq,and_false,exists_false,imp_false,not_false_eq_true])
 all_goals grind [Option.bind_eq_some_iff,Option.map_eq_some_iff]
theorem compile_recov {o:Oper} (hop:zca P o=some .recov): ∃cl:Call,o.op=.call cl∧cl.callee=.builtin .recover:=by
 rcases(zbT hop).2 with h|h
 ·exact zkZ h
 grind
theorem zj4 (p:Option Value) (s:za) (h:H):zbo [] p s h=some (p,s,h):=rfl
theorem ziy (o:CI) (l:List CI) (p:Option Value) (s:za) (h:H):zbo (o::l) p s h=(zbb o.guard s).bind fun b=>match b with
 |true=>zeo o (zbo l) p s h
 |false=>zbo l p (zY o.dst zM s) h:=rfl
theorem zhn {N:Nat} {ops:Array Oper} {p0:Option Value} {c₀:Frame} {cs:List Frame} {Q:Exit→Act→List Frame→World→Prop} {w0:World} {ρ0:Rho} {x:Option Value×za×H}
 (hQ: ∀σ u1 (a1:Act) w1,RecR σ p0 x.1 u1→SR σ x.2.1 a1.tmps→HR P σ x.2.2 w1→a1.tmps.size=N→a1.defers=[]→Ext ρ0 w0 σ w1→Q .normal a1 ({c₀ with mode:=u1}::cs) w1):
 ∀(m k:Nat) (l:List CI) (ρ:Rho) (p:Option Value) (u:FrameMode) (s:za) (h:H) (a:Act) (w:World),k+m=ops.size→allO (zu P N ops) (ops.toList.drop k)=some l→zbo l p s h=some x→
  RecR ρ p0 p u→HR P ρ h w→SR ρ s a.tmps→a.tmps.size=N→a.defers=[]→Ext ρ0 w0 ρ w→wpOpsSIn Fence.wide 0 P ops Q (List.range' k m) a ({c₀ with mode:=u}::cs) w
 |0,k,l,ρ,p,u,s,h,a,w,hk,hl,hrun,hp,hr,hs,hN,hd,hE=>by
  have:ops.toList.drop k=[]:=by simp_all
  rw[this] at hl;cases hl
  rw[zj4] at hrun;cases hrun
  exact hQ ρ u a w hp hs hr hN hd hE
 |m+1,k,l,ρ,p,u,s,h,a,w,hk,hl,hrun,hp,hr,hs,hN,hd,hE=>by
  have hlt:k<ops.size:=by omega
  have hdr:ops.toList.drop k=ops[k]::ops.toList.drop (k+1):=by
   rw[←List.getElem_cons_drop (by grind)];simp
  rw[hdr] at hl
  obtain⟨c,hc,hl⟩:=aof hl
  obtain⟨l',hl',e⟩:=amf hl
  subst e
  rw[ziy] at hrun
  obtain⟨b,hb,hrun⟩:=aof hrun
  obtain⟨hop,hdst,hdlt⟩:=zbj hc
  have hwant:=zcl hc hs hb
  rw[List.range'_succ]
  simp only[wpOpsSIn,Array.getElem?_eq_getElem hlt,hwant]
  refine⟨fun f _=>trivial,?_⟩
  cases b with
  |true=>
   simp only[if_true]
   have hrun:zeo c (zbo l') p s h=some x:=hrun
   by_cases hrec:c.op=.recov
   ·rw[hrec] at hop
    obtain⟨cl,hocl,hcb⟩:=compile_recov hop
    have hx:(execOp a.eval ops[k]).run P w=.ok .recover w:=by
     simp_all[execOp,resolve,invoke,builtin]
    rw[hx]
    dsimp only
    have hrun:zbo l' none (zY c.dst (p.getD .nilIface) s) h=some x:=by
     grind [zeo]
    rcases hp with⟨rfl,rfl⟩| ⟨v,v',rfl,rfl,hv,rfl⟩
    ·have hn:recoverD ({c₀ with mode:=zcs p0}::cs)=none:=by cases p0<;>rfl
     rw[hn]
     obtain⟨p1,p2,p3⟩:=zhX hdst hdlt hs hN (VR.nilIface (ρ:=ρ))
     exact zhn hQ m (k+1) l' ρ none _ _ _ _ _ (by omega) hl' hrun (.inl ⟨rfl,rfl⟩) hr p1 p2 (p3.trans hd) hE
    ·have hn:recoverD ({c₀ with mode:=zgh (some v')}::cs)=some (v',{c₀ with mode:=zcs (some v')}::cs):=rfl
     rw[hn]
     obtain⟨p1,p2,p3⟩:=zhX hdst hdlt hs hN hv
     exact zhn hQ m (k+1) l' ρ none _ _ _ _ _ (by omega) hl' hrun (.inl ⟨rfl,rfl⟩) hr p1 p2 (p3.trans hd) hE
   ·have hrun:(opV c.op s h).bind (fun x=>zbo l' p (zY c.dst x.1 s) x.2)=some x:=by
     grind [zeo]
    obtain⟨⟨v,h1⟩,hv,hrest⟩:=aof hrun
    have hcl:zZ c.op≠ .call:=by
     intro e
     cases hcop:c.op<;>rw[hcop] at e hv<;>first| (cases hv;done)| (simp[zZ] at e;done)|grind [zjP]
    obtain⟨n,v',w',σ,h1',h2,h3,h4,h5⟩:=(op_sim hop hr hs hv).sim hr hcl
    rw[h1']
    have go: ∀v0,VR σ v v0→wpOpsSIn Fence.wide 0 P ops Q (List.range' (k+1) m) (a.put ops[k].dst v0) ({c₀ with mode:=u}::cs) w':=by
     intro v0 hv0
     obtain⟨p1,p2,p3⟩:=zhX hdst hdlt (hs.mono h5.le) hN hv0
     exact zhn hQ m (k+1) l' σ p u _ _ _ _ (by omega) hl' hrest (hp.mono h5.le) h4 p1 p2 (p3.trans hd) (hE.trans h5)
    rcases h2 with rfl| ⟨rfl,rfl⟩
    all_goals grind
  |false=>
   simp only[Bool.false_eq_true,if_false]
   obtain⟨p1,p2,p3⟩:=zhX (v':=undef) hdst hdlt hs hN (VR.tuple_of (VRL.nil ρ))
   exact zhn hQ m (k+1) l' ρ p u _ _ _ _ (by omega) hl' hrun hp hr p1 p2 (p3.trans hd) hE
theorem zj3 {N:Nat} {l:List CI} {Q:Exit→Act→List Frame→World→Prop} (hq: ∀l a cs w,¬Q (.goto l) a cs w) {a:Act} {cs:List Frame} {w:World}: ∀(x:Code),ze P N x=some (.ops l)→
 (∀ops:Array Oper,allO (zu P N ops) ops.toList=some l→wpOpsSIn Fence.wide 0 P ops Q (List.range ops.size) a cs w)→x.wpSIn Fence.wide 0 P Q a cs w
 |.region id ops d,hc,h=>by
  obtain⟨l',hl,hc⟩:=aof hc
  cases d with
  |false=>grind [wpSIn_region]
  |true=>
   have hc:some ((if ops.toList.zipIdx.all (fun x=>(x.1.after.toList.filter (Region.binds .any)).all fun e=>Nat.blt e.on x.2) then zez (ancs ops.toList) l' else none).getD zfk)=some (.ops l):=hc
   have hc:(if ops.toList.zipIdx.all (fun x=>(x.1.after.toList.filter (Region.binds .any)).all fun e=>Nat.blt e.on x.2) then zez (ancs ops.toList) l' else none)=some (.ops l):=by
    generalize hd:(if ops.toList.zipIdx.all (fun x=>(x.1.after.toList.filter (Region.binds .any)).all fun e=>Nat.blt e.on x.2) then zez (ancs ops.toList) l' else none)=dd at hc
    cases dd with
    |some x=>exact hc
    |none=>cases hc
   grind [ze4]
 |.scope b,hc,h=>by
  rcases zgA hc with⟨hc,_⟩|hc| ⟨_,_,_,_,_,_,hc,_⟩
  ·exact zji (zj3 hq b hc h) hq
  ·cases hc
  grind
 |.seq _ _,hc,_=>by obtain⟨_,_,hc⟩:=aof hc;simp_all
 |.cond _ _ _,hc,_=>by obtain⟨_,_,hc⟩:=aof hc;obtain⟨_,_,hc⟩:=aof hc;simp_all
 |.block _ _,hc,_=>by obtain⟨_,_,hc⟩:=amf hc;cases hc
 |.loop _,hc,_=>by obtain⟨_,_,hc⟩:=amf hc;cases hc
 |.rangeFunc _ _ _ _,hc,_=>by
  unfold ze at hc
  split at hc
  ·obtain⟨_,_,hc⟩:=aof hc;obtain⟨_,_,hc⟩:=aof hc;simp_all
  grind
 |.skip,hc,_=>by cases hc
 |.exit _,hc,_=>by cases hc
 |.ret,hc,_=>by cases hc
 |.label _,hc,_=>by cases hc
 |.goto _,hc,_=>by cases hc
 |.refuse _,hc,_=>by cases hc
theorem hand_wp {ih:IH} {M:Nat} (hih: ∀t o,ih t=some o→zdE P M t o) {fn:Func} {rs:List CR} (hrs:allO (zbf P) fn.results.toList=some rs) {N:Nat} {l:List CI} {L:List (List Bool)} {b:CC} {o:Out} {p p0:Option Value} {s:za} {h:H} {x:Option Value×za×H} (hx:zbo l p s h=some x) (hend:handEnd ih rs L b x=some o)
 {c₀:Frame} {cs:List Frame} {ρ:Rho} {a:Act} {w:World} (hN:a.tmps.size=N) (hs:SR ρ s a.tmps) (hr:HR P ρ h w) (hd:a.defers=[]) (hp:POR ρ p p0): ∀(code:Code),ze P N code=some (zA (.seq (.ops l) L b))→
   code.wpSIn Fence.wide 0 P (handPost P fn c₀ cs (fun e u w'=>ziT P ρ w o e w'∧u=zcs p0)) a ({c₀ with mode:=zgh p0}::cs) w
 |.seq y z,hc=>by
  obtain⟨cy,hy,hc⟩:=aof hc
  obtain⟨cz,hz,e⟩:=amf hc
  simp only[zA,CC.seq.injEq,true_and] at e
  obtain⟨rfl,rfl⟩:=e
  have hrec:RecR ρ p0 p (zgh p0):=by
   cases p with
   |none=>cases p0 with
    |none=>exact .inl ⟨rfl,rfl⟩
    |some _=>exact hp.elim
   |some v=>cases p0 with
    |none=>exact hp.elim
    |some v'=>exact .inr ⟨v,v',rfl,rfl,hp,rfl⟩
  refine wpSIn_seq (zj3 ?_ y hy fun ops hl=> ?_)
  ·intro l a cs w h
   obtain⟨h|h,_⟩:=h<;>cases h
  ·rw[List.range_eq_range']
   refine zhn (x:=x) (ρ0:=ρ) (w0:=w) (N:=N) ?_ ops.size 0 l ρ p _ s h a w (by omega) (by grind) hx hrec hr hs hN hd (.refl _ _)
   intro σ u1 a1 w1 q1 q2 q3 q4 q5 q6
   show z.wpSIn _ _ _ _ _ _ _
   obtain⟨px,sx,hhx⟩:=x
   cases px with
   |some v=>cases hend
   |none=>
    obtain⟨o1,ho1,hret⟩:=aof (show(ih (.code b (zb5 L sx) hhx)).bind (retV rs)=some o from hend)
    rcases q1 with⟨-,rfl⟩| ⟨v,v',e,_⟩
    ·refine wpSIn_of_wpIn rfl (wpIn_mono ((hih _ _ ho1 z N hz none σ a1 w1 [] [] (by intro l hl;cases hl) q4 (q2.keep L) q3 (by grind) ⟨List.nodup_nil,by simp⟩).wpIn) ?_)
     intro e a2 w2 hpost
     obtain⟨τ,Ds,s2,h2,he,hN2,hd2,hD,hds,hs2,hr2,hcase⟩:=hpost.nil_ge
     rw[List.append_nil] at hd2
     have key:ziN rs s2 h2=some o→Takes P (fun w'=> ∃v,(results fn a2.tmps).run P w'=.ok v w'∧ziT P ρ w o (.returned v) w'∧zcs p0=zcs p0) a2.defers w2:=by
      intro hres
      rw[hd2]
      have main: ∀(Ds:List Nat) (w3:World),zR τ w3 Ds→(∀D∈Ds,w.heap.size≤D)→HR P τ h2 w3→Ext ρ w τ w3→Takes P (fun w'=> ∃v,(results fn a2.tmps).run P w'=.ok v w'∧ziT P ρ w o (.returned v) w'∧zcs p0=zcs p0) (Ds.map zC) w3:=by
       intro Ds
       induction Ds with
       |nil=>
        intro w3 g1 g2 g3 g4
        obtain⟨v,v',rfl,k1,k2⟩:=zjJ hrs g3 hs2 hres
        exact⟨v',k1,⟨v,h2,v',τ,rfl,rfl,k2,g3,g4⟩,rfl⟩
       |cons D Ds ih=>
        intro w3 g1 g2 g3 g4
        obtain⟨k1,k2,k3⟩:=g1.ok D (by simp)
        obtain⟨j1,j2⟩:=g3.shut g4 (o:=.deferred none) (zbh _) k3 (zbh _) nofun (g2 D (by simp)) k2
        exact⟨D,_,rfl,run_takeDeferred k3,ih _ (g1.tail_put _) (fun D' hD'=>g2 D' (by grind)) j1 j2⟩
      exact main Ds w2 hD (fun D hm=>Nat.le_trans q6.size (hds D hm)) hr2 (q6.trans he)
     rcases hcase with⟨rfl,rfl⟩| ⟨i,rfl,rfl⟩| ⟨rfl,rfl⟩| ⟨v,v',rfl,_,rfl⟩
     ·exact⟨.inl rfl,zcs p0,rfl,key hret⟩
     ·cases hret
     ·exact⟨.inr rfl,zcs p0,rfl,key hret⟩
     ·cases hret
    grind
 |.scope c,hc=>by
  rcases zgA hc with⟨hc,_⟩|hc| ⟨_,_,_,_,_,_,hc,_⟩
  ·exact zji (hand_wp hih hrs hx hend hN hs hr hd hp c hc) (by
    intro l a cs w h
    obtain⟨h|h,_⟩:=h<;>cases h)
  ·cases hc
  ·cases hc
 |.region id ops d,hc=>by
  obtain⟨l',hl,hc⟩:=aof hc
  cases d with
  |false=>cases hc
  |true=>
   have hc:some ((if ops.toList.zipIdx.all (fun x=>(x.1.after.toList.filter (Region.binds .any)).all fun e=>Nat.blt e.on x.2) then zez (ancs ops.toList) l' else none).getD zfk)=some (zA (.seq (.ops l) L b)):=hc
   have hc:(if ops.toList.zipIdx.all (fun x=>(x.1.after.toList.filter (Region.binds .any)).all fun e=>Nat.blt e.on x.2) then zez (ancs ops.toList) l' else none)=some (zA (.seq (.ops l) L b)):=by
    generalize hd:(if ops.toList.zipIdx.all (fun x=>(x.1.after.toList.filter (Region.binds .any)).all fun e=>Nat.blt e.on x.2) then zez (ancs ops.toList) l' else none)=dd at hc
    cases dd with
    |some x=>exact hc
    |none=>cases hc
   split at hc
   ·rcases ze4 hc with⟨_,_,e,_⟩| ⟨_,_,_,_,_,_,_,e,_⟩<;>cases e
   grind
 |.cond _ _ _,hc=>by obtain⟨_,_,hc⟩:=aof hc;obtain⟨_,_,hc⟩:=aof hc;obtain⟨_,_,hc⟩:=amf hc;cases hc
 |.block _ _,hc=>by obtain⟨_,_,hc⟩:=amf hc;cases hc
 |.loop _,hc=>by obtain⟨_,_,hc⟩:=amf hc;cases hc
 |.rangeFunc _ _ _ _,hc=>by
  unfold ze at hc
  split at hc
  ·obtain⟨_,_,hc⟩:=aof hc;obtain⟨_,_,hc⟩:=aof hc;obtain⟨_,_,hc⟩:=amf hc;cases hc
  grind
 |.skip,hc=>by cases hc
 |.exit _,hc=>by cases hc
 |.ret,hc=>by cases hc
 |.label _,hc=>by cases hc
 |.goto _,hc=>by cases hc
 |.refuse _,hc=>by cases hc
theorem hand_sound {ih:IH} {M:Nat} (hih: ∀t o,ih t=some o→zdE P M t o) {g:FuncId} {fn:Func} {cf:zb} (hfn:P.funcs[g]? =some fn) (hcf:zbp P fn=some (zfl cf)) {args:List Value} {p p0:Option Value} {h:H} {o:Out} (hv:zfn ih cf args p h=some o)
 {ρ:Rho} {args':Array Value} {w:World} (ra:VRL ρ args args'.toList) (rp:POR ρ p p0) (hr:HR P ρ h w):CallsDIn Fence.wide 0 P g args' (zgh p0) w (fun e u w'=>ziT P ρ w o e w'∧u=zcs p0)∧ ∀w,(callFunc g args').run P w=.ok (.enter g args') w:=by
 obtain⟨hname,c,hbody,hcc,hrs,hnt,hnp⟩:=zbO hcf
 unfold zfn at hv
 rw[hnp] at hv
 cases hdf:cf.dfr with
 |some d=>grind
 |none=>
  rw[hdf] at hv hcc
  dsimp only at hv
  split at hv
  ·rename_i hle
   have hle':args'.size≤fn.ntmps:=by
    have:=Nat.le_of_ble_eq_true hle
    rw[hnt,ra.1] at this;grind
   have hcc:=zcX hcc
   generalize hbd:cf.body=bd at hv hcc
   unfold zi5 at hv
   split at hv
   ·rename_i l L b
    obtain⟨x,hx,hend⟩:=aof hv
    refine⟨zk2 hfn hbody trivial fun c₀ cs hu=> ?_,fun w=> ?_⟩
    ·have:=hand_wp hih hrs hx hend (c₀:=c₀) (cs:=cs) (a:={tmps:=args'++Array.replicate (fn.ntmps - args'.size) undef,defers:=[]}) (N:=fn.ntmps) (w:=w) (by grind) (args_SR ra _) hr rfl rp c hcc
     grind [Frame]
    simp_all[callFunc]
   grind
  grind
structure Same (W W':World):Prop where
 os:W'.os=W.os
 out:W'.output=W.output
 heap: ∀B:Nat,B<W.heap.size→W'.heap[B]? =W.heap[B]?
 froz: ∀a:Addr,a.block<W.heap.size→W'.frozen? a=W.frozen? a
 td:W'.tape=W.tape∧W.drawn≤W'.drawn
 size:W.heap.size≤W'.heap.size
def ziP (b:Bool):zb:=⟨0,[.tmp (bits 0)],.ops [⟨some (bits 0),.mv (.c (.bool b)),none,0⟩],none,none⟩
def primP (p:List Value→H→Option (Value×H)):zb:=⟨0,[],.exit 0,none,some p⟩
def primW (p:List Value→H→Option (Value×H)) (cf:zb):zb:={cf with prim:=some p}
def PrimOk (P:Program) (g:FuncId) (p:List Value→H→Option (Value×H)):Prop:=
 (∀args w,(callFunc g args).run P w=.ok (.enter g args) w)∧
 ∀args h v h',p args h=some (v,h')→ ∀ρ (args':Array Value) w,VRL ρ args args'.toList→HR P ρ h w→Calls P g args' w (ziT P ρ w (.val v h'))
def FnOk (P:Program) (g:FuncId) (cf:zb):Prop:=
 (∃fn,P.funcs[g]? =some fn∧zbp P fn=some (zfl cf))∨
 (∃fn cf0 b,P.funcs[g]? =some fn∧zbp P fn=some (zfl cf0)∧cf=ziP b∧ ∀w,GlOk w→Calls P g #[] w fun e w'=>e=.returned (.bool b)∧Same w w')∨
 (∃p,cf=primP p∧PrimOk P g p)∨
 ∃p fn cf0,cf=primW p cf0∧PrimOk P g p∧P.funcs[g]? =some fn∧zbp P fn=some (zfl cf0)
theorem Same.HR {ρ:Rho} {h:H} {w w':World} (hs:Same w w') (hr:HR P ρ h w):HR P ρ h w' where
 obj:=fun i R o hi ho=>by
  have:=hr.obj i R o hi ho
  have hb:=hs.heap R.blk (hr.blk i R hi)
  simp_all[OR]
 nxt:=hr.nxt
 sep:=hr.sep
 glb:=hr.glb
 blk:=fun i R hi=>Nat.lt_of_lt_of_le (hr.blk i R hi) hs.size
 gl:=⟨hr.gl.1.to fun _ _ e=>hs.heap _ (hr.gl.1.lt e),hr.gl.2⟩
theorem Same.ext {ρ:Rho} {w w':World} (hs:Same w w'):Ext ρ w ρ w' where
 le:=fun _ _ h=>h
 size:=hs.size
 fresh:=fun i R h=>.inl ⟨i,R,h,rfl⟩
 frame:=fun B hB _=>hs.heap B hB
 loops:=fun B r hr=>⟨r,by rw[hs.heap B (Array.getElem?_eq_some_iff.1 hr).1];exact hr,rfl⟩
 os:=hs.os
 out:=hs.out
 froz:=hs.froz
 td:=hs.td
theorem call_sound {F:FuncId→Option zb} (hF: ∀g cf,F g=some cf→FnOk P g cf) {ih:IH} (hdec: ∀c s h o,ih (.code c s h)=some o→zbA c ih s h=some o) (hprim: ∀b s h o,ih (.code (ziP b).body s h)=some o→o=.nrm (s.set (bits 0) (.bool b)) h) {M:Nat} (hih: ∀t o,ih t=some o→zdE P M t o) {f:Value} {args:List Value} {h:H} {o:Out} (hv:zcx F ih args h f=some o):
 zdE P (M+1) (.call f args h) o:=by
 intro ρ f' args' w rf ra hr
 unfold zcx at hv
 split at hv
 ·rename_i g first captured
  obtain⟨cf,hcf,hv⟩:=aof hv
  obtain⟨first',captured',rfl⟩: ∃x y,f'=.func (.func g) x y:=by cases rf;grind
  obtain⟨r1,r2⟩:=VRL.of_func rf
  have rall:VRL ρ (first.toList++args++captured.toList) (first'++args'++captured').toList:=by simpa using(r1.append ra).append r2
  have pri: ∀{p:List Value→H→Option (Value×H)} {x:Value×H},PrimOk P g p→p (first.toList++args++captured.toList) h=some x→zhY h x=some o→CallsIn Fence.wide 0 P g (first'++args'++captured') w (zhF P ρ w o)∧ ∀w,(callFunc g (first'++args'++captured')).run P w=.ok (.enter g (first'++args'++captured')) w:=by
   intro p x ⟨hent,hpk⟩ hp ho
   unfold zhY at ho
   split at ho
   ·cases ho
    obtain⟨v,h'⟩:=x
    exact⟨callsIn_wide.2 ((hpk _ _ _ _ hp ρ _ w rall hr).mono fun e w' h=>.inl h),hent _⟩
   grind
  rcases hF g cf hcf with⟨fn,hfn,hcomp⟩| ⟨fn,cf0,b,hfn,hcomp,rfl,hcalls⟩| ⟨p,rfl,hpr⟩| ⟨p,fn,cf0,rfl,hpr,hfn,hcomp⟩
  ·unfold zcr at hv
   rw[(zbO hcomp).2.choose_spec.2.2.2.2] at hv
   exact zlw hih hdec hfn hcomp hv rall hr
  ·unfold zcr at hv
   have hv:(if Nat.ble (first.toList++args++captured.toList).length (ziP b).ntmps then(ih (.code (ziP b).body (zbB (first.toList++args++captured.toList) 0 .nil) h)).bind (retK (ziP b).results) else none)=some o:=hv
   split at hv
   ·rename_i hle
    have hnil:(first.toList++args++captured.toList)=[]:=List.eq_nil_of_length_eq_zero (by simp_all[ziP])
    obtain⟨o1,ho1,hret⟩:=aof hv
    obtain rfl:=hprim _ _ _ _ ho1
    have harr:first'++args'++captured'= #[]:=by
     have:=rall.1
     grind
    have ho:o=.val (.bool b) h:=by
     have e:ziN [.tmp (bits 0)] ((zbB (first.toList++args++captured.toList) 0 .nil).set (bits 0) (.bool b)) h=some o:=hret
     rw[hnil] at e
     exact(Option.some.inj e).symm
    subst ho
    show CallsIn _ _ _ _ (first'++args'++captured') _ _∧_
    rw[harr]
    refine⟨callsIn_wide.2 ((hcalls w hr.gl.1).mono ?_),fun w=> ?_⟩
    ·rintro e w' ⟨rfl,hs⟩
     exact .inl ⟨_,_,_,ρ,rfl,rfl,.bool _,hs.HR hr,hs.ext⟩
    ·obtain⟨hname,c,hbody,hcc,hrs,hnt,-⟩:=zbO hcomp
     have hne: ¬fn.name= "runtime.NumGoroutine" :=by grind
     simp[callFunc,hfn,hne,hbody]
   grind
  ·unfold zcr at hv
   have hv:(match p (first.toList++args++captured.toList) h with|some x=>zhY h x|none=>zbz ih (primP p) (first.toList++args++captured.toList) h)=some o:=hv
   split at hv
   ·rename_i x hp
    exact pri hpr hp hv
   ·unfold zbz at hv
    split at hv
    ·obtain⟨o1,h1,h2⟩:=aof hv
     have:=hdec _ _ _ _ h1
     have e:o1=.exit 0 (zbB (first.toList++args++captured.toList) 0 .nil) h:=(Option.some.inj this).symm
     subst e;cases h2
    grind
  ·unfold zcr at hv
   have hv:(match p (first.toList++args++captured.toList) h with|some x=>zhY h x|none=>zbz ih cf0 (first.toList++args++captured.toList) h)=some o:=hv
   split at hv
   ·rename_i x hp
    exact pri hpr hp hv
   ·exact zlw hih hdec hfn hcomp hv rall hr
 ·rename_i l first captured
  split at hv
  ·obtain⟨lo,hlo,hv⟩:=aof hv
   obtain⟨R,hR,rfl⟩: ∃R,ρ l=some R∧f'=.func (.yield R.blk) #[] #[]:=by cases rf with|yield h=>grind
   exact round_sound hih hlo hv hR ra hr
  grind
 grind
theorem hand_task {F:FuncId→Option zb} (hF: ∀g cf,F g=some cf→FnOk P g cf) {ih:IH} {M:Nat} (hih: ∀t o,ih t=some o→zdE P M t o) {f:Value} {args:List Value} {p:Option Value} {h:H} {o:Out} (hv:zct F ih args p h f=some o):
 zdE P (M+1) (.hand f args p h) o:=by
 intro ρ f' args' p' w rf ra rp hr
 unfold zct at hv
 split at hv
 ·rename_i g first captured
  obtain⟨cf,hcf,hv⟩:=aof hv
  obtain⟨first',captured',rfl⟩: ∃x y,f'=.func (.func g) x y:=by cases rf;grind
  obtain⟨r1,r2⟩:=VRL.of_func rf
  have rall:VRL ρ (first.toList++args++captured.toList) (first'++args'++captured').toList:=by simpa using(r1.append ra).append r2
  rcases hF g cf hcf with⟨fn,hfn,hcomp⟩| ⟨fn,cf0,b,hfn,hcomp,rfl,hcalls⟩| ⟨p,rfl,hpr⟩| ⟨p,fn,cf0,rfl,hpr,hfn,hcomp⟩
  ·exact hand_sound hih hfn hcomp hv rall rp hr
  ·exfalso
   unfold zfn ziP at hv
   dsimp only at hv
   split at hv
   ·cases hv
   grind
  ·cases hv
  ·cases hv
 grind
end Go.Ideal
namespace Go.Ideal
variable {P:Program}
theorem zjF {ih:IH} (hnx: ∀t o,ih t=some o→zgE t≤zbK o): ∀{l:List CI} {s:za} {h:H} {o:Out},zb7 ih l s h=some o→h.next≤zbK o
 | [],s,h,o,hv=>by rw[zli] at hv;cases hv;exact Nat.le_refl _
 |c::l,s,h,o,hv=>by
  rw[zch] at hv
  obtain⟨y,hstep,hrest⟩:=aof hv
  obtain⟨b,hb,hstep⟩:=aof hstep
  have h1:h.next≤zbK y:=by
   cases b with
   |true=>exact zlD hnx hstep
   |false=>cases hstep;exact Nat.le_refl _
  refine Nat.le_trans h1 ?_
  cases y with
  |val v g=>exact zjF hnx (show zb7 ih l _ _=some o from hrest)
  |pan _ _ _=>cases hrest;exact Nat.le_refl _
  |nrm _ _=>cases hrest
  |exit _ _ _=>cases hrest
  |ret _ _=>cases hrest
theorem zdV {ih:IH} (hnx: ∀t o,ih t=some o→zgE t≤zbK o): ∀{l:List CI} {bs:List (Nat×H)} {s:za} {h:H} {s':za} {h':H},zx ih l bs s h=some (s',h')→h.next≤h'.next
 | [],bs,s,h,s',h',hv=>by grind [zkj]
 |o::l,bs,s,h,s',h',hv=>by
  rw[zba] at hv
  obtain⟨⟨v,h1,bs1⟩,hstep,hrest⟩:=aof hv
  obtain⟨b,hb,hstep⟩:=aof hstep
  refine Nat.le_trans ?_ (zdV hnx hrest)
  cases b with
  |true=>
   simp only[zcP] at hstep
   split at hstep
   ·obtain⟨x,hx,e⟩:=amf hstep;cases e;exact doOp_next hnx hx
   ·split at hstep
    ·cases bs with
     |nil=>cases hstep
     |cons b0 bs=>
      unfold ziC at hstep
      dsimp only at hstep
      split at hstep
      ·obtain⟨y,hy,e⟩:=amf hstep;grind
      obtain⟨y,hy,hstep⟩:=aof hstep
      grind
    ·obtain⟨x,hx,e⟩:=amf hstep;cases e;exact zhd hx
  |false=>grind
theorem thenK_next {ih:IH} (hnx: ∀t o,ih t=some o→zgE t≤zbK o) {L:List (List Bool)} {b:CC} {o o':Out} (h:thenK ih L b o=some o'):zbK o≤zbK o':=by
 cases o with
 |nrm s h1=>exact hnx _ _ h
 |exit _ _ _=>cases h;grind
 |ret _ _=>cases h;grind
 |val _ _=>cases h;grind
 |pan _ _ _=>cases h;grind
theorem loopK_next {ih:IH} (hnx: ∀t o,ih t=some o→zgE t≤zbK o) {L:List (List Bool)} {b:CC} {o o':Out} (h:loopK ih L b o=some o'):zbK o≤zbK o':=by
 cases o with
 |nrm s h1=>exact hnx _ _ h
 |exit _ _ _=>cases h;grind
 |ret _ _=>cases h;grind
 |val _ _=>cases h;grind
 |pan _ _ _=>cases h;grind
theorem zed {rs:List CR} {s:za} {h:H} {o:Out} (ho:ziN rs s h=some o):zbK o=h.next:=by
 obtain⟨vs,hvs,rfl⟩:=amf ho;rfl
theorem zlm {s:za} {h:H} {p:Option CC} {o:Out} (ho:zkO s h p=some o):zbK o=h.next:=by
 unfold zkO at ho
 split at ho<;>cases ho<;>rfl
theorem codeStep_next {ih:IH} (hnx: ∀t o,ih t=some o→zgE t≤zbK o) {c:CC} {s:za} {h:H} {o:Out} (hv:zbA c ih s h=some o):h.next≤zbK o:=by
 cases c with
 |skip=>cases hv;exact Nat.le_refl _
 |ops l=>exact zjF hnx (show zb7 ih l s h=some o from hv)
 |draw l=>
  have hv:(match zx ih l [(0,h)] s h with
   |some x=>some (nrmOf x)
   |none=>zge ih l [(0,h)] s h)=some o:=hv
  cases hx:zx ih l [(0,h)] s h with
  |some x=>rw[hx] at hv;cases hv;exact zdV hnx hx
  |none=>
   rw[hx] at hv
   obtain⟨n,c,s1,h1,K⟩:=zid l _ s h o 0 h [] rfl (show zge ih l [(0,h)] s h=some o from hv)
   exact Nat.le_trans (zdV hnx K.pre) (zlD hnx K.pan)
 |draw2 l x y=>
  obtain⟨⟨s',h'⟩,hr,hv⟩:=aof hv
  obtain⟨g,hg,e⟩:=amf hv
  subst e
  obtain⟨_,_,_,_,_,_,_,_,n2⟩:=zjr hg
  have:=zdV hnx hr
  show h.next≤g.next
  grind
 |seq a L b=>obtain⟨o1,h1,h2⟩:=aof hv;exact Nat.le_trans (hnx _ _ h1) (thenK_next hnx h2)
 |cond x a b=>obtain⟨u,hu,hv⟩:=aof hv;obtain⟨y,hy,hv⟩:=aof hv;exact hnx _ _ hv
 |block i b=>
  obtain⟨o1,h1,e⟩:=amf hv
  have:=hnx _ _ h1
  subst e
  cases o1 with
  |exit j s' h'=>
   simp only[zhA]
   split<;>exact this
  |nrm _ _=>exact this
  |ret _ _=>exact this
  |val _ _=>exact this
  |pan _ _ _=>exact this
 |loop L b=>obtain⟨o1,h1,h2⟩:=aof hv;exact Nat.le_trans (hnx _ _ h1) (loopK_next hnx h2)
 |rangeFunc rid L f ps as b=>
  obtain⟨u,hu,hv⟩:=aof hv
  obtain⟨g,hg,hv⟩:=aof hv
  obtain⟨o1,ho1,hv⟩:=aof hv
  obtain⟨⟨v1,h1⟩,hval,hv⟩:=aof hv
  obtain⟨lo,hlo,hv⟩:=aof hv
  have h2:=hnx _ _ ho1
  cases o1 with
  |val v0 g0=>
   simp only[zhL,Option.some.injEq,Prod.mk.injEq] at hval
   obtain⟨-,rfl⟩:=hval
   have h3:h.next+1≤g0.next:=h2
   have:zbK o=g0.next:=by
    unfold zfX at hv
    split at hv
    ·have:=zlm hv;exact this
    ·have:=zlm hv;exact this
    grind
   omega
  |nrm _ _=>cases hval
  |exit _ _ _=>cases hval
  |ret _ _=>cases hval
  |pan _ _ _=>cases hval
 |exit i=>cases hv;exact Nat.le_refl _
 |ret=>cases hv;exact Nat.le_refl _
 |scope b l1 r1 l2 r2=>exact hnx (.scope b l1 r1 l2 r2 s h) _ hv
theorem finRound_next {l:Nat} {o o':Out} (h:finRound l o=some o'):zbK o=zbK o':=by
 have fin: ∀{p:Option CC} {g:H} {lo:IObj},zlz l p g lo=some o'→g.next=zbK o':=by
  intro p g lo hf
  cases lo with
  |loop _ _ _ _=>cases hf;rfl
  |cells _ _=>cases hf
  |map _ _=>cases hf
  |dead=>cases hf
  |glob _ _=>cases hf
 cases o with
 |nrm s g=>obtain⟨lo,-,hf⟩:=aof h;exact fin hf
 |exit i s g=>obtain⟨lo,-,hf⟩:=aof h;exact fin hf
 |ret s g=>obtain⟨lo,-,hf⟩:=aof h;exact fin hf
 |val _ _=>cases h
 |pan _ _ _=>cases h
theorem zhU {rs:List CR} {s:za} {o x:Out} (h:resK1 rs s o=some x):zbK x=zbK o:=by
 cases o with
 |val v g=>exact zed h
 |nrm _ _=>cases h
 |exit _ _ _=>cases h
 |ret _ _=>cases h
 |pan _ _ _=>cases h
theorem doneK_next {ih:IH} (hnx: ∀t o,ih t=some o→zgE t≤zbK o) {f:Value} {args:List Value} {rs:List CR} {o x:Out} (hv:doneK ih f args rs o=some x):zbK o≤zbK x:=by
 cases o with
 |nrm s h=>obtain⟨o1,h1,h2⟩:=aof hv;rw[zhU h2];exact hnx _ _ h1
 |ret s h=>obtain⟨o1,h1,h2⟩:=aof hv;rw[zhU h2];exact hnx _ _ h1
 |pan v s h=>obtain⟨o1,h1,h2⟩:=aof hv;rw[zhU h2];exact hnx _ _ h1
 |exit _ _ _=>cases hv
 |val _ _=>cases hv
theorem bodyK_next {ih:IH} (hnx: ∀t o,ih t=some o→zgE t≤zbK o) {rs:List CR} {d:Option Dfr} {o x:Out} (hv:bodyK ih rs d o=some x):zbK o≤zbK x:=by
 cases d with
 |none=>
  cases o with
  |nrm s g=>exact Nat.le_of_eq (zed hv).symm
  |ret s g=>exact Nat.le_of_eq (zed hv).symm
  |pan v s g=>cases hv;exact Nat.le_refl _
  |exit _ _ _=>cases hv
  |val _ _=>cases hv
 |some d=>
  cases o with
  |nrm s h=>
   obtain⟨f,h1,hv⟩:=aof (show(d.f.ev s).bind _=some x from hv)
   obtain⟨f',h2,hv⟩:=aof hv
   obtain⟨l,h3,hv⟩:=aof hv
   obtain⟨o1,h4,hv⟩:=aof hv
   exact Nat.le_trans (hnx _ _ h4) (doneK_next hnx hv)
  |pan _ _ _=>cases hv;exact Nat.le_refl _
  |ret _ _=>cases hv
  |exit _ _ _=>cases hv
  |val _ _=>cases hv
theorem zdS: ∀{l:List CI} {p:Option Value} {s:za} {h:H} {x:Option Value×za×H},zbo l p s h=some x→h.next≤x.2.2.next
 | [],p,s,h,x,hv=>by grind [zj4]
 |o::l,p,s,h,x,hv=>by
  rw[ziy] at hv
  obtain⟨b,hb,hv⟩:=aof hv
  cases b with
  |true=>
   have hv:zeo o (zbo l) p s h=some x:=hv
   unfold zeo at hv
   split at hv
   ·exact zdS hv
   ·obtain⟨y,hy,hv⟩:=aof hv
    exact Nat.le_trans (zhd hy) (zdS hv)
  |false=>exact zdS (show zbo l p _ h=some x from hv)
theorem handStep_next {F:FuncId→Option zb} {ih:IH} (hnx: ∀t o,ih t=some o→zgE t≤zbK o) {f:Value} {args:List Value} {p:Option Value} {h:H} {o:Out} (hv:zct F ih args p h f=some o):h.next≤zbK o:=by
 unfold zct at hv
 split at hv
 ·obtain⟨cf,hcf,hv⟩:=aof hv
  unfold zfn at hv
  split at hv
  ·split at hv
   ·unfold zi5 at hv
    split at hv
    ·rename_i l L b hbd
     obtain⟨⟨px,sx,gx⟩,hx,hv⟩:=aof hv
     cases px with
     |some _=>cases hv
     |none=>
      obtain⟨o1,h1,hv⟩:=aof (show(ih (.code b (zb5 L sx) gx)).bind _=some o from hv)
      have h2:=zdS hx
      have h3:=hnx _ _ h1
      cases o1 with
      |nrm s g=>rw[zed hv];exact Nat.le_trans h2 h3
      |ret s g=>rw[zed hv];exact Nat.le_trans h2 h3
      |exit _ _ _=>cases hv
      |val _ _=>cases hv
      |pan _ _ _=>cases hv
    grind
   grind
  grind
 grind
theorem callStep_next {F:FuncId→Option zb} {ih:IH} (hnx: ∀t o,ih t=some o→zgE t≤zbK o) {f:Value} {args:List Value} {h:H} {o:Out} (hv:zcx F ih args h f=some o):h.next≤zbK o:=by
 unfold zcx at hv
 split at hv
 ·obtain⟨cf,hcf,hv⟩:=aof hv
  have wk: ∀l,zbz ih cf l h=some o→h.next≤zbK o:=by
   intro l hv
   unfold zbz at hv
   split at hv
   ·obtain⟨o1,ho1,hret⟩:=aof hv
    exact Nat.le_trans (hnx _ _ ho1) (bodyK_next hnx hret)
   grind
  unfold zcr at hv
  split at hv
  ·grind
  ·split at hv
   ·unfold zhY at hv
    split at hv
    ·rename_i hle;cases hv;exact Nat.le_of_ble_eq_true hle
    grind
   grind
 ·split at hv
  ·obtain⟨lo,hlo,hv⟩:=aof hv
   cases lo with
   |loop st pend sl rc=>
    obtain⟨s0,hs0,hv⟩:=aof hv
    obtain⟨o1,ho1,hv⟩:=aof hv
    have h1:=hnx _ _ ho1
    cases o1 with
    |nrm s g=>
     obtain⟨lo1,hlo1,hv⟩:=aof hv
     cases lo1 with
     |loop st1 pend1 sl1 rc1=>
      cases st1<;>simp only[zg9,reduceCtorEq] at hv
      obtain⟨o2,ho2,hfin⟩:=aof hv
      have h2:=hnx _ _ ho2
      rw[←finRound_next hfin]
      exact Nat.le_trans h1 h2
     |cells _ _=>cases hv
     |map _ _=>cases hv
     |dead=>cases hv
     |glob _ _=>cases hv
    |exit _ _ _=>cases hv
    |ret _ _=>cases hv
    |val _ _=>cases hv
    |pan _ _ _=>cases hv
   |cells _ _=>cases hv
   |map _ _=>cases hv
   |dead=>cases hv
   |glob _ _=>cases hv
  grind
 grind
theorem zkF {F:FuncId→Option zb}: ∀(n:Nat) (t:Task) (o:Out),E F n t=some o→zgE t≤zbK o
 |0,t,o,h=>by cases h
 |n+1,t,o,h=>by
  cases t with
  |code c s g=>exact codeStep_next (zkF n) (show zbA c (E F n) s g=some o from h)
  |call f args g=>exact callStep_next (zkF n) (show zcx F (E F n) args g f=some o from h)
  |hand f args p g=>exact handStep_next (zkF n) (show zct F (E F n) args p g f=some o from h)
  |scope b l1 r1 l2 r2 s g=>
   obtain⟨o1,h1,h2⟩:=aof (show zdl (E F n) b l1 r1 l2 r2 s g=some o from h)
   have h3:=zkF n _ _ h1
   cases o1 with
   |exit i s' g'=>
    have h2:zdk (E F n) l1 r1 l2 r2 i s' g'=some o:=h2
    unfold zdk at h2
    refine Nat.le_trans h3 ?_
    split at h2
    ·exact zkF n _ _ h2
    ·split at h2
     ·exact zkF n _ _ h2
     grind
   |nrm _ _=>cases h2;exact h3
   |ret _ _=>cases h2;exact h3
   |val _ _=>cases h2;exact h3
   |pan _ _ _=>cases h2;exact h3
section
theorem zgw {ih:IH} {c:CC} {s:za} {h:H} (hc:zfk=zA c):zbA c ih s h=none:=by
 obtain⟨a,b,rfl,-,-⟩:=zk9 hc
 rfl
theorem zgq {ih:IH} {M:Nat} (hih: ∀t o,ih t=some o→zdE P M t o) (hmix:P.follows .mixedOrders=true) (hnx: ∀t o,ih t=some o→zgE t≤zbK o): ∀(code:Code) (c:CC) (N:Nat),ze P N code=some (zA c)→ ∀(s:za) (h:H) (o:Out),zbA c ih s h=some o→
 ∀(r:Option Nat) (ρ:Rho) (a:Act) (w:World) (Ds:List Nat) (Db:List Deferred),ze9 r w→a.tmps.size=N→SR ρ s a.tmps→HR P ρ h w→a.defers=Ds.map zC++Db→zR ρ w Ds→CodeOk P (M+1) r (zcY P ρ w N Ds Db o) a w code
 |.skip,c,N,hc,s,h,o,hv,r,ρ,a,w,Ds,Db,hR,hN,hs,hr,hd,hD=>by
  obtain rfl:=zk7 (Option.some.inj hc);cases hv
  exact wpIn_skip ⟨ρ,Ds,s,h,.refl _ _,hN,hd,⟨hD,fun D h=>.inl h⟩,hs,hr,.inl ⟨rfl,rfl⟩⟩
 |.label l,c,N,hc,s,h,o,hv,r,ρ,a,w,Ds,Db,hR,hN,hs,hr,hd,hD=>by
  obtain rfl:=zk7 (Option.some.inj hc);cases hv
  exact wpIn_label ⟨ρ,Ds,s,h,.refl _ _,hN,hd,⟨hD,fun D h=>.inl h⟩,hs,hr,.inl ⟨rfl,rfl⟩⟩
 |.exit i,c,N,hc,s,h,o,hv,r,ρ,a,w,Ds,Db,hR,hN,hs,hr,hd,hD=>by
  obtain rfl:=zk8 (Option.some.inj hc);cases hv
  exact wpIn_exit ⟨ρ,Ds,s,h,.refl _ _,hN,hd,⟨hD,fun D h=>.inl h⟩,hs,hr,.inr (.inl ⟨_,rfl,(zcN i).symm⟩)⟩
 |.ret,c,N,hc,s,h,o,hv,r,ρ,a,w,Ds,Db,hR,hN,hs,hr,hd,hD=>by
  obtain rfl:=strip_ret (Option.some.inj hc);cases hv
  exact wpIn_ret ⟨ρ,Ds,s,h,.refl _ _,hN,hd,⟨hD,fun D h=>.inl h⟩,hs,hr,.inr (.inr (.inl ⟨rfl,rfl⟩))⟩
 |.goto l,c,N,hc,s,h,o,hv,r,ρ,a,w,Ds,Db,hR,hN,hs,hr,hd,hD=>by
  obtain rfl:=zk8 (Option.some.inj hc);cases hv
  exact wpIn_goto ⟨ρ,Ds,s,h,.refl _ _,hN,hd,⟨hD,fun D h=>.inl h⟩,hs,hr,.inr (.inl ⟨_,rfl,(zdu l).symm⟩)⟩
 |.refuse l,c,N,hc,s,h,o,hv,_,_,_,_,_,_,_,_,_,_,_,_=>by rw[zgw (Option.some.inj hc)] at hv;cases hv
 |.scope b,c,N,hc,s,h,o,hv,r,ρ,a,w,Ds,Db,hR,hN,hs,hr,hd,hD=>by
  rcases zgA hc with⟨hc,hl⟩|hc| ⟨cb,l1,r1,l2,r2,hb,hc,⟨s1,f1,g1⟩,⟨s2,f2,g2⟩,f3⟩
  ·exact wpIn_scope (zgq hih hmix hnx b c N hc s h o hv r ρ a w Ds Db hR hN hs hr hd hD).wpIn hl
  ·grind [zgw]
  ·obtain⟨b',r1',r2',rfl,rfl,rfl,rfl⟩:=strip_scope hc.symm
   exact wpIn_inScope (hih _ _ (show ih (.scope b' l1 r1' l2 r2' s h)=some o from hv) b b N hb ⟨⟨s1,f1,g1⟩,⟨s2,f2,g2⟩,f3⟩ r ρ a w Ds Db hR hN hs hr hd hD)
 |.region id ops d,c,N,hc,s,h,o,hv,r,ρ,a,w,Ds,Db,hR,hN,hs,hr,hd,hD=>by
  obtain⟨l,hl,hc⟩:=aof hc
  cases d with
  |false=>
   obtain rfl:=zjq (Option.some.inj hc)
   exact wpIn_region (ops_wpIn hih r hl (show zb7 ih l s h=some o from hv) hr hs hN hd hD)
  |true=>
   have hc:some ((if ops.toList.zipIdx.all (fun x=>(x.1.after.toList.filter (Region.binds .any)).all fun e=>Nat.blt e.on x.2) then zez (ancs ops.toList) l else none).getD zfk)=some (zA c):=hc
   have hc:(if ops.toList.zipIdx.all (fun x=>(x.1.after.toList.filter (Region.binds .any)).all fun e=>Nat.blt e.on x.2) then zez (ancs ops.toList) l else none)=some (zA c):=by
    generalize hd:(if ops.toList.zipIdx.all (fun x=>(x.1.after.toList.filter (Region.binds .any)).all fun e=>Nat.blt e.on x.2) then zez (ancs ops.toList) l else none)=dd at hc
    cases dd with
    |some x=>exact hc
    |none=>grind [zgw]
   split at hc
   ·rename_i hbk
    have e:zA c=c:=by
     grind [ze4,strip_draw,strip_draw2]
    rw[e] at hc
    exact draw_sound hmix hih hnx hl hbk hc hv hN hs hr hd hD
   grind
 |.seq x y,c,N,hc,s,h,o,hv,r,ρ,a,w,Ds,Db,hR,hN,hs,hr,hd,hD=>by
  obtain⟨cx,hx,hc⟩:=aof hc
  obtain⟨cy,hy,hc⟩:=amf hc
  obtain⟨ca,L,cb,rfl,rfl,rfl⟩:=zjp hc
  obtain⟨o1,h1,h2⟩:=aof hv
  refine wpIn_seq (wpIn_mono ((hih _ _ h1 x N hx r ρ a w Ds Db hR hN hs hr hd hD).wpIn) ?_)
  rintro e a1 w1 ⟨σ,Ds1,s1,hh1,he,hN1,hd1,⟨hD1,hds1⟩,hs1,hr1,hcase⟩
  rcases hcase with⟨rfl,rfl⟩| ⟨i,rfl,rfl⟩| ⟨rfl,rfl⟩| ⟨pv,pv',rfl,hpv,rfl⟩
  ·exact wpIn_mono ((hih _ _ h2 y N hy r σ a1 w1 Ds1 Db (hR.ext he) hN1 (hs1.keep L) hr1 hd1 hD1).wpIn) (fun e a2 w2 h=>h.ext he hds1)
  ·cases h2
   have hp:zcY P ρ w N Ds Db (.exit i s1 hh1) (exOf i) a1 w1:=⟨σ,Ds1,s1,hh1,he,hN1,hd1,⟨hD1,hds1⟩,hs1,hr1,.inr (.inl ⟨i,rfl,rfl⟩)⟩
   rcases zhq i with⟨j,rfl⟩| ⟨l,rfl⟩
   ·rw[zcN] at hp⊢;exact hp
   ·rw[zdu] at hp⊢;exact hp
  ·cases h2;exact⟨σ,Ds1,s1,hh1,he,hN1,hd1,⟨hD1,hds1⟩,hs1,hr1,.inr (.inr (.inl ⟨rfl,rfl⟩))⟩
  ·cases h2;exact⟨σ,Ds1,s1,hh1,he,hN1,hd1,⟨hD1,hds1⟩,hs1,hr1,.inr (.inr (.inr ⟨pv,pv',rfl,hpv,rfl⟩))⟩
 |.cond x y z,c,N,hc,s,h,o,hv,r,ρ,a,w,Ds,Db,hR,hN,hs,hr,hd,hD=>by
  obtain⟨cx,hx,hc⟩:=aof hc
  obtain⟨cy,hy,hc⟩:=aof hc
  obtain⟨cz,hz,hc⟩:=amf hc
  obtain⟨ca,cb,rfl,rfl,rfl⟩:=zk9 hc
  obtain⟨u,hu,hv⟩:=aof hv
  obtain⟨cc,hcc,hv⟩:=aof hv
  have hxv:=zbg hx hs hu
  unfold condV at hcc
  split at hcc
  ·cases hcc
   exact wpIn_cond_true hxv.inv_bool ((hih _ _ hv y N hy r ρ a w Ds Db hR hN hs hr hd hD).wpIn)
  ·cases hcc
   exact wpIn_cond_false hxv.inv_bool ((hih _ _ hv z N hz r ρ a w Ds Db hR hN hs hr hd hD).wpIn)
  grind
 |.block id b,c,N,hc,s,h,o,hv,r,ρ,a,w,Ds,Db,hR,hN,hs,hr,hd,hD=>by
  obtain⟨cb,hb,hc⟩:=amf hc
  obtain⟨ca,rfl,rfl⟩:=strip_block hc
  obtain⟨o1,h1,rfl⟩:=amf hv
  refine wpIn_block (wpIn_mono ((hih _ _ h1 b N hb r ρ a w Ds Db hR hN hs hr hd hD).wpIn) ?_)
  rintro e a1 w1 ⟨σ,Ds1,s1,hh1,he,hN1,hd1,⟨hD1,hds1⟩,hs1,hr1,hcase⟩
  rcases hcase with⟨rfl,rfl⟩| ⟨i,rfl,rfl⟩| ⟨rfl,rfl⟩| ⟨pv,pv',rfl,hpv,rfl⟩
  ·exact⟨σ,Ds1,s1,hh1,he,hN1,hd1,⟨hD1,hds1⟩,hs1,hr1,.inl ⟨rfl,rfl⟩⟩
  ·by_cases hid:i=2*id
   ·subst hid
    rw[zcN]
    simp only[Exit.inBlock,if_true,zhA,Nat.beq_refl]
    exact⟨σ,Ds1,s1,hh1,he,hN1,hd1,⟨hD1,hds1⟩,hs1,hr1,.inl ⟨rfl,rfl⟩⟩
   grind [Nat.eq_of_beq_eq_true,zcY,zhA,exOf,Exit.inBlock]
  ·exact⟨σ,Ds1,s1,hh1,he,hN1,hd1,⟨hD1,hds1⟩,hs1,hr1,.inr (.inr (.inl ⟨rfl,rfl⟩))⟩
  ·exact⟨σ,Ds1,s1,hh1,he,hN1,hd1,⟨hD1,hds1⟩,hs1,hr1,.inr (.inr (.inr ⟨pv,pv',rfl,hpv,rfl⟩))⟩
 |.loop b,c,N,hc,s,h,o,hv,r,ρ,a,w,Ds,Db,hR,hN,hs,hr,hd,hD=>by
  obtain⟨cb,hb,hc⟩:=amf hc
  obtain⟨L,ca,rfl,rfl⟩:=strip_loop hc
  obtain⟨o1,h1,h2⟩:=aof hv
  show Code.roundsIn (Wf r) 0 P b _ (M+1) a w
  rw[roundsIn_succ]
  refine wpIn_mono ((hih _ _ h1 b N hb r ρ a w Ds Db hR hN (hs.keep L) hr hd hD).wpIn) ?_
  rintro e a1 w1 ⟨σ,Ds1,s1,hh1,he,hN1,hd1,⟨hD1,hds1⟩,hs1,hr1,hcase⟩
  rcases hcase with⟨rfl,rfl⟩| ⟨i,rfl,rfl⟩| ⟨rfl,rfl⟩| ⟨pv,pv',rfl,hpv,rfl⟩
  ·have hl:CodeOk P M r (zcY P σ w1 N Ds1 Db o) a1 w1 (.loop b):=hih _ _ h2 (.loop b) N (by grind) r σ a1 w1 Ds1 Db (hR.ext he) hN1 hs1 hr1 hd1 hD1
   exact zjI (fun e a2 w2 h=>h.ext he hds1) M a1 w1 hl
  ·cases h2
   have hp:zcY P ρ w N Ds Db (.exit i s1 hh1) (exOf i) a1 w1:=⟨σ,Ds1,s1,hh1,he,hN1,hd1,⟨hD1,hds1⟩,hs1,hr1,.inr (.inl ⟨i,rfl,rfl⟩)⟩
   rcases zhq i with⟨j,rfl⟩| ⟨l,rfl⟩
   ·rw[zcN] at hp⊢;exact hp
   ·rw[zdu] at hp⊢;exact hp
  ·cases h2;exact⟨σ,Ds1,s1,hh1,he,hN1,hd1,⟨hD1,hds1⟩,hs1,hr1,.inr (.inr (.inl ⟨rfl,rfl⟩))⟩
  ·cases h2;exact⟨σ,Ds1,s1,hh1,he,hN1,hd1,⟨hD1,hds1⟩,hs1,hr1,.inr (.inr (.inr ⟨pv,pv',rfl,hpv,rfl⟩))⟩
 |.rangeFunc f ps as b,c,N,hc,s,h,o,hv,r,ρ,a,w,Ds,Db,hR,hN,hs,hr,hd,hD=>by
  unfold ze at hc
  split at hc
  ·rename_i hps
   obtain⟨cf,hf,hc⟩:=aof hc
   obtain⟨cas,has,hc⟩:=aof hc
   obtain⟨cb,hb,hc⟩:=amf hc
   obtain⟨rid,L,ca,cb',rfl,rfl,rfl⟩:=strip_range hc
   exact range_sound hih hps hf has hb hv hR hN hs hr hd hD
  grind
end
theorem E_sound {F:FuncId→Option zb} (hmix:P.follows .mixedOrders=true) (hF: ∀g cf,F g=some cf→FnOk P g cf): ∀(n:Nat) (t:Task) (o:Out),E F n t=some o→zdE P n t o
 |0,t,o,h=>by cases h
 |n+1,t,o,h=>by
  have hih:=E_sound hmix hF n
  cases t with
  |code c s g=>
   intro code N hc r ρ a w Ds Db hR hN hs hr hd hD
   exact zgq hih hmix (zkF n) code c N hc s g o (show zbA c (E F n) s g=some o from h) r ρ a w Ds Db hR hN hs hr hd hD
  |call f args g=>
   refine call_sound hF (E_dec n) (fun b s h o he=> ?_) hih (show zcx F (E F n) args g f=some o from h)
   cases n with
   |zero=>cases he
   |succ n=>exact(Option.some.inj he).symm
  |hand f args p g=>exact hand_task hF hih (show zct F (E F n) args p g f=some o from h)
  |scope b l1 r1 l2 r2 s g=>exact scope_sound hih (show zdl (E F n) b l1 r1 l2 r2 s g=some o from h)
theorem zih {F:FuncId→Option zb} (hmix:P.follows .mixedOrders=true) (hF: ∀g cf,F g=some cf→FnOk P g cf) {n:Nat} {g:FuncId} {args:List Value} {h h':H} {v:Value}
 (he:E F n (.call (.func (.func g) #[] #[]) args h)=some (.val v h')) {ρ:Rho} {args':Array Value} {w:World} (ra:VRL ρ args args'.toList) (hr:HR P ρ h w):
 Calls P g args' w fun e w'=> ∃v' σ,e=.returned v'∧VR σ v v'∧HR P σ h' w'∧Ext ρ w σ w':=by
 have hs:=E_sound hmix hF n _ _ he ρ (.func (.func g) #[] #[]) args' w (.func g rfl rfl (by simp) (by simp)) ra hr
 have hc:=callsIn_wide.1 hs.1
 simp only[Array.empty_append,Array.append_empty] at hc
 refine hc.mono ?_
 intro e w' hpp
 obtain⟨v0,h0,v',σ,e1,e2,q1,q2,q3⟩:=hpp.val
 grind
end Go.Ideal
namespace Go.Ideal
noncomputable section
variable {P:Program}
structure K where
 nrm:za→H→Option Out
 ext:Nat→za→H→Option Out
 ret:za→H→Option Out
 pan:Value→za→H→Option Out
def apK (k:K):Out→Option Out
 |.nrm s h=>k.nrm s h
 |.exit i s h=>k.ext i s h
 |.ret s h=>k.ret s h
 |.val _ _=>none
 |.pan v s h=>k.pan v s h
def k2 (r:R) (k:Value→H→Option Out):Option Out:=r.bind fun x=>k x.1 x.2
def kc (r p:R) (kp:Value→H→Option Out) (k:Value→H→Option Out):Option Out:=match r with
 |some x=>k x.1 x.2
 |none=>p.bind fun x=>kp x.1 x.2
structure Rn where
 call:Value→List Value→H→R
 pan:Value→List Value→H→R
 hand:Value→List Value→Option Value→H→Option H
 loop:List (List Bool)→CC→K→((List Value→H→Option Out)→List Value→H→Option Out)→List Value→H→Option Out
abbrev uc (vs:List Value) (k:Value→List Value→Option Out):Option Out:=List.rec (motive:=fun _=>Option Out) none (fun v r _=>k v r) vs
abbrev un (vs:List Value) (k:Option Out):Option Out:=List.rec (motive:=fun _=>Option Out) k (fun _ _ _=>none) vs
def br (v:Value) (a b:Option Out):Option Out:=match v with
 |.bool true=>a
 |.bool false=>b
 |_=>none
abbrev getL (L:List (List Bool)) (s:za):(List Value→Option Out)→Option Out:=
 List.rec (motive:=fun _=>(List Value→Option Out)→Option Out) (fun k=>k []) (fun p _ ih k=>(s.get p).bind fun v=>ih fun vs=>k (v::vs)) L
abbrev withL (L:List (List Bool)):List Value→(za→Option Out)→Option Out:=
 List.rec (motive:=fun _=>List Value→(za→Option Out)→Option Out) (fun vs k=>un vs (k .nil)) (fun p _ ih vs k=>uc vs fun v vs=>ih vs fun s=>k (s.set p v)) L
def setL (L:List (List Bool)):List Value→za:=
 List.rec (motive:=fun _=>List Value→za) (fun _=>.nil) (fun p _ ih vs=>match vs with|v::vs=>(ih vs).set p v| []=>.nil) L
def shDo (X:Rn) (op:COp) (s:za) (h:H) (kp:Value→H→Option Out) (k:Value→H→Option Out):Option Out:=match op with
 |.call f args=>(f.ev s).bind fun f=>(evL s args).bind fun l=>kc (X.call f l h) (X.pan f l h) kp k
 |.invoke tbl x args=>(x.ev s).bind fun v=>(zgI tbl v).bind fun r=>(evL s args).bind fun l=>kc (X.call (.func (.func r.1) #[] #[]) (r.2::l) h) (X.pan (.func (.func r.1) #[] #[]) (r.2::l) h) kp k
 |.panic x=>(x.ev s).bind fun v=>match v with|.iface t u=>kp (.iface t u) h|_=>none
 |op=>k2 (opV op s h) k
def shStep (X:Rn) (o:CI) (s:za) (h:H) (kp:Value→H→Option Out) (k:Value→H→Option Out):Option Out:=(zbb o.guard s).bind fun b=>match b with
 |true=>shDo X o.op s h kp k
 |false=>k zM h
def shOps (X:Rn) (kp:Value→za→H→Option Out) (l:List CI):za→H→(za→H→Option Out)→Option Out:=
 List.rec (motive:=fun _=>za→H→(za→H→Option Out)→Option Out) (fun s h k=>k s h) (fun o _ ih s h k=>shStep X o s h (fun v h=>kp v s h) fun v h=>ih (zY o.dst v s) h k) l
def shDo1 (X:Rn) (op:COp) (s:za) (h:H):R:=match op with
 |.call f args=>(f.ev s).bind fun f=>(evL s args).bind fun l=>X.call f l h
 |.invoke tbl x args=>(x.ev s).bind fun v=>(zgI tbl v).bind fun r=>(evL s args).bind fun l=>X.call (.func (.func r.1) #[] #[]) (r.2::l) h
 |op=>opV op s h
def zjv (X:Rn) (o:CI) (s:za) (h:H):R:=(zbb o.guard s).bind fun b=>match b with
 |true=>shDo1 X o.op s h
 |false=>some (zM,h)
def zlj (rd:H→R) (lo:Nat) (v:Value):List (Nat×H)→Bool
 | []=>true
 |x::r=>if Nat.blt x.1 lo then zlj rd lo v r else match rd x.2 with
  |some y=>eqVal v y.1&&zlj rd lo v r
  |none=>false
def rdF (rd:H→R) (lo:Nat) (h:H):List (Nat×H)→R
 | []=>none
 |x::r=>(rd x.2).bind fun y=>if zlj rd lo y.1 r then some (y.1,h) else none
def rdStep (o:CI) (bs:List (Nat×H)) (s:za) (h:H):R:=(zbb o.guard s).bind fun b=>match b with
 |true=>match bs with
  | []=>none
  |x::_=>match ze1 o.op s x.2.next h.next with
   |true=>opV o.op s h
   |false=>rdF (opV o.op s) o.lo h bs
 |false=>some (zM,h)
def zg3 (X:Rn) (l:List CI):List (Nat×H)→za→H→(za→H→Option Out)→Option Out:=
 List.rec (motive:=fun _=>List (Nat×H)→za→H→(za→H→Option Out)→Option Out) (fun _ s h k=>k s h)
  (fun o _ ih bs s h k=>match isW o.op with
    |true=>k2 (zjv X o s h) fun v h=>ih ((zkR bs,h)::bs) (zY o.dst v s) h k
    |false=>match isRd o.op with
     |true=>k2 (rdStep o bs s h) fun v h=>ih bs (zY o.dst v s) h k
     |false=>k2 (zjv X o s h) fun v h=>ih bs (zY o.dst v s) h k) l
def pendK2 (k:K) (s:za) (h:H):Option CC→Option Out
 |none=>k.nrm s h
 |some .ret=>k.ret s h
 |some (.exit i)=>k.ext i s h
 |_=>none
def rgEnd (k:K) (s:za) (l:Nat) (h:H):Option Out:=(h.get l).bind fun o=>match o with
 |.loop .ready pend sl rc=>pendK2 k s (h.put l (.loop .exhausted pend sl rc)) pend
 |.loop .done pend sl rc=>pendK2 k s (h.put l (.loop .exhausted pend sl rc)) pend
 |_=>none
def st2 (g:Option H) (k:H→Option Out):Option Out:=g.bind k
def blkX (i:Nat) (k:K) (j:Nat) (s:za) (h:H):Option Out:=match Nat.beq j i with
 |true=>k.nrm s h
 |false=>k.ext j s h
def someL (L:List (List Bool)) (o:Option Out):Option Out:=List.rec (motive:=fun _=>Option Out) none (fun _ _ _=>o) L
def sh (X:Rn) (c:CC):K→za→H→Option Out:=
 CC.rec (motive:=fun _=>K→za→H→Option Out)
  (fun k s h=>k.nrm s h)
  (fun l k s h=>shOps X k.pan l s h k.nrm)
  (fun l k s h=>zg3 X l [(0,h)] s h k.nrm)
  (fun l x y k s h=>zg3 X l [(0,h)] s h fun s h=>st2 (zdH x.op y.op s h) fun h=>k.nrm s h)
  (fun _ L _ iha ihb k s h=>iha ⟨fun s h=>ihb k (zb5 L s) h,k.ext,k.ret,k.pan⟩ s h)
  (fun c _ _ iha ihb k s h=>(c.ev s).bind fun v=>br v (iha k s h) (ihb k s h))
  (fun i _ ih k s h=>ih ⟨k.nrm,blkX i k,k.ret,k.pan⟩ s h)
  (fun L b ih k s h=>someL L (getL L s fun vs=>X.loop L b k (fun self vs h=>withL L vs fun s=>ih ⟨fun s h=>getL L s fun vs=>self vs h,k.ext,k.ret,k.pan⟩ s h) vs h))
  (fun rid L f ps as b _ _ k s h=>(f.ev s).bind fun f=>(isFn f).bind fun f=>k2 (X.call f [.func (.yield h.next) #[] #[]] (h.new (.loop .ready none (zb5 L s) ⟨rid,L,ps,as,b⟩))) fun _ h'=>rgEnd k s h.next h')
  (fun i k s h=>k.ext i s h)
  (fun k s h=>k.ret s h)
  (fun _ _ _ _ _ _ _ _ _ _ _=>none) c
structure zkD (F:FuncId→Option zb) (X:Rn):Prop where
 call: ∀f args h v h',X.call f args h=some (v,h')→ ∃n,E F n (.call f args h)=some (.val v h')
 pan: ∀f args h v h',X.pan f args h=some (v,h')→ ∃n,E F n (.call f args h)=some (.pan v .nil h')
 hand: ∀f args p h h',X.hand f args p h=some h'→ ∃n v,E F n (.hand f args p h)=some (.val v h')
 loop: ∀L b k body vs h r,X.loop L b k body vs h=some r→ ∃n o,E F n (.code (.loop L b) (setL L vs) h)=some o∧apK k o=some r
section
variable {F:FuncId→Option zb} {X:Rn}
theorem zj0 {r:R} {k:Value→H→Option Out} {o:Out} (h:k2 r k=some o): ∃v h',r=some (v,h')∧k v h'=some o:=by
 obtain⟨⟨v,h'⟩,h1,h2⟩:=aof h;grind
theorem kc_some {r p:R} {kp k:Value→H→Option Out} {o:Out} (h:kc r p kp k=some o):(∃v h',r=some (v,h')∧k v h'=some o)∨(∃v h',p=some (v,h')∧kp v h'=some o):=by
 cases r with
 |some x=>exact .inl ⟨x.1,x.2,rfl,h⟩
 |none=>obtain⟨⟨v,h'⟩,h1,h2⟩:=aof (show p.bind (fun x=>kp x.1 x.2)=some o from h);grind
theorem br_some {v:Value} {a b:Option Out} {o:Out} (h:br v a b=some o):(v=.bool true∧a=some o)∨(v=.bool false∧b=some o):=by
 unfold br at h
 grind
theorem getL_some: ∀{L:List (List Bool)} {s:za} {k:List Value→Option Out} {o:Out},getL L s k=some o→ ∃vs,zci L s=setL L vs∧k vs=some o
 | [],s,k,o,h=>⟨[],rfl,h⟩
 |p::L,s,k,o,h=>by
  obtain⟨v,hv,h⟩:=aof (show(s.get p).bind (fun v=>getL L s fun vs=>k (v::vs))=some o from h)
  obtain⟨vs,h1,h2⟩:=getL_some h
  exact⟨v::vs,by simp_all[zci,setL],h2⟩
theorem fuel2 {n m:Nat}:n≤n+m∧m≤n+m:=by grind
theorem shDo_some (S:zkD F X) {op:COp} {s:za} {h:H} {kp k:Value→H→Option Out} {o:Out} (hv:shDo X op s h kp k=some o):
 ∃n,(∃v h',zcV (E F n) op s h=some (.val v h')∧k v h'=some o)∨(∃v s' h',zcV (E F n) op s h=some (.pan v s' h')∧kp v h'=some o):=by
 have call: ∀f l,kc (X.call f l h) (X.pan f l h) kp k=some o→ ∃n,(∃v h',(E F n (.call f l h)).bind zkP=some (.val v h')∧k v h'=some o)∨(∃v s' h',(E F n (.call f l h)).bind zkP=some (.pan v s' h')∧kp v h'=some o):=by
  intro f l hk
  rcases kc_some hk with⟨v,h',h1,h2⟩| ⟨v,h',h1,h2⟩
  ·obtain⟨n,hn⟩:=S.call _ _ _ _ _ h1
   exact⟨n,.inl ⟨v,h',by rw[hn];rfl,h2⟩⟩
  ·obtain⟨n,hn⟩:=S.pan _ _ _ _ _ h1
   exact⟨n,.inr ⟨v,.nil,h',by rw[hn];rfl,h2⟩⟩
 by_cases h1: ∃f as,op=.call f as
 ·obtain⟨f,as,rfl⟩:=h1
  obtain⟨u,hu,hv⟩:=aof hv
  obtain⟨l,hl,hv⟩:=aof hv
  obtain⟨n,hn⟩:=call _ _ hv
  refine⟨n,?_⟩
  show(∃v h',zkp _ _ _ _ _=_∧_)∨(∃v s' h',zkp _ _ _ _ _=_∧_)
  grind [zkp]
 ·by_cases h2: ∃tbl x as,op=.invoke tbl x as
  ·obtain⟨tbl,x,as,rfl⟩:=h2
   obtain⟨u,hu,hv⟩:=aof hv
   obtain⟨r,hr,hv⟩:=aof hv
   obtain⟨l,hl,hv⟩:=aof hv
   obtain⟨n,hn⟩:=call _ _ hv
   refine⟨n,?_⟩
   show(∃v h',invP _ _ _ _ _ _=_∧_)∨(∃v s' h',invP _ _ _ _ _ _=_∧_)
   grind [invP]
  ·by_cases h3: ∃x,op=.panic x
   ·obtain⟨x,rfl⟩:=h3
    obtain⟨u,hu,hv⟩:=aof hv
    split at hv
    ·rename_i t v
     refine⟨0,.inr ⟨_,.nil,h,?_,hv⟩⟩
     show panP _ _ _=_
     unfold panP;rw[hu];rfl
    grind
   ·have e1:shDo X op s h kp k=k2 (opV op s h) k:=by
     cases op<;>first|rfl|exact absurd ⟨_,_,rfl⟩ h1|exact absurd ⟨_,_,_,rfl⟩ h2|grind
    have e2: ∀ih:IH,zcV ih op s h=(opV op s h).map valO:=by
     intro ih;cases op<;>first|rfl|exact absurd ⟨_,_,rfl⟩ h1|exact absurd ⟨_,_,_,rfl⟩ h2|grind
    rw[e1] at hv
    obtain⟨v,h',q1,q2⟩:=zj0 hv
    exact⟨0,.inl ⟨v,h',by rw[e2,q1];rfl,q2⟩⟩
theorem shStep_some (S:zkD F X) {op:CI} {s:za} {h:H} {kp k:Value→H→Option Out} {o:Out} (hv:shStep X op s h kp k=some o):
 ∃n,(∃v h',zdI (E F n) op s h=some (.val v h')∧k v h'=some o)∨(∃v s' h',zdI (E F n) op s h=some (.pan v s' h')∧kp v h'=some o):=by
 obtain⟨b,hb,hv⟩:=aof hv
 cases b with
 |true=>
  grind [shDo_some,zdI]
 |false=>exact⟨0,.inl ⟨zM,h,by grind [zdI],hv⟩⟩
theorem zla (S:zkD F X) {kp:Value→za→H→Option Out}: ∀{l:List CI} {s:za} {h:H} {k:za→H→Option Out} {o:Out},shOps X kp l s h k=some o→
 ∃n,(∃s' h',zb7 (E F n) l s h=some (.nrm s' h')∧k s' h'=some o)∨(∃v s' h',zb7 (E F n) l s h=some (.pan v s' h')∧kp v s' h'=some o)
 | [],s,h,k,o,hv=>⟨0,.inl ⟨s,h,rfl,hv⟩⟩
 |c::l,s,h,k,o,hv=>by
  obtain⟨n,hn⟩:=shStep_some S (show shStep X c s h (fun v h=>kp v s h) (fun v h=>shOps X kp l (zY c.dst v s) h k)=some o from hv)
  rcases hn with⟨v,h',h1,h2⟩| ⟨v,s',h',h1,h2⟩
  ·obtain⟨m,hm⟩:=zla S h2
   refine⟨n+m,?_⟩
   have e: ∀x,zb7 (E F m) l (zY c.dst v s) h'=some x→zb7 (E F (n+m)) (c::l) s h=some x:=by
    intro x hx
    rw[zch,zjs (E_le fuel2.1) h1]
    exact zg8 (E_le fuel2.2) hx
   grind
  ·exact⟨n,.inr ⟨v,s,h',by rw[zch,h1];rfl,h2⟩⟩
theorem shDo1_some (S:zkD F X) {op:COp} {s:za} {h:H} {v:Value} {h':H} (hv:shDo1 X op s h=some (v,h')): ∃n,doOp (E F n) op s h=some (v,h'):=by
 by_cases hc: ∃f as,op=.call f as
 ·obtain⟨f,as,rfl⟩:=hc
  obtain⟨u,hu,hv⟩:=aof hv
  obtain⟨l,hl,hv⟩:=aof hv
  obtain⟨n,h1⟩:=S.call _ _ _ _ _ hv
  refine⟨n,?_⟩
  show zgr _ _ _ _ _=_
  unfold zgr
  simp only[hu,hl,Option.bind_some,h1];rfl
 ·by_cases h2: ∃tbl x as,op=.invoke tbl x as
  ·obtain⟨tbl,x,as,rfl⟩:=h2
   obtain⟨u,hu,hv⟩:=aof hv
   obtain⟨r,hr,hv⟩:=aof hv
   obtain⟨l,hl,hv⟩:=aof hv
   obtain⟨n,h1⟩:=S.call _ _ _ _ _ hv
   refine⟨n,?_⟩
   show zkT _ _ _ _ _ _=_
   unfold zkT
   simp only[hu,hr,hl,Option.bind_some,h1];rfl
  simp_all[shDo1,doOp]
theorem zin (S:zkD F X) {o:CI} {s:za} {h:H} {v:Value} {h':H} (hv:zjv X o s h=some (v,h')): ∃n b,zbb o.guard s=some b∧(b=true→doOp (E F n) o.op s h=some (v,h'))∧(b=false→v=zM∧h'=h):=by
 obtain⟨b,hb,hv⟩:=aof hv
 cases b with
 |true=>
  grind [shDo1_some]
 |false=>simp_all
theorem readsF_eq (op:COp) (s:za) (lo:Nat) (v:Value): ∀(bs:List (Nat×H)),zlj (opV op s) lo v bs=zeQ op s lo v bs
 | []=>rfl
 |x::bs=>by
  unfold zlj zeQ
  rw[readsF_eq op s lo v bs]
  grind
theorem zgy (S:zkD F X): ∀{l:List CI} {bs:List (Nat×H)} {s:za} {h:H} {k:za→H→Option Out} {o:Out},zg3 X l bs s h k=some o→ ∃n s' h',zx (E F n) l bs s h=some (s',h')∧k s' h'=some o
 | [],bs,s,h,k,o,hv=>⟨0,s,h,rfl,hv⟩
 |c::l,bs,s,h,k,o,hv=>by
  have hv:(match isW c.op with
   |true=>k2 (zjv X c s h) fun v h=>zg3 X l ((zkR bs,h)::bs) (zY c.dst v s) h k
   |false=>match isRd c.op with
    |true=>k2 (rdStep c bs s h) fun v h=>zg3 X l bs (zY c.dst v s) h k
    |false=>k2 (zjv X c s h) fun v h=>zg3 X l bs (zY c.dst v s) h k)=some o:=hv
  have main: ∃n v h1 bs1,zw (E F n) c bs s h=some (v,h1,bs1)∧zg3 X l bs1 (zY c.dst v s) h1 k=some o:=by
   cases hw:isW c.op with
   |true=>
    rw[hw] at hv
    grind [zj0,zin,zw,zcP]
   |false=>
    rw[hw] at hv
    cases hr:isRd c.op with
    |true=>
     rw[hr] at hv
     obtain⟨v,h1,hs,hv⟩:=zj0 hv
     obtain⟨b,hb,hs⟩:=aof hs
     cases b with
     |true=>
      cases bs with
      |nil=>cases hs
      |cons x bs=>
       have hs:(match ze1 c.op s x.2.next h.next with
        |true=>opV c.op s h
        |false=>rdF (opV c.op s) c.lo h (x::bs))=some (v,h1):=hs
       cases hfr:ze1 c.op s x.2.next h.next with
       |true=>
        rw[hfr] at hs
        have hv2:=hv
        have e:=(zh9 hfr hs).1;subst e
        refine⟨0,v,h1,x::bs,?_,hv2⟩
        grind [zw,zcP,ziC]
       |false=>
       rw[hfr] at hs
       obtain⟨y,hy,hs⟩:=aof (show(opV c.op s x.2).bind (fun y=>if zlj (opV c.op s) c.lo y.1 bs then some (y.1,h) else none)=some (v,h1) from hs)
       split at hs
       ·rename_i hreads
        cases hs
        refine⟨0,y.1,h,x::bs,?_,hv⟩
        grind [zw,readsF_eq,zcP,ziC]
       grind
     |false=>
      cases hs
      refine⟨0,zM,h,bs,?_,hv⟩
      grind [zw]
    |false=>
     rw[hr] at hv
     grind [zj0,zin,zw,zkQ,zcP]
  obtain⟨n,v,h1,bs1,q1,q3⟩:=main
  obtain⟨m,s',h',h2,h4⟩:=zgy S q3
  refine⟨n+m,s',h',?_,h4⟩
  rw[zba,zcC (E_le fuel2.1) q1]
  exact zcD (E_le fuel2.2) h2
theorem pendK_of {k:K} {s:za} {h:H} {p:Option CC} {o:Out} (hv:pendK2 k s h p=some o): ∃o1,zkO s h p=some o1∧apK k o1=some o:=by
 unfold pendK2 at hv
 split at hv
 ·exact⟨.nrm s h,rfl,hv⟩
 ·exact⟨.ret s h,rfl,hv⟩
 ·exact⟨.exit _ s h,rfl,hv⟩
 grind
theorem zgx (S:zkD F X): ∀(c:CC) {k:K} {s:za} {h:H} {r:Out},sh X c k s h=some r→ ∃n o,E F n (.code c s h)=some o∧apK k o=some r
 |.skip,k,s,h,r,hv=>⟨1,.nrm s h,rfl,hv⟩
 |.exit i,k,s,h,r,hv=>⟨1,.exit i s h,rfl,hv⟩
 |.ret,k,s,h,r,hv=>⟨1,.ret s h,rfl,hv⟩
 |.scope _ _ _ _ _,_,_,_,_,hv=>by cases hv
 |.ops l,k,s,h,r,hv=>by
  obtain⟨n,hn⟩:=zla S (show shOps X k.pan l s h k.nrm=some r from hv)
  rcases hn with⟨s',h',h1,h3⟩| ⟨v,s',h',h1,h3⟩
  ·exact⟨n+1,.nrm s' h',h1,h3⟩
  ·exact⟨n+1,.pan v s' h',h1,h3⟩
 |.draw l,k,s,h,r,hv=>by
  obtain⟨n,s',h',h1,h3⟩:=zgy S (show zg3 X l [(0,h)] s h k.nrm=some r from hv)
  exact⟨n+1,.nrm s' h',by show(match zx (E F n) l [(0,h)] s h with|some x=>some (nrmOf x)|none=>_)=_;rw[h1];rfl,h3⟩
 |.draw2 l x y,k,s,h,r,hv=>by
  obtain⟨n,s',h',h1,h3⟩:=zgy S (show zg3 X l [(0,h)] s h (fun s h=>st2 (zdH x.op y.op s h) fun h=>k.nrm s h)=some r from hv)
  obtain⟨g,hg,h3⟩:=aof h3
  exact⟨n+1,.nrm s' g,by show(zx (E F n) l [(0,h)] s h).bind _=_;grind,h3⟩
 |.seq a L b,k,s,h,r,hv=>by
  obtain⟨n,o,h1,h3⟩:=zgx S a (show sh X a ⟨fun s h=>sh X b k (zb5 L s) h,k.ext,k.ret,k.pan⟩ s h=some r from hv)
  cases o with
  |nrm s' h'=>
   obtain⟨m,o',h4,h6⟩:=zgx S b (show sh X b k (zb5 L s') h'=some r from h3)
   refine⟨n+m+1,o',?_,h6⟩
   show(E F (n+m) _).bind _=_
   rw[E_le fuel2.1 _ _ h1]
   exact E_le fuel2.2 _ _ h4
  |exit i s' h'=>exact⟨n+1,.exit i s' h',by show(E F n _).bind _=_;rw[h1];rfl,(show k.ext i s' h'=some r from h3)⟩
  |ret s' h'=>exact⟨n+1,.ret s' h',by show(E F n _).bind _=_;rw[h1];rfl,(show k.ret s' h'=some r from h3)⟩
  |val _ _=>cases h3
  |pan v s' h'=>exact⟨n+1,.pan v s' h',by show(E F n _).bind _=_;rw[h1];rfl,(show k.pan v s' h'=some r from h3)⟩
 |.cond x a b,k,s,h,r,hv=>by
  obtain⟨v,hx,hv⟩:=aof (show(x.ev s).bind (fun v=>br v (sh X a k s h) (sh X b k s h))=some r from hv)
  rcases br_some hv with⟨rfl,hv⟩| ⟨rfl,hv⟩
  ·obtain⟨n,o,h1,h3⟩:=zgx S a hv
   exact⟨n+1,o,by show(x.ev s).bind _=_;rw[hx];exact h1,h3⟩
  ·obtain⟨n,o,h1,h3⟩:=zgx S b hv
   exact⟨n+1,o,by show(x.ev s).bind _=_;rw[hx];exact h1,h3⟩
 |.block i b,k,s,h,r,hv=>by
  obtain⟨n,o,h1,h3⟩:=zgx S b (show sh X b ⟨k.nrm,blkX i k,k.ret,k.pan⟩ s h=some r from hv)
  refine⟨n+1,zhA i o,by show(E F n _).map _=_;grind,?_⟩
  cases o with
  |nrm s' h'=>exact h3
  |ret s' h'=>exact h3
  |val _ _=>cases h3
  |pan _ _ _=>exact h3
  |exit j s' h'=>
   have h3:blkX i k j s' h'=some r:=h3
   unfold blkX at h3
   cases hb:Nat.beq j i with
   |true=>rw[hb] at h3;simp only[zhA,hb];exact h3
   |false=>rw[hb] at h3;simp only[zhA,hb];exact h3
 |.loop [] b,k,s,h,r,hv=>by cases hv
 |.loop (p::L) b,k,s,h,r,hv=>by
  obtain⟨vs,hk,hv⟩:=getL_some (show getL (p::L) s (fun vs=>X.loop (p::L) b k (fun self vs h=>withL (p::L) vs fun s=>sh X b ⟨fun s h=>getL (p::L) s fun vs=>self vs h,k.ext,k.ret,k.pan⟩ s h) vs h)=some r from hv)
  obtain⟨n,o,h1,h3⟩:=S.loop _ _ _ _ _ _ _ hv
  rw[←hk] at h1
  refine⟨n,o,?_,h3⟩
  cases n with
  |zero=>cases h1
  |succ n=>
   have h1:(E F n (.code b (zci (p::L) (zci (p::L) s)) h)).bind (loopK (E F n) (p::L) b)=some o:=h1
   show(E F n (.code b (zci (p::L) s) h)).bind (loopK (E F n) (p::L) b)=some o
   have gen: ∀(L0 L':List (List Bool)),(∀p∈L',p∈L0)→zci L' (zci L0 s)=zci L' s:=by
    intro L0 L'
    induction L' with
    |nil=>intro _;rfl
    |cons p L' ihL=>
     grind [zlr,zcM]
   grind
 |.rangeFunc rid L f ps as b,k,s,h,r,hv=>by
  obtain⟨u,hu,hv⟩:=aof (show(f.ev s).bind (fun f=>(isFn f).bind fun f=>k2 (X.call f [.func (.yield h.next) #[] #[]] (h.new (.loop .ready none (zb5 L s) ⟨rid,L,ps,as,b⟩))) fun _ h'=>rgEnd k s h.next h')=some r from hv)
  obtain⟨g,hg,hv⟩:=aof hv
  obtain⟨v1,h1,hcall,hv⟩:=zj0 hv
  obtain⟨n,hn⟩:=S.call _ _ _ _ _ hcall
  obtain⟨o,ho,hv⟩:=aof hv
  have fin: ∀{st:LoopState} {pend:Option CC} {sl:za} {rc:RC},h1.get h.next=some (.loop st pend sl rc)→zfX h.next s h1 (.loop st pend sl rc)=zkO s (h1.put h.next (.loop .exhausted pend sl rc)) pend→
   pendK2 k s (h1.put h.next (.loop .exhausted pend sl rc)) pend=some r→ ∃n o,E F n (.code (.rangeFunc rid L f ps as b) s h)=some o∧apK k o=some r:=by
   intro st pend sl rc hget hre hp
   obtain⟨o1,p1,p2⟩:=pendK_of hp
   refine⟨n+1,o1,?_,p2⟩
   rw[E_code]
   show sRange rid L f ps as b (E F n) s h=_
   unfold sRange
   rw[hu,Option.bind_some,hg,Option.bind_some,hn,Option.bind_some]
   show(h1.get h.next).bind _=_
   grind
  cases o with
  |loop st pend sl rc=>
   cases st with
   |ready=>exact fin ho rfl hv
   |done=>exact fin ho rfl hv
   |busy=>cases hv
   |exhausted=>cases hv
  |cells _ _=>cases hv
  |map _ _=>cases hv
  |dead=>cases hv
  |glob _ _=>cases hv
def cl (X:Rn) (f:Value) (l:List Value) (h:H) (kp k:Value→H→Option Out):Option Out:=kc (X.call f l h) (X.pan f l h) kp k
def lp (X:Rn) (L:List (List Bool)) (b:CC) (k:K) (vs:List Value) (h:H):Option Out:=
 X.loop L b k (fun self vs h=>withL L vs fun s=>sh X b ⟨fun s h=>getL L s fun vs=>self vs h,k.ext,k.ret,k.pan⟩ s h) vs h
def fin (l:Nat) (p:Option CC) (h:H):Option Out:=(h.get l).bind (zlz l p h)
def bx (i j:Nat) (a b:Option Out):Option Out:=match Nat.beq i j with
 |true=>a
 |false=>b
end
end
end Go.Ideal
namespace Go.Ideal
noncomputable section
inductive DV where
 |int (k:IntKind) (n:Int)
 |bool (b:Bool)
 |str (s:ByteArray)
 |bs (s:ByteArray)
 |agg (l:List DV)
 |tup (l:List DV)
 |nilS
 |lst (s:Nat) (rows:List (List DV))
 |pl (s:Nat) (rows:List (List DV)) (i off:Nat)
 |ms (j lo len cap:Nat)
 |nilP
 |ptr (j i off:Nat)
 |nilM
 |map (j:Nat)
 |nilF
 |fn (g:Nat) (a c:List DV)
 |yld (l:Nat)
 |nilI
 |ifc (t:Nat) (v:DV)
 deriving Inhabited
abbrev DS:=List (List Bool×DV)
def getS:DS→List Bool→Option DV
 | [],_=>none
 | (q,d)::s,p=>match beqP q p with|true=>some d|false=>getS s p
def zkS (s:DS):List (List Bool)→DS
 | []=>[]
 |p::L=>match getS s p with|some d=>(p,d)::zkS s L|none=>zkS s L
def zbM:List (List Bool)→DS→DS
 | [],s=>s
 |p::L,s=>zkS s (p::L)
def zV (d:Option (List Bool)) (v:DV) (s:DS):DS:=match d with
 |none=>s
 |some p=>(p,v)::s
inductive MO where
 |rows (op:Bool) (sz:Nat) (rs:List (List DV))
 |map (es:List (DV×DV))
 |loop (st:LoopState) (pend:Option CC) (sl:DS) (rc:RC)
structure VM where
 next:Nat
 get:Nat→Option (MO×Nat)
def VM.obj (M:VM) (j:Nat):Option MO:=(M.get j).map Prod.fst
def VM.new (M:VM) (o:MO):VM:=⟨M.next+1,fun i=>if i=M.next then some (o,M.next) else M.get i⟩
def VM.put (M:VM) (j:Nat) (o:MO):VM:=⟨M.next+1,fun i=>if i=j then some (o,M.next) else M.get i⟩
def VM.del (M:VM) (j:Nat):VM:=⟨M.next,fun i=>if i=j then none else M.get i⟩
abbrev RD:=Option (DV×VM)
def dOf1:Value→Option DV
 |.bool b=>some (.bool b)
 |.int k n=>some (.int k n)
 |.string s=>some (.str s)
 |.pointer none=>some .nilP
 |.slice none 0 0=>some .nilS
 |.map none=>some .nilM
 |.nilFunc=>some .nilF
 |.nilIface=>some .nilI
 |_=>none
def dOfL:List Value→Option (List DV)
 | []=>some []
 |v::r=>(dOf1 v).bind fun d=>(dOfL r).map (d:: ·)
def dOf:Value→Option DV
 |.func (.func f) ⟨[]⟩ ⟨[]⟩=>some (.fn f [] [])
 |.agg ⟨cs⟩=>(dOfL cs).map .agg
 |v=>dOf1 v
def evD (s:DS):CO→Option DV
 |.t p=>getS s p
 |.c v=>dOf v
def evDL (s:DS):List CO→Option (List DV)
 | []=>some []
 |x::r=>(evD s x).bind fun v=>(evDL s r).map (v:: ·)
def evDO (s:DS):Option CO→Option (Option DV)
 |none=>some none
 |some x=>(evD s x).map some
def zr:DV→List DV
 |.agg l=>l
 |v=>[v]
def zt:DV→Bool
 |.agg _=>false
 |.tup _=>false
 |_=>true
def zK:List DV→Nat→List DV→Option (List DV)
 |cs,_,[]=>some cs
 |_::cs,0,v::vs=>(zK cs 0 vs).map (v:: ·)
 |c::cs,n+1,v::vs=>(zK cs n (v::vs)).map (c:: ·)
 | [],_,_::_=>none
def zbJ:Nat→List DV→Option (List DV)
 |0,_=>some []
 |n+1,a::l=>(zbJ n l).map (a:: ·)
 |_+1,[]=>none
def zia (cells:List DV):List (Nat×Nat×DV)→Option (List DV)
 | []=>some cells
 | (off,size,v)::r=>if(zr v).length=size∧0<size∧(zr v).all zt=true then(zK cells off (zr v)).bind fun c=>zia c r else none
def zcQ (size:Nat) (rows:List (List DV)):List (Nat×DV)→Option (List (List DV))
 | []=>some rows
 | (i,v)::r=>if(zr v).length=size∧0<size∧(zr v).all zt=true∧i<rows.length then zcQ size (rows.set i (zr v)) r else none
def zc7 (M:VM):DV→Option (List DV)
 |.pl _ rows i off=>(rows[i]?).map fun r=>r.drop off
 |.ptr j i off=>(M.obj j).bind fun o=>match o with
  |.rows _ _ rs=>(rs[i]?).map fun r=>r.drop off
  |_=>none
 |_=>none
def oneD:List DV→Option DV
 |v::_=>some v
 |_=>none
def zfm (n:Nat) (M:VM) (x:DV):DV→Option VM
 |.ptr j i off=>(M.obj j).bind fun o=>match o with
  |.rows op sz rs=>(rs[i]?).bind fun r=>if(zr x).length=n∧0<n∧(zr x).all zt=true then(zK r off (zr x)).map fun r'=>M.put j (.rows op sz (rs.set i r')) else none
  |_=>none
 |_=>none
def nilD:DV→Option DV
 |.ptr j i o=>some (.ptr j i o)
 |.pl s r i o=>some (.pl s r i o)
 |.fn g a c=>some (.fn g a c)
 |.yld l=>some (.yld l)
 |_=>none
def zjA:DV→DV→Option Bool
 |.int k a,.int k' b=>if k=k' then some (eqI a b) else none
 |_,_=>none
def sameAtD (xs ys:List DV):List Nat→Option Bool
 | []=>some true
 |i::r=>(xs[i]?).bind fun x=>(ys[i]?).bind fun y=>(zjA x y).bind fun b=>(sameAtD xs ys r).map fun c=>b&&c
def sameKD:LK→DV→DV→Option Bool
 |.int,.int k a,.int k' b=>if k=k' then some (eqI a b) else none
 |.bool,.bool a,.bool b=>some (a==b)
 |.str,.str a,.str b=>some (z6 a.data.toList b.data.toList)
 |_,_,_=>none
def sameKsD (xs ys:List DV):List (Nat×LK)→Option Bool
 | []=>some true
 |i::r=>(xs[i.1]?).bind fun x=>(ys[i.1]?).bind fun y=>(sameKD i.2 x y).bind fun b=>(sameKsD xs ys r).map fun c=>b&&c
def eqD:EK→DV→DV→Option Bool
 |.ptr,.nilP,.nilP=>some true
 |.ptr,.nilP,.ptr _ _ _=>some false
 |.ptr,.nilP,.pl _ _ _ _=>some false
 |.ptr,.ptr _ _ _,.nilP=>some false
 |.ptr,.pl _ _ _ _,.nilP=>some false
 |.slice,.nilS,.nilS=>some true
 |.slice,.nilS,.ms _ _ _ _=>some false
 |.slice,.ms _ _ _ _,.nilS=>some false
 |.slice,.nilS,.lst _ (_::_)=>some false
 |.slice,.lst _ (_::_),.nilS=>some false
 |.map,.nilM,.nilM=>some true
 |.map,.nilM,.map _=>some false
 |.map,.map _,.nilM=>some false
 |.func,.nilF,.nilF=>some true
 |.func,.nilF,.fn _ _ _=>some false
 |.func,.fn _ _ _,.nilF=>some false
 |.iface true,.nilI,.nilI=>some true
 |.iface _,.nilI,.ifc _ _=>some false
 |.iface _,.ifc _ _,.nilI=>some false
 |.bool,.bool a,.bool b=>some (a==b)
 |.leaves l,.agg xs,.agg ys=>sameAtD xs ys l
 |.leavesK l,.agg xs,.agg ys=>sameKsD xs ys l
 |_,_,_=>none
def eqlD (ek:EK) (x y:DV):BinOp→Option DV
 |.eql=>(eqD ek x y).map .bool
 |.neq=>(eqD ek x y).map fun b=>.bool (!b)
 |_=>none
def binD (op:BinOp) (ek:EK) (x y:DV):Option DV:=match x,y with
 |.int k a,.int k' b=>(intS k k' a b op).bind dOf1
 |.str a,.str b=>(strB a.data.toList b.data.toList op).bind dOf1
 |x,y=>eqlD ek x y op
def unD:UnOp→DV→Option DV
 |.neg,.int k n=>some (.int k (k.wrap (0 - n)))
 |.not,.bool b=>some (.bool !b)
 |_,_=>none
def convD (k:IntKind):DV→Option DV
 |.int _ n=>some (.int k (k.wrap n))
 |_=>none
def zbd:KK→DV→DV→Option Bool
 |.str,.str a,.str b=>some (z6 a.data.toList b.data.toList)
 |.int,.int k a,.int k' b=>if k=k' then some (eqI a b) else none
 |.leaves l,.agg xs,.agg ys=>sameAtD xs ys l
 |_,_,_=>none
def zgO (kk:KK) (k:DV):List (DV×DV)→Option (Option DV)
 | []=>some none
 | (key,v)::r=>(zbd kk k key).bind fun b=>match b with|true=>some (some v)|false=>zgO kk k r
def zb6:List DV→List DV→Bool
 | [],[]=>true
 |.int k a::r,.int k' b::r'=>decide (k=k')&&eqI a b&&zb6 r r'
 |.str a::r,.str b::r'=>z6 a.data.toList b.data.toList&&zb6 r r'
 |_,_=>false
def setD (kk:KK) (k v:DV):List (DV×DV)→Option (List (DV×DV))
 | []=>some [(k,v)]
 | (key,w)::r=>(zbd kk k key).bind fun s=>match s with
   |true=>if zb6 (zr k) (zr key)=true then some ((k,v)::r) else none
   |false=>(setD kk k v r).map fun x=>(key,w)::x
def zcT (isMax:Bool):DV→List DV→Option DV
 |v,[]=>some v
 |.int k x,.int k' y::r=>if k=k' then zcT isMax (.int k (match isMax with|true=>(match ltI x y with|true=>y|false=>x)|false=>(match ltI y x with|true=>y|false=>x))) r else none
 |_,_=>none
def inD (y:Nat):DV→Option Nat
 |.int _ (.ofNat m)=>if m≤y then some m else none
 |_=>none
def zm (dflt y:Nat):Option DV→Option Nat
 |none=>some dflt
 |some d=>inD y d
def zgo (M:VM) (size:Nat):DV→Option (List (List DV))
 |.nilS=>some []
 |.lst s rows=>if s=size then some rows else none
 |.bs s=>if size=1 then some (s.data.toList.map fun b=>[.int .u8 b.toNat]) else none
 |.ms j lo len _=>(M.obj j).bind fun o=>match o with
  |.rows _ sz rs=>if sz=size∧lo+len≤rs.length then some ((rs.drop lo).take len) else none
  |_=>none
 |_=>none
def sliceD (size:Nat) (M:VM) (lo hi:Option DV):DV→Option DV
 |.nilS=>(zm 0 0 hi).bind fun hi=>(zm 0 hi lo).map fun _=>.nilS
 |.lst s rows=>if s=size∧0<s then(zm rows.length rows.length hi).bind fun hi=>(zm 0 hi lo).map fun lo=>.lst s ((rows.drop lo).take (hi - lo)) else none
 |.ms j l len cap=>(M.obj j).bind fun o=>match o with
  |.rows true sz rs=>if sz=size∧cap=zc∧l≤rs.length then(zm len (rs.length - l) hi).bind fun hi=>(zm 0 hi lo).map fun lo=>.ms j (l+lo) (hi - lo) zc else none
  |.rows false sz _=>if sz=size∧cap<zc then(zm len cap hi).bind fun hi=>(zm 0 hi lo).map fun lo=>.ms j (if cap=lo then l else l+lo) (hi - lo) (cap - lo) else none
  |_=>none
 |_=>none
def slice3D (size:Nat) (M:VM) (lo:Option DV) (hi mx:DV):DV→Option DV
 |.ms j l _ cap=>(M.obj j).bind fun o=>match o with
  |.rows true sz rs=>if sz=size∧cap=zc∧l≤rs.length then(zm 0 (rs.length - l) (some mx)).bind fun m=>if 0<m∧m<zc then(zm 0 m (some hi)).bind fun hi=>(zm 0 hi lo).map fun lo=>.ms j (if m=lo then l else l+lo) (hi - lo) (m - lo) else none else none
  |.rows false sz _=>if sz=size∧cap<zc then(zm 0 cap (some mx)).bind fun m=>(zm 0 m (some hi)).bind fun hi=>(zm 0 hi lo).map fun lo=>.ms j (if m=lo then l else l+lo) (hi - lo) (m - lo) else none
  |_=>none
 |_=>none
def zkC (size:Nat) (M:VM) (i:DV):DV→Option DV
 |.lst s rows=>match i with
  |.int _ (.ofNat i)=>if s=size∧i<rows.length then some (.pl s rows i 0) else none
  |_=>none
 |.bs s=>match i with
  |.int _ (.ofNat i)=>if size=1∧i<s.size then some (.pl 1 (s.data.toList.map fun b=>[.int .u8 b.toNat]) i 0) else none
  |_=>none
 |.ms j lo len _=>(M.obj j).bind fun o=>match o,i with
  |.rows _ sz _,.int _ (.ofNat i)=>if sz=size∧i<len then some (.ptr j (lo+i) 0) else none
  |_,_=>none
 |_=>none
def offD (n:Nat):DV→Option DV
 |.pl s rows i o=>some (.pl s rows i (o+n))
 |.ptr j i o=>some (.ptr j i (o+n))
 |_=>none
def arrD (n size:Nat) (i x:DV):Option DV:=match i with
 |.int _ (.ofNat i)=>if i<n then offD (i*size) x else none
 |_=>none
def byteD (b:UInt8):DV:=.int .u8 b.toNat
def bytesD (s:ByteArray):List (List DV):=s.data.toList.map fun b=>[byteD b]
def zbQ (M:VM) (size:Nat):DV→Option (List (List DV))
 |.str s=>if size=1 then some (bytesD s) else none
 |d=>zgo M size d
def zeT (M:VM) (size:Nat) (rs:List (List DV)):DV×VM:=(.ms M.next 0 rs.length zc,M.new (.rows true size rs))
def zbW (rs new:List (List DV)) (at_:Nat):List (List DV):=rs.take at_++new++rs.drop (at_+new.length)
def zc9 (size:Nat) (M:VM) (new:List (List DV)) (j lo len cap:Nat):MO→RD
 |.rows op sz rs=>if sz=size∧lo+len≤rs.length then match op with
  |true=>if cap=zc then
    if lo+len+new.length≤rs.length then some (.ms j lo (len+new.length) cap,M.put j (.rows true sz (zbW rs new (lo+len))))
    else some (zeT (M.del j) size ((rs.drop lo).take len++new)) else none
  |false=>if cap<zc then
    if len+new.length≤cap then(if lo+cap≤rs.length then some (.ms j lo (len+new.length) cap,M.put j (.rows false sz (zbW rs new (lo+len)))) else none)
    else some (zeT M size ((rs.drop lo).take len++new)) else none
  else none
 |_=>none
def zbw (size bytes:Nat) (M:VM) (new:List (List DV)) (d:DV):RD:=
 if new=[] then(match d with|.nilS=>some (d,M)|.lst _ _=>some (d,M)|.ms _ _ _ _=>some (d,M)|_=>none) else match d with
 |.nilS=>if new.length*bytes≤1073741824 then some (zeT M size new) else none
 |.ms j lo len cap=>if(len+new.length)*bytes≤1073741824 then(M.obj j).bind (zc9 size M new j lo len cap) else none
 |_=>none
def lenD (M:VM):DV→Option Nat
 |.nilS=>some 0
 |.lst _ rows=>some rows.length
 |.bs s=>some s.size
 |.ms _ _ len _=>some len
 |_=>none
def zbe (M:VM):DV→Option (List (DV×DV))
 |.nilM=>some []
 |.map j=>(M.obj j).bind fun o=>match o with|.map es=>some es|_=>none
 |_=>none
def copyD (size:Nat) (M:VM) (src:List (List DV)):DV→RD
 |.ms j lo len _=>(M.obj j).bind fun o=>match o with
  |.rows op sz rs=>if sz=size∧lo+len≤rs.length∧0<len∧0<src.length then some (.int .i64 ((min len src.length:Nat):Int),M.put j (.rows op sz (zbW rs (src.take (min len src.length)) lo))) else none
  |_=>none
 |_=>none
def clearD (z:List DV) (M:VM):DV→RD
 |.nilS=>some (.tup [],M)
 |.ms j lo len _=>if len=0 then some (.tup [],M) else(M.obj j).bind fun o=>match o with
  |.rows op sz rs=>if sz=z.length∧lo+len≤rs.length∧z.all zt=true then some (.tup [],M.put j (.rows op sz (zbW rs (List.replicate len z) lo))) else none
  |_=>none
 |_=>none
def bltD (M:VM) (b:CB) (args:List DV):RD:=match b,args with
 |.lenStr,[.str s]=>some (.int .i64 s.size,M)
 |.len,[d]=>(lenD M d).map fun(n:Nat)=>(.int .i64 (n:Int),M)
 |.lenMap,[d]=>(zbe M d).map fun es=>(.int .i64 es.length,M)
 |.append size bytes,[s,x]=>if 0<size∧size<roE then(zbQ M size x).bind fun new=>if new.all (fun r=>r.all zt)=true then zbw size bytes M new s else none else none
 |.copy size,[d,x]=>(zgo M size x).bind fun src=>if src.all (fun r=>r.all zt)=true then copyD size M src d else none
 |.clear z,[d]=>(dOfL z).bind fun z=>clearD z M d
 |.min,v::r=>(zcT false v r).map (·,M)
 |.max,v::r=>(zcT true v r).map (·,M)
 |_,_=>none
def zdp (z:DV) (ok:Bool):Option DV→DV
 |some v=>match ok with|true=>.tup [v,.bool true]|false=>v
 |none=>match ok with|true=>.tup [z,.bool false]|false=>z
def updD (kk:KK) (M:VM) (k x:DV):DV→Option VM
 |.map j=>(M.obj j).bind fun o=>match o with
  |.map es=>(zbd kk k k).bind fun _=>(setD kk k x es).map fun es=>M.put j (.map es)
  |_=>none
 |_=>none
def strIdxD:DV→DV→Option DV
 |.str s,.int _ (.ofNat i)=>(s.data.toList[i]?).map byteD
 |_,_=>none
def strSliceD (lo hi:Option DV):DV→Option DV
 |.str s=>(zm s.size s.size hi).bind fun hi=>(zm 0 hi lo).bind fun lo=>(zhO (hi - lo) (zey lo s.data.toList)).map fun l=>.str ⟨⟨l⟩⟩
 |_=>none
def zcj (t:TypeId) (z:DV) (ok:Bool):DV→Option DV
 |.ifc u v=>match Nat.beq u t,ok with
  |true,true=>some (.tup [v,.bool true])
  |true,false=>some v
  |false,true=>some (.tup [z,.bool false])
  |false,false=>none
 |.nilI=>match ok with
  |true=>some (.tup [z,.bool false])
  |false=>none
 |_=>none
def byteOfD:List DV→Option UInt8
 | [.int .u8 (.ofNat n)]=>some (UInt8.ofNat n)
 |_=>none
def b2sD (M:VM) (d:DV):Option DV:=(zgo M 1 d).bind fun rows=>(allO byteOfD rows).map fun l=>.str ⟨⟨l⟩⟩
def zde (bytes:Nat) (z:List DV) (M:VM):DV→DV→RD
 |.int .i64 (.ofNat l),.int .i64 (.ofNat c)=>if l≤c∧c*bytes≤1073741824∧c≤1073741824 then some (.ms M.next 0 l c,M.new (.rows false z.length (List.replicate c z))) else none
 |_,_=>none
def zhc (s:DS):List (Nat×Nat×CO)→Option (List (Nat×Nat×DV))
 | []=>some []
 | (o,n,x)::r=>(evD s x).bind fun v=>(zhc s r).map ((o,n,v):: ·)
def zeS (s:DS):List (Nat×CO)→Option (List (Nat×DV))
 | []=>some []
 | (i,x)::r=>(evD s x).bind fun v=>(zeS s r).map ((i,v):: ·)
def pickD (a b:Option DV):DV→Option DV
 |.bool true=>a
 |.bool false=>b
 |_=>none
def fldD (off:Nat) (n:Option Nat):DV→Option DV
 |.agg cs=>match n with
  |some n=>(zbJ n (cs.drop off)).map .agg
  |none=>oneD (cs.drop off)
 |_=>none
def opD (op:COp) (s:DS) (M:VM):RD:=match op with
 |.mv x=>(evD s x).map (·,M)
 |.pick c a b=>(evD s c).bind fun c=>(pickD (evD s a) (evD s b) c).map (·,M)
 |.alloc z=>(dOfL z).map fun z=>(.ptr M.next 0 0,M.new (.rows false z.length [z]))
 |.box x=>(evD s x).map fun v=>(.ptr M.next 0 0,M.new (.rows false (zr v).length [zr v]))
 |.build z ps=>(dOfL z).bind fun z=>(zhc s ps).bind fun l=>(zia z l).map fun c=>(.agg c,M)
 |.buildSlice len size z ps=>(dOfL z).bind fun z=>if z.length=size∧len<zc then(zeS s ps).bind fun l=>(zcQ size (List.replicate len z) l).map fun rows=>(.ms M.next 0 len len,M.new (.rows false size rows)) else none
 |.load1 a=>(evD s a).bind fun a=>(zc7 M a).bind fun r=>(oneD r).map (·,M)
 |.loadN n a=>(evD s a).bind fun a=>(zc7 M a).bind fun r=>(zbJ n r).map fun l=>(.agg l,M)
 |.store n a x=>(evD s a).bind fun a=>(evD s x).bind fun x=>(zfm n M x a).map (.tup [],·)
 |.nilCheck x=>(evD s x).bind fun v=>(nilD v).map (·,M)
 |.bin op ek x y=>(evD s x).bind fun a=>(evD s y).bind fun b=>(binD op ek a b).map (·,M)
 |.un op x=>(evD s x).bind fun a=>(unD op a).map (·,M)
 |.conv k x=>(evD s x).bind fun a=>(convD k a).map (·,M)
 |.makeFunc (.func g) a b=>(evDL s a).bind fun a=>(evDL s b).map fun b=>(.fn g a b,M)
 |.makeMap=>some (.map M.next,M.new (.map []))
 |.makeSlice _ bytes z l c=>(evD s l).bind fun l=>(evD s c).bind fun c=>(dOfL z).bind fun z=>zde bytes z M l c
 |.slice size x lo hi=>(evD s x).bind fun v=>(evDO s lo).bind fun lo=>(evDO s hi).bind fun hi=>(sliceD size M lo hi v).map (·,M)
 |.fieldAddr off x=>(evD s x).bind fun v=>(offD off v).map (·,M)
 |.indexAddr size x i=>(evD s x).bind fun v=>(evD s i).bind fun i=>(zkC size M i v).map (·,M)
 |.indexArr n size x i=>(evD s x).bind fun v=>(evD s i).bind fun i=>(arrD n size i v).map (·,M)
 |.lookup kk z ok x i=>(evD s x).bind fun m=>(evD s i).bind fun k=>(dOf z).bind fun z=>(zbd kk k k).bind fun _=>(zbe M m).bind fun es=>(zgO kk k es).map fun r=>(zdp z ok r,M)
 |.mapUpdate kk m k x=>(evD s m).bind fun m=>(evD s k).bind fun k=>(evD s x).bind fun x=>(updD kk M k x m).map (.tup [],·)
 |.extract x i=>(evD s x).bind fun v=>match v with|.tup l=>(l[i]?).map (·,M)|_=>none
 |.blt b args=>(evDL s args).bind fun l=>bltD M b l
 |.strIdx x i=>(evD s x).bind fun v=>(evD s i).bind fun i=>(strIdxD v i).map (·,M)
 |.mkI t x=>(evD s x).map fun v=>(.ifc t v,M)
 |.assertT t z ok x=>(evD s x).bind fun v=>(dOf z).bind fun z=>(zcj t z ok v).map (·,M)
 |.strSlice x lo hi=>(evD s x).bind fun v=>(evDO s lo).bind fun lo=>(evDO s hi).bind fun hi=>(strSliceD lo hi v).map (·,M)
 |.s2b x=>(evD s x).bind fun v=>match v with|.str b=>some (.bs b,M)|_=>none
 |.b2s x=>(evD s x).bind fun v=>(b2sD M v).map (·,M)
 |.slice3 size x lo hi mx=>(evD s x).bind fun v=>(evDO s lo).bind fun lo=>(evD s hi).bind fun hi=>(evD s mx).bind fun mx=>(slice3D size M lo hi mx v).map (·,M)
 |.fld off n x=>(evD s x).bind fun v=>(fldD off n v).map (·,M)
 |_=>none
structure KD where
 nrm:DS→VM→Prop
 ext:Nat→DS→VM→Prop
 ret:DS→VM→Prop
 pan:DV→DS→VM→Prop
structure Mo where
 idx:Nat
 M:VM
 bad:List (List Bool)
structure RnD where
 call:DV→List DV→VM→(DV→VM→Prop)→(DV→VM→Prop)→Prop
 hand:DV→List DV→Option DV→VM→(VM→Prop)→Prop
 loop:List (List Bool)→CC→KD→DS→VM→Prop
 scope:CC→Nat→CC→Nat→CC→KD→DS→VM→Prop
 surv:List CI→List Mo→DS→VM→Prop
def okD (r:RD) (k:DV→VM→Prop):Prop:=match r with
 |some x=>k x.1 x.2
 |none=>False
def ofD {α:Type} (r:Option α) (k:α→Prop):Prop:=match r with
 |some x=>k x
 |none=>False
def wantD (g:Option (List Bool×Bool)) (s:DS):Option Bool:=match g with
 |none=>some true
 |some (p,w)=>(getS s p).bind fun d=>match d with
  |.bool b=>some (b==w)
  |.tup _=>some false
  |_=>none
def wDo (X:RnD) (op:COp) (s:DS) (M:VM) (kp k:DV→VM→Prop):Prop:=match op with
 |.call f args=>ofD (evD s f) fun f=>ofD (evDL s args) fun l=>X.call f l M k kp
 |.invoke tbl x args=>ofD (evD s x) fun v=>match v with
  |.ifc t v=>ofD (zjW t tbl) fun f=>ofD (evDL s args) fun l=>X.call (.fn f [] []) (v::l) M k kp
  |_=>False
 |.panic x=>ofD (evD s x) fun v=>match v with|.ifc t u=>kp (.ifc t u) M|_=>False
 |op=>okD (opD op s M) k
def zhJ (X:RnD) (o:CI) (s:DS) (M:VM) (kp k:DV→VM→Prop):Prop:=ofD (wantD o.guard s) fun b=>match b with
 |true=>wDo X o.op s M kp k
 |false=>k (.tup []) M
def wOps (X:RnD) (kp:DV→DS→VM→Prop):List CI→DS→VM→(DS→VM→Prop)→Prop
 | [],s,M,k=>k s M
 |o::l,s,M,k=>zhJ X o s M (fun v M=>kp v s M) fun v M=>wOps X kp l (zV o.dst v s) M k
def zdj:DV→Bool
 |.bool _=>true
 |.int _ _=>true
 |.str _=>true
 |.nilS=>true
 |.lst _ _=>true
 |.pl _ _ _ _=>true
 |.ms _ _ _ _=>true
 |.nilP=>true
 |.ptr _ _ _=>true
 |.nilM=>true
 |.map _=>true
 |.nilF=>true
 |_=>false
def zjz:DV→Bool
 |.agg l=>l.all zdj
 |.tup l=>l.all fun d=>match d with|.agg l=>l.all zdj|d=>zdj d
 |d=>zdj d
def refD:DV→List Nat
 |.ptr j _ _=>[j]
 |.ms j _ _ _=>[j]
 |.map j=>[j]
 |_=>[]
def zcR (s:DS) (x:CO):List Nat:=match evD s x with|some d=>refD d|none=>[]
def zcL (s:DS):COp→List Nat
 |.load1 a=>zcR s a
 |.loadN _ a=>zcR s a
 |.lookup _ _ _ x _=>zcR s x
 |.slice _ x _ _=>zcR s x
 |.slice3 _ x _ _ _=>zcR s x
 |.blt _ as=>as.flatMap (zcR s)
 |.b2s x=>zcR s x
 |_=>[]
def zfP:List Nat→VM→VM→Prop
 | [],_,_=>True
 |j::r,M,M'=>(M.get j=M'.get j∧(M.get j).isSome=true)∧zfP r M M'
def inP (l:List (List Bool)) (p:List Bool):Bool:=match l with
 | []=>false
 |q::r=>match beqP q p with|true=>true|false=>inP r p
def zc1 (bad:List (List Bool)):List (List Bool)→Bool
 | []=>true
 |p::r=>match inP bad p with|true=>false|false=>zc1 bad r
def zcc (q:Option (List Bool)) (x:Mo):Mo:=match q with
 |none=>x
 |some q=>⟨x.idx,x.M,q::x.bad⟩
def zhe (ns:List (List Bool)) (q:Option (List Bool)) (x:Mo):Mo:=match zc1 x.bad ns with
 |true=>x
 |false=>zcc q x
def rdAt (rs:List Nat) (ns:List (List Bool)) (M:VM) (x:Mo):Prop:=zc1 x.bad ns=true∧zfP rs M x.M
def detD:DV→Bool
 |.bool _=>true
 |.int _ _=>true
 |.str _=>true
 |.nilS=>true
 |.ms _ _ _ _=>true
 |.nilP=>true
 |.ptr _ _ _=>true
 |.nilM=>true
 |.map _=>true
 |.nilF=>true
 |_=>false
def rdAlt (op:COp) (ns:List (List Bool)) (s:DS) (d:DV) (x:Mo):Prop:=zc1 x.bad ns=true∧detD d=true∧opD op s x.M=some (d,x.M)
def rdOk (op:COp) (rs:List Nat) (ns:List (List Bool)) (s:DS) (d:DV) (M:VM) (lo:Nat):List Mo→Prop
 | []=>True
 |x::r=>(match Nat.blt x.idx lo with|true=>True|false=>rdAt rs ns M x∨rdAlt op ns s d x)∧rdOk op rs ns s d M lo r
def ziO (lo:Nat) (q:Option (List Bool)):List Mo→List Mo
 | []=>[]
 |x::r=>(match Nat.blt x.idx lo with|true=>zcc q x|false=>x)::ziO lo q r
def zjy (bs:List Mo) (d:DV):Bool:=match bs with
 | []=>true
 | [_]=>true
 |_=>zjz d
def freshD (op:COp) (s:DS) (n:Nat):Bool:=match op with
 |.b2s x=>match evD s x with
  |some (.ms j _ _ _)=>Nat.ble n j
  |_=>false
 |_=>false
def wRead (op:COp) (ns:List (List Bool)) (q:Option (List Bool)) (s:DS) (lo:Nat) (M:VM) (k:DV→List Mo→Prop):List Mo→Prop
 | []=>False
 |x::r=>match freshD op s x.M.next with
  |true=>okD (opD op s M) fun d _=>k d (x::r)
  |false=>okD (opD op s M) fun d _=>(rdAt (zcL s op) ns M x∨rdAlt op ns s d x)∧rdOk op (zcL s op) ns s d M lo r∧zjy (x::r) d=true∧k d (x::ziO lo q r)
def zhg (bs:List Mo):Nat:=match bs with
 | []=>0
 |x::_=>x.idx+1
def wSurv (X:RnD) (l:List CI) (bs:List Mo) (s:DS) (M:VM):Prop:=match bs with
 | []=>False
 |x::_=>X.surv (l.filter fun p=>Nat.ble p.lo x.idx) bs s M
def zc4 (X:RnD):List CI→List Mo→DS→VM→(DS→VM→Prop)→(DV→VM→Prop)→Prop
 | [],_,s,M,k,_=>k s M
 |o::l,bs,s,M,k,kp=>match isW o.op with
  |true=>zhJ X o s M (fun v M'=>wSurv X l bs s M∧kp v M') fun v M=>zc4 X l (⟨zhg bs,M,[]⟩::bs.map (zcc o.dst)) (zV o.dst v s) M k kp
  |false=>match isRd o.op with
   |true=>ofD (wantD o.guard s) fun b=>match b with
    |true=>wRead o.op (zf o.op) o.dst s o.lo M (fun v bs=>zc4 X l bs (zV o.dst v s) M k kp) bs
    |false=>zc4 X l (bs.map (zhe (zf o.op) o.dst)) (zV o.dst (.tup []) s) M k kp
   |false=>match isFl o.op with
    |true=>zhJ X o s M (fun _ _=>False) fun v M=>zc4 X l (bs.map (zhe (zf o.op) o.dst)) (zV o.dst v s) M k kp
    |false=>zhJ X o s M (fun _ _=>False) fun v M=>zc4 X l (bs.map (zcc o.dst)) (zV o.dst v s) M k kp
def wStore2 (x y:COp) (s:DS) (M:VM) (k:VM→Prop):Prop:=match x,y with
 |.store n a b,.store m c d=>ofD (evD s a) fun a=>ofD (evD s b) fun b=>ofD (evD s c) fun c=>ofD (evD s d) fun d=>match a,c with
  |.ptr i _ _,.ptr j _ _=>i≠j∧ofD (zfm n M b a) fun M=>ofD (zfm m M d c) k
  |_,_=>False
 |_,_=>False
def wIf (v:DV) (a b:Prop):Prop:=match v with
 |.bool true=>a
 |.bool false=>b
 |_=>False
def blkD (i:Nat) (k:KD) (j:Nat) (s:DS) (M:VM):Prop:=match Nat.beq j i with
 |true=>k.nrm s M
 |false=>k.ext j s M
def pendD (k:KD) (s:DS) (M:VM):Option CC→Prop
 |none=>k.nrm s M
 |some .ret=>k.ret s M
 |some (.exit i)=>k.ext i s M
 |_=>False
def rgEndD (k:KD) (s:DS) (l:Nat) (M:VM):Prop:=ofD (M.obj l) fun o=>match o with
 |.loop .ready pend sl rc=>pendD k s (M.put l (.loop .exhausted pend sl rc)) pend
 |.loop .done pend sl rc=>pendD k s (M.put l (.loop .exhausted pend sl rc)) pend
 |_=>False
def wp (X:RnD):CC→KD→DS→VM→Prop
 |.skip,k,s,M=>k.nrm s M
 |.ops l,k,s,M=>wOps X k.pan l s M k.nrm
 |.draw l,k,s,M=>zc4 X l [⟨0,M,[]⟩] s M k.nrm fun v M=>k.pan v [] M
 |.draw2 l x y,k,s,M=>zc4 X l [⟨0,M,[]⟩] s M (fun s M=>wStore2 x.op y.op s M fun M=>k.nrm s M) fun _ _=>False
 |.seq a L b,k,s,M=>wp X a ⟨fun s M=>wp X b k (zbM L s) M,k.ext,k.ret,k.pan⟩ s M
 |.cond c a b,k,s,M=>ofD (evD s c) fun v=>wIf v (wp X a k s M) (wp X b k s M)
 |.block i b,k,s,M=>wp X b ⟨k.nrm,blkD i k,k.ret,k.pan⟩ s M
 |.loop L b,k,s,M=>X.loop L b k (zbM L s) M
 |.rangeFunc rid L f ps as b,k,s,M=>ofD (evD s f) fun f=>match f with
  |.fn g a c=>X.call (.fn g a c) [.yld M.next] (M.new (.loop .ready none (zbM L s) ⟨rid,L,ps,as,b⟩)) (fun _ M'=>rgEndD k s M.next M') fun _ _=>False
  |_=>False
 |.exit i,k,s,M=>k.ext i s M
 |.ret,k,s,M=>k.ret s M
 |.scope b l1 r1 l2 r2,k,s,M=>X.scope b l1 r1 l2 r2 k s M
def resD (s:DS) (M:VM):CR→Option DV
 |.tmp p=>getS s p
 |.cell n p=>(getS s p).bind fun v=>(zc7 M v).bind fun r=>match n with
  |some n=>(zbJ n r).map .agg
  |none=>oneD r
def resDL (s:DS) (M:VM):List CR→Option (List DV)
 | []=>some []
 |r::rs=>(resD s M r).bind fun v=>(resDL s M rs).map (v:: ·)
def zjm:List DV→DV
 | [v]=>v
 |vs=>.tup vs
def endD (rs:List CR) (k:DV→VM→Prop) (s:DS) (M:VM):Prop:=ofD (resDL s M rs) fun vs=>k (zjm vs) M
def argsD:List DV→Nat→DS→DS
 | [],_,s=>s
 |v::vs,i,s=>argsD vs (i+1) ((bits i,v)::s)
def fnKD (rs:List CR) (k kp:DV→VM→Prop):KD:=⟨endD rs k,fun _ _ _=>False,endD rs k,fun v _ M=>kp v M⟩
def doneKD (X:RnD) (f:DV) (l:List DV) (rs:List CR) (k:DV→VM→Prop):KD:=
 ⟨fun s M=>X.hand f l none M fun M=>endD rs k s M,fun _ _ _=>False,fun s M=>X.hand f l none M fun M=>endD rs k s M,fun v s M=>X.hand f l (some v) M fun M=>endD rs k s M⟩
def dfrKD (X:Nat→RnD) (d:Dfr) (rs:List CR) (k kp:DV→VM→Prop):KD:=
 ⟨fun s M=>ofD (evD s d.f) fun f=>match f with
   |.fn g a c=>ofD (evDL s d.args) fun l=>wp (X M.next) d.rest (doneKD (X M.next) (.fn g a c) l rs k) (zbM d.L s) M
   |_=>False,fun _ _ _=>False,fun _ _=>False,fun v _ M=>kp v M⟩
def bodyKD (X:Nat→RnD) (rs:List CR) (k kp:DV→VM→Prop):Option Dfr→KD
 |none=>fnKD rs k kp
 |some d=>dfrKD X d rs k kp
def wFunc (X:Nat→RnD) (cf:zb) (args:List DV) (M:VM) (k kp:DV→VM→Prop):Prop:=args.length≤cf.ntmps∧wp (X M.next) cf.body (bodyKD X cf.results k kp cf.dfr) (argsD args 0 []) M
def zh8:List CI→Option DV→DS→VM→(Option DV→DS→VM→Prop)→Prop
 | [],p,s,M,k=>k p s M
 |o::l,p,s,M,k=>ofD (wantD o.guard s) fun b=>match b with
  |true=>match o.op with
   |.recov=>zh8 l none (zV o.dst (p.getD .nilI) s) M k
   |op=>okD (opD op s M) fun v M=>zh8 l p (zV o.dst v s) M k
  |false=>zh8 l p (zV o.dst (.tup []) s) M k
def wHand (X:RnD) (cf:zb) (args:List DV) (p:Option DV) (M:VM) (k:VM→Prop):Prop:=args.length≤cf.ntmps∧match cf.dfr,cf.body with
 |none,.seq (.ops l) L b=>zh8 l p (argsD args 0 []) M fun p s M=>match p with
  |none=>wp X b ⟨endD cf.results fun _ M=>k M,fun _ _ _=>False,endD cf.results fun _ M=>k M,fun _ _ _=>False⟩ (zbM L s) M
  |some _=>False
 |_,_=>False
end
end Go.Ideal
namespace Go.Ideal
structure RBd where
 blk:Nat
 sz:Nat
 op:Bool
structure Wd where
 rho:Nat→Option RBd
 Z:Nat→Option (List Value×Nat)
structure Wd.Le (w w':Wd):Prop where
 rho: ∀j R,w.rho j=some R→w'.rho j=some R
 Z: ∀b z,w.Z b=some z→w'.Z b=some z
theorem Wd.Le.refl (w:Wd):w.Le w:=⟨fun _ _ h=>h,fun _ _ h=>h⟩
theorem Wd.Le.trans {a b c:Wd} (h:a.Le b) (h':b.Le c):a.Le c:=⟨fun _ _ e=>h'.rho _ _ (h.rho _ _ e),fun _ _ e=>h'.Z _ _ (h.Z _ _ e)⟩
inductive VRel (w:Wd):DV→Value→Prop where
 |int (k:IntKind) (n:Int):VRel w (.int k n) (.int k n)
 |bool (b:Bool):VRel w (.bool b) (.bool b)
 |str (s:ByteArray):VRel w (.str s) (.string s)
 |bs {b:Nat} {s:ByteArray} (hz:w.Z b=some (s.data.toList.map zhz,roE)):VRel w (.bs s) (.slice (some ⟨b,0,none⟩) s.size zc)
 |nilS:VRel w .nilS (.slice none 0 0)
 |nilP:VRel w .nilP (.pointer none)
 |nilM:VRel w .nilM (.map none)
 |nilF:VRel w .nilF .nilFunc
 |nilI:VRel w .nilI .nilIface
 |agg {l:List DV} {vs:List Value} (hl:l.length=vs.length) (h: ∀(k:Nat) d v,l[k]? =some d→vs[k]? =some v→VRel w d v):VRel w (.agg l) (.agg ⟨vs⟩)
 |tup {l:List DV} {vs:List Value} (hl:l.length=vs.length) (h: ∀(k:Nat) d v,l[k]? =some d→vs[k]? =some v→VRel w d v):VRel w (.tup l) (.tuple ⟨vs⟩)
 |fn (g:Nat) {a c:List DV} {a' c':List Value} (ha:a.length=a'.length) (hc:c.length=c'.length) (h: ∀(k:Nat) d v,a[k]? =some d→a'[k]? =some v→VRel w d v)
   (h': ∀(k:Nat) d v,c[k]? =some d→c'[k]? =some v→VRel w d v):VRel w (.fn g a c) (.func (.func g) ⟨a'⟩ ⟨c'⟩)
 |yld {l:Nat} {R:RBd} (h:w.rho l=some R):VRel w (.yld l) (.func (.yield R.blk) #[] #[])
 |ifc (t:Nat) {d:DV} {v:Value} (h:VRel w d v):VRel w (.ifc t d) (.iface t v)
 |map {j:Nat} {R:RBd} (h:w.rho j=some R):VRel w (.map j) (.map (some R.blk))
 |ptr {j i off:Nat} {R:RBd} (h:w.rho j=some R):VRel w (.ptr j i off) (.pointer (some ⟨R.blk,i*R.sz+off,none⟩))
 |ms {j lo len cap:Nat} {R:RBd} (h:w.rho j=some R) (ho:cap=zc→R.op=true) (hc:cap≠zc→len≤cap∧cap<zc):VRel w (.ms j lo len cap) (.slice (some ⟨R.blk,lo*R.sz,none⟩) len cap)
 |lst {b o s n cap e:Nat} {cs:List Value} {rows:List (List DV)} (hz:w.Z b=some (cs,e)) (hs: ∀r∈rows,r.length=s) (hb:o+rows.length*s≤cs.length)
   (h: ∀(k:Nat) d v,rows.flatten[k]? =some d→cs[o+k]? =some v→VRel w d v)
   (ho:cap=zc→e=s∧0<s∧s<roE) (hc:cap≠zc→rows.length≤cap∧cap<zc) (hn:n=rows.length):VRel w (.lst s rows) (.slice (some ⟨b,o,none⟩) n cap)
 |lst0 {s cap:Nat} {base:Option Addr} (hc:cap<zc) (hsp: ∀a,base=some a→a.spot=none):VRel w (.lst s []) (.slice base 0 cap)
 |pl {b o s e i off:Nat} {cs:List Value} {rows:List (List DV)} (hz:w.Z b=some (cs,e)) (hs: ∀r∈rows,r.length=s) (hb:o+rows.length*s≤cs.length)
   (h: ∀(k:Nat) d v,rows.flatten[k]? =some d→cs[o+k]? =some v→VRel w d v):VRel w (.pl s rows i off) (.pointer (some ⟨b,o+i*s+off,none⟩))
theorem VRel.mono {w w':Wd} (hl:w.Le w') {d:DV} {v:Value} (h:VRel w d v):VRel w' d v:=by
 induction h with
 |int k n=>grind [int]
 |bool b=>exact .bool b
 |str s=>exact .str s
 |bs hz=>exact .bs (hl.Z _ _ hz)
 |nilS=>exact .nilS
 |nilP=>exact .nilP
 |nilM=>exact .nilM
 |nilF=>exact .nilF
 |nilI=>exact .nilI
 |agg hl' _ ih=>grind [agg]
 |tup hl' _ ih=>grind [tup]
 |fn g ha hc _ _ ih ih'=>grind [fn]
 |yld h=>exact .yld (hl.rho _ _ h)
 |ifc t _ ih=>grind [ifc]
 |map h=>exact .map (hl.rho _ _ h)
 |ptr h=>exact .ptr (hl.rho _ _ h)
 |ms h ho hc=>exact .ms (hl.rho _ _ h) ho hc
 |lst hz hs hb _ ho hc hn ih=>exact .lst (hl.Z _ _ hz) hs hb ih ho hc hn
 |lst0 hc hsp=>grind [lst0]
 |pl hz hs hb _ ih=>exact .pl (hl.Z _ _ hz) hs hb ih
structure LRel (w:Wd) (l:List DV) (vs:List Value):Prop where
 len:l.length=vs.length
 at_: ∀(k:Nat) d v,l[k]? =some d→vs[k]? =some v→VRel w d v
theorem LRel.nil {w:Wd}:LRel w [] []:=⟨rfl,fun k d v h=>by grind⟩
theorem LRel.cons {w:Wd} {d:DV} {v:Value} {l:List DV} {vs:List Value} (h:VRel w d v) (h':LRel w l vs):LRel w (d::l) (v::vs):=
 ⟨by simp[h'.len],fun k d' v' h1 h2=>by
   cases k with
   |zero=>grind
   |succ k=>simp at h1 h2;exact h'.at_ k d' v' h1 h2⟩
theorem LRel.head {w:Wd} {d:DV} {l:List DV} {vs:List Value} (h:LRel w (d::l) vs): ∃v r,vs=v::r∧VRel w d v∧LRel w l r:=by
 obtain⟨h1,h2⟩:=h
 cases vs with
 |nil=>grind
 |cons v r=>exact⟨v,r,rfl,h2 0 d v rfl rfl,by grind,fun k d' v' a b=>h2 (k+1) d' v' (by grind) (by grind)⟩
theorem LRel.inv_nil {w:Wd} {vs:List Value} (h:LRel w [] vs):vs=[]:=by
 have:=h.len
 grind
theorem LRel.mono {w w':Wd} (hl:w.Le w') {l:List DV} {vs:List Value} (h:LRel w l vs):LRel w' l vs:=⟨h.len,fun k d v a b=>(h.at_ k d v a b).mono hl⟩
theorem LRel.get {w:Wd} {l:List DV} {vs:List Value} (h:LRel w l vs) {k:Nat} {d:DV} (hk:l[k]? =some d): ∃v,vs[k]? =some v∧VRel w d v:=by
 have hlt:k<vs.length:=by
  have:=(List.getElem?_eq_some_iff.1 hk).1
  have:=h.len;omega
 exact⟨vs[k],List.getElem?_eq_getElem hlt,h.at_ k d _ hk (List.getElem?_eq_getElem hlt)⟩
theorem LRel.append {w:Wd} {l m:List DV} {vs us:List Value} (h:LRel w l vs) (h':LRel w m us):LRel w (l++m) (vs++us):=by
 induction l generalizing vs with
 |nil=>rw[h.inv_nil];exact h'
 |cons d l ih=>obtain⟨v,r,rfl,hv,hr⟩:=h.head;grind [cons]
theorem LRel.take {w:Wd} {l:List DV} {vs:List Value} (h:LRel w l vs) (n:Nat):LRel w (l.take n) (vs.take n):=
 ⟨by simp[h.len],fun k d v a b=>by
   rw[List.getElem?_take] at a b
   split at a
   ·rename_i hk;rw[if_pos hk] at b;exact h.at_ k d v a b
   grind⟩
theorem LRel.drop {w:Wd} {l:List DV} {vs:List Value} (h:LRel w l vs) (n:Nat):LRel w (l.drop n) (vs.drop n):=
 ⟨by simp[h.len],fun k d v a b=>by rw[List.getElem?_drop] at a b;exact h.at_ _ d v a b⟩
theorem VRel.agg_of {w:Wd} {l:List DV} {vs:List Value} (h:LRel w l vs):VRel w (.agg l) (.agg ⟨vs⟩):=.agg h.len h.at_
theorem VRel.tup_of {w:Wd} {l:List DV} {vs:List Value} (h:LRel w l vs):VRel w (.tup l) (.tuple ⟨vs⟩):=.tup h.len h.at_
section
variable {w:Wd} {v:Value}
theorem VRel.inv_int {k:IntKind} {n:Int} (h:VRel w (.int k n) v):v=.int k n:=by cases h;rfl
theorem VRel.inv_bool {b:Bool} (h:VRel w (.bool b) v):v=.bool b:=by cases h;rfl
theorem VRel.inv_str {s:ByteArray} (h:VRel w (.str s) v):v=.string s:=by cases h;rfl
theorem VRel.inv_agg {l:List DV} (h:VRel w (.agg l) v): ∃vs,v=.agg ⟨vs⟩∧LRel w l vs:=by cases h with|agg hl h=>exact⟨_,rfl,hl,h⟩
theorem VRel.inv_tup {l:List DV} (h:VRel w (.tup l) v): ∃vs,v=.tuple ⟨vs⟩∧LRel w l vs:=by cases h with|tup hl h=>exact⟨_,rfl,hl,h⟩
theorem VRel.inv_fn {g:Nat} {a c:List DV} (h:VRel w (.fn g a c) v): ∃a' c',v=.func (.func g) ⟨a'⟩ ⟨c'⟩∧LRel w a a'∧LRel w c c':=by cases h with|fn _ ha hc h h'=>exact⟨_,_,rfl,⟨ha,h⟩,hc,h'⟩
theorem VRel.cells {d:DV} (h:VRel w d v):LRel w (zr d) (zW v):=by
 cases h with
 |agg hl h=>exact⟨hl,h⟩
 |_=>exact .cons (by constructor<;>assumption) .nil
theorem VRel.isCell {d:DV} (h:VRel w d v) (hc:zt d=true):Ideal.isCell v=true:=by
 cases h<;>first|rfl|cases hc
theorem VRel.clean {d:DV} (h:VRel w d v):clean1 v=true:=by cases h<;>rfl
theorem LRel.clean {l:List DV} {vs:List Value} (h:LRel w l vs):vs.all clean1=true:=by
 rw[List.all_eq_true]
 intro x hx
 obtain⟨k,hk,e⟩:=List.getElem_of_mem hx
 have hk':k<l.length:=by rw[h.len];exact hk
 exact(h.at_ k _ x (List.getElem?_eq_getElem hk') (by grind)).clean
theorem LRel.isCell {l:List DV} {vs:List Value} (h:LRel w l vs) (hc:l.all zt=true):vs.all Ideal.isCell=true:=by
 rw[List.all_eq_true] at hc⊢
 intro x hx
 obtain⟨k,hk,e⟩:=List.getElem_of_mem hx
 have hk':k<l.length:=by rw[h.len];exact hk
 exact(h.at_ k _ x (List.getElem?_eq_getElem hk') (by grind)).isCell (hc _ (List.getElem_mem hk'))
end
theorem zja {w:Wd} {v:Value} {d:DV} (h:dOf1 v=some d):VRel w d v:=by
 unfold dOf1 at h
 split at h<;>cases h<;>constructor
theorem ze5 {w:Wd}: ∀{vs:List Value} {l:List DV},dOfL vs=some l→LRel w l vs
 | [],l,h=>by cases h;exact .nil
 |v::r,l,h=>by
  obtain⟨d,hd,h⟩:=aof h
  obtain⟨l',hl,rfl⟩:=amf h
  exact .cons (zja hd) (ze5 hl)
theorem dOf_rel {w:Wd} {v:Value} {d:DV} (h:dOf v=some d):VRel w d v:=by
 unfold dOf at h
 split at h
 ·cases h;exact .fn _ rfl rfl (fun k d v h=>by grind) (fun k d v h=>by grind)
 ·obtain⟨l,hl,rfl⟩:=amf h;exact .agg_of (ze5 hl)
 grind [zja]
def SRel (w:Wd) (s:DS) (t:za):Prop:= ∀p d,getS s p=some d→ ∃v,t.get p=some v∧VRel w d v
theorem SRel.mono {w w':Wd} (hl:w.Le w') {s:DS} {t:za} (h:SRel w s t):SRel w' s t:=fun p d e=>by obtain⟨v,a,b⟩:=h p d e;exact⟨v,a,b.mono hl⟩
theorem SRel.nil {w:Wd} {t:za}:SRel w [] t:=fun p d e=>by cases e
theorem beqP_eq: ∀{p q:List Bool},beqP p q=true→p=q
 | [],[],_=>rfl
 |a::l,b::m,h=>by
  have h:((a==b)&&beqP l m)=true:=h
  rw[Bool.and_eq_true,beq_iff_eq] at h
  rw[h.1,beqP_eq h.2]
 | [],_::_,h=>by cases h
 |_::_,[],h=>by cases h
theorem zet (q:List Bool) (d:DV) (s:DS) (p:List Bool):getS ((q,d)::s) p=if q=p then some d else getS s p:=by
 grind [getS,beqP_eq,zeC]
theorem SRel.set {w:Wd} {s:DS} {t:za} (h:SRel w s t) {d:DV} {v:Value} (hv:VRel w d v) (p:List Bool):SRel w ((p,d)::s) (t.set p v):=by
 intro q e hq
 rw[zet] at hq
 by_cases hp:p=q
 ·grind [PT.get_set_same]
 ·rw[if_neg hp] at hq;rw[PT.get_set_ne v p q t hp];exact h q e hq
theorem SRel.put {w:Wd} {s:DS} {t:za} (h:SRel w s t) {d:DV} {v:Value} (hv:VRel w d v) (p:Option (List Bool)):SRel w (zV p d s) (zY p v t):=by
 cases p with
 |none=>exact h
 |some p=>exact h.set hv p
theorem zlu (s:DS) (p:List Bool): ∀L:List (List Bool),getS (zkS s L) p=if p∈L then getS s p else none
 | []=>rfl
 |q::L=>by
  have ih:=zlu s p L
  grind [zkS,zet]
theorem zlv {L:List (List Bool)} {s:DS} {p:List Bool} {d:DV} (h:getS (zbM L s) p=some d):getS s p=some d∧(L=[]∨p∈L):=by
 cases L with
 |nil=>exact⟨h,.inl rfl⟩
 |cons q L=>
  have h:getS (zkS s (q::L)) p=some d:=h
  grind [zlu]
theorem SRel.keep {w:Wd} {s:DS} {t:za} (h:SRel w s t) (L:List (List Bool)):SRel w (zbM L s) (zb5 L t):=by
 intro p d hp
 obtain⟨h1,h2⟩:=zlv hp
 obtain⟨v,hv,hr⟩:=h p d h1
 refine⟨v,?_,hr⟩
 cases L with
 |nil=>exact hv
 |cons q L=>
  show(zci (q::L) t).get p=some v
  grind [zcM]
def ziU (w:Wd) (N:List (List Bool)) (s:DS) (t:za):Prop:= ∀p∈N,∀d,getS s p=some d→ ∃v,t.get p=some v∧VRel w d v
theorem SRel.N {w:Wd} {s:DS} {t:za} (h:SRel w s t) (N:List (List Bool)):ziU w N s t:=fun p _ d e=>h p d e
theorem ziU.sub {w:Wd} {N N':List (List Bool)} {s:DS} {t:za} (h:ziU w N s t) (hs: ∀p∈N',p∈N):ziU w N' s t:=fun p hp d e=>h p (hs p hp) d e
theorem zl {w:Wd} {s:DS} {t:za} {x:CO} (h:ziU w (zh x) s t) {d:DV} (hx:evD s x=some d): ∃v,x.ev t=some v∧VRel w d v:=by
 cases x with
 |t p=>exact h p (List.mem_singleton.2 rfl) d hx
 |c v=>exact⟨v,rfl,dOf_rel hx⟩
theorem zbH {w:Wd} {s:DS} {t:za} (h:SRel w s t) {x:CO} {d:DV} (hx:evD s x=some d): ∃v,x.ev t=some v∧VRel w d v:=zl (h.N _) hx
theorem zev {w:Wd} {s:DS} {t:za}: ∀{l:List CO} {ds:List DV},ziU w (l.flatMap zh) s t→evDL s l=some ds→ ∃vs,evL t l=some vs∧LRel w ds vs
 | [],ds,_,hx=>by cases hx;exact⟨[],rfl,.nil⟩
 |x::l,ds,h,hx=>by
  obtain⟨d,hd,hx⟩:=aof hx
  obtain⟨r,hr,rfl⟩:=amf hx
  obtain⟨v,hv,h1⟩:=zl (h.sub fun p hp=>by simp[hp]) hd
  obtain⟨vs,hvs,h2⟩:=zev (h.sub fun p hp=>by grind) hr
  exact⟨v::vs,by grind [evL],.cons h1 h2⟩
theorem zf1 {w:Wd} {s:DS} {t:za} (h:SRel w s t) {l:List CO} {ds:List DV} (hx:evDL s l=some ds): ∃vs,evL t l=some vs∧LRel w ds vs:=zev (h.N _) hx
def ORelO (w:Wd):Option DV→Option Value→Prop
 |none,none=>True
 |some d,some v=>VRel w d v
 |_,_=>False
theorem zfE {w:Wd} {s:DS} {t:za} {x:Option CO} (h:ziU w (zdX x) s t) {d:Option DV} (hx:evDO s x=some d): ∃v,evO t x=some v∧ORelO w d v:=by
 cases x with
 |none=>cases hx;exact⟨none,rfl,trivial⟩
 |some x=>
  obtain⟨e,he,rfl⟩:=amf hx
  obtain⟨v,hv,hr⟩:=zl h he
  exact⟨some v,by show(x.ev t).map some=_;grind,hr⟩
end Go.Ideal
namespace Go.Ideal
section
variable {rs:List (List DV)} {s:Nat}
theorem z9 (h: ∀r∈rs,r.length=s):rs.flatten.length=rs.length*s:=by
 induction rs with
 |nil=>simp
 |cons r rs ih=>
  grind
theorem zdt (h: ∀r∈rs,r.length=s) (n:Nat):(rs.drop n).flatten=rs.flatten.drop (n*s):=by
 induction rs generalizing n with
 |nil=>simp
 |cons r rs ih=>
  cases n with
  |zero=>simp
  |succ n=>
   simp_all[Nat.succ_mul,List.drop_append]
theorem zds (h: ∀r∈rs,r.length=s) (n:Nat):(rs.take n).flatten=rs.flatten.take (n*s):=by
 induction rs generalizing n with
 |nil=>simp
 |cons r rs ih=>
  cases n with
  |zero=>simp
  |succ n=>
   simp_all[Nat.succ_mul,List.take_append,List.take_of_length_le]
theorem flat_at (h: ∀r∈rs,r.length=s) {i:Nat} {r:List DV} (hi:rs[i]? =some r): ∃tl,rs.flatten.drop (i*s)=r++tl:=by
 rw[←zdt h,List.drop_eq_getElem_cons (List.getElem?_eq_some_iff.1 hi).1]
 obtain⟨h1,rfl⟩:=List.getElem?_eq_some_iff.1 hi
 exact⟨_,rfl⟩
end
theorem zfT: ∀{n:Nat} {l r:List DV},zbJ n l=some r→n≤l.length∧r=l.take n
 |0,l,r,h=>by cases h;grind
 |n+1,[],r,h=>by cases h
 |n+1,a::l,r,h=>by
  obtain⟨r',hr,rfl⟩:=amf h
  obtain⟨h1,rfl⟩:=zfT hr
  grind
theorem zea {w:Wd}: ∀{l:List DV} {vs:List Value} {off:Nat} {xs:List DV} {us:List Value} {l':List DV},LRel w l vs→LRel w xs us→zK l off xs=some l'→ ∃vs',zbt vs off us=some vs'∧LRel w l' vs'
 |l,vs,off,[],us,l',h,hx,e=>by
  rw[hx.inv_nil]
  have:l'=l:=by cases l<;>cases off<;>cases e<;>rfl
  subst this
  exact⟨vs,by cases vs<;>cases off<;>rfl,h⟩
 | [],vs,off,x::xs,us,l',h,hx,e=>by cases off<;>cases e
 |c::l,vs,0,x::xs,us,l',h,hx,e=>by
  obtain⟨v,r,rfl,hv,hr⟩:=h.head
  obtain⟨u,us',rfl,hu,hus⟩:=hx.head
  obtain⟨l2,e2,rfl⟩:=amf (show(zK l 0 xs).map (x:: ·)=some l' from e)
  obtain⟨vs',e3,h3⟩:=zea hr hus e2
  exact⟨u::vs',by grind [zbt],.cons hu h3⟩
 |c::l,vs,n+1,x::xs,us,l',h,hx,e=>by
  obtain⟨v,r,rfl,hv,hr⟩:=h.head
  obtain⟨u,us',rfl,hu,hus⟩:=hx.head
  obtain⟨l2,e2,rfl⟩:=amf (show(zK l n (x::xs)).map (c:: ·)=some l' from e)
  obtain⟨vs',e3,h3⟩:=zea hr hx e2
  exact⟨v::vs',by grind [zbt],.cons hv h3⟩
theorem writeD_len {l:List DV} {off:Nat} {xs l':List DV} (h:zK l off xs=some l'):l'.length=l.length:=by
 induction l generalizing off xs l' with
 |nil=>
  cases xs with
  |nil=>cases off<;>cases h<;>rfl
  |cons=>cases off<;>cases h
 |cons c l ih=>
  cases xs with
  |nil=>cases off<;>cases h<;>rfl
  |cons x xs=>
   cases off with
   |zero=>obtain⟨l2,e2,rfl⟩:=amf (show(zK l 0 xs).map (x:: ·)=some l' from h);grind
   |succ n=>obtain⟨l2,e2,rfl⟩:=amf (show(zK l n (x::xs)).map (c:: ·)=some l' from h);grind
section
variable {w:Wd}
theorem zE {dflt y n:Nat} {d:Option DV} {v:Option Value} (h:zm dflt y d=some n) (hv:ORelO w d v):zbP dflt y v=some n:=by
 cases d with
 |none=>cases v with
  |none=>exact h
  |some=>exact hv.elim
 |some d=>cases v with
  |none=>exact hv.elim
  |some v=>
   unfold zm inD at h
   dsimp only at h
   split at h
   ·have hv:VRel w _ v:=hv
    rw[hv.inv_int]
    split at h
    ·rename_i m hle;cases h
     show inB (.ofNat _) y=_
     simp_all[inB]
    grind
   grind
theorem zcb {y n dflt:Nat} {d:Option DV} (h:zm dflt y d=some n):n≤y∨(d=none∧n=dflt):=by
 unfold zm at h
 split at h
 ·grind
 ·unfold inD at h
  split at h
  all_goals grind
theorem sameLeafD_rel {x y:DV} {x' y':Value} {b:Bool} (h:zjA x y=some b) (hx:VRel w x x') (hy:VRel w y y'):zg6 x' y'=some b:=by
 unfold zjA at h
 split at h
 ·rw[hx.inv_int,hy.inv_int];exact h
 grind
theorem zgC {xs ys:List DV} {vs us:List Value} (hx:LRel w xs vs) (hy:LRel w ys us): ∀{l:List Nat} {b:Bool},sameAtD xs ys l=some b→sameAt vs us l=some b
 | [],b,h=>h
 |i::r,b,h=>by
  obtain⟨x,h1,h⟩:=aof h
  obtain⟨y,h2,h⟩:=aof h
  obtain⟨c,h3,h⟩:=aof h
  obtain⟨e,h4,rfl⟩:=amf h
  obtain⟨x',g1,q1⟩:=hx.get h1
  obtain⟨y',g2,q2⟩:=hy.get h2
  unfold sameAt
  rw[g1,g2,Option.bind_some,Option.bind_some,sameLeafD_rel h3 q1 q2,Option.bind_some,zgC hx hy h4];rfl
theorem sameKD_rel {k:LK} {x y:DV} {x' y':Value} {b:Bool} (h:sameKD k x y=some b) (hx:VRel w x x') (hy:VRel w y y'):sameK k x' y'=some b:=by
 unfold sameKD at h
 split at h
 ·rw[hx.inv_int,hy.inv_int];exact h
 ·rw[hx.inv_bool,hy.inv_bool];exact h
 ·rw[hx.inv_str,hy.inv_str];exact h
 grind
theorem zjB {xs ys:List DV} {vs us:List Value} (hx:LRel w xs vs) (hy:LRel w ys us): ∀{l:List (Nat×LK)} {b:Bool},sameKsD xs ys l=some b→zdK vs us l=some b
 | [],b,h=>h
 |i::r,b,h=>by
  obtain⟨x,h1,h⟩:=aof h
  obtain⟨y,h2,h⟩:=aof h
  obtain⟨c,h3,h⟩:=aof h
  obtain⟨e,h4,rfl⟩:=amf h
  obtain⟨x',g1,q1⟩:=hx.get h1
  obtain⟨y',g2,q2⟩:=hy.get h2
  unfold zdK
  rw[g1,g2,Option.bind_some,Option.bind_some,sameKD_rel h3 q1 q2,Option.bind_some,zjB hx hy h4];rfl
theorem eqD_rel {ek:EK} {x y:DV} {x' y':Value} {b:Bool} (h:eqD ek x y=some b) (hx:VRel w x x') (hy:VRel w y y'):eqV ek x' y'=some b:=by
 unfold eqD at h
 split at h
 case h_21=>
  obtain⟨vs,rfl,r1⟩:=hx.inv_agg;obtain⟨us,rfl,r2⟩:=hy.inv_agg
  exact zgC r1 r2 h
 case h_22=>
  obtain⟨vs,rfl,r1⟩:=hx.inv_agg;obtain⟨us,rfl,r2⟩:=hy.inv_agg
  exact zjB r1 r2 h
 case h_23=>cases h
 all_goals (cases hx<;>cases hy<;>first|exact h| (cases h;rfl)| (cases h;cases ‹Bool› <;>rfl))
theorem binD_rel {op:BinOp} {ek:EK} {x y d:DV} {x' y':Value} (h:binD op ek x y=some d) (hx:VRel w x x') (hy:VRel w y y'): ∃v,binV op ek x' y'=some v∧VRel w d v:=by
 unfold binD at h
 split at h
 ·rw[hx.inv_int,hy.inv_int]
  obtain⟨v,hv,hd⟩:=aof h
  exact⟨v,hv,zja hd⟩
 ·rw[hx.inv_str,hy.inv_str]
  obtain⟨v,hv,hd⟩:=aof h
  exact⟨v,hv,zja hd⟩
 ·rename_i n1 n2
  have e:eqlV ek x' y' op=binV op ek x' y':=by
   unfold binV
   split
   ·cases hx;cases hy;grind
   ·cases hx;cases hy;grind
   ·rfl
  rw[←e]
  unfold eqlD at h
  split at h
  ·obtain⟨b,hb,rfl⟩:=amf h
   exact⟨.bool b,by show(eqV ek x' y').map _=_;grind [eqD_rel],.bool _⟩
  ·obtain⟨b,hb,rfl⟩:=amf h
   exact⟨.bool !b,by show(eqV ek x' y').map _=_;grind [eqD_rel],.bool _⟩
  grind
theorem unD_rel {op:UnOp} {x d:DV} {x':Value} (h:unD op x=some d) (hx:VRel w x x'): ∃v,unV op x'=some v∧VRel w d v:=by
 unfold unD at h
 split at h
 ·cases h;rw[hx.inv_int];exact⟨_,rfl,.int _ _⟩
 ·cases h;rw[hx.inv_bool];exact⟨_,rfl,.bool _⟩
 grind
theorem convD_rel {k:IntKind} {x d:DV} {x':Value} (h:convD k x=some d) (hx:VRel w x x'): ∃v,convV k x'=some v∧VRel w d v:=by
 unfold convD at h
 split at h
 ·cases h;rw[hx.inv_int];exact⟨_,rfl,.int _ _⟩
 grind
theorem zdL {kk:KK} {x y:DV} {x' y':Value} {b:Bool} (h:zbd kk x y=some b) (hx:VRel w x x') (hy:VRel w y y'):zcg kk x' y'=some b:=by
 unfold zbd at h
 split at h
 ·rw[hx.inv_str,hy.inv_str];exact h
 ·rw[hx.inv_int,hy.inv_int];exact h
 ·obtain⟨vs,rfl,r1⟩:=hx.inv_agg;obtain⟨us,rfl,r2⟩:=hy.inv_agg
  exact zgC r1 r2 h
 grind
theorem zgG {m:Bool}: ∀{l:List DV} {x d:DV} {x':Value} {vs:List Value},zcT m x l=some d→VRel w x x'→LRel w l vs→ ∃v,zdO m x' vs=some v∧VRel w d v
 | [],x,d,x',vs,h,hx,hl=>by
   rw[hl.inv_nil]
   grind [zcT,zdO]
 |y::l,x,d,x',vs,h,hx,hl=>by
  obtain⟨y',r,rfl,hy,hr⟩:=hl.head
  unfold zcT at h
  split at h
  ·grind
  ·rename_i e;cases e
   split at h
   ·rename_i hk
    subst hk
    rw[hx.inv_int,hy.inv_int]
    obtain⟨v,hv,hd⟩:=zgG h (.int _ _) hr
    grind [zdO]
   grind
  grind
theorem zln {s:DS} {t:za}: ∀{ps:List (Nat×Nat×CO)} {l:List (Nat×Nat×DV)},ziU w (ps.flatMap fun p=>zh p.2.2) s t→zhc s ps=some l→
 ∃l',ze3 t ps=some l'∧l'.map (fun x=>(x.1,x.2.1))=l.map (fun x=>(x.1,x.2.1))∧LRel w (l.map fun x=>x.2.2) (l'.map fun x=>x.2.2)
 | [],l,_,h=>by cases h;exact⟨[],rfl,rfl,.nil⟩
 | (o,n,x)::ps,l,hs,h=>by
   obtain⟨d,hd,h⟩:=aof h
   obtain⟨r,hr,rfl⟩:=amf h
   obtain⟨v,hv,h1⟩:=zl (hs.sub fun p hp=>by simp[hp]) hd
   obtain⟨r',hr',e,h2⟩:=zln (hs.sub fun p hp=>by grind) hr
   exact⟨(o,n,v)::r',by grind [ze3],by simp[e],.cons h1 h2⟩
theorem fillD_rel: ∀{l:List (Nat×Nat×DV)} {l':List (Nat×Nat×Value)} {cs cs':List DV} {vs:List Value},LRel w cs vs→l'.map (fun x=>(x.1,x.2.1))=l.map (fun x=>(x.1,x.2.1))→LRel w (l.map fun x=>x.2.2) (l'.map fun x=>x.2.2)→zia cs l=some cs'→
 ∃vs',ziS vs l'=some vs'∧LRel w cs' vs'
 | [],l',cs,cs',vs,hc,e,_,h=>by
   cases h
   cases l' with
   |nil=>exact⟨vs,rfl,hc⟩
   |cons=>cases e
 | (o,n,x)::l,[],cs,cs',vs,hc,e,_,h=>by cases e
 | (o,n,x)::l,(o',n',x')::l',cs,cs',vs,hc,e,hl,h=>by
   simp only[List.map_cons,List.cons.injEq,Prod.mk.injEq] at e hl
   obtain⟨⟨rfl,rfl⟩,e⟩:=e
   obtain⟨x2,r2,e2,hx,hr⟩:=hl.head
   cases e2
   unfold zia at h
   split at h
   ·rename_i hc1
    obtain⟨c1,h1,h⟩:=aof h
    obtain⟨v1,h2,h3⟩:=zea hc hx.cells h1
    obtain⟨vs',h4,h5⟩:=fillD_rel h3 e hr h
    refine⟨vs',?_,h5⟩
    unfold ziS
    rw[if_pos (by simp[←hx.cells.len,hc1.1,hc1.2.1]),h2,Option.bind_some,h4]
   grind
theorem offD_rel {n:Nat} {x d:DV} {x':Value} (h:offD n x=some d) (hx:VRel w x x'): ∃a,x'=.pointer (some a)∧VRel w d (.pointer (some ⟨a.block,a.off+n,none⟩)):=by
 unfold offD at h
 split at h
 ·cases h
  cases hx with
  |pl hz hs hb h=>refine⟨_,rfl,?_⟩;dsimp only;rw[Nat.add_assoc,Nat.add_assoc,←Nat.add_assoc];exact VRel.pl hz hs hb h
 ·cases h
  cases hx with
  |ptr h=>grind [VRel.ptr]
 grind
def MTy (w:Wd) (M:VM):Prop:= ∀j R op sz rs,M.obj j=some (.rows op sz rs)→w.rho j=some R→sz=R.sz∧op=R.op
theorem addrD_rel {M:VM} (hm:MTy w M) {size:Nat} {i x d:DV} {i' x':Value} (h:zkC size M i x=some d) (hi:VRel w i i') (hx:VRel w x x'): ∃v,zix size x' i'=some v∧VRel w d v:=by
 cases x with
 |lst s rows=>
  unfold zkC at h
  dsimp only at h
  split at h
  ·split at h
   ·rename_i hc
    obtain⟨rfl,hlt⟩:=hc
    cases h
    rw[hi.inv_int]
    cases hx with
    |lst hz hs hb h ho hc hn=>
     subst hn
     refine⟨_,?_,.pl hz hs hb h⟩
     simp_all[zix]
    |lst0=>grind
   grind
  grind
 |bs s=>
  unfold zkC at h
  dsimp only at h
  split at h
  ·split at h
   ·rename_i hc
    obtain⟨rfl,hlt⟩:=hc
    cases h
    rw[hi.inv_int]
    cases hx with
    |bs hz=>
     have hs:s.size=s.data.toList.length:=rfl
     refine⟨_,?_,.pl (o:=0) hz (fun r hr=>by grind) (by simp) (fun k d v a b=> ?_)⟩
     ·unfold zix;simp[hlt]
     ·have hf: ∀l:List UInt8,(l.map fun b=>[DV.int .u8 b.toNat]).flatten=l.map fun b=>DV.int .u8 b.toNat:=fun l=>by
       induction l with
       |nil=>rfl
       |cons x l ih=>grind
      rw[hf,List.getElem?_map] at a
      rw[Nat.zero_add,List.getElem?_map] at b
      cases e:s.data.toList[k]? with
      |none=>grind
      |some y=>rw[e] at a b;cases a;cases b;exact .int _ _
   grind
  grind
 |ms j lo len cap=>
  unfold zkC at h
  dsimp only at h
  obtain⟨o,ho,h1⟩:=aof h
  clear h
  cases o with
  |rows op sz rs=>
   cases i with
   |int k n=>
    cases n with
    |ofNat i=>
     dsimp only at h1
     split at h1
     ·rename_i hc
      obtain⟨rfl,hlt⟩:=hc
      cases h1
      rw[hi.inv_int]
      cases hx with
      | @ms _ _ _ _ R hr _ _=>
        obtain⟨rfl,-⟩:=hm _ R _ _ _ ho hr
        have:=VRel.ptr (i:=lo+i) (off:=0) hr
        simp_all[zix,Nat.add_mul]
     grind
    |negSucc=>cases h1
   |_=>cases h1
  |_=>cases h1
 |_=>cases h
theorem arrD_rel {n size:Nat} {i x d:DV} {i' x':Value} (h:arrD n size i x=some d) (hi:VRel w i i') (hx:VRel w x x'): ∃v,zem n size x' i'=some v∧VRel w d v:=by
 unfold arrD at h
 split at h
 ·split at h
  ·rename_i hlt
   obtain⟨a,rfl,hd⟩:=offD_rel h hx
   rw[hi.inv_int]
   simp_all[zem]
  grind
 grind
theorem nilD_rel {x d:DV} {x':Value} (h:nilD x=some d) (hx:VRel w x x'): ∃v,nilV x'=some v∧VRel w d v:=by
 unfold nilD at h
 split at h<;>cases h<;>(refine⟨x',?_,hx⟩)<;>cases hx<;>rfl
theorem assertD_rel {t:TypeId} {z x d:DV} {ok:Bool} {x' z':Value} (h:zcj t z ok x=some d) (hx:VRel w x x') (hz:VRel w z z'): ∃v,zkA t z' ok x'=some v∧VRel w d v:=by
 unfold zcj at h
 split at h
 ·rename_i u y
  cases hx with
  |ifc _ hv=>
   unfold zkA
   dsimp only
   split at h<;>rename_i e1
   ·cases h;rw[e1];exact⟨_,rfl,.tup_of (.cons hv (.cons (.bool _) .nil))⟩
   ·grind
   ·cases h;rw[e1];exact⟨_,rfl,.tup_of (.cons hz (.cons (.bool _) .nil))⟩
   grind
 ·split at h
  ·cases h;cases hx;exact⟨_,rfl,.tup_of (.cons hz (.cons (.bool _) .nil))⟩
  grind
 grind
end
end Go.Ideal
namespace Go.Ideal
structure RowsRel (w:Wd) (R:RBd) (op:Bool) (sz:Nat) (rs:List (List DV)) (cs:List Value) (e:Nat):Prop where
 hop:op=R.op
 hsz:sz=R.sz
 esz:e=if op=true then sz else 0
 pos:op=true→0<sz∧sz<roE
 row: ∀r∈rs,r.length=sz
 rel:LRel w rs.flatten cs
structure MapRel (w:Wd) (es:List (DV×DV)) (es':List (Value×Value×Nat)):Prop where
 keys:LRel w (es.map Prod.fst) (es'.map Prod.fst)
 vals:LRel w (es.map Prod.snd) (es'.map fun x=>x.2.1)
inductive zhG (w:Wd) (R:RBd):MO→IObj→Prop where
 |rows {op:Bool} {sz:Nat} {rs:List (List DV)} {cs:List Value} {e:Nat} (h:RowsRel w R op sz rs cs e):zhG w R (.rows op sz rs) (.cells cs e)
 |map {es:List (DV×DV)} {es':List (Value×Value×Nat)} {c:Nat} (h:MapRel w es es'):zhG w R (.map es) (.map es' c)
 |loop {st:LoopState} {pend:Option CC} {sl:DS} {sl':za} {rc:RC} (h:SRel w sl sl'):zhG w R (.loop st pend sl rc) (.loop st pend sl' rc)
theorem zhG.mono {w w':Wd} (hl:w.Le w') {R:RBd} {o:MO} {e:IObj} (h:zhG w R o e):zhG w' R o e:=by
 cases h with
 |rows h=>exact .rows ⟨h.hop,h.hsz,h.esz,h.pos,h.row,h.rel.mono hl⟩
 |map h=>exact .map ⟨h.keys.mono hl,h.vals.mono hl⟩
 |loop h=>exact .loop (h.mono hl)
structure HRel (w:Wd) (M:VM) (h:H):Prop where
 wf: ∀j o st,M.get j=some (o,st)→j<M.next∧st<M.next∧ ∃R,w.rho j=some R
 dom: ∀j R,w.rho j=some R→j<M.next∧R.blk<h.next
 zd: ∀b z,w.Z b=some z→b<h.next∧h.get b=some (.cells z.1 z.2)
 obj: ∀j o st R,M.get j=some (o,st)→w.rho j=some R→w.Z R.blk=none∧ ∃e,h.get R.blk=some e∧zhG w R o e
 inj: ∀i j R S,w.rho i=some R→w.rho j=some S→(M.get i).isSome=true→(M.get j).isSome=true→R.blk=S.blk→i=j
structure Hist (w0:Wd) (M0:VM) (h0:H) (w:Wd) (M:VM) (h:H):Prop where
 le:w0.Le w
 nxt:M0.next≤M.next
 hnx:h0.next≤h.next
 old: ∀j o st,M.get j=some (o,st)→M0.get j=some (o,st)∨M0.next≤st
 same: ∀j x R,M0.get j=some x→M.get j=some x→w0.rho j=some R→h.get R.blk=h0.get R.blk
 own: ∀j R,w.rho j=some R→w0.rho j=some R∨h0.next≤R.blk
 rest: ∀b,b<h0.next→(∀j R,w0.rho j=some R→R.blk≠b)→h.get b=h0.get b
theorem Hist.refl (w:Wd) (M:VM) (h:H):Hist w M h w M h:=⟨.refl _,Nat.le_refl _,Nat.le_refl _,fun _ _ _ e=>.inl e,fun _ _ _ _ _ _=>rfl,fun _ _ e=>.inl e,fun _ _ _=>rfl⟩
theorem Hist.trans {w0 w1 w2:Wd} {M0 M1 M2:VM} {h0 h1 h2:H} (h:HRel w0 M0 h0) (a:Hist w0 M0 h0 w1 M1 h1) (b:Hist w1 M1 h1 w2 M2 h2):Hist w0 M0 h0 w2 M2 h2 where
 le:=a.le.trans b.le
 nxt:=Nat.le_trans a.nxt b.nxt
 hnx:=Nat.le_trans a.hnx b.hnx
 old:=fun j o st e=>by
  rcases b.old j o st e with e1|e1
  ·exact a.old j o st e1
  ·exact .inr (Nat.le_trans a.nxt e1)
 same:=fun j x R e0 e2 hR=>by
  obtain⟨o,st⟩:=x
  have hst:=(h.wf j o st e0).2.1
  have e1:M1.get j=some (o,st):=by
   rcases b.old j o st e2 with e1|e1
   ·exact e1
   ·have:=a.nxt;omega
  rw[b.same j _ R e1 e2 (a.le.rho _ _ hR),a.same j _ R e0 e1 hR]
 own:=fun j R e=>by
  rcases b.own j R e with e1|e1
  ·exact a.own j R e1
  ·exact .inr (Nat.le_trans a.hnx e1)
 rest:=fun x hx hn=>by
  rw[b.rest x (Nat.lt_of_lt_of_le hx a.hnx) fun j R e eb=> ?_,a.rest x hx hn]
  rcases a.own j R e with e1|e1
  all_goals grind
theorem get_new (M:VM) (o:MO) (i:Nat):(M.new o).get i=if i=M.next then some (o,M.next) else M.get i:=rfl
theorem get_put (M:VM) (j:Nat) (o:MO) (i:Nat):(M.put j o).get i=if i=j then some (o,M.next) else M.get i:=rfl
theorem zj9 (M:VM) (j:Nat) (i:Nat):(M.del j).get i=if i=j then none else M.get i:=rfl
theorem zbX {M:VM} {j:Nat} {o:MO} (h:M.obj j=some o): ∃st,M.get j=some (o,st):=by
 obtain⟨⟨o',st⟩,h1,rfl⟩:=amf h;grind
theorem HRel.ty {w:Wd} {M:VM} {h:H} (hr:HRel w M h):MTy w M:=fun j R op sz rs ho hR=>by
 obtain⟨st,hg⟩:=zbX ho
 obtain⟨-,e,-,hr⟩:=hr.obj j _ st R hg hR
 cases hr with
 |rows h=>exact⟨h.hsz,h.hop⟩
def Wd.add (w:Wd) (j:Nat) (R:RBd):Wd:=⟨fun i=>if i=j then some R else w.rho i,w.Z⟩
theorem Wd.add_le {w:Wd} {j:Nat} {R:RBd} (h:w.rho j=none):w.Le (w.add j R):=⟨fun i S e=>by
 show(if i=j then some R else w.rho i)=_
 grind,fun _ _ e=>e⟩
section
variable {w:Wd} {M:VM} {h:H} (hr:HRel w M h)
include hr
theorem HRel.rho_none {j:Nat} (hj:M.next≤j):w.rho j=none:=by
 cases e:w.rho j with
 |none=>rfl
 |some R=>have:=(hr.dom j R e).1;omega
theorem HRel.new {o:MO} {e:IObj} {sz:Nat} {op:Bool} (ho:zhG (w.add M.next ⟨h.next,sz,op⟩) ⟨h.next,sz,op⟩ o e):
 HRel (w.add M.next ⟨h.next,sz,op⟩) (M.new o) (h.new e)∧Hist w M h (w.add M.next ⟨h.next,sz,op⟩) (M.new o) (h.new e):=by
 have hn:=hr.rho_none (Nat.le_refl M.next)
 have hle:=Wd.add_le (R:=⟨h.next,sz,op⟩) hn
 have rho_add: ∀j R,(w.add M.next ⟨h.next,sz,op⟩).rho j=some R→(j=M.next∧R=⟨h.next,sz,op⟩)∨(j≠M.next∧w.rho j=some R):=fun j R e=>by
  have e:(if j=M.next then some _ else w.rho j)=some R:=e
  grind
 have gnew: ∀b,b<h.next→(h.new e).get b=h.get b:=fun b hb=>by grind [H.get_new]
 constructor
 ·constructor
  ·intro j o' st e'
   rw[get_new] at e'
   by_cases hj:j=M.next
   ·rw[if_pos hj] at e';cases e'
    exact⟨by show j<M.next+1;omega,Nat.lt_succ_self _,⟨h.next,sz,op⟩,by show(if j=M.next then _ else _)=_;grind⟩
   ·rw[if_neg hj] at e'
    obtain⟨h1,h2,R,h3⟩:=hr.wf j o' st e'
    exact⟨Nat.lt_succ_of_lt h1,Nat.lt_succ_of_lt h2,R,hle.rho _ _ h3⟩
  ·intro j R e'
   rcases rho_add j R e' with⟨rfl,rfl⟩| ⟨hj,e'⟩
   ·exact⟨Nat.lt_succ_self _,Nat.lt_succ_self _⟩
   ·have:=hr.dom j R e';exact⟨Nat.lt_succ_of_lt this.1,Nat.lt_succ_of_lt this.2⟩
  ·intro b z hz
   have:=hr.zd b z hz
   exact⟨Nat.lt_succ_of_lt this.1,by grind⟩
  ·intro j o' st R e' hR
   rw[get_new] at e'
   rcases rho_add j R hR with⟨rfl,rfl⟩| ⟨hj,hR⟩
   ·rw[if_pos rfl] at e';cases e'
    refine⟨?_,e,by simp_all,ho⟩
    show w.Z h.next=none
    cases hz:w.Z h.next with
    |none=>rfl
    |some z=>have:=(hr.zd _ z hz).1;omega
   ·rw[if_neg hj] at e'
    obtain⟨h1,e2,h2,h3⟩:=hr.obj j o' st R e' hR
    exact⟨h1,e2,by rw[gnew _ (hr.dom j R hR).2];exact h2,h3.mono hle⟩
  ·intro i j R S hi hj ai aj eb
   rcases rho_add i R hi with⟨rfl,rfl⟩| ⟨ni,hi⟩
   ·rcases rho_add j S hj with⟨rfl,rfl⟩| ⟨nj,hj⟩
    ·rfl
    ·have:=(hr.dom j S hj).2;grind
   ·rcases rho_add j S hj with⟨rfl,rfl⟩| ⟨nj,hj⟩
    ·have:=(hr.dom i R hi).2;grind
    ·rw[get_new,if_neg ni] at ai;rw[get_new,if_neg nj] at aj
     exact hr.inj i j R S hi hj ai aj eb
 ·refine⟨hle,Nat.le_succ _,Nat.le_succ _,fun j o' st e'=> ?_,fun j x R e0 e1 hR=>gnew _ (hr.dom j R hR).2,fun j R e'=> ?_,fun b hb _=>gnew b hb⟩
  all_goals grind [get_new]
theorem HRel.put {j:Nat} {x:MO×Nat} {R:RBd} (hj:M.get j=some x) (hR:w.rho j=some R) {o:MO} {e:IObj} (ho:zhG w R o e):HRel w (M.put j o) (h.put R.blk e)∧Hist w M h w (M.put j o) (h.put R.blk e):=by
 obtain⟨o0,st0⟩:=x
 obtain⟨hz,e0,he0,-⟩:=hr.obj j o0 st0 R hj hR
 have gput: ∀b,b≠R.blk→(h.put R.blk e).get b=h.get b:=fun b hb=>by grind [H.get_put]
 have hlt:=(hr.dom j R hR)
 constructor
 ·constructor
  ·intro i o' st e'
   rw[get_put] at e'
   by_cases hi:i=j
   ·rw[if_pos hi] at e';cases e';subst hi
    exact⟨Nat.lt_succ_of_lt hlt.1,Nat.lt_succ_self _,R,hR⟩
   ·rw[if_neg hi] at e'
    obtain⟨h1,h2,h3⟩:=hr.wf i o' st e'
    exact⟨Nat.lt_succ_of_lt h1,Nat.lt_succ_of_lt h2,h3⟩
  ·intro i S e';have:=hr.dom i S e';exact⟨Nat.lt_succ_of_lt this.1,this.2⟩
  ·intro b z hb
   have:=hr.zd b z hb
   exact⟨this.1,by grind⟩
  ·intro i o' st S e' hS
   rw[get_put] at e'
   by_cases hi:i=j
   ·simp_all
   ·rw[if_neg hi] at e'
    obtain⟨h1,e2,h2,h3⟩:=hr.obj i o' st S e' hS
    refine⟨h1,e2,?_,h3⟩
    rw[gput _ fun eb=>hi (hr.inj i j S R hS hR (by grind) (by grind) eb)];exact h2
  ·intro a b A B ha hb la lb eb
   refine hr.inj a b A B ha hb ?_ ?_ eb
   all_goals grind [get_put]
 ·refine⟨.refl _,Nat.le_succ _,Nat.le_refl _,fun i o' st e'=> ?_,fun i x S e1 e2 hS=> ?_,fun i S e'=>.inl e',fun b hb hn=>gput b fun e=>hn j R hR e.symm⟩
  ·grind [get_put]
  ·rw[get_put] at e2
   by_cases hi:i=j
   ·rw[if_pos hi] at e2;cases e2
    have:=(hr.wf i _ _ e1).2.1;omega
   ·refine gput _ fun eb=>hi (hr.inj i j S R hS hR (by grind) (by grind) eb)
theorem HRel.kill {j:Nat} {x:MO×Nat} {R:RBd} (hj:M.get j=some x) (hR:w.rho j=some R) (e:IObj):HRel w (M.del j) (h.put R.blk e)∧Hist w M h w (M.del j) (h.put R.blk e):=by
 obtain⟨o0,st0⟩:=x
 obtain⟨hz,e0,he0,-⟩:=hr.obj j o0 st0 R hj hR
 have gput: ∀b,b≠R.blk→(h.put R.blk e).get b=h.get b:=fun b hb=>by grind [H.get_put]
 have dl: ∀i x,(M.del j).get i=some x→i≠j∧M.get i=some x:=fun i x e'=>by
  grind [zj9]
 constructor
 ·constructor
  ·intro i o' st e';exact hr.wf i o' st (dl _ _ e').2
  ·intro i S e';exact hr.dom i S e'
  ·intro b z hb
   have:=hr.zd b z hb
   exact⟨this.1,by grind⟩
  ·intro i o' st S e' hS
   obtain⟨hi,e'⟩:=dl _ _ e'
   obtain⟨h1,e2,h2,h3⟩:=hr.obj i o' st S e' hS
   exact⟨h1,e2,by rw[gput _ fun eb=>hi (hr.inj i j S R hS hR (by grind) (by grind) eb)];exact h2,h3⟩
  ·intro a b A B ha hb la lb eb
   obtain⟨xa,ea⟩:=Option.isSome_iff_exists.1 la
   obtain⟨xb,ebb⟩:=Option.isSome_iff_exists.1 lb
   exact hr.inj a b A B ha hb (by grind) (by grind) eb
 ·refine⟨.refl _,Nat.le_refl _,Nat.le_refl _,fun i o' st e'=>.inl (dl _ _ e').2,fun i x S e1 e2 hS=> ?_,fun i S e'=>.inl e',fun b hb hn=>gput b fun e=>hn j R hR e.symm⟩
  exact gput _ fun eb=>(dl _ _ e2).1 (hr.inj i j S R hS hR (by grind) (by grind) eb)
theorem HRel.newZ (cs:List Value) (e:Nat):HRel ⟨w.rho,fun b=>if b=h.next then some (cs,e) else w.Z b⟩ M (h.new (.cells cs e))∧Hist w M h ⟨w.rho,fun b=>if b=h.next then some (cs,e) else w.Z b⟩ M (h.new (.cells cs e)):=by
 have gnew: ∀b,b<h.next→(h.new (.cells cs e)).get b=h.get b:=fun b hb=>by grind [H.get_new]
 have hle:w.Le ⟨w.rho,fun b=>if b=h.next then some (cs,e) else w.Z b⟩:=⟨fun _ _ e=>e,fun b z hz=>by
  show(if b=h.next then _ else _)=_
  rw[if_neg (by have:=(hr.zd b z hz).1;omega)];exact hz⟩
 constructor
 ·constructor
  ·exact hr.wf
  ·intro j R e';have:=hr.dom j R e';simp_all[Nat.lt_succ_of_lt]
  ·intro b z hz
   have hz:(if b=h.next then some (cs,e) else w.Z b)=some z:=hz
   by_cases hb:b=h.next
   ·rw[if_pos hb] at hz;cases hz;simp_all
   ·rw[if_neg hb] at hz
    have:=hr.zd b z hz
    exact⟨Nat.lt_succ_of_lt this.1,by grind⟩
  ·intro j o st R e' hR
   obtain⟨h1,e2,h2,h3⟩:=hr.obj j o st R e' hR
   have hb:=(hr.dom j R hR).2
   refine⟨?_,e2,by grind,h3.mono hle⟩
   grind
  ·exact hr.inj
 ·exact⟨hle,Nat.le_refl _,Nat.le_succ _,fun j o st e'=>.inl e',fun j x R e0 e1 hR=>gnew _ (hr.dom j R hR).2,fun j R e'=>.inl e',fun b hb _=>gnew b hb⟩
end
end Go.Ideal
namespace Go.Ideal
theorem takeC_app {us tl:List Value} {n:Nat} (hn:n≤us.length) (hc:us.all clean1=true):zkJ n (us++tl)=some (us.take n):=by
 grind [zkJ,zdG,cleanL]
section
variable {w:Wd} {M:VM} {h:H}
def RdB (w:Wd) (js:List Nat) (b:Nat):Prop:=(∃j R,j∈js∧w.rho j=some R∧R.blk=b)∨(w.Z b).isSome=true
theorem zjG (hr:HRel w M h) {d:DV} {r:List DV} {v:Value} (hd:zc7 M d=some r) (hv:VRel w d v):
 ∃b off cs e us tl,v=.pointer (some ⟨b,off,none⟩)∧h.get b=some (.cells cs e)∧RdB w (refD d) b∧cs.drop off=us++tl∧LRel w r us:=by
 cases hv with
 | @pl b o s e i off cs rows hz hs hb hk=>
   obtain⟨r0,h0,rfl⟩:=amf (show(rows[i]?).map (fun r=>r.drop off)=some r from hd)
   have hl:=z9 hs
   have hR:LRel w rows.flatten ((cs.drop o).take rows.flatten.length):=⟨by grind,fun k d v a b=>by
    grind⟩
   have hsplit:=(List.take_append_drop rows.flatten.length (cs.drop o)).symm
   obtain⟨tl,ht⟩:=flat_at hs h0
   have h1:=hR.drop (i*s+off)
   have hlen0:=hs r0 (List.mem_of_getElem? h0)
   rw[←List.drop_drop,ht,List.drop_append] at h1
   have h2:=h1.take (r0.drop off).length
   rw[List.take_left] at h2
   refine⟨b,o+i*s+off,cs,e,_,(((cs.drop o).take rows.flatten.length).drop (i*s+off)).drop (r0.drop off).length++(cs.drop o).drop (max rows.flatten.length (i*s+off)),rfl,(hr.zd _ _ hz).2,.inr (by grind),?_,h2⟩
   rw[←List.append_assoc,List.take_append_drop]
   rw[show o+i*s+off=o+(i*s+off) by omega,←List.drop_drop]
   conv=>lhs;rw[hsplit]
   rw[List.drop_append,List.drop_drop,List.length_take]
   congr 1
   rcases Nat.le_total rows.flatten.length (i*s+off) with hle|hle
   ·rw[Nat.max_eq_right hle]
    have:min rows.flatten.length (cs.drop o).length=rows.flatten.length:=by grind
    rw[this,List.drop_drop,List.drop_drop];congr 1;omega
   ·rw[Nat.max_eq_left hle]
    have:min rows.flatten.length (cs.drop o).length=rows.flatten.length:=by grind
    rw[this,Nat.sub_eq_zero_of_le hle];simp
 | @ptr j i off R hR=>
   obtain⟨o,ho,hd⟩:=aof (show(M.obj j).bind _=some r from hd)
   obtain⟨st,hg⟩:=zbX ho
   obtain⟨hz,e,he,hro⟩:=hr.obj j o st R hg hR
   cases hro with
   | @rows op sz rs cs e' hrows=>
     obtain⟨r0,h0,rfl⟩:=amf (show(rs[i]?).map (fun r=>r.drop off)=some r from hd)
     have hs:=hrows.row
     obtain⟨tl,ht⟩:=flat_at hs h0
     have h1:=hrows.rel.drop (i*sz+off)
     rw[←List.drop_drop,ht,List.drop_append] at h1
     have h2:=h1.take (r0.drop off).length
     rw[List.take_left] at h2
     refine⟨R.blk,i*R.sz+off,cs,e',_,(cs.drop (i*sz+off)).drop (r0.drop off).length,rfl,he,.inl ⟨j,R,List.mem_singleton.2 rfl,hR,rfl⟩,?_,h2⟩
     rw[←hrows.hsz,List.take_append_drop]
   |map=>cases hd
   |loop=>cases hd
 |_=>cases hd
theorem zeR {b off:Nat} {cs us tl:List Value} {e n:Nat} (hg:h.get b=some (.cells cs e)) (hs:cs.drop off=us++tl) (hn:n≤us.length) (hc:us.all clean1=true):h.readN b off n=some (us.take n):=by
 unfold H.readN
 rw[hg,Option.bind_some]
 show zkJ n (zey off cs)=_
 grind [zcf,takeC_app]
theorem zic (hr:HRel w M h) {d:DV} {rows:List (List DV)} {size:Nat} {v:Value} (hd:zgo M size d=some rows) (hv:VRel w d v):
 ∃base cap,v=.slice base rows.length cap∧(∀r∈rows,r.length=size)∧(rows=[]∨ ∃b o cs e us tl,base=some ⟨b,o,none⟩∧h.get b=some (.cells cs e)∧RdB w (refD d) b∧cs.drop o=us++tl∧LRel w rows.flatten us):=by
 cases hv with
 |nilS=>cases hd;simp_all
 | @lst b o s n cap e cs rows' hz hs hb hk hO hC hn=>
   have hd:(if s=size then some rows' else none)=some rows:=hd
   split at hd
   ·rename_i hsz;cases hd;subst hsz;subst hn
    refine⟨_,cap,rfl,hs,.inr ⟨b,o,cs,e,(cs.drop o).take rows.flatten.length,(cs.drop o).drop rows.flatten.length,rfl,(hr.zd _ _ hz).2,.inr (by grind),(List.take_append_drop _ _).symm,?_⟩⟩
    have hl:=z9 hs
    exact⟨by grind,fun k d v a b=>by
     grind⟩
   grind
 | @bs b s hz=>
   have hd:(if size=1 then some (s.data.toList.map fun b=>[DV.int .u8 b.toNat]) else none)=some rows:=hd
   split at hd
   ·rename_i hsz;cases hd;subst hsz
    have hf: ∀l:List UInt8,(l.map fun b=>[DV.int .u8 b.toNat]).flatten=l.map fun b=>DV.int .u8 b.toNat:=fun l=>by
     induction l with
     |nil=>rfl
     |cons x l ih=>grind
    refine⟨_,zc,by simp_all,(fun r hr=>by grind),.inr ⟨b,0,s.data.toList.map zhz,roE,s.data.toList.map zhz,[],rfl,(hr.zd _ _ hz).2,.inr (by grind),by simp,?_⟩⟩
    rw[hf]
    refine⟨by simp,fun k d v a b=> ?_⟩
    rw[List.getElem?_map] at a b
    cases e:s.data.toList[k]? with
    |none=>grind
    |some y=>rw[e] at a b;cases a;cases b;exact .int _ _
   grind
 | @lst0 s cap base hc _=>
   have hd:(if s=size then some [] else none)=some rows:=hd
   simp_all
 | @ms j lo len cap R hR hO hC=>
   obtain⟨o,ho,hd⟩:=aof (show(M.obj j).bind _=some rows from hd)
   obtain⟨st,hg⟩:=zbX ho
   obtain⟨hz,e,he,hro⟩:=hr.obj j o st R hg hR
   cases hro with
   | @rows op sz rs cs e' hrows=>
     have hd2:(if sz=size∧lo+len≤rs.length then some ((rs.drop lo).take len) else none)=some rows:=hd
     clear hd
     split at hd2
     ·rename_i hc;obtain⟨rfl,hle⟩:=hc;cases hd2
      have hs:=hrows.row
      refine⟨some ⟨R.blk,lo*R.sz,none⟩,cap,by grind,fun r hr=>hs r (List.mem_of_mem_drop (List.mem_of_mem_take hr)),.inr ⟨R.blk,lo*R.sz,cs,e',(cs.drop (lo*R.sz)).take (len*sz),(cs.drop (lo*R.sz)).drop (len*sz),rfl,he,.inl ⟨j,R,List.mem_singleton.2 rfl,hR,rfl⟩,(List.take_append_drop _ _).symm,?_⟩⟩
      have hs': ∀r∈rs.drop lo,r.length=sz:=fun r hr=>hs r (List.mem_of_mem_drop hr)
      rw[zds hs',zdt hs,←hrows.hsz]
      exact(hrows.rel.drop _).take _
     grind
   |map=>cases hd
   |loop=>cases hd
 |_=>cases hd
theorem allO_byte: ∀{rows:List (List DV)} {l:List UInt8} {us:List Value},allO byteOfD rows=some l→(∀r∈rows,r.length=1)→LRel w rows.flatten us→allO zkr us=some l
 | [],l,us,h,_,hl=>by rw[hl.inv_nil];exact h
 |r::rows,l,us,h,hs,hl=>by
  obtain⟨b,hb,h⟩:=aof h
  obtain⟨l',hl',rfl⟩:=amf h
  unfold byteOfD at hb
  split at hb
  ·cases hb
   obtain⟨v,us',rfl,hv,hus⟩:=hl.head
   rw[hv.inv_int]
   show((zkr _).bind fun b=>(allO zkr us').map (b:: ·))=_
   rw[allO_byte hl' (fun r hr=>hs r (List.mem_cons_of_mem _ hr)) hus];rfl
  grind
theorem ziB (hr:HRel w M h) {d:DV} {es:List (DV×DV)} {v:Value} (hd:zbe M d=some es) (hv:VRel w d v):
 ∃es',MapRel w es es'∧ ∀g:H,(∀b,RdB w (refD d) b→g.get b=h.get b)→zdw g v=some es':=by
 cases hv with
 |nilM=>cases hd;exact⟨[],⟨.nil,.nil⟩,fun g _=>rfl⟩
 | @map j R hR=>
   obtain⟨o,ho,hd⟩:=aof (show(M.obj j).bind _=some es from hd)
   obtain⟨st,hg⟩:=zbX ho
   obtain⟨hz,e,he,hro⟩:=hr.obj j o st R hg hR
   cases hro with
   | @map es0 es' c hm=>
     cases hd
     refine⟨es',hm,fun g hgg=> ?_⟩
     unfold zdw
     dsimp only
     rw[hgg R.blk (.inl ⟨j,R,List.mem_singleton.2 rfl,hR,rfl⟩),he]
   |rows=>cases hd
   |loop=>cases hd
 |_=>cases hd
theorem findD_rel {kk:KK} {k:DV} {k':Value} (hk:VRel w k k'): ∀{es:List (DV×DV)} {es':List (Value×Value×Nat)} {r:Option DV},zgO kk k es=some r→MapRel w es es'→ ∃r',findE kk k' es'=some r'∧ORelO w r r'
 | [],[],r,h,hm=>by cases h;exact⟨none,rfl,trivial⟩
 | [],_::_,r,h,hm=>by have:=hm.keys.len;grind
 |_::_,[],r,h,hm=>by have:=hm.keys.len;grind
 | (key,v)::es,(key',v',c)::es',r,h,hm=>by
   obtain⟨x1,r1,e1,hkey,hks⟩:=hm.keys.head
   obtain⟨x2,r2,e2,hval,hvs⟩:=hm.vals.head
   cases e1;cases e2
   obtain⟨b,hb,h⟩:=aof (show(zbd kk k key).bind _=some r from h)
   unfold findE
   rw[zdL hb hk hkey,Option.bind_some]
   cases b with
   |true=>cases h;exact⟨some v',rfl,hval⟩
   |false=>exact findD_rel hk (show zgO kk k es=some r from h) ⟨hks,hvs⟩
theorem zeM: ∀{l m:List DV} {vs us:List Value},zb6 l m=true→LRel w l vs→LRel w m us→zD vs us=true
 | [],[],vs,us,h,h1,h2=>by rw[h1.inv_nil,h2.inv_nil];rfl
 | [],_::_,vs,us,h,_,_=>by cases h
 |d::l,[],vs,us,h,_,_=>by cases d<;>cases h
 |d::l,e::m,vs,us,h,h1,h2=>by
  obtain⟨v,vs',rfl,hv,hl⟩:=h1.head
  obtain⟨u,us',rfl,hu,hm⟩:=h2.head
  unfold zb6 at h
  split at h
  ·grind
  ·rename_i ea eb;cases ea;cases eb
   simp only[Bool.and_eq_true] at h
   rw[hv.inv_int,hu.inv_int]
   unfold zD
   rw[show(decide (_=_)&&eqI _ _)=true from by grind]
   exact zeM h.2 hl hm
  ·rename_i ea eb;cases ea;cases eb
   simp only[Bool.and_eq_true] at h
   rw[hv.inv_str,hu.inv_str]
   unfold zD
   rw[h.1]
   exact zeM h.2 hl hm
  grind
theorem setD_rel {kk:KK} {k x:DV} {k' x':Value} (hk:VRel w k k') (hx:VRel w x x') (c:Nat): ∀{es es2:List (DV×DV)} {es':List (Value×Value×Nat)},setD kk k x es=some es2→MapRel w es es'→ ∃es2' c',setE kk k' x' c es'=some (es2',c')∧MapRel w es2 es2'
 | [],es2,[],h,hm=>by cases h;exact⟨_,_,rfl,.cons hk .nil,.cons hx .nil⟩
 | [],es2,_::_,h,hm=>by have:=hm.keys.len;grind
 |_::_,es2,[],h,hm=>by have:=hm.keys.len;grind
 | (key,v)::es,es2,(key',v',b')::es',h,hm=>by
   obtain⟨x1,r1,e1,hkey,hks⟩:=hm.keys.head
   obtain⟨x2,r2,e2,hval,hvs⟩:=hm.vals.head
   cases e1;cases e2
   obtain⟨b,hb,h⟩:=aof (show(zbd kk k key).bind _=some es2 from h)
   unfold setE
   rw[zdL hb hk hkey,Option.bind_some]
   cases b with
   |true=>
    have h:(if zb6 (zr k) (zr key)=true then some ((k,x)::es) else none)=some es2:=h
    split at h
    ·rename_i hsi;cases h
     refine⟨_,_,if_pos (zeM hsi hk.cells hkey.cells),.cons hk hks,.cons hx hvs⟩
    grind
   |false=>
    obtain⟨es3,h3,rfl⟩:=amf (show(setD kk k x es).map _=some es2 from h)
    obtain⟨es3',c',h4,h5⟩:=setD_rel hk hx c h3 ⟨hks,hvs⟩
    refine⟨(key',v',b')::es3',c',?_,.cons hkey h5.keys,.cons hval h5.vals⟩
    grind
end
theorem zhI (l:List DV) (o:Nat):zK l o []=some l:=by cases l<;>cases o<;>rfl
theorem zeb: ∀{l:List DV} {o:Nat} {xs:List DV},o+xs.length≤l.length→zK l o xs=some (l.take o++xs++l.drop (o+xs.length))
 |l,o,[],h=>by rw[zhI];simp
 | [],o,x::xs,h=>by grind
 |c::l,0,x::xs,h=>by
  show(zK l 0 xs).map (x:: ·)=_
  rw[zeb (by grind)];simp
 |c::l,n+1,x::xs,h=>by
  show(zK l n (x::xs)).map (c:: ·)=_
  rw[zeb (by grind),show n+1+(x::xs).length=(n+(x::xs).length)+1 by omega,List.drop_succ_cons,List.take_succ_cons]
  rfl
theorem zfh: ∀{l:List DV} {o:Nat} {xs l':List DV},zK l o xs=some l'→xs=[]∨o+xs.length≤l.length
 |l,o,[],l',h=>.inl rfl
 | [],o,x::xs,l',h=>by cases o<;>cases h
 |c::l,0,x::xs,l',h=>by
  obtain⟨l2,e2,rfl⟩:=amf (show(zK l 0 xs).map (x:: ·)=some l' from h)
  rcases zfh e2 with rfl|h3
  all_goals grind
 |c::l,n+1,x::xs,l',h=>by
  obtain⟨l2,e2,rfl⟩:=amf (show(zK l n (x::xs)).map (c:: ·)=some l' from h)
  rcases zfh e2 with h3|h3
  all_goals grind
theorem zjg {rs:List (List DV)} {s i off:Nat} {r r' xs:List DV} (hs: ∀r∈rs,r.length=s) (hi:rs[i]? =some r) (hw:zK r off xs=some r'):zK rs.flatten (i*s+off) xs=some (rs.set i r').flatten:=by
 rcases zfh hw with rfl|hb
 ·rw[zhI] at hw⊢;cases hw
  congr 2
  obtain⟨h1,rfl⟩:=List.getElem?_eq_some_iff.1 hi
  simp
 ·rw[zeb hb] at hw;cases hw
  have hlt:=(List.getElem?_eq_some_iff.1 hi).1
  have hr:r.length=s:=hs r (List.mem_of_getElem? hi)
  have hl:=z9 hs
  have hil:i*s+s≤rs.length*s:=by rw[←Nat.succ_mul];exact Nat.mul_le_mul_right s hlt
  rw[zeb (by omega)]
  congr 1
  obtain⟨tl,ht⟩:=flat_at hs hi
  have h0:rs.flatten=rs.flatten.take (i*s)++(r++tl):=by grind [List.take_append_drop]
  have e1:(rs.set i (r.take off++xs++r.drop (off+xs.length))).flatten=rs.flatten.take (i*s)++((r.take off++xs++r.drop (off+xs.length))++rs.flatten.drop ((i+1)*s)):=by
   rw[←zds hs,←zdt hs,List.set_eq_take_append_cons_drop,if_pos hlt];simp
  have e2:rs.flatten.drop ((i+1)*s)=tl:=by
   grind [Nat.succ_mul,List.drop_drop,List.drop_left]
  have hlen:(rs.flatten.take (i*s)).length=i*s:=by grind
  rw[e1,e2]
  conv=>lhs;rw[h0]
  rw[List.take_append,List.drop_append,hlen,List.take_of_length_le (by omega),List.drop_of_length_le (l:=rs.flatten.take (i*s)) (by omega),Nat.add_sub_cancel_left,List.take_append_of_le_length (by omega),show i*s+off+xs.length - i*s=off+xs.length by omega,List.drop_append_of_le_length hb]
  simp
theorem zfo {rs new:List (List DV)} {s at_:Nat} (hs: ∀r∈rs,r.length=s) (hn: ∀r∈new,r.length=s) (hb:at_+new.length≤rs.length):zK rs.flatten (at_*s) new.flatten=some (zbW rs new at_).flatten:=by
 have hl:=z9 hs
 have hl2:=z9 hn
 have:at_*s+new.length*s≤rs.length*s:=by rw[←Nat.add_mul];exact Nat.mul_le_mul_right s hb
 simp_all[zeb,zbW,zds,zdt,Nat.add_mul]
theorem zeP {w:Wd} {z:List DV} {vs:List Value} (h:LRel w z vs): ∀n,LRel w (List.replicate n z).flatten (zbr vs n)
 |0=>.nil
 |n+1=>by rw[List.replicate_succ,List.flatten_cons];exact h.append (zeP h n)
end Go.Ideal
namespace Go.Ideal
section
variable {w:Wd} {M:VM} {s:DS} {t:za}
theorem zjO {op:COp} (hp:isFl op=true) (hm:MTy w M) (hs:ziU w (zf op) s t) {d:DV} {M':VM} (h:opD op s M=some (d,M')):M'=M∧ ∃v,VRel w d v∧ ∀g:H,opV op t g=some (v,g):=by
 cases op
 case mv x=>
  obtain⟨y,hy,e⟩:=amf h;cases e
  obtain⟨v,hv,hr⟩:=zl hs hy
  exact⟨rfl,v,hr,fun g=>by show(x.ev t).map _=_;grind⟩
 case pick c a b=>
  obtain⟨y,hy,h⟩:=aof h
  obtain⟨z,hz,e⟩:=amf h;cases e
  obtain⟨v,hv,hr⟩:=zl (hs.sub fun p hp=>by simp[zf,hp]) hy
  unfold pickD at hz
  split at hz
  ·obtain⟨u,hu,hr2⟩:=zl (hs.sub fun p hp=>by simp[zf,hp]) hz
   refine⟨rfl,u,hr2,fun g=> ?_⟩
   show(c.ev t).bind (zkN a b t g)=_
   rw[hv,hr.inv_bool];show(a.ev t).map _=_;grind
  ·obtain⟨u,hu,hr2⟩:=zl (hs.sub fun p hp=>by simp[zf,hp]) hz
   refine⟨rfl,u,hr2,fun g=> ?_⟩
   show(c.ev t).bind (zkN a b t g)=_
   rw[hv,hr.inv_bool];show(b.ev t).map _=_;grind
  grind
 case build z ps=>
  obtain⟨z',hz,h⟩:=aof h
  obtain⟨l,hl,h⟩:=aof h
  obtain⟨c,hc,e⟩:=amf h;cases e
  obtain⟨l',hl',e1,e2⟩:=zln (w:=w) hs hl
  obtain⟨vs,hvs,hr⟩:=fillD_rel (ze5 hz) e1 e2 hc
  refine⟨rfl,_,.agg_of hr,fun g=> ?_⟩
  show((ze3 t ps).bind fun l=>(ziS z l).map fun c=>(Value.agg ⟨c⟩,g))=_
  grind
 case nilCheck x=>
  obtain⟨y,hy,h⟩:=aof h
  obtain⟨z,hz,e⟩:=amf h;cases e
  obtain⟨v,hv,hr⟩:=zl hs hy
  obtain⟨u,hu,hr2⟩:=nilD_rel hz hr
  exact⟨rfl,u,hr2,fun g=>by show((x.ev t).bind fun v=>(nilV v).map (·,g))=_;grind⟩
 case bin op ek x y=>
  obtain⟨a,ha,h⟩:=aof h
  obtain⟨b,hb,h⟩:=aof h
  obtain⟨z,hz,e⟩:=amf h;cases e
  obtain⟨a',ha',r1⟩:=zl (hs.sub fun p hp=>by simp[zf,hp]) ha
  obtain⟨b',hb',r2⟩:=zl (hs.sub fun p hp=>by simp[zf,hp]) hb
  obtain⟨u,hu,hr2⟩:=binD_rel hz r1 r2
  exact⟨rfl,u,hr2,fun g=>by show((x.ev t).bind fun a=>(y.ev t).bind fun b=>(binV op ek a b).map (·,g))=_;grind⟩
 case un op x=>
  obtain⟨a,ha,h⟩:=aof h
  obtain⟨z,hz,e⟩:=amf h;cases e
  obtain⟨a',ha',r1⟩:=zl hs ha
  obtain⟨u,hu,hr2⟩:=unD_rel hz r1
  exact⟨rfl,u,hr2,fun g=>by show((x.ev t).bind fun a=>(unV op a).map (·,g))=_;grind⟩
 case conv k x=>
  obtain⟨a,ha,h⟩:=aof h
  obtain⟨z,hz,e⟩:=amf h;cases e
  obtain⟨a',ha',r1⟩:=zl hs ha
  obtain⟨u,hu,hr2⟩:=convD_rel hz r1
  exact⟨rfl,u,hr2,fun g=>by show((x.ev t).bind fun a=>(convV k a).map (·,g))=_;grind⟩
 case makeFunc fn a b=>
  cases fn with
  |func g=>
   obtain⟨x,hx,h⟩:=aof h
   obtain⟨y,hy,e⟩:=amf h;cases e
   obtain⟨a',ha',r1⟩:=zev (hs.sub fun p hp=>List.mem_append_left _ hp) hx
   obtain⟨b',hb',r2⟩:=zev (hs.sub fun p hp=>List.mem_append_right _ hp) hy
   exact⟨rfl,_,.fn g r1.len r2.len r1.at_ r2.at_,fun g'=>by show((evL t a).bind fun a=>(evL t b).map fun b=>(Value.func (.func g) ⟨a⟩ ⟨b⟩,g'))=_;grind⟩
  |_=>cases h
 case fieldAddr n x=>
  obtain⟨a,ha,h⟩:=aof h
  obtain⟨z,hz,e⟩:=amf h;cases e
  obtain⟨a',ha',r1⟩:=zl hs ha
  obtain⟨ad,rfl,hr2⟩:=offD_rel hz r1
  exact⟨rfl,_,hr2,fun g=>by show((x.ev t).bind fun v=>(zgD v).map fun a=>(Value.pointer (some ⟨a.block,a.off+n,none⟩),g))=_;rw[ha'];rfl⟩
 case indexAddr n x y=>
  obtain⟨a,ha,h⟩:=aof h
  obtain⟨b,hb,h⟩:=aof h
  obtain⟨z,hz,e⟩:=amf h;cases e
  obtain⟨a',ha',r1⟩:=zl (hs.sub fun p hp=>by simp[zf,hp]) ha
  obtain⟨b',hb',r2⟩:=zl (hs.sub fun p hp=>by simp[zf,hp]) hb
  obtain⟨u,hu,hr2⟩:=addrD_rel hm hz r2 r1
  exact⟨rfl,u,hr2,fun g=>by show((x.ev t).bind fun v=>(y.ev t).bind fun i=>(zix n v i).map (·,g))=_;grind⟩
 case indexArr n m x y=>
  obtain⟨a,ha,h⟩:=aof h
  obtain⟨b,hb,h⟩:=aof h
  obtain⟨z,hz,e⟩:=amf h;cases e
  obtain⟨a',ha',r1⟩:=zl (hs.sub fun p hp=>by simp[zf,hp]) ha
  obtain⟨b',hb',r2⟩:=zl (hs.sub fun p hp=>by simp[zf,hp]) hb
  obtain⟨u,hu,hr2⟩:=arrD_rel hz r2 r1
  exact⟨rfl,u,hr2,fun g=>by show((x.ev t).bind fun v=>(y.ev t).bind fun i=>(zem n m v i).map (·,g))=_;grind⟩
 case extract x n=>
  obtain⟨a,ha,h⟩:=aof h
  cases a with
  |tup l=>
   obtain⟨z,hz,e⟩:=amf h;cases e
   obtain⟨a',ha',r1⟩:=zl hs ha
   obtain⟨vs,rfl,hl⟩:=r1.inv_tup
   obtain⟨v,hv,r2⟩:=hl.get hz
   exact⟨rfl,v,r2,fun g=>by show((x.ev t).bind fun v=>(extractV n v).map (·,g))=_;rw[ha',Option.bind_some];show(vs[n]?).map _=_;grind⟩
  |_=>cases h
 case blt b as=>
  obtain⟨l,hl,h⟩:=aof h
  obtain⟨vs,hvs,hr⟩:=zev (w:=w) hs hl
  have goal: ∀v,(∀g:H,bltV g b vs=some (v,g))→ ∀g:H,opV (.blt b as) t g=some (v,g):=fun v hv g=>by
   show((evL t as).bind fun l=>bltV g b l)=_
   grind
  cases b with
  |append _ _=>cases hp
  |clear _=>cases hp
  |copy _=>cases hp
  |lenMap=>cases hp
  |len=>
   match l,h,hr with
   | [d0],h,hr=>
     obtain⟨n,hn,e⟩:=amf (show(lenD M d0).map _=_ from h);cases e
     obtain⟨v,r,rfl,hv,hr⟩:=hr.head
     rw[hr.inv_nil] at goal
     refine⟨rfl,_,.int _ _,goal _ fun g=> ?_⟩
     cases hv<;>cases hn<;>subst_vars<;>rfl
   | [],h,_=>cases h
   |_::_::_,h,_=>cases h
  |lenStr=>
   match l,h,hr with
   | [d0],h,hr=>
     obtain⟨v,r,rfl,hv,hr⟩:=hr.head
     rw[hr.inv_nil] at goal
     cases hv<;>first| (cases h;done)|skip
     ·cases h;exact⟨rfl,_,.int _ _,goal _ fun g=>rfl⟩
   | [],h,_=>cases h
   |x::y::r,h,_=>cases x<;>cases h
  |min=>
   match l,h,hr with
   |d0::l,h,hr=>
    obtain⟨v,r,rfl,hv,hr⟩:=hr.head
    obtain⟨z,hz,e⟩:=amf (show(zcT false d0 l).map _=_ from h);cases e
    obtain⟨u,hu,r2⟩:=zgG hz hv hr
    exact⟨rfl,u,r2,goal _ fun g=>by show(zdO false v r).map _=_;grind⟩
   | [],h,_=>cases h
  |max=>
   match l,h,hr with
   |d0::l,h,hr=>
    obtain⟨v,r,rfl,hv,hr⟩:=hr.head
    obtain⟨z,hz,e⟩:=amf (show(zcT true d0 l).map _=_ from h);cases e
    obtain⟨u,hu,r2⟩:=zgG hz hv hr
    exact⟨rfl,u,r2,goal _ fun g=>by show(zdO true v r).map _=_;grind⟩
   | [],h,_=>cases h
 case strIdx x y=>
  obtain⟨a,ha,h⟩:=aof h
  obtain⟨b,hb,h⟩:=aof h
  obtain⟨z,hz,e⟩:=amf h;cases e
  obtain⟨a',ha',r1⟩:=zl (hs.sub fun p hp=>by simp[zf,hp]) ha
  obtain⟨b',hb',r2⟩:=zl (hs.sub fun p hp=>by simp[zf,hp]) hb
  unfold strIdxD at hz
  split at hz
  ·obtain⟨y',hy',rfl⟩:=amf hz
   refine⟨rfl,_,.int _ _,fun g=> ?_⟩
   show((x.ev t).bind fun v=>(y.ev t).bind fun i=>(strIdxV v i).map (·,g))=_
   rw[ha',hb',r1.inv_str,r2.inv_int,Option.bind_some,Option.bind_some]
   grind [strIdxV]
  grind
 case mkI ty x=>
  obtain⟨a,ha,e⟩:=amf h;cases e
  obtain⟨a',ha',r1⟩:=zl hs ha
  exact⟨rfl,_,.ifc ty r1,fun g=>by show(x.ev t).map _=_;grind⟩
 case assertT ty z ok x=>
  obtain⟨a,ha,h⟩:=aof h
  obtain⟨z',hz',h⟩:=aof h
  obtain⟨y,hy,e⟩:=amf h;cases e
  obtain⟨a',ha',r1⟩:=zl hs ha
  obtain⟨u,hu,r2⟩:=assertD_rel hy r1 (dOf_rel hz')
  exact⟨rfl,u,r2,fun g=>by show((x.ev t).bind fun v=>(zkA ty z ok v).map (·,g))=_;grind⟩
 case fld off n x=>
  obtain⟨a,ha,h⟩:=aof h
  obtain⟨z,hz,e⟩:=amf h;cases e
  obtain⟨a',ha',r1⟩:=zl hs ha
  cases a with
  |agg cs=>
   obtain⟨vs,rfl,hl⟩:=r1.inv_agg
   have hd:=hl.drop off
   suffices hh: ∃u,partV off vs n=some u∧VRel w d u by
    obtain⟨u,hu,r2⟩:=hh
    exact⟨rfl,u,r2,fun g=>by show((x.ev t).bind fun v=>(fldV off n v).map (·,g))=_;rw[ha',Option.bind_some];show(partV off vs n).map _=_;grind⟩
   cases n with
   |some n=>
    obtain⟨y,hy,rfl⟩:=amf (show(zbJ n (cs.drop off)).map DV.agg=some d from hz)
    obtain⟨hn,rfl⟩:=zfT hy
    refine⟨_,?_,.agg_of (hd.take n)⟩
    show(zhO n (zey off vs)).map _=_
    rw[zcf,zdG,if_pos (by rw[←hd.len];exact hn)];rfl
   |none=>
    have hz:oneD (cs.drop off)=some d:=hz
    unfold oneD at hz
    split at hz
    ·rename_i e;cases hz
     rw[e] at hd
     obtain⟨u,us',e2,hu,hus⟩:=hd.head
     refine⟨u,?_,hu⟩
     show(zey off vs).head? =_
     grind [zcf]
    grind
  |_=>cases hz
 case strSlice x lo hi=>
  obtain⟨a,ha,h⟩:=aof h
  obtain⟨l,hl,h⟩:=aof h
  obtain⟨b,hb,h⟩:=aof h
  obtain⟨z,hz,e⟩:=amf h;cases e
  obtain⟨a',ha',r1⟩:=zl (hs.sub fun p hp=>by simp[zf,hp]) ha
  obtain⟨l',hl',r2⟩:=zfE (w:=w) (hs.sub fun p hp=>by simp[zf,hp]) hl
  obtain⟨b',hb',r3⟩:=zfE (w:=w) (hs.sub fun p hp=>by simp[zf,hp]) hb
  unfold strSliceD at hz
  split at hz
  ·obtain⟨n,hn,hz⟩:=aof hz
   obtain⟨m,hm',hz⟩:=aof hz
   obtain⟨q,hq,rfl⟩:=amf hz
   refine⟨rfl,_,.str _,fun g=> ?_⟩
   show((x.ev t).bind fun v=>(evO t lo).bind fun lo=>(evO t hi).bind fun hi=>(zg2 lo hi v).map (·,g))=_
   rw[ha',hl',hb',r1.inv_str,Option.bind_some,Option.bind_some,Option.bind_some]
   grind [zg2,zE]
  grind
 all_goals first| (cases hp;done)|cases h
theorem zju {size:Nat} {g:H} {lo hi:Option Value} {base:Option Addr} {len:Nat}:zfa size g lo hi (.slice base len zc)=base.bind fun a=>(g.get a.block).bind (zdi size a len lo hi g):=by
 grind [zfa,Nat.beq_refl]
theorem zdJ {size:Nat} {g:H} {lo hi:Option Value} {base:Option Addr} {len cap:Nat} (hc:cap≠zc):zfa size g lo hi (.slice base len cap)=(zbP len cap hi).bind fun hi=>(zbP 0 hi lo).map fun lo=>
 (.slice (if Nat.beq cap lo then base else base.map fun a=>⟨a.block,a.off+lo*size,none⟩) (hi - lo) (cap - lo),g):=by
 grind [zfa,Nat.eq_of_beq_eq_true]
theorem ziY {e s:Nat} (h:e=s) (h1:0<s) (h2:s<roE):(Nat.beq e s&&(Nat.blt 0 s&& !Nat.beq e roE))=true:=by
 grind [Nat.eq_of_beq_eq_true,Nat.blt,Nat.ble_eq,Nat.beq_refl]
variable {h:H}
def SameRd (w:Wd) (js:List Nat) (h g:H):Prop:= ∀b,RdB w js b→g.get b=h.get b
theorem zb0 {x:CO} {d:DV} (hx:evD s x=some d):zcR s x=refD d:=by grind [zcR]
theorem zeg {op:COp} (hp:isRd op=true) (hr:HRel w M h) (hs:ziU w (zf op) s t) {d:DV} {M':VM} (hd:opD op s M=some (d,M')):M'=M∧ ∃v,VRel w d v∧ ∀g:H,SameRd w (zcL s op) h g→opV op t g=some (v,g):=by
 cases op
 case load1 a=>
  obtain⟨x,hx,hd⟩:=aof hd
  obtain⟨r,hr1,hd⟩:=aof hd
  obtain⟨y,hy,e⟩:=amf hd;cases e
  obtain⟨v,hv,r1⟩:=zl hs hx
  obtain⟨b,off,cs,e,us,tl,rfl,hg,hb,hsp,hl⟩:=zjG hr hr1 r1
  unfold oneD at hy
  split at hy
  ·cases hy
   obtain⟨u,us',rfl,hu,hus⟩:=hl.head
   refine⟨rfl,u,hu,fun g hg2=> ?_⟩
   show((a.ev t).bind fun v=>(zgD v).bind fun a=>(g.readN a.block a.off 1).bind fun l=>(oneOf l).map (·,g))=_
   rw[hv,Option.bind_some]
   show((g.readN b off 1).bind _)=_
   rw[zeR ((hg2 b (by show RdB w (zcR s a) b;grind [zb0])).trans hg) hsp (by simp) hl.clean]
   rfl
  grind
 case loadN n a=>
  obtain⟨x,hx,hd⟩:=aof hd
  obtain⟨r,hr1,hd⟩:=aof hd
  obtain⟨y,hy,e⟩:=amf hd;cases e
  obtain⟨v,hv,r1⟩:=zl hs hx
  obtain⟨b,off,cs,e,us,tl,rfl,hg,hb,hsp,hl⟩:=zjG hr hr1 r1
  obtain⟨hn,rfl⟩:=zfT hy
  refine⟨rfl,_,.agg_of (hl.take n),fun g hg2=> ?_⟩
  show((a.ev t).bind fun v=>(zgD v).bind fun a=>(g.readN a.block a.off n).map fun l=>(Value.agg ⟨l⟩,g))=_
  rw[hv,Option.bind_some]
  show((g.readN b off n).map _)=_
  rw[zeR ((hg2 b (by show RdB w (zcR s a) b;grind [zb0])).trans hg) hsp (by rw[←hl.len];exact hn) hl.clean]
  rfl
 case lookup kk z ok x i=>
  obtain⟨m,hm,hd⟩:=aof hd
  obtain⟨k,hk,hd⟩:=aof hd
  obtain⟨z',hz,hd⟩:=aof hd
  obtain⟨b,hb,hd⟩:=aof hd
  obtain⟨es,hes,hd⟩:=aof hd
  obtain⟨r,hr1,e⟩:=amf hd;cases e
  obtain⟨m',hm',r1⟩:=zl (hs.sub fun p hp=>by simp[zf,hp]) hm
  obtain⟨k',hk',r2⟩:=zl (hs.sub fun p hp=>by simp[zf,hp]) hk
  obtain⟨es',hmr,hes'⟩:=ziB hr hes r1
  obtain⟨r',hr',ho⟩:=findD_rel r2 hr1 hmr
  refine⟨rfl,zfq z ok r',?_,fun g hg2=> ?_⟩
  ·unfold zdp zfq
   cases r with
   |none=>cases r' with
    |none=>cases ok with
     |true=>exact .tup_of (.cons (dOf_rel hz) (.cons (.bool _) .nil))
     |false=>exact dOf_rel hz
    |some=>exact ho.elim
   |some y=>cases r' with
    |none=>exact ho.elim
    |some y'=>cases ok with
     |true=>exact .tup_of (.cons ho (.cons (.bool _) .nil))
     |false=>exact ho
  ·show((x.ev t).bind fun m=>(i.ev t).bind fun k=>(zcg kk k k).bind fun _=>(zdw g m).bind fun es=>(findE kk k es).map fun r=>(zfq z ok r,g))=_
   rw[hm',hk',Option.bind_some,Option.bind_some,zdL hb r2 r2,Option.bind_some,hes' g (fun b hb=>hg2 b (by show RdB w (zcR s x) b;grind [zb0])),Option.bind_some,hr'];rfl
 case slice size x lo hi=>
  obtain⟨y,hy,hd⟩:=aof hd
  obtain⟨l,hl,hd⟩:=aof hd
  obtain⟨u,hu,hd⟩:=aof hd
  obtain⟨z,hz,e⟩:=amf hd;cases e
  obtain⟨y',hy',r1⟩:=zl (hs.sub fun p hp=>by simp[zf,hp]) hy
  obtain⟨l',hl',r2⟩:=zfE (w:=w) (hs.sub fun p hp=>by simp[zf,hp]) hl
  obtain⟨u',hu',r3⟩:=zfE (w:=w) (hs.sub fun p hp=>by simp[zf,hp]) hu
  refine⟨rfl,?_⟩
  suffices hh: ∃v,VRel w d v∧ ∀g:H,SameRd w (refD y) h g→zfa size g l' u' y'=some (v,g) by
   obtain⟨v,hv,hg⟩:=hh
   refine⟨v,hv,fun g hg2=> ?_⟩
   show((x.ev t).bind fun v=>(evO t lo).bind fun lo=>(evO t hi).bind fun hi=>zfa size g lo hi v)=_
   rw[hy',hl',hu',Option.bind_some,Option.bind_some,Option.bind_some,hg g (fun b hb=>hg2 b (by show RdB w (zcR s x) b;grind [zb0]))]
  cases r1 with
  |nilS=>
   obtain⟨n,hn,hz⟩:=aof (show(zm 0 0 u).bind _=some d from hz)
   obtain⟨m,hm,rfl⟩:=amf hz
   have hn0:n=0:=by rcases zcb hn with h|h<;>omega
   subst hn0
   have hm0:m=0:=by rcases zcb hm with h|h<;>omega
   subst hm0
   refine⟨.slice none 0 0,.nilS,fun g _=> ?_⟩
   rw[zdJ (by decide),zE hn r3,Option.bind_some,zE hm r2];rfl
  | @lst b o s0 n cap e cs rows hzz hss hbb hk hO hC hnn=>
    have hz2:(if s0=size∧0<s0 then(zm rows.length rows.length u).bind fun hi=>(zm 0 hi l).map fun lo=>DV.lst s0 ((rows.drop lo).take (hi - lo)) else none)=some d:=hz
    clear hz
    split at hz2
    ·rename_i hc;obtain⟨rfl,hpos⟩:=hc
     obtain⟨n2,hn,hz2⟩:=aof hz2
     obtain⟨m,hm,rfl⟩:=amf hz2
     subst hnn
     have hn2:n2≤rows.length:=by rcases zcb hn with h|h<;>omega
     have hmn:m≤n2:=by rcases zcb hm with h|h<;>omega
     have hl:=z9 hss
     have hsub: ∀r∈(rows.drop m).take (n2 - m),r.length=s0:=fun r hr=>hss r (List.mem_of_mem_drop (List.mem_of_mem_take hr))
     have hlen:((rows.drop m).take (n2 - m)).length=n2 - m:=by grind
     have hmul:m*s0+(n2 - m)*s0≤rows.length*s0:=by rw[←Nat.add_mul];simp_all[Nat.mul_le_mul_right]
     have hsub2: ∀(k:Nat) d v,((rows.drop m).take (n2 - m)).flatten[k]? =some d→cs[o+m*s0+k]? =some v→VRel w d v:=fun k d v h1 h2=>by
      rw[zds (fun r hr=>hss r (List.mem_of_mem_drop hr)),zdt hss,List.getElem?_take] at h1
      grind
     by_cases hcap:cap=zc
     ·subst hcap
      obtain⟨he,he1,he2⟩:=hO rfl
      refine⟨.slice (some ⟨b,o+m*s0,none⟩) (n2 - m) zc,.lst hzz hsub (by grind) hsub2 hO (fun h=>absurd rfl h) hlen.symm,fun g hg2=> ?_⟩
      have hgb:=(hg2 b (.inr (by grind))).trans (hr.zd _ _ hzz).2
      rw[zju]
      show(g.get b).bind _=_
      rw[hgb,Option.bind_some]
      unfold zdi
      dsimp only
      have hq:rows.length≤(cs.length - o) / s0:=by rw[Nat.le_div_iff_mul_le hpos];omega
      have b1:zbP rows.length ((cs.length - o) / s0) u'=some n2:=by
       cases u with
       |none=>cases u' with
        |none=>cases hn;rfl
        |some=>exact r3.elim
       |some u=>
        have:zm rows.length ((cs.length - o) / s0) (some u)=some n2:=by
         unfold zm inD at hn⊢
         dsimp only at hn⊢
         split at hn
         all_goals grind
        grind [zE]
      grind [ziY,zE]
     ·have hrc:=hC hcap
      have b1:zbP rows.length cap u'=some n2:=by
       cases u with
       |none=>cases u' with
        |none=>cases hn;rfl
        |some=>exact r3.elim
       |some u=>
        have:zm rows.length cap (some u)=some n2:=by
         unfold zm inD at hn⊢
         dsimp only at hn⊢
         split at hn
         all_goals grind
        grind [zE]
      have hE: ∀g:H,zfa s0 g l' u' (.slice (some ⟨b,o,none⟩) rows.length cap)=some (.slice (if Nat.beq cap m then some ⟨b,o,none⟩ else some ⟨b,o+m*s0,none⟩) (n2 - m) (cap - m),g):=fun g=>by
       grind [zdJ,zE]
      refine⟨_,?_,fun g _=>hE g⟩
      by_cases hcm:cap=m
      ·subst hcm
       have:n2 - cap=0:=by omega
       have e0:(rows.drop cap).take (n2 - cap)=[]:=by grind
       rw[e0,this,Nat.sub_self]
       exact .lst0 (by grind) (fun a e=>by grind)
      ·rw[if_neg (by simp_all)]
       by_cases hoc:cap - m=zc
       ·omega
       ·exact .lst hzz hsub (by grind) hsub2 (fun h=>absurd h hoc) (fun _=>by grind) hlen.symm
    grind
  | @lst0 s0 cap base hc hsp=>
    have hz2:(if s0=size∧0<s0 then(zm 0 0 u).bind fun hi=>(zm 0 hi l).map fun lo=>DV.lst s0 (([]:List (List DV)).drop lo |>.take (hi - lo)) else none)=some d:=hz
    clear hz
    split at hz2
    ·rename_i hc2;obtain⟨rfl,hpos⟩:=hc2
     obtain⟨n2,hn,hz2⟩:=aof hz2
     obtain⟨m,hm,rfl⟩:=amf hz2
     have hn0:n2=0:=by rcases zcb hn with h|h<;>omega
     subst hn0
     have hm0:m=0:=by rcases zcb hm with h|h<;>omega
     subst hm0
     have b1:zbP 0 cap u'=some 0:=by
      cases u with
      |none=>cases u' with
       |none=>rfl
       |some=>exact r3.elim
      |some u=>
       have:zm 0 cap (some u)=some 0:=by
        unfold zm inD at hn⊢
        dsimp only at hn⊢
        split at hn
        all_goals grind
       grind [zE]
     refine⟨.slice (if Nat.beq cap 0 then base else base.map fun a=>⟨a.block,a.off+0*s0,none⟩) 0 (cap - 0),?_,fun g _=> ?_⟩
     ·rw[show((([]:List (List DV)).drop 0).take (0 - 0))=[] from rfl];exact .lst0 hc (fun a e=>by
       cases base with
       |none=>grind
       |some b=>grind)
     grind [zdJ,zE]
    grind
  | @ms j lo0 len cap R hR hO hC=>
    obtain⟨o,ho,hz⟩:=aof (show(M.obj j).bind _=some d from hz)
    obtain⟨st,hg⟩:=zbX ho
    obtain⟨hzz,e,he,hro⟩:=hr.obj j o st R hg hR
    cases hro with
    | @rows op sz rs cs e' hrows=>
      have hl:=z9 hrows.row
      have hcl:=hrows.rel.len
      cases op with
      |true=>
       have hz2:(if sz=size∧cap=zc∧lo0≤rs.length then(zm len (rs.length - lo0) u).bind fun hi=>(zm 0 hi l).map fun lo=>DV.ms j (lo0+lo) (hi - lo) zc else none)=some d:=hz
       clear hz
       split at hz2
       ·rename_i hc2;obtain⟨rfl,rfl,hlo⟩:=hc2
        obtain⟨n2,hn,hz2⟩:=aof hz2
        obtain⟨m,hm,rfl⟩:=amf hz2
        obtain⟨hp1,hp2⟩:=hrows.pos rfl
        have hes:=hrows.esz
        rw[if_pos rfl] at hes
        refine⟨.slice (some ⟨R.blk,(lo0+m)*R.sz,none⟩) (n2 - m) zc,.ms hR hO (fun h=>absurd rfl h),fun g hg2=> ?_⟩
        have hgb:=(hg2 R.blk (.inl ⟨j,R,List.mem_singleton.2 rfl,hR,rfl⟩)).trans he
        rw[zju]
        show(g.get R.blk).bind _=_
        rw[hgb,Option.bind_some]
        unfold zdi
        dsimp only
        have hq:(cs.length - lo0*R.sz) / sz=rs.length - lo0:=by
         rw[←hcl,hl,←hrows.hsz,←Nat.sub_mul,Nat.mul_div_cancel _ hp1]
        rw[if_pos (ziY hes hp1 hp2),hq,zE hn r3,Option.bind_some,zE hm r2,Option.map_some,Nat.add_mul,hrows.hsz]
       grind
      |false=>
       have hz2:(if sz=size∧cap<zc then(zm len cap u).bind fun hi=>(zm 0 hi l).map fun lo=>DV.ms j (if cap=lo then lo0 else lo0+lo) (hi - lo) (cap - lo) else none)=some d:=hz
       clear hz
       split at hz2
       ·rename_i hc2;obtain⟨rfl,hlt⟩:=hc2
        obtain⟨n2,hn,hz2⟩:=aof hz2
        obtain⟨m,hm,rfl⟩:=amf hz2
        have hcap:cap≠zc:=by omega
        have hnc:n2≤cap:=by
         rcases zcb hn with h|h
         all_goals grind
        refine⟨.slice (some ⟨R.blk,(if cap=m then lo0 else lo0+m)*R.sz,none⟩) (n2 - m) (cap - m),.ms hR (fun h=>by omega) (fun _=>⟨by omega,by omega⟩),fun g hg2=> ?_⟩
        rw[zdJ hcap,zE hn r3,Option.bind_some,zE hm r2,Option.map_some]
        by_cases hcm:cap=m
        ·simp_all
        ·rw[if_neg (by simp_all),if_neg hcm,Nat.add_mul,←hrows.hsz];rfl
       grind
    |map=>cases hz
    |loop=>cases hz
  |_=>cases hz
 case slice3 size x lo hi mx=>
  obtain⟨y,hy,hd⟩:=aof hd
  obtain⟨l,hl,hd⟩:=aof hd
  obtain⟨u,hu,hd⟩:=aof hd
  obtain⟨q,hq,hd⟩:=aof hd
  obtain⟨z,hz,e⟩:=amf hd;cases e
  obtain⟨y',hy',r1⟩:=zl (hs.sub fun p hp=>by simp[zf,hp]) hy
  obtain⟨l',hl',r2⟩:=zfE (w:=w) (hs.sub fun p hp=>by simp[zf,hp]) hl
  obtain⟨u',hu',r3⟩:=zl (hs.sub fun p hp=>by simp[zf,hp]) hu
  obtain⟨q',hq',r4⟩:=zl (hs.sub fun p hp=>by simp[zf,hp]) hq
  refine⟨rfl,?_⟩
  suffices hh: ∃v,VRel w d v∧ ∀g:H,SameRd w (refD y) h g→zeH size g l' u' q' y'=some (v,g) by
   obtain⟨v,hv,hg⟩:=hh
   refine⟨v,hv,fun g hg2=> ?_⟩
   show((x.ev t).bind fun v=>(evO t lo).bind fun lo=>(hi.ev t).bind fun hi=>(mx.ev t).bind fun mx=>zeH size g lo hi mx v)=_
   rw[hy',hl',hu',hq',Option.bind_some,Option.bind_some,Option.bind_some,Option.bind_some,hg g (fun b hb=>hg2 b (by show RdB w (zcR s x) b;grind [zb0]))]
  cases r1 with
  | @ms j lo0 len cap R hR hO hC=>
    obtain⟨o,ho,hz⟩:=aof (show(M.obj j).bind _=some d from hz)
    obtain⟨st,hg⟩:=zbX ho
    obtain⟨hzz,e,he,hro⟩:=hr.obj j o st R hg hR
    cases hro with
    | @rows op sz rs cs e' hrows=>
      have hl:=z9 hrows.row
      have hcl:=hrows.rel.len
      cases op with
      |true=>
       have hz2:(if sz=size∧cap=zc∧lo0≤rs.length then(zm 0 (rs.length - lo0) (some q)).bind fun m=>if 0<m∧m<zc then(zm 0 m (some u)).bind fun hi=>(zm 0 hi l).map fun lo=>DV.ms j (if m=lo then lo0 else lo0+lo) (hi - lo) (m - lo) else none else none)=some d:=hz
       clear hz
       split at hz2
       ·rename_i hc2;obtain⟨rfl,rfl,hlo⟩:=hc2
        obtain⟨m,hm,hz2⟩:=aof hz2
        split at hz2
        ·rename_i hmm
         obtain⟨n2,hn,hz2⟩:=aof hz2
         obtain⟨m2,hm2,rfl⟩:=amf hz2
         obtain⟨hp1,hp2⟩:=hrows.pos rfl
         have hes:=hrows.esz
         rw[if_pos rfl] at hes
         have hb1:n2≤m:=by exact(zcb hn).resolve_right (fun h=>by grind)
         refine⟨.slice (some ⟨R.blk,(if m=m2 then lo0 else lo0+m2)*R.sz,none⟩) (n2 - m2) (m - m2),.ms hR (fun h=>by omega) (fun _=>⟨by omega,by omega⟩),fun g hg2=> ?_⟩
         have hgb:=(hg2 R.blk (.inl ⟨j,R,List.mem_singleton.2 rfl,hR,rfl⟩)).trans he
         unfold zeH
         dsimp only
         rw[if_pos (Nat.beq_refl _)]
         show(g.get R.blk).bind _=_
         rw[hgb,Option.bind_some]
         unfold zec
         dsimp only
         have hq2:(cs.length - lo0*R.sz) / sz=rs.length - lo0:=by
          rw[←hcl,hl,←hrows.hsz,←Nat.sub_mul,Nat.mul_div_cancel _ hp1]
         rw[if_pos (ziY hes hp1 hp2),hq2,zE (v:=some q') hm r4,Option.bind_some,if_pos (by simp_all),zE (v:=some u') hn r3,Option.bind_some,zE hm2 r2,Option.map_some]
         by_cases hcm:m=m2
         ·simp_all
         ·rw[if_neg (fun e=>hcm (Nat.eq_of_beq_eq_true e)),if_neg hcm,Nat.add_mul,←hrows.hsz]
        grind
       grind
      |false=>
       have hz2:(if sz=size∧cap<zc then(zm 0 cap (some q)).bind fun m=>(zm 0 m (some u)).bind fun hi=>(zm 0 hi l).map fun lo=>DV.ms j (if m=lo then lo0 else lo0+lo) (hi - lo) (m - lo) else none)=some d:=hz
       clear hz
       split at hz2
       ·rename_i hc2;obtain⟨rfl,hlt⟩:=hc2
        obtain⟨m,hm,hz2⟩:=aof hz2
        obtain⟨n2,hn,hz2⟩:=aof hz2
        obtain⟨m2,hm2,rfl⟩:=amf hz2
        have hcap:cap≠zc:=by omega
        have hb0:m≤cap:=by exact(zcb hm).resolve_right (fun h=>by grind)
        have hb1:n2≤m:=by exact(zcb hn).resolve_right (fun h=>by grind)
        refine⟨.slice (some ⟨R.blk,(if m=m2 then lo0 else lo0+m2)*R.sz,none⟩) (n2 - m2) (m - m2),.ms hR (fun h=>by omega) (fun _=>⟨by omega,by omega⟩),fun g hg2=> ?_⟩
        unfold zeH
        dsimp only
        rw[if_neg (fun e=>hcap (Nat.eq_of_beq_eq_true e)),zE (v:=some q') hm r4,Option.bind_some,zE (v:=some u') hn r3,Option.bind_some,zE hm2 r2,Option.map_some]
        by_cases hcm:m=m2
        ·simp_all
        ·rw[if_neg (fun e=>hcm (Nat.eq_of_beq_eq_true e)),if_neg hcm,Nat.add_mul,←hrows.hsz];rfl
       grind
    |map=>cases hz
    |loop=>cases hz
  |_=>cases hz
 case blt b as=>
  cases b with
  |lenMap=>
   obtain⟨l,hl,hd⟩:=aof hd
   obtain⟨vs,hvs,hrl⟩:=zev (w:=w) hs hl
   match l,hd,hrl,hl with
   | [],hd,_,_=>cases hd
   |_::_::_,hd,_,_=>cases hd
   | [d0],hd,hrl,hl=>
     obtain⟨es,hes,e⟩:=amf (show(zbe M d0).map _=_ from hd);cases e
     obtain⟨v,r,rfl,hv,hrr⟩:=hrl.head
     rw[hrr.inv_nil] at hvs
     obtain⟨es',hmr,hes'⟩:=ziB hr hes hv
     have hlen:es.length=es'.length:=by have:=hmr.keys.len;grind
     refine⟨rfl,.int .i64 es'.length,by rw[hlen];exact .int _ _,fun g hg2=> ?_⟩
     have hj: ∀b,RdB w (refD d0) b→RdB w (zcL s (.blt .lenMap as)) b:=fun b hb=>by
      rcases hb with⟨j,R,hj,h2⟩|hb
      ·refine .inl ⟨j,R,?_,h2⟩
       match as,hl with
       | [x],hl=>
         obtain⟨y,hy,h3⟩:=aof hl
         obtain⟨z,hz,h4⟩:=amf h3
         cases hz;cases h4
         show j∈[x].flatMap (zcR s)
         grind [zb0]
       | [],hl=>cases hl
       |x::y::r,hl=>
        obtain⟨y,hy,h3⟩:=aof hl
        obtain⟨z,hz,h4⟩:=amf h3
        obtain⟨y2,hy2,h5⟩:=aof hz
        simp_all
      ·exact .inr hb
     have hee:=hes' g (fun b hb=>hg2 b (hj b hb))
     show((evL t as).bind fun l=>bltV g .lenMap l)=_
     rw[hvs,Option.bind_some]
     unfold zdw at hee
     split at hee
     ·cases hee;rfl
     ·show(match g.get _ with|some (.map es _)=>some (Value.int .i64 es.length,g)|_=>none)=_
      grind
     grind
  |_=>cases hp
 case b2s x=>
  obtain⟨y,hy,hd⟩:=aof hd
  obtain⟨z,hz,e⟩:=amf hd;cases e
  obtain⟨y',hy',r1⟩:=zl hs hy
  obtain⟨rows,hrows,hz⟩:=aof (show(zgo M 1 y).bind _=some d from hz)
  obtain⟨bl,hbl,rfl⟩:=amf hz
  obtain⟨base,cap,rfl,hlen,hcase⟩:=zic hr hrows r1
  refine⟨rfl,_,.str _,fun g hg2=> ?_⟩
  show((x.ev t).bind fun v=>(b2sV g v).map (·,g))=_
  rw[hy',Option.bind_some]
  rcases hcase with rfl| ⟨b,o,cs,e,us,tl,rfl,hg,hb,hsp,hl⟩
  ·cases hbl
   unfold b2sV
   cases base<;>rfl
  ·have hfl:=z9 hlen
   have hgb:=(hg2 b (by show RdB w (zcR s x) b;grind [zb0])).trans hg
   unfold b2sV
   dsimp only
   by_cases h0:rows.length=0
   ·rw[if_pos (by simp[h0])]
    have:rows=[]:=List.eq_nil_of_length_eq_zero h0
    subst this;cases hbl;rfl
   ·rw[if_neg (by simp_all),zeR hgb hsp (by rw[←hl.len];omega) hl.clean,Option.bind_some,List.take_of_length_le (by rw[←hl.len];omega),allO_byte hbl hlen hl];rfl
 all_goals cases hp
end
end Go.Ideal
namespace Go.Ideal
section
variable {w:Wd} {M:VM} {h:H} {s:DS} {t:za}
def Left (w:Wd) (M:VM) (h:H) (d:DV) (M':VM) (v:Value) (h':H):Prop:= ∃w',VRel w' d v∧Hist w M h w' M' h'∧HRel w' M' h'
theorem zgX {R:RBd} {op:Bool} {sz e off:Nat} {rs rs':List (List DV)} {cs us:List Value} {xs:List DV} (hg:h.get R.blk=some (.cells cs e)) (hrows:RowsRel w R op sz rs cs e) (hw:zK rs.flatten off xs=some rs'.flatten) (hrow: ∀r∈rs',r.length=sz) (hx:LRel w xs us) (hc:xs.all zt=true):
 ∃cs',h.write R.blk off us=some (h.put R.blk (.cells cs' e))∧RowsRel w R op sz rs' cs' e:=by
 obtain⟨cs',h1,h2⟩:=zea hrows.rel hx hw
 refine⟨cs',?_,hrows.hop,hrows.hsz,hrows.esz,hrows.pos,hrow,h2⟩
 unfold H.write
 rw[hg,Option.bind_some]
 unfold zfR
 have he:Nat.beq e roE=false:=by
  cases hb:Nat.beq e roE with
  |false=>rfl
  |true=>
   have:=Nat.eq_of_beq_eq_true hb
   have h3:=hrows.esz
   cases op with
   |true=>have:=(hrows.pos rfl).2;grind
   |false=>rw[if_neg (by decide)] at h3;rw[h3] at this;exact absurd this (by decide)
 dsimp only
 rw[if_pos (by rw[hx.isCell hc,he];rfl),h1];rfl
theorem zhP (hr:HRel w M h) {n:Nat} {x a:DV} {x' a':Value} {M':VM} (hd:zfm n M x a=some M') (hx:VRel w x x') (ha:VRel w a a'):
 ∃b off h',a'=.pointer (some ⟨b,off,none⟩)∧Nat.beq (zW x').length n=true∧h.write b off (zW x')=some h'∧Hist w M h w M' h'∧HRel w M' h'∧(∃j i o R,a=.ptr j i o∧w.rho j=some R∧R.blk=b):=by
 cases ha with
 | @ptr j i off R hR=>
   obtain⟨o,ho,hd⟩:=aof (show(M.obj j).bind _=some M' from hd)
   obtain⟨st,hg⟩:=zbX ho
   obtain⟨hz,e,he,hro⟩:=hr.obj j o st R hg hR
   cases hro with
   | @rows op sz rs cs e' hrows=>
     obtain⟨r,hri,hd⟩:=aof (show(rs[i]?).bind _=some M' from hd)
     split at hd
     ·rename_i hc
      obtain⟨r',hw,rfl⟩:=amf hd
      have hlt:=(List.getElem?_eq_some_iff.1 hri).1
      obtain⟨cs',h1,h2⟩:=zgX (rs':=rs.set i r') he hrows (zjg hrows.row hri hw) (fun q hq=>by
       rcases List.mem_or_eq_of_mem_set hq with h3|rfl
       ·exact hrows.row q h3
       ·rw[writeD_len hw];exact hrows.row r (List.mem_of_getElem? hri)) hx.cells hc.2.2
      obtain⟨p1,p2⟩:=hr.put hg hR (o:=.rows op sz (rs.set i r')) (e:=.cells cs' e') (.rows h2)
      exact⟨R.blk,i*R.sz+off,_,rfl,by rw[←hx.cells.len,hc.1,Nat.beq_refl],by rw[←hrows.hsz];exact h1,p2,p1,j,i,off,R,rfl,hR,rfl⟩
     grind
   |map=>cases hd
   |loop=>cases hd
 |_=>cases hd
theorem zjx {size:Nat}: ∀{l:List (Nat×DV)} {l':List (Nat×Nat×Value)} {rows rows':List (List DV)} {vs:List Value},(∀r∈rows,r.length=size)→LRel w rows.flatten vs→l'.map (fun x=>(x.1,x.2.1))=l.map (fun x=>(x.1*size,size))→LRel w (l.map Prod.snd) (l'.map fun x=>x.2.2)→zcQ size rows l=some rows'→
 ∃vs',ziS vs l'=some vs'∧LRel w rows'.flatten vs'∧(∀r∈rows',r.length=size)∧rows'.length=rows.length
 | [],l',rows,rows',vs,hs,hc,e,_,h=>by
   cases h
   cases l' with
   |nil=>exact⟨vs,rfl,hc,hs,rfl⟩
   |cons=>cases e
 | (i,x)::l,[],rows,rows',vs,hs,hc,e,_,h=>by cases e
 | (i,x)::l,(o',n',x')::l',rows,rows',vs,hs,hc,e,hl,h=>by
   simp only[List.map_cons,List.cons.injEq,Prod.mk.injEq] at e hl
   obtain⟨⟨rfl,rfl⟩,e⟩:=e
   obtain⟨x2,r2,e2,hx,hr⟩:=hl.head
   cases e2
   unfold zcQ at h
   split at h
   ·rename_i hc1
    obtain⟨h1,h2,h3,h4⟩:=hc1
    have hri:rows[i]? =some rows[i]:=List.getElem?_eq_getElem h4
    have hw:zK rows[i] 0 (zr x)=some (zr x):=by
     grind [zeb]
    obtain⟨v1,h5,h6⟩:=zea hc hx.cells (zjg hs hri hw)
    obtain⟨vs',h7,h8,h9,h10⟩:=zjx (rows:=rows.set i (zr x)) (fun q hq=>by
     grind) h6 e hr h
    refine⟨vs',?_,h8,h9,by grind⟩
    unfold ziS
    rw[if_pos (by simp[←hx.cells.len,h1,h2]),show i*n'=i*n'+0 from rfl,h5,Option.bind_some,h7]
   grind
theorem zjM {size:Nat}: ∀{ps:List (Nat×CO)} {l:List (Nat×DV)},ziU w (ps.flatMap fun p=>zh p.2) s t→zeS s ps=some l→
 ∃l',zcJ t size ps=some l'∧l'.map (fun x=>(x.1,x.2.1))=l.map (fun x=>(x.1*size,size))∧LRel w (l.map Prod.snd) (l'.map fun x=>x.2.2)
 | [],l,_,h=>by cases h;exact⟨[],rfl,rfl,.nil⟩
 | (o,x)::ps,l,hs,h=>by
   obtain⟨d,hd,h⟩:=aof h
   obtain⟨r,hr,rfl⟩:=amf h
   obtain⟨v,hv,h1⟩:=zl (hs.sub fun p hp=>by simp[hp]) hd
   obtain⟨r',hr',e,h2⟩:=zjM (size:=size) (hs.sub fun p hp=>by grind) hr
   exact⟨(o*size,size,v)::r',by grind [zcJ],by simp[e],.cons h1 h2⟩
theorem zfQ {w:Wd} {j:Nat} {R:RBd}:(w.add j R).rho j=some R:=by show(if j=j then _ else _)=_;grind
theorem zjU (hr:HRel w M h) {op:Bool} {sz:Nat} {rs:List (List DV)} {cs:List Value} {e:Nat} (he:e=if op=true then sz else 0) (hp:op=true→0<sz∧sz<roE) (hrow: ∀r∈rs,r.length=sz) (hl:LRel w rs.flatten cs):
 HRel (w.add M.next ⟨h.next,sz,op⟩) (M.new (.rows op sz rs)) (h.new (.cells cs e))∧Hist w M h (w.add M.next ⟨h.next,sz,op⟩) (M.new (.rows op sz rs)) (h.new (.cells cs e)):=
 hr.new (.rows ⟨rfl,rfl,he,hp,hrow,hl.mono (Wd.add_le (hr.rho_none (Nat.le_refl _)))⟩)
theorem zjV (hr:HRel w M h) {size:Nat} {rs:List (List DV)} {cs:List Value} (hp:0<size∧size<roE) (hrow: ∀r∈rs,r.length=size) (hl:LRel w rs.flatten cs):
 Left w M h (zeT M size rs).1 (zeT M size rs).2 (zgF h rs.length size cs).1 (zgF h rs.length size cs).2:=by
 obtain⟨p1,p2⟩:=zjU hr (op:=true) (e:=size) (by grind) (fun _=>hp) hrow hl
 refine⟨_,?_,p2,p1⟩
 have:=VRel.ms (w:=w.add M.next ⟨h.next,size,true⟩) (lo:=0) (len:=rs.length) (cap:=zc) zfQ (fun _=>rfl) (fun h=>absurd rfl h)
 rwa [Nat.zero_mul] at this
theorem appendD_rel (hr:HRel w M h) {size bytes:Nat} {new:List (List DV)} {us:List Value} {d:DV} {v:Value} {d':DV} {M':VM} (hp:0<size∧size<roE) (hrow: ∀r∈new,r.length=size) (hl:LRel w new.flatten us) (hc:new.all (fun r=>r.all zt)=true) (hv:VRel w d v)
 (hd:zbw size bytes M new d=some (d',M')): ∃v' h',zcK size bytes new.length us h v=some (v',h')∧Left w M h d' M' v' h':=by
 have hcf:new.flatten.all zt=true:=by
  grind
 have hcell:=hl.isCell hcf
 have hlen:=z9 hrow
 unfold zbw at hd
 by_cases h0:new=[]
 ·rw[if_pos h0] at hd
  have hM:d'=d∧M'=M:=by grind
  obtain⟨rfl,rfl⟩:=hM
  subst h0
  refine⟨v,h,?_,w,hv,.refl _ _ _,hr⟩
  cases hv<;>first| (cases hd;done)|simp_all[zcK]
 ·rw[if_neg h0] at hd
  have hn:Nat.beq new.length 0=false:=by
   cases new with
   |nil=>grind
   |cons=>rfl
  split at hd
  ·
   split at hd
   ·rename_i hb
    cases hd
    cases hv
    obtain⟨w',q⟩:=zjV hr hp hrow hl
    refine⟨_,_,?_,w',q⟩
    simp_all[zcK]
   grind
  ·rename_i j lo len cap
   split at hd
   ·rename_i hb
    obtain⟨o,ho,hd⟩:=aof hd
    obtain⟨st,hg⟩:=zbX ho
    cases hv with
    | @ms _ _ _ _ R hR hO hC=>
      obtain⟨hz,e,he,hro⟩:=hr.obj j o st R hg hR
      cases hro with
      |map=>cases hd
      |loop=>cases hd
      | @rows op sz rs cs e' hrows=>
        have hd2:(if sz=size∧lo+len≤rs.length then match op with
         |true=>if cap=zc then
           if lo+len+new.length≤rs.length then some (DV.ms j lo (len+new.length) cap,M.put j (.rows true sz (zbW rs new (lo+len))))
           else some (zeT (M.del j) size ((rs.drop lo).take len++new)) else none
         |false=>if cap<zc then
           if len+new.length≤cap then(if lo+cap≤rs.length then some (DV.ms j lo (len+new.length) cap,M.put j (.rows false sz (zbW rs new (lo+len)))) else none)
           else some (zeT M size ((rs.drop lo).take len++new)) else none
         else none)=some (d',M'):=hd
        clear hd
        split at hd2
        ·rename_i hsz;obtain⟨rfl,hle⟩:=hsz
         have hs:=hrows.row
         have hfl:=z9 hs
         have hcl:=hrows.rel.len
         have hsz:=hrows.hsz
         have hold:zkJ (len*sz) (zey (lo*R.sz) cs)=some ((cs.drop (lo*R.sz)).take (len*sz)):=by
          rw[zcf,←hsz]
          have:=takeC_app (us:=(cs.drop (lo*sz)).take (len*sz)) (tl:=(cs.drop (lo*sz)).drop (len*sz)) (n:=len*sz)
           (by rw[List.length_take,List.length_drop,←hcl,hfl]
               have:lo*sz+len*sz≤rs.length*sz:=by rw[←Nat.add_mul];exact Nat.mul_le_mul_right _ hle
               omega) (((hrows.rel.drop _).take _).clean)
          grind [List.take_append_drop]
         have hso: ∀r∈(rs.drop lo).take len++new,r.length=sz:=fun r hr1=>by
          grind
         have hlo:LRel w ((rs.drop lo).take len++new).flatten ((cs.drop (lo*R.sz)).take (len*sz)++us):=by
          rw[List.flatten_append,zds (fun r hr1=>hs r (List.mem_of_mem_drop hr1)),zdt hs,←hsz]
          exact((hrows.rel.drop _).take _).append hl
         have hlen2:((rs.drop lo).take len++new).length=len+new.length:=by grind
         have hput:lo+len+new.length≤rs.length→ ∃cs',h.write R.blk (lo*R.sz+len*sz) us=some (h.put R.blk (.cells cs' e'))∧RowsRel w R op sz (zbW rs new (lo+len)) cs' e':=fun hle2=>by
          rw[←hsz,←Nat.add_mul]
          refine zgX he hrows (zfo hs hrow hle2) (fun r hr1=> ?_) hl hcf
          grind [zbW]
         have hApp: ∀x,zdZ sz ⟨R.blk,lo*R.sz,none⟩ len cap new.length us h (.cells cs e')=x→zcK sz bytes new.length us h (.slice (some ⟨R.blk,lo*R.sz,none⟩) len cap)=x:=fun x hx=>by
          simp_all[zcK]
         cases op with
         |true=>
          dsimp only at hd2
          split at hd2
          ·rename_i hcap;subst hcap
           obtain⟨hp1,hp2⟩:=hrows.pos rfl
           have hes:=hrows.esz
           rw[if_pos rfl] at hes
           have hq:(cs.length - lo*R.sz) / sz=rs.length - lo:=by
            rw[←hcl,hfl,←hsz,←Nat.sub_mul,Nat.mul_div_cancel _ hp1]
           have hcond:(Nat.beq e' sz&& !Nat.beq e' roE)=true:=by
            grind [ziY]
           have hI:zdZ sz ⟨R.blk,lo*R.sz,none⟩ len zc new.length us h (.cells cs e')=if Nat.ble (len+new.length) (rs.length - lo) then putIn sz ⟨R.blk,lo*R.sz,none⟩ len zc new.length us h else zj8 sz ⟨R.blk,lo*R.sz,none⟩ len new.length us (h.put R.blk .dead) cs:=by
            grind [zdZ,Nat.beq_refl]
           split at hd2
           ·rename_i hle2;cases hd2
            obtain⟨cs',h1,h2⟩:=hput hle2
            obtain⟨p1,p2⟩:=hr.put hg hR (o:=.rows true sz (zbW rs new (lo+len))) (e:=.cells cs' e') (.rows h2)
            refine⟨_,_,hApp _ ?_,w,.ms hR hO (fun h=>absurd rfl h),p2,p1⟩
            grind [Nat.ble_eq,putIn]
           ·rename_i hle2;cases hd2
            obtain⟨k1,k2⟩:=hr.kill hg hR .dead
            obtain⟨w',q1,q2,q3⟩:=zjV k1 hp hso hlo
            refine⟨_,_,hApp _ ?_,w',q1,k2.trans hr q2,q3⟩
            grind [Nat.ble_eq,zj8]
          grind
         |false=>
          dsimp only at hd2
          split at hd2
          ·rename_i hcap
           have hI:zdZ sz ⟨R.blk,lo*R.sz,none⟩ len cap new.length us h (.cells cs e')=if Nat.ble (len+new.length) cap then putIn sz ⟨R.blk,lo*R.sz,none⟩ len cap new.length us h else zj8 sz ⟨R.blk,lo*R.sz,none⟩ len new.length us h cs:=by
            grind [zdZ,Nat.eq_of_beq_eq_true]
           split at hd2
           ·rename_i hle2
            split at hd2
            ·rename_i hle3;cases hd2
             obtain⟨cs',h1,h2⟩:=hput (by omega)
             obtain⟨p1,p2⟩:=hr.put hg hR (o:=.rows false sz (zbW rs new (lo+len))) (e:=.cells cs' e') (.rows h2)
             refine⟨_,_,hApp _ ?_,w,.ms hR hO (fun h=>⟨hle2,(hC h).2⟩),p2,p1⟩
             grind [Nat.ble_eq,putIn]
            grind
           grind [zjV,Nat.ble_eq,zj8]
          grind
        grind
   grind
  grind
theorem appendedD_rel (hr:HRel w M h) {size:Nat} {d:DV} {new:List (List DV)} {v:Value} (hd:zbQ M size d=some new) (hv:VRel w d v): ∃us,zdY h size v=some (new.length,us)∧LRel w new.flatten us∧ ∀r∈new,r.length=size:=by
 unfold zbQ at hd
 split at hd
 ·rename_i b
  split at hd
  ·rename_i hs;cases hd;subst hs
   rw[hv.inv_str]
   refine⟨b.data.toList.map zhz,?_,?_,?_⟩
   ·simp_all[zdY,bytesD]
   ·unfold bytesD
    have: ∀l:List UInt8,LRel w (l.map fun b=>[byteD b]).flatten (l.map zhz):=fun l=>by
     induction l with
     |nil=>exact .nil
     |cons x l ih=>exact .cons (.int _ _) ih
    grind
   grind [bytesD]
  grind
 ·rename_i hns
  obtain⟨base,cap,rfl,hs,hcase⟩:=zic hr hd hv
  have hfl:=z9 hs
  by_cases h0:new.length=0
  ·have:new=[]:=List.eq_nil_of_length_eq_zero h0
   subst this
   refine⟨[],?_,.nil,by simp⟩
   unfold zdY
   cases base<;>rfl
  ·rcases hcase with rfl| ⟨b,o,cs,e,us,tl,rfl,hg,hb,hsp,hl⟩
   ·grind
   ·refine⟨us,?_,hl,hs⟩
    unfold zdY
    dsimp only
    rw[if_neg (fun e=>h0 (Nat.eq_of_beq_eq_true e)),zeR hg hsp (by rw[←hl.len];omega) hl.clean,Option.map_some,List.take_of_length_le (by rw[←hl.len];omega)]
theorem copyD_rel (hr:HRel w M h) {size:Nat} {src:List (List DV)} {d x:DV} {v:Value} {base:Option Addr} {cap:Nat} {d':DV} {M':VM} (hs2: ∀r∈src,r.length=size) (hc:src.all (fun r=>r.all zt)=true) (hv:VRel w d v)
 (hcase:src=[]∨ ∃b o cs e us tl,base=some ⟨b,o,none⟩∧h.get b=some (.cells cs e)∧RdB w (refD x) b∧cs.drop o=us++tl∧LRel w src.flatten us) (hd:copyD size M src d=some (d',M')):
 ∃v' h',bltV h (.copy size) [v,.slice base src.length cap]=some (v',h')∧Left w M h d' M' v' h':=by
 unfold copyD at hd
 split at hd
 ·rename_i j lo len cap2
  obtain⟨o,ho,hd⟩:=aof hd
  obtain⟨st,hg⟩:=zbX ho
  cases hv with
  | @ms _ _ _ _ R hR hO hC=>
    obtain⟨hz,e,he,hro⟩:=hr.obj j o st R hg hR
    cases hro with
    |map=>cases hd
    |loop=>cases hd
    | @rows op sz rs cs e' hrows=>
      have hd2:(if sz=size∧lo+len≤rs.length∧0<len∧0<src.length then some (DV.int .i64 ((min len src.length:Nat):Int),M.put j (.rows op sz (zbW rs (src.take (min len src.length)) lo))) else none)=some (d',M'):=hd
      clear hd
      split at hd2
      ·rename_i hsz;obtain⟨rfl,hle,hl0,hs0⟩:=hsz
       cases hd2
       rcases hcase with rfl| ⟨b,o,cs2,e2,us,tl,rfl,hg2,hb,hsp,hl⟩
       ·grind
       ·have hsz:=hrows.hsz
        have htk: ∀r∈src.take (min len src.length),r.length=sz:=fun r hr1=>hs2 r (List.mem_of_mem_take hr1)
        have hfl:=z9 hs2
        have hlen:(src.take (min len src.length)).length=min len src.length:=by grind
        have hlt:LRel w (src.take (min len src.length)).flatten (us.take (min len src.length*sz)):=by
         rw[zds hs2];exact hl.take _
        have hcf:(src.take (min len src.length)).flatten.all zt=true:=by
         grind
        have hwr:=zfo (at_:=lo) hrows.row htk (by grind)
        obtain⟨cs',h1,h2⟩:=zgX he hrows hwr (fun r hr1=>by
         unfold zbW at hr1
         rcases List.mem_append.1 hr1 with h1|h1
         ·rcases List.mem_append.1 h1 with h1|h1
          ·exact hrows.row r (List.mem_of_mem_take h1)
          grind
         ·exact hrows.row r (List.mem_of_mem_drop h1)) hlt hcf
        obtain⟨p1,p2⟩:=hr.put hg hR (o:=.rows op sz (zbW rs (src.take (min len src.length)) lo)) (e:=.cells cs' e') (.rows h2)
        refine⟨_,_,?_,w,.int _ _,p2,p1⟩
        show copyV sz h ⟨R.blk,lo*R.sz,none⟩ (zhl src.length len) (some ⟨b,o,none⟩)=_
        have hmin:zhl src.length len=min len src.length:=by
         grind [zhl,Nat.le_of_ble_eq_true,Nat.ble_eq_true_of_le]
        rw[hmin]
        unfold copyV
        dsimp only
        rw[if_neg (fun hh=>by grind [Nat.eq_of_beq_eq_true]),zeR hg2 hsp (by rw[←hl.len,hfl];simp_all[Nat.mul_le_mul_right,Nat.min_le_right]) hl.clean,Option.bind_some,←hsz,h1]
        rfl
      grind
 grind
theorem clearD_rel (hr:HRel w M h) {z:List DV} {zv:List Value} {d:DV} {v:Value} {d':DV} {M':VM} (hz:LRel w z zv) (hv:VRel w d v) (hd:clearD z M d=some (d',M')):
 ∃v' h',bltV h (.clear zv) [v]=some (v',h')∧Left w M h d' M' v' h':=by
 unfold clearD at hd
 split at hd
 ·cases hd
  cases hv
  exact⟨zM,h,rfl,w,.tup_of .nil,.refl _ _ _,hr⟩
 ·rename_i j lo len cap2
  cases hv with
  | @ms _ _ _ _ R hR hO hC=>
    split at hd
    ·rename_i h0
     cases hd
     subst h0
     exact⟨zM,h,rfl,w,.tup_of .nil,.refl _ _ _,hr⟩
    ·rename_i h0
     obtain⟨o,ho,hd⟩:=aof hd
     obtain⟨st,hg⟩:=zbX ho
     obtain⟨hzz,e,he,hro⟩:=hr.obj j o st R hg hR
     cases hro with
     |map=>cases hd
     |loop=>cases hd
     | @rows op sz rs cs e' hrows=>
       have hd2:(if sz=z.length∧lo+len≤rs.length∧z.all zt=true then some (DV.tup [],M.put j (.rows op sz (zbW rs (List.replicate len z) lo))) else none)=some (d',M'):=hd
       clear hd
       split at hd2
       ·rename_i hsz;obtain⟨rfl,hle,hc⟩:=hsz
        cases hd2
        have hsz:=hrows.hsz
        have htk: ∀r∈List.replicate len z,r.length=z.length:=fun r hr1=>by grind
        have hcf:(List.replicate len z).flatten.all zt=true:=by
         grind
        have hwr:=zfo (at_:=lo) hrows.row htk (by grind)
        obtain⟨cs',h1,h2⟩:=zgX he hrows hwr (fun r hr1=>by
         unfold zbW at hr1
         rcases List.mem_append.1 hr1 with h1|h1
         ·rcases List.mem_append.1 h1 with h1|h1
          ·exact hrows.row r (List.mem_of_mem_take h1)
          grind
         ·exact hrows.row r (List.mem_of_mem_drop h1)) (zeP hz len) hcf
        obtain⟨p1,p2⟩:=hr.put hg hR (o:=.rows op z.length (zbW rs (List.replicate len z) lo)) (e:=.cells cs' e') (.rows h2)
        refine⟨zM,_,?_,w,.tup_of .nil,p2,p1⟩
        show(if Nat.beq len 0 then some (zM,h) else(h.write R.blk (lo*R.sz) (zbr zv len)).map fun h=>(zM,h))=_
        simp_all
       grind
 grind
theorem opW_sound {op:COp} (hr:HRel w M h) (hs:SRel w s t) {d:DV} {M':VM} (hd:opD op s M=some (d,M')): ∃v h',opV op t h=some (v,h')∧Left w M h d M' v h':=by
 by_cases hfl:isFl op=true
 ·obtain⟨rfl,v,hv,hg⟩:=zjO hfl hr.ty (hs.N _) hd
  exact⟨v,h,hg h,w,hv,.refl _ _ _,hr⟩
 by_cases hrd:isRd op=true
 ·obtain⟨rfl,v,hv,hg⟩:=zeg hrd hr (hs.N _) hd
  exact⟨v,h,hg h (fun _ _=>rfl),w,hv,.refl _ _ _,hr⟩
 cases op
 case alloc z=>
  obtain⟨z',hz,e⟩:=amf hd;cases e
  obtain⟨p1,p2⟩:=zjU hr (op:=false) (sz:=z'.length) (rs:=[z']) (cs:=z) (e:=0) rfl (fun h=>by cases h) (by simp) (by grind [ze5])
  refine⟨_,_,rfl,_,?_,p2,p1⟩
  have:=VRel.ptr (w:=w.add M.next ⟨h.next,z'.length,false⟩) (i:=0) (off:=0) zfQ
  grind
 case box x=>
  obtain⟨y,hy,e⟩:=amf hd;cases e
  obtain⟨v,hv,hr1⟩:=zbH hs hy
  obtain⟨p1,p2⟩:=zjU hr (op:=false) (sz:=(zr y).length) (rs:=[zr y]) (cs:=zW v) (e:=0) rfl (fun h=>by cases h) (by simp) (by simpa using hr1.cells)
  refine⟨_,_,by show(x.ev t).map _=_;rw[hv];rfl,_,?_,p2,p1⟩
  have:=VRel.ptr (w:=w.add M.next ⟨h.next,(zr y).length,false⟩) (i:=0) (off:=0) zfQ
  grind
 case buildSlice len size z ps=>
  obtain⟨z',hz,hd⟩:=aof hd
  split at hd
  ·rename_i hc;obtain⟨hzl,hlt⟩:=hc
   obtain⟨l,hl,hd⟩:=aof hd
   obtain⟨rows,hrows,e⟩:=amf hd;cases e
   obtain⟨l',hl',e1,e2⟩:=zjM (w:=w) (size:=size) (hs.N _) hl
   obtain⟨vs,h1,h2,h3,h4⟩:=zjx (rows:=List.replicate len z') (fun r hr1=>by grind) (zeP (ze5 hz) len) e1 e2 hrows
   obtain⟨p1,p2⟩:=zjU hr (op:=false) (sz:=size) (rs:=rows) (cs:=vs) (e:=0) rfl (fun h=>by cases h) h3 h2
   refine⟨.slice (some ⟨h.next,0,none⟩) len len,_,?_,_,?_,p2,p1⟩
   ·show((zcJ t size ps).bind fun l=>(ziS (zbr z len) l).map fun c=>(Value.slice (some ⟨h.next,0,none⟩) len len,h.new (.cells c 0)))=_
    grind
   ·have:=VRel.ms (w:=w.add M.next ⟨h.next,size,false⟩) (lo:=0) (len:=len) (cap:=len) zfQ (fun h=>by omega) (fun h=>⟨Nat.le_refl _,hlt⟩)
    grind
  grind
 case s2b x=>
  obtain⟨y,hy,hd⟩:=aof hd
  obtain⟨v,hv,hr1⟩:=zbH hs hy
  cases y with
  |str b=>
   cases hd
   rw[hr1.inv_str] at hv
   obtain⟨p1,p2⟩:=hr.newZ (b.data.toList.map zhz) roE
   exact⟨_,_,by show(x.ev t).bind (s2bV h)=_;rw[hv];rfl,_,.bs (by grind),p2,p1⟩
  |_=>cases hd
 case makeMap=>
  cases hd
  obtain⟨p1,p2⟩:=hr.new (o:=.map []) (e:=.map [] 0) (sz:=0) (op:=false) (.map ⟨.nil,.nil⟩)
  exact⟨_,_,rfl,_,.map (R:=⟨h.next,0,false⟩) zfQ,p2,p1⟩
 case makeSlice sz bytes z l c=>
  obtain⟨l',hl,hd⟩:=aof hd
  obtain⟨c',hc,hd⟩:=aof hd
  obtain⟨z',hz,hd⟩:=aof hd
  obtain⟨v,hv,r1⟩:=zbH hs hl
  obtain⟨u,hu,r2⟩:=zbH hs hc
  unfold zde at hd
  split at hd
  ·rename_i n m _ _
   split at hd
   ·rename_i hcond;obtain⟨c1,c2,c3⟩:=hcond
    cases hd
    obtain⟨p1,p2⟩:=zjU hr (op:=false) (sz:=z'.length) (rs:=List.replicate m z') (cs:=zbr z m) (e:=0) rfl (fun h=>by cases h) (fun r hr1=>by grind) (zeP (ze5 hz) m)
    refine⟨.slice (some ⟨h.next,0,none⟩) n m,_,?_,_,?_,p2,p1⟩
    ·show((l.ev t).bind fun l=>(c.ev t).bind fun c=>zdd bytes z h l c)=_
     rw[hv,hu,r1.inv_int,r2.inv_int,Option.bind_some,Option.bind_some]
     grind [zdd,Nat.ble_eq]
    ·have:=VRel.ms (w:=w.add M.next ⟨h.next,z'.length,false⟩) (lo:=0) (len:=n) (cap:=m) zfQ (fun h=>by grind [zc]) (fun h=>⟨c1,by grind [zc]⟩)
     grind
   grind
  grind
 case store n a x=>
  obtain⟨y,hy,hd⟩:=aof hd
  obtain⟨z,hz,hd⟩:=aof hd
  obtain⟨M2,h2,e⟩:=amf hd;cases e
  obtain⟨v,hv,r1⟩:=zbH hs hy
  obtain⟨u,hu,r2⟩:=zbH hs hz
  obtain⟨b,off,h',rfl,e1,e2,q1,q2,_⟩:=zhP hr h2 r2 r1
  refine⟨zM,h',?_,w,.tup_of .nil,q1,q2⟩
  show((a.ev t).bind fun v=>(x.ev t).bind fun x=>(zgD v).bind fun a=>if Nat.beq (zW x).length n then(h.write a.block a.off (zW x)).map fun h=>(zM,h) else none)=_
  rw[hv,hu,Option.bind_some,Option.bind_some]
  show(if _ then _ else _)=_
  grind
 case mapUpdate kk m k x=>
  obtain⟨m',hm,hd⟩:=aof hd
  obtain⟨k',hk,hd⟩:=aof hd
  obtain⟨x',hx,hd⟩:=aof hd
  obtain⟨M2,h2,e⟩:=amf hd;cases e
  obtain⟨mv,hmv,r1⟩:=zbH hs hm
  obtain⟨kv,hkv,r2⟩:=zbH hs hk
  obtain⟨xv,hxv,r3⟩:=zbH hs hx
  cases r1 with
  | @map j R hR=>
    obtain⟨o,ho,h2⟩:=aof (show(M.obj j).bind _=some _ from h2)
    obtain⟨st,hg⟩:=zbX ho
    obtain⟨hz,e,he,hro⟩:=hr.obj j o st R hg hR
    cases hro with
    | @map es es' c hm=>
      obtain⟨b,hb,h2⟩:=aof h2
      obtain⟨es2,hes,rfl⟩:=amf h2
      obtain⟨es2',c',h3,h4⟩:=setD_rel r2 r3 c hes hm
      obtain⟨p1,p2⟩:=hr.put hg hR (o:=.map es2) (e:=.map es2' c') (.map h4)
      refine⟨zM,_,?_,w,.tup_of .nil,p2,p1⟩
      show((m.ev t).bind fun m=>(k.ev t).bind fun k=>(x.ev t).bind fun x=>mapUpd kk h k x m)=_
      rw[hmv,hkv,hxv,Option.bind_some,Option.bind_some,Option.bind_some]
      show(h.get R.blk).bind (mapSet kk h kv xv R.blk)=_
      grind [mapSet,zdL]
    |rows=>cases h2
    |loop=>cases h2
  |_=>cases h2
 case blt b as=>
  cases b with
  |append size bytes=>
   obtain⟨l,hl,hd⟩:=aof hd
   obtain⟨vs,hvs,hrl⟩:=zf1 hs hl
   match l,hd,hrl with
   | [],hd,_=>cases hd
   | [_],hd,_=>cases hd
   |_::_::_::_,hd,_=>cases hd
   | [x,y],hd,hrl=>
     have hd:(if 0<size∧size<roE then(zbQ M size y).bind fun new=>if new.all (fun r=>r.all zt)=true then zbw size bytes M new x else none else none)=some (d,M'):=hd
     split at hd
     ·rename_i hp
      obtain⟨new,hnew,hd⟩:=aof hd
      split at hd
      ·rename_i hc
       obtain⟨x',r,rfl,hx,hrr⟩:=hrl.head
       obtain⟨y',r',rfl,hy,hrr'⟩:=hrr.head
       rw[hrr'.inv_nil] at hvs
       obtain⟨us,h1,h2,h3⟩:=appendedD_rel hr hnew hy
       obtain⟨v',h',h4,h5⟩:=appendD_rel hr hp h3 h2 hc hx hd
       refine⟨v',h',?_,h5⟩
       show((evL t as).bind fun l=>bltV h (.append size bytes) l)=_
       rw[hvs,Option.bind_some]
       show((zdY h size y').bind fun nl=>zcK size bytes nl.1 nl.2 h x')=_
       grind
      grind
     grind
  |clear z=>
   obtain⟨l,hl,hd⟩:=aof hd
   obtain⟨vs,hvs,hrl⟩:=zf1 hs hl
   match l,hd,hrl with
   | [],hd,_=>cases hd
   |_::_::_,hd,_=>cases hd
   | [x],hd,hrl=>
     obtain⟨z',hz,hd⟩:=aof (show((dOfL z).bind fun z=>clearD z M x)=some (d,M') from hd)
     obtain⟨x',r,rfl,hx,hrr⟩:=hrl.head
     rw[hrr.inv_nil] at hvs
     obtain⟨v',h',h4,h5⟩:=clearD_rel hr (ze5 hz) hx hd
     refine⟨v',h',?_,h5⟩
     show((evL t as).bind fun l=>bltV h (.clear z) l)=_
     grind
  |copy size=>
   obtain⟨l,hl,hd⟩:=aof hd
   obtain⟨vs,hvs,hrl⟩:=zf1 hs hl
   match l,hd,hrl with
   | [],hd,_=>cases hd
   | [_],hd,_=>cases hd
   |_::_::_::_,hd,_=>cases hd
   | [x,y],hd,hrl=>
     obtain⟨src,hsrc,hd⟩:=aof (show((zgo M size y).bind fun src=>if src.all (fun r=>r.all zt)=true then copyD size M src x else none)=some (d,M') from hd)
     split at hd
     ·rename_i hc
      obtain⟨x',r,rfl,hx,hrr⟩:=hrl.head
      obtain⟨y',r',rfl,hy,hrr'⟩:=hrr.head
      rw[hrr'.inv_nil] at hvs
      obtain⟨base,cap,rfl,hs2,hcase⟩:=zic hr hsrc hy
      obtain⟨v',h',h4,h5⟩:=copyD_rel hr hs2 hc hx hcase hd
      refine⟨v',h',?_,h5⟩
      show((evL t as).bind fun l=>bltV h (.copy size) l)=_
      rw[hvs,Option.bind_some,h4]
     grind
  |lenMap=>exact absurd rfl hrd
  |_=>exact absurd rfl hfl
 all_goals first| (exact absurd rfl hfl)| (exact absurd rfl hrd)|cases hd
end
end Go.Ideal
