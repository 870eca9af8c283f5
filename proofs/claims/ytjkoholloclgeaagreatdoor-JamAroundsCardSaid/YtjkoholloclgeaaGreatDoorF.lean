/- A part of the proof: the ideal machine, and what the functions of the program answer over it. -/
import Derived.Test.YtjkoholloclgeaaGreatDoorE
set_option linter.unusedSimpArgs false
set_option linter.unusedVariables false
set_option linter.unusedSectionVars false
set_option maxRecDepth 10000
set_option maxHeartbeats 1000000
namespace Go.Ideal.S
open Go Go.Ideal Q Classical
attribute [local simp] decide_eq_true decide_eq_false zM
attribute [local simp] c_q f_q r_q_1 r_q_2 r_q_3 r_q_4 r_q_5 r_q_6 r_q_7 r_q_8 r_q_9 r_q_10 r_q_11 r_q_12 r_q_15 r_q_16 r_q_18
variable {M:VM} {k kp:DV→VM→Prop} {n0:Nat}
theorem zjs (a b:Nat):binD .neq (.leaves [0]) (setD a) (setD b)=some (.bool (!decide (a=b))):=by
 show some (DV.bool (!(eqI (a:Int) (b:Int)&&true)))=_
 rw[eqI_dec,Bool.and_true]
 have:((a:Int)=(b:Int))=(a=b):=propext ⟨fun h=>by omega,fun h=>by omega⟩
 simp only[this]
structure LdM (B y:VM) (g:Gr) (mi:Nat) (w:Int) (m:Nat):Prop where
 sm:SM B.next B y
 nx:B.next+5≤y.next
 o4:y.obj B.next=some (grO g)
 o6:y.obj (B.next+1)=some (setO mi)
 o7:y.obj (B.next+2)=some (intO w)
 o8:y.obj (B.next+3)=some (setO 0)
 o9:y.obj (B.next+4)=some (setO m)
theorem LdM.frame {B y y':VM} {g:Gr} {mi:Nat} {w:Int} {m Y:Nat} (h:LdM B y g mi w m) (hY:B.next+5≤Y) (s:SM Y y y') (hn:y.next≤y'.next):LdM B y' g mi w m:=by
 have ob: ∀j o,j<Y→y.obj j=some o→y'.obj j=some o:=fun j o hj e=>by
  rw[←e];show(y'.get j).map _=(y.get j).map _;rw[s j hj]
 exact⟨fun j hj=>(s j (by omega)).trans (h.sm j hj),Nat.le_trans h.nx hn,ob _ _ (by omega) h.o4,ob _ _ (by omega) h.o6,ob _ _ (by omega) h.o7,ob _ _ (by omega) h.o8,ob _ _ (by omega) h.o9⟩
theorem LdM.put {B y:VM} {g:Gr} {mi:Nat} {w:Int} {m:Nat} (h:LdM B y g mi w m) (m':Nat):LdM B (y.put (B.next+4) (setO m')) g mi w m':=
 ⟨zk h.sm (by omega),by have:=h.nx;simp;omega,by simp(disch:=omega) [h.o4],by simp(disch:=omega) [h.o6],by simp(disch:=omega) [h.o7],by simp(disch:=omega) [h.o8],by simp⟩
def subB (a b:Nat):Prop:= ∀v,a.testBit v=true→b.testBit v=true
theorem zlP (m v:Nat) (u:Nat):(m ||| 2^v).testBit u=true↔m.testBit u=true∨u=v:=by
 rw[Nat.testBit_or,Nat.testBit_two_pow,Bool.or_eq_true,decide_eq_true_eq]
 exact⟨fun h=>h.imp id fun e=>e.symm,fun h=>h.imp id fun e=>e.symm⟩
theorem subB_or (m v:Nat):subB m (m ||| 2^v):=fun u h=>(zlP m v u).2 (.inl h)
theorem or_lt {m v:Nat} (h:m<2^64) (hv:v<64):m ||| 2^v<2^64:=Nat.or_lt_two_pow h (Nat.pow_lt_pow_right (by omega) hv)
theorem nof_sub {N a b:Nat} (h:subB a b) (hb: ∀v,b.testBit v=true→v<N) (hne:a≠b):nof N b.testBit<nof N a.testBit:=by
 obtain⟨v,hv⟩: ∃v,a.testBit v≠b.testBit v:=Classical.byContradiction fun hc=>hne (Nat.eq_of_testBit_eq fun v=>Classical.byContradiction fun e=>hc ⟨v,e⟩)
 have h1:b.testBit v=true:=by
  cases e:b.testBit v with
  |true=>rfl
  |false=>
   cases e2:a.testBit v with
   |true=>rw[h v e2] at e;cases e
   |false=>rw[e,e2] at hv;exact absurd rfl hv
 have h2:a.testBit v=false:=by
  cases e2:a.testBit v with
  |true=>rw[h1,e2] at hv;exact absurd rfl hv
  |false=>rfl
 refine cnt_lt (t:=v) (fun x hx=> ?_) (List.mem_range.2 (hb v h1)) (by simp[h2]) (by simp[h1])
 cases e:a.testBit x with
 |false=>rfl
 |true=>rw[h x e] at hx;cases hx
structure LdP (g:Gr) (N mi:Nat) (w:Int) (s0:Nat) (m:Nat):Prop where
 lt:m<2^64
 mem:m.testBit s0=true
 snd: ∀v,m.testBit v=true→v<N∧Star (RF g (fun v=>mi.testBit v) w) s0 v
theorem LdP.add {g:Gr} (hg:zbm g) {N mi s0 m:Nat} {w:Int} (hN:g.st=N) (h:LdP g N mi w s0 m) {i:Nat} (hi:i<g.es.length) (h1:m.testBit g.es[i].f.toNat=true) (h2:g.es[i].a≠w) (h3:mi.testBit g.es[i].t.toNat=true):LdP g N mi w s0 (m ||| 2^g.es[i].t.toNat):=by
 have he:=hg.ok _ (List.getElem_mem hi)
 have a0:=he.f0;have a1:=he.t0;have a2:=he.t1
 have g2:=hg.s2
 refine⟨or_lt h.lt (by omega),(zlP _ _ _).2 (.inl h.mem),fun v hv=> ?_⟩
 rcases(zlP _ _ _).1 hv with hv|rfl
 ·exact h.snd v hv
 ·exact⟨by omega,(h.snd _ h1).2.tail ⟨g.es[i],List.getElem_mem hi,by omega,by omega,h2,h3⟩⟩
theorem jleads_ok {g:Gr} (hg:zbm g) {N:Nat} (hN:g.st=N) {mi:Nat} (hmi:mi<2^64) (w:Int) {s0:Nat} (hs0:s0<N)
 (hk: ∀m,m<2^64→(∀v,m.testBit v=true↔Star (RF g (fun v=>mi.testBit v) w) s0 v)→k (setD m) M):zq F (.fn n_q [] []) [.agg (eGr g),I s0,setD mi,I w] M k kp:=by
 have g2:=hg.s2
 have hl:g.es.length≤1000000:=by have:=hg.el;omega
 have h64:s0<64:=by omega
 apply zq.back
 refine .fn zhG rfl (by simp[f_q]) ?_
 simp[eGr]
 refine zjg 0 s0 _ (by decide) h64 (by simp) ?_
 simp
 have hl0:LdP g N mi w s0 (2^s0):=⟨Nat.pow_lt_pow_right (by omega) h64,by simp,fun v hv=>by
  rw[Nat.testBit_two_pow,decide_eq_true_eq] at hv;subst hv;exact⟨hs0,.refl _⟩⟩
 refine zbR.gen (Q:=fun y=>LdM M y g mi w (2^s0)∧M.next+6<y.next∧y.obj (M.next+6)=some (setO 0)) ⟨⟨(by repeat' (first|assumption|exact zg _ _|apply zk|apply zl|apply zm| ((try simp only[zc,ze,zf]);omega))),by simp<;>omega,by simp(disch:=((try simp only[zc,ze]);omega)),by simp(disch:=((try simp only[zc,ze]);omega)),by simp(disch:=((try simp only[zc,ze]);omega)),by simp(disch:=((try simp only[zc,ze]);omega)),by simp(disch:=((try simp only[zc,ze]);omega))⟩,by simp,by simp⟩ fun y0 hy0=> ?_
 refine .while (σ:=VM×Nat×Nat×Nat) c_q_17.eq_1 (fun x=>[(10,.ptr x.2.1 0 0)]) (fun x=>x.1) (fun x=>LdM M x.1 g mi w x.2.2.2∧M.next+5≤x.2.1∧x.2.1<x.1.next∧x.1.obj x.2.1=some (setO x.2.2.1)∧LdP g N mi w s0 x.2.2.2∧x.2.2.1<2^64∧subB x.2.2.1 x.2.2.2∧ ∀a b,x.2.2.1.testBit a=true→RF g (fun v=>mi.testBit v) w a b→x.2.2.2.testBit b=true)
  (fun x=>2*nof N x.2.2.2.testBit+if x.2.2.1=x.2.2.2 then 0 else 1) (y0,M.next+6,0,2^s0) (by simp) rfl ⟨hy0.1,by show M.next+5≤M.next+6;omega,hy0.2.1,hy0.2.2,hl0,Nat.two_pow_pos 64,by intro v hv;simp at hv,by intro a b hv;simp at hv⟩ (fun x hP again=> ?_)
 clear hy0
 obtain⟨y,jw,was,m⟩:=x
 obtain⟨h1,h2,h3,h4,h5,h6,h7,h8⟩:=hP
 dsimp only at*
 have o9:=h1.o9
 have o8:=h1.o8
 have nx:=h1.nx
 by_cases c:was=m
 ·subst c
  simp[h4,o9,zjs,o8]
  refine Back.plain (by simp) (zk h1.sm (by omega)) (hk was h6 fun v=>⟨fun hv=>(h5.snd v hv).2,fun hv=>hv.keep (P:=fun v=>was.testBit v=true) (fun a b ha r=>h8 a b ha r) h5.mem⟩)
 ·simp[h4,o9,zjs,c]
  refine all_ok m fun M2 j1 s1 s2 s3 s4=> ?_
  have hM2:LdM M M2 g mi w m:=(h1.frame (Y:=jw) (y':=y.put jw (setO m)) h2 (zk (zg _ _) (Nat.le_refl _)) (by simp)).frame (Y:=(y.put jw (setO m)).next) (by simp;omega) s1 (by simp only[ze] at s2⊢;omega)
  have hw2:M2.obj jw=some (setO m):=zK s1 (by simp;omega) (by simp)
  simp only[ze] at s1 s2
  simp
  have hlo:M.next+5≤j1:=by omega
  refine all_rg m h5.lt (Y:=j1) (p:=23) (Nat.le_refl _) s3 s4 rfl rfl rfl (fun i y=> ∃m',LdM M y g mi w m'∧LdP g N mi w s0 m'∧subB m m'∧y.obj jw=some (setO m)∧j1<y.next∧ ∀a b,a<i→m.testBit a=true→RF g (fun v=>mi.testBit v) w a b→m'.testBit b=true) (fun _=>False)
   ⟨m,hM2,h5,fun v h=>h,hw2,s3,fun a b ha=>by omega⟩ (fun i y y' ⟨m',q1,q2,q3,q4,q5,q6⟩ s hn=>⟨m',q1.frame hlo s hn,q2,q3,zR s (by omega) q4,by omega,q6⟩) (fun _ _ h=>h.elim) (fun i y hi ⟨m',q1,q2,q3,q4,q5,q6⟩ hb=>⟨m',q1,q2,q3,q4,q5,fun a b ha hm r=> ?_⟩) (fun i y hi ⟨m',q1,q2,q3,q4,q5,q6⟩ hb ly oj o1 o2 Ka Kb ol hA fin ret=> ?_) (fun y ⟨m',q1,q2,q3,q4,q5,q6⟩ ly=> ?_) (fun _ h=>h.elim)
  ·by_cases e:a=i
   ·subst e;rw[hm] at hb;cases hb
   ·exact q6 a b (by omega) hm r
  ·simp[c_q_14]
   refine hA _ _ ol ?_
   have r1:=q1.frame hlo (y':=y.put M2.next o2) (zk (zg _ _) (by omega)) (by simp)
   have r2:(y.put M2.next o2).obj M2.next=some o2:=by simp
   have r3:(y.put M2.next o2).obj j1=some (setO m):=by simp(disch:=omega) [oj]
   have r4:(y.put M2.next o2).obj jw=some (setO m):=by simp(disch:=omega) [q4]
   have r5:M2.next<(y.put M2.next o2).next:=by simp;omega
   generalize y.put M2.next o2=y1 at*
   have o4:=r1.o4
   simp[zcK,o4]
   refine from_ok g i fun M3 j2 j3 t1 t2 t3 t4 t5 t6=> ?_
   have f1:=r1.frame (Y:=y1.next) (by omega) t1 (by omega)
   have f2:=zR t1 r5 r2
   have f3:=zR t1 (by omega) r3
   have f4:=zR t1 (by omega) r4
   simp
   refine from_rg g hl i (Y:=j2) (p:=27) (q:=28) (Nat.le_refl _) (by omega) (by omega) t4 t5 t6 rfl rfl rfl (fun e y=> ∃m',LdM M y g mi w m'∧LdP g N mi w s0 m'∧subB m m'∧y.obj M2.next=some o2∧y.obj j1=some (setO m)∧y.obj jw=some (setO m)∧j2<y.next∧(∀a b,a<i→m.testBit a=true→RF g (fun v=>mi.testBit v) w a b→m'.testBit b=true)∧ ∀(q:Nat) (hq:q<g.es.length),q<e→g.es[q].f=i→g.es[q].a≠w→mi.testBit g.es[q].t.toNat=true→m'.testBit g.es[q].t.toNat=true)
    ⟨m',f1,q2,q3,f2,f3,f4,by omega,q6,fun q hq h=>by omega⟩ (fun e y y' ⟨m',p1,p2,p3,p4,p5,p6,p7,p8,p9⟩ s _ hn=>⟨m',p1.frame (by omega) s hn,p2,p3,zR s (by omega) p4,zR s (by omega) p5,zR s (by omega) p6,by omega,p8,p9⟩) (fun e y he ⟨m',p1,p2,p3,p4,p5,p6,p7,p8,p9⟩ hn=>⟨m',p1,p2,p3,p4,p5,p6,p7,p8,fun q hq h hf ha hm=> ?_⟩) (fun e y he ⟨m',p1,p2,p3,p4,p5,p6,p7,p8,p9⟩ hn ly2 oj2 oj3 o3 o4 Kc Kd ol2 hA2 fin2 ret2=> ?_) (fun y ⟨m',p1,p2,p3,p4,p5,p6,p7,p8,p9⟩ ly2=> ?_)
   ·by_cases c2:q=e
    ·subst c2;exact absurd hf hn
    ·exact p9 q hq (by omega) hf ha hm
   ·have he0:=hg.ok _ (List.getElem_mem he)
    have a0:=he0.f0;have a1:=he0.t0;have a2:=he0.t1
    obtain⟨tn,htn⟩: ∃tn:Nat,g.es[e].t=tn:=⟨g.es[e].t.toNat,by omega⟩
    have htn2:g.es[e].t.toNat=tn:=by omega
    have hfi:g.es[e].f.toNat=i:=by omega
    have hm':m'.testBit g.es[e].f.toNat=true:=by rw[hfi];exact p3 i hb
    simp[c_q_13,zF]
    refine hA2 _ _ (by simp(disch:=((try simp only[zc,ze]);omega)) [ol2]) ?_
    have r1:=p1.frame (Y:=j2) (by omega) (y':=((y.new (.rows false 3 [[I 0,I 0,I 0]])).put y.next (.rows false 3 [[I g.es[e].f,I g.es[e].a,I g.es[e].t]])).put M3.next o4) (by repeat' (first|assumption|exact zg _ _|apply zk|apply zl|apply zm| ((try simp only[zc,ze,zf]);omega))) (by simp;omega)
    have r2:(((y.new (.rows false 3 [[I 0,I 0,I 0]])).put y.next (.rows false 3 [[I g.es[e].f,I g.es[e].a,I g.es[e].t]])).put M3.next o4).obj y.next=some (.rows false 3 [[I g.es[e].f,I g.es[e].a,I g.es[e].t]]):=by simp(disch:=omega)
    have r3:(((y.new (.rows false 3 [[I 0,I 0,I 0]])).put y.next (.rows false 3 [[I g.es[e].f,I g.es[e].a,I g.es[e].t]])).put M3.next o4).obj M3.next=some o4:=by simp
    have r4:SM M3.next y (((y.new (.rows false 3 [[I 0,I 0,I 0]])).put y.next (.rows false 3 [[I g.es[e].f,I g.es[e].a,I g.es[e].t]])).put M3.next o4):=(by repeat' (first|assumption|exact zg _ _|apply zk|apply zl|apply zm| ((try simp only[zc,ze,zf]);omega)))
    have r5:y.next<(((y.new (.rows false 3 [[I 0,I 0,I 0]])).put y.next (.rows false 3 [[I g.es[e].f,I g.es[e].a,I g.es[e].t]])).put M3.next o4).next:=by simp;omega
    generalize ((y.new (.rows false 3 [[I 0,I 0,I 0]])).put y.next (.rows false 3 [[I g.es[e].f,I g.es[e].a,I g.es[e].t]])).put M3.next o4=y2 at*
    rw[htn] at r2⊢
    have x6:=r1.o6;have x7:=r1.o7;have x9:=r1.o9
    have p4':=zR r4 (by omega) p4
    have p5':=zR r4 (by omega) p5
    have p6':=zR r4 (by omega) p6
    have oj2':=zR r4 (by omega) oj2
    have oj3':=zR r4 (by omega) oj3
    have hend: ∀s' y',SM y2.next y2 y'∨y'=y2→(g.es[e].a=w∨mi.testBit tn=false)→y2.next≤y'.next→Kd.nrm s' y':=fun s' y' hs hc hn2=>by
     have hs:SM y2.next y2 y':=by rcases hs with hs|rfl;exact hs;exact zg _ _
     refine fin2 _ _ (zR hs (by omega) r3) ⟨zR hs (by omega) oj2',zR hs (by omega) oj3',by omega,m',r1.frame (by omega) hs hn2,p2,p3,zR hs (by omega) p4',zR hs (by omega) p5',zR hs (by omega) p6',by omega,p8,fun q hq h hf ha hm=> ?_⟩
     by_cases c2:q=e
     ·subst c2
      rcases hc with hc|hc
      ·exact absurd hc ha
      ·rw[htn2,hc] at hm;cases hm
     ·exact p9 q hq (by omega) hf ha hm
    by_cases hw:g.es[e].a=w
    ·simp[zb0,r2,x7,hw]
     exact hend _ _ (.inr rfl) (.inl hw) (Nat.le_refl _)
    ·simp[zb0,r2,x7,hw,x6]
     refine zdw mi tn hmi (by omega) ?_
     cases hb2:mi.testBit tn with
     |false=>
      simp[hb2]
      exact hend _ _ (.inr rfl) (.inr hb2) (Nat.le_refl _)
     |true=>
      simp[hb2,r2]
      refine zjg m' tn _ p2.lt (by omega) x9 ?_
      simp
      have hp2:=p2.add hg hN he hm' hw (by rw[htn2];exact hb2)
      rw[htn2] at hp2
      refine fin2 _ _ (by simp(disch:=omega) [r3]) ⟨by simp(disch:=omega) [oj2'],by simp(disch:=omega) [oj3'],by simp;omega,m' ||| 2^tn,r1.put _,hp2,fun v hv=>subB_or _ _ _ (p3 v hv),by simp(disch:=omega) [p4'],by simp(disch:=omega) [p5'],by simp(disch:=omega) [p6'],by simp;omega,fun a b ha hm r=>subB_or _ _ _ (p8 a b ha hm r),fun q hq h hf ha hm=> ?_⟩
      by_cases c2:q=e
      ·subst c2;rw[htn2];exact(zlP _ _ _).2 (.inr rfl)
      ·exact subB_or _ _ _ (p9 q hq (by omega) hf ha hm)
   ·simp
    refine fin _ _ p4 ⟨p5,by omega,m',p1,p2,p3,p6,by omega,fun a b ha hm r=> ?_⟩
    by_cases c2:a=i
    ·subst c2
     obtain⟨e,q1,q2,q3,q4,q5⟩:=r
     obtain⟨q,hq,rfl⟩:=List.getElem_of_mem q1
     have:=p9 q hq hq q2 q4 (by rw[q3];simpa using q5)
     rw[q3] at this;simpa using this
    ·exact p8 a b (by omega) hm r
  ·simp at again
   simp[q4]
   have hz:SM y.next y ((y.new (.rows false 1 [[.int .u64 0]])).put y.next (setO m)):=(by repeat' (first|assumption|exact zg _ _|apply zk|apply zl|apply zm| ((try simp only[zc,ze,zf]);omega)))
   refine again _ y.next m m' ?_ (q1.frame (Y:=y.next) (by have:=q1.nx;omega) hz (by simp;omega)) (by have:=q1.nx;omega) (by simp;omega) (by simp) q2 h5.lt q3 (fun a b ha r=> ?_)
   ·by_cases e:m=m'
    ·rw[if_pos e,if_neg c,←e];omega
    ·rw[if_neg e,if_neg c]
     have:=nof_sub q3 (fun v hv=>(q2.snd v hv).1) e
     omega
   ·refine q6 a b ?_ ha r
    have:=(h5.snd a ha).1
    omega
end Go.Ideal.S
namespace Go.Ideal.S
open Classical
section
variable (E:Nat→Int→Nat→Prop) (w:Int) (st:Bool)
def zdG (P:Nat→Prop) (a b:Nat):Prop:= ∃x,E a x b∧x≠w∧P b
def Opn (P:Nat→Prop) (x:Int):Prop:= ∃a b,E a x b∧P a
def Ins (P:Nat→Prop) (x:Int):Prop:= ∃a b,E a x b∧P a∧P b
structure Core (P:Nat→Prop):Prop where
 ne: ∃x,x≠w∧Ins E P x
 con: ∀a b,P a→P b→Star (zdG E w P) a b
 fair: ∀x,x≠w→Opn E P x→Ins E P x
 op:st=true∧Opn E P w∨st=false∧ ¬Opn E P w
def Bad (P:Nat→Prop) (v:Nat):Prop:= ∃x b,E v x b∧(x=w∧st=false∨x≠w∧ ¬Ins E P x)
def Rest (P:Nat→Prop) (v:Nat):Prop:=P v∧ ¬Bad E w st P v
def Part (I P:Nat→Prop):Prop:= ∃i,I i∧ ∀v,P v↔Star (zdG E w I) i v∧Star (zdG E w I) v i
end
section
variable {E:Nat→Int→Nat→Prop} {w:Int} {st:Bool} {I P Q:Nat→Prop}
theorem step_mono (h: ∀v,Q v→P v) {a b:Nat} (x:Star (zdG E w Q) a b):Star (zdG E w P) a b:=by
 induction x with
 |refl=>exact .refl _
 |tail _ r ih=>obtain⟨x,h1,h2,h3⟩:=r;exact ih.tail ⟨x,h1,h2,h _ h3⟩
theorem star_in {a b:Nat} (x:Star (zdG E w P) a b) (ha:P a):P b:=x.keep (P:=P) (fun _ _ _ r=>by obtain⟨_,_,_,h⟩:=r;exact h) ha
theorem Part.sub (h:Part E w I P) {v:Nat} (hv:P v):I v:=by
 obtain⟨i,h1,h2⟩:=h
 exact star_in ((h2 v).1 hv).1 h1
theorem Core.part (hQ:Core E w st Q) (h:Part E w I P) (hI: ∀u,Q u→I u) {v:Nat} (hv:Q v) (hp:P v) {u:Nat} (hu:Q u):P u:=by
 obtain⟨i,h1,h2⟩:=h
 obtain⟨h3,h4⟩:=(h2 v).1 hp
 exact(h2 u).2 ⟨h3.trans (step_mono hI (hQ.con v u hv hu)),(step_mono hI (hQ.con u v hu hv)).trans h4⟩
theorem Part.con (h:Part E w I P) {a b:Nat} (ha:P a) (hb:P b):Star (zdG E w P) a b:=by
 obtain⟨i,h1,h2⟩:=h
 obtain⟨a1,a2⟩:=(h2 a).1 ha
 obtain⟨b1,b2⟩:=(h2 b).1 hb
 have main: ∀c,Star (zdG E w I) a c→Star (zdG E w I) c b→Star (zdG E w P) a c:=by
  intro c hc
  induction hc with
  |refl=>intro _;exact .refl _
  | @tail c d hc r ih=>
    intro hd
    obtain⟨x,r1,r2,r3⟩:=r
    have hcd:Star (zdG E w I) c d:=Star.one ⟨x,r1,r2,r3⟩
    refine(ih (hcd.trans hd)).tail ⟨x,r1,r2,(h2 _).2 ⟨a1.trans (hc.trans hcd),hd.trans b2⟩⟩
 exact main b (a2.trans b1) (.refl _)
theorem Core.rest (hQ:Core E w st Q) (h: ∀u,Q u→P u) {v:Nat} (hv:Q v):Rest E w st P v:=by
 refine⟨h v hv,fun⟨x,b,h1,h2⟩=> ?_⟩
 rcases h2 with⟨rfl,h3⟩| ⟨h3,h4⟩
 ·rcases hQ.op with⟨h5,_⟩| ⟨_,h5⟩
  ·rw[h3] at h5;cases h5
  ·exact h5 ⟨v,b,h1,hv⟩
 ·obtain⟨c,d,h5,h6,h7⟩:=hQ.fair x h3 ⟨v,b,h1,hv⟩
  exact h4 ⟨c,d,h5,h _ h6,h _ h7⟩
theorem zg0 (h:Part E w I P) (hn: ∃x,x≠w∧Ins E P x) (hb: ∀v,P v→ ¬Bad E w st P v) (ho:st=true→Opn E P w):Core E w st P:=by
 refine⟨hn,fun a b ha hb=>h.con ha hb,fun x hx ⟨a,b,h1,h2⟩=> ?_,?_⟩
 ·exact Classical.byContradiction fun hc=>hb a h2 ⟨x,b,h1,.inr ⟨hx,hc⟩⟩
 ·cases st with
  |true=>exact .inl ⟨rfl,ho rfl⟩
  |false=>exact .inr ⟨rfl,fun⟨a,b,h1,h2⟩=>hb a h2 ⟨w,b,h1,.inl ⟨rfl,rfl⟩⟩⟩
theorem Core.closed (hQ:Core E w st Q) {T:Nat→Prop} (hT: ∀a x b,T a→E a x b→x≠w→T b) {v u:Nat} (hv:Q v) (ht:T v) (hu:Q u):T u:=
 (hQ.con v u hv hu).keep (P:=T) (fun a b ha ⟨x,h1,h2,_⟩=>hT a x b ha h1 h2) ht
theorem Core.some (hQ:Core E w st Q): ∃v,Q v:=by
 obtain⟨x,_,a,b,_,h,_⟩:=hQ.ne
 exact⟨a,h⟩
def RgIn (E:Nat→Int→Nat→Prop) (w:Int) (st:Bool) (I:Nat→Prop) (v:Nat):Prop:= ∃Q,Core E w st Q∧(∀u,Q u→I u)∧Q v
theorem rg_empty (h:Part E w I P) (hn: ¬ ∃x,x≠w∧Ins E P x) {v:Nat} (hv:P v): ¬RgIn E w st I v:=by
 rintro⟨Q,h1,h2,h3⟩
 obtain⟨x,hx,a,b,q1,q2,q3⟩:=h1.ne
 exact hn ⟨x,hx,a,b,q1,h1.part h h2 h3 hv q2,h1.part h h2 h3 hv q3⟩
theorem rg_rest (h:Part E w I P) {v:Nat} (hv:P v):RgIn E w st I v↔RgIn E w st (Rest E w st P) v:=by
 constructor
 ·rintro⟨Q,h1,h2,h3⟩
  exact⟨Q,h1,fun u hu=>h1.rest (fun u hu=>h1.part h h2 h3 hv hu) hu,h3⟩
 ·rintro⟨Q,h1,h2,h3⟩
  exact⟨Q,h1,fun u hu=>h.sub (h2 u hu).1,h3⟩
theorem rg_none (h:Part E w I P) (hs:st=true) (ho: ¬Opn E P w) {v:Nat} (hv:P v): ¬RgIn E w st I v:=by
 rintro⟨Q,h1,h2,h3⟩
 rcases h1.op with⟨_,a,b,q1,q2⟩| ⟨q,_⟩
 ·exact ho ⟨a,b,q1,h1.part h h2 h3 hv q2⟩
 ·rw[hs] at q;cases q
theorem rg_self (h:Part E w I P) (hP:Core E w st P) {v:Nat} (hv:P v):RgIn E w st I v:=⟨P,hP,fun u hu=>h.sub hu,hv⟩
end
end Go.Ideal.S
namespace Go.Ideal.S
open Go Go.Ideal Q Classical
attribute [local simp] decide_eq_true decide_eq_false zM
attribute [local simp] c_L f_L r_L_2 r_7 c_7 f_7 r_7_1 r_7_2 c_2 f_2 r_2_1 c_u f_u r_u_1 r_u_2 r_u_3 r_u_4 r_u_5 r_u_6 r_u_7 r_u_8 r_u_9 r_u_11
variable {M:VM} {k kp:DV→VM→Prop} {n0:Nat}
def EG (g:Gr) (a:Nat) (x:Int) (b:Nat):Prop:= ∃e∈g.es,e.f=(a:Int)∧e.a=x∧e.t=(b:Int)
theorem EG_of {g:Gr} (hg:zbm g) {e:Edge} (he:e∈g.es):EG g e.f.toNat e.a e.t.toNat:=by
 have h:=hg.ok e he
 have:=h.f0;have:=h.t0
 exact⟨e,he,by omega,rfl,by omega⟩
theorem RF_step {g:Gr} {p:Nat→Bool} {w:Int} {a b:Nat}:RF g p w a b↔zdG (EG g) w (fun v=>p v=true) a b:=by
 constructor
 ·rintro⟨e,h1,h2,h3,h4,h5⟩;exact⟨e.a,⟨e,h1,h2,rfl,h3⟩,h4,h5⟩
 ·rintro⟨x,⟨e,h1,h2,rfl,h3⟩,h4,h5⟩;exact⟨e,h1,h2,h3,h4,h5⟩
def insB (g:Gr) (p:Nat→Bool) (a w:Int):Bool:=g.es.any fun e=>p e.f.toNat&&(p e.t.toNat&&(decide (e.a≠w)&&(decide (a<0)||decide (e.a=a))))
def opnB (g:Gr) (p:Nat→Bool) (a:Int):Bool:=g.es.any fun e=>p e.f.toNat&&decide (e.a=a)
theorem zfy {g:Gr} (hg:zbm g) {p:Nat→Bool} {a:Int}:opnB g p a=true↔Opn (EG g) (fun v=>p v=true) a:=by
 unfold opnB
 simp only[List.any_eq_true,Bool.and_eq_true,decide_eq_true_eq]
 constructor
 ·rintro⟨e,h1,h2,rfl⟩;exact⟨_,_,EG_of hg h1,h2⟩
 ·rintro⟨x,y,⟨e,h1,h2,h3,h4⟩,h5⟩;exact⟨e,h1,by rw[h2];exact h5,h3⟩
theorem insB_iff {g:Gr} (hg:zbm g) {p:Nat→Bool} {a w:Int} (h0:0≤a) (hw:a≠w):insB g p a w=true↔Ins (EG g) (fun v=>p v=true) a:=by
 unfold insB
 simp only[List.any_eq_true,Bool.and_eq_true,Bool.or_eq_true,decide_eq_true_eq]
 constructor
 ·rintro⟨e,h1,h2,h3,h4,h5⟩
  rcases h5 with h5|rfl
  ·omega
  ·exact⟨_,_,EG_of hg h1,h2,h3⟩
 ·rintro⟨x,y,⟨e,h1,h2,h3,h4⟩,h5,h6⟩;exact⟨e,h1,by rw[h2];exact h5,by rw[h4];exact h6,by rw[h3];exact hw,.inr h3⟩
theorem ziu {g:Gr} (hg:zbm g) {p:Nat→Bool} {w:Int}:insB g p (-1) w=true↔ ∃x,x≠w∧Ins (EG g) (fun v=>p v=true) x:=by
 unfold insB
 simp only[List.any_eq_true,Bool.and_eq_true,Bool.or_eq_true,decide_eq_true_eq]
 constructor
 ·rintro⟨e,h1,h2,h3,h4,_⟩;exact⟨e.a,h4,_,_,EG_of hg h1,h2,h3⟩
 ·rintro⟨z,hz,x,y,⟨e,h1,h2,h3,h4⟩,h5,h6⟩;exact⟨e,h1,by rw[h2];exact h5,by rw[h4];exact h6,by rw[h3];exact hz,.inl (by decide)⟩
theorem zlW {g:Gr} (hg:zbm g) (m:Nat) (a w:Int) (hm:m<2^64) (hk:k (.bool (insB g m.testBit a w)) M):zq F (.fn n_L [] []) [.agg (eGr g),setD m,I a,I w] M k kp:=by
 have hl:g.es.length≤1000000:=by have:=hg.el;omega
 have g2:=hg.s2
 apply zq.back
 refine .fn zgT rfl (by simp[f_L]) ?_
 simp(disch:=((try simp only[zc,ze,zf]);omega)) [eGr]
 refine zh1 g.es _ (fun e=>m.testBit e.f.toNat&&(m.testBit e.t.toNat&&(decide (e.a≠w)&&(decide (a<0)||decide (e.a=a))))) hl (fun x hx {k kp} hk=> ?_) ?_
 ·have he:=hg.ok x hx
  have a0:=he.f0;have a1:=he.f1;have a2:=he.t0;have a3:=he.t1
  obtain⟨c,hc⟩:=Int.eq_ofNat_of_zero_le a0
  obtain⟨d,hd⟩:=Int.eq_ofNat_of_zero_le a2
  rw[hc,hd,Int.toNat_natCast,Int.toNat_natCast] at hk
  apply zq.back
  refine .fn zfG rfl (by simp[f_7]) ?_
  simp[zF,hc,hd]
  refine zdw m c hm (by omega) ?_
  cases hb:m.testBit c with
  |false=>
   rw[hb] at hk
   simp[zF,hc,hd]
   exact Back.plain (by simp) (by repeat' (first|assumption|exact zg _ _|apply zk|apply zl|apply zm| ((try simp only[zc,ze,zf]);omega))) (by simpa using hk)
  |true=>
   rw[hb] at hk
   simp[zF,hc,hd]
   refine zdw m d hm (by omega) ?_
   cases hb2:m.testBit d with
   |false=>
    rw[hb2] at hk
    simp[zF,hc,hd]
    exact Back.plain (by simp) (by repeat' (first|assumption|exact zg _ _|apply zk|apply zl|apply zm| ((try simp only[zc,ze,zf]);omega))) (by simpa using hk)
   |true=>
    rw[hb2] at hk
    by_cases e1:x.a=w
    ·rw[decide_eq_false (fun h=>h e1)] at hk
     simp[zF,hc,hd,e1]
     exact Back.plain (by simp) (by repeat' (first|assumption|exact zg _ _|apply zk|apply zl|apply zm| ((try simp only[zc,ze,zf]);omega))) (by simpa using hk)
    ·rw[decide_eq_true e1] at hk
     by_cases e2:a<0
     ·rw[decide_eq_true e2] at hk
      simp[zF,hc,hd,e1,e2]
      exact Back.plain (by simp) (by repeat' (first|assumption|exact zg _ _|apply zk|apply zl|apply zm| ((try simp only[zc,ze,zf]);omega))) (by simpa using hk)
     ·rw[decide_eq_false e2] at hk
      by_cases e3:x.a=a
      ·rw[decide_eq_true e3] at hk
       simp(disch:=((try simp only[zc,ze,zf]);omega)) [zF,hc,hd,e1,e2,e3]
       exact Back.plain (by simp) (by repeat' (first|assumption|exact zg _ _|apply zk|apply zl|apply zm| ((try simp only[zc,ze,zf]);omega))) (by simpa using hk)
      ·rw[decide_eq_false e3] at hk
       simp[zF,hc,hd,e1,e2,e3]
       exact Back.plain (by simp) (by repeat' (first|assumption|exact zg _ _|apply zk|apply zl|apply zm| ((try simp only[zc,ze,zf]);omega))) (by simpa using hk)
 unfold insB at hk
 generalize (g.es.any _)=b at*
 simp
 exact Back.plain (by simp) (by repeat' (first|assumption|exact zg _ _|apply zk|apply zl|apply zm| ((try simp only[zc,ze,zf]);omega))) hk
def clr (m n:Nat):Nat:=(BitVec.ofNat 64 m &&& ~~~(BitVec.ofNat 64 (2^n))).toNat
theorem clr_lt (m n:Nat):clr m n<2^64:=BitVec.isLt _
theorem clr_bit {m n:Nat} (hm:m<2^64) (hn:n<64) (v:Nat):(clr m n).testBit v=true↔m.testBit v=true∧v≠n:=by
 unfold clr
 rw[BitVec.testBit_toNat,BitVec.getLsbD_and,BitVec.getLsbD_not,BitVec.getLsbD_ofNat,BitVec.getLsbD_ofNat,Nat.testBit_two_pow]
 by_cases h:v<64
 ·simp[h];intro _;exact⟨fun h e=>h e.symm,fun h e=>h e.symm⟩
 ·have:m.testBit v=false:=Nat.testBit_lt_two_pow (Nat.lt_of_lt_of_le hm (Nat.pow_le_pow_right (by omega) (by omega)))
  simp[h,this]
theorem bin_andNot_u {ek:EK} {m n:Nat}:binD .andNot ek (.int .u64 (m:Int)) (.int .u64 ((2^n:Nat):Int))=some (.int .u64 ((clr m n:Nat):Int)):=by
 show some (DV.int .u64 (IntKind.u64.wrap (((BitVec.ofInt 64 (m:Int) &&& ~~~(BitVec.ofInt 64 ((2^n:Nat):Int))).toNat:Nat):Int)))=_
 rw[BitVec.ofInt_natCast,BitVec.ofInt_natCast]
 have:=clr_lt m n
 unfold clr at*
 rw[wrapU (by omega) (by omega)]
theorem drop_ok (m n j:Nat) (hm:m<2^64) (hn:n<64) (ho:M.obj j=some (setO m)) (hk:k (.tup []) (M.put j (setO (clr m n)))):zq F (.fn n_2 [] []) [.ptr j 0 0,I n] M k kp:=by
 refine .fn zjE rfl (by simp[f_2]) ?_
 have h1:=zj1 (ek:=.other) (n:=(n:Int)) (by omega) (by omega)
 have h2:=zj0 (ek:=.other) (n:=(n:Int)) (by omega) (by omega)
 have h3:=bin_shl_u (ek:=.other) n hn
 have h4:=bin_andNot_u (ek:=.other) (m:=m) (n:=n)
 generalize clr m n=q2 at*
 generalize 2^n=q1 at*
 simp[h1,h2,h3,h4,ho]
 exact hk
end Go.Ideal.S
namespace Go.Ideal.S
open Go Go.Ideal Q Classical
attribute [local simp] decide_eq_true decide_eq_false zM
attribute [local simp] c_u f_u r_u_1 r_u_2 r_u_3 r_u_4 r_u_5 r_u_6 r_u_7 r_u_8 r_u_9 r_u_11 c_p f_p r_p_1 r_p_2 r_p_3 r_p_4 r_p_5 r_p_6 r_p_7 r_p_9 c_g f_g r_g_1 r_g_2 r_g_3 r_g_4 r_g_5 r_g_6 r_g_7 r_g_8 r_g_9 r_g_10 r_g_11 r_g_13
variable {M:VM} {k kp:DV→VM→Prop} {n0:Nat}
def badE (g:Gr) (p:Nat→Bool) (w:Int) (st:Bool) (e:Edge):Bool:=p e.f.toNat&&(if e.a=w then !st else !insB g p e.a w)
def zdJ (g:Gr) (p:Nat→Bool) (w:Int) (st:Bool) (i:Nat) (v:Nat):Bool:=p v&& !((g.es.take i).any fun e=>decide (e.f.toNat=v)&&badE g p w st e)
theorem zkP {g:Gr} {p:Nat→Bool} {w:Int} {st:Bool} (v:Nat):zdJ g p w st 0 v=p v:=by simp[zdJ]
theorem zfx {g:Gr} {p:Nat→Bool} {w:Int} {st:Bool} {i:Nat} (hi:i<g.es.length) (v:Nat):zdJ g p w st (i+1) v=(zdJ g p w st i v&& !(decide (g.es[i].f.toNat=v)&&badE g p w st g.es[i])):=by
 unfold zdJ
 rw[List.take_succ_eq_append_getElem hi,List.any_append,List.any_cons,List.any_nil,Bool.or_false,Bool.not_or,Bool.and_assoc]
def zhl (g:Gr) (p:Nat→Bool) (w:Int) (st:Bool) (i:Nat):Bool:= !((g.es.take i).any (badE g p w st))
theorem zkL {g:Gr} {p:Nat→Bool} {w:Int} {st:Bool} {i:Nat} (hi:i<g.es.length):zhl g p w st (i+1)=(zhl g p w st i&& !badE g p w st g.es[i]):=by
 unfold zhl
 rw[List.take_succ_eq_append_getElem hi,List.any_append,List.any_cons,List.any_nil,Bool.or_false,Bool.not_or]
theorem zj2 {g:Gr} (hg:zbm g) {p:Nat→Bool} {w:Int} {st:Bool} {v:Nat}:(∃e∈g.es,e.f.toNat=v∧badE g p w st e=true)↔p v=true∧Bad (EG g) w st (fun v=>p v=true) v:=by
 constructor
 ·rintro⟨e,h1,rfl,h3⟩
  unfold badE at h3
  rw[Bool.and_eq_true] at h3
  have h:=hg.ok e h1
  refine⟨h3.1,e.a,e.t.toNat,EG_of hg h1,?_⟩
  by_cases c:e.a=w
  ·rw[if_pos c] at h3;exact .inl ⟨c,by simpa using h3.2⟩
  ·rw[if_neg c] at h3
   refine .inr ⟨c,fun hx=> ?_⟩
   rw[(insB_iff hg h.a0 c).2 hx] at h3;simp at h3
 ·rintro⟨hp,x,b,⟨e,h1,h2,rfl,h3⟩,h4⟩
  have h:=hg.ok e h1
  have hv:e.f.toNat=v:=by omega
  refine⟨e,h1,hv,?_⟩
  unfold badE
  rw[hv,hp,Bool.true_and]
  rcases h4 with⟨c,hs⟩| ⟨c,hn⟩
  ·rw[if_pos c,hs];rfl
  ·rw[if_neg c,Bool.not_eq_true']
   cases hh:insB g p e.a w with
   |false=>rfl
   |true=>exact absurd ((insB_iff hg h.a0 c).1 hh) hn
theorem zdR {g:Gr} (hg:zbm g) {p:Nat→Bool} {w:Int} {st:Bool} {v:Nat}:zdJ g p w st g.es.length v=true↔Rest (EG g) w st (fun v=>p v=true) v:=by
 unfold zdJ Rest
 rw[List.take_length,Bool.and_eq_true,Bool.not_eq_true',Bool.eq_false_iff,Ne,List.any_eq_true]
 simp only[Bool.and_eq_true,decide_eq_true_eq]
 constructor
 ·rintro⟨h1,h2⟩
  exact⟨h1,fun hb=>h2 ((zj2 hg).2 ⟨h1,hb⟩)⟩
 ·rintro⟨h1,h2⟩
  exact⟨h1,fun hb=>h2 ((zj2 hg).1 hb).2⟩
theorem sameI_iff {g:Gr} (hg:zbm g) {p:Nat→Bool} {w:Int} {st:Bool}:zhl g p w st g.es.length=true↔ ∀v,p v=true→ ¬Bad (EG g) w st (fun v=>p v=true) v:=by
 unfold zhl
 rw[List.take_length,Bool.not_eq_true',Bool.eq_false_iff,Ne,List.any_eq_true]
 constructor
 ·intro h v hp hb
  obtain⟨e,h1,h2,h3⟩:=(zj2 hg).2 ⟨hp,hb⟩
  exact h ⟨e,h1,h3⟩
 ·rintro h ⟨e,h1,h3⟩
  obtain⟨a,b⟩:=(zj2 hg (v:=e.f.toNat)).1 ⟨e,h1,rfl,h3⟩
  exact h _ a b
theorem jgood_ok {g:Gr} (hg:zbm g) (m:Nat) (w:Int) (st:Bool) (hm:m<2^64) (hk: ∀m',m'<2^64→(∀v,m'.testBit v=zdJ g m.testBit w st g.es.length v)→k (setD m') M):zq F (.fn n_u [] []) [.agg (eGr g),setD m,I w,.bool st] M k kp:=by
 have hl:g.es.length≤1000000:=by have:=hg.el;omega
 have g2:=hg.s2
 apply zq.back
 refine .fn zig rfl (by simp[f_u]) ?_
 simp(disch:=((try simp only[zc,ze,zf]);omega)) [eGr]
 refine zbR.gen (Q:=fun y=>SM M.next M y∧M.next+4≤y.next∧y.obj M.next=some (grO g)∧y.obj (M.next+1)=some (setO m)∧y.obj (M.next+2)=some (setO 0)∧y.obj (M.next+3)=some (setO m)) ⟨(by repeat' (first|assumption|exact zg _ _|apply zk|apply zl|apply zm| ((try simp only[zc,ze,zf]);omega))),by simp<;>omega,?_,?_,?_,?_⟩ fun y0 hy0=> ?_
 iterate 4 exact by simp(disch:=((try simp only[zc,ze]);omega))
 refine .for (σ:=VM×Nat) c_u_10.eq_1 (fun i _=>[(17,I i)]) (fun x=>x.1) (fun i x=>SM M.next M x.1∧M.next+4≤x.1.next∧x.1.obj M.next=some (grO g)∧x.1.obj (M.next+1)=some (setO m)∧x.1.obj (M.next+2)=some (setO 0)∧x.1.obj (M.next+3)=some (setO x.2)∧x.2<2^64∧ ∀v,x.2.testBit v=zdJ g m.testBit w st i v) g.es.length (y0,m) (by simp) rfl
  ⟨hy0.1,hy0.2.1,hy0.2.2.1,hy0.2.2.2.1,hy0.2.2.2.2.1,hy0.2.2.2.2.2,hm,fun v=>(zkP v).symm⟩ (fun i x hi hP again=> ?_) (fun x hP=> ?_)
 ·obtain⟨y,m'⟩:=x
  obtain⟨h1,h2,h3,h4,h5,h6,h7,h8⟩:=hP
  dsimp only at*
  simp at again
  have he:=hg.ok _ (List.getElem_mem hi)
  have a0:=he.f0;have a1:=he.f1;have a2:=he.t0;have a3:=he.t1;have a4:=he.a0
  obtain⟨fn,hf⟩:=Int.eq_ofNat_of_zero_le a0
  have hfn:g.es[i].f.toNat=fn:=by omega
  have r0:SM y.next y ((y.new (.rows false 3 [[I 0,I 0,I 0]])).put y.next (.rows false 3 [[I fn,I g.es[i].a,I g.es[i].t]])):=(by repeat' (first|assumption|exact zg _ _|apply zk|apply zl|apply zm| ((try simp only[zc,ze,zf]);omega)))
  have r1:((y.new (.rows false 3 [[I 0,I 0,I 0]])).put y.next (.rows false 3 [[I fn,I g.es[i].a,I g.es[i].t]])).obj y.next=some (.rows false 3 [[I fn,I g.es[i].a,I g.es[i].t]]):=by simp
  have r2:y.next≤((y.new (.rows false 3 [[I 0,I 0,I 0]])).put y.next (.rows false 3 [[I fn,I g.es[i].a,I g.es[i].t]])).next:=by simp;omega
  simp(disch:=((try simp only[zc,ze,zf]);omega)) [zF,hi,hf,h4]
  generalize (y.new (.rows false 3 [[I 0,I 0,I 0]])).put y.next (.rows false 3 [[I fn,I g.es[i].a,I g.es[i].t]])=y1 at*
  have s1:SM M.next M y1:=zeE h1 (zfr r0 (by omega))
  have s3:=zR r0 (by omega) h3
  have s4:=zR r0 (by omega) h4
  have s5:=zR r0 (by omega) h5
  have s6:=zR r0 (by omega) h6
  have hstay:badE g m.testBit w st g.es[i]=false→ ∀v,m'.testBit v=zdJ g m.testBit w st (i+1) v:=fun hb v=>by
   rw[zfx hi,hb,h8];simp
  have hbe:badE g m.testBit w st g.es[i]=(m.testBit fn&&(if g.es[i].a=w then !st else !insB g m.testBit g.es[i].a w)):=by unfold badE;rw[hfn]
  refine zdw m fn hm (by omega) ?_
  cases hb:m.testBit fn with
  |false=>
   rw[hb,Bool.false_and] at hbe
   simp(disch:=((try simp only[zc,ze,zf]);omega)) [hb]
   exact again y1 m' s1 (by omega) s3 s4 s5 s6 h7 (hstay hbe)
  |true=>
   rw[hb,Bool.true_and] at hbe
   have hdrop:badE g m.testBit w st g.es[i]=true→ ∀v,(clr m' fn).testBit v=zdJ g m.testBit w st (i+1) v:=fun hb v=>by
    rw[zfx hi,hb,←h8,hfn,Bool.and_true,Bool.eq_iff_iff,clr_bit h7 (by omega)]
    simp;intro _;exact⟨fun h e=>h e.symm,fun h e=>h e.symm⟩
   by_cases c:g.es[i].a=w
   ·rw[if_pos c] at hbe
    cases st with
    |true=>
     simp(disch:=((try simp only[zc,ze,zf]);omega)) [hb,r1,c]
     exact again y1 m' s1 (by omega) s3 s4 s5 s6 h7 (hstay hbe)
    |false=>
     simp[hb,r1,c]
     refine drop_ok m' fn _ h7 (by omega) s6 ?_
     simp(disch:=((try simp only[zc,ze,zf]);omega))
     exact again _ _ (zk s1 (by omega)) (by simp;omega) (by simp(disch:=omega) [s3]) (by simp(disch:=omega) [s4]) (by simp(disch:=omega) [s5]) (by simp) (clr_lt _ _) (hdrop hbe)
   ·rw[if_neg c] at hbe
    simp[hb,r1,c,s3,s4]
    refine zlW hg m g.es[i].a w hm ?_
    cases hin:insB g m.testBit g.es[i].a w with
    |true=>
     rw[hin] at hbe
     simp(disch:=((try simp only[zc,ze,zf]);omega)) [hin]
     exact again y1 m' s1 (by omega) s3 s4 s5 s6 h7 (hstay hbe)
    |false=>
     rw[hin] at hbe
     simp[hin,r1]
     refine drop_ok m' fn _ h7 (by omega) s6 ?_
     simp(disch:=((try simp only[zc,ze,zf]);omega))
     exact again _ _ (zk s1 (by omega)) (by simp;omega) (by simp(disch:=omega) [s3]) (by simp(disch:=omega) [s4]) (by simp(disch:=omega) [s5]) (by simp) (clr_lt _ _) (hdrop hbe)
 ·obtain⟨y,m'⟩:=x
  obtain⟨h1,h2,h3,h4,h5,h6,h7,h8⟩:=hP
  dsimp only at*
  simp[h6,h5]
  exact Back.plain (by simp) (zk h1 (by omega)) (hk m' h7 h8)
end Go.Ideal.S
namespace Go.Ideal.S
open Go Go.Ideal Q Classical
attribute [local simp] decide_eq_true decide_eq_false zM
attribute [local simp] c_p f_p r_p_1 r_p_2 r_p_3 r_p_4 r_p_5 r_p_6 r_p_7 r_p_9 c_g f_g r_g_1 r_g_2 r_g_3 r_g_4 r_g_5 r_g_6 r_g_7 r_g_8 r_g_9 r_g_10 r_g_11 r_g_13
variable {M:VM} {k kp:DV→VM→Prop} {n0:Nat}
theorem zkO {g:Gr} (hg:zbm g) {N:Nat} (hN:g.st=N) (p:Nat→Bool) (a w:Int) (hk:k (.bool (insB g p a w)) M):zq F (.fn n_p [] []) [.agg (eGr g),.lst 1 (B1 p N),I a,I w] M k kp:=by
 have hl:g.es.length≤1000000:=by have:=hg.el;omega
 have g2:=hg.s2
 apply zq.back
 refine .fn zeO rfl (by simp[f_p]) ?_
 simp[eGr]
 have h0: ∀i,insB g p a w=((g.es.take i).any (fun e=>p e.f.toNat&&(p e.t.toNat&&(decide (e.a≠w)&&(decide (a<0)||decide (e.a=a)))))||(g.es.drop i).any (fun e=>p e.f.toNat&&(p e.t.toNat&&(decide (e.a≠w)&&(decide (a<0)||decide (e.a=a)))))):=fun i=>by
  rw[←List.any_append,List.take_append_drop];rfl
 refine .for (σ:=VM) c_p_8.eq_1 (fun i _=>[(9,I i)]) (fun y=>y) (fun i y=>SM M.next M y∧M.next<y.next∧y.obj M.next=some (grO g)∧(g.es.take i).any (fun e=>p e.f.toNat&&(p e.t.toNat&&(decide (e.a≠w)&&(decide (a<0)||decide (e.a=a)))))=false) g.es.length _ (by simp) rfl ⟨(by repeat' (first|assumption|exact zg _ _|apply zk|apply zl|apply zm| ((try simp only[zc,ze,zf]);omega))),by simp,by simp,by simp⟩ (fun i y hi hP again=> ?_) (fun y hP=> ?_)
 ·obtain⟨h1,h2,h3,h4⟩:=hP
  have he:=hg.ok _ (List.getElem_mem hi)
  have a0:=he.f0;have a1:=he.f1;have a2:=he.t0;have a3:=he.t1
  obtain⟨c,hc⟩:=Int.eq_ofNat_of_zero_le a0
  obtain⟨d,hd⟩:=Int.eq_ofNat_of_zero_le a2
  have hcN:c<N:=by omega
  have hdN:d<N:=by omega
  have b1:=zcn (f:=p) hcN
  have b2:=zcn (f:=p) hdN
  have hq:(p g.es[i].f.toNat&&(p g.es[i].t.toNat&&(decide (g.es[i].a≠w)&&(decide (a<0)||decide (g.es[i].a=a)))))=(p c&&(p d&&(decide (g.es[i].a≠w)&&(decide (a<0)||decide (g.es[i].a=a))))):=by simp[hc,hd]
  have hyes:(p c&&(p d&&(decide (g.es[i].a≠w)&&(decide (a<0)||decide (g.es[i].a=a)))))=true→insB g p a w=true:=fun hh=>by
   rw[h0 (i+1),List.take_succ_eq_append_getElem hi,List.any_append,List.any_cons,hq,hh];simp
  have hno:(p c&&(p d&&(decide (g.es[i].a≠w)&&(decide (a<0)||decide (g.es[i].a=a)))))=false→(g.es.take (i+1)).any (fun e=>p e.f.toNat&&(p e.t.toNat&&(decide (e.a≠w)&&(decide (a<0)||decide (e.a=a)))))=false:=fun hh=>by
   rw[List.take_succ_eq_append_getElem hi,List.any_append,h4,List.any_cons,hq,hh];rfl
  simp at again
  have s2:SM y.next y ((y.new (.rows false 3 [[I 0,I 0,I 0]])).put y.next (.rows false 3 [[I c,I g.es[i].a,I d]])):=(by repeat' (first|assumption|exact zg _ _|apply zk|apply zl|apply zm| ((try simp only[zc,ze,zf]);omega)))
  have again:=fun hh=>again _ (zeE h1 (zfr s2 (by omega))) (by simp;omega) (zR s2 (by omega) h3) hh
  cases e1:p c with
  |false=>
   clear hyes
   rw[e1] at hno
   simp(disch:=((try simp only[zc,ze,zf]);omega)) [zF,hi,h3,hc,hd,hcN,hdN,b1,b2,e1]
   exact again (by simpa using hno rfl)
  |true=>
   cases e2:p d with
   |false=>
    clear hyes
    rw[e1,e2] at hno
    simp(disch:=((try simp only[zc,ze,zf]);omega)) [zF,hi,h3,hc,hd,hcN,hdN,b1,b2,e1,e2]
    exact again (by simpa using hno rfl)
   |true=>
    rw[e1,e2] at hno hyes
    by_cases e3:g.es[i].a=w
    ·rw[decide_eq_false (fun h=>h e3)] at hno
     clear hyes
     rw[e3] at again
     simp(disch:=((try simp only[zc,ze,zf]);omega)) [zF,hi,h3,hc,hd,hcN,hdN,b1,b2,e1,e2,e3]
     exact again (by simpa using hno rfl)
    ·rw[decide_eq_true e3] at hno hyes
     by_cases e4:a<0
     ·rw[hyes (by simp[e4])] at hk
      clear hyes hno again
      simp(disch:=((try simp only[zc,ze,zf]);omega)) [zF,hi,h3,hc,hd,hcN,hdN,b1,b2,e1,e2,e3,e4]
      exact Back.plain (by simp) (by repeat' (first|assumption|exact zg _ _|apply zk|apply zl|apply zm| ((try simp only[zc,ze,zf]);omega))) hk
     ·by_cases e5:g.es[i].a=a
      ·rw[hyes (by simp[e5])] at hk
       clear hyes hno again
       simp(disch:=((try simp only[zc,ze,zf]);omega)) [zF,hi,h3,hc,hd,hcN,hdN,b1,b2,e1,e2,e3,e4,e5]
       exact Back.plain (by simp) (by repeat' (first|assumption|exact zg _ _|apply zk|apply zl|apply zm| ((try simp only[zc,ze,zf]);omega))) hk
      ·have hno:=hno (by simp[e4,e5])
       clear hyes
       simp(disch:=((try simp only[zc,ze,zf]);omega)) [zF,hi,h3,hc,hd,hcN,hdN,b1,b2,e1,e2,e3,e4,e5]
       exact again (by simpa using hno)
 ·obtain⟨h1,h2,h3,h4⟩:=hP
  rw[h0 g.es.length,h4] at hk
  simp at hk
  simp[h3]
  exact Back.plain (by simp) h1 hk
end Go.Ideal.S
namespace Go.Ideal.S
open Go Go.Ideal Q Classical
attribute [local simp] decide_eq_true decide_eq_false zM
attribute [local simp] c_g f_g r_g_1 r_g_2 r_g_3 r_g_4 r_g_5 r_g_6 r_g_7 r_g_8 r_g_9 r_g_10 r_g_11 r_g_13
variable {M:VM} {k kp:DV→VM→Prop} {n0:Nat}
theorem B1_cell {f:Nat→Bool} {N:Nat}: ∀r∈B1 f N,∀c∈r,zL c=true:=by
 intro r hr c hc
 simp only[B1,List.mem_map] at hr
 obtain⟨v,_,rfl⟩:=hr
 obtain rfl:=List.mem_singleton.1 hc
 rfl
theorem rgood_ok {g:Gr} (hg:zbm g) {N:Nat} (hN:g.st=N) (p:Nat→Bool) (w:Int) (st:Bool) (hk:k (.tup [.lst 1 (B1 (zdJ g p w st g.es.length) N),.bool (zhl g p w st g.es.length)]) M):zq F (.fn n_g [] []) [.agg (eGr g),.lst 1 (B1 p N),I w,.bool st] M k kp:=by
 have hl:g.es.length≤1000000:=by have:=hg.el;omega
 have g2:=hg.s2
 have g1:=hg.s1
 apply zq.back
 refine .fn zfK rfl (by simp[f_g]) ?_
 simp[eGr]
 refine Rs_app (Acc.lit _ (s:=1) (rows:=[]) (by simp) (by simp)) (by rw[zg7,if_pos rfl]) (by decide) B1_cell zkh (by rw[B1_len];simp;omega) fun d' y0 hA=> ?_
 obtain⟨j,op,cap,j1,j2,rfl,j3,j4⟩: ∃j op cap,M.next+1≤j∧j<y0.next∧d'=.ms j 0 N cap∧y0.obj j=some (.rows op 1 (B1 p N))∧True:=by
  rcases hA.v with⟨h,_⟩| ⟨j,op,cap,a,b,c,d,_⟩
  ·exfalso
   have:=congrArg List.length h
   rw[List.nil_append,B1_len] at this;simp at this;omega
  ·exact⟨j,op,cap,by simpa using a,b,by rw[c,List.nil_append,B1_len],by rw[d,List.nil_append],trivial⟩
 have q1:SM M.next M y0:=zeE (show SM M.next M (M.new _) from(by repeat' (first|assumption|exact zg _ _|apply zk|apply zl|apply zm| ((try simp only[zc,ze,zf]);omega)))) (zfr hA.sm (by simp))
 have q2:y0.obj M.next=some (grO g):=zR hA.sm (by simp) (by simp)
 clear hA j4
 simp
 have hr0:B1 p N=B1 (zdJ g p w st 0) N:=zfs fun v _=>(zkP v).symm
 rw[hr0] at j3
 refine .for (σ:=VM) c_g_12.eq_1 (fun i _=>[(11,.bool (zhl g p w st i)),(12,I i)]) (fun y=>y) (fun i y=>SM M.next M y∧j<y.next∧y.obj M.next=some (grO g)∧y.obj j=some (.rows op 1 (B1 (zdJ g p w st i) N))) g.es.length _ (by simp[zhl]) rfl ⟨q1,j2,q2,j3⟩ (fun i y hi hP again=> ?_) (fun y hP=> ?_)
 ·obtain⟨h1,h2,h3,h4⟩:=hP
  have he:=hg.ok _ (List.getElem_mem hi)
  have a0:=he.f0;have a1:=he.f1;have a2:=he.t0;have a3:=he.t1;have a4:=he.a0
  obtain⟨c,hc⟩:=Int.eq_ofNat_of_zero_le a0
  have hcN:c<N:=by omega
  have b1:=zcn (f:=p) hcN
  have b2:=zcn (f:=zdJ g p w st i) hcN
  have hbe:badE g p w st g.es[i]=(p c&&(if g.es[i].a=w then !st else !insB g p g.es[i].a w)):=by unfold badE;rw[hc];rfl
  have hstay:badE g p w st g.es[i]=false→B1 (zdJ g p w st (i+1)) N=B1 (zdJ g p w st i) N∧zhl g p w st (i+1)=zhl g p w st i:=fun hb=>⟨zfs fun v _=>by rw[zfx hi,hb];simp,by rw[zkL hi,hb];simp⟩
  have hdrop:badE g p w st g.es[i]=true→B1 (zdJ g p w st (i+1)) N=B1 (up1 (zdJ g p w st i) c false) N∧zhl g p w st (i+1)=false:=fun hb=>⟨zfs fun v _=>by
   rw[zfx hi,hb,hc]
   unfold up1
   by_cases e:v=c
   ·subst e;simp
   ·rw[if_neg e];simp;intro _ h;exact absurd h.symm e,by rw[zkL hi,hb];simp⟩
  have s2:SM y.next y ((y.new (.rows false 3 [[I 0,I 0,I 0]])).put y.next (.rows false 3 [[I c,I g.es[i].a,I g.es[i].t]])):=(by repeat' (first|assumption|exact zg _ _|apply zk|apply zl|apply zm| ((try simp only[zc,ze,zf]);omega)))
  have h3':=zR s2 (by omega) h3
  have h4':=zR s2 (by omega) h4
  have n2:y.next<((y.new (.rows false 3 [[I 0,I 0,I 0]])).put y.next (.rows false 3 [[I c,I g.es[i].a,I g.es[i].t]])).next:=by simp;omega
  have o2:((y.new (.rows false 3 [[I 0,I 0,I 0]])).put y.next (.rows false 3 [[I c,I g.es[i].a,I g.es[i].t]])).obj y.next=some (.rows false 3 [[I c,I g.es[i].a,I g.es[i].t]]):=by simp
  have s1':=zeE h1 (zfr s2 (by omega))
  simp at again
  cases e1:p c with
  |false=>
   rw[e1,Bool.false_and] at hbe
   obtain⟨x1,x2⟩:=hstay hbe
   rw[x1,x2] at again
   simp(disch:=((try simp only[zc,ze,zf]);omega)) [zF,hi,h3,hc,hcN,b1,e1]
   exact again _ s1' (by simp;omega) h3' h4'
  |true=>
   rw[e1,Bool.true_and] at hbe
   by_cases e3:g.es[i].a=w
   ·rw[if_pos e3] at hbe
    cases st with
    |true=>
     obtain⟨x1,x2⟩:=hstay hbe
     rw[x1,x2] at again
     rw[e3] at s1' h3' h4'
     simp(disch:=((try simp only[zc,ze,zf]);omega)) [zF,hi,h3,hc,hcN,b1,e1,e3]
     exact again _ s1' (by simp;omega) h3' h4'
    |false=>
     obtain⟨x1,x2⟩:=hdrop hbe
     rw[x1,x2] at again
     simp(disch:=((try simp only[zc,ze,zf]);omega)) [zF,hi,h3,hc,hcN,b1,e1,e3,h4,b2]
     exact again _ (by repeat' (first|assumption|exact zg _ _|apply zk|apply zl|apply zm| ((try simp only[zc,ze,zf]);omega))) (by simp;omega) (by simp(disch:=((try simp only[zc,ze]);omega)) [h3]) (by rw[←zcL];simp)
   ·rw[if_neg e3] at hbe
    simp(disch:=((try simp only[zc,ze,zf]);omega)) [zF,hi,h3,hc,hcN,b1,e1,e3]
    generalize (y.new (.rows false 3 [[I 0,I 0,I 0]])).put y.next (.rows false 3 [[I c,I g.es[i].a,I g.es[i].t]])=y1 at*
    refine zkO hg hN p g.es[i].a w ?_
    cases hin:insB g p g.es[i].a w with
    |true=>
     rw[hin] at hbe
     obtain⟨x1,x2⟩:=hstay hbe
     rw[x1,x2] at again
     simp(disch:=((try simp only[zc,ze,zf]);omega)) [hin]
     exact again _ s1' (by omega) h3' h4'
    |false=>
     rw[hin] at hbe
     obtain⟨x1,x2⟩:=hdrop hbe
     rw[x1,x2] at again
     simp(disch:=((try simp only[zc,ze,zf]);omega)) [hin,o2,h4',b2,hcN]
     exact again _ (zk s1' (by omega)) (by simp;omega) (by simp(disch:=omega) [h3']) (by rw[←zcL];simp)
 ·obtain⟨h1,h2,h3,h4⟩:=hP
  simp[h3]
  refine Back.ms2 h4 (by rw[B1_len]) zkh (by omega) h1 zfF (by simp) hk
end Go.Ideal.S
namespace Go.Ideal.S
open Go Go.Ideal Q Classical
attribute [local simp] decide_eq_true decide_eq_false zM
attribute [local simp] c_b f_b r_b_1 r_b_2 r_b_3 r_b_4 r_b_5 r_b_6 r_b_7 r_b_8 r_b_9 r_b_10 r_b_11 r_b_13 r_b_14 r_b_15 r_b_16 r_b_17 r_b_18 r_b_19 r_b_20 r_b_21 r_b_23 r_b_25
theorem RB_back {g:Gr} {p:Nat→Bool} {w:Int} {s v:Nat} (hs:p s=true) (h:Star (RB g p w) s v):Star (RF g p w) v s:=by
 have hin: ∀{b},Star (RB g p w) s b→p b=true:=fun h=>h.keep (P:=fun v=>p v=true) (fun a b _ ⟨e,_,_,_,_,hp⟩=>hp) hs
 induction h with
 |refl=>exact .refl _
 | @tail b c h r ih=>
   obtain⟨e,h1,h2,h3,h4,h5⟩:=r
   exact(Star.one ⟨e,h1,h3,h2,h4,hin h⟩).trans ih
theorem RB_forth {g:Gr} {p:Nat→Bool} {w:Int} {s v:Nat} (hv:p v=true) (h:Star (RF g p w) v s):Star (RB g p w) s v:=by
 have hin: ∀{b},Star (RF g p w) v b→p b=true:=fun h=>h.keep (P:=fun v=>p v=true) (fun a b _ ⟨e,_,_,_,_,hp⟩=>hp) hv
 induction h with
 |refl=>exact .refl _
 | @tail b c h r ih=>
   obtain⟨e,h1,h2,h3,h4,h5⟩:=r
   exact(Star.one ⟨e,h1,h3,h2,h4,hin h⟩).trans ih
theorem RF_in {g:Gr} {p:Nat→Bool} {w:Int} {a b:Nat} (h:Star (RF g p w) a b) (ha:p a=true):p b=true:=h.keep (P:=fun v=>p v=true) (fun a b _ ⟨e,_,_,_,_,hp⟩=>hp) ha
theorem zkc {g:Gr} {p:Nat→Bool} {w:Int} {a b:Nat}:Star (RF g p w) a b↔Star (zdG (EG g) w (fun v=>p v=true)) a b:=⟨fun h=>h.imp fun a b=>RF_step.1,fun h=>h.imp fun a b=>RF_step.2⟩
def zkf (g:Gr) (p:Nat→Bool) (w:Int) (s v:Nat):Prop:=Star (RF g p w) s v∧Star (RF g p w) v s
noncomputable def zbA (g:Gr) (p:Nat→Bool) (w:Int) (s v:Nat):Bool:=decide (zkf g p w s v)
theorem zgE {g:Gr} {p:Nat→Bool} {w:Int} {s v:Nat}:zbA g p w s v=true↔zkf g p w s v:=by unfold zbA;exact decide_eq_true_iff
theorem part_is {g:Gr} {p:Nat→Bool} {w:Int} {s:Nat} (hs:p s=true):Part (EG g) w (fun v=>p v=true) (fun v=>zbA g p w s v=true):=
 ⟨s,hs,fun v=>zgE.trans ⟨fun⟨a,b⟩=>⟨zkc.1 a,zkc.1 b⟩,fun⟨a,b⟩=>⟨zkc.2 a,zkc.2 b⟩⟩⟩
theorem part_same {g:Gr} {p:Nat→Bool} {w:Int} {s t:Nat} (h:zkf g p w s t) (v:Nat):zkf g p w t v↔zkf g p w s v:=
 ⟨fun⟨a,b⟩=>⟨h.1.trans a,b.trans h.2⟩,fun⟨a,b⟩=>⟨h.2.trans a,b.trans h.1⟩⟩
variable {M:VM} {k kp:DV→VM→Prop} {n0:Nat}
theorem rpart_ok {g:Gr} (hg:zbm g) {N:Nat} (hN:g.st=N) {s:Nat} (hs:s<N) (p:Nat→Bool) (w:Int) (hp:p s=true) (hk:k (.lst 1 (B1 (zbA g p w s) N)) M):zq F (.fn n_w [] []) [.agg (eGr g),I s,.lst 1 (B1 p N),I w] M k kp:=by
 refine part_ok hg hN hs p w fun f hf=> ?_
 have:B1 f N=B1 (zbA g p w s) N:=zfs fun v hv=>by
  rw[Bool.eq_iff_iff,hf v hv,zgE]
  exact⟨fun⟨a,b⟩=>⟨a,RB_back hp b⟩,fun⟨a,b⟩=>⟨a,RB_forth (RF_in a hp) b⟩⟩
 rw[this];exact hk
def cntB (N:Nat) (p:Nat→Bool):Nat:=(List.range N).countP p
theorem cnt_rest {g:Gr} (hg:zbm g) {N:Nat} (hN:g.st=N) {p q:Nat→Bool} {w:Int} {st:Bool} (hq: ∀v,q v=true→p v=true) (h:zhl g q w st g.es.length=false):cntB N (zdJ g q w st g.es.length)<cntB N p:=by
 have: ¬ ∀v,q v=true→ ¬Bad (EG g) w st (fun v=>q v=true) v:=fun hh=>by rw[(sameI_iff hg).2 hh] at h;cases h
 obtain⟨v,hv⟩:=Classical.not_forall.1 this
 rw[Classical.not_imp,Classical.not_not] at hv
 obtain⟨e,h1,h2,h3⟩:=(zj2 hg (st:=st)).2 hv
 have ho:=hg.ok e h1
 have a0:=ho.f0;have a1:=ho.f1
 refine cnt_lt (t:=v) (fun x hx=>hq x ((zdR hg).1 hx).1) (List.mem_range.2 (by omega)) (hq v hv.1) ?_
 cases hh:zdJ g q w st g.es.length v with
 |false=>rfl
 |true=>exact absurd hv.2 ((zdR hg).1 hh).2
theorem on_B1 {f:Nat→Bool} {N c:Nat}:On ((List.range N).map f) (c:Int)↔c<N∧f c=true:=by
 unfold On
 rw[Int.toNat_natCast,List.getElem?_map]
 by_cases h:c<N
 ·rw[List.getElem?_range h];simp[h]
 ·rw[List.getElem?_eq_none (by simp;omega)];simp[h]
theorem ropen_ok {g:Gr} (hg:zbm g) {N:Nat} (hN:g.st=N) (p:Nat→Bool) (a:Int) (hk:k (.bool (opnB g p a)) M):zq F (.fn n_D [] []) [.agg (eGr g),.lst 1 (B1 p N),I a] M k kp:=by
 have hl:g.es.length≤1000000:=by have:=hg.el;omega
 have e:B1 p N=((List.range N).map p).map eB:=by unfold B1;rw[List.map_map];rfl
 rw[e]
 refine open_ok g ((List.range N).map p) a hl (fun e he=> ?_) ?_
 ·have h:=hg.ok e he
  have:=h.f0;have:=h.f1
  simp;omega
 ·have:decide (OpenB g.es ((List.range N).map p) a)=opnB g p a:=by
   rw[Bool.eq_iff_iff,decide_eq_true_iff]
   unfold OpenB opnB
   rw[List.any_eq_true]
   constructor
   ·rintro⟨e,h1,h2,h3⟩
    obtain⟨c,hc⟩:=Int.eq_ofNat_of_zero_le (hg.ok e h1).f0
    rw[hc] at h2
    exact⟨e,h1,by rw[hc,Int.toNat_natCast,(on_B1.1 h2).2];simp[h3]⟩
   ·rintro⟨e,h1,h2⟩
    obtain⟨c,hc⟩:=Int.eq_ofNat_of_zero_le (hg.ok e h1).f0
    have:=(hg.ok e h1).f1
    rw[hc,Int.toNat_natCast,Bool.and_eq_true,decide_eq_true_iff] at h2
    exact⟨e,h1,by rw[hc];exact on_B1.2 ⟨by omega,h2.1⟩,h2.2⟩
  rw[this];exact hk
end Go.Ideal.S
set_option maxHeartbeats 2000000
namespace Go.Ideal.S
open Go Go.Ideal Q Classical
attribute [local simp] decide_eq_true decide_eq_false zM
attribute [local simp] c_b f_b r_b_1 r_b_2 r_b_3 r_b_4 r_b_5 r_b_6 r_b_7 r_b_8 r_b_9 r_b_10 r_b_11 r_b_13 r_b_14 r_b_15 r_b_16 r_b_17 r_b_18 r_b_19 r_b_20 r_b_21 r_b_23 r_b_25
def orK (f q:Nat→Bool) (k v:Nat):Bool:=f v||(decide (v<k)&&q v)
theorem zdr {f q:Nat→Bool} {k N:Nat}:B1 (orK f q (k+1)) N=B1 (up1 (orK f q k) k (f k||q k)) N:=zfs fun v _=>by
 unfold up1 orK
 by_cases e:v=k
 ·subst e;simp
 ·have:(v<k+1)=(v<k):=by simp;omega
  simp[e,this]
theorem orK_at {f q:Nat→Bool} {k:Nat}:orK f q k k=f k:=by simp[orK]
theorem orK_end {f q:Nat→Bool} {N:Nat}:B1 (orK f q N) N=B1 (fun v=>f v||q v) N:=zfs fun v hv=>by simp[orK,hv]
theorem zio {f q:Nat→Bool} {N:Nat}:B1 (orK f q 0) N=B1 f N:=zfs fun v hv=>by simp[orK]
structure RrM (B y:VM) (g:Gr) (N:Nat) (f h:Nat→Bool):Prop where
 sm:SM B.next B y
 nx:B.next+3≤y.next
 o4:y.obj B.next=some (grO g)
 o9:y.obj (B.next+1)=some (.rows false 1 (B1 f N))
 o10:y.obj (B.next+2)=some (.rows false 1 (B1 h N))
theorem RrM.put9 {B y:VM} {g:Gr} {N:Nat} {f h f':Nat→Bool} (a:RrM B y g N f h) {R:List (List DV)} (e:R=B1 f' N):RrM B (y.put (B.next+1) (.rows false 1 R)) g N f' h:=
 ⟨zk a.sm (by omega),by have:=a.nx;simp;omega,by simp(disch:=omega) [a.o4],by rw[e];simp,by simp(disch:=omega) [a.o10]⟩
theorem RrM.put10 {B y:VM} {g:Gr} {N:Nat} {f h f':Nat→Bool} (a:RrM B y g N f h) {R:List (List DV)} (e:R=B1 f' N):RrM B (y.put (B.next+2) (.rows false 1 R)) g N f f':=
 ⟨zk a.sm (by omega),by have:=a.nx;simp;omega,by simp(disch:=omega) [a.o4],by simp(disch:=omega) [a.o9],by rw[e];simp⟩
variable {n0:Nat}
theorem rg_congr {E:Nat→Int→Nat→Prop} {w:Int} {st:Bool} {I J:Nat→Prop} (h: ∀u,I u↔J u) {v:Nat}:RgIn E w st I v↔RgIn E w st J v:=
 ⟨fun⟨Q,a,b,c⟩=>⟨Q,a,fun u hu=>(h u).1 (b u hu),c⟩,fun⟨Q,a,b,c⟩=>⟨Q,a,fun u hu=>(h u).2 (b u hu),c⟩⟩
theorem rg_sub {E:Nat→Int→Nat→Prop} {w:Int} {st:Bool} {I:Nat→Prop} {v:Nat} (h:RgIn E w st I v):I v:=by obtain⟨Q,_,a,b⟩:=h;exact a v b
def zdH (g:Gr) (p:Nat→Bool) (w:Int) (i v:Nat):Prop:= ∃j,j<i∧p j=true∧zkf g p w j v
theorem zdH.succ {g:Gr} {p:Nat→Bool} {w:Int} {i v:Nat}:zdH g p w (i+1) v↔zdH g p w i v∨(p i=true∧zkf g p w i v):=by
 constructor
 ·rintro⟨j,h1,h2,h3⟩
  by_cases e:j=i
  ·subst e;exact .inr ⟨h2,h3⟩
  ·exact .inl ⟨j,by omega,h2,h3⟩
 ·rintro(⟨j,h1,h2,h3⟩| ⟨h2,h3⟩)
  ·exact⟨j,by omega,h2,h3⟩
  ·exact⟨i,by omega,h2,h3⟩
theorem rrings_ok {g:Gr} (hg:zbm g) {N:Nat} (hN:g.st=N) (w:Int) (st:Bool): ∀(n:Nat) (p:Nat→Bool),cntB N p<n→ ∀{M:VM} {k kp:DV→VM→Prop},
 (∀f:Nat→Bool,(∀v,v<N→(f v=true↔RgIn (EG g) w st (fun v=>p v=true) v))→k (.lst 1 (B1 f N)) M)→zq F (.fn n_b [] []) [.agg (eGr g),.lst 1 (B1 p N),I w,.bool st] M k kp:=by
 intro n
 induction n with
 |zero=>intro p h;omega
 |succ n ih=>
 intro p hcnt M k kp hk
 have g2:=hg.s2
 have f1:N*1≤1073741824∧N≤1073741824:=by omega
 apply zq.back
 refine .fn ze6 rfl (by simp[f_b]) ?_
 simp[eGr,hN,f1]
 rw[B1_no]
 refine zbR.gen (Q:=fun y=>RrM M y g N (fun _=>false) (fun _=>false)) ⟨(by repeat' (first|assumption|exact zg _ _|apply zk|apply zl|apply zm| ((try simp only[zc,ze,zf]);omega))),by simp,by simp(disch:=((try simp only[zc,ze]);omega)) [hN],by simp(disch:=((try simp only[zc,ze]);omega)),by simp⟩ fun y0 hy0=> ?_
 refine .for (σ:=VM×(Nat→Bool)×(Nat→Bool)) c_b_24.eq_1 (fun i _=>[(11,I i)]) (fun x=>x.1) (fun i x=>RrM M x.1 g N x.2.1 x.2.2∧(∀v,v<N→(x.2.2 v=true↔zdH g p w i v))∧(∀v,v<N→(x.2.1 v=true↔RgIn (EG g) w st (fun v=>p v=true) v∧zdH g p w i v))) N (y0,fun _=>false,fun _=>false) (by simp) rfl
  ⟨hy0,fun v hv=>⟨fun h=>by simp at h,fun⟨j,h,_⟩=>by omega⟩,fun v hv=>⟨fun h=>by simp at h,fun⟨_,j,h,_⟩=>by omega⟩⟩ (fun i x hi hP again=> ?_) (fun x hP=> ?_)
 ·obtain⟨y,f,h⟩:=x
  obtain⟨h1,h2,h3⟩:=hP
  dsimp only at*
  have o4:=h1.o4
  have o9:=h1.o9
  have o10:=h1.o10
  have b1:=zcn (f:=p) hi
  have b2:=zcn (f:=h) hi
  simp at again
  cases e1:p i with
  |false=>
   simp(disch:=((try simp only[zc,ze,zf]);omega)) [o4,hN,hi,b1,e1]
   refine again y f h h1 (fun v hv=> ?_) (fun v hv=> ?_)
   ·rw[h2 v hv,zdH.succ,e1];simp
   ·rw[h3 v hv,zdH.succ,e1];simp
  |true=>
   cases e2:h i with
   |true=>
    obtain⟨j,j1,j2,j3⟩:=(h2 i hi).1 e2
    have hs: ∀v,zdH g p w (i+1) v↔zdH g p w i v:=fun v=>zdH.succ.trans ⟨fun hh=>hh.elim id fun⟨_,q⟩=>⟨j,j1,j2,(part_same j3 v).1 q⟩,.inl⟩
    simp(disch:=((try simp only[zc,ze,zf]);omega)) [o4,hN,hi,b1,e1,o10,b2,e2]
    exact again y f h h1 (fun v hv=>by rw[h2 v hv,hs]) (fun v hv=>by rw[h3 v hv,hs])
   |false=>
    simp(disch:=((try simp only[zc,ze,zf]);omega)) [o4,hN,hi,b1,e1,o10,b2,e2]
    have eg:([I (N:Int),I g.ac,.lst 3 (g.es.map zF)]:List DV)=eGr g:=by simp[eGr,hN]
    rw[eg]
    refine rpart_ok hg hN hi p w e1 ?_
    simp
    have hP0:=part_is (g:=g) (w:=w) e1
    have hpp: ∀v,zbA g p w i v=true→p v=true:=fun v hv=>hP0.sub hv
    have hA: ∀v,v<N→((h v||zbA g p w i v)=true↔zdH g p w (i+1) v):=fun v hv=>by
     rw[Bool.or_eq_true,h2 v hv,zdH.succ,zgE];simp[e1]
    have hB: ∀f':Nat→Bool,(∀v,v<N→(f' v=true↔f v=true∨(zbA g p w i v=true∧RgIn (EG g) w st (fun v=>p v=true) v)))→ ∀v,v<N→(f' v=true↔RgIn (EG g) w st (fun v=>p v=true) v∧zdH g p w (i+1) v):=fun f' b v hv=>by
     rw[b v hv,h3 v hv,zdH.succ,zgE]
     constructor
     ·rintro(⟨c1,c2⟩| ⟨c1,c2⟩)
      ·exact⟨c1,.inl c2⟩
      ·exact⟨c2,.inr ⟨e1,c1⟩⟩
     ·rintro⟨c1,c2| ⟨_,c2⟩⟩
      ·exact .inl ⟨c1,c2⟩
      ·exact .inr ⟨c2,c1⟩
    have hend:=fun y' f' (a:RrM M y' g N f' (fun v=>h v||zbA g p w i v)) b=>again y' f' _ a hA (hB f' b)
    clear again
    refine .for (σ:=VM) c_b_12.eq_1 (fun kk _=>[(13,I kk)]) (fun y=>y) (fun kk y=>RrM M y g N f (orK h (zbA g p w i) kk)) N _ (by simp) rfl ⟨h1.sm,h1.nx,o4,o9,by rw[zio];exact o10⟩ (fun kk y hi2 hP again2=> ?_) (fun y hP=> ?_)
    ·have o4:=hP.o4
     have o10:=hP.o10
     have b3:=zcn (f:=orK h (zbA g p w i) kk) hi2
     rw[orK_at] at b3
     have b4:=zcn (f:=zbA g p w i) hi2
     have hnx:=hP.nx
     simp at again2
     cases e3:h kk with
     |true=>
      simp(disch:=((try simp only[zc,ze,zf]);omega)) [o4,hN,o10,b3,hi2,e3]
      exact again2 _ (hP.put10 (by rw[zdr,←zcL,e3];rfl))
     |false=>
      simp(disch:=((try simp only[zc,ze,zf]);omega)) [o4,hN,o10,b3,hi2,e3,b4]
      exact again2 _ (hP.put10 (by rw[zdr,←zcL,e3];rfl))
    ·have h1':RrM M y g N f (fun v=>h v||zbA g p w i v):=⟨hP.sm,hP.nx,hP.o4,hP.o9,by rw[←orK_end];exact hP.o10⟩
     have o4:=h1'.o4
     simp[o4,hN]
     rw[eg]
     refine zkO hg hN (zbA g p w i) (-1) w ?_
     cases hin:insB g (zbA g p w i) (-1) w with
     |false=>
      have hn: ¬ ∃x,x≠w∧Ins (EG g) (fun v=>zbA g p w i v=true) x:=fun hh=>by rw[(ziu hg).2 hh] at hin;cases hin
      simp(disch:=((try simp only[zc,ze,zf]);omega)) [hin]
      exact hend y f h1' fun v hv=>⟨.inl,fun hh=>hh.elim id fun⟨a,b⟩=>absurd b (rg_empty hP0 hn a)⟩
     |true=>
      have hn:=(ziu hg).1 hin
      simp[hin,o4,hN]
      rw[eg]
      refine rgood_ok hg hN (zbA g p w i) w st ?_
      cases hsm:zhl g (zbA g p w i) w st g.es.length with
      |false=>
       simp[hsm,o4,hN]
       rw[eg]
       refine ih _ (by have:=cnt_rest hg hN (p:=p) hpp hsm;omega) fun q hq=> ?_
       have hq2: ∀v,v<N→(q v=true↔(zbA g p w i v=true∧RgIn (EG g) w st (fun v=>p v=true) v)):=fun v hv=>by
        rw[hq v hv,rg_congr (fun u=>zdR hg)]
        constructor
        ·intro hh
         have hr:=rg_sub hh
         exact⟨hr.1,(rg_rest hP0 hr.1).2 hh⟩
        ·rintro⟨a,b⟩;exact(rg_rest hP0 a).1 b
       simp
       refine .for (σ:=VM) c_b_22.eq_1 (fun kk _=>[(16,I kk)]) (fun y=>y) (fun kk y=>RrM M y g N (orK f (q) kk) (fun v=>h v||zbA g p w i v)) N _ (by simp) rfl ⟨h1'.sm,h1'.nx,h1'.o4,by rw[zio];exact h1'.o9,h1'.o10⟩ (fun kk y hi2 hP again2=> ?_) (fun y hP=> ?_)
       ·have o4:=hP.o4
        have o9:=hP.o9
        have b3:=zcn (f:=orK f (q) kk) hi2
        rw[orK_at] at b3
        have b4:=zcn (f:=q) hi2
        have hnx:=hP.nx
        simp at again2
        cases e3:f kk with
        |true=>
         simp(disch:=((try simp only[zc,ze,zf]);omega)) [o4,hN,o9,b3,hi2,e3]
         exact again2 _ (hP.put9 (by rw[zdr,←zcL,e3];rfl))
        |false=>
         simp(disch:=((try simp only[zc,ze,zf]);omega)) [o4,hN,o9,b3,hi2,e3,b4]
         exact again2 _ (hP.put9 (by rw[zdr,←zcL,e3];rfl))
       ·have h2':RrM M y g N (fun v=>f v||(q) v) (fun v=>h v||zbA g p w i v):=⟨hP.sm,hP.nx,hP.o4,by rw[←orK_end];exact hP.o9,hP.o10⟩
        have o4:=h2'.o4
        simp(disch:=((try simp only[zc,ze,zf]);omega)) [o4,hN]
        refine hend _ _ h2' fun v hv=> ?_
        rw[Bool.or_eq_true]
        exact or_congr Iff.rfl (hq2 v hv)
      |true=>
       have hnb:=(sameI_iff hg).1 hsm
       cases st with
       |false=>
        have hq2: ∀v,v<N→(zbA g p w i v=true↔(zbA g p w i v=true∧RgIn (EG g) w false (fun v=>p v=true) v)):=fun v hv=>⟨fun a=>⟨a,rg_self hP0 (zg0 hP0 hn hnb fun h=>by cases h) a⟩,fun a=>a.1⟩
        simp[hsm]
        refine .for (σ:=VM) c_b_22.eq_1 (fun kk _=>[(16,I kk)]) (fun y=>y) (fun kk y=>RrM M y g N (orK f (zbA g p w i) kk) (fun v=>h v||zbA g p w i v)) N _ (by simp) rfl ⟨h1'.sm,h1'.nx,h1'.o4,by rw[zio];exact h1'.o9,h1'.o10⟩ (fun kk y hi2 hP again2=> ?_) (fun y hP=> ?_)
        ·have o4:=hP.o4
         have o9:=hP.o9
         have b3:=zcn (f:=orK f (zbA g p w i) kk) hi2
         rw[orK_at] at b3
         have b4:=zcn (f:=zbA g p w i) hi2
         have hnx:=hP.nx
         simp at again2
         cases e3:f kk with
         |true=>
          simp(disch:=((try simp only[zc,ze,zf]);omega)) [o4,hN,o9,b3,hi2,e3]
          exact again2 _ (hP.put9 (by rw[zdr,←zcL,e3];rfl))
         |false=>
          simp(disch:=((try simp only[zc,ze,zf]);omega)) [o4,hN,o9,b3,hi2,e3,b4]
          exact again2 _ (hP.put9 (by rw[zdr,←zcL,e3];rfl))
        ·have h2':RrM M y g N (fun v=>f v||(zbA g p w i) v) (fun v=>h v||zbA g p w i v):=⟨hP.sm,hP.nx,hP.o4,by rw[←orK_end];exact hP.o9,hP.o10⟩
         have o4:=h2'.o4
         simp(disch:=((try simp only[zc,ze,zf]);omega)) [o4,hN]
         refine hend _ _ h2' fun v hv=> ?_
         rw[Bool.or_eq_true]
         exact or_congr Iff.rfl (hq2 v hv)
       |true=>
        simp[hsm,o4,hN]
        rw[eg]
        refine ropen_ok hg hN (zbA g p w i) w ?_
        cases hop:opnB g (zbA g p w i) w with
        |false=>
         have ho: ¬Opn (EG g) (fun v=>zbA g p w i v=true) w:=fun hh=>by rw[(zfy hg).2 hh] at hop;cases hop
         simp(disch:=((try simp only[zc,ze,zf]);omega)) [hop]
         exact hend y f h1' fun v hv=>⟨.inl,fun hh=>hh.elim id fun⟨a,b⟩=>absurd b (rg_none hP0 rfl ho a)⟩
        |true=>
         have ho:=(zfy hg).1 hop
         have hq2: ∀v,v<N→(zbA g p w i v=true↔(zbA g p w i v=true∧RgIn (EG g) w true (fun v=>p v=true) v)):=fun v hv=>⟨fun a=>⟨a,rg_self hP0 (zg0 hP0 hn hnb fun _=>ho) a⟩,fun a=>a.1⟩
         simp[hop]
         refine .for (σ:=VM) c_b_22.eq_1 (fun kk _=>[(16,I kk)]) (fun y=>y) (fun kk y=>RrM M y g N (orK f (zbA g p w i) kk) (fun v=>h v||zbA g p w i v)) N _ (by simp) rfl ⟨h1'.sm,h1'.nx,h1'.o4,by rw[zio];exact h1'.o9,h1'.o10⟩ (fun kk y hi2 hP again2=> ?_) (fun y hP=> ?_)
         ·have o4:=hP.o4
          have o9:=hP.o9
          have b3:=zcn (f:=orK f (zbA g p w i) kk) hi2
          rw[orK_at] at b3
          have b4:=zcn (f:=zbA g p w i) hi2
          have hnx:=hP.nx
          simp at again2
          cases e3:f kk with
          |true=>
           simp(disch:=((try simp only[zc,ze,zf]);omega)) [o4,hN,o9,b3,hi2,e3]
           exact again2 _ (hP.put9 (by rw[zdr,←zcL,e3];rfl))
          |false=>
           simp(disch:=((try simp only[zc,ze,zf]);omega)) [o4,hN,o9,b3,hi2,e3,b4]
           exact again2 _ (hP.put9 (by rw[zdr,←zcL,e3];rfl))
         ·have h2':RrM M y g N (fun v=>f v||(zbA g p w i) v) (fun v=>h v||zbA g p w i v):=⟨hP.sm,hP.nx,hP.o4,by rw[←orK_end];exact hP.o9,hP.o10⟩
          have o4:=h2'.o4
          simp(disch:=((try simp only[zc,ze,zf]);omega)) [o4,hN]
          refine hend _ _ h2' fun v hv=> ?_
          rw[Bool.or_eq_true]
          exact or_congr Iff.rfl (hq2 v hv)
 ·obtain⟨y,f,h⟩:=x
  obtain⟨h1,h2,h3⟩:=hP
  dsimp only at*
  have o4:=h1.o4
  simp[o4,hN]
  refine Back.ms h1.o9 (by rw[B1_len]) zkh (by omega) h1.sm zfF (hk f fun v hv=> ?_)
  rw[h3 v hv]
  refine⟨fun a=>a.1,fun a=>⟨a,v,hv,rg_sub a,.refl _,.refl _⟩⟩
end Go.Ideal.S
namespace Go.Ideal.S
open Go Go.Ideal Q Classical
attribute [local simp] decide_eq_true decide_eq_false zM
attribute [local simp] c_f f_f r_f_1 r_f_2 r_f_3 r_f_4 r_f_5 r_f_6 r_f_7 r_f_8 r_f_9 r_f_10 r_f_11 r_f_12 r_f_13 r_f_15 r_f_16 r_f_17 r_f_18 r_f_19 r_f_20 r_f_21 r_f_23
variable {n0:Nat}
theorem ziA {g:Gr} (hg:zbm g) {m:Nat} {w:Int} {a b:Nat}:Star (RIn g m w) a b↔Star (zdG (EG g) w (fun v=>m.testBit v=true)) a b:=
 ⟨fun h=>h.imp fun a b r=>RF_step.1 ((RIn_iff hg m w a b).1 r),fun h=>h.imp fun a b r=>(RIn_iff hg m w a b).2 (RF_step.2 r)⟩
theorem zjk {g:Gr} (hg:zbm g) {m N many:Nat} {w:Int} {cmp:Nat→Int} (hp:zkd g m w N cmp many) {i:Nat} (hi:m.testBit i=true) {P:Nat→Prop} (hP: ∀v,P v↔cmp v=cmp i):Part (EG g) w (fun v=>m.testBit v=true) P:=by
 refine⟨i,hi,fun v=>(hP v).trans ⟨fun e=> ?_,fun⟨a,b⟩=> ?_⟩⟩
 ·have hv:m.testBit v=true:=by
   cases h:m.testBit v with
   |true=>rfl
   |false=>have:=hp.out v h;have:=(hp.ins i hi).1;omega
  obtain⟨a,b⟩:=(hp.eq i v hi hv).1 e.symm
  exact⟨(ziA hg).1 a,(ziA hg).1 b⟩
 ·have hv:m.testBit v=true:=star_in a hi
  exact((hp.eq i v hi hv).2 ⟨(ziA hg).2 a,(ziA hg).2 b⟩).symm
def eU (x:Nat):List DV:=[.int .u64 (x:Int)]
theorem c_U: ∀a,∀c∈eU a,zL c=true:=by simp[eU]
theorem l_U: ∀a,(eU a).length=1:=by simp[eU]
theorem b_U {n:Nat}: ∀a,∀d∈eU a,zH n d:=by simp[eU]
structure JrP (g:Gr) (w:Int) (st:Bool) (N m:Nat) (cmp:Nat→Int) (k:Nat) (L:List Nat):Prop where
 snd: ∀x∈L,x<2^64∧Core (EG g) w st (fun v=>x.testBit v=true)∧ ∀u,x.testBit u=true→m.testBit u=true
 all: ∀Q,Core (EG g) w st Q→(∀u,Q u→m.testBit u=true)→ ∀v,Q v→cmp v<k→ ∃x∈L,∀u,Q u→x.testBit u=true
 len:L.length≤cntB N fun v=>m.testBit v&&decide (cmp v<k)
theorem JrP.next {g:Gr} (hg:zbm g) {w:Int} {st:Bool} {N m many:Nat} {cmp:Nat→Int} {k:Nat} {L L2:List Nat} (h:JrP g w st N m cmp k L) (hp:zkd g m w N cmp many)
 (h1: ∀x∈L2,x<2^64∧Core (EG g) w st (fun v=>x.testBit v=true)∧ ∀u,x.testBit u=true→cmp u=k)
 (h2: ∀Q,Core (EG g) w st Q→(∀u,Q u→cmp u=k)→ ∃x∈L2,∀u,Q u→x.testBit u=true)
 (h3:L2.length≤cntB N fun v=>decide (cmp v=k)):JrP g w st N m cmp (k+1) (L++L2):=by
 have hm: ∀u,cmp u=k→m.testBit u=true:=fun u e=>by
  cases hh:m.testBit u with
  |true=>rfl
  |false=>have:=hp.out u hh;omega
 refine⟨fun x hx=> ?_,fun Q hQ hs v hv hk=> ?_,?_⟩
 ·rcases List.mem_append.1 hx with hx|hx
  ·exact h.snd x hx
  ·obtain⟨a,b,c⟩:=h1 x hx
   exact⟨a,b,fun u hu=>hm u (c u hu)⟩
 ·by_cases e:cmp v=k
  ·have hpart:=zjk hg hp (hm v e) (P:=fun u=>cmp u=cmp v) fun u=>Iff.rfl
   obtain⟨x,a,b⟩:=h2 Q hQ fun u hu=>(hQ.part hpart hs hv rfl hu).trans e
   exact⟨x,List.mem_append_right _ a,b⟩
  ·obtain⟨x,a,b⟩:=h.all Q hQ hs v hv (by omega)
   exact⟨x,List.mem_append_left _ a,b⟩
 ·rw[List.length_append]
  have hl:=h.len
  have:(cntB N fun v=>m.testBit v&&decide (cmp v<k))+(cntB N fun v=>decide (cmp v=k))≤cntB N fun v=>m.testBit v&&decide (cmp v<((k+1:Nat):Int)):=by
   unfold cntB
   generalize List.range N=l
   clear hl h3
   induction l with
   |nil=>simp
   |cons a l ih=>
    simp only[List.countP_cons]
    by_cases c1:cmp a=k
    ·have:=hm a c1
     have c2: ¬cmp a<k:=by omega
     have c3:cmp a<((k+1:Nat):Int):=by omega
     rw[this,decide_eq_true c1,decide_eq_false c2,decide_eq_true c3];simp only[Bool.and_self,Bool.and_false,if_true,if_false,Bool.false_eq_true,Nat.add_zero] at ih⊢;omega
    ·have:decide (cmp a<((k+1:Nat):Int))=decide (cmp a<k):=by
      congr 1;apply propext;omega
     rw[this,decide_eq_false c1]
     simp only[Bool.false_eq_true,if_false,Nat.add_zero] at ih⊢
     split<;>omega
  omega
end Go.Ideal.S
namespace Go.Ideal.S
open Go Go.Ideal Q Classical
attribute [local simp] decide_eq_true decide_eq_false zM
attribute [local simp] c_f f_f r_f_1 r_f_2 r_f_3 r_f_4 r_f_5 r_f_6 r_f_7 r_f_8 r_f_9 r_f_10 r_f_11 r_f_12 r_f_13 r_f_15 r_f_16 r_f_17 r_f_18 r_f_19 r_f_20 r_f_21 r_f_23
variable {n0:Nat}
structure JrR (g:Gr) (w:Int) (st:Bool) (N m:Nat) (L:List Nat):Prop where
 snd: ∀x∈L,x<2^64∧Core (EG g) w st (fun v=>x.testBit v=true)∧ ∀u,x.testBit u=true→m.testBit u=true
 all: ∀Q,Core (EG g) w st Q→(∀u,Q u→m.testBit u=true)→ ∃x∈L,∀u,Q u→x.testBit u=true
 len:L.length≤cntB N m.testBit
theorem cntB_mono {N:Nat} {p q:Nat→Bool} (h: ∀v,p v=true→q v=true):cntB N p≤cntB N q:=List.countP_mono_left fun v _=>h v
theorem cntB_le {N:Nat} {p:Nat→Bool}:cntB N p≤N:=by have:=List.countP_le_length (p:=p) (l:=List.range N);rw[List.length_range] at this;exact this
theorem JrP.fin {g:Gr} {w:Int} {st:Bool} {N m many:Nat} {cmp:Nat→Int} {L:List Nat} (h:JrP g w st N m cmp many L) (hp:zkd g m w N cmp many):JrR g w st N m L:=
 ⟨h.snd,fun Q hQ hs=>by
   obtain⟨v,hv⟩:=hQ.some
   exact h.all Q hQ hs v hv (hp.ins v (hs v hv)).2,Nat.le_trans h.len (cntB_mono fun v hv=>by rw[Bool.and_eq_true] at hv;exact hv.1)⟩
theorem jrings_ok {g:Gr} (hg:zbm g) {N:Nat} (hN:g.st=N) (w:Int) (st:Bool): ∀(n m:Nat),m<2^64→(∀v,m.testBit v=true→v<N)→cntB N m.testBit<n→ ∀{M:VM} {k kp:DV→VM→Prop},
 (∀L,JrR g w st N m L→k (.lst 1 (L.map eU)) M)→zq F (.fn n_f [] []) [.agg (eGr g),setD m,I w,.bool st] M k kp:=by
 intro n
 induction n with
 |zero=>intro m _ _ h;omega
 |succ n ih=>
 intro m hm hin hcnt M k kp hk
 have g2:=hg.s2
 have hl:g.es.length≤1000000:=by have:=hg.el;omega
 have eg:([I g.st,I g.ac,.lst 3 (g.es.map zF)]:List DV)=eGr g:=rfl
 apply zq.back
 refine .fn zhE rfl (by simp[f_f]) ?_
 simp[eGr]
 simp only[eg]
 refine parts_ok hg hm hN hin fun M2 j cmp many s1 s2 s3 s4 s5=> ?_
 have hs0:SM M.next M M2:=zeE (show SM M.next M ((M.new _).new _) from(by repeat' (first|assumption|exact zg _ _|apply zk|apply zl|apply zm| ((try simp only[zc,ze,zf]);omega)))) (zfr s1 (by simp;omega))
 have o4:M2.obj M.next=some (grO g):=zR s1 (by simp;omega) (by simp(disch:=((try simp only[zc]);omega)) [eGr])
 have hj:M.next+2≤j:=by simpa using s2
 clear s1 s2
 have hmany:=s5.le
 have h00:JrP g w st N m cmp (0:Nat) []:=⟨by simp,fun Q hQ hs v hv hc=>by have:=(s5.ins v (hs v hv)).1;omega,by simp⟩
 simp
 refine .for (σ:=VM×DV×List Nat) c_f_22.eq_1 (fun kk x=>[(11,x.2.1),(25,I kk)]) (fun x=>x.1) (fun kk x=>Acc M2 x.1 x.2.1 1 (x.2.2.map eU)∧JrP g w st N m cmp kk x.2.2) many (M2,.nilS,[]) (by simp) rfl ⟨Acc.nil M2 1,h00⟩ (fun kk x hkk hP again=> ?_) (fun x hP=> ?_)
 ·obtain⟨y,d,L⟩:=x
  obtain⟨hA,hJ⟩:=hP
  dsimp only at*
  have hx:=hA.nx
  have p4:y.obj M.next=some (grO g):=by rw[hA.obj (by omega)];exact o4
  have pj:y.obj j=some (.rows false 1 (R1 cmp N)):=by rw[hA.obj (by omega)];exact s4
  simp at again
  have hkk':(kk:Int)<many:=by omega
  simp[hkk']
  refine zbR.gen (Q:=fun z=>SM y.next y z∧y.next<z.next∧z.obj y.next=some (setO 0)) ⟨(by repeat' (first|assumption|exact zg _ _|apply zk|apply zl|apply zm| ((try simp only[zc,ze,zf]);omega))),by simp,by simp⟩ fun y0 hy0=> ?_
  refine .for (σ:=VM×Nat) c_f_14.eq_1 (fun q _=>[(30,I q)]) (fun x=>x.1) (fun q x=>SM y.next y x.1∧y.next<x.1.next∧x.1.obj y.next=some (setO x.2)∧x.2<2^64∧ ∀v,x.2.testBit v=true↔v<q∧cmp v=kk) N (y0,0) (by simp) rfl ⟨hy0.1,hy0.2.1,hy0.2.2,Nat.two_pow_pos 64,fun v=>by simp⟩ (fun q x hq hP again2=> ?_) (fun x hP=> ?_)
  ·obtain⟨y1,x⟩:=x
   obtain⟨h1,h2,h3,h4,h5⟩:=hP
   dsimp only at*
   have qj:=zR h1 (by omega) pj
   have rc:=R1_at (f:=cmp) hq
   simp at again2
   by_cases c:cmp q=kk
   ·simp(disch:=((try simp only[zc,ze,zf]);omega)) [qj,hq,rc,c]
    refine zjg x q _ h4 (by omega) h3 ?_
    simp(disch:=((try simp only[zc,ze,zf]);omega))
    refine again2 _ (x ||| 2^q) (zk h1 (Nat.le_refl _)) (by simp;omega) (by simp) (or_lt h4 (by omega)) fun v=> ?_
    rw[zlP,h5]
    constructor
    ·rintro(⟨a,b⟩|rfl)
     ·exact⟨by omega,b⟩
     ·exact⟨by omega,c⟩
    ·rintro⟨a,b⟩
     by_cases e:v=q
     ·exact .inr e
     ·exact .inl ⟨by omega,b⟩
   ·simp(disch:=((try simp only[zc,ze,zf]);omega)) [qj,hq,rc,c]
    refine again2 _ x h1 h2 h3 h4 fun v=> ?_
    rw[h5]
    exact⟨fun⟨a,b⟩=>⟨by omega,b⟩,fun⟨a,b⟩=>⟨by
     by_cases e:v=q
     ·subst e;exact absurd b c
     ·omega,b⟩⟩
  ·obtain⟨y1,x⟩:=x
   obtain⟨h1,h2,h3,h4,h5⟩:=hP
   dsimp only at*
   have q4:=zR h1 (by omega) p4
   have hA1:=hA.frame h1 (by omega)
   have hxm: ∀v,cmp v=kk→m.testBit v=true:=fun v e=>by
    cases hh:m.testBit v with
    |true=>rfl
    |false=>have:=s5.out v hh;omega
   have hxc: ∀v,x.testBit v=true↔cmp v=kk:=fun v=>(h5 v).trans ⟨fun a=>a.2,fun a=>⟨hin v (hxm v a),a⟩⟩
   have hpart: ∀i,cmp i=kk→Part (EG g) w (fun v=>m.testBit v=true) (fun v=>x.testBit v=true):=fun i hi=>zjk hg s5 (hxm i hi) fun v=>by rw[hxc,hi]
   simp[h3,q4]
   simp only[eg]
   refine zlW hg x (-1) w h4 ?_
   cases hin2:insB g x.testBit (-1) w with
   |false=>
    have hn: ¬ ∃z,z≠w∧Ins (EG g) (fun v=>x.testBit v=true) z:=fun hh=>by rw[(ziu hg).2 hh] at hin2;cases hin2
    have hnext:=hJ.next hg s5 (L2:=[]) (by simp) (fun Q hQ hs=>by
     exfalso
     obtain⟨v,hv⟩:=hQ.some
     exact rg_empty (st:=st) (hpart v (hs v hv)) hn ((hxc v).2 (hs v hv)) ⟨Q,hQ,fun u hu=>hxm u (hs u hu),hv⟩) (by simp)
    rw[List.append_nil] at hnext
    simp(disch:=((try simp only[zc,ze,zf]);omega)) [hin2]
    exact again _ _ _ hA1 hnext
   |true=>
    have hn:=(ziu hg).1 hin2
    obtain⟨z,hz,za,zb,_,hza,_⟩:=id hn
    have hpx:=hpart za ((hxc za).1 hza)
    simp[hin2,q4,h3]
    simp only[eg]
    refine jgood_ok hg x w st h4 fun r hr1 hr2=> ?_
    have hrx: ∀v,r.testBit v=true→x.testBit v=true:=fun v hv=>by
     rw[hr2] at hv;exact((zdR hg).1 hv).1
    have hsame:r=x→ ∀v,x.testBit v=true→ ¬Bad (EG g) w st (fun v=>x.testBit v=true) v:=fun e v hv=>by
     have hh:=hr2 v
     rw[e,hv] at hh
     exact((zdR hg).1 hh.symm).2
    have hJl:L.length≤60:=by have:=hJ.len;have:=cntB_le (N:=N) (p:=fun v=>m.testBit v&&decide (cmp v<kk));omega
    have hcx: ∀v,(fun v=>decide (cmp v=kk)) v=x.testBit v:=fun v=>by rw[Bool.eq_iff_iff,hxc,decide_eq_true_iff]
    have hx1:1≤cntB N fun v=>decide (cmp v=kk):=by
     refine List.countP_pos_iff.2 ⟨za,List.mem_range.2 (hin za (hpx.sub hza)),?_⟩
     exact decide_eq_true ((hxc za).1 hza)
    have hone:Core (EG g) w st (fun v=>x.testBit v=true)→JrP g w st N m cmp (kk+1:Nat) (L++[x]):=fun hC=>
     hJ.next hg s5 (fun u hu=>by
      obtain rfl:=List.mem_singleton.1 hu
      exact⟨h4,hC,fun v hv=>(hxc v).1 hv⟩) (fun Q hQ hs=>⟨x,by simp,fun u hu=>(hxc u).2 (hs u hu)⟩) hx1
    have hA2:=hA1.frame (M2:=(y1.new (.rows false 1 [[.int .u64 0]])).put y1.next (setO r)) (by repeat' (first|assumption|exact zg _ _|apply zk|apply zl|apply zm| ((try simp only[zc,ze,zf]);omega))) (by simp;omega)
    have t4:((y1.new (.rows false 1 [[.int .u64 0]])).put y1.next (setO r)).obj M.next=some (grO g):=by simp(disch:=((try simp only[zc]);omega)) [q4]
    have t3:((y1.new (.rows false 1 [[.int .u64 0]])).put y1.next (setO r)).obj y.next=some (setO x):=by simp(disch:=((try simp only[zc]);omega)) [h3]
    by_cases e:r=x
    ·have hnb:=hsame e
     cases st with
     |false=>
      have hnext:=hone (zg0 hpx hn hnb fun h=>by cases h)
      simp(disch:=((try simp only[zc,ze,zf]);omega)) [h3,zjs,e]
      rw[e] at hA2
      refine Rs_app (hA2.new _) (new:=[eU x]) (by simp[eU]) (by decide) (by simp[eU]) (by simp[eU]) (by simp;omega) fun d' y3 hA3=> ?_
      rw[show L.map eU++[eU x]=(L++[x]).map eU by rw[List.map_append];rfl] at hA3
      simp(disch:=((try simp only[zc,ze,zf]);omega))
      exact again _ _ _ hA3 hnext
     |true=>
      simp(disch:=((try simp only[zc,ze,zf]);omega)) [h3,zjs,e,q4]
      simp only[eg]
      rw[e] at hA2 t4 t3
      generalize (y1.new (.rows false 1 [[.int .u64 0]])).put y1.next (setO x)=y2 at*
      refine jopen_ok g x w hl h4 (fun e he=>by have h:=hg.ok e he;have:=h.f0;have:=h.f1;omega) ?_
      rw[show(g.es.any fun e=>x.testBit e.f.toNat&&decide (e.a=w))=opnB g x.testBit w from rfl]
      cases hop:opnB g x.testBit w with
      |false=>
       have ho: ¬Opn (EG g) (fun v=>x.testBit v=true) w:=fun hh=>by rw[(zfy hg).2 hh] at hop;cases hop
       have hnext:=hJ.next hg s5 (L2:=[]) (by simp) (fun Q hQ hs=>by
        exfalso
        obtain⟨v,hv⟩:=hQ.some
        exact rg_none (st:=true) (hpart v (hs v hv)) rfl ho ((hxc v).2 (hs v hv)) ⟨Q,hQ,fun u hu=>hxm u (hs u hu),hv⟩) (by simp)
       rw[List.append_nil] at hnext
       simp(disch:=((try simp only[zc,ze,zf]);omega))
       exact again _ _ _ hA2 hnext
      |true=>
       have hnext:=hone (zg0 hpx hn hnb fun _=>(zfy hg).1 hop)
       simp[t3]
       refine Rs_app (hA2.new _) (new:=[eU x]) (by simp[eU]) (by decide) (by simp[eU]) (by simp[eU]) (by simp;omega) fun d' y3 hA3=> ?_
       rw[show L.map eU++[eU x]=(L++[x]).map eU by rw[List.map_append];rfl] at hA3
       simp(disch:=((try simp only[zc,ze,zf]);omega))
       exact again _ _ _ hA3 hnext
    ·have hcr:cntB N r.testBit<cntB N m.testBit:=by
      obtain⟨v,hv1,hv2⟩: ∃v,x.testBit v=true∧r.testBit v=false:=Classical.byContradiction fun hc=>e (Nat.eq_of_testBit_eq fun v=>by
       cases h1:x.testBit v with
       |false=>
        cases h2:r.testBit v with
        |false=>rfl
        |true=>rw[hrx v h2] at h1;cases h1
       |true=>
        cases h2:r.testBit v with
        |true=>rfl
        |false=>exact absurd ⟨v,h1,h2⟩ hc)
      exact cnt_lt (fun u hu=>hpx.sub (hrx u hu)) (List.mem_range.2 (hin v (hpx.sub hv1))) (hpx.sub hv1) hv2
     simp(disch:=((try simp only[zc,ze,zf]);omega)) [h3,zjs,e,q4]
     simp only[eg]
     generalize (y1.new (.rows false 1 [[.int .u64 0]])).put y1.next (setO r)=y2 at*
     refine ih r hr1 (fun v hv=>hin v (hpx.sub (hrx v hv))) (by omega) fun L2 hL2=> ?_
     simp
     have hL2l:=hL2.len
     have hL2n:=cntB_le (N:=N) (p:=r.testBit)
     refine Rs_app hA2 (by rw[zg7,if_pos rfl]) (by decide) (c_map c_U L2) (l_map l_U L2) (by simp;omega) fun d' y3 hA3=> ?_
     rw[←List.map_append] at hA3
     simp(disch:=((try simp only[zc,ze,zf]);omega))
     exact again _ _ _ hA3 (hJ.next hg s5 (fun u hu=>⟨(hL2.snd u hu).1,(hL2.snd u hu).2.1,fun v hv=>(hxc v).1 (hrx v ((hL2.snd u hu).2.2 v hv))⟩) (fun Q hQ hs=>hL2.all Q hQ fun u hu=>by
      rw[hr2];exact(zdR hg).2 (hQ.rest (fun u hu=>(hxc u).2 (hs u hu)) hu)) (Nat.le_trans hL2l (cntB_mono fun v hv=>decide_eq_true ((hxc v).1 (hrx v hv)))))
 ·obtain⟨y,d,L⟩:=x
  obtain⟨hA,hJ⟩:=hP
  dsimp only at*
  simp
  exact Back.acc hA hs0 (by have:=hA.nx;omega) (b_map b_U L) (hk L (hJ.fin s5))
end Go.Ideal.S
namespace Go.Ideal.S
open Go Go.Ideal Q Classical
attribute [local simp] decide_eq_true decide_eq_false zM
attribute [local simp] c_E f_E r_E_1 r_E_2 r_E_3 r_E_4
variable {M:VM} {k kp:DV→VM→Prop} {n0:Nat}
def revI (f:Nat→Int) (n i:Nat):Nat→Int:=fun q=>if q<i∨n - i≤q then f (n - 1 - q) else f q
theorem revI_succ {f:Nat→Int} {n i:Nat} (h:i+1≤n / 2):R1 (up1 (up1 (revI f n i) i (f (n - 1 - i))) (n - 1 - i) (f i)) n=R1 (revI f n (i+1)) n:=R1_ext fun v hv=>by
 unfold up1 revI
 by_cases e1:v=n - 1 - i
 ·rw[if_pos e1,if_pos (.inr (by omega))];congr 1;omega
 ·rw[if_neg e1]
  by_cases e2:v=i
  ·rw[if_pos e2,if_pos (.inl (by omega)),e2]
  ·rw[if_neg e2]
   by_cases e3:v<i∨n - i≤v
   ·rw[if_pos e3,if_pos (by omega)]
   ·rw[if_neg e3,if_neg (by omega)]
theorem revI_end {f:Nat→Int} {n:Nat}:R1 (revI f n (n / 2)) n=R1 (fun q=>f (n - 1 - q)) n:=R1_ext fun v hv=>by
 unfold revI
 by_cases e:v<n / 2∨n - n / 2≤v
 ·rw[if_pos e]
 ·rw[if_neg e];congr 1;omega
theorem ints_R1 (l:List Int):l.map eInt=R1 (fun q=>l.getD q 0) l.length:=by
 unfold R1
 apply List.ext_getElem
 ·simp
 ·intro i h1 h2
  simp at h1
  simp[eInt,h1]
theorem rev_R1 (l:List Int):R1 (fun q=>l.getD (l.length - 1 - q) 0) l.length=l.reverse.map eInt:=by
 rw[ints_R1,List.length_reverse]
 refine R1_ext fun v hv=> ?_
 rw[List.getD_eq_getElem?_getD,List.getD_eq_getElem?_getD,List.getElem?_reverse hv]
theorem reverse_ok {B:VM} {d:DV} {l:List Int} (h:Acc B M d 1 (l.map eInt)) (hl:l.length≤1000000) (hk: ∀M',Acc B M' d 1 (l.reverse.map eInt)→M.next≤M'.next→k (.tup []) M'):zq F (.fn n_E [] []) [d] M k kp:=by
 rcases h.v with⟨h1,rfl⟩| ⟨j,op,cap,h1,h2,rfl,h4,h5⟩
 ·obtain rfl:l=[]:=by simpa using h1
  refine .fn zb3 rfl (by simp[f_E]) ?_
  simp
  refine .go c_E_5.eq_1 ?_
  simp
  exact hk _ h (Nat.le_refl _)
 ·rw[ints_R1] at h4
  have hlen:(l.map eInt).length=l.length:=by simp
  rw[hlen] at h5⊢
  rw[hlen] at h
  refine .fn zb3 rfl (by simp[f_E]) ?_
  simp(disch:=((try simp only[zc,ze,zf]);omega))
  generalize hn:l.length=n at*
  generalize hf:(fun q=>l.getD q 0)=f at*
  have e0:R1 f n=R1 (revI f n 0) n:=R1_ext fun v hv=>by unfold revI;rw[if_neg (by omega)]
  rw[e0] at h4
  refine .for (σ:=VM) c_E_5.eq_1 (fun i _=>[(2,I i),(3,I ((n:Int) - 1 - i))]) (fun y=>y) (fun i y=>M.next≤y.next∧SM B.next B y∧y.obj j=some (.rows op 1 (R1 (revI f n i) n))) (n / 2) M (by simp) rfl ⟨Nat.le_refl _,h.sm,h4⟩ (fun i y hi hP again=> ?_) (fun y hP=> ?_)
  ·obtain⟨p1,p2,p3⟩:=hP
   have i1:i<n:=by omega
   have i2:n - 1 - i<n:=by omega
   have r1:=R1_at (f:=revI f n i) i1
   have r2:=R1_at (f:=revI f n i) i2
   rw[show revI f n i i=f i from by unfold revI;rw[if_neg (by omega)]] at r1
   rw[show revI f n i (n - 1 - i)=f (n - 1 - i) from by unfold revI;rw[if_neg (by omega)]] at r2
   obtain⟨q,hq⟩: ∃q:Nat,(n:Int) - 1 - i=q:=⟨n - 1 - i,by omega⟩
   have hq2:n - 1 - i=q:=by omega
   have hq3:(n:Int) - 1 - (i+1:Nat)=q - 1:=by omega
   rw[hq2] at r2 i2
   have hs:=revI_succ (f:=f) (n:=n) (i:=i) (by omega)
   rw[hq2] at hs
   have again:=again ((y.put j (.rows op 1 (R1 (up1 (revI f n i) i (f q)) n))).put j (.rows op 1 (R1 (up1 (up1 (revI f n i) i (f q)) q (f i)) n))) ⟨by simp;omega,zk (zk p2 h1) h1,by rw[←hs];simp⟩
   rw[hq3] at again
   simp at again
   have hlt:(i:Int)<q:=by omega
   have hqi:q≠i:=by omega
   have r3:=R1_set (f:=revI f n i) (N:=n) (n:=i) (x:=f q)
   have r4:=R1_set (f:=up1 (revI f n i) i (f q)) (N:=n) (n:=q) (x:=f i)
   have r5:=R1_at (f:=up1 (revI f n i) i (f q)) i2
   rw[hq]
   simp(disch:=((try simp only[zc,ze,zf]);omega)) [p3,r1,r2,hlt,i1,i2,r3,r4,r5]
   exact again
  ·obtain⟨p1,p2,p3⟩:=hP
   have hnot: ¬((n / 2:Nat):Int)<(n:Int) - 1 - (n / 2:Nat):=by omega
   simp(disch:=((try simp only[zc,ze,zf]);omega)) [hnot]
   rw[revI_end,←hf] at p3
   have hr:=rev_R1 l
   rw[hn] at hr
   rw[hr] at p3
   refine hk y ⟨p2,by have:=h.nx;omega,l_map l_Int _,.inr ⟨j,op,cap,h1,by omega,?_,p3,?_⟩⟩ p1
   ·simp[hn]
   ·simpa[hn] using h5
end Go.Ideal.S
set_option maxHeartbeats 1000000
namespace Go.Ideal.S
open Go Go.Ideal Q Classical
inductive Way (g:Gr) (mi:Nat) (w:Int) (s:Nat):List Int→Nat→Prop
 |nil:Way g mi w s [] s
 |snoc {l:List Int} {t:Nat} (h:Way g mi w s l t) (e:Nat) (he:e<g.es.length) (h1:g.es[e].f=(t:Int)) (h2:g.es[e].a≠w) (u:Nat) (h3:g.es[e].t=(u:Int)) (h4:mi.testBit u=true):Way g mi w s (l++[(e:Int)]) u
theorem Way.star {g:Gr} {mi:Nat} {w:Int} {s t:Nat} {l:List Int} (h:Way g mi w s l t):Star (RF g (fun v=>mi.testBit v) w) s t:=by
 induction h with
 |nil=>exact .refl _
 |snoc h e he h1 h2 u h3 h4 ih=>exact ih.tail ⟨g.es[e],List.getElem_mem he,h1,h3,h2,h4⟩
theorem Way.trans {g:Gr} {mi:Nat} {w:Int} {s t u:Nat} {l l2:List Int} (h:Way g mi w s l t) (h2:Way g mi w t l2 u):Way g mi w s (l++l2) u:=by
 induction h2 with
 |nil=>rw[List.append_nil];exact h
 |snoc _ e he a b u c d ih=>rw[←List.append_assoc];exact ih.snoc e he a b u c d
theorem Way.edges {g:Gr} {mi:Nat} {w:Int} {s t:Nat} {l:List Int} (h:Way g mi w s l t):zcm g.es l:=by
 induction h with
 |nil=>intro x hx;cases hx
 |snoc _ e he _ _ _ _ _ ih=>
  intro x hx
  rcases List.mem_append.1 hx with hx|hx
  ·exact ih x hx
  ·obtain rfl:=List.mem_singleton.1 hx
   omega
theorem pathR_app {es:List Edge} {w:Int}: ∀{l l2:List Int} {f:Int},0≤pathR es w f l→pathR es w f (l++l2)=pathR es w (pathR es w f l) l2
 | [],_,_,_=>rfl
 |x::l,l2,f,h=>by
  rw[List.cons_append]
  by_cases hc:(eAt es x).f=f∧(eAt es x).a≠w
  ·simp only[pathR,if_pos hc] at h⊢;exact pathR_app h
  ·simp only[pathR,if_neg hc] at h;omega
theorem Way.pathR {g:Gr} {mi:Nat} {w:Int} {s t:Nat} {l:List Int} (h:Way g mi w s l t):S.pathR g.es w s l=t:=by
 induction h with
 |nil=>rfl
 |snoc _ e he h1 h2 u h3 _ ih=>
  rw[pathR_app (by rw[ih];omega),ih]
  unfold S.pathR S.pathR
  rw[zdL he,if_pos ⟨h1,h2⟩,h3]
structure Bf (g:Gr) (mi:Nat) (w:Int) (s N:Nat) (bf:Nat→Int) (qs:List Nat):Prop where
 hd:qs[0]? =some s
 nd:qs.Nodup
 lt: ∀v∈qs,v<N
 lk: ∀i (hi:i<qs.length),0<i→ ∃(e:Nat) (he:e<g.es.length) (j:Nat) (hj:j<i),bf qs[i]=e∧g.es[e].t=(qs[i]:Nat)∧g.es[e].f=(qs[j]'(by omega):Nat)∧g.es[e].a≠w∧mi.testBit qs[i]=true
theorem zir {l:List Nat} {N:Nat} (h:l.Nodup) (hl: ∀v∈l,v<N):l.length≤N:=by
 have:=h.length_le_of_subset (l₂:=List.range N) (fun v hv=>List.mem_range.2 (hl v hv))
 simpa using this
theorem Bf.len {g:Gr} {mi:Nat} {w:Int} {s N:Nat} {bf:Nat→Int} {qs:List Nat} (h:Bf g mi w s N bf qs):qs.length≤N:=zir h.nd h.lt
theorem Bf.pos {g:Gr} {mi:Nat} {w:Int} {s N:Nat} {bf:Nat→Int} {qs:List Nat} (h:Bf g mi w s N bf qs):0<qs.length:=by
 have:=h.hd
 cases qs with
 |nil=>cases this
 |cons=>simp
theorem Bf.one {g:Gr} {mi:Nat} {w:Int} {s N:Nat} (hs:s<N) (bf:Nat→Int):Bf g mi w s N bf [s]:=
 ⟨rfl,by simp,by simp[hs],fun i hi h0=>by simp at hi;omega⟩
theorem Bf.add {g:Gr} {mi:Nat} {w:Int} {s N:Nat} {bf:Nat→Int} {qs:List Nat} (h:Bf g mi w s N bf qs) {x p e:Nat} (hx:x∉qs) (hxN:x<N) (hp:p<qs.length) (he:e<g.es.length) (h1:g.es[e].t=(x:Int)) (h2:g.es[e].f=(qs[p]:Nat)) (h3:g.es[e].a≠w) (h4:mi.testBit x=true):Bf g mi w s N (up1 bf x e) (qs++[x]):=by
 refine⟨?_,?_,?_,fun i hi h0=> ?_⟩
 ·rw[List.getElem?_append_left h.pos];exact h.hd
 ·rw[List.nodup_append]
  refine⟨h.nd,by simp,fun a ha b hb=> ?_⟩
  obtain rfl:=List.mem_singleton.1 hb
  intro e;subst e;exact hx ha
 ·intro v hv
  rcases List.mem_append.1 hv with hv|hv
  ·exact h.lt v hv
  ·obtain rfl:=List.mem_singleton.1 hv;exact hxN
 ·by_cases c:i<qs.length
  ·obtain⟨e',q1,j,q2,q3,q4,q5,q6,q7⟩:=h.lk i c h0
   have hne:qs[i]≠x:=fun hh=>hx (hh▸List.getElem_mem c)
   rw[List.getElem_append_left c]
   refine⟨e',q1,j,q2,?_,q4,?_,q6,q7⟩
   ·rw[zeG _ _ hne];exact q3
   ·rw[List.getElem_append_left (by omega)];exact q5
  ·have:i=qs.length:=by rw[List.length_append,List.length_singleton] at hi;omega
   subst this
   have hg:(qs++[x])[qs.length]'hi=x:=by simp
   rw[hg]
   refine⟨e,he,p,hp,zcB _ _ _,h1,?_,h3,h4⟩
   rw[List.getElem_append_left hp];exact h2
end Go.Ideal.S
namespace Go.Ideal.S
open Go Go.Ideal Q Classical
def Qu (bad:Nat→Prop) (y:VM) (d:DV) (l:List Nat):Prop:= ∃j lo cap rs op,d=.ms j lo l.length cap∧ ¬bad j∧j<y.next∧y.obj j=some (.rows op 1 rs)∧(∀i (hi:i<l.length),rs[lo+i]? =some [I (l[i]:Nat)])∧lo+l.length≤rs.length∧
 (op=true∧cap=zj∧lo+l.length=rs.length∨op=false∧cap=l.length∧cap<zj)
section
variable {bad bad':Nat→Prop} {y y':VM} {d:DV} {l:List Nat} {x:Nat}
theorem Qu.keep (h:Qu bad y d l) (hn:y.next≤y'.next) (ho: ∀j,j<y.next→ ¬bad j→y'.get j=y.get j) (hb: ∀j,j<y.next→bad' j→bad j):Qu bad' y' d l:=by
 obtain⟨j,lo,cap,rs,op,h1,h2,h3,h4,h5,h5',h6⟩:=h
 refine⟨j,lo,cap,rs,op,h1,fun hh=>h2 (hb j h3 hh),by omega,?_,h5,h5',h6⟩
 rw[←h4];show(y'.get j).map _=(y.get j).map _;rw[ho j h3 h2]
theorem Qu.put (h:Qu bad y d l) {j:Nat} (hj:bad j) (o:MO):Qu bad (y.put j o) d l:=h.keep (by simp) (fun i _ hi=>by rw[get_put,if_neg (by rintro rfl;exact hi hj)]) fun _ _ h=>h
theorem Qu.cell (h:Qu bad y d l):zV d=[d]∧zL d=true∧lenD y d=some l.length:=by
 obtain⟨j,lo,cap,rs,op,rfl,_⟩:=h;exact⟨rfl,rfl,rfl⟩
theorem Qu.head (h:Qu bad y d (x::l)): ∃j lo op rs,zkx 1 y (I 0) d=some (.ptr j lo 0)∧y.obj j=some (.rows op 1 rs)∧rs[lo]? =some [I x]:=by
 obtain⟨j,lo,cap,rs,op,rfl,h2,h3,h4,h5,h5',h6⟩:=h
 refine⟨j,lo,op,rs,?_,h4,h5 0 (by simp)⟩
 rw[addrD_ms,h4,adO_some,if_pos ⟨rfl,by simp,by simp⟩];rfl
theorem Qu.tail (h:Qu bad y d (x::l)): ∃d',sliceD 1 y (some (I 1)) none d=some d'∧Qu bad y d' l:=by
 obtain⟨j,lo,cap,rs,op,rfl,h2,h3,h4,h5,h5',h6⟩:=h
 rw[List.length_cons] at h5' h6⊢
 rcases h6 with⟨rfl,rfl,h6⟩| ⟨rfl,rfl,h6⟩
 ·refine⟨.ms j (lo+1) l.length zj,?_,j,lo+1,zj,rs,true,rfl,h2,h3,h4,fun i hi=> ?_,by omega,.inl ⟨rfl,rfl,by omega⟩⟩
  ·rw[sliceD_ms,h4,slM_true,if_pos ⟨rfl,rfl,by omega⟩,zjY,slT_some,zjX,if_pos ⟨by omega,by omega⟩];rfl
  ·have:=h5 (i+1) (by simp;omega)
   rw[show lo+1+i=lo+(i+1) by omega,this];rfl
 ·refine⟨.ms j (if l.length+1=1 then lo else lo+1) l.length l.length,?_,j,_,_,rs,false,rfl,h2,h3,h4,fun i hi=> ?_,?_,.inr ⟨rfl,rfl,by omega⟩⟩
  ·rw[sliceD_ms,h4,slM_false,if_pos ⟨rfl,h6⟩,zjY,slF_some,zjX,if_pos ⟨by omega,by omega⟩];rfl
  ·have:=h5 (i+1) (by simp;omega)
   rw[if_neg (by omega),show lo+1+i=lo+(i+1) by omega,this];rfl
  ·split<;>omega
theorem Rs_qpush {X:RnD} {fr:FrC} {jb:Nat} {dst:Option (List Bool)} {r:List CI} {sl:DS} (h:Qu bad y d l) (hl:l.length≤1000000) (hY: ¬bad y.next) (hb:y.obj jb=some (.rows false 1 [[I (x:Nat)]]))
 (k: ∀d' y',Qu bad y' d' (l++[x])→y.next≤y'.next→(∀j,j<y.next→bad j→y'.get j=y.get j)→ @Op X fr r (zbk dst d' sl) y'): @Rs X fr (bltD y (.append 1 8) [d,.ms jb 0 1 1]) dst r sl:=by
 rw[zeA,if_pos ⟨by decide,by decide⟩,zfn,hb]
 rw[show elO 1 0 1 (some (MO.rows false 1 [[I (x:Nat)]]))=some [[I (x:Nat)]] from by simp,zg8,if_pos (by simp)]
 obtain⟨j,lo,cap,rs,op,rfl,h2,h3,h4,h5,h5',h6⟩:=h
 have hnew: ∀(y2:VM) (nx:y2.next=y.next),Qu bad (y2.new (.rows true 1 ((rs.drop lo).take l.length++[[I (x:Nat)]]))) (.ms y.next 0 ((rs.drop lo).take l.length++[[I (x:Nat)]]).length zj) (l++[x]):=fun y2 nx=>by
  have hlen:((rs.drop lo).take l.length).length=l.length:=by
   rw[List.length_take,List.length_drop]
   omega
  refine⟨y.next,0,zj,_,true,?_,hY,by simp[nx],by rw[←nx];simp;rfl,fun i hi=> ?_,?_,.inl ⟨rfl,rfl,?_⟩⟩
  ·simp[hlen]
  ·rw[Nat.zero_add]
   rw[List.length_append,List.length_singleton] at hi
   by_cases c:i<l.length
   ·rw[List.getElem?_append_left (by omega),List.getElem?_take,if_pos c,List.getElem?_drop,h5 i c,List.getElem_append_left c]
   ·have:i=l.length:=by omega
    subst this
    rw[List.getElem?_append_right (by omega),hlen];simp
  ·simp[hlen]
  ·simp[hlen]
 rcases h6 with⟨rfl,rfl,h6⟩| ⟨rfl,rfl,h6⟩
 ·have e:zbf 1 8 y [[I (x:Nat)]] (.ms j lo l.length zj)=some (.ms y.next 0 ((rs.drop lo).take l.length++[[I (x:Nat)]]).length zj,(y.del j).new (.rows true 1 ((rs.drop lo).take l.length++[[I (x:Nat)]]))):=by
   rw[zcW,if_neg (by simp),if_pos (by simp;omega),h4,zfD,zcQ,if_pos ⟨rfl,by omega⟩,if_neg (by simp;omega)]
  rw[e]
  refine k _ _ (hnew _ rfl) (by simp) fun i hi hbi=> ?_
  rw[get_new,if_neg (by simp;omega),zhH,if_neg (by rintro rfl;exact h2 hbi)]
 ·have e:zbf 1 8 y [[I (x:Nat)]] (.ms j lo l.length l.length)=some (.ms y.next 0 ((rs.drop lo).take l.length++[[I (x:Nat)]]).length zj,y.new (.rows true 1 ((rs.drop lo).take l.length++[[I (x:Nat)]]))):=by
   rw[zcW,if_neg (by simp),if_pos (by simp;omega),h4,zfD]
   unfold zcA
   dsimp only
   rw[if_pos ⟨rfl,by omega⟩,if_pos h6,if_neg (by simp)];rfl
  rw[e]
  exact k _ _ (hnew _ rfl) (by simp) fun i hi _=>by rw[get_new,if_neg (by omega)]
end
end Go.Ideal.S
set_option maxHeartbeats 2000000
namespace Go.Ideal.S
open Go Go.Ideal Q Classical
attribute [local simp] decide_eq_true decide_eq_false zM
attribute [local simp] c_d f_d r_d_1 r_d_2 r_d_3 r_d_4 r_d_5 r_d_6 r_d_7 r_d_8 r_d_9 r_d_10 r_d_11 r_d_12 r_d_13 r_d_15 r_d_16 r_d_17 r_d_18 r_d_19 r_d_20 r_d_21 r_d_22 r_d_23 r_d_26
variable {M:VM} {k kp:DV→VM→Prop} {n0:Nat}
theorem Back.accT {B y M0:VM} {d e:DV} {rows:List (List DV)} (h:Acc B y d 1 rows) (hB:SM M0.next M0 B) (hn:M0.next≤B.next) (hb: ∀r∈rows,∀x∈r,zH M0.next x) (he:zH M0.next e) (hk:k (.tup [.lst 1 rows,e]) M0):Back k M0 (.tup [d,e]) y:=fun hw=>by
 refine⟨.tup [.lst 1 rows,e],.tup rfl fun i a b h1 h2=> ?_,.tup fun a ha=> ?_,fun j hj=>(h.sm j (by omega)).trans (hB j hj),hk⟩
 ·match i with
  |0=>
   cases h1;cases h2
   rcases h.v with⟨rfl,rfl⟩| ⟨j,op,cap,h1,h2,rfl,h4,_⟩
   ·exact .nilS 1
   ·exact .ms0 h4 (hw j (by omega)) rfl h.row
  |1=>cases h1;cases h2;exact .refl _
  |i+2=>simp at h1
 ·simp only[List.mem_cons,List.not_mem_nil,or_false] at ha
  rcases ha with rfl|rfl
  ·exact .lst hb
  ·exact he
structure PaM (bad:Nat→Prop) (B y:VM) (g:Gr) (mi:Nat) (w:Int) (N jb j12 j13 j14:Nat) (bf:Nat→Int) (m:Nat) (d:DV) (l:List Nat):Prop where
 sm:SM B.next B y
 nx:j14<y.next
 o5:y.obj B.next=some (grO g)
 o7:y.obj (B.next+1)=some (setO mi)
 o8:y.obj (B.next+2)=some (intO w)
 ob:y.obj jb=some (.rows false 1 (R1 bf N))
 o12:y.obj j12=some (.rows false 1 [[.ms jb 0 N N]])
 o13:y.obj j13=some (setO m)
 o14:y.obj j14=some (.rows false 1 [[d]])
 qu:Qu bad y d l
structure PaO (bad:Nat→Prop) (b jb j12 j13 j14:Nat):Prop where
 h1:b+3≤jb
 h2:jb<j12
 h3:j12<j13
 h4:j13<j14
 b1: ∀j,j≤j13→bad j
 b2:bad j14
section
variable {bad:Nat→Prop} {B y y':VM} {g:Gr} {mi:Nat} {w:Int} {N jb j12 j13 j14:Nat} {bf:Nat→Int} {m:Nat} {d:DV} {l:List Nat}
theorem PaM.frame (h:PaM bad B y g mi w N jb j12 j13 j14 bf m d l) (o:PaO bad B.next jb j12 j13 j14) (hn:y.next≤y'.next) (hf: ∀j,j<y.next→(j≤j14∨ ¬bad j)→y'.get j=y.get j):PaM bad B y' g mi w N jb j12 j13 j14 bf m d l:=by
 have a1:=o.h1;have a2:=o.h2;have a3:=o.h3;have a4:=o.h4;have a5:=h.nx
 have ob: ∀j o,j≤j14→y.obj j=some o→y'.obj j=some o:=fun j o hj e=>by
  rw[←e];show(y'.get j).map _=(y.get j).map _;rw[hf j (by omega) (.inl hj)]
 exact⟨fun j hj=>(hf j (by omega) (.inl (by omega))).trans (h.sm j hj),by omega,ob _ _ (by omega) h.o5,ob _ _ (by omega) h.o7,ob _ _ (by omega) h.o8,ob _ _ (by omega) h.ob,ob _ _ (by omega) h.o12,ob _ _ (by omega) h.o13,ob _ _ (by omega) h.o14,h.qu.keep hn (fun j h1 h2=>hf j h1 (.inr h2)) fun _ _ hb=>hb⟩
theorem PaM.new (h:PaM bad B y g mi w N jb j12 j13 j14 bf m d l) (o:PaO bad B.next jb j12 j13 j14) (ob:MO):PaM bad B (y.new ob) g mi w N jb j12 j13 j14 bf m d l:=
 h.frame o (by simp) fun j hj _=>by rw[get_new,if_neg (by omega)]
theorem PaM.setM (h:PaM bad B y g mi w N jb j12 j13 j14 bf m d l) (o:PaO bad B.next jb j12 j13 j14) (m':Nat):PaM bad B (y.put j13 (setO m')) g mi w N jb j12 j13 j14 bf m' d l:=by
 have a1:=o.h1;have a2:=o.h2;have a3:=o.h3;have a4:=o.h4;have a5:=h.nx
 exact⟨zk h.sm (by omega),by simp;omega,by simp(disch:=omega) [h.o5],by simp(disch:=omega) [h.o7],by simp(disch:=omega) [h.o8],by simp(disch:=omega) [h.ob],by simp(disch:=omega) [h.o12],by simp,by simp(disch:=omega) [h.o14],h.qu.put (o.b1 _ (Nat.le_refl _)) _⟩
theorem PaM.setB (h:PaM bad B y g mi w N jb j12 j13 j14 bf m d l) (o:PaO bad B.next jb j12 j13 j14) {R:List (List DV)} {bf':Nat→Int} (e:R=R1 bf' N):PaM bad B (y.put jb (.rows false 1 R)) g mi w N jb j12 j13 j14 bf' m d l:=by
 have a1:=o.h1;have a2:=o.h2;have a3:=o.h3;have a4:=o.h4;have a5:=h.nx
 exact⟨zk h.sm (by omega),by simp;omega,by simp(disch:=omega) [h.o5],by simp(disch:=omega) [h.o7],by simp(disch:=omega) [h.o8],by rw[e];simp,by simp(disch:=omega) [h.o12],by simp(disch:=omega) [h.o13],by simp(disch:=omega) [h.o14],h.qu.put (o.b1 _ (by omega)) _⟩
theorem PaM.setD (h:PaM bad B y g mi w N jb j12 j13 j14 bf m d l) (o:PaO bad B.next jb j12 j13 j14) {d':DV} {l':List Nat} (hq:Qu bad y d' l'):PaM bad B (y.put j14 (.rows false 1 [[d']])) g mi w N jb j12 j13 j14 bf m d' l':=by
 have a1:=o.h1;have a2:=o.h2;have a3:=o.h3;have a4:=o.h4;have a5:=h.nx
 exact⟨zk h.sm (by omega),by simp;omega,by simp(disch:=omega) [h.o5],by simp(disch:=omega) [h.o7],by simp(disch:=omega) [h.o8],by simp(disch:=omega) [h.ob],by simp(disch:=omega) [h.o12],by simp(disch:=omega) [h.o13],by simp,hq.put o.b2 _⟩
end
theorem PaM.push {bad:Nat→Prop} {B y y':VM} {g:Gr} {mi:Nat} {w:Int} {N jb j12 j13 j14:Nat} {bf:Nat→Int} {m:Nat} {d d':DV} {l l':List Nat} (h:PaM bad B y g mi w N jb j12 j13 j14 bf m d l) (o:PaO bad B.next jb j12 j13 j14) (hn:y.next≤y'.next) (hf: ∀j,j<y.next→bad j→y'.get j=y.get j) (hq:Qu bad y' d' l'):PaM bad B (y'.put j14 (.rows false 1 [[d']])) g mi w N jb j12 j13 j14 bf m d' l':=by
 have a1:=o.h1;have a2:=o.h2;have a3:=o.h3;have a4:=o.h4;have a5:=h.nx
 have ob: ∀j o2,j≤j13→y.obj j=some o2→(y'.put j14 (.rows false 1 [[d']])).obj j=some o2:=fun j o2 hj e=>by
  rw[zby,if_neg (by omega),←e]
  show(y'.get j).map _=(y.get j).map _
  rw[hf j (by omega) (o.b1 j hj)]
 exact⟨fun j hj=>by rw[get_put,if_neg (by omega),hf j (by omega) (o.b1 j (by omega))];exact h.sm j hj,by simp;omega,ob _ _ (by omega) h.o5,ob _ _ (by omega) h.o7,ob _ _ (by omega) h.o8,ob _ _ (by omega) h.ob,ob _ _ (by omega) h.o12,ob _ _ (Nat.le_refl _) h.o13,by simp,hq.put o.b2 _⟩
theorem PaM.bad2 {bad bad':Nat→Prop} {B y:VM} {g:Gr} {mi:Nat} {w:Int} {N jb j12 j13 j14:Nat} {bf:Nat→Int} {m:Nat} {d:DV} {l:List Nat} (h:PaM bad B y g mi w N jb j12 j13 j14 bf m d l) (hb: ∀j,j<y.next→bad' j→bad j):PaM bad' B y g mi w N jb j12 j13 j14 bf m d l:=
 ⟨h.sm,h.nx,h.o5,h.o7,h.o8,h.ob,h.o12,h.o13,h.o14,h.qu.keep (Nat.le_refl _) (fun _ _ _=>rfl) hb⟩
theorem path_out {B y:VM} {g:Gr} (hg:zbm g) {mi:Nat} {w:Int} {s0 N jb j12 x p:Nat} {bf:Nat→Int} {qs:List Nat} (hN:N≤1000) (hB:Bf g mi w s0 N bf qs) (hx:qs[p]? =some x)
 (o5:y.obj B.next=some (grO g)) (h12:y.obj j12=some (.rows false 1 [[.ms jb 0 N N]])) (hb:y.obj jb=some (.rows false 1 (R1 bf N))) (l1:B.next<y.next) (l2:j12<y.next) (l3:jb<y.next) {K:KD}
 (hk: ∀y' d' (o:List Int) s',Acc y y' d' 1 (o.map eInt)→Way g mi w s0 o.reverse x→o.length≤p→getS s' (bits 16)=some d'→K.ext 4 s' y'):
 zbR F n0 (bs [1,5,12,15,16]) c_d_14 K [(bits 1,I s0),(bits 5,.ptr B.next 0 0),(bits 12,.ptr j12 0 0),(bits 15,I x),(bits 16,.nilS)] y:=by
 refine .while (σ:=VM×Nat×Nat×DV×List Int) c_d_14.eq_1 (fun z=>[(15,I z.2.1),(16,z.2.2.2.1)]) (fun z=>z.1) (fun z=>Acc y z.1 z.2.2.2.1 1 (z.2.2.2.2.map eInt)∧qs[z.2.2.1]? =some z.2.1∧(∀l,Way g mi w s0 l z.2.1→Way g mi w s0 (l++z.2.2.2.2.reverse) x)∧z.2.2.2.2.length+z.2.2.1≤p) (fun z=>z.2.2.1) (y,x,p,.nilS,[]) (by simp) rfl ⟨Acc.nil y 1,hx,fun l h=>by simpa using h,by simp⟩ (fun z hP again=> ?_)
 obtain⟨y1,n,i,d,o⟩:=z
 obtain⟨h1,h2,h3,h4⟩:=hP
 dsimp only at*
 have hp:=(List.getElem?_eq_some_iff.1 hx).1
 obtain⟨hi,hin⟩:=List.getElem?_eq_some_iff.1 h2
 have hlen:=hB.len
 have q5:y1.obj B.next=some (grO g):=by rw[h1.obj l1];exact o5
 have q12:y1.obj j12=some (.rows false 1 [[.ms jb 0 N N]]):=by rw[h1.obj l2];exact h12
 have qb:y1.obj jb=some (.rows false 1 (R1 bf N)):=by rw[h1.obj l3];exact hb
 by_cases c:n=s0
 ·have hw:=h3 [] (c▸Way.nil)
  simp[c]
  exact hk _ d o _ h1 (by simpa using hw) (by omega) (by simp)
 ·have hi0:0<i:=by
   rcases Nat.eq_zero_or_pos i with rfl|h
   ·rw[hB.hd] at h2;cases h2;exact absurd rfl c
   ·exact h
  obtain⟨e,he,j,hj,e1,e2,e3,e4,e5⟩:=hB.lk i hi hi0
  rw[hin] at e1 e2 e5
  have hnN:n<N:=by rw[←hin];exact hB.lt _ (List.getElem_mem hi)
  have hcc: ¬(n:Int)=s0:=by omega
  have rb:=R1_at (f:=bf) hnN
  rw[e1] at rb
  have hx1:=h1.nx
  simp(disch:=((try simp only[zc,ze,zf]);omega)) [hcc,q12,qb,rb,hnN]
  refine Rs_app (h1.new _) (new:=[eInt e]) (by simp[eInt]) (by decide) (by simp[eInt]) (by simp[eInt]) (by simp;omega) fun d' y2 hA=> ?_
  have hx2:=hA.nx
  have r5:y2.obj B.next=some (grO g):=by rw[hA.obj l1];exact o5
  have r12:y2.obj j12=some (.rows false 1 [[.ms jb 0 N N]]):=by rw[hA.obj l2];exact h12
  have rbb:y2.obj jb=some (.rows false 1 (R1 bf N)):=by rw[hA.obj l3];exact hb
  rw[show o.map eInt++[eInt e]=(o++[(e:Int)]).map eInt by rw[List.map_append];rfl] at hA
  have he':(e:Int)<g.es.length:=by omega
  simp at again
  simp(disch:=((try simp only[zc,ze,zf]);omega)) [r5,r12,rbb,rb,hnN,he,zF,e3]
  refine again y2 _ j d' (o++[(e:Int)]) hj hA ?_ (fun l hl=> ?_) ?_
  ·exact List.getElem?_eq_getElem _
  ·have:=h3 _ (hl.snoc e he e3 e4 n e2 e5)
   simpa using this
  ·simp;omega
end Go.Ideal.S
namespace Go.Ideal.S
open Go Go.Ideal Q Classical
attribute [local simp] decide_eq_true decide_eq_false zM
attribute [local simp] c_d f_d r_d_1 r_d_2 r_d_3 r_d_4 r_d_5 r_d_6 r_d_7 r_d_8 r_d_9 r_d_10 r_d_11 r_d_12 r_d_13 r_d_15 r_d_16 r_d_17 r_d_18 r_d_19 r_d_20 r_d_21 r_d_22 r_d_23 r_d_26
variable {M:VM} {k kp:DV→VM→Prop} {n0:Nat}
structure PaP (g:Gr) (mi:Nat) (w:Int) (s0 N:Nat) (q:Nat→Bool) (bf:Nat→Int) (m p:Nat) (qs:List Nat):Prop where
 bf:Bf g mi w s0 N bf qs
 lt:m<2^64
 seen: ∀v,m.testBit v=true↔v∈qs
 le:p≤qs.length
 no: ∀(i:Nat) (hi:i<qs.length),i<p→q qs[i]=false∧ ∀v,RF g (fun v=>mi.testBit v) w qs[i] v→v∈qs
theorem PaP.none {g:Gr} {mi:Nat} {w:Int} {s0 N:Nat} {q:Nat→Bool} {bf:Nat→Int} {m p:Nat} {qs:List Nat} (h:PaP g mi w s0 N q bf m p qs) (hp:p=qs.length) (n:Nat) (hn:Star (RF g (fun v=>mi.testBit v) w) s0 n):q n=false:=by
 subst hp
 have hin:n∈qs:=hn.keep (P:=fun v=>v∈qs) (fun a b ha r=>by
  obtain⟨i,hi,rfl⟩:=List.getElem_of_mem ha
  exact(h.no i hi hi).2 b r) (List.mem_of_getElem? h.bf.hd)
 obtain⟨i,hi,rfl⟩:=List.getElem_of_mem hin
 exact(h.no i hi hi).1
theorem jpath_ok {g:Gr} (hg:zbm g) {N:Nat} (hN:g.st=N) {mi:Nat} (hmi:mi<2^64) (w:Int) {s0:Nat} (hs0:s0<N) (f:DV) (q:Nat→Bool)
 (hq: ∀v,v<N→ ∀{M1:VM} {k kp:DV→VM→Prop},SM M.next M M1→M.next≤M1.next→k (.bool (q v)) M1→zq F f [I v] M1 k kp)
 (h1: ∀l n,Way g mi w s0 l n→q n=true→l.length<N→k (.tup [ints l,.bool true]) M)
 (h2:(∀n,Star (RF g (fun v=>mi.testBit v) w) s0 n→q n=false)→k (.tup [.nilS,.bool false]) M):zq F (.fn n_d [] []) [.agg (eGr g),I s0,Go.Ideal.S.setD mi,I w,f] M k kp:=by
 have g2:=hg.s2
 have g1:=hg.s1
 have hl:g.es.length≤1000000:=by have:=hg.el;omega
 apply zq.back
 refine .fn zie rfl (by simp[f_d]) ?_
 simp(disch:=((try simp only[zc,ze,zf]);omega)) [eGr,hN]
 refine repeat_ok (-1) N _ (by omega) (by omega) (by simp) (by simp) fun M1 jb q1 q2 q3 q4=> ?_
 have o5:=zR (j:=M.next) q1 (by simp;omega) (o:=grO g) (by simp(disch:=((try simp only[zc,ze]);omega)) [hN])
 have o7:=zR (j:=M.next+1) q1 (by simp<;>omega) (o:=setO mi) (by simp(disch:=((try simp only[zc,ze]);omega)))
 have o8:=zR (j:=M.next+2) q1 (by simp) (o:=intO w) (by simp(disch:=((try simp only[zc,ze]);omega)))
 have hs1:SM M.next M M1:=zeE (show SM M.next M ((((M.new _).new _).new _).new _) from(by repeat' (first|assumption|exact zg _ _|apply zk|apply zl|apply zm| ((try simp only[zc,ze,zf]);omega)))) (zfr q1 (by simp;omega))
 have hjb:M.next+4≤jb:=by simpa using q2
 clear q1 q2
 simp
 refine zjg 0 s0 _ (by decide) (by omega) (by simp) ?_
 simp
 have hr1:List.replicate N [I (-1)]=R1 (fun _=> -1) N:=by unfold R1;rw[List.map_const',List.length_range]
 have ho:PaO (fun j=>j≤M1.next+2∨j=M1.next+5) M.next jb M1.next (M1.next+2) (M1.next+5):=⟨by omega,by omega,by omega,by omega,fun j h=>.inl h,.inr rfl⟩
 refine zbR.gen (Q:=fun y=>PaM (fun j=>j≤M1.next+2∨j=M1.next+5) M y g mi w N jb M1.next (M1.next+2) (M1.next+5) (fun _=> -1) (2^s0) (.ms (M1.next+4) 0 1 1) [s0]) ?_ fun y0 hy0=> ?_
 ·refine⟨(by repeat' (first|assumption|exact zg _ _|apply zk|apply zl|apply zm| ((try simp only[zc,ze,zf]);omega))),by simp,by simp(disch:=((try simp only[zc,ze]);omega)) [o5],by simp(disch:=((try simp only[zc,ze]);omega)) [o7],by simp(disch:=((try simp only[zc,ze]);omega)) [o8],by simp(disch:=((try simp only[zc,ze]);omega)) [q4,hr1],by simp(disch:=((try simp only[zc,ze]);omega)),by simp(disch:=((try simp only[zc,ze]);omega)),by simp(disch:=((try simp only[zc,ze]);omega)),M1.next+4,0,1,[[I s0]],false,rfl,by omega,by simp,by simp(disch:=((try simp only[zc,ze]);omega)),fun i hi=> ?_,by simp,.inr ⟨rfl,rfl,by simp⟩⟩
  obtain rfl:i=0:=by simpa using hi
  rfl
 have hP0:PaP g mi w s0 N q (fun _=> -1) (2^s0) 0 [s0]:=⟨Bf.one hs0 _,Nat.pow_lt_pow_right (by omega) (by omega),fun v=>by rw[Nat.testBit_two_pow];simp;exact⟨fun h=>h.symm,fun h=>h.symm⟩,by simp,fun i hi h=>by omega⟩
 have hbig: ∀j,M1.next+5<j→ ¬(fun j=>j≤M1.next+2∨j=M1.next+5) j:=fun j h hh=>by rcases hh with hh|hh<;>omega
 generalize (fun j=>j≤M1.next+2∨j=M1.next+5)=bad at*
 generalize DV.ms (M1.next+4) 0 1 1=d0 at*
 have e12:M1.next=M1.next:=rfl
 generalize hj13:M1.next+2=j13 at*
 generalize hj14:M1.next+5=j14 at*
 rw[show j13+1+1+1=j14 by omega]
 generalize M1.next=j12 at*
 clear q4 o5 o7 o8 hs1 e12 hr1
 have a1:=ho.h1;have a2:=ho.h2;have a3:=ho.h3;have a4:=ho.h4
 refine .while (σ:=VM×(Nat→Int)×Nat×Nat×List Nat×DV) c_d_25.eq_1 (fun _=>[]) (fun z=>z.1) (fun z=>PaM bad M z.1 g mi w N jb j12 j13 j14 z.2.1 z.2.2.1 z.2.2.2.2.2 (z.2.2.2.2.1.drop z.2.2.2.1)∧PaP g mi w s0 N q z.2.1 z.2.2.1 z.2.2.2.1 z.2.2.2.2.1) (fun z=>N - z.2.2.2.1) (y0,fun _=> -1,2^s0,0,[s0],d0) (by simp) rfl ⟨hy0,hP0⟩ (fun z hP again=> ?_)
 clear hy0 hP0
 obtain⟨y,bf,m,p,qs,d⟩:=z
 obtain⟨hM,hP⟩:=hP
 dsimp only at*
 have o14:=hM.o14
 obtain⟨cd1,cd2,cd3⟩:=hM.qu.cell
 have hqN:=hP.bf.len
 by_cases hp:p=qs.length
 ·have hl0:(qs.drop p).length=0:=by simp;omega
  rw[hl0] at cd3
  simp[o14,cd3]
  exact Back.plain (by simp) hM.sm (h2 (hP.none hp))
 ·have hp2:p<qs.length:=by have:=hP.le;omega
  have hdr:qs.drop p=qs[p]::qs.drop (p+1):=List.drop_eq_getElem_cons hp2
  have hxN:=hP.bf.lt _ (List.getElem_mem hp2)
  have hxq:qs[p]? =some qs[p]:=List.getElem?_eq_getElem hp2
  rw[hdr] at hM cd3
  have hqu:=hM.qu
  generalize hx:qs[p]=x at*
  obtain⟨jq,lo,op,rs,hh1,hh2,hh3⟩:=hqu.head
  obtain⟨d',ht1,ht2⟩:=hqu.tail
  obtain⟨ce1,ce2,_⟩:=ht2.cell
  rw[List.length_cons] at cd3
  have hpos:(0:Int)<(((qs.drop (p+1)).length+1:Nat):Int):=by omega
  have hM1:=hM.setD ho ht2
  simp[o14,cd3,hpos,hh1,hh2,hh3,ht1,ce1,ce2]
  generalize y.put j14 (.rows false 1 [[d']])=y1 at*
  refine hq x hxN hM1.sm (by have:=hM1.nx;omega) ?_
  cases hqx:q x with
  |true=>
   simp
   refine path_out hg (by omega) hP.bf hxq hM1.o5 hM1.o12 hM1.ob (by have:=hM1.nx;omega) (by have:=hM1.nx;omega) (by have:=hM1.nx;omega) fun y2 d2 o s' hA hw hlen hs'=> ?_
   simp[hs']
   refine reverse_ok hA (by omega) fun y3 hA3 hn3=> ?_
   simp
   exact Back.accT hA3 hM1.sm (by have:=hM1.nx;omega) (b_map b_Int _) (by simp) (h1 _ _ hw hqx (by simp;omega))
  |false=>
   have p5:=hM1.o5
   simp[p5]
   refine from_ok g x fun M3 j2 j3 t1 t2 t3 t4 t5 t6=> ?_
   have hnx:=hM1.nx
   simp
   have ho2:PaO (fun j=>bad j∨j=M3.next∨j=j2∨j=j3) M.next jb j12 j13 j14:=⟨a1,a2,a3,a4,fun j h=>.inl (ho.b1 j h),.inl ho.b2⟩
   refine from_rg g hl x (Y:=j2) (p:=65) (q:=66) (Nat.le_refl _) (by omega) (by omega) t4 t5 t6 rfl rfl rfl (fun e y=> ∃bf m d qs2,PaM (fun j=>bad j∨j=M3.next∨j=j2∨j=j3) M y g mi w N jb j12 j13 j14 bf m d (qs2.drop (p+1))∧Bf g mi w s0 N bf qs2∧m<2^64∧(∀v,m.testBit v=true↔v∈qs2)∧(∃r,qs2=qs++r)∧j2<y.next∧ ∀(e':Nat) (he:e'<g.es.length),e'<e→g.es[e'].f=x→g.es[e'].a≠w→mi.testBit g.es[e'].t.toNat=true→g.es[e'].t.toNat∈qs2)
    ⟨bf,m,d',qs,(hM1.bad2 (fun j hj hh=>hh.elim id fun hh=>by omega)).frame ho2 (by omega) (fun j hj _=>t1 j hj),hP.bf,hP.lt,hP.seen,⟨[],by simp⟩,by omega,fun e' he h=>by omega⟩
    (fun e y y' ⟨bf,m,d,qs2,p1,p2,p3,p4,p5,p6,p7⟩ _ s hn=>⟨bf,m,d,qs2,p1.frame ho2 hn (fun j hj hh=>s j hj (by rintro rfl;rcases hh with hh|hh;omega;exact hh (.inr (.inl rfl)))),p2,p3,p4,p5,by omega,p7⟩)
    (fun e y he ⟨bf,m,d,qs2,p1,p2,p3,p4,p5,p6,p7⟩ hne=>⟨bf,m,d,qs2,p1,p2,p3,p4,p5,p6,fun e' he' h hf=> ?_⟩)
    (fun e y he ⟨bf,m,d,qs2,p1,p2,p3,p4,p5,p6,p7⟩ hf ly oj2 oj3 o1 o2 Ka Kb ol hA fin ret=> ?_) (fun y ⟨bf',m',d2,qs2,p1,p2,p3,p4,⟨r,p5⟩,p6,p7⟩ ly=> ?_)
   ·by_cases c:e'=e
    ·subst c;exact absurd hf hne
    ·exact p7 e' he' (by omega) hf
   ·have he0:=hg.ok _ (List.getElem_mem he)
    have b0:=he0.f0;have b1:=he0.t0;have b2:=he0.t1
    obtain⟨tn,htn⟩: ∃tn:Nat,g.es[e].t=tn:=⟨g.es[e].t.toNat,by omega⟩
    have htn2:g.es[e].t.toNat=tn:=by omega
    have htN:tn<N:=by omega
    have r1:=p1.frame ho2 (y':=((y.new (.rows false 3 [[I 0,I 0,I 0]])).put y.next (.rows false 3 [[I x,I g.es[e].a,I tn]])).put M3.next o2) (by simp;omega) fun j hj hh=>by
     rw[get_put,if_neg (by rintro rfl;rcases hh with hh|hh;omega;exact hh (.inr (.inl rfl))),get_put,if_neg (by omega),get_new,if_neg (by omega)]
    have r2:(((y.new (.rows false 3 [[I 0,I 0,I 0]])).put y.next (.rows false 3 [[I x,I g.es[e].a,I tn]])).put M3.next o2).obj y.next=some (.rows false 3 [[I x,I g.es[e].a,I tn]]):=by simp(disch:=omega)
    have r3:(((y.new (.rows false 3 [[I 0,I 0,I 0]])).put y.next (.rows false 3 [[I x,I g.es[e].a,I tn]])).put M3.next o2).obj M3.next=some o2:=by simp
    have r4:SM M3.next y (((y.new (.rows false 3 [[I 0,I 0,I 0]])).put y.next (.rows false 3 [[I x,I g.es[e].a,I tn]])).put M3.next o2):=(by repeat' (first|assumption|exact zg _ _|apply zk|apply zl|apply zm| ((try simp only[zc,ze,zf]);omega)))
    have r5:y.next<(((y.new (.rows false 3 [[I 0,I 0,I 0]])).put y.next (.rows false 3 [[I x,I g.es[e].a,I tn]])).put M3.next o2).next:=by simp;omega
    simp[c_d_24,zF,htn,hf]
    refine hA _ _ (by simp(disch:=((try simp only[zc,ze]);omega)) [ol]) ?_
    generalize ((y.new (.rows false 3 [[I 0,I 0,I 0]])).put y.next (.rows false 3 [[I x,I g.es[e].a,I tn]])).put M3.next o2=y2 at*
    have oj2':=zR r4 (by omega) oj2
    have oj3':=zR r4 (by omega) oj3
    have x7:=r1.o7;have x8:=r1.o8;have x13:=r1.o13;have x12:=r1.o12;have x14:=r1.o14;have xb:=r1.ob
    have hend:(g.es[e].a≠w→mi.testBit tn=true→tn∈qs2)→ ∀s',Kb.nrm s' y2:=fun hc s'=>by
     refine fin s' y2 r3 ⟨oj2',oj3',by omega,bf,m,d,qs2,r1,p2,p3,p4,p5,by omega,fun e' he' h hf ha hm=> ?_⟩
     by_cases c:e'=e
     ·subst c;rw[htn2] at hm⊢;exact hc ha hm
     ·exact p7 e' he' (by omega) hf ha hm
    by_cases hw:g.es[e].a=w
    ·simp[zcb,r2,x8,hw]
     exact hend (fun h=>absurd hw h) _
    ·simp[zcb,r2,x8,hw,x7]
     refine zdw mi tn hmi (by omega) ?_
     cases hb2:mi.testBit tn with
     |false=>
      simp[hb2]
      exact hend (fun _ h=>by rw[hb2] at h;cases h) _
     |true=>
      simp[hb2,x13,r2]
      refine zdw m tn p3 (by omega) ?_
      cases hb3:m.testBit tn with
      |true=>
       simp[hb3]
       exact hend (fun _ _=>(p4 tn).1 hb3) _
      |false=>
       have hnin:tn∉qs2:=fun h=>by rw[(p4 tn).2 h] at hb3;cases hb3
       obtain⟨r,hr⟩:=p5
       have hpq:p<qs2.length:=by rw[hr];simp;omega
       have hpx:qs2[p]=x:=by
        have:qs2[p]? =some x:=by rw[hr,List.getElem?_append_left hp2];exact hxq
        rw[List.getElem?_eq_getElem hpq] at this;exact Option.some.inj this
       have hBf:=p2.add hnin htN hpq he htn (by rw[hpx];exact hf) hw hb2
       have hq2:=p2.len
       simp[hb3,r2]
       refine zjg m tn _ p3 (by omega) x13 ?_
       have s1:=r1.setM ho2 (m ||| 2^tn)
       have rcx:=R1_at (f:=bf) htN
       have s2:=s1.setB ho2 (R:=(R1 bf N).set tn [I e]) (bf':=up1 bf tn e) R1_set
       have n13:y.next≠j13:=by omega
       have nb:y.next≠jb:=by omega
       have y14:=s2.o14
       simp(disch:=((try simp only[zc,ze,zf]);omega)) [r2,x12,xb,htN,rcx,x14]
       have hne: ¬((fun j=>bad j∨j=M3.next∨j=j2∨j=j3) (((y2.put j13 (setO (m ||| 2^tn))).put jb (.rows false 1 ((R1 bf N).set tn [I e]))).new (.rows false 1 [[I tn]])).next):=by
        have hz:=hbig (((y2.put j13 (setO (m ||| 2^tn))).put jb (.rows false 1 ((R1 bf N).set tn [I e]))).new (.rows false 1 [[I tn]])).next (by simp;omega)
        intro hh
        rcases hh with hh|hh
        ·exact hz hh
        ·simp at hh;omega
       refine Rs_qpush (x:=tn) (s2.new ho2 _).qu (by simp;omega) hne (by simp) fun d3 y3 hq3 hn3 hf3=> ?_
       have s3:=(s2.new ho2 (.rows false 1 [[I tn]])).push ho2 hn3 hf3 hq3
       obtain⟨ce3,ce4,_⟩:=hq3.cell
       have z14:y3.obj j14=some (.rows false 1 [[d]]):=by
        have:=(s2.new ho2 (.rows false 1 [[I tn]])).o14
        rw[←this];show(y3.get j14).map _=(VM.get _ j14).map _;rw[hf3 j14 (by simp;omega) ho2.b2]
       have ho3: ∀j o,((fun j=>bad j∨j=M3.next∨j=j2∨j=j3) j)→j<y2.next→j≠j13→j≠jb→j≠j14→y2.obj j=some o→(y3.put j14 (.rows false 1 [[d3]])).obj j=some o:=fun j o hb hlt e1 e2 e3 e4=>by
        rw[zby,if_neg e3,←e4]
        show(y3.get j).map _=(y2.get j).map _
        rw[hf3 j (by simp;omega) hb,get_new,if_neg (by simp;omega),get_put,if_neg e2,get_put,if_neg e1]
       simp[z14,ce3,ce4]
       rw[←List.drop_append_of_le_length (by omega)] at s3
       refine fin _ _ (ho3 _ _ (.inr (.inl rfl)) (by omega) (by omega) (by omega) (by omega) r3) ⟨ho3 _ _ (.inr (.inr (.inl rfl))) (by omega) (by omega) (by omega) (by omega) oj2',ho3 _ _ (.inr (.inr (.inr rfl))) (by omega) (by omega) (by omega) (by omega) oj3',by simp at hn3⊢;omega,up1 bf tn e,m ||| 2^tn,d3,qs2++[tn],s3,hBf,or_lt p3 (by omega),fun v=> ?_,⟨r++[tn],by rw[hr,List.append_assoc]⟩,by simp at hn3⊢;omega,fun e' he' h hf' ha hm=> ?_⟩
       ·rw[zlP,p4,List.mem_append,List.mem_singleton]
       ·by_cases c:e'=e
        ·subst c;rw[htn2];exact List.mem_append_right _ (by simp)
        ·exact List.mem_append_left _ (p7 e' he' (by omega) hf' ha hm)
   ·simp at again
    simp
    have hq2:=p2.len
    have hlen2:qs2.length=qs.length+r.length:=by rw[p5];simp
    refine again y bf' m' (p+1) qs2 d2 (by omega) (p1.bad2 fun j _ hj=>.inl hj) ⟨p2,p3,p4,by omega,fun i hi hip=> ?_⟩
    by_cases c:i=p
    ·subst c
     have hpx:qs2[i]=x:=by
      have:qs2[i]? =some x:=by simp only[p5];rw[List.getElem?_append_left hp2];exact hxq
      rw[List.getElem?_eq_getElem hi] at this;exact Option.some.inj this
     rw[hpx]
     refine⟨hqx,fun v ⟨e,q1,q2,q3,q4,q5⟩=> ?_⟩
     obtain⟨q,hq,rfl⟩:=List.getElem_of_mem q1
     have:=p7 q hq hq q2 q4 (by rw[q3];simpa using q5)
     rw[q3] at this;simpa using this
    ·have hi0:i<qs.length:=by omega
     have hpx:qs2[i]=qs[i]:=by
      have:qs2[i]? =qs[i]?:=by simp only[p5];rw[List.getElem?_append_left hi0]
      rw[List.getElem?_eq_getElem hi,List.getElem?_eq_getElem hi0] at this;exact Option.some.inj this
     rw[hpx]
     obtain⟨q1,q2⟩:=hP.no i hi0 (by omega)
     exact⟨q1,fun v hv=>by rw[p5];exact List.mem_append_left _ (q2 v hv)⟩
end Go.Ideal.S
namespace Go.Ideal.S
open Go Go.Ideal Q Classical
attribute [local simp] decide_eq_true decide_eq_false zM
attribute [local simp] r_P c_P f_P r_P_1 r_P_2 r_P_3 r_P_4 r_P_5 r_P_6 r_P_7
def Lb (bad:Nat→Prop) (y:VM) (d:DV) (l:List Int):Prop:=(l=[]∧d=.nilS)∨ ∃j op cap,¬bad j∧j<y.next∧d=.ms j 0 l.length cap∧y.obj j=some (.rows op 1 (l.map eInt))∧(op=true∧cap=zj∨op=false∧cap=l.length∧cap<zj)
section
variable {bad bad':Nat→Prop} {y y':VM} {d:DV} {l:List Int} {x:Int}
theorem Lb.keep (h:Lb bad y d l) (hn:y.next≤y'.next) (ho: ∀j,j<y.next→ ¬bad j→y'.get j=y.get j) (hb: ∀j,j<y.next→bad' j→bad j):Lb bad' y' d l:=by
 rcases h with h| ⟨j,op,cap,h1,h2,h3,h4,h5⟩
 ·exact .inl h
 ·refine .inr ⟨j,op,cap,fun hh=>h1 (hb j h2 hh),by omega,h3,?_,h5⟩
  rw[←h4];show(y'.get j).map _=(y.get j).map _;rw[ho j h2 h1]
theorem Lb.put (h:Lb bad y d l) {j:Nat} (hj:bad j) (o:MO):Lb bad (y.put j o) d l:=h.keep (by simp) (fun i _ hi=>by rw[get_put,if_neg (by rintro rfl;exact hi hj)]) fun _ _ h=>h
theorem Lb.new (h:Lb bad y d l) (o:MO):Lb bad (y.new o) d l:=h.keep (by simp) (fun i hi _=>by rw[get_new,if_neg (by omega)]) fun _ _ h=>h
theorem Lb.cell (h:Lb bad y d l):zV d=[d]∧zL d=true:=by
 rcases h with⟨_,rfl⟩| ⟨j,op,cap,h1,h2,rfl,_⟩<;>exact⟨rfl,rfl⟩
theorem Rs_lb {X:RnD} {fr:FrC} {jb:Nat} {dst:Option (List Bool)} {r:List CI} {sl:DS} (h:Lb bad y d l) (hl:l.length≤1000000) (hY: ¬bad y.next) (hb:y.obj jb=some (.rows false 1 [[I x]]))
 (k: ∀d' y',Lb bad y' d' (l++[x])→y.next≤y'.next→(∀j,j<y.next→bad j→y'.get j=y.get j)→ @Op X fr r (zbk dst d' sl) y'): @Rs X fr (bltD y (.append 1 8) [d,.ms jb 0 1 1]) dst r sl:=by
 rw[zeA,if_pos ⟨by decide,by decide⟩,zfn,hb]
 rw[show elO 1 0 1 (some (MO.rows false 1 [[I x]]))=some [[I x]] from by simp,zg8,if_pos (by simp)]
 have hlen:(l.map eInt++[[I x]]).length=(l++[x]).length:=by simp
 have hnew: ∀(y2:VM) (nx:y2.next=y.next),Lb bad (y2.new (.rows true 1 (l.map eInt++[[I x]]))) (.ms y.next 0 (l.map eInt++[[I x]]).length zj) (l++[x]):=fun y2 nx=>
  .inr ⟨y.next,true,zj,hY,by simp[nx],by rw[hlen],by rw[←nx,List.map_append];simp;rfl,.inl ⟨rfl,rfl⟩⟩
 rcases h with⟨rfl,rfl⟩| ⟨j,op,cap,h1,h2,rfl,h4,h5⟩
 ·have e:zbf 1 8 y [[I x]] .nilS=some (.ms y.next 0 1 zj,y.new (.rows true 1 [[I x]])):=by simp
  rw[e]
  exact k _ _ (hnew y rfl) (by simp) fun i hi _=>by rw[get_new,if_neg (by omega)]
 ·have ht:((l.map eInt).drop 0).take l.length=l.map eInt:=by rw[List.drop_zero,List.take_of_length_le (by simp)]
  rcases h5 with⟨rfl,rfl⟩| ⟨rfl,rfl,h6⟩
  ·have e:zbf 1 8 y [[I x]] (.ms j 0 l.length zj)=some (.ms y.next 0 (l.map eInt++[[I x]]).length zj,(y.del j).new (.rows true 1 (l.map eInt++[[I x]]))):=by
    rw[zcW,if_neg (by simp),if_pos (by simp;omega),h4,zfD,zcQ,if_pos ⟨rfl,by simp⟩,if_neg (by simp),ht]
   rw[e]
   exact k _ _ (hnew _ rfl) (by simp) fun i hi hbi=>by rw[get_new,if_neg (by simp;omega),zhH,if_neg (by rintro rfl;exact h1 hbi)]
  ·have e:zbf 1 8 y [[I x]] (.ms j 0 l.length l.length)=some (.ms y.next 0 (l.map eInt++[[I x]]).length zj,y.new (.rows true 1 (l.map eInt++[[I x]]))):=by
    rw[zcW,if_neg (by simp),if_pos (by simp;omega),h4,zfD]
    unfold zcA
    dsimp only
    rw[if_pos ⟨rfl,by simp⟩,if_pos h6,if_neg (by simp),ht];rfl
   rw[e]
   exact k _ _ (hnew _ rfl) (by simp) fun i hi _=>by rw[get_new,if_neg (by omega)]
end
def endOf (es:List Edge) (a:Int) (l:List Int):Int:=match l.getLast? with
 |none=>a
 |some x=>(eAt es x).t
theorem zjN (es:List Edge) (a:Int) (l:List Int) (x:Int):endOf es a (l++[x])=(eAt es x).t:=by unfold endOf;simp
theorem Way.last {g:Gr} {mi:Nat} {w:Int} {s n:Nat} {l:List Int} (h:Way g mi w s l n):endOf g.es s l=n:=by
 cases h with
 |nil=>rfl
 |snoc h e he h1 h2 u h3 h4=>rw[zjN,zdL he,h3]
variable {M:VM} {k kp:DV→VM→Prop} {n0:Nat}
theorem walk_ok {g:Gr} (hg:zbm g) {N:Nat} (hN:g.st=N) {mi:Nat} (hmi:mi<2^64) (w:Int) (fis:DV) (q:Nat→Bool) {bad:Nat→Prop} {jg ja ji jw jo a0:Nat} {d:DV} {l:List Int}
 (og:M.obj jg=some (grO g)) (oa:M.obj ja=some (intO a0)) (oi:M.obj ji=some (setO mi)) (ow:M.obj jw=some (intO w)) (oo:M.obj jo=some (.rows false 1 [[d]])) (hl:Lb bad M d l)
 (bg:bad jg∧jg<M.next) (ba:bad ja∧ja<M.next) (bo:bad jo∧jo<M.next) (hne:ja≠jo∧jg≠ja∧jg≠jo) (hbig: ∀j,M.next≤j→ ¬bad j) (ha:a0<N) (hll:l.length≤100000)
 (hq: ∀v,v<N→ ∀{M1:VM} {k kp:DV→VM→Prop},SM M.next M M1→M.next≤M1.next→k (.bool (q v)) M1→zq F fis [I v] M1 k kp)
 (hex: ∃n,Star (RF g (fun v=>mi.testBit v) w) a0 n∧q n=true)
 (hk: ∀M' d' l2 n,Way g mi w a0 l2 n→q n=true→l2.length<N→M.next≤M'.next→(∀j,j<M.next→bad j→j≠ja→j≠jo→M'.get j=M.get j)→M'.obj ja=some (intO n)→M'.obj jo=some (.rows false 1 [[d']])→Lb bad M' d' (l++l2)→k (.tup []) M'):
 zq F (.fn n_P [] [.ptr jg 0 0,.ptr ja 0 0,.ptr ji 0 0,.ptr jw 0 0,.ptr jo 0 0]) [fis] M k kp:=by
 have g2:=hg.s2
 refine .fn zgR rfl (by simp[f_P]) ?_
 simp[og,oa,oi,ow]
 refine jpath_ok hg hN hmi w ha fis q hq (fun l2 n hw hqn hlen=> ?_) (fun hno=> ?_)
 ·have hE:=hw.edges
  simp
  refine .for (σ:=VM×DV) c_P_8.eq_1 (fun i _=>[(22,I i)]) (fun z=>z.1) (fun i z=>M.next≤z.1.next∧(∀j,j<M.next→bad j→j≠ja→j≠jo→z.1.get j=M.get j)∧z.1.obj ja=some (intO (endOf g.es a0 (l2.take i)))∧z.1.obj jo=some (.rows false 1 [[z.2]])∧Lb bad z.1 z.2 (l++l2.take i)) l2.length (M,d) (by simp) rfl ⟨Nat.le_refl _,fun _ _ _ _ _=>rfl,oa,oo,by simpa using hl⟩ (fun i z hi hP again=> ?_) (fun z hP=> ?_)
  ·obtain⟨y,d2⟩:=z
   obtain⟨p1,p2,p3,p4,p5⟩:=hP
   dsimp only at*
   have hx:=hE _ (List.getElem_mem hi)
   obtain⟨e,he⟩: ∃e:Nat,l2[i]=e:=⟨l2[i].toNat,by omega⟩
   have hel:e<g.es.length:=by omega
   have pg:y.obj jg=some (grO g):=by rw[←og];show(y.get jg).map _=(M.get jg).map _;rw[p2 jg bg.2 bg.1 hne.2.1 hne.2.2]
   rw[List.take_succ_eq_append_getElem hi,he] at again
   rw[zjN,zdL hel,←List.append_assoc] at again
   simp at again
   have hlt:=List.length_take_le i l2
   simp[hi,p4,eInt,he]
   refine Rs_lb (x:=e) (p5.new _) (by simp;omega) (hbig _ (by simp;omega)) (by simp) fun d3 y3 q1 q2 q3=> ?_
   obtain⟨c1,c2⟩:=q1.cell
   have q3': ∀j,j<M.next→bad j→y3.get j=y.get j:=fun j hj hb=>by rw[q3 j (by simp;omega) hb,get_new,if_neg (by omega)]
   have ob: ∀j o,j<M.next→bad j→y.obj j=some o→y3.obj j=some o:=fun j o h1 h2 h3=>by
    rw[←h3];show(y3.get j).map _=(y.get j).map _;rw[q3' j h1 h2]
   have ro:=ob _ _ bo.2 bo.1 p4
   have rg:=ob _ _ bg.2 bg.1 pg
   have ra:=ob _ _ ba.2 ba.1 p3
   have n1:=hne.1;have n2:=hne.2.1;have n3:=hne.2.2
   simp only[zc] at q2
   simp(disch:=((try simp only[zc,ze,zf]);omega)) [ro,rg,ra,c1,c2,he,hel,zF]
   refine again _ d3 (by simp;omega) (fun j h1 h2 h3 h4=> ?_) (by simp) (by simp(disch:=omega)) (by rw[←List.append_assoc];exact(q1.put bo.1 _).put ba.1 _)
   rw[get_put,if_neg h3,get_put,if_neg h4,q3' j h1 h2];exact p2 j h1 h2 h3 h4
  ·obtain⟨y,d2⟩:=z
   obtain⟨p1,p2,p3,p4,p5⟩:=hP
   dsimp only at*
   rw[List.take_length] at p3 p5
   rw[hw.last] at p3
   simp
   exact hk y d2 l2 n hw hqn hlen p1 p2 p3 p4 p5
 ·obtain⟨n,h1,h2⟩:=hex
  rw[hno n h1] at h2;cases h2
end Go.Ideal.S
set_option maxHeartbeats 4000000
namespace Go.Ideal.S
open Go Go.Ideal Q Classical
attribute [local simp] decide_eq_true decide_eq_false zM
attribute [local simp] c_c f_c r_c_5 r_c_6 r_c_7 r_c_8 r_c_9 r_c_10 r_c_11 r_c_12 r_c_13 r_c_14 r_c_16 r_c_17 r_c_18 r_c_19 r_8 c_8 f_8 r_8_1 r_8_2 r_3 c_3 f_3 r_3_1 r_3_2 r_3_3 r_3_4 r_9 c_9 f_9 r_9_1 r_9_2
variable {M:VM} {k kp:DV→VM→Prop} {n0:Nat}
theorem is2_ok {j v f:Nat} {a b:Int} (ho:M.obj j=some (.rows false 3 [[I f,I a,I b]])) (hk:k (.bool (decide (v=f))) M):zq F (.fn n_8 [] [.ptr j 0 0]) [I v] M k kp:=by
 apply zq.back
 refine .fn zgQ rfl (by simp[f_8]) ?_
 have:((v:Int)=f)=(v=f):=propext ⟨fun h=>by omega,fun h=>by omega⟩
 rw[←show decide ((v:Int)=f)=decide (v=f) by simp only[this]] at hk
 simp[ho]
 exact Back.plain (by simp) (by repeat' (first|assumption|exact zg _ _|apply zk|apply zl|apply zm| ((try simp only[zc,ze,zf]);omega))) hk
theorem is4_ok {j v f:Nat} (ho:M.obj j=some (intO f)) (hk:k (.bool (decide (v=f))) M):zq F (.fn n_9 [] [.ptr j 0 0]) [I v] M k kp:=by
 apply zq.back
 refine .fn zgO rfl (by simp[f_9]) ?_
 have:((v:Int)=f)=(v=f):=propext ⟨fun h=>by omega,fun h=>by omega⟩
 rw[←show decide ((v:Int)=f)=decide (v=f) by simp only[this]] at hk
 simp[ho]
 exact Back.plain (by simp) (by repeat' (first|assumption|exact zg _ _|apply zk|apply zl|apply zm| ((try simp only[zc,ze,zf]);omega))) hk
theorem is3_ok {g:Gr} (hg:zbm g) {jg jw v:Nat} {w:Int} (og:M.obj jg=some (grO g)) (ow:M.obj jw=some (intO w)) (l1:jg<M.next) (l2:jw<M.next) (hv:v<60) (hk:k (.bool (opnB g (2^v:Nat).testBit w)) M):zq F (.fn n_3 [] [.ptr jg 0 0,.ptr jw 0 0]) [I v] M k kp:=by
 have hl:g.es.length≤1000000:=by have:=hg.el;omega
 have g2:=hg.s2
 apply zq.back
 refine .fn zgP rfl (by simp[f_3]) ?_
 simp
 refine zjg 0 v _ (by decide) (by omega) (by simp) ?_
 simp(disch:=((try simp only[zc,ze,zf]);omega)) [og,ow]
 refine jopen_ok g (2^v) w hl (Nat.pow_lt_pow_right (by omega) (by omega)) (fun e he=>by have h:=hg.ok e he;have:=h.f0;have:=h.f1;omega) ?_
 rw[show(g.es.any fun e=>(2^v:Nat).testBit e.f.toNat&&decide (e.a=w))=opnB g (2^v:Nat).testBit w from rfl]
 generalize opnB g (2^v:Nat).testBit w=b at*
 simp
 exact Back.plain (by simp) (by repeat' (first|assumption|exact zg _ _|apply zk|apply zl|apply zm| ((try simp only[zc,ze,zf]);omega))) hk
structure RiM (B y:VM) (g:Gr) (mi:Nat) (w:Int) (n:Nat) (at_:Nat) (d:DV) (l:List Int) (b9:List Bool):Prop where
 sm:SM B.next B y
 nx:B.next+8≤y.next
 o5:y.obj B.next=some (grO g)
 o6:y.obj (B.next+1)=some (intO n)
 o7:y.obj (B.next+2)=some (setO mi)
 o8:y.obj (B.next+3)=some (intO w)
 o11:y.obj (B.next+4)=some (.rows false 1 [[d]])
 o12:y.obj (B.next+5)=some (intO at_)
 o14:y.obj (B.next+7)=some (.rows false 40 [b9.map .bool])
 lb:Lb (fun j=>j<B.next+8) y d l
theorem RiM.walk {B y y':VM} {g:Gr} {mi:Nat} {w:Int} {n at_ a2:Nat} {d d2:DV} {l l2:List Int} {b9:List Bool} {bad:Nat→Prop} (h:RiM B y g mi w n at_ d l b9) (hb: ∀j,j<B.next+8→bad j) (hn:y.next≤y'.next)
 (hf: ∀j,j<y.next→bad j→j≠B.next+5→j≠B.next+4→y'.get j=y.get j) (h1:y'.obj (B.next+5)=some (intO a2)) (h2:y'.obj (B.next+4)=some (.rows false 1 [[d2]])) (h3:Lb bad y' d2 l2):RiM B y' g mi w n a2 d2 l2 b9:=by
 have hx:=h.nx
 have ob: ∀j o,j<B.next+8→j≠B.next+5→j≠B.next+4→y.obj j=some o→y'.obj j=some o:=fun j o a b c e=>by
  rw[←e];show(y'.get j).map _=(y.get j).map _;rw[hf j (by omega) (hb j a) b c]
 exact⟨fun j hj=>(hf j (by omega) (hb j (by omega)) (by omega) (by omega)).trans (h.sm j hj),by omega,ob _ _ (by omega) (by omega) (by omega) h.o5,ob _ _ (by omega) (by omega) (by omega) h.o6,ob _ _ (by omega) (by omega) (by omega) h.o7,ob _ _ (by omega) (by omega) (by omega) h.o8,h2,h1,ob _ _ (by omega) (by omega) (by omega) h.o14,h3.keep (Nat.le_refl _) (fun _ _ _=>rfl) fun j _ hj=>hb j hj⟩
theorem RiM.frame {B y y':VM} {g:Gr} {mi:Nat} {w:Int} {n at_:Nat} {d:DV} {l:List Int} {b9:List Bool} (h:RiM B y g mi w n at_ d l b9) (hs:SM y.next y y') (hn:y.next≤y'.next):RiM B y' g mi w n at_ d l b9:=by
 have hx:=h.nx
 exact⟨zeE h.sm (zfr hs (by omega)),by omega,zR hs (by omega) h.o5,zR hs (by omega) h.o6,zR hs (by omega) h.o7,zR hs (by omega) h.o8,zR hs (by omega) h.o11,zR hs (by omega) h.o12,zR hs (by omega) h.o14,h.lb.keep hn (fun j hj _=>hs j hj) fun _ _ h=>h⟩
theorem RiM.done {B y:VM} {g:Gr} {mi:Nat} {w:Int} {n at_:Nat} {d:DV} {l:List Int} {b9:List Bool} (h:RiM B y g mi w n at_ d l b9) (b2:List Bool):RiM B (y.put (B.next+7) (.rows false 40 [b2.map .bool])) g mi w n at_ d l b2:=by
 have hx:=h.nx
 exact⟨zk h.sm (by omega),by simp;omega,by simp(disch:=omega) [h.o5],by simp(disch:=omega) [h.o6],by simp(disch:=omega) [h.o7],by simp(disch:=omega) [h.o8],by simp(disch:=omega) [h.o11],by simp(disch:=omega) [h.o12],by simp,h.lb.put (by omega) _⟩
theorem Way.head {g:Gr} {mi:Nat} {w:Int} {s n:Nat} {l:List Int} (h:Way g mi w s l n):(l=[]∧n=s)∨ ∃x∈l,(eAt g.es x).f=s:=by
 induction h with
 |nil=>exact .inl ⟨rfl,rfl⟩
 |snoc h e he h1 h2 u h3 h4 ih=>
  rcases ih with⟨rfl,rfl⟩| ⟨x,hx,h5⟩
  ·exact .inr ⟨e,by simp,by rw[zdL he];exact h1⟩
  ·exact .inr ⟨x,List.mem_append_left _ hx,h5⟩
theorem Way.inn {g:Gr} {mi:Nat} {w:Int} {s n:Nat} {l:List Int} (h:Way g mi w s l n) (hs:mi.testBit s=true):mi.testBit n=true:=by
 cases h with
 |nil=>exact hs
 |snoc _ _ _ _ _ _ _ h4=>exact h4
structure zkb (g:Gr) (mi:Nat) (w:Int) (also:Bool) (n:Nat) (l:List Int):Prop where
 way:Way g mi w n l n
 act: ∀x,x≠w→Ins (EG g) (fun v=>mi.testBit v=true) x→ ∃e∈l,(eAt g.es e).a=x
 opn:also=true→ ∃e∈l,∃e2∈g.es,e2.f=(eAt g.es e).f∧e2.a=w
 len:l.length≤2600
structure RiP (g:Gr) (mi:Nat) (w:Int) (n i:Nat) (at_:Nat) (l:List Int) (b9:List Bool):Prop where
 way:Way g mi w n l at_
 b:b9.length=40
 len:l.length≤60*b9.countP fun b=>b
 act: ∀(q:Nat) (hq:q<g.es.length),q<i→g.es[q].a≠w→mi.testBit g.es[q].f.toNat=true→mi.testBit g.es[q].t.toNat=true→b9[g.es[q].a.toNat]? =some true
 has: ∀a:Nat,b9[a]? =some true→ ∃e∈l,(eAt g.es e).a=a
theorem cnt_set {l:List Bool} {a:Nat} (h:l[a]? =some false):(l.set a true).countP (fun b=>b)=l.countP (fun b=>b)+1:=by
 induction l generalizing a with
 |nil=>cases h
 |cons b l ih=>
  cases a with
  |zero=>
   obtain rfl:b=false:=by simpa using h
   simp
  |succ a=>
   have:=ih (a:=a) (by simpa using h)
   rw[List.set_cons_succ,List.countP_cons,List.countP_cons,this];omega
theorem zg1 {g:Gr} {mi:Nat} {w:Int} {st:Bool} (hC:Core (EG g) w st (fun v=>mi.testBit v=true)) {a b:Nat} (ha:mi.testBit a=true) (hb:mi.testBit b=true):Star (RF g (fun v=>mi.testBit v) w) a b:=zkc.2 (hC.con a b ha hb)
end Go.Ideal.S
namespace Go.Ideal.S
open Go Go.Ideal Q Classical
attribute [local simp] decide_eq_true decide_eq_false zM
attribute [local simp] c_c f_c r_c_5 r_c_6 r_c_7 r_c_8 r_c_9 r_c_10 r_c_11 r_c_12 r_c_13 r_c_14 r_c_16 r_c_17 r_c_18 r_c_19 r_P r_8 r_3 r_9
variable {M:VM} {k kp:DV→VM→Prop} {n0:Nat}
theorem Back.lb {bad:Nat→Prop} {y M0:VM} {d:DV} {l:List Int} {k:DV→VM→Prop} (h:Lb bad y d l) (hb: ∀j,j<M0.next→bad j) (hs:SM M0.next M0 y) (hk:k (ints l) M0):Back k M0 d y:=fun hw=>by
 refine⟨ints l,?_,zkw b_Int l,fun j hj=>hs j hj,hk⟩
 rcases h with⟨rfl,rfl⟩| ⟨j,op,cap,h1,h2,rfl,h4,_⟩
 ·exact .nilS 1
 ·exact .ms0 h4 (hw j (by
   rcases Nat.lt_or_ge j M0.next with h|h
   ·exact absurd (hb j h) h1
   ·exact h)) (by simp) (l_map l_Int l)
theorem jring_ok {g:Gr} (hg:zbm g) {N:Nat} (hN:g.st=N) {mi:Nat} (hmi:mi<2^64) (w:Int) (st also:Bool) (hC:Core (EG g) w st (fun v=>mi.testBit v=true)) {n:Nat} (hn:mi.testBit n=true) (hin: ∀v,mi.testBit v=true→v<N)
 (hal:also=true→Opn (EG g) (fun v=>mi.testBit v=true) w) (hk: ∀l,zkb g mi w also n l→k (ints l) M):zq F (.fn n_c [] []) [.agg (eGr g),I n,Go.Ideal.S.setD mi,I w,.bool also] M k kp:=by
 have g2:=hg.s2
 have ga:=hg.a2
 have hl:g.es.length≤1000000:=by have:=hg.el;omega
 apply zq.back
 refine .fn zid rfl (by simp[f_c]) ?_
 simp(disch:=((try simp only[zc,ze,zf]);omega)) [eGr]
 refine zbR.gen (Q:=fun y=>RiM M y g mi w n n .nilS [] no40) ⟨(by repeat' (first|assumption|exact zg _ _|apply zk|apply zl|apply zm| ((try simp only[zc,ze,zf]);omega))),by(try simp only[zc,ze]);omega,?_,?_,?_,?_,?_,?_,?_,.inl ⟨rfl,rfl⟩⟩ fun y0 hy0=> ?_
 iterate 7 exact by simp(disch:=((try simp only[zc,ze]);omega)) [no40]
 refine .for (σ:=VM×DV×List Int×Nat×List Bool) c_c_15.eq_1 (fun i _=>[(23,I i)]) (fun z=>z.1) (fun i z=>RiM M z.1 g mi w n z.2.2.2.1 z.2.1 z.2.2.1 z.2.2.2.2∧RiP g mi w n i z.2.2.2.1 z.2.2.1 z.2.2.2.2) g.es.length (y0,.nilS,[],n,no40) (by simp) rfl
  ⟨hy0,.nil,no40_len,by simp,fun q hq h=>by omega,fun a h=>absurd h (rep_on _ _)⟩ (fun i z hi hP again=> ?_) (fun z hP=> ?_)
 ·obtain⟨y,d,l,at_,b9⟩:=z
  obtain⟨hM,hP⟩:=hP
  dsimp only at*
  have hx:=hM.nx
  have o5:=hM.o5;have o7:=hM.o7;have o8:=hM.o8;have o14:=hM.o14
  have he:=hg.ok _ (List.getElem_mem hi)
  have c0:=he.f0;have c1:=he.f1;have c2:=he.t0;have c3:=he.t1;have c4:=he.a0;have c5:=he.a1
  obtain⟨fn,hf⟩:=Int.eq_ofNat_of_zero_le c0
  obtain⟨tn,ht⟩:=Int.eq_ofNat_of_zero_le c2
  obtain⟨an,ha⟩:=Int.eq_ofNat_of_zero_le c4
  have ha40:an<40:=by omega
  have hb:=hP.b
  have hab:an<b9.length:=by omega
  have hrd:oneD ((b9.map DV.bool).drop an)=some (.bool b9[an]):=by rw[List.drop_eq_getElem_cons (by simpa using hab)];simp[oneD]
  have hw1:z8 (b9.map DV.bool) an [.bool true]=some ((b9.set an true).map DV.bool):=by rw[zkz _ _ _ (by simpa using hab),List.map_set]
  simp at again
  have s2:SM y.next y ((y.new (.rows false 3 [[I 0,I 0,I 0]])).put y.next (.rows false 3 [[I fn,I an,I tn]])):=(by repeat' (first|assumption|exact zg _ _|apply zk|apply zl|apply zm| ((try simp only[zc,ze,zf]);omega)))
  have n2:y.next<((y.new (.rows false 3 [[I 0,I 0,I 0]])).put y.next (.rows false 3 [[I fn,I an,I tn]])).next:=by simp;omega
  have o2:((y.new (.rows false 3 [[I 0,I 0,I 0]])).put y.next (.rows false 3 [[I fn,I an,I tn]])).obj y.next=some (.rows false 3 [[I fn,I an,I tn]]):=by simp
  have hM2:=hM.frame s2 (by omega)
  have skip: ¬((an:Int)≠w∧b9[an]=false∧mi.testBit fn=true∧mi.testBit tn=true)→RiP g mi w n (i+1) at_ l b9:=fun hc=>⟨hP.way,hP.b,hP.len,fun q hq hqi h1 h2 h3=>by
   by_cases e:q=i
   ·subst e
    rw[hf,Int.toNat_natCast] at h2
    rw[ht,Int.toNat_natCast] at h3
    rw[ha] at h1⊢
    rw[Int.toNat_natCast,List.getElem?_eq_getElem hab]
    cases hh:b9[an] with
    |true=>rfl
    |false=>exact absurd ⟨h1,hh,h2,h3⟩ hc
   ·exact hP.act q hq (by omega) h1 h2 h3,hP.has⟩
  by_cases w1:(an:Int)=w
  ·simp(disch:=((try simp only[zc,ze,zf]);omega)) [hi,zF,hf,ht,ha,w1,o8]
   rw[w1] at hM2
   exact again _ _ _ _ _ hM2 (skip fun h=>h.1 w1)
  ·cases w2:b9[an] with
   |true=>
    rw[w2] at hrd
    simp(disch:=((try simp only[zc,ze,zf]);omega)) [hi,zF,hf,ht,ha,w1,o8,ha40,o14,hrd]
    exact again _ _ _ _ _ hM2 (skip fun h=>by rw[w2] at h;exact absurd h.2.1 (by simp))
   |false=>
    rw[w2] at hrd
    simp(disch:=((try simp only[zc,ze,zf]);omega)) [hi,zF,hf,ht,ha,w1,o8,ha40,o14,hrd,o7]
    generalize (y.new (.rows false 3 [[I 0,I 0,I 0]])).put y.next (.rows false 3 [[I fn,I an,I tn]])=y2 at*
    refine zdw mi fn hmi (by omega) ?_
    cases w3:mi.testBit fn with
    |false=>
     simp(disch:=((try simp only[zc,ze,zf]);omega)) [w3]
     exact again _ _ _ _ _ hM2 (skip fun h=>by rw[w3] at h;exact absurd h.2.2.1 (by simp))
    |true=>
     have o7':=hM2.o7
     simp[w3,o7',o2]
     refine zdw mi tn hmi (by omega) ?_
     cases w4:mi.testBit tn with
     |false=>
      simp(disch:=((try simp only[zc,ze,zf]);omega)) [w4]
      exact again _ _ _ _ _ hM2 (skip fun h=>by rw[w4] at h;exact absurd h.2.2.2 (by simp))
     |true=>
      clear skip
      have o14':=hM2.o14
      have hM3:=hM2.done (b9.set an true)
      rw[List.map_set] at hM3 hw1
      have n3:M.next+7≠y.next:=by omega
      have hat:=hP.way.inn hn
      have lb2:Lb (fun j=>j<M.next+8∨j=y.next) y2 d l:=hM.lb.keep (by omega) (fun j hj _=>s2 j hj) (fun j hj hb=>hb.elim id fun e=>by omega)
      have lb3:=lb2.put (j:=M.next+7) (.inl (by omega)) (.rows false 40 [(b9.map DV.bool).set an (.bool true)])
      have o2':(y2.put (M.next+7) (.rows false 40 [(b9.map DV.bool).set an (.bool true)])).obj y.next=some (.rows false 3 [[I fn,I an,I tn]]):=by simp(disch:=omega) [o2]
      have n4:y.next+1<(y2.put (M.next+7) (.rows false 40 [(b9.map DV.bool).set an (.bool true)])).next:=by simp;omega
      simp[w4,o2,o14',ha40,hw1]
      generalize y2.put (M.next+7) (.rows false 40 [(b9.map DV.bool).set an (.bool true)])=y4 at*
      have hcnt:=cnt_set (l:=b9) (a:=an) (by rw[List.getElem?_eq_getElem hab,w2])
      have hc40:(b9.set an true).countP (fun b=>b)≤40:=by
       have:=List.countP_le_length (p:=fun b:Bool=>b) (l:=b9.set an true);rw[List.length_set,hb] at this;exact this
      have hPl:=hP.len
      refine walk_ok hg hN hmi w _ (fun v=>decide (v=fn)) (bad:=fun j=>j<M.next+8∨j=y.next) hM3.o5 hM3.o12 hM3.o7 hM3.o8 hM3.o11 lb3 ⟨.inl (by omega),by omega⟩ ⟨.inl (by omega),by omega⟩ ⟨.inl (by omega),by omega⟩ (by omega) (fun j hj hh=>by rcases hh with hh|hh<;>omega) (hin _ hat) (by omega)
       (fun v hv {M1 k kp} s1 s2 hk=>is2_ok (zR s1 (by omega) o2') hk) ⟨fn,zg1 hC hat w3,by simp⟩ fun y5 d5 l2 m hw2 hqm hl2 hn5 hf5 oa5 oo5 lb5=> ?_
      obtain rfl:m=fn:=by simpa using hqm
      have hM5:=hM3.walk (bad:=fun j=>j<M.next+8∨j=y.next) (fun j hj=>.inl hj) hn5 hf5 oa5 oo5 lb5
      have o2'':y5.obj y.next=some (.rows false 3 [[I m,I an,I tn]]):=by
       rw[←o2'];show(y5.get y.next).map _=(y4.get y.next).map _;rw[hf5 y.next (by omega) (.inr rfl) (by omega) (by omega)]
      simp[oo5]
      refine Rs_lb (x:=i) (lb5.new _) (by simp;omega) (by intro hh;simp at hh;omega) (by simp) fun d6 y6 lb6 hn6 hf6=> ?_
      obtain⟨ce1,ce2⟩:=lb6.cell
      have n7:y5.next<y6.next:=by simp at hn6;omega
      have hf6': ∀j,j<y5.next→(j<M.next+8∨j=y.next)→y6.get j=y5.get j:=fun j h1 h2=>by rw[hf6 j (by simp;omega) h2,get_new,if_neg (by omega)]
      have ob6: ∀j o,j<y5.next→(j<M.next+8∨j=y.next)→y5.obj j=some o→y6.obj j=some o:=fun j o h1 h2 h3=>by
       rw[←h3];show(y6.get j).map _=(y5.get j).map _;rw[hf6' j h1 h2]
      have r11:=ob6 _ _ (by omega) (.inl (by omega)) hM5.o11
      have r12:=ob6 _ _ (by omega) (.inl (by omega)) hM5.o12
      have r16:=ob6 _ _ (by omega) (.inr rfl) o2''
      have e1:y.next≠M.next+4:=by omega
      simp(disch:=((try simp only[zc,ze,zf]);omega)) [r11,r12,r16,ce1,ce2]
      refine again _ d6 (l++l2++[(i:Int)]) tn (b9.set an true) (hM5.walk (bad:=fun j=>j<M.next+8∨j=y.next) (fun j hj=>.inl hj) (by simp;omega) (fun j h1 h2 h3 h4=> ?_) (by simp) (by simp(disch:=omega)) ((lb6.put (.inl (by omega)) _).put (.inl (by omega)) _)) ⟨(hP.way.trans hw2).snoc i hi hf (by rw[ha];exact w1) tn ht w4,by simp[hb],?_,fun q hq hqi h1 h2 h3=> ?_,fun a h=> ?_⟩
      ·rw[get_put,if_neg h3,get_put,if_neg h4];exact hf6' j h1 h2
      ·rw[hcnt];simp;omega
      ·rw[List.getElem?_set]
       by_cases e:an=g.es[q].a.toNat
       ·rw[if_pos e,if_pos (by omega)]
       ·rw[if_neg e]
        refine hP.act q hq ?_ h1 h2 h3
        by_cases e2:q=i
        ·subst e2;rw[ha] at e;exact absurd rfl e
        ·omega
      ·rw[List.getElem?_set] at h
       by_cases e:an=a
       ·subst e
        exact⟨i,by simp,by rw[zdL hi];exact ha⟩
       ·rw[if_neg e] at h
        obtain⟨x,hx1,hx2⟩:=hP.has a h
        exact⟨x,by simp[hx1],hx2⟩
 ·obtain⟨y,d,l,at_,b9⟩:=z
  obtain⟨hM,hP⟩:=hP
  dsimp only at*
  have hx:=hM.nx
  have hat:=hP.way.inn hn
  have hway:=hP.way
  have hPl:=hP.len
  have hc40:b9.countP (fun b=>b)≤40:=by
   have:=List.countP_le_length (p:=fun b:Bool=>b) (l:=b9);rw[hP.b] at this;exact this
  have hact: ∀x,x≠w→Ins (EG g) (fun v=>mi.testBit v=true) x→ ∃e∈l,(eAt g.es e).a=x:=fun x hx ⟨a,b,⟨e,h1,h2,h3,h4⟩,h5,h6⟩=>by
   obtain⟨q,hq,rfl⟩:=List.getElem_of_mem h1
   have h0:=(hg.ok _ h1).a0
   have:=hP.act q hq hq (by rw[h3];exact hx) (by rw[h2];simpa using h5) (by rw[h4];simpa using h6)
   obtain⟨z,hz1,hz2⟩:=hP.has _ this
   exact⟨z,hz1,by rw[hz2,←h3];omega⟩
  clear hP
  have o5:=hM.o5
  cases also with
  |false=>
   simp
   refine walk_ok hg hN hmi w _ (fun v=>decide (v=n)) (bad:=fun j=>j<M.next+8) hM.o5 hM.o12 hM.o7 hM.o8 hM.o11 hM.lb ⟨by omega,by omega⟩ ⟨by omega,by omega⟩ ⟨by omega,by omega⟩ (by omega) (fun j hj hh=>by omega) (hin _ hat) (by(try simp);omega)
    (fun v hv {M1 k kp} s1 s2 hk=>is4_ok (zR s1 (by omega) hM.o6) hk) ⟨n,zg1 hC hat hn,by simp⟩ fun y5 d5 l2 m hw2 hqm hl2 hn5 hf5 oa5 oo5 lb5=> ?_
   obtain rfl:m=n:=by simpa using hqm
   simp[oo5]
   refine Back.lb lb5 (fun j hj=>by omega) (fun j hj=>(hf5 j (by omega) (by omega) (by omega) (by omega)).trans (hM.sm j hj)) (hk _ ⟨hway.trans hw2,fun x hx hi=> ?_,(fun h=>by cases h),by(try simp);omega⟩)
   obtain⟨e,h1,h2⟩:=hact x hx hi
   exact⟨e,List.mem_append_left _ h1,h2⟩
  |true=>
   obtain⟨a,b,hE,hPa⟩:=hal rfl
   have haN:=hin a hPa
   simp
   refine walk_ok hg hN hmi w _ (fun v=>opnB g (2^v:Nat).testBit w) (bad:=fun j=>j<M.next+8) hM.o5 hM.o12 hM.o7 hM.o8 hM.o11 hM.lb ⟨by omega,by omega⟩ ⟨by omega,by omega⟩ ⟨by omega,by omega⟩ (by omega) (fun j hj hh=>by omega) (hin _ hat) (by omega)
    (fun v hv {M1 k kp} s1 s2 hk=>is3_ok hg (zR s1 (by omega) hM.o5) (zR s1 (by omega) hM.o8) (by omega) (by omega) (by omega) hk) ⟨a,zg1 hC hat hPa,(zfy hg).2 ⟨a,b,hE,by simp⟩⟩ fun y4 d4 l1 v hw1 hqv hl1 hn4 hf4 oa4 oo4 lb4=> ?_
   obtain⟨a2,b2,⟨e2,hE2,hE2f,hE2a,_⟩,hva⟩:=(zfy hg).1 hqv
   have hva:v=a2:=by rw[Nat.testBit_two_pow,decide_eq_true_iff] at hva;exact hva
   subst hva
   have hM:=hM.walk (bad:=fun j=>j<M.next+8) (fun j hj=>hj) hn4 hf4 oa4 oo4 lb4
   have hat:=hw1.inn hat
   have hway:=hway.trans hw1
   have hact: ∀x,x≠w→Ins (EG g) (fun v=>mi.testBit v=true) x→ ∃e∈l++l1,(eAt g.es e).a=x:=fun x hx hi=>by
    obtain⟨e,h1,h2⟩:=hact x hx hi
    exact⟨e,by simp[h1],h2⟩
   simp
   refine walk_ok hg hN hmi w _ (fun v=>decide (v=n)) (bad:=fun j=>j<M.next+8) hM.o5 hM.o12 hM.o7 hM.o8 hM.o11 hM.lb ⟨by omega,by omega⟩ ⟨by omega,by omega⟩ ⟨by omega,by omega⟩ (by omega) (fun j hj hh=>by omega) (hin _ hat) (by(try simp);omega)
    (fun v hv {M1 k kp} s1 s2 hk=>is4_ok (zR s1 (by omega) hM.o6) hk) ⟨n,zg1 hC hat hn,by simp⟩ fun y5 d5 l2 m hw2 hqm hl2 hn5 hf5 oa5 oo5 lb5=> ?_
   obtain rfl:m=n:=by simpa using hqm
   simp[oo5]
   refine Back.lb lb5 (fun j hj=>by omega) (fun j hj=>(hf5 j (by omega) (by omega) (by omega) (by omega)).trans (hM.sm j hj)) (hk _ ⟨hway.trans hw2,fun x hx hi=> ?_,fun _=> ?_,by(try simp);omega⟩)
   ·obtain⟨e,h1,h2⟩:=hact x hx hi
    exact⟨e,List.mem_append_left _ h1,h2⟩
   have hvf: ∀z,(eAt g.es z).f=(v:Int)→ ∃e2∈g.es,e2.f=(eAt g.es z).f∧e2.a=w:=fun z hz=>⟨e2,hE2,by rw[hz];exact hE2f,hE2a⟩
   rcases hw2.head with⟨rfl,hvn⟩| ⟨z,hz,hzf⟩
   ·rcases hway.head with⟨h0,_⟩| ⟨z,hz,hzf⟩
    ·exfalso
     obtain⟨x,hx,hi⟩:=hC.ne
     obtain⟨e,h1,_⟩:=hact x hx hi
     rw[h0] at h1;cases h1
    ·exact⟨z,List.mem_append_left _ hz,hvf z (by rw[hzf,hvn])⟩
   ·exact⟨z,List.mem_append_right _ hz,hvf z hzf⟩
end Go.Ideal.S
set_option maxHeartbeats 1000000
namespace Go.Ideal.S
open Go Go.Ideal Q Classical
attribute [local simp] decide_eq_true decide_eq_false zM
attribute [local simp] c_C f_C r_C_1 r_C_2 r_C_3 r_C_4 r_C_5 r_C_6 r_C_8 c_A f_A r_A_1 r_A_2 r_A_3 r_A_4 r_A_5 r_A_6 r_A_7 r_A_9 c_I f_I r_I_1 r_I_2 r_I_3 r_I_4 r_I_5 r_I_6
variable {M:VM} {k kp:DV→VM→Prop} {n0:Nat}
theorem zeD (g:Gr): ∀x∈eGr g,zcr x=true:=by intro x hx;simp[eGr] at hx;rcases hx with rfl|rfl|rfl<;>rfl
theorem meets_ok (f h:Nat→Bool) (N:Nat) (hN:N≤1000) (hk:k (.bool (decide (∃v,v<N∧f v=true∧h v=true))) M):zq F (.fn n_C [] []) [.lst 1 (B1 f N),.lst 1 (B1 h N)] M k kp:=by
 apply zq.back
 refine .fn ze8 rfl (by simp[f_C]) ?_
 simp
 refine .for (σ:=Unit) c_C_7.eq_1 (fun i _=>[(5,I i)]) (fun _=>M) (fun i _=> ∀v,v<i→ ¬(f v=true∧h v=true)) N () (by simp) rfl (fun v hv=>by omega) (fun i x hi hP again=> ?_) (fun x hP=> ?_)
 ·have b1:=zcn (f:=f) hi
  have b2:=zcn (f:=h) hi
  have again:=fun hc: ¬(f i=true∧h i=true)=>again () (fun v hv=>by
   by_cases e:v=i
   ·subst e;exact hc
   ·exact hP v (by omega))
  simp at again
  cases e1:f i with
  |false=>
   simp(disch:=((try simp only[zc,ze,zf]);omega)) [hi,b1,e1]
   exact again (fun h=>by rw[e1] at h;cases h)
  |true=>
   cases e2:h i with
   |false=>
    simp(disch:=((try simp only[zc,ze,zf]);omega)) [hi,b1,e1,b2,e2]
    exact again fun _=>e2
   |true=>
    rw[decide_eq_true ⟨i,hi,e1,e2⟩] at hk
    clear again
    simp(disch:=((try simp only[zc,ze,zf]);omega)) [hi,b1,e1,b2,e2]
    exact Back.plain (by simp) (by repeat' (first|assumption|exact zg _ _|apply zk|apply zl|apply zm| ((try simp only[zc,ze,zf]);omega))) hk
 ·rw[decide_eq_false (fun⟨v,a,b⟩=>hP v a b)] at hk
  simp
  exact Back.plain (by simp) (by repeat' (first|assumption|exact zg _ _|apply zk|apply zl|apply zm| ((try simp only[zc,ze,zf]);omega))) hk
abbrev Rall (g:Gr) (w:Int):Nat→Nat→Prop:=RF g (fun _=>true) w
theorem star_lt {g:Gr} (hg:zbm g) {N:Nat} (hN:g.st=N) {p:Nat→Bool} {w:Int} {a v:Nat} (h:Star (RF g p w) a v) (ha:a<N):v<N:=
 h.keep (P:=fun v=>v<N) (fun x y _ ⟨e,h1,h2,h3,_⟩=>by have:=(hg.ok e h1).t1;omega) ha
def SureP (g:Gr) (a:Int):Prop:=(∀v:Nat,Star (Rall g a) 0 v→zcl g.es v)∧ ¬ ∃v,RgIn (EG g) a false (fun _=>True) v∧Star (Rall g a) 0 v
theorem zf9 (g:Gr) (a:Int) (is:Bool) (hk:k (I (if zeh g a then(if is=true then 0 else 5) else 2)) M):zq F (.fn n_I [] []) [.agg (eGr g),I a,.bool is] M k kp:=by
 apply zq.back
 refine .fn zfO rfl (by simp[f_I]) ?_
 simp
 refine good_ok g fun b hb=> ?_
 by_cases hg:zbm g
 ·obtain rfl:b=true:=hb.2 hg
  by_cases h1:a<0
  ·rw[if_neg (fun h=>by have:=h.2.1;omega)] at hk
   simp[h1]
   exact Back.plain (by simp) (by repeat' (first|assumption|exact zg _ _|apply zk|apply zl|apply zm| ((try simp only[zc,ze,zf]);omega))) hk
  ·by_cases h2:g.ac≤a
   ·rw[if_neg (fun h=>by have:=h.2.2;omega)] at hk
    simp[h1,h2,eGr]
    exact Back.plain (by simp) (by repeat' (first|assumption|exact zg _ _|apply zk|apply zl|apply zm| ((try simp only[zc,ze,zf]);omega))) hk
   ·rw[if_pos ⟨hg,by omega,by omega⟩] at hk
    cases is with
    |true=>
     rw[if_pos rfl] at hk
     simp[h1,h2,eGr]
     exact Back.plain (by simp) (by repeat' (first|assumption|exact zg _ _|apply zk|apply zl|apply zm| ((try simp only[zc,ze,zf]);omega))) hk
    |false=>
     rw[if_neg (by simp)] at hk
     simp[h1,h2,eGr]
     exact Back.plain (by simp) (by repeat' (first|assumption|exact zg _ _|apply zk|apply zl|apply zm| ((try simp only[zc,ze,zf]);omega))) hk
 ·obtain rfl:b=false:=by cases b with|false=>rfl|true=>exact absurd (hb.1 rfl) hg
  rw[if_neg (fun h=>hg h.1)] at hk
  simp
  exact Back.plain (by simp) (by repeat' (first|assumption|exact zg _ _|apply zk|apply zl|apply zm| ((try simp only[zc,ze,zf]);omega))) hk
theorem sure_ok {g:Gr} {a:Int} (hK:zeh g a) (hk:k (.bool (decide (SureP g a))) M):zq F (.fn n_A [] []) [.agg (eGr g),I a] M k kp:=by
 have hg:=hK.1
 have g1:=hg.s1;have g2:=hg.s2
 have hl:g.es.length≤1000000:=by have:=hg.el;omega
 obtain⟨N,hN⟩: ∃N:Nat,g.st=N:=⟨g.st.toNat,by omega⟩
 apply zq.back
 refine .fn zfM rfl (by simp[f_A]) ?_
 simp
 refine rall_ok hN (by omega) ?_
 simp
 refine⟨zeD g,?_⟩
 refine reach_ok hg hN (s:=0) (by omega) (fun _=>true) a fun h hh=> ?_
 simp
 refine .for (σ:=VM) c_A_8.eq_1 (fun i _=>[(6,I i)]) (fun y=>y) (fun i y=>SM M.next M y∧M.next<y.next∧y.obj M.next=some (grO g)∧ ∀v,v<i→h v=true→zcl g.es v) N _ (by simp) rfl ⟨(by repeat' (first|assumption|exact zg _ _|apply zk|apply zl|apply zm| ((try simp only[zc,ze,zf]);omega))),by simp,by simp[eGr],fun v hv=>by omega⟩ (fun i y hi hP again=> ?_) (fun y hP=> ?_)
 ·obtain⟨h1,h2,h3,h4⟩:=hP
  have b1:=zcn (f:=h) hi
  have again:=fun hc:(h i=true→zcl g.es i)=>again y ⟨h1,h2,h3,fun v hv hx=>by
   by_cases e:v=i
   ·subst e;exact hc hx
   ·exact h4 v (by omega) hx⟩
  simp at again
  cases e1:h i with
  |false=>
   simp(disch:=((try simp only[zc,ze,zf]);omega)) [h3,hN,hi,b1,e1]
   exact again (fun h=>by rw[e1] at h;cases h)
  |true=>
   simp(disch:=((try simp only[zc,ze,zf]);omega)) [h3,hN,hi,b1,e1]
   have eg:([I (N:Int),I g.ac,.lst 3 (g.es.map zF)]:List DV)=eGr g:=by simp[eGr,hN]
   rw[eg]
   refine starts_ok g i hl ?_
   by_cases c:zcl g.es i
   ·rw[decide_eq_true c]
    simp(disch:=((try simp only[zc,ze,zf]);omega))
    exact again fun _=>c
   ·rw[decide_eq_false c]
    rw[decide_eq_false (fun hs=>c (hs.1 i ((hh i hi).1 e1)))] at hk
    clear again
    simp
    exact Back.plain (by simp) h1 hk
 ·obtain⟨h1,h2,h3,h4⟩:=hP
  have eg:([I (N:Int),I g.ac,.lst 3 (g.es.map zF)]:List DV)=eGr g:=by simp[eGr,hN]
  simp[h3,hN]
  rw[eg]
  refine rall_ok hN (by omega) ?_
  simp[h3,hN]
  rw[eg]
  refine rrings_ok hg hN a false (N+1) (fun _=>true) (by have:=cntB_le (N:=N) (p:=fun _=>true);omega) fun f hf=> ?_
  simp
  refine meets_ok f h N (by omega) ?_
  have e:(∃v,v<N∧f v=true∧h v=true)↔ ¬SureP g a:=by
   constructor
   ·rintro⟨v,h1,h2,h3⟩ hs
    exact hs.2 ⟨v,(rg_congr (fun u=>by simp)).1 ((hf v h1).1 h2),(hh v h1).1 h3⟩
   ·intro hs
    have: ∃v,RgIn (EG g) a false (fun _=>True) v∧Star (Rall g a) 0 v:=Classical.byContradiction fun hc=>hs ⟨fun v hv=>h4 v (star_lt hg hN hv (by omega)) ((hh v (star_lt hg hN hv (by omega))).2 hv),hc⟩
    obtain⟨v,h1,h2⟩:=this
    have hv:=star_lt hg hN h2 (by omega)
    exact⟨v,hv,(hf v hv).2 ((rg_congr (fun u=>by simp)).1 h1),(hh v hv).2 h2⟩
  simp only[e]
  by_cases c:SureP g a
  ·rw[decide_eq_true c] at hk
   rw[decide_eq_false (fun h=>h c)]
   simp
   exact Back.plain (by simp) h1 hk
  ·rw[decide_eq_false c] at hk
   rw[decide_eq_true c]
   simp
   exact Back.plain (by simp) h1 hk
end Go.Ideal.S
set_option maxHeartbeats 2000000
namespace Go.Ideal.S
open Go Go.Ideal Q Classical
attribute [local simp] decide_eq_true decide_eq_false zM
variable {M:VM} {k kp:DV→VM→Prop} {n0:Nat}
theorem Way.nil_eq {g:Gr} {mi:Nat} {w:Int} {s t:Nat} {l:List Int} (h:Way g mi w s l t) (e:l=[]):t=s:=by
 cases h with
 |nil=>rfl
 |snoc=>simp at e
theorem Way.froms {g:Gr} {mi:Nat} {w:Int} {s n:Nat} {l:List Int} (h:Way g mi w s l n) (hs:mi.testBit s=true): ∀x∈l,∃v:Nat,(eAt g.es x).f=v∧mi.testBit v=true:=by
 induction h with
 |nil=>intro x hx;cases hx
 | @snoc l t h e he h1 h2 u h3 h4 ih=>
   intro x hx
   rcases List.mem_append.1 hx with hx|hx
   ·exact ih x hx
   ·obtain rfl:=List.mem_singleton.1 hx
    exact⟨t,by rw[zdL he];exact h1,h.inn hs⟩
theorem zkb.ne {g:Gr} {mi:Nat} {w:Int} {st also:Bool} {n:Nat} {l:List Int} (h:zkb g mi w also n l) (hC:Core (EG g) w st (fun v=>mi.testBit v=true)):l≠[]:=by
 rintro rfl
 obtain⟨x,hx,hi⟩:=hC.ne
 obtain⟨e,h1,_⟩:=h.act x hx hi
 cases h1
theorem zkb.fair {g:Gr} (hg:zbm g) {mi:Nat} {w:Int} {st also:Bool} {n:Nat} {l:List Int} (h:zkb g mi w also n l) (hn:mi.testBit n=true) (hC:Core (EG g) w st (fun v=>mi.testBit v=true)) (but:Int) (hb:but=w∨st=false):FairR g l but:=by
 intro e he ⟨x,hx,hxf⟩ hne
 obtain⟨v,hv,hvm⟩:=h.way.froms hn x hx
 have hE:Opn (EG g) (fun v=>mi.testBit v=true) e.a:=⟨v,e.t.toNat,by have:=EG_of hg he;rw[←hxf,hv,Int.toNat_natCast] at this;exact this,hvm⟩
 by_cases c:e.a=w
 ·rcases hb with rfl|hb
  ·exact absurd c hne
  ·rcases hC.op with⟨h1,_⟩| ⟨_,h1⟩
   ·rw[hb] at h1;cases h1
   ·rw[c] at hE;exact absurd hE h1
 ·exact h.act _ c (hC.fair _ c hE)
theorem core_all {g:Gr} (hg:zbm g) {N:Nat} (hN:g.st=N) {w:Int} {T:Nat} {ww:Int} (hT: ∀v,T.testBit v=true↔Star (RF g (fun v=>(lowB N).testBit v) ww) 0 v) (hw:ww= -1∨ww=w) {st:Bool}:
 (∃Q,Core (EG g) w st Q∧ ∀u,Q u→T.testBit u=true)↔ ∃v,RgIn (EG g) w st (fun _=>True) v∧Star (Rall g ww) 0 v:=by
 have hT2: ∀v,T.testBit v=true↔Star (Rall g ww) 0 v:=fun v=>(hT v).trans ⟨fun h=>h.imp fun a b=>(RF_low hg hN ww a b).1,fun h=>h.imp fun a b=>(RF_low hg hN ww a b).2⟩
 constructor
 ·rintro⟨Q,h1,h2⟩
  obtain⟨v,hv⟩:=h1.some
  exact⟨v,⟨Q,h1,fun _ _=>trivial,hv⟩,(hT2 v).1 (h2 v hv)⟩
 ·rintro⟨v,⟨Q,h1,_,hv⟩,h2⟩
  refine⟨Q,h1,fun u hu=>(hT2 u).2 ?_⟩
  refine h1.closed (T:=fun u=>Star (Rall g ww) 0 u) (fun a x b ha ⟨e,e1,e2,e3,e4⟩ hx=>ha.tail ⟨e,e1,e2,e4,?_,rfl⟩) hv h2 hu
  rcases hw with rfl|rfl
  ·have:=(hg.ok e e1).a0;omega
  ·rw[e3];exact hx
end Go.Ideal.S
namespace Go.Ideal.S
open Go Go.Ideal Q Classical
attribute [local simp] decide_eq_true decide_eq_false zM
attribute [local simp] c_l f_l r_l_1 r_l_2 r_l_3 r_l_4 r_l_5 r_l_6 r_l_7 r_l_8 r_l_9 r_l_10 r_l_11 r_l_12 r_l_13 r_l_14 r_l_15 r_l_16 r_l_17 r_l_18 r_l_20
variable {M:VM} {k kp:DV→VM→Prop} {n0:Nat}
theorem zq.bound {F:FuncId→Option zh} {g:Nat} {a args:List DV} (h:zq F (.fn g [] []) (a++args) M k kp):zq F (.fn g a []) args M k kp:=by
 intro w hp fv vs hr hf hv
 obtain⟨a',c',rfl,ha,hc⟩:=hf.inv_fn
 obtain rfl:c'=[]:=List.length_eq_zero_iff.1 hc.len.symm
 obtain⟨n,o,e,q⟩:=h w hp (.func (.func g) ⟨[]⟩ ⟨[]⟩) (a'++vs) hr (.fn g rfl rfl (fun k d v a b=>by simp at a) (fun k d v a b=>by simp at a)) (ha.append hv)
 refine⟨n,o,?_,q⟩
 cases n with
 |zero=>exact e
 |succ n=>
  have e:((F g).bind fun cf=>zc1 (E F n) cf ([]++(a'++vs)++[]) hp)=some o:=e
  show((F g).bind fun cf=>zc1 (E F n) cf (a'++vs++[]) hp)=some o
  simpa using e
theorem ends2_ok {g:Gr} (hl:g.es.length≤1000000) (v:Nat) (hk:k (.bool (!decide (zcl g.es v))) M):zq F (.fn n_O [.agg (eGr g)] []) [I v] M k kp:=zq.bound (ends_ok g hl v hk)
theorem has2_ok (m n:Nat) (hm:m<2^64) (hn:n<64) (hk:k (.bool (m.testBit n)) M):zq F (.fn n_S [Go.Ideal.S.setD m] []) [I n] M k kp:=zq.bound (zdw m n hm hn hk)
end Go.Ideal.S
set_option maxHeartbeats 4000000
namespace Go.Ideal.S
open Go Go.Ideal Q Classical
attribute [local simp] decide_eq_true decide_eq_false zM
attribute [local simp] c_l f_l r_l_1 r_l_2 r_l_3 r_l_4 r_l_5 r_l_6 r_l_7 r_l_8 r_l_9 r_l_10 r_l_11 r_l_12 r_l_13 r_l_14 r_l_15 r_l_16 r_l_17 r_l_18 r_l_20
variable {M:VM} {k kp:DV→VM→Prop} {n0:Nat}
theorem b_tup3 {n:Nat} {a b c:DV} (h1:zH n a) (h2:zH n b) (h3:zH n c):zH n (.tup [a,b,c]):=.tup fun x hx=>by
 simp only[List.mem_cons,List.not_mem_nil,or_false] at hx
 rcases hx with rfl|rfl|rfl<;>assumption
theorem jAround_ok {g:Gr} (hl:g.es.length≤1000000) {a:Int} (hK:zeh g a) {N:Nat} (hN:g.st=N)
 (h1: ∀l n,Way g (lowB N) a 0 l n→ ¬zcl g.es n→l.length<N→k (.tup [ints l,.nilS,I 0]) M)
 (h2: ∀l n p l2,Way g (lowB N) a 0 l n→l.length<N→p.testBit n=true→Core (EG g) a false (fun v=>p.testBit v=true)→zkb g p a false n l2→k (.tup [ints l,ints l2,I 0]) M)
 (h3:SureP g a→k (.tup [.nilS,.nilS,I 5]) M):zq F (.fn n_l [] []) [.agg (eGr g),I a] M k kp:=by
 have hg:=hK.1
 have g1:=hg.s1;have g2:=hg.s2
 have hcg: ∀x∈eGr g,zL x=true:=by intro x hx;simp[eGr] at hx;rcases hx with rfl|rfl|rfl<;>rfl
 have hgl:(eGr g).length=3:=rfl
 have eg:([I g.st,I g.ac,.lst 3 (g.es.map zF)]:List DV)=eGr g:=rfl
 apply zq.back
 refine .fn zhX rfl (by simp[f_l]) ?_
 simp
 refine zq.nil [.agg (eGr g),I a] [] 1 (by simp) (fun x hx=> ?_) ?_
 ·simp at hx
  rcases hx with rfl|rfl|rfl
  ·exact .agg (b_Gr g)
  ·simp
  ·exact .lst (by simp)
 refine jknown_ok g hl a [] (by simp) ?_
 rw[decide_eq_true ⟨hK,fun x hx=>by cases hx⟩]
 simp[eGr]
 simp only[eg]
 refine whole_ok g hN (by omega) ?_
 simp[hcg,hgl]
 refine⟨zeD g,?_⟩
 refine jpath_ok hg hN (lowB_lt N (by omega)) a (s0:=0) (by omega) _ (fun v=> !decide (zcl g.es v)) (fun v hv {M1 k kp} s1 s2 hk=>ends2_ok hl v hk) (fun l n hw hq hlen=> ?_) (fun hno=> ?_)
 ·simp
  exact Back.plain (b_tup3 (zkw b_Int l) (by simp) (by simp)) (by repeat' (first|assumption|exact zg _ _|apply zk|apply zl|apply zm| ((try simp only[zc,ze,zf]);omega))) (h1 l n hw (by simpa using hq) hlen)
 ·simp[hcg,hgl]
  refine whole_ok g hN (by omega) ?_
  simp[hcg,hgl]
  refine⟨zeD g,?_⟩
  refine jleads_ok hg hN (lowB_lt N (by omega)) a (s0:=0) (by omega) fun T hT1 hT2=> ?_
  have hin: ∀v,T.testBit v=true→v<N:=fun v hv=>star_lt hg hN ((hT2 v).1 hv) (by omega)
  simp[hcg,hgl]
  refine jrings_ok hg hN a false (N+1) T hT1 hin (by have:=cntB_le (N:=N) (p:=T.testBit);omega) fun L hL=> ?_
  cases L with
  |nil=>
   simp
   refine .go c_l_19.eq_1 ?_
   simp
   refine Back.plain (b_tup3 (by simp) (by simp) (by simp)) (by repeat' (first|assumption|exact zg _ _|apply zk|apply zl|apply zm| ((try simp only[zc,ze,zf]);omega))) (h3 ⟨fun v hv=> ?_,fun hs=> ?_⟩)
   ·have:=hno v (hv.imp fun a b=>(RF_low hg hN _ a b).2)
    simpa using this
   ·obtain⟨Q,hQ,hQT⟩:=(core_all hg hN hT2 (.inr rfl)).2 hs
    obtain⟨x,hx,_⟩:=hL.all Q hQ hQT
    cases hx
  |cons p L=>
   obtain⟨hp1,hp2,hp3⟩:=hL.snd p (by simp)
   have hpos:(0:Int)<(((L.length:Nat):Int)+1):=by omega
   simp
   refine .go c_l_19.eq_1 ?_
   simp[hpos,eU,hcg,hgl]
   refine whole_ok g hN (by omega) ?_
   simp[hcg,hgl]
   refine⟨zeD g,?_⟩
   refine jpath_ok hg hN (lowB_lt N (by omega)) a (s0:=0) (by omega) _ (fun v=>p.testBit v) (fun v hv {M1 k kp} s1 s2 hk=>has2_ok p v hp1 (by omega) hk) (fun l n hw hq hlen=> ?_) (fun hno=> ?_)
   ·have hE:=hw.edges
    have hlast:=hw.last
    rcases List.eq_nil_or_concat l with rfl| ⟨l',x,rfl⟩
    ·have hn0:=hw.nil_eq rfl
     subst hn0
     simp[hcg,hgl]
     refine jring_ok hg hN hp1 a false false hp2 hq (fun v hv=>hin v (hp3 v hv)) (fun h=>by cases h) fun l2 hR=> ?_
     simp
     exact Back.plain (b_tup3 (zkw b_Int _) (zkw b_Int l2) (by simp)) (by repeat' (first|assumption|exact zg _ _|apply zk|apply zl|apply zm| ((try simp only[zc,ze,zf]);omega))) (h2 [] 0 p l2 hw hlen hq hp2 hR)
    ·rw[List.concat_eq_append] at hw hlen hlast hE⊢
     rw[zjN] at hlast
     have hx:=hE x (by simp)
     obtain⟨e,rfl⟩:=Int.eq_ofNat_of_zero_le hx.1
     have he:e<g.es.length:=by omega
     rw[zdL he] at hlast
     have hll:(l'++[(e:Int)]).length=l'.length+1:=by simp
     rw[hll] at hlen
     have hpos2:(0:Int)<(((l'.length:Nat):Int)+1):=by omega
     have hsub:(((l'.length:Nat):Int)+1 - 1)=(l'.length:Nat):=by omega
     have hw1:zgp .i64 (((l'.length:Nat):Int)+1 - 1)=(l'.length:Nat):=by rw[hsub];exact wrapF_in (by omega) (by omega)
     have hat:(List.map eInt l'++[eInt (e:Int)])[l'.length]? =some [I e]:=by rw[List.getElem?_append_right (by simp)];simp[eInt]
     simp(disch:=((try simp only[zc,ze,zf]);omega)) [hcg,hgl,hpos2,hat,he,zF,eGr,hlast]
     rw[eg]
     refine jring_ok hg hN hp1 a false false hp2 hq (fun v hv=>hin v (hp3 v hv)) (fun h=>by cases h) fun l2 hR=> ?_
     simp
     exact Back.plain (b_tup3 (zkw b_Int _) (zkw b_Int l2) (by simp)) (by repeat' (first|assumption|exact zg _ _|apply zk|apply zl|apply zm| ((try simp only[zc,ze,zf]);omega))) (h2 _ n p l2 hw (by rw[hll];exact hlen) hq hp2 hR)
   ·exfalso
    obtain⟨v,hv⟩:=hp2.some
    have:=hno v (((hT2 v).1 (hp3 v hv)))
    have hv:p.testBit v=true:=hv
    rw[hv] at this;cases this
end Go.Ideal.S
namespace Go.Ideal.S
open Go Go.Ideal Q Classical
attribute [local simp] decide_eq_true decide_eq_false zM
variable {M:VM} {k kp:DV→VM→Prop} {n0:Nat}
theorem zgq (hk:k (.bool true) M):zq F (.fn n_6 [] []) [] M k kp:=by
 apply zq.back
 refine .fn zfc rfl (by simp[zht]) ?_
 simp[zht]
 exact Back.plain (by simp) (by repeat' (first|assumption|exact zg _ _|apply zk|apply zl|apply zm| ((try simp only[zc,ze,zf]);omega))) hk
attribute [local simp] c_W f_W r_W_1 r_W_2
theorem large_ok (g:Gr) (hk:k (.bool (decide ((500:Int)<(g.es.length:Int)))) M):zq F (.fn n_W [] []) [.agg (eGr g)] M k kp:=by
 apply zq.back
 refine .fn zfd rfl (by simp[f_W]) ?_
 simp[eGr]
 exact Back.plain (by simp) (by repeat' (first|assumption|exact zg _ _|apply zk|apply zl|apply zm| ((try simp only[zc,ze,zf]);omega))) hk
end Go.Ideal.S
namespace Go.Ideal.S
open Go Go.Ideal Q Classical
attribute [local simp] decide_eq_true decide_eq_false zM
variable {M:VM} {k kp:DV→VM→Prop} {n0:Nat}
theorem known_below {n:Nat} (g:Gr) (a:Int): ∀x∈[DV.agg (eGr g),I a]++DV.lst 1 []::[],zH n x:=by
 intro x hx
 simp at hx
 rcases hx with rfl|rfl|rfl
 ·exact .agg (b_Gr g)
 ·simp
 ·exact .lst (by simp)
end Go.Ideal.S
