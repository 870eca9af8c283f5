/- A part of the proof: the ideal machine, and what the functions of the program answer over it. -/
import Derived.Test.YtjkoholloclgeaaGreatDoorE
set_option linter.unusedSimpArgs false
set_option linter.unusedVariables false
set_option linter.unusedSectionVars false
set_option maxRecDepth 10000
set_option maxHeartbeats 2000000
namespace Go.Ideal.S
open Go Go.Ideal Q Classical
attribute [local simp] decide_eq_true decide_eq_false zK
attribute [local simp] c_i f_i r_i_1 r_i_2 r_i_3 r_i_4 r_i_5 r_i_6 r_i_7 r_i_8 r_i_9 r_i_10 r_i_11 r_i_12 r_i_13 r_i_15 r_i_16 r_i_17 r_i_18 r_i_19 r_i_20 r_i_21 r_i_23
variable {n0:Nat}
structure JrR (g:Gr) (w:Int) (st:Bool) (N m:Nat) (L:List Nat):Prop where
 snd: ∀x∈L,x<2^64∧Core (EG g) w st (fun v=>x.testBit v=true)∧ ∀u,x.testBit u=true→m.testBit u=true
 all: ∀Q,Core (EG g) w st Q→(∀u,Q u→m.testBit u=true)→ ∃x∈L,∀u,Q u→x.testBit u=true
 len:L.length≤cntB N m.testBit
theorem cntB_mono {N:Nat} {p q:Nat→Bool} (h: ∀v,p v=true→q v=true):cntB N p≤cntB N q:=List.countP_mono_left fun v _=>h v
theorem cntB_le {N:Nat} {p:Nat→Bool}:cntB N p≤N:=by have:=List.countP_le_length (p:=p) (l:=List.range N);rw[List.length_range] at this;exact this
theorem JrP.fin {g:Gr} {w:Int} {st:Bool} {N m many:Nat} {cmp:Nat→Int} {L:List Nat} (h:JrP g w st N m cmp many L) (hp:zkb g m w N cmp many):JrR g w st N m L:=
 ⟨h.snd,fun Q hQ hs=>by
   obtain⟨v,hv⟩:=hQ.some
   exact h.all Q hQ hs v hv (hp.ins v (hs v hv)).2,Nat.le_trans h.len (cntB_mono fun v hv=>by rw[Bool.and_eq_true] at hv;exact hv.1)⟩
theorem jrings_ok {g:Gr} (hg:zbt g) {N:Nat} (hN:g.st=N) (w:Int) (st:Bool): ∀(n m:Nat),m<2^64→(∀v,m.testBit v=true→v<N)→cntB N m.testBit<n→ ∀{M:VM} {k kp:DV→VM→Prop},
 (∀L,JrR g w st N m L→k (.lst 1 (L.map eU)) M)→zA F (.fn n_i [] []) [.agg (eGr g),setD m,I w,.bool st] M k kp:=by
 intro n
 induction n with
 |zero=>intro m _ _ h;omega
 |succ n ih=>
 intro m hm hin hcnt M k kp hk
 have g2:=hg.s2
 have hl:g.es.length≤1000000:=by have:=hg.el;omega
 have eg:([I g.st,I g.ac,.lst 3 (g.es.map zE)]:List DV)=eGr g:=rfl
 apply zA.back
 refine .fn zhy rfl (by simp[f_i]) ?_
 simp[eGr]
 simp only[eg]
 refine parts_ok hg hm hN hin fun M2 j cmp many s1 s2 s3 s4 s5=> ?_
 have hs0:SM M.next M M2:=zc7 (show SM M.next M ((M.new _).new _) from(by repeat' (first|assumption|exact zr _ _|apply zu|apply zw|apply zy| ((try simp only[zc,ze,zf]);omega)))) (zes s1 (by simp;omega))
 have o4:M2.obj M.next=some (grO g):=zO s1 (by simp;omega) (by simp(disch:=((try simp only[zc]);omega)) [eGr])
 have hj:M.next+2≤j:=by simpa using s2
 clear s1 s2
 have hmany:=s5.le
 have h00:JrP g w st N m cmp (0:Nat) []:=⟨by simp,fun Q hQ hs v hv hc=>by have:=(s5.ins v (hs v hv)).1;omega,by simp⟩
 simp
 refine .for (σ:=VM×DV×List Nat) c_i_22.eq_1 (fun kk x=>[(11,x.2.1),(25,I kk)]) (fun x=>x.1) (fun kk x=>Acc M2 x.1 x.2.1 1 (x.2.2.map eU)∧JrP g w st N m cmp kk x.2.2) many (M2,.nilS,[]) (by simp) rfl ⟨Acc.nil M2 1,h00⟩ (fun kk x hkk hP again=> ?_) (fun x hP=> ?_)
 ·obtain⟨y,d,L⟩:=x
  obtain⟨hA,hJ⟩:=hP
  dsimp only at*
  have hx:=hA.nx
  have p4:y.obj M.next=some (grO g):=by rw[hA.obj (by omega)];exact o4
  have pj:y.obj j=some (.rows false 1 (R1 cmp N)):=by rw[hA.obj (by omega)];exact s4
  simp at again
  have hkk':(kk:Int)<many:=by omega
  simp[hkk']
  refine zcq.gen (Q:=fun z=>SM y.next y z∧y.next<z.next∧z.obj y.next=some (setO 0)) ⟨(by repeat' (first|assumption|exact zr _ _|apply zu|apply zw|apply zy| ((try simp only[zc,ze,zf]);omega))),by simp,by simp⟩ fun y0 hy0=> ?_
  refine .for (σ:=VM×Nat) c_i_14.eq_1 (fun q _=>[(30,I q)]) (fun x=>x.1) (fun q x=>SM y.next y x.1∧y.next<x.1.next∧x.1.obj y.next=some (setO x.2)∧x.2<2^64∧ ∀v,x.2.testBit v=true↔v<q∧cmp v=kk) N (y0,0) (by simp) rfl ⟨hy0.1,hy0.2.1,hy0.2.2,Nat.two_pow_pos 64,fun v=>by simp⟩ (fun q x hq hP again2=> ?_) (fun x hP=> ?_)
  ·obtain⟨y1,x⟩:=x
   obtain⟨h1,h2,h3,h4,h5⟩:=hP
   dsimp only at*
   have qj:=zO h1 (by omega) pj
   have rc:=R1_at (f:=cmp) hq
   simp at again2
   by_cases c:cmp q=kk
   ·simp(disch:=((try simp only[zc,ze,zf]);omega)) [qj,hq,rc,c]
    refine zhK x q _ h4 (by omega) h3 ?_
    simp(disch:=((try simp only[zc,ze,zf]);omega))
    refine again2 _ (x ||| 2^q) (zu h1 (Nat.le_refl _)) (by simp;omega) (by simp) (or_lt h4 (by omega)) fun v=> ?_
    rw[zlK,h5]
    constructor
    ·rintro(⟨a,b⟩|rfl)
     ·exact⟨by omega,b⟩
     ·exact⟨by omega,c⟩
    ·rintro⟨a,b⟩
     by_cases e:v=q
     ·exact .inr e
     ·exact .inl ⟨by omega,b⟩
   ·simp(disch:=((try simp only[zc,ze,zf]);omega)) [qj,hq,rc,c]
    refine again2 _ x h1 h2 h3 h4 fun v=> ?_
    rw[h5]
    exact⟨fun⟨a,b⟩=>⟨by omega,b⟩,fun⟨a,b⟩=>⟨by
     by_cases e:v=q
     ·subst e;exact absurd b c
     ·omega,b⟩⟩
  ·obtain⟨y1,x⟩:=x
   obtain⟨h1,h2,h3,h4,h5⟩:=hP
   dsimp only at*
   have q4:=zO h1 (by omega) p4
   have hA1:=hA.frame h1 (by omega)
   have hxm: ∀v,cmp v=kk→m.testBit v=true:=fun v e=>by
    cases hh:m.testBit v with
    |true=>rfl
    |false=>have:=s5.out v hh;omega
   have hxc: ∀v,x.testBit v=true↔cmp v=kk:=fun v=>(h5 v).trans ⟨fun a=>a.2,fun a=>⟨hin v (hxm v a),a⟩⟩
   have hpart: ∀i,cmp i=kk→Part (EG g) w (fun v=>m.testBit v=true) (fun v=>x.testBit v=true):=fun i hi=>zjg hg s5 (hxm i hi) fun v=>by rw[hxc,hi]
   simp[h3,q4]
   simp only[eg]
   refine zlQ hg x (-1) w h4 ?_
   cases hin2:insB g x.testBit (-1) w with
   |false=>
    have hn: ¬ ∃z,z≠w∧Ins (EG g) (fun v=>x.testBit v=true) z:=fun hh=>by rw[(insB_any hg).2 hh] at hin2;cases hin2
    have hnext:=hJ.next hg s5 (L2:=[]) (by simp) (fun Q hQ hs=>by
     exfalso
     obtain⟨v,hv⟩:=hQ.some
     exact rg_empty (st:=st) (hpart v (hs v hv)) hn ((hxc v).2 (hs v hv)) ⟨Q,hQ,fun u hu=>hxm u (hs u hu),hv⟩) (by simp)
    rw[List.append_nil] at hnext
    simp(disch:=((try simp only[zc,ze,zf]);omega)) [hin2]
    exact again _ _ _ hA1 hnext
   |true=>
    have hn:=(insB_any hg).1 hin2
    obtain⟨z,hz,za,zb,_,hza,_⟩:=id hn
    have hpx:=hpart za ((hxc za).1 hza)
    simp[hin2,q4,h3]
    simp only[eg]
    refine jgood_ok hg x w st h4 fun r hr1 hr2=> ?_
    have hrx: ∀v,r.testBit v=true→x.testBit v=true:=fun v hv=>by
     rw[hr2] at hv;exact((ziV hg).1 hv).1
    have hsame:r=x→ ∀v,x.testBit v=true→ ¬Bad (EG g) w st (fun v=>x.testBit v=true) v:=fun e v hv=>by
     have hh:=hr2 v
     rw[e,hv] at hh
     exact((ziV hg).1 hh.symm).2
    have hJl:L.length≤60:=by have:=hJ.len;have:=cntB_le (N:=N) (p:=fun v=>m.testBit v&&decide (cmp v<kk));omega
    have hcx: ∀v,(fun v=>decide (cmp v=kk)) v=x.testBit v:=fun v=>by rw[Bool.eq_iff_iff,hxc,decide_eq_true_iff]
    have hx1:1≤cntB N fun v=>decide (cmp v=kk):=by
     refine List.countP_pos_iff.2 ⟨za,List.mem_range.2 (hin za (hpx.sub hza)),?_⟩
     exact decide_eq_true ((hxc za).1 hza)
    have hone:Core (EG g) w st (fun v=>x.testBit v=true)→JrP g w st N m cmp (kk+1:Nat) (L++[x]):=fun hC=>
     hJ.next hg s5 (fun u hu=>by
      obtain rfl:=List.mem_singleton.1 hu
      exact⟨h4,hC,fun v hv=>(hxc v).1 hv⟩) (fun Q hQ hs=>⟨x,by simp,fun u hu=>(hxc u).2 (hs u hu)⟩) hx1
    have hA2:=hA1.frame (M2:=(y1.new (.rows false 1 [[.int .u64 0]])).put y1.next (setO r)) (by repeat' (first|assumption|exact zr _ _|apply zu|apply zw|apply zy| ((try simp only[zc,ze,zf]);omega))) (by simp;omega)
    have t4:((y1.new (.rows false 1 [[.int .u64 0]])).put y1.next (setO r)).obj M.next=some (grO g):=by simp(disch:=((try simp only[zc]);omega)) [q4]
    have t3:((y1.new (.rows false 1 [[.int .u64 0]])).put y1.next (setO r)).obj y.next=some (setO x):=by simp(disch:=((try simp only[zc]);omega)) [h3]
    by_cases e:r=x
    ·have hnb:=hsame e
     cases st with
     |false=>
      have hnext:=hone (core_same hpx hn hnb fun h=>by cases h)
      simp(disch:=((try simp only[zc,ze,zf]);omega)) [h3,zjq,e]
      rw[e] at hA2
      refine Rs_app (hA2.new _) (new:=[eU x]) (by simp[eU]) (by decide) (by simp[eU]) (by simp[eU]) (by simp;omega) fun d' y3 hA3=> ?_
      rw[show L.map eU++[eU x]=(L++[x]).map eU by rw[List.map_append];rfl] at hA3
      simp(disch:=((try simp only[zc,ze,zf]);omega))
      exact again _ _ _ hA3 hnext
     |true=>
      simp(disch:=((try simp only[zc,ze,zf]);omega)) [h3,zjq,e,q4]
      simp only[eg]
      rw[e] at hA2 t4 t3
      generalize (y1.new (.rows false 1 [[.int .u64 0]])).put y1.next (setO x)=y2 at*
      refine jopen_ok g x w hl h4 (fun e he=>by have h:=hg.ok e he;have:=h.f0;have:=h.f1;omega) ?_
      rw[show(g.es.any fun e=>x.testBit e.f.toNat&&decide (e.a=w))=opnB g x.testBit w from rfl]
      cases hop:opnB g x.testBit w with
      |false=>
       have ho: ¬Opn (EG g) (fun v=>x.testBit v=true) w:=fun hh=>by rw[(zii hg).2 hh] at hop;cases hop
       have hnext:=hJ.next hg s5 (L2:=[]) (by simp) (fun Q hQ hs=>by
        exfalso
        obtain⟨v,hv⟩:=hQ.some
        exact rg_none (st:=true) (hpart v (hs v hv)) rfl ho ((hxc v).2 (hs v hv)) ⟨Q,hQ,fun u hu=>hxm u (hs u hu),hv⟩) (by simp)
       rw[List.append_nil] at hnext
       simp(disch:=((try simp only[zc,ze,zf]);omega))
       exact again _ _ _ hA2 hnext
      |true=>
       have hnext:=hone (core_same hpx hn hnb fun _=>(zii hg).1 hop)
       simp[t3]
       refine Rs_app (hA2.new _) (new:=[eU x]) (by simp[eU]) (by decide) (by simp[eU]) (by simp[eU]) (by simp;omega) fun d' y3 hA3=> ?_
       rw[show L.map eU++[eU x]=(L++[x]).map eU by rw[List.map_append];rfl] at hA3
       simp(disch:=((try simp only[zc,ze,zf]);omega))
       exact again _ _ _ hA3 hnext
    ·have hcr:cntB N r.testBit<cntB N m.testBit:=by
      obtain⟨v,hv1,hv2⟩: ∃v,x.testBit v=true∧r.testBit v=false:=Classical.byContradiction fun hc=>e (Nat.eq_of_testBit_eq fun v=>by
       cases h1:x.testBit v with
       |false=>
        cases h2:r.testBit v with
        |false=>rfl
        |true=>rw[hrx v h2] at h1;cases h1
       |true=>
        cases h2:r.testBit v with
        |true=>rfl
        |false=>exact absurd ⟨v,h1,h2⟩ hc)
      exact cnt_lt (fun u hu=>hpx.sub (hrx u hu)) (List.mem_range.2 (hin v (hpx.sub hv1))) (hpx.sub hv1) hv2
     simp(disch:=((try simp only[zc,ze,zf]);omega)) [h3,zjq,e,q4]
     simp only[eg]
     generalize (y1.new (.rows false 1 [[.int .u64 0]])).put y1.next (setO r)=y2 at*
     refine ih r hr1 (fun v hv=>hin v (hpx.sub (hrx v hv))) (by omega) fun L2 hL2=> ?_
     simp
     have hL2l:=hL2.len
     have hL2n:=cntB_le (N:=N) (p:=r.testBit)
     refine Rs_app hA2 (by rw[zg0,if_pos rfl]) (by decide) (c_map c_U L2) (l_map l_U L2) (by simp;omega) fun d' y3 hA3=> ?_
     rw[←List.map_append] at hA3
     simp(disch:=((try simp only[zc,ze,zf]);omega))
     exact again _ _ _ hA3 (hJ.next hg s5 (fun u hu=>⟨(hL2.snd u hu).1,(hL2.snd u hu).2.1,fun v hv=>(hxc v).1 (hrx v ((hL2.snd u hu).2.2 v hv))⟩) (fun Q hQ hs=>hL2.all Q hQ fun u hu=>by
      rw[hr2];exact(ziV hg).2 (hQ.rest (fun u hu=>(hxc u).2 (hs u hu)) hu)) (Nat.le_trans hL2l (cntB_mono fun v hv=>decide_eq_true ((hxc v).1 (hrx v hv)))))
 ·obtain⟨y,d,L⟩:=x
  obtain⟨hA,hJ⟩:=hP
  dsimp only at*
  simp
  exact Back.acc hA hs0 (by have:=hA.nx;omega) (b_map b_U L) (hk L (hJ.fin s5))
end Go.Ideal.S
namespace Go.Ideal.S
open Go Go.Ideal Q Classical
attribute [local simp] decide_eq_true decide_eq_false zK
attribute [local simp] c_w f_w r_w_1 r_w_2 r_w_3 r_w_4
variable {M:VM} {k kp:DV→VM→Prop} {n0:Nat}
def revI (f:Nat→Int) (n i:Nat):Nat→Int:=fun q=>if q<i∨n - i≤q then f (n - 1 - q) else f q
theorem revI_succ {f:Nat→Int} {n i:Nat} (h:i+1≤n / 2):R1 (up1 (up1 (revI f n i) i (f (n - 1 - i))) (n - 1 - i) (f i)) n=R1 (revI f n (i+1)) n:=R1_ext fun v hv=>by
 unfold up1 revI
 by_cases e1:v=n - 1 - i
 ·rw[if_pos e1,if_pos (.inr (by omega))];congr 1;omega
 ·rw[if_neg e1]
  by_cases e2:v=i
  ·rw[if_pos e2,if_pos (.inl (by omega)),e2]
  ·rw[if_neg e2]
   by_cases e3:v<i∨n - i≤v
   ·rw[if_pos e3,if_pos (by omega)]
   ·rw[if_neg e3,if_neg (by omega)]
theorem revI_end {f:Nat→Int} {n:Nat}:R1 (revI f n (n / 2)) n=R1 (fun q=>f (n - 1 - q)) n:=R1_ext fun v hv=>by
 unfold revI
 by_cases e:v<n / 2∨n - n / 2≤v
 ·rw[if_pos e]
 ·rw[if_neg e];congr 1;omega
theorem ints_R1 (l:List Int):l.map eInt=R1 (fun q=>l.getD q 0) l.length:=by
 unfold R1
 apply List.ext_getElem
 ·simp
 ·intro i h1 h2
  simp at h1
  simp[eInt,h1]
theorem rev_R1 (l:List Int):R1 (fun q=>l.getD (l.length - 1 - q) 0) l.length=l.reverse.map eInt:=by
 rw[ints_R1,List.length_reverse]
 refine R1_ext fun v hv=> ?_
 rw[List.getD_eq_getElem?_getD,List.getD_eq_getElem?_getD,List.getElem?_reverse hv]
theorem reverse_ok {B:VM} {d:DV} {l:List Int} (h:Acc B M d 1 (l.map eInt)) (hl:l.length≤1000000) (hk: ∀M',Acc B M' d 1 (l.reverse.map eInt)→M.next≤M'.next→k (.tup []) M'):zA F (.fn n_w [] []) [d] M k kp:=by
 rcases h.v with⟨h1,rfl⟩| ⟨j,op,cap,h1,h2,rfl,h4,h5⟩
 ·obtain rfl:l=[]:=by simpa using h1
  refine .fn zcf rfl (by simp[f_w]) ?_
  simp
  refine .go c_w_5.eq_1 ?_
  simp
  exact hk _ h (Nat.le_refl _)
 ·rw[ints_R1] at h4
  have hlen:(l.map eInt).length=l.length:=by simp
  rw[hlen] at h5⊢
  rw[hlen] at h
  refine .fn zcf rfl (by simp[f_w]) ?_
  simp(disch:=((try simp only[zc,ze,zf]);omega))
  generalize hn:l.length=n at*
  generalize hf:(fun q=>l.getD q 0)=f at*
  have e0:R1 f n=R1 (revI f n 0) n:=R1_ext fun v hv=>by unfold revI;rw[if_neg (by omega)]
  rw[e0] at h4
  refine .for (σ:=VM) c_w_5.eq_1 (fun i _=>[(2,I i),(3,I ((n:Int) - 1 - i))]) (fun y=>y) (fun i y=>M.next≤y.next∧SM B.next B y∧y.obj j=some (.rows op 1 (R1 (revI f n i) n))) (n / 2) M (by simp) rfl ⟨Nat.le_refl _,h.sm,h4⟩ (fun i y hi hP again=> ?_) (fun y hP=> ?_)
  ·obtain⟨p1,p2,p3⟩:=hP
   have i1:i<n:=by omega
   have i2:n - 1 - i<n:=by omega
   have r1:=R1_at (f:=revI f n i) i1
   have r2:=R1_at (f:=revI f n i) i2
   rw[show revI f n i i=f i from by unfold revI;rw[if_neg (by omega)]] at r1
   rw[show revI f n i (n - 1 - i)=f (n - 1 - i) from by unfold revI;rw[if_neg (by omega)]] at r2
   obtain⟨q,hq⟩: ∃q:Nat,(n:Int) - 1 - i=q:=⟨n - 1 - i,by omega⟩
   have hq2:n - 1 - i=q:=by omega
   have hq3:(n:Int) - 1 - (i+1:Nat)=q - 1:=by omega
   rw[hq2] at r2 i2
   have hs:=revI_succ (f:=f) (n:=n) (i:=i) (by omega)
   rw[hq2] at hs
   have again:=again ((y.put j (.rows op 1 (R1 (up1 (revI f n i) i (f q)) n))).put j (.rows op 1 (R1 (up1 (up1 (revI f n i) i (f q)) q (f i)) n))) ⟨by simp;omega,zu (zu p2 h1) h1,by rw[←hs];simp⟩
   rw[hq3] at again
   simp at again
   have hlt:(i:Int)<q:=by omega
   have hqi:q≠i:=by omega
   have r3:=R1_set (f:=revI f n i) (N:=n) (n:=i) (x:=f q)
   have r4:=R1_set (f:=up1 (revI f n i) i (f q)) (N:=n) (n:=q) (x:=f i)
   have r5:=R1_at (f:=up1 (revI f n i) i (f q)) i2
   rw[hq]
   simp(disch:=((try simp only[zc,ze,zf]);omega)) [p3,r1,r2,hlt,i1,i2,r3,r4,r5]
   exact again
  ·obtain⟨p1,p2,p3⟩:=hP
   have hnot: ¬((n / 2:Nat):Int)<(n:Int) - 1 - (n / 2:Nat):=by omega
   simp(disch:=((try simp only[zc,ze,zf]);omega)) [hnot]
   rw[revI_end,←hf] at p3
   have hr:=rev_R1 l
   rw[hn] at hr
   rw[hr] at p3
   refine hk y ⟨p2,by have:=h.nx;omega,l_map l_Int _,.inr ⟨j,op,cap,h1,by omega,?_,p3,?_⟩⟩ p1
   ·simp[hn]
   ·simpa[hn] using h5
end Go.Ideal.S
set_option maxHeartbeats 1000000
namespace Go.Ideal.S
open Go Go.Ideal Q Classical
inductive Way (g:Gr) (mi:Nat) (w:Int) (s:Nat):List Int→Nat→Prop
 |nil:Way g mi w s [] s
 |snoc {l:List Int} {t:Nat} (h:Way g mi w s l t) (e:Nat) (he:e<g.es.length) (h1:g.es[e].f=(t:Int)) (h2:g.es[e].a≠w) (u:Nat) (h3:g.es[e].t=(u:Int)) (h4:mi.testBit u=true):Way g mi w s (l++[(e:Int)]) u
theorem Way.trans {g:Gr} {mi:Nat} {w:Int} {s t u:Nat} {l l2:List Int} (h:Way g mi w s l t) (h2:Way g mi w t l2 u):Way g mi w s (l++l2) u:=by
 induction h2 with
 |nil=>rw[List.append_nil];exact h
 |snoc _ e he a b u c d ih=>rw[←List.append_assoc];exact ih.snoc e he a b u c d
theorem Way.edges {g:Gr} {mi:Nat} {w:Int} {s t:Nat} {l:List Int} (h:Way g mi w s l t):zb3 g.es l:=by
 induction h with
 |nil=>intro x hx;cases hx
 |snoc _ e he _ _ _ _ _ ih=>
  intro x hx
  rcases List.mem_append.1 hx with hx|hx
  ·exact ih x hx
  ·obtain rfl:=List.mem_singleton.1 hx
   omega
structure Bf (g:Gr) (mi:Nat) (w:Int) (s N:Nat) (bf:Nat→Int) (qs:List Nat):Prop where
 hd:qs[0]? =some s
 nd:qs.Nodup
 lt: ∀v∈qs,v<N
 lk: ∀i (hi:i<qs.length),0<i→ ∃(e:Nat) (he:e<g.es.length) (j:Nat) (hj:j<i),bf qs[i]=e∧g.es[e].t=(qs[i]:Nat)∧g.es[e].f=(qs[j]'(by omega):Nat)∧g.es[e].a≠w∧mi.testBit qs[i]=true
theorem zik {l:List Nat} {N:Nat} (h:l.Nodup) (hl: ∀v∈l,v<N):l.length≤N:=by
 have:=h.length_le_of_subset (l₂:=List.range N) (fun v hv=>List.mem_range.2 (hl v hv))
 simpa using this
theorem Bf.len {g:Gr} {mi:Nat} {w:Int} {s N:Nat} {bf:Nat→Int} {qs:List Nat} (h:Bf g mi w s N bf qs):qs.length≤N:=zik h.nd h.lt
theorem Bf.pos {g:Gr} {mi:Nat} {w:Int} {s N:Nat} {bf:Nat→Int} {qs:List Nat} (h:Bf g mi w s N bf qs):0<qs.length:=by
 have:=h.hd
 cases qs with
 |nil=>cases this
 |cons=>simp
theorem Bf.one {g:Gr} {mi:Nat} {w:Int} {s N:Nat} (hs:s<N) (bf:Nat→Int):Bf g mi w s N bf [s]:=
 ⟨rfl,by simp,by simp[hs],fun i hi h0=>by simp at hi;omega⟩
theorem Bf.add {g:Gr} {mi:Nat} {w:Int} {s N:Nat} {bf:Nat→Int} {qs:List Nat} (h:Bf g mi w s N bf qs) {x p e:Nat} (hx:x∉qs) (hxN:x<N) (hp:p<qs.length) (he:e<g.es.length) (h1:g.es[e].t=(x:Int)) (h2:g.es[e].f=(qs[p]:Nat)) (h3:g.es[e].a≠w) (h4:mi.testBit x=true):Bf g mi w s N (up1 bf x e) (qs++[x]):=by
 refine⟨?_,?_,?_,fun i hi h0=> ?_⟩
 ·rw[List.getElem?_append_left h.pos];exact h.hd
 ·rw[List.nodup_append]
  refine⟨h.nd,by simp,fun a ha b hb=> ?_⟩
  obtain rfl:=List.mem_singleton.1 hb
  intro e;subst e;exact hx ha
 ·intro v hv
  rcases List.mem_append.1 hv with hv|hv
  ·exact h.lt v hv
  ·obtain rfl:=List.mem_singleton.1 hv;exact hxN
 ·by_cases c:i<qs.length
  ·obtain⟨e',q1,j,q2,q3,q4,q5,q6,q7⟩:=h.lk i c h0
   have hne:qs[i]≠x:=fun hh=>hx (hh▸List.getElem_mem c)
   rw[List.getElem_append_left c]
   refine⟨e',q1,j,q2,?_,q4,?_,q6,q7⟩
   ·rw[zeP _ _ hne];exact q3
   ·rw[List.getElem_append_left (by omega)];exact q5
  ·have:i=qs.length:=by rw[List.length_append,List.length_singleton] at hi;omega
   subst this
   have hg:(qs++[x])[qs.length]'hi=x:=by simp
   rw[hg]
   refine⟨e,he,p,hp,zcc _ _ _,h1,?_,h3,h4⟩
   rw[List.getElem_append_left hp];exact h2
end Go.Ideal.S
namespace Go.Ideal.S
open Go Go.Ideal Q Classical
def Qu (bad:Nat→Prop) (y:VM) (d:DV) (l:List Nat):Prop:= ∃j lo cap rs op,d=.ms j lo l.length cap∧ ¬bad j∧j<y.next∧y.obj j=some (.rows op 1 rs)∧(∀i (hi:i<l.length),rs[lo+i]? =some [I (l[i]:Nat)])∧lo+l.length≤rs.length∧
 (op=true∧cap=zp∧lo+l.length=rs.length∨op=false∧cap=l.length∧cap<zp)
section
variable {bad bad':Nat→Prop} {y y':VM} {d:DV} {l:List Nat} {x:Nat}
theorem Qu.keep (h:Qu bad y d l) (hn:y.next≤y'.next) (ho: ∀j,j<y.next→ ¬bad j→y'.get j=y.get j) (hb: ∀j,j<y.next→bad' j→bad j):Qu bad' y' d l:=by
 obtain⟨j,lo,cap,rs,op,h1,h2,h3,h4,h5,h5',h6⟩:=h
 refine⟨j,lo,cap,rs,op,h1,fun hh=>h2 (hb j h3 hh),by omega,?_,h5,h5',h6⟩
 rw[←h4];show(y'.get j).map _=(y.get j).map _;rw[ho j h3 h2]
theorem Qu.put (h:Qu bad y d l) {j:Nat} (hj:bad j) (o:MO):Qu bad (y.put j o) d l:=h.keep (by simp) (fun i _ hi=>by rw[get_put,if_neg (by rintro rfl;exact hi hj)]) fun _ _ h=>h
theorem Qu.cell (h:Qu bad y d l):zU d=[d]∧zJ d=true∧lenD y d=some l.length:=by
 obtain⟨j,lo,cap,rs,op,rfl,_⟩:=h;exact⟨rfl,rfl,rfl⟩
theorem Qu.head (h:Qu bad y d (x::l)): ∃j lo op rs,zkt 1 y (I 0) d=some (.ptr j lo 0)∧y.obj j=some (.rows op 1 rs)∧rs[lo]? =some [I x]:=by
 obtain⟨j,lo,cap,rs,op,rfl,h2,h3,h4,h5,h5',h6⟩:=h
 refine⟨j,lo,op,rs,?_,h4,h5 0 (by simp)⟩
 rw[addrD_ms,h4,adO_some,if_pos ⟨rfl,by simp,by simp⟩];rfl
theorem Qu.tail (h:Qu bad y d (x::l)): ∃d',sliceD 1 y (some (I 1)) none d=some d'∧Qu bad y d' l:=by
 obtain⟨j,lo,cap,rs,op,rfl,h2,h3,h4,h5,h5',h6⟩:=h
 rw[List.length_cons] at h5' h6⊢
 rcases h6 with⟨rfl,rfl,h6⟩| ⟨rfl,rfl,h6⟩
 ·refine⟨.ms j (lo+1) l.length zp,?_,j,lo+1,zp,rs,true,rfl,h2,h3,h4,fun i hi=> ?_,by omega,.inl ⟨rfl,rfl,by omega⟩⟩
  ·rw[sliceD_ms,h4,slM_true,if_pos ⟨rfl,rfl,by omega⟩,zjX,slT_some,zdr,if_pos ⟨by omega,by omega⟩];rfl
  ·have:=h5 (i+1) (by simp;omega)
   rw[show lo+1+i=lo+(i+1) by omega,this];rfl
 ·refine⟨.ms j (if l.length+1=1 then lo else lo+1) l.length l.length,?_,j,_,_,rs,false,rfl,h2,h3,h4,fun i hi=> ?_,?_,.inr ⟨rfl,rfl,by omega⟩⟩
  ·rw[sliceD_ms,h4,slM_false,if_pos ⟨rfl,h6⟩,zjX,slF_some,zdr,if_pos ⟨by omega,by omega⟩];rfl
  ·have:=h5 (i+1) (by simp;omega)
   rw[if_neg (by omega),show lo+1+i=lo+(i+1) by omega,this];rfl
  ·split<;>omega
theorem Rs_qpush {X:RnD} {fr:FrC} {jb:Nat} {dst:Option (List Bool)} {r:List CI} {sl:DS} (h:Qu bad y d l) (hl:l.length≤1000000) (hY: ¬bad y.next) (hb:y.obj jb=some (.rows false 1 [[I (x:Nat)]]))
 (k: ∀d' y',Qu bad y' d' (l++[x])→y.next≤y'.next→(∀j,j<y.next→bad j→y'.get j=y.get j)→ @Op X fr r (zbm dst d' sl) y'): @Rs X fr (bltD y (.append 1 8) [d,.ms jb 0 1 1]) dst r sl:=by
 rw[zb2,if_pos ⟨by decide,by decide⟩,zco,hb]
 rw[show elO 1 0 1 (some (MO.rows false 1 [[I (x:Nat)]]))=some [[I (x:Nat)]] from by simp,zc5,if_pos (by simp)]
 obtain⟨j,lo,cap,rs,op,rfl,h2,h3,h4,h5,h5',h6⟩:=h
 have hnew: ∀(y2:VM) (nx:y2.next=y.next),Qu bad (y2.new (.rows true 1 ((rs.drop lo).take l.length++[[I (x:Nat)]]))) (.ms y.next 0 ((rs.drop lo).take l.length++[[I (x:Nat)]]).length zp) (l++[x]):=fun y2 nx=>by
  have hlen:((rs.drop lo).take l.length).length=l.length:=by
   rw[List.length_take,List.length_drop]
   omega
  refine⟨y.next,0,zp,_,true,?_,hY,by simp[nx],by rw[←nx];simp;rfl,fun i hi=> ?_,?_,.inl ⟨rfl,rfl,?_⟩⟩
  ·simp[hlen]
  ·rw[Nat.zero_add]
   rw[List.length_append,List.length_singleton] at hi
   by_cases c:i<l.length
   ·rw[List.getElem?_append_left (by omega),List.getElem?_take,if_pos c,List.getElem?_drop,h5 i c,List.getElem_append_left c]
   ·have:i=l.length:=by omega
    subst this
    rw[List.getElem?_append_right (by omega),hlen];simp
  ·simp[hlen]
  ·simp[hlen]
 rcases h6 with⟨rfl,rfl,h6⟩| ⟨rfl,rfl,h6⟩
 ·have e:zbd 1 8 y [[I (x:Nat)]] (.ms j lo l.length zp)=some (.ms y.next 0 ((rs.drop lo).take l.length++[[I (x:Nat)]]).length zp,(y.del j).new (.rows true 1 ((rs.drop lo).take l.length++[[I (x:Nat)]]))):=by
   rw[zbI,if_neg (by simp),if_pos (by simp;omega),h4,zcN,zbN,if_pos ⟨rfl,by omega⟩,if_neg (by simp;omega)]
  rw[e]
  refine k _ _ (hnew _ rfl) (by simp) fun i hi hbi=> ?_
  rw[get_new,if_neg (by simp;omega),zf8,if_neg (by rintro rfl;exact h2 hbi)]
 ·have e:zbd 1 8 y [[I (x:Nat)]] (.ms j lo l.length l.length)=some (.ms y.next 0 ((rs.drop lo).take l.length++[[I (x:Nat)]]).length zp,y.new (.rows true 1 ((rs.drop lo).take l.length++[[I (x:Nat)]]))):=by
   rw[zbI,if_neg (by simp),if_pos (by simp;omega),h4,zcN]
   unfold zcA
   dsimp only
   rw[if_pos ⟨rfl,by omega⟩,if_pos h6,if_neg (by simp)];rfl
  rw[e]
  exact k _ _ (hnew _ rfl) (by simp) fun i hi _=>by rw[get_new,if_neg (by omega)]
end
end Go.Ideal.S
set_option maxHeartbeats 2000000
namespace Go.Ideal.S
open Go Go.Ideal Q Classical
attribute [local simp] decide_eq_true decide_eq_false zK
attribute [local simp] c_h f_h r_h_1 r_h_2 r_h_3 r_h_4 r_h_5 r_h_6 r_h_7 r_h_8 r_h_9 r_h_10 r_h_11 r_h_12 r_h_13 r_h_15 r_h_16 r_h_17 r_h_18 r_h_19 r_h_20 r_h_21 r_h_22 r_h_23 r_h_26
variable {M:VM} {k kp:DV→VM→Prop} {n0:Nat}
theorem Back.accT {B y M0:VM} {d e:DV} {rows:List (List DV)} (h:Acc B y d 1 rows) (hB:SM M0.next M0 B) (hn:M0.next≤B.next) (hb: ∀r∈rows,∀x∈r,zM M0.next x) (he:zM M0.next e) (hk:k (.tup [.lst 1 rows,e]) M0):Back k M0 (.tup [d,e]) y:=fun hw=>by
 refine⟨.tup [.lst 1 rows,e],.tup rfl fun i a b h1 h2=> ?_,.tup fun a ha=> ?_,fun j hj=>(h.sm j (by omega)).trans (hB j hj),hk⟩
 ·match i with
  |0=>
   cases h1;cases h2
   rcases h.v with⟨rfl,rfl⟩| ⟨j,op,cap,h1,h2,rfl,h4,_⟩
   ·exact .nilS 1
   ·exact .ms0 h4 (hw j (by omega)) rfl h.row
  |1=>cases h1;cases h2;exact .refl _
  |i+2=>simp at h1
 ·simp only[List.mem_cons,List.not_mem_nil,or_false] at ha
  rcases ha with rfl|rfl
  ·exact .lst hb
  ·exact he
structure PaM (bad:Nat→Prop) (B y:VM) (g:Gr) (mi:Nat) (w:Int) (N jb j12 j13 j14:Nat) (bf:Nat→Int) (m:Nat) (d:DV) (l:List Nat):Prop where
 sm:SM B.next B y
 nx:j14<y.next
 o5:y.obj B.next=some (grO g)
 o7:y.obj (B.next+1)=some (setO mi)
 o8:y.obj (B.next+2)=some (intO w)
 ob:y.obj jb=some (.rows false 1 (R1 bf N))
 o12:y.obj j12=some (.rows false 1 [[.ms jb 0 N N]])
 o13:y.obj j13=some (setO m)
 o14:y.obj j14=some (.rows false 1 [[d]])
 qu:Qu bad y d l
structure PaO (bad:Nat→Prop) (b jb j12 j13 j14:Nat):Prop where
 h1:b+3≤jb
 h2:jb<j12
 h3:j12<j13
 h4:j13<j14
 b1: ∀j,j≤j13→bad j
 b2:bad j14
section
variable {bad:Nat→Prop} {B y y':VM} {g:Gr} {mi:Nat} {w:Int} {N jb j12 j13 j14:Nat} {bf:Nat→Int} {m:Nat} {d:DV} {l:List Nat}
theorem PaM.frame (h:PaM bad B y g mi w N jb j12 j13 j14 bf m d l) (o:PaO bad B.next jb j12 j13 j14) (hn:y.next≤y'.next) (hf: ∀j,j<y.next→(j≤j14∨ ¬bad j)→y'.get j=y.get j):PaM bad B y' g mi w N jb j12 j13 j14 bf m d l:=by
 have a1:=o.h1;have a2:=o.h2;have a3:=o.h3;have a4:=o.h4;have a5:=h.nx
 have ob: ∀j o,j≤j14→y.obj j=some o→y'.obj j=some o:=fun j o hj e=>by
  rw[←e];show(y'.get j).map _=(y.get j).map _;rw[hf j (by omega) (.inl hj)]
 exact⟨fun j hj=>(hf j (by omega) (.inl (by omega))).trans (h.sm j hj),by omega,ob _ _ (by omega) h.o5,ob _ _ (by omega) h.o7,ob _ _ (by omega) h.o8,ob _ _ (by omega) h.ob,ob _ _ (by omega) h.o12,ob _ _ (by omega) h.o13,ob _ _ (by omega) h.o14,h.qu.keep hn (fun j h1 h2=>hf j h1 (.inr h2)) fun _ _ hb=>hb⟩
theorem PaM.new (h:PaM bad B y g mi w N jb j12 j13 j14 bf m d l) (o:PaO bad B.next jb j12 j13 j14) (ob:MO):PaM bad B (y.new ob) g mi w N jb j12 j13 j14 bf m d l:=
 h.frame o (by simp) fun j hj _=>by rw[get_new,if_neg (by omega)]
theorem PaM.setM (h:PaM bad B y g mi w N jb j12 j13 j14 bf m d l) (o:PaO bad B.next jb j12 j13 j14) (m':Nat):PaM bad B (y.put j13 (setO m')) g mi w N jb j12 j13 j14 bf m' d l:=by
 have a1:=o.h1;have a2:=o.h2;have a3:=o.h3;have a4:=o.h4;have a5:=h.nx
 exact⟨zu h.sm (by omega),by simp;omega,by simp(disch:=omega) [h.o5],by simp(disch:=omega) [h.o7],by simp(disch:=omega) [h.o8],by simp(disch:=omega) [h.ob],by simp(disch:=omega) [h.o12],by simp,by simp(disch:=omega) [h.o14],h.qu.put (o.b1 _ (Nat.le_refl _)) _⟩
theorem PaM.setB (h:PaM bad B y g mi w N jb j12 j13 j14 bf m d l) (o:PaO bad B.next jb j12 j13 j14) {R:List (List DV)} {bf':Nat→Int} (e:R=R1 bf' N):PaM bad B (y.put jb (.rows false 1 R)) g mi w N jb j12 j13 j14 bf' m d l:=by
 have a1:=o.h1;have a2:=o.h2;have a3:=o.h3;have a4:=o.h4;have a5:=h.nx
 exact⟨zu h.sm (by omega),by simp;omega,by simp(disch:=omega) [h.o5],by simp(disch:=omega) [h.o7],by simp(disch:=omega) [h.o8],by rw[e];simp,by simp(disch:=omega) [h.o12],by simp(disch:=omega) [h.o13],by simp(disch:=omega) [h.o14],h.qu.put (o.b1 _ (by omega)) _⟩
theorem PaM.setD (h:PaM bad B y g mi w N jb j12 j13 j14 bf m d l) (o:PaO bad B.next jb j12 j13 j14) {d':DV} {l':List Nat} (hq:Qu bad y d' l'):PaM bad B (y.put j14 (.rows false 1 [[d']])) g mi w N jb j12 j13 j14 bf m d' l':=by
 have a1:=o.h1;have a2:=o.h2;have a3:=o.h3;have a4:=o.h4;have a5:=h.nx
 exact⟨zu h.sm (by omega),by simp;omega,by simp(disch:=omega) [h.o5],by simp(disch:=omega) [h.o7],by simp(disch:=omega) [h.o8],by simp(disch:=omega) [h.ob],by simp(disch:=omega) [h.o12],by simp(disch:=omega) [h.o13],by simp,hq.put o.b2 _⟩
end
theorem PaM.push {bad:Nat→Prop} {B y y':VM} {g:Gr} {mi:Nat} {w:Int} {N jb j12 j13 j14:Nat} {bf:Nat→Int} {m:Nat} {d d':DV} {l l':List Nat} (h:PaM bad B y g mi w N jb j12 j13 j14 bf m d l) (o:PaO bad B.next jb j12 j13 j14) (hn:y.next≤y'.next) (hf: ∀j,j<y.next→bad j→y'.get j=y.get j) (hq:Qu bad y' d' l'):PaM bad B (y'.put j14 (.rows false 1 [[d']])) g mi w N jb j12 j13 j14 bf m d' l':=by
 have a1:=o.h1;have a2:=o.h2;have a3:=o.h3;have a4:=o.h4;have a5:=h.nx
 have ob: ∀j o2,j≤j13→y.obj j=some o2→(y'.put j14 (.rows false 1 [[d']])).obj j=some o2:=fun j o2 hj e=>by
  rw[zbh,if_neg (by omega),←e]
  show(y'.get j).map _=(y.get j).map _
  rw[hf j (by omega) (o.b1 j hj)]
 exact⟨fun j hj=>by rw[get_put,if_neg (by omega),hf j (by omega) (o.b1 j (by omega))];exact h.sm j hj,by simp;omega,ob _ _ (by omega) h.o5,ob _ _ (by omega) h.o7,ob _ _ (by omega) h.o8,ob _ _ (by omega) h.ob,ob _ _ (by omega) h.o12,ob _ _ (Nat.le_refl _) h.o13,by simp,hq.put o.b2 _⟩
theorem PaM.bad2 {bad bad':Nat→Prop} {B y:VM} {g:Gr} {mi:Nat} {w:Int} {N jb j12 j13 j14:Nat} {bf:Nat→Int} {m:Nat} {d:DV} {l:List Nat} (h:PaM bad B y g mi w N jb j12 j13 j14 bf m d l) (hb: ∀j,j<y.next→bad' j→bad j):PaM bad' B y g mi w N jb j12 j13 j14 bf m d l:=
 ⟨h.sm,h.nx,h.o5,h.o7,h.o8,h.ob,h.o12,h.o13,h.o14,h.qu.keep (Nat.le_refl _) (fun _ _ _=>rfl) hb⟩
theorem path_out {B y:VM} {g:Gr} (hg:zbt g) {mi:Nat} {w:Int} {s0 N jb j12 x p:Nat} {bf:Nat→Int} {qs:List Nat} (hN:N≤1000) (hB:Bf g mi w s0 N bf qs) (hx:qs[p]? =some x)
 (o5:y.obj B.next=some (grO g)) (h12:y.obj j12=some (.rows false 1 [[.ms jb 0 N N]])) (hb:y.obj jb=some (.rows false 1 (R1 bf N))) (l1:B.next<y.next) (l2:j12<y.next) (l3:jb<y.next) {K:KD}
 (hk: ∀y' d' (o:List Int) s',Acc y y' d' 1 (o.map eInt)→Way g mi w s0 o.reverse x→o.length≤p→getS s' (bits 16)=some d'→K.ext 4 s' y'):
 zcq F n0 (bs [1,5,12,15,16]) c_h_14 K [(bits 1,I s0),(bits 5,.ptr B.next 0 0),(bits 12,.ptr j12 0 0),(bits 15,I x),(bits 16,.nilS)] y:=by
 refine .while (σ:=VM×Nat×Nat×DV×List Int) c_h_14.eq_1 (fun z=>[(15,I z.2.1),(16,z.2.2.2.1)]) (fun z=>z.1) (fun z=>Acc y z.1 z.2.2.2.1 1 (z.2.2.2.2.map eInt)∧qs[z.2.2.1]? =some z.2.1∧(∀l,Way g mi w s0 l z.2.1→Way g mi w s0 (l++z.2.2.2.2.reverse) x)∧z.2.2.2.2.length+z.2.2.1≤p) (fun z=>z.2.2.1) (y,x,p,.nilS,[]) (by simp) rfl ⟨Acc.nil y 1,hx,fun l h=>by simpa using h,by simp⟩ (fun z hP again=> ?_)
 obtain⟨y1,n,i,d,o⟩:=z
 obtain⟨h1,h2,h3,h4⟩:=hP
 dsimp only at*
 have hp:=(List.getElem?_eq_some_iff.1 hx).1
 obtain⟨hi,hin⟩:=List.getElem?_eq_some_iff.1 h2
 have hlen:=hB.len
 have q5:y1.obj B.next=some (grO g):=by rw[h1.obj l1];exact o5
 have q12:y1.obj j12=some (.rows false 1 [[.ms jb 0 N N]]):=by rw[h1.obj l2];exact h12
 have qb:y1.obj jb=some (.rows false 1 (R1 bf N)):=by rw[h1.obj l3];exact hb
 by_cases c:n=s0
 ·have hw:=h3 [] (c▸Way.nil)
  simp[c]
  exact hk _ d o _ h1 (by simpa using hw) (by omega) (by simp)
 ·have hi0:0<i:=by
   rcases Nat.eq_zero_or_pos i with rfl|h
   ·rw[hB.hd] at h2;cases h2;exact absurd rfl c
   ·exact h
  obtain⟨e,he,j,hj,e1,e2,e3,e4,e5⟩:=hB.lk i hi hi0
  rw[hin] at e1 e2 e5
  have hnN:n<N:=by rw[←hin];exact hB.lt _ (List.getElem_mem hi)
  have hcc: ¬(n:Int)=s0:=by omega
  have rb:=R1_at (f:=bf) hnN
  rw[e1] at rb
  have hx1:=h1.nx
  simp(disch:=((try simp only[zc,ze,zf]);omega)) [hcc,q12,qb,rb,hnN]
  refine Rs_app (h1.new _) (new:=[eInt e]) (by simp[eInt]) (by decide) (by simp[eInt]) (by simp[eInt]) (by simp;omega) fun d' y2 hA=> ?_
  have hx2:=hA.nx
  have r5:y2.obj B.next=some (grO g):=by rw[hA.obj l1];exact o5
  have r12:y2.obj j12=some (.rows false 1 [[.ms jb 0 N N]]):=by rw[hA.obj l2];exact h12
  have rbb:y2.obj jb=some (.rows false 1 (R1 bf N)):=by rw[hA.obj l3];exact hb
  rw[show o.map eInt++[eInt e]=(o++[(e:Int)]).map eInt by rw[List.map_append];rfl] at hA
  have he':(e:Int)<g.es.length:=by omega
  simp at again
  simp(disch:=((try simp only[zc,ze,zf]);omega)) [r5,r12,rbb,rb,hnN,he,zE,e3]
  refine again y2 _ j d' (o++[(e:Int)]) hj hA ?_ (fun l hl=> ?_) ?_
  ·exact List.getElem?_eq_getElem _
  ·have:=h3 _ (hl.snoc e he e3 e4 n e2 e5)
   simpa using this
  ·simp;omega
end Go.Ideal.S
namespace Go.Ideal.S
open Go Go.Ideal Q Classical
attribute [local simp] decide_eq_true decide_eq_false zK
attribute [local simp] c_h f_h r_h_1 r_h_2 r_h_3 r_h_4 r_h_5 r_h_6 r_h_7 r_h_8 r_h_9 r_h_10 r_h_11 r_h_12 r_h_13 r_h_15 r_h_16 r_h_17 r_h_18 r_h_19 r_h_20 r_h_21 r_h_22 r_h_23 r_h_26
variable {M:VM} {k kp:DV→VM→Prop} {n0:Nat}
structure PaP (g:Gr) (mi:Nat) (w:Int) (s0 N:Nat) (q:Nat→Bool) (bf:Nat→Int) (m p:Nat) (qs:List Nat):Prop where
 bf:Bf g mi w s0 N bf qs
 lt:m<2^64
 seen: ∀v,m.testBit v=true↔v∈qs
 le:p≤qs.length
 no: ∀(i:Nat) (hi:i<qs.length),i<p→q qs[i]=false∧ ∀v,RF g (fun v=>mi.testBit v) w qs[i] v→v∈qs
theorem PaP.none {g:Gr} {mi:Nat} {w:Int} {s0 N:Nat} {q:Nat→Bool} {bf:Nat→Int} {m p:Nat} {qs:List Nat} (h:PaP g mi w s0 N q bf m p qs) (hp:p=qs.length) (n:Nat) (hn:Star (RF g (fun v=>mi.testBit v) w) s0 n):q n=false:=by
 subst hp
 have hin:n∈qs:=hn.keep (P:=fun v=>v∈qs) (fun a b ha r=>by
  obtain⟨i,hi,rfl⟩:=List.getElem_of_mem ha
  exact(h.no i hi hi).2 b r) (List.mem_of_getElem? h.bf.hd)
 obtain⟨i,hi,rfl⟩:=List.getElem_of_mem hin
 exact(h.no i hi hi).1
theorem jpath_ok {g:Gr} (hg:zbt g) {N:Nat} (hN:g.st=N) {mi:Nat} (hmi:mi<2^64) (w:Int) {s0:Nat} (hs0:s0<N) (f:DV) (q:Nat→Bool)
 (hq: ∀v,v<N→ ∀{M1:VM} {k kp:DV→VM→Prop},SM M.next M M1→M.next≤M1.next→k (.bool (q v)) M1→zA F f [I v] M1 k kp)
 (h1: ∀l n,Way g mi w s0 l n→q n=true→l.length<N→k (.tup [ints l,.bool true]) M)
 (h2:(∀n,Star (RF g (fun v=>mi.testBit v) w) s0 n→q n=false)→k (.tup [.nilS,.bool false]) M):zA F (.fn n_h [] []) [.agg (eGr g),I s0,Go.Ideal.S.setD mi,I w,f] M k kp:=by
 have g2:=hg.s2
 have g1:=hg.s1
 have hl:g.es.length≤1000000:=by have:=hg.el;omega
 apply zA.back
 refine .fn zh6 rfl (by simp[f_h]) ?_
 simp(disch:=((try simp only[zc,ze,zf]);omega)) [eGr,hN]
 refine repeat_ok (-1) N _ (by omega) (by omega) (by simp) (by simp) fun M1 jb q1 q2 q3 q4=> ?_
 have o5:=zO (j:=M.next) q1 (by simp;omega) (o:=grO g) (by simp(disch:=((try simp only[zc,ze]);omega)) [hN])
 have o7:=zO (j:=M.next+1) q1 (by simp<;>omega) (o:=setO mi) (by simp(disch:=((try simp only[zc,ze]);omega)))
 have o8:=zO (j:=M.next+2) q1 (by simp) (o:=intO w) (by simp(disch:=((try simp only[zc,ze]);omega)))
 have hs1:SM M.next M M1:=zc7 (show SM M.next M ((((M.new _).new _).new _).new _) from(by repeat' (first|assumption|exact zr _ _|apply zu|apply zw|apply zy| ((try simp only[zc,ze,zf]);omega)))) (zes q1 (by simp;omega))
 have hjb:M.next+4≤jb:=by simpa using q2
 clear q1 q2
 simp
 refine zhK 0 s0 _ (by decide) (by omega) (by simp) ?_
 simp
 have hr1:List.replicate N [I (-1)]=R1 (fun _=> -1) N:=by unfold R1;rw[List.map_const',List.length_range]
 have ho:PaO (fun j=>j≤M1.next+2∨j=M1.next+5) M.next jb M1.next (M1.next+2) (M1.next+5):=⟨by omega,by omega,by omega,by omega,fun j h=>.inl h,.inr rfl⟩
 refine zcq.gen (Q:=fun y=>PaM (fun j=>j≤M1.next+2∨j=M1.next+5) M y g mi w N jb M1.next (M1.next+2) (M1.next+5) (fun _=> -1) (2^s0) (.ms (M1.next+4) 0 1 1) [s0]) ?_ fun y0 hy0=> ?_
 ·refine⟨(by repeat' (first|assumption|exact zr _ _|apply zu|apply zw|apply zy| ((try simp only[zc,ze,zf]);omega))),by simp,by simp(disch:=((try simp only[zc,ze]);omega)) [o5],by simp(disch:=((try simp only[zc,ze]);omega)) [o7],by simp(disch:=((try simp only[zc,ze]);omega)) [o8],by simp(disch:=((try simp only[zc,ze]);omega)) [q4,hr1],by simp(disch:=((try simp only[zc,ze]);omega)),by simp(disch:=((try simp only[zc,ze]);omega)),by simp(disch:=((try simp only[zc,ze]);omega)),M1.next+4,0,1,[[I s0]],false,rfl,by omega,by simp,by simp(disch:=((try simp only[zc,ze]);omega)),fun i hi=> ?_,by simp,.inr ⟨rfl,rfl,by simp⟩⟩
  obtain rfl:i=0:=by simpa using hi
  rfl
 have hP0:PaP g mi w s0 N q (fun _=> -1) (2^s0) 0 [s0]:=⟨Bf.one hs0 _,Nat.pow_lt_pow_right (by omega) (by omega),fun v=>by rw[Nat.testBit_two_pow];simp;exact⟨fun h=>h.symm,fun h=>h.symm⟩,by simp,fun i hi h=>by omega⟩
 have hbig: ∀j,M1.next+5<j→ ¬(fun j=>j≤M1.next+2∨j=M1.next+5) j:=fun j h hh=>by rcases hh with hh|hh<;>omega
 generalize (fun j=>j≤M1.next+2∨j=M1.next+5)=bad at*
 generalize DV.ms (M1.next+4) 0 1 1=d0 at*
 have e12:M1.next=M1.next:=rfl
 generalize hj13:M1.next+2=j13 at*
 generalize hj14:M1.next+5=j14 at*
 rw[show j13+1+1+1=j14 by omega]
 generalize M1.next=j12 at*
 clear q4 o5 o7 o8 hs1 e12 hr1
 have a1:=ho.h1;have a2:=ho.h2;have a3:=ho.h3;have a4:=ho.h4
 refine .while (σ:=VM×(Nat→Int)×Nat×Nat×List Nat×DV) c_h_25.eq_1 (fun _=>[]) (fun z=>z.1) (fun z=>PaM bad M z.1 g mi w N jb j12 j13 j14 z.2.1 z.2.2.1 z.2.2.2.2.2 (z.2.2.2.2.1.drop z.2.2.2.1)∧PaP g mi w s0 N q z.2.1 z.2.2.1 z.2.2.2.1 z.2.2.2.2.1) (fun z=>N - z.2.2.2.1) (y0,fun _=> -1,2^s0,0,[s0],d0) (by simp) rfl ⟨hy0,hP0⟩ (fun z hP again=> ?_)
 clear hy0 hP0
 obtain⟨y,bf,m,p,qs,d⟩:=z
 obtain⟨hM,hP⟩:=hP
 dsimp only at*
 have o14:=hM.o14
 obtain⟨cd1,cd2,cd3⟩:=hM.qu.cell
 have hqN:=hP.bf.len
 by_cases hp:p=qs.length
 ·have hl0:(qs.drop p).length=0:=by simp;omega
  rw[hl0] at cd3
  simp[o14,cd3]
  exact Back.plain (by simp) hM.sm (h2 (hP.none hp))
 ·have hp2:p<qs.length:=by have:=hP.le;omega
  have hdr:qs.drop p=qs[p]::qs.drop (p+1):=List.drop_eq_getElem_cons hp2
  have hxN:=hP.bf.lt _ (List.getElem_mem hp2)
  have hxq:qs[p]? =some qs[p]:=List.getElem?_eq_getElem hp2
  rw[hdr] at hM cd3
  have hqu:=hM.qu
  generalize hx:qs[p]=x at*
  obtain⟨jq,lo,op,rs,hh1,hh2,hh3⟩:=hqu.head
  obtain⟨d',ht1,ht2⟩:=hqu.tail
  obtain⟨ce1,ce2,_⟩:=ht2.cell
  rw[List.length_cons] at cd3
  have hpos:(0:Int)<(((qs.drop (p+1)).length+1:Nat):Int):=by omega
  have hM1:=hM.setD ho ht2
  simp[o14,cd3,hpos,hh1,hh2,hh3,ht1,ce1,ce2]
  generalize y.put j14 (.rows false 1 [[d']])=y1 at*
  refine hq x hxN hM1.sm (by have:=hM1.nx;omega) ?_
  cases hqx:q x with
  |true=>
   simp
   refine path_out hg (by omega) hP.bf hxq hM1.o5 hM1.o12 hM1.ob (by have:=hM1.nx;omega) (by have:=hM1.nx;omega) (by have:=hM1.nx;omega) fun y2 d2 o s' hA hw hlen hs'=> ?_
   simp[hs']
   refine reverse_ok hA (by omega) fun y3 hA3 hn3=> ?_
   simp
   exact Back.accT hA3 hM1.sm (by have:=hM1.nx;omega) (b_map b_Int _) (by simp) (h1 _ _ hw hqx (by simp;omega))
  |false=>
   have p5:=hM1.o5
   simp[p5]
   refine from_ok g x fun M3 j2 j3 t1 t2 t3 t4 t5 t6=> ?_
   have hnx:=hM1.nx
   simp
   have ho2:PaO (fun j=>bad j∨j=M3.next∨j=j2∨j=j3) M.next jb j12 j13 j14:=⟨a1,a2,a3,a4,fun j h=>.inl (ho.b1 j h),.inl ho.b2⟩
   refine from_rg g hl x (Y:=j2) (p:=65) (q:=66) (Nat.le_refl _) (by omega) (by omega) t4 t5 t6 rfl rfl rfl (fun e y=> ∃bf m d qs2,PaM (fun j=>bad j∨j=M3.next∨j=j2∨j=j3) M y g mi w N jb j12 j13 j14 bf m d (qs2.drop (p+1))∧Bf g mi w s0 N bf qs2∧m<2^64∧(∀v,m.testBit v=true↔v∈qs2)∧(∃r,qs2=qs++r)∧j2<y.next∧ ∀(e':Nat) (he:e'<g.es.length),e'<e→g.es[e'].f=x→g.es[e'].a≠w→mi.testBit g.es[e'].t.toNat=true→g.es[e'].t.toNat∈qs2)
    ⟨bf,m,d',qs,(hM1.bad2 (fun j hj hh=>hh.elim id fun hh=>by omega)).frame ho2 (by omega) (fun j hj _=>t1 j hj),hP.bf,hP.lt,hP.seen,⟨[],by simp⟩,by omega,fun e' he h=>by omega⟩
    (fun e y y' ⟨bf,m,d,qs2,p1,p2,p3,p4,p5,p6,p7⟩ _ s hn=>⟨bf,m,d,qs2,p1.frame ho2 hn (fun j hj hh=>s j hj (by rintro rfl;rcases hh with hh|hh;omega;exact hh (.inr (.inl rfl)))),p2,p3,p4,p5,by omega,p7⟩)
    (fun e y he ⟨bf,m,d,qs2,p1,p2,p3,p4,p5,p6,p7⟩ hne=>⟨bf,m,d,qs2,p1,p2,p3,p4,p5,p6,fun e' he' h hf=> ?_⟩)
    (fun e y he ⟨bf,m,d,qs2,p1,p2,p3,p4,p5,p6,p7⟩ hf ly oj2 oj3 o1 o2 Ka Kb ol hA fin ret=> ?_) (fun y ⟨bf',m',d2,qs2,p1,p2,p3,p4,⟨r,p5⟩,p6,p7⟩ ly=> ?_)
   ·by_cases c:e'=e
    ·subst c;exact absurd hf hne
    ·exact p7 e' he' (by omega) hf
   ·have he0:=hg.ok _ (List.getElem_mem he)
    have b0:=he0.f0;have b1:=he0.t0;have b2:=he0.t1
    obtain⟨tn,htn⟩: ∃tn:Nat,g.es[e].t=tn:=⟨g.es[e].t.toNat,by omega⟩
    have htn2:g.es[e].t.toNat=tn:=by omega
    have htN:tn<N:=by omega
    have r1:=p1.frame ho2 (y':=((y.new (.rows false 3 [[I 0,I 0,I 0]])).put y.next (.rows false 3 [[I x,I g.es[e].a,I tn]])).put M3.next o2) (by simp;omega) fun j hj hh=>by
     rw[get_put,if_neg (by rintro rfl;rcases hh with hh|hh;omega;exact hh (.inr (.inl rfl))),get_put,if_neg (by omega),get_new,if_neg (by omega)]
    have r2:(((y.new (.rows false 3 [[I 0,I 0,I 0]])).put y.next (.rows false 3 [[I x,I g.es[e].a,I tn]])).put M3.next o2).obj y.next=some (.rows false 3 [[I x,I g.es[e].a,I tn]]):=by simp(disch:=omega)
    have r3:(((y.new (.rows false 3 [[I 0,I 0,I 0]])).put y.next (.rows false 3 [[I x,I g.es[e].a,I tn]])).put M3.next o2).obj M3.next=some o2:=by simp
    have r4:SM M3.next y (((y.new (.rows false 3 [[I 0,I 0,I 0]])).put y.next (.rows false 3 [[I x,I g.es[e].a,I tn]])).put M3.next o2):=(by repeat' (first|assumption|exact zr _ _|apply zu|apply zw|apply zy| ((try simp only[zc,ze,zf]);omega)))
    have r5:y.next<(((y.new (.rows false 3 [[I 0,I 0,I 0]])).put y.next (.rows false 3 [[I x,I g.es[e].a,I tn]])).put M3.next o2).next:=by simp;omega
    simp[c_h_24,zE,htn,hf]
    refine hA _ _ (by simp(disch:=((try simp only[zc,ze]);omega)) [ol]) ?_
    generalize ((y.new (.rows false 3 [[I 0,I 0,I 0]])).put y.next (.rows false 3 [[I x,I g.es[e].a,I tn]])).put M3.next o2=y2 at*
    have oj2':=zO r4 (by omega) oj2
    have oj3':=zO r4 (by omega) oj3
    have x7:=r1.o7;have x8:=r1.o8;have x13:=r1.o13;have x12:=r1.o12;have x14:=r1.o14;have xb:=r1.ob
    have hend:(g.es[e].a≠w→mi.testBit tn=true→tn∈qs2)→ ∀s',Kb.nrm s' y2:=fun hc s'=>by
     refine fin s' y2 r3 ⟨oj2',oj3',by omega,bf,m,d,qs2,r1,p2,p3,p4,p5,by omega,fun e' he' h hf ha hm=> ?_⟩
     by_cases c:e'=e
     ·subst c;rw[htn2] at hm⊢;exact hc ha hm
     ·exact p7 e' he' (by omega) hf ha hm
    by_cases hw:g.es[e].a=w
    ·simp[zcn,r2,x8,hw]
     exact hend (fun h=>absurd hw h) _
    ·simp[zcn,r2,x8,hw,x7]
     refine zdM mi tn hmi (by omega) ?_
     cases hb2:mi.testBit tn with
     |false=>
      simp[hb2]
      exact hend (fun _ h=>by rw[hb2] at h;cases h) _
     |true=>
      simp[hb2,x13,r2]
      refine zdM m tn p3 (by omega) ?_
      cases hb3:m.testBit tn with
      |true=>
       simp[hb3]
       exact hend (fun _ _=>(p4 tn).1 hb3) _
      |false=>
       have hnin:tn∉qs2:=fun h=>by rw[(p4 tn).2 h] at hb3;cases hb3
       obtain⟨r,hr⟩:=p5
       have hpq:p<qs2.length:=by rw[hr];simp;omega
       have hpx:qs2[p]=x:=by
        have:qs2[p]? =some x:=by rw[hr,List.getElem?_append_left hp2];exact hxq
        rw[List.getElem?_eq_getElem hpq] at this;exact Option.some.inj this
       have hBf:=p2.add hnin htN hpq he htn (by rw[hpx];exact hf) hw hb2
       have hq2:=p2.len
       simp[hb3,r2]
       refine zhK m tn _ p3 (by omega) x13 ?_
       have s1:=r1.setM ho2 (m ||| 2^tn)
       have rcx:=R1_at (f:=bf) htN
       have s2:=s1.setB ho2 (R:=(R1 bf N).set tn [I e]) (bf':=up1 bf tn e) R1_set
       have n13:y.next≠j13:=by omega
       have nb:y.next≠jb:=by omega
       have y14:=s2.o14
       simp(disch:=((try simp only[zc,ze,zf]);omega)) [r2,x12,xb,htN,rcx,x14]
       have hne: ¬((fun j=>bad j∨j=M3.next∨j=j2∨j=j3) (((y2.put j13 (setO (m ||| 2^tn))).put jb (.rows false 1 ((R1 bf N).set tn [I e]))).new (.rows false 1 [[I tn]])).next):=by
        have hz:=hbig (((y2.put j13 (setO (m ||| 2^tn))).put jb (.rows false 1 ((R1 bf N).set tn [I e]))).new (.rows false 1 [[I tn]])).next (by simp;omega)
        intro hh
        rcases hh with hh|hh
        ·exact hz hh
        ·simp at hh;omega
       refine Rs_qpush (x:=tn) (s2.new ho2 _).qu (by simp;omega) hne (by simp) fun d3 y3 hq3 hn3 hf3=> ?_
       have s3:=(s2.new ho2 (.rows false 1 [[I tn]])).push ho2 hn3 hf3 hq3
       obtain⟨ce3,ce4,_⟩:=hq3.cell
       have z14:y3.obj j14=some (.rows false 1 [[d]]):=by
        have:=(s2.new ho2 (.rows false 1 [[I tn]])).o14
        rw[←this];show(y3.get j14).map _=(VM.get _ j14).map _;rw[hf3 j14 (by simp;omega) ho2.b2]
       have ho3: ∀j o,((fun j=>bad j∨j=M3.next∨j=j2∨j=j3) j)→j<y2.next→j≠j13→j≠jb→j≠j14→y2.obj j=some o→(y3.put j14 (.rows false 1 [[d3]])).obj j=some o:=fun j o hb hlt e1 e2 e3 e4=>by
        rw[zbh,if_neg e3,←e4]
        show(y3.get j).map _=(y2.get j).map _
        rw[hf3 j (by simp;omega) hb,get_new,if_neg (by simp;omega),get_put,if_neg e2,get_put,if_neg e1]
       simp[z14,ce3,ce4]
       rw[←List.drop_append_of_le_length (by omega)] at s3
       refine fin _ _ (ho3 _ _ (.inr (.inl rfl)) (by omega) (by omega) (by omega) (by omega) r3) ⟨ho3 _ _ (.inr (.inr (.inl rfl))) (by omega) (by omega) (by omega) (by omega) oj2',ho3 _ _ (.inr (.inr (.inr rfl))) (by omega) (by omega) (by omega) (by omega) oj3',by simp at hn3⊢;omega,up1 bf tn e,m ||| 2^tn,d3,qs2++[tn],s3,hBf,or_lt p3 (by omega),fun v=> ?_,⟨r++[tn],by rw[hr,List.append_assoc]⟩,by simp at hn3⊢;omega,fun e' he' h hf' ha hm=> ?_⟩
       ·rw[zlK,p4,List.mem_append,List.mem_singleton]
       ·by_cases c:e'=e
        ·subst c;rw[htn2];exact List.mem_append_right _ (by simp)
        ·exact List.mem_append_left _ (p7 e' he' (by omega) hf' ha hm)
   ·simp at again
    simp
    have hq2:=p2.len
    have hlen2:qs2.length=qs.length+r.length:=by rw[p5];simp
    refine again y bf' m' (p+1) qs2 d2 (by omega) (p1.bad2 fun j _ hj=>.inl hj) ⟨p2,p3,p4,by omega,fun i hi hip=> ?_⟩
    by_cases c:i=p
    ·subst c
     have hpx:qs2[i]=x:=by
      have:qs2[i]? =some x:=by simp only[p5];rw[List.getElem?_append_left hp2];exact hxq
      rw[List.getElem?_eq_getElem hi] at this;exact Option.some.inj this
     rw[hpx]
     refine⟨hqx,fun v ⟨e,q1,q2,q3,q4,q5⟩=> ?_⟩
     obtain⟨q,hq,rfl⟩:=List.getElem_of_mem q1
     have:=p7 q hq hq q2 q4 (by rw[q3];simpa using q5)
     rw[q3] at this;simpa using this
    ·have hi0:i<qs.length:=by omega
     have hpx:qs2[i]=qs[i]:=by
      have:qs2[i]? =qs[i]?:=by simp only[p5];rw[List.getElem?_append_left hi0]
      rw[List.getElem?_eq_getElem hi,List.getElem?_eq_getElem hi0] at this;exact Option.some.inj this
     rw[hpx]
     obtain⟨q1,q2⟩:=hP.no i hi0 (by omega)
     exact⟨q1,fun v hv=>by rw[p5];exact List.mem_append_left _ (q2 v hv)⟩
end Go.Ideal.S
namespace Go.Ideal.S
open Go Go.Ideal Q Classical
attribute [local simp] decide_eq_true decide_eq_false zK
attribute [local simp] r_H c_H f_H r_H_1 r_H_2 r_H_3 r_H_4 r_H_5 r_H_6 r_H_7
def Lb (bad:Nat→Prop) (y:VM) (d:DV) (l:List Int):Prop:=(l=[]∧d=.nilS)∨ ∃j op cap,¬bad j∧j<y.next∧d=.ms j 0 l.length cap∧y.obj j=some (.rows op 1 (l.map eInt))∧(op=true∧cap=zp∨op=false∧cap=l.length∧cap<zp)
section
variable {bad bad':Nat→Prop} {y y':VM} {d:DV} {l:List Int} {x:Int}
theorem Lb.keep (h:Lb bad y d l) (hn:y.next≤y'.next) (ho: ∀j,j<y.next→ ¬bad j→y'.get j=y.get j) (hb: ∀j,j<y.next→bad' j→bad j):Lb bad' y' d l:=by
 rcases h with h| ⟨j,op,cap,h1,h2,h3,h4,h5⟩
 ·exact .inl h
 ·refine .inr ⟨j,op,cap,fun hh=>h1 (hb j h2 hh),by omega,h3,?_,h5⟩
  rw[←h4];show(y'.get j).map _=(y.get j).map _;rw[ho j h2 h1]
theorem Lb.put (h:Lb bad y d l) {j:Nat} (hj:bad j) (o:MO):Lb bad (y.put j o) d l:=h.keep (by simp) (fun i _ hi=>by rw[get_put,if_neg (by rintro rfl;exact hi hj)]) fun _ _ h=>h
theorem Lb.new (h:Lb bad y d l) (o:MO):Lb bad (y.new o) d l:=h.keep (by simp) (fun i hi _=>by rw[get_new,if_neg (by omega)]) fun _ _ h=>h
theorem Lb.cell (h:Lb bad y d l):zU d=[d]∧zJ d=true:=by
 rcases h with⟨_,rfl⟩| ⟨j,op,cap,h1,h2,rfl,_⟩<;>exact⟨rfl,rfl⟩
theorem Rs_lb {X:RnD} {fr:FrC} {jb:Nat} {dst:Option (List Bool)} {r:List CI} {sl:DS} (h:Lb bad y d l) (hl:l.length≤1000000) (hY: ¬bad y.next) (hb:y.obj jb=some (.rows false 1 [[I x]]))
 (k: ∀d' y',Lb bad y' d' (l++[x])→y.next≤y'.next→(∀j,j<y.next→bad j→y'.get j=y.get j)→ @Op X fr r (zbm dst d' sl) y'): @Rs X fr (bltD y (.append 1 8) [d,.ms jb 0 1 1]) dst r sl:=by
 rw[zb2,if_pos ⟨by decide,by decide⟩,zco,hb]
 rw[show elO 1 0 1 (some (MO.rows false 1 [[I x]]))=some [[I x]] from by simp,zc5,if_pos (by simp)]
 have hlen:(l.map eInt++[[I x]]).length=(l++[x]).length:=by simp
 have hnew: ∀(y2:VM) (nx:y2.next=y.next),Lb bad (y2.new (.rows true 1 (l.map eInt++[[I x]]))) (.ms y.next 0 (l.map eInt++[[I x]]).length zp) (l++[x]):=fun y2 nx=>
  .inr ⟨y.next,true,zp,hY,by simp[nx],by rw[hlen],by rw[←nx,List.map_append];simp;rfl,.inl ⟨rfl,rfl⟩⟩
 rcases h with⟨rfl,rfl⟩| ⟨j,op,cap,h1,h2,rfl,h4,h5⟩
 ·have e:zbd 1 8 y [[I x]] .nilS=some (.ms y.next 0 1 zp,y.new (.rows true 1 [[I x]])):=by simp
  rw[e]
  exact k _ _ (hnew y rfl) (by simp) fun i hi _=>by rw[get_new,if_neg (by omega)]
 ·have ht:((l.map eInt).drop 0).take l.length=l.map eInt:=by rw[List.drop_zero,List.take_of_length_le (by simp)]
  rcases h5 with⟨rfl,rfl⟩| ⟨rfl,rfl,h6⟩
  ·have e:zbd 1 8 y [[I x]] (.ms j 0 l.length zp)=some (.ms y.next 0 (l.map eInt++[[I x]]).length zp,(y.del j).new (.rows true 1 (l.map eInt++[[I x]]))):=by
    rw[zbI,if_neg (by simp),if_pos (by simp;omega),h4,zcN,zbN,if_pos ⟨rfl,by simp⟩,if_neg (by simp),ht]
   rw[e]
   exact k _ _ (hnew _ rfl) (by simp) fun i hi hbi=>by rw[get_new,if_neg (by simp;omega),zf8,if_neg (by rintro rfl;exact h1 hbi)]
  ·have e:zbd 1 8 y [[I x]] (.ms j 0 l.length l.length)=some (.ms y.next 0 (l.map eInt++[[I x]]).length zp,y.new (.rows true 1 (l.map eInt++[[I x]]))):=by
    rw[zbI,if_neg (by simp),if_pos (by simp;omega),h4,zcN]
    unfold zcA
    dsimp only
    rw[if_pos ⟨rfl,by simp⟩,if_pos h6,if_neg (by simp),ht];rfl
   rw[e]
   exact k _ _ (hnew _ rfl) (by simp) fun i hi _=>by rw[get_new,if_neg (by omega)]
end
def endOf (es:List Edge) (a:Int) (l:List Int):Int:=match l.getLast? with
 |none=>a
 |some x=>(eAt es x).t
theorem endOf_app (es:List Edge) (a:Int) (l:List Int) (x:Int):endOf es a (l++[x])=(eAt es x).t:=by unfold endOf;simp
theorem Way.last {g:Gr} {mi:Nat} {w:Int} {s n:Nat} {l:List Int} (h:Way g mi w s l n):endOf g.es s l=n:=by
 cases h with
 |nil=>rfl
 |snoc h e he h1 h2 u h3 h4=>rw[endOf_app,zb9 he,h3]
variable {M:VM} {k kp:DV→VM→Prop} {n0:Nat}
theorem walk_ok {g:Gr} (hg:zbt g) {N:Nat} (hN:g.st=N) {mi:Nat} (hmi:mi<2^64) (w:Int) (fis:DV) (q:Nat→Bool) {bad:Nat→Prop} {jg ja ji jw jo a0:Nat} {d:DV} {l:List Int}
 (og:M.obj jg=some (grO g)) (oa:M.obj ja=some (intO a0)) (oi:M.obj ji=some (setO mi)) (ow:M.obj jw=some (intO w)) (oo:M.obj jo=some (.rows false 1 [[d]])) (hl:Lb bad M d l)
 (bg:bad jg∧jg<M.next) (ba:bad ja∧ja<M.next) (bo:bad jo∧jo<M.next) (hne:ja≠jo∧jg≠ja∧jg≠jo) (hbig: ∀j,M.next≤j→ ¬bad j) (ha:a0<N) (hll:l.length≤100000)
 (hq: ∀v,v<N→ ∀{M1:VM} {k kp:DV→VM→Prop},SM M.next M M1→M.next≤M1.next→k (.bool (q v)) M1→zA F fis [I v] M1 k kp)
 (hex: ∃n,Star (RF g (fun v=>mi.testBit v) w) a0 n∧q n=true)
 (hk: ∀M' d' l2 n,Way g mi w a0 l2 n→q n=true→l2.length<N→M.next≤M'.next→(∀j,j<M.next→bad j→j≠ja→j≠jo→M'.get j=M.get j)→M'.obj ja=some (intO n)→M'.obj jo=some (.rows false 1 [[d']])→Lb bad M' d' (l++l2)→k (.tup []) M'):
 zA F (.fn n_H [] [.ptr jg 0 0,.ptr ja 0 0,.ptr ji 0 0,.ptr jw 0 0,.ptr jo 0 0]) [fis] M k kp:=by
 have g2:=hg.s2
 refine .fn zgI rfl (by simp[f_H]) ?_
 simp[og,oa,oi,ow]
 refine jpath_ok hg hN hmi w ha fis q hq (fun l2 n hw hqn hlen=> ?_) (fun hno=> ?_)
 ·have hE:=hw.edges
  simp
  refine .for (σ:=VM×DV) c_H_8.eq_1 (fun i _=>[(22,I i)]) (fun z=>z.1) (fun i z=>M.next≤z.1.next∧(∀j,j<M.next→bad j→j≠ja→j≠jo→z.1.get j=M.get j)∧z.1.obj ja=some (intO (endOf g.es a0 (l2.take i)))∧z.1.obj jo=some (.rows false 1 [[z.2]])∧Lb bad z.1 z.2 (l++l2.take i)) l2.length (M,d) (by simp) rfl ⟨Nat.le_refl _,fun _ _ _ _ _=>rfl,oa,oo,by simpa using hl⟩ (fun i z hi hP again=> ?_) (fun z hP=> ?_)
  ·obtain⟨y,d2⟩:=z
   obtain⟨p1,p2,p3,p4,p5⟩:=hP
   dsimp only at*
   have hx:=hE _ (List.getElem_mem hi)
   obtain⟨e,he⟩: ∃e:Nat,l2[i]=e:=⟨l2[i].toNat,by omega⟩
   have hel:e<g.es.length:=by omega
   have pg:y.obj jg=some (grO g):=by rw[←og];show(y.get jg).map _=(M.get jg).map _;rw[p2 jg bg.2 bg.1 hne.2.1 hne.2.2]
   rw[List.take_succ_eq_append_getElem hi,he] at again
   rw[endOf_app,zb9 hel,←List.append_assoc] at again
   simp at again
   have hlt:=List.length_take_le i l2
   simp[hi,p4,eInt,he]
   refine Rs_lb (x:=e) (p5.new _) (by simp;omega) (hbig _ (by simp;omega)) (by simp) fun d3 y3 q1 q2 q3=> ?_
   obtain⟨c1,c2⟩:=q1.cell
   have q3': ∀j,j<M.next→bad j→y3.get j=y.get j:=fun j hj hb=>by rw[q3 j (by simp;omega) hb,get_new,if_neg (by omega)]
   have ob: ∀j o,j<M.next→bad j→y.obj j=some o→y3.obj j=some o:=fun j o h1 h2 h3=>by
    rw[←h3];show(y3.get j).map _=(y.get j).map _;rw[q3' j h1 h2]
   have ro:=ob _ _ bo.2 bo.1 p4
   have rg:=ob _ _ bg.2 bg.1 pg
   have ra:=ob _ _ ba.2 ba.1 p3
   have n1:=hne.1;have n2:=hne.2.1;have n3:=hne.2.2
   simp only[zc] at q2
   simp(disch:=((try simp only[zc,ze,zf]);omega)) [ro,rg,ra,c1,c2,he,hel,zE]
   refine again _ d3 (by simp;omega) (fun j h1 h2 h3 h4=> ?_) (by simp) (by simp(disch:=omega)) (by rw[←List.append_assoc];exact(q1.put bo.1 _).put ba.1 _)
   rw[get_put,if_neg h3,get_put,if_neg h4,q3' j h1 h2];exact p2 j h1 h2 h3 h4
  ·obtain⟨y,d2⟩:=z
   obtain⟨p1,p2,p3,p4,p5⟩:=hP
   dsimp only at*
   rw[List.take_length] at p3 p5
   rw[hw.last] at p3
   simp
   exact hk y d2 l2 n hw hqn hlen p1 p2 p3 p4 p5
 ·obtain⟨n,h1,h2⟩:=hex
  rw[hno n h1] at h2;cases h2
end Go.Ideal.S
set_option maxHeartbeats 4000000
namespace Go.Ideal.S
open Go Go.Ideal Q Classical
attribute [local simp] decide_eq_true decide_eq_false zK
attribute [local simp] c_f f_f r_f_5 r_f_6 r_f_7 r_f_8 r_f_9 r_f_10 r_f_11 r_f_12 r_f_13 r_f_14 r_f_16 r_f_17 r_f_18 r_f_19 r_5 c_5 f_5 r_5_1 r_5_2 r_W c_W f_W r_W_1 r_W_2 r_W_3 r_W_4 r_4 c_4 f_4 r_4_1 r_4_2
variable {M:VM} {k kp:DV→VM→Prop} {n0:Nat}
theorem is2_ok {j v f:Nat} {a b:Int} (ho:M.obj j=some (.rows false 3 [[I f,I a,I b]])) (hk:k (.bool (decide (v=f))) M):zA F (.fn n_5 [] [.ptr j 0 0]) [I v] M k kp:=by
 apply zA.back
 refine .fn zgH rfl (by simp[f_5]) ?_
 have:((v:Int)=f)=(v=f):=propext ⟨fun h=>by omega,fun h=>by omega⟩
 rw[←show decide ((v:Int)=f)=decide (v=f) by simp only[this]] at hk
 simp[ho]
 exact Back.plain (by simp) (by repeat' (first|assumption|exact zr _ _|apply zu|apply zw|apply zy| ((try simp only[zc,ze,zf]);omega))) hk
theorem is4_ok {j v f:Nat} (ho:M.obj j=some (intO f)) (hk:k (.bool (decide (v=f))) M):zA F (.fn n_4 [] [.ptr j 0 0]) [I v] M k kp:=by
 apply zA.back
 refine .fn zgF rfl (by simp[f_4]) ?_
 have:((v:Int)=f)=(v=f):=propext ⟨fun h=>by omega,fun h=>by omega⟩
 rw[←show decide ((v:Int)=f)=decide (v=f) by simp only[this]] at hk
 simp[ho]
 exact Back.plain (by simp) (by repeat' (first|assumption|exact zr _ _|apply zu|apply zw|apply zy| ((try simp only[zc,ze,zf]);omega))) hk
theorem is3_ok {g:Gr} (hg:zbt g) {jg jw v:Nat} {w:Int} (og:M.obj jg=some (grO g)) (ow:M.obj jw=some (intO w)) (l1:jg<M.next) (l2:jw<M.next) (hv:v<60) (hk:k (.bool (opnB g (2^v:Nat).testBit w)) M):zA F (.fn n_W [] [.ptr jg 0 0,.ptr jw 0 0]) [I v] M k kp:=by
 have hl:g.es.length≤1000000:=by have:=hg.el;omega
 have g2:=hg.s2
 apply zA.back
 refine .fn zgG rfl (by simp[f_W]) ?_
 simp
 refine zhK 0 v _ (by decide) (by omega) (by simp) ?_
 simp(disch:=((try simp only[zc,ze,zf]);omega)) [og,ow]
 refine jopen_ok g (2^v) w hl (Nat.pow_lt_pow_right (by omega) (by omega)) (fun e he=>by have h:=hg.ok e he;have:=h.f0;have:=h.f1;omega) ?_
 rw[show(g.es.any fun e=>(2^v:Nat).testBit e.f.toNat&&decide (e.a=w))=opnB g (2^v:Nat).testBit w from rfl]
 generalize opnB g (2^v:Nat).testBit w=b at*
 simp
 exact Back.plain (by simp) (by repeat' (first|assumption|exact zr _ _|apply zu|apply zw|apply zy| ((try simp only[zc,ze,zf]);omega))) hk
structure RiM (B y:VM) (g:Gr) (mi:Nat) (w:Int) (n:Nat) (at_:Nat) (d:DV) (l:List Int) (b9:List Bool):Prop where
 sm:SM B.next B y
 nx:B.next+8≤y.next
 o5:y.obj B.next=some (grO g)
 o6:y.obj (B.next+1)=some (intO n)
 o7:y.obj (B.next+2)=some (setO mi)
 o8:y.obj (B.next+3)=some (intO w)
 o11:y.obj (B.next+4)=some (.rows false 1 [[d]])
 o12:y.obj (B.next+5)=some (intO at_)
 o14:y.obj (B.next+7)=some (.rows false 40 [b9.map .bool])
 lb:Lb (fun j=>j<B.next+8) y d l
theorem RiM.walk {B y y':VM} {g:Gr} {mi:Nat} {w:Int} {n at_ a2:Nat} {d d2:DV} {l l2:List Int} {b9:List Bool} {bad:Nat→Prop} (h:RiM B y g mi w n at_ d l b9) (hb: ∀j,j<B.next+8→bad j) (hn:y.next≤y'.next)
 (hf: ∀j,j<y.next→bad j→j≠B.next+5→j≠B.next+4→y'.get j=y.get j) (h1:y'.obj (B.next+5)=some (intO a2)) (h2:y'.obj (B.next+4)=some (.rows false 1 [[d2]])) (h3:Lb bad y' d2 l2):RiM B y' g mi w n a2 d2 l2 b9:=by
 have hx:=h.nx
 have ob: ∀j o,j<B.next+8→j≠B.next+5→j≠B.next+4→y.obj j=some o→y'.obj j=some o:=fun j o a b c e=>by
  rw[←e];show(y'.get j).map _=(y.get j).map _;rw[hf j (by omega) (hb j a) b c]
 exact⟨fun j hj=>(hf j (by omega) (hb j (by omega)) (by omega) (by omega)).trans (h.sm j hj),by omega,ob _ _ (by omega) (by omega) (by omega) h.o5,ob _ _ (by omega) (by omega) (by omega) h.o6,ob _ _ (by omega) (by omega) (by omega) h.o7,ob _ _ (by omega) (by omega) (by omega) h.o8,h2,h1,ob _ _ (by omega) (by omega) (by omega) h.o14,h3.keep (Nat.le_refl _) (fun _ _ _=>rfl) fun j _ hj=>hb j hj⟩
theorem RiM.frame {B y y':VM} {g:Gr} {mi:Nat} {w:Int} {n at_:Nat} {d:DV} {l:List Int} {b9:List Bool} (h:RiM B y g mi w n at_ d l b9) (hs:SM y.next y y') (hn:y.next≤y'.next):RiM B y' g mi w n at_ d l b9:=by
 have hx:=h.nx
 exact⟨zc7 h.sm (zes hs (by omega)),by omega,zO hs (by omega) h.o5,zO hs (by omega) h.o6,zO hs (by omega) h.o7,zO hs (by omega) h.o8,zO hs (by omega) h.o11,zO hs (by omega) h.o12,zO hs (by omega) h.o14,h.lb.keep hn (fun j hj _=>hs j hj) fun _ _ h=>h⟩
theorem RiM.done {B y:VM} {g:Gr} {mi:Nat} {w:Int} {n at_:Nat} {d:DV} {l:List Int} {b9:List Bool} (h:RiM B y g mi w n at_ d l b9) (b2:List Bool):RiM B (y.put (B.next+7) (.rows false 40 [b2.map .bool])) g mi w n at_ d l b2:=by
 have hx:=h.nx
 exact⟨zu h.sm (by omega),by simp;omega,by simp(disch:=omega) [h.o5],by simp(disch:=omega) [h.o6],by simp(disch:=omega) [h.o7],by simp(disch:=omega) [h.o8],by simp(disch:=omega) [h.o11],by simp(disch:=omega) [h.o12],by simp,h.lb.put (by omega) _⟩
theorem Way.head {g:Gr} {mi:Nat} {w:Int} {s n:Nat} {l:List Int} (h:Way g mi w s l n):(l=[]∧n=s)∨ ∃x∈l,(eAt g.es x).f=s:=by
 induction h with
 |nil=>exact .inl ⟨rfl,rfl⟩
 |snoc h e he h1 h2 u h3 h4 ih=>
  rcases ih with⟨rfl,rfl⟩| ⟨x,hx,h5⟩
  ·exact .inr ⟨e,by simp,by rw[zb9 he];exact h1⟩
  ·exact .inr ⟨x,List.mem_append_left _ hx,h5⟩
theorem Way.inn {g:Gr} {mi:Nat} {w:Int} {s n:Nat} {l:List Int} (h:Way g mi w s l n) (hs:mi.testBit s=true):mi.testBit n=true:=by
 cases h with
 |nil=>exact hs
 |snoc _ _ _ _ _ _ _ h4=>exact h4
structure RingOf (g:Gr) (mi:Nat) (w:Int) (also:Bool) (n:Nat) (l:List Int):Prop where
 way:Way g mi w n l n
 act: ∀x,x≠w→Ins (EG g) (fun v=>mi.testBit v=true) x→ ∃e∈l,(eAt g.es e).a=x
 opn:also=true→ ∃e∈l,∃e2∈g.es,e2.f=(eAt g.es e).f∧e2.a=w
 len:l.length≤2600
structure RiP (g:Gr) (mi:Nat) (w:Int) (n i:Nat) (at_:Nat) (l:List Int) (b9:List Bool):Prop where
 way:Way g mi w n l at_
 b:b9.length=40
 len:l.length≤60*b9.countP fun b=>b
 act: ∀(q:Nat) (hq:q<g.es.length),q<i→g.es[q].a≠w→mi.testBit g.es[q].f.toNat=true→mi.testBit g.es[q].t.toNat=true→b9[g.es[q].a.toNat]? =some true
 has: ∀a:Nat,b9[a]? =some true→ ∃e∈l,(eAt g.es e).a=a
theorem cnt_set {l:List Bool} {a:Nat} (h:l[a]? =some false):(l.set a true).countP (fun b=>b)=l.countP (fun b=>b)+1:=by
 induction l generalizing a with
 |nil=>cases h
 |cons b l ih=>
  cases a with
  |zero=>
   obtain rfl:b=false:=by simpa using h
   simp
  |succ a=>
   have:=ih (a:=a) (by simpa using h)
   rw[List.set_cons_succ,List.countP_cons,List.countP_cons,this];omega
theorem zgT {g:Gr} {mi:Nat} {w:Int} {st:Bool} (hC:Core (EG g) w st (fun v=>mi.testBit v=true)) {a b:Nat} (ha:mi.testBit a=true) (hb:mi.testBit b=true):Star (RF g (fun v=>mi.testBit v) w) a b:=RF_star.2 (hC.con a b ha hb)
end Go.Ideal.S
namespace Go.Ideal.S
open Go Go.Ideal Q Classical
attribute [local simp] decide_eq_true decide_eq_false zK
attribute [local simp] c_f f_f r_f_5 r_f_6 r_f_7 r_f_8 r_f_9 r_f_10 r_f_11 r_f_12 r_f_13 r_f_14 r_f_16 r_f_17 r_f_18 r_f_19 r_H r_5 r_W r_4
variable {M:VM} {k kp:DV→VM→Prop} {n0:Nat}
theorem Back.lb {bad:Nat→Prop} {y M0:VM} {d:DV} {l:List Int} {k:DV→VM→Prop} (h:Lb bad y d l) (hb: ∀j,j<M0.next→bad j) (hs:SM M0.next M0 y) (hk:k (ints l) M0):Back k M0 d y:=fun hw=>by
 refine⟨ints l,?_,b_lst b_Int l,fun j hj=>hs j hj,hk⟩
 rcases h with⟨rfl,rfl⟩| ⟨j,op,cap,h1,h2,rfl,h4,_⟩
 ·exact .nilS 1
 ·exact .ms0 h4 (hw j (by
   rcases Nat.lt_or_ge j M0.next with h|h
   ·exact absurd (hb j h) h1
   ·exact h)) (by simp) (l_map l_Int l)
theorem jring_ok {g:Gr} (hg:zbt g) {N:Nat} (hN:g.st=N) {mi:Nat} (hmi:mi<2^64) (w:Int) (st also:Bool) (hC:Core (EG g) w st (fun v=>mi.testBit v=true)) {n:Nat} (hn:mi.testBit n=true) (hin: ∀v,mi.testBit v=true→v<N)
 (hal:also=true→Opn (EG g) (fun v=>mi.testBit v=true) w) (hk: ∀l,RingOf g mi w also n l→k (ints l) M):zA F (.fn n_f [] []) [.agg (eGr g),I n,Go.Ideal.S.setD mi,I w,.bool also] M k kp:=by
 have g2:=hg.s2
 have ga:=hg.a2
 have hl:g.es.length≤1000000:=by have:=hg.el;omega
 apply zA.back
 refine .fn zh5 rfl (by simp[f_f]) ?_
 simp(disch:=((try simp only[zc,ze,zf]);omega)) [eGr]
 refine zcq.gen (Q:=fun y=>RiM M y g mi w n n .nilS [] no40) ⟨(by repeat' (first|assumption|exact zr _ _|apply zu|apply zw|apply zy| ((try simp only[zc,ze,zf]);omega))),by(try simp only[zc,ze]);omega,?_,?_,?_,?_,?_,?_,?_,.inl ⟨rfl,rfl⟩⟩ fun y0 hy0=> ?_
 iterate 7 exact by simp(disch:=((try simp only[zc,ze]);omega)) [no40]
 refine .for (σ:=VM×DV×List Int×Nat×List Bool) c_f_15.eq_1 (fun i _=>[(23,I i)]) (fun z=>z.1) (fun i z=>RiM M z.1 g mi w n z.2.2.2.1 z.2.1 z.2.2.1 z.2.2.2.2∧RiP g mi w n i z.2.2.2.1 z.2.2.1 z.2.2.2.2) g.es.length (y0,.nilS,[],n,no40) (by simp) rfl
  ⟨hy0,.nil,no40_len,by simp,fun q hq h=>by omega,fun a h=>absurd h (rep_on _ _)⟩ (fun i z hi hP again=> ?_) (fun z hP=> ?_)
 ·obtain⟨y,d,l,at_,b9⟩:=z
  obtain⟨hM,hP⟩:=hP
  dsimp only at*
  have hx:=hM.nx
  have o5:=hM.o5;have o7:=hM.o7;have o8:=hM.o8;have o14:=hM.o14
  have he:=hg.ok _ (List.getElem_mem hi)
  have c0:=he.f0;have c1:=he.f1;have c2:=he.t0;have c3:=he.t1;have c4:=he.a0;have c5:=he.a1
  obtain⟨fn,hf⟩:=Int.eq_ofNat_of_zero_le c0
  obtain⟨tn,ht⟩:=Int.eq_ofNat_of_zero_le c2
  obtain⟨an,ha⟩:=Int.eq_ofNat_of_zero_le c4
  have ha40:an<40:=by omega
  have hb:=hP.b
  have hab:an<b9.length:=by omega
  have hrd:oneD ((b9.map DV.bool).drop an)=some (.bool b9[an]):=by rw[List.drop_eq_getElem_cons (by simpa using hab)];simp[oneD]
  have hw1:zba (b9.map DV.bool) an [.bool true]=some ((b9.set an true).map DV.bool):=by rw[zg5 _ _ _ (by simpa using hab),List.map_set]
  simp at again
  have s2:SM y.next y ((y.new (.rows false 3 [[I 0,I 0,I 0]])).put y.next (.rows false 3 [[I fn,I an,I tn]])):=(by repeat' (first|assumption|exact zr _ _|apply zu|apply zw|apply zy| ((try simp only[zc,ze,zf]);omega)))
  have n2:y.next<((y.new (.rows false 3 [[I 0,I 0,I 0]])).put y.next (.rows false 3 [[I fn,I an,I tn]])).next:=by simp;omega
  have o2:((y.new (.rows false 3 [[I 0,I 0,I 0]])).put y.next (.rows false 3 [[I fn,I an,I tn]])).obj y.next=some (.rows false 3 [[I fn,I an,I tn]]):=by simp
  have hM2:=hM.frame s2 (by omega)
  have skip: ¬((an:Int)≠w∧b9[an]=false∧mi.testBit fn=true∧mi.testBit tn=true)→RiP g mi w n (i+1) at_ l b9:=fun hc=>⟨hP.way,hP.b,hP.len,fun q hq hqi h1 h2 h3=>by
   by_cases e:q=i
   ·subst e
    rw[hf,Int.toNat_natCast] at h2
    rw[ht,Int.toNat_natCast] at h3
    rw[ha] at h1⊢
    rw[Int.toNat_natCast,List.getElem?_eq_getElem hab]
    cases hh:b9[an] with
    |true=>rfl
    |false=>exact absurd ⟨h1,hh,h2,h3⟩ hc
   ·exact hP.act q hq (by omega) h1 h2 h3,hP.has⟩
  by_cases w1:(an:Int)=w
  ·simp(disch:=((try simp only[zc,ze,zf]);omega)) [hi,zE,hf,ht,ha,w1,o8]
   rw[w1] at hM2
   exact again _ _ _ _ _ hM2 (skip fun h=>h.1 w1)
  ·cases w2:b9[an] with
   |true=>
    rw[w2] at hrd
    simp(disch:=((try simp only[zc,ze,zf]);omega)) [hi,zE,hf,ht,ha,w1,o8,ha40,o14,hrd]
    exact again _ _ _ _ _ hM2 (skip fun h=>by rw[w2] at h;exact absurd h.2.1 (by simp))
   |false=>
    rw[w2] at hrd
    simp(disch:=((try simp only[zc,ze,zf]);omega)) [hi,zE,hf,ht,ha,w1,o8,ha40,o14,hrd,o7]
    generalize (y.new (.rows false 3 [[I 0,I 0,I 0]])).put y.next (.rows false 3 [[I fn,I an,I tn]])=y2 at*
    refine zdM mi fn hmi (by omega) ?_
    cases w3:mi.testBit fn with
    |false=>
     simp(disch:=((try simp only[zc,ze,zf]);omega)) [w3]
     exact again _ _ _ _ _ hM2 (skip fun h=>by rw[w3] at h;exact absurd h.2.2.1 (by simp))
    |true=>
     have o7':=hM2.o7
     simp[w3,o7',o2]
     refine zdM mi tn hmi (by omega) ?_
     cases w4:mi.testBit tn with
     |false=>
      simp(disch:=((try simp only[zc,ze,zf]);omega)) [w4]
      exact again _ _ _ _ _ hM2 (skip fun h=>by rw[w4] at h;exact absurd h.2.2.2 (by simp))
     |true=>
      clear skip
      have o14':=hM2.o14
      have hM3:=hM2.done (b9.set an true)
      rw[List.map_set] at hM3 hw1
      have n3:M.next+7≠y.next:=by omega
      have hat:=hP.way.inn hn
      have lb2:Lb (fun j=>j<M.next+8∨j=y.next) y2 d l:=hM.lb.keep (by omega) (fun j hj _=>s2 j hj) (fun j hj hb=>hb.elim id fun e=>by omega)
      have lb3:=lb2.put (j:=M.next+7) (.inl (by omega)) (.rows false 40 [(b9.map DV.bool).set an (.bool true)])
      have o2':(y2.put (M.next+7) (.rows false 40 [(b9.map DV.bool).set an (.bool true)])).obj y.next=some (.rows false 3 [[I fn,I an,I tn]]):=by simp(disch:=omega) [o2]
      have n4:y.next+1<(y2.put (M.next+7) (.rows false 40 [(b9.map DV.bool).set an (.bool true)])).next:=by simp;omega
      simp[w4,o2,o14',ha40,hw1]
      generalize y2.put (M.next+7) (.rows false 40 [(b9.map DV.bool).set an (.bool true)])=y4 at*
      have hcnt:=cnt_set (l:=b9) (a:=an) (by rw[List.getElem?_eq_getElem hab,w2])
      have hc40:(b9.set an true).countP (fun b=>b)≤40:=by
       have:=List.countP_le_length (p:=fun b:Bool=>b) (l:=b9.set an true);rw[List.length_set,hb] at this;exact this
      have hPl:=hP.len
      refine walk_ok hg hN hmi w _ (fun v=>decide (v=fn)) (bad:=fun j=>j<M.next+8∨j=y.next) hM3.o5 hM3.o12 hM3.o7 hM3.o8 hM3.o11 lb3 ⟨.inl (by omega),by omega⟩ ⟨.inl (by omega),by omega⟩ ⟨.inl (by omega),by omega⟩ (by omega) (fun j hj hh=>by rcases hh with hh|hh<;>omega) (hin _ hat) (by omega)
       (fun v hv {M1 k kp} s1 s2 hk=>is2_ok (zO s1 (by omega) o2') hk) ⟨fn,zgT hC hat w3,by simp⟩ fun y5 d5 l2 m hw2 hqm hl2 hn5 hf5 oa5 oo5 lb5=> ?_
      obtain rfl:m=fn:=by simpa using hqm
      have hM5:=hM3.walk (bad:=fun j=>j<M.next+8∨j=y.next) (fun j hj=>.inl hj) hn5 hf5 oa5 oo5 lb5
      have o2'':y5.obj y.next=some (.rows false 3 [[I m,I an,I tn]]):=by
       rw[←o2'];show(y5.get y.next).map _=(y4.get y.next).map _;rw[hf5 y.next (by omega) (.inr rfl) (by omega) (by omega)]
      simp[oo5]
      refine Rs_lb (x:=i) (lb5.new _) (by simp;omega) (by intro hh;simp at hh;omega) (by simp) fun d6 y6 lb6 hn6 hf6=> ?_
      obtain⟨ce1,ce2⟩:=lb6.cell
      have n7:y5.next<y6.next:=by simp at hn6;omega
      have hf6': ∀j,j<y5.next→(j<M.next+8∨j=y.next)→y6.get j=y5.get j:=fun j h1 h2=>by rw[hf6 j (by simp;omega) h2,get_new,if_neg (by omega)]
      have ob6: ∀j o,j<y5.next→(j<M.next+8∨j=y.next)→y5.obj j=some o→y6.obj j=some o:=fun j o h1 h2 h3=>by
       rw[←h3];show(y6.get j).map _=(y5.get j).map _;rw[hf6' j h1 h2]
      have r11:=ob6 _ _ (by omega) (.inl (by omega)) hM5.o11
      have r12:=ob6 _ _ (by omega) (.inl (by omega)) hM5.o12
      have r16:=ob6 _ _ (by omega) (.inr rfl) o2''
      have e1:y.next≠M.next+4:=by omega
      simp(disch:=((try simp only[zc,ze,zf]);omega)) [r11,r12,r16,ce1,ce2]
      refine again _ d6 (l++l2++[(i:Int)]) tn (b9.set an true) (hM5.walk (bad:=fun j=>j<M.next+8∨j=y.next) (fun j hj=>.inl hj) (by simp;omega) (fun j h1 h2 h3 h4=> ?_) (by simp) (by simp(disch:=omega)) ((lb6.put (.inl (by omega)) _).put (.inl (by omega)) _)) ⟨(hP.way.trans hw2).snoc i hi hf (by rw[ha];exact w1) tn ht w4,by simp[hb],?_,fun q hq hqi h1 h2 h3=> ?_,fun a h=> ?_⟩
      ·rw[get_put,if_neg h3,get_put,if_neg h4];exact hf6' j h1 h2
      ·rw[hcnt];simp;omega
      ·rw[List.getElem?_set]
       by_cases e:an=g.es[q].a.toNat
       ·rw[if_pos e,if_pos (by omega)]
       ·rw[if_neg e]
        refine hP.act q hq ?_ h1 h2 h3
        by_cases e2:q=i
        ·subst e2;rw[ha] at e;exact absurd rfl e
        ·omega
      ·rw[List.getElem?_set] at h
       by_cases e:an=a
       ·subst e
        exact⟨i,by simp,by rw[zb9 hi];exact ha⟩
       ·rw[if_neg e] at h
        obtain⟨x,hx1,hx2⟩:=hP.has a h
        exact⟨x,by simp[hx1],hx2⟩
 ·obtain⟨y,d,l,at_,b9⟩:=z
  obtain⟨hM,hP⟩:=hP
  dsimp only at*
  have hx:=hM.nx
  have hat:=hP.way.inn hn
  have hway:=hP.way
  have hPl:=hP.len
  have hc40:b9.countP (fun b=>b)≤40:=by
   have:=List.countP_le_length (p:=fun b:Bool=>b) (l:=b9);rw[hP.b] at this;exact this
  have hact: ∀x,x≠w→Ins (EG g) (fun v=>mi.testBit v=true) x→ ∃e∈l,(eAt g.es e).a=x:=fun x hx ⟨a,b,⟨e,h1,h2,h3,h4⟩,h5,h6⟩=>by
   obtain⟨q,hq,rfl⟩:=List.getElem_of_mem h1
   have h0:=(hg.ok _ h1).a0
   have:=hP.act q hq hq (by rw[h3];exact hx) (by rw[h2];simpa using h5) (by rw[h4];simpa using h6)
   obtain⟨z,hz1,hz2⟩:=hP.has _ this
   exact⟨z,hz1,by rw[hz2,←h3];omega⟩
  clear hP
  have o5:=hM.o5
  cases also with
  |false=>
   simp
   refine walk_ok hg hN hmi w _ (fun v=>decide (v=n)) (bad:=fun j=>j<M.next+8) hM.o5 hM.o12 hM.o7 hM.o8 hM.o11 hM.lb ⟨by omega,by omega⟩ ⟨by omega,by omega⟩ ⟨by omega,by omega⟩ (by omega) (fun j hj hh=>by omega) (hin _ hat) (by(try simp);omega)
    (fun v hv {M1 k kp} s1 s2 hk=>is4_ok (zO s1 (by omega) hM.o6) hk) ⟨n,zgT hC hat hn,by simp⟩ fun y5 d5 l2 m hw2 hqm hl2 hn5 hf5 oa5 oo5 lb5=> ?_
   obtain rfl:m=n:=by simpa using hqm
   simp[oo5]
   refine Back.lb lb5 (fun j hj=>by omega) (fun j hj=>(hf5 j (by omega) (by omega) (by omega) (by omega)).trans (hM.sm j hj)) (hk _ ⟨hway.trans hw2,fun x hx hi=> ?_,(fun h=>by cases h),by(try simp);omega⟩)
   obtain⟨e,h1,h2⟩:=hact x hx hi
   exact⟨e,List.mem_append_left _ h1,h2⟩
  |true=>
   obtain⟨a,b,hE,hPa⟩:=hal rfl
   have haN:=hin a hPa
   simp
   refine walk_ok hg hN hmi w _ (fun v=>opnB g (2^v:Nat).testBit w) (bad:=fun j=>j<M.next+8) hM.o5 hM.o12 hM.o7 hM.o8 hM.o11 hM.lb ⟨by omega,by omega⟩ ⟨by omega,by omega⟩ ⟨by omega,by omega⟩ (by omega) (fun j hj hh=>by omega) (hin _ hat) (by omega)
    (fun v hv {M1 k kp} s1 s2 hk=>is3_ok hg (zO s1 (by omega) hM.o5) (zO s1 (by omega) hM.o8) (by omega) (by omega) (by omega) hk) ⟨a,zgT hC hat hPa,(zii hg).2 ⟨a,b,hE,by simp⟩⟩ fun y4 d4 l1 v hw1 hqv hl1 hn4 hf4 oa4 oo4 lb4=> ?_
   obtain⟨a2,b2,⟨e2,hE2,hE2f,hE2a,_⟩,hva⟩:=(zii hg).1 hqv
   have hva:v=a2:=by rw[Nat.testBit_two_pow,decide_eq_true_iff] at hva;exact hva
   subst hva
   have hM:=hM.walk (bad:=fun j=>j<M.next+8) (fun j hj=>hj) hn4 hf4 oa4 oo4 lb4
   have hat:=hw1.inn hat
   have hway:=hway.trans hw1
   have hact: ∀x,x≠w→Ins (EG g) (fun v=>mi.testBit v=true) x→ ∃e∈l++l1,(eAt g.es e).a=x:=fun x hx hi=>by
    obtain⟨e,h1,h2⟩:=hact x hx hi
    exact⟨e,by simp[h1],h2⟩
   simp
   refine walk_ok hg hN hmi w _ (fun v=>decide (v=n)) (bad:=fun j=>j<M.next+8) hM.o5 hM.o12 hM.o7 hM.o8 hM.o11 hM.lb ⟨by omega,by omega⟩ ⟨by omega,by omega⟩ ⟨by omega,by omega⟩ (by omega) (fun j hj hh=>by omega) (hin _ hat) (by(try simp);omega)
    (fun v hv {M1 k kp} s1 s2 hk=>is4_ok (zO s1 (by omega) hM.o6) hk) ⟨n,zgT hC hat hn,by simp⟩ fun y5 d5 l2 m hw2 hqm hl2 hn5 hf5 oa5 oo5 lb5=> ?_
   obtain rfl:m=n:=by simpa using hqm
   simp[oo5]
   refine Back.lb lb5 (fun j hj=>by omega) (fun j hj=>(hf5 j (by omega) (by omega) (by omega) (by omega)).trans (hM.sm j hj)) (hk _ ⟨hway.trans hw2,fun x hx hi=> ?_,fun _=> ?_,by(try simp);omega⟩)
   ·obtain⟨e,h1,h2⟩:=hact x hx hi
    exact⟨e,List.mem_append_left _ h1,h2⟩
   have hvf: ∀z,(eAt g.es z).f=(v:Int)→ ∃e2∈g.es,e2.f=(eAt g.es z).f∧e2.a=w:=fun z hz=>⟨e2,hE2,by rw[hz];exact hE2f,hE2a⟩
   rcases hw2.head with⟨rfl,hvn⟩| ⟨z,hz,hzf⟩
   ·rcases hway.head with⟨h0,_⟩| ⟨z,hz,hzf⟩
    ·exfalso
     obtain⟨x,hx,hi⟩:=hC.ne
     obtain⟨e,h1,_⟩:=hact x hx hi
     rw[h0] at h1;cases h1
    ·exact⟨z,List.mem_append_left _ hz,hvf z (by rw[hzf,hvn])⟩
   ·exact⟨z,List.mem_append_right _ hz,hvf z hzf⟩
end Go.Ideal.S
set_option maxHeartbeats 1000000
namespace Go.Ideal.S
open Go Go.Ideal Q Classical
attribute [local simp] decide_eq_true decide_eq_false zK
variable {M:VM} {k kp:DV→VM→Prop} {n0:Nat}
theorem agg_self (g:Gr): ∀x∈eGr g,zcF x=true:=by intro x hx;simp[eGr] at hx;rcases hx with rfl|rfl|rfl<;>rfl
abbrev Rall (g:Gr) (w:Int):Nat→Nat→Prop:=RF g (fun _=>true) w
theorem star_lt {g:Gr} (hg:zbt g) {N:Nat} (hN:g.st=N) {p:Nat→Bool} {w:Int} {a v:Nat} (h:Star (RF g p w) a v) (ha:a<N):v<N:=
 h.keep (P:=fun v=>v<N) (fun x y _ ⟨e,h1,h2,h3,_⟩=>by have:=(hg.ok e h1).t1;omega) ha
def zit (g:Gr) (a:Int):Prop:= ∃v,RgIn (EG g) a true (fun _=>True) v∧Star (Rall g (-1)) 0 v
end Go.Ideal.S
set_option maxHeartbeats 2000000
namespace Go.Ideal.S
open Go Go.Ideal Q Classical
attribute [local simp] decide_eq_true decide_eq_false zK
attribute [local simp] c_x f_x r_x_1 r_x_2 r_x_3 r_x_4 r_x_5 r_x_6 r_x_7 r_x_8 r_x_9 r_x_10 r_x_11 r_x_13 r_x_15
variable {M:VM} {k kp:DV→VM→Prop} {n0:Nat}
theorem RingOf.ne {g:Gr} {mi:Nat} {w:Int} {st also:Bool} {n:Nat} {l:List Int} (h:RingOf g mi w also n l) (hC:Core (EG g) w st (fun v=>mi.testBit v=true)):l≠[]:=by
 rintro rfl
 obtain⟨x,hx,hi⟩:=hC.ne
 obtain⟨e,h1,_⟩:=h.act x hx hi
 cases h1
theorem core_all {g:Gr} (hg:zbt g) {N:Nat} (hN:g.st=N) {w:Int} {T:Nat} {ww:Int} (hT: ∀v,T.testBit v=true↔Star (RF g (fun v=>(lowB N).testBit v) ww) 0 v) (hw:ww= -1∨ww=w) {st:Bool}:
 (∃Q,Core (EG g) w st Q∧ ∀u,Q u→T.testBit u=true)↔ ∃v,RgIn (EG g) w st (fun _=>True) v∧Star (Rall g ww) 0 v:=by
 have hT2: ∀v,T.testBit v=true↔Star (Rall g ww) 0 v:=fun v=>(hT v).trans ⟨fun h=>h.imp fun a b=>(RF_low hg hN ww a b).1,fun h=>h.imp fun a b=>(RF_low hg hN ww a b).2⟩
 constructor
 ·rintro⟨Q,h1,h2⟩
  obtain⟨v,hv⟩:=h1.some
  exact⟨v,⟨Q,h1,fun _ _=>trivial,hv⟩,(hT2 v).1 (h2 v hv)⟩
 ·rintro⟨v,⟨Q,h1,_,hv⟩,h2⟩
  refine⟨Q,h1,fun u hu=>(hT2 u).2 ?_⟩
  refine h1.closed (T:=fun u=>Star (Rall g ww) 0 u) (fun a x b ha ⟨e,e1,e2,e3,e4⟩ hx=>ha.tail ⟨e,e1,e2,e4,?_,rfl⟩) hv h2 hu
  rcases hw with rfl|rfl
  ·have:=(hg.ok e e1).a0;omega
  ·rw[e3];exact hx
structure RgS (B:VM) (g:Gr) (a:Int) (p:Nat) (y:VM):Prop where
 sm:SM B.next B y
 nx:B.next+9≤y.next
 o3:y.obj (B.next+1)=some (intO a)
 o45:y.obj (B.next+2)=some (.rows false 1 [[.nilS]])∧y.obj (B.next+3)=some (intO 0)
 o6:y.obj (B.next+4)=some (grO g)
 o9:y.obj (B.next+8)=some (setO p)
theorem RgS.low {B y y':VM} {g:Gr} {a:Int} {p Y:Nat} (h:RgS B g a p y) (hY:B.next+9≤Y) (hs:SM Y y y') (hn:y.next≤y'.next):RgS B g a p y':=by
 have hx:=h.nx
 exact⟨zc7 h.sm (zes hs (by omega)),by omega,zO hs (by omega) h.o3,⟨zO hs (by omega) h.o45.1,zO hs (by omega) h.o45.2⟩,zO hs (by omega) h.o6,zO hs (by omega) h.o9⟩
theorem RgS.frame {B y y':VM} {g:Gr} {a:Int} {p:Nat} (h:RgS B g a p y) (hs:SM y.next y y') (hn:y.next≤y'.next):RgS B g a p y':=h.low h.nx hs hn
theorem jRing_ok {g:Gr} (hl:g.es.length≤1000000) {a:Int} (hK:zfv g a)
 (h1: ∀l p n,Core (EG g) a true (fun v=>p.testBit v=true)→p.testBit n=true→Star (Rall g (-1)) 0 n→RingOf g p a true n l→k (.tup [ints l,I 0]) M)
 (h2: ¬zit g a→k (.tup [.nilS,I 5]) M):zA F (.fn n_x [] []) [.agg (eGr g),I a] M k kp:=by
 have hg:=hK.1
 have g1:=hg.s1;have g2:=hg.s2
 obtain⟨N,hN⟩: ∃N:Nat,g.st=N:=⟨g.st.toNat,by omega⟩
 apply zA.back
 refine .fn h_jam_Ring rfl (by simp[f_x]) ?_
 simp(disch:=((try simp only[zc,ze,zf]);omega))
 refine zA.nil [.agg (eGr g),I a] [] 1 (by simp) (fun x hx=> ?_) ?_
 ·simp at hx
  rcases hx with rfl|rfl|rfl
  ·exact .agg (b_Gr g)
  ·simp
  ·exact .lst (by simp)
 refine jknown_ok g hl a [] (by simp) ?_
 rw[decide_eq_true ⟨hK,fun x hx=>by cases hx⟩]
 have hcg: ∀x∈eGr g,zJ x=true:=by intro x hx;simp[eGr] at hx;rcases hx with rfl|rfl|rfl<;>rfl
 have hgl:(eGr g).length=3:=rfl
 have eg:([I g.st,I g.ac,.lst 3 (g.es.map zE)]:List DV)=eGr g:=rfl
 simp(disch:=((try simp only[zc,ze,zf]);omega)) [eGr]
 simp only[eg]
 refine whole_ok g hN (by omega) ?_
 simp[hcg,hgl]
 refine⟨agg_self g,?_⟩
 refine jleads_ok hg hN (lowB_lt N (by omega)) (-1) (s0:=0) (by omega) fun T hT1 hT2=> ?_
 have hin: ∀v,T.testBit v=true→v<N:=fun v hv=>star_lt hg hN ((hT2 v).1 hv) (by omega)
 simp[hcg,hgl]
 refine jrings_ok hg hN a true (N+1) T hT1 hin (by have:=cntB_le (N:=N) (p:=T.testBit);omega) fun L hL=> ?_
 cases L with
 |nil=>
  simp
  refine .go c_x_14.eq_1 ?_
  simp
  refine Back.plain (by simp) (by repeat' (first|assumption|exact zr _ _|apply zu|apply zw|apply zy| ((try simp only[zc,ze,zf]);omega))) (h2 fun hs=> ?_)
  obtain⟨Q,hQ,hQT⟩:=(core_all hg hN hT2 (.inl rfl)).2 hs
  obtain⟨x,hx,_⟩:=hL.all Q hQ hQT
  cases hx
 |cons p L=>
  obtain⟨hp1,hp2,hp3⟩:=hL.snd p (by simp)
  have hpos:(0:Int)<(((L.length:Nat):Int)+1):=by omega
  simp
  refine .go c_x_14.eq_1 ?_
  simp[hpos,eU]
  refine zA.gen (Q:=RgS M g a p) ⟨(by repeat' (first|assumption|exact zr _ _|apply zu|apply zw|apply zy| ((try simp only[zc,ze,zf]);omega))),by simp only[zc,ze];omega,by simp(disch:=((try simp only[zc,ze]);omega)),⟨by simp(disch:=((try simp only[zc,ze]);omega)),by simp(disch:=((try simp only[zc,ze]);omega))⟩,by simp(disch:=((try simp only[zc,ze]);omega)) [eGr],by simp(disch:=((try simp only[zc,ze]);omega))⟩ fun y0 hy0=> ?_
  refine all_ok p fun M2 j1 s1 s2 s3 s4=> ?_
  have hM2:=hy0.frame s1 (by omega)
  have hn0:=hy0.nx
  simp
  refine all_rg p hp1 (Y:=j1) (p:=32) (Nat.le_refl _) s3 s4 rfl rfl rfl (fun i y=>RgS M g a p y∧ ∀v,v<i→p.testBit v=false) (fun y=>SM M.next M y∧M.next+4≤y.next∧ ∃l n,RingOf g p a true n l∧p.testBit n=true∧y.obj (M.next+2)=some (.rows false 1 [[ints l]])∧y.obj (M.next+3)=some (intO 0))
   ⟨hM2,fun v hv=>by omega⟩ (fun i y y' ⟨q1,q2⟩ s hn=>⟨q1.low (by omega) s hn,q2⟩) (fun y y' ⟨q1,q2,l,n,q3,q4,q5,q6⟩ s hn=>⟨zc7 q1 (zes s (by omega)),by omega,l,n,q3,q4,zO s (by omega) q5,zO s (by omega) q6⟩)
   (fun i y hi ⟨q1,q2⟩ hb=>⟨q1,fun v hv=> ?_⟩) (fun i y hi ⟨q1,q2⟩ hb ly oj o1 o2 Ka Kb ol hA fin ret=> ?_) (fun y ⟨q1,q2⟩ ly=> ?_) (fun y ⟨q1,q2,l,n,q3,q4,q5,q6⟩ ly=> ?_)
  ·by_cases e:v=i
   ·rw[e];exact hb
   ·exact q2 v (by omega)
  ·simp[c_x_12]
   refine hA _ _ ol ?_
   have r1:=q1.low (Y:=j1) (by omega) (y':=y.put M2.next o2) (zu (zr _ _) (by omega)) (by simp)
   have r2:(y.put M2.next o2).obj M2.next=some o2:=by simp
   have r5:M2.next<(y.put M2.next o2).next:=by simp;omega
   generalize y.put M2.next o2=y1 at*
   obtain⟨t1,t2,t3,⟨t4,t7⟩,t5,t6⟩:=r1
   simp[zgZ,t5,t6,t3]
   simp only[eg]
   refine jring_ok hg hN hp1 a true true hp2 hb (fun v hv=>hin v (hp3 v hv)) (fun _=> ?_) fun l hR=> ?_
   ·rcases hp2.op with⟨_,h⟩| ⟨h,_⟩
    ·exact h
    ·cases h
   simp[t4,t7]
   refine ret _ _ (by simp(disch:=((try simp only[zc,ze]);omega)) [r2]) ⟨by simp;omega,zu (zu t1 (by omega)) (by omega),by simp;omega,l,i,hR,hb,by simp(disch:=omega),by simp⟩
  ·exfalso
   obtain⟨v,hv⟩:=hp2.some
   have hv2:=hin v (hp3 v hv)
   have hv:p.testBit v=true:=hv
   rw[q2 v (by omega)] at hv;cases hv
  ·simp[q5,q6]
   have hT:=(hT2 n).1 (hp3 n q4)
   refine Back.plain ?_ q1 (h1 l p n hp2 q4 (hT.imp fun a b=>(RF_low hg hN _ a b).1) q3)
   refine .tup fun x hx=> ?_
   simp only[List.mem_cons,List.not_mem_nil,or_false] at hx
   rcases hx with rfl|rfl
   ·exact b_lst b_Int l
   ·simp
end Go.Ideal.S
namespace Go.Ideal.S
open Go Go.Ideal Q Classical
attribute [local simp] decide_eq_true decide_eq_false zK
variable {M:VM} {k kp:DV→VM→Prop} {n0:Nat}
end Go.Ideal.S
set_option maxHeartbeats 4000000
namespace Go.Ideal.S
open Go Go.Ideal Q Classical
attribute [local simp] decide_eq_true decide_eq_false zK
variable {M:VM} {k kp:DV→VM→Prop} {n0:Nat}
theorem b_tup3 {n:Nat} {a b c:DV} (h1:zM n a) (h2:zM n b) (h3:zM n c):zM n (.tup [a,b,c]):=.tup fun x hx=>by
 simp only[List.mem_cons,List.not_mem_nil,or_false] at hx
 rcases hx with rfl|rfl|rfl<;>assumption
end Go.Ideal.S
set_option maxHeartbeats 2000000
namespace Go.Ideal.S
open Go Go.Ideal Q Classical
attribute [local simp] decide_eq_true decide_eq_false zK
attribute [local simp] c_u f_u r_u_1 r_u_2 r_u_3 r_u_4 r_u_5 r_u_6 r_u_7 r_u_8
def LT (bad:Nat→Prop) (y:VM) (d:DV) (l:List Int):Prop:=(l=[]∧d=.nilS)∨ ∃j,¬bad j∧j<y.next∧d=.ms j 0 l.length zp∧y.obj j=some (.rows true 1 (l.map eInt))
section
variable {bad bad':Nat→Prop} {y y':VM} {d:DV} {l:List Int} {x:Int}
theorem LT.keep (h:LT bad y d l) (hn:y.next≤y'.next) (ho: ∀j,j<y.next→ ¬bad j→y'.get j=y.get j) (hb: ∀j,j<y.next→bad' j→bad j):LT bad' y' d l:=by
 rcases h with h| ⟨j,h1,h2,h3,h4⟩
 ·exact .inl h
 ·refine .inr ⟨j,fun hh=>h1 (hb j h2 hh),by omega,h3,?_⟩
  rw[←h4];show(y'.get j).map _=(y.get j).map _;rw[ho j h2 h1]
theorem Rs_lt {X:RnD} {fr:FrC} {jb:Nat} {dst:Option (List Bool)} {r:List CI} {sl:DS} (h:LT bad y d l) (hl:l.length≤1000000) (hY: ¬bad y.next) (hb:y.obj jb=some (.rows false 1 [[I x]]))
 (k: ∀d' y',LT bad y' d' (l++[x])→y.next≤y'.next→(∀j,j<y.next→bad j→y'.get j=y.get j)→ @Op X fr r (zbm dst d' sl) y'): @Rs X fr (bltD y (.append 1 8) [d,.ms jb 0 1 1]) dst r sl:=by
 rw[zb2,if_pos ⟨by decide,by decide⟩,zco,hb]
 rw[show elO 1 0 1 (some (MO.rows false 1 [[I x]]))=some [[I x]] from by simp,zc5,if_pos (by simp)]
 have hlen:(l.map eInt++[[I x]]).length=(l++[x]).length:=by simp
 have hnew: ∀(y2:VM) (nx:y2.next=y.next),LT bad (y2.new (.rows true 1 (l.map eInt++[[I x]]))) (.ms y.next 0 (l.map eInt++[[I x]]).length zp) (l++[x]):=fun y2 nx=>
  .inr ⟨y.next,hY,by simp[nx],by rw[hlen],by rw[←nx,List.map_append];simp;rfl⟩
 rcases h with⟨rfl,rfl⟩| ⟨j,h1,h2,rfl,h4⟩
 ·have e:zbd 1 8 y [[I x]] .nilS=some (.ms y.next 0 1 zp,y.new (.rows true 1 [[I x]])):=by simp
  rw[e]
  exact k _ _ (hnew y rfl) (by simp) fun i hi _=>by rw[get_new,if_neg (by omega)]
 ·have ht:((l.map eInt).drop 0).take l.length=l.map eInt:=by rw[List.drop_zero,List.take_of_length_le (by simp)]
  have e:zbd 1 8 y [[I x]] (.ms j 0 l.length zp)=some (.ms y.next 0 (l.map eInt++[[I x]]).length zp,(y.del j).new (.rows true 1 (l.map eInt++[[I x]]))):=by
   rw[zbI,if_neg (by simp),if_pos (by simp;omega),h4,zcN,zbN,if_pos ⟨rfl,by simp⟩,if_neg (by simp),ht]
  rw[e]
  exact k _ _ (hnew _ rfl) (by simp) fun i hi hbi=>by rw[get_new,if_neg (by simp;omega),zf8,if_neg (by rintro rfl;exact h1 hbi)]
end
variable {M:VM} {k kp:DV→VM→Prop} {n0:Nat}
theorem slice3_ms {M:VM} {j n lo hi mx:Nat} {rs:List (List DV)} (ho:M.obj j=some (.rows true 1 rs)) (h1:lo≤hi) (h2:hi≤mx) (h3:mx≤rs.length) (h4:0<mx) (h5:mx<zp):ze3 1 M (some (I lo)) (I hi) (I mx) (.ms j 0 n zp)=some (.ms j (if mx=lo then 0 else 0+lo) (hi - lo) (mx - lo)):=by
 unfold ze3
 dsimp only
 rw[ho]
 simp only[Option.bind_some]
 rw[if_pos ⟨trivial,trivial,Nat.zero_le _⟩,zdr,if_pos ⟨by omega,by omega⟩,Option.bind_some,Int.toNat_natCast,if_pos ⟨h4,h5⟩,zdr,if_pos ⟨by omega,by omega⟩,Option.bind_some,Int.toNat_natCast,zdr,if_pos ⟨by omega,by omega⟩,Int.toNat_natCast]
 rfl
theorem cut_app {M:VM} {l:List Int} {j i:Nat} (ho:M.obj j=some (.rows true 1 (l.map eInt))) (hi:i<l.length) (hl:l.length≤100000) (hj:j<M.next):
 ∃M' x,bltD M (.append 1 8) [.ms j 0 i zp,.ms j (i+1) (l.length - (i+1)) zp]=some (.ms j 0 (l.length - 1) zp,M')∧M.next≤M'.next∧(∀q,q≠j→q<M.next→M'.get q=M.get q)∧M'.obj j=some (.rows true 1 ((l.eraseIdx i).map eInt++[eInt x])):=by
 rw[zb2,if_pos ⟨by decide,by decide⟩,zco,ho,elO_some,if_pos ⟨rfl,by simp;omega⟩,zc5]
 have hnew:((l.map eInt).drop (i+1)).take (l.length - (i+1))=(l.drop (i+1)).map eInt:=by
  rw[←List.map_drop,List.take_of_length_le (by simp)]
 rw[hnew,if_pos (by rw[List.all_eq_true];intro r hr;rw[List.all_eq_true];exact c_map c_Int _ r hr)]
 have her:l.eraseIdx i=l.take i++l.drop (i+1):=List.eraseIdx_eq_take_drop_succ ..
 rcases Nat.lt_or_ge (i+1) l.length with h|h
 ·have hne: ¬(l.drop (i+1)).map eInt=[]:=by
   intro e
   have:=congrArg List.length e
   simp at this;omega
  refine⟨M.put j (.rows true 1 (zP (l.map eInt) ((l.drop (i+1)).map eInt) (0+i))),l[l.length - 1],?_,by simp,fun q hq _=>by rw[get_put,if_neg hq],?_⟩
  ·rw[zbI,if_neg hne,if_pos (by simp;omega),ho,zcN,zbN,if_pos ⟨rfl,by simp;omega⟩,if_pos (by simp;omega)]
   congr 3
   simp;omega
  ·rw[zbh,if_pos rfl,her]
   congr 2
   unfold zP
   rw[Nat.zero_add,List.map_append,List.map_take]
   congr 1
   rw[List.length_map,List.length_drop,show i+(l.length - (i+1))=l.length - 1 by omega,←List.map_drop,List.drop_eq_getElem_cons (by omega),show l.length - 1+1=l.length by omega,List.drop_length]
   rfl
 ·have hil:i=l.length - 1:=by omega
  have hnil:(l.drop (i+1)).map eInt=[]:=by rw[List.drop_of_length_le (by omega)];rfl
  rw[hnil]
  refine⟨M,l[i],by rw[zbI,if_pos rfl,hil],Nat.le_refl _,fun _ _ _=>rfl,?_⟩
  rw[ho,her,List.drop_of_length_le (by omega),List.append_nil]
  congr 2
  have:l=l.take i++[l[i]]:=by
   conv=>lhs;rw[←List.take_append_drop i l,List.drop_eq_getElem_cons hi,List.drop_of_length_le (by omega)]
  conv=>lhs;rw[this]
  rw[List.map_append];rfl
theorem delete_ok {l:List Int} {j i:Nat} (ho:M.obj j=some (.rows true 1 (l.map eInt))) (hi:i<l.length) (hl:l.length≤100000) (hj:j<M.next)
 (hk: ∀M',M.next≤M'.next→(∀q,q≠j→q<M.next→M'.get q=M.get q)→M'.obj j=some (.rows true 1 ((l.eraseIdx i).map eInt++[[I 0]]))→k (.ms j 0 (l.length - 1) zp) M'):
 zA F (.fn n_u [] []) [.ms j 0 l.length zp,I i,I ((i:Int)+1)] M k kp:=by
 have hoc:l.length<zp:=by unfold zp;omega
 have s3:=slice3_ms (n:=l.length) (lo:=i) (hi:=i+1) (mx:=l.length) ho (by omega) (by omega) (by simp) (by omega) hoc
 have e1:((i+1:Nat):Int)=(i:Int)+1:=by omega
 rw[e1] at s3
 have ne: ¬(i:Int)=(i:Int)+1:=by omega
 refine .fn zed rfl (by simp[f_u]) ?_
 have f1:(i:Int)≤l.length:=by omega
 have f2:(0:Int)≤(i:Int)+1:=by omega
 have f3:(i:Int)+1≤l.length:=by omega
 repeat' (first| (simp(disch:=((try simp only[zc,ze,zf]);omega)) [s3,ne,ho,f1,f2,f3];first|done| ((first|simp only[zo,zm,zn,zk,zl,zh]|simp only[zj,zi]|rw[zg]);split)|skip)| ((first|simp only[zo,zm,zn,zk,zl,zh]|simp only[zj,zi]|rw[zg]);split))
 obtain⟨M',x,hap,hn,hf,ho2⟩:=cut_app ho hi hl hj
 have hlen:(l.eraseIdx i).length=l.length - 1:=by rw[List.length_eraseIdx,if_pos hi]
 have g1:((l.length - 1:Nat):Int)≤l.length:=by omega
 have g2:l.length - (l.length - 1)=1:=by omega
 have g3:l.length≤(l.eraseIdx i).length+1:=by omega
 have g4:(l.length:Int)≤((l.eraseIdx i).length:Nat)+1:=by omega
 repeat' (first| (simp(disch:=((try simp only[zc,ze,zf]);omega)) [hap,ho2,g1,g2,hlen];first|done| ((first|simp only[zo,zm,zn,zk,zl,zh]|simp only[zj,zi]|rw[zg]);split)|skip)| ((first|simp only[zo,zm,zn,zk,zl,zh]|simp only[zj,zi]|rw[zg]);split))
 have hA:((l.eraseIdx i).map eInt).length=l.length - 1:=by rw[List.length_map,hlen]
 refine hk _ (by simp;omega) (fun q h1 h2=>by rw[get_put,if_neg h1];exact hf q h1 h2) ?_
 rw[zbh,if_pos rfl]
 congr 2
 unfold zP
 rw[List.take_append_of_le_length (by omega),List.take_of_length_le (by omega),List.drop_of_length_le (by simp;omega),List.append_nil]
end Go.Ideal.S
namespace Go.Ideal.S
def zL (b:Int):List Int→Nat
 | []=>0
 |x::r=>if x=b then 0 else zL b r+1
theorem posOf_le (b:Int): ∀l:List Int,zL b l≤l.length
 | []=>Nat.le_refl _
 |x::r=>by
  unfold zL
  split
  ·omega
  ·have:=posOf_le b r;simp;omega
theorem zgt {b:Int}: ∀{l:List Int},b∈l→zL b l<l.length
 | [],h=>by cases h
 |x::r,h=>by
  unfold zL
  split
  ·simp
  ·rename_i hne
   rcases List.mem_cons.1 h with rfl|h
   ·exact absurd rfl hne
   ·have:=zgt h;simp;omega
theorem zeE {b:Int}: ∀{l:List Int} (h:zL b l<l.length),l[zL b l]=b
 | [],h=>by simp[zL] at h
 |x::r,h=>by
  by_cases e:x=b
  ·simp[zL,e]
  ·have h2:zL b r<r.length:=by simp[zL,e] at h;exact h
   have:=zeE h2
   simp[zL,e,this]
def zd7 (l:List Int) (i:Nat) (x:Int):List Int:=l.eraseIdx i++[x]
theorem zlF {b x:Int}: ∀{l:List Int} {i:Nat} (hi:i<l.length),l[i]≠b→b∈l→zL b (zd7 l i x)=if i<zL b l then zL b l - 1 else zL b l
 | [],i,hi,_,_=>by simp at hi
 |y::r,0,hi,hne,hb=>by
  have hyb:y≠b:=hne
  have hr:b∈r:=by
   rcases List.mem_cons.1 hb with rfl|h
   ·exact absurd rfl hyb
   ·exact h
  have h1:=zgt hr
  have:zL b (r++[x])=zL b r:=by
   clear hne hb hyb hi
   induction r with
   |nil=>cases hr
   |cons z r ih=>
    by_cases e:z=b
    ·simp[zL,e]
    ·have hr2:b∈r:=by
      rcases List.mem_cons.1 hr with h|h
      ·exact absurd h.symm e
      ·exact h
     simp[zL,e,ih hr2 (zgt hr2)]
  show zL b (r++[x])=_
  rw[this]
  simp[zL,hyb]
 |y::r,i+1,hi,hne,hb=>by
  have hi':i<r.length:=by simpa using hi
  by_cases e:y=b
  ·simp[zd7,zL,e]
  ·have hr:b∈r:=by
    rcases List.mem_cons.1 hb with h|h
    ·exact absurd h.symm e
    ·exact h
   have ih:=zlF (x:=x) hi' (by simpa using hne) hr
   show zL b (y::(r.eraseIdx i++[x]))=_
   simp only[zL,if_neg e]
   rw[show zL b (r.eraseIdx i++[x])=_ from ih]
   by_cases c:i<zL b r
   ·rw[if_pos c,if_pos (by omega)];omega
   ·rw[if_neg c,if_neg (by omega)]
theorem mem_move {b:Int} {l:List Int} {i:Nat} (hi:i<l.length):b∈zd7 l i l[i]↔b∈l:=by
 unfold zd7
 constructor
 ·intro h
  rcases List.mem_append.1 h with h|h
  ·exact List.mem_of_mem_eraseIdx h
  ·obtain rfl:=List.mem_singleton.1 h;exact List.getElem_mem hi
 ·intro h
  obtain⟨j,hj,rfl⟩:=List.getElem_of_mem h
  by_cases e:j=i
  ·subst e;exact List.mem_append_right _ (by simp)
  ·exact List.mem_append_left _ (List.mem_eraseIdx_iff_getElem.2 ⟨j,hj,e,rfl⟩)
structure Lru (E:Nat→Int→Nat→Prop) (n:Nat) (s:Nat→Nat) (r:Nat→List Int) (x:Nat→Int):Prop where
 edge: ∀t,t<n→E (s t) (x t) (s (t+1))
 best: ∀t,t<n→ ∀b c,E (s t) b c→zL (x t) (r t)≤zL b (r t)
 next: ∀t,t<n→r (t+1)=if h:zL (x t) (r t)<(r t).length then zd7 (r t) (zL (x t) (r t)) (x t) else r t
theorem Lru.mem {E:Nat→Int→Nat→Prop} {n:Nat} {s:Nat→Nat} {r:Nat→List Int} {x:Nat→Int} (h:Lru E n s r x) (b:Int): ∀t,t≤n→(b∈r t↔b∈r 0):=by
 intro t
 induction t with
 |zero=>intro _;exact Iff.rfl
 |succ t ih=>
  intro ht
  rw[h.next t (by omega)]
  split
  ·rename_i hp
   have:=mem_move (b:=b) hp
   rw[zeE hp] at this
   rw[this];exact ih (by omega)
  ·exact ih (by omega)
theorem Lru.fair {E:Nat→Int→Nat→Prop} {n:Nat} {s:Nat→Nat} {r:Nat→List Int} {x:Nat→Int} (h:Lru E n s r x) {k:Nat} (hr:r n=r k) {t:Nat} (ht:k≤t) (htn:t<n) {b:Int} {c:Nat} (hb:b∈r 0) (hE:E (s t) b c): ∃u,k≤u∧u<n∧x u=b:=by
 refine Classical.byContradiction fun hc=> ?_
 have hne: ∀u,k≤u→u<n→x u≠b:=fun u h1 h2 e=>hc ⟨u,h1,h2,e⟩
 have step: ∀u,k≤u→u<n→zL b (r (u+1))=if zL (x u) (r u)<zL b (r u) then zL b (r u) - 1 else zL b (r u):=by
  intro u h1 h2
  have hbu:b∈r u:=(h.mem b u (by omega)).2 hb
  rw[h.next u h2]
  split
  ·rename_i hp
   rw[zlF hp (by rw[zeE hp];exact hne u h1 h2) hbu]
  ·rename_i hp
   have:=zgt hbu
   rw[if_neg (by omega)]
 have mono: ∀d u,k≤u→u+d≤n→zL b (r (u+d))≤zL b (r u):=by
  intro d
  induction d with
  |zero=>intro u _ _;exact Nat.le_refl _
  |succ d ih=>
   intro u h1 h2
   have h3:=ih u h1 (by omega)
   have h4:=step (u+d) (by omega) (by omega)
   have:zL b (r (u+(d+1)))≤zL b (r (u+d)):=by
    show zL b (r (u+d+1))≤_
    rw[h4];split<;>omega
   omega
 have hlt:zL (x t) (r t)<zL b (r t):=by
  have h1:=h.best t htn b c hE
  rcases Nat.lt_or_ge (zL (x t) (r t)) (zL b (r t)) with h2|h2
  ·exact h2
  ·exfalso
   have he:zL (x t) (r t)=zL b (r t):=by omega
   have hbt:b∈r t:=(h.mem b t (by omega)).2 hb
   have hp:=zgt hbt
   have e1:=zeE hp
   have e2:=zeE (b:=x t) (l:=r t) (by omega)
   refine hne t ht htn ?_
   rw[←e2]
   have e3:(r t)[zL (x t) (r t)]? =(r t)[zL b (r t)]?:=by rw[he]
   rw[List.getElem?_eq_getElem (by omega),List.getElem?_eq_getElem hp,e1] at e3
   exact Option.some.inj e3
 have h1:=mono (t - k) k (Nat.le_refl _) (by omega)
 rw[show k+(t - k)=t by omega] at h1
 have h2:=step t ht htn
 rw[if_pos hlt] at h2
 have h3:=mono (n - (t+1)) (t+1) (by omega) (by omega)
 rw[show t+1+(n - (t+1))=n by omega,hr] at h3
 omega
end Go.Ideal.S
namespace Go.Ideal.S
open Go Go.Ideal Q Classical
attribute [local simp] decide_eq_true decide_eq_false zK
attribute [local simp] c_g f_g r_g_1 r_g_2 r_g_3 r_g_4 r_g_5 r_g_6 r_g_7 r_g_9
variable {M:VM} {k kp:DV→VM→Prop} {n0:Nat}
def posI (x:Int) (l:List Int):Int:=if zL x l<l.length then zL x l else -1
theorem idx_pos (x:Int): ∀(l:List Int) (i:Nat),idxI x l i=if zL x l<l.length then((i+zL x l:Nat):Int) else -1
 | [],i=>by simp[idxI,zL]
 |y::l,i=>by
  unfold idxI zL
  by_cases e:x=y
  ·rw[if_pos e,if_pos (e.symm:y=x)];simp
  ·rw[if_neg e,if_neg (fun h:y=x=>e h.symm),idx_pos x l (i+1)]
   simp only[List.length_cons,Nat.add_lt_add_iff_right]
   by_cases c:zL x l<l.length
   ·rw[if_pos c,if_pos c];congr 1;omega
   ·rw[if_neg c,if_neg c]
theorem idx_posI (x:Int) (l:List Int):idxI x l 0=posI x l:=by rw[idx_pos];unfold posI;simp
theorem indexLt_ok {bad:Nat→Prop} {d:DV} {l:List Int} (h:LT bad M d l) (x:Int) (hl:l.length≤1000000) (hk:k (I (posI x l)) M):zA F (.fn n_g [] []) [d,I x] M k kp:=by
 rw[←idx_posI] at hk
 rcases h with⟨rfl,rfl⟩| ⟨j,h1,h2,rfl,ho⟩
 ·exact zA.nil [] [I x] 1 (by simp) (by simp) (indexIv_ok [] x (by simp) hk)
 ·apply zA.back
  refine .fn zbL rfl (by simp[f_g]) ?_
  repeat' (first| (simp(disch:=((try simp only[zc,ze,zf]);omega));first|done| ((first|simp only[zo,zm,zn,zk,zl,zh]|simp only[zj,zi]|rw[zg]);split)|skip)| ((first|simp only[zo,zm,zn,zk,zl,zh]|simp only[zj,zi]|rw[zg]);split))
  refine .for (σ:=Unit) c_g_8.eq_1 (fun i _=>[(8,I i)]) (fun _=>M) (fun i _=>idxI x l 0=idxI x (l.drop i) i) l.length () (by simp) rfl (by simp) (fun i y hi hP again=> ?_) (fun y hP=> ?_)
  ·rw[List.drop_eq_getElem_cons hi,idxI] at hP
   by_cases hq:x=l[i]
   ·rw[if_pos hq] at hP
    rw[hP] at hk
    clear again
    repeat' (first| (simp(disch:=((try simp only[zc,ze,zf]);omega)) [hi,ho,eInt,hq];first|done| ((first|simp only[zo,zm,zn,zk,zl,zh]|simp only[zj,zi]|rw[zg]);split)|skip)| ((first|simp only[zo,zm,zn,zk,zl,zh]|simp only[zj,zi]|rw[zg]);split))
    exact Back.plain (by simp) (by repeat' (first|assumption|exact zr _ _|apply zu|apply zw|apply zy| ((try simp only[zc,ze,zf]);omega))) hk
   ·rw[if_neg hq] at hP
    have again:=again () hP
    simp at again
    repeat' (first| (simp(disch:=((try simp only[zc,ze,zf]);omega)) [hi,ho,eInt,hq];first|done| ((first|simp only[zo,zm,zn,zk,zl,zh]|simp only[zj,zi]|rw[zg]);split)|skip)| ((first|simp only[zo,zm,zn,zk,zl,zh]|simp only[zj,zi]|rw[zg]);split))
    exact again
  ·rw[List.drop_of_length_le (Nat.le_refl _),idxI] at hP
   rw[hP] at hk
   repeat' (first| (simp(disch:=((try simp only[zc,ze,zf]);omega));first|done| ((first|simp only[zo,zm,zn,zk,zl,zh]|simp only[zj,zi]|rw[zg]);split)|skip)| ((first|simp only[zo,zm,zn,zk,zl,zh]|simp only[zj,zi]|rw[zg]);split))
   exact Back.plain (by simp) (by repeat' (first|assumption|exact zr _ _|apply zu|apply zw|apply zy| ((try simp only[zc,ze,zf]);omega))) hk
def eU8 (a:Int):List DV:=[.int .u8 a]
def kyB (s:Int) (r:List Int):ByteArray:=⟨⟨(s::r).map fun a=>UInt8.ofNat a.toNat⟩⟩
theorem u8_inj {a b:Int} (h0:0≤a) (h1:a<256) (h2:0≤b) (h3:b<256) (h:UInt8.ofNat a.toNat=UInt8.ofNat b.toNat):a=b:=by
 have:=congrArg UInt8.toNat h
 simp at this;omega
theorem ky_inj {s s':Int} {r r':List Int} (h1: ∀a∈s::r,0≤a∧a<256) (h2: ∀a∈s'::r',0≤a∧a<256) (h:kyB s r=kyB s' r'):s=s'∧r=r':=by
 have h:(s::r).map (fun a=>UInt8.ofNat a.toNat)=(s'::r').map (fun a=>UInt8.ofNat a.toNat):=by
  have:=congrArg (fun b:ByteArray=>b.data.toList) h
  exact this
 have main: ∀(l m:List Int),(∀a∈l,0≤a∧a<256)→(∀a∈m,0≤a∧a<256)→l.map (fun a=>UInt8.ofNat a.toNat)=m.map (fun a=>UInt8.ofNat a.toNat)→l=m:=by
  intro l
  induction l with
  |nil=>intro m _ _ e;cases m with|nil=>rfl|cons=>simp at e
  |cons a l ih=>
   intro m g1 g2 e
   cases m with
   |nil=>simp at e
   |cons b m=>
    simp only[List.map_cons,List.cons.injEq] at e
    obtain⟨x1,x2⟩:=g1 a (by simp)
    obtain⟨x3,x4⟩:=g2 b (by simp)
    rw[u8_inj x1 x2 x3 x4 e.1,ih m (fun a ha=>g1 a (by simp[ha])) (fun a ha=>g2 a (by simp[ha])) e.2]
 have:=main _ _ h1 h2 h
 exact⟨(List.cons.inj this).1,(List.cons.inj this).2⟩
theorem conv_u8 {a:Int} (h0:0≤a) (h1:a<256):convD .u8 (I a)=some (.int .u8 a):=by
 have hw:IntKind.u8.wrap a=a:=by
  show(if(false&&decide (a%(2^8:Int)≥(2^7:Int)))=true then a%(2^8:Int) - (2^8:Int) else a%(2^8:Int))=a
  simp only[Bool.false_and,Bool.false_eq_true,if_false]
  exact Int.emod_eq_of_lt h0 (by omega)
 show some (DV.int .u8 (IntKind.u8.wrap a))=_
 rw[hw]
theorem bytes_all: ∀(l:List Int),(∀a∈l,0≤a)→allO zjV (l.map eU8)=some (l.map fun a=>UInt8.ofNat a.toNat)
 | [],_=>rfl
 |a::l,h=>by
  obtain⟨n,rfl⟩:=Int.eq_ofNat_of_zero_le (h a (by simp))
  show(zjV (eU8 (n:Int))).bind _=_
  show(some (UInt8.ofNat n)).bind _=_
  rw[Option.bind_some,bytes_all l fun a ha=>h a (by simp[ha])];rfl
theorem b2s_ky {B y:VM} {d:DV} {s:Int} {r:List Int} (h:Acc B y d 1 ((s::r).map eU8)) (h0: ∀a∈s::r,0≤a):b2sD y d=some (.str (kyB s r)):=by
 unfold b2sD
 rw[h.elems (by decide),Option.bind_some,bytes_all _ h0];rfl
theorem zig (a b:ByteArray):zbJ .str (.str a) (.str b)=some (decide (a=b)):=by
 show some (zbx a.data.toList b.data.toList)=_
 congr 1
 by_cases h:a=b
 ·subst h;rw[zcT];simp
 ·cases e:zbx a.data.toList b.data.toList with
  |false=>simp[h]
  |true=>
   have:=zdb e
   exact absurd (by cases a;cases b;rename_i x y;cases x;cases y;simp at this;rw[this]) h
abbrev sE (f:Nat→ByteArray) (n:Nat):List (DV×DV):=(List.range n).map fun t=>(DV.str (f t),I (t:Nat))
theorem sfind {f:Nat→ByteArray} {x:ByteArray}: ∀(L:List Nat),(zgN .str (.str x) (L.map fun t=>(DV.str (f t),I (t:Nat)))=some none∧ ∀t∈L,f t≠x)∨ ∃t∈L,f t=x∧zgN .str (.str x) (L.map fun t=>(DV.str (f t),I (t:Nat)))=some (some (I (t:Nat)))
 | []=>.inl ⟨rfl,by simp⟩
 |t::L=>by
  have e:zgN .str (.str x) ((t::L).map fun t=>(DV.str (f t),I (t:Nat)))=(zbJ .str (.str x) (.str (f t))).bind fun b=>match b with|true=>some (some (I (t:Nat)))|false=>zgN .str (.str x) (L.map fun t=>(DV.str (f t),I (t:Nat))):=rfl
  rw[e,zig]
  by_cases h:f t=x
  ·exact .inr ⟨t,by simp,h,by rw[decide_eq_true h.symm];rfl⟩
  ·rw[decide_eq_false (fun q=>h q.symm)]
   rcases sfind L with⟨h1,h2⟩| ⟨u,h1,h2,h3⟩
   ·exact .inl ⟨h1,fun v hv=>by
     rcases List.mem_cons.1 hv with rfl|hv
     ·exact h
     ·exact h2 v hv⟩
   ·exact .inr ⟨u,by simp[h1],h2,h3⟩
theorem sset {f:Nat→ByteArray} {x:ByteArray} {d:DV}: ∀(L:List Nat),(∀t∈L,f t≠x)→Go.Ideal.setD .str (.str x) d (L.map fun t=>(DV.str (f t),I (t:Nat)))=some ((L.map fun t=>(DV.str (f t),I (t:Nat)))++[(.str x,d)])
 | [],_=>rfl
 |t::L,h=>by
  show(zbJ .str (.str x) (.str (f t))).bind _=_
  rw[zig,decide_eq_false (fun q=>h t (by simp) q.symm)]
  show(Go.Ideal.setD .str (.str x) d (L.map fun t=>(DV.str (f t),I (t:Nat)))).map _=_
  rw[sset L fun u hu=>h u (by simp[hu])];rfl
theorem lkE_str (z:DV) (ok:Bool) (x:ByteArray) (es:List (DV×DV)):lkE .str z ok (.str x) (some es)=(zgN .str (.str x) es).map (zf5 z ok):=by
 unfold lkE;rw[zig]
theorem upd_str {M:VM} {x:ByteArray} {d:DV} {j:Nat} {es es':List (DV×DV)} (h:M.obj j=some (.map es)) (h2:Go.Ideal.setD .str (.str x) d es=some es'):updD .str M (.str x) d (.map j)=some (M.put j (.map es')):=by
 simp only[updD,h,Option.bind_some,zig,h2,Option.map_some]
structure LgM (B y:VM) (g:Gr) (jm:Nat) (es:List (DV×DV)) (dl dr:DV) (l r:List Int):Prop where
 sm:SM B.next B y
 nx:B.next<jm∧jm<y.next
 o3:y.obj B.next=some (grO g)
 om:y.obj jm=some (.map es)
 hl:LT (fun j=>j≤B.next∨j=jm∨ ¬zcB dr j) y dl l
 hr:LT (fun j=>j≤B.next∨j=jm∨ ¬zcB dl j) y dr r
section
variable {B y y':VM} {g:Gr} {jm:Nat} {es:List (DV×DV)} {dl dr:DV} {l r:List Int}
theorem LgM.frame (h:LgM B y g jm es dl dr l r) (s:SM y.next y y') (hn:y.next≤y'.next):LgM B y' g jm es dl dr l r:=by
 have hx:=h.nx
 exact⟨zc7 h.sm (zes s (by omega)),by omega,zO s (by omega) h.o3,zO s (by omega) h.om,h.hl.keep hn (fun j hj _=>s j hj) fun _ _ h=>h,h.hr.keep hn (fun j hj _=>s j hj) fun _ _ h=>h⟩
theorem LgM.setM (h:LgM B y g jm es dl dr l r) (es':List (DV×DV)):LgM B (y.put jm (.map es')) g jm es' dl dr l r:=by
 have hx:=h.nx
 exact⟨zu h.sm (by omega),by simp;omega,by simp(disch:=omega) [h.o3],by simp,h.hl.keep (by simp) (fun j hj hb=>by rw[get_put,if_neg (by rintro rfl;exact hb (.inr (.inl rfl)))]) fun _ _ h=>h,h.hr.keep (by simp) (fun j hj hb=>by rw[get_put,if_neg (by rintro rfl;exact hb (.inr (.inl rfl)))]) fun _ _ h=>h⟩
end
theorem notMs_eq {d:DV} {j:Nat} (h: ¬zcB d j): ∃a b c,d=.ms j a b c:=by
 unfold zcB at h
 simp only[Classical.not_forall,ne_eq,Classical.not_not] at h
 exact h
end Go.Ideal.S
set_option maxHeartbeats 4000000
namespace Go.Ideal.S
open Go Go.Ideal Q Classical
attribute [local simp] decide_eq_true decide_eq_false zK
attribute [local simp] c_b f_b r_b_1 r_b_2 r_b_3 r_b_4 r_b_5 r_b_6 r_b_7 r_b_8 r_b_10 r_b_11 r_b_12 r_b_13 r_b_14 r_b_15 r_b_16 r_b_17 r_b_18 r_b_20 r_b_21 r_b_22 r_b_23 r_b_24 r_b_25 r_b_26 r_b_27 r_b_28 r_b_29 r_b_30 r_b_31 r_b_32 r_b_33 r_b_34 r_b_36 r_b_37 r_b_38 r_b_39 r_b_40 r_b_41 r_b_42 r_b_43 r_b_45
section
variable {B y y':VM} {g:Gr} {jm:Nat} {es:List (DV×DV)} {dl dr dl':DV} {l r l' r':List Int}
theorem LgM.setL (h:LgM B y g jm es dl dr l r) (hn:y.next≤y'.next) (hf: ∀j,j<y.next→(j≤B.next∨j=jm∨ ¬zcB dr j)→y'.get j=y.get j) (hl:LT (fun j=>j≤B.next∨j=jm∨ ¬zcB dr j) y' dl' l'):LgM B y' g jm es dl' dr l' r:=by
 have hx:=h.nx
 have ob: ∀j o,j<y.next→(j≤B.next∨j=jm∨ ¬zcB dr j)→y.obj j=some o→y'.obj j=some o:=fun j o a b c=>by
  rw[←c];show(y'.get j).map _=(y.get j).map _;rw[hf j a b]
 refine⟨fun j hj=>(hf j (by omega) (.inl (by omega))).trans (h.sm j hj),by omega,ob _ _ (by omega) (.inl (Nat.le_refl _)) h.o3,ob _ _ (by omega) (.inr (.inl rfl)) h.om,hl,?_⟩
 rcases h.hr with h0| ⟨j,hb,hj,rfl,ho⟩
 ·exact .inl h0
 ·have hnm: ¬zcB (DV.ms j 0 r.length zp) j:=fun hh=>hh _ _ _ rfl
  refine .inr ⟨j,fun hc=> ?_,by omega,rfl,ob _ _ hj (.inr (.inr hnm)) ho⟩
  rcases hc with hc|hc|hc
  ·exact hb (.inl hc)
  ·exact hb (.inr (.inl hc))
  ·obtain⟨a,b,c,rfl⟩:=notMs_eq hc
   rcases hl with⟨_,h0⟩| ⟨j',h1,h2,h3,_⟩
   ·cases h0
   ·cases h3;exact h1 (.inr (.inr hnm))
theorem LgM.moveR {j:Nat} (h:LgM B y g jm es dl (.ms j 0 r.length zp) l r) (hn:y.next≤y'.next) (hf: ∀q,q≠j→q<y.next→y'.get q=y.get q) (ho:y'.obj j=some (.rows true 1 (r'.map eInt))) (hr:r'.length=r.length):LgM B y' g jm es dl (.ms j 0 r'.length zp) l r':=by
 have hx:=h.nx
 have hrr:=h.hr
 rcases hrr with⟨_,h0⟩| ⟨j',hb,hj,h0,ho0⟩
 ·cases h0
 ·cases h0
  have hjb: ¬j≤B.next:=fun hh=>hb (.inl hh)
  have hjm:j≠jm:=fun hh=>hb (.inr (.inl hh))
  have ob: ∀q o,q≠j→q<y.next→y.obj q=some o→y'.obj q=some o:=fun q o a b c=>by
   rw[←c];show(y'.get q).map _=(y.get q).map _;rw[hf q a b]
  rw[hr]
  refine⟨fun q hq=>(hf q (by omega) (by omega)).trans (h.sm q hq),by omega,ob _ _ (by omega) (by omega) h.o3,ob _ _ (fun e=>hjm e.symm) (by omega) h.om,?_,.inr ⟨j,hb,by omega,by rw[hr],ho⟩⟩
  refine h.hl.keep hn (fun q hq hbq=>hf q (fun e=>hbq (.inr (.inr (by subst e;exact fun hh=>hh _ _ _ rfl)))) hq) fun _ _ h=>h
end
def r0To (last:Int) (i:Nat):List Int:=((List.range i).map fun a:Nat=>(a:Int)).filter fun a=>decide (a≠last)
theorem r0To_succ (last:Int) (i:Nat):r0To last (i+1)=r0To last i++if(i:Int)≠last then[(i:Int)] else[]:=by
 unfold r0To
 rw[List.range_succ,List.map_append,List.filter_append]
 congr 1
 by_cases h:(i:Int)=last<;>simp[h]
theorem r0To_len (last:Int) (i:Nat):(r0To last i).length≤i:=by
 unfold r0To
 have:=List.length_filter_le (fun a=>decide (a≠last)) ((List.range i).map fun a:Nat=>(a:Int))
 simp at this⊢;omega
theorem r0To_mem {last:Int} {i:Nat} {a:Int}:a∈r0To last i↔0≤a∧a<i∧a≠last:=by
 unfold r0To
 simp only[List.mem_filter,List.mem_map,List.mem_range,decide_eq_true_eq]
 constructor
 ·rintro⟨⟨n,h1,rfl⟩,h2⟩;exact⟨by omega,by omega,h2⟩
 ·rintro⟨h1,h2,h3⟩;exact⟨⟨a.toNat,by omega,by omega⟩,h3⟩
structure LgP (g:Gr) (N:Nat) (s0:Nat) (last:Int) (n:Nat) (l:List Int) (s:Nat→Nat) (r:Nat→List Int):Prop where
 len:l.length=n
 s0:s 0=s0
 r0:r 0=r0To last g.ac.toNat
 st: ∀t,t≤n→s t<N
 rk: ∀t,t≤n→(∀a∈r t,0≤a∧a<40)∧(r t).length≤40
 lru:Lru (EG g) n s r fun t=>(eAt g.es (l.getD t 0)).a
 ed: ∀t,t<n→ ∃(e:Nat) (he:e<g.es.length),l[t]? =some (e:Int)∧g.es[e].f=(s t:Int)∧g.es[e].t=(s (t+1):Int)
theorem LgP.zero {g:Gr} {N s0:Nat} (hs:s0<N) (last:Int) (hr: ∀a∈r0To last g.ac.toNat,0≤a∧a<40) (hl:(r0To last g.ac.toNat).length≤40):LgP g N s0 last 0 [] (fun _=>s0) (fun _=>r0To last g.ac.toNat):=
 ⟨rfl,rfl,rfl,fun _ _=>hs,fun _ _=>⟨hr,hl⟩,⟨fun t h=>by omega,fun t h=>by omega,fun t h=>by omega⟩,fun t h=>by omega⟩
theorem zlM {l:List Int} {i:Nat} (hi:i<l.length) (x:Int):(zd7 l i x).length=l.length:=by
 unfold zd7
 rw[List.length_append,List.length_eraseIdx,if_pos hi];simp;omega
theorem LgP.next {g:Gr} (hg:zbt g) {N s0 n:Nat} (hN:g.st=N) {last:Int} {l:List Int} {s:Nat→Nat} {r:Nat→List Int} (h:LgP g N s0 last n l s r) {e:Nat} (he:e<g.es.length) {u:Nat} (h1:g.es[e].f=(s n:Int)) (h2:g.es[e].t=(u:Int))
 (hb: ∀(q:Nat) (hq:q<g.es.length),g.es[q].f=(s n:Int)→zL g.es[e].a (r n)≤zL g.es[q].a (r n)) {r':List Int} (hr:r'=if zL g.es[e].a (r n)<(r n).length then zd7 (r n) (zL g.es[e].a (r n)) g.es[e].a else r n):
 LgP g N s0 last (n+1) (l++[(e:Int)]) (up1 s (n+1) u) (up1 r (n+1) r'):=by
 have hl:=h.len
 have su: ∀t,t≤n→up1 s (n+1) u t=s t:=fun t ht=>zeP _ _ (by omega)
 have ru: ∀t,t≤n→up1 r (n+1) r' t=r t:=fun t ht=>zeP _ _ (by omega)
 have lg: ∀t,t<n→(l++[(e:Int)]).getD t 0=l.getD t 0:=fun t ht=>by
  rw[List.getD_eq_getElem?_getD,List.getD_eq_getElem?_getD,List.getElem?_append_left (by omega)]
 have ln:(l++[(e:Int)]).getD n 0=e:=by rw[List.getD_eq_getElem?_getD,←hl];simp
 have he2:=(hg.ok _ (List.getElem_mem he)).t1
 refine⟨by simp[hl],by rw[su 0 (by omega)];exact h.s0,by rw[ru 0 (by omega)];exact h.r0,fun t ht=> ?_,fun t ht=> ?_,⟨fun t ht=> ?_,fun t ht b c hE=> ?_,fun t ht=> ?_⟩,fun t ht=> ?_⟩
 ·by_cases c:t=n+1
  ·subst c;rw[zcc];omega
  ·rw[su t (by omega)];exact h.st t (by omega)
 ·by_cases c:t=n+1
  ·subst c
   rw[zcc,hr]
   obtain⟨k1,k2⟩:=h.rk n (Nat.le_refl _)
   split
   ·rename_i hp
    refine⟨fun a ha=> ?_,by rw[zlM hp];exact k2⟩
    have:=(mem_move (b:=a) hp).1 (by rw[zeE hp];exact ha)
    exact k1 a this
   ·exact⟨k1,k2⟩
  ·rw[ru t (by omega)];exact h.rk t (by omega)
 ·by_cases c:t=n
  ·subst c
   rw[su t (Nat.le_refl _),zcc]
   show EG g _ (eAt g.es ((l++[(e:Int)]).getD t 0)).a _
   rw[ln,zb9 he]
   exact⟨g.es[e],List.getElem_mem he,h1,rfl,h2⟩
  ·rw[su t (by omega),su (t+1) (by omega)]
   show EG g _ (eAt g.es ((l++[(e:Int)]).getD t 0)).a _
   rw[lg t (by omega)]
   exact h.lru.edge t (by omega)
 ·show zL (eAt g.es ((l++[(e:Int)]).getD t 0)).a _≤_
  by_cases cc:t=n
  ·subst cc
   rw[su t (Nat.le_refl _)] at hE
   rw[ru t (Nat.le_refl _),ln,zb9 he]
   obtain⟨e2,q1,q2,rfl,q4⟩:=hE
   obtain⟨q,hq,rfl⟩:=List.getElem_of_mem q1
   exact hb q hq q2
  ·rw[su t (by omega)] at hE
   rw[ru t (by omega),lg t (by omega)]
   exact h.lru.best t (by omega) b c hE
 ·show up1 r (n+1) r' (t+1)=if h:zL (eAt g.es ((l++[(e:Int)]).getD t 0)).a _<_ then _ else _
  by_cases cc:t=n
  ·subst cc
   rw[zcc,ru t (Nat.le_refl _),ln,zb9 he,hr]
   split
   ·rfl
   ·rfl
  ·rw[ru (t+1) (by omega),ru t (by omega),lg t (by omega)]
   exact h.lru.next t (by omega)
 ·by_cases cc:t=n
  ·subst cc
   refine⟨e,he,by rw[←hl];simp,?_,?_⟩
   ·rw[su t (Nat.le_refl _)];exact h1
   ·rw[zcc];exact h2
  ·rw[su t (by omega),su (t+1) (by omega)]
   obtain⟨e2,he2,q1,q2,q3⟩:=h.ed t (by omega)
   exact⟨e2,he2,by rw[List.getElem?_append_left (by omega)];exact q1,q2,q3⟩
end Go.Ideal.S
namespace Go.Ideal.S
open Go Go.Ideal Q Classical
attribute [local simp] decide_eq_true decide_eq_false zK
attribute [local simp] c_b f_b r_b_1 r_b_2 r_b_3 r_b_4 r_b_5 r_b_6 r_b_7 r_b_8 r_b_10 r_b_11 r_b_12 r_b_13 r_b_14 r_b_15 r_b_16 r_b_17 r_b_18 r_b_20 r_b_21 r_b_22 r_b_23 r_b_24 r_b_25 r_b_26 r_b_27 r_b_28 r_b_29 r_b_30 r_b_31 r_b_32 r_b_33 r_b_34 r_b_36 r_b_37 r_b_38 r_b_39 r_b_40 r_b_41 r_b_42 r_b_43 r_b_45
variable {M:VM} {k kp:DV→VM→Prop} {n0:Nat}
theorem LT.len2 {bad:Nat→Prop} {y:VM} {d:DV} {l:List Int} (h:LT bad y d l) (y':VM):lenD y' d=some l.length:=by
 rcases h with⟨rfl,rfl⟩| ⟨j,_,_,rfl,_⟩<;>rfl
theorem Back.lt3 {bad:Nat→Prop} {y M0:VM} {d a b:DV} {l:List Int} {k:DV→VM→Prop} (h:LT bad y d l) (hb: ∀j,j<M0.next→bad j) (hs:SM M0.next M0 y) (ha:zM M0.next a) (hbb:zM M0.next b) (hk:k (.tup [ints l,a,b]) M0):Back k M0 (.tup [d,a,b]) y:=fun hw=>by
 refine⟨.tup [ints l,a,b],.tup rfl fun i x z h1 h2=> ?_,b_tup3 (b_lst b_Int l) ha hbb,fun j hj=>hs j hj,hk⟩
 match i with
 |0=>
  cases h1;cases h2
  rcases h with⟨rfl,rfl⟩| ⟨j,h1,h2,rfl,h4⟩
  ·exact .nilS 1
  ·exact .ms0 h4 (hw j (by
    rcases Nat.lt_or_ge j M0.next with h|h
    ·exact absurd (hb j h) h1
    ·exact h)) (by simp) (l_map l_Int l)
 |1=>cases h1;cases h2;exact .refl _
 |2=>cases h1;cases h2;exact .refl _
 |i+3=>simp at h1
theorem LT.fresh {bad:Nat→Prop} {y:VM} {d:DV} {l:List Int} (h:LT bad y d l) {j:Nat} (hj:y.next≤j):zcB d j:=by
 intro a b c e
 rcases h with⟨_,h⟩| ⟨j',_,h2,h3,_⟩
 ·rw[h] at e;cases e
 ·rw[h3] at e;cases e;omega
theorem put_back {y:VM} {r:List Int} {j p:Nat} {a:Int} (hp:p<r.length) (hl:r.length≤100000) (hj:j<y.next) (ho:y.obj j=some (.rows true 1 ((r.eraseIdx p).map eInt++[[I 0]]))):
 bltD (y.new (.rows false 1 [[I a]])) (.append 1 8) [.ms j 0 (r.length - 1) zp,.ms y.next 0 1 1]=some (.ms j 0 r.length zp,(y.new (.rows false 1 [[I a]])).put j (.rows true 1 ((zd7 r p a).map eInt))):=by
 have hlen:((r.eraseIdx p).map eInt).length=r.length - 1:=by rw[List.length_map,List.length_eraseIdx,if_pos hp]
 rw[zb2,if_pos ⟨by decide,by decide⟩,zco,zhn,show elO 1 0 1 (some (MO.rows false 1 [[I a]]))=some [[I a]] from by simp,zc5,if_pos (by simp),zbI,if_neg (by simp),if_pos (by simp;omega),zjm _ hj,ho,zcN,zbN,if_pos ⟨rfl,by simp[hlen]⟩,if_pos (by simp[hlen])]
 congr 3
 ·simp;omega
 ·congr 1
  unfold zP zd7
  rw[Nat.zero_add,List.take_append_of_le_length (by omega),List.take_of_length_le (by omega),List.drop_of_length_le (by simp[hlen]),List.append_nil,List.map_append]
  rfl
def BestP (g:Gr) (s:Nat) (r:List Int) (q best:Nat) (edge:Int):Prop:=(best=r.length+1∧edge= -1∧ ∀(e:Nat) (he:e<g.es.length),e<q→g.es[e].f≠(s:Int))∨ ∃(e:Nat) (he:e<g.es.length),edge=e∧g.es[e].f=(s:Int)∧best=zL g.es[e].a r∧ ∀(e2:Nat) (he2:e2<g.es.length),e2<q→g.es[e2].f=(s:Int)→best≤zL g.es[e2].a r
structure RunR (g:Gr) (N s0:Nat) (last:Int) (n:Nat) (l:List Int) (s:Nat→Nat) (r:Nat→List Int):Prop where
 p:LgP g N s0 last n l s r
 n:n≤3000
theorem long_ok {g:Gr} (hg:zbt g) {N:Nat} (hN:g.st=N) {s0:Nat} (hs:s0<N) (last:Int)
 (h1: ∀l n s r,RunR g N s0 last n l s r→k (.tup [ints l,I (-1),.bool false]) M)
 (h2: ∀l n s r,RunR g N s0 last n l s r→ ¬StartsR g.es (s n)→k (.tup [ints l,I (-1),.bool true]) M)
 (h3: ∀l n s r (t:Nat),RunR g N s0 last n l s r→t<n→s t=s n→r t=r n→k (.tup [ints l,I t,.bool true]) M):zA F (.fn n_b [] []) [.agg (eGr g),I s0,I last] M k kp:=by
 have g2:=hg.s2
 have a1:=hg.a1
 have a2:=hg.a2
 have hel:=hg.el
 obtain⟨A,hA⟩:=Int.eq_ofNat_of_zero_le a1
 have hA2:g.ac.toNat=A:=by omega
 apply zA.back
 refine .fn zfH rfl (by simp[f_b]) ?_
 repeat' (first| (simp(disch:=((try simp only[zc,ze,zf]);omega)) [eGr,hA];first|done| ((first|simp only[zo,zm,zn,zk,zl,zh]|simp only[zj,zi]|rw[zg]);split)|skip)| ((first|simp only[zo,zm,zn,zk,zl,zh]|simp only[zj,zi]|rw[zg]);split))
 refine zcq.gen (Q:=fun y=>SM M.next M y∧M.next<y.next∧y.obj M.next=some (grO g)) ⟨(by repeat' (first|assumption|exact zr _ _|apply zu|apply zw|apply zy| ((try simp only[zc,ze,zf]);omega))),by simp,by simp[hA]⟩ fun y0 hy0=> ?_
 refine .for (σ:=VM×DV) c_b_9.eq_1 (fun i z=>[(9,z.2),(25,I i)]) (fun z=>z.1) (fun i z=>SM M.next M z.1∧M.next<z.1.next∧z.1.obj M.next=some (grO g)∧LT (fun j=>j≤M.next) z.1 z.2 (r0To last i)) A (y0,.nilS) (by simp) rfl ⟨hy0.1,hy0.2.1,hy0.2.2,.inl ⟨rfl,rfl⟩⟩ (fun i z hi hP again=> ?_) (fun z hP=> ?_)
 ·obtain⟨y,d⟩:=z
  obtain⟨p1,p2,p3,p4⟩:=hP
  dsimp only at*
  have hl:=r0To_len last i
  rw[r0To_succ] at again
  have hiA:(i:Int)<A:=by omega
  by_cases c:(i:Int)=last
  ·rw[if_neg (fun h=>h c),List.append_nil] at again
   simp at again
   subst c
   repeat' (first| (simp(disch:=((try simp only[zc,ze,zf]);omega)) [hiA];first|done| ((first|simp only[zo,zm,zn,zk,zl,zh]|simp only[zj,zi]|rw[zg]);split)|skip)| ((first|simp only[zo,zm,zn,zk,zl,zh]|simp only[zj,zi]|rw[zg]);split))
   exact again y d p1 p2 p3 p4
  ·rw[if_pos c] at again
   simp at again
   repeat' (first| (simp(disch:=((try simp only[zc,ze,zf]);omega)) [hiA,c];first|done| ((first|simp only[zo,zm,zn,zk,zl,zh]|simp only[zj,zi]|rw[zg]);split)|skip)| ((first|simp only[zo,zm,zn,zk,zl,zh]|simp only[zj,zi]|rw[zg]);split))
   refine Rs_lt (x:=i) (y:=y.new (.rows false 1 [[I i]])) (p4.keep (by simp) (fun j hj _=>by rw[get_new,if_neg (by omega)]) fun _ _ h=>h) (by omega) (by simp;omega) (by simp) fun d2 y2 q1 q2 q3=> ?_
   have q3': ∀j,j<y.next→j≤M.next→y2.get j=y.get j:=fun j h1 h2=>by rw[q3 j (by simp;omega) h2,get_new,if_neg (by omega)]
   simp only[zc] at q2
   repeat' (first| (simp(disch:=((try simp only[zc,ze,zf]);omega));first|done| ((first|simp only[zo,zm,zn,zk,zl,zh]|simp only[zj,zi]|rw[zg]);split)|skip)| ((first|simp only[zo,zm,zn,zk,zl,zh]|simp only[zj,zi]|rw[zg]);split))
   refine again y2 d2 (fun j hj=>(q3' j (by omega) (by omega)).trans (p1 j hj)) (by omega) ?_ q1
   rw[←p3];show(y2.get M.next).map _=(y.get M.next).map _;rw[q3' _ p2 (Nat.le_refl _)]
 ·obtain⟨y,d⟩:=z
  obtain⟨p1,p2,p3,p4⟩:=hP
  dsimp only at*
  repeat' (first| (simp(disch:=((try simp only[zc,ze,zf]);omega));first|done| ((first|simp only[zo,zm,zn,zk,zl,zh]|simp only[zj,zi]|rw[zg]);split)|skip)| ((first|simp only[zo,zm,zn,zk,zl,zh]|simp only[zj,zi]|rw[zg]);split))
  have hrk: ∀a∈r0To last g.ac.toNat,0≤a∧a<40:=fun a ha=>by
   have:=r0To_mem.1 ha;omega
  have hrl:(r0To last g.ac.toNat).length≤40:=by have:=r0To_len last g.ac.toNat;omega
  have hM0:LgM M (y.new (.map [])) g y.next [] .nilS d [] (r0To last g.ac.toNat):=by
   refine⟨zw p1 (by omega),by simp;omega,by simp(disch:=omega) [p3],by simp,.inl ⟨rfl,rfl⟩,?_⟩
   rw[hA2]
   refine p4.keep (by simp) (fun j hj _=>by rw[get_new,if_neg (by omega)]) fun j hj hb=> ?_
   rcases hb with hb|hb|hb
   ·exact hb
   ·omega
   ·exact absurd (fun _ _ _ h=>by cases h) hb
  have hP0:=LgP.zero (g:=g) hs last hrk hrl
  have hjm:M.next<y.next:=p2
  generalize hyj:y.new (.map [])=y1 at*
  generalize y.next=jm at*
  clear hyj p1 p2 p3 p4 hy0
  refine .for (σ:=VM×DV×DV×List Int×(Nat→Nat)×(Nat→List Int)) c_b_44.eq_1 (fun i z=>[(1,I (z.2.2.2.2.1 i)),(6,z.2.1),(9,z.2.2.1),(37,I i)]) (fun z=>z.1) (fun i z=>LgM M z.1 g jm (sE (fun t=>kyB (z.2.2.2.2.1 t) (z.2.2.2.2.2 t)) i) z.2.1 z.2.2.1 z.2.2.2.1 (z.2.2.2.2.2 i)∧LgP g N s0 last i z.2.2.2.1 z.2.2.2.2.1 z.2.2.2.2.2) 3000 (y1,.nilS,d,[],fun _=>s0,fun _=>r0To last g.ac.toNat) (by simp) rfl ⟨hM0,hP0⟩ (fun i z hi hP again=> ?_) (fun z hP=> ?_)
  ·obtain⟨y,dl,dr,l,s,r⟩:=z
   obtain⟨hM,hP⟩:=hP
   dsimp only at*
   have hnx:=hM.nx
   obtain⟨hra,hrl40⟩:=hP.rk i (Nat.le_refl _)
   have hsN:=hP.st i (Nat.le_refl _)
   have hll:=hP.len
   have hi3:(i:Int)<3000:=by omega
   have hc8:=conv_u8 (a:=(s i:Int)) (by omega) (by omega)
   have hlr:=hM.hr.len2
   repeat' (first| (simp(disch:=((try simp only[zc,ze,zf]);omega)) [hi3,hc8,hlr];first|done| ((first|simp only[zo,zm,zn,zk,zl,zh]|simp only[zj,zi]|rw[zg]);split)|skip)| ((first|simp only[zo,zm,zn,zk,zl,zh]|simp only[zj,zi]|rw[zg]);split))
   have hneg: ∀a∈(s i:Int)::r i,0≤a:=fun a ha=>by
    rcases List.mem_cons.1 ha with rfl|ha
    ·omega
    ·exact(hra a ha).1
   refine .for (σ:=VM×DV) c_b_19.eq_1 (fun q z=>[(12,z.2),(44,I q)]) (fun z=>z.1) (fun q z=>Acc y z.1 z.2 1 (((s i:Int)::(r i).take q).map eU8)) (r i).length (y.new (.rows false 1 [[.int .u8 (s i)]]),.ms y.next 0 1 1) (by simp) rfl (by simpa[eU8] using Acc.lit y (s:=1) (rows:=[eU8 (s i)]) (by simp[eU8]) (by simp)) (fun q z hq hA again2=> ?_) (fun z hA=> ?_)
   ·obtain⟨y2,dk⟩:=z
    dsimp only at*
    rcases hM.hr with⟨h0,_⟩| ⟨j,hb,hj,hdr,ho⟩
    ·rw[h0] at hq;simp at hq
    ·have ho2:y2.obj j=some (.rows true 1 ((r i).map eInt)):=by rw[hA.obj hj];exact ho
     obtain⟨k1,k2⟩:=hra _ (List.getElem_mem hq)
     have hca:=conv_u8 (a:=(r i)[q]) k1 (by omega)
     have hx2:=hA.nx
     rw[List.take_succ_eq_append_getElem hq] at again2
     simp at again2
     subst hdr
     repeat' (first| (simp(disch:=((try simp only[zc,ze,zf]);omega)) [hq,ho2,eInt,hca];first|done| ((first|simp only[zo,zm,zn,zk,zl,zh]|simp only[zj,zi]|rw[zg]);split)|skip)| ((first|simp only[zo,zm,zn,zk,zl,zh]|simp only[zj,zi]|rw[zg]);split))
     refine Rs_app (hA.new _) (new:=[eU8 (r i)[q]]) (by simp[eU8]) (by decide) (by simp[eU8]) (by simp[eU8]) (by simp;omega) fun d3 y3 hA3=> ?_
     repeat' (first| (simp(disch:=((try simp only[zc,ze,zf]);omega));first|done| ((first|simp only[zo,zm,zn,zk,zl,zh]|simp only[zj,zi]|rw[zg]);split)|skip)| ((first|simp only[zo,zm,zn,zk,zl,zh]|simp only[zj,zi]|rw[zg]);split))
     exact again2 y3 d3 (by rw[List.take_succ_eq_append_getElem (by simpa using hq),List.getElem_map];simpa using hA3)
   ·obtain⟨y2,dk⟩:=z
    dsimp only at*
    rw[List.take_length] at hA
    have hb2:=b2s_ky hA hneg
    have om2:y2.obj jm=some (.map (sE (fun t=>kyB (s t) (r t)) i)):=by rw[hA.obj hnx.2];exact hM.om
    have hM2:LgM M y2 g jm (sE (fun t=>kyB (s t) (r t)) i) dl dr l (r i):=hM.frame hA.sm hA.nx
    rcases sfind (f:=fun t=>kyB (s t) (r t)) (x:=kyB (s i) (r i)) (List.range i) with⟨f1,f2⟩| ⟨t,ht,f2,f1⟩
    ·have f3:=sset (f:=fun t=>kyB (s t) (r t)) (x:=kyB (s i) (r i)) (d:=I (i:Nat)) (List.range i) f2
     have f4:=upd_str om2 f3
     have hes:(sE (fun t=>kyB (s t) (r t)) i)++[(DV.str (kyB (s i) (r i)),I (i:Nat))]=sE (fun t=>kyB (s t) (r t)) (i+1):=by
      show _=(List.range (i+1)).map _
      rw[List.range_succ,List.map_append];rfl
     rw[hes] at f4
     have hll2:=hM2.hl.len2
     rw[hll] at hll2
     have hM3:=hM2.setM (sE (fun t=>kyB (s t) (r t)) (i+1))
     repeat' (first| (simp(disch:=((try simp only[zc,ze,zf]);omega)) [hb2,om2,lkE_str,f1,hll2,f4];first|done| ((first|simp only[zo,zm,zn,zk,zl,zh]|simp only[zj,zi]|rw[zg]);split)|skip)| ((first|simp only[zo,zm,zn,zk,zl,zh]|simp only[zj,zi]|rw[zg]);split))
     generalize y2.put jm (.map (sE (fun t=>kyB (s t) (r t)) (i+1)))=y3 at*
     have p3:=hM3.o3
     repeat' (first| (simp(disch:=((try simp only[zc,ze,zf]);omega)) [hlr,p3,hA];first|done| ((first|simp only[zo,zm,zn,zk,zl,zh]|simp only[zj,zi]|rw[zg]);split)|skip)| ((first|simp only[zo,zm,zn,zk,zl,zh]|simp only[zj,zi]|rw[zg]);split))
     refine .for (σ:=VM×Nat×Int) c_b_35.eq_1 (fun q z=>[(17,I z.2.1),(18,I z.2.2),(75,I q)]) (fun z=>z.1) (fun q z=>SM y3.next y3 z.1∧y3.next≤z.1.next∧BestP g (s i) (r i) q z.2.1 z.2.2) g.es.length (y3,(r i).length+1,-1) (by simp) rfl ⟨zr _ _,Nat.le_refl _,.inl ⟨rfl,rfl,fun e he h=>by omega⟩⟩ (fun q z hq hQ again2=> ?_) (fun z hQ=> ?_)
     ·obtain⟨y4,best,edge⟩:=z
      obtain⟨w1,w2,w3⟩:=hQ
      dsimp only at*
      have s5:SM y4.next y4 ((y4.new (.rows false 3 [[I 0,I 0,I 0]])).put y4.next (.rows false 3 [[I g.es[q].f,I g.es[q].a,I g.es[q].t]])):=(by repeat' (first|assumption|exact zr _ _|apply zu|apply zw|apply zy| ((try simp only[zc,ze,zf]);omega)))
      have n5:y4.next≤((y4.new (.rows false 3 [[I 0,I 0,I 0]])).put y4.next (.rows false 3 [[I g.es[q].f,I g.es[q].a,I g.es[q].t]])).next:=by simp;omega
      have hM5:=(hM3.frame w1 w2).frame s5 n5
      have w1':=zc7 w1 (zes s5 w2)
      have o5:((y4.new (.rows false 3 [[I 0,I 0,I 0]])).put y4.next (.rows false 3 [[I g.es[q].f,I g.es[q].a,I g.es[q].t]])).obj y4.next=some (.rows false 3 [[I g.es[q].f,I g.es[q].a,I g.es[q].t]]):=by simp
      by_cases c:g.es[q].f=(s i:Int)
      ·have hpl:=posOf_le g.es[q].a (r i)
       have hstep: ∀b2 e2,(zL g.es[q].a (r i)<best∧b2=zL g.es[q].a (r i)∧e2=(q:Int)∨ ¬zL g.es[q].a (r i)<best∧b2=best∧e2=edge)→BestP g (s i) (r i) (q+1) b2 e2:=by
        intro b2 e2 hh
        rcases hh with⟨u1,rfl,rfl⟩| ⟨u1,rfl,rfl⟩
        ·refine .inr ⟨q,hq,rfl,c,rfl,fun e2 he2 h1 h2=> ?_⟩
         by_cases e:e2=q
         ·subst e;exact Nat.le_refl _
         ·rcases w3 with⟨v1,v2,v3⟩| ⟨e,he,v1,v2,v3,v4⟩
          ·exact absurd h2 (v3 e2 he2 (by omega))
          ·have:=v4 e2 he2 (by omega) h2;omega
        ·rcases w3 with⟨v1,v2,v3⟩| ⟨e,he,v1,v2,v3,v4⟩
         ·omega
         ·refine .inr ⟨e,he,v1,v2,v3,fun e3 he3 h1 h2=> ?_⟩
          by_cases ee:e3=q
          ·subst ee;omega
          ·exact v4 e3 he3 (by omega) h2
       simp at again2
       rw[c] at s5 n5 hM5 w1' o5
       repeat' (first| (simp(disch:=((try simp only[zc,ze,zf]);omega)) [hq,zE,c];first|done| ((first|simp only[zo,zm,zn,zk,zl,zh]|simp only[zj,zi]|rw[zg]);split)|skip)| ((first|simp only[zo,zm,zn,zk,zl,zh]|simp only[zj,zi]|rw[zg]);split))
       generalize (y4.new (.rows false 3 [[I 0,I 0,I 0]])).put y4.next (.rows false 3 [[I (s i),I g.es[q].a,I g.es[q].t]])=y5 at*
       refine indexLt_ok hM5.hr g.es[q].a (by omega) ?_
       unfold posI
       rcases Nat.lt_or_ge (zL g.es[q].a (r i)) (r i).length with u|u
       ·rw[if_pos u]
        by_cases u2:zL g.es[q].a (r i)<best
        ·have u3:((zL g.es[q].a (r i):Nat):Int)<best:=by omega
         repeat' (first| (simp(disch:=((try simp only[zc,ze,zf]);omega)) [u3];first|done| ((first|simp only[zo,zm,zn,zk,zl,zh]|simp only[zj,zi]|rw[zg]);split)|skip)| ((first|simp only[zo,zm,zn,zk,zl,zh]|simp only[zj,zi]|rw[zg]);split))
         exact again2 y5 _ _ w1' (by omega) (hstep _ _ (.inl ⟨u2,rfl,rfl⟩))
        ·have u3: ¬((zL g.es[q].a (r i):Nat):Int)<best:=by omega
         repeat' (first| (simp(disch:=((try simp only[zc,ze,zf]);omega)) [u3];first|done| ((first|simp only[zo,zm,zn,zk,zl,zh]|simp only[zj,zi]|rw[zg]);split)|skip)| ((first|simp only[zo,zm,zn,zk,zl,zh]|simp only[zj,zi]|rw[zg]);split))
         exact again2 y5 _ _ w1' (by omega) (hstep _ _ (.inr ⟨u2,rfl,rfl⟩))
       ·rw[if_neg (by omega)]
        have ul:(r i).length=zL g.es[q].a (r i):=by omega
        by_cases u2:zL g.es[q].a (r i)<best
        ·have u3:(((r i).length:Nat):Int)<best:=by omega
         repeat' (first| (simp(disch:=((try simp only[zc,ze,zf]);omega)) [hlr,u3];first|done| ((first|simp only[zo,zm,zn,zk,zl,zh]|simp only[zj,zi]|rw[zg]);split)|skip)| ((first|simp only[zo,zm,zn,zk,zl,zh]|simp only[zj,zi]|rw[zg]);split))
         rw[ul]
         exact again2 y5 _ _ w1' (by omega) (hstep _ _ (.inl ⟨u2,rfl,rfl⟩))
        ·have u3: ¬(((r i).length:Nat):Int)<best:=by omega
         repeat' (first| (simp(disch:=((try simp only[zc,ze,zf]);omega)) [hlr,u3];first|done| ((first|simp only[zo,zm,zn,zk,zl,zh]|simp only[zj,zi]|rw[zg]);split)|skip)| ((first|simp only[zo,zm,zn,zk,zl,zh]|simp only[zj,zi]|rw[zg]);split))
         exact again2 y5 _ _ w1' (by omega) (hstep _ _ (.inr ⟨u2,rfl,rfl⟩))
      ·have hstep:BestP g (s i) (r i) (q+1) best edge:=by
        rcases w3 with⟨v1,v2,v3⟩| ⟨e,he,v1,v2,v3,v4⟩
        ·refine .inl ⟨v1,v2,fun e he h=> ?_⟩
         by_cases ee:e=q
         ·subst ee;exact c
         ·exact v3 e he (by omega)
        ·refine .inr ⟨e,he,v1,v2,v3,fun e3 he3 h1 h2=> ?_⟩
         by_cases ee:e3=q
         ·subst ee;exact absurd h2 c
         ·exact v4 e3 he3 (by omega) h2
       simp at again2
       repeat' (first| (simp(disch:=((try simp only[zc,ze,zf]);omega)) [hq,zE,c];first|done| ((first|simp only[zo,zm,zn,zk,zl,zh]|simp only[zj,zi]|rw[zg]);split)|skip)| ((first|simp only[zo,zm,zn,zk,zl,zh]|simp only[zj,zi]|rw[zg]);split))
       exact again2 _ _ _ w1' (by simp;omega) hstep
     ·obtain⟨y4,best,edge⟩:=z
      obtain⟨w1,w2,w3⟩:=hQ
      dsimp only at*
      have hM4:=hM3.frame w1 w2
      have hlr4:=hM4.hl.len2
      rcases w3 with⟨v1,rfl,v3⟩| ⟨e,he,rfl,v2,v3,v4⟩
      ·repeat' (first| (simp(disch:=((try simp only[zc,ze,zf]);omega));first|done| ((first|simp only[zo,zm,zn,zk,zl,zh]|simp only[zj,zi]|rw[zg]);split)|skip)| ((first|simp only[zo,zm,zn,zk,zl,zh]|simp only[zj,zi]|rw[zg]);split))
       exact Back.lt3 hM4.hl (fun j hj=>.inl (by omega)) hM4.sm (by simp) (by simp) (h2 l i s r ⟨hP,by omega⟩ fun⟨e,h4,h5⟩=>by
        obtain⟨q,hq,rfl⟩:=List.getElem_of_mem h4
        exact v3 q hq hq h5)
      ·have hbpos:=posOf_le g.es[e].a (r i)
       have he0: ¬(e:Int)<0:=by omega
       have ho:=hg.ok _ (List.getElem_mem he)
       have b0:=ho.t0;have b1:=ho.t1
       obtain⟨u,hu⟩:=Int.eq_ofNat_of_zero_le b0
       have hbest: ∀(q:Nat) (hq:q<g.es.length),g.es[q].f=(s i:Int)→zL g.es[e].a (r i)≤zL g.es[q].a (r i):=fun q hq hf=>v3▸v4 q hq hq hf
       repeat' (first| (simp(disch:=((try simp only[zc,ze,zf]);omega)) [he0];first|done| ((first|simp only[zo,zm,zn,zk,zl,zh]|simp only[zj,zi]|rw[zg]);split)|skip)| ((first|simp only[zo,zm,zn,zk,zl,zh]|simp only[zj,zi]|rw[zg]);split))
       refine Rs_lt (x:=e) (y:=y4.new (.rows false 1 [[I e]])) ((hM4.frame (zw (zr _ _) (Nat.le_refl _)) (by simp)).hl) (by omega) ?_ (by simp) fun d5 y5 q1 q2 q3=> ?_
       ·have hn4:=hM4.nx
        intro hh
        rcases hh with hh|hh|hh
        ·simp at hh;omega
        ·simp at hh;omega
        ·exact hh (hM4.hr.fresh (by simp))
       have hM5:=(hM4.frame (y':=y4.new (.rows false 1 [[I e]])) (zw (zr _ _) (Nat.le_refl _)) (by simp)).setL q2 q3 q1
       have p5:=hM5.o3
       subst v3
       have hfin:=fun(y7:VM) (dr2:DV) (r2:List Int) (hr2:r2=if zL g.es[e].a (r i)<(r i).length then zd7 (r i) (zL g.es[e].a (r i)) g.es[e].a else r i) (hM7:LgM M y7 g jm (sE (fun t=>kyB (s t) (r t)) (i+1)) d5 dr2 (l++[(e:Int)]) r2)=>again (y7,d5,dr2,l++[(e:Int)],up1 s (i+1) u,up1 r (i+1) r2) ⟨by
        dsimp only
        rw[zcc]
        have hsE:sE (fun t=>kyB ((up1 s (i+1) u t:Nat):Int) (up1 r (i+1) r2 t)) (i+1)=sE (fun t=>kyB (s t) (r t)) (i+1):=List.map_congr_left fun t ht=>by
         have:=List.mem_range.1 ht
         dsimp only
         rw[zeP _ _ (by omega),zeP _ _ (by omega)]
        rw[hsE];exact hM7,hP.next hg hN he v2 hu hbest hr2⟩
       clear again
       rcases Nat.lt_or_ge (zL g.es[e].a (r i)) (r i).length with u1|u1
       ·have u2:((zL g.es[e].a (r i):Nat):Int)<((r i).length:Nat):=by omega
        have hM5r:=hM5.hr
        rcases hM5r with⟨h0,_⟩| ⟨jr,hb,hj,hdr,hor⟩
        ·rw[h0] at u1;simp at u1
        ·have hat:=zeE u1
         subst hdr
         have hap:=fun(y6:VM) (n6:y5.next≤y6.next) (o6:y6.obj jr=some (.rows true 1 (((r i).eraseIdx (zL g.es[e].a (r i))).map eInt++[[I 0]])))=>put_back (a:=g.es[e].a) u1 (by omega) (by omega) o6
         have hml:=zlM u1 g.es[e].a
         repeat' (first| (simp(disch:=((try simp only[zc,ze,zf]);omega)) [u2,hor,eInt,u1,hat];first|done| ((first|simp only[zo,zm,zn,zk,zl,zh]|simp only[zj,zi]|rw[zg]);split)|skip)| ((first|simp only[zo,zm,zn,zk,zl,zh]|simp only[zj,zi]|rw[zg]);split))
         refine delete_ok hor u1 (by omega) hj fun y6 n6 f6 o6=> ?_
         have hap:=hap y6 n6 o6
         have hj6:jr<y6.next:=by omega
         have hM7:=hM5.moveR (y':=(y6.new (.rows false 1 [[I g.es[e].a]])).put jr (.rows true 1 ((zd7 (r i) (zL g.es[e].a (r i)) g.es[e].a).map eInt))) (r':=zd7 (r i) (zL g.es[e].a (r i)) g.es[e].a) (by simp;omega) (fun q h1 h2=>by rw[get_put,if_neg h1,get_new,if_neg (by omega)];exact f6 q h1 h2) (by simp) hml
         have p7:=hM7.o3
         have hfin:=hfin _ _ _ (by rw[if_pos u1]) hM7
         rw[hml] at hfin
         simp[zcc] at hfin
         repeat' (first| (simp(disch:=((try simp only[zc,ze,zf]);omega)) [hap,p7,he,zE,hu];first|done| ((first|simp only[zo,zm,zn,zk,zl,zh]|simp only[zj,zi]|rw[zg]);split)|skip)| ((first|simp only[zo,zm,zn,zk,zl,zh]|simp only[zj,zi]|rw[zg]);split))
         exact hfin
       ·have u2: ¬((zL g.es[e].a (r i):Nat):Int)<((r i).length:Nat):=by omega
        have hfin:=hfin y5 dr (r i) (by rw[if_neg (by omega)]) hM5
        simp[zcc] at hfin
        repeat' (first| (simp(disch:=((try simp only[zc,ze,zf]);omega)) [hlr,u2,p5,he,zE,hu];first|done| ((first|simp only[zo,zm,zn,zk,zl,zh]|simp only[zj,zi]|rw[zg]);split)|skip)| ((first|simp only[zo,zm,zn,zk,zl,zh]|simp only[zj,zi]|rw[zg]);split))
        exact hfin
    ·have hti:=List.mem_range.1 ht
     obtain⟨ra,_⟩:=hP.rk t (by omega)
     have hst:=hP.st t (by omega)
     obtain⟨e1,e2⟩:=ky_inj (fun a ha=>by
      rcases List.mem_cons.1 ha with rfl|ha
      ·omega
      ·have:=ra a ha;omega) (fun a ha=>by
      rcases List.mem_cons.1 ha with rfl|ha
      ·omega
      ·have:=hra a ha;omega) f2
     repeat' (first| (simp(disch:=((try simp only[zc,ze,zf]);omega)) [hb2,om2,lkE_str,f1];first|done| ((first|simp only[zo,zm,zn,zk,zl,zh]|simp only[zj,zi]|rw[zg]);split)|skip)| ((first|simp only[zo,zm,zn,zk,zl,zh]|simp only[zj,zi]|rw[zg]);split))
     exact Back.lt3 hM2.hl (fun j hj=>.inl (by omega)) hM2.sm (by simp) (by simp) (h3 l i s r t ⟨hP,by omega⟩ hti (by omega) e2)
  ·obtain⟨y,dl,dr,l,s,r⟩:=z
   obtain⟨hM,hP⟩:=hP
   dsimp only at*
   repeat' (first| (simp(disch:=((try simp only[zc,ze,zf]);omega));first|done| ((first|simp only[zo,zm,zn,zk,zl,zh]|simp only[zj,zi]|rw[zg]);split)|skip)| ((first|simp only[zo,zm,zn,zk,zl,zh]|simp only[zj,zi]|rw[zg]);split))
   exact Back.lt3 hM.hl (fun j hj=>.inl (by omega)) hM.sm (by simp) (by simp) (h1 l 3000 s r ⟨hP,Nat.le_refl _⟩)
end Go.Ideal.S
set_option maxHeartbeats 2000000
namespace Go.Ideal.S
open Go Go.Ideal Q Classical
attribute [local simp] decide_eq_true decide_eq_false zK
attribute [local simp] c_Q f_Q r_Q_1 r_Q_2 c_s f_s r_s_1 r_s_2 r_s_3 r_s_4 r_s_5 r_s_6 r_s_7 r_s_8 r_s_9 r_s_10 r_s_11 r_s_12 r_s_13 r_s_14 c_j f_j r_j_1 r_j_2 r_j_3 r_j_4 r_j_5 r_j_6 r_j_7 r_j_8 r_j_9 r_j_10 r_j_11 r_j_13 r_j_14 r_j_15 c_L f_L r_L_1 r_L_2 c_A f_A r_A_2 r_1 c_1 f_1 r_1_1 r_1_2
variable {M:VM} {k kp:DV→VM→Prop} {n0:Nat}
theorem nan_ok (x:Int) (hk:k (.bool false) M):zA F (.fn n_Q [] []) [I x] M k kp:=by
 apply zA.back
 refine .fn zib rfl (by simp[f_Q]) ?_
 repeat' (first| (simp(disch:=((try simp only[zc,ze,zf]);omega));first|done| ((first|simp only[zo,zm,zn,zk,zl,zh]|simp only[zj,zi]|rw[zg]);split)|skip)| ((first|simp only[zo,zm,zn,zk,zl,zh]|simp only[zj,zi]|rw[zg]);split))
 exact Back.plain (by simp) (by repeat' (first|assumption|exact zr _ _|apply zu|apply zw|apply zy| ((try simp only[zc,ze,zf]);omega))) hk
theorem cmp_ok (x y:Int) (hk:k (I (if x<y then -1 else if y<x then 1 else 0)) M):zA F (.fn n_s [] []) [I x,I y] M k kp:=by
 apply zA.back
 refine .fn zgM rfl (by simp[f_s]) ?_
 repeat' (first| (simp(disch:=((try simp only[zc,ze,zf]);omega));first|done| ((first|simp only[zo,zm,zn,zk,zl,zh]|simp only[zj,zi]|rw[zg]);split)|skip)| ((first|simp only[zo,zm,zn,zk,zl,zh]|simp only[zj,zi]|rw[zg]);split))
 refine nan_ok x ?_
 repeat' (first| (simp(disch:=((try simp only[zc,ze,zf]);omega));first|done| ((first|simp only[zo,zm,zn,zk,zl,zh]|simp only[zj,zi]|rw[zg]);split)|skip)| ((first|simp only[zo,zm,zn,zk,zl,zh]|simp only[zj,zi]|rw[zg]);split))
 refine nan_ok y ?_
 by_cases h1:x<y
 ·rw[if_pos h1] at hk
  repeat' (first| (simp(disch:=((try simp only[zc,ze,zf]);omega)) [h1];first|done| ((first|simp only[zo,zm,zn,zk,zl,zh]|simp only[zj,zi]|rw[zg]);split)|skip)| ((first|simp only[zo,zm,zn,zk,zl,zh]|simp only[zj,zi]|rw[zg]);split))
  exact Back.plain (by simp) (by repeat' (first|assumption|exact zr _ _|apply zu|apply zw|apply zy| ((try simp only[zc,ze,zf]);omega))) hk
 ·rw[if_neg h1] at hk
  by_cases h2:y<x
  ·rw[if_pos h2] at hk
   repeat' (first| (simp(disch:=((try simp only[zc,ze,zf]);omega)) [h1,h2];first|done| ((first|simp only[zo,zm,zn,zk,zl,zh]|simp only[zj,zi]|rw[zg]);split)|skip)| ((first|simp only[zo,zm,zn,zk,zl,zh]|simp only[zj,zi]|rw[zg]);split))
   exact Back.plain (by simp) (by repeat' (first|assumption|exact zr _ _|apply zu|apply zw|apply zy| ((try simp only[zc,ze,zf]);omega))) hk
  ·rw[if_neg h2] at hk
   repeat' (first| (simp(disch:=((try simp only[zc,ze,zf]);omega)) [h1,h2];first|done| ((first|simp only[zo,zm,zn,zk,zl,zh]|simp only[zj,zi]|rw[zg]);split)|skip)| ((first|simp only[zo,zm,zn,zk,zl,zh]|simp only[zj,zi]|rw[zg]);split))
   exact Back.plain (by simp) (by repeat' (first|assumption|exact zr _ _|apply zu|apply zw|apply zy| ((try simp only[zc,ze,zf]);omega))) hk
def cmpR:List Int→List Int→Int
 |x::l,y::m=>if x<y then -1 else if y<x then 1 else cmpR l m
 |_,_=>0
theorem compare_ok (L N:List Int) (hL:L.length=N.length) (hl:L.length≤1000) (hk:k (I (cmpR L N)) M):zA F (.fn n_j [] []) [ints L,ints N] M k kp:=by
 apply zA.back
 refine .fn zdY rfl (by simp[f_j]) ?_
 repeat' (first| (simp(disch:=((try simp only[zc,ze,zf]);omega));first|done| ((first|simp only[zo,zm,zn,zk,zl,zh]|simp only[zj,zi]|rw[zg]);split)|skip)| ((first|simp only[zo,zm,zn,zk,zl,zh]|simp only[zj,zi]|rw[zg]);split))
 refine .for (σ:=Unit) c_j_12.eq_1 (fun i _=>[(11,I i)]) (fun _=>M) (fun i _=>cmpR L N=cmpR (L.drop i) (N.drop i)) L.length () (by simp) rfl (by simp) (fun i x hi hP again=> ?_) (fun x hP=> ?_)
 ·have hi2:i<N.length:=by omega
  have hi3: ¬(N.length:Int)≤i:=by omega
  rw[List.drop_eq_getElem_cons hi,List.drop_eq_getElem_cons hi2,cmpR] at hP
  repeat' (first| (simp(disch:=((try simp only[zc,ze,zf]);omega)) [hi,hi2,hi3,eInt];first|done| ((first|simp only[zo,zm,zn,zk,zl,zh]|simp only[zj,zi]|rw[zg]);split)|skip)| ((first|simp only[zo,zm,zn,zk,zl,zh]|simp only[zj,zi]|rw[zg]);split))
  refine cmp_ok L[i] N[i] ?_
  by_cases h1:L[i]<N[i]
  ·rw[if_pos h1] at hP⊢
   rw[hP] at hk
   clear again
   repeat' (first| (simp(disch:=((try simp only[zc,ze,zf]);omega));first|done| ((first|simp only[zo,zm,zn,zk,zl,zh]|simp only[zj,zi]|rw[zg]);split)|skip)| ((first|simp only[zo,zm,zn,zk,zl,zh]|simp only[zj,zi]|rw[zg]);split))
   exact Back.plain (by simp) (by repeat' (first|assumption|exact zr _ _|apply zu|apply zw|apply zy| ((try simp only[zc,ze,zf]);omega))) hk
  ·rw[if_neg h1] at hP⊢
   by_cases h2:N[i]<L[i]
   ·rw[if_pos h2] at hP⊢
    rw[hP] at hk
    clear again
    repeat' (first| (simp(disch:=((try simp only[zc,ze,zf]);omega));first|done| ((first|simp only[zo,zm,zn,zk,zl,zh]|simp only[zj,zi]|rw[zg]);split)|skip)| ((first|simp only[zo,zm,zn,zk,zl,zh]|simp only[zj,zi]|rw[zg]);split))
    exact Back.plain (by simp) (by repeat' (first|assumption|exact zr _ _|apply zu|apply zw|apply zy| ((try simp only[zc,ze,zf]);omega))) hk
   ·rw[if_neg h2] at hP⊢
    have again:=again () hP
    simp at again
    repeat' (first| (simp(disch:=((try simp only[zc,ze,zf]);omega));first|done| ((first|simp only[zo,zm,zn,zk,zl,zh]|simp only[zj,zi]|rw[zg]);split)|skip)| ((first|simp only[zo,zm,zn,zk,zl,zh]|simp only[zj,zi]|rw[zg]);split))
    exact again
 ·have hne: ¬(L.length:Int)<N.length:=by omega
  rw[List.drop_of_length_le (Nat.le_refl _),List.drop_of_length_le (by omega)] at hP
  rw[hP] at hk
  repeat' (first| (simp(disch:=((try simp only[zc,ze,zf]);omega)) [hne];first|done| ((first|simp only[zo,zm,zn,zk,zl,zh]|simp only[zj,zi]|rw[zg]);split)|skip)| ((first|simp only[zo,zm,zn,zk,zl,zh]|simp only[zj,zi]|rw[zg]);split))
  exact Back.plain (by simp) (by repeat' (first|assumption|exact zr _ _|apply zu|apply zw|apply zy| ((try simp only[zc,ze,zf]);omega))) hk
theorem cmpR_bef (a b:Edge):0≤cmpR [a.f,a.a,a.t] [b.f,b.a,b.t]↔ ¬bef a b:=by
 unfold bef
 simp only[cmpR]
 by_cases h1:a.f=b.f
 ·rw[if_pos h1,if_neg (by omega),if_neg (by omega)]
  by_cases h2:a.a=b.a
  ·rw[if_pos h2,if_neg (by omega),if_neg (by omega)]
   split
   ·omega
   ·split<;>omega
  ·rw[if_neg h2]
   split
   ·omega
   ·split<;>omega
 ·rw[if_neg h1]
  split
  ·omega
  ·split<;>omega
theorem lorder_ok (a b:Edge) (hk:k (I (cmpR [a.f,a.a,a.t] [b.f,b.a,b.t])) M):zA F (.fn n_L [] []) [.agg (zE a),.agg (zE b)] M k kp:=by
 apply zA.back
 refine .fn zff rfl (by simp[f_L]) ?_
 repeat' (first| (simp(disch:=((try simp only[zc,ze,zf]);omega)) [zE];first|done| ((first|simp only[zo,zm,zn,zk,zl,zh]|simp only[zj,zi]|rw[zg]);split)|skip)| ((first|simp only[zo,zm,zn,zk,zl,zh]|simp only[zj,zi]|rw[zg]);split))
 refine zA.frz (j:=M.next+1+1) (n:=3) (cap:=3) (sz:=1) (op:=false) [] [.ms (M.next+1+1+1) 0 3 3] (rs:=[[I a.f],[I a.a],[I a.t]]) (by simp(disch:=((try simp only[zc,zf]);omega))) rfl (by simp) (by simp) (by simp) ?_
 refine zA.frz (j:=M.next+1+1+1) (n:=3) (cap:=3) (sz:=1) (op:=false) [.lst 1 [[I a.f],[I a.a],[I a.t]]] [] (rs:=[[I b.f],[I b.a],[I b.t]]) (by simp(disch:=((try simp only[zc,zf]);omega))) rfl (by simp) (by simp) (by simp) ?_
 refine compare_ok [a.f,a.a,a.t] [b.f,b.a,b.t] rfl (by simp) ?_
 repeat' (first| (simp(disch:=((try simp only[zc,ze,zf]);omega));first|done| ((first|simp only[zo,zm,zn,zk,zl,zh]|simp only[zj,zi]|rw[zg]);split)|skip)| ((first|simp only[zo,zm,zn,zk,zl,zh]|simp only[zj,zi]|rw[zg]);split))
 exact Back.plain (by simp) (by repeat' (first|assumption|exact zr _ _|apply zu|apply zw|apply zy| ((try simp only[zc,ze,zf]);omega))) hk
theorem takes_ok {g:Gr} (l:List Int) (hl:l.length≤1000000) (a:Int) (hE:zb3 g.es l) (hk:k (.bool (l.any fun x=>decide ((eAt g.es x).a=a))) M):zA F (.fn n_A [] []) [.agg (eGr g),ints l,I a] M k kp:=by
 apply zA.back
 refine .fn zfe rfl (by simp[f_A]) ?_
 repeat' (first| (simp(disch:=((try simp only[zc,ze,zf]);omega)) [eGr];first|done| ((first|simp only[zo,zm,zn,zk,zl,zh]|simp only[zj,zi]|rw[zg]);split)|skip)| ((first|simp only[zo,zm,zn,zk,zl,zh]|simp only[zj,zi]|rw[zg]);split))
 refine zdS l _ (fun x=>decide ((eAt g.es x).a=a)) hl (fun x hx {k kp} hk=> ?_) ?_
 ·obtain⟨x0,x1⟩:=hE x hx
  obtain⟨e,rfl⟩:=Int.eq_ofNat_of_zero_le x0
  have he:e<g.es.length:=by omega
  rw[zb9 he] at hk
  apply zA.back
  refine .fn zeI rfl (by simp[f_1]) ?_
  repeat' (first| (simp(disch:=((try simp only[zc,ze,zf]);omega)) [he,zE];first|done| ((first|simp only[zo,zm,zn,zk,zl,zh]|simp only[zj,zi]|rw[zg]);split)|skip)| ((first|simp only[zo,zm,zn,zk,zl,zh]|simp only[zj,zi]|rw[zg]);split))
  exact Back.plain (by simp) (by repeat' (first|assumption|exact zr _ _|apply zu|apply zw|apply zy| ((try simp only[zc,ze,zf]);omega))) hk
 generalize (l.any fun x=>decide ((eAt g.es x).a=a))=b at*
 repeat' (first| (simp(disch:=((try simp only[zc,ze,zf]);omega));first|done| ((first|simp only[zo,zm,zn,zk,zl,zh]|simp only[zj,zi]|rw[zg]);split)|skip)| ((first|simp only[zo,zm,zn,zk,zl,zh]|simp only[zj,zi]|rw[zg]);split))
 exact Back.plain (by simp) (by repeat' (first|assumption|exact zr _ _|apply zu|apply zw|apply zy| ((try simp only[zc,ze,zf]);omega))) hk
def mn (f t a:Int):Int:=if a<(if t<f then t else f) then a else(if t<f then t else f)
def mx (f t:Int):Int:=if f<t then t else f
theorem min3 (f t a:Int):zcv false (I f) [I t,I a]=some (I (mn f t a)):=by
 show zcv false (.int .i64 (match ltI t f with|true=>t|false=>f)) [I a]=_
 rw[minmaxD_min]
 unfold mn
 rw[zdi]
 by_cases h:t<f<;>simp[h]
theorem mn_neg (f t a:Int):mn f t a<0↔f<0∨t<0∨a<0:=by
 unfold mn
 by_cases h:t<f
 ·rw[if_pos h];split<;>omega
 ·rw[if_neg h];split<;>omega
theorem mx_le (f t n:Int):n≤mx f t↔n≤f∨n≤t:=by unfold mx;split<;>omega
attribute [local simp] c_q f_q r_q_1 r_q_2 r_q_3 r_q_4 r_q_5 r_q_6 r_q_7 r_q_8 r_q_9 r_q_11
theorem formed_ok (g:Gr) (hl:g.es.length≤1000000) (hk: ∀b:Bool,(b=true↔zbt g)→k (.bool b) M):zA F (.fn n_q [] []) [.agg (eGr g)] M k kp:=by
 apply zA.back
 refine .fn zeV rfl (by simp[f_q]) ?_
 by_cases hc:g.st<1∨60<g.st∨g.ac<0∨40<g.ac∨400<(g.es.length:Int)
 ·have hk:=hk false ⟨fun h=>by(cases h),fun h=>by(have:=h.s1;have:=h.s2;have:=h.a1;have:=h.a2;have:=h.el;omega)⟩
  repeat' (first| (simp(disch:=((try simp only[zc,ze,zf]);omega)) [eGr];first|done| ((first|simp only[zo,zm,zn,zk,zl,zh]|simp only[zj,zi]|rw[zg]);split)|skip)| ((first|simp only[zo,zm,zn,zk,zl,zh]|simp only[zj,zi]|rw[zg]);split))
  all_goals first|omega|exact Back.plain (by simp) (by repeat' (first|assumption|exact zr _ _|apply zu|apply zw|apply zy| ((try simp only[zc,ze,zf]);omega))) hk
 have h1: ¬g.st<1:=by omega
 have h2: ¬60<g.st:=by omega
 have h3: ¬g.ac<0:=by omega
 have h4: ¬40<g.ac:=by omega
 have h5: ¬400<(g.es.length:Int):=by omega
 clear hc
 repeat' (first| (simp(disch:=((try simp only[zc,ze,zf]);omega)) [eGr,h1,h2,h3,h4,h5];first|done| ((first|simp only[zo,zm,zn,zk,zl,zh]|simp only[zj,zi]|rw[zg]);split)|skip)| ((first|simp only[zo,zm,zn,zk,zl,zh]|simp only[zj,zi]|rw[zg]);split))
 refine .for (σ:=VM) c_q_10.eq_1 (fun i _=>[(32,I i)]) (fun y=>y) (fun i y=>(SM M.next M y∧M.next<y.next∧y.obj M.next=some (grO g))∧zke i g.es (EdgeOk g)∧SrtTo i g.es) g.es.length _ (by simp) rfl ⟨⟨(by repeat' (first|assumption|exact zr _ _|apply zu|apply zw|apply zy| ((try simp only[zc,ze,zf]);omega))),by simp,by simp⟩,.zero,fun q h hq=>by omega⟩ (fun i y hi hP again=> ?_) (fun y hP=> ?_)
 ·obtain⟨⟨p1,p2,p3⟩,hA,hS⟩:=hP
  have s2:SM y.next y ((y.new (.rows false 3 [[I 0,I 0,I 0]])).put y.next (.rows false 3 [[I g.es[i].f,I g.es[i].a,I g.es[i].t]])):=(by repeat' (first|assumption|exact zr _ _|apply zu|apply zw|apply zy| ((try simp only[zc,ze,zf]);omega)))
  have n2:M.next<((y.new (.rows false 3 [[I 0,I 0,I 0]])).put y.next (.rows false 3 [[I g.es[i].f,I g.es[i].a,I g.es[i].t]])).next:=by simp;omega
  have p1':=zc7 p1 (zes s2 (by omega))
  have p3':=zO s2 (by omega) p3
  have hm3:=min3 g.es[i].f g.es[i].t g.es[i].a
  by_cases c1:mn g.es[i].f g.es[i].t g.es[i].a<0
  ·have hk:=hk false ⟨fun h=>by(cases h),fun h=>by have q:=h.ok _ (List.getElem_mem hi);have:=(mn_neg _ _ _).1 c1;have:=q.f0;have:=q.t0;have:=q.a0;omega⟩
   clear again
   repeat' (first| (simp(disch:=((try simp only[zc,ze,zf]);omega)) [hi,zE,hm3,c1];first|done| ((first|simp only[zo,zm,zn,zk,zl,zh]|simp only[zj,zi]|rw[zg]);split)|skip)| ((first|simp only[zo,zm,zn,zk,zl,zh]|simp only[zj,zi]|rw[zg]);split))
   exact Back.plain (by simp) p1' hk
  ·have c1': ¬(g.es[i].f<0∨g.es[i].t<0∨g.es[i].a<0):=fun h=>c1 ((mn_neg _ _ _).2 h)
   have hmx:(if g.es[i].f<g.es[i].t then g.es[i].t else g.es[i].f)=mx g.es[i].f g.es[i].t:=rfl
   by_cases c2:g.st≤mx g.es[i].f g.es[i].t
   ·have hk:=hk false ⟨fun h=>by(cases h),fun h=>by have q:=h.ok _ (List.getElem_mem hi);have:=(mx_le _ _ _).1 c2;have:=q.f1;have:=q.t1;omega⟩
    clear again
    repeat' (first| (simp(disch:=((try simp only[zc,ze,zf]);omega)) [hi,zE,hm3,c1,p3,hmx,c2];first|done| ((first|simp only[zo,zm,zn,zk,zl,zh]|simp only[zj,zi]|rw[zg]);split)|skip)| ((first|simp only[zo,zm,zn,zk,zl,zh]|simp only[zj,zi]|rw[zg]);split))
    exact Back.plain (by simp) p1' hk
   ·have c2': ¬(g.st≤g.es[i].f∨g.st≤g.es[i].t):=fun h=>c2 ((mx_le _ _ _).2 h)
    by_cases c3:g.ac≤g.es[i].a
    ·have hk:=hk false ⟨fun h=>by(cases h),fun h=>by have q:=h.ok _ (List.getElem_mem hi);have:=q.a1;omega⟩
     clear again
     repeat' (first| (simp(disch:=((try simp only[zc,ze,zf]);omega)) [hi,zE,hm3,c1,p3,hmx,c2,c3];first|done| ((first|simp only[zo,zm,zn,zk,zl,zh]|simp only[zj,zi]|rw[zg]);split)|skip)| ((first|simp only[zo,zm,zn,zk,zl,zh]|simp only[zj,zi]|rw[zg]);split))
     exact Back.plain (by simp) p1' hk
    ·have hc:EdgeOk g g.es[i]:=⟨by omega,by omega,by omega,by omega,by omega,by omega⟩
     have hA2:=hA.succ hi hc
     rcases Nat.eq_zero_or_pos i with rfl|h0
     ·have again:=again _ ⟨⟨p1',n2,p3'⟩,hA2,hS.succ hi (by omega)⟩
      simp at again
      clear hk
      repeat' (first| (simp(disch:=((try simp only[zc,ze,zf]);omega)) [hi,zE,hm3,c1,p3,hmx,c2,c3];first|done| ((first|simp only[zo,zm,zn,zk,zl,zh]|simp only[zj,zi]|rw[zg]);split)|skip)| ((first|simp only[zo,zm,zn,zk,zl,zh]|simp only[zj,zi]|rw[zg]);split))
      exact again
     ·obtain⟨m,hm1⟩: ∃m,i - 1=m:=⟨_,rfl⟩
      have hm:m<g.es.length:=by omega
      have em:(i:Int) - 1=(m:Int):=by omega
      have hob:=cmpR_bef g.es[m] g.es[i]
      have ip:(0:Int)<i:=by omega
      by_cases hb:bef g.es[m] g.es[i]
      ·have again:=again _ ⟨⟨p1',n2,p3'⟩,hA2,hS.succ hi (fun _=>by simpa only[hm1] using hb)⟩
       have hob2: ¬0≤cmpR [g.es[m].f,g.es[m].a,g.es[m].t] [g.es[i].f,g.es[i].a,g.es[i].t]:=fun h=>hob.1 h hb
       simp at again
       clear hk
       repeat' (first| (simp(disch:=((try simp only[zc,ze,zf]);omega)) [hi,zE,hm3,c1,p3,hmx,c2,c3,ip,em,hm];first|done| ((first|simp only[zo,zm,zn,zk,zl,zh]|simp only[zj,zi]|rw[zg]);split)|skip)| ((first|simp only[zo,zm,zn,zk,zl,zh]|simp only[zj,zi]|rw[zg]);split))
       refine lorder_ok g.es[m] g.es[i] ?_
       repeat' (first| (simp(disch:=((try simp only[zc,ze,zf]);omega)) [hob2];first|done| ((first|simp only[zo,zm,zn,zk,zl,zh]|simp only[zj,zi]|rw[zg]);split)|skip)| ((first|simp only[zo,zm,zn,zk,zl,zh]|simp only[zj,zi]|rw[zg]);split))
       exact again
      ·have hk:=hk false ⟨fun h=>by(cases h),fun h=>absurd (h.srt m (by omega) (by omega)) (fun q=>hb (by simpa only[show m+1=i by omega] using q))⟩
       have hob2:=hob.2 hb
       clear again
       repeat' (first| (simp(disch:=((try simp only[zc,ze,zf]);omega)) [hi,zE,hm3,c1,p3,hmx,c2,c3,ip,em,hm];first|done| ((first|simp only[zo,zm,zn,zk,zl,zh]|simp only[zj,zi]|rw[zg]);split)|skip)| ((first|simp only[zo,zm,zn,zk,zl,zh]|simp only[zj,zi]|rw[zg]);split))
       refine lorder_ok g.es[m] g.es[i] ?_
       repeat' (first| (simp(disch:=((try simp only[zc,ze,zf]);omega)) [hob2];first|done| ((first|simp only[zo,zm,zn,zk,zl,zh]|simp only[zj,zi]|rw[zg]);split)|skip)| ((first|simp only[zo,zm,zn,zk,zl,zh]|simp only[zj,zi]|rw[zg]);split))
       exact Back.plain (by simp) p1' hk
 ·obtain⟨⟨p1,p2,p3⟩,hA,hS⟩:=hP
  have hk:=hk true ⟨fun _=>⟨by omega,by omega,by omega,by omega,by omega,hA.all,hS⟩,fun _=>rfl⟩
  repeat' (first| (simp(disch:=((try simp only[zc,ze,zf]);omega));first|done| ((first|simp only[zo,zm,zn,zk,zl,zh]|simp only[zj,zi]|rw[zg]);split)|skip)| ((first|simp only[zo,zm,zn,zk,zl,zh]|simp only[zj,zi]|rw[zg]);split))
  exact Back.plain (by simp) p1 hk
end Go.Ideal.S
set_option maxHeartbeats 4000000
namespace Go.Ideal.S
open Go Go.Ideal Q Classical
attribute [local simp] decide_eq_true decide_eq_false zK
variable {M:VM} {k kp:DV→VM→Prop} {n0:Nat}
theorem zc0 (hk:k (.bool true) M):zA F (.fn n_2 [] []) [] M k kp:=by
 apply zA.back
 refine .fn zfd rfl (by simp[zhk]) ?_
 simp[zhk]
 exact Back.plain (by simp) (by repeat' (first|assumption|exact zr _ _|apply zu|apply zw|apply zy| ((try simp only[zc,ze,zf]);omega))) hk
attribute [local simp] c_M f_M r_M_1 r_M_2
theorem large_ok (g:Gr) (hk:k (.bool (decide ((500:Int)<(g.es.length:Int)))) M):zA F (.fn n_M [] []) [.agg (eGr g)] M k kp:=by
 apply zA.back
 refine .fn zfg rfl (by simp[f_M]) ?_
 simp[eGr]
 exact Back.plain (by simp) (by repeat' (first|assumption|exact zr _ _|apply zu|apply zw|apply zy| ((try simp only[zc,ze,zf]);omega))) hk
end Go.Ideal.S
namespace Go.Ideal.S
open Go Go.Ideal Q Classical
attribute [local simp] decide_eq_true decide_eq_false zK
attribute [local simp] c_x f_x r_x_1 r_x_2 r_x_3 r_x_4 r_x_5 r_x_6 r_x_7 r_x_8 r_x_9 r_x_10 r_x_11 r_x_13 r_x_15
variable {M:VM} {k kp:DV→VM→Prop} {n0:Nat}
end Go.Ideal.S
namespace Go.Ideal.S
open Go Go.Ideal Q Classical
attribute [local simp] decide_eq_true decide_eq_false zK
variable {M:VM} {k kp:DV→VM→Prop} {n0:Nat}
end Go.Ideal.S
namespace Go.Ideal.S
open Go Go.Ideal Q Classical
variable {g:Gr} {N s0 n:Nat} {last w:Int} {l:List Int} {s:Nat→Nat} {r:Nat→List Int}
theorem LgP.at (h:LgP g N s0 last n l s r) {t:Nat} (ht:t<n): ∃(e:Nat) (he:e<g.es.length) (hl:t<l.length),l[t]=(e:Int)∧eAt g.es l[t]=g.es[e]∧l.getD t 0=(e:Int)∧g.es[e].f=(s t:Int)∧g.es[e].t=(s (t+1):Int):=by
 obtain⟨e,he,h1,h2,h3⟩:=h.ed t ht
 have hl:t<l.length:=by have:=h.len;omega
 rw[List.getElem?_eq_getElem hl] at h1
 have h1:=Option.some.inj h1
 refine⟨e,he,hl,h1,by rw[h1];exact zb9 he,by rw[List.getD_eq_getElem?_getD,List.getElem?_eq_getElem hl,h1];rfl,h2,h3⟩
theorem LgP.edges (h:LgP g N s0 last n l s r):zb3 g.es l:=by
 intro x hx
 obtain⟨t,ht,rfl⟩:=List.getElem_of_mem hx
 obtain⟨e,he,_,h1,_⟩:=h.at (t:=t) (by have:=h.len;omega)
 omega
theorem LgP.seg (h:LgP g N s0 last n l s r) (hw: ∀x∈l,(eAt g.es x).a≠w) {P:Nat→Prop} {t0:Nat} (hP: ∀u,t0≤u→u≤n→P (s u)) {t:Nat} (h0:t0≤t): ∀k,t+k≤n→Star (zcZ (EG g) w P) (s t) (s (t+k)):=by
 intro k
 induction k with
 |zero=>intro _;exact .refl _
 |succ k ih=>
  intro hk
  obtain⟨e,he,hl,h1,h2,_,h3,h4⟩:=h.at (t:=t+k) (by omega)
  exact(ih (by omega)).tail ⟨g.es[e].a,⟨g.es[e],List.getElem_mem he,h3,rfl,h4⟩,by have:=hw _ (List.getElem_mem hl);rw[h2] at this;exact this,hP _ (by omega) (by omega)⟩
theorem LgP.reach (h:LgP g N s0 last n l s r) (hw: ∀x∈l,(eAt g.es x).a≠w) {t:Nat} (ht:t≤n):Star (Rall g w) s0 (s t):=by
 have:=h.seg hw (P:=fun _=>True) (t0:=0) (fun _ _ _=>trivial) (t:=0) (Nat.le_refl _) t (by omega)
 rw[h.s0,Nat.zero_add] at this
 exact this.imp fun a b ⟨x,⟨e,h1,h2,h3,h4⟩,h5,_⟩=>⟨e,h1,h2,h4,by rw[h3];exact h5,rfl⟩
theorem mem_r0To {last:Int} {A:Nat} {a:Int} (h0:0≤a) (h1:a<A) (h2:a≠last):a∈r0To last A:=by
 unfold r0To
 refine List.mem_filter.2 ⟨List.mem_map.2 ⟨a.toNat,List.mem_range.2 (by omega),by show((a.toNat:Nat):Int)=a;omega⟩,by simpa using h2⟩
theorem LgP.taken (hg:zbt g) (h:LgP g N s0 last n l s r) {t:Nat} (ht:t<n) (hr:r t=r n) {u:Nat} (hu:t≤u) (hun:u<n) {x:Int} {c:Nat} (hx:EG g (s u) x c) (hl:x≠last): ∃v,∃(hv:v<l.length),t≤v∧v<n∧(eAt g.es l[v]).a=x∧EG g (s v) x (s (v+1)):=by
 obtain⟨e,he,e1,e2,e3⟩:=hx
 have ho:=hg.ok e he
 have o1:=ho.a0;have o2:=ho.a1
 obtain⟨v,h1,h2,h3⟩:=h.lru.fair (k:=t) hr.symm hu hun (b:=x) (c:=c) (by rw[h.r0];exact mem_r0To (by omega) (by omega) hl) ⟨e,he,e1,e2,e3⟩
 obtain⟨q,hq,hlv,g1,g2,g3,g4,g5⟩:=h.at h2
 rw[g3,zb9 hq] at h3
 exact⟨v,hlv,h1,h2,by rw[g2];exact h3,g.es[q],List.getElem_mem hq,g4,h3,g5⟩
theorem zhq {l:List Int} {t u:Nat} (hu:u<l.length) (h:t≤u):l[u]∈l.drop t:=by
 rw[show l[u]=(l.drop t)[u - t]'(by rw[List.length_drop];omega) by rw[List.getElem_drop];congr 1;omega]
 exact List.getElem_mem _
theorem at_drop {l:List Int} {t:Nat} {x:Int} (h:x∈l.drop t): ∃u,∃(hu:u<l.length),t≤u∧l[u]=x:=by
 obtain⟨i,hi,rfl⟩:=List.getElem_of_mem h
 rw[List.length_drop] at hi
 exact⟨t+i,by omega,by omega,by rw[List.getElem_drop]⟩
theorem LgP.fairR (hg:zbt g) (h:LgP g N s0 last n l s r) {t:Nat} (ht:t<n) (hr:r t=r n):FairR g (l.drop t) last:=by
 intro e he ⟨x,hx,hf⟩ hl
 obtain⟨u,hu,h1,rfl⟩:=at_drop hx
 have hun:u<n:=by have:=h.len;omega
 obtain⟨q,hq,_,g1,g2,g3,g4,g5⟩:=h.at hun
 rw[g2,g4] at hf
 have ho:=hg.ok e he
 have o1:=ho.t0
 obtain⟨v,hv,i1,i2,i3,_⟩:=h.taken hg ht hr h1 hun (x:=e.a) (c:=e.t.toNat) ⟨e,he,hf.symm,rfl,by omega⟩ hl
 exact⟨l[v],zhq hv i1,i3⟩
def onR (n:Nat) (s:Nat→Nat) (t v:Nat):Prop:= ∃u,t≤u∧u<n∧s u=v
theorem zjl {n:Nat} {s:Nat→Nat} {t:Nat} (ht:t<n) (hs:s t=s n) {u:Nat} (h1:t≤u) (h2:u≤n):onR n s t (s u):=by
 rcases Nat.lt_or_ge u n with h|h
 ·exact⟨u,h1,h,rfl⟩
 ·exact⟨t,Nat.le_refl _,ht,by rw[hs];congr 1;omega⟩
theorem LgP.core (hg:zbt g) (h:LgP g N s0 last n l s r) {t:Nat} (ht:t<n) (hs:s t=s n) (hr:r t=r n) (hw: ∀u,∀(hu:u<l.length),t≤u→(eAt g.es l[u]).a≠w) (hlast:last=w∨last= -1) {st:Bool} (hst:st=true∧Opn (EG g) (onR n s t) w∨st=false∧ ¬Opn (EG g) (onR n s t) w):Core (EG g) w st (onR n s t):=by
 have hlen:=h.len
 have step: ∀u,t≤u→u<n→ ∃x,EG g (s u) x (s (u+1))∧x≠w:=fun u h1 h2=>by
  obtain⟨e,he,hl,g1,g2,g3,g4,g5⟩:=h.at h2
  exact⟨g.es[e].a,⟨g.es[e],List.getElem_mem he,g4,rfl,g5⟩,by have:=hw u hl h1;rw[g2] at this;exact this⟩
 have seg: ∀k u,t≤u→u+k≤n→Star (zcZ (EG g) w (onR n s t)) (s u) (s (u+k)):=by
  intro k
  induction k with
  |zero=>intro u _ _;exact .refl _
  |succ k ih=>
   intro u h1 h2
   obtain⟨x,hx,hxw⟩:=step (u+k) (by omega) (by omega)
   exact(ih u h1 (by omega)).tail ⟨x,hx,hxw,zjl ht hs (by omega) (by omega)⟩
 refine⟨?_,?_,?_,hst⟩
 ·obtain⟨x,hx,hxw⟩:=step t (Nat.le_refl _) ht
  exact⟨x,hxw,s t,s (t+1),hx,zjl ht hs (Nat.le_refl _) (by omega),zjl ht hs (by omega) (by omega)⟩
 ·rintro a b ⟨u,u1,u2,rfl⟩ ⟨v,v1,v2,rfl⟩
  have h1:=seg (n - u) u u1 (by omega)
  have h2:=seg (v - t) t (Nat.le_refl _) (by omega)
  rw[show u+(n - u)=n by omega] at h1
  rw[show t+(v - t)=v by omega,hs] at h2
  exact h1.trans h2
 ·rintro x hxw ⟨a,b,hE,u,u1,u2,rfl⟩
  have hx0:x≠last:=by
   rcases hlast with e|e
   ·rw[e];exact hxw
   ·obtain⟨q,hq,q1,q2,q3⟩:=hE
    have:=(hg.ok q hq).a0
    omega
  obtain⟨v,hv,v1,v2,v3,v4⟩:=h.taken hg ht hr u1 u2 hE hx0
  exact⟨s v,s (v+1),v4,zjl ht hs v1 (by omega),zjl ht hs (by omega) (by omega)⟩
end Go.Ideal.S
namespace Go.Ideal.S
open Go Go.Ideal Q Classical
attribute [local simp] decide_eq_true decide_eq_false zK
variable {M:VM} {k kp:DV→VM→Prop} {n0:Nat}
attribute [local simp] c_B f_B r_B_1 r_B_2 r_B_3 r_B_4 r_B_5 r_B_6 r_B_7 r_B_8 r_B_9 r_B_10 r_B_11 r_B_12
theorem openB_any {g:Gr} (hg:zbt g) {l:List Int} (hE:zb3 g.es l) (a:Int):(g.es.any fun e=>(zfq g l).testBit e.f.toNat&&decide (e.a=a))=decide (OpenB g.es (onF g l) a):=by
 rw[Bool.eq_iff_iff]
 simp only[List.any_eq_true,Bool.and_eq_true,decide_eq_true_eq]
 constructor
 ·rintro⟨e,he,h1,h2⟩
  have h0:=(hg.ok e he).f0
  exact⟨e,he,(onF_iff hg hE h0).2 ((zjZ hg hE h0).1 h1),h2⟩
 ·rintro⟨e,he,h1,h2⟩
  have h0:=(hg.ok e he).f0
  exact⟨e,he,(zjZ hg hE h0).2 ((onF_iff hg hE h0).1 h1),h2⟩
theorem zjt (g:Gr) (hl:g.es.length≤1000000) (l:List Int) (a:Int) (h2:l.length≤1000000) (hk:k (.tup [.bool (zkA g l a).1,I (zkA g l a).2]) M):zA F (.fn n_B [] []) [.agg (eGr g),ints l,I a] M k kp:=by
 apply zA.back
 refine .fn h_jam_Starves rfl (by simp[f_B]) ?_
 unfold zkA at hk
 by_cases h4:4000<l.length
 ·rw[if_pos h4] at hk
  simp(disch:=((try simp only[zc,ze,zf]);omega)) [eGr,h4]
  exact Back.plain (by simp) (by repeat' (first|assumption|exact zr _ _|apply zu|apply zw|apply zy| ((try simp only[zc,ze,zf]);omega))) hk
 rw[if_neg h4] at hk
 simp(disch:=((try simp only[zc,ze,zf]);omega)) [eGr]
 refine jknown_ok g hl a l h2 ?_
 by_cases hKE:zfv g a∧zb3 g.es l
 ·rw[if_pos hKE] at hk
  obtain⟨hK,hE⟩:=hKE
  cases l with
  |nil=>
   rw[dF (fun h=>h.1 rfl)] at hk
   simp[hK,hE,eGr]
   exact Back.plain (by simp) (by repeat' (first|assumption|exact zr _ _|apply zu|apply zw|apply zy| ((try simp only[zc,ze,zf]);omega))) hk
  |cons x0 l0=>
   obtain⟨z0,z1⟩:=hE x0 (by simp)
   obtain⟨c,rfl⟩:=Int.eq_ofNat_of_zero_le z0
   have hcl:c<g.es.length:=by omega
   have hh:headF g.es ((c:Int)::l0)=g.es[c].f:=by simp[headF,zb9 hcl]
   have hf0:=(hK.1.ok _ (List.getElem_mem hcl)).f0
   have htt: ∀e∈g.es,0≤e.t:=fun e he=>(hK.1.ok e he).t0
   have hS:StarvP g ((c:Int)::l0) a↔zhl g.es a g.es[c].f ((c:Int)::l0)=g.es[c].f∧FairR g ((c:Int)::l0) a∧OpenB g.es (onF g ((c:Int)::l0)) a:=by
    unfold StarvP;rw[hh];simp
   simp(disch:=((try simp only[zc,ze,zf]);omega)) [hK,hE,eGr,eInt,zE,hcl]
   refine follows_ok g _ a _ h2 hE hf0 htt ?_
   generalize hl1:(c:Int)::l0=l at*
   clear hl1
   generalize g.es[c].f=f at*
   simp[eGr]
   refine jfair_ok g hK.1 l a h2 hE ?_
   by_cases hp:zhl g.es a f l=f
   ·by_cases hF:FairR g l a
    ·simp[hp,hF,hf0,eGr]
     refine jopen_ok g _ a hl (bitsF_lt hK.1 hE) (fun e he=> ?_) ?_
     ·have h:=hK.1.ok e he;have:=h.f0;have:=h.f1;have:=hK.1.s2;omega
     rw[openB_any hK.1 hE]
     have e:decide (OpenB g.es (onF g l) a)=decide (StarvP g l a):=decide_eq_decide.2 ⟨fun h=>hS.2 ⟨hp,hF,h⟩,fun h=>(hS.1 h).2.2⟩
     have hk2:k (.tup [.bool (decide (OpenB g.es (onF g l) a)),I 0]) M:=by rw[e];exact hk
     clear hk e
     generalize decide (OpenB g.es (onF g l) a)=b at*
     simp
     exact Back.plain (by simp) (by repeat' (first|assumption|exact zr _ _|apply zu|apply zw|apply zy| ((try simp only[zc,ze,zf]);omega))) hk2
    ·rw[dF (fun h=>hF (hS.1 h).2.1)] at hk
     simp[hp,hF,hf0,eGr]
     exact Back.plain (by simp) (by repeat' (first|assumption|exact zr _ _|apply zu|apply zw|apply zy| ((try simp only[zc,ze,zf]);omega))) hk
   ·rw[dF (fun h=>hp (hS.1 h).1)] at hk
    by_cases h0:0≤zhl g.es a f l
    ·simp[hp,h0,eGr]
     exact Back.plain (by simp) (by repeat' (first|assumption|exact zr _ _|apply zu|apply zw|apply zy| ((try simp only[zc,ze,zf]);omega))) hk
    ·simp[hp,h0,eGr]
     exact Back.plain (by simp) (by repeat' (first|assumption|exact zr _ _|apply zu|apply zw|apply zy| ((try simp only[zc,ze,zf]);omega))) hk
 ·rw[if_neg hKE] at hk
  simp[hKE,eGr]
  exact Back.plain (by simp) (by repeat' (first|assumption|exact zr _ _|apply zu|apply zw|apply zy| ((try simp only[zc,ze,zf]);omega))) hk
end Go.Ideal.S
namespace Go.Ideal.S
open Go Go.Ideal Q Classical
attribute [local simp] decide_eq_true decide_eq_false zK
variable {M:VM} {k kp:DV→VM→Prop} {n0:Nat}
theorem run_wp {F:FuncId→Option zq} {args:List DV} {cf:zq} (hp:cf.prim=none) (hd:cf.dfr=none) (h:wFunc (rD F) cf args M k kp) {w:Wd} {hp0:H} {vs:List Value} (hr:HRel w M hp0) (hall:LRel w args vs): ∃n o,(∀m,n≤m→zct (E F m) cf vs hp0=some o)∧OutC w M hp0 k kp o:=by
 obtain⟨hlen,hw⟩:=h
 have hst:St M.next w M hp0 w M hp0:=⟨rfl,hr,.refl _ _ _,hr⟩
 obtain⟨n,o,h1,h2⟩:=zet cf.body hw w M hp0 w hp0 (zbD vs 0 .nil) hst (zj9 hall .nil)
 have fin: ∀{m o'},n≤m→bodyK (E F m) cf.results cf.dfr o=some o'→zct (E F m) cf vs hp0=some o':=fun{m o'} hm e=>by
  unfold zct
  rw[hp]
  show zbB _ _ _ _=_
  unfold zbB
  rw[if_pos (by rw[Nat.ble_eq,←hall.len];exact hlen),E_up hm h1,Option.bind_some,e]
 rw[hd] at h2
 cases o with
 |nrm t1 h1'=>
  obtain⟨w1,M1,s1,a1,a2,a3⟩:=h2
  obtain⟨o',e1,e2,-⟩:=zek (kp:=kp) a1 a2 a3
  exact⟨n,o',fun m hm=>fin hm (by rw[hd];exact e1),e2⟩
 |ret t1 h1'=>
  obtain⟨w1,M1,s1,a1,a2,a3⟩:=h2
  obtain⟨o',e1,e2,-⟩:=zek (kp:=kp) a1 a2 a3
  exact⟨n,o',fun m hm=>fin hm (by rw[hd];exact e1),e2⟩
 |pan v t1 h1'=>
  obtain⟨w1,M1,s1,d,a1,a2,a3,a4⟩:=h2
  exact⟨n,.pan v .nil h1',fun m hm=>fin hm (by rw[hd];rfl),w1,M1,d,a1.hi,a1.r,a3,a4⟩
 |exit=>obtain⟨w1,M1,s1,a1,a2,a3⟩:=h2;exact a3.elim
 |val=>exact h2.elim
attribute [local simp] c_k f_k r_k_1 r_k_2 r_k_3 r_k_4
def Clo (M:VM) (d:DV) (M':VM) (l:List Edge):Prop:=M.next≤M'.next∧(∀q,q<M.next→M'.get q=M.get q)∧(l=[]∧(d=.nilS∨ ∃j cap,d=.ms j 0 0 cap)∨ ∃j,M.next≤j∧j<M'.next∧d=.ms j 0 l.length zp∧M'.obj j=some (.rows true 3 (l.map zE)))
theorem clone0 (hk: ∀d M',Clo M d M' []→k d M'):zA F (.fn n_k [] []) [.lst 3 []] M k kp:=by
 intro w h fv vs hr hf hv
 obtain⟨a',c',rfl,ha,hc⟩:=hf.inv_fn
 have ha:a'=[]:=List.length_eq_zero_iff.1 ha.len.symm
 have hc:c'=[]:=List.length_eq_zero_iff.1 hc.len.symm
 subst ha hc
 obtain⟨v,rfl⟩: ∃v,vs=[v]:=by
  have:=hv.len
  match vs,this with
  | [v],_=>exact⟨v,rfl⟩
 have hv1:VRel w (.lst 3 []) v:=hv.at_ 0 _ _ rfl rfl
 obtain⟨base,cap,hsp,rfl⟩: ∃base cap,(∀a:Addr,base=some a→a.spot=none)∧v=.slice base 0 cap:=by
  cases hv1 with
  |lst _ _ _ _ _ _ hn=>subst hn;exact⟨_,_,fun a h=>by cases h;rfl,rfl⟩
  |lst0 _ hs=>exact⟨_,_,hs,rfl⟩
 have hF:F n_k=some f_k:=zbj
 have e1: ∀n x,E F (n+1) (.call (.func (.func n_k) ⟨[]⟩ ⟨[]⟩) x h)=zct (E F n) f_k x h:=fun n x=>by
  show((F n_k).bind fun cf=>zct (E F n) cf ([]++x++[]) h)=_
  rw[hF,Option.bind_some];simp
 cases base with
 |none=>
  refine⟨20,.val (.slice none 0 0) h,?_,w,M,.nilS,.refl _ _ _,hr,.nilS,hk _ _ ⟨Nat.le_refl _,fun _ _=>rfl,.inl ⟨rfl,.inl rfl⟩⟩⟩
  rw[e1];rfl
 |some a=>
  have hw:wFunc (rD F) ⟨8,[.tmp (bits 2)],.seq (.ops r_k_4) (bs [2]) .ret,none,none⟩ [.lst 3 []] M k kp:=by
   refine⟨by simp,?_⟩
   repeat' (first| (simp(disch:=((try simp only[zc,ze,zf]);omega));first|done| ((first|simp only[zo,zm,zn,zk,zl,zh]|simp only[zj,zi]|rw[zg]);split)|skip)| ((first|simp only[zo,zm,zn,zk,zl,zh]|simp only[zj,zi]|rw[zg]);split))
   exact hk _ _ ⟨by simp,fun q hq=>by rw[get_new,if_neg (by omega)],.inl ⟨rfl,.inr ⟨_,_,rfl⟩⟩⟩
  obtain⟨n,o,h1,h2⟩:=run_wp rfl rfl hw hr hv
  refine⟨n+9,o,?_,h2⟩
  rw[show n+9=n+8+1 from rfl,e1]
  have h3:(E F n (.code (.seq (.ops r_k_4) (bs [2]) .ret) (zbD [.slice (some a) 0 cap] 0 .nil) h)).bind (bodyK (E F n) [.tmp (bits 2)] none)=some o:=h1 n (Nat.le_refl _)
  obtain⟨o1,g1,g2⟩:=aof h3
  have h4:E F (n+8) (.code c_k (zbD [.slice (some a) 0 cap] 0 .nil) h)=E F (n+6) (.code (.seq (.ops r_k_4) (bs [2]) .ret) (zbD [.slice (some a) 0 cap] 0 .nil) h):=rfl
  show(E F (n+8) (.code c_k (zbD [.slice (some a) 0 cap] 0 .nil) h)).bind (bodyK (E F (n+8)) [.tmp (bits 2)] none)=some o
  rw[h4,E_up (show n≤n+6 by omega) g1,Option.bind_some,←g2]
  cases o1<;>rfl
theorem eq_nlst (x:List DV) (r:List (List DV)):binD .eql .slice (.lst 3 (x::r)) .nilS=some (.bool false):=rfl
theorem clone_ok (l:List Edge) (hl:l.length≤1000000) (hk: ∀d M',Clo M d M' l→k d M'):zA F (.fn n_k [] []) [.lst 3 (l.map zE)] M k kp:=by
 cases l with
 |nil=>exact clone0 hk
 |cons e r=>
  have hlen:r.length+1≤1000000:=hl
  refine .fn zbj rfl (by simp[f_k]) ?_
  repeat' (first| (simp(disch:=((try simp only[zc,ze,zf]);omega)) [eq_nlst];first|done| ((first|simp only[zo,zm,zn,zk,zl,zh]|simp only[zj,zi]|rw[zg]);split)|skip)| ((first|simp only[zo,zm,zn,zk,zl,zh]|simp only[zj,zi]|rw[zg]);split))
  have hc:((zE e::r.map zE).all fun r=>r.all zJ)=true:=by
   rw[List.all_eq_true];intro x hx
   have hx:x∈(e::r).map zE:=hx
   obtain⟨q,_,rfl⟩:=List.mem_map.1 hx
   rfl
  have hap:bltD (M.new (.rows false 3 [])) (.append 3 24) [.ms M.next 0 0 0,.lst 3 (zE e::r.map zE)]=some (.ms (M.next+1) 0 (r.length+1) zp,(M.new (.rows false 3 [])).new (.rows true 3 (zE e::r.map zE))):=by
   rw[zb2,if_pos ⟨by decide,by decide⟩,zg0,if_pos rfl,zc5,if_pos hc,zbI,if_neg (by simp),if_pos (by simp;omega),zhn,zcN]
   unfold zcA
   dsimp only
   rw[if_pos ⟨rfl,by simp⟩,if_pos (by decide),if_neg (by simp)]
   unfold zfF
   simp
  repeat' (first| (simp(disch:=((try simp only[zc,ze,zf]);omega)) [hap];first|done| ((first|simp only[zo,zm,zn,zk,zl,zh]|simp only[zj,zi]|rw[zg]);split)|skip)| ((first|simp only[zo,zm,zn,zk,zl,zh]|simp only[zj,zi]|rw[zg]);split))
  exact hk _ _ ⟨by simp;omega,fun q hq=>by rw[get_new,if_neg (by simp;omega),get_new,if_neg (by omega)],.inr ⟨M.next+1,by omega,by simp,rfl,zhn (M:=M.new (.rows false 3 [])) _⟩⟩
end Go.Ideal.S
namespace Go.Ideal.S
open Go Go.Ideal Q Classical
attribute [local simp] decide_eq_true decide_eq_false zK
attribute [local simp] c_c f_c r_c_1 r_c_2 r_c_3 r_c_4 r_c_5 r_c_6 r_c_7 r_c_8 r_c_9 r_c_10 r_c_11 r_c_13 r_c_14 c_d f_d r_d_1 r_d_2 r_d_3 r_d_4 r_d_5 r_d_6 r_d_7 r_d_9
variable {M:VM} {k kp:DV→VM→Prop} {n0:Nat}
theorem indexEm_ok {j:Nat} (l:List Edge) (f:DV) (p:Edge→Bool) (h2:l.length≤1000000) (ho:M.obj j=some (.rows true 3 (l.map zE))) (hc: ∀x∈l,∀{k kp:DV→VM→Prop},k (.bool (p x)) M→zA F f [.agg (zE x)] M k kp) (hk:k (I (idxR p l 0)) M):zA F (.fn n_d [] []) [.ms j 0 l.length zp,f] M k kp:=by
 apply zA.back
 refine .fn zN rfl (by simp[f_d]) ?_
 repeat' (first| (simp(disch:=((try simp only[zc,ze,zf]);omega));first|done| ((first|simp only[zo,zm,zn,zk,zl,zh]|simp only[zj,zi]|rw[zg]);split)|skip)| ((first|simp only[zo,zm,zn,zk,zl,zh]|simp only[zj,zi]|rw[zg]);split))
 refine .for (σ:=Unit) c_d_8.eq_1 (fun i _=>[(8,I i)]) (fun _=>M) (fun i _=>idxR p (l.drop i) i=idxR p l 0) l.length () (by simp) rfl (by simp) (fun i _ hi hP again=> ?_) (fun _ hP=> ?_)
 ·rw[List.drop_eq_getElem_cons hi,idxR] at hP
  repeat' (first| (simp(disch:=((try simp only[zc,ze,zf]);omega)) [hi,ho,zE];first|done| ((first|simp only[zo,zm,zn,zk,zl,zh]|simp only[zj,zi]|rw[zg]);split)|skip)| ((first|simp only[zo,zm,zn,zk,zl,zh]|simp only[zj,zi]|rw[zg]);split))
  refine hc l[i] (List.getElem_mem hi) ?_
  cases h:p l[i] with
  |true=>
   rw[if_pos h] at hP
   rw[←hP] at hk
   clear again
   repeat' (first| (simp(disch:=((try simp only[zc,ze,zf]);omega)) [h];first|done| ((first|simp only[zo,zm,zn,zk,zl,zh]|simp only[zj,zi]|rw[zg]);split)|skip)| ((first|simp only[zo,zm,zn,zk,zl,zh]|simp only[zj,zi]|rw[zg]);split))
   exact Back.plain (by simp) (by repeat' (first|assumption|exact zr _ _|apply zu|apply zw|apply zy| ((try simp only[zc,ze,zf]);omega))) hk
  |false=>
   rw[if_neg (by simp[h])] at hP
   have again:=again () hP
   simp at again
   clear hk
   repeat' (first| (simp(disch:=((try simp only[zc,ze,zf]);omega)) [h];first|done| ((first|simp only[zo,zm,zn,zk,zl,zh]|simp only[zj,zi]|rw[zg]);split)|skip)| ((first|simp only[zo,zm,zn,zk,zl,zh]|simp only[zj,zi]|rw[zg]);split))
   exact again
 ·rw[List.drop_length,idxR] at hP
  rw[←hP] at hk
  repeat' (first| (simp(disch:=((try simp only[zc,ze,zf]);omega));first|done| ((first|simp only[zo,zm,zn,zk,zl,zh]|simp only[zj,zi]|rw[zg]);split)|skip)| ((first|simp only[zo,zm,zn,zk,zl,zh]|simp only[zj,zi]|rw[zg]);split))
  exact Back.plain (by simp) (by repeat' (first|assumption|exact zr _ _|apply zu|apply zw|apply zy| ((try simp only[zc,ze,zf]);omega))) hk
structure DelR (M:VM) (j:Nat) (l:List Edge) (p:Edge→Bool) (t:Nat) (y:VM) (m g:List Edge):Prop where
 nx:M.next≤y.next
 fr: ∀q,q≠j→q<M.next→y.get q=M.get q
 ob:y.obj j=some (.rows true 3 ((m++(g++l.drop t)).map zE))
 kept:m=(l.take t).filter fun x=> !p x
 len:m.length+g.length=t
 ne:g≠[]
theorem idxR_neg (p:Edge→Bool): ∀(l:List Edge) (i:Nat),idxR p l i= -1∧(l.filter fun x=> !p x)=l∨ ∃(t:Nat) (h:t<l.length),idxR p l i=((i+t:Nat):Int)∧p l[t]=true∧(∀x∈l.take t,p x=false)
 | [],i=>.inl ⟨rfl,rfl⟩
 |x::l,i=>by
  unfold idxR
  cases h:p x with
  |true=>exact .inr ⟨0,by simp,by simp,h,by simp⟩
  |false=>
   rw[if_neg (by simp)]
   rcases idxR_neg p l (i+1) with⟨h1,h2⟩| ⟨t,h1,h2,h3,h4⟩
   ·exact .inl ⟨h1,by simp[h,h2]⟩
   ·exact .inr ⟨t+1,by simp;omega,by rw[h2];congr 1;omega,h3,fun y hy=>by
     rw[List.take_succ_cons] at hy
     rcases List.mem_cons.1 hy with rfl|hy
     ·exact h
     ·exact h4 y hy⟩
theorem deleteF_ok {j:Nat} (l:List Edge) (f:DV) (p:Edge→Bool) (h2:l.length≤100000) (hj:j<M.next) (ho:M.obj j=some (.rows true 3 (l.map zE)))
 (hc: ∀x∈l,∀{y:VM} {k kp:DV→VM→Prop},M.next≤y.next→(∀q,q≠j→q<M.next→y.get q=M.get q)→k (.bool (p x)) y→zA F f [.agg (zE x)] y k kp)
 (hk: ∀M',M.next≤M'.next→(∀q,q≠j→q<M.next→M'.get q=M.get q)→(∃r,M'.obj j=some (.rows true 3 ((l.filter fun x=> !p x).map zE++r)))→k (.ms j 0 (l.filter fun x=> !p x).length zp) M'):zA F (.fn n_c [] []) [.ms j 0 l.length zp,f] M k kp:=by
 have hoc:l.length<zp:=by unfold zp;omega
 refine .fn z9 rfl (by simp[f_c]) ?_
 repeat' (first| (simp(disch:=((try simp only[zc,ze,zf]);omega));first|done| ((first|simp only[zo,zm,zn,zk,zl,zh]|simp only[zj,zi]|rw[zg]);split)|skip)| ((first|simp only[zo,zm,zn,zk,zl,zh]|simp only[zj,zi]|rw[zg]);split))
 refine indexEm_ok l f p (by omega) ho (fun x hx {k kp} hk=>hc x hx (Nat.le_refl _) (fun _ _ _=>rfl) hk) ?_
 rcases idxR_neg p l 0 with⟨e1,e2⟩| ⟨t,ht,e1,e2,e3⟩
 ·rw[e1]
  rw[e2] at hk
  repeat' (first| (simp(disch:=((try simp only[zc,ze,zf]);omega));first|done| ((first|simp only[zo,zm,zn,zk,zl,zh]|simp only[zj,zi]|rw[zg]);split)|skip)| ((first|simp only[zo,zm,zn,zk,zl,zh]|simp only[zj,zi]|rw[zg]);split))
  exact hk _ (Nat.le_refl _) (fun _ _ _=>rfl) ⟨[],by rw[List.append_nil];exact ho⟩
 ·rw[e1,Nat.zero_add]
  have ne: ¬(t:Int)= -1:=by omega
  repeat' (first| (simp(disch:=((try simp only[zc,ze,zf]);omega)) [ne];first|done| ((first|simp only[zo,zm,zn,zk,zl,zh]|simp only[zj,zi]|rw[zg]);split)|skip)| ((first|simp only[zo,zm,zn,zk,zl,zh]|simp only[zj,zi]|rw[zg]);split))
  refine .for (σ:=VM×List Edge×List Edge) c_c_12.eq_1 (fun i z=>[(6,I ((t+1+i:Nat):Int)),(5,I z.2.1.length)]) (fun z=>z.1) (fun i z=>DelR M j l p (t+1+i) z.1 z.2.1 z.2.2) (l.length - (t+1)) (M,l.take t,[l[t]]) ?_ rfl ?_ (fun i z hi hP again=> ?_) (fun z hP=> ?_)
  ·simp[Nat.min_eq_left (Nat.le_of_lt ht)]
  ·refine⟨Nat.le_refl _,fun _ _ _=>rfl,?_,?_,by simp[Nat.min_eq_left (Nat.le_of_lt ht)],by simp⟩
   ·rw[ho,List.singleton_append,Nat.add_zero,←List.drop_eq_getElem_cons ht,List.take_append_drop]
   ·rw[Nat.add_zero,List.take_succ_eq_append_getElem ht,List.filter_append]
    have:(l.take t).filter (fun x=> !p x)=l.take t:=List.filter_eq_self.2 fun x hx=>by simp[e3 x hx]
    rw[this];simp[e2]
  ·obtain⟨y,m,g⟩:=z
   obtain⟨p1,p2,p3,p4,p5,p6⟩:=hP
   dsimp only at*
   generalize hu:t+1+i=u at*
   have hul:u<l.length:=by omega
   have hlen:(m++(g++l.drop u)).length=l.length:=by simp;omega
   have hset:(m++(g++l.drop u)).set m.length l[u]=(m++[l[u]])++((g.tail++[l[u]])++l.drop (u+1)):=by
    rw[List.set_append_right _ _ (Nat.le_refl _),Nat.sub_self,List.append_assoc]
    congr 1
    cases g with
    |nil=>exact absurd rfl p6
    |cons a g=>
     rw[List.drop_eq_getElem_cons hul]
     simp
   have hkeep:m++(g++l.drop u)=m++((g++[l[u]])++l.drop (u+1)):=by
    rw[List.drop_eq_getElem_cons hul];simp
   have hg1:g.tail.length=g.length - 1:=List.length_tail
   have hg2:0<g.length:=List.length_pos_iff.2 p6
   have hfil:(l.take (u+1)).filter (fun x=> !p x)=m++if p l[u] then[] else[l[u]]:=by
    rw[List.take_succ_eq_append_getElem hul,List.filter_append,←p4]
    cases h:p l[u]<;>simp[h]
   have hul2:u<(m++(g++l.drop u)).length:=by omega
   have hat: ∀h:u<(m++(g++l.drop u)).length,(m++(g++l.drop u))[u]=l[u]:=fun _=>by
    rw[List.getElem_append_right (by omega),List.getElem_append_right (by omega),List.getElem_drop]
    congr 1;omega
   generalize m++(g++l.drop u)=R at*
   have hat:=hat hul2
   have hml:m.length<R.length:=by omega
   have hjy:j≠y.next:=by omega
   repeat' (first| (simp(disch:=((try simp only[zc,ze,zf]);omega)) [hul,hul2,p3,hat,zE,hjy];first|done| ((first|simp only[zo,zm,zn,zk,zl,zh]|simp only[zj,zi]|rw[zg]);split)|skip)| ((first|simp only[zo,zm,zn,zk,zl,zh]|simp only[zj,zi]|rw[zg]);split))
   obtain⟨y1,hy1⟩: ∃y1,y1=(y.new (.rows false 3 [[.int .i64 0,.int .i64 0,.int .i64 0]])).put y.next (.rows false 3 [[I l[u].f,I l[u].a,I l[u].t]]):=⟨_,rfl⟩
   have n1:M.next≤y1.next:=by rw[hy1];simp;omega
   have f1: ∀q,q≠j→q<M.next→y1.get q=M.get q:=fun q h1 h2=>by rw[hy1,get_put,if_neg (by omega),get_new,if_neg (by omega)];exact p2 q h1 h2
   have b1:y1.obj j=some (.rows true 3 (R.map zE)):=by rw[hy1];simp[hjy,p3]
   have b2:y1.obj y.next=some (.rows false 3 [[I l[u].f,I l[u].a,I l[u].t]]):=by rw[hy1];simp
   rw[←hy1]
   clear hy1
   rw[show t+1+(i+1)=u+1 by omega] at again
   refine hc l[u] (List.getElem_mem hul) n1 f1 ?_
   have eu:((u+1:Nat):Int)=(u:Int)+1:=by omega
   cases hp:p l[u] with
   |true=>
    rw[hp,if_pos rfl,List.append_nil] at hfil
    have again:=again (y1,m,g++[l[u]]) ⟨n1,f1,by rw[b1,hkeep],hfil.symm,by simp;omega,by simp⟩
    simp at again
    repeat' (first| (simp(disch:=((try simp only[zc,ze,zf]);omega));first|done| ((first|simp only[zo,zm,zn,zk,zl,zh]|simp only[zj,zi]|rw[zg]);split)|skip)| ((first|simp only[zo,zm,zn,zk,zl,zh]|simp only[zj,zi]|rw[zg]);split))
    exact again
   |false=>
    rw[hp,if_neg (by simp)] at hfil
    have hmlen:m.length<l.length:=by omega
    have again:=again (y1.put j (.rows true 3 ((R.map zE).set m.length (zE l[u]))),m++[l[u]],g.tail++[l[u]]) ⟨by simp;omega,fun q h1 h2=>by rw[get_put,if_neg h1];exact f1 q h1 h2,by rw[←List.map_set,hset];simp,hfil.symm,by simp;omega,by simp⟩
    simp at again
    have hwr: ∀e:Edge,zba (zE e) 0 [I l[u].f,I l[u].a,I l[u].t]=some (zE l[u]):=fun e=>rfl
    repeat' (first| (simp(disch:=((try simp only[zc,ze,zf]);omega)) [hml,hmlen,b1,b2,hwr];first|done| ((first|simp only[zo,zm,zn,zk,zl,zh]|simp only[zj,zi]|rw[zg]);split)|skip)| ((first|simp only[zo,zm,zn,zk,zl,zh]|simp only[zj,zi]|rw[zg]);split))
    exact again
  ·obtain⟨y,m,g⟩:=z
   obtain⟨p1,p2,p3,p4,p5,p6⟩:=hP
   dsimp only at*
   have eu:t+1+(l.length - (t+1))=l.length:=by omega
   rw[eu] at p3 p4 p5
   rw[List.take_length] at p4
   rw[List.drop_length,List.append_nil] at p3
   have hg2:0<g.length:=List.length_pos_iff.2 p6
   have hml:m.length≤l.length:=by omega
   have hz: ¬l.length - m.length=0:=by omega
   have hR:(m++g).length=l.length:=by simp;omega
   have hz2:m.length+(l.length - m.length)≤(m++g).length:=by omega
   rw[eu]
   rw[←p4] at hk
   clear p4
   have hz3:l.length≤m.length+g.length:=by omega
   have hm2:(m.length:Int)≤l.length:=by omega
   have hpl:m.length≤(zP (m.map zE++g.map zE) (List.replicate (l.length - m.length) [.int .i64 0,.int .i64 0,.int .i64 0]) m.length).length:=by unfold zP;simp
   repeat' (first| (simp(disch:=((try simp only[zc,ze,zf]);omega)) [p3,hml,hz,hz3,hR,hm2,hpl];first|done| ((first|simp only[zo,zm,zn,zk,zl,zh]|simp only[zj,zi]|rw[zg]);split)|skip)| ((first|simp only[zo,zm,zn,zk,zl,zh]|simp only[zj,zi]|rw[zg]);split))
   have hpr: ∃r,zP (m.map zE++g.map zE) (List.replicate (l.length - m.length) [.int .i64 0,.int .i64 0,.int .i64 0]) m.length=m.map zE++r:=⟨_,by
    unfold zP
    rw[List.take_append_of_le_length (by simp),List.take_of_length_le (by simp),List.append_assoc]⟩
   obtain⟨r,hr⟩:=hpr
   rw[hr]
   refine hk _ ?_ (fun q h1 h2=> ?_) ⟨r,?_⟩
   ·simp;omega
   ·rw[get_put,if_neg h1];exact p2 q h1 h2
   ·rw[zbh,if_pos rfl]
end Go.Ideal.S
namespace Go.Ideal.S
open Go Go.Ideal Q Classical
attribute [local simp] decide_eq_true decide_eq_false zK
variable {M:VM} {k kp:DV→VM→Prop}
section
attribute [local simp] f_X c_X r_X_1 r_X_2
theorem jS21_ok (g:Gr) (e:Edge) {pg pi pa:Nat} {x:Nat} {a:Int} (h1:pg<M.next) (h2:pi<M.next) (h3:pa<M.next) (o1:M.obj pg=some (.rows false 3 [eGr g])) (o2:M.obj pi=some (.rows false 1 [[I x]])) (o3:M.obj pa=some (.rows false 1 [[I a]])) (hx:x<g.es.length)
 (hk:k (.bool (decide (e.f=g.es[x].f)&&decide (e.a=a))) M):zA F (.fn n_X [] [.ptr pg 0 0,.ptr pi 0 0,.ptr pa 0 0]) [.agg (zE e)] M k kp:=by
 apply zA.back
 refine .fn zcQ rfl (by simp[f_X]) ?_
 have q1:pg≠M.next:=by omega
 have q2:pi≠M.next:=by omega
 have q3:pa≠M.next:=by omega
 by_cases c:e.f=g.es[x].f
 ·rw[decide_eq_true c,Bool.true_and] at hk
  repeat' (first| (simp(disch:=((try simp only[zc,ze,zf]);omega)) [zE,o1,o2,o3,q1,q2,q3,eGr,hx,c];first|done| ((first|simp only[zo,zm,zn,zk,zl,zh]|simp only[zj,zi]|rw[zg]);split)|skip)| ((first|simp only[zo,zm,zn,zk,zl,zh]|simp only[zj,zi]|rw[zg]);split))
  exact Back.plain (by simp) (by repeat' (first|assumption|exact zr _ _|apply zu|apply zw|apply zy| ((try simp only[zc,ze,zf]);omega))) hk
 ·rw[decide_eq_false c,Bool.false_and] at hk
  repeat' (first| (simp(disch:=((try simp only[zc,ze,zf]);omega)) [zE,o1,o2,o3,q1,q2,q3,eGr,hx,c];first|done| ((first|simp only[zo,zm,zn,zk,zl,zh]|simp only[zj,zi]|rw[zg]);split)|skip)| ((first|simp only[zo,zm,zn,zk,zl,zh]|simp only[zj,zi]|rw[zg]);split))
  exact Back.plain (by simp) (by repeat' (first|assumption|exact zr _ _|apply zu|apply zw|apply zy| ((try simp only[zc,ze,zf]);omega))) hk
end
section
attribute [local simp] f_E c_E r_X r_E_2
theorem jS2_ok (g:Gr) (hl:g.es.length≤1000000) {pg pa:Nat} {x:Nat} {a:Int} (h1:pg<M.next) (h3:pa<M.next) (o1:M.obj pg=some (.rows false 3 [eGr g])) (o3:M.obj pa=some (.rows false 1 [[I a]])) (hx:x<g.es.length)
 (hk:k (.bool (g.es.any fun e=>decide (e.f=g.es[x].f)&&decide (e.a=a))) M):zA F (.fn n_E [] [.ptr pg 0 0,.ptr pa 0 0]) [I x] M k kp:=by
 apply zA.back
 refine .fn zc2 rfl (by simp[f_E]) ?_
 have q1:pg≠M.next:=by omega
 have q3:pa≠M.next:=by omega
 repeat' (first| (simp(disch:=((try simp only[zc,ze,zf]);omega)) [o1,q1,eGr];first|done| ((first|simp only[zo,zm,zn,zk,zl,zh]|simp only[zj,zi]|rw[zg]);split)|skip)| ((first|simp only[zo,zm,zn,zk,zl,zh]|simp only[zj,zi]|rw[zg]);split))
 refine zfn g.es _ (fun e=>decide (e.f=g.es[x].f)&&decide (e.a=a)) hl (fun e he {k kp} hk=>jS21_ok g e (x:=x) (by simp;omega) (by simp) (by simp;omega) (by simp[q1,o1]) (by simp) (by simp[q3,o3]) hx hk) ?_
 repeat' (first| (simp(disch:=((try simp only[zc,ze,zf]);omega));first|done| ((first|simp only[zo,zm,zn,zk,zl,zh]|simp only[zj,zi]|rw[zg]);split)|skip)| ((first|simp only[zo,zm,zn,zk,zl,zh]|simp only[zj,zi]|rw[zg]);split))
 exact Back.plain (by simp) (by repeat' (first|assumption|exact zr _ _|apply zu|apply zw|apply zy| ((try simp only[zc,ze,zf]);omega))) hk
end
section
variable {g:Gr} {N s0 n:Nat} {last w:Int} {l:List Int} {s:Nat→Nat} {r:Nat→List Int}
theorem LgP.path2 (h:LgP g N s0 last n l s r) {t0:Nat} (hw: ∀u,∀(hu:u<l.length),t0≤u→(eAt g.es l[u]).a≠w): ∀(k t:Nat),t0≤t→t+k≤n→zhl g.es w (s t) ((l.drop t).take k)=s (t+k):=by
 intro k
 induction k with
 |zero=>intro t _ _;rfl
 |succ k ih=>
  intro t h0 ht
  obtain⟨e,he,hl,h1,h2,_,h3,h4⟩:=h.at (t:=t) (by omega)
  have hx:=hw t hl h0
  rw[List.drop_eq_getElem_cons hl,List.take_succ_cons]
  show(if _∧_ then _ else _)=_
  rw[if_pos ⟨by rw[h2];exact h3,hx⟩,h2,h4,ih (t+1) (by omega) (by omega)]
  congr 2;omega
def opnL (g:Gr) (l:List Int) (a:Int):Bool:=l.any fun x=>g.es.any fun e=>decide (e.f=(eAt g.es x).f)&&decide (e.a=a)
theorem opnL_iff {g:Gr} {l:List Int} {a:Int}:opnL g l a=true↔ ∃x∈l,∃e∈g.es,e.f=(eAt g.es x).f∧e.a=a:=by
 unfold opnL
 simp[List.any_eq_true]
theorem ring_starv {g:Gr} {N s0 n:Nat} {a:Int} {l:List Int} {s:Nat→Nat} {r:Nat→List Int} (hK:zfv g a) (h:RunR g N s0 a n l s r) {t:Nat} (ht:t<n) (hs:s t=s n) (hr:r t=r n) (hno: ∀x∈l.drop t,(eAt g.es x).a≠a):zkA g (l.drop t) a=(opnL g (l.drop t) a,0):=by
 have hg:=hK.1
 have hlen:=h.p.len;have hn:=h.n
 have hw: ∀u,∀(hu:u<l.length),t≤u→(eAt g.es l[u]).a≠a:=fun u hu h1=>hno _ (zhq hu h1)
 have hE:zb3 g.es (l.drop t):=fun x hx=>h.p.edges x (List.mem_of_mem_drop hx)
 obtain⟨e,he,hl0,h1,h2,_,h3,h4⟩:=h.p.at ht
 have hd:l.drop t=l[t]::l.drop (t+1):=List.drop_eq_getElem_cons hl0
 have hh:headF g.es (l.drop t)=s t:=by unfold headF;rw[hd];show(eAt g.es l[t]).f=_;rw[h2];exact h3
 have hp:=h.p.path2 hw (n - t) t (Nat.le_refl _) (by omega)
 rw[List.take_of_length_le (by rw[List.length_drop];omega),show t+(n - t)=n by omega,←hs] at hp
 unfold zkA
 rw[if_neg (by rw[List.length_drop];omega),if_pos ⟨hK,hE⟩]
 congr 1
 rw[Bool.eq_iff_iff,decide_eq_true_iff,opnL_iff]
 unfold StarvP
 rw[hh]
 constructor
 ·rintro⟨_,_,_,e,he,hon,hea⟩
  obtain⟨x,hx,hf⟩:=(onF_iff hg hE (hg.ok e he).f0).1 hon
  exact⟨x,hx,e,he,hf.symm,hea⟩
 ·rintro⟨x,hx,e,he,hf,hea⟩
  exact⟨(fun q=>by rw[hd] at q;cases q),hp,h.p.fairR hg ht hr,e,he,(onF_iff hg hE (hg.ok e he).f0).2 ⟨x,hx,hf.symm⟩,hea⟩
theorem ring_is {g:Gr} {N s0 n:Nat} {a:Int} {l:List Int} {s:Nat→Nat} {r:Nat→List Int} (hK:zfv g a) (hre:Star (Rall g (-1)) 0 s0) (h:RunR g N s0 a n l s r) {t:Nat} (ht:t<n) (hs:s t=s n) (hr:r t=r n) (hno: ∀x∈l.drop t,(eAt g.es x).a≠a) (ho:opnL g (l.drop t) a=true):zit g a:=by
 have hg:=hK.1
 have hlen:=h.p.len
 have hw: ∀u,∀(hu:u<l.length),t≤u→(eAt g.es l[u]).a≠a:=fun u hu h1=>hno _ (zhq hu h1)
 obtain⟨x,hx,e,he,hf,hea⟩:=opnL_iff.1 ho
 obtain⟨u,hu,h1,rfl⟩:=at_drop hx
 obtain⟨q,hq,_,g1,g2,g3,g4,g5⟩:=h.p.at (t:=u) (by omega)
 rw[g2,g4] at hf
 have o1:=(hg.ok e he).t0
 have hC:=h.p.core hg ht hs hr hw (.inl rfl) (st:=true) (.inl ⟨rfl,s u,e.t.toNat,⟨e,he,hf,hea,by omega⟩,zjl ht hs h1 (by omega)⟩)
 have hrr:Star (Rall g (-1)) s0 (s t):=h.p.reach (fun x hx=>by
  obtain⟨v,hv,rfl⟩:=List.getElem_of_mem hx
  obtain⟨e2,he2,_,_,i2,_⟩:=h.p.at (t:=v) (by omega)
  rw[i2];have:=(hg.ok _ (List.getElem_mem he2)).a0;omega) (Nat.le_of_lt ht)
 exact⟨s t,⟨_,hC,fun _ _=>trivial,zjl ht hs (Nat.le_refl _) (by omega)⟩,hre.trans hrr⟩
end
end Go.Ideal.S
