/- A part of the proof: the ideal machine, and what the functions of the program answer over it. -/
import Derived.Test.YtjkoholloclgeaaGreatDoorE
set_option linter.unusedSimpArgs false
set_option linter.unusedVariables false
set_option linter.unusedSectionVars false
set_option maxRecDepth 10000
set_option maxHeartbeats 1000000
namespace Go.Ideal.S
open Go Go.Ideal Q Classical
def Qu (bad:Nat→Prop) (y:VM) (d:DV) (l:List Nat):Prop:= ∃j lo cap rs op,d=.ms j lo l.length cap∧ ¬bad j∧j<y.next∧y.obj j=some (.rows op 1 rs)∧(∀i (hi:i<l.length),rs[lo+i]? =some [I (l[i]:Nat)])∧lo+l.length≤rs.length∧
 (op=true∧cap=zo∧lo+l.length=rs.length∨op=false∧cap=l.length∧cap<zo)
section
variable {bad bad':Nat→Prop} {y y':VM} {d:DV} {l:List Nat} {x:Nat}
theorem Qu.keep (h:Qu bad y d l) (hn:y.next≤y'.next) (ho: ∀j,j<y.next→ ¬bad j→y'.get j=y.get j) (hb: ∀j,j<y.next→bad' j→bad j):Qu bad' y' d l:=by
 obtain⟨j,lo,cap,rs,op,h1,h2,h3,h4,h5,h5',h6⟩:=h
 refine⟨j,lo,cap,rs,op,h1,fun hh=>h2 (hb j h3 hh),by omega,?_,h5,h5',h6⟩
 rw[←h4];show(y'.get j).map _=(y.get j).map _;rw[ho j h3 h2]
theorem Qu.put (h:Qu bad y d l) {j:Nat} (hj:bad j) (o:MO):Qu bad (y.put j o) d l:=h.keep (by simp) (fun i _ hi=>by rw[get_put,if_neg (by rintro rfl;exact hi hj)]) fun _ _ h=>h
theorem Qu.cell (h:Qu bad y d l):zS d=[d]∧zL d=true∧lenD y d=some l.length:=by
 obtain⟨j,lo,cap,rs,op,rfl,_⟩:=h;exact⟨rfl,rfl,rfl⟩
theorem Qu.head (h:Qu bad y d (x::l)): ∃j lo op rs,zkj 1 y (I 0) d=some (.ptr j lo 0)∧y.obj j=some (.rows op 1 rs)∧rs[lo]? =some [I x]:=by
 obtain⟨j,lo,cap,rs,op,rfl,h2,h3,h4,h5,h5',h6⟩:=h
 refine⟨j,lo,op,rs,?_,h4,h5 0 (by simp)⟩
 rw[addrD_ms,h4,adO_some,if_pos ⟨rfl,by simp,by simp⟩];rfl
theorem Qu.tail (h:Qu bad y d (x::l)): ∃d',sliceD 1 y (some (I 1)) none d=some d'∧Qu bad y d' l:=by
 obtain⟨j,lo,cap,rs,op,rfl,h2,h3,h4,h5,h5',h6⟩:=h
 rw[List.length_cons] at h5' h6⊢
 rcases h6 with⟨rfl,rfl,h6⟩| ⟨rfl,rfl,h6⟩
 ·refine⟨.ms j (lo+1) l.length zo,?_,j,lo+1,zo,rs,true,rfl,h2,h3,h4,fun i hi=> ?_,by omega,.inl ⟨rfl,rfl,by omega⟩⟩
  ·rw[sliceD_ms,h4,slM_true,if_pos ⟨rfl,rfl,by omega⟩,zjN,slT_some,zjM,if_pos ⟨by omega,by omega⟩];rfl
  ·have:=h5 (i+1) (by simp;omega)
   rw[show lo+1+i=lo+(i+1) by omega,this];rfl
 ·refine⟨.ms j (if l.length+1=1 then lo else lo+1) l.length l.length,?_,j,_,_,rs,false,rfl,h2,h3,h4,fun i hi=> ?_,?_,.inr ⟨rfl,rfl,by omega⟩⟩
  ·rw[sliceD_ms,h4,slM_false,if_pos ⟨rfl,h6⟩,zjN,slF_some,zjM,if_pos ⟨by omega,by omega⟩];rfl
  ·have:=h5 (i+1) (by simp;omega)
   rw[if_neg (by omega),show lo+1+i=lo+(i+1) by omega,this];rfl
  ·split<;>omega
theorem Rs_qpush {X:RnD} {fr:FrC} {jb:Nat} {dst:Option (List Bool)} {r:List CI} {sl:DS} (h:Qu bad y d l) (hl:l.length≤1000000) (hY: ¬bad y.next) (hb:y.obj jb=some (.rows false 1 [[I (x:Nat)]]))
 (k: ∀d' y',Qu bad y' d' (l++[x])→y.next≤y'.next→(∀j,j<y.next→bad j→y'.get j=y.get j)→ @Op X fr r (zbp dst d' sl) y'): @Rs X fr (bltD y (.append 1 8) [d,.ms jb 0 1 1]) dst r sl:=by
 rw[zdf,if_pos ⟨by decide,by decide⟩,zdI,hb]
 rw[show elO 1 0 1 (some (MO.rows false 1 [[I (x:Nat)]]))=some [[I (x:Nat)]] from by simp,zft,if_pos (by simp)]
 obtain⟨j,lo,cap,rs,op,rfl,h2,h3,h4,h5,h5',h6⟩:=h
 have hnew: ∀(y2:VM) (nx:y2.next=y.next),Qu bad (y2.new (.rows true 1 ((rs.drop lo).take l.length++[[I (x:Nat)]]))) (.ms y.next 0 ((rs.drop lo).take l.length++[[I (x:Nat)]]).length zo) (l++[x]):=fun y2 nx=>by
  have hlen:((rs.drop lo).take l.length).length=l.length:=by
   rw[List.length_take,List.length_drop]
   omega
  refine⟨y.next,0,zo,_,true,?_,hY,by simp[nx],by rw[←nx];simp;rfl,fun i hi=> ?_,?_,.inl ⟨rfl,rfl,?_⟩⟩
  ·simp[hlen]
  ·rw[Nat.zero_add]
   rw[List.length_append,List.length_singleton] at hi
   by_cases c:i<l.length
   ·rw[List.getElem?_append_left (by omega),List.getElem?_take,if_pos c,List.getElem?_drop,h5 i c,List.getElem_append_left c]
   ·have:i=l.length:=by omega
    subst this
    rw[List.getElem?_append_right (by omega),hlen];simp
  ·simp[hlen]
  ·simp[hlen]
 rcases h6 with⟨rfl,rfl,h6⟩| ⟨rfl,rfl,h6⟩
 ·have e:zbj 1 8 y [[I (x:Nat)]] (.ms j lo l.length zo)=some (.ms y.next 0 ((rs.drop lo).take l.length++[[I (x:Nat)]]).length zo,(y.del j).new (.rows true 1 ((rs.drop lo).take l.length++[[I (x:Nat)]]))):=by
   rw[zcE,if_neg (by simp),if_pos (by simp;omega),h4,zez,zcr,if_pos ⟨rfl,by omega⟩,if_neg (by simp;omega)]
  rw[e]
  refine k _ _ (hnew _ rfl) (by simp) fun i hi hbi=> ?_
  rw[get_new,if_neg (by simp;omega),zc9,if_neg (by rintro rfl;exact h2 hbi)]
 ·have e:zbj 1 8 y [[I (x:Nat)]] (.ms j lo l.length l.length)=some (.ms y.next 0 ((rs.drop lo).take l.length++[[I (x:Nat)]]).length zo,y.new (.rows true 1 ((rs.drop lo).take l.length++[[I (x:Nat)]]))):=by
   rw[zcE,if_neg (by simp),if_pos (by simp;omega),h4,zez]
   unfold zcH
   dsimp only
   rw[if_pos ⟨rfl,by omega⟩,if_pos h6,if_neg (by simp)];rfl
  rw[e]
  exact k _ _ (hnew _ rfl) (by simp) fun i hi _=>by rw[get_new,if_neg (by omega)]
end
end Go.Ideal.S
set_option maxHeartbeats 2000000
namespace Go.Ideal.S
open Go Go.Ideal Q Classical
attribute [local simp] decide_eq_true decide_eq_false zH
attribute [local simp] c_f f_f r_f_1 r_f_2 r_f_3 r_f_4 r_f_5 r_f_6 r_f_7 r_f_8 r_f_9 r_f_10 r_f_11 r_f_12 r_f_13 r_f_15 r_f_16 r_f_17 r_f_18 r_f_19 r_f_20 r_f_21 r_f_22 r_f_23 r_f_26
variable {M:VM} {k kp:DV→VM→Prop} {n0:Nat}
theorem Back.accT {B y M0:VM} {d e:DV} {rows:List (List DV)} (h:Acc B y d 1 rows) (hB:SM M0.next M0 B) (hn:M0.next≤B.next) (hb: ∀r∈rows,∀x∈r,zJ M0.next x) (he:zJ M0.next e) (hk:k (.tup [.lst 1 rows,e]) M0):Back k M0 (.tup [d,e]) y:=fun hw=>by
 refine⟨.tup [.lst 1 rows,e],.tup rfl fun i a b h1 h2=> ?_,.tup fun a ha=> ?_,fun j hj=>(h.sm j (by omega)).trans (hB j hj),hk⟩
 ·match i with
  |0=>
   cases h1;cases h2
   rcases h.v with⟨rfl,rfl⟩| ⟨j,op,cap,h1,h2,rfl,h4,_⟩
   ·exact .nilS 1
   ·exact .ms0 h4 (hw j (by omega)) rfl h.row
  |1=>cases h1;cases h2;exact .refl _
  |i+2=>simp at h1
 ·simp only[List.mem_cons,List.not_mem_nil,or_false] at ha
  rcases ha with rfl|rfl
  ·exact .lst hb
  ·exact he
structure PaM (bad:Nat→Prop) (B y:VM) (g:Gr) (mi:Nat) (w:Int) (N jb j12 j13 j14:Nat) (bf:Nat→Int) (m:Nat) (d:DV) (l:List Nat):Prop where
 sm:SM B.next B y
 nx:j14<y.next
 o5:y.obj B.next=some (grO g)
 o7:y.obj (B.next+1)=some (setO mi)
 o8:y.obj (B.next+2)=some (intO w)
 ob:y.obj jb=some (.rows false 1 (R1 bf N))
 o12:y.obj j12=some (.rows false 1 [[.ms jb 0 N N]])
 o13:y.obj j13=some (setO m)
 o14:y.obj j14=some (.rows false 1 [[d]])
 qu:Qu bad y d l
structure PaO (bad:Nat→Prop) (b jb j12 j13 j14:Nat):Prop where
 h1:b+3≤jb
 h2:jb<j12
 h3:j12<j13
 h4:j13<j14
 b1: ∀j,j≤j13→bad j
 b2:bad j14
section
variable {bad:Nat→Prop} {B y y':VM} {g:Gr} {mi:Nat} {w:Int} {N jb j12 j13 j14:Nat} {bf:Nat→Int} {m:Nat} {d:DV} {l:List Nat}
theorem PaM.frame (h:PaM bad B y g mi w N jb j12 j13 j14 bf m d l) (o:PaO bad B.next jb j12 j13 j14) (hn:y.next≤y'.next) (hf: ∀j,j<y.next→(j≤j14∨ ¬bad j)→y'.get j=y.get j):PaM bad B y' g mi w N jb j12 j13 j14 bf m d l:=by
 have a1:=o.h1;have a2:=o.h2;have a3:=o.h3;have a4:=o.h4;have a5:=h.nx
 have ob: ∀j o,j≤j14→y.obj j=some o→y'.obj j=some o:=fun j o hj e=>by
  rw[←e];show(y'.get j).map _=(y.get j).map _;rw[hf j (by omega) (.inl hj)]
 exact⟨fun j hj=>(hf j (by omega) (.inl (by omega))).trans (h.sm j hj),by omega,ob _ _ (by omega) h.o5,ob _ _ (by omega) h.o7,ob _ _ (by omega) h.o8,ob _ _ (by omega) h.ob,ob _ _ (by omega) h.o12,ob _ _ (by omega) h.o13,ob _ _ (by omega) h.o14,h.qu.keep hn (fun j h1 h2=>hf j h1 (.inr h2)) fun _ _ hb=>hb⟩
theorem PaM.new (h:PaM bad B y g mi w N jb j12 j13 j14 bf m d l) (o:PaO bad B.next jb j12 j13 j14) (ob:MO):PaM bad B (y.new ob) g mi w N jb j12 j13 j14 bf m d l:=
 h.frame o (by simp) fun j hj _=>by rw[get_new,if_neg (by omega)]
theorem PaM.setM (h:PaM bad B y g mi w N jb j12 j13 j14 bf m d l) (o:PaO bad B.next jb j12 j13 j14) (m':Nat):PaM bad B (y.put j13 (setO m')) g mi w N jb j12 j13 j14 bf m' d l:=by
 have a1:=o.h1;have a2:=o.h2;have a3:=o.h3;have a4:=o.h4;have a5:=h.nx
 exact⟨zu h.sm (by omega),by simp;omega,by simp(disch:=omega) [h.o5],by simp(disch:=omega) [h.o7],by simp(disch:=omega) [h.o8],by simp(disch:=omega) [h.ob],by simp(disch:=omega) [h.o12],by simp,by simp(disch:=omega) [h.o14],h.qu.put (o.b1 _ (Nat.le_refl _)) _⟩
theorem PaM.setB (h:PaM bad B y g mi w N jb j12 j13 j14 bf m d l) (o:PaO bad B.next jb j12 j13 j14) {R:List (List DV)} {bf':Nat→Int} (e:R=R1 bf' N):PaM bad B (y.put jb (.rows false 1 R)) g mi w N jb j12 j13 j14 bf' m d l:=by
 have a1:=o.h1;have a2:=o.h2;have a3:=o.h3;have a4:=o.h4;have a5:=h.nx
 exact⟨zu h.sm (by omega),by simp;omega,by simp(disch:=omega) [h.o5],by simp(disch:=omega) [h.o7],by simp(disch:=omega) [h.o8],by rw[e];simp,by simp(disch:=omega) [h.o12],by simp(disch:=omega) [h.o13],by simp(disch:=omega) [h.o14],h.qu.put (o.b1 _ (by omega)) _⟩
theorem PaM.setD (h:PaM bad B y g mi w N jb j12 j13 j14 bf m d l) (o:PaO bad B.next jb j12 j13 j14) {d':DV} {l':List Nat} (hq:Qu bad y d' l'):PaM bad B (y.put j14 (.rows false 1 [[d']])) g mi w N jb j12 j13 j14 bf m d' l':=by
 have a1:=o.h1;have a2:=o.h2;have a3:=o.h3;have a4:=o.h4;have a5:=h.nx
 exact⟨zu h.sm (by omega),by simp;omega,by simp(disch:=omega) [h.o5],by simp(disch:=omega) [h.o7],by simp(disch:=omega) [h.o8],by simp(disch:=omega) [h.ob],by simp(disch:=omega) [h.o12],by simp(disch:=omega) [h.o13],by simp,hq.put o.b2 _⟩
end
theorem PaM.push {bad:Nat→Prop} {B y y':VM} {g:Gr} {mi:Nat} {w:Int} {N jb j12 j13 j14:Nat} {bf:Nat→Int} {m:Nat} {d d':DV} {l l':List Nat} (h:PaM bad B y g mi w N jb j12 j13 j14 bf m d l) (o:PaO bad B.next jb j12 j13 j14) (hn:y.next≤y'.next) (hf: ∀j,j<y.next→bad j→y'.get j=y.get j) (hq:Qu bad y' d' l'):PaM bad B (y'.put j14 (.rows false 1 [[d']])) g mi w N jb j12 j13 j14 bf m d' l':=by
 have a1:=o.h1;have a2:=o.h2;have a3:=o.h3;have a4:=o.h4;have a5:=h.nx
 have ob: ∀j o2,j≤j13→y.obj j=some o2→(y'.put j14 (.rows false 1 [[d']])).obj j=some o2:=fun j o2 hj e=>by
  rw[z7,if_neg (by omega),←e]
  show(y'.get j).map _=(y.get j).map _
  rw[hf j (by omega) (o.b1 j hj)]
 exact⟨fun j hj=>by rw[get_put,if_neg (by omega),hf j (by omega) (o.b1 j (by omega))];exact h.sm j hj,by simp;omega,ob _ _ (by omega) h.o5,ob _ _ (by omega) h.o7,ob _ _ (by omega) h.o8,ob _ _ (by omega) h.ob,ob _ _ (by omega) h.o12,ob _ _ (Nat.le_refl _) h.o13,by simp,hq.put o.b2 _⟩
theorem PaM.bad2 {bad bad':Nat→Prop} {B y:VM} {g:Gr} {mi:Nat} {w:Int} {N jb j12 j13 j14:Nat} {bf:Nat→Int} {m:Nat} {d:DV} {l:List Nat} (h:PaM bad B y g mi w N jb j12 j13 j14 bf m d l) (hb: ∀j,j<y.next→bad' j→bad j):PaM bad' B y g mi w N jb j12 j13 j14 bf m d l:=
 ⟨h.sm,h.nx,h.o5,h.o7,h.o8,h.ob,h.o12,h.o13,h.o14,h.qu.keep (Nat.le_refl _) (fun _ _ _=>rfl) hb⟩
theorem path_out {B y:VM} {g:Gr} (hg:zbr g) {mi:Nat} {w:Int} {s0 N jb j12 x p:Nat} {bf:Nat→Int} {qs:List Nat} (hN:N≤1000) (hB:Bf g mi w s0 N bf qs) (hx:qs[p]? =some x)
 (o5:y.obj B.next=some (grO g)) (h12:y.obj j12=some (.rows false 1 [[.ms jb 0 N N]])) (hb:y.obj jb=some (.rows false 1 (R1 bf N))) (l1:B.next<y.next) (l2:j12<y.next) (l3:jb<y.next) {K:KD}
 (hk: ∀y' d' (o:List Int) s',Acc y y' d' 1 (o.map eInt)→Way g mi w s0 o.reverse x→o.length≤p→getS s' (bits 16)=some d'→K.ext 4 s' y'):
 zcs F n0 (bs [1,5,12,15,16]) c_f_14 K [(bits 1,I s0),(bits 5,.ptr B.next 0 0),(bits 12,.ptr j12 0 0),(bits 15,I x),(bits 16,.nilS)] y:=by
 refine .while (σ:=VM×Nat×Nat×DV×List Int) c_f_14.eq_1 (fun z=>[(15,I z.2.1),(16,z.2.2.2.1)]) (fun z=>z.1) (fun z=>Acc y z.1 z.2.2.2.1 1 (z.2.2.2.2.map eInt)∧qs[z.2.2.1]? =some z.2.1∧(∀l,Way g mi w s0 l z.2.1→Way g mi w s0 (l++z.2.2.2.2.reverse) x)∧z.2.2.2.2.length+z.2.2.1≤p) (fun z=>z.2.2.1) (y,x,p,.nilS,[]) (by simp) rfl ⟨Acc.nil y 1,hx,fun l h=>by simpa using h,by simp⟩ (fun z hP again=> ?_)
 obtain⟨y1,n,i,d,o⟩:=z
 obtain⟨h1,h2,h3,h4⟩:=hP
 dsimp only at*
 have hp:=(List.getElem?_eq_some_iff.1 hx).1
 obtain⟨hi,hin⟩:=List.getElem?_eq_some_iff.1 h2
 have hlen:=hB.len
 have q5:y1.obj B.next=some (grO g):=by rw[h1.obj l1];exact o5
 have q12:y1.obj j12=some (.rows false 1 [[.ms jb 0 N N]]):=by rw[h1.obj l2];exact h12
 have qb:y1.obj jb=some (.rows false 1 (R1 bf N)):=by rw[h1.obj l3];exact hb
 by_cases c:n=s0
 ·have hw:=h3 [] (c▸Way.nil)
  simp[c]
  exact hk _ d o _ h1 (by simpa using hw) (by omega) (by simp)
 ·have hi0:0<i:=by
   rcases Nat.eq_zero_or_pos i with rfl|h
   ·rw[hB.hd] at h2;cases h2;exact absurd rfl c
   ·exact h
  obtain⟨e,he,j,hj,e1,e2,e3,e4,e5⟩:=hB.lk i hi hi0
  rw[hin] at e1 e2 e5
  have hnN:n<N:=by rw[←hin];exact hB.lt _ (List.getElem_mem hi)
  have hcc: ¬(n:Int)=s0:=by omega
  have rb:=zcU (f:=bf) hnN
  rw[e1] at rb
  have hx1:=h1.nx
  simp(disch:=((try simp only[zc,ze,zf]);omega)) [hcc,q12,qb,rb,hnN]
  refine Rs_app (h1.new _) (new:=[eInt e]) (by simp[eInt]) (by decide) (by simp[eInt]) (by simp[eInt]) (by simp;omega) fun d' y2 hA=> ?_
  have hx2:=hA.nx
  have r5:y2.obj B.next=some (grO g):=by rw[hA.obj l1];exact o5
  have r12:y2.obj j12=some (.rows false 1 [[.ms jb 0 N N]]):=by rw[hA.obj l2];exact h12
  have rbb:y2.obj jb=some (.rows false 1 (R1 bf N)):=by rw[hA.obj l3];exact hb
  rw[show o.map eInt++[eInt e]=(o++[(e:Int)]).map eInt by rw[List.map_append];rfl] at hA
  have he':(e:Int)<g.es.length:=by omega
  simp at again
  simp(disch:=((try simp only[zc,ze,zf]);omega)) [r5,r12,rbb,rb,hnN,he,zF,e3]
  refine again y2 _ j d' (o++[(e:Int)]) hj hA ?_ (fun l hl=> ?_) ?_
  ·exact List.getElem?_eq_getElem _
  ·have:=h3 _ (hl.snoc e he e3 e4 n e2 e5)
   simpa using this
  ·simp;omega
end Go.Ideal.S
namespace Go.Ideal.S
open Go Go.Ideal Q Classical
attribute [local simp] decide_eq_true decide_eq_false zH
attribute [local simp] c_f f_f r_f_1 r_f_2 r_f_3 r_f_4 r_f_5 r_f_6 r_f_7 r_f_8 r_f_9 r_f_10 r_f_11 r_f_12 r_f_13 r_f_15 r_f_16 r_f_17 r_f_18 r_f_19 r_f_20 r_f_21 r_f_22 r_f_23 r_f_26
variable {M:VM} {k kp:DV→VM→Prop} {n0:Nat}
structure PaP (g:Gr) (mi:Nat) (w:Int) (s0 N:Nat) (q:Nat→Bool) (bf:Nat→Int) (m p:Nat) (qs:List Nat):Prop where
 bf:Bf g mi w s0 N bf qs
 lt:m<2^64
 seen: ∀v,m.testBit v=true↔v∈qs
 le:p≤qs.length
 no: ∀(i:Nat) (hi:i<qs.length),i<p→q qs[i]=false∧ ∀v,RF g (fun v=>mi.testBit v) w qs[i] v→v∈qs
theorem PaP.none {g:Gr} {mi:Nat} {w:Int} {s0 N:Nat} {q:Nat→Bool} {bf:Nat→Int} {m p:Nat} {qs:List Nat} (h:PaP g mi w s0 N q bf m p qs) (hp:p=qs.length) (n:Nat) (hn:Star (RF g (fun v=>mi.testBit v) w) s0 n):q n=false:=by
 subst hp
 have hin:n∈qs:=hn.keep (P:=fun v=>v∈qs) (fun a b ha r=>by
  obtain⟨i,hi,rfl⟩:=List.getElem_of_mem ha
  exact(h.no i hi hi).2 b r) (List.mem_of_getElem? h.bf.hd)
 obtain⟨i,hi,rfl⟩:=List.getElem_of_mem hin
 exact(h.no i hi hi).1
theorem jpath_ok {g:Gr} (hg:zbr g) {N:Nat} (hN:g.st=N) {mi:Nat} (hmi:mi<2^64) (w:Int) {s0:Nat} (hs0:s0<N) (f:DV) (q:Nat→Bool)
 (hq: ∀v,v<N→ ∀{M1:VM} {k kp:DV→VM→Prop},SM M.next M M1→M.next≤M1.next→k (.bool (q v)) M1→zy F f [I v] M1 k kp)
 (h1: ∀l n,Way g mi w s0 l n→q n=true→l.length<N→k (.tup [ints l,.bool true]) M)
 (h2:(∀n,Star (RF g (fun v=>mi.testBit v) w) s0 n→q n=false)→k (.tup [.nilS,.bool false]) M):zy F (.fn n_f [] []) [.agg (eGr g),I s0,Go.Ideal.S.setD mi,I w,f] M k kp:=by
 have g2:=hg.s2
 have g1:=hg.s1
 have hl:g.es.length≤1000000:=by have:=hg.el;omega
 apply zy.back
 refine .fn zhV rfl (by simp[f_f]) ?_
 simp(disch:=((try simp only[zc,ze,zf]);omega)) [eGr,hN]
 refine repeat_ok (-1) N _ (by omega) (by omega) (by simp) (by simp) fun M1 jb q1 q2 q3 q4=> ?_
 have o5:=zM (j:=M.next) q1 (by simp;omega) (o:=grO g) (by simp(disch:=((try simp only[zc,ze]);omega)) [hN])
 have o7:=zM (j:=M.next+1) q1 (by simp<;>omega) (o:=setO mi) (by simp(disch:=((try simp only[zc,ze]);omega)))
 have o8:=zM (j:=M.next+2) q1 (by simp) (o:=intO w) (by simp(disch:=((try simp only[zc,ze]);omega)))
 have hs1:SM M.next M M1:=zeB (show SM M.next M ((((M.new _).new _).new _).new _) from(by repeat' (first|assumption|exact zt _ _|apply zu|apply zx|apply zA| ((try simp only[zc,ze,zf]);omega)))) (zfh q1 (by simp;omega))
 have hjb:M.next+4≤jb:=by simpa using q2
 clear q1 q2
 simp
 refine zi3 0 s0 _ (by decide) (by omega) (by simp) ?_
 simp
 have hr1:List.replicate N [I (-1)]=R1 (fun _=> -1) N:=by unfold R1;rw[List.map_const',List.length_range]
 have ho:PaO (fun j=>j≤M1.next+2∨j=M1.next+5) M.next jb M1.next (M1.next+2) (M1.next+5):=⟨by omega,by omega,by omega,by omega,fun j h=>.inl h,.inr rfl⟩
 refine zcs.gen (Q:=fun y=>PaM (fun j=>j≤M1.next+2∨j=M1.next+5) M y g mi w N jb M1.next (M1.next+2) (M1.next+5) (fun _=> -1) (2^s0) (.ms (M1.next+4) 0 1 1) [s0]) ?_ fun y0 hy0=> ?_
 ·refine⟨(by repeat' (first|assumption|exact zt _ _|apply zu|apply zx|apply zA| ((try simp only[zc,ze,zf]);omega))),by simp,by simp(disch:=((try simp only[zc,ze]);omega)) [o5],by simp(disch:=((try simp only[zc,ze]);omega)) [o7],by simp(disch:=((try simp only[zc,ze]);omega)) [o8],by simp(disch:=((try simp only[zc,ze]);omega)) [q4,hr1],by simp(disch:=((try simp only[zc,ze]);omega)),by simp(disch:=((try simp only[zc,ze]);omega)),by simp(disch:=((try simp only[zc,ze]);omega)),M1.next+4,0,1,[[I s0]],false,rfl,by omega,by simp,by simp(disch:=((try simp only[zc,ze]);omega)),fun i hi=> ?_,by simp,.inr ⟨rfl,rfl,by simp⟩⟩
  obtain rfl:i=0:=by simpa using hi
  rfl
 have hP0:PaP g mi w s0 N q (fun _=> -1) (2^s0) 0 [s0]:=⟨Bf.one hs0 _,Nat.pow_lt_pow_right (by omega) (by omega),fun v=>by rw[Nat.testBit_two_pow];simp;exact⟨fun h=>h.symm,fun h=>h.symm⟩,by simp,fun i hi h=>by omega⟩
 have hbig: ∀j,M1.next+5<j→ ¬(fun j=>j≤M1.next+2∨j=M1.next+5) j:=fun j h hh=>by rcases hh with hh|hh<;>omega
 generalize (fun j=>j≤M1.next+2∨j=M1.next+5)=bad at*
 generalize DV.ms (M1.next+4) 0 1 1=d0 at*
 have e12:M1.next=M1.next:=rfl
 generalize hj13:M1.next+2=j13 at*
 generalize hj14:M1.next+5=j14 at*
 rw[show j13+1+1+1=j14 by omega]
 generalize M1.next=j12 at*
 clear q4 o5 o7 o8 hs1 e12 hr1
 have a1:=ho.h1;have a2:=ho.h2;have a3:=ho.h3;have a4:=ho.h4
 refine .while (σ:=VM×(Nat→Int)×Nat×Nat×List Nat×DV) c_f_25.eq_1 (fun _=>[]) (fun z=>z.1) (fun z=>PaM bad M z.1 g mi w N jb j12 j13 j14 z.2.1 z.2.2.1 z.2.2.2.2.2 (z.2.2.2.2.1.drop z.2.2.2.1)∧PaP g mi w s0 N q z.2.1 z.2.2.1 z.2.2.2.1 z.2.2.2.2.1) (fun z=>N - z.2.2.2.1) (y0,fun _=> -1,2^s0,0,[s0],d0) (by simp) rfl ⟨hy0,hP0⟩ (fun z hP again=> ?_)
 clear hy0 hP0
 obtain⟨y,bf,m,p,qs,d⟩:=z
 obtain⟨hM,hP⟩:=hP
 dsimp only at*
 have o14:=hM.o14
 obtain⟨cd1,cd2,cd3⟩:=hM.qu.cell
 have hqN:=hP.bf.len
 by_cases hp:p=qs.length
 ·have hl0:(qs.drop p).length=0:=by simp;omega
  rw[hl0] at cd3
  simp[o14,cd3]
  exact Back.plain (by simp) hM.sm (h2 (hP.none hp))
 ·have hp2:p<qs.length:=by have:=hP.le;omega
  have hdr:qs.drop p=qs[p]::qs.drop (p+1):=List.drop_eq_getElem_cons hp2
  have hxN:=hP.bf.lt _ (List.getElem_mem hp2)
  have hxq:qs[p]? =some qs[p]:=List.getElem?_eq_getElem hp2
  rw[hdr] at hM cd3
  have hqu:=hM.qu
  generalize hx:qs[p]=x at*
  obtain⟨jq,lo,op,rs,hh1,hh2,hh3⟩:=hqu.head
  obtain⟨d',ht1,ht2⟩:=hqu.tail
  obtain⟨ce1,ce2,_⟩:=ht2.cell
  rw[List.length_cons] at cd3
  have hpos:(0:Int)<(((qs.drop (p+1)).length+1:Nat):Int):=by omega
  have hM1:=hM.setD ho ht2
  simp[o14,cd3,hpos,hh1,hh2,hh3,ht1,ce1,ce2]
  generalize y.put j14 (.rows false 1 [[d']])=y1 at*
  refine hq x hxN hM1.sm (by have:=hM1.nx;omega) ?_
  cases hqx:q x with
  |true=>
   simp
   refine path_out hg (by omega) hP.bf hxq hM1.o5 hM1.o12 hM1.ob (by have:=hM1.nx;omega) (by have:=hM1.nx;omega) (by have:=hM1.nx;omega) fun y2 d2 o s' hA hw hlen hs'=> ?_
   simp[hs']
   refine reverse_ok hA (by omega) fun y3 hA3 hn3=> ?_
   simp
   exact Back.accT hA3 hM1.sm (by have:=hM1.nx;omega) (b_map b_Int _) (by simp) (h1 _ _ hw hqx (by simp;omega))
  |false=>
   have p5:=hM1.o5
   simp[p5]
   refine from_ok g x fun M3 j2 j3 t1 t2 t3 t4 t5 t6=> ?_
   have hnx:=hM1.nx
   simp
   have ho2:PaO (fun j=>bad j∨j=M3.next∨j=j2∨j=j3) M.next jb j12 j13 j14:=⟨a1,a2,a3,a4,fun j h=>.inl (ho.b1 j h),.inl ho.b2⟩
   refine from_rg g hl x (Y:=j2) (p:=65) (q:=66) (Nat.le_refl _) (by omega) (by omega) t4 t5 t6 rfl rfl rfl (fun e y=> ∃bf m d qs2,PaM (fun j=>bad j∨j=M3.next∨j=j2∨j=j3) M y g mi w N jb j12 j13 j14 bf m d (qs2.drop (p+1))∧Bf g mi w s0 N bf qs2∧m<2^64∧(∀v,m.testBit v=true↔v∈qs2)∧(∃r,qs2=qs++r)∧j2<y.next∧ ∀(e':Nat) (he:e'<g.es.length),e'<e→g.es[e'].f=x→g.es[e'].a≠w→mi.testBit g.es[e'].t.toNat=true→g.es[e'].t.toNat∈qs2)
    ⟨bf,m,d',qs,(hM1.bad2 (fun j hj hh=>hh.elim id fun hh=>by omega)).frame ho2 (by omega) (fun j hj _=>t1 j hj),hP.bf,hP.lt,hP.seen,⟨[],by simp⟩,by omega,fun e' he h=>by omega⟩
    (fun e y y' ⟨bf,m,d,qs2,p1,p2,p3,p4,p5,p6,p7⟩ _ s hn=>⟨bf,m,d,qs2,p1.frame ho2 hn (fun j hj hh=>s j hj (by rintro rfl;rcases hh with hh|hh;omega;exact hh (.inr (.inl rfl)))),p2,p3,p4,p5,by omega,p7⟩)
    (fun e y he ⟨bf,m,d,qs2,p1,p2,p3,p4,p5,p6,p7⟩ hne=>⟨bf,m,d,qs2,p1,p2,p3,p4,p5,p6,fun e' he' h hf=> ?_⟩)
    (fun e y he ⟨bf,m,d,qs2,p1,p2,p3,p4,p5,p6,p7⟩ hf ly oj2 oj3 o1 o2 Ka Kb ol hA fin ret=> ?_) (fun y ⟨bf',m',d2,qs2,p1,p2,p3,p4,⟨r,p5⟩,p6,p7⟩ ly=> ?_)
   ·by_cases c:e'=e
    ·subst c;exact absurd hf hne
    ·exact p7 e' he' (by omega) hf
   ·have he0:=hg.ok _ (List.getElem_mem he)
    have b0:=he0.f0;have b1:=he0.t0;have b2:=he0.t1
    obtain⟨tn,htn⟩: ∃tn:Nat,g.es[e].t=tn:=⟨g.es[e].t.toNat,by omega⟩
    have htn2:g.es[e].t.toNat=tn:=by omega
    have htN:tn<N:=by omega
    have r1:=p1.frame ho2 (y':=((y.new (.rows false 3 [[I 0,I 0,I 0]])).put y.next (.rows false 3 [[I x,I g.es[e].a,I tn]])).put M3.next o2) (by simp;omega) fun j hj hh=>by
     rw[get_put,if_neg (by rintro rfl;rcases hh with hh|hh;omega;exact hh (.inr (.inl rfl))),get_put,if_neg (by omega),get_new,if_neg (by omega)]
    have r2:(((y.new (.rows false 3 [[I 0,I 0,I 0]])).put y.next (.rows false 3 [[I x,I g.es[e].a,I tn]])).put M3.next o2).obj y.next=some (.rows false 3 [[I x,I g.es[e].a,I tn]]):=by simp(disch:=omega)
    have r3:(((y.new (.rows false 3 [[I 0,I 0,I 0]])).put y.next (.rows false 3 [[I x,I g.es[e].a,I tn]])).put M3.next o2).obj M3.next=some o2:=by simp
    have r4:SM M3.next y (((y.new (.rows false 3 [[I 0,I 0,I 0]])).put y.next (.rows false 3 [[I x,I g.es[e].a,I tn]])).put M3.next o2):=(by repeat' (first|assumption|exact zt _ _|apply zu|apply zx|apply zA| ((try simp only[zc,ze,zf]);omega)))
    have r5:y.next<(((y.new (.rows false 3 [[I 0,I 0,I 0]])).put y.next (.rows false 3 [[I x,I g.es[e].a,I tn]])).put M3.next o2).next:=by simp;omega
    simp[c_f_24,zF,htn,hf]
    refine hA _ _ (by simp(disch:=((try simp only[zc,ze]);omega)) [ol]) ?_
    generalize ((y.new (.rows false 3 [[I 0,I 0,I 0]])).put y.next (.rows false 3 [[I x,I g.es[e].a,I tn]])).put M3.next o2=y2 at*
    have oj2':=zM r4 (by omega) oj2
    have oj3':=zM r4 (by omega) oj3
    have x7:=r1.o7;have x8:=r1.o8;have x13:=r1.o13;have x12:=r1.o12;have x14:=r1.o14;have xb:=r1.ob
    have hend:(g.es[e].a≠w→mi.testBit tn=true→tn∈qs2)→ ∀s',Kb.nrm s' y2:=fun hc s'=>by
     refine fin s' y2 r3 ⟨oj2',oj3',by omega,bf,m,d,qs2,r1,p2,p3,p4,p5,by omega,fun e' he' h hf ha hm=> ?_⟩
     by_cases c:e'=e
     ·subst c;rw[htn2] at hm⊢;exact hc ha hm
     ·exact p7 e' he' (by omega) hf ha hm
    by_cases hw:g.es[e].a=w
    ·simp[zcf,r2,x8,hw]
     exact hend (fun h=>absurd hw h) _
    ·simp[zcf,r2,x8,hw,x7]
     refine zdA mi tn hmi (by omega) ?_
     cases hb2:mi.testBit tn with
     |false=>
      simp[hb2]
      exact hend (fun _ h=>by rw[hb2] at h;cases h) _
     |true=>
      simp[hb2,x13,r2]
      refine zdA m tn p3 (by omega) ?_
      cases hb3:m.testBit tn with
      |true=>
       simp[hb3]
       exact hend (fun _ _=>(p4 tn).1 hb3) _
      |false=>
       have hnin:tn∉qs2:=fun h=>by rw[(p4 tn).2 h] at hb3;cases hb3
       obtain⟨r,hr⟩:=p5
       have hpq:p<qs2.length:=by rw[hr];simp;omega
       have hpx:qs2[p]=x:=by
        have:qs2[p]? =some x:=by rw[hr,List.getElem?_append_left hp2];exact hxq
        rw[List.getElem?_eq_getElem hpq] at this;exact Option.some.inj this
       have hBf:=p2.add hnin htN hpq he htn (by rw[hpx];exact hf) hw hb2
       have hq2:=p2.len
       simp[hb3,r2]
       refine zi3 m tn _ p3 (by omega) x13 ?_
       have s1:=r1.setM ho2 (m ||| 2^tn)
       have rcx:=zcU (f:=bf) htN
       have s2:=s1.setB ho2 (R:=(R1 bf N).set tn [I e]) (bf':=up1 bf tn e) zfJ
       have n13:y.next≠j13:=by omega
       have nb:y.next≠jb:=by omega
       have y14:=s2.o14
       simp(disch:=((try simp only[zc,ze,zf]);omega)) [r2,x12,xb,htN,rcx,x14]
       have hne: ¬((fun j=>bad j∨j=M3.next∨j=j2∨j=j3) (((y2.put j13 (setO (m ||| 2^tn))).put jb (.rows false 1 ((R1 bf N).set tn [I e]))).new (.rows false 1 [[I tn]])).next):=by
        have hz:=hbig (((y2.put j13 (setO (m ||| 2^tn))).put jb (.rows false 1 ((R1 bf N).set tn [I e]))).new (.rows false 1 [[I tn]])).next (by simp;omega)
        intro hh
        rcases hh with hh|hh
        ·exact hz hh
        ·simp at hh;omega
       refine Rs_qpush (x:=tn) (s2.new ho2 _).qu (by simp;omega) hne (by simp) fun d3 y3 hq3 hn3 hf3=> ?_
       have s3:=(s2.new ho2 (.rows false 1 [[I tn]])).push ho2 hn3 hf3 hq3
       obtain⟨ce3,ce4,_⟩:=hq3.cell
       have z14:y3.obj j14=some (.rows false 1 [[d]]):=by
        have:=(s2.new ho2 (.rows false 1 [[I tn]])).o14
        rw[←this];show(y3.get j14).map _=(VM.get _ j14).map _;rw[hf3 j14 (by simp;omega) ho2.b2]
       have ho3: ∀j o,((fun j=>bad j∨j=M3.next∨j=j2∨j=j3) j)→j<y2.next→j≠j13→j≠jb→j≠j14→y2.obj j=some o→(y3.put j14 (.rows false 1 [[d3]])).obj j=some o:=fun j o hb hlt e1 e2 e3 e4=>by
        rw[z7,if_neg e3,←e4]
        show(y3.get j).map _=(y2.get j).map _
        rw[hf3 j (by simp;omega) hb,get_new,if_neg (by simp;omega),get_put,if_neg e2,get_put,if_neg e1]
       simp[z14,ce3,ce4]
       rw[←List.drop_append_of_le_length (by omega)] at s3
       refine fin _ _ (ho3 _ _ (.inr (.inl rfl)) (by omega) (by omega) (by omega) (by omega) r3) ⟨ho3 _ _ (.inr (.inr (.inl rfl))) (by omega) (by omega) (by omega) (by omega) oj2',ho3 _ _ (.inr (.inr (.inr rfl))) (by omega) (by omega) (by omega) (by omega) oj3',by simp at hn3⊢;omega,up1 bf tn e,m ||| 2^tn,d3,qs2++[tn],s3,hBf,or_lt p3 (by omega),fun v=> ?_,⟨r++[tn],by rw[hr,List.append_assoc]⟩,by simp at hn3⊢;omega,fun e' he' h hf' ha hm=> ?_⟩
       ·rw[zlA,p4,List.mem_append,List.mem_singleton]
       ·by_cases c:e'=e
        ·subst c;rw[htn2];exact List.mem_append_right _ (by simp)
        ·exact List.mem_append_left _ (p7 e' he' (by omega) hf' ha hm)
   ·simp at again
    simp
    have hq2:=p2.len
    have hlen2:qs2.length=qs.length+r.length:=by rw[p5];simp
    refine again y bf' m' (p+1) qs2 d2 (by omega) (p1.bad2 fun j _ hj=>.inl hj) ⟨p2,p3,p4,by omega,fun i hi hip=> ?_⟩
    by_cases c:i=p
    ·subst c
     have hpx:qs2[i]=x:=by
      have:qs2[i]? =some x:=by simp only[p5];rw[List.getElem?_append_left hp2];exact hxq
      rw[List.getElem?_eq_getElem hi] at this;exact Option.some.inj this
     rw[hpx]
     refine⟨hqx,fun v ⟨e,q1,q2,q3,q4,q5⟩=> ?_⟩
     obtain⟨q,hq,rfl⟩:=List.getElem_of_mem q1
     have:=p7 q hq hq q2 q4 (by rw[q3];simpa using q5)
     rw[q3] at this;simpa using this
    ·have hi0:i<qs.length:=by omega
     have hpx:qs2[i]=qs[i]:=by
      have:qs2[i]? =qs[i]?:=by simp only[p5];rw[List.getElem?_append_left hi0]
      rw[List.getElem?_eq_getElem hi,List.getElem?_eq_getElem hi0] at this;exact Option.some.inj this
     rw[hpx]
     obtain⟨q1,q2⟩:=hP.no i hi0 (by omega)
     exact⟨q1,fun v hv=>by rw[p5];exact List.mem_append_left _ (q2 v hv)⟩
end Go.Ideal.S
namespace Go.Ideal.S
open Go Go.Ideal Q Classical
attribute [local simp] decide_eq_true decide_eq_false zH
attribute [local simp] r_D c_D f_D r_D_1 r_D_2 r_D_3 r_D_4 r_D_5 r_D_6 r_D_7
def Lb (bad:Nat→Prop) (y:VM) (d:DV) (l:List Int):Prop:=(l=[]∧d=.nilS)∨ ∃j op cap,¬bad j∧j<y.next∧d=.ms j 0 l.length cap∧y.obj j=some (.rows op 1 (l.map eInt))∧(op=true∧cap=zo∨op=false∧cap=l.length∧cap<zo)
section
variable {bad bad':Nat→Prop} {y y':VM} {d:DV} {l:List Int} {x:Int}
theorem Lb.keep (h:Lb bad y d l) (hn:y.next≤y'.next) (ho: ∀j,j<y.next→ ¬bad j→y'.get j=y.get j) (hb: ∀j,j<y.next→bad' j→bad j):Lb bad' y' d l:=by
 rcases h with h| ⟨j,op,cap,h1,h2,h3,h4,h5⟩
 ·exact .inl h
 ·refine .inr ⟨j,op,cap,fun hh=>h1 (hb j h2 hh),by omega,h3,?_,h5⟩
  rw[←h4];show(y'.get j).map _=(y.get j).map _;rw[ho j h2 h1]
theorem Lb.put (h:Lb bad y d l) {j:Nat} (hj:bad j) (o:MO):Lb bad (y.put j o) d l:=h.keep (by simp) (fun i _ hi=>by rw[get_put,if_neg (by rintro rfl;exact hi hj)]) fun _ _ h=>h
theorem Lb.new (h:Lb bad y d l) (o:MO):Lb bad (y.new o) d l:=h.keep (by simp) (fun i hi _=>by rw[get_new,if_neg (by omega)]) fun _ _ h=>h
theorem Lb.cell (h:Lb bad y d l):zS d=[d]∧zL d=true:=by
 rcases h with⟨_,rfl⟩| ⟨j,op,cap,h1,h2,rfl,_⟩<;>exact⟨rfl,rfl⟩
theorem Rs_lb {X:RnD} {fr:FrC} {jb:Nat} {dst:Option (List Bool)} {r:List CI} {sl:DS} (h:Lb bad y d l) (hl:l.length≤1000000) (hY: ¬bad y.next) (hb:y.obj jb=some (.rows false 1 [[I x]]))
 (k: ∀d' y',Lb bad y' d' (l++[x])→y.next≤y'.next→(∀j,j<y.next→bad j→y'.get j=y.get j)→ @Op X fr r (zbp dst d' sl) y'): @Rs X fr (bltD y (.append 1 8) [d,.ms jb 0 1 1]) dst r sl:=by
 rw[zdf,if_pos ⟨by decide,by decide⟩,zdI,hb]
 rw[show elO 1 0 1 (some (MO.rows false 1 [[I x]]))=some [[I x]] from by simp,zft,if_pos (by simp)]
 have hlen:(l.map eInt++[[I x]]).length=(l++[x]).length:=by simp
 have hnew: ∀(y2:VM) (nx:y2.next=y.next),Lb bad (y2.new (.rows true 1 (l.map eInt++[[I x]]))) (.ms y.next 0 (l.map eInt++[[I x]]).length zo) (l++[x]):=fun y2 nx=>
  .inr ⟨y.next,true,zo,hY,by simp[nx],by rw[hlen],by rw[←nx,List.map_append];simp;rfl,.inl ⟨rfl,rfl⟩⟩
 rcases h with⟨rfl,rfl⟩| ⟨j,op,cap,h1,h2,rfl,h4,h5⟩
 ·have e:zbj 1 8 y [[I x]] .nilS=some (.ms y.next 0 1 zo,y.new (.rows true 1 [[I x]])):=by simp
  rw[e]
  exact k _ _ (hnew y rfl) (by simp) fun i hi _=>by rw[get_new,if_neg (by omega)]
 ·have ht:((l.map eInt).drop 0).take l.length=l.map eInt:=by rw[List.drop_zero,List.take_of_length_le (by simp)]
  rcases h5 with⟨rfl,rfl⟩| ⟨rfl,rfl,h6⟩
  ·have e:zbj 1 8 y [[I x]] (.ms j 0 l.length zo)=some (.ms y.next 0 (l.map eInt++[[I x]]).length zo,(y.del j).new (.rows true 1 (l.map eInt++[[I x]]))):=by
    rw[zcE,if_neg (by simp),if_pos (by simp;omega),h4,zez,zcr,if_pos ⟨rfl,by simp⟩,if_neg (by simp),ht]
   rw[e]
   exact k _ _ (hnew _ rfl) (by simp) fun i hi hbi=>by rw[get_new,if_neg (by simp;omega),zc9,if_neg (by rintro rfl;exact h1 hbi)]
  ·have e:zbj 1 8 y [[I x]] (.ms j 0 l.length l.length)=some (.ms y.next 0 (l.map eInt++[[I x]]).length zo,y.new (.rows true 1 (l.map eInt++[[I x]]))):=by
    rw[zcE,if_neg (by simp),if_pos (by simp;omega),h4,zez]
    unfold zcH
    dsimp only
    rw[if_pos ⟨rfl,by simp⟩,if_pos h6,if_neg (by simp),ht];rfl
   rw[e]
   exact k _ _ (hnew _ rfl) (by simp) fun i hi _=>by rw[get_new,if_neg (by omega)]
end
def endOf (es:List Edge) (a:Int) (l:List Int):Int:=match l.getLast? with
 |none=>a
 |some x=>(eAt es x).t
theorem zjB (es:List Edge) (a:Int) (l:List Int) (x:Int):endOf es a (l++[x])=(eAt es x).t:=by unfold endOf;simp
theorem Way.last {g:Gr} {mi:Nat} {w:Int} {s n:Nat} {l:List Int} (h:Way g mi w s l n):endOf g.es s l=n:=by
 cases h with
 |nil=>rfl
 |snoc h e he h1 h2 u h3 h4=>rw[zjB,zjC he,h3]
variable {M:VM} {k kp:DV→VM→Prop} {n0:Nat}
theorem walk_ok {g:Gr} (hg:zbr g) {N:Nat} (hN:g.st=N) {mi:Nat} (hmi:mi<2^64) (w:Int) (fis:DV) (q:Nat→Bool) {bad:Nat→Prop} {jg ja ji jw jo a0:Nat} {d:DV} {l:List Int}
 (og:M.obj jg=some (grO g)) (oa:M.obj ja=some (intO a0)) (oi:M.obj ji=some (setO mi)) (ow:M.obj jw=some (intO w)) (oo:M.obj jo=some (.rows false 1 [[d]])) (hl:Lb bad M d l)
 (bg:bad jg∧jg<M.next) (ba:bad ja∧ja<M.next) (bo:bad jo∧jo<M.next) (hne:ja≠jo∧jg≠ja∧jg≠jo) (hbig: ∀j,M.next≤j→ ¬bad j) (ha:a0<N) (hll:l.length≤100000)
 (hq: ∀v,v<N→ ∀{M1:VM} {k kp:DV→VM→Prop},SM M.next M M1→M.next≤M1.next→k (.bool (q v)) M1→zy F fis [I v] M1 k kp)
 (hex: ∃n,Star (RF g (fun v=>mi.testBit v) w) a0 n∧q n=true)
 (hk: ∀M' d' l2 n,Way g mi w a0 l2 n→q n=true→l2.length<N→M.next≤M'.next→(∀j,j<M.next→bad j→j≠ja→j≠jo→M'.get j=M.get j)→M'.obj ja=some (intO n)→M'.obj jo=some (.rows false 1 [[d']])→Lb bad M' d' (l++l2)→k (.tup []) M'):
 zy F (.fn n_D [] [.ptr jg 0 0,.ptr ja 0 0,.ptr ji 0 0,.ptr jw 0 0,.ptr jo 0 0]) [fis] M k kp:=by
 have g2:=hg.s2
 refine .fn zgz rfl (by simp[f_D]) ?_
 simp[og,oa,oi,ow]
 refine jpath_ok hg hN hmi w ha fis q hq (fun l2 n hw hqn hlen=> ?_) (fun hno=> ?_)
 ·have hE:=hw.edges
  simp
  refine .for (σ:=VM×DV) c_D_8.eq_1 (fun i _=>[(22,I i)]) (fun z=>z.1) (fun i z=>M.next≤z.1.next∧(∀j,j<M.next→bad j→j≠ja→j≠jo→z.1.get j=M.get j)∧z.1.obj ja=some (intO (endOf g.es a0 (l2.take i)))∧z.1.obj jo=some (.rows false 1 [[z.2]])∧Lb bad z.1 z.2 (l++l2.take i)) l2.length (M,d) (by simp) rfl ⟨Nat.le_refl _,fun _ _ _ _ _=>rfl,oa,oo,by simpa using hl⟩ (fun i z hi hP again=> ?_) (fun z hP=> ?_)
  ·obtain⟨y,d2⟩:=z
   obtain⟨p1,p2,p3,p4,p5⟩:=hP
   dsimp only at*
   have hx:=hE _ (List.getElem_mem hi)
   obtain⟨e,he⟩: ∃e:Nat,l2[i]=e:=⟨l2[i].toNat,by omega⟩
   have hel:e<g.es.length:=by omega
   have pg:y.obj jg=some (grO g):=by rw[←og];show(y.get jg).map _=(M.get jg).map _;rw[p2 jg bg.2 bg.1 hne.2.1 hne.2.2]
   rw[List.take_succ_eq_append_getElem hi,he] at again
   rw[zjB,zjC hel,←List.append_assoc] at again
   simp at again
   have hlt:=List.length_take_le i l2
   simp[hi,p4,eInt,he]
   refine Rs_lb (x:=e) (p5.new _) (by simp;omega) (hbig _ (by simp;omega)) (by simp) fun d3 y3 q1 q2 q3=> ?_
   obtain⟨c1,c2⟩:=q1.cell
   have q3': ∀j,j<M.next→bad j→y3.get j=y.get j:=fun j hj hb=>by rw[q3 j (by simp;omega) hb,get_new,if_neg (by omega)]
   have ob: ∀j o,j<M.next→bad j→y.obj j=some o→y3.obj j=some o:=fun j o h1 h2 h3=>by
    rw[←h3];show(y3.get j).map _=(y.get j).map _;rw[q3' j h1 h2]
   have ro:=ob _ _ bo.2 bo.1 p4
   have rg:=ob _ _ bg.2 bg.1 pg
   have ra:=ob _ _ ba.2 ba.1 p3
   have n1:=hne.1;have n2:=hne.2.1;have n3:=hne.2.2
   simp only[zc] at q2
   simp(disch:=((try simp only[zc,ze,zf]);omega)) [ro,rg,ra,c1,c2,he,hel,zF]
   refine again _ d3 (by simp;omega) (fun j h1 h2 h3 h4=> ?_) (by simp) (by simp(disch:=omega)) (by rw[←List.append_assoc];exact(q1.put bo.1 _).put ba.1 _)
   rw[get_put,if_neg h3,get_put,if_neg h4,q3' j h1 h2];exact p2 j h1 h2 h3 h4
  ·obtain⟨y,d2⟩:=z
   obtain⟨p1,p2,p3,p4,p5⟩:=hP
   dsimp only at*
   rw[List.take_length] at p3 p5
   rw[hw.last] at p3
   simp
   exact hk y d2 l2 n hw hqn hlen p1 p2 p3 p4 p5
 ·obtain⟨n,h1,h2⟩:=hex
  rw[hno n h1] at h2;cases h2
end Go.Ideal.S
set_option maxHeartbeats 4000000
namespace Go.Ideal.S
open Go Go.Ideal Q Classical
attribute [local simp] decide_eq_true decide_eq_false zH
attribute [local simp] c_d f_d r_d_5 r_d_6 r_d_7 r_d_8 r_d_9 r_d_10 r_d_11 r_d_12 r_d_13 r_d_14 r_d_16 r_d_17 r_d_18 r_d_19 r_W c_W f_W r_W_1 r_W_2 r_R c_R f_R r_R_1 r_R_2 r_R_3 r_R_4 r_X c_X f_X r_X_1 r_X_2
variable {M:VM} {k kp:DV→VM→Prop} {n0:Nat}
theorem is2_ok {j v f:Nat} {a b:Int} (ho:M.obj j=some (.rows false 3 [[I f,I a,I b]])) (hk:k (.bool (decide (v=f))) M):zy F (.fn n_W [] [.ptr j 0 0]) [I v] M k kp:=by
 apply zy.back
 refine .fn zgy rfl (by simp[f_W]) ?_
 have:((v:Int)=f)=(v=f):=propext ⟨fun h=>by omega,fun h=>by omega⟩
 rw[←show decide ((v:Int)=f)=decide (v=f) by simp only[this]] at hk
 simp[ho]
 exact Back.plain (by simp) (by repeat' (first|assumption|exact zt _ _|apply zu|apply zx|apply zA| ((try simp only[zc,ze,zf]);omega))) hk
theorem is4_ok {j v f:Nat} (ho:M.obj j=some (intO f)) (hk:k (.bool (decide (v=f))) M):zy F (.fn n_X [] [.ptr j 0 0]) [I v] M k kp:=by
 apply zy.back
 refine .fn zgw rfl (by simp[f_X]) ?_
 have:((v:Int)=f)=(v=f):=propext ⟨fun h=>by omega,fun h=>by omega⟩
 rw[←show decide ((v:Int)=f)=decide (v=f) by simp only[this]] at hk
 simp[ho]
 exact Back.plain (by simp) (by repeat' (first|assumption|exact zt _ _|apply zu|apply zx|apply zA| ((try simp only[zc,ze,zf]);omega))) hk
theorem is3_ok {g:Gr} (hg:zbr g) {jg jw v:Nat} {w:Int} (og:M.obj jg=some (grO g)) (ow:M.obj jw=some (intO w)) (l1:jg<M.next) (l2:jw<M.next) (hv:v<60) (hk:k (.bool (opnB g (2^v:Nat).testBit w)) M):zy F (.fn n_R [] [.ptr jg 0 0,.ptr jw 0 0]) [I v] M k kp:=by
 have hl:g.es.length≤1000000:=by have:=hg.el;omega
 have g2:=hg.s2
 apply zy.back
 refine .fn zgx rfl (by simp[f_R]) ?_
 simp
 refine zi3 0 v _ (by decide) (by omega) (by simp) ?_
 simp(disch:=((try simp only[zc,ze,zf]);omega)) [og,ow]
 refine jopen_ok g (2^v) w hl (Nat.pow_lt_pow_right (by omega) (by omega)) (fun e he=>by have h:=hg.ok e he;have:=h.f0;have:=h.f1;omega) ?_
 rw[show(g.es.any fun e=>(2^v:Nat).testBit e.f.toNat&&decide (e.a=w))=opnB g (2^v:Nat).testBit w from rfl]
 generalize opnB g (2^v:Nat).testBit w=b at*
 simp
 exact Back.plain (by simp) (by repeat' (first|assumption|exact zt _ _|apply zu|apply zx|apply zA| ((try simp only[zc,ze,zf]);omega))) hk
structure RiM (B y:VM) (g:Gr) (mi:Nat) (w:Int) (n:Nat) (at_:Nat) (d:DV) (l:List Int) (b9:List Bool):Prop where
 sm:SM B.next B y
 nx:B.next+8≤y.next
 o5:y.obj B.next=some (grO g)
 o6:y.obj (B.next+1)=some (intO n)
 o7:y.obj (B.next+2)=some (setO mi)
 o8:y.obj (B.next+3)=some (intO w)
 o11:y.obj (B.next+4)=some (.rows false 1 [[d]])
 o12:y.obj (B.next+5)=some (intO at_)
 o14:y.obj (B.next+7)=some (.rows false 40 [b9.map .bool])
 lb:Lb (fun j=>j<B.next+8) y d l
theorem RiM.walk {B y y':VM} {g:Gr} {mi:Nat} {w:Int} {n at_ a2:Nat} {d d2:DV} {l l2:List Int} {b9:List Bool} {bad:Nat→Prop} (h:RiM B y g mi w n at_ d l b9) (hb: ∀j,j<B.next+8→bad j) (hn:y.next≤y'.next)
 (hf: ∀j,j<y.next→bad j→j≠B.next+5→j≠B.next+4→y'.get j=y.get j) (h1:y'.obj (B.next+5)=some (intO a2)) (h2:y'.obj (B.next+4)=some (.rows false 1 [[d2]])) (h3:Lb bad y' d2 l2):RiM B y' g mi w n a2 d2 l2 b9:=by
 have hx:=h.nx
 have ob: ∀j o,j<B.next+8→j≠B.next+5→j≠B.next+4→y.obj j=some o→y'.obj j=some o:=fun j o a b c e=>by
  rw[←e];show(y'.get j).map _=(y.get j).map _;rw[hf j (by omega) (hb j a) b c]
 exact⟨fun j hj=>(hf j (by omega) (hb j (by omega)) (by omega) (by omega)).trans (h.sm j hj),by omega,ob _ _ (by omega) (by omega) (by omega) h.o5,ob _ _ (by omega) (by omega) (by omega) h.o6,ob _ _ (by omega) (by omega) (by omega) h.o7,ob _ _ (by omega) (by omega) (by omega) h.o8,h2,h1,ob _ _ (by omega) (by omega) (by omega) h.o14,h3.keep (Nat.le_refl _) (fun _ _ _=>rfl) fun j _ hj=>hb j hj⟩
theorem RiM.frame {B y y':VM} {g:Gr} {mi:Nat} {w:Int} {n at_:Nat} {d:DV} {l:List Int} {b9:List Bool} (h:RiM B y g mi w n at_ d l b9) (hs:SM y.next y y') (hn:y.next≤y'.next):RiM B y' g mi w n at_ d l b9:=by
 have hx:=h.nx
 exact⟨zeB h.sm (zfh hs (by omega)),by omega,zM hs (by omega) h.o5,zM hs (by omega) h.o6,zM hs (by omega) h.o7,zM hs (by omega) h.o8,zM hs (by omega) h.o11,zM hs (by omega) h.o12,zM hs (by omega) h.o14,h.lb.keep hn (fun j hj _=>hs j hj) fun _ _ h=>h⟩
theorem RiM.done {B y:VM} {g:Gr} {mi:Nat} {w:Int} {n at_:Nat} {d:DV} {l:List Int} {b9:List Bool} (h:RiM B y g mi w n at_ d l b9) (b2:List Bool):RiM B (y.put (B.next+7) (.rows false 40 [b2.map .bool])) g mi w n at_ d l b2:=by
 have hx:=h.nx
 exact⟨zu h.sm (by omega),by simp;omega,by simp(disch:=omega) [h.o5],by simp(disch:=omega) [h.o6],by simp(disch:=omega) [h.o7],by simp(disch:=omega) [h.o8],by simp(disch:=omega) [h.o11],by simp(disch:=omega) [h.o12],by simp,h.lb.put (by omega) _⟩
theorem Way.head {g:Gr} {mi:Nat} {w:Int} {s n:Nat} {l:List Int} (h:Way g mi w s l n):(l=[]∧n=s)∨ ∃x∈l,(eAt g.es x).f=s:=by
 induction h with
 |nil=>exact .inl ⟨rfl,rfl⟩
 |snoc h e he h1 h2 u h3 h4 ih=>
  rcases ih with⟨rfl,rfl⟩| ⟨x,hx,h5⟩
  ·exact .inr ⟨e,by simp,by rw[zjC he];exact h1⟩
  ·exact .inr ⟨x,List.mem_append_left _ hx,h5⟩
theorem Way.inn {g:Gr} {mi:Nat} {w:Int} {s n:Nat} {l:List Int} (h:Way g mi w s l n) (hs:mi.testBit s=true):mi.testBit n=true:=by
 cases h with
 |nil=>exact hs
 |snoc _ _ _ _ _ _ _ h4=>exact h4
structure RingOf (g:Gr) (mi:Nat) (w:Int) (also:Bool) (n:Nat) (l:List Int):Prop where
 way:Way g mi w n l n
 act: ∀x,x≠w→Ins (EG g) (fun v=>mi.testBit v=true) x→ ∃e∈l,(eAt g.es e).a=x
 opn:also=true→ ∃e∈l,∃e2∈g.es,e2.f=(eAt g.es e).f∧e2.a=w
 len:l.length≤2600
structure RiP (g:Gr) (mi:Nat) (w:Int) (n i:Nat) (at_:Nat) (l:List Int) (b9:List Bool):Prop where
 way:Way g mi w n l at_
 b:b9.length=40
 len:l.length≤60*b9.countP fun b=>b
 act: ∀(q:Nat) (hq:q<g.es.length),q<i→g.es[q].a≠w→mi.testBit g.es[q].f.toNat=true→mi.testBit g.es[q].t.toNat=true→b9[g.es[q].a.toNat]? =some true
 has: ∀a:Nat,b9[a]? =some true→ ∃e∈l,(eAt g.es e).a=a
theorem cnt_set {l:List Bool} {a:Nat} (h:l[a]? =some false):(l.set a true).countP (fun b=>b)=l.countP (fun b=>b)+1:=by
 induction l generalizing a with
 |nil=>cases h
 |cons b l ih=>
  cases a with
  |zero=>
   obtain rfl:b=false:=by simpa using h
   simp
  |succ a=>
   have:=ih (a:=a) (by simpa using h)
   rw[List.set_cons_succ,List.countP_cons,List.countP_cons,this];omega
theorem zgK {g:Gr} {mi:Nat} {w:Int} {st:Bool} (hC:Core (EG g) w st (fun v=>mi.testBit v=true)) {a b:Nat} (ha:mi.testBit a=true) (hb:mi.testBit b=true):Star (RF g (fun v=>mi.testBit v) w) a b:=RF_star.2 (hC.con a b ha hb)
end Go.Ideal.S
namespace Go.Ideal.S
open Go Go.Ideal Q Classical
attribute [local simp] decide_eq_true decide_eq_false zH
attribute [local simp] c_d f_d r_d_5 r_d_6 r_d_7 r_d_8 r_d_9 r_d_10 r_d_11 r_d_12 r_d_13 r_d_14 r_d_16 r_d_17 r_d_18 r_d_19 r_D r_W r_R r_X
variable {M:VM} {k kp:DV→VM→Prop} {n0:Nat}
theorem Back.lb {bad:Nat→Prop} {y M0:VM} {d:DV} {l:List Int} {k:DV→VM→Prop} (h:Lb bad y d l) (hb: ∀j,j<M0.next→bad j) (hs:SM M0.next M0 y) (hk:k (ints l) M0):Back k M0 d y:=fun hw=>by
 refine⟨ints l,?_,b_lst b_Int l,fun j hj=>hs j hj,hk⟩
 rcases h with⟨rfl,rfl⟩| ⟨j,op,cap,h1,h2,rfl,h4,_⟩
 ·exact .nilS 1
 ·exact .ms0 h4 (hw j (by
   rcases Nat.lt_or_ge j M0.next with h|h
   ·exact absurd (hb j h) h1
   ·exact h)) (by simp) (l_map l_Int l)
theorem jring_ok {g:Gr} (hg:zbr g) {N:Nat} (hN:g.st=N) {mi:Nat} (hmi:mi<2^64) (w:Int) (st also:Bool) (hC:Core (EG g) w st (fun v=>mi.testBit v=true)) {n:Nat} (hn:mi.testBit n=true) (hin: ∀v,mi.testBit v=true→v<N)
 (hal:also=true→Opn (EG g) (fun v=>mi.testBit v=true) w) (hk: ∀l,RingOf g mi w also n l→k (ints l) M):zy F (.fn n_d [] []) [.agg (eGr g),I n,Go.Ideal.S.setD mi,I w,.bool also] M k kp:=by
 have g2:=hg.s2
 have ga:=hg.a2
 have hl:g.es.length≤1000000:=by have:=hg.el;omega
 apply zy.back
 refine .fn zhU rfl (by simp[f_d]) ?_
 simp(disch:=((try simp only[zc,ze,zf]);omega)) [eGr]
 refine zcs.gen (Q:=fun y=>RiM M y g mi w n n .nilS [] no40) ⟨(by repeat' (first|assumption|exact zt _ _|apply zu|apply zx|apply zA| ((try simp only[zc,ze,zf]);omega))),by(try simp only[zc,ze]);omega,?_,?_,?_,?_,?_,?_,?_,.inl ⟨rfl,rfl⟩⟩ fun y0 hy0=> ?_
 iterate 7 exact by simp(disch:=((try simp only[zc,ze]);omega)) [no40]
 refine .for (σ:=VM×DV×List Int×Nat×List Bool) c_d_15.eq_1 (fun i _=>[(23,I i)]) (fun z=>z.1) (fun i z=>RiM M z.1 g mi w n z.2.2.2.1 z.2.1 z.2.2.1 z.2.2.2.2∧RiP g mi w n i z.2.2.2.1 z.2.2.1 z.2.2.2.2) g.es.length (y0,.nilS,[],n,no40) (by simp) rfl
  ⟨hy0,.nil,no40_len,by simp,fun q hq h=>by omega,fun a h=>absurd h (rep_on _ _)⟩ (fun i z hi hP again=> ?_) (fun z hP=> ?_)
 ·obtain⟨y,d,l,at_,b9⟩:=z
  obtain⟨hM,hP⟩:=hP
  dsimp only at*
  have hx:=hM.nx
  have o5:=hM.o5;have o7:=hM.o7;have o8:=hM.o8;have o14:=hM.o14
  have he:=hg.ok _ (List.getElem_mem hi)
  have c0:=he.f0;have c1:=he.f1;have c2:=he.t0;have c3:=he.t1;have c4:=he.a0;have c5:=he.a1
  obtain⟨fn,hf⟩:=Int.eq_ofNat_of_zero_le c0
  obtain⟨tn,ht⟩:=Int.eq_ofNat_of_zero_le c2
  obtain⟨an,ha⟩:=Int.eq_ofNat_of_zero_le c4
  have ha40:an<40:=by omega
  have hb:=hP.b
  have hab:an<b9.length:=by omega
  have hrd:oneD ((b9.map DV.bool).drop an)=some (.bool b9[an]):=by rw[List.drop_eq_getElem_cons (by simpa using hab)];simp[oneD]
  have hw1:zbc (b9.map DV.bool) an [.bool true]=some ((b9.set an true).map DV.bool):=by rw[zkl _ _ _ (by simpa using hab),List.map_set]
  simp at again
  have s2:SM y.next y ((y.new (.rows false 3 [[I 0,I 0,I 0]])).put y.next (.rows false 3 [[I fn,I an,I tn]])):=(by repeat' (first|assumption|exact zt _ _|apply zu|apply zx|apply zA| ((try simp only[zc,ze,zf]);omega)))
  have n2:y.next<((y.new (.rows false 3 [[I 0,I 0,I 0]])).put y.next (.rows false 3 [[I fn,I an,I tn]])).next:=by simp;omega
  have o2:((y.new (.rows false 3 [[I 0,I 0,I 0]])).put y.next (.rows false 3 [[I fn,I an,I tn]])).obj y.next=some (.rows false 3 [[I fn,I an,I tn]]):=by simp
  have hM2:=hM.frame s2 (by omega)
  have skip: ¬((an:Int)≠w∧b9[an]=false∧mi.testBit fn=true∧mi.testBit tn=true)→RiP g mi w n (i+1) at_ l b9:=fun hc=>⟨hP.way,hP.b,hP.len,fun q hq hqi h1 h2 h3=>by
   by_cases e:q=i
   ·subst e
    rw[hf,Int.toNat_natCast] at h2
    rw[ht,Int.toNat_natCast] at h3
    rw[ha] at h1⊢
    rw[Int.toNat_natCast,List.getElem?_eq_getElem hab]
    cases hh:b9[an] with
    |true=>rfl
    |false=>exact absurd ⟨h1,hh,h2,h3⟩ hc
   ·exact hP.act q hq (by omega) h1 h2 h3,hP.has⟩
  by_cases w1:(an:Int)=w
  ·simp(disch:=((try simp only[zc,ze,zf]);omega)) [hi,zF,hf,ht,ha,w1,o8]
   rw[w1] at hM2
   exact again _ _ _ _ _ hM2 (skip fun h=>h.1 w1)
  ·cases w2:b9[an] with
   |true=>
    rw[w2] at hrd
    simp(disch:=((try simp only[zc,ze,zf]);omega)) [hi,zF,hf,ht,ha,w1,o8,ha40,o14,hrd]
    exact again _ _ _ _ _ hM2 (skip fun h=>by rw[w2] at h;exact absurd h.2.1 (by simp))
   |false=>
    rw[w2] at hrd
    simp(disch:=((try simp only[zc,ze,zf]);omega)) [hi,zF,hf,ht,ha,w1,o8,ha40,o14,hrd,o7]
    generalize (y.new (.rows false 3 [[I 0,I 0,I 0]])).put y.next (.rows false 3 [[I fn,I an,I tn]])=y2 at*
    refine zdA mi fn hmi (by omega) ?_
    cases w3:mi.testBit fn with
    |false=>
     simp(disch:=((try simp only[zc,ze,zf]);omega)) [w3]
     exact again _ _ _ _ _ hM2 (skip fun h=>by rw[w3] at h;exact absurd h.2.2.1 (by simp))
    |true=>
     have o7':=hM2.o7
     simp[w3,o7',o2]
     refine zdA mi tn hmi (by omega) ?_
     cases w4:mi.testBit tn with
     |false=>
      simp(disch:=((try simp only[zc,ze,zf]);omega)) [w4]
      exact again _ _ _ _ _ hM2 (skip fun h=>by rw[w4] at h;exact absurd h.2.2.2 (by simp))
     |true=>
      clear skip
      have o14':=hM2.o14
      have hM3:=hM2.done (b9.set an true)
      rw[List.map_set] at hM3 hw1
      have n3:M.next+7≠y.next:=by omega
      have hat:=hP.way.inn hn
      have lb2:Lb (fun j=>j<M.next+8∨j=y.next) y2 d l:=hM.lb.keep (by omega) (fun j hj _=>s2 j hj) (fun j hj hb=>hb.elim id fun e=>by omega)
      have lb3:=lb2.put (j:=M.next+7) (.inl (by omega)) (.rows false 40 [(b9.map DV.bool).set an (.bool true)])
      have o2':(y2.put (M.next+7) (.rows false 40 [(b9.map DV.bool).set an (.bool true)])).obj y.next=some (.rows false 3 [[I fn,I an,I tn]]):=by simp(disch:=omega) [o2]
      have n4:y.next+1<(y2.put (M.next+7) (.rows false 40 [(b9.map DV.bool).set an (.bool true)])).next:=by simp;omega
      simp[w4,o2,o14',ha40,hw1]
      generalize y2.put (M.next+7) (.rows false 40 [(b9.map DV.bool).set an (.bool true)])=y4 at*
      have hcnt:=cnt_set (l:=b9) (a:=an) (by rw[List.getElem?_eq_getElem hab,w2])
      have hc40:(b9.set an true).countP (fun b=>b)≤40:=by
       have:=List.countP_le_length (p:=fun b:Bool=>b) (l:=b9.set an true);rw[List.length_set,hb] at this;exact this
      have hPl:=hP.len
      refine walk_ok hg hN hmi w _ (fun v=>decide (v=fn)) (bad:=fun j=>j<M.next+8∨j=y.next) hM3.o5 hM3.o12 hM3.o7 hM3.o8 hM3.o11 lb3 ⟨.inl (by omega),by omega⟩ ⟨.inl (by omega),by omega⟩ ⟨.inl (by omega),by omega⟩ (by omega) (fun j hj hh=>by rcases hh with hh|hh<;>omega) (hin _ hat) (by omega)
       (fun v hv {M1 k kp} s1 s2 hk=>is2_ok (zM s1 (by omega) o2') hk) ⟨fn,zgK hC hat w3,by simp⟩ fun y5 d5 l2 m hw2 hqm hl2 hn5 hf5 oa5 oo5 lb5=> ?_
      obtain rfl:m=fn:=by simpa using hqm
      have hM5:=hM3.walk (bad:=fun j=>j<M.next+8∨j=y.next) (fun j hj=>.inl hj) hn5 hf5 oa5 oo5 lb5
      have o2'':y5.obj y.next=some (.rows false 3 [[I m,I an,I tn]]):=by
       rw[←o2'];show(y5.get y.next).map _=(y4.get y.next).map _;rw[hf5 y.next (by omega) (.inr rfl) (by omega) (by omega)]
      simp[oo5]
      refine Rs_lb (x:=i) (lb5.new _) (by simp;omega) (by intro hh;simp at hh;omega) (by simp) fun d6 y6 lb6 hn6 hf6=> ?_
      obtain⟨ce1,ce2⟩:=lb6.cell
      have n7:y5.next<y6.next:=by simp at hn6;omega
      have hf6': ∀j,j<y5.next→(j<M.next+8∨j=y.next)→y6.get j=y5.get j:=fun j h1 h2=>by rw[hf6 j (by simp;omega) h2,get_new,if_neg (by omega)]
      have ob6: ∀j o,j<y5.next→(j<M.next+8∨j=y.next)→y5.obj j=some o→y6.obj j=some o:=fun j o h1 h2 h3=>by
       rw[←h3];show(y6.get j).map _=(y5.get j).map _;rw[hf6' j h1 h2]
      have r11:=ob6 _ _ (by omega) (.inl (by omega)) hM5.o11
      have r12:=ob6 _ _ (by omega) (.inl (by omega)) hM5.o12
      have r16:=ob6 _ _ (by omega) (.inr rfl) o2''
      have e1:y.next≠M.next+4:=by omega
      simp(disch:=((try simp only[zc,ze,zf]);omega)) [r11,r12,r16,ce1,ce2]
      refine again _ d6 (l++l2++[(i:Int)]) tn (b9.set an true) (hM5.walk (bad:=fun j=>j<M.next+8∨j=y.next) (fun j hj=>.inl hj) (by simp;omega) (fun j h1 h2 h3 h4=> ?_) (by simp) (by simp(disch:=omega)) ((lb6.put (.inl (by omega)) _).put (.inl (by omega)) _)) ⟨(hP.way.trans hw2).snoc i hi hf (by rw[ha];exact w1) tn ht w4,by simp[hb],?_,fun q hq hqi h1 h2 h3=> ?_,fun a h=> ?_⟩
      ·rw[get_put,if_neg h3,get_put,if_neg h4];exact hf6' j h1 h2
      ·rw[hcnt];simp;omega
      ·rw[List.getElem?_set]
       by_cases e:an=g.es[q].a.toNat
       ·rw[if_pos e,if_pos (by omega)]
       ·rw[if_neg e]
        refine hP.act q hq ?_ h1 h2 h3
        by_cases e2:q=i
        ·subst e2;rw[ha] at e;exact absurd rfl e
        ·omega
      ·rw[List.getElem?_set] at h
       by_cases e:an=a
       ·subst e
        exact⟨i,by simp,by rw[zjC hi];exact ha⟩
       ·rw[if_neg e] at h
        obtain⟨x,hx1,hx2⟩:=hP.has a h
        exact⟨x,by simp[hx1],hx2⟩
 ·obtain⟨y,d,l,at_,b9⟩:=z
  obtain⟨hM,hP⟩:=hP
  dsimp only at*
  have hx:=hM.nx
  have hat:=hP.way.inn hn
  have hway:=hP.way
  have hPl:=hP.len
  have hc40:b9.countP (fun b=>b)≤40:=by
   have:=List.countP_le_length (p:=fun b:Bool=>b) (l:=b9);rw[hP.b] at this;exact this
  have hact: ∀x,x≠w→Ins (EG g) (fun v=>mi.testBit v=true) x→ ∃e∈l,(eAt g.es e).a=x:=fun x hx ⟨a,b,⟨e,h1,h2,h3,h4⟩,h5,h6⟩=>by
   obtain⟨q,hq,rfl⟩:=List.getElem_of_mem h1
   have h0:=(hg.ok _ h1).a0
   have:=hP.act q hq hq (by rw[h3];exact hx) (by rw[h2];simpa using h5) (by rw[h4];simpa using h6)
   obtain⟨z,hz1,hz2⟩:=hP.has _ this
   exact⟨z,hz1,by rw[hz2,←h3];omega⟩
  clear hP
  have o5:=hM.o5
  cases also with
  |false=>
   simp
   refine walk_ok hg hN hmi w _ (fun v=>decide (v=n)) (bad:=fun j=>j<M.next+8) hM.o5 hM.o12 hM.o7 hM.o8 hM.o11 hM.lb ⟨by omega,by omega⟩ ⟨by omega,by omega⟩ ⟨by omega,by omega⟩ (by omega) (fun j hj hh=>by omega) (hin _ hat) (by(try simp);omega)
    (fun v hv {M1 k kp} s1 s2 hk=>is4_ok (zM s1 (by omega) hM.o6) hk) ⟨n,zgK hC hat hn,by simp⟩ fun y5 d5 l2 m hw2 hqm hl2 hn5 hf5 oa5 oo5 lb5=> ?_
   obtain rfl:m=n:=by simpa using hqm
   simp[oo5]
   refine Back.lb lb5 (fun j hj=>by omega) (fun j hj=>(hf5 j (by omega) (by omega) (by omega) (by omega)).trans (hM.sm j hj)) (hk _ ⟨hway.trans hw2,fun x hx hi=> ?_,(fun h=>by cases h),by(try simp);omega⟩)
   obtain⟨e,h1,h2⟩:=hact x hx hi
   exact⟨e,List.mem_append_left _ h1,h2⟩
  |true=>
   obtain⟨a,b,hE,hPa⟩:=hal rfl
   have haN:=hin a hPa
   simp
   refine walk_ok hg hN hmi w _ (fun v=>opnB g (2^v:Nat).testBit w) (bad:=fun j=>j<M.next+8) hM.o5 hM.o12 hM.o7 hM.o8 hM.o11 hM.lb ⟨by omega,by omega⟩ ⟨by omega,by omega⟩ ⟨by omega,by omega⟩ (by omega) (fun j hj hh=>by omega) (hin _ hat) (by omega)
    (fun v hv {M1 k kp} s1 s2 hk=>is3_ok hg (zM s1 (by omega) hM.o5) (zM s1 (by omega) hM.o8) (by omega) (by omega) (by omega) hk) ⟨a,zgK hC hat hPa,(zh6 hg).2 ⟨a,b,hE,by simp⟩⟩ fun y4 d4 l1 v hw1 hqv hl1 hn4 hf4 oa4 oo4 lb4=> ?_
   obtain⟨a2,b2,⟨e2,hE2,hE2f,hE2a,_⟩,hva⟩:=(zh6 hg).1 hqv
   have hva:v=a2:=by rw[Nat.testBit_two_pow,decide_eq_true_iff] at hva;exact hva
   subst hva
   have hM:=hM.walk (bad:=fun j=>j<M.next+8) (fun j hj=>hj) hn4 hf4 oa4 oo4 lb4
   have hat:=hw1.inn hat
   have hway:=hway.trans hw1
   have hact: ∀x,x≠w→Ins (EG g) (fun v=>mi.testBit v=true) x→ ∃e∈l++l1,(eAt g.es e).a=x:=fun x hx hi=>by
    obtain⟨e,h1,h2⟩:=hact x hx hi
    exact⟨e,by simp[h1],h2⟩
   simp
   refine walk_ok hg hN hmi w _ (fun v=>decide (v=n)) (bad:=fun j=>j<M.next+8) hM.o5 hM.o12 hM.o7 hM.o8 hM.o11 hM.lb ⟨by omega,by omega⟩ ⟨by omega,by omega⟩ ⟨by omega,by omega⟩ (by omega) (fun j hj hh=>by omega) (hin _ hat) (by(try simp);omega)
    (fun v hv {M1 k kp} s1 s2 hk=>is4_ok (zM s1 (by omega) hM.o6) hk) ⟨n,zgK hC hat hn,by simp⟩ fun y5 d5 l2 m hw2 hqm hl2 hn5 hf5 oa5 oo5 lb5=> ?_
   obtain rfl:m=n:=by simpa using hqm
   simp[oo5]
   refine Back.lb lb5 (fun j hj=>by omega) (fun j hj=>(hf5 j (by omega) (by omega) (by omega) (by omega)).trans (hM.sm j hj)) (hk _ ⟨hway.trans hw2,fun x hx hi=> ?_,fun _=> ?_,by(try simp);omega⟩)
   ·obtain⟨e,h1,h2⟩:=hact x hx hi
    exact⟨e,List.mem_append_left _ h1,h2⟩
   have hvf: ∀z,(eAt g.es z).f=(v:Int)→ ∃e2∈g.es,e2.f=(eAt g.es z).f∧e2.a=w:=fun z hz=>⟨e2,hE2,by rw[hz];exact hE2f,hE2a⟩
   rcases hw2.head with⟨rfl,hvn⟩| ⟨z,hz,hzf⟩
   ·rcases hway.head with⟨h0,_⟩| ⟨z,hz,hzf⟩
    ·exfalso
     obtain⟨x,hx,hi⟩:=hC.ne
     obtain⟨e,h1,_⟩:=hact x hx hi
     rw[h0] at h1;cases h1
    ·exact⟨z,List.mem_append_left _ hz,hvf z (by rw[hzf,hvn])⟩
   ·exact⟨z,List.mem_append_right _ hz,hvf z hzf⟩
end Go.Ideal.S
set_option maxHeartbeats 1000000
namespace Go.Ideal.S
open Go Go.Ideal Q Classical
attribute [local simp] decide_eq_true decide_eq_false zH
variable {M:VM} {k kp:DV→VM→Prop} {n0:Nat}
theorem zig (g:Gr): ∀x∈eGr g,zcw x=true:=by intro x hx;simp[eGr] at hx;rcases hx with rfl|rfl|rfl<;>rfl
abbrev Rall (g:Gr) (w:Int):Nat→Nat→Prop:=RF g (fun _=>true) w
theorem star_lt {g:Gr} (hg:zbr g) {N:Nat} (hN:g.st=N) {p:Nat→Bool} {w:Int} {a v:Nat} (h:Star (RF g p w) a v) (ha:a<N):v<N:=
 h.keep (P:=fun v=>v<N) (fun x y _ ⟨e,h1,h2,h3,_⟩=>by have:=(hg.ok e h1).t1;omega) ha
def zeA (g:Gr) (a:Int):Prop:= ∃v,RgIn (EG g) a true (fun _=>True) v∧Star (Rall g (-1)) 0 v
def SureP (g:Gr) (a:Int):Prop:=(∀v:Nat,Star (Rall g a) 0 v→zdO g.es v)∧ ¬ ∃v,RgIn (EG g) a false (fun _=>True) v∧Star (Rall g a) 0 v
end Go.Ideal.S
set_option maxHeartbeats 2000000
namespace Go.Ideal.S
open Go Go.Ideal Q Classical
attribute [local simp] decide_eq_true decide_eq_false zH
attribute [local simp] c_w f_w r_w_1 r_w_2 r_w_3 r_w_4 r_w_5 r_w_6 r_w_7 r_w_8 r_w_9 r_w_10 r_w_11 r_w_13 r_w_15
variable {M:VM} {k kp:DV→VM→Prop} {n0:Nat}
theorem Way.nil_eq {g:Gr} {mi:Nat} {w:Int} {s t:Nat} {l:List Int} (h:Way g mi w s l t) (e:l=[]):t=s:=by
 cases h with
 |nil=>rfl
 |snoc=>simp at e
theorem core_all {g:Gr} (hg:zbr g) {N:Nat} (hN:g.st=N) {w:Int} {T:Nat} {ww:Int} (hT: ∀v,T.testBit v=true↔Star (RF g (fun v=>(lowB N).testBit v) ww) 0 v) (hw:ww= -1∨ww=w) {st:Bool}:
 (∃Q,Core (EG g) w st Q∧ ∀u,Q u→T.testBit u=true)↔ ∃v,RgIn (EG g) w st (fun _=>True) v∧Star (Rall g ww) 0 v:=by
 have hT2: ∀v,T.testBit v=true↔Star (Rall g ww) 0 v:=fun v=>(hT v).trans ⟨fun h=>h.imp fun a b=>(RF_low hg hN ww a b).1,fun h=>h.imp fun a b=>(RF_low hg hN ww a b).2⟩
 constructor
 ·rintro⟨Q,h1,h2⟩
  obtain⟨v,hv⟩:=h1.some
  exact⟨v,⟨Q,h1,fun _ _=>trivial,hv⟩,(hT2 v).1 (h2 v hv)⟩
 ·rintro⟨v,⟨Q,h1,_,hv⟩,h2⟩
  refine⟨Q,h1,fun u hu=>(hT2 u).2 ?_⟩
  refine h1.closed (T:=fun u=>Star (Rall g ww) 0 u) (fun a x b ha ⟨e,e1,e2,e3,e4⟩ hx=>ha.tail ⟨e,e1,e2,e4,?_,rfl⟩) hv h2 hu
  rcases hw with rfl|rfl
  ·have:=(hg.ok e e1).a0;omega
  ·rw[e3];exact hx
structure RgS (B:VM) (g:Gr) (a:Int) (p:Nat) (y:VM):Prop where
 sm:SM B.next B y
 nx:B.next+9≤y.next
 o3:y.obj (B.next+1)=some (intO a)
 o45:y.obj (B.next+2)=some (.rows false 1 [[.nilS]])∧y.obj (B.next+3)=some (intO 0)
 o6:y.obj (B.next+4)=some (grO g)
 o9:y.obj (B.next+8)=some (setO p)
theorem RgS.low {B y y':VM} {g:Gr} {a:Int} {p Y:Nat} (h:RgS B g a p y) (hY:B.next+9≤Y) (hs:SM Y y y') (hn:y.next≤y'.next):RgS B g a p y':=by
 have hx:=h.nx
 exact⟨zeB h.sm (zfh hs (by omega)),by omega,zM hs (by omega) h.o3,⟨zM hs (by omega) h.o45.1,zM hs (by omega) h.o45.2⟩,zM hs (by omega) h.o6,zM hs (by omega) h.o9⟩
theorem RgS.frame {B y y':VM} {g:Gr} {a:Int} {p:Nat} (h:RgS B g a p y) (hs:SM y.next y y') (hn:y.next≤y'.next):RgS B g a p y':=h.low h.nx hs hn
theorem jRing_ok {g:Gr} (hl:g.es.length≤1000000) {a:Int} (hK:zgU g a)
 (h1: ∀l p n,Core (EG g) a true (fun v=>p.testBit v=true)→p.testBit n=true→Star (Rall g (-1)) 0 n→RingOf g p a true n l→k (.tup [ints l,I 0]) M)
 (h2: ¬zeA g a→k (.tup [.nilS,I 5]) M):zy F (.fn n_w [] []) [.agg (eGr g),I a] M k kp:=by
 have hg:=hK.1
 have g1:=hg.s1;have g2:=hg.s2
 obtain⟨N,hN⟩: ∃N:Nat,g.st=N:=⟨g.st.toNat,by omega⟩
 apply zy.back
 refine .fn h_jam_Ring rfl (by simp[f_w]) ?_
 simp(disch:=((try simp only[zc,ze,zf]);omega))
 refine zy.nil [.agg (eGr g),I a] [] 1 (by simp) (fun x hx=> ?_) ?_
 ·simp at hx
  rcases hx with rfl|rfl|rfl
  ·exact .agg (b_Gr g)
  ·simp
  ·exact .lst (by simp)
 refine jknown_ok g hl a [] (by simp) ?_
 rw[decide_eq_true ⟨hK,fun x hx=>by cases hx⟩]
 have hcg: ∀x∈eGr g,zL x=true:=by intro x hx;simp[eGr] at hx;rcases hx with rfl|rfl|rfl<;>rfl
 have hgl:(eGr g).length=3:=rfl
 have eg:([I g.st,I g.ac,.lst 3 (g.es.map zF)]:List DV)=eGr g:=rfl
 simp(disch:=((try simp only[zc,ze,zf]);omega)) [eGr]
 simp only[eg]
 refine zf6 g hN (by omega) ?_
 simp[hcg,hgl]
 refine⟨zig g,?_⟩
 refine jleads_ok hg hN (zhd N (by omega)) (-1) (s0:=0) (by omega) fun T hT1 hT2=> ?_
 have hin: ∀v,T.testBit v=true→v<N:=fun v hv=>star_lt hg hN ((hT2 v).1 hv) (by omega)
 simp[hcg,hgl]
 refine jrings_ok hg hN a true (N+1) T hT1 hin (by have:=cntB_le (N:=N) (p:=T.testBit);omega) fun L hL=> ?_
 cases L with
 |nil=>
  simp
  refine .go c_w_14.eq_1 ?_
  simp
  refine Back.plain (by simp) (by repeat' (first|assumption|exact zt _ _|apply zu|apply zx|apply zA| ((try simp only[zc,ze,zf]);omega))) (h2 fun hs=> ?_)
  obtain⟨Q,hQ,hQT⟩:=(core_all hg hN hT2 (.inl rfl)).2 hs
  obtain⟨x,hx,_⟩:=hL.all Q hQ hQT
  cases hx
 |cons p L=>
  obtain⟨hp1,hp2,hp3⟩:=hL.snd p (by simp)
  have hpos:(0:Int)<(((L.length:Nat):Int)+1):=by omega
  simp
  refine .go c_w_14.eq_1 ?_
  simp[hpos,eU]
  refine zy.gen (Q:=RgS M g a p) ⟨(by repeat' (first|assumption|exact zt _ _|apply zu|apply zx|apply zA| ((try simp only[zc,ze,zf]);omega))),by simp only[zc,ze];omega,by simp(disch:=((try simp only[zc,ze]);omega)),⟨by simp(disch:=((try simp only[zc,ze]);omega)),by simp(disch:=((try simp only[zc,ze]);omega))⟩,by simp(disch:=((try simp only[zc,ze]);omega)) [eGr],by simp(disch:=((try simp only[zc,ze]);omega))⟩ fun y0 hy0=> ?_
  refine all_ok p fun M2 j1 s1 s2 s3 s4=> ?_
  have hM2:=hy0.frame s1 (by omega)
  have hn0:=hy0.nx
  simp
  refine all_rg p hp1 (Y:=j1) (p:=32) (Nat.le_refl _) s3 s4 rfl rfl rfl (fun i y=>RgS M g a p y∧ ∀v,v<i→p.testBit v=false) (fun y=>SM M.next M y∧M.next+4≤y.next∧ ∃l n,RingOf g p a true n l∧p.testBit n=true∧y.obj (M.next+2)=some (.rows false 1 [[ints l]])∧y.obj (M.next+3)=some (intO 0))
   ⟨hM2,fun v hv=>by omega⟩ (fun i y y' ⟨q1,q2⟩ s hn=>⟨q1.low (by omega) s hn,q2⟩) (fun y y' ⟨q1,q2,l,n,q3,q4,q5,q6⟩ s hn=>⟨zeB q1 (zfh s (by omega)),by omega,l,n,q3,q4,zM s (by omega) q5,zM s (by omega) q6⟩)
   (fun i y hi ⟨q1,q2⟩ hb=>⟨q1,fun v hv=> ?_⟩) (fun i y hi ⟨q1,q2⟩ hb ly oj o1 o2 Ka Kb ol hA fin ret=> ?_) (fun y ⟨q1,q2⟩ ly=> ?_) (fun y ⟨q1,q2,l,n,q3,q4,q5,q6⟩ ly=> ?_)
  ·by_cases e:v=i
   ·rw[e];exact hb
   ·exact q2 v (by omega)
  ·simp[c_w_12]
   refine hA _ _ ol ?_
   have r1:=q1.low (Y:=j1) (by omega) (y':=y.put M2.next o2) (zu (zt _ _) (by omega)) (by simp)
   have r2:(y.put M2.next o2).obj M2.next=some o2:=by simp
   have r5:M2.next<(y.put M2.next o2).next:=by simp;omega
   generalize y.put M2.next o2=y1 at*
   obtain⟨t1,t2,t3,⟨t4,t7⟩,t5,t6⟩:=r1
   simp[zgP,t5,t6,t3]
   simp only[eg]
   refine jring_ok hg hN hp1 a true true hp2 hb (fun v hv=>hin v (hp3 v hv)) (fun _=> ?_) fun l hR=> ?_
   ·rcases hp2.op with⟨_,h⟩| ⟨h,_⟩
    ·exact h
    ·cases h
   simp[t4,t7]
   refine ret _ _ (by simp(disch:=((try simp only[zc,ze]);omega)) [r2]) ⟨by simp;omega,zu (zu t1 (by omega)) (by omega),by simp;omega,l,i,hR,hb,by simp(disch:=omega),by simp⟩
  ·exfalso
   obtain⟨v,hv⟩:=hp2.some
   have hv2:=hin v (hp3 v hv)
   have hv:p.testBit v=true:=hv
   rw[q2 v (by omega)] at hv;cases hv
  ·simp[q5,q6]
   have hT:=(hT2 n).1 (hp3 n q4)
   refine Back.plain ?_ q1 (h1 l p n hp2 q4 (hT.imp fun a b=>(RF_low hg hN _ a b).1) q3)
   refine .tup fun x hx=> ?_
   simp only[List.mem_cons,List.not_mem_nil,or_false] at hx
   rcases hx with rfl|rfl
   ·exact b_lst b_Int l
   ·simp
end Go.Ideal.S
namespace Go.Ideal.S
open Go Go.Ideal Q Classical
attribute [local simp] decide_eq_true decide_eq_false zH
attribute [local simp] c_j f_j r_j_1 r_j_2 r_j_3 r_j_4 r_j_5 r_j_6 r_j_7 r_j_8 r_j_9 r_j_10 r_j_11 r_j_12 r_j_13 r_j_14 r_j_15 r_j_16 r_j_17 r_j_18 r_j_20
variable {M:VM} {k kp:DV→VM→Prop} {n0:Nat}
theorem zy.bound {F:FuncId→Option zn} {g:Nat} {a args:List DV} (h:zy F (.fn g [] []) (a++args) M k kp):zy F (.fn g a []) args M k kp:=by
 intro w hp fv vs hr hf hv
 obtain⟨a',c',rfl,ha,hc⟩:=hf.inv_fn
 obtain rfl:c'=[]:=List.length_eq_zero_iff.1 hc.len.symm
 obtain⟨n,o,e,q⟩:=h w hp (.func (.func g) ⟨[]⟩ ⟨[]⟩) (a'++vs) hr (.fn g rfl rfl (fun k d v a b=>by simp at a) (fun k d v a b=>by simp at a)) (ha.append hv)
 refine⟨n,o,?_,q⟩
 cases n with
 |zero=>exact e
 |succ n=>
  have e:((F g).bind fun cf=>zcx (E F n) cf ([]++(a'++vs)++[]) hp)=some o:=e
  show((F g).bind fun cf=>zcx (E F n) cf (a'++vs++[]) hp)=some o
  simpa using e
theorem ends2_ok {g:Gr} (hl:g.es.length≤1000000) (v:Nat) (hk:k (.bool (!decide (zdO g.es v))) M):zy F (.fn n_C [.agg (eGr g)] []) [I v] M k kp:=zy.bound (ends_ok g hl v hk)
theorem has2_ok (m n:Nat) (hm:m<2^64) (hn:n<64) (hk:k (.bool (m.testBit n)) M):zy F (.fn n_H [Go.Ideal.S.setD m] []) [I n] M k kp:=zy.bound (zdA m n hm hn hk)
end Go.Ideal.S
set_option maxHeartbeats 4000000
namespace Go.Ideal.S
open Go Go.Ideal Q Classical
attribute [local simp] decide_eq_true decide_eq_false zH
attribute [local simp] c_j f_j r_j_1 r_j_2 r_j_3 r_j_4 r_j_5 r_j_6 r_j_7 r_j_8 r_j_9 r_j_10 r_j_11 r_j_12 r_j_13 r_j_14 r_j_15 r_j_16 r_j_17 r_j_18 r_j_20
variable {M:VM} {k kp:DV→VM→Prop} {n0:Nat}
theorem b_tup3 {n:Nat} {a b c:DV} (h1:zJ n a) (h2:zJ n b) (h3:zJ n c):zJ n (.tup [a,b,c]):=.tup fun x hx=>by
 simp only[List.mem_cons,List.not_mem_nil,or_false] at hx
 rcases hx with rfl|rfl|rfl<;>assumption
theorem jAround_ok {g:Gr} (hl:g.es.length≤1000000) {a:Int} (hK:zgU g a) {N:Nat} (hN:g.st=N)
 (h1: ∀l n,Way g (lowB N) a 0 l n→ ¬zdO g.es n→l.length<N→k (.tup [ints l,.nilS,I 0]) M)
 (h2: ∀l n p l2,Way g (lowB N) a 0 l n→l.length<N→p.testBit n=true→Core (EG g) a false (fun v=>p.testBit v=true)→RingOf g p a false n l2→k (.tup [ints l,ints l2,I 0]) M)
 (h3:SureP g a→k (.tup [.nilS,.nilS,I 5]) M):zy F (.fn n_j [] []) [.agg (eGr g),I a] M k kp:=by
 have hg:=hK.1
 have g1:=hg.s1;have g2:=hg.s2
 have hcg: ∀x∈eGr g,zL x=true:=by intro x hx;simp[eGr] at hx;rcases hx with rfl|rfl|rfl<;>rfl
 have hgl:(eGr g).length=3:=rfl
 have eg:([I g.st,I g.ac,.lst 3 (g.es.map zF)]:List DV)=eGr g:=rfl
 apply zy.back
 refine .fn h_jam_Around rfl (by simp[f_j]) ?_
 simp
 refine zy.nil [.agg (eGr g),I a] [] 1 (by simp) (fun x hx=> ?_) ?_
 ·simp at hx
  rcases hx with rfl|rfl|rfl
  ·exact .agg (b_Gr g)
  ·simp
  ·exact .lst (by simp)
 refine jknown_ok g hl a [] (by simp) ?_
 rw[decide_eq_true ⟨hK,fun x hx=>by cases hx⟩]
 simp[eGr]
 simp only[eg]
 refine zf6 g hN (by omega) ?_
 simp[hcg,hgl]
 refine⟨zig g,?_⟩
 refine jpath_ok hg hN (zhd N (by omega)) a (s0:=0) (by omega) _ (fun v=> !decide (zdO g.es v)) (fun v hv {M1 k kp} s1 s2 hk=>ends2_ok hl v hk) (fun l n hw hq hlen=> ?_) (fun hno=> ?_)
 ·simp
  exact Back.plain (b_tup3 (b_lst b_Int l) (by simp) (by simp)) (by repeat' (first|assumption|exact zt _ _|apply zu|apply zx|apply zA| ((try simp only[zc,ze,zf]);omega))) (h1 l n hw (by simpa using hq) hlen)
 ·simp[hcg,hgl]
  refine zf6 g hN (by omega) ?_
  simp[hcg,hgl]
  refine⟨zig g,?_⟩
  refine jleads_ok hg hN (zhd N (by omega)) a (s0:=0) (by omega) fun T hT1 hT2=> ?_
  have hin: ∀v,T.testBit v=true→v<N:=fun v hv=>star_lt hg hN ((hT2 v).1 hv) (by omega)
  simp[hcg,hgl]
  refine jrings_ok hg hN a false (N+1) T hT1 hin (by have:=cntB_le (N:=N) (p:=T.testBit);omega) fun L hL=> ?_
  cases L with
  |nil=>
   simp
   refine .go c_j_19.eq_1 ?_
   simp
   refine Back.plain (b_tup3 (by simp) (by simp) (by simp)) (by repeat' (first|assumption|exact zt _ _|apply zu|apply zx|apply zA| ((try simp only[zc,ze,zf]);omega))) (h3 ⟨fun v hv=> ?_,fun hs=> ?_⟩)
   ·have:=hno v (hv.imp fun a b=>(RF_low hg hN _ a b).2)
    simpa using this
   ·obtain⟨Q,hQ,hQT⟩:=(core_all hg hN hT2 (.inr rfl)).2 hs
    obtain⟨x,hx,_⟩:=hL.all Q hQ hQT
    cases hx
  |cons p L=>
   obtain⟨hp1,hp2,hp3⟩:=hL.snd p (by simp)
   have hpos:(0:Int)<(((L.length:Nat):Int)+1):=by omega
   simp
   refine .go c_j_19.eq_1 ?_
   simp[hpos,eU,hcg,hgl]
   refine zf6 g hN (by omega) ?_
   simp[hcg,hgl]
   refine⟨zig g,?_⟩
   refine jpath_ok hg hN (zhd N (by omega)) a (s0:=0) (by omega) _ (fun v=>p.testBit v) (fun v hv {M1 k kp} s1 s2 hk=>has2_ok p v hp1 (by omega) hk) (fun l n hw hq hlen=> ?_) (fun hno=> ?_)
   ·have hE:=hw.edges
    have hlast:=hw.last
    rcases List.eq_nil_or_concat l with rfl| ⟨l',x,rfl⟩
    ·have hn0:=hw.nil_eq rfl
     subst hn0
     simp[hcg,hgl]
     refine jring_ok hg hN hp1 a false false hp2 hq (fun v hv=>hin v (hp3 v hv)) (fun h=>by cases h) fun l2 hR=> ?_
     simp
     exact Back.plain (b_tup3 (b_lst b_Int _) (b_lst b_Int l2) (by simp)) (by repeat' (first|assumption|exact zt _ _|apply zu|apply zx|apply zA| ((try simp only[zc,ze,zf]);omega))) (h2 [] 0 p l2 hw hlen hq hp2 hR)
    ·rw[List.concat_eq_append] at hw hlen hlast hE⊢
     rw[zjB] at hlast
     have hx:=hE x (by simp)
     obtain⟨e,rfl⟩:=Int.eq_ofNat_of_zero_le hx.1
     have he:e<g.es.length:=by omega
     rw[zjC he] at hlast
     have hll:(l'++[(e:Int)]).length=l'.length+1:=by simp
     rw[hll] at hlen
     have hpos2:(0:Int)<(((l'.length:Nat):Int)+1):=by omega
     have hsub:(((l'.length:Nat):Int)+1 - 1)=(l'.length:Nat):=by omega
     have hw1:zf5 .i64 (((l'.length:Nat):Int)+1 - 1)=(l'.length:Nat):=by rw[hsub];exact wrapF_in (by omega) (by omega)
     have hat:(List.map eInt l'++[eInt (e:Int)])[l'.length]? =some [I e]:=by rw[List.getElem?_append_right (by simp)];simp[eInt]
     simp(disch:=((try simp only[zc,ze,zf]);omega)) [hcg,hgl,hpos2,hat,he,zF,eGr,hlast]
     rw[eg]
     refine jring_ok hg hN hp1 a false false hp2 hq (fun v hv=>hin v (hp3 v hv)) (fun h=>by cases h) fun l2 hR=> ?_
     simp
     exact Back.plain (b_tup3 (b_lst b_Int _) (b_lst b_Int l2) (by simp)) (by repeat' (first|assumption|exact zt _ _|apply zu|apply zx|apply zA| ((try simp only[zc,ze,zf]);omega))) (h2 _ n p l2 hw (by rw[hll];exact hlen) hq hp2 hR)
   ·exfalso
    obtain⟨v,hv⟩:=hp2.some
    have:=hno v (((hT2 v).1 (hp3 v hv)))
    have hv:p.testBit v=true:=hv
    rw[hv] at this;cases this
end Go.Ideal.S
set_option maxHeartbeats 2000000
namespace Go.Ideal.S
open Go Go.Ideal Q Classical
attribute [local simp] decide_eq_true decide_eq_false zH
section
variable {bad bad':Nat→Prop} {y y':VM} {d:DV} {l:List Int} {x:Int}
end
variable {M:VM} {k kp:DV→VM→Prop} {n0:Nat}
end Go.Ideal.S
namespace Go.Ideal.S
end Go.Ideal.S
namespace Go.Ideal.S
open Go Go.Ideal Q Classical
attribute [local simp] decide_eq_true decide_eq_false zH
attribute [local simp] c_h f_h r_h_1 r_h_2 r_h_3 r_h_4 r_h_5 r_h_6 r_h_7 r_h_9
variable {M:VM} {k kp:DV→VM→Prop} {n0:Nat}
def eU8 (a:Int):List DV:=[.int .u8 a]
section
variable {B y y':VM} {g:Gr} {jm:Nat} {es:List (DV×DV)} {dl dr:DV} {l r:List Int}
end
end Go.Ideal.S
set_option maxHeartbeats 4000000
namespace Go.Ideal.S
open Go Go.Ideal Q Classical
attribute [local simp] decide_eq_true decide_eq_false zH
section
variable {B y y':VM} {g:Gr} {jm:Nat} {es:List (DV×DV)} {dl dr dl':DV} {l r l' r':List Int}
end
end Go.Ideal.S
namespace Go.Ideal.S
open Go Go.Ideal Q Classical
attribute [local simp] decide_eq_true decide_eq_false zH
variable {M:VM} {k kp:DV→VM→Prop} {n0:Nat}
end Go.Ideal.S
set_option maxHeartbeats 2000000
namespace Go.Ideal.S
open Go Go.Ideal Q Classical
attribute [local simp] decide_eq_true decide_eq_false zH
attribute [local simp] c_E f_E r_E_1 r_E_2 c_i f_i r_i_1 r_i_2 r_i_3 r_i_4 r_i_5 r_i_6 r_i_7 r_i_8 r_i_9 r_i_10 r_i_11 r_i_12 r_i_13 r_i_14 c_e f_e r_e_1 r_e_2 r_e_3 r_e_4 r_e_5 r_e_6 r_e_7 r_e_8 r_e_9 r_e_10 r_e_11 r_e_13 r_e_14 r_e_15 c_t f_t r_t_1 r_t_2
variable {M:VM} {k kp:DV→VM→Prop} {n0:Nat}
theorem nan_ok (x:Int) (hk:k (.bool false) M):zy F (.fn n_E [] []) [I x] M k kp:=by
 apply zy.back
 refine .fn zh0 rfl (by simp[f_E]) ?_
 repeat' (first| (simp(disch:=((try simp only[zc,ze,zf]);omega));first|done| ((first|simp only[zr,zm,zq,zk,zl,zh]|simp only[zj,zi]|rw[zg]);split)|skip)| ((first|simp only[zr,zm,zq,zk,zl,zh]|simp only[zj,zi]|rw[zg]);split))
 exact Back.plain (by simp) (by repeat' (first|assumption|exact zt _ _|apply zu|apply zx|apply zA| ((try simp only[zc,ze,zf]);omega))) hk
theorem cmp_ok (x y:Int) (hk:k (I (if x<y then -1 else if y<x then 1 else 0)) M):zy F (.fn n_i [] []) [I x,I y] M k kp:=by
 apply zy.back
 refine .fn zgD rfl (by simp[f_i]) ?_
 repeat' (first| (simp(disch:=((try simp only[zc,ze,zf]);omega));first|done| ((first|simp only[zr,zm,zq,zk,zl,zh]|simp only[zj,zi]|rw[zg]);split)|skip)| ((first|simp only[zr,zm,zq,zk,zl,zh]|simp only[zj,zi]|rw[zg]);split))
 refine nan_ok x ?_
 repeat' (first| (simp(disch:=((try simp only[zc,ze,zf]);omega));first|done| ((first|simp only[zr,zm,zq,zk,zl,zh]|simp only[zj,zi]|rw[zg]);split)|skip)| ((first|simp only[zr,zm,zq,zk,zl,zh]|simp only[zj,zi]|rw[zg]);split))
 refine nan_ok y ?_
 by_cases h1:x<y
 ·rw[if_pos h1] at hk
  repeat' (first| (simp(disch:=((try simp only[zc,ze,zf]);omega)) [h1];first|done| ((first|simp only[zr,zm,zq,zk,zl,zh]|simp only[zj,zi]|rw[zg]);split)|skip)| ((first|simp only[zr,zm,zq,zk,zl,zh]|simp only[zj,zi]|rw[zg]);split))
  exact Back.plain (by simp) (by repeat' (first|assumption|exact zt _ _|apply zu|apply zx|apply zA| ((try simp only[zc,ze,zf]);omega))) hk
 ·rw[if_neg h1] at hk
  by_cases h2:y<x
  ·rw[if_pos h2] at hk
   repeat' (first| (simp(disch:=((try simp only[zc,ze,zf]);omega)) [h1,h2];first|done| ((first|simp only[zr,zm,zq,zk,zl,zh]|simp only[zj,zi]|rw[zg]);split)|skip)| ((first|simp only[zr,zm,zq,zk,zl,zh]|simp only[zj,zi]|rw[zg]);split))
   exact Back.plain (by simp) (by repeat' (first|assumption|exact zt _ _|apply zu|apply zx|apply zA| ((try simp only[zc,ze,zf]);omega))) hk
  ·rw[if_neg h2] at hk
   repeat' (first| (simp(disch:=((try simp only[zc,ze,zf]);omega)) [h1,h2];first|done| ((first|simp only[zr,zm,zq,zk,zl,zh]|simp only[zj,zi]|rw[zg]);split)|skip)| ((first|simp only[zr,zm,zq,zk,zl,zh]|simp only[zj,zi]|rw[zg]);split))
   exact Back.plain (by simp) (by repeat' (first|assumption|exact zt _ _|apply zu|apply zx|apply zA| ((try simp only[zc,ze,zf]);omega))) hk
def cmpR:List Int→List Int→Int
 |x::l,y::m=>if x<y then -1 else if y<x then 1 else cmpR l m
 |_,_=>0
theorem zhs (L N:List Int) (hL:L.length=N.length) (hl:L.length≤1000) (hk:k (I (cmpR L N)) M):zy F (.fn n_e [] []) [ints L,ints N] M k kp:=by
 apply zy.back
 refine .fn zdM rfl (by simp[f_e]) ?_
 repeat' (first| (simp(disch:=((try simp only[zc,ze,zf]);omega));first|done| ((first|simp only[zr,zm,zq,zk,zl,zh]|simp only[zj,zi]|rw[zg]);split)|skip)| ((first|simp only[zr,zm,zq,zk,zl,zh]|simp only[zj,zi]|rw[zg]);split))
 refine .for (σ:=Unit) c_e_12.eq_1 (fun i _=>[(11,I i)]) (fun _=>M) (fun i _=>cmpR L N=cmpR (L.drop i) (N.drop i)) L.length () (by simp) rfl (by simp) (fun i x hi hP again=> ?_) (fun x hP=> ?_)
 ·have hi2:i<N.length:=by omega
  have hi3: ¬(N.length:Int)≤i:=by omega
  rw[List.drop_eq_getElem_cons hi,List.drop_eq_getElem_cons hi2,cmpR] at hP
  repeat' (first| (simp(disch:=((try simp only[zc,ze,zf]);omega)) [hi,hi2,hi3,eInt];first|done| ((first|simp only[zr,zm,zq,zk,zl,zh]|simp only[zj,zi]|rw[zg]);split)|skip)| ((first|simp only[zr,zm,zq,zk,zl,zh]|simp only[zj,zi]|rw[zg]);split))
  refine cmp_ok L[i] N[i] ?_
  by_cases h1:L[i]<N[i]
  ·rw[if_pos h1] at hP⊢
   rw[hP] at hk
   clear again
   repeat' (first| (simp(disch:=((try simp only[zc,ze,zf]);omega));first|done| ((first|simp only[zr,zm,zq,zk,zl,zh]|simp only[zj,zi]|rw[zg]);split)|skip)| ((first|simp only[zr,zm,zq,zk,zl,zh]|simp only[zj,zi]|rw[zg]);split))
   exact Back.plain (by simp) (by repeat' (first|assumption|exact zt _ _|apply zu|apply zx|apply zA| ((try simp only[zc,ze,zf]);omega))) hk
  ·rw[if_neg h1] at hP⊢
   by_cases h2:N[i]<L[i]
   ·rw[if_pos h2] at hP⊢
    rw[hP] at hk
    clear again
    repeat' (first| (simp(disch:=((try simp only[zc,ze,zf]);omega));first|done| ((first|simp only[zr,zm,zq,zk,zl,zh]|simp only[zj,zi]|rw[zg]);split)|skip)| ((first|simp only[zr,zm,zq,zk,zl,zh]|simp only[zj,zi]|rw[zg]);split))
    exact Back.plain (by simp) (by repeat' (first|assumption|exact zt _ _|apply zu|apply zx|apply zA| ((try simp only[zc,ze,zf]);omega))) hk
   ·rw[if_neg h2] at hP⊢
    have again:=again () hP
    simp at again
    repeat' (first| (simp(disch:=((try simp only[zc,ze,zf]);omega));first|done| ((first|simp only[zr,zm,zq,zk,zl,zh]|simp only[zj,zi]|rw[zg]);split)|skip)| ((first|simp only[zr,zm,zq,zk,zl,zh]|simp only[zj,zi]|rw[zg]);split))
    exact again
 ·have hne: ¬(L.length:Int)<N.length:=by omega
  rw[List.drop_of_length_le (Nat.le_refl _),List.drop_of_length_le (by omega)] at hP
  rw[hP] at hk
  repeat' (first| (simp(disch:=((try simp only[zc,ze,zf]);omega)) [hne];first|done| ((first|simp only[zr,zm,zq,zk,zl,zh]|simp only[zj,zi]|rw[zg]);split)|skip)| ((first|simp only[zr,zm,zq,zk,zl,zh]|simp only[zj,zi]|rw[zg]);split))
  exact Back.plain (by simp) (by repeat' (first|assumption|exact zt _ _|apply zu|apply zx|apply zA| ((try simp only[zc,ze,zf]);omega))) hk
theorem cmpR_bef (a b:Edge):0≤cmpR [a.f,a.a,a.t] [b.f,b.a,b.t]↔ ¬bef a b:=by
 unfold bef
 simp only[cmpR]
 by_cases h1:a.f=b.f
 ·rw[if_pos h1,if_neg (by omega),if_neg (by omega)]
  by_cases h2:a.a=b.a
  ·rw[if_pos h2,if_neg (by omega),if_neg (by omega)]
   split
   ·omega
   ·split<;>omega
  ·rw[if_neg h2]
   split
   ·omega
   ·split<;>omega
 ·rw[if_neg h1]
  split
  ·omega
  ·split<;>omega
theorem zgp (a b:Edge) (hk:k (I (cmpR [a.f,a.a,a.t] [b.f,b.a,b.t])) M):zy F (.fn n_t [] []) [.agg (zF a),.agg (zF b)] M k kp:=by
 apply zy.back
 refine .fn ze1 rfl (by simp[f_t]) ?_
 repeat' (first| (simp(disch:=((try simp only[zc,ze,zf]);omega)) [zF];first|done| ((first|simp only[zr,zm,zq,zk,zl,zh]|simp only[zj,zi]|rw[zg]);split)|skip)| ((first|simp only[zr,zm,zq,zk,zl,zh]|simp only[zj,zi]|rw[zg]);split))
 refine zy.frz (j:=M.next+1+1) (n:=3) (cap:=3) (sz:=1) (op:=false) [] [.ms (M.next+1+1+1) 0 3 3] (rs:=[[I a.f],[I a.a],[I a.t]]) (by simp(disch:=((try simp only[zc,zf]);omega))) rfl (by simp) (by simp) (by simp) ?_
 refine zy.frz (j:=M.next+1+1+1) (n:=3) (cap:=3) (sz:=1) (op:=false) [.lst 1 [[I a.f],[I a.a],[I a.t]]] [] (rs:=[[I b.f],[I b.a],[I b.t]]) (by simp(disch:=((try simp only[zc,zf]);omega))) rfl (by simp) (by simp) (by simp) ?_
 refine zhs [a.f,a.a,a.t] [b.f,b.a,b.t] rfl (by simp) ?_
 repeat' (first| (simp(disch:=((try simp only[zc,ze,zf]);omega));first|done| ((first|simp only[zr,zm,zq,zk,zl,zh]|simp only[zj,zi]|rw[zg]);split)|skip)| ((first|simp only[zr,zm,zq,zk,zl,zh]|simp only[zj,zi]|rw[zg]);split))
 exact Back.plain (by simp) (by repeat' (first|assumption|exact zt _ _|apply zu|apply zx|apply zA| ((try simp only[zc,ze,zf]);omega))) hk
def mn (f t a:Int):Int:=if a<(if t<f then t else f) then a else(if t<f then t else f)
def mx (f t:Int):Int:=if f<t then t else f
theorem min3 (f t a:Int):zcl false (I f) [I t,I a]=some (I (mn f t a)):=by
 show zcl false (.int .i64 (match ltI t f with|true=>t|false=>f)) [I a]=_
 rw[minmaxD_min]
 unfold mn
 rw[zc4]
 by_cases h:t<f<;>simp[h]
theorem mn_neg (f t a:Int):mn f t a<0↔f<0∨t<0∨a<0:=by
 unfold mn
 by_cases h:t<f
 ·rw[if_pos h];split<;>omega
 ·rw[if_neg h];split<;>omega
theorem mx_le (f t n:Int):n≤mx f t↔n≤f∨n≤t:=by unfold mx;split<;>omega
attribute [local simp] c_p f_p r_p_1 r_p_2 r_p_3 r_p_4 r_p_5 r_p_6 r_p_7 r_p_8 r_p_9 r_p_11
theorem formed_ok (g:Gr) (hl:g.es.length≤1000000) (hk: ∀b:Bool,(b=true↔zbr g)→k (.bool b) M):zy F (.fn n_p [] []) [.agg (eGr g)] M k kp:=by
 apply zy.back
 refine .fn zeJ rfl (by simp[f_p]) ?_
 by_cases hc:g.st<1∨60<g.st∨g.ac<0∨40<g.ac∨400<(g.es.length:Int)
 ·have hk:=hk false ⟨fun h=>by(cases h),fun h=>by(have:=h.s1;have:=h.s2;have:=h.a1;have:=h.a2;have:=h.el;omega)⟩
  repeat' (first| (simp(disch:=((try simp only[zc,ze,zf]);omega)) [eGr];first|done| ((first|simp only[zr,zm,zq,zk,zl,zh]|simp only[zj,zi]|rw[zg]);split)|skip)| ((first|simp only[zr,zm,zq,zk,zl,zh]|simp only[zj,zi]|rw[zg]);split))
  all_goals first|omega|exact Back.plain (by simp) (by repeat' (first|assumption|exact zt _ _|apply zu|apply zx|apply zA| ((try simp only[zc,ze,zf]);omega))) hk
 have h1: ¬g.st<1:=by omega
 have h2: ¬60<g.st:=by omega
 have h3: ¬g.ac<0:=by omega
 have h4: ¬40<g.ac:=by omega
 have h5: ¬400<(g.es.length:Int):=by omega
 clear hc
 repeat' (first| (simp(disch:=((try simp only[zc,ze,zf]);omega)) [eGr,h1,h2,h3,h4,h5];first|done| ((first|simp only[zr,zm,zq,zk,zl,zh]|simp only[zj,zi]|rw[zg]);split)|skip)| ((first|simp only[zr,zm,zq,zk,zl,zh]|simp only[zj,zi]|rw[zg]);split))
 refine .for (σ:=VM) c_p_10.eq_1 (fun i _=>[(32,I i)]) (fun y=>y) (fun i y=>(SM M.next M y∧M.next<y.next∧y.obj M.next=some (grO g))∧zj3 i g.es (EdgeOk g)∧SrtTo i g.es) g.es.length _ (by simp) rfl ⟨⟨(by repeat' (first|assumption|exact zt _ _|apply zu|apply zx|apply zA| ((try simp only[zc,ze,zf]);omega))),by simp,by simp⟩,.zero,fun q h hq=>by omega⟩ (fun i y hi hP again=> ?_) (fun y hP=> ?_)
 ·obtain⟨⟨p1,p2,p3⟩,hA,hS⟩:=hP
  have s2:SM y.next y ((y.new (.rows false 3 [[I 0,I 0,I 0]])).put y.next (.rows false 3 [[I g.es[i].f,I g.es[i].a,I g.es[i].t]])):=(by repeat' (first|assumption|exact zt _ _|apply zu|apply zx|apply zA| ((try simp only[zc,ze,zf]);omega)))
  have n2:M.next<((y.new (.rows false 3 [[I 0,I 0,I 0]])).put y.next (.rows false 3 [[I g.es[i].f,I g.es[i].a,I g.es[i].t]])).next:=by simp;omega
  have p1':=zeB p1 (zfh s2 (by omega))
  have p3':=zM s2 (by omega) p3
  have hm3:=min3 g.es[i].f g.es[i].t g.es[i].a
  by_cases c1:mn g.es[i].f g.es[i].t g.es[i].a<0
  ·have hk:=hk false ⟨fun h=>by(cases h),fun h=>by have q:=h.ok _ (List.getElem_mem hi);have:=(mn_neg _ _ _).1 c1;have:=q.f0;have:=q.t0;have:=q.a0;omega⟩
   clear again
   repeat' (first| (simp(disch:=((try simp only[zc,ze,zf]);omega)) [hi,zF,hm3,c1];first|done| ((first|simp only[zr,zm,zq,zk,zl,zh]|simp only[zj,zi]|rw[zg]);split)|skip)| ((first|simp only[zr,zm,zq,zk,zl,zh]|simp only[zj,zi]|rw[zg]);split))
   exact Back.plain (by simp) p1' hk
  ·have c1': ¬(g.es[i].f<0∨g.es[i].t<0∨g.es[i].a<0):=fun h=>c1 ((mn_neg _ _ _).2 h)
   have hmx:(if g.es[i].f<g.es[i].t then g.es[i].t else g.es[i].f)=mx g.es[i].f g.es[i].t:=rfl
   by_cases c2:g.st≤mx g.es[i].f g.es[i].t
   ·have hk:=hk false ⟨fun h=>by(cases h),fun h=>by have q:=h.ok _ (List.getElem_mem hi);have:=(mx_le _ _ _).1 c2;have:=q.f1;have:=q.t1;omega⟩
    clear again
    repeat' (first| (simp(disch:=((try simp only[zc,ze,zf]);omega)) [hi,zF,hm3,c1,p3,hmx,c2];first|done| ((first|simp only[zr,zm,zq,zk,zl,zh]|simp only[zj,zi]|rw[zg]);split)|skip)| ((first|simp only[zr,zm,zq,zk,zl,zh]|simp only[zj,zi]|rw[zg]);split))
    exact Back.plain (by simp) p1' hk
   ·have c2': ¬(g.st≤g.es[i].f∨g.st≤g.es[i].t):=fun h=>c2 ((mx_le _ _ _).2 h)
    by_cases c3:g.ac≤g.es[i].a
    ·have hk:=hk false ⟨fun h=>by(cases h),fun h=>by have q:=h.ok _ (List.getElem_mem hi);have:=q.a1;omega⟩
     clear again
     repeat' (first| (simp(disch:=((try simp only[zc,ze,zf]);omega)) [hi,zF,hm3,c1,p3,hmx,c2,c3];first|done| ((first|simp only[zr,zm,zq,zk,zl,zh]|simp only[zj,zi]|rw[zg]);split)|skip)| ((first|simp only[zr,zm,zq,zk,zl,zh]|simp only[zj,zi]|rw[zg]);split))
     exact Back.plain (by simp) p1' hk
    ·have hc:EdgeOk g g.es[i]:=⟨by omega,by omega,by omega,by omega,by omega,by omega⟩
     have hA2:=hA.succ hi hc
     rcases Nat.eq_zero_or_pos i with rfl|h0
     ·have again:=again _ ⟨⟨p1',n2,p3'⟩,hA2,hS.succ hi (by omega)⟩
      simp at again
      clear hk
      repeat' (first| (simp(disch:=((try simp only[zc,ze,zf]);omega)) [hi,zF,hm3,c1,p3,hmx,c2,c3];first|done| ((first|simp only[zr,zm,zq,zk,zl,zh]|simp only[zj,zi]|rw[zg]);split)|skip)| ((first|simp only[zr,zm,zq,zk,zl,zh]|simp only[zj,zi]|rw[zg]);split))
      exact again
     ·obtain⟨m,hm1⟩: ∃m,i - 1=m:=⟨_,rfl⟩
      have hm:m<g.es.length:=by omega
      have em:(i:Int) - 1=(m:Int):=by omega
      have hob:=cmpR_bef g.es[m] g.es[i]
      have ip:(0:Int)<i:=by omega
      by_cases hb:bef g.es[m] g.es[i]
      ·have again:=again _ ⟨⟨p1',n2,p3'⟩,hA2,hS.succ hi (fun _=>by simpa only[hm1] using hb)⟩
       have hob2: ¬0≤cmpR [g.es[m].f,g.es[m].a,g.es[m].t] [g.es[i].f,g.es[i].a,g.es[i].t]:=fun h=>hob.1 h hb
       simp at again
       clear hk
       repeat' (first| (simp(disch:=((try simp only[zc,ze,zf]);omega)) [hi,zF,hm3,c1,p3,hmx,c2,c3,ip,em,hm];first|done| ((first|simp only[zr,zm,zq,zk,zl,zh]|simp only[zj,zi]|rw[zg]);split)|skip)| ((first|simp only[zr,zm,zq,zk,zl,zh]|simp only[zj,zi]|rw[zg]);split))
       refine zgp g.es[m] g.es[i] ?_
       repeat' (first| (simp(disch:=((try simp only[zc,ze,zf]);omega)) [hob2];first|done| ((first|simp only[zr,zm,zq,zk,zl,zh]|simp only[zj,zi]|rw[zg]);split)|skip)| ((first|simp only[zr,zm,zq,zk,zl,zh]|simp only[zj,zi]|rw[zg]);split))
       exact again
      ·have hk:=hk false ⟨fun h=>by(cases h),fun h=>absurd (h.srt m (by omega) (by omega)) (fun q=>hb (by simpa only[show m+1=i by omega] using q))⟩
       have hob2:=hob.2 hb
       clear again
       repeat' (first| (simp(disch:=((try simp only[zc,ze,zf]);omega)) [hi,zF,hm3,c1,p3,hmx,c2,c3,ip,em,hm];first|done| ((first|simp only[zr,zm,zq,zk,zl,zh]|simp only[zj,zi]|rw[zg]);split)|skip)| ((first|simp only[zr,zm,zq,zk,zl,zh]|simp only[zj,zi]|rw[zg]);split))
       refine zgp g.es[m] g.es[i] ?_
       repeat' (first| (simp(disch:=((try simp only[zc,ze,zf]);omega)) [hob2];first|done| ((first|simp only[zr,zm,zq,zk,zl,zh]|simp only[zj,zi]|rw[zg]);split)|skip)| ((first|simp only[zr,zm,zq,zk,zl,zh]|simp only[zj,zi]|rw[zg]);split))
       exact Back.plain (by simp) p1' hk
 ·obtain⟨⟨p1,p2,p3⟩,hA,hS⟩:=hP
  have hk:=hk true ⟨fun _=>⟨by omega,by omega,by omega,by omega,by omega,hA.all,hS⟩,fun _=>rfl⟩
  repeat' (first| (simp(disch:=((try simp only[zc,ze,zf]);omega));first|done| ((first|simp only[zr,zm,zq,zk,zl,zh]|simp only[zj,zi]|rw[zg]);split)|skip)| ((first|simp only[zr,zm,zq,zk,zl,zh]|simp only[zj,zi]|rw[zg]);split))
  exact Back.plain (by simp) p1 hk
end Go.Ideal.S
set_option maxHeartbeats 4000000
namespace Go.Ideal.S
open Go Go.Ideal Q Classical
attribute [local simp] decide_eq_true decide_eq_false zH
variable {M:VM} {k kp:DV→VM→Prop} {n0:Nat}
theorem works_ok (hk:k (.bool true) M):zy F (.fn n_Y [] []) [] M k kp:=by
 apply zy.back
 refine .fn ze0 rfl (by simp[zg8]) ?_
 simp[zg8]
 exact Back.plain (by simp) (by repeat' (first|assumption|exact zt _ _|apply zu|apply zx|apply zA| ((try simp only[zc,ze,zf]);omega))) hk
attribute [local simp] c_J f_J r_J_1 r_J_2
theorem large_ok (g:Gr) (hk:k (.bool (decide ((500:Int)<(g.es.length:Int)))) M):zy F (.fn n_J [] []) [.agg (eGr g)] M k kp:=by
 apply zy.back
 refine .fn ze2 rfl (by simp[f_J]) ?_
 simp[eGr]
 exact Back.plain (by simp) (by repeat' (first|assumption|exact zt _ _|apply zu|apply zx|apply zA| ((try simp only[zc,ze,zf]);omega))) hk
end Go.Ideal.S
namespace Go.Ideal.S
open Go Go.Ideal Q Classical
attribute [local simp] decide_eq_true decide_eq_false zH
attribute [local simp] c_w f_w r_w_1 r_w_2 r_w_3 r_w_4 r_w_5 r_w_6 r_w_7 r_w_8 r_w_9 r_w_10 r_w_11 r_w_13 r_w_15
variable {M:VM} {k kp:DV→VM→Prop} {n0:Nat}
end Go.Ideal.S
namespace Go.Ideal.S
open Go Go.Ideal Q Classical
attribute [local simp] decide_eq_true decide_eq_false zH
attribute [local simp] c_j f_j r_j_1 r_j_2 r_j_3 r_j_4 r_j_5 r_j_6 r_j_7 r_j_8 r_j_9 r_j_10 r_j_11 r_j_12 r_j_13 r_j_14 r_j_15 r_j_16 r_j_17 r_j_18 r_j_20
variable {M:VM} {k kp:DV→VM→Prop} {n0:Nat}
theorem Way.rall {g:Gr} {mi:Nat} {w:Int} {s n:Nat} {l:List Int} (h:Way g mi w s l n):Star (Rall g w) s n:=h.star.imp fun a b ⟨e,h1,h2,h3,h4,_⟩=>⟨e,h1,h2,h3,h4,rfl⟩
theorem not_sure_end {g:Gr} {a:Int} {n:Nat} (h:Star (Rall g a) 0 n) (hn: ¬zdO g.es n): ¬SureP g a:=fun hs=>hn (hs.1 n h)
theorem not_sure_core {g:Gr} {a:Int} {n:Nat} {Q:Nat→Prop} (h:Star (Rall g a) 0 n) (hQ:Core (EG g) a false Q) (hn:Q n): ¬SureP g a:=fun hs=>hs.2 ⟨n,⟨Q,hQ,fun _ _=>trivial,hn⟩,h⟩
end Go.Ideal.S
namespace Go.Ideal.S
open Go Go.Ideal Q Classical
variable {g:Gr} {N s0 n:Nat} {last w:Int} {l:List Int} {s:Nat→Nat} {r:Nat→List Int}
end Go.Ideal.S
namespace Go.Ideal.S
open Go Go.Ideal Q Classical
attribute [local simp] decide_eq_true decide_eq_false zH
variable {M:VM} {k kp:DV→VM→Prop} {n0:Nat}
end Go.Ideal.S
namespace Go.Ideal.S
open Go Go.Ideal Q Classical
attribute [local simp] decide_eq_true decide_eq_false zH
variable {M:VM} {k kp:DV→VM→Prop} {n0:Nat}
end Go.Ideal.S
namespace Go.Ideal.S
open Go Go.Ideal Q Classical
attribute [local simp] decide_eq_true decide_eq_false zH
attribute [local simp] c_c f_c r_c_1 r_c_2 r_c_3 r_c_4 r_c_5 r_c_6 r_c_7 r_c_9
variable {M:VM} {k kp:DV→VM→Prop} {n0:Nat}
end Go.Ideal.S
namespace Go.Ideal.S
open Go Go.Ideal Q Classical
attribute [local simp] decide_eq_true decide_eq_false zH
variable {M:VM} {k kp:DV→VM→Prop}
section
end
section
end
section
variable {g:Gr} {N s0 n:Nat} {last w:Int} {l:List Int} {s:Nat→Nat} {r:Nat→List Int}
end
end Go.Ideal.S
namespace Go.Ideal.S
open Go Go.Ideal Q Classical
attribute [local simp] decide_eq_true decide_eq_false zH
attribute [local simp] c_l f_l r_l_1 r_l_2 r_l_3 r_l_4 r_l_5 r_l_6 r_l_7 r_l_9 r_l_10 r_l_11 r_l_12 r_l_13 r_l_15
variable {M:VM} {k kp:DV→VM→Prop} {n0:Nat}
structure zfg (n fr:Nat) (f:Nat→Nat):Prop where
 lt: ∀x,x<n→f x<n
 inj: ∀x y,x<n→y<n→f x=f y→x=y
 fix: ∀x,x<fr→f x=x
theorem zfg.id (n fr:Nat):zfg n fr fun v=>v:=⟨fun _ h=>h,fun _ _ _ _ h=>h,fun _ _=>rfl⟩
theorem zfg.swap {n fr:Nat} {f:Nat→Nat} (h:zfg n fr f) {i j:Nat} (hi:i<n) (hj:j<n) (h1:fr≤i) (h2:fr≤j):zfg n fr (up1 (up1 f i (f j)) j (f i)):=by
 have key: ∀x,up1 (up1 f i (f j)) j (f i) x=f (if x=j then i else if x=i then j else x):=fun x=>by
  unfold up1
  split
  ·rfl
  ·split<;>rfl
 have lt: ∀x,x<n→(if x=j then i else if x=i then j else x)<n:=fun x hx=>by
  split
  ·exact hi
  ·split<;>assumption
 refine⟨fun x hx=>by rw[key];exact h.lt _ (lt x hx),fun x y hx hy e=> ?_,fun x hx=>by rw[key,if_neg (by omega),if_neg (by omega)];exact h.fix x hx⟩
 rw[key,key] at e
 have:=h.inj _ _ (lt x hx) (lt y hy) e
 split at this<;>split at this<;>(try split at this)<;>(try split at this)<;>omega
def pI (f:Nat→Nat):Nat→Int:=fun v=>f v
theorem conv8 {n:Int} (h0:0≤n) (h1:n<256):convD .i64 (.int .u8 n)=some (I n):=by
 show some (DV.int .i64 (IntKind.i64.wrap n))=_
 have:IntKind.i64.wrap n=n:=by
  have:=wrapF_in (n:=n) (by omega) (by omega)
  rw[zfj] at this
  exact this
 rw[this]
theorem bin_rem {ek:EK} {a b:Int} (h:b≠0):binD .rem ek (.int .i64 a) (.int .i64 b)=some (I (a.tmod b)):=by
 show(((if eqI b 0=true then none else some (Value.int .i64 (a.tmod b))):Option Value).bind dOf1)=_
 rw[zho,decide_eq_false h]
 rfl
theorem turn_ok (n fr:Nat) (hn:n≤1000) (hf:fr≤1) (how:List Int) (hh: ∀b∈how,0≤b∧b<256) (hk: ∀f,zfg n fr f→k (.lst 1 (R1 (pI f) n)) M):zy F (.fn n_l [] []) [I n,I fr,.lst 1 (how.map eU8)] M k kp:=by
 apply zy.back
 refine .fn zfx rfl (by simp[f_l]) ?_
 have hb:n*8≤1073741824:=by omega
 have hb2:n≤1073741824:=by omega
 have e0:List.replicate n [I 0]=R1 (pI fun _=>0) n:=by rw[R1_no];rfl
 repeat' (first| (simp(disch:=((try simp only[zc,ze,zf]);omega)) [hb,hb2];first|done| ((first|simp only[zr,zm,zq,zk,zl,zh]|simp only[zj,zi]|rw[zg]);split)|skip)| ((first|simp only[zr,zm,zq,zk,zl,zh]|simp only[zj,zi]|rw[zg]);split))
 rw[e0]
 refine .for (σ:=VM×(Nat→Nat)) c_l_8.eq_1 (fun i _=>[(15,I i)]) (fun z=>z.1) (fun i z=>(SM M.next M z.1∧M.next<z.1.next∧z.1.obj M.next=some (.rows false 1 (R1 (pI z.2) n)))∧ ∀x,x<i→z.2 x=x) n (M.new (.rows false 1 (R1 (pI fun _=>0) n)),fun _=>0) (by simp) rfl ⟨⟨(by repeat' (first|assumption|exact zt _ _|apply zu|apply zx|apply zA| ((try simp only[zc,ze,zf]);omega))),by simp,zha _⟩,fun x hx=>by omega⟩ (fun i z hi hP again=> ?_) (fun z hP=> ?_)
 ·obtain⟨y,f⟩:=z
  obtain⟨⟨p1,p2,p3⟩,p4⟩:=hP
  dsimp only at*
  have hat:=zcU (f:=pI f) hi
  have again:=again (y.put M.next (.rows false 1 (R1 (pI (up1 f i i)) n)),up1 f i i) ⟨⟨(by repeat' (first|assumption|exact zt _ _|apply zu|apply zx|apply zA| ((try simp only[zc,ze,zf]);omega))),by simp;omega,by simp⟩,fun x hx=>by
   show up1 f i i x=x
   by_cases e:x=i
   ·rw[e,zdp]
   ·rw[zf8 f i e];exact p4 x (by omega)⟩
  have e1:(R1 (pI f) n).set i [I i]=R1 (pI (up1 f i i)) n:=by
   rw[zfJ];congr 1;funext v;unfold pI up1;split<;>rfl
  simp at again
  repeat' (first| (simp(disch:=((try simp only[zc,ze,zf]);omega)) [hi,p3,hat,e1];first|done| ((first|simp only[zr,zm,zq,zk,zl,zh]|simp only[zj,zi]|rw[zg]);split)|skip)| ((first|simp only[zr,zm,zq,zk,zl,zh]|simp only[zj,zi]|rw[zg]);split))
  exact again
 ·obtain⟨y,f⟩:=z
  obtain⟨⟨p1,p2,p3⟩,p4⟩:=hP
  dsimp only at*
  have hr:R1 (pI f) n=R1 (pI fun v=>v) n:=zjZ fun v hv=>by unfold pI;rw[p4 v hv]
  rw[hr] at p3
  repeat' (first| (simp(disch:=((try simp only[zc,ze,zf]);omega));first|done| ((first|simp only[zr,zm,zq,zk,zl,zh]|simp only[zj,zi]|rw[zg]);split)|skip)| ((first|simp only[zr,zm,zq,zk,zl,zh]|simp only[zj,zi]|rw[zg]);split))
  have hC: ∃C,(how=[]∧C=0)∨(how≠[]∧C=n - (fr+1)):=by
   by_cases e:how=[]
   ·exact⟨_,.inl ⟨e,rfl⟩⟩
   ·exact⟨_,.inr ⟨e,rfl⟩⟩
  obtain⟨C,hC⟩:=hC
  refine .for (σ:=VM×(Nat→Nat)) c_l_14.eq_1 (fun i _=>[(9,I ((fr+1+i:Nat):Int))]) (fun z=>z.1) (fun i z=>(SM M.next M z.1∧M.next<z.1.next∧z.1.obj M.next=some (.rows false 1 (R1 (pI z.2) n)))∧zfg n fr z.2) C (y,fun v=>v) (by simp) rfl ⟨⟨p1,p2,p3⟩,.id n fr⟩ (fun i z hi hP again=> ?_) (fun z hP=> ?_)
  ·clear p1 p2 p3 p4 hr
   obtain⟨y,f⟩:=z
   obtain⟨⟨p1,p2,p3⟩,p4⟩:=hP
   dsimp only at*
   have hne:how≠[]:=by
    rcases hC with⟨_,h⟩| ⟨h,_⟩
    ·omega
    ·exact h
   have hu:fr+1+i<n:=by
    rcases hC with⟨_,h⟩| ⟨_,h⟩<;>omega
   have hlp:0<how.length:=List.length_pos_iff.2 hne
   have e4:fr+1+(i+1)=fr+1+i+1:=rfl
   rw[e4] at again
   have hfu:fr+1≤fr+1+i:=by omega
   generalize fr+1+i=u at*
   obtain⟨q,hq⟩:=Int.eq_ofNat_of_zero_le (Int.tmod_nonneg (a:=(u:Int)) (how.length:Int) (by omega))
   have hqm:q<how.length:=by
    have:=Int.tmod_lt_of_pos (u:Int) (b:=(how.length:Int)) (by omega)
    omega
   have c3: ∀ek,binD .rem ek (.int .i64 (u:Int)) (.int .i64 (how.length:Int))=some (I q):=fun ek=>by
    rw[bin_rem (by omega),hq]
   obtain⟨b0,b1⟩:=hh _ (List.getElem_mem hqm)
   have c4:=conv8 b0 b1
   obtain⟨w,hw⟩:=Int.eq_ofNat_of_zero_le (Int.tmod_nonneg (a:=how[q]) ((u:Int) - fr+1) b0)
   have hwm:w<u - fr+1:=by
    have:=Int.tmod_lt_of_pos how[q] (b:=(u:Int) - fr+1) (by omega)
    omega
   have c5: ∀ek,binD .rem ek (.int .i64 how[q]) (.int .i64 ((u:Int) - fr+1))=some (I w):=fun ek=>by
    rw[bin_rem (by omega),hw]
   have hj:fr+w<n:=by omega
   have hrow:(how.map eU8)[q]? =some [.int .u8 how[q]]:=by simp[hqm,eU8]
   have h1:=zcU (f:=pI f) hu
   have h2:=zcU (f:=pI f) hj
   have j1:(0:Int)≤(fr:Int)+w:=by omega
   have j2:(fr:Int)+w<n:=by omega
   have j3:((fr:Int)+w).toNat=fr+w:=by omega
   have e1:(R1 (pI f) n).set u [.int .i64 (pI f (fr+w))]=R1 (pI (up1 f u (f (fr+w)))) n:=by
    rw[show([.int .i64 (pI f (fr+w))]:List DV)=[I (pI f (fr+w))] from rfl,zfJ]
    congr 1;funext v;unfold pI up1;split<;>rfl
   have e2:(R1 (pI (up1 f u (f (fr+w)))) n).set (fr+w) [.int .i64 (pI f u)]=R1 (pI (up1 (up1 f u (f (fr+w))) (fr+w) (f u))) n:=by
    rw[show([.int .i64 (pI f u)]:List DV)=[I (pI f u)] from rfl,zfJ]
    congr 1;funext v;unfold pI;conv=>rhs;unfold up1
    conv=>lhs;unfold up1
    split<;>rfl
   have h3:=zcU (f:=pI (up1 f u (f (fr+w)))) hj
   have again:=again ((y.put M.next (.rows false 1 (R1 (pI (up1 f u (f (fr+w)))) n))).put M.next (.rows false 1 (R1 (pI (up1 (up1 f u (f (fr+w))) (fr+w) (f u))) n)),up1 (up1 f u (f (fr+w))) (fr+w) (f u)) ⟨⟨(by repeat' (first|assumption|exact zt _ _|apply zu|apply zx|apply zA| ((try simp only[zc,ze,zf]);omega))),by simp;omega,by rw[z7,if_pos rfl]⟩,p4.swap hu hj (by omega) (by omega)⟩
   simp at again
   repeat' (first| (simp(disch:=((try simp only[zc,ze,zf]);omega)) [hu,hlp,c3,c4,c5,hqm,hrow,p3,h1,h2,hj,j1,j2,j3,e1,e2,h3];first|done| ((first|simp only[zr,zm,zq,zk,zl,zh]|simp only[zj,zi]|rw[zg]);split)|skip)| ((first|simp only[zr,zm,zq,zk,zl,zh]|simp only[zj,zi]|rw[zg]);split))
   exact again
  ·obtain⟨y,f⟩:=z
   obtain⟨⟨p1,p2,p3⟩,p4⟩:=hP
   dsimp only at*
   have hfin:Back k M (.ms M.next 0 n n) y:=Back.ms p3 (by simp) R1_row (Nat.le_refl _) p1 R1_below (hk f p4)
   rcases hC with⟨rfl,rfl⟩| ⟨h,rfl⟩
   ·repeat' (first| (simp(disch:=((try simp only[zc,ze,zf]);omega));first|done| ((first|simp only[zr,zm,zq,zk,zl,zh]|simp only[zj,zi]|rw[zg]);split)|skip)| ((first|simp only[zr,zm,zq,zk,zl,zh]|simp only[zj,zi]|rw[zg]);split))
    all_goals exact hfin
   ·have hu: ¬fr+1+(n - (fr+1))<n:=by omega
    repeat' (first| (simp(disch:=((try simp only[zc,ze,zf]);omega)) [hu];first|done| ((first|simp only[zr,zm,zq,zk,zl,zh]|simp only[zj,zi]|rw[zg]);split)|skip)| ((first|simp only[zr,zm,zq,zk,zl,zh]|simp only[zj,zi]|rw[zg]);split))
    all_goals exact hfin
end Go.Ideal.S
namespace Go.Ideal.S
open Go Go.Ideal Q Classical
section
variable {E E':Nat→Int→Nat→Prop} {π:Nat→Nat} {s:Int→Int}
structure Rn (E E':Nat→Int→Nat→Prop) (π:Nat→Nat) (s:Int→Int):Prop where
 to: ∀u x v,E u x v→E' (π u) (s x) (π v)
 of: ∀a y b,E' a y b→ ∃u x v,a=π u∧y=s x∧b=π v∧E u x v
 pi: ∀u v,π u=π v→u=v
 si: ∀x y,s x=s y→x=y
theorem Rn.of2 (h:Rn E E' π s) {u:Nat} {y:Int} {b:Nat} (e:E' (π u) y b): ∃x v,y=s x∧b=π v∧E u x v:=by
 obtain⟨u2,x,v,h1,h2,h3,h4⟩:=h.of _ _ _ e
 obtain rfl:=h.pi _ _ h1
 exact⟨x,v,h2,h3,h4⟩
theorem Rn.star (h:Rn E E' π s) {w:Int} {P:Nat→Prop} {P':Nat→Prop} (hP: ∀v,P v→P' (π v)) {u v:Nat} (hs:Star (zca E w P) u v):Star (zca E' (s w) P') (π u) (π v):=by
 induction hs with
 |refl=>exact .refl _
 |tail _ h2 ih=>
  obtain⟨x,h1,h3,h4⟩:=h2
  exact ih.tail ⟨s x,h.to _ _ _ h1,fun e=>h3 (h.si _ _ e),hP _ h4⟩
theorem Rn.starB (h:Rn E E' π s) {w:Int} {P':Nat→Prop} {u b:Nat} (hs:Star (zca E' (s w) P') (π u) b): ∃v,b=π v∧Star (zca E w fun v=>P' (π v)) u v:=by
 generalize ha:π u=a at hs
 induction hs with
 |refl=>exact⟨u,ha.symm,.refl _⟩
 |tail _ h2 ih=>
  obtain⟨v,rfl,hv⟩:=ih
  obtain⟨y,h1,h3,h4⟩:=h2
  obtain⟨x,v2,rfl,rfl,hE⟩:=h.of2 h1
  exact⟨v2,rfl,hv.tail ⟨x,hE,fun e=>h3 (by rw[e]),h4⟩⟩
theorem Rn.core (h:Rn E E' π s) {w:Int} {st:Bool} {P:Nat→Prop} (hC:Core E w st P):Core E' (s w) st fun b=> ∃v,b=π v∧P v:=by
 have opn: ∀x,Opn E P x→Opn E' (fun b=> ∃v,b=π v∧P v) (s x):=fun x ⟨a,b,h1,h2⟩=>⟨π a,π b,h.to _ _ _ h1,a,rfl,h2⟩
 have opnB: ∀y,Opn E' (fun b=> ∃v,b=π v∧P v) y→ ∃x,y=s x∧Opn E P x:=fun y ⟨a,b,h1,v,h2,h3⟩=>by
  rw[h2] at h1
  obtain⟨x,v2,rfl,rfl,hE⟩:=h.of2 h1
  exact⟨x,rfl,v,v2,hE,h3⟩
 have ins: ∀x,Ins E P x→Ins E' (fun b=> ∃v,b=π v∧P v) (s x):=fun x ⟨a,b,h1,h2,h3⟩=>⟨π a,π b,h.to _ _ _ h1,⟨a,rfl,h2⟩,b,rfl,h3⟩
 refine⟨?_,?_,?_,?_⟩
 ·obtain⟨x,hx,hi⟩:=hC.ne
  exact⟨s x,fun e=>hx (h.si _ _ e),ins x hi⟩
 ·rintro a b ⟨u,rfl,hu⟩ ⟨v,rfl,hv⟩
  exact h.star (fun v hv=>⟨v,rfl,hv⟩) (hC.con u v hu hv)
 ·intro y hy ho
  obtain⟨x,rfl,hx⟩:=opnB y ho
  exact ins x (hC.fair x (fun e=>hy (by rw[e])) hx)
 ·rcases hC.op with⟨h1,h2⟩| ⟨h1,h2⟩
  ·exact .inl ⟨h1,opn w h2⟩
  ·exact .inr ⟨h1,fun ho=>by
    obtain⟨x,hx,hx2⟩:=opnB _ ho
    obtain rfl:=h.si _ _ hx
    exact h2 hx2⟩
theorem Rn.coreB (h:Rn E E' π s) {w:Int} {st:Bool} {P':Nat→Prop} (hC:Core E' (s w) st P'):Core E w st fun v=>P' (π v):=by
 have opn: ∀x,Opn E (fun v=>P' (π v)) x→Opn E' P' (s x):=fun x ⟨a,b,h1,h2⟩=>⟨π a,π b,h.to _ _ _ h1,h2⟩
 have insB: ∀y,Ins E' P' y→ ∃x,y=s x∧Ins E (fun v=>P' (π v)) x:=fun y ⟨a,b,h1,h2,h3⟩=>by
  obtain⟨u,x,v,rfl,rfl,rfl,hE⟩:=h.of _ _ _ h1
  exact⟨x,rfl,u,v,hE,h2,h3⟩
 refine⟨?_,?_,?_,?_⟩
 ·obtain⟨y,hy,hi⟩:=hC.ne
  obtain⟨x,rfl,hx⟩:=insB y hi
  exact⟨x,fun e=>hy (by rw[e]),hx⟩
 ·intro a b ha hb
  obtain⟨v,hv,hst⟩:=h.starB (hC.con _ _ ha hb)
  rw[h.pi _ _ hv]
  exact hst
 ·intro x hx ho
  obtain⟨x2,h1,h2⟩:=insB _ (hC.fair (s x) (fun e=>hx (h.si _ _ e)) (opn x ho))
  rw[h.si _ _ h1];exact h2
 ·rcases hC.op with⟨h1,a,b,h2,h3⟩| ⟨h1,h2⟩
  ·obtain⟨u,x,v,rfl,hx,rfl,hE⟩:=h.of _ _ _ h2
   obtain rfl:=h.si _ _ hx
   exact .inl ⟨h1,u,v,hE,h3⟩
  ·exact .inr ⟨h1,fun ho=>h2 (opn w ho)⟩
theorem Rn.rg (h:Rn E E' π s) {w:Int} {st:Bool} {v:Nat}:RgIn E' (s w) st (fun _=>True) (π v)↔RgIn E w st (fun _=>True) v:=by
 constructor
 ·rintro⟨Q,h1,_,h3⟩
  exact⟨_,h.coreB h1,fun _ _=>trivial,h3⟩
 ·rintro⟨Q,h1,_,h3⟩
  exact⟨_,h.core h1,fun _ _=>trivial,v,rfl,h3⟩
theorem Rn.reach (h:Rn E E' π s) {w:Int} {u v:Nat}:Star (zca E' (s w) fun _=>True) (π u) (π v)↔Star (zca E w fun _=>True) u v:=by
 constructor
 ·intro hs
  obtain⟨v2,hv,h2⟩:=h.starB hs
  rw[h.pi _ _ hv];exact h2
 ·exact h.star fun _ _=>trivial
end
theorem ziO {g:Gr} {w:Int} {a b:Nat}:Star (Rall g w) a b↔Star (zca (EG g) w fun _=>True) a b:=
 ⟨fun h=>h.imp fun a b ⟨e,h1,h2,h3,h4,_⟩=>⟨e.a,⟨e,h1,h2,rfl,h3⟩,h4,trivial⟩,fun h=>h.imp fun a b ⟨x,⟨e,h1,h2,h3,h4⟩,h5,_⟩=>⟨e,h1,h2,h4,by rw[h3];exact h5,rfl⟩⟩
theorem zkr {g:Gr} (hg:zbr g) {v:Nat}:zdO g.es (v:Int)↔ ∃x b,EG g v x b:=by
 constructor
 ·rintro⟨e,he,hf⟩
  have:=(hg.ok e he).t0
  exact⟨e.a,e.t.toNat,e,he,hf,rfl,by omega⟩
 ·rintro⟨x,b,e,he,hf,_⟩
  exact⟨e,he,hf⟩
theorem Rn.starts {g h:Gr} (hg:zbr g) (hh:zbr h) {π:Nat→Nat} {s:Int→Int} (r:Rn (EG g) (EG h) π s) {v:Nat}:zdO h.es (π v:Nat)↔zdO g.es (v:Int):=by
 rw[zkr hg,zkr hh]
 constructor
 ·rintro⟨x,b,e⟩
  obtain⟨x,v2,_,_,hE⟩:=r.of2 e
  exact⟨x,v2,hE⟩
 ·rintro⟨x,b,e⟩
  exact⟨_,_,r.to _ _ _ e⟩
theorem Rn.rall {g h:Gr} {π:Nat→Nat} {s:Int→Int} (r:Rn (EG g) (EG h) π s) {w:Int} {u v:Nat}:Star (Rall h (s w)) (π u) (π v)↔Star (Rall g w) u v:=by
 rw[ziO,ziO];exact r.reach
theorem Rn.rallB {g h:Gr} {π:Nat→Nat} {s:Int→Int} (r:Rn (EG g) (EG h) π s) {w:Int} {u b:Nat} (hs:Star (Rall h (s w)) (π u) b): ∃v,b=π v:=by
 obtain⟨v,hv,_⟩:=r.starB (ziO.1 hs)
 exact⟨v,hv⟩
theorem Rn.sure {g h:Gr} (hg:zbr g) (hh:zbr h) {π:Nat→Nat} {s:Int→Int} (r:Rn (EG g) (EG h) π s) (h0:π 0=0) {a:Int}:SureP h (s a)↔SureP g a:=by
 have key: ∀v,Star (Rall h (s a)) 0 (π v)↔Star (Rall g a) 0 v:=fun v=>by
  have:=r.rall (w:=a) (u:=0) (v:=v)
  rw[h0] at this;exact this
 have back: ∀b,Star (Rall h (s a)) 0 b→ ∃v,b=π v:=fun b hb=>r.rallB (u:=0) (by rw[h0];exact hb)
 unfold SureP
 constructor
 ·rintro⟨h1,h2⟩
  exact⟨fun v hv=>(r.starts hg hh).1 (h1 _ ((key v).2 hv)),fun⟨v,h3,h4⟩=>h2 ⟨π v,r.rg.2 h3,(key v).2 h4⟩⟩
 ·rintro⟨h1,h2⟩
  refine⟨fun b hb=> ?_,fun⟨b,h3,h4⟩=> ?_⟩
  ·obtain⟨v,rfl⟩:=back b hb
   exact(r.starts hg hh).2 (h1 v ((key v).1 hb))
  ·obtain⟨v,rfl⟩:=back b h4
   exact h2 ⟨v,r.rg.1 h3,(key v).1 h4⟩
theorem Rn.starved {g h:Gr} {π:Nat→Nat} {s:Int→Int} (r:Rn (EG g) (EG h) π s) (h0:π 0=0) (hs:s (-1)= -1) {a:Int}:zeA h (s a)↔zeA g a:=by
 have key: ∀v,Star (Rall h (-1)) 0 (π v)↔Star (Rall g (-1)) 0 v:=fun v=>by
  have:=r.rall (w:= -1) (u:=0) (v:=v)
  rw[h0,hs] at this;exact this
 unfold zeA
 constructor
 ·rintro⟨b,h3,h4⟩
  obtain⟨v,rfl⟩:=r.rallB (u:=0) (w:= -1) (by rw[h0,hs];exact h4)
  exact⟨v,r.rg.1 h3,(key v).1 h4⟩
 ·rintro⟨v,h3,h4⟩
  exact⟨π v,r.rg.2 h3,(key v).2 h4⟩
theorem Rn.mut {g h:Gr} {π:Nat→Nat} {s:Int→Int} (r:Rn (EG g) (EG h) π s) (hs:s (-1)= -1) {a b:Nat}:Mut h (π a) (π b)↔Mut g a b:=by
 have e: ∀a b,Star (Rall h (-1)) (π a) (π b)↔Star (Rall g (-1)) a b:=fun a b=>by
  have:=r.rall (w:= -1) (u:=a) (v:=b)
  rw[hs] at this;exact this
 exact and_congr (e a b) (e b a)
end Go.Ideal.S
namespace Go.Ideal.S
open Go Go.Ideal Q Classical
variable {M:VM} {k kp:DV→VM→Prop} {n0:Nat}
def vEdg (e:Edge):List Value:=[.int .i64 e.f,.int .i64 e.a,.int .i64 e.t]
def toTri (e:Edge):Tri:=⟨e.f,e.a,e.t⟩
theorem map_tri (l:List Edge):(l.map toTri).map vTri=l.map vEdg:=by rw[List.map_map];rfl
theorem flat_rel {w:Wd}: ∀l:List Edge,LRel w (l.map zF).flatten (l.map vEdg).flatten
 | []=>⟨rfl,fun k d v h _=>by cases h⟩
 |e::l=>by
  have h1:LRel w (zF e) (vEdg e):=⟨rfl,fun k d v hd hv=>by
   match k with
   |0=>cases hd;cases hv;exact .int _ _
   |1=>cases hd;cases hv;exact .int _ _
   |2=>cases hd;cases hv;exact .int _ _
   |k+3=>simp[zF] at hd⟩
  exact h1.append (flat_rel l)
theorem flat_int: ∀l:List Edge,∀d∈(l.map zF).flatten,∃n,d=I n:=by
 intro l d hd
 obtain⟨r,hr,hd⟩:=List.mem_flatten.1 hd
 obtain⟨e,_,rfl⟩:=List.mem_map.1 hr
 simp only[zF,List.mem_cons,List.not_mem_nil,or_false] at hd
 rcases hd with rfl|rfl|rfl<;>exact⟨_,rfl⟩
theorem flat_edges {w:Wd} (l:List Edge) (cs:List Value) (h:LRel w (l.map zF).flatten cs):cs=(l.map vEdg).flatten:=by
 have h2:=flat_rel (w:=w) l
 apply List.ext_getElem (h.len.symm.trans h2.len)
 intro i h3 h4
 have h5:i<(l.map zF).flatten.length:=by have:=h.len;omega
 have r1:=h.at_ i _ _ (List.getElem?_eq_getElem h5) (List.getElem?_eq_getElem h3)
 have r2:=h2.at_ i _ _ (List.getElem?_eq_getElem h5) (List.getElem?_eq_getElem h4)
 obtain⟨n,hn⟩:=flat_int l _ (List.getElem_mem h5)
 rw[hn] at r1 r2
 generalize cs[i]=c at r1
 generalize (l.map vEdg).flatten[i]=c2 at r2
 cases r1;cases r2;rfl
theorem zy.sort {F:FuncId→Option zn} {sn g:FuncId} {srt:List Value→List Value} {le:Edge→Edge→Bool} (hF:F sn=some (primP (ziu srt vTri 3 g))) (hsrt: ∀l:List Edge,srt (l.map vEdg).flatten=((l.mergeSort le).map vEdg).flatten)
 {l:List Edge} {j:Nat} (ho:M.obj j=some (.rows true 3 (l.map zF))) (hl:l.length<4611686018427387904) (hne:l≠[]) (hk:k (.tup []) (M.put j (.rows true 3 ((l.mergeSort le).map zF)))):zy F (.fn sn [] []) [.ms j 0 l.length zo,.fn g [] []] M k kp:=by
 intro w h fv vs hr hf hv
 obtain⟨a',c',rfl,ha,hc⟩:=hf.inv_fn
 have ha:a'=[]:=List.length_eq_zero_iff.1 ha.len.symm
 have hc:c'=[]:=List.length_eq_zero_iff.1 hc.len.symm
 subst ha hc
 obtain⟨v,v2,rfl⟩: ∃v v2,vs=[v,v2]:=by
  have:=hv.len
  match vs,this with
  | [v,v2],_=>exact⟨v,v2,rfl⟩
 have hv1:VRel w (.ms j 0 l.length zo) v:=hv.at_ 0 _ _ rfl rfl
 have hv2:VRel w (.fn g [] []) v2:=hv.at_ 1 _ _ rfl rfl
 obtain⟨a',c',rfl,ha,hc⟩:=hv2.inv_fn
 have ha:a'=[]:=List.length_eq_zero_iff.1 ha.len.symm
 have hc:c'=[]:=List.length_eq_zero_iff.1 hc.len.symm
 subst ha hc
 obtain⟨R,hR,rfl⟩: ∃R,w.rho j=some R∧v=.slice (some ⟨R.blk,0*R.sz,none⟩) l.length zo:=by
  cases hv1 with
  |ms h1 h2 h3=>exact⟨_,h1,rfl⟩
 obtain⟨st,hg⟩:=zbt ho
 obtain⟨hz,e,he,hro⟩:=hr.obj j _ st R hg hR
 cases hro with
 |rows hrows=>
  rename_i cs e'
  have hcs:=flat_edges l cs hrows.rel
  have he3:e'=3:=by rw[hrows.esz,if_pos rfl]
  subst hcs he3
  have hown:OwnS h 3 (.slice (some ⟨R.blk,0*R.sz,none⟩) l.length zo) (l.map vEdg):=.inr ⟨R.blk,by rw[List.length_map,Nat.zero_mul],(hr.dom j R hR).2,he⟩
  have hp:ziu srt vTri 3 g [.slice (some ⟨R.blk,0*R.sz,none⟩) l.length zo,fnV g] h=some (.tuple #[],h.put R.blk (.cells ((l.mergeSort le).map vEdg).flatten 3)):=by
   unfold ziu
   rw[if_pos ⟨_,l.map toTri,rfl,by rw[map_tri];exact hown,by rw[List.length_map];exact hl⟩]
   cases l with
   |nil=>exact absurd rfl hne
   |cons a l=>
    show some (_,(match h.get R.blk with|some (.cells cs e)=>h.put R.blk (.cells (srt cs) e)|_=>h))=_
    rw[he]
    show some (_,h.put R.blk (.cells (srt ((a::l).map vEdg).flatten) 3))=_
    rw[hsrt (a::l)]
  obtain⟨q1,q2⟩:=hr.put hg hR (o:=.rows true 3 ((l.mergeSort le).map zF)) (e:=.cells ((l.mergeSort le).map vEdg).flatten 3) (.rows ⟨hrows.hop,hrows.hsz,rfl,hrows.pos,fun r hr=>by
   obtain⟨q,_,rfl⟩:=List.mem_map.1 hr;rfl,flat_rel _⟩)
  refine⟨1,.val (.tuple #[]) (h.put R.blk (.cells ((l.mergeSort le).map vEdg).flatten 3)),?_,w,_,.tup [],q2,q1,.tup rfl (fun k d v h _=>by cases h),hk⟩
  show((F sn).bind fun cf=>zcx (E F 0) cf _ h)=_
  rw[hF,Option.bind_some]
  show(match ziu srt vTri 3 g [.slice (some ⟨R.blk,0*R.sz,none⟩) l.length zo,fnV g] h with|some x=>zeS h x|none=>_)=_
  rw[hp]
  show(if Nat.ble h.next _ then _ else _)=_
  rw[if_pos (Nat.ble_eq▸Nat.le_refl _)]
theorem zy.sort0 {F:FuncId→Option zn} {sn g:FuncId} {srt:List Value→List Value} (hF:F sn=some (primP (ziu srt vTri 3 g))) (hk:k (.tup []) M):zy F (.fn sn [] []) [.nilS,.fn g [] []] M k kp:=by
 intro w h fv vs hr hf hv
 obtain⟨a',c',rfl,ha,hc⟩:=hf.inv_fn
 have ha:a'=[]:=List.length_eq_zero_iff.1 ha.len.symm
 have hc:c'=[]:=List.length_eq_zero_iff.1 hc.len.symm
 subst ha hc
 obtain⟨v,v2,rfl⟩: ∃v v2,vs=[v,v2]:=by
  have:=hv.len
  match vs,this with
  | [v,v2],_=>exact⟨v,v2,rfl⟩
 have hv1:VRel w .nilS v:=hv.at_ 0 _ _ rfl rfl
 have hv2:VRel w (.fn g [] []) v2:=hv.at_ 1 _ _ rfl rfl
 obtain⟨a',c',rfl,ha,hc⟩:=hv2.inv_fn
 have ha:a'=[]:=List.length_eq_zero_iff.1 ha.len.symm
 have hc:c'=[]:=List.length_eq_zero_iff.1 hc.len.symm
 subst ha hc
 cases hv1
 have hown:OwnS h 3 (.slice none 0 0) (([]:List Edge).map vEdg):=.inl ⟨rfl,rfl⟩
 have hp:ziu srt vTri 3 g [.slice none 0 0,fnV g] h=some (.tuple #[],h):=by
  unfold ziu
  rw[if_pos ⟨_,([]:List Edge).map toTri,rfl,by rw[map_tri];exact hown,by decide⟩]
  rfl
 refine⟨1,.val (.tuple #[]) h,?_,w,M,.tup [],.refl _ _ _,hr,.tup rfl (fun k d v h _=>by cases h),hk⟩
 show((F sn).bind fun cf=>zcx (E F 0) cf _ h)=_
 rw[hF,Option.bind_some]
 show(match ziu srt vTri 3 g [.slice none 0 0,fnV g] h with|some x=>zeS h x|none=>_)=_
 rw[hp]
 show(if Nat.ble h.next _ then _ else _)=_
 rw[if_pos (Nat.ble_eq▸Nat.le_refl _)]
end Go.Ideal.S
namespace Go.Ideal.S
open Go Go.Ideal Q Classical
noncomputable def leE (a b:Edge):Bool:=decide (¬bef b a)
theorem bef_irr (a:Edge): ¬bef a a:=by unfold bef;simp
theorem leE_trans (a b c:Edge) (h1:leE a b=true) (h2:leE b c=true):leE a c=true:=by
 unfold leE bef at*
 simp only[decide_eq_true_eq] at*
 intro h
 revert h1 h2 h
 repeat' split
 all_goals omega
theorem leE_total (a b:Edge):(leE a b||leE b a)=true:=by
 unfold leE bef
 by_cases h:(if b.f=a.f then(if b.a=a.a then b.t<a.t else b.a<a.a) else b.f<a.f)
 ·have: ¬(if a.f=b.f then(if a.a=b.a then a.t<b.t else a.a<b.a) else a.f<b.f):=by
   revert h
   repeat' split
   all_goals omega
  simp[this]
 ·simp[h]
theorem leE_anti {a b:Edge} (h1:leE a b=true) (h2:a≠b):bef a b:=by
 unfold leE at h1
 simp only[decide_eq_true_eq] at h1
 refine Classical.byContradiction fun h3=>h2 ?_
 have:a.f=b.f∧a.a=b.a∧a.t=b.t:=by
  unfold bef at h1 h3
  revert h1 h3
  repeat' split
  all_goals omega
 cases a;cases b;simp at this;simp[this]
def tE (π σ:Nat→Nat) (e:Edge):Edge:=⟨pI π e.f.toNat,pI σ e.a.toNat,pI π e.t.toNat⟩
noncomputable def tG (g:Gr) (π σ:Nat→Nat):Gr:=⟨g.st,g.ac,(g.es.map (tE π σ)).mergeSort leE⟩
section
variable {g:Gr} {N A:Nat} {π σ:Nat→Nat}
theorem tE_inj (hg:zbr g) (hN:g.st=N) (hA:g.ac=A) (hp:zfg N 1 π) (hs:zfg A 0 σ) {a b:Edge} (ha:a∈g.es) (hb:b∈g.es) (h:tE π σ a=tE π σ b):a=b:=by
 have oa:=hg.ok a ha
 have ob:=hg.ok b hb
 have:=oa.f0;have:=oa.f1;have:=oa.a0;have:=oa.a1;have:=oa.t0;have:=oa.t1
 have:=ob.f0;have:=ob.f1;have:=ob.a0;have:=ob.a1;have:=ob.t0;have:=ob.t1
 unfold tE pI at h
 injection h with h1 h2 h3
 have e1:=hp.inj _ _ (by omega) (by omega) (Int.ofNat_inj.1 h1)
 have e2:=hs.inj _ _ (by omega) (by omega) (Int.ofNat_inj.1 h2)
 have e3:=hp.inj _ _ (by omega) (by omega) (Int.ofNat_inj.1 h3)
 cases a;cases b
 simp only at*
 congr 1<;>omega
theorem mem_tG {e:Edge}:e∈(tG g π σ).es↔ ∃d∈g.es,tE π σ d=e:=by
 show e∈(g.es.map (tE π σ)).mergeSort leE↔_
 rw[List.mem_mergeSort,List.mem_map]
theorem bef_trans {a b c:Edge} (h1:bef a b) (h2:bef b c):bef a c:=by
 unfold bef at*
 revert h1 h2
 repeat' split
 all_goals omega
theorem srt_lt (hg:zbr g): ∀(k q:Nat) (h:q+1+k<g.es.length),bef (g.es[q]'(by omega)) g.es[q+1+k]:=by
 intro k
 induction k with
 |zero=>intro q h;exact hg.srt q h h
 |succ k ih=>intro q h;exact bef_trans (ih q (by omega)) (hg.srt (q+1+k) h h)
theorem map_nodup (hg:zbr g) (hN:g.st=N) (hA:g.ac=A) (hp:zfg N 1 π) (hs:zfg A 0 σ):(g.es.map (tE π σ)).Nodup:=by
 refine List.pairwise_iff_getElem.2 fun i j hi hj hij e=> ?_
 rw[List.length_map] at hi hj
 rw[List.getElem_map,List.getElem_map] at e
 have e2:=tE_inj hg hN hA hp hs (List.getElem_mem hi) (List.getElem_mem hj) e
 have h:=srt_lt hg (j - (i+1)) i (by omega)
 have e3:i+1+(j - (i+1))=j:=by omega
 simp only[e3] at h
 rw[e2] at h
 exact bef_irr _ h
theorem tG_good (hg:zbr g) (hN:g.st=N) (hA:g.ac=A) (hp:zfg N 1 π) (hs:zfg A 0 σ):zbr (tG g π σ):=by
 refine⟨hg.s1,hg.s2,hg.a1,hg.a2,?_,?_,?_⟩
 ·show((g.es.map (tE π σ)).mergeSort leE).length≤400
  rw[List.length_mergeSort,List.length_map];exact hg.el
 ·intro e he
  obtain⟨d,hd,rfl⟩:=mem_tG.1 he
  have o:=hg.ok d hd
  have:=o.f0;have:=o.f1;have:=o.a0;have:=o.a1;have:=o.t0;have:=o.t1
  have h1:=hp.lt d.f.toNat (by omega)
  have h2:=hs.lt d.a.toNat (by omega)
  have h3:=hp.lt d.t.toNat (by omega)
  refine⟨?_,?_,?_,?_,?_,?_⟩<;>(show _;simp only[tE,pI,tG];omega)
 ·intro q h1 _
  have hpw:=List.pairwise_mergeSort leE_trans leE_total (g.es.map (tE π σ))
  have hnd:((g.es.map (tE π σ)).mergeSort leE).Nodup:=(List.mergeSort_perm _ _).nodup_iff.2 (map_nodup hg hN hA hp hs)
  exact leE_anti (List.pairwise_iff_getElem.1 hpw q (q+1) _ _ (by omega)) (List.pairwise_iff_getElem.1 hnd q (q+1) _ _ (by omega))
def xN (f:Nat→Nat) (n v:Nat):Nat:=if v<n then f v else v
def xI (f:Nat→Nat) (n:Nat) (x:Int):Int:=if 0≤x∧x<n then(f x.toNat:Int) else x
theorem xN_inj {f:Nat→Nat} {n fr:Nat} (h:zfg n fr f) (u v:Nat) (e:xN f n u=xN f n v):u=v:=by
 unfold xN at e
 by_cases a:u<n<;>by_cases b:v<n
 ·rw[if_pos a,if_pos b] at e;exact h.inj _ _ a b e
 ·rw[if_pos a,if_neg b] at e;have:=h.lt _ a;omega
 ·rw[if_neg a,if_pos b] at e;have:=h.lt _ b;omega
 ·rw[if_neg a,if_neg b] at e;exact e
theorem xI_inj {f:Nat→Nat} {n fr:Nat} (h:zfg n fr f) (x y:Int) (e:xI f n x=xI f n y):x=y:=by
 unfold xI at e
 by_cases a:0≤x∧x<n<;>by_cases b:0≤y∧y<n
 ·rw[if_pos a,if_pos b] at e
  have:=h.inj _ _ (by omega) (by omega) (Int.ofNat_inj.1 e)
  omega
 ·rw[if_pos a,if_neg b] at e;have:=h.lt x.toNat (by omega);omega
 ·rw[if_neg a,if_pos b] at e;have:=h.lt y.toNat (by omega);omega
 ·rw[if_neg a,if_neg b] at e;exact e
theorem tG_rn (hg:zbr g) (hN:g.st=N) (hA:g.ac=A) (hp:zfg N 1 π) (hs:zfg A 0 σ):Rn (EG g) (EG (tG g π σ)) (xN π N) (xI σ A):=by
 have key: ∀d∈g.es,tE π σ d=⟨(xN π N d.f.toNat:Nat),xI σ A d.a,(xN π N d.t.toNat:Nat)⟩:=fun d hd=>by
  have o:=hg.ok d hd
  have:=o.f0;have:=o.f1;have:=o.a0;have:=o.a1;have:=o.t0;have:=o.t1
  unfold tE pI xN xI
  rw[if_pos (by omega),if_pos (by omega),if_pos (by omega)]
 refine⟨fun u x v ⟨d,hd,h1,h2,h3⟩=> ?_,fun a y b ⟨e,he,h1,h2,h3⟩=> ?_,xN_inj hp,xI_inj hs⟩
 ·refine⟨_,mem_tG.2 ⟨d,hd,rfl⟩,?_⟩
  rw[key d hd,h1,h3,←h2]
  exact⟨rfl,rfl,rfl⟩
 ·obtain⟨d,hd,rfl⟩:=mem_tG.1 he
  have o:=hg.ok d hd
  have:=o.f0;have:=o.t0
  rw[key d hd] at h1 h2 h3
  exact⟨d.f.toNat,d.a,d.t.toNat,(Int.ofNat_inj.1 h1).symm,h2.symm,(Int.ofNat_inj.1 h3).symm,d,hd,by omega,rfl,by omega⟩
end
end Go.Ideal.S
