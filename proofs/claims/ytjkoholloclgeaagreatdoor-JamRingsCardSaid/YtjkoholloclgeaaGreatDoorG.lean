/- A part of the proof: the ideal machine, and what the functions of the program answer over it. -/
import Derived.Test.YtjkoholloclgeaaGreatDoorF
set_option linter.unusedSimpArgs false
set_option linter.unusedVariables false
set_option linter.unusedSectionVars false
set_option maxRecDepth 10000
set_option maxHeartbeats 1000000
namespace Go.Ideal.S
open Go Go.Ideal Q Classical
attribute [local simp] decide_eq_true decide_eq_false zQ
attribute [local simp] c_A f_A r_A_1 r_A_2 r_A_3 r_A_4 r_A_5 r_A_6 r_A_8 c_P f_P r_P_1 r_P_2 c_N f_N r_N_1 r_N_2 r_N_3 c_H f_H r_H_1 r_H_2 r_H_3 r_H_4 r_H_5 r_H_6 c_v f_v r_v_1 r_v_2 r_v_3 r_v_4 r_v_5 r_v_6 r_v_8
variable {M:VM} {k kp:DV→VM→Prop} {n0:Nat}
theorem zeD (g:Gr): ∀x∈eGr g,zcq x=true:=by intro x hx;simp[eGr] at hx;rcases hx with rfl|rfl|rfl<;>rfl
theorem meets_ok (f h:Nat→Bool) (N:Nat) (hN:N≤1000) (hk:k (.bool (decide (∃v,v<N∧f v=true∧h v=true))) M):zA F (.fn n_A [] []) [.lst 1 (B1 f N),.lst 1 (B1 h N)] M k kp:=by
 apply zA.back
 refine .fn ze7 rfl (by simp[f_A]) ?_
 repeat' (first| (simp(disch:=((try simp only[zk,zl,zm]);omega));first|done| ((first|simp only[zo,zj,zn,zh,zi,ze]|simp only[zg,zf]|rw[zc]);split)|skip)| ((first|simp only[zo,zj,zn,zh,zi,ze]|simp only[zg,zf]|rw[zc]);split))
 refine .for (σ:=Unit) c_A_7.eq_1 (fun i _=>[(5,I i)]) (fun _=>M) (fun i _=> ∀v,v<i→ ¬(f v=true∧h v=true)) N () (by simp) rfl (fun v hv=>by omega) (fun i x hi hP again=> ?_) (fun x hP=> ?_)
 ·have b1:=zcl (f:=f) hi
  have b2:=zcl (f:=h) hi
  have again:=fun hc: ¬(f i=true∧h i=true)=>again () (fun v hv=>by
   by_cases e:v=i
   ·subst e;exact hc
   ·exact hP v (by omega))
  simp at again
  cases e1:f i with
  |false=>
   repeat' (first| (simp(disch:=((try simp only[zk,zl,zm]);omega)) [hi,b1,e1];first|done| ((first|simp only[zo,zj,zn,zh,zi,ze]|simp only[zg,zf]|rw[zc]);split)|skip)| ((first|simp only[zo,zj,zn,zh,zi,ze]|simp only[zg,zf]|rw[zc]);split))
   exact again (fun h=>by rw[e1] at h;cases h)
  |true=>
   cases e2:h i with
   |false=>
    repeat' (first| (simp(disch:=((try simp only[zk,zl,zm]);omega)) [hi,b1,e1,b2,e2];first|done| ((first|simp only[zo,zj,zn,zh,zi,ze]|simp only[zg,zf]|rw[zc]);split)|skip)| ((first|simp only[zo,zj,zn,zh,zi,ze]|simp only[zg,zf]|rw[zc]);split))
    exact again fun _=>e2
   |true=>
    rw[decide_eq_true ⟨i,hi,e1,e2⟩] at hk
    clear again
    repeat' (first| (simp(disch:=((try simp only[zk,zl,zm]);omega)) [hi,b1,e1,b2,e2];first|done| ((first|simp only[zo,zj,zn,zh,zi,ze]|simp only[zg,zf]|rw[zc]);split)|skip)| ((first|simp only[zo,zj,zn,zh,zi,ze]|simp only[zg,zf]|rw[zc]);split))
    exact Back.plain (by simp) (by repeat' (first|assumption|exact zp _ _|apply zu|apply zw|apply zx| ((try simp only[zk,zl,zm]);omega))) hk
 ·rw[decide_eq_false (fun⟨v,a,b⟩=>hP v a b)] at hk
  repeat' (first| (simp(disch:=((try simp only[zk,zl,zm]);omega));first|done| ((first|simp only[zo,zj,zn,zh,zi,ze]|simp only[zg,zf]|rw[zc]);split)|skip)| ((first|simp only[zo,zj,zn,zh,zi,ze]|simp only[zg,zf]|rw[zc]);split))
  exact Back.plain (by simp) (by repeat' (first|assumption|exact zp _ _|apply zu|apply zw|apply zx| ((try simp only[zk,zl,zm]);omega))) hk
abbrev Rall (g:Gr) (w:Int):Nat→Nat→Prop:=RF g (fun _=>true) w
theorem star_lt {g:Gr} (hg:zbk g) {N:Nat} (hN:g.st=N) {p:Nat→Bool} {w:Int} {a v:Nat} (h:Star (RF g p w) a v) (ha:a<N):v<N:=
 h.keep (P:=fun v=>v<N) (fun x y _ ⟨e,h1,h2,h3,_⟩=>by have:=(hg.ok e h1).t1;omega) ha
def zg3 (g:Gr) (a:Int):Prop:= ∃v,RgIn (EG g) a true (fun _=>True) v∧Star (Rall g (-1)) 0 v
theorem B1_dec {f:Nat→Bool} {P:Nat→Prop} {N:Nat} (h: ∀v,v<N→(f v=true↔P v)):B1 f N=B1 (fun v=>decide (P v)) N:=zeM fun v hv=>by rw[Bool.eq_iff_iff,h v hv,decide_eq_true_iff]
theorem leads2_ok {g:Gr} (hg:zbk g) (v:Nat) (hv:(v:Int)<g.st) (hk:k (.bool (decide (Star (Rall g (-1)) 0 v))) M):zA F (.fn n_N [] []) [.agg (eGr g),I v] M k kp:=by
 have g1:=hg.s1;have g2:=hg.s2
 obtain⟨N,hN⟩: ∃N:Nat,g.st=N:=⟨g.st.toNat,by omega⟩
 have hvN:v<N:=by omega
 apply zA.back
 refine .fn zfb rfl (by simp[f_N]) ?_
 repeat' (first| (simp(disch:=((try simp only[zk,zl,zm]);omega));first|done| ((first|simp only[zo,zj,zn,zh,zi,ze]|simp only[zg,zf]|rw[zc]);split)|skip)| ((first|simp only[zo,zj,zn,zh,zi,ze]|simp only[zg,zf]|rw[zc]);split))
 refine rall_ok hN (by omega) ?_
 repeat' (first| (simp(disch:=((try simp only[zk,zl,zm]);omega));first|done| ((first|simp only[zo,zj,zn,zh,zi,ze]|simp only[zg,zf]|rw[zc]);split)|skip)| ((first|simp only[zo,zj,zn,zh,zi,ze]|simp only[zg,zf]|rw[zc]);split))
 refine⟨zeD g,?_⟩
 refine reach_ok hg hN (s:=0) (by omega) (fun _=>true) (-1) fun f hf=> ?_
 rw[B1_dec hf]
 have b1:=zcl (f:=fun v=>decide (Star (Rall g (-1)) 0 v)) hvN
 repeat' (first| (simp(disch:=((try simp only[zk,zl,zm]);omega)) [hvN,b1];first|done| ((first|simp only[zo,zj,zn,zh,zi,ze]|simp only[zg,zf]|rw[zc]);split)|skip)| ((first|simp only[zo,zj,zn,zh,zi,ze]|simp only[zg,zf]|rw[zc]);split))
 exact Back.plain (by simp) (by repeat' (first|assumption|exact zp _ _|apply zu|apply zw|apply zx| ((try simp only[zk,zl,zm]);omega))) hk
theorem zkD {g:Gr} {a:Int} (hK:zeL g a) (hk:k (.bool (decide (zg3 g a))) M):zA F (.fn n_P [] []) [.agg (eGr g),I a] M k kp:=by
 have hg:=hK.1
 have g1:=hg.s1;have g2:=hg.s2
 obtain⟨N,hN⟩: ∃N:Nat,g.st=N:=⟨g.st.toNat,by omega⟩
 apply zA.back
 refine .fn zew rfl (by simp[f_P]) ?_
 repeat' (first| (simp(disch:=((try simp only[zk,zl,zm]);omega));first|done| ((first|simp only[zo,zj,zn,zh,zi,ze]|simp only[zg,zf]|rw[zc]);split)|skip)| ((first|simp only[zo,zj,zn,zh,zi,ze]|simp only[zg,zf]|rw[zc]);split))
 refine rall_ok hN (by omega) ?_
 repeat' (first| (simp(disch:=((try simp only[zk,zl,zm]);omega));first|done| ((first|simp only[zo,zj,zn,zh,zi,ze]|simp only[zg,zf]|rw[zc]);split)|skip)| ((first|simp only[zo,zj,zn,zh,zi,ze]|simp only[zg,zf]|rw[zc]);split))
 refine⟨zeD g,?_⟩
 refine rrings_ok hg hN a true (N+1) (fun _=>true) (by have:=cntB_le (N:=N) (p:=fun _=>true);omega) fun f hf=> ?_
 repeat' (first| (simp(disch:=((try simp only[zk,zl,zm]);omega));first|done| ((first|simp only[zo,zj,zn,zh,zi,ze]|simp only[zg,zf]|rw[zc]);split)|skip)| ((first|simp only[zo,zj,zn,zh,zi,ze]|simp only[zg,zf]|rw[zc]);split))
 refine⟨zeD g,?_⟩
 refine rall_ok hN (by omega) ?_
 repeat' (first| (simp(disch:=((try simp only[zk,zl,zm]);omega));first|done| ((first|simp only[zo,zj,zn,zh,zi,ze]|simp only[zg,zf]|rw[zc]);split)|skip)| ((first|simp only[zo,zj,zn,zh,zi,ze]|simp only[zg,zf]|rw[zc]);split))
 refine⟨zeD g,?_⟩
 refine reach_ok hg hN (s:=0) (by omega) (fun _=>true) (-1) fun h hh=> ?_
 repeat' (first| (simp(disch:=((try simp only[zk,zl,zm]);omega));first|done| ((first|simp only[zo,zj,zn,zh,zi,ze]|simp only[zg,zf]|rw[zc]);split)|skip)| ((first|simp only[zo,zj,zn,zh,zi,ze]|simp only[zg,zf]|rw[zc]);split))
 refine meets_ok f h N (by omega) ?_
 have e:(∃v,v<N∧f v=true∧h v=true)↔zg3 g a:=by
  constructor
  ·rintro⟨v,h1,h2,h3⟩
   exact⟨v,(rg_congr (fun u=>by simp)).1 ((hf v h1).1 h2),(hh v h1).1 h3⟩
  ·rintro⟨v,h1,h2⟩
   have hv:=star_lt hg hN h2 (by omega)
   exact⟨v,hv,(hf v hv).2 ((rg_congr (fun u=>by simp)).1 h1),(hh v hv).2 h2⟩
 simp only[e]
 generalize decide (zg3 g a)=b at*
 repeat' (first| (simp(disch:=((try simp only[zk,zl,zm]);omega));first|done| ((first|simp only[zo,zj,zn,zh,zi,ze]|simp only[zg,zf]|rw[zc]);split)|skip)| ((first|simp only[zo,zj,zn,zh,zi,ze]|simp only[zg,zf]|rw[zc]);split))
 exact Back.plain (by simp) (by repeat' (first|assumption|exact zp _ _|apply zu|apply zw|apply zx| ((try simp only[zk,zl,zm]);omega))) hk
theorem zjp (g:Gr) (a:Int) (is:Bool) (hk:k (I (if zeL g a then(if is=true then 0 else 5) else 2)) M):zA F (.fn n_H [] []) [.agg (eGr g),I a,.bool is] M k kp:=by
 apply zA.back
 refine .fn zfK rfl (by simp[f_H]) ?_
 repeat' (first| (simp(disch:=((try simp only[zk,zl,zm]);omega));first|done| ((first|simp only[zo,zj,zn,zh,zi,ze]|simp only[zg,zf]|rw[zc]);split)|skip)| ((first|simp only[zo,zj,zn,zh,zi,ze]|simp only[zg,zf]|rw[zc]);split))
 refine good_ok g fun b hb=> ?_
 by_cases hg:zbk g
 ·obtain rfl:b=true:=hb.2 hg
  by_cases h1:a<0
  ·rw[if_neg (fun h=>by have:=h.2.1;omega)] at hk
   repeat' (first| (simp(disch:=((try simp only[zk,zl,zm]);omega)) [h1];first|done| ((first|simp only[zo,zj,zn,zh,zi,ze]|simp only[zg,zf]|rw[zc]);split)|skip)| ((first|simp only[zo,zj,zn,zh,zi,ze]|simp only[zg,zf]|rw[zc]);split))
   exact Back.plain (by simp) (by repeat' (first|assumption|exact zp _ _|apply zu|apply zw|apply zx| ((try simp only[zk,zl,zm]);omega))) hk
  ·by_cases h2:g.ac≤a
   ·rw[if_neg (fun h=>by have:=h.2.2;omega)] at hk
    repeat' (first| (simp(disch:=((try simp only[zk,zl,zm]);omega)) [h1,h2,eGr];first|done| ((first|simp only[zo,zj,zn,zh,zi,ze]|simp only[zg,zf]|rw[zc]);split)|skip)| ((first|simp only[zo,zj,zn,zh,zi,ze]|simp only[zg,zf]|rw[zc]);split))
    exact Back.plain (by simp) (by repeat' (first|assumption|exact zp _ _|apply zu|apply zw|apply zx| ((try simp only[zk,zl,zm]);omega))) hk
   ·rw[if_pos ⟨hg,by omega,by omega⟩] at hk
    cases is with
    |true=>
     rw[if_pos rfl] at hk
     repeat' (first| (simp(disch:=((try simp only[zk,zl,zm]);omega)) [h1,h2,eGr];first|done| ((first|simp only[zo,zj,zn,zh,zi,ze]|simp only[zg,zf]|rw[zc]);split)|skip)| ((first|simp only[zo,zj,zn,zh,zi,ze]|simp only[zg,zf]|rw[zc]);split))
     exact Back.plain (by simp) (by repeat' (first|assumption|exact zp _ _|apply zu|apply zw|apply zx| ((try simp only[zk,zl,zm]);omega))) hk
    |false=>
     rw[if_neg (by simp)] at hk
     repeat' (first| (simp(disch:=((try simp only[zk,zl,zm]);omega)) [h1,h2,eGr];first|done| ((first|simp only[zo,zj,zn,zh,zi,ze]|simp only[zg,zf]|rw[zc]);split)|skip)| ((first|simp only[zo,zj,zn,zh,zi,ze]|simp only[zg,zf]|rw[zc]);split))
     exact Back.plain (by simp) (by repeat' (first|assumption|exact zp _ _|apply zu|apply zw|apply zx| ((try simp only[zk,zl,zm]);omega))) hk
 ·obtain rfl:b=false:=by cases b with|false=>rfl|true=>exact absurd (hb.1 rfl) hg
  rw[if_neg (fun h=>hg h.1)] at hk
  repeat' (first| (simp(disch:=((try simp only[zk,zl,zm]);omega));first|done| ((first|simp only[zo,zj,zn,zh,zi,ze]|simp only[zg,zf]|rw[zc]);split)|skip)| ((first|simp only[zo,zj,zn,zh,zi,ze]|simp only[zg,zf]|rw[zc]);split))
  exact Back.plain (by simp) (by repeat' (first|assumption|exact zp _ _|apply zu|apply zw|apply zx| ((try simp only[zk,zl,zm]);omega))) hk
theorem reached_ok {g:Gr} (hg:zbk g) {l:List Int} (hl:l.length≤1000000) (hE:zcy g.es l) (hne:l≠[]) {v:Nat} (hv:(eAt g.es (l.headD 0)).f=v) (hs:Star (Rall g (-1)) 0 v) (hk:k (.bool true) M):zA F (.fn n_v [] []) [.agg (eGr g),ints l] M k kp:=by
 obtain⟨x,r,rfl⟩: ∃x r,l=x::r:=by cases l with|nil=>exact absurd rfl hne|cons x r=>exact⟨x,r,rfl⟩
 have hx:=hE x (by simp)
 obtain⟨e,rfl⟩:=Int.eq_ofNat_of_zero_le hx.1
 have he:e<g.es.length:=by omega
 have hel:=hg.el
 rw[List.headD_cons,zct he] at hv
 have h1:=(hg.ok _ (List.getElem_mem he)).f1
 have hpos:(0:Int)<(((r.length:Nat):Int)+1):=by omega
 apply zA.back
 refine .fn zex rfl (by simp[f_v]) ?_
 repeat' (first| (simp(disch:=((try simp only[zk,zl,zm]);omega));first|done| ((first|simp only[zo,zj,zn,zh,zi,ze]|simp only[zg,zf]|rw[zc]);split)|skip)| ((first|simp only[zo,zj,zn,zh,zi,ze]|simp only[zg,zf]|rw[zc]);split))
 refine .go c_v_7.eq_1 ?_
 repeat' (first| (simp(disch:=((try simp only[zk,zl,zm]);omega)) [hpos,eGr,eInt,he,hv,zF];first|done| ((first|simp only[zo,zj,zn,zh,zi,ze]|simp only[zg,zf]|rw[zc]);split)|skip)| ((first|simp only[zo,zj,zn,zh,zi,ze]|simp only[zg,zf]|rw[zc]);split))
 have eg:([I g.st,I g.ac,.lst 3 (g.es.map zF)]:List DV)=eGr g:=rfl
 simp only[eg]
 refine leads2_ok hg v (by omega) ?_
 rw[decide_eq_true hs]
 repeat' (first| (simp(disch:=((try simp only[zk,zl,zm]);omega));first|done| ((first|simp only[zo,zj,zn,zh,zi,ze]|simp only[zg,zf]|rw[zc]);split)|skip)| ((first|simp only[zo,zj,zn,zh,zi,ze]|simp only[zg,zf]|rw[zc]);split))
 exact Back.plain (by simp) (by repeat' (first|assumption|exact zp _ _|apply zu|apply zw|apply zx| ((try simp only[zk,zl,zm]);omega))) hk
end Go.Ideal.S
set_option maxHeartbeats 2000000
namespace Go.Ideal.S
open Go Go.Ideal Q Classical
attribute [local simp] decide_eq_true decide_eq_false zQ
attribute [local simp] c_F f_F r_F_1 r_F_2 r_F_3 r_F_4 r_F_5 r_F_6 r_F_7 r_F_8 r_F_9 r_F_10 r_F_11 r_F_13 r_F_15
variable {M:VM} {k kp:DV→VM→Prop} {n0:Nat}
theorem Way.nil_eq {g:Gr} {mi:Nat} {w:Int} {s t:Nat} {l:List Int} (h:Way g mi w s l t) (e:l=[]):t=s:=by
 cases h with
 |nil=>rfl
 |snoc=>simp at e
theorem Way.headF {g:Gr} {mi:Nat} {w:Int} {s n:Nat} {l:List Int} (h:Way g mi w s l n) (hne:l≠[]):headF g.es l=s:=by
 induction h with
 |nil=>exact absurd rfl hne
 | @snoc l t h e he h1 h2 u h3 h4 ih=>
   cases l with
   |nil=>
    have:=h.nil_eq rfl
    show(eAt g.es (e:Int)).f=s;rw[zct he,h1,this]
   |cons x r=>exact ih (by simp)
theorem Way.froms {g:Gr} {mi:Nat} {w:Int} {s n:Nat} {l:List Int} (h:Way g mi w s l n) (hs:mi.testBit s=true): ∀x∈l,∃v:Nat,(eAt g.es x).f=v∧mi.testBit v=true:=by
 induction h with
 |nil=>intro x hx;cases hx
 | @snoc l t h e he h1 h2 u h3 h4 ih=>
   intro x hx
   rcases List.mem_append.1 hx with hx|hx
   ·exact ih x hx
   ·obtain rfl:=List.mem_singleton.1 hx
    exact⟨t,by rw[zct he];exact h1,h.inn hs⟩
theorem zh6.ne {g:Gr} {mi:Nat} {w:Int} {st also:Bool} {n:Nat} {l:List Int} (h:zh6 g mi w also n l) (hC:Core (EG g) w st (fun v=>mi.testBit v=true)):l≠[]:=by
 rintro rfl
 obtain⟨x,hx,hi⟩:=hC.ne
 obtain⟨e,h1,_⟩:=h.act x hx hi
 cases h1
theorem zh6.fair {g:Gr} (hg:zbk g) {mi:Nat} {w:Int} {st also:Bool} {n:Nat} {l:List Int} (h:zh6 g mi w also n l) (hn:mi.testBit n=true) (hC:Core (EG g) w st (fun v=>mi.testBit v=true)) (but:Int) (hb:but=w∨st=false):FairR g l but:=by
 intro e he ⟨x,hx,hxf⟩ hne
 obtain⟨v,hv,hvm⟩:=h.way.froms hn x hx
 have hE:Opn (EG g) (fun v=>mi.testBit v=true) e.a:=⟨v,e.t.toNat,by have:=EG_of hg he;rw[←hxf,hv,Int.toNat_natCast] at this;exact this,hvm⟩
 by_cases c:e.a=w
 ·rcases hb with rfl|hb
  ·exact absurd c hne
  ·rcases hC.op with⟨h1,_⟩| ⟨_,h1⟩
   ·rw[hb] at h1;cases h1
   ·rw[c] at hE;exact absurd hE h1
 ·exact h.act _ c (hC.fair _ c hE)
theorem starv_of_ring {g:Gr} {a:Int} (hK:zeL g a) {mi:Nat} {n:Nat} {l:List Int} (h:zh6 g mi a true n l) (hn:mi.testBit n=true) (hC:Core (EG g) a true (fun v=>mi.testBit v=true)):starvR g l a=(true,0):=by
 have hg:=hK.1
 have hne:=h.ne hC
 have hE:=h.way.edges
 have hh:=h.way.headF hne
 unfold starvR
 rw[if_neg (by have:=h.len;omega),if_pos ⟨hK,hE⟩,decide_eq_true]
 refine⟨hne,?_,h.fair hg hn hC a (.inl rfl),?_⟩
 ·rw[hh];exact h.way.pathR
 ·obtain⟨x,hx,e2,h2,h3,h4⟩:=h.opn rfl
  exact⟨e2,h2,(onF_iff hg hE (hg.ok _ h2).f0).2 ⟨x,hx,h3.symm⟩,h4⟩
theorem core_all {g:Gr} (hg:zbk g) {N:Nat} (hN:g.st=N) {w:Int} {T:Nat} {ww:Int} (hT: ∀v,T.testBit v=true↔Star (RF g (fun v=>(lowB N).testBit v) ww) 0 v) (hw:ww= -1∨ww=w) {st:Bool}:
 (∃Q,Core (EG g) w st Q∧ ∀u,Q u→T.testBit u=true)↔ ∃v,RgIn (EG g) w st (fun _=>True) v∧Star (Rall g ww) 0 v:=by
 have hT2: ∀v,T.testBit v=true↔Star (Rall g ww) 0 v:=fun v=>(hT v).trans ⟨fun h=>h.imp fun a b=>(RF_low hg hN ww a b).1,fun h=>h.imp fun a b=>(RF_low hg hN ww a b).2⟩
 constructor
 ·rintro⟨Q,h1,h2⟩
  obtain⟨v,hv⟩:=h1.some
  exact⟨v,⟨Q,h1,fun _ _=>trivial,hv⟩,(hT2 v).1 (h2 v hv)⟩
 ·rintro⟨v,⟨Q,h1,_,hv⟩,h2⟩
  refine⟨Q,h1,fun u hu=>(hT2 u).2 ?_⟩
  refine h1.closed (T:=fun u=>Star (Rall g ww) 0 u) (fun a x b ha ⟨e,e1,e2,e3,e4⟩ hx=>ha.tail ⟨e,e1,e2,e4,?_,rfl⟩) hv h2 hu
  rcases hw with rfl|rfl
  ·have:=(hg.ok e e1).a0;omega
  ·rw[e3];exact hx
structure RgS (B:VM) (g:Gr) (a:Int) (p:Nat) (y:VM):Prop where
 sm:SM B.next B y
 nx:B.next+9≤y.next
 o3:y.obj (B.next+1)=some (intO a)
 o45:y.obj (B.next+2)=some (.rows false 1 [[.nilS]])∧y.obj (B.next+3)=some (intO 0)
 o6:y.obj (B.next+4)=some (grO g)
 o9:y.obj (B.next+8)=some (setO p)
theorem RgS.low {B y y':VM} {g:Gr} {a:Int} {p Y:Nat} (h:RgS B g a p y) (hY:B.next+9≤Y) (hs:SM Y y y') (hn:y.next≤y'.next):RgS B g a p y':=by
 have hx:=h.nx
 exact⟨zcT h.sm (zef hs (by omega)),by omega,zK hs (by omega) h.o3,⟨zK hs (by omega) h.o45.1,zK hs (by omega) h.o45.2⟩,zK hs (by omega) h.o6,zK hs (by omega) h.o9⟩
theorem RgS.frame {B y y':VM} {g:Gr} {a:Int} {p:Nat} (h:RgS B g a p y) (hs:SM y.next y y') (hn:y.next≤y'.next):RgS B g a p y':=h.low h.nx hs hn
theorem jRing_ok {g:Gr} (hl:g.es.length≤1000000) {a:Int} (hK:zeL g a)
 (h1: ∀l p n,Core (EG g) a true (fun v=>p.testBit v=true)→p.testBit n=true→Star (Rall g (-1)) 0 n→zh6 g p a true n l→k (.tup [ints l,I 0]) M)
 (h2: ¬zg3 g a→k (.tup [.nilS,I 5]) M):zA F (.fn n_F [] []) [.agg (eGr g),I a] M k kp:=by
 have hg:=hK.1
 have g1:=hg.s1;have g2:=hg.s2
 obtain⟨N,hN⟩: ∃N:Nat,g.st=N:=⟨g.st.toNat,by omega⟩
 apply zA.back
 refine .fn zlX rfl (by simp[f_F]) ?_
 repeat' (first| (simp(disch:=((try simp only[zk,zl,zm]);omega));first|done| ((first|simp only[zo,zj,zn,zh,zi,ze]|simp only[zg,zf]|rw[zc]);split)|skip)| ((first|simp only[zo,zj,zn,zh,zi,ze]|simp only[zg,zf]|rw[zc]);split))
 refine zA.nil [.agg (eGr g),I a] [] 1 (by simp) (fun x hx=> ?_) ?_
 ·simp at hx
  rcases hx with rfl|rfl|rfl
  ·exact .agg (b_Gr g)
  ·simp
  ·exact .lst (by simp)
 refine jknown_ok g hl a [] (by simp) ?_
 rw[decide_eq_true ⟨hK,fun x hx=>by cases hx⟩]
 have hcg: ∀x∈eGr g,zN x=true:=by intro x hx;simp[eGr] at hx;rcases hx with rfl|rfl|rfl<;>rfl
 have hgl:(eGr g).length=3:=rfl
 have eg:([I g.st,I g.ac,.lst 3 (g.es.map zF)]:List DV)=eGr g:=rfl
 repeat' (first| (simp(disch:=((try simp only[zk,zl,zm]);omega)) [eGr];first|done| ((first|simp only[zo,zj,zn,zh,zi,ze]|simp only[zg,zf]|rw[zc]);split)|skip)| ((first|simp only[zo,zj,zn,zh,zi,ze]|simp only[zg,zf]|rw[zc]);split))
 simp only[eg]
 refine whole_ok g hN (by omega) ?_
 repeat' (first| (simp(disch:=((try simp only[zk,zl,zm]);omega)) [hcg,hgl];first|done| ((first|simp only[zo,zj,zn,zh,zi,ze]|simp only[zg,zf]|rw[zc]);split)|skip)| ((first|simp only[zo,zj,zn,zh,zi,ze]|simp only[zg,zf]|rw[zc]);split))
 refine⟨zeD g,?_⟩
 refine jleads_ok hg hN (lowB_lt N (by omega)) (-1) (s0:=0) (by omega) fun T hT1 hT2=> ?_
 have hin: ∀v,T.testBit v=true→v<N:=fun v hv=>star_lt hg hN ((hT2 v).1 hv) (by omega)
 repeat' (first| (simp(disch:=((try simp only[zk,zl,zm]);omega)) [hcg,hgl];first|done| ((first|simp only[zo,zj,zn,zh,zi,ze]|simp only[zg,zf]|rw[zc]);split)|skip)| ((first|simp only[zo,zj,zn,zh,zi,ze]|simp only[zg,zf]|rw[zc]);split))
 refine jrings_ok hg hN a true (N+1) T hT1 hin (by have:=cntB_le (N:=N) (p:=T.testBit);omega) fun L hL=> ?_
 cases L with
 |nil=>
  repeat' (first| (simp(disch:=((try simp only[zk,zl,zm]);omega));first|done| ((first|simp only[zo,zj,zn,zh,zi,ze]|simp only[zg,zf]|rw[zc]);split)|skip)| ((first|simp only[zo,zj,zn,zh,zi,ze]|simp only[zg,zf]|rw[zc]);split))
  refine .go c_F_14.eq_1 ?_
  repeat' (first| (simp(disch:=((try simp only[zk,zl,zm]);omega));first|done| ((first|simp only[zo,zj,zn,zh,zi,ze]|simp only[zg,zf]|rw[zc]);split)|skip)| ((first|simp only[zo,zj,zn,zh,zi,ze]|simp only[zg,zf]|rw[zc]);split))
  refine Back.plain (by simp) (by repeat' (first|assumption|exact zp _ _|apply zu|apply zw|apply zx| ((try simp only[zk,zl,zm]);omega))) (h2 fun hs=> ?_)
  obtain⟨Q,hQ,hQT⟩:=(core_all hg hN hT2 (.inl rfl)).2 hs
  obtain⟨x,hx,_⟩:=hL.all Q hQ hQT
  cases hx
 |cons p L=>
  obtain⟨hp1,hp2,hp3⟩:=hL.snd p (by simp)
  have hpos:(0:Int)<(((L.length:Nat):Int)+1):=by omega
  repeat' (first| (simp(disch:=((try simp only[zk,zl,zm]);omega));first|done| ((first|simp only[zo,zj,zn,zh,zi,ze]|simp only[zg,zf]|rw[zc]);split)|skip)| ((first|simp only[zo,zj,zn,zh,zi,ze]|simp only[zg,zf]|rw[zc]);split))
  refine .go c_F_14.eq_1 ?_
  repeat' (first| (simp(disch:=((try simp only[zk,zl,zm]);omega)) [hpos,eU];first|done| ((first|simp only[zo,zj,zn,zh,zi,ze]|simp only[zg,zf]|rw[zc]);split)|skip)| ((first|simp only[zo,zj,zn,zh,zi,ze]|simp only[zg,zf]|rw[zc]);split))
  refine zA.gen (Q:=RgS M g a p) ⟨(by repeat' (first|assumption|exact zp _ _|apply zu|apply zw|apply zx| ((try simp only[zk,zl,zm]);omega))),by simp only[zk,zl];omega,by simp(disch:=((try simp only[zk,zl]);omega)),⟨by simp(disch:=((try simp only[zk,zl]);omega)),by simp(disch:=((try simp only[zk,zl]);omega))⟩,by simp(disch:=((try simp only[zk,zl]);omega)) [eGr],by simp(disch:=((try simp only[zk,zl]);omega))⟩ fun y0 hy0=> ?_
  refine all_ok p fun M2 j1 s1 s2 s3 s4=> ?_
  have hM2:=hy0.frame s1 (by omega)
  have hn0:=hy0.nx
  repeat' (first| (simp(disch:=((try simp only[zk,zl,zm]);omega));first|done| ((first|simp only[zo,zj,zn,zh,zi,ze]|simp only[zg,zf]|rw[zc]);split)|skip)| ((first|simp only[zo,zj,zn,zh,zi,ze]|simp only[zg,zf]|rw[zc]);split))
  refine all_rg p hp1 (Y:=j1) (p:=32) (Nat.le_refl _) s3 s4 rfl rfl rfl (fun i y=>RgS M g a p y∧ ∀v,v<i→p.testBit v=false) (fun y=>SM M.next M y∧M.next+4≤y.next∧ ∃l n,zh6 g p a true n l∧p.testBit n=true∧y.obj (M.next+2)=some (.rows false 1 [[ints l]])∧y.obj (M.next+3)=some (intO 0))
   ⟨hM2,fun v hv=>by omega⟩ (fun i y y' ⟨q1,q2⟩ s hn=>⟨q1.low (by omega) s hn,q2⟩) (fun y y' ⟨q1,q2,l,n,q3,q4,q5,q6⟩ s hn=>⟨zcT q1 (zef s (by omega)),by omega,l,n,q3,q4,zK s (by omega) q5,zK s (by omega) q6⟩)
   (fun i y hi ⟨q1,q2⟩ hb=>⟨q1,fun v hv=> ?_⟩) (fun i y hi ⟨q1,q2⟩ hb ly oj o1 o2 Ka Kb ol hA fin ret=> ?_) (fun y ⟨q1,q2⟩ ly=> ?_) (fun y ⟨q1,q2,l,n,q3,q4,q5,q6⟩ ly=> ?_)
  ·by_cases e:v=i
   ·rw[e];exact hb
   ·exact q2 v (by omega)
  ·repeat' (first| (simp(disch:=((try simp only[zk,zl,zm]);omega)) [c_F_12];first|done| ((first|simp only[zo,zj,zn,zh,zi,ze]|simp only[zg,zf]|rw[zc]);split)|skip)| ((first|simp only[zo,zj,zn,zh,zi,ze]|simp only[zg,zf]|rw[zc]);split))
   refine hA _ _ ol ?_
   have r1:=q1.low (Y:=j1) (by omega) (y':=y.put M2.next o2) (zu (zp _ _) (by omega)) (by simp)
   have r2:(y.put M2.next o2).obj M2.next=some o2:=by simp
   have r5:M2.next<(y.put M2.next o2).next:=by simp;omega
   generalize y.put M2.next o2=y1 at*
   obtain⟨t1,t2,t3,⟨t4,t7⟩,t5,t6⟩:=r1
   repeat' (first| (simp(disch:=((try simp only[zk,zl,zm]);omega)) [zg0,t5,t6,t3];first|done| ((first|simp only[zo,zj,zn,zh,zi,ze]|simp only[zg,zf]|rw[zc]);split)|skip)| ((first|simp only[zo,zj,zn,zh,zi,ze]|simp only[zg,zf]|rw[zc]);split))
   simp only[eg]
   refine jring_ok hg hN hp1 a true true hp2 hb (fun v hv=>hin v (hp3 v hv)) (fun _=> ?_) fun l hR=> ?_
   ·rcases hp2.op with⟨_,h⟩| ⟨h,_⟩
    ·exact h
    ·cases h
   repeat' (first| (simp(disch:=((try simp only[zk,zl,zm]);omega)) [t4,t7];first|done| ((first|simp only[zo,zj,zn,zh,zi,ze]|simp only[zg,zf]|rw[zc]);split)|skip)| ((first|simp only[zo,zj,zn,zh,zi,ze]|simp only[zg,zf]|rw[zc]);split))
   refine ret _ _ (by simp(disch:=((try simp only[zk,zl]);omega)) [r2]) ⟨by simp;omega,zu (zu t1 (by omega)) (by omega),by simp;omega,l,i,hR,hb,by simp(disch:=omega),by simp⟩
  ·exfalso
   obtain⟨v,hv⟩:=hp2.some
   have hv2:=hin v (hp3 v hv)
   have hv:p.testBit v=true:=hv
   rw[q2 v (by omega)] at hv;cases hv
  ·repeat' (first| (simp(disch:=((try simp only[zk,zl,zm]);omega)) [q5,q6];first|done| ((first|simp only[zo,zj,zn,zh,zi,ze]|simp only[zg,zf]|rw[zc]);split)|skip)| ((first|simp only[zo,zj,zn,zh,zi,ze]|simp only[zg,zf]|rw[zc]);split))
   have hT:=(hT2 n).1 (hp3 n q4)
   refine Back.plain ?_ q1 (h1 l p n hp2 q4 (hT.imp fun a b=>(RF_low hg hN _ a b).1) q3)
   refine .tup fun x hx=> ?_
   simp only[List.mem_cons,List.not_mem_nil,or_false] at hx
   rcases hx with rfl|rfl
   ·exact b_lst b_Int l
   ·simp
end Go.Ideal.S
set_option maxHeartbeats 4000000
namespace Go.Ideal.S
open Go Go.Ideal Q Classical
attribute [local simp] decide_eq_true decide_eq_false zQ
variable {M:VM} {k kp:DV→VM→Prop} {n0:Nat}
theorem zii (hk:k (.bool true) M):zA F (.fn n_6 [] []) [] M k kp:=by
 apply zA.back
 refine .fn zfc rfl (by simp[zho]) ?_
 repeat' (first| (simp(disch:=((try simp only[zk,zl,zm]);omega)) [zho];first|done| ((first|simp only[zo,zj,zn,zh,zi,ze]|simp only[zg,zf]|rw[zc]);split)|skip)| ((first|simp only[zo,zj,zn,zh,zi,ze]|simp only[zg,zf]|rw[zc]);split))
 exact Back.plain (by simp) (by repeat' (first|assumption|exact zp _ _|apply zu|apply zw|apply zx| ((try simp only[zk,zl,zm]);omega))) hk
attribute [local simp] c_V f_V r_V_1 r_V_2
theorem large_ok (g:Gr) (hk:k (.bool (decide ((500:Int)<(g.es.length:Int)))) M):zA F (.fn n_V [] []) [.agg (eGr g)] M k kp:=by
 apply zA.back
 refine .fn zfd rfl (by simp[f_V]) ?_
 repeat' (first| (simp(disch:=((try simp only[zk,zl,zm]);omega)) [eGr];first|done| ((first|simp only[zo,zj,zn,zh,zi,ze]|simp only[zg,zf]|rw[zc]);split)|skip)| ((first|simp only[zo,zj,zn,zh,zi,ze]|simp only[zg,zf]|rw[zc]);split))
 exact Back.plain (by simp) (by repeat' (first|assumption|exact zp _ _|apply zu|apply zw|apply zx| ((try simp only[zk,zl,zm]);omega))) hk
end Go.Ideal.S
