/- A part of the proof: the ideal machine, and what the functions of the program answer over it. -/
import Derived.ProofKit
import Derived.JoinedOf
import Derived.Test.YtffbioplncclkaaGreatRows
import Derived.RowKitTokens
import Derived.ChangeVars
import Derived.Stop.Joined
import Derived.Test.YtffbioplncclkaaGreatProg
import Derived.Test.YtffbioplncclkaaGreatE
set_option linter.unusedSimpArgs false
set_option linter.unusedVariables false
set_option linter.unusedSectionVars false
open Option renaming bind_some→qd
open List renaming take_succ_eq_append_getElem→qe,getElem_mem→qg,take_length→qh,getElem?_eq_getElem→qi,not_mem_nil→qj,all_eq_true→ql,mem_cons→qm,mem_singleton→qn,not_any_eq_all_not→qo,foldl_append→qp,foldl_cons→qt,foldl_nil→qu,any_eq_true→qv,any_append→qw,nodup_append→qx,filter_cons→qy,mem_append→qA
open Classical renaming byContradiction→qf
open Nat renaming le_refl→qk,sub_self→qq
open Go.DataW renaming trod→qr
namespace Go.Ideal
open Go.ChangeShapes Go.WideShapes Go.RowKit
noncomputable section
variable {P:Program} {W:World}
theorem cell_heap {b o:Nat} {v:Value} (h:W.cell? ⟨b,o,none⟩=some v): ∃c t fr,W.heap[b]? =some (.cells c t fr)∧c[o]? =some v:=by
 unfold World.cell? at h;dsimp only at h
 split at h
 ·rename_i c t fr hb;exact⟨c,t,fr,hb,by simpa using h⟩
 ·cases h
theorem zjj {b o n:Nat}:(⟨b,o,none⟩:Addr).add n=⟨b,o+n,none⟩:=by
 unfold Addr.add
 split
 ·rename_i e;subst e;rfl
 ·rfl
theorem list_of {α:Type} {Q:Nat→α→Prop}: ∀n,(∀i,i<n→ ∃x,Q i x)→ ∃l:List α,l.length=n∧ ∀i x,l[i]? =some x→Q i x
 |0,_=>⟨[],rfl,fun i x h=>by simp at h⟩
 |n+1,h=>by
  obtain⟨l,hl,hq⟩:=list_of n fun i hi=>h i (by omega);obtain⟨x,hx⟩:=h n (by omega);refine⟨l++[x],by simp[hl],fun i y hy=> ?_⟩;by_cases e:i<n
  ·rw[List.getElem?_append_left (by omega)] at hy;exact hq i y hy
  ·rw[List.getElem?_append_right (by omega)] at hy;have:i=n:=by
    rcases Nat.lt_or_ge (i - l.length) 1 with h'|h'
    ·omega
    ·rw[List.getElem?_eq_none (by simpa using h')] at hy;cases hy
   subst this;rw[hl,qq] at hy;simp at hy;subst hy;exact hx
theorem zi0 {r:Reach} {base:Nat} {t e:TypeId} {v:Value} (ht:P.underlying t=some (.slice e)) (h:Cell.okWide P W r base t v): ∀a len cap,v=.slice (some a) len cap→a.spot=none∧zbT W a.block=true:=by
 rintro a len cap rfl;unfold Cell.okWide at h;rw[ht] at h;dsimp only at h;unfold Cell.ok at h;rw[ht] at h;obtain⟨_,_,_,hs,row,cells,hsh,_⟩:=h;refine⟨hs,?_⟩;unfold World.shape? at hsh;unfold zbT
 split at hsh
 ·rename_i hb;rw[hb]
 ·cases hsh
def impW (W:World):Wd:=⟨fun _=>none,fun b=>match(impH W).get b with
 |some (.cells cs e)=>some (cs,e)
 |_=>none⟩
def VM.nil:VM:=⟨0,fun _=>none⟩
theorem impW_Z {W:World} {b:Nat} {cs:List Value} {e:Nat} (h:(impH W).get b=some (.cells cs e)):(impW W).Z b=some (cs,e):=by
 show(match(impH W).get b with|some (.cells cs e)=>some (cs,e)|_=>none)=_;rw[h]
theorem imp_HRel (W:World):HRel (impW W) VM.nil (impH W) where
 wf:=fun j o st h=>by cases h
 dom:=fun j R h=>by cases h
 zd:=fun b z h=>by
  have h:(match(impH W).get b with|some (.cells cs e)=>some (cs,e)|_=>none)=some z:=h
  split at h
  ·rename_i cs e hg;cases h;refine⟨?_,hg⟩;rw[zhq] at hg;rw[impH_next];cases hb:W.heap[b]? with
   |none=>rw[hb] at hg;cases hg
   |some o=>exact Nat.lt_succ_of_lt (Array.getElem?_eq_some_iff.1 hb).1
  ·cases h
 obj:=fun j o st R h=>by cases h
 inj:=fun i j R S h=>by cases h
section
variable {H:Type} {enc:TypeId×Value→H} {base:Nat} {spare:Nat→Bool} {held:Bool}
theorem zcF {t:TypeId} {k:IntKind} {fuel:Nat} {c:Value} {x:DataW H×List MemPlace} (ht:P.underlying t=some (.int k)) (h:qr enc P W base spare held fuel t [c]=some x): ∃n,c=.int k n∧(Lit.int k n).wf=true:=by
 obtain⟨n,e,_,hw⟩:=DataW.trod_int ht h;cases e;exact⟨n,rfl,hw⟩
end
theorem v_calls {F:FuncId→Option za} (hmix:P.follows .mixedOrders=true) (hF: ∀g cf,F g=some cf→FnOk P g cf) {g:FuncId} {ds:List DV} {args:Array Value} {W:World}
 (hc:zg F (.fn g [] []) ds VM.nil (fun d _=>d=.bool true) fun _ _=>False) (hargs: ∀v∈args.toList,okArg W v=true) (hr:LRel (impW W) ds args.toList):
 Calls P g args W fun e W'=>e=.returned (.bool true)∧Same W W':=by
 obtain⟨n,o,he,ho⟩:=hc (impW W) (impH W) (.func (.func g) #[] #[]) args.toList (imp_HRel W) (.fn g rfl rfl (fun k d v h=>by simp at h) (fun k d v h=>by simp at h)) hr;cases o with
 |val v h1=>
  obtain⟨w1,M1,d,q1,q2,q3,rfl⟩:=ho;cases q3;exact calls_import hmix hF hargs he fun i hi=>q1.rest i (by rw[impH_next];omega) (fun j R h=>by cases h)
 |pan=>obtain⟨_,_,_,_,_,_,q⟩:=ho;exact q.elim
 |nrm=>exact ho.elim
 |exit=>exact ho.elim
 |ret=>exact ho.elim
end
end Go.Ideal
set_option maxRecDepth 100000
set_option maxHeartbeats 4000000
namespace Go.Proofs.YtffbioplncclkaaGreat
open Go.ChangeShapes Go.WideShapes Go.RowKit Go.Ideal Go.Ideal.S
theorem own:ownKnob Tryz.prog.godebug=none:=by kernel_rfl
theorem laidOut:laidOutB Tryz.prog=true:=by kernel_rfl
theorem ci1:Tryz.prog.cellsOf 3=1:=by kernel_rfl
theorem ck1:Tryz.prog.cellsOf 58=1:=by kernel_rfl
theorem cs1:Tryz.prog.cellsOf 36=1:=by kernel_rfl
theorem cV2:Tryz.prog.cellsOf 60=2:=by kernel_rfl
def vSv (v:Sv):List Value:=[.int .i64 v.k,.int .i64 v.n]
theorem LRel1 {w:Wd} {d:DV} {v:Value} (h:VRel w d v):LRel w [d] [v]:=⟨rfl,fun k d' v' hd hv=>by
 match k with
 |0=>cases hd;cases hv;exact h
 |k+1=>simp at hd⟩
theorem LRel.cons {w:Wd} {d:DV} {v:Value} {ds:List DV} {vs:List Value} (h:VRel w d v) (hs:LRel w ds vs):LRel w (d::ds) (v::vs):=⟨by simp[hs.len],fun k d' v' hd hv=>by
 match k with
 |0=>cases hd;cases hv;exact h
 |k+1=>exact hs.at_ k _ _ (by simpa using hd) (by simpa using hv)⟩
section
variable {H:Type} {enc:TypeId×Value→H} {W:World} {base b:Nat} {r:Reach} {spare:Nat→Bool} {held:Bool} {v:Value} {d:DataW H} {ps:List MemPlace}
theorem zhU {fuel:Nat} {cs:List Value} {x:DataW H×List MemPlace} (h:qr enc Tryz.prog W b spare held fuel 60 cs=some x): ∃a:Sv,cs=vSv a:=by
 obtain⟨xs,n,_,_,hl,hlen,hf⟩:=DataW.trod_struct Tryz.underlying60 h;rw[cV2] at hl
 match cs,hl with
 | [d0,d1],_=>
   have e0:qr enc Tryz.prog W b spare held n 58 (([d0,d1].drop 0).take (Tryz.prog.cellsOf 58))=xs[0]?:=hf 0 _ rfl;have e1:qr enc Tryz.prog W b spare held n 3 (([d0,d1].drop 1).take (Tryz.prog.cellsOf 3))=xs[1]?:=hf 1 _ rfl;rw[ck1] at e0;rw[ci1] at e1
   match xs,hlen with
   | [y0,y1],_=>
     obtain⟨p,rfl,_⟩:=zcF Tryz.underlying58 (show qr enc Tryz.prog W b spare held n 58 [d0]=some y0 from e0);obtain⟨q,rfl,_⟩:=zcF Tryz.underlying3 (show qr enc Tryz.prog W b spare held n 3 [d1]=some y1 from e1);exact⟨⟨p,q⟩,rfl⟩
end
end Go.Proofs.YtffbioplncclkaaGreat
set_option maxRecDepth 10000
set_option maxHeartbeats 1000000
namespace Go.Ideal.S
open Go Go.Ideal Q Classical
attribute [local simp] decide_eq_true decide_eq_false zP
section
variable {M M' B:VM} {k kp:DV→VM→Prop} {n0 j:Nat}
structure Qu where
 ch:Int
 ms:List (List Sv)
structure Wt where
 nth:Int
 pl:Int
 nd:Int
 env:List Sv
structure Pc where
 sp:List Int
 qs:List Qu
 ws:List Wt
def eInt (n:Int):List DV:=[I n]
def eMsg (m:List Sv):List DV:=[.lst 2 (m.map eSv)]
def eQu (q:Qu):List DV:=[I q.ch,.lst 1 (q.ms.map eMsg)]
def eWt (w:Wt):List DV:=[I w.nth,I w.pl,I w.nd,.lst 2 (w.env.map eSv)]
def ePc (x:Pc):List DV:=[.lst 1 (x.sp.map eInt),.lst 2 (x.qs.map eQu),.lst 4 (x.ws.map eWt)]
@[simp] theorem t_Msg (v:List Sv):zcZ 1 (eMsg v)=some (eMsg v):=by simp[eMsg]
@[simp] theorem n_Msg (v:List Sv):(eMsg v).length=1:=by simp[eMsg]
@[simp] theorem all_Msg (v:List Sv):(∀x,x∈eMsg v→zj x=true)=True:=eq_true (by simp[eMsg,zj])
@[simp] theorem t_Qu (v:Qu):zcZ 2 (eQu v)=some (eQu v):=by simp[eQu]
@[simp] theorem n_Qu (v:Qu):(eQu v).length=2:=by simp[eQu]
@[simp] theorem all_Qu (v:Qu):(∀x,x∈eQu v→zj x=true)=True:=eq_true (by simp[eQu,zj])
@[simp] theorem t_Wt (v:Wt):zcZ 4 (eWt v)=some (eWt v):=by simp[eWt]
@[simp] theorem n_Wt (v:Wt):(eWt v).length=4:=by simp[eWt]
@[simp] theorem all_Wt (v:Wt):(∀x,x∈eWt v→zj x=true)=True:=eq_true (by simp[eWt,zj])
@[simp] theorem t_Pc (v:Pc):zcZ 3 (ePc v)=some (ePc v):=by simp[ePc]
@[simp] theorem n_Pc (v:Pc):(ePc v).length=3:=by simp[ePc]
@[simp] theorem all_Pc (v:Pc):(∀x,x∈ePc v→zj x=true)=True:=eq_true (by simp[ePc,zj])
@[simp] theorem n_Int (v:Int):(eInt v).length=1:=by simp[eInt]
theorem b_Int {n:Nat} (v:Int): ∀d∈eInt v,zG n d:=by simp[eInt]
theorem b_Msg {n:Nat} (m:List Sv): ∀d∈eMsg m,zG n d:=by
 intro d hd;simp only[eMsg,qm,qj,or_false] at hd;subst hd;exact .lst (mapb b_Sv _)
theorem b_Qu {n:Nat} (q:Qu): ∀d∈eQu q,zG n d:=by
 intro d hd;simp only[eQu,qm,qj,or_false] at hd;rcases hd with rfl|rfl
 ·exact .int _ _
 ·exact .lst (mapb b_Msg _)
theorem b_Wt {n:Nat} (q:Wt): ∀d∈eWt q,zG n d:=by
 intro d hd;simp only[eWt,qm,qj,or_false] at hd;rcases hd with rfl|rfl|rfl|rfl
 ·exact .int _ _
 ·exact .int _ _
 ·exact .int _ _
 ·exact .lst (mapb b_Sv _)
theorem b_Pc {n:Nat} (q:Pc): ∀d∈ePc q,zG n d:=by
 intro d hd;simp only[ePc,qm,qj,or_false] at hd;rcases hd with rfl|rfl|rfl
 ·exact .lst (mapb b_Int _)
 ·exact .lst (mapb b_Qu _)
 ·exact .lst (mapb b_Wt _)
attribute [local simp] c_n f_n r_n_1 r_n_2 r_n_3 r_n_4 r_n_5 r_n_6 r_n_7 r_n_9 c_H f_H r_H_1 r_H_2 c_4 f_4 r_4_1 r_4_2 c_bl f_bl r_bl_1 r_bl_2
theorem indexI_ok {f:DV} {l:List Int} (p:Int→Bool) (hl:l.length<4000000000000000000) (hf: ∀v∈l,∀{k:DV→VM→Prop},k (.bool (p v)) M→zg F f [I v] M k kp) (hk: ∀r:Int,decide (0≤r)=l.any p→k (I r) M):zg F (.fn n_n [] []) [.lst 1 (l.map eInt),f] M k kp:=by
 refine .fn zdp rfl (by simp[f_n]) ?_;simp(disch:=((try simp only[nx3]);omega));refine .for (σ:=Unit) c_n_8.eq_1 (fun i _=>[(8,I i)]) (fun _=>M) (fun i _=>(l.take i).any p=false) l.length () (by simp) rfl rfl (fun i _ hi hP again=> ?_) (fun _ hP=> ?_)
 ·rw[List.take_succ_eq_append_getElem hi,List.any_append] at again;have hf:= @hf l[i] (List.getElem_mem hi);have hin:=List.getElem_mem hi;generalize hx:l[i]=v at*;simp(disch:=((try simp only[nx3]);omega)) [hi,hx,eInt];refine hf ?_;cases hp:p v with
  |true=>
   have hk:=hk i (by rw[decide_eq_true (by omega)];exact(qv.2 ⟨v,hin,hp⟩).symm);clear again;simp(disch:=((try simp only[nx3]);omega));exact hk
  |false=>
   have again:=again () (by rw[hP];simp[hp]);simp at again;simp(disch:=((try simp only[nx3]);omega));exact again
 ·rw[qh] at hP;have hk:=hk (-1) (by rw[hP];decide);simp(disch:=((try simp only[nx3]);omega));exact hk
theorem containsI_ok {f:DV} {l:List Int} (p:Int→Bool) (hl:l.length<4000000000000000000) (hf: ∀v∈l,∀{k:DV→VM→Prop},k (.bool (p v)) M→zg F f [I v] M k kp) (hk:k (.bool (l.any p)) M):zg F (.fn n_H [] []) [.lst 1 (l.map eInt),f] M k kp:=by
 refine .fn zcT rfl (by simp[f_H]) ?_;simp(disch:=((try simp only[nx3]);omega));refine indexI_ok p hl hf fun r hr=> ?_;simp(disch:=((try simp only[nx3]);omega)) [hr];exact hk
theorem allI_ok {g:Nat} {l:List Int} (q:Int→Bool) (hl:l.length<4000000000000000000) (hf: ∀v∈l,∀{M:VM} {k:DV→VM→Prop},k (.bool (q v)) M→zg F (.fn g [] []) [I v] M k kp) (hk:k (.bool (l.all q)) M):zg F (.fn n_4 [] []) [.lst 1 (l.map eInt),.fn g [] []] M k kp:=by
 apply zg.back;refine .fn zkg rfl (by simp[f_4]) ?_;simp(disch:=((try simp only[nx3]);omega));refine containsI_ok (fun v=> !q v) hl (fun v hv {k} hk=> ?_) ?_
 ·apply zg.back;refine .fn ziT rfl (by simp[f_bl]) ?_;simp(disch:=((try simp only[nx3]);omega));refine hf v hv ?_;simp(disch:=((try simp only[nx3]);omega));exact bpl hk
 ·have e:(!(l.any fun v=> !q v))=l.all q:=by rw[List.not_any_eq_all_not];simp
  generalize (l.any fun v=> !q v)=b at*;simp(disch:=((try simp only[nx3]);omega));rw[e];exact bpl hk
attribute [local simp] c_g f_g r_g_1 r_g_2 r_g_3 r_g_4 r_g_5 r_g_6 r_g_7 r_g_9 c_x f_x r_x_1 r_x_2 c_U f_U r_U_1 r_U_2 c_bi f_bi r_bi_1 r_bi_2
theorem indexM_ok {f:DV} {l:List (List Sv)} (p:(List Sv)→Bool) (hl:l.length<4000000000000000000) (hf: ∀v∈l,∀{k:DV→VM→Prop},k (.bool (p v)) M→zg F f [DV.agg (eMsg v)] M k kp) (hk: ∀r:Int,decide (0≤r)=l.any p→k (I r) M):zg F (.fn n_g [] []) [.lst 1 (l.map eMsg),f] M k kp:=by
 refine .fn zbV rfl (by simp[f_g]) ?_;simp(disch:=((try simp only[nx3]);omega));refine .for (σ:=Unit) c_g_8.eq_1 (fun i _=>[(8,I i)]) (fun _=>M) (fun i _=>(l.take i).any p=false) l.length () (by simp) rfl rfl (fun i _ hi hP again=> ?_) (fun _ hP=> ?_)
 ·rw[List.take_succ_eq_append_getElem hi,List.any_append] at again;have hf:= @hf l[i] (List.getElem_mem hi);have hin:=List.getElem_mem hi;generalize hx:l[i]=v at*;simp(disch:=((try simp only[nx3]);omega)) [hi,hx];refine hf ?_;cases hp:p v with
  |true=>
   have hk:=hk i (by rw[decide_eq_true (by omega)];exact(qv.2 ⟨v,hin,hp⟩).symm);clear again;simp(disch:=((try simp only[nx3]);omega));exact hk
  |false=>
   have again:=again () (by rw[hP];simp[hp]);simp at again;simp(disch:=((try simp only[nx3]);omega));exact again
 ·rw[qh] at hP;have hk:=hk (-1) (by rw[hP];decide);simp(disch:=((try simp only[nx3]);omega));exact hk
theorem containsM_ok {f:DV} {l:List (List Sv)} (p:(List Sv)→Bool) (hl:l.length<4000000000000000000) (hf: ∀v∈l,∀{k:DV→VM→Prop},k (.bool (p v)) M→zg F f [DV.agg (eMsg v)] M k kp) (hk:k (.bool (l.any p)) M):zg F (.fn n_x [] []) [.lst 1 (l.map eMsg),f] M k kp:=by
 refine .fn zbD rfl (by simp[f_x]) ?_;simp(disch:=((try simp only[nx3]);omega));refine indexM_ok p hl hf fun r hr=> ?_;simp(disch:=((try simp only[nx3]);omega)) [hr];exact hk
theorem allM_ok {g:Nat} {l:List (List Sv)} (q:(List Sv)→Bool) (hl:l.length<4000000000000000000) (hf: ∀v∈l,∀{M:VM} {k:DV→VM→Prop},k (.bool (q v)) M→zg F (.fn g [] []) [DV.agg (eMsg v)] M k kp) (hk:k (.bool (l.all q)) M):zg F (.fn n_U [] []) [.lst 1 (l.map eMsg),.fn g [] []] M k kp:=by
 apply zg.back;refine .fn zfj rfl (by simp[f_U]) ?_;simp(disch:=((try simp only[nx3]);omega));refine containsM_ok (fun v=> !q v) hl (fun v hv {k} hk=> ?_) ?_
 ·apply zg.back;refine .fn zeZ rfl (by simp[f_bi]) ?_;simp(disch:=((try simp only[nx3]);omega));refine hf v hv ?_;simp(disch:=((try simp only[nx3]);omega));exact bpl hk
 ·have e:(!(l.any fun v=> !q v))=l.all q:=by rw[List.not_any_eq_all_not];simp
  generalize (l.any fun v=> !q v)=b at*;simp(disch:=((try simp only[nx3]);omega));rw[e];exact bpl hk
attribute [local simp] c_d f_d r_d_1 r_d_2 r_d_3 r_d_4 r_d_5 r_d_6 r_d_7 r_d_9 c_r f_r r_r_1 r_r_2 c_N f_N r_N_1 r_N_2 c_bc f_bc r_bc_1 r_bc_2
theorem indexQ_ok {f:DV} {l:List Qu} (p:Qu→Bool) (hl:l.length<4000000000000000000) (hf: ∀v∈l,∀{k:DV→VM→Prop},k (.bool (p v)) M→zg F f [DV.agg (eQu v)] M k kp) (hk: ∀r:Int,decide (0≤r)=l.any p→k (I r) M):zg F (.fn n_d [] []) [.lst 2 (l.map eQu),f] M k kp:=by
 refine .fn zbr rfl (by simp[f_d]) ?_;simp(disch:=((try simp only[nx3]);omega));refine .for (σ:=Unit) c_d_8.eq_1 (fun i _=>[(8,I i)]) (fun _=>M) (fun i _=>(l.take i).any p=false) l.length () (by simp) rfl rfl (fun i _ hi hP again=> ?_) (fun _ hP=> ?_)
 ·rw[List.take_succ_eq_append_getElem hi,List.any_append] at again;have hf:= @hf l[i] (List.getElem_mem hi);have hin:=List.getElem_mem hi;generalize hx:l[i]=v at*;simp(disch:=((try simp only[nx3]);omega)) [hi,hx];refine hf ?_;cases hp:p v with
  |true=>
   have hk:=hk i (by rw[decide_eq_true (by omega)];exact(qv.2 ⟨v,hin,hp⟩).symm);clear again;simp(disch:=((try simp only[nx3]);omega));exact hk
  |false=>
   have again:=again () (by rw[hP];simp[hp]);simp at again;simp(disch:=((try simp only[nx3]);omega));exact again
 ·rw[qh] at hP;have hk:=hk (-1) (by rw[hP];decide);simp(disch:=((try simp only[nx3]);omega));exact hk
theorem containsQ_ok {f:DV} {l:List Qu} (p:Qu→Bool) (hl:l.length<4000000000000000000) (hf: ∀v∈l,∀{k:DV→VM→Prop},k (.bool (p v)) M→zg F f [DV.agg (eQu v)] M k kp) (hk:k (.bool (l.any p)) M):zg F (.fn n_r [] []) [.lst 2 (l.map eQu),f] M k kp:=by
 refine .fn zbk rfl (by simp[f_r]) ?_;simp(disch:=((try simp only[nx3]);omega));refine indexQ_ok p hl hf fun r hr=> ?_;simp(disch:=((try simp only[nx3]);omega)) [hr];exact hk
theorem allQ_ok {g:Nat} {l:List Qu} (q:Qu→Bool) (hl:l.length<4000000000000000000) (hf: ∀v∈l,∀{M:VM} {k:DV→VM→Prop},k (.bool (q v)) M→zg F (.fn g [] []) [DV.agg (eQu v)] M k kp) (hk:k (.bool (l.all q)) M):zg F (.fn n_N [] []) [.lst 2 (l.map eQu),.fn g [] []] M k kp:=by
 apply zg.back;refine .fn zd4 rfl (by simp[f_N]) ?_;simp(disch:=((try simp only[nx3]);omega));refine containsQ_ok (fun v=> !q v) hl (fun v hv {k} hk=> ?_) ?_
 ·apply zg.back;refine .fn zdB rfl (by simp[f_bc]) ?_;simp(disch:=((try simp only[nx3]);omega));refine hf v hv ?_;simp(disch:=((try simp only[nx3]);omega));exact bpl hk
 ·have e:(!(l.any fun v=> !q v))=l.all q:=by rw[List.not_any_eq_all_not];simp
  generalize (l.any fun v=> !q v)=b at*;simp(disch:=((try simp only[nx3]);omega));rw[e];exact bpl hk
end
section
variable {M M' B:VM} {k kp:DV→VM→Prop} {n0 j:Nat}
theorem back_lb {d:DV} {s:Nat} {rows:List (List DV)} (hL:Lb M' d s rows) (hf: ∀q,q<M.next→Off d q) (h:SM M.next M M') (hb: ∀r∈rows,∀x∈r,zG M.next x) (hk:k (.lst s rows) M):Back k M d M':=fun hw=>by
 refine⟨.lst s rows,?_,.lst hb,h,hk⟩;rcases hL.v with⟨rfl,e⟩| ⟨q,op,cap,h2,e,h4,_⟩
 ·rw[e];exact .nilS s
 ·rw[e] at hf⊢;have hq:M.next≤q:=qf fun h=>hf q (by omega) rfl;exact .ms0 h4 (hw q hq) rfl hL.row
attribute [local simp] c_t f_t r_t_1 r_t_2 r_t_3 r_t_4 r_t_5 r_t_6 r_t_7 r_t_9 c_J f_J r_J_1 r_J_2
theorem indexInt_ok (l:List Int) (n:Int) (hl:l.length<4000000000000000000) (hk: ∀r:Int,decide (0≤r)=decide (n∈l)→k (I r) M):zg F (.fn n_t [] []) [.lst 1 (l.map eInt),I n] M k kp:=by
 refine .fn ze0 rfl (by simp[f_t]) ?_;simp(disch:=((try simp only[nx3]);omega));refine .for (σ:=Unit) c_t_8.eq_1 (fun i _=>[(8,I i)]) (fun _=>M) (fun i _=>n∉l.take i) l.length () (by simp) rfl (by simp) (fun i _ hi hP again=> ?_) (fun _ hP=> ?_)
 ·rw[List.take_succ_eq_append_getElem hi] at again;have hin:=List.getElem_mem hi;generalize hx:l[i]=v at*;by_cases hv:n=v
  ·have hk:=hk i (by rw[decide_eq_true (by omega),decide_eq_true (by rw[hv];exact hin)]);clear again;simp(disch:=((try simp only[nx3]);omega)) [hi,hx,eInt,hv];exact hk
  ·have again:=again () (fun hm=>by
    rcases qA.1 hm with hm|hm
    ·exact hP hm
    ·exact hv (qn.1 hm))
   simp at again;simp(disch:=((try simp only[nx3]);omega)) [hi,hx,eInt,hv];exact again
 ·rw[qh] at hP;have hk:=hk (-1) (by rw[decide_eq_false hP];decide);simp(disch:=((try simp only[nx3]);omega));exact hk
theorem zk1 (l:List Int) (n:Int) (hl:l.length<4000000000000000000) (hk:k (.bool (decide (n∈l))) M):zg F (.fn n_J [] []) [.lst 1 (l.map eInt),I n] M k kp:=by
 refine .fn zdC rfl (by simp[f_J]) ?_;simp(disch:=((try simp only[nx3]);omega));refine indexInt_ok l n hl fun r hr=> ?_;simp(disch:=((try simp only[nx3]);omega)) [hr];exact hk
def zhY (l:List Int):List (DV×DV):=l.map fun n=>(I n,.bool true)
theorem find_seen (n:Int): ∀l:List Int,zes .int (I n) (zhY l)=some (if n∈l then some (.bool true) else none)
 | []=>rfl
 |m::l=>by
  show((some (eqI n m)).bind fun b=>match b with|true=>some (some (DV.bool true))|false=>zes .int (I n) (zhY l))=_;rw[zfN,qd];by_cases h:n=m
  ·subst h;rw[decide_eq_true rfl];simp
  ·rw[decide_eq_false h];dsimp only;rw[find_seen n l];simp[h]
theorem set_seen (n:Int): ∀l:List Int,n∉l→setD .int (I n) (.bool true) (zhY l)=some (zhY (l++[n]))
 | [],_=>rfl
 |m::l,h=>by
  have h1:n≠m:=fun e=>h (by rw[e];exact List.mem_cons_self);show((some (eqI n m)).bind fun s=>match s with
   |true=>if zb1 (zr (I n)) (zr (I m))=true then some ((I n,DV.bool true)::zhY l) else none
   |false=>(setD .int (I n) (.bool true) (zhY l)).map fun y=>(I m,DV.bool true)::y)=_
  rw[zfN,qd,decide_eq_false h1];dsimp only;rw[set_seen n l (fun q=>h (List.mem_cons_of_mem _ q))];rfl
attribute [local simp] c_O f_O r_O_1 r_O_2 r_O_3 r_O_4 r_O_5 r_O_6 r_O_7 r_O_8 r_O_9 r_O_11
theorem once_ok (l:List Int) (hl:l.length<4000000000000000000) (hk:k (.bool (decide l.Nodup)) M):zg F (.fn n_O [] []) [.lst 1 (l.map eInt)] M k kp:=by
 apply zg.back;refine .fn h_wire_once rfl (by simp[f_O]) ?_;simp(disch:=((try simp only[nx3]);omega));refine .for (σ:=VM) c_O_10.eq_1 (fun i _=>[(9,I i)]) (fun z=>z) (fun i z=>SM M.next M z∧M.next<z.next∧z.obj M.next=some (.map (zhY (l.take i)))∧(l.take i).Nodup) l.length (M.new (.map [])) (by simp) rfl ⟨(by repeat' (first|assumption|exact zbj _ _|apply zC|apply zT|apply zck| ((try simp only[nx3]);omega))),by simp,by simp[zhY],by simp⟩ (fun i y hi hP again=> ?_) (fun y hP=> ?_)
 ·obtain⟨p1,p2,p3,p4⟩:=hP;have hf:=find_seen l[i] (l.take i);have hs:=set_seen l[i] (l.take i);have hin:l.take (i+1)=l.take i++[l[i]]:=qe hi;rw[hin] at again;generalize hx:l[i]=v at*;have hl1:lkE .int (.bool false) false (I v) (some (zhY (l.take i)))=some (zbw (.bool false) false (if v∈l.take i then some (.bool true) else none)):=by
   show(match zD .int (I v) (I v) with|some _=>(zes .int (I v) (zhY (l.take i))).map (zbw (.bool false) false)|none=>none)=_;rw[hf];rfl
  by_cases hv:v∈l.take i
  ·rw[if_pos hv] at hl1;have hnd: ¬l.Nodup:=fun h=>by
    have h1:=List.Sublist.nodup (List.take_sublist (i+1) l) h;rw[hin] at h1;have:=(qx.1 h1).2.2 v hv v (qn.2 rfl);exact this rfl
   rw[decide_eq_false hnd] at hk;clear again;simp(disch:=((try simp only[nx3]);omega)) [hi,hx,eInt,p3,hl1,zbw];exact Back.plain (by simp) p1 hk
  ·rw[if_neg hv] at hl1;have hs:=hs hv;have hu:updD .int y (I v) (.bool true) (.map M.next)=some (y.put M.next (.map (zhY (l.take i++[v])))):=by
    show(y.obj M.next).bind _=_;rw[p3];show(zD .int (I v) (I v)).bind (fun _=>(setD .int (I v) (.bool true) (zhY (l.take i))).map fun es=>y.put M.next (.map es))=_;rw[hs];rfl
   have again:=again (y.put M.next (.map (zhY (l.take i++[v])))) ⟨(by repeat' (first|assumption|exact zbj _ _|apply zC|apply zT|apply zck| ((try simp only[nx3]);omega))),by simp;omega,by simp,by
    refine qx.2 ⟨p4,by simp,fun a ha b hb e=> ?_⟩;rw[qn.1 hb] at e;exact hv (by rw[←e];exact ha)⟩
   simp at again;simp(disch:=((try simp only[nx3]);omega)) [hi,hx,eInt,p3,hl1,zbw,hu];exact again
 ·obtain⟨p1,p2,p3,p4⟩:=hP;rw[qh] at p4;rw[decide_eq_true p4] at hk;simp(disch:=((try simp only[nx3]);omega));exact Back.plain (by simp) p1 hk
attribute [local simp] c_l f_l r_l_1 r_l_2 r_l_3 r_l_4 r_l_5 r_l_6 r_l_7 r_l_9 r_bm c_bm f_bm r_bm_1 r_bm_2
theorem fine2_ok (q:Qu) (hk:k (I q.ch) M):zg F (.fn n_bm [] []) [.agg (eQu q)] M k kp:=by
 apply zg.back;refine .fn h_wire_fine_2 rfl (by simp[f_bm]) ?_;simp(disch:=((try simp only[nx3]);omega)) [eQu];exact bpl hk
theorem eachQ_ok (l:List Qu) (hl:l.length≤1000000) (hk:k (.lst 1 ((l.map Qu.ch).map eInt)) M):zg F (.fn n_l [] []) [.lst 2 (l.map eQu),(.fn n_bm [] [])] M k kp:=by
 apply zg.back;refine .fn zcS rfl (by simp[f_l]) ?_;simp(disch:=((try simp only[nx3]);omega));refine .for (σ:=VM×DV) c_l_8.eq_1 (fun i z=>[(5,z.2),(10,I i)]) (fun z=>z.1) (fun i z=>SM M.next M z.1∧M.next≤z.1.next∧Lb z.1 z.2 1 (((l.take i).map Qu.ch).map eInt)∧ ∀q,q<M.next→Off z.2 q) l.length (M,.nilS) (by simp) rfl ⟨(by repeat' (first|assumption|exact zbj _ _|apply zC|apply zT|apply zck| ((try simp only[nx3]);omega))),qk _,.nil _ _,fun _ _=>trivial⟩ (fun i z hi hP again=> ?_) (fun z hP=> ?_)
 ·obtain⟨y,d⟩:=z;obtain⟨p1,p2,p3,p4⟩:=hP;dsimp only at*;rw[List.take_succ_eq_append_getElem hi] at again;generalize hx:l[i]=v at*;have wQ:zp [I 0,.nilS] 0 (eQu v)=some (eQu v):=rfl;simp(disch:=((try simp only[nx3]);omega)) [hi,hx,wQ];refine fine2_ok v ?_;simp(disch:=((try simp only[nx3]);omega));have kq: ∀q,q<y.next→((y.new (.rows false 2 [[.int .i64 0,.nilS]])).put y.next (.rows false 2 [eQu v])).get q=y.get q:=fun q hq=>by rw[get_put,if_neg (by omega),get_new,if_neg (by omega)]
  have p3y:=p3.keepA (M2:=(y.new (.rows false 2 [[.int .i64 0,.nilS]])).put y.next (.rows false 2 [eQu v])) (by simp;omega) kq;refine zgV (p3y.new _) (new:=[eInt v.ch]) (by simp[eInt]) (by decide) (by simp[eInt]) (by simp) (by simp;omega) fun d' M' hL hG=> ?_;have nx:=hG.pre.nx;simp at nx;have again:=again (M',d') ⟨fun q hq=>by rw[hG.pre.kp q (by simp;omega) (p4 q hq),kq q (by omega)];exact p1 q hq,by dsimp only;omega,by simpa using hL,fun q hq=>hG.pre.of q (by simp;omega) (p4 q hq)⟩;simp at again;simp(disch:=((try simp only[nx3]);omega));exact again
 ·obtain⟨y,d⟩:=z;obtain⟨p1,p2,p3,p4⟩:=hP;dsimp only at*;rw[qh] at p3;simp(disch:=((try simp only[nx3]);omega));exact back_lb p3 p4 p1 (mapb b_Int _) hk
def QueV (q:Qu):Prop:=(0≤q.ch∧q.ch<60)∧(1≤q.ms.length∧q.ms.length≤12)∧ ∀m∈q.ms,MsgV m
attribute [local simp] r_bo c_bo f_bo r_bo_1 r_bo_2 r_bn c_bn f_bn r_bn_1 r_bn_2
theorem fine1_ok (n:Int) (hk:k (.bool (decide (0≤n∧n<24))) M):zg F (.fn n_bo [] []) [I n] M k kp:=by
 apply zg.back;refine .fn h_wire_fine_1 rfl (by simp[f_bo]) ?_;simp(disch:=((try simp only[nx3]);omega));refine ze7 _ _ ?_;generalize decide (0≤n∧n<24)=b at*;simp(disch:=((try simp only[nx3]);omega));exact bpl hk
theorem fine3_ok (q:Qu) (hl:q.ms.length<4000000000000000000) (hm: ∀m∈q.ms,m.length<4000000000000000000) (hk:k (.bool (decide (QueV q))) M):zg F (.fn n_bn [] []) [.agg (eQu q)] M k kp:=by
 apply zg.back;refine .fn h_wire_fine_3 rfl (by simp[f_bn]) ?_;simp(disch:=((try simp only[nx3]);omega)) [eQu];refine ze7 _ _ ?_;by_cases h1:0≤q.ch∧q.ch<60
 ·rw[decide_eq_true h1];by_cases h2:1≤q.ms.length
  ·have h2i:(1:Int)≤q.ms.length:=by omega
   by_cases h3:q.ms.length≤12
   ·have h3i:(q.ms.length:Int)≤12:=by omega
    simp(disch:=((try simp only[nx3]);omega)) [eQu,h2i,h3i];refine allM_ok (fun m=>decide (MsgV m)) hl (fun m hmm {M k} hk=>zlp m (hm m hmm) hk) ?_;have e:q.ms.all (fun m=>decide (MsgV m))=decide (QueV q):=by
     rw[Bool.eq_iff_iff,ql,decide_eq_true_iff];exact⟨fun h=>⟨h1,⟨h2,h3⟩,fun v hv=>of_decide_eq_true (h v hv)⟩,fun h v hv=>decide_eq_true (h.2.2 v hv)⟩
    rw[e];simp(disch:=((try simp only[nx3]);omega));exact bpl hk
   ·have h3i: ¬(q.ms.length:Int)≤12:=by omega
    rw[decide_eq_false (fun h=>h3 h.2.1.2)] at hk;simp(disch:=((try simp only[nx3]);omega)) [eQu,h2i,h3i];exact bpl hk
  ·have h2i: ¬(1:Int)≤q.ms.length:=by omega
   rw[decide_eq_false (fun h=>h2 h.2.1.1)] at hk;simp(disch:=((try simp only[nx3]);omega)) [eQu,h2i];exact bpl hk
 ·rw[decide_eq_false h1];rw[decide_eq_false (fun h=>h1 h.1)] at hk;simp(disch:=((try simp only[nx3]);omega));exact bpl hk
end
end Go.Ideal.S
set_option maxHeartbeats 2000000
namespace Go.Ideal.S
open Go Go.Ideal Q Classical
attribute [local simp] decide_eq_true decide_eq_false zP
section
variable {M M' B:VM} {k kp:DV→VM→Prop} {n0 j:Nat}
def WaitV (sp:List Int) (last:Int) (w:Wt):Prop:=(last<w.nth∧w.nth<40)∧w.pl∈sp∧(0≤w.nd∧w.nd<60)∧ ∀v∈w.env,ValV v
def zho (ws:List Wt):Nat→Int
 |0=> -1
 |i+1=>match ws[i]? with|some w=>w.nth|none=>0
def WaitsV (sp:List Int) (ws:List Wt):Prop:= ∀i (hi:i<ws.length),WaitV sp (zho ws i) ws[i]
def zfY (x:Pc):Prop:=(1≤x.sp.length∧x.sp.length≤24∧x.qs.length≤60∧x.ws.length≤40)∧x.sp.Nodup∧(∀n∈x.sp,0≤n∧n<24)∧(x.qs.map Qu.ch).Nodup∧(∀q∈x.qs,QueV q)∧WaitsV x.sp x.ws
structure SzP (x:Pc):Prop where
 sp:x.sp.length<1000000
 qs:x.qs.length<1000000
 ws:x.ws.length<1000000
 ms: ∀q∈x.qs,q.ms.length<1000000∧ ∀m∈q.ms,m.length<1000000
 env: ∀w∈x.ws,w.env.length<1000000
attribute [local simp] r_bg c_bg f_bg r_bg_1 r_bg_2 r_bg_3 r_bg_4
theorem fine4_ok {c xq:Nat} {x:Pc} {w:Wt} {last:Int} (hx:SzP x) (hw:w.env.length<1000000) (hc:M.obj c=some (.rows false 1 [[I last]])) (hq:M.obj xq=some (.rows false 3 [ePc x])) (hcn:c<M.next) (hqn:xq<M.next)
 (hk: ∀M',M'.obj c=some (.rows false 1 [[I w.nth]])→M.next≤M'.next→(∀i,i<M.next→i≠c→M'.get i=M.get i)→k (.bool (decide (WaitV x.sp last w))) M'):zg F (.fn n_bg [] [.ptr c 0 0,.ptr xq 0 0]) [.agg (eWt w)] M k kp:=by
 have hne:xq≠c:=fun e=>by rw[e,hc] at hq;injection hq with hq;injection hq with _ h2 _;cases h2
 have hk:=hk ((M.new (.rows false 4 [eWt w])).put c (.rows false 1 [[I w.nth]])) (by simp) (by simp;omega) fun i hi hn=>by rw[get_put,if_neg hn,get_new,if_neg (by omega)]
 have a1:M.next≠c:=by omega
 refine .fn h_wire_fine_4 rfl (by simp[f_bg]) ?_;by_cases h1:last<w.nth∧w.nth<40
 ·obtain⟨h1a,h1b⟩:=h1;simp(disch:=((try simp only[nx3]);omega)) [eWt,hc,hq,hne,a1,ePc,h1a,h1b];refine zk1 x.sp w.pl (by have:=hx.sp;omega) ?_;by_cases h2:w.pl∈x.sp
  ·rw[decide_eq_true h2];simp(disch:=((try simp only[nx3]);omega)) [eWt,a1];refine ze7 _ _ ?_;by_cases h3:0≤w.nd∧w.nd<60
   ·rw[decide_eq_true h3];simp(disch:=((try simp only[nx3]);omega)) [eWt,a1];refine allV_ok (fun v=>decide (ValV v)) (by omega) (fun v hv {M k} hk=>value_ok v hk) ?_;have e:w.env.all (fun v=>decide (ValV v))=decide (WaitV x.sp last w):=by
     rw[Bool.eq_iff_iff,ql,decide_eq_true_iff];exact⟨fun h=>⟨⟨h1a,h1b⟩,h2,h3,fun v hv=>of_decide_eq_true (h v hv)⟩,fun h v hv=>decide_eq_true (h.2.2.2 v hv)⟩
    rw[e];unfold eWt at hk;generalize decide (WaitV x.sp last w)=b at*;simp(disch:=((try simp only[nx3]);omega));exact hk
   ·rw[decide_eq_false h3];rw[decide_eq_false (fun h=>h3 h.2.2.1)] at hk;unfold eWt at hk;simp(disch:=((try simp only[nx3]);omega));exact hk
  ·rw[decide_eq_false h2];rw[decide_eq_false (fun h=>h2 h.2.1)] at hk;unfold eWt at hk;simp(disch:=((try simp only[nx3]);omega));exact hk
 ·rw[decide_eq_false (fun h=>h1 h.1)] at hk;unfold eWt at hk;by_cases h1a:last<w.nth
  ·have h1b: ¬w.nth<40:=fun h=>h1 ⟨h1a,h⟩;simp(disch:=((try simp only[nx3]);omega)) [eWt,hc,hq,hne,a1,ePc,h1a,h1b];exact hk
  ·simp(disch:=((try simp only[nx3]);omega)) [eWt,hc,hq,hne,a1,ePc,h1a];exact hk
attribute [local simp] c_e f_e r_e_1 r_e_2 r_e_3 r_e_4 r_e_5 r_e_6 r_e_7 r_e_9 c_s f_s r_s_1 r_s_2 c_P f_P r_P_1 r_P_2 c_bd f_bd r_bd_1 r_bd_2
theorem indexW_ok {f:DV} {l:List Wt} (p:Nat→Bool) (Inv:Nat→VM→Prop) (hl:l.length<4000000000000000000) (h0:Inv 0 M) (hf: ∀i (hi:i<l.length) {M':VM} {k:DV→VM→Prop},Inv i M'→(∀M'',Inv (i+1) M''→k (.bool (p i)) M'')→zg F f [.agg (eWt l[i])] M' k kp)
 (hk: ∀(r:Int) M' i,Inv i M'→(0≤r↔ ∃q,q<l.length∧p q=true)→k (I r) M'):zg F (.fn n_e [] []) [.lst 4 (l.map eWt),f] M k kp:=by
 refine .fn zbx rfl (by simp[f_e]) ?_;simp(disch:=((try simp only[nx3]);omega));refine .for (σ:=VM) c_e_8.eq_1 (fun i _=>[(8,I i)]) (fun z=>z) (fun i z=>Inv i z∧ ∀q,q<i→p q=false) l.length M (by simp) rfl ⟨h0,fun q hq=>by omega⟩ (fun i y hi hP again=> ?_) (fun y hP=> ?_)
 ·obtain⟨p1,p2⟩:=hP;simp(disch:=((try simp only[nx3]);omega)) [hi];refine hf i hi p1 fun M2 i2=> ?_;cases hp:p i with
  |true=>
   have hk:=hk i M2 (i+1) i2 ⟨fun _=>⟨i,hi,hp⟩,fun _=>by omega⟩;clear again;simp(disch:=((try simp only[nx3]);omega));exact hk
  |false=>
   have again:=again M2 ⟨i2,fun q hq=>by
    by_cases e:q=i
    ·rw[e];exact hp
    ·exact p2 q (by omega)⟩
   simp at again;simp(disch:=((try simp only[nx3]);omega));exact again
 ·obtain⟨p1,p2⟩:=hP;have hk:=hk (-1) y _ p1 ⟨fun h=>by omega,fun⟨q,h1,h2⟩=>by rw[p2 q h1] at h2;cases h2⟩;simp(disch:=((try simp only[nx3]);omega));exact hk
theorem containsW_ok {f:DV} {l:List Wt} (p:Nat→Bool) (Inv:Nat→VM→Prop) (hl:l.length<4000000000000000000) (h0:Inv 0 M) (hf: ∀i (hi:i<l.length) {M':VM} {k:DV→VM→Prop},Inv i M'→(∀M'',Inv (i+1) M''→k (.bool (p i)) M'')→zg F f [.agg (eWt l[i])] M' k kp)
 (hk: ∀(r:Bool) M' i,Inv i M'→(r=true↔ ∃q,q<l.length∧p q=true)→k (.bool r) M'):zg F (.fn n_s [] []) [.lst 4 (l.map eWt),f] M k kp:=by
 refine .fn zbo rfl (by simp[f_s]) ?_;simp(disch:=((try simp only[nx3]);omega));refine indexW_ok p Inv hl h0 hf fun r M' i hi hr=> ?_;have hk:=hk (decide (0≤r)) M' i hi (by rw[decide_eq_true_iff];exact hr);simp(disch:=((try simp only[nx3]);omega));exact hk
theorem allW_ok {c xq:Nat} {x:Pc} (hx:SzP x) (hc:M.obj c=some (.rows false 1 [[I (-1)]])) (hq:M.obj xq=some (.rows false 3 [ePc x])) (hcn:c<M.next) (hqn:xq<M.next)
 (hk: ∀M',M.next≤M'.next→(∀i,i<M.next→i≠c→M'.get i=M.get i)→k (.bool (decide (WaitsV x.sp x.ws))) M'):zg F (.fn n_P [] []) [.lst 4 (x.ws.map eWt),.fn n_bg [] [.ptr c 0 0,.ptr xq 0 0]] M k kp:=by
 have hne:xq≠c:=fun e=>by rw[e,hc] at hq;injection hq with hq;injection hq with _ h2 _;cases h2
 have a1:M.next≠c:=by omega
 refine .fn zeo rfl (by simp[f_P]) ?_;simp(disch:=((try simp only[nx3]);omega));obtain⟨M1,hM1⟩: ∃M1,M1=M.new (.rows false 1 [[.fn n_bg [] [.ptr c 0 0,.ptr xq 0 0]]]):=⟨_,rfl⟩;have n1:M1.next=M.next+1:=by rw[hM1];simp
 have o1:M1.obj M.next=some (.rows false 1 [[.fn n_bg [] [.ptr c 0 0,.ptr xq 0 0]]]):=by rw[hM1];simp
 have o2:M1.obj c=some (.rows false 1 [[I (-1)]]):=by rw[hM1,zK _ hcn];exact hc
 have o3:M1.obj xq=some (.rows false 3 [ePc x]):=by rw[hM1,zK _ hqn];exact hq
 have k1: ∀i,i<M.next→M1.get i=M.get i:=fun i hi=>by rw[hM1,get_new,if_neg (by omega)]
 rw[←hM1];refine containsW_ok (fun i=>match x.ws[i]? with|some w=> !decide (WaitV x.sp (zho x.ws i) w)|none=>false) (fun i y=>y.obj c=some (.rows false 1 [[I (zho x.ws i)]])∧(∀q,q<M1.next→q≠c→y.get q=M1.get q)∧M1.next≤y.next) (by have:=hx.ws;omega) ⟨o2,fun _ _ _=>rfl,qk _⟩ (fun i hi {y k} hI hk=> ?_) (fun r M' i hI hr=> ?_)
 ·obtain⟨i1,i2,i3⟩:=hI;have hw:=hx.env _ (qg hi);rw[qi hi] at hk;dsimp only at hk;have b1:y.obj M.next=some (.rows false 1 [[.fn n_bg [] [.ptr c 0 0,.ptr xq 0 0]]]):=by
   show(y.get _).map _=_;rw[i2 _ (by omega) a1];exact o1
  have b3:y.obj xq=some (.rows false 3 [ePc x]):=by
   show(y.get _).map _=_;rw[i2 _ (by omega) hne];exact o3
  have hlast:zho x.ws (i+1)=x.ws[i].nth:=by show(match x.ws[i]? with|some w=>w.nth|none=>0)=_;rw[qi hi]
  generalize hxw:x.ws[i]=w at*;refine .fn zd3 rfl (by simp[f_bd]) ?_;have l1:M.next<y.next:=by omega
  simp(disch:=((try simp only[nx3]);omega)) [b1,l1];refine fine4_ok (x:=x) (last:=zho x.ws i) hx hw (by rw[zK _ (by omega)];exact i1) (by rw[zK _ (by omega)];exact b3) (by simp;omega) (by simp;omega) fun M2 c1 c2 c3=> ?_;simp at c2;have hk:=hk M2 ⟨by rw[hlast];exact c1,fun q hq hqc=>by rw[c3 q (by simp;omega) hqc,get_new,if_neg (by omega)];exact i2 q hq hqc,by omega⟩;generalize decide (WaitV x.sp (zho x.ws i) w)=b at*;simp(disch:=((try simp only[nx3]);omega));exact hk
 ·obtain⟨i1,i2,i3⟩:=hI;have hk:=hk M' (by omega) fun q hq hqc=>by rw[i2 q (by omega) hqc];exact k1 q hq
  have e:(!r)=decide (WaitsV x.sp x.ws):=by
   rw[Bool.eq_iff_iff,decide_eq_true_iff];constructor
   ·intro h i hi;refine qf fun hn=> ?_;have:r=true:=hr.2 ⟨i,hi,by rw[qi hi];dsimp only;rw[decide_eq_false hn];rfl⟩;rw[this] at h;cases h
   ·intro h;cases r with
    |false=>rfl
    |true=>
     obtain⟨q,h1,h2⟩:=hr.1 rfl;rw[qi h1] at h2;dsimp only at h2;rw[decide_eq_true (h q h1)] at h2;cases h2
  simp(disch:=((try simp only[nx3]);omega));rw[e];exact hk
attribute [local simp] r_bo r_bm r_bn r_bg
attribute [local simp] c_p f_p r_p_5 r_p_6 r_p_7 r_p_8 r_p_9 r_p_10 r_p_11
theorem fine_ok (x:Pc) (hx:SzP x) (hk:k (.bool (decide (zfY x))) M):zg F (.fn n_p [] []) [.agg (ePc x)] M k kp:=by
 have s1:=hx.sp;have s2:=hx.qs;have s3:=hx.ws;apply zg.back;refine .fn h_wire_fine rfl (by simp[f_p]) ?_;by_cases h1:1≤x.sp.length∧x.sp.length≤24∧x.qs.length≤60∧x.ws.length≤40
 ·obtain⟨h1a,h1b,h1c,h1d⟩:=h1;have j1: ¬(x.sp.length:Int)<1:=by omega
  have j2: ¬(24:Int)<x.sp.length:=by omega
  have j3: ¬(60:Int)<x.qs.length:=by omega
  have j4: ¬(40:Int)<x.ws.length:=by omega
  simp(disch:=((try simp only[nx3]);omega)) [ePc,j1,j2,j3,j4];refine once_ok x.sp (by omega) ?_;by_cases h2:x.sp.Nodup
  ·rw[decide_eq_true h2];simp(disch:=((try simp only[nx3]);omega)) [ePc];refine allI_ok (fun n=>decide (0≤n∧n<24)) (by omega) (fun n hn {M k} hk=>fine1_ok n hk) ?_;by_cases h3: ∀n∈x.sp,0≤n∧n<24
   ·rw[show x.sp.all (fun n=>decide (0≤n∧n<24))=true from List.all_eq_true.2 fun n hn=>decide_eq_true (h3 n hn)];simp(disch:=((try simp only[nx3]);omega)) [ePc];refine eachQ_ok x.qs (by omega) ?_;simp(disch:=((try simp only[nx3]);omega));rw[←List.map_map];refine once_ok (x.qs.map Qu.ch) (by rw[List.length_map];omega) ?_;by_cases h4:(x.qs.map Qu.ch).Nodup
    ·rw[decide_eq_true h4];simp(disch:=((try simp only[nx3]);omega)) [ePc];refine allQ_ok (fun q=>decide (QueV q)) (by omega) (fun q hq {M k} hk=>fine3_ok q (by have:=(hx.ms q hq).1;omega) (fun m hm=>by have:=(hx.ms q hq).2 m hm;omega) hk) ?_;by_cases h5: ∀q∈x.qs,QueV q
     ·rw[show x.qs.all (fun q=>decide (QueV q))=true from List.all_eq_true.2 fun n hn=>decide_eq_true (h5 n hn)];have o1:(((M.new (.rows false 3 [ePc x])).new (.rows false 1 [[I 0]])).put (M.next+1) (.rows false 1 [[I (-1)]])).obj M.next=some (.rows false 3 [ePc x]):=by rw[zO,if_neg (by omega),zK _ (by simp)];simp
      unfold ePc at o1;simp(disch:=((try simp only[nx3]);omega)) [ePc];refine allW_ok hx (by simp) o1 (by simp) (by simp;omega) fun M2 n2 k2=> ?_;simp at n2;rw[decide_eq_decide.2 (show WaitsV x.sp x.ws↔zfY x from⟨fun h=>⟨⟨h1a,h1b,h1c,h1d⟩,h2,h3,h4,h5,h⟩,fun h=>h.2.2.2.2.2⟩)];simp(disch:=((try simp only[nx3]);omega));exact Back.plain (by simp) (fun i hi=>by rw[k2 i (by simp;omega) (by omega),get_put,if_neg (by omega),get_new,if_neg (by simp;omega),get_new,if_neg (by omega)]) hk
     ·rw[show x.qs.all (fun q=>decide (QueV q))=false from by
       rw[Bool.eq_false_iff];exact fun h=>h5 fun q hq=>of_decide_eq_true (ql.1 h q hq)]
      rw[decide_eq_false (fun h=>h5 h.2.2.2.2.1)] at hk;simp(disch:=((try simp only[nx3]);omega));exact bpl hk
    ·rw[decide_eq_false h4];rw[decide_eq_false (fun h=>h4 h.2.2.2.1)] at hk;simp(disch:=((try simp only[nx3]);omega));exact bpl hk
   ·rw[show x.sp.all (fun n=>decide (0≤n∧n<24))=false from by
     rw[Bool.eq_false_iff];exact fun h=>h3 fun q hq=>of_decide_eq_true (ql.1 h q hq)]
    rw[decide_eq_false (fun h=>h3 h.2.2.1)] at hk;simp(disch:=((try simp only[nx3]);omega));exact bpl hk
  ·rw[decide_eq_false h2];rw[decide_eq_false (fun h=>h2 h.2.1)] at hk;simp(disch:=((try simp only[nx3]);omega));exact bpl hk
 ·rw[decide_eq_false (fun h=>h1 h.1)] at hk;by_cases j1:(x.sp.length:Int)<1
  ·simp(disch:=((try simp only[nx3]);omega)) [ePc,j1];exact bpl hk
  ·by_cases j2:(24:Int)<x.sp.length
   ·simp(disch:=((try simp only[nx3]);omega)) [ePc,j1,j2];exact bpl hk
   ·by_cases j3:(60:Int)<x.qs.length
    ·simp(disch:=((try simp only[nx3]);omega)) [ePc,j1,j2,j3];exact bpl hk
    ·have j4:(40:Int)<x.ws.length:=by omega
     simp(disch:=((try simp only[nx3]);omega)) [ePc,j1,j2,j3,j4];exact bpl hk
end
section
variable {B:Base} {M M':VM} {k kp:DV→VM→Prop} {n0 j:Nat}
def encQ (w:WS) (q:Qu):WS:=q.ms.foldl WS.vals ((w.ref (chn q.ch)).num q.ms.length)
def encW (w:WS) (y:Wt):WS:=(((w.num y.nth.toNat).ref (plc y.pl)).num y.nd.toNat).vals y.env
def encS (w:WS) (n:Int):WS:=w.ref (plc n)
def wsP (x:Pc):WS:=x.ws.foldl encW ((x.qs.foldl encQ ((x.sp.foldl encS ((⟨[],[]⟩:WS).num x.sp.length)).num x.qs.length)).num x.ws.length)
def zbE (x:Pc):List UInt8:=(wsP x).fin 80
structure Sm (w:WS) (T S:Nat):Prop where
 nm:zeD w.t
 t:w.t.length≤T
 s:(zF w.b).length≤S
theorem Sm.num {w:WS} {T S n:Nat} (h:Sm w T S) (hn:n<1000000000000):Sm (w.num n) T (S+10):=by
 have b1:=big1;have:=zbn n (by omega);have:=h.s;exact⟨h.nm,h.t,by rw[num_b,List.length_append];omega⟩
theorem Sm.ref {w:WS} {T S:Nat} {v:Sv} (h:Sm w T S) (hv:zb0 v) (hT:T≤9000000):Sm (w.ref v) (T+1) (S+10):=by
 have h1:=h.t;have h2:=h.s;obtain⟨a,b,c⟩:=ref_len hv h.nm (by omega);exact⟨a,by omega,by omega⟩
theorem Sm.vals {w:WS} {T S:Nat} {l:List Sv} (h:Sm w T S) (hv: ∀v∈l,ValV v) (hT:T+l.length≤9000000):Sm (w.vals l) (T+l.length) (S+10+10*l.length):=by
 have h1:=h.t;have h2:=h.s;obtain⟨a,b,c⟩:=svals_len hv h.nm (by omega);exact⟨a,by omega,by omega⟩
theorem Sm.mono {w:WS} {T S T' S':Nat} (h:Sm w T S) (h1:T≤T') (h2:S≤S'):Sm w T' S':=⟨h.nm,by have:=h.t;omega,by have:=h.s;omega⟩
theorem zhi {n:Int} (h:0≤n∧n<24):zb0 (plc n):=.inr (.inr ⟨rfl,h⟩)
theorem name_chn {n:Int} (h:0≤n∧n<60):zb0 (chn n):=.inr (.inl ⟨rfl,h⟩)
attribute [local simp] c_k f_k r_k_1 r_k_2 r_k_3 r_k_4 r_k_5 r_k_6 r_k_7 r_k_8 r_k_10 r_k_11 r_k_12 r_k_13 r_k_14 r_k_15 r_k_16 r_k_17 r_k_18 r_k_19 r_k_20 r_k_22 r_k_24 r_k_25 r_k_26 r_k_27 r_k_28 r_k_29 r_k_30 r_k_31 r_k_32 r_k_34
theorem bytes_ok {x:Pc} (hf:zfY x) (he: ∀w∈x.ws,w.env.length<100000) (hk:k (St (zbE x)) M):zg F (.fn n_k [] []) [.agg (ePc x)] M k kp:=by
 obtain⟨⟨f1,f2,f3,f4⟩,f5,f6,f7,f8,f9⟩:=hf;have b0:=big62;apply zg.back;refine .fn h_wire_bytes rfl (by simp[f_k]) ?_;simp(disch:=((try simp only[nx3]);omega));refine write_ok fun j M1 h1=> ?_;have ob: ∀{y:VM} {w:WS},WrS (bas (M.new (.rows false 3 [ePc x]))) y j w→y.obj M.next=some (.rows false 3 [ePc x]):=fun h=>by rw[h.obj (by simp)];simp
 have sm1:=ob h1;have s0:Sm ⟨[],[]⟩ 0 0:=⟨(fun x hx=>by cases hx),qk _,qk _⟩;have s1:=s0.num (n:=x.sp.length) (by omega);simp(disch:=((try simp only[nx3]);omega)) [sm1,ePc];refine zd1 h1 x.sp.length (by omega) (by decide) fun M2 h2=> ?_;have sm2:=ob h2;simp(disch:=((try simp only[nx3]);omega)) [sm2,ePc];refine .for (σ:=VM) c_k_9.eq_1 (fun i _=>[(21,I i)]) (fun z=>z) (fun i z=>WrS (bas (M.new (.rows false 3 [ePc x]))) z j ((x.sp.take i).foldl encS ((⟨[],[]⟩:WS).num x.sp.length))∧Sm ((x.sp.take i).foldl encS ((⟨[],[]⟩:WS).num x.sp.length)) i (10+10*i)) x.sp.length M2 (by simp) rfl ⟨h2,s1⟩ (fun i y hi hP again=> ?_) (fun y hP=> ?_)
 ·obtain⟨p1,p2⟩:=hP;have hv:=f6 _ (qg hi);rw[qe hi,qp] at again;simp only[qt,qu] at again;generalize (x.sp.take i).foldl encS ((⟨[],[]⟩:WS).num x.sp.length)=u at*;generalize hx:x.sp[i]=v at*;simp(disch:=((try simp only[nx3]);omega)) [hi,hx,eInt];refine splace_ok p1 v (by have:=p2.t;omega) (by have:=p2.s;omega) fun M3 h3=> ?_;have again:=again M3 ⟨h3,(p2.ref (zhi hv) (by omega)).mono (by omega) (by omega)⟩;simp at again;simp(disch:=((try simp only[nx3]);omega));exact again
 ·obtain⟨p1,p2⟩:=hP;rw[List.take_length] at p1 p2;have q2:=p2.num (n:=x.qs.length) (by omega);generalize hu:x.sp.foldl encS ((⟨[],[]⟩:WS).num x.sp.length)=u at*;have smy:=ob p1;simp(disch:=((try simp only[nx3]);omega)) [smy,ePc];refine zd1 p1 x.qs.length (by omega) (by have:=p2.s;omega) fun M3 h3=> ?_;have sm3:=ob h3;simp(disch:=((try simp only[nx3]);omega)) [sm3,ePc];refine .for (σ:=VM) c_k_23.eq_1 (fun i _=>[(37,I i)]) (fun z=>z) (fun i z=>WrS (bas (M.new (.rows false 3 [ePc x]))) z j ((x.qs.take i).foldl encQ (u.num x.qs.length))∧Sm ((x.qs.take i).foldl encQ (u.num x.qs.length)) (24+37*i) (260+500*i)) x.qs.length M3 (by simp) rfl ⟨h3,q2.mono (by omega) (by omega)⟩ (fun i y hi hP again=> ?_) (fun y hP=> ?_)
  ·obtain⟨p1,p2⟩:=hP;obtain⟨v1,⟨v2,v3⟩,v4⟩:=f8 _ (qg hi);rw[qe hi,qp] at again;simp only[qt,qu] at again;generalize (x.qs.take i).foldl encQ (u.num x.qs.length)=w at*;generalize hx:x.qs[i]=q at*;have wQ:zp [I 0,.nilS] 0 (eQu q)=some (eQu q):=rfl;obtain⟨y2,hy2⟩: ∃y2,y2=(y.new (.rows false 2 [[.int .i64 0,.nilS]])).put y.next (.rows false 2 [eQu q]):=⟨_,rfl⟩;have p1y:=p1.add (.rows false 2 [[.int .i64 0,.nilS]]) (.rows false 2 [eQu q]);rw[←hy2] at p1y;have ny: ∀i,(bas (M.new (.rows false 3 [ePc x]))).fr i→i<y.next:=by
    obtain⟨_,_,_,h⟩:=p1;exact h.nx
   have k2: ∀i,i<y.next→y2.get i=y.get i:=fun i hi=>by rw[hy2,get_put,if_neg (by omega),get_new,if_neg (by omega)]
   have back: ∀{M3:VM} {w':WS},WrS ⟨y2,fun i=>(bas (M.new (.rows false 3 [ePc x]))).fr i∨i=y.next⟩ M3 j w'→WrS (bas (M.new (.rows false 3 [ePc x]))) M3 j w':=fun h=>h.rebase fun i hi=>⟨.inl hi,(k2 i (ny i hi)).trans (p1.sm hi)⟩;have oq: ∀{M3:VM} {w':WS},WrS ⟨y2,fun i=>(bas (M.new (.rows false 3 [ePc x]))).fr i∨i=y.next⟩ M3 j w'→M3.obj y.next=some (.rows false 2 [eQu q]):=fun h=>by rw[h.obj (.inr rfl),hy2];simp
   have oy:=oq p1y;have q3:=p2.ref (name_chn v1) (by omega);have q4:=q3.num (n:=q.ms.length) (by omega);simp(disch:=((try simp only[nx3]);omega)) [hi,hx,wQ];rw[←hy2];have f1:oneD (eQu q)=some (I q.ch):=rfl;simp(disch:=((try simp only[nx3]);omega)) [f1];refine schan_ok p1y q.ch (by have:=p2.t;omega) (by have:=p2.s;omega) fun M4 h4=> ?_;have o4:=oq h4;have f2:(eQu q).drop 1=[.lst 1 (q.ms.map eMsg)]:=rfl;simp(disch:=((try simp only[nx3]);omega)) [o4,f2];refine zd1 h4 q.ms.length (by omega) (by have:=q3.s;omega) fun M5 h5=> ?_;have o5:=oq h5;simp(disch:=((try simp only[nx3]);omega)) [o5,f2];have h5b:=back h5;refine .for (σ:=VM) c_k_21.eq_1 (fun i _=>[(53,I i)]) (fun z=>z) (fun a z=>WrS (bas (M.new (.rows false 3 [ePc x]))) z j ((q.ms.take a).foldl WS.vals ((w.ref (chn q.ch)).num q.ms.length))∧Sm ((q.ms.take a).foldl WS.vals ((w.ref (chn q.ch)).num q.ms.length)) (24+37*i+1+3*a) (260+500*i+20+40*a)) q.ms.length M5 (by simp) rfl ⟨h5b,q4.mono (by omega) (by omega)⟩ (fun a z ha hP2 again2=> ?_) (fun z hP2=> ?_)
   ·obtain⟨r1,r2⟩:=hP2;obtain⟨m1,m2⟩:=v4 _ (List.getElem_mem ha);rw[List.take_succ_eq_append_getElem ha,List.foldl_append] at again2;simp only[List.foldl_cons,List.foldl_nil] at again2;generalize (q.ms.take a).foldl WS.vals ((w.ref (chn q.ch)).num q.ms.length)=u2 at*;generalize hxm:q.ms[a]=m at*;have wM:zp [.nilS] 0 (eMsg m)=some (eMsg m):=rfl;have f3:oneD (eMsg m)=some (.lst 2 (m.map eSv)):=rfl;have r1y:=r1.keep (M':=(z.new (.rows false 1 [[.nilS]])).put z.next (.rows false 1 [eMsg m])) (by simp;omega) fun i hi=>by rw[get_put,if_neg (by omega),get_new,if_neg (by omega)]
    simp(disch:=((try simp only[nx3]);omega)) [ha,hxm,wM,f3];refine svals_ok r1y m m2 (by have:=r2.t;omega) (by have:=r2.s;omega) fun M6 h6=> ?_;have again2:=again2 M6 ⟨h6,(r2.vals m2 (by omega)).mono (by omega) (by omega)⟩;simp at again2;simp(disch:=((try simp only[nx3]);omega));exact again2
   ·obtain⟨r1,r2⟩:=hP2;rw[qh] at r1 r2;have again:=again z ⟨r1,r2.mono (by omega) (by omega)⟩;simp at again;simp(disch:=((try simp only[nx3]);omega));exact again
  ·obtain⟨p1,p2⟩:=hP;rw[List.take_length] at p1 p2;have q2:=p2.num (n:=x.ws.length) (by omega);generalize hu2:x.qs.foldl encQ (u.num x.qs.length)=u2 at*;have smy:=ob p1;simp(disch:=((try simp only[nx3]);omega)) [smy,ePc];refine zd1 p1 x.ws.length (by omega) (by have:=p2.s;omega) fun M3 h3=> ?_;have sm3:=ob h3;simp(disch:=((try simp only[nx3]);omega)) [sm3,ePc];refine .for (σ:=VM) c_k_33.eq_1 (fun i _=>[(71,I i)]) (fun z=>z) (fun i z=>WrS (bas (M.new (.rows false 3 [ePc x]))) z j ((x.ws.take i).foldl encW (u2.num x.ws.length))∧Sm ((x.ws.take i).foldl encW (u2.num x.ws.length)) (2300+100001*i) (31000+1000050*i)) x.ws.length M3 (by simp) rfl ⟨h3,q2.mono (by omega) (by omega)⟩ (fun i y hi hP again=> ?_) (fun y hP=> ?_)
   ·obtain⟨p1,p2⟩:=hP;obtain⟨⟨v1,v2⟩,v3,v4,v5⟩:=f9 i hi;have v6:=f6 _ v3;have v7:=he _ (qg hi);have v8:0≤x.ws[i].nth:=by
     have: -1≤zho x.ws i:=by
      cases i with
      |zero=>exact Int.le_refl _
      |succ i=>
       have: ∀(i:Nat) (h:i<x.ws.length),0≤x.ws[i].nth:=by
        intro i
        induction i with
        |zero=>
         intro h;have h1:=(f9 0 h).1.1;have h2:zho x.ws 0= -1:=rfl;omega
        |succ i ih=>
         intro h;have h0:=ih (by omega);have h1:=(f9 (i+1) h).1.1;have h2:zho x.ws (i+1)=x.ws[i].nth:=by
          show(match x.ws[i]? with|some w=>w.nth|none=>0)=_;rw[qi (by omega)]
         omega
       have h2:zho x.ws (i+1)=(x.ws[i]'(by omega)).nth:=by
        show(match x.ws[i]? with|some w=>w.nth|none=>0)=_;rw[qi (by omega)]
       have:=this i (by omega);omega
     omega
    rw[qe hi,qp] at again;simp only[qt,qu] at again;generalize (x.ws.take i).foldl encW (u2.num x.ws.length)=w at*;generalize hx:x.ws[i]=q at*;obtain⟨nth,hnth⟩:=Int.eq_ofNat_of_zero_le v8;obtain⟨nd,hnd⟩:=Int.eq_ofNat_of_zero_le v4.1;have wW:zp [I 0,I 0,I 0,.nilS] 0 (eWt q)=some (eWt q):=rfl;obtain⟨y2,hy2⟩: ∃y2,y2=(y.new (.rows false 4 [[.int .i64 0,.int .i64 0,.int .i64 0,.nilS]])).put y.next (.rows false 4 [eWt q]):=⟨_,rfl⟩;have p1y:=p1.add (.rows false 4 [[.int .i64 0,.int .i64 0,.int .i64 0,.nilS]]) (.rows false 4 [eWt q]);rw[←hy2] at p1y;have ny: ∀i,(bas (M.new (.rows false 3 [ePc x]))).fr i→i<y.next:=by
     obtain⟨_,_,_,h⟩:=p1;exact h.nx
    have k2: ∀i,i<y.next→y2.get i=y.get i:=fun i hi=>by rw[hy2,get_put,if_neg (by omega),get_new,if_neg (by omega)]
    have back: ∀{M3:VM} {w':WS},WrS ⟨y2,fun i=>(bas (M.new (.rows false 3 [ePc x]))).fr i∨i=y.next⟩ M3 j w'→WrS (bas (M.new (.rows false 3 [ePc x]))) M3 j w':=fun h=>h.rebase fun i hi=>⟨.inl hi,(k2 i (ny i hi)).trans (p1.sm hi)⟩;have oq: ∀{M3:VM} {w':WS},WrS ⟨y2,fun i=>(bas (M.new (.rows false 3 [ePc x]))).fr i∨i=y.next⟩ M3 j w'→M3.obj y.next=some (.rows false 4 [eWt q]):=fun h=>by rw[h.obj (.inr rfl),hy2];simp
    have oy:=oq p1y;have e0:(eWt q)=[I nth,I q.pl,I nd,.lst 2 (q.env.map eSv)]:=by unfold eWt;rw[hnth,hnd]
    have q3:=p2.num (n:=nth) (by omega);have q4:=q3.ref (zhi v6) (by omega);have q5:=q4.num (n:=nd) (by omega);have q6:=q5.vals v5 (by omega);have eW:encW w q=(((w.num nth).ref (plc q.pl)).num nd).vals q.env:=by unfold encW;rw[hnth,hnd];rfl
    rw[eW] at again;rw[e0] at oy wW;simp(disch:=((try simp only[nx3]);omega)) [hi,hx,wW,e0];rw[e0] at hy2;rw[←hy2];refine zd1 p1y nth (by omega) (by have:=p2.s;omega) fun M4 h4=> ?_;have o4:=oq h4;rw[e0] at o4;simp(disch:=((try simp only[nx3]);omega)) [o4];refine splace_ok h4 q.pl (by have:=q3.t;omega) (by have:=q3.s;omega) fun M5 h5=> ?_;have o5:=oq h5;rw[e0] at o5;simp(disch:=((try simp only[nx3]);omega)) [o5];refine zd1 h5 nd (by omega) (by have:=q4.s;omega) fun M6 h6=> ?_;have o6:=oq h6;rw[e0] at o6;simp(disch:=((try simp only[nx3]);omega)) [o6];refine svals_ok h6 q.env v5 (by have:=q5.t;omega) (by have:=q5.s;omega) fun M7 h7=> ?_;have again:=again M7 ⟨back h7,q6.mono (by omega) (by omega)⟩;simp at again;simp(disch:=((try simp only[nx3]);omega));exact again
   ·obtain⟨p1,p2⟩:=hP;rw[List.take_length] at p1 p2;have hwp:wsP x=x.ws.foldl encW (u2.num x.ws.length):=by unfold wsP;rw[hu,hu2]
    unfold zbE at hk;rw[hwp] at hk;simp(disch:=((try simp only[nx3]);omega));refine send_ok p1 80 (fun v hv=>(p2.nm v hv).small) (by have:=p2.t;omega) (by have:=p2.s;omega) fun M4 n4 k4=> ?_;simp(disch:=((try simp only[nx3]);omega));exact Back.plain (by simp) (fun i hi=>by rw[k4 i (by show i<_;simp;omega)];show(M.new _).get i=_;rw[get_new,if_neg (by omega)]) hk
end
section
variable {B M M' y y':VM} {k kp:DV→VM→Prop} {n0 j:Nat} {t:List Sv} {l r r':List UInt8} {dn d1 d2 d3 d':DV} {sp:List Int} {qs:List Qu} {ws:List Wt}
theorem RdE.putO (h:RdE B y j t l dn) {q:Nat} (hq:j≠q) (hB:B.next≤q) (ho:Off dn q) (o:MO):RdE B (y.put q o) j t l dn:=by
 have a:=h.j2;have c:=h.nx;exact⟨zC h.sm hB,by simp;omega,h.j1,by simp;omega,by rw[zO,if_neg hq];exact h.oj,h.ln.put ho o,h.fn⟩
theorem RdE.keepQ (h:RdE B y j t l dn) {q:Nat} (hj:j<q) (hd: ∀i,¬Off dn i→i<q) (hB:B.next≤q) (hn:y.next≤y'.next) (hk: ∀i,i<q→y'.get i=y.get i):RdE B y' j t l dn:=by
 have a:=h.j2;have c:=h.nx;refine⟨fun i hi=>(hk i (by omega)).trans (h.sm i hi),by omega,h.j1,by omega,?_,h.ln.keep hn fun i hi hno=>hk i (hd i hno),h.fn⟩;rw[←h.oj];show(y'.get j).map _=(y.get j).map _;rw[hk j hj]
structure PcE (B M y:VM) (j:Nat) (t:List Sv) (r:List UInt8) (dn d1 d2 d3:DV) (sp:List Int) (qs:List Qu) (ws:List Wt):Prop where
 rd:RdE B y j t r dn
 kj:Kj j M y
 nx:M.next+2≤y.next
 hj:j<M.next
 hB:B.next≤M.next
 hd: ∀i,¬Off dn i→i<M.next
 o2:y.obj M.next=some (.rows false 3 [[.nilS,.nilS,.nilS]])
 o3:y.obj (M.next+1)=some (.rows false 3 [[d1,d2,d3]])
 l1:Lb y d1 1 (sp.map eInt)
 l2:Lb y d2 2 (qs.map eQu)
 l3:Lb y d3 4 (ws.map eWt)
 fr: ∀i,i<M.next+2→Off d1 i∧Off d2 i∧Off d3 i
theorem PcE.dnO (h:PcE B M y j t r dn d1 d2 d3 sp qs ws) {i:Nat} (hi:M.next≤i):Off dn i:=qf fun hn=>by have:=h.hd i hn;omega
theorem PcE.frame (h:PcE B M y j t r dn d1 d2 d3 sp qs ws) {q:Nat} (hq:M.next+2≤q) (hb: ∀i,q≤i→Off d1 i∧Off d2 i∧Off d3 i) (hn:y.next≤y'.next) (hk: ∀i,i<q→y'.get i=y.get i):PcE B M y' j t r dn d1 d2 d3 sp qs ws:=by
 have a:=h.hj;have b:=h.hB;have c:=h.nx;have ob: ∀i,i<q→y'.obj i=y.obj i:=fun i hi=>by show(y'.get i).map _=(y.get i).map _;rw[hk i hi]
 refine⟨h.rd.keepQ (q:=q) (by omega) (fun i hi=>by have:=h.hd i hi;omega) (by omega) hn hk,⟨by omega,fun i hi hij=>(hk i (by omega)).trans (h.kj.2 i hi hij)⟩,by omega,a,b,h.hd,by rw[ob _ (by omega)];exact h.o2,by rw[ob _ (by omega)];exact h.o3,h.l1.keep hn fun i hi hno=>hk i ?_,h.l2.keep hn fun i hi hno=>hk i ?_,h.l3.keep hn fun i hi hno=>hk i ?_,h.fr⟩
 ·exact qf fun hc=>hno (hb i (by omega)).1
 ·exact qf fun hc=>hno (hb i (by omega)).2.1
 ·exact qf fun hc=>hno (hb i (by omega)).2.2
theorem PcE.rdk (h:PcE B M y j t r dn d1 d2 d3 sp qs ws) (h':RdE B y' j t r' dn) (kj':Kj j y y'):PcE B M y' j t r' dn d1 d2 d3 sp qs ws:=by
 have a:=h.hj;have b:=h.hB;have c:=h.nx;have e:=kj'.1;have ob: ∀i,i<y.next→i≠j→y'.obj i=y.obj i:=fun i hi hij=>by show(y'.get i).map _=(y.get i).map _;rw[kj'.2 i hi hij]
 exact⟨h',h.kj.trans kj',by omega,a,b,h.hd,by rw[ob _ (by omega) (by omega)];exact h.o2,by rw[ob _ (by omega) (by omega)];exact h.o3,h.l1.kj (h.fr j (by omega)).1 kj',h.l2.kj (h.fr j (by omega)).2.1 kj',h.l3.kj (h.fr j (by omega)).2.2 kj',h.fr⟩
theorem off2 {s s':Nat} {rows rows':List (List DV)} {d d':DV} (h:Lb y d s rows) (h':Lb y d' s' rows') (hs:s≠s') {i:Nat} (hi: ¬Off d' i):Off d i:=by
 rcases h'.v with⟨_,e⟩| ⟨q,op,cap,q1,e,q2,_⟩
 ·rw[e] at hi;exact absurd trivial hi
 ·rw[e] at hi;have:i=q:=qf fun e=>hi e;subst this;exact h.off q2 fun op e=>by injection e with _ e4;exact hs e4.symm
theorem PcE.g1 (h:PcE B M y j t r dn d1 d2 d3 sp qs ws) {x:Int} (hL:Lb y' d' 1 ((sp++[x]).map eInt)) (hG:Gro y d1 y' d'):PcE B M (y'.put (M.next+1) (.rows false 3 [[d',d2,d3]])) j t r dn d' d2 d3 (sp++[x]) qs ws:=by
 have a:=h.hj;have b:=h.hB;have c:=h.nx;have e:=hG.nx;have f0:=fun i (hi:i<M.next+2)=>(h.fr i hi).1;have f1:=fun i (hi:i<M.next+2)=>hG.of i (by omega) (f0 i hi);have r1:=h.rd.gro hG (fun q hq=>f0 q (by omega)) (f0 j (by omega)) (fun q hq=>f0 q (by have:=h.hd q hq;omega));refine⟨r1.putO (by omega) (by omega) (h.dnO (by omega)) _,⟨by simp;omega,fun i hi hij=>by rw[get_put,if_neg (by omega)];exact(h.kj.gro hG fun q hq=>f0 q (by omega)).2 i hi hij⟩,by simp;omega,a,b,h.hd,?_,by simp,hL.put (f1 _ (by omega)) _,(h.l2.keep e fun i hi hno=>hG.kp i hi (off2 h.l1 h.l2 (by decide) hno)).put (h.fr _ (by omega)).2.1 _,(h.l3.keep e fun i hi hno=>hG.kp i hi (off2 h.l1 h.l3 (by decide) hno)).put (h.fr _ (by omega)).2.2 _,fun i hi=>⟨f1 i hi,(h.fr i hi).2.1,(h.fr i hi).2.2⟩⟩
 ·rw[zO,if_neg (by omega),hG.obj (by omega) (f0 _ (by omega))];exact h.o2
theorem PcE.g2 (h:PcE B M y j t r dn d1 d2 d3 sp qs ws) {x:Qu} (hL:Lb y' d' 2 ((qs++[x]).map eQu)) (hG:Gro y d2 y' d'):PcE B M (y'.put (M.next+1) (.rows false 3 [[d1,d',d3]])) j t r dn d1 d' d3 sp (qs++[x]) ws:=by
 have a:=h.hj;have b:=h.hB;have c:=h.nx;have e:=hG.nx;have f0:=fun i (hi:i<M.next+2)=>(h.fr i hi).2.1;have f1:=fun i (hi:i<M.next+2)=>hG.of i (by omega) (f0 i hi);have r1:=h.rd.gro hG (fun q hq=>f0 q (by omega)) (f0 j (by omega)) (fun q hq=>f0 q (by have:=h.hd q hq;omega));refine⟨r1.putO (by omega) (by omega) (h.dnO (by omega)) _,⟨by simp;omega,fun i hi hij=>by rw[get_put,if_neg (by omega)];exact(h.kj.gro hG fun q hq=>f0 q (by omega)).2 i hi hij⟩,by simp;omega,a,b,h.hd,?_,by simp,(h.l1.keep e fun i hi hno=>hG.kp i hi (off2 h.l2 h.l1 (by decide) hno)).put (h.fr _ (by omega)).1 _,hL.put (f1 _ (by omega)) _,(h.l3.keep e fun i hi hno=>hG.kp i hi (off2 h.l2 h.l3 (by decide) hno)).put (h.fr _ (by omega)).2.2 _,fun i hi=>⟨(h.fr i hi).1,f1 i hi,(h.fr i hi).2.2⟩⟩
 ·rw[zO,if_neg (by omega),hG.obj (by omega) (f0 _ (by omega))];exact h.o2
theorem PcE.g3 (h:PcE B M y j t r dn d1 d2 d3 sp qs ws) {x:Wt} (hL:Lb y' d' 4 ((ws++[x]).map eWt)) (hG:Gro y d3 y' d'):PcE B M (y'.put (M.next+1) (.rows false 3 [[d1,d2,d']])) j t r dn d1 d2 d' sp qs (ws++[x]):=by
 have a:=h.hj;have b:=h.hB;have c:=h.nx;have e:=hG.nx;have f0:=fun i (hi:i<M.next+2)=>(h.fr i hi).2.2;have f1:=fun i (hi:i<M.next+2)=>hG.of i (by omega) (f0 i hi);have r1:=h.rd.gro hG (fun q hq=>f0 q (by omega)) (f0 j (by omega)) (fun q hq=>f0 q (by have:=h.hd q hq;omega));refine⟨r1.putO (by omega) (by omega) (h.dnO (by omega)) _,⟨by simp;omega,fun i hi hij=>by rw[get_put,if_neg (by omega)];exact(h.kj.gro hG fun q hq=>f0 q (by omega)).2 i hi hij⟩,by simp;omega,a,b,h.hd,?_,by simp,(h.l1.keep e fun i hi hno=>hG.kp i hi (off2 h.l3 h.l1 (by decide) hno)).put (h.fr _ (by omega)).1 _,(h.l2.keep e fun i hi hno=>hG.kp i hi (off2 h.l3 h.l2 (by decide) hno)).put (h.fr _ (by omega)).2.1 _,hL.put (f1 _ (by omega)) _,fun i hi=>⟨(h.fr i hi).1,(h.fr i hi).2.1,f1 i hi⟩⟩
 ·rw[zO,if_neg (by omega),hG.obj (by omega) (f0 _ (by omega))];exact h.o2
end
end Go.Ideal.S
set_option maxHeartbeats 4000000
namespace Go.Ideal.S
open Go Go.Ideal Q Classical
attribute [local simp] decide_eq_true decide_eq_false zP
theorem surv_of {X:List CI} {F:FuncId→Option za} {x:Mo} {bs:List Mo} {s:DS} {M:VM} {n0:Nat} (h: @Dr (rD F n0) (.base ⟨fun _ _=>True,fun _ _ _=>False,fun _ _=>False,fun _ _ _=>False⟩) (X.filter fun p=>Nat.ble p.lo x.idx) (x::bs) s M):wSurv (rD F n0) X (x::bs) s M:=by
 intro w0 M0 h0 w hp t cs hst hs hb;rcases zeF h hst hs hb with⟨n,t',h',_,_,_,e,_⟩| ⟨_,_,_,_,_,_,_,_,_,_,_,q⟩
 ·exact⟨n,_,e⟩
 ·exact q.elim
theorem zcf.pre {F:FuncId→Option za} {n0:Nat} {L:List (List Bool)} {b:CC} {K:KD} {s s2:DS} {M M2:VM} (hc:Conv M M M2) (hs:SFrz M M2 (zbH L s) s2) (h:zcf F n0 L b K s2 M2):zcf F n0 L b K s M:=by
 intro w0 M0 h0 w hp t hst hs';exact h w0 M0 h0 _ hp t (hst.conv hst.r (.refl _ _ _) hst.r hc) (hs.rel hst.r (zic hs' L))
theorem zcf.forL {F:FuncId→Option za} {n0:Nat} {σ:Type} {L:List (List Bool)} {b b':CC} {K:KD} {s:DS} {M:VM} (hb:b=b') (U:Nat→σ→List (Nat×DV)) (G:σ→VM) (P:Nat→σ→Prop) (N:Nat) (x0:σ) (hs:s=zbH L (upS s (U 0 x0))) (hM:M=G x0) (h0:P 0 x0)
 (step: ∀i x,i<N→P i x→(∀x',P (i+1) x'→zcf F n0 L b K (zbH L (upS s (U (i+1) x'))) (G x'))→ @Cd (rD F n0) (.base (LoK F n0 L b K)) b' (zbH L (zbH L (upS s (U i x)))) (G x))
 (last: ∀x,P N x→zcf F n0 L b K (zbH L (upS s (U N x))) (G x)):zcf F n0 L b K s M:=by
 have main: ∀m i x,i+m=N→P i x→zcf F n0 L b K (zbH L (upS s (U i x))) (G x):=by
  intro m
  induction m with
  |zero=>intro i x hi hp;obtain rfl:i=N:=by omega
         exact last x hp
  |succ m ih=>intro i x hi hp;exact .go hb (step i x (by omega) hp fun x' hp'=>ih (i+1) x' (by omega) hp')
 have:=main N 0 x0 (by omega) h0;rw[←hs,←hM] at this;exact this
theorem DP.of {X:RnD} {fr:FrC} {l:List CI} {bs:List Mo} {s:DS} {M M':VM} {v:DV} (h1:wSurv X l bs s M) (h2:fr.K.pan v [] M'): @DP X fr l bs s M v M':=⟨h1,h2⟩
def zbK {α:Type} (f:List UInt8→Option (α×List UInt8)) (l:List UInt8):Option (List α×List UInt8):=(zej l).bind fun x=>repN f x.1 [] x.2
def queN (t:List Sv) (l:List UInt8):Option (Qu×List UInt8):=(zcR t 3 l).bind fun x=>(zbK (zcB t) x.2).map fun z=>(⟨x.1,z.1⟩,z.2)
def zeE (t:List Sv) (l:List UInt8):Option (Wt×List UInt8):=(getN l).bind fun a=>(zcR t 4 a.2).bind fun b=>(getN b.2).bind fun c=>(zcB t c.2).map fun d=>(⟨a.1,b.1,c.1,d.1⟩,d.2)
def pcN (x:List Sv×List UInt8):Option Pc:=(zbK (zcR x.1 4) x.2).bind fun a=>(zbK (queN x.1) a.2).bind fun b=>(zbK (zeE x.1) b.2).map fun c=>⟨a.1,b.1,c.1⟩
theorem zi7 {α:Type} {f:List UInt8→Option (α×List UInt8)} (hf: ∀l x r,f l=some (x,r)→r.length+1≤l.length) {l:List UInt8} {a:List α} {r:List UInt8} (h:zbK f l=some (a,r)):r.length+a.length≤l.length:=by
 unfold zbK at h;cases h1:zej l with
 |none=>rw[h1] at h;cases h
 |some x=>
  rw[h1,qd] at h;have a1:=zcs (n:=x.1) (r:=x.2) h1;have b:=zh2 hf _ _ _ _ _ h;have c:=zg6 _ _ _ _ _ h;simp at c;omega
variable {B M M':VM} {k kp:DV→VM→Prop} {n0 j:Nat} {t:List Sv} {l:List UInt8} {dn:DV}
def cutM (y:VM) (q:Nat) (o:MO):VM:=⟨y.next+1,fun i=>if i=q then some (o,y.next) else if i<q then y.get i else none⟩
theorem cutM_lt {y:VM} {q i:Nat} {o:MO} (h:i<q):(cutM y q o).get i=y.get i:=by
 show(if i=q then _ else if i<q then _ else _)=_;rw[if_neg (by omega),if_pos h]
theorem cutM_obj {y:VM} {q:Nat} {o:MO}:(cutM y q o).obj q=some o:=by
 show((if q=q then some (o,y.next) else _):Option (MO×Nat)).map _=_;rw[if_pos rfl];rfl
theorem cutM_conv {y:VM} {q:Nat} {o o':MO} (hq:q<y.next) (ho:y.obj q=some o') (hf:FrzO y (cutM y q o) o' o) (hb:zlM (y.next+1) o):Conv y y (cutM y q o):=by
 refine⟨Nat.le_succ _,fun i=> ?_⟩;by_cases hi:i=q
 ·subst hi;exact .inr (.inr ⟨o,y.next,o',by show(if i=i then _ else _)=_;rw[if_pos rfl],by show i<y.next+1;omega,qk _,Nat.lt_succ_self _,ho,hf,hb⟩)
 ·by_cases hl:i<q
  ·exact .inl ⟨cutM_lt hl,fun _=>rfl⟩
  ·exact .inr (.inl (by show(if i=q then _ else if i<q then _ else _)=_;rw[if_neg hi,if_neg hl]))
theorem cutM_frz {y:VM} {q s:Nat} {d:DV} {o:MO} {rows:List (List DV)} (hL:Lb y d s rows) (hf: ∀i,i≤q→Off d i):Frz y (cutM y q o) d (.lst s rows):=by
 rcases hL.v with⟨rfl,e⟩| ⟨p,op,cap,h2,e,h4,_⟩
 ·rw[e];exact .nilS s
 ·rw[e] at hf⊢;have hp:q<p:=qf fun h=>hf p (by omega) rfl;exact .ms0 h4 (by show(if p=q then _ else if p<q then _ else _)=_;rw[if_neg (by omega),if_neg (by omega)]) rfl hL.row
attribute [local simp] c_c f_c r_c_1 r_c_2 r_c_3 r_c_4 r_c_5 r_c_6 r_c_8 r_c_9 r_c_10 r_c_11 r_c_12 r_c_13 r_c_14 r_c_16 r_c_17 r_c_19 r_c_20 r_c_21 r_c_22 r_c_23 r_c_24 r_c_25 r_c_26 r_c_27 r_c_29
theorem rdparcel_w (h:RdE B M j t l dn) (hl:l.length≤1000000) (hk: ∀y x r d1 d2 d3,pcN (t,l)=some x→PcE B M y j t r dn d1 d2 d3 x.sp x.qs x.ws→k (.agg [d1,d2,d3]) (y.put M.next (.rows false 3 [[d1,d2,d3]]))) (hp: ∀M',pcN (t,l)=none→Kept B M'→kp zfc M'):zg F (.fn n_c [] []) [.ptr j 0 0] M k kp:=by
 have a:=h.j2;have c:=h.nx;have hd: ∀i,¬Off dn i→i<M.next:=fun i hi=>h.ln.ltN hi;refine .fn zfI rfl (by simp[f_c]) ?_;simp(disch:=((try simp only[nx3]);omega));obtain⟨Y,hY⟩: ∃Y,Y=(M.new (.rows false 3 [[.nilS,.nilS,.nilS]])).new (.rows false 3 [[.nilS,.nilS,.nilS]]):=⟨_,rfl⟩;have yn:Y.next=M.next+2:=by rw[hY];simp
 have yk: ∀i,i<M.next→Y.get i=M.get i:=fun i hi=>by rw[hY,get_new,if_neg (by simp;omega),get_new,if_neg (by omega)]
 have p0:PcE B M Y j t l dn .nilS .nilS .nilS [] [] []:=⟨h.keep (by omega) yk,.all (by omega) yk,by omega,a,c,hd,by rw[hY,zK _ (by simp)];simp,by rw[hY,zdm,if_pos (by simp)],.nil _ _,.nil _ _,.nil _ _,fun _ _=>⟨trivial,trivial,trivial⟩⟩;rw[←hY];refine zed p0.rd (fun M1 N r1 e1 h1 k1=> ?_) (fun M' e h'=> ?_)
 ·obtain⟨w1,w2,w3⟩:=zcs e1;have p1:=p0.rdk h1 k1;have hv:zbK (zcR t 4) l=repN (zcR t 4) N [] r1:=by unfold zbK;rw[e1];rfl
  have hnone:zbK (zcR t 4) l=none→pcN (t,l)=none:=fun h=>by unfold pcN;rw[h];rfl
  simp(disch:=((try simp only[nx3]);omega));refine .for (σ:=VM×DV×List Int×List UInt8) c_c_7.eq_1 (fun i z=>[(8,I i)]) (fun z=>z.1) (fun i z=>PcE B M z.1 j t z.2.2.2 dn z.2.1 .nilS .nilS z.2.2.1 [] []∧repN (zcR t 4) (N - i) z.2.2.1 z.2.2.2=zbK (zcR t 4) l∧z.2.2.1.length=i) N (M1,.nilS,[],r1) (by simp) rfl ⟨p1,hv.symm,rfl⟩ (fun i z hi hP again=> ?_) (fun z hP=> ?_)
  ·obtain⟨y,d,acc,r⟩:=z;obtain⟨p,p5,p6⟩:=hP;dsimp only at*;have eN:N - i=(N - (i+1))+1:=by omega
   rw[eN] at p5;simp(disch:=((try simp only[nx3]);omega)) [hi];refine zg8 p.rd 4 (fun M2 x r2 e2 h2 k2=> ?_) (fun M' e h'=> ?_)
   ·have q:=p.rdk h2 k2;have o3:=q.o3;have nx:=q.nx;simp(disch:=((try simp only[nx3]);omega)) [o3];refine⟨.inl (k2.2 _ (by have:=p.nx;omega) (by omega)),q.l1.self,?_⟩;refine zkQ (q.l1.new _) (new:=[eInt x]) (by simp[eInt]) (by decide) (by simp[eInt]) (by simp) (by simp;omega) fun d' M3 hL hG=> ?_;have g:=q.g1 (x:=x) (by simpa using hL) hG.pre;have o4:M3.obj (M.next+1)=some (.rows false 3 [[d,.nilS,.nilS]]):=by rw[hG.pre.obj (by omega) (q.fr _ (by omega)).1];exact o3
    have c1:=hL.cells;have c2:=hL.cell;have again:=again (_,d',acc++[x],r2) ⟨g,by rw[←p5,zcQ e2],by simp[p6]⟩;simp at again;simp(disch:=((try simp only[nx3]);omega)) [o4,c1,c2];exact again
   ·have hp:=hp M' (hnone (by rw[←p5];exact zb9 e)) h';clear again;have o3:=p.o3;refine DP.of (surv_of ?_) ?_
    ·simp(disch:=((try simp only[nx3]);omega)) [qy,o3]
    ·simp(disch:=((try simp only[nx3]);omega));exact hp
  ·obtain⟨y,d1,sp,r⟩:=z;obtain⟨p,p5,p6⟩:=hP;dsimp only at*;rw[Nat.sub_self] at p5;have ea:zbK (zcR t 4) l=some (sp,r):=p5.symm;have la:=zi7 (fun _ _ _ h=>zdN h) ea;simp(disch:=((try simp only[nx3]);omega));refine zed p.rd (fun M1 N r1 e1 h1 k1=> ?_) (fun M' e h'=> ?_)
   ·obtain⟨w1,w2,w3⟩:=zcs e1;have p1:=p.rdk h1 k1;have hv:zbK (queN t) r=repN (queN t) N [] r1:=by unfold zbK;rw[e1];rfl
    have hnone:zbK (queN t) r=none→pcN (t,l)=none:=fun h=>by unfold pcN;rw[ea,qd];rw[h];rfl
    simp(disch:=((try simp only[nx3]);omega));refine .for (σ:=VM×DV×List Qu×List UInt8) c_c_18.eq_1 (fun i z=>[(20,I i)]) (fun z=>z.1) (fun i z=>PcE B M z.1 j t z.2.2.2 dn d1 z.2.1 .nilS sp z.2.2.1 []∧repN (queN t) (N - i) z.2.2.1 z.2.2.2=zbK (queN t) r∧z.2.2.1.length=i∧z.2.2.2.length≤l.length) N (M1,.nilS,[],r1) (by simp) rfl ⟨p1,hv.symm,rfl,by dsimp only;omega⟩ (fun i z hi hP again=> ?_) (fun z hP=> ?_)
    ·obtain⟨y,d2,acc,r⟩:=z;obtain⟨p,p5,p6,p7⟩:=hP;dsimp only at*;have eN:N - i=(N - (i+1))+1:=by omega
     rw[eN] at p5;simp(disch:=((try simp only[nx3]);omega)) [hi];refine zg8 p.rd 3 (fun M2 ch r2 e2 h2 k2=> ?_) (fun M' e h'=> ?_)
     ·have q:=p.rdk h2 k2;have l2:=zdN e2;have nx2:=q.nx;simp(disch:=((try simp only[nx3]);omega));obtain⟨Z,hZ⟩: ∃Z,Z=(M2.new (.rows false 2 [[I 0,.nilS]])).put M2.next (.rows false 2 [[I ch,.nilS]]):=⟨_,rfl⟩;have zn:Z.next=M2.next+2:=by rw[hZ];simp
      have zk: ∀i,i<M2.next→Z.get i=M2.get i:=fun i hi=>by rw[hZ,get_put,if_neg (by omega),get_new,if_neg (by omega)]
      have zo:Z.obj M2.next=some (.rows false 2 [[I ch,.nilS]]):=by rw[hZ];simp
      have hoff: ∀i,M2.next≤i→Off d1 i∧Off d2 i∧Off (DV.nilS) i:=fun i hi=>⟨q.l1.offN hi,q.l2.offN hi,trivial⟩;have qz:=q.frame (q:=M2.next) nx2 hoff (by omega) zk;rw[←hZ];generalize hq4:M2.next=q4 at*;refine zed qz.rd (fun M3 N2 r3 e3 h3 k3=> ?_) (fun M' e h'=> ?_)
      ·obtain⟨u1,u2,u3⟩:=zcs e3;have n3:=k3.1;have hv2:zbK (zcB t) r2=repN (zcB t) N2 [] r3:=by unfold zbK;rw[e3];rfl
       have hnone2:zbK (zcB t) r2=none→pcN (t,l)=none:=fun h=>hnone (by rw[←p5];exact zb9 (by unfold queN;rw[e2,qd,h];rfl));have o4:M3.obj q4=some (.rows false 2 [[I ch,.nilS]]):=by
        show(M3.get _).map _=_;rw[k3.2 _ (by omega) (by omega)];exact zo
       simp(disch:=((try simp only[nx3]);omega));refine zcf.forL (σ:=VM×DV×List (List Sv)×List UInt8) c_c_15.eq_1 (fun i z=>[(27,I i)]) (fun z=>z.1) (fun i z=>PcE B M z.1 j t z.2.2.2 dn d1 d2 .nilS sp acc []∧q4<z.1.next∧z.1.obj q4=some (.rows false 2 [[I ch,z.2.1]])∧Lb z.1 z.2.1 1 (z.2.2.1.map eMsg)∧(∀i,i≤q4→Off z.2.1 i)∧repN (zcB t) (N2 - i) z.2.2.1 z.2.2.2=zbK (zcB t) r2∧z.2.2.1.length=i∧z.2.2.2.length≤l.length) N2 (M3,.nilS,[],r3) (by simp) rfl ⟨qz.rdk h3 k3,by dsimp only;omega,o4,.nil _ _,fun _ _=>trivial,hv2.symm,rfl,by dsimp only;omega⟩ (fun i2 z hi2 hP again2=> ?_) (fun z hP=> ?_)
       ·obtain⟨y4,dq,ms,r4⟩:=z;obtain⟨g,g1,g2,g3,g4,g5,g6,g7⟩:=hP;dsimp only at*;have eN2:N2 - i2=(N2 - (i2+1))+1:=by omega
        rw[eN2] at g5;simp(disch:=((try simp only[nx3]);omega)) [hi2];refine rdvals_f g.rd (by omega) (fun M5 vs r5 e5 h5 k5=> ?_) (fun M' e h'=> ?_)
        ·have n5:=k5.1;have q5:=g.rdk h5 k5;have g3':=g3.kj (g4 j (by omega)) k5;have o5:M5.obj q4=some (.rows false 2 [[I ch,dq]]):=by
          show(M5.get _).map _=_;rw[k5.2 _ g1 (by omega)];exact g2
         have l5:=zeG e5;simp(disch:=((try simp only[nx3]);omega)) [o5];refine⟨.inl (k5.2 _ g1 (by omega)),g3.self,?_⟩;refine zkQ (g3'.new _) (new:=[eMsg vs]) (by simp[eMsg]) (by decide) (by simp[eMsg,zj]) (by simp[eMsg]) (by simp;omega) fun d5 M6 hL hG=> ?_;have hG:=hG.pre;have n6:=hG.nx;have o6:M6.obj q4=some (.rows false 2 [[I ch,dq]]):=by rw[hG.obj (by omega) (g4 _ (by omega))];exact o5
         have c1:=hL.cells;have c2:=hL.cell;have f5: ∀i,i≤q4→Off d5 i:=fun i hi=>hG.of i (by omega) (g4 i hi);have q6:=q5.frame (y':=M6.put q4 (.rows false 2 [[I ch,d5]])) (q:=q4) nx2 hoff (by simp;omega) (fun i hi=>by rw[get_put,if_neg (by omega)];exact hG.kp i (by omega) (g4 i (by omega)));have again2:=again2 (M6.put q4 (.rows false 2 [[I ch,d5]]),d5,ms++[vs],r5) ⟨q6,by simp;omega,by simp,(show Lb M6 d5 1 ((ms++[vs]).map eMsg) by simpa using hL).put (f5 q4 (qk _)) _,f5,by rw[←g5,zcQ e5],by simp[g6],by dsimp only;omega⟩;simp at again2;simp(disch:=((try simp only[nx3]);omega)) [o6,c1,c2];exact again2
        ·have hp:=hp M' (hnone2 (by rw[←g5];exact zb9 e)) h';clear again again2;refine DP.of (surv_of ?_) ?_
         ·simp(disch:=((try simp only[nx3]);omega)) [qy,g2]
         ·simp(disch:=((try simp only[nx3]);omega));exact hp
       ·obtain⟨y4,dq,ms,r4⟩:=z;obtain⟨g,g1,g2,g3,g4,g5,g6,g7⟩:=hP;dsimp only at*;rw[Nat.sub_self] at g5;have eq1:queN t r=some (⟨ch,ms⟩,r4):=by unfold queN;rw[e2,Option.bind_some,←g5];rfl
        obtain⟨O,hO⟩: ∃O,O=MO.rows false 2 [eQu ⟨ch,ms⟩]:=⟨_,rfl⟩;have cv:Conv y4 y4 (cutM y4 q4 O):=cutM_conv g1 g2 (by
         rw[hO];refine .rows (by simp) rfl fun k d e hd he=> ?_
         match k with
         |0=>cases hd;cases he;exact .refl _
         |1=>cases hd;cases he;exact cutM_frz g3 g4
         |k+2=>simp at hd) (by
         rw[hO];refine .rows fun r hr d hd=> ?_;rw[qn.1 hr] at hd;exact b_Qu _ d hd)
        have qc:=g.frame (y':=cutM y4 q4 O) (q:=q4) nx2 hoff (Nat.le_succ _) (fun i hi=>cutM_lt hi);have oc:(cutM y4 q4 O).obj q4=some O:=cutM_obj;refine zcf.pre cv (SFrz.refl fun x hx=> ?_) ?_
        ·have hn:(cutM y4 q4 O).next=y4.next+1:=rfl
         rw[hn];simp at hx;rcases hx with rfl|rfl|rfl|rfl|rfl|rfl|rfl|rfl
         all_goals first
          |exact .int _ _
          |exact .ptr (by omega)
        ·generalize cutM y4 q4 O=yc at*;have o3:=qc.o3;have nc:=qc.nx;refine .go c_c_15.eq_1 ?_;simp(disch:=((try simp only[nx3]);omega)) [o3,oc,hO];refine zgV (qc.l2.new _) (new:=[eQu ⟨ch,ms⟩]) (by simp) (by decide) (by simp[eQu,zj]) (by simp[eQu]) (by simp;omega) fun d' M8 hL hG=> ?_;have hG:=hG.pre;have q8:=qc.g2 (x:=⟨ch,ms⟩) (by simpa using hL) hG;have o8:M8.obj (M.next+1)=some (.rows false 3 [[d1,d2,.nilS]]):=by rw[hG.obj (by omega) (qc.fr _ (by omega)).2.1];exact o3
         have c1:=hL.cells;have c2:=hL.cell;have again:=again (_,d',acc++[⟨ch,ms⟩],r4) ⟨q8,by rw[←p5,zcQ eq1],by simp[p6],g7⟩;simp at again;simp(disch:=((try simp only[nx3]);omega)) [o8,c1,c2];exact again
      ·have hp:=hp M' (hnone (by rw[←p5];exact zb9 (by unfold queN;rw[e2,qd];unfold zbK;rw[e];rfl))) h';clear again;simp(disch:=((try simp only[nx3]);omega));exact hp
     ·have hp:=hp M' (hnone (by rw[←p5];exact zb9 (by unfold queN;rw[e];rfl))) h';clear again;simp(disch:=((try simp only[nx3]);omega));exact hp
    ·obtain⟨y,d2,qs,r0⟩:=z;obtain⟨p,p5,p6,p7⟩:=hP;dsimp only at*;rw[Nat.sub_self] at p5;have eb:zbK (queN t) r=some (qs,r0):=p5.symm;simp(disch:=((try simp only[nx3]);omega));refine zed p.rd (fun M1 N r1 e1 h1 k1=> ?_) (fun M' e h'=> ?_)
     ·obtain⟨w1,w2,w3⟩:=zcs e1;have p1:=p.rdk h1 k1;have hv:zbK (zeE t) r0=repN (zeE t) N [] r1:=by unfold zbK;rw[e1];rfl
      have hnone:zbK (zeE t) r0=none→pcN (t,l)=none:=fun h=>by unfold pcN;rw[ea,qd];rw[eb,qd,h];rfl
      simp(disch:=((try simp only[nx3]);omega));refine .for (σ:=VM×DV×List Wt×List UInt8) c_c_28.eq_1 (fun i z=>[(47,I i)]) (fun z=>z.1) (fun i z=>PcE B M z.1 j t z.2.2.2 dn d1 d2 z.2.1 sp qs z.2.2.1∧repN (zeE t) (N - i) z.2.2.1 z.2.2.2=zbK (zeE t) r0∧z.2.2.1.length=i∧z.2.2.2.length≤l.length) N (M1,.nilS,[],r1) (by simp) rfl ⟨p1,hv.symm,rfl,by dsimp only;omega⟩ (fun i z hi hP again=> ?_) (fun z hP=> ?_)
      ·obtain⟨y,d3,acc,r2⟩:=z;obtain⟨p,p5,p6,p7⟩:=hP;dsimp only at*;have eN:N - i=(N - (i+1))+1:=by omega
       rw[eN] at p5;have nx2:=p.nx;have hoff: ∀i,y.next≤i→Off d1 i∧Off d2 i∧Off d3 i:=fun i hi=>⟨p.l1.offN hi,p.l2.offN hi,p.l3.offN hi⟩;have bad: ∀M',zeE t r2=none→Kept B M'→kp zfc M':=fun M' e h'=>hp M' (hnone (by rw[←p5];exact zb9 e)) h';have n0: ∀o,(y.new o).next=y.next+1:=fun o=>rfl
       have g0:=p.frame (y':=y.new (.rows false 4 [[I 0,I 0,I 0,.nilS]])) (q:=y.next) nx2 hoff (by simp) (fun i hi=>by rw[get_new,if_neg (by omega)]);have o0:(y.new (.rows false 4 [[I 0,I 0,I 0,.nilS]])).obj y.next=some (.rows false 4 [[I 0,I 0,I 0,.nilS]]):=by simp
       have put: ∀{M2:VM} {r:List UInt8} (o:MO),PcE B M M2 j t r dn d1 d2 d3 sp qs acc→PcE B M (M2.put y.next o) j t r dn d1 d2 d3 sp qs acc:=fun o h=>h.frame (q:=y.next) nx2 hoff (by simp) (fun i hi=>by rw[get_put,if_neg (by omega)]);have keep: ∀{M2 M3:VM} {o:MO},Kj j M2 M3→y.next<M2.next→M2.obj y.next=some o→M3.obj y.next=some o:=fun{M2 M3 o} h1 h2 h3=>by
        show(M3.get _).map _=_;rw[h1.2 _ h2 (by omega)];exact h3
       simp(disch:=((try simp only[nx3]);omega)) [hi];generalize hq5:y.next=q5 at*;refine zeT g0.rd (fun M2 a r3 e3 h3 k3=> ?_) (fun M' e h'=> ?_)
       ·have g1:=put (.rows false 4 [[I (a:Int),I 0,I 0,.nilS]]) (g0.rdk h3 k3);have o1:=keep k3 (by rw[n0];omega) o0;have x3:=ze2 e3;simp(disch:=((try simp only[nx3]);omega)) [o1];refine zg8 g1.rd 4 (fun M3 b r4 e4 h4 k4=> ?_) (fun M' e h'=> ?_)
        ·have g2:=put (.rows false 4 [[I (a:Int),I b,I 0,.nilS]]) (g1.rdk h4 k4);have x2:q5<M2.next:=by have:=k3.1;rw[n0] at this;omega
         have o2:=keep (o:=.rows false 4 [[I (a:Int),I 0,I 0,.nilS]]) k4 (by simp;omega) (by simp);have x4:=zdN e4;have x3':q5<M3.next:=by have:=k4.1;simp at this;omega
         simp(disch:=((try simp only[nx3]);omega)) [o2];refine zeT g2.rd (fun M4 c r5 e5 h5 k5=> ?_) (fun M' e h'=> ?_)
         ·have g3:=put (.rows false 4 [[I (a:Int),I b,I (c:Int),.nilS]]) (g2.rdk h5 k5);have o3:=keep (o:=.rows false 4 [[I (a:Int),I b,I 0,.nilS]]) k5 (by simp;omega) (by simp);have x5:=ze2 e5;have x4':q5<M4.next:=by have:=k5.1;simp at this;omega
          simp(disch:=((try simp only[nx3]);omega)) [o3];refine rdvals_f g3.rd (by omega) (fun M5 vs r6 e6 h6 k6=> ?_) (fun M' e h'=> ?_)
          ·have g4:=put (.rows false 4 [[I (a:Int),I b,I (c:Int),.lst 2 (vs.map eSv)]]) (g3.rdk h6 k6);have o4:=keep (o:=.rows false 4 [[I (a:Int),I b,I (c:Int),.nilS]]) k6 (by simp;omega) (by simp);have x6:=zeG e6;have x5':q5<M5.next:=by have:=k6.1;simp at this;omega
           have hw:zeE t r2=some (⟨a,b,c,vs⟩,r6):=by unfold zeE;rw[e3,qd];rw[e4,qd];rw[e5,qd,e6];rfl
           have oR:=g4.o3;have nY:=g4.nx;have ne5:M.next+1≠q5:=by omega
           have oR5:=(g3.rdk h6 k6).o3;simp(disch:=((try simp only[nx3]);omega)) [o4,oR5,ne5];refine zgV (g4.l3.new _) (new:=[eWt ⟨a,b,c,vs⟩]) (by simp[eWt]) (by decide) (by simp[eWt,zj]) (by simp[eWt]) (by simp;omega) fun d' M8 hL hG=> ?_;have hG:=hG.pre;have g8:=g4.g3 (x:=⟨a,b,c,vs⟩) (by simpa using hL) hG;have o8:M8.obj (M.next+1)=some (.rows false 3 [[d1,d2,d3]]):=by rw[hG.obj (by omega) (g4.fr _ (by omega)).2.2];exact oR
           have c1:=hL.cells;have c2:=hL.cell;have again:=again (_,d',acc++[⟨a,b,c,vs⟩],r6) ⟨g8,by rw[←p5,zcQ hw],by simp[p6],by dsimp only;omega⟩;simp at again;simp(disch:=((try simp only[nx3]);omega)) [o8,c1,c2];exact again
          ·have bad:=bad M' (by unfold zeE;rw[e3,qd];rw[e4,qd];rw[e5,qd,e];rfl) h';clear again hp;simp(disch:=((try simp only[nx3]);omega));exact bad
         ·have bad:=bad M' (by unfold zeE;rw[e3,qd];rw[e4,qd];rw[e];rfl) h';clear again hp;simp(disch:=((try simp only[nx3]);omega));exact bad
        ·have bad:=bad M' (by unfold zeE;rw[e3,qd];rw[e];rfl) h';clear again hp;simp(disch:=((try simp only[nx3]);omega));exact bad
       ·have bad:=bad M' (by unfold zeE;rw[e];rfl) h';clear again hp;simp(disch:=((try simp only[nx3]);omega));exact bad
      ·obtain⟨y,d3,ws,r2⟩:=z;obtain⟨p,p5,p6,p7⟩:=hP;dsimp only at*;rw[Nat.sub_self] at p5;have ex:pcN (t,l)=some ⟨sp,qs,ws⟩:=by unfold pcN;rw[ea,Option.bind_some];rw[eb,Option.bind_some,←p5];rfl
       have o2:=p.o2;have o3:=p.o3;have nx2:=p.nx;have hk:=hk y _ r2 d1 d2 d3 ex p;have c1:=p.l1.cell;have c2:=p.l2.cell;have c3:=p.l3.cell;simp(disch:=((try simp only[nx3]);omega)) [o2,o3,c1,c2,c3];exact hk
     ·have hp:=hp M' (by unfold pcN;rw[ea,qd];rw[eb,qd];unfold zbK;rw[e];rfl) h';simp(disch:=((try simp only[nx3]);omega));exact hp
   ·have hp:=hp M' (by unfold pcN;rw[ea,qd];unfold zbK;rw[e];rfl) h';simp(disch:=((try simp only[nx3]);omega));exact hp
 ·have hp:=hp M' (by unfold pcN zbK;rw[e];rfl) h';simp(disch:=((try simp only[nx3]);omega));exact hp
end Go.Ideal.S
set_option maxHeartbeats 2000000
namespace Go.Ideal.S
open Go Go.Ideal Q Classical
attribute [local simp] decide_eq_true decide_eq_false zP
section
variable {B M M':VM} {k kp:DV→VM→Prop} {n0 j:Nat} {t:List Sv} {l:List UInt8} {dn:DV}
theorem rdparcel_f (h:RdE B M j t l dn) (hl:l.length≤1000000) (hk: ∀M' x r,pcN (t,l)=some x→RdE B M' j t r dn→Kj j M M'→k (.agg (ePc x)) M') (hp: ∀M',pcN (t,l)=none→Kept B M'→kp zfc M'):zg F (.fn n_c [] []) [.ptr j 0 0] M k kp:=by
 refine zg.conv (rdparcel_w h hl (fun y x r d1 d2 d3 e p=> ?_) hp);have a:=h.j2;have c:=h.nx;have nx:=p.nx;have h':RdE B (y.put M.next (.rows false 3 [[d1,d2,d3]])) j t r dn:=p.rd.putO (by omega) c (p.dnO (qk _)) _;have kj:Kj j M (y.put M.next (.rows false 3 [[d1,d2,d3]])):=⟨by simp;omega,fun i hi hij=>by rw[get_put,if_neg (by omega)];exact p.kj.2 i hi hij⟩;have fr:=p.fr;refine⟨.agg (ePc x),_,rdM_conv h kj h',.agg rfl fun i d e hd he=> ?_,.agg (b_Pc x),hk _ x r e (rdM_rd h h' kj.1) (rdM_kj kj.1)⟩
 match i with
 |0=>cases hd;cases he;exact rdM_frz (p.l1.put (fr _ (by omega)).1 _) (fun q hq=>(fr q (by omega)).1) a
 |1=>cases hd;cases he;exact rdM_frz (p.l2.put (fr _ (by omega)).2.1 _) (fun q hq=>(fr q (by omega)).2.1) a
 |2=>cases hd;cases he;exact rdM_frz (p.l3.put (fr _ (by omega)).2.2 _) (fun q hq=>(fr q (by omega)).2.2) a
 |i+3=>simp at hd
attribute [local simp] r_bp c_bp f_bp r_bp_1
theorem parcel1_ok {b:List UInt8} {q1 q2:Nat} (hl:b.length≤1000000) (h1:M.obj q1=some (.rows false 1 [[St b]])) (h2:M.obj q2=some (.rows false 3 [[.nilS,.nilS,.nilS]])) (hq1:q1<M.next) (hq2:q2<M.next) (hne:q1≠q2)
 (hk: ∀M' x,(z7 b 80).bind pcN=some x→M.next≤M'.next→(∀i,i<M.next→i≠q2→M'.get i=M.get i)→M'.obj q2=some (.rows false 3 [ePc x])→k (.tup []) M')
 (hp: ∀M',(z7 b 80).bind pcN=none→M.next≤M'.next→(∀i,i<M.next→i≠q2→M'.get i=M.get i)→kp zfc M'):zg F (.fn n_bp [] [.ptr q1 0 0,.ptr q2 0 0]) [] M k kp:=by
 refine .fn zki rfl (by simp[f_bp]) ?_;simp(disch:=((try simp only[nx3]);omega)) [h1];refine ziZ b 80 hl (fun M1 j t r dn e1 r1=> ?_) (fun M1 e1 r1=> ?_)
 ·obtain⟨le1,le2⟩:=zft e1;simp(disch:=((try simp only[nx3]);omega));refine rdparcel_f r1 (by omega) (fun M2 x r2 e2 h2' kj2=> ?_) (fun M2 e2 h2'=> ?_)
  ·have o2:M2.obj q2=some (.rows false 3 [[.nilS,.nilS,.nilS]]):=by show(M2.get q2).map _=_;rw[h2'.sm q2 hq2];exact h2
   have wL:zp [.nilS,.nilS,.nilS] 0 (ePc x)=some (ePc x):=rfl;have hk:=hk (M2.put q2 (.rows false 3 [ePc x])) x (by rw[e1,qd,e2]) (by have:=h2'.nx;simp;omega) (fun i hi hn=>by rw[get_put,if_neg hn,h2'.sm i hi]) (by simp);simp(disch:=((try simp only[nx3]);omega)) [o2,wL];exact hk
  ·have hp:=hp M2 (by rw[e1,qd,e2]) h2'.2 fun i hi _=>h2'.1 i hi;simp(disch:=((try simp only[nx3]);omega));exact hp
 ·have hp:=hp M1 (by rw[e1];rfl) r1.2 fun i hi _=>r1.1 i hi;simp(disch:=((try simp only[nx3]);omega));exact hp
theorem repN_all {α:Type} {f:List UInt8→Option (α×List UInt8)} {P:α→Prop} {L:Nat} (hf: ∀l x r,l.length≤L→f l=some (x,r)→P x∧r.length≤l.length): ∀(n:Nat) (a:List α) (l:List UInt8) (b:List α) (r:List UInt8),l.length≤L→(∀x∈a,P x)→repN f n a l=some (b,r)→ ∀x∈b,P x
 |0,a,l,b,r,hl,ha,h=>by cases h;exact ha
 |n+1,a,l,b,r,hl,ha,h=>by
  rw[zg5] at h;cases hx:f l with
  |none=>rw[hx] at h;cases h
  |some y=>
   rw[hx,qd] at h;obtain⟨h1,h2⟩:=hf l y.1 y.2 hl hx;refine repN_all hf n _ _ b r (by omega) (fun x hx=> ?_) h;rcases qA.1 hx with hx|hx
   ·exact ha x hx
   ·rw[qn.1 hx];exact h1
theorem zj8 {α:Type} {f:List UInt8→Option (α×List UInt8)} {P:α→Prop} {L:Nat} (hf: ∀l x r,l.length≤L→f l=some (x,r)→P x∧r.length≤l.length) {l:List UInt8} {b:List α} {r:List UInt8} (hl:l.length≤L) (h:zbK f l=some (b,r)): ∀x∈b,P x:=by
 unfold zbK at h;cases hm:zej l with
 |none=>rw[hm] at h;cases h
 |some y=>
  rw[hm,qd] at h;have:=zcs (n:=y.1) (r:=y.2) hm;exact repN_all hf _ _ _ _ _ (by omega) (by simp) h
theorem queN_all {t:List Sv} {L:Nat} {l:List UInt8} {x:Qu} {r:List UInt8} (hl:l.length≤L) (h:queN t l=some (x,r)):(x.ms.length≤L∧ ∀m∈x.ms,m.length≤L)∧r.length+1≤l.length:=by
 unfold queN at h;cases h1:zcR t 3 l with
 |none=>rw[h1] at h;cases h
 |some a=>
  rw[h1,qd] at h;have l1:=zdN (n:=a.1) (r:=a.2) h1;cases h2:zbK (zcB t) a.2 with
  |none=>rw[h2] at h;cases h
  |some b=>
   rw[h2] at h;cases h;have l2:b.2.length+b.1.length≤a.2.length:=by
    have h2:zbK (zcB t) a.2=some (b.1,b.2):=h2;unfold zbK at h2;cases hm:zej a.2 with
    |none=>rw[hm] at h2;cases h2
    |some y=>
     rw[hm,qd] at h2;have m1:=zcs (n:=y.1) (r:=y.2) hm;have m2:=zg6 _ _ _ _ _ h2;have m3:=zh2 (f:=zcB t) (fun l x r h=>by
      have:=zeG h;unfold zcB at h;cases hm:zej l with
      |none=>rw[hm] at h;cases h
      |some y=>
       rw[hm,qd] at h;have q1:=zh2 (fun _ _ _ h=>valN_le h) _ _ _ _ _ h;unfold zej at hm;cases hg:getN l with
       |none=>rw[hg] at hm;cases hm
       |some z=>
        rw[hg,qd] at hm;have q2:=ze2 (n:=z.1) (r:=z.2) hg
        split at hm
        ·cases hm;omega
        ·cases hm) _ _ _ _ _ h2
     simp at m2;omega
   refine⟨⟨by show b.1.length≤L;omega,zj8 (P:=fun m=>m.length≤L) (L:=L) (fun l x r hl h=>⟨by have:=zeG h;omega,by have:=zeG h;omega⟩) (by omega) h2⟩,by show b.2.length+1≤l.length;omega⟩
end
section
variable {B M M':VM} {k kp:DV→VM→Prop} {n0 j:Nat} {t:List Sv} {l:List UInt8} {dn:DV}
theorem zjq {t:List Sv} {l:List UInt8} {x:Wt} {r:List UInt8} (h:zeE t l=some (x,r)):x.env.length+r.length+1≤l.length:=by
 unfold zeE at h;cases h1:getN l with
 |none=>rw[h1] at h;cases h
 |some a=>
  rw[h1,qd] at h;have l1:=ze2 (n:=a.1) (r:=a.2) h1;cases h2:zcR t 4 a.2 with
  |none=>rw[h2] at h;cases h
  |some b=>
   rw[h2,qd] at h;have l2:=zdN (n:=b.1) (r:=b.2) h2;cases h3:getN b.2 with
   |none=>rw[h3] at h;cases h
   |some c=>
    rw[h3,qd] at h;have l3:=ze2 (n:=c.1) (r:=c.2) h3;cases h4:zcB t c.2 with
    |none=>rw[h4] at h;cases h
    |some d=>
     rw[h4] at h;cases h;have l4:=zeG (vs:=d.1) (r:=d.2) h4;show d.1.length+d.2.length+1≤_;omega
theorem pcN_sz {t:List Sv} {l:List UInt8} {x:Pc} (h:pcN (t,l)=some x) (hl:l.length<100000):SzP x∧ ∀w∈x.ws,w.env.length<100000:=by
 unfold pcN at h;cases h1:zbK (zcR t 4) l with
 |none=>rw[h1] at h;cases h
 |some a=>
  rw[h1,qd] at h;have l1:=zi7 (fun _ _ _ h=>zdN h) (a:=a.1) (r:=a.2) h1;cases h2:zbK (queN t) a.2 with
  |none=>rw[h2] at h;cases h
  |some b=>
   rw[h2,qd] at h;have l2:=zi7 (fun _ _ _ h=>(queN_all (qk _) h).2) (a:=b.1) (r:=b.2) h2;cases h3:zbK (zeE t) b.2 with
   |none=>rw[h3] at h;cases h
   |some c=>
    rw[h3] at h;cases h;have l3:=zi7 (fun _ _ _ h=>by have:=zjq h;omega) (a:=c.1) (r:=c.2) h3;have hq:=zj8 (P:=fun q:Qu=>q.ms.length≤a.2.length∧ ∀m∈q.ms,m.length≤a.2.length) (L:=a.2.length) (fun l x r hl h=>⟨(queN_all hl h).1,by have:=(queN_all hl h).2;omega⟩) (qk _) h2;have hw:=zj8 (P:=fun w:Wt=>w.env.length≤b.2.length) (L:=b.2.length) (fun l x r hl h=>⟨by have:=zjq h;omega,by have:=zjq h;omega⟩) (qk _) h3;exact⟨⟨by show a.1.length<_;omega,by show b.1.length<_;omega,by show c.1.length<_;omega,fun q hm=>⟨by have:=(hq q hm).1;omega,fun m hm2=>by have:=(hq q hm).2 m hm2;omega⟩,fun w hm=>by have:=hw w hm;omega⟩,fun w hm=>by have:=hw w hm;omega⟩
theorem startN_lt {b:List UInt8} {f:UInt8} {t:List Sv} {r:List UInt8} (h:z7 b f=some (t,r)):r.length≤b.length:=by
 have:=zft h;omega
theorem pc_sz {b:List UInt8} {x:Pc} (h:(z7 b 80).bind pcN=some x) (hl:b.length<100000):SzP x∧ ∀w∈x.ws,w.env.length<100000:=by
 cases h1:z7 b 80 with
 |none=>rw[h1] at h;cases h
 |some y=>
  rw[h1,qd] at h;have:=startN_lt (t:=y.1) (r:=y.2) h1;exact pcN_sz (t:=y.1) (l:=y.2) h (by omega)
noncomputable def zcp (b:List UInt8):Pc×Int:=if 80000<b.length then(⟨[],[],[]⟩,3) else match(z7 b 80).bind pcN with
 |some x=>if zfY x∧zbE x=b then(x,0) else(⟨[],[],[]⟩,4)
 |none=>(⟨[],[],[]⟩,4)
theorem zjf {e:Int} (h:SM M.next M M') (hk:k (.tup [.agg (ePc ⟨[],[],[]⟩),I e]) M):Back k M (.tup [.agg [.nilS,.nilS,.nilS],I e]) M':=fun _=>by
 refine⟨_,?_,?_,h,hk⟩
 ·refine .tup rfl fun i d e a b=> ?_
  match i with
  |0=>
   cases a;cases b;refine .agg rfl fun i d e a b=> ?_
   match i with
   |0=>cases a;cases b;exact .nilS 1
   |1=>cases a;cases b;exact .nilS 2
   |2=>cases a;cases b;exact .nilS 4
   |i+3=>simp at a
  |1=>cases a;cases b;exact .refl _
  |i+2=>simp at a
 ·refine .tup fun d hd=> ?_;simp only[List.mem_cons,List.not_mem_nil,or_false] at hd;rcases hd with rfl|rfl
  ·exact .agg (b_Pc _)
  ·exact .int _ _
attribute [local simp] c_E f_E r_E_2 r_E_3 r_E_4 r_E_5 r_E_6 r_E_7
attribute [local simp] r_bp
theorem Parcel_ok (b:List UInt8) (hk:k (.tup [.agg (ePc (zcp b).1),I (zcp b).2]) M):zg F (.fn n_E [] []) [St b] M k kp:=by
 unfold zcp at hk;apply zg.back;refine .fn h_wire_Parcel rfl (by simp[f_E]) ?_;by_cases hl:80000<b.length
 ·rw[if_pos hl] at hk;have hli:(80000:Int)<b.length:=by omega
  simp(disch:=((try simp only[nx3]);omega)) [hli];exact zjf (by repeat' (first|assumption|exact zbj _ _|apply zC|apply zT|apply zck| ((try simp only[nx3]);omega))) hk
 ·rw[if_neg hl] at hk;have hli: ¬(80000:Int)<b.length:=by omega
  simp(disch:=((try simp only[nx3]);omega)) [hli];obtain⟨Y,hY⟩: ∃Y,Y=((M.new (.rows false 1 [[St b]])).new (.rows false 3 [[.nilS,.nilS,.nilS]])).new (.rows false 3 [[.nilS,.nilS,.nilS]]):=⟨_,rfl⟩;have y0:Y.next=M.next+1+1+1:=by rw[hY];simp
  have y1:Y.obj M.next=some (.rows false 1 [[St b]]):=by rw[hY,zK _ (by simp;omega),zK _ (by simp)];simp
  have y2:Y.obj (M.next+1)=some (.rows false 3 [[.nilS,.nilS,.nilS]]):=by rw[hY,zK _ (by simp),zdm,if_pos (by simp)]
  have y3:Y.obj (M.next+1+1)=some (.rows false 3 [[.nilS,.nilS,.nilS]]):=by rw[hY,zdm,if_pos (by simp)]
  have y4: ∀i,i<M.next→Y.get i=M.get i:=fun i hi=>by rw[hY,get_new,if_neg (by simp;omega),get_new,if_neg (by simp;omega),get_new,if_neg (by omega)]
  rw[←hY];refine zlJ ?_;have z1:(Y.new (.rows false 1 [[.bool false]])).obj M.next=some (.rows false 1 [[St b]]):=by rw[zK _ (by omega)];exact y1
  have z3:(Y.new (.rows false 1 [[.bool false]])).obj (M.next+1+1)=some (.rows false 3 [[.nilS,.nilS,.nilS]]):=by rw[zK _ (by omega)];exact y3
  refine parcel1_ok (by omega) z1 z3 (by simp;omega) (by simp;omega) (by omega) (fun M' x ex n1 k1 o1=> ?_) (fun M' ex n1 k1=> ?_)
  ·have g1:M'.obj Y.next=some (.rows false 1 [[.bool false]]):=by
    show(M'.get Y.next).map _=_;rw[k1 _ (by simp) (by omega),get_new,if_pos rfl];rfl
   refine⟨g1,?_⟩;rw[ex] at hk;dsimp only at hk;obtain⟨hsz,henv⟩:=pc_sz ex (by omega);have a1:M.next≠Y.next:=by omega
   have a2:M.next+1≠Y.next:=by omega
   have a3:M.next+1+1≠Y.next:=by omega
   have g2:M'.obj M.next=some (.rows false 1 [[St b]]):=by
    show(M'.get _).map _=_;rw[k1 _ (by simp;omega) (by omega)];exact z1
   have g3:M'.obj (M.next+1)=some (.rows false 3 [[.nilS,.nilS,.nilS]]):=by
    show(M'.get _).map _=_;rw[k1 _ (by simp;omega) (by omega),get_new,if_neg (by omega)];exact y2
   have g4:SM M.next M (M'.put Y.next (.rows false 1 [[.bool true]])):=fun i hi=>by
    rw[get_put,if_neg (by omega),k1 i (by simp;omega) (by omega),get_new,if_neg (by omega)];exact y4 i hi
   have nM:M.next+1+1+1+1≤M'.next:=by simp at n1;omega
   have wL:zp [.nilS,.nilS,.nilS] 0 (ePc x)=some (ePc x):=rfl;have sx:zc8 (.agg (ePc x))=true:=rfl;have sx2: ∀y∈ePc x,zcC y=true:=by intro y hy;simp only[ePc,qm,qj,or_false] at hy;rcases hy with rfl|rfl|rfl<;>rfl
   simp(disch:=((try simp only[nx3]);omega)) [o1,a1,a2,a3];refine⟨sx2,?_⟩;refine fine_ok x hsz ?_;by_cases hpr:zfY x
   ·rw[decide_eq_true hpr];simp(disch:=((try simp only[nx3]);omega)) [o1,a1,a2,a3];refine⟨sx2,?_⟩;refine bytes_ok hpr henv ?_;by_cases he:zbE x=b
    ·rw[if_pos ⟨hpr,he⟩] at hk;simp(disch:=((try simp only[nx3]);omega)) [o1,g2,g3,a1,a2,a3,he,wL];refine Back.plain (.tup fun d hd=> ?_) (zC g4 (by omega)) hk;simp only[List.mem_cons,List.not_mem_nil,or_false] at hd;rcases hd with rfl|rfl
     ·exact .agg (b_Pc _)
     ·exact .int _ _
    ·rw[if_neg (fun h=>he h.2)] at hk;simp(disch:=((try simp only[nx3]);omega)) [o1,g2,g3,a1,a2,a3,he];exact zjf (zC g4 (by omega)) hk
   ·rw[decide_eq_false hpr];rw[if_neg (fun h=>hpr h.1)] at hk;simp(disch:=((try simp only[nx3]);omega)) [o1,g2,g3,a1,a2,a3];exact zjf (zC g4 (by omega)) hk
  ·have g1:M'.obj Y.next=some (.rows false 1 [[.bool false]]):=by
    show(M'.get Y.next).map _=_;rw[k1 _ (by simp) (by omega),get_new,if_pos rfl];rfl
   refine⟨⟨_,_,rfl⟩,g1,?_⟩;rw[ex] at hk;dsimp only at hk;have a2:M.next+1≠Y.next:=by omega
   have g3:M'.obj (M.next+1)=some (.rows false 3 [[.nilS,.nilS,.nilS]]):=by
    show(M'.get _).map _=_;rw[k1 _ (by simp;omega) (by omega),get_new,if_neg (by omega)];exact y2
   have g4:SM M.next M (M'.put Y.next (.rows false 1 [[.bool false]])):=fun i hi=>by
    rw[get_put,if_neg (by omega),k1 i (by simp;omega) (by omega),get_new,if_neg (by omega)];exact y4 i hi
   simp(disch:=((try simp only[nx3]);omega)) [g3,a2];exact zjf (zC g4 (by omega)) hk
end
end Go.Ideal.S
set_option maxRecDepth 100000
set_option maxHeartbeats 4000000
noncomputable section
namespace Go.Ideal.X
open Go Go.Ideal
instance vOf (n:Nat):OfNat Value n:=⟨.int .i64 (Int.ofNat n)⟩
instance cOf (n:Nat):OfNat CO n:=⟨.t (bits n)⟩
abbrev oo (p:Nat) (x:COp):CI:=⟨some (bits p),x,none,0⟩
abbrev on (x:COp):CI:=⟨none,x,none,0⟩
abbrev Bt:Bool:=true
abbrev Bf:Bool:=false
abbrev g (q:Nat) (b:Bool) (c:CI):CI:=⟨c.dst,c.op,some (bits q,b),c.lo⟩
abbrev lo (n:Nat) (c:CI):CI:=⟨c.dst,c.op,c.guard,n⟩
abbrev oC:Nat:=zc
abbrev iI (n:Int):Value:=.int .i64 n
abbrev sL (b o l c:Nat):Value:=.slice (some ⟨b,o,none⟩) l c
abbrev cL (cs:List Value) (e:Nat):IObj:=.cells cs e
abbrev vT:Value:=.bool true
abbrev vF:Value:=.bool false
abbrev vP:Value:=.pointer none
abbrev vS:Value:=.slice none 0 0
abbrev vM:Value:=.map none
abbrev vC (f:Nat):Value:=.func (.func f) ⟨[]⟩ ⟨[]⟩
abbrev vA (l:List Value):Value:=.agg ⟨l⟩
abbrev i (n:Int):CO:=.c (.int .i64 n)
abbrev tt:CO:=.c vT
abbrev ff:CO:=.c vF
abbrev cS:CO:=.c vS
abbrev cP:CO:=.c vP
abbrev m (p:Nat) (x:CO):CI:=oo p (.mv x)
abbrev l (p:Nat) (x:CO):CI:=oo p (.load1 x)
abbrev n (p k:Nat) (x:CO):CI:=oo p (.loadN k x)
abbrev f (p k:Nat) (x:CO):CI:=oo p (.fieldAddr k x)
abbrev k (p:Nat) (x:CO):CI:=oo p (.nilCheck x)
abbrev x (p k:Nat) (x y:CO):CI:=oo p (.indexAddr k x y)
abbrev s (k:Nat) (x y:CO):CI:=on (.store k x y)
abbrev b (o:BinOp) (p:Nat) (x y:CO):CI:=oo p (.bin o .other x y)
abbrev eq (p:Nat) (x y:CO):CI:=b .eql p x y
abbrev ne (p:Nat) (x y:CO):CI:=b .neq p x y
abbrev lt (p:Nat) (x y:CO):CI:=b .lss p x y
abbrev lE (p:Nat) (x y:CO):CI:=b .leq p x y
abbrev gt (p:Nat) (x y:CO):CI:=b .gtr p x y
abbrev gE (p:Nat) (x y:CO):CI:=b .geq p x y
abbrev ad (p:Nat) (x y:CO):CI:=b .add p x y
abbrev su (p:Nat) (x y:CO):CI:=b .sub p x y
abbrev mu (p:Nat) (x y:CO):CI:=b .mul p x y
abbrev e (p:Nat) (x:CO):CI:=oo p (.blt .len [x])
abbrev c (p f:Nat) (l:List CO):CI:=oo p (.call (.c (vC f)) l)
abbrev X (p:Nat) (x:CO) (k:Nat):CI:=oo p (.extract x k)
abbrev o (p:Nat) (x:CO):CI:=oo p (.box x)
abbrev N (p:Nat) (x:CO):CI:=oo p (.un .not x)
abbrev P (p:Nat) (c a b:CO):CI:=oo p (.pick c a b)
abbrev A (p s b:Nat) (x y:CO):CI:=oo p (.blt (.append s b) [x,y])
abbrev a (p:Nat) (z:List Value):CI:=oo p (.alloc z)
abbrev B (p:Nat) (z:List Value) (l:List (Nat×Nat×CO)):CI:=oo p (.build z l)
abbrev O (l:List CI):CC:=.ops l
abbrev S (l:List CI) (b:CC):CC:=.seq (.ops l) [] b
abbrev Q (a b:CC):CC:=.seq a [] b
abbrev Z (c:CO) (n:Nat):CC:=.cond c .skip (.exit n)
abbrev I (c:CO) (a:CC):CC:=.cond c a .skip
abbrev C (c:CO) (a b:CC):CC:=.cond c a b
abbrev L (i:Nat) (b:CC):CC:=.block i (.loop [] b)
abbrev R (f:CO) (ps:List Nat) (a b:CC):CC:=.rangeFunc 0 [] f (ps.map bits) a b
abbrev rt (p:Nat):CR:=.tmp (bits p)
abbrev rc (n:Option Nat) (p:Nat):CR:=.cell n (bits p)
def f212:za:=⟨6,[],S [m 2 0,N 3 2] (I 3 (O [B 4 [0] [(0,1,i 2)],oo 5 (.mkI 273 4),on (.panic 5)])),none,none⟩
def f131:za:=⟨5,[],S [m 2 0,N 3 2] (I 3 (O [c 4 167 [i 2]])),none,none⟩
def f120:za:=⟨21,[rt 4],S [m 4 cS] (Q (L 0 (Q (S [m 5 1,gt 6 5 (i 127)] (Z 6 0)) (Q (.block 2 (O [m 9 0,m 10 1,b .and 11 10 (i 127),b .or 12 11 (i 128),oo 13 (.conv .u8 12),oo 14 (.buildSlice 1 1 [.int .u8 0] [(0,13)]),A 15 1 1 9 14,m 0 15])) (O [m 7 1,b .shr 8 7 (.c (.int .u64 7)),m 1 8])))) (S [m 16 0,m 17 1,oo 18 (.conv .u8 17),oo 19 (.buildSlice 1 1 [.int .u8 0] [(0,18)]),A 20 1 1 16 19,m 4 20] .ret)),none,none⟩
def f116:za:=⟨43,[rt 2],S [m 2 (i 0)] (S [m 3 (.c (.int .u64 0))] (Q (S [m 4 (i 0)] (L 0 (Q (S [m 6 4,lt 7 6 (i 35)] (Z 7 0)) (Q (.block 2 (Q (S [m 10 0,k 11 10,f 12 2 11,l 13 12,eq 14 13 (.c (.string ⟨#[]⟩))] (I 14 (O [B 15 [] [],oo 16 (.mkI 192 15),on (.panic 16)]))) (S [m 17 0,k 18 17,f 19 2 18,l 20 19,oo 21 (.strIdx 20 (i 0)),m 5 21] (S [m 22 0,m 23 0,k 24 23,f 25 2 24,l 26 25,oo 27 (.strSlice 26 (some (i 1)) none),k 28 22,f 29 2 28,s 1 29 27] (S [m 30 3,m 31 5,b .and 32 31 (.c (.int .u8 127)),oo 33 (.conv .u64 32),m 34 4,b .shl 35 33 34,b .or 36 30 35,m 3 36] (S [m 37 5,lt 38 37 (.c (.int .u8 128))] (I 38 (S [m 39 3,oo 40 (.conv .i64 39),m 2 40] .ret)))))))) (O [m 8 4,ad 9 8 (i 7),m 4 9]))))) (O [B 41 [] [],oo 42 (.mkI 192 41),on (.panic 42)]))),none,none⟩
def f98:za:=⟨13,[],O [m 4 0,m 5 0,k 6 5,f 7 2 6,l 8 7,m 9 1,c 10 120 [8,9],k 11 4,f 12 2 11,s 1 12 10],none,none⟩
def f170:za:=⟨12,[rt 4],S [m 4 (i 0)] (S [m 5 0,k 6 5,f 7 4 6,l 8 7,m 9 1,x 10 1 8 9,l 11 10,m 4 11] .ret),none,none⟩
def f214:za:=⟨231,[],S [m 18 1,gE 19 18 (i 0),m 20 19,g 20 Bt (m 21 1),g 20 Bt (m 22 0),g 20 Bt (k 23 22),g 20 Bt (f 24 0 23),g 20 Bt (f 25 1 24),g 20 Bt (l 26 25),g 20 Bt (e 27 26),g 20 Bt (lt 28 21 27),P 29 20 28 ff,m 30 29,g 30 Bt (m 31 0),g 30 Bt (k 32 31),g 30 Bt (f 33 5 32),g 30 Bt (l 34 33),g 30 Bt (m 35 1),g 30 Bt (x 36 1 34 35),g 30 Bt (l 37 36),g 30 Bt (N 38 37),P 39 30 38 ff,c 40 212 [39]] (Q (.draw [m 41 0,k 42 41,f 43 5 42,l 44 43,m 45 1,m 46 0,k 47 46,f 48 4 47,l 49 48,x 52 1 44 45,s 1 52 tt,m 50 1,m 51 2,lo 1 (x 53 1 49 50),lo 1 (s 1 53 51)]) (S [m 54 0,k 55 54,f 56 0 55,f 57 1 56,l 58 57,m 59 1,x 60 4 58 59,n 61 4 60,a 6 [0,0,vS,vS],s 4 6 61] (S [f 62 0 6,l 63 62,c 64 217 [63],m 7 64] (Q (.draw [m 65 7,oo 66 (.bin .neq (.iface true) 65 (.c .nilIface)),m 67 66,g 67 Bt (m 71 7),g 67 Bt (oo 72 (.invoke [(282,241),(283,242),(284,243),(285,244),(291,245)] 71 [])),g 67 Bt (f 68 3 6),g 67 Bt (l 69 68),g 67 Bt (e 70 69),lo 1 (g 67 Bt (eq 73 70 72)),lo 1 (P 74 67 73 ff),lo 1 (c 75 212 [74])]) (S [m 8 (i 0)] (Q (S [m 76 7] (.block 0 (S [oo 81 (.assertT 282 (vA []) true 76),X 82 81 1,X 83 81 0] (C 82 (S [f 84 2 6,l 85 84,e 86 85,oo 87 (.blt .min [86,i 3]),m 8 87] (O [f 88 1 6,l 89 88,gE 90 89 (i 0),m 91 90,g 91 Bt (f 92 1 6),g 91 Bt (l 93 92),g 91 Bt (m 94 2),g 91 Bt (lt 95 93 94),P 96 91 95 ff,c 97 212 [96]])) (S [oo 98 (.assertT 283 (vA []) true 76),X 99 98 1,X 100 98 0] (C 99 (O [f 101 1 6,l 102 101,gE 103 102 (i 0),m 104 103,g 104 Bt (f 105 1 6),g 104 Bt (l 106 105),g 104 Bt (m 107 2),g 104 Bt (lt 108 106 107),P 109 104 108 ff,c 110 212 [109]]) (S [oo 111 (.assertT 284 (vA []) true 76),X 112 111 1,X 113 111 0] (C 112 (.draw [f 114 1 6,l 115 114,gE 116 115 (i 0),m 117 116,g 117 Bt (f 118 1 6),g 117 Bt (l 119 118),g 117 Bt (m 120 0),g 117 Bt (k 121 120),g 117 Bt (f 122 0 121),g 117 Bt (f 123 2 122),g 117 Bt (l 124 123),g 117 Bt (e 125 124),g 117 Bt (lt 126 119 125),P 127 117 126 ff,m 128 127,g 128 Bt (m 129 0),g 128 Bt (k 130 129),g 128 Bt (f 131 6 130),g 128 Bt (l 132 131),g 128 Bt (f 133 1 6),g 128 Bt (l 134 133),g 128 Bt (x 135 1 132 134),g 128 Bt (l 136 135),g 128 Bt (N 137 136),P 138 128 137 ff,c 139 212 [138]]) (S [oo 140 (.assertT 285 (vA []) true 76),X 141 140 1,X 142 140 0] (C 141 (S [m 8 (i 1)] (O [f 143 1 6,l 144 143,eq 145 144 (i 0),c 146 212 [145]])) (O [f 77 1 6,l 78 77,eq 79 78 (i 0),c 80 212 [79]]))))))))))) (S [f 147 2 6,l 148 147,e 149 148,m 150 8,eq 151 149 150,c 152 212 [151]] (Q (S [f 153 2 6,l 154 153,e 155 154,m 156 (i 0)] (L 2 (S [lt 157 156 155] (Q (Z 157 2) (Q (.block 4 (S [x 158 3 154 156,n 159 3 158,a 10 [0,0,vS],s 3 10 159] (O [n 160 3 10,m 161 2,c 162 218 [160,161]]))) (O [ad 163 156 (i 1),m 156 163])))))) (Q (S [f 164 0 6,l 165 164,eq 166 165 (i 4)] (I 166 (Q (.draw [m 167 0,k 168 167,f 169 6 168,l 170 169,f 171 1 6,l 172 171,x 173 1 170 172,s 1 173 tt]) (Q (.draw [m 174 0,k 175 174,f 176 0 175,f 177 2 176,l 178 177,f 179 1 6,l 180 179,x 181 3 178 180,n 182 3 181,a 11 [vS,vS,vS],s 3 11 182]) (S [n 183 3 11,c 184 219 [183]] (S [m 185 2,n 186 3 11,c 187 220 [186],ad 188 185 187,m 2 188] (Q (S [f 189 2 11,l 190 189,e 191 190,m 192 (i 0)] (L 6 (S [lt 193 192 191] (Q (Z 193 6) (Q (.block 8 (S [x 194 3 190 192,n 195 3 194,a 13 [0,vS,0],s 3 13 195] (.draw [n 200 3 11,n 201 3 13,c 202 221 [200,201],m 196 0,f 197 2 13,l 198 197,m 199 2,lo 1 (ad 203 199 202),lo 1 (c 204 214 [196,198,203])]))) (O [ad 205 192 (i 1),m 192 205])))))) (S [f 206 1 11,l 207 206,e 208 207,m 209 (i 0)] (L 10 (S [lt 210 209 208] (Q (Z 210 10) (Q (.block 12 (S [x 211 2 207 209,n 212 2 211,a 15 [0,0],s 2 15 212] (O [m 213 0,f 214 1 15,l 215 214,m 216 2,c 217 214 [213,215,216]]))) (O [ad 218 209 (i 1),m 209 218]))))))))))))) (S [f 219 3 6,l 220 219,e 221 220,m 222 (i 0)] (L 14 (S [lt 223 222 221] (Q (Z 223 14) (Q (.block 16 (S [x 224 1 220 222,l 225 224,m 17 225] (O [m 226 0,m 227 17,m 228 2,c 229 214 [226,227,228]]))) (O [ad 230 222 (i 1),m 222 230]))))))))))))))),none,none⟩
def f217:za:=⟨28,[rt 2],S [m 2 (.c .nilIface)] (Q (S [m 3 0] (.block 0 (Q (S [eq 5 3 (i 1),m 4 5] (C 4 .skip (O [eq 6 3 (i 7),m 4 6]))) (C 4 (S [oo 7 (.mkI 291 (i 0)),m 2 7] .ret) (S [eq 9 3 (i 3),m 8 9] (C 8 (S [oo 10 (.mkI 291 (i 2)),m 2 10] .ret) (S [eq 12 3 (i 2),m 11 12] (C 11 (S [B 13 [] [],oo 14 (.mkI 282 13),m 2 14] .ret) (S [eq 16 3 (i 5),m 15 16] (C 15 (S [B 17 [] [],oo 18 (.mkI 285 17),m 2 18] .ret) (Q (S [eq 20 3 (i 6),m 19 20] (C 19 .skip (O [eq 21 3 (i 8),m 19 21]))) (C 19 (S [B 22 [] [],oo 23 (.mkI 283 22),m 2 23] .ret) (S [eq 25 3 (i 4),m 24 25] (I 24 (S [B 26 [] [],oo 27 (.mkI 284 26),m 2 27] .ret))))))))))))))) (S [m 2 (.c .nilIface)] .ret)),none,none⟩
def f76:za:=⟨12,[rt 4],S [m 4 ff] (S [m 5 0,gE 6 5 (i 0),m 7 6,g 7 Bt (m 8 0),g 7 Bt (m 9 1),g 7 Bt (lt 10 8 9),P 11 7 10 ff,m 4 11] .ret),none,none⟩
def f204:za:=⟨49,[],S [o 3 1] (S [m 4 (i 0),m 5 (i 0)] (Q (S [f 6 0 3,l 7 6] (.block 0 (S [eq 10 7 (i 1),m 9 10] (C 9 (O [m 4 (i (-1000000000)),m 5 (i 1000000000)]) (S [eq 12 7 (i 2),m 11 12] (C 11 (O [m 13 0,k 14 13,f 15 4 14,f 16 0 15,l 17 16,e 18 17,su 19 18 (i 1),m 5 19]) (S [eq 21 7 (i 3),m 20 21] (C 20 (O [m 22 0,k 23 22,f 24 0 23,f 25 2 24,l 26 25,e 27 26,su 28 27 (i 1),m 5 28]) (S [eq 30 7 (i 4),m 29 30] (C 29 (O [m 31 0,k 32 31,f 33 0 32,f 34 0 33,l 35 34,e 36 35,su 37 36 (i 1),m 5 37]) (O [c 8 167 [i 2]]))))))))))) (O [f 38 1 3,l 39 38,m 40 4,gE 41 39 40,m 42 41,g 42 Bt (f 43 1 3),g 42 Bt (l 44 43),g 42 Bt (m 45 5),g 42 Bt (lE 46 44 45),P 47 42 46 ff,c 48 131 [47]]))),none,none⟩
def f207:za:=⟨4,[rc (some 2) 2],S [o 1 0,a 2 [0,0]] (S [n 3 2 1,s 2 2 3] .ret),none,none⟩
def f60:za:=⟨23,[rt 2],S [o 1 0,m 2 ff] (Q (S [f 3 0 1,l 4 3] (.block 0 (S [eq 6 4 (i 2),m 5 6] (C 5 (S [f 7 1 1,l 8 7,c 9 76 [8,i 12],m 2 9] .ret) (S [eq 11 4 (i 3),m 10 11] (I 10 (S [f 12 1 1,l 13 12,c 14 76 [13,i 60],m 2 14] .ret))))))) (S [f 15 0 1,l 16 15,eq 17 16 (i 4),m 18 17,g 18 Bt (f 19 1 1),g 18 Bt (l 20 19),g 18 Bt (c 21 76 [20,i 24]),P 22 18 21 ff,m 2 22] .ret)),none,none⟩
def f94:za:=⟨20,[rt 2],S [o 1 0,m 2 ff] (S [n 3 2 1,c 4 60 [3],m 5 4,g 5 Bf (f 6 0 1),g 5 Bf (l 7 6),g 5 Bf (eq 8 7 (i 1)),g 5 Bf (m 9 8),g 9 Bt (f 10 1 1),g 9 Bt (l 11 10),g 9 Bt (gE 12 11 (i (-1000000000))),g 5 Bf (P 13 9 12 ff),g 5 Bf (m 14 13),g 14 Bt (f 15 1 1),g 14 Bt (l 16 15),g 14 Bt (lE 17 16 (i 1000000000)),g 5 Bf (P 18 14 17 ff),P 19 5 tt 18,m 2 19] .ret),none,none⟩
def f161:za:=⟨40,[rt 4],S [o 3 1,m 4 (i 0)] (Q (.draw [m 8 0,k 9 8,f 10 1 9,l 11 10,n 12 2 3,oo 13 (.lookup (.leaves [0,1]) 0 true 11 12),m 7 13,X 14 7 0,X 15 7 1,m 5 14,m 6 15]) (Q (S [m 16 6,N 17 16] (I 17 (S [m 18 0,k 19 18,f 20 0 19,l 21 20,e 22 21,m 5 22] (Q (.draw [m 24 0,k 25 24,f 26 0 25,l 27 26,n 28 2 3,oo 29 (.buildSlice 1 2 [0,0] [(0,28)]),A 30 2 16 27 29,m 23 0,lo 1 (k 31 23),lo 1 (f 32 0 31),lo 1 (s 1 32 30)]) (.draw [m 33 0,k 34 33,f 35 1 34,l 36 35,n 37 2 3,m 38 5,on (.mapUpdate (.leaves [0,1]) 36 37 38)]))))) (S [m 39 5,m 4 39] .ret))),none,none⟩
def f241:za:=⟨3,[rt 2],S [o 1 0,m 2 (i 0)] (S [m 2 (i 0)] .ret),none,none⟩
def f114:za:=⟨39,[rt 2],S [m 2 cS] (S [m 3 (.c (.int .u16 65535))] (Q (S [m 8 0,e 9 8,m 10 (i 0)] (L 0 (S [lt 11 10 9] (Q (Z 11 0) (Q (.block 2 (S [x 12 1 8 10,l 13 12,m 5 13] (S [m 14 (i 0)] (L 4 (S [lt 15 14 (i 8)] (Q (Z 15 4) (Q (.block 6 (S [m 16 14,m 6 16] (S [m 17 3,b .shr 18 17 (.c (.int .u64 15)),m 19 5,m 20 6,su 21 (i 7) 20,b .shr 22 19 21,b .and 23 22 (.c (.int .u8 1)),oo 24 (.conv .u16 23),ne 25 18 24,m 7 25] (S [m 26 3,b .shl 27 26 (.c (.int .u64 1)),m 3 27] (S [m 28 7] (I 28 (O [m 29 3,b .xor 30 29 (.c (.int .u16 4129)),m 3 30]))))))) (O [ad 31 14 (i 1),m 14 31])))))))) (O [ad 32 10 (i 1),m 10 32])))))) (S [m 33 3,b .shr 34 33 (.c (.int .u64 8)),oo 35 (.conv .u8 34),m 36 3,oo 37 (.conv .u8 36),oo 38 (.buildSlice 2 1 [.int .u8 0] [(0,35),(1,37)]),m 2 38] .ret))),none,none⟩
def f136:za:=⟨5,[rt 2],S [m 2 cS] (S [m 3 0,c 4 168 [3],m 2 4] .ret),none,none⟩
def f168:za:=⟨8,[rt 2],S [m 2 cS] (Q (S [m 3 0,oo 4 (.bin .eql .slice 3 cS)] (I 4 (S [m 2 cS] .ret))) (S [oo 5 (.buildSlice 0 2 [0,0] []),m 6 0,A 7 2 16 5 6,m 2 7] .ret)),none,none⟩
def f79:za:=⟨9,[rt 4],S [m 4 ff] (S [m 5 0,m 6 1,c 7 140 [5,6],gE 8 7 (i 0),m 4 8] .ret),none,none⟩
def f115:za:=⟨16,[rt 2],S [m 2 (i 0)] (S [m 4 0,c 5 116 [4],m 3 5] (Q (S [m 6 3,m 7 0,k 8 7,f 9 2 8,l 10 9,oo 11 (.blt .lenStr [10]),gt 12 6 11] (I 12 (O [B 13 [] [],oo 14 (.mkI 192 13),on (.panic 14)]))) (S [m 15 3,m 2 15] .ret))),none,none⟩
def f140:za:=⟨19,[rt 4],S [m 4 (i 0)] (Q (S [m 6 0,e 7 6,m 8 (i 0)] (L 0 (S [lt 9 8 7] (Q (Z 9 0) (Q (.block 2 (S [m 10 8,m 5 10] (S [m 11 1,m 12 0,m 13 5,x 14 1 12 13,l 15 14,eq 16 11 15] (I 16 (S [m 17 5,m 4 17] .ret))))) (O [ad 18 8 (i 1),m 8 18])))))) (S [m 4 (i (-1))] .ret)),none,none⟩
def f119:za:=⟨23,[rc (some 2) 4],S [a 4 [0,0]] (Q (S [m 5 1,m 6 0,k 7 6,f 8 0 7,f 9 0 8,l 10 9,e 11 10,gE 12 5 11] (I 12 (O [B 13 [] [],oo 14 (.mkI 192 13),on (.panic 14)]))) (S [m 15 0,k 16 15,f 17 0 16,f 18 0 17,l 19 18,m 20 1,x 21 2 19 20,n 22 2 21,s 2 4 22] .ret)),none,none⟩
def f218:za:=⟨10,[],S [o 2 0,o 3 1] (S [a 4 [0],s 1 4 (i 0)] (S [a 5 [.nilFunc]] (S [oo 6 (.makeFunc (.func 223) [] [4,3,5]),s 1 5 6] (O [l 7 5,n 8 3 2,oo 9 (.call 7 [8,i 1])])))),none,none⟩
def f245:za:=⟨4,[rt 2],S [m 2 (i 0)] (S [m 3 0,m 2 3] .ret),none,none⟩
def f183:za:=⟨23,[],S [m 8 1,e 9 8,m 10 2,eq 11 9 10,c 12 131 [11]] (S [m 13 1,e 14 13,m 15 (i 0)] (L 0 (S [lt 16 15 14] (Q (Z 16 0) (Q (.block 2 (S [x 17 2 13 15,n 18 2 17,a 7 [0,0],s 2 7 18] (O [m 19 0,n 20 2 7,c 21 204 [19,20]]))) (O [ad 22 15 (i 1),m 15 22])))))),none,none⟩
def f189:za:=⟨5,[rt 2],S [m 2 cS] (S [m 3 0,c 4 206 [3,.c (vC 207)],m 2 4] .ret),none,none⟩
def f206:za:=⟨22,[rt 4],S [m 4 cS] (S [m 5 cS] (Q (S [m 8 0,e 9 8,m 10 (i 0)] (L 0 (S [lt 11 10 9] (Q (Z 11 0) (Q (.block 2 (S [x 12 2 8 10,n 13 2 12,a 7 [0,0],s 2 7 13] (O [m 14 5,m 15 1,n 16 2 7,oo 17 (.call 15 [16]),oo 18 (.buildSlice 1 2 [0,0] [(0,17)]),A 19 2 16 14 18,m 5 19]))) (O [ad 20 10 (i 1),m 10 20])))))) (S [m 21 5,m 4 21] .ret))),none,none⟩
def f43:za:=⟨63,[rt 4],S [m 4 cP] (S [m 9 0,oo 10 (.blt .lenStr [9]),su 11 10 (i 2),m 5 11] (Q (Q (.draw [m 12 5,lt 13 12 (i 1),m 14 13,g 14 Bf (m 15 0),g 14 Bf (oo 16 (.strIdx 15 (i 0))),g 14 Bf (m 17 1),g 14 Bf (ne 18 16 17),P 19 14 tt 18,m 20 19,g 20 Bf (m 21 0),g 20 Bf (m 22 5),g 20 Bf (oo 23 (.strSlice 21 none (some 22))),g 20 Bf (oo 24 (.s2b 23)),lo 1 (g 20 Bf (c 25 114 [24])),lo 2 (g 20 Bf (oo 26 (.b2s 25))),g 20 Bf (m 27 0),g 20 Bf (m 28 5),g 20 Bf (oo 29 (.strSlice 27 (some 28) none)),lo 2 (g 20 Bf (ne 30 26 29)),lo 2 (P 31 20 tt 30)]) (I 31 (O [B 32 [] [],oo 33 (.mkI 192 32),on (.panic 33)]))) (S [m 34 0,m 35 5,oo 36 (.strSlice 34 (some (i 1)) (some 35)),B 37 [vS,vM,.string ⟨#[]⟩] [(2,1,36)],o 38 37,m 6 38] (Q (S [m 39 6,c 40 115 [39],m 41 (i 0)] (L 0 (S [lt 42 41 40] (Q (Z 42 0) (Q (.block 2 (S [m 43 6,c 44 116 [43],m 7 44] (S [m 45 6,c 46 116 [45],m 8 46] (O [m 47 6,m 48 6,k 49 48,f 50 0 49,f 51 0 50,l 52 51,m 53 7,m 54 8,B 55 [0,0] [(0,1,53),(1,1,54)],oo 56 (.buildSlice 1 2 [0,0] [(0,55)]),A 57 2 16 52 56,k 58 47,f 59 0 58,f 60 0 59,s 1 60 57])))) (O [ad 61 41 (i 1),m 41 61])))))) (S [m 62 6,m 4 62] .ret))))),none,none⟩
def f73:za:=⟨138,[],S [m 9 0,k 10 9,f 11 9 10,l 12 11,ad 13 12 (i 1),k 14 9,f 15 9 14,s 1 15 13] (S [m 16 0,m 17 0,k 18 17,f 19 10 18,l 20 19,m 21 20,g 21 Bf (m 22 0),g 21 Bf (k 23 22),g 21 Bf (f 24 9 23),g 21 Bf (l 25 24),g 21 Bf (gt 26 25 (i 400)),P 27 21 tt 26,k 28 16,f 29 10 28,s 1 29 27] (Q (S [m 30 0,k 31 30,f 32 10 31,l 33 32] (I 33 .ret)) (S [m 34 0,k 35 34,f 36 0 35,f 37 1 36,l 38 37,m 39 1,x 40 4 38 39,n 41 4 40,a 8 [0,0,vS,vS],s 4 8 41] (S [f 42 0 8,l 43 42] (.block 0 (S [eq 45 43 (i 2),m 44 45] (C 44 (O [m 46 0,n 47 4 8,m 48 2,m 49 3,c 50 123 [46,47,48,49]]) (S [eq 52 43 (i 3),m 51 52] (C 51 (S [m 53 0,f 54 3 8,l 55 54,x 56 1 55 (i 0),l 57 56,m 58 2,m 59 3,c 60 73 [53,57,58,59]] (O [m 61 0,f 62 3 8,l 63 62,x 64 1 63 (i 1),l 65 64,m 66 2,m 67 3,c 68 73 [61,65,66,67]])) (S [eq 70 43 (i 4),m 69 70] (C 69 (O [m 71 0,n 72 4 8,m 73 2,m 74 3,c 75 124 [71,72,73,74]]) (S [eq 77 43 (i 5),m 76 77] (C 76 (S [f 78 2 8,l 79 78,x 80 3 79 (i 0),n 81 3 80,m 82 3,c 83 126 [81,82],c 84 125 [83],ne 85 84 (i 0)] (C 85 (O [m 86 0,f 87 3 8,l 88 87,x 89 1 88 (i 0),l 90 89,m 91 2,m 92 3,c 93 73 [86,90,91,92]]) (O [m 94 0,f 95 3 8,l 96 95,x 97 1 96 (i 1),l 98 97,m 99 2,m 100 3,c 101 73 [94,98,99,100]]))) (Q (S [eq 103 43 (i 6),m 102 103] (C 102 .skip (S [eq 104 43 (i 7),m 102 104] (C 102 .skip (O [eq 105 43 (i 8),m 102 105]))))) (I 102 (Q (.draw [m 114 3,c 115 127 [114],m 107 0,k 108 107,f 109 4 108,f 110 3 109,l 111 110,m 112 2,m 113 1,lo 1 (B 116 [0,0,vS] [(0,1,112),(1,1,113),(2,1,115)]),lo 1 (oo 117 (.buildSlice 1 3 [0,0,vS] [(0,116)])),lo 1 (A 118 3 40 111 117),m 106 0,lo 2 (k 119 106),lo 2 (f 120 4 119),lo 2 (f 121 3 120),lo 2 (s 1 121 118)]) (O [m 122 0,m 123 0,k 124 123,f 125 10 124,l 126 125,m 127 126,g 127 Bf (m 128 0),g 127 Bf (k 129 128),g 127 Bf (f 130 4 129),g 127 Bf (f 131 3 130),g 127 Bf (l 132 131),g 127 Bf (e 133 132),g 127 Bf (gt 134 133 (i 40)),P 135 127 tt 134,k 136 122,f 137 10 136,s 1 137 135]))))))))))))))))),none,none⟩
def f26:za:=⟨26,[rt 4],S [m 4 ff] (Q (S [m 6 0,e 7 6,m 8 1,e 9 8,ne 10 7 9] (I 10 (S [m 4 ff] .ret))) (Q (S [m 5 (i 0)] (L 0 (Q (S [m 11 5,m 12 0,e 13 12,lt 14 11 13] (Z 14 0)) (Q (.block 2 (Q (.draw [m 17 0,m 18 5,x 19 2 17 18,n 20 2 19,m 21 1,m 22 5,x 23 2 21 22,n 24 2 23,oo 25 (.bin .neq (.leaves [0,1]) 20 24)]) (I 25 (S [m 4 ff] .ret)))) (O [m 15 5,ad 16 15 (i 1),m 5 16]))))) (S [m 4 tt] .ret))),none,none⟩
def f41:za:=⟨6,[rc none 2],S [a 2 [vF]] (O [oo 3 (.makeFunc (.func 113) [] [2])]),(some ⟨3,[],[],S [] (S [m 4 0,oo 5 (.call 4 [])] (S [s 1 2 tt] .ret))⟩),none⟩
def f93:za:=⟨9,[rt 4],S [o 3 1,m 4 ff] (S [m 5 0,oo 6 (.makeFunc (.func 156) [] [3]),c 7 155 [5,6],N 8 7,m 4 8] .ret),none,none⟩
def f155:za:=⟨9,[rt 4],S [m 4 ff] (S [m 5 0,m 6 1,c 7 174 [5,6],gE 8 7 (i 0),m 4 8] .ret),none,none⟩
def f174:za:=⟨19,[rt 4],S [m 4 (i 0)] (Q (S [m 6 0,e 7 6,m 8 (i 0)] (L 0 (S [lt 9 8 7] (Q (Z 9 0) (Q (.block 2 (S [m 10 8,m 5 10] (S [m 11 1,m 12 0,m 13 5,x 14 2 12 13,n 15 2 14,oo 16 (.call 11 [15])] (I 16 (S [m 17 5,m 4 17] .ret))))) (O [ad 18 8 (i 1),m 8 18])))))) (S [m 4 (i (-1))] .ret)),none,none⟩
def f36:za:=⟨8,[rc (some 2) 4],S [a 4 [0,0]] (S [m 5 0,m 6 1,B 7 [0,0] [(0,1,5),(1,1,6)],s 2 4 7] .ret),none,none⟩
def f63:za:=⟨8,[rt 2],S [m 2 (.c (.string ⟨#[]⟩))] (S [m 3 0,m 4 0,c 5 114 [4],A 6 1 1 3 5,oo 7 (.b2s 6),m 2 7] .ret),none,none⟩
def f64:za:=⟨28,[rt 4],S [m 4 cS] (S [m 8 0,oo 9 (.buildSlice 1 1 [.int .u8 0] [(0,8)]),m 10 1,e 11 10,c 12 120 [9,11],m 5 12] (Q (S [m 13 1,e 14 13,m 15 (i 0)] (L 0 (S [lt 16 15 14] (Q (Z 16 0) (Q (.block 2 (S [x 17 2 13 15,n 18 2 17,a 7 [0,0],s 2 7 18] (.draw [m 19 5,f 20 0 7,l 21 20,c 22 120 [19,21],f 23 1 7,l 24 23,lo 1 (c 25 120 [22,24]),lo 2 (m 5 25)]))) (O [ad 26 15 (i 1),m 15 26])))))) (S [m 27 5,m 4 27] .ret))),none,none⟩
def f81:za:=⟨11,[rc (some 3) 2],S [o 1 0,a 2 [0,0,vS]] (Q (.draw [f 7 2 1,l 8 7,c 9 136 [8],f 3 0 1,l 4 3,f 5 1 1,l 6 5,lo 1 (B 10 [0,0,vS] [(0,1,4),(1,1,6),(2,1,9)]),lo 1 (s 3 2 10)]) .ret),none,none⟩
def f84:za:=⟨19,[rt 2],S [m 2 ff] (S [oo 6 (.makeMap),m 3 6] (Q (S [m 7 0,e 8 7,m 9 (i 0)] (L 0 (S [lt 10 9 8] (Q (Z 10 0) (Q (.block 2 (S [x 11 1 7 9,l 12 11,m 5 12] (Q (S [m 13 3,m 14 5,oo 15 (.lookup .int vF false 13 14)] (I 15 (S [m 2 ff] .ret))) (O [m 16 3,m 17 5,on (.mapUpdate .int 16 17 tt)])))) (O [ad 18 9 (i 1),m 9 18])))))) (S [m 2 tt] .ret))),none,none⟩
def f97:za:=⟨5,[rt 0],S [m 0 cP] (S [oo 1 (.makeMap),B 2 [vS,vM] [(1,1,1)],B 3 [vS,vM,vS] [(0,2,2)],o 4 3,m 0 4] .ret),none,none⟩
def f101:za:=⟨47,[],S [m 6 0,m 7 1,e 8 7,c 9 98 [6,8]] (S [m 10 1,e 11 10,m 12 (i 0)] (L 0 (S [lt 13 12 11] (Q (Z 13 0) (Q (.block 2 (S [x 14 2 10 12,n 15 2 14,a 5 [0,0],s 2 5 15] (.block 4 (S [f 25 0 5,l 26 25,ne 27 26 (i 1),m 24 27] (C 24 (.draw [m 29 0,k 30 29,f 31 0 30,n 32 2 5,c 33 161 [31,32],m 28 0,lo 1 (mu 34 (i 2) 33),lo 1 (ad 35 34 (i 1)),lo 1 (c 36 98 [28,35])]) (S [f 38 1 5,l 39 38,gE 40 39 (i 0),m 37 40] (C 37 (O [m 41 0,f 42 1 5,l 43 42,mu 44 (i 4) 43,c 45 98 [41,44]]) (O [m 16 0,f 17 1 5,l 18 17,oo 19 (.un .neg 18),su 20 19 (i 1),mu 21 (i 4) 20,ad 22 21 (i 2),c 23 98 [16,22]])))))))) (O [ad 46 12 (i 1),m 12 46])))))),none,none⟩
def f102:za:=⟨18,[rt 4],S [m 4 (.c (.string ⟨#[]⟩))] (Q (.draw [m 5 1,m 6 0,k 7 6,f 8 0 7,f 9 0 8,l 10 9,c 11 64 [5,10],m 12 0,k 13 12,f 14 2 13,l 15 14,lo 1 (A 16 1 1 11 15),lo 2 (c 17 63 [16]),lo 3 (m 4 17)]) .ret),none,none⟩
def f142:za:=⟨7,[rc (some 1) 2],S [o 1 0,a 2 [vS]] (S [f 3 0 1,l 4 3,c 5 136 [4],B 6 [vS] [(0,1,5)],s 1 2 6] .ret),none,none⟩
def f209:za:=⟨7,[rc (some 1) 2],S [o 1 0,a 2 [vS]] (S [f 3 0 1,l 4 3,c 5 189 [4],B 6 [vS] [(0,1,5)],s 1 2 6] .ret),none,none⟩
def f215:za:=⟨9,[rt 4],S [m 4 ff] (S [m 5 0,m 6 1,c 7 222 [5,6],gE 8 7 (i 0),m 4 8] .ret),none,none⟩
def f222:za:=⟨19,[rt 4],S [m 4 (i 0)] (Q (S [m 6 0,e 7 6,m 8 (i 0)] (L 0 (S [lt 9 8 7] (Q (Z 9 0) (Q (.block 2 (S [m 10 8,m 5 10] (S [m 11 1,m 12 0,m 13 5,x 14 1 12 13,l 15 14,oo 16 (.bin .eql .bool 11 15)] (I 16 (S [m 17 5,m 4 17] .ret))))) (O [ad 18 8 (i 1),m 8 18])))))) (S [m 4 (i (-1))] .ret)),none,none⟩
def f54:za:=⟨18,[rt 4],S [m 4 (i 0)] (S [m 6 0,m 7 0,c 8 116 [7],c 9 119 [6,8],a 5 [0,0],s 2 5 9] (Q (S [f 10 0 5,l 11 10,m 12 1,ne 13 11 12] (I 13 (O [B 14 [] [],oo 15 (.mkI 192 14),on (.panic 15)]))) (S [f 16 1 5,l 17 16,m 4 17] .ret))),none,none⟩
def f182:za:=⟨17,[],O [m 4 1,gE 5 4 (i 0),m 6 5,g 6 Bt (m 7 1),g 6 Bt (m 8 0),g 6 Bt (k 9 8),g 6 Bt (f 10 0 9),g 6 Bt (f 11 0 10),g 6 Bt (l 12 11),g 6 Bt (e 13 12),g 6 Bt (lt 14 7 13),P 15 6 14 ff,c 16 131 [15]],none,none⟩
def f13:za:=⟨25,[rc (some 3) 2,rt 3],S [o 1 0,a 2 [vS,vS,vS],m 3 (i 0)] (Q (S [l 5 1,oo 6 (.blt .lenStr [5]),gt 7 6 (i 80000)] (I 7 (S [B 8 [vS,vS,vS] [],s 3 2 8,m 3 (i 3)] .ret))) (S [a 4 [vS,vS,vS]] (Q (Q (.draw [oo 9 (.makeFunc (.func 42) [] [1,4]),c 10 41 [9],lo 1 (N 11 10),lo 1 (m 12 11),lo 1 (g 12 Bf (n 13 3 4)),lo 1 (g 12 Bf (c 14 37 [13])),lo 2 (g 12 Bf (N 15 14)),lo 2 (P 16 12 tt 15),lo 2 (m 17 16),lo 2 (g 17 Bf (n 18 3 4)),lo 2 (g 17 Bf (c 19 38 [18])),lo 2 (g 17 Bf (l 20 1)),lo 3 (g 17 Bf (ne 21 19 20)),lo 3 (P 22 17 tt 21)]) (I 22 (S [B 23 [vS,vS,vS] [],s 3 2 23,m 3 (i 4)] .ret))) (S [n 24 3 4,s 3 2 24,m 3 (i 0)] .ret)))),none,none⟩
def f19:za:=⟨27,[rc (some 2) 2,rt 3],S [o 1 0,a 2 [0,vS],m 3 (i 0)] (Q (S [l 6 1,oo 7 (.blt .lenStr [6]),gt 8 7 (i 80000)] (I 8 (S [B 9 [0,vS] [],s 2 2 9,m 3 (i 3)] .ret))) (S [a 4 [0,vS]] (S [oo 10 (.makeFunc (.func 53) [] [1,4]),m 5 10] (Q (Q (.draw [m 11 5,c 12 41 [11],lo 1 (N 13 12),lo 1 (m 14 13),lo 1 (g 14 Bf (n 15 2 4)),lo 1 (g 14 Bf (c 16 49 [15])),lo 2 (g 14 Bf (N 17 16)),lo 2 (P 18 14 tt 17),lo 2 (m 19 18),lo 2 (g 19 Bf (n 20 2 4)),lo 2 (g 19 Bf (c 21 50 [20])),lo 2 (g 19 Bf (l 22 1)),lo 3 (g 19 Bf (ne 23 21 22)),lo 3 (P 24 19 tt 23)]) (I 24 (S [B 25 [0,vS] [],s 2 2 25,m 3 (i 4)] .ret))) (S [n 26 2 4,s 2 2 26,m 3 (i 0)] .ret))))),none,none⟩
def f49:za:=⟨12,[rt 2],S [o 1 0,m 2 ff] (S [f 3 0 1,l 4 3,c 5 76 [4,i 60],m 6 5,g 6 Bt (f 7 1 1),g 6 Bt (l 8 7),g 6 Bt (B 9 [vS] [(0,1,8)]),g 6 Bt (c 10 91 [9]),P 11 6 10 ff,m 2 11] .ret),none,none⟩
def f50:za:=⟨15,[rt 2],S [o 1 0,m 2 (.c (.string ⟨#[]⟩))] (S [c 4 97 [],m 3 4] (S [m 5 3,f 6 0 1,l 7 6,c 8 100 [5,7]] (S [m 9 3,f 10 1 1,l 11 10,c 12 101 [9,11]] (S [m 13 3,c 14 102 [13,.c (.int .u8 77)],m 2 14] .ret)))),none,none⟩
def f55:za:=⟨42,[rt 2],S [m 2 cS] (S [m 3 cS] (Q (S [m 5 0,c 6 115 [5],m 7 (i 0)] (L 0 (S [lt 8 7 6] (Q (Z 8 0) (Q (.block 2 (S [m 9 0,c 10 116 [9],m 4 10] (.block 4 (S [m 20 4,b .and 21 20 (i 1),eq 22 21 (i 1),m 19 22] (C 19 (O [m 23 3,m 24 0,m 25 4,b .shr 26 25 (.c (.int .u64 1)),c 27 119 [24,26],oo 28 (.buildSlice 1 2 [0,0] [(0,27)]),A 29 2 16 23 28,m 3 29]) (S [m 31 4,b .and 32 31 (i 2),eq 33 32 (i 0),m 30 33] (C 30 (O [m 34 3,m 35 4,b .shr 36 35 (.c (.int .u64 2)),B 37 [0,0] [(0,1,i 1),(1,1,36)],oo 38 (.buildSlice 1 2 [0,0] [(0,37)]),A 39 2 16 34 38,m 3 39]) (O [m 11 3,m 12 4,b .shr 13 12 (.c (.int .u64 2)),oo 14 (.un .neg 13),su 15 14 (i 1),B 16 [0,0] [(0,1,i 1),(1,1,15)],oo 17 (.buildSlice 1 2 [0,0] [(0,16)]),A 18 2 16 11 17,m 3 18])))))))) (O [ad 40 7 (i 1),m 7 40])))))) (S [m 41 3,m 2 41] .ret))),none,none⟩
def f80:za:=⟨5,[rt 2],S [m 2 cS] (S [m 3 0,c 4 141 [3,.c (vC 142)],m 2 4] .ret),none,none⟩
def f85:za:=⟨9,[rt 4],S [o 3 1,m 4 ff] (S [m 5 0,oo 6 (.makeFunc (.func 152) [] [3]),c 7 151 [5,6],N 8 7,m 4 8] .ret),none,none⟩
def f91:za:=⟨12,[rt 2],S [o 1 0,m 2 ff] (S [f 3 0 1,l 4 3,e 5 4,lE 6 5 (i 3),m 7 6,g 7 Bt (f 8 0 1),g 7 Bt (l 9 8),g 7 Bt (c 10 93 [9,.c (vC 94)]),P 11 7 10 ff,m 2 11] .ret),none,none⟩
def f95:za:=⟨9,[rt 4],S [o 3 1,m 4 ff] (S [m 5 0,oo 6 (.makeFunc (.func 158) [] [3]),c 7 157 [5,6],N 8 7,m 4 8] .ret),none,none⟩
def f96:za:=⟨9,[rt 4],S [o 3 1,m 4 ff] (S [m 5 0,oo 6 (.makeFunc (.func 160) [] [3]),c 7 159 [5,6],N 8 7,m 4 8] .ret),none,none⟩
def f99:za:=⟨12,[],O [m 4 0,m 5 0,k 6 5,f 7 0 6,m 8 1,B 9 [0,0] [(0,1,i 4),(1,1,8)],c 10 161 [7,9],c 11 98 [4,10]],none,none⟩
def f100:za:=⟨12,[],O [m 4 0,m 5 0,k 6 5,f 7 0 6,m 8 1,B 9 [0,0] [(0,1,i 3),(1,1,8)],c 10 161 [7,9],c 11 98 [4,10]],none,none⟩
def f138:za:=⟨13,[rc (some 4) 2],S [o 1 0,a 2 [0,0,0,vS]] (Q (.draw [f 9 3 1,l 10 9,c 11 80 [10],f 3 0 1,l 4 3,f 5 1 1,l 6 5,f 7 2 1,l 8 7,lo 1 (B 12 [0,0,0,vS] [(0,1,4),(1,1,6),(2,1,8),(3,1,11)]),lo 1 (s 4 2 12)]) .ret),none,none⟩
def f141:za:=⟨22,[rt 4],S [m 4 cS] (S [m 5 cS] (Q (S [m 8 0,e 9 8,m 10 (i 0)] (L 0 (S [lt 11 10 9] (Q (Z 11 0) (Q (.block 2 (S [x 12 1 8 10,n 13 1 12,a 7 [vS],s 1 7 13] (O [m 14 5,m 15 1,n 16 1 7,oo 17 (.call 15 [16]),oo 18 (.buildSlice 1 1 [vS] [(0,17)]),A 19 1 24 14 18,m 5 19]))) (O [ad 20 10 (i 1),m 10 20])))))) (S [m 21 5,m 4 21] .ret))),none,none⟩
def f151:za:=⟨9,[rt 4],S [m 4 ff] (S [m 5 0,m 6 1,c 7 172 [5,6],gE 8 7 (i 0),m 4 8] .ret),none,none⟩
def f157:za:=⟨9,[rt 4],S [m 4 ff] (S [m 5 0,m 6 1,c 7 175 [5,6],gE 8 7 (i 0),m 4 8] .ret),none,none⟩
def f159:za:=⟨9,[rt 4],S [m 4 ff] (S [m 5 0,m 6 1,c 7 176 [5,6],gE 8 7 (i 0),m 4 8] .ret),none,none⟩
def f162:za:=⟨33,[rt 6],S [o 3 0,o 4 1,m 6 (i 0)] (Q (S [m 8 2,eq 9 8 (i 0)] (I 9 (S [f 10 1 4,l 11 10,m 6 11] .ret))) (S [f 12 2 3,l 13 12,f 14 0 4,l 15 14,x 16 3 13 15,n 17 3 16,a 7 [vS,vS,vS],s 3 7 17] (S [f 18 2 4,l 19 18,f 20 2 4,l 21 20,e 22 21,f 23 1 7,l 24 23,e 25 24,su 26 22 25,m 27 2,ad 28 26 27,su 29 28 (i 1),x 30 2 19 29,f 31 1 30,l 32 31,m 6 32] .ret))),none,none⟩
def f172:za:=⟨19,[rt 4],S [m 4 (i 0)] (Q (S [m 6 0,e 7 6,m 8 (i 0)] (L 0 (S [lt 9 8 7] (Q (Z 9 0) (Q (.block 2 (S [m 10 8,m 5 10] (S [m 11 1,m 12 0,m 13 5,x 14 1 12 13,l 15 14,oo 16 (.call 11 [15])] (I 16 (S [m 17 5,m 4 17] .ret))))) (O [ad 18 8 (i 1),m 8 18])))))) (S [m 4 (i (-1))] .ret)),none,none⟩
def f175:za:=⟨19,[rt 4],S [m 4 (i 0)] (Q (S [m 6 0,e 7 6,m 8 (i 0)] (L 0 (S [lt 9 8 7] (Q (Z 9 0) (Q (.block 2 (S [m 10 8,m 5 10] (S [m 11 1,m 12 0,m 13 5,x 14 2 12 13,n 15 2 14,oo 16 (.call 11 [15])] (I 16 (S [m 17 5,m 4 17] .ret))))) (O [ad 18 8 (i 1),m 8 18])))))) (S [m 4 (i (-1))] .ret)),none,none⟩
def f176:za:=⟨19,[rt 4],S [m 4 (i 0)] (Q (S [m 6 0,e 7 6,m 8 (i 0)] (L 0 (S [lt 9 8 7] (Q (Z 9 0) (Q (.block 2 (S [m 10 8,m 5 10] (S [m 11 1,m 12 0,m 13 5,x 14 4 12 13,n 15 4 14,oo 16 (.call 11 [15])] (I 16 (S [m 17 5,m 4 17] .ret))))) (O [ad 18 8 (i 1),m 8 18])))))) (S [m 4 (i (-1))] .ret)),none,none⟩
def f184:za:=⟨16,[rt 6],S [o 4 1,m 6 (i 0)] (Q (S [m 7 2,eq 8 7 (i 0)] (I 8 (S [f 9 1 4,l 10 9,m 6 10] .ret))) (S [m 11 0,n 12 3 4,m 13 2,su 14 13 (i 1),c 15 205 [11,12,ff,14],m 6 15] .ret)),none,none⟩
def f186:za:=⟨4,[rc (some 2) 2],S [o 1 0,a 2 [0,vF]] (S [n 3 2 1,s 2 2 3] .ret),none,none⟩
def f191:za:=⟨13,[rc (some 4) 2],S [o 1 0,a 2 [0,0,0,vS]] (Q (.draw [f 9 3 1,l 10 9,c 11 192 [10],f 3 0 1,l 4 3,f 5 1 1,l 6 5,f 7 2 1,l 8 7,lo 1 (B 12 [0,0,0,vS] [(0,1,4),(1,1,6),(2,1,8),(3,1,11)]),lo 1 (s 4 2 12)]) .ret),none,none⟩
def f192:za:=⟨5,[rt 2],S [m 2 cS] (S [m 3 0,c 4 208 [3,.c (vC 209)],m 2 4] .ret),none,none⟩
def f208:za:=⟨22,[rt 4],S [m 4 cS] (S [m 5 cS] (Q (S [m 8 0,e 9 8,m 10 (i 0)] (L 0 (S [lt 11 10 9] (Q (Z 11 0) (Q (.block 2 (S [x 12 1 8 10,n 13 1 12,a 7 [vS],s 1 7 13] (O [m 14 5,m 15 1,n 16 1 7,oo 17 (.call 15 [16]),oo 18 (.buildSlice 1 1 [vS] [(0,17)]),A 19 1 24 14 18,m 5 19]))) (O [ad 20 10 (i 1),m 10 20])))))) (S [m 21 5,m 4 21] .ret))),none,none⟩
def f37:za:=⟨54,[rt 2],S [o 1 0,m 2 ff] (Q (S [f 6 0 1,l 7 6,e 8 7,lt 9 8 (i 1),m 10 9,g 10 Bf (f 11 0 1),g 10 Bf (l 12 11),g 10 Bf (e 13 12),g 10 Bf (gt 14 13 (i 24)),P 15 10 tt 14,m 16 15,g 16 Bf (f 17 1 1),g 16 Bf (l 18 17),g 16 Bf (e 19 18),g 16 Bf (gt 20 19 (i 60)),P 21 16 tt 20,m 22 21,g 22 Bf (f 23 2 1),g 22 Bf (l 24 23),g 22 Bf (e 25 24),g 22 Bf (gt 26 25 (i 40)),P 27 22 tt 26] (I 27 (S [m 2 ff] .ret))) (Q (S [f 28 0 1,l 29 28,c 30 84 [29],N 31 30,m 32 31,g 32 Bf (f 33 0 1),g 32 Bf (l 34 33),g 32 Bf (c 35 85 [34,.c (vC 86)]),g 32 Bf (N 36 35),P 37 32 tt 36] (I 37 (S [m 2 ff] .ret))) (Q (S [f 38 1 1,l 39 38,c 40 87 [39,.c (vC 88)],c 41 84 [40],N 42 41] (I 42 (S [m 2 ff] .ret))) (S [m 3 (.c (vC 89))] (S [a 4 [0],s 1 4 (i (-1))] (S [oo 43 (.makeFunc (.func 92) [] [4,1]),m 5 43] (S [f 44 1 1,l 45 44,m 46 3,c 47 95 [45,46],m 48 47,g 48 Bt (f 49 2 1),g 48 Bt (l 50 49),g 48 Bt (m 51 5),g 48 Bt (c 52 96 [50,51]),P 53 48 52 ff,m 2 53] .ret))))))),none,none⟩
def f72:za:=⟨6,[rt 2],S [m 2 cS] (S [m 3 0,B 4 [0,0,vS] [(0,1,i 1),(1,1,3)],oo 5 (.buildSlice 1 3 [0,0,vS] [(0,4)]),m 2 5] .ret),none,none⟩
def f86:za:=⟨5,[rt 2],S [m 2 ff] (S [m 3 0,c 4 76 [3,i 24],m 2 4] .ret),none,none⟩
def f87:za:=⟨22,[rt 4],S [m 4 cS] (S [m 5 cS] (Q (S [m 8 0,e 9 8,m 10 (i 0)] (L 0 (S [lt 11 10 9] (Q (Z 11 0) (Q (.block 2 (S [x 12 2 8 10,n 13 2 12,a 7 [0,vS],s 2 7 13] (O [m 14 5,m 15 1,n 16 2 7,oo 17 (.call 15 [16]),oo 18 (.buildSlice 1 1 [0] [(0,17)]),A 19 1 8 14 18,m 5 19]))) (O [ad 20 10 (i 1),m 10 20])))))) (S [m 21 5,m 4 21] .ret))),none,none⟩
def f123:za:=⟨131,[],S [o 5 1] (S [m 8 cS] (Q (S [m 9 (i 0)] (L 0 (Q (S [m 13 9,f 14 2 5,l 15 14,e 16 15,lt 17 13 16] (Z 17 0)) (Q (.block 2 (O [m 20 8,f 21 2 5,l 22 21,m 23 9,x 24 3 22 23,n 25 3 24,m 26 3,c 27 126 [25,26],oo 28 (.buildSlice 1 2 [0,0] [(0,27)]),A 29 2 16 20 28,m 8 29])) (O [m 18 9,ad 19 18 (i 1),m 9 19]))))) (S [m 30 3,f 31 1 5,l 32 31,x 33 2 30 32,n 34 2 33,a 10 [0,0],s 2 10 34] (Q (S [f 35 0 10,l 36 35,eq 37 36 (i 2)] (I 37 (Q (.draw [m 39 0,k 40 39,f 41 8 40,l 42 41,m 43 2,f 44 1 10,l 45 44,m 46 8,B 47 [0,0,0,0,vS] [(0,1,i 5),(1,1,43),(2,1,45),(4,1,46)],oo 48 (.buildSlice 1 5 [0,0,0,0,vS] [(0,47)]),A 49 5 56 42 48,m 38 0,lo 1 (k 50 38),lo 1 (f 51 8 50),lo 1 (s 1 51 49)]) .ret))) (Q (S [f 52 0 10,l 53 52,ne 54 53 (i 3)] (I 54 .ret)) (Q (.draw [m 55 0,k 56 55,f 57 4 56,f 58 2 57,l 59 58,f 60 1 10,l 61 60,x 62 4 59 61,n 63 4 62,a 11 [0,0,0,vS],s 4 11 63]) (Q (.draw [m 64 0,k 65 64,f 66 4 65,f 67 1 66,l 68 67,f 69 0 11,l 70 69,x 71 3 68 70,n 72 3 71,a 12 [0,0,vS],s 3 12 72]) (Q (Q (.draw [m 73 0,k 74 73,f 75 4 74,f 76 0 75,l 77 76,f 78 2 11,l 79 78,x 80 2 77 79,f 81 1 80,l 82 81,m 83 82,g 83 Bf (m 84 0),g 83 Bf (k 85 84),g 83 Bf (f 86 0 85),g 83 Bf (f 87 2 86),g 83 Bf (l 88 87),g 83 Bf (f 89 0 12),g 83 Bf (l 90 89),g 83 Bf (x 91 3 88 90),g 83 Bf (f 92 0 91),g 83 Bf (l 93 92),g 83 Bf (f 94 1 11),g 83 Bf (l 95 94),g 83 Bf (x 96 2 93 95),g 83 Bf (f 97 1 96),g 83 Bf (l 98 97),g 83 Bf (m 99 8),g 83 Bf (e 100 99),g 83 Bf (ne 101 98 100),P 102 83 tt 101]) (I 102 .ret)) (Q (.draw [f 110 3 11,l 111 110,m 112 8,B 113 [vS] [(0,1,112)],oo 114 (.buildSlice 1 1 [vS] [(0,113)]),A 115 1 24 111 114,m 103 0,k 104 103,f 105 4 104,f 106 2 105,l 107 106,f 108 1 10,l 109 108,lo 1 (x 116 4 107 109),lo 1 (f 117 3 116),lo 1 (s 1 117 115)]) (O [m 118 0,m 119 0,k 120 119,f 121 10 120,l 122 121,m 123 122,g 123 Bf (f 124 3 11),g 123 Bf (l 125 124),g 123 Bf (e 126 125),g 123 Bf (gE 127 126 (i 12)),P 128 123 tt 127,k 129 118,f 130 10 129,s 1 130 128])))))))))),none,none⟩
def f127:za:=⟨6,[rt 2],S [m 2 cS] (S [oo 3 (.buildSlice 0 2 [0,0] []),m 4 0,A 5 2 16 3 4,m 2 5] .ret),none,none⟩
def f130:za:=⟨47,[],S [m 5 0,e 6 5,gt 7 6 (i 0),m 8 7,g 8 Bt (m 9 0),g 8 Bt (x 10 2 9 (i 0)),g 8 Bt (f 11 0 10),g 8 Bt (l 12 11),g 8 Bt (eq 13 12 (i (-1))),P 14 8 13 ff,c 15 131 [14]] (S [m 16 0,e 17 16,m 18 (i 0)] (L 0 (S [lt 19 18 17] (Q (Z 19 0) (Q (.block 2 (S [m 20 18,m 2 20] (S [m 21 2,m 3 21] (S [m 4 (i 0)] (L 4 (Q (S [m 22 3,ne 23 22 (i 0)] (Z 23 4)) (Q (.block 6 (S [m 26 0,m 27 3,x 28 2 26 27,f 29 0 28,l 30 29,m 3 30] (O [m 31 3,gE 32 31 (i 0),m 33 32,g 33 Bt (m 34 3),g 33 Bt (m 35 0),g 33 Bt (e 36 35),g 33 Bt (lt 37 34 36),P 38 33 37 ff,m 39 38,g 39 Bt (m 40 4),g 39 Bt (m 41 0),g 39 Bt (e 42 41),g 39 Bt (lt 43 40 42),P 44 39 43 ff,c 45 131 [44]]))) (O [m 24 4,ad 25 24 (i 1),m 4 25])))))))) (O [ad 46 18 (i 1),m 18 46])))))),none,none⟩
def f146:za:=⟨8,[rt 2,rt 3],S [o 1 0,m 2 cS,m 3 (i 0)] (S [n 4 4 1,c 5 169 [4,.c (vC 170)],X 6 5 0,X 7 5 1,m 2 6,m 3 7] .ret),none,none⟩
def f169:za:=⟨11,[rt 4,rt 5],S [o 2 0,o 3 1,m 4 cS,m 5 (i 0)] (S [n 6 4 2,oo 7 (.makeFunc (.func 196) [] [2,3]),c 8 195 [6,7],X 9 8 0,X 10 8 1,m 4 9,m 5 10] .ret),none,none⟩
def f194:za:=⟨11,[rc (some 3) 2],S [o 1 0,a 2 [0,0,vS]] (Q (.draw [f 7 2 1,l 8 7,c 9 189 [8],f 3 0 1,l 4 3,f 5 1 1,l 6 5,lo 1 (B 10 [0,0,vS] [(0,1,4),(1,1,6),(2,1,9)]),lo 1 (s 3 2 10)]) .ret),none,none⟩
def f195:za:=⟨10,[rt 4,rc none 5],S [o 2 0,m 4 cS,a 5 [0]] (O []),(some ⟨.c (vC 210),[5],[],S [] (S [m 6 1,n 7 4 2,c 8 211 [7],oo 9 (.call 6 [8]),m 4 9,s 1 5 (i 0)] .ret)⟩),none⟩
def f211:za:=⟨87,[rt 2],S [o 1 0,m 2 cP] (S [f 6 0 1,l 7 6,e 8 7,lE 9 8 (i 12),m 10 9,g 10 Bt (f 11 1 1),g 10 Bt (l 12 11),g 10 Bt (e 13 12),g 10 Bt (lE 14 13 (i 60)),P 15 10 14 ff,m 16 15,g 16 Bt (f 17 2 1),g 16 Bt (l 18 17),g 16 Bt (e 19 18),g 16 Bt (lE 20 19 (i 12)),P 21 16 20 ff,c 22 212 [21]] (Q (S [f 23 0 1,l 24 23,e 25 24,m 26 (i 0)] (L 0 (S [lt 27 26 25] (Q (Z 27 0) (Q (.block 2 (S [m 28 26,x 29 1 24 26,l 30 29,m 3 28,m 4 30] (O [m 31 4,c 32 213 [31],m 33 32,g 33 Bt (m 34 3),g 33 Bt (eq 35 34 (i 0)),g 33 Bt (m 36 35),g 36 Bf (f 37 0 1),g 36 Bf (l 38 37),g 36 Bf (m 39 3),g 36 Bf (su 40 39 (i 1)),g 36 Bf (x 41 1 38 40),g 36 Bf (l 42 41),g 36 Bf (m 43 4),g 36 Bf (lt 44 42 43),g 33 Bt (P 45 36 tt 44),P 46 33 45 ff,c 47 212 [46]]))) (O [ad 48 26 (i 1),m 26 48])))))) (Q (.draw [n 49 4 1,f 50 1 1,l 51 50,e 52 51,oo 53 (.makeSlice 1 8 [0] 52 52),f 54 1 1,l 55 54,e 56 55,oo 57 (.makeSlice 1 1 [vF] 56 56),f 58 2 1,l 59 58,e 60 59,oo 61 (.makeSlice 1 1 [vF] 60 60),B 62 [vS,vS,vS,0,vS,vS,vS] [(0,4,49),(4,1,53),(5,1,57),(6,1,61)],o 63 62,m 5 63]) (S [m 64 5,f 65 3 1,l 66 65,f 67 0 1,l 68 67,e 69 68,c 70 214 [64,66,69]] (S [m 71 5,k 72 71,f 73 5 72,l 74 73,c 75 215 [74,ff],N 76 75,m 77 76,g 77 Bt (m 78 5),g 77 Bt (k 79 78),g 77 Bt (f 80 6 79),g 77 Bt (l 81 80),g 77 Bt (c 82 215 [81,ff]),g 77 Bt (N 83 82),P 84 77 83 ff,c 85 212 [84]] (S [m 86 5,m 2 86] .ret)))))),none,none⟩
def f213:za:=⟨34,[rt 2],S [m 2 ff] (Q (S [m 4 0,oo 5 (.blt .lenStr [4]),m 6 (i 0)] (L 0 (S [lt 7 6 5] (Q (Z 7 0) (Q (.block 2 (S [m 8 6,m 3 8] (S [m 9 0,m 10 3,oo 11 (.strIdx 9 10),lt 12 11 (.c (.int .u8 97)),m 13 12,g 13 Bf (m 14 0),g 13 Bf (m 15 3),g 13 Bf (oo 16 (.strIdx 14 15)),g 13 Bf (gt 17 16 (.c (.int .u8 122))),P 18 13 tt 17] (I 18 (S [m 2 ff] .ret))))) (O [ad 19 6 (i 1),m 6 19])))))) (S [m 20 0,oo 21 (.blt .lenStr [20]),gt 22 21 (i 0),m 23 22,g 23 Bt (m 24 0),g 23 Bt (oo 25 (.blt .lenStr [24])),g 23 Bt (lE 26 25 (i 8)),P 27 23 26 ff,m 28 27,g 28 Bt (c 29 216 []),g 28 Bt (m 30 0),g 28 Bt (oo 31 (.lookup .str vF false 29 30)),g 28 Bt (N 32 31),P 33 28 32 ff,m 2 33] .ret)),none,none⟩
def f216:za:=⟨3,[rt 0],S [m 0 (.c vM)] (S [oo 1 (.makeMap),on (.mapUpdate .str 1 (.c (.string ⟨#[97,110,100]⟩)) tt),on (.mapUpdate .str 1 (.c (.string ⟨#[100,101,102]⟩)) tt),on (.mapUpdate .str 1 (.c (.string ⟨#[101,108,115,101]⟩)) tt),on (.mapUpdate .str 1 (.c (.string ⟨#[103,111]⟩)) tt),on (.mapUpdate .str 1 (.c (.string ⟨#[105,102]⟩)) tt),on (.mapUpdate .str 1 (.c (.string ⟨#[105,110]⟩)) tt),on (.mapUpdate .str 1 (.c (.string ⟨#[112,108,97,99,101]⟩)) tt),on (.mapUpdate .str 1 (.c (.string ⟨#[115,116,111,112]⟩)) tt),on (.mapUpdate .str 1 (.c (.string ⟨#[116,104,101,110]⟩)) tt),on (.mapUpdate .str 1 (.c (.string ⟨#[119,97,116,99,104]⟩)) tt),m 2 1,m 0 2] .ret),none,none⟩
def f219:za:=⟨142,[],S [o 1 0] (S [f 12 0 1,l 13 12,e 14 13,lE 15 14 (i 30),m 16 15,g 16 Bt (f 17 1 1),g 16 Bt (l 18 17),g 16 Bt (e 19 18),g 16 Bt (lE 20 19 (i 30)),P 21 16 20 ff,m 22 21,g 22 Bt (f 23 2 1),g 22 Bt (l 24 23),g 22 Bt (e 25 24),g 22 Bt (lE 26 25 (i 30)),P 27 22 26 ff,c 28 212 [27]] (S [oo 29 (.makeFunc (.func 224) [] [1]),m 2 29] (Q (S [f 30 0 1,l 31 30,e 32 31,m 33 (i 0)] (L 0 (S [lt 34 33 32] (Q (Z 34 0) (Q (.block 2 (S [x 35 2 31 33,n 36 2 35,a 4 [0,0],s 2 4 36] (S [m 37 2,f 38 0 4,l 39 38,oo 40 (.call 37 [39])] (O [f 41 1 4,l 42 41,gE 43 42 (i 0),m 44 43,g 44 Bt (f 45 1 4),g 44 Bt (l 46 45),g 44 Bt (lE 47 46 (i 3)),P 48 44 47 ff,c 49 212 [48]])))) (O [ad 50 33 (i 1),m 33 50])))))) (Q (S [f 51 1 1,l 52 51,e 53 52,m 54 (i 0)] (L 4 (S [lt 55 54 53] (Q (Z 55 4) (Q (.block 6 (S [m 56 54,x 57 2 52 54,n 58 2 57,a 6 [0,0],m 5 56,s 2 6 58] (O [f 59 0 6,l 60 59,gE 61 60 (i 0),m 62 61,g 62 Bt (f 63 0 6),g 62 Bt (l 64 63),g 62 Bt (m 65 5),g 62 Bt (lE 66 64 65),P 67 62 66 ff,c 68 212 [67]]))) (O [ad 69 54 (i 1),m 54 69])))))) (S [oo 70 (.makeMap),m 7 70] (Q (S [f 71 2 1,l 72 71,e 73 72,m 74 (i 0)] (L 8 (S [lt 75 74 73] (Q (Z 75 8) (Q (.block 10 (S [x 76 3 72 74,n 77 3 76,a 9 [0,vS,0],s 3 9 77] (S [m 78 2,f 79 0 9,l 80 79,oo 81 (.call 78 [80])] (S [f 82 1 9,l 83 82,e 84 83,gt 85 84 (i 0),m 86 85,g 86 Bt (f 87 1 9),g 86 Bt (l 88 87),g 86 Bt (e 89 88),g 86 Bt (lE 90 89 (i 3)),P 91 86 90 ff,c 92 212 [91]] (S [f 93 1 9,l 94 93,e 95 94,m 96 (i 0)] (L 12 (S [lt 97 96 95] (Q (Z 97 12) (Q (.block 14 (S [m 98 96,x 99 1 94 96,l 100 99,m 10 98,m 11 100] (Q (.draw [m 101 11,gE 102 101 (i 0),m 103 102,g 103 Bt (m 104 11),g 103 Bt (f 105 0 1),g 103 Bt (l 106 105),g 103 Bt (e 107 106),g 103 Bt (lt 108 104 107),P 109 103 108 ff,m 110 109,g 110 Bt (f 111 0 1),g 110 Bt (l 112 111),g 110 Bt (m 113 11),g 110 Bt (x 114 2 112 113),g 110 Bt (f 115 0 114),g 110 Bt (l 116 115),g 110 Bt (f 117 0 9),g 110 Bt (l 118 117),g 110 Bt (eq 119 116 118),P 120 110 119 ff,m 121 120,g 121 Bt (f 122 1 9),g 121 Bt (l 123 122),g 121 Bt (m 124 10),g 121 Bt (oo 125 (.slice 1 123 none (some 124))),g 121 Bt (m 126 11),g 121 Bt (c 127 79 [125,126]),lo 1 (g 121 Bt (N 128 127)),lo 1 (P 129 121 128 ff),lo 1 (c 130 212 [129])]) (O [m 131 7,m 132 11,on (.mapUpdate .int 131 132 tt)])))) (O [ad 133 96 (i 1),m 96 133])))))))))) (O [ad 134 74 (i 1),m 74 134])))))) (O [m 135 7,oo 136 (.blt .lenMap [135]),f 137 0 1,l 138 137,e 139 138,eq 140 136 139,c 141 212 [140]]))))))),none,none⟩
def f220:za:=⟨10,[rt 2],S [o 1 0,m 2 (i 0)] (S [f 3 0 1,l 4 3,e 5 4,f 6 1 1,l 7 6,e 8 7,ad 9 5 8,m 2 9] .ret),none,none⟩
def f221:za:=⟨25,[rt 4],S [o 2 0,o 3 1,m 4 (i 0)] (S [m 5 (i 0)] (Q (S [f 8 1 3,l 9 8,e 10 9,m 11 (i 0)] (L 0 (S [lt 12 11 10] (Q (Z 12 0) (Q (.block 2 (S [x 13 1 9 11,l 14 13,m 7 14] (O [m 15 5,f 16 0 2,l 17 16,m 18 7,x 19 2 17 18,f 20 1 19,l 21 20,ad 22 15 21,m 5 22]))) (O [ad 23 11 (i 1),m 11 23])))))) (S [m 24 5,m 4 24] .ret))),none,none⟩
def f242:za:=⟨3,[rt 2],S [o 1 0,m 2 (i 0)] (S [m 2 (i 1)] .ret),none,none⟩
def f243:za:=⟨3,[rt 2],S [o 1 0,m 2 (i 0)] (S [m 2 (i 1)] .ret),none,none⟩
def f35:za:=⟨5,[rc (some 2) 0],S [a 0 [0,vS]] (S [c 1 36 [i 1,i 1],c 2 36 [i 3,i 0],oo 3 (.buildSlice 2 2 [0,0] [(0,1),(1,2)]),B 4 [0,vS] [(1,1,3)],s 2 0 4] .ret),none,none⟩
def f38:za:=⟨97,[rt 2],S [o 1 0,m 2 (.c (.string ⟨#[]⟩))] (S [c 12 97 [],m 3 12] (S [m 13 3,f 14 0 1,l 15 14,e 16 15,c 17 98 [13,16]] (Q (S [f 18 0 1,l 19 18,e 20 19,m 21 (i 0)] (L 0 (S [lt 22 21 20] (Q (Z 22 0) (Q (.block 2 (S [x 23 1 19 21,l 24 23,m 5 24] (O [m 25 3,m 26 5,c 27 99 [25,26]]))) (O [ad 28 21 (i 1),m 21 28])))))) (S [m 29 3,f 30 1 1,l 31 30,e 32 31,c 33 98 [29,32]] (Q (S [f 34 1 1,l 35 34,e 36 35,m 37 (i 0)] (L 4 (S [lt 38 37 36] (Q (Z 38 4) (Q (.block 6 (S [x 39 2 35 37,n 40 2 39,a 7 [0,vS],s 2 7 40] (S [m 41 3,f 42 0 7,l 43 42,c 44 100 [41,43]] (S [m 45 3,f 46 1 7,l 47 46,e 48 47,c 49 98 [45,48]] (S [f 50 1 7,l 51 50,e 52 51,m 53 (i 0)] (L 8 (S [lt 54 53 52] (Q (Z 54 8) (Q (.block 10 (S [x 55 1 51 53,n 56 1 55,a 9 [vS],s 1 9 56] (O [m 57 3,f 58 0 9,l 59 58,c 60 101 [57,59]]))) (O [ad 61 53 (i 1),m 53 61])))))))))) (O [ad 62 37 (i 1),m 37 62])))))) (S [m 63 3,f 64 2 1,l 65 64,e 66 65,c 67 98 [63,66]] (Q (S [f 68 2 1,l 69 68,e 70 69,m 71 (i 0)] (L 12 (S [lt 72 71 70] (Q (Z 72 12) (Q (.block 14 (S [x 73 4 69 71,n 74 4 73,a 11 [0,0,0,vS],s 4 11 74] (S [m 75 3,f 76 0 11,l 77 76,c 78 98 [75,77]] (S [m 79 3,f 80 1 11,f 81 0 80,l 82 81,c 83 99 [79,82]] (S [m 84 3,f 85 1 11,f 86 1 85,l 87 86,c 88 98 [84,87]] (O [m 89 3,f 90 1 11,f 91 2 90,l 92 91,c 93 101 [89,92]])))))) (O [ad 94 71 (i 1),m 71 94])))))) (S [m 95 3,c 96 102 [95,.c (.int .u8 80)],m 2 96] .ret)))))))),none,none⟩
def f48:za:=⟨29,[rt 4],S [m 4 ff] (Q (S [m 6 0,e 7 6,m 8 1,e 9 8,ne 10 7 9] (I 10 (S [m 4 ff] .ret))) (Q (S [m 5 (i 0)] (L 0 (Q (S [m 11 5,m 12 0,e 13 12,lt 14 11 13] (Z 14 0)) (Q (.block 2 (Q (.draw [m 17 0,m 18 5,x 19 1 17 18,f 20 0 19,l 21 20,m 22 1,m 23 5,x 24 1 22 23,f 25 0 24,l 26 25,c 27 26 [21,26],lo 1 (N 28 27)]) (I 28 (S [m 4 ff] .ret)))) (O [m 15 5,ad 16 15 (i 1),m 5 16]))))) (S [m 4 tt] .ret))),none,none⟩
def f59:za:=⟨40,[rt 2,rt 3,rt 4],S [m 2 cS,m 3 (.c (.string ⟨#[]⟩)),m 4 (i 0)] (Q (S [m 10 0,oo 11 (.blt .lenStr [10]),gt 12 11 (i 80000)] (I 12 (S [m 2 cS,m 3 (.c (.string ⟨#[]⟩)),m 4 (i 3)] .ret))) (Q (S [m 14 0,c 15 13 [14],m 13 15,X 16 13 0,X 17 13 1,a 5 [vS,vS,vS],s 3 5 16,m 6 17] (S [m 18 6,ne 19 18 (i 0)] (I 19 (S [m 21 0,c 22 19 [21],m 20 22,X 23 20 0,X 24 20 1,a 7 [0,vS],s 2 7 23,m 8 24] (S [m 25 8,ne 26 25 (i 0)] (I 26 (S [m 2 cS,m 3 (.c (.string ⟨#[]⟩)),m 4 (i 4)] .ret))))))) (S [m 27 0,m 28 0,oo 29 (.strIdx 28 (i 0)),c 30 43 [27,29],m 9 30] (Q (.draw [m 31 9,k 32 31,f 33 0 32,f 34 0 33,l 35 34,m 36 9,k 37 36,f 38 2 37,l 39 38,m 2 35,m 3 39,m 4 (i 0)]) .ret)))),none,none⟩
def f75:za:=⟨8,[rc none 4],S [o 2 0,o 3 1,a 4 [0]] (O []),(some ⟨.c (vC 128),[4],[],S [] (S [n 5 4 2,n 6 4 3,c 7 129 [5,6]] (S [s 1 4 (i 0)] .ret))⟩),none⟩
def f78:za:=⟨16,[rc (some 4) 2],S [o 1 0,a 2 [vS,vS,vS,vS]] (Q (.draw [f 3 0 1,l 4 3,c 5 133 [4],f 6 1 1,l 7 6,lo 1 (c 8 134 [7,.c (vC 135)]),f 9 2 1,l 10 9,lo 2 (c 11 137 [10,.c (vC 138)]),f 12 3 1,l 13 12,lo 3 (c 14 139 [13,.c (vC 81)]),lo 4 (B 15 [vS,vS,vS,vS] [(0,1,5),(1,1,8),(2,1,11),(3,1,14)]),lo 4 (s 4 2 15)]) .ret),none,none⟩
def f126:za:=⟨66,[rc (some 2) 4],S [o 2 0,a 4 [0,0]] (Q (S [f 8 0 2,l 9 8] (.block 0 (S [eq 11 9 (i 1),m 10 11] (C 10 (S [f 12 1 2,l 13 12,B 14 [0,0] [(0,1,i 1),(1,1,13)],s 2 4 14] .ret) (S [eq 16 9 (i 2),m 15 16] (I 15 (S [m 17 1,f 18 1 2,l 19 18,x 20 2 17 19,n 21 2 20,s 2 4 21] .ret))))))) (Q (.draw [f 22 2 2,l 23 22,x 24 3 23 (i 0),n 25 3 24,m 26 1,c 27 126 [25,26],lo 1 (c 28 125 [27]),f 29 2 2,l 30 29,x 31 3 30 (i 1),n 32 3 31,m 33 1,lo 2 (c 34 126 [32,33]),lo 3 (c 35 125 [34]),lo 4 (m 5 28),lo 4 (m 6 35)]) (S [m 7 (i 0)] (Q (S [f 36 0 2,l 37 36] (.block 2 (S [eq 39 37 (i 3),m 38 39] (C 38 (O [m 40 5,m 41 6,ad 42 40 41,m 7 42]) (S [eq 44 37 (i 4),m 43 44] (C 43 (O [m 45 5,m 46 6,su 47 45 46,m 7 47]) (S [eq 49 37 (i 5),m 48 49] (C 48 (O [m 50 5,m 51 6,mu 52 50 51,m 7 52]) (S [eq 54 37 (i 6),m 53 54] (C 53 (S [m 55 5,m 56 6,lt 57 55 56] (I 57 (O [m 7 (i 1)]))) (S [eq 59 37 (i 7),m 58 59] (I 58 (S [m 60 5,m 61 6,eq 62 60 61] (I 62 (O [m 7 (i 1)]))))))))))))))) (S [m 63 7,c 64 163 [63],B 65 [0,0] [(0,1,i 1),(1,1,64)],s 2 4 65] .ret))))),none,none⟩
def f129:za:=⟨20,[rt 4],S [o 2 0,o 3 1,m 4 cP] (S [n 6 4 2,c 7 164 [6],m 5 7] (S [m 8 5,n 9 4 3,k 10 8,f 11 0 10,s 4 11 9] (S [m 12 5,c 13 165 [12]] (S [m 14 5,n 15 4 3,c 16 166 [15],k 17 14,f 18 0 17,s 4 18 16] (S [m 19 5,m 4 19] .ret))))),none,none⟩
def f132:za:=⟨22,[rt 6],S [m 6 ff] (Q (L 0 (Q (S [m 7 1,m 8 2,ne 9 7 8,m 10 9,g 10 Bt (m 11 1),g 10 Bt (gE 12 11 (i 0)),P 13 10 12 ff] (Z 13 0)) (.block 2 (O [m 14 0,m 15 1,x 16 2 14 15,f 17 0 16,l 18 17,m 1 18])))) (S [m 19 1,m 20 2,eq 21 19 20,m 6 21] .ret)),none,none⟩
def f133:za:=⟨8,[rt 2],S [m 2 cS] (Q (S [m 3 0,oo 4 (.bin .eql .slice 3 cS)] (I 4 (S [m 2 cS] .ret))) (S [oo 5 (.buildSlice 0 2 [0,vF] []),m 6 0,A 7 2 16 5 6,m 2 7] .ret)),none,none⟩
def f134:za:=⟨22,[rt 4],S [m 4 cS] (S [m 5 cS] (Q (S [m 8 0,e 9 8,m 10 (i 0)] (L 0 (S [lt 11 10 9] (Q (Z 11 0) (Q (.block 2 (S [x 12 3 8 10,n 13 3 12,a 7 [0,0,vS],s 3 7 13] (O [m 14 5,m 15 1,n 16 3 7,oo 17 (.call 15 [16]),oo 18 (.buildSlice 1 3 [0,0,vS] [(0,17)]),A 19 3 40 14 18,m 5 19]))) (O [ad 20 10 (i 1),m 10 20])))))) (S [m 21 5,m 4 21] .ret))),none,none⟩
def f135:za:=⟨11,[rc (some 3) 2],S [o 1 0,a 2 [0,0,vS]] (Q (.draw [f 7 2 1,l 8 7,c 9 136 [8],f 3 0 1,l 4 3,f 5 1 1,l 6 5,lo 1 (B 10 [0,0,vS] [(0,1,4),(1,1,6),(2,1,9)]),lo 1 (s 3 2 10)]) .ret),none,none⟩
def f137:za:=⟨22,[rt 4],S [m 4 cS] (S [m 5 cS] (Q (S [m 8 0,e 9 8,m 10 (i 0)] (L 0 (S [lt 11 10 9] (Q (Z 11 0) (Q (.block 2 (S [x 12 4 8 10,n 13 4 12,a 7 [0,0,0,vS],s 4 7 13] (O [m 14 5,m 15 1,n 16 4 7,oo 17 (.call 15 [16]),oo 18 (.buildSlice 1 4 [0,0,0,vS] [(0,17)]),A 19 4 48 14 18,m 5 19]))) (O [ad 20 10 (i 1),m 10 20])))))) (S [m 21 5,m 4 21] .ret))),none,none⟩
def f139:za:=⟨22,[rt 4],S [m 4 cS] (S [m 5 cS] (Q (S [m 8 0,e 9 8,m 10 (i 0)] (L 0 (S [lt 11 10 9] (Q (Z 11 0) (Q (.block 2 (S [x 12 3 8 10,n 13 3 12,a 7 [0,0,vS],s 3 7 13] (O [m 14 5,m 15 1,n 16 3 7,oo 17 (.call 15 [16]),oo 18 (.buildSlice 1 3 [0,0,vS] [(0,17)]),A 19 3 40 14 18,m 5 19]))) (O [ad 20 10 (i 1),m 10 20])))))) (S [m 21 5,m 4 21] .ret))),none,none⟩
def f164:za:=⟨55,[rt 2],S [o 1 0,m 2 cP] (S [n 9 4 1,c 10 146 [9],m 8 10,X 11 8 0,X 12 8 1,m 3 11,m 4 12] (S [m 13 4,eq 14 13 (i 0),c 15 131 [14]] (Q (.draw [n 16 4 1,m 17 3,f 18 2 1,l 19 18,e 20 19,oo 21 (.makeSlice 1 8 [0] 20 20),B 22 [vS,vS,vS,vS,vS,vS,vS,0,vS,vS,vM,vS,0] [(4,4,16),(8,1,17),(9,1,21)],o 23 22,m 5 23]) (Q (S [f 24 1 1,l 25 24,e 26 25,m 27 (i 0)] (L 0 (S [lt 28 27 26] (Q (Z 28 0) (Q (.block 2 (S [x 29 4 25 27,n 30 4 29,a 7 [0,0,vS,vS],s 4 7 30] (S [f 31 0 7,l 32 31,eq 33 32 (i 4)] (I 33 (.draw [m 34 5,k 35 34,f 36 9 35,l 37 36,f 38 1 7,l 39 38,m 40 3,f 41 3 7,l 42 41,x 43 1 42 (i 0),l 44 43,x 45 1 40 44,l 46 45,x 47 1 37 39,s 1 47 46]))))) (O [ad 48 27 (i 1),m 27 48])))))) (S [m 49 5,oo 50 (.makeMap),on (.mapUpdate .int 50 (i 2) (.c (vC 177))),on (.mapUpdate .int 50 (i 3) (.c (vC 178))),on (.mapUpdate .int 50 (i 4) (.c (vC 179))),on (.mapUpdate .int 50 (i 5) (.c (vC 180))),on (.mapUpdate .int 50 (i 6) (.c (vC 181))),on (.mapUpdate .int 50 (i 7) (.c (vC 181))),on (.mapUpdate .int 50 (i 8) (.c (vC 181))),m 51 50,k 52 49,f 53 10 52,s 1 53 51] (S [m 54 5,m 2 54] .ret)))))),none,none⟩
def f165:za:=⟨369,[],S [m 19 0,k 20 19,f 21 0 20,f 22 0 21,l 23 22,e 24 23,lE 25 24 (i 24),m 26 25,g 26 Bt (m 27 0),g 26 Bt (k 28 27),g 26 Bt (f 29 0 28),g 26 Bt (f 30 1 29),g 26 Bt (l 31 30),g 26 Bt (e 32 31),g 26 Bt (lE 33 32 (i 40)),P 34 26 33 ff,m 35 34,g 35 Bt (m 36 0),g 35 Bt (k 37 36),g 35 Bt (f 38 0 37),g 35 Bt (f 39 2 38),g 35 Bt (l 40 39),g 35 Bt (e 41 40),g 35 Bt (lE 42 41 (i 60)),P 43 35 42 ff,m 44 43,g 44 Bt (m 45 0),g 44 Bt (k 46 45),g 44 Bt (f 47 0 46),g 44 Bt (f 48 3 47),g 44 Bt (l 49 48),g 44 Bt (e 50 49),g 44 Bt (lE 51 50 (i 40)),P 52 44 51 ff,c 53 131 [52]] (S [m 54 0,k 55 54,f 56 0 55,f 57 0 56,l 58 57,c 59 130 [58]] (Q (S [m 60 0,k 61 60,f 62 0 61,f 63 0 62,l 64 63,oo 65 (.slice 2 64 (some (i 1)) none),e 66 65,m 67 (i 0)] (L 0 (S [lt 68 67 66] (Q (Z 68 0) (Q (.block 2 (S [x 69 2 65 67,n 70 2 69,a 3 [0,vF],s 2 3 70] (.draw [f 71 1 3,l 72 71,m 73 72,g 73 Bf (m 74 0),g 73 Bf (k 75 74),g 73 Bf (f 76 0 75),g 73 Bf (f 77 0 76),g 73 Bf (l 78 77),g 73 Bf (f 79 0 3),g 73 Bf (l 80 79),g 73 Bf (x 81 2 78 80),g 73 Bf (f 82 1 81),g 73 Bf (l 83 82),g 73 Bf (N 84 83),P 85 73 tt 84,c 86 131 [85]]))) (O [ad 87 67 (i 1),m 67 87])))))) (S [m 4 (i 0),m 5 (i 1)] (Q (S [m 88 0,k 89 88,f 90 0 89,f 91 1 90,l 92 91,e 93 92,m 94 (i 0)] (L 4 (S [lt 95 94 93] (Q (Z 95 4) (Q (.block 6 (S [m 96 94,x 97 3 92 94,n 98 3 97,a 7 [0,0,vS],m 6 96,s 3 7 98] (Q (.draw [f 99 0 7,l 100 99,gE 101 100 (i 0),m 102 101,g 102 Bt (f 103 0 7),g 102 Bt (l 104 103),g 102 Bt (m 105 0),g 102 Bt (k 106 105),g 102 Bt (f 107 4 106),g 102 Bt (f 108 2 107),g 102 Bt (l 109 108),g 102 Bt (e 110 109),g 102 Bt (lt 111 104 110),P 112 102 111 ff,c 113 131 [112]]) (S [m 114 0,f 115 1 7,l 116 115,c 117 182 [114,116]] (Q (.draw [m 118 0,f 119 2 7,l 120 119,m 121 0,k 122 121,f 123 9 122,l 124 123,f 125 0 7,l 126 125,x 127 1 124 126,l 128 127,c 129 183 [118,120,128]]) (Q (.draw [m 130 0,k 131 130,f 132 4 131,f 133 2 132,l 134 133,f 135 0 7,l 136 135,x 137 3 134 136,n 138 3 137,a 8 [vS,vS,vS],s 3 8 138]) (S [f 139 2 7,l 140 139,f 141 2 7,l 142 141,e 143 142,f 144 0 8,l 145 144,e 146 145,su 147 143 146,f 148 1 8,l 149 148,e 150 149,su 151 147 150,oo 152 (.slice 2 140 (some 151) none),m 9 152] (Q (S [f 153 0 8,l 154 153,e 155 154,m 156 (i 0)] (L 8 (S [lt 157 156 155] (Q (Z 157 8) (Q (.block 10 (S [m 158 156,m 10 158] (O [m 159 9,m 160 10,x 161 2 159 160,n 162 2 161,m 163 4,m 164 10,ad 165 163 164,B 166 [0,0] [(0,1,i 3),(1,1,165)],oo 167 (.bin .eql (.leaves [0,1]) 162 166),c 168 131 [167]]))) (O [ad 169 156 (i 1),m 156 169])))))) (Q (S [f 170 1 8,l 171 170,e 172 171,m 173 (i 0)] (L 12 (S [lt 174 173 172] (Q (Z 174 12) (Q (.block 14 (S [m 175 173,m 11 175] (O [m 176 9,f 177 0 8,l 178 177,e 179 178,m 180 11,ad 181 179 180,x 182 2 176 181,n 183 2 182,m 184 5,m 185 11,ad 186 184 185,B 187 [0,0] [(0,1,i 4),(1,1,186)],oo 188 (.bin .eql (.leaves [0,1]) 183 187),c 189 131 [188]]))) (O [ad 190 173 (i 1),m 173 190])))))) (Q (S [f 191 0 8,l 192 191,e 193 192,m 194 (i 0)] (L 16 (S [lt 195 194 193] (Q (Z 195 16) (Q (.block 18 (S [m 196 194,x 197 2 192 194,n 198 2 197,a 13 [0,0],m 12 196,s 2 13 198] (S [m 199 0,k 200 199,f 201 0 200,f 202 2 201,l 203 202,m 204 4,m 205 12,ad 206 204 205,x 207 4 203 206,n 208 4 207,a 14 [0,0,0,vS],s 4 14 208] (Q (.draw [f 209 0 14,l 210 209,m 211 6,eq 212 210 211,m 213 212,g 213 Bt (f 214 1 14),g 213 Bt (l 215 214),g 213 Bt (m 216 12),g 213 Bt (eq 217 215 216),P 218 213 217 ff,m 219 218,g 219 Bt (m 222 0),g 219 Bt (n 223 3 7),g 219 Bt (f 224 0 13),g 219 Bt (l 225 224),g 219 Bt (c 226 184 [222,223,225]),g 219 Bt (f 220 2 14),g 219 Bt (l 221 220),lo 1 (g 219 Bt (eq 227 221 226)),lo 1 (P 228 219 227 ff),lo 1 (c 229 131 [228])]) (Q (.draw [f 230 3 14,l 231 230,e 232 231,lE 233 232 (i 12),m 234 233,g 234 Bt (f 235 3 14),g 234 Bt (l 236 235),g 234 Bt (e 237 236),g 234 Bt (eq 238 237 (i 0)),g 234 Bt (m 239 238),g 239 Bf (m 240 0),g 239 Bf (k 241 240),g 239 Bf (f 242 0 241),g 239 Bf (f 243 0 242),g 239 Bf (l 244 243),g 239 Bf (f 245 2 14),g 239 Bf (l 246 245),g 239 Bf (x 247 2 244 246),g 239 Bf (f 248 1 247),g 239 Bf (l 249 248),g 239 Bf (N 250 249),g 234 Bt (P 251 239 tt 250),P 252 234 251 ff,c 253 131 [252]]) (S [f 254 3 14,l 255 254,e 256 255,m 257 (i 0)] (L 20 (S [lt 258 257 256] (Q (Z 258 20) (Q (.block 22 (S [x 259 1 255 257,n 260 1 259,a 16 [vS],s 1 16 260] (O [m 261 0,f 262 0 16,l 263 262,f 264 1 13,l 265 264,c 266 183 [261,263,265]]))) (O [ad 267 257 (i 1),m 257 267]))))))))))) (O [ad 268 194 (i 1),m 194 268])))))) (.draw [m 269 4,f 270 0 8,l 271 270,e 272 271,ad 273 269 272,m 274 5,f 275 1 8,l 276 275,e 277 276,ad 278 274 277,m 4 273,m 5 278]))))))))))) (O [ad 279 94 (i 1),m 94 279])))))) (S [m 280 4,m 281 0,k 282 281,f 283 0 282,f 284 2 283,l 285 284,e 286 285,eq 287 280 286,m 288 287,g 288 Bt (m 289 5),g 288 Bt (m 290 0),g 288 Bt (k 291 290),g 288 Bt (f 292 0 291),g 288 Bt (f 293 0 292),g 288 Bt (l 294 293),g 288 Bt (e 295 294),g 288 Bt (eq 296 289 295),P 297 288 296 ff,c 298 131 [297]] (S [m 299 0,k 300 299,f 301 0 300,f 302 3 301,l 303 302,e 304 303,m 305 (i 0)] (L 24 (S [lt 306 305 304] (Q (Z 306 24) (Q (.block 26 (S [x 307 3 303 305,n 308 3 307,a 18 [0,0,vS],s 3 18 308] (S [m 309 0,f 310 0 18,l 311 310,c 312 182 [309,311]] (Q (.draw [m 313 0,k 314 313,f 315 0 314,f 316 0 315,l 317 316,f 318 0 18,l 319 318,x 320 2 317 319,f 321 1 320,l 322 321,N 323 322,m 324 323,g 324 Bt (f 325 1 18),g 324 Bt (l 326 325),g 324 Bt (gE 327 326 (i 0)),P 328 324 327 ff,m 329 328,g 329 Bt (f 330 1 18),g 329 Bt (l 331 330),g 329 Bt (m 332 0),g 329 Bt (k 333 332),g 329 Bt (f 334 4 333),g 329 Bt (f 335 1 334),g 329 Bt (l 336 335),g 329 Bt (e 337 336),g 329 Bt (lt 338 331 337),P 339 329 338 ff,c 340 131 [339]]) (Q (.draw [m 341 0,k 342 341,f 343 4 342,f 344 1 343,l 345 344,f 346 1 18,l 347 346,x 348 4 345 347,f 349 0 348,l 350 349]) (.block 28 (Q (S [eq 353 350 (i 6),m 352 353] (C 352 .skip (S [eq 354 350 (i 7),m 352 354] (C 352 .skip (O [eq 355 350 (i 8),m 352 355]))))) (C 352 (.draw [m 356 0,f 357 2 18,l 358 357,m 359 0,k 360 359,f 361 8 360,l 362 361,f 363 1 18,l 364 363,x 365 1 362 364,l 366 365,c 367 183 [356,358,366]]) (O [c 351 167 [i 2]]))))))))) (O [ad 368 305 (i 1),m 305 368]))))))))))),none,none⟩
def f166:za:=⟨16,[rc (some 4) 2],S [o 1 0,a 2 [vS,vS,vS,vS]] (Q (.draw [f 3 0 1,l 4 3,c 5 185 [4,.c (vC 186)],f 6 1 1,l 7 6,lo 1 (c 8 187 [7,.c (vC 188)]),f 9 2 1,l 10 9,lo 2 (c 11 190 [10,.c (vC 191)]),f 12 3 1,l 13 12,lo 3 (c 14 193 [13,.c (vC 194)]),lo 4 (B 15 [vS,vS,vS,vS] [(0,1,5),(1,1,8),(2,1,11),(3,1,14)]),lo 4 (s 4 2 15)]) .ret),none,none⟩
def f185:za:=⟨22,[rt 4],S [m 4 cS] (S [m 5 cS] (Q (S [m 8 0,e 9 8,m 10 (i 0)] (L 0 (S [lt 11 10 9] (Q (Z 11 0) (Q (.block 2 (S [x 12 2 8 10,n 13 2 12,a 7 [0,vF],s 2 7 13] (O [m 14 5,m 15 1,n 16 2 7,oo 17 (.call 15 [16]),oo 18 (.buildSlice 1 2 [0,vF] [(0,17)]),A 19 2 16 14 18,m 5 19]))) (O [ad 20 10 (i 1),m 10 20])))))) (S [m 21 5,m 4 21] .ret))),none,none⟩
def f187:za:=⟨22,[rt 4],S [m 4 cS] (S [m 5 cS] (Q (S [m 8 0,e 9 8,m 10 (i 0)] (L 0 (S [lt 11 10 9] (Q (Z 11 0) (Q (.block 2 (S [x 12 3 8 10,n 13 3 12,a 7 [0,0,vS],s 3 7 13] (O [m 14 5,m 15 1,n 16 3 7,oo 17 (.call 15 [16]),oo 18 (.buildSlice 1 3 [0,0,vS] [(0,17)]),A 19 3 40 14 18,m 5 19]))) (O [ad 20 10 (i 1),m 10 20])))))) (S [m 21 5,m 4 21] .ret))),none,none⟩
def f188:za:=⟨11,[rc (some 3) 2],S [o 1 0,a 2 [0,0,vS]] (Q (.draw [f 7 2 1,l 8 7,c 9 189 [8],f 3 0 1,l 4 3,f 5 1 1,l 6 5,lo 1 (B 10 [0,0,vS] [(0,1,4),(1,1,6),(2,1,9)]),lo 1 (s 3 2 10)]) .ret),none,none⟩
def f190:za:=⟨22,[rt 4],S [m 4 cS] (S [m 5 cS] (Q (S [m 8 0,e 9 8,m 10 (i 0)] (L 0 (S [lt 11 10 9] (Q (Z 11 0) (Q (.block 2 (S [x 12 4 8 10,n 13 4 12,a 7 [0,0,0,vS],s 4 7 13] (O [m 14 5,m 15 1,n 16 4 7,oo 17 (.call 15 [16]),oo 18 (.buildSlice 1 4 [0,0,0,vS] [(0,17)]),A 19 4 48 14 18,m 5 19]))) (O [ad 20 10 (i 1),m 10 20])))))) (S [m 21 5,m 4 21] .ret))),none,none⟩
def f193:za:=⟨22,[rt 4],S [m 4 cS] (S [m 5 cS] (Q (S [m 8 0,e 9 8,m 10 (i 0)] (L 0 (S [lt 11 10 9] (Q (Z 11 0) (Q (.block 2 (S [x 12 3 8 10,n 13 3 12,a 7 [0,0,vS],s 3 7 13] (O [m 14 5,m 15 1,n 16 3 7,oo 17 (.call 15 [16]),oo 18 (.buildSlice 1 3 [0,0,vS] [(0,17)]),A 19 3 40 14 18,m 5 19]))) (O [ad 20 10 (i 1),m 10 20])))))) (S [m 21 5,m 4 21] .ret))),none,none⟩
def f10:za:=⟨158,[rt 0],S [m 0 ff] (S [c 22 30 [],a 1 [vS,vS,vS,0],s 4 1 22] (S [n 24 4 1,c 25 31 [24],m 23 25,X 26 23 0,X 27 23 1,X 28 23 2,a 2 [vS,vS,vS,vS],s 4 2 26,m 3 27,m 4 28] (S [n 30 4 1,n 31 4 2,c 32 32 [30,31,i 1],m 29 32,X 33 29 0,X 34 29 1,X 35 29 2,a 5 [vS,vS,vS],a 6 [vS,vS,vS,vS],s 3 5 33,s 4 6 34,m 7 35] (S [n 37 3 5,c 38 11 [37],m 36 38,X 39 36 0,X 40 36 1,m 8 39,m 9 40] (S [c 42 13 [.c (.string ⟨#[80,4,4,1,2,0,3,0,3,1,1,0,0,1,0,0,2,4,3,5,7,1,91,132]⟩)],m 41 42,X 43 41 0,X 44 41 1,a 10 [vS,vS,vS],s 3 10 43,m 11 44] (S [n 46 4 1,n 47 4 6,n 48 3 10,c 49 33 [46,47,48],m 45 49,X 50 45 0,X 51 45 1,a 12 [vS,vS,vS,vS],s 4 12 50,m 13 51] (Q (S [m 52 7,ne 53 52 (i 0),m 54 53,g 54 Bf (m 55 9),g 54 Bf (ne 56 55 (i 0)),P 57 54 tt 56,m 58 57,g 58 Bf (m 59 11),g 58 Bf (ne 60 59 (i 0)),P 61 58 tt 60,m 62 61,g 62 Bf (m 63 13),g 62 Bf (ne 64 63 (i 0)),P 65 62 tt 64,m 66 65,g 66 Bf (m 67 8),g 66 Bf (ne 68 67 (.c (.string ⟨#[80,4,4,1,2,0,3,0,3,1,1,0,0,1,0,0,2,4,3,5,7,1,91,132]⟩))),P 69 66 tt 68,m 70 69,g 70 Bf (f 71 3 6),g 70 Bf (l 72 71),g 70 Bf (e 73 72),g 70 Bf (ne 74 73 (i 1)),P 75 70 tt 74,m 76 75,g 76 Bf (f 77 3 6),g 76 Bf (l 78 77),g 76 Bf (x 79 3 78 (i 0)),g 76 Bf (f 80 1 79),g 76 Bf (l 81 80),g 76 Bf (ne 82 81 (i 9)),P 83 76 tt 82,m 84 83,g 84 Bf (n 85 4 12),g 84 Bf (n 86 4 2),g 84 Bf (c 87 34 [85,86]),g 84 Bf (N 88 87),P 89 84 tt 88] (I 89 (S [m 0 ff] .ret))) (S [c 91 35 [],c 92 17 [91],m 90 92,X 93 90 0,X 94 90 1,m 14 93,m 7 94] (S [c 96 19 [.c (.string ⟨#[77,1,3,0,0,2,4,1,85,142]⟩)],m 95 96,X 97 95 0,X 98 95 1,a 15 [0,vS],s 2 15 97,m 9 98] (S [c 100 22 [.c (.string ⟨#[77,1,3,0,0,2,4,1,85,142]⟩)],m 99 100,X 101 99 0,X 102 99 1,m 16 101,m 11 102] (S [c 104 36 [i 3,i 0],c 105 36 [i 3,i 7],B 106 [0,0,0,0] [(0,2,104),(2,2,105)],oo 107 (.buildSlice 1 4 [0,0,0,0] [(0,106)]),c 108 24 [.c (.string ⟨#[77,1,3,0,0,2,4,1,85,142]⟩),107],m 103 108,X 109 103 0,X 110 103 1,m 17 109,m 13 110] (S [c 112 19 [.c (.string ⟨#[77,1,3,0,0,2,4,1,85,143]⟩)],m 111 112,X 113 111 0,X 114 111 1,a 18 [0,vS],s 2 18 113,m 19 114] (S [c 116 13 [.c (.string ⟨#[77,1,3,0,0,2,4,1,85,142]⟩)],m 115 116,X 117 115 0,X 118 115 1,a 20 [vS,vS,vS],s 3 20 117,m 21 118] (Q (S [m 119 7,ne 120 119 (i 0),m 121 120,g 121 Bf (m 122 9),g 121 Bf (ne 123 122 (i 0)),P 124 121 tt 123,m 125 124,g 125 Bf (m 126 11),g 125 Bf (ne 127 126 (i 0)),P 128 125 tt 127,m 129 128,g 129 Bf (m 130 13),g 129 Bf (ne 131 130 (i 0)),P 132 129 tt 131,m 133 132,g 133 Bf (m 134 19),g 133 Bf (ne 135 134 (i 4)),P 136 133 tt 135,m 137 136,g 137 Bf (m 138 21),g 137 Bf (ne 139 138 (i 4)),P 140 137 tt 139] (I 140 (S [m 0 ff] .ret))) (Q (.draw [m 141 14,eq 142 141 (.c (.string ⟨#[77,1,3,0,0,2,4,1,85,142]⟩)),m 143 142,g 143 Bt (c 145 35 []),g 143 Bt (n 144 2 15),lo 1 (g 143 Bt (c 146 21 [144,145])),lo 2 (P 147 143 146 ff),lo 2 (m 148 147),lo 2 (g 148 Bt (c 150 36 [i 3,i 0])),lo 2 (g 148 Bt (m 149 16)),lo 3 (g 148 Bt (oo 151 (.buildSlice 1 2 [0,0] [(0,150)]))),lo 3 (g 148 Bt (c 152 26 [149,151])),lo 4 (P 153 148 152 ff),lo 4 (m 154 153),lo 4 (g 154 Bt (m 155 17)),lo 4 (g 154 Bt (eq 156 155 (.c (.string ⟨#[77,1,3,7,0,2,4,1,50,90]⟩)))),lo 4 (P 157 154 156 ff),lo 4 (m 0 157)]) .ret))))))))))))))),none,none⟩
def f11:za:=⟨14,[rt 2,rt 3],S [o 1 0,m 2 (.c (.string ⟨#[]⟩)),m 3 (i 0)] (Q (S [n 5 3 1,c 6 37 [5],N 7 6] (I 7 (S [m 2 (.c (.string ⟨#[]⟩)),m 3 (i 2)] .ret))) (S [n 8 3 1,c 9 38 [8],m 4 9] (Q (S [m 10 4,oo 11 (.blt .lenStr [10]),gt 12 11 (i 80000)] (I 12 (S [m 2 (.c (.string ⟨#[]⟩)),m 3 (i 3)] .ret))) (S [m 13 4,m 2 13,m 3 (i 0)] .ret)))),none,none⟩
def f17:za:=⟨9,[rt 2,rt 3],S [o 1 0,m 2 (.c (.string ⟨#[]⟩)),m 3 (i 0)] (Q (S [n 4 2 1,c 5 49 [4],N 6 5] (I 6 (S [m 2 (.c (.string ⟨#[]⟩)),m 3 (i 2)] .ret))) (S [n 7 2 1,c 8 50 [7],m 2 8,m 3 (i 0)] .ret)),none,none⟩
def f21:za:=⟨17,[rt 4],S [o 2 0,o 3 1,m 4 ff] (S [f 5 0 2,l 6 5,f 7 0 3,l 8 7,eq 9 6 8,m 10 9,g 10 Bt (f 11 1 2),g 10 Bt (l 12 11),g 10 Bt (f 13 1 3),g 10 Bt (l 14 13),g 10 Bt (c 15 26 [12,14]),P 16 10 15 ff,m 4 16] .ret),none,none⟩
def f22:za:=⟨15,[rt 2,rt 3],S [m 2 cS,m 3 (i 0)] (S [m 8 0,c 9 59 [8],m 7 9,X 10 7 0,X 11 7 1,X 12 7 2,m 4 10,m 5 11,m 6 12] (S [m 13 4,m 14 6,m 2 13,m 3 14] .ret)),none,none⟩
def f24:za:=⟨91,[rt 4,rt 5],S [m 4 (.c (.string ⟨#[]⟩)),m 5 (i 0)] (Q (S [m 16 0,oo 17 (.blt .lenStr [16]),gt 18 17 (i 80000),m 19 18,g 19 Bf (m 20 1),g 19 Bf (e 21 20),g 19 Bf (gt 22 21 (i 100)),P 23 19 tt 22] (I 23 (S [m 4 (.c (.string ⟨#[]⟩)),m 5 (i 3)] .ret))) (S [oo 24 (.makeMap),a 6 [vM],s 1 6 24] (Q (S [m 25 1,e 26 25,m 27 (i 0)] (L 0 (S [lt 28 27 26] (Q (Z 28 0) (Q (.block 2 (S [x 29 4 25 27,n 30 4 29,a 8 [0,0,0,0],s 4 8 30] (Q (S [l 32 6,f 33 0 8,n 34 2 33,oo 35 (.lookup (.leaves [0,1]) (vA [0,0]) true 32 34),m 31 35,X 36 31 0,X 37 31 1,a 9 [0,0],s 2 9 36,m 10 37] (S [m 38 10,m 39 38,g 39 Bf (f 40 0 8),g 39 Bf (n 41 2 40),g 39 Bf (c 42 60 [41]),g 39 Bf (N 43 42),P 44 39 tt 43,m 45 44,g 45 Bf (f 46 2 8),g 45 Bf (n 47 2 46),g 45 Bf (c 48 60 [47]),g 45 Bf (N 49 48),P 50 45 tt 49,m 51 50,g 51 Bf (f 52 0 8),g 51 Bf (f 53 0 52),g 51 Bf (l 54 53),g 51 Bf (f 55 2 8),g 51 Bf (f 56 0 55),g 51 Bf (l 57 56),g 51 Bf (ne 58 54 57),P 59 51 tt 58] (I 59 (S [m 4 (.c (.string ⟨#[]⟩)),m 5 (i 2)] .ret)))) (O [l 60 6,f 61 0 8,n 62 2 61,f 63 2 8,n 64 2 63,on (.mapUpdate (.leaves [0,1]) 60 62 64)])))) (O [ad 65 27 (i 1),m 27 65])))))) (S [m 67 0,c 68 59 [67],m 66 68,X 69 66 0,X 70 66 1,X 71 66 2,m 11 69,m 12 70,m 13 71] (Q (S [m 72 13,ne 73 72 (i 0)] (I 73 (S [m 74 13,m 4 (.c (.string ⟨#[]⟩)),m 5 74] .ret))) (S [oo 75 (.makeMap),a 14 [vM],s 1 14 75] (S [m 76 11,oo 77 (.makeFunc (.func 62) [] [6,14]),c 78 61 [76,77],m 15 78] (Q (S [l 79 14,oo 80 (.blt .lenMap [79]),m 81 15,e 82 81,lt 83 80 82] (I 83 (S [m 4 (.c (.string ⟨#[]⟩)),m 5 (i 7)] .ret))) (S [m 84 0,oo 85 (.strIdx 84 (i 0)),m 86 15,c 87 64 [85,86],m 88 12,A 89 1 1 87 88,c 90 63 [89],m 4 90,m 5 (i 0)] .ret))))))))),none,none⟩
def f30:za:=⟨36,[rc (some 4) 0],S [a 0 [vS,vS,vS,0]] (S [B 2 [0,0] [(1,1,i 1)],B 3 [0,0] [],oo 4 (.buildSlice 2 2 [0,0] [(0,2),(1,3)]),B 5 [0,0] [(1,1,i 2)],oo 6 (.buildSlice 1 2 [0,0] [(0,5)]),oo 7 (.buildSlice 2 1 [0] [(0,i 0),(1,i 1)]),B 8 [0,vS,0] [(1,1,7),(2,1,i 1)],oo 9 (.buildSlice 1 3 [0,vS,0] [(0,8)]),B 10 [vS,vS,vS] [(0,1,4),(1,1,6),(2,1,9)],a 1 [vS,vS,vS],s 3 1 10] (Q (.draw [c 16 71 [i 4],lo 1 (c 21 72 [i 1]),lo 2 (c 25 72 [i 2]),lo 3 (c 32 72 [i 3]),oo 11 (.buildSlice 1 1 [.string ⟨#[]⟩] [(0,.c (.string ⟨#[111,117,116]⟩))]),n 12 3 1,oo 13 (.buildSlice 1 3 [vS,vS,vS] [(0,12)]),oo 14 (.buildSlice 1 1 [0] [(0,i 3)]),B 15 [0,0,vS,vS] [(0,1,i 4),(3,1,14)],lo 1 (B 17 [0,0,vS,vS] [(0,1,i 2),(1,1,i 0),(2,1,16)]),B 18 [0,0,vS,vS] [(0,1,i 7)],oo 19 (.buildSlice 2 1 [0] [(0,i 4),(1,i 5)]),B 20 [0,0,vS,vS] [(0,1,i 3),(3,1,19)],lo 2 (B 22 [0,0,vS,vS] [(0,1,i 2),(1,1,i 1),(2,1,21)]),oo 23 (.buildSlice 2 1 [0] [(0,i 6),(1,i 7)]),B 24 [0,0,vS,vS] [(0,1,i 3),(3,1,23)],lo 3 (B 26 [0,0,vS,vS] [(0,1,i 2),(1,1,i 1),(2,1,25)]),oo 27 (.buildSlice 2 1 [0] [(0,i 8),(1,i 9)]),B 28 [0,0,vS,vS] [(0,1,i 3),(3,1,27)],B 29 [0,0,vS,vS] [(0,1,i 2),(1,1,i 2)],oo 30 (.buildSlice 1 1 [0] [(0,i 10)]),B 31 [0,0,vS,vS] [(0,1,i 8),(1,1,i 3),(3,1,30)],lo 4 (B 33 [0,0,vS,vS] [(0,1,i 2),(1,1,i 1),(2,1,32)]),lo 4 (oo 34 (.buildSlice 11 4 [0,0,vS,vS] [(0,15),(1,17),(2,18),(3,20),(4,22),(5,24),(6,26),(7,28),(8,29),(9,31),(10,33)])),lo 4 (B 35 [vS,vS,vS,0] [(0,1,11),(2,1,13),(1,1,34)]),lo 4 (s 4 0 35)]) .ret)),none,none⟩
def f31:za:=⟨39,[rc (some 4) 2,rt 3,rt 4],S [o 1 0,a 2 [vS,vS,vS,vS],m 3 cS,m 4 (i 0)] (S [n 8 4 1,B 9 [vS,vS,vS,0,vS,vS,vS,vS,vS,0,vF] [(0,4,8)],o 10 9,m 5 10] (S [m 11 5,B 12 [0,vF] [(0,1,i (-1))],oo 13 (.buildSlice 1 2 [0,vF] [(0,12)]),k 14 11,f 15 4 14,f 16 0 15,s 1 16 13] (S [m 6 cS] (Q (S [m 7 (i 0)] (L 0 (Q (S [m 17 7,f 18 0 1,l 19 18,e 20 19,lt 21 17 20] (Z 21 0)) (Q (.block 2 (O [m 24 6,m 25 7,B 26 [0,0] [(0,1,i 2),(1,1,25)],oo 27 (.buildSlice 1 2 [0,0] [(0,26)]),A 28 2 16 24 27,m 6 28])) (O [m 22 7,ad 23 22 (i 1),m 7 23]))))) (S [m 29 5,f 30 3 1,l 31 30,m 32 6,c 33 73 [29,31,i 0,32]] (S [m 34 5,c 35 74 [34],X 36 35 0,X 37 35 1,X 38 35 2,s 4 2 36,m 3 37,m 4 38] .ret)))))),none,none⟩
def f32:za:=⟨136,[rc (some 3) 6,rc (some 4) 7,rt 8],S [o 3 0,o 4 1,a 6 [vS,vS,vS],a 7 [vS,vS,vS,vS],m 8 (i 0)] (Q (S [n 19 4 3,n 20 4 4,c 21 75 [19,20],ne 22 21 (i 0)] (I 22 (S [B 23 [vS,vS,vS] [],B 24 [vS,vS,vS,vS] [],s 3 6 23,s 4 7 24,m 8 (i 2)] .ret))) (Q (S [m 25 2,f 26 0 4,l 27 26,e 28 27,c 29 76 [25,28],N 30 29,m 31 30,g 31 Bf (f 32 0 4),g 31 Bf (l 33 32),g 31 Bf (m 34 2),g 31 Bf (x 35 2 33 34),g 31 Bf (f 36 1 35),g 31 Bf (l 37 36),P 38 31 tt 37] (I 38 (S [B 39 [vS,vS,vS] [],B 40 [vS,vS,vS,vS] [],s 3 6 39,s 4 7 40,m 8 (i 5)] .ret))) (S [n 42 4 4,m 43 2,c 44 77 [42,43],m 41 44,X 45 41 0,X 46 41 1,m 9 45,m 10 46] (S [m 47 2,oo 48 (.buildSlice 1 1 [0] [(0,47)]),B 49 [vS,vS,vS] [(0,1,48)],a 11 [vS,vS,vS],s 3 11 49] (Q (S [m 50 9,e 51 50,m 52 (i 0)] (L 0 (S [lt 53 52 51] (Q (Z 53 0) (Q (.block 2 (S [x 54 1 50 52,l 55 54,m 13 55] (S [m 56 13,m 57 2,ne 58 56 57] (I 58 (O [f 59 0 11,l 60 59,m 61 13,oo 62 (.buildSlice 1 1 [0] [(0,61)]),A 63 1 8 60 62,f 64 0 11,s 1 64 63]))))) (O [ad 65 52 (i 1),m 52 65])))))) (S [n 66 4 4,c 67 78 [66],a 14 [vS,vS,vS,vS],s 4 14 67] (Q (S [f 68 2 4,l 69 68,e 70 69,m 71 (i 0)] (L 4 (S [lt 72 71 70] (Q (Z 72 4) (Q (.block 6 (S [m 73 71,x 74 4 69 71,n 75 4 74,a 16 [0,0,0,vS],m 15 73,s 4 16 75] (S [f 76 3 16,l 77 76,e 78 77,gt 79 78 (i 0),m 80 79,g 80 Bt (f 81 0 11),g 80 Bt (l 82 81),g 80 Bt (f 83 2 16),g 80 Bt (l 84 83),g 80 Bt (c 85 79 [82,84]),P 86 80 85 ff] (I 86 (Q (.draw [f 90 3 16,l 91 90,c 92 80 [91],f 87 1 11,l 88 87,m 89 15,lo 1 (B 93 [0,vS] [(0,1,89),(1,1,92)]),lo 1 (oo 94 (.buildSlice 1 2 [0,vS] [(0,93)])),lo 1 (A 95 2 32 88 94),lo 2 (f 96 1 11),lo 2 (s 1 96 95)]) (O [f 97 2 14,l 98 97,m 99 15,x 100 4 98 99,f 101 3 100,s 1 101 cS])))))) (O [ad 102 71 (i 1),m 71 102])))))) (S [f 103 3 14,s 1 103 cS] (Q (S [f 104 3 4,l 105 104,e 106 105,m 107 (i 0)] (L 8 (S [lt 108 107 106] (Q (Z 108 8) (Q (.block 10 (S [m 109 107,x 110 3 105 107,n 111 3 110,a 18 [0,0,vS],m 17 109,s 3 18 111] (S [f 112 0 11,l 113 112,f 114 0 18,l 115 114,c 116 79 [113,115]] (C 116 (.draw [n 120 3 18,c 121 81 [120],f 117 2 11,l 118 117,m 119 17,lo 1 (B 122 [0,0,0,vS] [(0,1,119),(1,3,121)]),lo 1 (oo 123 (.buildSlice 1 4 [0,0,0,vS] [(0,122)])),lo 1 (A 124 4 48 118 123),lo 2 (f 125 2 11),lo 2 (s 1 125 124)]) (.draw [n 128 3 18,c 129 81 [128],f 126 3 14,l 127 126,lo 1 (oo 130 (.buildSlice 1 3 [0,0,vS] [(0,129)])),lo 1 (A 131 3 40 127 130),lo 2 (f 132 3 14),lo 2 (s 1 132 131)]))))) (O [ad 133 107 (i 1),m 107 133])))))) (Q (.draw [n 134 3 11,s 3 6 134,n 135 4 14,lo 1 (s 4 7 135),lo 2 (m 8 (i 0))]) .ret)))))))))),none,none⟩
def f33:za:=⟨111,[rc (some 4) 6,rt 7],S [o 3 0,o 4 1,o 5 2,a 6 [vS,vS,vS,vS],m 7 (i 0)] (Q (.block 0 (S [n 15 4 3,n 16 4 4,c 17 75 [15,16],ne 18 17 (i 0),m 19 18,g 19 Bf (n 20 3 5),g 19 Bf (c 21 37 [20]),g 19 Bf (N 22 21),P 23 19 tt 22,m 14 23] (C 14 (S [B 24 [vS,vS,vS,vS] [],s 4 6 24,m 7 (i 2)] .ret) (S [n 26 4 3,n 27 4 4,n 28 3 5,c 29 82 [26,27,28],N 30 29,m 25 30] (I 25 (S [B 31 [vS,vS,vS,vS] [],s 4 6 31,m 7 (i 7)] .ret)))))) (S [n 32 4 4,c 33 78 [32],a 8 [vS,vS,vS,vS],s 4 8 33] (Q (S [f 34 1 5,l 35 34,e 36 35,m 37 (i 0)] (L 2 (S [lt 38 37 36] (Q (Z 38 2) (Q (.block 4 (S [x 39 2 35 37,n 40 2 39,a 10 [0,vS],s 2 10 40] (S [f 41 2 8,l 42 41,f 43 0 10,l 44 43,x 45 4 42 44,m 11 45] (Q (Q (.draw [f 46 0 4,l 47 46,m 48 11,k 49 48,f 50 2 49,l 51 50,x 52 2 47 51,f 53 1 52,l 54 53]) (I 54 (.exit 4))) (Q (.draw [f 56 1 10,l 57 56,c 58 80 [57],m 59 11,k 60 59,f 61 3 60,l 62 61,lo 1 (A 63 1 24 58 62),m 55 11,lo 2 (k 64 55),lo 2 (f 65 3 64),lo 2 (s 1 65 63)]) (S [m 66 11,k 67 66,f 68 3 67,l 69 68,e 70 69,gt 71 70 (i 12)] (I 71 (S [B 72 [vS,vS,vS,vS] [],s 4 6 72,m 7 (i 3)] .ret)))))))) (O [ad 73 37 (i 1),m 37 73])))))) (Q (S [f 74 2 5,l 75 74,e 76 75,m 77 (i 0)] (L 6 (S [lt 78 77 76] (Q (Z 78 6) (Q (.block 8 (S [x 79 4 75 77,n 80 4 79,a 13 [0,0,0,vS],s 4 13 80] (S [f 81 0 4,l 82 81,f 83 1 13,f 84 0 83,l 85 84,x 86 2 82 85,f 87 1 86,l 88 87,N 89 88] (I 89 (.draw [f 98 1 13,n 99 3 98,c 100 81 [99],f 90 3 8,l 91 90,f 92 0 13,l 93 92,f 94 3 8,l 95 94,e 96 95,oo 97 (.blt .min [93,96]),lo 1 (oo 101 (.buildSlice 1 3 [0,0,vS] [(0,100)])),lo 1 (c 102 83 [91,97,101]),lo 2 (f 103 3 8),lo 2 (s 1 103 102)]))))) (O [ad 104 77 (i 1),m 77 104])))))) (Q (S [f 105 3 8,l 106 105,e 107 106,gt 108 107 (i 40)] (I 108 (S [B 109 [vS,vS,vS,vS] [],s 4 6 109,m 7 (i 3)] .ret))) (S [n 110 4 8,s 4 6 110,m 7 (i 0)] .ret)))))),none,none⟩
def f34:za:=⟨229,[rt 4],S [o 2 0,o 3 1,m 4 ff] (Q (S [f 9 0 2,l 10 9,e 11 10,f 12 0 3,l 13 12,e 14 13,ne 15 11 14,m 16 15,g 16 Bf (f 17 1 2),g 16 Bf (l 18 17),g 16 Bf (e 19 18),g 16 Bf (f 20 1 3),g 16 Bf (l 21 20),g 16 Bf (e 22 21),g 16 Bf (ne 23 19 22),P 24 16 tt 23,m 25 24,g 25 Bf (f 26 2 2),g 25 Bf (l 27 26),g 25 Bf (e 28 27),g 25 Bf (f 29 2 3),g 25 Bf (l 30 29),g 25 Bf (e 31 30),g 25 Bf (ne 32 28 31),P 33 25 tt 32,m 34 33,g 34 Bf (f 35 3 2),g 34 Bf (l 36 35),g 34 Bf (e 37 36),g 34 Bf (f 38 3 3),g 34 Bf (l 39 38),g 34 Bf (e 40 39),g 34 Bf (ne 41 37 40),P 42 34 tt 41] (I 42 (S [m 4 ff] .ret))) (Q (S [m 5 (i 0)] (L 0 (Q (S [m 43 5,f 44 0 2,l 45 44,e 46 45,lt 47 43 46] (Z 47 0)) (Q (.block 2 (Q (.draw [f 50 0 2,l 51 50,m 52 5,x 53 2 51 52,n 54 2 53,f 55 0 3,l 56 55,m 57 5,x 58 2 56 57,n 59 2 58,oo 60 (.bin .neq (.leavesK [(0,.int),(1,.bool)]) 54 59)]) (I 60 (S [m 4 ff] .ret)))) (O [m 48 5,ad 49 48 (i 1),m 5 49]))))) (Q (S [m 6 (i 0)] (L 4 (Q (S [m 61 6,f 62 1 2,l 63 62,e 64 63,lt 65 61 64] (Z 65 4)) (Q (.block 6 (Q (.draw [f 68 1 2,l 69 68,m 70 6,x 71 3 69 70,f 72 0 71,l 73 72,f 74 1 3,l 75 74,m 76 6,x 77 3 75 76,f 78 0 77,l 79 78,ne 80 73 79,m 81 80,g 81 Bf (f 82 1 2),g 81 Bf (l 83 82),g 81 Bf (m 84 6),g 81 Bf (x 85 3 83 84),g 81 Bf (f 86 1 85),g 81 Bf (l 87 86),g 81 Bf (f 88 1 3),g 81 Bf (l 89 88),g 81 Bf (m 90 6),g 81 Bf (x 91 3 89 90),g 81 Bf (f 92 1 91),g 81 Bf (l 93 92),g 81 Bf (ne 94 87 93),P 95 81 tt 94,m 96 95,g 96 Bf (f 97 1 2),g 96 Bf (l 98 97),g 96 Bf (m 99 6),g 96 Bf (x 100 3 98 99),g 96 Bf (f 101 2 100),g 96 Bf (l 102 101),g 96 Bf (f 103 1 3),g 96 Bf (l 104 103),g 96 Bf (m 105 6),g 96 Bf (x 106 3 104 105),g 96 Bf (f 107 2 106),g 96 Bf (l 108 107),g 96 Bf (c 109 26 [102,108]),lo 1 (g 96 Bf (N 110 109)),lo 1 (P 111 96 tt 110)]) (I 111 (S [m 4 ff] .ret)))) (O [m 66 6,ad 67 66 (i 1),m 6 67]))))) (Q (S [m 7 (i 0)] (L 8 (Q (S [m 112 7,f 113 2 2,l 114 113,e 115 114,lt 116 112 115] (Z 116 8)) (Q (.block 10 (Q (.draw [f 119 2 2,l 120 119,m 121 7,x 122 4 120 121,f 123 0 122,l 124 123,f 125 2 3,l 126 125,m 127 7,x 128 4 126 127,f 129 0 128,l 130 129,ne 131 124 130,m 132 131,g 132 Bf (f 133 2 2),g 132 Bf (l 134 133),g 132 Bf (m 135 7),g 132 Bf (x 136 4 134 135),g 132 Bf (f 137 1 136),g 132 Bf (l 138 137),g 132 Bf (f 139 2 3),g 132 Bf (l 140 139),g 132 Bf (m 141 7),g 132 Bf (x 142 4 140 141),g 132 Bf (f 143 1 142),g 132 Bf (l 144 143),g 132 Bf (ne 145 138 144),P 146 132 tt 145,m 147 146,g 147 Bf (f 148 2 2),g 147 Bf (l 149 148),g 147 Bf (m 150 7),g 147 Bf (x 151 4 149 150),g 147 Bf (f 152 2 151),g 147 Bf (l 153 152),g 147 Bf (f 154 2 3),g 147 Bf (l 155 154),g 147 Bf (m 156 7),g 147 Bf (x 157 4 155 156),g 147 Bf (f 158 2 157),g 147 Bf (l 159 158),g 147 Bf (ne 160 153 159),P 161 147 tt 160,m 162 161,g 162 Bf (f 163 2 2),g 162 Bf (l 164 163),g 162 Bf (m 165 7),g 162 Bf (x 166 4 164 165),g 162 Bf (f 167 3 166),g 162 Bf (l 168 167),g 162 Bf (f 169 2 3),g 162 Bf (l 170 169),g 162 Bf (m 171 7),g 162 Bf (x 172 4 170 171),g 162 Bf (f 173 3 172),g 162 Bf (l 174 173),g 162 Bf (c 175 48 [168,174]),lo 1 (g 162 Bf (N 176 175)),lo 1 (P 177 162 tt 176)]) (I 177 (S [m 4 ff] .ret)))) (O [m 117 7,ad 118 117 (i 1),m 7 118]))))) (Q (S [m 8 (i 0)] (L 12 (Q (S [m 178 8,f 179 3 2,l 180 179,e 181 180,lt 182 178 181] (Z 182 12)) (Q (.block 14 (Q (.draw [f 185 3 2,l 186 185,m 187 8,x 188 3 186 187,f 189 0 188,l 190 189,f 191 3 3,l 192 191,m 193 8,x 194 3 192 193,f 195 0 194,l 196 195,ne 197 190 196,m 198 197,g 198 Bf (f 199 3 2),g 198 Bf (l 200 199),g 198 Bf (m 201 8),g 198 Bf (x 202 3 200 201),g 198 Bf (f 203 1 202),g 198 Bf (l 204 203),g 198 Bf (f 205 3 3),g 198 Bf (l 206 205),g 198 Bf (m 207 8),g 198 Bf (x 208 3 206 207),g 198 Bf (f 209 1 208),g 198 Bf (l 210 209),g 198 Bf (ne 211 204 210),P 212 198 tt 211,m 213 212,g 213 Bf (f 214 3 2),g 213 Bf (l 215 214),g 213 Bf (m 216 8),g 213 Bf (x 217 3 215 216),g 213 Bf (f 218 2 217),g 213 Bf (l 219 218),g 213 Bf (f 220 3 3),g 213 Bf (l 221 220),g 213 Bf (m 222 8),g 213 Bf (x 223 3 221 222),g 213 Bf (f 224 2 223),g 213 Bf (l 225 224),g 213 Bf (c 226 26 [219,225]),lo 1 (g 213 Bf (N 227 226)),lo 1 (P 228 213 tt 227)]) (I 228 (S [m 4 ff] .ret)))) (O [m 183 8,ad 184 183 (i 1),m 8 184]))))) (S [m 4 tt] .ret)))))),none,none⟩
def f42:za:=⟨5,[],O [l 2 0,c 3 43 [2,.c (.int .u8 80)],c 4 44 [3],s 3 1 4],none,none⟩
def f44:za:=⟨72,[rc (some 3) 2],S [a 2 [vS,vS,vS]] (S [a 3 [vS,vS,vS]] (Q (S [m 6 0,c 7 115 [6],m 8 (i 0)] (L 0 (S [lt 9 8 7] (Q (Z 9 0) (Q (.block 2 (.draw [m 12 0,c 13 54 [12,i 4],f 10 0 3,l 11 10,lo 1 (oo 14 (.buildSlice 1 1 [0] [(0,13)])),lo 1 (A 15 1 8 11 14),lo 2 (f 16 0 3),lo 2 (s 1 16 15)])) (O [ad 17 8 (i 1),m 8 17])))))) (Q (S [m 18 0,c 19 115 [18],m 20 (i 0)] (L 4 (S [lt 21 20 19] (Q (Z 21 4) (Q (.block 6 (S [m 22 0,c 23 54 [22,i 3],B 24 [0,vS] [(0,1,23)],a 4 [0,vS],s 2 4 24] (Q (S [m 25 0,c 26 115 [25],m 27 (i 0)] (L 8 (S [lt 28 27 26] (Q (Z 28 8) (Q (.block 10 (.draw [m 31 0,c 32 55 [31],f 29 1 4,l 30 29,lo 1 (B 33 [vS] [(0,1,32)]),lo 1 (oo 34 (.buildSlice 1 1 [vS] [(0,33)])),lo 1 (A 35 1 24 30 34),lo 2 (f 36 1 4),lo 2 (s 1 36 35)])) (O [ad 37 27 (i 1),m 27 37])))))) (O [f 38 1 3,l 39 38,n 40 2 4,oo 41 (.buildSlice 1 2 [0,vS] [(0,40)]),A 42 2 32 39 41,f 43 1 3,s 1 43 42])))) (O [ad 44 20 (i 1),m 20 44])))))) (Q (S [m 45 0,c 46 115 [45],m 47 (i 0)] (L 12 (S [lt 48 47 46] (Q (Z 48 12) (Q (.block 14 (S [a 5 [0,0,0,vS]] (S [m 49 0,c 50 116 [49],f 51 0 5,s 1 51 50] (S [m 52 0,c 53 54 [52,i 4],f 54 1 5,f 55 0 54,s 1 55 53] (S [m 56 0,c 57 116 [56],f 58 1 5,f 59 1 58,s 1 59 57] (S [m 60 0,c 61 55 [60],f 62 1 5,f 63 2 62,s 1 63 61] (O [f 64 2 3,l 65 64,n 66 4 5,oo 67 (.buildSlice 1 4 [0,0,0,vS] [(0,66)]),A 68 4 48 65 67,f 69 2 3,s 1 69 68]))))))) (O [ad 70 47 (i 1),m 47 70])))))) (S [n 71 3 3,s 3 2 71] .ret))))),none,none⟩
def f53:za:=⟨11,[],S [l 3 0,c 4 43 [3,.c (.int .u8 77)],m 2 4] (S [m 5 2,c 6 54 [5,i 3],f 7 0 1,s 1 7 6] (O [m 8 2,c 9 55 [8],f 10 1 1,s 1 10 9])),none,none⟩
def f61:za:=⟨22,[rt 4],S [m 4 cS] (S [m 5 cS] (Q (S [m 8 0,e 9 8,m 10 (i 0)] (L 0 (S [lt 11 10 9] (Q (Z 11 0) (Q (.block 2 (S [x 12 2 8 10,n 13 2 12,a 7 [0,0],s 2 7 13] (O [m 14 5,m 15 1,n 16 2 7,oo 17 (.call 15 [16]),oo 18 (.buildSlice 1 2 [0,0] [(0,17)]),A 19 2 16 14 18,m 5 19]))) (O [ad 20 10 (i 1),m 10 20])))))) (S [m 21 5,m 4 21] .ret))),none,none⟩
def f62:za:=⟨18,[rc (some 2) 4],S [o 3 0,a 4 [0,0]] (Q (S [l 8 1,n 9 2 3,oo 10 (.lookup (.leaves [0,1]) (vA [0,0]) true 8 9),m 7 10,X 11 7 0,X 12 7 1,a 5 [0,0],s 2 5 11,m 6 12] (S [m 13 6] (I 13 (O [n 14 2 5,s 2 3 14])))) (S [l 15 2,n 16 2 3,on (.mapUpdate (.leaves [0,1]) 15 16 tt)] (S [n 17 2 3,s 2 4 17] .ret))),none,none⟩
def f71:za:=⟨6,[rt 2],S [m 2 cS] (S [m 3 0,B 4 [0,0,vS] [(0,1,i 2),(1,1,3)],oo 5 (.buildSlice 1 3 [0,0,vS] [(0,4)]),m 2 5] .ret),none,none⟩
def f74:za:=⟨18,[rc (some 4) 2,rt 3,rt 4],S [a 2 [vS,vS,vS,vS],m 3 cS,m 4 (i 0)] (Q (S [m 5 0,k 6 5,f 7 10 6,l 8 7] (I 8 (S [B 9 [vS,vS,vS,vS] [],s 4 2 9,m 3 cS,m 4 (i 3)] .ret))) (Q (.draw [m 10 0,k 11 10,f 12 4 11,n 13 4 12,s 4 2 13,m 14 0,k 15 14,f 16 8 15,l 17 16,lo 1 (m 3 17),lo 1 (m 4 (i 0))]) .ret)),none,none⟩
def f77:za:=⟨37,[rt 4,rc none 5],S [o 2 0,m 4 cS,a 5 [0]] (O []),(some ⟨.c (vC 128),[5],[],S [] (S [f 7 0 2,l 8 7,c 9 130 [8]] (S [m 10 1,gE 11 10 (i 0),m 12 11,g 12 Bt (m 13 1),g 12 Bt (f 14 0 2),g 12 Bt (l 15 14),g 12 Bt (e 16 15),g 12 Bt (lt 17 13 16),P 18 12 17 ff,c 19 131 [18]] (Q (S [f 20 0 2,l 21 20,e 22 21,m 23 (i 0)] (L 0 (S [lt 24 23 22] (Q (Z 24 0) (Q (.block 2 (S [m 25 23,m 6 25] (S [f 26 0 2,l 27 26,m 28 6,m 29 1,c 30 132 [27,28,29]] (I 30 (O [m 31 4,m 32 6,oo 33 (.buildSlice 1 1 [0] [(0,32)]),A 34 1 8 31 33,m 4 34]))))) (O [ad 35 23 (i 1),m 23 35])))))) (S [m 36 4,m 4 36,s 1 5 (i 0)] .ret))))⟩),none⟩
def f82:za:=⟨36,[rt 6],S [o 3 0,o 4 1,o 5 2,m 6 ff] (S [oo 12 (.makeFunc (.func 143) [] [3,4]),a 7 [.nilFunc],s 1 7 12] (S [oo 13 (.makeFunc (.func 144) [] [4,5,3,7]),m 8 13] (S [n 15 4 3,c 16 146 [15],m 14 16,X 17 14 0,X 18 14 1,a 9 [vS],s 1 9 17,m 10 18] (S [oo 19 (.makeFunc (.func 147) [] [3,9,7]),m 11 19] (S [f 20 0 5,l 21 20,oo 22 (.makeFunc (.func 148) [] [4]),c 23 85 [21,22],m 24 23,g 24 Bt (f 25 1 5),g 24 Bt (l 26 25),g 24 Bt (m 27 8),g 24 Bt (c 28 95 [26,27]),P 29 24 28 ff,m 30 29,g 30 Bt (f 31 2 5),g 30 Bt (l 32 31),g 30 Bt (m 33 11),g 30 Bt (c 34 96 [32,33]),P 35 30 34 ff,m 6 35] .ret))))),none,none⟩
def f83:za:=⟨95,[rt 6],S [m 6 cS] (S [m 10 0,m 11 1,oo 12 (.slice 3 10 (some 11) none)] (S [m 13 2,e 14 13,m 7 14] (Q (S [m 15 7,eq 16 15 (i 0)] (I 16 (S [m 17 0,m 6 17] .ret))) (S [m 18 0,e 19 18,m 8 19] (Q (S [m 20 1,m 21 8,eq 22 20 21] (I 22 (S [m 23 0,m 24 2,A 25 3 40 23 24,m 6 25] .ret))) (Q (S [m 26 8,m 27 7,ad 28 26 27,m 29 0,oo 30 (.stuck),gt 31 28 30] (I 31 (S [m 32 0,m 33 1,oo 34 (.slice 3 32 none (some 33)),m 35 8,m 36 7,ad 37 35 36,m 38 1,su 39 37 38,oo 40 (.stuck),m 9 40] (S [m 41 9,m 42 1,oo 43 (.slice 3 41 (some 42) none),m 44 2,oo 45 (.blt (.copy 3) [43,44])] (Q (.draw [m 46 9,m 47 1,m 48 7,ad 49 47 48,oo 50 (.slice 3 46 (some 49) none),m 51 0,m 52 1,oo 53 (.slice 3 51 (some 52) none),oo 54 (.blt (.copy 3) [50,53])]) (S [m 55 9,m 6 55] .ret)))))) (S [m 56 0,m 57 8,m 58 7,ad 59 57 58,oo 60 (.slice 3 56 none (some 59)),m 0 60] (Q (S [m 61 2,m 62 0,m 63 1,m 64 7,ad 65 63 64,oo 66 (.slice 3 62 (some 65) none),c 67 149 [61,66],N 68 67] (I 68 (Q (.draw [m 69 0,m 70 1,m 71 7,ad 72 70 71,oo 73 (.slice 3 69 (some 72) none),m 74 0,m 75 1,oo 76 (.slice 3 74 (some 75) none),oo 77 (.blt (.copy 3) [73,76])]) (S [m 78 0,m 79 1,oo 80 (.slice 3 78 (some 79) none),m 81 2,oo 82 (.blt (.copy 3) [80,81])] (S [m 83 0,m 6 83] .ret))))) (S [m 84 0,m 85 8,oo 86 (.slice 3 84 (some 85) none),m 87 2,oo 88 (.blt (.copy 3) [86,87])] (S [m 89 0,m 90 1,oo 91 (.slice 3 89 (some 90) none),m 92 7,c 93 150 [91,92]] (S [m 94 0,m 6 94] .ret))))))))))),none,none⟩
def f92:za:=⟨38,[rt 4],S [o 3 0,m 4 ff] (S [f 6 0 3,l 7 6,l 8 1,gt 9 7 8,m 10 9,g 10 Bt (f 11 0 3),g 10 Bt (l 12 11),g 10 Bt (lt 13 12 (i 40)),P 14 10 13 ff,m 5 14] (S [f 15 0 3,l 16 15,s 1 1 16] (S [m 17 5,m 18 17,g 18 Bt (f 19 0 2),g 18 Bt (l 20 19),g 18 Bt (f 21 1 3),g 18 Bt (f 22 0 21),g 18 Bt (l 23 22),g 18 Bt (c 24 79 [20,23]),P 25 18 24 ff,m 26 25,g 26 Bt (f 27 1 3),g 26 Bt (f 28 1 27),g 26 Bt (l 29 28),g 26 Bt (c 30 76 [29,i 60]),P 31 26 30 ff,m 32 31,g 32 Bt (f 33 1 3),g 32 Bt (f 34 2 33),g 32 Bt (l 35 34),g 32 Bt (c 36 93 [35,.c (vC 94)]),P 37 32 36 ff,m 4 37] .ret))),none,none⟩
def f113:za:=⟨5,[],S [oo 2 (.recov),m 1 2] (S [m 3 1,oo 4 (.bin .neq (.iface true) 3 (.c .nilIface))] (I 4 (O [s 1 0 ff]))),none,none⟩
def f124:za:=⟨221,[],S [o 5 1] (Q (.draw [m 15 0,k 16 15,f 17 0 16,f 18 2 17,l 19 18,f 20 1 5,l 21 20,x 22 3 19 21,n 23 3 22,a 8 [vS,vS,vS],s 3 8 23]) (Q (.draw [m 27 3,c 28 127 [27],f 24 1 5,l 25 24,m 26 2,lo 1 (B 29 [0,0,vS] [(0,1,25),(1,1,26),(2,1,28)]),a 9 [0,0,vS],lo 1 (s 3 9 29)]) (Q (S [m 10 (i 0)] (L 0 (Q (S [m 30 10,f 31 0 8,l 32 31,e 33 32,lt 34 30 33] (Z 34 0)) (Q (.block 2 (.draw [f 37 2 9,l 38 37,m 39 0,k 40 39,f 41 4 40,f 42 2 41,l 43 42,e 44 43,m 45 10,ad 46 44 45,B 47 [0,0] [(0,1,i 3),(1,1,46)],oo 48 (.buildSlice 1 2 [0,0] [(0,47)]),A 49 2 16 38 48,lo 1 (f 50 2 9),lo 1 (s 1 50 49)])) (O [m 35 10,ad 36 35 (i 1),m 10 36]))))) (Q (S [m 11 (i 0)] (L 4 (Q (S [m 51 11,f 52 1 8,l 53 52,e 54 53,lt 55 51 54] (Z 55 4)) (Q (.block 6 (.draw [f 58 2 9,l 59 58,m 60 0,k 61 60,f 62 4 61,f 63 0 62,l 64 63,e 65 64,m 66 11,ad 67 65 66,B 68 [0,0] [(0,1,i 4),(1,1,67)],oo 69 (.buildSlice 1 2 [0,0] [(0,68)]),A 70 2 16 59 69,lo 1 (f 71 2 9),lo 1 (s 1 71 70)])) (O [m 56 11,ad 57 56 (i 1),m 11 57]))))) (Q (S [m 12 (i 0)] (L 8 (Q (S [m 72 12,f 73 0 8,l 74 73,e 75 74,lt 76 72 75] (Z 76 8)) (Q (.block 10 (.draw [m 92 0,k 93 92,f 94 0 93,n 95 4 94,n 96 3 9,f 97 0 8,l 98 97,m 99 12,x 100 2 98 99,f 101 0 100,l 102 101,c 103 162 [95,96,102],m 80 0,k 81 80,f 82 4 81,f 83 2 82,l 84 83,m 85 0,k 86 85,f 87 4 86,f 88 1 87,l 89 88,e 90 89,m 91 12,lo 1 (B 104 [0,0,0,vS] [(0,1,90),(1,1,91),(2,1,103)]),lo 1 (oo 105 (.buildSlice 1 4 [0,0,0,vS] [(0,104)])),lo 1 (A 106 4 48 84 105),m 79 0,lo 2 (k 107 79),lo 2 (f 108 4 107),lo 2 (f 109 2 108),lo 2 (s 1 109 106)])) (O [m 77 12,ad 78 77 (i 1),m 12 78]))))) (Q (S [m 13 (i 0)] (L 12 (Q (S [m 110 13,f 111 1 8,l 112 111,e 113 112,lt 114 110 113] (Z 114 12)) (Q (.block 14 (.draw [m 123 0,k 124 123,f 125 0 124,n 126 4 125,n 127 3 9,f 128 1 8,l 129 128,m 130 13,x 131 2 129 130,f 132 0 131,l 133 132,c 134 162 [126,127,133],m 118 0,k 119 118,f 120 4 119,f 121 0 120,l 122 121,lo 1 (B 135 [0,vF] [(0,1,134)]),lo 1 (oo 136 (.buildSlice 1 2 [0,vF] [(0,135)])),lo 1 (A 137 2 16 122 136),m 117 0,lo 2 (k 138 117),lo 2 (f 139 4 138),lo 2 (f 140 0 139),lo 2 (s 1 140 137)])) (O [m 115 13,ad 116 115 (i 1),m 13 116]))))) (Q (.draw [m 142 0,k 143 142,f 144 4 143,f 145 1 144,l 146 145,n 147 3 9,oo 148 (.buildSlice 1 3 [0,0,vS] [(0,147)]),A 149 3 40 146 148,m 141 0,lo 1 (k 150 141),lo 1 (f 151 4 150),lo 1 (f 152 1 151),lo 1 (s 1 152 149)]) (S [m 153 0,m 154 0,k 155 154,f 156 10 155,l 157 156,m 158 157,g 158 Bf (m 159 0),g 158 Bf (k 160 159),g 158 Bf (f 161 4 160),g 158 Bf (f 162 2 161),g 158 Bf (l 163 162),g 158 Bf (e 164 163),g 158 Bf (gt 165 164 (i 60)),P 166 158 tt 165,m 167 166,g 167 Bf (m 168 0),g 167 Bf (k 169 168),g 167 Bf (f 170 4 169),g 167 Bf (f 171 0 170),g 167 Bf (l 172 171),g 167 Bf (e 173 172),g 167 Bf (gt 174 173 (i 24)),P 175 167 tt 174,m 176 175,g 176 Bf (m 177 0),g 176 Bf (k 178 177),g 176 Bf (f 179 4 178),g 176 Bf (f 180 1 179),g 176 Bf (l 181 180),g 176 Bf (e 182 181),g 176 Bf (gt 183 182 (i 40)),P 184 176 tt 183,k 185 153,f 186 10 185,s 1 186 184] (Q (S [m 14 (i 0)] (L 16 (Q (S [m 187 14,f 188 1 8,l 189 188,e 190 189,lt 191 187 190] (Z 191 16)) (Q (.block 18 (.draw [m 201 0,k 202 201,f 203 0 202,n 204 4 203,n 205 3 9,m 206 14,ad 207 206 (i 1),c 208 162 [204,205,207],m 194 0,f 195 1 8,l 196 195,m 197 14,x 198 2 196 197,f 199 1 198,l 200 199,f 209 2 9,l 210 209,lo 1 (c 211 73 [194,200,208,210])])) (O [m 192 14,ad 193 192 (i 1),m 14 193]))))) (.draw [m 212 0,f 213 3 5,l 214 213,x 215 1 214 (i 0),l 216 215,m 217 2,f 218 2 9,l 219 218,c 220 73 [212,216,217,219]])))))))))),none,none⟩
def f128:za:=⟨20,[],S [oo 5 (.recov),m 2 5] (S [m 6 2,oo 7 (.bin .neq (.iface true) 6 (.c .nilIface))] (I 7 (S [m 9 2,oo 10 (.assertT 235 (vA [0]) true 9),m 8 10,X 11 8 0,X 12 8 1,a 3 [0],s 1 3 11,m 4 12] (Q (S [m 13 4,N 14 13] (I 14 (O [m 15 2,on (.panic 15)]))) (O [m 16 0,f 17 0 3,l 18 17,k 19 16,s 1 19 18]))))),none,none⟩
def f143:za:=⟨31,[rt 4],S [o 3 0,m 4 ff] (Q (S [f 5 0 3,l 6 5] (.block 0 (S [eq 8 6 (i 2),m 7 8] (C 7 (S [f 9 1 3,l 10 9,f 11 0 1,l 12 11,e 13 12,lt 14 10 13,m 4 14] .ret) (S [eq 16 6 (i 3),m 15 16] (C 15 (S [f 17 1 3,l 18 17,f 19 2 2,l 20 19,e 21 20,lt 22 18 21,m 4 22] .ret) (S [eq 24 6 (i 4),m 23 24] (I 23 (S [f 25 1 3,l 26 25,f 27 0 2,l 28 27,e 29 28,lt 30 26 29,m 4 30] .ret))))))))) (S [m 4 tt] .ret)),none,none⟩
def f147:za:=⟨52,[rt 5],S [o 4 0,m 5 ff] (Q (Q (.draw [f 7 1 4,f 8 1 7,l 9 8,f 10 1 1,l 11 10,e 12 11,gE 13 9 12,m 14 13,g 14 Bf (f 15 1 4),g 14 Bf (f 16 2 15),g 14 Bf (l 17 16),g 14 Bf (e 18 17),g 14 Bf (l 19 2),g 14 Bf (f 20 1 4),g 14 Bf (f 21 1 20),g 14 Bf (l 22 21),g 14 Bf (x 23 1 19 22),g 14 Bf (l 24 23),g 14 Bf (ne 25 18 24),P 26 14 tt 25]) (I 26 (S [m 5 ff] .ret))) (S [f 27 1 1,l 28 27,f 29 1 4,f 30 1 29,l 31 30,x 32 4 28 31,f 33 0 32,l 34 33,m 6 34] (S [m 35 6,eq 36 35 (i 6),m 37 36,g 37 Bf (m 38 6),g 37 Bf (eq 39 38 (i 7)),P 40 37 tt 39,m 41 40,g 41 Bf (m 42 6),g 41 Bf (eq 43 42 (i 8)),P 44 41 tt 43,m 45 44,g 45 Bt (f 46 1 4),g 45 Bt (f 47 2 46),g 45 Bt (l 48 47),g 45 Bt (l 49 3),g 45 Bt (c 50 93 [48,49]),P 51 45 50 ff,m 5 51] .ret))),none,none⟩
def f148:za:=⟨9,[rt 3],S [m 3 ff] (S [m 4 0,f 5 0 1,l 6 5,e 7 6,lt 8 4 7,m 3 8] .ret),none,none⟩
def f152:za:=⟨8,[rt 3],S [m 3 ff] (S [l 4 1,m 5 0,oo 6 (.call 4 [5]),N 7 6,m 3 7] .ret),none,none⟩
def f156:za:=⟨8,[rt 3],S [o 2 0,m 3 ff] (S [l 4 1,n 5 2 2,oo 6 (.call 4 [5]),N 7 6,m 3 7] .ret),none,none⟩
def f160:za:=⟨8,[rt 3],S [o 2 0,m 3 ff] (S [l 4 1,n 5 4 2,oo 6 (.call 4 [5]),N 7 6,m 3 7] .ret),none,none⟩
def f196:za:=⟨22,[rt 4],S [m 4 cS] (S [m 5 cS] (Q (S [f 7 1 1,l 8 7,e 9 8,m 10 (i 0)] (L 0 (S [lt 11 10 9] (Q (Z 11 0) (Q (.block 2 (S [m 12 10,m 6 12] (O [m 13 5,l 14 2,m 15 0,m 16 6,oo 17 (.call 14 [15,16]),oo 18 (.buildSlice 1 1 [0] [(0,17)]),A 19 1 8 13 18,m 5 19]))) (O [ad 20 10 (i 1),m 10 20])))))) (S [m 21 5,m 4 21] .ret))),none,none⟩
def f210:za:=⟨20,[],S [oo 5 (.recov),m 2 5] (S [m 6 2,oo 7 (.bin .neq (.iface true) 6 (.c .nilIface))] (I 7 (S [m 9 2,oo 10 (.assertT 273 (vA [0]) true 9),m 8 10,X 11 8 0,X 12 8 1,a 3 [0],s 1 3 11,m 4 12] (Q (S [m 13 4,N 14 13] (I 14 (O [m 15 2,on (.panic 15)]))) (O [m 16 0,f 17 0 3,l 18 17,k 19 16,s 1 19 18]))))),none,none⟩
def f223:za:=⟨85,[],S [o 5 0] (S [l 9 2,ad 10 9 (i 1),s 1 2 10] (S [l 11 2,lE 12 11 (i 60),m 13 12,g 13 Bt (m 14 1),g 13 Bt (lE 15 14 (i 12)),P 16 13 15 ff,c 17 212 [16]] (Q (S [f 18 0 5,l 19 18] (.block 0 (S [eq 22 19 (i 1),m 21 22] (C 21 (O [f 23 1 5,l 24 23,gE 25 24 (i (-1000000000)),m 26 25,g 26 Bt (f 27 1 5),g 26 Bt (l 28 27),g 26 Bt (lE 29 28 (i 1000000000)),P 30 26 29 ff,m 31 30,g 31 Bt (f 32 2 5),g 31 Bt (l 33 32),g 31 Bt (e 34 33),g 31 Bt (eq 35 34 (i 0)),P 36 31 35 ff,c 37 212 [36]]) (S [eq 39 19 (i 2),m 38 39] (C 38 (O [f 40 1 5,l 41 40,gE 42 41 (i 0),m 43 42,g 43 Bt (f 44 1 5),g 43 Bt (l 45 44),g 43 Bt (l 46 3),g 43 Bt (lt 47 45 46),P 48 43 47 ff,m 49 48,g 49 Bt (f 50 2 5),g 49 Bt (l 51 50),g 49 Bt (e 52 51),g 49 Bt (eq 53 52 (i 0)),P 54 49 53 ff,c 55 212 [54]]) (Q (S [eq 57 19 (i 3),m 56 57] (C 56 .skip (S [eq 58 19 (i 4),m 56 58] (C 56 .skip (S [eq 59 19 (i 5),m 56 59] (C 56 .skip (S [eq 60 19 (i 6),m 56 60] (C 56 .skip (O [eq 61 19 (i 7),m 56 61]))))))))) (C 56 (O [f 62 1 5,l 63 62,eq 64 63 (i 0),m 65 64,g 65 Bt (f 66 2 5),g 65 Bt (l 67 66),g 65 Bt (e 68 67),g 65 Bt (eq 69 68 (i 2)),P 70 65 69 ff,c 71 212 [70]]) (O [c 20 212 [ff]]))))))))) (S [f 72 2 5,l 73 72,e 74 73,m 75 (i 0)] (L 2 (S [lt 76 75 74] (Q (Z 76 2) (Q (.block 4 (S [x 77 3 73 75,n 78 3 77,a 8 [0,0,vS],s 3 8 78] (O [l 79 4,n 80 3 8,m 81 1,ad 82 81 (i 1),oo 83 (.call 79 [80,82])]))) (O [ad 84 75 (i 1),m 75 84]))))))))),none,none⟩
def f224:za:=⟨13,[],O [m 3 0,gE 4 3 (i 0),m 5 4,g 5 Bt (m 6 0),g 5 Bt (f 7 1 1),g 5 Bt (l 8 7),g 5 Bt (e 9 8),g 5 Bt (lE 10 6 9),P 11 5 10 ff,c 12 212 [11]],none,none⟩
def tab0:List (Nat×za):=[(212,f212),(131,f131),(120,f120),(116,f116),(98,f98),(170,f170),(214,f214),(217,f217),(76,f76),(204,f204),(207,f207),(60,f60),(94,f94),(161,f161),(241,f241),(114,f114),(136,f136),(168,f168),(79,f79),(115,f115),(140,f140),(119,f119),(218,f218),(245,f245),(183,f183),(189,f189),(206,f206),(43,f43),(73,f73),(26,f26),(41,f41),(93,f93),(155,f155),(174,f174),(36,f36),(63,f63)]
def tab1:List (Nat×za):=[(64,f64),(81,f81),(84,f84),(97,f97),(101,f101),(102,f102),(142,f142),(209,f209),(215,f215),(222,f222),(54,f54),(182,f182),(13,f13),(19,f19),(49,f49),(50,f50),(55,f55),(80,f80),(85,f85),(91,f91),(95,f95),(96,f96),(99,f99),(100,f100),(138,f138),(141,f141),(151,f151),(157,f157),(159,f159),(162,f162),(172,f172),(175,f175),(176,f176),(184,f184),(186,f186),(191,f191)]
def tab2:List (Nat×za):=[(192,f192),(208,f208),(37,f37),(72,f72),(86,f86),(87,f87),(123,f123),(127,f127),(130,f130),(146,f146),(169,f169),(194,f194),(195,f195),(211,f211),(213,f213),(216,f216),(219,f219),(220,f220),(221,f221),(242,f242),(243,f243),(35,f35),(38,f38),(48,f48),(59,f59),(75,f75),(78,f78),(126,f126),(129,f129),(132,f132),(133,f133),(134,f134),(135,f135),(137,f137),(139,f139),(164,f164)]
def tab3:List (Nat×za):=[(165,f165),(166,f166),(185,f185),(187,f187),(188,f188),(190,f190),(193,f193),(10,f10),(11,f11),(17,f17),(21,f21),(22,f22),(24,f24),(30,f30),(31,f31),(32,f32),(33,f33),(34,f34),(42,f42),(44,f44),(53,f53),(61,f61),(62,f62),(71,f71),(74,f74),(77,f77),(82,f82),(92,f92),(113,f113),(124,f124),(128,f128),(143,f143),(147,f147),(148,f148),(152,f152),(156,f156)]
def tab4:List (Nat×za):=[(160,f160),(196,f196),(210,f210),(223,f223),(224,f224)]
def tabC:List (Nat×za):=tab0++tab1++tab2++tab3++tab4
def tabF:List (Nat×za):=[(83,(zkV (insP 3 40) f83))]++tabC
def F:FuncId→Option za:=lookE tabF
end Go.Ideal.X
end
noncomputable section
namespace Go.Ideal.X
open Go Go.Ideal
theorem c0:AllC Go.Proofs.Tryz.prog tab0:=by unfold AllC;kernel_rfl
end Go.Ideal.X
end
noncomputable section
namespace Go.Ideal.X
open Go Go.Ideal
theorem c1:AllC Go.Proofs.Tryz.prog tab1:=by unfold AllC;kernel_rfl
end Go.Ideal.X
end
noncomputable section
namespace Go.Ideal.X
open Go Go.Ideal
theorem c2:AllC Go.Proofs.Tryz.prog tab2:=by unfold AllC;kernel_rfl
end Go.Ideal.X
end
noncomputable section
namespace Go.Ideal.X
open Go Go.Ideal
theorem c3:AllC Go.Proofs.Tryz.prog tab3:=by unfold AllC;kernel_rfl
end Go.Ideal.X
end
noncomputable section
namespace Go.Ideal.X
open Go Go.Ideal
theorem c4:AllC Go.Proofs.Tryz.prog tab4:=by unfold AllC;kernel_rfl
end Go.Ideal.X
end
