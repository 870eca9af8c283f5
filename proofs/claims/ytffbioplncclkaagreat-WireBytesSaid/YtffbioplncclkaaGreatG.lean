/- A part of the proof: the ideal machine, and what the functions of the program answer over it. -/
import Derived.ProofKit
import Derived.JoinedOf
import Derived.Test.YtffbioplncclkaaGreatRows
import Derived.RowKitTokens
import Derived.ChangeVars
import Derived.Stop.Joined
import Derived.Test.YtffbioplncclkaaGreatF
set_option linter.unusedSimpArgs false
set_option linter.unusedVariables false
set_option linter.unusedSectionVars false
namespace Go.Ideal
open Go.ChangeShapes Go.WideShapes Go.RowKit
noncomputable section
variable {P:Program} {W:World}
theorem cell_heap {b o:Nat} {v:Value} (h:W.cell? ⟨b,o,none⟩=some v): ∃c t fr,W.heap[b]? =some (.cells c t fr)∧c[o]? =some v:=by
 unfold World.cell? at h
 dsimp only at h
 split at h
 ·rename_i c t fr hb
  exact⟨c,t,fr,hb,by simpa using h⟩
 ·cases h
theorem zjv {b o n:Nat}:(⟨b,o,none⟩:Addr).add n=⟨b,o+n,none⟩:=by
 unfold Addr.add
 split
 ·rename_i e;subst e;rfl
 ·rfl
theorem list_of {α:Type} {Q:Nat→α→Prop}: ∀n,(∀i,i<n→ ∃x,Q i x)→ ∃l:List α,l.length=n∧ ∀i x,l[i]? =some x→Q i x
 |0,_=>⟨[],rfl,fun i x h=>by simp at h⟩
 |n+1,h=>by
  obtain⟨l,hl,hq⟩:=list_of n fun i hi=>h i (by omega)
  obtain⟨x,hx⟩:=h n (by omega)
  refine⟨l++[x],by simp[hl],fun i y hy=> ?_⟩
  by_cases e:i<n
  ·rw[List.getElem?_append_left (by omega)] at hy;exact hq i y hy
  ·rw[List.getElem?_append_right (by omega)] at hy
   have:i=n:=by
    rcases Nat.lt_or_ge (i - l.length) 1 with h'|h'
    ·omega
    ·rw[List.getElem?_eq_none (by simpa using h')] at hy;cases hy
   subst this
   rw[hl,Nat.sub_self] at hy;simp at hy;subst hy;exact hx
theorem slice_ok {r:Reach} {base:Nat} {t e:TypeId} {v:Value} (ht:P.underlying t=some (.slice e)) (h:Cell.okWide P W r base t v): ∀a len cap,v=.slice (some a) len cap→a.spot=none∧zbU W a.block=true:=by
 rintro a len cap rfl
 unfold Cell.okWide at h
 rw[ht] at h
 dsimp only at h
 unfold Cell.ok at h
 rw[ht] at h
 obtain⟨_,_,_,hs,row,cells,hsh,_⟩:=h
 refine⟨hs,?_⟩
 unfold World.shape? at hsh
 unfold zbU
 split at hsh
 ·rename_i hb;rw[hb]
 ·cases hsh
def impW (W:World):Wd:=⟨fun _=>none,fun b=>match(impH W).get b with
 |some (.cells cs e)=>some (cs,e)
 |_=>none⟩
def VM.nil:VM:=⟨0,fun _=>none⟩
theorem impW_Z {W:World} {b:Nat} {cs:List Value} {e:Nat} (h:(impH W).get b=some (.cells cs e)):(impW W).Z b=some (cs,e):=by
 show(match(impH W).get b with|some (.cells cs e)=>some (cs,e)|_=>none)=_
 rw[h]
theorem imp_HRel (W:World):HRel (impW W) VM.nil (impH W) where
 wf:=fun j o st h=>by cases h
 dom:=fun j R h=>by cases h
 zd:=fun b z h=>by
  have h:(match(impH W).get b with|some (.cells cs e)=>some (cs,e)|_=>none)=some z:=h
  split at h
  ·rename_i cs e hg
   cases h
   refine⟨?_,hg⟩
   rw[zhE] at hg
   rw[impH_next]
   cases hb:W.heap[b]? with
   |none=>rw[hb] at hg;cases hg
   |some o=>exact Nat.lt_succ_of_lt (Array.getElem?_eq_some_iff.1 hb).1
  ·cases h
 obj:=fun j o st R h=>by cases h
 inj:=fun i j R S h=>by cases h
section
variable {H:Type} {enc:TypeId×Value→H} {base:Nat} {spare:Nat→Bool} {held:Bool}
theorem zcB {t:TypeId} {k:IntKind} {fuel:Nat} {c:Value} {x:DataW H×List MemPlace} (ht:P.underlying t=some (.int k)) (h:DataW.trod enc P W base spare held fuel t [c]=some x): ∃n,c=.int k n∧(Lit.int k n).wf=true:=by
 obtain⟨n,e,_,hw⟩:=DataW.trod_int ht h
 cases e;exact⟨n,rfl,hw⟩
end
theorem v_calls {F:FuncId→Option ze} (hmix:P.follows .mixedOrders=true) (hF: ∀g cf,F g=some cf→FnOk P g cf) {g:FuncId} {ds:List DV} {args:Array Value} {W:World}
 (hc:zj F (.fn g [] []) ds VM.nil (fun d _=>d=.bool true) fun _ _=>False) (hargs: ∀v∈args.toList,okArg W v=true) (hr:LRel (impW W) ds args.toList):
 Calls P g args W fun e W'=>e=.returned (.bool true)∧Same W W':=by
 obtain⟨n,o,he,ho⟩:=hc (impW W) (impH W) (.func (.func g) #[] #[]) args.toList (imp_HRel W) (.fn g rfl rfl (fun k d v h=>by simp at h) (fun k d v h=>by simp at h)) hr
 cases o with
 |val v h1=>
  obtain⟨w1,M1,d,q1,q2,q3,rfl⟩:=ho
  cases q3
  exact calls_import hmix hF hargs he fun i hi=>q1.rest i (by rw[impH_next];omega) (fun j R h=>by cases h)
 |pan=>obtain⟨_,_,_,_,_,_,q⟩:=ho;exact q.elim
 |nrm=>exact ho.elim
 |exit=>exact ho.elim
 |ret=>exact ho.elim
end
end Go.Ideal
set_option maxRecDepth 100000
set_option maxHeartbeats 4000000
namespace Go.Proofs.YtffbioplncclkaaGreat
open Go.ChangeShapes Go.WideShapes Go.RowKit Go.Ideal Go.Ideal.S
theorem own:ownKnob Tryz.prog.godebug=none:=by kernel_rfl
theorem laidOut:laidOutB Tryz.prog=true:=by kernel_rfl
theorem ci1:Tryz.prog.cellsOf 3=1:=by kernel_rfl
theorem ck1:Tryz.prog.cellsOf 58=1:=by kernel_rfl
theorem cs1:Tryz.prog.cellsOf 36=1:=by kernel_rfl
theorem cV2:Tryz.prog.cellsOf 60=2:=by kernel_rfl
def vSv (v:Sv):List Value:=[.int .i64 v.k,.int .i64 v.n]
theorem LRel1 {w:Wd} {d:DV} {v:Value} (h:VRel w d v):LRel w [d] [v]:=⟨rfl,fun k d' v' hd hv=>by
 match k with
 |0=>cases hd;cases hv;exact h
 |k+1=>simp at hd⟩
theorem LRel.cons {w:Wd} {d:DV} {v:Value} {ds:List DV} {vs:List Value} (h:VRel w d v) (hs:LRel w ds vs):LRel w (d::ds) (v::vs):=⟨by simp[hs.len],fun k d' v' hd hv=>by
 match k with
 |0=>cases hd;cases hv;exact h
 |k+1=>exact hs.at_ k _ _ (by simpa using hd) (by simpa using hv)⟩
section
variable {H:Type} {enc:TypeId×Value→H} {W:World} {base b:Nat} {r:Reach} {spare:Nat→Bool} {held:Bool} {v:Value} {d:DataW H} {ps:List MemPlace}
theorem str_in (hval:Value.okWide Tryz.prog W r base 9 v): ∃l:List UInt8,v=.string (mkS l):=by
 unfold Value.okWide at hval
 rw[Tryz.underlying9] at hval
 have h:Cell.okWide Tryz.prog W r base 9 v:=hval
 unfold Cell.okWide at h
 rw[Tryz.underlying9] at h
 have h:Cell.ok Tryz.prog W r base 9 v:=h
 unfold Cell.ok at h
 rw[Tryz.underlying9] at h
 cases v<;>first|exact h.elim|skip
 obtain⟨l,hl⟩:=mkS_of ‹ByteArray›
 exact⟨l,by rw[hl]⟩
theorem sv_of_trod {fuel:Nat} {cs:List Value} {x:DataW H×List MemPlace} (h:DataW.trod enc Tryz.prog W b spare held fuel 60 cs=some x): ∃a:Sv,cs=vSv a:=by
 obtain⟨xs,n,_,_,hl,hlen,hf⟩:=DataW.trod_struct Tryz.underlying60 h
 rw[cV2] at hl
 match cs,hl with
 | [d0,d1],_=>
   have e0:DataW.trod enc Tryz.prog W b spare held n 58 (([d0,d1].drop 0).take (Tryz.prog.cellsOf 58))=xs[0]?:=hf 0 _ rfl
   have e1:DataW.trod enc Tryz.prog W b spare held n 3 (([d0,d1].drop 1).take (Tryz.prog.cellsOf 3))=xs[1]?:=hf 1 _ rfl
   rw[ck1] at e0
   rw[ci1] at e1
   match xs,hlen with
   | [y0,y1],_=>
     obtain⟨p,rfl,_⟩:=zcB Tryz.underlying58 (show DataW.trod enc Tryz.prog W b spare held n 58 [d0]=some y0 from e0)
     obtain⟨q,rfl,_⟩:=zcB Tryz.underlying3 (show DataW.trod enc Tryz.prog W b spare held n 3 [d1]=some y1 from e1)
     exact⟨⟨p,q⟩,rfl⟩
end
end Go.Proofs.YtffbioplncclkaaGreat
set_option maxRecDepth 10000
set_option maxHeartbeats 1000000
namespace Go.Ideal.S
open Go Go.Ideal Q Classical
attribute [local simp] decide_eq_true decide_eq_false zT
variable {M M' B:VM} {k kp:DV→VM→Prop} {n0 j:Nat}
structure Qu where
 ch:Int
 ms:List (List Sv)
structure Wt where
 nth:Int
 pl:Int
 nd:Int
 env:List Sv
structure Pc where
 sp:List Int
 qs:List Qu
 ws:List Wt
def eInt (n:Int):List DV:=[I n]
def eMsg (m:List Sv):List DV:=[.lst 2 (m.map eSv)]
def eQu (q:Qu):List DV:=[I q.ch,.lst 1 (q.ms.map eMsg)]
def eWt (w:Wt):List DV:=[I w.nth,I w.pl,I w.nd,.lst 2 (w.env.map eSv)]
def ePc (x:Pc):List DV:=[.lst 1 (x.sp.map eInt),.lst 2 (x.qs.map eQu),.lst 4 (x.ws.map eWt)]
@[simp] theorem t_Msg (v:List Sv):zd3 1 (eMsg v)=some (eMsg v):=by simp[eMsg]
@[simp] theorem n_Msg (v:List Sv):(eMsg v).length=1:=by simp[eMsg]
@[simp] theorem all_Msg (v:List Sv):(∀x,x∈eMsg v→zu x=true)=True:=eq_true (by simp[eMsg,zu])
@[simp] theorem t_Qu (v:Qu):zd3 2 (eQu v)=some (eQu v):=by simp[eQu]
@[simp] theorem n_Qu (v:Qu):(eQu v).length=2:=by simp[eQu]
@[simp] theorem all_Qu (v:Qu):(∀x,x∈eQu v→zu x=true)=True:=eq_true (by simp[eQu,zu])
@[simp] theorem t_Wt (v:Wt):zd3 4 (eWt v)=some (eWt v):=by simp[eWt]
@[simp] theorem n_Wt (v:Wt):(eWt v).length=4:=by simp[eWt]
@[simp] theorem all_Wt (v:Wt):(∀x,x∈eWt v→zu x=true)=True:=eq_true (by simp[eWt,zu])
@[simp] theorem t_Pc (v:Pc):zd3 3 (ePc v)=some (ePc v):=by simp[ePc]
@[simp] theorem n_Pc (v:Pc):(ePc v).length=3:=by simp[ePc]
@[simp] theorem all_Pc (v:Pc):(∀x,x∈ePc v→zu x=true)=True:=eq_true (by simp[ePc,zu])
@[simp] theorem n_Int (v:Int):(eInt v).length=1:=by simp[eInt]
theorem b_Int {n:Nat} (v:Int): ∀d∈eInt v,zP n d:=by simp[eInt]
theorem b_Msg {n:Nat} (m:List Sv): ∀d∈eMsg m,zP n d:=by
 intro d hd
 simp only[eMsg,List.mem_cons,List.not_mem_nil,or_false] at hd
 subst hd;exact .lst (mapb b_Sv _)
theorem b_Qu {n:Nat} (q:Qu): ∀d∈eQu q,zP n d:=by
 intro d hd
 simp only[eQu,List.mem_cons,List.not_mem_nil,or_false] at hd
 rcases hd with rfl|rfl
 ·exact .int _ _
 ·exact .lst (mapb b_Msg _)
theorem b_Wt {n:Nat} (q:Wt): ∀d∈eWt q,zP n d:=by
 intro d hd
 simp only[eWt,List.mem_cons,List.not_mem_nil,or_false] at hd
 rcases hd with rfl|rfl|rfl|rfl
 ·exact .int _ _
 ·exact .int _ _
 ·exact .int _ _
 ·exact .lst (mapb b_Sv _)
theorem b_Pc {n:Nat} (q:Pc): ∀d∈ePc q,zP n d:=by
 intro d hd
 simp only[ePc,List.mem_cons,List.not_mem_nil,or_false] at hd
 rcases hd with rfl|rfl|rfl
 ·exact .lst (mapb b_Int _)
 ·exact .lst (mapb b_Qu _)
 ·exact .lst (mapb b_Wt _)
attribute [local simp] c_s f_s r_s_1 r_s_2 r_s_3 r_s_4 r_s_5 r_s_6 r_s_7 r_s_9 c_Z f_Z r_Z_1 r_Z_2 c_bl f_bl r_bl_1 r_bl_2 c_by f_by r_by_1 r_by_2
theorem indexI_ok {f:DV} {l:List Int} (p:Int→Bool) (hl:l.length<4000000000000000000) (hf: ∀v∈l,∀{k:DV→VM→Prop},k (.bool (p v)) M→zj F f [I v] M k kp) (hk: ∀r:Int,decide (0≤r)=l.any p→k (I r) M):zj F (.fn n_s [] []) [.lst 1 (l.map eInt),f] M k kp:=by
 refine .fn zdr rfl (by simp[f_s]) ?_
 simp(disch:=((try simp only[zb,za,zc]);omega))
 refine .for (σ:=Unit) c_s_8.eq_1 (fun i _=>[(8,I i)]) (fun _=>M) (fun i _=>(l.take i).any p=false) l.length () (by simp) rfl rfl (fun i _ hi hP again=> ?_) (fun _ hP=> ?_)
 ·rw[List.take_succ_eq_append_getElem hi,List.any_append] at again
  have hf:= @hf l[i] (List.getElem_mem hi)
  have hin:=List.getElem_mem hi
  generalize hx:l[i]=v at*
  simp(disch:=((try simp only[zb,za,zc]);omega)) [hi,hx,eInt]
  refine hf ?_
  cases hp:p v with
  |true=>
   have hk:=hk i (by rw[decide_eq_true (by omega)];exact(List.any_eq_true.2 ⟨v,hin,hp⟩).symm)
   clear again
   simp(disch:=((try simp only[zb,za,zc]);omega))
   exact hk
  |false=>
   have again:=again () (by rw[hP];simp[hp])
   simp at again
   simp(disch:=((try simp only[zb,za,zc]);omega))
   exact again
 ·rw[List.take_length] at hP
  have hk:=hk (-1) (by rw[hP];decide)
  simp(disch:=((try simp only[zb,za,zc]);omega))
  exact hk
theorem containsI_ok {f:DV} {l:List Int} (p:Int→Bool) (hl:l.length<4000000000000000000) (hf: ∀v∈l,∀{k:DV→VM→Prop},k (.bool (p v)) M→zj F f [I v] M k kp) (hk:k (.bool (l.any p)) M):zj F (.fn n_Z [] []) [.lst 1 (l.map eInt),f] M k kp:=by
 refine .fn zcO rfl (by simp[f_Z]) ?_
 simp(disch:=((try simp only[zb,za,zc]);omega))
 refine indexI_ok p hl hf fun r hr=> ?_
 simp(disch:=((try simp only[zb,za,zc]);omega)) [hr]
 exact hk
theorem allI_ok {g:Nat} {l:List Int} (q:Int→Bool) (hl:l.length<4000000000000000000) (hf: ∀v∈l,∀{M:VM} {k:DV→VM→Prop},k (.bool (q v)) M→zj F (.fn g [] []) [I v] M k kp) (hk:k (.bool (l.all q)) M):zj F (.fn n_bl [] []) [.lst 1 (l.map eInt),.fn g [] []] M k kp:=by
 apply zj.back
 refine .fn zkt rfl (by simp[f_bl]) ?_
 simp(disch:=((try simp only[zb,za,zc]);omega))
 refine containsI_ok (fun v=> !q v) hl (fun v hv {k} hk=> ?_) ?_
 ·apply zj.back
  refine .fn zjc rfl (by simp[f_by]) ?_
  simp(disch:=((try simp only[zb,za,zc]);omega))
  refine hf v hv ?_
  simp(disch:=((try simp only[zb,za,zc]);omega))
  exact Back.plain (by simp) (by repeat' (first|assumption|exact zh _ _|apply zm|apply zp|apply zq| ((try simp only[zb,za,zc]);omega))) hk
 ·have e:(!(l.any fun v=> !q v))=l.all q:=by rw[List.not_any_eq_all_not];simp
  generalize (l.any fun v=> !q v)=b at*
  simp(disch:=((try simp only[zb,za,zc]);omega))
  rw[e]
  exact Back.plain (by simp) (by repeat' (first|assumption|exact zh _ _|apply zm|apply zp|apply zq| ((try simp only[zb,za,zc]);omega))) hk
attribute [local simp] c_j f_j r_j_1 r_j_2 r_j_3 r_j_4 r_j_5 r_j_6 r_j_7 r_j_9 c_M f_M r_M_1 r_M_2 c_bd f_bd r_bd_1 r_bd_2 c_bu f_bu r_bu_1 r_bu_2
theorem indexM_ok {f:DV} {l:List (List Sv)} (p:(List Sv)→Bool) (hl:l.length<4000000000000000000) (hf: ∀v∈l,∀{k:DV→VM→Prop},k (.bool (p v)) M→zj F f [DV.agg (eMsg v)] M k kp) (hk: ∀r:Int,decide (0≤r)=l.any p→k (I r) M):zj F (.fn n_j [] []) [.lst 1 (l.map eMsg),f] M k kp:=by
 refine .fn zbW rfl (by simp[f_j]) ?_
 simp(disch:=((try simp only[zb,za,zc]);omega))
 refine .for (σ:=Unit) c_j_8.eq_1 (fun i _=>[(8,I i)]) (fun _=>M) (fun i _=>(l.take i).any p=false) l.length () (by simp) rfl rfl (fun i _ hi hP again=> ?_) (fun _ hP=> ?_)
 ·rw[List.take_succ_eq_append_getElem hi,List.any_append] at again
  have hf:= @hf l[i] (List.getElem_mem hi)
  have hin:=List.getElem_mem hi
  generalize hx:l[i]=v at*
  simp(disch:=((try simp only[zb,za,zc]);omega)) [hi,hx]
  refine hf ?_
  cases hp:p v with
  |true=>
   have hk:=hk i (by rw[decide_eq_true (by omega)];exact(List.any_eq_true.2 ⟨v,hin,hp⟩).symm)
   clear again
   simp(disch:=((try simp only[zb,za,zc]);omega))
   exact hk
  |false=>
   have again:=again () (by rw[hP];simp[hp])
   simp at again
   simp(disch:=((try simp only[zb,za,zc]);omega))
   exact again
 ·rw[List.take_length] at hP
  have hk:=hk (-1) (by rw[hP];decide)
  simp(disch:=((try simp only[zb,za,zc]);omega))
  exact hk
theorem containsM_ok {f:DV} {l:List (List Sv)} (p:(List Sv)→Bool) (hl:l.length<4000000000000000000) (hf: ∀v∈l,∀{k:DV→VM→Prop},k (.bool (p v)) M→zj F f [DV.agg (eMsg v)] M k kp) (hk:k (.bool (l.any p)) M):zj F (.fn n_M [] []) [.lst 1 (l.map eMsg),f] M k kp:=by
 refine .fn zbG rfl (by simp[f_M]) ?_
 simp(disch:=((try simp only[zb,za,zc]);omega))
 refine indexM_ok p hl hf fun r hr=> ?_
 simp(disch:=((try simp only[zb,za,zc]);omega)) [hr]
 exact hk
theorem allM_ok {g:Nat} {l:List (List Sv)} (q:(List Sv)→Bool) (hl:l.length<4000000000000000000) (hf: ∀v∈l,∀{M:VM} {k:DV→VM→Prop},k (.bool (q v)) M→zj F (.fn g [] []) [DV.agg (eMsg v)] M k kp) (hk:k (.bool (l.all q)) M):zj F (.fn n_bd [] []) [.lst 1 (l.map eMsg),.fn g [] []] M k kp:=by
 apply zj.back
 refine .fn zfr rfl (by simp[f_bd]) ?_
 simp(disch:=((try simp only[zb,za,zc]);omega))
 refine containsM_ok (fun v=> !q v) hl (fun v hv {k} hk=> ?_) ?_
 ·apply zj.back
  refine .fn ze1 rfl (by simp[f_bu]) ?_
  simp(disch:=((try simp only[zb,za,zc]);omega))
  refine hf v hv ?_
  simp(disch:=((try simp only[zb,za,zc]);omega))
  exact Back.plain (by simp) (by repeat' (first|assumption|exact zh _ _|apply zm|apply zp|apply zq| ((try simp only[zb,za,zc]);omega))) hk
 ·have e:(!(l.any fun v=> !q v))=l.all q:=by rw[List.not_any_eq_all_not];simp
  generalize (l.any fun v=> !q v)=b at*
  simp(disch:=((try simp only[zb,za,zc]);omega))
  rw[e]
  exact Back.plain (by simp) (by repeat' (first|assumption|exact zh _ _|apply zm|apply zp|apply zq| ((try simp only[zb,za,zc]);omega))) hk
attribute [local simp] c_f f_f r_f_1 r_f_2 r_f_3 r_f_4 r_f_5 r_f_6 r_f_7 r_f_9 c_A f_A r_A_1 r_A_2 c_6 f_6 r_6_1 r_6_2 c_br f_br r_br_1 r_br_2
theorem indexQ_ok {f:DV} {l:List Qu} (p:Qu→Bool) (hl:l.length<4000000000000000000) (hf: ∀v∈l,∀{k:DV→VM→Prop},k (.bool (p v)) M→zj F f [DV.agg (eQu v)] M k kp) (hk: ∀r:Int,decide (0≤r)=l.any p→k (I r) M):zj F (.fn n_f [] []) [.lst 2 (l.map eQu),f] M k kp:=by
 refine .fn zbs rfl (by simp[f_f]) ?_
 simp(disch:=((try simp only[zb,za,zc]);omega))
 refine .for (σ:=Unit) c_f_8.eq_1 (fun i _=>[(8,I i)]) (fun _=>M) (fun i _=>(l.take i).any p=false) l.length () (by simp) rfl rfl (fun i _ hi hP again=> ?_) (fun _ hP=> ?_)
 ·rw[List.take_succ_eq_append_getElem hi,List.any_append] at again
  have hf:= @hf l[i] (List.getElem_mem hi)
  have hin:=List.getElem_mem hi
  generalize hx:l[i]=v at*
  simp(disch:=((try simp only[zb,za,zc]);omega)) [hi,hx]
  refine hf ?_
  cases hp:p v with
  |true=>
   have hk:=hk i (by rw[decide_eq_true (by omega)];exact(List.any_eq_true.2 ⟨v,hin,hp⟩).symm)
   clear again
   simp(disch:=((try simp only[zb,za,zc]);omega))
   exact hk
  |false=>
   have again:=again () (by rw[hP];simp[hp])
   simp at again
   simp(disch:=((try simp only[zb,za,zc]);omega))
   exact again
 ·rw[List.take_length] at hP
  have hk:=hk (-1) (by rw[hP];decide)
  simp(disch:=((try simp only[zb,za,zc]);omega))
  exact hk
theorem containsQ_ok {f:DV} {l:List Qu} (p:Qu→Bool) (hl:l.length<4000000000000000000) (hf: ∀v∈l,∀{k:DV→VM→Prop},k (.bool (p v)) M→zj F f [DV.agg (eQu v)] M k kp) (hk:k (.bool (l.any p)) M):zj F (.fn n_A [] []) [.lst 2 (l.map eQu),f] M k kp:=by
 refine .fn zbm rfl (by simp[f_A]) ?_
 simp(disch:=((try simp only[zb,za,zc]);omega))
 refine indexQ_ok p hl hf fun r hr=> ?_
 simp(disch:=((try simp only[zb,za,zc]);omega)) [hr]
 exact hk
theorem allQ_ok {g:Nat} {l:List Qu} (q:Qu→Bool) (hl:l.length<4000000000000000000) (hf: ∀v∈l,∀{M:VM} {k:DV→VM→Prop},k (.bool (q v)) M→zj F (.fn g [] []) [DV.agg (eQu v)] M k kp) (hk:k (.bool (l.all q)) M):zj F (.fn n_6 [] []) [.lst 2 (l.map eQu),.fn g [] []] M k kp:=by
 apply zj.back
 refine .fn zd8 rfl (by simp[f_6]) ?_
 simp(disch:=((try simp only[zb,za,zc]);omega))
 refine containsQ_ok (fun v=> !q v) hl (fun v hv {k} hk=> ?_) ?_
 ·apply zj.back
  refine .fn zdG rfl (by simp[f_br]) ?_
  simp(disch:=((try simp only[zb,za,zc]);omega))
  refine hf v hv ?_
  simp(disch:=((try simp only[zb,za,zc]);omega))
  exact Back.plain (by simp) (by repeat' (first|assumption|exact zh _ _|apply zm|apply zp|apply zq| ((try simp only[zb,za,zc]);omega))) hk
 ·have e:(!(l.any fun v=> !q v))=l.all q:=by rw[List.not_any_eq_all_not];simp
  generalize (l.any fun v=> !q v)=b at*
  simp(disch:=((try simp only[zb,za,zc]);omega))
  rw[e]
  exact Back.plain (by simp) (by repeat' (first|assumption|exact zh _ _|apply zm|apply zp|apply zq| ((try simp only[zb,za,zc]);omega))) hk
end Go.Ideal.S
namespace Go.Ideal.S
open Go Go.Ideal Q Classical
attribute [local simp] decide_eq_true decide_eq_false zT
variable {M M' B:VM} {k kp:DV→VM→Prop} {n0 j:Nat}
theorem back_lb {d:DV} {s:Nat} {rows:List (List DV)} (hL:Lb M' d s rows) (hf: ∀q,q<M.next→Off d q) (h:SM M.next M M') (hb: ∀r∈rows,∀x∈r,zP M.next x) (hk:k (.lst s rows) M):Back k M d M':=fun hw=>by
 refine⟨.lst s rows,?_,.lst hb,h,hk⟩
 rcases hL.v with⟨rfl,e⟩| ⟨q,op,cap,h2,e,h4,_⟩
 ·rw[e];exact .nilS s
 ·rw[e] at hf⊢
  have hq:M.next≤q:=Classical.byContradiction fun h=>hf q (by omega) rfl
  exact .ms0 h4 (hw q hq) rfl hL.row
attribute [local simp] c_E f_E r_E_1 r_E_2 r_E_3 r_E_4 r_E_5 r_E_6 r_E_7 r_E_9 c_2 f_2 r_2_1 r_2_2
theorem indexInt_ok (l:List Int) (n:Int) (hl:l.length<4000000000000000000) (hk: ∀r:Int,decide (0≤r)=decide (n∈l)→k (I r) M):zj F (.fn n_E [] []) [.lst 1 (l.map eInt),I n] M k kp:=by
 refine .fn ze2 rfl (by simp[f_E]) ?_
 simp(disch:=((try simp only[zb,za,zc]);omega))
 refine .for (σ:=Unit) c_E_8.eq_1 (fun i _=>[(8,I i)]) (fun _=>M) (fun i _=>n∉l.take i) l.length () (by simp) rfl (by simp) (fun i _ hi hP again=> ?_) (fun _ hP=> ?_)
 ·rw[List.take_succ_eq_append_getElem hi] at again
  have hin:=List.getElem_mem hi
  generalize hx:l[i]=v at*
  by_cases hv:n=v
  ·have hk:=hk i (by rw[decide_eq_true (by omega),decide_eq_true (by rw[hv];exact hin)])
   clear again
   simp(disch:=((try simp only[zb,za,zc]);omega)) [hi,hx,eInt,hv]
   exact hk
  ·have again:=again () (fun hm=>by
    rcases List.mem_append.1 hm with hm|hm
    ·exact hP hm
    ·exact hv (List.mem_singleton.1 hm))
   simp at again
   simp(disch:=((try simp only[zb,za,zc]);omega)) [hi,hx,eInt,hv]
   exact again
 ·rw[List.take_length] at hP
  have hk:=hk (-1) (by rw[decide_eq_false hP];decide)
  simp(disch:=((try simp only[zb,za,zc]);omega))
  exact hk
theorem zk9 (l:List Int) (n:Int) (hl:l.length<4000000000000000000) (hk:k (.bool (decide (n∈l))) M):zj F (.fn n_2 [] []) [.lst 1 (l.map eInt),I n] M k kp:=by
 refine .fn zdH rfl (by simp[f_2]) ?_
 simp(disch:=((try simp only[zb,za,zc]);omega))
 refine indexInt_ok l n hl fun r hr=> ?_
 simp(disch:=((try simp only[zb,za,zc]);omega)) [hr]
 exact hk
def zie (l:List Int):List (DV×DV):=l.map fun n=>(I n,.bool true)
theorem find_seen (n:Int): ∀l:List Int,zgB .int (I n) (zie l)=some (if n∈l then some (.bool true) else none)
 | []=>rfl
 |m::l=>by
  show((some (eqI n m)).bind fun b=>match b with|true=>some (some (DV.bool true))|false=>zgB .int (I n) (zie l))=_
  rw[ze9,Option.bind_some]
  by_cases h:n=m
  ·subst h
   rw[decide_eq_true rfl];simp
  ·rw[decide_eq_false h]
   dsimp only
   rw[find_seen n l]
   simp[h]
theorem set_seen (n:Int): ∀l:List Int,n∉l→setD .int (I n) (.bool true) (zie l)=some (zie (l++[n]))
 | [],_=>rfl
 |m::l,h=>by
  have h1:n≠m:=fun e=>h (by rw[e];exact List.mem_cons_self)
  show((some (eqI n m)).bind fun s=>match s with
   |true=>if zcL (zE (I n)) (zE (I m))=true then some ((I n,DV.bool true)::zie l) else none
   |false=>(setD .int (I n) (.bool true) (zie l)).map fun y=>(I m,DV.bool true)::y)=_
  rw[ze9,Option.bind_some,decide_eq_false h1]
  dsimp only
  rw[set_seen n l (fun q=>h (List.mem_cons_of_mem _ q))]
  rfl
attribute [local simp] c_5 f_5 r_5_1 r_5_2 r_5_3 r_5_4 r_5_5 r_5_6 r_5_7 r_5_8 r_5_9 r_5_11
theorem once_ok (l:List Int) (hl:l.length<4000000000000000000) (hk:k (.bool (decide l.Nodup)) M):zj F (.fn n_5 [] []) [.lst 1 (l.map eInt)] M k kp:=by
 apply zj.back
 refine .fn h_wire_once rfl (by simp[f_5]) ?_
 simp(disch:=((try simp only[zb,za,zc]);omega))
 refine .for (σ:=VM) c_5_10.eq_1 (fun i _=>[(9,I i)]) (fun z=>z) (fun i z=>SM M.next M z∧M.next<z.next∧z.obj M.next=some (.map (zie (l.take i)))∧(l.take i).Nodup) l.length (M.new (.map [])) (by simp) rfl ⟨(by repeat' (first|assumption|exact zh _ _|apply zm|apply zp|apply zq| ((try simp only[zb,za,zc]);omega))),by simp,by simp[zie],by simp⟩ (fun i y hi hP again=> ?_) (fun y hP=> ?_)
 ·obtain⟨p1,p2,p3,p4⟩:=hP
  have hf:=find_seen l[i] (l.take i)
  have hs:=set_seen l[i] (l.take i)
  have hin:l.take (i+1)=l.take i++[l[i]]:=List.take_succ_eq_append_getElem hi
  rw[hin] at again
  generalize hx:l[i]=v at*
  have hl1:lkE .int (.bool false) false (I v) (some (zie (l.take i)))=some (zcY (.bool false) false (if v∈l.take i then some (.bool true) else none)):=by
   show(match zbb .int (I v) (I v) with|some _=>(zgB .int (I v) (zie (l.take i))).map (zcY (.bool false) false)|none=>none)=_
   rw[hf];rfl
  by_cases hv:v∈l.take i
  ·rw[if_pos hv] at hl1
   have hnd: ¬l.Nodup:=fun h=>by
    have h1:=List.Sublist.nodup (List.take_sublist (i+1) l) h
    rw[hin] at h1
    have:=(List.nodup_append.1 h1).2.2 v hv v (List.mem_singleton.2 rfl)
    exact this rfl
   rw[decide_eq_false hnd] at hk
   clear again
   simp(disch:=((try simp only[zb,za,zc]);omega)) [hi,hx,eInt,p3,hl1,zcY]
   exact Back.plain (by simp) p1 hk
  ·rw[if_neg hv] at hl1
   have hs:=hs hv
   have hu:updD .int y (I v) (.bool true) (.map M.next)=some (y.put M.next (.map (zie (l.take i++[v])))):=by
    show(y.obj M.next).bind _=_
    rw[p3]
    show(zbb .int (I v) (I v)).bind (fun _=>(setD .int (I v) (.bool true) (zie (l.take i))).map fun es=>y.put M.next (.map es))=_
    rw[hs];rfl
   have again:=again (y.put M.next (.map (zie (l.take i++[v])))) ⟨(by repeat' (first|assumption|exact zh _ _|apply zm|apply zp|apply zq| ((try simp only[zb,za,zc]);omega))),by simp;omega,by simp,by
    refine List.nodup_append.2 ⟨p4,by simp,fun a ha b hb e=> ?_⟩
    rw[List.mem_singleton.1 hb] at e
    exact hv (by rw[←e];exact ha)⟩
   simp at again
   simp(disch:=((try simp only[zb,za,zc]);omega)) [hi,hx,eInt,p3,hl1,zcY,hu]
   exact again
 ·obtain⟨p1,p2,p3,p4⟩:=hP
  rw[List.take_length] at p4
  rw[decide_eq_true p4] at hk
  simp(disch:=((try simp only[zb,za,zc]);omega))
  exact Back.plain (by simp) p1 hk
attribute [local simp] c_p f_p r_p_1 r_p_2 r_p_3 r_p_4 r_p_5 r_p_6 r_p_7 r_p_9 r_bB c_bB f_bB r_bB_1 r_bB_2
theorem fine2_ok (q:Qu) (hk:k (I q.ch) M):zj F (.fn n_bB [] []) [.agg (eQu q)] M k kp:=by
 apply zj.back
 refine .fn h_wire_fine_2 rfl (by simp[f_bB]) ?_
 simp(disch:=((try simp only[zb,za,zc]);omega)) [eQu]
 exact Back.plain (by simp) (by repeat' (first|assumption|exact zh _ _|apply zm|apply zp|apply zq| ((try simp only[zb,za,zc]);omega))) hk
theorem eachQ_ok (l:List Qu) (hl:l.length≤1000000) (hk:k (.lst 1 ((l.map Qu.ch).map eInt)) M):zj F (.fn n_p [] []) [.lst 2 (l.map eQu),(.fn n_bB [] [])] M k kp:=by
 apply zj.back
 refine .fn zcN rfl (by simp[f_p]) ?_
 simp(disch:=((try simp only[zb,za,zc]);omega))
 refine .for (σ:=VM×DV) c_p_8.eq_1 (fun i z=>[(5,z.2),(10,I i)]) (fun z=>z.1) (fun i z=>SM M.next M z.1∧M.next≤z.1.next∧Lb z.1 z.2 1 (((l.take i).map Qu.ch).map eInt)∧ ∀q,q<M.next→Off z.2 q) l.length (M,.nilS) (by simp) rfl ⟨(by repeat' (first|assumption|exact zh _ _|apply zm|apply zp|apply zq| ((try simp only[zb,za,zc]);omega))),Nat.le_refl _,.nil _ _,fun _ _=>trivial⟩ (fun i z hi hP again=> ?_) (fun z hP=> ?_)
 ·obtain⟨y,d⟩:=z
  obtain⟨p1,p2,p3,p4⟩:=hP
  dsimp only at*
  rw[List.take_succ_eq_append_getElem hi] at again
  generalize hx:l[i]=v at*
  have wQ:zJ [I 0,.nilS] 0 (eQu v)=some (eQu v):=rfl
  simp(disch:=((try simp only[zb,za,zc]);omega)) [hi,hx,wQ]
  refine fine2_ok v ?_
  simp(disch:=((try simp only[zb,za,zc]);omega))
  have kq: ∀q,q<y.next→((y.new (.rows false 2 [[.int .i64 0,.nilS]])).put y.next (.rows false 2 [eQu v])).get q=y.get q:=fun q hq=>by rw[get_put,if_neg (by omega),get_new,if_neg (by omega)]
  have p3y:=p3.keepA (M2:=(y.new (.rows false 2 [[.int .i64 0,.nilS]])).put y.next (.rows false 2 [eQu v])) (by simp;omega) kq
  refine zgd (p3y.new _) (new:=[eInt v.ch]) (by simp[eInt]) (by decide) (by simp[eInt]) (by simp) (by simp;omega) fun d' M' hL hG=> ?_
  have nx:=hG.pre.nx
  simp at nx
  have again:=again (M',d') ⟨fun q hq=>by rw[hG.pre.kp q (by simp;omega) (p4 q hq),kq q (by omega)];exact p1 q hq,by dsimp only;omega,by simpa using hL,fun q hq=>hG.pre.of q (by simp;omega) (p4 q hq)⟩
  simp at again
  simp(disch:=((try simp only[zb,za,zc]);omega))
  exact again
 ·obtain⟨y,d⟩:=z
  obtain⟨p1,p2,p3,p4⟩:=hP
  dsimp only at*
  rw[List.take_length] at p3
  simp(disch:=((try simp only[zb,za,zc]);omega))
  exact back_lb p3 p4 p1 (mapb b_Int _) hk
def QueV (q:Qu):Prop:=(0≤q.ch∧q.ch<60)∧(1≤q.ms.length∧q.ms.length≤12)∧ ∀m∈q.ms,MsgV m
attribute [local simp] r_bA c_bA f_bA r_bA_1 r_bA_2 r_bz c_bz f_bz r_bz_1 r_bz_2
theorem fine1_ok (n:Int) (hk:k (.bool (decide (0≤n∧n<24))) M):zj F (.fn n_bA [] []) [I n] M k kp:=by
 apply zj.back
 refine .fn h_wire_fine_1 rfl (by simp[f_bA]) ?_
 simp(disch:=((try simp only[zb,za,zc]);omega))
 refine zgu _ _ ?_
 generalize decide (0≤n∧n<24)=b at*
 simp(disch:=((try simp only[zb,za,zc]);omega))
 exact Back.plain (by simp) (by repeat' (first|assumption|exact zh _ _|apply zm|apply zp|apply zq| ((try simp only[zb,za,zc]);omega))) hk
theorem fine3_ok (q:Qu) (hl:q.ms.length<4000000000000000000) (hm: ∀m∈q.ms,m.length<4000000000000000000) (hk:k (.bool (decide (QueV q))) M):zj F (.fn n_bz [] []) [.agg (eQu q)] M k kp:=by
 apply zj.back
 refine .fn h_wire_fine_3 rfl (by simp[f_bz]) ?_
 simp(disch:=((try simp only[zb,za,zc]);omega)) [eQu]
 refine zgu _ _ ?_
 by_cases h1:0≤q.ch∧q.ch<60
 ·rw[decide_eq_true h1]
  by_cases h2:1≤q.ms.length
  ·have h2i:(1:Int)≤q.ms.length:=by omega
   by_cases h3:q.ms.length≤12
   ·have h3i:(q.ms.length:Int)≤12:=by omega
    simp(disch:=((try simp only[zb,za,zc]);omega)) [eQu,h2i,h3i]
    refine allM_ok (fun m=>decide (MsgV m)) hl (fun m hmm {M k} hk=>message_ok m (hm m hmm) hk) ?_
    have e:q.ms.all (fun m=>decide (MsgV m))=decide (QueV q):=by
     rw[Bool.eq_iff_iff,List.all_eq_true,decide_eq_true_iff]
     exact⟨fun h=>⟨h1,⟨h2,h3⟩,fun v hv=>of_decide_eq_true (h v hv)⟩,fun h v hv=>decide_eq_true (h.2.2 v hv)⟩
    rw[e]
    simp(disch:=((try simp only[zb,za,zc]);omega))
    exact Back.plain (by simp) (by repeat' (first|assumption|exact zh _ _|apply zm|apply zp|apply zq| ((try simp only[zb,za,zc]);omega))) hk
   ·have h3i: ¬(q.ms.length:Int)≤12:=by omega
    rw[decide_eq_false (fun h=>h3 h.2.1.2)] at hk
    simp(disch:=((try simp only[zb,za,zc]);omega)) [eQu,h2i,h3i]
    exact Back.plain (by simp) (by repeat' (first|assumption|exact zh _ _|apply zm|apply zp|apply zq| ((try simp only[zb,za,zc]);omega))) hk
  ·have h2i: ¬(1:Int)≤q.ms.length:=by omega
   rw[decide_eq_false (fun h=>h2 h.2.1.1)] at hk
   simp(disch:=((try simp only[zb,za,zc]);omega)) [eQu,h2i]
   exact Back.plain (by simp) (by repeat' (first|assumption|exact zh _ _|apply zm|apply zp|apply zq| ((try simp only[zb,za,zc]);omega))) hk
 ·rw[decide_eq_false h1]
  rw[decide_eq_false (fun h=>h1 h.1)] at hk
  simp(disch:=((try simp only[zb,za,zc]);omega))
  exact Back.plain (by simp) (by repeat' (first|assumption|exact zh _ _|apply zm|apply zp|apply zq| ((try simp only[zb,za,zc]);omega))) hk
end Go.Ideal.S
set_option maxHeartbeats 2000000
namespace Go.Ideal.S
open Go Go.Ideal Q Classical
attribute [local simp] decide_eq_true decide_eq_false zT
variable {M M' B:VM} {k kp:DV→VM→Prop} {n0 j:Nat}
def zle (sp:List Int) (last:Int) (w:Wt):Prop:=(last<w.nth∧w.nth<40)∧w.pl∈sp∧(0≤w.nd∧w.nd<60)∧ ∀v∈w.env,ValV v
def zfp (ws:List Wt):Nat→Int
 |0=> -1
 |i+1=>match ws[i]? with|some w=>w.nth|none=>0
def WaitsV (sp:List Int) (ws:List Wt):Prop:= ∀i (hi:i<ws.length),zle sp (zfp ws i) ws[i]
def zh3 (x:Pc):Prop:=(1≤x.sp.length∧x.sp.length≤24∧x.qs.length≤60∧x.ws.length≤40)∧x.sp.Nodup∧(∀n∈x.sp,0≤n∧n<24)∧(x.qs.map Qu.ch).Nodup∧(∀q∈x.qs,QueV q)∧WaitsV x.sp x.ws
structure SzP (x:Pc):Prop where
 sp:x.sp.length<1000000
 qs:x.qs.length<1000000
 ws:x.ws.length<1000000
 ms: ∀q∈x.qs,q.ms.length<1000000∧ ∀m∈q.ms,m.length<1000000
 env: ∀w∈x.ws,w.env.length<1000000
attribute [local simp] r_bt c_bt f_bt r_bt_1 r_bt_2 r_bt_3 r_bt_4
theorem fine4_ok {c xq:Nat} {x:Pc} {w:Wt} {last:Int} (hx:SzP x) (hw:w.env.length<1000000) (hc:M.obj c=some (.rows false 1 [[I last]])) (hq:M.obj xq=some (.rows false 3 [ePc x])) (hcn:c<M.next) (hqn:xq<M.next)
 (hk: ∀M',M'.obj c=some (.rows false 1 [[I w.nth]])→M.next≤M'.next→(∀i,i<M.next→i≠c→M'.get i=M.get i)→k (.bool (decide (zle x.sp last w))) M'):zj F (.fn n_bt [] [.ptr c 0 0,.ptr xq 0 0]) [.agg (eWt w)] M k kp:=by
 have hne:xq≠c:=fun e=>by rw[e,hc] at hq;injection hq with hq;injection hq with _ h2 _;cases h2
 have hk:=hk ((M.new (.rows false 4 [eWt w])).put c (.rows false 1 [[I w.nth]])) (by simp) (by simp;omega) fun i hi hn=>by rw[get_put,if_neg hn,get_new,if_neg (by omega)]
 have a1:M.next≠c:=by omega
 refine .fn h_wire_fine_4 rfl (by simp[f_bt]) ?_
 by_cases h1:last<w.nth∧w.nth<40
 ·obtain⟨h1a,h1b⟩:=h1
  simp(disch:=((try simp only[zb,za,zc]);omega)) [eWt,hc,hq,hne,a1,ePc,h1a,h1b]
  refine zk9 x.sp w.pl (by have:=hx.sp;omega) ?_
  by_cases h2:w.pl∈x.sp
  ·rw[decide_eq_true h2]
   simp(disch:=((try simp only[zb,za,zc]);omega)) [eWt,a1]
   refine zgu _ _ ?_
   by_cases h3:0≤w.nd∧w.nd<60
   ·rw[decide_eq_true h3]
    simp(disch:=((try simp only[zb,za,zc]);omega)) [eWt,a1]
    refine allV_ok (fun v=>decide (ValV v)) (by omega) (fun v hv {M k} hk=>value_ok v hk) ?_
    have e:w.env.all (fun v=>decide (ValV v))=decide (zle x.sp last w):=by
     rw[Bool.eq_iff_iff,List.all_eq_true,decide_eq_true_iff]
     exact⟨fun h=>⟨⟨h1a,h1b⟩,h2,h3,fun v hv=>of_decide_eq_true (h v hv)⟩,fun h v hv=>decide_eq_true (h.2.2.2 v hv)⟩
    rw[e]
    unfold eWt at hk
    generalize decide (zle x.sp last w)=b at*
    simp(disch:=((try simp only[zb,za,zc]);omega))
    exact hk
   ·rw[decide_eq_false h3]
    rw[decide_eq_false (fun h=>h3 h.2.2.1)] at hk
    unfold eWt at hk
    simp(disch:=((try simp only[zb,za,zc]);omega))
    exact hk
  ·rw[decide_eq_false h2]
   rw[decide_eq_false (fun h=>h2 h.2.1)] at hk
   unfold eWt at hk
   simp(disch:=((try simp only[zb,za,zc]);omega))
   exact hk
 ·rw[decide_eq_false (fun h=>h1 h.1)] at hk
  unfold eWt at hk
  by_cases h1a:last<w.nth
  ·have h1b: ¬w.nth<40:=fun h=>h1 ⟨h1a,h⟩
   simp(disch:=((try simp only[zb,za,zc]);omega)) [eWt,hc,hq,hne,a1,ePc,h1a,h1b]
   exact hk
  ·simp(disch:=((try simp only[zb,za,zc]);omega)) [eWt,hc,hq,hne,a1,ePc,h1a]
   exact hk
attribute [local simp] c_h f_h r_h_1 r_h_2 r_h_3 r_h_4 r_h_5 r_h_6 r_h_7 r_h_9 c_D f_D r_D_1 r_D_2 c_7 f_7 r_7_1 r_7_2 c_bs f_bs r_bs_1 r_bs_2
theorem indexW_ok {f:DV} {l:List Wt} (p:Nat→Bool) (Inv:Nat→VM→Prop) (hl:l.length<4000000000000000000) (h0:Inv 0 M) (hf: ∀i (hi:i<l.length) {M':VM} {k:DV→VM→Prop},Inv i M'→(∀M'',Inv (i+1) M''→k (.bool (p i)) M'')→zj F f [.agg (eWt l[i])] M' k kp)
 (hk: ∀(r:Int) M' i,Inv i M'→(0≤r↔ ∃q,q<l.length∧p q=true)→k (I r) M'):zj F (.fn n_h [] []) [.lst 4 (l.map eWt),f] M k kp:=by
 refine .fn zbA rfl (by simp[f_h]) ?_
 simp(disch:=((try simp only[zb,za,zc]);omega))
 refine .for (σ:=VM) c_h_8.eq_1 (fun i _=>[(8,I i)]) (fun z=>z) (fun i z=>Inv i z∧ ∀q,q<i→p q=false) l.length M (by simp) rfl ⟨h0,fun q hq=>by omega⟩ (fun i y hi hP again=> ?_) (fun y hP=> ?_)
 ·obtain⟨p1,p2⟩:=hP
  simp(disch:=((try simp only[zb,za,zc]);omega)) [hi]
  refine hf i hi p1 fun M2 i2=> ?_
  cases hp:p i with
  |true=>
   have hk:=hk i M2 (i+1) i2 ⟨fun _=>⟨i,hi,hp⟩,fun _=>by omega⟩
   clear again
   simp(disch:=((try simp only[zb,za,zc]);omega))
   exact hk
  |false=>
   have again:=again M2 ⟨i2,fun q hq=>by
    by_cases e:q=i
    ·rw[e];exact hp
    ·exact p2 q (by omega)⟩
   simp at again
   simp(disch:=((try simp only[zb,za,zc]);omega))
   exact again
 ·obtain⟨p1,p2⟩:=hP
  have hk:=hk (-1) y _ p1 ⟨fun h=>by omega,fun⟨q,h1,h2⟩=>by rw[p2 q h1] at h2;cases h2⟩
  simp(disch:=((try simp only[zb,za,zc]);omega))
  exact hk
theorem containsW_ok {f:DV} {l:List Wt} (p:Nat→Bool) (Inv:Nat→VM→Prop) (hl:l.length<4000000000000000000) (h0:Inv 0 M) (hf: ∀i (hi:i<l.length) {M':VM} {k:DV→VM→Prop},Inv i M'→(∀M'',Inv (i+1) M''→k (.bool (p i)) M'')→zj F f [.agg (eWt l[i])] M' k kp)
 (hk: ∀(r:Bool) M' i,Inv i M'→(r=true↔ ∃q,q<l.length∧p q=true)→k (.bool r) M'):zj F (.fn n_D [] []) [.lst 4 (l.map eWt),f] M k kp:=by
 refine .fn zbp rfl (by simp[f_D]) ?_
 simp(disch:=((try simp only[zb,za,zc]);omega))
 refine indexW_ok p Inv hl h0 hf fun r M' i hi hr=> ?_
 have hk:=hk (decide (0≤r)) M' i hi (by rw[decide_eq_true_iff];exact hr)
 simp(disch:=((try simp only[zb,za,zc]);omega))
 exact hk
theorem allW_ok {c xq:Nat} {x:Pc} (hx:SzP x) (hc:M.obj c=some (.rows false 1 [[I (-1)]])) (hq:M.obj xq=some (.rows false 3 [ePc x])) (hcn:c<M.next) (hqn:xq<M.next)
 (hk: ∀M',M.next≤M'.next→(∀i,i<M.next→i≠c→M'.get i=M.get i)→k (.bool (decide (WaitsV x.sp x.ws))) M'):zj F (.fn n_7 [] []) [.lst 4 (x.ws.map eWt),.fn n_bt [] [.ptr c 0 0,.ptr xq 0 0]] M k kp:=by
 have hne:xq≠c:=fun e=>by rw[e,hc] at hq;injection hq with hq;injection hq with _ h2 _;cases h2
 have a1:M.next≠c:=by omega
 refine .fn zes rfl (by simp[f_7]) ?_
 simp(disch:=((try simp only[zb,za,zc]);omega))
 obtain⟨M1,hM1⟩: ∃M1,M1=M.new (.rows false 1 [[.fn n_bt [] [.ptr c 0 0,.ptr xq 0 0]]]):=⟨_,rfl⟩
 have n1:M1.next=M.next+1:=by rw[hM1];simp
 have o1:M1.obj M.next=some (.rows false 1 [[.fn n_bt [] [.ptr c 0 0,.ptr xq 0 0]]]):=by rw[hM1];simp
 have o2:M1.obj c=some (.rows false 1 [[I (-1)]]):=by rw[hM1,zb2 _ hcn];exact hc
 have o3:M1.obj xq=some (.rows false 3 [ePc x]):=by rw[hM1,zb2 _ hqn];exact hq
 have k1: ∀i,i<M.next→M1.get i=M.get i:=fun i hi=>by rw[hM1,get_new,if_neg (by omega)]
 rw[←hM1]
 refine containsW_ok (fun i=>match x.ws[i]? with|some w=> !decide (zle x.sp (zfp x.ws i) w)|none=>false) (fun i y=>y.obj c=some (.rows false 1 [[I (zfp x.ws i)]])∧(∀q,q<M1.next→q≠c→y.get q=M1.get q)∧M1.next≤y.next) (by have:=hx.ws;omega) ⟨o2,fun _ _ _=>rfl,Nat.le_refl _⟩ (fun i hi {y k} hI hk=> ?_) (fun r M' i hI hr=> ?_)
 ·obtain⟨i1,i2,i3⟩:=hI
  have hw:=hx.env _ (List.getElem_mem hi)
  rw[List.getElem?_eq_getElem hi] at hk
  dsimp only at hk
  have b1:y.obj M.next=some (.rows false 1 [[.fn n_bt [] [.ptr c 0 0,.ptr xq 0 0]]]):=by
   show(y.get _).map _=_
   rw[i2 _ (by omega) a1];exact o1
  have b3:y.obj xq=some (.rows false 3 [ePc x]):=by
   show(y.get _).map _=_
   rw[i2 _ (by omega) hne];exact o3
  have hlast:zfp x.ws (i+1)=x.ws[i].nth:=by show(match x.ws[i]? with|some w=>w.nth|none=>0)=_;rw[List.getElem?_eq_getElem hi]
  generalize hxw:x.ws[i]=w at*
  refine .fn zd7 rfl (by simp[f_bs]) ?_
  have l1:M.next<y.next:=by omega
  simp(disch:=((try simp only[zb,za,zc]);omega)) [b1,l1]
  refine fine4_ok (x:=x) (last:=zfp x.ws i) hx hw (by rw[zb2 _ (by omega)];exact i1) (by rw[zb2 _ (by omega)];exact b3) (by simp;omega) (by simp;omega) fun M2 c1 c2 c3=> ?_
  simp at c2
  have hk:=hk M2 ⟨by rw[hlast];exact c1,fun q hq hqc=>by rw[c3 q (by simp;omega) hqc,get_new,if_neg (by omega)];exact i2 q hq hqc,by omega⟩
  generalize decide (zle x.sp (zfp x.ws i) w)=b at*
  simp(disch:=((try simp only[zb,za,zc]);omega))
  exact hk
 ·obtain⟨i1,i2,i3⟩:=hI
  have hk:=hk M' (by omega) fun q hq hqc=>by rw[i2 q (by omega) hqc];exact k1 q hq
  have e:(!r)=decide (WaitsV x.sp x.ws):=by
   rw[Bool.eq_iff_iff,decide_eq_true_iff]
   constructor
   ·intro h i hi
    refine Classical.byContradiction fun hn=> ?_
    have:r=true:=hr.2 ⟨i,hi,by rw[List.getElem?_eq_getElem hi];dsimp only;rw[decide_eq_false hn];rfl⟩
    rw[this] at h;cases h
   ·intro h
    cases r with
    |false=>rfl
    |true=>
     obtain⟨q,h1,h2⟩:=hr.1 rfl
     rw[List.getElem?_eq_getElem h1] at h2
     dsimp only at h2
     rw[decide_eq_true (h q h1)] at h2;cases h2
  simp(disch:=((try simp only[zb,za,zc]);omega))
  rw[e]
  exact hk
attribute [local simp] r_bA r_bB r_bz r_bt
attribute [local simp] c_x f_x r_x_5 r_x_6 r_x_7 r_x_8 r_x_9 r_x_10 r_x_11
theorem fine_ok (x:Pc) (hx:SzP x) (hk:k (.bool (decide (zh3 x))) M):zj F (.fn n_x [] []) [.agg (ePc x)] M k kp:=by
 have s1:=hx.sp;have s2:=hx.qs;have s3:=hx.ws
 apply zj.back
 refine .fn h_wire_fine rfl (by simp[f_x]) ?_
 by_cases h1:1≤x.sp.length∧x.sp.length≤24∧x.qs.length≤60∧x.ws.length≤40
 ·obtain⟨h1a,h1b,h1c,h1d⟩:=h1
  have j1: ¬(x.sp.length:Int)<1:=by omega
  have j2: ¬(24:Int)<x.sp.length:=by omega
  have j3: ¬(60:Int)<x.qs.length:=by omega
  have j4: ¬(40:Int)<x.ws.length:=by omega
  simp(disch:=((try simp only[zb,za,zc]);omega)) [ePc,j1,j2,j3,j4]
  refine once_ok x.sp (by omega) ?_
  by_cases h2:x.sp.Nodup
  ·rw[decide_eq_true h2]
   simp(disch:=((try simp only[zb,za,zc]);omega)) [ePc]
   refine allI_ok (fun n=>decide (0≤n∧n<24)) (by omega) (fun n hn {M k} hk=>fine1_ok n hk) ?_
   by_cases h3: ∀n∈x.sp,0≤n∧n<24
   ·rw[show x.sp.all (fun n=>decide (0≤n∧n<24))=true from List.all_eq_true.2 fun n hn=>decide_eq_true (h3 n hn)]
    simp(disch:=((try simp only[zb,za,zc]);omega)) [ePc]
    refine eachQ_ok x.qs (by omega) ?_
    simp(disch:=((try simp only[zb,za,zc]);omega))
    rw[←List.map_map]
    refine once_ok (x.qs.map Qu.ch) (by rw[List.length_map];omega) ?_
    by_cases h4:(x.qs.map Qu.ch).Nodup
    ·rw[decide_eq_true h4]
     simp(disch:=((try simp only[zb,za,zc]);omega)) [ePc]
     refine allQ_ok (fun q=>decide (QueV q)) (by omega) (fun q hq {M k} hk=>fine3_ok q (by have:=(hx.ms q hq).1;omega) (fun m hm=>by have:=(hx.ms q hq).2 m hm;omega) hk) ?_
     by_cases h5: ∀q∈x.qs,QueV q
     ·rw[show x.qs.all (fun q=>decide (QueV q))=true from List.all_eq_true.2 fun n hn=>decide_eq_true (h5 n hn)]
      have o1:(((M.new (.rows false 3 [ePc x])).new (.rows false 1 [[I 0]])).put (M.next+1) (.rows false 1 [[I (-1)]])).obj M.next=some (.rows false 3 [ePc x]):=by rw[zcA,if_neg (by omega),zb2 _ (by simp)];simp
      unfold ePc at o1
      simp(disch:=((try simp only[zb,za,zc]);omega)) [ePc]
      refine allW_ok hx (by simp) o1 (by simp) (by simp;omega) fun M2 n2 k2=> ?_
      simp at n2
      rw[decide_eq_decide.2 (show WaitsV x.sp x.ws↔zh3 x from⟨fun h=>⟨⟨h1a,h1b,h1c,h1d⟩,h2,h3,h4,h5,h⟩,fun h=>h.2.2.2.2.2⟩)]
      simp(disch:=((try simp only[zb,za,zc]);omega))
      exact Back.plain (by simp) (fun i hi=>by rw[k2 i (by simp;omega) (by omega),get_put,if_neg (by omega),get_new,if_neg (by simp;omega),get_new,if_neg (by omega)]) hk
     ·rw[show x.qs.all (fun q=>decide (QueV q))=false from by
       rw[Bool.eq_false_iff];exact fun h=>h5 fun q hq=>of_decide_eq_true (List.all_eq_true.1 h q hq)]
      rw[decide_eq_false (fun h=>h5 h.2.2.2.2.1)] at hk
      simp(disch:=((try simp only[zb,za,zc]);omega))
      exact Back.plain (by simp) (by repeat' (first|assumption|exact zh _ _|apply zm|apply zp|apply zq| ((try simp only[zb,za,zc]);omega))) hk
    ·rw[decide_eq_false h4]
     rw[decide_eq_false (fun h=>h4 h.2.2.2.1)] at hk
     simp(disch:=((try simp only[zb,za,zc]);omega))
     exact Back.plain (by simp) (by repeat' (first|assumption|exact zh _ _|apply zm|apply zp|apply zq| ((try simp only[zb,za,zc]);omega))) hk
   ·rw[show x.sp.all (fun n=>decide (0≤n∧n<24))=false from by
     rw[Bool.eq_false_iff];exact fun h=>h3 fun q hq=>of_decide_eq_true (List.all_eq_true.1 h q hq)]
    rw[decide_eq_false (fun h=>h3 h.2.2.1)] at hk
    simp(disch:=((try simp only[zb,za,zc]);omega))
    exact Back.plain (by simp) (by repeat' (first|assumption|exact zh _ _|apply zm|apply zp|apply zq| ((try simp only[zb,za,zc]);omega))) hk
  ·rw[decide_eq_false h2]
   rw[decide_eq_false (fun h=>h2 h.2.1)] at hk
   simp(disch:=((try simp only[zb,za,zc]);omega))
   exact Back.plain (by simp) (by repeat' (first|assumption|exact zh _ _|apply zm|apply zp|apply zq| ((try simp only[zb,za,zc]);omega))) hk
 ·rw[decide_eq_false (fun h=>h1 h.1)] at hk
  by_cases j1:(x.sp.length:Int)<1
  ·simp(disch:=((try simp only[zb,za,zc]);omega)) [ePc,j1]
   exact Back.plain (by simp) (by repeat' (first|assumption|exact zh _ _|apply zm|apply zp|apply zq| ((try simp only[zb,za,zc]);omega))) hk
  ·by_cases j2:(24:Int)<x.sp.length
   ·simp(disch:=((try simp only[zb,za,zc]);omega)) [ePc,j1,j2]
    exact Back.plain (by simp) (by repeat' (first|assumption|exact zh _ _|apply zm|apply zp|apply zq| ((try simp only[zb,za,zc]);omega))) hk
   ·by_cases j3:(60:Int)<x.qs.length
    ·simp(disch:=((try simp only[zb,za,zc]);omega)) [ePc,j1,j2,j3]
     exact Back.plain (by simp) (by repeat' (first|assumption|exact zh _ _|apply zm|apply zp|apply zq| ((try simp only[zb,za,zc]);omega))) hk
    ·have j4:(40:Int)<x.ws.length:=by omega
     simp(disch:=((try simp only[zb,za,zc]);omega)) [ePc,j1,j2,j3,j4]
     exact Back.plain (by simp) (by repeat' (first|assumption|exact zh _ _|apply zm|apply zp|apply zq| ((try simp only[zb,za,zc]);omega))) hk
end Go.Ideal.S
namespace Go.Ideal.S
open Go Go.Ideal Q Classical
attribute [local simp] decide_eq_true decide_eq_false zT
variable {B:Base} {M M':VM} {k kp:DV→VM→Prop} {n0 j:Nat}
def encQ (w:WS) (q:Qu):WS:=q.ms.foldl WS.vals ((w.ref (chn q.ch)).num q.ms.length)
def encW (w:WS) (y:Wt):WS:=(((w.num y.nth.toNat).ref (plc y.pl)).num y.nd.toNat).vals y.env
def encS (w:WS) (n:Int):WS:=w.ref (plc n)
def wsP (x:Pc):WS:=x.ws.foldl encW ((x.qs.foldl encQ ((x.sp.foldl encS ((⟨[],[]⟩:WS).num x.sp.length)).num x.qs.length)).num x.ws.length)
def zhQ (x:Pc):List UInt8:=(wsP x).fin 80
structure Sm (w:WS) (T S:Nat):Prop where
 nm:zfo w.t
 t:w.t.length≤T
 s:(zO w.b).length≤S
theorem Sm.num {w:WS} {T S n:Nat} (h:Sm w T S) (hn:n<1000000000000):Sm (w.num n) T (S+10):=by
 have b1:=big1
 have:=zbc n (by omega)
 have:=h.s
 exact⟨h.nm,h.t,by rw[num_b,List.length_append];omega⟩
theorem Sm.ref {w:WS} {T S:Nat} {v:Sv} (h:Sm w T S) (hv:zcI v) (hT:T≤9000000):Sm (w.ref v) (T+1) (S+10):=by
 have h1:=h.t;have h2:=h.s
 obtain⟨a,b,c⟩:=ref_len hv h.nm (by omega)
 exact⟨a,by omega,by omega⟩
theorem Sm.vals {w:WS} {T S:Nat} {l:List Sv} (h:Sm w T S) (hv: ∀v∈l,ValV v) (hT:T+l.length≤9000000):Sm (w.vals l) (T+l.length) (S+10+10*l.length):=by
 have h1:=h.t;have h2:=h.s
 obtain⟨a,b,c⟩:=svals_len hv h.nm (by omega)
 exact⟨a,by omega,by omega⟩
theorem Sm.mono {w:WS} {T S T' S':Nat} (h:Sm w T S) (h1:T≤T') (h2:S≤S'):Sm w T' S':=⟨h.nm,by have:=h.t;omega,by have:=h.s;omega⟩
theorem zjk {n:Int} (h:0≤n∧n<24):zcI (plc n):=.inr (.inr ⟨rfl,h⟩)
theorem name_chn {n:Int} (h:0≤n∧n<60):zcI (chn n):=.inr (.inl ⟨rfl,h⟩)
attribute [local simp] c_n f_n r_n_1 r_n_2 r_n_3 r_n_4 r_n_5 r_n_6 r_n_7 r_n_8 r_n_10 r_n_11 r_n_12 r_n_13 r_n_14 r_n_15 r_n_16 r_n_17 r_n_18 r_n_19 r_n_20 r_n_22 r_n_24 r_n_25 r_n_26 r_n_27 r_n_28 r_n_29 r_n_30 r_n_31 r_n_32 r_n_34
theorem bytes_ok {x:Pc} (hf:zh3 x) (he: ∀w∈x.ws,w.env.length<100000) (hk:k (St (zhQ x)) M):zj F (.fn n_n [] []) [.agg (ePc x)] M k kp:=by
 obtain⟨⟨f1,f2,f3,f4⟩,f5,f6,f7,f8,f9⟩:=hf
 have b0:=big62
 apply zj.back
 refine .fn h_wire_bytes rfl (by simp[f_n]) ?_
 simp(disch:=((try simp only[zb,za,zc]);omega))
 refine write_ok fun j M1 h1=> ?_
 have ob: ∀{y:VM} {w:WS},WrS (bas (M.new (.rows false 3 [ePc x]))) y j w→y.obj M.next=some (.rows false 3 [ePc x]):=fun h=>by rw[h.obj (by simp)];simp
 have sm1:=ob h1
 have s0:Sm ⟨[],[]⟩ 0 0:=⟨(fun x hx=>by cases hx),Nat.le_refl _,Nat.le_refl _⟩
 have s1:=s0.num (n:=x.sp.length) (by omega)
 simp(disch:=((try simp only[zb,za,zc]);omega)) [sm1,ePc]
 refine zd4 h1 x.sp.length (by omega) (by decide) fun M2 h2=> ?_
 have sm2:=ob h2
 simp(disch:=((try simp only[zb,za,zc]);omega)) [sm2,ePc]
 refine .for (σ:=VM) c_n_9.eq_1 (fun i _=>[(21,I i)]) (fun z=>z) (fun i z=>WrS (bas (M.new (.rows false 3 [ePc x]))) z j ((x.sp.take i).foldl encS ((⟨[],[]⟩:WS).num x.sp.length))∧Sm ((x.sp.take i).foldl encS ((⟨[],[]⟩:WS).num x.sp.length)) i (10+10*i)) x.sp.length M2 (by simp) rfl ⟨h2,s1⟩ (fun i y hi hP again=> ?_) (fun y hP=> ?_)
 ·obtain⟨p1,p2⟩:=hP
  have hv:=f6 _ (List.getElem_mem hi)
  rw[List.take_succ_eq_append_getElem hi,List.foldl_append] at again
  simp only[List.foldl_cons,List.foldl_nil] at again
  generalize (x.sp.take i).foldl encS ((⟨[],[]⟩:WS).num x.sp.length)=u at*
  generalize hx:x.sp[i]=v at*
  simp(disch:=((try simp only[zb,za,zc]);omega)) [hi,hx,eInt]
  refine splace_ok p1 v (by have:=p2.t;omega) (by have:=p2.s;omega) fun M3 h3=> ?_
  have again:=again M3 ⟨h3,(p2.ref (zjk hv) (by omega)).mono (by omega) (by omega)⟩
  simp at again
  simp(disch:=((try simp only[zb,za,zc]);omega))
  exact again
 ·obtain⟨p1,p2⟩:=hP
  rw[List.take_length] at p1 p2
  have q2:=p2.num (n:=x.qs.length) (by omega)
  generalize hu:x.sp.foldl encS ((⟨[],[]⟩:WS).num x.sp.length)=u at*
  have smy:=ob p1
  simp(disch:=((try simp only[zb,za,zc]);omega)) [smy,ePc]
  refine zd4 p1 x.qs.length (by omega) (by have:=p2.s;omega) fun M3 h3=> ?_
  have sm3:=ob h3
  simp(disch:=((try simp only[zb,za,zc]);omega)) [sm3,ePc]
  refine .for (σ:=VM) c_n_23.eq_1 (fun i _=>[(37,I i)]) (fun z=>z) (fun i z=>WrS (bas (M.new (.rows false 3 [ePc x]))) z j ((x.qs.take i).foldl encQ (u.num x.qs.length))∧Sm ((x.qs.take i).foldl encQ (u.num x.qs.length)) (24+37*i) (260+500*i)) x.qs.length M3 (by simp) rfl ⟨h3,q2.mono (by omega) (by omega)⟩ (fun i y hi hP again=> ?_) (fun y hP=> ?_)
  ·obtain⟨p1,p2⟩:=hP
   obtain⟨v1,⟨v2,v3⟩,v4⟩:=f8 _ (List.getElem_mem hi)
   rw[List.take_succ_eq_append_getElem hi,List.foldl_append] at again
   simp only[List.foldl_cons,List.foldl_nil] at again
   generalize (x.qs.take i).foldl encQ (u.num x.qs.length)=w at*
   generalize hx:x.qs[i]=q at*
   have wQ:zJ [I 0,.nilS] 0 (eQu q)=some (eQu q):=rfl
   obtain⟨y2,hy2⟩: ∃y2,y2=(y.new (.rows false 2 [[.int .i64 0,.nilS]])).put y.next (.rows false 2 [eQu q]):=⟨_,rfl⟩
   have p1y:=p1.add (.rows false 2 [[.int .i64 0,.nilS]]) (.rows false 2 [eQu q])
   rw[←hy2] at p1y
   have ny: ∀i,(bas (M.new (.rows false 3 [ePc x]))).fr i→i<y.next:=by
    obtain⟨_,_,_,h⟩:=p1
    exact h.nx
   have k2: ∀i,i<y.next→y2.get i=y.get i:=fun i hi=>by rw[hy2,get_put,if_neg (by omega),get_new,if_neg (by omega)]
   have back: ∀{M3:VM} {w':WS},WrS ⟨y2,fun i=>(bas (M.new (.rows false 3 [ePc x]))).fr i∨i=y.next⟩ M3 j w'→WrS (bas (M.new (.rows false 3 [ePc x]))) M3 j w':=fun h=>h.rebase fun i hi=>⟨.inl hi,(k2 i (ny i hi)).trans (p1.sm hi)⟩
   have oq: ∀{M3:VM} {w':WS},WrS ⟨y2,fun i=>(bas (M.new (.rows false 3 [ePc x]))).fr i∨i=y.next⟩ M3 j w'→M3.obj y.next=some (.rows false 2 [eQu q]):=fun h=>by rw[h.obj (.inr rfl),hy2];simp
   have oy:=oq p1y
   have q3:=p2.ref (name_chn v1) (by omega)
   have q4:=q3.num (n:=q.ms.length) (by omega)
   simp(disch:=((try simp only[zb,za,zc]);omega)) [hi,hx,wQ]
   rw[←hy2]
   have f1:oneD (eQu q)=some (I q.ch):=rfl
   simp(disch:=((try simp only[zb,za,zc]);omega)) [f1]
   refine schan_ok p1y q.ch (by have:=p2.t;omega) (by have:=p2.s;omega) fun M4 h4=> ?_
   have o4:=oq h4
   have f2:(eQu q).drop 1=[.lst 1 (q.ms.map eMsg)]:=rfl
   simp(disch:=((try simp only[zb,za,zc]);omega)) [o4,f2]
   refine zd4 h4 q.ms.length (by omega) (by have:=q3.s;omega) fun M5 h5=> ?_
   have o5:=oq h5
   simp(disch:=((try simp only[zb,za,zc]);omega)) [o5,f2]
   have h5b:=back h5
   refine .for (σ:=VM) c_n_21.eq_1 (fun i _=>[(53,I i)]) (fun z=>z) (fun a z=>WrS (bas (M.new (.rows false 3 [ePc x]))) z j ((q.ms.take a).foldl WS.vals ((w.ref (chn q.ch)).num q.ms.length))∧Sm ((q.ms.take a).foldl WS.vals ((w.ref (chn q.ch)).num q.ms.length)) (24+37*i+1+3*a) (260+500*i+20+40*a)) q.ms.length M5 (by simp) rfl ⟨h5b,q4.mono (by omega) (by omega)⟩ (fun a z ha hP2 again2=> ?_) (fun z hP2=> ?_)
   ·obtain⟨r1,r2⟩:=hP2
    obtain⟨m1,m2⟩:=v4 _ (List.getElem_mem ha)
    rw[List.take_succ_eq_append_getElem ha,List.foldl_append] at again2
    simp only[List.foldl_cons,List.foldl_nil] at again2
    generalize (q.ms.take a).foldl WS.vals ((w.ref (chn q.ch)).num q.ms.length)=u2 at*
    generalize hxm:q.ms[a]=m at*
    have wM:zJ [.nilS] 0 (eMsg m)=some (eMsg m):=rfl
    have f3:oneD (eMsg m)=some (.lst 2 (m.map eSv)):=rfl
    have r1y:=r1.keep (M':=(z.new (.rows false 1 [[.nilS]])).put z.next (.rows false 1 [eMsg m])) (by simp;omega) fun i hi=>by rw[get_put,if_neg (by omega),get_new,if_neg (by omega)]
    simp(disch:=((try simp only[zb,za,zc]);omega)) [ha,hxm,wM,f3]
    refine svals_ok r1y m m2 (by have:=r2.t;omega) (by have:=r2.s;omega) fun M6 h6=> ?_
    have again2:=again2 M6 ⟨h6,(r2.vals m2 (by omega)).mono (by omega) (by omega)⟩
    simp at again2
    simp(disch:=((try simp only[zb,za,zc]);omega))
    exact again2
   ·obtain⟨r1,r2⟩:=hP2
    rw[List.take_length] at r1 r2
    have again:=again z ⟨r1,r2.mono (by omega) (by omega)⟩
    simp at again
    simp(disch:=((try simp only[zb,za,zc]);omega))
    exact again
  ·obtain⟨p1,p2⟩:=hP
   rw[List.take_length] at p1 p2
   have q2:=p2.num (n:=x.ws.length) (by omega)
   generalize hu2:x.qs.foldl encQ (u.num x.qs.length)=u2 at*
   have smy:=ob p1
   simp(disch:=((try simp only[zb,za,zc]);omega)) [smy,ePc]
   refine zd4 p1 x.ws.length (by omega) (by have:=p2.s;omega) fun M3 h3=> ?_
   have sm3:=ob h3
   simp(disch:=((try simp only[zb,za,zc]);omega)) [sm3,ePc]
   refine .for (σ:=VM) c_n_33.eq_1 (fun i _=>[(71,I i)]) (fun z=>z) (fun i z=>WrS (bas (M.new (.rows false 3 [ePc x]))) z j ((x.ws.take i).foldl encW (u2.num x.ws.length))∧Sm ((x.ws.take i).foldl encW (u2.num x.ws.length)) (2300+100001*i) (31000+1000050*i)) x.ws.length M3 (by simp) rfl ⟨h3,q2.mono (by omega) (by omega)⟩ (fun i y hi hP again=> ?_) (fun y hP=> ?_)
   ·obtain⟨p1,p2⟩:=hP
    obtain⟨⟨v1,v2⟩,v3,v4,v5⟩:=f9 i hi
    have v6:=f6 _ v3
    have v7:=he _ (List.getElem_mem hi)
    have v8:0≤x.ws[i].nth:=by
     have: -1≤zfp x.ws i:=by
      cases i with
      |zero=>exact Int.le_refl _
      |succ i=>
       have: ∀(i:Nat) (h:i<x.ws.length),0≤x.ws[i].nth:=by
        intro i
        induction i with
        |zero=>
         intro h
         have h1:=(f9 0 h).1.1
         have h2:zfp x.ws 0= -1:=rfl
         omega
        |succ i ih=>
         intro h
         have h0:=ih (by omega)
         have h1:=(f9 (i+1) h).1.1
         have h2:zfp x.ws (i+1)=x.ws[i].nth:=by
          show(match x.ws[i]? with|some w=>w.nth|none=>0)=_
          rw[List.getElem?_eq_getElem (by omega)]
         omega
       have h2:zfp x.ws (i+1)=(x.ws[i]'(by omega)).nth:=by
        show(match x.ws[i]? with|some w=>w.nth|none=>0)=_
        rw[List.getElem?_eq_getElem (by omega)]
       have:=this i (by omega)
       omega
     omega
    rw[List.take_succ_eq_append_getElem hi,List.foldl_append] at again
    simp only[List.foldl_cons,List.foldl_nil] at again
    generalize (x.ws.take i).foldl encW (u2.num x.ws.length)=w at*
    generalize hx:x.ws[i]=q at*
    obtain⟨nth,hnth⟩:=Int.eq_ofNat_of_zero_le v8
    obtain⟨nd,hnd⟩:=Int.eq_ofNat_of_zero_le v4.1
    have wW:zJ [I 0,I 0,I 0,.nilS] 0 (eWt q)=some (eWt q):=rfl
    obtain⟨y2,hy2⟩: ∃y2,y2=(y.new (.rows false 4 [[.int .i64 0,.int .i64 0,.int .i64 0,.nilS]])).put y.next (.rows false 4 [eWt q]):=⟨_,rfl⟩
    have p1y:=p1.add (.rows false 4 [[.int .i64 0,.int .i64 0,.int .i64 0,.nilS]]) (.rows false 4 [eWt q])
    rw[←hy2] at p1y
    have ny: ∀i,(bas (M.new (.rows false 3 [ePc x]))).fr i→i<y.next:=by
     obtain⟨_,_,_,h⟩:=p1
     exact h.nx
    have k2: ∀i,i<y.next→y2.get i=y.get i:=fun i hi=>by rw[hy2,get_put,if_neg (by omega),get_new,if_neg (by omega)]
    have back: ∀{M3:VM} {w':WS},WrS ⟨y2,fun i=>(bas (M.new (.rows false 3 [ePc x]))).fr i∨i=y.next⟩ M3 j w'→WrS (bas (M.new (.rows false 3 [ePc x]))) M3 j w':=fun h=>h.rebase fun i hi=>⟨.inl hi,(k2 i (ny i hi)).trans (p1.sm hi)⟩
    have oq: ∀{M3:VM} {w':WS},WrS ⟨y2,fun i=>(bas (M.new (.rows false 3 [ePc x]))).fr i∨i=y.next⟩ M3 j w'→M3.obj y.next=some (.rows false 4 [eWt q]):=fun h=>by rw[h.obj (.inr rfl),hy2];simp
    have oy:=oq p1y
    have e0:(eWt q)=[I nth,I q.pl,I nd,.lst 2 (q.env.map eSv)]:=by unfold eWt;rw[hnth,hnd]
    have q3:=p2.num (n:=nth) (by omega)
    have q4:=q3.ref (zjk v6) (by omega)
    have q5:=q4.num (n:=nd) (by omega)
    have q6:=q5.vals v5 (by omega)
    have eW:encW w q=(((w.num nth).ref (plc q.pl)).num nd).vals q.env:=by unfold encW;rw[hnth,hnd];rfl
    rw[eW] at again
    rw[e0] at oy wW
    simp(disch:=((try simp only[zb,za,zc]);omega)) [hi,hx,wW,e0]
    rw[e0] at hy2
    rw[←hy2]
    refine zd4 p1y nth (by omega) (by have:=p2.s;omega) fun M4 h4=> ?_
    have o4:=oq h4
    rw[e0] at o4
    simp(disch:=((try simp only[zb,za,zc]);omega)) [o4]
    refine splace_ok h4 q.pl (by have:=q3.t;omega) (by have:=q3.s;omega) fun M5 h5=> ?_
    have o5:=oq h5
    rw[e0] at o5
    simp(disch:=((try simp only[zb,za,zc]);omega)) [o5]
    refine zd4 h5 nd (by omega) (by have:=q4.s;omega) fun M6 h6=> ?_
    have o6:=oq h6
    rw[e0] at o6
    simp(disch:=((try simp only[zb,za,zc]);omega)) [o6]
    refine svals_ok h6 q.env v5 (by have:=q5.t;omega) (by have:=q5.s;omega) fun M7 h7=> ?_
    have again:=again M7 ⟨back h7,q6.mono (by omega) (by omega)⟩
    simp at again
    simp(disch:=((try simp only[zb,za,zc]);omega))
    exact again
   ·obtain⟨p1,p2⟩:=hP
    rw[List.take_length] at p1 p2
    have hwp:wsP x=x.ws.foldl encW (u2.num x.ws.length):=by unfold wsP;rw[hu,hu2]
    unfold zhQ at hk
    rw[hwp] at hk
    simp(disch:=((try simp only[zb,za,zc]);omega))
    refine send_ok p1 80 (fun v hv=>(p2.nm v hv).small) (by have:=p2.t;omega) (by have:=p2.s;omega) fun M4 n4 k4=> ?_
    simp(disch:=((try simp only[zb,za,zc]);omega))
    exact Back.plain (by simp) (fun i hi=>by rw[k4 i (by show i<_;simp;omega)];show(M.new _).get i=_;rw[get_new,if_neg (by omega)]) hk
end Go.Ideal.S
namespace Go.Ideal.S
open Go Go.Ideal Q Classical
attribute [local simp] decide_eq_true decide_eq_false zT
variable {B M M' y y':VM} {k kp:DV→VM→Prop} {n0 j:Nat} {t:List Sv} {l r r':List UInt8} {dn d1 d2 d3 d':DV} {sp:List Int} {qs:List Qu} {ws:List Wt}
theorem RdE.putO (h:RdE B y j t l dn) {q:Nat} (hq:j≠q) (hB:B.next≤q) (ho:Off dn q) (o:MO):RdE B (y.put q o) j t l dn:=by
 have a:=h.j2;have c:=h.nx
 exact⟨zm h.sm hB,by simp;omega,h.j1,by simp;omega,by rw[zcA,if_neg hq];exact h.oj,h.ln.put ho o,h.fn⟩
theorem RdE.keepQ (h:RdE B y j t l dn) {q:Nat} (hj:j<q) (hd: ∀i,¬Off dn i→i<q) (hB:B.next≤q) (hn:y.next≤y'.next) (hk: ∀i,i<q→y'.get i=y.get i):RdE B y' j t l dn:=by
 have a:=h.j2;have c:=h.nx
 refine⟨fun i hi=>(hk i (by omega)).trans (h.sm i hi),by omega,h.j1,by omega,?_,h.ln.keep hn fun i hi hno=>hk i (hd i hno),h.fn⟩
 rw[←h.oj];show(y'.get j).map _=(y.get j).map _;rw[hk j hj]
structure PcE (B M y:VM) (j:Nat) (t:List Sv) (r:List UInt8) (dn d1 d2 d3:DV) (sp:List Int) (qs:List Qu) (ws:List Wt):Prop where
 rd:RdE B y j t r dn
 kj:Kj j M y
 nx:M.next+2≤y.next
 hj:j<M.next
 hB:B.next≤M.next
 hd: ∀i,¬Off dn i→i<M.next
 o2:y.obj M.next=some (.rows false 3 [[.nilS,.nilS,.nilS]])
 o3:y.obj (M.next+1)=some (.rows false 3 [[d1,d2,d3]])
 l1:Lb y d1 1 (sp.map eInt)
 l2:Lb y d2 2 (qs.map eQu)
 l3:Lb y d3 4 (ws.map eWt)
 fr: ∀i,i<M.next+2→Off d1 i∧Off d2 i∧Off d3 i
theorem PcE.dnO (h:PcE B M y j t r dn d1 d2 d3 sp qs ws) {i:Nat} (hi:M.next≤i):Off dn i:=Classical.byContradiction fun hn=>by have:=h.hd i hn;omega
theorem PcE.frame (h:PcE B M y j t r dn d1 d2 d3 sp qs ws) {q:Nat} (hq:M.next+2≤q) (hb: ∀i,q≤i→Off d1 i∧Off d2 i∧Off d3 i) (hn:y.next≤y'.next) (hk: ∀i,i<q→y'.get i=y.get i):PcE B M y' j t r dn d1 d2 d3 sp qs ws:=by
 have a:=h.hj;have b:=h.hB;have c:=h.nx
 have ob: ∀i,i<q→y'.obj i=y.obj i:=fun i hi=>by show(y'.get i).map _=(y.get i).map _;rw[hk i hi]
 refine⟨h.rd.keepQ (q:=q) (by omega) (fun i hi=>by have:=h.hd i hi;omega) (by omega) hn hk,⟨by omega,fun i hi hij=>(hk i (by omega)).trans (h.kj.2 i hi hij)⟩,by omega,a,b,h.hd,by rw[ob _ (by omega)];exact h.o2,by rw[ob _ (by omega)];exact h.o3,h.l1.keep hn fun i hi hno=>hk i ?_,h.l2.keep hn fun i hi hno=>hk i ?_,h.l3.keep hn fun i hi hno=>hk i ?_,h.fr⟩
 ·exact Classical.byContradiction fun hc=>hno (hb i (by omega)).1
 ·exact Classical.byContradiction fun hc=>hno (hb i (by omega)).2.1
 ·exact Classical.byContradiction fun hc=>hno (hb i (by omega)).2.2
theorem PcE.rdk (h:PcE B M y j t r dn d1 d2 d3 sp qs ws) (h':RdE B y' j t r' dn) (kj':Kj j y y'):PcE B M y' j t r' dn d1 d2 d3 sp qs ws:=by
 have a:=h.hj;have b:=h.hB;have c:=h.nx;have e:=kj'.1
 have ob: ∀i,i<y.next→i≠j→y'.obj i=y.obj i:=fun i hi hij=>by show(y'.get i).map _=(y.get i).map _;rw[kj'.2 i hi hij]
 exact⟨h',h.kj.trans kj',by omega,a,b,h.hd,by rw[ob _ (by omega) (by omega)];exact h.o2,by rw[ob _ (by omega) (by omega)];exact h.o3,h.l1.kj (h.fr j (by omega)).1 kj',h.l2.kj (h.fr j (by omega)).2.1 kj',h.l3.kj (h.fr j (by omega)).2.2 kj',h.fr⟩
theorem off2 {s s':Nat} {rows rows':List (List DV)} {d d':DV} (h:Lb y d s rows) (h':Lb y d' s' rows') (hs:s≠s') {i:Nat} (hi: ¬Off d' i):Off d i:=by
 rcases h'.v with⟨_,e⟩| ⟨q,op,cap,q1,e,q2,_⟩
 ·rw[e] at hi;exact absurd trivial hi
 ·rw[e] at hi
  have:i=q:=Classical.byContradiction fun e=>hi e
  subst this
  exact h.off q2 fun op e=>by injection e with _ e4;exact hs e4.symm
theorem PcE.g1 (h:PcE B M y j t r dn d1 d2 d3 sp qs ws) {x:Int} (hL:Lb y' d' 1 ((sp++[x]).map eInt)) (hG:Gro y d1 y' d'):PcE B M (y'.put (M.next+1) (.rows false 3 [[d',d2,d3]])) j t r dn d' d2 d3 (sp++[x]) qs ws:=by
 have a:=h.hj;have b:=h.hB;have c:=h.nx;have e:=hG.nx
 have f0:=fun i (hi:i<M.next+2)=>(h.fr i hi).1
 have f1:=fun i (hi:i<M.next+2)=>hG.of i (by omega) (f0 i hi)
 have r1:=h.rd.gro hG (fun q hq=>f0 q (by omega)) (f0 j (by omega)) (fun q hq=>f0 q (by have:=h.hd q hq;omega))
 refine⟨r1.putO (by omega) (by omega) (h.dnO (by omega)) _,⟨by simp;omega,fun i hi hij=>by rw[get_put,if_neg (by omega)];exact(h.kj.gro hG fun q hq=>f0 q (by omega)).2 i hi hij⟩,by simp;omega,a,b,h.hd,?_,by simp,hL.put (f1 _ (by omega)) _,(h.l2.keep e fun i hi hno=>hG.kp i hi (off2 h.l1 h.l2 (by decide) hno)).put (h.fr _ (by omega)).2.1 _,(h.l3.keep e fun i hi hno=>hG.kp i hi (off2 h.l1 h.l3 (by decide) hno)).put (h.fr _ (by omega)).2.2 _,fun i hi=>⟨f1 i hi,(h.fr i hi).2.1,(h.fr i hi).2.2⟩⟩
 ·rw[zcA,if_neg (by omega),hG.obj (by omega) (f0 _ (by omega))];exact h.o2
theorem PcE.g2 (h:PcE B M y j t r dn d1 d2 d3 sp qs ws) {x:Qu} (hL:Lb y' d' 2 ((qs++[x]).map eQu)) (hG:Gro y d2 y' d'):PcE B M (y'.put (M.next+1) (.rows false 3 [[d1,d',d3]])) j t r dn d1 d' d3 sp (qs++[x]) ws:=by
 have a:=h.hj;have b:=h.hB;have c:=h.nx;have e:=hG.nx
 have f0:=fun i (hi:i<M.next+2)=>(h.fr i hi).2.1
 have f1:=fun i (hi:i<M.next+2)=>hG.of i (by omega) (f0 i hi)
 have r1:=h.rd.gro hG (fun q hq=>f0 q (by omega)) (f0 j (by omega)) (fun q hq=>f0 q (by have:=h.hd q hq;omega))
 refine⟨r1.putO (by omega) (by omega) (h.dnO (by omega)) _,⟨by simp;omega,fun i hi hij=>by rw[get_put,if_neg (by omega)];exact(h.kj.gro hG fun q hq=>f0 q (by omega)).2 i hi hij⟩,by simp;omega,a,b,h.hd,?_,by simp,(h.l1.keep e fun i hi hno=>hG.kp i hi (off2 h.l2 h.l1 (by decide) hno)).put (h.fr _ (by omega)).1 _,hL.put (f1 _ (by omega)) _,(h.l3.keep e fun i hi hno=>hG.kp i hi (off2 h.l2 h.l3 (by decide) hno)).put (h.fr _ (by omega)).2.2 _,fun i hi=>⟨(h.fr i hi).1,f1 i hi,(h.fr i hi).2.2⟩⟩
 ·rw[zcA,if_neg (by omega),hG.obj (by omega) (f0 _ (by omega))];exact h.o2
theorem PcE.g3 (h:PcE B M y j t r dn d1 d2 d3 sp qs ws) {x:Wt} (hL:Lb y' d' 4 ((ws++[x]).map eWt)) (hG:Gro y d3 y' d'):PcE B M (y'.put (M.next+1) (.rows false 3 [[d1,d2,d']])) j t r dn d1 d2 d' sp qs (ws++[x]):=by
 have a:=h.hj;have b:=h.hB;have c:=h.nx;have e:=hG.nx
 have f0:=fun i (hi:i<M.next+2)=>(h.fr i hi).2.2
 have f1:=fun i (hi:i<M.next+2)=>hG.of i (by omega) (f0 i hi)
 have r1:=h.rd.gro hG (fun q hq=>f0 q (by omega)) (f0 j (by omega)) (fun q hq=>f0 q (by have:=h.hd q hq;omega))
 refine⟨r1.putO (by omega) (by omega) (h.dnO (by omega)) _,⟨by simp;omega,fun i hi hij=>by rw[get_put,if_neg (by omega)];exact(h.kj.gro hG fun q hq=>f0 q (by omega)).2 i hi hij⟩,by simp;omega,a,b,h.hd,?_,by simp,(h.l1.keep e fun i hi hno=>hG.kp i hi (off2 h.l3 h.l1 (by decide) hno)).put (h.fr _ (by omega)).1 _,(h.l2.keep e fun i hi hno=>hG.kp i hi (off2 h.l3 h.l2 (by decide) hno)).put (h.fr _ (by omega)).2.1 _,hL.put (f1 _ (by omega)) _,fun i hi=>⟨(h.fr i hi).1,(h.fr i hi).2.1,f1 i hi⟩⟩
 ·rw[zcA,if_neg (by omega),hG.obj (by omega) (f0 _ (by omega))];exact h.o2
end Go.Ideal.S
set_option maxHeartbeats 4000000
namespace Go.Ideal.S
open Go Go.Ideal Q Classical
attribute [local simp] decide_eq_true decide_eq_false zT
theorem surv_of {X:List CI} {F:FuncId→Option ze} {x:Mo} {bs:List Mo} {s:DS} {M:VM} {n0:Nat} (h: @Dr (rD F n0) (.base ⟨fun _ _=>True,fun _ _ _=>False,fun _ _=>False,fun _ _ _=>False⟩) (X.filter fun p=>Nat.ble p.lo x.idx) (x::bs) s M):wSurv (rD F n0) X (x::bs) s M:=by
 intro w0 M0 h0 w hp t cs hst hs hb
 rcases zeI h hst hs hb with⟨n,t',h',_,_,_,e,_⟩| ⟨_,_,_,_,_,_,_,_,_,_,_,q⟩
 ·exact⟨n,_,e⟩
 ·exact q.elim
theorem zch.pre {F:FuncId→Option ze} {n0:Nat} {L:List (List Bool)} {b:CC} {K:KD} {s s2:DS} {M M2:VM} (hc:Conv M M M2) (hs:SFrz M M2 (zbJ L s) s2) (h:zch F n0 L b K s2 M2):zch F n0 L b K s M:=by
 intro w0 M0 h0 w hp t hst hs'
 exact h w0 M0 h0 _ hp t (hst.conv hst.r (.refl _ _ _) hst.r hc) (hs.rel hst.r (ziu hs' L))
theorem zch.forL {F:FuncId→Option ze} {n0:Nat} {σ:Type} {L:List (List Bool)} {b b':CC} {K:KD} {s:DS} {M:VM} (hb:b=b') (U:Nat→σ→List (Nat×DV)) (G:σ→VM) (P:Nat→σ→Prop) (N:Nat) (x0:σ) (hs:s=zbJ L (upS s (U 0 x0))) (hM:M=G x0) (h0:P 0 x0)
 (step: ∀i x,i<N→P i x→(∀x',P (i+1) x'→zch F n0 L b K (zbJ L (upS s (U (i+1) x'))) (G x'))→ @Cd (rD F n0) (.base (LoK F n0 L b K)) b' (zbJ L (zbJ L (upS s (U i x)))) (G x))
 (last: ∀x,P N x→zch F n0 L b K (zbJ L (upS s (U N x))) (G x)):zch F n0 L b K s M:=by
 have main: ∀m i x,i+m=N→P i x→zch F n0 L b K (zbJ L (upS s (U i x))) (G x):=by
  intro m
  induction m with
  |zero=>intro i x hi hp;obtain rfl:i=N:=by omega
         exact last x hp
  |succ m ih=>intro i x hi hp;exact .go hb (step i x (by omega) hp fun x' hp'=>ih (i+1) x' (by omega) hp')
 have:=main N 0 x0 (by omega) h0
 rw[←hs,←hM] at this
 exact this
theorem DP.of {X:RnD} {fr:FrC} {l:List CI} {bs:List Mo} {s:DS} {M M':VM} {v:DV} (h1:wSurv X l bs s M) (h2:fr.K.pan v [] M'): @DP X fr l bs s M v M':=⟨h1,h2⟩
def zB {α:Type} (f:List UInt8→Option (α×List UInt8)) (l:List UInt8):Option (List α×List UInt8):=(zbz l).bind fun x=>repN f x.1 [] x.2
def queN (t:List Sv) (l:List UInt8):Option (Qu×List UInt8):=(z9 t 3 l).bind fun x=>(zB (zbw t) x.2).map fun z=>(⟨x.1,z.1⟩,z.2)
def zb7 (t:List Sv) (l:List UInt8):Option (Wt×List UInt8):=(getN l).bind fun a=>(z9 t 4 a.2).bind fun b=>(getN b.2).bind fun c=>(zbw t c.2).map fun d=>(⟨a.1,b.1,c.1,d.1⟩,d.2)
def pcN (x:List Sv×List UInt8):Option Pc:=(zB (z9 x.1 4) x.2).bind fun a=>(zB (queN x.1) a.2).bind fun b=>(zB (zb7 x.1) b.2).map fun c=>⟨a.1,b.1,c.1⟩
theorem zjm {α:Type} {f:List UInt8→Option (α×List UInt8)} (hf: ∀l x r,f l=some (x,r)→r.length+1≤l.length) {l:List UInt8} {a:List α} {r:List UInt8} (h:zB f l=some (a,r)):r.length+a.length≤l.length:=by
 unfold zB at h
 cases h1:zbz l with
 |none=>rw[h1] at h;cases h
 |some x=>
  rw[h1,Option.bind_some] at h
  have a1:=zcn (n:=x.1) (r:=x.2) h1
  have b:=zii hf _ _ _ _ _ h
  have c:=zhs _ _ _ _ _ h
  simp at c
  omega
variable {B M M':VM} {k kp:DV→VM→Prop} {n0 j:Nat} {t:List Sv} {l:List UInt8} {dn:DV}
def cutM (y:VM) (q:Nat) (o:MO):VM:=⟨y.next+1,fun i=>if i=q then some (o,y.next) else if i<q then y.get i else none⟩
theorem cutM_lt {y:VM} {q i:Nat} {o:MO} (h:i<q):(cutM y q o).get i=y.get i:=by
 show(if i=q then _ else if i<q then _ else _)=_
 rw[if_neg (by omega),if_pos h]
theorem cutM_obj {y:VM} {q:Nat} {o:MO}:(cutM y q o).obj q=some o:=by
 show((if q=q then some (o,y.next) else _):Option (MO×Nat)).map _=_
 rw[if_pos rfl];rfl
theorem cutM_conv {y:VM} {q:Nat} {o o':MO} (hq:q<y.next) (ho:y.obj q=some o') (hf:FrzO y (cutM y q o) o' o) (hb:zlV (y.next+1) o):Conv y y (cutM y q o):=by
 refine⟨Nat.le_succ _,fun i=> ?_⟩
 by_cases hi:i=q
 ·subst hi
  exact .inr (.inr ⟨o,y.next,o',by show(if i=i then _ else _)=_;rw[if_pos rfl],by show i<y.next+1;omega,Nat.le_refl _,Nat.lt_succ_self _,ho,hf,hb⟩)
 ·by_cases hl:i<q
  ·exact .inl ⟨cutM_lt hl,fun _=>rfl⟩
  ·exact .inr (.inl (by show(if i=q then _ else if i<q then _ else _)=_;rw[if_neg hi,if_neg hl]))
theorem cutM_frz {y:VM} {q s:Nat} {d:DV} {o:MO} {rows:List (List DV)} (hL:Lb y d s rows) (hf: ∀i,i≤q→Off d i):Frz y (cutM y q o) d (.lst s rows):=by
 rcases hL.v with⟨rfl,e⟩| ⟨p,op,cap,h2,e,h4,_⟩
 ·rw[e];exact .nilS s
 ·rw[e] at hf⊢
  have hp:q<p:=Classical.byContradiction fun h=>hf p (by omega) rfl
  exact .ms0 h4 (by show(if p=q then _ else if p<q then _ else _)=_;rw[if_neg (by omega),if_neg (by omega)]) rfl hL.row
attribute [local simp] c_c f_c r_c_1 r_c_2 r_c_3 r_c_4 r_c_5 r_c_6 r_c_8 r_c_9 r_c_10 r_c_11 r_c_12 r_c_13 r_c_14 r_c_16 r_c_17 r_c_19 r_c_20 r_c_21 r_c_22 r_c_23 r_c_24 r_c_25 r_c_26 r_c_27 r_c_29
theorem rdparcel_w (h:RdE B M j t l dn) (hl:l.length≤1000000) (hk: ∀y x r d1 d2 d3,pcN (t,l)=some x→PcE B M y j t r dn d1 d2 d3 x.sp x.qs x.ws→k (.agg [d1,d2,d3]) (y.put M.next (.rows false 3 [[d1,d2,d3]]))) (hp: ∀M',pcN (t,l)=none→Kept B M'→kp zfx M'):zj F (.fn n_c [] []) [.ptr j 0 0] M k kp:=by
 have a:=h.j2
 have c:=h.nx
 have hd: ∀i,¬Off dn i→i<M.next:=fun i hi=>h.ln.ltN hi
 refine .fn zfZ rfl (by simp[f_c]) ?_
 simp(disch:=((try simp only[zb,za,zc]);omega))
 obtain⟨Y,hY⟩: ∃Y,Y=(M.new (.rows false 3 [[.nilS,.nilS,.nilS]])).new (.rows false 3 [[.nilS,.nilS,.nilS]]):=⟨_,rfl⟩
 have yn:Y.next=M.next+2:=by rw[hY];simp
 have yk: ∀i,i<M.next→Y.get i=M.get i:=fun i hi=>by rw[hY,get_new,if_neg (by simp;omega),get_new,if_neg (by omega)]
 have p0:PcE B M Y j t l dn .nilS .nilS .nilS [] [] []:=⟨h.keep (by omega) yk,.all (by omega) yk,by omega,a,c,hd,by rw[hY,zb2 _ (by simp)];simp,by rw[hY,zfK,if_pos (by simp)],.nil _ _,.nil _ _,.nil _ _,fun _ _=>⟨trivial,trivial,trivial⟩⟩
 rw[←hY]
 refine zeh p0.rd (fun M1 N r1 e1 h1 k1=> ?_) (fun M' e h'=> ?_)
 ·obtain⟨w1,w2,w3⟩:=zcn e1
  have p1:=p0.rdk h1 k1
  have hv:zB (z9 t 4) l=repN (z9 t 4) N [] r1:=by unfold zB;rw[e1];rfl
  have hnone:zB (z9 t 4) l=none→pcN (t,l)=none:=fun h=>by unfold pcN;rw[h];rfl
  simp(disch:=((try simp only[zb,za,zc]);omega))
  refine .for (σ:=VM×DV×List Int×List UInt8) c_c_7.eq_1 (fun i z=>[(8,I i)]) (fun z=>z.1) (fun i z=>PcE B M z.1 j t z.2.2.2 dn z.2.1 .nilS .nilS z.2.2.1 [] []∧repN (z9 t 4) (N - i) z.2.2.1 z.2.2.2=zB (z9 t 4) l∧z.2.2.1.length=i) N (M1,.nilS,[],r1) (by simp) rfl ⟨p1,hv.symm,rfl⟩ (fun i z hi hP again=> ?_) (fun z hP=> ?_)
  ·obtain⟨y,d,acc,r⟩:=z
   obtain⟨p,p5,p6⟩:=hP
   dsimp only at*
   have eN:N - i=(N - (i+1))+1:=by omega
   rw[eN] at p5
   simp(disch:=((try simp only[zb,za,zc]);omega)) [hi]
   refine zj9 p.rd 4 (fun M2 x r2 e2 h2 k2=> ?_) (fun M' e h'=> ?_)
   ·have q:=p.rdk h2 k2
    have o3:=q.o3
    have nx:=q.nx
    simp(disch:=((try simp only[zb,za,zc]);omega)) [o3]
    refine⟨.inl (k2.2 _ (by have:=p.nx;omega) (by omega)),q.l1.self,?_⟩
    refine zh4 (q.l1.new _) (new:=[eInt x]) (by simp[eInt]) (by decide) (by simp[eInt]) (by simp) (by simp;omega) fun d' M3 hL hG=> ?_
    have g:=q.g1 (x:=x) (by simpa using hL) hG.pre
    have o4:M3.obj (M.next+1)=some (.rows false 3 [[d,.nilS,.nilS]]):=by rw[hG.pre.obj (by omega) (q.fr _ (by omega)).1];exact o3
    have c1:=hL.cells
    have c2:=hL.cell
    have again:=again (_,d',acc++[x],r2) ⟨g,by rw[←p5,zeg e2],by simp[p6]⟩
    simp at again
    simp(disch:=((try simp only[zb,za,zc]);omega)) [o4,c1,c2]
    exact again
   ·have hp:=hp M' (hnone (by rw[←p5];exact zb9 e)) h'
    clear again
    have o3:=p.o3
    refine DP.of (surv_of ?_) ?_
    ·simp(disch:=((try simp only[zb,za,zc]);omega)) [List.filter_cons,o3]
    ·simp(disch:=((try simp only[zb,za,zc]);omega))
     exact hp
  ·obtain⟨y,d1,sp,r⟩:=z
   obtain⟨p,p5,p6⟩:=hP
   dsimp only at*
   rw[Nat.sub_self] at p5
   have ea:zB (z9 t 4) l=some (sp,r):=p5.symm
   have la:=zjm (fun _ _ _ h=>zgm h) ea
   simp(disch:=((try simp only[zb,za,zc]);omega))
   refine zeh p.rd (fun M1 N r1 e1 h1 k1=> ?_) (fun M' e h'=> ?_)
   ·obtain⟨w1,w2,w3⟩:=zcn e1
    have p1:=p.rdk h1 k1
    have hv:zB (queN t) r=repN (queN t) N [] r1:=by unfold zB;rw[e1];rfl
    have hnone:zB (queN t) r=none→pcN (t,l)=none:=fun h=>by unfold pcN;rw[ea,Option.bind_some];rw[h];rfl
    simp(disch:=((try simp only[zb,za,zc]);omega))
    refine .for (σ:=VM×DV×List Qu×List UInt8) c_c_18.eq_1 (fun i z=>[(20,I i)]) (fun z=>z.1) (fun i z=>PcE B M z.1 j t z.2.2.2 dn d1 z.2.1 .nilS sp z.2.2.1 []∧repN (queN t) (N - i) z.2.2.1 z.2.2.2=zB (queN t) r∧z.2.2.1.length=i∧z.2.2.2.length≤l.length) N (M1,.nilS,[],r1) (by simp) rfl ⟨p1,hv.symm,rfl,by dsimp only;omega⟩ (fun i z hi hP again=> ?_) (fun z hP=> ?_)
    ·obtain⟨y,d2,acc,r⟩:=z
     obtain⟨p,p5,p6,p7⟩:=hP
     dsimp only at*
     have eN:N - i=(N - (i+1))+1:=by omega
     rw[eN] at p5
     simp(disch:=((try simp only[zb,za,zc]);omega)) [hi]
     refine zj9 p.rd 3 (fun M2 ch r2 e2 h2 k2=> ?_) (fun M' e h'=> ?_)
     ·have q:=p.rdk h2 k2
      have l2:=zgm e2
      have nx2:=q.nx
      simp(disch:=((try simp only[zb,za,zc]);omega))
      obtain⟨Z,hZ⟩: ∃Z,Z=(M2.new (.rows false 2 [[I 0,.nilS]])).put M2.next (.rows false 2 [[I ch,.nilS]]):=⟨_,rfl⟩
      have zn:Z.next=M2.next+2:=by rw[hZ];simp
      have zk: ∀i,i<M2.next→Z.get i=M2.get i:=fun i hi=>by rw[hZ,get_put,if_neg (by omega),get_new,if_neg (by omega)]
      have zo:Z.obj M2.next=some (.rows false 2 [[I ch,.nilS]]):=by rw[hZ];simp
      have hoff: ∀i,M2.next≤i→Off d1 i∧Off d2 i∧Off (DV.nilS) i:=fun i hi=>⟨q.l1.offN hi,q.l2.offN hi,trivial⟩
      have qz:=q.frame (q:=M2.next) nx2 hoff (by omega) zk
      rw[←hZ]
      generalize hq4:M2.next=q4 at*
      refine zeh qz.rd (fun M3 N2 r3 e3 h3 k3=> ?_) (fun M' e h'=> ?_)
      ·obtain⟨u1,u2,u3⟩:=zcn e3
       have n3:=k3.1
       have hv2:zB (zbw t) r2=repN (zbw t) N2 [] r3:=by unfold zB;rw[e3];rfl
       have hnone2:zB (zbw t) r2=none→pcN (t,l)=none:=fun h=>hnone (by rw[←p5];exact zb9 (by unfold queN;rw[e2,Option.bind_some,h];rfl))
       have o4:M3.obj q4=some (.rows false 2 [[I ch,.nilS]]):=by
        show(M3.get _).map _=_
        rw[k3.2 _ (by omega) (by omega)];exact zo
       simp(disch:=((try simp only[zb,za,zc]);omega))
       refine zch.forL (σ:=VM×DV×List (List Sv)×List UInt8) c_c_15.eq_1 (fun i z=>[(27,I i)]) (fun z=>z.1) (fun i z=>PcE B M z.1 j t z.2.2.2 dn d1 d2 .nilS sp acc []∧q4<z.1.next∧z.1.obj q4=some (.rows false 2 [[I ch,z.2.1]])∧Lb z.1 z.2.1 1 (z.2.2.1.map eMsg)∧(∀i,i≤q4→Off z.2.1 i)∧repN (zbw t) (N2 - i) z.2.2.1 z.2.2.2=zB (zbw t) r2∧z.2.2.1.length=i∧z.2.2.2.length≤l.length) N2 (M3,.nilS,[],r3) (by simp) rfl ⟨qz.rdk h3 k3,by dsimp only;omega,o4,.nil _ _,fun _ _=>trivial,hv2.symm,rfl,by dsimp only;omega⟩ (fun i2 z hi2 hP again2=> ?_) (fun z hP=> ?_)
       ·obtain⟨y4,dq,ms,r4⟩:=z
        obtain⟨g,g1,g2,g3,g4,g5,g6,g7⟩:=hP
        dsimp only at*
        have eN2:N2 - i2=(N2 - (i2+1))+1:=by omega
        rw[eN2] at g5
        simp(disch:=((try simp only[zb,za,zc]);omega)) [hi2]
        refine rdvals_f g.rd (by omega) (fun M5 vs r5 e5 h5 k5=> ?_) (fun M' e h'=> ?_)
        ·have n5:=k5.1
         have q5:=g.rdk h5 k5
         have g3':=g3.kj (g4 j (by omega)) k5
         have o5:M5.obj q4=some (.rows false 2 [[I ch,dq]]):=by
          show(M5.get _).map _=_
          rw[k5.2 _ g1 (by omega)];exact g2
         have l5:=zgf e5
         simp(disch:=((try simp only[zb,za,zc]);omega)) [o5]
         refine⟨.inl (k5.2 _ g1 (by omega)),g3.self,?_⟩
         refine zh4 (g3'.new _) (new:=[eMsg vs]) (by simp[eMsg]) (by decide) (by simp[eMsg,zu]) (by simp[eMsg]) (by simp;omega) fun d5 M6 hL hG=> ?_
         have hG:=hG.pre
         have n6:=hG.nx
         have o6:M6.obj q4=some (.rows false 2 [[I ch,dq]]):=by rw[hG.obj (by omega) (g4 _ (by omega))];exact o5
         have c1:=hL.cells
         have c2:=hL.cell
         have f5: ∀i,i≤q4→Off d5 i:=fun i hi=>hG.of i (by omega) (g4 i hi)
         have q6:=q5.frame (y':=M6.put q4 (.rows false 2 [[I ch,d5]])) (q:=q4) nx2 hoff (by simp;omega) (fun i hi=>by rw[get_put,if_neg (by omega)];exact hG.kp i (by omega) (g4 i (by omega)))
         have again2:=again2 (M6.put q4 (.rows false 2 [[I ch,d5]]),d5,ms++[vs],r5) ⟨q6,by simp;omega,by simp,(show Lb M6 d5 1 ((ms++[vs]).map eMsg) by simpa using hL).put (f5 q4 (Nat.le_refl _)) _,f5,by rw[←g5,zeg e5],by simp[g6],by dsimp only;omega⟩
         simp at again2
         simp(disch:=((try simp only[zb,za,zc]);omega)) [o6,c1,c2]
         exact again2
        ·have hp:=hp M' (hnone2 (by rw[←g5];exact zb9 e)) h'
         clear again again2
         refine DP.of (surv_of ?_) ?_
         ·simp(disch:=((try simp only[zb,za,zc]);omega)) [List.filter_cons,g2]
         ·simp(disch:=((try simp only[zb,za,zc]);omega))
          exact hp
       ·obtain⟨y4,dq,ms,r4⟩:=z
        obtain⟨g,g1,g2,g3,g4,g5,g6,g7⟩:=hP
        dsimp only at*
        rw[Nat.sub_self] at g5
        have eq1:queN t r=some (⟨ch,ms⟩,r4):=by unfold queN;rw[e2,Option.bind_some,←g5];rfl
        obtain⟨O,hO⟩: ∃O,O=MO.rows false 2 [eQu ⟨ch,ms⟩]:=⟨_,rfl⟩
        have cv:Conv y4 y4 (cutM y4 q4 O):=cutM_conv g1 g2 (by
         rw[hO]
         refine .rows (by simp) rfl fun k d e hd he=> ?_
         match k with
         |0=>cases hd;cases he;exact .refl _
         |1=>cases hd;cases he;exact cutM_frz g3 g4
         |k+2=>simp at hd) (by
         rw[hO]
         refine .rows fun r hr d hd=> ?_
         rw[List.mem_singleton.1 hr] at hd
         exact b_Qu _ d hd)
        have qc:=g.frame (y':=cutM y4 q4 O) (q:=q4) nx2 hoff (Nat.le_succ _) (fun i hi=>cutM_lt hi)
        have oc:(cutM y4 q4 O).obj q4=some O:=cutM_obj
        refine zch.pre cv (SFrz.refl fun x hx=> ?_) ?_
        ·have hn:(cutM y4 q4 O).next=y4.next+1:=rfl
         rw[hn]
         simp at hx
         rcases hx with rfl|rfl|rfl|rfl|rfl|rfl|rfl|rfl
         all_goals first
          |exact .int _ _
          |exact .ptr (by omega)
        ·generalize cutM y4 q4 O=yc at*
         have o3:=qc.o3
         have nc:=qc.nx
         refine .go c_c_15.eq_1 ?_
         simp(disch:=((try simp only[zb,za,zc]);omega)) [o3,oc,hO]
         refine zgd (qc.l2.new _) (new:=[eQu ⟨ch,ms⟩]) (by simp) (by decide) (by simp[eQu,zu]) (by simp[eQu]) (by simp;omega) fun d' M8 hL hG=> ?_
         have hG:=hG.pre
         have q8:=qc.g2 (x:=⟨ch,ms⟩) (by simpa using hL) hG
         have o8:M8.obj (M.next+1)=some (.rows false 3 [[d1,d2,.nilS]]):=by rw[hG.obj (by omega) (qc.fr _ (by omega)).2.1];exact o3
         have c1:=hL.cells
         have c2:=hL.cell
         have again:=again (_,d',acc++[⟨ch,ms⟩],r4) ⟨q8,by rw[←p5,zeg eq1],by simp[p6],g7⟩
         simp at again
         simp(disch:=((try simp only[zb,za,zc]);omega)) [o8,c1,c2]
         exact again
      ·have hp:=hp M' (hnone (by rw[←p5];exact zb9 (by unfold queN;rw[e2,Option.bind_some];unfold zB;rw[e];rfl))) h'
       clear again
       simp(disch:=((try simp only[zb,za,zc]);omega))
       exact hp
     ·have hp:=hp M' (hnone (by rw[←p5];exact zb9 (by unfold queN;rw[e];rfl))) h'
      clear again
      simp(disch:=((try simp only[zb,za,zc]);omega))
      exact hp
    ·obtain⟨y,d2,qs,r0⟩:=z
     obtain⟨p,p5,p6,p7⟩:=hP
     dsimp only at*
     rw[Nat.sub_self] at p5
     have eb:zB (queN t) r=some (qs,r0):=p5.symm
     simp(disch:=((try simp only[zb,za,zc]);omega))
     refine zeh p.rd (fun M1 N r1 e1 h1 k1=> ?_) (fun M' e h'=> ?_)
     ·obtain⟨w1,w2,w3⟩:=zcn e1
      have p1:=p.rdk h1 k1
      have hv:zB (zb7 t) r0=repN (zb7 t) N [] r1:=by unfold zB;rw[e1];rfl
      have hnone:zB (zb7 t) r0=none→pcN (t,l)=none:=fun h=>by unfold pcN;rw[ea,Option.bind_some];rw[eb,Option.bind_some,h];rfl
      simp(disch:=((try simp only[zb,za,zc]);omega))
      refine .for (σ:=VM×DV×List Wt×List UInt8) c_c_28.eq_1 (fun i z=>[(47,I i)]) (fun z=>z.1) (fun i z=>PcE B M z.1 j t z.2.2.2 dn d1 d2 z.2.1 sp qs z.2.2.1∧repN (zb7 t) (N - i) z.2.2.1 z.2.2.2=zB (zb7 t) r0∧z.2.2.1.length=i∧z.2.2.2.length≤l.length) N (M1,.nilS,[],r1) (by simp) rfl ⟨p1,hv.symm,rfl,by dsimp only;omega⟩ (fun i z hi hP again=> ?_) (fun z hP=> ?_)
      ·obtain⟨y,d3,acc,r2⟩:=z
       obtain⟨p,p5,p6,p7⟩:=hP
       dsimp only at*
       have eN:N - i=(N - (i+1))+1:=by omega
       rw[eN] at p5
       have nx2:=p.nx
       have hoff: ∀i,y.next≤i→Off d1 i∧Off d2 i∧Off d3 i:=fun i hi=>⟨p.l1.offN hi,p.l2.offN hi,p.l3.offN hi⟩
       have bad: ∀M',zb7 t r2=none→Kept B M'→kp zfx M':=fun M' e h'=>hp M' (hnone (by rw[←p5];exact zb9 e)) h'
       have n0: ∀o,(y.new o).next=y.next+1:=fun o=>rfl
       have g0:=p.frame (y':=y.new (.rows false 4 [[I 0,I 0,I 0,.nilS]])) (q:=y.next) nx2 hoff (by simp) (fun i hi=>by rw[get_new,if_neg (by omega)])
       have o0:(y.new (.rows false 4 [[I 0,I 0,I 0,.nilS]])).obj y.next=some (.rows false 4 [[I 0,I 0,I 0,.nilS]]):=by simp
       have put: ∀{M2:VM} {r:List UInt8} (o:MO),PcE B M M2 j t r dn d1 d2 d3 sp qs acc→PcE B M (M2.put y.next o) j t r dn d1 d2 d3 sp qs acc:=fun o h=>h.frame (q:=y.next) nx2 hoff (by simp) (fun i hi=>by rw[get_put,if_neg (by omega)])
       have keep: ∀{M2 M3:VM} {o:MO},Kj j M2 M3→y.next<M2.next→M2.obj y.next=some o→M3.obj y.next=some o:=fun{M2 M3 o} h1 h2 h3=>by
        show(M3.get _).map _=_
        rw[h1.2 _ h2 (by omega)];exact h3
       simp(disch:=((try simp only[zb,za,zc]);omega)) [hi]
       generalize hq5:y.next=q5 at*
       refine zeV g0.rd (fun M2 a r3 e3 h3 k3=> ?_) (fun M' e h'=> ?_)
       ·have g1:=put (.rows false 4 [[I (a:Int),I 0,I 0,.nilS]]) (g0.rdk h3 k3)
        have o1:=keep k3 (by rw[n0];omega) o0
        have x3:=ze6 e3
        simp(disch:=((try simp only[zb,za,zc]);omega)) [o1]
        refine zj9 g1.rd 4 (fun M3 b r4 e4 h4 k4=> ?_) (fun M' e h'=> ?_)
        ·have g2:=put (.rows false 4 [[I (a:Int),I b,I 0,.nilS]]) (g1.rdk h4 k4)
         have x2:q5<M2.next:=by have:=k3.1;rw[n0] at this;omega
         have o2:=keep (o:=.rows false 4 [[I (a:Int),I 0,I 0,.nilS]]) k4 (by simp;omega) (by simp)
         have x4:=zgm e4
         have x3':q5<M3.next:=by have:=k4.1;simp at this;omega
         simp(disch:=((try simp only[zb,za,zc]);omega)) [o2]
         refine zeV g2.rd (fun M4 c r5 e5 h5 k5=> ?_) (fun M' e h'=> ?_)
         ·have g3:=put (.rows false 4 [[I (a:Int),I b,I (c:Int),.nilS]]) (g2.rdk h5 k5)
          have o3:=keep (o:=.rows false 4 [[I (a:Int),I b,I 0,.nilS]]) k5 (by simp;omega) (by simp)
          have x5:=ze6 e5
          have x4':q5<M4.next:=by have:=k5.1;simp at this;omega
          simp(disch:=((try simp only[zb,za,zc]);omega)) [o3]
          refine rdvals_f g3.rd (by omega) (fun M5 vs r6 e6 h6 k6=> ?_) (fun M' e h'=> ?_)
          ·have g4:=put (.rows false 4 [[I (a:Int),I b,I (c:Int),.lst 2 (vs.map eSv)]]) (g3.rdk h6 k6)
           have o4:=keep (o:=.rows false 4 [[I (a:Int),I b,I (c:Int),.nilS]]) k6 (by simp;omega) (by simp)
           have x6:=zgf e6
           have x5':q5<M5.next:=by have:=k6.1;simp at this;omega
           have hw:zb7 t r2=some (⟨a,b,c,vs⟩,r6):=by unfold zb7;rw[e3,Option.bind_some];rw[e4,Option.bind_some];rw[e5,Option.bind_some,e6];rfl
           have oR:=g4.o3
           have nY:=g4.nx
           have ne5:M.next+1≠q5:=by omega
           have oR5:=(g3.rdk h6 k6).o3
           simp(disch:=((try simp only[zb,za,zc]);omega)) [o4,oR5,ne5]
           refine zgd (g4.l3.new _) (new:=[eWt ⟨a,b,c,vs⟩]) (by simp[eWt]) (by decide) (by simp[eWt,zu]) (by simp[eWt]) (by simp;omega) fun d' M8 hL hG=> ?_
           have hG:=hG.pre
           have g8:=g4.g3 (x:=⟨a,b,c,vs⟩) (by simpa using hL) hG
           have o8:M8.obj (M.next+1)=some (.rows false 3 [[d1,d2,d3]]):=by rw[hG.obj (by omega) (g4.fr _ (by omega)).2.2];exact oR
           have c1:=hL.cells
           have c2:=hL.cell
           have again:=again (_,d',acc++[⟨a,b,c,vs⟩],r6) ⟨g8,by rw[←p5,zeg hw],by simp[p6],by dsimp only;omega⟩
           simp at again
           simp(disch:=((try simp only[zb,za,zc]);omega)) [o8,c1,c2]
           exact again
          ·have bad:=bad M' (by unfold zb7;rw[e3,Option.bind_some];rw[e4,Option.bind_some];rw[e5,Option.bind_some,e];rfl) h'
           clear again hp
           simp(disch:=((try simp only[zb,za,zc]);omega))
           exact bad
         ·have bad:=bad M' (by unfold zb7;rw[e3,Option.bind_some];rw[e4,Option.bind_some];rw[e];rfl) h'
          clear again hp
          simp(disch:=((try simp only[zb,za,zc]);omega))
          exact bad
        ·have bad:=bad M' (by unfold zb7;rw[e3,Option.bind_some];rw[e];rfl) h'
         clear again hp
         simp(disch:=((try simp only[zb,za,zc]);omega))
         exact bad
       ·have bad:=bad M' (by unfold zb7;rw[e];rfl) h'
        clear again hp
        simp(disch:=((try simp only[zb,za,zc]);omega))
        exact bad
      ·obtain⟨y,d3,ws,r2⟩:=z
       obtain⟨p,p5,p6,p7⟩:=hP
       dsimp only at*
       rw[Nat.sub_self] at p5
       have ex:pcN (t,l)=some ⟨sp,qs,ws⟩:=by unfold pcN;rw[ea,Option.bind_some];rw[eb,Option.bind_some,←p5];rfl
       have o2:=p.o2
       have o3:=p.o3
       have nx2:=p.nx
       have hk:=hk y _ r2 d1 d2 d3 ex p
       have c1:=p.l1.cell
       have c2:=p.l2.cell
       have c3:=p.l3.cell
       simp(disch:=((try simp only[zb,za,zc]);omega)) [o2,o3,c1,c2,c3]
       exact hk
     ·have hp:=hp M' (by unfold pcN;rw[ea,Option.bind_some];rw[eb,Option.bind_some];unfold zB;rw[e];rfl) h'
      simp(disch:=((try simp only[zb,za,zc]);omega))
      exact hp
   ·have hp:=hp M' (by unfold pcN;rw[ea,Option.bind_some];unfold zB;rw[e];rfl) h'
    simp(disch:=((try simp only[zb,za,zc]);omega))
    exact hp
 ·have hp:=hp M' (by unfold pcN zB;rw[e];rfl) h'
  simp(disch:=((try simp only[zb,za,zc]);omega))
  exact hp
end Go.Ideal.S
set_option maxHeartbeats 2000000
namespace Go.Ideal.S
open Go Go.Ideal Q Classical
attribute [local simp] decide_eq_true decide_eq_false zT
variable {B M M':VM} {k kp:DV→VM→Prop} {n0 j:Nat} {t:List Sv} {l:List UInt8} {dn:DV}
theorem rdparcel_f (h:RdE B M j t l dn) (hl:l.length≤1000000) (hk: ∀M' x r,pcN (t,l)=some x→RdE B M' j t r dn→Kj j M M'→k (.agg (ePc x)) M') (hp: ∀M',pcN (t,l)=none→Kept B M'→kp zfx M'):zj F (.fn n_c [] []) [.ptr j 0 0] M k kp:=by
 refine zj.conv (rdparcel_w h hl (fun y x r d1 d2 d3 e p=> ?_) hp)
 have a:=h.j2
 have c:=h.nx
 have nx:=p.nx
 have h':RdE B (y.put M.next (.rows false 3 [[d1,d2,d3]])) j t r dn:=p.rd.putO (by omega) c (p.dnO (Nat.le_refl _)) _
 have kj:Kj j M (y.put M.next (.rows false 3 [[d1,d2,d3]])):=⟨by simp;omega,fun i hi hij=>by rw[get_put,if_neg (by omega)];exact p.kj.2 i hi hij⟩
 have fr:=p.fr
 refine⟨.agg (ePc x),_,rdM_conv h kj h',.agg rfl fun i d e hd he=> ?_,.agg (b_Pc x),hk _ x r e (rdM_rd h h' kj.1) (rdM_kj kj.1)⟩
 match i with
 |0=>cases hd;cases he;exact zka (p.l1.put (fr _ (by omega)).1 _) (fun q hq=>(fr q (by omega)).1) a
 |1=>cases hd;cases he;exact zka (p.l2.put (fr _ (by omega)).2.1 _) (fun q hq=>(fr q (by omega)).2.1) a
 |2=>cases hd;cases he;exact zka (p.l3.put (fr _ (by omega)).2.2 _) (fun q hq=>(fr q (by omega)).2.2) a
 |i+3=>simp at hd
attribute [local simp] r_bC c_bC f_bC r_bC_1
theorem parcel1_ok {b:List UInt8} {q1 q2:Nat} (hl:b.length≤1000000) (h1:M.obj q1=some (.rows false 1 [[St b]])) (h2:M.obj q2=some (.rows false 3 [[.nilS,.nilS,.nilS]])) (hq1:q1<M.next) (hq2:q2<M.next) (hne:q1≠q2)
 (hk: ∀M' x,(zcw b 80).bind pcN=some x→M.next≤M'.next→(∀i,i<M.next→i≠q2→M'.get i=M.get i)→M'.obj q2=some (.rows false 3 [ePc x])→k (.tup []) M')
 (hp: ∀M',(zcw b 80).bind pcN=none→M.next≤M'.next→(∀i,i<M.next→i≠q2→M'.get i=M.get i)→kp zfx M'):zj F (.fn n_bC [] [.ptr q1 0 0,.ptr q2 0 0]) [] M k kp:=by
 refine .fn zku rfl (by simp[f_bC]) ?_
 simp(disch:=((try simp only[zb,za,zc]);omega)) [h1]
 refine start_ok b 80 hl (fun M1 j t r dn e1 r1=> ?_) (fun M1 e1 r1=> ?_)
 ·obtain⟨le1,le2⟩:=startN_le e1
  simp(disch:=((try simp only[zb,za,zc]);omega))
  refine rdparcel_f r1 (by omega) (fun M2 x r2 e2 h2' kj2=> ?_) (fun M2 e2 h2'=> ?_)
  ·have o2:M2.obj q2=some (.rows false 3 [[.nilS,.nilS,.nilS]]):=by show(M2.get q2).map _=_;rw[h2'.sm q2 hq2];exact h2
   have wL:zJ [.nilS,.nilS,.nilS] 0 (ePc x)=some (ePc x):=rfl
   have hk:=hk (M2.put q2 (.rows false 3 [ePc x])) x (by rw[e1,Option.bind_some,e2]) (by have:=h2'.nx;simp;omega) (fun i hi hn=>by rw[get_put,if_neg hn,h2'.sm i hi]) (by simp)
   simp(disch:=((try simp only[zb,za,zc]);omega)) [o2,wL]
   exact hk
  ·have hp:=hp M2 (by rw[e1,Option.bind_some,e2]) h2'.2 fun i hi _=>h2'.1 i hi
   simp(disch:=((try simp only[zb,za,zc]);omega))
   exact hp
 ·have hp:=hp M1 (by rw[e1];rfl) r1.2 fun i hi _=>r1.1 i hi
  simp(disch:=((try simp only[zb,za,zc]);omega))
  exact hp
theorem repN_all {α:Type} {f:List UInt8→Option (α×List UInt8)} {P:α→Prop} {L:Nat} (hf: ∀l x r,l.length≤L→f l=some (x,r)→P x∧r.length≤l.length): ∀(n:Nat) (a:List α) (l:List UInt8) (b:List α) (r:List UInt8),l.length≤L→(∀x∈a,P x)→repN f n a l=some (b,r)→ ∀x∈b,P x
 |0,a,l,b,r,hl,ha,h=>by cases h;exact ha
 |n+1,a,l,b,r,hl,ha,h=>by
  rw[zdn] at h
  cases hx:f l with
  |none=>rw[hx] at h;cases h
  |some y=>
   rw[hx,Option.bind_some] at h
   obtain⟨h1,h2⟩:=hf l y.1 y.2 hl hx
   refine repN_all hf n _ _ b r (by omega) (fun x hx=> ?_) h
   rcases List.mem_append.1 hx with hx|hx
   ·exact ha x hx
   ·rw[List.mem_singleton.1 hx];exact h1
theorem zkm {α:Type} {f:List UInt8→Option (α×List UInt8)} {P:α→Prop} {L:Nat} (hf: ∀l x r,l.length≤L→f l=some (x,r)→P x∧r.length≤l.length) {l:List UInt8} {b:List α} {r:List UInt8} (hl:l.length≤L) (h:zB f l=some (b,r)): ∀x∈b,P x:=by
 unfold zB at h
 cases hm:zbz l with
 |none=>rw[hm] at h;cases h
 |some y=>
  rw[hm,Option.bind_some] at h
  have:=zcn (n:=y.1) (r:=y.2) hm
  exact repN_all hf _ _ _ _ _ (by omega) (by simp) h
theorem queN_all {t:List Sv} {L:Nat} {l:List UInt8} {x:Qu} {r:List UInt8} (hl:l.length≤L) (h:queN t l=some (x,r)):(x.ms.length≤L∧ ∀m∈x.ms,m.length≤L)∧r.length+1≤l.length:=by
 unfold queN at h
 cases h1:z9 t 3 l with
 |none=>rw[h1] at h;cases h
 |some a=>
  rw[h1,Option.bind_some] at h
  have l1:=zgm (n:=a.1) (r:=a.2) h1
  cases h2:zB (zbw t) a.2 with
  |none=>rw[h2] at h;cases h
  |some b=>
   rw[h2] at h;cases h
   have l2:b.2.length+b.1.length≤a.2.length:=by
    have h2:zB (zbw t) a.2=some (b.1,b.2):=h2
    unfold zB at h2
    cases hm:zbz a.2 with
    |none=>rw[hm] at h2;cases h2
    |some y=>
     rw[hm,Option.bind_some] at h2
     have m1:=zcn (n:=y.1) (r:=y.2) hm
     have m2:=zhs _ _ _ _ _ h2
     have m3:=zii (f:=zbw t) (fun l x r h=>by
      have:=zgf h
      unfold zbw at h
      cases hm:zbz l with
      |none=>rw[hm] at h;cases h
      |some y=>
       rw[hm,Option.bind_some] at h
       have q1:=zii (fun _ _ _ h=>valN_le h) _ _ _ _ _ h
       unfold zbz at hm
       cases hg:getN l with
       |none=>rw[hg] at hm;cases hm
       |some z=>
        rw[hg,Option.bind_some] at hm
        have q2:=ze6 (n:=z.1) (r:=z.2) hg
        split at hm
        ·cases hm;omega
        ·cases hm) _ _ _ _ _ h2
     simp at m2
     omega
   refine⟨⟨by show b.1.length≤L;omega,zkm (P:=fun m=>m.length≤L) (L:=L) (fun l x r hl h=>⟨by have:=zgf h;omega,by have:=zgf h;omega⟩) (by omega) h2⟩,by show b.2.length+1≤l.length;omega⟩
end Go.Ideal.S
namespace Go.Ideal.S
open Go Go.Ideal Q Classical
attribute [local simp] decide_eq_true decide_eq_false zT
variable {B M M':VM} {k kp:DV→VM→Prop} {n0 j:Nat} {t:List Sv} {l:List UInt8} {dn:DV}
theorem zjC {t:List Sv} {l:List UInt8} {x:Wt} {r:List UInt8} (h:zb7 t l=some (x,r)):x.env.length+r.length+1≤l.length:=by
 unfold zb7 at h
 cases h1:getN l with
 |none=>rw[h1] at h;cases h
 |some a=>
  rw[h1,Option.bind_some] at h
  have l1:=ze6 (n:=a.1) (r:=a.2) h1
  cases h2:z9 t 4 a.2 with
  |none=>rw[h2] at h;cases h
  |some b=>
   rw[h2,Option.bind_some] at h
   have l2:=zgm (n:=b.1) (r:=b.2) h2
   cases h3:getN b.2 with
   |none=>rw[h3] at h;cases h
   |some c=>
    rw[h3,Option.bind_some] at h
    have l3:=ze6 (n:=c.1) (r:=c.2) h3
    cases h4:zbw t c.2 with
    |none=>rw[h4] at h;cases h
    |some d=>
     rw[h4] at h;cases h
     have l4:=zgf (vs:=d.1) (r:=d.2) h4
     show d.1.length+d.2.length+1≤_
     omega
theorem pcN_sz {t:List Sv} {l:List UInt8} {x:Pc} (h:pcN (t,l)=some x) (hl:l.length<100000):SzP x∧ ∀w∈x.ws,w.env.length<100000:=by
 unfold pcN at h
 cases h1:zB (z9 t 4) l with
 |none=>rw[h1] at h;cases h
 |some a=>
  rw[h1,Option.bind_some] at h
  have l1:=zjm (fun _ _ _ h=>zgm h) (a:=a.1) (r:=a.2) h1
  cases h2:zB (queN t) a.2 with
  |none=>rw[h2] at h;cases h
  |some b=>
   rw[h2,Option.bind_some] at h
   have l2:=zjm (fun _ _ _ h=>(queN_all (Nat.le_refl _) h).2) (a:=b.1) (r:=b.2) h2
   cases h3:zB (zb7 t) b.2 with
   |none=>rw[h3] at h;cases h
   |some c=>
    rw[h3] at h;cases h
    have l3:=zjm (fun _ _ _ h=>by have:=zjC h;omega) (a:=c.1) (r:=c.2) h3
    have hq:=zkm (P:=fun q:Qu=>q.ms.length≤a.2.length∧ ∀m∈q.ms,m.length≤a.2.length) (L:=a.2.length) (fun l x r hl h=>⟨(queN_all hl h).1,by have:=(queN_all hl h).2;omega⟩) (Nat.le_refl _) h2
    have hw:=zkm (P:=fun w:Wt=>w.env.length≤b.2.length) (L:=b.2.length) (fun l x r hl h=>⟨by have:=zjC h;omega,by have:=zjC h;omega⟩) (Nat.le_refl _) h3
    exact⟨⟨by show a.1.length<_;omega,by show b.1.length<_;omega,by show c.1.length<_;omega,fun q hm=>⟨by have:=(hq q hm).1;omega,fun m hm2=>by have:=(hq q hm).2 m hm2;omega⟩,fun w hm=>by have:=hw w hm;omega⟩,fun w hm=>by have:=hw w hm;omega⟩
theorem startN_lt {b:List UInt8} {f:UInt8} {t:List Sv} {r:List UInt8} (h:zcw b f=some (t,r)):r.length≤b.length:=by
 have:=startN_le h;omega
theorem pc_sz {b:List UInt8} {x:Pc} (h:(zcw b 80).bind pcN=some x) (hl:b.length<100000):SzP x∧ ∀w∈x.ws,w.env.length<100000:=by
 cases h1:zcw b 80 with
 |none=>rw[h1] at h;cases h
 |some y=>
  rw[h1,Option.bind_some] at h
  have:=startN_lt (t:=y.1) (r:=y.2) h1
  exact pcN_sz (t:=y.1) (l:=y.2) h (by omega)
noncomputable def zfI (b:List UInt8):Pc×Int:=if 80000<b.length then(⟨[],[],[]⟩,3) else match(zcw b 80).bind pcN with
 |some x=>if zh3 x∧zhQ x=b then(x,0) else(⟨[],[],[]⟩,4)
 |none=>(⟨[],[],[]⟩,4)
theorem zct {e:Int} (h:SM M.next M M') (hk:k (.tup [.agg (ePc ⟨[],[],[]⟩),I e]) M):Back k M (.tup [.agg [.nilS,.nilS,.nilS],I e]) M':=fun _=>by
 refine⟨_,?_,?_,h,hk⟩
 ·refine .tup rfl fun i d e a b=> ?_
  match i with
  |0=>
   cases a;cases b
   refine .agg rfl fun i d e a b=> ?_
   match i with
   |0=>cases a;cases b;exact .nilS 1
   |1=>cases a;cases b;exact .nilS 2
   |2=>cases a;cases b;exact .nilS 4
   |i+3=>simp at a
  |1=>cases a;cases b;exact .refl _
  |i+2=>simp at a
 ·refine .tup fun d hd=> ?_
  simp only[List.mem_cons,List.not_mem_nil,or_false] at hd
  rcases hd with rfl|rfl
  ·exact .agg (b_Pc _)
  ·exact .int _ _
attribute [local simp] c_Y f_Y r_Y_2 r_Y_3 r_Y_4 r_Y_5 r_Y_6 r_Y_7
attribute [local simp] r_bC
theorem Parcel_ok (b:List UInt8) (hk:k (.tup [.agg (ePc (zfI b).1),I (zfI b).2]) M):zj F (.fn n_Y [] []) [St b] M k kp:=by
 unfold zfI at hk
 apply zj.back
 refine .fn h_wire_Parcel rfl (by simp[f_Y]) ?_
 by_cases hl:80000<b.length
 ·rw[if_pos hl] at hk
  have hli:(80000:Int)<b.length:=by omega
  simp(disch:=((try simp only[zb,za,zc]);omega)) [hli]
  exact zct (by repeat' (first|assumption|exact zh _ _|apply zm|apply zp|apply zq| ((try simp only[zb,za,zc]);omega))) hk
 ·rw[if_neg hl] at hk
  have hli: ¬(80000:Int)<b.length:=by omega
  simp(disch:=((try simp only[zb,za,zc]);omega)) [hli]
  obtain⟨Y,hY⟩: ∃Y,Y=((M.new (.rows false 1 [[St b]])).new (.rows false 3 [[.nilS,.nilS,.nilS]])).new (.rows false 3 [[.nilS,.nilS,.nilS]]):=⟨_,rfl⟩
  have y0:Y.next=M.next+1+1+1:=by rw[hY];simp
  have y1:Y.obj M.next=some (.rows false 1 [[St b]]):=by rw[hY,zb2 _ (by simp;omega),zb2 _ (by simp)];simp
  have y2:Y.obj (M.next+1)=some (.rows false 3 [[.nilS,.nilS,.nilS]]):=by rw[hY,zb2 _ (by simp),zfK,if_pos (by simp)]
  have y3:Y.obj (M.next+1+1)=some (.rows false 3 [[.nilS,.nilS,.nilS]]):=by rw[hY,zfK,if_pos (by simp)]
  have y4: ∀i,i<M.next→Y.get i=M.get i:=fun i hi=>by rw[hY,get_new,if_neg (by simp;omega),get_new,if_neg (by simp;omega),get_new,if_neg (by omega)]
  rw[←hY]
  refine attempt_ok ?_
  have z1:(Y.new (.rows false 1 [[.bool false]])).obj M.next=some (.rows false 1 [[St b]]):=by rw[zb2 _ (by omega)];exact y1
  have z3:(Y.new (.rows false 1 [[.bool false]])).obj (M.next+1+1)=some (.rows false 3 [[.nilS,.nilS,.nilS]]):=by rw[zb2 _ (by omega)];exact y3
  refine parcel1_ok (by omega) z1 z3 (by simp;omega) (by simp;omega) (by omega) (fun M' x ex n1 k1 o1=> ?_) (fun M' ex n1 k1=> ?_)
  ·have g1:M'.obj Y.next=some (.rows false 1 [[.bool false]]):=by
    show(M'.get Y.next).map _=_
    rw[k1 _ (by simp) (by omega),get_new,if_pos rfl];rfl
   refine⟨g1,?_⟩
   rw[ex] at hk
   dsimp only at hk
   obtain⟨hsz,henv⟩:=pc_sz ex (by omega)
   have a1:M.next≠Y.next:=by omega
   have a2:M.next+1≠Y.next:=by omega
   have a3:M.next+1+1≠Y.next:=by omega
   have g2:M'.obj M.next=some (.rows false 1 [[St b]]):=by
    show(M'.get _).map _=_
    rw[k1 _ (by simp;omega) (by omega)];exact z1
   have g3:M'.obj (M.next+1)=some (.rows false 3 [[.nilS,.nilS,.nilS]]):=by
    show(M'.get _).map _=_
    rw[k1 _ (by simp;omega) (by omega),get_new,if_neg (by omega)];exact y2
   have g4:SM M.next M (M'.put Y.next (.rows false 1 [[.bool true]])):=fun i hi=>by
    rw[get_put,if_neg (by omega),k1 i (by simp;omega) (by omega),get_new,if_neg (by omega)];exact y4 i hi
   have nM:M.next+1+1+1+1≤M'.next:=by simp at n1;omega
   have wL:zJ [.nilS,.nilS,.nilS] 0 (ePc x)=some (ePc x):=rfl
   have sx:zfk (.agg (ePc x))=true:=rfl
   have sx2: ∀y∈ePc x,zcx y=true:=by intro y hy;simp only[ePc,List.mem_cons,List.not_mem_nil,or_false] at hy;rcases hy with rfl|rfl|rfl<;>rfl
   simp(disch:=((try simp only[zb,za,zc]);omega)) [o1,a1,a2,a3]
   refine⟨sx2,?_⟩
   refine fine_ok x hsz ?_
   by_cases hpr:zh3 x
   ·rw[decide_eq_true hpr]
    simp(disch:=((try simp only[zb,za,zc]);omega)) [o1,a1,a2,a3]
    refine⟨sx2,?_⟩
    refine bytes_ok hpr henv ?_
    by_cases he:zhQ x=b
    ·rw[if_pos ⟨hpr,he⟩] at hk
     simp(disch:=((try simp only[zb,za,zc]);omega)) [o1,g2,g3,a1,a2,a3,he,wL]
     refine Back.plain (.tup fun d hd=> ?_) (zm g4 (by omega)) hk
     simp only[List.mem_cons,List.not_mem_nil,or_false] at hd
     rcases hd with rfl|rfl
     ·exact .agg (b_Pc _)
     ·exact .int _ _
    ·rw[if_neg (fun h=>he h.2)] at hk
     simp(disch:=((try simp only[zb,za,zc]);omega)) [o1,g2,g3,a1,a2,a3,he]
     exact zct (zm g4 (by omega)) hk
   ·rw[decide_eq_false hpr]
    rw[if_neg (fun h=>hpr h.1)] at hk
    simp(disch:=((try simp only[zb,za,zc]);omega)) [o1,g2,g3,a1,a2,a3]
    exact zct (zm g4 (by omega)) hk
  ·have g1:M'.obj Y.next=some (.rows false 1 [[.bool false]]):=by
    show(M'.get Y.next).map _=_
    rw[k1 _ (by simp) (by omega),get_new,if_pos rfl];rfl
   refine⟨⟨_,_,rfl⟩,g1,?_⟩
   rw[ex] at hk
   dsimp only at hk
   have a2:M.next+1≠Y.next:=by omega
   have g3:M'.obj (M.next+1)=some (.rows false 3 [[.nilS,.nilS,.nilS]]):=by
    show(M'.get _).map _=_
    rw[k1 _ (by simp;omega) (by omega),get_new,if_neg (by omega)];exact y2
   have g4:SM M.next M (M'.put Y.next (.rows false 1 [[.bool false]])):=fun i hi=>by
    rw[get_put,if_neg (by omega),k1 i (by simp;omega) (by omega),get_new,if_neg (by omega)];exact y4 i hi
   simp(disch:=((try simp only[zb,za,zc]);omega)) [g3,a2]
   exact zct (zm g4 (by omega)) hk
end Go.Ideal.S
namespace Go.Ideal.S
open Go Go.Ideal Q Classical
attribute [local simp] decide_eq_true decide_eq_false zT
variable {B M M':VM} {k kp:DV→VM→Prop} {n0 j:Nat}
noncomputable def zlP (x:Pc):List UInt8×Int:=if zh3 x then(if 80000<(zhQ x).length then([],3) else(zhQ x,0)) else([],2)
attribute [local simp] c_bg f_bg r_bg_1 r_bg_2 r_bg_3 r_bg_4 r_bg_5 r_bg_6 r_bg_7
theorem Bytes_ok (x:Pc) (hx:SzP x) (he: ∀w∈x.ws,w.env.length<100000) (hk:k (.tup [St (zlP x).1,I (zlP x).2]) M):zj F (.fn n_bg [] []) [.agg (ePc x)] M k kp:=by
 unfold zlP at hk
 apply zj.back
 refine .fn h_wire_Bytes rfl (by simp[f_bg]) ?_
 simp(disch:=((try simp only[zb,za,zc]);omega))
 refine fine_ok x hx ?_
 by_cases h1:zh3 x
 ·rw[decide_eq_true h1]
  rw[if_pos h1] at hk
  simp(disch:=((try simp only[zb,za,zc]);omega))
  refine bytes_ok h1 he ?_
  by_cases h2:80000<(zhQ x).length
  ·rw[if_pos h2] at hk
   have h2i:(80000:Int)<(zhQ x).length:=by omega
   simp(disch:=((try simp only[zb,za,zc]);omega)) [h2i]
   exact Back.plain (by simp) (by repeat' (first|assumption|exact zh _ _|apply zm|apply zp|apply zq| ((try simp only[zb,za,zc]);omega))) hk
  ·rw[if_neg h2] at hk
   have h2i: ¬(80000:Int)<(zhQ x).length:=by omega
   simp(disch:=((try simp only[zb,za,zc]);omega)) [h2i]
   exact Back.plain (by simp) (by repeat' (first|assumption|exact zh _ _|apply zm|apply zp|apply zq| ((try simp only[zb,za,zc]);omega))) hk
 ·rw[decide_eq_false h1]
  rw[if_neg h1] at hk
  simp(disch:=((try simp only[zb,za,zc]);omega))
  exact Back.plain (by simp) (by repeat' (first|assumption|exact zh _ _|apply zm|apply zp|apply zq| ((try simp only[zb,za,zc]);omega))) hk
attribute [local simp] c_T f_T r_T_1 r_T_2 r_T_3 r_T_4 r_T_5 r_T_6 r_T_8 c_G f_G r_G_1 r_G_2 r_G_3 r_G_4 r_G_5 r_G_6 r_G_7 r_G_8 r_G_10 c_bc f_bc r_bc_1 r_bc_2
theorem rplace_ok (n:Int) (hk:k (.agg (eSv (plc n))) M):zj F (.fn n_bc [] []) [I n] M k kp:=by
 apply zj.back
 refine .fn zfT rfl (by simp[f_bc]) ?_
 simp(disch:=((try simp only[zb,za,zc]);omega))
 exact Back.plain (by simp) (by repeat' (first|assumption|exact zh _ _|apply zm|apply zp|apply zq| ((try simp only[zb,za,zc]);omega))) hk
theorem rhas_ok (l:List Int) (n:Int) (hl:l.length<4000000000000000000) (hk:k (.bool (decide (n∈l))) M):zj F (.fn n_T [] []) [.lst 1 (l.map eInt),I n] M k kp:=by
 apply zj.back
 refine .fn zg2 rfl (by simp[f_T]) ?_
 simp(disch:=((try simp only[zb,za,zc]);omega))
 refine .for (σ:=Unit) c_T_7.eq_1 (fun i _=>[(5,I i)]) (fun _=>M) (fun i _=>n∉l.take i) l.length () (by simp) rfl (by simp) (fun i _ hi hP again=> ?_) (fun _ hP=> ?_)
 ·rw[List.take_succ_eq_append_getElem hi] at again
  have hm:l[i]∈l:=List.getElem_mem hi
  generalize hx:l[i]=v at*
  by_cases hv:v=n
  ·subst hv
   rw[decide_eq_true hm] at hk
   clear again
   simp(disch:=((try simp only[zb,za,zc]);omega)) [hi,hx,eInt]
   exact Back.plain (by simp) (by repeat' (first|assumption|exact zh _ _|apply zm|apply zp|apply zq| ((try simp only[zb,za,zc]);omega))) hk
  ·have again:=again () (fun h=>by
    rcases List.mem_append.1 h with h|h
    ·exact hP h
    ·exact hv (List.mem_singleton.1 h).symm)
   simp at again
   simp(disch:=((try simp only[zb,za,zc]);omega)) [hi,hx,eInt,hv]
   exact again
 ·rw[List.take_length] at hP
  rw[decide_eq_false hP] at hk
  simp(disch:=((try simp only[zb,za,zc]);omega))
  exact Back.plain (by simp) (by repeat' (first|assumption|exact zh _ _|apply zm|apply zp|apply zq| ((try simp only[zb,za,zc]);omega))) hk
theorem rqueue_ok (q:Qu) (hl:q.ms.length<1000000) (hm: ∀m∈q.ms,m.length<1000000) (hk:k (.bool (decide (QueV q))) M):zj F (.fn n_G [] []) [.agg (eQu q)] M k kp:=by
 apply zj.back
 refine .fn zfS rfl (by simp[f_G]) ?_
 simp(disch:=((try simp only[zb,za,zc]);omega)) [eQu]
 refine zfl _ _ _ ?_
 by_cases h1:0≤q.ch∧q.ch≤59
 ·rw[decide_eq_true h1]
  simp(disch:=((try simp only[zb,za,zc]);omega)) [eQu]
  refine zfl _ _ _ ?_
  by_cases h2:(1:Int)≤q.ms.length∧(q.ms.length:Int)≤12
  ·rw[decide_eq_true h2]
   simp(disch:=((try simp only[zb,za,zc]);omega))
   refine .for (σ:=Unit) c_G_9.eq_1 (fun i _=>[(3,I i)]) (fun _=>M.new (.rows false 2 [eQu q])) (fun i _=> ∀m∈q.ms.take i,MsgV m) q.ms.length () (by simp) (by simp[eQu]) (by simp) (fun i _ hi hP again=> ?_) (fun _ hP=> ?_)
   ·rw[List.take_succ_eq_append_getElem hi] at again
    have hmi:=hm _ (List.getElem_mem hi)
    have hmem:=List.getElem_mem hi
    generalize hx:q.ms[i]=m at*
    have good:MsgV m→ ∀u∈q.ms.take i++[m],MsgV u:=fun hv u hu=>by
     rcases List.mem_append.1 hu with hu|hu
     ·exact hP u hu
     ·rw[List.mem_singleton.1 hu];exact hv
    by_cases h3:m.length≤3
    ·have h3i:(m.length:Int)≤3:=by omega
     have h3j: ¬(3:Int)<m.length:=by omega
     simp(disch:=((try simp only[zb,za,zc]);omega)) [hi,hx,eQu,eMsg,h3j]
     refine rv_ok m (by omega) ?_
     by_cases h4: ∀v∈m,ValV v
     ·rw[decide_eq_true h4]
      have again:=again () (good ⟨h3,h4⟩)
      simp at again
      unfold eQu at again
      simp(disch:=((try simp only[zb,za,zc]);omega))
      exact again
     ·rw[decide_eq_false h4]
      rw[decide_eq_false (fun h=>h4 (h.2.2 m hmem).2)] at hk
      clear again
      simp(disch:=((try simp only[zb,za,zc]);omega))
      exact Back.plain (by simp) (by repeat' (first|assumption|exact zh _ _|apply zm|apply zp|apply zq| ((try simp only[zb,za,zc]);omega))) hk
    ·have h3j:(3:Int)<m.length:=by omega
     rw[decide_eq_false (fun h=>h3 (h.2.2 m hmem).1)] at hk
     clear again
     simp(disch:=((try simp only[zb,za,zc]);omega)) [hi,hx,eQu,eMsg,h3j]
     exact Back.plain (by simp) (by repeat' (first|assumption|exact zh _ _|apply zm|apply zp|apply zq| ((try simp only[zb,za,zc]);omega))) hk
   ·rw[List.take_length] at hP
    rw[decide_eq_true (show QueV q from⟨⟨h1.1,by omega⟩,⟨by omega,by omega⟩,hP⟩)] at hk
    simp(disch:=((try simp only[zb,za,zc]);omega)) [eQu]
    exact Back.plain (by simp) (by repeat' (first|assumption|exact zh _ _|apply zm|apply zp|apply zq| ((try simp only[zb,za,zc]);omega))) hk
  ·rw[decide_eq_false h2]
   rw[decide_eq_false (fun h=>h2 ⟨by have:=h.2.1.1;omega,by have:=h.2.1.2;omega⟩)] at hk
   simp(disch:=((try simp only[zb,za,zc]);omega))
   exact Back.plain (by simp) (by repeat' (first|assumption|exact zh _ _|apply zm|apply zp|apply zq| ((try simp only[zb,za,zc]);omega))) hk
 ·rw[decide_eq_false h1]
  rw[decide_eq_false (fun h=>h1 ⟨h.1.1,by have:=h.1.2;omega⟩)] at hk
  simp(disch:=((try simp only[zb,za,zc]);omega))
  exact Back.plain (by simp) (by repeat' (first|assumption|exact zh _ _|apply zm|apply zp|apply zq| ((try simp only[zb,za,zc]);omega))) hk
end Go.Ideal.S
set_option maxHeartbeats 4000000
namespace Go.Ideal.S
open Go Go.Ideal Q Classical
attribute [local simp] decide_eq_true decide_eq_false zT
variable {B M M':VM} {k kp:DV→VM→Prop} {n0 j:Nat}
theorem ziq {α:Type} {l:List α} {a:α}:(l++[a]).Nodup↔l.Nodup∧a∉l:=by
 rw[List.nodup_append]
 constructor
 ·rintro⟨h1,h2,h3⟩
  exact⟨h1,fun h=>h3 a h a (by simp) rfl⟩
 ·rintro⟨h1,h2⟩
  exact⟨h1,by simp,fun b hb c hc e=>by rw[List.mem_singleton] at hc;subst hc;subst e;exact h2 hb⟩
theorem zlw {α:Type} {l:List α} (h:l.Nodup) (i:Nat) (hi:i<l.length):l[i]∉l.take i:=by
 have:=(List.take_sublist (i+1) l).nodup h
 rw[List.take_succ_eq_append_getElem hi,ziq] at this
 exact this.2
attribute [local simp] c_d f_d r_d_1 r_d_2 r_d_3 r_d_4 r_d_5 r_d_6 r_d_7 r_d_8 r_d_10 r_d_11 r_d_12 r_d_13 r_d_14 r_d_15 r_d_16 r_d_17 r_d_18 r_d_20 r_d_22 r_d_23 r_d_24 r_d_25 r_d_26 r_d_27 r_d_28 r_d_29 r_d_31
theorem rgood_ok (x:Pc) (hx:SzP x) (hk:k (.bool (decide (zh3 x))) M):zj F (.fn n_d [] []) [.agg (ePc x)] M k kp:=by
 obtain⟨s1,s2,s3,s4,s5⟩:=hx
 have bad: ¬zh3 x→k (.bool false) M:=fun h=>by rw[decide_eq_false h] at hk;exact hk
 have good:zh3 x→k (.bool true) M:=fun h=>by rw[decide_eq_true h] at hk;exact hk
 clear hk
 obtain⟨Y,hY⟩: ∃Y,Y=M.new (.rows false 3 [ePc x]):=⟨_,rfl⟩
 have yo:Y.obj M.next=some (.rows false 3 [ePc x]):=by rw[hY];simp
 have yn:Y.next=M.next+1:=by rw[hY];simp
 have ys:SM M.next M Y:=by rw[hY];exact zp (zh _ _) (Nat.le_refl _)
 apply zj.back
 refine .fn zgy rfl (by simp[f_d]) ?_
 simp(disch:=((try simp only[zb,za,zc]);omega))
 rw[←hY]
 simp(disch:=((try simp only[zb,za,zc]);omega)) [yo,ePc]
 refine zfl _ _ _ ?_
 by_cases h1:(1:Int)≤x.sp.length∧(x.sp.length:Int)≤24
 ·rw[decide_eq_true h1]
  by_cases h2:x.qs.length≤60
  ·have h2i: ¬(60:Int)<x.qs.length:=by omega
   by_cases h3:x.ws.length≤40
   ·have h3i: ¬(40:Int)<x.ws.length:=by omega
    simp(disch:=((try simp only[zb,za,zc]);omega)) [yo,ePc,h2i,h3i]
    refine .for (σ:=Unit) c_d_9.eq_1 (fun i _=>[(3,I i)]) (fun _=>Y) (fun i _=>(∀n∈x.sp.take i,0≤n∧n<24)∧(x.sp.take i).Nodup) x.sp.length () (by simp) rfl (by simp) (fun i _ hi hP again=> ?_) (fun _ hP=> ?_)
    ·obtain⟨p1,p2⟩:=hP
     rw[List.take_succ_eq_append_getElem hi] at again
     have hnd:x.sp.Nodup→x.sp[i]∉x.sp.take i:=fun h=>zlw h i hi
     have hmem:=List.getElem_mem hi
     generalize hv:x.sp[i]=v at*
     simp(disch:=((try simp only[zb,za,zc]);omega)) [yo,ePc,hi,hv,eInt]
     refine zfl _ _ _ ?_
     by_cases h4:0≤v∧v≤23
     ·rw[decide_eq_true h4]
      have hii:(i:Int)≤x.sp.length:=by omega
      simp(disch:=((try simp only[zb,za,zc]);omega)) [yo,ePc,hi,hv,eInt,hii]
      rw[←List.map_take]
      refine rhas_ok _ _ (by rw[List.length_take];omega) ?_
      by_cases h5:v∈x.sp.take i
      ·rw[decide_eq_true h5]
       have bad:=bad fun h=>hnd h.2.1 h5
       clear again
       simp(disch:=((try simp only[zb,za,zc]);omega))
       exact Back.plain (by simp) ys bad
      ·rw[decide_eq_false h5]
       have again:=again () ⟨fun n hn=>by
        rcases List.mem_append.1 hn with hn|hn
        ·exact p1 n hn
        ·rw[List.mem_singleton.1 hn];omega,ziq.2 ⟨p2,h5⟩⟩
       simp at again
       simp(disch:=((try simp only[zb,za,zc]);omega))
       exact again
     ·rw[decide_eq_false h4]
      have bad:=bad fun h=>h4 (by have:=h.2.2.1 v hmem;omega)
      clear again
      simp(disch:=((try simp only[zb,za,zc]);omega))
      exact Back.plain (by simp) ys bad
    ·rw[List.take_length] at hP
     obtain⟨p1,p2⟩:=hP
     simp(disch:=((try simp only[zb,za,zc]);omega)) [yo,ePc]
     refine .for (σ:=Unit) c_d_21.eq_1 (fun i _=>[(4,I i)]) (fun _=>Y) (fun i _=>(∀q∈x.qs.take i,QueV q)∧((x.qs.map Qu.ch).take i).Nodup) x.qs.length () (by simp) rfl (by simp) (fun i _ hi hP again=> ?_) (fun _ hP=> ?_)
     ·obtain⟨r1,r2⟩:=hP
      have hic:i<(x.qs.map Qu.ch).length:=by simpa using hi
      rw[List.take_succ_eq_append_getElem hi,List.take_succ_eq_append_getElem hic] at again
      have hnd:(x.qs.map Qu.ch).Nodup→(x.qs.map Qu.ch)[i]∉(x.qs.map Qu.ch).take i:=fun h=>zlw h i hic
      rw[List.getElem_map] at again hnd
      have hmem:=List.getElem_mem hi
      generalize hv:x.qs[i]=q at*
      obtain⟨m1,m2⟩:=s4 q hmem
      simp(disch:=((try simp only[zb,za,zc]);omega)) [yo,ePc,hi,hv]
      refine rqueue_ok q m1 m2 ?_
      by_cases h4:QueV q
      ·rw[decide_eq_true h4]
       simp(disch:=((try simp only[zb,za,zc]);omega))
       refine .for (σ:=Unit) c_d_19.eq_1 (fun a _=>[(5,I a)]) (fun _=>Y) (fun a _=>q.ch∉(x.qs.map Qu.ch).take a) i () (by simp) rfl (by simp) (fun a _ ha hP2 again2=> ?_) (fun _ hP2=> ?_)
       ·have hal:a<x.qs.length:=by omega
        have hac:a<(x.qs.map Qu.ch).length:=by simpa using hal
        rw[List.take_succ_eq_append_getElem hac,List.getElem_map] at again2
        have hin:x.qs[a].ch∈(x.qs.map Qu.ch).take i:=by
         rw[List.mem_take_iff_getElem]
         exact⟨a,by simp;omega,by simp⟩
        generalize hw:x.qs[a]=w at*
        by_cases h5:w.ch=q.ch
        ·have bad:=bad fun h=>hnd h.2.2.2.1 (by rw[←h5];exact hin)
         clear again again2
         simp(disch:=((try simp only[zb,za,zc]);omega)) [yo,ePc,ha,hal,hi,hv,hw,eQu,h5]
         exact Back.plain (by simp) ys bad
        ·have again2:=again2 () (fun h=>by
          rcases List.mem_append.1 h with h|h
          ·exact hP2 h
          ·exact h5 (List.mem_singleton.1 h).symm)
         simp at again2
         simp(disch:=((try simp only[zb,za,zc]);omega)) [yo,ePc,ha,hal,hi,hv,hw,eQu,h5]
         exact again2
       ·have again:=again () ⟨fun u hu=>by
         rcases List.mem_append.1 hu with hu|hu
         ·exact r1 u hu
         ·rw[List.mem_singleton.1 hu];exact h4,ziq.2 ⟨r2,hP2⟩⟩
        simp at again
        simp(disch:=((try simp only[zb,za,zc]);omega))
        exact again
      ·rw[decide_eq_false h4]
       have bad:=bad fun h=>h4 (h.2.2.2.2.1 q hmem)
       clear again
       simp(disch:=((try simp only[zb,za,zc]);omega))
       exact Back.plain (by simp) ys bad
     ·rw[List.take_length,List.take_of_length_le (by simp)] at hP
      obtain⟨r1,r2⟩:=hP
      simp(disch:=((try simp only[zb,za,zc]);omega)) [yo,ePc]
      refine .for (σ:=VM) c_d_30.eq_1 (fun i _=>[(6,I i)]) (fun z=>z) (fun i z=>SM (M.next+1) Y z∧M.next+1≤z.next∧ ∀b (hb:b<x.ws.length),b<i→zle x.sp (zfp x.ws b) x.ws[b]∧0≤x.ws[b].nth) x.ws.length Y (by simp) rfl ⟨zh _ _,by omega,fun _ _ h=>by omega⟩ (fun i y hi hP again=> ?_) (fun y hP=> ?_)
      ·obtain⟨q1,q2,q3⟩:=hP
       have hmem:=List.getElem_mem hi
       have zo: ∀o o',((y.new o).put y.next o').obj M.next=some (.rows false 3 [ePc x]):=fun o o'=>by
        rw[zcA,if_neg (by omega),zb2 _ (by omega),←yo]
        show(y.get _).map _=(Y.get _).map _
        rw[q1 _ (by omega)]
       have yo2:y.obj M.next=some (.rows false 3 [ePc x]):=by
        rw[←yo]
        show(y.get _).map _=(Y.get _).map _
        rw[q1 _ (by omega)]
       have hl: -1≤zfp x.ws i:=by
        cases i with
        |zero=>exact Int.le_refl _
        |succ i=>
         have:=(q3 i (by omega) (by omega)).2
         show -1≤(match x.ws[i]? with|some w=>w.nth|none=>0)
         rw[List.getElem?_eq_getElem (by omega)]
         dsimp only
         omega
       have zs: ∀o o',SM M.next M ((y.new o).put y.next o'):=fun o o' b hb=>by
        rw[get_put,if_neg (by omega),get_new,if_neg (by omega),q1 b (by omega)];exact ys b hb
       have nw0:zh3 x→zle x.sp (zfp x.ws i) x.ws[i]:=fun h=>h.2.2.2.2.2 i hi
       have ok0: ∀o o',zle x.sp (zfp x.ws i) x.ws[i]→SM (M.next+1) Y ((y.new o).put y.next o')∧M.next+1≤((y.new o).put y.next o').next∧ ∀b (hb:b<x.ws.length),b<i+1→zle x.sp (zfp x.ws b) x.ws[b]∧0≤x.ws[b].nth:=fun o o' h=>⟨fun b hb=>by rw[get_put,if_neg (by omega),get_new,if_neg (by omega)];exact q1 b hb,by simp;omega,fun b hb hbi=>by
        by_cases e:b=i
        ·subst e;exact⟨h,by have:=h.1.1;omega⟩
        ·exact q3 b hb (by omega)⟩
       generalize hw:x.ws[i]=w at*
       generalize hln:zfp x.ws i=last at*
       have wL:zJ [I 0,I 0,I 0,.nilS] 0 (eWt w)=some (eWt w):=rfl
       have zo:=zo (.rows false 4 [[I 0,I 0,I 0,.nilS]]) (.rows false 4 [eWt w])
       have zs:=zs (.rows false 4 [[I 0,I 0,I 0,.nilS]]) (.rows false 4 [eWt w])
       have ok:=ok0 (.rows false 4 [[I 0,I 0,I 0,.nilS]]) (.rows false 4 [eWt w])
       have o7:((y.new (.rows false 4 [[I 0,I 0,I 0,.nilS]])).put y.next (.rows false 4 [eWt w])).obj y.next=some (.rows false 4 [eWt w]):=by simp
       have n7:M.next≠y.next:=by omega
       have nw:=nw0
       clear nw0 ok0
       obtain⟨Z,hZ⟩: ∃Z,Z=(y.new (.rows false 4 [[I 0,I 0,I 0,.nilS]])).put y.next (.rows false 4 [eWt w]):=⟨_,rfl⟩
       rw[←hZ] at zo zs ok o7
       have x1:oneD (eWt w)=some (I w.nth):=rfl
       simp(disch:=((try simp only[zb,za,zc]);omega)) [yo2,ePc,hi,hw,wL,n7]
       rw[←hZ]
       simp(disch:=((try simp only[zb,za,zc]);omega)) [zo,o7,ePc,x1,n7]
       refine zfl _ _ _ ?_
       by_cases h4:0≤w.nth∧w.nth≤39
       ·rw[decide_eq_true h4]
        by_cases hi0:i=0
        ·have hii: ¬(0:Int)<i:=by omega
         have hlast:last= -1:=by rw[←hln,hi0];rfl
         simp(disch:=((try simp only[zb,za,zc]);omega)) [zo,o7,ePc,hii]
         simp(disch:=((try simp only[zb,za,zc]);omega)) [eWt]
         refine rhas_ok x.sp w.pl (by omega) ?_
         by_cases h6:w.pl∈x.sp
         ·rw[decide_eq_true h6]
          simp(disch:=((try simp only[zb,za,zc]);omega)) [zo,o7,n7,ePc,eWt]
          refine zfl _ _ _ ?_
          by_cases h7:0≤w.nd∧w.nd≤59
          ·rw[decide_eq_true h7]
           simp(disch:=((try simp only[zb,za,zc]);omega)) [zo,o7,n7,ePc,eWt]
           refine rv_ok w.env (by have:=s5 w hmem;omega) ?_
           by_cases h8: ∀v∈w.env,ValV v
           ·rw[decide_eq_true h8]
            have again:=again _ (ok ⟨by omega,h6,by omega,h8⟩)
            simp at again
            simp(disch:=((try simp only[zb,za,zc]);omega))
            exact again
           ·rw[decide_eq_false h8]
            have bad:=bad fun h=>h8 (nw h).2.2.2
            clear again ok
            simp(disch:=((try simp only[zb,za,zc]);omega))
            exact Back.plain (by simp) zs bad
          ·rw[decide_eq_false h7]
           have bad:=bad fun h=>h7 (by have:=(nw h).2.2.1;omega)
           clear again ok
           simp(disch:=((try simp only[zb,za,zc]);omega))
           exact Back.plain (by simp) zs bad
         ·rw[decide_eq_false h6]
          have bad:=bad fun h=>h6 (nw h).2.1
          clear again ok
          simp(disch:=((try simp only[zb,za,zc]);omega))
          exact Back.plain (by simp) zs bad
        ·have hii:(0:Int)<i:=by omega
         have e1:(i:Int) - 1=((i - 1:Nat):Int):=by omega
         have hi1:i - 1<x.ws.length:=by omega
         have hlast:last=x.ws[i - 1].nth:=by
          rw[←hln]
          conv=>lhs;rw[show i=(i - 1)+1 by omega]
          show(match x.ws[i - 1]? with|some w=>w.nth|none=>0)=_
          rw[List.getElem?_eq_getElem hi1]
         generalize hw1:x.ws[i - 1]=w1 at*
         have x2:oneD (eWt w1)=some (I w1.nth):=rfl
         by_cases h5:w.nth≤w1.nth
         ·have bad:=bad fun h=>by have:=(nw h).1.1;omega
          clear again ok
          simp(disch:=((try simp only[zb,za,zc]);omega)) [zo,o7,ePc,hii,e1,hi1,hw1,x1,x2,h5]
          exact Back.plain (by simp) zs bad
         ·simp(disch:=((try simp only[zb,za,zc]);omega)) [zo,o7,ePc,hii,e1,hi1,hw1,x1,x2,h5]
          simp(disch:=((try simp only[zb,za,zc]);omega)) [eWt]
          refine rhas_ok x.sp w.pl (by omega) ?_
          by_cases h6:w.pl∈x.sp
          ·rw[decide_eq_true h6]
           simp(disch:=((try simp only[zb,za,zc]);omega)) [zo,o7,n7,ePc,eWt]
           refine zfl _ _ _ ?_
           by_cases h7:0≤w.nd∧w.nd≤59
           ·rw[decide_eq_true h7]
            simp(disch:=((try simp only[zb,za,zc]);omega)) [zo,o7,n7,ePc,eWt]
            refine rv_ok w.env (by have:=s5 w hmem;omega) ?_
            by_cases h8: ∀v∈w.env,ValV v
            ·rw[decide_eq_true h8]
             have again:=again _ (ok ⟨by omega,h6,by omega,h8⟩)
             simp at again
             simp(disch:=((try simp only[zb,za,zc]);omega))
             exact again
            ·rw[decide_eq_false h8]
             have bad:=bad fun h=>h8 (nw h).2.2.2
             clear again ok
             simp(disch:=((try simp only[zb,za,zc]);omega))
             exact Back.plain (by simp) zs bad
           ·rw[decide_eq_false h7]
            have bad:=bad fun h=>h7 (by have:=(nw h).2.2.1;omega)
            clear again ok
            simp(disch:=((try simp only[zb,za,zc]);omega))
            exact Back.plain (by simp) zs bad
          ·rw[decide_eq_false h6]
           have bad:=bad fun h=>h6 (nw h).2.1
           clear again ok
           simp(disch:=((try simp only[zb,za,zc]);omega))
           exact Back.plain (by simp) zs bad
       ·rw[decide_eq_false h4]
        have bad:=bad fun h=>h4 (by have:=(nw h).1;omega)
        clear again ok
        simp(disch:=((try simp only[zb,za,zc]);omega))
        exact Back.plain (by simp) zs bad
      ·have f:=good ⟨⟨by omega,by omega,h2,h3⟩,p2,p1,r2,r1,fun i hi=>(hP.2.2 i hi hi).1⟩
       have yo2:y.obj M.next=some (.rows false 3 [ePc x]):=by
        rw[←yo]
        show(y.get _).map _=(Y.get _).map _
        rw[hP.1 _ (by omega)]
       simp(disch:=((try simp only[zb,za,zc]);omega)) [yo2,ePc]
       exact Back.plain (by simp) (fun b hb=>(hP.1 b (by omega)).trans (ys b hb)) f
   ·have h3i:(40:Int)<x.ws.length:=by omega
    have bad:=bad fun h=>h3 h.1.2.2.2
    simp(disch:=((try simp only[zb,za,zc]);omega)) [yo,ePc,h2i,h3i]
    exact Back.plain (by simp) ys bad
  ·have h2i:(60:Int)<x.qs.length:=by omega
   have bad:=bad fun h=>h2 h.1.2.2.1
   simp(disch:=((try simp only[zb,za,zc]);omega)) [yo,ePc,h2i]
   exact Back.plain (by simp) ys bad
 ·rw[decide_eq_false h1]
  have bad:=bad fun h=>h1 ⟨by have:=h.1.1;omega,by have:=h.1.2.1;omega⟩
  simp(disch:=((try simp only[zb,za,zc]);omega))
  exact Back.plain (by simp) ys bad
end Go.Ideal.S
namespace Go.Ideal.S
open Go Go.Ideal Q Classical
attribute [local simp] decide_eq_true decide_eq_false zT
variable {M M':VM} {B:Base} {k kp:DV→VM→Prop} {n0 j:Nat}
theorem RrS.sm {w:WS} (h:RrS B M j w) {i:Nat} (hi:B.fr i):M.get i=B.m.get i:=by
 obtain⟨_,_,h⟩:=h
 exact h.sm i hi
theorem RrS.nx {w:WS} (h:RrS B M j w) {i:Nat} (hi:B.fr i):i<M.next:=by
 obtain⟨_,_,h⟩:=h
 exact h.nx i hi
theorem RrS.obj {w:WS} (h:RrS B M j w) {i:Nat} (hi:B.fr i):M.obj i=B.m.obj i:=by
 show(M.get i).map _=(B.m.get i).map _
 rw[h.sm hi]
theorem RrS.add {w:WS} (h:RrS B M j w) (o o':MO):RrS ⟨(M.new o).put M.next o',fun i=>B.fr i∨i=M.next⟩ ((M.new o).put M.next o') j w:=by
 obtain⟨dt,db,h⟩:=h
 have h2:=h.keep (M':=(M.new o).put M.next o') (by simp;omega) fun q hq=>by rw[get_put,if_neg (by omega),get_new,if_neg (by omega)]
 have a:=h.j2
 refine⟨dt,db,fun _ _=>rfl,fun i hi=> ?_,fun hi=> ?_,h2.j2,h2.oj,h2.ln,h2.lb,fun i hi=> ?_,h.sb⟩
 ·rcases hi with hi|hi
  ·have:=h.nx i hi;simp;omega
  ·simp;omega
 ·rcases hi with hi|hi
  ·exact h.j1 hi
  ·omega
 ·rcases hi with hi|hi
  ·exact h.fn i hi
  ·exact⟨h.ln.offN (by omega),h.lb.offN (by omega)⟩
theorem RrS.rebase {B2:Base} {w:WS} (h:RrS B2 M j w) (hf: ∀i,B.fr i→B2.fr i∧B2.m.get i=B.m.get i):RrS B M j w:=by
 obtain⟨dt,db,h⟩:=h
 exact⟨dt,db,fun i hi=>(h.sm i (hf i hi).1).trans (hf i hi).2,fun i hi=>h.nx i (hf i hi).1,fun hi=>h.j1 (hf _ hi).1,h.j2,h.oj,h.ln,h.lb,fun i hi=>h.fn i (hf i hi).1,h.sb⟩
theorem b_le (l:List Nat):l.length≤(zO l).length:=by
 induction l with
 |nil=>exact Nat.le_refl _
 |cons n l ih=>rw[zgl,List.length_append,List.length_cons];have:=numB_pos n;omega
theorem Sm.b {w:WS} {T S:Nat} (h:Sm w T S):w.b.length≤S:=Nat.le_trans (b_le _) h.s
theorem Sm.ix {w:WS} {T S:Nat} (h:Sm w T S) (v:Sv):w.t.idxOf v≤T:=Nat.le_trans List.idxOf_le_length h.t
theorem nth_nn {sp:List Int} {ws:List Wt} (f9:WaitsV sp ws): ∀(i:Nat) (h:i<ws.length),0≤ws[i].nth:=by
 intro i
 induction i with
 |zero=>
  intro h
  have h1:=(f9 0 h).1.1
  have h2:zfp ws 0= -1:=rfl
  omega
 |succ i ih=>
  intro h
  have h0:=ih (by omega)
  have h1:=(f9 (i+1) h).1.1
  have h2:zfp ws (i+1)=ws[i].nth:=by
   show(match ws[i]? with|some w=>w.nth|none=>0)=_
   rw[List.getElem?_eq_getElem (by omega)]
  omega
attribute [local simp] c_a f_a r_a_1 r_a_2 r_a_3 r_a_4 r_a_5 r_a_6 r_a_7 r_a_9 r_a_10 r_a_11 r_a_12 r_a_13 r_a_14 r_a_15 r_a_16 r_a_17 r_a_18 r_a_20 r_a_22 r_a_23 r_a_24 r_a_25 r_a_26 r_a_27 r_a_28 r_a_29 r_a_30 r_a_32
theorem zjX {x:Pc} (hf:zh3 x) (he: ∀w∈x.ws,w.env.length<100000) (hk:k (St (zhQ x)) M):zj F (.fn n_a [] []) [.agg (ePc x)] M k kp:=by
 obtain⟨⟨f1,f2,f3,f4⟩,f5,f6,f7,f8,f9⟩:=hf
 have b0:=big62
 apply zj.back
 refine .fn ze3 rfl (by simp[f_a]) ?_
 simp(disch:=((try simp only[zb,za,zc]);omega))
 obtain⟨B0,hB0⟩: ∃B0,B0=bas (M.new (.rows false 3 [ePc x])):=⟨_,rfl⟩
 have fr0: ∀i,B0.fr i↔i<M.next+1:=fun i=>by rw[hB0];exact Iff.rfl
 have hs:RrS B0 ((M.new (.rows false 3 [ePc x])).new (.rows false 2 [[.nilS,.nilS]])) (M.next+1) ⟨[],[]⟩:=by
  rw[hB0]
  exact⟨.nilS,.nilS,fun i hi=>by(have hi:i<_:=hi;rw[get_new,if_neg (by omega)]),fun i hi=>Nat.lt_succ_of_lt hi,by simp,by simp,by simp,.nil _ _,.nil _ _,fun _ _=>⟨trivial,trivial⟩,fun n hn=>by cases hn⟩
 have ob: ∀{y:VM} {w:WS},RrS B0 y (M.next+1) w→y.obj M.next=some (.rows false 3 [ePc x]):=fun h=>by rw[h.obj ((fr0 _).2 (by omega)),hB0];simp
 have low: ∀{y:VM} {w:WS},RrS B0 y (M.next+1) w→ ∀i,i<M.next→y.get i=M.get i:=fun h i hi=>by
  rw[h.sm ((fr0 _).2 (by omega)),hB0]
  show(M.new _).get i=_
  rw[get_new,if_neg (by omega)]
 generalize hj:M.next+1=j at*
 have s0:Sm ⟨[],[]⟩ 0 0:=⟨(fun x hx=>by cases hx),Nat.le_refl _,Nat.le_refl _⟩
 have s1:=s0.num (n:=x.sp.length) (by omega)
 have o0:=ob hs
 simp(disch:=((try simp only[zb,za,zc]);omega)) [o0,ePc]
 refine zcy hs x.sp.length (by omega) (by decide) fun M2 h2=> ?_
 have sm2:=ob h2
 simp(disch:=((try simp only[zb,za,zc]);omega)) [sm2,ePc]
 refine .for (σ:=VM) c_a_8.eq_1 (fun i _=>[(4,I i)]) (fun z=>z) (fun i z=>RrS B0 z j ((x.sp.take i).foldl encS ((⟨[],[]⟩:WS).num x.sp.length))∧Sm ((x.sp.take i).foldl encS ((⟨[],[]⟩:WS).num x.sp.length)) i (10+10*i)) x.sp.length M2 (by simp) rfl ⟨h2,s1⟩ (fun i y hi hP again=> ?_) (fun y hP=> ?_)
 ·obtain⟨p1,p2⟩:=hP
  have hv:=f6 _ (List.getElem_mem hi)
  rw[List.take_succ_eq_append_getElem hi,List.foldl_append] at again
  simp only[List.foldl_cons,List.foldl_nil] at again
  generalize (x.sp.take i).foldl encS ((⟨[],[]⟩:WS).num x.sp.length)=u at*
  generalize hx:x.sp[i]=v at*
  have o1:=ob p1
  have x1:=p2.ix (plc v);have x2:=p2.b;have x3:=p2.t
  simp(disch:=((try simp only[zb,za,zc]);omega)) [o1,ePc,hi,hx,eInt]
  refine rplace_ok v ?_
  simp(disch:=((try simp only[zb,za,zc]);omega))
  refine zhr p1 (plc v) (by omega) fun M3 h3=> ?_
  simp(disch:=((try simp only[zb,za,zc]);omega))
  refine zcy h3 _ (by omega) (by rw[ziP];omega) fun M4 h4=> ?_
  have again:=again M4 ⟨h4,(p2.ref (zjk hv) (by omega)).mono (by omega) (by omega)⟩
  simp at again
  simp(disch:=((try simp only[zb,za,zc]);omega))
  exact again
 ·obtain⟨p1,p2⟩:=hP
  rw[List.take_length] at p1 p2
  have q2:=p2.num (n:=x.qs.length) (by omega)
  generalize hu:x.sp.foldl encS ((⟨[],[]⟩:WS).num x.sp.length)=u at*
  have smy:=ob p1
  simp(disch:=((try simp only[zb,za,zc]);omega)) [smy,ePc]
  refine zcy p1 x.qs.length (by omega) (by have:=p2.b;omega) fun M3 h3=> ?_
  have sm3:=ob h3
  simp(disch:=((try simp only[zb,za,zc]);omega)) [sm3,ePc]
  refine .for (σ:=VM) c_a_21.eq_1 (fun i _=>[(5,I i)]) (fun z=>z) (fun i z=>RrS B0 z j ((x.qs.take i).foldl encQ (u.num x.qs.length))∧Sm ((x.qs.take i).foldl encQ (u.num x.qs.length)) (24+37*i) (260+500*i)) x.qs.length M3 (by simp) rfl ⟨h3,q2.mono (by omega) (by omega)⟩ (fun i y hi hP again=> ?_) (fun y hP=> ?_)
  ·obtain⟨p1,p2⟩:=hP
   obtain⟨v1,⟨v2,v3⟩,v4⟩:=f8 _ (List.getElem_mem hi)
   rw[List.take_succ_eq_append_getElem hi,List.foldl_append] at again
   simp only[List.foldl_cons,List.foldl_nil] at again
   generalize (x.qs.take i).foldl encQ (u.num x.qs.length)=w at*
   generalize hx:x.qs[i]=q at*
   have wQ:zJ [I 0,.nilS] 0 (eQu q)=some (eQu q):=rfl
   obtain⟨y2,hy2⟩: ∃y2,y2=(y.new (.rows false 2 [[.int .i64 0,.nilS]])).put y.next (.rows false 2 [eQu q]):=⟨_,rfl⟩
   have p1y:=p1.add (.rows false 2 [[.int .i64 0,.nilS]]) (.rows false 2 [eQu q])
   rw[←hy2] at p1y
   have k2: ∀i,i<y.next→y2.get i=y.get i:=fun i hi=>by rw[hy2,get_put,if_neg (by omega),get_new,if_neg (by omega)]
   have back: ∀{M3:VM} {w':WS},RrS ⟨y2,fun i=>B0.fr i∨i=y.next⟩ M3 j w'→RrS B0 M3 j w':=fun h=>h.rebase fun i hi=>⟨.inl hi,(k2 i (p1.nx hi)).trans (p1.sm hi)⟩
   have oq: ∀{M3:VM} {w':WS},RrS ⟨y2,fun i=>B0.fr i∨i=y.next⟩ M3 j w'→M3.obj y.next=some (.rows false 2 [eQu q]):=fun h=>by rw[h.obj (.inr rfl),hy2];simp
   have oy:=oq p1y
   have q3:=p2.ref (name_chn v1) (by omega)
   have q4:=q3.num (n:=q.ms.length) (by omega)
   have o1:=ob p1
   have x1:=p2.ix (chn q.ch);have x2:=p2.b;have x3:=p2.t
   simp(disch:=((try simp only[zb,za,zc]);omega)) [o1,ePc,hi,hx,wQ]
   rw[←hy2]
   have f1:oneD (eQu q)=some (I q.ch):=rfl
   simp(disch:=((try simp only[zb,za,zc]);omega)) [oy,f1]
   refine rchannel_ok q.ch ?_
   simp(disch:=((try simp only[zb,za,zc]);omega))
   refine zhr p1y (chn q.ch) (by omega) fun M3 h3=> ?_
   simp(disch:=((try simp only[zb,za,zc]);omega))
   refine zcy h3 _ (by omega) (by rw[ziP];omega) fun M4 h4=> ?_
   have h4:RrS ⟨y2,fun i=>B0.fr i∨i=y.next⟩ M4 j (w.ref (chn q.ch)):=h4
   have o4:=oq h4
   have f2:(eQu q).drop 1=[.lst 1 (q.ms.map eMsg)]:=rfl
   simp(disch:=((try simp only[zb,za,zc]);omega)) [o4,f2]
   refine zcy h4 q.ms.length (by omega) (by have:=q3.b;omega) fun M5 h5=> ?_
   simp(disch:=((try simp only[zb,za,zc]);omega))
   refine .for (σ:=VM) c_a_19.eq_1 (fun a _=>[(7,I a)]) (fun z=>z) (fun a z=>RrS ⟨y2,fun i=>B0.fr i∨i=y.next⟩ z j ((q.ms.take a).foldl WS.vals ((w.ref (chn q.ch)).num q.ms.length))∧Sm ((q.ms.take a).foldl WS.vals ((w.ref (chn q.ch)).num q.ms.length)) (24+37*i+1+3*a) (260+500*i+20+40*a)) q.ms.length M5 (by simp) rfl ⟨h5,q4.mono (by omega) (by omega)⟩ (fun a z ha hP2 again2=> ?_) (fun z hP2=> ?_)
   ·obtain⟨r1,r2⟩:=hP2
    obtain⟨m1,m2⟩:=v4 _ (List.getElem_mem ha)
    rw[List.take_succ_eq_append_getElem ha,List.foldl_append] at again2
    simp only[List.foldl_cons,List.foldl_nil] at again2
    generalize (q.ms.take a).foldl WS.vals ((w.ref (chn q.ch)).num q.ms.length)=u2 at*
    generalize hxm:q.ms[a]=m at*
    have f3:oneD (eMsg m)=some (.lst 2 (m.map eSv)):=rfl
    have oz:=oq r1
    simp(disch:=((try simp only[zb,za,zc]);omega)) [oz,f2,ha,hxm,f3]
    refine rvals_ok r1 m m2 (by have:=r2.t;omega) (by have:=r2.b;omega) fun M6 h6=> ?_
    have again2:=again2 M6 ⟨h6,(r2.vals m2 (by omega)).mono (by omega) (by omega)⟩
    simp at again2
    simp(disch:=((try simp only[zb,za,zc]);omega))
    exact again2
   ·obtain⟨r1,r2⟩:=hP2
    rw[List.take_length] at r1 r2
    have oz:=oq r1
    have again:=again z ⟨back r1,r2.mono (by omega) (by omega)⟩
    simp at again
    simp(disch:=((try simp only[zb,za,zc]);omega)) [oz,f2]
    exact again
  ·obtain⟨p1,p2⟩:=hP
   rw[List.take_length] at p1 p2
   have q2:=p2.num (n:=x.ws.length) (by omega)
   generalize hu2:x.qs.foldl encQ (u.num x.qs.length)=u2 at*
   have smy:=ob p1
   simp(disch:=((try simp only[zb,za,zc]);omega)) [smy,ePc]
   refine zcy p1 x.ws.length (by omega) (by have:=p2.b;omega) fun M3 h3=> ?_
   have sm3:=ob h3
   simp(disch:=((try simp only[zb,za,zc]);omega)) [sm3,ePc]
   refine .for (σ:=VM) c_a_31.eq_1 (fun i _=>[(8,I i)]) (fun z=>z) (fun i z=>RrS B0 z j ((x.ws.take i).foldl encW (u2.num x.ws.length))∧Sm ((x.ws.take i).foldl encW (u2.num x.ws.length)) (2300+100001*i) (31000+1000050*i)) x.ws.length M3 (by simp) rfl ⟨h3,q2.mono (by omega) (by omega)⟩ (fun i y hi hP again=> ?_) (fun y hP=> ?_)
   ·obtain⟨p1,p2⟩:=hP
    obtain⟨⟨v1,v2⟩,v3,v4,v5⟩:=f9 i hi
    have v6:=f6 _ v3
    have v7:=he _ (List.getElem_mem hi)
    have v8:=nth_nn f9 i hi
    rw[List.take_succ_eq_append_getElem hi,List.foldl_append] at again
    simp only[List.foldl_cons,List.foldl_nil] at again
    generalize (x.ws.take i).foldl encW (u2.num x.ws.length)=w at*
    generalize hx:x.ws[i]=q at*
    obtain⟨nth,hnth⟩:=Int.eq_ofNat_of_zero_le v8
    obtain⟨nd,hnd⟩:=Int.eq_ofNat_of_zero_le v4.1
    have wW:zJ [I 0,I 0,I 0,.nilS] 0 (eWt q)=some (eWt q):=rfl
    obtain⟨y2,hy2⟩: ∃y2,y2=(y.new (.rows false 4 [[.int .i64 0,.int .i64 0,.int .i64 0,.nilS]])).put y.next (.rows false 4 [eWt q]):=⟨_,rfl⟩
    have p1y:=p1.add (.rows false 4 [[.int .i64 0,.int .i64 0,.int .i64 0,.nilS]]) (.rows false 4 [eWt q])
    rw[←hy2] at p1y
    have k2: ∀i,i<y.next→y2.get i=y.get i:=fun i hi=>by rw[hy2,get_put,if_neg (by omega),get_new,if_neg (by omega)]
    have back: ∀{M3:VM} {w':WS},RrS ⟨y2,fun i=>B0.fr i∨i=y.next⟩ M3 j w'→RrS B0 M3 j w':=fun h=>h.rebase fun i hi=>⟨.inl hi,(k2 i (p1.nx hi)).trans (p1.sm hi)⟩
    have oq: ∀{M3:VM} {w':WS},RrS ⟨y2,fun i=>B0.fr i∨i=y.next⟩ M3 j w'→M3.obj y.next=some (.rows false 4 [eWt q]):=fun h=>by rw[h.obj (.inr rfl),hy2];simp
    have oy:=oq p1y
    have e0:(eWt q)=[I nth,I q.pl,I nd,.lst 2 (q.env.map eSv)]:=by unfold eWt;rw[hnth,hnd]
    have q3:=p2.num (n:=nth) (by omega)
    have q4:=q3.ref (zjk v6) (by omega)
    have q5:=q4.num (n:=nd) (by omega)
    have q6:=q5.vals v5 (by omega)
    have eW:encW w q=(((w.num nth).ref (plc q.pl)).num nd).vals q.env:=by unfold encW;rw[hnth,hnd];rfl
    rw[eW] at again
    have o1:=ob p1
    simp(disch:=((try simp only[zb,za,zc]);omega)) [o1,ePc,hi,hx,wW]
    rw[←hy2]
    rw[e0] at oy oq
    have g1:oneD (eWt q)=some (I (nth:Int)):=by rw[e0];rfl
    simp(disch:=((try simp only[zb,za,zc]);omega)) [g1]
    have x1:=q3.ix (plc q.pl);have x2:=p2.b;have x3:=q3.t;have x4:=q3.b;have x5:=q4.b;have x6:=q5.b;have x7:=q5.t
    refine zcy p1y nth (by omega) (by omega) fun M4 h4=> ?_
    have o4:=oq h4
    simp(disch:=((try simp only[zb,za,zc]);omega)) [o4]
    refine rplace_ok q.pl ?_
    simp(disch:=((try simp only[zb,za,zc]);omega))
    refine zhr h4 (plc q.pl) (by omega) fun M5 h5=> ?_
    simp(disch:=((try simp only[zb,za,zc]);omega))
    refine zcy h5 _ (by omega) (by rw[ziP];omega) fun M6 h6=> ?_
    have h6:RrS ⟨y2,fun i=>B0.fr i∨i=y.next⟩ M6 j ((w.num nth).ref (plc q.pl)):=h6
    have o6:=oq h6
    simp(disch:=((try simp only[zb,za,zc]);omega)) [o6]
    refine zcy h6 nd (by omega) (by omega) fun M7 h7=> ?_
    have o7:=oq h7
    simp(disch:=((try simp only[zb,za,zc]);omega)) [o7]
    refine rvals_ok h7 q.env v5 (by omega) (by omega) fun M8 h8=> ?_
    have again:=again M8 ⟨back h8,q6.mono (by omega) (by omega)⟩
    simp at again
    simp(disch:=((try simp only[zb,za,zc]);omega))
    exact again
   ·obtain⟨p1,p2⟩:=hP
    rw[List.take_length] at p1 p2
    have smy:=ob p1
    have x1:=p2.t;have x2:=p2.s;have x3:=p2.b
    simp(disch:=((try simp only[zb,za,zc]);omega)) [smy,ePc]
    refine rend_ok p1 80 (fun v hv=>(p2.nm v hv).small) (by omega) (by omega) (by omega) fun M9 n9 k9=> ?_
    have hk:k (St (((x.ws.foldl encW (u2.num x.ws.length))).fin 80)) M:=by rw[←hu2,←hu];exact hk
    simp(disch:=((try simp only[zb,za,zc]);omega))
    refine Back.plain (by simp) (fun i hi=> ?_) hk
    rw[k9 i ((fr0 i).2 (by omega)),hB0]
    show(M.new _).get i=_
    rw[get_new,if_neg (by omega)]
end Go.Ideal.S
set_option maxHeartbeats 2000000
namespace Go.Ideal.S
open Go Go.Ideal Q Classical
attribute [local simp] decide_eq_true decide_eq_false zT
variable {M M':VM} {k kp:DV→VM→Prop} {n0 j:Nat}
attribute [local simp] c_U f_U r_U_1 r_U_2 r_U_3 r_U_4 r_U_5 r_U_6 r_U_7
theorem rBytes_ok (x:Pc) (hx:SzP x) (he: ∀w∈x.ws,w.env.length<100000) (hk:k (.tup [St (zlP x).1,I (zlP x).2]) M):zj F (.fn n_U [] []) [.agg (ePc x)] M k kp:=by
 unfold zlP at hk
 apply zj.back
 refine .fn zfV rfl (by simp[f_U]) ?_
 simp(disch:=((try simp only[zb,za,zc]);omega))
 refine rgood_ok x hx ?_
 by_cases h1:zh3 x
 ·rw[decide_eq_true h1]
  rw[if_pos h1] at hk
  simp(disch:=((try simp only[zb,za,zc]);omega))
  refine zjX h1 he ?_
  by_cases h2:80000<(zhQ x).length
  ·rw[if_pos h2] at hk
   have h2i:(80000:Int)<(zhQ x).length:=by omega
   simp(disch:=((try simp only[zb,za,zc]);omega)) [h2i]
   exact Back.plain (by simp) (by repeat' (first|assumption|exact zh _ _|apply zm|apply zp|apply zq| ((try simp only[zb,za,zc]);omega))) hk
  ·rw[if_neg h2] at hk
   have h2i: ¬(80000:Int)<(zhQ x).length:=by omega
   simp(disch:=((try simp only[zb,za,zc]);omega)) [h2i]
   exact Back.plain (by simp) (by repeat' (first|assumption|exact zh _ _|apply zm|apply zp|apply zq| ((try simp only[zb,za,zc]);omega))) hk
 ·rw[decide_eq_false h1]
  rw[if_neg h1] at hk
  simp(disch:=((try simp only[zb,za,zc]);omega))
  exact Back.plain (by simp) (by repeat' (first|assumption|exact zh _ _|apply zm|apply zp|apply zq| ((try simp only[zb,za,zc]);omega))) hk
end Go.Ideal.S
namespace Go.Ideal.S
open Go Go.Ideal Q Classical
attribute [local simp] decide_eq_true decide_eq_false zT
variable {M M':VM} {k kp:DV→VM→Prop} {n0 j:Nat}
attribute [local simp] c_y f_y r_y_1 r_y_2 r_y_3 r_y_4 r_y_5 r_y_6 r_y_7 r_y_8 r_y_10 c_t f_t r_t_1 r_t_2 r_t_3 r_t_4 r_t_5 r_t_6 r_t_7 r_t_8 r_t_10 c_i f_i r_i_1 r_i_2 r_i_3 r_i_4 r_i_5 r_i_6 r_i_7 r_i_8 r_i_10 r_i_11 r_i_12 r_i_13 r_i_14 r_i_15 r_i_16 r_i_18
theorem sameInts_ok (l:List Int) (hl:l.length<4000000000000000000) (hk:k (.bool true) M):zj F (.fn n_y [] []) [.lst 1 (l.map eInt),.lst 1 (l.map eInt)] M k kp:=by
 apply zj.back
 refine .fn zeu rfl (by simp[f_y]) ?_
 simp(disch:=((try simp only[zb,za,zc]);omega))
 refine .for (σ:=Unit) c_y_9.eq_1 (fun i _=>[(5,I i)]) (fun _=>M) (fun i _=>True) l.length () (by simp) rfl trivial (fun i _ hi hP again=> ?_) (fun _ hP=> ?_)
 ·have again:=again () trivial
  simp at again
  generalize hx:l[i]=v at*
  simp(disch:=((try simp only[zb,za,zc]);omega)) [hi,hx,eInt]
  exact again
 ·simp(disch:=((try simp only[zb,za,zc]);omega))
  exact Back.plain (by simp) (by repeat' (first|assumption|exact zh _ _|apply zm|apply zp|apply zq| ((try simp only[zb,za,zc]);omega))) hk
theorem sameQueue_ok (l:List (List Sv)) (hl:l.length<4000000000000000000) (hm: ∀m∈l,m.length<1000000) (hk:k (.bool true) M):zj F (.fn n_t [] []) [.lst 1 (l.map eMsg),.lst 1 (l.map eMsg)] M k kp:=by
 apply zj.back
 refine .fn zd9 rfl (by simp[f_t]) ?_
 simp(disch:=((try simp only[zb,za,zc]);omega))
 refine .for (σ:=Unit) c_t_9.eq_1 (fun i _=>[(5,I i)]) (fun _=>M) (fun i _=>True) l.length () (by simp) rfl trivial (fun i _ hi hP again=> ?_) (fun _ hP=> ?_)
 ·have again:=again () trivial
  simp at again
  have hmi:=hm _ (List.getElem_mem hi)
  generalize hx:l[i]=v at*
  simp(disch:=((try simp only[zb,za,zc]);omega)) [hi,hx,eMsg]
  refine zjT v (by omega) ?_
  simp(disch:=((try simp only[zb,za,zc]);omega))
  exact again
 ·simp(disch:=((try simp only[zb,za,zc]);omega))
  exact Back.plain (by simp) (by repeat' (first|assumption|exact zh _ _|apply zm|apply zp|apply zq| ((try simp only[zb,za,zc]);omega))) hk
theorem sameParcel_ok (x:Pc) (hx:SzP x) (hk:k (.bool true) M):zj F (.fn n_i [] []) [.agg (ePc x),.agg (ePc x)] M k kp:=by
 obtain⟨s1,s2,s3,s4,s5⟩:=hx
 apply zj.back
 refine .fn zdI rfl (by simp[f_i]) ?_
 simp(disch:=((try simp only[zb,za,zc]);omega))
 obtain⟨Y,hY⟩: ∃Y,Y=(M.new (.rows false 3 [ePc x])).new (.rows false 3 [ePc x]):=⟨_,rfl⟩
 have yo:Y.obj M.next=some (.rows false 3 [ePc x]):=by rw[hY,zb2 _ (by simp)];simp
 have yo2:Y.obj (M.next+1)=some (.rows false 3 [ePc x]):=by rw[hY,zfK,if_pos (by simp)]
 have yn:Y.next=M.next+2:=by rw[hY];simp
 have ys: ∀i,i<M.next→Y.get i=M.get i:=fun i hi=>by rw[hY,get_new,if_neg (by simp;omega),get_new,if_neg (by omega)]
 rw[←hY]
 simp(disch:=((try simp only[zb,za,zc]);omega)) [yo,yo2,ePc]
 refine sameInts_ok x.sp (by omega) ?_
 simp(disch:=((try simp only[zb,za,zc]);omega)) [yo,yo2,ePc]
 refine .for (σ:=Unit) c_i_9.eq_1 (fun i _=>[(5,I i)]) (fun _=>Y) (fun i _=>True) x.qs.length () (by simp) rfl trivial (fun i _ hi hP again=> ?_) (fun _ hP=> ?_)
 ·have again:=again () trivial
  simp at again
  obtain⟨m1,m2⟩:=s4 _ (List.getElem_mem hi)
  generalize hx:x.qs[i]=q at*
  simp(disch:=((try simp only[zb,za,zc]);omega)) [yo,yo2,ePc,hi,hx,eQu]
  refine sameQueue_ok q.ms (by omega) m2 ?_
  simp(disch:=((try simp only[zb,za,zc]);omega))
  exact again
 ·simp(disch:=((try simp only[zb,za,zc]);omega)) [yo,yo2,ePc]
  refine .for (σ:=VM) c_i_17.eq_1 (fun i _=>[(6,I i)]) (fun z=>z) (fun i z=>SM (M.next+2) Y z∧M.next+2≤z.next) x.ws.length Y (by simp) rfl ⟨zh _ _,by omega⟩ (fun i y hi hP again=> ?_) (fun y hP=> ?_)
  ·obtain⟨q1,q2⟩:=hP
   have e5:=s5 _ (List.getElem_mem hi)
   generalize hx:x.ws[i]=w at*
   have zo:y.obj M.next=some (.rows false 3 [ePc x]):=by
    rw[←yo]
    show(y.get _).map _=(Y.get _).map _
    rw[q1 _ (by omega)]
   have zo2:y.obj (M.next+1)=some (.rows false 3 [ePc x]):=by
    rw[←yo2]
    show(y.get _).map _=(Y.get _).map _
    rw[q1 _ (by omega)]
   have ne1:M.next≠y.next:=by omega
   have ne2:M.next+1≠y.next:=by omega
   have wL:zJ [I 0,I 0,I 0,.nilS] 0 (eWt w)=some (eWt w):=rfl
   have x1:oneD (eWt w)=some (I w.nth):=rfl
   have again:=again ((((y.new (.rows false 4 [[I 0,I 0,I 0,.nilS]])).put y.next (.rows false 4 [eWt w])).new (.rows false 4 [[I 0,I 0,I 0,.nilS]])).put (y.next+1+1) (.rows false 4 [eWt w])) ⟨fun b hb=>by
    rw[get_put,if_neg (by omega),get_new,if_neg (by simp;omega),get_put,if_neg (by omega),get_new,if_neg (by omega)];exact q1 b hb,by simp;omega⟩
   simp at again
   unfold eWt at again
   simp(disch:=((try simp only[zb,za,zc]);omega)) [zo,zo2,ePc,hi,hx,wL,ne1,ne2]
   simp(disch:=((try simp only[zb,za,zc]);omega)) [eWt]
   refine zjT w.env (by omega) ?_
   simp(disch:=((try simp only[zb,za,zc]);omega))
   exact again
  ·have zo:y.obj M.next=some (.rows false 3 [ePc x]):=by
    rw[←yo]
    show(y.get _).map _=(Y.get _).map _
    rw[hP.1 _ (by omega)]
   simp(disch:=((try simp only[zb,za,zc]);omega)) [zo,ePc]
   exact Back.plain (by simp) (fun b hb=>(hP.1 b (by omega)).trans (ys b hb)) hk
end Go.Ideal.S
namespace Go.Ideal.S
open Go Go.Ideal Q Classical
attribute [local simp] decide_eq_true decide_eq_false zT
variable {M M':VM} {k kp:DV→VM→Prop} {n0 j:Nat}
attribute [local simp] c_l f_l r_l_1 r_l_2 r_l_3 r_l_4 r_l_5 r_l_6 r_l_7 r_l_8 r_l_9 r_l_10 r_l_11 r_l_12 r_l_14 r_l_16 r_l_17 r_l_18 r_l_19 r_l_20 r_l_22
theorem large_ok (x:Pc) (hk: ∀b:Bool,(b=false→SzP x∧ ∀w∈x.ws,w.env.length<100000)→k (.bool b) M):zj F (.fn n_l [] []) [.agg (ePc x)] M k kp:=by
 have yes:=hk true nofun
 apply zj.back
 refine .fn zfX rfl (by simp[f_l]) ?_
 simp(disch:=((try simp only[zb,za,zc]);omega))
 obtain⟨Y,hY⟩: ∃Y,Y=M.new (.rows false 3 [ePc x]):=⟨_,rfl⟩
 have yo:Y.obj M.next=some (.rows false 3 [ePc x]):=by rw[hY];simp
 have ys:SM M.next M Y:=by rw[hY];exact zp (zh _ _) (Nat.le_refl _)
 rw[←hY]
 by_cases h1:x.sp.length≤70
 ·have h1i: ¬(70:Int)<x.sp.length:=by omega
  by_cases h2:x.qs.length≤70
  ·have h2i: ¬(70:Int)<x.qs.length:=by omega
   by_cases h3:x.ws.length≤70
   ·have h3i: ¬(70:Int)<x.ws.length:=by omega
    simp(disch:=((try simp only[zb,za,zc]);omega)) [yo,ePc,h1i,h2i,h3i]
    refine .for (σ:=Unit) c_l_15.eq_1 (fun i _=>[(3,I i)]) (fun _=>Y) (fun i _=> ∀q∈x.qs.take i,q.ms.length<1000000∧ ∀m∈q.ms,m.length<1000000) x.qs.length () (by simp) rfl (by simp) (fun i _ hi hP again=> ?_) (fun _ hP=> ?_)
    ·rw[List.take_succ_eq_append_getElem hi] at again
     generalize hx:x.qs[i]=q at*
     by_cases h4:q.ms.length≤20
     ·have h4i: ¬(20:Int)<q.ms.length:=by omega
      simp(disch:=((try simp only[zb,za,zc]);omega)) [yo,ePc,hi,hx,eQu,h4i]
      refine .for (σ:=Unit) c_l_13.eq_1 (fun a _=>[(4,I a)]) (fun _=>Y) (fun a _=> ∀m∈q.ms.take a,m.length<1000000) q.ms.length () (by simp) rfl (by simp) (fun a _ ha hP2 again2=> ?_) (fun _ hP2=> ?_)
      ·rw[List.take_succ_eq_append_getElem ha] at again2
       generalize hm:q.ms[a]=m at*
       simp(disch:=((try simp only[zb,za,zc]);omega)) [yo,ePc,hi,hx,eQu,ha,hm,eMsg]
       refine many_ok m ?_
       by_cases h5:1000<m.length
       ·rw[decide_eq_true h5]
        clear again again2
        simp(disch:=((try simp only[zb,za,zc]);omega))
        exact Back.plain (by simp) ys yes
       ·rw[decide_eq_false h5]
        have again2:=again2 () (fun u hu=>by
         rcases List.mem_append.1 hu with hu|hu
         ·exact hP2 u hu
         ·rw[List.mem_singleton.1 hu];omega)
        simp at again2
        simp(disch:=((try simp only[zb,za,zc]);omega))
        exact again2
      ·rw[List.take_length] at hP2
       have again:=again () (fun u hu=>by
        rcases List.mem_append.1 hu with hu|hu
        ·exact hP u hu
        ·rw[List.mem_singleton.1 hu];exact⟨by omega,hP2⟩)
       simp at again
       simp(disch:=((try simp only[zb,za,zc]);omega)) [yo,ePc,hi,hx,eQu]
       exact again
     ·have h4i:(20:Int)<q.ms.length:=by omega
      clear again
      simp(disch:=((try simp only[zb,za,zc]);omega)) [yo,ePc,hi,hx,eQu,h4i]
      exact Back.plain (by simp) ys yes
    ·rw[List.take_length] at hP
     simp(disch:=((try simp only[zb,za,zc]);omega)) [yo,ePc]
     refine .for (σ:=Unit) c_l_21.eq_1 (fun i _=>[(5,I i)]) (fun _=>Y) (fun i _=> ∀w∈x.ws.take i,w.env.length<100000) x.ws.length () (by simp) rfl (by simp) (fun i _ hi hP2 again=> ?_) (fun _ hP2=> ?_)
     ·rw[List.take_succ_eq_append_getElem hi] at again
      generalize hx:x.ws[i]=w at*
      simp(disch:=((try simp only[zb,za,zc]);omega)) [yo,ePc,hi,hx,eWt]
      refine many_ok w.env ?_
      by_cases h5:1000<w.env.length
      ·rw[decide_eq_true h5]
       clear again
       simp(disch:=((try simp only[zb,za,zc]);omega))
       exact Back.plain (by simp) ys yes
      ·rw[decide_eq_false h5]
       have again:=again () (fun u hu=>by
        rcases List.mem_append.1 hu with hu|hu
        ·exact hP2 u hu
        ·rw[List.mem_singleton.1 hu];omega)
       simp at again
       simp(disch:=((try simp only[zb,za,zc]);omega))
       exact again
     ·rw[List.take_length] at hP2
      have no:=hk false fun _=>⟨⟨by omega,by omega,by omega,hP,fun w hw=>by have:=hP2 w hw;omega⟩,hP2⟩
      simp(disch:=((try simp only[zb,za,zc]);omega)) [yo,ePc]
      exact Back.plain (by simp) ys no
   ·have h3i:(70:Int)<x.ws.length:=by omega
    simp(disch:=((try simp only[zb,za,zc]);omega)) [yo,ePc,h1i,h2i,h3i]
    exact Back.plain (by simp) ys yes
  ·have h2i:(70:Int)<x.qs.length:=by omega
   simp(disch:=((try simp only[zb,za,zc]);omega)) [yo,ePc,h1i,h2i]
   exact Back.plain (by simp) ys yes
 ·have h1i:(70:Int)<x.sp.length:=by omega
  simp(disch:=((try simp only[zb,za,zc]);omega)) [yo,ePc,h1i]
  exact Back.plain (by simp) ys yes
end Go.Ideal.S
namespace Go.Ideal.S
open Go Go.Ideal Q Classical
attribute [local simp] decide_eq_true decide_eq_false zT
variable {M y y':VM} {B:Base} {k kp:DV→VM→Prop} {n0 j X0 N0:Nat} {b:List UInt8} {t:List Sv} {dn d1 d2 d3 d':DV} {S S':Option (List UInt8)} {sp:List Int} {qs:List Qu} {ws:List Wt}
theorem Qd.keepQ (h:Qd B y j b t dn S) {q:Nat} (hj:j<q) (hd: ∀i,¬Off dn i→i<q) (hB: ∀i,B.fr i→i<q) (hn:y.next≤y'.next) (hk: ∀i,i<q→y'.get i=y.get i):Qd B y' j b t dn S:=by
 obtain⟨a,f,h,e⟩:=h
 refine⟨a,f,⟨fun i hi=>(hk i (hB i hi)).trans (h.sm i hi),fun i hi=>by have:=h.nx i hi;omega,h.j1,by have:=h.j2;omega,?_,h.ln.keep hn fun i hi hno=>hk i (hd i hno),h.fn,h.al,h.bl⟩,e⟩
 rw[←h.oj];show(y'.get j).map _=(y.get j).map _;rw[hk j hj]
theorem Qd.putO (h:Qd B y j b t dn S) {q:Nat} (hq:j≠q) (hB: ¬B.fr q) (ho:Off dn q) (o:MO):Qd B (y.put q o) j b t dn S:=by
 obtain⟨a,f,h,e⟩:=h
 have j2:=h.j2
 exact⟨a,f,⟨fun i hi=>by have hne:i≠q:=(fun e=>hB (by rw[←e];exact hi));rw[get_put,if_neg hne];exact h.sm i hi,fun i hi=>by have:=h.nx i hi;simp;omega,h.j1,by simp;omega,by rw[zcA,if_neg hq];exact h.oj,h.ln.put ho o,h.fn,h.al,h.bl⟩,e⟩
theorem Qd.rebase {B2:Base} (h:Qd B2 y j b t dn S) (hf: ∀i,B.fr i→B2.fr i∧B2.m.get i=B.m.get i):Qd B y j b t dn S:=by
 obtain⟨a,f,h,e⟩:=h
 exact⟨a,f,⟨fun i hi=>(h.sm i (hf i hi).1).trans (hf i hi).2,fun i hi=>h.nx i (hf i hi).1,fun hi=>h.j1 (hf _ hi).1,h.j2,h.oj,h.ln,fun i hi=>h.fn i (hf i hi).1,h.al,h.bl⟩,e⟩
structure PqE (B:Base) (X0 N0:Nat) (y:VM) (j:Nat) (b:List UInt8) (t:List Sv) (dn:DV) (S:Option (List UInt8)) (d1 d2 d3:DV) (sp:List Int) (qs:List Qu) (ws:List Wt):Prop where
 rd:Qd B y j b t dn S
 hx: ¬B.fr X0
 hxj:X0<j
 hjN:j<N0
 nx:N0≤y.next
 hd: ∀i,¬Off dn i→X0<i∧i<N0
 hB: ∀i,B.fr i→i<N0
 o3:y.obj X0=some (.rows false 3 [[d1,d2,d3]])
 l1:Lb y d1 1 (sp.map eInt)
 l2:Lb y d2 2 (qs.map eQu)
 l3:Lb y d3 4 (ws.map eWt)
 fr: ∀i,i<N0→Off d1 i∧Off d2 i∧Off d3 i
theorem PqE.frame (h:PqE B X0 N0 y j b t dn S d1 d2 d3 sp qs ws) {q:Nat} (hq:N0≤q) (hb: ∀i,q≤i→Off d1 i∧Off d2 i∧Off d3 i) (hn:y.next≤y'.next) (hk: ∀i,i<q→y'.get i=y.get i):PqE B X0 N0 y' j b t dn S d1 d2 d3 sp qs ws:=by
 have a:=h.hxj;have c:=h.hjN;have e:=h.nx
 refine⟨h.rd.keepQ (q:=q) (by omega) (fun i hi=>by have:=(h.hd i hi).2;omega) (fun i hi=>by have:=h.hB i hi;omega) hn hk,h.hx,a,c,by omega,h.hd,h.hB,?_,h.l1.keep hn fun i hi hno=>hk i ?_,h.l2.keep hn fun i hi hno=>hk i ?_,h.l3.keep hn fun i hi hno=>hk i ?_,h.fr⟩
 ·rw[←h.o3];show(y'.get X0).map _=(y.get X0).map _;rw[hk X0 (by omega)]
 ·exact Classical.byContradiction fun hc=>hno (hb i (by omega)).1
 ·exact Classical.byContradiction fun hc=>hno (hb i (by omega)).2.1
 ·exact Classical.byContradiction fun hc=>hno (hb i (by omega)).2.2
theorem PqE.rdk (h:PqE B X0 N0 y j b t dn S d1 d2 d3 sp qs ws) (h':Qd B y' j b t dn S') (kj:Kj j y y'):PqE B X0 N0 y' j b t dn S' d1 d2 d3 sp qs ws:=by
 have a:=h.hxj;have c:=h.hjN;have e:=h.nx;have g:=kj.1
 exact⟨h',h.hx,a,c,by omega,h.hd,h.hB,by rw[←h.o3];show(y'.get X0).map _=(y.get X0).map _;rw[kj.2 X0 (by omega) (by omega)],h.l1.kj (h.fr j c).1 kj,h.l2.kj (h.fr j c).2.1 kj,h.l3.kj (h.fr j c).2.2 kj,h.fr⟩
theorem PqE.g1 (h:PqE B X0 N0 y j b t dn S d1 d2 d3 sp qs ws) {x:Int} (hL:Lb y' d' 1 ((sp++[x]).map eInt)) (hG:Gro y d1 y' d'):PqE B X0 N0 (y'.put X0 (.rows false 3 [[d',d2,d3]])) j b t dn S d' d2 d3 (sp++[x]) qs ws:=by
 have a:=h.hxj;have c:=h.hjN;have e:=h.nx;have g:=hG.nx
 have f0:=fun i (hi:i<N0)=>(h.fr i hi).1
 have r1:=h.rd.gro hG (fun q hq=>f0 q (h.hB q hq)) (f0 j c) (fun q hq=>f0 q (h.hd q hq).2)
 have ho:Off dn X0:=Classical.byContradiction fun hc=>by have:=(h.hd _ hc).1;omega
 exact⟨r1.putO (by omega) h.hx ho _,h.hx,a,c,by simp;omega,h.hd,h.hB,by simp,hL.put (hG.of X0 (by omega) (f0 X0 (by omega))) _,(h.l2.keep g fun i hi hno=>hG.kp i hi (off2 h.l1 h.l2 (by decide) hno)).put (h.fr X0 (by omega)).2.1 _,(h.l3.keep g fun i hi hno=>hG.kp i hi (off2 h.l1 h.l3 (by decide) hno)).put (h.fr X0 (by omega)).2.2 _,fun i hi=>⟨hG.of i (by omega) (f0 i hi),(h.fr i hi).2⟩⟩
theorem PqE.g2 (h:PqE B X0 N0 y j b t dn S d1 d2 d3 sp qs ws) {x:Qu} (hL:Lb y' d' 2 ((qs++[x]).map eQu)) (hG:Gro y d2 y' d'):PqE B X0 N0 (y'.put X0 (.rows false 3 [[d1,d',d3]])) j b t dn S d1 d' d3 sp (qs++[x]) ws:=by
 have a:=h.hxj;have c:=h.hjN;have e:=h.nx;have g:=hG.nx
 have f0:=fun i (hi:i<N0)=>(h.fr i hi).2.1
 have r1:=h.rd.gro hG (fun q hq=>f0 q (h.hB q hq)) (f0 j c) (fun q hq=>f0 q (h.hd q hq).2)
 have ho:Off dn X0:=Classical.byContradiction fun hc=>by have:=(h.hd _ hc).1;omega
 exact⟨r1.putO (by omega) h.hx ho _,h.hx,a,c,by simp;omega,h.hd,h.hB,by simp,(h.l1.keep g fun i hi hno=>hG.kp i hi (off2 h.l2 h.l1 (by decide) hno)).put (h.fr X0 (by omega)).1 _,hL.put (hG.of X0 (by omega) (f0 X0 (by omega))) _,(h.l3.keep g fun i hi hno=>hG.kp i hi (off2 h.l2 h.l3 (by decide) hno)).put (h.fr X0 (by omega)).2.2 _,fun i hi=>⟨(h.fr i hi).1,hG.of i (by omega) (f0 i hi),(h.fr i hi).2.2⟩⟩
theorem PqE.g3 (h:PqE B X0 N0 y j b t dn S d1 d2 d3 sp qs ws) {x:Wt} (hL:Lb y' d' 4 ((ws++[x]).map eWt)) (hG:Gro y d3 y' d'):PqE B X0 N0 (y'.put X0 (.rows false 3 [[d1,d2,d']])) j b t dn S d1 d2 d' sp qs (ws++[x]):=by
 have a:=h.hxj;have c:=h.hjN;have e:=h.nx;have g:=hG.nx
 have f0:=fun i (hi:i<N0)=>(h.fr i hi).2.2
 have r1:=h.rd.gro hG (fun q hq=>f0 q (h.hB q hq)) (f0 j c) (fun q hq=>f0 q (h.hd q hq).2)
 have ho:Off dn X0:=Classical.byContradiction fun hc=>by have:=(h.hd _ hc).1;omega
 exact⟨r1.putO (by omega) h.hx ho _,h.hx,a,c,by simp;omega,h.hd,h.hB,by simp,(h.l1.keep g fun i hi hno=>hG.kp i hi (off2 h.l3 h.l1 (by decide) hno)).put (h.fr X0 (by omega)).1 _,(h.l2.keep g fun i hi hno=>hG.kp i hi (off2 h.l3 h.l2 (by decide) hno)).put (h.fr X0 (by omega)).2.1 _,hL.put (hG.of X0 (by omega) (f0 X0 (by omega))) _,fun i hi=>⟨(h.fr i hi).1,(h.fr i hi).2.1,hG.of i (by omega) (f0 i hi)⟩⟩
theorem X_one {α:Type} {f:List UInt8→Option (α×List UInt8)} {S:Option (List UInt8)} {i:Nat} {acc:List α} {x:α} (ha: ∀m r,Xr f S i=some (m,r)→acc=m) (hx: ∀m r,((Xr f S i).map (·.2)).bind f=some (m,r)→x=m):
 (Xr f S (i+1)).map (·.2)=(((Xr f S i).map (·.2)).bind f).map (·.2)∧ ∀m r,Xr f S (i+1)=some (m,r)→acc++[x]=m:=by
 rw[zkW]
 cases h:Xr f S i with
 |none=>exact⟨rfl,nofun⟩
 |some p=>
  obtain⟨m0,r0⟩:=p
  have:=ha m0 r0 h;subst this
  rw[h] at hx
  have hx: ∀m r,f r0=some (m,r)→x=m:=hx
  rw[Option.bind_some]
  show _=(f r0).map _∧_
  cases hg:f r0 with
  |none=>exact⟨rfl,nofun⟩
  |some u=>
   have e1:=hx u.1 u.2 hg
   refine⟨rfl,fun m r e=> ?_⟩
   rw[e1];cases e;rfl
theorem zhU {α:Type} {f:List UInt8→Option (α×List UInt8)} (S:Option (List UInt8)) {N:Nat} (h: ∀m r,S.bind zbz=some (m,r)→N=m):S.bind (zB f)=Xr f ((S.bind zbz).map (·.2)) N:=bind_rep h
theorem que_two {t:List Sv} {S:Option (List UInt8)} {ch:Int} {ms:List (List Sv)} (h1: ∀m r,S.bind (z9 t 3)=some (m,r)→ch=m) (h2: ∀m r,((S.bind (z9 t 3)).map (·.2)).bind (zB (zbw t))=some (m,r)→ms=m):
 (S.bind (queN t)).map (·.2)=(((S.bind (z9 t 3)).map (·.2)).bind (zB (zbw t))).map (·.2)∧ ∀m r,S.bind (queN t)=some (m,r)→(⟨ch,ms⟩:Qu)=m:=by
 cases S with
 |none=>exact⟨rfl,nofun⟩
 |some l=>
  have h1: ∀m r,z9 t 3 l=some (m,r)→ch=m:=h1
  have h2: ∀m r,((z9 t 3 l).map (·.2)).bind (zB (zbw t))=some (m,r)→ms=m:=h2
  show(queN t l).map _=(((z9 t 3 l).map _).bind _).map _∧ ∀m r,queN t l=some (m,r)→_
  unfold queN
  cases hn:z9 t 3 l with
  |none=>exact⟨rfl,nofun⟩
  |some a=>
   rw[hn] at h2
   have h2: ∀m r,zB (zbw t) a.2=some (m,r)→ms=m:=h2
   have e1:=h1 a.1 a.2 hn
   rw[Option.bind_some]
   show _=(zB (zbw t) a.2).map _∧_
   cases hv:zB (zbw t) a.2 with
   |none=>exact⟨rfl,nofun⟩
   |some c=>refine⟨rfl,fun m r e=> ?_⟩;rw[e1,h2 c.1 c.2 hv];cases e;rfl
end Go.Ideal.S
set_option maxHeartbeats 4000000
namespace Go.Ideal.S
open Go Go.Ideal Q Classical
attribute [local simp] decide_eq_true decide_eq_false zT
variable {M:VM} {k kp:DV→VM→Prop} {n0:Nat}
theorem wait_four {t:List Sv} {S:Option (List UInt8)} {a c:Nat} {pl:Int} {vs:List Sv} (h1: ∀m r,S.bind getN=some (m,r)→a=m) (h2: ∀m r,((S.bind getN).map (·.2)).bind (z9 t 4)=some (m,r)→pl=m) (h3: ∀m r,((((S.bind getN).map (·.2)).bind (z9 t 4)).map (·.2)).bind getN=some (m,r)→c=m)
 (h4: ∀m r,((((((S.bind getN).map (·.2)).bind (z9 t 4)).map (·.2)).bind getN).map (·.2)).bind (zbw t)=some (m,r)→vs=m):
 (S.bind (zb7 t)).map (·.2)=(((((((S.bind getN).map (·.2)).bind (z9 t 4)).map (·.2)).bind getN).map (·.2)).bind (zbw t)).map (·.2)∧ ∀m r,S.bind (zb7 t)=some (m,r)→(⟨(a:Int),pl,(c:Int),vs⟩:Wt)=m:=by
 cases S with
 |none=>exact⟨rfl,nofun⟩
 |some l=>
  simp only[Option.bind_some] at h1 h2 h3 h4⊢
  unfold zb7
  cases e1:getN l with
  |none=>exact⟨rfl,nofun⟩
  |some x1=>
   simp only[e1,Option.map_some,Option.bind_some] at h1 h2 h3 h4⊢
   cases e2:z9 t 4 x1.2 with
   |none=>exact⟨rfl,nofun⟩
   |some x2=>
    simp only[e2,Option.map_some,Option.bind_some] at h2 h3 h4⊢
    cases e3:getN x2.2 with
    |none=>exact⟨rfl,nofun⟩
    |some x3=>
     simp only[e3,Option.map_some,Option.bind_some] at h3 h4⊢
     cases e4:zbw t x3.2 with
     |none=>exact⟨rfl,nofun⟩
     |some x4=>
      refine⟨rfl,fun m r e=> ?_⟩
      rw[h1 x1.1 x1.2 rfl,h2 x2.1 x2.2 rfl,h3 x3.1 x3.2 rfl,h4 x4.1 x4.2 e4]
      cases e;rfl
theorem pc_of {s:Option (List Sv×List UInt8)} {t:List Sv} {sp:List Int} {qs:List Qu} {ws:List Wt} {R:Option (List UInt8)} (h1: ∀m r,s=some (m,r)→t=m) (h2: ∀m r,(s.map (·.2)).bind (zB (z9 t 4))=some (m,r)→sp=m) (h3: ∀m r,(((s.map (·.2)).bind (zB (z9 t 4))).map (·.2)).bind (zB (queN t))=some (m,r)→qs=m)
 (h4: ∀m r,(((((s.map (·.2)).bind (zB (z9 t 4))).map (·.2)).bind (zB (queN t))).map (·.2)).bind (zB (zb7 t))=some (m,r)→ws=m)
 (hR:R=((((((s.map (·.2)).bind (zB (z9 t 4))).map (·.2)).bind (zB (queN t))).map (·.2)).bind (zB (zb7 t))).map (·.2)):s.bind pcN=if R=none then none else some ⟨sp,qs,ws⟩:=by
 cases s with
 |none=>rw[if_pos (by rw[hR];rfl)];rfl
 |some x=>
  obtain⟨t',r1⟩:=x
  have:=h1 t' r1 rfl;subst this
  have h2: ∀m r,zB (z9 t 4) r1=some (m,r)→sp=m:=h2
  have h3: ∀m r,((zB (z9 t 4) r1).map (·.2)).bind (zB (queN t))=some (m,r)→qs=m:=h3
  have h4: ∀m r,((((zB (z9 t 4) r1).map (·.2)).bind (zB (queN t))).map (·.2)).bind (zB (zb7 t))=some (m,r)→ws=m:=h4
  have hR:R=(((((zB (z9 t 4) r1).map (·.2)).bind (zB (queN t))).map (·.2)).bind (zB (zb7 t))).map (·.2):=hR
  rw[Option.bind_some]
  unfold pcN
  dsimp only
  cases hn:zB (z9 t 4) r1 with
  |none=>rw[hn] at hR;rw[if_pos (by rw[hR];rfl)];rfl
  |some y=>
   rw[hn] at hR h3 h4
   have h3: ∀m r,zB (queN t) y.2=some (m,r)→qs=m:=h3
   have h4: ∀m r,((zB (queN t) y.2).map (·.2)).bind (zB (zb7 t))=some (m,r)→ws=m:=h4
   have hR:R=(((zB (queN t) y.2).map (·.2)).bind (zB (zb7 t))).map (·.2):=hR
   have e1:=h2 y.1 y.2 hn
   rw[Option.bind_some]
   cases hq:zB (queN t) y.2 with
   |none=>rw[hq] at hR;rw[if_pos (by rw[hR];rfl)];rfl
   |some z=>
    rw[hq] at hR h4
    have h4: ∀m r,zB (zb7 t) z.2=some (m,r)→ws=m:=h4
    have hR:R=(zB (zb7 t) z.2).map (·.2):=hR
    have e2:=h3 z.1 z.2 hq
    rw[Option.bind_some]
    cases hw:zB (zb7 t) z.2 with
    |none=>rw[hw] at hR;rw[if_pos (by rw[hR];rfl)];rfl
    |some u=>rw[hw] at hR;rw[if_neg (by rw[hR];exact nofun),e1,e2,h4 u.1 u.2 hw];rfl
theorem back_frz {y:VM} {d:DV} {s:Nat} {rows:List (List DV)} (hw:M.Wf) (hL:Lb y d s rows) (hf: ∀i,i<M.next→Off d i):Frz y M d (.lst s rows):=by
 rcases hL.v with⟨rfl,e⟩| ⟨p,op,cap,h2,e,h4,_⟩
 ·rw[e];exact .nilS s
 ·rw[e] at hf⊢
  have hp:M.next≤p:=Classical.byContradiction fun h=>hf p (by omega) rfl
  exact .ms0 h4 (hw p hp) rfl hL.row
attribute [local simp] c_b f_b r_b_1 r_b_2 r_b_3 r_b_4 r_b_5 r_b_6 r_b_7 r_b_8 r_b_10 r_b_11 r_b_12 r_b_13 r_b_14 r_b_15 r_b_16 r_b_17 r_b_18 r_b_20 r_b_21 r_b_23 r_b_24 r_b_25 r_b_26 r_b_27 r_b_28 r_b_29 r_b_30 r_b_31 r_b_33
theorem rparcel_ok (b:List UInt8) (hb1:1≤b.length) (hb2:b.length≤1000000) (hk: ∀(x:Pc) (q:Bool),(q=false→(tabN (b.drop 1)).bind pcN=some x)→(q=true→(tabN (b.drop 1)).bind pcN=none)→k (.tup [.agg (ePc x),.bool (!q)]) M):zj F (.fn n_b [] []) [St b] M k kp:=by
 apply zj.back
 refine .fn zfs rfl (by simp[f_b]) ?_
 simp(disch:=((try simp only[zb,za,zc]);omega))
 obtain⟨Y,hY⟩: ∃Y,Y=(M.new (.rows false 3 [[.nilS,.nilS,.nilS]])).new (.rows false 3 [[.nilS,.nilS,.nilS]]):=⟨_,rfl⟩
 have yn:Y.next=M.next+2:=by rw[hY];simp
 have y1:Y.obj (M.next+1)=some (.rows false 3 [[.nilS,.nilS,.nilS]]):=by rw[hY,zfK,if_pos (by simp)]
 have y0:Y.obj M.next=some (.rows false 3 [[.nilS,.nilS,.nilS]]):=by rw[hY,zb2 _ (by simp)];simp
 rw[←hY]
 refine rbegin_ok b hb1 hb2 fun M1 j t dn q1 lt he1=> ?_
 have q1b:Qd ⟨Y,fun i=>i<M.next+1⟩ M1 j b t dn ((tabN (b.drop 1)).map (·.2)):=q1.rebase fun i hi=>⟨by have hi:i<M.next+1:=hi;show i<Y.next;omega,rfl⟩
 have p1:PqE ⟨Y,fun i=>i<M.next+1⟩ (M.next+1) M1.next M1 j b t dn ((tabN (b.drop 1)).map (·.2)) .nilS .nilS .nilS [] [] []:=by
  obtain⟨a,f,h,e⟩:=q1
  have hj: ¬j<Y.next:=h.j1
  have hn: ∀i,i<Y.next→i<M1.next:=h.nx
  have hf: ∀i,i<Y.next→Off dn i:=h.fn
  exact⟨q1b,fun hi=>Nat.lt_irrefl _ hi,by omega,h.j2,Nat.le_refl _,fun i hi=>⟨Classical.byContradiction fun hc=>hi (hf i (by omega)),h.ln.ltN hi⟩,fun i hi=>hn i (by have hi:i<M.next+1:=hi;omega),by
   rw[←y1]
   show(M1.get _).map _=(Y.get _).map _
   rw[h.sm (M.next+1) (by show _<Y.next;omega)],.nil _ _,.nil _ _,.nil _ _,fun _ _=>⟨trivial,trivial,trivial⟩⟩
 generalize hN0:M1.next=N0 at*
 generalize hX0:M.next+1=X0 at*
 generalize hS0:(tabN (b.drop 1)).map (·.2)=S0 at*
 simp(disch:=((try simp only[zb,za,zc]);omega))
 refine zei p1.rd fun M2 N h2 k2 hN he=> ?_
 have p2:=p1.rdk h2 k2
 have hall:S0.bind (zB (z9 t 4))=Xr (z9 t 4) ((S0.bind zbz).map (·.2)) N:=zhU S0 he
 simp(disch:=((try simp only[zb,za,zc]);omega))
 refine .for (σ:=VM×DV×List Int) c_b_9.eq_1 (fun i z=>[(7,I i)]) (fun z=>z.1) (fun i z=>PqE ⟨Y,fun i=>i<X0⟩ X0 N0 z.1 j b t dn ((Xr (z9 t 4) ((S0.bind zbz).map (·.2)) i).map (·.2)) z.2.1 .nilS .nilS z.2.2 [] []∧(∀m r,Xr (z9 t 4) ((S0.bind zbz).map (·.2)) i=some (m,r)→z.2.2=m)∧z.2.2.length=i) N (M2,.nilS,[]) (by simp) rfl ⟨by rw[zc5];cases hh:(S0.bind zbz).map (·.2)<;>(rw[hh] at p2;exact p2),fun m r e=>by
  rw[zc5] at e
  obtain⟨l0,_,e⟩:=Option.map_eq_some_iff.1 e
  cases e;rfl,rfl⟩ (fun i z hi hP again=> ?_) (fun z hP=> ?_)
 ·obtain⟨y,d,acc⟩:=z
  obtain⟨p,p5,p6⟩:=hP
  dsimp only at*
  have xj:=p.hxj;have nx:=p.nx;have jN:=p.hjN
  have o0:=p.o3
  simp(disch:=((try simp only[zb,za,zc]);omega)) [hi]
  refine zj6 p.rd 4 fun M3 x h3 k3 hxe=> ?_
  obtain⟨x1,x2⟩:=X_one p5 hxe
  rw[←x1] at h3
  have q:=p.rdk h3 k3
  have o3:=q.o3
  simp(disch:=((try simp only[zb,za,zc]);omega)) [o3]
  refine⟨.inl (k3.2 _ (by omega) (by omega)),q.l1.self,?_⟩
  refine zh4 (q.l1.new _) (new:=[eInt x]) (by simp[eInt]) (by decide) (by simp[eInt]) (by simp) (by simp;omega) fun d' M4 hL hG=> ?_
  have hG:=hG.pre
  have g:=q.g1 (x:=x) (by simpa using hL) hG
  have nx3:=q.nx
  have o4:M4.obj X0=some (.rows false 3 [[d,.nilS,.nilS]]):=by rw[hG.obj (by omega) (q.fr X0 (by omega)).1];exact o3
  have c1:=hL.cells
  have c2:=hL.cell
  have again:=again (_,d',acc++[x]) ⟨g,x2,by simp[p6]⟩
  simp at again
  simp(disch:=((try simp only[zb,za,zc]);omega)) [o4,c1,c2]
  exact again
 ·obtain⟨y,d1,sp⟩:=z
  obtain⟨p,p5,p6⟩:=hP
  dsimp only at*
  rw[←hall] at p p5
  have hsp:=p5
  generalize hS1:(S0.bind (zB (z9 t 4))).map (·.2)=S1 at*
  simp(disch:=((try simp only[zb,za,zc]);omega))
  refine zei p.rd fun M5 N2 h5 k5 hN2 he2=> ?_
  have pq:=p.rdk h5 k5
  have hall2:S1.bind (zB (queN t))=Xr (queN t) ((S1.bind zbz).map (·.2)) N2:=zhU S1 he2
  generalize (S1.bind zbz).map (·.2)=S2 at*
  simp(disch:=((try simp only[zb,za,zc]);omega))
  refine .for (σ:=VM×DV×List Qu) c_b_22.eq_1 (fun i z=>[(8,I i)]) (fun z=>z.1) (fun i z=>PqE ⟨Y,fun i=>i<X0⟩ X0 N0 z.1 j b t dn ((Xr (queN t) S2 i).map (·.2)) d1 z.2.1 .nilS sp z.2.2 []∧(∀m r,Xr (queN t) S2 i=some (m,r)→z.2.2=m)∧z.2.2.length=i) N2 (M5,.nilS,[]) (by simp) rfl ⟨by rw[zc5];cases S2<;>exact pq,fun m r e=>by
   rw[zc5] at e
   obtain⟨l0,_,e⟩:=Option.map_eq_some_iff.1 e
   cases e;rfl,rfl⟩ (fun i z hi hP again=> ?_) (fun z hP=> ?_)
  ·obtain⟨y,d2,acc⟩:=z
   obtain⟨p,p5,p6⟩:=hP
   dsimp only at*
   simp(disch:=((try simp only[zb,za,zc]);omega)) [hi]
   refine zj6 p.rd 3 fun M6 ch h6 k6 he6=> ?_
   have q:=p.rdk h6 k6
   have nx6:=q.nx;have jN:=q.hjN;have xj:=q.hxj
   simp(disch:=((try simp only[zb,za,zc]);omega))
   obtain⟨Z,hZ⟩: ∃Z,Z=(M6.new (.rows false 2 [[I 0,.nilS]])).put M6.next (.rows false 2 [[I ch,.nilS]]):=⟨_,rfl⟩
   have zn:Z.next=M6.next+2:=by rw[hZ];simp
   have zk: ∀i,i<M6.next→Z.get i=M6.get i:=fun i hi=>by rw[hZ,get_put,if_neg (by omega),get_new,if_neg (by omega)]
   have zo:Z.obj M6.next=some (.rows false 2 [[I ch,.nilS]]):=by rw[hZ];simp
   have hoff: ∀i,M6.next≤i→Off d1 i∧Off d2 i∧Off (DV.nilS) i:=fun i hi=>⟨q.l1.offN hi,q.l2.offN hi,trivial⟩
   have qz:=q.frame (q:=M6.next) nx6 hoff (by omega) zk
   rw[←hZ]
   generalize hq4:M6.next=q4 at*
   refine zei qz.rd fun M7 N3 h7 k7 hN3 he7=> ?_
   have n7:=k7.1
   have q7:=qz.rdk h7 k7
   have o7:M7.obj q4=some (.rows false 2 [[I ch,.nilS]]):=by
    show(M7.get _).map _=_
    rw[k7.2 _ (by omega) (by omega)];exact zo
   obtain⟨T0,hT0⟩: ∃T0,T0=(((Xr (queN t) S2 i).map (·.2)).bind (z9 t 3)).map (·.2):=⟨_,rfl⟩
   rw[←hT0] at q7 he7
   have hallT:T0.bind (zB (zbw t))=Xr (zbw t) ((T0.bind zbz).map (·.2)) N3:=zhU T0 he7
   generalize (T0.bind zbz).map (·.2)=T1 at*
   simp(disch:=((try simp only[zb,za,zc]);omega))
   refine zch.forL (σ:=VM×DV×List (List Sv)) c_b_19.eq_1 (fun a z=>[(11,I a)]) (fun z=>z.1) (fun a z=>PqE ⟨Y,fun i=>i<X0⟩ X0 N0 z.1 j b t dn ((Xr (zbw t) T1 a).map (·.2)) d1 d2 .nilS sp acc []∧q4<z.1.next∧z.1.obj q4=some (.rows false 2 [[I ch,z.2.1]])∧Lb z.1 z.2.1 1 (z.2.2.map eMsg)∧(∀i,i≤q4→Off z.2.1 i)∧(∀m r,Xr (zbw t) T1 a=some (m,r)→z.2.2=m)∧z.2.2.length=a) N3 (M7,.nilS,[]) (by simp) rfl ⟨by rw[zc5];cases T1<;>exact q7,by dsimp only;omega,o7,.nil _ _,fun _ _=>trivial,fun m r e=>by
    rw[zc5] at e
    obtain⟨l0,_,e⟩:=Option.map_eq_some_iff.1 e
    cases e;rfl,rfl⟩ (fun a z ha hP2 again2=> ?_) (fun z hP2=> ?_)
   ·obtain⟨y4,dq,ms⟩:=z
    obtain⟨g,g1,g2,g3,g4,g5,g6⟩:=hP2
    dsimp only at*
    simp(disch:=((try simp only[zb,za,zc]);omega)) [ha]
    refine rvals'_f g.rd fun M8 vs h8 k8 lv he8=> ?_
    obtain⟨x1,x2⟩:=X_one g5 he8
    rw[←x1] at h8
    have n8:=k8.1
    have q8:=g.rdk h8 k8
    have g3':=g3.kj (g4 j (by omega)) k8
    have o8:M8.obj q4=some (.rows false 2 [[I ch,dq]]):=by
     show(M8.get _).map _=_
     rw[k8.2 _ g1 (by omega)];exact g2
    simp(disch:=((try simp only[zb,za,zc]);omega)) [o8]
    refine⟨.inl (k8.2 _ g1 (by omega)),g3.self,?_⟩
    refine zh4 (g3'.new _) (new:=[eMsg vs]) (by simp[eMsg]) (by decide) (by simp[eMsg,zu]) (by simp[eMsg]) (by simp;omega) fun d5 M9 hL hG=> ?_
    have hG:=hG.pre
    have n9:=hG.nx
    have o9:M9.obj q4=some (.rows false 2 [[I ch,dq]]):=by rw[hG.obj (by omega) (g4 _ (by omega))];exact o8
    have c1:=hL.cells
    have c2:=hL.cell
    have f5: ∀i,i≤q4→Off d5 i:=fun i hi=>hG.of i (by omega) (g4 i hi)
    have q9:=q8.frame (y':=M9.put q4 (.rows false 2 [[I ch,d5]])) (q:=q4) nx6 hoff (by simp;omega) (fun i hi=>by rw[get_put,if_neg (by omega)];exact hG.kp i (by omega) (g4 i (by omega)))
    have again2:=again2 (M9.put q4 (.rows false 2 [[I ch,d5]]),d5,ms++[vs]) ⟨q9,by simp;omega,by simp,(show Lb M9 d5 1 ((ms++[vs]).map eMsg) by simpa using hL).put (f5 q4 (Nat.le_refl _)) _,f5,x2,by simp[g6]⟩
    simp at again2
    simp(disch:=((try simp only[zb,za,zc]);omega)) [o9,c1,c2]
    exact again2
   ·obtain⟨y4,dq,ms⟩:=z
    obtain⟨g,g1,g2,g3,g4,g5,g6⟩:=hP2
    dsimp only at*
    rw[←hallT,hT0] at g g5
    obtain⟨t1,t2⟩:=que_two he6 g5
    rw[←t1] at g
    obtain⟨x1,x2⟩:=X_one p5 t2
    rw[←x1] at g
    obtain⟨O,hO⟩: ∃O,O=MO.rows false 2 [eQu ⟨ch,ms⟩]:=⟨_,rfl⟩
    have cv:Conv y4 y4 (cutM y4 q4 O):=cutM_conv g1 g2 (by
     rw[hO]
     refine .rows (by simp) rfl fun k d e hd he=> ?_
     match k with
     |0=>cases hd;cases he;exact .refl _
     |1=>cases hd;cases he;exact cutM_frz g3 g4
     |k+2=>simp at hd) (by
     rw[hO]
     refine .rows fun r hr d hd=> ?_
     rw[List.mem_singleton.1 hr] at hd
     exact b_Qu _ d hd)
    have qc:=g.frame (y':=cutM y4 q4 O) (q:=q4) nx6 hoff (Nat.le_succ _) (fun i hi=>cutM_lt hi)
    have oc:(cutM y4 q4 O).obj q4=some O:=cutM_obj
    refine zch.pre cv (SFrz.refl fun x hx=> ?_) ?_
    ·have hn:(cutM y4 q4 O).next=y4.next+1:=rfl
     have hM:M.next<y4.next:=by omega
     rw[hn]
     simp at hx
     rcases hx with rfl|rfl|rfl|rfl|rfl|rfl|rfl|rfl
     all_goals first
      |exact .int _ _
      |exact .ptr (by omega)
    ·generalize cutM y4 q4 O=yc at*
     have o3:=qc.o3
     have nc:=qc.nx
     refine .go c_b_19.eq_1 ?_
     simp(disch:=((try simp only[zb,za,zc]);omega)) [o3,oc,hO]
     refine zgd (qc.l2.new _) (new:=[eQu ⟨ch,ms⟩]) (by simp) (by decide) (by simp[eQu,zu]) (by simp[eQu]) (by simp;omega) fun d' M10 hL hG=> ?_
     have hG:=hG.pre
     have q10:=qc.g2 (x:=⟨ch,ms⟩) (by simpa using hL) hG
     have o10:M10.obj X0=some (.rows false 3 [[d1,d2,.nilS]]):=by rw[hG.obj (by omega) (qc.fr X0 (by omega)).2.1];exact o3
     have c1:=hL.cells
     have c2:=hL.cell
     have again:=again (_,d',acc++[⟨ch,ms⟩]) ⟨q10,x2,by simp[p6]⟩
     simp at again
     simp(disch:=((try simp only[zb,za,zc]);omega)) [o10,c1,c2]
     exact again
  ·obtain⟨y,d2,qs⟩:=z
   obtain⟨p,p5,p6⟩:=hP
   dsimp only at*
   rw[←hall2] at p p5
   have hqs:=p5
   generalize hS3:(S1.bind (zB (queN t))).map (·.2)=S3 at*
   simp(disch:=((try simp only[zb,za,zc]);omega))
   refine zei p.rd fun M5 N3 h5 k5 hN3 he3=> ?_
   have pq:=p.rdk h5 k5
   have hall3:S3.bind (zB (zb7 t))=Xr (zb7 t) ((S3.bind zbz).map (·.2)) N3:=zhU S3 he3
   generalize (S3.bind zbz).map (·.2)=S4 at*
   simp(disch:=((try simp only[zb,za,zc]);omega))
   refine .for (σ:=VM×DV×List Wt) c_b_32.eq_1 (fun i z=>[(12,I i)]) (fun z=>z.1) (fun i z=>PqE ⟨Y,fun i=>i<X0⟩ X0 N0 z.1 j b t dn ((Xr (zb7 t) S4 i).map (·.2)) d1 d2 z.2.1 sp qs z.2.2∧(∀m r,Xr (zb7 t) S4 i=some (m,r)→z.2.2=m)∧z.2.2.length=i) N3 (M5,.nilS,[]) (by simp) rfl ⟨by rw[zc5];cases S4<;>exact pq,fun m r e=>by
    rw[zc5] at e
    obtain⟨l0,_,e⟩:=Option.map_eq_some_iff.1 e
    cases e;rfl,rfl⟩ (fun i z hi hP again=> ?_) (fun z hP=> ?_)
   ·obtain⟨y,d3,acc⟩:=z
    obtain⟨p,p5,p6⟩:=hP
    dsimp only at*
    simp(disch:=((try simp only[zb,za,zc]);omega)) [hi]
    refine zgU p.rd fun M6 a h6 k6 ha6 he6=> ?_
    have q:=p.rdk h6 k6
    have nx6:=q.nx;have jN:=q.hjN;have xj:=q.hxj
    simp(disch:=((try simp only[zb,za,zc]);omega))
    obtain⟨Z,hZ⟩: ∃Z,Z=(M6.new (.rows false 4 [[I 0,I 0,I 0,.nilS]])).put M6.next (.rows false 4 [[I (a:Int),I 0,I 0,.nilS]]):=⟨_,rfl⟩
    have zn:Z.next=M6.next+2:=by rw[hZ];simp
    have zk: ∀i,i<M6.next→Z.get i=M6.get i:=fun i hi=>by rw[hZ,get_put,if_neg (by omega),get_new,if_neg (by omega)]
    have zo:Z.obj M6.next=some (.rows false 4 [[I (a:Int),I 0,I 0,.nilS]]):=by rw[hZ];simp
    have hoff: ∀i,M6.next≤i→Off d1 i∧Off d2 i∧Off d3 i:=fun i hi=>⟨q.l1.offN hi,q.l2.offN hi,q.l3.offN hi⟩
    have g0:=q.frame (q:=M6.next) nx6 hoff (by omega) zk
    rw[←hZ]
    generalize hq5:M6.next=q5 at*
    have put: ∀{M2:VM} {S:Option (List UInt8)} (o:MO),PqE ⟨Y,fun i=>i<X0⟩ X0 N0 M2 j b t dn S d1 d2 d3 sp qs acc→PqE ⟨Y,fun i=>i<X0⟩ X0 N0 (M2.put q5 o) j b t dn S d1 d2 d3 sp qs acc:=fun o h=>h.frame (q:=q5) nx6 hoff (by simp) (fun i hi=>by rw[get_put,if_neg (by omega)])
    have keep: ∀{M2 M3:VM} {o:MO},Kj j M2 M3→q5<M2.next→M2.obj q5=some o→M3.obj q5=some o:=fun{M2 M3 o} h1 h2 h3=>by
     show(M3.get _).map _=_
     rw[h1.2 _ h2 (by omega)];exact h3
    refine zj6 g0.rd 4 fun M7 pl h7 k7 he7=> ?_
    have g1:=put (.rows false 4 [[I (a:Int),I pl,I 0,.nilS]]) (g0.rdk h7 k7)
    have o1:=keep k7 (by omega) zo
    have x3':q5<M7.next:=by have:=k7.1;omega
    simp(disch:=((try simp only[zb,za,zc]);omega)) [o1]
    refine zgU g1.rd fun M8 c h8 k8 hc8 he8=> ?_
    have g2:=put (.rows false 4 [[I (a:Int),I pl,I (c:Int),.nilS]]) (g1.rdk h8 k8)
    have o2:=keep (o:=.rows false 4 [[I (a:Int),I pl,I 0,.nilS]]) k8 (by simp;omega) (by simp)
    have x4':q5<M8.next:=by have:=k8.1;simp at this;omega
    simp(disch:=((try simp only[zb,za,zc]);omega)) [o2]
    refine rvals'_f g2.rd fun M9 vs h9 k9 lv he9=> ?_
    have q9:=g2.rdk h9 k9
    have o3:=keep (o:=.rows false 4 [[I (a:Int),I pl,I (c:Int),.nilS]]) k9 (by simp;omega) (by simp)
    have x5':q5<M9.next:=by have:=k9.1;simp at this;omega
    obtain⟨t1,t2⟩:=wait_four he6 he7 he8 he9
    obtain⟨x1,x2⟩:=X_one p5 t2
    have g4:=put (.rows false 4 [[I (a:Int),I pl,I (c:Int),.lst 2 (vs.map eSv)]]) q9
    rw[←t1,←x1] at g4
    have oR5:=q9.o3
    have oR:=g4.o3
    have nY:=g4.nx
    have ne5:X0≠q5:=by omega
    simp(disch:=((try simp only[zb,za,zc]);omega)) [o3,oR5,ne5]
    refine zgd (g4.l3.new _) (new:=[eWt ⟨a,pl,c,vs⟩]) (by simp[eWt]) (by decide) (by simp[eWt,zu]) (by simp[eWt]) (by simp;omega) fun d' M10 hL hG=> ?_
    have hG:=hG.pre
    have g8:=g4.g3 (x:=⟨a,pl,c,vs⟩) (by simpa using hL) hG
    have o8:M10.obj X0=some (.rows false 3 [[d1,d2,d3]]):=by rw[hG.obj (by omega) (g4.fr X0 (by omega)).2.2];exact oR
    have c1:=hL.cells
    have c2:=hL.cell
    have again:=again (_,d',acc++[⟨a,pl,c,vs⟩]) ⟨g8,x2,by simp[p6]⟩
    simp at again
    simp(disch:=((try simp only[zb,za,zc]);omega)) [o8,c1,c2]
    exact again
   ·obtain⟨y,d3,ws⟩:=z
    obtain⟨p,p5,p6⟩:=hP
    dsimp only at*
    rw[←hall3] at p p5
    have hpc:=pc_of (s:=tabN (b.drop 1)) (R:=(S3.bind (zB (zb7 t))).map (·.2)) he1 (by rw[hS0];exact hsp) (by rw[hS0,hS1];exact hqs) (by rw[hS0,hS1,hS3];exact p5) (by rw[hS0,hS1,hS3])
    obtain⟨a,q,h,e⟩:=p.rd
    rw[e] at hpc
    have oj:=h.oj
    have o3:=p.o3
    have xj:=p.hxj
    have nx2:=p.nx
    have jN:=p.hjN
    have o0:y.obj M.next=some (.rows false 3 [[.nilS,.nilS,.nilS]]):=by
     rw[←y0]
     show(y.get M.next).map _=_
     rw[h.sm M.next (by show M.next<X0;omega)];rfl
    have c1:=p.l1.cell
    have c2:=p.l2.cell
    have c3:=p.l3.cell
    have ne1:j≠M.next:=by omega
    have ne2:X0≠M.next:=by omega
    have hk:=hk ⟨sp,qs,ws⟩ q (fun e0=>by rw[hpc,e0,if_neg (by rw[sx_ok];exact nofun)]) (fun e0=>by rw[hpc,e0,if_pos (sx_bad _ _)])
    simp(disch:=((try simp only[zb,za,zc]);omega)) [o3,oj,o0,c1,c2,c3,ne1,ne2]
    intro hw
    have fr:=p.fr
    refine⟨.tup [.agg (ePc ⟨sp,qs,ws⟩),.bool (!q)],.tup rfl fun i d e a b=> ?_,.tup fun d hd=> ?_,fun i hi=> ?_,hk⟩
    ·match i with
     |0=>
      cases a;cases b
      refine .agg rfl fun i d e hd he=> ?_
      match i with
      |0=>cases hd;cases he;exact back_frz hw (p.l1.put (fr M.next (by omega)).1 _) (fun q hq=>(fr q (by omega)).1)
      |1=>cases hd;cases he;exact back_frz hw (p.l2.put (fr M.next (by omega)).2.1 _) (fun q hq=>(fr q (by omega)).2.1)
      |2=>cases hd;cases he;exact back_frz hw (p.l3.put (fr M.next (by omega)).2.2 _) (fun q hq=>(fr q (by omega)).2.2)
      |i+3=>simp at hd
     |1=>cases a;cases b;exact .refl _
     |i+2=>simp at a
    ·simp only[List.mem_cons,List.not_mem_nil,or_false] at hd
     rcases hd with rfl|rfl
     ·exact .agg (b_Pc _)
     ·exact .bool _
    ·rw[get_put,if_neg (by omega),h.sm i (by show i<X0;omega),hY,get_new,if_neg (by simp;omega),get_new,if_neg (by omega)]
end Go.Ideal.S
set_option maxHeartbeats 2000000
namespace Go.Ideal.S
open Go Go.Ideal Q Classical
attribute [local simp] decide_eq_true decide_eq_false zT
variable {M:VM} {k kp:DV→VM→Prop} {n0:Nat}
attribute [local simp] c_J f_J r_J_1 r_J_2 r_J_3 r_J_4 r_J_5 r_J_6 r_J_7 r_J_8 r_J_9
theorem rParcel_ok (b:List UInt8) (hk:k (.tup [.agg (ePc (zfI b).1),I (zfI b).2]) M):zj F (.fn n_J [] []) [St b] M k kp:=by
 unfold zfI at hk
 have wL: ∀x:Pc,zJ [.nilS,.nilS,.nilS] 0 (ePc x)=some (ePc x):=fun x=>rfl
 apply zj.back
 refine .fn zfu rfl (by simp[f_J]) ?_
 by_cases hl:80000<b.length
 ·rw[if_pos hl] at hk
  have hli:(80000:Int)<b.length:=by omega
  simp(disch:=((try simp only[zb,za,zc]);omega)) [hli]
  exact zct (by repeat' (first|assumption|exact zh _ _|apply zm|apply zp|apply zq| ((try simp only[zb,za,zc]);omega))) hk
 ·rw[if_neg hl] at hk
  have hli: ¬(80000:Int)<b.length:=by omega
  have bad: ¬zlU b 80→k (.tup [.agg (ePc ⟨[],[],[]⟩),I 4]) M:=fun h=>by
   have:zcw b 80=none:=by unfold zcw;rw[if_neg h]
   rw[this] at hk;exact hk
  by_cases h3:3≤b.length
  ·obtain⟨n,hn⟩: ∃n,b.length=n+2:=⟨b.length - 2,by omega⟩
   have h3i: ¬(b.length:Int)<3:=by omega
   have e1:(b.length:Int) - 2=(n:Int):=by omega
   have s1:=zjL b .i64 n (by omega)
   have s2:=zgR b .i64 n (by omega)
   have h0:b[0]? =some b[0]:=List.getElem?_eq_getElem (by omega)
   have hb:zb0 b[0]=.int .u8 (b[0].toNat:Int):=rfl
   have hlt:(b.take n).length=n:=by rw[List.length_take];omega
   by_cases hf:b[0]=80
   ·have hfi:(b[0].toNat:Int)=80:=by rw[hf];rfl
    simp(disch:=((try simp only[zb,za,zc]);omega)) [hli,h3i,h0,hb,zhb,hfi,e1,s1,s2]
    refine rsum_ok _ (by omega) ?_
    have c6: ∀ek,binD .neq ek (St (crc (b.take n))) (St (b.drop n))=some (.bool (!decide (crc (b.take n)=b.drop n))):=fun ek=>bin_sne _ _
    by_cases hc:crc (b.take n)=b.drop n
    ·have hok:zlU b 80:=⟨h3,by rw[List.head?_eq_getElem?,h0,hf],by rw[show b.length - 2=n by omega];exact hc⟩
     have hst:zcw b 80=tabN ((b.take n).drop 1):=by unfold zcw;rw[if_pos hok,show b.length - 2=n by omega]
     have hsz:= @pc_sz b
     rw[hst] at hk
     simp only[hc,decide_true,Bool.not_true] at c6
     simp(disch:=((try simp only[zb,za,zc]);omega)) [c6,s1,s2,e1]
     refine rparcel_ok (b.take n) (by omega) (by omega) fun x q q1 q2=> ?_
     cases q with
     |true=>
      rw[q2 rfl] at hk
      dsimp only at hk
      simp(disch:=((try simp only[zb,za,zc]);omega)) [wL]
      exact zct (by repeat' (first|assumption|exact zh _ _|apply zm|apply zp|apply zq| ((try simp only[zb,za,zc]);omega))) hk
     |false=>
      have ex:=q1 rfl
      obtain⟨z1,z2⟩:=hsz (x:=x) (by rw[hst];exact ex) (by omega)
      rw[ex] at hk
      dsimp only at hk
      simp(disch:=((try simp only[zb,za,zc]);omega)) [wL]
      refine rgood_ok x z1 ?_
      by_cases hpr:zh3 x
      ·rw[decide_eq_true hpr]
       simp(disch:=((try simp only[zb,za,zc]);omega))
       refine zjX hpr z2 ?_
       by_cases he:zhQ x=b
       ·rw[if_pos ⟨hpr,he⟩] at hk
        simp(disch:=((try simp only[zb,za,zc]);omega)) [he,wL]
        refine Back.plain (.tup fun d hd=> ?_) (by repeat' (first|assumption|exact zh _ _|apply zm|apply zp|apply zq| ((try simp only[zb,za,zc]);omega))) hk
        simp only[List.mem_cons,List.not_mem_nil,or_false] at hd
        rcases hd with rfl|rfl
        ·exact .agg (b_Pc _)
        ·exact .int _ _
       ·rw[if_neg (fun h=>he h.2)] at hk
        simp(disch:=((try simp only[zb,za,zc]);omega)) [he]
        exact zct (by repeat' (first|assumption|exact zh _ _|apply zm|apply zp|apply zq| ((try simp only[zb,za,zc]);omega))) hk
      ·rw[decide_eq_false hpr]
       rw[if_neg (fun h=>hpr h.1)] at hk
       simp(disch:=((try simp only[zb,za,zc]);omega))
       exact zct (by repeat' (first|assumption|exact zh _ _|apply zm|apply zp|apply zq| ((try simp only[zb,za,zc]);omega))) hk
    ·have bad:=bad (fun h=>hc (by have:=h.2.2;rwa [show b.length - 2=n by omega] at this))
     clear hk
     simp(disch:=((try simp only[zb,za,zc]);omega)) [c6,hc,s1,s2,e1]
     exact zct (by repeat' (first|assumption|exact zh _ _|apply zm|apply zp|apply zq| ((try simp only[zb,za,zc]);omega))) bad
   ·have hfi: ¬(b[0].toNat:Int)=80:=fun e=>hf (UInt8.toNat_inj.1 (by have:b[0].toNat=80:=by omega
                                                                     rw[this];rfl))
    have bad:=bad (fun h=>hf (by have:=h.2.1;rw[List.head?_eq_getElem?,h0] at this;exact Option.some.inj this))
    clear hk
    simp(disch:=((try simp only[zb,za,zc]);omega)) [hli,h3i,h0,hb,zhb,hfi]
    exact zct (by repeat' (first|assumption|exact zh _ _|apply zm|apply zp|apply zq| ((try simp only[zb,za,zc]);omega))) bad
  ·have h3i:(b.length:Int)<3:=by omega
   have bad:=bad (fun h=>h3 h.1)
   clear hk
   simp(disch:=((try simp only[zb,za,zc]);omega)) [hli,h3i]
   exact zct (by repeat' (first|assumption|exact zh _ _|apply zm|apply zp|apply zq| ((try simp only[zb,za,zc]);omega))) bad
end Go.Ideal.S
namespace Go.Ideal.S
open Go Go.Ideal Q Classical
attribute [local simp] decide_eq_true decide_eq_false zT
variable {M:VM} {k kp:DV→VM→Prop} {n0:Nat}
theorem parcelR_sz (b:List UInt8):SzP (zfI b).1:=by
 have h0:SzP ⟨[],[],[]⟩:=⟨by decide,by decide,by decide,nofun,nofun⟩
 unfold zfI
 split
 ·exact h0
 ·split
  ·rename_i x hx
   split
   ·exact(pc_sz hx (by omega)).1
   ·exact h0
  ·exact h0
attribute [local simp] c_F f_F r_F_1 r_F_2 r_F_3 r_F_4 r_F_5 r_F_6 r_F_7 r_F_8
theorem bytes_law (x:Pc) (b:List UInt8) (hk:k (.bool true) M):zj F (.fn n_F [] []) [.agg (ePc x),St b] M k kp:=by
 have wL: ∀x:Pc,zJ [.nilS,.nilS,.nilS] 0 (ePc x)=some (ePc x):=fun x=>rfl
 apply zj.back
 refine .fn zea rfl (by simp[f_F]) ?_
 simp(disch:=((try simp only[zb,za,zc]);omega))
 refine large_ok x fun q hq=> ?_
 cases q with
 |true=>
  simp(disch:=((try simp only[zb,za,zc]);omega))
  refine works_ok ?_
  simp(disch:=((try simp only[zb,za,zc]);omega))
  exact Back.plain (by simp) (by repeat' (first|assumption|exact zh _ _|apply zm|apply zp|apply zq| ((try simp only[zb,za,zc]);omega))) hk
 |false=>
  obtain⟨hx,he⟩:=hq rfl
  by_cases h2:90000<b.length
  ·have h2i:(90000:Int)<b.length:=by omega
   simp(disch:=((try simp only[zb,za,zc]);omega)) [h2i]
   refine works_ok ?_
   simp(disch:=((try simp only[zb,za,zc]);omega))
   exact Back.plain (by simp) (by repeat' (first|assumption|exact zh _ _|apply zm|apply zp|apply zq| ((try simp only[zb,za,zc]);omega))) hk
  ·have h2i: ¬(90000:Int)<b.length:=by omega
   simp(disch:=((try simp only[zb,za,zc]);omega)) [h2i]
   refine Bytes_ok x hx he ?_
   simp(disch:=((try simp only[zb,za,zc]);omega))
   refine rBytes_ok x hx he ?_
   simp(disch:=((try simp only[zb,za,zc]);omega))
   refine Parcel_ok b ?_
   simp(disch:=((try simp only[zb,za,zc]);omega)) [wL]
   refine rParcel_ok b ?_
   simp(disch:=((try simp only[zb,za,zc]);omega)) [wL]
   refine sameParcel_ok _ (parcelR_sz b) ?_
   simp(disch:=((try simp only[zb,za,zc]);omega))
   refine works_ok ?_
   simp(disch:=((try simp only[zb,za,zc]);omega))
   exact Back.plain (by simp) (by repeat' (first|assumption|exact zh _ _|apply zm|apply zp|apply zq| ((try simp only[zb,za,zc]);omega))) hk
end Go.Ideal.S
