/- A part of the proof: the ideal machine, and what the functions of the program answer over it. -/
import Derived.RecoverIn
import Derived.Test.YtffbioplncclkaaGreatB
set_option linter.unusedSimpArgs false
set_option linter.unusedVariables false
set_option linter.unusedSectionVars false
open Option renaming bind_some→qd,map_some→qw,isSome_iff_exists→qbm,bind_eq_some_iff→qbo,map_eq_some_iff→qbq
open Nat renaming le_refl→qe,eq_of_beq_eq_true→qg,le_trans→qh,lt_succ_of_lt→qi,beq→qo,add_mul→qy,le_of_ble_eq_true→qC,mul_le_mul_right→qD,blt→qE,beq_refl→qG,lt_succ_self→qO,ble_eq→qQ,succ_mul→qZ,ble→qbd,mul_div_cancel→qbf,add_assoc→qbi,le_succ→qbs,lt_of_lt_of_le→qby,zero_mul→qbB,sub_mul→qbD
open Go.Fence renaming wide→qf
open List renaming mem_of_mem_take→qj,mem_of_mem_drop→qk,getElem?_eq_getElem→ql,getElem?_eq_some_iff→qn,take_append_drop→qp,replicate→qq,all_eq_true→qt,mem_append→qu,append_nil→qv,flatten_cons→qx,mem_singleton→qB,drop_drop→qF,length_take→qH,take_of_length_le→qJ,eq_nil_of_length_eq_zero→qK,mem_append_right→qL,mem_cons_of_mem→qM,drop_append→qN,length_drop→qP,getElem?_take→qT,getElem?_drop→qU,mem_replicate→qV,nodup_nil→qW,mem_of_getElem?→qba,take_append_of_le_length→qbb,flatten_append→qbc,mem_cons_self→qbe,map_cons→qbh,flatMap_cons→qbj,getElem?_map→qbk,mem_or_eq_of_mem_set→qbl,mem_flatten→qbn,range'→qbp,drop_of_length_le→qbr,take_left→qbt,range_eq_range'→qbu,getElem_of_mem→qbv,drop_succ_cons→qbw,take_succ_cons→qbx,mem_map→qbA,range'_succ→qbE,getElem_mem→qbF,take_append→qbG
open Option.some renaming inj→qm,injEq→qbC
open Bool renaming and_eq_true→qr
open Go.Region renaming binds→qA
open Go renaming wpIn_mono→qI,run_takeDeferred→qY,callsIn_wide→qbz
open Array renaming length_toList→qR,replicate→qS,getElem?_eq_some_iff→qbg
open Prod.mk renaming injEq→qX
namespace Go.Ideal
section
variable {P:Program}
def Le (ih ih':IH):Prop:= ∀t o,ih t=some o→ih' t=some o
theorem doOp_le {ih ih':IH} (hl:Le ih ih') {op:COp} {s:zb} {h:H} {x:Value×H} (hv:doOp ih op s h=some x):doOp ih' op s h=some x:=by
 cases op
 case call f as=>
  obtain⟨u,hu,hv⟩:=aof hv;obtain⟨l,hl',hv⟩:=aof hv;obtain⟨o,ho,hv⟩:=aof hv;show ziI _ _ _ _ _=_;unfold ziI;simp only[hu,hl',qd,hl _ _ ho,hv]
 case invoke tbl y as=>
  obtain⟨u,hu,hv⟩:=aof hv;obtain⟨r,hr,hv⟩:=aof hv;obtain⟨l,hl',hv⟩:=aof hv;obtain⟨o,ho,hv⟩:=aof hv;show invOp _ _ _ _ _ _=_;unfold invOp;simp only[hu,hr,hl',qd,hl _ _ ho,hv]
 all_goals exact hv
theorem doOpP_le {ih ih':IH} (hl:Le ih ih') {op:COp} {s:zb} {h:H} {x:Out} (hv:zdD ih op s h=some x):zdD ih' op s h=some x:=by
 cases op
 case call f as=>
  obtain⟨u,hu,hv⟩:=aof hv;obtain⟨l,hl',hv⟩:=aof hv;obtain⟨o,ho,hv⟩:=aof hv;show callP _ _ _ _ _=_;unfold callP;simp only[hu,hl',qd,hl _ _ ho,hv]
 case invoke tbl y as=>
  obtain⟨u,hu,hv⟩:=aof hv;obtain⟨r,hr,hv⟩:=aof hv;obtain⟨l,hl',hv⟩:=aof hv;obtain⟨o,ho,hv⟩:=aof hv;show invP _ _ _ _ _ _=_;unfold invP;simp only[hu,hr,hl',qd,hl _ _ ho,hv]
 all_goals exact hv
theorem stepOp_le {ih ih':IH} (hl:Le ih ih') {o:CI} {s:zb} {h:H} {x:Out} (hv:zgk ih o s h=some x):zgk ih' o s h=some x:=by
 obtain⟨b,hb,hv⟩:=aof hv;unfold zgk;rw[hb];cases b with
 |true=>exact doOpP_le hl hv
 |false=>exact hv
theorem zjO {ih ih':IH} (hl:Le ih ih'): ∀{l:List CI} {s:zb} {h:H} {x:Out},zcO ih l s h=some x→zcO ih' l s h=some x
 | [],_,_,_,hv=>hv
 |o::l,s,h,x,hv=>by
  rw[zdk] at hv⊢;obtain⟨y,hy,hv⟩:=aof hv;rw[stepOp_le hl hy,qd];cases y with
  |val v g=>exact zjO hl (show zcO ih l _ _=some x from hv)
  |pan _ _ _=>exact hv
  |nrm _ _=>cases hv
  |exit _ _ _=>cases hv
  |ret _ _=>cases hv
theorem zdv {ih ih':IH} (hl:Le ih ih') {o:CI} {bs:List (Nat×H)} {s:zb} {h:H} {x:Value×H×List (Nat×H)} (hv:zN ih o bs s h=some x):zN ih' o bs s h=some x:=by
 obtain⟨b,hb,hv⟩:=aof hv;unfold zN;rw[hb];cases b with
 |false=>exact hv
 |true=>
  simp only[zcX,qd] at hv⊢
  split at hv
  ·rename_i hw;rw[if_pos hw];obtain⟨y,hy,e⟩:=amf hv;rw[doOp_le hl hy,←e];rfl
  ·rename_i hw;rw[if_neg hw];exact hv
theorem zde {ih ih':IH} (hl:Le ih ih'): ∀{l:List CI} {bs:List (Nat×H)} {s:zb} {h:H} {x:zb×H},zx ih l bs s h=some x→zx ih' l bs s h=some x
 | [],_,_,_,_,hv=>hv
 |o::l,bs,s,h,x,hv=>by
  rw[zbe] at hv⊢;obtain⟨y,hy,hv⟩:=aof hv;rw[zdv hl hy];exact zde hl hv
theorem doOp_pan {ih:IH} {op:COp} {s:zb} {h:H} {v:Value} {t:zb} {g:H} (hv:zdD ih op s h=some (.pan v t g)):doOp ih op s h=none:=by
 have plain:(opV op s h).map valO=some (.pan v t g)→opV op s h=none:=fun hv=>by
  obtain⟨x,hx,e⟩:=amf hv;cases e
 cases op
 case call f as=>
  obtain⟨u,hu,hv⟩:=aof hv;obtain⟨l,hl,hv⟩:=aof hv;obtain⟨o,ho,hv⟩:=aof hv;show ziI _ _ _ _ _=_;unfold ziI;rw[hu,qd,hl,qd,ho,qd];cases o<;>first|rfl|cases hv
 case invoke tbl y as=>
  obtain⟨u,hu,hv⟩:=aof hv;obtain⟨r,hr,hv⟩:=aof hv;obtain⟨l,hl,hv⟩:=aof hv;obtain⟨o,ho,hv⟩:=aof hv;show invOp _ _ _ _ _ _=_;unfold invOp;rw[hu,qd,hr,qd,hl,qd,ho,qd];cases o<;>first|rfl|cases hv
 case panic x=>rfl
 all_goals exact plain hv
theorem zjb {ih ih':IH} (hl:Le ih ih'): ∀{l:List CI} {bs:List (Nat×H)} {s:zb} {h:H} {x:Out},zfQ ih l bs s h=some x→zfQ ih' l bs s h=some x∧zx ih' l bs s h=none
 | [],_,_,_,_,hv=>by cases hv
 |o::l,bs,s,h,x,hv=>by
  rw[zga] at hv⊢;rw[zbe];cases hst:zN ih o bs s h with
  |some y=>
   rw[hst] at hv;rw[zdv hl hst];exact zjb hl (show zfQ ih l _ _ _=some x from hv)
  |none=>
   rw[hst] at hv;have hv:panAt ih o l bs s h=some x:=hv;unfold panAt at hv;cases bs with
   |nil=>cases hv
   |cons b0 bs=>
    obtain⟨b,hb,hv⟩:=aof hv;cases hbw:(b&&isW o.op) with
    |false=>rw[hbw] at hv;cases hv
    |true=>
     rw[hbw] at hv;rw[qr] at hbw;obtain⟨rfl,hw⟩:=hbw;obtain⟨out,ho,hv⟩:=aof hv;cases out with
     |pan v t g=>
      obtain⟨y,hy,e⟩:=amf (show(zx ih _ _ s h).map _=some x from hv);have h1:=doOpP_le hl ho;have h2:zN ih' o (b0::bs) s h=none:=by
       unfold zN;rw[hb,qd];show zcX _ _ _ _ _=none;unfold zcX;rw[if_pos hw,doOp_pan h1];rfl
      rw[h2];refine⟨?_,rfl⟩;show panAt ih' o l (b0::bs) s h=some x;unfold panAt;dsimp only;rw[hb,qd,hw,Bool.and_self];dsimp only;rw[h1,qd];show(zx ih' _ _ s h).map _=some x;rw[zde hl hy];exact congrArg some e
     |nrm=>cases hv
     |exit=>cases hv
     |ret=>cases hv
     |val=>cases hv
theorem zky {ih ih':IH} (hl:Le ih ih') {c:CC} {s:zb} {h:H} {o:Out} (hv:zbI c ih s h=some o):zbI c ih' s h=some o:=by
 cases c with
 |skip=>exact hv
 |ops l=>exact zjO hl (show zcO ih l s h=some o from hv)
 |draw l=>
  have hv:(match zx ih l [(0,h)] s h with
   |some x=>some (nrmOf x)
   |none=>zfQ ih l [(0,h)] s h)=some o:=hv
  show(match zx ih' l [(0,h)] s h with
   |some x=>some (nrmOf x)
   |none=>zfQ ih' l [(0,h)] s h)=some o
  cases hx:zx ih l [(0,h)] s h with
  |some x=>rw[hx] at hv;rw[zde hl hx];exact hv
  |none=>
   rw[hx] at hv;obtain⟨h1,h2⟩:=zjb hl (show zfQ ih l [(0,h)] s h=some o from hv);rw[h2];exact h1
 |draw2 l x y=>obtain⟨r,hr,hv⟩:=aof hv;show(zx ih' l [(0,h)] s h).bind _=_;rw[zde hl hr];exact hv
 |seq a L b=>
  obtain⟨o1,h1,h2⟩:=aof hv;show(ih' _).bind _=_;rw[hl _ _ h1];cases o1<;>first|exact hl _ _ h2|exact h2
 |cond x a b=>
  obtain⟨u,hu,hv⟩:=aof hv;obtain⟨y,hy,hv⟩:=aof hv;show(x.ev s).bind _=_;rw[hu,qd,hy,qd];exact hl _ _ hv
 |block i b=>
  obtain⟨o1,h1,e⟩:=amf hv;show(ih' _).map _=_;rw[hl _ _ h1,←e];rfl
 |loop L b=>
  obtain⟨o1,h1,h2⟩:=aof hv;show(ih' _).bind _=_;rw[hl _ _ h1];cases o1<;>first|exact hl _ _ h2|exact h2
 |rangeFunc rid L f ps as b=>
  obtain⟨u,hu,hv⟩:=aof hv;obtain⟨g,hg,hv⟩:=aof hv;obtain⟨o1,h1,hv⟩:=aof hv;show(f.ev s).bind _=_;rw[hu,qd,hg,qd,hl _ _ h1];exact hv
 |exit i=>exact hv
 |ret=>exact hv
 |scope b l1 r1 l2 r2=>exact hl _ _ (show ih (.scope b l1 r1 l2 r2 s h)=some o from hv)
theorem doneK_le {ih ih':IH} (hl:Le ih ih') {f:Value} {args:List Value} {rs:List CR} {o x:Out} (hv:doneK ih f args rs o=some x):doneK ih' f args rs o=some x:=by
 cases o with
 |nrm s h=>obtain⟨o1,h1,h2⟩:=aof hv;show(ih' _).bind _=_;rw[hl _ _ h1];exact h2
 |ret s h=>obtain⟨o1,h1,h2⟩:=aof hv;show(ih' _).bind _=_;rw[hl _ _ h1];exact h2
 |pan v s h=>obtain⟨o1,h1,h2⟩:=aof hv;show(ih' _).bind _=_;rw[hl _ _ h1];exact h2
 |exit _ _ _=>cases hv
 |val _ _=>cases hv
theorem bodyK_le {ih ih':IH} (hl:Le ih ih') {rs:List CR} {d:Option Dfr} {o x:Out} (hv:bodyK ih rs d o=some x):bodyK ih' rs d o=some x:=by
 cases d with
 |none=>exact hv
 |some d=>
  cases o with
  |nrm s h=>
   obtain⟨f,h1,hv⟩:=aof (show(d.f.ev s).bind _=some x from hv);obtain⟨f',h2,hv⟩:=aof hv;obtain⟨l,h3,hv⟩:=aof hv;obtain⟨o1,h4,hv⟩:=aof hv;show(d.f.ev s).bind _=_;rw[h1,qd,h2,qd,h3,qd,hl _ _ h4];exact doneK_le hl hv
  |pan _ _ _=>exact hv
  |ret _ _=>cases hv
  |exit _ _ _=>cases hv
  |val _ _=>cases hv
theorem handStep_le {F:FuncId→Option za} {ih ih':IH} (hl:Le ih ih') {f:Value} {args:List Value} {p:Option Value} {h:H} {o:Out} (hv:zct F ih args p h f=some o):zct F ih' args p h f=some o:=by
 unfold zct at hv⊢
 split at hv
 ·obtain⟨cf,hcf,hv⟩:=aof hv;simp only[hcf,Option.bind_some];unfold zfv at hv⊢
  split at hv
  ·split at hv
   ·rename_i hle;rw[if_pos hle];unfold zi8 at hv⊢
    split at hv
    ·rename_i l L b hbd;obtain⟨x,hx,hv⟩:=aof hv;simp only[hx,Option.bind_some];obtain⟨px,sx,gx⟩:=x;cases px with
     |some _=>cases hv
     |none=>
      obtain⟨o1,h1,hv⟩:=aof (show(ih (.code b (keepA L sx) gx)).bind _=some o from hv);show(ih' (.code b (keepA L sx) gx)).bind _=_;rw[hl _ _ h1];exact hv
    ·cases hv
   ·cases hv
  ·cases hv
 ·cases hv
theorem callStep_le {F:FuncId→Option za} {ih ih':IH} (hl:Le ih ih') {f:Value} {args:List Value} {h:H} {o:Out} (hv:zcw F ih args h f=some o):zcw F ih' args h f=some o:=by
 unfold zcw at hv⊢
 split at hv
 ·rename_i g first captured
  obtain⟨cf,hcf,hv⟩:=aof hv;simp only[hcf,qd];unfold zeQ at hv⊢;have wk:zbW ih cf (first.toList++args++captured.toList) h=some o→zbW ih' cf (first.toList++args++captured.toList) h=some o:=by
   intro hv;unfold zbW at hv⊢
   split at hv
   ·rename_i hle;rw[if_pos hle];obtain⟨o1,h1,h2⟩:=aof hv;rw[hl _ _ h1];exact bodyK_le hl h2
   ·cases hv
  cases hp:cf.prim with
  |none=>rw[hp] at hv;exact wk hv
  |some p=>
   rw[hp] at hv;dsimp only at hv⊢
   split at hv
   ·exact hv
   ·exact wk hv
 ·split at hv
  ·rename_i hle;rw[if_pos hle];obtain⟨lo,hlo,hv⟩:=aof hv;rw[hlo,Option.bind_some];cases lo with
   |loop st pend sl rc=>
    obtain⟨s0,h0,hv⟩:=aof hv;obtain⟨o1,h1,hv⟩:=aof hv;show(zf2 _ _ _).bind _=_;rw[h0,qd,hl _ _ h1,qd];cases o1 with
    |nrm s g=>
     obtain⟨lo1,h2,hv⟩:=aof hv;show(H.get _ _).bind _=_;rw[h2,qd];cases lo1 with
     |loop st1 p1 sl1 rc1=>
      cases st1<;>simp only[zg4,reduceCtorEq] at hv⊢;obtain⟨o2,h3,hv⟩:=aof hv;rw[hl _ _ h3];exact hv
     |cells _ _=>cases hv
     |map _ _=>cases hv
     |dead=>cases hv
     |glob _ _=>cases hv
    |exit _ _ _=>cases hv
    |ret _ _=>cases hv
    |val _ _=>cases hv
    |pan _ _ _=>cases hv
   |cells _ _=>cases hv
   |map _ _=>cases hv
   |dead=>cases hv
   |glob _ _=>cases hv
  ·cases hv
 ·cases hv
theorem scopeStep_le {ih ih':IH} (hl:Le ih ih') {b:CC} {l1:Nat} {r1:CC} {l2:Nat} {r2:CC} {s:zb} {h:H} {o:Out} (hv:zdj ih b l1 r1 l2 r2 s h=some o):zdj ih' b l1 r1 l2 r2 s h=some o:=by
 obtain⟨o1,h1,h2⟩:=aof hv;show(ih' _).bind _=_;rw[hl _ _ h1,qd];cases o1 with
 |exit i s h=>
  have h2:zdi ih l1 r1 l2 r2 i s h=some o:=h2;show zdi ih' l1 r1 l2 r2 i s h=some o;unfold zdi at h2⊢;cases e1:qo i (zb4 l1) with
  |true=>rw[e1] at h2;exact hl _ _ h2
  |false=>
   rw[e1] at h2;cases e2:qo i (zb4 l2) with
   |true=>rw[e2] at h2;exact hl _ _ h2
   |false=>rw[e2] at h2;exact h2
 |nrm _ _=>exact h2
 |ret _ _=>exact h2
 |val _ _=>exact h2
 |pan _ _ _=>exact h2
theorem body_le {F:FuncId→Option za} {ih ih':IH} (hl:Le ih ih'):Le (body F ih) (body F ih'):=by
 intro t o h;cases t with
 |code c s g=>exact zky hl (show zbI c ih s g=some o from h)
 |call f a g=>exact callStep_le hl (show zcw F ih a g f=some o from h)
 |hand f a p g=>exact handStep_le hl (show zct F ih a p g f=some o from h)
 |scope b l1 r1 l2 r2 s g=>exact scopeStep_le hl (show zdj ih b l1 r1 l2 r2 s g=some o from h)
theorem E_le1 {F:FuncId→Option za}: ∀(n:Nat),Le (E F n) (E F (n+1))
 |0=>fun t o h=>by cases h
 |n+1=>body_le (E_le1 n)
theorem E_le {F:FuncId→Option za} {n m:Nat} (h:n≤m):Le (E F n) (E F m):=by
 induction m with
 |zero=>have:n=0:=by omega
        subst this;exact fun _ _ h=>h
 |succ m ih=>
  by_cases e:n=m+1
  ·subst e;exact fun _ _ h=>h
  ·exact fun t o ht=>E_le1 m t o (ih (by omega) t o ht)
theorem E_dec {F:FuncId→Option za} (n:Nat) (c:CC) (s:zb) (h:H) (o:Out) (hv:E F n (.code c s h)=some o):zbI c (E F n) s h=some o:=by
 cases n with
 |zero=>cases hv
 |succ n=>exact zky (E_le1 n) (show zbI c (E F n) s h=some o from hv)
end
section
variable {P:Program}
theorem zb6.tail_put {ρ:Rho} {w:World} {D:Nat} {Ds:List Nat} (h:zb6 ρ w (D::Ds)) (o:Obj):zb6 ρ (w.putObj D o) Ds:=by
 obtain⟨h1,h2⟩:=List.nodup_cons.1 h.nodup;refine⟨h2,fun D' hD'=> ?_⟩;obtain⟨q1,q2,q3⟩:=h.ok D' (by simp[hD']);have hne:D'≠D:=fun e=>h1 (e▸hD');exact⟨by simpa using q1,q2,by rw[World.putObj_heap_other hne];exact q3⟩
theorem zdQ {fn:Func} {rs:List CR} (hc:allO (zba P) fn.results.toList=some rs) {s:zb} {tmps:Array Value} {h:H} {o:Out} (ho:ziQ rs s h=some o) {ρ0:Rho} {w0:World} {σ:Rho} (hs:SR σ s tmps):
 ∀(Ds:List Nat) (w:World),zb6 σ w Ds→(∀D∈Ds,w0.heap.size≤D)→HR P σ h w→Ext ρ0 w0 σ w→LeavesInM qf 0 P fn tmps (zhN P ρ0 w0 o) (Ds.map zB) .returning w
 | [],w,hD,hds,hr,he=>by
   obtain⟨v,v',rfl,h1,h2⟩:=zjS hc hr hs ho;exact⟨v',h1,.inl ⟨v,h,v',σ,rfl,rfl,h2,hr,he⟩⟩
 |D::Ds,w,hD,hds,hr,he=>by
  obtain⟨q1,q2,q3⟩:=hD.ok D (by simp);obtain⟨g1,g2⟩:=hr.shut he (o:=.deferred none) (zbc _) q3 (zbc _) (hds D (by simp)) q2;refine⟨by simp,.inl ⟨D,_,rfl,qY q3,?_⟩⟩;exact zdQ hc ho hs Ds _ (hD.tail_put _) (fun D' h=>hds D' (by simp[h])) g1 g2
theorem zdP {fn:Func} {tmps:Array Value} {v v':Value} {h:H} {ρ0:Rho} {w0:World} {σ:Rho} (hv:VR σ v v'):
 ∀(Ds:List Nat) (w:World),zb6 σ w Ds→(∀D∈Ds,w0.heap.size≤D)→HR P σ h w→Ext ρ0 w0 σ w→LeavesInM qf 0 P fn tmps (zhN P ρ0 w0 (.pan v .nil h)) (Ds.map zB) (.panicking (one v')) w
 | [],w,hD,hds,hr,he=>.inr ⟨v,h,v',σ,rfl,rfl,hv,hr,he⟩
 |D::Ds,w,hD,hds,hr,he=>by
  obtain⟨q1,q2,q3⟩:=hD.ok D (by simp);obtain⟨g1,g2⟩:=hr.shut he (o:=.deferred none) (zbc _) q3 (zbc _) (hds D (by simp)) q2;refine⟨by simp,.inl ⟨D,_,rfl,qY q3,?_⟩⟩;exact zdP hv Ds _ (hD.tail_put _) (fun D' h=>hds D' (by simp[h])) g1 g2
theorem zc7.nil_ge {ρ:Rho} {w w':World} {N:Nat} {Db:List Deferred} {o:Out} {e:Exit} {a:Act} (h:zc7 P ρ w N [] Db o e a w'): ∃σ Ds s h,Ext ρ w σ w'∧a.tmps.size=N∧a.defers=Ds.map zB++Db∧zb6 σ w' Ds∧(∀D∈Ds,w.heap.size≤D)∧SR σ s a.tmps∧HR P σ h w'∧
 ((o=.nrm s h∧e=.normal)∨(∃i,o=.exit i s h∧e=exOf i)∨(o=.ret s h∧e=.ret)∨(∃v v',o=.pan v s h∧VR σ v v'∧e=.panic (one v'))):=by
 obtain⟨σ,Ds,s,h,h1,h2,h3,⟨h4,h5⟩,h6⟩:=h;exact⟨σ,Ds,s,h,h1,h2,h3,h4,fun D hD=>(h5 D hD).resolve_left (by simp),h6⟩
theorem zbL {fn:Func} {cf:za} (h:z6 P fn=some (zfd cf)):(fn.name== "runtime.NumGoroutine")=false∧ ∃c,fn.body=some c∧zbs P fn.ntmps c=some (zA cf.body,cf.dfr.map stripD)∧allO (zba P) fn.results.toList=some cf.results∧cf.ntmps=fn.ntmps∧cf.prim=none:=by
 unfold z6 at h
 split at h
 ·cases h
 ·rename_i hn;obtain⟨c,hc,h⟩:=aof h;obtain⟨cc,hcc,h⟩:=aof h;obtain⟨rs,hrs,h⟩:=amf h;unfold zfd at h;simp only[za.mk.injEq] at h;obtain⟨h1,h2,h3,h4,h5⟩:=h;exact⟨by simpa using hn,c,hc,by rw[hcc,←h3,←h4],by rw[hrs,h2],h1.symm,h5.symm⟩
theorem zc6: ∀{N:Nat} {code:Code} {c:CC},zbs P N code=some (c,none)→ze P N code=some c
 |N,.seq a b,c,h=>by
  have key:((ze P N a).bind fun a=>(zbs P N b).map (seqD a))=some (c,none)→ze P N (.seq a b)=some c:=by
   intro h;obtain⟨ca,ha,h⟩:=aof h;obtain⟨⟨cb,d⟩,hb,e⟩:=amf h;cases e;have:=zc6 hb;simp[ze,ha,this]
  cases a with
  |region id ops d=>
   cases d with
   |true=>exact key h
   |false=>
    unfold zbs at h
    split at h
    ·exact key h
    ·split at h
     ·obtain⟨_,_,h⟩:=aof h;obtain⟨_,_,h⟩:=aof h;obtain⟨_,_,h⟩:=aof h;obtain⟨_,_,h⟩:=aof h;obtain⟨_,_,h⟩:=amf h;cases h
     ·cases h
  |_=>exact key h
 |N,.skip,c,h=>by obtain⟨x,hx,e⟩:=amf h;cases e;exact hx
 |N,.region _ _ _,c,h=>by obtain⟨x,hx,e⟩:=amf h;cases e;exact hx
 |N,.cond _ _ _,c,h=>by obtain⟨x,hx,e⟩:=amf h;cases e;exact hx
 |N,.block _ _,c,h=>by obtain⟨x,hx,e⟩:=amf h;cases e;exact hx
 |N,.loop _,c,h=>by obtain⟨x,hx,e⟩:=amf h;cases e;exact hx
 |N,.rangeFunc _ _ _ _,c,h=>by obtain⟨x,hx,e⟩:=amf h;cases e;exact hx
 |N,.exit _,c,h=>by obtain⟨x,hx,e⟩:=amf h;cases e;exact hx
 |N,.ret,c,h=>by obtain⟨x,hx,e⟩:=amf h;cases e;exact hx
 |N,.label _,c,h=>by obtain⟨x,hx,e⟩:=amf h;cases e;exact hx
 |N,.scope _,c,h=>by obtain⟨x,hx,e⟩:=amf h;cases e;exact hx
 |N,.goto _,c,h=>by obtain⟨x,hx,e⟩:=amf h;cases e;exact hx
 |N,.refuse _,c,h=>by obtain⟨x,hx,e⟩:=amf h;cases e;exact hx
theorem ziF: ∀{l pre post:List Oper} {c:Call},deferIn l=some (pre,c,post)→ ∃o,l=pre++o::post∧o.op=.defer c∧o.guard=none∧o.dst=none
 | [],_,_,_,h=>by cases h
 |o::l,pre,post,c,h=>by
  unfold deferIn at h
  split at h
  ·rename_i c' h1 h2 h3;cases h;exact⟨o,rfl,h1,h2,h3⟩
  ·obtain⟨⟨pre',c',post'⟩,hx,e⟩:=amf h;cases e;obtain⟨o',e1,e2⟩:=ziF hx;exact⟨o',by rw[e1];rfl,e2⟩
theorem zgl {fn:Func} {tmps:Array Value} {R:Ending→World→Prop} {rest:List Deferred} {u:FrameMode} (hu:u≠ .run) {h:H} {ρ0:Rho} {w0:World} {σ:Rho} {Dr:List Nat}:
 ∀(Ds:List Nat) (w:World),zb6 σ w (Ds++Dr)→(∀D∈Ds,w0.heap.size≤D)→HR P σ h w→Ext ρ0 w0 σ w→(∀w1,zb6 σ w1 Dr→HR P σ h w1→Ext ρ0 w0 σ w1→LeavesInM qf 0 P fn tmps R rest u w1)→LeavesInM qf 0 P fn tmps R (Ds.map zB++rest) u w
 | [],w,hD,hds,hr,he,hk=>hk w hD hr he
 |D::Ds,w,hD,hds,hr,he,hk=>by
  obtain⟨q1,q2,q3⟩:=hD.ok D (by simp);obtain⟨g1,g2⟩:=hr.shut he (o:=.deferred none) (zbc _) q3 (zbc _) (hds D (by simp)) q2;refine⟨hu,.inl ⟨D,_,rfl,qY q3,?_⟩⟩;exact zgl hu Ds _ (zb6.tail_put (Ds:=Ds++Dr) hD _) (fun D' h=>hds D' (by simp[h])) g1 g2 hk
theorem zkS (p:Option Value):settle (zcr p)=.returning:=by cases p<;>rfl
theorem zlo (p:Option Value):zfy p≠ .run:=by cases p<;>simp[zfy]
theorem isFn_eq {u g:Value} (h:isFn u=some g):u=g∧ ∃f a b,g=.func (.func f) a b:=by
 unfold isFn at h
 split at h
 ·cases h;exact⟨rfl,_,_,_,rfl⟩
 ·cases h
theorem leaves_hand {ih:IH} {M:Nat} (hih: ∀t o,ih t=some o→zdF P M t o) {fn:Func} {rs:List CR} (hrs:allO (zba P) fn.results.toList=some rs) {f f':Value} {args:List Value} {args':Array Value} {g:FuncId} {first cap:Array Value} (hf':f'=.func (.func g) first cap)
 {p p':Option Value} {o1 o2:Out} {s:zb} {tmps:Array Value} {h:H} {w:World} {ρ0:Rho} {w0:World} {σ:Rho} {Ds:List Nat} (ho:ih (.hand f args p h)=some o1) (hk:resK1 rs s o1=some o2) (rf:VR σ f f') (ra:VRL σ args args'.toList) (rp:POR σ p p') (hs:SR σ s tmps)
 (hr:HR P σ h w) (he:Ext ρ0 w0 σ w) (hD:zb6 σ w Ds) (hds: ∀D∈Ds,w0.heap.size≤D):
 LeavesInM qf 0 P fn tmps (zhN P ρ0 w0 o2) ({target:=.fn (.func g) cap,args:=first++args'}::Ds.map zB) (zfy p') w:=by
 subst hf';obtain⟨h1,h2⟩:=hih _ _ ho σ _ args' p' w rf ra rp hr;refine⟨zlo p',.inr ⟨fun h=>by simp[qf] at h,.func g,cap,g,first++args'++cap,rfl,?_,fun _ _=>trivial,?_⟩⟩
 ·simp only[invoke];exact h2 w
 ·refine CallsDIn.mono h1 ?_;rintro e u' w' ⟨⟨v,h3,v',τ,rfl,rfl,q1,q2,q3⟩,rfl⟩;show LeavesInM _ _ _ _ _ _ _ (settle (zcr p')) w';rw[zkS];exact zdQ hrs hk (hs.mono q3.le) Ds w' (hD.ext q3) hds q2 (he.trans q3)
theorem done_post {ih:IH} {M:Nat} (hih: ∀t o,ih t=some o→zdF P M t o) {fn:Func} {rs:List CR} (hrs:allO (zba P) fn.results.toList=some rs) {f f':Value} {args:List Value} {args':Array Value} {g:FuncId} {first cap:Array Value} (hf':f'=.func (.func g) first cap)
 {N:Nat} {o o2:Out} {ρ0 ρ:Rho} {w0 w:World} {Ds:List Nat} (hdone:doneK ih f args rs o=some o2) (rf:VR ρ f f') (ra:VRL ρ args args'.toList) (he:Ext ρ0 w0 ρ w) (hD:zb6 ρ w Ds) (hds: ∀D∈Ds,w0.heap.size≤D) {e:Exit} {a1:Act} {w1:World}
 (hp:zc7 P ρ w N [] ({target:=.fn (.func g) cap,args:=first++args'}::Ds.map zB) o e a1 w1):
 bodyPostM qf 0 P fn (zhN P ρ0 w0 o2) e a1 w1:=by
 obtain⟨σ,D1,s1,h1,e1,hN,hd,hD1,hds1,hs1,hr1,hcase⟩:=hp.nil_ge;have hall:zb6 σ w1 (D1++Ds):=by
  have h2:=hD.ext e1;refine⟨List.nodup_append.2 ⟨hD1.nodup,h2.nodup,fun x hx y hy e=> ?_⟩,fun D hm=> ?_⟩
  ·subst e;have:=hds1 x hx;have:=(hD.ok x hy).1;omega
  ·rcases List.mem_append.1 hm with hm|hm
   ·exact hD1.ok D hm
   ·exact h2.ok D hm
 have hds1': ∀D∈D1,w0.heap.size≤D:=fun D h=>qh he.size (hds1 D h);have key: ∀(p p':Option Value),POR σ p p'→(∃o1,ih (.hand f args p h1)=some o1∧resK1 rs s1 o1=some o2)→LeavesInM qf 0 P fn a1.tmps (zhN P ρ0 w0 o2) a1.defers (zfy p') w1:=by
  rintro p p' rp ⟨o1,q1,q2⟩;rw[hd];refine zgl (zlo p') D1 w1 hall hds1' hr1 (he.trans e1) (fun w2 k1 k2 k3=> ?_);exact leaves_hand hih hrs hf' q1 q2 (rf.mono e1.le) (ra.mono e1.le) rp hs1 k2 k3 k1 hds
 rcases hcase with⟨rfl,rfl⟩| ⟨i,rfl,rfl⟩| ⟨rfl,rfl⟩| ⟨v,v',rfl,hv,rfl⟩
 ·obtain⟨o1,q1,q2⟩:=aof hdone;exact key none none trivial ⟨o1,q1,q2⟩
 ·cases hdone
 ·obtain⟨o1,q1,q2⟩:=aof hdone;exact key none none trivial ⟨o1,q1,q2⟩
 ·obtain⟨o1,q1,q2⟩:=aof hdone;exact key (some v) (some v') hv ⟨o1,q1,q2⟩
theorem dfr_wp {ih:IH} {M:Nat} (hih: ∀t o,ih t=some o→zdF P M t o) (hdec: ∀c s h o,ih (.code c s h)=some o→zbI c ih s h=some o) {fn:Func} {rs:List CR} (hrs:allO (zba P) fn.results.toList=some rs) {ρ0:Rho} {w0:World} {o2:Out} {N:Nat}:
 ∀(code:Code) (c:CC) (d:Dfr),zbs P N code=some (zA c,some (stripD d))→ ∀(s:zb) (h:H) (o:Out),ih (.code c s h)=some o→dfrK ih d rs o=some o2→ ∀(ρ:Rho) (a:Act) (w:World) (Ds:List Nat),a.tmps.size=N→SR ρ s a.tmps→HR P ρ h w→a.defers=Ds.map zB→zb6 ρ w Ds→(∀D∈Ds,w0.heap.size≤D)→Ext ρ0 w0 ρ w→
  code.wpIn qf 0 P (bodyPostM qf 0 P fn (zhN P ρ0 w0 o2)) a w
 |.seq x y,c,d,hc,s,h,o,ho,hK,ρ,a,w,Ds,hN,hs,hr,hd,hD,hds,hE=>by
  have plain:((ze P N x).bind fun a=>(zbs P N y).map (seqD a))=some (zA c,some (stripD d))→(Code.seq x y).wpIn qf 0 P (bodyPostM qf 0 P fn (zhN P ρ0 w0 o2)) a w:=by
   intro hc;obtain⟨ca,ha,hc⟩:=aof hc;obtain⟨⟨cb,d'⟩,hb,e⟩:=amf hc;simp only[seqD,qX] at e;obtain⟨e1,rfl⟩:=e;obtain⟨ca',L,cb',rfl,rfl,rfl⟩:=zjx e1;obtain⟨o1,h1,h2⟩:=aof (show(ih (.code ca' s h)).bind (thenK ih L cb')=some o from hdec _ _ _ _ ho);refine wpIn_seq (qI ((hih _ _ h1 x N ha none ρ a w Ds [] (by intro l hl;cases hl) hN hs hr (by rw[hd,qv]) hD).wpIn) ?_);rintro e a1 w1 ⟨σ,D1,s1,hh1,he,hN1,hd1,⟨hD1,hds1⟩,hs1,hr1,hcase⟩;rw[qv] at hd1;have hdsN: ∀D∈D1,w0.heap.size≤D:=fun D hm=>(hds1 D hm).elim (hds D) (fun h=>qh hE.size h);rcases hcase with⟨rfl,rfl⟩| ⟨i,rfl,rfl⟩| ⟨rfl,rfl⟩| ⟨v,v',rfl,hv,rfl⟩
   ·exact dfr_wp hih hdec hrs y cb' d hb (keepA L s1) hh1 o h2 hK σ a1 w1 D1 hN1 (hs1.keep L) hr1 hd1 hD1 hdsN (hE.trans he)
   ·cases h2;cases hK
   ·cases h2;cases hK
   ·cases h2;cases hK;show LeavesInM _ _ _ _ _ _ a1.defers _ _;rw[hd1];exact zdP hv D1 w1 hD1 hdsN hr1 (hE.trans he)
  cases x with
  |region id ops dr=>
   cases dr with
   |true=>exact plain hc
   |false=>
    unfold zbs at hc
    split at hc
    ·exact plain hc
    ·rename_i pre cl post hdi;obtain⟨od,hl,hod,hg,hdst⟩:=ziF hdi
     split at hc
     ·rename_i fo hfo;obtain⟨f,hf,hc⟩:=aof hc;obtain⟨as,has,hc⟩:=aof hc;obtain⟨preC,hpre,hc⟩:=aof hc;obtain⟨postC,hpost,hc⟩:=aof hc;obtain⟨bC,hb,e⟩:=amf hc;simp only[Prod.mk.injEq,Option.some.injEq] at e;obtain⟨e1,e2⟩:=e;obtain rfl:=zjy e1;obtain⟨df,da,dL,dr⟩:=d;simp only[stripD,Dfr.mk.injEq] at e2;obtain⟨rfl,rfl,-,e3⟩:=e2;obtain⟨pC,L',bC',rfl,e4,rfl⟩:=zjx e3;obtain rfl:=zjy e4;have hrun:zcO ih preC s h=some o:=hdec _ _ _ _ ho;have hlen:ops.size=pre.length+1+post.length:=by rw[←Array.length_toList,hl];simp;omega
      have hrange:List.range ops.size=qbp 0 pre.length++(pre.length::qbp (pre.length+1) post.length):=by
       have e1:= @List.range'_append_1 0 pre.length (post.length+1);rw[Nat.zero_add,qbE] at e1;rw[qbu,hlen,show pre.length+1+post.length=pre.length+(post.length+1) by omega,←e1]
      refine wpIn_seq (wpIn_region ?_);rw[hrange];have hIn: ∀D∈Ds,w0.heap.size≤D:=hds;refine zjX (ops:=ops) hih none (w0:=w) (ρ0:=ρ) (Ds:=Ds) (Db:=[]) (out:=o) ?_ ?_ pre.length 0 preC ρ s h a w (by omega) (by rw[List.drop_zero,hl,qbt];exact hpre) hrun hr hs hN (by rw[hd,qv]) hD (.refl _ _)
      ·intro sF hF σ a1 w1 eo q1 q2 q3 q4 q5 q6;subst eo;rw[qv] at q4;obtain⟨fv,hfv,hK⟩:=aof hK;obtain⟨fv',hfn,hK⟩:=aof hK;obtain⟨av,hav,hK⟩:=aof hK;obtain⟨o3,ho3,hdone⟩:=aof hK;obtain⟨rfl,g,first,cap,rfl⟩:=isFn_eq hfn;have rf:=zbb hf q1 hfv;have ra:=zja q1 has hav;obtain⟨first',cap',hfe⟩: ∃x y,a1.eval fo=.func (.func g) x y:=by
        generalize a1.eval fo=y at rf;cases rf;exact⟨_,_,rfl⟩
       have hget:ops[pre.length]? =some od:=by rw[←Array.getElem?_toList,hl];simp
       have hwant:Region.wanted od (yielded ops a1.tmps)=true:=by simp[Region.wanted,hg]
       simp only[wpOpsIn,hget,hwant,if_true];refine⟨fun f _=>trivial,?_⟩;have hsem:(od.semAt (Wf none).round a1.eval).run P w1=.ok (.defer {target:=.fn (.func g) cap',args:=first'++cl.args.map a1.eval}) w1:=by
        show(od.semAt none a1.eval).run P w1=_;rw[Oper.semAt_none];simp only[execOp,hod,resolve,hfo,hfe,Deferred.ofValue,Sem.run_bind,Sem.run_pure,Result.andThen_ok]
       rw[hsem,Oper.uponIn_defer];have hput:({a1 with defers:=({target:=.fn (.func g) cap',args:=first'++cl.args.map a1.eval}:Deferred)::a1.defers}:Act).put od.dst undef={a1 with defers:=({target:=.fn (.func g) cap',args:=first'++cl.args.map a1.eval}:Deferred)::Ds.map zB}:=by
        rw[hdst,q4];rfl
       rw[hput];rw[hfe] at rf;have hE1:Ext ρ0 w0 σ w1:=hE.trans q6;obtain⟨o4,h4,h5⟩:=aof (show(ih (.code (.ops postC) (keepA dL sF) hF)).bind (thenK ih L' bC')=some o3 from hdec _ _ _ _ ho3);have hrun4:zcO ih postC (keepA dL sF) hF=some o4:=hdec _ _ _ _ h4;have hpost':=zjX (ops:=ops) (Q:=Exit.then (y.wpIn qf 0 P (bodyPostM qf 0 P fn (zhN P ρ0 w0 o2))) (bodyPostM qf 0 P fn (zhN P ρ0 w0 o2))) (rest:=[]) hih none (w0:=w1) (ρ0:=σ) (Ds:=[]) (Db:=({target:=.fn (.func g) cap',args:=first'++cl.args.map a1.eval}:Deferred)::Ds.map zB) (out:=o4)
        (fun sG hG τ a2 w2 eo k1 k2 k3 k4 k5 k6=>by
          subst eo;show y.wpIn _ _ _ _ a2 w2;refine qI ((hih _ _ h5 y N hb none τ a2 w2 [] _ (by intro l hl;cases hl) k3 (k1.keep L') k2 k4 k5).wpIn) (fun e a3 w3 hp=> ?_);exact done_post hih hrs rfl hdone (rf.mono k6.le) (ra.mono k6.le) (hE1.trans k6) ((q5).ext k6) hIn hp)
        (fun v sG hG v' τ a2 w2 eo k0 k1 k2 k3 k4 k5 k6=>by
          subst eo;cases h5;exact done_post (o:=.pan v sG hG) hih hrs rfl hdone (rf.mono k6.le) (ra.mono k6.le) (hE1.trans k6) ((q5).ext k6) hIn ⟨τ,[],sG,hG,.refl _ _,k3,k4,⟨k5,fun D h=>by cases h⟩,k1,k2,.inr (.inr (.inr ⟨v,v',rfl,k0,rfl⟩))⟩)
        post.length (pre.length+1) postC σ (keepA dL sF) hF {a1 with defers:=({target:=.fn (.func g) cap',args:=first'++cl.args.map a1.eval}:Deferred)::Ds.map zB} w1 (by omega)
        (by rw[hl,show pre++od::post=(pre++[od])++post by simp,show pre.length+1=(pre++[od]).length by simp,List.drop_left,List.take_length];exact hpost) hrun4 q2 (q1.keep dL) q3 rfl ⟨qW,by simp⟩ (.refl _ _)
       rw[qv] at hpost';exact hpost'
      ·intro v sF hF v' σ a1 w1 eo q0 q1 q2 q3 q4 q5 q6;subst eo;cases hK;show LeavesInM _ _ _ _ _ _ a1.defers _ _;rw[q4,qv];exact zdP q0 Ds w1 q5 hds q2 (hE.trans q6)
     ·cases hc
  |_=>exact plain hc
 |.skip,c,d,hc,s,h,o,ho,hK,ρ,a,w,Ds,hN,hs,hr,hd,hD,hds,hE=>by obtain⟨x,hx,e⟩:=amf hc;cases e
 |.region _ _ _,c,d,hc,s,h,o,ho,hK,ρ,a,w,Ds,hN,hs,hr,hd,hD,hds,hE=>by obtain⟨x,hx,e⟩:=amf hc;cases e
 |.cond _ _ _,c,d,hc,s,h,o,ho,hK,ρ,a,w,Ds,hN,hs,hr,hd,hD,hds,hE=>by obtain⟨x,hx,e⟩:=amf hc;cases e
 |.block _ _,c,d,hc,s,h,o,ho,hK,ρ,a,w,Ds,hN,hs,hr,hd,hD,hds,hE=>by obtain⟨x,hx,e⟩:=amf hc;cases e
 |.loop _,c,d,hc,s,h,o,ho,hK,ρ,a,w,Ds,hN,hs,hr,hd,hD,hds,hE=>by obtain⟨x,hx,e⟩:=amf hc;cases e
 |.rangeFunc _ _ _ _,c,d,hc,s,h,o,ho,hK,ρ,a,w,Ds,hN,hs,hr,hd,hD,hds,hE=>by obtain⟨x,hx,e⟩:=amf hc;cases e
 |.exit _,c,d,hc,s,h,o,ho,hK,ρ,a,w,Ds,hN,hs,hr,hd,hD,hds,hE=>by obtain⟨x,hx,e⟩:=amf hc;cases e
 |.ret,c,d,hc,s,h,o,ho,hK,ρ,a,w,Ds,hN,hs,hr,hd,hD,hds,hE=>by obtain⟨x,hx,e⟩:=amf hc;cases e
 |.label _,c,d,hc,s,h,o,ho,hK,ρ,a,w,Ds,hN,hs,hr,hd,hD,hds,hE=>by obtain⟨x,hx,e⟩:=amf hc;cases e
 |.scope _,c,d,hc,s,h,o,ho,hK,ρ,a,w,Ds,hN,hs,hr,hd,hD,hds,hE=>by obtain⟨x,hx,e⟩:=amf hc;cases e
 |.goto _,c,d,hc,s,h,o,ho,hK,ρ,a,w,Ds,hN,hs,hr,hd,hD,hds,hE=>by obtain⟨x,hx,e⟩:=amf hc;cases e
 |.refuse _,c,d,hc,s,h,o,ho,hK,ρ,a,w,Ds,hN,hs,hr,hd,hD,hds,hE=>by obtain⟨x,hx,e⟩:=amf hc;cases e
theorem zlw {ih:IH} {M:Nat} (hih: ∀t o,ih t=some o→zdF P M t o) (hdec: ∀c s h o,ih (.code c s h)=some o→zbI c ih s h=some o) {g:FuncId} {fn:Func} {cf:za} (hfn:P.funcs[g]? =some fn) (hcf:z6 P fn=some (zfd cf)) {args:List Value} {h:H} {o:Out} (hv:zbW ih cf args h=some o)
 {ρ:Rho} {args':Array Value} {w:World} (ra:VRL ρ args args'.toList) (hr:HR P ρ h w):CallsIn qf 0 P g args' w (zhN P ρ w o)∧ ∀w,(callFunc g args').run P w=.ok (.enter g args') w:=by
 obtain⟨hname,c,hbody,hcc,hrs,hnt,hnp⟩:=zbL hcf;unfold zbW at hv
 split at hv
 ·rename_i hle;have hle':args'.size≤fn.ntmps:=by
   have:=qC hle;rw[hnt,ra.1] at this;simpa using this
  obtain⟨o1,ho1,hret⟩:=aof hv;refine⟨?_,fun w=> ?_⟩
  ·refine callsIn_of_wp_marks hfn hbody trivial ?_;have hsz:(args'++Array.replicate (fn.ntmps - args'.size) undef).size=fn.ntmps:=by simp;omega
   cases hdf:cf.dfr with
   |none=>
    rw[hdf] at hcc hret;have hret:retK cf.results o1=some o:=hret;have hcode:=(hih _ _ ho1 c fn.ntmps (zc6 hcc) none ρ {tmps:=args'++qS (fn.ntmps - args'.size) undef,defers:=[]} w [] [] (by intro l hl;cases hl) hsz (args_SR ra _) hr rfl ⟨qW,by simp⟩).wpIn;refine qI hcode ?_;intro e a1 w1 hp;obtain⟨σ,Ds,s1,h1,he,hN,hd,hD,hds,hs1,hr1,hcase⟩:=hp.nil_ge;rw[qv] at hd;rcases hcase with⟨rfl,rfl⟩| ⟨i,rfl,rfl⟩| ⟨rfl,rfl⟩| ⟨v,v',rfl,hvv,rfl⟩
    ·show LeavesInM _ _ _ _ _ _ a1.defers _ _;rw[hd];exact zdQ hrs hret hs1 Ds w1 hD hds hr1 he
    ·cases hret
    ·show LeavesInM _ _ _ _ _ _ a1.defers _ _;rw[hd];exact zdQ hrs hret hs1 Ds w1 hD hds hr1 he
    ·cases hret;show LeavesInM _ _ _ _ _ _ a1.defers _ _;rw[hd];exact zdP hvv Ds w1 hD hds hr1 he
   |some d=>
    rw[hdf] at hcc hret;exact dfr_wp hih hdec hrs c cf.body d hcc _ _ _ ho1 hret ρ _ w [] hsz (args_SR ra _) hr rfl ⟨qW,by simp⟩ (by simp) (.refl _ _)
  ·have hne: ¬fn.name= "runtime.NumGoroutine" :=by simpa using hname
   simp[callFunc,hfn,hne,hbody]
 ·cases hv
theorem round_sound {ih:IH} {M:Nat} (hih: ∀t o,ih t=some o→zdF P M t o) {l:Nat} {args:List Value} {h:H} {o:Out} {lo:IObj} (hlo:h.get l=some lo) (hv:runRound ih l args h lo=some o)
 {ρ:Rho} {R:RB} {args':Array Value} {w:World} (hi:ρ l=some R) (ra:VRL ρ args args'.toList) (hr:HR P ρ h w):
 ∃fn tmps assign body,(Instr.yield R.blk args').run P w=.ok (.round R.blk fn tmps assign body) w∧RoundIn qf 0 P R.blk fn tmps assign body w (zgU P ρ w o):=by
 cases lo with
 |loop st pend sl rc=>
  obtain⟨s0,hs0,hv1⟩:=aof hv;obtain⟨o1,ho1,hv2⟩:=aof hv1;clear hv hv1;obtain⟨lp,p0,p1,p2,p3,p4,p5,p6,p7⟩:=zhl hr hi hlo;rw[p4] at hs0;obtain⟨q1,q2,q3⟩:=zjE lp.params.toList args args'.toList (keepA rc.L sl) s0 lp.tmps hs0 ra (p3.keep _) p5;have hsz:args'.size=lp.params.size:=by rw[←qR,←ra.1,q1,qR]
  have hfold:(lp.params.zip args').foldl (fun tmps (x:Tmp×Value)=>tmps.setIfInBounds x.1 x.2) lp.tmps=(lp.params.toList.zip args'.toList).foldl (fun tmps (x:Tmp×Value)=>tmps.setIfInBounds x.1 x.2) lp.tmps:=by
   rw[←Array.foldl_toList,Array.toList_zip]
  refine⟨lp.fn,_,lp.assign,lp.body,run_yield p0 hsz,?_⟩;have hR:zfb (some R.blk) w:=by intro l hl;cases hl;exact⟨lp,p0⟩
  refine roundIn_of_wpIn trivial ?_;have hassign:=(hih _ _ ho1 lp.assign lp.tmps.size p6 (some R.blk) ρ {tmps:=(lp.params.zip args').foldl (fun tmps (x:Tmp×Value)=>tmps.setIfInBounds x.1 x.2) lp.tmps,defers:=[]} w [] [] hR (by dsimp only;rw[hfold];exact q3) (by dsimp only;rw[hfold];exact q2) hr rfl ⟨qW,by simp⟩).wpIn;refine qI hassign ?_;intro e a1 w1 hp;obtain⟨σ,Ds,s1,h1,he,hN,hd,hD,hds,hs1,hr1,hcase⟩:=hp.nil_ge;rcases hcase with⟨rfl,rfl⟩| ⟨i,rfl,rfl⟩| ⟨rfl,rfl⟩| ⟨v,v',rfl,hvv,rfl⟩
  ·obtain⟨lo1,hlo1,hv3⟩:=aof hv2;cases lo1 with
   |loop st1 pend1 sl1 rc1=>
    cases st1<;>simp only[zg4,reduceCtorEq] at hv3;obtain⟨o2,ho2,hfin⟩:=aof hv3;have hi1:σ l=some R:=he.le _ _ hi;obtain⟨lp1,r0,r1,r2,r3,r4,r5,r6,r7⟩:=zhl hr1 hi1 hlo1;obtain⟨g1,g2⟩:=loop_put hr1 hi1 hlo1 r0 (lp':={lp1 with state:=.busy}) (st':=.busy) (pend':=pend1) rfl r2 rfl rfl rfl rfl rfl;refine⟨_,run_beginRound r0 r1,?_⟩;have hRb:zfb (some R.blk) (w1.putObj R.blk (.loop {lp1 with state:=.busy})):=by
     intro l hl;cases hl;exact⟨_,World.putObj_heap_same (qbg.1 r0).1⟩
    have hbody:=(hih _ _ ho2 lp.body lp.tmps.size p7 (some R.blk) σ a1 _ Ds [] hRb hN hs1 g1 hd (hD.ext g2)).wpIn;refine qI hbody ?_;intro e a2 w2 hp2;obtain⟨τ,Ds2,s2,h2,he2,hN2,hd2,hD2,hs2,hr2,hcase2⟩:=hp2;have hi2:τ l=some R:=he2.le _ _ hi1;have fin: ∀(p:Option CC) (jump:Option Code) (lo2:IObj),PendR p jump→h2.get l=some lo2→zlz l p h2 lo2=some o→ ∃v w',(Instr.endRound R.blk jump).run P w2=.ok v w'∧zgU P ρ w o (.returned v) w':=by
     intro p jump lo2 hp hlo2 hfin;cases lo2 with
     |loop st2 pend2 sl2 rc2=>
      cases hfin;obtain⟨lp2,t0,t1,t2,t3,t4⟩:=zhl hr2 hi2 hlo2;have hnone:jump.isNone=p.isNone:=by
       cases p with
       |none=>cases jump with
        |none=>rfl
        |some c=>exact hp.elim
       |some c=>cases jump with
        |none=>cases c<;>exact hp.elim
        |some c'=>rfl
      obtain⟨k1,k2⟩:=loop_put hr2 hi2 hlo2 t0 (lp':={lp2 with state:=if jump.isNone then .ready else .done,pending:=jump}) (st':=stOf p) (pend':=p) (by dsimp only;rw[hnone];cases p<;>rfl) hp rfl rfl rfl rfl rfl;refine⟨_,_,run_endRound jump t0,_,_,_,τ,rfl,rfl,?_,k1,((he.trans g2).trans he2).trans k2⟩;rw[hnone];exact .bool _
     |cells _ _=>cases hfin
     |map _ _=>cases hfin
     |dead=>cases hfin
     |glob _ _=>cases hfin
    rcases hcase2 with⟨rfl,rfl⟩| ⟨i,rfl,rfl⟩| ⟨rfl,rfl⟩| ⟨v,v',rfl,hvv,rfl⟩
    ·obtain⟨lo2,hlo2,hfo⟩:=aof hfin;exact fin none none lo2 trivial hlo2 hfo
    ·obtain⟨lo2,hlo2,hfo⟩:=aof hfin;rcases zf7 i with⟨j,rfl⟩| ⟨l,rfl⟩
     ·rw[zcu];exact fin (some (.exit (2*j))) (some (.exit j)) lo2 (coOf_even j).symm hlo2 hfo
     ·rw[zcU];exact fin (some (.exit (zb4 l))) (some (.goto l)) lo2 (coOf_goto l).symm hlo2 hfo
    ·obtain⟨lo2,hlo2,hfo⟩:=aof hfin;exact fin (some .ret) (some .ret) lo2 trivial hlo2 hfo
    ·cases hfin
   |cells _ _=>cases hv3
   |map _ _=>cases hv3
   |dead=>cases hv3
   |glob _ _=>cases hv3
  ·cases hv2
  ·cases hv2
  ·cases hv2
 |cells _ _=>cases hv
 |map _ _=>cases hv
 |dead=>cases hv
 |glob _ _=>cases hv
theorem VRL.of_func {ρ:Rho} {f:FuncId} {x y x' y':Array Value} (h:VR ρ (.func (.func f) x y) (.func (.func f) x' y')):VRL ρ x.toList x'.toList∧VRL ρ y.toList y'.toList:=by
 cases h with
 |func _ ha hb ra rb=>exact⟨⟨by simpa using ha,fun j a b h1 h2=>ra j a b (by simpa using h1) (by simpa using h2)⟩,⟨by simpa using hb,fun j a b h1 h2=>rb j a b (by simpa using h1) (by simpa using h2)⟩⟩
theorem zjo {F:Fence} {n:Nat} {c:Code} {Q:Exit→Act→List Frame→World→Prop} {a:Act} {cs:List Frame} {w:World} (h:c.wpSIn F n P Q a cs w) (hq: ∀l a cs w,¬Q (.goto l) a cs w):(Code.scope c).wpSIn F n P Q a cs w:=by
 intro b k hk hro hb hr;have h0:(lone (b.atR a (.code (.scope c)::k)) cs w).fenced P F:=fenced_calm hb hr rfl;have s0:step P (lone (b.atR a (.code (.scope c)::k)) cs w)=.next (lone (b.atR a (.code c:: .inScope c::k)) cs w):=step_lone_go (by simp[stepG,stepG.exec,Frame.atR])
 obtain⟨e,a₁,cs₁,w₁,hl,hQ,harr⟩:=h b (.inScope c::k) hk hro hb hr;cases e with
 |normal=>
  have s1:step P (lone (b.atR a₁ (.inScope c::k)) cs₁ w₁)=.next (lone (b.atR a₁ k) cs₁ w₁):=step_lone_go (by simp[stepG,stepG.exec,Frame.atR])
  exact⟨.normal,a₁,cs₁,w₁,hl,hQ,.head h0 s0 (StepsIn.trans harr (.one (fenced_calm hb (hl▸hr) rfl) s1))⟩
 |exit id=>
  have hx:exitTo id (.inScope c::k)=exitTo id k:=by simp[exitTo]
  exact⟨.exit id,a₁,cs₁,w₁,hl,hQ,fun k' hk=>.head h0 s0 (harr.1 k' (by rw[hx];exact hk)),fun hr' hk=>let⟨k₁,h1,h2⟩:=harr.2 hr' (by rw[hx];exact hk);⟨k₁,h1,.head h0 s0 h2⟩⟩
 |goto l=>exact absurd hQ (hq l _ _ _)
 |ret=>exact⟨_,a₁,cs₁,w₁,hl,hQ,.of_steps (.one h0 s0) harr⟩
 |panic ch=>exact⟨_,a₁,cs₁,w₁,hl,hQ,.of_steps (.one h0 s0) harr⟩
 |outgrown=>exact⟨_,a₁,cs₁,w₁,hl,hQ,.of_steps (.one h0 s0) harr⟩
def Takes (P:Program) (Q:World→Prop):List Deferred→World→Prop
 | [],w=>Q w
 |d::ds,w=> ∃r w',d.target=.collected r∧(Instr.takeDeferred r).run P w=.ok [] w'∧Takes P Q ds w'
theorem zgw {F:Fence} {n:Nat} {Q:World→Prop}: ∀(ds:List Deferred) (w:World) (fr:Frame) (cs:List Frame),fr.mode=.returning→fr.defers=ds→F.fn fr.fn→F.room (cs.length+1+n)→Takes P Q ds w→
 ∃w',Q w'∧StepsIn (Machine.fenced P F) P (lone fr cs w) (lone {fr with defers:=[]} cs w')
 | [],w,fr,cs,hm,hd,hb,hr,h=>⟨w,h,by
     have:({fr with defers:=[]}:Frame)=fr:=by cases fr;cases hd;rfl
     rw[this];exact StepsIn.refl _⟩
 |d::ds,w,fr,cs,hm,hd,hb,hr,h=>by
  obtain⟨r,w',ht,hk,hrest⟩:=h;have h1:=step_collected (cs:=cs) (by rw[hm];simp) hd ht hk;have i1:(lone fr cs w).fenced P F:=fenced_out hb hr (by rw[hm];simp) hd (fun g hg=>by rw[ht] at hg;simp[Target.leads] at hg);obtain⟨w2,q1,q2⟩:=zgw ds w' {fr with defers:=[]++ds} cs hm rfl hb hr hrest;exact⟨w2,q1,.head i1 h1 q2⟩
def handPost (P:Program) (fn:Func) (c₀:Frame) (cs:List Frame) (R:Ending→FrameMode→World→Prop) (e:Exit) (a:Act) (cs':List Frame) (w:World):Prop:=
 (e=.normal∨e=.ret)∧ ∃u',cs'={c₀ with mode:=u'}::cs∧Takes P (fun w=> ∃v,(results fn a.tmps).run P w=.ok v w∧R (.returned v) u' w) a.defers w
theorem zk5 {F:Fence} {n:Nat} {f:FuncId} {fn:Func} {c:Code} {args:Array Value} {u:FrameMode} {w:World} {R:Ending→FrameMode→World→Prop}
 (hf:P.funcs[f]? =some fn) (hb:fn.body=some c) (hF:F.fn f)
 (h: ∀(c₀:Frame) (cs:List Frame),c₀.mode=u→
   c.wpSIn F n P (handPost P fn c₀ cs R) {tmps:=args++qS (fn.ntmps - args.size) undef,defers:=[]} (c₀::cs) w)             :
 CallsDIn F n P f args u w R:=by
 refine⟨hF,fun c₀ cs hu hroom=> ?_⟩;let b:Frame:={(default:Frame) with fn:=f,kind:=.deferred,roundOf:=none};have henter:Frame.enter P f args .deferred=
  b.atR {tmps:=args++qS (fn.ntmps - args.size) undef,defers:=[]} [.code c]:=by
  simp[Frame.enter,Frame.atR,hf,hb,b]
 obtain⟨e,a',cs',w',hl,⟨he,u',rfl,ht⟩,harr⟩:=h c₀ cs hu b [] rfl rfl hF hroom;rw[←henter] at harr;rcases he with rfl|rfl
 ·obtain⟨w2,⟨v,hr,hR⟩,hs2⟩:=zgw (F:=F) (n:=n) a'.defers w' {b.atR a' [] with mode:=.returning} ({c₀ with mode:=u'}::cs) rfl rfl hF hroom ht;exact⟨.returned v,u',w2,_,hR,StepsIn.trans (StepsIn.trans harr (.one (fenced_calm (fr:=b.atR a' []) hF hroom rfl) (stepR_end rfl))) hs2,rfl,rfl,rfl,rfl,fn,hf,hr⟩
 ·obtain⟨todo,hs⟩:=harr.1 rfl;obtain⟨w2,⟨v,hr,hR⟩,hs2⟩:=zgw (F:=F) (n:=n) a'.defers w' {b.atR a' todo with mode:=.returning} ({c₀ with mode:=u'}::cs) rfl rfl hF hroom ht;exact⟨.returned v,u',w2,_,hR,StepsIn.trans hs hs2,rfl,rfl,rfl,rfl,fn,hf,hr⟩
def RecR (σ:Rho) (p0:Option Value) (p:Option Value) (u:FrameMode):Prop:=
 (p=none∧u=zcr p0)∨ ∃v v',p=some v∧p0=some v'∧VR σ v v'∧u=zfy p0
theorem RecR.mono {ρ σ:Rho} (hl:zhL ρ σ) {p0 p:Option Value} {u:FrameMode} (h:RecR ρ p0 p u):RecR σ p0 p u:=by
 rcases h with h| ⟨v,v',h1,h2,h3,h4⟩
 ·exact .inl h
 ·exact .inr ⟨v,v',h1,h2,h3.mono hl,h4⟩
theorem zk2 {o:Oper} (hop:zbg P o=some .recov): ∃cl:Call,o.op=.call cl∧cl.callee=.builtin .recover:=by
 cases e:o.op<;>simp only[zbg,e,reduceCtorEq] at hop
 case call cl=>
  refine⟨cl,rfl,?_⟩
  split at hop
  ·obtain⟨f',h1,hop⟩:=aof hop;obtain⟨as',h2,e2⟩:=amf hop;cases e2
  ·rename_i b hb
   split at hop
   ·rename_i hrec;cases b<;>simp[isRecover] at hrec;exact hb
   ·obtain⟨cb,h1,hop⟩:=aof hop;obtain⟨as',h2,e2⟩:=amf hop;cases e2
  ·obtain⟨f',h1,hop⟩:=aof hop;obtain⟨as',h2,e2⟩:=amf hop;cases e2
 case convert sr d x0=>
  obtain⟨x1,-,hop⟩:=aof hop;obtain⟨u1,-,hop⟩:=aof hop;obtain⟨u2,-,hop⟩:=aof hop;cases u1<;>cases u2<;>first| (cases hop;done)| (obtain⟨u,-,hop⟩:=aof hop;split at hop<;>cases hop)
 all_goals (exfalso;revert hop;simp only[qbo,qbq,reduceCtorEq,and_false,exists_false,imp_false,not_false_eq_true])
 all_goals (intro hop;repeat' (first| (obtain⟨_,_,hop⟩:=hop)|split at hop))
 all_goals simp_all[qbo,qbq]
theorem compile_recov {o:Oper} (hop:zcd P o=some .recov): ∃cl:Call,o.op=.call cl∧cl.callee=.builtin .recover:=by
 rcases(zbO hop).2 with h|h
 ·exact zk2 h
 ·cases h
theorem zkf (p:Option Value) (s:zb) (h:H):zbi [] p s h=some (p,s,h):=rfl
theorem ziC (o:CI) (l:List CI) (p:Option Value) (s:zb) (h:H):zbi (o::l) p s h=(z8 o.guard s).bind fun b=>match b with
 |true=>zen o (zbi l) p s h
 |false=>zbi l p (zbh o.dst zM s) h:=rfl
theorem zhr {N:Nat} {ops:Array Oper} {p0:Option Value} {c₀:Frame} {cs:List Frame} {Q:Exit→Act→List Frame→World→Prop} {w0:World} {ρ0:Rho} {x:Option Value×zb×H}
 (hQ: ∀σ u1 (a1:Act) w1,RecR σ p0 x.1 u1→SR σ x.2.1 a1.tmps→HR P σ x.2.2 w1→a1.tmps.size=N→a1.defers=[]→Ext ρ0 w0 σ w1→Q .normal a1 ({c₀ with mode:=u1}::cs) w1):
 ∀(m k:Nat) (l:List CI) (ρ:Rho) (p:Option Value) (u:FrameMode) (s:zb) (h:H) (a:Act) (w:World),k+m=ops.size→allO (zt P N ops) (ops.toList.drop k)=some l→zbi l p s h=some x→
  RecR ρ p0 p u→HR P ρ h w→SR ρ s a.tmps→a.tmps.size=N→a.defers=[]→Ext ρ0 w0 ρ w→wpOpsSIn qf 0 P ops Q (qbp k m) a ({c₀ with mode:=u}::cs) w
 |0,k,l,ρ,p,u,s,h,a,w,hk,hl,hrun,hp,hr,hs,hN,hd,hE=>by
  have:ops.toList.drop k=[]:=by apply List.drop_eq_nil_of_le;simp;omega
  rw[this] at hl;cases hl;rw[zkf] at hrun;cases hrun;exact hQ ρ u a w hp hs hr hN hd hE
 |m+1,k,l,ρ,p,u,s,h,a,w,hk,hl,hrun,hp,hr,hs,hN,hd,hE=>by
  have hlt:k<ops.size:=by omega
  have hdr:ops.toList.drop k=ops[k]::ops.toList.drop (k+1):=by
   rw[←List.getElem_cons_drop (by simpa using hlt)];simp
  rw[hdr] at hl;obtain⟨c,hc,hl⟩:=aof hl;obtain⟨l',hl',e⟩:=amf hl;subst e;rw[ziC] at hrun;obtain⟨b,hb,hrun⟩:=aof hrun;obtain⟨hop,hdst,hdlt⟩:=zbf hc;have hwant:=zcj hc hs hb;rw[qbE];simp only[wpOpsSIn,Array.getElem?_eq_getElem hlt,hwant];refine⟨fun f _=>trivial,?_⟩;cases b with
  |true=>
   simp only[if_true];have hrun:zen c (zbi l') p s h=some x:=hrun;by_cases hrec:c.op=.recov
   ·rw[hrec] at hop;obtain⟨cl,hocl,hcb⟩:=compile_recov hop;have hx:(execOp a.eval ops[k]).run P w=.ok .recover w:=by
     simp[execOp,hocl,resolve,hcb,invoke,builtin]
    rw[hx];dsimp only;have hrun:zbi l' none (zbh c.dst (p.getD .nilIface) s) h=some x:=by
     unfold zen at hrun;rw[hrec] at hrun;exact hrun
    rcases hp with⟨rfl,rfl⟩| ⟨v,v',rfl,rfl,hv,rfl⟩
    ·have hn:recoverD ({c₀ with mode:=zcr p0}::cs)=none:=by cases p0<;>rfl
     rw[hn];obtain⟨p1,p2,p3⟩:=zh4 hdst hdlt hs hN (VR.nilIface (ρ:=ρ));exact zhr hQ m (k+1) l' ρ none _ _ _ _ _ (by omega) hl' hrun (.inl ⟨rfl,rfl⟩) hr p1 p2 (p3.trans hd) hE
    ·have hn:recoverD ({c₀ with mode:=zfy (some v')}::cs)=some (v',{c₀ with mode:=zcr (some v')}::cs):=rfl;rw[hn];obtain⟨p1,p2,p3⟩:=zh4 hdst hdlt hs hN hv;exact zhr hQ m (k+1) l' ρ none _ _ _ _ _ (by omega) hl' hrun (.inl ⟨rfl,rfl⟩) hr p1 p2 (p3.trans hd) hE
   ·have hrun:(opV c.op s h).bind (fun x=>zbi l' p (zbh c.dst x.1 s) x.2)=some x:=by
     unfold zen at hrun
     split at hrun
     ·rename_i e;exact absurd e hrec
     ·exact hrun
    obtain⟨⟨v,h1⟩,hv,hrest⟩:=aof hrun;have hcl:zQ c.op≠ .call:=by
     intro e;cases hcop:c.op<;>rw[hcop] at e hv<;>first| (cases hv;done)| (simp[zQ] at e;done)|exact absurd e (zj0 _ _)
    obtain⟨n,v',w',σ,h1',h2,h3,h4,h5⟩:=(op_sim hop hr hs hv).sim hr hcl;rw[h1'];have go: ∀v0,VR σ v v0→wpOpsSIn qf 0 P ops Q (qbp (k+1) m) (a.put ops[k].dst v0) ({c₀ with mode:=u}::cs) w':=by
     intro v0 hv0;obtain⟨p1,p2,p3⟩:=zh4 hdst hdlt (hs.mono h5.le) hN hv0;exact zhr hQ m (k+1) l' σ p u _ _ _ _ (by omega) hl' hrest (hp.mono h5.le) h4 p1 p2 (p3.trans hd) (hE.trans h5)
    rcases h2 with rfl| ⟨rfl,rfl⟩
    ·exact go v' h3
    ·exact go undef h3
  |false=>
   simp only[Bool.false_eq_true,if_false];obtain⟨p1,p2,p3⟩:=zh4 (v':=undef) hdst hdlt hs hN (VR.tuple_of (VRL.nil ρ));exact zhr hQ m (k+1) l' ρ p u _ _ _ _ (by omega) hl' hrun hp hr p1 p2 (p3.trans hd) hE
theorem zke {N:Nat} {l:List CI} {Q:Exit→Act→List Frame→World→Prop} (hq: ∀l a cs w,¬Q (.goto l) a cs w) {a:Act} {cs:List Frame} {w:World}: ∀(x:Code),ze P N x=some (.ops l)→
 (∀ops:Array Oper,allO (zt P N ops) ops.toList=some l→wpOpsSIn qf 0 P ops Q (List.range ops.size) a cs w)→x.wpSIn qf 0 P Q a cs w
 |.region id ops d,hc,h=>by
  obtain⟨l',hl,hc⟩:=aof hc;cases d with
  |false=>cases hc;exact wpSIn_region (h ops hl)
  |true=>
   have hc:some ((if ops.toList.zipIdx.all (fun x=>(x.1.after.toList.filter (qA .any)).all fun e=>qE e.on x.2) then zey (ancs ops.toList) l' else none).getD zfr)=some (.ops l):=hc;have hc:(if ops.toList.zipIdx.all (fun x=>(x.1.after.toList.filter (qA .any)).all fun e=>qE e.on x.2) then zey (ancs ops.toList) l' else none)=some (.ops l):=by
    generalize hd:(if ops.toList.zipIdx.all (fun x=>(x.1.after.toList.filter (qA .any)).all fun e=>qE e.on x.2) then zey (ancs ops.toList) l' else none)=dd at hc;cases dd with
    |some x=>exact hc
    |none=>cases hc
   split at hc
   ·rcases ze5 hc with⟨_,_,e,_⟩| ⟨_,_,_,_,_,_,_,e,_⟩<;>cases e
   ·cases hc
 |.scope b,hc,h=>by
  rcases zgy hc with⟨hc,_⟩|hc| ⟨_,_,_,_,_,_,hc,_⟩
  ·exact zjo (zke hq b hc h) hq
  ·cases hc
  ·cases hc
 |.seq _ _,hc,_=>by obtain⟨_,_,hc⟩:=aof hc;obtain⟨_,_,hc⟩:=amf hc;cases hc
 |.cond _ _ _,hc,_=>by obtain⟨_,_,hc⟩:=aof hc;obtain⟨_,_,hc⟩:=aof hc;obtain⟨_,_,hc⟩:=amf hc;cases hc
 |.block _ _,hc,_=>by obtain⟨_,_,hc⟩:=amf hc;cases hc
 |.loop _,hc,_=>by obtain⟨_,_,hc⟩:=amf hc;cases hc
 |.rangeFunc _ _ _ _,hc,_=>by
  unfold ze at hc
  split at hc
  ·obtain⟨_,_,hc⟩:=aof hc;obtain⟨_,_,hc⟩:=aof hc;obtain⟨_,_,hc⟩:=amf hc;cases hc
  ·cases hc
 |.skip,hc,_=>by cases hc
 |.exit _,hc,_=>by cases hc
 |.ret,hc,_=>by cases hc
 |.label _,hc,_=>by cases hc
 |.goto _,hc,_=>by cases hc
 |.refuse _,hc,_=>by cases hc
theorem hand_wp {ih:IH} {M:Nat} (hih: ∀t o,ih t=some o→zdF P M t o) {fn:Func} {rs:List CR} (hrs:allO (zba P) fn.results.toList=some rs) {N:Nat} {l:List CI} {L:List (List Bool)} {b:CC} {o:Out} {p p0:Option Value} {s:zb} {h:H} {x:Option Value×zb×H} (hx:zbi l p s h=some x) (hend:handEnd ih rs L b x=some o)
 {c₀:Frame} {cs:List Frame} {ρ:Rho} {a:Act} {w:World} (hN:a.tmps.size=N) (hs:SR ρ s a.tmps) (hr:HR P ρ h w) (hd:a.defers=[]) (hp:POR ρ p p0): ∀(code:Code),ze P N code=some (zA (.seq (.ops l) L b))→
   code.wpSIn qf 0 P (handPost P fn c₀ cs (fun e u w'=>zgU P ρ w o e w'∧u=zcr p0)) a ({c₀ with mode:=zfy p0}::cs) w
 |.seq y z,hc=>by
  obtain⟨cy,hy,hc⟩:=aof hc;obtain⟨cz,hz,e⟩:=amf hc;simp only[zA,CC.seq.injEq,true_and] at e;obtain⟨rfl,rfl⟩:=e;have hrec:RecR ρ p0 p (zfy p0):=by
   cases p with
   |none=>cases p0 with
    |none=>exact .inl ⟨rfl,rfl⟩
    |some _=>exact hp.elim
   |some v=>cases p0 with
    |none=>exact hp.elim
    |some v'=>exact .inr ⟨v,v',rfl,rfl,hp,rfl⟩
  refine wpSIn_seq (zke ?_ y hy fun ops hl=> ?_)
  ·intro l a cs w h;obtain⟨h|h,_⟩:=h<;>cases h
  ·rw[List.range_eq_range'];refine zhr (x:=x) (ρ0:=ρ) (w0:=w) (N:=N) ?_ ops.size 0 l ρ p _ s h a w (by omega) (by simpa using hl) hx hrec hr hs hN hd (.refl _ _);intro σ u1 a1 w1 q1 q2 q3 q4 q5 q6;show z.wpSIn _ _ _ _ _ _ _;obtain⟨px,sx,hhx⟩:=x;cases px with
   |some v=>cases hend
   |none=>
    obtain⟨o1,ho1,hret⟩:=aof (show(ih (.code b (keepA L sx) hhx)).bind (retV rs)=some o from hend);rcases q1 with⟨-,rfl⟩| ⟨v,v',e,_⟩
    ·refine wpSIn_of_wpIn rfl (qI ((hih _ _ ho1 z N hz none σ a1 w1 [] [] (by intro l hl;cases hl) q4 (q2.keep L) q3 (by rw[q5];rfl) ⟨qW,by simp⟩).wpIn) ?_);intro e a2 w2 hpost;obtain⟨τ,Ds,s2,h2,he,hN2,hd2,hD,hds,hs2,hr2,hcase⟩:=hpost.nil_ge;rw[qv] at hd2;have key:ziQ rs s2 h2=some o→Takes P (fun w'=> ∃v,(results fn a2.tmps).run P w'=.ok v w'∧zgU P ρ w o (.returned v) w'∧zcr p0=zcr p0) a2.defers w2:=by
      intro hres;rw[hd2];have main: ∀(Ds:List Nat) (w3:World),zb6 τ w3 Ds→(∀D∈Ds,w.heap.size≤D)→HR P τ h2 w3→Ext ρ w τ w3→Takes P (fun w'=> ∃v,(results fn a2.tmps).run P w'=.ok v w'∧zgU P ρ w o (.returned v) w'∧zcr p0=zcr p0) (Ds.map zB) w3:=by
       intro Ds
       induction Ds with
       |nil=>
        intro w3 g1 g2 g3 g4;obtain⟨v,v',rfl,k1,k2⟩:=zjS hrs g3 hs2 hres;exact⟨v',k1,⟨v,h2,v',τ,rfl,rfl,k2,g3,g4⟩,rfl⟩
       |cons D Ds ih=>
        intro w3 g1 g2 g3 g4;obtain⟨k1,k2,k3⟩:=g1.ok D (by simp);obtain⟨j1,j2⟩:=g3.shut g4 (o:=.deferred none) (zbc _) k3 (zbc _) (g2 D (by simp)) k2;exact⟨D,_,rfl,qY k3,ih _ (g1.tail_put _) (fun D' hD'=>g2 D' (by simp[hD'])) j1 j2⟩
      exact main Ds w2 hD (fun D hm=>qh q6.size (hds D hm)) hr2 (q6.trans he)
     rcases hcase with⟨rfl,rfl⟩| ⟨i,rfl,rfl⟩| ⟨rfl,rfl⟩| ⟨v,v',rfl,_,rfl⟩
     ·exact⟨.inl rfl,zcr p0,rfl,key hret⟩
     ·cases hret
     ·exact⟨.inr rfl,zcr p0,rfl,key hret⟩
     ·cases hret
    ·cases e
 |.scope c,hc=>by
  rcases zgy hc with⟨hc,_⟩|hc| ⟨_,_,_,_,_,_,hc,_⟩
  ·exact zjo (hand_wp hih hrs hx hend hN hs hr hd hp c hc) (by
    intro l a cs w h;obtain⟨h|h,_⟩:=h<;>cases h)
  ·cases hc
  ·cases hc
 |.region id ops d,hc=>by
  obtain⟨l',hl,hc⟩:=aof hc;cases d with
  |false=>cases hc
  |true=>
   have hc:some ((if ops.toList.zipIdx.all (fun x=>(x.1.after.toList.filter (qA .any)).all fun e=>qE e.on x.2) then zey (ancs ops.toList) l' else none).getD zfr)=some (zA (.seq (.ops l) L b)):=hc;have hc:(if ops.toList.zipIdx.all (fun x=>(x.1.after.toList.filter (qA .any)).all fun e=>qE e.on x.2) then zey (ancs ops.toList) l' else none)=some (zA (.seq (.ops l) L b)):=by
    generalize hd:(if ops.toList.zipIdx.all (fun x=>(x.1.after.toList.filter (qA .any)).all fun e=>qE e.on x.2) then zey (ancs ops.toList) l' else none)=dd at hc;cases dd with
    |some x=>exact hc
    |none=>cases hc
   split at hc
   ·rcases ze5 hc with⟨_,_,e,_⟩| ⟨_,_,_,_,_,_,_,e,_⟩<;>cases e
   ·cases hc
 |.cond _ _ _,hc=>by obtain⟨_,_,hc⟩:=aof hc;obtain⟨_,_,hc⟩:=aof hc;obtain⟨_,_,hc⟩:=amf hc;cases hc
 |.block _ _,hc=>by obtain⟨_,_,hc⟩:=amf hc;cases hc
 |.loop _,hc=>by obtain⟨_,_,hc⟩:=amf hc;cases hc
 |.rangeFunc _ _ _ _,hc=>by
  unfold ze at hc
  split at hc
  ·obtain⟨_,_,hc⟩:=aof hc;obtain⟨_,_,hc⟩:=aof hc;obtain⟨_,_,hc⟩:=amf hc;cases hc
  ·cases hc
 |.skip,hc=>by cases hc
 |.exit _,hc=>by cases hc
 |.ret,hc=>by cases hc
 |.label _,hc=>by cases hc
 |.goto _,hc=>by cases hc
 |.refuse _,hc=>by cases hc
theorem hand_sound {ih:IH} {M:Nat} (hih: ∀t o,ih t=some o→zdF P M t o) {g:FuncId} {fn:Func} {cf:za} (hfn:P.funcs[g]? =some fn) (hcf:z6 P fn=some (zfd cf)) {args:List Value} {p p0:Option Value} {h:H} {o:Out} (hv:zfv ih cf args p h=some o)
 {ρ:Rho} {args':Array Value} {w:World} (ra:VRL ρ args args'.toList) (rp:POR ρ p p0) (hr:HR P ρ h w):CallsDIn qf 0 P g args' (zfy p0) w (fun e u w'=>zgU P ρ w o e w'∧u=zcr p0)∧ ∀w,(callFunc g args').run P w=.ok (.enter g args') w:=by
 obtain⟨hname,c,hbody,hcc,hrs,hnt,hnp⟩:=zbL hcf;unfold zfv at hv;rw[hnp] at hv;cases hdf:cf.dfr with
 |some d=>rw[hdf] at hv;cases hv
 |none=>
  rw[hdf] at hv hcc;dsimp only at hv
  split at hv
  ·rename_i hle;have hle':args'.size≤fn.ntmps:=by
    have:=qC hle;rw[hnt,ra.1] at this;simpa using this
   have hcc:=zc6 hcc;generalize hbd:cf.body=bd at hv hcc;unfold zi8 at hv
   split at hv
   ·rename_i l L b;obtain⟨x,hx,hend⟩:=aof hv;refine⟨zk5 hfn hbody trivial fun c₀ cs hu=> ?_,fun w=> ?_⟩
    ·have:=hand_wp hih hrs hx hend (c₀:=c₀) (cs:=cs) (a:={tmps:=args'++Array.replicate (fn.ntmps - args'.size) undef,defers:=[]}) (N:=fn.ntmps) (w:=w) (by simp;omega) (args_SR ra _) hr rfl rp c hcc;have e:({c₀ with mode:=zfy p0}:Frame)=c₀:=by rw[←hu]
     rw[e] at this;exact this
    ·have hne: ¬fn.name= "runtime.NumGoroutine" :=by simpa using hname
     simp[callFunc,hfn,hne,hbody]
   ·cases hv
  ·cases hv
structure Same (W W':World):Prop where
 os:W'.os=W.os
 out:W'.output=W.output
 heap: ∀B:Nat,B<W.heap.size→W'.heap[B]? =W.heap[B]?
 froz: ∀a:Addr,a.block<W.heap.size→W'.frozen? a=W.frozen? a
 td:W'.tape=W.tape∧W.drawn≤W'.drawn
 size:W.heap.size≤W'.heap.size
def zh6 (b:Bool):za:=⟨0,[.tmp (bits 0)],.ops [⟨some (bits 0),.mv (.c (.bool b)),none,0⟩],none,none⟩
def primP (p:List Value→H→Option (Value×H)):za:=⟨0,[],.exit 0,none,some p⟩
def zkV (p:List Value→H→Option (Value×H)) (cf:za):za:={cf with prim:=some p}
def PrimOk (P:Program) (g:FuncId) (p:List Value→H→Option (Value×H)):Prop:=
 (∀args w,(callFunc g args).run P w=.ok (.enter g args) w)∧
 ∀args h v h',p args h=some (v,h')→ ∀ρ (args':Array Value) w,VRL ρ args args'.toList→HR P ρ h w→Calls P g args' w (zgU P ρ w (.val v h'))
def FnOk (P:Program) (g:FuncId) (cf:za):Prop:=
 (∃fn,P.funcs[g]? =some fn∧z6 P fn=some (zfd cf))∨
 (∃fn cf0 b,P.funcs[g]? =some fn∧z6 P fn=some (zfd cf0)∧cf=zh6 b∧ ∀w,Calls P g #[] w fun e w'=>e=.returned (.bool b)∧Same w w')∨
 (∃p,cf=primP p∧PrimOk P g p)∨
 ∃p fn cf0,cf=zkV p cf0∧PrimOk P g p∧P.funcs[g]? =some fn∧z6 P fn=some (zfd cf0)
theorem Same.HR {ρ:Rho} {h:H} {w w':World} (hs:Same w w') (hr:HR P ρ h w):HR P ρ h w' where
 obj:=fun i R o hi ho=>by
  have:=hr.obj i R o hi ho;have hb:=hs.heap R.blk (hr.blk i R hi);cases o<;>simp only[OR,hb] at this⊢ <;>exact this
 nxt:=hr.nxt
 sep:=hr.sep
 glb:=hr.glb
 blk:=fun i R hi=>qby (hr.blk i R hi) hs.size
theorem Same.ext {ρ:Rho} {w w':World} (hs:Same w w'):Ext ρ w ρ w' where
 le:=fun _ _ h=>h
 size:=hs.size
 fresh:=fun i R h=>.inl ⟨i,R,h,rfl⟩
 frame:=fun B hB _=>hs.heap B hB
 loops:=fun B r hr=>⟨r,by rw[hs.heap B (qbg.1 hr).1];exact hr,rfl⟩
 os:=hs.os
 out:=hs.out
 froz:=hs.froz
 td:=hs.td
theorem call_sound {F:FuncId→Option za} (hF: ∀g cf,F g=some cf→FnOk P g cf) {ih:IH} (hdec: ∀c s h o,ih (.code c s h)=some o→zbI c ih s h=some o) (hprim: ∀b s h o,ih (.code (zh6 b).body s h)=some o→o=.nrm (s.set (bits 0) (.bool b)) h) {M:Nat} (hih: ∀t o,ih t=some o→zdF P M t o) {f:Value} {args:List Value} {h:H} {o:Out} (hv:zcw F ih args h f=some o):
 zdF P (M+1) (.call f args h) o:=by
 intro ρ f' args' w rf ra hr;unfold zcw at hv
 split at hv
 ·rename_i g first captured
  obtain⟨cf,hcf,hv⟩:=aof hv;obtain⟨first',captured',rfl⟩: ∃x y,f'=.func (.func g) x y:=by cases rf;exact⟨_,_,rfl⟩
  obtain⟨r1,r2⟩:=VRL.of_func rf;have rall:VRL ρ (first.toList++args++captured.toList) (first'++args'++captured').toList:=by simpa using(r1.append ra).append r2
  have pri: ∀{p:List Value→H→Option (Value×H)} {x:Value×H},PrimOk P g p→p (first.toList++args++captured.toList) h=some x→zh5 h x=some o→CallsIn qf 0 P g (first'++args'++captured') w (zhN P ρ w o)∧ ∀w,(callFunc g (first'++args'++captured')).run P w=.ok (.enter g (first'++args'++captured')) w:=by
   intro p x ⟨hent,hpk⟩ hp ho;unfold zh5 at ho
   split at ho
   ·cases ho;obtain⟨v,h'⟩:=x;exact⟨qbz.2 ((hpk _ _ _ _ hp ρ _ w rall hr).mono fun e w' h=>.inl h),hent _⟩
   ·cases ho
  rcases hF g cf hcf with⟨fn,hfn,hcomp⟩| ⟨fn,cf0,b,hfn,hcomp,rfl,hcalls⟩| ⟨p,rfl,hpr⟩| ⟨p,fn,cf0,rfl,hpr,hfn,hcomp⟩
  ·unfold zeQ at hv;rw[(zbL hcomp).2.choose_spec.2.2.2.2] at hv;exact zlw hih hdec hfn hcomp hv rall hr
  ·unfold zeQ at hv;have hv:(if Nat.ble (first.toList++args++captured.toList).length (zh6 b).ntmps then(ih (.code (zh6 b).body (zcy (first.toList++args++captured.toList) 0 .nil) h)).bind (retK (zh6 b).results) else none)=some o:=hv
   split at hv
   ·rename_i hle;have hnil:(first.toList++args++captured.toList)=[]:=qK (by simpa[zh6] using qC hle);obtain⟨o1,ho1,hret⟩:=aof hv;obtain rfl:=hprim _ _ _ _ ho1;have harr:first'++args'++captured'= #[]:=by
     have:=rall.1;rw[hnil] at this;exact Array.eq_empty_of_size_eq_zero (by rw[←qR,←this];rfl)
    have ho:o=.val (.bool b) h:=by
     have e:ziQ [.tmp (bits 0)] ((zcy (first.toList++args++captured.toList) 0 .nil).set (bits 0) (.bool b)) h=some o:=hret;rw[hnil] at e;exact(qm e).symm
    subst ho;show CallsIn _ _ _ _ (first'++args'++captured') _ _∧_;rw[harr];refine⟨qbz.2 ((hcalls w).mono ?_),fun w=> ?_⟩
    ·rintro e w' ⟨rfl,hs⟩;exact .inl ⟨_,_,_,ρ,rfl,rfl,.bool _,hs.HR hr,hs.ext⟩
    ·obtain⟨hname,c,hbody,hcc,hrs,hnt,-⟩:=zbL hcomp;have hne: ¬fn.name= "runtime.NumGoroutine" :=by simpa using hname
     simp[callFunc,hfn,hne,hbody]
   ·cases hv
  ·unfold zeQ at hv;have hv:(match p (first.toList++args++captured.toList) h with|some x=>zh5 h x|none=>zbW ih (primP p) (first.toList++args++captured.toList) h)=some o:=hv
   split at hv
   ·rename_i x hp;exact pri hpr hp hv
   ·unfold zbW at hv
    split at hv
    ·obtain⟨o1,h1,h2⟩:=aof hv;have:=hdec _ _ _ _ h1;have e:o1=.exit 0 (zcy (first.toList++args++captured.toList) 0 .nil) h:=(qm this).symm;subst e;cases h2
    ·cases hv
  ·unfold zeQ at hv;have hv:(match p (first.toList++args++captured.toList) h with|some x=>zh5 h x|none=>zbW ih cf0 (first.toList++args++captured.toList) h)=some o:=hv
   split at hv
   ·rename_i x hp;exact pri hpr hp hv
   ·exact zlw hih hdec hfn hcomp hv rall hr
 ·rename_i l first captured
  split at hv
  ·obtain⟨lo,hlo,hv⟩:=aof hv;obtain⟨R,hR,rfl⟩: ∃R,ρ l=some R∧f'=.func (.yield R.blk) #[] #[]:=by cases rf with|yield h=>exact⟨_,h,rfl⟩
   exact round_sound hih hlo hv hR ra hr
  ·cases hv
 ·cases hv
theorem hand_task {F:FuncId→Option za} (hF: ∀g cf,F g=some cf→FnOk P g cf) {ih:IH} {M:Nat} (hih: ∀t o,ih t=some o→zdF P M t o) {f:Value} {args:List Value} {p:Option Value} {h:H} {o:Out} (hv:zct F ih args p h f=some o):
 zdF P (M+1) (.hand f args p h) o:=by
 intro ρ f' args' p' w rf ra rp hr;unfold zct at hv
 split at hv
 ·rename_i g first captured
  obtain⟨cf,hcf,hv⟩:=aof hv;obtain⟨first',captured',rfl⟩: ∃x y,f'=.func (.func g) x y:=by cases rf;exact⟨_,_,rfl⟩
  obtain⟨r1,r2⟩:=VRL.of_func rf;have rall:VRL ρ (first.toList++args++captured.toList) (first'++args'++captured').toList:=by simpa using(r1.append ra).append r2
  rcases hF g cf hcf with⟨fn,hfn,hcomp⟩| ⟨fn,cf0,b,hfn,hcomp,rfl,hcalls⟩| ⟨p,rfl,hpr⟩| ⟨p,fn,cf0,rfl,hpr,hfn,hcomp⟩
  ·exact hand_sound hih hfn hcomp hv rall rp hr
  ·exfalso;unfold zfv zh6 at hv;dsimp only at hv
   split at hv
   ·cases hv
   ·cases hv
  ·cases hv
  ·cases hv
 ·cases hv
end
section
variable {P:Program}
theorem zjN {ih:IH} (hnx: ∀t o,ih t=some o→zgC t≤zbG o): ∀{l:List CI} {s:zb} {h:H} {o:Out},zcO ih l s h=some o→h.next≤zbG o
 | [],s,h,o,hv=>by rw[zli] at hv;cases hv;exact qe _
 |c::l,s,h,o,hv=>by
  rw[zdk] at hv;obtain⟨y,hstep,hrest⟩:=aof hv;obtain⟨b,hb,hstep⟩:=aof hstep;have h1:h.next≤zbG y:=by
   cases b with
   |true=>exact zlF hnx hstep
   |false=>cases hstep;exact qe _
  refine qh h1 ?_;cases y with
  |val v g=>exact zjN hnx (show zcO ih l _ _=some o from hrest)
  |pan _ _ _=>cases hrest;exact qe _
  |nrm _ _=>cases hrest
  |exit _ _ _=>cases hrest
  |ret _ _=>cases hrest
theorem zdX {ih:IH} (hnx: ∀t o,ih t=some o→zgC t≤zbG o): ∀{l:List CI} {bs:List (Nat×H)} {s:zb} {h:H} {s':zb} {h':H},zx ih l bs s h=some (s',h')→h.next≤h'.next
 | [],bs,s,h,s',h',hv=>by rw[zkt] at hv;cases hv;exact qe _
 |o::l,bs,s,h,s',h',hv=>by
  rw[zbe] at hv;obtain⟨⟨v,h1,bs1⟩,hstep,hrest⟩:=aof hv;obtain⟨b,hb,hstep⟩:=aof hstep;refine qh ?_ (zdX hnx hrest);cases b with
  |true=>
   simp only[zcX] at hstep
   split at hstep
   ·obtain⟨x,hx,e⟩:=amf hstep;cases e;exact doOp_next hnx hx
   ·split at hstep
    ·cases bs with
     |nil=>cases hstep
     |cons b0 bs=>
      unfold zlE at hstep;dsimp only at hstep
      split at hstep
      ·obtain⟨y,hy,e⟩:=amf hstep;cases e;exact qe _
      obtain⟨y,hy,hstep⟩:=aof hstep
      split at hstep
      ·cases hstep;exact qe _
      ·cases hstep
    ·obtain⟨x,hx,e⟩:=amf hstep;cases e;exact zhe hx
  |false=>cases hstep;exact qe _
theorem thenK_next {ih:IH} (hnx: ∀t o,ih t=some o→zgC t≤zbG o) {L:List (List Bool)} {b:CC} {o o':Out} (h:thenK ih L b o=some o'):zbG o≤zbG o':=by
 cases o with
 |nrm s h1=>exact hnx _ _ h
 |exit _ _ _=>cases h;exact qe _
 |ret _ _=>cases h;exact qe _
 |val _ _=>cases h;exact qe _
 |pan _ _ _=>cases h;exact qe _
theorem loopK_next {ih:IH} (hnx: ∀t o,ih t=some o→zgC t≤zbG o) {L:List (List Bool)} {b:CC} {o o':Out} (h:loopK ih L b o=some o'):zbG o≤zbG o':=by
 cases o with
 |nrm s h1=>exact hnx _ _ h
 |exit _ _ _=>cases h;exact qe _
 |ret _ _=>cases h;exact qe _
 |val _ _=>cases h;exact qe _
 |pan _ _ _=>cases h;exact qe _
theorem zec {rs:List CR} {s:zb} {h:H} {o:Out} (ho:ziQ rs s h=some o):zbG o=h.next:=by
 obtain⟨vs,hvs,rfl⟩:=amf ho;rfl
theorem zlm {s:zb} {h:H} {p:Option CC} {o:Out} (ho:pendK s h p=some o):zbG o=h.next:=by
 unfold pendK at ho
 split at ho<;>cases ho<;>rfl
theorem codeStep_next {ih:IH} (hnx: ∀t o,ih t=some o→zgC t≤zbG o) {c:CC} {s:zb} {h:H} {o:Out} (hv:zbI c ih s h=some o):h.next≤zbG o:=by
 cases c with
 |skip=>cases hv;exact qe _
 |ops l=>exact zjN hnx (show zcO ih l s h=some o from hv)
 |draw l=>
  have hv:(match zx ih l [(0,h)] s h with
   |some x=>some (nrmOf x)
   |none=>zfQ ih l [(0,h)] s h)=some o:=hv
  cases hx:zx ih l [(0,h)] s h with
  |some x=>rw[hx] at hv;cases hv;exact zdX hnx hx
  |none=>
   rw[hx] at hv;obtain⟨n,c,s1,h1,K⟩:=zim l _ s h o 0 h [] rfl (show zfQ ih l [(0,h)] s h=some o from hv);exact qh (zdX hnx K.pre) (zlF hnx K.pan)
 |draw2 l x y=>
  obtain⟨⟨s',h'⟩,hr,hv⟩:=aof hv;obtain⟨g,hg,e⟩:=amf hv;subst e;obtain⟨_,_,_,_,_,_,_,_,n2⟩:=zjA hg;have:=zdX hnx hr;show h.next≤g.next;rw[n2];exact this
 |seq a L b=>obtain⟨o1,h1,h2⟩:=aof hv;exact qh (hnx _ _ h1) (thenK_next hnx h2)
 |cond x a b=>obtain⟨u,hu,hv⟩:=aof hv;obtain⟨y,hy,hv⟩:=aof hv;exact hnx _ _ hv
 |block i b=>
  obtain⟨o1,h1,e⟩:=amf hv;have:=hnx _ _ h1;subst e;cases o1 with
  |exit j s' h'=>
   simp only[zkC]
   split<;>exact this
  |nrm _ _=>exact this
  |ret _ _=>exact this
  |val _ _=>exact this
  |pan _ _ _=>exact this
 |loop L b=>obtain⟨o1,h1,h2⟩:=aof hv;exact qh (hnx _ _ h1) (loopK_next hnx h2)
 |rangeFunc rid L f ps as b=>
  obtain⟨u,hu,hv⟩:=aof hv;obtain⟨g,hg,hv⟩:=aof hv;obtain⟨o1,ho1,hv⟩:=aof hv;obtain⟨⟨v1,h1⟩,hval,hv⟩:=aof hv;obtain⟨lo,hlo,hv⟩:=aof hv;have h2:=hnx _ _ ho1;cases o1 with
  |val v0 g0=>
   simp only[zhR,qbC,qX] at hval;obtain⟨-,rfl⟩:=hval;have h3:h.next+1≤g0.next:=h2;have:zbG o=g0.next:=by
    unfold zg9 at hv
    split at hv
    ·have:=zlm hv;exact this
    ·have:=zlm hv;exact this
    ·cases hv
   omega
  |nrm _ _=>cases hval
  |exit _ _ _=>cases hval
  |ret _ _=>cases hval
  |pan _ _ _=>cases hval
 |exit i=>cases hv;exact qe _
 |ret=>cases hv;exact qe _
 |scope b l1 r1 l2 r2=>exact hnx (.scope b l1 r1 l2 r2 s h) _ hv
theorem finRound_next {l:Nat} {o o':Out} (h:finRound l o=some o'):zbG o=zbG o':=by
 have fin: ∀{p:Option CC} {g:H} {lo:IObj},zlz l p g lo=some o'→g.next=zbG o':=by
  intro p g lo hf;cases lo with
  |loop _ _ _ _=>cases hf;rfl
  |cells _ _=>cases hf
  |map _ _=>cases hf
  |dead=>cases hf
  |glob _ _=>cases hf
 cases o with
 |nrm s g=>obtain⟨lo,-,hf⟩:=aof h;exact fin hf
 |exit i s g=>obtain⟨lo,-,hf⟩:=aof h;exact fin hf
 |ret s g=>obtain⟨lo,-,hf⟩:=aof h;exact fin hf
 |val _ _=>cases h
 |pan _ _ _=>cases h
theorem zh1 {rs:List CR} {s:zb} {o x:Out} (h:resK1 rs s o=some x):zbG x=zbG o:=by
 cases o with
 |val v g=>exact zec h
 |nrm _ _=>cases h
 |exit _ _ _=>cases h
 |ret _ _=>cases h
 |pan _ _ _=>cases h
theorem doneK_next {ih:IH} (hnx: ∀t o,ih t=some o→zgC t≤zbG o) {f:Value} {args:List Value} {rs:List CR} {o x:Out} (hv:doneK ih f args rs o=some x):zbG o≤zbG x:=by
 cases o with
 |nrm s h=>obtain⟨o1,h1,h2⟩:=aof hv;rw[zh1 h2];exact hnx _ _ h1
 |ret s h=>obtain⟨o1,h1,h2⟩:=aof hv;rw[zh1 h2];exact hnx _ _ h1
 |pan v s h=>obtain⟨o1,h1,h2⟩:=aof hv;rw[zh1 h2];exact hnx _ _ h1
 |exit _ _ _=>cases hv
 |val _ _=>cases hv
theorem bodyK_next {ih:IH} (hnx: ∀t o,ih t=some o→zgC t≤zbG o) {rs:List CR} {d:Option Dfr} {o x:Out} (hv:bodyK ih rs d o=some x):zbG o≤zbG x:=by
 cases d with
 |none=>
  cases o with
  |nrm s g=>exact Nat.le_of_eq (zec hv).symm
  |ret s g=>exact Nat.le_of_eq (zec hv).symm
  |pan v s g=>cases hv;exact qe _
  |exit _ _ _=>cases hv
  |val _ _=>cases hv
 |some d=>
  cases o with
  |nrm s h=>
   obtain⟨f,h1,hv⟩:=aof (show(d.f.ev s).bind _=some x from hv);obtain⟨f',h2,hv⟩:=aof hv;obtain⟨l,h3,hv⟩:=aof hv;obtain⟨o1,h4,hv⟩:=aof hv;exact qh (hnx _ _ h4) (doneK_next hnx hv)
  |pan _ _ _=>cases hv;exact qe _
  |ret _ _=>cases hv
  |exit _ _ _=>cases hv
  |val _ _=>cases hv
theorem zdT: ∀{l:List CI} {p:Option Value} {s:zb} {h:H} {x:Option Value×zb×H},zbi l p s h=some x→h.next≤x.2.2.next
 | [],p,s,h,x,hv=>by rw[zkf] at hv;cases hv;exact qe _
 |o::l,p,s,h,x,hv=>by
  rw[ziC] at hv;obtain⟨b,hb,hv⟩:=aof hv;cases b with
  |true=>
   have hv:zen o (zbi l) p s h=some x:=hv;unfold zen at hv
   split at hv
   ·exact zdT hv
   ·obtain⟨y,hy,hv⟩:=aof hv;exact qh (zhe hy) (zdT hv)
  |false=>exact zdT (show zbi l p _ h=some x from hv)
theorem handStep_next {F:FuncId→Option za} {ih:IH} (hnx: ∀t o,ih t=some o→zgC t≤zbG o) {f:Value} {args:List Value} {p:Option Value} {h:H} {o:Out} (hv:zct F ih args p h f=some o):h.next≤zbG o:=by
 unfold zct at hv
 split at hv
 ·obtain⟨cf,hcf,hv⟩:=aof hv;unfold zfv at hv
  split at hv
  ·split at hv
   ·unfold zi8 at hv
    split at hv
    ·rename_i l L b hbd;obtain⟨⟨px,sx,gx⟩,hx,hv⟩:=aof hv;cases px with
     |some _=>cases hv
     |none=>
      obtain⟨o1,h1,hv⟩:=aof (show(ih (.code b (keepA L sx) gx)).bind _=some o from hv);have h2:=zdT hx;have h3:=hnx _ _ h1;cases o1 with
      |nrm s g=>rw[zec hv];exact qh h2 h3
      |ret s g=>rw[zec hv];exact qh h2 h3
      |exit _ _ _=>cases hv
      |val _ _=>cases hv
      |pan _ _ _=>cases hv
    ·cases hv
   ·cases hv
  ·cases hv
 ·cases hv
theorem callStep_next {F:FuncId→Option za} {ih:IH} (hnx: ∀t o,ih t=some o→zgC t≤zbG o) {f:Value} {args:List Value} {h:H} {o:Out} (hv:zcw F ih args h f=some o):h.next≤zbG o:=by
 unfold zcw at hv
 split at hv
 ·obtain⟨cf,hcf,hv⟩:=aof hv;have wk: ∀l,zbW ih cf l h=some o→h.next≤zbG o:=by
   intro l hv;unfold zbW at hv
   split at hv
   ·obtain⟨o1,ho1,hret⟩:=aof hv;exact qh (hnx _ _ ho1) (bodyK_next hnx hret)
   ·cases hv
  unfold zeQ at hv
  split at hv
  ·exact wk _ hv
  ·split at hv
   ·unfold zh5 at hv
    split at hv
    ·rename_i hle;cases hv;exact qC hle
    ·cases hv
   ·exact wk _ hv
 ·split at hv
  ·obtain⟨lo,hlo,hv⟩:=aof hv;cases lo with
   |loop st pend sl rc=>
    obtain⟨s0,hs0,hv⟩:=aof hv;obtain⟨o1,ho1,hv⟩:=aof hv;have h1:=hnx _ _ ho1;cases o1 with
    |nrm s g=>
     obtain⟨lo1,hlo1,hv⟩:=aof hv;cases lo1 with
     |loop st1 pend1 sl1 rc1=>
      cases st1<;>simp only[zg4,reduceCtorEq] at hv;obtain⟨o2,ho2,hfin⟩:=aof hv;have h2:=hnx _ _ ho2;rw[←finRound_next hfin];exact qh h1 h2
     |cells _ _=>cases hv
     |map _ _=>cases hv
     |dead=>cases hv
     |glob _ _=>cases hv
    |exit _ _ _=>cases hv
    |ret _ _=>cases hv
    |val _ _=>cases hv
    |pan _ _ _=>cases hv
   |cells _ _=>cases hv
   |map _ _=>cases hv
   |dead=>cases hv
   |glob _ _=>cases hv
  ·cases hv
 ·cases hv
theorem zkP {F:FuncId→Option za}: ∀(n:Nat) (t:Task) (o:Out),E F n t=some o→zgC t≤zbG o
 |0,t,o,h=>by cases h
 |n+1,t,o,h=>by
  cases t with
  |code c s g=>exact codeStep_next (zkP n) (show zbI c (E F n) s g=some o from h)
  |call f args g=>exact callStep_next (zkP n) (show zcw F (E F n) args g f=some o from h)
  |hand f args p g=>exact handStep_next (zkP n) (show zct F (E F n) args p g f=some o from h)
  |scope b l1 r1 l2 r2 s g=>
   obtain⟨o1,h1,h2⟩:=aof (show zdj (E F n) b l1 r1 l2 r2 s g=some o from h);have h3:=zkP n _ _ h1;cases o1 with
   |exit i s' g'=>
    have h2:zdi (E F n) l1 r1 l2 r2 i s' g'=some o:=h2;unfold zdi at h2;refine qh h3 ?_
    split at h2
    ·exact zkP n _ _ h2
    ·split at h2
     ·exact zkP n _ _ h2
     ·cases h2;exact qe _
   |nrm _ _=>cases h2;exact h3
   |ret _ _=>cases h2;exact h3
   |val _ _=>cases h2;exact h3
   |pan _ _ _=>cases h2;exact h3
section
theorem zgx {ih:IH} {c:CC} {s:zb} {h:H} (hc:zfr=zA c):zbI c ih s h=none:=by
 obtain⟨a,b,rfl,-,-⟩:=zlb hc;rfl
theorem zgt {ih:IH} {M:Nat} (hih: ∀t o,ih t=some o→zdF P M t o) (hmix:P.follows .mixedOrders=true) (hnx: ∀t o,ih t=some o→zgC t≤zbG o): ∀(code:Code) (c:CC) (N:Nat),ze P N code=some (zA c)→ ∀(s:zb) (h:H) (o:Out),zbI c ih s h=some o→
 ∀(r:Option Nat) (ρ:Rho) (a:Act) (w:World) (Ds:List Nat) (Db:List Deferred),zfb r w→a.tmps.size=N→SR ρ s a.tmps→HR P ρ h w→a.defers=Ds.map zB++Db→zb6 ρ w Ds→CodeOk P (M+1) r (zc7 P ρ w N Ds Db o) a w code
 |.skip,c,N,hc,s,h,o,hv,r,ρ,a,w,Ds,Db,hR,hN,hs,hr,hd,hD=>by
  obtain rfl:=zk9 (qm hc);cases hv;exact wpIn_skip ⟨ρ,Ds,s,h,.refl _ _,hN,hd,⟨hD,fun D h=>.inl h⟩,hs,hr,.inl ⟨rfl,rfl⟩⟩
 |.label l,c,N,hc,s,h,o,hv,r,ρ,a,w,Ds,Db,hR,hN,hs,hr,hd,hD=>by
  obtain rfl:=zk9 (qm hc);cases hv;exact wpIn_label ⟨ρ,Ds,s,h,.refl _ _,hN,hd,⟨hD,fun D h=>.inl h⟩,hs,hr,.inl ⟨rfl,rfl⟩⟩
 |.exit i,c,N,hc,s,h,o,hv,r,ρ,a,w,Ds,Db,hR,hN,hs,hr,hd,hD=>by
  obtain rfl:=zla (qm hc);cases hv;exact wpIn_exit ⟨ρ,Ds,s,h,.refl _ _,hN,hd,⟨hD,fun D h=>.inl h⟩,hs,hr,.inr (.inl ⟨_,rfl,(zcu i).symm⟩)⟩
 |.ret,c,N,hc,s,h,o,hv,r,ρ,a,w,Ds,Db,hR,hN,hs,hr,hd,hD=>by
  obtain rfl:=strip_ret (qm hc);cases hv;exact wpIn_ret ⟨ρ,Ds,s,h,.refl _ _,hN,hd,⟨hD,fun D h=>.inl h⟩,hs,hr,.inr (.inr (.inl ⟨rfl,rfl⟩))⟩
 |.goto l,c,N,hc,s,h,o,hv,r,ρ,a,w,Ds,Db,hR,hN,hs,hr,hd,hD=>by
  obtain rfl:=zla (qm hc);cases hv;exact wpIn_goto ⟨ρ,Ds,s,h,.refl _ _,hN,hd,⟨hD,fun D h=>.inl h⟩,hs,hr,.inr (.inl ⟨_,rfl,(zcU l).symm⟩)⟩
 |.refuse l,c,N,hc,s,h,o,hv,_,_,_,_,_,_,_,_,_,_,_,_=>by rw[zgx (qm hc)] at hv;cases hv
 |.scope b,c,N,hc,s,h,o,hv,r,ρ,a,w,Ds,Db,hR,hN,hs,hr,hd,hD=>by
  rcases zgy hc with⟨hc,hl⟩|hc| ⟨cb,l1,r1,l2,r2,hb,hc,⟨s1,f1,g1⟩,⟨s2,f2,g2⟩,f3⟩
  ·exact wpIn_scope (zgt hih hmix hnx b c N hc s h o hv r ρ a w Ds Db hR hN hs hr hd hD).wpIn hl
  ·rw[zgx hc.symm] at hv;cases hv
  ·obtain⟨b',r1',r2',rfl,rfl,rfl,rfl⟩:=strip_scope hc.symm;exact wpIn_inScope (hih _ _ (show ih (.scope b' l1 r1' l2 r2' s h)=some o from hv) b b N hb ⟨⟨s1,f1,g1⟩,⟨s2,f2,g2⟩,f3⟩ r ρ a w Ds Db hR hN hs hr hd hD)
 |.region id ops d,c,N,hc,s,h,o,hv,r,ρ,a,w,Ds,Db,hR,hN,hs,hr,hd,hD=>by
  obtain⟨l,hl,hc⟩:=aof hc;cases d with
  |false=>
   obtain rfl:=zjy (qm hc);exact wpIn_region (ops_wpIn hih r hl (show zcO ih l s h=some o from hv) hr hs hN hd hD)
  |true=>
   have hc:some ((if ops.toList.zipIdx.all (fun x=>(x.1.after.toList.filter (qA .any)).all fun e=>qE e.on x.2) then zey (ancs ops.toList) l else none).getD zfr)=some (zA c):=hc;have hc:(if ops.toList.zipIdx.all (fun x=>(x.1.after.toList.filter (qA .any)).all fun e=>qE e.on x.2) then zey (ancs ops.toList) l else none)=some (zA c):=by
    generalize hd:(if ops.toList.zipIdx.all (fun x=>(x.1.after.toList.filter (qA .any)).all fun e=>qE e.on x.2) then zey (ancs ops.toList) l else none)=dd at hc;cases dd with
    |some x=>exact hc
    |none=>rw[zgx (qm hc)] at hv;cases hv
   split at hc
   ·rename_i hbk;have e:zA c=c:=by
     rcases ze5 hc with⟨l',order,e,-⟩| ⟨l',order,x,y,c',d,rest,e,-⟩
     ·rw[strip_draw e.symm];rfl
     ·rw[strip_draw2 e.symm];rfl
    rw[e] at hc;exact draw_sound hmix hih hnx hl hbk hc hv hN hs hr hd hD
   ·cases hc
 |.seq x y,c,N,hc,s,h,o,hv,r,ρ,a,w,Ds,Db,hR,hN,hs,hr,hd,hD=>by
  obtain⟨cx,hx,hc⟩:=aof hc;obtain⟨cy,hy,hc⟩:=amf hc;obtain⟨ca,L,cb,rfl,rfl,rfl⟩:=zjx hc;obtain⟨o1,h1,h2⟩:=aof hv;refine wpIn_seq (qI ((hih _ _ h1 x N hx r ρ a w Ds Db hR hN hs hr hd hD).wpIn) ?_);rintro e a1 w1 ⟨σ,Ds1,s1,hh1,he,hN1,hd1,⟨hD1,hds1⟩,hs1,hr1,hcase⟩;rcases hcase with⟨rfl,rfl⟩| ⟨i,rfl,rfl⟩| ⟨rfl,rfl⟩| ⟨pv,pv',rfl,hpv,rfl⟩
  ·exact qI ((hih _ _ h2 y N hy r σ a1 w1 Ds1 Db (hR.ext he) hN1 (hs1.keep L) hr1 hd1 hD1).wpIn) (fun e a2 w2 h=>h.ext he hds1)
  ·cases h2;have hp:zc7 P ρ w N Ds Db (.exit i s1 hh1) (exOf i) a1 w1:=⟨σ,Ds1,s1,hh1,he,hN1,hd1,⟨hD1,hds1⟩,hs1,hr1,.inr (.inl ⟨i,rfl,rfl⟩)⟩;rcases zf7 i with⟨j,rfl⟩| ⟨l,rfl⟩
   ·rw[zcu] at hp⊢;exact hp
   ·rw[zcU] at hp⊢;exact hp
  ·cases h2;exact⟨σ,Ds1,s1,hh1,he,hN1,hd1,⟨hD1,hds1⟩,hs1,hr1,.inr (.inr (.inl ⟨rfl,rfl⟩))⟩
  ·cases h2;exact⟨σ,Ds1,s1,hh1,he,hN1,hd1,⟨hD1,hds1⟩,hs1,hr1,.inr (.inr (.inr ⟨pv,pv',rfl,hpv,rfl⟩))⟩
 |.cond x y z,c,N,hc,s,h,o,hv,r,ρ,a,w,Ds,Db,hR,hN,hs,hr,hd,hD=>by
  obtain⟨cx,hx,hc⟩:=aof hc;obtain⟨cy,hy,hc⟩:=aof hc;obtain⟨cz,hz,hc⟩:=amf hc;obtain⟨ca,cb,rfl,rfl,rfl⟩:=zlb hc;obtain⟨u,hu,hv⟩:=aof hv;obtain⟨cc,hcc,hv⟩:=aof hv;have hxv:=zbb hx hs hu;unfold condV at hcc
  split at hcc
  ·cases hcc;exact wpIn_cond_true hxv.inv_bool ((hih _ _ hv y N hy r ρ a w Ds Db hR hN hs hr hd hD).wpIn)
  ·cases hcc;exact wpIn_cond_false hxv.inv_bool ((hih _ _ hv z N hz r ρ a w Ds Db hR hN hs hr hd hD).wpIn)
  ·cases hcc
 |.block id b,c,N,hc,s,h,o,hv,r,ρ,a,w,Ds,Db,hR,hN,hs,hr,hd,hD=>by
  obtain⟨cb,hb,hc⟩:=amf hc;obtain⟨ca,rfl,rfl⟩:=strip_block hc;obtain⟨o1,h1,rfl⟩:=amf hv;refine wpIn_block (qI ((hih _ _ h1 b N hb r ρ a w Ds Db hR hN hs hr hd hD).wpIn) ?_);rintro e a1 w1 ⟨σ,Ds1,s1,hh1,he,hN1,hd1,⟨hD1,hds1⟩,hs1,hr1,hcase⟩;rcases hcase with⟨rfl,rfl⟩| ⟨i,rfl,rfl⟩| ⟨rfl,rfl⟩| ⟨pv,pv',rfl,hpv,rfl⟩
  ·exact⟨σ,Ds1,s1,hh1,he,hN1,hd1,⟨hD1,hds1⟩,hs1,hr1,.inl ⟨rfl,rfl⟩⟩
  ·by_cases hid:i=2*id
   ·subst hid;rw[zcu];simp only[Exit.inBlock,if_true,zkC,qG];exact⟨σ,Ds1,s1,hh1,he,hN1,hd1,⟨hD1,hds1⟩,hs1,hr1,.inl ⟨rfl,rfl⟩⟩
   ·have:qo i (2*id)=false:=by
     cases h:qo i (2*id) with
     |false=>rfl
     |true=>exact absurd (qg h) hid
    have hp:zc7 P ρ w N Ds Db (zkC (2*id) (.exit i s1 hh1)) (exOf i) a1 w1:=⟨σ,Ds1,s1,hh1,he,hN1,hd1,⟨hD1,hds1⟩,hs1,hr1,.inr (.inl ⟨i,by simp only[zkC,this],rfl⟩)⟩;rcases zf7 i with⟨j,rfl⟩| ⟨l,rfl⟩
    ·rw[zcu] at hp⊢;simp only[Exit.inBlock,if_neg (show¬j=id by omega)];exact hp
    ·rw[zcU] at hp⊢;exact hp
  ·exact⟨σ,Ds1,s1,hh1,he,hN1,hd1,⟨hD1,hds1⟩,hs1,hr1,.inr (.inr (.inl ⟨rfl,rfl⟩))⟩
  ·exact⟨σ,Ds1,s1,hh1,he,hN1,hd1,⟨hD1,hds1⟩,hs1,hr1,.inr (.inr (.inr ⟨pv,pv',rfl,hpv,rfl⟩))⟩
 |.loop b,c,N,hc,s,h,o,hv,r,ρ,a,w,Ds,Db,hR,hN,hs,hr,hd,hD=>by
  obtain⟨cb,hb,hc⟩:=amf hc;obtain⟨L,ca,rfl,rfl⟩:=strip_loop hc;obtain⟨o1,h1,h2⟩:=aof hv;show Code.roundsIn (Wf r) 0 P b _ (M+1) a w;rw[roundsIn_succ];refine qI ((hih _ _ h1 b N hb r ρ a w Ds Db hR hN (hs.keep L) hr hd hD).wpIn) ?_;rintro e a1 w1 ⟨σ,Ds1,s1,hh1,he,hN1,hd1,⟨hD1,hds1⟩,hs1,hr1,hcase⟩;rcases hcase with⟨rfl,rfl⟩| ⟨i,rfl,rfl⟩| ⟨rfl,rfl⟩| ⟨pv,pv',rfl,hpv,rfl⟩
  ·have hl:CodeOk P M r (zc7 P σ w1 N Ds1 Db o) a1 w1 (.loop b):=hih _ _ h2 (.loop b) N (by simp[ze,hb,zA]) r σ a1 w1 Ds1 Db (hR.ext he) hN1 hs1 hr1 hd1 hD1;exact zjR (fun e a2 w2 h=>h.ext he hds1) M a1 w1 hl
  ·cases h2;have hp:zc7 P ρ w N Ds Db (.exit i s1 hh1) (exOf i) a1 w1:=⟨σ,Ds1,s1,hh1,he,hN1,hd1,⟨hD1,hds1⟩,hs1,hr1,.inr (.inl ⟨i,rfl,rfl⟩)⟩;rcases zf7 i with⟨j,rfl⟩| ⟨l,rfl⟩
   ·rw[zcu] at hp⊢;exact hp
   ·rw[zcU] at hp⊢;exact hp
  ·cases h2;exact⟨σ,Ds1,s1,hh1,he,hN1,hd1,⟨hD1,hds1⟩,hs1,hr1,.inr (.inr (.inl ⟨rfl,rfl⟩))⟩
  ·cases h2;exact⟨σ,Ds1,s1,hh1,he,hN1,hd1,⟨hD1,hds1⟩,hs1,hr1,.inr (.inr (.inr ⟨pv,pv',rfl,hpv,rfl⟩))⟩
 |.rangeFunc f ps as b,c,N,hc,s,h,o,hv,r,ρ,a,w,Ds,Db,hR,hN,hs,hr,hd,hD=>by
  unfold ze at hc
  split at hc
  ·rename_i hps;obtain⟨cf,hf,hc⟩:=aof hc;obtain⟨cas,has,hc⟩:=aof hc;obtain⟨cb,hb,hc⟩:=amf hc;obtain⟨rid,L,ca,cb',rfl,rfl,rfl⟩:=strip_range hc;exact range_sound hih hps hf has hb hv hR hN hs hr hd hD
  ·cases hc
end
theorem E_sound {F:FuncId→Option za} (hmix:P.follows .mixedOrders=true) (hF: ∀g cf,F g=some cf→FnOk P g cf): ∀(n:Nat) (t:Task) (o:Out),E F n t=some o→zdF P n t o
 |0,t,o,h=>by cases h
 |n+1,t,o,h=>by
  have hih:=E_sound hmix hF n;cases t with
  |code c s g=>
   intro code N hc r ρ a w Ds Db hR hN hs hr hd hD;exact zgt hih hmix (zkP n) code c N hc s g o (show zbI c (E F n) s g=some o from h) r ρ a w Ds Db hR hN hs hr hd hD
  |call f args g=>
   refine call_sound hF (E_dec n) (fun b s h o he=> ?_) hih (show zcw F (E F n) args g f=some o from h);cases n with
   |zero=>cases he
   |succ n=>exact(qm he).symm
  |hand f args p g=>exact hand_task hF hih (show zct F (E F n) args p g f=some o from h)
  |scope b l1 r1 l2 r2 s g=>exact scope_sound hih (show zdj (E F n) b l1 r1 l2 r2 s g=some o from h)
theorem zio {F:FuncId→Option za} (hmix:P.follows .mixedOrders=true) (hF: ∀g cf,F g=some cf→FnOk P g cf) {n:Nat} {g:FuncId} {args:List Value} {h h':H} {v:Value}
 (he:E F n (.call (.func (.func g) #[] #[]) args h)=some (.val v h')) {ρ:Rho} {args':Array Value} {w:World} (ra:VRL ρ args args'.toList) (hr:HR P ρ h w):
 Calls P g args' w fun e w'=> ∃v' σ,e=.returned v'∧VR σ v v'∧HR P σ h' w'∧Ext ρ w σ w':=by
 have hs:=E_sound hmix hF n _ _ he ρ (.func (.func g) #[] #[]) args' w (.func g rfl rfl (by simp) (by simp)) ra hr;have hc:=qbz.1 hs.1;simp only[Array.empty_append,Array.append_empty] at hc;refine hc.mono ?_;intro e w' hpp;obtain⟨v0,h0,v',σ,e1,e2,q1,q2,q3⟩:=hpp.val;cases e1;exact⟨v',σ,e2,q1,q2,q3⟩
end
section
noncomputable section
variable {P:Program}
structure K where
 nrm:zb→H→Option Out
 ext:Nat→zb→H→Option Out
 ret:zb→H→Option Out
 pan:Value→zb→H→Option Out
def k2 (r:R) (k:Value→H→Option Out):Option Out:=r.bind fun x=>k x.1 x.2
def kc (r p:R) (kp:Value→H→Option Out) (k:Value→H→Option Out):Option Out:=match r with
 |some x=>k x.1 x.2
 |none=>p.bind fun x=>kp x.1 x.2
structure Rn where
 call:Value→List Value→H→R
 pan:Value→List Value→H→R
 hand:Value→List Value→Option Value→H→Option H
 loop:List (List Bool)→CC→K→((List Value→H→Option Out)→List Value→H→Option Out)→List Value→H→Option Out
abbrev uc (vs:List Value) (k:Value→List Value→Option Out):Option Out:=List.rec (motive:=fun _=>Option Out) none (fun v r _=>k v r) vs
abbrev un (vs:List Value) (k:Option Out):Option Out:=List.rec (motive:=fun _=>Option Out) k (fun _ _ _=>none) vs
def br (v:Value) (a b:Option Out):Option Out:=match v with
 |.bool true=>a
 |.bool false=>b
 |_=>none
abbrev getL (L:List (List Bool)) (s:zb):(List Value→Option Out)→Option Out:=
 List.rec (motive:=fun _=>(List Value→Option Out)→Option Out) (fun k=>k []) (fun p _ ih k=>(s.get p).bind fun v=>ih fun vs=>k (v::vs)) L
abbrev withL (L:List (List Bool)):List Value→(zb→Option Out)→Option Out:=
 List.rec (motive:=fun _=>List Value→(zb→Option Out)→Option Out) (fun vs k=>un vs (k .nil)) (fun p _ ih vs k=>uc vs fun v vs=>ih vs fun s=>k (s.set p v)) L
def shDo (X:Rn) (op:COp) (s:zb) (h:H) (kp:Value→H→Option Out) (k:Value→H→Option Out):Option Out:=match op with
 |.call f args=>(f.ev s).bind fun f=>(evL s args).bind fun l=>kc (X.call f l h) (X.pan f l h) kp k
 |.invoke tbl x args=>(x.ev s).bind fun v=>(zgG tbl v).bind fun r=>(evL s args).bind fun l=>kc (X.call (.func (.func r.1) #[] #[]) (r.2::l) h) (X.pan (.func (.func r.1) #[] #[]) (r.2::l) h) kp k
 |.panic x=>(x.ev s).bind fun v=>match v with|.iface t u=>kp (.iface t u) h|_=>none
 |op=>k2 (opV op s h) k
def shStep (X:Rn) (o:CI) (s:zb) (h:H) (kp:Value→H→Option Out) (k:Value→H→Option Out):Option Out:=(z8 o.guard s).bind fun b=>match b with
 |true=>shDo X o.op s h kp k
 |false=>k zM h
def shOps (X:Rn) (kp:Value→zb→H→Option Out) (l:List CI):zb→H→(zb→H→Option Out)→Option Out:=
 List.rec (motive:=fun _=>zb→H→(zb→H→Option Out)→Option Out) (fun s h k=>k s h) (fun o _ ih s h k=>shStep X o s h (fun v h=>kp v s h) fun v h=>ih (zbh o.dst v s) h k) l
def shDo1 (X:Rn) (op:COp) (s:zb) (h:H):R:=match op with
 |.call f args=>(f.ev s).bind fun f=>(evL s args).bind fun l=>X.call f l h
 |.invoke tbl x args=>(x.ev s).bind fun v=>(zgG tbl v).bind fun r=>(evL s args).bind fun l=>X.call (.func (.func r.1) #[] #[]) (r.2::l) h
 |op=>opV op s h
def shStep1 (X:Rn) (o:CI) (s:zb) (h:H):R:=(z8 o.guard s).bind fun b=>match b with
 |true=>shDo1 X o.op s h
 |false=>some (zM,h)
def readsF (rd:H→R) (lo:Nat) (v:Value):List (Nat×H)→Bool
 | []=>true
 |x::r=>if qE x.1 lo then readsF rd lo v r else match rd x.2 with
  |some y=>eqVal v y.1&&readsF rd lo v r
  |none=>false
def rdF (rd:H→R) (lo:Nat) (h:H):List (Nat×H)→R
 | []=>none
 |x::r=>(rd x.2).bind fun y=>if readsF rd lo y.1 r then some (y.1,h) else none
def rdStep (o:CI) (bs:List (Nat×H)) (s:zb) (h:H):R:=(z8 o.guard s).bind fun b=>match b with
 |true=>match bs with
  | []=>none
  |x::_=>match zgL o.op s x.2.next h.next with
   |true=>opV o.op s h
   |false=>rdF (opV o.op s) o.lo h bs
 |false=>some (zM,h)
def shDraw (X:Rn) (l:List CI):List (Nat×H)→zb→H→(zb→H→Option Out)→Option Out:=
 List.rec (motive:=fun _=>List (Nat×H)→zb→H→(zb→H→Option Out)→Option Out) (fun _ s h k=>k s h)
  (fun o _ ih bs s h k=>match isW o.op with
    |true=>k2 (shStep1 X o s h) fun v h=>ih ((nextB bs,h)::bs) (zbh o.dst v s) h k
    |false=>match isRd o.op with
     |true=>k2 (rdStep o bs s h) fun v h=>ih bs (zbh o.dst v s) h k
     |false=>k2 (shStep1 X o s h) fun v h=>ih bs (zbh o.dst v s) h k) l
def pendK2 (k:K) (s:zb) (h:H):Option CC→Option Out
 |none=>k.nrm s h
 |some .ret=>k.ret s h
 |some (.exit i)=>k.ext i s h
 |_=>none
def rgEnd (k:K) (s:zb) (l:Nat) (h:H):Option Out:=(h.get l).bind fun o=>match o with
 |.loop .ready pend sl rc=>pendK2 k s (h.put l (.loop .exhausted pend sl rc)) pend
 |.loop .done pend sl rc=>pendK2 k s (h.put l (.loop .exhausted pend sl rc)) pend
 |_=>none
def st2 (g:Option H) (k:H→Option Out):Option Out:=g.bind k
def blkX (i:Nat) (k:K) (j:Nat) (s:zb) (h:H):Option Out:=match qo j i with
 |true=>k.nrm s h
 |false=>k.ext j s h
def someL (L:List (List Bool)) (o:Option Out):Option Out:=List.rec (motive:=fun _=>Option Out) none (fun _ _ _=>o) L
def sh (X:Rn) (c:CC):K→zb→H→Option Out:=
 CC.rec (motive:=fun _=>K→zb→H→Option Out)
  (fun k s h=>k.nrm s h)
  (fun l k s h=>shOps X k.pan l s h k.nrm)
  (fun l k s h=>shDraw X l [(0,h)] s h k.nrm)
  (fun l x y k s h=>shDraw X l [(0,h)] s h fun s h=>st2 (zeI x.op y.op s h) fun h=>k.nrm s h)
  (fun _ L _ iha ihb k s h=>iha ⟨fun s h=>ihb k (keepA L s) h,k.ext,k.ret,k.pan⟩ s h)
  (fun c _ _ iha ihb k s h=>(c.ev s).bind fun v=>br v (iha k s h) (ihb k s h))
  (fun i _ ih k s h=>ih ⟨k.nrm,blkX i k,k.ret,k.pan⟩ s h)
  (fun L b ih k s h=>someL L (getL L s fun vs=>X.loop L b k (fun self vs h=>withL L vs fun s=>ih ⟨fun s h=>getL L s fun vs=>self vs h,k.ext,k.ret,k.pan⟩ s h) vs h))
  (fun rid L f ps as b _ _ k s h=>(f.ev s).bind fun f=>(isFn f).bind fun f=>k2 (X.call f [.func (.yield h.next) #[] #[]] (h.new (.loop .ready none (keepA L s) ⟨rid,L,ps,as,b⟩))) fun _ h'=>rgEnd k s h.next h')
  (fun i k s h=>k.ext i s h)
  (fun k s h=>k.ret s h)
  (fun _ _ _ _ _ _ _ _ _ _ _=>none) c
section
variable {F:FuncId→Option za} {X:Rn}
open Classical in
open Classical in
open Classical in
open Classical in
def cl (X:Rn) (f:Value) (l:List Value) (h:H) (kp k:Value→H→Option Out):Option Out:=kc (X.call f l h) (X.pan f l h) kp k
def lp (X:Rn) (L:List (List Bool)) (b:CC) (k:K) (vs:List Value) (h:H):Option Out:=
 X.loop L b k (fun self vs h=>withL L vs fun s=>sh X b ⟨fun s h=>getL L s fun vs=>self vs h,k.ext,k.ret,k.pan⟩ s h) vs h
def fin (l:Nat) (p:Option CC) (h:H):Option Out:=(h.get l).bind (zlz l p h)
def bx (i j:Nat) (a b:Option Out):Option Out:=match qo i j with
 |true=>a
 |false=>b
end
end
end
section
noncomputable section
inductive DV where
 |int (k:IntKind) (n:Int)
 |bool (b:Bool)
 |str (s:ByteArray)
 |bs (s:ByteArray)
 |agg (l:List DV)
 |tup (l:List DV)
 |nilS
 |lst (s:Nat) (rows:List (List DV))
 |pl (s:Nat) (rows:List (List DV)) (i off:Nat)
 |ms (j lo len cap:Nat)
 |nilP
 |ptr (j i off:Nat)
 |nilM
 |map (j:Nat)
 |nilF
 |fn (g:Nat) (a c:List DV)
 |yld (l:Nat)
 |nilI
 |ifc (t:Nat) (v:DV)
 deriving Inhabited
abbrev DS:=List (List Bool×DV)
def getS:DS→List Bool→Option DV
 | [],_=>none
 | (q,d)::s,p=>match beqP q p with|true=>some d|false=>getS s p
def zkX (s:DS):List (List Bool)→DS
 | []=>[]
 |p::L=>match getS s p with|some d=>(p,d)::zkX s L|none=>zkX s L
def zbH:List (List Bool)→DS→DS
 | [],s=>s
 |p::L,s=>zkX s (p::L)
def zY (d:Option (List Bool)) (v:DV) (s:DS):DS:=match d with
 |none=>s
 |some p=>(p,v)::s
inductive MO where
 |rows (op:Bool) (sz:Nat) (rs:List (List DV))
 |map (es:List (DV×DV))
 |loop (st:LoopState) (pend:Option CC) (sl:DS) (rc:RC)
structure VM where
 next:Nat
 get:Nat→Option (MO×Nat)
def VM.obj (M:VM) (j:Nat):Option MO:=(M.get j).map Prod.fst
def VM.new (M:VM) (o:MO):VM:=⟨M.next+1,fun i=>if i=M.next then some (o,M.next) else M.get i⟩
def VM.put (M:VM) (j:Nat) (o:MO):VM:=⟨M.next+1,fun i=>if i=j then some (o,M.next) else M.get i⟩
def VM.del (M:VM) (j:Nat):VM:=⟨M.next,fun i=>if i=j then none else M.get i⟩
abbrev RD:=Option (DV×VM)
def dOf1:Value→Option DV
 |.bool b=>some (.bool b)
 |.int k n=>some (.int k n)
 |.string s=>some (.str s)
 |.pointer none=>some .nilP
 |.slice none 0 0=>some .nilS
 |.map none=>some .nilM
 |.nilFunc=>some .nilF
 |.nilIface=>some .nilI
 |_=>none
def dOfL:List Value→Option (List DV)
 | []=>some []
 |v::r=>(dOf1 v).bind fun d=>(dOfL r).map (d:: ·)
def dOf:Value→Option DV
 |.func (.func f) ⟨[]⟩ ⟨[]⟩=>some (.fn f [] [])
 |.agg ⟨cs⟩=>(dOfL cs).map .agg
 |v=>dOf1 v
def evD (s:DS):CO→Option DV
 |.t p=>getS s p
 |.c v=>dOf v
def evDL (s:DS):List CO→Option (List DV)
 | []=>some []
 |x::r=>(evD s x).bind fun v=>(evDL s r).map (v:: ·)
def evDO (s:DS):Option CO→Option (Option DV)
 |none=>some none
 |some x=>(evD s x).map some
def zr:DV→List DV
 |.agg l=>l
 |v=>[v]
def zj:DV→Bool
 |.agg _=>false
 |.tup _=>false
 |_=>true
def zp:List DV→Nat→List DV→Option (List DV)
 |cs,_,[]=>some cs
 |_::cs,0,v::vs=>(zp cs 0 vs).map (v:: ·)
 |c::cs,n+1,v::vs=>(zp cs n (v::vs)).map (c:: ·)
 | [],_,_::_=>none
def zcZ:Nat→List DV→Option (List DV)
 |0,_=>some []
 |n+1,a::l=>(zcZ n l).map (a:: ·)
 |_+1,[]=>none
def zij (cells:List DV):List (Nat×Nat×DV)→Option (List DV)
 | []=>some cells
 | (off,size,v)::r=>if(zr v).length=size∧0<size∧(zr v).all zj=true then(zp cells off (zr v)).bind fun c=>zij c r else none
def zc0 (size:Nat) (rows:List (List DV)):List (Nat×DV)→Option (List (List DV))
 | []=>some rows
 | (i,v)::r=>if(zr v).length=size∧0<size∧(zr v).all zj=true∧i<rows.length then zc0 size (rows.set i (zr v)) r else none
def zcP (M:VM):DV→Option (List DV)
 |.pl _ rows i off=>(rows[i]?).map fun r=>r.drop off
 |.ptr j i off=>(M.obj j).bind fun o=>match o with
  |.rows _ _ rs=>(rs[i]?).map fun r=>r.drop off
  |_=>none
 |_=>none
def oneD:List DV→Option DV
 |v::_=>some v
 |_=>none
def zfs (n:Nat) (M:VM) (x:DV):DV→Option VM
 |.ptr j i off=>(M.obj j).bind fun o=>match o with
  |.rows op sz rs=>(rs[i]?).bind fun r=>if(zr x).length=n∧0<n∧(zr x).all zj=true then(zp r off (zr x)).map fun r'=>M.put j (.rows op sz (rs.set i r')) else none
  |_=>none
 |_=>none
def nilD:DV→Option DV
 |.ptr j i o=>some (.ptr j i o)
 |.pl s r i o=>some (.pl s r i o)
 |.fn g a c=>some (.fn g a c)
 |.yld l=>some (.yld l)
 |_=>none
def zjI:DV→DV→Option Bool
 |.int k a,.int k' b=>if k=k' then some (eqI a b) else none
 |_,_=>none
def zh0 (xs ys:List DV):List Nat→Option Bool
 | []=>some true
 |i::r=>(xs[i]?).bind fun x=>(ys[i]?).bind fun y=>(zjI x y).bind fun b=>(zh0 xs ys r).map fun c=>b&&c
def sameKD:LK→DV→DV→Option Bool
 |.int,.int k a,.int k' b=>if k=k' then some (eqI a b) else none
 |.bool,.bool a,.bool b=>some (a==b)
 |.str,.str a,.str b=>some (zZ a.data.toList b.data.toList)
 |_,_,_=>none
def sameKsD (xs ys:List DV):List (Nat×LK)→Option Bool
 | []=>some true
 |i::r=>(xs[i.1]?).bind fun x=>(ys[i.1]?).bind fun y=>(sameKD i.2 x y).bind fun b=>(sameKsD xs ys r).map fun c=>b&&c
def eqD:EK→DV→DV→Option Bool
 |.ptr,.nilP,.nilP=>some true
 |.ptr,.nilP,.ptr _ _ _=>some false
 |.ptr,.nilP,.pl _ _ _ _=>some false
 |.ptr,.ptr _ _ _,.nilP=>some false
 |.ptr,.pl _ _ _ _,.nilP=>some false
 |.slice,.nilS,.nilS=>some true
 |.slice,.nilS,.ms _ _ _ _=>some false
 |.slice,.ms _ _ _ _,.nilS=>some false
 |.slice,.nilS,.lst _ (_::_)=>some false
 |.slice,.lst _ (_::_),.nilS=>some false
 |.map,.nilM,.nilM=>some true
 |.map,.nilM,.map _=>some false
 |.map,.map _,.nilM=>some false
 |.func,.nilF,.nilF=>some true
 |.func,.nilF,.fn _ _ _=>some false
 |.func,.fn _ _ _,.nilF=>some false
 |.iface true,.nilI,.nilI=>some true
 |.iface _,.nilI,.ifc _ _=>some false
 |.iface _,.ifc _ _,.nilI=>some false
 |.bool,.bool a,.bool b=>some (a==b)
 |.leaves l,.agg xs,.agg ys=>zh0 xs ys l
 |.leavesK l,.agg xs,.agg ys=>sameKsD xs ys l
 |_,_,_=>none
def eqlD (ek:EK) (x y:DV):BinOp→Option DV
 |.eql=>(eqD ek x y).map .bool
 |.neq=>(eqD ek x y).map fun b=>.bool (!b)
 |_=>none
def binD (op:BinOp) (ek:EK) (x y:DV):Option DV:=match x,y with
 |.int k a,.int k' b=>(intS k k' a b op).bind dOf1
 |.str a,.str b=>(strB a.data.toList b.data.toList op).bind dOf1
 |x,y=>eqlD ek x y op
def unD:UnOp→DV→Option DV
 |.neg,.int k n=>some (.int k (k.wrap (0 - n)))
 |.not,.bool b=>some (.bool !b)
 |_,_=>none
def zkw (k:IntKind):DV→Option DV
 |.int _ n=>some (.int k (k.wrap n))
 |_=>none
def zD:KK→DV→DV→Option Bool
 |.str,.str a,.str b=>some (zZ a.data.toList b.data.toList)
 |.int,.int k a,.int k' b=>if k=k' then some (eqI a b) else none
 |.leaves l,.agg xs,.agg ys=>zh0 xs ys l
 |_,_,_=>none
def zes (kk:KK) (k:DV):List (DV×DV)→Option (Option DV)
 | []=>some none
 | (key,v)::r=>(zD kk k key).bind fun b=>match b with|true=>some (some v)|false=>zes kk k r
def zb1:List DV→List DV→Bool
 | [],[]=>true
 |.int k a::r,.int k' b::r'=>decide (k=k')&&eqI a b&&zb1 r r'
 |.str a::r,.str b::r'=>zZ a.data.toList b.data.toList&&zb1 r r'
 |_,_=>false
def setD (kk:KK) (k v:DV):List (DV×DV)→Option (List (DV×DV))
 | []=>some [(k,v)]
 | (key,w)::r=>(zD kk k key).bind fun s=>match s with
   |true=>if zb1 (zr k) (zr key)=true then some ((k,v)::r) else none
   |false=>(setD kk k v r).map fun x=>(key,w)::x
def zfz (isMax:Bool):DV→List DV→Option DV
 |v,[]=>some v
 |.int k x,.int k' y::r=>if k=k' then zfz isMax (.int k (match isMax with|true=>(match ltI x y with|true=>y|false=>x)|false=>(match ltI y x with|true=>y|false=>x))) r else none
 |_,_=>none
def inD (y:Nat):DV→Option Nat
 |.int _ (.ofNat m)=>if m≤y then some m else none
 |_=>none
def zl (dflt y:Nat):Option DV→Option Nat
 |none=>some dflt
 |some d=>inD y d
def zew (M:VM) (size:Nat):DV→Option (List (List DV))
 |.nilS=>some []
 |.lst s rows=>if s=size then some rows else none
 |.bs s=>if size=1 then some (s.data.toList.map fun b=>[.int .u8 b.toNat]) else none
 |.ms j lo len _=>(M.obj j).bind fun o=>match o with
  |.rows _ sz rs=>if sz=size∧lo+len≤rs.length then some ((rs.drop lo).take len) else none
  |_=>none
 |_=>none
def sliceD (size:Nat) (M:VM) (lo hi:Option DV):DV→Option DV
 |.nilS=>(zl 0 0 hi).bind fun hi=>(zl 0 hi lo).map fun _=>.nilS
 |.lst s rows=>if s=size∧0<s then(zl rows.length rows.length hi).bind fun hi=>(zl 0 hi lo).map fun lo=>.lst s ((rows.drop lo).take (hi - lo)) else none
 |.ms j l len cap=>(M.obj j).bind fun o=>match o with
  |.rows true sz rs=>if sz=size∧cap=zc∧l≤rs.length then(zl len (rs.length - l) hi).bind fun hi=>(zl 0 hi lo).map fun lo=>.ms j (l+lo) (hi - lo) zc else none
  |.rows false sz _=>if sz=size∧cap<zc then(zl len cap hi).bind fun hi=>(zl 0 hi lo).map fun lo=>.ms j (if cap=lo then l else l+lo) (hi - lo) (cap - lo) else none
  |_=>none
 |_=>none
def slice3D (size:Nat) (M:VM) (lo:Option DV) (hi mx:DV):DV→Option DV
 |.ms j l _ cap=>(M.obj j).bind fun o=>match o with
  |.rows true sz rs=>if sz=size∧cap=zc∧l≤rs.length then(zl 0 (rs.length - l) (some mx)).bind fun m=>if 0<m∧m<zc then(zl 0 m (some hi)).bind fun hi=>(zl 0 hi lo).map fun lo=>.ms j (if m=lo then l else l+lo) (hi - lo) (m - lo) else none else none
  |.rows false sz _=>if sz=size∧cap<zc then(zl 0 cap (some mx)).bind fun m=>(zl 0 m (some hi)).bind fun hi=>(zl 0 hi lo).map fun lo=>.ms j (if m=lo then l else l+lo) (hi - lo) (m - lo) else none
  |_=>none
 |_=>none
def ziV (size:Nat) (M:VM) (i:DV):DV→Option DV
 |.lst s rows=>match i with
  |.int _ (.ofNat i)=>if s=size∧i<rows.length then some (.pl s rows i 0) else none
  |_=>none
 |.bs s=>match i with
  |.int _ (.ofNat i)=>if size=1∧i<s.size then some (.pl 1 (s.data.toList.map fun b=>[.int .u8 b.toNat]) i 0) else none
  |_=>none
 |.ms j lo len _=>(M.obj j).bind fun o=>match o,i with
  |.rows _ sz _,.int _ (.ofNat i)=>if sz=size∧i<len then some (.ptr j (lo+i) 0) else none
  |_,_=>none
 |_=>none
def offD (n:Nat):DV→Option DV
 |.pl s rows i o=>some (.pl s rows i (o+n))
 |.ptr j i o=>some (.ptr j i (o+n))
 |_=>none
def arrD (n size:Nat) (i x:DV):Option DV:=match i with
 |.int _ (.ofNat i)=>if i<n then offD (i*size) x else none
 |_=>none
def zdE (b:UInt8):DV:=.int .u8 b.toNat
def zlH (s:ByteArray):List (List DV):=s.data.toList.map fun b=>[zdE b]
def zbA (M:VM) (size:Nat):DV→Option (List (List DV))
 |.str s=>if size=1 then some (zlH s) else none
 |d=>zew M size d
def zgD (M:VM) (size:Nat) (rs:List (List DV)):DV×VM:=(.ms M.next 0 rs.length zc,M.new (.rows true size rs))
def zbR (rs new:List (List DV)) (at_:Nat):List (List DV):=rs.take at_++new++rs.drop (at_+new.length)
def zhJ (size:Nat) (M:VM) (new:List (List DV)) (j lo len cap:Nat):MO→RD
 |.rows op sz rs=>if sz=size∧lo+len≤rs.length then match op with
  |true=>if cap=zc then
    if lo+len+new.length≤rs.length then some (.ms j lo (len+new.length) cap,M.put j (.rows true sz (zbR rs new (lo+len))))
    else some (zgD (M.del j) size ((rs.drop lo).take len++new)) else none
  |false=>if cap<zc then
    if len+new.length≤cap then(if lo+cap≤rs.length then some (.ms j lo (len+new.length) cap,M.put j (.rows false sz (zbR rs new (lo+len)))) else none)
    else some (zgD M size ((rs.drop lo).take len++new)) else none
  else none
 |_=>none
def zcL (size bytes:Nat) (M:VM) (new:List (List DV)) (d:DV):RD:=
 if new=[] then(match d with|.nilS=>some (d,M)|.lst _ _=>some (d,M)|.ms _ _ _ _=>some (d,M)|_=>none) else match d with
 |.nilS=>if new.length*bytes≤1073741824 then some (zgD M size new) else none
 |.ms j lo len cap=>if(len+new.length)*bytes≤1073741824 then(M.obj j).bind (zhJ size M new j lo len cap) else none
 |_=>none
def lenD (M:VM):DV→Option Nat
 |.nilS=>some 0
 |.lst _ rows=>some rows.length
 |.bs s=>some s.size
 |.ms _ _ len _=>some len
 |_=>none
def z9 (M:VM):DV→Option (List (DV×DV))
 |.nilM=>some []
 |.map j=>(M.obj j).bind fun o=>match o with|.map es=>some es|_=>none
 |_=>none
def copyD (size:Nat) (M:VM) (src:List (List DV)):DV→RD
 |.ms j lo len _=>(M.obj j).bind fun o=>match o with
  |.rows op sz rs=>if sz=size∧lo+len≤rs.length∧0<len∧0<src.length then some (.int .i64 ((min len src.length:Nat):Int),M.put j (.rows op sz (zbR rs (src.take (min len src.length)) lo))) else none
  |_=>none
 |_=>none
def clearD (z:List DV) (M:VM):DV→RD
 |.nilS=>some (.tup [],M)
 |.ms j lo len _=>if len=0 then some (.tup [],M) else(M.obj j).bind fun o=>match o with
  |.rows op sz rs=>if sz=z.length∧lo+len≤rs.length∧z.all zj=true then some (.tup [],M.put j (.rows op sz (zbR rs (qq len z) lo))) else none
  |_=>none
 |_=>none
def bltD (M:VM) (b:CB) (args:List DV):RD:=match b,args with
 |.lenStr,[.str s]=>some (.int .i64 s.size,M)
 |.len,[d]=>(lenD M d).map fun(n:Nat)=>(.int .i64 (n:Int),M)
 |.lenMap,[d]=>(z9 M d).map fun es=>(.int .i64 es.length,M)
 |.append size bytes,[s,x]=>if 0<size∧size<roE then(zbA M size x).bind fun new=>if new.all (fun r=>r.all zj)=true then zcL size bytes M new s else none else none
 |.copy size,[d,x]=>(zew M size x).bind fun src=>if src.all (fun r=>r.all zj)=true then copyD size M src d else none
 |.clear z,[d]=>(dOfL z).bind fun z=>clearD z M d
 |.min,v::r=>(zfz false v r).map (·,M)
 |.max,v::r=>(zfz true v r).map (·,M)
 |_,_=>none
def zbw (z:DV) (ok:Bool):Option DV→DV
 |some v=>match ok with|true=>.tup [v,.bool true]|false=>v
 |none=>match ok with|true=>.tup [z,.bool false]|false=>z
def updD (kk:KK) (M:VM) (k x:DV):DV→Option VM
 |.map j=>(M.obj j).bind fun o=>match o with
  |.map es=>(zD kk k k).bind fun _=>(setD kk k x es).map fun es=>M.put j (.map es)
  |_=>none
 |_=>none
def strIdxD:DV→DV→Option DV
 |.str s,.int _ (.ofNat i)=>(s.data.toList[i]?).map zdE
 |_,_=>none
def zcn (lo hi:Option DV):DV→Option DV
 |.str s=>(zl s.size s.size hi).bind fun hi=>(zl 0 hi lo).bind fun lo=>(zeH (hi - lo) (zcW lo s.data.toList)).map fun l=>.str ⟨⟨l⟩⟩
 |_=>none
def zkL (t:TypeId) (z:DV) (ok:Bool):DV→Option DV
 |.ifc u v=>match qo u t,ok with
  |true,true=>some (.tup [v,.bool true])
  |true,false=>some v
  |false,true=>some (.tup [z,.bool false])
  |false,false=>none
 |.nilI=>match ok with
  |true=>some (.tup [z,.bool false])
  |false=>none
 |_=>none
def zgO:List DV→Option UInt8
 | [.int .u8 (.ofNat n)]=>some (UInt8.ofNat n)
 |_=>none
def b2sD (M:VM) (d:DV):Option DV:=(zew M 1 d).bind fun rows=>(allO zgO rows).map fun l=>.str ⟨⟨l⟩⟩
def zlr (bytes:Nat) (z:List DV) (M:VM):DV→DV→RD
 |.int .i64 (.ofNat l),.int .i64 (.ofNat c)=>if l≤c∧c*bytes≤1073741824∧c≤1073741824 then some (.ms M.next 0 l c,M.new (.rows false z.length (qq c z))) else none
 |_,_=>none
def zhb (s:DS):List (Nat×Nat×CO)→Option (List (Nat×Nat×DV))
 | []=>some []
 | (o,n,x)::r=>(evD s x).bind fun v=>(zhb s r).map ((o,n,v):: ·)
def zeV (s:DS):List (Nat×CO)→Option (List (Nat×DV))
 | []=>some []
 | (i,x)::r=>(evD s x).bind fun v=>(zeV s r).map ((i,v):: ·)
def pickD (a b:Option DV):DV→Option DV
 |.bool true=>a
 |.bool false=>b
 |_=>none
def fldD (off:Nat) (n:Option Nat):DV→Option DV
 |.agg cs=>match n with
  |some n=>(zcZ n (cs.drop off)).map .agg
  |none=>oneD (cs.drop off)
 |_=>none
def opD (op:COp) (s:DS) (M:VM):RD:=match op with
 |.mv x=>(evD s x).map (·,M)
 |.pick c a b=>(evD s c).bind fun c=>(pickD (evD s a) (evD s b) c).map (·,M)
 |.alloc z=>(dOfL z).map fun z=>(.ptr M.next 0 0,M.new (.rows false z.length [z]))
 |.box x=>(evD s x).map fun v=>(.ptr M.next 0 0,M.new (.rows false (zr v).length [zr v]))
 |.build z ps=>(dOfL z).bind fun z=>(zhb s ps).bind fun l=>(zij z l).map fun c=>(.agg c,M)
 |.buildSlice len size z ps=>(dOfL z).bind fun z=>if z.length=size∧len<zc then(zeV s ps).bind fun l=>(zc0 size (qq len z) l).map fun rows=>(.ms M.next 0 len len,M.new (.rows false size rows)) else none
 |.load1 a=>(evD s a).bind fun a=>(zcP M a).bind fun r=>(oneD r).map (·,M)
 |.loadN n a=>(evD s a).bind fun a=>(zcP M a).bind fun r=>(zcZ n r).map fun l=>(.agg l,M)
 |.store n a x=>(evD s a).bind fun a=>(evD s x).bind fun x=>(zfs n M x a).map (.tup [],·)
 |.nilCheck x=>(evD s x).bind fun v=>(nilD v).map (·,M)
 |.bin op ek x y=>(evD s x).bind fun a=>(evD s y).bind fun b=>(binD op ek a b).map (·,M)
 |.un op x=>(evD s x).bind fun a=>(unD op a).map (·,M)
 |.conv k x=>(evD s x).bind fun a=>(zkw k a).map (·,M)
 |.makeFunc (.func g) a b=>(evDL s a).bind fun a=>(evDL s b).map fun b=>(.fn g a b,M)
 |.makeMap=>some (.map M.next,M.new (.map []))
 |.makeSlice _ bytes z l c=>(evD s l).bind fun l=>(evD s c).bind fun c=>(dOfL z).bind fun z=>zlr bytes z M l c
 |.slice size x lo hi=>(evD s x).bind fun v=>(evDO s lo).bind fun lo=>(evDO s hi).bind fun hi=>(sliceD size M lo hi v).map (·,M)
 |.fieldAddr off x=>(evD s x).bind fun v=>(offD off v).map (·,M)
 |.indexAddr size x i=>(evD s x).bind fun v=>(evD s i).bind fun i=>(ziV size M i v).map (·,M)
 |.indexArr n size x i=>(evD s x).bind fun v=>(evD s i).bind fun i=>(arrD n size i v).map (·,M)
 |.lookup kk z ok x i=>(evD s x).bind fun m=>(evD s i).bind fun k=>(dOf z).bind fun z=>(zD kk k k).bind fun _=>(z9 M m).bind fun es=>(zes kk k es).map fun r=>(zbw z ok r,M)
 |.mapUpdate kk m k x=>(evD s m).bind fun m=>(evD s k).bind fun k=>(evD s x).bind fun x=>(updD kk M k x m).map (.tup [],·)
 |.extract x i=>(evD s x).bind fun v=>match v with|.tup l=>(l[i]?).map (·,M)|_=>none
 |.blt b args=>(evDL s args).bind fun l=>bltD M b l
 |.strIdx x i=>(evD s x).bind fun v=>(evD s i).bind fun i=>(strIdxD v i).map (·,M)
 |.mkI t x=>(evD s x).map fun v=>(.ifc t v,M)
 |.assertT t z ok x=>(evD s x).bind fun v=>(dOf z).bind fun z=>(zkL t z ok v).map (·,M)
 |.strSlice x lo hi=>(evD s x).bind fun v=>(evDO s lo).bind fun lo=>(evDO s hi).bind fun hi=>(zcn lo hi v).map (·,M)
 |.s2b x=>(evD s x).bind fun v=>match v with|.str b=>some (.bs b,M)|_=>none
 |.b2s x=>(evD s x).bind fun v=>(b2sD M v).map (·,M)
 |.slice3 size x lo hi mx=>(evD s x).bind fun v=>(evDO s lo).bind fun lo=>(evD s hi).bind fun hi=>(evD s mx).bind fun mx=>(slice3D size M lo hi mx v).map (·,M)
 |.fld off n x=>(evD s x).bind fun v=>(fldD off n v).map (·,M)
 |_=>none
structure KD where
 nrm:DS→VM→Prop
 ext:Nat→DS→VM→Prop
 ret:DS→VM→Prop
 pan:DV→DS→VM→Prop
structure Mo where
 idx:Nat
 M:VM
 bad:List (List Bool)
structure RnD where
 call:DV→List DV→VM→(DV→VM→Prop)→(DV→VM→Prop)→Prop
 hand:DV→List DV→Option DV→VM→(VM→Prop)→Prop
 loop:List (List Bool)→CC→KD→DS→VM→Prop
 scope:CC→Nat→CC→Nat→CC→KD→DS→VM→Prop
 surv:List CI→List Mo→DS→VM→Prop
def okD (r:RD) (k:DV→VM→Prop):Prop:=match r with
 |some x=>k x.1 x.2
 |none=>False
def ofD {α:Type} (r:Option α) (k:α→Prop):Prop:=match r with
 |some x=>k x
 |none=>False
def wantD (g:Option (List Bool×Bool)) (s:DS):Option Bool:=match g with
 |none=>some true
 |some (p,w)=>(getS s p).bind fun d=>match d with
  |.bool b=>some (b==w)
  |.tup _=>some false
  |_=>none
def wDo (X:RnD) (op:COp) (s:DS) (M:VM) (kp k:DV→VM→Prop):Prop:=match op with
 |.call f args=>ofD (evD s f) fun f=>ofD (evDL s args) fun l=>X.call f l M k kp
 |.invoke tbl x args=>ofD (evD s x) fun v=>match v with
  |.ifc t v=>ofD (lookM t tbl) fun f=>ofD (evDL s args) fun l=>X.call (.fn f [] []) (v::l) M k kp
  |_=>False
 |.panic x=>ofD (evD s x) fun v=>match v with|.ifc t u=>kp (.ifc t u) M|_=>False
 |op=>okD (opD op s M) k
def zhQ (X:RnD) (o:CI) (s:DS) (M:VM) (kp k:DV→VM→Prop):Prop:=ofD (wantD o.guard s) fun b=>match b with
 |true=>wDo X o.op s M kp k
 |false=>k (.tup []) M
def wOps (X:RnD) (kp:DV→DS→VM→Prop):List CI→DS→VM→(DS→VM→Prop)→Prop
 | [],s,M,k=>k s M
 |o::l,s,M,k=>zhQ X o s M (fun v M=>kp v s M) fun v M=>wOps X kp l (zY o.dst v s) M k
def zcC:DV→Bool
 |.bool _=>true
 |.int _ _=>true
 |.str _=>true
 |.nilS=>true
 |.lst _ _=>true
 |.pl _ _ _ _=>true
 |.ms _ _ _ _=>true
 |.nilP=>true
 |.ptr _ _ _=>true
 |.nilM=>true
 |.map _=>true
 |.nilF=>true
 |_=>false
def zc8:DV→Bool
 |.agg l=>l.all zcC
 |.tup l=>l.all fun d=>match d with|.agg l=>l.all zcC|d=>zcC d
 |d=>zcC d
def refD:DV→List Nat
 |.ptr j _ _=>[j]
 |.ms j _ _ _=>[j]
 |.map j=>[j]
 |_=>[]
def zc1 (s:DS) (x:CO):List Nat:=match evD s x with|some d=>refD d|none=>[]
def zca (s:DS):COp→List Nat
 |.load1 a=>zc1 s a
 |.loadN _ a=>zc1 s a
 |.lookup _ _ _ x _=>zc1 s x
 |.slice _ x _ _=>zc1 s x
 |.slice3 _ x _ _ _=>zc1 s x
 |.blt _ as=>as.flatMap (zc1 s)
 |.b2s x=>zc1 s x
 |_=>[]
def zfV:List Nat→VM→VM→Prop
 | [],_,_=>True
 |j::r,M,M'=>(M.get j=M'.get j∧(M.get j).isSome=true)∧zfV r M M'
def inP (l:List (List Bool)) (p:List Bool):Bool:=match l with
 | []=>false
 |q::r=>match beqP q p with|true=>true|false=>inP r p
def zc9 (bad:List (List Bool)):List (List Bool)→Bool
 | []=>true
 |p::r=>match inP bad p with|true=>false|false=>zc9 bad r
def zcz (q:Option (List Bool)) (x:Mo):Mo:=match q with
 |none=>x
 |some q=>⟨x.idx,x.M,q::x.bad⟩
def zhg (ns:List (List Bool)) (q:Option (List Bool)) (x:Mo):Mo:=match zc9 x.bad ns with
 |true=>x
 |false=>zcz q x
def rdAt (rs:List Nat) (ns:List (List Bool)) (M:VM) (x:Mo):Prop:=zc9 x.bad ns=true∧zfV rs M x.M
def detD:DV→Bool
 |.bool _=>true
 |.int _ _=>true
 |.str _=>true
 |.nilS=>true
 |.ms _ _ _ _=>true
 |.nilP=>true
 |.ptr _ _ _=>true
 |.nilM=>true
 |.map _=>true
 |.nilF=>true
 |_=>false
def rdAlt (op:COp) (ns:List (List Bool)) (s:DS) (d:DV) (x:Mo):Prop:=zc9 x.bad ns=true∧detD d=true∧opD op s x.M=some (d,x.M)
def rdOk (op:COp) (rs:List Nat) (ns:List (List Bool)) (s:DS) (d:DV) (M:VM) (lo:Nat):List Mo→Prop
 | []=>True
 |x::r=>(match qE x.idx lo with|true=>True|false=>rdAt rs ns M x∨rdAlt op ns s d x)∧rdOk op rs ns s d M lo r
def ziR (lo:Nat) (q:Option (List Bool)):List Mo→List Mo
 | []=>[]
 |x::r=>(match qE x.idx lo with|true=>zcz q x|false=>x)::ziR lo q r
def zjH (bs:List Mo) (d:DV):Bool:=match bs with
 | []=>true
 | [_]=>true
 |_=>zc8 d
def freshD (op:COp) (s:DS) (n:Nat):Bool:=match op with
 |.b2s x=>match evD s x with
  |some (.ms j _ _ _)=>qbd n j
  |_=>false
 |_=>false
def wRead (op:COp) (ns:List (List Bool)) (q:Option (List Bool)) (s:DS) (lo:Nat) (M:VM) (k:DV→List Mo→Prop):List Mo→Prop
 | []=>False
 |x::r=>match freshD op s x.M.next with
  |true=>okD (opD op s M) fun d _=>k d (x::r)
  |false=>okD (opD op s M) fun d _=>(rdAt (zca s op) ns M x∨rdAlt op ns s d x)∧rdOk op (zca s op) ns s d M lo r∧zjH (x::r) d=true∧k d (x::ziR lo q r)
def zj3 (bs:List Mo):Nat:=match bs with
 | []=>0
 |x::_=>x.idx+1
def wSurv (X:RnD) (l:List CI) (bs:List Mo) (s:DS) (M:VM):Prop:=match bs with
 | []=>False
 |x::_=>X.surv (l.filter fun p=>qbd p.lo x.idx) bs s M
def zda (X:RnD):List CI→List Mo→DS→VM→(DS→VM→Prop)→(DV→VM→Prop)→Prop
 | [],_,s,M,k,_=>k s M
 |o::l,bs,s,M,k,kp=>match isW o.op with
  |true=>zhQ X o s M (fun v M'=>wSurv X l bs s M∧kp v M') fun v M=>zda X l (⟨zj3 bs,M,[]⟩::bs.map (zcz o.dst)) (zY o.dst v s) M k kp
  |false=>match isRd o.op with
   |true=>ofD (wantD o.guard s) fun b=>match b with
    |true=>wRead o.op (zf o.op) o.dst s o.lo M (fun v bs=>zda X l bs (zY o.dst v s) M k kp) bs
    |false=>zda X l (bs.map (zhg (zf o.op) o.dst)) (zY o.dst (.tup []) s) M k kp
   |false=>match isFl o.op with
    |true=>zhQ X o s M (fun _ _=>False) fun v M=>zda X l (bs.map (zhg (zf o.op) o.dst)) (zY o.dst v s) M k kp
    |false=>zhQ X o s M (fun _ _=>False) fun v M=>zda X l (bs.map (zcz o.dst)) (zY o.dst v s) M k kp
def wStore2 (x y:COp) (s:DS) (M:VM) (k:VM→Prop):Prop:=match x,y with
 |.store n a b,.store m c d=>ofD (evD s a) fun a=>ofD (evD s b) fun b=>ofD (evD s c) fun c=>ofD (evD s d) fun d=>match a,c with
  |.ptr i _ _,.ptr j _ _=>i≠j∧ofD (zfs n M b a) fun M=>ofD (zfs m M d c) k
  |_,_=>False
 |_,_=>False
def wIf (v:DV) (a b:Prop):Prop:=match v with
 |.bool true=>a
 |.bool false=>b
 |_=>False
def blkD (i:Nat) (k:KD) (j:Nat) (s:DS) (M:VM):Prop:=match qo j i with
 |true=>k.nrm s M
 |false=>k.ext j s M
def pendD (k:KD) (s:DS) (M:VM):Option CC→Prop
 |none=>k.nrm s M
 |some .ret=>k.ret s M
 |some (.exit i)=>k.ext i s M
 |_=>False
def rgEndD (k:KD) (s:DS) (l:Nat) (M:VM):Prop:=ofD (M.obj l) fun o=>match o with
 |.loop .ready pend sl rc=>pendD k s (M.put l (.loop .exhausted pend sl rc)) pend
 |.loop .done pend sl rc=>pendD k s (M.put l (.loop .exhausted pend sl rc)) pend
 |_=>False
def wp (X:RnD):CC→KD→DS→VM→Prop
 |.skip,k,s,M=>k.nrm s M
 |.ops l,k,s,M=>wOps X k.pan l s M k.nrm
 |.draw l,k,s,M=>zda X l [⟨0,M,[]⟩] s M k.nrm fun v M=>k.pan v [] M
 |.draw2 l x y,k,s,M=>zda X l [⟨0,M,[]⟩] s M (fun s M=>wStore2 x.op y.op s M fun M=>k.nrm s M) fun _ _=>False
 |.seq a L b,k,s,M=>wp X a ⟨fun s M=>wp X b k (zbH L s) M,k.ext,k.ret,k.pan⟩ s M
 |.cond c a b,k,s,M=>ofD (evD s c) fun v=>wIf v (wp X a k s M) (wp X b k s M)
 |.block i b,k,s,M=>wp X b ⟨k.nrm,blkD i k,k.ret,k.pan⟩ s M
 |.loop L b,k,s,M=>X.loop L b k (zbH L s) M
 |.rangeFunc rid L f ps as b,k,s,M=>ofD (evD s f) fun f=>match f with
  |.fn g a c=>X.call (.fn g a c) [.yld M.next] (M.new (.loop .ready none (zbH L s) ⟨rid,L,ps,as,b⟩)) (fun _ M'=>rgEndD k s M.next M') fun _ _=>False
  |_=>False
 |.exit i,k,s,M=>k.ext i s M
 |.ret,k,s,M=>k.ret s M
 |.scope b l1 r1 l2 r2,k,s,M=>X.scope b l1 r1 l2 r2 k s M
def resD (s:DS) (M:VM):CR→Option DV
 |.tmp p=>getS s p
 |.cell n p=>(getS s p).bind fun v=>(zcP M v).bind fun r=>match n with
  |some n=>(zcZ n r).map .agg
  |none=>oneD r
def resDL (s:DS) (M:VM):List CR→Option (List DV)
 | []=>some []
 |r::rs=>(resD s M r).bind fun v=>(resDL s M rs).map (v:: ·)
def zjt:List DV→DV
 | [v]=>v
 |vs=>.tup vs
def endD (rs:List CR) (k:DV→VM→Prop) (s:DS) (M:VM):Prop:=ofD (resDL s M rs) fun vs=>k (zjt vs) M
def argsD:List DV→Nat→DS→DS
 | [],_,s=>s
 |v::vs,i,s=>argsD vs (i+1) ((bits i,v)::s)
def fnKD (rs:List CR) (k kp:DV→VM→Prop):KD:=⟨endD rs k,fun _ _ _=>False,endD rs k,fun v _ M=>kp v M⟩
def doneKD (X:RnD) (f:DV) (l:List DV) (rs:List CR) (k:DV→VM→Prop):KD:=
 ⟨fun s M=>X.hand f l none M fun M=>endD rs k s M,fun _ _ _=>False,fun s M=>X.hand f l none M fun M=>endD rs k s M,fun v s M=>X.hand f l (some v) M fun M=>endD rs k s M⟩
def dfrKD (X:Nat→RnD) (d:Dfr) (rs:List CR) (k kp:DV→VM→Prop):KD:=
 ⟨fun s M=>ofD (evD s d.f) fun f=>match f with
   |.fn g a c=>ofD (evDL s d.args) fun l=>wp (X M.next) d.rest (doneKD (X M.next) (.fn g a c) l rs k) (zbH d.L s) M
   |_=>False,fun _ _ _=>False,fun _ _=>False,fun v _ M=>kp v M⟩
def bodyKD (X:Nat→RnD) (rs:List CR) (k kp:DV→VM→Prop):Option Dfr→KD
 |none=>fnKD rs k kp
 |some d=>dfrKD X d rs k kp
def wFunc (X:Nat→RnD) (cf:za) (args:List DV) (M:VM) (k kp:DV→VM→Prop):Prop:=args.length≤cf.ntmps∧wp (X M.next) cf.body (bodyKD X cf.results k kp cf.dfr) (argsD args 0 []) M
def zih:List CI→Option DV→DS→VM→(Option DV→DS→VM→Prop)→Prop
 | [],p,s,M,k=>k p s M
 |o::l,p,s,M,k=>ofD (wantD o.guard s) fun b=>match b with
  |true=>match o.op with
   |.recov=>zih l none (zY o.dst (p.getD .nilI) s) M k
   |op=>okD (opD op s M) fun v M=>zih l p (zY o.dst v s) M k
  |false=>zih l p (zY o.dst (.tup []) s) M k
def wHand (X:RnD) (cf:za) (args:List DV) (p:Option DV) (M:VM) (k:VM→Prop):Prop:=args.length≤cf.ntmps∧match cf.dfr,cf.body with
 |none,.seq (.ops l) L b=>zih l p (argsD args 0 []) M fun p s M=>match p with
  |none=>wp X b ⟨endD cf.results fun _ M=>k M,fun _ _ _=>False,endD cf.results fun _ M=>k M,fun _ _ _=>False⟩ (zbH L s) M
  |some _=>False
 |_,_=>False
end
end
section
structure RBd where
 blk:Nat
 sz:Nat
 op:Bool
structure Wd where
 rho:Nat→Option RBd
 Z:Nat→Option (List Value×Nat)
structure Wd.Le (w w':Wd):Prop where
 rho: ∀j R,w.rho j=some R→w'.rho j=some R
 Z: ∀b z,w.Z b=some z→w'.Z b=some z
theorem Wd.Le.refl (w:Wd):w.Le w:=⟨fun _ _ h=>h,fun _ _ h=>h⟩
theorem Wd.Le.trans {a b c:Wd} (h:a.Le b) (h':b.Le c):a.Le c:=⟨fun _ _ e=>h'.rho _ _ (h.rho _ _ e),fun _ _ e=>h'.Z _ _ (h.Z _ _ e)⟩
inductive VRel (w:Wd):DV→Value→Prop where
 |int (k:IntKind) (n:Int):VRel w (.int k n) (.int k n)
 |bool (b:Bool):VRel w (.bool b) (.bool b)
 |str (s:ByteArray):VRel w (.str s) (.string s)
 |bs {b:Nat} {s:ByteArray} (hz:w.Z b=some (s.data.toList.map zhH,roE)):VRel w (.bs s) (.slice (some ⟨b,0,none⟩) s.size zc)
 |nilS:VRel w .nilS (.slice none 0 0)
 |nilP:VRel w .nilP (.pointer none)
 |nilM:VRel w .nilM (.map none)
 |nilF:VRel w .nilF .nilFunc
 |nilI:VRel w .nilI .nilIface
 |agg {l:List DV} {vs:List Value} (hl:l.length=vs.length) (h: ∀(k:Nat) d v,l[k]? =some d→vs[k]? =some v→VRel w d v):VRel w (.agg l) (.agg ⟨vs⟩)
 |tup {l:List DV} {vs:List Value} (hl:l.length=vs.length) (h: ∀(k:Nat) d v,l[k]? =some d→vs[k]? =some v→VRel w d v):VRel w (.tup l) (.tuple ⟨vs⟩)
 |fn (g:Nat) {a c:List DV} {a' c':List Value} (ha:a.length=a'.length) (hc:c.length=c'.length) (h: ∀(k:Nat) d v,a[k]? =some d→a'[k]? =some v→VRel w d v)
   (h': ∀(k:Nat) d v,c[k]? =some d→c'[k]? =some v→VRel w d v):VRel w (.fn g a c) (.func (.func g) ⟨a'⟩ ⟨c'⟩)
 |yld {l:Nat} {R:RBd} (h:w.rho l=some R):VRel w (.yld l) (.func (.yield R.blk) #[] #[])
 |ifc (t:Nat) {d:DV} {v:Value} (h:VRel w d v):VRel w (.ifc t d) (.iface t v)
 |map {j:Nat} {R:RBd} (h:w.rho j=some R):VRel w (.map j) (.map (some R.blk))
 |ptr {j i off:Nat} {R:RBd} (h:w.rho j=some R):VRel w (.ptr j i off) (.pointer (some ⟨R.blk,i*R.sz+off,none⟩))
 |ms {j lo len cap:Nat} {R:RBd} (h:w.rho j=some R) (ho:cap=zc→R.op=true) (hc:cap≠zc→len≤cap∧cap<zc):VRel w (.ms j lo len cap) (.slice (some ⟨R.blk,lo*R.sz,none⟩) len cap)
 |lst {b o s n cap e:Nat} {cs:List Value} {rows:List (List DV)} (hz:w.Z b=some (cs,e)) (hs: ∀r∈rows,r.length=s) (hb:o+rows.length*s≤cs.length)
   (h: ∀(k:Nat) d v,rows.flatten[k]? =some d→cs[o+k]? =some v→VRel w d v)
   (ho:cap=zc→e=s∧0<s∧s<roE) (hc:cap≠zc→rows.length≤cap∧cap<zc) (hn:n=rows.length):VRel w (.lst s rows) (.slice (some ⟨b,o,none⟩) n cap)
 |lst0 {s cap:Nat} {base:Option Addr} (hc:cap<zc) (hsp: ∀a,base=some a→a.spot=none):VRel w (.lst s []) (.slice base 0 cap)
 |pl {b o s e i off:Nat} {cs:List Value} {rows:List (List DV)} (hz:w.Z b=some (cs,e)) (hs: ∀r∈rows,r.length=s) (hb:o+rows.length*s≤cs.length)
   (h: ∀(k:Nat) d v,rows.flatten[k]? =some d→cs[o+k]? =some v→VRel w d v):VRel w (.pl s rows i off) (.pointer (some ⟨b,o+i*s+off,none⟩))
theorem VRel.mono {w w':Wd} (hl:w.Le w') {d:DV} {v:Value} (h:VRel w d v):VRel w' d v:=by
 induction h with
 |int k n=>exact .int k n
 |bool b=>exact .bool b
 |str s=>exact .str s
 |bs hz=>exact .bs (hl.Z _ _ hz)
 |nilS=>exact .nilS
 |nilP=>exact .nilP
 |nilM=>exact .nilM
 |nilF=>exact .nilF
 |nilI=>exact .nilI
 |agg hl' _ ih=>exact .agg hl' ih
 |tup hl' _ ih=>exact .tup hl' ih
 |fn g ha hc _ _ ih ih'=>exact .fn g ha hc ih ih'
 |yld h=>exact .yld (hl.rho _ _ h)
 |ifc t _ ih=>exact .ifc t ih
 |map h=>exact .map (hl.rho _ _ h)
 |ptr h=>exact .ptr (hl.rho _ _ h)
 |ms h ho hc=>exact .ms (hl.rho _ _ h) ho hc
 |lst hz hs hb _ ho hc hn ih=>exact .lst (hl.Z _ _ hz) hs hb ih ho hc hn
 |lst0 hc hsp=>exact .lst0 hc hsp
 |pl hz hs hb _ ih=>exact .pl (hl.Z _ _ hz) hs hb ih
structure LRel (w:Wd) (l:List DV) (vs:List Value):Prop where
 len:l.length=vs.length
 at_: ∀(k:Nat) d v,l[k]? =some d→vs[k]? =some v→VRel w d v
theorem LRel.nil {w:Wd}:LRel w [] []:=⟨rfl,fun k d v h=>by simp at h⟩
theorem LRel.cons {w:Wd} {d:DV} {v:Value} {l:List DV} {vs:List Value} (h:VRel w d v) (h':LRel w l vs):LRel w (d::l) (v::vs):=
 ⟨by simp[h'.len],fun k d' v' h1 h2=>by
   cases k with
   |zero=>simp at h1 h2;subst h1;subst h2;exact h
   |succ k=>simp at h1 h2;exact h'.at_ k d' v' h1 h2⟩
theorem LRel.head {w:Wd} {d:DV} {l:List DV} {vs:List Value} (h:LRel w (d::l) vs): ∃v r,vs=v::r∧VRel w d v∧LRel w l r:=by
 obtain⟨h1,h2⟩:=h;cases vs with
 |nil=>simp at h1
 |cons v r=>exact⟨v,r,rfl,h2 0 d v rfl rfl,by simpa using h1,fun k d' v' a b=>h2 (k+1) d' v' (by simpa using a) (by simpa using b)⟩
theorem LRel.inv_nil {w:Wd} {vs:List Value} (h:LRel w [] vs):vs=[]:=by
 have:=h.len;cases vs with
 |nil=>rfl
 |cons=>simp at this
theorem LRel.mono {w w':Wd} (hl:w.Le w') {l:List DV} {vs:List Value} (h:LRel w l vs):LRel w' l vs:=⟨h.len,fun k d v a b=>(h.at_ k d v a b).mono hl⟩
theorem LRel.get {w:Wd} {l:List DV} {vs:List Value} (h:LRel w l vs) {k:Nat} {d:DV} (hk:l[k]? =some d): ∃v,vs[k]? =some v∧VRel w d v:=by
 have hlt:k<vs.length:=by
  have:=(qn.1 hk).1;have:=h.len;omega
 exact⟨vs[k],ql hlt,h.at_ k d _ hk (ql hlt)⟩
theorem LRel.append {w:Wd} {l m:List DV} {vs us:List Value} (h:LRel w l vs) (h':LRel w m us):LRel w (l++m) (vs++us):=by
 induction l generalizing vs with
 |nil=>rw[h.inv_nil];exact h'
 |cons d l ih=>obtain⟨v,r,rfl,hv,hr⟩:=h.head;exact .cons hv (ih hr)
theorem LRel.take {w:Wd} {l:List DV} {vs:List Value} (h:LRel w l vs) (n:Nat):LRel w (l.take n) (vs.take n):=
 ⟨by simp[h.len],fun k d v a b=>by
   rw[qT] at a b
   split at a
   ·rename_i hk;rw[if_pos hk] at b;exact h.at_ k d v a b
   ·cases a⟩
theorem LRel.drop {w:Wd} {l:List DV} {vs:List Value} (h:LRel w l vs) (n:Nat):LRel w (l.drop n) (vs.drop n):=
 ⟨by simp[h.len],fun k d v a b=>by rw[qU] at a b;exact h.at_ _ d v a b⟩
theorem VRel.agg_of {w:Wd} {l:List DV} {vs:List Value} (h:LRel w l vs):VRel w (.agg l) (.agg ⟨vs⟩):=.agg h.len h.at_
theorem VRel.tup_of {w:Wd} {l:List DV} {vs:List Value} (h:LRel w l vs):VRel w (.tup l) (.tuple ⟨vs⟩):=.tup h.len h.at_
section
variable {w:Wd} {v:Value}
theorem VRel.inv_int {k:IntKind} {n:Int} (h:VRel w (.int k n) v):v=.int k n:=by cases h;rfl
theorem VRel.inv_bool {b:Bool} (h:VRel w (.bool b) v):v=.bool b:=by cases h;rfl
theorem VRel.inv_str {s:ByteArray} (h:VRel w (.str s) v):v=.string s:=by cases h;rfl
theorem VRel.inv_agg {l:List DV} (h:VRel w (.agg l) v): ∃vs,v=.agg ⟨vs⟩∧LRel w l vs:=by cases h with|agg hl h=>exact⟨_,rfl,hl,h⟩
theorem VRel.inv_tup {l:List DV} (h:VRel w (.tup l) v): ∃vs,v=.tuple ⟨vs⟩∧LRel w l vs:=by cases h with|tup hl h=>exact⟨_,rfl,hl,h⟩
theorem VRel.inv_fn {g:Nat} {a c:List DV} (h:VRel w (.fn g a c) v): ∃a' c',v=.func (.func g) ⟨a'⟩ ⟨c'⟩∧LRel w a a'∧LRel w c c':=by cases h with|fn _ ha hc h h'=>exact⟨_,_,rfl,⟨ha,h⟩,hc,h'⟩
theorem VRel.cells {d:DV} (h:VRel w d v):LRel w (zr d) (zS v):=by
 cases h with
 |agg hl h=>exact⟨hl,h⟩
 |_=>exact .cons (by constructor<;>assumption) .nil
theorem VRel.isCell {d:DV} (h:VRel w d v) (hc:zj d=true):Ideal.isCell v=true:=by
 cases h<;>first|rfl|cases hc
theorem VRel.clean {d:DV} (h:VRel w d v):clean1 v=true:=by cases h<;>rfl
theorem LRel.clean {l:List DV} {vs:List Value} (h:LRel w l vs):vs.all clean1=true:=by
 rw[qt];intro x hx;obtain⟨k,hk,e⟩:=qbv hx;have hk':k<l.length:=by rw[h.len];exact hk
 exact(h.at_ k _ x (ql hk') (by rw[←e];exact ql hk)).clean
theorem LRel.isCell {l:List DV} {vs:List Value} (h:LRel w l vs) (hc:l.all zj=true):vs.all Ideal.isCell=true:=by
 rw[qt] at hc⊢;intro x hx;obtain⟨k,hk,e⟩:=qbv hx;have hk':k<l.length:=by rw[h.len];exact hk
 exact(h.at_ k _ x (ql hk') (by rw[←e];exact ql hk)).isCell (hc _ (qbF hk'))
end
theorem zjd {w:Wd} {v:Value} {d:DV} (h:dOf1 v=some d):VRel w d v:=by
 unfold dOf1 at h
 split at h<;>cases h<;>constructor
theorem ze6 {w:Wd}: ∀{vs:List Value} {l:List DV},dOfL vs=some l→LRel w l vs
 | [],l,h=>by cases h;exact .nil
 |v::r,l,h=>by
  obtain⟨d,hd,h⟩:=aof h;obtain⟨l',hl,rfl⟩:=amf h;exact .cons (zjd hd) (ze6 hl)
theorem dOf_rel {w:Wd} {v:Value} {d:DV} (h:dOf v=some d):VRel w d v:=by
 unfold dOf at h
 split at h
 ·cases h;exact .fn _ rfl rfl (fun k d v h=>by simp at h) (fun k d v h=>by simp at h)
 ·obtain⟨l,hl,rfl⟩:=amf h;exact .agg_of (ze6 hl)
 ·exact zjd h
def SRel (w:Wd) (s:DS) (t:zb):Prop:= ∀p d,getS s p=some d→ ∃v,t.get p=some v∧VRel w d v
theorem SRel.mono {w w':Wd} (hl:w.Le w') {s:DS} {t:zb} (h:SRel w s t):SRel w' s t:=fun p d e=>by obtain⟨v,a,b⟩:=h p d e;exact⟨v,a,b.mono hl⟩
theorem SRel.nil {w:Wd} {t:zb}:SRel w [] t:=fun p d e=>by cases e
theorem beqP_eq: ∀{p q:List Bool},beqP p q=true→p=q
 | [],[],_=>rfl
 |a::l,b::m,h=>by
  have h:((a==b)&&beqP l m)=true:=h;rw[qr,beq_iff_eq] at h;rw[h.1,beqP_eq h.2]
 | [],_::_,h=>by cases h
 |_::_,[],h=>by cases h
theorem zdq (q:List Bool) (d:DV) (s:DS) (p:List Bool):getS ((q,d)::s) p=if q=p then some d else getS s p:=by
 show(match beqP q p with|true=>some d|false=>getS s p)=_;cases h:beqP q p with
 |true=>rw[if_pos (beqP_eq h)]
 |false=>rw[if_neg (fun e=>by rw[e,zez] at h;cases h)]
theorem SRel.set {w:Wd} {s:DS} {t:zb} (h:SRel w s t) {d:DV} {v:Value} (hv:VRel w d v) (p:List Bool):SRel w ((p,d)::s) (t.set p v):=by
 intro q e hq;rw[zdq] at hq;by_cases hp:p=q
 ·rw[if_pos hp] at hq;cases hq;subst hp;exact⟨v,PT.get_set_same v p t,hv⟩
 ·rw[if_neg hp] at hq;rw[PT.get_set_ne v p q t hp];exact h q e hq
theorem SRel.put {w:Wd} {s:DS} {t:zb} (h:SRel w s t) {d:DV} {v:Value} (hv:VRel w d v) (p:Option (List Bool)):SRel w (zY p d s) (zbh p v t):=by
 cases p with
 |none=>exact h
 |some p=>exact h.set hv p
theorem zlu (s:DS) (p:List Bool): ∀L:List (List Bool),getS (zkX s L) p=if p∈L then getS s p else none
 | []=>rfl
 |q::L=>by
  have ih:=zlu s p L;unfold zkX;cases hq:getS s q with
  |none=>
   dsimp only;rw[ih];by_cases e:p=q
   ·subst e;rw[hq];simp
   ·simp[e]
  |some d=>
   dsimp only;rw[zdq,ih];by_cases e:q=p
   ·subst e;rw[if_pos rfl,hq];simp
   ·rw[if_neg e];simp[Ne.symm e]
theorem zlv {L:List (List Bool)} {s:DS} {p:List Bool} {d:DV} (h:getS (zbH L s) p=some d):getS s p=some d∧(L=[]∨p∈L):=by
 cases L with
 |nil=>exact⟨h,.inl rfl⟩
 |cons q L=>
  have h:getS (zkX s (q::L)) p=some d:=h;rw[zlu] at h
  split at h
  ·rename_i hm;exact⟨h,.inr hm⟩
  ·cases h
theorem SRel.keep {w:Wd} {s:DS} {t:zb} (h:SRel w s t) (L:List (List Bool)):SRel w (zbH L s) (keepA L t):=by
 intro p d hp;obtain⟨h1,h2⟩:=zlv hp;obtain⟨v,hv,hr⟩:=h p d h1;refine⟨v,?_,hr⟩;cases L with
 |nil=>exact hv
 |cons q L=>
  show(zc4 (q::L) t).get p=some v;rw[zdn,if_pos (h2.resolve_left (by simp))];exact hv
def ziW (w:Wd) (N:List (List Bool)) (s:DS) (t:zb):Prop:= ∀p∈N,∀d,getS s p=some d→ ∃v,t.get p=some v∧VRel w d v
theorem SRel.N {w:Wd} {s:DS} {t:zb} (h:SRel w s t) (N:List (List Bool)):ziW w N s t:=fun p _ d e=>h p d e
theorem ziW.sub {w:Wd} {N N':List (List Bool)} {s:DS} {t:zb} (h:ziW w N s t) (hs: ∀p∈N',p∈N):ziW w N' s t:=fun p hp d e=>h p (hs p hp) d e
theorem zm {w:Wd} {s:DS} {t:zb} {x:CO} (h:ziW w (zi x) s t) {d:DV} (hx:evD s x=some d): ∃v,x.ev t=some v∧VRel w d v:=by
 cases x with
 |t p=>exact h p (qB.2 rfl) d hx
 |c v=>exact⟨v,rfl,dOf_rel hx⟩
theorem zby {w:Wd} {s:DS} {t:zb} (h:SRel w s t) {x:CO} {d:DV} (hx:evD s x=some d): ∃v,x.ev t=some v∧VRel w d v:=zm (h.N _) hx
theorem zet {w:Wd} {s:DS} {t:zb}: ∀{l:List CO} {ds:List DV},ziW w (l.flatMap zi) s t→evDL s l=some ds→ ∃vs,evL t l=some vs∧LRel w ds vs
 | [],ds,_,hx=>by cases hx;exact⟨[],rfl,.nil⟩
 |x::l,ds,h,hx=>by
  obtain⟨d,hd,hx⟩:=aof hx;obtain⟨r,hr,rfl⟩:=amf hx;obtain⟨v,hv,h1⟩:=zm (h.sub fun p hp=>by simp[hp]) hd;obtain⟨vs,hvs,h2⟩:=zet (h.sub fun p hp=>by rw[qbj];exact qL _ hp) hr;exact⟨v::vs,by show(x.ev t).bind _=_;rw[hv];show(evL t l).map _=_;rw[hvs];rfl,.cons h1 h2⟩
theorem zf8 {w:Wd} {s:DS} {t:zb} (h:SRel w s t) {l:List CO} {ds:List DV} (hx:evDL s l=some ds): ∃vs,evL t l=some vs∧LRel w ds vs:=zet (h.N _) hx
def ORelO (w:Wd):Option DV→Option Value→Prop
 |none,none=>True
 |some d,some v=>VRel w d v
 |_,_=>False
theorem zfM {w:Wd} {s:DS} {t:zb} {x:Option CO} (h:ziW w (zdZ x) s t) {d:Option DV} (hx:evDO s x=some d): ∃v,evO t x=some v∧ORelO w d v:=by
 cases x with
 |none=>cases hx;exact⟨none,rfl,trivial⟩
 |some x=>
  obtain⟨e,he,rfl⟩:=amf hx;obtain⟨v,hv,hr⟩:=zm h he;exact⟨some v,by show(x.ev t).map some=_;rw[hv];rfl,hr⟩
end
section
section
variable {rs:List (List DV)} {s:Nat}
theorem zX (h: ∀r∈rs,r.length=s):rs.flatten.length=rs.length*s:=by
 induction rs with
 |nil=>simp
 |cons r rs ih=>
  rw[qx,List.length_append,ih fun x hx=>h x (qM _ hx),h r (qbe ..),List.length_cons,qZ];omega
theorem zds (h: ∀r∈rs,r.length=s) (n:Nat):(rs.drop n).flatten=rs.flatten.drop (n*s):=by
 induction rs generalizing n with
 |nil=>simp
 |cons r rs ih=>
  cases n with
  |zero=>simp
  |succ n=>
   have hr:=h r (qbe ..);rw[qbw,ih fun x hx=>h x (qM _ hx),qx,qZ,qN,show r.drop (n*s+s)=[] from qbr (by omega),List.nil_append]
   congr 1;omega
theorem zdr (h: ∀r∈rs,r.length=s) (n:Nat):(rs.take n).flatten=rs.flatten.take (n*s):=by
 induction rs generalizing n with
 |nil=>simp
 |cons r rs ih=>
  cases n with
  |zero=>simp
  |succ n=>
   have hr:=h r (qbe ..);rw[qbx,qx,ih fun x hx=>h x (qM _ hx),qx,qZ,qbG,show r.take (n*s+s)=r from qJ (by omega)]
   congr 2;omega
theorem flat_at (h: ∀r∈rs,r.length=s) {i:Nat} {r:List DV} (hi:rs[i]? =some r): ∃tl,rs.flatten.drop (i*s)=r++tl:=by
 rw[←zds h,List.drop_eq_getElem_cons (qn.1 hi).1];obtain⟨h1,rfl⟩:=qn.1 hi;exact⟨_,rfl⟩
end
theorem zf1: ∀{n:Nat} {l r:List DV},zcZ n l=some r→n≤l.length∧r=l.take n
 |0,l,r,h=>by cases h;exact⟨Nat.zero_le _,rfl⟩
 |n+1,[],r,h=>by cases h
 |n+1,a::l,r,h=>by
  obtain⟨r',hr,rfl⟩:=amf h;obtain⟨h1,rfl⟩:=zf1 hr;exact⟨by simp;omega,rfl⟩
theorem zd9 {w:Wd}: ∀{l:List DV} {vs:List Value} {off:Nat} {xs:List DV} {us:List Value} {l':List DV},LRel w l vs→LRel w xs us→zp l off xs=some l'→ ∃vs',zbp vs off us=some vs'∧LRel w l' vs'
 |l,vs,off,[],us,l',h,hx,e=>by
  rw[hx.inv_nil];have:l'=l:=by cases l<;>cases off<;>cases e<;>rfl
  subst this;exact⟨vs,by cases vs<;>cases off<;>rfl,h⟩
 | [],vs,off,x::xs,us,l',h,hx,e=>by cases off<;>cases e
 |c::l,vs,0,x::xs,us,l',h,hx,e=>by
  obtain⟨v,r,rfl,hv,hr⟩:=h.head;obtain⟨u,us',rfl,hu,hus⟩:=hx.head;obtain⟨l2,e2,rfl⟩:=amf (show(zp l 0 xs).map (x:: ·)=some l' from e);obtain⟨vs',e3,h3⟩:=zd9 hr hus e2;exact⟨u::vs',by show(zbp r 0 us').map (u:: ·)=_;rw[e3];rfl,.cons hu h3⟩
 |c::l,vs,n+1,x::xs,us,l',h,hx,e=>by
  obtain⟨v,r,rfl,hv,hr⟩:=h.head;obtain⟨u,us',rfl,hu,hus⟩:=hx.head;obtain⟨l2,e2,rfl⟩:=amf (show(zp l n (x::xs)).map (c:: ·)=some l' from e);obtain⟨vs',e3,h3⟩:=zd9 hr hx e2;exact⟨v::vs',by show(zbp r n (u::us')).map (v:: ·)=_;rw[e3];rfl,.cons hv h3⟩
theorem writeD_len {l:List DV} {off:Nat} {xs l':List DV} (h:zp l off xs=some l'):l'.length=l.length:=by
 induction l generalizing off xs l' with
 |nil=>
  cases xs with
  |nil=>cases off<;>cases h<;>rfl
  |cons=>cases off<;>cases h
 |cons c l ih=>
  cases xs with
  |nil=>cases off<;>cases h<;>rfl
  |cons x xs=>
   cases off with
   |zero=>obtain⟨l2,e2,rfl⟩:=amf (show(zp l 0 xs).map (x:: ·)=some l' from h);simp[ih e2]
   |succ n=>obtain⟨l2,e2,rfl⟩:=amf (show(zp l n (x::xs)).map (c:: ·)=some l' from h);simp[ih e2]
section
variable {w:Wd}
theorem zy {dflt y n:Nat} {d:Option DV} {v:Option Value} (h:zl dflt y d=some n) (hv:ORelO w d v):zbM dflt y v=some n:=by
 cases d with
 |none=>cases v with
  |none=>exact h
  |some=>exact hv.elim
 |some d=>cases v with
  |none=>exact hv.elim
  |some v=>
   unfold zl inD at h;dsimp only at h
   split at h
   ·have hv:VRel w _ v:=hv;rw[hv.inv_int]
    split at h
    ·rename_i m hle;cases h;show inB (.ofNat _) y=_;unfold inB;simp[hle]
    ·cases h
   ·cases h
theorem zce {y n dflt:Nat} {d:Option DV} (h:zl dflt y d=some n):n≤y∨(d=none∧n=dflt):=by
 unfold zl at h
 split at h
 ·cases h;exact .inr ⟨rfl,rfl⟩
 ·unfold inD at h
  split at h
  ·split at h
   ·cases h;exact .inl ‹_›
   ·cases h
  ·cases h
theorem sameLeafD_rel {x y:DV} {x' y':Value} {b:Bool} (h:zjI x y=some b) (hx:VRel w x x') (hy:VRel w y y'):zg2 x' y'=some b:=by
 unfold zjI at h
 split at h
 ·rw[hx.inv_int,hy.inv_int];exact h
 ·cases h
theorem zgz {xs ys:List DV} {vs us:List Value} (hx:LRel w xs vs) (hy:LRel w ys us): ∀{l:List Nat} {b:Bool},zh0 xs ys l=some b→sameAt vs us l=some b
 | [],b,h=>h
 |i::r,b,h=>by
  obtain⟨x,h1,h⟩:=aof h;obtain⟨y,h2,h⟩:=aof h;obtain⟨c,h3,h⟩:=aof h;obtain⟨e,h4,rfl⟩:=amf h;obtain⟨x',g1,q1⟩:=hx.get h1;obtain⟨y',g2,q2⟩:=hy.get h2;unfold sameAt;rw[g1,g2,qd,qd,sameLeafD_rel h3 q1 q2,qd,zgz hx hy h4];rfl
theorem sameKD_rel {k:LK} {x y:DV} {x' y':Value} {b:Bool} (h:sameKD k x y=some b) (hx:VRel w x x') (hy:VRel w y y'):sameK k x' y'=some b:=by
 unfold sameKD at h
 split at h
 ·rw[hx.inv_int,hy.inv_int];exact h
 ·rw[hx.inv_bool,hy.inv_bool];exact h
 ·rw[hx.inv_str,hy.inv_str];exact h
 ·cases h
theorem zjJ {xs ys:List DV} {vs us:List Value} (hx:LRel w xs vs) (hy:LRel w ys us): ∀{l:List (Nat×LK)} {b:Bool},sameKsD xs ys l=some b→zdI vs us l=some b
 | [],b,h=>h
 |i::r,b,h=>by
  obtain⟨x,h1,h⟩:=aof h;obtain⟨y,h2,h⟩:=aof h;obtain⟨c,h3,h⟩:=aof h;obtain⟨e,h4,rfl⟩:=amf h;obtain⟨x',g1,q1⟩:=hx.get h1;obtain⟨y',g2,q2⟩:=hy.get h2;unfold zdI;rw[g1,g2,qd,qd,sameKD_rel h3 q1 q2,qd,zjJ hx hy h4];rfl
theorem eqD_rel {ek:EK} {x y:DV} {x' y':Value} {b:Bool} (h:eqD ek x y=some b) (hx:VRel w x x') (hy:VRel w y y'):eqV ek x' y'=some b:=by
 unfold eqD at h
 split at h
 case h_21=>
  obtain⟨vs,rfl,r1⟩:=hx.inv_agg;obtain⟨us,rfl,r2⟩:=hy.inv_agg;exact zgz r1 r2 h
 case h_22=>
  obtain⟨vs,rfl,r1⟩:=hx.inv_agg;obtain⟨us,rfl,r2⟩:=hy.inv_agg;exact zjJ r1 r2 h
 case h_23=>cases h
 all_goals (cases hx<;>cases hy<;>first|exact h| (cases h;rfl)| (cases h;cases ‹Bool› <;>rfl))
theorem binD_rel {op:BinOp} {ek:EK} {x y d:DV} {x' y':Value} (h:binD op ek x y=some d) (hx:VRel w x x') (hy:VRel w y y'): ∃v,binV op ek x' y'=some v∧VRel w d v:=by
 unfold binD at h
 split at h
 ·rw[hx.inv_int,hy.inv_int];obtain⟨v,hv,hd⟩:=aof h;exact⟨v,hv,zjd hd⟩
 ·rw[hx.inv_str,hy.inv_str];obtain⟨v,hv,hd⟩:=aof h;exact⟨v,hv,zjd hd⟩
 ·rename_i n1 n2;have e:eqlV ek x' y' op=binV op ek x' y':=by
   unfold binV
   split
   ·cases hx;cases hy;exact absurd rfl (n1 _ _ _ _ rfl)
   ·cases hx;cases hy;exact absurd rfl (n2 _ _ rfl)
   ·rfl
  rw[←e];unfold eqlD at h
  split at h
  ·obtain⟨b,hb,rfl⟩:=amf h;exact⟨.bool b,by show(eqV ek x' y').map _=_;rw[eqD_rel hb hx hy];rfl,.bool _⟩
  ·obtain⟨b,hb,rfl⟩:=amf h;exact⟨.bool !b,by show(eqV ek x' y').map _=_;rw[eqD_rel hb hx hy];rfl,.bool _⟩
  ·cases h
theorem unD_rel {op:UnOp} {x d:DV} {x':Value} (h:unD op x=some d) (hx:VRel w x x'): ∃v,unV op x'=some v∧VRel w d v:=by
 unfold unD at h
 split at h
 ·cases h;rw[hx.inv_int];exact⟨_,rfl,.int _ _⟩
 ·cases h;rw[hx.inv_bool];exact⟨_,rfl,.bool _⟩
 ·cases h
theorem convD_rel {k:IntKind} {x d:DV} {x':Value} (h:zkw k x=some d) (hx:VRel w x x'): ∃v,convV k x'=some v∧VRel w d v:=by
 unfold zkw at h
 split at h
 ·cases h;rw[hx.inv_int];exact⟨_,rfl,.int _ _⟩
 ·cases h
theorem zdJ {kk:KK} {x y:DV} {x' y':Value} {b:Bool} (h:zD kk x y=some b) (hx:VRel w x x') (hy:VRel w y y'):zch kk x' y'=some b:=by
 unfold zD at h
 split at h
 ·rw[hx.inv_str,hy.inv_str];exact h
 ·rw[hx.inv_int,hy.inv_int];exact h
 ·obtain⟨vs,rfl,r1⟩:=hx.inv_agg;obtain⟨us,rfl,r2⟩:=hy.inv_agg;exact zgz r1 r2 h
 ·cases h
theorem zgE {m:Bool}: ∀{l:List DV} {x d:DV} {x':Value} {vs:List Value},zfz m x l=some d→VRel w x x'→LRel w l vs→ ∃v,zdO m x' vs=some v∧VRel w d v
 | [],x,d,x',vs,h,hx,hl=>by
   rw[hl.inv_nil];have:d=x:=by unfold zfz at h;cases x<;>cases h<;>rfl
   subst this;exact⟨x',by unfold zdO;cases x'<;>rfl,hx⟩
 |y::l,x,d,x',vs,h,hx,hl=>by
  obtain⟨y',r,rfl,hy,hr⟩:=hl.head;unfold zfz at h
  split at h
  ·cases ‹_::_=[]›
  ·rename_i e;cases e
   split at h
   ·rename_i hk;subst hk;rw[hx.inv_int,hy.inv_int];obtain⟨v,hv,hd⟩:=zgE h (.int _ _) hr;exact⟨v,by unfold zdO;rw[if_pos rfl];exact hv,hd⟩
   ·cases h
  ·cases h
theorem zln {s:DS} {t:zb}: ∀{ps:List (Nat×Nat×CO)} {l:List (Nat×Nat×DV)},ziW w (ps.flatMap fun p=>zi p.2.2) s t→zhb s ps=some l→
 ∃l',ze4 t ps=some l'∧l'.map (fun x=>(x.1,x.2.1))=l.map (fun x=>(x.1,x.2.1))∧LRel w (l.map fun x=>x.2.2) (l'.map fun x=>x.2.2)
 | [],l,_,h=>by cases h;exact⟨[],rfl,rfl,.nil⟩
 | (o,n,x)::ps,l,hs,h=>by
   obtain⟨d,hd,h⟩:=aof h;obtain⟨r,hr,rfl⟩:=amf h;obtain⟨v,hv,h1⟩:=zm (hs.sub fun p hp=>by simp[hp]) hd;obtain⟨r',hr',e,h2⟩:=zln (hs.sub fun p hp=>by rw[qbj];exact qL _ hp) hr;exact⟨(o,n,v)::r',by unfold ze4;rw[hv,qd,hr'];rfl,by simp[e],.cons h1 h2⟩
theorem fillD_rel: ∀{l:List (Nat×Nat×DV)} {l':List (Nat×Nat×Value)} {cs cs':List DV} {vs:List Value},LRel w cs vs→l'.map (fun x=>(x.1,x.2.1))=l.map (fun x=>(x.1,x.2.1))→LRel w (l.map fun x=>x.2.2) (l'.map fun x=>x.2.2)→zij cs l=some cs'→
 ∃vs',ziU vs l'=some vs'∧LRel w cs' vs'
 | [],l',cs,cs',vs,hc,e,_,h=>by
   cases h;cases l' with
   |nil=>exact⟨vs,rfl,hc⟩
   |cons=>cases e
 | (o,n,x)::l,[],cs,cs',vs,hc,e,_,h=>by cases e
 | (o,n,x)::l,(o',n',x')::l',cs,cs',vs,hc,e,hl,h=>by
   simp only[qbh,List.cons.injEq,qX] at e hl;obtain⟨⟨rfl,rfl⟩,e⟩:=e;obtain⟨x2,r2,e2,hx,hr⟩:=hl.head;cases e2;unfold zij at h
   split at h
   ·rename_i hc1;obtain⟨c1,h1,h⟩:=aof h;obtain⟨v1,h2,h3⟩:=zd9 hc hx.cells h1;obtain⟨vs',h4,h5⟩:=fillD_rel h3 e hr h;refine⟨vs',?_,h5⟩;unfold ziU;rw[if_pos (by simp[←hx.cells.len,hc1.1,hc1.2.1]),h2,qd,h4]
   ·cases h
theorem offD_rel {n:Nat} {x d:DV} {x':Value} (h:offD n x=some d) (hx:VRel w x x'): ∃a,x'=.pointer (some a)∧VRel w d (.pointer (some ⟨a.block,a.off+n,none⟩)):=by
 unfold offD at h
 split at h
 ·cases h;cases hx with
  |pl hz hs hb h=>refine⟨_,rfl,?_⟩;dsimp only;rw[qbi,qbi,←qbi];exact VRel.pl hz hs hb h
 ·cases h;cases hx with
  |ptr h=>exact⟨_,rfl,(qbi _ _ _).symm▸VRel.ptr h⟩
 ·cases h
def MTy (w:Wd) (M:VM):Prop:= ∀j R op sz rs,M.obj j=some (.rows op sz rs)→w.rho j=some R→sz=R.sz∧op=R.op
theorem addrD_rel {M:VM} (hm:MTy w M) {size:Nat} {i x d:DV} {i' x':Value} (h:ziV size M i x=some d) (hi:VRel w i i') (hx:VRel w x x'): ∃v,ziB size x' i'=some v∧VRel w d v:=by
 cases x with
 |lst s rows=>
  unfold ziV at h;dsimp only at h
  split at h
  ·split at h
   ·rename_i hc;obtain⟨rfl,hlt⟩:=hc;cases h;rw[hi.inv_int];cases hx with
    |lst hz hs hb h ho hc hn=>
     subst hn;refine⟨_,?_,.pl hz hs hb h⟩;unfold ziB;simp[hlt]
    |lst0=>simp at hlt
   ·cases h
  ·cases h
 |bs s=>
  unfold ziV at h;dsimp only at h
  split at h
  ·split at h
   ·rename_i hc;obtain⟨rfl,hlt⟩:=hc;cases h;rw[hi.inv_int];cases hx with
    |bs hz=>
     have hs:s.size=s.data.toList.length:=rfl;refine⟨_,?_,.pl (o:=0) hz (fun r hr=>by obtain⟨_,_,rfl⟩:=qbA.1 hr;rfl) (by simp) (fun k d v a b=> ?_)⟩
     ·unfold ziB;simp[hlt]
     ·have hf: ∀l:List UInt8,(l.map fun b=>[DV.int .u8 b.toNat]).flatten=l.map fun b=>DV.int .u8 b.toNat:=fun l=>by
       induction l with
       |nil=>rfl
       |cons x l ih=>rw[qbh,qx,ih];rfl
      rw[hf,qbk] at a;rw[Nat.zero_add,qbk] at b;cases e:s.data.toList[k]? with
      |none=>rw[e] at a;cases a
      |some y=>rw[e] at a b;cases a;cases b;exact .int _ _
   ·cases h
  ·cases h
 |ms j lo len cap=>
  unfold ziV at h;dsimp only at h;obtain⟨o,ho,h1⟩:=aof h;clear h;cases o with
  |rows op sz rs=>
   cases i with
   |int k n=>
    cases n with
    |ofNat i=>
     dsimp only at h1
     split at h1
     ·rename_i hc;obtain⟨rfl,hlt⟩:=hc;cases h1;rw[hi.inv_int];cases hx with
      | @ms _ _ _ _ R hr _ _=>
        obtain⟨rfl,-⟩:=hm _ R _ _ _ ho hr;have:=VRel.ptr (i:=lo+i) (off:=0) hr;refine⟨_,?_,this⟩;unfold ziB;simp[hlt,qy]
     ·cases h1
    |negSucc=>cases h1
   |_=>cases h1
  |_=>cases h1
 |_=>cases h
theorem arrD_rel {n size:Nat} {i x d:DV} {i' x':Value} (h:arrD n size i x=some d) (hi:VRel w i i') (hx:VRel w x x'): ∃v,zem n size x' i'=some v∧VRel w d v:=by
 unfold arrD at h
 split at h
 ·split at h
  ·rename_i hlt;obtain⟨a,rfl,hd⟩:=offD_rel h hx;rw[hi.inv_int];exact⟨_,by unfold zem;simp[hlt],hd⟩
  ·cases h
 ·cases h
theorem nilD_rel {x d:DV} {x':Value} (h:nilD x=some d) (hx:VRel w x x'): ∃v,nilV x'=some v∧VRel w d v:=by
 unfold nilD at h
 split at h<;>cases h<;>(refine⟨x',?_,hx⟩)<;>cases hx<;>rfl
theorem assertD_rel {t:TypeId} {z x d:DV} {ok:Bool} {x' z':Value} (h:zkL t z ok x=some d) (hx:VRel w x x') (hz:VRel w z z'): ∃v,zkK t z' ok x'=some v∧VRel w d v:=by
 unfold zkL at h
 split at h
 ·rename_i u y;cases hx with
  |ifc _ hv=>
   unfold zkK;dsimp only
   split at h<;>rename_i e1
   ·cases h;rw[e1];exact⟨_,rfl,.tup_of (.cons hv (.cons (.bool _) .nil))⟩
   ·cases h;rw[e1];exact⟨_,rfl,hv⟩
   ·cases h;rw[e1];exact⟨_,rfl,.tup_of (.cons hz (.cons (.bool _) .nil))⟩
   ·cases h
 ·split at h
  ·cases h;cases hx;exact⟨_,rfl,.tup_of (.cons hz (.cons (.bool _) .nil))⟩
  ·cases h
 ·cases h
end
end
section
structure RowsRel (w:Wd) (R:RBd) (op:Bool) (sz:Nat) (rs:List (List DV)) (cs:List Value) (e:Nat):Prop where
 hop:op=R.op
 hsz:sz=R.sz
 esz:e=if op=true then sz else 0
 pos:op=true→0<sz∧sz<roE
 row: ∀r∈rs,r.length=sz
 rel:LRel w rs.flatten cs
structure MapRel (w:Wd) (es:List (DV×DV)) (es':List (Value×Value×Nat)):Prop where
 keys:LRel w (es.map Prod.fst) (es'.map Prod.fst)
 vals:LRel w (es.map Prod.snd) (es'.map fun x=>x.2.1)
inductive zhO (w:Wd) (R:RBd):MO→IObj→Prop where
 |rows {op:Bool} {sz:Nat} {rs:List (List DV)} {cs:List Value} {e:Nat} (h:RowsRel w R op sz rs cs e):zhO w R (.rows op sz rs) (.cells cs e)
 |map {es:List (DV×DV)} {es':List (Value×Value×Nat)} {c:Nat} (h:MapRel w es es'):zhO w R (.map es) (.map es' c)
 |loop {st:LoopState} {pend:Option CC} {sl:DS} {sl':zb} {rc:RC} (h:SRel w sl sl'):zhO w R (.loop st pend sl rc) (.loop st pend sl' rc)
theorem zhO.mono {w w':Wd} (hl:w.Le w') {R:RBd} {o:MO} {e:IObj} (h:zhO w R o e):zhO w' R o e:=by
 cases h with
 |rows h=>exact .rows ⟨h.hop,h.hsz,h.esz,h.pos,h.row,h.rel.mono hl⟩
 |map h=>exact .map ⟨h.keys.mono hl,h.vals.mono hl⟩
 |loop h=>exact .loop (h.mono hl)
structure HRel (w:Wd) (M:VM) (h:H):Prop where
 wf: ∀j o st,M.get j=some (o,st)→j<M.next∧st<M.next∧ ∃R,w.rho j=some R
 dom: ∀j R,w.rho j=some R→j<M.next∧R.blk<h.next
 zd: ∀b z,w.Z b=some z→b<h.next∧h.get b=some (.cells z.1 z.2)
 obj: ∀j o st R,M.get j=some (o,st)→w.rho j=some R→w.Z R.blk=none∧ ∃e,h.get R.blk=some e∧zhO w R o e
 inj: ∀i j R S,w.rho i=some R→w.rho j=some S→(M.get i).isSome=true→(M.get j).isSome=true→R.blk=S.blk→i=j
structure Hist (w0:Wd) (M0:VM) (h0:H) (w:Wd) (M:VM) (h:H):Prop where
 le:w0.Le w
 nxt:M0.next≤M.next
 hnx:h0.next≤h.next
 old: ∀j o st,M.get j=some (o,st)→M0.get j=some (o,st)∨M0.next≤st
 same: ∀j x R,M0.get j=some x→M.get j=some x→w0.rho j=some R→h.get R.blk=h0.get R.blk
 own: ∀j R,w.rho j=some R→w0.rho j=some R∨h0.next≤R.blk
 rest: ∀b,b<h0.next→(∀j R,w0.rho j=some R→R.blk≠b)→h.get b=h0.get b
theorem Hist.refl (w:Wd) (M:VM) (h:H):Hist w M h w M h:=⟨.refl _,qe _,qe _,fun _ _ _ e=>.inl e,fun _ _ _ _ _ _=>rfl,fun _ _ e=>.inl e,fun _ _ _=>rfl⟩
theorem Hist.trans {w0 w1 w2:Wd} {M0 M1 M2:VM} {h0 h1 h2:H} (h:HRel w0 M0 h0) (a:Hist w0 M0 h0 w1 M1 h1) (b:Hist w1 M1 h1 w2 M2 h2):Hist w0 M0 h0 w2 M2 h2 where
 le:=a.le.trans b.le
 nxt:=qh a.nxt b.nxt
 hnx:=qh a.hnx b.hnx
 old:=fun j o st e=>by
  rcases b.old j o st e with e1|e1
  ·exact a.old j o st e1
  ·exact .inr (qh a.nxt e1)
 same:=fun j x R e0 e2 hR=>by
  obtain⟨o,st⟩:=x;have hst:=(h.wf j o st e0).2.1;have e1:M1.get j=some (o,st):=by
   rcases b.old j o st e2 with e1|e1
   ·exact e1
   ·have:=a.nxt;omega
  rw[b.same j _ R e1 e2 (a.le.rho _ _ hR),a.same j _ R e0 e1 hR]
 own:=fun j R e=>by
  rcases b.own j R e with e1|e1
  ·exact a.own j R e1
  ·exact .inr (qh a.hnx e1)
 rest:=fun x hx hn=>by
  rw[b.rest x (qby hx a.hnx) fun j R e eb=> ?_,a.rest x hx hn];rcases a.own j R e with e1|e1
  ·exact hn j R e1 eb
  ·omega
theorem get_new (M:VM) (o:MO) (i:Nat):(M.new o).get i=if i=M.next then some (o,M.next) else M.get i:=rfl
theorem get_put (M:VM) (j:Nat) (o:MO) (i:Nat):(M.put j o).get i=if i=j then some (o,M.next) else M.get i:=rfl
theorem get_del (M:VM) (j:Nat) (i:Nat):(M.del j).get i=if i=j then none else M.get i:=rfl
theorem zbS {M:VM} {j:Nat} {o:MO} (h:M.obj j=some o): ∃st,M.get j=some (o,st):=by
 obtain⟨⟨o',st⟩,h1,rfl⟩:=amf h;exact⟨st,h1⟩
theorem HRel.ty {w:Wd} {M:VM} {h:H} (hr:HRel w M h):MTy w M:=fun j R op sz rs ho hR=>by
 obtain⟨st,hg⟩:=zbS ho;obtain⟨-,e,-,hr⟩:=hr.obj j _ st R hg hR;cases hr with
 |rows h=>exact⟨h.hsz,h.hop⟩
def Wd.add (w:Wd) (j:Nat) (R:RBd):Wd:=⟨fun i=>if i=j then some R else w.rho i,w.Z⟩
theorem Wd.add_le {w:Wd} {j:Nat} {R:RBd} (h:w.rho j=none):w.Le (w.add j R):=⟨fun i S e=>by
 show(if i=j then some R else w.rho i)=_;by_cases hi:i=j
 ·subst hi;rw[h] at e;cases e
 ·rw[if_neg hi];exact e,fun _ _ e=>e⟩
section
variable {w:Wd} {M:VM} {h:H} (hr:HRel w M h)
include hr
theorem HRel.rho_none {j:Nat} (hj:M.next≤j):w.rho j=none:=by
 cases e:w.rho j with
 |none=>rfl
 |some R=>have:=(hr.dom j R e).1;omega
theorem HRel.new {o:MO} {e:IObj} {sz:Nat} {op:Bool} (ho:zhO (w.add M.next ⟨h.next,sz,op⟩) ⟨h.next,sz,op⟩ o e):
 HRel (w.add M.next ⟨h.next,sz,op⟩) (M.new o) (h.new e)∧Hist w M h (w.add M.next ⟨h.next,sz,op⟩) (M.new o) (h.new e):=by
 have hn:=hr.rho_none (qe M.next);have hle:=Wd.add_le (R:=⟨h.next,sz,op⟩) hn;have rho_add: ∀j R,(w.add M.next ⟨h.next,sz,op⟩).rho j=some R→(j=M.next∧R=⟨h.next,sz,op⟩)∨(j≠M.next∧w.rho j=some R):=fun j R e=>by
  have e:(if j=M.next then some _ else w.rho j)=some R:=e;by_cases hj:j=M.next
  ·rw[if_pos hj] at e;cases e;exact .inl ⟨hj,rfl⟩
  ·rw[if_neg hj] at e;exact .inr ⟨hj,e⟩
 have gnew: ∀b,b<h.next→(h.new e).get b=h.get b:=fun b hb=>by rw[H.get_new,if_neg (by omega)]
 constructor
 ·constructor
  ·intro j o' st e';rw[get_new] at e';by_cases hj:j=M.next
   ·rw[if_pos hj] at e';cases e';exact⟨by show j<M.next+1;omega,qO _,⟨h.next,sz,op⟩,by show(if j=M.next then _ else _)=_;rw[if_pos hj]⟩
   ·rw[if_neg hj] at e';obtain⟨h1,h2,R,h3⟩:=hr.wf j o' st e';exact⟨qi h1,qi h2,R,hle.rho _ _ h3⟩
  ·intro j R e';rcases rho_add j R e' with⟨rfl,rfl⟩| ⟨hj,e'⟩
   ·exact⟨qO _,qO _⟩
   ·have:=hr.dom j R e';exact⟨qi this.1,qi this.2⟩
  ·intro b z hz;have:=hr.zd b z hz;exact⟨qi this.1,by rw[gnew b this.1];exact this.2⟩
  ·intro j o' st R e' hR;rw[get_new] at e';rcases rho_add j R hR with⟨rfl,rfl⟩| ⟨hj,hR⟩
   ·rw[if_pos rfl] at e';cases e';refine⟨?_,e,by rw[H.get_new,if_pos rfl],ho⟩;show w.Z h.next=none;cases hz:w.Z h.next with
    |none=>rfl
    |some z=>have:=(hr.zd _ z hz).1;omega
   ·rw[if_neg hj] at e';obtain⟨h1,e2,h2,h3⟩:=hr.obj j o' st R e' hR;exact⟨h1,e2,by rw[gnew _ (hr.dom j R hR).2];exact h2,h3.mono hle⟩
  ·intro i j R S hi hj ai aj eb;rcases rho_add i R hi with⟨rfl,rfl⟩| ⟨ni,hi⟩
   ·rcases rho_add j S hj with⟨rfl,rfl⟩| ⟨nj,hj⟩
    ·rfl
    ·have:=(hr.dom j S hj).2;simp only at eb;omega
   ·rcases rho_add j S hj with⟨rfl,rfl⟩| ⟨nj,hj⟩
    ·have:=(hr.dom i R hi).2;simp only at eb;omega
    ·rw[get_new,if_neg ni] at ai;rw[get_new,if_neg nj] at aj;exact hr.inj i j R S hi hj ai aj eb
 ·refine⟨hle,Nat.le_succ _,Nat.le_succ _,fun j o' st e'=> ?_,fun j x R e0 e1 hR=>gnew _ (hr.dom j R hR).2,fun j R e'=> ?_,fun b hb _=>gnew b hb⟩
  ·rw[get_new] at e';by_cases hj:j=M.next
   ·rw[if_pos hj] at e';cases e';exact .inr (qe _)
   ·rw[if_neg hj] at e';exact .inl e'
  ·rcases rho_add j R e' with⟨rfl,rfl⟩| ⟨hj,e'⟩
   ·exact .inr (qe _)
   ·exact .inl e'
theorem HRel.put {j:Nat} {x:MO×Nat} {R:RBd} (hj:M.get j=some x) (hR:w.rho j=some R) {o:MO} {e:IObj} (ho:zhO w R o e):HRel w (M.put j o) (h.put R.blk e)∧Hist w M h w (M.put j o) (h.put R.blk e):=by
 obtain⟨o0,st0⟩:=x;obtain⟨hz,e0,he0,-⟩:=hr.obj j o0 st0 R hj hR;have gput: ∀b,b≠R.blk→(h.put R.blk e).get b=h.get b:=fun b hb=>by rw[H.get_put,if_neg (Ne.symm hb)]
 have hlt:=(hr.dom j R hR);constructor
 ·constructor
  ·intro i o' st e';rw[get_put] at e';by_cases hi:i=j
   ·rw[if_pos hi] at e';cases e';subst hi;exact⟨qi hlt.1,qO _,R,hR⟩
   ·rw[if_neg hi] at e';obtain⟨h1,h2,h3⟩:=hr.wf i o' st e';exact⟨qi h1,qi h2,h3⟩
  ·intro i S e';have:=hr.dom i S e';exact⟨qi this.1,this.2⟩
  ·intro b z hb;have:=hr.zd b z hb;exact⟨this.1,by rw[gput b (fun e=>by subst e;rw[hz] at hb;cases hb)];exact this.2⟩
  ·intro i o' st S e' hS;rw[get_put] at e';by_cases hi:i=j
   ·rw[if_pos hi] at e';cases e';subst hi;rw[hR] at hS;cases hS;exact⟨hz,e,by rw[H.get_put,if_pos rfl],ho⟩
   ·rw[if_neg hi] at e';obtain⟨h1,e2,h2,h3⟩:=hr.obj i o' st S e' hS;refine⟨h1,e2,?_,h3⟩;rw[gput _ fun eb=>hi (hr.inj i j S R hS hR (by rw[e'];rfl) (by rw[hj];rfl) eb)];exact h2
  ·intro a b A B ha hb la lb eb;refine hr.inj a b A B ha hb ?_ ?_ eb
   ·rw[get_put] at la;by_cases hi:a=j
    ·rw[hi,hj];rfl
    ·rwa [if_neg hi] at la
   ·rw[get_put] at lb;by_cases hi:b=j
    ·rw[hi,hj];rfl
    ·rwa [if_neg hi] at lb
 ·refine⟨.refl _,Nat.le_succ _,Nat.le_refl _,fun i o' st e'=> ?_,fun i x S e1 e2 hS=> ?_,fun i S e'=>.inl e',fun b hb hn=>gput b fun e=>hn j R hR e.symm⟩
  ·rw[get_put] at e';by_cases hi:i=j
   ·rw[if_pos hi] at e';cases e';exact .inr (qe _)
   ·rw[if_neg hi] at e';exact .inl e'
  ·rw[get_put] at e2;by_cases hi:i=j
   ·rw[if_pos hi] at e2;cases e2;have:=(hr.wf i _ _ e1).2.1;omega
   ·refine gput _ fun eb=>hi (hr.inj i j S R hS hR (by rw[e1];rfl) (by rw[hj];rfl) eb)
theorem HRel.kill {j:Nat} {x:MO×Nat} {R:RBd} (hj:M.get j=some x) (hR:w.rho j=some R) (e:IObj):HRel w (M.del j) (h.put R.blk e)∧Hist w M h w (M.del j) (h.put R.blk e):=by
 obtain⟨o0,st0⟩:=x;obtain⟨hz,e0,he0,-⟩:=hr.obj j o0 st0 R hj hR;have gput: ∀b,b≠R.blk→(h.put R.blk e).get b=h.get b:=fun b hb=>by rw[H.get_put,if_neg (Ne.symm hb)]
 have dl: ∀i x,(M.del j).get i=some x→i≠j∧M.get i=some x:=fun i x e'=>by
  rw[get_del] at e';by_cases hi:i=j
  ·rw[if_pos hi] at e';cases e'
  ·rw[if_neg hi] at e';exact⟨hi,e'⟩
 constructor
 ·constructor
  ·intro i o' st e';exact hr.wf i o' st (dl _ _ e').2
  ·intro i S e';exact hr.dom i S e'
  ·intro b z hb;have:=hr.zd b z hb;exact⟨this.1,by rw[gput b (fun e=>by subst e;rw[hz] at hb;cases hb)];exact this.2⟩
  ·intro i o' st S e' hS;obtain⟨hi,e'⟩:=dl _ _ e';obtain⟨h1,e2,h2,h3⟩:=hr.obj i o' st S e' hS;exact⟨h1,e2,by rw[gput _ fun eb=>hi (hr.inj i j S R hS hR (by rw[e'];rfl) (by rw[hj];rfl) eb)];exact h2,h3⟩
  ·intro a b A B ha hb la lb eb;obtain⟨xa,ea⟩:=qbm.1 la;obtain⟨xb,ebb⟩:=qbm.1 lb;exact hr.inj a b A B ha hb (by rw[(dl _ _ ea).2];rfl) (by rw[(dl _ _ ebb).2];rfl) eb
 ·refine⟨.refl _,qe _,qe _,fun i o' st e'=>.inl (dl _ _ e').2,fun i x S e1 e2 hS=> ?_,fun i S e'=>.inl e',fun b hb hn=>gput b fun e=>hn j R hR e.symm⟩;exact gput _ fun eb=>(dl _ _ e2).1 (hr.inj i j S R hS hR (by rw[e1];rfl) (by rw[hj];rfl) eb)
theorem HRel.newZ (cs:List Value) (e:Nat):HRel ⟨w.rho,fun b=>if b=h.next then some (cs,e) else w.Z b⟩ M (h.new (.cells cs e))∧Hist w M h ⟨w.rho,fun b=>if b=h.next then some (cs,e) else w.Z b⟩ M (h.new (.cells cs e)):=by
 have gnew: ∀b,b<h.next→(h.new (.cells cs e)).get b=h.get b:=fun b hb=>by rw[H.get_new,if_neg (by omega)]
 have hle:w.Le ⟨w.rho,fun b=>if b=h.next then some (cs,e) else w.Z b⟩:=⟨fun _ _ e=>e,fun b z hz=>by
  show(if b=h.next then _ else _)=_;rw[if_neg (by have:=(hr.zd b z hz).1;omega)];exact hz⟩
 constructor
 ·constructor
  ·exact hr.wf
  ·intro j R e';have:=hr.dom j R e';exact⟨this.1,qi this.2⟩
  ·intro b z hz;have hz:(if b=h.next then some (cs,e) else w.Z b)=some z:=hz;by_cases hb:b=h.next
   ·rw[if_pos hb] at hz;cases hz;subst hb;exact⟨qO _,by rw[H.get_new,if_pos rfl]⟩
   ·rw[if_neg hb] at hz;have:=hr.zd b z hz;exact⟨qi this.1,by rw[gnew b this.1];exact this.2⟩
  ·intro j o st R e' hR;obtain⟨h1,e2,h2,h3⟩:=hr.obj j o st R e' hR;have hb:=(hr.dom j R hR).2;refine⟨?_,e2,by rw[gnew _ hb];exact h2,h3.mono hle⟩;show(if R.blk=h.next then _ else _)=_;rw[if_neg (by omega)];exact h1
  ·exact hr.inj
 ·exact⟨hle,qe _,qbs _,fun j o st e'=>.inl e',fun j x R e0 e1 hR=>gnew _ (hr.dom j R hR).2,fun j R e'=>.inl e',fun b hb _=>gnew b hb⟩
end
end
section
theorem takeC_app {us tl:List Value} {n:Nat} (hn:n≤us.length) (hc:us.all clean1=true):zjw n (us++tl)=some (us.take n):=by
 unfold zjw;rw[zdG,if_pos (by simp;omega),qd,qbb hn];unfold cleanL;rw[if_pos];rw[qt] at hc⊢;exact fun x hx=>hc x (qj hx)
section
variable {w:Wd} {M:VM} {h:H}
def RdB (w:Wd) (js:List Nat) (b:Nat):Prop:=(∃j R,j∈js∧w.rho j=some R∧R.blk=b)∨(w.Z b).isSome=true
theorem zjP (hr:HRel w M h) {d:DV} {r:List DV} {v:Value} (hd:zcP M d=some r) (hv:VRel w d v):
 ∃b off cs e us tl,v=.pointer (some ⟨b,off,none⟩)∧h.get b=some (.cells cs e)∧RdB w (refD d) b∧cs.drop off=us++tl∧LRel w r us:=by
 cases hv with
 | @pl b o s e i off cs rows hz hs hb hk=>
   obtain⟨r0,h0,rfl⟩:=amf (show(rows[i]?).map (fun r=>r.drop off)=some r from hd);have hl:=zX hs;have hR:LRel w rows.flatten ((cs.drop o).take rows.flatten.length):=⟨by rw[qH,qP];omega,fun k d v a b=>by
    rw[qT] at b
    split at b
    ·rw[qU] at b;exact hk k d v a b
    ·cases b⟩
   have hsplit:=(qp rows.flatten.length (cs.drop o)).symm;obtain⟨tl,ht⟩:=flat_at hs h0;have h1:=hR.drop (i*s+off);have hlen0:=hs r0 (qba h0);rw[←qF,ht,qN] at h1;have h2:=h1.take (r0.drop off).length;rw[qbt] at h2;refine⟨b,o+i*s+off,cs,e,_,(((cs.drop o).take rows.flatten.length).drop (i*s+off)).drop (r0.drop off).length++(cs.drop o).drop (max rows.flatten.length (i*s+off)),rfl,(hr.zd _ _ hz).2,.inr (by rw[hz];rfl),?_,h2⟩;rw[←List.append_assoc,qp];rw[show o+i*s+off=o+(i*s+off) by omega,←qF]
   conv=>lhs;rw[hsplit]
   rw[qN,qF,qH]
   congr 1
   rcases Nat.le_total rows.flatten.length (i*s+off) with hle|hle
   ·rw[Nat.max_eq_right hle];have:min rows.flatten.length (cs.drop o).length=rows.flatten.length:=by rw[List.length_drop];omega
    rw[this,qF,qF];congr 1;omega
   ·rw[Nat.max_eq_left hle];have:min rows.flatten.length (cs.drop o).length=rows.flatten.length:=by rw[List.length_drop];omega
    rw[this,Nat.sub_eq_zero_of_le hle];simp
 | @ptr j i off R hR=>
   obtain⟨o,ho,hd⟩:=aof (show(M.obj j).bind _=some r from hd);obtain⟨st,hg⟩:=zbS ho;obtain⟨hz,e,he,hro⟩:=hr.obj j o st R hg hR;cases hro with
   | @rows op sz rs cs e' hrows=>
     obtain⟨r0,h0,rfl⟩:=amf (show(rs[i]?).map (fun r=>r.drop off)=some r from hd);have hs:=hrows.row;obtain⟨tl,ht⟩:=flat_at hs h0;have h1:=hrows.rel.drop (i*sz+off);rw[←qF,ht,qN] at h1;have h2:=h1.take (r0.drop off).length;rw[qbt] at h2;refine⟨R.blk,i*R.sz+off,cs,e',_,(cs.drop (i*sz+off)).drop (r0.drop off).length,rfl,he,.inl ⟨j,R,qB.2 rfl,hR,rfl⟩,?_,h2⟩;rw[←hrows.hsz,qp]
   |map=>cases hd
   |loop=>cases hd
 |_=>cases hd
theorem zeS {b off:Nat} {cs us tl:List Value} {e n:Nat} (hg:h.get b=some (.cells cs e)) (hs:cs.drop off=us++tl) (hn:n≤us.length) (hc:us.all clean1=true):h.readN b off n=some (us.take n):=by
 unfold H.readN;rw[hg,qd];show zjw n (zcW off cs)=_;rw[zb5,hs,takeC_app hn hc]
theorem zil (hr:HRel w M h) {d:DV} {rows:List (List DV)} {size:Nat} {v:Value} (hd:zew M size d=some rows) (hv:VRel w d v):
 ∃base cap,v=.slice base rows.length cap∧(∀r∈rows,r.length=size)∧(rows=[]∨ ∃b o cs e us tl,base=some ⟨b,o,none⟩∧h.get b=some (.cells cs e)∧RdB w (refD d) b∧cs.drop o=us++tl∧LRel w rows.flatten us):=by
 cases hv with
 |nilS=>cases hd;exact⟨none,0,rfl,by simp,.inl rfl⟩
 | @lst b o s n cap e cs rows' hz hs hb hk hO hC hn=>
   have hd:(if s=size then some rows' else none)=some rows:=hd
   split at hd
   ·rename_i hsz;cases hd;subst hsz;subst hn;refine⟨_,cap,rfl,hs,.inr ⟨b,o,cs,e,(cs.drop o).take rows.flatten.length,(cs.drop o).drop rows.flatten.length,rfl,(hr.zd _ _ hz).2,.inr (by rw[hz];rfl),(qp _ _).symm,?_⟩⟩;have hl:=zX hs;exact⟨by rw[qH,qP];omega,fun k d v a b=>by
     rw[qT] at b
     split at b
     ·rw[qU] at b;exact hk k d v a b
     ·cases b⟩
   ·cases hd
 | @bs b s hz=>
   have hd:(if size=1 then some (s.data.toList.map fun b=>[DV.int .u8 b.toNat]) else none)=some rows:=hd
   split at hd
   ·rename_i hsz;cases hd;subst hsz;have hf: ∀l:List UInt8,(l.map fun b=>[DV.int .u8 b.toNat]).flatten=l.map fun b=>DV.int .u8 b.toNat:=fun l=>by
     induction l with
     |nil=>rfl
     |cons x l ih=>rw[qbh,qx,ih];rfl
    refine⟨_,zc,by rw[List.length_map];rfl,(fun r hr=>by obtain⟨_,_,rfl⟩:=qbA.1 hr;rfl),.inr ⟨b,0,s.data.toList.map zhH,roE,s.data.toList.map zhH,[],rfl,(hr.zd _ _ hz).2,.inr (by rw[hz];rfl),by simp,?_⟩⟩;rw[hf];refine⟨by simp,fun k d v a b=> ?_⟩;rw[qbk] at a b;cases e:s.data.toList[k]? with
    |none=>rw[e] at a;cases a
    |some y=>rw[e] at a b;cases a;cases b;exact .int _ _
   ·cases hd
 | @lst0 s cap base hc _=>
   have hd:(if s=size then some [] else none)=some rows:=hd
   split at hd
   ·cases hd;exact⟨base,cap,rfl,by simp,.inl rfl⟩
   ·cases hd
 | @ms j lo len cap R hR hO hC=>
   obtain⟨o,ho,hd⟩:=aof (show(M.obj j).bind _=some rows from hd);obtain⟨st,hg⟩:=zbS ho;obtain⟨hz,e,he,hro⟩:=hr.obj j o st R hg hR;cases hro with
   | @rows op sz rs cs e' hrows=>
     have hd2:(if sz=size∧lo+len≤rs.length then some ((rs.drop lo).take len) else none)=some rows:=hd;clear hd
     split at hd2
     ·rename_i hc;obtain⟨rfl,hle⟩:=hc;cases hd2;have hs:=hrows.row;refine⟨some ⟨R.blk,lo*R.sz,none⟩,cap,by simp;omega,fun r hr=>hs r (qk (qj hr)),.inr ⟨R.blk,lo*R.sz,cs,e',(cs.drop (lo*R.sz)).take (len*sz),(cs.drop (lo*R.sz)).drop (len*sz),rfl,he,.inl ⟨j,R,qB.2 rfl,hR,rfl⟩,(qp _ _).symm,?_⟩⟩;have hs': ∀r∈rs.drop lo,r.length=sz:=fun r hr=>hs r (qk hr);rw[zdr hs',zds hs,←hrows.hsz];exact(hrows.rel.drop _).take _
     ·cases hd2
   |map=>cases hd
   |loop=>cases hd
 |_=>cases hd
theorem allO_byte: ∀{rows:List (List DV)} {l:List UInt8} {us:List Value},allO zgO rows=some l→(∀r∈rows,r.length=1)→LRel w rows.flatten us→allO zkB us=some l
 | [],l,us,h,_,hl=>by rw[hl.inv_nil];exact h
 |r::rows,l,us,h,hs,hl=>by
  obtain⟨b,hb,h⟩:=aof h;obtain⟨l',hl',rfl⟩:=amf h;unfold zgO at hb
  split at hb
  ·cases hb;obtain⟨v,us',rfl,hv,hus⟩:=hl.head;rw[hv.inv_int];show((zkB _).bind fun b=>(allO zkB us').map (b:: ·))=_;rw[allO_byte hl' (fun r hr=>hs r (qM _ hr)) hus];rfl
  ·cases hb
theorem ziE (hr:HRel w M h) {d:DV} {es:List (DV×DV)} {v:Value} (hd:z9 M d=some es) (hv:VRel w d v):
 ∃es',MapRel w es es'∧ ∀g:H,(∀b,RdB w (refD d) b→g.get b=h.get b)→zdu g v=some es':=by
 cases hv with
 |nilM=>cases hd;exact⟨[],⟨.nil,.nil⟩,fun g _=>rfl⟩
 | @map j R hR=>
   obtain⟨o,ho,hd⟩:=aof (show(M.obj j).bind _=some es from hd);obtain⟨st,hg⟩:=zbS ho;obtain⟨hz,e,he,hro⟩:=hr.obj j o st R hg hR;cases hro with
   | @map es0 es' c hm=>
     cases hd;refine⟨es',hm,fun g hgg=> ?_⟩;unfold zdu;dsimp only;rw[hgg R.blk (.inl ⟨j,R,qB.2 rfl,hR,rfl⟩),he]
   |rows=>cases hd
   |loop=>cases hd
 |_=>cases hd
theorem findD_rel {kk:KK} {k:DV} {k':Value} (hk:VRel w k k'): ∀{es:List (DV×DV)} {es':List (Value×Value×Nat)} {r:Option DV},zes kk k es=some r→MapRel w es es'→ ∃r',findE kk k' es'=some r'∧ORelO w r r'
 | [],[],r,h,hm=>by cases h;exact⟨none,rfl,trivial⟩
 | [],_::_,r,h,hm=>by have:=hm.keys.len;simp at this
 |_::_,[],r,h,hm=>by have:=hm.keys.len;simp at this
 | (key,v)::es,(key',v',c)::es',r,h,hm=>by
   obtain⟨x1,r1,e1,hkey,hks⟩:=hm.keys.head;obtain⟨x2,r2,e2,hval,hvs⟩:=hm.vals.head;cases e1;cases e2;obtain⟨b,hb,h⟩:=aof (show(zD kk k key).bind _=some r from h);unfold findE;rw[zdJ hb hk hkey,qd];cases b with
   |true=>cases h;exact⟨some v',rfl,hval⟩
   |false=>exact findD_rel hk (show zes kk k es=some r from h) ⟨hks,hvs⟩
theorem zeO: ∀{l m:List DV} {vs us:List Value},zb1 l m=true→LRel w l vs→LRel w m us→zE vs us=true
 | [],[],vs,us,h,h1,h2=>by rw[h1.inv_nil,h2.inv_nil];rfl
 | [],_::_,vs,us,h,_,_=>by cases h
 |d::l,[],vs,us,h,_,_=>by cases d<;>cases h
 |d::l,e::m,vs,us,h,h1,h2=>by
  obtain⟨v,vs',rfl,hv,hl⟩:=h1.head;obtain⟨u,us',rfl,hu,hm⟩:=h2.head;unfold zb1 at h
  split at h
  ·cases ‹_::_=[]›
  ·rename_i ea eb;cases ea;cases eb;simp only[qr] at h;rw[hv.inv_int,hu.inv_int];unfold zE;rw[show(decide (_=_)&&eqI _ _)=true from by rw[qr];exact h.1];exact zeO h.2 hl hm
  ·rename_i ea eb;cases ea;cases eb;simp only[qr] at h;rw[hv.inv_str,hu.inv_str];unfold zE;rw[h.1];exact zeO h.2 hl hm
  ·cases h
theorem setD_rel {kk:KK} {k x:DV} {k' x':Value} (hk:VRel w k k') (hx:VRel w x x') (c:Nat): ∀{es es2:List (DV×DV)} {es':List (Value×Value×Nat)},setD kk k x es=some es2→MapRel w es es'→ ∃es2' c',setE kk k' x' c es'=some (es2',c')∧MapRel w es2 es2'
 | [],es2,[],h,hm=>by cases h;exact⟨_,_,rfl,.cons hk .nil,.cons hx .nil⟩
 | [],es2,_::_,h,hm=>by have:=hm.keys.len;simp at this
 |_::_,es2,[],h,hm=>by have:=hm.keys.len;simp at this
 | (key,v)::es,es2,(key',v',b')::es',h,hm=>by
   obtain⟨x1,r1,e1,hkey,hks⟩:=hm.keys.head;obtain⟨x2,r2,e2,hval,hvs⟩:=hm.vals.head;cases e1;cases e2;obtain⟨b,hb,h⟩:=aof (show(zD kk k key).bind _=some es2 from h);unfold setE;rw[zdJ hb hk hkey,qd];cases b with
   |true=>
    have h:(if zb1 (zr k) (zr key)=true then some ((k,x)::es) else none)=some es2:=h
    split at h
    ·rename_i hsi;cases h;refine⟨_,_,if_pos (zeO hsi hk.cells hkey.cells),.cons hk hks,.cons hx hvs⟩
    ·cases h
   |false=>
    obtain⟨es3,h3,rfl⟩:=amf (show(setD kk k x es).map _=some es2 from h);obtain⟨es3',c',h4,h5⟩:=setD_rel hk hx c h3 ⟨hks,hvs⟩;refine⟨(key',v',b')::es3',c',?_,.cons hkey h5.keys,.cons hval h5.vals⟩;dsimp only;rw[h4];rfl
end
theorem zhP (l:List DV) (o:Nat):zp l o []=some l:=by cases l<;>cases o<;>rfl
theorem zea: ∀{l:List DV} {o:Nat} {xs:List DV},o+xs.length≤l.length→zp l o xs=some (l.take o++xs++l.drop (o+xs.length))
 |l,o,[],h=>by rw[zhP];simp
 | [],o,x::xs,h=>by simp at h
 |c::l,0,x::xs,h=>by
  show(zp l 0 xs).map (x:: ·)=_;rw[zea (by simp at h⊢;omega)];simp
 |c::l,n+1,x::xs,h=>by
  show(zp l n (x::xs)).map (c:: ·)=_;rw[zea (by simp at h⊢;omega),show n+1+(x::xs).length=(n+(x::xs).length)+1 by omega,qbw,qbx];rfl
theorem zfn: ∀{l:List DV} {o:Nat} {xs l':List DV},zp l o xs=some l'→xs=[]∨o+xs.length≤l.length
 |l,o,[],l',h=>.inl rfl
 | [],o,x::xs,l',h=>by cases o<;>cases h
 |c::l,0,x::xs,l',h=>by
  obtain⟨l2,e2,rfl⟩:=amf (show(zp l 0 xs).map (x:: ·)=some l' from h);rcases zfn e2 with rfl|h3
  ·right;simp
  ·right;simp at h3⊢;omega
 |c::l,n+1,x::xs,l',h=>by
  obtain⟨l2,e2,rfl⟩:=amf (show(zp l n (x::xs)).map (c:: ·)=some l' from h);rcases zfn e2 with h3|h3
  ·cases h3
  ·right;simp at h3⊢;omega
theorem zjm {rs:List (List DV)} {s i off:Nat} {r r' xs:List DV} (hs: ∀r∈rs,r.length=s) (hi:rs[i]? =some r) (hw:zp r off xs=some r'):zp rs.flatten (i*s+off) xs=some (rs.set i r').flatten:=by
 rcases zfn hw with rfl|hb
 ·rw[zhP] at hw⊢;cases hw
  congr 2
  obtain⟨h1,rfl⟩:=qn.1 hi;simp
 ·rw[zea hb] at hw;cases hw;have hlt:=(List.getElem?_eq_some_iff.1 hi).1;have hr:r.length=s:=hs r (List.mem_of_getElem? hi);have hl:=zX hs;have hil:i*s+s≤rs.length*s:=by rw[←Nat.succ_mul];exact Nat.mul_le_mul_right s hlt
  rw[zea (by omega)]
  congr 1
  obtain⟨tl,ht⟩:=flat_at hs hi;have h0:rs.flatten=rs.flatten.take (i*s)++(r++tl):=by rw[←ht,qp]
  have e1:(rs.set i (r.take off++xs++r.drop (off+xs.length))).flatten=rs.flatten.take (i*s)++((r.take off++xs++r.drop (off+xs.length))++rs.flatten.drop ((i+1)*s)):=by
   rw[←zdr hs,←zds hs,List.set_eq_take_append_cons_drop,if_pos hlt];simp
  have e2:rs.flatten.drop ((i+1)*s)=tl:=by
   rw[qZ,←qF,ht,←hr,List.drop_left]
  have hlen:(rs.flatten.take (i*s)).length=i*s:=by rw[qH];omega
  rw[e1,e2]
  conv=>lhs;rw[h0]
  rw[qbG,qN,hlen,qJ (by omega),qbr (l:=rs.flatten.take (i*s)) (by omega),Nat.add_sub_cancel_left,qbb (by omega),show i*s+off+xs.length - i*s=off+xs.length by omega,List.drop_append_of_le_length hb];simp
theorem zfw {rs new:List (List DV)} {s at_:Nat} (hs: ∀r∈rs,r.length=s) (hn: ∀r∈new,r.length=s) (hb:at_+new.length≤rs.length):zp rs.flatten (at_*s) new.flatten=some (zbR rs new at_).flatten:=by
 have hl:=zX hs;have hl2:=zX hn;have:at_*s+new.length*s≤rs.length*s:=by rw[←qy];exact qD s hb
 rw[zea (by omega)];unfold zbR;rw[qbc,qbc,zdr hs,zds hs,qy,hl2]
theorem zeR {w:Wd} {z:List DV} {vs:List Value} (h:LRel w z vs): ∀n,LRel w (qq n z).flatten (zbl vs n)
 |0=>.nil
 |n+1=>by rw[List.replicate_succ,qx];exact h.append (zeR h n)
end
section
section
variable {w:Wd} {M:VM} {s:DS} {t:zb}
theorem zjZ {op:COp} (hp:isFl op=true) (hm:MTy w M) (hs:ziW w (zf op) s t) {d:DV} {M':VM} (h:opD op s M=some (d,M')):M'=M∧ ∃v,VRel w d v∧ ∀g:H,opV op t g=some (v,g):=by
 cases op
 case mv x=>
  obtain⟨y,hy,e⟩:=amf h;cases e;obtain⟨v,hv,hr⟩:=zm hs hy;exact⟨rfl,v,hr,fun g=>by show(x.ev t).map _=_;rw[hv];rfl⟩
 case pick c a b=>
  obtain⟨y,hy,h⟩:=aof h;obtain⟨z,hz,e⟩:=amf h;cases e;obtain⟨v,hv,hr⟩:=zm (hs.sub fun p hp=>by simp[zf,hp]) hy;unfold pickD at hz
  split at hz
  ·obtain⟨u,hu,hr2⟩:=zm (hs.sub fun p hp=>by simp[zf,hp]) hz;refine⟨rfl,u,hr2,fun g=> ?_⟩;show(c.ev t).bind (zkW a b t g)=_;rw[hv,hr.inv_bool];show(a.ev t).map _=_;rw[hu];rfl
  ·obtain⟨u,hu,hr2⟩:=zm (hs.sub fun p hp=>by simp[zf,hp]) hz;refine⟨rfl,u,hr2,fun g=> ?_⟩;show(c.ev t).bind (zkW a b t g)=_;rw[hv,hr.inv_bool];show(b.ev t).map _=_;rw[hu];rfl
  ·cases hz
 case build z ps=>
  obtain⟨z',hz,h⟩:=aof h;obtain⟨l,hl,h⟩:=aof h;obtain⟨c,hc,e⟩:=amf h;cases e;obtain⟨l',hl',e1,e2⟩:=zln (w:=w) hs hl;obtain⟨vs,hvs,hr⟩:=fillD_rel (ze6 hz) e1 e2 hc;refine⟨rfl,_,.agg_of hr,fun g=> ?_⟩;show((ze4 t ps).bind fun l=>(ziU z l).map fun c=>(Value.agg ⟨c⟩,g))=_;rw[hl',qd,hvs];rfl
 case nilCheck x=>
  obtain⟨y,hy,h⟩:=aof h;obtain⟨z,hz,e⟩:=amf h;cases e;obtain⟨v,hv,hr⟩:=zm hs hy;obtain⟨u,hu,hr2⟩:=nilD_rel hz hr;exact⟨rfl,u,hr2,fun g=>by show((x.ev t).bind fun v=>(nilV v).map (·,g))=_;rw[hv,qd,hu];rfl⟩
 case bin op ek x y=>
  obtain⟨a,ha,h⟩:=aof h;obtain⟨b,hb,h⟩:=aof h;obtain⟨z,hz,e⟩:=amf h;cases e;obtain⟨a',ha',r1⟩:=zm (hs.sub fun p hp=>by simp[zf,hp]) ha;obtain⟨b',hb',r2⟩:=zm (hs.sub fun p hp=>by simp[zf,hp]) hb;obtain⟨u,hu,hr2⟩:=binD_rel hz r1 r2;exact⟨rfl,u,hr2,fun g=>by show((x.ev t).bind fun a=>(y.ev t).bind fun b=>(binV op ek a b).map (·,g))=_;rw[ha',hb',qd,qd,hu];rfl⟩
 case un op x=>
  obtain⟨a,ha,h⟩:=aof h;obtain⟨z,hz,e⟩:=amf h;cases e;obtain⟨a',ha',r1⟩:=zm hs ha;obtain⟨u,hu,hr2⟩:=unD_rel hz r1;exact⟨rfl,u,hr2,fun g=>by show((x.ev t).bind fun a=>(unV op a).map (·,g))=_;rw[ha',qd,hu];rfl⟩
 case conv k x=>
  obtain⟨a,ha,h⟩:=aof h;obtain⟨z,hz,e⟩:=amf h;cases e;obtain⟨a',ha',r1⟩:=zm hs ha;obtain⟨u,hu,hr2⟩:=convD_rel hz r1;exact⟨rfl,u,hr2,fun g=>by show((x.ev t).bind fun a=>(convV k a).map (·,g))=_;rw[ha',qd,hu];rfl⟩
 case makeFunc fn a b=>
  cases fn with
  |func g=>
   obtain⟨x,hx,h⟩:=aof h;obtain⟨y,hy,e⟩:=amf h;cases e;obtain⟨a',ha',r1⟩:=zet (hs.sub fun p hp=>List.mem_append_left _ hp) hx;obtain⟨b',hb',r2⟩:=zet (hs.sub fun p hp=>qL _ hp) hy;exact⟨rfl,_,.fn g r1.len r2.len r1.at_ r2.at_,fun g'=>by show((evL t a).bind fun a=>(evL t b).map fun b=>(Value.func (.func g) ⟨a⟩ ⟨b⟩,g'))=_;rw[ha',hb'];rfl⟩
  |_=>cases h
 case fieldAddr n x=>
  obtain⟨a,ha,h⟩:=aof h;obtain⟨z,hz,e⟩:=amf h;cases e;obtain⟨a',ha',r1⟩:=zm hs ha;obtain⟨ad,rfl,hr2⟩:=offD_rel hz r1;exact⟨rfl,_,hr2,fun g=>by show((x.ev t).bind fun v=>(zgB v).map fun a=>(Value.pointer (some ⟨a.block,a.off+n,none⟩),g))=_;rw[ha'];rfl⟩
 case indexAddr n x y=>
  obtain⟨a,ha,h⟩:=aof h;obtain⟨b,hb,h⟩:=aof h;obtain⟨z,hz,e⟩:=amf h;cases e;obtain⟨a',ha',r1⟩:=zm (hs.sub fun p hp=>by simp[zf,hp]) ha;obtain⟨b',hb',r2⟩:=zm (hs.sub fun p hp=>by simp[zf,hp]) hb;obtain⟨u,hu,hr2⟩:=addrD_rel hm hz r2 r1;exact⟨rfl,u,hr2,fun g=>by show((x.ev t).bind fun v=>(y.ev t).bind fun i=>(ziB n v i).map (·,g))=_;rw[ha',hb',qd,qd,hu];rfl⟩
 case indexArr n m x y=>
  obtain⟨a,ha,h⟩:=aof h;obtain⟨b,hb,h⟩:=aof h;obtain⟨z,hz,e⟩:=amf h;cases e;obtain⟨a',ha',r1⟩:=zm (hs.sub fun p hp=>by simp[zf,hp]) ha;obtain⟨b',hb',r2⟩:=zm (hs.sub fun p hp=>by simp[zf,hp]) hb;obtain⟨u,hu,hr2⟩:=arrD_rel hz r2 r1;exact⟨rfl,u,hr2,fun g=>by show((x.ev t).bind fun v=>(y.ev t).bind fun i=>(zem n m v i).map (·,g))=_;rw[ha',hb',qd,qd,hu];rfl⟩
 case extract x n=>
  obtain⟨a,ha,h⟩:=aof h;cases a with
  |tup l=>
   obtain⟨z,hz,e⟩:=amf h;cases e;obtain⟨a',ha',r1⟩:=zm hs ha;obtain⟨vs,rfl,hl⟩:=r1.inv_tup;obtain⟨v,hv,r2⟩:=hl.get hz;exact⟨rfl,v,r2,fun g=>by show((x.ev t).bind fun v=>(extractV n v).map (·,g))=_;rw[ha',qd];show(vs[n]?).map _=_;rw[hv];rfl⟩
  |_=>cases h
 case blt b as=>
  obtain⟨l,hl,h⟩:=aof h;obtain⟨vs,hvs,hr⟩:=zet (w:=w) hs hl;have goal: ∀v,(∀g:H,bltV g b vs=some (v,g))→ ∀g:H,opV (.blt b as) t g=some (v,g):=fun v hv g=>by
   show((evL t as).bind fun l=>bltV g b l)=_;rw[hvs];exact hv g
  cases b with
  |append _ _=>cases hp
  |clear _=>cases hp
  |copy _=>cases hp
  |lenMap=>cases hp
  |len=>
   match l,h,hr with
   | [d0],h,hr=>
     obtain⟨n,hn,e⟩:=amf (show(lenD M d0).map _=_ from h);cases e;obtain⟨v,r,rfl,hv,hr⟩:=hr.head;rw[hr.inv_nil] at goal;refine⟨rfl,_,.int _ _,goal _ fun g=> ?_⟩;cases hv<;>cases hn<;>subst_vars<;>rfl
   | [],h,_=>cases h
   |_::_::_,h,_=>cases h
  |lenStr=>
   match l,h,hr with
   | [d0],h,hr=>
     obtain⟨v,r,rfl,hv,hr⟩:=hr.head;rw[hr.inv_nil] at goal;cases hv<;>first| (cases h;done)|skip
     ·cases h;exact⟨rfl,_,.int _ _,goal _ fun g=>rfl⟩
   | [],h,_=>cases h
   |x::y::r,h,_=>cases x<;>cases h
  |min=>
   match l,h,hr with
   |d0::l,h,hr=>
    obtain⟨v,r,rfl,hv,hr⟩:=hr.head;obtain⟨z,hz,e⟩:=amf (show(zfz false d0 l).map _=_ from h);cases e;obtain⟨u,hu,r2⟩:=zgE hz hv hr;exact⟨rfl,u,r2,goal _ fun g=>by show(zdO false v r).map _=_;rw[hu];rfl⟩
   | [],h,_=>cases h
  |max=>
   match l,h,hr with
   |d0::l,h,hr=>
    obtain⟨v,r,rfl,hv,hr⟩:=hr.head;obtain⟨z,hz,e⟩:=amf (show(zfz true d0 l).map _=_ from h);cases e;obtain⟨u,hu,r2⟩:=zgE hz hv hr;exact⟨rfl,u,r2,goal _ fun g=>by show(zdO true v r).map _=_;rw[hu];rfl⟩
   | [],h,_=>cases h
 case strIdx x y=>
  obtain⟨a,ha,h⟩:=aof h;obtain⟨b,hb,h⟩:=aof h;obtain⟨z,hz,e⟩:=amf h;cases e;obtain⟨a',ha',r1⟩:=zm (hs.sub fun p hp=>by simp[zf,hp]) ha;obtain⟨b',hb',r2⟩:=zm (hs.sub fun p hp=>by simp[zf,hp]) hb;unfold strIdxD at hz
  split at hz
  ·obtain⟨y',hy',rfl⟩:=amf hz;refine⟨rfl,_,.int _ _,fun g=> ?_⟩;show((x.ev t).bind fun v=>(y.ev t).bind fun i=>(strIdxV v i).map (·,g))=_;rw[ha',hb',r1.inv_str,r2.inv_int,qd,qd];unfold strIdxV;dsimp only;rw[hy'];rfl
  ·cases hz
 case mkI ty x=>
  obtain⟨a,ha,e⟩:=amf h;cases e;obtain⟨a',ha',r1⟩:=zm hs ha;exact⟨rfl,_,.ifc ty r1,fun g=>by show(x.ev t).map _=_;rw[ha'];rfl⟩
 case assertT ty z ok x=>
  obtain⟨a,ha,h⟩:=aof h;obtain⟨z',hz',h⟩:=aof h;obtain⟨y,hy,e⟩:=amf h;cases e;obtain⟨a',ha',r1⟩:=zm hs ha;obtain⟨u,hu,r2⟩:=assertD_rel hy r1 (dOf_rel hz');exact⟨rfl,u,r2,fun g=>by show((x.ev t).bind fun v=>(zkK ty z ok v).map (·,g))=_;rw[ha',qd,hu];rfl⟩
 case fld off n x=>
  obtain⟨a,ha,h⟩:=aof h;obtain⟨z,hz,e⟩:=amf h;cases e;obtain⟨a',ha',r1⟩:=zm hs ha;cases a with
  |agg cs=>
   obtain⟨vs,rfl,hl⟩:=r1.inv_agg;have hd:=hl.drop off
   suffices hh: ∃u,partV off vs n=some u∧VRel w d u by
    obtain⟨u,hu,r2⟩:=hh;exact⟨rfl,u,r2,fun g=>by show((x.ev t).bind fun v=>(fldV off n v).map (·,g))=_;rw[ha',qd];show(partV off vs n).map _=_;rw[hu];rfl⟩
   cases n with
   |some n=>
    obtain⟨y,hy,rfl⟩:=amf (show(zcZ n (cs.drop off)).map DV.agg=some d from hz);obtain⟨hn,rfl⟩:=zf1 hy;refine⟨_,?_,.agg_of (hd.take n)⟩;show(zeH n (zcW off vs)).map _=_;rw[zb5,zdG,if_pos (by rw[←hd.len];exact hn)];rfl
   |none=>
    have hz:oneD (cs.drop off)=some d:=hz;unfold oneD at hz
    split at hz
    ·rename_i e;cases hz;rw[e] at hd;obtain⟨u,us',e2,hu,hus⟩:=hd.head;refine⟨u,?_,hu⟩;show(zcW off vs).head? =_;rw[zb5,e2];rfl
    ·cases hz
  |_=>cases hz
 case strSlice x lo hi=>
  obtain⟨a,ha,h⟩:=aof h;obtain⟨l,hl,h⟩:=aof h;obtain⟨b,hb,h⟩:=aof h;obtain⟨z,hz,e⟩:=amf h;cases e;obtain⟨a',ha',r1⟩:=zm (hs.sub fun p hp=>by simp[zf,hp]) ha;obtain⟨l',hl',r2⟩:=zfM (w:=w) (hs.sub fun p hp=>by simp[zf,hp]) hl;obtain⟨b',hb',r3⟩:=zfM (w:=w) (hs.sub fun p hp=>by simp[zf,hp]) hb;unfold zcn at hz
  split at hz
  ·obtain⟨n,hn,hz⟩:=aof hz;obtain⟨m,hm',hz⟩:=aof hz;obtain⟨q,hq,rfl⟩:=amf hz;refine⟨rfl,_,.str _,fun g=> ?_⟩;show((x.ev t).bind fun v=>(evO t lo).bind fun lo=>(evO t hi).bind fun hi=>(zg1 lo hi v).map (·,g))=_;rw[ha',hl',hb',r1.inv_str,qd,qd,qd];unfold zg1;dsimp only;rw[zy hn r3,qd,zy hm' r2,qd,hq];rfl
  ·cases hz
 all_goals first| (cases hp;done)|cases h
theorem zjD {size:Nat} {g:H} {lo hi:Option Value} {base:Option Addr} {len:Nat}:zfe size g lo hi (.slice base len zc)=base.bind fun a=>(g.get a.block).bind (zdh size a len lo hi g):=by
 unfold zfe;dsimp only;rw[if_pos (by rw[qG])]
theorem zdH {size:Nat} {g:H} {lo hi:Option Value} {base:Option Addr} {len cap:Nat} (hc:cap≠zc):zfe size g lo hi (.slice base len cap)=(zbM len cap hi).bind fun hi=>(zbM 0 hi lo).map fun lo=>
 (.slice (if qo cap lo then base else base.map fun a=>⟨a.block,a.off+lo*size,none⟩) (hi - lo) (cap - lo),g):=by
 unfold zfe;dsimp only;rw[if_neg (fun e=>hc (qg e))]
theorem zi3 {e s:Nat} (h:e=s) (h1:0<s) (h2:s<roE):(qo e s&&(qE 0 s&& !Nat.beq e roE))=true:=by
 subst h;have b:qo e roE=false:=by
  cases hb:qo e roE with
  |false=>rfl
  |true=>have:=qg hb;omega
 have a:qE 0 e=true:=by show qbd 1 e=true;rw[qQ];exact h1
 rw[a,b,qG];rfl
variable {h:H}
def SameRd (w:Wd) (js:List Nat) (h g:H):Prop:= ∀b,RdB w js b→g.get b=h.get b
theorem zbX {x:CO} {d:DV} (hx:evD s x=some d):zc1 s x=refD d:=by unfold zc1;rw[hx]
theorem zeh {op:COp} (hp:isRd op=true) (hr:HRel w M h) (hs:ziW w (zf op) s t) {d:DV} {M':VM} (hd:opD op s M=some (d,M')):M'=M∧ ∃v,VRel w d v∧ ∀g:H,SameRd w (zca s op) h g→opV op t g=some (v,g):=by
 cases op
 case load1 a=>
  obtain⟨x,hx,hd⟩:=aof hd;obtain⟨r,hr1,hd⟩:=aof hd;obtain⟨y,hy,e⟩:=amf hd;cases e;obtain⟨v,hv,r1⟩:=zm hs hx;obtain⟨b,off,cs,e,us,tl,rfl,hg,hb,hsp,hl⟩:=zjP hr hr1 r1;unfold oneD at hy
  split at hy
  ·cases hy;obtain⟨u,us',rfl,hu,hus⟩:=hl.head;refine⟨rfl,u,hu,fun g hg2=> ?_⟩;show((a.ev t).bind fun v=>(zgB v).bind fun a=>(g.readN a.block a.off 1).bind fun l=>(oneOf l).map (·,g))=_;rw[hv,qd];show((g.readN b off 1).bind _)=_;rw[zeS ((hg2 b (by show RdB w (zc1 s a) b;rw[zbX hx];exact hb)).trans hg) hsp (by simp) hl.clean];rfl
  ·cases hy
 case loadN n a=>
  obtain⟨x,hx,hd⟩:=aof hd;obtain⟨r,hr1,hd⟩:=aof hd;obtain⟨y,hy,e⟩:=amf hd;cases e;obtain⟨v,hv,r1⟩:=zm hs hx;obtain⟨b,off,cs,e,us,tl,rfl,hg,hb,hsp,hl⟩:=zjP hr hr1 r1;obtain⟨hn,rfl⟩:=zf1 hy;refine⟨rfl,_,.agg_of (hl.take n),fun g hg2=> ?_⟩;show((a.ev t).bind fun v=>(zgB v).bind fun a=>(g.readN a.block a.off n).map fun l=>(Value.agg ⟨l⟩,g))=_;rw[hv,qd];show((g.readN b off n).map _)=_;rw[zeS ((hg2 b (by show RdB w (zc1 s a) b;rw[zbX hx];exact hb)).trans hg) hsp (by rw[←hl.len];exact hn) hl.clean];rfl
 case lookup kk z ok x i=>
  obtain⟨m,hm,hd⟩:=aof hd;obtain⟨k,hk,hd⟩:=aof hd;obtain⟨z',hz,hd⟩:=aof hd;obtain⟨b,hb,hd⟩:=aof hd;obtain⟨es,hes,hd⟩:=aof hd;obtain⟨r,hr1,e⟩:=amf hd;cases e;obtain⟨m',hm',r1⟩:=zm (hs.sub fun p hp=>by simp[zf,hp]) hm;obtain⟨k',hk',r2⟩:=zm (hs.sub fun p hp=>by simp[zf,hp]) hk;obtain⟨es',hmr,hes'⟩:=ziE hr hes r1;obtain⟨r',hr',ho⟩:=findD_rel r2 hr1 hmr;refine⟨rfl,zfB z ok r',?_,fun g hg2=> ?_⟩
  ·unfold zbw zfB;cases r with
   |none=>cases r' with
    |none=>cases ok with
     |true=>exact .tup_of (.cons (dOf_rel hz) (.cons (.bool _) .nil))
     |false=>exact dOf_rel hz
    |some=>exact ho.elim
   |some y=>cases r' with
    |none=>exact ho.elim
    |some y'=>cases ok with
     |true=>exact .tup_of (.cons ho (.cons (.bool _) .nil))
     |false=>exact ho
  ·show((x.ev t).bind fun m=>(i.ev t).bind fun k=>(zch kk k k).bind fun _=>(zdu g m).bind fun es=>(findE kk k es).map fun r=>(zfB z ok r,g))=_;rw[hm',hk',qd,qd,zdJ hb r2 r2,qd,hes' g (fun b hb=>hg2 b (by show RdB w (zc1 s x) b;rw[zbX hm];exact hb)),qd,hr'];rfl
 case slice size x lo hi=>
  obtain⟨y,hy,hd⟩:=aof hd;obtain⟨l,hl,hd⟩:=aof hd;obtain⟨u,hu,hd⟩:=aof hd;obtain⟨z,hz,e⟩:=amf hd;cases e;obtain⟨y',hy',r1⟩:=zm (hs.sub fun p hp=>by simp[zf,hp]) hy;obtain⟨l',hl',r2⟩:=zfM (w:=w) (hs.sub fun p hp=>by simp[zf,hp]) hl;obtain⟨u',hu',r3⟩:=zfM (w:=w) (hs.sub fun p hp=>by simp[zf,hp]) hu;refine⟨rfl,?_⟩
  suffices hh: ∃v,VRel w d v∧ ∀g:H,SameRd w (refD y) h g→zfe size g l' u' y'=some (v,g) by
   obtain⟨v,hv,hg⟩:=hh;refine⟨v,hv,fun g hg2=> ?_⟩;show((x.ev t).bind fun v=>(evO t lo).bind fun lo=>(evO t hi).bind fun hi=>zfe size g lo hi v)=_;rw[hy',hl',hu',qd,qd,qd,hg g (fun b hb=>hg2 b (by show RdB w (zc1 s x) b;rw[zbX hy];exact hb))]
  cases r1 with
  |nilS=>
   obtain⟨n,hn,hz⟩:=aof (show(zl 0 0 u).bind _=some d from hz);obtain⟨m,hm,rfl⟩:=amf hz;have hn0:n=0:=by rcases zce hn with h|h<;>omega
   subst hn0;have hm0:m=0:=by rcases zce hm with h|h<;>omega
   subst hm0;refine⟨.slice none 0 0,.nilS,fun g _=> ?_⟩;rw[zdH (by decide),zy hn r3,qd,zy hm r2];rfl
  | @lst b o s0 n cap e cs rows hzz hss hbb hk hO hC hnn=>
    have hz2:(if s0=size∧0<s0 then(zl rows.length rows.length u).bind fun hi=>(zl 0 hi l).map fun lo=>DV.lst s0 ((rows.drop lo).take (hi - lo)) else none)=some d:=hz;clear hz
    split at hz2
    ·rename_i hc;obtain⟨rfl,hpos⟩:=hc;obtain⟨n2,hn,hz2⟩:=aof hz2;obtain⟨m,hm,rfl⟩:=amf hz2;subst hnn;have hn2:n2≤rows.length:=by rcases zce hn with h|h<;>omega
     have hmn:m≤n2:=by rcases zce hm with h|h<;>omega
     have hl:=zX hss;have hsub: ∀r∈(rows.drop m).take (n2 - m),r.length=s0:=fun r hr=>hss r (qk (qj hr));have hlen:((rows.drop m).take (n2 - m)).length=n2 - m:=by simp;omega
     have hmul:m*s0+(n2 - m)*s0≤rows.length*s0:=by rw[←qy];exact qD _ (by omega)
     have hsub2: ∀(k:Nat) d v,((rows.drop m).take (n2 - m)).flatten[k]? =some d→cs[o+m*s0+k]? =some v→VRel w d v:=fun k d v h1 h2=>by
      rw[zdr (fun r hr=>hss r (qk hr)),zds hss,qT] at h1
      split at h1
      ·rw[qU] at h1;exact hk _ d v h1 (by rw[←h2];congr 1;omega)
      ·cases h1
     by_cases hcap:cap=zc
     ·subst hcap;obtain⟨he,he1,he2⟩:=hO rfl;refine⟨.slice (some ⟨b,o+m*s0,none⟩) (n2 - m) zc,.lst hzz hsub (by rw[hlen];omega) hsub2 hO (fun h=>absurd rfl h) hlen.symm,fun g hg2=> ?_⟩;have hgb:=(hg2 b (.inr (by rw[hzz];rfl))).trans (hr.zd _ _ hzz).2;rw[zjD];show(g.get b).bind _=_;rw[hgb,Option.bind_some];unfold zdh;dsimp only;have hq:rows.length≤(cs.length - o) / s0:=by rw[Nat.le_div_iff_mul_le hpos];omega
      have b1:zbM rows.length ((cs.length - o) / s0) u'=some n2:=by
       cases u with
       |none=>cases u' with
        |none=>cases hn;rfl
        |some=>exact r3.elim
       |some u=>
        have:zl rows.length ((cs.length - o) / s0) (some u)=some n2:=by
         unfold zl inD at hn⊢;dsimp only at hn⊢
         split at hn
         ·split at hn
          ·rw[if_pos (by omega)];exact hn
          ·cases hn
         ·cases hn
        exact zy this r3
      rw[if_pos (zi3 he he1 he2),b1,qd,zy hm r2];rfl
     ·have hrc:=hC hcap;have b1:zbM rows.length cap u'=some n2:=by
       cases u with
       |none=>cases u' with
        |none=>cases hn;rfl
        |some=>exact r3.elim
       |some u=>
        have:zl rows.length cap (some u)=some n2:=by
         unfold zl inD at hn⊢;dsimp only at hn⊢
         split at hn
         ·split at hn
          ·rw[if_pos (by omega)];exact hn
          ·cases hn
         ·cases hn
        exact zy this r3
      have hE: ∀g:H,zfe s0 g l' u' (.slice (some ⟨b,o,none⟩) rows.length cap)=some (.slice (if qo cap m then some ⟨b,o,none⟩ else some ⟨b,o+m*s0,none⟩) (n2 - m) (cap - m),g):=fun g=>by
       rw[zdH hcap,b1,qd,zy hm r2,qw];rfl
      refine⟨_,?_,fun g _=>hE g⟩;by_cases hcm:cap=m
      ·subst hcm;have:n2 - cap=0:=by omega
       have e0:(rows.drop cap).take (n2 - cap)=[]:=by rw[this];rfl
       rw[e0,this,Nat.sub_self];exact .lst0 (by unfold zc;omega) (fun a e=>by split at e<;>cases e<;>rfl)
      ·rw[if_neg (by simp;exact hcm)];by_cases hoc:cap - m=zc
       ·omega
       ·exact .lst hzz hsub (by rw[hlen];omega) hsub2 (fun h=>absurd h hoc) (fun _=>by rw[hlen];omega) hlen.symm
    ·cases hz2
  | @lst0 s0 cap base hc hsp=>
    have hz2:(if s0=size∧0<s0 then(zl 0 0 u).bind fun hi=>(zl 0 hi l).map fun lo=>DV.lst s0 (([]:List (List DV)).drop lo |>.take (hi - lo)) else none)=some d:=hz;clear hz
    split at hz2
    ·rename_i hc2;obtain⟨rfl,hpos⟩:=hc2;obtain⟨n2,hn,hz2⟩:=aof hz2;obtain⟨m,hm,rfl⟩:=amf hz2;have hn0:n2=0:=by rcases zce hn with h|h<;>omega
     subst hn0;have hm0:m=0:=by rcases zce hm with h|h<;>omega
     subst hm0;have b1:zbM 0 cap u'=some 0:=by
      cases u with
      |none=>cases u' with
       |none=>rfl
       |some=>exact r3.elim
      |some u=>
       have:zl 0 cap (some u)=some 0:=by
        unfold zl inD at hn⊢;dsimp only at hn⊢
        split at hn
        ·split at hn
         ·cases hn;rw[if_pos (by omega)]
         ·cases hn
        ·cases hn
       exact zy this r3
     refine⟨.slice (if qo cap 0 then base else base.map fun a=>⟨a.block,a.off+0*s0,none⟩) 0 (cap - 0),?_,fun g _=> ?_⟩
     ·rw[show((([]:List (List DV)).drop 0).take (0 - 0))=[] from rfl];exact .lst0 hc (fun a e=>by
       cases base with
       |none=>split at e<;>cases e
       |some b=>split at e<;>cases e<;>first|rfl|exact hsp _ rfl)
     ·rw[zdH (by omega),b1,qd,zy hm r2];rfl
    ·cases hz2
  | @ms j lo0 len cap R hR hO hC=>
    obtain⟨o,ho,hz⟩:=aof (show(M.obj j).bind _=some d from hz);obtain⟨st,hg⟩:=zbS ho;obtain⟨hzz,e,he,hro⟩:=hr.obj j o st R hg hR;cases hro with
    | @rows op sz rs cs e' hrows=>
      have hl:=zX hrows.row;have hcl:=hrows.rel.len;cases op with
      |true=>
       have hz2:(if sz=size∧cap=zc∧lo0≤rs.length then(zl len (rs.length - lo0) u).bind fun hi=>(zl 0 hi l).map fun lo=>DV.ms j (lo0+lo) (hi - lo) zc else none)=some d:=hz;clear hz
       split at hz2
       ·rename_i hc2;obtain⟨rfl,rfl,hlo⟩:=hc2;obtain⟨n2,hn,hz2⟩:=aof hz2;obtain⟨m,hm,rfl⟩:=amf hz2;obtain⟨hp1,hp2⟩:=hrows.pos rfl;have hes:=hrows.esz;rw[if_pos rfl] at hes;refine⟨.slice (some ⟨R.blk,(lo0+m)*R.sz,none⟩) (n2 - m) zc,.ms hR hO (fun h=>absurd rfl h),fun g hg2=> ?_⟩;have hgb:=(hg2 R.blk (.inl ⟨j,R,qB.2 rfl,hR,rfl⟩)).trans he;rw[zjD];show(g.get R.blk).bind _=_;rw[hgb,qd];unfold zdh;dsimp only;have hq:(cs.length - lo0*R.sz) / sz=rs.length - lo0:=by
         rw[←hcl,hl,←hrows.hsz,←qbD,qbf _ hp1]
        rw[if_pos (zi3 hes hp1 hp2),hq,zy hn r3,qd,zy hm r2,qw,qy,hrows.hsz]
       ·cases hz2
      |false=>
       have hz2:(if sz=size∧cap<zc then(zl len cap u).bind fun hi=>(zl 0 hi l).map fun lo=>DV.ms j (if cap=lo then lo0 else lo0+lo) (hi - lo) (cap - lo) else none)=some d:=hz;clear hz
       split at hz2
       ·rename_i hc2;obtain⟨rfl,hlt⟩:=hc2;obtain⟨n2,hn,hz2⟩:=aof hz2;obtain⟨m,hm,rfl⟩:=amf hz2;have hcap:cap≠zc:=by omega
        have hnc:n2≤cap:=by
         rcases zce hn with h|h
         ·exact h
         ·rw[h.2];exact(hC hcap).1
        refine⟨.slice (some ⟨R.blk,(if cap=m then lo0 else lo0+m)*R.sz,none⟩) (n2 - m) (cap - m),.ms hR (fun h=>by omega) (fun _=>⟨by omega,by omega⟩),fun g hg2=> ?_⟩;rw[zdH hcap,zy hn r3,qd,zy hm r2,qw];by_cases hcm:cap=m
        ·subst hcm;rw[if_pos (by simp),if_pos rfl]
        ·rw[if_neg (by simp;exact hcm),if_neg hcm,qy,←hrows.hsz];rfl
       ·cases hz2
    |map=>cases hz
    |loop=>cases hz
  |_=>cases hz
 case slice3 size x lo hi mx=>
  obtain⟨y,hy,hd⟩:=aof hd;obtain⟨l,hl,hd⟩:=aof hd;obtain⟨u,hu,hd⟩:=aof hd;obtain⟨q,hq,hd⟩:=aof hd;obtain⟨z,hz,e⟩:=amf hd;cases e;obtain⟨y',hy',r1⟩:=zm (hs.sub fun p hp=>by simp[zf,hp]) hy;obtain⟨l',hl',r2⟩:=zfM (w:=w) (hs.sub fun p hp=>by simp[zf,hp]) hl;obtain⟨u',hu',r3⟩:=zm (hs.sub fun p hp=>by simp[zf,hp]) hu;obtain⟨q',hq',r4⟩:=zm (hs.sub fun p hp=>by simp[zf,hp]) hq;refine⟨rfl,?_⟩
  suffices hh: ∃v,VRel w d v∧ ∀g:H,SameRd w (refD y) h g→zeJ size g l' u' q' y'=some (v,g) by
   obtain⟨v,hv,hg⟩:=hh;refine⟨v,hv,fun g hg2=> ?_⟩;show((x.ev t).bind fun v=>(evO t lo).bind fun lo=>(hi.ev t).bind fun hi=>(mx.ev t).bind fun mx=>zeJ size g lo hi mx v)=_;rw[hy',hl',hu',hq',qd,qd,qd,qd,hg g (fun b hb=>hg2 b (by show RdB w (zc1 s x) b;rw[zbX hy];exact hb))]
  cases r1 with
  | @ms j lo0 len cap R hR hO hC=>
    obtain⟨o,ho,hz⟩:=aof (show(M.obj j).bind _=some d from hz);obtain⟨st,hg⟩:=zbS ho;obtain⟨hzz,e,he,hro⟩:=hr.obj j o st R hg hR;cases hro with
    | @rows op sz rs cs e' hrows=>
      have hl:=zX hrows.row;have hcl:=hrows.rel.len;cases op with
      |true=>
       have hz2:(if sz=size∧cap=zc∧lo0≤rs.length then(zl 0 (rs.length - lo0) (some q)).bind fun m=>if 0<m∧m<zc then(zl 0 m (some u)).bind fun hi=>(zl 0 hi l).map fun lo=>DV.ms j (if m=lo then lo0 else lo0+lo) (hi - lo) (m - lo) else none else none)=some d:=hz;clear hz
       split at hz2
       ·rename_i hc2;obtain⟨rfl,rfl,hlo⟩:=hc2;obtain⟨m,hm,hz2⟩:=aof hz2
        split at hz2
        ·rename_i hmm;obtain⟨n2,hn,hz2⟩:=aof hz2;obtain⟨m2,hm2,rfl⟩:=amf hz2;obtain⟨hp1,hp2⟩:=hrows.pos rfl;have hes:=hrows.esz;rw[if_pos rfl] at hes;have hb1:n2≤m:=by exact(zce hn).resolve_right (fun h=>by cases h.1)
         refine⟨.slice (some ⟨R.blk,(if m=m2 then lo0 else lo0+m2)*R.sz,none⟩) (n2 - m2) (m - m2),.ms hR (fun h=>by omega) (fun _=>⟨by omega,by omega⟩),fun g hg2=> ?_⟩;have hgb:=(hg2 R.blk (.inl ⟨j,R,qB.2 rfl,hR,rfl⟩)).trans he;unfold zeJ;dsimp only;rw[if_pos (qG _)];show(g.get R.blk).bind _=_;rw[hgb,qd];unfold zeb;dsimp only;have hq2:(cs.length - lo0*R.sz) / sz=rs.length - lo0:=by
          rw[←hcl,hl,←hrows.hsz,←qbD,qbf _ hp1]
         rw[if_pos (zi3 hes hp1 hp2),hq2,zy (v:=some q') hm r4,qd,if_pos (by rw[qr];exact⟨by show qbd 1 m=true;rw[qQ];exact hmm.1,by show qbd (m+1) zc=true;rw[qQ];exact hmm.2⟩),zy (v:=some u') hn r3,qd,zy hm2 r2,qw];by_cases hcm:m=m2
         ·rw[if_pos (by rw[hcm,qG]),if_pos hcm]
         ·rw[if_neg (fun e=>hcm (qg e)),if_neg hcm,qy,←hrows.hsz]
        ·cases hz2
       ·cases hz2
      |false=>
       have hz2:(if sz=size∧cap<zc then(zl 0 cap (some q)).bind fun m=>(zl 0 m (some u)).bind fun hi=>(zl 0 hi l).map fun lo=>DV.ms j (if m=lo then lo0 else lo0+lo) (hi - lo) (m - lo) else none)=some d:=hz;clear hz
       split at hz2
       ·rename_i hc2;obtain⟨rfl,hlt⟩:=hc2;obtain⟨m,hm,hz2⟩:=aof hz2;obtain⟨n2,hn,hz2⟩:=aof hz2;obtain⟨m2,hm2,rfl⟩:=amf hz2;have hcap:cap≠zc:=by omega
        have hb0:m≤cap:=by exact(zce hm).resolve_right (fun h=>by cases h.1)
        have hb1:n2≤m:=by exact(zce hn).resolve_right (fun h=>by cases h.1)
        refine⟨.slice (some ⟨R.blk,(if m=m2 then lo0 else lo0+m2)*R.sz,none⟩) (n2 - m2) (m - m2),.ms hR (fun h=>by omega) (fun _=>⟨by omega,by omega⟩),fun g hg2=> ?_⟩;unfold zeJ;dsimp only;rw[if_neg (fun e=>hcap (qg e)),zy (v:=some q') hm r4,qd,zy (v:=some u') hn r3,qd,zy hm2 r2,qw];by_cases hcm:m=m2
        ·rw[if_pos (by rw[hcm,qG]),if_pos hcm]
        ·rw[if_neg (fun e=>hcm (qg e)),if_neg hcm,qy,←hrows.hsz];rfl
       ·cases hz2
    |map=>cases hz
    |loop=>cases hz
  |_=>cases hz
 case blt b as=>
  cases b with
  |lenMap=>
   obtain⟨l,hl,hd⟩:=aof hd;obtain⟨vs,hvs,hrl⟩:=zet (w:=w) hs hl
   match l,hd,hrl,hl with
   | [],hd,_,_=>cases hd
   |_::_::_,hd,_,_=>cases hd
   | [d0],hd,hrl,hl=>
     obtain⟨es,hes,e⟩:=amf (show(z9 M d0).map _=_ from hd);cases e;obtain⟨v,r,rfl,hv,hrr⟩:=hrl.head;rw[hrr.inv_nil] at hvs;obtain⟨es',hmr,hes'⟩:=ziE hr hes hv;have hlen:es.length=es'.length:=by have:=hmr.keys.len;simpa using this
     refine⟨rfl,.int .i64 es'.length,by rw[hlen];exact .int _ _,fun g hg2=> ?_⟩;have hj: ∀b,RdB w (refD d0) b→RdB w (zca s (.blt .lenMap as)) b:=fun b hb=>by
      rcases hb with⟨j,R,hj,h2⟩|hb
      ·refine .inl ⟨j,R,?_,h2⟩
       match as,hl with
       | [x],hl=>
         obtain⟨y,hy,h3⟩:=aof hl;obtain⟨z,hz,h4⟩:=amf h3;cases hz;cases h4;show j∈[x].flatMap (zc1 s);simp[zbX hy,hj]
       | [],hl=>cases hl
       |x::y::r,hl=>
        obtain⟨y,hy,h3⟩:=aof hl;obtain⟨z,hz,h4⟩:=amf h3;obtain⟨y2,hy2,h5⟩:=aof hz;obtain⟨z2,hz2,h6⟩:=amf h5;subst h6;cases h4
      ·exact .inr hb
     have hee:=hes' g (fun b hb=>hg2 b (hj b hb));show((evL t as).bind fun l=>bltV g .lenMap l)=_;rw[hvs,qd];unfold zdu at hee
     split at hee
     ·cases hee;rfl
     ·show(match g.get _ with|some (.map es _)=>some (Value.int .i64 es.length,g)|_=>none)=_
      split at hee
      ·rename_i hgg;cases hee;rw[hgg]
      ·cases hee
     ·cases hee
  |_=>cases hp
 case b2s x=>
  obtain⟨y,hy,hd⟩:=aof hd;obtain⟨z,hz,e⟩:=amf hd;cases e;obtain⟨y',hy',r1⟩:=zm hs hy;obtain⟨rows,hrows,hz⟩:=aof (show(zew M 1 y).bind _=some d from hz);obtain⟨bl,hbl,rfl⟩:=amf hz;obtain⟨base,cap,rfl,hlen,hcase⟩:=zil hr hrows r1;refine⟨rfl,_,.str _,fun g hg2=> ?_⟩;show((x.ev t).bind fun v=>(b2sV g v).map (·,g))=_;rw[hy',qd];rcases hcase with rfl| ⟨b,o,cs,e,us,tl,rfl,hg,hb,hsp,hl⟩
  ·cases hbl;unfold b2sV;cases base<;>rfl
  ·have hfl:=zX hlen;have hgb:=(hg2 b (by show RdB w (zc1 s x) b;rw[zbX hy];exact hb)).trans hg;unfold b2sV;dsimp only;by_cases h0:rows.length=0
   ·rw[if_pos (by simp[h0])];have:rows=[]:=qK h0;subst this;cases hbl;rfl
   ·rw[if_neg (by simp;exact fun h=>h0 (by rw[h];rfl)),zeS hgb hsp (by rw[←hl.len];omega) hl.clean,qd,qJ (by rw[←hl.len];omega),allO_byte hbl hlen hl];rfl
 all_goals cases hp
end
end
section
section
variable {w:Wd} {M:VM} {h:H} {s:DS} {t:zb}
def Left (w:Wd) (M:VM) (h:H) (d:DV) (M':VM) (v:Value) (h':H):Prop:= ∃w',VRel w' d v∧Hist w M h w' M' h'∧HRel w' M' h'
theorem zgW {R:RBd} {op:Bool} {sz e off:Nat} {rs rs':List (List DV)} {cs us:List Value} {xs:List DV} (hg:h.get R.blk=some (.cells cs e)) (hrows:RowsRel w R op sz rs cs e) (hw:zp rs.flatten off xs=some rs'.flatten) (hrow: ∀r∈rs',r.length=sz) (hx:LRel w xs us) (hc:xs.all zj=true):
 ∃cs',h.write R.blk off us=some (h.put R.blk (.cells cs' e))∧RowsRel w R op sz rs' cs' e:=by
 obtain⟨cs',h1,h2⟩:=zd9 hrows.rel hx hw;refine⟨cs',?_,hrows.hop,hrows.hsz,hrows.esz,hrows.pos,hrow,h2⟩;unfold H.write;rw[hg,qd];unfold zfZ;have he:qo e roE=false:=by
  cases hb:qo e roE with
  |false=>rfl
  |true=>
   have:=qg hb;have h3:=hrows.esz;cases op with
   |true=>have:=(hrows.pos rfl).2;rw[if_pos rfl] at h3;omega
   |false=>rw[if_neg (by decide)] at h3;rw[h3] at this;exact absurd this (by decide)
 dsimp only;rw[if_pos (by rw[hx.isCell hc,he];rfl),h1];rfl
theorem zhV (hr:HRel w M h) {n:Nat} {x a:DV} {x' a':Value} {M':VM} (hd:zfs n M x a=some M') (hx:VRel w x x') (ha:VRel w a a'):
 ∃b off h',a'=.pointer (some ⟨b,off,none⟩)∧qo (zS x').length n=true∧h.write b off (zS x')=some h'∧Hist w M h w M' h'∧HRel w M' h'∧(∃j i o R,a=.ptr j i o∧w.rho j=some R∧R.blk=b):=by
 cases ha with
 | @ptr j i off R hR=>
   obtain⟨o,ho,hd⟩:=aof (show(M.obj j).bind _=some M' from hd);obtain⟨st,hg⟩:=zbS ho;obtain⟨hz,e,he,hro⟩:=hr.obj j o st R hg hR;cases hro with
   | @rows op sz rs cs e' hrows=>
     obtain⟨r,hri,hd⟩:=aof (show(rs[i]?).bind _=some M' from hd)
     split at hd
     ·rename_i hc;obtain⟨r',hw,rfl⟩:=amf hd;have hlt:=(qn.1 hri).1;obtain⟨cs',h1,h2⟩:=zgW (rs':=rs.set i r') he hrows (zjm hrows.row hri hw) (fun q hq=>by
       rcases qbl hq with h3|rfl
       ·exact hrows.row q h3
       ·rw[writeD_len hw];exact hrows.row r (qba hri))                  hx.cells hc.2.2
      obtain⟨p1,p2⟩:=hr.put hg hR (o:=.rows op sz (rs.set i r')) (e:=.cells cs' e') (.rows h2);exact⟨R.blk,i*R.sz+off,_,rfl,by rw[←hx.cells.len,hc.1,qG],by rw[←hrows.hsz];exact h1,p2,p1,j,i,off,R,rfl,hR,rfl⟩
     ·cases hd
   |map=>cases hd
   |loop=>cases hd
 |_=>cases hd
theorem zjF {size:Nat}: ∀{l:List (Nat×DV)} {l':List (Nat×Nat×Value)} {rows rows':List (List DV)} {vs:List Value},(∀r∈rows,r.length=size)→LRel w rows.flatten vs→l'.map (fun x=>(x.1,x.2.1))=l.map (fun x=>(x.1*size,size))→LRel w (l.map Prod.snd) (l'.map fun x=>x.2.2)→zc0 size rows l=some rows'→
 ∃vs',ziU vs l'=some vs'∧LRel w rows'.flatten vs'∧(∀r∈rows',r.length=size)∧rows'.length=rows.length
 | [],l',rows,rows',vs,hs,hc,e,_,h=>by
   cases h;cases l' with
   |nil=>exact⟨vs,rfl,hc,hs,rfl⟩
   |cons=>cases e
 | (i,x)::l,[],rows,rows',vs,hs,hc,e,_,h=>by cases e
 | (i,x)::l,(o',n',x')::l',rows,rows',vs,hs,hc,e,hl,h=>by
   simp only[qbh,List.cons.injEq,qX] at e hl;obtain⟨⟨rfl,rfl⟩,e⟩:=e;obtain⟨x2,r2,e2,hx,hr⟩:=hl.head;cases e2;unfold zc0 at h
   split at h
   ·rename_i hc1;obtain⟨h1,h2,h3,h4⟩:=hc1;have hri:rows[i]? =some rows[i]:=ql h4;have hw:zp rows[i] 0 (zr x)=some (zr x):=by
     have hl1:=hs _ (qbF h4);rw[zea (by omega)];simp;omega
    obtain⟨v1,h5,h6⟩:=zd9 hc hx.cells (zjm hs hri hw);obtain⟨vs',h7,h8,h9,h10⟩:=zjF (rows:=rows.set i (zr x)) (fun q hq=>by
     rcases qbl hq with h3|rfl
     ·exact hs q h3
     ·exact h1) h6 e hr h
    refine⟨vs',?_,h8,h9,by rw[h10,List.length_set]⟩;unfold ziU;rw[if_pos (by simp[←hx.cells.len,h1,h2]),show i*n'=i*n'+0 from rfl,h5,qd,h7]
   ·cases h
theorem zjV {size:Nat}: ∀{ps:List (Nat×CO)} {l:List (Nat×DV)},ziW w (ps.flatMap fun p=>zi p.2) s t→zeV s ps=some l→
 ∃l',zcM t size ps=some l'∧l'.map (fun x=>(x.1,x.2.1))=l.map (fun x=>(x.1*size,size))∧LRel w (l.map Prod.snd) (l'.map fun x=>x.2.2)
 | [],l,_,h=>by cases h;exact⟨[],rfl,rfl,.nil⟩
 | (o,x)::ps,l,hs,h=>by
   obtain⟨d,hd,h⟩:=aof h;obtain⟨r,hr,rfl⟩:=amf h;obtain⟨v,hv,h1⟩:=zm (hs.sub fun p hp=>by simp[hp]) hd;obtain⟨r',hr',e,h2⟩:=zjV (size:=size) (hs.sub fun p hp=>by rw[qbj];exact qL _ hp) hr;exact⟨(o*size,size,v)::r',by unfold zcM;rw[hv,qd,hr'];rfl,by simp[e],.cons h1 h2⟩
theorem zfW {w:Wd} {j:Nat} {R:RBd}:(w.add j R).rho j=some R:=by show(if j=j then _ else _)=_;rw[if_pos rfl]
theorem zj4 (hr:HRel w M h) {op:Bool} {sz:Nat} {rs:List (List DV)} {cs:List Value} {e:Nat} (he:e=if op=true then sz else 0) (hp:op=true→0<sz∧sz<roE) (hrow: ∀r∈rs,r.length=sz) (hl:LRel w rs.flatten cs):
 HRel (w.add M.next ⟨h.next,sz,op⟩) (M.new (.rows op sz rs)) (h.new (.cells cs e))∧Hist w M h (w.add M.next ⟨h.next,sz,op⟩) (M.new (.rows op sz rs)) (h.new (.cells cs e)):=
 hr.new (.rows ⟨rfl,rfl,he,hp,hrow,hl.mono (Wd.add_le (hr.rho_none (qe _)))⟩)
theorem zj5 (hr:HRel w M h) {size:Nat} {rs:List (List DV)} {cs:List Value} (hp:0<size∧size<roE) (hrow: ∀r∈rs,r.length=size) (hl:LRel w rs.flatten cs):
 Left w M h (zgD M size rs).1 (zgD M size rs).2 (zb3 h rs.length size cs).1 (zb3 h rs.length size cs).2:=by
 obtain⟨p1,p2⟩:=zj4 hr (op:=true) (e:=size) (by rw[if_pos rfl]) (fun _=>hp) hrow hl;refine⟨_,?_,p2,p1⟩;have:=VRel.ms (w:=w.add M.next ⟨h.next,size,true⟩) (lo:=0) (len:=rs.length) (cap:=zc) zfW (fun _=>rfl) (fun h=>absurd rfl h)
 rwa [qbB] at this
theorem appendD_rel (hr:HRel w M h) {size bytes:Nat} {new:List (List DV)} {us:List Value} {d:DV} {v:Value} {d':DV} {M':VM} (hp:0<size∧size<roE) (hrow: ∀r∈new,r.length=size) (hl:LRel w new.flatten us) (hc:new.all (fun r=>r.all zj)=true) (hv:VRel w d v)
 (hd:zcL size bytes M new d=some (d',M')): ∃v' h',zcN size bytes new.length us h v=some (v',h')∧Left w M h d' M' v' h':=by
 have hcf:new.flatten.all zj=true:=by
  rw[qt] at hc⊢;intro x hx;obtain⟨r,hr1,hr2⟩:=qbn.1 hx;exact qt.1 (hc r hr1) x hr2
 have hcell:=hl.isCell hcf;have hlen:=zX hrow;unfold zcL at hd;by_cases h0:new=[]
 ·rw[if_pos h0] at hd;have hM:d'=d∧M'=M:=by split at hd<;>cases hd<;>exact⟨rfl,rfl⟩
  obtain⟨rfl,rfl⟩:=hM;subst h0;refine⟨v,h,?_,w,hv,.refl _ _ _,hr⟩;cases hv<;>first| (cases hd;done)| (unfold zcN;dsimp only;rw[if_pos (by rfl)])
 ·rw[if_neg h0] at hd;have hn:qo new.length 0=false:=by
   cases new with
   |nil=>exact absurd rfl h0
   |cons=>rfl
  split at hd
  ·
   split at hd
   ·rename_i hb;cases hd;cases hv;obtain⟨w',q⟩:=zj5 hr hp hrow hl;refine⟨_,_,?_,w',q⟩;unfold zcN;dsimp only;rw[hn,if_neg (by decide),if_pos (by simp[hcell];exact hb)];rfl
   ·cases hd
  ·rename_i j lo len cap
   split at hd
   ·rename_i hb;obtain⟨o,ho,hd⟩:=aof hd;obtain⟨st,hg⟩:=zbS ho;cases hv with
    | @ms _ _ _ _ R hR hO hC=>
      obtain⟨hz,e,he,hro⟩:=hr.obj j o st R hg hR;cases hro with
      |map=>cases hd
      |loop=>cases hd
      | @rows op sz rs cs e' hrows=>
        have hd2:(if sz=size∧lo+len≤rs.length then match op with
         |true=>if cap=zc then
           if lo+len+new.length≤rs.length then some (DV.ms j lo (len+new.length) cap,M.put j (.rows true sz (zbR rs new (lo+len))))
           else some (zgD (M.del j) size ((rs.drop lo).take len++new)) else none
         |false=>if cap<zc then
           if len+new.length≤cap then(if lo+cap≤rs.length then some (DV.ms j lo (len+new.length) cap,M.put j (.rows false sz (zbR rs new (lo+len)))) else none)
           else some (zgD M size ((rs.drop lo).take len++new)) else none
         else none)=some (d',M'):=hd
        clear hd
        split at hd2
        ·rename_i hsz;obtain⟨rfl,hle⟩:=hsz;have hs:=hrows.row;have hfl:=zX hs;have hcl:=hrows.rel.len;have hsz:=hrows.hsz;have hold:zjw (len*sz) (zcW (lo*R.sz) cs)=some ((cs.drop (lo*R.sz)).take (len*sz)):=by
          rw[zb5,←hsz];have:=takeC_app (us:=(cs.drop (lo*sz)).take (len*sz)) (tl:=(cs.drop (lo*sz)).drop (len*sz)) (n:=len*sz)
           (by rw[List.length_take,List.length_drop,←hcl,hfl]
               have:lo*sz+len*sz≤rs.length*sz:=by rw[←qy];exact qD _ hle
               omega) (((hrows.rel.drop _).take _).clean)
          rw[qp,List.take_take,Nat.min_self] at this;exact this
         have hso: ∀r∈(rs.drop lo).take len++new,r.length=sz:=fun r hr1=>by
          rcases qu.1 hr1 with h1|h1
          ·exact hs r (qk (qj h1))
          ·exact hrow r h1
         have hlo:LRel w ((rs.drop lo).take len++new).flatten ((cs.drop (lo*R.sz)).take (len*sz)++us):=by
          rw[qbc,zdr (fun r hr1=>hs r (qk hr1)),zds hs,←hsz];exact((hrows.rel.drop _).take _).append hl
         have hlen2:((rs.drop lo).take len++new).length=len+new.length:=by simp;omega
         have hput:lo+len+new.length≤rs.length→ ∃cs',h.write R.blk (lo*R.sz+len*sz) us=some (h.put R.blk (.cells cs' e'))∧RowsRel w R op sz (zbR rs new (lo+len)) cs' e':=fun hle2=>by
          rw[←hsz,←qy];refine zgW he hrows (zfw hs hrow hle2) (fun r hr1=> ?_) hl hcf;unfold zbR at hr1;rcases qu.1 hr1 with h1|h1
          ·rcases List.mem_append.1 h1 with h1|h1
           ·exact hs r (qj h1)
           ·exact hrow r h1
          ·exact hs r (qk h1)
         have hApp: ∀x,zd0 sz ⟨R.blk,lo*R.sz,none⟩ len cap new.length us h (.cells cs e')=x→zcN sz bytes new.length us h (.slice (some ⟨R.blk,lo*R.sz,none⟩) len cap)=x:=fun x hx=>by
          unfold zcN;dsimp only;rw[hn,if_neg (by decide),if_pos (by simp[hcell];exact hb),he,qd,hx]
         cases op with
         |true=>
          dsimp only at hd2
          split at hd2
          ·rename_i hcap;subst hcap;obtain⟨hp1,hp2⟩:=hrows.pos rfl;have hes:=hrows.esz;rw[if_pos rfl] at hes;have hq:(cs.length - lo*R.sz) / sz=rs.length - lo:=by
            rw[←hcl,hfl,←hsz,←qbD,qbf _ hp1]
           have hcond:(qo e' sz&& !Nat.beq e' roE)=true:=by
            have:=zi3 hes hp1 hp2;simp only[qr] at this⊢;exact⟨this.1,this.2.2⟩
           have hI:zd0 sz ⟨R.blk,lo*R.sz,none⟩ len zc new.length us h (.cells cs e')=if qbd (len+new.length) (rs.length - lo) then putIn sz ⟨R.blk,lo*R.sz,none⟩ len zc new.length us h else zkj sz ⟨R.blk,lo*R.sz,none⟩ len new.length us (h.put R.blk .dead) cs:=by
            unfold zd0;dsimp only;rw[if_pos (qG _),if_pos hcond,hq]
           split at hd2
           ·rename_i hle2;cases hd2;obtain⟨cs',h1,h2⟩:=hput hle2;obtain⟨p1,p2⟩:=hr.put hg hR (o:=.rows true sz (zbR rs new (lo+len))) (e:=.cells cs' e') (.rows h2);refine⟨_,_,hApp _ ?_,w,.ms hR hO (fun h=>absurd rfl h),p2,p1⟩;rw[hI,if_pos (by rw[qQ];omega)];unfold putIn;rw[h1];rfl
           ·rename_i hle2;cases hd2;obtain⟨k1,k2⟩:=hr.kill hg hR .dead;obtain⟨w',q1,q2,q3⟩:=zj5 k1 hp hso hlo;refine⟨_,_,hApp _ ?_,w',q1,k2.trans hr q2,q3⟩;rw[hI,if_neg (by rw[qQ];omega)];unfold zkj;rw[hold,qw,hlen2]
          ·cases hd2
         |false=>
          dsimp only at hd2
          split at hd2
          ·rename_i hcap;have hI:zd0 sz ⟨R.blk,lo*R.sz,none⟩ len cap new.length us h (.cells cs e')=if qbd (len+new.length) cap then putIn sz ⟨R.blk,lo*R.sz,none⟩ len cap new.length us h else zkj sz ⟨R.blk,lo*R.sz,none⟩ len new.length us h cs:=by
            unfold zd0;dsimp only;rw[if_neg (fun e=>by have:=qg e;omega)]
           split at hd2
           ·rename_i hle2
            split at hd2
            ·rename_i hle3;cases hd2;obtain⟨cs',h1,h2⟩:=hput (by omega);obtain⟨p1,p2⟩:=hr.put hg hR (o:=.rows false sz (zbR rs new (lo+len))) (e:=.cells cs' e') (.rows h2);refine⟨_,_,hApp _ ?_,w,.ms hR hO (fun h=>⟨hle2,(hC h).2⟩),p2,p1⟩;rw[hI,if_pos (by rw[qQ];omega)];unfold putIn;rw[h1];rfl
            ·cases hd2
           ·rename_i hle2;cases hd2;obtain⟨w',q1,q2,q3⟩:=zj5 hr hp hso hlo;refine⟨_,_,hApp _ ?_,w',q1,q2,q3⟩;rw[hI,if_neg (by rw[qQ];omega)];unfold zkj;rw[hold,qw,hlen2]
          ·cases hd2
        ·cases hd2
   ·cases hd
  ·cases hd
theorem appendedD_rel (hr:HRel w M h) {size:Nat} {d:DV} {new:List (List DV)} {v:Value} (hd:zbA M size d=some new) (hv:VRel w d v): ∃us,appended h size v=some (new.length,us)∧LRel w new.flatten us∧ ∀r∈new,r.length=size:=by
 unfold zbA at hd
 split at hd
 ·rename_i b
  split at hd
  ·rename_i hs;cases hd;subst hs;rw[hv.inv_str];refine⟨b.data.toList.map zhH,?_,?_,?_⟩
   ·unfold appended;dsimp only;rw[if_pos (by rfl)];unfold zlH;simp
   ·unfold zlH;have: ∀l:List UInt8,LRel w (l.map fun b=>[zdE b]).flatten (l.map zhH):=fun l=>by
     induction l with
     |nil=>exact .nil
     |cons x l ih=>exact .cons (.int _ _) ih
    exact this _
   ·unfold zlH;intro r hr1;obtain⟨x,-,rfl⟩:=qbA.1 hr1;rfl
  ·cases hd
 ·rename_i hns;obtain⟨base,cap,rfl,hs,hcase⟩:=zil hr hd hv;have hfl:=zX hs;by_cases h0:new.length=0
  ·have:new=[]:=qK h0;subst this;refine⟨[],?_,.nil,by simp⟩;unfold appended;cases base<;>rfl
  ·rcases hcase with rfl| ⟨b,o,cs,e,us,tl,rfl,hg,hb,hsp,hl⟩
   ·exact absurd rfl h0
   ·refine⟨us,?_,hl,hs⟩;unfold appended;dsimp only;rw[if_neg (fun e=>h0 (qg e)),zeS hg hsp (by rw[←hl.len];omega) hl.clean,qw,qJ (by rw[←hl.len];omega)]
theorem copyD_rel (hr:HRel w M h) {size:Nat} {src:List (List DV)} {d x:DV} {v:Value} {base:Option Addr} {cap:Nat} {d':DV} {M':VM} (hs2: ∀r∈src,r.length=size) (hc:src.all (fun r=>r.all zj)=true) (hv:VRel w d v)
 (hcase:src=[]∨ ∃b o cs e us tl,base=some ⟨b,o,none⟩∧h.get b=some (.cells cs e)∧RdB w (refD x) b∧cs.drop o=us++tl∧LRel w src.flatten us) (hd:copyD size M src d=some (d',M')):
 ∃v' h',bltV h (.copy size) [v,.slice base src.length cap]=some (v',h')∧Left w M h d' M' v' h':=by
 unfold copyD at hd
 split at hd
 ·rename_i j lo len cap2;obtain⟨o,ho,hd⟩:=aof hd;obtain⟨st,hg⟩:=zbS ho;cases hv with
  | @ms _ _ _ _ R hR hO hC=>
    obtain⟨hz,e,he,hro⟩:=hr.obj j o st R hg hR;cases hro with
    |map=>cases hd
    |loop=>cases hd
    | @rows op sz rs cs e' hrows=>
      have hd2:(if sz=size∧lo+len≤rs.length∧0<len∧0<src.length then some (DV.int .i64 ((min len src.length:Nat):Int),M.put j (.rows op sz (zbR rs (src.take (min len src.length)) lo))) else none)=some (d',M'):=hd;clear hd
      split at hd2
      ·rename_i hsz;obtain⟨rfl,hle,hl0,hs0⟩:=hsz;cases hd2;rcases hcase with rfl| ⟨b,o,cs2,e2,us,tl,rfl,hg2,hb,hsp,hl⟩
       ·simp at hs0
       ·have hsz:=hrows.hsz;have htk: ∀r∈src.take (min len src.length),r.length=sz:=fun r hr1=>hs2 r (List.mem_of_mem_take hr1);have hfl:=zX hs2;have hlen:(src.take (min len src.length)).length=min len src.length:=by rw[List.length_take];omega
        have hlt:LRel w (src.take (min len src.length)).flatten (us.take (min len src.length*sz)):=by
         rw[zdr hs2];exact hl.take _
        have hcf:(src.take (min len src.length)).flatten.all zj=true:=by
         rw[qt] at hc⊢;intro y hy;obtain⟨r,hr1,hr2⟩:=qbn.1 hy;exact qt.1 (hc r (qj hr1)) y hr2
        have hwr:=zfw (at_:=lo) hrows.row htk (by rw[hlen];omega);obtain⟨cs',h1,h2⟩:=zgW he hrows hwr (fun r hr1=>by
         unfold zbR at hr1;rcases qu.1 hr1 with h1|h1
         ·rcases List.mem_append.1 h1 with h1|h1
          ·exact hrows.row r (qj h1)
          ·exact htk r h1
         ·exact hrows.row r (qk h1))                   hlt hcf
        obtain⟨p1,p2⟩:=hr.put hg hR (o:=.rows op sz (zbR rs (src.take (min len src.length)) lo)) (e:=.cells cs' e') (.rows h2);refine⟨_,_,?_,w,.int _ _,p2,p1⟩;show copyV sz h ⟨R.blk,lo*R.sz,none⟩ (zhn src.length len) (some ⟨b,o,none⟩)=_;have hmin:zhn src.length len=min len src.length:=by
         unfold zhn
         split<;>rename_i hm
         ·have:=qC hm;omega
         ·have: ¬src.length≤len:=fun hh=>by rw[Nat.ble_eq_true_of_le hh] at hm;cases hm
          omega
        rw[hmin];unfold copyV;dsimp only;rw[if_neg (fun hh=>by have:=qg hh;omega),zeS hg2 hsp (by rw[←hl.len,hfl];exact qD _ (Nat.min_le_right _ _)) hl.clean,qd,←hsz,h1];rfl
      ·cases hd2
 ·cases hd
theorem clearD_rel (hr:HRel w M h) {z:List DV} {zv:List Value} {d:DV} {v:Value} {d':DV} {M':VM} (hz:LRel w z zv) (hv:VRel w d v) (hd:clearD z M d=some (d',M')):
 ∃v' h',bltV h (.clear zv) [v]=some (v',h')∧Left w M h d' M' v' h':=by
 unfold clearD at hd
 split at hd
 ·cases hd;cases hv;exact⟨zM,h,rfl,w,.tup_of .nil,.refl _ _ _,hr⟩
 ·rename_i j lo len cap2;cases hv with
  | @ms _ _ _ _ R hR hO hC=>
    split at hd
    ·rename_i h0;cases hd;subst h0;exact⟨zM,h,rfl,w,.tup_of .nil,.refl _ _ _,hr⟩
    ·rename_i h0;obtain⟨o,ho,hd⟩:=aof hd;obtain⟨st,hg⟩:=zbS ho;obtain⟨hzz,e,he,hro⟩:=hr.obj j o st R hg hR;cases hro with
     |map=>cases hd
     |loop=>cases hd
     | @rows op sz rs cs e' hrows=>
       have hd2:(if sz=z.length∧lo+len≤rs.length∧z.all zj=true then some (DV.tup [],M.put j (.rows op sz (zbR rs (qq len z) lo))) else none)=some (d',M'):=hd;clear hd
       split at hd2
       ·rename_i hsz;obtain⟨rfl,hle,hc⟩:=hsz;cases hd2;have hsz:=hrows.hsz;have htk: ∀r∈List.replicate len z,r.length=z.length:=fun r hr1=>by rw[(List.mem_replicate.1 hr1).2]
        have hcf:(qq len z).flatten.all zj=true:=by
         rw[qt] at hc⊢;intro y hy;obtain⟨r,hr1,hr2⟩:=qbn.1 hy;rw[(qV.1 hr1).2] at hr2;exact hc y hr2
        have hwr:=zfw (at_:=lo) hrows.row htk (by rw[List.length_replicate];omega);obtain⟨cs',h1,h2⟩:=zgW he hrows hwr (fun r hr1=>by
         unfold zbR at hr1;rcases qu.1 hr1 with h1|h1
         ·rcases List.mem_append.1 h1 with h1|h1
          ·exact hrows.row r (qj h1)
          ·exact htk r h1
         ·exact hrows.row r (qk h1))                   (zeR hz len) hcf
        obtain⟨p1,p2⟩:=hr.put hg hR (o:=.rows op z.length (zbR rs (qq len z) lo)) (e:=.cells cs' e') (.rows h2);refine⟨zM,_,?_,w,.tup_of .nil,p2,p1⟩;show(if qo len 0 then some (zM,h) else(h.write R.blk (lo*R.sz) (zbl zv len)).map fun h=>(zM,h))=_;rw[if_neg (fun hh=>h0 (qg hh)),←hsz,h1];rfl
       ·cases hd2
 ·cases hd
theorem opW_sound {op:COp} (hr:HRel w M h) (hs:SRel w s t) {d:DV} {M':VM} (hd:opD op s M=some (d,M')): ∃v h',opV op t h=some (v,h')∧Left w M h d M' v h':=by
 by_cases hfl:isFl op=true
 ·obtain⟨rfl,v,hv,hg⟩:=zjZ hfl hr.ty (hs.N _) hd;exact⟨v,h,hg h,w,hv,.refl _ _ _,hr⟩
 by_cases hrd:isRd op=true
 ·obtain⟨rfl,v,hv,hg⟩:=zeh hrd hr (hs.N _) hd;exact⟨v,h,hg h (fun _ _=>rfl),w,hv,.refl _ _ _,hr⟩
 cases op
 case alloc z=>
  obtain⟨z',hz,e⟩:=amf hd;cases e;obtain⟨p1,p2⟩:=zj4 hr (op:=false) (sz:=z'.length) (rs:=[z']) (cs:=z) (e:=0) rfl (fun h=>by cases h) (by simp) (by simpa using ze6 hz);refine⟨_,_,rfl,_,?_,p2,p1⟩;have:=VRel.ptr (w:=w.add M.next ⟨h.next,z'.length,false⟩) (i:=0) (off:=0) zfW;simpa using this
 case box x=>
  obtain⟨y,hy,e⟩:=amf hd;cases e;obtain⟨v,hv,hr1⟩:=zby hs hy;obtain⟨p1,p2⟩:=zj4 hr (op:=false) (sz:=(zr y).length) (rs:=[zr y]) (cs:=zS v) (e:=0) rfl (fun h=>by cases h) (by simp) (by simpa using hr1.cells);refine⟨_,_,by show(x.ev t).map _=_;rw[hv];rfl,_,?_,p2,p1⟩;have:=VRel.ptr (w:=w.add M.next ⟨h.next,(zr y).length,false⟩) (i:=0) (off:=0) zfW;simpa[newPtr] using this
 case buildSlice len size z ps=>
  obtain⟨z',hz,hd⟩:=aof hd
  split at hd
  ·rename_i hc;obtain⟨hzl,hlt⟩:=hc;obtain⟨l,hl,hd⟩:=aof hd;obtain⟨rows,hrows,e⟩:=amf hd;cases e;obtain⟨l',hl',e1,e2⟩:=zjV (w:=w) (size:=size) (hs.N _) hl;obtain⟨vs,h1,h2,h3,h4⟩:=zjF (rows:=List.replicate len z') (fun r hr1=>by rw[(List.mem_replicate.1 hr1).2];exact hzl) (zeR (ze6 hz) len) e1 e2 hrows;obtain⟨p1,p2⟩:=zj4 hr (op:=false) (sz:=size) (rs:=rows) (cs:=vs) (e:=0) rfl (fun h=>by cases h) h3 h2;refine⟨.slice (some ⟨h.next,0,none⟩) len len,_,?_,_,?_,p2,p1⟩
   ·show((zcM t size ps).bind fun l=>(ziU (zbl z len) l).map fun c=>(Value.slice (some ⟨h.next,0,none⟩) len len,h.new (.cells c 0)))=_;rw[hl',qd,h1];rfl
   ·have:=VRel.ms (w:=w.add M.next ⟨h.next,size,false⟩) (lo:=0) (len:=len) (cap:=len) zfW (fun h=>by omega) (fun h=>⟨Nat.le_refl _,hlt⟩)
    rwa [qbB] at this
  ·cases hd
 case s2b x=>
  obtain⟨y,hy,hd⟩:=aof hd;obtain⟨v,hv,hr1⟩:=zby hs hy;cases y with
  |str b=>
   cases hd;rw[hr1.inv_str] at hv;obtain⟨p1,p2⟩:=hr.newZ (b.data.toList.map zhH) roE;exact⟨_,_,by show(x.ev t).bind (s2bV h)=_;rw[hv];rfl,_,.bs (by show(if _=_ then _ else _)=_;rw[if_pos rfl]),p2,p1⟩
  |_=>cases hd
 case makeMap=>
  cases hd;obtain⟨p1,p2⟩:=hr.new (o:=.map []) (e:=.map [] 0) (sz:=0) (op:=false) (.map ⟨.nil,.nil⟩);exact⟨_,_,rfl,_,.map (R:=⟨h.next,0,false⟩) zfW,p2,p1⟩
 case makeSlice sz bytes z l c=>
  obtain⟨l',hl,hd⟩:=aof hd;obtain⟨c',hc,hd⟩:=aof hd;obtain⟨z',hz,hd⟩:=aof hd;obtain⟨v,hv,r1⟩:=zby hs hl;obtain⟨u,hu,r2⟩:=zby hs hc;unfold zlr at hd
  split at hd
  ·rename_i n m _ _
   split at hd
   ·rename_i hcond;obtain⟨c1,c2,c3⟩:=hcond;cases hd;obtain⟨p1,p2⟩:=zj4 hr (op:=false) (sz:=z'.length) (rs:=List.replicate m z') (cs:=zbl z m) (e:=0) rfl (fun h=>by cases h) (fun r hr1=>by rw[(List.mem_replicate.1 hr1).2]) (zeR (ze6 hz) m);refine⟨.slice (some ⟨h.next,0,none⟩) n m,_,?_,_,?_,p2,p1⟩
    ·show((l.ev t).bind fun l=>(c.ev t).bind fun c=>zdc bytes z h l c)=_;rw[hv,hu,r1.inv_int,r2.inv_int,qd,qd];unfold zdc;dsimp only;rw[if_pos (by simp only[qr,qQ];exact⟨⟨c1,c2⟩,c3⟩)]
    ·have:=VRel.ms (w:=w.add M.next ⟨h.next,z'.length,false⟩) (lo:=0) (len:=n) (cap:=m) zfW (fun h=>by unfold zc at h;omega) (fun h=>⟨c1,by unfold zc;omega⟩)
     rwa [qbB] at this
   ·cases hd
  ·cases hd
 case store n a x=>
  obtain⟨y,hy,hd⟩:=aof hd;obtain⟨z,hz,hd⟩:=aof hd;obtain⟨M2,h2,e⟩:=amf hd;cases e;obtain⟨v,hv,r1⟩:=zby hs hy;obtain⟨u,hu,r2⟩:=zby hs hz;obtain⟨b,off,h',rfl,e1,e2,q1,q2,_⟩:=zhV hr h2 r2 r1;refine⟨zM,h',?_,w,.tup_of .nil,q1,q2⟩;show((a.ev t).bind fun v=>(x.ev t).bind fun x=>(zgB v).bind fun a=>if qo (zS x).length n then(h.write a.block a.off (zS x)).map fun h=>(zM,h) else none)=_;rw[hv,hu,qd,qd];show(if _ then _ else _)=_;rw[if_pos e1,e2];rfl
 case mapUpdate kk m k x=>
  obtain⟨m',hm,hd⟩:=aof hd;obtain⟨k',hk,hd⟩:=aof hd;obtain⟨x',hx,hd⟩:=aof hd;obtain⟨M2,h2,e⟩:=amf hd;cases e;obtain⟨mv,hmv,r1⟩:=zby hs hm;obtain⟨kv,hkv,r2⟩:=zby hs hk;obtain⟨xv,hxv,r3⟩:=zby hs hx;cases r1 with
  | @map j R hR=>
    obtain⟨o,ho,h2⟩:=aof (show(M.obj j).bind _=some _ from h2);obtain⟨st,hg⟩:=zbS ho;obtain⟨hz,e,he,hro⟩:=hr.obj j o st R hg hR;cases hro with
    | @map es es' c hm=>
      obtain⟨b,hb,h2⟩:=aof h2;obtain⟨es2,hes,rfl⟩:=amf h2;obtain⟨es2',c',h3,h4⟩:=setD_rel r2 r3 c hes hm;obtain⟨p1,p2⟩:=hr.put hg hR (o:=.map es2) (e:=.map es2' c') (.map h4);refine⟨zM,_,?_,w,.tup_of .nil,p2,p1⟩;show((m.ev t).bind fun m=>(k.ev t).bind fun k=>(x.ev t).bind fun x=>mapUpd kk h k x m)=_;rw[hmv,hkv,hxv,qd,qd,qd];show(h.get R.blk).bind (mapSet kk h kv xv R.blk)=_;rw[he,qd];unfold mapSet;dsimp only;rw[zdJ hb r2 r2,qd,h3];rfl
    |rows=>cases h2
    |loop=>cases h2
  |_=>cases h2
 case blt b as=>
  cases b with
  |append size bytes=>
   obtain⟨l,hl,hd⟩:=aof hd;obtain⟨vs,hvs,hrl⟩:=zf8 hs hl
   match l,hd,hrl with
   | [],hd,_=>cases hd
   | [_],hd,_=>cases hd
   |_::_::_::_,hd,_=>cases hd
   | [x,y],hd,hrl=>
     have hd:(if 0<size∧size<roE then(zbA M size y).bind fun new=>if new.all (fun r=>r.all zj)=true then zcL size bytes M new x else none else none)=some (d,M'):=hd
     split at hd
     ·rename_i hp;obtain⟨new,hnew,hd⟩:=aof hd
      split at hd
      ·rename_i hc;obtain⟨x',r,rfl,hx,hrr⟩:=hrl.head;obtain⟨y',r',rfl,hy,hrr'⟩:=hrr.head;rw[hrr'.inv_nil] at hvs;obtain⟨us,h1,h2,h3⟩:=appendedD_rel hr hnew hy;obtain⟨v',h',h4,h5⟩:=appendD_rel hr hp h3 h2 hc hx hd;refine⟨v',h',?_,h5⟩;show((evL t as).bind fun l=>bltV h (.append size bytes) l)=_;rw[hvs,qd];show((appended h size y').bind fun nl=>zcN size bytes nl.1 nl.2 h x')=_;rw[h1,qd,h4]
      ·cases hd
     ·cases hd
  |clear z=>
   obtain⟨l,hl,hd⟩:=aof hd;obtain⟨vs,hvs,hrl⟩:=zf8 hs hl
   match l,hd,hrl with
   | [],hd,_=>cases hd
   |_::_::_,hd,_=>cases hd
   | [x],hd,hrl=>
     obtain⟨z',hz,hd⟩:=aof (show((dOfL z).bind fun z=>clearD z M x)=some (d,M') from hd);obtain⟨x',r,rfl,hx,hrr⟩:=hrl.head;rw[hrr.inv_nil] at hvs;obtain⟨v',h',h4,h5⟩:=clearD_rel hr (ze6 hz) hx hd;refine⟨v',h',?_,h5⟩;show((evL t as).bind fun l=>bltV h (.clear z) l)=_;rw[hvs,qd,h4]
  |copy size=>
   obtain⟨l,hl,hd⟩:=aof hd;obtain⟨vs,hvs,hrl⟩:=zf8 hs hl
   match l,hd,hrl with
   | [],hd,_=>cases hd
   | [_],hd,_=>cases hd
   |_::_::_::_,hd,_=>cases hd
   | [x,y],hd,hrl=>
     obtain⟨src,hsrc,hd⟩:=aof (show((zew M size y).bind fun src=>if src.all (fun r=>r.all zj)=true then copyD size M src x else none)=some (d,M') from hd)
     split at hd
     ·rename_i hc;obtain⟨x',r,rfl,hx,hrr⟩:=hrl.head;obtain⟨y',r',rfl,hy,hrr'⟩:=hrr.head;rw[hrr'.inv_nil] at hvs;obtain⟨base,cap,rfl,hs2,hcase⟩:=zil hr hsrc hy;obtain⟨v',h',h4,h5⟩:=copyD_rel hr hs2 hc hx hcase hd;refine⟨v',h',?_,h5⟩;show((evL t as).bind fun l=>bltV h (.copy size) l)=_;rw[hvs,qd,h4]
     ·cases hd
  |lenMap=>exact absurd rfl hrd
  |_=>exact absurd rfl hfl
 all_goals first| (exact absurd rfl hfl)| (exact absurd rfl hrd)|cases hd
end
end
end Go.Ideal
