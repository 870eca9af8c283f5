/- A part of the proof: the ideal machine, and what the functions of the program answer over it. -/
import Derived.RowKit
import Derived.OpenShut
import Derived.WideKeyArgs
import Derived.ChangeSame
import Derived.Test.YtffbioplncclkaaGreatC
set_option linter.unusedSimpArgs false
set_option linter.unusedVariables false
set_option linter.unusedSectionVars false
open Option renaming bind_some→qd,isSome_iff_exists→qh,isNone_iff_eq_none→qx
open List renaming mem_of_getElem?→qe,mem_flatten→qi,mem_singleton→qk,replicate→qu,getElem?_eq_getElem→qy,mem_of_mem_drop→qA,mem_cons_of_mem→qB,mem_cons_self→qD,mem_cons→qE,all_cons→qF
open Nat renaming beq_refl→qf,le_max_right→qg,le_max_left→qj,le_refl→ql,beq→qm,eq_of_beq_eq_true→qn,blt→qo,ble_eq→qr,ble→qt,lt_of_lt_of_le→qv,zero_add→qC
open Array renaming getElem?_eq_none→qp,getElem?_eq_some_iff→qw
open Bool renaming and_eq_true→qq
namespace Go.Ideal
section
def OutC (w:Wd) (M:VM) (h:H) (k kp:DV→VM→Prop):Out→Prop
 |.val v h1=> ∃w1 M1 d,Hist w M h w1 M1 h1∧HRel w1 M1 h1∧VRel w1 d v∧k d M1
 |.pan v _ h1=> ∃w1 M1 d,Hist w M h w1 M1 h1∧HRel w1 M1 h1∧VRel w1 d v∧kp d M1
 |_=>False
def zg (F:FuncId→Option za) (f:DV) (args:List DV) (M:VM) (k kp:DV→VM→Prop):Prop:=
 ∀w h fv vs,HRel w M h→VRel w f fv→LRel w args vs→ ∃n o,E F n (.call fv vs h)=some o∧OutC w M h k kp o
def HandD (F:FuncId→Option za) (f:DV) (args:List DV) (p:Option DV) (M:VM) (k:VM→Prop):Prop:=
 ∀w h fv vs pv,HRel w M h→VRel w f fv→LRel w args vs→ORelO w p pv→ ∃n v h1 w1 M1,E F n (.hand fv vs pv h)=some (.val v h1)∧Hist w M h w1 M1 h1∧HRel w1 M1 h1∧k M1
structure St (n0:Nat) (w0:Wd) (M0:VM) (h0:H) (w:Wd) (M:VM) (h:H):Prop where
 n:M0.next=n0
 r0:HRel w0 M0 h0
 hi:Hist w0 M0 h0 w M h
 r:HRel w M h
theorem St.step {n0:Nat} {w0 w w1:Wd} {M0 M M1:VM} {h0 h h1:H} (s:St n0 w0 M0 h0 w M h) (a:Hist w M h w1 M1 h1) (b:HRel w1 M1 h1):St n0 w0 M0 h0 w1 M1 h1:=⟨s.n,s.r0,s.hi.trans s.r0 a,b⟩
def OutK (n0:Nat) (w0:Wd) (M0:VM) (h0:H) (K:KD):Out→Prop
 |.nrm t h=> ∃w M s,St n0 w0 M0 h0 w M h∧SRel w s t∧K.nrm s M
 |.exit i t h=> ∃w M s,St n0 w0 M0 h0 w M h∧SRel w s t∧K.ext i s M
 |.ret t h=> ∃w M s,St n0 w0 M0 h0 w M h∧SRel w s t∧K.ret s M
 |.pan v t h=> ∃w M s d,St n0 w0 M0 h0 w M h∧SRel w s t∧VRel w d v∧K.pan d s M
 |.val _ _=>False
def CodeD (F:FuncId→Option za) (n0:Nat) (c:CC) (K:KD) (s:DS) (M:VM):Prop:=
 ∀w0 M0 h0 w h t,St n0 w0 M0 h0 w M h→SRel w s t→ ∃n o,E F n (.code c t h)=some o∧OutK n0 w0 M0 h0 K o
def zcf (F:FuncId→Option za) (n0:Nat) (L:List (List Bool)) (b:CC) (K:KD) (s:DS) (M:VM):Prop:=CodeD F n0 (.loop L b) K s M
def ScopeD (F:FuncId→Option za) (n0:Nat) (b:CC) (l1:Nat) (r1:CC) (l2:Nat) (r2:CC) (K:KD) (s:DS) (M:VM):Prop:=CodeD F n0 (.scope b l1 r1 l2 r2) K s M
structure MoOk (s:DS) (t:zb) (w:Wd) (M:VM) (h:H) (x:Mo) (y:Nat×H):Prop where
 idx:x.idx=y.1
 ex: ∃wx,HRel wx x.M y.2∧Hist wx x.M y.2 w M h∧ ∀p,inP x.bad p=false→ ∀d,getS s p=some d→ ∃v,t.get p=some v∧VRel wx d v
def BsOk (s:DS) (t:zb) (w:Wd) (M:VM) (h:H):List Mo→List (Nat×H)→Prop
 | [],[]=>True
 |x::r,y::q=>MoOk s t w M h x y∧BsOk s t w M h r q
 |_,_=>False
def SurvD (F:FuncId→Option za) (n0:Nat) (l:List CI) (bs:List Mo) (s:DS) (M:VM):Prop:= ∀w0 M0 h0 w h t cs,St n0 w0 M0 h0 w M h→SRel w s t→BsOk s t w M h bs cs→ ∃n r,zx (E F n) l cs t h=some r
def rD (F:FuncId→Option za) (n0:Nat):RnD:=⟨zg F,HandD F,zcf F n0,ScopeD F n0,SurvD F n0⟩
section
variable {F:FuncId→Option za} {n0:Nat}
theorem OutK.mono {w0:Wd} {M0:VM} {h0:H} {K K':KD} (h1: ∀s M,K.nrm s M→K'.nrm s M) (h2: ∀i s M,K.ext i s M→K'.ext i s M) (h3: ∀s M,K.ret s M→K'.ret s M) (h4: ∀d s M,K.pan d s M→K'.pan d s M) {o:Out} (h:OutK n0 w0 M0 h0 K o):OutK n0 w0 M0 h0 K' o:=by
 cases o with
 |nrm=>obtain⟨w,M,s,a,b,c⟩:=h;exact⟨w,M,s,a,b,h1 _ _ c⟩
 |exit=>obtain⟨w,M,s,a,b,c⟩:=h;exact⟨w,M,s,a,b,h2 _ _ _ c⟩
 |ret=>obtain⟨w,M,s,a,b,c⟩:=h;exact⟨w,M,s,a,b,h3 _ _ c⟩
 |pan=>obtain⟨w,M,s,d,a,b,e,c⟩:=h;exact⟨w,M,s,d,a,b,e,h4 _ _ _ c⟩
 |val=>exact h
theorem zb2 {α:Type} {r:Option α} {k:α→Prop} (h:ofD r k): ∃a,r=some a∧k a:=by
 cases r with
 |none=>exact h.elim
 |some a=>exact⟨a,rfl,h⟩
theorem okD_of {r:RD} {k:DV→VM→Prop} (h:okD r k): ∃d M,r=some (d,M)∧k d M:=by
 cases r with
 |none=>exact h.elim
 |some a=>exact⟨a.1,a.2,rfl,h⟩
theorem zfp {w:Wd} {s:DS} {t:zb} (hs:SRel w s t) {g:Option (List Bool×Bool)} {b:Bool} (h:wantD g s=some b):z8 g t=some b:=by
 cases g with
 |none=>exact h
 |some x=>
  obtain⟨p,q⟩:=x;obtain⟨d,hd,h⟩:=aof (show(getS s p).bind _=some b from h);obtain⟨v,hv,hr⟩:=hs p d hd;show(t.get p).bind (wantedV q)=_;rw[hv,qd];cases hr<;>first|exact h|cases h
theorem wDo_sound {op:COp} {s:DS} {M:VM} {kp k:DV→VM→Prop} (h:wDo (rD F n0) op s M kp k) {w:Wd} {hp:H} {t:zb} (hr:HRel w M hp) (hs:SRel w s t): ∃n o,zdD (E F n) op t hp=some o∧OutC w M hp k kp o:=by
 have gen:okD (opD op s M) k→(∀ih:IH,zdD ih op t hp=(opV op t hp).map valO)→ ∃n o,zdD (E F n) op t hp=some o∧OutC w M hp k kp o:=fun hk he=>by
  obtain⟨d,M1,h1,h2⟩:=okD_of hk;obtain⟨v,h',h3,w',h4,h5,h6⟩:=opW_sound hr hs h1;exact⟨0,.val v h',by rw[he,h3];rfl,w',M1,d,h5,h6,h4,h2⟩
 cases op
 case call f args=>
  obtain⟨fd,hf,h⟩:=zb2 h;obtain⟨l,hl,h⟩:=zb2 h;obtain⟨fv,hfv,r1⟩:=zby hs hf;obtain⟨vs,hvs,r2⟩:=zf8 hs hl;obtain⟨n,o,ho,hc⟩:=h w hp fv vs hr r1 r2;refine⟨n,o,?_,hc⟩;show((f.ev t).bind fun f=>(evL t args).bind fun l=>(E F n (.call f l hp)).bind outOf)=_;rw[hfv,hvs,qd,qd,ho];cases o<;>first|rfl|exact hc.elim
 case invoke tbl x args=>
  obtain⟨v,hv,h⟩:=zb2 h;cases v with
  |ifc ty d=>
   obtain⟨f,hf,h⟩:=zb2 h;obtain⟨l,hl,h⟩:=zb2 h;obtain⟨v',hv',r1⟩:=zby hs hv;obtain⟨vs,hvs,r2⟩:=zf8 hs hl;cases r1 with
   | @ifc _ _ v2 r1=>
     obtain⟨n,o,ho,hc⟩:=h w hp _ _ hr (.fn f (a:=[]) (c:=[]) (a':=[]) (c':=[]) rfl rfl (fun k d v h=>by simp at h) (fun k d v h=>by simp at h)) (.cons r1 r2);refine⟨n,o,?_,hc⟩;show((x.ev t).bind fun v=>(zgG tbl v).bind fun r=>(evL t args).bind fun l=>(E F n (.call (.func (.func r.1) #[] #[]) (r.2::l) hp)).bind outOf)=_;rw[hv',qd];show((lookM ty tbl).map (fun f=>(f,v2))).bind _=_;rw[hf,Option.map_some,qd,hvs,qd,ho];cases o<;>first|rfl|exact hc.elim
  |_=>exact h.elim
 case panic x=>
  obtain⟨v,hv,h⟩:=zb2 h;cases v with
  |ifc ty d=>
   obtain⟨v',hv',r1⟩:=zby hs hv;have r2:=r1;cases r1 with
   |ifc _ r1=>
    refine⟨0,.pan _ .nil hp,?_,w,M,_,.refl _ _ _,hr,r2,h⟩;show(x.ev t).bind (panV hp)=_;rw[hv'];rfl
  |_=>exact h.elim
 all_goals exact gen h fun ih=>rfl
theorem zjr {o:CI} {s:DS} {M:VM} {kp k:DV→VM→Prop} (h:zhQ (rD F n0) o s M kp k) {w:Wd} {hp:H} {t:zb} (hr:HRel w M hp) (hs:SRel w s t): ∃n out,zgk (E F n) o t hp=some out∧OutC w M hp k kp out:=by
 obtain⟨b,hb,h⟩:=zb2 h;have hw:=zfp hs hb;cases b with
 |true=>
  obtain⟨n,out,h1,h2⟩:=wDo_sound h hr hs;exact⟨n,out,by unfold zgk;rw[hw];exact h1,h2⟩
 |false=>exact⟨0,.val zM hp,by unfold zgk;rw[hw];rfl,w,M,_,.refl _ _ _,hr,.tup_of .nil,h⟩
theorem zk7 {kp:DV→DS→VM→Prop} {kk:DS→VM→Prop} {w0:Wd} {M0:VM} {h0:H}: ∀{l:List CI} {s:DS} {M:VM},wOps (rD F n0) kp l s M kk→ ∀{w:Wd} {h:H} {t:zb},St n0 w0 M0 h0 w M h→SRel w s t→ ∃n o,zcO (E F n) l t h=some o∧OutK n0 w0 M0 h0 ⟨kk,fun _ _ _=>False,fun _ _=>False,kp⟩ o
 | [],s,M,hk,w,h,t,hst,hs=>⟨0,.nrm t h,rfl,w,M,s,hst,hs,hk⟩
 |o::l,s,M,hk,w,h,t,hst,hs=>by
  obtain⟨n,out,h1,h2⟩:=zjr hk hst.r hs;cases out with
  |val v h1'=>
   obtain⟨w1,M1,d,a1,a2,a3,a4⟩:=h2;obtain⟨m,o2,b1,b2⟩:=zk7 a4 (hst.step a1 a2) ((hs.mono a1.le).put a3 o.dst);refine⟨max n m,o2,?_,b2⟩;rw[zdk,stepOp_le (E_le (qj n m)) h1];exact zjO (E_le (qg n m)) b1
  |pan v _ h1'=>
   obtain⟨w1,M1,d,a1,a2,a3,a4⟩:=h2;exact⟨n,.pan v t h1',by rw[zdk,h1];rfl,w1,M1,s,d,hst.step a1 a2,hs.mono a1.le,a3,a4⟩
  |nrm=>exact h2.elim
  |exit=>exact h2.elim
  |ret=>exact h2.elim
theorem inP_cons (q:List Bool) (l:List (List Bool)) (p:List Bool):inP (q::l) p=false↔q≠p∧inP l p=false:=by
 show(match beqP q p with|true=>true|false=>inP l p)=false↔_;cases h:beqP q p with
 |true=>have:=beqP_eq h;subst this;simp
 |false=>
  have:q≠p:=fun e=>by subst e;rw[zez] at h;cases h
  simp[this]
theorem MoOk.put {s:DS} {t:zb} {w w1:Wd} {M M1:VM} {h h1:H} {x:Mo} {y:Nat×H} (ho:MoOk s t w M h x y) (hi:Hist w M h w1 M1 h1) (q:Option (List Bool)) {d:DV} {v:Value}:
 MoOk (zY q d s) (zbh q v t) w1 M1 h1 (zcz q x) y:=by
 obtain⟨hx,wx,a,b,c⟩:=ho;cases q with
 |none=>exact⟨hx,wx,a,b.trans a hi,c⟩
 |some q=>
  refine⟨hx,wx,a,b.trans a hi,fun p hp e he=> ?_⟩;obtain⟨h1,h2⟩:=(inP_cons q x.bad p).1 hp;rw[show zY (some q) d s=(q,d)::s from rfl,zdq,if_neg h1] at he;obtain⟨u,hu,hr⟩:=c p h2 e he;exact⟨u,by show(t.set q v).get p=_;rw[PT.get_set_ne v q p t h1];exact hu,hr⟩
theorem MoOk.putGood {s:DS} {t:zb} {w w1:Wd} {M M1:VM} {h h1:H} {x:Mo} {y:Nat×H} (ho:MoOk s t w M h x y) (hi:Hist w M h w1 M1 h1) (q:Option (List Bool)) {d:DV} {v:Value}
 (hv: ∀wx,HRel wx x.M y.2→Hist wx x.M y.2 w M h→(∀p,inP x.bad p=false→ ∀d,getS s p=some d→ ∃v,t.get p=some v∧VRel wx d v)→VRel wx d v):MoOk (zY q d s) (zbh q v t) w1 M1 h1 x y:=by
 obtain⟨hx,wx,a,b,c⟩:=ho;have hv:=hv wx a b c;cases q with
 |none=>exact⟨hx,wx,a,b.trans a hi,c⟩
 |some q=>
  refine⟨hx,wx,a,b.trans a hi,fun p hp e he=> ?_⟩;rw[show zY (some q) d s=(q,d)::s from rfl,zdq] at he;by_cases h1:q=p
  ·rw[if_pos h1] at he;cases he;subst h1;exact⟨v,PT.get_set_same v q t,hv⟩
  ·rw[if_neg h1] at he;obtain⟨u,hu,hr⟩:=c p hp e he;exact⟨u,by show(t.set q v).get p=_;rw[PT.get_set_ne v q p t h1];exact hu,hr⟩
theorem ze3 {bad:List (List Bool)}: ∀{ns:List (List Bool)},zc9 bad ns=true→ ∀p∈ns,inP bad p=false
 | [],_,p,hp=>by cases hp
 |q::ns,h,p,hp=>by
  have h:(match inP bad q with|true=>false|false=>zc9 bad ns)=true:=h;cases hq:inP bad q with
  |true=>rw[hq] at h;cases h
  |false=>
   rw[hq] at h;rcases qE.1 hp with rfl|hp
   ·exact hq
   ·exact ze3 h p hp
theorem BsOk.map {s s1:DS} {t t1:zb} {w w1:Wd} {M M1:VM} {h h1:H} {f:Mo→Mo} (hf: ∀x y,MoOk s t w M h x y→MoOk s1 t1 w1 M1 h1 (f x) y): ∀{bs:List Mo} {cs:List (Nat×H)},BsOk s t w M h bs cs→BsOk s1 t1 w1 M1 h1 (bs.map f) cs
 | [],[],_=>trivial
 |x::r,y::q,hb=>⟨hf x y hb.1,hb.2.map hf⟩
 | [],_::_,hb=>hb.elim
 |_::_,[],hb=>hb.elim
theorem BsOk.next {s:DS} {t:zb} {w:Wd} {M:VM} {h:H}: ∀{bs:List Mo} {cs:List (Nat×H)},BsOk s t w M h bs cs→zj3 bs=nextB cs
 | [],[],_=>rfl
 |x::r,y::q,hb=>by show x.idx+1=y.1+1;rw[hb.1.idx]
 | [],_::_,hb=>hb.elim
 |_::_,[],hb=>hb.elim
theorem zfU {M M':VM}: ∀{rs:List Nat},zfV rs M M'→ ∀j∈rs,M.get j=M'.get j∧(M.get j).isSome=true
 | [],_,j,hj=>by cases hj
 |i::r,h,j,hj=>by
  rcases qE.1 hj with rfl|hj
  ·exact h.1
  ·exact zfU h.2 j hj
theorem zjQ {M M':VM} {d:DV} (h: ∀j∈refD d,M.get j=M'.get j):zcP M' d=zcP M d:=by
 cases d<;>first|rfl| (show(VM.obj _ _).bind _=(VM.obj _ _).bind _;unfold VM.obj;rw[h _ (qk.2 rfl)])
theorem elemsD_congr {M M':VM} {n:Nat} {d:DV} (h: ∀j∈refD d,M.get j=M'.get j):zew M' n d=zew M n d:=by
 cases d<;>first|rfl| (show(VM.obj _ _).bind _=(VM.obj _ _).bind _;unfold VM.obj;rw[h _ (qk.2 rfl)])
theorem zgr {M M':VM} {d:DV} (h: ∀j∈refD d,M.get j=M'.get j):z9 M' d=z9 M d:=by
 cases d<;>first|rfl| (show(VM.obj _ _).bind _=(VM.obj _ _).bind _;unfold VM.obj;rw[h _ (qk.2 rfl)])
theorem sliceD_congr {M M':VM} {n:Nat} {lo hi:Option DV} {d:DV} (h: ∀j∈refD d,M.get j=M'.get j):sliceD n M' lo hi d=sliceD n M lo hi d:=by
 cases d<;>first|rfl| (show(VM.obj _ _).bind _=(VM.obj _ _).bind _;unfold VM.obj;rw[h _ (qk.2 rfl)])
theorem opD_congr {op:COp} (hp:isRd op=true) {s:DS} {M M':VM} {d:DV} {M2:VM} (ha:zfV (zca s op) M M') (h:opD op s M=some (d,M2)):opD op s M'=some (d,M'):=by
 have hq:=fun j hj=>(zfU ha j hj).1;clear ha;cases op
 case load1 a=>
  obtain⟨x,hx,h⟩:=aof h;obtain⟨r,hr,h⟩:=aof h;obtain⟨y,hy,e⟩:=amf h;cases e;show((evD s a).bind fun a=>(zcP M' a).bind fun r=>(oneD r).map (·,M'))=_;rw[hx,qd,zjQ (M:=M) (fun j hj=>hq j (by show j∈zc1 s a;rw[zbX hx];exact hj)),hr,qd,hy];rfl
 case loadN n a=>
  obtain⟨x,hx,h⟩:=aof h;obtain⟨r,hr,h⟩:=aof h;obtain⟨y,hy,e⟩:=amf h;cases e;show((evD s a).bind fun a=>(zcP M' a).bind fun r=>(zcZ n r).map fun l=>(DV.agg l,M'))=_;rw[hx,qd,zjQ (M:=M) (fun j hj=>hq j (by show j∈zc1 s a;rw[zbX hx];exact hj)),hr,qd,hy];rfl
 case lookup kk z ok x i=>
  obtain⟨m,hm,h⟩:=aof h;obtain⟨k,hk,h⟩:=aof h;obtain⟨z',hz,h⟩:=aof h;obtain⟨b,hb,h⟩:=aof h;obtain⟨es,hes,h⟩:=aof h;obtain⟨r,hr1,e⟩:=amf h;cases e;show((evD s x).bind fun m=>(evD s i).bind fun k=>(dOf z).bind fun z=>(zD kk k k).bind fun _=>(z9 M' m).bind fun es=>(zes kk k es).map fun r=>(zbw z ok r,M'))=_;rw[hm,hk,hz,qd,qd,qd,hb,qd,zgr (M:=M) (fun j hj=>hq j (by show j∈zc1 s x;rw[zbX hm];exact hj)),hes,qd,hr1];rfl
 case slice size x lo hi=>
  obtain⟨y,hy,h⟩:=aof h;obtain⟨l,hl,h⟩:=aof h;obtain⟨u,hu,h⟩:=aof h;obtain⟨z,hz,e⟩:=amf h;cases e;show((evD s x).bind fun v=>(evDO s lo).bind fun lo=>(evDO s hi).bind fun hi=>(sliceD size M' lo hi v).map (·,M'))=_;rw[hy,hl,hu,qd,qd,qd,sliceD_congr (M:=M) (fun j hj=>hq j (by show j∈zc1 s x;rw[zbX hy];exact hj)),hz];rfl
 case slice3 size x lo hi mx=>
  obtain⟨y,hy,h⟩:=aof h;obtain⟨l,hl,h⟩:=aof h;obtain⟨u,hu,h⟩:=aof h;obtain⟨v,hv,h⟩:=aof h;obtain⟨z,hz,e⟩:=amf h;cases e;have hc:slice3D size M' l u v y=slice3D size M l u v y:=by
   have hj: ∀j∈refD y,M.get j=M'.get j:=fun j hj=>hq j (by show j∈zc1 s x;rw[zbX hy];exact hj);cases y<;>first|rfl| (show(VM.obj _ _).bind _=(VM.obj _ _).bind _;unfold VM.obj;rw[hj _ (qk.2 rfl)])
  show((evD s x).bind fun w=>(evDO s lo).bind fun lo=>(evD s hi).bind fun hi=>(evD s mx).bind fun mx=>(slice3D size M' lo hi mx w).map (·,M'))=_;rw[hy,hl,hu,hv,qd,qd,qd,qd,hc,hz];rfl
 case blt b as=>
  cases b with
  |lenMap=>
   obtain⟨l,hl,h⟩:=aof h
   match as,l,hl,h with
   |_,[],_,h=>cases h
   |_,_::_::_,_,h=>cases h
   | [],[_],hl,_=>cases hl
   |x::y::r,[d0],hl,_=>
    obtain⟨y,hy,h3⟩:=aof hl;obtain⟨z,hz,h4⟩:=amf h3;obtain⟨y2,hy2,h5⟩:=aof hz;obtain⟨z2,hz2,h6⟩:=amf h5;subst h6;cases h4
   | [x],[d0],hl,h=>
     obtain⟨y,hy,h3⟩:=aof hl;obtain⟨z,hz,h4⟩:=amf h3;cases hz;cases h4;obtain⟨es,hes,e⟩:=amf (show(z9 M d0).map _=_ from h);cases e;show((evDL s [x]).bind fun l=>bltD M' .lenMap l)=_;rw[hl,qd];show(z9 M' d0).map _=_;rw[zgr (M:=M) (fun j hj=>hq j (by show j∈[x].flatMap (zc1 s);simp[zbX hy,hj])),hes];rfl
  |_=>cases hp
 case b2s x=>
  obtain⟨y,hy,h⟩:=aof h;obtain⟨z,hz,e⟩:=amf h;cases e;show((evD s x).bind fun v=>(b2sD M' v).map (·,M'))=_;have hb:b2sD M' y=b2sD M y:=by unfold b2sD;rw[elemsD_congr (M:=M) (fun j hj=>hq j (by show j∈zc1 s x;rw[zbX hy];exact hj))]
  rw[hy,qd,hb,hz];rfl
 all_goals cases hp
theorem zdt {b o:Nat}:zhC ⟨b,o,none⟩ ⟨b,o,none⟩=true:=by unfold zhC;simp
theorem eqI_refl (a:Int):eqI a a=true:=by cases a<;>exact qf _
theorem zgM {w:Wd} {d:DV} {v:Value} (hs:zcC d=true) (h:VRel w d v):zgq v v=true:=by
 cases h with
 |int k n=>show(decide (k=k)&&eqI n n)=true;rw[eqI_refl];simp
 |bool b=>cases b<;>rfl
 |str s=>exact zdV _
 |nilS=>rfl
 |nilP=>rfl
 |nilM=>rfl
 |nilF=>rfl
 |map=>exact qf _
 |ptr=>exact zdt
 |ms=>show(zhC _ _&&qm _ _&&qm _ _)=true;rw[zdt,qf,qf];rfl
 |lst=>show(zhC _ _&&qm _ _&&qm _ _)=true;rw[zdt,qf,qf];rfl
 | @lst0 s cap base hc hsp=>
   cases base with
   |none=>simp[zgq]
   |some a=>
    obtain⟨b,o,sp⟩:=a;have:=hsp _ rfl;simp only at this;subst this;show(zhC _ _&&qm _ _&&qm _ _)=true;rw[zdt,qf,qf];rfl
 |pl=>exact zdt
 |_=>cases hs
theorem zfP {w:Wd}: ∀{l:List DV} {vs:List Value},l.all zcC=true→LRel w l vs→zik vs vs=true
 | [],vs,_,h=>by rw[h.inv_nil];rfl
 |d::l,vs,hs,h=>by
  obtain⟨v,r,rfl,hv,hr⟩:=h.head;simp only[qF,qq] at hs;show(zgq v v&&zik r r)=true;rw[zgM hs.1 hv,zfP hs.2 hr];rfl
theorem eqVal1_refl {w:Wd} {d:DV} {v:Value} (hs:(match d with|.agg l=>l.all zcC|d=>zcC d)=true) (h:VRel w d v):zkr v v=true:=by
 cases d with
 |agg l=>obtain⟨vs,rfl,hl⟩:=h.inv_agg;exact zfP hs hl
 |_=>
  have e:zkr v v=zgq v v:=by cases h<;>first|rfl|cases hs
  rw[e];exact(fun hs=>zgM (w:=w) hs h) hs
theorem zkq {w:Wd}: ∀{l:List DV} {vs:List Value},(l.all fun d=>match d with|.agg l=>l.all zcC|d=>zcC d)=true→LRel w l vs→zlB vs vs=true
 | [],vs,_,h=>by rw[h.inv_nil];rfl
 |d::l,vs,hs,h=>by
  obtain⟨v,r,rfl,hv,hr⟩:=h.head;simp only[qF,qq] at hs;show(zkr v v&&zlB r r)=true;rw[eqVal1_refl hs.1 hv,zkq hs.2 hr];rfl
theorem selfEq_refl {w:Wd} {d:DV} {v:Value} (hs:zc8 d=true) (h:VRel w d v):eqVal v v=true:=by
 cases d with
 |agg l=>obtain⟨vs,rfl,hl⟩:=h.inv_agg;exact zfP hs hl
 |tup l=>obtain⟨vs,rfl,hl⟩:=h.inv_tup;exact zkq hs hl
 |_=>
  have e:eqVal v v=zgq v v:=by cases h<;>first|rfl|cases hs
  rw[e];exact(fun hs=>zgM (w:=w) hs h) hs
theorem det_eq {w:Wd} {d:DV} {v v':Value} (hd:detD d=true) (h:VRel w d v) (h':VRel w d v'):v=v':=by
 cases h<;>first| (cases hd;done)| (cases h';first|rfl|skip)
 all_goals first
  | (rename_i h1 _ h2;rw[h1] at h2;cases h2;rfl)
  | (rename_i h1 _ _ _ h2 _ _;rw[h1] at h2;cases h2;rfl)
theorem read_at {op:COp} (hp:isRd op=true) {s:DS} {t:zb} {w:Wd} {M M2:VM} {h:H} {x:Mo} {y:Nat×H} {ns:List (List Bool)} {d:DV} (hr:HRel w M h) (hsub: ∀p∈zf op,p∈ns) (hm:MoOk s t w M h x y) (ha:rdAt (zca s op) ns M x∨rdAlt op ns s d x) (hd:opD op s M=some (d,M2)):
 ∃v,opV op t y.2=some (v,y.2)∧opV op t h=some (v,h)∧ ∀wx,HRel wx x.M y.2→Hist wx x.M y.2 w M h→(∀p,inP x.bad p=false→ ∀d,getS s p=some d→ ∃v,t.get p=some v∧VRel wx d v)→VRel wx d v:=by
 obtain⟨hx,wx,a,b,c⟩:=hm;have key: ∀wx,HRel wx x.M y.2→Hist wx x.M y.2 w M h→(∀p,inP x.bad p=false→ ∀d,getS s p=some d→ ∃v,t.get p=some v∧VRel wx d v)→ ∃v,VRel wx d v∧opV op t y.2=some (v,y.2)∧opV op t h=some (v,h):=fun wx a b c=>by
  rcases ha with ha| ⟨ha,hdet,hdx⟩
  ·have hdx:=opD_congr hp ha.2 hd;obtain⟨-,v,hv,hg⟩:=zeh hp a (fun p hp e he=>c p (ze3 ha.1 p (hsub p hp)) e he) hdx;refine⟨v,hv,hg y.2 (fun _ _=>rfl),hg h fun bl hb=> ?_⟩;rcases hb with⟨j,R,hj,hR,rfl⟩|hz
   ·obtain⟨e1,e2⟩:=zfU ha.2 j hj;obtain⟨z,hz⟩:=qh.1 e2;exact b.same j z R (by rw[←e1];exact hz) hz hR
   ·obtain⟨z,hz⟩:=qh.1 hz;rw[(hr.zd _ _ (b.le.Z _ _ hz)).2,(a.zd _ _ hz).2]
  ·have hn:ziW wx (zf op) s t:=fun p hp e he=>c p (ze3 ha p (hsub p hp)) e he;obtain⟨-,v,hv,hg⟩:=zeh hp a hn hdx;obtain⟨-,v',hv',hg'⟩:=zeh hp hr (fun p hp e he=>let⟨u,h1,h2⟩:=hn p hp e he;⟨u,h1,h2.mono b.le⟩) hd;obtain rfl:=det_eq hdet (hv.mono b.le) hv';exact⟨v,hv,hg y.2 (fun _ _=>rfl),hg' h (fun _ _=>rfl)⟩
 obtain⟨v,hv,h1,h2⟩:=key wx a b c;refine⟨v,h1,h2,fun wx a b c=> ?_⟩;obtain⟨v',hv',-,h3⟩:=key wx a b c;rw[h2] at h3;cases h3;exact hv'
theorem reads_ok {op:COp} (hp:isRd op=true) {s:DS} {t:zb} {w:Wd} {M M2:VM} {h:H} {ns:List (List Bool)} {d:DV} {lo:Nat} {v:Value} (q:Option (List Bool)) (hr:HRel w M h) (hsub: ∀p∈zf op,p∈ns) (hd:opD op s M=some (d,M2)) (hv:opV op t h=some (v,h)):
 ∀{bs:List Mo} {cs:List (Nat×H)},(bs≠[]→eqVal v v=true)→BsOk s t w M h bs cs→rdOk op (zca s op) ns s d M lo bs→zgA op t lo v cs=true∧BsOk (zY q d s) (zbh q v t) w M h (ziR lo q bs) cs
 | [],[],_,_,_=>⟨rfl,trivial⟩
 | [],_::_,_,hb,_=>hb.elim
 |_::_,[],_,hb,_=>hb.elim
 |x::r,y::c,he,hb,hk=>by
  have he:=he (by simp);obtain⟨i1,i2⟩:=reads_ok hp q hr hsub hd hv (bs:=r) (cs:=c) (fun _=>he) hb.2 hk.2;have hk1:=hk.1;have hix:=hb.1.idx;unfold zgA;show(if qo y.1 lo then _ else _)=true∧BsOk _ _ _ _ _ ((match qo x.idx lo with|true=>zcz q x|false=>x)::ziR lo q r) _;rw[←hix];cases hl:qo x.idx lo with
  |true=>exact⟨by rw[if_pos rfl];exact i1,hb.1.put (.refl _ _ _) q,i2⟩
  |false=>
   rw[hl] at hk1;obtain⟨v',h1,h2,h3⟩:=read_at hp hr hsub hb.1 hk1 hd;rw[hv] at h2;cases h2;refine⟨?_,hb.1.putGood (.refl _ _ _) q h3,i2⟩;rw[if_neg (by decide),h1];show(eqVal v v&&_)=true;rw[he,i1];rfl
theorem freshD_spec {op:COp} {s:DS} {t:zb} {w:Wd} {M M2:VM} {h:H} {x:Mo} {y:Nat×H} {d:DV} (hr:HRel w M h) (hs:SRel w s t) (hm:MoOk s t w M h x y) (hf:freshD op s x.M.next=true) (hd:opD op s M=some (d,M2)):zgL op t y.2.next h.next=true∧ ∃b,d=.str b:=by
 cases op<;>simp only[freshD,Bool.false_eq_true] at hf
 case b2s a=>
  split at hf
  ·rename_i j lo len cap he;obtain⟨u,hu,hd⟩:=aof (show(evD s a).bind (fun v=>(b2sD M v).map (·,M))=some (d,M2) from hd);obtain⟨z,hz,e⟩:=amf hd;cases e;obtain⟨rows,-,hz⟩:=aof (show(zew M 1 u).bind _=some d from hz);obtain⟨bl,-,rfl⟩:=amf hz;refine⟨?_,_,rfl⟩;obtain⟨v,hv,r1⟩:=zby hs he;cases r1 with
   | @ms _ _ _ _ R h1 _ _=>
     obtain⟨-,wx,a1,a2,-⟩:=hm;have hge:y.2.next≤R.blk:=by
      rcases a2.own j R h1 with e|e
      ·have:=(a1.dom j R e).1;have:=Nat.le_of_ble_eq_true hf;omega
      ·exact e
     have hlt:=(hr.dom j R h1).2;show(match a.ev t with|some (.slice (some a) _ _)=>qt y.2.next a.block&&qo a.block h.next|_=>false)=true;rw[hv];simp[hge,hlt]
  ·cases hf
theorem doOp_of' {ih:IH} {op:COp} {t:zb} {h h1:H} {v:Value} (e1:zdD ih op t h=(opV op t h).map valO) (e2:doOp ih op t h=opV op t h) (hd:zdD ih op t h=some (.val v h1)):doOp ih op t h=some (v,h1):=by
 rw[e1] at hd;obtain⟨x,hx,e⟩:=amf hd;cases e;rw[e2];exact hx
theorem doOp_of {ih:IH} {op:COp} {t:zb} {h h1:H} {v:Value} (hd:zdD ih op t h=some (.val v h1)):doOp ih op t h=some (v,h1):=by
 cases op
 case call f args=>
  obtain⟨fv,hf,hd⟩:=aof hd;obtain⟨l,hl,hd⟩:=aof hd;obtain⟨o,ho,hd⟩:=aof hd;show((f.ev t).bind fun f=>(evL t args).bind fun l=>(ih (.call f l h)).bind zhR)=_;rw[hf,hl,qd,qd,ho];cases o<;>first| (cases hd;rfl)|cases hd
 case invoke tbl x args=>
  obtain⟨fv,hf,hd⟩:=aof hd;obtain⟨r,hr,hd⟩:=aof hd;obtain⟨l,hl,hd⟩:=aof hd;obtain⟨o,ho,hd⟩:=aof hd;show((x.ev t).bind fun v=>(zgG tbl v).bind fun r=>(evL t args).bind fun l=>(ih (.call (.func (.func r.1) #[] #[]) (r.2::l) h)).bind zhR)=_;rw[hf,qd,hr,qd,hl,qd,ho];cases o<;>first| (cases hd;rfl)|cases hd
 case panic x=>
  obtain⟨u,hu,hd⟩:=aof hd;unfold panV at hd
  split at hd<;>cases hd
 all_goals exact doOp_of' rfl rfl hd
theorem zeF {kk:DS→VM→Prop} {kp:DV→VM→Prop} {w0:Wd} {M0:VM} {h0:H}: ∀{l:List CI} {bs:List Mo} {s:DS} {M:VM},zda (rD F n0) l bs s M kk kp→ ∀{w:Wd} {h:H} {t:zb} {cs:List (Nat×H)},St n0 w0 M0 h0 w M h→SRel w s t→BsOk s t w M h bs cs→
 (∃n t' h' w' M' s',zx (E F n) l cs t h=some (t',h')∧St n0 w0 M0 h0 w' M' h'∧SRel w' s' t'∧kk s' M')∨ ∃n v t' h' w' M' d,zfQ (E F n) l cs t h=some (.pan v t' h')∧zx (E F n) l cs t h=none∧St n0 w0 M0 h0 w' M' h'∧VRel w' d v∧kp d M'
 | [],bs,s,M,hk,w,h,t,cs,hst,hs,hb=>.inl ⟨0,t,h,w,M,s,rfl,hst,hs,hk⟩
 |o::l,bs,s,M,hk,w,h,t,cs,hst,hs,hb=>by
  have fin: ∀{n v h1 cs1 w1 M1 d bs1},zN (E F n) o cs t h=some (v,h1,cs1)→Hist w M h w1 M1 h1→HRel w1 M1 h1→VRel w1 d v→BsOk (zY o.dst d s) (zbh o.dst v t) w1 M1 h1 bs1 cs1→zda (rD F n0) l bs1 (zY o.dst d s) M1 kk kp→
   (∃n t' h' w' M' s',zx (E F n) (o::l) cs t h=some (t',h')∧St n0 w0 M0 h0 w' M' h'∧SRel w' s' t'∧kk s' M')∨ ∃n v t' h' w' M' d,zfQ (E F n) (o::l) cs t h=some (.pan v t' h')∧zx (E F n) (o::l) cs t h=none∧St n0 w0 M0 h0 w' M' h'∧VRel w' d v∧kp d M':=fun{n v h1 cs1 w1 M1 d bs1} e1 e2 e3 e4 e5 e6=>by
   rcases zeF e6 (hst.step e2 e3) ((hs.mono e2.le).put e4 o.dst) e5 with⟨m,t',h',w',M',s',a1,a2⟩| ⟨m,v2,t',h',w',M',d2,a1,a2,a3⟩
   ·refine .inl ⟨max n m,t',h',w',M',s',?_,a2⟩;rw[zbe,zdv (E_le (qj n m)) e1,qd];exact zde (E_le (qg n m)) a1
   ·refine .inr ⟨max n m,v2,t',h',w',M',d2,?_,?_,a3⟩
    ·rw[zga,zdv (E_le (qj n m)) e1];exact(zjb (E_le (qg n m)) a1).1
    ·rw[zbe,zdv (E_le (qj n m)) e1,qd];exact(zjb (E_le (qg n m)) a1).2
  unfold zda at hk;cases hw:isW o.op with
  |true=>
   rw[hw] at hk;obtain⟨b,hbb,hk⟩:=zb2 (show ofD (wantD o.guard s) _ from hk);have hwt:=zfp hs hbb;cases b with
   |true=>
    obtain⟨n,out,h1,h2⟩:=wDo_sound hk hst.r hs;cases out with
    |val v h1'=>
     obtain⟨w1,M1,d,a1,a2,a3,a4⟩:=h2;refine fin (n:=n) (v:=v) (h1:=h1') (cs1:=(nextB cs,h1')::cs) ?_ a1 a2 a3 ?_ a4
     ·unfold zN;rw[hwt,qd];show zcX _ _ _ _ _=_;unfold zcX;rw[if_pos hw,doOp_of h1];rfl
     ·refine⟨⟨hb.next,w1,a2,.refl _ _ _,fun p _ e he=>((hs.mono a1.le).put a3 o.dst) p e he⟩,hb.map fun x y hx=>hx.put a1 o.dst⟩
    |pan v t1 h1'=>
     obtain⟨w1,M1,d,a1,a2,a3,a4,a5⟩:=h2
     match bs,cs,hb,a4 with
     | [],_,_,a4=>exact a4.elim
     |_::_,[],hb,_=>exact hb.elim
     |x::r,y::c,hb,a4=>
      obtain⟨m,z,hz⟩:=(show SurvD F n0 (l.filter fun p=>qt p.lo x.idx) (x::r) s M from a4) w0 M0 h0 w h t (y::c) hst hs hb;rw[hb.1.idx] at hz;have q1:=doOpP_le (E_le (qj n m)) h1;have q2:zN (E F (max n m)) o (y::c) t h=none:=by
       unfold zN;rw[hwt,qd];show zcX _ _ _ _ _=none;unfold zcX;rw[if_pos hw,doOp_pan q1];rfl
      refine .inr ⟨max n m,v,t1,h1',w1,M1,d,?_,by rw[zbe,q2];rfl,hst.step a1 a2,a3,a5⟩;rw[zga,q2];show panAt _ _ _ _ _ _=_;unfold panAt;dsimp only;rw[hwt,qd,hw,Bool.and_self];dsimp only;rw[q1,qd];show(zx (E F (max n m)) _ _ t h).map _=_;rw[zde (E_le (qg n m)) hz];rfl
    |nrm=>exact h2.elim
    |exit=>exact h2.elim
    |ret=>exact h2.elim
   |false=>
    refine fin (n:=0) (v:=zM) (h1:=h) (cs1:=(nextB cs,h)::cs) ?_ (.refl _ _ _) hst.r (.tup_of .nil) ?_ hk
    ·unfold zN;rw[hwt,qd];show some (zM,h,if isW o.op then _ else _)=_;rw[if_pos hw]
    ·exact⟨⟨hb.next,w,hst.r,.refl _ _ _,fun p _ e he=>(hs.put (.tup_of .nil) o.dst) p e he⟩,hb.map fun x y hx=>hx.put (.refl _ _ _) o.dst⟩
  |false=>
   rw[hw] at hk;have gfalse:z8 o.guard t=some false→ ∀n,zN (E F n) o cs t h=some (zM,h,cs):=fun hwt n=>by
    unfold zN;rw[hwt,qd];show some (zM,h,if isW o.op then _ else _)=_;rw[hw,if_neg (by decide)]
   have good: ∀{v:Value} {d:DV},(∀x y,MoOk s t w M h x y→zc9 x.bad (zf o.op)=true→ ∀wx,HRel wx x.M y.2→Hist wx x.M y.2 w M h→(∀p,inP x.bad p=false→ ∀d,getS s p=some d→ ∃v,t.get p=some v∧VRel wx d v)→VRel wx d v)→
    BsOk (zY o.dst d s) (zbh o.dst v t) w M h (bs.map (zhg (zf o.op) o.dst)) cs:=fun{v d} hg=>hb.map fun x y hx=>by
    unfold zhg;cases hf:zc9 x.bad (zf o.op) with
    |true=>exact hx.putGood (.refl _ _ _) o.dst (hg x y hx hf)
    |false=>exact hx.put (.refl _ _ _) o.dst
   cases hrd:isRd o.op with
   |true=>
    rw[hrd] at hk;obtain⟨b,hbb,hk⟩:=zb2 hk;have hwt:=zfp hs hbb;cases b with
    |false=>exact fin (n:=0) (gfalse hwt 0) (.refl _ _ _) hst.r (.tup_of .nil) (good fun _ _ _ _ _ _ _ _=>.tup_of .nil) hk
    |true=>
     match bs,cs,hb,hk with
     | [],_,_,hk=>exact hk.elim
     |_::_,[],hb,_=>exact hb.elim
     |x::r,y::c,hb,hk=>
      have hk:(match freshD o.op s x.M.next with
       |true=>okD (opD o.op s M) fun d _=>zda (rD F n0) l (x::r) (zY o.dst d s) M kk kp
       |false=>okD (opD o.op s M) fun d _=>(rdAt (zca s o.op) (zf o.op) M x∨rdAlt o.op (zf o.op) s d x)∧rdOk o.op (zca s o.op) (zf o.op) s d M o.lo r∧zjH (x::r) d=true∧zda (rD F n0) l (x::ziR o.lo o.dst r) (zY o.dst d s) M kk kp):=hk
      cases hfr:freshD o.op s x.M.next with
      |true=>
       rw[hfr] at hk;obtain⟨d,M2,hd,k4⟩:=okD_of hk;obtain⟨-,v,hv,hg⟩:=zeh hrd hst.r (hs.N _) hd;have h2:=hg h (fun _ _=>rfl);obtain⟨f1,g,f2⟩:=freshD_spec hst.r hs hb.1 hfr hd;refine fin (n:=0) (v:=v) (h1:=h) (cs1:=y::c) ?_ (.refl _ _ _) hst.r hv (bs1:=x::r) ?_ k4
       ·unfold zN;rw[hwt,qd];show zcX _ _ _ _ _=_;unfold zcX;rw[if_neg (by rw[hw];decide),if_pos hrd];unfold zlE;dsimp only;rw[if_pos f1,h2];rfl
       ·have:=BsOk.map (f:=id) (bs:=x::r) (s1:=zY o.dst d s) (t1:=zbh o.dst v t) (w1:=w) (M1:=M) (h1:=h) (fun x y hx=>hx.putGood (.refl _ _ _) o.dst (v:=v) (d:=d) fun wx _ _ _=>by
         subst f2;cases hv;exact .str _) hb
        simpa using this
      |false=>
      rw[hfr] at hk;obtain⟨d,M2,hd,k1,k2,k3,k4⟩:=okD_of (show okD (opD o.op s M) (fun d _=>(rdAt (zca s o.op) (zf o.op) M x∨rdAlt o.op (zf o.op) s d x)∧rdOk o.op (zca s o.op) (zf o.op) s d M o.lo r∧zjH (x::r) d=true∧zda (rD F n0) l (x::ziR o.lo o.dst r) (zY o.dst d s) M kk kp) from hk);have hsub: ∀p∈zf o.op,p∈zf o.op:=fun p hp=>hp;obtain⟨v,h1,h2,h3⟩:=read_at hrd hst.r hsub hb.1 k1 hd;obtain⟨-,v',hv',hg⟩:=zeh hrd hst.r (hs.N _) hd;have:=hg h (fun _ _=>rfl);rw[h2] at this;cases this;have he:r≠[]→eqVal v v=true:=fun hne=>by
       cases r with
       |nil=>exact absurd rfl hne
       |cons=>exact selfEq_refl k3 hv'
      obtain⟨r1,r2⟩:=reads_ok hrd o.dst hst.r hsub hd h2 he hb.2 k2;refine fin (n:=0) (v:=v) (h1:=h) (cs1:=y::c) ?_ (.refl _ _ _) hst.r hv' (bs1:=x::ziR o.lo o.dst r) ⟨hb.1.putGood (.refl _ _ _) o.dst h3,r2⟩ k4;unfold zN;rw[hwt,qd];show zcX _ _ _ _ _=_;unfold zcX;rw[if_neg (by rw[hw];decide),if_pos hrd];unfold zlE;dsimp only
      split
      ·rw[h2];rfl
      ·rw[h1,qd,if_pos r1]
   |false=>
    rw[hrd] at hk;have hE: ∀{n v h1},zgk (E F n) o t h=some (.val v h1)→zN (E F n) o cs t h=some (v,h1,cs):=fun{n v h1} h2=>by
     unfold zN;obtain⟨b,hb1,h3⟩:=aof h2;rw[hb1,qd];cases b with
     |false=>cases h3;show some (zM,h,if isW o.op then _ else _)=_;rw[hw,if_neg (by decide)]
     |true=>
      have h4:=doOp_of h3;show zcX _ _ _ _ _=_;unfold zcX;rw[if_neg (by rw[hw];decide),if_neg (by rw[hrd];decide)];have:opV o.op t h=some (v,h1):=by
       cases ho:o.op<;>rw[ho] at h4 hw<;>first|exact h4|cases hw
      rw[this];rfl
    cases hfl:isFl o.op with
    |false=>
     rw[hfl] at hk;obtain⟨n,out,h1,h2⟩:=zjr hk hst.r hs;cases out with
     |val v h1'=>
      obtain⟨w1,M1,d,a1,a2,a3,a4⟩:=h2;exact fin (hE h1) a1 a2 a3 (hb.map fun x y hx=>hx.put a1 o.dst) a4
     |pan=>obtain⟨_,_,_,_,_,_,h⟩:=h2;exact h.elim
     |nrm=>exact h2.elim
     |exit=>exact h2.elim
     |ret=>exact h2.elim
    |true=>
     rw[hfl] at hk;obtain⟨b,hbb,hk⟩:=zb2 (show ofD (wantD o.guard s) _ from hk);have hwt:=zfp hs hbb;cases b with
     |false=>exact fin (n:=0) (gfalse hwt 0) (.refl _ _ _) hst.r (.tup_of .nil) (good fun _ _ _ _ _ _ _ _=>.tup_of .nil) hk
     |true=>
      have hop:wDo (rD F n0) o.op s M (fun _ _=>False) (fun v M=>zda (rD F n0) l (bs.map (zhg (zf o.op) o.dst)) (zY o.dst v s) M kk kp)=okD (opD o.op s M) (fun v M=>zda (rD F n0) l (bs.map (zhg (zf o.op) o.dst)) (zY o.dst v s) M kk kp):=by
       cases ho:o.op<;>first|rfl| (rw[ho] at hw;cases hw)
      have hk:=hop▸(show wDo (rD F n0) o.op s M (fun _ _=>False) (fun v M=>zda (rD F n0) l (bs.map (zhg (zf o.op) o.dst)) (zY o.dst v s) M kk kp) from hk);obtain⟨d,M1,hd,hk2⟩:=okD_of hk;obtain⟨e1,v,hv,hg⟩:=zjZ hfl hst.r.ty (hs.N _) hd;subst e1;refine fin (n:=0) (hE ?_) (.refl _ _ _) hst.r hv (good fun x y hx hf wx a b c=> ?_) hk2
      ·unfold zgk;rw[hwt,qd];show zdD _ _ _ _=_;have:zdD (E F 0) o.op t h=(opV o.op t h).map valO:=by
        cases ho:o.op<;>first|rfl| (rw[ho] at hw;cases hw)
       rw[this,hg h];rfl
      ·obtain⟨-,v',hv',hg'⟩:=zjZ hfl (w:=wx) (fun j R op sz rs ho hR=>hst.r.ty j R op sz rs ho (b.le.rho _ _ hR)) (fun p hp e he=>c p (ze3 hf p hp) e he) hd;have:=hg' h;rw[hg h] at this;cases this;exact hv'
end
end
section
variable {F:FuncId→Option za} {n0:Nat}
theorem E_up {n m:Nat} (h:n≤m) {t:Task} {o:Out} (e:E F n t=some o):E F m t=some o:=E_le h t o e
theorem zic {w:Wd} {s:DS} {t:zb} (h:SRel w s t) (L:List (List Bool)):SRel w (zbH L s) t:=fun p d e=>h p d (zlv e).1
theorem zjU {w0:Wd} {M0:VM} {h0:H} {K:KD} {s:DS} {M:VM} {pend:Option CC} (hk:pendD K s M pend) {w:Wd} {h:H} {t:zb} (hst:St n0 w0 M0 h0 w M h) (hs:SRel w s t): ∃o,pendK t h pend=some o∧OutK n0 w0 M0 h0 K o:=by
 unfold pendD at hk
 split at hk
 ·exact⟨_,rfl,w,M,s,hst,hs,hk⟩
 ·exact⟨_,rfl,w,M,s,hst,hs,hk⟩
 ·exact⟨_,rfl,w,M,s,hst,hs,hk⟩
 ·exact hk.elim
theorem ziY: ∀(c:CC) {K:KD} {s:DS} {M:VM},wp (rD F n0) c K s M→CodeD F n0 c K s M:=by
 intro c
 induction c with
 |skip=>intro K s M hk w0 M0 h0 w h t hst hs;exact⟨1,.nrm t h,rfl,w,M,s,hst,hs,hk⟩
 |ops l=>
  intro K s M hk w0 M0 h0 w h t hst hs;obtain⟨n,o,h1,h2⟩:=zk7 hk hst hs;exact⟨n+1,o,h1,OutK.mono (K:=⟨K.nrm,fun _ _ _=>False,fun _ _=>False,K.pan⟩) (K':=K) (fun _ _ q=>q) (fun _ _ _ q=>False.elim q) (fun _ _ q=>False.elim q) (fun _ _ _ q=>q) h2⟩
 |draw l=>
  intro K s M hk w0 M0 h0 w h t hst hs;rcases zeF hk hst hs (cs:=[(0,h)]) ⟨⟨rfl,w,hst.r,.refl _ _ _,fun p _ d e=>hs p d e⟩,trivial⟩ with⟨n,t',h',w',M',s',h1,h2,h3,h4⟩| ⟨n,v,t',h',w',M',d,h1,h2,h3,h4,h5⟩
  ·exact⟨n+1,.nrm t' h',by show(match zx (E F n) l [(0,h)] t h with|some x=>some (nrmOf x)|none=>_)=_;rw[h1];rfl,w',M',s',h2,h3,h4⟩
  ·exact⟨n+1,.pan v t' h',by show(match zx (E F n) l [(0,h)] t h with|some x=>some (nrmOf x)|none=>zfQ (E F n) l [(0,h)] t h)=_;rw[h2];exact h1,w',M',[],d,h3,.nil,h4,h5⟩
 |draw2 l x y=>
  intro K s M hk w0 M0 h0 w h t hst hs;obtain⟨n,t',h',w',M',s',h1,h2,h3,h4⟩:=(zeF hk hst hs (cs:=[(0,h)]) ⟨⟨rfl,w,hst.r,.refl _ _ _,fun p _ d e=>hs p d e⟩,trivial⟩).resolve_right fun⟨_,_,_,_,_,_,_,_,_,_,_,h⟩=>h
  suffices hh: ∃h2' w2 M2,zeI x.op y.op t' h'=some h2'∧St n0 w0 M0 h0 w2 M2 h2'∧SRel w2 s' t'∧K.nrm s' M2 by
   obtain⟨h2',w2,M2,a,b,c,d⟩:=hh;exact⟨n+1,.nrm t' h2',by show((zx (E F n) l [(0,h)] t h).bind fun r=>(zeI x.op y.op r.1 r.2).map fun h=>Out.nrm r.1 h)=_;rw[h1,qd,a];rfl,w2,M2,s',b,c,d⟩
  cases hx:x.op<;>rw[hx] at h4<;>first|exact h4.elim|skip
  cases hy:y.op<;>rw[hy] at h4<;>first|exact h4.elim|skip
  rename_i n1 a b n2 c d;obtain⟨da,ea,h4⟩:=zb2 h4;obtain⟨db,eb,h4⟩:=zb2 h4;obtain⟨dc,ec,h4⟩:=zb2 h4;obtain⟨dd,ed,h4⟩:=zb2 h4;obtain⟨va,fa,ra⟩:=zby h3 ea;obtain⟨vb,fb,rb⟩:=zby h3 eb;obtain⟨vc,fc,rc⟩:=zby h3 ec;obtain⟨vd,fd,rd⟩:=zby h3 ed;cases da with
  |ptr i u1 v1=>
   cases dc with
   |ptr j u2 v2=>
    obtain⟨hij,h4⟩:=h4;obtain⟨M2,hs1,h4⟩:=zb2 h4;obtain⟨M3,hs2,h4⟩:=zb2 h4;obtain⟨b1,o1,g1,rfl,q1,q2,q3,q4,j1,i1,u1,R1,e1,k1,k2⟩:=zhV h2.r hs1 rb ra;obtain⟨b2,o2,g2,rfl,p1,p2,p3,p4,j2,i2,u2,R2,e2,l1,l2⟩:=zhV q4 hs2 rd rc;cases e1;cases e2;have live: ∀{M M':VM} {n x j i o},zfs n M x (.ptr j i o)=some M'→(M.get j).isSome=true:=fun{M M' n x j i o} hd=>by
     obtain⟨ob,ho,_⟩:=aof (show(M.obj j).bind _=some M' from hd);obtain⟨st,hg⟩:=zbS ho;rw[hg];rfl
    have hne:b1≠b2:=fun e=>by
     have h5:(M2.get i).isSome=true:=by
      obtain⟨ob,ho,h6⟩:=aof (show(M'.obj i).bind _=some M2 from hs1);cases ob with
      |rows op sz rs=>
       obtain⟨r,hri,h6⟩:=aof (show(rs[u1]?).bind _=some M2 from h6)
       split at h6
       ·obtain⟨r',hw,rfl⟩:=amf h6;rw[get_put,if_pos rfl];rfl
       ·cases h6
      |_=>cases h6
     exact hij (q4.inj i j R1 R2 k1 l1 h5 (live hs2) (by rw[k2,l2,e]))
    refine⟨g2,w',M3,?_,(h2.step q3 q4).step p3 p4,h3,h4⟩;show(a.ev t').bind _=_;rw[fa,qd,fb,qd,fc,qd,fd,qd];unfold store2;show(if qm b1 b2 then _ else _)=_;rw[if_neg (fun e=>hne (qn e)),if_pos (by rw[q1,p1];rfl),q2,qd,p2]
   |_=>exact h4.elim
  |_=>exact h4.elim
 |seq a L b iha ihb=>
  intro K s M hk w0 M0 h0 w h t hst hs;obtain⟨n,o,h1,h2⟩:=iha hk w0 M0 h0 w h t hst hs;have step: ∀{m o'},(∀k,max n m≤k→(E F k (.code a t h)).bind (thenK (E F k) L b)=some o')→OutK n0 w0 M0 h0 K o'→ ∃n o,E F n (.code (.seq a L b) t h)=some o∧OutK n0 w0 M0 h0 K o:=fun{m o'} e q=>⟨max n m+1,o',e _ (ql _),q⟩;cases o with
  |nrm t1 h1'=>
   obtain⟨w1,M1,s1,a1,a2,a3⟩:=h2;obtain⟨m,o2,b1,b2⟩:=ihb a3 w0 M0 h0 w1 h1' (keepA L t1) a1 (a2.keep L);exact step (m:=m) (fun k hk'=>by rw[E_up (by omega) h1];exact E_up (by omega) b1) b2
  |exit i t1 h1'=>exact step (m:=0) (fun k hk'=>by rw[E_up (by omega) h1];rfl) (show OutK n0 w0 M0 h0 K (.exit i t1 h1') from h2)
  |ret t1 h1'=>exact step (m:=0) (fun k hk'=>by rw[E_up (by omega) h1];rfl) (show OutK n0 w0 M0 h0 K (.ret t1 h1') from h2)
  |pan v t1 h1'=>exact step (m:=0) (fun k hk'=>by rw[E_up (by omega) h1];rfl) (show OutK n0 w0 M0 h0 K (.pan v t1 h1') from h2)
  |val=>exact h2.elim
 |cond c a b iha ihb=>
  intro K s M hk w0 M0 h0 w h t hst hs;obtain⟨d,hd,hk⟩:=zb2 hk;obtain⟨v,hv,hr⟩:=zby hs hd;unfold wIf at hk
  split at hk
  ·obtain⟨n,o,h1,h2⟩:=iha hk w0 M0 h0 w h t hst hs;refine⟨n+1,o,?_,h2⟩;show(c.ev t).bind _=_;rw[hv,hr.inv_bool];exact h1
  ·obtain⟨n,o,h1,h2⟩:=ihb hk w0 M0 h0 w h t hst hs;refine⟨n+1,o,?_,h2⟩;show(c.ev t).bind _=_;rw[hv,hr.inv_bool];exact h1
  ·exact hk.elim
 |block i b ih=>
  intro K s M hk w0 M0 h0 w h t hst hs;obtain⟨n,o,h1,h2⟩:=ih hk w0 M0 h0 w h t hst hs;refine⟨n+1,zkC i o,by show(E F n _).map _=_;rw[h1];rfl,?_⟩;cases o with
  |exit j t1 h1'=>
   obtain⟨w1,M1,s1,a1,a2,a3⟩:=h2;have a3:blkD i K j s1 M1:=a3;unfold blkD at a3;unfold zkC;dsimp only
   split at a3
   ·rename_i e;rw[e];exact⟨w1,M1,s1,a1,a2,a3⟩
   ·rename_i e;rw[e];exact⟨w1,M1,s1,a1,a2,a3⟩
  |_=>exact h2
 |loop L b ih=>
  intro K s M hk w0 M0 h0 w h t hst hs;exact hk w0 M0 h0 w h t hst (zic hs L)
 |rangeFunc rid L f ps as b _ _=>
  intro K s M hk w0 M0 h0 w h t hst hs;obtain⟨d,hd,hk⟩:=zb2 hk;obtain⟨v,hv,hr⟩:=zby hs hd;cases d with
  |fn g a c=>
   obtain⟨a',c',rfl,ha,hc⟩:=hr.inv_fn;have hle:=Wd.add_le (w:=w) (j:=M.next) (R:=⟨h.next,0,false⟩) (hst.r.rho_none (ql _));obtain⟨p1,p2⟩:=hst.r.new (o:=.loop .ready none (zbH L s) ⟨rid,L,ps,as,b⟩) (e:=.loop .ready none (keepA L t) ⟨rid,L,ps,as,b⟩) (sz:=0) (op:=false) (.loop ((hs.mono hle).keep L));have hy:VRel (w.add M.next ⟨h.next,0,false⟩) (.yld M.next) (.func (.yield h.next) #[] #[]):=.yld (R:=⟨h.next,0,false⟩) zfW;obtain⟨n,o,h1,h2⟩:=hk _ _ _ _ p1 (hr.mono hle) (.cons hy .nil);cases o with
   |val v h1'=>
    obtain⟨w1,M1,d1,a1,a2,a3,a4⟩:=h2;obtain⟨ob,ho,a4⟩:=zb2 a4;obtain⟨st,hg⟩:=zbS ho;have hR:=a1.le.rho _ _ (zfW (w:=w) (j:=M.next) (R:=⟨h.next,0,false⟩));obtain⟨hz,e,he,hro⟩:=a2.obj _ _ st _ hg hR;have hst1:=(hst.step p2 p1).step a1 a2;have hs1:=(hs.mono hle).mono a1.le;have fin: ∀{o'},zg9 h.next t h1' e=some o'→E F (n+1) (.code (.rangeFunc rid L f ps as b) t h)=some o':=fun{o'} hq=>by
     show((f.ev t).bind fun f=>(isFn f).bind fun f=>(E F n (.call f [.func (.yield h.next) #[] #[]] (h.new (.loop .ready none (keepA L t) ⟨rid,L,ps,as,b⟩)))).bind fun o=>(zhR o).bind fun x=>(x.2.get h.next).bind (zg9 h.next t x.2))=_;rw[hv,qd];show((E F n _).bind _)=_;rw[h1,qd];show((h1'.get h.next).bind _)=_;rw[he,qd,hq]
    cases hro with
    | @loop st1 pend sl sl' rc hsl=>
      have hput:=a2.put hg hR (o:=.loop .exhausted pend sl rc) (e:=.loop .exhausted pend sl' rc) (.loop hsl);cases st1 with
      |ready=>
       obtain⟨o',q1,q2⟩:=zjU a4 (hst1.step hput.2 hput.1) hs1;exact⟨n+1,o',fin q1,q2⟩
      |done=>
       obtain⟨o',q1,q2⟩:=zjU a4 (hst1.step hput.2 hput.1) hs1;exact⟨n+1,o',fin q1,q2⟩
      |_=>exact a4.elim
    |rows=>exact a4.elim
    |map=>exact a4.elim
   |pan=>obtain⟨_,_,_,_,_,_,q⟩:=h2;exact q.elim
   |nrm=>exact h2.elim
   |exit=>exact h2.elim
   |ret=>exact h2.elim
  |_=>exact hk.elim
 |exit i=>intro K s M hk w0 M0 h0 w h t hst hs;exact⟨1,.exit i t h,rfl,w,M,s,hst,hs,hk⟩
 |ret=>intro K s M hk w0 M0 h0 w h t hst hs;exact⟨1,.ret t h,rfl,w,M,s,hst,hs,hk⟩
 |scope b l1 r1 l2 r2=>intro K s M hk;exact hk
theorem zcf.step {L:List (List Bool)} {b:CC} {K:KD} {s:DS} {M:VM} (h:wp (rD F n0) b ⟨fun s M=>zcf F n0 L b K (zbH L s) M,K.ext,K.ret,K.pan⟩ (zbH L s) M):zcf F n0 L b K s M:=by
 intro w0 M0 h0 w hp t hst hs;obtain⟨n,o,h1,h2⟩:=ziY b h w0 M0 h0 w hp (keepA L t) hst (hs.keep L);cases o with
 |nrm t1 h1'=>
  obtain⟨w1,M1,s1,a1,a2,a3⟩:=h2;obtain⟨m,o2,b1,b2⟩:=a3 w0 M0 h0 w1 h1' t1 a1 (zic a2 L);exact⟨max n m+1,o2,by show(E F _ (.code b _ hp)).bind _=_;rw[E_up (qj n m) h1];exact E_up (qg n m) b1,b2⟩
 |exit i t1 h1'=>exact⟨n+1,.exit i t1 h1',by show(E F _ (.code b _ hp)).bind _=_;rw[h1];rfl,(show OutK n0 w0 M0 h0 K (.exit i t1 h1') from h2)⟩
 |ret t1 h1'=>exact⟨n+1,.ret t1 h1',by show(E F _ (.code b _ hp)).bind _=_;rw[h1];rfl,(show OutK n0 w0 M0 h0 K (.ret t1 h1') from h2)⟩
 |pan v t1 h1'=>exact⟨n+1,.pan v t1 h1',by show(E F _ (.code b _ hp)).bind _=_;rw[h1];rfl,(show OutK n0 w0 M0 h0 K (.pan v t1 h1') from h2)⟩
 |val=>exact h2.elim
theorem resD_rel {w:Wd} {M:VM} {h:H} (hr:HRel w M h) {s:DS} {t:zb} (hs:SRel w s t) {r:CR} {d:DV} (hd:resD s M r=some d): ∃v,resV t h r=some v∧VRel w d v:=by
 cases r with
 |tmp p=>exact hs p d hd
 |cell n p=>
  obtain⟨a,ha,hd⟩:=aof (show(getS s p).bind _=some d from hd);obtain⟨r,hr1,hd⟩:=aof hd;obtain⟨v,hv,r1⟩:=hs p a ha;obtain⟨b,off,cs,e,us,tl,rfl,hg,hb,hsp,hl⟩:=zjP hr hr1 r1;cases n with
  |some n=>
   obtain⟨y,hy,rfl⟩:=amf (show(zcZ n r).map DV.agg=some d from hd);obtain⟨hn,rfl⟩:=zf1 hy;refine⟨_,?_,.agg_of (hl.take n)⟩;show(t.get p).bind _=_;rw[hv];show(h.readN b off n).map _=_;rw[zeS hg hsp (by rw[←hl.len];exact hn) hl.clean];rfl
  |none=>
   have hd:oneD r=some d:=hd;unfold oneD at hd
   split at hd
   ·cases hd;obtain⟨u,us',rfl,hu,hus⟩:=hl.head;refine⟨u,?_,hu⟩;show(t.get p).bind _=_;rw[hv];show(h.readN b off 1).bind oneOf=_;rw[zeS hg hsp (by simp) hl.clean];rfl
   ·cases hd
theorem resDL_rel {w:Wd} {M:VM} {h:H} (hr:HRel w M h) {s:DS} {t:zb} (hs:SRel w s t): ∀{rs:List CR} {ds:List DV},resDL s M rs=some ds→ ∃vs,allO (resV t h) rs=some vs∧LRel w ds vs
 | [],ds,h=>by cases h;exact⟨[],rfl,.nil⟩
 |r::rs,ds,hd=>by
  obtain⟨d,h1,hd⟩:=aof hd;obtain⟨l,h2,rfl⟩:=amf hd;obtain⟨v,h3,h4⟩:=resD_rel hr hs h1;obtain⟨vs,h5,h6⟩:=resDL_rel hr hs h2;exact⟨v::vs,by show(resV t h r).bind _=_;rw[h3];show(allO _ _).map _=_;rw[h5];rfl,.cons h4 h6⟩
theorem tupleD_rel {w:Wd} {ds:List DV} {vs:List Value} (h:LRel w ds vs):VRel w (zjt ds) (zhS vs):=by
 match ds,vs,h with
 | [],vs,h=>rw[h.inv_nil];exact .tup_of .nil
 | [d],vs,h=>
   obtain⟨v,r,rfl,hv,hr⟩:=h.head;rw[hr.inv_nil];exact hv
 |d::e::l,vs,h=>
  obtain⟨v,r,rfl,hv,hr⟩:=h.head;obtain⟨v2,r2,rfl,hv2,hr2⟩:=hr.head;exact .tup_of h
theorem zev {w w0:Wd} {M M0:VM} {h h0:H} {s:DS} {t:zb} {rs:List CR} {k kp:DV→VM→Prop} (hst:St n0 w0 M0 h0 w M h) (hs:SRel w s t) (hk:endD rs k s M): ∃o,ziQ rs t h=some o∧OutC w0 M0 h0 k kp o∧(∃v,o=.val v h):=by
 obtain⟨ds,hd,hk⟩:=zb2 hk;obtain⟨vs,h1,h2⟩:=resDL_rel hst.r hs hd;exact⟨.val (zhS vs) h,by unfold ziQ;rw[h1];rfl,⟨w,M,_,hst.hi,hst.r,tupleD_rel h2,hk⟩,_,rfl⟩
theorem zkM {w:Wd}: ∀{ds:List DV} {vs:List Value} {i:Nat} {s:DS} {t:zb},LRel w ds vs→SRel w s t→SRel w (argsD ds i s) (zcy vs i t)
 | [],vs,i,s,t,h,hs=>by rw[h.inv_nil];exact hs
 |d::ds,vs,i,s,t,h,hs=>by
  obtain⟨v,r,rfl,hv,hr⟩:=h.head;exact zkM (ds:=ds) (vs:=r) hr (hs.set hv (bits i))
theorem handE_sound {f:DV} {l:List DV} {p:Option DV} {rs:List CR} {k kp:DV→VM→Prop} {s:DS} {M:VM} (hk:HandD F f l p M fun M=>endD rs k s M) {w0 w:Wd} {M0:VM} {h0 h:H} {t:zb} {fv:Value} {vs:List Value} {pv:Option Value} (hst:St n0 w0 M0 h0 w M h) (hs:SRel w s t) (hf:VRel w f fv) (hl:LRel w l vs) (hp:ORelO w p pv):
 ∃n o,(E F n (.hand fv vs pv h)).bind (resK1 rs t)=some o∧OutC w0 M0 h0 k kp o:=by
 obtain⟨n,v,h1,w1,M1,e,a1,a2,a3⟩:=hk w h fv vs pv hst.r hf hl hp;obtain⟨o,h2,h3,-⟩:=zev (kp:=kp) (hst.step a1 a2) (hs.mono a1.le) a3;exact⟨n,o,by rw[e];exact h2,h3⟩
theorem zg.func {g:Nat} {a c args:List DV} {M:VM} {k kp:DV→VM→Prop} {cf:za} (hF:F g=some cf) (hp:cf.prim=none) (h:wFunc (rD F) cf (a++args++c) M k kp):zg F (.fn g a c) args M k kp:=by
 intro w hp0 fv vs hr hf hv;obtain⟨a',c',rfl,ha,hc⟩:=hf.inv_fn;have hall:=(ha.append hv).append hc;obtain⟨hlen,hw⟩:=h;have hst:St M.next w M hp0 w M hp0:=⟨rfl,hr,.refl _ _ _,hr⟩;obtain⟨n,o,h1,h2⟩:=ziY cf.body hw w M hp0 w hp0 (zcy (a'++vs++c') 0 .nil) hst (zkM hall .nil);have fin: ∀{m o'},n≤m→bodyK (E F m) cf.results cf.dfr o=some o'→E F (m+1) (.call (.func (.func g) ⟨a'⟩ ⟨c'⟩) vs hp0)=some o':=fun{m o'} hm e=>by
  show((F g).bind fun cf=>zeQ (E F m) cf (a'++vs++c') hp0)=_;rw[hF,qd];unfold zeQ;rw[hp];show zbW _ _ _ _=_;unfold zbW;rw[if_pos (by rw[qr,←hall.len];exact hlen),E_up hm h1,qd,e]
 cases hd:cf.dfr with
 |none=>
  rw[hd] at h2;cases o with
  |nrm t1 h1'=>
   obtain⟨w1,M1,s1,a1,a2,a3⟩:=h2;obtain⟨o',e1,e2,-⟩:=zev (kp:=kp) a1 a2 a3;exact⟨n+1,o',fin (ql _) (by rw[hd];exact e1),e2⟩
  |ret t1 h1'=>
   obtain⟨w1,M1,s1,a1,a2,a3⟩:=h2;obtain⟨o',e1,e2,-⟩:=zev (kp:=kp) a1 a2 a3;exact⟨n+1,o',fin (ql _) (by rw[hd];exact e1),e2⟩
  |pan v t1 h1'=>
   obtain⟨w1,M1,s1,d,a1,a2,a3,a4⟩:=h2;exact⟨n+1,.pan v .nil h1',fin (ql _) (by rw[hd];rfl),w1,M1,d,a1.hi,a1.r,a3,a4⟩
  |exit=>obtain⟨w1,M1,s1,a1,a2,a3⟩:=h2;exact a3.elim
  |val=>exact h2.elim
 |some df=>
  rw[hd] at h2;cases o with
  |nrm t1 h1'=>
   obtain⟨w1,M1,s1,a1,a2,a3⟩:=h2;obtain⟨f,hf1,a3⟩:=zb2 a3;obtain⟨fv,hf2,hf3⟩:=zby a2 hf1;cases f with
   |fn g2 fa fc=>
    obtain⟨l,hl1,a3⟩:=zb2 a3;obtain⟨lv,hl2,hl3⟩:=zf8 a2 hl1;have hst1:St M1.next w1 M1 h1' w1 M1 h1':=⟨rfl,a1.r,.refl _ _ _,a1.r⟩;obtain⟨n2,o2,b1,b2⟩:=ziY df.rest a3 w1 M1 h1' w1 h1' (keepA df.L t1) hst1 (a2.keep df.L);have hisf:isFn fv=some fv:=by cases hf3;rfl
    have fin2: ∀{m o'},n≤m→n2≤m→doneK (E F m) fv lv cf.results o2=some o'→E F (m+1) (.call (.func (.func g) ⟨a'⟩ ⟨c'⟩) vs hp0)=some o':=fun{m o'} hm hm2 e=>fin hm (by
     rw[hd];show((df.f.ev t1).bind fun f=>(isFn f).bind fun f=>(evL t1 df.args).bind fun l=>(E F m (.code df.rest (keepA df.L t1) h1')).bind (doneK (E F m) f l cf.results))=_;rw[hf2,qd,hisf,qd,hl2,qd,E_up hm2 b1,qd,e])
    have done: ∀{t2 h2' p pv} {s2:DS} {M2:VM} {w2:Wd},St M1.next w1 M1 h1' w2 M2 h2'→SRel w2 s2 t2→ORelO w2 p pv→HandD F (.fn g2 fa fc) l p M2 (fun M=>endD cf.results k s2 M)→(∀m,doneK (E F m) fv lv cf.results o2=(E F m (.hand fv lv pv h2')).bind (resK1 cf.results t2))→
     ∃n o,E F n (.call (.func (.func g) ⟨a'⟩ ⟨c'⟩) vs hp0)=some o∧OutC w M hp0 k kp o:=fun{t2 h2' p pv s2 M2 w2} c1 c2 c4 c5 c6=>by
     have c1':St M.next w M hp0 w2 M2 h2':=a1.step c1.hi c1.r;obtain⟨m,o3,d1,d2⟩:=handE_sound (kp:=kp) c5 c1' c2 (hf3.mono c1.hi.le) (hl3.mono c1.hi.le) c4;obtain⟨x,hx,hy⟩:=aof d1;refine⟨max (max n n2) m+1,o3,fin2 (by omega) (by omega) ?_,d2⟩;rw[c6,E_up (by omega) hx,qd,hy]
    cases o2 with
    |nrm t2 h2'=>
     obtain⟨w2,M2,s2,c1,c2,c3⟩:=b2;exact done (p:=none) (pv:=none) c1 c2 trivial c3 fun m=>rfl
    |ret t2 h2'=>
     obtain⟨w2,M2,s2,c1,c2,c3⟩:=b2;exact done (p:=none) (pv:=none) c1 c2 trivial c3 fun m=>rfl
    |pan v t2 h2'=>
     obtain⟨w2,M2,s2,d2,c1,c2,c3,c4⟩:=b2;exact done (p:=some d2) (pv:=some v) c1 c2 c3 c4 fun m=>rfl
    |exit=>obtain⟨_,_,_,_,_,q⟩:=b2;exact q.elim
    |val=>exact b2.elim
   |_=>exact a3.elim
  |pan v t1 h1'=>
   obtain⟨w1,M1,s1,d,a1,a2,a3,a4⟩:=h2;exact⟨n+1,.pan v .nil h1',fin (ql _) (by rw[hd];rfl),w1,M1,d,a1.hi,a1.r,a3,a4⟩
  |ret=>obtain⟨w1,M1,s1,a1,a2,a3⟩:=h2;exact a3.elim
  |exit=>obtain⟨w1,M1,s1,a1,a2,a3⟩:=h2;exact a3.elim
  |val=>exact h2.elim
theorem HandD.func {g:Nat} {a c args:List DV} {p:Option DV} {M:VM} {k:VM→Prop} {cf:za} (hF:F g=some cf) (hp:cf.prim=none) (h:wHand (rD F M.next) cf (a++args++c) p M k):HandD F (.fn g a c) args p M k:=by
 intro w hp0 fv vs pv hr hf hv hpv;obtain⟨a',c',rfl,ha,hc⟩:=hf.inv_fn;have hall:=(ha.append hv).append hc;obtain⟨hlen,hw⟩:=h;have hst:St M.next w M hp0 w M hp0:=⟨rfl,hr,.refl _ _ _,hr⟩;have hs:=zkM (i:=0) hall (SRel.nil (w:=w) (t:=.nil));have hops: ∀{l:List CI} {p:Option DV} {s:DS} {M1:VM} {k1:Option DV→DS→VM→Prop} {w1:Wd} {h1:H} {t:zb} {pv:Option Value},zih l p s M1 k1→St M.next w M hp0 w1 M1 h1→SRel w1 s t→ORelO w1 p pv→
  ∃pv2 t2 h2 p2 s2 M2 w2,zbi l pv t h1=some (pv2,t2,h2)∧St M.next w M hp0 w2 M2 h2∧SRel w2 s2 t2∧ORelO w2 p2 pv2∧k1 p2 s2 M2:=by
  intro l
  induction l with
  |nil=>intro p s M1 k1 w1 h1 t pv hk c1 c2 c3;exact⟨pv,t,h1,p,s,M1,w1,rfl,c1,c2,c3,hk⟩
  |cons o l ih=>
   intro p s M1 k1 w1 h1 t pv hk c1 c2 c3;obtain⟨b,hb,hk⟩:=zb2 hk;have hwt:=zfp c2 hb;have e0:zbi (o::l) pv t h1=((z8 o.guard t).bind fun b=>match b with
    |true=>zen o (zbi l) pv t h1
    |false=>zbi l pv (zbh o.dst zM t) h1):=rfl
   rw[e0];clear hb e0;cases b with
   |false=>
    rw[hwt,qd];exact ih hk c1 (c2.put (.tup_of .nil) o.dst) c3
   |true=>
    rw[hwt,qd];dsimp only;have gen:okD (opD o.op s M1) (fun v M=>zih l p (zY o.dst v s) M k1)→zen o (zbi l) pv t h1=((opV o.op t h1).bind fun x=>zbi l pv (zbh o.dst x.1 t) x.2)→ ∃pv2 t2 h2 p2 s2 M2 w2,zen o (zbi l) pv t h1=some (pv2,t2,h2)∧St M.next w M hp0 w2 M2 h2∧SRel w2 s2 t2∧ORelO w2 p2 pv2∧k1 p2 s2 M2:=fun hq he=>by
     obtain⟨d,M2,q1,q2⟩:=okD_of hq;obtain⟨v,h',q3,w',q4,q5,q6⟩:=opW_sound c1.r c2 q1;rw[he,q3,qd];refine ih q2 (c1.step q5 q6) ((c2.mono q5.le).put q4 o.dst) ?_;cases p<;>cases pv<;>first|trivial|exact c3.elim|exact VRel.mono q5.le c3
    cases ho:o.op with
    |recov=>
     rw[ho] at hk;have e1:zen o (zbi l) pv t h1=zbi l none (zbh o.dst (pv.getD .nilIface) t) h1:=by unfold zen;rw[ho]
     rw[e1];refine ih hk c1 (c2.put ?_ o.dst) trivial;cases p<;>cases pv<;>first|exact .nilI|exact c3.elim|exact c3
    |_=>
     rw[ho] at hk;refine gen (by rw[ho];exact hk) (by unfold zen;rw[ho])
 cases hd:cf.dfr with
 |some=>rw[hd] at hw;exact hw.elim
 |none=>
  rw[hd] at hw;cases hb:cf.body with
  |seq a0 L b=>
   rw[hb] at hw;cases a0 with
   |ops l=>
    obtain⟨pv2,t2,h2,p2,s2,M2,w2,e1,e2,e3,e4,e5⟩:=hops hw hst hs hpv;cases p2 with
    |some=>exact e5.elim
    |none=>
     cases pv2 with
     |some=>exact e4.elim
     |none=>
      obtain⟨n,o,b1,b2⟩:=ziY b e5 w M hp0 w2 h2 (keepA L t2) e2 (e3.keep L);have fin: ∀{v h'},retV cf.results o=some (.val v h')→E F (n+1) (.hand (.func (.func g) ⟨a'⟩ ⟨c'⟩) vs pv hp0)=some (.val v h'):=fun{v h'} e=>by
       show((F g).bind fun cf=>zfv (E F n) cf (a'++vs++c') pv hp0)=_;rw[hF,qd];unfold zfv;rw[hp,hd];dsimp only;rw[if_pos (by rw[qr,←hall.len];exact hlen),hb];show((zbi l pv _ hp0).bind (handEnd (E F n) cf.results L b))=_;rw[e1,qd];show(E F n _).bind _=_;rw[b1,qd,e]
      cases o with
      |nrm t1 h1'=>
       obtain⟨w1,M1,s1,a1,a2,a3⟩:=b2;obtain⟨o',q1,q2,v,rfl⟩:=zev (rs:=cf.results) (k:=fun _ M=>k M) (kp:=fun _ _=>False) a1 a2 a3;obtain⟨w3,M3,d3,r1,r2,r3,r4⟩:=q2;exact⟨n+1,v,h1',w3,M3,fin q1,r1,r2,r4⟩
      |ret t1 h1'=>
       obtain⟨w1,M1,s1,a1,a2,a3⟩:=b2;obtain⟨o',q1,q2,v,rfl⟩:=zev (rs:=cf.results) (k:=fun _ M=>k M) (kp:=fun _ _=>False) a1 a2 a3;obtain⟨w3,M3,d3,r1,r2,r3,r4⟩:=q2;exact⟨n+1,v,h1',w3,M3,fin q1,r1,r2,r4⟩
      |pan=>obtain⟨_,_,_,_,_,_,_,q⟩:=b2;exact q.elim
      |exit=>obtain⟨_,_,_,_,_,q⟩:=b2;exact q.elim
      |val=>exact b2.elim
   |_=>exact hw.elim
  |_=>rw[hb] at hw;exact hw.elim
theorem zg.mono {f:DV} {args:List DV} {M:VM} {k k' kp kp':DV→VM→Prop} (h:zg F f args M k kp) (h1: ∀d M,k d M→k' d M) (h2: ∀d M,kp d M→kp' d M):zg F f args M k' kp':=fun w hp fv vs a b c=>by
 obtain⟨n,o,e,q⟩:=h w hp fv vs a b c;refine⟨n,o,e,?_⟩;cases o with
 |val=>obtain⟨w1,M1,d,a1,a2,a3,a4⟩:=q;exact⟨w1,M1,d,a1,a2,a3,h1 _ _ a4⟩
 |pan=>obtain⟨w1,M1,d,a1,a2,a3,a4⟩:=q;exact⟨w1,M1,d,a1,a2,a3,h2 _ _ a4⟩
 |_=>exact q
end
section
inductive zG (n:Nat):DV→Prop where
 |int (k:IntKind) (a:Int):zG n (.int k a)
 |bool (b:Bool):zG n (.bool b)
 |str (s:ByteArray):zG n (.str s)
 |bs (s:ByteArray):zG n (.bs s)
 |nilS:zG n .nilS
 |nilP:zG n .nilP
 |nilM:zG n .nilM
 |nilF:zG n .nilF
 |nilI:zG n .nilI
 |agg {l:List DV} (h: ∀d∈l,zG n d):zG n (.agg l)
 |tup {l:List DV} (h: ∀d∈l,zG n d):zG n (.tup l)
 |lst {s:Nat} {rows:List (List DV)} (h: ∀r∈rows,∀d∈r,zG n d):zG n (.lst s rows)
 |pl {s i off:Nat} {rows:List (List DV)} (h: ∀r∈rows,∀d∈r,zG n d):zG n (.pl s rows i off)
 |fn (g:Nat) {a c:List DV} (h: ∀d∈a,zG n d) (h': ∀d∈c,zG n d):zG n (.fn g a c)
 |ifc (t:Nat) {d:DV} (h:zG n d):zG n (.ifc t d)
 |ms {j lo len cap:Nat} (h:j<n):zG n (.ms j lo len cap)
 |ptr {j i off:Nat} (h:j<n):zG n (.ptr j i off)
 |map {j:Nat} (h:j<n):zG n (.map j)
 |yld {j:Nat} (h:j<n):zG n (.yld j)
inductive Frz (M M2:VM):DV→DV→Prop where
 |refl (d:DV):Frz M M2 d d
 |nilS (s:Nat):Frz M M2 .nilS (.lst s [])
 |agg {l l2:List DV} (hl:l.length=l2.length) (h: ∀(k:Nat) d e,l[k]? =some d→l2[k]? =some e→Frz M M2 d e):Frz M M2 (.agg l) (.agg l2)
 |tup {l l2:List DV} (hl:l.length=l2.length) (h: ∀(k:Nat) d e,l[k]? =some d→l2[k]? =some e→Frz M M2 d e):Frz M M2 (.tup l) (.tup l2)
 |ifc (t:Nat) {d e:DV} (h:Frz M M2 d e):Frz M M2 (.ifc t d) (.ifc t e)
 |ms {j lo len cap sz:Nat} {op:Bool} {rs rows:List (List DV)} (ho:M.obj j=some (.rows op sz rs)) (hn:M2.get j=none) (hb:lo+len≤rs.length) (hs: ∀r∈rows,r.length=sz) (hr:rows.length=len)
   (h: ∀(k:Nat) d e,(((rs.drop lo).take len).flatten)[k]? =some d→rows.flatten[k]? =some e→Frz M M2 d e):Frz M M2 (.ms j lo len cap) (.lst sz rows)
 |ptr {j i off sz:Nat} {op:Bool} {rs rows:List (List DV)} (ho:M.obj j=some (.rows op sz rs)) (hn:M2.get j=none) (hs: ∀r∈rows,r.length=sz) (hr:rows.length=rs.length)
   (h: ∀(k:Nat) d e,rs.flatten[k]? =some d→rows.flatten[k]? =some e→Frz M M2 d e):Frz M M2 (.ptr j i off) (.pl sz rows i off)
inductive FrzO (M M2:VM):MO→MO→Prop where
 |refl (o:MO):FrzO M M2 o o
 |rows {op:Bool} {sz:Nat} {rs rows:List (List DV)} (hs: ∀r∈rows,r.length=sz) (hr:rows.length=rs.length) (h: ∀(k:Nat) d e,rs.flatten[k]? =some d→rows.flatten[k]? =some e→Frz M M2 d e):FrzO M M2 (.rows op sz rs) (.rows op sz rows)
inductive zlM (n:Nat):MO→Prop where
 |rows {op:Bool} {sz:Nat} {rs:List (List DV)} (h: ∀r∈rs,∀d∈r,zG n d):zlM n (.rows op sz rs)
 |map {es:List (DV×DV)} (h: ∀e∈es,zG n e.1∧zG n e.2):zlM n (.map es)
 |loop {st:LoopState} {pend:Option CC} {sl:DS} {rc:RC} (h: ∀x∈sl,zG n x.2):zlM n (.loop st pend sl rc)
structure Conv (M M' M2:VM):Prop where
 nx:M.next≤M2.next
 obj: ∀j,(M2.get j=M.get j∧(j<M.next→M'.get j=M.get j))∨M2.get j=none∨
  ∃o st o',M2.get j=some (o,st)∧j<M2.next∧M.next≤st∧st<M2.next∧M'.obj j=some o'∧FrzO M' M2 o' o∧zlM M2.next o
section
variable {w:Wd} {M' M2:VM} {h:H}
def FB (w:Wd) (M' M2:VM) (b:Nat):Prop:= ∃j R,w.rho j=some R∧R.blk=b∧(M'.get j).isSome=true∧M2.get j=none
open Classical in
noncomputable def cw (w:Wd) (M' M2:VM) (h:H):Wd:=⟨fun j=>if j<M2.next then w.rho j else none,fun b=>match w.Z b with
 |some z=>some z
 |none=>if FB w M' M2 b then(match h.get b with|some (.cells cs e)=>some (cs,e)|_=>none) else none⟩
theorem zlG {j:Nat} (hj:j<M2.next) {R:RBd} (hR:w.rho j=some R):(cw w M' M2 h).rho j=some R:=by
 show(if j<M2.next then _ else _)=_;rw[if_pos hj];exact hR
theorem zkv {j:Nat} {R:RBd} (hR:(cw w M' M2 h).rho j=some R):j<M2.next∧w.rho j=some R:=by
 have hR:(if j<M2.next then w.rho j else none)=some R:=hR
 split at hR
 ·exact⟨‹_›,hR⟩
 ·cases hR
theorem cw_Z {b:Nat} {z:List Value×Nat} (hz:w.Z b=some z):(cw w M' M2 h).Z b=some z:=by
 show(match w.Z b with|some z=>some z|none=>_)=_;rw[hz]
theorem cw_FB {b:Nat} {cs:List Value} {e:Nat} (hz:w.Z b=none) (hf:FB w M' M2 b) (hg:h.get b=some (.cells cs e)):(cw w M' M2 h).Z b=some (cs,e):=by
 show(match w.Z b with|some z=>some z|none=>_)=_;rw[hz];dsimp only;rw[if_pos hf,hg]
theorem cw_Z' {b:Nat} {z:List Value×Nat} (hz:(cw w M' M2 h).Z b=some z):w.Z b=some z∨(FB w M' M2 b∧h.get b=some (.cells z.1 z.2)):=by
 have hz:(match w.Z b with|some z=>some z|none=>_)=some z:=hz
 split at hz
 ·rename_i e;cases hz;exact .inl e
 ·split at hz
  ·rename_i hf
   split at hz
   ·rename_i hg;cases hz;exact .inr ⟨hf,hg⟩
   ·cases hz
  ·cases hz
theorem zG.rel {d:DV} {v:Value} (hv:VRel w d v):zG M2.next d→VRel (cw w M' M2 h) d v:=by
 induction hv with
 |int k n=>intro _;exact .int k n
 |bool b=>intro _;exact .bool b
 |str s=>intro _;exact .str s
 |bs hz=>intro _;exact .bs (cw_Z hz)
 |nilS=>intro _;exact .nilS
 |nilP=>intro _;exact .nilP
 |nilM=>intro _;exact .nilM
 |nilF=>intro _;exact .nilF
 |nilI=>intro _;exact .nilI
 |agg hl _ ih=>intro hb;cases hb with|agg hb=>exact .agg hl fun k d v a b=>ih k d v a b (hb d (qe a))
 |tup hl _ ih=>intro hb;cases hb with|tup hb=>exact .tup hl fun k d v a b=>ih k d v a b (hb d (qe a))
 |fn g ha hc _ _ ih ih'=>intro hb;cases hb with|fn _ h1 h2=>exact .fn g ha hc (fun k d v a b=>ih k d v a b (h1 d (qe a))) (fun k d v a b=>ih' k d v a b (h2 d (qe a)))
 |yld hR=>intro hb;cases hb with|yld hb=>exact .yld (zlG hb hR)
 |ifc t _ ih=>intro hb;cases hb with|ifc _ hb=>exact .ifc t (ih hb)
 |map hR=>intro hb;cases hb with|map hb=>exact .map (zlG hb hR)
 |ptr hR=>intro hb;cases hb with|ptr hb=>exact .ptr (zlG hb hR)
 |ms hR ho hc=>intro hb;cases hb with|ms hb=>exact .ms (zlG hb hR) ho hc
 |lst hz hs hb _ ho hc hn ih=>intro hq;cases hq with|lst hq=>exact .lst (cw_Z hz) hs hb (fun k d v a b=>ih k d v a b (by
   obtain⟨r,hr1,hr2⟩:=qi.1 (qe a);exact hq r hr1 d hr2))                                 ho hc hn
 |lst0 hc hsp=>intro _;exact .lst0 hc hsp
 |pl hz hs hb _ ih=>intro hq;cases hq with|pl hq=>exact .pl (cw_Z hz) hs hb (fun k d v a b=>ih k d v a b (by
   obtain⟨r,hr1,hr2⟩:=qi.1 (qe a);exact hq r hr1 d hr2))
theorem zep {l m:List DV} (hl:l.length=m.length) {k:Nat} {e:DV} (he:m[k]? =some e): ∃d,l[k]? =some d:=by
 have:=(List.getElem?_eq_some_iff.1 he).1;exact⟨l[k]'(by omega),qy (by omega)⟩
theorem Frz.rel (hr:HRel w M' h) {d e:DV} (hf:Frz M' M2 d e): ∀{v:Value},VRel w d v→zG M2.next e→VRel (cw w M' M2 h) e v:=by
 induction hf with
 |refl d=>intro v hv hb;exact zG.rel hv hb
 |nilS s=>intro v hv hb;cases hv;exact .lst0 (by decide) (fun a e=>by cases e)
 |agg hl _ ih=>
  intro v hv hb;cases hb with
  |agg hb=>
   obtain⟨vs,rfl,hlr⟩:=hv.inv_agg;refine .agg (hl.symm.trans hlr.len) fun k e v a b=> ?_;obtain⟨d,hd⟩:=zep hl a;exact ih k d e hd a (hlr.at_ k d v hd b) (hb e (qe a))
 |tup hl _ ih=>
  intro v hv hb;cases hb with
  |tup hb=>
   obtain⟨vs,rfl,hlr⟩:=hv.inv_tup;refine .tup (hl.symm.trans hlr.len) fun k e v a b=> ?_;obtain⟨d,hd⟩:=zep hl a;exact ih k d e hd a (hlr.at_ k d v hd b) (hb e (qe a))
 |ifc t _ ih=>
  intro v hv hb;cases hb with
  |ifc _ hb=>cases hv with|ifc _ hv=>exact .ifc t (ih hv hb)
 | @ms j lo len cap sz op rs rows ho hn hle hs hrl _ ih=>
   intro v hv hb;cases hb with
   |lst hb=>
    cases hv with
    | @ms _ _ _ _ R hR hO hC=>
      obtain⟨st,hg⟩:=zbS ho;obtain⟨hz,eo,he,hro⟩:=hr.obj j _ st R hg hR;cases hro with
      | @rows _ _ _ cs e hrows=>
        have hs0:=hrows.row;have hfl:=zX hs0;have hcl:=hrows.rel.len;have hlen2:((rs.drop lo).take len).flatten.length=rows.flatten.length:=by
         rw[zX (rs:=(rs.drop lo).take len) (fun r hr=>hs0 r (qA (List.mem_of_mem_take hr))),zX hs,hrl]
         congr 1;simp;omega
        have hmul:lo*sz+len*sz≤rs.length*sz:=by rw[←Nat.add_mul];exact Nat.mul_le_mul_right _ hle
        refine .lst (cs:=cs) (e:=e) (cw_FB hz ⟨j,R,hR,rfl,by rw[hg];rfl,hn⟩ he) hs (by rw[hrl,←hrows.hsz];omega) (fun k e2 v a b=> ?_) (fun hc=> ?_) (fun hc=>by rw[hrl];exact hC hc) hrl.symm
        ·obtain⟨d,hd⟩:=zep hlen2 a;have hd2:=hd;rw[zdr (fun r hr=>hs0 r (List.mem_of_mem_drop hr)),zds hs0,List.getElem?_take] at hd2
         split at hd2
         ·rw[List.getElem?_drop] at hd2;refine ih k d e2 hd a (hrows.rel.at_ _ d v hd2 (by rw[hrows.hsz];exact b)) ?_;obtain⟨r,hr1,hr2⟩:=qi.1 (qe a);exact hb r hr1 e2 hr2
         ·cases hd2
        ·have h1:=hO hc;have h2:=hrows.hop.trans h1;subst h2;have:=hrows.esz;rw[if_pos rfl] at this;exact⟨this,hrows.pos rfl⟩
 | @ptr j i off sz op rs rows ho hn hs hrl _ ih=>
   intro v hv hb;cases hb with
   |pl hb=>
    cases hv with
    | @ptr _ _ _ R hR=>
      obtain⟨st,hg⟩:=zbS ho;obtain⟨hz,eo,he,hro⟩:=hr.obj j _ st R hg hR;cases hro with
      | @rows _ _ _ cs e hrows=>
        have hs0:=hrows.row;have hfl:=zX hs0;have hcl:=hrows.rel.len;have hlen2:rs.flatten.length=rows.flatten.length:=by rw[hfl,zX hs,hrl]
        have:=VRel.pl (w:=cw w M' M2 h) (o:=0) (i:=i) (off:=off) (cs:=cs) (e:=e) (cw_FB hz ⟨j,R,hR,rfl,by rw[hg];rfl,hn⟩ he) hs (by rw[hrl];omega) (fun k e2 v a b=>by
         obtain⟨d,hd⟩:=zep hlen2 a;refine ih k d e2 hd a (hrows.rel.at_ _ d v hd (by rw[←b];congr 1;omega)) ?_;obtain⟨r,hr1,hr2⟩:=qi.1 (qe a);exact hb r hr1 e2 hr2)
        rw[qC] at this;rw[←hrows.hsz];exact this
theorem St.conv {n0:Nat} {w0:Wd} {M M0:VM} {h0 h1:H} {w1:Wd} (hst:St n0 w0 M0 h0 w1 M h1) {hh:H} (hr1:HRel w1 M h1) (hi:Hist w1 M h1 w M' hh) (hr:HRel w M' hh) (hc:Conv M M' M2):St n0 w0 M0 h0 (cw w M' M2 hh) M2 hh:=by
 have hle1:w1.Le (cw w M' M2 hh):=⟨fun j R e=>zlG (qv (hr1.dom j R e).1 hc.nx) (hi.le.rho _ _ e),fun b z e=>cw_Z (hi.le.Z _ _ e)⟩;have kept: ∀j o st,M2.get j=some (o,st)→(M.get j=some (o,st)∧M'.get j=some (o,st))∨(j<M2.next∧M.next≤st∧st<M2.next∧ ∃o',M'.obj j=some o'∧FrzO M' M2 o' o∧zlM M2.next o):=fun j o st e=>by
  rcases hc.obj j with⟨h1,h2⟩|h1| ⟨o1,st1,o',h1,h2,h3,h4,h5,h6,h7⟩
  ·rw[h1] at e;exact .inl ⟨e,by rw[h2 (hr1.wf j o st e).1];exact e⟩
  ·rw[h1] at e;cases e
  ·rw[h1] at e;cases e;exact .inr ⟨h2,h3,h4,o',h5,h6,h7⟩
 have live: ∀j x,M2.get j=some x→ ∃y,M'.get j=some y:=fun j x e=>by
  obtain⟨o,st⟩:=x;rcases kept j o st e with⟨_,h2⟩| ⟨_,_,_,o',h5,_⟩
  ·exact⟨_,h2⟩
  ·obtain⟨st',h6⟩:=zbS h5;exact⟨_,h6⟩
 refine⟨hst.n,hst.r0,hst.hi.trans hst.r0 ⟨hle1,hc.nx,hi.hnx,fun j o st e=> ?_,fun j x R e1 e2 hR=> ?_,fun j R e=>hi.own j R (zkv e).2,hi.rest⟩,?_⟩
 ·rcases kept j o st e with⟨h1,-⟩| ⟨_,h1,_⟩
  ·exact .inl h1
  ·exact .inr h1
 ·obtain⟨o,st⟩:=x;rcases kept j o st e2 with⟨_,h2⟩| ⟨_,h1,_⟩
  ·exact hi.same j _ R e1 h2 hR
  ·have:=(hr1.wf j o st e1).2.1;omega
 ·constructor
  ·intro j o st e;rcases kept j o st e with⟨h1,h2⟩| ⟨h1,_,h3,o',h5,_⟩
   ·obtain⟨a,b,R,c⟩:=hr1.wf j o st h1;exact⟨qv a hc.nx,qv b hc.nx,R,hle1.rho _ _ c⟩
   ·obtain⟨st',h6⟩:=zbS h5;obtain⟨_,_,R,c⟩:=hr.wf j _ _ h6;exact⟨h1,h3,R,zlG h1 c⟩
  ·intro j R e;obtain⟨a,b⟩:=zkv e;exact⟨a,(hr.dom j R b).2⟩
  ·intro b z e;rcases cw_Z' e with e| ⟨⟨j,R,hR,rfl,_⟩,hg⟩
   ·exact hr.zd b z e
   ·exact⟨(hr.dom j R hR).2,hg⟩
  ·intro j o st R e hR;obtain⟨hj,hR⟩:=zkv hR;obtain⟨y,hy⟩:=live j _ e;obtain⟨hz,e',he',hro⟩:=hr.obj j y.1 y.2 R hy hR;refine⟨?_,?_⟩
   ·cases hzz:(cw w M' M2 hh).Z R.blk with
    |none=>rfl
    |some z=>
     rcases cw_Z' hzz with e2| ⟨⟨j',R',hR',eb,hl,hn⟩,hg⟩
     ·rw[hz] at e2;cases e2
     ·have:=hr.inj j' j R' R hR' hR hl (by rw[hy];rfl) eb;subst this;rw[hn] at e;cases e
   ·rcases kept j o st e with⟨h1,h2⟩| ⟨_,_,_,o',h5,h6,h7⟩
    ·
     obtain⟨_,_,R1,c⟩:=hr1.wf j o st h1;have:R1=R:=by have:=hi.le.rho _ _ c;rw[hR] at this;cases this;rfl
     subst this;obtain⟨_,e0,he0,hro0⟩:=hr1.obj j o st R1 h1 c;exact⟨e0,by rw[hi.same j _ R1 h1 h2 c];exact he0,hro0.mono hle1⟩
    ·obtain⟨st',h8⟩:=zbS h5;rw[hy] at h8;cases h8;refine⟨e',he',?_⟩;cases h6 with
     |refl=>
      cases hro with
      | @rows op sz rs cs ee hrows=>
        cases h7 with
        |rows h7=>
         refine .rows ⟨hrows.hop,hrows.hsz,hrows.esz,hrows.pos,hrows.row,hrows.rel.len,fun k d v a b=>zG.rel (hrows.rel.at_ k d v a b) ?_⟩;obtain⟨r,hr1,hr2⟩:=qi.1 (qe a);exact h7 r hr1 d hr2
      | @map es es' c hm=>
        cases h7 with
        |map h7=>
         refine .map ⟨⟨hm.keys.len,fun k d v a b=>zG.rel (hm.keys.at_ k d v a b) ?_⟩,⟨hm.vals.len,fun k d v a b=>zG.rel (hm.vals.at_ k d v a b) ?_⟩⟩
         ·obtain⟨x,hx,rfl⟩:=List.mem_map.1 (qe a);exact(h7 x hx).1
         ·obtain⟨x,hx,rfl⟩:=List.mem_map.1 (qe a);exact(h7 x hx).2
      | @loop lst pend sl sl' rc hsl=>
        cases h7 with
        |loop h7=>
         refine .loop fun p d hd=> ?_;obtain⟨v,hv,hv2⟩:=hsl p d hd;refine⟨v,hv,zG.rel hv2 ?_⟩;have: ∀{s:DS},getS s p=some d→ ∃x∈s,x.2=d:=by
          intro s
          induction s with
          |nil=>intro q;cases q
          |cons x s ih=>
           intro q;obtain⟨x1,x2⟩:=x;rw[zdq] at q
           split at q
           ·cases q;exact⟨_,qD ..,rfl⟩
           ·obtain⟨y,hy,e⟩:=ih q;exact⟨y,qB _ hy,e⟩
         obtain⟨x,hx,rfl⟩:=this hd;exact h7 x hx
     | @rows op sz rs rows hs hrl hfr=>
       cases hro with
       | @rows _ _ _ cs ee hrows=>
         cases h7 with
         |rows h7=>
          have hlen2:rs.flatten.length=rows.flatten.length:=by rw[zX hrows.row,zX hs,hrl]
          refine .rows ⟨hrows.hop,hrows.hsz,hrows.esz,hrows.pos,hs,hlen2.symm.trans hrows.rel.len,fun k d v a b=> ?_⟩;obtain⟨d0,hd0⟩:=zep hlen2 a;refine(hfr k d0 d hd0 a).rel hr (hrows.rel.at_ k d0 v hd0 b) ?_;obtain⟨r,hr1,hr2⟩:=qi.1 (qe a);exact h7 r hr1 d hr2
  ·intro i j R S hi' hj ai aj eb;obtain⟨xi,ei⟩:=qh.1 ai;obtain⟨xj,ej⟩:=qh.1 aj;obtain⟨yi,fi⟩:=live i _ ei;obtain⟨yj,fj⟩:=live j _ ej;exact hr.inj i j R S (zkv hi').2 (zkv hj).2 (by rw[fi];rfl) (by rw[fj];rfl) eb
end
variable {F:FuncId→Option za} {n0:Nat}
def SFrz (M' M2:VM) (s s2:DS):Prop:= ∀p e,getS s2 p=some e→ ∃d,getS s p=some d∧Frz M' M2 d e∧zG M2.next e
theorem SFrz.rel {M' M2:VM} {w:Wd} {h:H} (hr:HRel w M' h) {s s2:DS} {t:zb} (hf:SFrz M' M2 s s2) (hs:SRel w s t):SRel (cw w M' M2 h) s2 t:=fun p e he=>by
 obtain⟨d,hd,h1,h2⟩:=hf p e he;obtain⟨v,hv,h3⟩:=hs p d hd;exact⟨v,hv,h1.rel hr h3 h2⟩
theorem zg.conv {f:DV} {args:List DV} {M:VM} {k kp:DV→VM→Prop} (h:zg F f args M (fun d M'=> ∃e M2,Conv M M' M2∧Frz M' M2 d e∧zG M2.next e∧k e M2) kp):zg F f args M k kp:=by
 intro w hp fv vs hr hf hv;obtain⟨n,o,e,q⟩:=h w hp fv vs hr hf hv;refine⟨n,o,e,?_⟩;cases o with
 |val v h1=>
  obtain⟨w1,M1,d,a1,a2,a3,e2,M2,c1,c2,c3,c4⟩:=q;have:=St.conv ⟨rfl,hr,.refl _ _ _,hr⟩ hr a1 a2 c1;exact⟨_,M2,e2,this.hi,this.r,c2.rel a2 a3 c3,c4⟩
 |pan v s h1=>exact q
 |_=>exact q
def VM.Wf (M:VM):Prop:= ∀j,M.next≤j→M.get j=none
theorem HRel.Wf {w:Wd} {M:VM} {h:H} (hr:HRel w M h):M.Wf:=fun j hj=>by
 cases e:M.get j with
 |none=>rfl
 |some x=>obtain⟨o,st⟩:=x;have:=(hr.wf j o st e).1;omega
theorem zg.wf {f:DV} {args:List DV} {M:VM} {k kp:DV→VM→Prop} (h:M.Wf→zg F f args M k kp):zg F f args M k kp:=fun w hp fv vs hr a b=>h hr.Wf w hp fv vs hr a b
theorem Conv.same {M M':VM} (h: ∀j,j<M.next→M'.get j=M.get j):Conv M M' M:=⟨ql _,fun j=>.inl ⟨rfl,h j⟩⟩
theorem Frz.ms0 {M M2:VM} {j n cap sz:Nat} {op:Bool} {rs:List (List DV)} (ho:M.obj j=some (.rows op sz rs)) (hn:M2.get j=none) (hl:n=rs.length) (hs: ∀r∈rs,r.length=sz):Frz M M2 (.ms j 0 n cap) (.lst sz rs):=by
 subst hl;refine .ms ho hn (by omega) hs rfl fun k d e a b=> ?_;rw[List.drop_zero,List.take_length] at a;rw[a] at b;cases b;exact .refl d
end
section
noncomputable section
namespace Q
abbrev iI (n:Int):Value:=.int .i64 n
abbrev t (n:Nat):CO:=.t (bits n)
abbrev i (n:Int):CO:=.c (.int .i64 n)
abbrev tt:CO:=.c (.bool true)
abbrev ff:CO:=.c (.bool false)
abbrev fc (f:Nat):CO:=.c (.func (.func f) ⟨[]⟩ ⟨[]⟩)
abbrev bs (l:List Nat):List (List Bool):=l.map bits
abbrev oo (d:Nat) (x:COp):CI:=⟨some (bits d),x,none,0⟩
abbrev on (x:COp):CI:=⟨none,x,none,0⟩
abbrev gu (q:Nat) (b:Bool) (c:CI):CI:=⟨c.dst,c.op,some (bits q,b),c.lo⟩
def lo (n:Nat) (c:CI):CI:=⟨c.dst,c.op,c.guard,n⟩
@[simp] theorem lo_eq (n m:Nat) (d:Option (List Bool)) (o:COp) (g:Option (List Bool×Bool)):lo n ⟨d,o,g,m⟩=⟨d,o,g,n⟩:=id rfl
abbrev mv (d:Nat) (x:CO):CI:=⟨some (bits d),.mv x,none,0⟩
abbrev l (d a:Nat):CI:=⟨some (bits d),.load1 (t a),none,0⟩
abbrev ln (d n a:Nat):CI:=⟨some (bits d),.loadN n (t a),none,0⟩
abbrev fa (d n a:Nat):CI:=⟨some (bits d),.fieldAddr n (t a),none,0⟩
abbrev nc (d a:Nat):CI:=⟨some (bits d),.nilCheck (t a),none,0⟩
abbrev ia (d n a:Nat) (x:CO):CI:=⟨some (bits d),.indexAddr n (t a) x,none,0⟩
abbrev st (n a:Nat) (x:CO):CI:=⟨none,.store n (t a) x,none,0⟩
abbrev bi (op:BinOp) (d:Nat) (x y:CO):CI:=⟨some (bits d),.bin op .other x y,none,0⟩
abbrev le (d:Nat) (x:CO):CI:=⟨some (bits d),.blt .len [x],none,0⟩
abbrev ca (d f:Nat) (as:List CO):CI:=⟨some (bits d),.call (fc f) as,none,0⟩
abbrev ex (d a n:Nat):CI:=⟨some (bits d),.extract (t a) n,none,0⟩
abbrev bx (d:Nat) (x:CO):CI:=⟨some (bits d),.box x,none,0⟩
abbrev no (d a:Nat):CI:=⟨some (bits d),.un .not (t a),none,0⟩
abbrev pk (d:Nat) (c a b:CO):CI:=⟨some (bits d),.pick c a b,none,0⟩
abbrev ap (d s b:Nat) (x y:CO):CI:=⟨some (bits d),.blt (.append s b) [x,y],none,0⟩
end Q
inductive Fr where
 |sq (L:List (List Bool)) (b:CC)
 |bk (i:Nat)
def KF (X:RnD):List Fr→KD→KD
 | [],K=>K
 |.sq L b::ks,K=>⟨fun s M=>wp X b (KF X ks K) (zbH L s) M,(KF X ks K).ext,(KF X ks K).ret,(KF X ks K).pan⟩
 |.bk i::ks,K=>⟨(KF X ks K).nrm,blkD i (KF X ks K),(KF X ks K).ret,(KF X ks K).pan⟩
class FrC where
 ks:List Fr
 K:KD
abbrev FrC.sq (f:FrC) (L:List (List Bool)) (b:CC):FrC:=⟨.sq L b::f.ks,f.K⟩
abbrev FrC.bk (f:FrC) (i:Nat):FrC:=⟨.bk i::f.ks,f.K⟩
abbrev FrC.base (K:KD):FrC:=⟨[],K⟩
def kf (X:RnD) [f:FrC]:KD:=KF X f.ks f.K
section
variable (X:RnD) [fr:FrC]
def Cd (c:CC) (s:DS) (M:VM):Prop:=wp X c (@kf X fr) s M
def Op (l:List CI) (s:DS) (M:VM):Prop:=wOps X (@kf X fr).pan l s M (@kf X fr).nrm
def Nx (s:DS) (M:VM):Prop:=(@kf X fr).nrm s M
def Ex (i:Nat) (s:DS) (M:VM):Prop:=(@kf X fr).ext i s M
def CK (d:Option (List Bool)) (r:List CI) (s:DS) (v:DV) (M:VM):Prop:= @Op X fr r (zY d v s) M
def PK [fr:FrC] (s:DS) (v:DV) (M:VM):Prop:=fr.K.pan v s M
def Rs (o:RD) (d:Option (List Bool)) (r:List CI) (s:DS):Prop:=okD o (@CK X fr d r s)
def Ca (f:Option DV) (as:Option (List DV)) (d:Option (List Bool)) (r:List CI) (s:DS) (M:VM):Prop:=ofD f fun f=>ofD as fun l=>X.call f l M (@CK X fr d r s) (@PK fr s)
def Gd (g:Option Bool) (d:Option (List Bool)) (op:COp) (lo:Nat) (r:List CI) (s:DS) (M:VM):Prop:=ofD g fun b=>match b with
 |true=> @Op X fr (⟨d,op,none,lo⟩::r) s M
 |false=> @Op X fr r (zY d (.tup []) s) M
def Pn [fr:FrC] (v:Option DV) (s:DS) (M:VM):Prop:=ofD v fun v=>match v with|.ifc t u=>fr.K.pan (.ifc t u) s M|_=>False
def Br (v:Option DV) (a b:CC) (s:DS) (M:VM):Prop:=ofD v fun v=>wIf v (@Cd X fr a s M) (@Cd X fr b s M)
end
section
variable {X:RnD} {fr:FrC} {K:KD} {s:DS} {M:VM} {d:Option (List Bool)} {r:List CI} {lo:Nat}
theorem KF_ret0: ∀ks:List Fr,(KF X ks K).ret=K.ret
 | []=>rfl
 |.sq _ _::ks=>KF_ret0 ks
 |.bk _::ks=>KF_ret0 ks
theorem KF_pan0: ∀ks:List Fr,(KF X ks K).pan=K.pan
 | []=>rfl
 |.sq _ _::ks=>KF_pan0 ks
 |.bk _::ks=>KF_pan0 ks
theorem KF_ret:(@kf X fr).ret=fr.K.ret:=KF_ret0 _
theorem KF_pan:(@kf X fr).pan=fr.K.pan:=KF_pan0 _
@[simp] theorem KF_ret':(@kf X fr).ret s M=fr.K.ret s M:=by rw[KF_ret]
@[simp] theorem KF_pan' (v:DV):(@kf X fr).pan v s M=fr.K.pan v s M:=by rw[KF_pan]
@[simp] theorem sq_K (L:List (List Bool)) (b:CC):(fr.sq L b).K=fr.K:=id rfl
@[simp] theorem bk_K (i:Nat):(fr.bk i).K=fr.K:=id rfl
@[simp] theorem base_K:(FrC.base K).K=K:=id rfl
@[simp] theorem KF_ext (i:Nat):(@kf X fr).ext i s M= @Ex X fr i s M:=id rfl
theorem wp_Cd (c:CC):wp X c K s M= @Cd X (.base K) c s M:=id rfl
@[simp] theorem Cd_skip: @Cd X fr .skip s M= @Nx X fr s M:=id rfl
@[simp] theorem Cd_ops (l:List CI): @Cd X fr (.ops l) s M= @Op X fr l s M:=id rfl
@[simp] theorem Cd_seq (a b:CC) (L:List (List Bool)): @Cd X fr (.seq a L b) s M= @Cd X (fr.sq L b) a s M:=id rfl
@[simp] theorem Cd_block (i:Nat) (b:CC): @Cd X fr (.block i b) s M= @Cd X (fr.bk i) b s M:=id rfl
@[simp] theorem Cd_cond (c:CO) (a b:CC): @Cd X fr (.cond c a b) s M= @Br X fr (evD s c) a b s M:=id rfl
@[simp] theorem Cd_exit (i:Nat): @Cd X fr (.exit i) s M= @Ex X fr i s M:=id rfl
@[simp] theorem Cd_ret: @Cd X fr .ret s M=fr.K.ret s M:=by show(@kf X fr).ret s M=_;rw[KF_ret]
@[simp] theorem Cd_loop (L:List (List Bool)) (b:CC): @Cd X fr (.loop L b) s M=X.loop L b (@kf X fr) (zbH L s) M:=id rfl
@[simp] theorem Br_true (a b:CC): @Br X fr (some (.bool true)) a b s M= @Cd X fr a s M:=id rfl
@[simp] theorem Br_false (a b:CC): @Br X fr (some (.bool false)) a b s M= @Cd X fr b s M:=id rfl
@[simp] theorem Nx_nil: @Nx X (.base K) s M=K.nrm s M:=id rfl
@[simp] theorem Nx_sq (L:List (List Bool)) (b:CC): @Nx X (fr.sq L b) s M= @Cd X fr b (zbH L s) M:=id rfl
@[simp] theorem Nx_bk (i:Nat): @Nx X (fr.bk i) s M= @Nx X fr s M:=id rfl
@[simp] theorem Ex_nil (i:Nat): @Ex X (.base K) i s M=K.ext i s M:=id rfl
@[simp] theorem Ex_sq (L:List (List Bool)) (b:CC) (i:Nat): @Ex X (fr.sq L b) i s M= @Ex X fr i s M:=id rfl
@[simp] theorem Ex_bk (i j:Nat): @Ex X (fr.bk i) j s M=if j=i then @Nx X fr s M else @Ex X fr j s M:=by
  show blkD i (@kf X fr) j s M=_;unfold blkD;by_cases h:j=i
  ·subst h;rw[if_pos rfl,qf];rfl
  ·rw[if_neg h];cases e:Nat.beq j i with
   |true=>exact absurd (qn e) h
   |false=>rfl
@[simp] theorem Op_nil: @Op X fr [] s M= @Nx X fr s M:=id rfl
@[simp] theorem Op_guard (op:COp) (g:List Bool×Bool): @Op X fr (⟨d,op,some g,lo⟩::r) s M= @Gd X fr (wantD (some g) s) d op lo r s M:=by
  show zhQ X _ s M _ _=_;unfold zhQ Gd
  congr 1
@[simp] theorem Gd_true (op:COp): @Gd X fr (some true) d op lo r s M= @Op X fr (⟨d,op,none,lo⟩::r) s M:=id rfl
@[simp] theorem Gd_false (op:COp): @Gd X fr (some false) d op lo r s M= @Op X fr r (zY d (.tup []) s) M:=id rfl
@[simp] theorem Rs_some (v:DV) (M':VM): @Rs X fr (some (v,M')) d r s= @Op X fr r (zY d v s) M':=id rfl
@[simp] theorem CK_eq (v:DV): @CK X fr d r s v M= @Op X fr r (zY d v s) M:=id rfl
@[simp] theorem PK_eq (v:DV): @PK fr s v M=fr.K.pan v s M:=id rfl
@[simp] theorem Ca_some (f:DV) (as:List DV): @Ca X fr (some f) (some as) d r s M=X.call f as M (@CK X fr d r s) (@PK fr s):=id rfl
@[simp] theorem Op_call (f:CO) (as:List CO): @Op X fr (⟨d,.call f as,none,lo⟩::r) s M= @Ca X fr (evD s f) (evDL s as) d r s M:=by
  show ofD _ _=ofD _ _;unfold PK CK Op;rw[KF_pan]
@[simp] theorem Op_panic (x:CO): @Op X fr (⟨d,.panic x,none,lo⟩::r) s M= @Pn fr (evD s x) s M:=by
  show ofD _ _=ofD _ _;rw[KF_pan];rfl
@[simp] theorem Pn_ifc (t:Nat) (v:DV): @Pn fr (some (.ifc t v)) s M=fr.K.pan (.ifc t v) s M:=id rfl
@[simp] theorem Op_mv (x:CO): @Op X fr (⟨d,.mv x,none,lo⟩::r) s M= @Rs X fr (opD (.mv x) s M) d r s:=id rfl
@[simp] theorem Op_pick (c a b:CO): @Op X fr (⟨d,.pick c a b,none,lo⟩::r) s M= @Rs X fr (opD (.pick c a b) s M) d r s:=id rfl
@[simp] theorem Op_build (z:List Value) (ps:List (Nat×Nat×CO)): @Op X fr (⟨d,.build z ps,none,lo⟩::r) s M= @Rs X fr (opD (.build z ps) s M) d r s:=id rfl
@[simp] theorem Op_load1 (a:CO): @Op X fr (⟨d,.load1 a,none,lo⟩::r) s M= @Rs X fr (opD (.load1 a) s M) d r s:=id rfl
@[simp] theorem Op_loadN (n:Nat) (a:CO): @Op X fr (⟨d,.loadN n a,none,lo⟩::r) s M= @Rs X fr (opD (.loadN n a) s M) d r s:=id rfl
@[simp] theorem Op_store (n:Nat) (a x:CO): @Op X fr (⟨d,.store n a x,none,lo⟩::r) s M= @Rs X fr (opD (.store n a x) s M) d r s:=id rfl
@[simp] theorem Op_nilc (x:CO): @Op X fr (⟨d,.nilCheck x,none,lo⟩::r) s M= @Rs X fr (opD (.nilCheck x) s M) d r s:=id rfl
@[simp] theorem Op_bin (op:BinOp) (ek:EK) (x y:CO): @Op X fr (⟨d,.bin op ek x y,none,lo⟩::r) s M= @Rs X fr (opD (.bin op ek x y) s M) d r s:=id rfl
@[simp] theorem Op_un (op:UnOp) (x:CO): @Op X fr (⟨d,.un op x,none,lo⟩::r) s M= @Rs X fr (opD (.un op x) s M) d r s:=id rfl
@[simp] theorem Op_conv (k:IntKind) (x:CO): @Op X fr (⟨d,.conv k x,none,lo⟩::r) s M= @Rs X fr (opD (.conv k x) s M) d r s:=id rfl
@[simp] theorem Op_makeFunc (g:Fn) (a b:List CO): @Op X fr (⟨d,.makeFunc g a b,none,lo⟩::r) s M= @Rs X fr (opD (.makeFunc g a b) s M) d r s:=id rfl
@[simp] theorem Op_fieldAddr (n:Nat) (x:CO): @Op X fr (⟨d,.fieldAddr n x,none,lo⟩::r) s M= @Rs X fr (opD (.fieldAddr n x) s M) d r s:=id rfl
@[simp] theorem Op_indexAddr (n:Nat) (x i:CO): @Op X fr (⟨d,.indexAddr n x i,none,lo⟩::r) s M= @Rs X fr (opD (.indexAddr n x i) s M) d r s:=id rfl
@[simp] theorem Op_lookup (kk:KK) (z:Value) (ok:Bool) (x i:CO): @Op X fr (⟨d,.lookup kk z ok x i,none,lo⟩::r) s M= @Rs X fr (opD (.lookup kk z ok x i) s M) d r s:=id rfl
@[simp] theorem Op_mapUpdate (kk:KK) (m i x:CO): @Op X fr (⟨d,.mapUpdate kk m i x,none,lo⟩::r) s M= @Rs X fr (opD (.mapUpdate kk m i x) s M) d r s:=id rfl
@[simp] theorem Op_extract (x:CO) (i:Nat): @Op X fr (⟨d,.extract x i,none,lo⟩::r) s M= @Rs X fr (opD (.extract x i) s M) d r s:=id rfl
@[simp] theorem Op_strIdx (x i:CO): @Op X fr (⟨d,.strIdx x i,none,lo⟩::r) s M= @Rs X fr (opD (.strIdx x i) s M) d r s:=id rfl
@[simp] theorem Op_mkI (t:TypeId) (x:CO): @Op X fr (⟨d,.mkI t x,none,lo⟩::r) s M= @Rs X fr (opD (.mkI t x) s M) d r s:=id rfl
@[simp] theorem Op_strSlice (x:CO) (lo' hi:Option CO): @Op X fr (⟨d,.strSlice x lo' hi,none,lo⟩::r) s M= @Rs X fr (opD (.strSlice x lo' hi) s M) d r s:=id rfl
@[simp] theorem Op_b2s (x:CO): @Op X fr (⟨d,.b2s x,none,lo⟩::r) s M= @Rs X fr (opD (.b2s x) s M) d r s:=id rfl
@[simp] theorem Op_box (x:CO): @Op X fr (⟨d,.box x,none,lo⟩::r) s M= @Rs X fr (opD (.box x) s M) d r s:=id rfl
@[simp] theorem Op_alloc (z:List Value): @Op X fr (⟨d,.alloc z,none,lo⟩::r) s M= @Rs X fr (opD (.alloc z) s M) d r s:=id rfl
@[simp] theorem Op_makeMap: @Op X fr (⟨d,.makeMap,none,lo⟩::r) s M= @Rs X fr (opD (.makeMap) s M) d r s:=id rfl
@[simp] theorem Op_buildSlice (len size:Nat) (z:List Value) (ps:List (Nat×CO)): @Op X fr (⟨d,.buildSlice len size z ps,none,lo⟩::r) s M= @Rs X fr (opD (.buildSlice len size z ps) s M) d r s:=id rfl
@[simp] theorem Op_blt (b:CB) (as:List CO): @Op X fr (⟨d,.blt b as,none,lo⟩::r) s M= @Rs X fr (opD (.blt b as) s M) d r s:=id rfl
end
section
variable (X:RnD) [fr:FrC]
def Dr (l:List CI) (bs:List Mo) (s:DS) (M:VM):Prop:=zda X l bs s M (@kf X fr).nrm fun v M=>fr.K.pan v [] M
def DP (l:List CI) (bs:List Mo) (s:DS) (M:VM) (v:DV) (M':VM):Prop:=wSurv X l bs s M∧fr.K.pan v [] M'
def DW (d:Option (List Bool)) (l:List CI) (bs:List Mo) (s:DS) (v:DV) (M:VM):Prop:= @Dr X fr l (⟨zj3 bs,M,[]⟩::bs.map (zcz d)) (zY d v s) M
def DrW (o:RD) (d:Option (List Bool)) (l:List CI) (bs:List Mo) (s:DS):Prop:=okD o (@DW X fr d l bs s)
def DrC (f:Option DV) (as:Option (List DV)) (d:Option (List Bool)) (l:List CI) (bs:List Mo) (s:DS) (M:VM):Prop:=ofD f fun f=>ofD as fun a=>X.call f a M (@DW X fr d l bs s) (@DP X fr l bs s M)
def DrF (o:RD) (ns:List (List Bool)) (d:Option (List Bool)) (l:List CI) (bs:List Mo) (s:DS):Prop:=okD o fun v M=> @Dr X fr l (bs.map (zhg ns d)) (zY d v s) M
def DrA (o:RD) (d:Option (List Bool)) (l:List CI) (bs:List Mo) (s:DS):Prop:=okD o fun v M=> @Dr X fr l (bs.map (zcz d)) (zY d v s) M
def DrR (op:COp) (o:RD) (rs:List Nat) (ns:List (List Bool)) (d:Option (List Bool)) (lo:Nat) (l:List CI) (bs:List Mo) (s:DS) (M:VM):Prop:=match bs with
 | []=>False
 |x::r=>okD o fun v _=>(rdAt rs ns M x∨rdAlt op ns s v x)∧rdOk op rs ns s v M lo r∧zjH (x::r) v=true∧ @Dr X fr l (x::ziR lo d r) (zY d v s) M
def DrB (op:COp) (b:Bool) (o:RD) (rs:List Nat) (ns:List (List Bool)) (d:Option (List Bool)) (lo:Nat) (l:List CI) (bs:List Mo) (s:DS) (M:VM):Prop:=match b with
 |true=>match bs with
  | []=>False
  |_::_=>okD o fun v _=> @Dr X fr l bs (zY d v s) M
 |false=> @DrR X fr op o rs ns d lo l bs s M
def frB (bs:List Mo) (e:Option DV):Bool:=match bs with
 | []=>false
 |x::_=>match e with
  |some (.ms j _ _ _)=>qt x.M.next j
  |_=>false
def DrG (g:Option Bool) (o:CI) (l:List CI) (bs:List Mo) (s:DS) (M:VM):Prop:=ofD g fun b=>match b with
 |true=> @Dr X fr (⟨o.dst,o.op,none,o.lo⟩::l) bs s M
 |false=>if isW o.op=true then @DW X fr o.dst l bs s (.tup []) M else if isRd o.op=true then @Dr X fr l (bs.map (zhg (zf o.op) o.dst)) (zY o.dst (.tup []) s) M else if isFl o.op=true then @Dr X fr l (bs.map (zhg (zf o.op) o.dst)) (zY o.dst (.tup []) s) M else @Dr X fr l (bs.map (zcz o.dst)) (zY o.dst (.tup []) s) M
end
section
variable {X:RnD} {fr:FrC} {K:KD} {s:DS} {M:VM} {d:Option (List Bool)} {l:List CI} {lo:Nat} {bs:List Mo}
@[simp] theorem Cd_draw (l:List CI): @Cd X fr (.draw l) s M= @Dr X fr l [⟨0,M,[]⟩] s M:=by
  show zda X l _ s M (@kf X fr).nrm (fun v M=>(@kf X fr).pan v [] M)=zda X l _ s M (@kf X fr).nrm fun v M=>fr.K.pan v [] M;rw[KF_pan]
@[simp] theorem Dr_nil: @Dr X fr [] bs s M= @Nx X fr s M:=id rfl
@[simp] theorem DW_eq (v:DV): @DW X fr d l bs s v M= @Dr X fr l (⟨zj3 bs,M,[]⟩::bs.map (zcz d)) (zY d v s) M:=id rfl
@[simp] theorem DrW_some (v:DV) (M':VM): @DrW X fr (some (v,M')) d l bs s= @Dr X fr l (⟨zj3 bs,M',[]⟩::bs.map (zcz d)) (zY d v s) M':=id rfl
@[simp] theorem DrC_some (f:DV) (as:List DV): @DrC X fr (some f) (some as) d l bs s M=X.call f as M (@DW X fr d l bs s) (@DP X fr l bs s M):=id rfl
@[simp] theorem DrF_some (ns:List (List Bool)) (v:DV) (M':VM): @DrF X fr (some (v,M')) ns d l bs s= @Dr X fr l (bs.map (zhg ns d)) (zY d v s) M':=id rfl
@[simp] theorem DrA_some (v:DV) (M':VM): @DrA X fr (some (v,M')) d l bs s= @Dr X fr l (bs.map (zcz d)) (zY d v s) M':=id rfl
@[simp] theorem DrR_some (op:COp) (v:DV) (M':VM) (rs:List Nat) (ns:List (List Bool)) (x:Mo) (r:List Mo): @DrR X fr op (some (v,M')) rs ns d lo l (x::r) s M=((rdAt rs ns M x∨rdAlt op ns s v x)∧rdOk op rs ns s v M lo r∧zjH (x::r) v=true∧ @Dr X fr l (x::ziR lo d r) (zY d v s) M):=id rfl
@[simp] theorem DrG_true (o:CI): @DrG X fr (some true) o l bs s M= @Dr X fr (⟨o.dst,o.op,none,o.lo⟩::l) bs s M:=id rfl
@[simp] theorem DrG_false (o:CI): @DrG X fr (some false) o l bs s M=if isW o.op=true then @DW X fr o.dst l bs s (.tup []) M else if isRd o.op=true then @Dr X fr l (bs.map (zhg (zf o.op) o.dst)) (zY o.dst (.tup []) s) M else if isFl o.op=true then @Dr X fr l (bs.map (zhg (zf o.op) o.dst)) (zY o.dst (.tup []) s) M else @Dr X fr l (bs.map (zcz o.dst)) (zY o.dst (.tup []) s) M:=id rfl
@[simp] theorem Dr_guard (op:COp) (g:List Bool×Bool): @Dr X fr (⟨d,op,some g,lo⟩::l) bs s M= @DrG X fr (wantD (some g) s) ⟨d,op,some g,lo⟩ l bs s M:=by
  unfold Dr
  conv=>lhs;unfold zda
  cases hw:isW op with
  |true=>
   show zhQ X _ s M _ _=_;unfold zhQ DrG;dsimp only
   congr 1;funext b
   cases b with
   |true=>show _= @Dr X fr _ _ _ _;unfold Dr;(conv=>rhs;unfold zda;rw[hw]);rfl
   |false=>dsimp only;rw[hw];rfl
  |false=>
   cases hr:isRd op with
   |true=>
    unfold DrG;dsimp only
    congr 1;funext b
    cases b with
    |true=>show _= @Dr X fr _ _ _ _;unfold Dr;(conv=>rhs;unfold zda;rw[hw,hr]);rfl
    |false=>dsimp only;rw[hw,hr];rfl
   |false=>
    cases hf:isFl op with
    |true=>
     show zhQ X _ s M _ _=_;unfold zhQ DrG;dsimp only
     congr 1;funext b
     cases b with
     |true=>show _= @Dr X fr _ _ _ _;unfold Dr;(conv=>rhs;unfold zda;rw[hw,hr,hf]);rfl
     |false=>dsimp only;rw[hw,hr,hf];rfl
    |false=>
     show zhQ X _ s M _ _=_;unfold zhQ DrG;dsimp only
     congr 1;funext b
     cases b with
     |true=>show _= @Dr X fr _ _ _ _;unfold Dr;(conv=>rhs;unfold zda;rw[hw,hr,hf]);rfl
     |false=>dsimp only;rw[hw,hr,hf];rfl
@[simp] theorem Dr_call (f:CO) (as:List CO): @Dr X fr (⟨d,.call f as,none,lo⟩::l) bs s M= @DrC X fr (evD s f) (evDL s as) d l bs s M:=id rfl
@[simp] theorem Dr_mv (x:CO): @Dr X fr (⟨d,.mv x,none,lo⟩::l) bs s M= @DrF X fr (opD (.mv x) s M) (zf (.mv x)) d l bs s:=id rfl
@[simp] theorem Dr_pick (c a b:CO): @Dr X fr (⟨d,.pick c a b,none,lo⟩::l) bs s M= @DrF X fr (opD (.pick c a b) s M) (zf (.pick c a b)) d l bs s:=id rfl
@[simp] theorem Dr_build (z:List Value) (ps:List (Nat×Nat×CO)): @Dr X fr (⟨d,.build z ps,none,lo⟩::l) bs s M= @DrF X fr (opD (.build z ps) s M) (zf (.build z ps)) d l bs s:=id rfl
@[simp] theorem Dr_load1 (a:CO): @Dr X fr (⟨d,.load1 a,none,lo⟩::l) bs s M= @DrR X fr (.load1 a) (opD (.load1 a) s M) (zca s (.load1 a)) (zf (.load1 a)) d lo l bs s M:=by cases bs<;>rfl
@[simp] theorem Dr_loadN (n:Nat) (a:CO): @Dr X fr (⟨d,.loadN n a,none,lo⟩::l) bs s M= @DrR X fr (.loadN n a) (opD (.loadN n a) s M) (zca s (.loadN n a)) (zf (.loadN n a)) d lo l bs s M:=by cases bs<;>rfl
@[simp] theorem Dr_store (n:Nat) (a x:CO): @Dr X fr (⟨d,.store n a x,none,lo⟩::l) bs s M= @DrW X fr (opD (.store n a x) s M) d l bs s:=id rfl
@[simp] theorem Dr_nilc (x:CO): @Dr X fr (⟨d,.nilCheck x,none,lo⟩::l) bs s M= @DrF X fr (opD (.nilCheck x) s M) (zf (.nilCheck x)) d l bs s:=id rfl
@[simp] theorem Dr_bin (op:BinOp) (ek:EK) (x y:CO): @Dr X fr (⟨d,.bin op ek x y,none,lo⟩::l) bs s M= @DrF X fr (opD (.bin op ek x y) s M) (zf (.bin op ek x y)) d l bs s:=id rfl
@[simp] theorem Dr_un (op:UnOp) (x:CO): @Dr X fr (⟨d,.un op x,none,lo⟩::l) bs s M= @DrF X fr (opD (.un op x) s M) (zf (.un op x)) d l bs s:=id rfl
@[simp] theorem Dr_makeFunc (g:Fn) (a b:List CO): @Dr X fr (⟨d,.makeFunc g a b,none,lo⟩::l) bs s M= @DrF X fr (opD (.makeFunc g a b) s M) (zf (.makeFunc g a b)) d l bs s:=id rfl
@[simp] theorem Dr_slice (n:Nat) (x:CO) (lo' hi:Option CO): @Dr X fr (⟨d,.slice n x lo' hi,none,lo⟩::l) bs s M= @DrR X fr (.slice n x lo' hi) (opD (.slice n x lo' hi) s M) (zca s (.slice n x lo' hi)) (zf (.slice n x lo' hi)) d lo l bs s M:=by cases bs<;>rfl
@[simp] theorem Dr_fieldAddr (n:Nat) (x:CO): @Dr X fr (⟨d,.fieldAddr n x,none,lo⟩::l) bs s M= @DrF X fr (opD (.fieldAddr n x) s M) (zf (.fieldAddr n x)) d l bs s:=id rfl
@[simp] theorem Dr_indexAddr (n:Nat) (x i:CO): @Dr X fr (⟨d,.indexAddr n x i,none,lo⟩::l) bs s M= @DrF X fr (opD (.indexAddr n x i) s M) (zf (.indexAddr n x i)) d l bs s:=id rfl
@[simp] theorem Dr_lookup (kk:KK) (z:Value) (ok:Bool) (x i:CO): @Dr X fr (⟨d,.lookup kk z ok x i,none,lo⟩::l) bs s M= @DrR X fr (.lookup kk z ok x i) (opD (.lookup kk z ok x i) s M) (zca s (.lookup kk z ok x i)) (zf (.lookup kk z ok x i)) d lo l bs s M:=by cases bs<;>rfl
@[simp] theorem Dr_mapUpdate (kk:KK) (m i x:CO): @Dr X fr (⟨d,.mapUpdate kk m i x,none,lo⟩::l) bs s M= @DrW X fr (opD (.mapUpdate kk m i x) s M) d l bs s:=id rfl
@[simp] theorem Dr_extract (x:CO) (i:Nat): @Dr X fr (⟨d,.extract x i,none,lo⟩::l) bs s M= @DrF X fr (opD (.extract x i) s M) (zf (.extract x i)) d l bs s:=id rfl
@[simp] theorem Dr_strIdx (x i:CO): @Dr X fr (⟨d,.strIdx x i,none,lo⟩::l) bs s M= @DrF X fr (opD (.strIdx x i) s M) (zf (.strIdx x i)) d l bs s:=id rfl
@[simp] theorem Dr_strSlice (x:CO) (lo' hi:Option CO): @Dr X fr (⟨d,.strSlice x lo' hi,none,lo⟩::l) bs s M= @DrF X fr (opD (.strSlice x lo' hi) s M) (zf (.strSlice x lo' hi)) d l bs s:=id rfl
@[simp] theorem Dr_s2b (x:CO): @Dr X fr (⟨d,.s2b x,none,lo⟩::l) bs s M= @DrW X fr (opD (.s2b x) s M) d l bs s:=id rfl
@[simp] theorem frB_ms (x:Mo) (r:List Mo) (j a b c:Nat):frB (x::r) (some (.ms j a b c))=decide (x.M.next≤j):=by show qt _ _=_;rw[Bool.eq_iff_iff];simp
@[simp] theorem DrB_false (op:COp) (o:RD) (rs:List Nat) (ns:List (List Bool)): @DrB X fr op false o rs ns d lo l bs s M= @DrR X fr op o rs ns d lo l bs s M:=id rfl
@[simp] theorem Dr_b2s (x:CO): @Dr X fr (⟨d,.b2s x,none,lo⟩::l) bs s M= @DrB X fr (.b2s x) (frB bs (evD s x)) (opD (.b2s x) s M) (zca s (.b2s x)) (zf (.b2s x)) d lo l bs s M:=by cases bs<;>rfl
@[simp] theorem Dr_fld (n:Nat) (m:Option Nat) (x:CO): @Dr X fr (⟨d,.fld n m x,none,lo⟩::l) bs s M= @DrF X fr (opD (.fld n m x) s M) (zf (.fld n m x)) d l bs s:=id rfl
@[simp] theorem Dr_alloc (z:List Value): @Dr X fr (⟨d,.alloc z,none,lo⟩::l) bs s M= @DrA X fr (opD (.alloc z) s M) d l bs s:=id rfl
@[simp] theorem Dr_buildSlice (len size:Nat) (z:List Value) (ps:List (Nat×CO)): @Dr X fr (⟨d,.buildSlice len size z ps,none,lo⟩::l) bs s M= @DrA X fr (opD (.buildSlice len size z ps) s M) d l bs s:=id rfl
@[simp] theorem Dr_append (s' b:Nat) (as:List CO): @Dr X fr (⟨d,.blt (.append s' b) as,none,lo⟩::l) bs s M= @DrW X fr (opD (.blt (.append s' b) as) s M) d l bs s:=id rfl
end
end
end
section
noncomputable section
attribute [simp] List.getElem?_cons_zero List.getElem?_cons_succ List.getElem?_eq_getElem
def rdV (M:VM):Option DV→RD
 |some d=>some (d,M)
 |none=>none
@[simp] theorem rdV_some (M:VM) (d:DV):rdV M (some d)=some (d,M):=id rfl
theorem zci (M:VM) (o:Option DV):o.map (fun d=>(d,M))=rdV M o:=by cases o<;>rfl
def rowO (M:VM):Option DV→Option (List DV)
 |some d=>zcP M d
 |none=>none
def rowI (off:Nat):Option (List DV)→Option (List DV)
 |some r=>some (r.drop off)
 |none=>none
def rowJ (i off:Nat):Option MO→Option (List DV)
 |some (.rows _ _ rs)=>rowI off (rs[i]?)
 |_=>none
@[simp] theorem rowO_some (M:VM) (d:DV):rowO M (some d)=zcP M d:=id rfl
@[simp] theorem rowI_some (off:Nat) (r:List DV):rowI off (some r)=some (r.drop off):=id rfl
@[simp] theorem rowJ_some (i off:Nat) (op:Bool) (sz:Nat) (rs:List (List DV)):rowJ i off (some (.rows op sz rs))=rowI off (rs[i]?):=id rfl
@[simp] theorem rowOf_ptr (M:VM) (j i off:Nat):zcP M (.ptr j i off)=rowJ i off (M.obj j):=by
  show(M.obj j).bind _=_;cases M.obj j with
  |none=>rfl
  |some o=>cases o<;>first|rfl| (show(Option.map _ _)=rowI off _;rename_i rs;cases rs[i]?<;>rfl)
@[simp] theorem rowOf_pl (M:VM) (s:Nat) (rows:List (List DV)) (i off:Nat):zcP M (.pl s rows i off)=rowI off (rows[i]?):=by
  show(Option.map _ _)=rowI off _;cases rows[i]?<;>rfl
def ld1:Option (List DV)→Option DV
 |some r=>oneD r
 |none=>none
def ldN (n:Nat):Option (List DV)→Option DV
 |some r=>(zcZ n r).map .agg
 |none=>none
@[simp] theorem ld1_some (r:List DV):ld1 (some r)=oneD r:=id rfl
@[simp] theorem ldN_some (n:Nat) (r:List DV):ldN n (some r)=(zcZ n r).map .agg:=id rfl
@[simp] theorem oneD_cons (v:DV) (r:List DV):oneD (v::r)=some v:=id rfl
@[simp] theorem takeD_zero (l:List DV):zcZ 0 l=some []:=by cases l<;>rfl
@[simp] theorem takeD_succ (n:Nat) (v:DV) (r:List DV):zcZ (n+1) (v::r)=(zcZ n r).map (v:: ·):=id rfl
def f1 (f:DV→Option DV):Option DV→Option DV
 |some d=>f d
 |none=>none
@[simp] theorem f1_some (f:DV→Option DV) (d:DV):f1 f (some d)=f d:=id rfl
def f2 (f:DV→DV→Option DV):Option DV→Option DV→Option DV
 |some a,some b=>f a b
 |_,_=>none
@[simp] theorem f2_some (f:DV→DV→Option DV) (a b:DV):f2 f (some a) (some b)=f a b:=id rfl
def pkO:Option DV→Option DV→Option DV→Option DV
 |some c,a,b=>pickD a b c
 |none,_,_=>none
@[simp] theorem pkO_true (a b:Option DV):pkO (some (.bool true)) a b=a:=id rfl
@[simp] theorem pkO_false (a b:Option DV):pkO (some (.bool false)) a b=b:=id rfl
def stW (M:VM) (j i:Nat) (op:Bool) (sz:Nat) (rs:List (List DV)):Option (List DV)→Option VM
 |some r=>some (M.put j (.rows op sz (rs.set i r)))
 |none=>none
def stI (n:Nat) (M:VM) (xs:List DV) (j i off:Nat) (op:Bool) (sz:Nat) (rs:List (List DV)):Option (List DV)→Option VM
 |some r=>if xs.length=n∧0<n∧xs.all zj=true then stW M j i op sz rs (zp r off xs) else none
 |none=>none
def stJ (n:Nat) (M:VM) (xs:List DV) (j i off:Nat):Option MO→Option VM
 |some (.rows op sz rs)=>stI n M xs j i off op sz rs (rs[i]?)
 |_=>none
@[simp] theorem stW_some (M:VM) (j i:Nat) (op:Bool) (sz:Nat) (rs:List (List DV)) (r:List DV):stW M j i op sz rs (some r)=some (M.put j (.rows op sz (rs.set i r))):=id rfl
@[simp] theorem stI_some (n:Nat) (M:VM) (xs:List DV) (j i off:Nat) (op:Bool) (sz:Nat) (rs:List (List DV)) (r:List DV):stI n M xs j i off op sz rs (some r)=if xs.length=n∧0<n∧xs.all zj=true then stW M j i op sz rs (zp r off xs) else none:=id rfl
@[simp] theorem stJ_some (n:Nat) (M:VM) (xs:List DV) (j i off:Nat) (op:Bool) (sz:Nat) (rs:List (List DV)):stJ n M xs j i off (some (.rows op sz rs))=stI n M xs j i off op sz rs (rs[i]?):=id rfl
@[simp] theorem storeD_ptr (n:Nat) (M:VM) (x:DV) (j i off:Nat):zfs n M x (.ptr j i off)=stJ n M (zr x) j i off (M.obj j):=by
  show(M.obj j).bind _=_;cases M.obj j with
  |none=>rfl
  |some o=>cases o with
   |rows op sz rs=>
    show(rs[i]?).bind _=stI n M (zr x) j i off op sz rs (rs[i]?);cases rs[i]? with
    |none=>rfl
    |some r=>
     show(if _ then _ else _)=(if _ then _ else _)
     congr 1
     cases zp r off (zr x)<;>rfl
   |_=>rfl
def stR:Option VM→RD
 |some M=>some (.tup [],M)
 |none=>none
@[simp] theorem stR_some (M:VM):stR (some M)=some (.tup [],M):=id rfl
def stO (n:Nat) (M:VM):Option DV→Option DV→RD
 |some a,some x=>stR (zfs n M x a)
 |_,_=>none
@[simp] theorem stO_some (n:Nat) (M:VM) (a x:DV):stO n M (some a) (some x)=stR (zfs n M x a):=id rfl
def bxO (M:VM):Option DV→RD
 |some v=>some (.ptr M.next 0 0,M.new (.rows false (zr v).length [zr v]))
 |none=>none
@[simp] theorem bxO_some (M:VM) (v:DV):bxO M (some v)=some (.ptr M.next 0 0,M.new (.rows false (zr v).length [zr v])):=id rfl
def alO (M:VM):Option (List DV)→RD
 |some z=>some (.ptr M.next 0 0,M.new (.rows false z.length [z]))
 |none=>none
@[simp] theorem alO_some (M:VM) (z:List DV):alO M (some z)=some (.ptr M.next 0 0,M.new (.rows false z.length [z])):=id rfl
def bdO:Option (List DV)→Option (List (Nat×Nat×DV))→Option DV
 |some z,some l=>(zij z l).map .agg
 |_,_=>none
@[simp] theorem bdO_some (z:List DV) (l:List (Nat×Nat×DV)):bdO (some z) (some l)=(zij z l).map .agg:=id rfl
def msR (M:VM) (len size:Nat):Option (List (List DV))→RD
 |some rows=>some (.ms M.next 0 len len,M.new (.rows false size rows))
 |none=>none
@[simp] theorem msR_some (M:VM) (len size:Nat) (rows:List (List DV)):msR M len size (some rows)=some (.ms M.next 0 len len,M.new (.rows false size rows)):=id rfl
def bsO (M:VM) (len size:Nat):Option (List DV)→Option (List (Nat×DV))→RD
 |some z,some l=>if z.length=size∧len<zc then msR M len size (zc0 size (qu len z) l) else none
 |_,_=>none
@[simp] theorem bsO_some (M:VM) (len size:Nat) (z:List DV) (l:List (Nat×DV)):bsO M len size (some z) (some l)=if z.length=size∧len<zc then msR M len size (zc0 size (qu len z) l) else none:=id rfl
def fnO (g:Fn) (M:VM):Option (List DV)→Option (List DV)→RD
 |some a,some b=>match g with|.func g=>some (.fn g a b,M)|_=>none
 |_,_=>none
@[simp] theorem fnO_some (g:Nat) (M:VM) (a b:List DV):fnO (.func g) M (some a) (some b)=some (.fn g a b,M):=id rfl
def slO (n:Nat) (M:VM):Option DV→Option (Option DV)→Option (Option DV)→Option DV
 |some v,some lo,some hi=>sliceD n M lo hi v
 |_,_,_=>none
@[simp] theorem slO_some (n:Nat) (M:VM) (v:DV) (lo hi:Option DV):slO n M (some v) (some lo) (some hi)=sliceD n M lo hi v:=id rfl
def lkE (kk:KK) (z:DV) (ok:Bool) (k:DV):Option (List (DV×DV))→Option DV
 |some es=>match zD kk k k with|some _=>(zes kk k es).map (zbw z ok)|none=>none
 |none=>none
def lkO (kk:KK) (ok:Bool) (M:VM):Option DV→Option DV→Option DV→Option DV
 |some m,some k,some z=>lkE kk z ok k (z9 M m)
 |_,_,_=>none
@[simp] theorem lkO_some (kk:KK) (ok:Bool) (M:VM) (m k z:DV):lkO kk ok M (some m) (some k) (some z)=lkE kk z ok k (z9 M m):=id rfl
def muO (kk:KK) (M:VM):Option DV→Option DV→Option DV→RD
 |some m,some k,some x=>stR (updD kk M k x m)
 |_,_,_=>none
@[simp] theorem muO_some (kk:KK) (M:VM) (m k x:DV):muO kk M (some m) (some k) (some x)=stR (updD kk M k x m):=id rfl
def exV (i:Nat):DV→Option DV
 |.tup l=>l[i]?
 |_=>none
@[simp] theorem exV_tup (i:Nat) (l:List DV):exV i (.tup l)=l[i]?:=id rfl
def ssO:Option DV→Option (Option DV)→Option (Option DV)→Option DV
 |some v,some lo,some hi=>zcn lo hi v
 |_,_,_=>none
@[simp] theorem ssO_some (v:DV) (lo hi:Option DV):ssO (some v) (some lo) (some hi)=zcn lo hi v:=id rfl
def blO (b:CB) (M:VM):Option (List DV)→RD
 |some l=>bltD M b l
 |none=>none
@[simp] theorem blO_some (b:CB) (M:VM) (l:List DV):blO b M (some l)=bltD M b l:=id rfl
def ifV (t:TypeId) (d:DV):Option DV:=some (.ifc t d)
@[simp] theorem ifV_eq (t:TypeId) (d:DV):ifV t d=some (.ifc t d):=id rfl
def s2bD:DV→Option DV
 |.str b=>some (.bs b)
 |_=>none
@[simp] theorem s2bD_str (b:ByteArray):s2bD (.str b)=some (.bs b):=id rfl
section
variable {s:DS} {M:VM}
@[simp] theorem opD_mv (x:CO):opD (.mv x) s M=rdV M (evD s x):=zci _ _
@[simp] theorem opD_pick (c a b:CO):opD (.pick c a b) s M=rdV M (pkO (evD s c) (evD s a) (evD s b)):=by
  show(evD s c).bind _=_;cases evD s c<;>first|rfl|exact zci _ _
@[simp] theorem opD_build (z:List Value) (ps:List (Nat×Nat×CO)):opD (.build z ps) s M=rdV M (bdO (dOfL z) (zhb s ps)):=by
  show(dOfL z).bind _=_;cases dOfL z with
  |none=>rfl
  |some z=>show(zhb s ps).bind _=_;cases zhb s ps with
   |none=>rfl
   |some l=>show(zij z l).map _=rdV M ((zij z l).map .agg);cases zij z l<;>rfl
@[simp] theorem opD_load1 (a:CO):opD (.load1 a) s M=rdV M (ld1 (rowO M (evD s a))):=by
  show(evD s a).bind _=_;cases evD s a with
  |none=>rfl
  |some a=>show(zcP M a).bind _=rdV M (ld1 (zcP M a));cases zcP M a with
   |none=>rfl
   |some r=>exact zci _ _
@[simp] theorem opD_loadN (n:Nat) (a:CO):opD (.loadN n a) s M=rdV M (ldN n (rowO M (evD s a))):=by
  show(evD s a).bind _=_;cases evD s a with
  |none=>rfl
  |some a=>show(zcP M a).bind _=rdV M (ldN n (zcP M a));cases zcP M a with
   |none=>rfl
   |some r=>show(zcZ n r).map _=rdV M ((zcZ n r).map .agg);cases zcZ n r<;>rfl
@[simp] theorem opD_store (n:Nat) (a x:CO):opD (.store n a x) s M=stO n M (evD s a) (evD s x):=by
  show(evD s a).bind _=_;cases evD s a with
  |none=>rfl
  |some a=>show(evD s x).bind _=_;cases evD s x with
   |none=>rfl
   |some x=>show(zfs n M x a).map _=stR (zfs n M x a);cases zfs n M x a<;>rfl
@[simp] theorem opD_nil (x:CO):opD (.nilCheck x) s M=rdV M (f1 nilD (evD s x)):=by
  show(evD s x).bind _=_;cases evD s x<;>first|rfl|exact zci _ _
@[simp] theorem opD_bin (op:BinOp) (ek:EK) (x y:CO):opD (.bin op ek x y) s M=rdV M (f2 (binD op ek) (evD s x) (evD s y)):=by
  show(evD s x).bind _=_;cases evD s x with
  |none=>rfl
  |some a=>show(evD s y).bind _=_;cases evD s y<;>first|rfl|exact zci _ _
@[simp] theorem opD_un (op:UnOp) (x:CO):opD (.un op x) s M=rdV M (f1 (unD op) (evD s x)):=by
  show(evD s x).bind _=_;cases evD s x<;>first|rfl|exact zci _ _
@[simp] theorem opD_conv (k:IntKind) (x:CO):opD (.conv k x) s M=rdV M (f1 (zkw k) (evD s x)):=by
  show(evD s x).bind _=_;cases evD s x<;>first|rfl|exact zci _ _
@[simp] theorem opD_makeFunc (g:Fn) (a b:List CO):opD (.makeFunc g a b) s M=fnO g M (evDL s a) (evDL s b):=by
  cases g with
  |func g=>
   show(evDL s a).bind _=_;cases evDL s a with
   |none=>rfl
   |some a=>show(evDL s b).map _=_;cases evDL s b<;>rfl
  |_=>unfold opD fnO;cases evDL s a<;>cases evDL s b<;>rfl
@[simp] theorem opD_slice (n:Nat) (x:CO) (lo hi:Option CO):opD (.slice n x lo hi) s M=rdV M (slO n M (evD s x) (evDO s lo) (evDO s hi)):=by
  show(evD s x).bind _=_;cases evD s x with
  |none=>rfl
  |some v=>show(evDO s lo).bind _=_;cases evDO s lo with
   |none=>rfl
   |some lo=>show(evDO s hi).bind _=_;cases evDO s hi<;>first|rfl|exact zci _ _
@[simp] theorem opD_fieldAddr (n:Nat) (x:CO):opD (.fieldAddr n x) s M=rdV M (f1 (offD n) (evD s x)):=by
  show(evD s x).bind _=_;cases evD s x<;>first|rfl|exact zci _ _
@[simp] theorem opD_indexAddr (n:Nat) (x i:CO):opD (.indexAddr n x i) s M=rdV M (f2 (ziV n M) (evD s i) (evD s x)):=by
  show(evD s x).bind _=_;cases evD s x with
  |none=>cases evD s i<;>rfl
  |some a=>show(evD s i).bind _=_;cases evD s i<;>first|rfl|exact zci _ _
@[simp] theorem opD_lookup (kk:KK) (z:Value) (ok:Bool) (x i:CO):opD (.lookup kk z ok x i) s M=rdV M (lkO kk ok M (evD s x) (evD s i) (dOf z)):=by
  show(evD s x).bind _=_;cases evD s x with
  |none=>rfl
  |some m=>show(evD s i).bind _=_;cases evD s i with
   |none=>rfl
   |some k=>show(dOf z).bind _=_;cases dOf z with
    |none=>rfl
    |some z=>
     show(zD kk k k).bind _=rdV M (lkE kk z ok k (z9 M m));cases hk:zD kk k k with
     |none=>cases z9 M m<;>simp[lkE,hk,rdV]
     |some b=>
      show(z9 M m).bind _=_;cases z9 M m with
      |none=>rfl
      |some es=>
       simp only[lkE,hk];show(zes kk k es).map _=rdV M ((zes kk k es).map _);cases zes kk k es<;>rfl
@[simp] theorem opD_mapUpdate (kk:KK) (m i x:CO):opD (.mapUpdate kk m i x) s M=muO kk M (evD s m) (evD s i) (evD s x):=by
  show(evD s m).bind _=_;cases evD s m with
  |none=>rfl
  |some m=>show(evD s i).bind _=_;cases evD s i with
   |none=>rfl
   |some k=>show(evD s x).bind _=_;cases evD s x with
    |none=>rfl
    |some x=>show(updD kk M k x m).map _=stR (updD kk M k x m);cases updD kk M k x m<;>rfl
@[simp] theorem opD_extract (x:CO) (i:Nat):opD (.extract x i) s M=rdV M (f1 (exV i) (evD s x)):=by
  show(evD s x).bind _=_;cases evD s x with
  |none=>rfl
  |some v=>cases v<;>first|rfl|exact zci _ _
@[simp] theorem opD_strIdx (x i:CO):opD (.strIdx x i) s M=rdV M (f2 strIdxD (evD s x) (evD s i)):=by
  show(evD s x).bind _=_;cases evD s x with
  |none=>rfl
  |some a=>show(evD s i).bind _=_;cases evD s i<;>first|rfl|exact zci _ _
@[simp] theorem opD_mkI (t:TypeId) (x:CO):opD (.mkI t x) s M=rdV M (f1 (ifV t) (evD s x)):=by
  show(evD s x).map _=_;cases evD s x<;>rfl
@[simp] theorem opD_strSlice (x:CO) (lo hi:Option CO):opD (.strSlice x lo hi) s M=rdV M (ssO (evD s x) (evDO s lo) (evDO s hi)):=by
  show(evD s x).bind _=_;cases evD s x with
  |none=>rfl
  |some v=>show(evDO s lo).bind _=_;cases evDO s lo with
   |none=>rfl
   |some lo=>show(evDO s hi).bind _=_;cases evDO s hi<;>first|rfl|exact zci _ _
@[simp] theorem opD_s2b (x:CO):opD (.s2b x) s M=rdV M (f1 s2bD (evD s x)):=by
  show(evD s x).bind _=_;cases evD s x with
  |none=>rfl
  |some v=>cases v<;>rfl
@[simp] theorem opD_b2s (x:CO):opD (.b2s x) s M=rdV M (f1 (b2sD M) (evD s x)):=by
  show(evD s x).bind _=_;cases evD s x<;>first|rfl|exact zci _ _
@[simp] theorem opD_fld (n:Nat) (m:Option Nat) (x:CO):opD (.fld n m x) s M=rdV M (f1 (fldD n m) (evD s x)):=by
  show(evD s x).bind _=_;cases evD s x<;>first|rfl|exact zci _ _
@[simp] theorem opD_box (x:CO):opD (.box x) s M=bxO M (evD s x):=by
  show(evD s x).map _=_;cases evD s x<;>rfl
@[simp] theorem opD_alloc (z:List Value):opD (.alloc z) s M=alO M (dOfL z):=by
  show(dOfL z).map _=_;cases dOfL z<;>rfl
@[simp] theorem opD_makeMap:opD .makeMap s M=some (.map M.next,M.new (.map [])):=id rfl
@[simp] theorem opD_buildSlice (len size:Nat) (z:List Value) (ps:List (Nat×CO)):opD (.buildSlice len size z ps) s M=bsO M len size (dOfL z) (zeV s ps):=by
  show(dOfL z).bind _=_;cases dOfL z with
  |none=>rfl
  |some z=>
   show(if z.length=size∧len<zc then(zeV s ps).bind _ else none)=_;cases zeV s ps with
   |none=>split<;>rfl
   |some l=>
    show _=(if z.length=size∧len<zc then msR M len size (zc0 size (qu len z) l) else none)
    split
    ·show(zc0 _ _ _).map _=_;cases zc0 size (qu len z) l<;>rfl
    ·rfl
@[simp] theorem opD_blt (b:CB) (as:List CO):opD (.blt b as) s M=blO b M (evDL s as):=by
  show(evDL s as).bind _=_;cases evDL s as<;>rfl
@[simp] theorem getS_bits (m n:Nat) (d:DV) (s:DS):getS ((bits m,d)::s) (bits n)=if m=n then some d else getS s (bits n):=by
  rw[zdq];by_cases h:m=n
  ·rw[if_pos h,if_pos (by rw[h])]
  ·rw[if_neg h,if_neg (fun e=>h (zgb e))]
@[simp] theorem evD_t (n:Nat):evD s (.t (bits n))=getS s (bits n):=id rfl
@[simp] theorem evD_int (k:IntKind) (n:Int):evD s (.c (.int k n))=some (.int k n):=id rfl
@[simp] theorem evD_bool (b:Bool):evD s (.c (.bool b))=some (.bool b):=id rfl
@[simp] theorem evD_str (b:ByteArray):evD s (.c (.string b))=some (.str b):=id rfl
@[simp] theorem evD_fc (f:Nat):evD s (.c (.func (.func f) ⟨[]⟩ ⟨[]⟩))=some (.fn f [] []):=id rfl
@[simp] theorem evD_nilS:evD s (.c (.slice none 0 0))=some .nilS:=id rfl
@[simp] theorem evD_nilP:evD s (.c (.pointer none))=some .nilP:=id rfl
@[simp] theorem evD_nilI:evD s (.c .nilIface)=some .nilI:=id rfl
@[simp] theorem dOf_int (k:IntKind) (n:Int):dOf (.int k n)=some (.int k n):=id rfl
@[simp] theorem dOf_bool (b:Bool):dOf (.bool b)=some (.bool b):=id rfl
@[simp] theorem dOf_agg (cs:List Value):dOf (.agg ⟨cs⟩)=(dOfL cs).map .agg:=id rfl
@[simp] theorem dOfL_nil:dOfL []=some []:=id rfl
@[simp] theorem dOfL_cons (v:Value) (r:List Value):dOfL (v::r)=(dOf1 v).bind fun d=>(dOfL r).map (d:: ·):=id rfl
@[simp] theorem dOf1_int (k:IntKind) (n:Int):dOf1 (.int k n)=some (.int k n):=id rfl
@[simp] theorem dOf1_bool (b:Bool):dOf1 (.bool b)=some (.bool b):=id rfl
@[simp] theorem dOf1_str (b:ByteArray):dOf1 (.string b)=some (.str b):=id rfl
@[simp] theorem dOf1_nilS:dOf1 (.slice none 0 0)=some .nilS:=id rfl
@[simp] theorem dOf1_nilM:dOf1 (.map none)=some .nilM:=id rfl
def consO:Option DV→Option (List DV)→Option (List DV)
 |some d,some l=>some (d::l)
 |_,_=>none
@[simp] theorem consO_some (d:DV) (l:List DV):consO (some d) (some l)=some (d::l):=id rfl
@[simp] theorem evDL_nil:evDL s []=some []:=id rfl
@[simp] theorem evDL_cons (x:CO) (r:List CO):evDL s (x::r)=consO (evD s x) (evDL s r):=by
  show(evD s x).bind _=_;cases evD s x<;>cases evDL s r<;>rfl
@[simp] theorem evDO_none:evDO s none=some none:=id rfl
@[simp] theorem evDO_some (x:CO):evDO s (some x)=(evD s x).map some:=id rfl
@[simp] theorem partsD_nil:zhb s []=some []:=id rfl
@[simp] theorem partsD_cons (o n:Nat) (x:CO) (r:List (Nat×Nat×CO)):zhb s ((o,n,x)::r)=(evD s x).bind fun v=>(zhb s r).map ((o,n,v):: ·):=id rfl
@[simp] theorem partsSD_nil:zeV s []=some []:=id rfl
@[simp] theorem partsSD_cons (i:Nat) (x:CO) (r:List (Nat×CO)):zeV s ((i,x)::r)=(evD s x).bind fun v=>(zeV s r).map ((i,v):: ·):=id rfl
@[simp] theorem fillD_nil (z:List DV):zij z []=some z:=id rfl
def fillR (r:List (Nat×Nat×DV)):Option (List DV)→Option (List DV)
 |some c=>zij c r
 |none=>none
@[simp] theorem fillR_some (r:List (Nat×Nat×DV)) (c:List DV):fillR r (some c)=zij c r:=id rfl
@[simp] theorem fillD_cons (z:List DV) (o n:Nat) (v:DV) (r:List (Nat×Nat×DV)):zij z ((o,n,v)::r)=if(zr v).length=n∧0<n∧(zr v).all zj=true then fillR r (zp z o (zr v)) else none:=by
  show(if _ then(zp z o (zr v)).bind _ else none)=_
  congr 1;cases zp z o (zr v)<;>rfl
@[simp] theorem setRows_nil (n:Nat) (rows:List (List DV)):zc0 n rows []=some rows:=id rfl
@[simp] theorem setRows_cons (n:Nat) (rows:List (List DV)) (i:Nat) (v:DV) (r:List (Nat×DV)):zc0 n rows ((i,v)::r)=if(zr v).length=n∧0<n∧(zr v).all zj=true∧i<rows.length then zc0 n (rows.set i (zr v)) r else none:=id rfl
@[simp] theorem writeD_n (l:List DV) (o:Nat):zp l o []=some l:=zhP l o
@[simp] theorem writeD_0 (c:DV) (l:List DV) (v:DV) (vs:List DV):zp (c::l) 0 (v::vs)=(zp l 0 vs).map (v:: ·):=id rfl
@[simp] theorem writeD_s (c:DV) (l:List DV) (n:Nat) (v:DV) (vs:List DV):zp (c::l) (n+1) (v::vs)=(zp l n (v::vs)).map (c:: ·):=id rfl
@[simp] theorem putDD_some (p:List Bool) (v:DV):zY (some p) v s=(p,v)::s:=id rfl
@[simp] theorem putDD_none (v:DV):zY none v s=s:=id rfl
def kpL (p:List Bool) (r:DS):Option DV→DS
 |some d=>(p,d)::r
 |none=>r
@[simp] theorem kpL_some (p:List Bool) (r:DS) (d:DV):kpL p r (some d)=(p,d)::r:=id rfl
@[simp] theorem keepD_nil:zbH [] s=s:=id rfl
@[simp] theorem keepD_cons (p:List Bool) (L:List (List Bool)):zbH (p::L) s=zkX s (p::L):=id rfl
@[simp] theorem keepL_nil:zkX s []=[]:=id rfl
@[simp] theorem keepL_cons (p:List Bool) (L:List (List Bool)):zkX s (p::L)=kpL p (zkX s L) (getS s p):=by
  show(match getS s p with|some d=>_|none=>_)=_;cases getS s p<;>rfl
def wtB (w:Bool):Option DV→Option Bool
 |some (.bool b)=>some (b==w)
 |some (.tup _)=>some false
 |_=>none
@[simp] theorem wtB_bool (w b:Bool):wtB w (some (.bool b))=some (b==w):=id rfl
@[simp] theorem wtB_tup (w:Bool) (l:List DV):wtB w (some (.tup l))=some false:=id rfl
@[simp] theorem wantD_some (q:List Bool) (w:Bool):wantD (some (q,w)) s=wtB w (getS s q):=by
  show(getS s q).bind _=_;cases getS s q with
  |none=>rfl
  |some d=>cases d<;>rfl
@[simp] theorem argsD_nil (i:Nat):argsD [] i s=s:=id rfl
@[simp] theorem argsD_cons (v:DV) (vs:List DV) (i:Nat):argsD (v::vs) i s=argsD vs (i+1) ((bits i,v)::s):=id rfl
def enO (k:DV→VM→Prop) (M:VM):Option (List DV)→Prop
 |some vs=>k (zjt vs) M
 |none=>False
@[simp] theorem enO_some (k:DV→VM→Prop) (M:VM) (vs:List DV):enO k M (some vs)=k (zjt vs) M:=id rfl
@[simp] theorem endD_eq (rs:List CR) (k:DV→VM→Prop):endD rs k s M=enO k M (resDL s M rs):=by
  unfold endD;cases resDL s M rs<;>rfl
@[simp] theorem resDL_nil:resDL s M []=some []:=id rfl
@[simp] theorem resDL_cons (r:CR) (rs:List CR):resDL s M (r::rs)=consO (resD s M r) (resDL s M rs):=by
  show(resD s M r).bind _=_;cases resD s M r<;>cases resDL s M rs<;>rfl
@[simp] theorem resD_tmp (p:List Bool):resD s M (.tmp p)=getS s p:=id rfl
@[simp] theorem resD_cell1 (p:List Bool):resD s M (.cell none p)=ld1 (rowO M (getS s p)):=by
  show(getS s p).bind _=_;cases getS s p with
  |none=>rfl
  |some v=>show(zcP M v).bind _=ld1 (zcP M v);cases zcP M v<;>rfl
@[simp] theorem resD_cellN (n:Nat) (p:List Bool):resD s M (.cell (some n) p)=ldN n (rowO M (getS s p)):=by
  show(getS s p).bind _=_;cases getS s p with
  |none=>rfl
  |some v=>show(zcP M v).bind _=ldN n (zcP M v);cases zcP M v<;>rfl
@[simp] theorem tupleD_one (v:DV):zjt [v]=v:=id rfl
@[simp] theorem tupleD_nil:zjt []=.tup []:=id rfl
@[simp] theorem tupleD_two (v u:DV) (l:List DV):zjt (v::u::l)=.tup (v::u::l):=id rfl
end
section
variable {M:VM}
@[simp] theorem new_next (o:MO):(M.new o).next=M.next+1:=id rfl
@[simp] theorem put_next (j:Nat) (o:MO):(M.put j o).next=M.next+1:=id rfl
@[simp] theorem del_next (j:Nat):(M.del j).next=M.next:=id rfl
@[simp low] theorem zdm (o:MO) (i:Nat):(M.new o).obj i=if i=M.next then some o else M.obj i:=by
  unfold VM.obj VM.new;dsimp only;by_cases h:i=M.next<;>simp[h]
@[simp low] theorem zO (o:MO) (j i:Nat):(M.put j o).obj i=if i=j then some o else M.obj i:=by
  unfold VM.obj VM.put;dsimp only;by_cases h:i=j<;>simp[h]
@[simp] theorem obj_new_eq (o:MO):(M.new o).obj M.next=some o:=by rw[zdm,if_pos rfl]
@[simp] theorem obj_new_ne {o:MO} {i:Nat} (h:i≠M.next):(M.new o).obj i=M.obj i:=by rw[zdm,if_neg h]
@[simp] theorem obj_put_eq (o:MO) (j:Nat):(M.put j o).obj j=some o:=by rw[zO,if_pos rfl]
@[simp] theorem obj_put_ne {o:MO} {j i:Nat} (h:i≠j):(M.put j o).obj i=M.obj i:=by rw[zO,if_neg h]
@[simp] theorem get_new_lt {o:MO} {i:Nat} (h:i<M.next):(M.new o).get i=M.get i:=by rw[get_new,if_neg (by omega)]
@[simp] theorem get_new_eq {o:MO}:(M.new o).get M.next=some (o,M.next):=by rw[get_new,if_pos rfl]
@[simp] theorem get_put_ne {j:Nat} {o:MO} {i:Nat} (h:i≠j):(M.put j o).get i=M.get i:=by rw[get_put,if_neg h]
@[simp] theorem get_put_eq {j:Nat} {o:MO}:(M.put j o).get j=some (o,M.next):=by rw[get_put,if_pos rfl]
theorem zK {j:Nat} (o:MO) (h:j<M.next):(M.new o).obj j=M.obj j:=by rw[zdm,if_neg (by omega)]
@[simp] theorem offD_ptr (n j i o:Nat):offD n (.ptr j i o)=some (.ptr j i (o+n)):=id rfl
@[simp] theorem offD_pl (n s i o:Nat) (r:List (List DV)):offD n (.pl s r i o)=some (.pl s r i (o+n)):=id rfl
@[simp] theorem cellsD_agg (l:List DV):zr (.agg l)=l:=id rfl
@[simp] theorem cellsD_int (k:IntKind) (n:Int):zr (.int k n)=[.int k n]:=id rfl
@[simp] theorem cellsD_bool (b:Bool):zr (.bool b)=[.bool b]:=id rfl
@[simp] theorem cellsD_str (b:ByteArray):zr (.str b)=[.str b]:=id rfl
@[simp] theorem cellsD_lst (s:Nat) (r:List (List DV)):zr (.lst s r)=[.lst s r]:=id rfl
@[simp] theorem cellsD_map (j:Nat):zr (.map j)=[.map j]:=id rfl
@[simp] theorem cellsD_fn (g:Nat) (a c:List DV):zr (.fn g a c)=[.fn g a c]:=id rfl
@[simp] theorem isCellD_int (k:IntKind) (n:Int):zj (.int k n)=true:=id rfl
@[simp] theorem isCellD_bool (b:Bool):zj (.bool b)=true:=id rfl
@[simp] theorem isCellD_str (b:ByteArray):zj (.str b)=true:=id rfl
@[simp] theorem isCellD_lst (s:Nat) (r:List (List DV)):zj (.lst s r)=true:=id rfl
@[simp] theorem isCellD_nilS:zj .nilS=true:=id rfl
@[simp] theorem isCellD_map (j:Nat):zj (.map j)=true:=id rfl
@[simp] theorem nilD_ptr (j i o:Nat):nilD (.ptr j i o)=some (.ptr j i o):=id rfl
@[simp] theorem lenD_lst (s:Nat) (r:List (List DV)):lenD M (.lst s r)=some r.length:=id rfl
@[simp] theorem lenD_ms (j lo len cap:Nat):lenD M (.ms j lo len cap)=some len:=id rfl
def lenI (M:VM):Option Nat→RD
 |some n=>some (.int .i64 (n:Int),M)
 |none=>none
@[simp] theorem lenI_some (n:Nat):lenI M (some n)=some (.int .i64 (n:Int),M):=id rfl
@[simp] theorem bltD_len (d:DV):bltD M .len [d]=lenI M (lenD M d):=by show(lenD M d).map _=_;cases lenD M d<;>rfl
def lenE (M:VM):Option (List (DV×DV))→RD
 |some es=>some (.int .i64 (es.length:Int),M)
 |none=>none
@[simp] theorem lenE_some (es:List (DV×DV)):lenE M (some es)=some (.int .i64 (es.length:Int),M):=id rfl
@[simp] theorem bltD_lenMap (d:DV):bltD M .lenMap [d]=lenE M (z9 M d):=by show(z9 M d).map _=_;cases z9 M d<;>rfl
@[simp] theorem bltD_lenStr (s:ByteArray):bltD M .lenStr [.str s]=some (.int .i64 s.size,M):=id rfl
def apN (n b:Nat) (M:VM) (x:DV):Option (List (List DV))→RD
 |some new=>if new.all (fun r=>r.all zj)=true then zcL n b M new x else none
 |none=>none
@[simp] theorem apN_some (n b:Nat) (x:DV) (new:List (List DV)):apN n b M x (some new)=if new.all (fun r=>r.all zj)=true then zcL n b M new x else none:=id rfl
theorem bltD_append (n b:Nat) (s x:DV):bltD M (.append n b) [s,x]=if 0<n∧n<roE then apN n b M s (zbA M n x) else none:=by
 show(if _ then(zbA M n x).bind _ else none)=_
 congr 1;cases zbA M n x<;>rfl
def elO (n lo len:Nat):Option MO→Option (List (List DV))
 |some (.rows _ sz rs)=>if sz=n∧lo+len≤rs.length then some ((rs.drop lo).take len) else none
 |_=>none
@[simp] theorem elO_some (n lo len:Nat) (op:Bool) (sz:Nat) (rs:List (List DV)):elO n lo len (some (.rows op sz rs))=if sz=n∧lo+len≤rs.length then some ((rs.drop lo).take len) else none:=id rfl
@[simp] theorem elemsD_ms (n j lo len cap:Nat):zew M n (.ms j lo len cap)=elO n lo len (M.obj j):=by
  show(M.obj j).bind _=_;cases M.obj j with
  |none=>rfl
  |some o=>cases o<;>rfl
@[simp] theorem appendedD_ms (n j lo len cap:Nat):zbA M n (.ms j lo len cap)=elO n lo len (M.obj j):=elemsD_ms n j lo len cap
theorem addrD_lst (s:Nat) (k:IntKind) (z:Int) (rows:List (List DV)):ziV s M (.int k z) (.lst s rows)=if 0≤z∧z.toNat<rows.length then some (.pl s rows z.toNat 0) else none:=by
 cases z with
 |ofNat i=>show(if s=s∧i<rows.length then _ else _)=_;simp
 |negSucc i=>show none=_;rw[if_neg (by omega)]
@[simp] theorem addrD_lstN (s:Nat) (k:IntKind) (i:Nat) (rows:List (List DV)):ziV s M (.int k (i:Int)) (.lst s rows)=if i<rows.length then some (.pl s rows i 0) else none:=by
  rw[addrD_lst];simp
@[simp] theorem addrD_bsN (k:IntKind) (i:Nat) (s:ByteArray):ziV 1 M (.int k (i:Int)) (.bs s)=if i<s.size then some (.pl 1 (zlH s) i 0) else none:=by
  show(if 1=1∧i<s.size then _ else _)=_;by_cases h:i<s.size
  ·rw[if_pos ⟨rfl,h⟩,if_pos h];rfl
  ·rw[if_neg (fun x=>h x.2),if_neg h]
def adO (n:Nat) (z:Int) (j lo len:Nat):Option MO→Option DV
 |some (.rows _ sz _)=>if sz=n∧0≤z∧z.toNat<len then some (.ptr j (lo+z.toNat) 0) else none
 |_=>none
@[simp] theorem adO_some (n:Nat) (z:Int) (j lo len:Nat) (op:Bool) (sz:Nat) (rs:List (List DV)):adO n z j lo len (some (.rows op sz rs))=if sz=n∧0≤z∧z.toNat<len then some (.ptr j (lo+z.toNat) 0) else none:=id rfl
@[simp] theorem addrD_ms (n:Nat) (k:IntKind) (z:Int) (j lo len cap:Nat):ziV n M (.int k z) (.ms j lo len cap)=adO n z j lo len (M.obj j):=by
  show(M.obj j).bind _=_;cases M.obj j with
  |none=>rfl
  |some o=>cases o with
   |rows op sz rs=>
    cases z with
    |ofNat i=>show(if sz=n∧i<len then _ else _)=_;simp
    |negSucc i=>show none=_;rw[adO_some,if_neg (by omega)]
   |_=>cases z<;>rfl
theorem inD_int (y:Nat) (k:IntKind) (z:Int):inD y (.int k z)=if 0≤z∧z≤(y:Int) then some z.toNat else none:=by
 cases z with
 |ofNat i=>show(if i≤y then _ else _)=_;simp
 |negSucc i=>show none=_;rw[if_neg (by omega)]
@[simp] theorem boundD_none (d y:Nat):zl d y none=some d:=id rfl
@[simp] theorem boundD_some (d y:Nat) (k:IntKind) (z:Int):zl d y (some (.int k z))=if 0≤z∧z≤(y:Int) then some z.toNat else none:=inD_int y k z
def slL (s:Nat) (rows:List (List DV)) (lo:Option DV):Option Nat→Option DV
 |some hi=>(zl 0 hi lo).map fun lo=>.lst s ((rows.drop lo).take (hi - lo))
 |none=>none
@[simp] theorem slL_some (s:Nat) (rows:List (List DV)) (lo:Option DV) (hi:Nat):slL s rows lo (some hi)=(zl 0 hi lo).map fun lo=>.lst s ((rows.drop lo).take (hi - lo)):=id rfl
@[simp] theorem sliceD_lst (n s:Nat) (rows:List (List DV)) (lo hi:Option DV):sliceD n M lo hi (.lst s rows)=if s=n∧0<s then slL s rows lo (zl rows.length rows.length hi) else none:=by
  show(if _ then(zl _ _ hi).bind _ else none)=_
  congr 1;cases zl rows.length rows.length hi<;>rfl
def slT (j l:Nat) (lo:Option DV):Option Nat→Option DV
 |some hi=>(zl 0 hi lo).map fun lo=>.ms j (l+lo) (hi - lo) zc
 |none=>none
def slF (j l cap:Nat) (lo:Option DV):Option Nat→Option DV
 |some hi=>(zl 0 hi lo).map fun lo=>.ms j (if cap=lo then l else l+lo) (hi - lo) (cap - lo)
 |none=>none
def slM (n:Nat) (lo hi:Option DV) (j l len cap:Nat):Option MO→Option DV
 |some (.rows true sz rs)=>if sz=n∧cap=zc∧l≤rs.length then slT j l lo (zl len (rs.length - l) hi) else none
 |some (.rows false sz _)=>if sz=n∧cap<zc then slF j l cap lo (zl len cap hi) else none
 |_=>none
@[simp] theorem slM_true (n:Nat) (lo hi:Option DV) (j l len cap sz:Nat) (rs:List (List DV)):slM n lo hi j l len cap (some (.rows true sz rs))=if sz=n∧cap=zc∧l≤rs.length then slT j l lo (zl len (rs.length - l) hi) else none:=id rfl
@[simp] theorem slM_false (n:Nat) (lo hi:Option DV) (j l len cap sz:Nat) (rs:List (List DV)):slM n lo hi j l len cap (some (.rows false sz rs))=if sz=n∧cap<zc then slF j l cap lo (zl len cap hi) else none:=id rfl
@[simp] theorem sliceD_ms (n:Nat) (lo hi:Option DV) (j l len cap:Nat):sliceD n M lo hi (.ms j l len cap)=slM n lo hi j l len cap (M.obj j):=by
  show(M.obj j).bind _=_;cases M.obj j with
  |none=>rfl
  |some o=>
   cases o with
   |rows op sz rs=>
    cases op with
    |true=>
     show(if sz=n∧cap=zc∧l≤rs.length then(zl len (rs.length - l) hi).bind _ else none)=_;rw[slM_true];congr 1;cases zl len (rs.length - l) hi<;>rfl
    |false=>
     show(if sz=n∧cap<zc then(zl len cap hi).bind _ else none)=_;rw[slM_false];congr 1;cases zl len cap hi<;>rfl
   |_=>rfl
def enT:Option MO→Option (List (DV×DV))
 |some (.map es)=>some es
 |_=>none
@[simp] theorem enT_some (es:List (DV×DV)):enT (some (.map es))=some es:=id rfl
@[simp] theorem entriesD_map (j:Nat):z9 M (.map j)=enT (M.obj j):=by
  show(M.obj j).bind _=_;cases M.obj j with
  |none=>rfl
  |some o=>cases o<;>rfl
@[simp] theorem fldD_none (off:Nat) (cs:List DV):fldD off none (.agg cs)=oneD (cs.drop off):=id rfl
@[simp] theorem assertD_eq (t u:Nat) (z v:DV):zkL t z true (.ifc u v)=if u=t then some (.tup [v,.bool true]) else some (.tup [z,.bool false]):=by
  show(match qm u t,true with|true,true=>_|true,false=>_|false,true=>_|false,false=>_)=_;by_cases h:u=t
  ·subst h;rw[if_pos rfl,qf]
  ·rw[if_neg h];cases e:Nat.beq u t with
   |true=>exact absurd (qn e) h
   |false=>rfl
@[simp] theorem assertD_eq' (t u:Nat) (z v:DV):zkL t z false (.ifc u v)=if u=t then some v else none:=by
  show(match qm u t,false with|true,true=>_|true,false=>_|false,true=>_|false,false=>_)=_;by_cases h:u=t
  ·subst h;rw[if_pos rfl,qf]
  ·rw[if_neg h];cases e:Nat.beq u t with
   |true=>exact absurd (qn e) h
   |false=>rfl
end
abbrev I (n:Int):DV:=.int .i64 n
section
variable {ek:EK} {a b:Int}
theorem zfN (a b:Int):eqI a b=decide (a=b):=by rw[zhA];by_cases h:a=b<;>simp[h]
@[simp] theorem bin_lss:binD .lss ek (.int .i64 a) (.int .i64 b)=some (.bool (decide (a<b))):=by show some (DV.bool (ltI a b))=_;rw[zff]
@[simp] theorem bin_gtr:binD .gtr ek (.int .i64 a) (.int .i64 b)=some (.bool (decide (b<a))):=by show some (DV.bool (ltI b a))=_;rw[zff]
@[simp] theorem bin_leq:binD .leq ek (.int .i64 a) (.int .i64 b)=some (.bool (decide (a≤b))):=by
  show some (DV.bool (!(ltI b a)))=_;rw[zff];congr 2;by_cases h:b<a<;>simp[h]<;>omega
@[simp] theorem bin_geq:binD .geq ek (.int .i64 a) (.int .i64 b)=some (.bool (decide (b≤a))):=by
  show some (DV.bool (!(ltI a b)))=_;rw[zff];congr 2;by_cases h:a<b<;>simp[h]<;>omega
@[simp] theorem bin_eql:binD .eql ek (.int .i64 a) (.int .i64 b)=some (.bool (decide (a=b))):=by show some (DV.bool (eqI a b))=_;rw[zfN]
@[simp] theorem bin_neq:binD .neq ek (.int .i64 a) (.int .i64 b)=some (.bool (!decide (a=b))):=by show some (DV.bool (!(eqI a b)))=_;rw[zfN]
@[simp] theorem bin_add:binD .add ek (.int .i64 a) (.int .i64 b)=some (.int .i64 (ziO .i64 (a+b))):=id rfl
@[simp] theorem bin_sub:binD .sub ek (.int .i64 a) (.int .i64 b)=some (.int .i64 (ziO .i64 (a - b))):=id rfl
@[simp] theorem bin_mul:binD .mul ek (.int .i64 a) (.int .i64 b)=some (.int .i64 (ziO .i64 (a*b))):=id rfl
@[simp] theorem un_not (b:Bool):unD .not (.bool b)=some (.bool !b):=id rfl
theorem wrapF_in {n:Int} (h1: -9223372036854775808≤n) (h2:n≤9223372036854775807):ziO .i64 n=n:=by
 rw[ziX];show(if(true&&decide (n%(2^64:Int)≥(2^63:Int)))=true then n%(2^64:Int) - (2^64:Int) else n%(2^64:Int))=n;simp only[Bool.true_and,decide_eq_true_eq]
 split<;>omega
theorem zP {n:Int} (h1: -9223372036854775808≤n) (h2:n<9223372036854775808):ziO .i64 n=n:=wrapF_in h1 (by omega)
end
section
variable {F:FuncId→Option za} {n0:Nat}
@[simp] theorem rD_call (f:DV) (l:List DV) (M:VM) (k kp:DV→VM→Prop):(rD F n0).call f l M k kp=zg F f l M k kp:=id rfl
@[simp] theorem rD_loop (L:List (List Bool)) (b:CC) (K:KD) (s:DS) (M:VM):(rD F n0).loop L b K s M=zcf F n0 L b K s M:=id rfl
@[simp] theorem rD_hand (f:DV) (l:List DV) (p:Option DV) (M:VM) (k:VM→Prop):(rD F n0).hand f l p M k=HandD F f l p M k:=id rfl
end
section
variable {F:FuncId→Option za} {n0:Nat}
theorem zg.fn {g:Nat} {a c args:List DV} {M:VM} {k kp:DV→VM→Prop} {cf:za} (hF:F g=some cf) (hp:cf.prim=none) (hn:(a++args++c).length≤cf.ntmps) (h: @Cd (rD F M.next) (.base (bodyKD (rD F) cf.results k kp cf.dfr)) cf.body (argsD (a++args++c) 0 []) M):zg F (.fn g a c) args M k kp:=
 zg.func hF hp ⟨hn,h⟩
@[simp] theorem bodyKD_none (X:Nat→RnD) (rs:List CR) (k kp:DV→VM→Prop):bodyKD X rs k kp none=fnKD rs k kp:=id rfl
@[simp] theorem fnKD_ret (rs:List CR) (k kp:DV→VM→Prop) (s:DS) (M:VM):(fnKD rs k kp).ret s M=endD rs k s M:=id rfl
@[simp] theorem fnKD_nrm (rs:List CR) (k kp:DV→VM→Prop) (s:DS) (M:VM):(fnKD rs k kp).nrm s M=endD rs k s M:=id rfl
@[simp] theorem fnKD_pan (rs:List CR) (k kp:DV→VM→Prop) (v:DV) (s:DS) (M:VM):(fnKD rs k kp).pan v s M=kp v M:=id rfl
def LoK (F:FuncId→Option za) (n0:Nat) (L:List (List Bool)) (b:CC) (K:KD):KD:=⟨fun s M=>zcf F n0 L b K (zbH L s) M,K.ext,K.ret,K.pan⟩
@[simp] theorem LoK_nrm (L:List (List Bool)) (b:CC) (K:KD) (s:DS) (M:VM):(LoK F n0 L b K).nrm s M=zcf F n0 L b K (zbH L s) M:=id rfl
@[simp] theorem LoK_ext (L:List (List Bool)) (b:CC) (K:KD) (i:Nat) (s:DS) (M:VM):(LoK F n0 L b K).ext i s M=K.ext i s M:=id rfl
@[simp] theorem LoK_ret (L:List (List Bool)) (b:CC) (K:KD) (s:DS) (M:VM):(LoK F n0 L b K).ret s M=K.ret s M:=id rfl
@[simp] theorem LoK_pan (L:List (List Bool)) (b:CC) (K:KD) (v:DV) (s:DS) (M:VM):(LoK F n0 L b K).pan v s M=K.pan v s M:=id rfl
theorem zcf.go {L:List (List Bool)} {b b':CC} {K:KD} {s:DS} {M:VM} (hb:b=b') (h: @Cd (rD F n0) (.base (LoK F n0 L b K)) b' (zbH L s) M):zcf F n0 L b K s M:=zcf.step (hb▸h)
def SM (n:Nat) (M M':VM):Prop:= ∀j,j<n→M'.get j=M.get j
@[simp] theorem zbj (n:Nat) (M:VM):SM n M M:=fun _ _=>rfl
@[simp] theorem zT {n:Nat} {M M':VM} {o:MO} (h:SM n M M') (hn:n≤M'.next):SM n M (M'.new o):=fun j hj=>by rw[get_new,if_neg (by omega)];exact h j hj
@[simp] theorem zC {n:Nat} {M M':VM} {i:Nat} {o:MO} (h:SM n M M') (hn:n≤i):SM n M (M'.put i o):=fun j hj=>by rw[get_put,if_neg (by omega)];exact h j hj
@[simp] theorem zck {n:Nat} {M M':VM} {i:Nat} (h:SM n M M') (hn:n≤i):SM n M (M'.del i):=fun j hj=>by rw[get_del,if_neg (by omega)];exact h j hj
theorem SFrz.refl {M' M2:VM} {s:DS} (h: ∀x∈s,zG M2.next x.2):SFrz M' M2 s s:=fun p e he=>⟨e,he,.refl e,by
 induction s with
 |nil=>cases he
 |cons x s ih=>
  obtain⟨x1,x2⟩:=x;rw[zdq] at he
  split at he
  ·cases he;exact h _ (qD ..)
  ·exact ih (fun x hx=>h x (qB _ hx)) he⟩
def Back (k:DV→VM→Prop) (M:VM) (d:DV) (M':VM):Prop:=M.Wf→ ∃e,Frz M' M d e∧zG M.next e∧(∀j,j<M.next→M'.get j=M.get j)∧k e M
theorem zg.back {f:DV} {args:List DV} {M:VM} {k kp:DV→VM→Prop} (h:zg F f args M (Back k M) kp):zg F f args M k kp:=
 zg.wf fun hw=>zg.conv (h.mono (fun d M' q=>let⟨e,h1,h2,h3,h4⟩:=q hw;⟨e,M,.same h3,h1,h2,h4⟩) (fun _ _ q=>q))
theorem Back.plain {k:DV→VM→Prop} {M M':VM} {d:DV} (hb:zG M.next d) (h:SM M.next M M') (hk:k d M):Back k M d M':=fun _=>⟨d,.refl d,hb,h,hk⟩
end
@[simp] theorem below_int {n:Nat} (k:IntKind) (a:Int):zG n (.int k a):=.int k a
@[simp] theorem below_bool {n:Nat} (b:Bool):zG n (.bool b):=.bool b
@[simp] theorem below_str {n:Nat} (b:ByteArray):zG n (.str b):=.str b
theorem below_iff {n:Nat} {p:DV} {q:Prop} (h1:zG n p→q) (h2:q→zG n p):zG n p=q:=propext ⟨h1,h2⟩
@[simp] theorem below_tup {n:Nat} (l:List DV):zG n (.tup l)= ∀d∈l,zG n d:=below_iff (fun h=>by cases h;assumption) .tup
@[simp] theorem below_ptr {n j i o:Nat}:zG n (.ptr j i o)=(j<n):=below_iff (fun h=>by cases h;assumption) .ptr
attribute [simp] zi zdZ zf isW isRd isFl refD zcC
section
variable {M M':VM} {s:DS}
@[simp] theorem inP_nil (p:List Bool):inP [] p=false:=id rfl
@[simp] theorem inP_bits (m n:Nat) (r:List (List Bool)):inP (bits m::r) (bits n)=if m=n then true else inP r (bits n):=by
  show(match beqP (bits m) (bits n) with|true=>true|false=>inP r (bits n))=_;by_cases h:m=n
  ·subst h;rw[if_pos rfl,zez]
  ·rw[if_neg h];cases e:beqP (bits m) (bits n) with
   |true=>exact absurd (zgb (beqP_eq e)) h
   |false=>rfl
def fr1:Bool→Bool→Bool
 |true,_=>false
 |false,b=>b
@[simp] theorem fr1_true (b:Bool):fr1 true b=false:=id rfl
@[simp] theorem fr1_false (b:Bool):fr1 false b=b:=id rfl
@[simp] theorem freeOf_nil (b:List (List Bool)):zc9 b []=true:=id rfl
@[simp] theorem freeOf_cons (b:List (List Bool)) (p:List Bool) (r:List (List Bool)):zc9 b (p::r)=fr1 (inP b p) (zc9 b r):=by
  show(match inP b p with|true=>false|false=>zc9 b r)=_;cases inP b p<;>rfl
def nt:Bool→Option (List Bool)→Mo→Mo
 |true,_,x=>x
 |false,q,x=>zcz q x
@[simp] theorem nt_true (q:Option (List Bool)) (x:Mo):nt true q x=x:=id rfl
@[simp] theorem nt_false (q:Option (List Bool)) (x:Mo):nt false q x=zcz q x:=id rfl
@[simp] theorem noteN_eq (ns:List (List Bool)) (q:Option (List Bool)) (i:Nat) (M:VM) (b:List (List Bool)):zhg ns q ⟨i,M,b⟩=nt (zc9 b ns) q ⟨i,M,b⟩:=by
  show(match zc9 b ns with|true=>_|false=>_)=_;cases zc9 b ns<;>rfl
@[simp] theorem addBad_some (q:List Bool) (i:Nat) (M:VM) (b:List (List Bool)):zcz (some q) ⟨i,M,b⟩=⟨i,M,q::b⟩:=id rfl
@[simp] theorem addBad_none (x:Mo):zcz none x=x:=id rfl
def rfO:Option DV→List Nat
 |some d=>refD d
 |none=>[]
@[simp] theorem rfO_some (d:DV):rfO (some d)=refD d:=id rfl
theorem zg7 (x:CO):zc1 s x=rfO (evD s x):=by unfold zc1;cases evD s x<;>rfl
@[simp] theorem refs_load1 (a:CO):zca s (.load1 a)=rfO (evD s a):=zg7 a
@[simp] theorem refs_loadN (n:Nat) (a:CO):zca s (.loadN n a)=rfO (evD s a):=zg7 a
@[simp] theorem refs_lookup (kk:KK) (z:Value) (ok:Bool) (x i:CO):zca s (.lookup kk z ok x i)=rfO (evD s x):=zg7 x
@[simp] theorem refs_slice (n:Nat) (x:CO) (lo hi:Option CO):zca s (.slice n x lo hi)=rfO (evD s x):=zg7 x
@[simp] theorem refs_b2s (x:CO):zca s (.b2s x)=rfO (evD s x):=zg7 x
theorem get_isSome (j:Nat):(M.get j).isSome=(M.obj j).isSome:=by unfold VM.obj;cases M.get j<;>rfl
@[simp] theorem alikeAt_nil:zfV [] M M'=True:=id rfl
@[simp] theorem alikeAt_cons (j:Nat) (r:List Nat):zfV (j::r) M M'=((M.get j=M'.get j∧(M.obj j).isSome=true)∧zfV r M M'):=by rw[←get_isSome];rfl
@[simp] theorem rdAt_eq (rs:List Nat) (ns:List (List Bool)) (i:Nat) (b:List (List Bool)):rdAt rs ns M ⟨i,M',b⟩=(zc9 b ns=true∧zfV rs M M'):=id rfl
@[simp] theorem rdOk_nil (op:COp) (rs:List Nat) (ns:List (List Bool)) (s:DS) (d:DV) (lo:Nat):rdOk op rs ns s d M lo []=True:=id rfl
@[simp] theorem rdOk_cons (op:COp) (rs:List Nat) (ns:List (List Bool)) (s:DS) (d:DV) (lo i:Nat) (b:List (List Bool)) (r:List Mo):rdOk op rs ns s d M lo (⟨i,M',b⟩::r)=((if i<lo then True else(rdAt rs ns M ⟨i,M',b⟩∨rdAlt op ns s d ⟨i,M',b⟩))∧rdOk op rs ns s d M lo r):=by
  show((match qo i lo with|true=>True|false=>_)∧_)=_;by_cases h:i<lo
  ·rw[if_pos h,show qo i lo=true from by show qt (i+1) lo=true;rw[qr];exact h]
  ·rw[if_neg h];cases e:Nat.blt i lo with
   |true=>have e:qt (i+1) lo=true:=e;rw[qr] at e;exact absurd e h
   |false=>rfl
@[simp] theorem rdBad_nil (lo:Nat) (q:Option (List Bool)):ziR lo q []=[]:=id rfl
@[simp] theorem rdBad_cons (lo:Nat) (q:Option (List Bool)) (i:Nat) (b:List (List Bool)) (r:List Mo):ziR lo q (⟨i,M,b⟩::r)=(if i<lo then zcz q ⟨i,M,b⟩ else⟨i,M,b⟩)::ziR lo q r:=by
  show(match qo i lo with|true=>_|false=>_)::_=_;by_cases h:i<lo
  ·rw[if_pos h,show qo i lo=true from by show qt (i+1) lo=true;rw[qr];exact h]
  ·rw[if_neg h];cases e:Nat.blt i lo with
   |true=>have e:qt (i+1) lo=true:=e;rw[qr] at e;exact absurd e h
   |false=>rfl
@[simp] theorem nextMo_cons (i:Nat) (b:List (List Bool)) (r:List Mo):zj3 (⟨i,M,b⟩::r)=i+1:=id rfl
@[simp] theorem selfIn_one (x:Mo) (d:DV):zjH [x] d=true:=id rfl
@[simp] theorem selfIn_two (x y:Mo) (r:List Mo) (d:DV):zjH (x::y::r) d=zc8 d:=id rfl
@[simp] theorem selfEq_agg (l:List DV):zc8 (.agg l)=l.all zcC:=id rfl
@[simp] theorem selfEq_int (k:IntKind) (a:Int):zc8 (.int k a)=true:=id rfl
@[simp] theorem selfEq_str (b:ByteArray):zc8 (.str b)=true:=id rfl
end
end
end
end Go.Ideal
set_option maxRecDepth 100000
namespace Go.Ideal.Q
abbrev n_a:Nat:=8
abbrev n_h:Nat:=9
abbrev n_bf:Nat:=10
abbrev n_V:Nat:=11
abbrev n_E:Nat:=13
abbrev n_W:Nat:=16
abbrev n_L:Nat:=19
abbrev n_7:Nat:=22
abbrev n_m:Nat:=24
abbrev n_y:Nat:=27
abbrev n_b:Nat:=28
abbrev n_v:Nat:=29
abbrev n_X:Nat:=36
abbrev n_p:Nat:=37
abbrev n_k:Nat:=38
abbrev n_I:Nat:=41
abbrev n_bp:Nat:=42
abbrev n_D:Nat:=43
abbrev n_c:Nat:=44
abbrev n_9:Nat:=49
abbrev n_2:Nat:=50
abbrev n_bk:Nat:=53
abbrev n_G:Nat:=54
abbrev n_q:Nat:=55
abbrev n_M:Nat:=59
abbrev n_Z:Nat:=60
abbrev n_j:Nat:=61
abbrev n_5:Nat:=62
abbrev n_8:Nat:=63
abbrev n_T:Nat:=64
abbrev n_i:Nat:=68
abbrev n_be:Nat:=69
abbrev n_A:Nat:=70
abbrev n_3:Nat:=76
abbrev n_J:Nat:=79
abbrev n_O:Nat:=84
abbrev n_4:Nat:=85
abbrev n_bo:Nat:=86
abbrev n_l:Nat:=87
abbrev n_bm:Nat:=88
abbrev n_bn:Nat:=89
abbrev n_U:Nat:=90
abbrev n_6:Nat:=91
abbrev n_bg:Nat:=92
abbrev n_Q:Nat:=93
abbrev n_ba:Nat:=94
abbrev n_N:Nat:=95
abbrev n_P:Nat:=96
abbrev n_bb:Nat:=97
abbrev n_K:Nat:=98
abbrev n_0:Nat:=99
abbrev n_Y:Nat:=100
abbrev n_u:Nat:=101
abbrev n_1:Nat:=102
abbrev n_bh:Nat:=113
abbrev n_F:Nat:=114
abbrev n_C:Nat:=115
abbrev n_o:Nat:=116
abbrev n_R:Nat:=119
abbrev n_S:Nat:=120
abbrev n_t:Nat:=140
abbrev n_H:Nat:=151
abbrev n_bl:Nat:=152
abbrev n_x:Nat:=153
abbrev n_bi:Nat:=154
abbrev n_w:Nat:=155
abbrev n_bj:Nat:=156
abbrev n_r:Nat:=157
abbrev n_bc:Nat:=158
abbrev n_s:Nat:=159
abbrev n_bd:Nat:=160
abbrev n_z:Nat:=161
abbrev n_n:Nat:=172
abbrev n_g:Nat:=173
abbrev n_f:Nat:=174
abbrev n_d:Nat:=175
abbrev n_e:Nat:=176
def r_a_1:List CI:=[bx 2 (t 0),mv 4 ff]
def r_a_2:List CI:=[ln 23 3 2,ca 24 n_h [(t 23)],mv 25 (t 24),gu 25 false (mv 26 (t 1)),gu 25 false (le 27 (t 26)),gu 25 false (bi .gtr 28 (t 27) (i 100)),pk 29 (t 25) tt (t 28)]
def r_a_3:List CI:=[ca 30 n_bf [],mv 4 (t 30)]
def r_a_4:List CI:=[ln 32 3 2,ca 33 n_V [(t 32)],mv 31 (t 33),ex 34 31 0,ex 35 31 1,mv 5 (t 34),mv 6 (t 35)]
def r_a_5:List CI:=[mv 36 (t 6),bi .neq 37 (t 36) (i 0)]
def r_a_6:List CI:=[ca 38 n_bf [],mv 4 (t 38)]
def r_a_7:List CI:=[mv 40 (t 5),ca 41 n_7 [(t 40)],mv 39 (t 41),ex 42 39 0,ex 43 39 1,mv 7 (t 42),mv 6 (t 43)]
def r_a_8:List CI:=[mv 45 (t 5),mv 46 (t 1),ca 47 n_m [(t 45),(t 46)],mv 44 (t 47),ex 48 44 0,ex 49 44 1,mv 8 (t 48),mv 9 (t 49)]
def r_a_9:List CI:=[mv 50 (t 6),bi .neq 51 (t 50) (i 0)]
def r_a_10:List CI:=[mv 4 ff]
def r_a_11:List CI:=[mv 52 (t 7),le 53 (t 52),mv 54 (i 0)]
def r_a_12:List CI:=[bi .lss 55 (t 54) (t 53)]
def r_a_13:List CI:=[mv 56 (t 54),ia 57 2 52 (t 54),ln 58 2 57,oo 11 (.alloc [(iI 0),(iI 0)]),mv 10 (t 56),st 2 11 (t 58)]
def r_a_14:List CI:=[fa 59 0 11,l 60 59,bi .eql 61 (t 60) (i 1),mv 62 (t 61),gu 62 false (mv 63 (t 7)),gu 62 false (mv 64 (t 10)),gu 62 false (oo 65 (.slice 2 (t 63) none (some (t 64)))),gu 62 false (ln 66 2 11),gu 62 false (ca 67 n_y [(t 65),(t 66)]),lo 1 (pk 68 (t 62) tt (t 67))]
def r_a_15:List CI:=[mv 4 ff]
def r_a_16:List CI:=[bi .add 69 (t 54) (i 1),mv 54 (t 69)]
def c_a_17:CC:=(.seq (.ops r_a_12) (bs [1,2,5,7,8,9,52,53,54,55]) (.seq (.cond (t 55) .skip (.exit 0)) (bs [1,2,5,7,8,9,52,53,54]) (.seq (.block 2 (.seq (.ops r_a_13) (bs [1,2,5,7,8,9,10,11,52,53,54]) (.seq (.draw r_a_14) (bs [1,2,5,7,8,9,52,53,54,68]) (.cond (t 68) (.seq (.ops r_a_15) (bs [4]) .ret) .skip)))) (bs [1,2,5,7,8,9,52,53,54]) (.ops r_a_16))))
def r_a_18:List CI:=[mv 70 (t 9),bi .neq 71 (t 70) (i 0)]
def r_a_19:List CI:=[ca 72 n_bf [],mv 4 (t 72)]
def r_a_20:List CI:=[mv 74 (t 8),ca 75 n_E [(t 74)],mv 73 (t 75),ex 76 73 0,ex 77 73 1,oo 12 (.alloc [(.slice none 0 0),(.slice none 0 0),(.slice none 0 0)]),st 3 12 (t 76),mv 13 (t 77)]
def r_a_21:List CI:=[ln 79 3 2,mv 80 (t 1),ca 81 n_b [(t 79),(t 80)],ca 82 n_V [(t 81)],mv 78 (t 82),ex 83 78 0,ex 84 78 1,mv 14 (t 83),mv 15 (t 84)]
def r_a_22:List CI:=[mv 85 (t 13),bi .neq 86 (t 85) (i 0),mv 87 (t 86),gu 87 false (mv 88 (t 15)),gu 87 false (bi .neq 89 (t 88) (i 0)),pk 90 (t 87) tt (t 89),mv 91 (t 90),gu 91 false (mv 92 (t 8)),gu 91 false (mv 93 (t 14)),gu 91 false (bi .neq 94 (t 92) (t 93)),pk 95 (t 91) tt (t 94)]
def r_a_23:List CI:=[mv 4 ff]
def r_a_24:List CI:=[ln 97 3 12,ca 98 n_V [(t 97)],mv 96 (t 98),ex 99 96 0,ex 100 96 1,mv 16 (t 99),mv 17 (t 100)]
def r_a_25:List CI:=[mv 101 (t 17),bi .neq 102 (t 101) (i 0),mv 103 (t 102),gu 103 false (mv 104 (t 16)),gu 103 false (mv 105 (t 8)),gu 103 false (bi .neq 106 (t 104) (t 105)),pk 107 (t 103) tt (t 106)]
def r_a_26:List CI:=[mv 4 ff]
def r_a_27:List CI:=[mv 18 (.c (.slice none 0 0))]
def r_a_28:List CI:=[mv 108 (t 7),le 109 (t 108),mv 110 (i 0)]
def r_a_29:List CI:=[bi .lss 111 (t 110) (t 109)]
def r_a_30:List CI:=[ia 112 2 108 (t 110),ln 113 2 112,oo 20 (.alloc [(iI 0),(iI 0)]),st 2 20 (t 113)]
def r_a_31:List CI:=[ln 114 2 20,mv 115 (t 1),ca 116 n_v [(t 114),(t 115)],oo 21 (.alloc [(iI 0),(iI 0)]),st 2 21 (t 116)]
def r_a_32:List CI:=[ln 117 2 21,ln 118 2 20,oo 119 (.bin .neq (.leaves [0,1]) (t 117) (t 118))]
def r_a_33:List CI:=[mv 120 (t 18),ln 121 2 21,ln 122 2 20,oo 123 (.build [(iI 0),(iI 0),(iI 0),(iI 0)] [(0,2,(t 121)),(2,2,(t 122))]),oo 124 (.buildSlice 1 4 [(iI 0),(iI 0),(iI 0),(iI 0)] [(0,(t 123))]),ap 125 4 32 (t 120) (t 124),mv 18 (t 125)]
def r_a_34:List CI:=[bi .add 126 (t 110) (i 1),mv 110 (t 126)]
def c_a_35:CC:=(.seq (.ops r_a_29) (bs [1,5,8,18,108,109,110,111]) (.seq (.cond (t 111) .skip (.exit 4)) (bs [1,5,8,18,108,109,110]) (.seq (.block 6 (.seq (.ops r_a_30) (bs [1,5,8,18,20,108,109,110]) (.seq (.ops r_a_31) (bs [1,5,8,18,20,21,108,109,110]) (.seq (.ops r_a_32) (bs [1,5,8,18,20,21,108,109,110,119]) (.cond (t 119) (.ops r_a_33) .skip))))) (bs [1,5,8,18,108,109,110]) (.ops r_a_34))))
def r_a_36:List CI:=[mv 128 (t 8),mv 129 (t 18),ca 130 n_m [(t 128),(t 129)],mv 127 (t 130),ex 131 127 0,ex 132 127 1,mv 22 (t 131),mv 6 (t 132)]
def r_a_37:List CI:=[mv 133 (t 6),bi .eql 134 (t 133) (i 0),mv 135 (t 134),gu 135 true (mv 136 (t 22)),gu 135 true (mv 137 (t 5)),gu 135 true (bi .eql 138 (t 136) (t 137)),pk 139 (t 135) (t 138) ff,mv 140 (t 139),gu 140 true (ca 141 n_bf []),pk 142 (t 140) (t 141) ff,mv 4 (t 142)]
def c_a:CC:=(.seq (.ops r_a_1) (bs [1,2]) (.seq (.seq (.ops r_a_2) (bs [1,2,29]) (.cond (t 29) (.seq (.ops r_a_3) (bs [4]) .ret) .skip)) (bs [1,2]) (.seq (.ops r_a_4) (bs [1,2,5,6]) (.seq (.seq (.ops r_a_5) (bs [1,2,5,37]) (.cond (t 37) (.seq (.ops r_a_6) (bs [4]) .ret) .skip)) (bs [1,2,5]) (.seq (.ops r_a_7) (bs [1,2,5,6,7]) (.seq (.ops r_a_8) (bs [1,2,5,6,7,8,9]) (.seq (.seq (.ops r_a_9) (bs [1,2,5,7,8,9,51]) (.cond (t 51) (.seq (.ops r_a_10) (bs [4]) .ret) .skip)) (bs [1,2,5,7,8,9]) (.seq (.seq (.ops r_a_11) (bs [1,2,5,7,8,9,52,53,54]) (.block 0 (.loop (bs [1,2,5,7,8,9,52,53,54]) c_a_17))) (bs [1,2,5,7,8,9]) (.seq (.seq (.ops r_a_18) (bs [1,2,5,7,8,71]) (.cond (t 71) (.seq (.ops r_a_19) (bs [4]) .ret) .skip)) (bs [1,2,5,7,8]) (.seq (.ops r_a_20) (bs [1,2,5,7,8,12,13]) (.seq (.ops r_a_21) (bs [1,5,7,8,12,13,14,15]) (.seq (.seq (.ops r_a_22) (bs [1,5,7,8,12,95]) (.cond (t 95) (.seq (.ops r_a_23) (bs [4]) .ret) .skip)) (bs [1,5,7,8,12]) (.seq (.seq (.ops r_a_24) (bs [1,5,7,8,16,17]) (.seq (.ops r_a_25) (bs [1,5,7,8,107]) (.cond (t 107) (.seq (.ops r_a_26) (bs [4]) .ret) .skip))) (bs [1,5,7,8]) (.seq (.ops r_a_27) (bs [1,5,7,8,18]) (.seq (.seq (.ops r_a_28) (bs [1,5,8,18,108,109,110]) (.block 4 (.loop (bs [1,5,8,18,108,109,110]) c_a_35))) (bs [5,8,18]) (.seq (.ops r_a_36) (bs [5,6,22]) (.seq (.ops r_a_37) (bs [4]) .ret)))))))))))))))))
def f_a:za:=⟨143,[.tmp (bits 4)],c_a,none,none⟩
def r_h_1:List CI:=[bx 1 (t 0),mv 2 ff]
def r_h_2:List CI:=[fa 6 0 1,l 7 6,le 8 (t 7),bi .gtr 9 (t 8) (i 70),mv 10 (t 9),gu 10 false (fa 11 1 1),gu 10 false (l 12 11),gu 10 false (le 13 (t 12)),gu 10 false (bi .gtr 14 (t 13) (i 70)),pk 15 (t 10) tt (t 14),mv 16 (t 15),gu 16 false (fa 17 2 1),gu 16 false (l 18 17),gu 16 false (le 19 (t 18)),gu 16 false (bi .gtr 20 (t 19) (i 70)),pk 21 (t 16) tt (t 20)]
def r_h_3:List CI:=[mv 2 tt]
def r_h_4:List CI:=[mv 3 (i 0)]
def r_h_5:List CI:=[mv 22 (t 3),fa 23 1 1,l 24 23,le 25 (t 24),bi .lss 26 (t 22) (t 25)]
def r_h_6:List CI:=[fa 29 1 1,l 30 29,mv 31 (t 3),ia 32 2 30 (t 31),fa 33 1 32,l 34 33,le 35 (t 34),bi .gtr 36 (t 35) (i 20)]
def r_h_7:List CI:=[mv 2 tt]
def r_h_8:List CI:=[mv 4 (i 0)]
def r_h_9:List CI:=[mv 37 (t 4),fa 38 1 1,l 39 38,mv 40 (t 3),ia 41 2 39 (t 40),fa 42 1 41,l 43 42,le 44 (t 43),bi .lss 45 (t 37) (t 44)]
def r_h_10:List CI:=[fa 48 1 1,l 49 48,mv 50 (t 3),ia 51 2 49 (t 50),fa 52 1 51,l 53 52,mv 54 (t 4),ia 55 1 53 (t 54),fa 56 0 55,l 57 56,ca 58 n_W [(t 57)]]
def r_h_11:List CI:=[mv 2 tt]
def r_h_12:List CI:=[mv 46 (t 4),bi .add 47 (t 46) (i 1),mv 4 (t 47)]
def c_h_13:CC:=(.seq (.seq (.ops r_h_9) (bs [1,3,4,45]) (.cond (t 45) .skip (.exit 4))) (bs [1,3,4]) (.seq (.block 6 (.seq (.ops r_h_10) (bs [1,3,4,58]) (.cond (t 58) (.seq (.ops r_h_11) (bs [2]) .ret) .skip))) (bs [1,3,4]) (.ops r_h_12)))
def r_h_14:List CI:=[mv 27 (t 3),bi .add 28 (t 27) (i 1),mv 3 (t 28)]
def c_h_15:CC:=(.seq (.seq (.ops r_h_5) (bs [1,3,26]) (.cond (t 26) .skip (.exit 0))) (bs [1,3]) (.seq (.block 2 (.seq (.seq (.ops r_h_6) (bs [1,3,36]) (.cond (t 36) (.seq (.ops r_h_7) (bs [2]) .ret) .skip)) (bs [1,3]) (.seq (.ops r_h_8) (bs [1,3,4]) (.block 4 (.loop (bs [1,3,4]) c_h_13))))) (bs [1,3]) (.ops r_h_14)))
def r_h_16:List CI:=[mv 5 (i 0)]
def r_h_17:List CI:=[mv 59 (t 5),fa 60 2 1,l 61 60,le 62 (t 61),bi .lss 63 (t 59) (t 62)]
def r_h_18:List CI:=[fa 66 2 1,l 67 66,mv 68 (t 5),ia 69 4 67 (t 68),fa 70 1 69,fa 71 2 70,l 72 71,ca 73 n_W [(t 72)]]
def r_h_19:List CI:=[mv 2 tt]
def r_h_20:List CI:=[mv 64 (t 5),bi .add 65 (t 64) (i 1),mv 5 (t 65)]
def c_h_21:CC:=(.seq (.seq (.ops r_h_17) (bs [1,5,63]) (.cond (t 63) .skip (.exit 8))) (bs [1,5]) (.seq (.block 10 (.seq (.ops r_h_18) (bs [1,5,73]) (.cond (t 73) (.seq (.ops r_h_19) (bs [2]) .ret) .skip))) (bs [1,5]) (.ops r_h_20)))
def r_h_22:List CI:=[mv 2 ff]
def c_h:CC:=(.seq (.ops r_h_1) (bs [1]) (.seq (.seq (.ops r_h_2) (bs [1,21]) (.cond (t 21) (.seq (.ops r_h_3) (bs [2]) .ret) .skip)) (bs [1]) (.seq (.seq (.ops r_h_4) (bs [1,3]) (.block 0 (.loop (bs [1,3]) c_h_15))) (bs [1]) (.seq (.seq (.ops r_h_16) (bs [1,5]) (.block 8 (.loop (bs [1,5]) c_h_21))) [] (.seq (.ops r_h_22) (bs [2]) .ret)))))
def f_h:za:=⟨74,[.tmp (bits 2)],c_h,none,none⟩
def r_V_1:List CI:=[bx 1 (t 0),mv 2 (.c (.string ⟨#[]⟩)),mv 3 (i 0)]
def r_V_2:List CI:=[ln 5 3 1,ca 6 n_p [(t 5)],no 7 6]
def r_V_3:List CI:=[mv 2 (.c (.string ⟨#[]⟩)),mv 3 (i 2)]
def r_V_4:List CI:=[ln 8 3 1,ca 9 n_k [(t 8)],mv 4 (t 9)]
def r_V_5:List CI:=[mv 10 (t 4),oo 11 (.blt .lenStr [(t 10)]),bi .gtr 12 (t 11) (i 80000)]
def r_V_6:List CI:=[mv 2 (.c (.string ⟨#[]⟩)),mv 3 (i 3)]
def r_V_7:List CI:=[mv 13 (t 4),mv 2 (t 13),mv 3 (i 0)]
def c_V:CC:=(.seq (.ops r_V_1) (bs [1]) (.seq (.seq (.ops r_V_2) (bs [1,7]) (.cond (t 7) (.seq (.ops r_V_3) (bs [2,3]) .ret) .skip)) (bs [1]) (.seq (.ops r_V_4) (bs [4]) (.seq (.seq (.ops r_V_5) (bs [4,12]) (.cond (t 12) (.seq (.ops r_V_6) (bs [2,3]) .ret) .skip)) (bs [4]) (.seq (.ops r_V_7) (bs [2,3]) .ret)))))
def f_V:za:=⟨14,[.tmp (bits 2),.tmp (bits 3)],c_V,none,none⟩
def r_bp:List CI:=[bx 1 (t 0),oo 2 (.alloc [(.slice none 0 0),(.slice none 0 0),(.slice none 0 0)]),mv 3 (i 0)]
def r_E_2:List CI:=[l 5 1,oo 6 (.blt .lenStr [(t 5)]),bi .gtr 7 (t 6) (i 80000)]
def r_E_3:List CI:=[oo 8 (.build [(.slice none 0 0),(.slice none 0 0),(.slice none 0 0)] []),st 3 2 (t 8),mv 3 (i 3)]
def r_E_4:List CI:=[oo 4 (.alloc [(.slice none 0 0),(.slice none 0 0),(.slice none 0 0)])]
def r_E_5:List CI:=[oo 9 (.makeFunc (.func n_bp) [] [(t 1),(t 4)]),ca 10 n_I [(t 9)],lo 1 (no 11 10),lo 1 (mv 12 (t 11)),lo 1 (gu 12 false (ln 13 3 4)),lo 1 (gu 12 false (ca 14 n_p [(t 13)])),lo 2 (gu 12 false (no 15 14)),lo 2 (pk 16 (t 12) tt (t 15)),lo 2 (mv 17 (t 16)),lo 2 (gu 17 false (ln 18 3 4)),lo 2 (gu 17 false (ca 19 n_k [(t 18)])),lo 2 (gu 17 false (l 20 1)),lo 3 (gu 17 false (bi .neq 21 (t 19) (t 20))),lo 3 (pk 22 (t 17) tt (t 21))]
def r_E_6:List CI:=[oo 23 (.build [(.slice none 0 0),(.slice none 0 0),(.slice none 0 0)] []),st 3 2 (t 23),mv 3 (i 4)]
def r_E_7:List CI:=[ln 24 3 4,st 3 2 (t 24),mv 3 (i 0)]
def c_E:CC:=(.seq (.ops r_bp) (bs [1,2]) (.seq (.seq (.ops r_E_2) (bs [1,2,7]) (.cond (t 7) (.seq (.ops r_E_3) (bs [2,3]) .ret) .skip)) (bs [1,2]) (.seq (.ops r_E_4) (bs [1,2,4]) (.seq (.seq (.draw r_E_5) (bs [2,4,22]) (.cond (t 22) (.seq (.ops r_E_6) (bs [2,3]) .ret) .skip)) (bs [2,4]) (.seq (.ops r_E_7) (bs [2,3]) .ret)))))
def f_E:za:=⟨25,[.cell (some 3) (bits 2),.tmp (bits 3)],c_E,none,none⟩
def r_W_1:List CI:=[mv 2 ff]
def r_W_2:List CI:=[mv 3 (t 0),le 4 (t 3),bi .gtr 5 (t 4) (i 1000),mv 2 (t 5)]
def c_W:CC:=(.seq (.ops r_W_1) (bs [0]) (.seq (.ops r_W_2) (bs [2]) .ret))
def f_W:za:=⟨6,[.tmp (bits 2)],c_W,none,none⟩
def r_bk:List CI:=[bx 1 (t 0),oo 2 (.alloc [(iI 0),(.slice none 0 0)]),mv 3 (i 0)]
def r_L_2:List CI:=[l 6 1,oo 7 (.blt .lenStr [(t 6)]),bi .gtr 8 (t 7) (i 80000)]
def r_L_3:List CI:=[oo 9 (.build [(iI 0),(.slice none 0 0)] []),st 2 2 (t 9),mv 3 (i 3)]
def r_L_4:List CI:=[oo 4 (.alloc [(iI 0),(.slice none 0 0)])]
def r_L_5:List CI:=[oo 10 (.makeFunc (.func n_bk) [] [(t 1),(t 4)]),mv 5 (t 10)]
def r_L_6:List CI:=[mv 11 (t 5),ca 12 n_I [(t 11)],lo 1 (no 13 12),lo 1 (mv 14 (t 13)),lo 1 (gu 14 false (ln 15 2 4)),lo 1 (gu 14 false (ca 16 n_9 [(t 15)])),lo 2 (gu 14 false (no 17 16)),lo 2 (pk 18 (t 14) tt (t 17)),lo 2 (mv 19 (t 18)),lo 2 (gu 19 false (ln 20 2 4)),lo 2 (gu 19 false (ca 21 n_2 [(t 20)])),lo 2 (gu 19 false (l 22 1)),lo 3 (gu 19 false (bi .neq 23 (t 21) (t 22))),lo 3 (pk 24 (t 19) tt (t 23))]
def r_L_7:List CI:=[oo 25 (.build [(iI 0),(.slice none 0 0)] []),st 2 2 (t 25),mv 3 (i 4)]
def r_L_8:List CI:=[ln 26 2 4,st 2 2 (t 26),mv 3 (i 0)]
def c_L:CC:=(.seq (.ops r_bk) (bs [1,2]) (.seq (.seq (.ops r_L_2) (bs [1,2,8]) (.cond (t 8) (.seq (.ops r_L_3) (bs [2,3]) .ret) .skip)) (bs [1,2]) (.seq (.ops r_L_4) (bs [1,2,4]) (.seq (.ops r_L_5) (bs [1,2,4,5]) (.seq (.seq (.draw r_L_6) (bs [2,4,24]) (.cond (t 24) (.seq (.ops r_L_7) (bs [2,3]) .ret) .skip)) (bs [2,4]) (.seq (.ops r_L_8) (bs [2,3]) .ret))))))
def f_L:za:=⟨27,[.cell (some 2) (bits 2),.tmp (bits 3)],c_L,none,none⟩
def r_7_1:List CI:=[mv 2 (.c (.slice none 0 0)),mv 3 (i 0)]
def r_7_2:List CI:=[mv 8 (t 0),ca 9 n_M [(t 8)],mv 7 (t 9),ex 10 7 0,ex 11 7 1,ex 12 7 2,mv 4 (t 10),mv 5 (t 11),mv 6 (t 12)]
def r_7_3:List CI:=[mv 13 (t 4),mv 14 (t 6),mv 2 (t 13),mv 3 (t 14)]
def c_7:CC:=(.seq (.ops r_7_1) (bs [0]) (.seq (.ops r_7_2) (bs [4,6]) (.seq (.ops r_7_3) (bs [2,3]) .ret)))
def f_7:za:=⟨15,[.tmp (bits 2),.tmp (bits 3)],c_7,none,none⟩
def r_5:List CI:=[mv 4 (.c (.string ⟨#[]⟩)),mv 5 (i 0)]
def r_m_2:List CI:=[mv 16 (t 0),oo 17 (.blt .lenStr [(t 16)]),bi .gtr 18 (t 17) (i 80000),mv 19 (t 18),gu 19 false (mv 20 (t 1)),gu 19 false (le 21 (t 20)),gu 19 false (bi .gtr 22 (t 21) (i 100)),pk 23 (t 19) tt (t 22)]
def r_m_3:List CI:=[mv 4 (.c (.string ⟨#[]⟩)),mv 5 (i 3)]
def r_m_4:List CI:=[oo 24 (.makeMap),oo 6 (.alloc [(.map none)]),st 1 6 (t 24)]
def r_m_5:List CI:=[mv 25 (t 1),le 26 (t 25),mv 27 (i 0)]
def r_m_6:List CI:=[bi .lss 28 (t 27) (t 26)]
def r_m_7:List CI:=[ia 29 4 25 (t 27),ln 30 4 29,oo 8 (.alloc [(iI 0),(iI 0),(iI 0),(iI 0)]),st 4 8 (t 30)]
def r_m_8:List CI:=[l 32 6,fa 33 0 8,ln 34 2 33,oo 35 (.lookup (.leaves [0,1]) (.agg ⟨[(iI 0),(iI 0)]⟩) true (t 32) (t 34)),mv 31 (t 35),ex 36 31 0,ex 37 31 1,oo 9 (.alloc [(iI 0),(iI 0)]),st 2 9 (t 36),mv 10 (t 37)]
def r_m_9:List CI:=[mv 38 (t 10),mv 39 (t 38),gu 39 false (fa 40 0 8),gu 39 false (ln 41 2 40),gu 39 false (ca 42 n_Z [(t 41)]),gu 39 false (no 43 42),pk 44 (t 39) tt (t 43),mv 45 (t 44),gu 45 false (fa 46 2 8),gu 45 false (ln 47 2 46),gu 45 false (ca 48 n_Z [(t 47)]),gu 45 false (no 49 48),pk 50 (t 45) tt (t 49),mv 51 (t 50),gu 51 false (fa 52 0 8),gu 51 false (fa 53 0 52),gu 51 false (l 54 53),gu 51 false (fa 55 2 8),gu 51 false (fa 56 0 55),gu 51 false (l 57 56),gu 51 false (bi .neq 58 (t 54) (t 57)),pk 59 (t 51) tt (t 58)]
def r_m_10:List CI:=[mv 4 (.c (.string ⟨#[]⟩)),mv 5 (i 2)]
def r_m_11:List CI:=[l 60 6,fa 61 0 8,ln 62 2 61,fa 63 2 8,ln 64 2 63,on (.mapUpdate (.leaves [0,1]) (t 60) (t 62) (t 64))]
def r_m_12:List CI:=[bi .add 65 (t 27) (i 1),mv 27 (t 65)]
def c_m_13:CC:=(.seq (.ops r_m_6) (bs [0,6,25,26,27,28]) (.seq (.cond (t 28) .skip (.exit 0)) (bs [0,6,25,26,27]) (.seq (.block 2 (.seq (.ops r_m_7) (bs [0,6,8,25,26,27]) (.seq (.seq (.ops r_m_8) (bs [0,6,8,10,25,26,27]) (.seq (.ops r_m_9) (bs [0,6,8,25,26,27,59]) (.cond (t 59) (.seq (.ops r_m_10) (bs [4,5]) .ret) .skip))) (bs [0,6,8,25,26,27]) (.ops r_m_11)))) (bs [0,6,25,26,27]) (.ops r_m_12))))
def r_m_14:List CI:=[mv 67 (t 0),ca 68 n_M [(t 67)],mv 66 (t 68),ex 69 66 0,ex 70 66 1,ex 71 66 2,mv 11 (t 69),mv 12 (t 70),mv 13 (t 71)]
def r_m_15:List CI:=[mv 72 (t 13),bi .neq 73 (t 72) (i 0)]
def r_m_16:List CI:=[mv 74 (t 13),mv 4 (.c (.string ⟨#[]⟩)),mv 5 (t 74)]
def r_m_17:List CI:=[oo 75 (.makeMap),oo 14 (.alloc [(.map none)]),st 1 14 (t 75)]
def r_m_18:List CI:=[mv 76 (t 11),oo 77 (.makeFunc (.func n_5) [] [(t 6),(t 14)]),ca 78 n_j [(t 76),(t 77)],mv 15 (t 78)]
def r_m_19:List CI:=[l 79 14,oo 80 (.blt .lenMap [(t 79)]),mv 81 (t 15),le 82 (t 81),bi .lss 83 (t 80) (t 82)]
def r_m_20:List CI:=[mv 4 (.c (.string ⟨#[]⟩)),mv 5 (i 7)]
def r_m_21:List CI:=[mv 84 (t 0),oo 85 (.strIdx (t 84) (i 0)),mv 86 (t 15),ca 87 n_T [(t 85),(t 86)],mv 88 (t 12),ap 89 1 1 (t 87) (t 88),ca 90 n_8 [(t 89)],mv 4 (t 90),mv 5 (i 0)]
def c_m:CC:=(.seq (.ops r_5) (bs [0,1]) (.seq (.seq (.ops r_m_2) (bs [0,1,23]) (.cond (t 23) (.seq (.ops r_m_3) (bs [4,5]) .ret) .skip)) (bs [0,1]) (.seq (.ops r_m_4) (bs [0,1,6]) (.seq (.seq (.ops r_m_5) (bs [0,6,25,26,27]) (.block 0 (.loop (bs [0,6,25,26,27]) c_m_13))) (bs [0,6]) (.seq (.ops r_m_14) (bs [0,6,11,12,13]) (.seq (.seq (.ops r_m_15) (bs [0,6,11,12,13,73]) (.cond (t 73) (.seq (.ops r_m_16) (bs [4,5]) .ret) .skip)) (bs [0,6,11,12]) (.seq (.ops r_m_17) (bs [0,6,11,12,14]) (.seq (.ops r_m_18) (bs [0,12,14,15]) (.seq (.seq (.ops r_m_19) (bs [0,12,15,83]) (.cond (t 83) (.seq (.ops r_m_20) (bs [4,5]) .ret) .skip)) (bs [0,12,15]) (.seq (.ops r_m_21) (bs [4,5]) .ret))))))))))
def f_m:za:=⟨91,[.tmp (bits 4),.tmp (bits 5)],c_m,none,none⟩
def r_y_1:List CI:=[bx 3 (t 1),mv 4 ff]
def r_y_2:List CI:=[mv 5 (t 0),ln 6 2 3,ca 7 n_i [(t 5),(t 6)],bi .geq 8 (t 7) (i 0),mv 4 (t 8)]
def c_y:CC:=(.seq (.ops r_y_1) (bs [0,3]) (.seq (.ops r_y_2) (bs [4]) .ret))
def f_y:za:=⟨9,[.tmp (bits 4)],c_y,none,none⟩
def r_be:List CI:=[bx 2 (t 0),bx 3 (t 1),oo 4 (.alloc [(.slice none 0 0),(.slice none 0 0),(.slice none 0 0)])]
def r_A:List CI:=[oo 17 (.makeFunc (.func n_be) [] [(t 3)]),mv 5 (t 17)]
def r_b_3:List CI:=[oo 18 (.makeFunc (.func n_A) [] [(t 3)]),mv 6 (t 18)]
def r_b_4:List CI:=[oo 7 (.alloc [(.slice none 0 0),(.slice none 0 0),(.slice none 0 0)])]
def r_b_5:List CI:=[fa 19 0 2,l 20 19,le 21 (t 20),mv 22 (i 0)]
def r_b_6:List CI:=[bi .lss 23 (t 22) (t 21)]
def r_b_7:List CI:=[ia 24 1 20 (t 22),l 25 24,mv 9 (t 25)]
def r_b_8:List CI:=[mv 28 (t 5),mv 29 (t 9),oo 30 (.call (t 28) [(t 29)]),fa 26 0 7,l 27 26,lo 1 (oo 31 (.buildSlice 1 1 [(iI 0)] [(0,(t 30))])),lo 1 (ap 32 1 8 (t 27) (t 31)),lo 2 (fa 33 0 7),lo 2 (st 1 33 (t 32))]
def r_b_9:List CI:=[bi .add 34 (t 22) (i 1),mv 22 (t 34)]
def c_b_10:CC:=(.seq (.ops r_b_6) (bs [2,3,4,5,6,7,20,21,22,23]) (.seq (.cond (t 23) .skip (.exit 0)) (bs [2,3,4,5,6,7,20,21,22]) (.seq (.block 2 (.seq (.ops r_b_7) (bs [2,3,4,5,6,7,9,20,21,22]) (.draw r_b_8))) (bs [2,3,4,5,6,7,20,21,22]) (.ops r_b_9))))
def r_b_11:List CI:=[fa 35 1 2,l 36 35,le 37 (t 36),mv 38 (i 0)]
def r_b_12:List CI:=[bi .lss 39 (t 38) (t 37)]
def r_b_13:List CI:=[ia 40 2 36 (t 38),ln 41 2 40,oo 11 (.alloc [(iI 0),(.slice none 0 0)]),st 2 11 (t 41)]
def r_b_14:List CI:=[fa 42 0 11,l 43 42,ca 44 n_X [(i 3),(t 43)],l 45 3,lo 1 (ca 46 n_v [(t 44),(t 45)]),lo 2 (oo 47 (.fld 1 none (t 46))),lo 2 (oo 48 (.build [(iI 0),(.slice none 0 0)] [(0,1,(t 47))])),oo 12 (.alloc [(iI 0),(.slice none 0 0)]),lo 2 (st 2 12 (t 48))]
def r_b_15:List CI:=[fa 49 1 11,l 50 49,le 51 (t 50),mv 52 (i 0)]
def r_b_16:List CI:=[bi .lss 53 (t 52) (t 51)]
def r_b_17:List CI:=[ia 54 1 50 (t 52),ln 55 1 54,oo 14 (.alloc [(.slice none 0 0)]),st 1 14 (t 55)]
def r_b_18:List CI:=[mv 58 (t 6),fa 59 0 14,l 60 59,oo 61 (.call (t 58) [(t 60)]),fa 56 1 12,l 57 56,lo 1 (oo 62 (.build [(.slice none 0 0)] [(0,1,(t 61))])),lo 1 (oo 63 (.buildSlice 1 1 [(.slice none 0 0)] [(0,(t 62))])),lo 1 (ap 64 1 24 (t 57) (t 63)),lo 2 (fa 65 1 12),lo 2 (st 1 65 (t 64))]
def r_b_19:List CI:=[bi .add 66 (t 52) (i 1),mv 52 (t 66)]
def c_b_20:CC:=(.seq (.ops r_b_16) (bs [2,3,4,5,6,7,12,36,37,38,50,51,52,53]) (.seq (.cond (t 53) .skip (.exit 8)) (bs [2,3,4,5,6,7,12,36,37,38,50,51,52]) (.seq (.block 10 (.seq (.ops r_b_17) (bs [2,3,4,5,6,7,12,14,36,37,38,50,51,52]) (.draw r_b_18))) (bs [2,3,4,5,6,7,12,36,37,38,50,51,52]) (.ops r_b_19))))
def r_b_21:List CI:=[fa 67 1 7,l 68 67,ln 69 2 12,oo 70 (.buildSlice 1 2 [(iI 0),(.slice none 0 0)] [(0,(t 69))]),ap 71 2 32 (t 68) (t 70),fa 72 1 7,st 1 72 (t 71)]
def r_b_22:List CI:=[bi .add 73 (t 38) (i 1),mv 38 (t 73)]
def c_b_23:CC:=(.seq (.ops r_b_12) (bs [2,3,4,5,6,7,36,37,38,39]) (.seq (.cond (t 39) .skip (.exit 4)) (bs [2,3,4,5,6,7,36,37,38]) (.seq (.block 6 (.seq (.ops r_b_13) (bs [2,3,4,5,6,7,11,36,37,38]) (.seq (.draw r_b_14) (bs [2,3,4,5,6,7,11,12,36,37,38]) (.seq (.seq (.ops r_b_15) (bs [2,3,4,5,6,7,12,36,37,38,50,51,52]) (.block 8 (.loop (bs [2,3,4,5,6,7,12,36,37,38,50,51,52]) c_b_20))) (bs [2,3,4,5,6,7,12,36,37,38]) (.ops r_b_21))))) (bs [2,3,4,5,6,7,36,37,38]) (.ops r_b_22))))
def r_b_24:List CI:=[fa 74 2 2,l 75 74,le 76 (t 75),mv 77 (i 0)]
def r_b_25:List CI:=[bi .lss 78 (t 77) (t 76)]
def r_b_26:List CI:=[ia 79 4 75 (t 77),ln 80 4 79,oo 16 (.alloc [(iI 0),(iI 0),(iI 0),(.slice none 0 0)]),st 4 16 (t 80)]
def r_b_27:List CI:=[mv 85 (t 5),fa 86 1 16,fa 87 0 86,l 88 87,oo 89 (.call (t 85) [(t 88)]),mv 93 (t 6),fa 94 1 16,fa 95 2 94,l 96 95,lo 1 (oo 97 (.call (t 93) [(t 96)])),fa 81 2 7,l 82 81,fa 83 0 16,l 84 83,fa 90 1 16,fa 91 1 90,l 92 91,lo 2 (oo 98 (.build [(iI 0),(iI 0),(.slice none 0 0)] [(0,1,(t 89)),(1,1,(t 92)),(2,1,(t 97))])),lo 2 (oo 99 (.build [(iI 0),(iI 0),(iI 0),(.slice none 0 0)] [(0,1,(t 84)),(1,3,(t 98))])),lo 2 (oo 100 (.buildSlice 1 4 [(iI 0),(iI 0),(iI 0),(.slice none 0 0)] [(0,(t 99))])),lo 2 (ap 101 4 48 (t 82) (t 100)),lo 3 (fa 102 2 7),lo 3 (st 1 102 (t 101))]
def r_b_28:List CI:=[bi .add 103 (t 77) (i 1),mv 77 (t 103)]
def c_b_29:CC:=(.seq (.ops r_b_25) (bs [4,5,6,7,75,76,77,78]) (.seq (.cond (t 78) .skip (.exit 12)) (bs [4,5,6,7,75,76,77]) (.seq (.block 14 (.seq (.ops r_b_26) (bs [4,5,6,7,16,75,76,77]) (.draw r_b_27))) (bs [4,5,6,7,75,76,77]) (.ops r_b_28))))
def r_b_30:List CI:=[ln 104 3 7,st 3 4 (t 104)]
def c_b:CC:=(.seq (.ops r_be) (bs [2,3,4]) (.seq (.ops r_A) (bs [2,3,4,5]) (.seq (.ops r_b_3) (bs [2,3,4,5,6]) (.seq (.ops r_b_4) (bs [2,3,4,5,6,7]) (.seq (.seq (.ops r_b_5) (bs [2,3,4,5,6,7,20,21,22]) (.block 0 (.loop (bs [2,3,4,5,6,7,20,21,22]) c_b_10))) (bs [2,3,4,5,6,7]) (.seq (.seq (.ops r_b_11) (bs [2,3,4,5,6,7,36,37,38]) (.block 4 (.loop (bs [2,3,4,5,6,7,36,37,38]) c_b_23))) (bs [2,4,5,6,7]) (.seq (.seq (.ops r_b_24) (bs [4,5,6,7,75,76,77]) (.block 12 (.loop (bs [4,5,6,7,75,76,77]) c_b_29))) (bs [4,7]) (.seq (.ops r_b_30) (bs [4]) .ret))))))))
def f_b:za:=⟨105,[.cell (some 3) (bits 4)],c_b,none,none⟩
def r_v_1:List CI:=[bx 2 (t 0),oo 4 (.alloc [(iI 0),(iI 0)])]
def r_v_2:List CI:=[mv 7 (t 1),le 8 (t 7),mv 9 (i 0)]
def r_v_3:List CI:=[bi .lss 10 (t 9) (t 8)]
def r_v_4:List CI:=[ia 11 4 7 (t 9),ln 12 4 11,oo 6 (.alloc [(iI 0),(iI 0),(iI 0),(iI 0)]),st 4 6 (t 12)]
def r_v_5:List CI:=[fa 13 0 6,ln 14 2 13,ln 15 2 2,oo 16 (.bin .eql (.leaves [0,1]) (t 14) (t 15))]
def r_v_6:List CI:=[fa 17 2 6,ln 18 2 17,st 2 4 (t 18)]
def r_v_7:List CI:=[bi .add 19 (t 9) (i 1),mv 9 (t 19)]
def c_v_8:CC:=(.seq (.ops r_v_3) (bs [2,4,7,8,9,10]) (.seq (.cond (t 10) .skip (.exit 0)) (bs [2,4,7,8,9]) (.seq (.block 2 (.seq (.ops r_v_4) (bs [2,4,6,7,8,9]) (.seq (.ops r_v_5) (bs [2,4,6,7,8,9,16]) (.cond (t 16) (.seq (.ops r_v_6) (bs [4]) .ret) .skip)))) (bs [2,4,7,8,9]) (.ops r_v_7))))
def r_v_9:List CI:=[ln 20 2 2,st 2 4 (t 20)]
def c_v:CC:=(.seq (.ops r_v_1) (bs [1,2,4]) (.seq (.seq (.ops r_v_2) (bs [2,4,7,8,9]) (.block 0 (.loop (bs [2,4,7,8,9]) c_v_8))) (bs [2,4]) (.seq (.ops r_v_9) (bs [4]) .ret)))
def f_v:za:=⟨21,[.cell (some 2) (bits 4)],c_v,none,none⟩
def r_X_1:List CI:=[oo 4 (.alloc [(iI 0),(iI 0)])]
def r_X_2:List CI:=[mv 5 (t 0),mv 6 (t 1),oo 7 (.build [(iI 0),(iI 0)] [(0,1,(t 5)),(1,1,(t 6))]),st 2 4 (t 7)]
def c_X:CC:=(.seq (.ops r_X_1) (bs [0,1,4]) (.seq (.ops r_X_2) (bs [4]) .ret))
def f_X:za:=⟨8,[.cell (some 2) (bits 4)],c_X,none,none⟩
def r_bo:List CI:=[bx 1 (t 0),mv 2 ff]
def r_bm:List CI:=[fa 6 0 1,l 7 6,le 8 (t 7),bi .lss 9 (t 8) (i 1),mv 10 (t 9),gu 10 false (fa 11 0 1),gu 10 false (l 12 11),gu 10 false (le 13 (t 12)),gu 10 false (bi .gtr 14 (t 13) (i 24)),pk 15 (t 10) tt (t 14),mv 16 (t 15),gu 16 false (fa 17 1 1),gu 16 false (l 18 17),gu 16 false (le 19 (t 18)),gu 16 false (bi .gtr 20 (t 19) (i 60)),pk 21 (t 16) tt (t 20),mv 22 (t 21),gu 22 false (fa 23 2 1),gu 22 false (l 24 23),gu 22 false (le 25 (t 24)),gu 22 false (bi .gtr 26 (t 25) (i 40)),pk 27 (t 22) tt (t 26)]
def r_bn:List CI:=[mv 2 ff]
def r_bg:List CI:=[fa 28 0 1,l 29 28,ca 30 n_O [(t 29)],no 31 30,mv 32 (t 31),gu 32 false (fa 33 0 1),gu 32 false (l 34 33),gu 32 false (ca 35 n_4 [(t 34),(fc n_bo)]),gu 32 false (no 36 35),pk 37 (t 32) tt (t 36)]
def r_p_5:List CI:=[mv 2 ff]
def r_p_6:List CI:=[fa 38 1 1,l 39 38,ca 40 n_l [(t 39),(fc n_bm)],ca 41 n_O [(t 40)],no 42 41]
def r_p_7:List CI:=[mv 2 ff]
def r_p_8:List CI:=[mv 3 (fc n_bn)]
def r_p_9:List CI:=[oo 4 (.alloc [(iI 0)]),st 1 4 (i (-1))]
def r_p_10:List CI:=[oo 43 (.makeFunc (.func n_bg) [] [(t 4),(t 1)]),mv 5 (t 43)]
def r_p_11:List CI:=[fa 44 1 1,l 45 44,mv 46 (t 3),ca 47 n_N [(t 45),(t 46)],mv 48 (t 47),gu 48 true (fa 49 2 1),gu 48 true (l 50 49),gu 48 true (mv 51 (t 5)),gu 48 true (ca 52 n_P [(t 50),(t 51)]),pk 53 (t 48) (t 52) ff,mv 2 (t 53)]
def c_p:CC:=(.seq (.ops r_bo) (bs [1]) (.seq (.seq (.ops r_bm) (bs [1,27]) (.cond (t 27) (.seq (.ops r_bn) (bs [2]) .ret) .skip)) (bs [1]) (.seq (.seq (.ops r_bg) (bs [1,37]) (.cond (t 37) (.seq (.ops r_p_5) (bs [2]) .ret) .skip)) (bs [1]) (.seq (.seq (.ops r_p_6) (bs [1,42]) (.cond (t 42) (.seq (.ops r_p_7) (bs [2]) .ret) .skip)) (bs [1]) (.seq (.ops r_p_8) (bs [1,3]) (.seq (.ops r_p_9) (bs [1,3,4]) (.seq (.ops r_p_10) (bs [1,3,5]) (.seq (.ops r_p_11) (bs [2]) .ret))))))))
def f_p:za:=⟨54,[.tmp (bits 2)],c_p,none,none⟩
def r_k_1:List CI:=[bx 1 (t 0),mv 2 (.c (.string ⟨#[]⟩))]
def r_k_2:List CI:=[ca 12 n_bb [],mv 3 (t 12)]
def r_k_3:List CI:=[mv 13 (t 3),fa 14 0 1,l 15 14,le 16 (t 15),ca 17 n_K [(t 13),(t 16)]]
def r_k_4:List CI:=[fa 18 0 1,l 19 18,le 20 (t 19),mv 21 (i 0)]
def r_k_5:List CI:=[bi .lss 22 (t 21) (t 20)]
def r_k_6:List CI:=[ia 23 1 19 (t 21),l 24 23,mv 5 (t 24)]
def r_k_7:List CI:=[mv 25 (t 3),mv 26 (t 5),ca 27 n_0 [(t 25),(t 26)]]
def r_k_8:List CI:=[bi .add 28 (t 21) (i 1),mv 21 (t 28)]
def c_k_9:CC:=(.seq (.ops r_k_5) (bs [1,3,19,20,21,22]) (.seq (.cond (t 22) .skip (.exit 0)) (bs [1,3,19,20,21]) (.seq (.block 2 (.seq (.ops r_k_6) (bs [1,3,5,19,20,21]) (.ops r_k_7))) (bs [1,3,19,20,21]) (.ops r_k_8))))
def r_k_10:List CI:=[mv 29 (t 3),fa 30 1 1,l 31 30,le 32 (t 31),ca 33 n_K [(t 29),(t 32)]]
def r_k_11:List CI:=[fa 34 1 1,l 35 34,le 36 (t 35),mv 37 (i 0)]
def r_k_12:List CI:=[bi .lss 38 (t 37) (t 36)]
def r_k_13:List CI:=[ia 39 2 35 (t 37),ln 40 2 39,oo 7 (.alloc [(iI 0),(.slice none 0 0)]),st 2 7 (t 40)]
def r_k_14:List CI:=[mv 41 (t 3),fa 42 0 7,l 43 42,ca 44 n_Y [(t 41),(t 43)]]
def r_k_15:List CI:=[mv 45 (t 3),fa 46 1 7,l 47 46,le 48 (t 47),ca 49 n_K [(t 45),(t 48)]]
def r_k_16:List CI:=[fa 50 1 7,l 51 50,le 52 (t 51),mv 53 (i 0)]
def r_k_17:List CI:=[bi .lss 54 (t 53) (t 52)]
def r_k_18:List CI:=[ia 55 1 51 (t 53),ln 56 1 55,oo 9 (.alloc [(.slice none 0 0)]),st 1 9 (t 56)]
def r_k_19:List CI:=[mv 57 (t 3),fa 58 0 9,l 59 58,ca 60 n_u [(t 57),(t 59)]]
def r_k_20:List CI:=[bi .add 61 (t 53) (i 1),mv 53 (t 61)]
def c_k_21:CC:=(.seq (.ops r_k_17) (bs [1,3,35,36,37,51,52,53,54]) (.seq (.cond (t 54) .skip (.exit 8)) (bs [1,3,35,36,37,51,52,53]) (.seq (.block 10 (.seq (.ops r_k_18) (bs [1,3,9,35,36,37,51,52,53]) (.ops r_k_19))) (bs [1,3,35,36,37,51,52,53]) (.ops r_k_20))))
def r_k_22:List CI:=[bi .add 62 (t 37) (i 1),mv 37 (t 62)]
def c_k_23:CC:=(.seq (.ops r_k_12) (bs [1,3,35,36,37,38]) (.seq (.cond (t 38) .skip (.exit 4)) (bs [1,3,35,36,37]) (.seq (.block 6 (.seq (.ops r_k_13) (bs [1,3,7,35,36,37]) (.seq (.ops r_k_14) (bs [1,3,7,35,36,37]) (.seq (.ops r_k_15) (bs [1,3,7,35,36,37]) (.seq (.ops r_k_16) (bs [1,3,35,36,37,51,52,53]) (.block 8 (.loop (bs [1,3,35,36,37,51,52,53]) c_k_21))))))) (bs [1,3,35,36,37]) (.ops r_k_22))))
def r_k_24:List CI:=[mv 63 (t 3),fa 64 2 1,l 65 64,le 66 (t 65),ca 67 n_K [(t 63),(t 66)]]
def r_k_25:List CI:=[fa 68 2 1,l 69 68,le 70 (t 69),mv 71 (i 0)]
def r_k_26:List CI:=[bi .lss 72 (t 71) (t 70)]
def r_k_27:List CI:=[ia 73 4 69 (t 71),ln 74 4 73,oo 11 (.alloc [(iI 0),(iI 0),(iI 0),(.slice none 0 0)]),st 4 11 (t 74)]
def r_k_28:List CI:=[mv 75 (t 3),fa 76 0 11,l 77 76,ca 78 n_K [(t 75),(t 77)]]
def r_k_29:List CI:=[mv 79 (t 3),fa 80 1 11,fa 81 0 80,l 82 81,ca 83 n_0 [(t 79),(t 82)]]
def r_k_30:List CI:=[mv 84 (t 3),fa 85 1 11,fa 86 1 85,l 87 86,ca 88 n_K [(t 84),(t 87)]]
def r_k_31:List CI:=[mv 89 (t 3),fa 90 1 11,fa 91 2 90,l 92 91,ca 93 n_u [(t 89),(t 92)]]
def r_k_32:List CI:=[bi .add 94 (t 71) (i 1),mv 71 (t 94)]
def c_k_33:CC:=(.seq (.ops r_k_26) (bs [3,69,70,71,72]) (.seq (.cond (t 72) .skip (.exit 12)) (bs [3,69,70,71]) (.seq (.block 14 (.seq (.ops r_k_27) (bs [3,11,69,70,71]) (.seq (.ops r_k_28) (bs [3,11,69,70,71]) (.seq (.ops r_k_29) (bs [3,11,69,70,71]) (.seq (.ops r_k_30) (bs [3,11,69,70,71]) (.ops r_k_31)))))) (bs [3,69,70,71]) (.ops r_k_32))))
def r_k_34:List CI:=[mv 95 (t 3),ca 96 n_1 [(t 95),(.c (.int .u8 80))],mv 2 (t 96)]
def c_k:CC:=(.seq (.ops r_k_1) (bs [1]) (.seq (.ops r_k_2) (bs [1,3]) (.seq (.ops r_k_3) (bs [1,3]) (.seq (.seq (.ops r_k_4) (bs [1,3,19,20,21]) (.block 0 (.loop (bs [1,3,19,20,21]) c_k_9))) (bs [1,3]) (.seq (.ops r_k_10) (bs [1,3]) (.seq (.seq (.ops r_k_11) (bs [1,3,35,36,37]) (.block 4 (.loop (bs [1,3,35,36,37]) c_k_23))) (bs [1,3]) (.seq (.ops r_k_24) (bs [1,3]) (.seq (.seq (.ops r_k_25) (bs [3,69,70,71]) (.block 12 (.loop (bs [3,69,70,71]) c_k_33))) (bs [3]) (.seq (.ops r_k_34) (bs [2]) .ret)))))))))
def f_k:za:=⟨97,[.tmp (bits 2)],c_k,none,none⟩
def r_bh:List CI:=[oo 2 (.alloc [(.bool false)])]
def r_I_2:List CI:=[oo 3 (.makeFunc (.func n_bh) [] [(t 2)])]
def r_I_3:List CI:=[mv 4 (t 0),oo 5 (.call (t 4) [])]
def r_I_4:List CI:=[st 1 2 tt]
def c_I:CC:=(.seq (.ops r_bh) (bs [0,2]) (.ops r_I_2))
def zgs:CC:=(.seq (.ops []) (bs [0,2]) (.seq (.ops r_I_3) (bs [2]) (.seq (.ops r_I_4) (bs [2]) .ret)))
def f_I:za:=⟨6,[.cell none (bits 2)],c_I,some ⟨(t 3),[],(bs [0,2]),zgs⟩,none⟩
def r_bp_1:List CI:=[l 2 0,ca 3 n_D [(t 2),(.c (.int .u8 80))],ca 4 n_c [(t 3)],st 3 1 (t 4)]
def c_bp:CC:=(.ops r_bp_1)
def f_bp:za:=⟨5,[],c_bp,none,none⟩
def r_D_1:List CI:=[mv 4 (.c (.pointer none))]
def r_D_2:List CI:=[mv 9 (t 0),oo 10 (.blt .lenStr [(t 9)]),bi .sub 11 (t 10) (i 2),mv 5 (t 11)]
def r_D_3:List CI:=[mv 12 (t 5),bi .lss 13 (t 12) (i 1),mv 14 (t 13),gu 14 false (mv 15 (t 0)),gu 14 false (oo 16 (.strIdx (t 15) (i 0))),gu 14 false (mv 17 (t 1)),gu 14 false (bi .neq 18 (t 16) (t 17)),pk 19 (t 14) tt (t 18),mv 20 (t 19),gu 20 false (mv 21 (t 0)),gu 20 false (mv 22 (t 5)),gu 20 false (oo 23 (.strSlice (t 21) none (some (t 22)))),gu 20 false (oo 24 (.s2b (t 23))),lo 1 (gu 20 false (ca 25 n_F [(t 24)])),lo 2 (gu 20 false (oo 26 (.b2s (t 25)))),gu 20 false (mv 27 (t 0)),gu 20 false (mv 28 (t 5)),gu 20 false (oo 29 (.strSlice (t 27) (some (t 28)) none)),lo 2 (gu 20 false (bi .neq 30 (t 26) (t 29))),lo 2 (pk 31 (t 20) tt (t 30))]
def r_D_4:List CI:=[oo 32 (.build [] []),oo 33 (.mkI 192 (t 32)),on (.panic (t 33))]
def r_D_5:List CI:=[mv 34 (t 0),mv 35 (t 5),oo 36 (.strSlice (t 34) (some (i 1)) (some (t 35))),oo 37 (.build [(.slice none 0 0),(.map none),(.string ⟨#[]⟩)] [(2,1,(t 36))]),bx 38 (t 37),mv 6 (t 38)]
def r_D_6:List CI:=[mv 39 (t 6),ca 40 n_C [(t 39)],mv 41 (i 0)]
def r_D_7:List CI:=[bi .lss 42 (t 41) (t 40)]
def r_D_8:List CI:=[mv 43 (t 6),ca 44 n_o [(t 43)],mv 7 (t 44)]
def r_D_9:List CI:=[mv 45 (t 6),ca 46 n_o [(t 45)],mv 8 (t 46)]
def r_D_10:List CI:=[mv 47 (t 6),mv 48 (t 6),nc 49 48,fa 50 0 49,fa 51 0 50,l 52 51,mv 53 (t 7),mv 54 (t 8),oo 55 (.build [(iI 0),(iI 0)] [(0,1,(t 53)),(1,1,(t 54))]),oo 56 (.buildSlice 1 2 [(iI 0),(iI 0)] [(0,(t 55))]),ap 57 2 16 (t 52) (t 56),nc 58 47,fa 59 0 58,fa 60 0 59,st 1 60 (t 57)]
def r_D_11:List CI:=[bi .add 61 (t 41) (i 1),mv 41 (t 61)]
def c_D_12:CC:=(.seq (.ops r_D_7) (bs [6,40,41,42]) (.seq (.cond (t 42) .skip (.exit 0)) (bs [6,40,41]) (.seq (.block 2 (.seq (.ops r_D_8) (bs [6,7,40,41]) (.seq (.ops r_D_9) (bs [6,7,8,40,41]) (.ops r_D_10)))) (bs [6,40,41]) (.ops r_D_11))))
def r_D_13:List CI:=[mv 62 (t 6),mv 4 (t 62)]
def c_D:CC:=(.seq (.ops r_D_1) (bs [0,1]) (.seq (.ops r_D_2) (bs [0,1,5]) (.seq (.seq (.draw r_D_3) (bs [0,5,31]) (.cond (t 31) (.ops r_D_4) .skip)) (bs [0,5]) (.seq (.ops r_D_5) (bs [6]) (.seq (.seq (.ops r_D_6) (bs [6,40,41]) (.block 0 (.loop (bs [6,40,41]) c_D_12))) (bs [6]) (.seq (.ops r_D_13) (bs [4]) .ret))))))
def f_D:za:=⟨63,[.tmp (bits 4)],c_D,none,none⟩
def r_c_1:List CI:=[oo 2 (.alloc [(.slice none 0 0),(.slice none 0 0),(.slice none 0 0)])]
def r_c_2:List CI:=[oo 3 (.alloc [(.slice none 0 0),(.slice none 0 0),(.slice none 0 0)])]
def r_c_3:List CI:=[mv 6 (t 0),ca 7 n_C [(t 6)],mv 8 (i 0)]
def r_c_4:List CI:=[bi .lss 9 (t 8) (t 7)]
def r_c_5:List CI:=[mv 12 (t 0),ca 13 n_G [(t 12),(i 4)],fa 10 0 3,l 11 10,lo 1 (oo 14 (.buildSlice 1 1 [(iI 0)] [(0,(t 13))])),lo 1 (ap 15 1 8 (t 11) (t 14)),lo 2 (fa 16 0 3),lo 2 (st 1 16 (t 15))]
def r_c_6:List CI:=[bi .add 17 (t 8) (i 1),mv 8 (t 17)]
def c_c_7:CC:=(.seq (.ops r_c_4) (bs [0,2,3,7,8,9]) (.seq (.cond (t 9) .skip (.exit 0)) (bs [0,2,3,7,8]) (.seq (.block 2 (.draw r_c_5)) (bs [0,2,3,7,8]) (.ops r_c_6))))
def r_c_8:List CI:=[mv 18 (t 0),ca 19 n_C [(t 18)],mv 20 (i 0)]
def r_c_9:List CI:=[bi .lss 21 (t 20) (t 19)]
def r_c_10:List CI:=[mv 22 (t 0),ca 23 n_G [(t 22),(i 3)],oo 24 (.build [(iI 0),(.slice none 0 0)] [(0,1,(t 23))]),oo 4 (.alloc [(iI 0),(.slice none 0 0)]),st 2 4 (t 24)]
def r_c_11:List CI:=[mv 25 (t 0),ca 26 n_C [(t 25)],mv 27 (i 0)]
def r_c_12:List CI:=[bi .lss 28 (t 27) (t 26)]
def r_c_13:List CI:=[mv 31 (t 0),ca 32 n_q [(t 31)],fa 29 1 4,l 30 29,lo 1 (oo 33 (.build [(.slice none 0 0)] [(0,1,(t 32))])),lo 1 (oo 34 (.buildSlice 1 1 [(.slice none 0 0)] [(0,(t 33))])),lo 1 (ap 35 1 24 (t 30) (t 34)),lo 2 (fa 36 1 4),lo 2 (st 1 36 (t 35))]
def r_c_14:List CI:=[bi .add 37 (t 27) (i 1),mv 27 (t 37)]
def c_c_15:CC:=(.seq (.ops r_c_12) (bs [0,2,3,4,19,20,26,27,28]) (.seq (.cond (t 28) .skip (.exit 8)) (bs [0,2,3,4,19,20,26,27]) (.seq (.block 10 (.draw r_c_13)) (bs [0,2,3,4,19,20,26,27]) (.ops r_c_14))))
def r_c_16:List CI:=[fa 38 1 3,l 39 38,ln 40 2 4,oo 41 (.buildSlice 1 2 [(iI 0),(.slice none 0 0)] [(0,(t 40))]),ap 42 2 32 (t 39) (t 41),fa 43 1 3,st 1 43 (t 42)]
def r_c_17:List CI:=[bi .add 44 (t 20) (i 1),mv 20 (t 44)]
def c_c_18:CC:=(.seq (.ops r_c_9) (bs [0,2,3,19,20,21]) (.seq (.cond (t 21) .skip (.exit 4)) (bs [0,2,3,19,20]) (.seq (.block 6 (.seq (.ops r_c_10) (bs [0,2,3,4,19,20]) (.seq (.seq (.ops r_c_11) (bs [0,2,3,4,19,20,26,27]) (.block 8 (.loop (bs [0,2,3,4,19,20,26,27]) c_c_15))) (bs [0,2,3,4,19,20]) (.ops r_c_16)))) (bs [0,2,3,19,20]) (.ops r_c_17))))
def r_c_19:List CI:=[mv 45 (t 0),ca 46 n_C [(t 45)],mv 47 (i 0)]
def r_c_20:List CI:=[bi .lss 48 (t 47) (t 46)]
def r_c_21:List CI:=[oo 5 (.alloc [(iI 0),(iI 0),(iI 0),(.slice none 0 0)])]
def r_c_22:List CI:=[mv 49 (t 0),ca 50 n_o [(t 49)],fa 51 0 5,st 1 51 (t 50)]
def r_c_23:List CI:=[mv 52 (t 0),ca 53 n_G [(t 52),(i 4)],fa 54 1 5,fa 55 0 54,st 1 55 (t 53)]
def r_c_24:List CI:=[mv 56 (t 0),ca 57 n_o [(t 56)],fa 58 1 5,fa 59 1 58,st 1 59 (t 57)]
def r_c_25:List CI:=[mv 60 (t 0),ca 61 n_q [(t 60)],fa 62 1 5,fa 63 2 62,st 1 63 (t 61)]
def r_c_26:List CI:=[fa 64 2 3,l 65 64,ln 66 4 5,oo 67 (.buildSlice 1 4 [(iI 0),(iI 0),(iI 0),(.slice none 0 0)] [(0,(t 66))]),ap 68 4 48 (t 65) (t 67),fa 69 2 3,st 1 69 (t 68)]
def r_c_27:List CI:=[bi .add 70 (t 47) (i 1),mv 47 (t 70)]
def c_c_28:CC:=(.seq (.ops r_c_20) (bs [0,2,3,46,47,48]) (.seq (.cond (t 48) .skip (.exit 12)) (bs [0,2,3,46,47]) (.seq (.block 14 (.seq (.ops r_c_21) (bs [0,2,3,5,46,47]) (.seq (.ops r_c_22) (bs [0,2,3,5,46,47]) (.seq (.ops r_c_23) (bs [0,2,3,5,46,47]) (.seq (.ops r_c_24) (bs [0,2,3,5,46,47]) (.seq (.ops r_c_25) (bs [0,2,3,5,46,47]) (.ops r_c_26))))))) (bs [0,2,3,46,47]) (.ops r_c_27))))
def r_c_29:List CI:=[ln 71 3 3,st 3 2 (t 71)]
def c_c:CC:=(.seq (.ops r_c_1) (bs [0,2]) (.seq (.ops r_c_2) (bs [0,2,3]) (.seq (.seq (.ops r_c_3) (bs [0,2,3,7,8]) (.block 0 (.loop (bs [0,2,3,7,8]) c_c_7))) (bs [0,2,3]) (.seq (.seq (.ops r_c_8) (bs [0,2,3,19,20]) (.block 4 (.loop (bs [0,2,3,19,20]) c_c_18))) (bs [0,2,3]) (.seq (.seq (.ops r_c_19) (bs [0,2,3,46,47]) (.block 12 (.loop (bs [0,2,3,46,47]) c_c_28))) (bs [2,3]) (.seq (.ops r_c_29) (bs [2]) .ret))))))
def f_c:za:=⟨72,[.cell (some 3) (bits 2)],c_c,none,none⟩
def r_9_1:List CI:=[bx 1 (t 0),mv 2 ff]
def r_9_2:List CI:=[fa 3 0 1,l 4 3,ca 5 n_3 [(t 4),(i 60)],mv 6 (t 5),gu 6 true (fa 7 1 1),gu 6 true (l 8 7),gu 6 true (oo 9 (.build [(.slice none 0 0)] [(0,1,(t 8))])),gu 6 true (ca 10 n_6 [(t 9)]),pk 11 (t 6) (t 10) ff,mv 2 (t 11)]
def c_9:CC:=(.seq (.ops r_9_1) (bs [1]) (.seq (.ops r_9_2) (bs [2]) .ret))
def f_9:za:=⟨12,[.tmp (bits 2)],c_9,none,none⟩
def r_2_1:List CI:=[bx 1 (t 0),mv 2 (.c (.string ⟨#[]⟩))]
def r_2_2:List CI:=[ca 4 n_bb [],mv 3 (t 4)]
def r_2_3:List CI:=[mv 5 (t 3),fa 6 0 1,l 7 6,ca 8 n_Y [(t 5),(t 7)]]
def r_2_4:List CI:=[mv 9 (t 3),fa 10 1 1,l 11 10,ca 12 n_u [(t 9),(t 11)]]
def r_2_5:List CI:=[mv 13 (t 3),ca 14 n_1 [(t 13),(.c (.int .u8 77))],mv 2 (t 14)]
def c_2:CC:=(.seq (.ops r_2_1) (bs [1]) (.seq (.ops r_2_2) (bs [1,3]) (.seq (.ops r_2_3) (bs [1,3]) (.seq (.ops r_2_4) (bs [3]) (.seq (.ops r_2_5) (bs [2]) .ret)))))
def f_2:za:=⟨15,[.tmp (bits 2)],c_2,none,none⟩
def r_bk_1:List CI:=[l 3 0,ca 4 n_D [(t 3),(.c (.int .u8 77))],mv 2 (t 4)]
def r_bk_2:List CI:=[mv 5 (t 2),ca 6 n_G [(t 5),(i 3)],fa 7 0 1,st 1 7 (t 6)]
def r_bk_3:List CI:=[mv 8 (t 2),ca 9 n_q [(t 8)],fa 10 1 1,st 1 10 (t 9)]
def c_bk:CC:=(.seq (.ops r_bk_1) (bs [1,2]) (.seq (.ops r_bk_2) (bs [1,2]) (.ops r_bk_3)))
def f_bk:za:=⟨11,[],c_bk,none,none⟩
def r_G_1:List CI:=[mv 4 (i 0)]
def r_G_2:List CI:=[mv 6 (t 0),mv 7 (t 0),ca 8 n_o [(t 7)],ca 9 n_R [(t 6),(t 8)],oo 5 (.alloc [(iI 0),(iI 0)]),st 2 5 (t 9)]
def r_G_3:List CI:=[fa 10 0 5,l 11 10,mv 12 (t 1),bi .neq 13 (t 11) (t 12)]
def r_G_4:List CI:=[oo 14 (.build [] []),oo 15 (.mkI 192 (t 14)),on (.panic (t 15))]
def r_G_5:List CI:=[fa 16 1 5,l 17 16,mv 4 (t 17)]
def c_G:CC:=(.seq (.ops r_G_1) (bs [0,1]) (.seq (.ops r_G_2) (bs [1,5]) (.seq (.seq (.ops r_G_3) (bs [5,13]) (.cond (t 13) (.ops r_G_4) .skip)) (bs [5]) (.seq (.ops r_G_5) (bs [4]) .ret))))
def f_G:za:=⟨18,[.tmp (bits 4)],c_G,none,none⟩
def r_q_1:List CI:=[mv 2 (.c (.slice none 0 0))]
def r_q_2:List CI:=[mv 3 (.c (.slice none 0 0))]
def r_q_3:List CI:=[mv 5 (t 0),ca 6 n_C [(t 5)],mv 7 (i 0)]
def r_q_4:List CI:=[bi .lss 8 (t 7) (t 6)]
def r_q_5:List CI:=[mv 9 (t 0),ca 10 n_o [(t 9)],mv 4 (t 10)]
def r_q_6:List CI:=[mv 20 (t 4),bi .and 21 (t 20) (i 1),bi .eql 22 (t 21) (i 1),mv 19 (t 22)]
def r_q_7:List CI:=[mv 23 (t 3),mv 24 (t 0),mv 25 (t 4),bi .shr 26 (t 25) (.c (.int .u64 1)),ca 27 n_R [(t 24),(t 26)],oo 28 (.buildSlice 1 2 [(iI 0),(iI 0)] [(0,(t 27))]),ap 29 2 16 (t 23) (t 28),mv 3 (t 29)]
def r_q_8:List CI:=[mv 31 (t 4),bi .and 32 (t 31) (i 2),bi .eql 33 (t 32) (i 0),mv 30 (t 33)]
def r_q_9:List CI:=[mv 34 (t 3),mv 35 (t 4),bi .shr 36 (t 35) (.c (.int .u64 2)),oo 37 (.build [(iI 0),(iI 0)] [(0,1,(i 1)),(1,1,(t 36))]),oo 38 (.buildSlice 1 2 [(iI 0),(iI 0)] [(0,(t 37))]),ap 39 2 16 (t 34) (t 38),mv 3 (t 39)]
def r_q_10:List CI:=[mv 11 (t 3),mv 12 (t 4),bi .shr 13 (t 12) (.c (.int .u64 2)),oo 14 (.un .neg (t 13)),bi .sub 15 (t 14) (i 1),oo 16 (.build [(iI 0),(iI 0)] [(0,1,(i 1)),(1,1,(t 15))]),oo 17 (.buildSlice 1 2 [(iI 0),(iI 0)] [(0,(t 16))]),ap 18 2 16 (t 11) (t 17),mv 3 (t 18)]
def r_q_11:List CI:=[bi .add 40 (t 7) (i 1),mv 7 (t 40)]
def c_q_12:CC:=(.seq (.ops r_q_4) (bs [0,3,6,7,8]) (.seq (.cond (t 8) .skip (.exit 0)) (bs [0,3,6,7]) (.seq (.block 2 (.seq (.ops r_q_5) (bs [0,3,4,6,7]) (.block 4 (.seq (.ops r_q_6) (bs [0,3,4,6,7,19]) (.cond (t 19) (.ops r_q_7) (.seq (.ops r_q_8) (bs [0,3,4,6,7,30]) (.cond (t 30) (.ops r_q_9) (.ops r_q_10)))))))) (bs [0,3,6,7]) (.ops r_q_11))))
def r_q_13:List CI:=[mv 41 (t 3),mv 2 (t 41)]
def c_q:CC:=(.seq (.ops r_q_1) (bs [0]) (.seq (.ops r_q_2) (bs [0,3]) (.seq (.seq (.ops r_q_3) (bs [0,3,6,7]) (.block 0 (.loop (bs [0,3,6,7]) c_q_12))) (bs [3]) (.seq (.ops r_q_13) (bs [2]) .ret))))
def f_q:za:=⟨42,[.tmp (bits 2)],c_q,none,none⟩
def r_M_1:List CI:=[mv 2 (.c (.slice none 0 0)),mv 3 (.c (.string ⟨#[]⟩)),mv 4 (i 0)]
def r_M_2:List CI:=[mv 10 (t 0),oo 11 (.blt .lenStr [(t 10)]),bi .gtr 12 (t 11) (i 80000)]
def r_M_3:List CI:=[mv 2 (.c (.slice none 0 0)),mv 3 (.c (.string ⟨#[]⟩)),mv 4 (i 3)]
def r_M_4:List CI:=[mv 14 (t 0),ca 15 n_E [(t 14)],mv 13 (t 15),ex 16 13 0,ex 17 13 1,oo 5 (.alloc [(.slice none 0 0),(.slice none 0 0),(.slice none 0 0)]),st 3 5 (t 16),mv 6 (t 17)]
def r_M_5:List CI:=[mv 18 (t 6),bi .neq 19 (t 18) (i 0)]
def r_M_6:List CI:=[mv 21 (t 0),ca 22 n_L [(t 21)],mv 20 (t 22),ex 23 20 0,ex 24 20 1,oo 7 (.alloc [(iI 0),(.slice none 0 0)]),st 2 7 (t 23),mv 8 (t 24)]
def r_M_7:List CI:=[mv 25 (t 8),bi .neq 26 (t 25) (i 0)]
def r_M_8:List CI:=[mv 2 (.c (.slice none 0 0)),mv 3 (.c (.string ⟨#[]⟩)),mv 4 (i 4)]
def r_M_9:List CI:=[mv 27 (t 0),mv 28 (t 0),oo 29 (.strIdx (t 28) (i 0)),ca 30 n_D [(t 27),(t 29)],mv 9 (t 30)]
def r_M_10:List CI:=[mv 31 (t 9),nc 32 31,fa 33 0 32,fa 34 0 33,l 35 34,mv 36 (t 9),nc 37 36,fa 38 2 37,l 39 38,mv 2 (t 35),mv 3 (t 39),mv 4 (i 0)]
def c_M:CC:=(.seq (.ops r_M_1) (bs [0]) (.seq (.seq (.ops r_M_2) (bs [0,12]) (.cond (t 12) (.seq (.ops r_M_3) (bs [2,3,4]) .ret) .skip)) (bs [0]) (.seq (.seq (.ops r_M_4) (bs [0,6]) (.seq (.ops r_M_5) (bs [0,19]) (.cond (t 19) (.seq (.ops r_M_6) (bs [0,8]) (.seq (.ops r_M_7) (bs [0,26]) (.cond (t 26) (.seq (.ops r_M_8) (bs [2,3,4]) .ret) .skip))) .skip))) (bs [0]) (.seq (.ops r_M_9) (bs [9]) (.seq (.draw r_M_10) (bs [2,3,4]) .ret)))))
def f_M:za:=⟨40,[.tmp (bits 2),.tmp (bits 3),.tmp (bits 4)],c_M,none,none⟩
def r_Z_1:List CI:=[bx 1 (t 0),mv 2 ff]
def r_Z_2:List CI:=[fa 3 0 1,l 4 3]
def r_Z_3:List CI:=[bi .eql 6 (t 4) (i 2),mv 5 (t 6)]
def r_Z_4:List CI:=[fa 7 1 1,l 8 7,ca 9 n_3 [(t 8),(i 12)],mv 2 (t 9)]
def r_Z_5:List CI:=[bi .eql 11 (t 4) (i 3),mv 10 (t 11)]
def r_Z_6:List CI:=[fa 12 1 1,l 13 12,ca 14 n_3 [(t 13),(i 60)],mv 2 (t 14)]
def r_Z_7:List CI:=[fa 15 0 1,l 16 15,bi .eql 17 (t 16) (i 4),mv 18 (t 17),gu 18 true (fa 19 1 1),gu 18 true (l 20 19),gu 18 true (ca 21 n_3 [(t 20),(i 24)]),pk 22 (t 18) (t 21) ff,mv 2 (t 22)]
def c_Z:CC:=(.seq (.ops r_Z_1) (bs [1]) (.seq (.seq (.ops r_Z_2) (bs [1,4]) (.block 0 (.seq (.ops r_Z_3) (bs [1,4,5]) (.cond (t 5) (.seq (.ops r_Z_4) (bs [2]) .ret) (.seq (.ops r_Z_5) (bs [1,10]) (.cond (t 10) (.seq (.ops r_Z_6) (bs [2]) .ret) .skip)))))) (bs [1]) (.seq (.ops r_Z_7) (bs [2]) .ret)))
def f_Z:za:=⟨23,[.tmp (bits 2)],c_Z,none,none⟩
def r_j_1:List CI:=[mv 4 (.c (.slice none 0 0))]
def r_j_2:List CI:=[mv 5 (.c (.slice none 0 0))]
def r_j_3:List CI:=[mv 8 (t 0),le 9 (t 8),mv 10 (i 0)]
def r_j_4:List CI:=[bi .lss 11 (t 10) (t 9)]
def r_j_5:List CI:=[ia 12 2 8 (t 10),ln 13 2 12,oo 7 (.alloc [(iI 0),(iI 0)]),st 2 7 (t 13)]
def r_j_6:List CI:=[mv 14 (t 5),mv 15 (t 1),ln 16 2 7,oo 17 (.call (t 15) [(t 16)]),oo 18 (.buildSlice 1 2 [(iI 0),(iI 0)] [(0,(t 17))]),ap 19 2 16 (t 14) (t 18),mv 5 (t 19)]
def r_j_7:List CI:=[bi .add 20 (t 10) (i 1),mv 10 (t 20)]
def c_j_8:CC:=(.seq (.ops r_j_4) (bs [1,5,8,9,10,11]) (.seq (.cond (t 11) .skip (.exit 0)) (bs [1,5,8,9,10]) (.seq (.block 2 (.seq (.ops r_j_5) (bs [1,5,7,8,9,10]) (.ops r_j_6))) (bs [1,5,8,9,10]) (.ops r_j_7))))
def r_j_9:List CI:=[mv 21 (t 5),mv 4 (t 21)]
def c_j:CC:=(.seq (.ops r_j_1) (bs [0,1]) (.seq (.ops r_j_2) (bs [0,1,5]) (.seq (.seq (.ops r_j_3) (bs [1,5,8,9,10]) (.block 0 (.loop (bs [1,5,8,9,10]) c_j_8))) (bs [5]) (.seq (.ops r_j_9) (bs [4]) .ret))))
def f_j:za:=⟨22,[.tmp (bits 4)],c_j,none,none⟩
def r_5_1:List CI:=[bx 3 (t 0),oo 4 (.alloc [(iI 0),(iI 0)])]
def r_5_2:List CI:=[l 8 1,ln 9 2 3,oo 10 (.lookup (.leaves [0,1]) (.agg ⟨[(iI 0),(iI 0)]⟩) true (t 8) (t 9)),mv 7 (t 10),ex 11 7 0,ex 12 7 1,oo 5 (.alloc [(iI 0),(iI 0)]),st 2 5 (t 11),mv 6 (t 12)]
def r_5_3:List CI:=[mv 13 (t 6)]
def r_5_4:List CI:=[ln 14 2 5,st 2 3 (t 14)]
def r_5_5:List CI:=[l 15 2,ln 16 2 3,on (.mapUpdate (.leaves [0,1]) (t 15) (t 16) tt)]
def r_5_6:List CI:=[ln 17 2 3,st 2 4 (t 17)]
def c_5:CC:=(.seq (.ops r_5_1) (bs [1,2,3,4]) (.seq (.seq (.ops r_5_2) (bs [2,3,4,5,6]) (.seq (.ops r_5_3) (bs [2,3,4,5,13]) (.cond (t 13) (.ops r_5_4) .skip))) (bs [2,3,4]) (.seq (.ops r_5_5) (bs [3,4]) (.seq (.ops r_5_6) (bs [4]) .ret))))
def f_5:za:=⟨18,[.cell (some 2) (bits 4)],c_5,none,none⟩
def r_8_1:List CI:=[mv 2 (.c (.string ⟨#[]⟩))]
def r_8_2:List CI:=[mv 3 (t 0),mv 4 (t 0),ca 5 n_F [(t 4)],ap 6 1 1 (t 3) (t 5),oo 7 (.b2s (t 6)),mv 2 (t 7)]
def c_8:CC:=(.seq (.ops r_8_1) (bs [0]) (.seq (.ops r_8_2) (bs [2]) .ret))
def f_8:za:=⟨8,[.tmp (bits 2)],c_8,none,none⟩
def r_T_1:List CI:=[mv 4 (.c (.slice none 0 0))]
def r_T_2:List CI:=[mv 8 (t 0),oo 9 (.buildSlice 1 1 [(.int .u8 0)] [(0,(t 8))]),mv 10 (t 1),le 11 (t 10),ca 12 n_S [(t 9),(t 11)],mv 5 (t 12)]
def r_T_3:List CI:=[mv 13 (t 1),le 14 (t 13),mv 15 (i 0)]
def r_T_4:List CI:=[bi .lss 16 (t 15) (t 14)]
def r_T_5:List CI:=[ia 17 2 13 (t 15),ln 18 2 17,oo 7 (.alloc [(iI 0),(iI 0)]),st 2 7 (t 18)]
def r_T_6:List CI:=[mv 19 (t 5),fa 20 0 7,l 21 20,ca 22 n_S [(t 19),(t 21)],fa 23 1 7,l 24 23,lo 1 (ca 25 n_S [(t 22),(t 24)]),lo 2 (mv 5 (t 25))]
def r_T_7:List CI:=[bi .add 26 (t 15) (i 1),mv 15 (t 26)]
def c_T_8:CC:=(.seq (.ops r_T_4) (bs [5,13,14,15,16]) (.seq (.cond (t 16) .skip (.exit 0)) (bs [5,13,14,15]) (.seq (.block 2 (.seq (.ops r_T_5) (bs [5,7,13,14,15]) (.draw r_T_6))) (bs [5,13,14,15]) (.ops r_T_7))))
def r_T_9:List CI:=[mv 27 (t 5),mv 4 (t 27)]
def c_T:CC:=(.seq (.ops r_T_1) (bs [0,1]) (.seq (.ops r_T_2) (bs [1,5]) (.seq (.seq (.ops r_T_3) (bs [5,13,14,15]) (.block 0 (.loop (bs [5,13,14,15]) c_T_8))) (bs [5]) (.seq (.ops r_T_9) (bs [4]) .ret))))
def f_T:za:=⟨28,[.tmp (bits 4)],c_T,none,none⟩
def r_i_1:List CI:=[bx 3 (t 1),mv 4 (i 0)]
def r_i_2:List CI:=[mv 6 (t 0),le 7 (t 6),mv 8 (i 0)]
def r_i_3:List CI:=[bi .lss 9 (t 8) (t 7)]
def r_i_4:List CI:=[mv 10 (t 8),mv 5 (t 10)]
def r_i_5:List CI:=[ln 11 2 3,mv 12 (t 0),mv 13 (t 5),ia 14 2 12 (t 13),ln 15 2 14,oo 16 (.bin .eql (.leaves [0,1]) (t 11) (t 15))]
def r_i_6:List CI:=[mv 17 (t 5),mv 4 (t 17)]
def r_i_7:List CI:=[bi .add 18 (t 8) (i 1),mv 8 (t 18)]
def c_i_8:CC:=(.seq (.ops r_i_3) (bs [0,3,7,8,9]) (.seq (.cond (t 9) .skip (.exit 0)) (bs [0,3,7,8]) (.seq (.block 2 (.seq (.ops r_i_4) (bs [0,3,5,7,8]) (.seq (.draw r_i_5) (bs [0,3,5,7,8,16]) (.cond (t 16) (.seq (.ops r_i_6) (bs [4]) .ret) .skip)))) (bs [0,3,7,8]) (.ops r_i_7))))
def r_i_9:List CI:=[mv 4 (i (-1))]
def c_i:CC:=(.seq (.ops r_i_1) (bs [0,3]) (.seq (.seq (.ops r_i_2) (bs [0,3,7,8]) (.block 0 (.loop (bs [0,3,7,8]) c_i_8))) [] (.seq (.ops r_i_9) (bs [4]) .ret)))
def f_i:za:=⟨19,[.tmp (bits 4)],c_i,none,none⟩
def r_be_1:List CI:=[mv 3 (i 0)]
def r_be_2:List CI:=[mv 4 (t 0),ca 5 n_X [(i 4),(t 4)],l 6 1,lo 1 (ca 7 n_v [(t 5),(t 6)]),lo 2 (oo 8 (.fld 1 none (t 7))),lo 2 (mv 3 (t 8))]
def c_be:CC:=(.seq (.ops r_be_1) (bs [0,1]) (.seq (.draw r_be_2) (bs [3]) .ret))
def f_be:za:=⟨9,[.tmp (bits 3)],c_be,none,none⟩
def r_A_1:List CI:=[mv 3 (.c (.slice none 0 0))]
def r_A_2:List CI:=[mv 4 (.c (.slice none 0 0))]
def r_A_3:List CI:=[mv 7 (t 0),le 8 (t 7),mv 9 (i 0)]
def r_A_4:List CI:=[bi .lss 10 (t 9) (t 8)]
def r_A_5:List CI:=[ia 11 2 7 (t 9),ln 12 2 11,oo 6 (.alloc [(iI 0),(iI 0)]),st 2 6 (t 12)]
def r_A_6:List CI:=[mv 13 (t 4),ln 14 2 6,l 15 1,ca 16 n_v [(t 14),(t 15)],oo 17 (.buildSlice 1 2 [(iI 0),(iI 0)] [(0,(t 16))]),ap 18 2 16 (t 13) (t 17),mv 4 (t 18)]
def r_A_7:List CI:=[bi .add 19 (t 9) (i 1),mv 9 (t 19)]
def c_A_8:CC:=(.seq (.ops r_A_4) (bs [1,4,7,8,9,10]) (.seq (.cond (t 10) .skip (.exit 0)) (bs [1,4,7,8,9]) (.seq (.block 2 (.seq (.ops r_A_5) (bs [1,4,6,7,8,9]) (.ops r_A_6))) (bs [1,4,7,8,9]) (.ops r_A_7))))
def r_A_9:List CI:=[mv 20 (t 4),mv 3 (t 20)]
def c_A:CC:=(.seq (.ops r_A_1) (bs [0,1]) (.seq (.ops r_A_2) (bs [0,1,4]) (.seq (.seq (.ops r_A_3) (bs [1,4,7,8,9]) (.block 0 (.loop (bs [1,4,7,8,9]) c_A_8))) (bs [4]) (.seq (.ops r_A_9) (bs [3]) .ret))))
def f_A:za:=⟨21,[.tmp (bits 3)],c_A,none,none⟩
def r_3_1:List CI:=[mv 4 ff]
def r_3_2:List CI:=[mv 5 (t 0),bi .geq 6 (t 5) (i 0),mv 7 (t 6),gu 7 true (mv 8 (t 0)),gu 7 true (mv 9 (t 1)),gu 7 true (bi .lss 10 (t 8) (t 9)),pk 11 (t 7) (t 10) ff,mv 4 (t 11)]
def c_3:CC:=(.seq (.ops r_3_1) (bs [0,1]) (.seq (.ops r_3_2) (bs [4]) .ret))
def f_3:za:=⟨12,[.tmp (bits 4)],c_3,none,none⟩
def r_J_1:List CI:=[mv 4 ff]
def r_J_2:List CI:=[mv 5 (t 0),mv 6 (t 1),ca 7 n_t [(t 5),(t 6)],bi .geq 8 (t 7) (i 0),mv 4 (t 8)]
def c_J:CC:=(.seq (.ops r_J_1) (bs [0,1]) (.seq (.ops r_J_2) (bs [4]) .ret))
def f_J:za:=⟨9,[.tmp (bits 4)],c_J,none,none⟩
def r_O_1:List CI:=[mv 2 ff]
def r_O_2:List CI:=[oo 6 (.makeMap),mv 3 (t 6)]
def r_O_3:List CI:=[mv 7 (t 0),le 8 (t 7),mv 9 (i 0)]
def r_O_4:List CI:=[bi .lss 10 (t 9) (t 8)]
def r_O_5:List CI:=[ia 11 1 7 (t 9),l 12 11,mv 5 (t 12)]
def r_O_6:List CI:=[mv 13 (t 3),mv 14 (t 5),oo 15 (.lookup .int (.bool false) false (t 13) (t 14))]
def r_O_7:List CI:=[mv 2 ff]
def r_O_8:List CI:=[mv 16 (t 3),mv 17 (t 5),on (.mapUpdate .int (t 16) (t 17) tt)]
def r_O_9:List CI:=[bi .add 18 (t 9) (i 1),mv 9 (t 18)]
def c_O_10:CC:=(.seq (.ops r_O_4) (bs [3,7,8,9,10]) (.seq (.cond (t 10) .skip (.exit 0)) (bs [3,7,8,9]) (.seq (.block 2 (.seq (.ops r_O_5) (bs [3,5,7,8,9]) (.seq (.seq (.ops r_O_6) (bs [3,5,7,8,9,15]) (.cond (t 15) (.seq (.ops r_O_7) (bs [2]) .ret) .skip)) (bs [3,5,7,8,9]) (.ops r_O_8)))) (bs [3,7,8,9]) (.ops r_O_9))))
def r_O_11:List CI:=[mv 2 tt]
def c_O:CC:=(.seq (.ops r_O_1) (bs [0]) (.seq (.ops r_O_2) (bs [0,3]) (.seq (.seq (.ops r_O_3) (bs [3,7,8,9]) (.block 0 (.loop (bs [3,7,8,9]) c_O_10))) [] (.seq (.ops r_O_11) (bs [2]) .ret))))
def f_O:za:=⟨19,[.tmp (bits 2)],c_O,none,none⟩
def r_4_1:List CI:=[bx 3 (t 1),mv 4 ff]
def r_4_2:List CI:=[mv 5 (t 0),oo 6 (.makeFunc (.func n_bl) [] [(t 3)]),ca 7 n_H [(t 5),(t 6)],no 8 7,mv 4 (t 8)]
def c_4:CC:=(.seq (.ops r_4_1) (bs [0,3]) (.seq (.ops r_4_2) (bs [4]) .ret))
def f_4:za:=⟨9,[.tmp (bits 4)],c_4,none,none⟩
def r_bo_1:List CI:=[mv 2 ff]
def r_bo_2:List CI:=[mv 3 (t 0),ca 4 n_3 [(t 3),(i 24)],mv 2 (t 4)]
def c_bo:CC:=(.seq (.ops r_bo_1) (bs [0]) (.seq (.ops r_bo_2) (bs [2]) .ret))
def f_bo:za:=⟨5,[.tmp (bits 2)],c_bo,none,none⟩
def r_l_1:List CI:=[mv 4 (.c (.slice none 0 0))]
def r_l_2:List CI:=[mv 5 (.c (.slice none 0 0))]
def r_l_3:List CI:=[mv 8 (t 0),le 9 (t 8),mv 10 (i 0)]
def r_l_4:List CI:=[bi .lss 11 (t 10) (t 9)]
def r_l_5:List CI:=[ia 12 2 8 (t 10),ln 13 2 12,oo 7 (.alloc [(iI 0),(.slice none 0 0)]),st 2 7 (t 13)]
def r_l_6:List CI:=[mv 14 (t 5),mv 15 (t 1),ln 16 2 7,oo 17 (.call (t 15) [(t 16)]),oo 18 (.buildSlice 1 1 [(iI 0)] [(0,(t 17))]),ap 19 1 8 (t 14) (t 18),mv 5 (t 19)]
def r_l_7:List CI:=[bi .add 20 (t 10) (i 1),mv 10 (t 20)]
def c_l_8:CC:=(.seq (.ops r_l_4) (bs [1,5,8,9,10,11]) (.seq (.cond (t 11) .skip (.exit 0)) (bs [1,5,8,9,10]) (.seq (.block 2 (.seq (.ops r_l_5) (bs [1,5,7,8,9,10]) (.ops r_l_6))) (bs [1,5,8,9,10]) (.ops r_l_7))))
def r_l_9:List CI:=[mv 21 (t 5),mv 4 (t 21)]
def c_l:CC:=(.seq (.ops r_l_1) (bs [0,1]) (.seq (.ops r_l_2) (bs [0,1,5]) (.seq (.seq (.ops r_l_3) (bs [1,5,8,9,10]) (.block 0 (.loop (bs [1,5,8,9,10]) c_l_8))) (bs [5]) (.seq (.ops r_l_9) (bs [4]) .ret))))
def f_l:za:=⟨22,[.tmp (bits 4)],c_l,none,none⟩
def r_bm_1:List CI:=[bx 1 (t 0),mv 2 (i 0)]
def r_bm_2:List CI:=[fa 3 0 1,l 4 3,mv 2 (t 4)]
def c_bm:CC:=(.seq (.ops r_bm_1) (bs [1]) (.seq (.ops r_bm_2) (bs [2]) .ret))
def f_bm:za:=⟨5,[.tmp (bits 2)],c_bm,none,none⟩
def r_bn_1:List CI:=[bx 1 (t 0),mv 2 ff]
def r_bn_2:List CI:=[fa 3 0 1,l 4 3,ca 5 n_3 [(t 4),(i 60)],mv 6 (t 5),gu 6 true (fa 7 1 1),gu 6 true (l 8 7),gu 6 true (le 9 (t 8)),gu 6 true (bi .geq 10 (t 9) (i 1)),pk 11 (t 6) (t 10) ff,mv 12 (t 11),gu 12 true (fa 13 1 1),gu 12 true (l 14 13),gu 12 true (le 15 (t 14)),gu 12 true (bi .leq 16 (t 15) (i 12)),pk 17 (t 12) (t 16) ff,mv 18 (t 17),gu 18 true (fa 19 1 1),gu 18 true (l 20 19),gu 18 true (ca 21 n_U [(t 20),(fc n_6)]),pk 22 (t 18) (t 21) ff,mv 2 (t 22)]
def c_bn:CC:=(.seq (.ops r_bn_1) (bs [1]) (.seq (.ops r_bn_2) (bs [2]) .ret))
def f_bn:za:=⟨23,[.tmp (bits 2)],c_bn,none,none⟩
def r_U_1:List CI:=[bx 3 (t 1),mv 4 ff]
def r_U_2:List CI:=[mv 5 (t 0),oo 6 (.makeFunc (.func n_bi) [] [(t 3)]),ca 7 n_x [(t 5),(t 6)],no 8 7,mv 4 (t 8)]
def c_U:CC:=(.seq (.ops r_U_1) (bs [0,3]) (.seq (.ops r_U_2) (bs [4]) .ret))
def f_U:za:=⟨9,[.tmp (bits 4)],c_U,none,none⟩
def r_6_1:List CI:=[bx 1 (t 0),mv 2 ff]
def r_6_2:List CI:=[fa 3 0 1,l 4 3,le 5 (t 4),bi .leq 6 (t 5) (i 3),mv 7 (t 6),gu 7 true (fa 8 0 1),gu 7 true (l 9 8),gu 7 true (ca 10 n_Q [(t 9),(fc n_ba)]),pk 11 (t 7) (t 10) ff,mv 2 (t 11)]
def c_6:CC:=(.seq (.ops r_6_1) (bs [1]) (.seq (.ops r_6_2) (bs [2]) .ret))
def f_6:za:=⟨12,[.tmp (bits 2)],c_6,none,none⟩
def r_bg_1:List CI:=[bx 3 (t 0),mv 4 ff]
def r_bg_2:List CI:=[fa 6 0 3,l 7 6,l 8 1,bi .gtr 9 (t 7) (t 8),mv 10 (t 9),gu 10 true (fa 11 0 3),gu 10 true (l 12 11),gu 10 true (bi .lss 13 (t 12) (i 40)),pk 14 (t 10) (t 13) ff,mv 5 (t 14)]
def r_bg_3:List CI:=[fa 15 0 3,l 16 15,st 1 1 (t 16)]
def r_bg_4:List CI:=[mv 17 (t 5),mv 18 (t 17),gu 18 true (fa 19 0 2),gu 18 true (l 20 19),gu 18 true (fa 21 1 3),gu 18 true (fa 22 0 21),gu 18 true (l 23 22),gu 18 true (ca 24 n_J [(t 20),(t 23)]),pk 25 (t 18) (t 24) ff,mv 26 (t 25),gu 26 true (fa 27 1 3),gu 26 true (fa 28 1 27),gu 26 true (l 29 28),gu 26 true (ca 30 n_3 [(t 29),(i 60)]),pk 31 (t 26) (t 30) ff,mv 32 (t 31),gu 32 true (fa 33 1 3),gu 32 true (fa 34 2 33),gu 32 true (l 35 34),gu 32 true (ca 36 n_Q [(t 35),(fc n_ba)]),pk 37 (t 32) (t 36) ff,mv 4 (t 37)]
def c_bg:CC:=(.seq (.ops r_bg_1) (bs [1,2,3]) (.seq (.ops r_bg_2) (bs [1,2,3,5]) (.seq (.ops r_bg_3) (bs [2,3,5]) (.seq (.ops r_bg_4) (bs [4]) .ret))))
def f_bg:za:=⟨38,[.tmp (bits 4)],c_bg,none,none⟩
def r_Q_1:List CI:=[bx 3 (t 1),mv 4 ff]
def r_Q_2:List CI:=[mv 5 (t 0),oo 6 (.makeFunc (.func n_bj) [] [(t 3)]),ca 7 n_w [(t 5),(t 6)],no 8 7,mv 4 (t 8)]
def c_Q:CC:=(.seq (.ops r_Q_1) (bs [0,3]) (.seq (.ops r_Q_2) (bs [4]) .ret))
def f_Q:za:=⟨9,[.tmp (bits 4)],c_Q,none,none⟩
def r_ba_1:List CI:=[bx 1 (t 0),mv 2 ff]
def r_ba_2:List CI:=[ln 3 2 1,ca 4 n_Z [(t 3)],mv 5 (t 4),gu 5 false (fa 6 0 1),gu 5 false (l 7 6),gu 5 false (bi .eql 8 (t 7) (i 1)),gu 5 false (mv 9 (t 8)),gu 9 true (fa 10 1 1),gu 9 true (l 11 10),gu 9 true (bi .geq 12 (t 11) (i (-1000000000))),gu 5 false (pk 13 (t 9) (t 12) ff),gu 5 false (mv 14 (t 13)),gu 14 true (fa 15 1 1),gu 14 true (l 16 15),gu 14 true (bi .leq 17 (t 16) (i 1000000000)),gu 5 false (pk 18 (t 14) (t 17) ff),pk 19 (t 5) tt (t 18),mv 2 (t 19)]
def c_ba:CC:=(.seq (.ops r_ba_1) (bs [1]) (.seq (.ops r_ba_2) (bs [2]) .ret))
def f_ba:za:=⟨20,[.tmp (bits 2)],c_ba,none,none⟩
def r_N_1:List CI:=[bx 3 (t 1),mv 4 ff]
def r_N_2:List CI:=[mv 5 (t 0),oo 6 (.makeFunc (.func n_bc) [] [(t 3)]),ca 7 n_r [(t 5),(t 6)],no 8 7,mv 4 (t 8)]
def c_N:CC:=(.seq (.ops r_N_1) (bs [0,3]) (.seq (.ops r_N_2) (bs [4]) .ret))
def f_N:za:=⟨9,[.tmp (bits 4)],c_N,none,none⟩
def r_P_1:List CI:=[bx 3 (t 1),mv 4 ff]
def r_P_2:List CI:=[mv 5 (t 0),oo 6 (.makeFunc (.func n_bd) [] [(t 3)]),ca 7 n_s [(t 5),(t 6)],no 8 7,mv 4 (t 8)]
def c_P:CC:=(.seq (.ops r_P_1) (bs [0,3]) (.seq (.ops r_P_2) (bs [4]) .ret))
def f_P:za:=⟨9,[.tmp (bits 4)],c_P,none,none⟩
def r_bb_1:List CI:=[mv 0 (.c (.pointer none))]
def r_bb_2:List CI:=[oo 1 (.makeMap),oo 2 (.build [(.slice none 0 0),(.map none)] [(1,1,(t 1))]),oo 3 (.build [(.slice none 0 0),(.map none),(.slice none 0 0)] [(0,2,(t 2))]),bx 4 (t 3),mv 0 (t 4)]
def c_bb:CC:=(.seq (.ops r_bb_1) [] (.seq (.ops r_bb_2) (bs [0]) .ret))
def f_bb:za:=⟨5,[.tmp (bits 0)],c_bb,none,none⟩
def r_K_1:List CI:=[mv 4 (t 0),mv 5 (t 0),nc 6 5,fa 7 2 6,l 8 7,mv 9 (t 1),ca 10 n_S [(t 8),(t 9)],nc 11 4,fa 12 2 11,st 1 12 (t 10)]
def c_K:CC:=(.ops r_K_1)
def f_K:za:=⟨13,[],c_K,none,none⟩
def r_0_1:List CI:=[mv 4 (t 0),mv 5 (t 0),nc 6 5,fa 7 0 6,mv 8 (t 1),oo 9 (.build [(iI 0),(iI 0)] [(0,1,(i 4)),(1,1,(t 8))]),ca 10 n_z [(t 7),(t 9)],ca 11 n_K [(t 4),(t 10)]]
def c_0:CC:=(.ops r_0_1)
def f_0:za:=⟨12,[],c_0,none,none⟩
def r_Y_1:List CI:=[mv 4 (t 0),mv 5 (t 0),nc 6 5,fa 7 0 6,mv 8 (t 1),oo 9 (.build [(iI 0),(iI 0)] [(0,1,(i 3)),(1,1,(t 8))]),ca 10 n_z [(t 7),(t 9)],ca 11 n_K [(t 4),(t 10)]]
def c_Y:CC:=(.ops r_Y_1)
def f_Y:za:=⟨12,[],c_Y,none,none⟩
def r_u_1:List CI:=[mv 6 (t 0),mv 7 (t 1),le 8 (t 7),ca 9 n_K [(t 6),(t 8)]]
def r_u_2:List CI:=[mv 10 (t 1),le 11 (t 10),mv 12 (i 0)]
def r_u_3:List CI:=[bi .lss 13 (t 12) (t 11)]
def r_u_4:List CI:=[ia 14 2 10 (t 12),ln 15 2 14,oo 5 (.alloc [(iI 0),(iI 0)]),st 2 5 (t 15)]
def r_u_5:List CI:=[fa 25 0 5,l 26 25,bi .neq 27 (t 26) (i 1),mv 24 (t 27)]
def r_u_6:List CI:=[mv 29 (t 0),nc 30 29,fa 31 0 30,ln 32 2 5,ca 33 n_z [(t 31),(t 32)],mv 28 (t 0),lo 1 (bi .mul 34 (i 2) (t 33)),lo 1 (bi .add 35 (t 34) (i 1)),lo 1 (ca 36 n_K [(t 28),(t 35)])]
def r_u_7:List CI:=[fa 38 1 5,l 39 38,bi .geq 40 (t 39) (i 0),mv 37 (t 40)]
def r_u_8:List CI:=[mv 41 (t 0),fa 42 1 5,l 43 42,bi .mul 44 (i 4) (t 43),ca 45 n_K [(t 41),(t 44)]]
def r_u_9:List CI:=[mv 16 (t 0),fa 17 1 5,l 18 17,oo 19 (.un .neg (t 18)),bi .sub 20 (t 19) (i 1),bi .mul 21 (i 4) (t 20),bi .add 22 (t 21) (i 2),ca 23 n_K [(t 16),(t 22)]]
def r_u_10:List CI:=[bi .add 46 (t 12) (i 1),mv 12 (t 46)]
def c_u_11:CC:=(.seq (.ops r_u_3) (bs [0,10,11,12,13]) (.seq (.cond (t 13) .skip (.exit 0)) (bs [0,10,11,12]) (.seq (.block 2 (.seq (.ops r_u_4) (bs [0,5,10,11,12]) (.block 4 (.seq (.ops r_u_5) (bs [0,5,10,11,12,24]) (.cond (t 24) (.draw r_u_6) (.seq (.ops r_u_7) (bs [0,5,10,11,12,37]) (.cond (t 37) (.ops r_u_8) (.ops r_u_9)))))))) (bs [0,10,11,12]) (.ops r_u_10))))
def c_u:CC:=(.seq (.ops r_u_1) (bs [0,1]) (.seq (.ops r_u_2) (bs [0,10,11,12]) (.block 0 (.loop (bs [0,10,11,12]) c_u_11))))
def f_u:za:=⟨47,[],c_u,none,none⟩
def r_1_1:List CI:=[mv 4 (.c (.string ⟨#[]⟩))]
def r_1_2:List CI:=[mv 5 (t 1),mv 6 (t 0),nc 7 6,fa 8 0 7,fa 9 0 8,l 10 9,ca 11 n_T [(t 5),(t 10)],mv 12 (t 0),nc 13 12,fa 14 2 13,l 15 14,lo 1 (ap 16 1 1 (t 11) (t 15)),lo 2 (ca 17 n_8 [(t 16)]),lo 3 (mv 4 (t 17))]
def c_1:CC:=(.seq (.ops r_1_1) (bs [0,1]) (.seq (.draw r_1_2) (bs [4]) .ret))
def f_1:za:=⟨18,[.tmp (bits 4)],c_1,none,none⟩
def r_bh_1:List CI:=[oo 2 (.recov),mv 1 (t 2)]
def r_bh_2:List CI:=[mv 3 (t 1),oo 4 (.bin .neq (.iface true) (t 3) (.c .nilIface))]
def r_bh_3:List CI:=[st 1 0 ff]
def c_bh:CC:=(.seq (.ops r_bh_1) (bs [0,1]) (.seq (.ops r_bh_2) (bs [0,4]) (.cond (t 4) (.ops r_bh_3) .skip)))
def f_bh:za:=⟨5,[],c_bh,none,none⟩
def r_F_1:List CI:=[mv 2 (.c (.slice none 0 0))]
def r_F_2:List CI:=[mv 3 (.c (.int .u16 65535))]
def r_F_3:List CI:=[mv 8 (t 0),le 9 (t 8),mv 10 (i 0)]
def r_F_4:List CI:=[bi .lss 11 (t 10) (t 9)]
def r_F_5:List CI:=[ia 12 1 8 (t 10),l 13 12,mv 5 (t 13)]
def r_F_6:List CI:=[mv 14 (i 0)]
def r_F_7:List CI:=[bi .lss 15 (t 14) (i 8)]
def r_F_8:List CI:=[mv 16 (t 14),mv 6 (t 16)]
def r_F_9:List CI:=[mv 17 (t 3),bi .shr 18 (t 17) (.c (.int .u64 15)),mv 19 (t 5),mv 20 (t 6),bi .sub 21 (i 7) (t 20),bi .shr 22 (t 19) (t 21),bi .and 23 (t 22) (.c (.int .u8 1)),oo 24 (.conv .u16 (t 23)),bi .neq 25 (t 18) (t 24),mv 7 (t 25)]
def r_F_10:List CI:=[mv 26 (t 3),bi .shl 27 (t 26) (.c (.int .u64 1)),mv 3 (t 27)]
def r_F_11:List CI:=[mv 28 (t 7)]
def r_F_12:List CI:=[mv 29 (t 3),bi .xor 30 (t 29) (.c (.int .u16 4129)),mv 3 (t 30)]
def r_F_13:List CI:=[bi .add 31 (t 14) (i 1),mv 14 (t 31)]
def c_F_14:CC:=(.seq (.ops r_F_7) (bs [3,5,8,9,10,14,15]) (.seq (.cond (t 15) .skip (.exit 4)) (bs [3,5,8,9,10,14]) (.seq (.block 6 (.seq (.ops r_F_8) (bs [3,5,6,8,9,10,14]) (.seq (.ops r_F_9) (bs [3,5,7,8,9,10,14]) (.seq (.ops r_F_10) (bs [3,5,7,8,9,10,14]) (.seq (.ops r_F_11) (bs [3,5,8,9,10,14,28]) (.cond (t 28) (.ops r_F_12) .skip)))))) (bs [3,5,8,9,10,14]) (.ops r_F_13))))
def r_F_15:List CI:=[bi .add 32 (t 10) (i 1),mv 10 (t 32)]
def c_F_16:CC:=(.seq (.ops r_F_4) (bs [3,8,9,10,11]) (.seq (.cond (t 11) .skip (.exit 0)) (bs [3,8,9,10]) (.seq (.block 2 (.seq (.ops r_F_5) (bs [3,5,8,9,10]) (.seq (.ops r_F_6) (bs [3,5,8,9,10,14]) (.block 4 (.loop (bs [3,5,8,9,10,14]) c_F_14))))) (bs [3,8,9,10]) (.ops r_F_15))))
def r_F_17:List CI:=[mv 33 (t 3),bi .shr 34 (t 33) (.c (.int .u64 8)),oo 35 (.conv .u8 (t 34)),mv 36 (t 3),oo 37 (.conv .u8 (t 36)),oo 38 (.buildSlice 2 1 [(.int .u8 0)] [(0,(t 35)),(1,(t 37))]),mv 2 (t 38)]
def c_F:CC:=(.seq (.ops r_F_1) (bs [0]) (.seq (.ops r_F_2) (bs [0,3]) (.seq (.seq (.ops r_F_3) (bs [3,8,9,10]) (.block 0 (.loop (bs [3,8,9,10]) c_F_16))) (bs [3]) (.seq (.ops r_F_17) (bs [2]) .ret))))
def f_F:za:=⟨39,[.tmp (bits 2)],c_F,none,none⟩
def r_C_1:List CI:=[mv 2 (i 0)]
def r_C_2:List CI:=[mv 4 (t 0),ca 5 n_o [(t 4)],mv 3 (t 5)]
def r_C_3:List CI:=[mv 6 (t 3),mv 7 (t 0),nc 8 7,fa 9 2 8,l 10 9,oo 11 (.blt .lenStr [(t 10)]),bi .gtr 12 (t 6) (t 11)]
def r_C_4:List CI:=[oo 13 (.build [] []),oo 14 (.mkI 192 (t 13)),on (.panic (t 14))]
def r_C_5:List CI:=[mv 15 (t 3),mv 2 (t 15)]
def c_C:CC:=(.seq (.ops r_C_1) (bs [0]) (.seq (.ops r_C_2) (bs [0,3]) (.seq (.seq (.ops r_C_3) (bs [3,12]) (.cond (t 12) (.ops r_C_4) .skip)) (bs [3]) (.seq (.ops r_C_5) (bs [2]) .ret))))
def f_C:za:=⟨16,[.tmp (bits 2)],c_C,none,none⟩
def r_o_1:List CI:=[mv 2 (i 0)]
def r_o_2:List CI:=[mv 3 (.c (.int .u64 0))]
def r_o_3:List CI:=[mv 4 (i 0)]
def r_o_4:List CI:=[mv 6 (t 4),bi .lss 7 (t 6) (i 35)]
def r_o_5:List CI:=[mv 10 (t 0),nc 11 10,fa 12 2 11,l 13 12,bi .eql 14 (t 13) (.c (.string ⟨#[]⟩))]
def r_o_6:List CI:=[oo 15 (.build [] []),oo 16 (.mkI 192 (t 15)),on (.panic (t 16))]
def r_o_7:List CI:=[mv 17 (t 0),nc 18 17,fa 19 2 18,l 20 19,oo 21 (.strIdx (t 20) (i 0)),mv 5 (t 21)]
def r_o_8:List CI:=[mv 22 (t 0),mv 23 (t 0),nc 24 23,fa 25 2 24,l 26 25,oo 27 (.strSlice (t 26) (some (i 1)) none),nc 28 22,fa 29 2 28,st 1 29 (t 27)]
def r_o_9:List CI:=[mv 30 (t 3),mv 31 (t 5),bi .and 32 (t 31) (.c (.int .u8 127)),oo 33 (.conv .u64 (t 32)),mv 34 (t 4),bi .shl 35 (t 33) (t 34),bi .or 36 (t 30) (t 35),mv 3 (t 36)]
def r_o_10:List CI:=[mv 37 (t 5),bi .lss 38 (t 37) (.c (.int .u8 128))]
def r_o_11:List CI:=[mv 39 (t 3),oo 40 (.conv .i64 (t 39)),mv 2 (t 40)]
def r_o_12:List CI:=[mv 8 (t 4),bi .add 9 (t 8) (i 7),mv 4 (t 9)]
def c_o_13:CC:=(.seq (.seq (.ops r_o_4) (bs [0,2,3,4,7]) (.cond (t 7) .skip (.exit 0))) (bs [0,2,3,4]) (.seq (.block 2 (.seq (.seq (.ops r_o_5) (bs [0,2,3,4,14]) (.cond (t 14) (.ops r_o_6) .skip)) (bs [0,2,3,4]) (.seq (.ops r_o_7) (bs [0,2,3,4,5]) (.seq (.ops r_o_8) (bs [0,2,3,4,5]) (.seq (.ops r_o_9) (bs [0,2,3,4,5]) (.seq (.ops r_o_10) (bs [0,2,3,4,38]) (.cond (t 38) (.seq (.ops r_o_11) (bs [2]) .ret) .skip))))))) (bs [0,2,3,4]) (.ops r_o_12)))
def r_o_14:List CI:=[oo 41 (.build [] []),oo 42 (.mkI 192 (t 41)),on (.panic (t 42))]
def c_o:CC:=(.seq (.ops r_o_1) (bs [0,2]) (.seq (.ops r_o_2) (bs [0,2,3]) (.seq (.seq (.ops r_o_3) (bs [0,2,3,4]) (.block 0 (.loop (bs [0,2,3,4]) c_o_13))) (bs [2]) (.ops r_o_14))))
def f_o:za:=⟨43,[.tmp (bits 2)],c_o,none,none⟩
def r_R_1:List CI:=[oo 4 (.alloc [(iI 0),(iI 0)])]
def r_R_2:List CI:=[mv 5 (t 1),mv 6 (t 0),nc 7 6,fa 8 0 7,fa 9 0 8,l 10 9,le 11 (t 10),bi .geq 12 (t 5) (t 11)]
def r_R_3:List CI:=[oo 13 (.build [] []),oo 14 (.mkI 192 (t 13)),on (.panic (t 14))]
def r_R_4:List CI:=[mv 15 (t 0),nc 16 15,fa 17 0 16,fa 18 0 17,l 19 18,mv 20 (t 1),ia 21 2 19 (t 20),ln 22 2 21,st 2 4 (t 22)]
def c_R:CC:=(.seq (.ops r_R_1) (bs [0,1,4]) (.seq (.seq (.ops r_R_2) (bs [0,1,4,12]) (.cond (t 12) (.ops r_R_3) .skip)) (bs [0,1,4]) (.seq (.ops r_R_4) (bs [4]) .ret)))
def f_R:za:=⟨23,[.cell (some 2) (bits 4)],c_R,none,none⟩
def r_S_1:List CI:=[mv 4 (.c (.slice none 0 0))]
def r_S_2:List CI:=[mv 5 (t 1),bi .gtr 6 (t 5) (i 127)]
def r_S_3:List CI:=[mv 9 (t 0),mv 10 (t 1),bi .and 11 (t 10) (i 127),bi .or 12 (t 11) (i 128),oo 13 (.conv .u8 (t 12)),oo 14 (.buildSlice 1 1 [(.int .u8 0)] [(0,(t 13))]),ap 15 1 1 (t 9) (t 14),mv 0 (t 15)]
def r_S_4:List CI:=[mv 7 (t 1),bi .shr 8 (t 7) (.c (.int .u64 7)),mv 1 (t 8)]
def c_S_5:CC:=(.seq (.seq (.ops r_S_2) (bs [0,1,6]) (.cond (t 6) .skip (.exit 0))) (bs [0,1]) (.seq (.block 2 (.ops r_S_3)) (bs [0,1]) (.ops r_S_4)))
def r_S_6:List CI:=[mv 16 (t 0),mv 17 (t 1),oo 18 (.conv .u8 (t 17)),oo 19 (.buildSlice 1 1 [(.int .u8 0)] [(0,(t 18))]),ap 20 1 1 (t 16) (t 19),mv 4 (t 20)]
def c_S:CC:=(.seq (.ops r_S_1) (bs [0,1]) (.seq (.block 0 (.loop (bs [0,1]) c_S_5)) (bs [0,1]) (.seq (.ops r_S_6) (bs [4]) .ret)))
def f_S:za:=⟨21,[.tmp (bits 4)],c_S,none,none⟩
def r_t_1:List CI:=[mv 4 (i 0)]
def r_t_2:List CI:=[mv 6 (t 0),le 7 (t 6),mv 8 (i 0)]
def r_t_3:List CI:=[bi .lss 9 (t 8) (t 7)]
def r_t_4:List CI:=[mv 10 (t 8),mv 5 (t 10)]
def r_t_5:List CI:=[mv 11 (t 1),mv 12 (t 0),mv 13 (t 5),ia 14 1 12 (t 13),l 15 14,bi .eql 16 (t 11) (t 15)]
def r_t_6:List CI:=[mv 17 (t 5),mv 4 (t 17)]
def r_t_7:List CI:=[bi .add 18 (t 8) (i 1),mv 8 (t 18)]
def c_t_8:CC:=(.seq (.ops r_t_3) (bs [0,1,7,8,9]) (.seq (.cond (t 9) .skip (.exit 0)) (bs [0,1,7,8]) (.seq (.block 2 (.seq (.ops r_t_4) (bs [0,1,5,7,8]) (.seq (.ops r_t_5) (bs [0,1,5,7,8,16]) (.cond (t 16) (.seq (.ops r_t_6) (bs [4]) .ret) .skip)))) (bs [0,1,7,8]) (.ops r_t_7))))
def r_t_9:List CI:=[mv 4 (i (-1))]
def c_t:CC:=(.seq (.ops r_t_1) (bs [0,1]) (.seq (.seq (.ops r_t_2) (bs [0,1,7,8]) (.block 0 (.loop (bs [0,1,7,8]) c_t_8))) [] (.seq (.ops r_t_9) (bs [4]) .ret)))
def f_t:za:=⟨19,[.tmp (bits 4)],c_t,none,none⟩
def r_H_1:List CI:=[mv 4 ff]
def r_H_2:List CI:=[mv 5 (t 0),mv 6 (t 1),ca 7 n_n [(t 5),(t 6)],bi .geq 8 (t 7) (i 0),mv 4 (t 8)]
def c_H:CC:=(.seq (.ops r_H_1) (bs [0,1]) (.seq (.ops r_H_2) (bs [4]) .ret))
def f_H:za:=⟨9,[.tmp (bits 4)],c_H,none,none⟩
def r_bl_1:List CI:=[mv 3 ff]
def r_bl_2:List CI:=[l 4 1,mv 5 (t 0),oo 6 (.call (t 4) [(t 5)]),no 7 6,mv 3 (t 7)]
def c_bl:CC:=(.seq (.ops r_bl_1) (bs [0,1]) (.seq (.ops r_bl_2) (bs [3]) .ret))
def f_bl:za:=⟨8,[.tmp (bits 3)],c_bl,none,none⟩
def r_x_1:List CI:=[mv 4 ff]
def r_x_2:List CI:=[mv 5 (t 0),mv 6 (t 1),ca 7 n_g [(t 5),(t 6)],bi .geq 8 (t 7) (i 0),mv 4 (t 8)]
def c_x:CC:=(.seq (.ops r_x_1) (bs [0,1]) (.seq (.ops r_x_2) (bs [4]) .ret))
def f_x:za:=⟨9,[.tmp (bits 4)],c_x,none,none⟩
def r_bi_1:List CI:=[bx 2 (t 0),mv 3 ff]
def r_bi_2:List CI:=[l 4 1,ln 5 1 2,oo 6 (.call (t 4) [(t 5)]),no 7 6,mv 3 (t 7)]
def c_bi:CC:=(.seq (.ops r_bi_1) (bs [1,2]) (.seq (.ops r_bi_2) (bs [3]) .ret))
def f_bi:za:=⟨8,[.tmp (bits 3)],c_bi,none,none⟩
def r_w_1:List CI:=[mv 4 ff]
def r_w_2:List CI:=[mv 5 (t 0),mv 6 (t 1),ca 7 n_f [(t 5),(t 6)],bi .geq 8 (t 7) (i 0),mv 4 (t 8)]
def c_w:CC:=(.seq (.ops r_w_1) (bs [0,1]) (.seq (.ops r_w_2) (bs [4]) .ret))
def f_w:za:=⟨9,[.tmp (bits 4)],c_w,none,none⟩
def r_bj_1:List CI:=[bx 2 (t 0),mv 3 ff]
def r_bj_2:List CI:=[l 4 1,ln 5 2 2,oo 6 (.call (t 4) [(t 5)]),no 7 6,mv 3 (t 7)]
def c_bj:CC:=(.seq (.ops r_bj_1) (bs [1,2]) (.seq (.ops r_bj_2) (bs [3]) .ret))
def f_bj:za:=⟨8,[.tmp (bits 3)],c_bj,none,none⟩
def r_r_1:List CI:=[mv 4 ff]
def r_r_2:List CI:=[mv 5 (t 0),mv 6 (t 1),ca 7 n_d [(t 5),(t 6)],bi .geq 8 (t 7) (i 0),mv 4 (t 8)]
def c_r:CC:=(.seq (.ops r_r_1) (bs [0,1]) (.seq (.ops r_r_2) (bs [4]) .ret))
def f_r:za:=⟨9,[.tmp (bits 4)],c_r,none,none⟩
def r_bc_1:List CI:=[bx 2 (t 0),mv 3 ff]
def r_bc_2:List CI:=[l 4 1,ln 5 2 2,oo 6 (.call (t 4) [(t 5)]),no 7 6,mv 3 (t 7)]
def c_bc:CC:=(.seq (.ops r_bc_1) (bs [1,2]) (.seq (.ops r_bc_2) (bs [3]) .ret))
def f_bc:za:=⟨8,[.tmp (bits 3)],c_bc,none,none⟩
def r_s_1:List CI:=[mv 4 ff]
def r_s_2:List CI:=[mv 5 (t 0),mv 6 (t 1),ca 7 n_e [(t 5),(t 6)],bi .geq 8 (t 7) (i 0),mv 4 (t 8)]
def c_s:CC:=(.seq (.ops r_s_1) (bs [0,1]) (.seq (.ops r_s_2) (bs [4]) .ret))
def f_s:za:=⟨9,[.tmp (bits 4)],c_s,none,none⟩
def r_bd_1:List CI:=[bx 2 (t 0),mv 3 ff]
def r_bd_2:List CI:=[l 4 1,ln 5 4 2,oo 6 (.call (t 4) [(t 5)]),no 7 6,mv 3 (t 7)]
def c_bd:CC:=(.seq (.ops r_bd_1) (bs [1,2]) (.seq (.ops r_bd_2) (bs [3]) .ret))
def f_bd:za:=⟨8,[.tmp (bits 3)],c_bd,none,none⟩
def r_z_1:List CI:=[bx 3 (t 1),mv 4 (i 0)]
def r_z_2:List CI:=[mv 8 (t 0),nc 9 8,fa 10 1 9,l 11 10,ln 12 2 3,oo 13 (.lookup (.leaves [0,1]) (iI 0) true (t 11) (t 12)),mv 7 (t 13),ex 14 7 0,ex 15 7 1,mv 5 (t 14),mv 6 (t 15)]
def r_z_3:List CI:=[mv 16 (t 6),no 17 16]
def r_z_4:List CI:=[mv 18 (t 0),nc 19 18,fa 20 0 19,l 21 20,le 22 (t 21),mv 5 (t 22)]
def r_z_5:List CI:=[mv 24 (t 0),nc 25 24,fa 26 0 25,l 27 26,ln 28 2 3,oo 29 (.buildSlice 1 2 [(iI 0),(iI 0)] [(0,(t 28))]),ap 30 2 16 (t 27) (t 29),mv 23 (t 0),lo 1 (nc 31 23),lo 1 (fa 32 0 31),lo 1 (st 1 32 (t 30))]
def r_z_6:List CI:=[mv 33 (t 0),nc 34 33,fa 35 1 34,l 36 35,ln 37 2 3,mv 38 (t 5),on (.mapUpdate (.leaves [0,1]) (t 36) (t 37) (t 38))]
def r_z_7:List CI:=[mv 39 (t 5),mv 4 (t 39)]
def c_z:CC:=(.seq (.ops r_z_1) (bs [0,3]) (.seq (.draw r_z_2) (bs [0,3,5,6]) (.seq (.seq (.ops r_z_3) (bs [0,3,5,17]) (.cond (t 17) (.seq (.ops r_z_4) (bs [0,3,5]) (.seq (.draw r_z_5) (bs [0,3,5]) (.draw r_z_6))) .skip)) (bs [5]) (.seq (.ops r_z_7) (bs [4]) .ret))))
def f_z:za:=⟨40,[.tmp (bits 4)],c_z,none,none⟩
def r_n_1:List CI:=[mv 4 (i 0)]
def r_n_2:List CI:=[mv 6 (t 0),le 7 (t 6),mv 8 (i 0)]
def r_n_3:List CI:=[bi .lss 9 (t 8) (t 7)]
def r_n_4:List CI:=[mv 10 (t 8),mv 5 (t 10)]
def r_n_5:List CI:=[mv 11 (t 1),mv 12 (t 0),mv 13 (t 5),ia 14 1 12 (t 13),l 15 14,oo 16 (.call (t 11) [(t 15)])]
def r_n_6:List CI:=[mv 17 (t 5),mv 4 (t 17)]
def r_n_7:List CI:=[bi .add 18 (t 8) (i 1),mv 8 (t 18)]
def c_n_8:CC:=(.seq (.ops r_n_3) (bs [0,1,7,8,9]) (.seq (.cond (t 9) .skip (.exit 0)) (bs [0,1,7,8]) (.seq (.block 2 (.seq (.ops r_n_4) (bs [0,1,5,7,8]) (.seq (.ops r_n_5) (bs [0,1,5,7,8,16]) (.cond (t 16) (.seq (.ops r_n_6) (bs [4]) .ret) .skip)))) (bs [0,1,7,8]) (.ops r_n_7))))
def r_n_9:List CI:=[mv 4 (i (-1))]
def c_n:CC:=(.seq (.ops r_n_1) (bs [0,1]) (.seq (.seq (.ops r_n_2) (bs [0,1,7,8]) (.block 0 (.loop (bs [0,1,7,8]) c_n_8))) [] (.seq (.ops r_n_9) (bs [4]) .ret)))
def f_n:za:=⟨19,[.tmp (bits 4)],c_n,none,none⟩
def r_g_1:List CI:=[mv 4 (i 0)]
def r_g_2:List CI:=[mv 6 (t 0),le 7 (t 6),mv 8 (i 0)]
def r_g_3:List CI:=[bi .lss 9 (t 8) (t 7)]
def r_g_4:List CI:=[mv 10 (t 8),mv 5 (t 10)]
def r_g_5:List CI:=[mv 11 (t 1),mv 12 (t 0),mv 13 (t 5),ia 14 1 12 (t 13),ln 15 1 14,oo 16 (.call (t 11) [(t 15)])]
def r_g_6:List CI:=[mv 17 (t 5),mv 4 (t 17)]
def r_g_7:List CI:=[bi .add 18 (t 8) (i 1),mv 8 (t 18)]
def c_g_8:CC:=(.seq (.ops r_g_3) (bs [0,1,7,8,9]) (.seq (.cond (t 9) .skip (.exit 0)) (bs [0,1,7,8]) (.seq (.block 2 (.seq (.ops r_g_4) (bs [0,1,5,7,8]) (.seq (.ops r_g_5) (bs [0,1,5,7,8,16]) (.cond (t 16) (.seq (.ops r_g_6) (bs [4]) .ret) .skip)))) (bs [0,1,7,8]) (.ops r_g_7))))
def r_g_9:List CI:=[mv 4 (i (-1))]
def c_g:CC:=(.seq (.ops r_g_1) (bs [0,1]) (.seq (.seq (.ops r_g_2) (bs [0,1,7,8]) (.block 0 (.loop (bs [0,1,7,8]) c_g_8))) [] (.seq (.ops r_g_9) (bs [4]) .ret)))
def f_g:za:=⟨19,[.tmp (bits 4)],c_g,none,none⟩
def r_f_1:List CI:=[mv 4 (i 0)]
def r_f_2:List CI:=[mv 6 (t 0),le 7 (t 6),mv 8 (i 0)]
def r_f_3:List CI:=[bi .lss 9 (t 8) (t 7)]
def r_f_4:List CI:=[mv 10 (t 8),mv 5 (t 10)]
def r_f_5:List CI:=[mv 11 (t 1),mv 12 (t 0),mv 13 (t 5),ia 14 2 12 (t 13),ln 15 2 14,oo 16 (.call (t 11) [(t 15)])]
def r_f_6:List CI:=[mv 17 (t 5),mv 4 (t 17)]
def r_f_7:List CI:=[bi .add 18 (t 8) (i 1),mv 8 (t 18)]
def c_f_8:CC:=(.seq (.ops r_f_3) (bs [0,1,7,8,9]) (.seq (.cond (t 9) .skip (.exit 0)) (bs [0,1,7,8]) (.seq (.block 2 (.seq (.ops r_f_4) (bs [0,1,5,7,8]) (.seq (.ops r_f_5) (bs [0,1,5,7,8,16]) (.cond (t 16) (.seq (.ops r_f_6) (bs [4]) .ret) .skip)))) (bs [0,1,7,8]) (.ops r_f_7))))
def r_f_9:List CI:=[mv 4 (i (-1))]
def c_f:CC:=(.seq (.ops r_f_1) (bs [0,1]) (.seq (.seq (.ops r_f_2) (bs [0,1,7,8]) (.block 0 (.loop (bs [0,1,7,8]) c_f_8))) [] (.seq (.ops r_f_9) (bs [4]) .ret)))
def f_f:za:=⟨19,[.tmp (bits 4)],c_f,none,none⟩
def r_d_1:List CI:=[mv 4 (i 0)]
def r_d_2:List CI:=[mv 6 (t 0),le 7 (t 6),mv 8 (i 0)]
def r_d_3:List CI:=[bi .lss 9 (t 8) (t 7)]
def r_d_4:List CI:=[mv 10 (t 8),mv 5 (t 10)]
def r_d_5:List CI:=[mv 11 (t 1),mv 12 (t 0),mv 13 (t 5),ia 14 2 12 (t 13),ln 15 2 14,oo 16 (.call (t 11) [(t 15)])]
def r_d_6:List CI:=[mv 17 (t 5),mv 4 (t 17)]
def r_d_7:List CI:=[bi .add 18 (t 8) (i 1),mv 8 (t 18)]
def c_d_8:CC:=(.seq (.ops r_d_3) (bs [0,1,7,8,9]) (.seq (.cond (t 9) .skip (.exit 0)) (bs [0,1,7,8]) (.seq (.block 2 (.seq (.ops r_d_4) (bs [0,1,5,7,8]) (.seq (.ops r_d_5) (bs [0,1,5,7,8,16]) (.cond (t 16) (.seq (.ops r_d_6) (bs [4]) .ret) .skip)))) (bs [0,1,7,8]) (.ops r_d_7))))
def r_d_9:List CI:=[mv 4 (i (-1))]
def c_d:CC:=(.seq (.ops r_d_1) (bs [0,1]) (.seq (.seq (.ops r_d_2) (bs [0,1,7,8]) (.block 0 (.loop (bs [0,1,7,8]) c_d_8))) [] (.seq (.ops r_d_9) (bs [4]) .ret)))
def f_d:za:=⟨19,[.tmp (bits 4)],c_d,none,none⟩
def r_e_1:List CI:=[mv 4 (i 0)]
def r_e_2:List CI:=[mv 6 (t 0),le 7 (t 6),mv 8 (i 0)]
def r_e_3:List CI:=[bi .lss 9 (t 8) (t 7)]
def r_e_4:List CI:=[mv 10 (t 8),mv 5 (t 10)]
def r_e_5:List CI:=[mv 11 (t 1),mv 12 (t 0),mv 13 (t 5),ia 14 4 12 (t 13),ln 15 4 14,oo 16 (.call (t 11) [(t 15)])]
def r_e_6:List CI:=[mv 17 (t 5),mv 4 (t 17)]
def r_e_7:List CI:=[bi .add 18 (t 8) (i 1),mv 8 (t 18)]
def c_e_8:CC:=(.seq (.ops r_e_3) (bs [0,1,7,8,9]) (.seq (.cond (t 9) .skip (.exit 0)) (bs [0,1,7,8]) (.seq (.block 2 (.seq (.ops r_e_4) (bs [0,1,5,7,8]) (.seq (.ops r_e_5) (bs [0,1,5,7,8,16]) (.cond (t 16) (.seq (.ops r_e_6) (bs [4]) .ret) .skip)))) (bs [0,1,7,8]) (.ops r_e_7))))
def r_e_9:List CI:=[mv 4 (i (-1))]
def c_e:CC:=(.seq (.ops r_e_1) (bs [0,1]) (.seq (.seq (.ops r_e_2) (bs [0,1,7,8]) (.block 0 (.loop (bs [0,1,7,8]) c_e_8))) [] (.seq (.ops r_e_9) (bs [4]) .ret)))
def f_e:za:=⟨19,[.tmp (bits 4)],c_e,none,none⟩
end Go.Ideal.Q
namespace Go.Ideal
noncomputable section
variable {P:Program}
def zbT (W:World) (b:Nat):Bool:=match W.heap[b]? with
 |some (.cells _ _ _)=>true
 |_=>false
def okV (W:World):Value→Bool
 |.bool _=>true
 |.int _ _=>true
 |.string _=>true
 |.nilFunc=>true
 |.pointer none=>true
 |.map none=>true
 |.slice none 0 0=>true
 |.slice (some a) len cap=>a.spot.isNone&&(decide (len≤cap)&&(decide (cap<zc)&&zbT W a.block))
 |.pointer (some a)=>a.spot.isNone&&zbT W a.block
 |_=>false
def isDang:Value→Bool
 |.slice (some _) 0 0=>true
 |_=>false
def dang (W:World):Value:=.slice (some ⟨W.heap.size,0,none⟩) 0 0
def impV (W:World) (v:Value):Value:=if okV W v then v else if isDang v then dang W else poison
def impObj (W:World):Obj→Option IObj
 |.cells c _ _=>some (.cells (c.toList.map (impV W)) roE)
 |_=>none
open Classical in
def dangR (W:World):Option RB:=if h: ∃b,zbT W b=true then some ⟨Classical.choose h,0,0,0,1,none⟩ else none
def zdS (W:World) (i:Nat):Option RB:=if i=W.heap.size then dangR W else(W.heap[i]?).bind fun o=>match o with
 |.cells c _ _=>some ⟨i,0,c.size,roE,c.size,some o⟩
 |_=>none
def zlt (W:World) (n:Nat):PT IObj:=Nat.rec (motive:=fun _=>PT IObj) .nil (fun i t=>match(W.heap[i]?).bind (impObj W) with|some o=>t.set (bits i) o|none=>t) n
def impH (W:World):H:=⟨W.heap.size+1,zlt W W.heap.size⟩
theorem zif (W:World): ∀(n j:Nat),(zlt W n).get (bits j)=if j<n then(W.heap[j]?).bind (impObj W) else none
 |0,j=>by rw[if_neg (by omega)];exact PT.get_nil _
 |n+1,j=>by
  have e:zlt W (n+1)=match(W.heap[n]?).bind (impObj W) with|some o=>(zlt W n).set (bits n) o|none=>zlt W n:=rfl
  rw[e];cases ho:(W.heap[n]?).bind (impObj W) with
  |none=>
   rw[zif W n j];by_cases h:j<n
   ·rw[if_pos h,if_pos (by omega)]
   ·rw[if_neg h];by_cases e:j=n
    ·subst e;rw[if_pos (by omega),ho]
    ·rw[if_neg (by omega)]
  |some o=>
   dsimp only;rw[PT.get_set_bits,zif W n j];by_cases e:n=j
   ·subst e;rw[if_pos rfl,if_pos (by omega),ho]
   ·rw[if_neg e];by_cases h:j<n
    ·rw[if_pos h,if_pos (by omega)]
    ·rw[if_neg h,if_neg (by omega)]
theorem zhq (W:World) (j:Nat):(impH W).get j=(W.heap[j]?).bind (impObj W):=by
 show(zlt W W.heap.size).get (bits j)=_;rw[zif];by_cases h:j<W.heap.size
 ·rw[if_pos h]
 ·rw[if_neg h,qp (by omega)];rfl
theorem zig {W:World} {b:Nat} {c:Array Value} {t:TypeId} {fr:Nat×Nat} (h:W.heap[b]? =some (.cells c t fr)):(impH W).get b=some (.cells (c.toList.map (impV W)) roE):=by rw[zhq,h];rfl
theorem impH_next (W:World):(impH W).next=W.heap.size+1:=rfl
theorem zls {W:World} {b:Nat} (h:zbT W b=true):b<W.heap.size:=by
 unfold zbT at h
 split at h
 ·rename_i hb;exact(qw.1 hb).1
 ·cases h
theorem impRho_lt {W:World} {i:Nat} (h:i<W.heap.size):zdS W i=(W.heap[i]?).bind fun o=>match o with|.cells c _ _=>some ⟨i,0,c.size,roE,c.size,some o⟩|_=>none:=by
 unfold zdS;rw[if_neg (by omega)]
theorem zfD {W:World} {b:Nat} (h:zbT W b=true): ∃R,zdS W b=some R∧R.blk=b∧R.base=0:=by
 have hlt:=zls h;unfold zbT at h
 split at h
 ·rename_i c t fr hb;exact⟨_,by rw[impRho_lt hlt,hb];rfl,rfl,rfl⟩
 ·cases h
theorem okV_rel {W:World} {v:Value} (h:okV W v=true):VR (zdS W) v v:=by
 unfold okV at h
 split at h
 ·exact .bool _
 ·exact .int _ _
 ·exact .str _
 ·exact .nilFunc
 ·exact .ptrNil
 ·exact .mapNil
 ·exact .sliceNil
 ·rename_i a len cap;simp only[qq,qx,decide_eq_true_eq] at h;obtain⟨h1,h2,h3,h4⟩:=h;obtain⟨R,hR,hb,h0⟩:=zfD h4;obtain⟨b,o,sp⟩:=a;simp only at h1 hR hb;subst h1;have:=VR.slice (o:=o) (len:=len) hR h3 h2;rw[hb,h0,qC] at this;exact this
 ·rename_i a;simp only[qq,qx] at h;obtain⟨h1,h4⟩:=h;obtain⟨R,hR,hb,h0⟩:=zfD h4;obtain⟨b,o,sp⟩:=a;simp only at h1 hR hb;subst h1;have:=VR.ptr (o:=o) hR;rw[hb,h0,qC] at this;exact this
 ·cases h
theorem zeW {W:World} {i:Nat} {R:RB} (h:zdS W i=some R):(i≠W.heap.size∧ ∃c t fr,W.heap[i]? =some (.cells c t fr)∧R=⟨i,0,c.size,roE,c.size,some (.cells c t fr)⟩)∨(i=W.heap.size∧zbT W R.blk=true):=by
 unfold zdS at h
 split at h
 ·rename_i e;refine .inr ⟨e,?_⟩;unfold dangR at h
  split at h
  ·rename_i hx;cases h;exact Classical.choose_spec hx
  ·cases h
 ·rename_i e;obtain⟨o,ho,h⟩:=aof h;cases o with
  |cells c t fr=>cases h;exact .inl ⟨e,c,t,fr,ho,rfl⟩
  |_=>cases h
theorem zie {W:World} {i:Nat} {R:RB} {o:IObj} (h:zdS W i=some R) (ho:(impH W).get i=some o): ∃c t fr,W.heap[i]? =some (.cells c t fr)∧R=⟨i,0,c.size,roE,c.size,some (.cells c t fr)⟩:=by
 rcases zeW h with⟨-,h⟩| ⟨rfl,-⟩
 ·exact h
 ·rw[zhq,qp (ql _)] at ho;cases ho
theorem dang_rel {W:World} {v:Value} {b:Nat} (hb:zbT W b=true) (h:isDang v=true):VR (zdS W) (dang W) v:=by
 unfold isDang at h
 split at h
 ·refine .sliceD (R:=⟨Classical.choose (⟨b,hb⟩: ∃b,zbT W b=true),0,0,0,1,none⟩) ?_ (by show 0<1;omega);unfold zdS;rw[if_pos rfl];unfold dangR;rw[dif_pos ⟨b,hb⟩]
 ·cases h
theorem imp_HR (W:World):HR P (zdS W) (impH W) W where
 obj:=fun i R o hi ho=>by
  obtain⟨c,t,fr,hb,rfl⟩:=zie hi ho;rw[zig hb] at ho;cases ho;refine⟨rfl,by simp,c,t,fr,hb,.inr ⟨rfl,rfl⟩,rfl,by simp,fun j v hj=> ?_⟩;rw[List.getElem?_map] at hj;obtain⟨x,hx,rfl⟩:=Option.map_eq_some_iff.1 hj;refine⟨x,by rw[Array.getElem?_toList] at hx;simpa using hx,?_⟩;unfold impV;by_cases hok:okV W x=true
  ·rw[if_pos hok];exact .inr (okV_rel hok)
  ·rw[if_neg hok];by_cases hd:isDang x=true
   ·rw[if_pos hd];exact .inr (dang_rel (b:=i) (by unfold zbT;rw[hb]) hd)
   ·rw[if_neg hd];exact .inl rfl
 nxt:=fun i hi=>by
  have hi':W.heap.size+1≤i:=hi;have hn:W.heap[i]? =none:=qp (by omega);exact⟨by unfold zdS;rw[if_neg (by omega),hn];rfl,by rw[zhq,hn];rfl⟩
 sep:=fun i j R S hi hj ai aj e=>by
  obtain⟨o,ho,-⟩:=ai;obtain⟨o',ho',-⟩:=aj;obtain⟨_,_,_,_,rfl⟩:=zie hi ho;obtain⟨_,_,_,_,rfl⟩:=zie hj ho';exact e
 blk:=fun i R hi=>by
  rcases zeW hi with⟨-,_,_,_,hb,rfl⟩| ⟨-,hc⟩
  ·exact(qw.1 hb).1
  ·exact zls hc
 glb:=fun i b x hi=>by
  rw[zhq] at hi;obtain⟨o,-,ho⟩:=aof hi;cases o<;>cases ho
def okArg (W:World):Value→Bool
 |.agg cs=>cs.toList.all (okV W)
 |v=>okV W v
theorem okArg_rel {W:World} {v:Value} (h:okArg W v=true):VR (zdS W) v v:=by
 unfold okArg at h
 split at h
 ·rename_i cs;have:VRL (zdS W) cs.toList cs.toList:=⟨rfl,fun j x y hx hy=>by rw[hx] at hy;cases hy;exact okV_rel (List.all_eq_true.1 h x (qe hx))⟩;exact VR.agg_of this
 ·exact okV_rel h
theorem calls_import {F:FuncId→Option za} (hmix:P.follows .mixedOrders=true) (hF: ∀g cf,F g=some cf→FnOk P g cf) {g:FuncId} {args:Array Value} {W:World} (hargs: ∀v∈args.toList,okArg W v=true)
 {b:Bool} {n:Nat} {h':H} (hn:E F n (.call (.func (.func g) #[] #[]) args.toList (impH W))=some (.val (.bool b) h')) (hfr: ∀i,i<W.heap.size→h'.get i=(impH W).get i):
 Calls P g args W fun e W'=>e=.returned (.bool b)∧Same W W':=by
 have ra:VRL (zdS W) args.toList args.toList:=⟨rfl,fun j x y hx hy=>by rw[hx] at hy;cases hy;exact okArg_rel (hargs x (qe hx))⟩;refine(zio hmix hF hn ra (imp_HR W)).mono ?_;rintro e W' ⟨v',σ,rfl,hv,hr,hx⟩;refine⟨by rw[hv.inv_bool],hx.os,hx.out,fun B hB=> ?_,hx.froz,hx.td,hx.size⟩;by_cases hc:zbT W B=true
 ·obtain⟨R,hR,hb,h0⟩:=zfD hc;obtain⟨-,c,t,fr,hWB,rfl⟩:=(zeW hR).resolve_right (fun h=>by omega);have ho:=hr.obj B _ _ (hx.le _ _ hR) (by rw[hfr B hB];exact zig hWB);obtain⟨_,_,c',t',fr',q1,q2,_⟩:=ho;rcases q2 with⟨q2,_⟩| ⟨q2,_⟩
  ·cases q2
  ·rw[q1,hWB];exact(q2.symm▸rfl:some (Obj.cells c' t' fr')=some (Obj.cells c t fr))
 ·refine hx.frame B hB fun i R hi e=> ?_;rcases zeW hi with⟨-,c,t,fr,hWB,rfl⟩| ⟨-,hcc⟩
  ·have e:i=B:=e;subst e;exact hc (by unfold zbT;rw[hWB])
  ·rw[e] at hcc;exact hc hcc
theorem prim_of {F:FuncId→Option za} (hmix:P.follows .mixedOrders=true) (hF: ∀g cf,F g=some cf→FnOk P g cf) {g:FuncId} {fn:Func} {cf0:za} (hfn:P.funcs[g]? =some fn) (hcf:z6 P fn=some (zfd cf0)) {b:Bool} {n:Nat} {h':H}
 (he:E F n (.call (.func (.func g) #[] #[]) [] .empty)=some (.val (.bool b) h')):FnOk P g (zh6 b):=by
 refine .inr (.inl ⟨fn,cf0,b,hfn,hcf,rfl,fun w=> ?_⟩);have hr:HR P (fun _=>none) H.empty w:=⟨fun _ _ _ h=>(by cases h),fun i _=>⟨rfl,PT.get_nil _⟩,fun _ _ _ _ h=>(by cases h),fun _ _ h=>(by cases h),fun i _ _ h=>by rw[H.get_empty] at h;cases h⟩;refine(zio hmix hF he (args':= #[]) ⟨rfl,fun j x y hx=>by simp at hx⟩ hr).mono ?_;rintro e w' ⟨v',σ,rfl,hv,-,hx⟩;exact⟨by rw[hv.inv_bool],hx.os,hx.out,fun B hB=>hx.frame B hB fun _ _ h=>(by cases h),hx.froz,hx.td,hx.size⟩
section
open Go.ChangeShapes Go.WideShapes Go.RowKit
variable {H:Type} {enc:TypeId×Value→H}
theorem Same.kept {W W':World} (h:Same W W') (may:MemPlace→Prop):W.keptBut W' may:=by
 refine⟨h.os,h.out,fun i hi=> ?_⟩;rw[h.heap i hi];cases ho:W.heap[i]? with
 |none=>trivial
 |some o=>
  cases o with
  |cells c t fr=>exact⟨rfl,rfl,rfl,fun _ _=>rfl⟩
  |map es c=>exact .inr ⟨rfl,rfl⟩
  |_=>rfl
theorem Same.at {W W':World} (h:Same W W') {p:MemPlace} (hp:p.block<W.heap.size):W.sameAt W' p:=by
 cases p with
 |cell b off=>
  show W'.cell? ⟨b,off,none⟩=W.cell? ⟨b,off,none⟩;have:=h.heap b hp;simp only[World.cell?,this]
 |map b=>exact h.heap b hp
theorem zgZ (hl:laidOutB P=true) {W W':World} {sp':Nat→Bool} (hs:Same W W'): ∀{ts:List TypeId} {vs:List Value} {ds:List (DataW H)} {ps:List MemPlace},(∀t∈ts,P.readableRec t=true∧t<P.types.size)→
 DataW.TrodAll enc P W 0 (fun _=>true) true ts vs ds ps→(∀p∈ps,p.block<W.heap.size)→(∀p∈ps,sp' p.block=true)→DataW.TrodAll enc P W' 0 sp' true ts vs ds ps
 | [],vs,ds,ps,_,h,_,_=>by
   obtain⟨rfl,rfl,rfl⟩:=trodAll_nil h;exact trodAll_mk0
 |t::ts,vs,ds,ps,ht,h,hlt,hsp=>by
  obtain⟨v,vs',d,ds',p,q,rfl,rfl,rfl,h1,h2⟩:=trodAll_cons h;obtain⟨r1,r2⟩:=ht t (by simp);exact trodAll_cons_mk (WideElems.Trod_stays hl r1 r2 h1 (fun x hx=>hs.at (hlt x (by simp[hx]))) (fun x hx=>hsp x (by simp[hx])))
   (zgZ hl hs (fun t ht'=>ht t (by simp[ht'])) h2 (fun x hx=>hlt x (by simp[hx])) (fun x hx=>hsp x (by simp[hx])))
theorem post_kept {f:Func} {s:ChangeSpec} {apart fresh handsOn again:Bool} {W W':World} {args:Array Value} {v:Value} {ds gs:List (DataW H)} {before pa pv:List MemPlace}
 (hW:DataW.Whole enc P f.params.toList s.vars apart W args.toList ds gs before)
 (hres: ∀(b:Nat) (sp:Nat→Bool) (hd:Bool),DataW.TrodAll enc P W' b sp hd f.resultTypes.toList (v.resultList f.resultTypes.size) (s.fn H (ds++gs)).results [])
 (hargs: ∀sp:Nat→Bool,(∀p∈before,sp p.block=true)→DataW.TrodAll enc P W' 0 sp true f.params.toList args.toList (s.fn H (ds++gs)).args pa)
 (hvars: ∀sp:Nat→Bool,(∀p∈before,sp p.block=true)→DataW.TrodVars enc P W' sp s.vars (s.fn H (ds++gs)).vars pv)
 (hps:before=pa++pv) (hk:W.keptBut W' (· ∈before)) (hfz: ∀a:Addr,a.block<W.heap.size→W'.frozen? a=W.frozen? a)
 (hok: ∀(j:Nat) (t:TypeId) (r:Value),f.resultTypes[j]? =some t→(v.resultList f.resultTypes.size)[j]? =some r→Value.okWide P W' .any 0 t r):
 s.post enc P f apart fresh handsOn again W args v W':=by
 refine⟨ds,gs,before,[],pa,pv,hW,hres _ _ _,hargs _ fun p hp=>by simpa using hW.lt p hp,hvars _ fun p hp=>by simpa using hW.lt p hp,World.keptBut_mono (fun p hp=>⟨hp,?_⟩) hk,fun _=> ?_⟩
 ·rw[hps,List.mem_append] at hp;exact Or.inr hp
 ·have hlt:=hW.lt;obtain⟨_,_,_,_,_,hz,hn⟩:=hW;refine⟨hok,_,_,([]++pa)++pv,⟨[]++pa,pv,trodAll_append (hargs _ (fun _ _=>rfl)) (hres _ _ _),hvars _ (fun _ _=>rfl),rfl,fun b off hp=> ?_,fun ha=> ?_⟩,fun p hp _=> ?_⟩
  ·have hb:MemPlace.cell b off∈before:=by rw[hps];simpa using hp
   rw[hfz ⟨b,off,none⟩ (hlt _ hb)];exact hz b off hb
  ·have:=hn ha;rw[hps] at this;simpa using this
  ·rw[hps];simpa using hp
theorem law_post {s:ChangeSpec} {fn:Func} {apart fresh handsOn again:Bool} {W W':World} {args:Array Value} {ds gs:List (DataW H)} {before:List MemPlace} {t:TypeId} (hW:DataW.Whole enc P fn.params.toList s.vars apart W args.toList ds gs before)
 (hvars:s.vars=[]) (hspec:s.fn H (ds++gs)={results:=[.lit (.bool true)],args:=ds}) (hres:fn.resultTypes= #[t]) (ht:P.underlying t=some .bool) (hsame:Same W W') (hl:laidOutB P=true) (hr: ∀t∈fn.params.toList,P.readableRec t=true∧t<P.types.size):
 s.post enc P fn apart fresh handsOn again W args (.bool true) W':=by
 have hW':=hW;obtain⟨p,q,hA,hV,rfl,hfz,hnd⟩:=hW;rw[hvars] at hV;obtain⟨rfl,rfl⟩:=trodVars_none hV;refine post_kept (pa:=p) (pv:=[]) hW' (fun b sp hd=> ?_) (fun sp hsp=> ?_) (fun sp hsp=> ?_) rfl (hsame.kept _) hsame.froz ?_
 ·rw[hspec,hres];exact trodAll_mk1 (shut_bool ht true)
 ·rw[hspec];exact zgZ hl hsame hr hA (fun x hx=>hW'.lt x (by simp[hx])) (fun x hx=>hsp x (by simp[hx]))
 ·rw[hspec,hvars];rfl
 ·exact ok_one hres rfl (okWide_bool_mk ht true)
end
end
end Go.Ideal
