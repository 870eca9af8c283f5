/- A part of the proof: the ideal machine, and what the functions of the program answer over it. -/
import Derived.Test.YtffbioplncclkaaGreatC
set_option linter.unusedSimpArgs false
set_option linter.unusedVariables false
set_option linter.unusedSectionVars false
open Option renaming bind_some→qb,isSome_iff_exists→qg
open List renaming mem_of_getElem?→qd,mem_flatten→qh,mem_singleton→qj,replicate→qq,getElem?_eq_getElem→qt,mem_of_mem_drop→qu,mem_cons_of_mem→qv,mem_cons_self→qw,mem_cons→qx,all_cons→qy
open Nat renaming beq_refl→qe,le_max_right→qf,le_max_left→qi,beq→qk,eq_of_beq_eq_true→ql,le_refl→qm,blt→qn,ble_eq→qo,ble→qp,lt_of_lt_of_le→qr
namespace Go.Ideal
section
def OutC (w:Wd) (M:VM) (h:H) (k kp:DV→VM→Prop):Out→Prop
 |.val v h1=> ∃w1 M1 d,Hist w M h w1 M1 h1∧HRel w1 M1 h1∧VRel w1 d v∧k d M1
 |.pan v _ h1=> ∃w1 M1 d,Hist w M h w1 M1 h1∧HRel w1 M1 h1∧VRel w1 d v∧kp d M1
 |_=>False
def ze (F:FuncId→Option za) (f:DV) (args:List DV) (M:VM) (k kp:DV→VM→Prop):Prop:=
 ∀w h fv vs,HRel w M h→VRel w f fv→LRel w args vs→ ∃n o,E F n (.call fv vs h)=some o∧OutC w M h k kp o
def HandD (F:FuncId→Option za) (f:DV) (args:List DV) (p:Option DV) (M:VM) (k:VM→Prop):Prop:=
 ∀w h fv vs pv,HRel w M h→VRel w f fv→LRel w args vs→ORelO w p pv→ ∃n v h1 w1 M1,E F n (.hand fv vs pv h)=some (.val v h1)∧Hist w M h w1 M1 h1∧HRel w1 M1 h1∧k M1
structure St (n0:Nat) (w0:Wd) (M0:VM) (h0:H) (w:Wd) (M:VM) (h:H):Prop where
 n:M0.next=n0
 r0:HRel w0 M0 h0
 hi:Hist w0 M0 h0 w M h
 r:HRel w M h
theorem St.step {n0:Nat} {w0 w w1:Wd} {M0 M M1:VM} {h0 h h1:H} (s:St n0 w0 M0 h0 w M h) (a:Hist w M h w1 M1 h1) (b:HRel w1 M1 h1):St n0 w0 M0 h0 w1 M1 h1:=⟨s.n,s.r0,s.hi.trans s.r0 a,b⟩
def OutK (n0:Nat) (w0:Wd) (M0:VM) (h0:H) (K:KD):Out→Prop
 |.nrm t h=> ∃w M s,St n0 w0 M0 h0 w M h∧SRel w s t∧K.nrm s M
 |.exit i t h=> ∃w M s,St n0 w0 M0 h0 w M h∧SRel w s t∧K.ext i s M
 |.ret t h=> ∃w M s,St n0 w0 M0 h0 w M h∧SRel w s t∧K.ret s M
 |.pan v t h=> ∃w M s d,St n0 w0 M0 h0 w M h∧SRel w s t∧VRel w d v∧K.pan d s M
 |.val _ _=>False
def CodeD (F:FuncId→Option za) (n0:Nat) (c:CC) (K:KD) (s:DS) (M:VM):Prop:=
 ∀w0 M0 h0 w h t,St n0 w0 M0 h0 w M h→SRel w s t→ ∃n o,E F n (.code c t h)=some o∧OutK n0 w0 M0 h0 K o
def zcn (F:FuncId→Option za) (n0:Nat) (L:List (List Bool)) (b:CC) (K:KD) (s:DS) (M:VM):Prop:=CodeD F n0 (.loop L b) K s M
def ScopeD (F:FuncId→Option za) (n0:Nat) (b:CC) (l1:Nat) (r1:CC) (l2:Nat) (r2:CC) (K:KD) (s:DS) (M:VM):Prop:=CodeD F n0 (.scope b l1 r1 l2 r2) K s M
structure MoOk (s:DS) (t:zb) (w:Wd) (M:VM) (h:H) (x:Mo) (y:Nat×H):Prop where
 idx:x.idx=y.1
 ex: ∃wx,HRel wx x.M y.2∧Hist wx x.M y.2 w M h∧ ∀p,inP x.bad p=false→ ∀d,getS s p=some d→ ∃v,t.get p=some v∧VRel wx d v
def BsOk (s:DS) (t:zb) (w:Wd) (M:VM) (h:H):List Mo→List (Nat×H)→Prop
 | [],[]=>True
 |x::r,y::q=>MoOk s t w M h x y∧BsOk s t w M h r q
 |_,_=>False
def SurvD (F:FuncId→Option za) (n0:Nat) (l:List CI) (bs:List Mo) (s:DS) (M:VM):Prop:= ∀w0 M0 h0 w h t cs,St n0 w0 M0 h0 w M h→SRel w s t→BsOk s t w M h bs cs→ ∃n r,zD (E F n) l cs t h=some r
def rD (F:FuncId→Option za) (n0:Nat):RnD:=⟨ze F,HandD F,zcn F n0,ScopeD F n0,SurvD F n0⟩
section
variable {F:FuncId→Option za} {n0:Nat}
theorem OutK.mono {w0:Wd} {M0:VM} {h0:H} {K K':KD} (h1: ∀s M,K.nrm s M→K'.nrm s M) (h2: ∀i s M,K.ext i s M→K'.ext i s M) (h3: ∀s M,K.ret s M→K'.ret s M) (h4: ∀d s M,K.pan d s M→K'.pan d s M) {o:Out} (h:OutK n0 w0 M0 h0 K o):OutK n0 w0 M0 h0 K' o:=by
 cases o with
 |nrm=>obtain⟨w,M,s,a,b,c⟩:=h;exact⟨w,M,s,a,b,h1 _ _ c⟩
 |exit=>obtain⟨w,M,s,a,b,c⟩:=h;exact⟨w,M,s,a,b,h2 _ _ _ c⟩
 |ret=>obtain⟨w,M,s,a,b,c⟩:=h;exact⟨w,M,s,a,b,h3 _ _ c⟩
 |pan=>obtain⟨w,M,s,d,a,b,e,c⟩:=h;exact⟨w,M,s,d,a,b,e,h4 _ _ _ c⟩
 |val=>exact h
theorem zb4 {α:Type} {r:Option α} {k:α→Prop} (h:ofD r k): ∃a,r=some a∧k a:=by
 cases r with
 |none=>exact h.elim
 |some a=>exact⟨a,rfl,h⟩
theorem okD_of {r:RD} {k:DV→VM→Prop} (h:okD r k): ∃d M,r=some (d,M)∧k d M:=by
 cases r with
 |none=>exact h.elim
 |some a=>exact⟨a.1,a.2,rfl,h⟩
theorem zfP {w:Wd} {s:DS} {t:zb} (hs:SRel w s t) {g:Option (List Bool×Bool)} {b:Bool} (h:wantD g s=some b):zba g t=some b:=by
 cases g with
 |none=>exact h
 |some x=>
  obtain⟨p,q⟩:=x;obtain⟨d,hd,h⟩:=aof (show(getS s p).bind _=some b from h);obtain⟨v,hv,hr⟩:=hs p d hd;show(t.get p).bind (wantedV q)=_;rw[hv,qb];cases hr<;>first|exact h|cases h
theorem wDo_sound {op:COp} {s:DS} {M:VM} {kp k:DV→VM→Prop} (h:wDo (rD F n0) op s M kp k) {w:Wd} {hp:H} {t:zb} (hr:HRel w M hp) (hs:SRel w s t): ∃n o,zdP (E F n) op t hp=some o∧OutC w M hp k kp o:=by
 have gen:okD (opD op s M) k→(∀ih:IH,zdP ih op t hp=(opV op t hp).map valO)→ ∃n o,zdP (E F n) op t hp=some o∧OutC w M hp k kp o:=fun hk he=>by
  obtain⟨d,M1,h1,h2⟩:=okD_of hk;obtain⟨v,h',h3,w',h4,h5,h6⟩:=opW_sound hr hs h1;exact⟨0,.val v h',by rw[he,h3];rfl,w',M1,d,h5,h6,h4,h2⟩
 cases op
 case call f args=>
  obtain⟨fd,hf,h⟩:=zb4 h;obtain⟨l,hl,h⟩:=zb4 h;obtain⟨fv,hfv,r1⟩:=zbC hs hf;obtain⟨vs,hvs,r2⟩:=zgC hs hl;obtain⟨n,o,ho,hc⟩:=h w hp fv vs hr r1 r2;refine⟨n,o,?_,hc⟩;show((f.ev t).bind fun f=>(evL t args).bind fun l=>(E F n (.call f l hp)).bind outOf)=_;rw[hfv,hvs,qb,qb,ho];cases o<;>first|rfl|exact hc.elim
 case invoke tbl x args=>
  obtain⟨v,hv,h⟩:=zb4 h;cases v with
  |ifc ty d=>
   obtain⟨f,hf,h⟩:=zb4 h;obtain⟨l,hl,h⟩:=zb4 h;obtain⟨v',hv',r1⟩:=zbC hs hv;obtain⟨vs,hvs,r2⟩:=zgC hs hl;cases r1 with
   | @ifc _ _ v2 r1=>
     obtain⟨n,o,ho,hc⟩:=h w hp _ _ hr (.fn f (a:=[]) (c:=[]) (a':=[]) (c':=[]) rfl rfl (fun k d v h=>by simp at h) (fun k d v h=>by simp at h)) (.cons r1 r2);refine⟨n,o,?_,hc⟩;show((x.ev t).bind fun v=>(zhd tbl v).bind fun r=>(evL t args).bind fun l=>(E F n (.call (.func (.func r.1) #[] #[]) (r.2::l) hp)).bind outOf)=_;rw[hv',qb];show((lookM ty tbl).map (fun f=>(f,v2))).bind _=_;rw[hf,Option.map_some,qb,hvs,qb,ho];cases o<;>first|rfl|exact hc.elim
  |_=>exact h.elim
 case panic x=>
  obtain⟨v,hv,h⟩:=zb4 h;cases v with
  |ifc ty d=>
   obtain⟨v',hv',r1⟩:=zbC hs hv;have r2:=r1;cases r1 with
   |ifc _ r1=>
    refine⟨0,.pan _ .nil hp,?_,w,M,_,.refl _ _ _,hr,r2,h⟩;show(x.ev t).bind (panV hp)=_;rw[hv'];rfl
  |_=>exact h.elim
 all_goals exact gen h fun ih=>rfl
theorem zjP {o:CI} {s:DS} {M:VM} {kp k:DV→VM→Prop} (h:zii (rD F n0) o s M kp k) {w:Wd} {hp:H} {t:zb} (hr:HRel w M hp) (hs:SRel w s t): ∃n out,zgO (E F n) o t hp=some out∧OutC w M hp k kp out:=by
 obtain⟨b,hb,h⟩:=zb4 h;have hw:=zfP hs hb;cases b with
 |true=>
  obtain⟨n,out,h1,h2⟩:=wDo_sound h hr hs;exact⟨n,out,by unfold zgO;rw[hw];exact h1,h2⟩
 |false=>exact⟨0,.val zP hp,by unfold zgO;rw[hw];rfl,w,M,_,.refl _ _ _,hr,.tup_of .nil,h⟩
theorem zlx {kp:DV→DS→VM→Prop} {kk:DS→VM→Prop} {w0:Wd} {M0:VM} {h0:H}: ∀{l:List CI} {s:DS} {M:VM},wOps (rD F n0) kp l s M kk→ ∀{w:Wd} {h:H} {t:zb},St n0 w0 M0 h0 w M h→SRel w s t→ ∃n o,zcQ (E F n) l t h=some o∧OutK n0 w0 M0 h0 ⟨kk,fun _ _ _=>False,fun _ _=>False,kp⟩ o
 | [],s,M,hk,w,h,t,hst,hs=>⟨0,.nrm t h,rfl,w,M,s,hst,hs,hk⟩
 |o::l,s,M,hk,w,h,t,hst,hs=>by
  obtain⟨n,out,h1,h2⟩:=zjP hk hst.r hs;cases out with
  |val v h1'=>
   obtain⟨w1,M1,d,a1,a2,a3,a4⟩:=h2;obtain⟨m,o2,b1,b2⟩:=zlx a4 (hst.step a1 a2) ((hs.mono a1.le).put a3 o.dst);refine⟨max n m,o2,?_,b2⟩;rw[zdt,stepOp_le (E_le (qi n m)) h1];exact zkb (E_le (qf n m)) b1
  |pan v _ h1'=>
   obtain⟨w1,M1,d,a1,a2,a3,a4⟩:=h2;exact⟨n,.pan v t h1',by rw[zdt,h1];rfl,w1,M1,s,d,hst.step a1 a2,hs.mono a1.le,a3,a4⟩
  |nrm=>exact h2.elim
  |exit=>exact h2.elim
  |ret=>exact h2.elim
theorem inP_cons (q:List Bool) (l:List (List Bool)) (p:List Bool):inP (q::l) p=false↔q≠p∧inP l p=false:=by
 show(match beqP q p with|true=>true|false=>inP l p)=false↔_;cases h:beqP q p with
 |true=>have:=beqP_eq h;subst this;simp
 |false=>
  have:q≠p:=fun e=>by subst e;rw[zeM] at h;cases h
  simp[this]
theorem MoOk.put {s:DS} {t:zb} {w w1:Wd} {M M1:VM} {h h1:H} {x:Mo} {y:Nat×H} (ho:MoOk s t w M h x y) (hi:Hist w M h w1 M1 h1) (q:Option (List Bool)) {d:DV} {v:Value}:
 MoOk (zW q d s) (zbk q v t) w1 M1 h1 (zcC q x) y:=by
 obtain⟨hx,wx,a,b,c⟩:=ho;cases q with
 |none=>exact⟨hx,wx,a,b.trans a hi,c⟩
 |some q=>
  refine⟨hx,wx,a,b.trans a hi,fun p hp e he=> ?_⟩;obtain⟨h1,h2⟩:=(inP_cons q x.bad p).1 hp;rw[show zW (some q) d s=(q,d)::s from rfl,zdB,if_neg h1] at he;obtain⟨u,hu,hr⟩:=c p h2 e he;exact⟨u,by show(t.set q v).get p=_;rw[PT.get_set_ne v q p t h1];exact hu,hr⟩
theorem MoOk.putGood {s:DS} {t:zb} {w w1:Wd} {M M1:VM} {h h1:H} {x:Mo} {y:Nat×H} (ho:MoOk s t w M h x y) (hi:Hist w M h w1 M1 h1) (q:Option (List Bool)) {d:DV} {v:Value}
 (hv: ∀wx,HRel wx x.M y.2→Hist wx x.M y.2 w M h→(∀p,inP x.bad p=false→ ∀d,getS s p=some d→ ∃v,t.get p=some v∧VRel wx d v)→VRel wx d v):MoOk (zW q d s) (zbk q v t) w1 M1 h1 x y:=by
 obtain⟨hx,wx,a,b,c⟩:=ho;have hv:=hv wx a b c;cases q with
 |none=>exact⟨hx,wx,a,b.trans a hi,c⟩
 |some q=>
  refine⟨hx,wx,a,b.trans a hi,fun p hp e he=> ?_⟩;rw[show zW (some q) d s=(q,d)::s from rfl,zdB] at he;by_cases h1:q=p
  ·rw[if_pos h1] at he;cases he;subst h1;exact⟨v,PT.get_set_same v q t,hv⟩
  ·rw[if_neg h1] at he;obtain⟨u,hu,hr⟩:=c p hp e he;exact⟨u,by show(t.set q v).get p=_;rw[PT.get_set_ne v q p t h1];exact hu,hr⟩
theorem zfl {bad:List (List Bool)}: ∀{ns:List (List Bool)},zdd bad ns=true→ ∀p∈ns,inP bad p=false
 | [],_,p,hp=>by cases hp
 |q::ns,h,p,hp=>by
  have h:(match inP bad q with|true=>false|false=>zdd bad ns)=true:=h;cases hq:inP bad q with
  |true=>rw[hq] at h;cases h
  |false=>
   rw[hq] at h;rcases qx.1 hp with rfl|hp
   ·exact hq
   ·exact zfl h p hp
theorem BsOk.map {s s1:DS} {t t1:zb} {w w1:Wd} {M M1:VM} {h h1:H} {f:Mo→Mo} (hf: ∀x y,MoOk s t w M h x y→MoOk s1 t1 w1 M1 h1 (f x) y): ∀{bs:List Mo} {cs:List (Nat×H)},BsOk s t w M h bs cs→BsOk s1 t1 w1 M1 h1 (bs.map f) cs
 | [],[],_=>trivial
 |x::r,y::q,hb=>⟨hf x y hb.1,hb.2.map hf⟩
 | [],_::_,hb=>hb.elim
 |_::_,[],hb=>hb.elim
theorem BsOk.next {s:DS} {t:zb} {w:Wd} {M:VM} {h:H}: ∀{bs:List Mo} {cs:List (Nat×H)},BsOk s t w M h bs cs→zkq bs=nextB cs
 | [],[],_=>rfl
 |x::r,y::q,hb=>by show x.idx+1=y.1+1;rw[hb.1.idx]
 | [],_::_,hb=>hb.elim
 |_::_,[],hb=>hb.elim
theorem zgr {M M':VM}: ∀{rs:List Nat},zgs rs M M'→ ∀j∈rs,M.get j=M'.get j∧(M.get j).isSome=true
 | [],_,j,hj=>by cases hj
 |i::r,h,j,hj=>by
  rcases qx.1 hj with rfl|hj
  ·exact h.1
  ·exact zgr h.2 j hj
theorem zkd {M M':VM} {d:DV} (h: ∀j∈refD d,M.get j=M'.get j):zcG M' d=zcG M d:=by
 cases d<;>first|rfl| (show(VM.obj _ _).bind _=(VM.obj _ _).bind _;unfold VM.obj;rw[h _ (qj.2 rfl)])
theorem elemsD_congr {M M':VM} {n:Nat} {d:DV} (h: ∀j∈refD d,M.get j=M'.get j):zeJ M' n d=zeJ M n d:=by
 cases d<;>first|rfl| (show(VM.obj _ _).bind _=(VM.obj _ _).bind _;unfold VM.obj;rw[h _ (qj.2 rfl)])
theorem zgW {M M':VM} {d:DV} (h: ∀j∈refD d,M.get j=M'.get j):zbc M' d=zbc M d:=by
 cases d<;>first|rfl| (show(VM.obj _ _).bind _=(VM.obj _ _).bind _;unfold VM.obj;rw[h _ (qj.2 rfl)])
theorem sliceD_congr {M M':VM} {n:Nat} {lo hi:Option DV} {d:DV} (h: ∀j∈refD d,M.get j=M'.get j):sliceD n M' lo hi d=sliceD n M lo hi d:=by
 cases d<;>first|rfl| (show(VM.obj _ _).bind _=(VM.obj _ _).bind _;unfold VM.obj;rw[h _ (qj.2 rfl)])
theorem opD_congr {op:COp} (hp:isRd op=true) {s:DS} {M M':VM} {d:DV} {M2:VM} (ha:zgs (zce s op) M M') (h:opD op s M=some (d,M2)):opD op s M'=some (d,M'):=by
 have hq:=fun j hj=>(zgr ha j hj).1;clear ha;cases op
 case load1 a=>
  obtain⟨x,hx,h⟩:=aof h;obtain⟨r,hr,h⟩:=aof h;obtain⟨y,hy,e⟩:=amf h;cases e;show((evD s a).bind fun a=>(zcG M' a).bind fun r=>(oneD r).map (·,M'))=_;rw[hx,qb,zkd (M:=M) (fun j hj=>hq j (by show j∈zc3 s a;rw[zb0 hx];exact hj)),hr,qb,hy];rfl
 case loadN n a=>
  obtain⟨x,hx,h⟩:=aof h;obtain⟨r,hr,h⟩:=aof h;obtain⟨y,hy,e⟩:=amf h;cases e;show((evD s a).bind fun a=>(zcG M' a).bind fun r=>(zcD n r).map fun l=>(DV.agg l,M'))=_;rw[hx,qb,zkd (M:=M) (fun j hj=>hq j (by show j∈zc3 s a;rw[zb0 hx];exact hj)),hr,qb,hy];rfl
 case lookup kk z ok x i=>
  obtain⟨m,hm,h⟩:=aof h;obtain⟨k,hk,h⟩:=aof h;obtain⟨z',hz,h⟩:=aof h;obtain⟨b,hb,h⟩:=aof h;obtain⟨es,hes,h⟩:=aof h;obtain⟨r,hr1,e⟩:=amf h;cases e;show((evD s x).bind fun m=>(evD s i).bind fun k=>(dOf z).bind fun z=>(zM kk k k).bind fun _=>(zbc M' m).bind fun es=>(zeF kk k es).map fun r=>(zbA z ok r,M'))=_;rw[hm,hk,hz,qb,qb,qb,hb,qb,zgW (M:=M) (fun j hj=>hq j (by show j∈zc3 s x;rw[zb0 hm];exact hj)),hes,qb,hr1];rfl
 case slice size x lo hi=>
  obtain⟨y,hy,h⟩:=aof h;obtain⟨l,hl,h⟩:=aof h;obtain⟨u,hu,h⟩:=aof h;obtain⟨z,hz,e⟩:=amf h;cases e;show((evD s x).bind fun v=>(evDO s lo).bind fun lo=>(evDO s hi).bind fun hi=>(sliceD size M' lo hi v).map (·,M'))=_;rw[hy,hl,hu,qb,qb,qb,sliceD_congr (M:=M) (fun j hj=>hq j (by show j∈zc3 s x;rw[zb0 hy];exact hj)),hz];rfl
 case slice3 size x lo hi mx=>
  obtain⟨y,hy,h⟩:=aof h;obtain⟨l,hl,h⟩:=aof h;obtain⟨u,hu,h⟩:=aof h;obtain⟨v,hv,h⟩:=aof h;obtain⟨z,hz,e⟩:=amf h;cases e;have hc:slice3D size M' l u v y=slice3D size M l u v y:=by
   have hj: ∀j∈refD y,M.get j=M'.get j:=fun j hj=>hq j (by show j∈zc3 s x;rw[zb0 hy];exact hj);cases y<;>first|rfl| (show(VM.obj _ _).bind _=(VM.obj _ _).bind _;unfold VM.obj;rw[hj _ (qj.2 rfl)])
  show((evD s x).bind fun w=>(evDO s lo).bind fun lo=>(evD s hi).bind fun hi=>(evD s mx).bind fun mx=>(slice3D size M' lo hi mx w).map (·,M'))=_;rw[hy,hl,hu,hv,qb,qb,qb,qb,hc,hz];rfl
 case blt b as=>
  cases b with
  |lenMap=>
   obtain⟨l,hl,h⟩:=aof h
   match as,l,hl,h with
   |_,[],_,h=>cases h
   |_,_::_::_,_,h=>cases h
   | [],[_],hl,_=>cases hl
   |x::y::r,[d0],hl,_=>
    obtain⟨y,hy,h3⟩:=aof hl;obtain⟨z,hz,h4⟩:=amf h3;obtain⟨y2,hy2,h5⟩:=aof hz;obtain⟨z2,hz2,h6⟩:=amf h5;subst h6;cases h4
   | [x],[d0],hl,h=>
     obtain⟨y,hy,h3⟩:=aof hl;obtain⟨z,hz,h4⟩:=amf h3;cases hz;cases h4;obtain⟨es,hes,e⟩:=amf (show(zbc M d0).map _=_ from h);cases e;show((evDL s [x]).bind fun l=>bltD M' .lenMap l)=_;rw[hl,qb];show(zbc M' d0).map _=_;rw[zgW (M:=M) (fun j hj=>hq j (by show j∈[x].flatMap (zc3 s);simp[zb0 hy,hj])),hes];rfl
  |_=>cases hp
 case b2s x=>
  obtain⟨y,hy,h⟩:=aof h;obtain⟨z,hz,e⟩:=amf h;cases e;show((evD s x).bind fun v=>(b2sD M' v).map (·,M'))=_;have hb:b2sD M' y=b2sD M y:=by unfold b2sD;rw[elemsD_congr (M:=M) (fun j hj=>hq j (by show j∈zc3 s x;rw[zb0 hy];exact hj))]
  rw[hy,qb,hb,hz];rfl
 all_goals cases hp
theorem zdE {b o:Nat}:zh4 ⟨b,o,none⟩ ⟨b,o,none⟩=true:=by unfold zh4;simp
theorem eqI_refl (a:Int):eqI a a=true:=by cases a<;>exact qe _
theorem zhl {w:Wd} {d:DV} {v:Value} (hs:zcE d=true) (h:VRel w d v):zgV v v=true:=by
 cases h with
 |int k n=>show(decide (k=k)&&eqI n n)=true;rw[eqI_refl];simp
 |bool b=>cases b<;>rfl
 |str s=>exact zd4 _
 |nilS=>rfl
 |nilP=>rfl
 |nilM=>rfl
 |nilF=>rfl
 |map=>exact qe _
 |ptr=>exact zdE
 |ms=>show(zh4 _ _&&qk _ _&&qk _ _)=true;rw[zdE,qe,qe];rfl
 |lst=>show(zh4 _ _&&qk _ _&&qk _ _)=true;rw[zdE,qe,qe];rfl
 | @lst0 s cap base hc hsp=>
   cases base with
   |none=>simp[zgV]
   |some a=>
    obtain⟨b,o,sp⟩:=a;have:=hsp _ rfl;simp only at this;subst this;show(zh4 _ _&&qk _ _&&qk _ _)=true;rw[zdE,qe,qe];rfl
 |pl=>exact zdE
 |_=>cases hs
theorem zgm {w:Wd}: ∀{l:List DV} {vs:List Value},l.all zcE=true→LRel w l vs→ziM vs vs=true
 | [],vs,_,h=>by rw[h.inv_nil];rfl
 |d::l,vs,hs,h=>by
  obtain⟨v,r,rfl,hv,hr⟩:=h.head;simp only[qy,Bool.and_eq_true] at hs;show(zgV v v&&ziM r r)=true;rw[zhl hs.1 hv,zgm hs.2 hr];rfl
theorem eqVal1_refl {w:Wd} {d:DV} {v:Value} (hs:(match d with|.agg l=>l.all zcE|d=>zcE d)=true) (h:VRel w d v):zkP v v=true:=by
 cases d with
 |agg l=>obtain⟨vs,rfl,hl⟩:=h.inv_agg;exact zgm hs hl
 |_=>
  have e:zkP v v=zgV v v:=by cases h<;>first|rfl|cases hs
  rw[e];exact(fun hs=>zhl (w:=w) hs h) hs
theorem zkO {w:Wd}: ∀{l:List DV} {vs:List Value},(l.all fun d=>match d with|.agg l=>l.all zcE|d=>zcE d)=true→LRel w l vs→zl4 vs vs=true
 | [],vs,_,h=>by rw[h.inv_nil];rfl
 |d::l,vs,hs,h=>by
  obtain⟨v,r,rfl,hv,hr⟩:=h.head;simp only[qy,Bool.and_eq_true] at hs;show(zkP v v&&zl4 r r)=true;rw[eqVal1_refl hs.1 hv,zkO hs.2 hr];rfl
theorem selfEq_refl {w:Wd} {d:DV} {v:Value} (hs:zck d=true) (h:VRel w d v):eqVal v v=true:=by
 cases d with
 |agg l=>obtain⟨vs,rfl,hl⟩:=h.inv_agg;exact zgm hs hl
 |tup l=>obtain⟨vs,rfl,hl⟩:=h.inv_tup;exact zkO hs hl
 |_=>
  have e:eqVal v v=zgV v v:=by cases h<;>first|rfl|cases hs
  rw[e];exact(fun hs=>zhl (w:=w) hs h) hs
theorem det_eq {w:Wd} {d:DV} {v v':Value} (hd:detD d=true) (h:VRel w d v) (h':VRel w d v'):v=v':=by
 cases h<;>first| (cases hd;done)| (cases h';first|rfl|skip)
 all_goals first
  | (rename_i h1 _ h2;rw[h1] at h2;cases h2;rfl)
  | (rename_i h1 _ _ _ h2 _ _;rw[h1] at h2;cases h2;rfl)
theorem read_at {op:COp} (hp:isRd op=true) {s:DS} {t:zb} {w:Wd} {M M2:VM} {h:H} {x:Mo} {y:Nat×H} {ns:List (List Bool)} {d:DV} (hr:HRel w M h) (hsub: ∀p∈zg op,p∈ns) (hm:MoOk s t w M h x y) (ha:rdAt (zce s op) ns M x∨rdAlt op ns s d x) (hd:opD op s M=some (d,M2)):
 ∃v,opV op t y.2=some (v,y.2)∧opV op t h=some (v,h)∧ ∀wx,HRel wx x.M y.2→Hist wx x.M y.2 w M h→(∀p,inP x.bad p=false→ ∀d,getS s p=some d→ ∃v,t.get p=some v∧VRel wx d v)→VRel wx d v:=by
 obtain⟨hx,wx,a,b,c⟩:=hm;have key: ∀wx,HRel wx x.M y.2→Hist wx x.M y.2 w M h→(∀p,inP x.bad p=false→ ∀d,getS s p=some d→ ∃v,t.get p=some v∧VRel wx d v)→ ∃v,VRel wx d v∧opV op t y.2=some (v,y.2)∧opV op t h=some (v,h):=fun wx a b c=>by
  rcases ha with ha| ⟨ha,hdet,hdx⟩
  ·have hdx:=opD_congr hp ha.2 hd;obtain⟨-,v,hv,hg⟩:=zeu hp a (fun p hp e he=>c p (zfl ha.1 p (hsub p hp)) e he) hdx;refine⟨v,hv,hg y.2 (fun _ _=>rfl),hg h fun bl hb=> ?_⟩;rcases hb with⟨j,R,hj,hR,rfl⟩|hz
   ·obtain⟨e1,e2⟩:=zgr ha.2 j hj;obtain⟨z,hz⟩:=qg.1 e2;exact b.same j z R (by rw[←e1];exact hz) hz hR
   ·obtain⟨z,hz⟩:=qg.1 hz;rw[(hr.zd _ _ (b.le.Z _ _ hz)).2,(a.zd _ _ hz).2]
  ·have hn:zjm wx (zg op) s t:=fun p hp e he=>c p (zfl ha p (hsub p hp)) e he;obtain⟨-,v,hv,hg⟩:=zeu hp a hn hdx;obtain⟨-,v',hv',hg'⟩:=zeu hp hr (fun p hp e he=>let⟨u,h1,h2⟩:=hn p hp e he;⟨u,h1,h2.mono b.le⟩) hd;obtain rfl:=det_eq hdet (hv.mono b.le) hv';exact⟨v,hv,hg y.2 (fun _ _=>rfl),hg' h (fun _ _=>rfl)⟩
 obtain⟨v,hv,h1,h2⟩:=key wx a b c;refine⟨v,h1,h2,fun wx a b c=> ?_⟩;obtain⟨v',hv',-,h3⟩:=key wx a b c;rw[h2] at h3;cases h3;exact hv'
theorem reads_ok {op:COp} (hp:isRd op=true) {s:DS} {t:zb} {w:Wd} {M M2:VM} {h:H} {ns:List (List Bool)} {d:DV} {lo:Nat} {v:Value} (q:Option (List Bool)) (hr:HRel w M h) (hsub: ∀p∈zg op,p∈ns) (hd:opD op s M=some (d,M2)) (hv:opV op t h=some (v,h)):
 ∀{bs:List Mo} {cs:List (Nat×H)},(bs≠[]→eqVal v v=true)→BsOk s t w M h bs cs→rdOk op (zce s op) ns s d M lo bs→zg8 op t lo v cs=true∧BsOk (zW q d s) (zbk q v t) w M h (zji lo q bs) cs
 | [],[],_,_,_=>⟨rfl,trivial⟩
 | [],_::_,_,hb,_=>hb.elim
 |_::_,[],_,hb,_=>hb.elim
 |x::r,y::c,he,hb,hk=>by
  have he:=he (by simp);obtain⟨i1,i2⟩:=reads_ok hp q hr hsub hd hv (bs:=r) (cs:=c) (fun _=>he) hb.2 hk.2;have hk1:=hk.1;have hix:=hb.1.idx;unfold zg8;show(if qn y.1 lo then _ else _)=true∧BsOk _ _ _ _ _ ((match qn x.idx lo with|true=>zcC q x|false=>x)::zji lo q r) _;rw[←hix];cases hl:qn x.idx lo with
  |true=>exact⟨by rw[if_pos rfl];exact i1,hb.1.put (.refl _ _ _) q,i2⟩
  |false=>
   rw[hl] at hk1;obtain⟨v',h1,h2,h3⟩:=read_at hp hr hsub hb.1 hk1 hd;rw[hv] at h2;cases h2;refine⟨?_,hb.1.putGood (.refl _ _ _) q h3,i2⟩;rw[if_neg (by decide),h1];show(eqVal v v&&_)=true;rw[he,i1];rfl
theorem freshD_spec {op:COp} {s:DS} {t:zb} {w:Wd} {M M2:VM} {h:H} {x:Mo} {y:Nat×H} {d:DV} (hr:HRel w M h) (hs:SRel w s t) (hm:MoOk s t w M h x y) (hf:freshD op s x.M.next=true) (hd:opD op s M=some (d,M2)):zhk op t y.2.next h.next=true∧ ∃b,d=.str b:=by
 cases op<;>simp only[freshD,Bool.false_eq_true] at hf
 case b2s a=>
  split at hf
  ·rename_i j lo len cap he;obtain⟨u,hu,hd⟩:=aof (show(evD s a).bind (fun v=>(b2sD M v).map (·,M))=some (d,M2) from hd);obtain⟨z,hz,e⟩:=amf hd;cases e;obtain⟨rows,-,hz⟩:=aof (show(zeJ M 1 u).bind _=some d from hz);obtain⟨bl,-,rfl⟩:=amf hz;refine⟨?_,_,rfl⟩;obtain⟨v,hv,r1⟩:=zbC hs he;cases r1 with
   | @ms _ _ _ _ R h1 _ _=>
     obtain⟨-,wx,a1,a2,-⟩:=hm;have hge:y.2.next≤R.blk:=by
      rcases a2.own j R h1 with e|e
      ·have:=(a1.dom j R e).1;have:=Nat.le_of_ble_eq_true hf;omega
      ·exact e
     have hlt:=(hr.dom j R h1).2;show(match a.ev t with|some (.slice (some a) _ _)=>qp y.2.next a.block&&qn a.block h.next|_=>false)=true;rw[hv];simp[hge,hlt]
  ·cases hf
theorem doOp_of' {ih:IH} {op:COp} {t:zb} {h h1:H} {v:Value} (e1:zdP ih op t h=(opV op t h).map valO) (e2:doOp ih op t h=opV op t h) (hd:zdP ih op t h=some (.val v h1)):doOp ih op t h=some (v,h1):=by
 rw[e1] at hd;obtain⟨x,hx,e⟩:=amf hd;cases e;rw[e2];exact hx
theorem doOp_of {ih:IH} {op:COp} {t:zb} {h h1:H} {v:Value} (hd:zdP ih op t h=some (.val v h1)):doOp ih op t h=some (v,h1):=by
 cases op
 case call f args=>
  obtain⟨fv,hf,hd⟩:=aof hd;obtain⟨l,hl,hd⟩:=aof hd;obtain⟨o,ho,hd⟩:=aof hd;show((f.ev t).bind fun f=>(evL t args).bind fun l=>(ih (.call f l h)).bind zij)=_;rw[hf,hl,qb,qb,ho];cases o<;>first| (cases hd;rfl)|cases hd
 case invoke tbl x args=>
  obtain⟨fv,hf,hd⟩:=aof hd;obtain⟨r,hr,hd⟩:=aof hd;obtain⟨l,hl,hd⟩:=aof hd;obtain⟨o,ho,hd⟩:=aof hd;show((x.ev t).bind fun v=>(zhd tbl v).bind fun r=>(evL t args).bind fun l=>(ih (.call (.func (.func r.1) #[] #[]) (r.2::l) h)).bind zij)=_;rw[hf,qb,hr,qb,hl,qb,ho];cases o<;>first| (cases hd;rfl)|cases hd
 case panic x=>
  obtain⟨u,hu,hd⟩:=aof hd;unfold panV at hd
  split at hd<;>cases hd
 all_goals exact doOp_of' rfl rfl hd
theorem zeR {kk:DS→VM→Prop} {kp:DV→VM→Prop} {w0:Wd} {M0:VM} {h0:H}: ∀{l:List CI} {bs:List Mo} {s:DS} {M:VM},zde (rD F n0) l bs s M kk kp→ ∀{w:Wd} {h:H} {t:zb} {cs:List (Nat×H)},St n0 w0 M0 h0 w M h→SRel w s t→BsOk s t w M h bs cs→
 (∃n t' h' w' M' s',zD (E F n) l cs t h=some (t',h')∧St n0 w0 M0 h0 w' M' h'∧SRel w' s' t'∧kk s' M')∨ ∃n v t' h' w' M' d,zgn (E F n) l cs t h=some (.pan v t' h')∧zD (E F n) l cs t h=none∧St n0 w0 M0 h0 w' M' h'∧VRel w' d v∧kp d M'
 | [],bs,s,M,hk,w,h,t,cs,hst,hs,hb=>.inl ⟨0,t,h,w,M,s,rfl,hst,hs,hk⟩
 |o::l,bs,s,M,hk,w,h,t,cs,hst,hs,hb=>by
  have fin: ∀{n v h1 cs1 w1 M1 d bs1},zQ (E F n) o cs t h=some (v,h1,cs1)→Hist w M h w1 M1 h1→HRel w1 M1 h1→VRel w1 d v→BsOk (zW o.dst d s) (zbk o.dst v t) w1 M1 h1 bs1 cs1→zde (rD F n0) l bs1 (zW o.dst d s) M1 kk kp→
   (∃n t' h' w' M' s',zD (E F n) (o::l) cs t h=some (t',h')∧St n0 w0 M0 h0 w' M' h'∧SRel w' s' t'∧kk s' M')∨ ∃n v t' h' w' M' d,zgn (E F n) (o::l) cs t h=some (.pan v t' h')∧zD (E F n) (o::l) cs t h=none∧St n0 w0 M0 h0 w' M' h'∧VRel w' d v∧kp d M':=fun{n v h1 cs1 w1 M1 d bs1} e1 e2 e3 e4 e5 e6=>by
   rcases zeR e6 (hst.step e2 e3) ((hs.mono e2.le).put e4 o.dst) e5 with⟨m,t',h',w',M',s',a1,a2⟩| ⟨m,v2,t',h',w',M',d2,a1,a2,a3⟩
   ·refine .inl ⟨max n m,t',h',w',M',s',?_,a2⟩;rw[zbh,zdG (E_le (qi n m)) e1,qb];exact zdm (E_le (qf n m)) a1
   ·refine .inr ⟨max n m,v2,t',h',w',M',d2,?_,?_,a3⟩
    ·rw[zgE,zdG (E_le (qi n m)) e1];exact(zjB (E_le (qf n m)) a1).1
    ·rw[zbh,zdG (E_le (qi n m)) e1,qb];exact(zjB (E_le (qf n m)) a1).2
  unfold zde at hk;cases hw:isW o.op with
  |true=>
   rw[hw] at hk;obtain⟨b,hbb,hk⟩:=zb4 (show ofD (wantD o.guard s) _ from hk);have hwt:=zfP hs hbb;cases b with
   |true=>
    obtain⟨n,out,h1,h2⟩:=wDo_sound hk hst.r hs;cases out with
    |val v h1'=>
     obtain⟨w1,M1,d,a1,a2,a3,a4⟩:=h2;refine fin (n:=n) (v:=v) (h1:=h1') (cs1:=(nextB cs,h1')::cs) ?_ a1 a2 a3 ?_ a4
     ·unfold zQ;rw[hwt,qb];show zcZ _ _ _ _ _=_;unfold zcZ;rw[if_pos hw,doOp_of h1];rfl
     ·refine⟨⟨hb.next,w1,a2,.refl _ _ _,fun p _ e he=>((hs.mono a1.le).put a3 o.dst) p e he⟩,hb.map fun x y hx=>hx.put a1 o.dst⟩
    |pan v t1 h1'=>
     obtain⟨w1,M1,d,a1,a2,a3,a4,a5⟩:=h2
     match bs,cs,hb,a4 with
     | [],_,_,a4=>exact a4.elim
     |_::_,[],hb,_=>exact hb.elim
     |x::r,y::c,hb,a4=>
      obtain⟨m,z,hz⟩:=(show SurvD F n0 (l.filter fun p=>qp p.lo x.idx) (x::r) s M from a4) w0 M0 h0 w h t (y::c) hst hs hb;rw[hb.1.idx] at hz;have q1:=doOpP_le (E_le (qi n m)) h1;have q2:zQ (E F (max n m)) o (y::c) t h=none:=by
       unfold zQ;rw[hwt,qb];show zcZ _ _ _ _ _=none;unfold zcZ;rw[if_pos hw,doOp_pan q1];rfl
      refine .inr ⟨max n m,v,t1,h1',w1,M1,d,?_,by rw[zbh,q2];rfl,hst.step a1 a2,a3,a5⟩;rw[zgE,q2];show panAt _ _ _ _ _ _=_;unfold panAt;dsimp only;rw[hwt,qb,hw,Bool.and_self];dsimp only;rw[q1,qb];show(zD (E F (max n m)) _ _ t h).map _=_;rw[zdm (E_le (qf n m)) hz];rfl
    |nrm=>exact h2.elim
    |exit=>exact h2.elim
    |ret=>exact h2.elim
   |false=>
    refine fin (n:=0) (v:=zP) (h1:=h) (cs1:=(nextB cs,h)::cs) ?_ (.refl _ _ _) hst.r (.tup_of .nil) ?_ hk
    ·unfold zQ;rw[hwt,qb];show some (zP,h,if isW o.op then _ else _)=_;rw[if_pos hw]
    ·exact⟨⟨hb.next,w,hst.r,.refl _ _ _,fun p _ e he=>(hs.put (.tup_of .nil) o.dst) p e he⟩,hb.map fun x y hx=>hx.put (.refl _ _ _) o.dst⟩
  |false=>
   rw[hw] at hk;have gfalse:zba o.guard t=some false→ ∀n,zQ (E F n) o cs t h=some (zP,h,cs):=fun hwt n=>by
    unfold zQ;rw[hwt,qb];show some (zP,h,if isW o.op then _ else _)=_;rw[hw,if_neg (by decide)]
   have good: ∀{v:Value} {d:DV},(∀x y,MoOk s t w M h x y→zdd x.bad (zg o.op)=true→ ∀wx,HRel wx x.M y.2→Hist wx x.M y.2 w M h→(∀p,inP x.bad p=false→ ∀d,getS s p=some d→ ∃v,t.get p=some v∧VRel wx d v)→VRel wx d v)→
    BsOk (zW o.dst d s) (zbk o.dst v t) w M h (bs.map (zhO (zg o.op) o.dst)) cs:=fun{v d} hg=>hb.map fun x y hx=>by
    unfold zhO;cases hf:zdd x.bad (zg o.op) with
    |true=>exact hx.putGood (.refl _ _ _) o.dst (hg x y hx hf)
    |false=>exact hx.put (.refl _ _ _) o.dst
   cases hrd:isRd o.op with
   |true=>
    rw[hrd] at hk;obtain⟨b,hbb,hk⟩:=zb4 hk;have hwt:=zfP hs hbb;cases b with
    |false=>exact fin (n:=0) (gfalse hwt 0) (.refl _ _ _) hst.r (.tup_of .nil) (good fun _ _ _ _ _ _ _ _=>.tup_of .nil) hk
    |true=>
     match bs,cs,hb,hk with
     | [],_,_,hk=>exact hk.elim
     |_::_,[],hb,_=>exact hb.elim
     |x::r,y::c,hb,hk=>
      have hk:(match freshD o.op s x.M.next with
       |true=>okD (opD o.op s M) fun d _=>zde (rD F n0) l (x::r) (zW o.dst d s) M kk kp
       |false=>okD (opD o.op s M) fun d _=>(rdAt (zce s o.op) (zg o.op) M x∨rdAlt o.op (zg o.op) s d x)∧rdOk o.op (zce s o.op) (zg o.op) s d M o.lo r∧zj4 (x::r) d=true∧zde (rD F n0) l (x::zji o.lo o.dst r) (zW o.dst d s) M kk kp):=hk
      cases hfr:freshD o.op s x.M.next with
      |true=>
       rw[hfr] at hk;obtain⟨d,M2,hd,k4⟩:=okD_of hk;obtain⟨-,v,hv,hg⟩:=zeu hrd hst.r (hs.N _) hd;have h2:=hg h (fun _ _=>rfl);obtain⟨f1,g,f2⟩:=freshD_spec hst.r hs hb.1 hfr hd;refine fin (n:=0) (v:=v) (h1:=h) (cs1:=y::c) ?_ (.refl _ _ _) hst.r hv (bs1:=x::r) ?_ k4
       ·unfold zQ;rw[hwt,qb];show zcZ _ _ _ _ _=_;unfold zcZ;rw[if_neg (by rw[hw];decide),if_pos hrd];unfold zl7;dsimp only;rw[if_pos f1,h2];rfl
       ·have:=BsOk.map (f:=id) (bs:=x::r) (s1:=zW o.dst d s) (t1:=zbk o.dst v t) (w1:=w) (M1:=M) (h1:=h) (fun x y hx=>hx.putGood (.refl _ _ _) o.dst (v:=v) (d:=d) fun wx _ _ _=>by
         subst f2;cases hv;exact .str _) hb
        simpa using this
      |false=>
      rw[hfr] at hk;obtain⟨d,M2,hd,k1,k2,k3,k4⟩:=okD_of (show okD (opD o.op s M) (fun d _=>(rdAt (zce s o.op) (zg o.op) M x∨rdAlt o.op (zg o.op) s d x)∧rdOk o.op (zce s o.op) (zg o.op) s d M o.lo r∧zj4 (x::r) d=true∧zde (rD F n0) l (x::zji o.lo o.dst r) (zW o.dst d s) M kk kp) from hk);have hsub: ∀p∈zg o.op,p∈zg o.op:=fun p hp=>hp;obtain⟨v,h1,h2,h3⟩:=read_at hrd hst.r hsub hb.1 k1 hd;obtain⟨-,v',hv',hg⟩:=zeu hrd hst.r (hs.N _) hd;have:=hg h (fun _ _=>rfl);rw[h2] at this;cases this;have he:r≠[]→eqVal v v=true:=fun hne=>by
       cases r with
       |nil=>exact absurd rfl hne
       |cons=>exact selfEq_refl k3 hv'
      obtain⟨r1,r2⟩:=reads_ok hrd o.dst hst.r hsub hd h2 he hb.2 k2;refine fin (n:=0) (v:=v) (h1:=h) (cs1:=y::c) ?_ (.refl _ _ _) hst.r hv' (bs1:=x::zji o.lo o.dst r) ⟨hb.1.putGood (.refl _ _ _) o.dst h3,r2⟩ k4;unfold zQ;rw[hwt,qb];show zcZ _ _ _ _ _=_;unfold zcZ;rw[if_neg (by rw[hw];decide),if_pos hrd];unfold zl7;dsimp only
      split
      ·rw[h2];rfl
      ·rw[h1,qb,if_pos r1]
   |false=>
    rw[hrd] at hk;have hE: ∀{n v h1},zgO (E F n) o t h=some (.val v h1)→zQ (E F n) o cs t h=some (v,h1,cs):=fun{n v h1} h2=>by
     unfold zQ;obtain⟨b,hb1,h3⟩:=aof h2;rw[hb1,qb];cases b with
     |false=>cases h3;show some (zP,h,if isW o.op then _ else _)=_;rw[hw,if_neg (by decide)]
     |true=>
      have h4:=doOp_of h3;show zcZ _ _ _ _ _=_;unfold zcZ;rw[if_neg (by rw[hw];decide),if_neg (by rw[hrd];decide)];have:opV o.op t h=some (v,h1):=by
       cases ho:o.op<;>rw[ho] at h4 hw<;>first|exact h4|cases hw
      rw[this];rfl
    cases hfl:isFl o.op with
    |false=>
     rw[hfl] at hk;obtain⟨n,out,h1,h2⟩:=zjP hk hst.r hs;cases out with
     |val v h1'=>
      obtain⟨w1,M1,d,a1,a2,a3,a4⟩:=h2;exact fin (hE h1) a1 a2 a3 (hb.map fun x y hx=>hx.put a1 o.dst) a4
     |pan=>obtain⟨_,_,_,_,_,_,h⟩:=h2;exact h.elim
     |nrm=>exact h2.elim
     |exit=>exact h2.elim
     |ret=>exact h2.elim
    |true=>
     rw[hfl] at hk;obtain⟨b,hbb,hk⟩:=zb4 (show ofD (wantD o.guard s) _ from hk);have hwt:=zfP hs hbb;cases b with
     |false=>exact fin (n:=0) (gfalse hwt 0) (.refl _ _ _) hst.r (.tup_of .nil) (good fun _ _ _ _ _ _ _ _=>.tup_of .nil) hk
     |true=>
      have hop:wDo (rD F n0) o.op s M (fun _ _=>False) (fun v M=>zde (rD F n0) l (bs.map (zhO (zg o.op) o.dst)) (zW o.dst v s) M kk kp)=okD (opD o.op s M) (fun v M=>zde (rD F n0) l (bs.map (zhO (zg o.op) o.dst)) (zW o.dst v s) M kk kp):=by
       cases ho:o.op<;>first|rfl| (rw[ho] at hw;cases hw)
      have hk:=hop▸(show wDo (rD F n0) o.op s M (fun _ _=>False) (fun v M=>zde (rD F n0) l (bs.map (zhO (zg o.op) o.dst)) (zW o.dst v s) M kk kp) from hk);obtain⟨d,M1,hd,hk2⟩:=okD_of hk;obtain⟨e1,v,hv,hg⟩:=zkm hfl hst.r.ty (hs.N _) hd;subst e1;refine fin (n:=0) (hE ?_) (.refl _ _ _) hst.r hv (good fun x y hx hf wx a b c=> ?_) hk2
      ·unfold zgO;rw[hwt,qb];show zdP _ _ _ _=_;have:zdP (E F 0) o.op t h=(opV o.op t h).map valO:=by
        cases ho:o.op<;>first|rfl| (rw[ho] at hw;cases hw)
       rw[this,hg h];rfl
      ·obtain⟨-,v',hv',hg'⟩:=zkm hfl (w:=wx) (fun j R op sz rs ho hR=>hst.r.ty j R op sz rs ho (b.le.rho _ _ hR)) (fun p hp e he=>c p (zfl hf p hp) e he) hd;have:=hg' h;rw[hg h] at this;cases this;exact hv'
end
end
section
variable {F:FuncId→Option za} {n0:Nat}
theorem E_up {n m:Nat} (h:n≤m) {t:Task} {o:Out} (e:E F n t=some o):E F m t=some o:=E_le h t o e
theorem ziE {w:Wd} {s:DS} {t:zb} (h:SRel w s t) (L:List (List Bool)):SRel w (zbJ L s) t:=fun p d e=>h p d (zlY e).1
theorem zkj {w0:Wd} {M0:VM} {h0:H} {K:KD} {s:DS} {M:VM} {pend:Option CC} (hk:pendD K s M pend) {w:Wd} {h:H} {t:zb} (hst:St n0 w0 M0 h0 w M h) (hs:SRel w s t): ∃o,pendK t h pend=some o∧OutK n0 w0 M0 h0 K o:=by
 unfold pendD at hk
 split at hk
 ·exact⟨_,rfl,w,M,s,hst,hs,hk⟩
 ·exact⟨_,rfl,w,M,s,hst,hs,hk⟩
 ·exact⟨_,rfl,w,M,s,hst,hs,hk⟩
 ·exact hk.elim
theorem zjp: ∀(c:CC) {K:KD} {s:DS} {M:VM},wp (rD F n0) c K s M→CodeD F n0 c K s M:=by
 intro c
 induction c with
 |skip=>intro K s M hk w0 M0 h0 w h t hst hs;exact⟨1,.nrm t h,rfl,w,M,s,hst,hs,hk⟩
 |ops l=>
  intro K s M hk w0 M0 h0 w h t hst hs;obtain⟨n,o,h1,h2⟩:=zlx hk hst hs;exact⟨n+1,o,h1,OutK.mono (K:=⟨K.nrm,fun _ _ _=>False,fun _ _=>False,K.pan⟩) (K':=K) (fun _ _ q=>q) (fun _ _ _ q=>False.elim q) (fun _ _ q=>False.elim q) (fun _ _ _ q=>q) h2⟩
 |draw l=>
  intro K s M hk w0 M0 h0 w h t hst hs;rcases zeR hk hst hs (cs:=[(0,h)]) ⟨⟨rfl,w,hst.r,.refl _ _ _,fun p _ d e=>hs p d e⟩,trivial⟩ with⟨n,t',h',w',M',s',h1,h2,h3,h4⟩| ⟨n,v,t',h',w',M',d,h1,h2,h3,h4,h5⟩
  ·exact⟨n+1,.nrm t' h',by show(match zD (E F n) l [(0,h)] t h with|some x=>some (nrmOf x)|none=>_)=_;rw[h1];rfl,w',M',s',h2,h3,h4⟩
  ·exact⟨n+1,.pan v t' h',by show(match zD (E F n) l [(0,h)] t h with|some x=>some (nrmOf x)|none=>zgn (E F n) l [(0,h)] t h)=_;rw[h2];exact h1,w',M',[],d,h3,.nil,h4,h5⟩
 |draw2 l x y=>
  intro K s M hk w0 M0 h0 w h t hst hs;obtain⟨n,t',h',w',M',s',h1,h2,h3,h4⟩:=(zeR hk hst hs (cs:=[(0,h)]) ⟨⟨rfl,w,hst.r,.refl _ _ _,fun p _ d e=>hs p d e⟩,trivial⟩).resolve_right fun⟨_,_,_,_,_,_,_,_,_,_,_,h⟩=>h
  suffices hh: ∃h2' w2 M2,zeW x.op y.op t' h'=some h2'∧St n0 w0 M0 h0 w2 M2 h2'∧SRel w2 s' t'∧K.nrm s' M2 by
   obtain⟨h2',w2,M2,a,b,c,d⟩:=hh;exact⟨n+1,.nrm t' h2',by show((zD (E F n) l [(0,h)] t h).bind fun r=>(zeW x.op y.op r.1 r.2).map fun h=>Out.nrm r.1 h)=_;rw[h1,qb,a];rfl,w2,M2,s',b,c,d⟩
  cases hx:x.op<;>rw[hx] at h4<;>first|exact h4.elim|skip
  cases hy:y.op<;>rw[hy] at h4<;>first|exact h4.elim|skip
  rename_i n1 a b n2 c d;obtain⟨da,ea,h4⟩:=zb4 h4;obtain⟨db,eb,h4⟩:=zb4 h4;obtain⟨dc,ec,h4⟩:=zb4 h4;obtain⟨dd,ed,h4⟩:=zb4 h4;obtain⟨va,fa,ra⟩:=zbC h3 ea;obtain⟨vb,fb,rb⟩:=zbC h3 eb;obtain⟨vc,fc,rc⟩:=zbC h3 ec;obtain⟨vd,fd,rd⟩:=zbC h3 ed;cases da with
  |ptr i u1 v1=>
   cases dc with
   |ptr j u2 v2=>
    obtain⟨hij,h4⟩:=h4;obtain⟨M2,hs1,h4⟩:=zb4 h4;obtain⟨M3,hs2,h4⟩:=zb4 h4;obtain⟨b1,o1,g1,rfl,q1,q2,q3,q4,j1,i1,u1,R1,e1,k1,k2⟩:=zim h2.r hs1 rb ra;obtain⟨b2,o2,g2,rfl,p1,p2,p3,p4,j2,i2,u2,R2,e2,l1,l2⟩:=zim q4 hs2 rd rc;cases e1;cases e2;have live: ∀{M M':VM} {n x j i o},zfS n M x (.ptr j i o)=some M'→(M.get j).isSome=true:=fun{M M' n x j i o} hd=>by
     obtain⟨ob,ho,_⟩:=aof (show(M.obj j).bind _=some M' from hd);obtain⟨st,hg⟩:=zbU ho;rw[hg];rfl
    have hne:b1≠b2:=fun e=>by
     have h5:(M2.get i).isSome=true:=by
      obtain⟨ob,ho,h6⟩:=aof (show(M'.obj i).bind _=some M2 from hs1);cases ob with
      |rows op sz rs=>
       obtain⟨r,hri,h6⟩:=aof (show(rs[u1]?).bind _=some M2 from h6)
       split at h6
       ·obtain⟨r',hw,rfl⟩:=amf h6;rw[get_put,if_pos rfl];rfl
       ·cases h6
      |_=>cases h6
     exact hij (q4.inj i j R1 R2 k1 l1 h5 (live hs2) (by rw[k2,l2,e]))
    refine⟨g2,w',M3,?_,(h2.step q3 q4).step p3 p4,h3,h4⟩;show(a.ev t').bind _=_;rw[fa,qb,fb,qb,fc,qb,fd,qb];unfold store2;show(if qk b1 b2 then _ else _)=_;rw[if_neg (fun e=>hne (ql e)),if_pos (by rw[q1,p1];rfl),q2,qb,p2]
   |_=>exact h4.elim
  |_=>exact h4.elim
 |seq a L b iha ihb=>
  intro K s M hk w0 M0 h0 w h t hst hs;obtain⟨n,o,h1,h2⟩:=iha hk w0 M0 h0 w h t hst hs;have step: ∀{m o'},(∀k,max n m≤k→(E F k (.code a t h)).bind (thenK (E F k) L b)=some o')→OutK n0 w0 M0 h0 K o'→ ∃n o,E F n (.code (.seq a L b) t h)=some o∧OutK n0 w0 M0 h0 K o:=fun{m o'} e q=>⟨max n m+1,o',e _ (qm _),q⟩;cases o with
  |nrm t1 h1'=>
   obtain⟨w1,M1,s1,a1,a2,a3⟩:=h2;obtain⟨m,o2,b1,b2⟩:=ihb a3 w0 M0 h0 w1 h1' (keepA L t1) a1 (a2.keep L);exact step (m:=m) (fun k hk'=>by rw[E_up (by omega) h1];exact E_up (by omega) b1) b2
  |exit i t1 h1'=>exact step (m:=0) (fun k hk'=>by rw[E_up (by omega) h1];rfl) (show OutK n0 w0 M0 h0 K (.exit i t1 h1') from h2)
  |ret t1 h1'=>exact step (m:=0) (fun k hk'=>by rw[E_up (by omega) h1];rfl) (show OutK n0 w0 M0 h0 K (.ret t1 h1') from h2)
  |pan v t1 h1'=>exact step (m:=0) (fun k hk'=>by rw[E_up (by omega) h1];rfl) (show OutK n0 w0 M0 h0 K (.pan v t1 h1') from h2)
  |val=>exact h2.elim
 |cond c a b iha ihb=>
  intro K s M hk w0 M0 h0 w h t hst hs;obtain⟨d,hd,hk⟩:=zb4 hk;obtain⟨v,hv,hr⟩:=zbC hs hd;unfold wIf at hk
  split at hk
  ·obtain⟨n,o,h1,h2⟩:=iha hk w0 M0 h0 w h t hst hs;refine⟨n+1,o,?_,h2⟩;show(c.ev t).bind _=_;rw[hv,hr.inv_bool];exact h1
  ·obtain⟨n,o,h1,h2⟩:=ihb hk w0 M0 h0 w h t hst hs;refine⟨n+1,o,?_,h2⟩;show(c.ev t).bind _=_;rw[hv,hr.inv_bool];exact h1
  ·exact hk.elim
 |block i b ih=>
  intro K s M hk w0 M0 h0 w h t hst hs;obtain⟨n,o,h1,h2⟩:=ih hk w0 M0 h0 w h t hst hs;refine⟨n+1,zk0 i o,by show(E F n _).map _=_;rw[h1];rfl,?_⟩;cases o with
  |exit j t1 h1'=>
   obtain⟨w1,M1,s1,a1,a2,a3⟩:=h2;have a3:blkD i K j s1 M1:=a3;unfold blkD at a3;unfold zk0;dsimp only
   split at a3
   ·rename_i e;rw[e];exact⟨w1,M1,s1,a1,a2,a3⟩
   ·rename_i e;rw[e];exact⟨w1,M1,s1,a1,a2,a3⟩
  |_=>exact h2
 |loop L b ih=>
  intro K s M hk w0 M0 h0 w h t hst hs;exact hk w0 M0 h0 w h t hst (ziE hs L)
 |rangeFunc rid L f ps as b _ _=>
  intro K s M hk w0 M0 h0 w h t hst hs;obtain⟨d,hd,hk⟩:=zb4 hk;obtain⟨v,hv,hr⟩:=zbC hs hd;cases d with
  |fn g a c=>
   obtain⟨a',c',rfl,ha,hc⟩:=hr.inv_fn;have hle:=Wd.add_le (w:=w) (j:=M.next) (R:=⟨h.next,0,false⟩) (hst.r.rho_none (qm _));obtain⟨p1,p2⟩:=hst.r.new (o:=.loop .ready none (zbJ L s) ⟨rid,L,ps,as,b⟩) (e:=.loop .ready none (keepA L t) ⟨rid,L,ps,as,b⟩) (sz:=0) (op:=false) (.loop ((hs.mono hle).keep L));have hy:VRel (w.add M.next ⟨h.next,0,false⟩) (.yld M.next) (.func (.yield h.next) #[] #[]):=.yld (R:=⟨h.next,0,false⟩) zgt;obtain⟨n,o,h1,h2⟩:=hk _ _ _ _ p1 (hr.mono hle) (.cons hy .nil);cases o with
   |val v h1'=>
    obtain⟨w1,M1,d1,a1,a2,a3,a4⟩:=h2;obtain⟨ob,ho,a4⟩:=zb4 a4;obtain⟨st,hg⟩:=zbU ho;have hR:=a1.le.rho _ _ (zgt (w:=w) (j:=M.next) (R:=⟨h.next,0,false⟩));obtain⟨hz,e,he,hro⟩:=a2.obj _ _ st _ hg hR;have hst1:=(hst.step p2 p1).step a1 a2;have hs1:=(hs.mono hle).mono a1.le;have fin: ∀{o'},zhJ h.next t h1' e=some o'→E F (n+1) (.code (.rangeFunc rid L f ps as b) t h)=some o':=fun{o'} hq=>by
     show((f.ev t).bind fun f=>(isFn f).bind fun f=>(E F n (.call f [.func (.yield h.next) #[] #[]] (h.new (.loop .ready none (keepA L t) ⟨rid,L,ps,as,b⟩)))).bind fun o=>(zij o).bind fun x=>(x.2.get h.next).bind (zhJ h.next t x.2))=_;rw[hv,qb];show((E F n _).bind _)=_;rw[h1,qb];show((h1'.get h.next).bind _)=_;rw[he,qb,hq]
    cases hro with
    | @loop st1 pend sl sl' rc hsl=>
      have hput:=a2.put hg hR (o:=.loop .exhausted pend sl rc) (e:=.loop .exhausted pend sl' rc) (.loop hsl);cases st1 with
      |ready=>
       obtain⟨o',q1,q2⟩:=zkj a4 (hst1.step hput.2 hput.1) hs1;exact⟨n+1,o',fin q1,q2⟩
      |done=>
       obtain⟨o',q1,q2⟩:=zkj a4 (hst1.step hput.2 hput.1) hs1;exact⟨n+1,o',fin q1,q2⟩
      |_=>exact a4.elim
    |rows=>exact a4.elim
    |map=>exact a4.elim
   |pan=>obtain⟨_,_,_,_,_,_,q⟩:=h2;exact q.elim
   |nrm=>exact h2.elim
   |exit=>exact h2.elim
   |ret=>exact h2.elim
  |_=>exact hk.elim
 |exit i=>intro K s M hk w0 M0 h0 w h t hst hs;exact⟨1,.exit i t h,rfl,w,M,s,hst,hs,hk⟩
 |ret=>intro K s M hk w0 M0 h0 w h t hst hs;exact⟨1,.ret t h,rfl,w,M,s,hst,hs,hk⟩
 |scope b l1 r1 l2 r2=>intro K s M hk;exact hk
theorem zcn.step {L:List (List Bool)} {b:CC} {K:KD} {s:DS} {M:VM} (h:wp (rD F n0) b ⟨fun s M=>zcn F n0 L b K (zbJ L s) M,K.ext,K.ret,K.pan⟩ (zbJ L s) M):zcn F n0 L b K s M:=by
 intro w0 M0 h0 w hp t hst hs;obtain⟨n,o,h1,h2⟩:=zjp b h w0 M0 h0 w hp (keepA L t) hst (hs.keep L);cases o with
 |nrm t1 h1'=>
  obtain⟨w1,M1,s1,a1,a2,a3⟩:=h2;obtain⟨m,o2,b1,b2⟩:=a3 w0 M0 h0 w1 h1' t1 a1 (ziE a2 L);exact⟨max n m+1,o2,by show(E F _ (.code b _ hp)).bind _=_;rw[E_up (qi n m) h1];exact E_up (qf n m) b1,b2⟩
 |exit i t1 h1'=>exact⟨n+1,.exit i t1 h1',by show(E F _ (.code b _ hp)).bind _=_;rw[h1];rfl,(show OutK n0 w0 M0 h0 K (.exit i t1 h1') from h2)⟩
 |ret t1 h1'=>exact⟨n+1,.ret t1 h1',by show(E F _ (.code b _ hp)).bind _=_;rw[h1];rfl,(show OutK n0 w0 M0 h0 K (.ret t1 h1') from h2)⟩
 |pan v t1 h1'=>exact⟨n+1,.pan v t1 h1',by show(E F _ (.code b _ hp)).bind _=_;rw[h1];rfl,(show OutK n0 w0 M0 h0 K (.pan v t1 h1') from h2)⟩
 |val=>exact h2.elim
theorem resD_rel {w:Wd} {M:VM} {h:H} (hr:HRel w M h) {s:DS} {t:zb} (hs:SRel w s t) {r:CR} {d:DV} (hd:resD s M r=some d): ∃v,resV t h r=some v∧VRel w d v:=by
 cases r with
 |tmp p=>exact hs p d hd
 |cell n p=>
  obtain⟨a,ha,hd⟩:=aof (show(getS s p).bind _=some d from hd);obtain⟨r,hr1,hd⟩:=aof hd;obtain⟨v,hv,r1⟩:=hs p a ha;obtain⟨b,off,cs,e,us,tl,rfl,hg,hb,hsp,hl⟩:=zkc hr hr1 r1;cases n with
  |some n=>
   obtain⟨y,hy,rfl⟩:=amf (show(zcD n r).map DV.agg=some d from hd);obtain⟨hn,rfl⟩:=zgw hy;refine⟨_,?_,.agg_of (hl.take n)⟩;show(t.get p).bind _=_;rw[hv];show(h.readN b off n).map _=_;rw[ze7 hg hsp (by rw[←hl.len];exact hn) hl.clean];rfl
  |none=>
   have hd:oneD r=some d:=hd;unfold oneD at hd
   split at hd
   ·cases hd;obtain⟨u,us',rfl,hu,hus⟩:=hl.head;refine⟨u,?_,hu⟩;show(t.get p).bind _=_;rw[hv];show(h.readN b off 1).bind oneOf=_;rw[ze7 hg hsp (by simp) hl.clean];rfl
   ·cases hd
theorem resDL_rel {w:Wd} {M:VM} {h:H} (hr:HRel w M h) {s:DS} {t:zb} (hs:SRel w s t): ∀{rs:List CR} {ds:List DV},resDL s M rs=some ds→ ∃vs,allO (resV t h) rs=some vs∧LRel w ds vs
 | [],ds,h=>by cases h;exact⟨[],rfl,.nil⟩
 |r::rs,ds,hd=>by
  obtain⟨d,h1,hd⟩:=aof hd;obtain⟨l,h2,rfl⟩:=amf hd;obtain⟨v,h3,h4⟩:=resD_rel hr hs h1;obtain⟨vs,h5,h6⟩:=resDL_rel hr hs h2;exact⟨v::vs,by show(resV t h r).bind _=_;rw[h3];show(allO _ _).map _=_;rw[h5];rfl,.cons h4 h6⟩
theorem tupleD_rel {w:Wd} {ds:List DV} {vs:List Value} (h:LRel w ds vs):VRel w (zjR ds) (zik vs):=by
 match ds,vs,h with
 | [],vs,h=>rw[h.inv_nil];exact .tup_of .nil
 | [d],vs,h=>
   obtain⟨v,r,rfl,hv,hr⟩:=h.head;rw[hr.inv_nil];exact hv
 |d::e::l,vs,h=>
  obtain⟨v,r,rfl,hv,hr⟩:=h.head;obtain⟨v2,r2,rfl,hv2,hr2⟩:=hr.head;exact .tup_of h
theorem zeI {w w0:Wd} {M M0:VM} {h h0:H} {s:DS} {t:zb} {rs:List CR} {k kp:DV→VM→Prop} (hst:St n0 w0 M0 h0 w M h) (hs:SRel w s t) (hk:endD rs k s M): ∃o,zjh rs t h=some o∧OutC w0 M0 h0 k kp o∧(∃v,o=.val v h):=by
 obtain⟨ds,hd,hk⟩:=zb4 hk;obtain⟨vs,h1,h2⟩:=resDL_rel hst.r hs hd;exact⟨.val (zik vs) h,by unfold zjh;rw[h1];rfl,⟨w,M,_,hst.hi,hst.r,tupleD_rel h2,hk⟩,_,rfl⟩
theorem zk9 {w:Wd}: ∀{ds:List DV} {vs:List Value} {i:Nat} {s:DS} {t:zb},LRel w ds vs→SRel w s t→SRel w (argsD ds i s) (zcB vs i t)
 | [],vs,i,s,t,h,hs=>by rw[h.inv_nil];exact hs
 |d::ds,vs,i,s,t,h,hs=>by
  obtain⟨v,r,rfl,hv,hr⟩:=h.head;exact zk9 (ds:=ds) (vs:=r) hr (hs.set hv (bits i))
theorem handE_sound {f:DV} {l:List DV} {p:Option DV} {rs:List CR} {k kp:DV→VM→Prop} {s:DS} {M:VM} (hk:HandD F f l p M fun M=>endD rs k s M) {w0 w:Wd} {M0:VM} {h0 h:H} {t:zb} {fv:Value} {vs:List Value} {pv:Option Value} (hst:St n0 w0 M0 h0 w M h) (hs:SRel w s t) (hf:VRel w f fv) (hl:LRel w l vs) (hp:ORelO w p pv):
 ∃n o,(E F n (.hand fv vs pv h)).bind (resK1 rs t)=some o∧OutC w0 M0 h0 k kp o:=by
 obtain⟨n,v,h1,w1,M1,e,a1,a2,a3⟩:=hk w h fv vs pv hst.r hf hl hp;obtain⟨o,h2,h3,-⟩:=zeI (kp:=kp) (hst.step a1 a2) (hs.mono a1.le) a3;exact⟨n,o,by rw[e];exact h2,h3⟩
theorem ze.func {g:Nat} {a c args:List DV} {M:VM} {k kp:DV→VM→Prop} {cf:za} (hF:F g=some cf) (hp:cf.prim=none) (h:wFunc (rD F) cf (a++args++c) M k kp):ze F (.fn g a c) args M k kp:=by
 intro w hp0 fv vs hr hf hv;obtain⟨a',c',rfl,ha,hc⟩:=hf.inv_fn;have hall:=(ha.append hv).append hc;obtain⟨hlen,hw⟩:=h;have hst:St M.next w M hp0 w M hp0:=⟨rfl,hr,.refl _ _ _,hr⟩;obtain⟨n,o,h1,h2⟩:=zjp cf.body hw w M hp0 w hp0 (zcB (a'++vs++c') 0 .nil) hst (zk9 hall .nil);have fin: ∀{m o'},n≤m→bodyK (E F m) cf.results cf.dfr o=some o'→E F (m+1) (.call (.func (.func g) ⟨a'⟩ ⟨c'⟩) vs hp0)=some o':=fun{m o'} hm e=>by
  show((F g).bind fun cf=>ze5 (E F m) cf (a'++vs++c') hp0)=_;rw[hF,qb];unfold ze5;rw[hp];show zbZ _ _ _ _=_;unfold zbZ;rw[if_pos (by rw[qo,←hall.len];exact hlen),E_up hm h1,qb,e]
 cases hd:cf.dfr with
 |none=>
  rw[hd] at h2;cases o with
  |nrm t1 h1'=>
   obtain⟨w1,M1,s1,a1,a2,a3⟩:=h2;obtain⟨o',e1,e2,-⟩:=zeI (kp:=kp) a1 a2 a3;exact⟨n+1,o',fin (qm _) (by rw[hd];exact e1),e2⟩
  |ret t1 h1'=>
   obtain⟨w1,M1,s1,a1,a2,a3⟩:=h2;obtain⟨o',e1,e2,-⟩:=zeI (kp:=kp) a1 a2 a3;exact⟨n+1,o',fin (qm _) (by rw[hd];exact e1),e2⟩
  |pan v t1 h1'=>
   obtain⟨w1,M1,s1,d,a1,a2,a3,a4⟩:=h2;exact⟨n+1,.pan v .nil h1',fin (qm _) (by rw[hd];rfl),w1,M1,d,a1.hi,a1.r,a3,a4⟩
  |exit=>obtain⟨w1,M1,s1,a1,a2,a3⟩:=h2;exact a3.elim
  |val=>exact h2.elim
 |some df=>
  rw[hd] at h2;cases o with
  |nrm t1 h1'=>
   obtain⟨w1,M1,s1,a1,a2,a3⟩:=h2;obtain⟨f,hf1,a3⟩:=zb4 a3;obtain⟨fv,hf2,hf3⟩:=zbC a2 hf1;cases f with
   |fn g2 fa fc=>
    obtain⟨l,hl1,a3⟩:=zb4 a3;obtain⟨lv,hl2,hl3⟩:=zgC a2 hl1;have hst1:St M1.next w1 M1 h1' w1 M1 h1':=⟨rfl,a1.r,.refl _ _ _,a1.r⟩;obtain⟨n2,o2,b1,b2⟩:=zjp df.rest a3 w1 M1 h1' w1 h1' (keepA df.L t1) hst1 (a2.keep df.L);have hisf:isFn fv=some fv:=by cases hf3;rfl
    have fin2: ∀{m o'},n≤m→n2≤m→doneK (E F m) fv lv cf.results o2=some o'→E F (m+1) (.call (.func (.func g) ⟨a'⟩ ⟨c'⟩) vs hp0)=some o':=fun{m o'} hm hm2 e=>fin hm (by
     rw[hd];show((df.f.ev t1).bind fun f=>(isFn f).bind fun f=>(evL t1 df.args).bind fun l=>(E F m (.code df.rest (keepA df.L t1) h1')).bind (doneK (E F m) f l cf.results))=_;rw[hf2,qb,hisf,qb,hl2,qb,E_up hm2 b1,qb,e])
    have done: ∀{t2 h2' p pv} {s2:DS} {M2:VM} {w2:Wd},St M1.next w1 M1 h1' w2 M2 h2'→SRel w2 s2 t2→ORelO w2 p pv→HandD F (.fn g2 fa fc) l p M2 (fun M=>endD cf.results k s2 M)→(∀m,doneK (E F m) fv lv cf.results o2=(E F m (.hand fv lv pv h2')).bind (resK1 cf.results t2))→
     ∃n o,E F n (.call (.func (.func g) ⟨a'⟩ ⟨c'⟩) vs hp0)=some o∧OutC w M hp0 k kp o:=fun{t2 h2' p pv s2 M2 w2} c1 c2 c4 c5 c6=>by
     have c1':St M.next w M hp0 w2 M2 h2':=a1.step c1.hi c1.r;obtain⟨m,o3,d1,d2⟩:=handE_sound (kp:=kp) c5 c1' c2 (hf3.mono c1.hi.le) (hl3.mono c1.hi.le) c4;obtain⟨x,hx,hy⟩:=aof d1;refine⟨max (max n n2) m+1,o3,fin2 (by omega) (by omega) ?_,d2⟩;rw[c6,E_up (by omega) hx,qb,hy]
    cases o2 with
    |nrm t2 h2'=>
     obtain⟨w2,M2,s2,c1,c2,c3⟩:=b2;exact done (p:=none) (pv:=none) c1 c2 trivial c3 fun m=>rfl
    |ret t2 h2'=>
     obtain⟨w2,M2,s2,c1,c2,c3⟩:=b2;exact done (p:=none) (pv:=none) c1 c2 trivial c3 fun m=>rfl
    |pan v t2 h2'=>
     obtain⟨w2,M2,s2,d2,c1,c2,c3,c4⟩:=b2;exact done (p:=some d2) (pv:=some v) c1 c2 c3 c4 fun m=>rfl
    |exit=>obtain⟨_,_,_,_,_,q⟩:=b2;exact q.elim
    |val=>exact b2.elim
   |_=>exact a3.elim
  |pan v t1 h1'=>
   obtain⟨w1,M1,s1,d,a1,a2,a3,a4⟩:=h2;exact⟨n+1,.pan v .nil h1',fin (qm _) (by rw[hd];rfl),w1,M1,d,a1.hi,a1.r,a3,a4⟩
  |ret=>obtain⟨w1,M1,s1,a1,a2,a3⟩:=h2;exact a3.elim
  |exit=>obtain⟨w1,M1,s1,a1,a2,a3⟩:=h2;exact a3.elim
  |val=>exact h2.elim
theorem HandD.func {g:Nat} {a c args:List DV} {p:Option DV} {M:VM} {k:VM→Prop} {cf:za} (hF:F g=some cf) (hp:cf.prim=none) (h:wHand (rD F M.next) cf (a++args++c) p M k):HandD F (.fn g a c) args p M k:=by
 intro w hp0 fv vs pv hr hf hv hpv;obtain⟨a',c',rfl,ha,hc⟩:=hf.inv_fn;have hall:=(ha.append hv).append hc;obtain⟨hlen,hw⟩:=h;have hst:St M.next w M hp0 w M hp0:=⟨rfl,hr,.refl _ _ _,hr⟩;have hs:=zk9 (i:=0) hall (SRel.nil (w:=w) (t:=.nil));have hops: ∀{l:List CI} {p:Option DV} {s:DS} {M1:VM} {k1:Option DV→DS→VM→Prop} {w1:Wd} {h1:H} {t:zb} {pv:Option Value},ziJ l p s M1 k1→St M.next w M hp0 w1 M1 h1→SRel w1 s t→ORelO w1 p pv→
  ∃pv2 t2 h2 p2 s2 M2 w2,zbm l pv t h1=some (pv2,t2,h2)∧St M.next w M hp0 w2 M2 h2∧SRel w2 s2 t2∧ORelO w2 p2 pv2∧k1 p2 s2 M2:=by
  intro l
  induction l with
  |nil=>intro p s M1 k1 w1 h1 t pv hk c1 c2 c3;exact⟨pv,t,h1,p,s,M1,w1,rfl,c1,c2,c3,hk⟩
  |cons o l ih=>
   intro p s M1 k1 w1 h1 t pv hk c1 c2 c3;obtain⟨b,hb,hk⟩:=zb4 hk;have hwt:=zfP c2 hb;have e0:zbm (o::l) pv t h1=((zba o.guard t).bind fun b=>match b with
    |true=>zez o (zbm l) pv t h1
    |false=>zbm l pv (zbk o.dst zP t) h1):=rfl
   rw[e0];clear hb e0;cases b with
   |false=>
    rw[hwt,qb];exact ih hk c1 (c2.put (.tup_of .nil) o.dst) c3
   |true=>
    rw[hwt,qb];dsimp only;have gen:okD (opD o.op s M1) (fun v M=>ziJ l p (zW o.dst v s) M k1)→zez o (zbm l) pv t h1=((opV o.op t h1).bind fun x=>zbm l pv (zbk o.dst x.1 t) x.2)→ ∃pv2 t2 h2 p2 s2 M2 w2,zez o (zbm l) pv t h1=some (pv2,t2,h2)∧St M.next w M hp0 w2 M2 h2∧SRel w2 s2 t2∧ORelO w2 p2 pv2∧k1 p2 s2 M2:=fun hq he=>by
     obtain⟨d,M2,q1,q2⟩:=okD_of hq;obtain⟨v,h',q3,w',q4,q5,q6⟩:=opW_sound c1.r c2 q1;rw[he,q3,qb];refine ih q2 (c1.step q5 q6) ((c2.mono q5.le).put q4 o.dst) ?_;cases p<;>cases pv<;>first|trivial|exact c3.elim|exact VRel.mono q5.le c3
    cases ho:o.op with
    |recov=>
     rw[ho] at hk;have e1:zez o (zbm l) pv t h1=zbm l none (zbk o.dst (pv.getD .nilIface) t) h1:=by unfold zez;rw[ho]
     rw[e1];refine ih hk c1 (c2.put ?_ o.dst) trivial;cases p<;>cases pv<;>first|exact .nilI|exact c3.elim|exact c3
    |_=>
     rw[ho] at hk;refine gen (by rw[ho];exact hk) (by unfold zez;rw[ho])
 cases hd:cf.dfr with
 |some=>rw[hd] at hw;exact hw.elim
 |none=>
  rw[hd] at hw;cases hb:cf.body with
  |seq a0 L b=>
   rw[hb] at hw;cases a0 with
   |ops l=>
    obtain⟨pv2,t2,h2,p2,s2,M2,w2,e1,e2,e3,e4,e5⟩:=hops hw hst hs hpv;cases p2 with
    |some=>exact e5.elim
    |none=>
     cases pv2 with
     |some=>exact e4.elim
     |none=>
      obtain⟨n,o,b1,b2⟩:=zjp b e5 w M hp0 w2 h2 (keepA L t2) e2 (e3.keep L);have fin: ∀{v h'},retV cf.results o=some (.val v h')→E F (n+1) (.hand (.func (.func g) ⟨a'⟩ ⟨c'⟩) vs pv hp0)=some (.val v h'):=fun{v h'} e=>by
       show((F g).bind fun cf=>zfU (E F n) cf (a'++vs++c') pv hp0)=_;rw[hF,qb];unfold zfU;rw[hp,hd];dsimp only;rw[if_pos (by rw[qo,←hall.len];exact hlen),hb];show((zbm l pv _ hp0).bind (handEnd (E F n) cf.results L b))=_;rw[e1,qb];show(E F n _).bind _=_;rw[b1,qb,e]
      cases o with
      |nrm t1 h1'=>
       obtain⟨w1,M1,s1,a1,a2,a3⟩:=b2;obtain⟨o',q1,q2,v,rfl⟩:=zeI (rs:=cf.results) (k:=fun _ M=>k M) (kp:=fun _ _=>False) a1 a2 a3;obtain⟨w3,M3,d3,r1,r2,r3,r4⟩:=q2;exact⟨n+1,v,h1',w3,M3,fin q1,r1,r2,r4⟩
      |ret t1 h1'=>
       obtain⟨w1,M1,s1,a1,a2,a3⟩:=b2;obtain⟨o',q1,q2,v,rfl⟩:=zeI (rs:=cf.results) (k:=fun _ M=>k M) (kp:=fun _ _=>False) a1 a2 a3;obtain⟨w3,M3,d3,r1,r2,r3,r4⟩:=q2;exact⟨n+1,v,h1',w3,M3,fin q1,r1,r2,r4⟩
      |pan=>obtain⟨_,_,_,_,_,_,_,q⟩:=b2;exact q.elim
      |exit=>obtain⟨_,_,_,_,_,q⟩:=b2;exact q.elim
      |val=>exact b2.elim
   |_=>exact hw.elim
  |_=>rw[hb] at hw;exact hw.elim
theorem ze.mono {f:DV} {args:List DV} {M:VM} {k k' kp kp':DV→VM→Prop} (h:ze F f args M k kp) (h1: ∀d M,k d M→k' d M) (h2: ∀d M,kp d M→kp' d M):ze F f args M k' kp':=fun w hp fv vs a b c=>by
 obtain⟨n,o,e,q⟩:=h w hp fv vs a b c;refine⟨n,o,e,?_⟩;cases o with
 |val=>obtain⟨w1,M1,d,a1,a2,a3,a4⟩:=q;exact⟨w1,M1,d,a1,a2,a3,h1 _ _ a4⟩
 |pan=>obtain⟨w1,M1,d,a1,a2,a3,a4⟩:=q;exact⟨w1,M1,d,a1,a2,a3,h2 _ _ a4⟩
 |_=>exact q
end
section
inductive zJ (n:Nat):DV→Prop where
 |int (k:IntKind) (a:Int):zJ n (.int k a)
 |bool (b:Bool):zJ n (.bool b)
 |str (s:ByteArray):zJ n (.str s)
 |bs (s:ByteArray):zJ n (.bs s)
 |nilS:zJ n .nilS
 |nilP:zJ n .nilP
 |nilM:zJ n .nilM
 |nilF:zJ n .nilF
 |nilI:zJ n .nilI
 |agg {l:List DV} (h: ∀d∈l,zJ n d):zJ n (.agg l)
 |tup {l:List DV} (h: ∀d∈l,zJ n d):zJ n (.tup l)
 |lst {s:Nat} {rows:List (List DV)} (h: ∀r∈rows,∀d∈r,zJ n d):zJ n (.lst s rows)
 |pl {s i off:Nat} {rows:List (List DV)} (h: ∀r∈rows,∀d∈r,zJ n d):zJ n (.pl s rows i off)
 |fn (g:Nat) {a c:List DV} (h: ∀d∈a,zJ n d) (h': ∀d∈c,zJ n d):zJ n (.fn g a c)
 |ifc (t:Nat) {d:DV} (h:zJ n d):zJ n (.ifc t d)
 |ms {j lo len cap:Nat} (h:j<n):zJ n (.ms j lo len cap)
 |ptr {j i off:Nat} (h:j<n):zJ n (.ptr j i off)
 |map {j:Nat} (h:j<n):zJ n (.map j)
 |yld {j:Nat} (h:j<n):zJ n (.yld j)
inductive Frz (M M2:VM):DV→DV→Prop where
 |refl (d:DV):Frz M M2 d d
 |nilS (s:Nat):Frz M M2 .nilS (.lst s [])
 |agg {l l2:List DV} (hl:l.length=l2.length) (h: ∀(k:Nat) d e,l[k]? =some d→l2[k]? =some e→Frz M M2 d e):Frz M M2 (.agg l) (.agg l2)
 |tup {l l2:List DV} (hl:l.length=l2.length) (h: ∀(k:Nat) d e,l[k]? =some d→l2[k]? =some e→Frz M M2 d e):Frz M M2 (.tup l) (.tup l2)
 |ifc (t:Nat) {d e:DV} (h:Frz M M2 d e):Frz M M2 (.ifc t d) (.ifc t e)
 |ms {j lo len cap sz:Nat} {op:Bool} {rs rows:List (List DV)} (ho:M.obj j=some (.rows op sz rs)) (hn:M2.get j=none) (hb:lo+len≤rs.length) (hs: ∀r∈rows,r.length=sz) (hr:rows.length=len)
   (h: ∀(k:Nat) d e,(((rs.drop lo).take len).flatten)[k]? =some d→rows.flatten[k]? =some e→Frz M M2 d e):Frz M M2 (.ms j lo len cap) (.lst sz rows)
 |ptr {j i off sz:Nat} {op:Bool} {rs rows:List (List DV)} (ho:M.obj j=some (.rows op sz rs)) (hn:M2.get j=none) (hs: ∀r∈rows,r.length=sz) (hr:rows.length=rs.length)
   (h: ∀(k:Nat) d e,rs.flatten[k]? =some d→rows.flatten[k]? =some e→Frz M M2 d e):Frz M M2 (.ptr j i off) (.pl sz rows i off)
inductive FrzO (M M2:VM):MO→MO→Prop where
 |refl (o:MO):FrzO M M2 o o
 |rows {op:Bool} {sz:Nat} {rs rows:List (List DV)} (hs: ∀r∈rows,r.length=sz) (hr:rows.length=rs.length) (h: ∀(k:Nat) d e,rs.flatten[k]? =some d→rows.flatten[k]? =some e→Frz M M2 d e):FrzO M M2 (.rows op sz rs) (.rows op sz rows)
inductive zme (n:Nat):MO→Prop where
 |rows {op:Bool} {sz:Nat} {rs:List (List DV)} (h: ∀r∈rs,∀d∈r,zJ n d):zme n (.rows op sz rs)
 |map {es:List (DV×DV)} (h: ∀e∈es,zJ n e.1∧zJ n e.2):zme n (.map es)
 |loop {st:LoopState} {pend:Option CC} {sl:DS} {rc:RC} (h: ∀x∈sl,zJ n x.2):zme n (.loop st pend sl rc)
structure Conv (M M' M2:VM):Prop where
 nx:M.next≤M2.next
 obj: ∀j,(M2.get j=M.get j∧(j<M.next→M'.get j=M.get j))∨M2.get j=none∨
  ∃o st o',M2.get j=some (o,st)∧j<M2.next∧M.next≤st∧st<M2.next∧M'.obj j=some o'∧FrzO M' M2 o' o∧zme M2.next o
section
variable {w:Wd} {M' M2:VM} {h:H}
def FB (w:Wd) (M' M2:VM) (b:Nat):Prop:= ∃j R,w.rho j=some R∧R.blk=b∧(M'.get j).isSome=true∧M2.get j=none
open Classical in
noncomputable def cw (w:Wd) (M' M2:VM) (h:H):Wd:=⟨fun j=>if j<M2.next then w.rho j else none,fun b=>match w.Z b with
 |some z=>some z
 |none=>if FB w M' M2 b then(match h.get b with|some (.cells cs e)=>some (cs,e)|_=>none) else none⟩
theorem zl9 {j:Nat} (hj:j<M2.next) {R:RBd} (hR:w.rho j=some R):(cw w M' M2 h).rho j=some R:=by
 show(if j<M2.next then _ else _)=_;rw[if_pos hj];exact hR
theorem zkT {j:Nat} {R:RBd} (hR:(cw w M' M2 h).rho j=some R):j<M2.next∧w.rho j=some R:=by
 have hR:(if j<M2.next then w.rho j else none)=some R:=hR
 split at hR
 ·exact⟨‹_›,hR⟩
 ·cases hR
theorem cw_Z {b:Nat} {z:List Value×Nat} (hz:w.Z b=some z):(cw w M' M2 h).Z b=some z:=by
 show(match w.Z b with|some z=>some z|none=>_)=_;rw[hz]
theorem cw_FB {b:Nat} {cs:List Value} {e:Nat} (hz:w.Z b=none) (hf:FB w M' M2 b) (hg:h.get b=some (.cells cs e)):(cw w M' M2 h).Z b=some (cs,e):=by
 show(match w.Z b with|some z=>some z|none=>_)=_;rw[hz];dsimp only;rw[if_pos hf,hg]
theorem cw_Z' {b:Nat} {z:List Value×Nat} (hz:(cw w M' M2 h).Z b=some z):w.Z b=some z∨(FB w M' M2 b∧h.get b=some (.cells z.1 z.2)):=by
 have hz:(match w.Z b with|some z=>some z|none=>_)=some z:=hz
 split at hz
 ·rename_i e;cases hz;exact .inl e
 ·split at hz
  ·rename_i hf
   split at hz
   ·rename_i hg;cases hz;exact .inr ⟨hf,hg⟩
   ·cases hz
  ·cases hz
theorem zJ.rel {d:DV} {v:Value} (hv:VRel w d v):zJ M2.next d→VRel (cw w M' M2 h) d v:=by
 induction hv with
 |int k n=>intro _;exact .int k n
 |bool b=>intro _;exact .bool b
 |str s=>intro _;exact .str s
 |bs hz=>intro _;exact .bs (cw_Z hz)
 |nilS=>intro _;exact .nilS
 |nilP=>intro _;exact .nilP
 |nilM=>intro _;exact .nilM
 |nilF=>intro _;exact .nilF
 |nilI=>intro _;exact .nilI
 |agg hl _ ih=>intro hb;cases hb with|agg hb=>exact .agg hl fun k d v a b=>ih k d v a b (hb d (qd a))
 |tup hl _ ih=>intro hb;cases hb with|tup hb=>exact .tup hl fun k d v a b=>ih k d v a b (hb d (qd a))
 |fn g ha hc _ _ ih ih'=>intro hb;cases hb with|fn _ h1 h2=>exact .fn g ha hc (fun k d v a b=>ih k d v a b (h1 d (qd a))) (fun k d v a b=>ih' k d v a b (h2 d (qd a)))
 |yld hR=>intro hb;cases hb with|yld hb=>exact .yld (zl9 hb hR)
 |ifc t _ ih=>intro hb;cases hb with|ifc _ hb=>exact .ifc t (ih hb)
 |map hR=>intro hb;cases hb with|map hb=>exact .map (zl9 hb hR)
 |ptr hR=>intro hb;cases hb with|ptr hb=>exact .ptr (zl9 hb hR)
 |ms hR ho hc=>intro hb;cases hb with|ms hb=>exact .ms (zl9 hb hR) ho hc
 |lst hz hs hb _ ho hc hn ih=>intro hq;cases hq with|lst hq=>exact .lst (cw_Z hz) hs hb (fun k d v a b=>ih k d v a b (by
   obtain⟨r,hr1,hr2⟩:=qh.1 (qd a);exact hq r hr1 d hr2))                                 ho hc hn
 |lst0 hc hsp=>intro _;exact .lst0 hc hsp
 |pl hz hs hb _ ih=>intro hq;cases hq with|pl hq=>exact .pl (cw_Z hz) hs hb (fun k d v a b=>ih k d v a b (by
   obtain⟨r,hr1,hr2⟩:=qh.1 (qd a);exact hq r hr1 d hr2))
theorem zeC {l m:List DV} (hl:l.length=m.length) {k:Nat} {e:DV} (he:m[k]? =some e): ∃d,l[k]? =some d:=by
 have:=(List.getElem?_eq_some_iff.1 he).1;exact⟨l[k]'(by omega),qt (by omega)⟩
theorem Frz.rel (hr:HRel w M' h) {d e:DV} (hf:Frz M' M2 d e): ∀{v:Value},VRel w d v→zJ M2.next e→VRel (cw w M' M2 h) e v:=by
 induction hf with
 |refl d=>intro v hv hb;exact zJ.rel hv hb
 |nilS s=>intro v hv hb;cases hv;exact .lst0 (by decide) (fun a e=>by cases e)
 |agg hl _ ih=>
  intro v hv hb;cases hb with
  |agg hb=>
   obtain⟨vs,rfl,hlr⟩:=hv.inv_agg;refine .agg (hl.symm.trans hlr.len) fun k e v a b=> ?_;obtain⟨d,hd⟩:=zeC hl a;exact ih k d e hd a (hlr.at_ k d v hd b) (hb e (qd a))
 |tup hl _ ih=>
  intro v hv hb;cases hb with
  |tup hb=>
   obtain⟨vs,rfl,hlr⟩:=hv.inv_tup;refine .tup (hl.symm.trans hlr.len) fun k e v a b=> ?_;obtain⟨d,hd⟩:=zeC hl a;exact ih k d e hd a (hlr.at_ k d v hd b) (hb e (qd a))
 |ifc t _ ih=>
  intro v hv hb;cases hb with
  |ifc _ hb=>cases hv with|ifc _ hv=>exact .ifc t (ih hv hb)
 | @ms j lo len cap sz op rs rows ho hn hle hs hrl _ ih=>
   intro v hv hb;cases hb with
   |lst hb=>
    cases hv with
    | @ms _ _ _ _ R hR hO hC=>
      obtain⟨st,hg⟩:=zbU ho;obtain⟨hz,eo,he,hro⟩:=hr.obj j _ st R hg hR;cases hro with
      | @rows _ _ _ cs e hrows=>
        have hs0:=hrows.row;have hfl:=z0 hs0;have hcl:=hrows.rel.len;have hlen2:((rs.drop lo).take len).flatten.length=rows.flatten.length:=by
         rw[z0 (rs:=(rs.drop lo).take len) (fun r hr=>hs0 r (qu (List.mem_of_mem_take hr))),z0 hs,hrl]
         congr 1;simp;omega
        have hmul:lo*sz+len*sz≤rs.length*sz:=by rw[←Nat.add_mul];exact Nat.mul_le_mul_right _ hle
        refine .lst (cs:=cs) (e:=e) (cw_FB hz ⟨j,R,hR,rfl,by rw[hg];rfl,hn⟩ he) hs (by rw[hrl,←hrows.hsz];omega) (fun k e2 v a b=> ?_) (fun hc=> ?_) (fun hc=>by rw[hrl];exact hC hc) hrl.symm
        ·obtain⟨d,hd⟩:=zeC hlen2 a;have hd2:=hd;rw[zdC (fun r hr=>hs0 r (List.mem_of_mem_drop hr)),zdD hs0,List.getElem?_take] at hd2
         split at hd2
         ·rw[List.getElem?_drop] at hd2;refine ih k d e2 hd a (hrows.rel.at_ _ d v hd2 (by rw[hrows.hsz];exact b)) ?_;obtain⟨r,hr1,hr2⟩:=qh.1 (qd a);exact hb r hr1 e2 hr2
         ·cases hd2
        ·have h1:=hO hc;have h2:=hrows.hop.trans h1;subst h2;have:=hrows.esz;rw[if_pos rfl] at this;exact⟨this,hrows.pos rfl⟩
 | @ptr j i off sz op rs rows ho hn hs hrl _ ih=>
   intro v hv hb;cases hb with
   |pl hb=>
    cases hv with
    | @ptr _ _ _ R hR=>
      obtain⟨st,hg⟩:=zbU ho;obtain⟨hz,eo,he,hro⟩:=hr.obj j _ st R hg hR;cases hro with
      | @rows _ _ _ cs e hrows=>
        have hs0:=hrows.row;have hfl:=z0 hs0;have hcl:=hrows.rel.len;have hlen2:rs.flatten.length=rows.flatten.length:=by rw[hfl,z0 hs,hrl]
        have:=VRel.pl (w:=cw w M' M2 h) (o:=0) (i:=i) (off:=off) (cs:=cs) (e:=e) (cw_FB hz ⟨j,R,hR,rfl,by rw[hg];rfl,hn⟩ he) hs (by rw[hrl];omega) (fun k e2 v a b=>by
         obtain⟨d,hd⟩:=zeC hlen2 a;refine ih k d e2 hd a (hrows.rel.at_ _ d v hd (by rw[←b];congr 1;omega)) ?_;obtain⟨r,hr1,hr2⟩:=qh.1 (qd a);exact hb r hr1 e2 hr2)
        rw[Nat.zero_add] at this;rw[←hrows.hsz];exact this
theorem St.conv {n0:Nat} {w0:Wd} {M M0:VM} {h0 h1:H} {w1:Wd} (hst:St n0 w0 M0 h0 w1 M h1) {hh:H} (hr1:HRel w1 M h1) (hi:Hist w1 M h1 w M' hh) (hr:HRel w M' hh) (hc:Conv M M' M2):St n0 w0 M0 h0 (cw w M' M2 hh) M2 hh:=by
 have hle1:w1.Le (cw w M' M2 hh):=⟨fun j R e=>zl9 (qr (hr1.dom j R e).1 hc.nx) (hi.le.rho _ _ e),fun b z e=>cw_Z (hi.le.Z _ _ e)⟩;have kept: ∀j o st,M2.get j=some (o,st)→(M.get j=some (o,st)∧M'.get j=some (o,st))∨(j<M2.next∧M.next≤st∧st<M2.next∧ ∃o',M'.obj j=some o'∧FrzO M' M2 o' o∧zme M2.next o):=fun j o st e=>by
  rcases hc.obj j with⟨h1,h2⟩|h1| ⟨o1,st1,o',h1,h2,h3,h4,h5,h6,h7⟩
  ·rw[h1] at e;exact .inl ⟨e,by rw[h2 (hr1.wf j o st e).1];exact e⟩
  ·rw[h1] at e;cases e
  ·rw[h1] at e;cases e;exact .inr ⟨h2,h3,h4,o',h5,h6,h7⟩
 have live: ∀j x,M2.get j=some x→ ∃y,M'.get j=some y:=fun j x e=>by
  obtain⟨o,st⟩:=x;rcases kept j o st e with⟨_,h2⟩| ⟨_,_,_,o',h5,_⟩
  ·exact⟨_,h2⟩
  ·obtain⟨st',h6⟩:=zbU h5;exact⟨_,h6⟩
 refine⟨hst.n,hst.r0,hst.hi.trans hst.r0 ⟨hle1,hc.nx,hi.hnx,fun j o st e=> ?_,fun j x R e1 e2 hR=> ?_,fun j R e=>hi.own j R (zkT e).2,hi.rest⟩,?_⟩
 ·rcases kept j o st e with⟨h1,-⟩| ⟨_,h1,_⟩
  ·exact .inl h1
  ·exact .inr h1
 ·obtain⟨o,st⟩:=x;rcases kept j o st e2 with⟨_,h2⟩| ⟨_,h1,_⟩
  ·exact hi.same j _ R e1 h2 hR
  ·have:=(hr1.wf j o st e1).2.1;omega
 ·constructor
  ·intro j o st e;rcases kept j o st e with⟨h1,h2⟩| ⟨h1,_,h3,o',h5,_⟩
   ·obtain⟨a,b,R,c⟩:=hr1.wf j o st h1;exact⟨qr a hc.nx,qr b hc.nx,R,hle1.rho _ _ c⟩
   ·obtain⟨st',h6⟩:=zbU h5;obtain⟨_,_,R,c⟩:=hr.wf j _ _ h6;exact⟨h1,h3,R,zl9 h1 c⟩
  ·intro j R e;obtain⟨a,b⟩:=zkT e;exact⟨a,(hr.dom j R b).2⟩
  ·intro b z e;rcases cw_Z' e with e| ⟨⟨j,R,hR,rfl,_⟩,hg⟩
   ·exact hr.zd b z e
   ·exact⟨(hr.dom j R hR).2,hg⟩
  ·intro j o st R e hR;obtain⟨hj,hR⟩:=zkT hR;obtain⟨y,hy⟩:=live j _ e;obtain⟨hz,e',he',hro⟩:=hr.obj j y.1 y.2 R hy hR;refine⟨?_,?_⟩
   ·cases hzz:(cw w M' M2 hh).Z R.blk with
    |none=>rfl
    |some z=>
     rcases cw_Z' hzz with e2| ⟨⟨j',R',hR',eb,hl,hn⟩,hg⟩
     ·rw[hz] at e2;cases e2
     ·have:=hr.inj j' j R' R hR' hR hl (by rw[hy];rfl) eb;subst this;rw[hn] at e;cases e
   ·rcases kept j o st e with⟨h1,h2⟩| ⟨_,_,_,o',h5,h6,h7⟩
    ·
     obtain⟨_,_,R1,c⟩:=hr1.wf j o st h1;have:R1=R:=by have:=hi.le.rho _ _ c;rw[hR] at this;cases this;rfl
     subst this;obtain⟨_,e0,he0,hro0⟩:=hr1.obj j o st R1 h1 c;exact⟨e0,by rw[hi.same j _ R1 h1 h2 c];exact he0,hro0.mono hle1⟩
    ·obtain⟨st',h8⟩:=zbU h5;rw[hy] at h8;cases h8;refine⟨e',he',?_⟩;cases h6 with
     |refl=>
      cases hro with
      | @rows op sz rs cs ee hrows=>
        cases h7 with
        |rows h7=>
         refine .rows ⟨hrows.hop,hrows.hsz,hrows.esz,hrows.pos,hrows.row,hrows.rel.len,fun k d v a b=>zJ.rel (hrows.rel.at_ k d v a b) ?_⟩;obtain⟨r,hr1,hr2⟩:=qh.1 (qd a);exact h7 r hr1 d hr2
      | @map es es' c hm=>
        cases h7 with
        |map h7=>
         refine .map ⟨⟨hm.keys.len,fun k d v a b=>zJ.rel (hm.keys.at_ k d v a b) ?_⟩,⟨hm.vals.len,fun k d v a b=>zJ.rel (hm.vals.at_ k d v a b) ?_⟩⟩
         ·obtain⟨x,hx,rfl⟩:=List.mem_map.1 (qd a);exact(h7 x hx).1
         ·obtain⟨x,hx,rfl⟩:=List.mem_map.1 (qd a);exact(h7 x hx).2
      | @loop lst pend sl sl' rc hsl=>
        cases h7 with
        |loop h7=>
         refine .loop fun p d hd=> ?_;obtain⟨v,hv,hv2⟩:=hsl p d hd;refine⟨v,hv,zJ.rel hv2 ?_⟩;have: ∀{s:DS},getS s p=some d→ ∃x∈s,x.2=d:=by
          intro s
          induction s with
          |nil=>intro q;cases q
          |cons x s ih=>
           intro q;obtain⟨x1,x2⟩:=x;rw[zdB] at q
           split at q
           ·cases q;exact⟨_,qw ..,rfl⟩
           ·obtain⟨y,hy,e⟩:=ih q;exact⟨y,qv _ hy,e⟩
         obtain⟨x,hx,rfl⟩:=this hd;exact h7 x hx
     | @rows op sz rs rows hs hrl hfr=>
       cases hro with
       | @rows _ _ _ cs ee hrows=>
         cases h7 with
         |rows h7=>
          have hlen2:rs.flatten.length=rows.flatten.length:=by rw[z0 hrows.row,z0 hs,hrl]
          refine .rows ⟨hrows.hop,hrows.hsz,hrows.esz,hrows.pos,hs,hlen2.symm.trans hrows.rel.len,fun k d v a b=> ?_⟩;obtain⟨d0,hd0⟩:=zeC hlen2 a;refine(hfr k d0 d hd0 a).rel hr (hrows.rel.at_ k d0 v hd0 b) ?_;obtain⟨r,hr1,hr2⟩:=qh.1 (qd a);exact h7 r hr1 d hr2
  ·intro i j R S hi' hj ai aj eb;obtain⟨xi,ei⟩:=qg.1 ai;obtain⟨xj,ej⟩:=qg.1 aj;obtain⟨yi,fi⟩:=live i _ ei;obtain⟨yj,fj⟩:=live j _ ej;exact hr.inj i j R S (zkT hi').2 (zkT hj).2 (by rw[fi];rfl) (by rw[fj];rfl) eb
end
variable {F:FuncId→Option za} {n0:Nat}
def SFrz (M' M2:VM) (s s2:DS):Prop:= ∀p e,getS s2 p=some e→ ∃d,getS s p=some d∧Frz M' M2 d e∧zJ M2.next e
theorem SFrz.rel {M' M2:VM} {w:Wd} {h:H} (hr:HRel w M' h) {s s2:DS} {t:zb} (hf:SFrz M' M2 s s2) (hs:SRel w s t):SRel (cw w M' M2 h) s2 t:=fun p e he=>by
 obtain⟨d,hd,h1,h2⟩:=hf p e he;obtain⟨v,hv,h3⟩:=hs p d hd;exact⟨v,hv,h1.rel hr h3 h2⟩
theorem ze.conv {f:DV} {args:List DV} {M:VM} {k kp:DV→VM→Prop} (h:ze F f args M (fun d M'=> ∃e M2,Conv M M' M2∧Frz M' M2 d e∧zJ M2.next e∧k e M2) kp):ze F f args M k kp:=by
 intro w hp fv vs hr hf hv;obtain⟨n,o,e,q⟩:=h w hp fv vs hr hf hv;refine⟨n,o,e,?_⟩;cases o with
 |val v h1=>
  obtain⟨w1,M1,d,a1,a2,a3,e2,M2,c1,c2,c3,c4⟩:=q;have:=St.conv ⟨rfl,hr,.refl _ _ _,hr⟩ hr a1 a2 c1;exact⟨_,M2,e2,this.hi,this.r,c2.rel a2 a3 c3,c4⟩
 |pan v s h1=>exact q
 |_=>exact q
def VM.Wf (M:VM):Prop:= ∀j,M.next≤j→M.get j=none
theorem HRel.Wf {w:Wd} {M:VM} {h:H} (hr:HRel w M h):M.Wf:=fun j hj=>by
 cases e:M.get j with
 |none=>rfl
 |some x=>obtain⟨o,st⟩:=x;have:=(hr.wf j o st e).1;omega
theorem ze.wf {f:DV} {args:List DV} {M:VM} {k kp:DV→VM→Prop} (h:M.Wf→ze F f args M k kp):ze F f args M k kp:=fun w hp fv vs hr a b=>h hr.Wf w hp fv vs hr a b
theorem Conv.same {M M':VM} (h: ∀j,j<M.next→M'.get j=M.get j):Conv M M' M:=⟨qm _,fun j=>.inl ⟨rfl,h j⟩⟩
theorem Frz.ms0 {M M2:VM} {j n cap sz:Nat} {op:Bool} {rs:List (List DV)} (ho:M.obj j=some (.rows op sz rs)) (hn:M2.get j=none) (hl:n=rs.length) (hs: ∀r∈rs,r.length=sz):Frz M M2 (.ms j 0 n cap) (.lst sz rs):=by
 subst hl;refine .ms ho hn (by omega) hs rfl fun k d e a b=> ?_;rw[List.drop_zero,List.take_length] at a;rw[a] at b;cases b;exact .refl d
end
section
noncomputable section
namespace Q
abbrev iI (n:Int):Value:=.int .i64 n
abbrev t (n:Nat):CO:=.t (bits n)
abbrev i (n:Int):CO:=.c (.int .i64 n)
abbrev tt:CO:=.c (.bool true)
abbrev ff:CO:=.c (.bool false)
abbrev fc (f:Nat):CO:=.c (.func (.func f) ⟨[]⟩ ⟨[]⟩)
abbrev bs (l:List Nat):List (List Bool):=l.map bits
abbrev oo (d:Nat) (x:COp):CI:=⟨some (bits d),x,none,0⟩
abbrev on (x:COp):CI:=⟨none,x,none,0⟩
abbrev gu (q:Nat) (b:Bool) (c:CI):CI:=⟨c.dst,c.op,some (bits q,b),c.lo⟩
def lo (n:Nat) (c:CI):CI:=⟨c.dst,c.op,c.guard,n⟩
@[simp] theorem lo_eq (n m:Nat) (d:Option (List Bool)) (o:COp) (g:Option (List Bool×Bool)):lo n ⟨d,o,g,m⟩=⟨d,o,g,n⟩:=id rfl
abbrev mv (d:Nat) (x:CO):CI:=⟨some (bits d),.mv x,none,0⟩
abbrev l (d a:Nat):CI:=⟨some (bits d),.load1 (t a),none,0⟩
abbrev ln (d n a:Nat):CI:=⟨some (bits d),.loadN n (t a),none,0⟩
abbrev fa (d n a:Nat):CI:=⟨some (bits d),.fieldAddr n (t a),none,0⟩
abbrev nc (d a:Nat):CI:=⟨some (bits d),.nilCheck (t a),none,0⟩
abbrev ia (d n a:Nat) (x:CO):CI:=⟨some (bits d),.indexAddr n (t a) x,none,0⟩
abbrev st (n a:Nat) (x:CO):CI:=⟨none,.store n (t a) x,none,0⟩
abbrev bi (op:BinOp) (d:Nat) (x y:CO):CI:=⟨some (bits d),.bin op .other x y,none,0⟩
abbrev le (d:Nat) (x:CO):CI:=⟨some (bits d),.blt .len [x],none,0⟩
abbrev ca (d f:Nat) (as:List CO):CI:=⟨some (bits d),.call (fc f) as,none,0⟩
abbrev ex (d a n:Nat):CI:=⟨some (bits d),.extract (t a) n,none,0⟩
abbrev bx (d:Nat) (x:CO):CI:=⟨some (bits d),.box x,none,0⟩
abbrev no (d a:Nat):CI:=⟨some (bits d),.un .not (t a),none,0⟩
abbrev pk (d:Nat) (c a b:CO):CI:=⟨some (bits d),.pick c a b,none,0⟩
abbrev ap (d s b:Nat) (x y:CO):CI:=⟨some (bits d),.blt (.append s b) [x,y],none,0⟩
end Q
inductive Fr where
 |sq (L:List (List Bool)) (b:CC)
 |bk (i:Nat)
def KF (X:RnD):List Fr→KD→KD
 | [],K=>K
 |.sq L b::ks,K=>⟨fun s M=>wp X b (KF X ks K) (zbJ L s) M,(KF X ks K).ext,(KF X ks K).ret,(KF X ks K).pan⟩
 |.bk i::ks,K=>⟨(KF X ks K).nrm,blkD i (KF X ks K),(KF X ks K).ret,(KF X ks K).pan⟩
class FrC where
 ks:List Fr
 K:KD
abbrev FrC.sq (f:FrC) (L:List (List Bool)) (b:CC):FrC:=⟨.sq L b::f.ks,f.K⟩
abbrev FrC.bk (f:FrC) (i:Nat):FrC:=⟨.bk i::f.ks,f.K⟩
abbrev FrC.base (K:KD):FrC:=⟨[],K⟩
def kf (X:RnD) [f:FrC]:KD:=KF X f.ks f.K
section
variable (X:RnD) [fr:FrC]
def Cd (c:CC) (s:DS) (M:VM):Prop:=wp X c (@kf X fr) s M
def Op (l:List CI) (s:DS) (M:VM):Prop:=wOps X (@kf X fr).pan l s M (@kf X fr).nrm
def Nx (s:DS) (M:VM):Prop:=(@kf X fr).nrm s M
def Ex (i:Nat) (s:DS) (M:VM):Prop:=(@kf X fr).ext i s M
def CK (d:Option (List Bool)) (r:List CI) (s:DS) (v:DV) (M:VM):Prop:= @Op X fr r (zW d v s) M
def PK [fr:FrC] (s:DS) (v:DV) (M:VM):Prop:=fr.K.pan v s M
def Rs (o:RD) (d:Option (List Bool)) (r:List CI) (s:DS):Prop:=okD o (@CK X fr d r s)
def Ca (f:Option DV) (as:Option (List DV)) (d:Option (List Bool)) (r:List CI) (s:DS) (M:VM):Prop:=ofD f fun f=>ofD as fun l=>X.call f l M (@CK X fr d r s) (@PK fr s)
def Gd (g:Option Bool) (d:Option (List Bool)) (op:COp) (lo:Nat) (r:List CI) (s:DS) (M:VM):Prop:=ofD g fun b=>match b with
 |true=> @Op X fr (⟨d,op,none,lo⟩::r) s M
 |false=> @Op X fr r (zW d (.tup []) s) M
def Pn [fr:FrC] (v:Option DV) (s:DS) (M:VM):Prop:=ofD v fun v=>match v with|.ifc t u=>fr.K.pan (.ifc t u) s M|_=>False
def Br (v:Option DV) (a b:CC) (s:DS) (M:VM):Prop:=ofD v fun v=>wIf v (@Cd X fr a s M) (@Cd X fr b s M)
end
section
variable {X:RnD} {fr:FrC} {K:KD} {s:DS} {M:VM} {d:Option (List Bool)} {r:List CI} {lo:Nat}
theorem KF_ret0: ∀ks:List Fr,(KF X ks K).ret=K.ret
 | []=>rfl
 |.sq _ _::ks=>KF_ret0 ks
 |.bk _::ks=>KF_ret0 ks
theorem KF_pan0: ∀ks:List Fr,(KF X ks K).pan=K.pan
 | []=>rfl
 |.sq _ _::ks=>KF_pan0 ks
 |.bk _::ks=>KF_pan0 ks
theorem KF_ret:(@kf X fr).ret=fr.K.ret:=KF_ret0 _
theorem KF_pan:(@kf X fr).pan=fr.K.pan:=KF_pan0 _
@[simp] theorem KF_ret':(@kf X fr).ret s M=fr.K.ret s M:=by rw[KF_ret]
@[simp] theorem KF_pan' (v:DV):(@kf X fr).pan v s M=fr.K.pan v s M:=by rw[KF_pan]
@[simp] theorem sq_K (L:List (List Bool)) (b:CC):(fr.sq L b).K=fr.K:=id rfl
@[simp] theorem bk_K (i:Nat):(fr.bk i).K=fr.K:=id rfl
@[simp] theorem base_K:(FrC.base K).K=K:=id rfl
@[simp] theorem KF_ext (i:Nat):(@kf X fr).ext i s M= @Ex X fr i s M:=id rfl
theorem wp_Cd (c:CC):wp X c K s M= @Cd X (.base K) c s M:=id rfl
@[simp] theorem Cd_skip: @Cd X fr .skip s M= @Nx X fr s M:=id rfl
@[simp] theorem Cd_ops (l:List CI): @Cd X fr (.ops l) s M= @Op X fr l s M:=id rfl
@[simp] theorem Cd_seq (a b:CC) (L:List (List Bool)): @Cd X fr (.seq a L b) s M= @Cd X (fr.sq L b) a s M:=id rfl
@[simp] theorem Cd_block (i:Nat) (b:CC): @Cd X fr (.block i b) s M= @Cd X (fr.bk i) b s M:=id rfl
@[simp] theorem Cd_cond (c:CO) (a b:CC): @Cd X fr (.cond c a b) s M= @Br X fr (evD s c) a b s M:=id rfl
@[simp] theorem Cd_exit (i:Nat): @Cd X fr (.exit i) s M= @Ex X fr i s M:=id rfl
@[simp] theorem Cd_ret: @Cd X fr .ret s M=fr.K.ret s M:=by show(@kf X fr).ret s M=_;rw[KF_ret]
@[simp] theorem Cd_loop (L:List (List Bool)) (b:CC): @Cd X fr (.loop L b) s M=X.loop L b (@kf X fr) (zbJ L s) M:=id rfl
@[simp] theorem Br_true (a b:CC): @Br X fr (some (.bool true)) a b s M= @Cd X fr a s M:=id rfl
@[simp] theorem Br_false (a b:CC): @Br X fr (some (.bool false)) a b s M= @Cd X fr b s M:=id rfl
@[simp] theorem Nx_nil: @Nx X (.base K) s M=K.nrm s M:=id rfl
@[simp] theorem Nx_sq (L:List (List Bool)) (b:CC): @Nx X (fr.sq L b) s M= @Cd X fr b (zbJ L s) M:=id rfl
@[simp] theorem Nx_bk (i:Nat): @Nx X (fr.bk i) s M= @Nx X fr s M:=id rfl
@[simp] theorem Ex_nil (i:Nat): @Ex X (.base K) i s M=K.ext i s M:=id rfl
@[simp] theorem Ex_sq (L:List (List Bool)) (b:CC) (i:Nat): @Ex X (fr.sq L b) i s M= @Ex X fr i s M:=id rfl
@[simp] theorem Ex_bk (i j:Nat): @Ex X (fr.bk i) j s M=if j=i then @Nx X fr s M else @Ex X fr j s M:=by
  show blkD i (@kf X fr) j s M=_;unfold blkD;by_cases h:j=i
  ·subst h;rw[if_pos rfl,qe];rfl
  ·rw[if_neg h];cases e:Nat.beq j i with
   |true=>exact absurd (ql e) h
   |false=>rfl
@[simp] theorem Op_nil: @Op X fr [] s M= @Nx X fr s M:=id rfl
@[simp] theorem Op_guard (op:COp) (g:List Bool×Bool): @Op X fr (⟨d,op,some g,lo⟩::r) s M= @Gd X fr (wantD (some g) s) d op lo r s M:=by
  show zii X _ s M _ _=_;unfold zii Gd
  congr 1
@[simp] theorem Gd_true (op:COp): @Gd X fr (some true) d op lo r s M= @Op X fr (⟨d,op,none,lo⟩::r) s M:=id rfl
@[simp] theorem Gd_false (op:COp): @Gd X fr (some false) d op lo r s M= @Op X fr r (zW d (.tup []) s) M:=id rfl
@[simp] theorem Rs_some (v:DV) (M':VM): @Rs X fr (some (v,M')) d r s= @Op X fr r (zW d v s) M':=id rfl
@[simp] theorem CK_eq (v:DV): @CK X fr d r s v M= @Op X fr r (zW d v s) M:=id rfl
@[simp] theorem PK_eq (v:DV): @PK fr s v M=fr.K.pan v s M:=id rfl
@[simp] theorem Ca_some (f:DV) (as:List DV): @Ca X fr (some f) (some as) d r s M=X.call f as M (@CK X fr d r s) (@PK fr s):=id rfl
@[simp] theorem Op_call (f:CO) (as:List CO): @Op X fr (⟨d,.call f as,none,lo⟩::r) s M= @Ca X fr (evD s f) (evDL s as) d r s M:=by
  show ofD _ _=ofD _ _;unfold PK CK Op;rw[KF_pan]
@[simp] theorem Op_panic (x:CO): @Op X fr (⟨d,.panic x,none,lo⟩::r) s M= @Pn fr (evD s x) s M:=by
  show ofD _ _=ofD _ _;rw[KF_pan];rfl
@[simp] theorem Pn_ifc (t:Nat) (v:DV): @Pn fr (some (.ifc t v)) s M=fr.K.pan (.ifc t v) s M:=id rfl
@[simp] theorem Op_mv (x:CO): @Op X fr (⟨d,.mv x,none,lo⟩::r) s M= @Rs X fr (opD (.mv x) s M) d r s:=id rfl
@[simp] theorem Op_pick (c a b:CO): @Op X fr (⟨d,.pick c a b,none,lo⟩::r) s M= @Rs X fr (opD (.pick c a b) s M) d r s:=id rfl
@[simp] theorem Op_build (z:List Value) (ps:List (Nat×Nat×CO)): @Op X fr (⟨d,.build z ps,none,lo⟩::r) s M= @Rs X fr (opD (.build z ps) s M) d r s:=id rfl
@[simp] theorem Op_load1 (a:CO): @Op X fr (⟨d,.load1 a,none,lo⟩::r) s M= @Rs X fr (opD (.load1 a) s M) d r s:=id rfl
@[simp] theorem Op_loadN (n:Nat) (a:CO): @Op X fr (⟨d,.loadN n a,none,lo⟩::r) s M= @Rs X fr (opD (.loadN n a) s M) d r s:=id rfl
@[simp] theorem Op_store (n:Nat) (a x:CO): @Op X fr (⟨d,.store n a x,none,lo⟩::r) s M= @Rs X fr (opD (.store n a x) s M) d r s:=id rfl
@[simp] theorem Op_nilc (x:CO): @Op X fr (⟨d,.nilCheck x,none,lo⟩::r) s M= @Rs X fr (opD (.nilCheck x) s M) d r s:=id rfl
@[simp] theorem Op_bin (op:BinOp) (ek:EK) (x y:CO): @Op X fr (⟨d,.bin op ek x y,none,lo⟩::r) s M= @Rs X fr (opD (.bin op ek x y) s M) d r s:=id rfl
@[simp] theorem Op_un (op:UnOp) (x:CO): @Op X fr (⟨d,.un op x,none,lo⟩::r) s M= @Rs X fr (opD (.un op x) s M) d r s:=id rfl
@[simp] theorem Op_conv (k:IntKind) (x:CO): @Op X fr (⟨d,.conv k x,none,lo⟩::r) s M= @Rs X fr (opD (.conv k x) s M) d r s:=id rfl
@[simp] theorem Op_makeFunc (g:Fn) (a b:List CO): @Op X fr (⟨d,.makeFunc g a b,none,lo⟩::r) s M= @Rs X fr (opD (.makeFunc g a b) s M) d r s:=id rfl
@[simp] theorem Op_fieldAddr (n:Nat) (x:CO): @Op X fr (⟨d,.fieldAddr n x,none,lo⟩::r) s M= @Rs X fr (opD (.fieldAddr n x) s M) d r s:=id rfl
@[simp] theorem Op_indexAddr (n:Nat) (x i:CO): @Op X fr (⟨d,.indexAddr n x i,none,lo⟩::r) s M= @Rs X fr (opD (.indexAddr n x i) s M) d r s:=id rfl
@[simp] theorem Op_lookup (kk:KK) (z:Value) (ok:Bool) (x i:CO): @Op X fr (⟨d,.lookup kk z ok x i,none,lo⟩::r) s M= @Rs X fr (opD (.lookup kk z ok x i) s M) d r s:=id rfl
@[simp] theorem Op_mapUpdate (kk:KK) (m i x:CO): @Op X fr (⟨d,.mapUpdate kk m i x,none,lo⟩::r) s M= @Rs X fr (opD (.mapUpdate kk m i x) s M) d r s:=id rfl
@[simp] theorem Op_extract (x:CO) (i:Nat): @Op X fr (⟨d,.extract x i,none,lo⟩::r) s M= @Rs X fr (opD (.extract x i) s M) d r s:=id rfl
@[simp] theorem Op_strIdx (x i:CO): @Op X fr (⟨d,.strIdx x i,none,lo⟩::r) s M= @Rs X fr (opD (.strIdx x i) s M) d r s:=id rfl
@[simp] theorem Op_mkI (t:TypeId) (x:CO): @Op X fr (⟨d,.mkI t x,none,lo⟩::r) s M= @Rs X fr (opD (.mkI t x) s M) d r s:=id rfl
@[simp] theorem Op_strSlice (x:CO) (lo' hi:Option CO): @Op X fr (⟨d,.strSlice x lo' hi,none,lo⟩::r) s M= @Rs X fr (opD (.strSlice x lo' hi) s M) d r s:=id rfl
@[simp] theorem Op_b2s (x:CO): @Op X fr (⟨d,.b2s x,none,lo⟩::r) s M= @Rs X fr (opD (.b2s x) s M) d r s:=id rfl
@[simp] theorem Op_box (x:CO): @Op X fr (⟨d,.box x,none,lo⟩::r) s M= @Rs X fr (opD (.box x) s M) d r s:=id rfl
@[simp] theorem Op_alloc (z:List Value): @Op X fr (⟨d,.alloc z,none,lo⟩::r) s M= @Rs X fr (opD (.alloc z) s M) d r s:=id rfl
@[simp] theorem Op_makeMap: @Op X fr (⟨d,.makeMap,none,lo⟩::r) s M= @Rs X fr (opD (.makeMap) s M) d r s:=id rfl
@[simp] theorem Op_buildSlice (len size:Nat) (z:List Value) (ps:List (Nat×CO)): @Op X fr (⟨d,.buildSlice len size z ps,none,lo⟩::r) s M= @Rs X fr (opD (.buildSlice len size z ps) s M) d r s:=id rfl
@[simp] theorem Op_blt (b:CB) (as:List CO): @Op X fr (⟨d,.blt b as,none,lo⟩::r) s M= @Rs X fr (opD (.blt b as) s M) d r s:=id rfl
end
section
variable (X:RnD) [fr:FrC]
def Dr (l:List CI) (bs:List Mo) (s:DS) (M:VM):Prop:=zde X l bs s M (@kf X fr).nrm fun v M=>fr.K.pan v [] M
def DP (l:List CI) (bs:List Mo) (s:DS) (M:VM) (v:DV) (M':VM):Prop:=wSurv X l bs s M∧fr.K.pan v [] M'
def DW (d:Option (List Bool)) (l:List CI) (bs:List Mo) (s:DS) (v:DV) (M:VM):Prop:= @Dr X fr l (⟨zkq bs,M,[]⟩::bs.map (zcC d)) (zW d v s) M
def DrW (o:RD) (d:Option (List Bool)) (l:List CI) (bs:List Mo) (s:DS):Prop:=okD o (@DW X fr d l bs s)
def DrC (f:Option DV) (as:Option (List DV)) (d:Option (List Bool)) (l:List CI) (bs:List Mo) (s:DS) (M:VM):Prop:=ofD f fun f=>ofD as fun a=>X.call f a M (@DW X fr d l bs s) (@DP X fr l bs s M)
def DrF (o:RD) (ns:List (List Bool)) (d:Option (List Bool)) (l:List CI) (bs:List Mo) (s:DS):Prop:=okD o fun v M=> @Dr X fr l (bs.map (zhO ns d)) (zW d v s) M
def DrA (o:RD) (d:Option (List Bool)) (l:List CI) (bs:List Mo) (s:DS):Prop:=okD o fun v M=> @Dr X fr l (bs.map (zcC d)) (zW d v s) M
def DrR (op:COp) (o:RD) (rs:List Nat) (ns:List (List Bool)) (d:Option (List Bool)) (lo:Nat) (l:List CI) (bs:List Mo) (s:DS) (M:VM):Prop:=match bs with
 | []=>False
 |x::r=>okD o fun v _=>(rdAt rs ns M x∨rdAlt op ns s v x)∧rdOk op rs ns s v M lo r∧zj4 (x::r) v=true∧ @Dr X fr l (x::zji lo d r) (zW d v s) M
def DrB (op:COp) (b:Bool) (o:RD) (rs:List Nat) (ns:List (List Bool)) (d:Option (List Bool)) (lo:Nat) (l:List CI) (bs:List Mo) (s:DS) (M:VM):Prop:=match b with
 |true=>match bs with
  | []=>False
  |_::_=>okD o fun v _=> @Dr X fr l bs (zW d v s) M
 |false=> @DrR X fr op o rs ns d lo l bs s M
def frB (bs:List Mo) (e:Option DV):Bool:=match bs with
 | []=>false
 |x::_=>match e with
  |some (.ms j _ _ _)=>qp x.M.next j
  |_=>false
def DrG (g:Option Bool) (o:CI) (l:List CI) (bs:List Mo) (s:DS) (M:VM):Prop:=ofD g fun b=>match b with
 |true=> @Dr X fr (⟨o.dst,o.op,none,o.lo⟩::l) bs s M
 |false=>if isW o.op=true then @DW X fr o.dst l bs s (.tup []) M else if isRd o.op=true then @Dr X fr l (bs.map (zhO (zg o.op) o.dst)) (zW o.dst (.tup []) s) M else if isFl o.op=true then @Dr X fr l (bs.map (zhO (zg o.op) o.dst)) (zW o.dst (.tup []) s) M else @Dr X fr l (bs.map (zcC o.dst)) (zW o.dst (.tup []) s) M
end
section
variable {X:RnD} {fr:FrC} {K:KD} {s:DS} {M:VM} {d:Option (List Bool)} {l:List CI} {lo:Nat} {bs:List Mo}
@[simp] theorem Cd_draw (l:List CI): @Cd X fr (.draw l) s M= @Dr X fr l [⟨0,M,[]⟩] s M:=by
  show zde X l _ s M (@kf X fr).nrm (fun v M=>(@kf X fr).pan v [] M)=zde X l _ s M (@kf X fr).nrm fun v M=>fr.K.pan v [] M;rw[KF_pan]
@[simp] theorem Dr_nil: @Dr X fr [] bs s M= @Nx X fr s M:=id rfl
@[simp] theorem DW_eq (v:DV): @DW X fr d l bs s v M= @Dr X fr l (⟨zkq bs,M,[]⟩::bs.map (zcC d)) (zW d v s) M:=id rfl
@[simp] theorem DrW_some (v:DV) (M':VM): @DrW X fr (some (v,M')) d l bs s= @Dr X fr l (⟨zkq bs,M',[]⟩::bs.map (zcC d)) (zW d v s) M':=id rfl
@[simp] theorem DrC_some (f:DV) (as:List DV): @DrC X fr (some f) (some as) d l bs s M=X.call f as M (@DW X fr d l bs s) (@DP X fr l bs s M):=id rfl
@[simp] theorem DrF_some (ns:List (List Bool)) (v:DV) (M':VM): @DrF X fr (some (v,M')) ns d l bs s= @Dr X fr l (bs.map (zhO ns d)) (zW d v s) M':=id rfl
@[simp] theorem DrA_some (v:DV) (M':VM): @DrA X fr (some (v,M')) d l bs s= @Dr X fr l (bs.map (zcC d)) (zW d v s) M':=id rfl
@[simp] theorem DrR_some (op:COp) (v:DV) (M':VM) (rs:List Nat) (ns:List (List Bool)) (x:Mo) (r:List Mo): @DrR X fr op (some (v,M')) rs ns d lo l (x::r) s M=((rdAt rs ns M x∨rdAlt op ns s v x)∧rdOk op rs ns s v M lo r∧zj4 (x::r) v=true∧ @Dr X fr l (x::zji lo d r) (zW d v s) M):=id rfl
@[simp] theorem DrG_true (o:CI): @DrG X fr (some true) o l bs s M= @Dr X fr (⟨o.dst,o.op,none,o.lo⟩::l) bs s M:=id rfl
@[simp] theorem DrG_false (o:CI): @DrG X fr (some false) o l bs s M=if isW o.op=true then @DW X fr o.dst l bs s (.tup []) M else if isRd o.op=true then @Dr X fr l (bs.map (zhO (zg o.op) o.dst)) (zW o.dst (.tup []) s) M else if isFl o.op=true then @Dr X fr l (bs.map (zhO (zg o.op) o.dst)) (zW o.dst (.tup []) s) M else @Dr X fr l (bs.map (zcC o.dst)) (zW o.dst (.tup []) s) M:=id rfl
@[simp] theorem Dr_guard (op:COp) (g:List Bool×Bool): @Dr X fr (⟨d,op,some g,lo⟩::l) bs s M= @DrG X fr (wantD (some g) s) ⟨d,op,some g,lo⟩ l bs s M:=by
  unfold Dr
  conv=>lhs;unfold zde
  cases hw:isW op with
  |true=>
   show zii X _ s M _ _=_;unfold zii DrG;dsimp only
   congr 1;funext b
   cases b with
   |true=>show _= @Dr X fr _ _ _ _;unfold Dr;(conv=>rhs;unfold zde;rw[hw]);rfl
   |false=>dsimp only;rw[hw];rfl
  |false=>
   cases hr:isRd op with
   |true=>
    unfold DrG;dsimp only
    congr 1;funext b
    cases b with
    |true=>show _= @Dr X fr _ _ _ _;unfold Dr;(conv=>rhs;unfold zde;rw[hw,hr]);rfl
    |false=>dsimp only;rw[hw,hr];rfl
   |false=>
    cases hf:isFl op with
    |true=>
     show zii X _ s M _ _=_;unfold zii DrG;dsimp only
     congr 1;funext b
     cases b with
     |true=>show _= @Dr X fr _ _ _ _;unfold Dr;(conv=>rhs;unfold zde;rw[hw,hr,hf]);rfl
     |false=>dsimp only;rw[hw,hr,hf];rfl
    |false=>
     show zii X _ s M _ _=_;unfold zii DrG;dsimp only
     congr 1;funext b
     cases b with
     |true=>show _= @Dr X fr _ _ _ _;unfold Dr;(conv=>rhs;unfold zde;rw[hw,hr,hf]);rfl
     |false=>dsimp only;rw[hw,hr,hf];rfl
@[simp] theorem Dr_call (f:CO) (as:List CO): @Dr X fr (⟨d,.call f as,none,lo⟩::l) bs s M= @DrC X fr (evD s f) (evDL s as) d l bs s M:=id rfl
@[simp] theorem Dr_mv (x:CO): @Dr X fr (⟨d,.mv x,none,lo⟩::l) bs s M= @DrF X fr (opD (.mv x) s M) (zg (.mv x)) d l bs s:=id rfl
@[simp] theorem Dr_pick (c a b:CO): @Dr X fr (⟨d,.pick c a b,none,lo⟩::l) bs s M= @DrF X fr (opD (.pick c a b) s M) (zg (.pick c a b)) d l bs s:=id rfl
@[simp] theorem Dr_build (z:List Value) (ps:List (Nat×Nat×CO)): @Dr X fr (⟨d,.build z ps,none,lo⟩::l) bs s M= @DrF X fr (opD (.build z ps) s M) (zg (.build z ps)) d l bs s:=id rfl
@[simp] theorem Dr_load1 (a:CO): @Dr X fr (⟨d,.load1 a,none,lo⟩::l) bs s M= @DrR X fr (.load1 a) (opD (.load1 a) s M) (zce s (.load1 a)) (zg (.load1 a)) d lo l bs s M:=by cases bs<;>rfl
@[simp] theorem Dr_loadN (n:Nat) (a:CO): @Dr X fr (⟨d,.loadN n a,none,lo⟩::l) bs s M= @DrR X fr (.loadN n a) (opD (.loadN n a) s M) (zce s (.loadN n a)) (zg (.loadN n a)) d lo l bs s M:=by cases bs<;>rfl
@[simp] theorem Dr_store (n:Nat) (a x:CO): @Dr X fr (⟨d,.store n a x,none,lo⟩::l) bs s M= @DrW X fr (opD (.store n a x) s M) d l bs s:=id rfl
@[simp] theorem Dr_nilc (x:CO): @Dr X fr (⟨d,.nilCheck x,none,lo⟩::l) bs s M= @DrF X fr (opD (.nilCheck x) s M) (zg (.nilCheck x)) d l bs s:=id rfl
@[simp] theorem Dr_bin (op:BinOp) (ek:EK) (x y:CO): @Dr X fr (⟨d,.bin op ek x y,none,lo⟩::l) bs s M= @DrF X fr (opD (.bin op ek x y) s M) (zg (.bin op ek x y)) d l bs s:=id rfl
@[simp] theorem Dr_un (op:UnOp) (x:CO): @Dr X fr (⟨d,.un op x,none,lo⟩::l) bs s M= @DrF X fr (opD (.un op x) s M) (zg (.un op x)) d l bs s:=id rfl
@[simp] theorem Dr_conv (k:IntKind) (x:CO): @Dr X fr (⟨d,.conv k x,none,lo⟩::l) bs s M= @DrF X fr (opD (.conv k x) s M) (zg (.conv k x)) d l bs s:=id rfl
@[simp] theorem Dr_makeFunc (g:Fn) (a b:List CO): @Dr X fr (⟨d,.makeFunc g a b,none,lo⟩::l) bs s M= @DrF X fr (opD (.makeFunc g a b) s M) (zg (.makeFunc g a b)) d l bs s:=id rfl
@[simp] theorem Dr_slice (n:Nat) (x:CO) (lo' hi:Option CO): @Dr X fr (⟨d,.slice n x lo' hi,none,lo⟩::l) bs s M= @DrR X fr (.slice n x lo' hi) (opD (.slice n x lo' hi) s M) (zce s (.slice n x lo' hi)) (zg (.slice n x lo' hi)) d lo l bs s M:=by cases bs<;>rfl
@[simp] theorem Dr_fieldAddr (n:Nat) (x:CO): @Dr X fr (⟨d,.fieldAddr n x,none,lo⟩::l) bs s M= @DrF X fr (opD (.fieldAddr n x) s M) (zg (.fieldAddr n x)) d l bs s:=id rfl
@[simp] theorem Dr_indexAddr (n:Nat) (x i:CO): @Dr X fr (⟨d,.indexAddr n x i,none,lo⟩::l) bs s M= @DrF X fr (opD (.indexAddr n x i) s M) (zg (.indexAddr n x i)) d l bs s:=id rfl
@[simp] theorem Dr_lookup (kk:KK) (z:Value) (ok:Bool) (x i:CO): @Dr X fr (⟨d,.lookup kk z ok x i,none,lo⟩::l) bs s M= @DrR X fr (.lookup kk z ok x i) (opD (.lookup kk z ok x i) s M) (zce s (.lookup kk z ok x i)) (zg (.lookup kk z ok x i)) d lo l bs s M:=by cases bs<;>rfl
@[simp] theorem Dr_mapUpdate (kk:KK) (m i x:CO): @Dr X fr (⟨d,.mapUpdate kk m i x,none,lo⟩::l) bs s M= @DrW X fr (opD (.mapUpdate kk m i x) s M) d l bs s:=id rfl
@[simp] theorem Dr_extract (x:CO) (i:Nat): @Dr X fr (⟨d,.extract x i,none,lo⟩::l) bs s M= @DrF X fr (opD (.extract x i) s M) (zg (.extract x i)) d l bs s:=id rfl
@[simp] theorem Dr_strIdx (x i:CO): @Dr X fr (⟨d,.strIdx x i,none,lo⟩::l) bs s M= @DrF X fr (opD (.strIdx x i) s M) (zg (.strIdx x i)) d l bs s:=id rfl
@[simp] theorem Dr_strSlice (x:CO) (lo' hi:Option CO): @Dr X fr (⟨d,.strSlice x lo' hi,none,lo⟩::l) bs s M= @DrF X fr (opD (.strSlice x lo' hi) s M) (zg (.strSlice x lo' hi)) d l bs s:=id rfl
@[simp] theorem Dr_s2b (x:CO): @Dr X fr (⟨d,.s2b x,none,lo⟩::l) bs s M= @DrW X fr (opD (.s2b x) s M) d l bs s:=id rfl
@[simp] theorem frB_ms (x:Mo) (r:List Mo) (j a b c:Nat):frB (x::r) (some (.ms j a b c))=decide (x.M.next≤j):=by show qp _ _=_;rw[Bool.eq_iff_iff];simp
@[simp] theorem DrB_true (op:COp) (v:DV) (M':VM) (rs:List Nat) (ns:List (List Bool)) (x:Mo) (r:List Mo): @DrB X fr op true (some (v,M')) rs ns d lo l (x::r) s M= @Dr X fr l (x::r) (zW d v s) M:=id rfl
@[simp] theorem DrB_false (op:COp) (o:RD) (rs:List Nat) (ns:List (List Bool)): @DrB X fr op false o rs ns d lo l bs s M= @DrR X fr op o rs ns d lo l bs s M:=id rfl
@[simp] theorem Dr_b2s (x:CO): @Dr X fr (⟨d,.b2s x,none,lo⟩::l) bs s M= @DrB X fr (.b2s x) (frB bs (evD s x)) (opD (.b2s x) s M) (zce s (.b2s x)) (zg (.b2s x)) d lo l bs s M:=by cases bs<;>rfl
@[simp] theorem Dr_buildSlice (len size:Nat) (z:List Value) (ps:List (Nat×CO)): @Dr X fr (⟨d,.buildSlice len size z ps,none,lo⟩::l) bs s M= @DrA X fr (opD (.buildSlice len size z ps) s M) d l bs s:=id rfl
@[simp] theorem Dr_append (s' b:Nat) (as:List CO): @Dr X fr (⟨d,.blt (.append s' b) as,none,lo⟩::l) bs s M= @DrW X fr (opD (.blt (.append s' b) as) s M) d l bs s:=id rfl
@[simp] theorem Dr_lenStr (as:List CO): @Dr X fr (⟨d,.blt .lenStr as,none,lo⟩::l) bs s M= @DrF X fr (opD (.blt .lenStr as) s M) (zg (.blt .lenStr as)) d l bs s:=id rfl
end
end
end
section
noncomputable section
attribute [simp] List.getElem?_cons_zero List.getElem?_cons_succ List.getElem?_eq_getElem
def rdV (M:VM):Option DV→RD
 |some d=>some (d,M)
 |none=>none
@[simp] theorem rdV_some (M:VM) (d:DV):rdV M (some d)=some (d,M):=id rfl
theorem zcr (M:VM) (o:Option DV):o.map (fun d=>(d,M))=rdV M o:=by cases o<;>rfl
def rowO (M:VM):Option DV→Option (List DV)
 |some d=>zcG M d
 |none=>none
def rowI (off:Nat):Option (List DV)→Option (List DV)
 |some r=>some (r.drop off)
 |none=>none
def rowJ (i off:Nat):Option MO→Option (List DV)
 |some (.rows _ _ rs)=>rowI off (rs[i]?)
 |_=>none
@[simp] theorem rowO_some (M:VM) (d:DV):rowO M (some d)=zcG M d:=id rfl
@[simp] theorem rowI_some (off:Nat) (r:List DV):rowI off (some r)=some (r.drop off):=id rfl
@[simp] theorem rowJ_some (i off:Nat) (op:Bool) (sz:Nat) (rs:List (List DV)):rowJ i off (some (.rows op sz rs))=rowI off (rs[i]?):=id rfl
@[simp] theorem rowOf_ptr (M:VM) (j i off:Nat):zcG M (.ptr j i off)=rowJ i off (M.obj j):=by
  show(M.obj j).bind _=_;cases M.obj j with
  |none=>rfl
  |some o=>cases o<;>first|rfl| (show(Option.map _ _)=rowI off _;rename_i rs;cases rs[i]?<;>rfl)
@[simp] theorem rowOf_pl (M:VM) (s:Nat) (rows:List (List DV)) (i off:Nat):zcG M (.pl s rows i off)=rowI off (rows[i]?):=by
  show(Option.map _ _)=rowI off _;cases rows[i]?<;>rfl
def ld1:Option (List DV)→Option DV
 |some r=>oneD r
 |none=>none
def ldN (n:Nat):Option (List DV)→Option DV
 |some r=>(zcD n r).map .agg
 |none=>none
@[simp] theorem ld1_some (r:List DV):ld1 (some r)=oneD r:=id rfl
@[simp] theorem ldN_some (n:Nat) (r:List DV):ldN n (some r)=(zcD n r).map .agg:=id rfl
@[simp] theorem oneD_cons (v:DV) (r:List DV):oneD (v::r)=some v:=id rfl
@[simp] theorem takeD_zero (l:List DV):zcD 0 l=some []:=by cases l<;>rfl
@[simp] theorem takeD_succ (n:Nat) (v:DV) (r:List DV):zcD (n+1) (v::r)=(zcD n r).map (v:: ·):=id rfl
def f1 (f:DV→Option DV):Option DV→Option DV
 |some d=>f d
 |none=>none
@[simp] theorem f1_some (f:DV→Option DV) (d:DV):f1 f (some d)=f d:=id rfl
def f2 (f:DV→DV→Option DV):Option DV→Option DV→Option DV
 |some a,some b=>f a b
 |_,_=>none
@[simp] theorem f2_some (f:DV→DV→Option DV) (a b:DV):f2 f (some a) (some b)=f a b:=id rfl
def pkO:Option DV→Option DV→Option DV→Option DV
 |some c,a,b=>pickD a b c
 |none,_,_=>none
@[simp] theorem pkO_true (a b:Option DV):pkO (some (.bool true)) a b=a:=id rfl
@[simp] theorem pkO_false (a b:Option DV):pkO (some (.bool false)) a b=b:=id rfl
def stW (M:VM) (j i:Nat) (op:Bool) (sz:Nat) (rs:List (List DV)):Option (List DV)→Option VM
 |some r=>some (M.put j (.rows op sz (rs.set i r)))
 |none=>none
def stI (n:Nat) (M:VM) (xs:List DV) (j i off:Nat) (op:Bool) (sz:Nat) (rs:List (List DV)):Option (List DV)→Option VM
 |some r=>if xs.length=n∧0<n∧xs.all zj=true then stW M j i op sz rs (zq r off xs) else none
 |none=>none
def stJ (n:Nat) (M:VM) (xs:List DV) (j i off:Nat):Option MO→Option VM
 |some (.rows op sz rs)=>stI n M xs j i off op sz rs (rs[i]?)
 |_=>none
@[simp] theorem stW_some (M:VM) (j i:Nat) (op:Bool) (sz:Nat) (rs:List (List DV)) (r:List DV):stW M j i op sz rs (some r)=some (M.put j (.rows op sz (rs.set i r))):=id rfl
@[simp] theorem stI_some (n:Nat) (M:VM) (xs:List DV) (j i off:Nat) (op:Bool) (sz:Nat) (rs:List (List DV)) (r:List DV):stI n M xs j i off op sz rs (some r)=if xs.length=n∧0<n∧xs.all zj=true then stW M j i op sz rs (zq r off xs) else none:=id rfl
@[simp] theorem stJ_some (n:Nat) (M:VM) (xs:List DV) (j i off:Nat) (op:Bool) (sz:Nat) (rs:List (List DV)):stJ n M xs j i off (some (.rows op sz rs))=stI n M xs j i off op sz rs (rs[i]?):=id rfl
@[simp] theorem storeD_ptr (n:Nat) (M:VM) (x:DV) (j i off:Nat):zfS n M x (.ptr j i off)=stJ n M (zt x) j i off (M.obj j):=by
  show(M.obj j).bind _=_;cases M.obj j with
  |none=>rfl
  |some o=>cases o with
   |rows op sz rs=>
    show(rs[i]?).bind _=stI n M (zt x) j i off op sz rs (rs[i]?);cases rs[i]? with
    |none=>rfl
    |some r=>
     show(if _ then _ else _)=(if _ then _ else _)
     congr 1
     cases zq r off (zt x)<;>rfl
   |_=>rfl
def stR:Option VM→RD
 |some M=>some (.tup [],M)
 |none=>none
@[simp] theorem stR_some (M:VM):stR (some M)=some (.tup [],M):=id rfl
def stO (n:Nat) (M:VM):Option DV→Option DV→RD
 |some a,some x=>stR (zfS n M x a)
 |_,_=>none
@[simp] theorem stO_some (n:Nat) (M:VM) (a x:DV):stO n M (some a) (some x)=stR (zfS n M x a):=id rfl
def bxO (M:VM):Option DV→RD
 |some v=>some (.ptr M.next 0 0,M.new (.rows false (zt v).length [zt v]))
 |none=>none
@[simp] theorem bxO_some (M:VM) (v:DV):bxO M (some v)=some (.ptr M.next 0 0,M.new (.rows false (zt v).length [zt v])):=id rfl
def alO (M:VM):Option (List DV)→RD
 |some z=>some (.ptr M.next 0 0,M.new (.rows false z.length [z]))
 |none=>none
@[simp] theorem alO_some (M:VM) (z:List DV):alO M (some z)=some (.ptr M.next 0 0,M.new (.rows false z.length [z])):=id rfl
def bdO:Option (List DV)→Option (List (Nat×Nat×DV))→Option DV
 |some z,some l=>(ziL z l).map .agg
 |_,_=>none
@[simp] theorem bdO_some (z:List DV) (l:List (Nat×Nat×DV)):bdO (some z) (some l)=(ziL z l).map .agg:=id rfl
def msR (M:VM) (len size:Nat):Option (List (List DV))→RD
 |some rows=>some (.ms M.next 0 len len,M.new (.rows false size rows))
 |none=>none
@[simp] theorem msR_some (M:VM) (len size:Nat) (rows:List (List DV)):msR M len size (some rows)=some (.ms M.next 0 len len,M.new (.rows false size rows)):=id rfl
def bsO (M:VM) (len size:Nat):Option (List DV)→Option (List (Nat×DV))→RD
 |some z,some l=>if z.length=size∧len<zc then msR M len size (zc2 size (qq len z) l) else none
 |_,_=>none
@[simp] theorem bsO_some (M:VM) (len size:Nat) (z:List DV) (l:List (Nat×DV)):bsO M len size (some z) (some l)=if z.length=size∧len<zc then msR M len size (zc2 size (qq len z) l) else none:=id rfl
def fnO (g:Fn) (M:VM):Option (List DV)→Option (List DV)→RD
 |some a,some b=>match g with|.func g=>some (.fn g a b,M)|_=>none
 |_,_=>none
@[simp] theorem fnO_some (g:Nat) (M:VM) (a b:List DV):fnO (.func g) M (some a) (some b)=some (.fn g a b,M):=id rfl
def slO (n:Nat) (M:VM):Option DV→Option (Option DV)→Option (Option DV)→Option DV
 |some v,some lo,some hi=>sliceD n M lo hi v
 |_,_,_=>none
@[simp] theorem slO_some (n:Nat) (M:VM) (v:DV) (lo hi:Option DV):slO n M (some v) (some lo) (some hi)=sliceD n M lo hi v:=id rfl
def lkE (kk:KK) (z:DV) (ok:Bool) (k:DV):Option (List (DV×DV))→Option DV
 |some es=>match zM kk k k with|some _=>(zeF kk k es).map (zbA z ok)|none=>none
 |none=>none
def lkO (kk:KK) (ok:Bool) (M:VM):Option DV→Option DV→Option DV→Option DV
 |some m,some k,some z=>lkE kk z ok k (zbc M m)
 |_,_,_=>none
@[simp] theorem lkO_some (kk:KK) (ok:Bool) (M:VM) (m k z:DV):lkO kk ok M (some m) (some k) (some z)=lkE kk z ok k (zbc M m):=id rfl
def muO (kk:KK) (M:VM):Option DV→Option DV→Option DV→RD
 |some m,some k,some x=>stR (updD kk M k x m)
 |_,_,_=>none
@[simp] theorem muO_some (kk:KK) (M:VM) (m k x:DV):muO kk M (some m) (some k) (some x)=stR (updD kk M k x m):=id rfl
def exV (i:Nat):DV→Option DV
 |.tup l=>l[i]?
 |_=>none
@[simp] theorem exV_tup (i:Nat) (l:List DV):exV i (.tup l)=l[i]?:=id rfl
def ssO:Option DV→Option (Option DV)→Option (Option DV)→Option DV
 |some v,some lo,some hi=>zcb lo hi v
 |_,_,_=>none
@[simp] theorem ssO_some (v:DV) (lo hi:Option DV):ssO (some v) (some lo) (some hi)=zcb lo hi v:=id rfl
def blO (b:CB) (M:VM):Option (List DV)→RD
 |some l=>bltD M b l
 |none=>none
@[simp] theorem blO_some (b:CB) (M:VM) (l:List DV):blO b M (some l)=bltD M b l:=id rfl
def ifV (t:TypeId) (d:DV):Option DV:=some (.ifc t d)
@[simp] theorem ifV_eq (t:TypeId) (d:DV):ifV t d=some (.ifc t d):=id rfl
def s2bD:DV→Option DV
 |.str b=>some (.bs b)
 |_=>none
@[simp] theorem s2bD_str (b:ByteArray):s2bD (.str b)=some (.bs b):=id rfl
section
variable {s:DS} {M:VM}
@[simp] theorem opD_mv (x:CO):opD (.mv x) s M=rdV M (evD s x):=zcr _ _
@[simp] theorem opD_pick (c a b:CO):opD (.pick c a b) s M=rdV M (pkO (evD s c) (evD s a) (evD s b)):=by
  show(evD s c).bind _=_;cases evD s c<;>first|rfl|exact zcr _ _
@[simp] theorem opD_build (z:List Value) (ps:List (Nat×Nat×CO)):opD (.build z ps) s M=rdV M (bdO (dOfL z) (zhL s ps)):=by
  show(dOfL z).bind _=_;cases dOfL z with
  |none=>rfl
  |some z=>show(zhL s ps).bind _=_;cases zhL s ps with
   |none=>rfl
   |some l=>show(ziL z l).map _=rdV M ((ziL z l).map .agg);cases ziL z l<;>rfl
@[simp] theorem opD_load1 (a:CO):opD (.load1 a) s M=rdV M (ld1 (rowO M (evD s a))):=by
  show(evD s a).bind _=_;cases evD s a with
  |none=>rfl
  |some a=>show(zcG M a).bind _=rdV M (ld1 (zcG M a));cases zcG M a with
   |none=>rfl
   |some r=>exact zcr _ _
@[simp] theorem opD_loadN (n:Nat) (a:CO):opD (.loadN n a) s M=rdV M (ldN n (rowO M (evD s a))):=by
  show(evD s a).bind _=_;cases evD s a with
  |none=>rfl
  |some a=>show(zcG M a).bind _=rdV M (ldN n (zcG M a));cases zcG M a with
   |none=>rfl
   |some r=>show(zcD n r).map _=rdV M ((zcD n r).map .agg);cases zcD n r<;>rfl
@[simp] theorem opD_store (n:Nat) (a x:CO):opD (.store n a x) s M=stO n M (evD s a) (evD s x):=by
  show(evD s a).bind _=_;cases evD s a with
  |none=>rfl
  |some a=>show(evD s x).bind _=_;cases evD s x with
   |none=>rfl
   |some x=>show(zfS n M x a).map _=stR (zfS n M x a);cases zfS n M x a<;>rfl
@[simp] theorem opD_nil (x:CO):opD (.nilCheck x) s M=rdV M (f1 nilD (evD s x)):=by
  show(evD s x).bind _=_;cases evD s x<;>first|rfl|exact zcr _ _
@[simp] theorem opD_bin (op:BinOp) (ek:EK) (x y:CO):opD (.bin op ek x y) s M=rdV M (f2 (binD op ek) (evD s x) (evD s y)):=by
  show(evD s x).bind _=_;cases evD s x with
  |none=>rfl
  |some a=>show(evD s y).bind _=_;cases evD s y<;>first|rfl|exact zcr _ _
@[simp] theorem opD_un (op:UnOp) (x:CO):opD (.un op x) s M=rdV M (f1 (unD op) (evD s x)):=by
  show(evD s x).bind _=_;cases evD s x<;>first|rfl|exact zcr _ _
@[simp] theorem opD_conv (k:IntKind) (x:CO):opD (.conv k x) s M=rdV M (f1 (ziP k) (evD s x)):=by
  show(evD s x).bind _=_;cases evD s x<;>first|rfl|exact zcr _ _
@[simp] theorem opD_makeFunc (g:Fn) (a b:List CO):opD (.makeFunc g a b) s M=fnO g M (evDL s a) (evDL s b):=by
  cases g with
  |func g=>
   show(evDL s a).bind _=_;cases evDL s a with
   |none=>rfl
   |some a=>show(evDL s b).map _=_;cases evDL s b<;>rfl
  |_=>unfold opD fnO;cases evDL s a<;>cases evDL s b<;>rfl
@[simp] theorem opD_slice (n:Nat) (x:CO) (lo hi:Option CO):opD (.slice n x lo hi) s M=rdV M (slO n M (evD s x) (evDO s lo) (evDO s hi)):=by
  show(evD s x).bind _=_;cases evD s x with
  |none=>rfl
  |some v=>show(evDO s lo).bind _=_;cases evDO s lo with
   |none=>rfl
   |some lo=>show(evDO s hi).bind _=_;cases evDO s hi<;>first|rfl|exact zcr _ _
@[simp] theorem opD_fieldAddr (n:Nat) (x:CO):opD (.fieldAddr n x) s M=rdV M (f1 (offD n) (evD s x)):=by
  show(evD s x).bind _=_;cases evD s x<;>first|rfl|exact zcr _ _
@[simp] theorem opD_indexAddr (n:Nat) (x i:CO):opD (.indexAddr n x i) s M=rdV M (f2 (ziT n M) (evD s i) (evD s x)):=by
  show(evD s x).bind _=_;cases evD s x with
  |none=>cases evD s i<;>rfl
  |some a=>show(evD s i).bind _=_;cases evD s i<;>first|rfl|exact zcr _ _
@[simp] theorem opD_lookup (kk:KK) (z:Value) (ok:Bool) (x i:CO):opD (.lookup kk z ok x i) s M=rdV M (lkO kk ok M (evD s x) (evD s i) (dOf z)):=by
  show(evD s x).bind _=_;cases evD s x with
  |none=>rfl
  |some m=>show(evD s i).bind _=_;cases evD s i with
   |none=>rfl
   |some k=>show(dOf z).bind _=_;cases dOf z with
    |none=>rfl
    |some z=>
     show(zM kk k k).bind _=rdV M (lkE kk z ok k (zbc M m));cases hk:zM kk k k with
     |none=>cases zbc M m<;>simp[lkE,hk,rdV]
     |some b=>
      show(zbc M m).bind _=_;cases zbc M m with
      |none=>rfl
      |some es=>
       simp only[lkE,hk];show(zeF kk k es).map _=rdV M ((zeF kk k es).map _);cases zeF kk k es<;>rfl
@[simp] theorem opD_mapUpdate (kk:KK) (m i x:CO):opD (.mapUpdate kk m i x) s M=muO kk M (evD s m) (evD s i) (evD s x):=by
  show(evD s m).bind _=_;cases evD s m with
  |none=>rfl
  |some m=>show(evD s i).bind _=_;cases evD s i with
   |none=>rfl
   |some k=>show(evD s x).bind _=_;cases evD s x with
    |none=>rfl
    |some x=>show(updD kk M k x m).map _=stR (updD kk M k x m);cases updD kk M k x m<;>rfl
@[simp] theorem opD_extract (x:CO) (i:Nat):opD (.extract x i) s M=rdV M (f1 (exV i) (evD s x)):=by
  show(evD s x).bind _=_;cases evD s x with
  |none=>rfl
  |some v=>cases v<;>first|rfl|exact zcr _ _
@[simp] theorem opD_strIdx (x i:CO):opD (.strIdx x i) s M=rdV M (f2 zil (evD s x) (evD s i)):=by
  show(evD s x).bind _=_;cases evD s x with
  |none=>rfl
  |some a=>show(evD s i).bind _=_;cases evD s i<;>first|rfl|exact zcr _ _
@[simp] theorem opD_mkI (t:TypeId) (x:CO):opD (.mkI t x) s M=rdV M (f1 (ifV t) (evD s x)):=by
  show(evD s x).map _=_;cases evD s x<;>rfl
@[simp] theorem opD_strSlice (x:CO) (lo hi:Option CO):opD (.strSlice x lo hi) s M=rdV M (ssO (evD s x) (evDO s lo) (evDO s hi)):=by
  show(evD s x).bind _=_;cases evD s x with
  |none=>rfl
  |some v=>show(evDO s lo).bind _=_;cases evDO s lo with
   |none=>rfl
   |some lo=>show(evDO s hi).bind _=_;cases evDO s hi<;>first|rfl|exact zcr _ _
@[simp] theorem opD_s2b (x:CO):opD (.s2b x) s M=rdV M (f1 s2bD (evD s x)):=by
  show(evD s x).bind _=_;cases evD s x with
  |none=>rfl
  |some v=>cases v<;>rfl
@[simp] theorem opD_b2s (x:CO):opD (.b2s x) s M=rdV M (f1 (b2sD M) (evD s x)):=by
  show(evD s x).bind _=_;cases evD s x<;>first|rfl|exact zcr _ _
@[simp] theorem opD_box (x:CO):opD (.box x) s M=bxO M (evD s x):=by
  show(evD s x).map _=_;cases evD s x<;>rfl
@[simp] theorem opD_alloc (z:List Value):opD (.alloc z) s M=alO M (dOfL z):=by
  show(dOfL z).map _=_;cases dOfL z<;>rfl
@[simp] theorem opD_makeMap:opD .makeMap s M=some (.map M.next,M.new (.map [])):=id rfl
@[simp] theorem opD_buildSlice (len size:Nat) (z:List Value) (ps:List (Nat×CO)):opD (.buildSlice len size z ps) s M=bsO M len size (dOfL z) (zfa s ps):=by
  show(dOfL z).bind _=_;cases dOfL z with
  |none=>rfl
  |some z=>
   show(if z.length=size∧len<zc then(zfa s ps).bind _ else none)=_;cases zfa s ps with
   |none=>split<;>rfl
   |some l=>
    show _=(if z.length=size∧len<zc then msR M len size (zc2 size (qq len z) l) else none)
    split
    ·show(zc2 _ _ _).map _=_;cases zc2 size (qq len z) l<;>rfl
    ·rfl
@[simp] theorem opD_blt (b:CB) (as:List CO):opD (.blt b as) s M=blO b M (evDL s as):=by
  show(evDL s as).bind _=_;cases evDL s as<;>rfl
@[simp] theorem getS_bits (m n:Nat) (d:DV) (s:DS):getS ((bits m,d)::s) (bits n)=if m=n then some d else getS s (bits n):=by
  rw[zdB];by_cases h:m=n
  ·rw[if_pos h,if_pos (by rw[h])]
  ·rw[if_neg h,if_neg (fun e=>h (zgF e))]
@[simp] theorem evD_t (n:Nat):evD s (.t (bits n))=getS s (bits n):=id rfl
@[simp] theorem evD_int (k:IntKind) (n:Int):evD s (.c (.int k n))=some (.int k n):=id rfl
@[simp] theorem evD_bool (b:Bool):evD s (.c (.bool b))=some (.bool b):=id rfl
@[simp] theorem evD_str (b:ByteArray):evD s (.c (.string b))=some (.str b):=id rfl
@[simp] theorem evD_fc (f:Nat):evD s (.c (.func (.func f) ⟨[]⟩ ⟨[]⟩))=some (.fn f [] []):=id rfl
@[simp] theorem evD_nilS:evD s (.c (.slice none 0 0))=some .nilS:=id rfl
@[simp] theorem evD_nilP:evD s (.c (.pointer none))=some .nilP:=id rfl
@[simp] theorem evD_nilI:evD s (.c .nilIface)=some .nilI:=id rfl
@[simp] theorem dOf_int (k:IntKind) (n:Int):dOf (.int k n)=some (.int k n):=id rfl
@[simp] theorem dOf_bool (b:Bool):dOf (.bool b)=some (.bool b):=id rfl
@[simp] theorem dOf_agg (cs:List Value):dOf (.agg ⟨cs⟩)=(dOfL cs).map .agg:=id rfl
@[simp] theorem dOfL_nil:dOfL []=some []:=id rfl
@[simp] theorem dOfL_cons (v:Value) (r:List Value):dOfL (v::r)=(dOf1 v).bind fun d=>(dOfL r).map (d:: ·):=id rfl
@[simp] theorem dOf1_int (k:IntKind) (n:Int):dOf1 (.int k n)=some (.int k n):=id rfl
@[simp] theorem dOf1_bool (b:Bool):dOf1 (.bool b)=some (.bool b):=id rfl
@[simp] theorem dOf1_str (b:ByteArray):dOf1 (.string b)=some (.str b):=id rfl
@[simp] theorem dOf1_nilS:dOf1 (.slice none 0 0)=some .nilS:=id rfl
@[simp] theorem dOf1_nilM:dOf1 (.map none)=some .nilM:=id rfl
def consO:Option DV→Option (List DV)→Option (List DV)
 |some d,some l=>some (d::l)
 |_,_=>none
@[simp] theorem consO_some (d:DV) (l:List DV):consO (some d) (some l)=some (d::l):=id rfl
@[simp] theorem evDL_nil:evDL s []=some []:=id rfl
@[simp] theorem evDL_cons (x:CO) (r:List CO):evDL s (x::r)=consO (evD s x) (evDL s r):=by
  show(evD s x).bind _=_;cases evD s x<;>cases evDL s r<;>rfl
@[simp] theorem evDO_none:evDO s none=some none:=id rfl
@[simp] theorem evDO_some (x:CO):evDO s (some x)=(evD s x).map some:=id rfl
@[simp] theorem partsD_nil:zhL s []=some []:=id rfl
@[simp] theorem partsD_cons (o n:Nat) (x:CO) (r:List (Nat×Nat×CO)):zhL s ((o,n,x)::r)=(evD s x).bind fun v=>(zhL s r).map ((o,n,v):: ·):=id rfl
@[simp] theorem partsSD_nil:zfa s []=some []:=id rfl
@[simp] theorem partsSD_cons (i:Nat) (x:CO) (r:List (Nat×CO)):zfa s ((i,x)::r)=(evD s x).bind fun v=>(zfa s r).map ((i,v):: ·):=id rfl
@[simp] theorem fillD_nil (z:List DV):ziL z []=some z:=id rfl
def fillR (r:List (Nat×Nat×DV)):Option (List DV)→Option (List DV)
 |some c=>ziL c r
 |none=>none
@[simp] theorem fillR_some (r:List (Nat×Nat×DV)) (c:List DV):fillR r (some c)=ziL c r:=id rfl
@[simp] theorem fillD_cons (z:List DV) (o n:Nat) (v:DV) (r:List (Nat×Nat×DV)):ziL z ((o,n,v)::r)=if(zt v).length=n∧0<n∧(zt v).all zj=true then fillR r (zq z o (zt v)) else none:=by
  show(if _ then(zq z o (zt v)).bind _ else none)=_
  congr 1;cases zq z o (zt v)<;>rfl
@[simp] theorem setRows_nil (n:Nat) (rows:List (List DV)):zc2 n rows []=some rows:=id rfl
@[simp] theorem setRows_cons (n:Nat) (rows:List (List DV)) (i:Nat) (v:DV) (r:List (Nat×DV)):zc2 n rows ((i,v)::r)=if(zt v).length=n∧0<n∧(zt v).all zj=true∧i<rows.length then zc2 n (rows.set i (zt v)) r else none:=id rfl
@[simp] theorem writeD_n (l:List DV) (o:Nat):zq l o []=some l:=zig l o
@[simp] theorem writeD_0 (c:DV) (l:List DV) (v:DV) (vs:List DV):zq (c::l) 0 (v::vs)=(zq l 0 vs).map (v:: ·):=id rfl
@[simp] theorem writeD_s (c:DV) (l:List DV) (n:Nat) (v:DV) (vs:List DV):zq (c::l) (n+1) (v::vs)=(zq l n (v::vs)).map (c:: ·):=id rfl
@[simp] theorem putDD_some (p:List Bool) (v:DV):zW (some p) v s=(p,v)::s:=id rfl
@[simp] theorem putDD_none (v:DV):zW none v s=s:=id rfl
def kpL (p:List Bool) (r:DS):Option DV→DS
 |some d=>(p,d)::r
 |none=>r
@[simp] theorem kpL_some (p:List Bool) (r:DS) (d:DV):kpL p r (some d)=(p,d)::r:=id rfl
@[simp] theorem keepD_nil:zbJ [] s=s:=id rfl
@[simp] theorem keepD_cons (p:List Bool) (L:List (List Bool)):zbJ (p::L) s=zll s (p::L):=id rfl
@[simp] theorem keepL_nil:zll s []=[]:=id rfl
@[simp] theorem keepL_cons (p:List Bool) (L:List (List Bool)):zll s (p::L)=kpL p (zll s L) (getS s p):=by
  show(match getS s p with|some d=>_|none=>_)=_;cases getS s p<;>rfl
def wtB (w:Bool):Option DV→Option Bool
 |some (.bool b)=>some (b==w)
 |some (.tup _)=>some false
 |_=>none
@[simp] theorem wtB_bool (w b:Bool):wtB w (some (.bool b))=some (b==w):=id rfl
@[simp] theorem wtB_tup (w:Bool) (l:List DV):wtB w (some (.tup l))=some false:=id rfl
@[simp] theorem wantD_some (q:List Bool) (w:Bool):wantD (some (q,w)) s=wtB w (getS s q):=by
  show(getS s q).bind _=_;cases getS s q with
  |none=>rfl
  |some d=>cases d<;>rfl
@[simp] theorem argsD_nil (i:Nat):argsD [] i s=s:=id rfl
@[simp] theorem argsD_cons (v:DV) (vs:List DV) (i:Nat):argsD (v::vs) i s=argsD vs (i+1) ((bits i,v)::s):=id rfl
def enO (k:DV→VM→Prop) (M:VM):Option (List DV)→Prop
 |some vs=>k (zjR vs) M
 |none=>False
@[simp] theorem enO_some (k:DV→VM→Prop) (M:VM) (vs:List DV):enO k M (some vs)=k (zjR vs) M:=id rfl
@[simp] theorem endD_eq (rs:List CR) (k:DV→VM→Prop):endD rs k s M=enO k M (resDL s M rs):=by
  unfold endD;cases resDL s M rs<;>rfl
@[simp] theorem resDL_nil:resDL s M []=some []:=id rfl
@[simp] theorem resDL_cons (r:CR) (rs:List CR):resDL s M (r::rs)=consO (resD s M r) (resDL s M rs):=by
  show(resD s M r).bind _=_;cases resD s M r<;>cases resDL s M rs<;>rfl
@[simp] theorem resD_tmp (p:List Bool):resD s M (.tmp p)=getS s p:=id rfl
@[simp] theorem resD_cell1 (p:List Bool):resD s M (.cell none p)=ld1 (rowO M (getS s p)):=by
  show(getS s p).bind _=_;cases getS s p with
  |none=>rfl
  |some v=>show(zcG M v).bind _=ld1 (zcG M v);cases zcG M v<;>rfl
@[simp] theorem resD_cellN (n:Nat) (p:List Bool):resD s M (.cell (some n) p)=ldN n (rowO M (getS s p)):=by
  show(getS s p).bind _=_;cases getS s p with
  |none=>rfl
  |some v=>show(zcG M v).bind _=ldN n (zcG M v);cases zcG M v<;>rfl
@[simp] theorem tupleD_one (v:DV):zjR [v]=v:=id rfl
@[simp] theorem tupleD_nil:zjR []=.tup []:=id rfl
@[simp] theorem tupleD_two (v u:DV) (l:List DV):zjR (v::u::l)=.tup (v::u::l):=id rfl
end
section
variable {M:VM}
@[simp] theorem new_next (o:MO):(M.new o).next=M.next+1:=id rfl
@[simp] theorem put_next (j:Nat) (o:MO):(M.put j o).next=M.next+1:=id rfl
@[simp] theorem del_next (j:Nat):(M.del j).next=M.next:=id rfl
@[simp low] theorem zfb (o:MO) (i:Nat):(M.new o).obj i=if i=M.next then some o else M.obj i:=by
  unfold VM.obj VM.new;dsimp only;by_cases h:i=M.next<;>simp[h]
@[simp low] theorem zbb (o:MO) (j i:Nat):(M.put j o).obj i=if i=j then some o else M.obj i:=by
  unfold VM.obj VM.put;dsimp only;by_cases h:i=j<;>simp[h]
@[simp] theorem obj_new_eq (o:MO):(M.new o).obj M.next=some o:=by rw[zfb,if_pos rfl]
@[simp] theorem obj_new_ne {o:MO} {i:Nat} (h:i≠M.next):(M.new o).obj i=M.obj i:=by rw[zfb,if_neg h]
@[simp] theorem obj_put_eq (o:MO) (j:Nat):(M.put j o).obj j=some o:=by rw[zbb,if_pos rfl]
@[simp] theorem obj_put_ne {o:MO} {j i:Nat} (h:i≠j):(M.put j o).obj i=M.obj i:=by rw[zbb,if_neg h]
@[simp] theorem get_new_lt {o:MO} {i:Nat} (h:i<M.next):(M.new o).get i=M.get i:=by rw[get_new,if_neg (by omega)]
@[simp] theorem get_new_eq {o:MO}:(M.new o).get M.next=some (o,M.next):=by rw[get_new,if_pos rfl]
@[simp] theorem get_put_ne {j:Nat} {o:MO} {i:Nat} (h:i≠j):(M.put j o).get i=M.get i:=by rw[get_put,if_neg h]
@[simp] theorem get_put_eq {j:Nat} {o:MO}:(M.put j o).get j=some (o,M.next):=by rw[get_put,if_pos rfl]
theorem zbl {j:Nat} (o:MO) (h:j<M.next):(M.new o).obj j=M.obj j:=by rw[zfb,if_neg (by omega)]
@[simp] theorem offD_ptr (n j i o:Nat):offD n (.ptr j i o)=some (.ptr j i (o+n)):=id rfl
@[simp] theorem offD_pl (n s i o:Nat) (r:List (List DV)):offD n (.pl s r i o)=some (.pl s r i (o+n)):=id rfl
@[simp] theorem cellsD_agg (l:List DV):zt (.agg l)=l:=id rfl
@[simp] theorem cellsD_int (k:IntKind) (n:Int):zt (.int k n)=[.int k n]:=id rfl
@[simp] theorem cellsD_bool (b:Bool):zt (.bool b)=[.bool b]:=id rfl
@[simp] theorem cellsD_str (b:ByteArray):zt (.str b)=[.str b]:=id rfl
@[simp] theorem cellsD_lst (s:Nat) (r:List (List DV)):zt (.lst s r)=[.lst s r]:=id rfl
@[simp] theorem cellsD_map (j:Nat):zt (.map j)=[.map j]:=id rfl
@[simp] theorem cellsD_fn (g:Nat) (a c:List DV):zt (.fn g a c)=[.fn g a c]:=id rfl
@[simp] theorem isCellD_int (k:IntKind) (n:Int):zj (.int k n)=true:=id rfl
@[simp] theorem isCellD_bool (b:Bool):zj (.bool b)=true:=id rfl
@[simp] theorem isCellD_str (b:ByteArray):zj (.str b)=true:=id rfl
@[simp] theorem isCellD_lst (s:Nat) (r:List (List DV)):zj (.lst s r)=true:=id rfl
@[simp] theorem isCellD_nilS:zj .nilS=true:=id rfl
@[simp] theorem isCellD_map (j:Nat):zj (.map j)=true:=id rfl
@[simp] theorem nilD_ptr (j i o:Nat):nilD (.ptr j i o)=some (.ptr j i o):=id rfl
@[simp] theorem lenD_lst (s:Nat) (r:List (List DV)):lenD M (.lst s r)=some r.length:=id rfl
@[simp] theorem lenD_ms (j lo len cap:Nat):lenD M (.ms j lo len cap)=some len:=id rfl
def lenI (M:VM):Option Nat→RD
 |some n=>some (.int .i64 (n:Int),M)
 |none=>none
@[simp] theorem lenI_some (n:Nat):lenI M (some n)=some (.int .i64 (n:Int),M):=id rfl
@[simp] theorem bltD_len (d:DV):bltD M .len [d]=lenI M (lenD M d):=by show(lenD M d).map _=_;cases lenD M d<;>rfl
def lenE (M:VM):Option (List (DV×DV))→RD
 |some es=>some (.int .i64 (es.length:Int),M)
 |none=>none
@[simp] theorem lenE_some (es:List (DV×DV)):lenE M (some es)=some (.int .i64 (es.length:Int),M):=id rfl
@[simp] theorem bltD_lenMap (d:DV):bltD M .lenMap [d]=lenE M (zbc M d):=by show(zbc M d).map _=_;cases zbc M d<;>rfl
@[simp] theorem bltD_lenStr (s:ByteArray):bltD M .lenStr [.str s]=some (.int .i64 s.size,M):=id rfl
def apN (n b:Nat) (M:VM) (x:DV):Option (List (List DV))→RD
 |some new=>if new.all (fun r=>r.all zj)=true then zcN n b M new x else none
 |none=>none
@[simp] theorem apN_some (n b:Nat) (x:DV) (new:List (List DV)):apN n b M x (some new)=if new.all (fun r=>r.all zj)=true then zcN n b M new x else none:=id rfl
theorem bltD_append (n b:Nat) (s x:DV):bltD M (.append n b) [s,x]=if 0<n∧n<roE then apN n b M s (zbs M n x) else none:=by
 show(if _ then(zbs M n x).bind _ else none)=_
 congr 1;cases zbs M n x<;>rfl
def elO (n lo len:Nat):Option MO→Option (List (List DV))
 |some (.rows _ sz rs)=>if sz=n∧lo+len≤rs.length then some ((rs.drop lo).take len) else none
 |_=>none
@[simp] theorem elO_some (n lo len:Nat) (op:Bool) (sz:Nat) (rs:List (List DV)):elO n lo len (some (.rows op sz rs))=if sz=n∧lo+len≤rs.length then some ((rs.drop lo).take len) else none:=id rfl
@[simp] theorem elemsD_ms (n j lo len cap:Nat):zeJ M n (.ms j lo len cap)=elO n lo len (M.obj j):=by
  show(M.obj j).bind _=_;cases M.obj j with
  |none=>rfl
  |some o=>cases o<;>rfl
@[simp] theorem appendedD_ms (n j lo len cap:Nat):zbs M n (.ms j lo len cap)=elO n lo len (M.obj j):=elemsD_ms n j lo len cap
theorem addrD_lst (s:Nat) (k:IntKind) (z:Int) (rows:List (List DV)):ziT s M (.int k z) (.lst s rows)=if 0≤z∧z.toNat<rows.length then some (.pl s rows z.toNat 0) else none:=by
 cases z with
 |ofNat i=>show(if s=s∧i<rows.length then _ else _)=_;simp
 |negSucc i=>show none=_;rw[if_neg (by omega)]
@[simp] theorem addrD_lstN (s:Nat) (k:IntKind) (i:Nat) (rows:List (List DV)):ziT s M (.int k (i:Int)) (.lst s rows)=if i<rows.length then some (.pl s rows i 0) else none:=by
  rw[addrD_lst];simp
@[simp] theorem addrD_bsN (k:IntKind) (i:Nat) (s:ByteArray):ziT 1 M (.int k (i:Int)) (.bs s)=if i<s.size then some (.pl 1 (zkY s) i 0) else none:=by
  show(if 1=1∧i<s.size then _ else _)=_;by_cases h:i<s.size
  ·rw[if_pos ⟨rfl,h⟩,if_pos h];rfl
  ·rw[if_neg (fun x=>h x.2),if_neg h]
def adO (n:Nat) (z:Int) (j lo len:Nat):Option MO→Option DV
 |some (.rows _ sz _)=>if sz=n∧0≤z∧z.toNat<len then some (.ptr j (lo+z.toNat) 0) else none
 |_=>none
@[simp] theorem adO_some (n:Nat) (z:Int) (j lo len:Nat) (op:Bool) (sz:Nat) (rs:List (List DV)):adO n z j lo len (some (.rows op sz rs))=if sz=n∧0≤z∧z.toNat<len then some (.ptr j (lo+z.toNat) 0) else none:=id rfl
@[simp] theorem addrD_ms (n:Nat) (k:IntKind) (z:Int) (j lo len cap:Nat):ziT n M (.int k z) (.ms j lo len cap)=adO n z j lo len (M.obj j):=by
  show(M.obj j).bind _=_;cases M.obj j with
  |none=>rfl
  |some o=>cases o with
   |rows op sz rs=>
    cases z with
    |ofNat i=>show(if sz=n∧i<len then _ else _)=_;simp
    |negSucc i=>show none=_;rw[adO_some,if_neg (by omega)]
   |_=>cases z<;>rfl
theorem inD_int (y:Nat) (k:IntKind) (z:Int):inD y (.int k z)=if 0≤z∧z≤(y:Int) then some z.toNat else none:=by
 cases z with
 |ofNat i=>show(if i≤y then _ else _)=_;simp
 |negSucc i=>show none=_;rw[if_neg (by omega)]
@[simp] theorem boundD_none (d y:Nat):zm d y none=some d:=id rfl
@[simp] theorem boundD_some (d y:Nat) (k:IntKind) (z:Int):zm d y (some (.int k z))=if 0≤z∧z≤(y:Int) then some z.toNat else none:=inD_int y k z
def slL (s:Nat) (rows:List (List DV)) (lo:Option DV):Option Nat→Option DV
 |some hi=>(zm 0 hi lo).map fun lo=>.lst s ((rows.drop lo).take (hi - lo))
 |none=>none
@[simp] theorem slL_some (s:Nat) (rows:List (List DV)) (lo:Option DV) (hi:Nat):slL s rows lo (some hi)=(zm 0 hi lo).map fun lo=>.lst s ((rows.drop lo).take (hi - lo)):=id rfl
@[simp] theorem sliceD_lst (n s:Nat) (rows:List (List DV)) (lo hi:Option DV):sliceD n M lo hi (.lst s rows)=if s=n∧0<s then slL s rows lo (zm rows.length rows.length hi) else none:=by
  show(if _ then(zm _ _ hi).bind _ else none)=_
  congr 1;cases zm rows.length rows.length hi<;>rfl
def slT (j l:Nat) (lo:Option DV):Option Nat→Option DV
 |some hi=>(zm 0 hi lo).map fun lo=>.ms j (l+lo) (hi - lo) zc
 |none=>none
def slF (j l cap:Nat) (lo:Option DV):Option Nat→Option DV
 |some hi=>(zm 0 hi lo).map fun lo=>.ms j (if cap=lo then l else l+lo) (hi - lo) (cap - lo)
 |none=>none
def slM (n:Nat) (lo hi:Option DV) (j l len cap:Nat):Option MO→Option DV
 |some (.rows true sz rs)=>if sz=n∧cap=zc∧l≤rs.length then slT j l lo (zm len (rs.length - l) hi) else none
 |some (.rows false sz _)=>if sz=n∧cap<zc then slF j l cap lo (zm len cap hi) else none
 |_=>none
@[simp] theorem slM_true (n:Nat) (lo hi:Option DV) (j l len cap sz:Nat) (rs:List (List DV)):slM n lo hi j l len cap (some (.rows true sz rs))=if sz=n∧cap=zc∧l≤rs.length then slT j l lo (zm len (rs.length - l) hi) else none:=id rfl
@[simp] theorem slM_false (n:Nat) (lo hi:Option DV) (j l len cap sz:Nat) (rs:List (List DV)):slM n lo hi j l len cap (some (.rows false sz rs))=if sz=n∧cap<zc then slF j l cap lo (zm len cap hi) else none:=id rfl
@[simp] theorem sliceD_ms (n:Nat) (lo hi:Option DV) (j l len cap:Nat):sliceD n M lo hi (.ms j l len cap)=slM n lo hi j l len cap (M.obj j):=by
  show(M.obj j).bind _=_;cases M.obj j with
  |none=>rfl
  |some o=>
   cases o with
   |rows op sz rs=>
    cases op with
    |true=>
     show(if sz=n∧cap=zc∧l≤rs.length then(zm len (rs.length - l) hi).bind _ else none)=_;rw[slM_true];congr 1;cases zm len (rs.length - l) hi<;>rfl
    |false=>
     show(if sz=n∧cap<zc then(zm len cap hi).bind _ else none)=_;rw[slM_false];congr 1;cases zm len cap hi<;>rfl
   |_=>rfl
def enT:Option MO→Option (List (DV×DV))
 |some (.map es)=>some es
 |_=>none
@[simp] theorem enT_some (es:List (DV×DV)):enT (some (.map es))=some es:=id rfl
@[simp] theorem entriesD_map (j:Nat):zbc M (.map j)=enT (M.obj j):=by
  show(M.obj j).bind _=_;cases M.obj j with
  |none=>rfl
  |some o=>cases o<;>rfl
@[simp] theorem assertD_eq (t u:Nat) (z v:DV):zk8 t z true (.ifc u v)=if u=t then some (.tup [v,.bool true]) else some (.tup [z,.bool false]):=by
  show(match qk u t,true with|true,true=>_|true,false=>_|false,true=>_|false,false=>_)=_;by_cases h:u=t
  ·subst h;rw[if_pos rfl,qe]
  ·rw[if_neg h];cases e:Nat.beq u t with
   |true=>exact absurd (ql e) h
   |false=>rfl
@[simp] theorem assertD_eq' (t u:Nat) (z v:DV):zk8 t z false (.ifc u v)=if u=t then some v else none:=by
  show(match qk u t,false with|true,true=>_|true,false=>_|false,true=>_|false,false=>_)=_;by_cases h:u=t
  ·subst h;rw[if_pos rfl,qe]
  ·rw[if_neg h];cases e:Nat.beq u t with
   |true=>exact absurd (ql e) h
   |false=>rfl
end
abbrev I (n:Int):DV:=.int .i64 n
section
variable {ek:EK} {a b:Int}
theorem zei (a b:Int):eqI a b=decide (a=b):=by rw[zh2];by_cases h:a=b<;>simp[h]
@[simp] theorem bin_lss:binD .lss ek (.int .i64 a) (.int .i64 b)=some (.bool (decide (a<b))):=by show some (DV.bool (ltI a b))=_;rw[zfA]
@[simp] theorem bin_gtr:binD .gtr ek (.int .i64 a) (.int .i64 b)=some (.bool (decide (b<a))):=by show some (DV.bool (ltI b a))=_;rw[zfA]
@[simp] theorem bin_leq:binD .leq ek (.int .i64 a) (.int .i64 b)=some (.bool (decide (a≤b))):=by
  show some (DV.bool (!(ltI b a)))=_;rw[zfA];congr 2;by_cases h:b<a<;>simp[h]<;>omega
@[simp] theorem bin_geq:binD .geq ek (.int .i64 a) (.int .i64 b)=some (.bool (decide (b≤a))):=by
  show some (DV.bool (!(ltI a b)))=_;rw[zfA];congr 2;by_cases h:a<b<;>simp[h]<;>omega
@[simp] theorem bin_eql:binD .eql ek (.int .i64 a) (.int .i64 b)=some (.bool (decide (a=b))):=by show some (DV.bool (eqI a b))=_;rw[zei]
@[simp] theorem bin_neq:binD .neq ek (.int .i64 a) (.int .i64 b)=some (.bool (!decide (a=b))):=by show some (DV.bool (!(eqI a b)))=_;rw[zei]
@[simp] theorem bin_add:binD .add ek (.int .i64 a) (.int .i64 b)=some (.int .i64 (zih .i64 (a+b))):=id rfl
@[simp] theorem bin_sub:binD .sub ek (.int .i64 a) (.int .i64 b)=some (.int .i64 (zih .i64 (a - b))):=id rfl
@[simp] theorem bin_mul:binD .mul ek (.int .i64 a) (.int .i64 b)=some (.int .i64 (zih .i64 (a*b))):=id rfl
@[simp] theorem un_not (b:Bool):unD .not (.bool b)=some (.bool !b):=id rfl
theorem wrapF_in {n:Int} (h1: -9223372036854775808≤n) (h2:n≤9223372036854775807):zih .i64 n=n:=by
 rw[zjo];show(if(true&&decide (n%(2^64:Int)≥(2^63:Int)))=true then n%(2^64:Int) - (2^64:Int) else n%(2^64:Int))=n;simp only[Bool.true_and,decide_eq_true_eq]
 split<;>omega
theorem zI {n:Int} (h1: -9223372036854775808≤n) (h2:n<9223372036854775808):zih .i64 n=n:=wrapF_in h1 (by omega)
end
section
variable {F:FuncId→Option za} {n0:Nat}
@[simp] theorem rD_call (f:DV) (l:List DV) (M:VM) (k kp:DV→VM→Prop):(rD F n0).call f l M k kp=ze F f l M k kp:=id rfl
@[simp] theorem rD_loop (L:List (List Bool)) (b:CC) (K:KD) (s:DS) (M:VM):(rD F n0).loop L b K s M=zcn F n0 L b K s M:=id rfl
@[simp] theorem rD_hand (f:DV) (l:List DV) (p:Option DV) (M:VM) (k:VM→Prop):(rD F n0).hand f l p M k=HandD F f l p M k:=id rfl
end
section
variable {F:FuncId→Option za} {n0:Nat}
theorem ze.fn {g:Nat} {a c args:List DV} {M:VM} {k kp:DV→VM→Prop} {cf:za} (hF:F g=some cf) (hp:cf.prim=none) (hn:(a++args++c).length≤cf.ntmps) (h: @Cd (rD F M.next) (.base (bodyKD (rD F) cf.results k kp cf.dfr)) cf.body (argsD (a++args++c) 0 []) M):ze F (.fn g a c) args M k kp:=
 ze.func hF hp ⟨hn,h⟩
@[simp] theorem bodyKD_none (X:Nat→RnD) (rs:List CR) (k kp:DV→VM→Prop):bodyKD X rs k kp none=fnKD rs k kp:=id rfl
@[simp] theorem fnKD_ret (rs:List CR) (k kp:DV→VM→Prop) (s:DS) (M:VM):(fnKD rs k kp).ret s M=endD rs k s M:=id rfl
@[simp] theorem fnKD_nrm (rs:List CR) (k kp:DV→VM→Prop) (s:DS) (M:VM):(fnKD rs k kp).nrm s M=endD rs k s M:=id rfl
@[simp] theorem fnKD_pan (rs:List CR) (k kp:DV→VM→Prop) (v:DV) (s:DS) (M:VM):(fnKD rs k kp).pan v s M=kp v M:=id rfl
def LoK (F:FuncId→Option za) (n0:Nat) (L:List (List Bool)) (b:CC) (K:KD):KD:=⟨fun s M=>zcn F n0 L b K (zbJ L s) M,K.ext,K.ret,K.pan⟩
@[simp] theorem LoK_nrm (L:List (List Bool)) (b:CC) (K:KD) (s:DS) (M:VM):(LoK F n0 L b K).nrm s M=zcn F n0 L b K (zbJ L s) M:=id rfl
@[simp] theorem LoK_ext (L:List (List Bool)) (b:CC) (K:KD) (i:Nat) (s:DS) (M:VM):(LoK F n0 L b K).ext i s M=K.ext i s M:=id rfl
@[simp] theorem LoK_ret (L:List (List Bool)) (b:CC) (K:KD) (s:DS) (M:VM):(LoK F n0 L b K).ret s M=K.ret s M:=id rfl
@[simp] theorem LoK_pan (L:List (List Bool)) (b:CC) (K:KD) (v:DV) (s:DS) (M:VM):(LoK F n0 L b K).pan v s M=K.pan v s M:=id rfl
theorem zcn.go {L:List (List Bool)} {b b':CC} {K:KD} {s:DS} {M:VM} (hb:b=b') (h: @Cd (rD F n0) (.base (LoK F n0 L b K)) b' (zbJ L s) M):zcn F n0 L b K s M:=zcn.step (hb▸h)
def SM (n:Nat) (M M':VM):Prop:= ∀j,j<n→M'.get j=M.get j
@[simp] theorem zx (n:Nat) (M:VM):SM n M M:=fun _ _=>rfl
@[simp] theorem zy {n:Nat} {M M':VM} {o:MO} (h:SM n M M') (hn:n≤M'.next):SM n M (M'.new o):=fun j hj=>by rw[get_new,if_neg (by omega)];exact h j hj
@[simp] theorem zl {n:Nat} {M M':VM} {i:Nat} {o:MO} (h:SM n M M') (hn:n≤i):SM n M (M'.put i o):=fun j hj=>by rw[get_put,if_neg (by omega)];exact h j hj
@[simp] theorem z6 {n:Nat} {M M':VM} {i:Nat} (h:SM n M M') (hn:n≤i):SM n M (M'.del i):=fun j hj=>by rw[get_del,if_neg (by omega)];exact h j hj
theorem SFrz.refl {M' M2:VM} {s:DS} (h: ∀x∈s,zJ M2.next x.2):SFrz M' M2 s s:=fun p e he=>⟨e,he,.refl e,by
 induction s with
 |nil=>cases he
 |cons x s ih=>
  obtain⟨x1,x2⟩:=x;rw[zdB] at he
  split at he
  ·cases he;exact h _ (qw ..)
  ·exact ih (fun x hx=>h x (qv _ hx)) he⟩
def Back (k:DV→VM→Prop) (M:VM) (d:DV) (M':VM):Prop:=M.Wf→ ∃e,Frz M' M d e∧zJ M.next e∧(∀j,j<M.next→M'.get j=M.get j)∧k e M
theorem ze.back {f:DV} {args:List DV} {M:VM} {k kp:DV→VM→Prop} (h:ze F f args M (Back k M) kp):ze F f args M k kp:=
 ze.wf fun hw=>ze.conv (h.mono (fun d M' q=>let⟨e,h1,h2,h3,h4⟩:=q hw;⟨e,M,.same h3,h1,h2,h4⟩) (fun _ _ q=>q))
theorem Back.plain {k:DV→VM→Prop} {M M':VM} {d:DV} (hb:zJ M.next d) (h:SM M.next M M') (hk:k d M):Back k M d M':=fun _=>⟨d,.refl d,hb,h,hk⟩
end
@[simp] theorem below_int {n:Nat} (k:IntKind) (a:Int):zJ n (.int k a):=.int k a
@[simp] theorem below_bool {n:Nat} (b:Bool):zJ n (.bool b):=.bool b
@[simp] theorem below_str {n:Nat} (b:ByteArray):zJ n (.str b):=.str b
theorem below_iff {n:Nat} {p:DV} {q:Prop} (h1:zJ n p→q) (h2:q→zJ n p):zJ n p=q:=propext ⟨h1,h2⟩
@[simp] theorem below_agg {n:Nat} (l:List DV):zJ n (.agg l)= ∀d∈l,zJ n d:=below_iff (fun h=>by cases h;assumption) .agg
@[simp] theorem below_tup {n:Nat} (l:List DV):zJ n (.tup l)= ∀d∈l,zJ n d:=below_iff (fun h=>by cases h;assumption) .tup
attribute [simp] zi zd8 zg isW isRd isFl refD zcE
section
variable {M M':VM} {s:DS}
@[simp] theorem inP_nil (p:List Bool):inP [] p=false:=id rfl
@[simp] theorem inP_bits (m n:Nat) (r:List (List Bool)):inP (bits m::r) (bits n)=if m=n then true else inP r (bits n):=by
  show(match beqP (bits m) (bits n) with|true=>true|false=>inP r (bits n))=_;by_cases h:m=n
  ·subst h;rw[if_pos rfl,zeM]
  ·rw[if_neg h];cases e:beqP (bits m) (bits n) with
   |true=>exact absurd (zgF (beqP_eq e)) h
   |false=>rfl
def fr1:Bool→Bool→Bool
 |true,_=>false
 |false,b=>b
@[simp] theorem fr1_true (b:Bool):fr1 true b=false:=id rfl
@[simp] theorem fr1_false (b:Bool):fr1 false b=b:=id rfl
@[simp] theorem freeOf_nil (b:List (List Bool)):zdd b []=true:=id rfl
@[simp] theorem freeOf_cons (b:List (List Bool)) (p:List Bool) (r:List (List Bool)):zdd b (p::r)=fr1 (inP b p) (zdd b r):=by
  show(match inP b p with|true=>false|false=>zdd b r)=_;cases inP b p<;>rfl
def nt:Bool→Option (List Bool)→Mo→Mo
 |true,_,x=>x
 |false,q,x=>zcC q x
@[simp] theorem nt_true (q:Option (List Bool)) (x:Mo):nt true q x=x:=id rfl
@[simp] theorem nt_false (q:Option (List Bool)) (x:Mo):nt false q x=zcC q x:=id rfl
@[simp] theorem noteN_eq (ns:List (List Bool)) (q:Option (List Bool)) (i:Nat) (M:VM) (b:List (List Bool)):zhO ns q ⟨i,M,b⟩=nt (zdd b ns) q ⟨i,M,b⟩:=by
  show(match zdd b ns with|true=>_|false=>_)=_;cases zdd b ns<;>rfl
@[simp] theorem addBad_some (q:List Bool) (i:Nat) (M:VM) (b:List (List Bool)):zcC (some q) ⟨i,M,b⟩=⟨i,M,q::b⟩:=id rfl
@[simp] theorem addBad_none (x:Mo):zcC none x=x:=id rfl
def rfO:Option DV→List Nat
 |some d=>refD d
 |none=>[]
@[simp] theorem rfO_some (d:DV):rfO (some d)=refD d:=id rfl
theorem zhH (x:CO):zc3 s x=rfO (evD s x):=by unfold zc3;cases evD s x<;>rfl
@[simp] theorem refs_load1 (a:CO):zce s (.load1 a)=rfO (evD s a):=zhH a
@[simp] theorem refs_loadN (n:Nat) (a:CO):zce s (.loadN n a)=rfO (evD s a):=zhH a
@[simp] theorem refs_lookup (kk:KK) (z:Value) (ok:Bool) (x i:CO):zce s (.lookup kk z ok x i)=rfO (evD s x):=zhH x
@[simp] theorem refs_slice (n:Nat) (x:CO) (lo hi:Option CO):zce s (.slice n x lo hi)=rfO (evD s x):=zhH x
@[simp] theorem refs_b2s (x:CO):zce s (.b2s x)=rfO (evD s x):=zhH x
theorem get_isSome (j:Nat):(M.get j).isSome=(M.obj j).isSome:=by unfold VM.obj;cases M.get j<;>rfl
@[simp] theorem alikeAt_nil:zgs [] M M'=True:=id rfl
@[simp] theorem alikeAt_cons (j:Nat) (r:List Nat):zgs (j::r) M M'=((M.get j=M'.get j∧(M.obj j).isSome=true)∧zgs r M M'):=by rw[←get_isSome];rfl
@[simp] theorem rdAt_eq (rs:List Nat) (ns:List (List Bool)) (i:Nat) (b:List (List Bool)):rdAt rs ns M ⟨i,M',b⟩=(zdd b ns=true∧zgs rs M M'):=id rfl
@[simp] theorem rdOk_nil (op:COp) (rs:List Nat) (ns:List (List Bool)) (s:DS) (d:DV) (lo:Nat):rdOk op rs ns s d M lo []=True:=id rfl
@[simp] theorem rdOk_cons (op:COp) (rs:List Nat) (ns:List (List Bool)) (s:DS) (d:DV) (lo i:Nat) (b:List (List Bool)) (r:List Mo):rdOk op rs ns s d M lo (⟨i,M',b⟩::r)=((if i<lo then True else(rdAt rs ns M ⟨i,M',b⟩∨rdAlt op ns s d ⟨i,M',b⟩))∧rdOk op rs ns s d M lo r):=by
  show((match qn i lo with|true=>True|false=>_)∧_)=_;by_cases h:i<lo
  ·rw[if_pos h,show qn i lo=true from by show qp (i+1) lo=true;rw[qo];exact h]
  ·rw[if_neg h];cases e:Nat.blt i lo with
   |true=>have e:qp (i+1) lo=true:=e;rw[qo] at e;exact absurd e h
   |false=>rfl
@[simp] theorem rdBad_nil (lo:Nat) (q:Option (List Bool)):zji lo q []=[]:=id rfl
@[simp] theorem rdBad_cons (lo:Nat) (q:Option (List Bool)) (i:Nat) (b:List (List Bool)) (r:List Mo):zji lo q (⟨i,M,b⟩::r)=(if i<lo then zcC q ⟨i,M,b⟩ else⟨i,M,b⟩)::zji lo q r:=by
  show(match qn i lo with|true=>_|false=>_)::_=_;by_cases h:i<lo
  ·rw[if_pos h,show qn i lo=true from by show qp (i+1) lo=true;rw[qo];exact h]
  ·rw[if_neg h];cases e:Nat.blt i lo with
   |true=>have e:qp (i+1) lo=true:=e;rw[qo] at e;exact absurd e h
   |false=>rfl
@[simp] theorem nextMo_cons (i:Nat) (b:List (List Bool)) (r:List Mo):zkq (⟨i,M,b⟩::r)=i+1:=id rfl
@[simp] theorem selfIn_one (x:Mo) (d:DV):zj4 [x] d=true:=id rfl
@[simp] theorem selfIn_two (x y:Mo) (r:List Mo) (d:DV):zj4 (x::y::r) d=zck d:=id rfl
@[simp] theorem selfEq_agg (l:List DV):zck (.agg l)=l.all zcE:=id rfl
@[simp] theorem selfEq_int (k:IntKind) (a:Int):zck (.int k a)=true:=id rfl
@[simp] theorem selfEq_bool (b:Bool):zck (.bool b)=true:=id rfl
@[simp] theorem selfEq_str (b:ByteArray):zck (.str b)=true:=id rfl
@[simp] theorem selfEq_lst (n:Nat) (r:List (List DV)):zck (.lst n r)=true:=id rfl
end
end
end
end Go.Ideal
