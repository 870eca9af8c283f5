/- A part of the proof: the ideal machine, and what the functions of the program answer over it. -/
import Derived.RowKit
import Derived.OpenShut
import Derived.WideKeyArgs
import Derived.ChangeSame
import Derived.Test.YtffbioplncclkaaGreatC
set_option linter.unusedSimpArgs false
set_option linter.unusedVariables false
set_option linter.unusedSectionVars false
namespace Go.Ideal
def OutC (w:Wd) (M:VM) (h:H) (k kp:DV→VM→Prop):Out→Prop
 |.val v h1=> ∃w1 M1 d,Hist w M h w1 M1 h1∧HRel w1 M1 h1∧VRel w1 d v∧k d M1
 |.pan v _ h1=> ∃w1 M1 d,Hist w M h w1 M1 h1∧HRel w1 M1 h1∧VRel w1 d v∧kp d M1
 |_=>False
def zj (F:FuncId→Option ze) (f:DV) (args:List DV) (M:VM) (k kp:DV→VM→Prop):Prop:=
 ∀w h fv vs,HRel w M h→VRel w f fv→LRel w args vs→ ∃n o,E F n (.call fv vs h)=some o∧OutC w M h k kp o
def HandD (F:FuncId→Option ze) (f:DV) (args:List DV) (p:Option DV) (M:VM) (k:VM→Prop):Prop:=
 ∀w h fv vs pv,HRel w M h→VRel w f fv→LRel w args vs→ORelO w p pv→ ∃n v h1 w1 M1,E F n (.hand fv vs pv h)=some (.val v h1)∧Hist w M h w1 M1 h1∧HRel w1 M1 h1∧k M1
structure St (n0:Nat) (w0:Wd) (M0:VM) (h0:H) (w:Wd) (M:VM) (h:H):Prop where
 n:M0.next=n0
 r0:HRel w0 M0 h0
 hi:Hist w0 M0 h0 w M h
 r:HRel w M h
theorem St.step {n0:Nat} {w0 w w1:Wd} {M0 M M1:VM} {h0 h h1:H} (s:St n0 w0 M0 h0 w M h) (a:Hist w M h w1 M1 h1) (b:HRel w1 M1 h1):St n0 w0 M0 h0 w1 M1 h1:=⟨s.n,s.r0,s.hi.trans s.r0 a,b⟩
def OutK (n0:Nat) (w0:Wd) (M0:VM) (h0:H) (K:KD):Out→Prop
 |.nrm t h=> ∃w M s,St n0 w0 M0 h0 w M h∧SRel w s t∧K.nrm s M
 |.exit i t h=> ∃w M s,St n0 w0 M0 h0 w M h∧SRel w s t∧K.ext i s M
 |.ret t h=> ∃w M s,St n0 w0 M0 h0 w M h∧SRel w s t∧K.ret s M
 |.pan v t h=> ∃w M s d,St n0 w0 M0 h0 w M h∧SRel w s t∧VRel w d v∧K.pan d s M
 |.val _ _=>False
def CodeD (F:FuncId→Option ze) (n0:Nat) (c:CC) (K:KD) (s:DS) (M:VM):Prop:=
 ∀w0 M0 h0 w h t,St n0 w0 M0 h0 w M h→SRel w s t→ ∃n o,E F n (.code c t h)=some o∧OutK n0 w0 M0 h0 K o
def zcw (F:FuncId→Option ze) (n0:Nat) (L:List (List Bool)) (b:CC) (K:KD) (s:DS) (M:VM):Prop:=CodeD F n0 (.loop L b) K s M
def ScopeD (F:FuncId→Option ze) (n0:Nat) (b:CC) (l1:Nat) (r1:CC) (l2:Nat) (r2:CC) (K:KD) (s:DS) (M:VM):Prop:=CodeD F n0 (.scope b l1 r1 l2 r2) K s M
structure MoOk (s:DS) (t:zf) (w:Wd) (M:VM) (h:H) (x:Mo) (y:Nat×H):Prop where
 idx:x.idx=y.1
 ex: ∃wx,HRel wx x.M y.2∧Hist wx x.M y.2 w M h∧ ∀p,inP x.bad p=false→ ∀d,getS s p=some d→ ∃v,t.get p=some v∧VRel wx d v
def BsOk (s:DS) (t:zf) (w:Wd) (M:VM) (h:H):List Mo→List (Nat×H)→Prop
 | [],[]=>True
 |x::r,y::q=>MoOk s t w M h x y∧BsOk s t w M h r q
 |_,_=>False
def SurvD (F:FuncId→Option ze) (n0:Nat) (l:List CI) (bs:List Mo) (s:DS) (M:VM):Prop:= ∀w0 M0 h0 w h t cs,St n0 w0 M0 h0 w M h→SRel w s t→BsOk s t w M h bs cs→ ∃n r,zE (E F n) l cs t h=some r
def rD (F:FuncId→Option ze) (n0:Nat):RnD:=⟨zj F,HandD F,zcw F n0,ScopeD F n0,SurvD F n0⟩
section
variable {F:FuncId→Option ze} {n0:Nat}
theorem OutK.mono {w0:Wd} {M0:VM} {h0:H} {K K':KD} (h1: ∀s M,K.nrm s M→K'.nrm s M) (h2: ∀i s M,K.ext i s M→K'.ext i s M) (h3: ∀s M,K.ret s M→K'.ret s M) (h4: ∀d s M,K.pan d s M→K'.pan d s M) {o:Out} (h:OutK n0 w0 M0 h0 K o):OutK n0 w0 M0 h0 K' o:=by
 cases o with
 |nrm=>obtain⟨w,M,s,a,b,c⟩:=h;exact⟨w,M,s,a,b,h1 _ _ c⟩
 |exit=>obtain⟨w,M,s,a,b,c⟩:=h;exact⟨w,M,s,a,b,h2 _ _ _ c⟩
 |ret=>obtain⟨w,M,s,a,b,c⟩:=h;exact⟨w,M,s,a,b,h3 _ _ c⟩
 |pan=>obtain⟨w,M,s,d,a,b,e,c⟩:=h;exact⟨w,M,s,d,a,b,e,h4 _ _ _ c⟩
 |val=>exact h
theorem zb3 {α:Type} {r:Option α} {k:α→Prop} (h:ofD r k): ∃a,r=some a∧k a:=by
 cases r with
 |none=>exact h.elim
 |some a=>exact⟨a,rfl,h⟩
theorem okD_of {r:RD} {k:DV→VM→Prop} (h:okD r k): ∃d M,r=some (d,M)∧k d M:=by
 cases r with
 |none=>exact h.elim
 |some a=>exact⟨a.1,a.2,rfl,h⟩
theorem zfi {w:Wd} {s:DS} {t:zf} (hs:SRel w s t) {g:Option (List Bool×Bool)} {b:Bool} (h:wantD g s=some b):z9 g t=some b:=by
 cases g with
 |none=>exact h
 |some x=>
  obtain⟨p,q⟩:=x
  obtain⟨d,hd,h⟩:=aof (show(getS s p).bind _=some b from h)
  obtain⟨v,hv,hr⟩:=hs p d hd
  show(t.get p).bind (wantedV q)=_
  rw[hv,Option.bind_some]
  cases hr<;>first|exact h|cases h
theorem wDo_sound {op:COp} {s:DS} {M:VM} {kp k:DV→VM→Prop} (h:wDo (rD F n0) op s M kp k) {w:Wd} {hp:H} {t:zf} (hr:HRel w M hp) (hs:SRel w s t): ∃n o,zdA (E F n) op t hp=some o∧OutC w M hp k kp o:=by
 have gen:okD (opD op s M) k→(∀ih:IH,zdA ih op t hp=(opV op t hp).map valO)→ ∃n o,zdA (E F n) op t hp=some o∧OutC w M hp k kp o:=fun hk he=>by
  obtain⟨d,M1,h1,h2⟩:=okD_of hk
  obtain⟨v,h',h3,w',h4,h5,h6⟩:=opW_sound hr hs h1
  exact⟨0,.val v h',by rw[he,h3];rfl,w',M1,d,h5,h6,h4,h2⟩
 cases op
 case call f args=>
  obtain⟨fd,hf,h⟩:=zb3 h
  obtain⟨l,hl,h⟩:=zb3 h
  obtain⟨fv,hfv,r1⟩:=zbC hs hf
  obtain⟨vs,hvs,r2⟩:=zfW hs hl
  obtain⟨n,o,ho,hc⟩:=h w hp fv vs hr r1 r2
  refine⟨n,o,?_,hc⟩
  show((f.ev t).bind fun f=>(evL t args).bind fun l=>(E F n (.call f l hp)).bind outOf)=_
  rw[hfv,hvs,Option.bind_some,Option.bind_some,ho]
  cases o<;>first|rfl|exact hc.elim
 case invoke tbl x args=>
  obtain⟨v,hv,h⟩:=zb3 h
  cases v with
  |ifc ty d=>
   obtain⟨f,hf,h⟩:=zb3 h
   obtain⟨l,hl,h⟩:=zb3 h
   obtain⟨v',hv',r1⟩:=zbC hs hv
   obtain⟨vs,hvs,r2⟩:=zfW hs hl
   cases r1 with
   | @ifc _ _ v2 r1=>
     obtain⟨n,o,ho,hc⟩:=h w hp _ _ hr (.fn f (a:=[]) (c:=[]) (a':=[]) (c':=[]) rfl rfl (fun k d v h=>by simp at h) (fun k d v h=>by simp at h)) (.cons r1 r2)
     refine⟨n,o,?_,hc⟩
     show((x.ev t).bind fun v=>(zgv tbl v).bind fun r=>(evL t args).bind fun l=>(E F n (.call (.func (.func r.1) #[] #[]) (r.2::l) hp)).bind outOf)=_
     rw[hv',Option.bind_some]
     show((lookM ty tbl).map (fun f=>(f,v2))).bind _=_
     rw[hf,Option.map_some,Option.bind_some,hvs,Option.bind_some,ho]
     cases o<;>first|rfl|exact hc.elim
  |_=>exact h.elim
 case panic x=>
  obtain⟨v,hv,h⟩:=zb3 h
  cases v with
  |ifc ty d=>
   obtain⟨v',hv',r1⟩:=zbC hs hv
   have r2:=r1
   cases r1 with
   |ifc _ r1=>
    refine⟨0,.pan _ .nil hp,?_,w,M,_,.refl _ _ _,hr,r2,h⟩
    show(x.ev t).bind (panV hp)=_
    rw[hv'];rfl
  |_=>exact h.elim
 all_goals exact gen h fun ih=>rfl
theorem zi5 {o:CI} {s:DS} {M:VM} {kp k:DV→VM→Prop} (h:zhu (rD F n0) o s M kp k) {w:Wd} {hp:H} {t:zf} (hr:HRel w M hp) (hs:SRel w s t): ∃n out,zf9 (E F n) o t hp=some out∧OutC w M hp k kp out:=by
 obtain⟨b,hb,h⟩:=zb3 h
 have hw:=zfi hs hb
 cases b with
 |true=>
  obtain⟨n,out,h1,h2⟩:=wDo_sound h hr hs
  exact⟨n,out,by unfold zf9;rw[hw];exact h1,h2⟩
 |false=>exact⟨0,.val zR hp,by unfold zf9;rw[hw];rfl,w,M,_,.refl _ _ _,hr,.tup_of .nil,h⟩
theorem zkG {kp:DV→DS→VM→Prop} {kk:DS→VM→Prop} {w0:Wd} {M0:VM} {h0:H}: ∀{l:List CI} {s:DS} {M:VM},wOps (rD F n0) kp l s M kk→ ∀{w:Wd} {h:H} {t:zf},St n0 w0 M0 h0 w M h→SRel w s t→ ∃n o,zcK (E F n) l t h=some o∧OutK n0 w0 M0 h0 ⟨kk,fun _ _ _=>False,fun _ _=>False,kp⟩ o
 | [],s,M,hk,w,h,t,hst,hs=>⟨0,.nrm t h,rfl,w,M,s,hst,hs,hk⟩
 |o::l,s,M,hk,w,h,t,hst,hs=>by
  obtain⟨n,out,h1,h2⟩:=zi5 hk hst.r hs
  cases out with
  |val v h1'=>
   obtain⟨w1,M1,d,a1,a2,a3,a4⟩:=h2
   obtain⟨m,o2,b1,b2⟩:=zkG a4 (hst.step a1 a2) ((hs.mono a1.le).put a3 o.dst)
   refine⟨max n m,o2,?_,b2⟩
   rw[zdh,stepOp_le (E_le (Nat.le_max_left n m)) h1]
   exact zjr (E_le (Nat.le_max_right n m)) b1
  |pan v _ h1'=>
   obtain⟨w1,M1,d,a1,a2,a3,a4⟩:=h2
   exact⟨n,.pan v t h1',by rw[zdh,h1];rfl,w1,M1,s,d,hst.step a1 a2,hs.mono a1.le,a3,a4⟩
  |nrm=>exact h2.elim
  |exit=>exact h2.elim
  |ret=>exact h2.elim
theorem inP_cons (q:List Bool) (l:List (List Bool)) (p:List Bool):inP (q::l) p=false↔q≠p∧inP l p=false:=by
 show(match beqP q p with|true=>true|false=>inP l p)=false↔_
 cases h:beqP q p with
 |true=>have:=beqP_eq h;subst this;simp
 |false=>
  have:q≠p:=fun e=>by subst e;rw[zeq] at h;cases h
  simp[this]
theorem MoOk.put {s:DS} {t:zf} {w w1:Wd} {M M1:VM} {h h1:H} {x:Mo} {y:Nat×H} (ho:MoOk s t w M h x y) (hi:Hist w M h w1 M1 h1) (q:Option (List Bool)) {d:DV} {v:Value}:
 MoOk (z6 q d s) (zbk q v t) w1 M1 h1 (zcv q x) y:=by
 obtain⟨hx,wx,a,b,c⟩:=ho
 cases q with
 |none=>exact⟨hx,wx,a,b.trans a hi,c⟩
 |some q=>
  refine⟨hx,wx,a,b.trans a hi,fun p hp e he=> ?_⟩
  obtain⟨h1,h2⟩:=(inP_cons q x.bad p).1 hp
  rw[show z6 (some q) d s=(q,d)::s from rfl,zdm,if_neg h1] at he
  obtain⟨u,hu,hr⟩:=c p h2 e he
  exact⟨u,by show(t.set q v).get p=_;rw[PT.get_set_ne v q p t h1];exact hu,hr⟩
theorem MoOk.putGood {s:DS} {t:zf} {w w1:Wd} {M M1:VM} {h h1:H} {x:Mo} {y:Nat×H} (ho:MoOk s t w M h x y) (hi:Hist w M h w1 M1 h1) (q:Option (List Bool)) {d:DV} {v:Value}
 (hv: ∀wx,HRel wx x.M y.2→Hist wx x.M y.2 w M h→(∀p,inP x.bad p=false→ ∀d,getS s p=some d→ ∃v,t.get p=some v∧VRel wx d v)→VRel wx d v):MoOk (z6 q d s) (zbk q v t) w1 M1 h1 x y:=by
 obtain⟨hx,wx,a,b,c⟩:=ho
 have hv:=hv wx a b c
 cases q with
 |none=>exact⟨hx,wx,a,b.trans a hi,c⟩
 |some q=>
  refine⟨hx,wx,a,b.trans a hi,fun p hp e he=> ?_⟩
  rw[show z6 (some q) d s=(q,d)::s from rfl,zdm] at he
  by_cases h1:q=p
  ·rw[if_pos h1] at he;cases he;subst h1
   exact⟨v,PT.get_set_same v q t,hv⟩
  ·rw[if_neg h1] at he
   obtain⟨u,hu,hr⟩:=c p hp e he
   exact⟨u,by show(t.set q v).get p=_;rw[PT.get_set_ne v q p t h1];exact hu,hr⟩
theorem zeW {bad:List (List Bool)}: ∀{ns:List (List Bool)},zc5 bad ns=true→ ∀p∈ns,inP bad p=false
 | [],_,p,hp=>by cases hp
 |q::ns,h,p,hp=>by
  have h:(match inP bad q with|true=>false|false=>zc5 bad ns)=true:=h
  cases hq:inP bad q with
  |true=>rw[hq] at h;cases h
  |false=>
   rw[hq] at h
   rcases List.mem_cons.1 hp with rfl|hp
   ·exact hq
   ·exact zeW h p hp
theorem BsOk.map {s s1:DS} {t t1:zf} {w w1:Wd} {M M1:VM} {h h1:H} {f:Mo→Mo} (hf: ∀x y,MoOk s t w M h x y→MoOk s1 t1 w1 M1 h1 (f x) y): ∀{bs:List Mo} {cs:List (Nat×H)},BsOk s t w M h bs cs→BsOk s1 t1 w1 M1 h1 (bs.map f) cs
 | [],[],_=>trivial
 |x::r,y::q,hb=>⟨hf x y hb.1,hb.2.map hf⟩
 | [],_::_,hb=>hb.elim
 |_::_,[],hb=>hb.elim
theorem BsOk.next {s:DS} {t:zf} {w:Wd} {M:VM} {h:H}: ∀{bs:List Mo} {cs:List (Nat×H)},BsOk s t w M h bs cs→zjE bs=nextB cs
 | [],[],_=>rfl
 |x::r,y::q,hb=>by show x.idx+1=y.1+1;rw[hb.1.idx]
 | [],_::_,hb=>hb.elim
 |_::_,[],hb=>hb.elim
theorem zfK {M M':VM}: ∀{rs:List Nat},zfL rs M M'→ ∀j∈rs,M.get j=M'.get j∧(M.get j).isSome=true
 | [],_,j,hj=>by cases hj
 |i::r,h,j,hj=>by
  rcases List.mem_cons.1 hj with rfl|hj
  ·exact h.1
  ·exact zfK h.2 j hj
theorem zjt {M M':VM} {d:DV} (h: ∀j∈refD d,M.get j=M'.get j):zcL M' d=zcL M d:=by
 cases d<;>first|rfl| (show(VM.obj _ _).bind _=(VM.obj _ _).bind _;unfold VM.obj;rw[h _ (List.mem_singleton.2 rfl)])
theorem elemsD_congr {M M':VM} {n:Nat} {d:DV} (h: ∀j∈refD d,M.get j=M'.get j):zen M' n d=zen M n d:=by
 cases d<;>first|rfl| (show(VM.obj _ _).bind _=(VM.obj _ _).bind _;unfold VM.obj;rw[h _ (List.mem_singleton.2 rfl)])
theorem zgg {M M':VM} {d:DV} (h: ∀j∈refD d,M.get j=M'.get j):zbw M' d=zbw M d:=by
 cases d<;>first|rfl| (show(VM.obj _ _).bind _=(VM.obj _ _).bind _;unfold VM.obj;rw[h _ (List.mem_singleton.2 rfl)])
theorem sliceD_congr {M M':VM} {n:Nat} {lo hi:Option DV} {d:DV} (h: ∀j∈refD d,M.get j=M'.get j):sliceD n M' lo hi d=sliceD n M lo hi d:=by
 cases d<;>first|rfl| (show(VM.obj _ _).bind _=(VM.obj _ _).bind _;unfold VM.obj;rw[h _ (List.mem_singleton.2 rfl)])
theorem opD_congr {op:COp} (hp:isRd op=true) {s:DS} {M M':VM} {d:DV} {M2:VM} (ha:zfL (zcl s op) M M') (h:opD op s M=some (d,M2)):opD op s M'=some (d,M'):=by
 have hq:=fun j hj=>(zfK ha j hj).1
 clear ha
 cases op
 case load1 a=>
  obtain⟨x,hx,h⟩:=aof h
  obtain⟨r,hr,h⟩:=aof h
  obtain⟨y,hy,e⟩:=amf h;cases e
  show((evD s a).bind fun a=>(zcL M' a).bind fun r=>(oneD r).map (·,M'))=_
  rw[hx,Option.bind_some,zjt (M:=M) (fun j hj=>hq j (by show j∈zcW s a;rw[zb1 hx];exact hj)),hr,Option.bind_some,hy];rfl
 case loadN n a=>
  obtain⟨x,hx,h⟩:=aof h
  obtain⟨r,hr,h⟩:=aof h
  obtain⟨y,hy,e⟩:=amf h;cases e
  show((evD s a).bind fun a=>(zcL M' a).bind fun r=>(zdx n r).map fun l=>(DV.agg l,M'))=_
  rw[hx,Option.bind_some,zjt (M:=M) (fun j hj=>hq j (by show j∈zcW s a;rw[zb1 hx];exact hj)),hr,Option.bind_some,hy];rfl
 case lookup kk z ok x i=>
  obtain⟨m,hm,h⟩:=aof h
  obtain⟨k,hk,h⟩:=aof h
  obtain⟨z',hz,h⟩:=aof h
  obtain⟨b,hb,h⟩:=aof h
  obtain⟨es,hes,h⟩:=aof h
  obtain⟨r,hr1,e⟩:=amf h;cases e
  show((evD s x).bind fun m=>(evD s i).bind fun k=>(dOf z).bind fun z=>(zba kk k k).bind fun _=>(zbw M' m).bind fun es=>(zf6 kk k es).map fun r=>(zcY z ok r,M'))=_
  rw[hm,hk,hz,Option.bind_some,Option.bind_some,Option.bind_some,hb,Option.bind_some,zgg (M:=M) (fun j hj=>hq j (by show j∈zcW s x;rw[zb1 hm];exact hj)),hes,Option.bind_some,hr1];rfl
 case slice size x lo hi=>
  obtain⟨y,hy,h⟩:=aof h
  obtain⟨l,hl,h⟩:=aof h
  obtain⟨u,hu,h⟩:=aof h
  obtain⟨z,hz,e⟩:=amf h;cases e
  show((evD s x).bind fun v=>(evDO s lo).bind fun lo=>(evDO s hi).bind fun hi=>(sliceD size M' lo hi v).map (·,M'))=_
  rw[hy,hl,hu,Option.bind_some,Option.bind_some,Option.bind_some,sliceD_congr (M:=M) (fun j hj=>hq j (by show j∈zcW s x;rw[zb1 hy];exact hj)),hz];rfl
 case slice3 size x lo hi mx=>
  obtain⟨y,hy,h⟩:=aof h
  obtain⟨l,hl,h⟩:=aof h
  obtain⟨u,hu,h⟩:=aof h
  obtain⟨v,hv,h⟩:=aof h
  obtain⟨z,hz,e⟩:=amf h;cases e
  have hc:slice3D size M' l u v y=slice3D size M l u v y:=by
   have hj: ∀j∈refD y,M.get j=M'.get j:=fun j hj=>hq j (by show j∈zcW s x;rw[zb1 hy];exact hj)
   cases y<;>first|rfl| (show(VM.obj _ _).bind _=(VM.obj _ _).bind _;unfold VM.obj;rw[hj _ (List.mem_singleton.2 rfl)])
  show((evD s x).bind fun w=>(evDO s lo).bind fun lo=>(evD s hi).bind fun hi=>(evD s mx).bind fun mx=>(slice3D size M' lo hi mx w).map (·,M'))=_
  rw[hy,hl,hu,hv,Option.bind_some,Option.bind_some,Option.bind_some,Option.bind_some,hc,hz];rfl
 case blt b as=>
  cases b with
  |lenMap=>
   obtain⟨l,hl,h⟩:=aof h
   match as,l,hl,h with
   |_,[],_,h=>cases h
   |_,_::_::_,_,h=>cases h
   | [],[_],hl,_=>cases hl
   |x::y::r,[d0],hl,_=>
    obtain⟨y,hy,h3⟩:=aof hl
    obtain⟨z,hz,h4⟩:=amf h3
    obtain⟨y2,hy2,h5⟩:=aof hz
    obtain⟨z2,hz2,h6⟩:=amf h5
    subst h6;cases h4
   | [x],[d0],hl,h=>
     obtain⟨y,hy,h3⟩:=aof hl
     obtain⟨z,hz,h4⟩:=amf h3
     cases hz;cases h4
     obtain⟨es,hes,e⟩:=amf (show(zbw M d0).map _=_ from h);cases e
     show((evDL s [x]).bind fun l=>bltD M' .lenMap l)=_
     rw[hl,Option.bind_some]
     show(zbw M' d0).map _=_
     rw[zgg (M:=M) (fun j hj=>hq j (by show j∈[x].flatMap (zcW s);simp[zb1 hy,hj])),hes];rfl
  |_=>cases hp
 case b2s x=>
  obtain⟨y,hy,h⟩:=aof h
  obtain⟨z,hz,e⟩:=amf h;cases e
  show((evD s x).bind fun v=>(b2sD M' v).map (·,M'))=_
  have hb:b2sD M' y=b2sD M y:=by unfold b2sD;rw[elemsD_congr (M:=M) (fun j hj=>hq j (by show j∈zcW s x;rw[zb1 hy];exact hj))]
  rw[hy,Option.bind_some,hb,hz];rfl
 all_goals cases hp
theorem zdp {b o:Nat}:zhh ⟨b,o,none⟩ ⟨b,o,none⟩=true:=by unfold zhh;simp
theorem eqI_refl (a:Int):eqI a a=true:=by cases a<;>exact Nat.beq_refl _
theorem zgC {w:Wd} {d:DV} {v:Value} (hs:zcy d=true) (h:VRel w d v):zgf v v=true:=by
 cases h with
 |int k n=>show(decide (k=k)&&eqI n n)=true;rw[eqI_refl];simp
 |bool b=>cases b<;>rfl
 |str s=>exact zdR _
 |nilS=>rfl
 |nilP=>rfl
 |nilM=>rfl
 |nilF=>rfl
 |map=>exact Nat.beq_refl _
 |ptr=>exact zdp
 |ms=>show(zhh _ _&&Nat.beq _ _&&Nat.beq _ _)=true;rw[zdp,Nat.beq_refl,Nat.beq_refl];rfl
 |lst=>show(zhh _ _&&Nat.beq _ _&&Nat.beq _ _)=true;rw[zdp,Nat.beq_refl,Nat.beq_refl];rfl
 | @lst0 s cap base hc hsp=>
   cases base with
   |none=>simp[zgf]
   |some a=>
    obtain⟨b,o,sp⟩:=a
    have:=hsp _ rfl
    simp only at this;subst this
    show(zhh _ _&&Nat.beq _ _&&Nat.beq _ _)=true;rw[zdp,Nat.beq_refl,Nat.beq_refl];rfl
 |pl=>exact zdp
 |_=>cases hs
theorem zfF {w:Wd}: ∀{l:List DV} {vs:List Value},l.all zcy=true→LRel w l vs→zhW vs vs=true
 | [],vs,_,h=>by rw[h.inv_nil];rfl
 |d::l,vs,hs,h=>by
  obtain⟨v,r,rfl,hv,hr⟩:=h.head
  simp only[List.all_cons,Bool.and_eq_true] at hs
  show(zgf v v&&zhW r r)=true
  rw[zgC hs.1 hv,zfF hs.2 hr];rfl
theorem eqVal1_refl {w:Wd} {d:DV} {v:Value} (hs:(match d with|.agg l=>l.all zcy|d=>zcy d)=true) (h:VRel w d v):zjY v v=true:=by
 cases d with
 |agg l=>obtain⟨vs,rfl,hl⟩:=h.inv_agg;exact zfF hs hl
 |_=>
  have e:zjY v v=zgf v v:=by cases h<;>first|rfl|cases hs
  rw[e];exact(fun hs=>zgC (w:=w) hs h) hs
theorem zjX {w:Wd}: ∀{l:List DV} {vs:List Value},(l.all fun d=>match d with|.agg l=>l.all zcy|d=>zcy d)=true→LRel w l vs→zlc vs vs=true
 | [],vs,_,h=>by rw[h.inv_nil];rfl
 |d::l,vs,hs,h=>by
  obtain⟨v,r,rfl,hv,hr⟩:=h.head
  simp only[List.all_cons,Bool.and_eq_true] at hs
  show(zjY v v&&zlc r r)=true
  rw[eqVal1_refl hs.1 hv,zjX hs.2 hr];rfl
theorem selfEq_refl {w:Wd} {d:DV} {v:Value} (hs:zh3 d=true) (h:VRel w d v):eqVal v v=true:=by
 cases d with
 |agg l=>obtain⟨vs,rfl,hl⟩:=h.inv_agg;exact zfF hs hl
 |tup l=>obtain⟨vs,rfl,hl⟩:=h.inv_tup;exact zjX hs hl
 |_=>
  have e:eqVal v v=zgf v v:=by cases h<;>first|rfl|cases hs
  rw[e];exact(fun hs=>zgC (w:=w) hs h) hs
theorem det_eq {w:Wd} {d:DV} {v v':Value} (hd:detD d=true) (h:VRel w d v) (h':VRel w d v'):v=v':=by
 cases h<;>first| (cases hd;done)| (cases h';first|rfl|skip)
 all_goals first
  | (rename_i h1 _ h2;rw[h1] at h2;cases h2;rfl)
  | (rename_i h1 _ _ _ h2 _ _;rw[h1] at h2;cases h2;rfl)
theorem read_at {op:COp} (hp:isRd op=true) {s:DS} {t:zf} {w:Wd} {M M2:VM} {h:H} {x:Mo} {y:Nat×H} {ns:List (List Bool)} {d:DV} (hr:HRel w M h) (hsub: ∀p∈zi op,p∈ns) (hm:MoOk s t w M h x y) (ha:rdAt (zcl s op) ns M x∨rdAlt op ns s d x) (hd:opD op s M=some (d,M2)):
 ∃v,opV op t y.2=some (v,y.2)∧opV op t h=some (v,h)∧ ∀wx,HRel wx x.M y.2→Hist wx x.M y.2 w M h→(∀p,inP x.bad p=false→ ∀d,getS s p=some d→ ∃v,t.get p=some v∧VRel wx d v)→VRel wx d v:=by
 obtain⟨hx,wx,a,b,c⟩:=hm
 have key: ∀wx,HRel wx x.M y.2→Hist wx x.M y.2 w M h→(∀p,inP x.bad p=false→ ∀d,getS s p=some d→ ∃v,t.get p=some v∧VRel wx d v)→ ∃v,VRel wx d v∧opV op t y.2=some (v,y.2)∧opV op t h=some (v,h):=fun wx a b c=>by
  rcases ha with ha| ⟨ha,hdet,hdx⟩
  ·have hdx:=opD_congr hp ha.2 hd
   obtain⟨-,v,hv,hg⟩:=zea hp a (fun p hp e he=>c p (zeW ha.1 p (hsub p hp)) e he) hdx
   refine⟨v,hv,hg y.2 (fun _ _=>rfl),hg h fun bl hb=> ?_⟩
   rcases hb with⟨j,R,hj,hR,rfl⟩|hz
   ·obtain⟨e1,e2⟩:=zfK ha.2 j hj
    obtain⟨z,hz⟩:=Option.isSome_iff_exists.1 e2
    exact b.same j z R (by rw[←e1];exact hz) hz hR
   ·obtain⟨z,hz⟩:=Option.isSome_iff_exists.1 hz
    rw[(hr.zd _ _ (b.le.Z _ _ hz)).2,(a.zd _ _ hz).2]
  ·have hn:ziA wx (zi op) s t:=fun p hp e he=>c p (zeW ha p (hsub p hp)) e he
   obtain⟨-,v,hv,hg⟩:=zea hp a hn hdx
   obtain⟨-,v',hv',hg'⟩:=zea hp hr (fun p hp e he=>let⟨u,h1,h2⟩:=hn p hp e he;⟨u,h1,h2.mono b.le⟩) hd
   obtain rfl:=det_eq hdet (hv.mono b.le) hv'
   exact⟨v,hv,hg y.2 (fun _ _=>rfl),hg' h (fun _ _=>rfl)⟩
 obtain⟨v,hv,h1,h2⟩:=key wx a b c
 refine⟨v,h1,h2,fun wx a b c=> ?_⟩
 obtain⟨v',hv',-,h3⟩:=key wx a b c
 rw[h2] at h3;cases h3;exact hv'
theorem reads_ok {op:COp} (hp:isRd op=true) {s:DS} {t:zf} {w:Wd} {M M2:VM} {h:H} {ns:List (List Bool)} {d:DV} {lo:Nat} {v:Value} (q:Option (List Bool)) (hr:HRel w M h) (hsub: ∀p∈zi op,p∈ns) (hd:opD op s M=some (d,M2)) (hv:opV op t h=some (v,h)):
 ∀{bs:List Mo} {cs:List (Nat×H)},(bs≠[]→eqVal v v=true)→BsOk s t w M h bs cs→rdOk op (zcl s op) ns s d M lo bs→zgp op t lo v cs=true∧BsOk (z6 q d s) (zbk q v t) w M h (zis lo q bs) cs
 | [],[],_,_,_=>⟨rfl,trivial⟩
 | [],_::_,_,hb,_=>hb.elim
 |_::_,[],_,hb,_=>hb.elim
 |x::r,y::c,he,hb,hk=>by
  have he:=he (by simp)
  obtain⟨i1,i2⟩:=reads_ok hp q hr hsub hd hv (bs:=r) (cs:=c) (fun _=>he) hb.2 hk.2
  have hk1:=hk.1
  have hix:=hb.1.idx
  unfold zgp
  show(if Nat.blt y.1 lo then _ else _)=true∧BsOk _ _ _ _ _ ((match Nat.blt x.idx lo with|true=>zcv q x|false=>x)::zis lo q r) _
  rw[←hix]
  cases hl:Nat.blt x.idx lo with
  |true=>exact⟨by rw[if_pos rfl];exact i1,hb.1.put (.refl _ _ _) q,i2⟩
  |false=>
   rw[hl] at hk1
   obtain⟨v',h1,h2,h3⟩:=read_at hp hr hsub hb.1 hk1 hd
   rw[hv] at h2;cases h2
   refine⟨?_,hb.1.putGood (.refl _ _ _) q h3,i2⟩
   rw[if_neg (by decide),h1]
   show(eqVal v v&&_)=true
   rw[he,i1];rfl
theorem freshD_spec {op:COp} {s:DS} {t:zf} {w:Wd} {M M2:VM} {h:H} {x:Mo} {y:Nat×H} {d:DV} (hr:HRel w M h) (hs:SRel w s t) (hm:MoOk s t w M h x y) (hf:freshD op s x.M.next=true) (hd:opD op s M=some (d,M2)):zgA op t y.2.next h.next=true∧ ∃b,d=.str b:=by
 cases op<;>simp only[freshD,Bool.false_eq_true] at hf
 case b2s a=>
  split at hf
  ·rename_i j lo len cap he
   obtain⟨u,hu,hd⟩:=aof (show(evD s a).bind (fun v=>(b2sD M v).map (·,M))=some (d,M2) from hd)
   obtain⟨z,hz,e⟩:=amf hd;cases e
   obtain⟨rows,-,hz⟩:=aof (show(zen M 1 u).bind _=some d from hz)
   obtain⟨bl,-,rfl⟩:=amf hz
   refine⟨?_,_,rfl⟩
   obtain⟨v,hv,r1⟩:=zbC hs he
   cases r1 with
   | @ms _ _ _ _ R h1 _ _=>
     obtain⟨-,wx,a1,a2,-⟩:=hm
     have hge:y.2.next≤R.blk:=by
      rcases a2.own j R h1 with e|e
      ·have:=(a1.dom j R e).1;have:=Nat.le_of_ble_eq_true hf;omega
      ·exact e
     have hlt:=(hr.dom j R h1).2
     show(match a.ev t with|some (.slice (some a) _ _)=>Nat.ble y.2.next a.block&&Nat.blt a.block h.next|_=>false)=true
     rw[hv]
     simp[hge,hlt]
  ·cases hf
theorem doOp_of' {ih:IH} {op:COp} {t:zf} {h h1:H} {v:Value} (e1:zdA ih op t h=(opV op t h).map valO) (e2:doOp ih op t h=opV op t h) (hd:zdA ih op t h=some (.val v h1)):doOp ih op t h=some (v,h1):=by
 rw[e1] at hd
 obtain⟨x,hx,e⟩:=amf hd
 cases e
 rw[e2];exact hx
theorem doOp_of {ih:IH} {op:COp} {t:zf} {h h1:H} {v:Value} (hd:zdA ih op t h=some (.val v h1)):doOp ih op t h=some (v,h1):=by
 cases op
 case call f args=>
  obtain⟨fv,hf,hd⟩:=aof hd
  obtain⟨l,hl,hd⟩:=aof hd
  obtain⟨o,ho,hd⟩:=aof hd
  show((f.ev t).bind fun f=>(evL t args).bind fun l=>(ih (.call f l h)).bind zhv)=_
  rw[hf,hl,Option.bind_some,Option.bind_some,ho]
  cases o<;>first| (cases hd;rfl)|cases hd
 case invoke tbl x args=>
  obtain⟨fv,hf,hd⟩:=aof hd
  obtain⟨r,hr,hd⟩:=aof hd
  obtain⟨l,hl,hd⟩:=aof hd
  obtain⟨o,ho,hd⟩:=aof hd
  show((x.ev t).bind fun v=>(zgv tbl v).bind fun r=>(evL t args).bind fun l=>(ih (.call (.func (.func r.1) #[] #[]) (r.2::l) h)).bind zhv)=_
  rw[hf,Option.bind_some,hr,Option.bind_some,hl,Option.bind_some,ho]
  cases o<;>first| (cases hd;rfl)|cases hd
 case panic x=>
  obtain⟨u,hu,hd⟩:=aof hd
  unfold panV at hd
  split at hd<;>cases hd
 all_goals exact doOp_of' rfl rfl hd
theorem zew {kk:DS→VM→Prop} {kp:DV→VM→Prop} {w0:Wd} {M0:VM} {h0:H}: ∀{l:List CI} {bs:List Mo} {s:DS} {M:VM},zc6 (rD F n0) l bs s M kk kp→ ∀{w:Wd} {h:H} {t:zf} {cs:List (Nat×H)},St n0 w0 M0 h0 w M h→SRel w s t→BsOk s t w M h bs cs→
 (∃n t' h' w' M' s',zE (E F n) l cs t h=some (t',h')∧St n0 w0 M0 h0 w' M' h'∧SRel w' s' t'∧kk s' M')∨ ∃n v t' h' w' M' d,zfG (E F n) l cs t h=some (.pan v t' h')∧zE (E F n) l cs t h=none∧St n0 w0 M0 h0 w' M' h'∧VRel w' d v∧kp d M'
 | [],bs,s,M,hk,w,h,t,cs,hst,hs,hb=>.inl ⟨0,t,h,w,M,s,rfl,hst,hs,hk⟩
 |o::l,bs,s,M,hk,w,h,t,cs,hst,hs,hb=>by
  have fin: ∀{n v h1 cs1 w1 M1 d bs1},zS (E F n) o cs t h=some (v,h1,cs1)→Hist w M h w1 M1 h1→HRel w1 M1 h1→VRel w1 d v→BsOk (z6 o.dst d s) (zbk o.dst v t) w1 M1 h1 bs1 cs1→zc6 (rD F n0) l bs1 (z6 o.dst d s) M1 kk kp→
   (∃n t' h' w' M' s',zE (E F n) (o::l) cs t h=some (t',h')∧St n0 w0 M0 h0 w' M' h'∧SRel w' s' t'∧kk s' M')∨ ∃n v t' h' w' M' d,zfG (E F n) (o::l) cs t h=some (.pan v t' h')∧zE (E F n) (o::l) cs t h=none∧St n0 w0 M0 h0 w' M' h'∧VRel w' d v∧kp d M':=fun{n v h1 cs1 w1 M1 d bs1} e1 e2 e3 e4 e5 e6=>by
   rcases zew e6 (hst.step e2 e3) ((hs.mono e2.le).put e4 o.dst) e5 with⟨m,t',h',w',M',s',a1,a2⟩| ⟨m,v2,t',h',w',M',d2,a1,a2,a3⟩
   ·refine .inl ⟨max n m,t',h',w',M',s',?_,a2⟩
    rw[zbf,zdr (E_le (Nat.le_max_left n m)) e1,Option.bind_some]
    exact zda (E_le (Nat.le_max_right n m)) a1
   ·refine .inr ⟨max n m,v2,t',h',w',M',d2,?_,?_,a3⟩
    ·rw[zfY,zdr (E_le (Nat.le_max_left n m)) e1]
     exact(ziR (E_le (Nat.le_max_right n m)) a1).1
    ·rw[zbf,zdr (E_le (Nat.le_max_left n m)) e1,Option.bind_some]
     exact(ziR (E_le (Nat.le_max_right n m)) a1).2
  unfold zc6 at hk
  cases hw:isW o.op with
  |true=>
   rw[hw] at hk
   obtain⟨b,hbb,hk⟩:=zb3 (show ofD (wantD o.guard s) _ from hk)
   have hwt:=zfi hs hbb
   cases b with
   |true=>
    obtain⟨n,out,h1,h2⟩:=wDo_sound hk hst.r hs
    cases out with
    |val v h1'=>
     obtain⟨w1,M1,d,a1,a2,a3,a4⟩:=h2
     refine fin (n:=n) (v:=v) (h1:=h1') (cs1:=(nextB cs,h1')::cs) ?_ a1 a2 a3 ?_ a4
     ·unfold zS
      rw[hwt,Option.bind_some]
      show zcT _ _ _ _ _=_
      unfold zcT
      rw[if_pos hw,doOp_of h1];rfl
     ·refine⟨⟨hb.next,w1,a2,.refl _ _ _,fun p _ e he=>((hs.mono a1.le).put a3 o.dst) p e he⟩,hb.map fun x y hx=>hx.put a1 o.dst⟩
    |pan v t1 h1'=>
     obtain⟨w1,M1,d,a1,a2,a3,a4,a5⟩:=h2
     match bs,cs,hb,a4 with
     | [],_,_,a4=>exact a4.elim
     |_::_,[],hb,_=>exact hb.elim
     |x::r,y::c,hb,a4=>
      obtain⟨m,z,hz⟩:=(show SurvD F n0 (l.filter fun p=>Nat.ble p.lo x.idx) (x::r) s M from a4) w0 M0 h0 w h t (y::c) hst hs hb
      rw[hb.1.idx] at hz
      have q1:=doOpP_le (E_le (Nat.le_max_left n m)) h1
      have q2:zS (E F (max n m)) o (y::c) t h=none:=by
       unfold zS
       rw[hwt,Option.bind_some]
       show zcT _ _ _ _ _=none
       unfold zcT
       rw[if_pos hw,doOp_pan q1];rfl
      refine .inr ⟨max n m,v,t1,h1',w1,M1,d,?_,by rw[zbf,q2];rfl,hst.step a1 a2,a3,a5⟩
      rw[zfY,q2]
      show panAt _ _ _ _ _ _=_
      unfold panAt
      dsimp only
      rw[hwt,Option.bind_some,hw,Bool.and_self]
      dsimp only
      rw[q1,Option.bind_some]
      show(zE (E F (max n m)) _ _ t h).map _=_
      rw[zda (E_le (Nat.le_max_right n m)) hz];rfl
    |nrm=>exact h2.elim
    |exit=>exact h2.elim
    |ret=>exact h2.elim
   |false=>
    refine fin (n:=0) (v:=zR) (h1:=h) (cs1:=(nextB cs,h)::cs) ?_ (.refl _ _ _) hst.r (.tup_of .nil) ?_ hk
    ·unfold zS
     rw[hwt,Option.bind_some]
     show some (zR,h,if isW o.op then _ else _)=_
     rw[if_pos hw]
    ·exact⟨⟨hb.next,w,hst.r,.refl _ _ _,fun p _ e he=>(hs.put (.tup_of .nil) o.dst) p e he⟩,hb.map fun x y hx=>hx.put (.refl _ _ _) o.dst⟩
  |false=>
   rw[hw] at hk
   have gfalse:z9 o.guard t=some false→ ∀n,zS (E F n) o cs t h=some (zR,h,cs):=fun hwt n=>by
    unfold zS
    rw[hwt,Option.bind_some]
    show some (zR,h,if isW o.op then _ else _)=_
    rw[hw,if_neg (by decide)]
   have good: ∀{v:Value} {d:DV},(∀x y,MoOk s t w M h x y→zc5 x.bad (zi o.op)=true→ ∀wx,HRel wx x.M y.2→Hist wx x.M y.2 w M h→(∀p,inP x.bad p=false→ ∀d,getS s p=some d→ ∃v,t.get p=some v∧VRel wx d v)→VRel wx d v)→
    BsOk (z6 o.dst d s) (zbk o.dst v t) w M h (bs.map (zg2 (zi o.op) o.dst)) cs:=fun{v d} hg=>hb.map fun x y hx=>by
    unfold zg2
    cases hf:zc5 x.bad (zi o.op) with
    |true=>exact hx.putGood (.refl _ _ _) o.dst (hg x y hx hf)
    |false=>exact hx.put (.refl _ _ _) o.dst
   cases hrd:isRd o.op with
   |true=>
    rw[hrd] at hk
    obtain⟨b,hbb,hk⟩:=zb3 hk
    have hwt:=zfi hs hbb
    cases b with
    |false=>exact fin (n:=0) (gfalse hwt 0) (.refl _ _ _) hst.r (.tup_of .nil) (good fun _ _ _ _ _ _ _ _=>.tup_of .nil) hk
    |true=>
     match bs,cs,hb,hk with
     | [],_,_,hk=>exact hk.elim
     |_::_,[],hb,_=>exact hb.elim
     |x::r,y::c,hb,hk=>
      have hk:(match freshD o.op s x.M.next with
       |true=>okD (opD o.op s M) fun d _=>zc6 (rD F n0) l (x::r) (z6 o.dst d s) M kk kp
       |false=>okD (opD o.op s M) fun d _=>(rdAt (zcl s o.op) (zi o.op) M x∨rdAlt o.op (zi o.op) s d x)∧rdOk o.op (zcl s o.op) (zi o.op) s d M o.lo r∧zjk (x::r) d=true∧zc6 (rD F n0) l (x::zis o.lo o.dst r) (z6 o.dst d s) M kk kp):=hk
      cases hfr:freshD o.op s x.M.next with
      |true=>
       rw[hfr] at hk
       obtain⟨d,M2,hd,k4⟩:=okD_of hk
       obtain⟨-,v,hv,hg⟩:=zea hrd hst.r (hs.N _) hd
       have h2:=hg h (fun _ _=>rfl)
       obtain⟨f1,g,f2⟩:=freshD_spec hst.r hs hb.1 hfr hd
       refine fin (n:=0) (v:=v) (h1:=h) (cs1:=y::c) ?_ (.refl _ _ _) hst.r hv (bs1:=x::r) ?_ k4
       ·unfold zS
        rw[hwt,Option.bind_some]
        show zcT _ _ _ _ _=_
        unfold zcT
        rw[if_neg (by rw[hw];decide),if_pos hrd]
        unfold zlf
        dsimp only
        rw[if_pos f1,h2];rfl
       ·have:=BsOk.map (f:=id) (bs:=x::r) (s1:=z6 o.dst d s) (t1:=zbk o.dst v t) (w1:=w) (M1:=M) (h1:=h) (fun x y hx=>hx.putGood (.refl _ _ _) o.dst (v:=v) (d:=d) fun wx _ _ _=>by
         subst f2;cases hv;exact .str _) hb
        simpa using this
      |false=>
      rw[hfr] at hk
      obtain⟨d,M2,hd,k1,k2,k3,k4⟩:=okD_of (show okD (opD o.op s M) (fun d _=>(rdAt (zcl s o.op) (zi o.op) M x∨rdAlt o.op (zi o.op) s d x)∧rdOk o.op (zcl s o.op) (zi o.op) s d M o.lo r∧zjk (x::r) d=true∧zc6 (rD F n0) l (x::zis o.lo o.dst r) (z6 o.dst d s) M kk kp) from hk)
      have hsub: ∀p∈zi o.op,p∈zi o.op:=fun p hp=>hp
      obtain⟨v,h1,h2,h3⟩:=read_at hrd hst.r hsub hb.1 k1 hd
      obtain⟨-,v',hv',hg⟩:=zea hrd hst.r (hs.N _) hd
      have:=hg h (fun _ _=>rfl)
      rw[h2] at this;cases this
      have he:r≠[]→eqVal v v=true:=fun hne=>by
       cases r with
       |nil=>exact absurd rfl hne
       |cons=>exact selfEq_refl k3 hv'
      obtain⟨r1,r2⟩:=reads_ok hrd o.dst hst.r hsub hd h2 he hb.2 k2
      refine fin (n:=0) (v:=v) (h1:=h) (cs1:=y::c) ?_ (.refl _ _ _) hst.r hv' (bs1:=x::zis o.lo o.dst r) ⟨hb.1.putGood (.refl _ _ _) o.dst h3,r2⟩ k4
      unfold zS
      rw[hwt,Option.bind_some]
      show zcT _ _ _ _ _=_
      unfold zcT
      rw[if_neg (by rw[hw];decide),if_pos hrd]
      unfold zlf
      dsimp only
      split
      ·rw[h2];rfl
      ·rw[h1,Option.bind_some,if_pos r1]
   |false=>
    rw[hrd] at hk
    have hE: ∀{n v h1},zf9 (E F n) o t h=some (.val v h1)→zS (E F n) o cs t h=some (v,h1,cs):=fun{n v h1} h2=>by
     unfold zS
     obtain⟨b,hb1,h3⟩:=aof h2
     rw[hb1,Option.bind_some]
     cases b with
     |false=>cases h3;show some (zR,h,if isW o.op then _ else _)=_;rw[hw,if_neg (by decide)]
     |true=>
      have h4:=doOp_of h3
      show zcT _ _ _ _ _=_
      unfold zcT
      rw[if_neg (by rw[hw];decide),if_neg (by rw[hrd];decide)]
      have:opV o.op t h=some (v,h1):=by
       cases ho:o.op<;>rw[ho] at h4 hw<;>first|exact h4|cases hw
      rw[this];rfl
    cases hfl:isFl o.op with
    |false=>
     rw[hfl] at hk
     obtain⟨n,out,h1,h2⟩:=zi5 hk hst.r hs
     cases out with
     |val v h1'=>
      obtain⟨w1,M1,d,a1,a2,a3,a4⟩:=h2
      exact fin (hE h1) a1 a2 a3 (hb.map fun x y hx=>hx.put a1 o.dst) a4
     |pan=>obtain⟨_,_,_,_,_,_,h⟩:=h2;exact h.elim
     |nrm=>exact h2.elim
     |exit=>exact h2.elim
     |ret=>exact h2.elim
    |true=>
     rw[hfl] at hk
     obtain⟨b,hbb,hk⟩:=zb3 (show ofD (wantD o.guard s) _ from hk)
     have hwt:=zfi hs hbb
     cases b with
     |false=>exact fin (n:=0) (gfalse hwt 0) (.refl _ _ _) hst.r (.tup_of .nil) (good fun _ _ _ _ _ _ _ _=>.tup_of .nil) hk
     |true=>
      have hop:wDo (rD F n0) o.op s M (fun _ _=>False) (fun v M=>zc6 (rD F n0) l (bs.map (zg2 (zi o.op) o.dst)) (z6 o.dst v s) M kk kp)=okD (opD o.op s M) (fun v M=>zc6 (rD F n0) l (bs.map (zg2 (zi o.op) o.dst)) (z6 o.dst v s) M kk kp):=by
       cases ho:o.op<;>first|rfl| (rw[ho] at hw;cases hw)
      have hk:=hop▸(show wDo (rD F n0) o.op s M (fun _ _=>False) (fun v M=>zc6 (rD F n0) l (bs.map (zg2 (zi o.op) o.dst)) (z6 o.dst v s) M kk kp) from hk)
      obtain⟨d,M1,hd,hk2⟩:=okD_of hk
      obtain⟨e1,v,hv,hg⟩:=zjA hfl hst.r.ty (hs.N _) hd
      subst e1
      refine fin (n:=0) (hE ?_) (.refl _ _ _) hst.r hv (good fun x y hx hf wx a b c=> ?_) hk2
      ·unfold zf9
       rw[hwt,Option.bind_some]
       show zdA _ _ _ _=_
       have:zdA (E F 0) o.op t h=(opV o.op t h).map valO:=by
        cases ho:o.op<;>first|rfl| (rw[ho] at hw;cases hw)
       rw[this,hg h];rfl
      ·obtain⟨-,v',hv',hg'⟩:=zjA hfl (w:=wx) (fun j R op sz rs ho hR=>hst.r.ty j R op sz rs ho (b.le.rho _ _ hR)) (fun p hp e he=>c p (zeW hf p hp) e he) hd
       have:=hg' h
       rw[hg h] at this;cases this;exact hv'
end
end Go.Ideal
namespace Go.Ideal
variable {F:FuncId→Option ze} {n0:Nat}
theorem E_up {n m:Nat} (h:n≤m) {t:Task} {o:Out} (e:E F n t=some o):E F m t=some o:=E_le h t o e
theorem zhN {w:Wd} {s:DS} {t:zf} (h:SRel w s t) (L:List (List Bool)):SRel w (zbL L s) t:=fun p d e=>h p d (zk6 e).1
theorem zjx {w0:Wd} {M0:VM} {h0:H} {K:KD} {s:DS} {M:VM} {pend:Option CC} (hk:pendD K s M pend) {w:Wd} {h:H} {t:zf} (hst:St n0 w0 M0 h0 w M h) (hs:SRel w s t): ∃o,pendK t h pend=some o∧OutK n0 w0 M0 h0 K o:=by
 unfold pendD at hk
 split at hk
 ·exact⟨_,rfl,w,M,s,hst,hs,hk⟩
 ·exact⟨_,rfl,w,M,s,hst,hs,hk⟩
 ·exact⟨_,rfl,w,M,s,hst,hs,hk⟩
 ·exact hk.elim
theorem ziD: ∀(c:CC) {K:KD} {s:DS} {M:VM},wp (rD F n0) c K s M→CodeD F n0 c K s M:=by
 intro c
 induction c with
 |skip=>intro K s M hk w0 M0 h0 w h t hst hs;exact⟨1,.nrm t h,rfl,w,M,s,hst,hs,hk⟩
 |ops l=>
  intro K s M hk w0 M0 h0 w h t hst hs
  obtain⟨n,o,h1,h2⟩:=zkG hk hst hs
  exact⟨n+1,o,h1,OutK.mono (K:=⟨K.nrm,fun _ _ _=>False,fun _ _=>False,K.pan⟩) (K':=K) (fun _ _ q=>q) (fun _ _ _ q=>False.elim q) (fun _ _ q=>False.elim q) (fun _ _ _ q=>q) h2⟩
 |draw l=>
  intro K s M hk w0 M0 h0 w h t hst hs
  rcases zew hk hst hs (cs:=[(0,h)]) ⟨⟨rfl,w,hst.r,.refl _ _ _,fun p _ d e=>hs p d e⟩,trivial⟩ with⟨n,t',h',w',M',s',h1,h2,h3,h4⟩| ⟨n,v,t',h',w',M',d,h1,h2,h3,h4,h5⟩
  ·exact⟨n+1,.nrm t' h',by show(match zE (E F n) l [(0,h)] t h with|some x=>some (nrmOf x)|none=>_)=_;rw[h1];rfl,w',M',s',h2,h3,h4⟩
  ·exact⟨n+1,.pan v t' h',by show(match zE (E F n) l [(0,h)] t h with|some x=>some (nrmOf x)|none=>zfG (E F n) l [(0,h)] t h)=_;rw[h2];exact h1,w',M',[],d,h3,.nil,h4,h5⟩
 |draw2 l x y=>
  intro K s M hk w0 M0 h0 w h t hst hs
  obtain⟨n,t',h',w',M',s',h1,h2,h3,h4⟩:=(zew hk hst hs (cs:=[(0,h)]) ⟨⟨rfl,w,hst.r,.refl _ _ _,fun p _ d e=>hs p d e⟩,trivial⟩).resolve_right fun⟨_,_,_,_,_,_,_,_,_,_,_,h⟩=>h
  suffices hh: ∃h2' w2 M2,zez x.op y.op t' h'=some h2'∧St n0 w0 M0 h0 w2 M2 h2'∧SRel w2 s' t'∧K.nrm s' M2 by
   obtain⟨h2',w2,M2,a,b,c,d⟩:=hh
   exact⟨n+1,.nrm t' h2',by show((zE (E F n) l [(0,h)] t h).bind fun r=>(zez x.op y.op r.1 r.2).map fun h=>Out.nrm r.1 h)=_;rw[h1,Option.bind_some,a];rfl,w2,M2,s',b,c,d⟩
  cases hx:x.op<;>rw[hx] at h4<;>first|exact h4.elim|skip
  cases hy:y.op<;>rw[hy] at h4<;>first|exact h4.elim|skip
  rename_i n1 a b n2 c d
  obtain⟨da,ea,h4⟩:=zb3 h4
  obtain⟨db,eb,h4⟩:=zb3 h4
  obtain⟨dc,ec,h4⟩:=zb3 h4
  obtain⟨dd,ed,h4⟩:=zb3 h4
  obtain⟨va,fa,ra⟩:=zbC h3 ea
  obtain⟨vb,fb,rb⟩:=zbC h3 eb
  obtain⟨vc,fc,rc⟩:=zbC h3 ec
  obtain⟨vd,fd,rd⟩:=zbC h3 ed
  cases da with
  |ptr i u1 v1=>
   cases dc with
   |ptr j u2 v2=>
    obtain⟨hij,h4⟩:=h4
    obtain⟨M2,hs1,h4⟩:=zb3 h4
    obtain⟨M3,hs2,h4⟩:=zb3 h4
    obtain⟨b1,o1,g1,rfl,q1,q2,q3,q4,j1,i1,u1,R1,e1,k1,k2⟩:=zhx h2.r hs1 rb ra
    obtain⟨b2,o2,g2,rfl,p1,p2,p3,p4,j2,i2,u2,R2,e2,l1,l2⟩:=zhx q4 hs2 rd rc
    cases e1;cases e2
    have live: ∀{M M':VM} {n x j i o},zfl n M x (.ptr j i o)=some M'→(M.get j).isSome=true:=fun{M M' n x j i o} hd=>by
     obtain⟨ob,ho,_⟩:=aof (show(M.obj j).bind _=some M' from hd)
     obtain⟨st,hg⟩:=zbX ho
     rw[hg];rfl
    have hne:b1≠b2:=fun e=>by
     have h5:(M2.get i).isSome=true:=by
      obtain⟨ob,ho,h6⟩:=aof (show(M'.obj i).bind _=some M2 from hs1)
      cases ob with
      |rows op sz rs=>
       obtain⟨r,hri,h6⟩:=aof (show(rs[u1]?).bind _=some M2 from h6)
       split at h6
       ·obtain⟨r',hw,rfl⟩:=amf h6
        rw[get_put,if_pos rfl];rfl
       ·cases h6
      |_=>cases h6
     exact hij (q4.inj i j R1 R2 k1 l1 h5 (live hs2) (by rw[k2,l2,e]))
    refine⟨g2,w',M3,?_,(h2.step q3 q4).step p3 p4,h3,h4⟩
    show(a.ev t').bind _=_
    rw[fa,Option.bind_some,fb,Option.bind_some,fc,Option.bind_some,fd,Option.bind_some]
    unfold store2
    show(if Nat.beq b1 b2 then _ else _)=_
    rw[if_neg (fun e=>hne (Nat.eq_of_beq_eq_true e)),if_pos (by rw[q1,p1];rfl),q2,Option.bind_some,p2]
   |_=>exact h4.elim
  |_=>exact h4.elim
 |seq a L b iha ihb=>
  intro K s M hk w0 M0 h0 w h t hst hs
  obtain⟨n,o,h1,h2⟩:=iha hk w0 M0 h0 w h t hst hs
  have step: ∀{m o'},(∀k,max n m≤k→(E F k (.code a t h)).bind (thenK (E F k) L b)=some o')→OutK n0 w0 M0 h0 K o'→ ∃n o,E F n (.code (.seq a L b) t h)=some o∧OutK n0 w0 M0 h0 K o:=fun{m o'} e q=>⟨max n m+1,o',e _ (Nat.le_refl _),q⟩
  cases o with
  |nrm t1 h1'=>
   obtain⟨w1,M1,s1,a1,a2,a3⟩:=h2
   obtain⟨m,o2,b1,b2⟩:=ihb a3 w0 M0 h0 w1 h1' (keepA L t1) a1 (a2.keep L)
   exact step (m:=m) (fun k hk'=>by rw[E_up (by omega) h1];exact E_up (by omega) b1) b2
  |exit i t1 h1'=>exact step (m:=0) (fun k hk'=>by rw[E_up (by omega) h1];rfl) (show OutK n0 w0 M0 h0 K (.exit i t1 h1') from h2)
  |ret t1 h1'=>exact step (m:=0) (fun k hk'=>by rw[E_up (by omega) h1];rfl) (show OutK n0 w0 M0 h0 K (.ret t1 h1') from h2)
  |pan v t1 h1'=>exact step (m:=0) (fun k hk'=>by rw[E_up (by omega) h1];rfl) (show OutK n0 w0 M0 h0 K (.pan v t1 h1') from h2)
  |val=>exact h2.elim
 |cond c a b iha ihb=>
  intro K s M hk w0 M0 h0 w h t hst hs
  obtain⟨d,hd,hk⟩:=zb3 hk
  obtain⟨v,hv,hr⟩:=zbC hs hd
  unfold wIf at hk
  split at hk
  ·obtain⟨n,o,h1,h2⟩:=iha hk w0 M0 h0 w h t hst hs
   refine⟨n+1,o,?_,h2⟩
   show(c.ev t).bind _=_
   rw[hv,hr.inv_bool];exact h1
  ·obtain⟨n,o,h1,h2⟩:=ihb hk w0 M0 h0 w h t hst hs
   refine⟨n+1,o,?_,h2⟩
   show(c.ev t).bind _=_
   rw[hv,hr.inv_bool];exact h1
  ·exact hk.elim
 |block i b ih=>
  intro K s M hk w0 M0 h0 w h t hst hs
  obtain⟨n,o,h1,h2⟩:=ih hk w0 M0 h0 w h t hst hs
  refine⟨n+1,zkb i o,by show(E F n _).map _=_;rw[h1];rfl,?_⟩
  cases o with
  |exit j t1 h1'=>
   obtain⟨w1,M1,s1,a1,a2,a3⟩:=h2
   have a3:blkD i K j s1 M1:=a3
   unfold blkD at a3
   unfold zkb
   dsimp only
   split at a3
   ·rename_i e;rw[e];exact⟨w1,M1,s1,a1,a2,a3⟩
   ·rename_i e;rw[e];exact⟨w1,M1,s1,a1,a2,a3⟩
  |_=>exact h2
 |loop L b ih=>
  intro K s M hk w0 M0 h0 w h t hst hs
  exact hk w0 M0 h0 w h t hst (zhN hs L)
 |rangeFunc rid L f ps as b _ _=>
  intro K s M hk w0 M0 h0 w h t hst hs
  obtain⟨d,hd,hk⟩:=zb3 hk
  obtain⟨v,hv,hr⟩:=zbC hs hd
  cases d with
  |fn g a c=>
   obtain⟨a',c',rfl,ha,hc⟩:=hr.inv_fn
   have hle:=Wd.add_le (w:=w) (j:=M.next) (R:=⟨h.next,0,false⟩) (hst.r.rho_none (Nat.le_refl _))
   obtain⟨p1,p2⟩:=hst.r.new (o:=.loop .ready none (zbL L s) ⟨rid,L,ps,as,b⟩) (e:=.loop .ready none (keepA L t) ⟨rid,L,ps,as,b⟩) (sz:=0) (op:=false) (.loop ((hs.mono hle).keep L))
   have hy:VRel (w.add M.next ⟨h.next,0,false⟩) (.yld M.next) (.func (.yield h.next) #[] #[]):=.yld (R:=⟨h.next,0,false⟩) zfM
   obtain⟨n,o,h1,h2⟩:=hk _ _ _ _ p1 (hr.mono hle) (.cons hy .nil)
   cases o with
   |val v h1'=>
    obtain⟨w1,M1,d1,a1,a2,a3,a4⟩:=h2
    obtain⟨ob,ho,a4⟩:=zb3 a4
    obtain⟨st,hg⟩:=zbX ho
    have hR:=a1.le.rho _ _ (zfM (w:=w) (j:=M.next) (R:=⟨h.next,0,false⟩))
    obtain⟨hz,e,he,hro⟩:=a2.obj _ _ st _ hg hR
    have hst1:=(hst.step p2 p1).step a1 a2
    have hs1:=(hs.mono hle).mono a1.le
    have fin: ∀{o'},zgX h.next t h1' e=some o'→E F (n+1) (.code (.rangeFunc rid L f ps as b) t h)=some o':=fun{o'} hq=>by
     show((f.ev t).bind fun f=>(isFn f).bind fun f=>(E F n (.call f [.func (.yield h.next) #[] #[]] (h.new (.loop .ready none (keepA L t) ⟨rid,L,ps,as,b⟩)))).bind fun o=>(zhv o).bind fun x=>(x.2.get h.next).bind (zgX h.next t x.2))=_
     rw[hv,Option.bind_some]
     show((E F n _).bind _)=_
     rw[h1,Option.bind_some]
     show((h1'.get h.next).bind _)=_
     rw[he,Option.bind_some,hq]
    cases hro with
    | @loop st1 pend sl sl' rc hsl=>
      have hput:=a2.put hg hR (o:=.loop .exhausted pend sl rc) (e:=.loop .exhausted pend sl' rc) (.loop hsl)
      cases st1 with
      |ready=>
       obtain⟨o',q1,q2⟩:=zjx a4 (hst1.step hput.2 hput.1) hs1
       exact⟨n+1,o',fin q1,q2⟩
      |done=>
       obtain⟨o',q1,q2⟩:=zjx a4 (hst1.step hput.2 hput.1) hs1
       exact⟨n+1,o',fin q1,q2⟩
      |_=>exact a4.elim
    |rows=>exact a4.elim
    |map=>exact a4.elim
   |pan=>obtain⟨_,_,_,_,_,_,q⟩:=h2;exact q.elim
   |nrm=>exact h2.elim
   |exit=>exact h2.elim
   |ret=>exact h2.elim
  |_=>exact hk.elim
 |exit i=>intro K s M hk w0 M0 h0 w h t hst hs;exact⟨1,.exit i t h,rfl,w,M,s,hst,hs,hk⟩
 |ret=>intro K s M hk w0 M0 h0 w h t hst hs;exact⟨1,.ret t h,rfl,w,M,s,hst,hs,hk⟩
 |scope b l1 r1 l2 r2=>intro K s M hk;exact hk
theorem zcw.step {L:List (List Bool)} {b:CC} {K:KD} {s:DS} {M:VM} (h:wp (rD F n0) b ⟨fun s M=>zcw F n0 L b K (zbL L s) M,K.ext,K.ret,K.pan⟩ (zbL L s) M):zcw F n0 L b K s M:=by
 intro w0 M0 h0 w hp t hst hs
 obtain⟨n,o,h1,h2⟩:=ziD b h w0 M0 h0 w hp (keepA L t) hst (hs.keep L)
 cases o with
 |nrm t1 h1'=>
  obtain⟨w1,M1,s1,a1,a2,a3⟩:=h2
  obtain⟨m,o2,b1,b2⟩:=a3 w0 M0 h0 w1 h1' t1 a1 (zhN a2 L)
  exact⟨max n m+1,o2,by show(E F _ (.code b _ hp)).bind _=_;rw[E_up (Nat.le_max_left n m) h1];exact E_up (Nat.le_max_right n m) b1,b2⟩
 |exit i t1 h1'=>exact⟨n+1,.exit i t1 h1',by show(E F _ (.code b _ hp)).bind _=_;rw[h1];rfl,(show OutK n0 w0 M0 h0 K (.exit i t1 h1') from h2)⟩
 |ret t1 h1'=>exact⟨n+1,.ret t1 h1',by show(E F _ (.code b _ hp)).bind _=_;rw[h1];rfl,(show OutK n0 w0 M0 h0 K (.ret t1 h1') from h2)⟩
 |pan v t1 h1'=>exact⟨n+1,.pan v t1 h1',by show(E F _ (.code b _ hp)).bind _=_;rw[h1];rfl,(show OutK n0 w0 M0 h0 K (.pan v t1 h1') from h2)⟩
 |val=>exact h2.elim
theorem resD_rel {w:Wd} {M:VM} {h:H} (hr:HRel w M h) {s:DS} {t:zf} (hs:SRel w s t) {r:CR} {d:DV} (hd:resD s M r=some d): ∃v,resV t h r=some v∧VRel w d v:=by
 cases r with
 |tmp p=>exact hs p d hd
 |cell n p=>
  obtain⟨a,ha,hd⟩:=aof (show(getS s p).bind _=some d from hd)
  obtain⟨r,hr1,hd⟩:=aof hd
  obtain⟨v,hv,r1⟩:=hs p a ha
  obtain⟨b,off,cs,e,us,tl,rfl,hg,hb,hsp,hl⟩:=zjs hr hr1 r1
  cases n with
  |some n=>
   obtain⟨y,hy,rfl⟩:=amf (show(zdx n r).map DV.agg=some d from hd)
   obtain⟨hn,rfl⟩:=zfP hy
   refine⟨_,?_,.agg_of (hl.take n)⟩
   show(t.get p).bind _=_
   rw[hv]
   show(h.readN b off n).map _=_
   rw[zeJ hg hsp (by rw[←hl.len];exact hn) hl.clean];rfl
  |none=>
   have hd:oneD r=some d:=hd
   unfold oneD at hd
   split at hd
   ·cases hd
    obtain⟨u,us',rfl,hu,hus⟩:=hl.head
    refine⟨u,?_,hu⟩
    show(t.get p).bind _=_
    rw[hv]
    show(h.readN b off 1).bind oneOf=_
    rw[zeJ hg hsp (by simp) hl.clean];rfl
   ·cases hd
theorem resDL_rel {w:Wd} {M:VM} {h:H} (hr:HRel w M h) {s:DS} {t:zf} (hs:SRel w s t): ∀{rs:List CR} {ds:List DV},resDL s M rs=some ds→ ∃vs,allO (resV t h) rs=some vs∧LRel w ds vs
 | [],ds,h=>by cases h;exact⟨[],rfl,.nil⟩
 |r::rs,ds,hd=>by
  obtain⟨d,h1,hd⟩:=aof hd
  obtain⟨l,h2,rfl⟩:=amf hd
  obtain⟨v,h3,h4⟩:=resD_rel hr hs h1
  obtain⟨vs,h5,h6⟩:=resDL_rel hr hs h2
  exact⟨v::vs,by show(resV t h r).bind _=_;rw[h3];show(allO _ _).map _=_;rw[h5];rfl,.cons h4 h6⟩
theorem tupleD_rel {w:Wd} {ds:List DV} {vs:List Value} (h:LRel w ds vs):VRel w (zi7 ds) (zhw vs):=by
 match ds,vs,h with
 | [],vs,h=>rw[h.inv_nil];exact .tup_of .nil
 | [d],vs,h=>
   obtain⟨v,r,rfl,hv,hr⟩:=h.head
   rw[hr.inv_nil];exact hv
 |d::e::l,vs,h=>
  obtain⟨v,r,rfl,hv,hr⟩:=h.head
  obtain⟨v2,r2,rfl,hv2,hr2⟩:=hr.head
  exact .tup_of h
theorem zem {w w0:Wd} {M M0:VM} {h h0:H} {s:DS} {t:zf} {rs:List CR} {k kp:DV→VM→Prop} (hst:St n0 w0 M0 h0 w M h) (hs:SRel w s t) (hk:endD rs k s M): ∃o,zir rs t h=some o∧OutC w0 M0 h0 k kp o∧(∃v,o=.val v h):=by
 obtain⟨ds,hd,hk⟩:=zb3 hk
 obtain⟨vs,h1,h2⟩:=resDL_rel hst.r hs hd
 exact⟨.val (zhw vs) h,by unfold zir;rw[h1];rfl,⟨w,M,_,hst.hi,hst.r,tupleD_rel h2,hk⟩,_,rfl⟩
theorem zkl {w:Wd}: ∀{ds:List DV} {vs:List Value} {i:Nat} {s:DS} {t:zf},LRel w ds vs→SRel w s t→SRel w (argsD ds i s) (zcu vs i t)
 | [],vs,i,s,t,h,hs=>by rw[h.inv_nil];exact hs
 |d::ds,vs,i,s,t,h,hs=>by
  obtain⟨v,r,rfl,hv,hr⟩:=h.head
  exact zkl (ds:=ds) (vs:=r) hr (hs.set hv (bits i))
theorem handE_sound {f:DV} {l:List DV} {p:Option DV} {rs:List CR} {k kp:DV→VM→Prop} {s:DS} {M:VM} (hk:HandD F f l p M fun M=>endD rs k s M) {w0 w:Wd} {M0:VM} {h0 h:H} {t:zf} {fv:Value} {vs:List Value} {pv:Option Value} (hst:St n0 w0 M0 h0 w M h) (hs:SRel w s t) (hf:VRel w f fv) (hl:LRel w l vs) (hp:ORelO w p pv):
 ∃n o,(E F n (.hand fv vs pv h)).bind (resK1 rs t)=some o∧OutC w0 M0 h0 k kp o:=by
 obtain⟨n,v,h1,w1,M1,e,a1,a2,a3⟩:=hk w h fv vs pv hst.r hf hl hp
 obtain⟨o,h2,h3,-⟩:=zem (kp:=kp) (hst.step a1 a2) (hs.mono a1.le) a3
 exact⟨n,o,by rw[e];exact h2,h3⟩
theorem zj.func {g:Nat} {a c args:List DV} {M:VM} {k kp:DV→VM→Prop} {cf:ze} (hF:F g=some cf) (hp:cf.prim=none) (h:wFunc (rD F) cf (a++args++c) M k kp):zj F (.fn g a c) args M k kp:=by
 intro w hp0 fv vs hr hf hv
 obtain⟨a',c',rfl,ha,hc⟩:=hf.inv_fn
 have hall:=(ha.append hv).append hc
 obtain⟨hlen,hw⟩:=h
 have hst:St M.next w M hp0 w M hp0:=⟨rfl,hr,.refl _ _ _,hr⟩
 obtain⟨n,o,h1,h2⟩:=ziD cf.body hw w M hp0 w hp0 (zcu (a'++vs++c') 0 .nil) hst (zkl hall .nil)
 have fin: ∀{m o'},n≤m→bodyK (E F m) cf.results cf.dfr o=some o'→E F (m+1) (.call (.func (.func g) ⟨a'⟩ ⟨c'⟩) vs hp0)=some o':=fun{m o'} hm e=>by
  show((F g).bind fun cf=>zeH (E F m) cf (a'++vs++c') hp0)=_
  rw[hF,Option.bind_some]
  unfold zeH
  rw[hp]
  show zb0 _ _ _ _=_
  unfold zb0
  rw[if_pos (by rw[Nat.ble_eq,←hall.len];exact hlen),E_up hm h1,Option.bind_some,e]
 cases hd:cf.dfr with
 |none=>
  rw[hd] at h2
  cases o with
  |nrm t1 h1'=>
   obtain⟨w1,M1,s1,a1,a2,a3⟩:=h2
   obtain⟨o',e1,e2,-⟩:=zem (kp:=kp) a1 a2 a3
   exact⟨n+1,o',fin (Nat.le_refl _) (by rw[hd];exact e1),e2⟩
  |ret t1 h1'=>
   obtain⟨w1,M1,s1,a1,a2,a3⟩:=h2
   obtain⟨o',e1,e2,-⟩:=zem (kp:=kp) a1 a2 a3
   exact⟨n+1,o',fin (Nat.le_refl _) (by rw[hd];exact e1),e2⟩
  |pan v t1 h1'=>
   obtain⟨w1,M1,s1,d,a1,a2,a3,a4⟩:=h2
   exact⟨n+1,.pan v .nil h1',fin (Nat.le_refl _) (by rw[hd];rfl),w1,M1,d,a1.hi,a1.r,a3,a4⟩
  |exit=>obtain⟨w1,M1,s1,a1,a2,a3⟩:=h2;exact a3.elim
  |val=>exact h2.elim
 |some df=>
  rw[hd] at h2
  cases o with
  |nrm t1 h1'=>
   obtain⟨w1,M1,s1,a1,a2,a3⟩:=h2
   obtain⟨f,hf1,a3⟩:=zb3 a3
   obtain⟨fv,hf2,hf3⟩:=zbC a2 hf1
   cases f with
   |fn g2 fa fc=>
    obtain⟨l,hl1,a3⟩:=zb3 a3
    obtain⟨lv,hl2,hl3⟩:=zfW a2 hl1
    have hst1:St M1.next w1 M1 h1' w1 M1 h1':=⟨rfl,a1.r,.refl _ _ _,a1.r⟩
    obtain⟨n2,o2,b1,b2⟩:=ziD df.rest a3 w1 M1 h1' w1 h1' (keepA df.L t1) hst1 (a2.keep df.L)
    have hisf:isFn fv=some fv:=by cases hf3;rfl
    have fin2: ∀{m o'},n≤m→n2≤m→doneK (E F m) fv lv cf.results o2=some o'→E F (m+1) (.call (.func (.func g) ⟨a'⟩ ⟨c'⟩) vs hp0)=some o':=fun{m o'} hm hm2 e=>fin hm (by
     rw[hd]
     show((df.f.ev t1).bind fun f=>(isFn f).bind fun f=>(evL t1 df.args).bind fun l=>(E F m (.code df.rest (keepA df.L t1) h1')).bind (doneK (E F m) f l cf.results))=_
     rw[hf2,Option.bind_some,hisf,Option.bind_some,hl2,Option.bind_some,E_up hm2 b1,Option.bind_some,e])
    have done: ∀{t2 h2' p pv} {s2:DS} {M2:VM} {w2:Wd},St M1.next w1 M1 h1' w2 M2 h2'→SRel w2 s2 t2→ORelO w2 p pv→HandD F (.fn g2 fa fc) l p M2 (fun M=>endD cf.results k s2 M)→(∀m,doneK (E F m) fv lv cf.results o2=(E F m (.hand fv lv pv h2')).bind (resK1 cf.results t2))→
     ∃n o,E F n (.call (.func (.func g) ⟨a'⟩ ⟨c'⟩) vs hp0)=some o∧OutC w M hp0 k kp o:=fun{t2 h2' p pv s2 M2 w2} c1 c2 c4 c5 c6=>by
     have c1':St M.next w M hp0 w2 M2 h2':=a1.step c1.hi c1.r
     obtain⟨m,o3,d1,d2⟩:=handE_sound (kp:=kp) c5 c1' c2 (hf3.mono c1.hi.le) (hl3.mono c1.hi.le) c4
     obtain⟨x,hx,hy⟩:=aof d1
     refine⟨max (max n n2) m+1,o3,fin2 (by omega) (by omega) ?_,d2⟩
     rw[c6,E_up (by omega) hx,Option.bind_some,hy]
    cases o2 with
    |nrm t2 h2'=>
     obtain⟨w2,M2,s2,c1,c2,c3⟩:=b2
     exact done (p:=none) (pv:=none) c1 c2 trivial c3 fun m=>rfl
    |ret t2 h2'=>
     obtain⟨w2,M2,s2,c1,c2,c3⟩:=b2
     exact done (p:=none) (pv:=none) c1 c2 trivial c3 fun m=>rfl
    |pan v t2 h2'=>
     obtain⟨w2,M2,s2,d2,c1,c2,c3,c4⟩:=b2
     exact done (p:=some d2) (pv:=some v) c1 c2 c3 c4 fun m=>rfl
    |exit=>obtain⟨_,_,_,_,_,q⟩:=b2;exact q.elim
    |val=>exact b2.elim
   |_=>exact a3.elim
  |pan v t1 h1'=>
   obtain⟨w1,M1,s1,d,a1,a2,a3,a4⟩:=h2
   exact⟨n+1,.pan v .nil h1',fin (Nat.le_refl _) (by rw[hd];rfl),w1,M1,d,a1.hi,a1.r,a3,a4⟩
  |ret=>obtain⟨w1,M1,s1,a1,a2,a3⟩:=h2;exact a3.elim
  |exit=>obtain⟨w1,M1,s1,a1,a2,a3⟩:=h2;exact a3.elim
  |val=>exact h2.elim
theorem HandD.func {g:Nat} {a c args:List DV} {p:Option DV} {M:VM} {k:VM→Prop} {cf:ze} (hF:F g=some cf) (hp:cf.prim=none) (h:wHand (rD F M.next) cf (a++args++c) p M k):HandD F (.fn g a c) args p M k:=by
 intro w hp0 fv vs pv hr hf hv hpv
 obtain⟨a',c',rfl,ha,hc⟩:=hf.inv_fn
 have hall:=(ha.append hv).append hc
 obtain⟨hlen,hw⟩:=h
 have hst:St M.next w M hp0 w M hp0:=⟨rfl,hr,.refl _ _ _,hr⟩
 have hs:=zkl (i:=0) hall (SRel.nil (w:=w) (t:=.nil))
 have hops: ∀{l:List CI} {p:Option DV} {s:DS} {M1:VM} {k1:Option DV→DS→VM→Prop} {w1:Wd} {h1:H} {t:zf} {pv:Option Value},zhT l p s M1 k1→St M.next w M hp0 w1 M1 h1→SRel w1 s t→ORelO w1 p pv→
  ∃pv2 t2 h2 p2 s2 M2 w2,zbl l pv t h1=some (pv2,t2,h2)∧St M.next w M hp0 w2 M2 h2∧SRel w2 s2 t2∧ORelO w2 p2 pv2∧k1 p2 s2 M2:=by
  intro l
  induction l with
  |nil=>intro p s M1 k1 w1 h1 t pv hk c1 c2 c3;exact⟨pv,t,h1,p,s,M1,w1,rfl,c1,c2,c3,hk⟩
  |cons o l ih=>
   intro p s M1 k1 w1 h1 t pv hk c1 c2 c3
   obtain⟨b,hb,hk⟩:=zb3 hk
   have hwt:=zfi c2 hb
   have e0:zbl (o::l) pv t h1=((z9 o.guard t).bind fun b=>match b with
    |true=>zef o (zbl l) pv t h1
    |false=>zbl l pv (zbk o.dst zR t) h1):=rfl
   rw[e0]
   clear hb e0
   cases b with
   |false=>
    rw[hwt,Option.bind_some]
    exact ih hk c1 (c2.put (.tup_of .nil) o.dst) c3
   |true=>
    rw[hwt,Option.bind_some]
    dsimp only
    have gen:okD (opD o.op s M1) (fun v M=>zhT l p (z6 o.dst v s) M k1)→zef o (zbl l) pv t h1=((opV o.op t h1).bind fun x=>zbl l pv (zbk o.dst x.1 t) x.2)→ ∃pv2 t2 h2 p2 s2 M2 w2,zef o (zbl l) pv t h1=some (pv2,t2,h2)∧St M.next w M hp0 w2 M2 h2∧SRel w2 s2 t2∧ORelO w2 p2 pv2∧k1 p2 s2 M2:=fun hq he=>by
     obtain⟨d,M2,q1,q2⟩:=okD_of hq
     obtain⟨v,h',q3,w',q4,q5,q6⟩:=opW_sound c1.r c2 q1
     rw[he,q3,Option.bind_some]
     refine ih q2 (c1.step q5 q6) ((c2.mono q5.le).put q4 o.dst) ?_
     cases p<;>cases pv<;>first|trivial|exact c3.elim|exact VRel.mono q5.le c3
    cases ho:o.op with
    |recov=>
     rw[ho] at hk
     have e1:zef o (zbl l) pv t h1=zbl l none (zbk o.dst (pv.getD .nilIface) t) h1:=by unfold zef;rw[ho]
     rw[e1]
     refine ih hk c1 (c2.put ?_ o.dst) trivial
     cases p<;>cases pv<;>first|exact .nilI|exact c3.elim|exact c3
    |_=>
     rw[ho] at hk
     refine gen (by rw[ho];exact hk) (by unfold zef;rw[ho])
 cases hd:cf.dfr with
 |some=>rw[hd] at hw;exact hw.elim
 |none=>
  rw[hd] at hw
  cases hb:cf.body with
  |seq a0 L b=>
   rw[hb] at hw
   cases a0 with
   |ops l=>
    obtain⟨pv2,t2,h2,p2,s2,M2,w2,e1,e2,e3,e4,e5⟩:=hops hw hst hs hpv
    cases p2 with
    |some=>exact e5.elim
    |none=>
     cases pv2 with
     |some=>exact e4.elim
     |none=>
      obtain⟨n,o,b1,b2⟩:=ziD b e5 w M hp0 w2 h2 (keepA L t2) e2 (e3.keep L)
      have fin: ∀{v h'},retV cf.results o=some (.val v h')→E F (n+1) (.hand (.func (.func g) ⟨a'⟩ ⟨c'⟩) vs pv hp0)=some (.val v h'):=fun{v h'} e=>by
       show((F g).bind fun cf=>zfm (E F n) cf (a'++vs++c') pv hp0)=_
       rw[hF,Option.bind_some]
       unfold zfm
       rw[hp,hd]
       dsimp only
       rw[if_pos (by rw[Nat.ble_eq,←hall.len];exact hlen),hb]
       show((zbl l pv _ hp0).bind (handEnd (E F n) cf.results L b))=_
       rw[e1,Option.bind_some]
       show(E F n _).bind _=_
       rw[b1,Option.bind_some,e]
      cases o with
      |nrm t1 h1'=>
       obtain⟨w1,M1,s1,a1,a2,a3⟩:=b2
       obtain⟨o',q1,q2,v,rfl⟩:=zem (rs:=cf.results) (k:=fun _ M=>k M) (kp:=fun _ _=>False) a1 a2 a3
       obtain⟨w3,M3,d3,r1,r2,r3,r4⟩:=q2
       exact⟨n+1,v,h1',w3,M3,fin q1,r1,r2,r4⟩
      |ret t1 h1'=>
       obtain⟨w1,M1,s1,a1,a2,a3⟩:=b2
       obtain⟨o',q1,q2,v,rfl⟩:=zem (rs:=cf.results) (k:=fun _ M=>k M) (kp:=fun _ _=>False) a1 a2 a3
       obtain⟨w3,M3,d3,r1,r2,r3,r4⟩:=q2
       exact⟨n+1,v,h1',w3,M3,fin q1,r1,r2,r4⟩
      |pan=>obtain⟨_,_,_,_,_,_,_,q⟩:=b2;exact q.elim
      |exit=>obtain⟨_,_,_,_,_,q⟩:=b2;exact q.elim
      |val=>exact b2.elim
   |_=>exact hw.elim
  |_=>rw[hb] at hw;exact hw.elim
theorem zj.mono {f:DV} {args:List DV} {M:VM} {k k' kp kp':DV→VM→Prop} (h:zj F f args M k kp) (h1: ∀d M,k d M→k' d M) (h2: ∀d M,kp d M→kp' d M):zj F f args M k' kp':=fun w hp fv vs a b c=>by
 obtain⟨n,o,e,q⟩:=h w hp fv vs a b c
 refine⟨n,o,e,?_⟩
 cases o with
 |val=>obtain⟨w1,M1,d,a1,a2,a3,a4⟩:=q;exact⟨w1,M1,d,a1,a2,a3,h1 _ _ a4⟩
 |pan=>obtain⟨w1,M1,d,a1,a2,a3,a4⟩:=q;exact⟨w1,M1,d,a1,a2,a3,h2 _ _ a4⟩
 |_=>exact q
end Go.Ideal
namespace Go.Ideal
inductive zQ (n:Nat):DV→Prop where
 |int (k:IntKind) (a:Int):zQ n (.int k a)
 |bool (b:Bool):zQ n (.bool b)
 |str (s:ByteArray):zQ n (.str s)
 |bs (s:ByteArray):zQ n (.bs s)
 |nilS:zQ n .nilS
 |nilP:zQ n .nilP
 |nilM:zQ n .nilM
 |nilF:zQ n .nilF
 |nilI:zQ n .nilI
 |agg {l:List DV} (h: ∀d∈l,zQ n d):zQ n (.agg l)
 |tup {l:List DV} (h: ∀d∈l,zQ n d):zQ n (.tup l)
 |lst {s:Nat} {rows:List (List DV)} (h: ∀r∈rows,∀d∈r,zQ n d):zQ n (.lst s rows)
 |pl {s i off:Nat} {rows:List (List DV)} (h: ∀r∈rows,∀d∈r,zQ n d):zQ n (.pl s rows i off)
 |fn (g:Nat) {a c:List DV} (h: ∀d∈a,zQ n d) (h': ∀d∈c,zQ n d):zQ n (.fn g a c)
 |ifc (t:Nat) {d:DV} (h:zQ n d):zQ n (.ifc t d)
 |ms {j lo len cap:Nat} (h:j<n):zQ n (.ms j lo len cap)
 |ptr {j i off:Nat} (h:j<n):zQ n (.ptr j i off)
 |map {j:Nat} (h:j<n):zQ n (.map j)
 |yld {j:Nat} (h:j<n):zQ n (.yld j)
inductive Frz (M M2:VM):DV→DV→Prop where
 |refl (d:DV):Frz M M2 d d
 |nilS (s:Nat):Frz M M2 .nilS (.lst s [])
 |agg {l l2:List DV} (hl:l.length=l2.length) (h: ∀(k:Nat) d e,l[k]? =some d→l2[k]? =some e→Frz M M2 d e):Frz M M2 (.agg l) (.agg l2)
 |tup {l l2:List DV} (hl:l.length=l2.length) (h: ∀(k:Nat) d e,l[k]? =some d→l2[k]? =some e→Frz M M2 d e):Frz M M2 (.tup l) (.tup l2)
 |ifc (t:Nat) {d e:DV} (h:Frz M M2 d e):Frz M M2 (.ifc t d) (.ifc t e)
 |ms {j lo len cap sz:Nat} {op:Bool} {rs rows:List (List DV)} (ho:M.obj j=some (.rows op sz rs)) (hn:M2.get j=none) (hb:lo+len≤rs.length) (hs: ∀r∈rows,r.length=sz) (hr:rows.length=len)
   (h: ∀(k:Nat) d e,(((rs.drop lo).take len).flatten)[k]? =some d→rows.flatten[k]? =some e→Frz M M2 d e):Frz M M2 (.ms j lo len cap) (.lst sz rows)
 |ptr {j i off sz:Nat} {op:Bool} {rs rows:List (List DV)} (ho:M.obj j=some (.rows op sz rs)) (hn:M2.get j=none) (hs: ∀r∈rows,r.length=sz) (hr:rows.length=rs.length)
   (h: ∀(k:Nat) d e,rs.flatten[k]? =some d→rows.flatten[k]? =some e→Frz M M2 d e):Frz M M2 (.ptr j i off) (.pl sz rows i off)
inductive FrzO (M M2:VM):MO→MO→Prop where
 |refl (o:MO):FrzO M M2 o o
 |rows {op:Bool} {sz:Nat} {rs rows:List (List DV)} (hs: ∀r∈rows,r.length=sz) (hr:rows.length=rs.length) (h: ∀(k:Nat) d e,rs.flatten[k]? =some d→rows.flatten[k]? =some e→Frz M M2 d e):FrzO M M2 (.rows op sz rs) (.rows op sz rows)
inductive zln (n:Nat):MO→Prop where
 |rows {op:Bool} {sz:Nat} {rs:List (List DV)} (h: ∀r∈rs,∀d∈r,zQ n d):zln n (.rows op sz rs)
 |map {es:List (DV×DV)} (h: ∀e∈es,zQ n e.1∧zQ n e.2):zln n (.map es)
 |loop {st:LoopState} {pend:Option CC} {sl:DS} {rc:RC} (h: ∀x∈sl,zQ n x.2):zln n (.loop st pend sl rc)
structure Conv (M M' M2:VM):Prop where
 nx:M.next≤M2.next
 obj: ∀j,(M2.get j=M.get j∧(j<M.next→M'.get j=M.get j))∨M2.get j=none∨
  ∃o st o',M2.get j=some (o,st)∧j<M2.next∧M.next≤st∧st<M2.next∧M'.obj j=some o'∧FrzO M' M2 o' o∧zln M2.next o
section
variable {w:Wd} {M' M2:VM} {h:H}
def FB (w:Wd) (M' M2:VM) (b:Nat):Prop:= ∃j R,w.rho j=some R∧R.blk=b∧(M'.get j).isSome=true∧M2.get j=none
open Classical in
noncomputable def cw (w:Wd) (M' M2:VM) (h:H):Wd:=⟨fun j=>if j<M2.next then w.rho j else none,fun b=>match w.Z b with
 |some z=>some z
 |none=>if FB w M' M2 b then(match h.get b with|some (.cells cs e)=>some (cs,e)|_=>none) else none⟩
theorem zlh {j:Nat} (hj:j<M2.next) {R:RBd} (hR:w.rho j=some R):(cw w M' M2 h).rho j=some R:=by
 show(if j<M2.next then _ else _)=_;rw[if_pos hj];exact hR
theorem zj3 {j:Nat} {R:RBd} (hR:(cw w M' M2 h).rho j=some R):j<M2.next∧w.rho j=some R:=by
 have hR:(if j<M2.next then w.rho j else none)=some R:=hR
 split at hR
 ·exact⟨‹_›,hR⟩
 ·cases hR
theorem cw_Z {b:Nat} {z:List Value×Nat} (hz:w.Z b=some z):(cw w M' M2 h).Z b=some z:=by
 show(match w.Z b with|some z=>some z|none=>_)=_;rw[hz]
theorem cw_FB {b:Nat} {cs:List Value} {e:Nat} (hz:w.Z b=none) (hf:FB w M' M2 b) (hg:h.get b=some (.cells cs e)):(cw w M' M2 h).Z b=some (cs,e):=by
 show(match w.Z b with|some z=>some z|none=>_)=_;rw[hz]
 dsimp only
 rw[if_pos hf,hg]
theorem cw_Z' {b:Nat} {z:List Value×Nat} (hz:(cw w M' M2 h).Z b=some z):w.Z b=some z∨(FB w M' M2 b∧h.get b=some (.cells z.1 z.2)):=by
 have hz:(match w.Z b with|some z=>some z|none=>_)=some z:=hz
 split at hz
 ·rename_i e;cases hz;exact .inl e
 ·split at hz
  ·rename_i hf
   split at hz
   ·rename_i hg;cases hz;exact .inr ⟨hf,hg⟩
   ·cases hz
  ·cases hz
theorem zQ.rel {d:DV} {v:Value} (hv:VRel w d v):zQ M2.next d→VRel (cw w M' M2 h) d v:=by
 induction hv with
 |int k n=>intro _;exact .int k n
 |bool b=>intro _;exact .bool b
 |str s=>intro _;exact .str s
 |bs hz=>intro _;exact .bs (cw_Z hz)
 |nilS=>intro _;exact .nilS
 |nilP=>intro _;exact .nilP
 |nilM=>intro _;exact .nilM
 |nilF=>intro _;exact .nilF
 |nilI=>intro _;exact .nilI
 |agg hl _ ih=>intro hb;cases hb with|agg hb=>exact .agg hl fun k d v a b=>ih k d v a b (hb d (List.mem_of_getElem? a))
 |tup hl _ ih=>intro hb;cases hb with|tup hb=>exact .tup hl fun k d v a b=>ih k d v a b (hb d (List.mem_of_getElem? a))
 |fn g ha hc _ _ ih ih'=>intro hb;cases hb with|fn _ h1 h2=>exact .fn g ha hc (fun k d v a b=>ih k d v a b (h1 d (List.mem_of_getElem? a))) (fun k d v a b=>ih' k d v a b (h2 d (List.mem_of_getElem? a)))
 |yld hR=>intro hb;cases hb with|yld hb=>exact .yld (zlh hb hR)
 |ifc t _ ih=>intro hb;cases hb with|ifc _ hb=>exact .ifc t (ih hb)
 |map hR=>intro hb;cases hb with|map hb=>exact .map (zlh hb hR)
 |ptr hR=>intro hb;cases hb with|ptr hb=>exact .ptr (zlh hb hR)
 |ms hR ho hc=>intro hb;cases hb with|ms hb=>exact .ms (zlh hb hR) ho hc
 |lst hz hs hb _ ho hc hn ih=>intro hq;cases hq with|lst hq=>exact .lst (cw_Z hz) hs hb (fun k d v a b=>ih k d v a b (by
   obtain⟨r,hr1,hr2⟩:=List.mem_flatten.1 (List.mem_of_getElem? a);exact hq r hr1 d hr2)) ho hc hn
 |lst0 hc hsp=>intro _;exact .lst0 hc hsp
 |pl hz hs hb _ ih=>intro hq;cases hq with|pl hq=>exact .pl (cw_Z hz) hs hb (fun k d v a b=>ih k d v a b (by
   obtain⟨r,hr1,hr2⟩:=List.mem_flatten.1 (List.mem_of_getElem? a);exact hq r hr1 d hr2))
theorem zeh {l m:List DV} (hl:l.length=m.length) {k:Nat} {e:DV} (he:m[k]? =some e): ∃d,l[k]? =some d:=by
 have:=(List.getElem?_eq_some_iff.1 he).1
 exact⟨l[k]'(by omega),List.getElem?_eq_getElem (by omega)⟩
theorem Frz.rel (hr:HRel w M' h) {d e:DV} (hf:Frz M' M2 d e): ∀{v:Value},VRel w d v→zQ M2.next e→VRel (cw w M' M2 h) e v:=by
 induction hf with
 |refl d=>intro v hv hb;exact zQ.rel hv hb
 |nilS s=>intro v hv hb;cases hv;exact .lst0 (by decide) (fun a e=>by cases e)
 |agg hl _ ih=>
  intro v hv hb
  cases hb with
  |agg hb=>
   obtain⟨vs,rfl,hlr⟩:=hv.inv_agg
   refine .agg (hl.symm.trans hlr.len) fun k e v a b=> ?_
   obtain⟨d,hd⟩:=zeh hl a
   exact ih k d e hd a (hlr.at_ k d v hd b) (hb e (List.mem_of_getElem? a))
 |tup hl _ ih=>
  intro v hv hb
  cases hb with
  |tup hb=>
   obtain⟨vs,rfl,hlr⟩:=hv.inv_tup
   refine .tup (hl.symm.trans hlr.len) fun k e v a b=> ?_
   obtain⟨d,hd⟩:=zeh hl a
   exact ih k d e hd a (hlr.at_ k d v hd b) (hb e (List.mem_of_getElem? a))
 |ifc t _ ih=>
  intro v hv hb
  cases hb with
  |ifc _ hb=>cases hv with|ifc _ hv=>exact .ifc t (ih hv hb)
 | @ms j lo len cap sz op rs rows ho hn hle hs hrl _ ih=>
   intro v hv hb
   cases hb with
   |lst hb=>
    cases hv with
    | @ms _ _ _ _ R hR hO hC=>
      obtain⟨st,hg⟩:=zbX ho
      obtain⟨hz,eo,he,hro⟩:=hr.obj j _ st R hg hR
      cases hro with
      | @rows _ _ _ cs e hrows=>
        have hs0:=hrows.row
        have hfl:=zV hs0
        have hcl:=hrows.rel.len
        have hlen2:((rs.drop lo).take len).flatten.length=rows.flatten.length:=by
         rw[zV (rs:=(rs.drop lo).take len) (fun r hr=>hs0 r (List.mem_of_mem_drop (List.mem_of_mem_take hr))),zV hs,hrl]
         congr 1;simp;omega
        have hmul:lo*sz+len*sz≤rs.length*sz:=by rw[←Nat.add_mul];exact Nat.mul_le_mul_right _ hle
        refine .lst (cs:=cs) (e:=e) (cw_FB hz ⟨j,R,hR,rfl,by rw[hg];rfl,hn⟩ he) hs (by rw[hrl,←hrows.hsz];omega) (fun k e2 v a b=> ?_) (fun hc=> ?_) (fun hc=>by rw[hrl];exact hC hc) hrl.symm
        ·obtain⟨d,hd⟩:=zeh hlen2 a
         have hd2:=hd
         rw[zdn (fun r hr=>hs0 r (List.mem_of_mem_drop hr)),zdo hs0,List.getElem?_take] at hd2
         split at hd2
         ·rw[List.getElem?_drop] at hd2
          refine ih k d e2 hd a (hrows.rel.at_ _ d v hd2 (by rw[hrows.hsz];exact b)) ?_
          obtain⟨r,hr1,hr2⟩:=List.mem_flatten.1 (List.mem_of_getElem? a);exact hb r hr1 e2 hr2
         ·cases hd2
        ·have h1:=hO hc
         have h2:=hrows.hop.trans h1
         subst h2
         have:=hrows.esz
         rw[if_pos rfl] at this
         exact⟨this,hrows.pos rfl⟩
 | @ptr j i off sz op rs rows ho hn hs hrl _ ih=>
   intro v hv hb
   cases hb with
   |pl hb=>
    cases hv with
    | @ptr _ _ _ R hR=>
      obtain⟨st,hg⟩:=zbX ho
      obtain⟨hz,eo,he,hro⟩:=hr.obj j _ st R hg hR
      cases hro with
      | @rows _ _ _ cs e hrows=>
        have hs0:=hrows.row
        have hfl:=zV hs0
        have hcl:=hrows.rel.len
        have hlen2:rs.flatten.length=rows.flatten.length:=by rw[hfl,zV hs,hrl]
        have:=VRel.pl (w:=cw w M' M2 h) (o:=0) (i:=i) (off:=off) (cs:=cs) (e:=e) (cw_FB hz ⟨j,R,hR,rfl,by rw[hg];rfl,hn⟩ he) hs (by rw[hrl];omega) (fun k e2 v a b=>by
         obtain⟨d,hd⟩:=zeh hlen2 a
         refine ih k d e2 hd a (hrows.rel.at_ _ d v hd (by rw[←b];congr 1;omega)) ?_
         obtain⟨r,hr1,hr2⟩:=List.mem_flatten.1 (List.mem_of_getElem? a);exact hb r hr1 e2 hr2)
        rw[Nat.zero_add] at this
        rw[←hrows.hsz];exact this
theorem St.conv {n0:Nat} {w0:Wd} {M M0:VM} {h0 h1:H} {w1:Wd} (hst:St n0 w0 M0 h0 w1 M h1) {hh:H} (hr1:HRel w1 M h1) (hi:Hist w1 M h1 w M' hh) (hr:HRel w M' hh) (hc:Conv M M' M2):St n0 w0 M0 h0 (cw w M' M2 hh) M2 hh:=by
 have hle1:w1.Le (cw w M' M2 hh):=⟨fun j R e=>zlh (Nat.lt_of_lt_of_le (hr1.dom j R e).1 hc.nx) (hi.le.rho _ _ e),fun b z e=>cw_Z (hi.le.Z _ _ e)⟩
 have kept: ∀j o st,M2.get j=some (o,st)→(M.get j=some (o,st)∧M'.get j=some (o,st))∨(j<M2.next∧M.next≤st∧st<M2.next∧ ∃o',M'.obj j=some o'∧FrzO M' M2 o' o∧zln M2.next o):=fun j o st e=>by
  rcases hc.obj j with⟨h1,h2⟩|h1| ⟨o1,st1,o',h1,h2,h3,h4,h5,h6,h7⟩
  ·rw[h1] at e
   exact .inl ⟨e,by rw[h2 (hr1.wf j o st e).1];exact e⟩
  ·rw[h1] at e;cases e
  ·rw[h1] at e;cases e;exact .inr ⟨h2,h3,h4,o',h5,h6,h7⟩
 have live: ∀j x,M2.get j=some x→ ∃y,M'.get j=some y:=fun j x e=>by
  obtain⟨o,st⟩:=x
  rcases kept j o st e with⟨_,h2⟩| ⟨_,_,_,o',h5,_⟩
  ·exact⟨_,h2⟩
  ·obtain⟨st',h6⟩:=zbX h5;exact⟨_,h6⟩
 refine⟨hst.n,hst.r0,hst.hi.trans hst.r0 ⟨hle1,hc.nx,hi.hnx,fun j o st e=> ?_,fun j x R e1 e2 hR=> ?_,fun j R e=>hi.own j R (zj3 e).2,hi.rest⟩,?_⟩
 ·rcases kept j o st e with⟨h1,-⟩| ⟨_,h1,_⟩
  ·exact .inl h1
  ·exact .inr h1
 ·obtain⟨o,st⟩:=x
  rcases kept j o st e2 with⟨_,h2⟩| ⟨_,h1,_⟩
  ·exact hi.same j _ R e1 h2 hR
  ·have:=(hr1.wf j o st e1).2.1;omega
 ·constructor
  ·intro j o st e
   rcases kept j o st e with⟨h1,h2⟩| ⟨h1,_,h3,o',h5,_⟩
   ·obtain⟨a,b,R,c⟩:=hr1.wf j o st h1
    exact⟨Nat.lt_of_lt_of_le a hc.nx,Nat.lt_of_lt_of_le b hc.nx,R,hle1.rho _ _ c⟩
   ·obtain⟨st',h6⟩:=zbX h5
    obtain⟨_,_,R,c⟩:=hr.wf j _ _ h6
    exact⟨h1,h3,R,zlh h1 c⟩
  ·intro j R e
   obtain⟨a,b⟩:=zj3 e
   exact⟨a,(hr.dom j R b).2⟩
  ·intro b z e
   rcases cw_Z' e with e| ⟨⟨j,R,hR,rfl,_⟩,hg⟩
   ·exact hr.zd b z e
   ·exact⟨(hr.dom j R hR).2,hg⟩
  ·intro j o st R e hR
   obtain⟨hj,hR⟩:=zj3 hR
   obtain⟨y,hy⟩:=live j _ e
   obtain⟨hz,e',he',hro⟩:=hr.obj j y.1 y.2 R hy hR
   refine⟨?_,?_⟩
   ·cases hzz:(cw w M' M2 hh).Z R.blk with
    |none=>rfl
    |some z=>
     rcases cw_Z' hzz with e2| ⟨⟨j',R',hR',eb,hl,hn⟩,hg⟩
     ·rw[hz] at e2;cases e2
     ·have:=hr.inj j' j R' R hR' hR hl (by rw[hy];rfl) eb
      subst this
      rw[hn] at e;cases e
   ·rcases kept j o st e with⟨h1,h2⟩| ⟨_,_,_,o',h5,h6,h7⟩
    ·
     obtain⟨_,_,R1,c⟩:=hr1.wf j o st h1
     have:R1=R:=by have:=hi.le.rho _ _ c;rw[hR] at this;cases this;rfl
     subst this
     obtain⟨_,e0,he0,hro0⟩:=hr1.obj j o st R1 h1 c
     exact⟨e0,by rw[hi.same j _ R1 h1 h2 c];exact he0,hro0.mono hle1⟩
    ·obtain⟨st',h8⟩:=zbX h5
     rw[hy] at h8;cases h8
     refine⟨e',he',?_⟩
     cases h6 with
     |refl=>
      cases hro with
      | @rows op sz rs cs ee hrows=>
        cases h7 with
        |rows h7=>
         refine .rows ⟨hrows.hop,hrows.hsz,hrows.esz,hrows.pos,hrows.row,hrows.rel.len,fun k d v a b=>zQ.rel (hrows.rel.at_ k d v a b) ?_⟩
         obtain⟨r,hr1,hr2⟩:=List.mem_flatten.1 (List.mem_of_getElem? a);exact h7 r hr1 d hr2
      | @map es es' c hm=>
        cases h7 with
        |map h7=>
         refine .map ⟨⟨hm.keys.len,fun k d v a b=>zQ.rel (hm.keys.at_ k d v a b) ?_⟩,⟨hm.vals.len,fun k d v a b=>zQ.rel (hm.vals.at_ k d v a b) ?_⟩⟩
         ·obtain⟨x,hx,rfl⟩:=List.mem_map.1 (List.mem_of_getElem? a);exact(h7 x hx).1
         ·obtain⟨x,hx,rfl⟩:=List.mem_map.1 (List.mem_of_getElem? a);exact(h7 x hx).2
      | @loop lst pend sl sl' rc hsl=>
        cases h7 with
        |loop h7=>
         refine .loop fun p d hd=> ?_
         obtain⟨v,hv,hv2⟩:=hsl p d hd
         refine⟨v,hv,zQ.rel hv2 ?_⟩
         have: ∀{s:DS},getS s p=some d→ ∃x∈s,x.2=d:=by
          intro s
          induction s with
          |nil=>intro q;cases q
          |cons x s ih=>
           intro q
           obtain⟨x1,x2⟩:=x
           rw[zdm] at q
           split at q
           ·cases q;exact⟨_,List.mem_cons_self ..,rfl⟩
           ·obtain⟨y,hy,e⟩:=ih q;exact⟨y,List.mem_cons_of_mem _ hy,e⟩
         obtain⟨x,hx,rfl⟩:=this hd
         exact h7 x hx
     | @rows op sz rs rows hs hrl hfr=>
       cases hro with
       | @rows _ _ _ cs ee hrows=>
         cases h7 with
         |rows h7=>
          have hlen2:rs.flatten.length=rows.flatten.length:=by rw[zV hrows.row,zV hs,hrl]
          refine .rows ⟨hrows.hop,hrows.hsz,hrows.esz,hrows.pos,hs,hlen2.symm.trans hrows.rel.len,fun k d v a b=> ?_⟩
          obtain⟨d0,hd0⟩:=zeh hlen2 a
          refine(hfr k d0 d hd0 a).rel hr (hrows.rel.at_ k d0 v hd0 b) ?_
          obtain⟨r,hr1,hr2⟩:=List.mem_flatten.1 (List.mem_of_getElem? a);exact h7 r hr1 d hr2
  ·intro i j R S hi' hj ai aj eb
   obtain⟨xi,ei⟩:=Option.isSome_iff_exists.1 ai
   obtain⟨xj,ej⟩:=Option.isSome_iff_exists.1 aj
   obtain⟨yi,fi⟩:=live i _ ei
   obtain⟨yj,fj⟩:=live j _ ej
   exact hr.inj i j R S (zj3 hi').2 (zj3 hj).2 (by rw[fi];rfl) (by rw[fj];rfl) eb
end
variable {F:FuncId→Option ze} {n0:Nat}
def SFrz (M' M2:VM) (s s2:DS):Prop:= ∀p e,getS s2 p=some e→ ∃d,getS s p=some d∧Frz M' M2 d e∧zQ M2.next e
theorem SFrz.rel {M' M2:VM} {w:Wd} {h:H} (hr:HRel w M' h) {s s2:DS} {t:zf} (hf:SFrz M' M2 s s2) (hs:SRel w s t):SRel (cw w M' M2 h) s2 t:=fun p e he=>by
 obtain⟨d,hd,h1,h2⟩:=hf p e he
 obtain⟨v,hv,h3⟩:=hs p d hd
 exact⟨v,hv,h1.rel hr h3 h2⟩
theorem zj.conv {f:DV} {args:List DV} {M:VM} {k kp:DV→VM→Prop} (h:zj F f args M (fun d M'=> ∃e M2,Conv M M' M2∧Frz M' M2 d e∧zQ M2.next e∧k e M2) kp):zj F f args M k kp:=by
 intro w hp fv vs hr hf hv
 obtain⟨n,o,e,q⟩:=h w hp fv vs hr hf hv
 refine⟨n,o,e,?_⟩
 cases o with
 |val v h1=>
  obtain⟨w1,M1,d,a1,a2,a3,e2,M2,c1,c2,c3,c4⟩:=q
  have:=St.conv ⟨rfl,hr,.refl _ _ _,hr⟩ hr a1 a2 c1
  exact⟨_,M2,e2,this.hi,this.r,c2.rel a2 a3 c3,c4⟩
 |pan v s h1=>exact q
 |_=>exact q
def VM.Wf (M:VM):Prop:= ∀j,M.next≤j→M.get j=none
theorem HRel.Wf {w:Wd} {M:VM} {h:H} (hr:HRel w M h):M.Wf:=fun j hj=>by
 cases e:M.get j with
 |none=>rfl
 |some x=>obtain⟨o,st⟩:=x;have:=(hr.wf j o st e).1;omega
theorem zj.wf {f:DV} {args:List DV} {M:VM} {k kp:DV→VM→Prop} (h:M.Wf→zj F f args M k kp):zj F f args M k kp:=fun w hp fv vs hr a b=>h hr.Wf w hp fv vs hr a b
theorem Conv.same {M M':VM} (h: ∀j,j<M.next→M'.get j=M.get j):Conv M M' M:=⟨Nat.le_refl _,fun j=>.inl ⟨rfl,h j⟩⟩
theorem Frz.ms0 {M M2:VM} {j n cap sz:Nat} {op:Bool} {rs:List (List DV)} (ho:M.obj j=some (.rows op sz rs)) (hn:M2.get j=none) (hl:n=rs.length) (hs: ∀r∈rs,r.length=sz):Frz M M2 (.ms j 0 n cap) (.lst sz rs):=by
 subst hl
 refine .ms ho hn (by omega) hs rfl fun k d e a b=> ?_
 rw[List.drop_zero,List.take_length] at a
 rw[a] at b;cases b;exact .refl d
end Go.Ideal
namespace Go.Ideal
noncomputable section
namespace Q
abbrev iI (n:Int):Value:=.int .i64 n
abbrev t (n:Nat):CO:=.t (bits n)
abbrev i (n:Int):CO:=.c (.int .i64 n)
abbrev tt:CO:=.c (.bool true)
abbrev ff:CO:=.c (.bool false)
abbrev fc (f:Nat):CO:=.c (.func (.func f) ⟨[]⟩ ⟨[]⟩)
abbrev bs (l:List Nat):List (List Bool):=l.map bits
abbrev oo (d:Nat) (x:COp):CI:=⟨some (bits d),x,none,0⟩
abbrev on (x:COp):CI:=⟨none,x,none,0⟩
abbrev gu (q:Nat) (b:Bool) (c:CI):CI:=⟨c.dst,c.op,some (bits q,b),c.lo⟩
def lo (n:Nat) (c:CI):CI:=⟨c.dst,c.op,c.guard,n⟩
@[simp] theorem lo_eq (n m:Nat) (d:Option (List Bool)) (o:COp) (g:Option (List Bool×Bool)):lo n ⟨d,o,g,m⟩=⟨d,o,g,n⟩:=id rfl
abbrev mv (d:Nat) (x:CO):CI:=⟨some (bits d),.mv x,none,0⟩
abbrev l (d a:Nat):CI:=⟨some (bits d),.load1 (t a),none,0⟩
abbrev ln (d n a:Nat):CI:=⟨some (bits d),.loadN n (t a),none,0⟩
abbrev fa (d n a:Nat):CI:=⟨some (bits d),.fieldAddr n (t a),none,0⟩
abbrev nc (d a:Nat):CI:=⟨some (bits d),.nilCheck (t a),none,0⟩
abbrev ia (d n a:Nat) (x:CO):CI:=⟨some (bits d),.indexAddr n (t a) x,none,0⟩
abbrev st (n a:Nat) (x:CO):CI:=⟨none,.store n (t a) x,none,0⟩
abbrev bi (op:BinOp) (d:Nat) (x y:CO):CI:=⟨some (bits d),.bin op .other x y,none,0⟩
abbrev le (d:Nat) (x:CO):CI:=⟨some (bits d),.blt .len [x],none,0⟩
abbrev ca (d f:Nat) (as:List CO):CI:=⟨some (bits d),.call (fc f) as,none,0⟩
abbrev ex (d a n:Nat):CI:=⟨some (bits d),.extract (t a) n,none,0⟩
abbrev bx (d:Nat) (x:CO):CI:=⟨some (bits d),.box x,none,0⟩
abbrev no (d a:Nat):CI:=⟨some (bits d),.un .not (t a),none,0⟩
abbrev pk (d:Nat) (c a b:CO):CI:=⟨some (bits d),.pick c a b,none,0⟩
abbrev ap (d s b:Nat) (x y:CO):CI:=⟨some (bits d),.blt (.append s b) [x,y],none,0⟩
end Q
inductive Fr where
 |sq (L:List (List Bool)) (b:CC)
 |bk (i:Nat)
def KF (X:RnD):List Fr→KD→KD
 | [],K=>K
 |.sq L b::ks,K=>⟨fun s M=>wp X b (KF X ks K) (zbL L s) M,(KF X ks K).ext,(KF X ks K).ret,(KF X ks K).pan⟩
 |.bk i::ks,K=>⟨(KF X ks K).nrm,blkD i (KF X ks K),(KF X ks K).ret,(KF X ks K).pan⟩
class FrC where
 ks:List Fr
 K:KD
abbrev FrC.sq (f:FrC) (L:List (List Bool)) (b:CC):FrC:=⟨.sq L b::f.ks,f.K⟩
abbrev FrC.bk (f:FrC) (i:Nat):FrC:=⟨.bk i::f.ks,f.K⟩
abbrev FrC.base (K:KD):FrC:=⟨[],K⟩
def kf (X:RnD) [f:FrC]:KD:=KF X f.ks f.K
section
variable (X:RnD) [fr:FrC]
def Cd (c:CC) (s:DS) (M:VM):Prop:=wp X c (@kf X fr) s M
def Op (l:List CI) (s:DS) (M:VM):Prop:=wOps X (@kf X fr).pan l s M (@kf X fr).nrm
def Nx (s:DS) (M:VM):Prop:=(@kf X fr).nrm s M
def Ex (i:Nat) (s:DS) (M:VM):Prop:=(@kf X fr).ext i s M
def CK (d:Option (List Bool)) (r:List CI) (s:DS) (v:DV) (M:VM):Prop:= @Op X fr r (z6 d v s) M
def PK [fr:FrC] (s:DS) (v:DV) (M:VM):Prop:=fr.K.pan v s M
def Rs (o:RD) (d:Option (List Bool)) (r:List CI) (s:DS):Prop:=okD o (@CK X fr d r s)
def Ca (f:Option DV) (as:Option (List DV)) (d:Option (List Bool)) (r:List CI) (s:DS) (M:VM):Prop:=ofD f fun f=>ofD as fun l=>X.call f l M (@CK X fr d r s) (@PK fr s)
def Gd (g:Option Bool) (d:Option (List Bool)) (op:COp) (lo:Nat) (r:List CI) (s:DS) (M:VM):Prop:=ofD g fun b=>match b with
 |true=> @Op X fr (⟨d,op,none,lo⟩::r) s M
 |false=> @Op X fr r (z6 d (.tup []) s) M
def Pn [fr:FrC] (v:Option DV) (s:DS) (M:VM):Prop:=ofD v fun v=>match v with|.ifc t u=>fr.K.pan (.ifc t u) s M|_=>False
def Br (v:Option DV) (a b:CC) (s:DS) (M:VM):Prop:=ofD v fun v=>wIf v (@Cd X fr a s M) (@Cd X fr b s M)
end
section
variable {X:RnD} {fr:FrC} {K:KD} {s:DS} {M:VM} {d:Option (List Bool)} {r:List CI} {lo:Nat}
theorem KF_ret0: ∀ks:List Fr,(KF X ks K).ret=K.ret
 | []=>rfl
 |.sq _ _::ks=>KF_ret0 ks
 |.bk _::ks=>KF_ret0 ks
theorem KF_pan0: ∀ks:List Fr,(KF X ks K).pan=K.pan
 | []=>rfl
 |.sq _ _::ks=>KF_pan0 ks
 |.bk _::ks=>KF_pan0 ks
theorem KF_ret:(@kf X fr).ret=fr.K.ret:=KF_ret0 _
theorem KF_pan:(@kf X fr).pan=fr.K.pan:=KF_pan0 _
@[simp] theorem KF_ret':(@kf X fr).ret s M=fr.K.ret s M:=by rw[KF_ret]
@[simp] theorem KF_pan' (v:DV):(@kf X fr).pan v s M=fr.K.pan v s M:=by rw[KF_pan]
@[simp] theorem sq_K (L:List (List Bool)) (b:CC):(fr.sq L b).K=fr.K:=id rfl
@[simp] theorem bk_K (i:Nat):(fr.bk i).K=fr.K:=id rfl
@[simp] theorem base_K:(FrC.base K).K=K:=id rfl
@[simp] theorem KF_ext (i:Nat):(@kf X fr).ext i s M= @Ex X fr i s M:=id rfl
theorem wp_Cd (c:CC):wp X c K s M= @Cd X (.base K) c s M:=id rfl
@[simp] theorem Cd_skip: @Cd X fr .skip s M= @Nx X fr s M:=id rfl
@[simp] theorem Cd_ops (l:List CI): @Cd X fr (.ops l) s M= @Op X fr l s M:=id rfl
@[simp] theorem Cd_seq (a b:CC) (L:List (List Bool)): @Cd X fr (.seq a L b) s M= @Cd X (fr.sq L b) a s M:=id rfl
@[simp] theorem Cd_block (i:Nat) (b:CC): @Cd X fr (.block i b) s M= @Cd X (fr.bk i) b s M:=id rfl
@[simp] theorem Cd_cond (c:CO) (a b:CC): @Cd X fr (.cond c a b) s M= @Br X fr (evD s c) a b s M:=id rfl
@[simp] theorem Cd_exit (i:Nat): @Cd X fr (.exit i) s M= @Ex X fr i s M:=id rfl
@[simp] theorem Cd_ret: @Cd X fr .ret s M=fr.K.ret s M:=by show(@kf X fr).ret s M=_;rw[KF_ret]
@[simp] theorem Cd_loop (L:List (List Bool)) (b:CC): @Cd X fr (.loop L b) s M=X.loop L b (@kf X fr) (zbL L s) M:=id rfl
@[simp] theorem Br_true (a b:CC): @Br X fr (some (.bool true)) a b s M= @Cd X fr a s M:=id rfl
@[simp] theorem Br_false (a b:CC): @Br X fr (some (.bool false)) a b s M= @Cd X fr b s M:=id rfl
@[simp] theorem Nx_nil: @Nx X (.base K) s M=K.nrm s M:=id rfl
@[simp] theorem Nx_sq (L:List (List Bool)) (b:CC): @Nx X (fr.sq L b) s M= @Cd X fr b (zbL L s) M:=id rfl
@[simp] theorem Nx_bk (i:Nat): @Nx X (fr.bk i) s M= @Nx X fr s M:=id rfl
@[simp] theorem Ex_nil (i:Nat): @Ex X (.base K) i s M=K.ext i s M:=id rfl
@[simp] theorem Ex_sq (L:List (List Bool)) (b:CC) (i:Nat): @Ex X (fr.sq L b) i s M= @Ex X fr i s M:=id rfl
@[simp] theorem Ex_bk (i j:Nat): @Ex X (fr.bk i) j s M=if j=i then @Nx X fr s M else @Ex X fr j s M:=by
  show blkD i (@kf X fr) j s M=_
  unfold blkD
  by_cases h:j=i
  ·subst h;rw[if_pos rfl,Nat.beq_refl];rfl
  ·rw[if_neg h];cases e:Nat.beq j i with
   |true=>exact absurd (Nat.eq_of_beq_eq_true e) h
   |false=>rfl
@[simp] theorem Op_nil: @Op X fr [] s M= @Nx X fr s M:=id rfl
@[simp] theorem Op_guard (op:COp) (g:List Bool×Bool): @Op X fr (⟨d,op,some g,lo⟩::r) s M= @Gd X fr (wantD (some g) s) d op lo r s M:=by
  show zhu X _ s M _ _=_
  unfold zhu Gd
  congr 1
@[simp] theorem Gd_true (op:COp): @Gd X fr (some true) d op lo r s M= @Op X fr (⟨d,op,none,lo⟩::r) s M:=id rfl
@[simp] theorem Gd_false (op:COp): @Gd X fr (some false) d op lo r s M= @Op X fr r (z6 d (.tup []) s) M:=id rfl
@[simp] theorem Rs_some (v:DV) (M':VM): @Rs X fr (some (v,M')) d r s= @Op X fr r (z6 d v s) M':=id rfl
@[simp] theorem CK_eq (v:DV): @CK X fr d r s v M= @Op X fr r (z6 d v s) M:=id rfl
@[simp] theorem PK_eq (v:DV): @PK fr s v M=fr.K.pan v s M:=id rfl
@[simp] theorem Ca_some (f:DV) (as:List DV): @Ca X fr (some f) (some as) d r s M=X.call f as M (@CK X fr d r s) (@PK fr s):=id rfl
@[simp] theorem Op_call (f:CO) (as:List CO): @Op X fr (⟨d,.call f as,none,lo⟩::r) s M= @Ca X fr (evD s f) (evDL s as) d r s M:=by
  show ofD _ _=ofD _ _
  unfold PK CK Op
  rw[KF_pan]
@[simp] theorem Op_panic (x:CO): @Op X fr (⟨d,.panic x,none,lo⟩::r) s M= @Pn fr (evD s x) s M:=by
  show ofD _ _=ofD _ _
  rw[KF_pan];rfl
@[simp] theorem Pn_ifc (t:Nat) (v:DV): @Pn fr (some (.ifc t v)) s M=fr.K.pan (.ifc t v) s M:=id rfl
@[simp] theorem Op_mv (x:CO): @Op X fr (⟨d,.mv x,none,lo⟩::r) s M= @Rs X fr (opD (.mv x) s M) d r s:=id rfl
@[simp] theorem Op_pick (c a b:CO): @Op X fr (⟨d,.pick c a b,none,lo⟩::r) s M= @Rs X fr (opD (.pick c a b) s M) d r s:=id rfl
@[simp] theorem Op_build (z:List Value) (ps:List (Nat×Nat×CO)): @Op X fr (⟨d,.build z ps,none,lo⟩::r) s M= @Rs X fr (opD (.build z ps) s M) d r s:=id rfl
@[simp] theorem Op_load1 (a:CO): @Op X fr (⟨d,.load1 a,none,lo⟩::r) s M= @Rs X fr (opD (.load1 a) s M) d r s:=id rfl
@[simp] theorem Op_loadN (n:Nat) (a:CO): @Op X fr (⟨d,.loadN n a,none,lo⟩::r) s M= @Rs X fr (opD (.loadN n a) s M) d r s:=id rfl
@[simp] theorem Op_store (n:Nat) (a x:CO): @Op X fr (⟨d,.store n a x,none,lo⟩::r) s M= @Rs X fr (opD (.store n a x) s M) d r s:=id rfl
@[simp] theorem Op_nilc (x:CO): @Op X fr (⟨d,.nilCheck x,none,lo⟩::r) s M= @Rs X fr (opD (.nilCheck x) s M) d r s:=id rfl
@[simp] theorem Op_bin (op:BinOp) (ek:EK) (x y:CO): @Op X fr (⟨d,.bin op ek x y,none,lo⟩::r) s M= @Rs X fr (opD (.bin op ek x y) s M) d r s:=id rfl
@[simp] theorem Op_un (op:UnOp) (x:CO): @Op X fr (⟨d,.un op x,none,lo⟩::r) s M= @Rs X fr (opD (.un op x) s M) d r s:=id rfl
@[simp] theorem Op_conv (k:IntKind) (x:CO): @Op X fr (⟨d,.conv k x,none,lo⟩::r) s M= @Rs X fr (opD (.conv k x) s M) d r s:=id rfl
@[simp] theorem Op_makeFunc (g:Fn) (a b:List CO): @Op X fr (⟨d,.makeFunc g a b,none,lo⟩::r) s M= @Rs X fr (opD (.makeFunc g a b) s M) d r s:=id rfl
@[simp] theorem Op_fieldAddr (n:Nat) (x:CO): @Op X fr (⟨d,.fieldAddr n x,none,lo⟩::r) s M= @Rs X fr (opD (.fieldAddr n x) s M) d r s:=id rfl
@[simp] theorem Op_indexAddr (n:Nat) (x i:CO): @Op X fr (⟨d,.indexAddr n x i,none,lo⟩::r) s M= @Rs X fr (opD (.indexAddr n x i) s M) d r s:=id rfl
@[simp] theorem Op_lookup (kk:KK) (z:Value) (ok:Bool) (x i:CO): @Op X fr (⟨d,.lookup kk z ok x i,none,lo⟩::r) s M= @Rs X fr (opD (.lookup kk z ok x i) s M) d r s:=id rfl
@[simp] theorem Op_mapUpdate (kk:KK) (m i x:CO): @Op X fr (⟨d,.mapUpdate kk m i x,none,lo⟩::r) s M= @Rs X fr (opD (.mapUpdate kk m i x) s M) d r s:=id rfl
@[simp] theorem Op_extract (x:CO) (i:Nat): @Op X fr (⟨d,.extract x i,none,lo⟩::r) s M= @Rs X fr (opD (.extract x i) s M) d r s:=id rfl
@[simp] theorem Op_strIdx (x i:CO): @Op X fr (⟨d,.strIdx x i,none,lo⟩::r) s M= @Rs X fr (opD (.strIdx x i) s M) d r s:=id rfl
@[simp] theorem Op_mkI (t:TypeId) (x:CO): @Op X fr (⟨d,.mkI t x,none,lo⟩::r) s M= @Rs X fr (opD (.mkI t x) s M) d r s:=id rfl
@[simp] theorem Op_strSlice (x:CO) (lo' hi:Option CO): @Op X fr (⟨d,.strSlice x lo' hi,none,lo⟩::r) s M= @Rs X fr (opD (.strSlice x lo' hi) s M) d r s:=id rfl
@[simp] theorem Op_b2s (x:CO): @Op X fr (⟨d,.b2s x,none,lo⟩::r) s M= @Rs X fr (opD (.b2s x) s M) d r s:=id rfl
@[simp] theorem Op_box (x:CO): @Op X fr (⟨d,.box x,none,lo⟩::r) s M= @Rs X fr (opD (.box x) s M) d r s:=id rfl
@[simp] theorem Op_alloc (z:List Value): @Op X fr (⟨d,.alloc z,none,lo⟩::r) s M= @Rs X fr (opD (.alloc z) s M) d r s:=id rfl
@[simp] theorem Op_makeMap: @Op X fr (⟨d,.makeMap,none,lo⟩::r) s M= @Rs X fr (opD (.makeMap) s M) d r s:=id rfl
@[simp] theorem Op_buildSlice (len size:Nat) (z:List Value) (ps:List (Nat×CO)): @Op X fr (⟨d,.buildSlice len size z ps,none,lo⟩::r) s M= @Rs X fr (opD (.buildSlice len size z ps) s M) d r s:=id rfl
@[simp] theorem Op_blt (b:CB) (as:List CO): @Op X fr (⟨d,.blt b as,none,lo⟩::r) s M= @Rs X fr (opD (.blt b as) s M) d r s:=id rfl
end
section
variable (X:RnD) [fr:FrC]
def Dr (l:List CI) (bs:List Mo) (s:DS) (M:VM):Prop:=zc6 X l bs s M (@kf X fr).nrm fun v M=>fr.K.pan v [] M
def DP (l:List CI) (bs:List Mo) (s:DS) (M:VM) (v:DV) (M':VM):Prop:=wSurv X l bs s M∧fr.K.pan v [] M'
def DW (d:Option (List Bool)) (l:List CI) (bs:List Mo) (s:DS) (v:DV) (M:VM):Prop:= @Dr X fr l (⟨zjE bs,M,[]⟩::bs.map (zcv d)) (z6 d v s) M
def DrW (o:RD) (d:Option (List Bool)) (l:List CI) (bs:List Mo) (s:DS):Prop:=okD o (@DW X fr d l bs s)
def DrC (f:Option DV) (as:Option (List DV)) (d:Option (List Bool)) (l:List CI) (bs:List Mo) (s:DS) (M:VM):Prop:=ofD f fun f=>ofD as fun a=>X.call f a M (@DW X fr d l bs s) (@DP X fr l bs s M)
def DrF (o:RD) (ns:List (List Bool)) (d:Option (List Bool)) (l:List CI) (bs:List Mo) (s:DS):Prop:=okD o fun v M=> @Dr X fr l (bs.map (zg2 ns d)) (z6 d v s) M
def DrA (o:RD) (d:Option (List Bool)) (l:List CI) (bs:List Mo) (s:DS):Prop:=okD o fun v M=> @Dr X fr l (bs.map (zcv d)) (z6 d v s) M
def DrR (op:COp) (o:RD) (rs:List Nat) (ns:List (List Bool)) (d:Option (List Bool)) (lo:Nat) (l:List CI) (bs:List Mo) (s:DS) (M:VM):Prop:=match bs with
 | []=>False
 |x::r=>okD o fun v _=>(rdAt rs ns M x∨rdAlt op ns s v x)∧rdOk op rs ns s v M lo r∧zjk (x::r) v=true∧ @Dr X fr l (x::zis lo d r) (z6 d v s) M
def DrB (op:COp) (b:Bool) (o:RD) (rs:List Nat) (ns:List (List Bool)) (d:Option (List Bool)) (lo:Nat) (l:List CI) (bs:List Mo) (s:DS) (M:VM):Prop:=match b with
 |true=>match bs with
  | []=>False
  |_::_=>okD o fun v _=> @Dr X fr l bs (z6 d v s) M
 |false=> @DrR X fr op o rs ns d lo l bs s M
def frB (bs:List Mo) (e:Option DV):Bool:=match bs with
 | []=>false
 |x::_=>match e with
  |some (.ms j _ _ _)=>Nat.ble x.M.next j
  |_=>false
def DrG (g:Option Bool) (o:CI) (l:List CI) (bs:List Mo) (s:DS) (M:VM):Prop:=ofD g fun b=>match b with
 |true=> @Dr X fr (⟨o.dst,o.op,none,o.lo⟩::l) bs s M
 |false=>if isW o.op=true then @DW X fr o.dst l bs s (.tup []) M else if isRd o.op=true then @Dr X fr l (bs.map (zg2 (zi o.op) o.dst)) (z6 o.dst (.tup []) s) M else if isFl o.op=true then @Dr X fr l (bs.map (zg2 (zi o.op) o.dst)) (z6 o.dst (.tup []) s) M else @Dr X fr l (bs.map (zcv o.dst)) (z6 o.dst (.tup []) s) M
end
section
variable {X:RnD} {fr:FrC} {K:KD} {s:DS} {M:VM} {d:Option (List Bool)} {l:List CI} {lo:Nat} {bs:List Mo}
@[simp] theorem Cd_draw (l:List CI): @Cd X fr (.draw l) s M= @Dr X fr l [⟨0,M,[]⟩] s M:=by
  show zc6 X l _ s M (@kf X fr).nrm (fun v M=>(@kf X fr).pan v [] M)=zc6 X l _ s M (@kf X fr).nrm fun v M=>fr.K.pan v [] M
  rw[KF_pan]
@[simp] theorem Dr_nil: @Dr X fr [] bs s M= @Nx X fr s M:=id rfl
@[simp] theorem DW_eq (v:DV): @DW X fr d l bs s v M= @Dr X fr l (⟨zjE bs,M,[]⟩::bs.map (zcv d)) (z6 d v s) M:=id rfl
@[simp] theorem DrW_some (v:DV) (M':VM): @DrW X fr (some (v,M')) d l bs s= @Dr X fr l (⟨zjE bs,M',[]⟩::bs.map (zcv d)) (z6 d v s) M':=id rfl
@[simp] theorem DrC_some (f:DV) (as:List DV): @DrC X fr (some f) (some as) d l bs s M=X.call f as M (@DW X fr d l bs s) (@DP X fr l bs s M):=id rfl
@[simp] theorem DrF_some (ns:List (List Bool)) (v:DV) (M':VM): @DrF X fr (some (v,M')) ns d l bs s= @Dr X fr l (bs.map (zg2 ns d)) (z6 d v s) M':=id rfl
@[simp] theorem DrA_some (v:DV) (M':VM): @DrA X fr (some (v,M')) d l bs s= @Dr X fr l (bs.map (zcv d)) (z6 d v s) M':=id rfl
@[simp] theorem DrR_some (op:COp) (v:DV) (M':VM) (rs:List Nat) (ns:List (List Bool)) (x:Mo) (r:List Mo): @DrR X fr op (some (v,M')) rs ns d lo l (x::r) s M=((rdAt rs ns M x∨rdAlt op ns s v x)∧rdOk op rs ns s v M lo r∧zjk (x::r) v=true∧ @Dr X fr l (x::zis lo d r) (z6 d v s) M):=id rfl
@[simp] theorem DrG_true (o:CI): @DrG X fr (some true) o l bs s M= @Dr X fr (⟨o.dst,o.op,none,o.lo⟩::l) bs s M:=id rfl
@[simp] theorem DrG_false (o:CI): @DrG X fr (some false) o l bs s M=if isW o.op=true then @DW X fr o.dst l bs s (.tup []) M else if isRd o.op=true then @Dr X fr l (bs.map (zg2 (zi o.op) o.dst)) (z6 o.dst (.tup []) s) M else if isFl o.op=true then @Dr X fr l (bs.map (zg2 (zi o.op) o.dst)) (z6 o.dst (.tup []) s) M else @Dr X fr l (bs.map (zcv o.dst)) (z6 o.dst (.tup []) s) M:=id rfl
@[simp] theorem Dr_guard (op:COp) (g:List Bool×Bool): @Dr X fr (⟨d,op,some g,lo⟩::l) bs s M= @DrG X fr (wantD (some g) s) ⟨d,op,some g,lo⟩ l bs s M:=by
  unfold Dr
  conv=>lhs;unfold zc6
  cases hw:isW op with
  |true=>
   show zhu X _ s M _ _=_
   unfold zhu DrG
   dsimp only
   congr 1;funext b
   cases b with
   |true=>show _= @Dr X fr _ _ _ _;unfold Dr;(conv=>rhs;unfold zc6;rw[hw]);rfl
   |false=>dsimp only;rw[hw];rfl
  |false=>
   cases hr:isRd op with
   |true=>
    unfold DrG
    dsimp only
    congr 1;funext b
    cases b with
    |true=>show _= @Dr X fr _ _ _ _;unfold Dr;(conv=>rhs;unfold zc6;rw[hw,hr]);rfl
    |false=>dsimp only;rw[hw,hr];rfl
   |false=>
    cases hf:isFl op with
    |true=>
     show zhu X _ s M _ _=_
     unfold zhu DrG
     dsimp only
     congr 1;funext b
     cases b with
     |true=>show _= @Dr X fr _ _ _ _;unfold Dr;(conv=>rhs;unfold zc6;rw[hw,hr,hf]);rfl
     |false=>dsimp only;rw[hw,hr,hf];rfl
    |false=>
     show zhu X _ s M _ _=_
     unfold zhu DrG
     dsimp only
     congr 1;funext b
     cases b with
     |true=>show _= @Dr X fr _ _ _ _;unfold Dr;(conv=>rhs;unfold zc6;rw[hw,hr,hf]);rfl
     |false=>dsimp only;rw[hw,hr,hf];rfl
@[simp] theorem Dr_call (f:CO) (as:List CO): @Dr X fr (⟨d,.call f as,none,lo⟩::l) bs s M= @DrC X fr (evD s f) (evDL s as) d l bs s M:=id rfl
@[simp] theorem Dr_mv (x:CO): @Dr X fr (⟨d,.mv x,none,lo⟩::l) bs s M= @DrF X fr (opD (.mv x) s M) (zi (.mv x)) d l bs s:=id rfl
@[simp] theorem Dr_pick (c a b:CO): @Dr X fr (⟨d,.pick c a b,none,lo⟩::l) bs s M= @DrF X fr (opD (.pick c a b) s M) (zi (.pick c a b)) d l bs s:=id rfl
@[simp] theorem Dr_build (z:List Value) (ps:List (Nat×Nat×CO)): @Dr X fr (⟨d,.build z ps,none,lo⟩::l) bs s M= @DrF X fr (opD (.build z ps) s M) (zi (.build z ps)) d l bs s:=id rfl
@[simp] theorem Dr_load1 (a:CO): @Dr X fr (⟨d,.load1 a,none,lo⟩::l) bs s M= @DrR X fr (.load1 a) (opD (.load1 a) s M) (zcl s (.load1 a)) (zi (.load1 a)) d lo l bs s M:=by cases bs<;>rfl
@[simp] theorem Dr_loadN (n:Nat) (a:CO): @Dr X fr (⟨d,.loadN n a,none,lo⟩::l) bs s M= @DrR X fr (.loadN n a) (opD (.loadN n a) s M) (zcl s (.loadN n a)) (zi (.loadN n a)) d lo l bs s M:=by cases bs<;>rfl
@[simp] theorem Dr_store (n:Nat) (a x:CO): @Dr X fr (⟨d,.store n a x,none,lo⟩::l) bs s M= @DrW X fr (opD (.store n a x) s M) d l bs s:=id rfl
@[simp] theorem Dr_nilc (x:CO): @Dr X fr (⟨d,.nilCheck x,none,lo⟩::l) bs s M= @DrF X fr (opD (.nilCheck x) s M) (zi (.nilCheck x)) d l bs s:=id rfl
@[simp] theorem Dr_bin (op:BinOp) (ek:EK) (x y:CO): @Dr X fr (⟨d,.bin op ek x y,none,lo⟩::l) bs s M= @DrF X fr (opD (.bin op ek x y) s M) (zi (.bin op ek x y)) d l bs s:=id rfl
@[simp] theorem Dr_un (op:UnOp) (x:CO): @Dr X fr (⟨d,.un op x,none,lo⟩::l) bs s M= @DrF X fr (opD (.un op x) s M) (zi (.un op x)) d l bs s:=id rfl
@[simp] theorem Dr_makeFunc (g:Fn) (a b:List CO): @Dr X fr (⟨d,.makeFunc g a b,none,lo⟩::l) bs s M= @DrF X fr (opD (.makeFunc g a b) s M) (zi (.makeFunc g a b)) d l bs s:=id rfl
@[simp] theorem Dr_fieldAddr (n:Nat) (x:CO): @Dr X fr (⟨d,.fieldAddr n x,none,lo⟩::l) bs s M= @DrF X fr (opD (.fieldAddr n x) s M) (zi (.fieldAddr n x)) d l bs s:=id rfl
@[simp] theorem Dr_lookup (kk:KK) (z:Value) (ok:Bool) (x i:CO): @Dr X fr (⟨d,.lookup kk z ok x i,none,lo⟩::l) bs s M= @DrR X fr (.lookup kk z ok x i) (opD (.lookup kk z ok x i) s M) (zcl s (.lookup kk z ok x i)) (zi (.lookup kk z ok x i)) d lo l bs s M:=by cases bs<;>rfl
@[simp] theorem Dr_mapUpdate (kk:KK) (m i x:CO): @Dr X fr (⟨d,.mapUpdate kk m i x,none,lo⟩::l) bs s M= @DrW X fr (opD (.mapUpdate kk m i x) s M) d l bs s:=id rfl
@[simp] theorem Dr_extract (x:CO) (i:Nat): @Dr X fr (⟨d,.extract x i,none,lo⟩::l) bs s M= @DrF X fr (opD (.extract x i) s M) (zi (.extract x i)) d l bs s:=id rfl
@[simp] theorem Dr_strIdx (x i:CO): @Dr X fr (⟨d,.strIdx x i,none,lo⟩::l) bs s M= @DrF X fr (opD (.strIdx x i) s M) (zi (.strIdx x i)) d l bs s:=id rfl
@[simp] theorem Dr_strSlice (x:CO) (lo' hi:Option CO): @Dr X fr (⟨d,.strSlice x lo' hi,none,lo⟩::l) bs s M= @DrF X fr (opD (.strSlice x lo' hi) s M) (zi (.strSlice x lo' hi)) d l bs s:=id rfl
@[simp] theorem Dr_s2b (x:CO): @Dr X fr (⟨d,.s2b x,none,lo⟩::l) bs s M= @DrW X fr (opD (.s2b x) s M) d l bs s:=id rfl
@[simp] theorem frB_ms (x:Mo) (r:List Mo) (j a b c:Nat):frB (x::r) (some (.ms j a b c))=decide (x.M.next≤j):=by show Nat.ble _ _=_;rw[Bool.eq_iff_iff];simp
@[simp] theorem DrB_false (op:COp) (o:RD) (rs:List Nat) (ns:List (List Bool)): @DrB X fr op false o rs ns d lo l bs s M= @DrR X fr op o rs ns d lo l bs s M:=id rfl
@[simp] theorem Dr_b2s (x:CO): @Dr X fr (⟨d,.b2s x,none,lo⟩::l) bs s M= @DrB X fr (.b2s x) (frB bs (evD s x)) (opD (.b2s x) s M) (zcl s (.b2s x)) (zi (.b2s x)) d lo l bs s M:=by cases bs<;>rfl
@[simp] theorem Dr_buildSlice (len size:Nat) (z:List Value) (ps:List (Nat×CO)): @Dr X fr (⟨d,.buildSlice len size z ps,none,lo⟩::l) bs s M= @DrA X fr (opD (.buildSlice len size z ps) s M) d l bs s:=id rfl
@[simp] theorem Dr_append (s' b:Nat) (as:List CO): @Dr X fr (⟨d,.blt (.append s' b) as,none,lo⟩::l) bs s M= @DrW X fr (opD (.blt (.append s' b) as) s M) d l bs s:=id rfl
end
end
end Go.Ideal
namespace Go.Ideal
noncomputable section
attribute [simp] List.getElem?_cons_zero List.getElem?_cons_succ List.getElem?_eq_getElem
def rdV (M:VM):Option DV→RD
 |some d=>some (d,M)
 |none=>none
@[simp] theorem rdV_some (M:VM) (d:DV):rdV M (some d)=some (d,M):=id rfl
theorem zcz (M:VM) (o:Option DV):o.map (fun d=>(d,M))=rdV M o:=by cases o<;>rfl
def rowO (M:VM):Option DV→Option (List DV)
 |some d=>zcL M d
 |none=>none
def rowI (off:Nat):Option (List DV)→Option (List DV)
 |some r=>some (r.drop off)
 |none=>none
def rowJ (i off:Nat):Option MO→Option (List DV)
 |some (.rows _ _ rs)=>rowI off (rs[i]?)
 |_=>none
@[simp] theorem rowO_some (M:VM) (d:DV):rowO M (some d)=zcL M d:=id rfl
@[simp] theorem rowI_some (off:Nat) (r:List DV):rowI off (some r)=some (r.drop off):=id rfl
@[simp] theorem rowJ_some (i off:Nat) (op:Bool) (sz:Nat) (rs:List (List DV)):rowJ i off (some (.rows op sz rs))=rowI off (rs[i]?):=id rfl
@[simp] theorem rowOf_ptr (M:VM) (j i off:Nat):zcL M (.ptr j i off)=rowJ i off (M.obj j):=by
  show(M.obj j).bind _=_
  cases M.obj j with
  |none=>rfl
  |some o=>cases o<;>first|rfl| (show(Option.map _ _)=rowI off _;rename_i rs;cases rs[i]?<;>rfl)
@[simp] theorem rowOf_pl (M:VM) (s:Nat) (rows:List (List DV)) (i off:Nat):zcL M (.pl s rows i off)=rowI off (rows[i]?):=by
  show(Option.map _ _)=rowI off _;cases rows[i]?<;>rfl
def ld1:Option (List DV)→Option DV
 |some r=>oneD r
 |none=>none
def ldN (n:Nat):Option (List DV)→Option DV
 |some r=>(zdx n r).map .agg
 |none=>none
@[simp] theorem ld1_some (r:List DV):ld1 (some r)=oneD r:=id rfl
@[simp] theorem ldN_some (n:Nat) (r:List DV):ldN n (some r)=(zdx n r).map .agg:=id rfl
@[simp] theorem oneD_cons (v:DV) (r:List DV):oneD (v::r)=some v:=id rfl
@[simp] theorem takeD_zero (l:List DV):zdx 0 l=some []:=by cases l<;>rfl
@[simp] theorem takeD_succ (n:Nat) (v:DV) (r:List DV):zdx (n+1) (v::r)=(zdx n r).map (v:: ·):=id rfl
def f1 (f:DV→Option DV):Option DV→Option DV
 |some d=>f d
 |none=>none
@[simp] theorem f1_some (f:DV→Option DV) (d:DV):f1 f (some d)=f d:=id rfl
def f2 (f:DV→DV→Option DV):Option DV→Option DV→Option DV
 |some a,some b=>f a b
 |_,_=>none
@[simp] theorem f2_some (f:DV→DV→Option DV) (a b:DV):f2 f (some a) (some b)=f a b:=id rfl
def pkO:Option DV→Option DV→Option DV→Option DV
 |some c,a,b=>pickD a b c
 |none,_,_=>none
@[simp] theorem pkO_true (a b:Option DV):pkO (some (.bool true)) a b=a:=id rfl
@[simp] theorem pkO_false (a b:Option DV):pkO (some (.bool false)) a b=b:=id rfl
def stW (M:VM) (j i:Nat) (op:Bool) (sz:Nat) (rs:List (List DV)):Option (List DV)→Option VM
 |some r=>some (M.put j (.rows op sz (rs.set i r)))
 |none=>none
def stI (n:Nat) (M:VM) (xs:List DV) (j i off:Nat) (op:Bool) (sz:Nat) (rs:List (List DV)):Option (List DV)→Option VM
 |some r=>if xs.length=n∧0<n∧xs.all zr=true then stW M j i op sz rs (zN r off xs) else none
 |none=>none
def stJ (n:Nat) (M:VM) (xs:List DV) (j i off:Nat):Option MO→Option VM
 |some (.rows op sz rs)=>stI n M xs j i off op sz rs (rs[i]?)
 |_=>none
@[simp] theorem stW_some (M:VM) (j i:Nat) (op:Bool) (sz:Nat) (rs:List (List DV)) (r:List DV):stW M j i op sz rs (some r)=some (M.put j (.rows op sz (rs.set i r))):=id rfl
@[simp] theorem stI_some (n:Nat) (M:VM) (xs:List DV) (j i off:Nat) (op:Bool) (sz:Nat) (rs:List (List DV)) (r:List DV):stI n M xs j i off op sz rs (some r)=if xs.length=n∧0<n∧xs.all zr=true then stW M j i op sz rs (zN r off xs) else none:=id rfl
@[simp] theorem stJ_some (n:Nat) (M:VM) (xs:List DV) (j i off:Nat) (op:Bool) (sz:Nat) (rs:List (List DV)):stJ n M xs j i off (some (.rows op sz rs))=stI n M xs j i off op sz rs (rs[i]?):=id rfl
@[simp] theorem storeD_ptr (n:Nat) (M:VM) (x:DV) (j i off:Nat):zfl n M x (.ptr j i off)=stJ n M (zD x) j i off (M.obj j):=by
  show(M.obj j).bind _=_
  cases M.obj j with
  |none=>rfl
  |some o=>cases o with
   |rows op sz rs=>
    show(rs[i]?).bind _=stI n M (zD x) j i off op sz rs (rs[i]?)
    cases rs[i]? with
    |none=>rfl
    |some r=>
     show(if _ then _ else _)=(if _ then _ else _)
     congr 1
     cases zN r off (zD x)<;>rfl
   |_=>rfl
def stR:Option VM→RD
 |some M=>some (.tup [],M)
 |none=>none
@[simp] theorem stR_some (M:VM):stR (some M)=some (.tup [],M):=id rfl
def stO (n:Nat) (M:VM):Option DV→Option DV→RD
 |some a,some x=>stR (zfl n M x a)
 |_,_=>none
@[simp] theorem stO_some (n:Nat) (M:VM) (a x:DV):stO n M (some a) (some x)=stR (zfl n M x a):=id rfl
def bxO (M:VM):Option DV→RD
 |some v=>some (.ptr M.next 0 0,M.new (.rows false (zD v).length [zD v]))
 |none=>none
@[simp] theorem bxO_some (M:VM) (v:DV):bxO M (some v)=some (.ptr M.next 0 0,M.new (.rows false (zD v).length [zD v])):=id rfl
def alO (M:VM):Option (List DV)→RD
 |some z=>some (.ptr M.next 0 0,M.new (.rows false z.length [z]))
 |none=>none
@[simp] theorem alO_some (M:VM) (z:List DV):alO M (some z)=some (.ptr M.next 0 0,M.new (.rows false z.length [z])):=id rfl
def bdO:Option (List DV)→Option (List (Nat×Nat×DV))→Option DV
 |some z,some l=>(zhV z l).map .agg
 |_,_=>none
@[simp] theorem bdO_some (z:List DV) (l:List (Nat×Nat×DV)):bdO (some z) (some l)=(zhV z l).map .agg:=id rfl
def msR (M:VM) (len size:Nat):Option (List (List DV))→RD
 |some rows=>some (.ms M.next 0 len len,M.new (.rows false size rows))
 |none=>none
@[simp] theorem msR_some (M:VM) (len size:Nat) (rows:List (List DV)):msR M len size (some rows)=some (.ms M.next 0 len len,M.new (.rows false size rows)):=id rfl
def bsO (M:VM) (len size:Nat):Option (List DV)→Option (List (Nat×DV))→RD
 |some z,some l=>if z.length=size∧len<zg then msR M len size (zcV size (List.replicate len z) l) else none
 |_,_=>none
@[simp] theorem bsO_some (M:VM) (len size:Nat) (z:List DV) (l:List (Nat×DV)):bsO M len size (some z) (some l)=if z.length=size∧len<zg then msR M len size (zcV size (List.replicate len z) l) else none:=id rfl
def fnO (g:Fn) (M:VM):Option (List DV)→Option (List DV)→RD
 |some a,some b=>match g with|.func g=>some (.fn g a b,M)|_=>none
 |_,_=>none
@[simp] theorem fnO_some (g:Nat) (M:VM) (a b:List DV):fnO (.func g) M (some a) (some b)=some (.fn g a b,M):=id rfl
def lkE (kk:KK) (z:DV) (ok:Bool) (k:DV):Option (List (DV×DV))→Option DV
 |some es=>match zba kk k k with|some _=>(zf6 kk k es).map (zcY z ok)|none=>none
 |none=>none
def lkO (kk:KK) (ok:Bool) (M:VM):Option DV→Option DV→Option DV→Option DV
 |some m,some k,some z=>lkE kk z ok k (zbw M m)
 |_,_,_=>none
@[simp] theorem lkO_some (kk:KK) (ok:Bool) (M:VM) (m k z:DV):lkO kk ok M (some m) (some k) (some z)=lkE kk z ok k (zbw M m):=id rfl
def muO (kk:KK) (M:VM):Option DV→Option DV→Option DV→RD
 |some m,some k,some x=>stR (updD kk M k x m)
 |_,_,_=>none
@[simp] theorem muO_some (kk:KK) (M:VM) (m k x:DV):muO kk M (some m) (some k) (some x)=stR (updD kk M k x m):=id rfl
def exV (i:Nat):DV→Option DV
 |.tup l=>l[i]?
 |_=>none
@[simp] theorem exV_tup (i:Nat) (l:List DV):exV i (.tup l)=l[i]?:=id rfl
def ssO:Option DV→Option (Option DV)→Option (Option DV)→Option DV
 |some v,some lo,some hi=>zcj lo hi v
 |_,_,_=>none
@[simp] theorem ssO_some (v:DV) (lo hi:Option DV):ssO (some v) (some lo) (some hi)=zcj lo hi v:=id rfl
def blO (b:CB) (M:VM):Option (List DV)→RD
 |some l=>bltD M b l
 |none=>none
@[simp] theorem blO_some (b:CB) (M:VM) (l:List DV):blO b M (some l)=bltD M b l:=id rfl
def ifV (t:TypeId) (d:DV):Option DV:=some (.ifc t d)
@[simp] theorem ifV_eq (t:TypeId) (d:DV):ifV t d=some (.ifc t d):=id rfl
def s2bD:DV→Option DV
 |.str b=>some (.bs b)
 |_=>none
@[simp] theorem s2bD_str (b:ByteArray):s2bD (.str b)=some (.bs b):=id rfl
section
variable {s:DS} {M:VM}
@[simp] theorem opD_mv (x:CO):opD (.mv x) s M=rdV M (evD s x):=zcz _ _
@[simp] theorem opD_pick (c a b:CO):opD (.pick c a b) s M=rdV M (pkO (evD s c) (evD s a) (evD s b)):=by
  show(evD s c).bind _=_;cases evD s c<;>first|rfl|exact zcz _ _
@[simp] theorem opD_build (z:List Value) (ps:List (Nat×Nat×CO)):opD (.build z ps) s M=rdV M (bdO (dOfL z) (zgZ s ps)):=by
  show(dOfL z).bind _=_
  cases dOfL z with
  |none=>rfl
  |some z=>show(zgZ s ps).bind _=_;cases zgZ s ps with
   |none=>rfl
   |some l=>show(zhV z l).map _=rdV M ((zhV z l).map .agg);cases zhV z l<;>rfl
@[simp] theorem opD_load1 (a:CO):opD (.load1 a) s M=rdV M (ld1 (rowO M (evD s a))):=by
  show(evD s a).bind _=_
  cases evD s a with
  |none=>rfl
  |some a=>show(zcL M a).bind _=rdV M (ld1 (zcL M a));cases zcL M a with
   |none=>rfl
   |some r=>exact zcz _ _
@[simp] theorem opD_loadN (n:Nat) (a:CO):opD (.loadN n a) s M=rdV M (ldN n (rowO M (evD s a))):=by
  show(evD s a).bind _=_
  cases evD s a with
  |none=>rfl
  |some a=>show(zcL M a).bind _=rdV M (ldN n (zcL M a));cases zcL M a with
   |none=>rfl
   |some r=>show(zdx n r).map _=rdV M ((zdx n r).map .agg);cases zdx n r<;>rfl
@[simp] theorem opD_store (n:Nat) (a x:CO):opD (.store n a x) s M=stO n M (evD s a) (evD s x):=by
  show(evD s a).bind _=_
  cases evD s a with
  |none=>rfl
  |some a=>show(evD s x).bind _=_;cases evD s x with
   |none=>rfl
   |some x=>show(zfl n M x a).map _=stR (zfl n M x a);cases zfl n M x a<;>rfl
@[simp] theorem opD_nil (x:CO):opD (.nilCheck x) s M=rdV M (f1 nilD (evD s x)):=by
  show(evD s x).bind _=_;cases evD s x<;>first|rfl|exact zcz _ _
@[simp] theorem opD_bin (op:BinOp) (ek:EK) (x y:CO):opD (.bin op ek x y) s M=rdV M (f2 (binD op ek) (evD s x) (evD s y)):=by
  show(evD s x).bind _=_
  cases evD s x with
  |none=>rfl
  |some a=>show(evD s y).bind _=_;cases evD s y<;>first|rfl|exact zcz _ _
@[simp] theorem opD_un (op:UnOp) (x:CO):opD (.un op x) s M=rdV M (f1 (unD op) (evD s x)):=by
  show(evD s x).bind _=_;cases evD s x<;>first|rfl|exact zcz _ _
@[simp] theorem opD_conv (k:IntKind) (x:CO):opD (.conv k x) s M=rdV M (f1 (zj4 k) (evD s x)):=by
  show(evD s x).bind _=_;cases evD s x<;>first|rfl|exact zcz _ _
@[simp] theorem opD_makeFunc (g:Fn) (a b:List CO):opD (.makeFunc g a b) s M=fnO g M (evDL s a) (evDL s b):=by
  cases g with
  |func g=>
   show(evDL s a).bind _=_
   cases evDL s a with
   |none=>rfl
   |some a=>show(evDL s b).map _=_;cases evDL s b<;>rfl
  |_=>unfold opD fnO;cases evDL s a<;>cases evDL s b<;>rfl
@[simp] theorem opD_fieldAddr (n:Nat) (x:CO):opD (.fieldAddr n x) s M=rdV M (f1 (offD n) (evD s x)):=by
  show(evD s x).bind _=_;cases evD s x<;>first|rfl|exact zcz _ _
@[simp] theorem opD_indexAddr (n:Nat) (x i:CO):opD (.indexAddr n x i) s M=rdV M (f2 (ziz n M) (evD s i) (evD s x)):=by
  show(evD s x).bind _=_
  cases evD s x with
  |none=>cases evD s i<;>rfl
  |some a=>show(evD s i).bind _=_;cases evD s i<;>first|rfl|exact zcz _ _
@[simp] theorem opD_lookup (kk:KK) (z:Value) (ok:Bool) (x i:CO):opD (.lookup kk z ok x i) s M=rdV M (lkO kk ok M (evD s x) (evD s i) (dOf z)):=by
  show(evD s x).bind _=_
  cases evD s x with
  |none=>rfl
  |some m=>show(evD s i).bind _=_;cases evD s i with
   |none=>rfl
   |some k=>show(dOf z).bind _=_;cases dOf z with
    |none=>rfl
    |some z=>
     show(zba kk k k).bind _=rdV M (lkE kk z ok k (zbw M m))
     cases hk:zba kk k k with
     |none=>cases zbw M m<;>simp[lkE,hk,rdV]
     |some b=>
      show(zbw M m).bind _=_
      cases zbw M m with
      |none=>rfl
      |some es=>
       simp only[lkE,hk]
       show(zf6 kk k es).map _=rdV M ((zf6 kk k es).map _)
       cases zf6 kk k es<;>rfl
@[simp] theorem opD_mapUpdate (kk:KK) (m i x:CO):opD (.mapUpdate kk m i x) s M=muO kk M (evD s m) (evD s i) (evD s x):=by
  show(evD s m).bind _=_
  cases evD s m with
  |none=>rfl
  |some m=>show(evD s i).bind _=_;cases evD s i with
   |none=>rfl
   |some k=>show(evD s x).bind _=_;cases evD s x with
    |none=>rfl
    |some x=>show(updD kk M k x m).map _=stR (updD kk M k x m);cases updD kk M k x m<;>rfl
@[simp] theorem opD_extract (x:CO) (i:Nat):opD (.extract x i) s M=rdV M (f1 (exV i) (evD s x)):=by
  show(evD s x).bind _=_
  cases evD s x with
  |none=>rfl
  |some v=>cases v<;>first|rfl|exact zcz _ _
@[simp] theorem opD_strIdx (x i:CO):opD (.strIdx x i) s M=rdV M (f2 strIdxD (evD s x) (evD s i)):=by
  show(evD s x).bind _=_
  cases evD s x with
  |none=>rfl
  |some a=>show(evD s i).bind _=_;cases evD s i<;>first|rfl|exact zcz _ _
@[simp] theorem opD_mkI (t:TypeId) (x:CO):opD (.mkI t x) s M=rdV M (f1 (ifV t) (evD s x)):=by
  show(evD s x).map _=_;cases evD s x<;>rfl
@[simp] theorem opD_strSlice (x:CO) (lo hi:Option CO):opD (.strSlice x lo hi) s M=rdV M (ssO (evD s x) (evDO s lo) (evDO s hi)):=by
  show(evD s x).bind _=_
  cases evD s x with
  |none=>rfl
  |some v=>show(evDO s lo).bind _=_;cases evDO s lo with
   |none=>rfl
   |some lo=>show(evDO s hi).bind _=_;cases evDO s hi<;>first|rfl|exact zcz _ _
@[simp] theorem opD_s2b (x:CO):opD (.s2b x) s M=rdV M (f1 s2bD (evD s x)):=by
  show(evD s x).bind _=_;cases evD s x with
  |none=>rfl
  |some v=>cases v<;>rfl
@[simp] theorem opD_b2s (x:CO):opD (.b2s x) s M=rdV M (f1 (b2sD M) (evD s x)):=by
  show(evD s x).bind _=_;cases evD s x<;>first|rfl|exact zcz _ _
@[simp] theorem opD_box (x:CO):opD (.box x) s M=bxO M (evD s x):=by
  show(evD s x).map _=_;cases evD s x<;>rfl
@[simp] theorem opD_alloc (z:List Value):opD (.alloc z) s M=alO M (dOfL z):=by
  show(dOfL z).map _=_;cases dOfL z<;>rfl
@[simp] theorem opD_makeMap:opD .makeMap s M=some (.map M.next,M.new (.map [])):=id rfl
@[simp] theorem opD_buildSlice (len size:Nat) (z:List Value) (ps:List (Nat×CO)):opD (.buildSlice len size z ps) s M=bsO M len size (dOfL z) (zeM s ps):=by
  show(dOfL z).bind _=_
  cases dOfL z with
  |none=>rfl
  |some z=>
   show(if z.length=size∧len<zg then(zeM s ps).bind _ else none)=_
   cases zeM s ps with
   |none=>split<;>rfl
   |some l=>
    show _=(if z.length=size∧len<zg then msR M len size (zcV size (List.replicate len z) l) else none)
    split
    ·show(zcV _ _ _).map _=_;cases zcV size (List.replicate len z) l<;>rfl
    ·rfl
@[simp] theorem opD_blt (b:CB) (as:List CO):opD (.blt b as) s M=blO b M (evDL s as):=by
  show(evDL s as).bind _=_;cases evDL s as<;>rfl
@[simp] theorem getS_bits (m n:Nat) (d:DV) (s:DS):getS ((bits m,d)::s) (bits n)=if m=n then some d else getS s (bits n):=by
  rw[zdm]
  by_cases h:m=n
  ·rw[if_pos h,if_pos (by rw[h])]
  ·rw[if_neg h,if_neg (fun e=>h (zfZ e))]
@[simp] theorem evD_t (n:Nat):evD s (.t (bits n))=getS s (bits n):=id rfl
@[simp] theorem evD_int (k:IntKind) (n:Int):evD s (.c (.int k n))=some (.int k n):=id rfl
@[simp] theorem evD_bool (b:Bool):evD s (.c (.bool b))=some (.bool b):=id rfl
@[simp] theorem evD_str (b:ByteArray):evD s (.c (.string b))=some (.str b):=id rfl
@[simp] theorem evD_fc (f:Nat):evD s (.c (.func (.func f) ⟨[]⟩ ⟨[]⟩))=some (.fn f [] []):=id rfl
@[simp] theorem evD_nilS:evD s (.c (.slice none 0 0))=some .nilS:=id rfl
@[simp] theorem evD_nilP:evD s (.c (.pointer none))=some .nilP:=id rfl
@[simp] theorem evD_nilI:evD s (.c .nilIface)=some .nilI:=id rfl
@[simp] theorem dOf_int (k:IntKind) (n:Int):dOf (.int k n)=some (.int k n):=id rfl
@[simp] theorem dOf_bool (b:Bool):dOf (.bool b)=some (.bool b):=id rfl
@[simp] theorem dOfL_nil:dOfL []=some []:=id rfl
@[simp] theorem dOfL_cons (v:Value) (r:List Value):dOfL (v::r)=(dOf1 v).bind fun d=>(dOfL r).map (d:: ·):=id rfl
@[simp] theorem dOf1_int (k:IntKind) (n:Int):dOf1 (.int k n)=some (.int k n):=id rfl
@[simp] theorem dOf1_bool (b:Bool):dOf1 (.bool b)=some (.bool b):=id rfl
@[simp] theorem dOf1_str (b:ByteArray):dOf1 (.string b)=some (.str b):=id rfl
@[simp] theorem dOf1_nilS:dOf1 (.slice none 0 0)=some .nilS:=id rfl
@[simp] theorem dOf1_nilM:dOf1 (.map none)=some .nilM:=id rfl
def consO:Option DV→Option (List DV)→Option (List DV)
 |some d,some l=>some (d::l)
 |_,_=>none
@[simp] theorem consO_some (d:DV) (l:List DV):consO (some d) (some l)=some (d::l):=id rfl
@[simp] theorem evDL_nil:evDL s []=some []:=id rfl
@[simp] theorem evDL_cons (x:CO) (r:List CO):evDL s (x::r)=consO (evD s x) (evDL s r):=by
  show(evD s x).bind _=_;cases evD s x<;>cases evDL s r<;>rfl
@[simp] theorem evDO_none:evDO s none=some none:=id rfl
@[simp] theorem evDO_some (x:CO):evDO s (some x)=(evD s x).map some:=id rfl
@[simp] theorem partsD_nil:zgZ s []=some []:=id rfl
@[simp] theorem partsD_cons (o n:Nat) (x:CO) (r:List (Nat×Nat×CO)):zgZ s ((o,n,x)::r)=(evD s x).bind fun v=>(zgZ s r).map ((o,n,v):: ·):=id rfl
@[simp] theorem partsSD_nil:zeM s []=some []:=id rfl
@[simp] theorem partsSD_cons (i:Nat) (x:CO) (r:List (Nat×CO)):zeM s ((i,x)::r)=(evD s x).bind fun v=>(zeM s r).map ((i,v):: ·):=id rfl
@[simp] theorem fillD_nil (z:List DV):zhV z []=some z:=id rfl
def fillR (r:List (Nat×Nat×DV)):Option (List DV)→Option (List DV)
 |some c=>zhV c r
 |none=>none
@[simp] theorem fillR_some (r:List (Nat×Nat×DV)) (c:List DV):fillR r (some c)=zhV c r:=id rfl
@[simp] theorem fillD_cons (z:List DV) (o n:Nat) (v:DV) (r:List (Nat×Nat×DV)):zhV z ((o,n,v)::r)=if(zD v).length=n∧0<n∧(zD v).all zr=true then fillR r (zN z o (zD v)) else none:=by
  show(if _ then(zN z o (zD v)).bind _ else none)=_
  congr 1;cases zN z o (zD v)<;>rfl
@[simp] theorem setRows_nil (n:Nat) (rows:List (List DV)):zcV n rows []=some rows:=id rfl
@[simp] theorem setRows_cons (n:Nat) (rows:List (List DV)) (i:Nat) (v:DV) (r:List (Nat×DV)):zcV n rows ((i,v)::r)=if(zD v).length=n∧0<n∧(zD v).all zr=true∧i<rows.length then zcV n (rows.set i (zD v)) r else none:=id rfl
@[simp] theorem writeD_n (l:List DV) (o:Nat):zN l o []=some l:=zht l o
@[simp] theorem writeD_0 (c:DV) (l:List DV) (v:DV) (vs:List DV):zN (c::l) 0 (v::vs)=(zN l 0 vs).map (v:: ·):=id rfl
@[simp] theorem writeD_s (c:DV) (l:List DV) (n:Nat) (v:DV) (vs:List DV):zN (c::l) (n+1) (v::vs)=(zN l n (v::vs)).map (c:: ·):=id rfl
@[simp] theorem putDD_some (p:List Bool) (v:DV):z6 (some p) v s=(p,v)::s:=id rfl
@[simp] theorem putDD_none (v:DV):z6 none v s=s:=id rfl
def kpL (p:List Bool) (r:DS):Option DV→DS
 |some d=>(p,d)::r
 |none=>r
@[simp] theorem kpL_some (p:List Bool) (r:DS) (d:DV):kpL p r (some d)=(p,d)::r:=id rfl
@[simp] theorem keepD_nil:zbL [] s=s:=id rfl
@[simp] theorem keepD_cons (p:List Bool) (L:List (List Bool)):zbL (p::L) s=zkv s (p::L):=id rfl
@[simp] theorem keepL_nil:zkv s []=[]:=id rfl
@[simp] theorem keepL_cons (p:List Bool) (L:List (List Bool)):zkv s (p::L)=kpL p (zkv s L) (getS s p):=by
  show(match getS s p with|some d=>_|none=>_)=_;cases getS s p<;>rfl
def wtB (w:Bool):Option DV→Option Bool
 |some (.bool b)=>some (b==w)
 |some (.tup _)=>some false
 |_=>none
@[simp] theorem wtB_bool (w b:Bool):wtB w (some (.bool b))=some (b==w):=id rfl
@[simp] theorem wtB_tup (w:Bool) (l:List DV):wtB w (some (.tup l))=some false:=id rfl
@[simp] theorem wantD_some (q:List Bool) (w:Bool):wantD (some (q,w)) s=wtB w (getS s q):=by
  show(getS s q).bind _=_
  cases getS s q with
  |none=>rfl
  |some d=>cases d<;>rfl
@[simp] theorem argsD_nil (i:Nat):argsD [] i s=s:=id rfl
@[simp] theorem argsD_cons (v:DV) (vs:List DV) (i:Nat):argsD (v::vs) i s=argsD vs (i+1) ((bits i,v)::s):=id rfl
def enO (k:DV→VM→Prop) (M:VM):Option (List DV)→Prop
 |some vs=>k (zi7 vs) M
 |none=>False
@[simp] theorem enO_some (k:DV→VM→Prop) (M:VM) (vs:List DV):enO k M (some vs)=k (zi7 vs) M:=id rfl
@[simp] theorem endD_eq (rs:List CR) (k:DV→VM→Prop):endD rs k s M=enO k M (resDL s M rs):=by
  unfold endD;cases resDL s M rs<;>rfl
@[simp] theorem resDL_nil:resDL s M []=some []:=id rfl
@[simp] theorem resDL_cons (r:CR) (rs:List CR):resDL s M (r::rs)=consO (resD s M r) (resDL s M rs):=by
  show(resD s M r).bind _=_;cases resD s M r<;>cases resDL s M rs<;>rfl
@[simp] theorem resD_tmp (p:List Bool):resD s M (.tmp p)=getS s p:=id rfl
@[simp] theorem resD_cell1 (p:List Bool):resD s M (.cell none p)=ld1 (rowO M (getS s p)):=by
  show(getS s p).bind _=_
  cases getS s p with
  |none=>rfl
  |some v=>show(zcL M v).bind _=ld1 (zcL M v);cases zcL M v<;>rfl
@[simp] theorem resD_cellN (n:Nat) (p:List Bool):resD s M (.cell (some n) p)=ldN n (rowO M (getS s p)):=by
  show(getS s p).bind _=_
  cases getS s p with
  |none=>rfl
  |some v=>show(zcL M v).bind _=ldN n (zcL M v);cases zcL M v<;>rfl
@[simp] theorem tupleD_one (v:DV):zi7 [v]=v:=id rfl
@[simp] theorem tupleD_nil:zi7 []=.tup []:=id rfl
@[simp] theorem tupleD_two (v u:DV) (l:List DV):zi7 (v::u::l)=.tup (v::u::l):=id rfl
end
section
variable {M:VM}
@[simp] theorem zb (o:MO):(M.new o).next=M.next+1:=id rfl
@[simp] theorem za (j:Nat) (o:MO):(M.put j o).next=M.next+1:=id rfl
@[simp] theorem zc (j:Nat):(M.del j).next=M.next:=id rfl
@[simp low] theorem zeN (o:MO) (i:Nat):(M.new o).obj i=if i=M.next then some o else M.obj i:=by
  unfold VM.obj VM.new;dsimp only;by_cases h:i=M.next<;>simp[h]
@[simp low] theorem zcm (o:MO) (j i:Nat):(M.put j o).obj i=if i=j then some o else M.obj i:=by
  unfold VM.obj VM.put;dsimp only;by_cases h:i=j<;>simp[h]
@[simp] theorem obj_new_eq (o:MO):(M.new o).obj M.next=some o:=by rw[zeN,if_pos rfl]
@[simp] theorem obj_new_ne {o:MO} {i:Nat} (h:i≠M.next):(M.new o).obj i=M.obj i:=by rw[zeN,if_neg h]
@[simp] theorem obj_put_eq (o:MO) (j:Nat):(M.put j o).obj j=some o:=by rw[zcm,if_pos rfl]
@[simp] theorem obj_put_ne {o:MO} {j i:Nat} (h:i≠j):(M.put j o).obj i=M.obj i:=by rw[zcm,if_neg h]
@[simp] theorem get_new_lt {o:MO} {i:Nat} (h:i<M.next):(M.new o).get i=M.get i:=by rw[get_new,if_neg (by omega)]
@[simp] theorem get_new_eq {o:MO}:(M.new o).get M.next=some (o,M.next):=by rw[get_new,if_pos rfl]
@[simp] theorem get_put_ne {j:Nat} {o:MO} {i:Nat} (h:i≠j):(M.put j o).get i=M.get i:=by rw[get_put,if_neg h]
@[simp] theorem get_put_eq {j:Nat} {o:MO}:(M.put j o).get j=some (o,M.next):=by rw[get_put,if_pos rfl]
theorem zbs {j:Nat} (o:MO) (h:j<M.next):(M.new o).obj j=M.obj j:=by rw[zeN,if_neg (by omega)]
@[simp] theorem offD_ptr (n j i o:Nat):offD n (.ptr j i o)=some (.ptr j i (o+n)):=id rfl
@[simp] theorem offD_pl (n s i o:Nat) (r:List (List DV)):offD n (.pl s r i o)=some (.pl s r i (o+n)):=id rfl
@[simp] theorem cellsD_agg (l:List DV):zD (.agg l)=l:=id rfl
@[simp] theorem cellsD_int (k:IntKind) (n:Int):zD (.int k n)=[.int k n]:=id rfl
@[simp] theorem cellsD_bool (b:Bool):zD (.bool b)=[.bool b]:=id rfl
@[simp] theorem cellsD_str (b:ByteArray):zD (.str b)=[.str b]:=id rfl
@[simp] theorem cellsD_lst (s:Nat) (r:List (List DV)):zD (.lst s r)=[.lst s r]:=id rfl
@[simp] theorem cellsD_map (j:Nat):zD (.map j)=[.map j]:=id rfl
@[simp] theorem cellsD_fn (g:Nat) (a c:List DV):zD (.fn g a c)=[.fn g a c]:=id rfl
@[simp] theorem isCellD_int (k:IntKind) (n:Int):zr (.int k n)=true:=id rfl
@[simp] theorem isCellD_bool (b:Bool):zr (.bool b)=true:=id rfl
@[simp] theorem isCellD_str (b:ByteArray):zr (.str b)=true:=id rfl
@[simp] theorem isCellD_lst (s:Nat) (r:List (List DV)):zr (.lst s r)=true:=id rfl
@[simp] theorem isCellD_nilS:zr .nilS=true:=id rfl
@[simp] theorem isCellD_map (j:Nat):zr (.map j)=true:=id rfl
@[simp] theorem nilD_ptr (j i o:Nat):nilD (.ptr j i o)=some (.ptr j i o):=id rfl
@[simp] theorem lenD_lst (s:Nat) (r:List (List DV)):lenD M (.lst s r)=some r.length:=id rfl
@[simp] theorem lenD_ms (j lo len cap:Nat):lenD M (.ms j lo len cap)=some len:=id rfl
def lenI (M:VM):Option Nat→RD
 |some n=>some (.int .i64 (n:Int),M)
 |none=>none
@[simp] theorem lenI_some (n:Nat):lenI M (some n)=some (.int .i64 (n:Int),M):=id rfl
@[simp] theorem bltD_len (d:DV):bltD M .len [d]=lenI M (lenD M d):=by show(lenD M d).map _=_;cases lenD M d<;>rfl
@[simp] theorem bltD_lenStr (s:ByteArray):bltD M .lenStr [.str s]=some (.int .i64 s.size,M):=id rfl
def apN (n b:Nat) (M:VM) (x:DV):Option (List (List DV))→RD
 |some new=>if new.all (fun r=>r.all zr)=true then zcG n b M new x else none
 |none=>none
@[simp] theorem apN_some (n b:Nat) (x:DV) (new:List (List DV)):apN n b M x (some new)=if new.all (fun r=>r.all zr)=true then zcG n b M new x else none:=id rfl
theorem bltD_append (n b:Nat) (s x:DV):bltD M (.append n b) [s,x]=if 0<n∧n<roE then apN n b M s (zbR M n x) else none:=by
 show(if _ then(zbR M n x).bind _ else none)=_
 congr 1;cases zbR M n x<;>rfl
def elO (n lo len:Nat):Option MO→Option (List (List DV))
 |some (.rows _ sz rs)=>if sz=n∧lo+len≤rs.length then some ((rs.drop lo).take len) else none
 |_=>none
@[simp] theorem elO_some (n lo len:Nat) (op:Bool) (sz:Nat) (rs:List (List DV)):elO n lo len (some (.rows op sz rs))=if sz=n∧lo+len≤rs.length then some ((rs.drop lo).take len) else none:=id rfl
@[simp] theorem elemsD_ms (n j lo len cap:Nat):zen M n (.ms j lo len cap)=elO n lo len (M.obj j):=by
  show(M.obj j).bind _=_
  cases M.obj j with
  |none=>rfl
  |some o=>cases o<;>rfl
@[simp] theorem appendedD_ms (n j lo len cap:Nat):zbR M n (.ms j lo len cap)=elO n lo len (M.obj j):=elemsD_ms n j lo len cap
theorem addrD_lst (s:Nat) (k:IntKind) (z:Int) (rows:List (List DV)):ziz s M (.int k z) (.lst s rows)=if 0≤z∧z.toNat<rows.length then some (.pl s rows z.toNat 0) else none:=by
 cases z with
 |ofNat i=>show(if s=s∧i<rows.length then _ else _)=_;simp
 |negSucc i=>show none=_;rw[if_neg (by omega)]
@[simp] theorem addrD_lstN (s:Nat) (k:IntKind) (i:Nat) (rows:List (List DV)):ziz s M (.int k (i:Int)) (.lst s rows)=if i<rows.length then some (.pl s rows i 0) else none:=by
  rw[addrD_lst];simp
@[simp] theorem addrD_bsN (k:IntKind) (i:Nat) (s:ByteArray):ziz 1 M (.int k (i:Int)) (.bs s)=if i<s.size then some (.pl 1 (bytesD s) i 0) else none:=by
  show(if 1=1∧i<s.size then _ else _)=_
  by_cases h:i<s.size
  ·rw[if_pos ⟨rfl,h⟩,if_pos h];rfl
  ·rw[if_neg (fun x=>h x.2),if_neg h]
def adO (n:Nat) (z:Int) (j lo len:Nat):Option MO→Option DV
 |some (.rows _ sz _)=>if sz=n∧0≤z∧z.toNat<len then some (.ptr j (lo+z.toNat) 0) else none
 |_=>none
@[simp] theorem adO_some (n:Nat) (z:Int) (j lo len:Nat) (op:Bool) (sz:Nat) (rs:List (List DV)):adO n z j lo len (some (.rows op sz rs))=if sz=n∧0≤z∧z.toNat<len then some (.ptr j (lo+z.toNat) 0) else none:=id rfl
@[simp] theorem addrD_ms (n:Nat) (k:IntKind) (z:Int) (j lo len cap:Nat):ziz n M (.int k z) (.ms j lo len cap)=adO n z j lo len (M.obj j):=by
  show(M.obj j).bind _=_
  cases M.obj j with
  |none=>rfl
  |some o=>cases o with
   |rows op sz rs=>
    cases z with
    |ofNat i=>show(if sz=n∧i<len then _ else _)=_;simp
    |negSucc i=>show none=_;rw[adO_some,if_neg (by omega)]
   |_=>cases z<;>rfl
def slT (j l:Nat) (lo:Option DV):Option Nat→Option DV
 |some hi=>(zy 0 hi lo).map fun lo=>.ms j (l+lo) (hi - lo) zg
 |none=>none
def slF (j l cap:Nat) (lo:Option DV):Option Nat→Option DV
 |some hi=>(zy 0 hi lo).map fun lo=>.ms j (if cap=lo then l else l+lo) (hi - lo) (cap - lo)
 |none=>none
def slM (n:Nat) (lo hi:Option DV) (j l len cap:Nat):Option MO→Option DV
 |some (.rows true sz rs)=>if sz=n∧cap=zg∧l≤rs.length then slT j l lo (zy len (rs.length - l) hi) else none
 |some (.rows false sz _)=>if sz=n∧cap<zg then slF j l cap lo (zy len cap hi) else none
 |_=>none
@[simp] theorem slM_true (n:Nat) (lo hi:Option DV) (j l len cap sz:Nat) (rs:List (List DV)):slM n lo hi j l len cap (some (.rows true sz rs))=if sz=n∧cap=zg∧l≤rs.length then slT j l lo (zy len (rs.length - l) hi) else none:=id rfl
@[simp] theorem slM_false (n:Nat) (lo hi:Option DV) (j l len cap sz:Nat) (rs:List (List DV)):slM n lo hi j l len cap (some (.rows false sz rs))=if sz=n∧cap<zg then slF j l cap lo (zy len cap hi) else none:=id rfl
@[simp] theorem sliceD_ms (n:Nat) (lo hi:Option DV) (j l len cap:Nat):sliceD n M lo hi (.ms j l len cap)=slM n lo hi j l len cap (M.obj j):=by
  show(M.obj j).bind _=_
  cases M.obj j with
  |none=>rfl
  |some o=>
   cases o with
   |rows op sz rs=>
    cases op with
    |true=>
     show(if sz=n∧cap=zg∧l≤rs.length then(zy len (rs.length - l) hi).bind _ else none)=_
     rw[slM_true];congr 1;cases zy len (rs.length - l) hi<;>rfl
    |false=>
     show(if sz=n∧cap<zg then(zy len cap hi).bind _ else none)=_
     rw[slM_false];congr 1;cases zy len cap hi<;>rfl
   |_=>rfl
def enT:Option MO→Option (List (DV×DV))
 |some (.map es)=>some es
 |_=>none
@[simp] theorem enT_some (es:List (DV×DV)):enT (some (.map es))=some es:=id rfl
@[simp] theorem entriesD_map (j:Nat):zbw M (.map j)=enT (M.obj j):=by
  show(M.obj j).bind _=_
  cases M.obj j with
  |none=>rfl
  |some o=>cases o<;>rfl
@[simp] theorem assertD_eq (t u:Nat) (z v:DV):zkk t z true (.ifc u v)=if u=t then some (.tup [v,.bool true]) else some (.tup [z,.bool false]):=by
  show(match Nat.beq u t,true with|true,true=>_|true,false=>_|false,true=>_|false,false=>_)=_
  by_cases h:u=t
  ·subst h;rw[if_pos rfl,Nat.beq_refl]
  ·rw[if_neg h];cases e:Nat.beq u t with
   |true=>exact absurd (Nat.eq_of_beq_eq_true e) h
   |false=>rfl
@[simp] theorem assertD_eq' (t u:Nat) (z v:DV):zkk t z false (.ifc u v)=if u=t then some v else none:=by
  show(match Nat.beq u t,false with|true,true=>_|true,false=>_|false,true=>_|false,false=>_)=_
  by_cases h:u=t
  ·subst h;rw[if_pos rfl,Nat.beq_refl]
  ·rw[if_neg h];cases e:Nat.beq u t with
   |true=>exact absurd (Nat.eq_of_beq_eq_true e) h
   |false=>rfl
end
abbrev I (n:Int):DV:=.int .i64 n
section
variable {ek:EK} {a b:Int}
theorem zgB (a b:Int):eqI a b=decide (a=b):=by rw[zhf];by_cases h:a=b<;>simp[h]
@[simp] theorem bin_lss:binD .lss ek (.int .i64 a) (.int .i64 b)=some (.bool (decide (a<b))):=by show some (DV.bool (ltI a b))=_;rw[ze8]
@[simp] theorem bin_gtr:binD .gtr ek (.int .i64 a) (.int .i64 b)=some (.bool (decide (b<a))):=by show some (DV.bool (ltI b a))=_;rw[ze8]
@[simp] theorem bin_leq:binD .leq ek (.int .i64 a) (.int .i64 b)=some (.bool (decide (a≤b))):=by
  show some (DV.bool (!(ltI b a)))=_;rw[ze8];congr 2;by_cases h:b<a<;>simp[h]<;>omega
@[simp] theorem bin_geq:binD .geq ek (.int .i64 a) (.int .i64 b)=some (.bool (decide (b≤a))):=by
  show some (DV.bool (!(ltI a b)))=_;rw[ze8];congr 2;by_cases h:a<b<;>simp[h]<;>omega
@[simp] theorem bin_eql:binD .eql ek (.int .i64 a) (.int .i64 b)=some (.bool (decide (a=b))):=by show some (DV.bool (eqI a b))=_;rw[zgB]
@[simp] theorem bin_neq:binD .neq ek (.int .i64 a) (.int .i64 b)=some (.bool (!decide (a=b))):=by show some (DV.bool (!(eqI a b)))=_;rw[zgB]
@[simp] theorem bin_add:binD .add ek (.int .i64 a) (.int .i64 b)=some (.int .i64 (zio .i64 (a+b))):=id rfl
@[simp] theorem bin_sub:binD .sub ek (.int .i64 a) (.int .i64 b)=some (.int .i64 (zio .i64 (a - b))):=id rfl
@[simp] theorem bin_mul:binD .mul ek (.int .i64 a) (.int .i64 b)=some (.int .i64 (zio .i64 (a*b))):=id rfl
@[simp] theorem un_not (b:Bool):unD .not (.bool b)=some (.bool !b):=id rfl
theorem wrapF_in {n:Int} (h1: -9223372036854775808≤n) (h2:n≤9223372036854775807):zio .i64 n=n:=by
 rw[ziC]
 show(if(true&&decide (n%(2^64:Int)≥(2^63:Int)))=true then n%(2^64:Int) - (2^64:Int) else n%(2^64:Int))=n
 simp only[Bool.true_and,decide_eq_true_eq]
 split<;>omega
theorem zU {n:Int} (h1: -9223372036854775808≤n) (h2:n<9223372036854775808):zio .i64 n=n:=wrapF_in h1 (by omega)
end
section
variable {F:FuncId→Option ze} {n0:Nat}
@[simp] theorem rD_call (f:DV) (l:List DV) (M:VM) (k kp:DV→VM→Prop):(rD F n0).call f l M k kp=zj F f l M k kp:=id rfl
@[simp] theorem rD_loop (L:List (List Bool)) (b:CC) (K:KD) (s:DS) (M:VM):(rD F n0).loop L b K s M=zcw F n0 L b K s M:=id rfl
@[simp] theorem rD_hand (f:DV) (l:List DV) (p:Option DV) (M:VM) (k:VM→Prop):(rD F n0).hand f l p M k=HandD F f l p M k:=id rfl
end
section
variable {F:FuncId→Option ze} {n0:Nat}
theorem zj.fn {g:Nat} {a c args:List DV} {M:VM} {k kp:DV→VM→Prop} {cf:ze} (hF:F g=some cf) (hp:cf.prim=none) (hn:(a++args++c).length≤cf.ntmps) (h: @Cd (rD F M.next) (.base (bodyKD (rD F) cf.results k kp cf.dfr)) cf.body (argsD (a++args++c) 0 []) M):zj F (.fn g a c) args M k kp:=
 zj.func hF hp ⟨hn,h⟩
@[simp] theorem bodyKD_none (X:Nat→RnD) (rs:List CR) (k kp:DV→VM→Prop):bodyKD X rs k kp none=fnKD rs k kp:=id rfl
@[simp] theorem fnKD_ret (rs:List CR) (k kp:DV→VM→Prop) (s:DS) (M:VM):(fnKD rs k kp).ret s M=endD rs k s M:=id rfl
@[simp] theorem fnKD_nrm (rs:List CR) (k kp:DV→VM→Prop) (s:DS) (M:VM):(fnKD rs k kp).nrm s M=endD rs k s M:=id rfl
@[simp] theorem fnKD_pan (rs:List CR) (k kp:DV→VM→Prop) (v:DV) (s:DS) (M:VM):(fnKD rs k kp).pan v s M=kp v M:=id rfl
def LoK (F:FuncId→Option ze) (n0:Nat) (L:List (List Bool)) (b:CC) (K:KD):KD:=⟨fun s M=>zcw F n0 L b K (zbL L s) M,K.ext,K.ret,K.pan⟩
@[simp] theorem LoK_nrm (L:List (List Bool)) (b:CC) (K:KD) (s:DS) (M:VM):(LoK F n0 L b K).nrm s M=zcw F n0 L b K (zbL L s) M:=id rfl
@[simp] theorem LoK_ext (L:List (List Bool)) (b:CC) (K:KD) (i:Nat) (s:DS) (M:VM):(LoK F n0 L b K).ext i s M=K.ext i s M:=id rfl
@[simp] theorem LoK_ret (L:List (List Bool)) (b:CC) (K:KD) (s:DS) (M:VM):(LoK F n0 L b K).ret s M=K.ret s M:=id rfl
@[simp] theorem LoK_pan (L:List (List Bool)) (b:CC) (K:KD) (v:DV) (s:DS) (M:VM):(LoK F n0 L b K).pan v s M=K.pan v s M:=id rfl
theorem zcw.go {L:List (List Bool)} {b b':CC} {K:KD} {s:DS} {M:VM} (hb:b=b') (h: @Cd (rD F n0) (.base (LoK F n0 L b K)) b' (zbL L s) M):zcw F n0 L b K s M:=zcw.step (hb▸h)
def SM (n:Nat) (M M':VM):Prop:= ∀j,j<n→M'.get j=M.get j
@[simp] theorem zp (n:Nat) (M:VM):SM n M M:=fun _ _=>rfl
@[simp] theorem zt {n:Nat} {M M':VM} {o:MO} (h:SM n M M') (hn:n≤M'.next):SM n M (M'.new o):=fun j hj=>by rw[get_new,if_neg (by omega)];exact h j hj
@[simp] theorem zq {n:Nat} {M M':VM} {i:Nat} {o:MO} (h:SM n M M') (hn:n≤i):SM n M (M'.put i o):=fun j hj=>by rw[get_put,if_neg (by omega)];exact h j hj
@[simp] theorem zw {n:Nat} {M M':VM} {i:Nat} (h:SM n M M') (hn:n≤i):SM n M (M'.del i):=fun j hj=>by rw[get_del,if_neg (by omega)];exact h j hj
theorem SFrz.refl {M' M2:VM} {s:DS} (h: ∀x∈s,zQ M2.next x.2):SFrz M' M2 s s:=fun p e he=>⟨e,he,.refl e,by
 induction s with
 |nil=>cases he
 |cons x s ih=>
  obtain⟨x1,x2⟩:=x
  rw[zdm] at he
  split at he
  ·cases he;exact h _ (List.mem_cons_self ..)
  ·exact ih (fun x hx=>h x (List.mem_cons_of_mem _ hx)) he⟩
def Back (k:DV→VM→Prop) (M:VM) (d:DV) (M':VM):Prop:=M.Wf→ ∃e,Frz M' M d e∧zQ M.next e∧(∀j,j<M.next→M'.get j=M.get j)∧k e M
theorem zj.back {f:DV} {args:List DV} {M:VM} {k kp:DV→VM→Prop} (h:zj F f args M (Back k M) kp):zj F f args M k kp:=
 zj.wf fun hw=>zj.conv (h.mono (fun d M' q=>let⟨e,h1,h2,h3,h4⟩:=q hw;⟨e,M,.same h3,h1,h2,h4⟩) (fun _ _ q=>q))
theorem Back.plain {k:DV→VM→Prop} {M M':VM} {d:DV} (hb:zQ M.next d) (h:SM M.next M M') (hk:k d M):Back k M d M':=fun _=>⟨d,.refl d,hb,h,hk⟩
end
@[simp] theorem below_int {n:Nat} (k:IntKind) (a:Int):zQ n (.int k a):=.int k a
@[simp] theorem below_bool {n:Nat} (b:Bool):zQ n (.bool b):=.bool b
@[simp] theorem below_str {n:Nat} (b:ByteArray):zQ n (.str b):=.str b
theorem below_iff {n:Nat} {p:DV} {q:Prop} (h1:zQ n p→q) (h2:q→zQ n p):zQ n p=q:=propext ⟨h1,h2⟩
@[simp] theorem below_tup {n:Nat} (l:List DV):zQ n (.tup l)= ∀d∈l,zQ n d:=below_iff (fun h=>by cases h;assumption) .tup
attribute [simp] zm zdV zi isW isRd isFl refD zcy
section
variable {M M':VM} {s:DS}
@[simp] theorem inP_nil (p:List Bool):inP [] p=false:=id rfl
@[simp] theorem inP_bits (m n:Nat) (r:List (List Bool)):inP (bits m::r) (bits n)=if m=n then true else inP r (bits n):=by
  show(match beqP (bits m) (bits n) with|true=>true|false=>inP r (bits n))=_
  by_cases h:m=n
  ·subst h;rw[if_pos rfl,zeq]
  ·rw[if_neg h];cases e:beqP (bits m) (bits n) with
   |true=>exact absurd (zfZ (beqP_eq e)) h
   |false=>rfl
def fr1:Bool→Bool→Bool
 |true,_=>false
 |false,b=>b
@[simp] theorem fr1_true (b:Bool):fr1 true b=false:=id rfl
@[simp] theorem fr1_false (b:Bool):fr1 false b=b:=id rfl
@[simp] theorem freeOf_nil (b:List (List Bool)):zc5 b []=true:=id rfl
@[simp] theorem freeOf_cons (b:List (List Bool)) (p:List Bool) (r:List (List Bool)):zc5 b (p::r)=fr1 (inP b p) (zc5 b r):=by
  show(match inP b p with|true=>false|false=>zc5 b r)=_;cases inP b p<;>rfl
def nt:Bool→Option (List Bool)→Mo→Mo
 |true,_,x=>x
 |false,q,x=>zcv q x
@[simp] theorem nt_true (q:Option (List Bool)) (x:Mo):nt true q x=x:=id rfl
@[simp] theorem nt_false (q:Option (List Bool)) (x:Mo):nt false q x=zcv q x:=id rfl
@[simp] theorem noteN_eq (ns:List (List Bool)) (q:Option (List Bool)) (i:Nat) (M:VM) (b:List (List Bool)):zg2 ns q ⟨i,M,b⟩=nt (zc5 b ns) q ⟨i,M,b⟩:=by
  show(match zc5 b ns with|true=>_|false=>_)=_;cases zc5 b ns<;>rfl
@[simp] theorem addBad_some (q:List Bool) (i:Nat) (M:VM) (b:List (List Bool)):zcv (some q) ⟨i,M,b⟩=⟨i,M,q::b⟩:=id rfl
@[simp] theorem addBad_none (x:Mo):zcv none x=x:=id rfl
def rfO:Option DV→List Nat
 |some d=>refD d
 |none=>[]
@[simp] theorem rfO_some (d:DV):rfO (some d)=refD d:=id rfl
theorem ziG (x:CO):zcW s x=rfO (evD s x):=by unfold zcW;cases evD s x<;>rfl
@[simp] theorem refs_load1 (a:CO):zcl s (.load1 a)=rfO (evD s a):=ziG a
@[simp] theorem refs_loadN (n:Nat) (a:CO):zcl s (.loadN n a)=rfO (evD s a):=ziG a
@[simp] theorem refs_lookup (kk:KK) (z:Value) (ok:Bool) (x i:CO):zcl s (.lookup kk z ok x i)=rfO (evD s x):=ziG x
@[simp] theorem refs_b2s (x:CO):zcl s (.b2s x)=rfO (evD s x):=ziG x
theorem get_isSome (j:Nat):(M.get j).isSome=(M.obj j).isSome:=by unfold VM.obj;cases M.get j<;>rfl
@[simp] theorem alikeAt_nil:zfL [] M M'=True:=id rfl
@[simp] theorem alikeAt_cons (j:Nat) (r:List Nat):zfL (j::r) M M'=((M.get j=M'.get j∧(M.obj j).isSome=true)∧zfL r M M'):=by rw[←get_isSome];rfl
@[simp] theorem rdAt_eq (rs:List Nat) (ns:List (List Bool)) (i:Nat) (b:List (List Bool)):rdAt rs ns M ⟨i,M',b⟩=(zc5 b ns=true∧zfL rs M M'):=id rfl
@[simp] theorem rdOk_nil (op:COp) (rs:List Nat) (ns:List (List Bool)) (s:DS) (d:DV) (lo:Nat):rdOk op rs ns s d M lo []=True:=id rfl
@[simp] theorem rdOk_cons (op:COp) (rs:List Nat) (ns:List (List Bool)) (s:DS) (d:DV) (lo i:Nat) (b:List (List Bool)) (r:List Mo):rdOk op rs ns s d M lo (⟨i,M',b⟩::r)=((if i<lo then True else(rdAt rs ns M ⟨i,M',b⟩∨rdAlt op ns s d ⟨i,M',b⟩))∧rdOk op rs ns s d M lo r):=by
  show((match Nat.blt i lo with|true=>True|false=>_)∧_)=_
  by_cases h:i<lo
  ·rw[if_pos h,show Nat.blt i lo=true from by show Nat.ble (i+1) lo=true;rw[Nat.ble_eq];exact h]
  ·rw[if_neg h];cases e:Nat.blt i lo with
   |true=>have e:Nat.ble (i+1) lo=true:=e;rw[Nat.ble_eq] at e;exact absurd e h
   |false=>rfl
@[simp] theorem rdBad_nil (lo:Nat) (q:Option (List Bool)):zis lo q []=[]:=id rfl
@[simp] theorem rdBad_cons (lo:Nat) (q:Option (List Bool)) (i:Nat) (b:List (List Bool)) (r:List Mo):zis lo q (⟨i,M,b⟩::r)=(if i<lo then zcv q ⟨i,M,b⟩ else⟨i,M,b⟩)::zis lo q r:=by
  show(match Nat.blt i lo with|true=>_|false=>_)::_=_
  by_cases h:i<lo
  ·rw[if_pos h,show Nat.blt i lo=true from by show Nat.ble (i+1) lo=true;rw[Nat.ble_eq];exact h]
  ·rw[if_neg h];cases e:Nat.blt i lo with
   |true=>have e:Nat.ble (i+1) lo=true:=e;rw[Nat.ble_eq] at e;exact absurd e h
   |false=>rfl
@[simp] theorem nextMo_cons (i:Nat) (b:List (List Bool)) (r:List Mo):zjE (⟨i,M,b⟩::r)=i+1:=id rfl
@[simp] theorem selfIn_one (x:Mo) (d:DV):zjk [x] d=true:=id rfl
@[simp] theorem selfIn_two (x y:Mo) (r:List Mo) (d:DV):zjk (x::y::r) d=zh3 d:=id rfl
@[simp] theorem selfEq_agg (l:List DV):zh3 (.agg l)=l.all zcy:=id rfl
@[simp] theorem selfEq_int (k:IntKind) (a:Int):zh3 (.int k a)=true:=id rfl
@[simp] theorem selfEq_str (b:ByteArray):zh3 (.str b)=true:=id rfl
end
end
end Go.Ideal
set_option maxRecDepth 100000
namespace Go.Ideal.Q
abbrev n_b:Nat:=6
abbrev n_g:Nat:=9
abbrev n_9:Nat:=10
abbrev n_P:Nat:=11
abbrev n_y:Nat:=13
abbrev n_M:Nat:=16
abbrev n_U:Nat:=17
abbrev n_C:Nat:=19
abbrev n_l:Nat:=37
abbrev n_h:Nat:=38
abbrev n_A:Nat:=41
abbrev n_be:Nat:=42
abbrev n_v:Nat:=43
abbrev n_a:Nat:=44
abbrev n_Y:Nat:=49
abbrev n_Q:Nat:=50
abbrev n_8:Nat:=53
abbrev n_x:Nat:=54
abbrev n_m:Nat:=55
abbrev n_T:Nat:=60
abbrev n_Z:Nat:=63
abbrev n_N:Nat:=64
abbrev n_V:Nat:=76
abbrev n_E:Nat:=79
abbrev n_F:Nat:=84
abbrev n_W:Nat:=85
abbrev n_bc:Nat:=86
abbrev n_i:Nat:=87
abbrev n_bd:Nat:=88
abbrev n_bb:Nat:=89
abbrev n_L:Nat:=90
abbrev n_X:Nat:=91
abbrev n_4:Nat:=92
abbrev n_I:Nat:=93
abbrev n_1:Nat:=94
abbrev n_G:Nat:=95
abbrev n_H:Nat:=96
abbrev n_0:Nat:=97
abbrev n_D:Nat:=98
abbrev n_R:Nat:=99
abbrev n_O:Nat:=100
abbrev n_q:Nat:=101
abbrev n_S:Nat:=102
abbrev n_7:Nat:=113
abbrev n_w:Nat:=114
abbrev n_u:Nat:=115
abbrev n_k:Nat:=116
abbrev n_J:Nat:=119
abbrev n_K:Nat:=120
abbrev n_p:Nat:=140
abbrev n_z:Nat:=151
abbrev n_ba:Nat:=152
abbrev n_s:Nat:=153
abbrev n_6:Nat:=154
abbrev n_r:Nat:=155
abbrev n_5:Nat:=156
abbrev n_n:Nat:=157
abbrev n_2:Nat:=158
abbrev n_o:Nat:=159
abbrev n_3:Nat:=160
abbrev n_t:Nat:=161
abbrev n_j:Nat:=172
abbrev n_f:Nat:=173
abbrev n_e:Nat:=174
abbrev n_c:Nat:=175
abbrev n_d:Nat:=176
def r_b_1:List CI:=[bx 3 (t 0),bx 4 (t 1),mv 6 ff]
def r_b_2:List CI:=[ln 21 3 3,ca 22 n_g [(t 21)],mv 23 (t 22),gu 23 false (fa 24 1 4),gu 23 false (l 25 24),gu 23 false (ca 26 n_M [(t 25)]),pk 27 (t 23) tt (t 26),mv 28 (t 27),gu 28 false (mv 29 (t 2)),gu 28 false (oo 30 (.blt .lenStr [(t 29)])),gu 28 false (bi .gtr 31 (t 30) (i 90000)),pk 32 (t 28) tt (t 31)]
def r_b_3:List CI:=[ca 33 n_9 [],mv 6 (t 33)]
def r_b_4:List CI:=[ln 35 3 3,ca 36 n_P [(t 35)],mv 34 (t 36),ex 37 34 0,ex 38 34 1,mv 7 (t 37),mv 8 (t 38)]
def r_b_5:List CI:=[ln 40 2 4,ca 41 n_U [(t 40)],mv 39 (t 41),ex 42 39 0,ex 43 39 1,mv 9 (t 42),mv 10 (t 43)]
def r_b_6:List CI:=[mv 44 (t 2),mv 45 (t 7),mv 46 (t 9),oo 47 (.buildSlice 3 1 [(.string ⟨#[]⟩)] [(0,(t 44)),(1,(t 45)),(2,(t 46))]),le 48 (t 47),mv 49 (i 0)]
def r_b_7:List CI:=[bi .lss 50 (t 49) (t 48)]
def r_b_8:List CI:=[ia 51 1 47 (t 49),l 52 51,mv 12 (t 52)]
def r_b_9:List CI:=[mv 54 (t 12),ca 55 n_y [(t 54)],mv 53 (t 55),ex 56 53 0,ex 57 53 1,oo 13 (.alloc [(.slice none 0 0),(.slice none 0 0),(.slice none 0 0)]),st 3 13 (t 56),mv 14 (t 57)]
def r_b_10:List CI:=[mv 59 (t 12),ca 60 n_C [(t 59)],mv 58 (t 60),ex 61 58 0,ex 62 58 1,oo 15 (.alloc [(iI 0),(.slice none 0 0)]),st 2 15 (t 61),mv 16 (t 62)]
def r_b_11:List CI:=[mv 63 (t 14),bi .eql 64 (t 63) (i 0),mv 65 (t 64),gu 65 true (mv 66 (t 16)),gu 65 true (bi .eql 67 (t 66) (i 0)),pk 68 (t 65) (t 67) ff]
def r_b_12:List CI:=[mv 6 ff]
def r_b_13:List CI:=[mv 69 (t 14),bi .eql 70 (t 69) (i 0)]
def r_b_14:List CI:=[ln 72 3 13,ca 73 n_P [(t 72)],mv 71 (t 73),ex 74 71 0,ex 75 71 1,mv 17 (t 74),mv 18 (t 75)]
def r_b_15:List CI:=[mv 76 (t 18),bi .neq 77 (t 76) (i 0),mv 78 (t 77),gu 78 false (mv 79 (t 17)),gu 78 false (mv 80 (t 12)),gu 78 false (bi .neq 81 (t 79) (t 80)),pk 82 (t 78) tt (t 81)]
def r_b_16:List CI:=[mv 6 ff]
def r_b_17:List CI:=[mv 83 (t 16),bi .eql 84 (t 83) (i 0)]
def r_b_18:List CI:=[ln 86 2 15,ca 87 n_U [(t 86)],mv 85 (t 87),ex 88 85 0,ex 89 85 1,mv 19 (t 88),mv 20 (t 89)]
def r_b_19:List CI:=[mv 90 (t 20),bi .neq 91 (t 90) (i 0),mv 92 (t 91),gu 92 false (mv 93 (t 19)),gu 92 false (mv 94 (t 12)),gu 92 false (bi .neq 95 (t 93) (t 94)),pk 96 (t 92) tt (t 95)]
def r_b_20:List CI:=[mv 6 ff]
def r_b_21:List CI:=[mv 97 (t 8),bi .eql 98 (t 97) (i 0),mv 99 (t 98),gu 99 true (mv 100 (t 12)),gu 99 true (mv 101 (t 7)),gu 99 true (bi .eql 102 (t 100) (t 101)),pk 103 (t 99) (t 102) ff,mv 104 (t 103),gu 104 true (mv 105 (t 14)),gu 104 true (bi .neq 106 (t 105) (i 0)),pk 107 (t 104) (t 106) ff,mv 108 (t 107),gu 108 false (mv 109 (t 10)),gu 108 false (bi .eql 110 (t 109) (i 0)),gu 108 false (mv 111 (t 110)),gu 111 true (mv 112 (t 12)),gu 111 true (mv 113 (t 9)),gu 111 true (bi .eql 114 (t 112) (t 113)),gu 108 false (pk 115 (t 111) (t 114) ff),gu 108 false (mv 116 (t 115)),gu 116 true (mv 117 (t 16)),gu 116 true (bi .neq 118 (t 117) (i 0)),gu 108 false (pk 119 (t 116) (t 118) ff),pk 120 (t 108) tt (t 119)]
def r_b_22:List CI:=[mv 6 ff]
def r_b_23:List CI:=[bi .add 121 (t 49) (i 1),mv 49 (t 121)]
def c_b_24:CC:=(.seq (.ops r_b_7) (bs [7,8,9,10,47,48,49,50]) (.seq (.cond (t 50) .skip (.exit 0)) (bs [7,8,9,10,47,48,49]) (.seq (.block 2 (.seq (.ops r_b_8) (bs [7,8,9,10,12,47,48,49]) (.seq (.ops r_b_9) (bs [7,8,9,10,12,13,14,47,48,49]) (.seq (.ops r_b_10) (bs [7,8,9,10,12,13,14,15,16,47,48,49]) (.seq (.seq (.ops r_b_11) (bs [7,8,9,10,12,13,14,15,16,47,48,49,68]) (.cond (t 68) (.seq (.ops r_b_12) (bs [6]) .ret) .skip)) (bs [7,8,9,10,12,13,14,15,16,47,48,49]) (.seq (.seq (.ops r_b_13) (bs [7,8,9,10,12,13,14,15,16,47,48,49,70]) (.cond (t 70) (.seq (.ops r_b_14) (bs [7,8,9,10,12,14,15,16,17,18,47,48,49]) (.seq (.ops r_b_15) (bs [7,8,9,10,12,14,15,16,47,48,49,82]) (.cond (t 82) (.seq (.ops r_b_16) (bs [6]) .ret) .skip))) .skip)) (bs [7,8,9,10,12,14,15,16,47,48,49]) (.seq (.seq (.ops r_b_17) (bs [7,8,9,10,12,14,15,16,47,48,49,84]) (.cond (t 84) (.seq (.ops r_b_18) (bs [7,8,9,10,12,14,16,19,20,47,48,49]) (.seq (.ops r_b_19) (bs [7,8,9,10,12,14,16,47,48,49,96]) (.cond (t 96) (.seq (.ops r_b_20) (bs [6]) .ret) .skip))) .skip)) (bs [7,8,9,10,12,14,16,47,48,49]) (.seq (.ops r_b_21) (bs [7,8,9,10,47,48,49,120]) (.cond (t 120) (.seq (.ops r_b_22) (bs [6]) .ret) .skip))))))))) (bs [7,8,9,10,47,48,49]) (.ops r_b_23))))
def r_b_25:List CI:=[ca 122 n_9 [],mv 6 (t 122)]
def c_b:CC:=(.seq (.ops r_b_1) (bs [2,3,4]) (.seq (.seq (.ops r_b_2) (bs [2,3,4,32]) (.cond (t 32) (.seq (.ops r_b_3) (bs [6]) .ret) .skip)) (bs [2,3,4]) (.seq (.ops r_b_4) (bs [2,4,7,8]) (.seq (.ops r_b_5) (bs [2,7,8,9,10]) (.seq (.seq (.ops r_b_6) (bs [7,8,9,10,47,48,49]) (.block 0 (.loop (bs [7,8,9,10,47,48,49]) c_b_24))) [] (.seq (.ops r_b_25) (bs [6]) .ret))))))
def f_b:ze:=⟨123,[.tmp (bits 6)],c_b,none,none⟩
def r_g_1:List CI:=[bx 1 (t 0),mv 2 ff]
def r_g_2:List CI:=[fa 6 0 1,l 7 6,le 8 (t 7),bi .gtr 9 (t 8) (i 70),mv 10 (t 9),gu 10 false (fa 11 1 1),gu 10 false (l 12 11),gu 10 false (le 13 (t 12)),gu 10 false (bi .gtr 14 (t 13) (i 70)),pk 15 (t 10) tt (t 14),mv 16 (t 15),gu 16 false (fa 17 2 1),gu 16 false (l 18 17),gu 16 false (le 19 (t 18)),gu 16 false (bi .gtr 20 (t 19) (i 70)),pk 21 (t 16) tt (t 20)]
def r_g_3:List CI:=[mv 2 tt]
def r_g_4:List CI:=[mv 3 (i 0)]
def r_g_5:List CI:=[mv 22 (t 3),fa 23 1 1,l 24 23,le 25 (t 24),bi .lss 26 (t 22) (t 25)]
def r_g_6:List CI:=[fa 29 1 1,l 30 29,mv 31 (t 3),ia 32 2 30 (t 31),fa 33 1 32,l 34 33,le 35 (t 34),bi .gtr 36 (t 35) (i 20)]
def r_g_7:List CI:=[mv 2 tt]
def r_g_8:List CI:=[mv 4 (i 0)]
def r_g_9:List CI:=[mv 37 (t 4),fa 38 1 1,l 39 38,mv 40 (t 3),ia 41 2 39 (t 40),fa 42 1 41,l 43 42,le 44 (t 43),bi .lss 45 (t 37) (t 44)]
def r_g_10:List CI:=[fa 48 1 1,l 49 48,mv 50 (t 3),ia 51 2 49 (t 50),fa 52 1 51,l 53 52,mv 54 (t 4),ia 55 1 53 (t 54),fa 56 0 55,l 57 56,ca 58 n_M [(t 57)]]
def r_g_11:List CI:=[mv 2 tt]
def r_g_12:List CI:=[mv 46 (t 4),bi .add 47 (t 46) (i 1),mv 4 (t 47)]
def c_g_13:CC:=(.seq (.seq (.ops r_g_9) (bs [1,3,4,45]) (.cond (t 45) .skip (.exit 4))) (bs [1,3,4]) (.seq (.block 6 (.seq (.ops r_g_10) (bs [1,3,4,58]) (.cond (t 58) (.seq (.ops r_g_11) (bs [2]) .ret) .skip))) (bs [1,3,4]) (.ops r_g_12)))
def r_g_14:List CI:=[mv 27 (t 3),bi .add 28 (t 27) (i 1),mv 3 (t 28)]
def c_g_15:CC:=(.seq (.seq (.ops r_g_5) (bs [1,3,26]) (.cond (t 26) .skip (.exit 0))) (bs [1,3]) (.seq (.block 2 (.seq (.seq (.ops r_g_6) (bs [1,3,36]) (.cond (t 36) (.seq (.ops r_g_7) (bs [2]) .ret) .skip)) (bs [1,3]) (.seq (.ops r_g_8) (bs [1,3,4]) (.block 4 (.loop (bs [1,3,4]) c_g_13))))) (bs [1,3]) (.ops r_g_14)))
def r_g_16:List CI:=[mv 5 (i 0)]
def r_g_17:List CI:=[mv 59 (t 5),fa 60 2 1,l 61 60,le 62 (t 61),bi .lss 63 (t 59) (t 62)]
def r_g_18:List CI:=[fa 66 2 1,l 67 66,mv 68 (t 5),ia 69 4 67 (t 68),fa 70 1 69,fa 71 2 70,l 72 71,ca 73 n_M [(t 72)]]
def r_g_19:List CI:=[mv 2 tt]
def r_g_20:List CI:=[mv 64 (t 5),bi .add 65 (t 64) (i 1),mv 5 (t 65)]
def c_g_21:CC:=(.seq (.seq (.ops r_g_17) (bs [1,5,63]) (.cond (t 63) .skip (.exit 8))) (bs [1,5]) (.seq (.block 10 (.seq (.ops r_g_18) (bs [1,5,73]) (.cond (t 73) (.seq (.ops r_g_19) (bs [2]) .ret) .skip))) (bs [1,5]) (.ops r_g_20)))
def r_g_22:List CI:=[mv 2 ff]
def c_g:CC:=(.seq (.ops r_g_1) (bs [1]) (.seq (.seq (.ops r_g_2) (bs [1,21]) (.cond (t 21) (.seq (.ops r_g_3) (bs [2]) .ret) .skip)) (bs [1]) (.seq (.seq (.ops r_g_4) (bs [1,3]) (.block 0 (.loop (bs [1,3]) c_g_15))) (bs [1]) (.seq (.seq (.ops r_g_16) (bs [1,5]) (.block 8 (.loop (bs [1,5]) c_g_21))) [] (.seq (.ops r_g_22) (bs [2]) .ret)))))
def f_g:ze:=⟨74,[.tmp (bits 2)],c_g,none,none⟩
def r_P_1:List CI:=[bx 1 (t 0),mv 2 (.c (.string ⟨#[]⟩)),mv 3 (i 0)]
def r_P_2:List CI:=[ln 5 3 1,ca 6 n_l [(t 5)],no 7 6]
def r_P_3:List CI:=[mv 2 (.c (.string ⟨#[]⟩)),mv 3 (i 2)]
def r_P_4:List CI:=[ln 8 3 1,ca 9 n_h [(t 8)],mv 4 (t 9)]
def r_P_5:List CI:=[mv 10 (t 4),oo 11 (.blt .lenStr [(t 10)]),bi .gtr 12 (t 11) (i 80000)]
def r_P_6:List CI:=[mv 2 (.c (.string ⟨#[]⟩)),mv 3 (i 3)]
def r_P_7:List CI:=[mv 13 (t 4),mv 2 (t 13),mv 3 (i 0)]
def c_P:CC:=(.seq (.ops r_P_1) (bs [1]) (.seq (.seq (.ops r_P_2) (bs [1,7]) (.cond (t 7) (.seq (.ops r_P_3) (bs [2,3]) .ret) .skip)) (bs [1]) (.seq (.ops r_P_4) (bs [4]) (.seq (.seq (.ops r_P_5) (bs [4,12]) (.cond (t 12) (.seq (.ops r_P_6) (bs [2,3]) .ret) .skip)) (bs [4]) (.seq (.ops r_P_7) (bs [2,3]) .ret)))))
def f_P:ze:=⟨14,[.tmp (bits 2),.tmp (bits 3)],c_P,none,none⟩
def r_be:List CI:=[bx 1 (t 0),oo 2 (.alloc [(.slice none 0 0),(.slice none 0 0),(.slice none 0 0)]),mv 3 (i 0)]
def r_y_2:List CI:=[l 5 1,oo 6 (.blt .lenStr [(t 5)]),bi .gtr 7 (t 6) (i 80000)]
def r_y_3:List CI:=[oo 8 (.build [(.slice none 0 0),(.slice none 0 0),(.slice none 0 0)] []),st 3 2 (t 8),mv 3 (i 3)]
def r_y_4:List CI:=[oo 4 (.alloc [(.slice none 0 0),(.slice none 0 0),(.slice none 0 0)])]
def r_y_5:List CI:=[oo 9 (.makeFunc (.func n_be) [] [(t 1),(t 4)]),ca 10 n_A [(t 9)],lo 1 (no 11 10),lo 1 (mv 12 (t 11)),lo 1 (gu 12 false (ln 13 3 4)),lo 1 (gu 12 false (ca 14 n_l [(t 13)])),lo 2 (gu 12 false (no 15 14)),lo 2 (pk 16 (t 12) tt (t 15)),lo 2 (mv 17 (t 16)),lo 2 (gu 17 false (ln 18 3 4)),lo 2 (gu 17 false (ca 19 n_h [(t 18)])),lo 2 (gu 17 false (l 20 1)),lo 3 (gu 17 false (bi .neq 21 (t 19) (t 20))),lo 3 (pk 22 (t 17) tt (t 21))]
def r_y_6:List CI:=[oo 23 (.build [(.slice none 0 0),(.slice none 0 0),(.slice none 0 0)] []),st 3 2 (t 23),mv 3 (i 4)]
def r_y_7:List CI:=[ln 24 3 4,st 3 2 (t 24),mv 3 (i 0)]
def c_y:CC:=(.seq (.ops r_be) (bs [1,2]) (.seq (.seq (.ops r_y_2) (bs [1,2,7]) (.cond (t 7) (.seq (.ops r_y_3) (bs [2,3]) .ret) .skip)) (bs [1,2]) (.seq (.ops r_y_4) (bs [1,2,4]) (.seq (.seq (.draw r_y_5) (bs [2,4,22]) (.cond (t 22) (.seq (.ops r_y_6) (bs [2,3]) .ret) .skip)) (bs [2,4]) (.seq (.ops r_y_7) (bs [2,3]) .ret)))))
def f_y:ze:=⟨25,[.cell (some 3) (bits 2),.tmp (bits 3)],c_y,none,none⟩
def r_M_1:List CI:=[mv 2 ff]
def r_M_2:List CI:=[mv 3 (t 0),le 4 (t 3),bi .gtr 5 (t 4) (i 1000),mv 2 (t 5)]
def c_M:CC:=(.seq (.ops r_M_1) (bs [0]) (.seq (.ops r_M_2) (bs [2]) .ret))
def f_M:ze:=⟨6,[.tmp (bits 2)],c_M,none,none⟩
def r_U_1:List CI:=[bx 1 (t 0),mv 2 (.c (.string ⟨#[]⟩)),mv 3 (i 0)]
def r_U_2:List CI:=[ln 4 2 1,ca 5 n_Y [(t 4)],no 6 5]
def r_U_3:List CI:=[mv 2 (.c (.string ⟨#[]⟩)),mv 3 (i 2)]
def r_U_4:List CI:=[ln 7 2 1,ca 8 n_Q [(t 7)],mv 2 (t 8),mv 3 (i 0)]
def c_U:CC:=(.seq (.ops r_U_1) (bs [1]) (.seq (.seq (.ops r_U_2) (bs [1,6]) (.cond (t 6) (.seq (.ops r_U_3) (bs [2,3]) .ret) .skip)) (bs [1]) (.seq (.ops r_U_4) (bs [2,3]) .ret)))
def f_U:ze:=⟨9,[.tmp (bits 2),.tmp (bits 3)],c_U,none,none⟩
def r_8:List CI:=[bx 1 (t 0),oo 2 (.alloc [(iI 0),(.slice none 0 0)]),mv 3 (i 0)]
def r_C_2:List CI:=[l 6 1,oo 7 (.blt .lenStr [(t 6)]),bi .gtr 8 (t 7) (i 80000)]
def r_C_3:List CI:=[oo 9 (.build [(iI 0),(.slice none 0 0)] []),st 2 2 (t 9),mv 3 (i 3)]
def r_C_4:List CI:=[oo 4 (.alloc [(iI 0),(.slice none 0 0)])]
def r_C_5:List CI:=[oo 10 (.makeFunc (.func n_8) [] [(t 1),(t 4)]),mv 5 (t 10)]
def r_C_6:List CI:=[mv 11 (t 5),ca 12 n_A [(t 11)],lo 1 (no 13 12),lo 1 (mv 14 (t 13)),lo 1 (gu 14 false (ln 15 2 4)),lo 1 (gu 14 false (ca 16 n_Y [(t 15)])),lo 2 (gu 14 false (no 17 16)),lo 2 (pk 18 (t 14) tt (t 17)),lo 2 (mv 19 (t 18)),lo 2 (gu 19 false (ln 20 2 4)),lo 2 (gu 19 false (ca 21 n_Q [(t 20)])),lo 2 (gu 19 false (l 22 1)),lo 3 (gu 19 false (bi .neq 23 (t 21) (t 22))),lo 3 (pk 24 (t 19) tt (t 23))]
def r_C_7:List CI:=[oo 25 (.build [(iI 0),(.slice none 0 0)] []),st 2 2 (t 25),mv 3 (i 4)]
def r_C_8:List CI:=[ln 26 2 4,st 2 2 (t 26),mv 3 (i 0)]
def c_C:CC:=(.seq (.ops r_8) (bs [1,2]) (.seq (.seq (.ops r_C_2) (bs [1,2,8]) (.cond (t 8) (.seq (.ops r_C_3) (bs [2,3]) .ret) .skip)) (bs [1,2]) (.seq (.ops r_C_4) (bs [1,2,4]) (.seq (.ops r_C_5) (bs [1,2,4,5]) (.seq (.seq (.draw r_C_6) (bs [2,4,24]) (.cond (t 24) (.seq (.ops r_C_7) (bs [2,3]) .ret) .skip)) (bs [2,4]) (.seq (.ops r_C_8) (bs [2,3]) .ret))))))
def f_C:ze:=⟨27,[.cell (some 2) (bits 2),.tmp (bits 3)],c_C,none,none⟩
def r_bc:List CI:=[bx 1 (t 0),mv 2 ff]
def r_bd:List CI:=[fa 6 0 1,l 7 6,le 8 (t 7),bi .lss 9 (t 8) (i 1),mv 10 (t 9),gu 10 false (fa 11 0 1),gu 10 false (l 12 11),gu 10 false (le 13 (t 12)),gu 10 false (bi .gtr 14 (t 13) (i 24)),pk 15 (t 10) tt (t 14),mv 16 (t 15),gu 16 false (fa 17 1 1),gu 16 false (l 18 17),gu 16 false (le 19 (t 18)),gu 16 false (bi .gtr 20 (t 19) (i 60)),pk 21 (t 16) tt (t 20),mv 22 (t 21),gu 22 false (fa 23 2 1),gu 22 false (l 24 23),gu 22 false (le 25 (t 24)),gu 22 false (bi .gtr 26 (t 25) (i 40)),pk 27 (t 22) tt (t 26)]
def r_bb:List CI:=[mv 2 ff]
def r_4:List CI:=[fa 28 0 1,l 29 28,ca 30 n_F [(t 29)],no 31 30,mv 32 (t 31),gu 32 false (fa 33 0 1),gu 32 false (l 34 33),gu 32 false (ca 35 n_W [(t 34),(fc n_bc)]),gu 32 false (no 36 35),pk 37 (t 32) tt (t 36)]
def r_l_5:List CI:=[mv 2 ff]
def r_l_6:List CI:=[fa 38 1 1,l 39 38,ca 40 n_i [(t 39),(fc n_bd)],ca 41 n_F [(t 40)],no 42 41]
def r_l_7:List CI:=[mv 2 ff]
def r_l_8:List CI:=[mv 3 (fc n_bb)]
def r_l_9:List CI:=[oo 4 (.alloc [(iI 0)]),st 1 4 (i (-1))]
def r_l_10:List CI:=[oo 43 (.makeFunc (.func n_4) [] [(t 4),(t 1)]),mv 5 (t 43)]
def r_l_11:List CI:=[fa 44 1 1,l 45 44,mv 46 (t 3),ca 47 n_G [(t 45),(t 46)],mv 48 (t 47),gu 48 true (fa 49 2 1),gu 48 true (l 50 49),gu 48 true (mv 51 (t 5)),gu 48 true (ca 52 n_H [(t 50),(t 51)]),pk 53 (t 48) (t 52) ff,mv 2 (t 53)]
def c_l:CC:=(.seq (.ops r_bc) (bs [1]) (.seq (.seq (.ops r_bd) (bs [1,27]) (.cond (t 27) (.seq (.ops r_bb) (bs [2]) .ret) .skip)) (bs [1]) (.seq (.seq (.ops r_4) (bs [1,37]) (.cond (t 37) (.seq (.ops r_l_5) (bs [2]) .ret) .skip)) (bs [1]) (.seq (.seq (.ops r_l_6) (bs [1,42]) (.cond (t 42) (.seq (.ops r_l_7) (bs [2]) .ret) .skip)) (bs [1]) (.seq (.ops r_l_8) (bs [1,3]) (.seq (.ops r_l_9) (bs [1,3,4]) (.seq (.ops r_l_10) (bs [1,3,5]) (.seq (.ops r_l_11) (bs [2]) .ret))))))))
def f_l:ze:=⟨54,[.tmp (bits 2)],c_l,none,none⟩
def r_h_1:List CI:=[bx 1 (t 0),mv 2 (.c (.string ⟨#[]⟩))]
def r_h_2:List CI:=[ca 12 n_0 [],mv 3 (t 12)]
def r_h_3:List CI:=[mv 13 (t 3),fa 14 0 1,l 15 14,le 16 (t 15),ca 17 n_D [(t 13),(t 16)]]
def r_h_4:List CI:=[fa 18 0 1,l 19 18,le 20 (t 19),mv 21 (i 0)]
def r_h_5:List CI:=[bi .lss 22 (t 21) (t 20)]
def r_h_6:List CI:=[ia 23 1 19 (t 21),l 24 23,mv 5 (t 24)]
def r_h_7:List CI:=[mv 25 (t 3),mv 26 (t 5),ca 27 n_R [(t 25),(t 26)]]
def r_h_8:List CI:=[bi .add 28 (t 21) (i 1),mv 21 (t 28)]
def c_h_9:CC:=(.seq (.ops r_h_5) (bs [1,3,19,20,21,22]) (.seq (.cond (t 22) .skip (.exit 0)) (bs [1,3,19,20,21]) (.seq (.block 2 (.seq (.ops r_h_6) (bs [1,3,5,19,20,21]) (.ops r_h_7))) (bs [1,3,19,20,21]) (.ops r_h_8))))
def r_h_10:List CI:=[mv 29 (t 3),fa 30 1 1,l 31 30,le 32 (t 31),ca 33 n_D [(t 29),(t 32)]]
def r_h_11:List CI:=[fa 34 1 1,l 35 34,le 36 (t 35),mv 37 (i 0)]
def r_h_12:List CI:=[bi .lss 38 (t 37) (t 36)]
def r_h_13:List CI:=[ia 39 2 35 (t 37),ln 40 2 39,oo 7 (.alloc [(iI 0),(.slice none 0 0)]),st 2 7 (t 40)]
def r_h_14:List CI:=[mv 41 (t 3),fa 42 0 7,l 43 42,ca 44 n_O [(t 41),(t 43)]]
def r_h_15:List CI:=[mv 45 (t 3),fa 46 1 7,l 47 46,le 48 (t 47),ca 49 n_D [(t 45),(t 48)]]
def r_h_16:List CI:=[fa 50 1 7,l 51 50,le 52 (t 51),mv 53 (i 0)]
def r_h_17:List CI:=[bi .lss 54 (t 53) (t 52)]
def r_h_18:List CI:=[ia 55 1 51 (t 53),ln 56 1 55,oo 9 (.alloc [(.slice none 0 0)]),st 1 9 (t 56)]
def r_h_19:List CI:=[mv 57 (t 3),fa 58 0 9,l 59 58,ca 60 n_q [(t 57),(t 59)]]
def r_h_20:List CI:=[bi .add 61 (t 53) (i 1),mv 53 (t 61)]
def c_h_21:CC:=(.seq (.ops r_h_17) (bs [1,3,35,36,37,51,52,53,54]) (.seq (.cond (t 54) .skip (.exit 8)) (bs [1,3,35,36,37,51,52,53]) (.seq (.block 10 (.seq (.ops r_h_18) (bs [1,3,9,35,36,37,51,52,53]) (.ops r_h_19))) (bs [1,3,35,36,37,51,52,53]) (.ops r_h_20))))
def r_h_22:List CI:=[bi .add 62 (t 37) (i 1),mv 37 (t 62)]
def c_h_23:CC:=(.seq (.ops r_h_12) (bs [1,3,35,36,37,38]) (.seq (.cond (t 38) .skip (.exit 4)) (bs [1,3,35,36,37]) (.seq (.block 6 (.seq (.ops r_h_13) (bs [1,3,7,35,36,37]) (.seq (.ops r_h_14) (bs [1,3,7,35,36,37]) (.seq (.ops r_h_15) (bs [1,3,7,35,36,37]) (.seq (.ops r_h_16) (bs [1,3,35,36,37,51,52,53]) (.block 8 (.loop (bs [1,3,35,36,37,51,52,53]) c_h_21))))))) (bs [1,3,35,36,37]) (.ops r_h_22))))
def r_h_24:List CI:=[mv 63 (t 3),fa 64 2 1,l 65 64,le 66 (t 65),ca 67 n_D [(t 63),(t 66)]]
def r_h_25:List CI:=[fa 68 2 1,l 69 68,le 70 (t 69),mv 71 (i 0)]
def r_h_26:List CI:=[bi .lss 72 (t 71) (t 70)]
def r_h_27:List CI:=[ia 73 4 69 (t 71),ln 74 4 73,oo 11 (.alloc [(iI 0),(iI 0),(iI 0),(.slice none 0 0)]),st 4 11 (t 74)]
def r_h_28:List CI:=[mv 75 (t 3),fa 76 0 11,l 77 76,ca 78 n_D [(t 75),(t 77)]]
def r_h_29:List CI:=[mv 79 (t 3),fa 80 1 11,fa 81 0 80,l 82 81,ca 83 n_R [(t 79),(t 82)]]
def r_h_30:List CI:=[mv 84 (t 3),fa 85 1 11,fa 86 1 85,l 87 86,ca 88 n_D [(t 84),(t 87)]]
def r_h_31:List CI:=[mv 89 (t 3),fa 90 1 11,fa 91 2 90,l 92 91,ca 93 n_q [(t 89),(t 92)]]
def r_h_32:List CI:=[bi .add 94 (t 71) (i 1),mv 71 (t 94)]
def c_h_33:CC:=(.seq (.ops r_h_26) (bs [3,69,70,71,72]) (.seq (.cond (t 72) .skip (.exit 12)) (bs [3,69,70,71]) (.seq (.block 14 (.seq (.ops r_h_27) (bs [3,11,69,70,71]) (.seq (.ops r_h_28) (bs [3,11,69,70,71]) (.seq (.ops r_h_29) (bs [3,11,69,70,71]) (.seq (.ops r_h_30) (bs [3,11,69,70,71]) (.ops r_h_31)))))) (bs [3,69,70,71]) (.ops r_h_32))))
def r_h_34:List CI:=[mv 95 (t 3),ca 96 n_S [(t 95),(.c (.int .u8 80))],mv 2 (t 96)]
def c_h:CC:=(.seq (.ops r_h_1) (bs [1]) (.seq (.ops r_h_2) (bs [1,3]) (.seq (.ops r_h_3) (bs [1,3]) (.seq (.seq (.ops r_h_4) (bs [1,3,19,20,21]) (.block 0 (.loop (bs [1,3,19,20,21]) c_h_9))) (bs [1,3]) (.seq (.ops r_h_10) (bs [1,3]) (.seq (.seq (.ops r_h_11) (bs [1,3,35,36,37]) (.block 4 (.loop (bs [1,3,35,36,37]) c_h_23))) (bs [1,3]) (.seq (.ops r_h_24) (bs [1,3]) (.seq (.seq (.ops r_h_25) (bs [3,69,70,71]) (.block 12 (.loop (bs [3,69,70,71]) c_h_33))) (bs [3]) (.seq (.ops r_h_34) (bs [2]) .ret)))))))))
def f_h:ze:=⟨97,[.tmp (bits 2)],c_h,none,none⟩
def r_7:List CI:=[oo 2 (.alloc [(.bool false)])]
def r_A_2:List CI:=[oo 3 (.makeFunc (.func n_7) [] [(t 2)])]
def r_A_3:List CI:=[mv 4 (t 0),oo 5 (.call (t 4) [])]
def r_A_4:List CI:=[st 1 2 tt]
def c_A:CC:=(.seq (.ops r_7) (bs [0,2]) (.ops r_A_2))
def zgh:CC:=(.seq (.ops []) (bs [0,2]) (.seq (.ops r_A_3) (bs [2]) (.seq (.ops r_A_4) (bs [2]) .ret)))
def f_A:ze:=⟨6,[.cell none (bits 2)],c_A,some ⟨(t 3),[],(bs [0,2]),zgh⟩,none⟩
def r_be_1:List CI:=[l 2 0,ca 3 n_v [(t 2),(.c (.int .u8 80))],ca 4 n_a [(t 3)],st 3 1 (t 4)]
def c_be:CC:=(.ops r_be_1)
def f_be:ze:=⟨5,[],c_be,none,none⟩
def r_v_1:List CI:=[mv 4 (.c (.pointer none))]
def r_v_2:List CI:=[mv 9 (t 0),oo 10 (.blt .lenStr [(t 9)]),bi .sub 11 (t 10) (i 2),mv 5 (t 11)]
def r_v_3:List CI:=[mv 12 (t 5),bi .lss 13 (t 12) (i 1),mv 14 (t 13),gu 14 false (mv 15 (t 0)),gu 14 false (oo 16 (.strIdx (t 15) (i 0))),gu 14 false (mv 17 (t 1)),gu 14 false (bi .neq 18 (t 16) (t 17)),pk 19 (t 14) tt (t 18),mv 20 (t 19),gu 20 false (mv 21 (t 0)),gu 20 false (mv 22 (t 5)),gu 20 false (oo 23 (.strSlice (t 21) none (some (t 22)))),gu 20 false (oo 24 (.s2b (t 23))),lo 1 (gu 20 false (ca 25 n_w [(t 24)])),lo 2 (gu 20 false (oo 26 (.b2s (t 25)))),gu 20 false (mv 27 (t 0)),gu 20 false (mv 28 (t 5)),gu 20 false (oo 29 (.strSlice (t 27) (some (t 28)) none)),lo 2 (gu 20 false (bi .neq 30 (t 26) (t 29))),lo 2 (pk 31 (t 20) tt (t 30))]
def r_v_4:List CI:=[oo 32 (.build [] []),oo 33 (.mkI 192 (t 32)),on (.panic (t 33))]
def r_v_5:List CI:=[mv 34 (t 0),mv 35 (t 5),oo 36 (.strSlice (t 34) (some (i 1)) (some (t 35))),oo 37 (.build [(.slice none 0 0),(.map none),(.string ⟨#[]⟩)] [(2,1,(t 36))]),bx 38 (t 37),mv 6 (t 38)]
def r_v_6:List CI:=[mv 39 (t 6),ca 40 n_u [(t 39)],mv 41 (i 0)]
def r_v_7:List CI:=[bi .lss 42 (t 41) (t 40)]
def r_v_8:List CI:=[mv 43 (t 6),ca 44 n_k [(t 43)],mv 7 (t 44)]
def r_v_9:List CI:=[mv 45 (t 6),ca 46 n_k [(t 45)],mv 8 (t 46)]
def r_v_10:List CI:=[mv 47 (t 6),mv 48 (t 6),nc 49 48,fa 50 0 49,fa 51 0 50,l 52 51,mv 53 (t 7),mv 54 (t 8),oo 55 (.build [(iI 0),(iI 0)] [(0,1,(t 53)),(1,1,(t 54))]),oo 56 (.buildSlice 1 2 [(iI 0),(iI 0)] [(0,(t 55))]),ap 57 2 16 (t 52) (t 56),nc 58 47,fa 59 0 58,fa 60 0 59,st 1 60 (t 57)]
def r_v_11:List CI:=[bi .add 61 (t 41) (i 1),mv 41 (t 61)]
def c_v_12:CC:=(.seq (.ops r_v_7) (bs [6,40,41,42]) (.seq (.cond (t 42) .skip (.exit 0)) (bs [6,40,41]) (.seq (.block 2 (.seq (.ops r_v_8) (bs [6,7,40,41]) (.seq (.ops r_v_9) (bs [6,7,8,40,41]) (.ops r_v_10)))) (bs [6,40,41]) (.ops r_v_11))))
def r_v_13:List CI:=[mv 62 (t 6),mv 4 (t 62)]
def c_v:CC:=(.seq (.ops r_v_1) (bs [0,1]) (.seq (.ops r_v_2) (bs [0,1,5]) (.seq (.seq (.draw r_v_3) (bs [0,5,31]) (.cond (t 31) (.ops r_v_4) .skip)) (bs [0,5]) (.seq (.ops r_v_5) (bs [6]) (.seq (.seq (.ops r_v_6) (bs [6,40,41]) (.block 0 (.loop (bs [6,40,41]) c_v_12))) (bs [6]) (.seq (.ops r_v_13) (bs [4]) .ret))))))
def f_v:ze:=⟨63,[.tmp (bits 4)],c_v,none,none⟩
def r_a_1:List CI:=[oo 2 (.alloc [(.slice none 0 0),(.slice none 0 0),(.slice none 0 0)])]
def r_a_2:List CI:=[oo 3 (.alloc [(.slice none 0 0),(.slice none 0 0),(.slice none 0 0)])]
def r_a_3:List CI:=[mv 6 (t 0),ca 7 n_u [(t 6)],mv 8 (i 0)]
def r_a_4:List CI:=[bi .lss 9 (t 8) (t 7)]
def r_a_5:List CI:=[mv 12 (t 0),ca 13 n_x [(t 12),(i 4)],fa 10 0 3,l 11 10,lo 1 (oo 14 (.buildSlice 1 1 [(iI 0)] [(0,(t 13))])),lo 1 (ap 15 1 8 (t 11) (t 14)),lo 2 (fa 16 0 3),lo 2 (st 1 16 (t 15))]
def r_a_6:List CI:=[bi .add 17 (t 8) (i 1),mv 8 (t 17)]
def c_a_7:CC:=(.seq (.ops r_a_4) (bs [0,2,3,7,8,9]) (.seq (.cond (t 9) .skip (.exit 0)) (bs [0,2,3,7,8]) (.seq (.block 2 (.draw r_a_5)) (bs [0,2,3,7,8]) (.ops r_a_6))))
def r_a_8:List CI:=[mv 18 (t 0),ca 19 n_u [(t 18)],mv 20 (i 0)]
def r_a_9:List CI:=[bi .lss 21 (t 20) (t 19)]
def r_a_10:List CI:=[mv 22 (t 0),ca 23 n_x [(t 22),(i 3)],oo 24 (.build [(iI 0),(.slice none 0 0)] [(0,1,(t 23))]),oo 4 (.alloc [(iI 0),(.slice none 0 0)]),st 2 4 (t 24)]
def r_a_11:List CI:=[mv 25 (t 0),ca 26 n_u [(t 25)],mv 27 (i 0)]
def r_a_12:List CI:=[bi .lss 28 (t 27) (t 26)]
def r_a_13:List CI:=[mv 31 (t 0),ca 32 n_m [(t 31)],fa 29 1 4,l 30 29,lo 1 (oo 33 (.build [(.slice none 0 0)] [(0,1,(t 32))])),lo 1 (oo 34 (.buildSlice 1 1 [(.slice none 0 0)] [(0,(t 33))])),lo 1 (ap 35 1 24 (t 30) (t 34)),lo 2 (fa 36 1 4),lo 2 (st 1 36 (t 35))]
def r_a_14:List CI:=[bi .add 37 (t 27) (i 1),mv 27 (t 37)]
def c_a_15:CC:=(.seq (.ops r_a_12) (bs [0,2,3,4,19,20,26,27,28]) (.seq (.cond (t 28) .skip (.exit 8)) (bs [0,2,3,4,19,20,26,27]) (.seq (.block 10 (.draw r_a_13)) (bs [0,2,3,4,19,20,26,27]) (.ops r_a_14))))
def r_a_16:List CI:=[fa 38 1 3,l 39 38,ln 40 2 4,oo 41 (.buildSlice 1 2 [(iI 0),(.slice none 0 0)] [(0,(t 40))]),ap 42 2 32 (t 39) (t 41),fa 43 1 3,st 1 43 (t 42)]
def r_a_17:List CI:=[bi .add 44 (t 20) (i 1),mv 20 (t 44)]
def c_a_18:CC:=(.seq (.ops r_a_9) (bs [0,2,3,19,20,21]) (.seq (.cond (t 21) .skip (.exit 4)) (bs [0,2,3,19,20]) (.seq (.block 6 (.seq (.ops r_a_10) (bs [0,2,3,4,19,20]) (.seq (.seq (.ops r_a_11) (bs [0,2,3,4,19,20,26,27]) (.block 8 (.loop (bs [0,2,3,4,19,20,26,27]) c_a_15))) (bs [0,2,3,4,19,20]) (.ops r_a_16)))) (bs [0,2,3,19,20]) (.ops r_a_17))))
def r_a_19:List CI:=[mv 45 (t 0),ca 46 n_u [(t 45)],mv 47 (i 0)]
def r_a_20:List CI:=[bi .lss 48 (t 47) (t 46)]
def r_a_21:List CI:=[oo 5 (.alloc [(iI 0),(iI 0),(iI 0),(.slice none 0 0)])]
def r_a_22:List CI:=[mv 49 (t 0),ca 50 n_k [(t 49)],fa 51 0 5,st 1 51 (t 50)]
def r_a_23:List CI:=[mv 52 (t 0),ca 53 n_x [(t 52),(i 4)],fa 54 1 5,fa 55 0 54,st 1 55 (t 53)]
def r_a_24:List CI:=[mv 56 (t 0),ca 57 n_k [(t 56)],fa 58 1 5,fa 59 1 58,st 1 59 (t 57)]
def r_a_25:List CI:=[mv 60 (t 0),ca 61 n_m [(t 60)],fa 62 1 5,fa 63 2 62,st 1 63 (t 61)]
def r_a_26:List CI:=[fa 64 2 3,l 65 64,ln 66 4 5,oo 67 (.buildSlice 1 4 [(iI 0),(iI 0),(iI 0),(.slice none 0 0)] [(0,(t 66))]),ap 68 4 48 (t 65) (t 67),fa 69 2 3,st 1 69 (t 68)]
def r_a_27:List CI:=[bi .add 70 (t 47) (i 1),mv 47 (t 70)]
def c_a_28:CC:=(.seq (.ops r_a_20) (bs [0,2,3,46,47,48]) (.seq (.cond (t 48) .skip (.exit 12)) (bs [0,2,3,46,47]) (.seq (.block 14 (.seq (.ops r_a_21) (bs [0,2,3,5,46,47]) (.seq (.ops r_a_22) (bs [0,2,3,5,46,47]) (.seq (.ops r_a_23) (bs [0,2,3,5,46,47]) (.seq (.ops r_a_24) (bs [0,2,3,5,46,47]) (.seq (.ops r_a_25) (bs [0,2,3,5,46,47]) (.ops r_a_26))))))) (bs [0,2,3,46,47]) (.ops r_a_27))))
def r_a_29:List CI:=[ln 71 3 3,st 3 2 (t 71)]
def c_a:CC:=(.seq (.ops r_a_1) (bs [0,2]) (.seq (.ops r_a_2) (bs [0,2,3]) (.seq (.seq (.ops r_a_3) (bs [0,2,3,7,8]) (.block 0 (.loop (bs [0,2,3,7,8]) c_a_7))) (bs [0,2,3]) (.seq (.seq (.ops r_a_8) (bs [0,2,3,19,20]) (.block 4 (.loop (bs [0,2,3,19,20]) c_a_18))) (bs [0,2,3]) (.seq (.seq (.ops r_a_19) (bs [0,2,3,46,47]) (.block 12 (.loop (bs [0,2,3,46,47]) c_a_28))) (bs [2,3]) (.seq (.ops r_a_29) (bs [2]) .ret))))))
def f_a:ze:=⟨72,[.cell (some 3) (bits 2)],c_a,none,none⟩
def r_Y_1:List CI:=[bx 1 (t 0),mv 2 ff]
def r_Y_2:List CI:=[fa 3 0 1,l 4 3,ca 5 n_V [(t 4),(i 60)],mv 6 (t 5),gu 6 true (fa 7 1 1),gu 6 true (l 8 7),gu 6 true (oo 9 (.build [(.slice none 0 0)] [(0,1,(t 8))])),gu 6 true (ca 10 n_X [(t 9)]),pk 11 (t 6) (t 10) ff,mv 2 (t 11)]
def c_Y:CC:=(.seq (.ops r_Y_1) (bs [1]) (.seq (.ops r_Y_2) (bs [2]) .ret))
def f_Y:ze:=⟨12,[.tmp (bits 2)],c_Y,none,none⟩
def r_Q_1:List CI:=[bx 1 (t 0),mv 2 (.c (.string ⟨#[]⟩))]
def r_Q_2:List CI:=[ca 4 n_0 [],mv 3 (t 4)]
def r_Q_3:List CI:=[mv 5 (t 3),fa 6 0 1,l 7 6,ca 8 n_O [(t 5),(t 7)]]
def r_Q_4:List CI:=[mv 9 (t 3),fa 10 1 1,l 11 10,ca 12 n_q [(t 9),(t 11)]]
def r_Q_5:List CI:=[mv 13 (t 3),ca 14 n_S [(t 13),(.c (.int .u8 77))],mv 2 (t 14)]
def c_Q:CC:=(.seq (.ops r_Q_1) (bs [1]) (.seq (.ops r_Q_2) (bs [1,3]) (.seq (.ops r_Q_3) (bs [1,3]) (.seq (.ops r_Q_4) (bs [3]) (.seq (.ops r_Q_5) (bs [2]) .ret)))))
def f_Q:ze:=⟨15,[.tmp (bits 2)],c_Q,none,none⟩
def r_8_1:List CI:=[l 3 0,ca 4 n_v [(t 3),(.c (.int .u8 77))],mv 2 (t 4)]
def r_8_2:List CI:=[mv 5 (t 2),ca 6 n_x [(t 5),(i 3)],fa 7 0 1,st 1 7 (t 6)]
def r_8_3:List CI:=[mv 8 (t 2),ca 9 n_m [(t 8)],fa 10 1 1,st 1 10 (t 9)]
def c_8:CC:=(.seq (.ops r_8_1) (bs [1,2]) (.seq (.ops r_8_2) (bs [1,2]) (.ops r_8_3)))
def f_8:ze:=⟨11,[],c_8,none,none⟩
def r_x_1:List CI:=[mv 4 (i 0)]
def r_x_2:List CI:=[mv 6 (t 0),mv 7 (t 0),ca 8 n_k [(t 7)],ca 9 n_J [(t 6),(t 8)],oo 5 (.alloc [(iI 0),(iI 0)]),st 2 5 (t 9)]
def r_x_3:List CI:=[fa 10 0 5,l 11 10,mv 12 (t 1),bi .neq 13 (t 11) (t 12)]
def r_x_4:List CI:=[oo 14 (.build [] []),oo 15 (.mkI 192 (t 14)),on (.panic (t 15))]
def r_x_5:List CI:=[fa 16 1 5,l 17 16,mv 4 (t 17)]
def c_x:CC:=(.seq (.ops r_x_1) (bs [0,1]) (.seq (.ops r_x_2) (bs [1,5]) (.seq (.seq (.ops r_x_3) (bs [5,13]) (.cond (t 13) (.ops r_x_4) .skip)) (bs [5]) (.seq (.ops r_x_5) (bs [4]) .ret))))
def f_x:ze:=⟨18,[.tmp (bits 4)],c_x,none,none⟩
def r_m_1:List CI:=[mv 2 (.c (.slice none 0 0))]
def r_m_2:List CI:=[mv 3 (.c (.slice none 0 0))]
def r_m_3:List CI:=[mv 5 (t 0),ca 6 n_u [(t 5)],mv 7 (i 0)]
def r_m_4:List CI:=[bi .lss 8 (t 7) (t 6)]
def r_m_5:List CI:=[mv 9 (t 0),ca 10 n_k [(t 9)],mv 4 (t 10)]
def r_m_6:List CI:=[mv 20 (t 4),bi .and 21 (t 20) (i 1),bi .eql 22 (t 21) (i 1),mv 19 (t 22)]
def r_m_7:List CI:=[mv 23 (t 3),mv 24 (t 0),mv 25 (t 4),bi .shr 26 (t 25) (.c (.int .u64 1)),ca 27 n_J [(t 24),(t 26)],oo 28 (.buildSlice 1 2 [(iI 0),(iI 0)] [(0,(t 27))]),ap 29 2 16 (t 23) (t 28),mv 3 (t 29)]
def r_m_8:List CI:=[mv 31 (t 4),bi .and 32 (t 31) (i 2),bi .eql 33 (t 32) (i 0),mv 30 (t 33)]
def r_m_9:List CI:=[mv 34 (t 3),mv 35 (t 4),bi .shr 36 (t 35) (.c (.int .u64 2)),oo 37 (.build [(iI 0),(iI 0)] [(0,1,(i 1)),(1,1,(t 36))]),oo 38 (.buildSlice 1 2 [(iI 0),(iI 0)] [(0,(t 37))]),ap 39 2 16 (t 34) (t 38),mv 3 (t 39)]
def r_m_10:List CI:=[mv 11 (t 3),mv 12 (t 4),bi .shr 13 (t 12) (.c (.int .u64 2)),oo 14 (.un .neg (t 13)),bi .sub 15 (t 14) (i 1),oo 16 (.build [(iI 0),(iI 0)] [(0,1,(i 1)),(1,1,(t 15))]),oo 17 (.buildSlice 1 2 [(iI 0),(iI 0)] [(0,(t 16))]),ap 18 2 16 (t 11) (t 17),mv 3 (t 18)]
def r_m_11:List CI:=[bi .add 40 (t 7) (i 1),mv 7 (t 40)]
def c_m_12:CC:=(.seq (.ops r_m_4) (bs [0,3,6,7,8]) (.seq (.cond (t 8) .skip (.exit 0)) (bs [0,3,6,7]) (.seq (.block 2 (.seq (.ops r_m_5) (bs [0,3,4,6,7]) (.block 4 (.seq (.ops r_m_6) (bs [0,3,4,6,7,19]) (.cond (t 19) (.ops r_m_7) (.seq (.ops r_m_8) (bs [0,3,4,6,7,30]) (.cond (t 30) (.ops r_m_9) (.ops r_m_10)))))))) (bs [0,3,6,7]) (.ops r_m_11))))
def r_m_13:List CI:=[mv 41 (t 3),mv 2 (t 41)]
def c_m:CC:=(.seq (.ops r_m_1) (bs [0]) (.seq (.ops r_m_2) (bs [0,3]) (.seq (.seq (.ops r_m_3) (bs [0,3,6,7]) (.block 0 (.loop (bs [0,3,6,7]) c_m_12))) (bs [3]) (.seq (.ops r_m_13) (bs [2]) .ret))))
def f_m:ze:=⟨42,[.tmp (bits 2)],c_m,none,none⟩
def r_T_1:List CI:=[bx 1 (t 0),mv 2 ff]
def r_T_2:List CI:=[fa 3 0 1,l 4 3]
def r_T_3:List CI:=[bi .eql 6 (t 4) (i 2),mv 5 (t 6)]
def r_T_4:List CI:=[fa 7 1 1,l 8 7,ca 9 n_V [(t 8),(i 12)],mv 2 (t 9)]
def r_T_5:List CI:=[bi .eql 11 (t 4) (i 3),mv 10 (t 11)]
def r_T_6:List CI:=[fa 12 1 1,l 13 12,ca 14 n_V [(t 13),(i 60)],mv 2 (t 14)]
def r_T_7:List CI:=[fa 15 0 1,l 16 15,bi .eql 17 (t 16) (i 4),mv 18 (t 17),gu 18 true (fa 19 1 1),gu 18 true (l 20 19),gu 18 true (ca 21 n_V [(t 20),(i 24)]),pk 22 (t 18) (t 21) ff,mv 2 (t 22)]
def c_T:CC:=(.seq (.ops r_T_1) (bs [1]) (.seq (.seq (.ops r_T_2) (bs [1,4]) (.block 0 (.seq (.ops r_T_3) (bs [1,4,5]) (.cond (t 5) (.seq (.ops r_T_4) (bs [2]) .ret) (.seq (.ops r_T_5) (bs [1,10]) (.cond (t 10) (.seq (.ops r_T_6) (bs [2]) .ret) .skip)))))) (bs [1]) (.seq (.ops r_T_7) (bs [2]) .ret)))
def f_T:ze:=⟨23,[.tmp (bits 2)],c_T,none,none⟩
def r_Z_1:List CI:=[mv 2 (.c (.string ⟨#[]⟩))]
def r_Z_2:List CI:=[mv 3 (t 0),mv 4 (t 0),ca 5 n_w [(t 4)],ap 6 1 1 (t 3) (t 5),oo 7 (.b2s (t 6)),mv 2 (t 7)]
def c_Z:CC:=(.seq (.ops r_Z_1) (bs [0]) (.seq (.ops r_Z_2) (bs [2]) .ret))
def f_Z:ze:=⟨8,[.tmp (bits 2)],c_Z,none,none⟩
def r_N_1:List CI:=[mv 4 (.c (.slice none 0 0))]
def r_N_2:List CI:=[mv 8 (t 0),oo 9 (.buildSlice 1 1 [(.int .u8 0)] [(0,(t 8))]),mv 10 (t 1),le 11 (t 10),ca 12 n_K [(t 9),(t 11)],mv 5 (t 12)]
def r_N_3:List CI:=[mv 13 (t 1),le 14 (t 13),mv 15 (i 0)]
def r_N_4:List CI:=[bi .lss 16 (t 15) (t 14)]
def r_N_5:List CI:=[ia 17 2 13 (t 15),ln 18 2 17,oo 7 (.alloc [(iI 0),(iI 0)]),st 2 7 (t 18)]
def r_N_6:List CI:=[mv 19 (t 5),fa 20 0 7,l 21 20,ca 22 n_K [(t 19),(t 21)],fa 23 1 7,l 24 23,lo 1 (ca 25 n_K [(t 22),(t 24)]),lo 2 (mv 5 (t 25))]
def r_N_7:List CI:=[bi .add 26 (t 15) (i 1),mv 15 (t 26)]
def c_N_8:CC:=(.seq (.ops r_N_4) (bs [5,13,14,15,16]) (.seq (.cond (t 16) .skip (.exit 0)) (bs [5,13,14,15]) (.seq (.block 2 (.seq (.ops r_N_5) (bs [5,7,13,14,15]) (.draw r_N_6))) (bs [5,13,14,15]) (.ops r_N_7))))
def r_N_9:List CI:=[mv 27 (t 5),mv 4 (t 27)]
def c_N:CC:=(.seq (.ops r_N_1) (bs [0,1]) (.seq (.ops r_N_2) (bs [1,5]) (.seq (.seq (.ops r_N_3) (bs [5,13,14,15]) (.block 0 (.loop (bs [5,13,14,15]) c_N_8))) (bs [5]) (.seq (.ops r_N_9) (bs [4]) .ret))))
def f_N:ze:=⟨28,[.tmp (bits 4)],c_N,none,none⟩
def r_V_1:List CI:=[mv 4 ff]
def r_V_2:List CI:=[mv 5 (t 0),bi .geq 6 (t 5) (i 0),mv 7 (t 6),gu 7 true (mv 8 (t 0)),gu 7 true (mv 9 (t 1)),gu 7 true (bi .lss 10 (t 8) (t 9)),pk 11 (t 7) (t 10) ff,mv 4 (t 11)]
def c_V:CC:=(.seq (.ops r_V_1) (bs [0,1]) (.seq (.ops r_V_2) (bs [4]) .ret))
def f_V:ze:=⟨12,[.tmp (bits 4)],c_V,none,none⟩
def r_E_1:List CI:=[mv 4 ff]
def r_E_2:List CI:=[mv 5 (t 0),mv 6 (t 1),ca 7 n_p [(t 5),(t 6)],bi .geq 8 (t 7) (i 0),mv 4 (t 8)]
def c_E:CC:=(.seq (.ops r_E_1) (bs [0,1]) (.seq (.ops r_E_2) (bs [4]) .ret))
def f_E:ze:=⟨9,[.tmp (bits 4)],c_E,none,none⟩
def r_F_1:List CI:=[mv 2 ff]
def r_F_2:List CI:=[oo 6 (.makeMap),mv 3 (t 6)]
def r_F_3:List CI:=[mv 7 (t 0),le 8 (t 7),mv 9 (i 0)]
def r_F_4:List CI:=[bi .lss 10 (t 9) (t 8)]
def r_F_5:List CI:=[ia 11 1 7 (t 9),l 12 11,mv 5 (t 12)]
def r_F_6:List CI:=[mv 13 (t 3),mv 14 (t 5),oo 15 (.lookup .int (.bool false) false (t 13) (t 14))]
def r_F_7:List CI:=[mv 2 ff]
def r_F_8:List CI:=[mv 16 (t 3),mv 17 (t 5),on (.mapUpdate .int (t 16) (t 17) tt)]
def r_F_9:List CI:=[bi .add 18 (t 9) (i 1),mv 9 (t 18)]
def c_F_10:CC:=(.seq (.ops r_F_4) (bs [3,7,8,9,10]) (.seq (.cond (t 10) .skip (.exit 0)) (bs [3,7,8,9]) (.seq (.block 2 (.seq (.ops r_F_5) (bs [3,5,7,8,9]) (.seq (.seq (.ops r_F_6) (bs [3,5,7,8,9,15]) (.cond (t 15) (.seq (.ops r_F_7) (bs [2]) .ret) .skip)) (bs [3,5,7,8,9]) (.ops r_F_8)))) (bs [3,7,8,9]) (.ops r_F_9))))
def r_F_11:List CI:=[mv 2 tt]
def c_F:CC:=(.seq (.ops r_F_1) (bs [0]) (.seq (.ops r_F_2) (bs [0,3]) (.seq (.seq (.ops r_F_3) (bs [3,7,8,9]) (.block 0 (.loop (bs [3,7,8,9]) c_F_10))) [] (.seq (.ops r_F_11) (bs [2]) .ret))))
def f_F:ze:=⟨19,[.tmp (bits 2)],c_F,none,none⟩
def r_W_1:List CI:=[bx 3 (t 1),mv 4 ff]
def r_W_2:List CI:=[mv 5 (t 0),oo 6 (.makeFunc (.func n_ba) [] [(t 3)]),ca 7 n_z [(t 5),(t 6)],no 8 7,mv 4 (t 8)]
def c_W:CC:=(.seq (.ops r_W_1) (bs [0,3]) (.seq (.ops r_W_2) (bs [4]) .ret))
def f_W:ze:=⟨9,[.tmp (bits 4)],c_W,none,none⟩
def r_bc_1:List CI:=[mv 2 ff]
def r_bc_2:List CI:=[mv 3 (t 0),ca 4 n_V [(t 3),(i 24)],mv 2 (t 4)]
def c_bc:CC:=(.seq (.ops r_bc_1) (bs [0]) (.seq (.ops r_bc_2) (bs [2]) .ret))
def f_bc:ze:=⟨5,[.tmp (bits 2)],c_bc,none,none⟩
def r_i_1:List CI:=[mv 4 (.c (.slice none 0 0))]
def r_i_2:List CI:=[mv 5 (.c (.slice none 0 0))]
def r_i_3:List CI:=[mv 8 (t 0),le 9 (t 8),mv 10 (i 0)]
def r_i_4:List CI:=[bi .lss 11 (t 10) (t 9)]
def r_i_5:List CI:=[ia 12 2 8 (t 10),ln 13 2 12,oo 7 (.alloc [(iI 0),(.slice none 0 0)]),st 2 7 (t 13)]
def r_i_6:List CI:=[mv 14 (t 5),mv 15 (t 1),ln 16 2 7,oo 17 (.call (t 15) [(t 16)]),oo 18 (.buildSlice 1 1 [(iI 0)] [(0,(t 17))]),ap 19 1 8 (t 14) (t 18),mv 5 (t 19)]
def r_i_7:List CI:=[bi .add 20 (t 10) (i 1),mv 10 (t 20)]
def c_i_8:CC:=(.seq (.ops r_i_4) (bs [1,5,8,9,10,11]) (.seq (.cond (t 11) .skip (.exit 0)) (bs [1,5,8,9,10]) (.seq (.block 2 (.seq (.ops r_i_5) (bs [1,5,7,8,9,10]) (.ops r_i_6))) (bs [1,5,8,9,10]) (.ops r_i_7))))
def r_i_9:List CI:=[mv 21 (t 5),mv 4 (t 21)]
def c_i:CC:=(.seq (.ops r_i_1) (bs [0,1]) (.seq (.ops r_i_2) (bs [0,1,5]) (.seq (.seq (.ops r_i_3) (bs [1,5,8,9,10]) (.block 0 (.loop (bs [1,5,8,9,10]) c_i_8))) (bs [5]) (.seq (.ops r_i_9) (bs [4]) .ret))))
def f_i:ze:=⟨22,[.tmp (bits 4)],c_i,none,none⟩
def r_bd_1:List CI:=[bx 1 (t 0),mv 2 (i 0)]
def r_bd_2:List CI:=[fa 3 0 1,l 4 3,mv 2 (t 4)]
def c_bd:CC:=(.seq (.ops r_bd_1) (bs [1]) (.seq (.ops r_bd_2) (bs [2]) .ret))
def f_bd:ze:=⟨5,[.tmp (bits 2)],c_bd,none,none⟩
def r_bb_1:List CI:=[bx 1 (t 0),mv 2 ff]
def r_bb_2:List CI:=[fa 3 0 1,l 4 3,ca 5 n_V [(t 4),(i 60)],mv 6 (t 5),gu 6 true (fa 7 1 1),gu 6 true (l 8 7),gu 6 true (le 9 (t 8)),gu 6 true (bi .geq 10 (t 9) (i 1)),pk 11 (t 6) (t 10) ff,mv 12 (t 11),gu 12 true (fa 13 1 1),gu 12 true (l 14 13),gu 12 true (le 15 (t 14)),gu 12 true (bi .leq 16 (t 15) (i 12)),pk 17 (t 12) (t 16) ff,mv 18 (t 17),gu 18 true (fa 19 1 1),gu 18 true (l 20 19),gu 18 true (ca 21 n_L [(t 20),(fc n_X)]),pk 22 (t 18) (t 21) ff,mv 2 (t 22)]
def c_bb:CC:=(.seq (.ops r_bb_1) (bs [1]) (.seq (.ops r_bb_2) (bs [2]) .ret))
def f_bb:ze:=⟨23,[.tmp (bits 2)],c_bb,none,none⟩
def r_L_1:List CI:=[bx 3 (t 1),mv 4 ff]
def r_L_2:List CI:=[mv 5 (t 0),oo 6 (.makeFunc (.func n_6) [] [(t 3)]),ca 7 n_s [(t 5),(t 6)],no 8 7,mv 4 (t 8)]
def c_L:CC:=(.seq (.ops r_L_1) (bs [0,3]) (.seq (.ops r_L_2) (bs [4]) .ret))
def f_L:ze:=⟨9,[.tmp (bits 4)],c_L,none,none⟩
def r_X_1:List CI:=[bx 1 (t 0),mv 2 ff]
def r_X_2:List CI:=[fa 3 0 1,l 4 3,le 5 (t 4),bi .leq 6 (t 5) (i 3),mv 7 (t 6),gu 7 true (fa 8 0 1),gu 7 true (l 9 8),gu 7 true (ca 10 n_I [(t 9),(fc n_1)]),pk 11 (t 7) (t 10) ff,mv 2 (t 11)]
def c_X:CC:=(.seq (.ops r_X_1) (bs [1]) (.seq (.ops r_X_2) (bs [2]) .ret))
def f_X:ze:=⟨12,[.tmp (bits 2)],c_X,none,none⟩
def r_4_1:List CI:=[bx 3 (t 0),mv 4 ff]
def r_4_2:List CI:=[fa 6 0 3,l 7 6,l 8 1,bi .gtr 9 (t 7) (t 8),mv 10 (t 9),gu 10 true (fa 11 0 3),gu 10 true (l 12 11),gu 10 true (bi .lss 13 (t 12) (i 40)),pk 14 (t 10) (t 13) ff,mv 5 (t 14)]
def r_4_3:List CI:=[fa 15 0 3,l 16 15,st 1 1 (t 16)]
def r_4_4:List CI:=[mv 17 (t 5),mv 18 (t 17),gu 18 true (fa 19 0 2),gu 18 true (l 20 19),gu 18 true (fa 21 1 3),gu 18 true (fa 22 0 21),gu 18 true (l 23 22),gu 18 true (ca 24 n_E [(t 20),(t 23)]),pk 25 (t 18) (t 24) ff,mv 26 (t 25),gu 26 true (fa 27 1 3),gu 26 true (fa 28 1 27),gu 26 true (l 29 28),gu 26 true (ca 30 n_V [(t 29),(i 60)]),pk 31 (t 26) (t 30) ff,mv 32 (t 31),gu 32 true (fa 33 1 3),gu 32 true (fa 34 2 33),gu 32 true (l 35 34),gu 32 true (ca 36 n_I [(t 35),(fc n_1)]),pk 37 (t 32) (t 36) ff,mv 4 (t 37)]
def c_4:CC:=(.seq (.ops r_4_1) (bs [1,2,3]) (.seq (.ops r_4_2) (bs [1,2,3,5]) (.seq (.ops r_4_3) (bs [2,3,5]) (.seq (.ops r_4_4) (bs [4]) .ret))))
def f_4:ze:=⟨38,[.tmp (bits 4)],c_4,none,none⟩
def r_I_1:List CI:=[bx 3 (t 1),mv 4 ff]
def r_I_2:List CI:=[mv 5 (t 0),oo 6 (.makeFunc (.func n_5) [] [(t 3)]),ca 7 n_r [(t 5),(t 6)],no 8 7,mv 4 (t 8)]
def c_I:CC:=(.seq (.ops r_I_1) (bs [0,3]) (.seq (.ops r_I_2) (bs [4]) .ret))
def f_I:ze:=⟨9,[.tmp (bits 4)],c_I,none,none⟩
def r_1_1:List CI:=[bx 1 (t 0),mv 2 ff]
def r_1_2:List CI:=[ln 3 2 1,ca 4 n_T [(t 3)],mv 5 (t 4),gu 5 false (fa 6 0 1),gu 5 false (l 7 6),gu 5 false (bi .eql 8 (t 7) (i 1)),gu 5 false (mv 9 (t 8)),gu 9 true (fa 10 1 1),gu 9 true (l 11 10),gu 9 true (bi .geq 12 (t 11) (i (-1000000000))),gu 5 false (pk 13 (t 9) (t 12) ff),gu 5 false (mv 14 (t 13)),gu 14 true (fa 15 1 1),gu 14 true (l 16 15),gu 14 true (bi .leq 17 (t 16) (i 1000000000)),gu 5 false (pk 18 (t 14) (t 17) ff),pk 19 (t 5) tt (t 18),mv 2 (t 19)]
def c_1:CC:=(.seq (.ops r_1_1) (bs [1]) (.seq (.ops r_1_2) (bs [2]) .ret))
def f_1:ze:=⟨20,[.tmp (bits 2)],c_1,none,none⟩
def r_G_1:List CI:=[bx 3 (t 1),mv 4 ff]
def r_G_2:List CI:=[mv 5 (t 0),oo 6 (.makeFunc (.func n_2) [] [(t 3)]),ca 7 n_n [(t 5),(t 6)],no 8 7,mv 4 (t 8)]
def c_G:CC:=(.seq (.ops r_G_1) (bs [0,3]) (.seq (.ops r_G_2) (bs [4]) .ret))
def f_G:ze:=⟨9,[.tmp (bits 4)],c_G,none,none⟩
def r_H_1:List CI:=[bx 3 (t 1),mv 4 ff]
def r_H_2:List CI:=[mv 5 (t 0),oo 6 (.makeFunc (.func n_3) [] [(t 3)]),ca 7 n_o [(t 5),(t 6)],no 8 7,mv 4 (t 8)]
def c_H:CC:=(.seq (.ops r_H_1) (bs [0,3]) (.seq (.ops r_H_2) (bs [4]) .ret))
def f_H:ze:=⟨9,[.tmp (bits 4)],c_H,none,none⟩
def r_0_1:List CI:=[mv 0 (.c (.pointer none))]
def r_0_2:List CI:=[oo 1 (.makeMap),oo 2 (.build [(.slice none 0 0),(.map none)] [(1,1,(t 1))]),oo 3 (.build [(.slice none 0 0),(.map none),(.slice none 0 0)] [(0,2,(t 2))]),bx 4 (t 3),mv 0 (t 4)]
def c_0:CC:=(.seq (.ops r_0_1) [] (.seq (.ops r_0_2) (bs [0]) .ret))
def f_0:ze:=⟨5,[.tmp (bits 0)],c_0,none,none⟩
def r_D_1:List CI:=[mv 4 (t 0),mv 5 (t 0),nc 6 5,fa 7 2 6,l 8 7,mv 9 (t 1),ca 10 n_K [(t 8),(t 9)],nc 11 4,fa 12 2 11,st 1 12 (t 10)]
def c_D:CC:=(.ops r_D_1)
def f_D:ze:=⟨13,[],c_D,none,none⟩
def r_R_1:List CI:=[mv 4 (t 0),mv 5 (t 0),nc 6 5,fa 7 0 6,mv 8 (t 1),oo 9 (.build [(iI 0),(iI 0)] [(0,1,(i 4)),(1,1,(t 8))]),ca 10 n_t [(t 7),(t 9)],ca 11 n_D [(t 4),(t 10)]]
def c_R:CC:=(.ops r_R_1)
def f_R:ze:=⟨12,[],c_R,none,none⟩
def r_O_1:List CI:=[mv 4 (t 0),mv 5 (t 0),nc 6 5,fa 7 0 6,mv 8 (t 1),oo 9 (.build [(iI 0),(iI 0)] [(0,1,(i 3)),(1,1,(t 8))]),ca 10 n_t [(t 7),(t 9)],ca 11 n_D [(t 4),(t 10)]]
def c_O:CC:=(.ops r_O_1)
def f_O:ze:=⟨12,[],c_O,none,none⟩
def r_q_1:List CI:=[mv 6 (t 0),mv 7 (t 1),le 8 (t 7),ca 9 n_D [(t 6),(t 8)]]
def r_q_2:List CI:=[mv 10 (t 1),le 11 (t 10),mv 12 (i 0)]
def r_q_3:List CI:=[bi .lss 13 (t 12) (t 11)]
def r_q_4:List CI:=[ia 14 2 10 (t 12),ln 15 2 14,oo 5 (.alloc [(iI 0),(iI 0)]),st 2 5 (t 15)]
def r_q_5:List CI:=[fa 25 0 5,l 26 25,bi .neq 27 (t 26) (i 1),mv 24 (t 27)]
def r_q_6:List CI:=[mv 29 (t 0),nc 30 29,fa 31 0 30,ln 32 2 5,ca 33 n_t [(t 31),(t 32)],mv 28 (t 0),lo 1 (bi .mul 34 (i 2) (t 33)),lo 1 (bi .add 35 (t 34) (i 1)),lo 1 (ca 36 n_D [(t 28),(t 35)])]
def r_q_7:List CI:=[fa 38 1 5,l 39 38,bi .geq 40 (t 39) (i 0),mv 37 (t 40)]
def r_q_8:List CI:=[mv 41 (t 0),fa 42 1 5,l 43 42,bi .mul 44 (i 4) (t 43),ca 45 n_D [(t 41),(t 44)]]
def r_q_9:List CI:=[mv 16 (t 0),fa 17 1 5,l 18 17,oo 19 (.un .neg (t 18)),bi .sub 20 (t 19) (i 1),bi .mul 21 (i 4) (t 20),bi .add 22 (t 21) (i 2),ca 23 n_D [(t 16),(t 22)]]
def r_q_10:List CI:=[bi .add 46 (t 12) (i 1),mv 12 (t 46)]
def c_q_11:CC:=(.seq (.ops r_q_3) (bs [0,10,11,12,13]) (.seq (.cond (t 13) .skip (.exit 0)) (bs [0,10,11,12]) (.seq (.block 2 (.seq (.ops r_q_4) (bs [0,5,10,11,12]) (.block 4 (.seq (.ops r_q_5) (bs [0,5,10,11,12,24]) (.cond (t 24) (.draw r_q_6) (.seq (.ops r_q_7) (bs [0,5,10,11,12,37]) (.cond (t 37) (.ops r_q_8) (.ops r_q_9)))))))) (bs [0,10,11,12]) (.ops r_q_10))))
def c_q:CC:=(.seq (.ops r_q_1) (bs [0,1]) (.seq (.ops r_q_2) (bs [0,10,11,12]) (.block 0 (.loop (bs [0,10,11,12]) c_q_11))))
def f_q:ze:=⟨47,[],c_q,none,none⟩
def r_S_1:List CI:=[mv 4 (.c (.string ⟨#[]⟩))]
def r_S_2:List CI:=[mv 5 (t 1),mv 6 (t 0),nc 7 6,fa 8 0 7,fa 9 0 8,l 10 9,ca 11 n_N [(t 5),(t 10)],mv 12 (t 0),nc 13 12,fa 14 2 13,l 15 14,lo 1 (ap 16 1 1 (t 11) (t 15)),lo 2 (ca 17 n_Z [(t 16)]),lo 3 (mv 4 (t 17))]
def c_S:CC:=(.seq (.ops r_S_1) (bs [0,1]) (.seq (.draw r_S_2) (bs [4]) .ret))
def f_S:ze:=⟨18,[.tmp (bits 4)],c_S,none,none⟩
def r_7_1:List CI:=[oo 2 (.recov),mv 1 (t 2)]
def r_7_2:List CI:=[mv 3 (t 1),oo 4 (.bin .neq (.iface true) (t 3) (.c .nilIface))]
def r_7_3:List CI:=[st 1 0 ff]
def c_7:CC:=(.seq (.ops r_7_1) (bs [0,1]) (.seq (.ops r_7_2) (bs [0,4]) (.cond (t 4) (.ops r_7_3) .skip)))
def f_7:ze:=⟨5,[],c_7,none,none⟩
def r_w_1:List CI:=[mv 2 (.c (.slice none 0 0))]
def r_w_2:List CI:=[mv 3 (.c (.int .u16 65535))]
def r_w_3:List CI:=[mv 8 (t 0),le 9 (t 8),mv 10 (i 0)]
def r_w_4:List CI:=[bi .lss 11 (t 10) (t 9)]
def r_w_5:List CI:=[ia 12 1 8 (t 10),l 13 12,mv 5 (t 13)]
def r_w_6:List CI:=[mv 14 (i 0)]
def r_w_7:List CI:=[bi .lss 15 (t 14) (i 8)]
def r_w_8:List CI:=[mv 16 (t 14),mv 6 (t 16)]
def r_w_9:List CI:=[mv 17 (t 3),bi .shr 18 (t 17) (.c (.int .u64 15)),mv 19 (t 5),mv 20 (t 6),bi .sub 21 (i 7) (t 20),bi .shr 22 (t 19) (t 21),bi .and 23 (t 22) (.c (.int .u8 1)),oo 24 (.conv .u16 (t 23)),bi .neq 25 (t 18) (t 24),mv 7 (t 25)]
def r_w_10:List CI:=[mv 26 (t 3),bi .shl 27 (t 26) (.c (.int .u64 1)),mv 3 (t 27)]
def r_w_11:List CI:=[mv 28 (t 7)]
def r_w_12:List CI:=[mv 29 (t 3),bi .xor 30 (t 29) (.c (.int .u16 4129)),mv 3 (t 30)]
def r_w_13:List CI:=[bi .add 31 (t 14) (i 1),mv 14 (t 31)]
def c_w_14:CC:=(.seq (.ops r_w_7) (bs [3,5,8,9,10,14,15]) (.seq (.cond (t 15) .skip (.exit 4)) (bs [3,5,8,9,10,14]) (.seq (.block 6 (.seq (.ops r_w_8) (bs [3,5,6,8,9,10,14]) (.seq (.ops r_w_9) (bs [3,5,7,8,9,10,14]) (.seq (.ops r_w_10) (bs [3,5,7,8,9,10,14]) (.seq (.ops r_w_11) (bs [3,5,8,9,10,14,28]) (.cond (t 28) (.ops r_w_12) .skip)))))) (bs [3,5,8,9,10,14]) (.ops r_w_13))))
def r_w_15:List CI:=[bi .add 32 (t 10) (i 1),mv 10 (t 32)]
def c_w_16:CC:=(.seq (.ops r_w_4) (bs [3,8,9,10,11]) (.seq (.cond (t 11) .skip (.exit 0)) (bs [3,8,9,10]) (.seq (.block 2 (.seq (.ops r_w_5) (bs [3,5,8,9,10]) (.seq (.ops r_w_6) (bs [3,5,8,9,10,14]) (.block 4 (.loop (bs [3,5,8,9,10,14]) c_w_14))))) (bs [3,8,9,10]) (.ops r_w_15))))
def r_w_17:List CI:=[mv 33 (t 3),bi .shr 34 (t 33) (.c (.int .u64 8)),oo 35 (.conv .u8 (t 34)),mv 36 (t 3),oo 37 (.conv .u8 (t 36)),oo 38 (.buildSlice 2 1 [(.int .u8 0)] [(0,(t 35)),(1,(t 37))]),mv 2 (t 38)]
def c_w:CC:=(.seq (.ops r_w_1) (bs [0]) (.seq (.ops r_w_2) (bs [0,3]) (.seq (.seq (.ops r_w_3) (bs [3,8,9,10]) (.block 0 (.loop (bs [3,8,9,10]) c_w_16))) (bs [3]) (.seq (.ops r_w_17) (bs [2]) .ret))))
def f_w:ze:=⟨39,[.tmp (bits 2)],c_w,none,none⟩
def r_u_1:List CI:=[mv 2 (i 0)]
def r_u_2:List CI:=[mv 4 (t 0),ca 5 n_k [(t 4)],mv 3 (t 5)]
def r_u_3:List CI:=[mv 6 (t 3),mv 7 (t 0),nc 8 7,fa 9 2 8,l 10 9,oo 11 (.blt .lenStr [(t 10)]),bi .gtr 12 (t 6) (t 11)]
def r_u_4:List CI:=[oo 13 (.build [] []),oo 14 (.mkI 192 (t 13)),on (.panic (t 14))]
def r_u_5:List CI:=[mv 15 (t 3),mv 2 (t 15)]
def c_u:CC:=(.seq (.ops r_u_1) (bs [0]) (.seq (.ops r_u_2) (bs [0,3]) (.seq (.seq (.ops r_u_3) (bs [3,12]) (.cond (t 12) (.ops r_u_4) .skip)) (bs [3]) (.seq (.ops r_u_5) (bs [2]) .ret))))
def f_u:ze:=⟨16,[.tmp (bits 2)],c_u,none,none⟩
def r_k_1:List CI:=[mv 2 (i 0)]
def r_k_2:List CI:=[mv 3 (.c (.int .u64 0))]
def r_k_3:List CI:=[mv 4 (i 0)]
def r_k_4:List CI:=[mv 6 (t 4),bi .lss 7 (t 6) (i 35)]
def r_k_5:List CI:=[mv 10 (t 0),nc 11 10,fa 12 2 11,l 13 12,bi .eql 14 (t 13) (.c (.string ⟨#[]⟩))]
def r_k_6:List CI:=[oo 15 (.build [] []),oo 16 (.mkI 192 (t 15)),on (.panic (t 16))]
def r_k_7:List CI:=[mv 17 (t 0),nc 18 17,fa 19 2 18,l 20 19,oo 21 (.strIdx (t 20) (i 0)),mv 5 (t 21)]
def r_k_8:List CI:=[mv 22 (t 0),mv 23 (t 0),nc 24 23,fa 25 2 24,l 26 25,oo 27 (.strSlice (t 26) (some (i 1)) none),nc 28 22,fa 29 2 28,st 1 29 (t 27)]
def r_k_9:List CI:=[mv 30 (t 3),mv 31 (t 5),bi .and 32 (t 31) (.c (.int .u8 127)),oo 33 (.conv .u64 (t 32)),mv 34 (t 4),bi .shl 35 (t 33) (t 34),bi .or 36 (t 30) (t 35),mv 3 (t 36)]
def r_k_10:List CI:=[mv 37 (t 5),bi .lss 38 (t 37) (.c (.int .u8 128))]
def r_k_11:List CI:=[mv 39 (t 3),oo 40 (.conv .i64 (t 39)),mv 2 (t 40)]
def r_k_12:List CI:=[mv 8 (t 4),bi .add 9 (t 8) (i 7),mv 4 (t 9)]
def c_k_13:CC:=(.seq (.seq (.ops r_k_4) (bs [0,2,3,4,7]) (.cond (t 7) .skip (.exit 0))) (bs [0,2,3,4]) (.seq (.block 2 (.seq (.seq (.ops r_k_5) (bs [0,2,3,4,14]) (.cond (t 14) (.ops r_k_6) .skip)) (bs [0,2,3,4]) (.seq (.ops r_k_7) (bs [0,2,3,4,5]) (.seq (.ops r_k_8) (bs [0,2,3,4,5]) (.seq (.ops r_k_9) (bs [0,2,3,4,5]) (.seq (.ops r_k_10) (bs [0,2,3,4,38]) (.cond (t 38) (.seq (.ops r_k_11) (bs [2]) .ret) .skip))))))) (bs [0,2,3,4]) (.ops r_k_12)))
def r_k_14:List CI:=[oo 41 (.build [] []),oo 42 (.mkI 192 (t 41)),on (.panic (t 42))]
def c_k:CC:=(.seq (.ops r_k_1) (bs [0,2]) (.seq (.ops r_k_2) (bs [0,2,3]) (.seq (.seq (.ops r_k_3) (bs [0,2,3,4]) (.block 0 (.loop (bs [0,2,3,4]) c_k_13))) (bs [2]) (.ops r_k_14))))
def f_k:ze:=⟨43,[.tmp (bits 2)],c_k,none,none⟩
def r_J_1:List CI:=[oo 4 (.alloc [(iI 0),(iI 0)])]
def r_J_2:List CI:=[mv 5 (t 1),mv 6 (t 0),nc 7 6,fa 8 0 7,fa 9 0 8,l 10 9,le 11 (t 10),bi .geq 12 (t 5) (t 11)]
def r_J_3:List CI:=[oo 13 (.build [] []),oo 14 (.mkI 192 (t 13)),on (.panic (t 14))]
def r_J_4:List CI:=[mv 15 (t 0),nc 16 15,fa 17 0 16,fa 18 0 17,l 19 18,mv 20 (t 1),ia 21 2 19 (t 20),ln 22 2 21,st 2 4 (t 22)]
def c_J:CC:=(.seq (.ops r_J_1) (bs [0,1,4]) (.seq (.seq (.ops r_J_2) (bs [0,1,4,12]) (.cond (t 12) (.ops r_J_3) .skip)) (bs [0,1,4]) (.seq (.ops r_J_4) (bs [4]) .ret)))
def f_J:ze:=⟨23,[.cell (some 2) (bits 4)],c_J,none,none⟩
def r_K_1:List CI:=[mv 4 (.c (.slice none 0 0))]
def r_K_2:List CI:=[mv 5 (t 1),bi .gtr 6 (t 5) (i 127)]
def r_K_3:List CI:=[mv 9 (t 0),mv 10 (t 1),bi .and 11 (t 10) (i 127),bi .or 12 (t 11) (i 128),oo 13 (.conv .u8 (t 12)),oo 14 (.buildSlice 1 1 [(.int .u8 0)] [(0,(t 13))]),ap 15 1 1 (t 9) (t 14),mv 0 (t 15)]
def r_K_4:List CI:=[mv 7 (t 1),bi .shr 8 (t 7) (.c (.int .u64 7)),mv 1 (t 8)]
def c_K_5:CC:=(.seq (.seq (.ops r_K_2) (bs [0,1,6]) (.cond (t 6) .skip (.exit 0))) (bs [0,1]) (.seq (.block 2 (.ops r_K_3)) (bs [0,1]) (.ops r_K_4)))
def r_K_6:List CI:=[mv 16 (t 0),mv 17 (t 1),oo 18 (.conv .u8 (t 17)),oo 19 (.buildSlice 1 1 [(.int .u8 0)] [(0,(t 18))]),ap 20 1 1 (t 16) (t 19),mv 4 (t 20)]
def c_K:CC:=(.seq (.ops r_K_1) (bs [0,1]) (.seq (.block 0 (.loop (bs [0,1]) c_K_5)) (bs [0,1]) (.seq (.ops r_K_6) (bs [4]) .ret)))
def f_K:ze:=⟨21,[.tmp (bits 4)],c_K,none,none⟩
def r_p_1:List CI:=[mv 4 (i 0)]
def r_p_2:List CI:=[mv 6 (t 0),le 7 (t 6),mv 8 (i 0)]
def r_p_3:List CI:=[bi .lss 9 (t 8) (t 7)]
def r_p_4:List CI:=[mv 10 (t 8),mv 5 (t 10)]
def r_p_5:List CI:=[mv 11 (t 1),mv 12 (t 0),mv 13 (t 5),ia 14 1 12 (t 13),l 15 14,bi .eql 16 (t 11) (t 15)]
def r_p_6:List CI:=[mv 17 (t 5),mv 4 (t 17)]
def r_p_7:List CI:=[bi .add 18 (t 8) (i 1),mv 8 (t 18)]
def c_p_8:CC:=(.seq (.ops r_p_3) (bs [0,1,7,8,9]) (.seq (.cond (t 9) .skip (.exit 0)) (bs [0,1,7,8]) (.seq (.block 2 (.seq (.ops r_p_4) (bs [0,1,5,7,8]) (.seq (.ops r_p_5) (bs [0,1,5,7,8,16]) (.cond (t 16) (.seq (.ops r_p_6) (bs [4]) .ret) .skip)))) (bs [0,1,7,8]) (.ops r_p_7))))
def r_p_9:List CI:=[mv 4 (i (-1))]
def c_p:CC:=(.seq (.ops r_p_1) (bs [0,1]) (.seq (.seq (.ops r_p_2) (bs [0,1,7,8]) (.block 0 (.loop (bs [0,1,7,8]) c_p_8))) [] (.seq (.ops r_p_9) (bs [4]) .ret)))
def f_p:ze:=⟨19,[.tmp (bits 4)],c_p,none,none⟩
def r_z_1:List CI:=[mv 4 ff]
def r_z_2:List CI:=[mv 5 (t 0),mv 6 (t 1),ca 7 n_j [(t 5),(t 6)],bi .geq 8 (t 7) (i 0),mv 4 (t 8)]
def c_z:CC:=(.seq (.ops r_z_1) (bs [0,1]) (.seq (.ops r_z_2) (bs [4]) .ret))
def f_z:ze:=⟨9,[.tmp (bits 4)],c_z,none,none⟩
def r_ba_1:List CI:=[mv 3 ff]
def r_ba_2:List CI:=[l 4 1,mv 5 (t 0),oo 6 (.call (t 4) [(t 5)]),no 7 6,mv 3 (t 7)]
def c_ba:CC:=(.seq (.ops r_ba_1) (bs [0,1]) (.seq (.ops r_ba_2) (bs [3]) .ret))
def f_ba:ze:=⟨8,[.tmp (bits 3)],c_ba,none,none⟩
def r_s_1:List CI:=[mv 4 ff]
def r_s_2:List CI:=[mv 5 (t 0),mv 6 (t 1),ca 7 n_f [(t 5),(t 6)],bi .geq 8 (t 7) (i 0),mv 4 (t 8)]
def c_s:CC:=(.seq (.ops r_s_1) (bs [0,1]) (.seq (.ops r_s_2) (bs [4]) .ret))
def f_s:ze:=⟨9,[.tmp (bits 4)],c_s,none,none⟩
def r_6_1:List CI:=[bx 2 (t 0),mv 3 ff]
def r_6_2:List CI:=[l 4 1,ln 5 1 2,oo 6 (.call (t 4) [(t 5)]),no 7 6,mv 3 (t 7)]
def c_6:CC:=(.seq (.ops r_6_1) (bs [1,2]) (.seq (.ops r_6_2) (bs [3]) .ret))
def f_6:ze:=⟨8,[.tmp (bits 3)],c_6,none,none⟩
def r_r_1:List CI:=[mv 4 ff]
def r_r_2:List CI:=[mv 5 (t 0),mv 6 (t 1),ca 7 n_e [(t 5),(t 6)],bi .geq 8 (t 7) (i 0),mv 4 (t 8)]
def c_r:CC:=(.seq (.ops r_r_1) (bs [0,1]) (.seq (.ops r_r_2) (bs [4]) .ret))
def f_r:ze:=⟨9,[.tmp (bits 4)],c_r,none,none⟩
def r_5_1:List CI:=[bx 2 (t 0),mv 3 ff]
def r_5_2:List CI:=[l 4 1,ln 5 2 2,oo 6 (.call (t 4) [(t 5)]),no 7 6,mv 3 (t 7)]
def c_5:CC:=(.seq (.ops r_5_1) (bs [1,2]) (.seq (.ops r_5_2) (bs [3]) .ret))
def f_5:ze:=⟨8,[.tmp (bits 3)],c_5,none,none⟩
def r_n_1:List CI:=[mv 4 ff]
def r_n_2:List CI:=[mv 5 (t 0),mv 6 (t 1),ca 7 n_c [(t 5),(t 6)],bi .geq 8 (t 7) (i 0),mv 4 (t 8)]
def c_n:CC:=(.seq (.ops r_n_1) (bs [0,1]) (.seq (.ops r_n_2) (bs [4]) .ret))
def f_n:ze:=⟨9,[.tmp (bits 4)],c_n,none,none⟩
def r_2_1:List CI:=[bx 2 (t 0),mv 3 ff]
def r_2_2:List CI:=[l 4 1,ln 5 2 2,oo 6 (.call (t 4) [(t 5)]),no 7 6,mv 3 (t 7)]
def c_2:CC:=(.seq (.ops r_2_1) (bs [1,2]) (.seq (.ops r_2_2) (bs [3]) .ret))
def f_2:ze:=⟨8,[.tmp (bits 3)],c_2,none,none⟩
def r_o_1:List CI:=[mv 4 ff]
def r_o_2:List CI:=[mv 5 (t 0),mv 6 (t 1),ca 7 n_d [(t 5),(t 6)],bi .geq 8 (t 7) (i 0),mv 4 (t 8)]
def c_o:CC:=(.seq (.ops r_o_1) (bs [0,1]) (.seq (.ops r_o_2) (bs [4]) .ret))
def f_o:ze:=⟨9,[.tmp (bits 4)],c_o,none,none⟩
def r_3_1:List CI:=[bx 2 (t 0),mv 3 ff]
def r_3_2:List CI:=[l 4 1,ln 5 4 2,oo 6 (.call (t 4) [(t 5)]),no 7 6,mv 3 (t 7)]
def c_3:CC:=(.seq (.ops r_3_1) (bs [1,2]) (.seq (.ops r_3_2) (bs [3]) .ret))
def f_3:ze:=⟨8,[.tmp (bits 3)],c_3,none,none⟩
def r_t_1:List CI:=[bx 3 (t 1),mv 4 (i 0)]
def r_t_2:List CI:=[mv 8 (t 0),nc 9 8,fa 10 1 9,l 11 10,ln 12 2 3,oo 13 (.lookup (.leaves [0,1]) (iI 0) true (t 11) (t 12)),mv 7 (t 13),ex 14 7 0,ex 15 7 1,mv 5 (t 14),mv 6 (t 15)]
def r_t_3:List CI:=[mv 16 (t 6),no 17 16]
def r_t_4:List CI:=[mv 18 (t 0),nc 19 18,fa 20 0 19,l 21 20,le 22 (t 21),mv 5 (t 22)]
def r_t_5:List CI:=[mv 24 (t 0),nc 25 24,fa 26 0 25,l 27 26,ln 28 2 3,oo 29 (.buildSlice 1 2 [(iI 0),(iI 0)] [(0,(t 28))]),ap 30 2 16 (t 27) (t 29),mv 23 (t 0),lo 1 (nc 31 23),lo 1 (fa 32 0 31),lo 1 (st 1 32 (t 30))]
def r_t_6:List CI:=[mv 33 (t 0),nc 34 33,fa 35 1 34,l 36 35,ln 37 2 3,mv 38 (t 5),on (.mapUpdate (.leaves [0,1]) (t 36) (t 37) (t 38))]
def r_t_7:List CI:=[mv 39 (t 5),mv 4 (t 39)]
def c_t:CC:=(.seq (.ops r_t_1) (bs [0,3]) (.seq (.draw r_t_2) (bs [0,3,5,6]) (.seq (.seq (.ops r_t_3) (bs [0,3,5,17]) (.cond (t 17) (.seq (.ops r_t_4) (bs [0,3,5]) (.seq (.draw r_t_5) (bs [0,3,5]) (.draw r_t_6))) .skip)) (bs [5]) (.seq (.ops r_t_7) (bs [4]) .ret))))
def f_t:ze:=⟨40,[.tmp (bits 4)],c_t,none,none⟩
def r_j_1:List CI:=[mv 4 (i 0)]
def r_j_2:List CI:=[mv 6 (t 0),le 7 (t 6),mv 8 (i 0)]
def r_j_3:List CI:=[bi .lss 9 (t 8) (t 7)]
def r_j_4:List CI:=[mv 10 (t 8),mv 5 (t 10)]
def r_j_5:List CI:=[mv 11 (t 1),mv 12 (t 0),mv 13 (t 5),ia 14 1 12 (t 13),l 15 14,oo 16 (.call (t 11) [(t 15)])]
def r_j_6:List CI:=[mv 17 (t 5),mv 4 (t 17)]
def r_j_7:List CI:=[bi .add 18 (t 8) (i 1),mv 8 (t 18)]
def c_j_8:CC:=(.seq (.ops r_j_3) (bs [0,1,7,8,9]) (.seq (.cond (t 9) .skip (.exit 0)) (bs [0,1,7,8]) (.seq (.block 2 (.seq (.ops r_j_4) (bs [0,1,5,7,8]) (.seq (.ops r_j_5) (bs [0,1,5,7,8,16]) (.cond (t 16) (.seq (.ops r_j_6) (bs [4]) .ret) .skip)))) (bs [0,1,7,8]) (.ops r_j_7))))
def r_j_9:List CI:=[mv 4 (i (-1))]
def c_j:CC:=(.seq (.ops r_j_1) (bs [0,1]) (.seq (.seq (.ops r_j_2) (bs [0,1,7,8]) (.block 0 (.loop (bs [0,1,7,8]) c_j_8))) [] (.seq (.ops r_j_9) (bs [4]) .ret)))
def f_j:ze:=⟨19,[.tmp (bits 4)],c_j,none,none⟩
def r_f_1:List CI:=[mv 4 (i 0)]
def r_f_2:List CI:=[mv 6 (t 0),le 7 (t 6),mv 8 (i 0)]
def r_f_3:List CI:=[bi .lss 9 (t 8) (t 7)]
def r_f_4:List CI:=[mv 10 (t 8),mv 5 (t 10)]
def r_f_5:List CI:=[mv 11 (t 1),mv 12 (t 0),mv 13 (t 5),ia 14 1 12 (t 13),ln 15 1 14,oo 16 (.call (t 11) [(t 15)])]
def r_f_6:List CI:=[mv 17 (t 5),mv 4 (t 17)]
def r_f_7:List CI:=[bi .add 18 (t 8) (i 1),mv 8 (t 18)]
def c_f_8:CC:=(.seq (.ops r_f_3) (bs [0,1,7,8,9]) (.seq (.cond (t 9) .skip (.exit 0)) (bs [0,1,7,8]) (.seq (.block 2 (.seq (.ops r_f_4) (bs [0,1,5,7,8]) (.seq (.ops r_f_5) (bs [0,1,5,7,8,16]) (.cond (t 16) (.seq (.ops r_f_6) (bs [4]) .ret) .skip)))) (bs [0,1,7,8]) (.ops r_f_7))))
def r_f_9:List CI:=[mv 4 (i (-1))]
def c_f:CC:=(.seq (.ops r_f_1) (bs [0,1]) (.seq (.seq (.ops r_f_2) (bs [0,1,7,8]) (.block 0 (.loop (bs [0,1,7,8]) c_f_8))) [] (.seq (.ops r_f_9) (bs [4]) .ret)))
def f_f:ze:=⟨19,[.tmp (bits 4)],c_f,none,none⟩
def r_e_1:List CI:=[mv 4 (i 0)]
def r_e_2:List CI:=[mv 6 (t 0),le 7 (t 6),mv 8 (i 0)]
def r_e_3:List CI:=[bi .lss 9 (t 8) (t 7)]
def r_e_4:List CI:=[mv 10 (t 8),mv 5 (t 10)]
def r_e_5:List CI:=[mv 11 (t 1),mv 12 (t 0),mv 13 (t 5),ia 14 2 12 (t 13),ln 15 2 14,oo 16 (.call (t 11) [(t 15)])]
def r_e_6:List CI:=[mv 17 (t 5),mv 4 (t 17)]
def r_e_7:List CI:=[bi .add 18 (t 8) (i 1),mv 8 (t 18)]
def c_e_8:CC:=(.seq (.ops r_e_3) (bs [0,1,7,8,9]) (.seq (.cond (t 9) .skip (.exit 0)) (bs [0,1,7,8]) (.seq (.block 2 (.seq (.ops r_e_4) (bs [0,1,5,7,8]) (.seq (.ops r_e_5) (bs [0,1,5,7,8,16]) (.cond (t 16) (.seq (.ops r_e_6) (bs [4]) .ret) .skip)))) (bs [0,1,7,8]) (.ops r_e_7))))
def r_e_9:List CI:=[mv 4 (i (-1))]
def c_e:CC:=(.seq (.ops r_e_1) (bs [0,1]) (.seq (.seq (.ops r_e_2) (bs [0,1,7,8]) (.block 0 (.loop (bs [0,1,7,8]) c_e_8))) [] (.seq (.ops r_e_9) (bs [4]) .ret)))
def f_e:ze:=⟨19,[.tmp (bits 4)],c_e,none,none⟩
def r_c_1:List CI:=[mv 4 (i 0)]
def r_c_2:List CI:=[mv 6 (t 0),le 7 (t 6),mv 8 (i 0)]
def r_c_3:List CI:=[bi .lss 9 (t 8) (t 7)]
def r_c_4:List CI:=[mv 10 (t 8),mv 5 (t 10)]
def r_c_5:List CI:=[mv 11 (t 1),mv 12 (t 0),mv 13 (t 5),ia 14 2 12 (t 13),ln 15 2 14,oo 16 (.call (t 11) [(t 15)])]
def r_c_6:List CI:=[mv 17 (t 5),mv 4 (t 17)]
def r_c_7:List CI:=[bi .add 18 (t 8) (i 1),mv 8 (t 18)]
def c_c_8:CC:=(.seq (.ops r_c_3) (bs [0,1,7,8,9]) (.seq (.cond (t 9) .skip (.exit 0)) (bs [0,1,7,8]) (.seq (.block 2 (.seq (.ops r_c_4) (bs [0,1,5,7,8]) (.seq (.ops r_c_5) (bs [0,1,5,7,8,16]) (.cond (t 16) (.seq (.ops r_c_6) (bs [4]) .ret) .skip)))) (bs [0,1,7,8]) (.ops r_c_7))))
def r_c_9:List CI:=[mv 4 (i (-1))]
def c_c:CC:=(.seq (.ops r_c_1) (bs [0,1]) (.seq (.seq (.ops r_c_2) (bs [0,1,7,8]) (.block 0 (.loop (bs [0,1,7,8]) c_c_8))) [] (.seq (.ops r_c_9) (bs [4]) .ret)))
def f_c:ze:=⟨19,[.tmp (bits 4)],c_c,none,none⟩
def r_d_1:List CI:=[mv 4 (i 0)]
def r_d_2:List CI:=[mv 6 (t 0),le 7 (t 6),mv 8 (i 0)]
def r_d_3:List CI:=[bi .lss 9 (t 8) (t 7)]
def r_d_4:List CI:=[mv 10 (t 8),mv 5 (t 10)]
def r_d_5:List CI:=[mv 11 (t 1),mv 12 (t 0),mv 13 (t 5),ia 14 4 12 (t 13),ln 15 4 14,oo 16 (.call (t 11) [(t 15)])]
def r_d_6:List CI:=[mv 17 (t 5),mv 4 (t 17)]
def r_d_7:List CI:=[bi .add 18 (t 8) (i 1),mv 8 (t 18)]
def c_d_8:CC:=(.seq (.ops r_d_3) (bs [0,1,7,8,9]) (.seq (.cond (t 9) .skip (.exit 0)) (bs [0,1,7,8]) (.seq (.block 2 (.seq (.ops r_d_4) (bs [0,1,5,7,8]) (.seq (.ops r_d_5) (bs [0,1,5,7,8,16]) (.cond (t 16) (.seq (.ops r_d_6) (bs [4]) .ret) .skip)))) (bs [0,1,7,8]) (.ops r_d_7))))
def r_d_9:List CI:=[mv 4 (i (-1))]
def c_d:CC:=(.seq (.ops r_d_1) (bs [0,1]) (.seq (.seq (.ops r_d_2) (bs [0,1,7,8]) (.block 0 (.loop (bs [0,1,7,8]) c_d_8))) [] (.seq (.ops r_d_9) (bs [4]) .ret)))
def f_d:ze:=⟨19,[.tmp (bits 4)],c_d,none,none⟩
end Go.Ideal.Q
namespace Go.Ideal
noncomputable section
variable {P:Program}
def zbA (W:World) (b:Nat):Bool:=match W.heap[b]? with
 |some (.cells _ _ _)=>true
 |_=>false
def okV (W:World):Value→Bool
 |.bool _=>true
 |.int _ _=>true
 |.string _=>true
 |.nilFunc=>true
 |.pointer none=>true
 |.map none=>true
 |.slice none 0 0=>true
 |.slice (some a) len cap=>a.spot.isNone&&(decide (len≤cap)&&(decide (cap<zg)&&zbA W a.block))
 |.pointer (some a)=>a.spot.isNone&&zbA W a.block
 |_=>false
def isDang:Value→Bool
 |.slice (some _) 0 0=>true
 |_=>false
def dang (W:World):Value:=.slice (some ⟨W.heap.size,0,none⟩) 0 0
def impV (W:World) (v:Value):Value:=if okV W v then v else if isDang v then dang W else poison
def impObj (W:World):Obj→Option IObj
 |.cells c _ _=>some (.cells (c.toList.map (impV W)) roE)
 |_=>none
open Classical in
def dangR (W:World):Option RB:=if h: ∃b,zbA W b=true then some ⟨Classical.choose h,0,0,0,1,none⟩ else none
def zdO (W:World) (i:Nat):Option RB:=if i=W.heap.size then dangR W else(W.heap[i]?).bind fun o=>match o with
 |.cells c _ _=>some ⟨i,0,c.size,roE,c.size,some o⟩
 |_=>none
def zk4 (W:World) (n:Nat):PT IObj:=Nat.rec (motive:=fun _=>PT IObj) .nil (fun i t=>match(W.heap[i]?).bind (impObj W) with|some o=>t.set (bits i) o|none=>t) n
def impH (W:World):H:=⟨W.heap.size+1,zk4 W W.heap.size⟩
theorem zhR (W:World): ∀(n j:Nat),(zk4 W n).get (bits j)=if j<n then(W.heap[j]?).bind (impObj W) else none
 |0,j=>by rw[if_neg (by omega)];exact PT.get_nil _
 |n+1,j=>by
  have e:zk4 W (n+1)=match(W.heap[n]?).bind (impObj W) with|some o=>(zk4 W n).set (bits n) o|none=>zk4 W n:=rfl
  rw[e]
  cases ho:(W.heap[n]?).bind (impObj W) with
  |none=>
   rw[zhR W n j]
   by_cases h:j<n
   ·rw[if_pos h,if_pos (by omega)]
   ·rw[if_neg h]
    by_cases e:j=n
    ·subst e;rw[if_pos (by omega),ho]
    ·rw[if_neg (by omega)]
  |some o=>
   dsimp only
   rw[PT.get_set_bits,zhR W n j]
   by_cases e:n=j
   ·subst e;rw[if_pos rfl,if_pos (by omega),ho]
   ·rw[if_neg e]
    by_cases h:j<n
    ·rw[if_pos h,if_pos (by omega)]
    ·rw[if_neg h,if_neg (by omega)]
theorem zg7 (W:World) (j:Nat):(impH W).get j=(W.heap[j]?).bind (impObj W):=by
 show(zk4 W W.heap.size).get (bits j)=_
 rw[zhR]
 by_cases h:j<W.heap.size
 ·rw[if_pos h]
 ·rw[if_neg h,Array.getElem?_eq_none (by omega)];rfl
theorem zfU {W:World} {b:Nat} {c:Array Value} {t:TypeId} {fr:Nat×Nat} (h:W.heap[b]? =some (.cells c t fr)):(impH W).get b=some (.cells (c.toList.map (impV W)) roE):=by rw[zg7,h];rfl
theorem impH_next (W:World):(impH W).next=W.heap.size+1:=rfl
theorem zk3 {W:World} {b:Nat} (h:zbA W b=true):b<W.heap.size:=by
 unfold zbA at h
 split at h
 ·rename_i hb;exact(Array.getElem?_eq_some_iff.1 hb).1
 ·cases h
theorem impRho_lt {W:World} {i:Nat} (h:i<W.heap.size):zdO W i=(W.heap[i]?).bind fun o=>match o with|.cells c _ _=>some ⟨i,0,c.size,roE,c.size,some o⟩|_=>none:=by
 unfold zdO;rw[if_neg (by omega)]
theorem zfv {W:World} {b:Nat} (h:zbA W b=true): ∃R,zdO W b=some R∧R.blk=b∧R.base=0:=by
 have hlt:=zk3 h
 unfold zbA at h
 split at h
 ·rename_i c t fr hb
  exact⟨_,by rw[impRho_lt hlt,hb];rfl,rfl,rfl⟩
 ·cases h
theorem okV_rel {W:World} {v:Value} (h:okV W v=true):VR (zdO W) v v:=by
 unfold okV at h
 split at h
 ·exact .bool _
 ·exact .int _ _
 ·exact .str _
 ·exact .nilFunc
 ·exact .ptrNil
 ·exact .mapNil
 ·exact .sliceNil
 ·rename_i a len cap
  simp only[Bool.and_eq_true,Option.isNone_iff_eq_none,decide_eq_true_eq] at h
  obtain⟨h1,h2,h3,h4⟩:=h
  obtain⟨R,hR,hb,h0⟩:=zfv h4
  obtain⟨b,o,sp⟩:=a
  simp only at h1 hR hb
  subst h1
  have:=VR.slice (o:=o) (len:=len) hR h3 h2
  rw[hb,h0,Nat.zero_add] at this
  exact this
 ·rename_i a
  simp only[Bool.and_eq_true,Option.isNone_iff_eq_none] at h
  obtain⟨h1,h4⟩:=h
  obtain⟨R,hR,hb,h0⟩:=zfv h4
  obtain⟨b,o,sp⟩:=a
  simp only at h1 hR hb
  subst h1
  have:=VR.ptr (o:=o) hR
  rw[hb,h0,Nat.zero_add] at this
  exact this
 ·cases h
theorem zeP {W:World} {i:Nat} {R:RB} (h:zdO W i=some R):(i≠W.heap.size∧ ∃c t fr,W.heap[i]? =some (.cells c t fr)∧R=⟨i,0,c.size,roE,c.size,some (.cells c t fr)⟩)∨(i=W.heap.size∧zbA W R.blk=true):=by
 unfold zdO at h
 split at h
 ·rename_i e
  refine .inr ⟨e,?_⟩
  unfold dangR at h
  split at h
  ·rename_i hx;cases h;exact Classical.choose_spec hx
  ·cases h
 ·rename_i e
  obtain⟨o,ho,h⟩:=aof h
  cases o with
  |cells c t fr=>cases h;exact .inl ⟨e,c,t,fr,ho,rfl⟩
  |_=>cases h
theorem zhQ {W:World} {i:Nat} {R:RB} {o:IObj} (h:zdO W i=some R) (ho:(impH W).get i=some o): ∃c t fr,W.heap[i]? =some (.cells c t fr)∧R=⟨i,0,c.size,roE,c.size,some (.cells c t fr)⟩:=by
 rcases zeP h with⟨-,h⟩| ⟨rfl,-⟩
 ·exact h
 ·rw[zg7,Array.getElem?_eq_none (Nat.le_refl _)] at ho;cases ho
theorem dang_rel {W:World} {v:Value} {b:Nat} (hb:zbA W b=true) (h:isDang v=true):VR (zdO W) (dang W) v:=by
 unfold isDang at h
 split at h
 ·refine .sliceD (R:=⟨Classical.choose (⟨b,hb⟩: ∃b,zbA W b=true),0,0,0,1,none⟩) ?_ (by show 0<1;omega)
  unfold zdO;rw[if_pos rfl];unfold dangR;rw[dif_pos ⟨b,hb⟩]
 ·cases h
theorem imp_HR (W:World):HR P (zdO W) (impH W) W where
 obj:=fun i R o hi ho=>by
  obtain⟨c,t,fr,hb,rfl⟩:=zhQ hi ho
  rw[zfU hb] at ho;cases ho
  refine⟨rfl,by simp,c,t,fr,hb,.inr ⟨rfl,rfl⟩,rfl,by simp,fun j v hj=> ?_⟩
  rw[List.getElem?_map] at hj
  obtain⟨x,hx,rfl⟩:=Option.map_eq_some_iff.1 hj
  refine⟨x,by rw[Array.getElem?_toList] at hx;simpa using hx,?_⟩
  unfold impV
  by_cases hok:okV W x=true
  ·rw[if_pos hok];exact .inr (okV_rel hok)
  ·rw[if_neg hok]
   by_cases hd:isDang x=true
   ·rw[if_pos hd];exact .inr (dang_rel (b:=i) (by unfold zbA;rw[hb]) hd)
   ·rw[if_neg hd];exact .inl rfl
 nxt:=fun i hi=>by
  have hi':W.heap.size+1≤i:=hi
  have hn:W.heap[i]? =none:=Array.getElem?_eq_none (by omega)
  exact⟨by unfold zdO;rw[if_neg (by omega),hn];rfl,by rw[zg7,hn];rfl⟩
 sep:=fun i j R S hi hj ai aj e=>by
  obtain⟨o,ho,-⟩:=ai
  obtain⟨o',ho',-⟩:=aj
  obtain⟨_,_,_,_,rfl⟩:=zhQ hi ho
  obtain⟨_,_,_,_,rfl⟩:=zhQ hj ho'
  exact e
 blk:=fun i R hi=>by
  rcases zeP hi with⟨-,_,_,_,hb,rfl⟩| ⟨-,hc⟩
  ·exact(Array.getElem?_eq_some_iff.1 hb).1
  ·exact zk3 hc
 glb:=fun i b x hi=>by
  rw[zg7] at hi
  obtain⟨o,-,ho⟩:=aof hi
  cases o<;>cases ho
def okArg (W:World):Value→Bool
 |.agg cs=>cs.toList.all (okV W)
 |v=>okV W v
theorem okArg_rel {W:World} {v:Value} (h:okArg W v=true):VR (zdO W) v v:=by
 unfold okArg at h
 split at h
 ·rename_i cs
  have:VRL (zdO W) cs.toList cs.toList:=⟨rfl,fun j x y hx hy=>by rw[hx] at hy;cases hy;exact okV_rel (List.all_eq_true.1 h x (List.mem_of_getElem? hx))⟩
  exact VR.agg_of this
 ·exact okV_rel h
theorem calls_import {F:FuncId→Option ze} (hmix:P.follows .mixedOrders=true) (hF: ∀g cf,F g=some cf→FnOk P g cf) {g:FuncId} {args:Array Value} {W:World} (hargs: ∀v∈args.toList,okArg W v=true)
 {b:Bool} {n:Nat} {h':H} (hn:E F n (.call (.func (.func g) #[] #[]) args.toList (impH W))=some (.val (.bool b) h')) (hfr: ∀i,i<W.heap.size→h'.get i=(impH W).get i):
 Calls P g args W fun e W'=>e=.returned (.bool b)∧Same W W':=by
 have ra:VRL (zdO W) args.toList args.toList:=⟨rfl,fun j x y hx hy=>by rw[hx] at hy;cases hy;exact okArg_rel (hargs x (List.mem_of_getElem? hx))⟩
 refine(zh0 hmix hF hn ra (imp_HR W)).mono ?_
 rintro e W' ⟨v',σ,rfl,hv,hr,hx⟩
 refine⟨by rw[hv.inv_bool],hx.os,hx.out,fun B hB=> ?_,hx.froz,hx.td,hx.size⟩
 by_cases hc:zbA W B=true
 ·obtain⟨R,hR,hb,h0⟩:=zfv hc
  obtain⟨-,c,t,fr,hWB,rfl⟩:=(zeP hR).resolve_right (fun h=>by omega)
  have ho:=hr.obj B _ _ (hx.le _ _ hR) (by rw[hfr B hB];exact zfU hWB)
  obtain⟨_,_,c',t',fr',q1,q2,_⟩:=ho
  rcases q2 with⟨q2,_⟩| ⟨q2,_⟩
  ·cases q2
  ·rw[q1,hWB];exact(q2.symm▸rfl:some (Obj.cells c' t' fr')=some (Obj.cells c t fr))
 ·refine hx.frame B hB fun i R hi e=> ?_
  rcases zeP hi with⟨-,c,t,fr,hWB,rfl⟩| ⟨-,hcc⟩
  ·have e:i=B:=e
   subst e
   exact hc (by unfold zbA;rw[hWB])
  ·rw[e] at hcc;exact hc hcc
theorem prim_of {F:FuncId→Option ze} (hmix:P.follows .mixedOrders=true) (hF: ∀g cf,F g=some cf→FnOk P g cf) {g:FuncId} {fn:Func} {cf0:ze} (hfn:P.funcs[g]? =some fn) (hcf:z8 P fn=some (ze6 cf0)) {b:Bool} {n:Nat} {h':H}
 (he:E F n (.call (.func (.func g) #[] #[]) [] .empty)=some (.val (.bool b) h')):FnOk P g (zhH b):=by
 refine .inr (.inl ⟨fn,cf0,b,hfn,hcf,rfl,fun w=> ?_⟩)
 have hr:HR P (fun _=>none) H.empty w:=⟨fun _ _ _ h=>(by cases h),fun i _=>⟨rfl,PT.get_nil _⟩,fun _ _ _ _ h=>(by cases h),fun _ _ h=>(by cases h),fun i _ _ h=>by rw[H.get_empty] at h;cases h⟩
 refine(zh0 hmix hF he (args':= #[]) ⟨rfl,fun j x y hx=>by simp at hx⟩ hr).mono ?_
 rintro e w' ⟨v',σ,rfl,hv,-,hx⟩
 exact⟨by rw[hv.inv_bool],hx.os,hx.out,fun B hB=>hx.frame B hB fun _ _ h=>(by cases h),hx.froz,hx.td,hx.size⟩
section
open Go.ChangeShapes Go.WideShapes Go.RowKit
variable {H:Type} {enc:TypeId×Value→H}
theorem Same.kept {W W':World} (h:Same W W') (may:MemPlace→Prop):W.keptBut W' may:=by
 refine⟨h.os,h.out,fun i hi=> ?_⟩
 rw[h.heap i hi]
 cases ho:W.heap[i]? with
 |none=>trivial
 |some o=>
  cases o with
  |cells c t fr=>exact⟨rfl,rfl,rfl,fun _ _=>rfl⟩
  |map es c=>exact .inr ⟨rfl,rfl⟩
  |_=>rfl
theorem Same.at {W W':World} (h:Same W W') {p:MemPlace} (hp:p.block<W.heap.size):W.sameAt W' p:=by
 cases p with
 |cell b off=>
  show W'.cell? ⟨b,off,none⟩=W.cell? ⟨b,off,none⟩
  have:=h.heap b hp
  simp only[World.cell?,this]
 |map b=>exact h.heap b hp
theorem zgN (hl:laidOutB P=true) {W W':World} {sp':Nat→Bool} (hs:Same W W'): ∀{ts:List TypeId} {vs:List Value} {ds:List (DataW H)} {ps:List MemPlace},(∀t∈ts,P.readableRec t=true∧t<P.types.size)→
 DataW.TrodAll enc P W 0 (fun _=>true) true ts vs ds ps→(∀p∈ps,p.block<W.heap.size)→(∀p∈ps,sp' p.block=true)→DataW.TrodAll enc P W' 0 sp' true ts vs ds ps
 | [],vs,ds,ps,_,h,_,_=>by
   obtain⟨rfl,rfl,rfl⟩:=trodAll_nil h
   exact trodAll_mk0
 |t::ts,vs,ds,ps,ht,h,hlt,hsp=>by
  obtain⟨v,vs',d,ds',p,q,rfl,rfl,rfl,h1,h2⟩:=trodAll_cons h
  obtain⟨r1,r2⟩:=ht t (by simp)
  exact trodAll_cons_mk (WideElems.Trod_stays hl r1 r2 h1 (fun x hx=>hs.at (hlt x (by simp[hx]))) (fun x hx=>hsp x (by simp[hx])))
   (zgN hl hs (fun t ht'=>ht t (by simp[ht'])) h2 (fun x hx=>hlt x (by simp[hx])) (fun x hx=>hsp x (by simp[hx])))
theorem post_kept {f:Func} {s:ChangeSpec} {apart fresh handsOn again:Bool} {W W':World} {args:Array Value} {v:Value} {ds gs:List (DataW H)} {before pa pv:List MemPlace}
 (hW:DataW.Whole enc P f.params.toList s.vars apart W args.toList ds gs before)
 (hres: ∀(b:Nat) (sp:Nat→Bool) (hd:Bool),DataW.TrodAll enc P W' b sp hd f.resultTypes.toList (v.resultList f.resultTypes.size) (s.fn H (ds++gs)).results [])
 (hargs: ∀sp:Nat→Bool,(∀p∈before,sp p.block=true)→DataW.TrodAll enc P W' 0 sp true f.params.toList args.toList (s.fn H (ds++gs)).args pa)
 (hvars: ∀sp:Nat→Bool,(∀p∈before,sp p.block=true)→DataW.TrodVars enc P W' sp s.vars (s.fn H (ds++gs)).vars pv)
 (hps:before=pa++pv) (hk:W.keptBut W' (· ∈before)) (hfz: ∀a:Addr,a.block<W.heap.size→W'.frozen? a=W.frozen? a)
 (hok: ∀(j:Nat) (t:TypeId) (r:Value),f.resultTypes[j]? =some t→(v.resultList f.resultTypes.size)[j]? =some r→Value.okWide P W' .any 0 t r):
 s.post enc P f apart fresh handsOn again W args v W':=by
 refine⟨ds,gs,before,[],pa,pv,hW,hres _ _ _,hargs _ fun p hp=>by simpa using hW.lt p hp,hvars _ fun p hp=>by simpa using hW.lt p hp,World.keptBut_mono (fun p hp=>⟨hp,?_⟩) hk,fun _=> ?_⟩
 ·rw[hps,List.mem_append] at hp
  exact Or.inr hp
 ·have hlt:=hW.lt
  obtain⟨_,_,_,_,_,hz,hn⟩:=hW
  refine⟨hok,_,_,([]++pa)++pv,⟨[]++pa,pv,trodAll_append (hargs _ (fun _ _=>rfl)) (hres _ _ _),hvars _ (fun _ _=>rfl),rfl,fun b off hp=> ?_,fun ha=> ?_⟩,fun p hp _=> ?_⟩
  ·have hb:MemPlace.cell b off∈before:=by rw[hps];simpa using hp
   rw[hfz ⟨b,off,none⟩ (hlt _ hb)]
   exact hz b off hb
  ·have:=hn ha
   rw[hps] at this
   simpa using this
  ·rw[hps]
   simpa using hp
theorem law_post {s:ChangeSpec} {fn:Func} {apart fresh handsOn again:Bool} {W W':World} {args:Array Value} {ds gs:List (DataW H)} {before:List MemPlace} {t:TypeId} (hW:DataW.Whole enc P fn.params.toList s.vars apart W args.toList ds gs before)
 (hvars:s.vars=[]) (hspec:s.fn H (ds++gs)={results:=[.lit (.bool true)],args:=ds}) (hres:fn.resultTypes= #[t]) (ht:P.underlying t=some .bool) (hsame:Same W W') (hl:laidOutB P=true) (hr: ∀t∈fn.params.toList,P.readableRec t=true∧t<P.types.size):
 s.post enc P fn apart fresh handsOn again W args (.bool true) W':=by
 have hW':=hW
 obtain⟨p,q,hA,hV,rfl,hfz,hnd⟩:=hW
 rw[hvars] at hV
 obtain⟨rfl,rfl⟩:=trodVars_none hV
 refine post_kept (pa:=p) (pv:=[]) hW' (fun b sp hd=> ?_) (fun sp hsp=> ?_) (fun sp hsp=> ?_) rfl (hsame.kept _) hsame.froz ?_
 ·rw[hspec,hres]
  exact trodAll_mk1 (shut_bool ht true)
 ·rw[hspec]
  exact zgN hl hsame hr hA (fun x hx=>hW'.lt x (by simp[hx])) (fun x hx=>hsp x (by simp[hx]))
 ·rw[hspec,hvars];rfl
 ·exact ok_one hres rfl (okWide_bool_mk ht true)
end
end
end Go.Ideal
namespace Go.Ideal
noncomputable section
variable {P:Program}
def allEq {α:Type} (f:α→α→Bool):List α→List α→Bool
 | [],[]=>true
 |a::l,b::m=>f a b&&allEq f l m
 |_,_=>false
theorem zf1 {α:Type} {f:α→α→Bool} (hf: ∀a b,f a b=true→a=b): ∀{l m:List α},allEq f l m=true→l=m
 | [],[],_=>rfl
 | [],_::_,h=>by cases h
 |_::_,[],h=>by cases h
 |a::l,b::m,h=>by
  simp only[allEq,Bool.and_eq_true] at h
  rw[hf _ _ h.1,zf1 hf h.2]
def eqX:Nat→Value→Value→Bool
 |n+1,.agg a,.agg b=>allEq (eqX n) a.toList b.toList
 |n+1,.tuple a,.tuple b=>allEq (eqX n) a.toList b.toList
 |n+1,.iface t a,.iface u b=>Nat.beq t u&&eqX n a b
 |_,.nilIface,.nilIface=>true
 |_,.func (.func f) a b,.func (.func g) c d=>Nat.beq f g&&(a.isEmpty&&b.isEmpty&&(c.isEmpty&&d.isEmpty))
 |_,a,b=>zgf a b
theorem zlb: ∀(n:Nat) (a b:Value),eqX n a b=true→a=b:=by
 intro n
 induction n with
 |zero=>
  intro a b h
  unfold eqX at h
  split at h
  ·rename_i e;exact absurd e (by simp)
  ·rename_i e;exact absurd e (by simp)
  ·rename_i e;exact absurd e (by simp)
  ·rfl
  ·simp only[Bool.and_eq_true,Array.isEmpty_iff] at h
   obtain⟨h1,⟨h2,h3⟩,h4,h5⟩:=h
   rw[Nat.eq_of_beq_eq_true h1,h2,h3,h4,h5]
  ·exact zhg h
 |succ n ih=>
  intro a b h
  unfold eqX at h
  split at h
  ·rename_i e;cases e;rw[Array.toList_inj.1 (zf1 ih h)]
  ·rename_i e;cases e;rw[Array.toList_inj.1 (zf1 ih h)]
  ·rename_i e;cases e;rw[Bool.and_eq_true] at h;rw[Nat.eq_of_beq_eq_true h.1,ih _ _ h.2]
  ·rfl
  ·simp only[Bool.and_eq_true,Array.isEmpty_iff] at h
   obtain⟨h1,⟨h2,h3⟩,h4,h5⟩:=h
   rw[Nat.eq_of_beq_eq_true h1,h2,h3,h4,h5]
  ·exact zhg h
def eqEnt (a b:Value×Value×Nat):Bool:=eqX 4 a.1 b.1&&(eqX 4 a.2.1 b.2.1&&Nat.beq a.2.2 b.2.2)
theorem eqEnt_eq (a b:Value×Value×Nat) (h:eqEnt a b=true):a=b:=by
 simp only[eqEnt,Bool.and_eq_true] at h
 obtain⟨a1,a2,a3⟩:=a
 obtain⟨b1,b2,b3⟩:=b
 have h1:=zlb _ _ _ h.1
 have h2:=zlb _ _ _ h.2.1
 have h3:=Nat.eq_of_beq_eq_true h.2.2
 simp only at h1 h2 h3
 rw[h1,h2,h3]
def eqObj:IObj→IObj→Bool
 |.cells a e,.cells b f=>Nat.beq e f&&allEq (eqX 4) a b
 |.map a c,.map b d=>Nat.beq c d&&allEq eqEnt a b
 |.glob b x,.glob c y=>Nat.beq b c&&eqX 4 x y
 |.dead,.dead=>true
 |_,_=>false
theorem eqObj_eq {a b:IObj} (h:eqObj a b=true):a=b:=by
 unfold eqObj at h
 split at h
 ·rw[Bool.and_eq_true] at h;rw[Nat.eq_of_beq_eq_true h.1,zf1 (zlb 4) h.2]
 ·rw[Bool.and_eq_true] at h;rw[Nat.eq_of_beq_eq_true h.1,zf1 eqEnt_eq h.2]
 ·rw[Bool.and_eq_true] at h;rw[Nat.eq_of_beq_eq_true h.1,zlb _ _ _ h.2]
 ·rfl
 ·cases h
def liveO:IObj→Bool
 |.dead=>false
 |_=>true
def refF (S:Nat→Bool):Nat→Value→Bool
 |n+1,.agg a=>a.toList.all (refF S n)
 |n+1,.tuple a=>a.toList.all (refF S n)
 |n+1,.iface _ v=>refF S n v
 |_,.pointer (some a)=>S a.block
 |_,.slice (some a) _ _=>S a.block
 |_,.map (some i)=>S i
 |_,.func (.func _) a b=>a.isEmpty&&b.isEmpty
 |_,.bool _=>true
 |_,.int _ _=>true
 |_,.string _=>true
 |_,.pointer none=>true
 |_,.slice none _ _=>true
 |_,.map none=>true
 |_,.nilFunc=>true
 |_,.nilIface=>true
 |_,.complex _ _ _=>true
 |_,_=>false
theorem VR.agree {ρ σ:Rho} {S:Nat→Bool} (hS: ∀i,S i=true→σ i=ρ i): ∀(n:Nat) {v v':Value},VR ρ v v'→refF S n v=true→VR σ v v':=by
 intro n
 induction n with
 |zero=>
  intro v v' h hv
  cases h with
  |bool b=>exact .bool b
  |int k n=>exact .int k n
  |str s=>exact .str s
  |ptrNil=>exact .ptrNil
  |ptr h=>exact .ptr ((hS _ hv).trans h)
  |sliceNil=>exact .sliceNil
  |slice h hc hl=>exact .slice ((hS _ hv).trans h) hc hl
  |sliceO h he hl hs hb=>exact .sliceO ((hS _ hv).trans h) he hl hs hb
  |sliceE h he hb=>exact .sliceE ((hS _ hv).trans h) he hb
  |sliceD h hm=>exact .sliceD ((hS _ hv).trans h) hm
  |sliceR h he hl=>exact .sliceR ((hS _ hv).trans h) he hl
  |mapNil=>exact .mapNil
  |map h=>exact .map ((hS _ hv).trans h)
  |func f ha hb ra rb=>
   have hv:(Array.isEmpty _&&Array.isEmpty _)=true:=hv
   simp only[Bool.and_eq_true,Array.isEmpty_iff] at hv
   obtain⟨rfl,rfl⟩:=hv
   exact .func f ha hb (fun j x y hx=>by simp at hx) (fun j x y hx=>by simp at hx)
  |yield h=>cases hv
  |nilFunc=>exact .nilFunc
  |nilIface=>exact .nilIface
  |iface t h=>cases hv
  |agg ha ra=>cases hv
  |tuple ha ra=>cases hv
 |succ n ih=>
  intro v v' h hv
  cases h with
  |bool b=>exact .bool b
  |int k n=>exact .int k n
  |str s=>exact .str s
  |ptrNil=>exact .ptrNil
  |ptr h=>exact .ptr ((hS _ hv).trans h)
  |sliceNil=>exact .sliceNil
  |slice h hc hl=>exact .slice ((hS _ hv).trans h) hc hl
  |sliceO h he hl hs hb=>exact .sliceO ((hS _ hv).trans h) he hl hs hb
  |sliceE h he hb=>exact .sliceE ((hS _ hv).trans h) he hb
  |sliceD h hm=>exact .sliceD ((hS _ hv).trans h) hm
  |sliceR h he hl=>exact .sliceR ((hS _ hv).trans h) he hl
  |mapNil=>exact .mapNil
  |map h=>exact .map ((hS _ hv).trans h)
  |func f ha hb ra rb=>
   have hv:(Array.isEmpty _&&Array.isEmpty _)=true:=hv
   simp only[Bool.and_eq_true,Array.isEmpty_iff] at hv
   obtain⟨rfl,rfl⟩:=hv
   exact .func f ha hb (fun j x y hx=>by simp at hx) (fun j x y hx=>by simp at hx)
  |yield h=>cases hv
  |nilFunc=>exact .nilFunc
  |nilIface=>exact .nilIface
  |iface t h=>exact .iface t (ih h hv)
  |agg ha ra=>
   exact .agg ha (fun j x y hx hy=>ih (ra j x y hx hy) (List.all_eq_true.1 (show(Array.toList _).all (refF S n)=true from hv) x (Array.mem_toList_iff.2 (Array.mem_of_getElem? hx))))
  |tuple ha ra=>
   exact .tuple ha (fun j x y hx hy=>ih (ra j x y hx hy) (List.all_eq_true.1 (show(Array.toList _).all (refF S n)=true from hv) x (Array.mem_toList_iff.2 (Array.mem_of_getElem? hx))))
def refO (S:Nat→Bool):IObj→Bool
 |.cells cs _=>cs.all (refF S 4)
 |.map es _=>es.all fun e=>refF S 4 e.1&&refF S 4 e.2.1
 |.glob _ _=>true
 |.dead=>true
 |.loop _ _ _ _=>false
theorem OR.agree {ρ σ:Rho} {S:Nat→Bool} (hS: ∀i,S i=true→σ i=ρ i) {w:World} {R:RB} {o:IObj} (h:OR P ρ w R o) (ho:refO S o=true):OR P σ w R o:=by
 cases o with
 |cells cs esz=>
  obtain⟨h1,h2,c,t,fr,h3,h7,h4,h5,h6⟩:=h
  exact⟨h1,h2,c,t,fr,h3,h7,h4,h5,fun j v hj=>let⟨v',a,b⟩:=h6 j v hj;⟨v',a,b.imp id (fun b=>b.agree hS 4 (List.all_eq_true.1 ho v (List.mem_of_getElem? hj)))⟩⟩
 |map es clock=>
  obtain⟨es',h1,h2,h3⟩:=h
  refine⟨es',h1,h2,fun j e hj=> ?_⟩
  obtain⟨e',a,b,c,d⟩:=h3 j e hj
  have:=List.all_eq_true.1 ho e (List.mem_of_getElem? hj)
  rw[Bool.and_eq_true] at this
  exact⟨e',a,b.agree hS 4 this.1,c.agree hS 4 this.2,d⟩
 |glob b x=>exact h
 |loop _ _ _ _=>cases ho
 |dead=>trivial
theorem VRL.agree {ρ σ:Rho} {S:Nat→Bool} (hS: ∀i,S i=true→σ i=ρ i) {xs ys:List Value} (h:VRL ρ xs ys) (hx:xs.all (refF S 4)=true):VRL σ xs ys:=
 ⟨h.1,fun j x y h1 h2=>(h.2 j x y h1 h2).agree hS 4 (List.all_eq_true.1 hx x (List.mem_of_getElem? h1))⟩
structure zcU where
 args:List Value
 next:Nat
 pre:List (Nat×IObj)
 val:Value
 next':Nat
 post:List (Nat×IObj)
def zjj (l:List (Nat×IObj)) (t:PT IObj):PT IObj:=List.rec (motive:=fun _=>PT IObj) t (fun x _ ih=>ih.set (bits x.1) x.2) l
def matchH (h:H) (l:List (Nat×IObj)):Bool:=l.all fun x=>match h.get x.1 with
 |some o=>eqObj o x.2
 |none=>false
def zbt (l:List (Nat×IObj)) (i:Nat):Bool:=l.any fun x=>Nat.beq x.1 i
def zcU.fits (p:zcU) (args:List Value) (h:H):Bool:=Nat.beq h.next p.next&&(allEq (eqX 4) args p.args&&matchH h p.pre)
def zcU.out (p:zcU) (h:H):Value×H:=(p.val,⟨p.next',zjj p.post h.mem⟩)
def zeL (l:List zcU) (args:List Value) (h:H):Option (Value×H):=
 List.rec (motive:=fun _=>Option (Value×H)) none (fun p _ ih=>match p.fits args h with|true=>some (p.out h)|false=>ih) l
def zcU.start (p:zcU):H:=⟨p.next,zjj p.pre .nil⟩
def zcU.ends (p:zcU):Option Out→Bool
 |some (.val v h)=>eqX 4 v p.val&&(Nat.beq h.next p.next'&&matchH h p.post)
 |_=>false
def zcU.runs (F:FuncId→Option ze) (n:Nat) (g:FuncId) (p:zcU):Bool:=p.ends (E F n (.call (.func (.func g) #[] #[]) p.args p.start))
def zcU.good (p:zcU):Bool:=
 Nat.ble p.next p.next'&&(p.pre.all (fun x=>Nat.blt x.1 p.next&&zbt p.post x.1)&&(p.post.all (fun x=>zbt p.pre x.1||(Nat.ble p.next x.1&&Nat.blt x.1 p.next'))&&
 (p.args.all (refF (zbt p.pre) 4)&&(p.pre.all (fun x=>liveO x.2&&refO (zbt p.pre) x.2)&&(refF (zbt p.post) 4 p.val&&p.post.all (fun x=>refO (zbt p.post) x.2))))))
theorem hasId_iff {l:List (Nat×IObj)} {i:Nat}:zbt l i=true↔ ∃o,(i,o)∈l:=by
 unfold zbt
 rw[List.any_eq_true]
 constructor
 ·rintro⟨⟨j,o⟩,h1,h2⟩;exact⟨o,by rw[←Nat.eq_of_beq_eq_true h2];exact h1⟩
 ·rintro⟨o,h⟩;exact⟨(i,o),h,Nat.beq_refl i⟩
theorem zkO {l:List (Nat×IObj)} {t:PT IObj} {i:Nat} (h:zbt l i=false):(zjj l t).get (bits i)=t.get (bits i):=by
 induction l with
 |nil=>rfl
 |cons x l ih=>
  have h':(Nat.beq x.1 i||zbt l i)=false:=h
  rw[Bool.or_eq_false_iff] at h'
  show((zjj l t).set (bits x.1) x.2).get (bits i)=_
  rw[PT.get_set_bits,if_neg (by rintro rfl;rw[Nat.beq_refl] at h';cases h'.1),ih h'.2]
theorem setAll_in {l:List (Nat×IObj)} {t:PT IObj} {i:Nat} (h:zbt l i=true): ∃o,(i,o)∈l∧(zjj l t).get (bits i)=some o:=by
 induction l with
 |nil=>cases h
 |cons x l ih=>
  have e:(zjj (x::l) t).get (bits i)=if x.1=i then some x.2 else(zjj l t).get (bits i):=PT.get_set_bits _ _ _ _
  rw[e]
  by_cases hi:x.1=i
  ·rw[if_pos hi];exact⟨x.2,by subst hi;simp,rfl⟩
  ·rw[if_neg hi]
   have h':(Nat.beq x.1 i||zbt l i)=true:=h
   rw[Bool.or_eq_true] at h'
   obtain⟨o,h1,h2⟩:=ih (h'.resolve_left fun e=>hi (Nat.eq_of_beq_eq_true e))
   exact⟨o,by simp[h1],h2⟩
theorem zk1 {h:H} {l:List (Nat×IObj)} (hm:matchH h l=true) {i:Nat} {o:IObj} (hi:(i,o)∈l):h.get i=some o:=by
 have:=List.all_eq_true.1 hm _ hi
 dsimp only at this
 split at this
 ·rename_i o' ho;have e:=eqObj_eq this;subst e;exact ho
 ·cases this
theorem piece_calls {F:FuncId→Option ze} (hmix:P.follows .mixedOrders=true) (hF: ∀g cf,F g=some cf→FnOk P g cf) {n:Nat} {g:FuncId} {p:zcU} (hg:p.good=true) (hrun:p.runs F n g=true)
 {args:List Value} {h:H} (hfit:p.fits args h=true) {ρ:Rho} {args':Array Value} {w:World} (ra:VRL ρ args args'.toList) (hr:HR P ρ h w):
 Calls P g args' w (zgK P ρ w (.val (p.out h).1 (p.out h).2)):=by
 simp only[zcU.good,Bool.and_eq_true] at hg
 obtain⟨g1,g2,g3,g4,g5,g6,g7⟩:=hg
 simp only[zcU.fits,Bool.and_eq_true] at hfit
 obtain⟨f1,f2,f3⟩:=hfit
 have f2:=zf1 (zlb 4) f2
 subst f2
 have f1:=Nat.eq_of_beq_eq_true f1
 have g1:=Nat.le_of_ble_eq_true g1
 have preLt: ∀i,zbt p.pre i=true→i<p.next∧zbt p.post i=true:=fun i hi=>by
  obtain⟨o,ho⟩:=hasId_iff.1 hi
  have:=List.all_eq_true.1 g2 _ ho
  rw[Bool.and_eq_true] at this
  exact⟨Nat.le_of_ble_eq_true this.1,this.2⟩
 have postIn: ∀i,zbt p.post i=true→zbt p.pre i=true∨(p.next≤i∧i<p.next'):=fun i hi=>by
  obtain⟨o,ho⟩:=hasId_iff.1 hi
  have:=List.all_eq_true.1 g3 _ ho
  rw[Bool.or_eq_true,Bool.and_eq_true] at this
  exact this.imp id fun h=>⟨Nat.le_of_ble_eq_true h.1,Nat.le_of_ble_eq_true h.2⟩
 have preGet: ∀i,zbt p.pre i=true→ ∃o,h.get i=some o∧o≠ .dead∧p.start.get i=some o∧refO (zbt p.pre) o=true:=fun i hi=>by
  obtain⟨o,h1,h2⟩:=setAll_in (t:=.nil) hi
  have q1:=zk1 f3 h1
  have q4:=List.all_eq_true.1 g5 _ h1
  rw[Bool.and_eq_true] at q4
  exact⟨o,q1,by rintro rfl;exact Bool.false_ne_true q4.1,h2,q4.2⟩
 have preNo: ∀i,zbt p.pre i=false→p.start.get i=none:=fun i hi=>(zkO hi).trans (PT.get_nil _)
 obtain⟨ρ',hρ'⟩: ∃ρ':Rho,∀i,ρ' i=if zbt p.pre i=true then ρ i else none:=⟨_,fun _=>rfl⟩
 have agr: ∀i,zbt p.pre i=true→ρ' i=ρ i:=fun i hi=>by rw[hρ',if_pos hi]
 have sub: ∀i R,ρ' i=some R→zbt p.pre i=true∧ρ i=some R:=fun i R hi=>by
  rw[hρ'] at hi
  split at hi
  ·rename_i hc;exact⟨hc,hi⟩
  ·cases hi
 have hr':HR P ρ' p.start w:={
  obj:=fun i R o hi ho=>by
   obtain⟨hc,hi⟩:=sub i R hi
   obtain⟨o',q1,q2,q3,q4⟩:=preGet i hc
   have e:o'=o:=Option.some.inj (q3.symm.trans ho)
   subst e
   exact(hr.obj i R o' hi q1).agree agr q4
  nxt:=fun i hi=>by
   have hi:p.next≤i:=hi
   have hc:zbt p.pre i=false:=by
    rw[Bool.eq_false_iff];intro hc;have:=(preLt i hc).1;omega
   exact⟨by rw[hρ',if_neg (by rw[hc];simp)],preNo i hc⟩
  sep:=fun i j R S hi hj _ _ e=>by
   obtain⟨hc,hi⟩:=sub i R hi
   obtain⟨hd,hj⟩:=sub j S hj
   obtain⟨o,q1,q2,-,-⟩:=preGet i hc
   obtain⟨o',r1,r2,-,-⟩:=preGet j hd
   exact hr.sep i j R S hi hj ⟨o,q1,q2⟩ ⟨o',r1,r2⟩ e
  blk:=fun i R hi=>hr.blk i R (sub i R hi).2
  glb:=fun i b x hi=>by
   cases hc:zbt p.pre i with
   |false=>rw[preNo i hc] at hi;cases hi
   |true=>
    obtain⟨o',q1,-,q3,-⟩:=preGet i hc
    have e:o'=.glob b x:=Option.some.inj (q3.symm.trans hi)
    subst e
    obtain⟨R,hR⟩:=hr.glb i b x q1
    exact⟨R,(agr i hc).trans hR⟩}
 have ra':VRL ρ' p.args args'.toList:=ra.agree agr g4
 unfold zcU.runs at hrun
 generalize he:E F n (.call (.func (.func g) #[] #[]) p.args p.start)=out at hrun
 unfold zcU.ends at hrun
 split at hrun
 ·rename_i v h2
  simp only[Bool.and_eq_true] at hrun
  obtain⟨e1,e2,e3⟩:=hrun
  obtain rfl:=zlb _ _ _ e1
  have e2:=Nat.eq_of_beq_eq_true e2
  refine(zh0 hmix hF he ra' hr').mono ?_
  rintro e w' ⟨v',σ2,rfl,hv,hr2,hx⟩
  obtain⟨σ,hσ⟩: ∃σ:Rho,∀i,σ i=if zbt p.post i=true then σ2 i else ρ i:=⟨_,fun _=>rfl⟩
  have agr2: ∀i,zbt p.post i=true→σ i=σ2 i:=fun i hi=>by rw[hσ,if_pos hi]
  have oth: ∀i,zbt p.post i=false→σ i=ρ i:=fun i hi=>by rw[hσ,if_neg (by rw[hi];simp)]
  have le:zhp ρ σ:=fun i R hi=>by
   cases hc:zbt p.post i with
   |false=>rw[oth i hc];exact hi
   |true=>
    rw[agr2 i hc]
    rcases postIn i hc with hp| ⟨hp,-⟩
    ·exact hx.le i R ((agr i hp).trans hi)
    ·have:=(hr.nxt i (by omega)).1;rw[hi] at this;cases this
  have postGet: ∀i,zbt p.post i=true→ ∃o,h2.get i=some o∧(p.out h).2.get i=some o∧refO (zbt p.post) o=true:=fun i hi=>by
   obtain⟨o,h1,h3⟩:=setAll_in (t:=h.mem) hi
   have q1:=zk1 e3 h1
   exact⟨o,q1,h3,List.all_eq_true.1 g7 _ h1⟩
  have postNo: ∀i,zbt p.post i=false→(p.out h).2.get i=h.get i:=fun i hi=>zkO hi
  have apart: ∀i R j S,zbt p.post i=true→σ2 i=some R→zbt p.post j=false→ρ j=some S→zet h j→R.blk≠S.blk:=fun i R j S hi hiR hj hjS aj e=>by
   rcases hx.fresh i R hiR with⟨k,T,hk,hT⟩|hb
   ·obtain⟨hc,hk⟩:=sub k T hk
    obtain⟨o,q1,q2,-,-⟩:=preGet k hc
    have:=hr.sep k j T S hk hjS ⟨o,q1,q2⟩ aj (hT.trans e)
    subst this
    rw[(preLt k hc).2] at hj;cases hj
   ·have:=hr.blk j S hjS;omega
  have hrN:HR P σ (p.out h).2 w':={
   obj:=fun i R o hi ho=>by
    cases hc:zbt p.post i with
    |true=>
     rw[agr2 i hc] at hi
     obtain⟨o',q1,q3,q4⟩:=postGet i hc
     have e:o'=o:=Option.some.inj (q3.symm.trans ho)
     subst e
     exact(hr2.obj i R o' hi q1).agree agr2 q4
    |false=>
     rw[oth i hc] at hi
     rw[postNo i hc] at ho
     by_cases hd:o=.dead
     ·subst hd;trivial
     ·refine(hr.obj i R o hi ho).mono le (hx.frame _ (hr.blk i R hi) fun j S hj e=> ?_)
      obtain⟨hp,hj⟩:=sub j S hj
      obtain⟨o',q1,q2,-,-⟩:=preGet j hp
      have:=hr.sep j i S R hj hi ⟨o',q1,q2⟩ ⟨o,ho,hd⟩ e
      subst this
      rw[(preLt j hp).2] at hc;cases hc
   nxt:=fun i hi=>by
    have hi:p.next'≤i:=hi
    have hc:zbt p.post i=false:=by
     rw[Bool.eq_false_iff];intro hc
     rcases postIn i hc with hp|hp
     ·have:=(preLt i hp).1;omega
     ·omega
    rw[oth i hc,postNo i hc]
    exact hr.nxt i (by omega)
   sep:=fun i j R S hi hj ai aj e=>by
    have al: ∀k,zbt p.post k=true→zet (p.out h).2 k→zet h2 k:=fun k hk ⟨o,h1,h3⟩=>by
     obtain⟨o',q1,q2,-⟩:=postGet k hk
     have e:o'=o:=Option.some.inj (q2.symm.trans h1)
     subst e;exact⟨o',q1,h3⟩
    have al': ∀k,zbt p.post k=false→zet (p.out h).2 k→zet h k:=fun k hk ⟨o,h1,h3⟩=>⟨o,(postNo k hk).symm.trans h1,h3⟩
    cases hc:zbt p.post i with
    |true=>
     rw[agr2 i hc] at hi
     cases hd:zbt p.post j with
     |true=>rw[agr2 j hd] at hj;exact hr2.sep i j R S hi hj (al i hc ai) (al j hd aj) e
     |false=>rw[oth j hd] at hj;exact absurd e (apart i R j S hc hi hd hj (al' j hd aj))
    |false=>
     rw[oth i hc] at hi
     cases hd:zbt p.post j with
     |true=>rw[agr2 j hd] at hj;exact absurd e.symm (apart j S i R hd hj hc hi (al' i hc ai))
     |false=>rw[oth j hd] at hj;exact hr.sep i j R S hi hj (al' i hc ai) (al' j hd aj) e
   blk:=fun i R hi=>by
    cases hc:zbt p.post i with
    |true=>rw[agr2 i hc] at hi;exact hr2.blk i R hi
    |false=>rw[oth i hc] at hi;exact Nat.lt_of_lt_of_le (hr.blk i R hi) hx.size
   glb:=fun i b x hi=>by
    cases hc:zbt p.post i with
    |true=>
     obtain⟨o',q1,q3,-⟩:=postGet i hc
     have e:o'=.glob b x:=Option.some.inj (q3.symm.trans hi)
     subst e
     obtain⟨R,hR⟩:=hr2.glb i b x q1
     exact⟨R,(agr2 i hc).trans hR⟩
    |false=>
     rw[postNo i hc] at hi
     obtain⟨R,hR⟩:=hr.glb i b x hi
     exact⟨R,(oth i hc).trans hR⟩}
  refine⟨_,_,v',σ,rfl,rfl,hv.agree agr2 4 g6,hrN,le,hx.size,fun i R hi=> ?_,fun B hB hn=>hx.frame B hB fun i R hi=>hn i R (sub i R hi).2,hx.loops,hx.os,hx.out,hx.froz,hx.td⟩
  cases hc:zbt p.post i with
  |true=>
   rw[agr2 i hc] at hi
   rcases hx.fresh i R hi with⟨j,S,hj,e⟩|hb
   ·exact .inl ⟨j,S,(sub j S hj).2,e⟩
   ·exact .inr hb
  |false=>rw[oth i hc] at hi;exact .inl ⟨i,R,hi,rfl⟩
 ·cases hrun
theorem pieces_ok (hmix:P.follows .mixedOrders=true) {g:FuncId} {fn:Func} {cf0:ze} (hfn:P.funcs[g]? =some fn) (hcf:z8 P fn=some (ze6 cf0))
 {l:List zcU} (hl: ∀p∈l,p.good=true∧ ∃F n,(∀g cf,F g=some cf→FnOk P g cf)∧p.runs F n g=true):FnOk P g (zkt (zeL l) cf0):=by
 refine .inr (.inr (.inr ⟨_,fn,cf0,rfl,⟨fun args w=> ?_,fun args h v h' hp ρ args' w ra hr=> ?_⟩,hfn,hcf⟩))
 ·obtain⟨hname,c,hbody,-⟩:=zbP hcf
  have hne: ¬fn.name= "runtime.NumGoroutine" :=by simpa using hname
  simp[callFunc,hfn,hne,hbody]
 ·induction l with
  |nil=>cases hp
  |cons p l ih=>
   have hp:(match p.fits args h with|true=>some (p.out h)|false=>zeL l args h)=some (v,h'):=hp
   split at hp
   ·rename_i hfit
    obtain⟨q1,F,n,hF,q2⟩:=hl p (by simp)
    have e:p.out h=(v,h'):=Option.some.inj hp
    have:=piece_calls hmix hF q1 q2 hfit ra hr
    rw[e] at this;exact this
   ·exact ih (fun p hp=>hl p (by simp[hp])) hp
def lookE (l:List (Nat×ze)) (g:Nat):Option ze:=List.rec (motive:=fun _=>Option ze) none (fun p _ ih=>match Nat.beq p.1 g with|true=>some p.2|false=>ih) l
theorem zg5: ∀{t:List (Nat×ze)} {g:Nat} {cf:ze},lookE t g=some cf→ ∃p∈t,p.1=g∧p.2=cf
 | [],g,x,h=>by cases h
 |p::t,g,x,h=>by
  have h:(match Nat.beq p.1 g with|true=>some p.2|false=>lookE t g)=some x:=h
  split at h
  ·rename_i e;cases h;exact⟨p,by simp,Nat.eq_of_beq_eq_true e,rfl⟩
  ·obtain⟨q,hq,e⟩:=zg5 h;exact⟨q,by simp[hq],e⟩
def overF (l:List (Nat×ze)) (F:FuncId→Option ze):FuncId→Option ze:=fun g=>match lookE l g with
 |some cf=>some cf
 |none=>F g
theorem over_ok {l:List (Nat×ze)} {F:FuncId→Option ze} (hl: ∀p∈l,FnOk P p.1 p.2) (hF: ∀g cf,F g=some cf→FnOk P g cf): ∀g cf,overF l F g=some cf→FnOk P g cf:=by
 intro g cf h
 unfold overF at h
 split at h
 ·rename_i c hc;cases h;obtain⟨p,hp,rfl,rfl⟩:=zg5 hc;exact hl p hp
 ·exact hF g cf h
theorem look_ok {l:List (Nat×ze)} (hl: ∀p∈l,FnOk P p.1 p.2): ∀g cf,lookE l g=some cf→FnOk P g cf:=fun g cf h=>by
 obtain⟨p,hp,rfl,rfl⟩:=zg5 h;exact hl p hp
def endsTrue:Option Out→Bool
 |some (.val (.bool true) _)=>true
 |_=>false
theorem endsTrue_some {o:Option Out} (h:endsTrue o=true): ∃h',o=some (.val (.bool true) h'):=by
 unfold endsTrue at h
 split at h
 ·exact⟨_,rfl⟩
 ·cases h
end
end Go.Ideal
namespace Go.Ideal
open Go
variable {P:Program}
def AllC (P:Program) (l:List (Nat×ze)):Prop:=l.map (fun x=>(P.funcs[x.1]?).bind (z8 P))=l.map fun x=>some (ze6 x.2)
theorem AllC.mem {l:List (Nat×ze)} (h:AllC P l): ∀p∈l,∃fn,P.funcs[p.1]? =some fn∧z8 P fn=some (ze6 p.2):=by
 unfold AllC at h
 induction l with
 |nil=>intro p hp;cases hp
 |cons x l ih=>
  rw[List.map_cons,List.map_cons,List.cons.injEq] at h
  intro p hp
  rcases List.mem_cons.1 hp with rfl|hp
  ·cases e:P.funcs[p.1]? with
   |none=>rw[e] at h;cases h.1
   |some fn=>rw[e] at h;exact⟨fn,rfl,h.1⟩
  ·exact ih h.2 p hp
theorem AllC.at {l:List (Nat×ze)} (h:AllC P l) {g:Nat} {cf:ze} (hg:lookE l g=some cf): ∃fn,P.funcs[g]? =some fn∧z8 P fn=some (ze6 cf):=by
 obtain⟨p,hp,rfl,rfl⟩:=zg5 hg
 exact h.mem p hp
theorem AllC.ok {l:List (Nat×ze)} (h:AllC P l): ∀p∈l,FnOk P p.1 p.2:=fun p hp=>.inl (h.mem p hp)
theorem AllC.app {l m:List (Nat×ze)} (h:AllC P l) (h2:AllC P m):AllC P (l++m):=by
 unfold AllC at*
 rw[List.map_append,List.map_append,h,h2]
theorem AllC.pieces (hmix:P.follows .mixedOrders=true) {l:List (Nat×ze)} (h:AllC P l) {g:Nat} {cf:ze} (hg:lookE l g=some cf) {ps:List zcU}
 (hl: ∀p∈ps,p.good=true∧ ∃F n,(∀g cf,F g=some cf→FnOk P g cf)∧p.runs F n g=true):FnOk P g (zkt (zeL ps) cf):=by
 obtain⟨fn,h1,h2⟩:=h.at hg
 exact pieces_ok hmix h1 h2 hl
end Go.Ideal
