/- A part of the proof: the ideal machine, and what the functions of the program answer over it. -/
import Derived.Test.YtiebibpenhncdaaGreatDoorC
set_option linter.unusedSimpArgs false
set_option linter.unusedVariables false
set_option linter.unusedSectionVars false
namespace Go.Ideal
def OutC (w:Wd) (M:VM) (h:H) (k kp:DV→VM→Prop):Out→Prop
 |.val v h1=> ∃w1 M1 d,Hist w M h w1 M1 h1∧HRel w1 M1 h1∧VRel w1 d v∧k d M1
 |.pan v _ h1=> ∃w1 M1 d,Hist w M h w1 M1 h1∧HRel w1 M1 h1∧VRel w1 d v∧kp d M1
 |_=>False
def zg (F:FuncId→Option zb) (f:DV) (args:List DV) (M:VM) (k kp:DV→VM→Prop):Prop:=
 ∀w h fv vs,HRel w M h→VRel w f fv→LRel w args vs→ ∃n o,E F n (.call fv vs h)=some o∧OutC w M h k kp o
def HandD (F:FuncId→Option zb) (f:DV) (args:List DV) (p:Option DV) (M:VM) (k:VM→Prop):Prop:=
 ∀w h fv vs pv,HRel w M h→VRel w f fv→LRel w args vs→ORelO w p pv→ ∃n v h1 w1 M1,E F n (.hand fv vs pv h)=some (.val v h1)∧Hist w M h w1 M1 h1∧HRel w1 M1 h1∧k M1
structure St (n0:Nat) (w0:Wd) (M0:VM) (h0:H) (w:Wd) (M:VM) (h:H):Prop where
 n:M0.next=n0
 r0:HRel w0 M0 h0
 hi:Hist w0 M0 h0 w M h
 r:HRel w M h
theorem St.step {n0:Nat} {w0 w w1:Wd} {M0 M M1:VM} {h0 h h1:H} (s:St n0 w0 M0 h0 w M h) (a:Hist w M h w1 M1 h1) (b:HRel w1 M1 h1):St n0 w0 M0 h0 w1 M1 h1:=⟨s.n,s.r0,s.hi.trans s.r0 a,b⟩
def OutK (n0:Nat) (w0:Wd) (M0:VM) (h0:H) (K:KD):Out→Prop
 |.nrm t h=> ∃w M s,St n0 w0 M0 h0 w M h∧SRel w s t∧K.nrm s M
 |.exit i t h=> ∃w M s,St n0 w0 M0 h0 w M h∧SRel w s t∧K.ext i s M
 |.ret t h=> ∃w M s,St n0 w0 M0 h0 w M h∧SRel w s t∧K.ret s M
 |.pan v t h=> ∃w M s d,St n0 w0 M0 h0 w M h∧SRel w s t∧VRel w d v∧K.pan d s M
 |.val _ _=>False
def CodeD (F:FuncId→Option zb) (n0:Nat) (c:CC) (K:KD) (s:DS) (M:VM):Prop:=
 ∀w0 M0 h0 w h t,St n0 w0 M0 h0 w M h→SRel w s t→ ∃n o,E F n (.code c t h)=some o∧OutK n0 w0 M0 h0 K o
def zcn (F:FuncId→Option zb) (n0:Nat) (L:List (List Bool)) (b:CC) (K:KD) (s:DS) (M:VM):Prop:=CodeD F n0 (.loop L b) K s M
def ScopeD (F:FuncId→Option zb) (n0:Nat) (b:CC) (l1:Nat) (r1:CC) (l2:Nat) (r2:CC) (K:KD) (s:DS) (M:VM):Prop:=CodeD F n0 (.scope b l1 r1 l2 r2) K s M
structure MoOk (s:DS) (t:za) (w:Wd) (M:VM) (h:H) (x:Mo) (y:Nat×H):Prop where
 idx:x.idx=y.1
 ex: ∃wx,HRel wx x.M y.2∧Hist wx x.M y.2 w M h∧ ∀p,inP x.bad p=false→ ∀d,getS s p=some d→ ∃v,t.get p=some v∧VRel wx d v
def BsOk (s:DS) (t:za) (w:Wd) (M:VM) (h:H):List Mo→List (Nat×H)→Prop
 | [],[]=>True
 |x::r,y::q=>MoOk s t w M h x y∧BsOk s t w M h r q
 |_,_=>False
def SurvD (F:FuncId→Option zb) (n0:Nat) (l:List CI) (bs:List Mo) (s:DS) (M:VM):Prop:= ∀w0 M0 h0 w h t cs,St n0 w0 M0 h0 w M h→SRel w s t→BsOk s t w M h bs cs→ ∃n r,zx (E F n) l cs t h=some r
def rD (F:FuncId→Option zb) (n0:Nat):RnD:=⟨zg F,HandD F,zcn F n0,ScopeD F n0,SurvD F n0⟩
section
variable {F:FuncId→Option zb} {n0:Nat}
theorem OutK.mono {w0:Wd} {M0:VM} {h0:H} {K K':KD} (h1: ∀s M,K.nrm s M→K'.nrm s M) (h2: ∀i s M,K.ext i s M→K'.ext i s M) (h3: ∀s M,K.ret s M→K'.ret s M) (h4: ∀d s M,K.pan d s M→K'.pan d s M) {o:Out} (h:OutK n0 w0 M0 h0 K o):OutK n0 w0 M0 h0 K' o:=by
 cases o with
 |nrm=>obtain⟨w,M,s,a,b,c⟩:=h;exact⟨w,M,s,a,b,h1 _ _ c⟩
 |exit=>obtain⟨w,M,s,a,b,c⟩:=h;exact⟨w,M,s,a,b,h2 _ _ _ c⟩
 |ret=>obtain⟨w,M,s,a,b,c⟩:=h;exact⟨w,M,s,a,b,h3 _ _ c⟩
 |pan=>obtain⟨w,M,s,d,a,b,e,c⟩:=h;exact⟨w,M,s,d,a,b,e,h4 _ _ _ c⟩
 |val=>exact h
theorem zb2 {α:Type} {r:Option α} {k:α→Prop} (h:ofD r k): ∃a,r=some a∧k a:=by
 cases r with
 |none=>exact h.elim
 |some a=>exact⟨a,rfl,h⟩
theorem okD_of {r:RD} {k:DV→VM→Prop} (h:okD r k): ∃d M,r=some (d,M)∧k d M:=by
 cases r with
 |none=>exact h.elim
 |some a=>exact⟨a.1,a.2,rfl,h⟩
theorem zfj {w:Wd} {s:DS} {t:za} (hs:SRel w s t) {g:Option (List Bool×Bool)} {b:Bool} (h:wantD g s=some b):zbb g t=some b:=by
 cases g with
 |none=>exact h
 |some x=>
  obtain⟨p,q⟩:=x
  obtain⟨d,hd,h⟩:=aof (show(getS s p).bind _=some b from h)
  obtain⟨v,hv,hr⟩:=hs p d hd
  show(t.get p).bind (wantedV q)=_
  rw[hv,Option.bind_some]
  cases hr<;>first|exact h|cases h
theorem wDo_sound {op:COp} {s:DS} {M:VM} {kp k:DV→VM→Prop} (h:wDo (rD F n0) op s M kp k) {w:Wd} {hp:H} {t:za} (hr:HRel w M hp) (hs:SRel w s t): ∃n o,zcV (E F n) op t hp=some o∧OutC w M hp k kp o:=by
 have gen:okD (opD op s M) k→(∀ih:IH,zcV ih op t hp=(opV op t hp).map valO)→ ∃n o,zcV (E F n) op t hp=some o∧OutC w M hp k kp o:=fun hk he=>by
  obtain⟨d,M1,h1,h2⟩:=okD_of hk
  obtain⟨v,h',h3,w',h4,h5,h6⟩:=opW_sound hr hs h1
  exact⟨0,.val v h',by rw[he,h3];rfl,w',M1,d,h5,h6,h4,h2⟩
 cases op
 case call f args=>
  obtain⟨fd,hf,h⟩:=zb2 h
  obtain⟨l,hl,h⟩:=zb2 h
  obtain⟨fv,hfv,r1⟩:=zbH hs hf
  obtain⟨vs,hvs,r2⟩:=zf1 hs hl
  obtain⟨n,o,ho,hc⟩:=h w hp fv vs hr r1 r2
  refine⟨n,o,?_,hc⟩
  show((f.ev t).bind fun f=>(evL t args).bind fun l=>(E F n (.call f l hp)).bind zkP)=_
  rw[hfv,hvs,Option.bind_some,Option.bind_some,ho]
  cases o<;>first|rfl|exact hc.elim
 case invoke tbl x args=>
  obtain⟨v,hv,h⟩:=zb2 h
  cases v with
  |ifc ty d=>
   obtain⟨f,hf,h⟩:=zb2 h
   obtain⟨l,hl,h⟩:=zb2 h
   obtain⟨v',hv',r1⟩:=zbH hs hv
   obtain⟨vs,hvs,r2⟩:=zf1 hs hl
   cases r1 with
   | @ifc _ _ v2 r1=>
     obtain⟨n,o,ho,hc⟩:=h w hp _ _ hr (.fn f (a:=[]) (c:=[]) (a':=[]) (c':=[]) rfl rfl (fun k d v h=>by grind) (fun k d v h=>by grind)) (.cons r1 r2)
     refine⟨n,o,?_,hc⟩
     show((x.ev t).bind fun v=>(zgI tbl v).bind fun r=>(evL t args).bind fun l=>(E F n (.call (.func (.func r.1) #[] #[]) (r.2::l) hp)).bind zkP)=_
     rw[hv',Option.bind_some]
     show((zjW ty tbl).map (fun f=>(f,v2))).bind _=_
     rw[hf,Option.map_some,Option.bind_some,hvs,Option.bind_some,ho]
     cases o<;>first|rfl|exact hc.elim
  |_=>exact h.elim
 case panic x=>
  obtain⟨v,hv,h⟩:=zb2 h
  cases v with
  |ifc ty d=>
   obtain⟨v',hv',r1⟩:=zbH hs hv
   have r2:=r1
   cases r1 with
   |ifc _ r1=>
    refine⟨0,.pan _ .nil hp,?_,w,M,_,.refl _ _ _,hr,r2,h⟩
    show(x.ev t).bind (panV hp)=_
    rw[hv'];rfl
  |_=>exact h.elim
 all_goals exact gen h fun ih=>rfl
theorem zjk {o:CI} {s:DS} {M:VM} {kp k:DV→VM→Prop} (h:zhJ (rD F n0) o s M kp k) {w:Wd} {hp:H} {t:za} (hr:HRel w M hp) (hs:SRel w s t): ∃n out,zdI (E F n) o t hp=some out∧OutC w M hp k kp out:=by
 obtain⟨b,hb,h⟩:=zb2 h
 have hw:=zfj hs hb
 cases b with
 |true=>
  grind [wDo_sound,zdI]
 |false=>exact⟨0,.val zM hp,by grind [zdI],w,M,_,.refl _ _ _,hr,.tup_of .nil,h⟩
theorem zk4 {kp:DV→DS→VM→Prop} {kk:DS→VM→Prop} {w0:Wd} {M0:VM} {h0:H}: ∀{l:List CI} {s:DS} {M:VM},wOps (rD F n0) kp l s M kk→ ∀{w:Wd} {h:H} {t:za},St n0 w0 M0 h0 w M h→SRel w s t→ ∃n o,zb7 (E F n) l t h=some o∧OutK n0 w0 M0 h0 ⟨kk,fun _ _ _=>False,fun _ _=>False,kp⟩ o
 | [],s,M,hk,w,h,t,hst,hs=>⟨0,.nrm t h,rfl,w,M,s,hst,hs,hk⟩
 |o::l,s,M,hk,w,h,t,hst,hs=>by
  obtain⟨n,out,h1,h2⟩:=zjk hk hst.r hs
  cases out with
  |val v h1'=>
   obtain⟨w1,M1,d,a1,a2,a3,a4⟩:=h2
   obtain⟨m,o2,b1,b2⟩:=zk4 a4 (hst.step a1 a2) ((hs.mono a1.le).put a3 o.dst)
   refine⟨max n m,o2,?_,b2⟩
   rw[zch,zjs (E_le (Nat.le_max_left n m)) h1]
   exact zg8 (E_le (Nat.le_max_right n m)) b1
  |pan v _ h1'=>
   obtain⟨w1,M1,d,a1,a2,a3,a4⟩:=h2
   exact⟨n,.pan v t h1',by rw[zch,h1];rfl,w1,M1,s,d,hst.step a1 a2,hs.mono a1.le,a3,a4⟩
  |nrm=>exact h2.elim
  |exit=>exact h2.elim
  |ret=>exact h2.elim
theorem inP_cons (q:List Bool) (l:List (List Bool)) (p:List Bool):inP (q::l) p=false↔q≠p∧inP l p=false:=by
 grind [inP,beqP_eq,zeC]
theorem MoOk.put {s:DS} {t:za} {w w1:Wd} {M M1:VM} {h h1:H} {x:Mo} {y:Nat×H} (ho:MoOk s t w M h x y) (hi:Hist w M h w1 M1 h1) (q:Option (List Bool)) {d:DV} {v:Value}:
 MoOk (zV q d s) (zY q v t) w1 M1 h1 (zcc q x) y:=by
 obtain⟨hx,wx,a,b,c⟩:=ho
 cases q with
 |none=>exact⟨hx,wx,a,b.trans a hi,c⟩
 |some q=>
  refine⟨hx,wx,a,b.trans a hi,fun p hp e he=> ?_⟩
  obtain⟨h1,h2⟩:=(inP_cons q x.bad p).1 hp
  rw[show zV (some q) d s=(q,d)::s from rfl,zet,if_neg h1] at he
  obtain⟨u,hu,hr⟩:=c p h2 e he
  exact⟨u,by show(t.set q v).get p=_;grind [PT.get_set_ne],hr⟩
theorem MoOk.putGood {s:DS} {t:za} {w w1:Wd} {M M1:VM} {h h1:H} {x:Mo} {y:Nat×H} (ho:MoOk s t w M h x y) (hi:Hist w M h w1 M1 h1) (q:Option (List Bool)) {d:DV} {v:Value}
 (hv: ∀wx,HRel wx x.M y.2→Hist wx x.M y.2 w M h→(∀p,inP x.bad p=false→ ∀d,getS s p=some d→ ∃v,t.get p=some v∧VRel wx d v)→VRel wx d v):MoOk (zV q d s) (zY q v t) w1 M1 h1 x y:=by
 obtain⟨hx,wx,a,b,c⟩:=ho
 have hv:=hv wx a b c
 cases q with
 |none=>exact⟨hx,wx,a,b.trans a hi,c⟩
 |some q=>
  refine⟨hx,wx,a,b.trans a hi,fun p hp e he=> ?_⟩
  rw[show zV (some q) d s=(q,d)::s from rfl,zet] at he
  by_cases h1:q=p
  ·rw[if_pos h1] at he;cases he;subst h1
   exact⟨v,PT.get_set_same v q t,hv⟩
  ·rw[if_neg h1] at he
   obtain⟨u,hu,hr⟩:=c p hp e he
   exact⟨u,by show(t.set q v).get p=_;grind [PT.get_set_ne],hr⟩
theorem ze2 {bad:List (List Bool)}: ∀{ns:List (List Bool)},zc1 bad ns=true→ ∀p∈ns,inP bad p=false
 | [],_,p,hp=>by cases hp
 |q::ns,h,p,hp=>by
  have h:(match inP bad q with|true=>false|false=>zc1 bad ns)=true:=h
  cases hq:inP bad q with
  |true=>grind
  |false=>
   rw[hq] at h
   rcases List.mem_cons.1 hp with rfl|hp
   ·exact hq
   ·exact ze2 h p hp
theorem BsOk.map {s s1:DS} {t t1:za} {w w1:Wd} {M M1:VM} {h h1:H} {f:Mo→Mo} (hf: ∀x y,MoOk s t w M h x y→MoOk s1 t1 w1 M1 h1 (f x) y): ∀{bs:List Mo} {cs:List (Nat×H)},BsOk s t w M h bs cs→BsOk s1 t1 w1 M1 h1 (bs.map f) cs
 | [],[],_=>trivial
 |x::r,y::q,hb=>⟨hf x y hb.1,hb.2.map hf⟩
 | [],_::_,hb=>hb.elim
 |_::_,[],hb=>hb.elim
theorem BsOk.next {s:DS} {t:za} {w:Wd} {M:VM} {h:H}: ∀{bs:List Mo} {cs:List (Nat×H)},BsOk s t w M h bs cs→zhg bs=zkR cs
 | [],[],_=>rfl
 |x::r,y::q,hb=>by show x.idx+1=y.1+1;rw[hb.1.idx]
 | [],_::_,hb=>hb.elim
 |_::_,[],hb=>hb.elim
theorem zfO {M M':VM}: ∀{rs:List Nat},zfP rs M M'→ ∀j∈rs,M.get j=M'.get j∧(M.get j).isSome=true
 | [],_,j,hj=>by cases hj
 |i::r,h,j,hj=>by
  rcases List.mem_cons.1 hj with rfl|hj
  ·exact h.1
  ·exact zfO h.2 j hj
theorem zjH {M M':VM} {d:DV} (h: ∀j∈refD d,M.get j=M'.get j):zc7 M' d=zc7 M d:=by
 cases d<;>first|rfl| (show(VM.obj _ _).bind _=(VM.obj _ _).bind _;unfold VM.obj;rw[h _ (List.mem_singleton.2 rfl)])
theorem elemsD_congr {M M':VM} {n:Nat} {d:DV} (h: ∀j∈refD d,M.get j=M'.get j):zgo M' n d=zgo M n d:=by
 cases d<;>first|rfl| (show(VM.obj _ _).bind _=(VM.obj _ _).bind _;unfold VM.obj;rw[h _ (List.mem_singleton.2 rfl)])
theorem zgn {M M':VM} {d:DV} (h: ∀j∈refD d,M.get j=M'.get j):zbe M' d=zbe M d:=by
 cases d<;>first|rfl| (show(VM.obj _ _).bind _=(VM.obj _ _).bind _;unfold VM.obj;rw[h _ (List.mem_singleton.2 rfl)])
theorem sliceD_congr {M M':VM} {n:Nat} {lo hi:Option DV} {d:DV} (h: ∀j∈refD d,M.get j=M'.get j):sliceD n M' lo hi d=sliceD n M lo hi d:=by
 cases d<;>first|rfl| (show(VM.obj _ _).bind _=(VM.obj _ _).bind _;unfold VM.obj;rw[h _ (List.mem_singleton.2 rfl)])
theorem opD_congr {op:COp} (hp:isRd op=true) {s:DS} {M M':VM} {d:DV} {M2:VM} (ha:zfP (zcL s op) M M') (h:opD op s M=some (d,M2)):opD op s M'=some (d,M'):=by
 have hq:=fun j hj=>(zfO ha j hj).1
 clear ha
 cases op
 case load1 a=>
  obtain⟨x,hx,h⟩:=aof h
  obtain⟨r,hr,h⟩:=aof h
  obtain⟨y,hy,e⟩:=amf h;cases e
  show((evD s a).bind fun a=>(zc7 M' a).bind fun r=>(oneD r).map (·,M'))=_
  rw[hx,Option.bind_some,zjH (M:=M) (fun j hj=>hq j (by show j∈zcR s a;grind [zb0])),hr,Option.bind_some,hy];rfl
 case loadN n a=>
  obtain⟨x,hx,h⟩:=aof h
  obtain⟨r,hr,h⟩:=aof h
  obtain⟨y,hy,e⟩:=amf h;cases e
  show((evD s a).bind fun a=>(zc7 M' a).bind fun r=>(zbJ n r).map fun l=>(DV.agg l,M'))=_
  rw[hx,Option.bind_some,zjH (M:=M) (fun j hj=>hq j (by show j∈zcR s a;grind [zb0])),hr,Option.bind_some,hy];rfl
 case lookup kk z ok x i=>
  obtain⟨m,hm,h⟩:=aof h
  obtain⟨k,hk,h⟩:=aof h
  obtain⟨z',hz,h⟩:=aof h
  obtain⟨b,hb,h⟩:=aof h
  obtain⟨es,hes,h⟩:=aof h
  obtain⟨r,hr1,e⟩:=amf h;cases e
  show((evD s x).bind fun m=>(evD s i).bind fun k=>(dOf z).bind fun z=>(zbd kk k k).bind fun _=>(zbe M' m).bind fun es=>(zgO kk k es).map fun r=>(zdp z ok r,M'))=_
  rw[hm,hk,hz,Option.bind_some,Option.bind_some,Option.bind_some,hb,Option.bind_some,zgn (M:=M) (fun j hj=>hq j (by show j∈zcR s x;grind [zb0])),hes,Option.bind_some,hr1];rfl
 case slice size x lo hi=>
  obtain⟨y,hy,h⟩:=aof h
  obtain⟨l,hl,h⟩:=aof h
  obtain⟨u,hu,h⟩:=aof h
  obtain⟨z,hz,e⟩:=amf h;cases e
  show((evD s x).bind fun v=>(evDO s lo).bind fun lo=>(evDO s hi).bind fun hi=>(sliceD size M' lo hi v).map (·,M'))=_
  rw[hy,hl,hu,Option.bind_some,Option.bind_some,Option.bind_some,sliceD_congr (M:=M) (fun j hj=>hq j (by show j∈zcR s x;grind [zb0])),hz];rfl
 case slice3 size x lo hi mx=>
  obtain⟨y,hy,h⟩:=aof h
  obtain⟨l,hl,h⟩:=aof h
  obtain⟨u,hu,h⟩:=aof h
  obtain⟨v,hv,h⟩:=aof h
  obtain⟨z,hz,e⟩:=amf h;cases e
  have hc:slice3D size M' l u v y=slice3D size M l u v y:=by
   have hj: ∀j∈refD y,M.get j=M'.get j:=fun j hj=>hq j (by show j∈zcR s x;grind [zb0])
   cases y<;>first|rfl| (show(VM.obj _ _).bind _=(VM.obj _ _).bind _;unfold VM.obj;rw[hj _ (List.mem_singleton.2 rfl)])
  show((evD s x).bind fun w=>(evDO s lo).bind fun lo=>(evD s hi).bind fun hi=>(evD s mx).bind fun mx=>(slice3D size M' lo hi mx w).map (·,M'))=_
  grind
 case blt b as=>
  cases b with
  |lenMap=>
   obtain⟨l,hl,h⟩:=aof h
   match as,l,hl,h with
   |_,[],_,h=>cases h
   |_,_::_::_,_,h=>cases h
   | [],[_],hl,_=>cases hl
   |x::y::r,[d0],hl,_=>
    obtain⟨y,hy,h3⟩:=aof hl
    obtain⟨z,hz,h4⟩:=amf h3
    obtain⟨y2,hy2,h5⟩:=aof hz
    simp_all
   | [x],[d0],hl,h=>
     obtain⟨y,hy,h3⟩:=aof hl
     obtain⟨z,hz,h4⟩:=amf h3
     cases hz;cases h4
     obtain⟨es,hes,e⟩:=amf (show(zbe M d0).map _=_ from h);cases e
     show((evDL s [x]).bind fun l=>bltD M' .lenMap l)=_
     rw[hl,Option.bind_some]
     show(zbe M' d0).map _=_
     rw[zgn (M:=M) (fun j hj=>hq j (by show j∈[x].flatMap (zcR s);grind [zb0])),hes];rfl
  |_=>cases hp
 case b2s x=>
  obtain⟨y,hy,h⟩:=aof h
  obtain⟨z,hz,e⟩:=amf h;cases e
  show((evD s x).bind fun v=>(b2sD M' v).map (·,M'))=_
  have hb:b2sD M' y=b2sD M y:=by unfold b2sD;rw[elemsD_congr (M:=M) (fun j hj=>hq j (by show j∈zcR s x;grind [zb0]))]
  grind
 all_goals cases hp
theorem zdv {b o:Nat}:zhu ⟨b,o,none⟩ ⟨b,o,none⟩=true:=by unfold zhu;simp
theorem eqI_refl (a:Int):eqI a a=true:=by cases a<;>exact Nat.beq_refl _
theorem zgP {w:Wd} {d:DV} {v:Value} (hs:zdj d=true) (h:VRel w d v):zgm v v=true:=by
 cases h with
 |int k n=>show(decide (k=k)&&eqI n n)=true;rw[eqI_refl];simp
 |bool b=>cases b<;>rfl
 |str s=>exact zdT _
 |nilS=>rfl
 |nilP=>rfl
 |nilM=>rfl
 |nilF=>rfl
 |map=>exact Nat.beq_refl _
 |ptr=>exact zdv
 |ms=>show(zhu _ _&&Nat.beq _ _&&Nat.beq _ _)=true;grind [zdv,Nat.beq_refl]
 |lst=>show(zhu _ _&&Nat.beq _ _&&Nat.beq _ _)=true;grind [zdv,Nat.beq_refl]
 | @lst0 s cap base hc hsp=>
   cases base with
   |none=>simp[zgm]
   |some a=>
    obtain⟨b,o,sp⟩:=a
    have:=hsp _ rfl
    simp only at this;subst this
    show(zhu _ _&&Nat.beq _ _&&Nat.beq _ _)=true;grind [zdv,Nat.beq_refl]
 |pl=>exact zdv
 |_=>cases hs
theorem zfH {w:Wd}: ∀{l:List DV} {vs:List Value},l.all zdj=true→LRel w l vs→zib vs vs=true
 | [],vs,_,h=>by rw[h.inv_nil];rfl
 |d::l,vs,hs,h=>by
  obtain⟨v,r,rfl,hv,hr⟩:=h.head
  simp only[List.all_cons,Bool.and_eq_true] at hs
  show(zgm v v&&zib r r)=true
  rw[zgP hs.1 hv,zfH hs.2 hr];rfl
theorem eqVal1_refl {w:Wd} {d:DV} {v:Value} (hs:(match d with|.agg l=>l.all zdj|d=>zdj d)=true) (h:VRel w d v):zkh v v=true:=by
 cases d with
 |agg l=>obtain⟨vs,rfl,hl⟩:=h.inv_agg;exact zfH hs hl
 |_=>
  have e:zkh v v=zgm v v:=by cases h<;>first|rfl|cases hs
  rw[e];exact(fun hs=>zgP (w:=w) hs h) hs
theorem zkg {w:Wd}: ∀{l:List DV} {vs:List Value},(l.all fun d=>match d with|.agg l=>l.all zdj|d=>zdj d)=true→LRel w l vs→zlA vs vs=true
 | [],vs,_,h=>by rw[h.inv_nil];rfl
 |d::l,vs,hs,h=>by
  obtain⟨v,r,rfl,hv,hr⟩:=h.head
  simp only[List.all_cons,Bool.and_eq_true] at hs
  show(zkh v v&&zlA r r)=true
  rw[eqVal1_refl hs.1 hv,zkg hs.2 hr];rfl
theorem selfEq_refl {w:Wd} {d:DV} {v:Value} (hs:zjz d=true) (h:VRel w d v):eqVal v v=true:=by
 cases d with
 |agg l=>obtain⟨vs,rfl,hl⟩:=h.inv_agg;exact zfH hs hl
 |tup l=>obtain⟨vs,rfl,hl⟩:=h.inv_tup;exact zkg hs hl
 |_=>
  have e:eqVal v v=zgm v v:=by cases h<;>first|rfl|cases hs
  rw[e];exact(fun hs=>zgP (w:=w) hs h) hs
theorem det_eq {w:Wd} {d:DV} {v v':Value} (hd:detD d=true) (h:VRel w d v) (h':VRel w d v'):v=v':=by
 cases h<;>first| (cases hd;done)| (cases h';first|rfl|skip)
 all_goals grind
theorem read_at {op:COp} (hp:isRd op=true) {s:DS} {t:za} {w:Wd} {M M2:VM} {h:H} {x:Mo} {y:Nat×H} {ns:List (List Bool)} {d:DV} (hr:HRel w M h) (hsub: ∀p∈zf op,p∈ns) (hm:MoOk s t w M h x y) (ha:rdAt (zcL s op) ns M x∨rdAlt op ns s d x) (hd:opD op s M=some (d,M2)):
 ∃v,opV op t y.2=some (v,y.2)∧opV op t h=some (v,h)∧ ∀wx,HRel wx x.M y.2→Hist wx x.M y.2 w M h→(∀p,inP x.bad p=false→ ∀d,getS s p=some d→ ∃v,t.get p=some v∧VRel wx d v)→VRel wx d v:=by
 obtain⟨hx,wx,a,b,c⟩:=hm
 have key: ∀wx,HRel wx x.M y.2→Hist wx x.M y.2 w M h→(∀p,inP x.bad p=false→ ∀d,getS s p=some d→ ∃v,t.get p=some v∧VRel wx d v)→ ∃v,VRel wx d v∧opV op t y.2=some (v,y.2)∧opV op t h=some (v,h):=fun wx a b c=>by
  rcases ha with ha| ⟨ha,hdet,hdx⟩
  ·have hdx:=opD_congr hp ha.2 hd
   obtain⟨-,v,hv,hg⟩:=zeg hp a (fun p hp e he=>c p (ze2 ha.1 p (hsub p hp)) e he) hdx
   refine⟨v,hv,hg y.2 (fun _ _=>rfl),hg h fun bl hb=> ?_⟩
   rcases hb with⟨j,R,hj,hR,rfl⟩|hz
   ·obtain⟨e1,e2⟩:=zfO ha.2 j hj
    obtain⟨z,hz⟩:=Option.isSome_iff_exists.1 e2
    exact b.same j z R (by grind) hz hR
   ·obtain⟨z,hz⟩:=Option.isSome_iff_exists.1 hz
    rw[(hr.zd _ _ (b.le.Z _ _ hz)).2,(a.zd _ _ hz).2]
  ·have hn:ziU wx (zf op) s t:=fun p hp e he=>c p (ze2 ha p (hsub p hp)) e he
   obtain⟨-,v,hv,hg⟩:=zeg hp a hn hdx
   obtain⟨-,v',hv',hg'⟩:=zeg hp hr (fun p hp e he=>let⟨u,h1,h2⟩:=hn p hp e he;⟨u,h1,h2.mono b.le⟩) hd
   obtain rfl:=det_eq hdet (hv.mono b.le) hv'
   exact⟨v,hv,hg y.2 (fun _ _=>rfl),hg' h (fun _ _=>rfl)⟩
 grind
theorem reads_ok {op:COp} (hp:isRd op=true) {s:DS} {t:za} {w:Wd} {M M2:VM} {h:H} {ns:List (List Bool)} {d:DV} {lo:Nat} {v:Value} (q:Option (List Bool)) (hr:HRel w M h) (hsub: ∀p∈zf op,p∈ns) (hd:opD op s M=some (d,M2)) (hv:opV op t h=some (v,h)):
 ∀{bs:List Mo} {cs:List (Nat×H)},(bs≠[]→eqVal v v=true)→BsOk s t w M h bs cs→rdOk op (zcL s op) ns s d M lo bs→zeQ op t lo v cs=true∧BsOk (zV q d s) (zY q v t) w M h (ziO lo q bs) cs
 | [],[],_,_,_=>⟨rfl,trivial⟩
 | [],_::_,_,hb,_=>hb.elim
 |_::_,[],_,hb,_=>hb.elim
 |x::r,y::c,he,hb,hk=>by
  have he:=he (by simp)
  obtain⟨i1,i2⟩:=reads_ok hp q hr hsub hd hv (bs:=r) (cs:=c) (fun _=>he) hb.2 hk.2
  have hk1:=hk.1
  have hix:=hb.1.idx
  unfold zeQ
  show(if Nat.blt y.1 lo then _ else _)=true∧BsOk _ _ _ _ _ ((match Nat.blt x.idx lo with|true=>zcc q x|false=>x)::ziO lo q r) _
  rw[←hix]
  cases hl:Nat.blt x.idx lo with
  |true=>exact⟨by grind,hb.1.put (.refl _ _ _) q,i2⟩
  |false=>
   rw[hl] at hk1
   obtain⟨v',h1,h2,h3⟩:=read_at hp hr hsub hb.1 hk1 hd
   rw[hv] at h2;cases h2
   refine⟨?_,hb.1.putGood (.refl _ _ _) q h3,i2⟩
   grind
theorem freshD_spec {op:COp} {s:DS} {t:za} {w:Wd} {M M2:VM} {h:H} {x:Mo} {y:Nat×H} {d:DV} (hr:HRel w M h) (hs:SRel w s t) (hm:MoOk s t w M h x y) (hf:freshD op s x.M.next=true) (hd:opD op s M=some (d,M2)):ze1 op t y.2.next h.next=true∧ ∃b,d=.str b:=by
 cases op<;>simp only[freshD,Bool.false_eq_true] at hf
 case b2s a=>
  split at hf
  ·rename_i j lo len cap he
   obtain⟨u,hu,hd⟩:=aof (show(evD s a).bind (fun v=>(b2sD M v).map (·,M))=some (d,M2) from hd)
   obtain⟨z,hz,e⟩:=amf hd;cases e
   obtain⟨rows,-,hz⟩:=aof (show(zgo M 1 u).bind _=some d from hz)
   obtain⟨bl,-,rfl⟩:=amf hz
   refine⟨?_,_,rfl⟩
   obtain⟨v,hv,r1⟩:=zbH hs he
   cases r1 with
   | @ms _ _ _ _ R h1 _ _=>
     obtain⟨-,wx,a1,a2,-⟩:=hm
     have hge:y.2.next≤R.blk:=by
      rcases a2.own j R h1 with e|e
      ·have:=(a1.dom j R e).1;have:=Nat.le_of_ble_eq_true hf;omega
      grind
     have hlt:=(hr.dom j R h1).2
     show(match a.ev t with|some (.slice (some a) _ _)=>Nat.ble y.2.next a.block&&Nat.blt a.block h.next|_=>false)=true
     simp_all
  grind
theorem doOp_of' {ih:IH} {op:COp} {t:za} {h h1:H} {v:Value} (e1:zcV ih op t h=(opV op t h).map valO) (e2:doOp ih op t h=opV op t h) (hd:zcV ih op t h=some (.val v h1)):doOp ih op t h=some (v,h1):=by
 rw[e1] at hd
 obtain⟨x,hx,e⟩:=amf hd
 cases e
 grind
theorem doOp_of {ih:IH} {op:COp} {t:za} {h h1:H} {v:Value} (hd:zcV ih op t h=some (.val v h1)):doOp ih op t h=some (v,h1):=by
 cases op
 case call f args=>
  obtain⟨fv,hf,hd⟩:=aof hd
  obtain⟨l,hl,hd⟩:=aof hd
  obtain⟨o,ho,hd⟩:=aof hd
  show((f.ev t).bind fun f=>(evL t args).bind fun l=>(ih (.call f l h)).bind zhL)=_
  rw[hf,hl,Option.bind_some,Option.bind_some,ho]
  cases o<;>first| (cases hd;rfl)|cases hd
 case invoke tbl x args=>
  obtain⟨fv,hf,hd⟩:=aof hd
  obtain⟨r,hr,hd⟩:=aof hd
  obtain⟨l,hl,hd⟩:=aof hd
  obtain⟨o,ho,hd⟩:=aof hd
  show((x.ev t).bind fun v=>(zgI tbl v).bind fun r=>(evL t args).bind fun l=>(ih (.call (.func (.func r.1) #[] #[]) (r.2::l) h)).bind zhL)=_
  rw[hf,Option.bind_some,hr,Option.bind_some,hl,Option.bind_some,ho]
  cases o<;>first| (cases hd;rfl)|cases hd
 case panic x=>
  obtain⟨u,hu,hd⟩:=aof hd
  unfold panV at hd
  grind
 all_goals exact doOp_of' rfl rfl hd
theorem zeG {kk:DS→VM→Prop} {kp:DV→VM→Prop} {w0:Wd} {M0:VM} {h0:H}: ∀{l:List CI} {bs:List Mo} {s:DS} {M:VM},zc4 (rD F n0) l bs s M kk kp→ ∀{w:Wd} {h:H} {t:za} {cs:List (Nat×H)},St n0 w0 M0 h0 w M h→SRel w s t→BsOk s t w M h bs cs→
 (∃n t' h' w' M' s',zx (E F n) l cs t h=some (t',h')∧St n0 w0 M0 h0 w' M' h'∧SRel w' s' t'∧kk s' M')∨ ∃n v t' h' w' M' d,zge (E F n) l cs t h=some (.pan v t' h')∧zx (E F n) l cs t h=none∧St n0 w0 M0 h0 w' M' h'∧VRel w' d v∧kp d M'
 | [],bs,s,M,hk,w,h,t,cs,hst,hs,hb=>.inl ⟨0,t,h,w,M,s,rfl,hst,hs,hk⟩
 |o::l,bs,s,M,hk,w,h,t,cs,hst,hs,hb=>by
  have fin: ∀{n v h1 cs1 w1 M1 d bs1},zw (E F n) o cs t h=some (v,h1,cs1)→Hist w M h w1 M1 h1→HRel w1 M1 h1→VRel w1 d v→BsOk (zV o.dst d s) (zY o.dst v t) w1 M1 h1 bs1 cs1→zc4 (rD F n0) l bs1 (zV o.dst d s) M1 kk kp→
   (∃n t' h' w' M' s',zx (E F n) (o::l) cs t h=some (t',h')∧St n0 w0 M0 h0 w' M' h'∧SRel w' s' t'∧kk s' M')∨ ∃n v t' h' w' M' d,zge (E F n) (o::l) cs t h=some (.pan v t' h')∧zx (E F n) (o::l) cs t h=none∧St n0 w0 M0 h0 w' M' h'∧VRel w' d v∧kp d M':=fun{n v h1 cs1 w1 M1 d bs1} e1 e2 e3 e4 e5 e6=>by
   rcases zeG e6 (hst.step e2 e3) ((hs.mono e2.le).put e4 o.dst) e5 with⟨m,t',h',w',M',s',a1,a2⟩| ⟨m,v2,t',h',w',M',d2,a1,a2,a3⟩
   ·refine .inl ⟨max n m,t',h',w',M',s',?_,a2⟩
    rw[zba,zcC (E_le (Nat.le_max_left n m)) e1,Option.bind_some]
    exact zcD (E_le (Nat.le_max_right n m)) a1
   ·refine .inr ⟨max n m,v2,t',h',w',M',d2,?_,?_,a3⟩
    ·rw[zf2,zcC (E_le (Nat.le_max_left n m)) e1]
     exact(zi8 (E_le (Nat.le_max_right n m)) a1).1
    ·rw[zba,zcC (E_le (Nat.le_max_left n m)) e1,Option.bind_some]
     exact(zi8 (E_le (Nat.le_max_right n m)) a1).2
  unfold zc4 at hk
  cases hw:isW o.op with
  |true=>
   rw[hw] at hk
   obtain⟨b,hbb,hk⟩:=zb2 (show ofD (wantD o.guard s) _ from hk)
   have hwt:=zfj hs hbb
   cases b with
   |true=>
    obtain⟨n,out,h1,h2⟩:=wDo_sound hk hst.r hs
    cases out with
    |val v h1'=>
     obtain⟨w1,M1,d,a1,a2,a3,a4⟩:=h2
     refine fin (n:=n) (v:=v) (h1:=h1') (cs1:=(zkR cs,h1')::cs) ?_ a1 a2 a3 ?_ a4
     ·unfold zw
      rw[hwt,Option.bind_some]
      show zcP _ _ _ _ _=_
      unfold zcP
      rw[if_pos hw,doOp_of h1];rfl
     ·refine⟨⟨hb.next,w1,a2,.refl _ _ _,fun p _ e he=>((hs.mono a1.le).put a3 o.dst) p e he⟩,hb.map fun x y hx=>hx.put a1 o.dst⟩
    |pan v t1 h1'=>
     obtain⟨w1,M1,d,a1,a2,a3,a4,a5⟩:=h2
     match bs,cs,hb,a4 with
     | [],_,_,a4=>exact a4.elim
     |_::_,[],hb,_=>exact hb.elim
     |x::r,y::c,hb,a4=>
      obtain⟨m,z,hz⟩:=(show SurvD F n0 (l.filter fun p=>Nat.ble p.lo x.idx) (x::r) s M from a4) w0 M0 h0 w h t (y::c) hst hs hb
      rw[hb.1.idx] at hz
      have q1:=doOpP_le (E_le (Nat.le_max_left n m)) h1
      have q2:zw (E F (max n m)) o (y::c) t h=none:=by
       grind [zw,zcP,doOp_pan]
      refine .inr ⟨max n m,v,t1,h1',w1,M1,d,?_,by grind [zba],hst.step a1 a2,a3,a5⟩
      rw[zf2,q2]
      show panAt _ _ _ _ _ _=_
      unfold panAt
      dsimp only
      rw[hwt,Option.bind_some,hw,Bool.and_self]
      dsimp only
      rw[q1,Option.bind_some]
      show(zx (E F (max n m)) _ _ t h).map _=_
      rw[zcD (E_le (Nat.le_max_right n m)) hz];rfl
    |nrm=>exact h2.elim
    |exit=>exact h2.elim
    |ret=>exact h2.elim
   |false=>
    refine fin (n:=0) (v:=zM) (h1:=h) (cs1:=(zkR cs,h)::cs) ?_ (.refl _ _ _) hst.r (.tup_of .nil) ?_ hk
    ·grind [zw]
    ·exact⟨⟨hb.next,w,hst.r,.refl _ _ _,fun p _ e he=>(hs.put (.tup_of .nil) o.dst) p e he⟩,hb.map fun x y hx=>hx.put (.refl _ _ _) o.dst⟩
  |false=>
   rw[hw] at hk
   have gfalse:zbb o.guard t=some false→ ∀n,zw (E F n) o cs t h=some (zM,h,cs):=fun hwt n=>by
    grind [zw]
   have good: ∀{v:Value} {d:DV},(∀x y,MoOk s t w M h x y→zc1 x.bad (zf o.op)=true→ ∀wx,HRel wx x.M y.2→Hist wx x.M y.2 w M h→(∀p,inP x.bad p=false→ ∀d,getS s p=some d→ ∃v,t.get p=some v∧VRel wx d v)→VRel wx d v)→
    BsOk (zV o.dst d s) (zY o.dst v t) w M h (bs.map (zhe (zf o.op) o.dst)) cs:=fun{v d} hg=>hb.map fun x y hx=>by
    unfold zhe
    cases hf:zc1 x.bad (zf o.op) with
    |true=>exact hx.putGood (.refl _ _ _) o.dst (hg x y hx hf)
    |false=>exact hx.put (.refl _ _ _) o.dst
   cases hrd:isRd o.op with
   |true=>
    rw[hrd] at hk
    obtain⟨b,hbb,hk⟩:=zb2 hk
    have hwt:=zfj hs hbb
    cases b with
    |false=>exact fin (n:=0) (gfalse hwt 0) (.refl _ _ _) hst.r (.tup_of .nil) (good fun _ _ _ _ _ _ _ _=>.tup_of .nil) hk
    |true=>
     match bs,cs,hb,hk with
     | [],_,_,hk=>exact hk.elim
     |_::_,[],hb,_=>exact hb.elim
     |x::r,y::c,hb,hk=>
      have hk:(match freshD o.op s x.M.next with
       |true=>okD (opD o.op s M) fun d _=>zc4 (rD F n0) l (x::r) (zV o.dst d s) M kk kp
       |false=>okD (opD o.op s M) fun d _=>(rdAt (zcL s o.op) (zf o.op) M x∨rdAlt o.op (zf o.op) s d x)∧rdOk o.op (zcL s o.op) (zf o.op) s d M o.lo r∧zjy (x::r) d=true∧zc4 (rD F n0) l (x::ziO o.lo o.dst r) (zV o.dst d s) M kk kp):=hk
      cases hfr:freshD o.op s x.M.next with
      |true=>
       rw[hfr] at hk
       obtain⟨d,M2,hd,k4⟩:=okD_of hk
       obtain⟨-,v,hv,hg⟩:=zeg hrd hst.r (hs.N _) hd
       have h2:=hg h (fun _ _=>rfl)
       obtain⟨f1,g,f2⟩:=freshD_spec hst.r hs hb.1 hfr hd
       refine fin (n:=0) (v:=v) (h1:=h) (cs1:=y::c) ?_ (.refl _ _ _) hst.r hv (bs1:=x::r) ?_ k4
       ·grind [zw,zcP,ziC]
       ·have:=BsOk.map (f:=id) (bs:=x::r) (s1:=zV o.dst d s) (t1:=zY o.dst v t) (w1:=w) (M1:=M) (h1:=h) (fun x y hx=>hx.putGood (.refl _ _ _) o.dst (v:=v) (d:=d) fun wx _ _ _=>by
         subst f2;cases hv;exact .str _) hb
        simp_all
      |false=>
      rw[hfr] at hk
      obtain⟨d,M2,hd,k1,k2,k3,k4⟩:=okD_of (show okD (opD o.op s M) (fun d _=>(rdAt (zcL s o.op) (zf o.op) M x∨rdAlt o.op (zf o.op) s d x)∧rdOk o.op (zcL s o.op) (zf o.op) s d M o.lo r∧zjy (x::r) d=true∧zc4 (rD F n0) l (x::ziO o.lo o.dst r) (zV o.dst d s) M kk kp) from hk)
      have hsub: ∀p∈zf o.op,p∈zf o.op:=fun p hp=>hp
      obtain⟨v,h1,h2,h3⟩:=read_at hrd hst.r hsub hb.1 k1 hd
      obtain⟨-,v',hv',hg⟩:=zeg hrd hst.r (hs.N _) hd
      have:=hg h (fun _ _=>rfl)
      rw[h2] at this;cases this
      have he:r≠[]→eqVal v v=true:=fun hne=>by
       cases r with
       |nil=>grind
       |cons=>exact selfEq_refl k3 hv'
      obtain⟨r1,r2⟩:=reads_ok hrd o.dst hst.r hsub hd h2 he hb.2 k2
      refine fin (n:=0) (v:=v) (h1:=h) (cs1:=y::c) ?_ (.refl _ _ _) hst.r hv' (bs1:=x::ziO o.lo o.dst r) ⟨hb.1.putGood (.refl _ _ _) o.dst h3,r2⟩ k4
      grind [zw,zcP,ziC]
   |false=>
    rw[hrd] at hk
    have hE: ∀{n v h1},zdI (E F n) o t h=some (.val v h1)→zw (E F n) o cs t h=some (v,h1,cs):=fun{n v h1} h2=>by
     unfold zw
     obtain⟨b,hb1,h3⟩:=aof h2
     rw[hb1,Option.bind_some]
     cases b with
     |false=>grind
     |true=>
      have h4:=doOp_of h3
      show zcP _ _ _ _ _=_
      unfold zcP
      rw[if_neg (by grind),if_neg (by grind)]
      have:opV o.op t h=some (v,h1):=by
       cases ho:o.op<;>rw[ho] at h4 hw<;>first|exact h4|cases hw
      grind
    cases hfl:isFl o.op with
    |false=>
     rw[hfl] at hk
     obtain⟨n,out,h1,h2⟩:=zjk hk hst.r hs
     cases out with
     |val v h1'=>
      obtain⟨w1,M1,d,a1,a2,a3,a4⟩:=h2
      exact fin (hE h1) a1 a2 a3 (hb.map fun x y hx=>hx.put a1 o.dst) a4
     |pan=>obtain⟨_,_,_,_,_,_,h⟩:=h2;grind
     |nrm=>exact h2.elim
     |exit=>exact h2.elim
     |ret=>exact h2.elim
    |true=>
     rw[hfl] at hk
     obtain⟨b,hbb,hk⟩:=zb2 (show ofD (wantD o.guard s) _ from hk)
     have hwt:=zfj hs hbb
     cases b with
     |false=>exact fin (n:=0) (gfalse hwt 0) (.refl _ _ _) hst.r (.tup_of .nil) (good fun _ _ _ _ _ _ _ _=>.tup_of .nil) hk
     |true=>
      have hop:wDo (rD F n0) o.op s M (fun _ _=>False) (fun v M=>zc4 (rD F n0) l (bs.map (zhe (zf o.op) o.dst)) (zV o.dst v s) M kk kp)=okD (opD o.op s M) (fun v M=>zc4 (rD F n0) l (bs.map (zhe (zf o.op) o.dst)) (zV o.dst v s) M kk kp):=by
       cases ho:o.op<;>first|rfl| (rw[ho] at hw;cases hw)
      have hk:=hop▸(show wDo (rD F n0) o.op s M (fun _ _=>False) (fun v M=>zc4 (rD F n0) l (bs.map (zhe (zf o.op) o.dst)) (zV o.dst v s) M kk kp) from hk)
      obtain⟨d,M1,hd,hk2⟩:=okD_of hk
      obtain⟨e1,v,hv,hg⟩:=zjO hfl hst.r.ty (hs.N _) hd
      subst e1
      refine fin (n:=0) (hE ?_) (.refl _ _ _) hst.r hv (good fun x y hx hf wx a b c=> ?_) hk2
      ·unfold zdI
       rw[hwt,Option.bind_some]
       show zcV _ _ _ _=_
       have:zcV (E F 0) o.op t h=(opV o.op t h).map valO:=by
        cases ho:o.op<;>first|rfl| (rw[ho] at hw;cases hw)
       rw[this,hg h];rfl
      ·obtain⟨-,v',hv',hg'⟩:=zjO hfl (w:=wx) (fun j R op sz rs ho hR=>hst.r.ty j R op sz rs ho (b.le.rho _ _ hR)) (fun p hp e he=>c p (ze2 hf p hp) e he) hd
       have:=hg' h
       grind
end
end Go.Ideal
namespace Go.Ideal
variable {F:FuncId→Option zb} {n0:Nat}
theorem E_up {n m:Nat} (h:n≤m) {t:Task} {o:Out} (e:E F n t=some o):E F m t=some o:=E_le h t o e
theorem zh2 {w:Wd} {s:DS} {t:za} (h:SRel w s t) (L:List (List Bool)):SRel w (zbM L s) t:=fun p d e=>h p d (zlv e).1
theorem zjL {w0:Wd} {M0:VM} {h0:H} {K:KD} {s:DS} {M:VM} {pend:Option CC} (hk:pendD K s M pend) {w:Wd} {h:H} {t:za} (hst:St n0 w0 M0 h0 w M h) (hs:SRel w s t): ∃o,zkO t h pend=some o∧OutK n0 w0 M0 h0 K o:=by
 unfold pendD at hk
 split at hk
 ·exact⟨_,rfl,w,M,s,hst,hs,hk⟩
 ·exact⟨_,rfl,w,M,s,hst,hs,hk⟩
 ·exact⟨_,rfl,w,M,s,hst,hs,hk⟩
 grind
theorem zgZ: ∀(c:CC) {K:KD} {s:DS} {M:VM},wp (rD F n0) c K s M→CodeD F n0 c K s M:=by
 intro c
 induction c with
 |skip=>intro K s M hk w0 M0 h0 w h t hst hs;exact⟨1,.nrm t h,rfl,w,M,s,hst,hs,hk⟩
 |ops l=>
  intro K s M hk w0 M0 h0 w h t hst hs
  obtain⟨n,o,h1,h2⟩:=zk4 hk hst hs
  exact⟨n+1,o,h1,OutK.mono (K:=⟨K.nrm,fun _ _ _=>False,fun _ _=>False,K.pan⟩) (K':=K) (fun _ _ q=>q) (fun _ _ _ q=>False.elim q) (fun _ _ q=>False.elim q) (fun _ _ _ q=>q) h2⟩
 |draw l=>
  intro K s M hk w0 M0 h0 w h t hst hs
  rcases zeG hk hst hs (cs:=[(0,h)]) ⟨⟨rfl,w,hst.r,.refl _ _ _,fun p _ d e=>hs p d e⟩,trivial⟩ with⟨n,t',h',w',M',s',h1,h2,h3,h4⟩| ⟨n,v,t',h',w',M',d,h1,h2,h3,h4,h5⟩
  ·exact⟨n+1,.nrm t' h',by show(match zx (E F n) l [(0,h)] t h with|some x=>some (nrmOf x)|none=>_)=_;rw[h1];rfl,w',M',s',h2,h3,h4⟩
  ·exact⟨n+1,.pan v t' h',by show(match zx (E F n) l [(0,h)] t h with|some x=>some (nrmOf x)|none=>zge (E F n) l [(0,h)] t h)=_;grind,w',M',[],d,h3,.nil,h4,h5⟩
 |draw2 l x y=>
  intro K s M hk w0 M0 h0 w h t hst hs
  obtain⟨n,t',h',w',M',s',h1,h2,h3,h4⟩:=(zeG hk hst hs (cs:=[(0,h)]) ⟨⟨rfl,w,hst.r,.refl _ _ _,fun p _ d e=>hs p d e⟩,trivial⟩).resolve_right fun⟨_,_,_,_,_,_,_,_,_,_,_,h⟩=>h
  suffices hh: ∃h2' w2 M2,zdH x.op y.op t' h'=some h2'∧St n0 w0 M0 h0 w2 M2 h2'∧SRel w2 s' t'∧K.nrm s' M2 by
   obtain⟨h2',w2,M2,a,b,c,d⟩:=hh
   exact⟨n+1,.nrm t' h2',by show((zx (E F n) l [(0,h)] t h).bind fun r=>(zdH x.op y.op r.1 r.2).map fun h=>Out.nrm r.1 h)=_;grind,w2,M2,s',b,c,d⟩
  cases hx:x.op<;>rw[hx] at h4<;>first|exact h4.elim|skip
  cases hy:y.op<;>rw[hy] at h4<;>first|exact h4.elim|skip
  rename_i n1 a b n2 c d
  obtain⟨da,ea,h4⟩:=zb2 h4
  obtain⟨db,eb,h4⟩:=zb2 h4
  obtain⟨dc,ec,h4⟩:=zb2 h4
  obtain⟨dd,ed,h4⟩:=zb2 h4
  obtain⟨va,fa,ra⟩:=zbH h3 ea
  obtain⟨vb,fb,rb⟩:=zbH h3 eb
  obtain⟨vc,fc,rc⟩:=zbH h3 ec
  obtain⟨vd,fd,rd⟩:=zbH h3 ed
  cases da with
  |ptr i u1 v1=>
   cases dc with
   |ptr j u2 v2=>
    obtain⟨hij,h4⟩:=h4
    obtain⟨M2,hs1,h4⟩:=zb2 h4
    obtain⟨M3,hs2,h4⟩:=zb2 h4
    obtain⟨b1,o1,g1,rfl,q1,q2,q3,q4,j1,i1,u1,R1,e1,k1,k2⟩:=zhP h2.r hs1 rb ra
    obtain⟨b2,o2,g2,rfl,p1,p2,p3,p4,j2,i2,u2,R2,e2,l1,l2⟩:=zhP q4 hs2 rd rc
    cases e1;cases e2
    have live: ∀{M M':VM} {n x j i o},zfm n M x (.ptr j i o)=some M'→(M.get j).isSome=true:=fun{M M' n x j i o} hd=>by
     obtain⟨ob,ho,_⟩:=aof (show(M.obj j).bind _=some M' from hd)
     grind [zbX]
    have hne:b1≠b2:=fun e=>by
     have h5:(M2.get i).isSome=true:=by
      obtain⟨ob,ho,h6⟩:=aof (show(M'.obj i).bind _=some M2 from hs1)
      cases ob with
      |rows op sz rs=>
       obtain⟨r,hri,h6⟩:=aof (show(rs[u1]?).bind _=some M2 from h6)
       split at h6
       ·obtain⟨r',hw,rfl⟩:=amf h6
        grind [get_put]
       grind
      |_=>cases h6
     exact hij (q4.inj i j R1 R2 k1 l1 h5 (live hs2) (by grind))
    refine⟨g2,w',M3,?_,(h2.step q3 q4).step p3 p4,h3,h4⟩
    show(a.ev t').bind _=_
    rw[fa,Option.bind_some,fb,Option.bind_some,fc,Option.bind_some,fd,Option.bind_some]
    unfold store2
    show(if Nat.beq b1 b2 then _ else _)=_
    simp_all
   |_=>exact h4.elim
  |_=>exact h4.elim
 |seq a L b iha ihb=>
  intro K s M hk w0 M0 h0 w h t hst hs
  obtain⟨n,o,h1,h2⟩:=iha hk w0 M0 h0 w h t hst hs
  have step: ∀{m o'},(∀k,max n m≤k→(E F k (.code a t h)).bind (thenK (E F k) L b)=some o')→OutK n0 w0 M0 h0 K o'→ ∃n o,E F n (.code (.seq a L b) t h)=some o∧OutK n0 w0 M0 h0 K o:=fun{m o'} e q=>⟨max n m+1,o',e _ (Nat.le_refl _),q⟩
  cases o with
  |nrm t1 h1'=>
   obtain⟨w1,M1,s1,a1,a2,a3⟩:=h2
   obtain⟨m,o2,b1,b2⟩:=ihb a3 w0 M0 h0 w1 h1' (zb5 L t1) a1 (a2.keep L)
   exact step (m:=m) (fun k hk'=>by rw[E_up (by omega) h1];exact E_up (by omega) b1) b2
  |exit i t1 h1'=>exact step (m:=0) (fun k hk'=>by rw[E_up (by omega) h1];rfl) (show OutK n0 w0 M0 h0 K (.exit i t1 h1') from h2)
  |ret t1 h1'=>exact step (m:=0) (fun k hk'=>by rw[E_up (by omega) h1];rfl) (show OutK n0 w0 M0 h0 K (.ret t1 h1') from h2)
  |pan v t1 h1'=>exact step (m:=0) (fun k hk'=>by rw[E_up (by omega) h1];rfl) (show OutK n0 w0 M0 h0 K (.pan v t1 h1') from h2)
  |val=>exact h2.elim
 |cond c a b iha ihb=>
  intro K s M hk w0 M0 h0 w h t hst hs
  obtain⟨d,hd,hk⟩:=zb2 hk
  obtain⟨v,hv,hr⟩:=zbH hs hd
  unfold wIf at hk
  split at hk
  ·obtain⟨n,o,h1,h2⟩:=iha hk w0 M0 h0 w h t hst hs
   refine⟨n+1,o,?_,h2⟩
   show(c.ev t).bind _=_
   rw[hv,hr.inv_bool];exact h1
  ·obtain⟨n,o,h1,h2⟩:=ihb hk w0 M0 h0 w h t hst hs
   refine⟨n+1,o,?_,h2⟩
   show(c.ev t).bind _=_
   rw[hv,hr.inv_bool];exact h1
  grind
 |block i b ih=>
  intro K s M hk w0 M0 h0 w h t hst hs
  obtain⟨n,o,h1,h2⟩:=ih hk w0 M0 h0 w h t hst hs
  refine⟨n+1,zhA i o,by show(E F n _).map _=_;grind,?_⟩
  cases o with
  |exit j t1 h1'=>
   obtain⟨w1,M1,s1,a1,a2,a3⟩:=h2
   have a3:blkD i K j s1 M1:=a3
   unfold blkD at a3
   unfold zhA
   dsimp only
   split at a3
   ·rename_i e;rw[e];exact⟨w1,M1,s1,a1,a2,a3⟩
   ·rename_i e;rw[e];exact⟨w1,M1,s1,a1,a2,a3⟩
  |_=>exact h2
 |loop L b ih=>
  intro K s M hk w0 M0 h0 w h t hst hs
  exact hk w0 M0 h0 w h t hst (zh2 hs L)
 |rangeFunc rid L f ps as b _ _=>
  intro K s M hk w0 M0 h0 w h t hst hs
  obtain⟨d,hd,hk⟩:=zb2 hk
  obtain⟨v,hv,hr⟩:=zbH hs hd
  cases d with
  |fn g a c=>
   obtain⟨a',c',rfl,ha,hc⟩:=hr.inv_fn
   have hle:=Wd.add_le (w:=w) (j:=M.next) (R:=⟨h.next,0,false⟩) (hst.r.rho_none (Nat.le_refl _))
   obtain⟨p1,p2⟩:=hst.r.new (o:=.loop .ready none (zbM L s) ⟨rid,L,ps,as,b⟩) (e:=.loop .ready none (zb5 L t) ⟨rid,L,ps,as,b⟩) (sz:=0) (op:=false) (.loop ((hs.mono hle).keep L))
   have hy:VRel (w.add M.next ⟨h.next,0,false⟩) (.yld M.next) (.func (.yield h.next) #[] #[]):=.yld (R:=⟨h.next,0,false⟩) zfQ
   obtain⟨n,o,h1,h2⟩:=hk _ _ _ _ p1 (hr.mono hle) (.cons hy .nil)
   cases o with
   |val v h1'=>
    obtain⟨w1,M1,d1,a1,a2,a3,a4⟩:=h2
    obtain⟨ob,ho,a4⟩:=zb2 a4
    obtain⟨st,hg⟩:=zbX ho
    have hR:=a1.le.rho _ _ (zfQ (w:=w) (j:=M.next) (R:=⟨h.next,0,false⟩))
    obtain⟨hz,e,he,hro⟩:=a2.obj _ _ st _ hg hR
    have hst1:=(hst.step p2 p1).step a1 a2
    have hs1:=(hs.mono hle).mono a1.le
    have fin: ∀{o'},zfX h.next t h1' e=some o'→E F (n+1) (.code (.rangeFunc rid L f ps as b) t h)=some o':=fun{o'} hq=>by
     show((f.ev t).bind fun f=>(isFn f).bind fun f=>(E F n (.call f [.func (.yield h.next) #[] #[]] (h.new (.loop .ready none (zb5 L t) ⟨rid,L,ps,as,b⟩)))).bind fun o=>(zhL o).bind fun x=>(x.2.get h.next).bind (zfX h.next t x.2))=_
     rw[hv,Option.bind_some]
     show((E F n _).bind _)=_
     rw[h1,Option.bind_some]
     show((h1'.get h.next).bind _)=_
     grind
    cases hro with
    | @loop st1 pend sl sl' rc hsl=>
      have hput:=a2.put hg hR (o:=.loop .exhausted pend sl rc) (e:=.loop .exhausted pend sl' rc) (.loop hsl)
      cases st1 with
      |ready=>
       obtain⟨o',q1,q2⟩:=zjL a4 (hst1.step hput.2 hput.1) hs1
       exact⟨n+1,o',fin q1,q2⟩
      |done=>
       obtain⟨o',q1,q2⟩:=zjL a4 (hst1.step hput.2 hput.1) hs1
       exact⟨n+1,o',fin q1,q2⟩
      |_=>grind
    |rows=>grind
    |map=>grind
   |pan=>obtain⟨_,_,_,_,_,_,q⟩:=h2;grind
   |nrm=>exact h2.elim
   |exit=>exact h2.elim
   |ret=>exact h2.elim
  |_=>exact hk.elim
 |exit i=>intro K s M hk w0 M0 h0 w h t hst hs;exact⟨1,.exit i t h,rfl,w,M,s,hst,hs,hk⟩
 |ret=>intro K s M hk w0 M0 h0 w h t hst hs;exact⟨1,.ret t h,rfl,w,M,s,hst,hs,hk⟩
 |scope b l1 r1 l2 r2=>intro K s M hk;exact hk
theorem zcn.step {L:List (List Bool)} {b:CC} {K:KD} {s:DS} {M:VM} (h:wp (rD F n0) b ⟨fun s M=>zcn F n0 L b K (zbM L s) M,K.ext,K.ret,K.pan⟩ (zbM L s) M):zcn F n0 L b K s M:=by
 intro w0 M0 h0 w hp t hst hs
 obtain⟨n,o,h1,h2⟩:=zgZ b h w0 M0 h0 w hp (zb5 L t) hst (hs.keep L)
 cases o with
 |nrm t1 h1'=>
  obtain⟨w1,M1,s1,a1,a2,a3⟩:=h2
  obtain⟨m,o2,b1,b2⟩:=a3 w0 M0 h0 w1 h1' t1 a1 (zh2 a2 L)
  exact⟨max n m+1,o2,by show(E F _ (.code b _ hp)).bind _=_;rw[E_up (Nat.le_max_left n m) h1];exact E_up (Nat.le_max_right n m) b1,b2⟩
 |exit i t1 h1'=>exact⟨n+1,.exit i t1 h1',by show(E F _ (.code b _ hp)).bind _=_;rw[h1];rfl,(show OutK n0 w0 M0 h0 K (.exit i t1 h1') from h2)⟩
 |ret t1 h1'=>exact⟨n+1,.ret t1 h1',by show(E F _ (.code b _ hp)).bind _=_;rw[h1];rfl,(show OutK n0 w0 M0 h0 K (.ret t1 h1') from h2)⟩
 |pan v t1 h1'=>exact⟨n+1,.pan v t1 h1',by show(E F _ (.code b _ hp)).bind _=_;rw[h1];rfl,(show OutK n0 w0 M0 h0 K (.pan v t1 h1') from h2)⟩
 |val=>exact h2.elim
theorem resD_rel {w:Wd} {M:VM} {h:H} (hr:HRel w M h) {s:DS} {t:za} (hs:SRel w s t) {r:CR} {d:DV} (hd:resD s M r=some d): ∃v,resV t h r=some v∧VRel w d v:=by
 cases r with
 |tmp p=>exact hs p d hd
 |cell n p=>
  obtain⟨a,ha,hd⟩:=aof (show(getS s p).bind _=some d from hd)
  obtain⟨r,hr1,hd⟩:=aof hd
  obtain⟨v,hv,r1⟩:=hs p a ha
  obtain⟨b,off,cs,e,us,tl,rfl,hg,hb,hsp,hl⟩:=zjG hr hr1 r1
  cases n with
  |some n=>
   obtain⟨y,hy,rfl⟩:=amf (show(zbJ n r).map DV.agg=some d from hd)
   obtain⟨hn,rfl⟩:=zfT hy
   refine⟨_,?_,.agg_of (hl.take n)⟩
   show(t.get p).bind _=_
   rw[hv]
   show(h.readN b off n).map _=_
   rw[zeR hg hsp (by rw[←hl.len];exact hn) hl.clean];rfl
  |none=>
   have hd:oneD r=some d:=hd
   unfold oneD at hd
   split at hd
   ·cases hd
    obtain⟨u,us',rfl,hu,hus⟩:=hl.head
    refine⟨u,?_,hu⟩
    show(t.get p).bind _=_
    rw[hv]
    show(h.readN b off 1).bind oneOf=_
    rw[zeR hg hsp (by simp) hl.clean];rfl
   grind
theorem resDL_rel {w:Wd} {M:VM} {h:H} (hr:HRel w M h) {s:DS} {t:za} (hs:SRel w s t): ∀{rs:List CR} {ds:List DV},resDL s M rs=some ds→ ∃vs,allO (resV t h) rs=some vs∧LRel w ds vs
 | [],ds,h=>by cases h;exact⟨[],rfl,.nil⟩
 |r::rs,ds,hd=>by
  obtain⟨d,h1,hd⟩:=aof hd
  obtain⟨l,h2,rfl⟩:=amf hd
  obtain⟨v,h3,h4⟩:=resD_rel hr hs h1
  obtain⟨vs,h5,h6⟩:=resDL_rel hr hs h2
  exact⟨v::vs,by grind [allO],.cons h4 h6⟩
theorem tupleD_rel {w:Wd} {ds:List DV} {vs:List Value} (h:LRel w ds vs):VRel w (zjm ds) (zhM vs):=by
 match ds,vs,h with
 | [],vs,h=>rw[h.inv_nil];exact .tup_of .nil
 | [d],vs,h=>
   obtain⟨v,r,rfl,hv,hr⟩:=h.head
   rw[hr.inv_nil];exact hv
 |d::e::l,vs,h=>
  obtain⟨v,r,rfl,hv,hr⟩:=h.head
  obtain⟨v2,r2,rfl,hv2,hr2⟩:=hr.head
  exact .tup_of h
theorem zcB {w w0:Wd} {M M0:VM} {h h0:H} {s:DS} {t:za} {rs:List CR} {k kp:DV→VM→Prop} (hst:St n0 w0 M0 h0 w M h) (hs:SRel w s t) (hk:endD rs k s M): ∃o,ziN rs t h=some o∧OutC w0 M0 h0 k kp o∧(∃v,o=.val v h):=by
 obtain⟨ds,hd,hk⟩:=zb2 hk
 obtain⟨vs,h1,h2⟩:=resDL_rel hst.r hs hd
 exact⟨.val (zhM vs) h,by grind [ziN],⟨w,M,_,hst.hi,hst.r,tupleD_rel h2,hk⟩,_,rfl⟩
theorem zhB {w:Wd}: ∀{ds:List DV} {vs:List Value} {i:Nat} {s:DS} {t:za},LRel w ds vs→SRel w s t→SRel w (argsD ds i s) (zbB vs i t)
 | [],vs,i,s,t,h,hs=>by rw[h.inv_nil];exact hs
 |d::ds,vs,i,s,t,h,hs=>by
  obtain⟨v,r,rfl,hv,hr⟩:=h.head
  exact zhB (ds:=ds) (vs:=r) hr (hs.set hv (bits i))
theorem handE_sound {f:DV} {l:List DV} {p:Option DV} {rs:List CR} {k kp:DV→VM→Prop} {s:DS} {M:VM} (hk:HandD F f l p M fun M=>endD rs k s M) {w0 w:Wd} {M0:VM} {h0 h:H} {t:za} {fv:Value} {vs:List Value} {pv:Option Value} (hst:St n0 w0 M0 h0 w M h) (hs:SRel w s t) (hf:VRel w f fv) (hl:LRel w l vs) (hp:ORelO w p pv):
 ∃n o,(E F n (.hand fv vs pv h)).bind (resK1 rs t)=some o∧OutC w0 M0 h0 k kp o:=by
 obtain⟨n,v,h1,w1,M1,e,a1,a2,a3⟩:=hk w h fv vs pv hst.r hf hl hp
 obtain⟨o,h2,h3,-⟩:=zcB (kp:=kp) (hst.step a1 a2) (hs.mono a1.le) a3
 exact⟨n,o,by rw[e];exact h2,h3⟩
theorem zg.func {g:Nat} {a c args:List DV} {M:VM} {k kp:DV→VM→Prop} {cf:zb} (hF:F g=some cf) (hp:cf.prim=none) (h:wFunc (rD F) cf (a++args++c) M k kp):zg F (.fn g a c) args M k kp:=by
 intro w hp0 fv vs hr hf hv
 obtain⟨a',c',rfl,ha,hc⟩:=hf.inv_fn
 have hall:=(ha.append hv).append hc
 obtain⟨hlen,hw⟩:=h
 have hst:St M.next w M hp0 w M hp0:=⟨rfl,hr,.refl _ _ _,hr⟩
 obtain⟨n,o,h1,h2⟩:=zgZ cf.body hw w M hp0 w hp0 (zbB (a'++vs++c') 0 .nil) hst (zhB hall .nil)
 have fin: ∀{m o'},n≤m→bodyK (E F m) cf.results cf.dfr o=some o'→E F (m+1) (.call (.func (.func g) ⟨a'⟩ ⟨c'⟩) vs hp0)=some o':=fun{m o'} hm e=>by
  show((F g).bind fun cf=>zcr (E F m) cf (a'++vs++c') hp0)=_
  rw[hF,Option.bind_some]
  unfold zcr
  rw[hp]
  show zbz _ _ _ _=_
  unfold zbz
  rw[if_pos (by rw[Nat.ble_eq,←hall.len];grind),E_up hm h1,Option.bind_some,e]
 cases hd:cf.dfr with
 |none=>
  rw[hd] at h2
  cases o with
  |nrm t1 h1'=>
   obtain⟨w1,M1,s1,a1,a2,a3⟩:=h2
   obtain⟨o',e1,e2,-⟩:=zcB (kp:=kp) a1 a2 a3
   exact⟨n+1,o',fin (Nat.le_refl _) (by rw[hd];exact e1),e2⟩
  |ret t1 h1'=>
   obtain⟨w1,M1,s1,a1,a2,a3⟩:=h2
   obtain⟨o',e1,e2,-⟩:=zcB (kp:=kp) a1 a2 a3
   exact⟨n+1,o',fin (Nat.le_refl _) (by rw[hd];exact e1),e2⟩
  |pan v t1 h1'=>
   obtain⟨w1,M1,s1,d,a1,a2,a3,a4⟩:=h2
   exact⟨n+1,.pan v .nil h1',fin (Nat.le_refl _) (by rw[hd];rfl),w1,M1,d,a1.hi,a1.r,a3,a4⟩
  |exit=>obtain⟨w1,M1,s1,a1,a2,a3⟩:=h2;exact a3.elim
  |val=>exact h2.elim
 |some df=>
  rw[hd] at h2
  cases o with
  |nrm t1 h1'=>
   obtain⟨w1,M1,s1,a1,a2,a3⟩:=h2
   obtain⟨f,hf1,a3⟩:=zb2 a3
   obtain⟨fv,hf2,hf3⟩:=zbH a2 hf1
   cases f with
   |fn g2 fa fc=>
    obtain⟨l,hl1,a3⟩:=zb2 a3
    obtain⟨lv,hl2,hl3⟩:=zf1 a2 hl1
    have hst1:St M1.next w1 M1 h1' w1 M1 h1':=⟨rfl,a1.r,.refl _ _ _,a1.r⟩
    obtain⟨n2,o2,b1,b2⟩:=zgZ df.rest a3 w1 M1 h1' w1 h1' (zb5 df.L t1) hst1 (a2.keep df.L)
    have hisf:isFn fv=some fv:=by cases hf3;rfl
    have fin2: ∀{m o'},n≤m→n2≤m→doneK (E F m) fv lv cf.results o2=some o'→E F (m+1) (.call (.func (.func g) ⟨a'⟩ ⟨c'⟩) vs hp0)=some o':=fun{m o'} hm hm2 e=>fin hm (by
     rw[hd]
     show((df.f.ev t1).bind fun f=>(isFn f).bind fun f=>(evL t1 df.args).bind fun l=>(E F m (.code df.rest (zb5 df.L t1) h1')).bind (doneK (E F m) f l cf.results))=_
     grind [E_up])
    have done: ∀{t2 h2' p pv} {s2:DS} {M2:VM} {w2:Wd},St M1.next w1 M1 h1' w2 M2 h2'→SRel w2 s2 t2→ORelO w2 p pv→HandD F (.fn g2 fa fc) l p M2 (fun M=>endD cf.results k s2 M)→(∀m,doneK (E F m) fv lv cf.results o2=(E F m (.hand fv lv pv h2')).bind (resK1 cf.results t2))→
     ∃n o,E F n (.call (.func (.func g) ⟨a'⟩ ⟨c'⟩) vs hp0)=some o∧OutC w M hp0 k kp o:=fun{t2 h2' p pv s2 M2 w2} c1 c2 c4 c5 c6=>by
     have c1':St M.next w M hp0 w2 M2 h2':=a1.step c1.hi c1.r
     obtain⟨m,o3,d1,d2⟩:=handE_sound (kp:=kp) c5 c1' c2 (hf3.mono c1.hi.le) (hl3.mono c1.hi.le) c4
     obtain⟨x,hx,hy⟩:=aof d1
     refine⟨max (max n n2) m+1,o3,fin2 (by omega) (by omega) ?_,d2⟩
     rw[c6,E_up (by omega) hx,Option.bind_some,hy]
    cases o2 with
    |nrm t2 h2'=>
     obtain⟨w2,M2,s2,c1,c2,c3⟩:=b2
     exact done (p:=none) (pv:=none) c1 c2 trivial c3 fun m=>rfl
    |ret t2 h2'=>
     obtain⟨w2,M2,s2,c1,c2,c3⟩:=b2
     exact done (p:=none) (pv:=none) c1 c2 trivial c3 fun m=>rfl
    |pan v t2 h2'=>
     obtain⟨w2,M2,s2,d2,c1,c2,c3,c4⟩:=b2
     exact done (p:=some d2) (pv:=some v) c1 c2 c3 c4 fun m=>rfl
    |exit=>obtain⟨_,_,_,_,_,q⟩:=b2;exact q.elim
    |val=>exact b2.elim
   |_=>exact a3.elim
  |pan v t1 h1'=>
   obtain⟨w1,M1,s1,d,a1,a2,a3,a4⟩:=h2
   exact⟨n+1,.pan v .nil h1',fin (Nat.le_refl _) (by rw[hd];rfl),w1,M1,d,a1.hi,a1.r,a3,a4⟩
  |ret=>obtain⟨w1,M1,s1,a1,a2,a3⟩:=h2;exact a3.elim
  |exit=>obtain⟨w1,M1,s1,a1,a2,a3⟩:=h2;exact a3.elim
  |val=>exact h2.elim
theorem HandD.func {g:Nat} {a c args:List DV} {p:Option DV} {M:VM} {k:VM→Prop} {cf:zb} (hF:F g=some cf) (hp:cf.prim=none) (h:wHand (rD F M.next) cf (a++args++c) p M k):HandD F (.fn g a c) args p M k:=by
 intro w hp0 fv vs pv hr hf hv hpv
 obtain⟨a',c',rfl,ha,hc⟩:=hf.inv_fn
 have hall:=(ha.append hv).append hc
 obtain⟨hlen,hw⟩:=h
 have hst:St M.next w M hp0 w M hp0:=⟨rfl,hr,.refl _ _ _,hr⟩
 have hs:=zhB (i:=0) hall (SRel.nil (w:=w) (t:=.nil))
 have hops: ∀{l:List CI} {p:Option DV} {s:DS} {M1:VM} {k1:Option DV→DS→VM→Prop} {w1:Wd} {h1:H} {t:za} {pv:Option Value},zh8 l p s M1 k1→St M.next w M hp0 w1 M1 h1→SRel w1 s t→ORelO w1 p pv→
  ∃pv2 t2 h2 p2 s2 M2 w2,zbo l pv t h1=some (pv2,t2,h2)∧St M.next w M hp0 w2 M2 h2∧SRel w2 s2 t2∧ORelO w2 p2 pv2∧k1 p2 s2 M2:=by
  intro l
  induction l with
  |nil=>intro p s M1 k1 w1 h1 t pv hk c1 c2 c3;exact⟨pv,t,h1,p,s,M1,w1,rfl,c1,c2,c3,hk⟩
  |cons o l ih=>
   intro p s M1 k1 w1 h1 t pv hk c1 c2 c3
   obtain⟨b,hb,hk⟩:=zb2 hk
   have hwt:=zfj c2 hb
   have e0:zbo (o::l) pv t h1=((zbb o.guard t).bind fun b=>match b with
    |true=>zeo o (zbo l) pv t h1
    |false=>zbo l pv (zY o.dst zM t) h1):=rfl
   rw[e0]
   clear hb e0
   cases b with
   |false=>
    rw[hwt,Option.bind_some]
    exact ih hk c1 (c2.put (.tup_of .nil) o.dst) c3
   |true=>
    rw[hwt,Option.bind_some]
    dsimp only
    have gen:okD (opD o.op s M1) (fun v M=>zh8 l p (zV o.dst v s) M k1)→zeo o (zbo l) pv t h1=((opV o.op t h1).bind fun x=>zbo l pv (zY o.dst x.1 t) x.2)→ ∃pv2 t2 h2 p2 s2 M2 w2,zeo o (zbo l) pv t h1=some (pv2,t2,h2)∧St M.next w M hp0 w2 M2 h2∧SRel w2 s2 t2∧ORelO w2 p2 pv2∧k1 p2 s2 M2:=fun hq he=>by
     obtain⟨d,M2,q1,q2⟩:=okD_of hq
     obtain⟨v,h',q3,w',q4,q5,q6⟩:=opW_sound c1.r c2 q1
     rw[he,q3,Option.bind_some]
     refine ih q2 (c1.step q5 q6) ((c2.mono q5.le).put q4 o.dst) ?_
     cases p<;>cases pv<;>first|trivial|exact c3.elim|exact VRel.mono q5.le c3
    cases ho:o.op with
    |recov=>
     rw[ho] at hk
     have e1:zeo o (zbo l) pv t h1=zbo l none (zY o.dst (pv.getD .nilIface) t) h1:=by grind [zeo]
     rw[e1]
     refine ih hk c1 (c2.put ?_ o.dst) trivial
     cases p<;>cases pv<;>first|exact .nilI|exact c3.elim|exact c3
    |_=>
     rw[ho] at hk
     refine gen (by rw[ho];exact hk) (by unfold zeo;rw[ho])
 cases hd:cf.dfr with
 |some=>grind
 |none=>
  rw[hd] at hw
  cases hb:cf.body with
  |seq a0 L b=>
   rw[hb] at hw
   cases a0 with
   |ops l=>
    obtain⟨pv2,t2,h2,p2,s2,M2,w2,e1,e2,e3,e4,e5⟩:=hops hw hst hs hpv
    cases p2 with
    |some=>grind
    |none=>
     cases pv2 with
     |some=>exact e4.elim
     |none=>
      obtain⟨n,o,b1,b2⟩:=zgZ b e5 w M hp0 w2 h2 (zb5 L t2) e2 (e3.keep L)
      have fin: ∀{v h'},retV cf.results o=some (.val v h')→E F (n+1) (.hand (.func (.func g) ⟨a'⟩ ⟨c'⟩) vs pv hp0)=some (.val v h'):=fun{v h'} e=>by
       show((F g).bind fun cf=>zfn (E F n) cf (a'++vs++c') pv hp0)=_
       rw[hF,Option.bind_some]
       unfold zfn
       rw[hp,hd]
       dsimp only
       rw[if_pos (by rw[Nat.ble_eq,←hall.len];grind),hb]
       show((zbo l pv _ hp0).bind (handEnd (E F n) cf.results L b))=_
       rw[e1,Option.bind_some]
       show(E F n _).bind _=_
       grind
      cases o with
      |nrm t1 h1'=>
       obtain⟨w1,M1,s1,a1,a2,a3⟩:=b2
       obtain⟨o',q1,q2,v,rfl⟩:=zcB (rs:=cf.results) (k:=fun _ M=>k M) (kp:=fun _ _=>False) a1 a2 a3
       obtain⟨w3,M3,d3,r1,r2,r3,r4⟩:=q2
       exact⟨n+1,v,h1',w3,M3,fin q1,r1,r2,r4⟩
      |ret t1 h1'=>
       obtain⟨w1,M1,s1,a1,a2,a3⟩:=b2
       obtain⟨o',q1,q2,v,rfl⟩:=zcB (rs:=cf.results) (k:=fun _ M=>k M) (kp:=fun _ _=>False) a1 a2 a3
       obtain⟨w3,M3,d3,r1,r2,r3,r4⟩:=q2
       exact⟨n+1,v,h1',w3,M3,fin q1,r1,r2,r4⟩
      |pan=>obtain⟨_,_,_,_,_,_,_,q⟩:=b2;grind
      |exit=>obtain⟨_,_,_,_,_,q⟩:=b2;grind
      |val=>exact b2.elim
   |_=>exact hw.elim
  |_=>rw[hb] at hw;exact hw.elim
theorem zg.mono {f:DV} {args:List DV} {M:VM} {k k' kp kp':DV→VM→Prop} (h:zg F f args M k kp) (h1: ∀d M,k d M→k' d M) (h2: ∀d M,kp d M→kp' d M):zg F f args M k' kp':=fun w hp fv vs a b c=>by
 obtain⟨n,o,e,q⟩:=h w hp fv vs a b c
 refine⟨n,o,e,?_⟩
 cases o with
 |val=>obtain⟨w1,M1,d,a1,a2,a3,a4⟩:=q;exact⟨w1,M1,d,a1,a2,a3,h1 _ _ a4⟩
 |pan=>obtain⟨w1,M1,d,a1,a2,a3,a4⟩:=q;exact⟨w1,M1,d,a1,a2,a3,h2 _ _ a4⟩
 |_=>exact q
end Go.Ideal
namespace Go.Ideal
inductive zQ (n:Nat):DV→Prop where
 |int (k:IntKind) (a:Int):zQ n (.int k a)
 |bool (b:Bool):zQ n (.bool b)
 |str (s:ByteArray):zQ n (.str s)
 |bs (s:ByteArray):zQ n (.bs s)
 |nilS:zQ n .nilS
 |nilP:zQ n .nilP
 |nilM:zQ n .nilM
 |nilF:zQ n .nilF
 |nilI:zQ n .nilI
 |agg {l:List DV} (h: ∀d∈l,zQ n d):zQ n (.agg l)
 |tup {l:List DV} (h: ∀d∈l,zQ n d):zQ n (.tup l)
 |lst {s:Nat} {rows:List (List DV)} (h: ∀r∈rows,∀d∈r,zQ n d):zQ n (.lst s rows)
 |pl {s i off:Nat} {rows:List (List DV)} (h: ∀r∈rows,∀d∈r,zQ n d):zQ n (.pl s rows i off)
 |fn (g:Nat) {a c:List DV} (h: ∀d∈a,zQ n d) (h': ∀d∈c,zQ n d):zQ n (.fn g a c)
 |ifc (t:Nat) {d:DV} (h:zQ n d):zQ n (.ifc t d)
 |ms {j lo len cap:Nat} (h:j<n):zQ n (.ms j lo len cap)
 |ptr {j i off:Nat} (h:j<n):zQ n (.ptr j i off)
 |map {j:Nat} (h:j<n):zQ n (.map j)
 |yld {j:Nat} (h:j<n):zQ n (.yld j)
inductive Frz (M M2:VM):DV→DV→Prop where
 |refl (d:DV):Frz M M2 d d
 |nilS (s:Nat):Frz M M2 .nilS (.lst s [])
 |agg {l l2:List DV} (hl:l.length=l2.length) (h: ∀(k:Nat) d e,l[k]? =some d→l2[k]? =some e→Frz M M2 d e):Frz M M2 (.agg l) (.agg l2)
 |tup {l l2:List DV} (hl:l.length=l2.length) (h: ∀(k:Nat) d e,l[k]? =some d→l2[k]? =some e→Frz M M2 d e):Frz M M2 (.tup l) (.tup l2)
 |ifc (t:Nat) {d e:DV} (h:Frz M M2 d e):Frz M M2 (.ifc t d) (.ifc t e)
 |ms {j lo len cap sz:Nat} {op:Bool} {rs rows:List (List DV)} (ho:M.obj j=some (.rows op sz rs)) (hn:M2.get j=none) (hb:lo+len≤rs.length) (hs: ∀r∈rows,r.length=sz) (hr:rows.length=len)
   (h: ∀(k:Nat) d e,(((rs.drop lo).take len).flatten)[k]? =some d→rows.flatten[k]? =some e→Frz M M2 d e):Frz M M2 (.ms j lo len cap) (.lst sz rows)
 |ptr {j i off sz:Nat} {op:Bool} {rs rows:List (List DV)} (ho:M.obj j=some (.rows op sz rs)) (hn:M2.get j=none) (hs: ∀r∈rows,r.length=sz) (hr:rows.length=rs.length)
   (h: ∀(k:Nat) d e,rs.flatten[k]? =some d→rows.flatten[k]? =some e→Frz M M2 d e):Frz M M2 (.ptr j i off) (.pl sz rows i off)
inductive FrzO (M M2:VM):MO→MO→Prop where
 |refl (o:MO):FrzO M M2 o o
 |rows {op:Bool} {sz:Nat} {rs rows:List (List DV)} (hs: ∀r∈rows,r.length=sz) (hr:rows.length=rs.length) (h: ∀(k:Nat) d e,rs.flatten[k]? =some d→rows.flatten[k]? =some e→Frz M M2 d e):FrzO M M2 (.rows op sz rs) (.rows op sz rows)
inductive BelowO (n:Nat):MO→Prop where
 |rows {op:Bool} {sz:Nat} {rs:List (List DV)} (h: ∀r∈rs,∀d∈r,zQ n d):BelowO n (.rows op sz rs)
 |map {es:List (DV×DV)} (h: ∀e∈es,zQ n e.1∧zQ n e.2):BelowO n (.map es)
 |loop {st:LoopState} {pend:Option CC} {sl:DS} {rc:RC} (h: ∀x∈sl,zQ n x.2):BelowO n (.loop st pend sl rc)
structure Conv (M M' M2:VM):Prop where
 nx:M.next≤M2.next
 obj: ∀j,(M2.get j=M.get j∧(j<M.next→M'.get j=M.get j))∨M2.get j=none∨
  ∃o st o',M2.get j=some (o,st)∧j<M2.next∧M.next≤st∧st<M2.next∧M'.obj j=some o'∧FrzO M' M2 o' o∧BelowO M2.next o
section
variable {w:Wd} {M' M2:VM} {h:H}
def FB (w:Wd) (M' M2:VM) (b:Nat):Prop:= ∃j R,w.rho j=some R∧R.blk=b∧(M'.get j).isSome=true∧M2.get j=none
open Classical in
noncomputable def cw (w:Wd) (M' M2:VM) (h:H):Wd:=⟨fun j=>if j<M2.next then w.rho j else none,fun b=>match w.Z b with
 |some z=>some z
 |none=>if FB w M' M2 b then(match h.get b with|some (.cells cs e)=>some (cs,e)|_=>none) else none⟩
theorem zlF {j:Nat} (hj:j<M2.next) {R:RBd} (hR:w.rho j=some R):(cw w M' M2 h).rho j=some R:=by
 show(if j<M2.next then _ else _)=_;grind
theorem zkl {j:Nat} {R:RBd} (hR:(cw w M' M2 h).rho j=some R):j<M2.next∧w.rho j=some R:=by
 have hR:(if j<M2.next then w.rho j else none)=some R:=hR
 grind
theorem cw_Z {b:Nat} {z:List Value×Nat} (hz:w.Z b=some z):(cw w M' M2 h).Z b=some z:=by
 show(match w.Z b with|some z=>some z|none=>_)=_;rw[hz]
theorem cw_FB {b:Nat} {cs:List Value} {e:Nat} (hz:w.Z b=none) (hf:FB w M' M2 b) (hg:h.get b=some (.cells cs e)):(cw w M' M2 h).Z b=some (cs,e):=by
 show(match w.Z b with|some z=>some z|none=>_)=_;grind
theorem cw_Z' {b:Nat} {z:List Value×Nat} (hz:(cw w M' M2 h).Z b=some z):w.Z b=some z∨(FB w M' M2 b∧h.get b=some (.cells z.1 z.2)):=by
 have hz:(match w.Z b with|some z=>some z|none=>_)=some z:=hz
 grind
theorem zQ.rel {d:DV} {v:Value} (hv:VRel w d v):zQ M2.next d→VRel (cw w M' M2 h) d v:=by
 induction hv with
 |int k n=>intro _;exact .int k n
 |bool b=>intro _;exact .bool b
 |str s=>intro _;exact .str s
 |bs hz=>intro _;exact .bs (cw_Z hz)
 |nilS=>intro _;exact .nilS
 |nilP=>intro _;exact .nilP
 |nilM=>intro _;exact .nilM
 |nilF=>intro _;exact .nilF
 |nilI=>intro _;exact .nilI
 |agg hl _ ih=>intro hb;cases hb with|agg hb=>exact .agg hl fun k d v a b=>ih k d v a b (hb d (List.mem_of_getElem? a))
 |tup hl _ ih=>intro hb;cases hb with|tup hb=>exact .tup hl fun k d v a b=>ih k d v a b (hb d (List.mem_of_getElem? a))
 |fn g ha hc _ _ ih ih'=>intro hb;cases hb with|fn _ h1 h2=>exact .fn g ha hc (fun k d v a b=>ih k d v a b (h1 d (List.mem_of_getElem? a))) (fun k d v a b=>ih' k d v a b (h2 d (List.mem_of_getElem? a)))
 |yld hR=>intro hb;cases hb with|yld hb=>exact .yld (zlF hb hR)
 |ifc t _ ih=>intro hb;cases hb with|ifc _ hb=>exact .ifc t (ih hb)
 |map hR=>intro hb;cases hb with|map hb=>exact .map (zlF hb hR)
 |ptr hR=>intro hb;cases hb with|ptr hb=>exact .ptr (zlF hb hR)
 |ms hR ho hc=>intro hb;cases hb with|ms hb=>exact .ms (zlF hb hR) ho hc
 |lst hz hs hb _ ho hc hn ih=>intro hq;cases hq with|lst hq=>exact .lst (cw_Z hz) hs hb (fun k d v a b=>ih k d v a b (by
   obtain⟨r,hr1,hr2⟩:=List.mem_flatten.1 (List.mem_of_getElem? a);grind)) ho hc hn
 |lst0 hc hsp=>intro _;exact .lst0 hc hsp
 |pl hz hs hb _ ih=>intro hq;cases hq with|pl hq=>exact .pl (cw_Z hz) hs hb (fun k d v a b=>ih k d v a b (by
   obtain⟨r,hr1,hr2⟩:=List.mem_flatten.1 (List.mem_of_getElem? a);grind))
theorem zes {l m:List DV} (hl:l.length=m.length) {k:Nat} {e:DV} (he:m[k]? =some e): ∃d,l[k]? =some d:=by
 grind
theorem Frz.rel (hr:HRel w M' h) {d e:DV} (hf:Frz M' M2 d e): ∀{v:Value},VRel w d v→zQ M2.next e→VRel (cw w M' M2 h) e v:=by
 induction hf with
 |refl d=>grind [zQ.rel]
 |nilS s=>intro v hv hb;cases hv;exact .lst0 (by decide) (fun a e=>by cases e)
 |agg hl _ ih=>
  intro v hv hb
  cases hb with
  |agg hb=>
   obtain⟨vs,rfl,hlr⟩:=hv.inv_agg
   refine .agg (hl.symm.trans hlr.len) fun k e v a b=> ?_
   obtain⟨d,hd⟩:=zes hl a
   exact ih k d e hd a (hlr.at_ k d v hd b) (hb e (List.mem_of_getElem? a))
 |tup hl _ ih=>
  intro v hv hb
  cases hb with
  |tup hb=>
   obtain⟨vs,rfl,hlr⟩:=hv.inv_tup
   refine .tup (hl.symm.trans hlr.len) fun k e v a b=> ?_
   obtain⟨d,hd⟩:=zes hl a
   exact ih k d e hd a (hlr.at_ k d v hd b) (hb e (List.mem_of_getElem? a))
 |ifc t _ ih=>
  intro v hv hb
  cases hb with
  |ifc _ hb=>cases hv with|ifc _ hv=>exact .ifc t (ih hv hb)
 | @ms j lo len cap sz op rs rows ho hn hle hs hrl _ ih=>
   intro v hv hb
   cases hb with
   |lst hb=>
    cases hv with
    | @ms _ _ _ _ R hR hO hC=>
      obtain⟨st,hg⟩:=zbX ho
      obtain⟨hz,eo,he,hro⟩:=hr.obj j _ st R hg hR
      cases hro with
      | @rows _ _ _ cs e hrows=>
        have hs0:=hrows.row
        have hfl:=z9 hs0
        have hcl:=hrows.rel.len
        have hlen2:((rs.drop lo).take len).flatten.length=rows.flatten.length:=by
         rw[z9 (rs:=(rs.drop lo).take len) (fun r hr=>hs0 r (List.mem_of_mem_drop (List.mem_of_mem_take hr))),z9 hs,hrl]
         grind
        have hmul:lo*sz+len*sz≤rs.length*sz:=by rw[←Nat.add_mul];exact Nat.mul_le_mul_right _ hle
        refine .lst (cs:=cs) (e:=e) (cw_FB hz ⟨j,R,hR,rfl,by grind,hn⟩ he) hs (by rw[hrl,←hrows.hsz];omega) (fun k e2 v a b=> ?_) (fun hc=> ?_) (fun hc=>by grind) hrl.symm
        ·obtain⟨d,hd⟩:=zes hlen2 a
         have hd2:=hd
         rw[zds (fun r hr=>hs0 r (List.mem_of_mem_drop hr)),zdt hs0,List.getElem?_take] at hd2
         split at hd2
         ·rw[List.getElem?_drop] at hd2
          refine ih k d e2 hd a (hrows.rel.at_ _ d v hd2 (by rw[hrows.hsz];exact b)) ?_
          obtain⟨r,hr1,hr2⟩:=List.mem_flatten.1 (List.mem_of_getElem? a);grind
         grind
        ·have h1:=hO hc
         have h2:=hrows.hop.trans h1
         subst h2
         have:=hrows.esz
         rw[if_pos rfl] at this
         exact⟨this,hrows.pos rfl⟩
 | @ptr j i off sz op rs rows ho hn hs hrl _ ih=>
   intro v hv hb
   cases hb with
   |pl hb=>
    cases hv with
    | @ptr _ _ _ R hR=>
      obtain⟨st,hg⟩:=zbX ho
      obtain⟨hz,eo,he,hro⟩:=hr.obj j _ st R hg hR
      cases hro with
      | @rows _ _ _ cs e hrows=>
        have hs0:=hrows.row
        have hfl:=z9 hs0
        have hcl:=hrows.rel.len
        have hlen2:rs.flatten.length=rows.flatten.length:=by grind [z9]
        have:=VRel.pl (w:=cw w M' M2 h) (o:=0) (i:=i) (off:=off) (cs:=cs) (e:=e) (cw_FB hz ⟨j,R,hR,rfl,by grind,hn⟩ he) hs (by grind) (fun k e2 v a b=>by
         obtain⟨d,hd⟩:=zes hlen2 a
         refine ih k d e2 hd a (hrows.rel.at_ _ d v hd (by grind)) ?_
         obtain⟨r,hr1,hr2⟩:=List.mem_flatten.1 (List.mem_of_getElem? a);grind)
        rw[Nat.zero_add] at this
        rw[←hrows.hsz];grind
theorem St.conv {n0:Nat} {w0:Wd} {M M0:VM} {h0 h1:H} {w1:Wd} (hst:St n0 w0 M0 h0 w1 M h1) {hh:H} (hr1:HRel w1 M h1) (hi:Hist w1 M h1 w M' hh) (hr:HRel w M' hh) (hc:Conv M M' M2):St n0 w0 M0 h0 (cw w M' M2 hh) M2 hh:=by
 have hle1:w1.Le (cw w M' M2 hh):=⟨fun j R e=>zlF (Nat.lt_of_lt_of_le (hr1.dom j R e).1 hc.nx) (hi.le.rho _ _ e),fun b z e=>cw_Z (hi.le.Z _ _ e)⟩
 have kept: ∀j o st,M2.get j=some (o,st)→(M.get j=some (o,st)∧M'.get j=some (o,st))∨(j<M2.next∧M.next≤st∧st<M2.next∧ ∃o',M'.obj j=some o'∧FrzO M' M2 o' o∧BelowO M2.next o):=fun j o st e=>by
  rcases hc.obj j with⟨h1,h2⟩|h1| ⟨o1,st1,o',h1,h2,h3,h4,h5,h6,h7⟩
  ·rw[h1] at e
   exact .inl ⟨e,by rw[h2 (hr1.wf j o st e).1];exact e⟩
  all_goals grind
 have live: ∀j x,M2.get j=some x→ ∃y,M'.get j=some y:=fun j x e=>by
  grind [zbX]
 refine⟨hst.n,hst.r0,hst.hi.trans hst.r0 ⟨hle1,hc.nx,hi.hnx,fun j o st e=> ?_,fun j x R e1 e2 hR=> ?_,fun j R e=>hi.own j R (zkl e).2,hi.rest⟩,?_⟩
 ·grind
 ·obtain⟨o,st⟩:=x
  rcases kept j o st e2 with⟨_,h2⟩| ⟨_,h1,_⟩
  ·exact hi.same j _ R e1 h2 hR
  ·have:=(hr1.wf j o st e1).2.1;omega
 ·constructor
  ·intro j o st e
   rcases kept j o st e with⟨h1,h2⟩| ⟨h1,_,h3,o',h5,_⟩
   ·obtain⟨a,b,R,c⟩:=hr1.wf j o st h1
    exact⟨Nat.lt_of_lt_of_le a hc.nx,Nat.lt_of_lt_of_le b hc.nx,R,hle1.rho _ _ c⟩
   ·obtain⟨st',h6⟩:=zbX h5
    obtain⟨_,_,R,c⟩:=hr.wf j _ _ h6
    grind [zlF]
  ·intro j R e
   obtain⟨a,b⟩:=zkl e
   exact⟨a,(hr.dom j R b).2⟩
  ·intro b z e
   rcases cw_Z' e with e| ⟨⟨j,R,hR,rfl,_⟩,hg⟩
   ·exact hr.zd b z e
   ·exact⟨(hr.dom j R hR).2,hg⟩
  ·intro j o st R e hR
   obtain⟨hj,hR⟩:=zkl hR
   obtain⟨y,hy⟩:=live j _ e
   obtain⟨hz,e',he',hro⟩:=hr.obj j y.1 y.2 R hy hR
   refine⟨?_,?_⟩
   ·cases hzz:(cw w M' M2 hh).Z R.blk with
    |none=>rfl
    |some z=>
     rcases cw_Z' hzz with e2| ⟨⟨j',R',hR',eb,hl,hn⟩,hg⟩
     ·grind
     ·have:=hr.inj j' j R' R hR' hR hl (by grind) eb
      grind
   ·rcases kept j o st e with⟨h1,h2⟩| ⟨_,_,_,o',h5,h6,h7⟩
    ·
     obtain⟨_,_,R1,c⟩:=hr1.wf j o st h1
     have:R1=R:=by have:=hi.le.rho _ _ c;grind
     subst this
     obtain⟨_,e0,he0,hro0⟩:=hr1.obj j o st R1 h1 c
     exact⟨e0,by rw[hi.same j _ R1 h1 h2 c];grind,hro0.mono hle1⟩
    ·obtain⟨st',h8⟩:=zbX h5
     rw[hy] at h8;cases h8
     refine⟨e',he',?_⟩
     cases h6 with
     |refl=>
      cases hro with
      | @rows op sz rs cs ee hrows=>
        cases h7 with
        |rows h7=>
         refine .rows ⟨hrows.hop,hrows.hsz,hrows.esz,hrows.pos,hrows.row,hrows.rel.len,fun k d v a b=>zQ.rel (hrows.rel.at_ k d v a b) ?_⟩
         obtain⟨r,hr1,hr2⟩:=List.mem_flatten.1 (List.mem_of_getElem? a);grind
      | @map es es' c hm=>
        cases h7 with
        |map h7=>
         refine .map ⟨⟨hm.keys.len,fun k d v a b=>zQ.rel (hm.keys.at_ k d v a b) ?_⟩,⟨hm.vals.len,fun k d v a b=>zQ.rel (hm.vals.at_ k d v a b) ?_⟩⟩
         all_goals grind
      | @loop lst pend sl sl' rc hsl=>
        cases h7 with
        |loop h7=>
         refine .loop fun p d hd=> ?_
         obtain⟨v,hv,hv2⟩:=hsl p d hd
         refine⟨v,hv,zQ.rel hv2 ?_⟩
         have: ∀{s:DS},getS s p=some d→ ∃x∈s,x.2=d:=by
          intro s
          induction s with
          |nil=>intro q;cases q
          |cons x s ih=>
           grind [zet]
         grind
     | @rows op sz rs rows hs hrl hfr=>
       cases hro with
       | @rows _ _ _ cs ee hrows=>
         cases h7 with
         |rows h7=>
          have hlen2:rs.flatten.length=rows.flatten.length:=by rw[z9 hrows.row,z9 hs,hrl]
          refine .rows ⟨hrows.hop,hrows.hsz,hrows.esz,hrows.pos,hs,hlen2.symm.trans hrows.rel.len,fun k d v a b=> ?_⟩
          obtain⟨d0,hd0⟩:=zes hlen2 a
          refine(hfr k d0 d hd0 a).rel hr (hrows.rel.at_ k d0 v hd0 b) ?_
          obtain⟨r,hr1,hr2⟩:=List.mem_flatten.1 (List.mem_of_getElem? a);grind
  ·intro i j R S hi' hj ai aj eb
   obtain⟨xi,ei⟩:=Option.isSome_iff_exists.1 ai
   obtain⟨xj,ej⟩:=Option.isSome_iff_exists.1 aj
   obtain⟨yi,fi⟩:=live i _ ei
   obtain⟨yj,fj⟩:=live j _ ej
   exact hr.inj i j R S (zkl hi').2 (zkl hj).2 (by grind) (by grind) eb
end
variable {F:FuncId→Option zb} {n0:Nat}
def SFrz (M' M2:VM) (s s2:DS):Prop:= ∀p e,getS s2 p=some e→ ∃d,getS s p=some d∧Frz M' M2 d e∧zQ M2.next e
theorem SFrz.rel {M' M2:VM} {w:Wd} {h:H} (hr:HRel w M' h) {s s2:DS} {t:za} (hf:SFrz M' M2 s s2) (hs:SRel w s t):SRel (cw w M' M2 h) s2 t:=fun p e he=>by
 obtain⟨d,hd,h1,h2⟩:=hf p e he
 obtain⟨v,hv,h3⟩:=hs p d hd
 exact⟨v,hv,h1.rel hr h3 h2⟩
theorem zg.conv {f:DV} {args:List DV} {M:VM} {k kp:DV→VM→Prop} (h:zg F f args M (fun d M'=> ∃e M2,Conv M M' M2∧Frz M' M2 d e∧zQ M2.next e∧k e M2) kp):zg F f args M k kp:=by
 intro w hp fv vs hr hf hv
 obtain⟨n,o,e,q⟩:=h w hp fv vs hr hf hv
 refine⟨n,o,e,?_⟩
 cases o with
 |val v h1=>
  obtain⟨w1,M1,d,a1,a2,a3,e2,M2,c1,c2,c3,c4⟩:=q
  have:=St.conv ⟨rfl,hr,.refl _ _ _,hr⟩ hr a1 a2 c1
  exact⟨_,M2,e2,this.hi,this.r,c2.rel a2 a3 c3,c4⟩
 |pan v s h1=>exact q
 |_=>exact q
def VM.Wf (M:VM):Prop:= ∀j,M.next≤j→M.get j=none
theorem HRel.Wf {w:Wd} {M:VM} {h:H} (hr:HRel w M h):M.Wf:=fun j hj=>by
 cases e:M.get j with
 |none=>rfl
 |some x=>obtain⟨o,st⟩:=x;have:=(hr.wf j o st e).1;omega
theorem zg.wf {f:DV} {args:List DV} {M:VM} {k kp:DV→VM→Prop} (h:M.Wf→zg F f args M k kp):zg F f args M k kp:=fun w hp fv vs hr a b=>h hr.Wf w hp fv vs hr a b
theorem Conv.same {M M':VM} (h: ∀j,j<M.next→M'.get j=M.get j):Conv M M' M:=⟨Nat.le_refl _,fun j=>.inl ⟨rfl,h j⟩⟩
theorem Frz.ms0 {M M2:VM} {j n cap sz:Nat} {op:Bool} {rs:List (List DV)} (ho:M.obj j=some (.rows op sz rs)) (hn:M2.get j=none) (hl:n=rs.length) (hs: ∀r∈rs,r.length=sz):Frz M M2 (.ms j 0 n cap) (.lst sz rs):=by
 grind [ms,refl]
end Go.Ideal
namespace Go.Ideal
noncomputable section
namespace Q
abbrev iI (n:Int):Value:=.int .i64 n
abbrev t (n:Nat):CO:=.t (bits n)
abbrev i (n:Int):CO:=.c (.int .i64 n)
abbrev tt:CO:=.c (.bool true)
abbrev ff:CO:=.c (.bool false)
abbrev fc (f:Nat):CO:=.c (.func (.func f) ⟨[]⟩ ⟨[]⟩)
abbrev bs (l:List Nat):List (List Bool):=l.map bits
abbrev oo (d:Nat) (x:COp):CI:=⟨some (bits d),x,none,0⟩
abbrev on (x:COp):CI:=⟨none,x,none,0⟩
abbrev gu (q:Nat) (b:Bool) (c:CI):CI:=⟨c.dst,c.op,some (bits q,b),c.lo⟩
def lo (n:Nat) (c:CI):CI:=⟨c.dst,c.op,c.guard,n⟩
@[simp] theorem lo_eq (n m:Nat) (d:Option (List Bool)) (o:COp) (g:Option (List Bool×Bool)):lo n ⟨d,o,g,m⟩=⟨d,o,g,n⟩:=id rfl
abbrev mv (d:Nat) (x:CO):CI:=⟨some (bits d),.mv x,none,0⟩
abbrev l (d a:Nat):CI:=⟨some (bits d),.load1 (t a),none,0⟩
abbrev ln (d n a:Nat):CI:=⟨some (bits d),.loadN n (t a),none,0⟩
abbrev fa (d n a:Nat):CI:=⟨some (bits d),.fieldAddr n (t a),none,0⟩
abbrev nc (d a:Nat):CI:=⟨some (bits d),.nilCheck (t a),none,0⟩
abbrev ia (d n a:Nat) (x:CO):CI:=⟨some (bits d),.indexAddr n (t a) x,none,0⟩
abbrev st (n a:Nat) (x:CO):CI:=⟨none,.store n (t a) x,none,0⟩
abbrev bi (op:BinOp) (d:Nat) (x y:CO):CI:=⟨some (bits d),.bin op .other x y,none,0⟩
abbrev le (d:Nat) (x:CO):CI:=⟨some (bits d),.blt .len [x],none,0⟩
abbrev ca (d f:Nat) (as:List CO):CI:=⟨some (bits d),.call (fc f) as,none,0⟩
abbrev ex (d a n:Nat):CI:=⟨some (bits d),.extract (t a) n,none,0⟩
abbrev bx (d:Nat) (x:CO):CI:=⟨some (bits d),.box x,none,0⟩
abbrev no (d a:Nat):CI:=⟨some (bits d),.un .not (t a),none,0⟩
abbrev pk (d:Nat) (c a b:CO):CI:=⟨some (bits d),.pick c a b,none,0⟩
abbrev ap (d s b:Nat) (x y:CO):CI:=⟨some (bits d),.blt (.append s b) [x,y],none,0⟩
end Q
inductive Fr where
 |sq (L:List (List Bool)) (b:CC)
 |bk (i:Nat)
def KF (X:RnD):List Fr→KD→KD
 | [],K=>K
 |.sq L b::ks,K=>⟨fun s M=>wp X b (KF X ks K) (zbM L s) M,(KF X ks K).ext,(KF X ks K).ret,(KF X ks K).pan⟩
 |.bk i::ks,K=>⟨(KF X ks K).nrm,blkD i (KF X ks K),(KF X ks K).ret,(KF X ks K).pan⟩
class FrC where
 ks:List Fr
 K:KD
abbrev FrC.sq (f:FrC) (L:List (List Bool)) (b:CC):FrC:=⟨.sq L b::f.ks,f.K⟩
abbrev FrC.bk (f:FrC) (i:Nat):FrC:=⟨.bk i::f.ks,f.K⟩
abbrev FrC.base (K:KD):FrC:=⟨[],K⟩
def kf (X:RnD) [f:FrC]:KD:=KF X f.ks f.K
section
variable (X:RnD) [fr:FrC]
def Cd (c:CC) (s:DS) (M:VM):Prop:=wp X c (@kf X fr) s M
def Op (l:List CI) (s:DS) (M:VM):Prop:=wOps X (@kf X fr).pan l s M (@kf X fr).nrm
def Nx (s:DS) (M:VM):Prop:=(@kf X fr).nrm s M
def Ex (i:Nat) (s:DS) (M:VM):Prop:=(@kf X fr).ext i s M
def CK (d:Option (List Bool)) (r:List CI) (s:DS) (v:DV) (M:VM):Prop:= @Op X fr r (zV d v s) M
def PK [fr:FrC] (s:DS) (v:DV) (M:VM):Prop:=fr.K.pan v s M
def Rs (o:RD) (d:Option (List Bool)) (r:List CI) (s:DS):Prop:=okD o (@CK X fr d r s)
def Ca (f:Option DV) (as:Option (List DV)) (d:Option (List Bool)) (r:List CI) (s:DS) (M:VM):Prop:=ofD f fun f=>ofD as fun l=>X.call f l M (@CK X fr d r s) (@PK fr s)
def Gd (g:Option Bool) (d:Option (List Bool)) (op:COp) (lo:Nat) (r:List CI) (s:DS) (M:VM):Prop:=ofD g fun b=>match b with
 |true=> @Op X fr (⟨d,op,none,lo⟩::r) s M
 |false=> @Op X fr r (zV d (.tup []) s) M
def Pn [fr:FrC] (v:Option DV) (s:DS) (M:VM):Prop:=ofD v fun v=>match v with|.ifc t u=>fr.K.pan (.ifc t u) s M|_=>False
def Br (v:Option DV) (a b:CC) (s:DS) (M:VM):Prop:=ofD v fun v=>wIf v (@Cd X fr a s M) (@Cd X fr b s M)
end
section
variable {X:RnD} {fr:FrC} {K:KD} {s:DS} {M:VM} {d:Option (List Bool)} {r:List CI} {lo:Nat}
theorem KF_ret0: ∀ks:List Fr,(KF X ks K).ret=K.ret
 | []=>rfl
 |.sq _ _::ks=>KF_ret0 ks
 |.bk _::ks=>KF_ret0 ks
theorem KF_pan0: ∀ks:List Fr,(KF X ks K).pan=K.pan
 | []=>rfl
 |.sq _ _::ks=>KF_pan0 ks
 |.bk _::ks=>KF_pan0 ks
theorem KF_ret:(@kf X fr).ret=fr.K.ret:=KF_ret0 _
theorem KF_pan:(@kf X fr).pan=fr.K.pan:=KF_pan0 _
@[simp] theorem KF_ret':(@kf X fr).ret s M=fr.K.ret s M:=by rw[KF_ret]
@[simp] theorem KF_pan' (v:DV):(@kf X fr).pan v s M=fr.K.pan v s M:=by rw[KF_pan]
@[simp] theorem sq_K (L:List (List Bool)) (b:CC):(fr.sq L b).K=fr.K:=id rfl
@[simp] theorem bk_K (i:Nat):(fr.bk i).K=fr.K:=id rfl
@[simp] theorem base_K:(FrC.base K).K=K:=id rfl
@[simp] theorem KF_nrm:(@kf X fr).nrm s M= @Nx X fr s M:=id rfl
@[simp] theorem KF_ext (i:Nat):(@kf X fr).ext i s M= @Ex X fr i s M:=id rfl
theorem wp_Cd (c:CC):wp X c K s M= @Cd X (.base K) c s M:=id rfl
@[simp] theorem Cd_skip: @Cd X fr .skip s M= @Nx X fr s M:=id rfl
@[simp] theorem Cd_ops (l:List CI): @Cd X fr (.ops l) s M= @Op X fr l s M:=id rfl
@[simp] theorem Cd_seq (a b:CC) (L:List (List Bool)): @Cd X fr (.seq a L b) s M= @Cd X (fr.sq L b) a s M:=id rfl
@[simp] theorem Cd_block (i:Nat) (b:CC): @Cd X fr (.block i b) s M= @Cd X (fr.bk i) b s M:=id rfl
@[simp] theorem Cd_cond (c:CO) (a b:CC): @Cd X fr (.cond c a b) s M= @Br X fr (evD s c) a b s M:=id rfl
@[simp] theorem Cd_exit (i:Nat): @Cd X fr (.exit i) s M= @Ex X fr i s M:=id rfl
@[simp] theorem Cd_ret: @Cd X fr .ret s M=fr.K.ret s M:=by show(@kf X fr).ret s M=_;rw[KF_ret]
@[simp] theorem Cd_loop (L:List (List Bool)) (b:CC): @Cd X fr (.loop L b) s M=X.loop L b (@kf X fr) (zbM L s) M:=id rfl
@[simp] theorem Br_true (a b:CC): @Br X fr (some (.bool true)) a b s M= @Cd X fr a s M:=id rfl
@[simp] theorem Br_false (a b:CC): @Br X fr (some (.bool false)) a b s M= @Cd X fr b s M:=id rfl
theorem Br_bool (b:Bool) (a c:CC): @Br X fr (some (.bool b)) a c s M=if b=true then @Cd X fr a s M else @Cd X fr c s M:=by cases b<;>rfl
@[simp] theorem Nx_nil: @Nx X (.base K) s M=K.nrm s M:=id rfl
@[simp] theorem Nx_sq (L:List (List Bool)) (b:CC): @Nx X (fr.sq L b) s M= @Cd X fr b (zbM L s) M:=id rfl
@[simp] theorem Nx_bk (i:Nat): @Nx X (fr.bk i) s M= @Nx X fr s M:=id rfl
@[simp] theorem Ex_nil (i:Nat): @Ex X (.base K) i s M=K.ext i s M:=id rfl
@[simp] theorem Ex_sq (L:List (List Bool)) (b:CC) (i:Nat): @Ex X (fr.sq L b) i s M= @Ex X fr i s M:=id rfl
@[simp] theorem Ex_bk (i j:Nat): @Ex X (fr.bk i) j s M=if j=i then @Nx X fr s M else @Ex X fr j s M:=by
  show blkD i (@kf X fr) j s M=_
  unfold blkD
  by_cases h:j=i
  ·simp_all
  ·rw[if_neg h];cases e:Nat.beq j i with
   |true=>simp_all
   |false=>rfl
@[simp] theorem Op_nil: @Op X fr [] s M= @Nx X fr s M:=id rfl
@[simp] theorem Op_guard (op:COp) (g:List Bool×Bool): @Op X fr (⟨d,op,some g,lo⟩::r) s M= @Gd X fr (wantD (some g) s) d op lo r s M:=by
  show zhJ X _ s M _ _=_
  unfold zhJ Gd
  congr 1
theorem Gd_bool (b:Bool) (op:COp): @Gd X fr (some b) d op lo r s M=if b=true then @Op X fr (⟨d,op,none,lo⟩::r) s M else @Op X fr r (zV d (.tup []) s) M:=by cases b<;>rfl
@[simp] theorem Gd_true (op:COp): @Gd X fr (some true) d op lo r s M= @Op X fr (⟨d,op,none,lo⟩::r) s M:=id rfl
@[simp] theorem Gd_false (op:COp): @Gd X fr (some false) d op lo r s M= @Op X fr r (zV d (.tup []) s) M:=id rfl
@[simp] theorem Rs_some (v:DV) (M':VM): @Rs X fr (some (v,M')) d r s= @Op X fr r (zV d v s) M':=id rfl
@[simp] theorem CK_eq (v:DV): @CK X fr d r s v M= @Op X fr r (zV d v s) M:=id rfl
@[simp] theorem PK_eq (v:DV): @PK fr s v M=fr.K.pan v s M:=id rfl
@[simp] theorem Ca_some (f:DV) (as:List DV): @Ca X fr (some f) (some as) d r s M=X.call f as M (@CK X fr d r s) (@PK fr s):=id rfl
@[simp] theorem Op_call (f:CO) (as:List CO): @Op X fr (⟨d,.call f as,none,lo⟩::r) s M= @Ca X fr (evD s f) (evDL s as) d r s M:=by
  show ofD _ _=ofD _ _
  unfold PK CK Op
  rw[KF_pan]
@[simp] theorem Op_panic (x:CO): @Op X fr (⟨d,.panic x,none,lo⟩::r) s M= @Pn fr (evD s x) s M:=by
  show ofD _ _=ofD _ _
  rw[KF_pan];rfl
@[simp] theorem Pn_ifc (t:Nat) (v:DV): @Pn fr (some (.ifc t v)) s M=fr.K.pan (.ifc t v) s M:=id rfl
@[simp] theorem Op_mv (x:CO): @Op X fr (⟨d,.mv x,none,lo⟩::r) s M= @Rs X fr (opD (.mv x) s M) d r s:=id rfl
@[simp] theorem Op_pick (c a b:CO): @Op X fr (⟨d,.pick c a b,none,lo⟩::r) s M= @Rs X fr (opD (.pick c a b) s M) d r s:=id rfl
@[simp] theorem Op_build (z:List Value) (ps:List (Nat×Nat×CO)): @Op X fr (⟨d,.build z ps,none,lo⟩::r) s M= @Rs X fr (opD (.build z ps) s M) d r s:=id rfl
@[simp] theorem Op_load1 (a:CO): @Op X fr (⟨d,.load1 a,none,lo⟩::r) s M= @Rs X fr (opD (.load1 a) s M) d r s:=id rfl
@[simp] theorem Op_loadN (n:Nat) (a:CO): @Op X fr (⟨d,.loadN n a,none,lo⟩::r) s M= @Rs X fr (opD (.loadN n a) s M) d r s:=id rfl
@[simp] theorem Op_store (n:Nat) (a x:CO): @Op X fr (⟨d,.store n a x,none,lo⟩::r) s M= @Rs X fr (opD (.store n a x) s M) d r s:=id rfl
@[simp] theorem Op_nilc (x:CO): @Op X fr (⟨d,.nilCheck x,none,lo⟩::r) s M= @Rs X fr (opD (.nilCheck x) s M) d r s:=id rfl
@[simp] theorem Op_bin (op:BinOp) (ek:EK) (x y:CO): @Op X fr (⟨d,.bin op ek x y,none,lo⟩::r) s M= @Rs X fr (opD (.bin op ek x y) s M) d r s:=id rfl
@[simp] theorem Op_un (op:UnOp) (x:CO): @Op X fr (⟨d,.un op x,none,lo⟩::r) s M= @Rs X fr (opD (.un op x) s M) d r s:=id rfl
@[simp] theorem Op_makeFunc (g:Fn) (a b:List CO): @Op X fr (⟨d,.makeFunc g a b,none,lo⟩::r) s M= @Rs X fr (opD (.makeFunc g a b) s M) d r s:=id rfl
@[simp] theorem Op_fieldAddr (n:Nat) (x:CO): @Op X fr (⟨d,.fieldAddr n x,none,lo⟩::r) s M= @Rs X fr (opD (.fieldAddr n x) s M) d r s:=id rfl
@[simp] theorem Op_indexAddr (n:Nat) (x i:CO): @Op X fr (⟨d,.indexAddr n x i,none,lo⟩::r) s M= @Rs X fr (opD (.indexAddr n x i) s M) d r s:=id rfl
@[simp] theorem Op_lookup (kk:KK) (z:Value) (ok:Bool) (x i:CO): @Op X fr (⟨d,.lookup kk z ok x i,none,lo⟩::r) s M= @Rs X fr (opD (.lookup kk z ok x i) s M) d r s:=id rfl
@[simp] theorem Op_mapUpdate (kk:KK) (m i x:CO): @Op X fr (⟨d,.mapUpdate kk m i x,none,lo⟩::r) s M= @Rs X fr (opD (.mapUpdate kk m i x) s M) d r s:=id rfl
@[simp] theorem Op_extract (x:CO) (i:Nat): @Op X fr (⟨d,.extract x i,none,lo⟩::r) s M= @Rs X fr (opD (.extract x i) s M) d r s:=id rfl
@[simp] theorem Op_strIdx (x i:CO): @Op X fr (⟨d,.strIdx x i,none,lo⟩::r) s M= @Rs X fr (opD (.strIdx x i) s M) d r s:=id rfl
@[simp] theorem Op_mkI (t:TypeId) (x:CO): @Op X fr (⟨d,.mkI t x,none,lo⟩::r) s M= @Rs X fr (opD (.mkI t x) s M) d r s:=id rfl
@[simp] theorem Op_assertT (t:TypeId) (z:Value) (ok:Bool) (x:CO): @Op X fr (⟨d,.assertT t z ok x,none,lo⟩::r) s M= @Rs X fr (opD (.assertT t z ok x) s M) d r s:=id rfl
@[simp] theorem Op_box (x:CO): @Op X fr (⟨d,.box x,none,lo⟩::r) s M= @Rs X fr (opD (.box x) s M) d r s:=id rfl
@[simp] theorem Op_alloc (z:List Value): @Op X fr (⟨d,.alloc z,none,lo⟩::r) s M= @Rs X fr (opD (.alloc z) s M) d r s:=id rfl
@[simp] theorem Op_makeMap: @Op X fr (⟨d,.makeMap,none,lo⟩::r) s M= @Rs X fr (opD (.makeMap) s M) d r s:=id rfl
@[simp] theorem Op_makeSlice (n b:Nat) (z:List Value) (l c:CO): @Op X fr (⟨d,.makeSlice n b z l c,none,lo⟩::r) s M= @Rs X fr (opD (.makeSlice n b z l c) s M) d r s:=id rfl
@[simp] theorem Op_buildSlice (len size:Nat) (z:List Value) (ps:List (Nat×CO)): @Op X fr (⟨d,.buildSlice len size z ps,none,lo⟩::r) s M= @Rs X fr (opD (.buildSlice len size z ps) s M) d r s:=id rfl
@[simp] theorem Op_blt (b:CB) (as:List CO): @Op X fr (⟨d,.blt b as,none,lo⟩::r) s M= @Rs X fr (opD (.blt b as) s M) d r s:=id rfl
end
section
variable (X:RnD) [fr:FrC]
def Dr (l:List CI) (bs:List Mo) (s:DS) (M:VM):Prop:=zc4 X l bs s M (@kf X fr).nrm fun v M=>fr.K.pan v [] M
def DP (l:List CI) (bs:List Mo) (s:DS) (M:VM) (v:DV) (M':VM):Prop:=wSurv X l bs s M∧fr.K.pan v [] M'
def DW (d:Option (List Bool)) (l:List CI) (bs:List Mo) (s:DS) (v:DV) (M:VM):Prop:= @Dr X fr l (⟨zhg bs,M,[]⟩::bs.map (zcc d)) (zV d v s) M
def DrW (o:RD) (d:Option (List Bool)) (l:List CI) (bs:List Mo) (s:DS):Prop:=okD o (@DW X fr d l bs s)
def DrC (f:Option DV) (as:Option (List DV)) (d:Option (List Bool)) (l:List CI) (bs:List Mo) (s:DS) (M:VM):Prop:=ofD f fun f=>ofD as fun a=>X.call f a M (@DW X fr d l bs s) (@DP X fr l bs s M)
def DrF (o:RD) (ns:List (List Bool)) (d:Option (List Bool)) (l:List CI) (bs:List Mo) (s:DS):Prop:=okD o fun v M=> @Dr X fr l (bs.map (zhe ns d)) (zV d v s) M
def DrA (o:RD) (d:Option (List Bool)) (l:List CI) (bs:List Mo) (s:DS):Prop:=okD o fun v M=> @Dr X fr l (bs.map (zcc d)) (zV d v s) M
def DrR (op:COp) (o:RD) (rs:List Nat) (ns:List (List Bool)) (d:Option (List Bool)) (lo:Nat) (l:List CI) (bs:List Mo) (s:DS) (M:VM):Prop:=match bs with
 | []=>False
 |x::r=>okD o fun v _=>(rdAt rs ns M x∨rdAlt op ns s v x)∧rdOk op rs ns s v M lo r∧zjy (x::r) v=true∧ @Dr X fr l (x::ziO lo d r) (zV d v s) M
def DrG (g:Option Bool) (o:CI) (l:List CI) (bs:List Mo) (s:DS) (M:VM):Prop:=ofD g fun b=>match b with
 |true=> @Dr X fr (⟨o.dst,o.op,none,o.lo⟩::l) bs s M
 |false=>if isW o.op=true then @DW X fr o.dst l bs s (.tup []) M else if isRd o.op=true then @Dr X fr l (bs.map (zhe (zf o.op) o.dst)) (zV o.dst (.tup []) s) M else if isFl o.op=true then @Dr X fr l (bs.map (zhe (zf o.op) o.dst)) (zV o.dst (.tup []) s) M else @Dr X fr l (bs.map (zcc o.dst)) (zV o.dst (.tup []) s) M
end
section
variable {X:RnD} {fr:FrC} {K:KD} {s:DS} {M:VM} {d:Option (List Bool)} {l:List CI} {lo:Nat} {bs:List Mo}
@[simp] theorem Cd_draw (l:List CI): @Cd X fr (.draw l) s M= @Dr X fr l [⟨0,M,[]⟩] s M:=by
  show zc4 X l _ s M (@kf X fr).nrm (fun v M=>(@kf X fr).pan v [] M)=zc4 X l _ s M (@kf X fr).nrm fun v M=>fr.K.pan v [] M
  rw[KF_pan]
@[simp] theorem Dr_nil: @Dr X fr [] bs s M= @Nx X fr s M:=id rfl
@[simp] theorem DW_eq (v:DV): @DW X fr d l bs s v M= @Dr X fr l (⟨zhg bs,M,[]⟩::bs.map (zcc d)) (zV d v s) M:=id rfl
@[simp] theorem DrW_some (v:DV) (M':VM): @DrW X fr (some (v,M')) d l bs s= @Dr X fr l (⟨zhg bs,M',[]⟩::bs.map (zcc d)) (zV d v s) M':=id rfl
@[simp] theorem DrC_some (f:DV) (as:List DV): @DrC X fr (some f) (some as) d l bs s M=X.call f as M (@DW X fr d l bs s) (@DP X fr l bs s M):=id rfl
@[simp] theorem DrF_some (ns:List (List Bool)) (v:DV) (M':VM): @DrF X fr (some (v,M')) ns d l bs s= @Dr X fr l (bs.map (zhe ns d)) (zV d v s) M':=id rfl
@[simp] theorem DrA_some (v:DV) (M':VM): @DrA X fr (some (v,M')) d l bs s= @Dr X fr l (bs.map (zcc d)) (zV d v s) M':=id rfl
@[simp] theorem DrR_some (op:COp) (v:DV) (M':VM) (rs:List Nat) (ns:List (List Bool)) (x:Mo) (r:List Mo): @DrR X fr op (some (v,M')) rs ns d lo l (x::r) s M=((rdAt rs ns M x∨rdAlt op ns s v x)∧rdOk op rs ns s v M lo r∧zjy (x::r) v=true∧ @Dr X fr l (x::ziO lo d r) (zV d v s) M):=id rfl
theorem DrG_bool (b:Bool) (o:CI): @DrG X fr (some b) o l bs s M=if b=true then @DrG X fr (some true) o l bs s M else @DrG X fr (some false) o l bs s M:=by grind
@[simp] theorem DrG_true (o:CI): @DrG X fr (some true) o l bs s M= @Dr X fr (⟨o.dst,o.op,none,o.lo⟩::l) bs s M:=id rfl
@[simp] theorem DrG_false (o:CI): @DrG X fr (some false) o l bs s M=if isW o.op=true then @DW X fr o.dst l bs s (.tup []) M else if isRd o.op=true then @Dr X fr l (bs.map (zhe (zf o.op) o.dst)) (zV o.dst (.tup []) s) M else if isFl o.op=true then @Dr X fr l (bs.map (zhe (zf o.op) o.dst)) (zV o.dst (.tup []) s) M else @Dr X fr l (bs.map (zcc o.dst)) (zV o.dst (.tup []) s) M:=id rfl
@[simp] theorem Dr_guard (op:COp) (g:List Bool×Bool): @Dr X fr (⟨d,op,some g,lo⟩::l) bs s M= @DrG X fr (wantD (some g) s) ⟨d,op,some g,lo⟩ l bs s M:=by
  unfold Dr
  conv=>lhs;unfold zc4
  cases hw:isW op with
  |true=>
   show zhJ X _ s M _ _=_
   unfold zhJ DrG
   dsimp only
   congr 1;funext b
   cases b with
   |true=>show _= @Dr X fr _ _ _ _;unfold Dr;(conv=>rhs;unfold zc4;rw[hw]);rfl
   |false=>dsimp only;rw[hw];rfl
  |false=>
   cases hr:isRd op with
   |true=>
    unfold DrG
    dsimp only
    congr 1;funext b
    cases b with
    |true=>show _= @Dr X fr _ _ _ _;unfold Dr;(conv=>rhs;unfold zc4;rw[hw,hr]);rfl
    |false=>dsimp only;rw[hw,hr];rfl
   |false=>
    cases hf:isFl op with
    |true=>
     show zhJ X _ s M _ _=_
     unfold zhJ DrG
     dsimp only
     congr 1;funext b
     cases b with
     |true=>show _= @Dr X fr _ _ _ _;unfold Dr;(conv=>rhs;unfold zc4;rw[hw,hr,hf]);rfl
     |false=>dsimp only;rw[hw,hr,hf];rfl
    |false=>
     show zhJ X _ s M _ _=_
     unfold zhJ DrG
     dsimp only
     congr 1;funext b
     cases b with
     |true=>show _= @Dr X fr _ _ _ _;unfold Dr;(conv=>rhs;unfold zc4;rw[hw,hr,hf]);rfl
     |false=>dsimp only;rw[hw,hr,hf];rfl
@[simp] theorem Dr_call (f:CO) (as:List CO): @Dr X fr (⟨d,.call f as,none,lo⟩::l) bs s M= @DrC X fr (evD s f) (evDL s as) d l bs s M:=id rfl
@[simp] theorem Dr_mv (x:CO): @Dr X fr (⟨d,.mv x,none,lo⟩::l) bs s M= @DrF X fr (opD (.mv x) s M) (zf (.mv x)) d l bs s:=id rfl
@[simp] theorem Dr_pick (c a b:CO): @Dr X fr (⟨d,.pick c a b,none,lo⟩::l) bs s M= @DrF X fr (opD (.pick c a b) s M) (zf (.pick c a b)) d l bs s:=id rfl
@[simp] theorem Dr_build (z:List Value) (ps:List (Nat×Nat×CO)): @Dr X fr (⟨d,.build z ps,none,lo⟩::l) bs s M= @DrF X fr (opD (.build z ps) s M) (zf (.build z ps)) d l bs s:=id rfl
@[simp] theorem Dr_load1 (a:CO): @Dr X fr (⟨d,.load1 a,none,lo⟩::l) bs s M= @DrR X fr (.load1 a) (opD (.load1 a) s M) (zcL s (.load1 a)) (zf (.load1 a)) d lo l bs s M:=by cases bs<;>rfl
@[simp] theorem Dr_loadN (n:Nat) (a:CO): @Dr X fr (⟨d,.loadN n a,none,lo⟩::l) bs s M= @DrR X fr (.loadN n a) (opD (.loadN n a) s M) (zcL s (.loadN n a)) (zf (.loadN n a)) d lo l bs s M:=by cases bs<;>rfl
@[simp] theorem Dr_store (n:Nat) (a x:CO): @Dr X fr (⟨d,.store n a x,none,lo⟩::l) bs s M= @DrW X fr (opD (.store n a x) s M) d l bs s:=id rfl
@[simp] theorem Dr_nilc (x:CO): @Dr X fr (⟨d,.nilCheck x,none,lo⟩::l) bs s M= @DrF X fr (opD (.nilCheck x) s M) (zf (.nilCheck x)) d l bs s:=id rfl
@[simp] theorem Dr_bin (op:BinOp) (ek:EK) (x y:CO): @Dr X fr (⟨d,.bin op ek x y,none,lo⟩::l) bs s M= @DrF X fr (opD (.bin op ek x y) s M) (zf (.bin op ek x y)) d l bs s:=id rfl
@[simp] theorem Dr_un (op:UnOp) (x:CO): @Dr X fr (⟨d,.un op x,none,lo⟩::l) bs s M= @DrF X fr (opD (.un op x) s M) (zf (.un op x)) d l bs s:=id rfl
@[simp] theorem Dr_slice (n:Nat) (x:CO) (lo' hi:Option CO): @Dr X fr (⟨d,.slice n x lo' hi,none,lo⟩::l) bs s M= @DrR X fr (.slice n x lo' hi) (opD (.slice n x lo' hi) s M) (zcL s (.slice n x lo' hi)) (zf (.slice n x lo' hi)) d lo l bs s M:=by cases bs<;>rfl
@[simp] theorem Dr_fieldAddr (n:Nat) (x:CO): @Dr X fr (⟨d,.fieldAddr n x,none,lo⟩::l) bs s M= @DrF X fr (opD (.fieldAddr n x) s M) (zf (.fieldAddr n x)) d l bs s:=id rfl
@[simp] theorem Dr_indexAddr (n:Nat) (x i:CO): @Dr X fr (⟨d,.indexAddr n x i,none,lo⟩::l) bs s M= @DrF X fr (opD (.indexAddr n x i) s M) (zf (.indexAddr n x i)) d l bs s:=id rfl
@[simp] theorem Dr_box (x:CO): @Dr X fr (⟨d,.box x,none,lo⟩::l) bs s M= @DrA X fr (opD (.box x) s M) d l bs s:=id rfl
@[simp] theorem Dr_alloc (z:List Value): @Dr X fr (⟨d,.alloc z,none,lo⟩::l) bs s M= @DrA X fr (opD (.alloc z) s M) d l bs s:=id rfl
@[simp] theorem Dr_makeSlice (n b:Nat) (z:List Value) (l' c:CO): @Dr X fr (⟨d,.makeSlice n b z l' c,none,lo⟩::l) bs s M= @DrA X fr (opD (.makeSlice n b z l' c) s M) d l bs s:=id rfl
@[simp] theorem Dr_buildSlice (len size:Nat) (z:List Value) (ps:List (Nat×CO)): @Dr X fr (⟨d,.buildSlice len size z ps,none,lo⟩::l) bs s M= @DrA X fr (opD (.buildSlice len size z ps) s M) d l bs s:=id rfl
@[simp] theorem Dr_append (s' b:Nat) (as:List CO): @Dr X fr (⟨d,.blt (.append s' b) as,none,lo⟩::l) bs s M= @DrW X fr (opD (.blt (.append s' b) as) s M) d l bs s:=id rfl
@[simp] theorem Dr_len (as:List CO): @Dr X fr (⟨d,.blt .len as,none,lo⟩::l) bs s M= @DrF X fr (opD (.blt .len as) s M) (zf (.blt .len as)) d l bs s:=id rfl
end
end
end Go.Ideal
namespace Go.Ideal
noncomputable section
attribute [simp] List.getElem?_cons_zero List.getElem?_cons_succ List.getElem?_eq_getElem
def rdV (M:VM):Option DV→RD
 |some d=>some (d,M)
 |none=>none
@[simp] theorem rdV_some (M:VM) (d:DV):rdV M (some d)=some (d,M):=id rfl
theorem zcA (M:VM) (o:Option DV):o.map (fun d=>(d,M))=rdV M o:=by cases o<;>rfl
def rowO (M:VM):Option DV→Option (List DV)
 |some d=>zc7 M d
 |none=>none
def rowI (off:Nat):Option (List DV)→Option (List DV)
 |some r=>some (r.drop off)
 |none=>none
def rowJ (i off:Nat):Option MO→Option (List DV)
 |some (.rows _ _ rs)=>rowI off (rs[i]?)
 |_=>none
@[simp] theorem rowO_some (M:VM) (d:DV):rowO M (some d)=zc7 M d:=id rfl
@[simp] theorem rowI_some (off:Nat) (r:List DV):rowI off (some r)=some (r.drop off):=id rfl
@[simp] theorem rowJ_some (i off:Nat) (op:Bool) (sz:Nat) (rs:List (List DV)):rowJ i off (some (.rows op sz rs))=rowI off (rs[i]?):=id rfl
@[simp] theorem rowOf_ptr (M:VM) (j i off:Nat):zc7 M (.ptr j i off)=rowJ i off (M.obj j):=by
  show(M.obj j).bind _=_
  cases M.obj j with
  |none=>rfl
  |some o=>cases o<;>first|rfl| (show(Option.map _ _)=rowI off _;rename_i rs;cases rs[i]?<;>rfl)
@[simp] theorem rowOf_pl (M:VM) (s:Nat) (rows:List (List DV)) (i off:Nat):zc7 M (.pl s rows i off)=rowI off (rows[i]?):=by
  show(Option.map _ _)=rowI off _;cases rows[i]?<;>rfl
def ld1:Option (List DV)→Option DV
 |some r=>oneD r
 |none=>none
def ldN (n:Nat):Option (List DV)→Option DV
 |some r=>(zbJ n r).map .agg
 |none=>none
@[simp] theorem ld1_some (r:List DV):ld1 (some r)=oneD r:=id rfl
@[simp] theorem ldN_some (n:Nat) (r:List DV):ldN n (some r)=(zbJ n r).map .agg:=id rfl
@[simp] theorem oneD_cons (v:DV) (r:List DV):oneD (v::r)=some v:=id rfl
@[simp] theorem takeD_zero (l:List DV):zbJ 0 l=some []:=by cases l<;>rfl
@[simp] theorem takeD_succ (n:Nat) (v:DV) (r:List DV):zbJ (n+1) (v::r)=(zbJ n r).map (v:: ·):=id rfl
def f1 (f:DV→Option DV):Option DV→Option DV
 |some d=>f d
 |none=>none
@[simp] theorem f1_some (f:DV→Option DV) (d:DV):f1 f (some d)=f d:=id rfl
def f2 (f:DV→DV→Option DV):Option DV→Option DV→Option DV
 |some a,some b=>f a b
 |_,_=>none
@[simp] theorem f2_some (f:DV→DV→Option DV) (a b:DV):f2 f (some a) (some b)=f a b:=id rfl
def pkO:Option DV→Option DV→Option DV→Option DV
 |some c,a,b=>pickD a b c
 |none,_,_=>none
@[simp] theorem pkO_true (a b:Option DV):pkO (some (.bool true)) a b=a:=id rfl
@[simp] theorem pkO_false (a b:Option DV):pkO (some (.bool false)) a b=b:=id rfl
def stW (M:VM) (j i:Nat) (op:Bool) (sz:Nat) (rs:List (List DV)):Option (List DV)→Option VM
 |some r=>some (M.put j (.rows op sz (rs.set i r)))
 |none=>none
def stI (n:Nat) (M:VM) (xs:List DV) (j i off:Nat) (op:Bool) (sz:Nat) (rs:List (List DV)):Option (List DV)→Option VM
 |some r=>if xs.length=n∧0<n∧xs.all zt=true then stW M j i op sz rs (zK r off xs) else none
 |none=>none
def stJ (n:Nat) (M:VM) (xs:List DV) (j i off:Nat):Option MO→Option VM
 |some (.rows op sz rs)=>stI n M xs j i off op sz rs (rs[i]?)
 |_=>none
@[simp] theorem stW_some (M:VM) (j i:Nat) (op:Bool) (sz:Nat) (rs:List (List DV)) (r:List DV):stW M j i op sz rs (some r)=some (M.put j (.rows op sz (rs.set i r))):=id rfl
@[simp] theorem stI_some (n:Nat) (M:VM) (xs:List DV) (j i off:Nat) (op:Bool) (sz:Nat) (rs:List (List DV)) (r:List DV):stI n M xs j i off op sz rs (some r)=if xs.length=n∧0<n∧xs.all zt=true then stW M j i op sz rs (zK r off xs) else none:=id rfl
@[simp] theorem stJ_some (n:Nat) (M:VM) (xs:List DV) (j i off:Nat) (op:Bool) (sz:Nat) (rs:List (List DV)):stJ n M xs j i off (some (.rows op sz rs))=stI n M xs j i off op sz rs (rs[i]?):=id rfl
@[simp] theorem storeD_ptr (n:Nat) (M:VM) (x:DV) (j i off:Nat):zfm n M x (.ptr j i off)=stJ n M (zr x) j i off (M.obj j):=by
  show(M.obj j).bind _=_
  cases M.obj j with
  |none=>rfl
  |some o=>cases o with
   |rows op sz rs=>
    show(rs[i]?).bind _=stI n M (zr x) j i off op sz rs (rs[i]?)
    cases rs[i]? with
    |none=>rfl
    |some r=>
     show(if _ then _ else _)=(if _ then _ else _)
     congr 1
     cases zK r off (zr x)<;>rfl
   |_=>rfl
def stR:Option VM→RD
 |some M=>some (.tup [],M)
 |none=>none
@[simp] theorem stR_some (M:VM):stR (some M)=some (.tup [],M):=id rfl
def stO (n:Nat) (M:VM):Option DV→Option DV→RD
 |some a,some x=>stR (zfm n M x a)
 |_,_=>none
@[simp] theorem stO_some (n:Nat) (M:VM) (a x:DV):stO n M (some a) (some x)=stR (zfm n M x a):=id rfl
def bxO (M:VM):Option DV→RD
 |some v=>some (.ptr M.next 0 0,M.new (.rows false (zr v).length [zr v]))
 |none=>none
@[simp] theorem bxO_some (M:VM) (v:DV):bxO M (some v)=some (.ptr M.next 0 0,M.new (.rows false (zr v).length [zr v])):=id rfl
def alO (M:VM):Option (List DV)→RD
 |some z=>some (.ptr M.next 0 0,M.new (.rows false z.length [z]))
 |none=>none
@[simp] theorem alO_some (M:VM) (z:List DV):alO M (some z)=some (.ptr M.next 0 0,M.new (.rows false z.length [z])):=id rfl
def bdO:Option (List DV)→Option (List (Nat×Nat×DV))→Option DV
 |some z,some l=>(zia z l).map .agg
 |_,_=>none
@[simp] theorem bdO_some (z:List DV) (l:List (Nat×Nat×DV)):bdO (some z) (some l)=(zia z l).map .agg:=id rfl
def msR (M:VM) (len size:Nat):Option (List (List DV))→RD
 |some rows=>some (.ms M.next 0 len len,M.new (.rows false size rows))
 |none=>none
@[simp] theorem msR_some (M:VM) (len size:Nat) (rows:List (List DV)):msR M len size (some rows)=some (.ms M.next 0 len len,M.new (.rows false size rows)):=id rfl
def bsO (M:VM) (len size:Nat):Option (List DV)→Option (List (Nat×DV))→RD
 |some z,some l=>if z.length=size∧len<zc then msR M len size (zcQ size (List.replicate len z) l) else none
 |_,_=>none
@[simp] theorem bsO_some (M:VM) (len size:Nat) (z:List DV) (l:List (Nat×DV)):bsO M len size (some z) (some l)=if z.length=size∧len<zc then msR M len size (zcQ size (List.replicate len z) l) else none:=id rfl
def mkO (b:Nat) (M:VM):Option DV→Option DV→Option (List DV)→RD
 |some l,some c,some z=>zde b z M l c
 |_,_,_=>none
@[simp] theorem mkO_some (b:Nat) (M:VM) (l c:DV) (z:List DV):mkO b M (some l) (some c) (some z)=zde b z M l c:=id rfl
def fnO (g:Fn) (M:VM):Option (List DV)→Option (List DV)→RD
 |some a,some b=>match g with|.func g=>some (.fn g a b,M)|_=>none
 |_,_=>none
@[simp] theorem fnO_some (g:Nat) (M:VM) (a b:List DV):fnO (.func g) M (some a) (some b)=some (.fn g a b,M):=id rfl
def slO (n:Nat) (M:VM):Option DV→Option (Option DV)→Option (Option DV)→Option DV
 |some v,some lo,some hi=>sliceD n M lo hi v
 |_,_,_=>none
@[simp] theorem slO_some (n:Nat) (M:VM) (v:DV) (lo hi:Option DV):slO n M (some v) (some lo) (some hi)=sliceD n M lo hi v:=id rfl
def lkE (kk:KK) (z:DV) (ok:Bool) (k:DV):Option (List (DV×DV))→Option DV
 |some es=>match zbd kk k k with|some _=>(zgO kk k es).map (zdp z ok)|none=>none
 |none=>none
def lkO (kk:KK) (ok:Bool) (M:VM):Option DV→Option DV→Option DV→Option DV
 |some m,some k,some z=>lkE kk z ok k (zbe M m)
 |_,_,_=>none
@[simp] theorem lkO_some (kk:KK) (ok:Bool) (M:VM) (m k z:DV):lkO kk ok M (some m) (some k) (some z)=lkE kk z ok k (zbe M m):=id rfl
def muO (kk:KK) (M:VM):Option DV→Option DV→Option DV→RD
 |some m,some k,some x=>stR (updD kk M k x m)
 |_,_,_=>none
@[simp] theorem muO_some (kk:KK) (M:VM) (m k x:DV):muO kk M (some m) (some k) (some x)=stR (updD kk M k x m):=id rfl
def exV (i:Nat):DV→Option DV
 |.tup l=>l[i]?
 |_=>none
@[simp] theorem exV_tup (i:Nat) (l:List DV):exV i (.tup l)=l[i]?:=id rfl
def asO (t:TypeId) (ok:Bool):Option DV→Option DV→Option DV
 |some v,some z=>zcj t z ok v
 |_,_=>none
@[simp] theorem asO_some (t:TypeId) (ok:Bool) (v z:DV):asO t ok (some v) (some z)=zcj t z ok v:=id rfl
def blO (b:CB) (M:VM):Option (List DV)→RD
 |some l=>bltD M b l
 |none=>none
@[simp] theorem blO_some (b:CB) (M:VM) (l:List DV):blO b M (some l)=bltD M b l:=id rfl
def ifV (t:TypeId) (d:DV):Option DV:=some (.ifc t d)
@[simp] theorem ifV_eq (t:TypeId) (d:DV):ifV t d=some (.ifc t d):=id rfl
section
variable {s:DS} {M:VM}
@[simp] theorem opD_mv (x:CO):opD (.mv x) s M=rdV M (evD s x):=zcA _ _
@[simp] theorem opD_pick (c a b:CO):opD (.pick c a b) s M=rdV M (pkO (evD s c) (evD s a) (evD s b)):=by
  show(evD s c).bind _=_;cases evD s c<;>first|rfl|exact zcA _ _
@[simp] theorem opD_build (z:List Value) (ps:List (Nat×Nat×CO)):opD (.build z ps) s M=rdV M (bdO (dOfL z) (zhc s ps)):=by
  show(dOfL z).bind _=_
  cases dOfL z with
  |none=>rfl
  |some z=>show(zhc s ps).bind _=_;cases zhc s ps with
   |none=>rfl
   |some l=>show(zia z l).map _=rdV M ((zia z l).map .agg);cases zia z l<;>rfl
@[simp] theorem opD_load1 (a:CO):opD (.load1 a) s M=rdV M (ld1 (rowO M (evD s a))):=by
  show(evD s a).bind _=_
  cases evD s a with
  |none=>rfl
  |some a=>show(zc7 M a).bind _=rdV M (ld1 (zc7 M a));cases zc7 M a with
   |none=>rfl
   |some r=>exact zcA _ _
@[simp] theorem opD_loadN (n:Nat) (a:CO):opD (.loadN n a) s M=rdV M (ldN n (rowO M (evD s a))):=by
  show(evD s a).bind _=_
  cases evD s a with
  |none=>rfl
  |some a=>show(zc7 M a).bind _=rdV M (ldN n (zc7 M a));cases zc7 M a with
   |none=>rfl
   |some r=>show(zbJ n r).map _=rdV M ((zbJ n r).map .agg);cases zbJ n r<;>rfl
@[simp] theorem opD_store (n:Nat) (a x:CO):opD (.store n a x) s M=stO n M (evD s a) (evD s x):=by
  show(evD s a).bind _=_
  cases evD s a with
  |none=>rfl
  |some a=>show(evD s x).bind _=_;cases evD s x with
   |none=>rfl
   |some x=>show(zfm n M x a).map _=stR (zfm n M x a);cases zfm n M x a<;>rfl
@[simp] theorem opD_nil (x:CO):opD (.nilCheck x) s M=rdV M (f1 nilD (evD s x)):=by
  show(evD s x).bind _=_;cases evD s x<;>first|rfl|exact zcA _ _
@[simp] theorem opD_bin (op:BinOp) (ek:EK) (x y:CO):opD (.bin op ek x y) s M=rdV M (f2 (binD op ek) (evD s x) (evD s y)):=by
  show(evD s x).bind _=_
  cases evD s x with
  |none=>rfl
  |some a=>show(evD s y).bind _=_;cases evD s y<;>first|rfl|exact zcA _ _
@[simp] theorem opD_un (op:UnOp) (x:CO):opD (.un op x) s M=rdV M (f1 (unD op) (evD s x)):=by
  show(evD s x).bind _=_;cases evD s x<;>first|rfl|exact zcA _ _
@[simp] theorem opD_makeFunc (g:Fn) (a b:List CO):opD (.makeFunc g a b) s M=fnO g M (evDL s a) (evDL s b):=by
  cases g with
  |func g=>
   show(evDL s a).bind _=_
   cases evDL s a with
   |none=>rfl
   |some a=>show(evDL s b).map _=_;cases evDL s b<;>rfl
  |_=>unfold opD fnO;cases evDL s a<;>cases evDL s b<;>rfl
@[simp] theorem opD_slice (n:Nat) (x:CO) (lo hi:Option CO):opD (.slice n x lo hi) s M=rdV M (slO n M (evD s x) (evDO s lo) (evDO s hi)):=by
  show(evD s x).bind _=_
  cases evD s x with
  |none=>rfl
  |some v=>show(evDO s lo).bind _=_;cases evDO s lo with
   |none=>rfl
   |some lo=>show(evDO s hi).bind _=_;cases evDO s hi<;>first|rfl|exact zcA _ _
@[simp] theorem opD_fieldAddr (n:Nat) (x:CO):opD (.fieldAddr n x) s M=rdV M (f1 (offD n) (evD s x)):=by
  show(evD s x).bind _=_;cases evD s x<;>first|rfl|exact zcA _ _
@[simp] theorem opD_indexAddr (n:Nat) (x i:CO):opD (.indexAddr n x i) s M=rdV M (f2 (zkC n M) (evD s i) (evD s x)):=by
  show(evD s x).bind _=_
  cases evD s x with
  |none=>cases evD s i<;>rfl
  |some a=>show(evD s i).bind _=_;cases evD s i<;>first|rfl|exact zcA _ _
@[simp] theorem opD_lookup (kk:KK) (z:Value) (ok:Bool) (x i:CO):opD (.lookup kk z ok x i) s M=rdV M (lkO kk ok M (evD s x) (evD s i) (dOf z)):=by
  show(evD s x).bind _=_
  cases evD s x with
  |none=>rfl
  |some m=>show(evD s i).bind _=_;cases evD s i with
   |none=>rfl
   |some k=>show(dOf z).bind _=_;cases dOf z with
    |none=>rfl
    |some z=>
     show(zbd kk k k).bind _=rdV M (lkE kk z ok k (zbe M m))
     cases hk:zbd kk k k with
     |none=>cases zbe M m<;>simp[lkE,hk,rdV]
     |some b=>
      show(zbe M m).bind _=_
      cases zbe M m with
      |none=>rfl
      |some es=>
       simp only[lkE,hk]
       show(zgO kk k es).map _=rdV M ((zgO kk k es).map _)
       cases zgO kk k es<;>rfl
@[simp] theorem opD_mapUpdate (kk:KK) (m i x:CO):opD (.mapUpdate kk m i x) s M=muO kk M (evD s m) (evD s i) (evD s x):=by
  show(evD s m).bind _=_
  cases evD s m with
  |none=>rfl
  |some m=>show(evD s i).bind _=_;cases evD s i with
   |none=>rfl
   |some k=>show(evD s x).bind _=_;cases evD s x with
    |none=>rfl
    |some x=>show(updD kk M k x m).map _=stR (updD kk M k x m);cases updD kk M k x m<;>rfl
@[simp] theorem opD_extract (x:CO) (i:Nat):opD (.extract x i) s M=rdV M (f1 (exV i) (evD s x)):=by
  show(evD s x).bind _=_
  cases evD s x with
  |none=>rfl
  |some v=>cases v<;>first|rfl|exact zcA _ _
@[simp] theorem opD_strIdx (x i:CO):opD (.strIdx x i) s M=rdV M (f2 strIdxD (evD s x) (evD s i)):=by
  show(evD s x).bind _=_
  cases evD s x with
  |none=>rfl
  |some a=>show(evD s i).bind _=_;cases evD s i<;>first|rfl|exact zcA _ _
@[simp] theorem opD_mkI (t:TypeId) (x:CO):opD (.mkI t x) s M=rdV M (f1 (ifV t) (evD s x)):=by
  show(evD s x).map _=_;cases evD s x<;>rfl
@[simp] theorem opD_assertT (t:TypeId) (z:Value) (ok:Bool) (x:CO):opD (.assertT t z ok x) s M=rdV M (asO t ok (evD s x) (dOf z)):=by
  show(evD s x).bind _=_
  cases evD s x with
  |none=>rfl
  |some v=>show(dOf z).bind _=_;cases dOf z<;>first|rfl|exact zcA _ _
@[simp] theorem opD_box (x:CO):opD (.box x) s M=bxO M (evD s x):=by
  show(evD s x).map _=_;cases evD s x<;>rfl
@[simp] theorem opD_alloc (z:List Value):opD (.alloc z) s M=alO M (dOfL z):=by
  show(dOfL z).map _=_;cases dOfL z<;>rfl
@[simp] theorem opD_makeMap:opD .makeMap s M=some (.map M.next,M.new (.map [])):=id rfl
@[simp] theorem opD_makeSlice (n b:Nat) (z:List Value) (l c:CO):opD (.makeSlice n b z l c) s M=mkO b M (evD s l) (evD s c) (dOfL z):=by
  show(evD s l).bind _=_
  cases evD s l with
  |none=>rfl
  |some l=>show(evD s c).bind _=_;cases evD s c with
   |none=>rfl
   |some c=>show(dOfL z).bind _=_;cases dOfL z<;>rfl
@[simp] theorem opD_buildSlice (len size:Nat) (z:List Value) (ps:List (Nat×CO)):opD (.buildSlice len size z ps) s M=bsO M len size (dOfL z) (zeS s ps):=by
  show(dOfL z).bind _=_
  cases dOfL z with
  |none=>rfl
  |some z=>
   show(if z.length=size∧len<zc then(zeS s ps).bind _ else none)=_
   cases zeS s ps with
   |none=>split<;>rfl
   |some l=>
    show _=(if z.length=size∧len<zc then msR M len size (zcQ size (List.replicate len z) l) else none)
    split
    ·show(zcQ _ _ _).map _=_;cases zcQ size (List.replicate len z) l<;>rfl
    ·rfl
@[simp] theorem opD_blt (b:CB) (as:List CO):opD (.blt b as) s M=blO b M (evDL s as):=by
  show(evDL s as).bind _=_;cases evDL s as<;>rfl
@[simp] theorem getS_bits (m n:Nat) (d:DV) (s:DS):getS ((bits m,d)::s) (bits n)=if m=n then some d else getS s (bits n):=by
  rw[zet]
  by_cases h:m=n
  ·rw[if_pos h,if_pos (by rw[h])]
  ·rw[if_neg h,if_neg (fun e=>h (zf3 e))]
@[simp] theorem evD_t (n:Nat):evD s (.t (bits n))=getS s (bits n):=id rfl
@[simp] theorem evD_int (k:IntKind) (n:Int):evD s (.c (.int k n))=some (.int k n):=id rfl
@[simp] theorem evD_bool (b:Bool):evD s (.c (.bool b))=some (.bool b):=id rfl
@[simp] theorem evD_str (b:ByteArray):evD s (.c (.string b))=some (.str b):=id rfl
@[simp] theorem evD_fc (f:Nat):evD s (.c (.func (.func f) ⟨[]⟩ ⟨[]⟩))=some (.fn f [] []):=id rfl
@[simp] theorem evD_nilS:evD s (.c (.slice none 0 0))=some .nilS:=id rfl
@[simp] theorem evD_nilP:evD s (.c (.pointer none))=some .nilP:=id rfl
@[simp] theorem evD_nilM:evD s (.c (.map none))=some .nilM:=id rfl
@[simp] theorem evD_nilI:evD s (.c .nilIface)=some .nilI:=id rfl
@[simp] theorem dOf_bool (b:Bool):dOf (.bool b)=some (.bool b):=id rfl
@[simp] theorem dOf_agg (cs:List Value):dOf (.agg ⟨cs⟩)=(dOfL cs).map .agg:=id rfl
@[simp] theorem dOfL_nil:dOfL []=some []:=id rfl
@[simp] theorem dOfL_cons (v:Value) (r:List Value):dOfL (v::r)=(dOf1 v).bind fun d=>(dOfL r).map (d:: ·):=id rfl
@[simp] theorem dOf1_int (k:IntKind) (n:Int):dOf1 (.int k n)=some (.int k n):=id rfl
@[simp] theorem dOf1_bool (b:Bool):dOf1 (.bool b)=some (.bool b):=id rfl
@[simp] theorem dOf1_str (b:ByteArray):dOf1 (.string b)=some (.str b):=id rfl
@[simp] theorem dOf1_nilS:dOf1 (.slice none 0 0)=some .nilS:=id rfl
@[simp] theorem dOf1_nilF:dOf1 .nilFunc=some .nilF:=id rfl
def consO:Option DV→Option (List DV)→Option (List DV)
 |some d,some l=>some (d::l)
 |_,_=>none
@[simp] theorem consO_some (d:DV) (l:List DV):consO (some d) (some l)=some (d::l):=id rfl
@[simp] theorem evDL_nil:evDL s []=some []:=id rfl
@[simp] theorem evDL_cons (x:CO) (r:List CO):evDL s (x::r)=consO (evD s x) (evDL s r):=by
  show(evD s x).bind _=_;cases evD s x<;>cases evDL s r<;>rfl
@[simp] theorem evDO_none:evDO s none=some none:=id rfl
@[simp] theorem evDO_some (x:CO):evDO s (some x)=(evD s x).map some:=id rfl
@[simp] theorem partsD_nil:zhc s []=some []:=id rfl
@[simp] theorem partsD_cons (o n:Nat) (x:CO) (r:List (Nat×Nat×CO)):zhc s ((o,n,x)::r)=(evD s x).bind fun v=>(zhc s r).map ((o,n,v):: ·):=id rfl
@[simp] theorem partsSD_nil:zeS s []=some []:=id rfl
@[simp] theorem partsSD_cons (i:Nat) (x:CO) (r:List (Nat×CO)):zeS s ((i,x)::r)=(evD s x).bind fun v=>(zeS s r).map ((i,v):: ·):=id rfl
@[simp] theorem fillD_nil (z:List DV):zia z []=some z:=id rfl
def fillR (r:List (Nat×Nat×DV)):Option (List DV)→Option (List DV)
 |some c=>zia c r
 |none=>none
@[simp] theorem fillR_some (r:List (Nat×Nat×DV)) (c:List DV):fillR r (some c)=zia c r:=id rfl
@[simp] theorem fillD_cons (z:List DV) (o n:Nat) (v:DV) (r:List (Nat×Nat×DV)):zia z ((o,n,v)::r)=if(zr v).length=n∧0<n∧(zr v).all zt=true then fillR r (zK z o (zr v)) else none:=by
  show(if _ then(zK z o (zr v)).bind _ else none)=_
  congr 1;cases zK z o (zr v)<;>rfl
@[simp] theorem setRows_nil (n:Nat) (rows:List (List DV)):zcQ n rows []=some rows:=id rfl
@[simp] theorem setRows_cons (n:Nat) (rows:List (List DV)) (i:Nat) (v:DV) (r:List (Nat×DV)):zcQ n rows ((i,v)::r)=if(zr v).length=n∧0<n∧(zr v).all zt=true∧i<rows.length then zcQ n (rows.set i (zr v)) r else none:=id rfl
@[simp] theorem writeD_n (l:List DV) (o:Nat):zK l o []=some l:=zhI l o
@[simp] theorem writeD_0 (c:DV) (l:List DV) (v:DV) (vs:List DV):zK (c::l) 0 (v::vs)=(zK l 0 vs).map (v:: ·):=id rfl
@[simp] theorem writeD_s (c:DV) (l:List DV) (n:Nat) (v:DV) (vs:List DV):zK (c::l) (n+1) (v::vs)=(zK l n (v::vs)).map (c:: ·):=id rfl
@[simp] theorem putDD_some (p:List Bool) (v:DV):zV (some p) v s=(p,v)::s:=id rfl
@[simp] theorem putDD_none (v:DV):zV none v s=s:=id rfl
def kpL (p:List Bool) (r:DS):Option DV→DS
 |some d=>(p,d)::r
 |none=>r
@[simp] theorem kpL_some (p:List Bool) (r:DS) (d:DV):kpL p r (some d)=(p,d)::r:=id rfl
@[simp] theorem keepD_nil:zbM [] s=s:=id rfl
@[simp] theorem keepD_cons (p:List Bool) (L:List (List Bool)):zbM (p::L) s=zkS s (p::L):=id rfl
@[simp] theorem keepL_nil:zkS s []=[]:=id rfl
@[simp] theorem keepL_cons (p:List Bool) (L:List (List Bool)):zkS s (p::L)=kpL p (zkS s L) (getS s p):=by
  show(match getS s p with|some d=>_|none=>_)=_;cases getS s p<;>rfl
def wtB (w:Bool):Option DV→Option Bool
 |some (.bool b)=>some (b==w)
 |some (.tup _)=>some false
 |_=>none
@[simp] theorem wtB_bool (w b:Bool):wtB w (some (.bool b))=some (b==w):=id rfl
@[simp] theorem wtB_tup (w:Bool) (l:List DV):wtB w (some (.tup l))=some false:=id rfl
@[simp] theorem wantD_some (q:List Bool) (w:Bool):wantD (some (q,w)) s=wtB w (getS s q):=by
  show(getS s q).bind _=_
  cases getS s q with
  |none=>rfl
  |some d=>cases d<;>rfl
@[simp] theorem argsD_nil (i:Nat):argsD [] i s=s:=id rfl
@[simp] theorem argsD_cons (v:DV) (vs:List DV) (i:Nat):argsD (v::vs) i s=argsD vs (i+1) ((bits i,v)::s):=id rfl
def enO (k:DV→VM→Prop) (M:VM):Option (List DV)→Prop
 |some vs=>k (zjm vs) M
 |none=>False
@[simp] theorem enO_some (k:DV→VM→Prop) (M:VM) (vs:List DV):enO k M (some vs)=k (zjm vs) M:=id rfl
@[simp] theorem endD_eq (rs:List CR) (k:DV→VM→Prop):endD rs k s M=enO k M (resDL s M rs):=by
  unfold endD;cases resDL s M rs<;>rfl
@[simp] theorem resDL_nil:resDL s M []=some []:=id rfl
@[simp] theorem resDL_cons (r:CR) (rs:List CR):resDL s M (r::rs)=consO (resD s M r) (resDL s M rs):=by
  show(resD s M r).bind _=_;cases resD s M r<;>cases resDL s M rs<;>rfl
@[simp] theorem resD_tmp (p:List Bool):resD s M (.tmp p)=getS s p:=id rfl
@[simp] theorem resD_cell1 (p:List Bool):resD s M (.cell none p)=ld1 (rowO M (getS s p)):=by
  show(getS s p).bind _=_
  cases getS s p with
  |none=>rfl
  |some v=>show(zc7 M v).bind _=ld1 (zc7 M v);cases zc7 M v<;>rfl
@[simp] theorem resD_cellN (n:Nat) (p:List Bool):resD s M (.cell (some n) p)=ldN n (rowO M (getS s p)):=by
  show(getS s p).bind _=_
  cases getS s p with
  |none=>rfl
  |some v=>show(zc7 M v).bind _=ldN n (zc7 M v);cases zc7 M v<;>rfl
@[simp] theorem tupleD_one (v:DV):zjm [v]=v:=id rfl
@[simp] theorem tupleD_nil:zjm []=.tup []:=id rfl
@[simp] theorem tupleD_two (v u:DV) (l:List DV):zjm (v::u::l)=.tup (v::u::l):=id rfl
end
section
variable {M:VM}
@[simp] theorem new_next (o:MO):(M.new o).next=M.next+1:=id rfl
@[simp] theorem put_next (j:Nat) (o:MO):(M.put j o).next=M.next+1:=id rfl
@[simp] theorem del_next (j:Nat):(M.del j).next=M.next:=id rfl
@[simp low] theorem zbm (o:MO) (i:Nat):(M.new o).obj i=if i=M.next then some o else M.obj i:=by
  unfold VM.obj VM.new;dsimp only;by_cases h:i=M.next<;>simp[h]
@[simp low] theorem zj (o:MO) (j i:Nat):(M.put j o).obj i=if i=j then some o else M.obj i:=by
  unfold VM.obj VM.put;dsimp only;by_cases h:i=j<;>simp[h]
@[simp] theorem obj_new_eq (o:MO):(M.new o).obj M.next=some o:=by simp_all
@[simp] theorem obj_new_ne {o:MO} {i:Nat} (h:i≠M.next):(M.new o).obj i=M.obj i:=by simp_all
@[simp] theorem obj_put_eq (o:MO) (j:Nat):(M.put j o).obj j=some o:=by simp_all
@[simp] theorem obj_put_ne {o:MO} {j i:Nat} (h:i≠j):(M.put j o).obj i=M.obj i:=by simp_all
@[simp] theorem get_new_lt {o:MO} {i:Nat} (h:i<M.next):(M.new o).get i=M.get i:=by rw[get_new,if_neg (by omega)]
@[simp] theorem get_new_eq {o:MO}:(M.new o).get M.next=some (o,M.next):=by rw[get_new,if_pos rfl]
@[simp] theorem get_put_ne {j:Nat} {o:MO} {i:Nat} (h:i≠j):(M.put j o).get i=M.get i:=by rw[get_put,if_neg h]
@[simp] theorem get_put_eq {j:Nat} {o:MO}:(M.put j o).get j=some (o,M.next):=by rw[get_put,if_pos rfl]
@[simp] theorem get_del_ne {j:Nat} {i:Nat} (h:i≠j):(M.del j).get i=M.get i:=by rw[zj9,if_neg h]
@[simp] theorem get_del_eq {j:Nat}:(M.del j).get j=none:=by rw[zj9,if_pos rfl]
theorem zX {j:Nat} (o:MO) (h:j<M.next):(M.new o).obj j=M.obj j:=by grind [zbm]
@[simp] theorem offD_ptr (n j i o:Nat):offD n (.ptr j i o)=some (.ptr j i (o+n)):=id rfl
@[simp] theorem offD_pl (n s i o:Nat) (r:List (List DV)):offD n (.pl s r i o)=some (.pl s r i (o+n)):=id rfl
@[simp] theorem cellsD_agg (l:List DV):zr (.agg l)=l:=id rfl
@[simp] theorem cellsD_int (k:IntKind) (n:Int):zr (.int k n)=[.int k n]:=id rfl
@[simp] theorem cellsD_bool (b:Bool):zr (.bool b)=[.bool b]:=id rfl
@[simp] theorem cellsD_str (b:ByteArray):zr (.str b)=[.str b]:=id rfl
@[simp] theorem cellsD_lst (s:Nat) (r:List (List DV)):zr (.lst s r)=[.lst s r]:=id rfl
@[simp] theorem cellsD_ms (j lo len cap:Nat):zr (.ms j lo len cap)=[.ms j lo len cap]:=id rfl
@[simp] theorem cellsD_fn (g:Nat) (a c:List DV):zr (.fn g a c)=[.fn g a c]:=id rfl
@[simp] theorem isCellD_int (k:IntKind) (n:Int):zt (.int k n)=true:=id rfl
@[simp] theorem isCellD_bool (b:Bool):zt (.bool b)=true:=id rfl
@[simp] theorem isCellD_str (b:ByteArray):zt (.str b)=true:=id rfl
@[simp] theorem isCellD_lst (s:Nat) (r:List (List DV)):zt (.lst s r)=true:=id rfl
@[simp] theorem isCellD_ms (j lo len cap:Nat):zt (.ms j lo len cap)=true:=id rfl
@[simp] theorem isCellD_nilS:zt .nilS=true:=id rfl
@[simp] theorem isCellD_fn (g:Nat) (a c:List DV):zt (.fn g a c)=true:=id rfl
@[simp] theorem nilD_ptr (j i o:Nat):nilD (.ptr j i o)=some (.ptr j i o):=id rfl
@[simp] theorem lenD_lst (s:Nat) (r:List (List DV)):lenD M (.lst s r)=some r.length:=id rfl
@[simp] theorem lenD_ms (j lo len cap:Nat):lenD M (.ms j lo len cap)=some len:=id rfl
def lenI (M:VM):Option Nat→RD
 |some n=>some (.int .i64 (n:Int),M)
 |none=>none
@[simp] theorem lenI_some (n:Nat):lenI M (some n)=some (.int .i64 (n:Int),M):=id rfl
@[simp] theorem bltD_len (d:DV):bltD M .len [d]=lenI M (lenD M d):=by show(lenD M d).map _=_;cases lenD M d<;>rfl
def lenE (M:VM):Option (List (DV×DV))→RD
 |some es=>some (.int .i64 (es.length:Int),M)
 |none=>none
@[simp] theorem lenE_some (es:List (DV×DV)):lenE M (some es)=some (.int .i64 (es.length:Int),M):=id rfl
@[simp] theorem bltD_lenMap (d:DV):bltD M .lenMap [d]=lenE M (zbe M d):=by show(zbe M d).map _=_;cases zbe M d<;>rfl
@[simp] theorem bltD_lenStr (s:ByteArray):bltD M .lenStr [.str s]=some (.int .i64 s.size,M):=id rfl
@[simp] theorem bltD_max (v:DV) (r:List DV):bltD M .max (v::r)=rdV M (zcT true v r):=zcA _ _
@[simp] theorem minmaxD_max (k:IntKind) (a b:Int):zcT true (.int k a) [.int k b]=some (.int k (if a<b then b else a)):=by
  show(if k=k then some (DV.int k (match ltI a b with|true=>b|false=>a)) else none)=_
  rw[if_pos rfl,zej];by_cases h:a<b<;>simp[h]
def apN (n b:Nat) (M:VM) (x:DV):Option (List (List DV))→RD
 |some new=>if new.all (fun r=>r.all zt)=true then zbw n b M new x else none
 |none=>none
@[simp] theorem apN_some (n b:Nat) (x:DV) (new:List (List DV)):apN n b M x (some new)=if new.all (fun r=>r.all zt)=true then zbw n b M new x else none:=id rfl
theorem zks (n b:Nat) (s x:DV):bltD M (.append n b) [s,x]=if 0<n∧n<roE then apN n b M s (zbQ M n x) else none:=by
 show(if _ then(zbQ M n x).bind _ else none)=_
 congr 1;cases zbQ M n x<;>rfl
def elO (n lo len:Nat):Option MO→Option (List (List DV))
 |some (.rows _ sz rs)=>if sz=n∧lo+len≤rs.length then some ((rs.drop lo).take len) else none
 |_=>none
@[simp] theorem elO_some (n lo len:Nat) (op:Bool) (sz:Nat) (rs:List (List DV)):elO n lo len (some (.rows op sz rs))=if sz=n∧lo+len≤rs.length then some ((rs.drop lo).take len) else none:=id rfl
@[simp] theorem elemsD_ms (n j lo len cap:Nat):zgo M n (.ms j lo len cap)=elO n lo len (M.obj j):=by
  show(M.obj j).bind _=_
  cases M.obj j with
  |none=>rfl
  |some o=>cases o<;>rfl
@[simp] theorem appendedD_ms (n j lo len cap:Nat):zbQ M n (.ms j lo len cap)=elO n lo len (M.obj j):=elemsD_ms n j lo len cap
@[simp] theorem appendD_nilS (n b:Nat) (new:List (List DV)):zbw n b M new .nilS=if new=[] then some (.nilS,M) else if new.length*b≤1073741824 then some (.ms M.next 0 new.length zc,M.new (.rows true n new)) else none:=by
  unfold zbw;rfl
def apM (n:Nat) (M:VM) (new:List (List DV)) (j lo len cap:Nat):Option MO→RD
 |some o=>zc9 n M new j lo len cap o
 |none=>none
@[simp] theorem apM_some (n:Nat) (new:List (List DV)) (j lo len cap:Nat) (o:MO):apM n M new j lo len cap (some o)=zc9 n M new j lo len cap o:=id rfl
@[simp] theorem appendD_ms (n b:Nat) (new:List (List DV)) (j lo len cap:Nat):zbw n b M new (.ms j lo len cap)=if new=[] then some (.ms j lo len cap,M) else if(len+new.length)*b≤1073741824 then apM n M new j lo len cap (M.obj j) else none:=by
  unfold zbw
  by_cases h:new=[]
  ·grind
  ·rw[if_neg h,if_neg h]
   show(if _ then(M.obj j).bind _ else none)=_
   congr 1;cases M.obj j<;>rfl
theorem addrD_lst (s:Nat) (k:IntKind) (z:Int) (rows:List (List DV)):zkC s M (.int k z) (.lst s rows)=if 0≤z∧z.toNat<rows.length then some (.pl s rows z.toNat 0) else none:=by
 cases z with
 |ofNat i=>show(if s=s∧i<rows.length then _ else _)=_;simp
 |negSucc i=>show none=_;grind
@[simp] theorem zlJ (s:Nat) (k:IntKind) (i:Nat) (rows:List (List DV)):zkC s M (.int k (i:Int)) (.lst s rows)=if i<rows.length then some (.pl s rows i 0) else none:=by
  rw[addrD_lst];simp
@[simp] theorem addrD_lst0 (s:Nat) (k:IntKind) (rows:List (List DV)):zkC s M (.int k 0) (.lst s rows)=if 0<rows.length then some (.pl s rows 0 0) else none:=zlJ s k 0 rows
@[simp] theorem addrD_lst1 (s:Nat) (k:IntKind) (rows:List (List DV)):zkC s M (.int k 1) (.lst s rows)=if 1<rows.length then some (.pl s rows 1 0) else none:=zlJ s k 1 rows
def adO (n:Nat) (z:Int) (j lo len:Nat):Option MO→Option DV
 |some (.rows _ sz _)=>if sz=n∧0≤z∧z.toNat<len then some (.ptr j (lo+z.toNat) 0) else none
 |_=>none
@[simp] theorem adO_some (n:Nat) (z:Int) (j lo len:Nat) (op:Bool) (sz:Nat) (rs:List (List DV)):adO n z j lo len (some (.rows op sz rs))=if sz=n∧0≤z∧z.toNat<len then some (.ptr j (lo+z.toNat) 0) else none:=id rfl
@[simp] theorem addrD_ms (n:Nat) (k:IntKind) (z:Int) (j lo len cap:Nat):zkC n M (.int k z) (.ms j lo len cap)=adO n z j lo len (M.obj j):=by
  show(M.obj j).bind _=_
  cases M.obj j with
  |none=>rfl
  |some o=>cases o with
   |rows op sz rs=>
    cases z with
    |ofNat i=>show(if sz=n∧i<len then _ else _)=_;simp
    |negSucc i=>show none=_;rw[adO_some,if_neg (by omega)]
   |_=>cases z<;>rfl
theorem inD_int (y:Nat) (k:IntKind) (z:Int):inD y (.int k z)=if 0≤z∧z≤(y:Int) then some z.toNat else none:=by
 cases z with
 |ofNat i=>show(if i≤y then _ else _)=_;simp
 |negSucc i=>show none=_;grind
@[simp] theorem boundD_none (d y:Nat):zm d y none=some d:=id rfl
@[simp] theorem boundD_some (d y:Nat) (k:IntKind) (z:Int):zm d y (some (.int k z))=if 0≤z∧z≤(y:Int) then some z.toNat else none:=inD_int y k z
def slL (s:Nat) (rows:List (List DV)) (lo:Option DV):Option Nat→Option DV
 |some hi=>(zm 0 hi lo).map fun lo=>.lst s ((rows.drop lo).take (hi - lo))
 |none=>none
@[simp] theorem slL_some (s:Nat) (rows:List (List DV)) (lo:Option DV) (hi:Nat):slL s rows lo (some hi)=(zm 0 hi lo).map fun lo=>.lst s ((rows.drop lo).take (hi - lo)):=id rfl
@[simp] theorem sliceD_lst (n s:Nat) (rows:List (List DV)) (lo hi:Option DV):sliceD n M lo hi (.lst s rows)=if s=n∧0<s then slL s rows lo (zm rows.length rows.length hi) else none:=by
  show(if _ then(zm _ _ hi).bind _ else none)=_
  congr 1;cases zm rows.length rows.length hi<;>rfl
def slT (j l:Nat) (lo:Option DV):Option Nat→Option DV
 |some hi=>(zm 0 hi lo).map fun lo=>.ms j (l+lo) (hi - lo) zc
 |none=>none
def slF (j l cap:Nat) (lo:Option DV):Option Nat→Option DV
 |some hi=>(zm 0 hi lo).map fun lo=>.ms j (if cap=lo then l else l+lo) (hi - lo) (cap - lo)
 |none=>none
def slM (n:Nat) (lo hi:Option DV) (j l len cap:Nat):Option MO→Option DV
 |some (.rows true sz rs)=>if sz=n∧cap=zc∧l≤rs.length then slT j l lo (zm len (rs.length - l) hi) else none
 |some (.rows false sz _)=>if sz=n∧cap<zc then slF j l cap lo (zm len cap hi) else none
 |_=>none
@[simp] theorem slM_true (n:Nat) (lo hi:Option DV) (j l len cap sz:Nat) (rs:List (List DV)):slM n lo hi j l len cap (some (.rows true sz rs))=if sz=n∧cap=zc∧l≤rs.length then slT j l lo (zm len (rs.length - l) hi) else none:=id rfl
@[simp] theorem slM_false (n:Nat) (lo hi:Option DV) (j l len cap sz:Nat) (rs:List (List DV)):slM n lo hi j l len cap (some (.rows false sz rs))=if sz=n∧cap<zc then slF j l cap lo (zm len cap hi) else none:=id rfl
@[simp] theorem sliceD_ms (n:Nat) (lo hi:Option DV) (j l len cap:Nat):sliceD n M lo hi (.ms j l len cap)=slM n lo hi j l len cap (M.obj j):=by
  show(M.obj j).bind _=_
  cases M.obj j with
  |none=>rfl
  |some o=>
   cases o with
   |rows op sz rs=>
    cases op with
    |true=>
     show(if sz=n∧cap=zc∧l≤rs.length then(zm len (rs.length - l) hi).bind _ else none)=_
     rw[slM_true];congr 1;cases zm len (rs.length - l) hi<;>rfl
    |false=>
     show(if sz=n∧cap<zc then(zm len cap hi).bind _ else none)=_
     rw[slM_false];congr 1;cases zm len cap hi<;>rfl
   |_=>rfl
def enT:Option MO→Option (List (DV×DV))
 |some (.map es)=>some es
 |_=>none
@[simp] theorem enT_some (es:List (DV×DV)):enT (some (.map es))=some es:=id rfl
@[simp] theorem entriesD_map (j:Nat):zbe M (.map j)=enT (M.obj j):=by
  show(M.obj j).bind _=_
  cases M.obj j with
  |none=>rfl
  |some o=>cases o<;>rfl
theorem makeSliceD_eq (b:Nat) (z:List DV) (l c:Int):zde b z M (.int .i64 l) (.int .i64 c)=if 0≤l∧0≤c∧l≤c∧c.toNat*b≤1073741824∧c≤1073741824 then some (.ms M.next 0 l.toNat c.toNat,M.new (.rows false z.length (List.replicate c.toNat z))) else none:=by
 cases l with
 |ofNat l=>cases c with
  |ofNat c=>
   show(if l≤c∧c*b≤1073741824∧c≤1073741824 then _ else _)=_
   grind
  |negSucc c=>show none=_;grind
 |negSucc l=>cases c<;>(show none=_;grind)
@[simp] theorem makeSliceD_N (b:Nat) (z:List DV) (n:Nat):zde b z M (.int .i64 (n:Int)) (.int .i64 (n:Int))=if n*b≤1073741824∧n≤1073741824 then some (.ms M.next 0 n n,M.new (.rows false z.length (List.replicate n z))) else none:=by
  rw[makeSliceD_eq]
  by_cases h:n*b≤1073741824∧n≤1073741824
  ·rw[if_pos h,if_pos (by simp;omega)];rfl
  ·rw[if_neg h,if_neg (by simp;omega)]
@[simp] theorem assertD_eq (t u:Nat) (z v:DV):zcj t z true (.ifc u v)=if u=t then some (.tup [v,.bool true]) else some (.tup [z,.bool false]):=by
  show(match Nat.beq u t,true with|true,true=>_|true,false=>_|false,true=>_|false,false=>_)=_
  by_cases h:u=t
  ·subst h;rw[if_pos rfl,Nat.beq_refl]
  ·rw[if_neg h];cases e:Nat.beq u t with
   |true=>exact absurd (Nat.eq_of_beq_eq_true e) h
   |false=>rfl
@[simp] theorem assertD_eq' (t u:Nat) (z v:DV):zcj t z false (.ifc u v)=if u=t then some v else none:=by
  show(match Nat.beq u t,false with|true,true=>_|true,false=>_|false,true=>_|false,false=>_)=_
  by_cases h:u=t
  ·subst h;rw[if_pos rfl,Nat.beq_refl]
  ·rw[if_neg h];cases e:Nat.beq u t with
   |true=>exact absurd (Nat.eq_of_beq_eq_true e) h
   |false=>rfl
end
abbrev I (n:Int):DV:=.int .i64 n
section
variable {ek:EK} {a b:Int}
theorem zfF (a b:Int):eqI a b=decide (a=b):=by grind [zhs]
@[simp] theorem bin_lss:binD .lss ek (.int .i64 a) (.int .i64 b)=some (.bool (decide (a<b))):=by show some (DV.bool (ltI a b))=_;rw[zej]
@[simp] theorem bin_gtr:binD .gtr ek (.int .i64 a) (.int .i64 b)=some (.bool (decide (b<a))):=by show some (DV.bool (ltI b a))=_;rw[zej]
@[simp] theorem bin_leq:binD .leq ek (.int .i64 a) (.int .i64 b)=some (.bool (decide (a≤b))):=by
  show some (DV.bool (!(ltI b a)))=_;rw[zej];congr 2;by_cases h:b<a<;>simp[h]<;>omega
@[simp] theorem bin_geq:binD .geq ek (.int .i64 a) (.int .i64 b)=some (.bool (decide (b≤a))):=by
  show some (DV.bool (!(ltI a b)))=_;rw[zej];congr 2;by_cases h:a<b<;>simp[h]<;>omega
@[simp] theorem bin_eql:binD .eql ek (.int .i64 a) (.int .i64 b)=some (.bool (decide (a=b))):=by show some (DV.bool (eqI a b))=_;rw[zfF]
@[simp] theorem bin_neq:binD .neq ek (.int .i64 a) (.int .i64 b)=some (.bool (!decide (a=b))):=by show some (DV.bool (!(eqI a b)))=_;rw[zfF]
@[simp] theorem bin_add:binD .add ek (.int .i64 a) (.int .i64 b)=some (.int .i64 (zkG .i64 (a+b))):=id rfl
@[simp] theorem bin_sub:binD .sub ek (.int .i64 a) (.int .i64 b)=some (.int .i64 (zkG .i64 (a - b))):=id rfl
@[simp] theorem un_not (b:Bool):unD .not (.bool b)=some (.bool !b):=id rfl
@[simp] theorem bin_beq (x y:Bool):binD .eql .bool (.bool x) (.bool y)=some (.bool (x==y)):=id rfl
theorem wrapF_in {n:Int} (h1: -9223372036854775808≤n) (h2:n≤9223372036854775807):zkG .i64 n=n:=by
 rw[wrapF_eq]
 show(if(true&&decide (n%(2^64:Int)≥(2^63:Int)))=true then n%(2^64:Int) - (2^64:Int) else n%(2^64:Int))=n
 grind
theorem zbD {n:Int} (h1: -9223372036854775808≤n) (h2:n<9223372036854775808):zkG .i64 n=n:=by grind [wrapF_in]
end
section
variable {F:FuncId→Option zb} {n0:Nat}
@[simp] theorem rD_call (f:DV) (l:List DV) (M:VM) (k kp:DV→VM→Prop):(rD F n0).call f l M k kp=zg F f l M k kp:=id rfl
@[simp] theorem rD_loop (L:List (List Bool)) (b:CC) (K:KD) (s:DS) (M:VM):(rD F n0).loop L b K s M=zcn F n0 L b K s M:=id rfl
@[simp] theorem rD_hand (f:DV) (l:List DV) (p:Option DV) (M:VM) (k:VM→Prop):(rD F n0).hand f l p M k=HandD F f l p M k:=id rfl
end
section
variable {F:FuncId→Option zb} {n0:Nat}
theorem zg.fn {g:Nat} {a c args:List DV} {M:VM} {k kp:DV→VM→Prop} {cf:zb} (hF:F g=some cf) (hp:cf.prim=none) (hn:(a++args++c).length≤cf.ntmps) (h: @Cd (rD F M.next) (.base (bodyKD (rD F) cf.results k kp cf.dfr)) cf.body (argsD (a++args++c) 0 []) M):zg F (.fn g a c) args M k kp:=
 zg.func hF hp ⟨hn,h⟩
@[simp] theorem bodyKD_none (X:Nat→RnD) (rs:List CR) (k kp:DV→VM→Prop):bodyKD X rs k kp none=fnKD rs k kp:=id rfl
@[simp] theorem fnKD_ret (rs:List CR) (k kp:DV→VM→Prop) (s:DS) (M:VM):(fnKD rs k kp).ret s M=endD rs k s M:=id rfl
@[simp] theorem fnKD_nrm (rs:List CR) (k kp:DV→VM→Prop) (s:DS) (M:VM):(fnKD rs k kp).nrm s M=endD rs k s M:=id rfl
@[simp] theorem fnKD_pan (rs:List CR) (k kp:DV→VM→Prop) (v:DV) (s:DS) (M:VM):(fnKD rs k kp).pan v s M=kp v M:=id rfl
def LoK (F:FuncId→Option zb) (n0:Nat) (L:List (List Bool)) (b:CC) (K:KD):KD:=⟨fun s M=>zcn F n0 L b K (zbM L s) M,K.ext,K.ret,K.pan⟩
@[simp] theorem LoK_nrm (L:List (List Bool)) (b:CC) (K:KD) (s:DS) (M:VM):(LoK F n0 L b K).nrm s M=zcn F n0 L b K (zbM L s) M:=id rfl
@[simp] theorem LoK_ext (L:List (List Bool)) (b:CC) (K:KD) (i:Nat) (s:DS) (M:VM):(LoK F n0 L b K).ext i s M=K.ext i s M:=id rfl
@[simp] theorem LoK_ret (L:List (List Bool)) (b:CC) (K:KD) (s:DS) (M:VM):(LoK F n0 L b K).ret s M=K.ret s M:=id rfl
@[simp] theorem LoK_pan (L:List (List Bool)) (b:CC) (K:KD) (v:DV) (s:DS) (M:VM):(LoK F n0 L b K).pan v s M=K.pan v s M:=id rfl
theorem zcn.go {L:List (List Bool)} {b b':CC} {K:KD} {s:DS} {M:VM} (hb:b=b') (h: @Cd (rD F n0) (.base (LoK F n0 L b K)) b' (zbM L s) M):zcn F n0 L b K s M:=zcn.step (hb▸h)
def SM (n:Nat) (M M':VM):Prop:= ∀j,j<n→M'.get j=M.get j
@[simp] theorem z7 (n:Nat) (M:VM):SM n M M:=fun _ _=>rfl
@[simp] theorem zq {n:Nat} {M M':VM} {o:MO} (h:SM n M M') (hn:n≤M'.next):SM n M (M'.new o):=fun j hj=>by rw[get_new,if_neg (by omega)];exact h j hj
@[simp] theorem zbc {n:Nat} {M M':VM} {i:Nat} {o:MO} (h:SM n M M') (hn:n≤i):SM n M (M'.put i o):=fun j hj=>by rw[get_put,if_neg (by omega)];exact h j hj
@[simp] theorem zc3 {n:Nat} {M M':VM} {i:Nat} (h:SM n M M') (hn:n≤i):SM n M (M'.del i):=fun j hj=>by rw[zj9,if_neg (by omega)];exact h j hj
def Back (k:DV→VM→Prop) (M:VM) (d:DV) (M':VM):Prop:=M.Wf→ ∃e,Frz M' M d e∧zQ M.next e∧(∀j,j<M.next→M'.get j=M.get j)∧k e M
theorem zg.back {f:DV} {args:List DV} {M:VM} {k kp:DV→VM→Prop} (h:zg F f args M (Back k M) kp):zg F f args M k kp:=
 zg.wf fun hw=>zg.conv (h.mono (fun d M' q=>let⟨e,h1,h2,h3,h4⟩:=q hw;⟨e,M,.same h3,h1,h2,h4⟩) (fun _ _ q=>q))
theorem Back.plain {k:DV→VM→Prop} {M M':VM} {d:DV} (hb:zQ M.next d) (h:SM M.next M M') (hk:k d M):Back k M d M':=fun _=>⟨d,.refl d,hb,h,hk⟩
end
@[simp] theorem below_int {n:Nat} (k:IntKind) (a:Int):zQ n (.int k a):=.int k a
@[simp] theorem below_bool {n:Nat} (b:Bool):zQ n (.bool b):=.bool b
@[simp] theorem below_nilI {n:Nat}:zQ n .nilI:=.nilI
theorem zkt {n:Nat} {p:DV} {q:Prop} (h1:zQ n p→q) (h2:q→zQ n p):zQ n p=q:=by grind
@[simp] theorem below_agg {n:Nat} (l:List DV):zQ n (.agg l)= ∀d∈l,zQ n d:=zkt (fun h=>by cases h;assumption) .agg
@[simp] theorem below_tup {n:Nat} (l:List DV):zQ n (.tup l)= ∀d∈l,zQ n d:=zkt (fun h=>by cases h;assumption) .tup
@[simp] theorem below_ifc {n t:Nat} (d:DV):zQ n (.ifc t d)=zQ n d:=zkt (fun h=>by cases h;assumption) (.ifc t)
attribute [simp] zh zdX zf isW isRd isFl refD zdj
section
variable {M M':VM} {s:DS}
@[simp] theorem inP_nil (p:List Bool):inP [] p=false:=id rfl
@[simp] theorem inP_bits (m n:Nat) (r:List (List Bool)):inP (bits m::r) (bits n)=if m=n then true else inP r (bits n):=by
  show(match beqP (bits m) (bits n) with|true=>true|false=>inP r (bits n))=_
  by_cases h:m=n
  ·subst h;rw[if_pos rfl,zeC]
  ·rw[if_neg h];cases e:beqP (bits m) (bits n) with
   |true=>exact absurd (zf3 (beqP_eq e)) h
   |false=>rfl
def fr1:Bool→Bool→Bool
 |true,_=>false
 |false,b=>b
@[simp] theorem fr1_true (b:Bool):fr1 true b=false:=id rfl
@[simp] theorem fr1_false (b:Bool):fr1 false b=b:=id rfl
@[simp] theorem freeOf_nil (b:List (List Bool)):zc1 b []=true:=id rfl
@[simp] theorem freeOf_cons (b:List (List Bool)) (p:List Bool) (r:List (List Bool)):zc1 b (p::r)=fr1 (inP b p) (zc1 b r):=by
  show(match inP b p with|true=>false|false=>zc1 b r)=_;cases inP b p<;>rfl
def nt:Bool→Option (List Bool)→Mo→Mo
 |true,_,x=>x
 |false,q,x=>zcc q x
@[simp] theorem nt_true (q:Option (List Bool)) (x:Mo):nt true q x=x:=id rfl
@[simp] theorem nt_false (q:Option (List Bool)) (x:Mo):nt false q x=zcc q x:=id rfl
@[simp] theorem noteN_eq (ns:List (List Bool)) (q:Option (List Bool)) (i:Nat) (M:VM) (b:List (List Bool)):zhe ns q ⟨i,M,b⟩=nt (zc1 b ns) q ⟨i,M,b⟩:=by
  show(match zc1 b ns with|true=>_|false=>_)=_;cases zc1 b ns<;>rfl
@[simp] theorem addBad_some (q:List Bool) (i:Nat) (M:VM) (b:List (List Bool)):zcc (some q) ⟨i,M,b⟩=⟨i,M,q::b⟩:=id rfl
@[simp] theorem addBad_none (x:Mo):zcc none x=x:=id rfl
def rfO:Option DV→List Nat
 |some d=>refD d
 |none=>[]
@[simp] theorem rfO_some (d:DV):rfO (some d)=refD d:=id rfl
theorem refCO_rf (x:CO):zcR s x=rfO (evD s x):=by unfold zcR;cases evD s x<;>rfl
@[simp] theorem refs_load1 (a:CO):zcL s (.load1 a)=rfO (evD s a):=refCO_rf a
@[simp] theorem refs_loadN (n:Nat) (a:CO):zcL s (.loadN n a)=rfO (evD s a):=refCO_rf a
@[simp] theorem refs_slice (n:Nat) (x:CO) (lo hi:Option CO):zcL s (.slice n x lo hi)=rfO (evD s x):=refCO_rf x
theorem get_isSome (j:Nat):(M.get j).isSome=(M.obj j).isSome:=by grind [VM.obj]
@[simp] theorem alikeAt_nil:zfP [] M M'=True:=id rfl
@[simp] theorem alikeAt_cons (j:Nat) (r:List Nat):zfP (j::r) M M'=((M.get j=M'.get j∧(M.obj j).isSome=true)∧zfP r M M'):=by rw[←get_isSome];rfl
@[simp] theorem rdAt_eq (rs:List Nat) (ns:List (List Bool)) (i:Nat) (b:List (List Bool)):rdAt rs ns M ⟨i,M',b⟩=(zc1 b ns=true∧zfP rs M M'):=id rfl
@[simp] theorem rdOk_nil (op:COp) (rs:List Nat) (ns:List (List Bool)) (s:DS) (d:DV) (lo:Nat):rdOk op rs ns s d M lo []=True:=id rfl
@[simp] theorem rdOk_cons (op:COp) (rs:List Nat) (ns:List (List Bool)) (s:DS) (d:DV) (lo i:Nat) (b:List (List Bool)) (r:List Mo):rdOk op rs ns s d M lo (⟨i,M',b⟩::r)=((if i<lo then True else(rdAt rs ns M ⟨i,M',b⟩∨rdAlt op ns s d ⟨i,M',b⟩))∧rdOk op rs ns s d M lo r):=by
  show((match Nat.blt i lo with|true=>True|false=>_)∧_)=_
  by_cases h:i<lo
  ·rw[if_pos h,show Nat.blt i lo=true from by show Nat.ble (i+1) lo=true;rw[Nat.ble_eq];exact h]
  ·rw[if_neg h];cases e:Nat.blt i lo with
   |true=>have e:Nat.ble (i+1) lo=true:=e;rw[Nat.ble_eq] at e;exact absurd e h
   |false=>rfl
@[simp] theorem rdBad_nil (lo:Nat) (q:Option (List Bool)):ziO lo q []=[]:=id rfl
@[simp] theorem rdBad_cons (lo:Nat) (q:Option (List Bool)) (i:Nat) (b:List (List Bool)) (r:List Mo):ziO lo q (⟨i,M,b⟩::r)=(if i<lo then zcc q ⟨i,M,b⟩ else⟨i,M,b⟩)::ziO lo q r:=by
  show(match Nat.blt i lo with|true=>_|false=>_)::_=_
  by_cases h:i<lo
  ·rw[if_pos h,show Nat.blt i lo=true from by show Nat.ble (i+1) lo=true;rw[Nat.ble_eq];exact h]
  ·rw[if_neg h];cases e:Nat.blt i lo with
   |true=>have e:Nat.ble (i+1) lo=true:=e;rw[Nat.ble_eq] at e;exact absurd e h
   |false=>rfl
@[simp] theorem nextMo_cons (i:Nat) (b:List (List Bool)) (r:List Mo):zhg (⟨i,M,b⟩::r)=i+1:=id rfl
@[simp] theorem selfIn_one (x:Mo) (d:DV):zjy [x] d=true:=id rfl
@[simp] theorem selfIn_two (x y:Mo) (r:List Mo) (d:DV):zjy (x::y::r) d=zjz d:=id rfl
@[simp] theorem selfEq_int (k:IntKind) (a:Int):zjz (.int k a)=true:=id rfl
@[simp] theorem selfEq_str (b:ByteArray):zjz (.str b)=true:=id rfl
@[simp] theorem selfEq_lst (n:Nat) (r:List (List DV)):zjz (.lst n r)=true:=id rfl
end
end
end Go.Ideal
set_option maxRecDepth 100000
namespace Go.Ideal.Q
abbrev n_n:Nat:=8
abbrev n_3:Nat:=14
abbrev n_s:Nat:=15
abbrev n_B:Nat:=19
abbrev n_I:Nat:=29
abbrev n_M:Nat:=36
abbrev n_H:Nat:=37
abbrev n_y:Nat:=38
abbrev n_e:Nat:=39
abbrev n_N:Nat:=40
abbrev n_j:Nat:=41
abbrev n_P:Nat:=42
abbrev n_f:Nat:=50
abbrev n_C:Nat:=52
abbrev n_d:Nat:=60
abbrev n_q:Nat:=76
abbrev n_l:Nat:=78
abbrev n_Q:Nat:=79
abbrev n_O:Nat:=80
abbrev n_w:Nat:=81
abbrev n_G:Nat:=82
abbrev n_m:Nat:=83
abbrev n_g:Nat:=84
abbrev n_W:Nat:=85
abbrev n_4:Nat:=86
abbrev n_J:Nat:=94
abbrev n_v:Nat:=108
abbrev n_c:Nat:=109
abbrev n_b:Nat:=110
abbrev n_S:Nat:=119
abbrev n_E:Nat:=120
abbrev n_A:Nat:=145
abbrev n_h:Nat:=146
abbrev n_L:Nat:=147
abbrev n_Z:Nat:=148
abbrev n_k:Nat:=149
abbrev n_K:Nat:=153
abbrev n_T:Nat:=154
abbrev n_a:Nat:=155
abbrev n_D:Nat:=156
abbrev n_u:Nat:=185
abbrev n_t:Nat:=186
abbrev n_p:Nat:=187
abbrev n_z:Nat:=188
abbrev n_1:Nat:=189
abbrev n_r:Nat:=190
abbrev n_R:Nat:=191
abbrev n_i:Nat:=192
abbrev n_2:Nat:=193
abbrev n_F:Nat:=194
abbrev n_o:Nat:=195
abbrev n_x:Nat:=211
abbrev n_5:Nat:=212
abbrev n_Y:Nat:=247
abbrev n_X:Nat:=248
abbrev n_U:Nat:=249
abbrev n_V:Nat:=250
abbrev n_0:Nat:=251
def r_n_1:List CI:=[bx 5 (t 0),bx 6 (t 1),bx 7 (t 2),bx 8 (t 3),bx 9 (t 4),mv 10 ff]
def r_n_2:List CI:=[ln 19 3 8,ca 20 n_s [(t 19)],mv 21 (t 20),gu 21 false (ln 22 3 9),gu 21 false (ca 23 n_s [(t 22)]),pk 24 (t 21) tt (t 23)]
def r_n_3:List CI:=[ca 25 n_3 [],mv 10 (t 25)]
def r_n_4:List CI:=[ln 27 4 5,ca 28 n_M [(t 27)],mv 26 (t 28),ex 29 26 0,ex 30 26 1,oo 11 (.alloc [(.slice none 0 0),(.slice none 0 0),(.slice none 0 0)]),st 3 11 (t 29),mv 12 (t 30)]
def r_n_5:List CI:=[ln 32 4 5,ca 33 n_H [(t 32)],mv 31 (t 33),ex 34 31 0,ex 35 31 1,oo 13 (.alloc [(.slice none 0 0),(.slice none 0 0),(.slice none 0 0)]),st 3 13 (t 34),mv 14 (t 35)]
def r_n_6:List CI:=[ln 37 4 5,ln 38 4 6,ln 39 4 7,ln 40 3 8,ln 41 3 9,ca 42 n_y [(t 37),(t 38),(t 39),(t 40),(t 41)],mv 36 (t 42),ex 43 36 0,ex 44 36 1,oo 15 (.alloc [(.slice none 0 0),(.slice none 0 0),(.slice none 0 0)]),st 3 15 (t 43),mv 16 (t 44)]
def r_n_7:List CI:=[ln 46 4 5,ln 47 4 6,ln 48 4 7,ln 49 3 8,ln 50 3 9,ca 51 n_e [(t 46),(t 47),(t 48),(t 49),(t 50)],mv 45 (t 51),ex 52 45 0,ex 53 45 1,oo 17 (.alloc [(.slice none 0 0),(.slice none 0 0),(.slice none 0 0)]),st 3 17 (t 52),mv 18 (t 53)]
def r_n_8:List CI:=[ln 54 3 11,ln 55 3 13,ca 56 n_N [(t 54),(t 55)],no 57 56,mv 58 (t 57),gu 58 false (mv 59 (t 12)),gu 58 false (mv 60 (t 14)),gu 58 false (bi .neq 61 (t 59) (t 60)),pk 62 (t 58) tt (t 61),mv 63 (t 62),gu 63 false (ln 64 3 15),gu 63 false (ln 65 3 17),gu 63 false (ca 66 n_N [(t 64),(t 65)]),gu 63 false (no 67 66),pk 68 (t 63) tt (t 67),mv 69 (t 68),gu 69 false (mv 70 (t 16)),gu 69 false (mv 71 (t 18)),gu 69 false (bi .neq 72 (t 70) (t 71)),pk 73 (t 69) tt (t 72)]
def r_n_9:List CI:=[mv 10 ff]
def r_n_10:List CI:=[mv 74 (t 16),bi .neq 75 (t 74) (i 0),mv 76 (t 75),gu 76 false (ln 77 4 5),gu 76 false (ln 78 4 7),gu 76 false (ln 79 3 15),gu 76 false (ca 80 n_j [(t 77),(t 78),(t 79)]),pk 81 (t 76) tt (t 80),mv 82 (t 81),gu 82 true (ca 83 n_3 []),pk 84 (t 82) (t 83) ff,mv 10 (t 84)]
def c_n:CC:=(.seq (.ops r_n_1) (bs [5,6,7,8,9]) (.seq (.seq (.ops r_n_2) (bs [5,6,7,8,9,24]) (.cond (t 24) (.seq (.ops r_n_3) (bs [10]) .ret) .skip)) (bs [5,6,7,8,9]) (.seq (.ops r_n_4) (bs [5,6,7,8,9,11,12]) (.seq (.ops r_n_5) (bs [5,6,7,8,9,11,12,13,14]) (.seq (.ops r_n_6) (bs [5,6,7,8,9,11,12,13,14,15,16]) (.seq (.ops r_n_7) (bs [5,7,11,12,13,14,15,16,17,18]) (.seq (.seq (.ops r_n_8) (bs [5,7,15,16,73]) (.cond (t 73) (.seq (.ops r_n_9) (bs [10]) .ret) .skip)) (bs [5,7,15,16]) (.seq (.ops r_n_10) (bs [10]) .ret))))))))
def f_n:zb:=⟨85,[.tmp (bits 10)],c_n,none,none⟩
def r_s_1:List CI:=[bx 1 (t 0),mv 2 ff]
def r_s_2:List CI:=[fa 4 0 1,l 5 4,le 6 (t 5),bi .gtr 7 (t 6) (i 100),mv 8 (t 7),gu 8 false (fa 9 1 1),gu 8 false (l 10 9),gu 8 false (le 11 (t 10)),gu 8 false (bi .gtr 12 (t 11) (i 100)),pk 13 (t 8) tt (t 12),mv 14 (t 13),gu 14 false (fa 15 2 1),gu 14 false (l 16 15),gu 14 false (le 17 (t 16)),gu 14 false (bi .gtr 18 (t 17) (i 100)),pk 19 (t 14) tt (t 18)]
def r_s_3:List CI:=[mv 2 tt]
def r_s_4:List CI:=[mv 3 (i 0)]
def r_s_5:List CI:=[mv 20 (t 3),fa 21 1 1,l 22 21,le 23 (t 22),bi .lss 24 (t 20) (t 23)]
def r_s_6:List CI:=[fa 27 1 1,l 28 27,mv 29 (t 3),ia 30 1 28 (t 29),l 31 30,le 32 (t 31),bi .gtr 33 (t 32) (i 100)]
def r_s_7:List CI:=[mv 2 tt]
def r_s_8:List CI:=[mv 25 (t 3),bi .add 26 (t 25) (i 1),mv 3 (t 26)]
def c_s_9:CC:=(.seq (.seq (.ops r_s_5) (bs [1,3,24]) (.cond (t 24) .skip (.exit 0))) (bs [1,3]) (.seq (.block 2 (.seq (.ops r_s_6) (bs [1,3,33]) (.cond (t 33) (.seq (.ops r_s_7) (bs [2]) .ret) .skip))) (bs [1,3]) (.ops r_s_8)))
def r_s_10:List CI:=[mv 2 ff]
def c_s:CC:=(.seq (.ops r_s_1) (bs [1]) (.seq (.seq (.ops r_s_2) (bs [1,19]) (.cond (t 19) (.seq (.ops r_s_3) (bs [2]) .ret) .skip)) (bs [1]) (.seq (.seq (.ops r_s_4) (bs [1,3]) (.block 0 (.loop (bs [1,3]) c_s_9))) [] (.seq (.ops r_s_10) (bs [2]) .ret))))
def f_s:zb:=⟨34,[.tmp (bits 2)],c_s,none,none⟩
def r_B_1:List CI:=[bx 1 (t 0),mv 2 (i 0)]
def r_B_2:List CI:=[ln 3 4 1,ca 4 n_d [(t 3)],nc 5 4,fa 6 7 5,l 7 6]
def r_B_3:List CI:=[mv 2 (i 2)]
def r_B_4:List CI:=[mv 2 (i 0)]
def c_B:CC:=(.seq (.ops r_B_1) (bs [1]) (.seq (.seq (.ops r_B_2) (bs [7]) (.cond (t 7) (.seq (.ops r_B_3) (bs [2]) .ret) .skip)) [] (.seq (.ops r_B_4) (bs [2]) .ret)))
def f_B:zb:=⟨8,[.tmp (bits 2)],c_B,none,none⟩
def r_I_1:List CI:=[mv 4 ff]
def r_I_2:List CI:=[mv 5 (t 0),mv 6 (t 1),ca 7 n_q [(t 5),(t 6)],bi .geq 8 (t 7) (i 0),mv 4 (t 8)]
def c_I:CC:=(.seq (.ops r_I_1) (bs [0,1]) (.seq (.ops r_I_2) (bs [4]) .ret))
def f_I:zb:=⟨9,[.tmp (bits 4)],c_I,none,none⟩
def r_M_1:List CI:=[bx 1 (t 0),oo 2 (.alloc [(.slice none 0 0),(.slice none 0 0),(.slice none 0 0)]),mv 3 (i 0)]
def r_M_2:List CI:=[ln 7 4 1,ca 8 n_P [(t 7)],bi .neq 9 (t 8) (i 0)]
def r_M_3:List CI:=[oo 10 (.build [(.slice none 0 0),(.slice none 0 0),(.slice none 0 0)] []),st 3 2 (t 10),mv 3 (i 2)]
def r_M_4:List CI:=[fa 11 2 1,l 12 11,le 13 (t 12),ca 14 n_Q [(t 13)],fa 15 1 1,l 16 15,le 17 (t 16),lo 1 (ca 18 n_Q [(t 17)]),lo 2 (oo 19 (.build [(.slice none 0 0),(.slice none 0 0),(.slice none 0 0)] [(0,1,(t 14)),(2,1,(t 18))])),oo 4 (.alloc [(.slice none 0 0),(.slice none 0 0),(.slice none 0 0)]),lo 2 (st 3 4 (t 19))]
def r_M_5:List CI:=[fa 20 2 1,l 21 20,le 22 (t 21),mv 23 (i 0)]
def r_M_6:List CI:=[bi .lss 24 (t 23) (t 22)]
def r_M_7:List CI:=[ia 25 3 21 (t 23),ln 26 3 25,oo 6 (.alloc [(.slice none 0 0),(.slice none 0 0),(.slice none 0 0)]),st 3 6 (t 26)]
def r_M_8:List CI:=[fa 29 0 6,l 30 29,le 31 (t 30),ca 32 n_Q [(t 31)],fa 27 1 4,l 28 27,lo 1 (oo 33 (.buildSlice 1 1 [(.slice none 0 0)] [(0,(t 32))])),lo 1 (ap 34 1 24 (t 28) (t 33)),lo 2 (fa 35 1 4),lo 2 (st 1 35 (t 34))]
def r_M_9:List CI:=[bi .add 36 (t 23) (i 1),mv 23 (t 36)]
def c_M_10:CC:=(.seq (.ops r_M_6) (bs [2,4,21,22,23,24]) (.seq (.cond (t 24) .skip (.exit 0)) (bs [2,4,21,22,23]) (.seq (.block 2 (.seq (.ops r_M_7) (bs [2,4,6,21,22,23]) (.draw r_M_8))) (bs [2,4,21,22,23]) (.ops r_M_9))))
def r_M_11:List CI:=[ln 37 3 4,st 3 2 (t 37),mv 3 (i 0)]
def c_M:CC:=(.seq (.ops r_M_1) (bs [1,2]) (.seq (.seq (.ops r_M_2) (bs [1,2,9]) (.cond (t 9) (.seq (.ops r_M_3) (bs [2,3]) .ret) .skip)) (bs [1,2]) (.seq (.draw r_M_4) (bs [1,2,4]) (.seq (.seq (.ops r_M_5) (bs [2,4,21,22,23]) (.block 0 (.loop (bs [2,4,21,22,23]) c_M_10))) (bs [2,4]) (.seq (.ops r_M_11) (bs [2,3]) .ret)))))
def f_M:zb:=⟨38,[.cell (some 3) (bits 2),.tmp (bits 3)],c_M,none,none⟩
def r_H_1:List CI:=[bx 1 (t 0),oo 2 (.alloc [(.slice none 0 0),(.slice none 0 0),(.slice none 0 0)]),mv 3 (i 0)]
def r_H_2:List CI:=[ln 4 4 1,ca 5 n_B [(t 4)],bi .neq 6 (t 5) (i 0)]
def r_H_3:List CI:=[oo 7 (.build [(.slice none 0 0),(.slice none 0 0),(.slice none 0 0)] []),st 3 2 (t 7),mv 3 (i 2)]
def r_H_4:List CI:=[ln 8 4 1,ca 9 n_f [(t 8)],st 3 2 (t 9),mv 3 (i 0)]
def c_H:CC:=(.seq (.ops r_H_1) (bs [1,2]) (.seq (.seq (.ops r_H_2) (bs [1,2,6]) (.cond (t 6) (.seq (.ops r_H_3) (bs [2,3]) .ret) .skip)) (bs [1,2]) (.seq (.ops r_H_4) (bs [2,3]) .ret)))
def f_H:zb:=⟨10,[.cell (some 3) (bits 2),.tmp (bits 3)],c_H,none,none⟩
def r_y_1:List CI:=[bx 5 (t 0),bx 6 (t 1),bx 7 (t 2),bx 8 (t 3),bx 9 (t 4),oo 10 (.alloc [(.slice none 0 0),(.slice none 0 0),(.slice none 0 0)]),mv 11 (i 0)]
def r_y_2:List CI:=[ln 18 4 5,ln 19 4 6,ln 20 4 7,oo 21 (.buildSlice 3 4 [(.slice none 0 0),(.slice none 0 0),(.slice none 0 0),(iI 0)] [(0,(t 18)),(1,(t 19)),(2,(t 20))]),le 22 (t 21),mv 23 (i 0)]
def r_y_3:List CI:=[bi .lss 24 (t 23) (t 22)]
def r_y_4:List CI:=[ia 25 4 21 (t 23),ln 26 4 25,oo 13 (.alloc [(.slice none 0 0),(.slice none 0 0),(.slice none 0 0),(iI 0)]),st 4 13 (t 26)]
def r_y_5:List CI:=[ln 27 4 13,ca 28 n_P [(t 27)],bi .neq 29 (t 28) (i 0)]
def r_y_6:List CI:=[oo 30 (.build [(.slice none 0 0),(.slice none 0 0),(.slice none 0 0)] []),st 3 10 (t 30),mv 11 (i 2)]
def r_y_7:List CI:=[bi .add 31 (t 23) (i 1),mv 23 (t 31)]
def c_y_8:CC:=(.seq (.ops r_y_3) (bs [5,6,7,8,9,10,21,22,23,24]) (.seq (.cond (t 24) .skip (.exit 0)) (bs [5,6,7,8,9,10,21,22,23]) (.seq (.block 2 (.seq (.ops r_y_4) (bs [5,6,7,8,9,10,13,21,22,23]) (.seq (.ops r_y_5) (bs [5,6,7,8,9,10,21,22,23,29]) (.cond (t 29) (.seq (.ops r_y_6) (bs [10,11]) .ret) .skip)))) (bs [5,6,7,8,9,10,21,22,23]) (.ops r_y_7))))
def r_y_9:List CI:=[ln 32 4 5,ln 33 4 6,ln 34 3 8,ca 35 n_C [(t 32),(t 33),(t 34)],no 36 35,mv 37 (t 36),gu 37 false (ln 38 4 6),gu 37 false (ln 39 4 7),gu 37 false (ln 40 3 9),gu 37 false (ca 41 n_C [(t 38),(t 39),(t 40)]),gu 37 false (no 42 41),pk 43 (t 37) tt (t 42)]
def r_y_10:List CI:=[oo 44 (.build [(.slice none 0 0),(.slice none 0 0),(.slice none 0 0)] []),st 3 10 (t 44),mv 11 (i 2)]
def r_y_11:List CI:=[fa 45 0 8,l 46 45,fa 47 0 9,l 48 47,ca 49 n_O [(t 46),(t 48)],fa 50 2 8,l 51 50,fa 52 2 9,l 53 52,lo 1 (ca 54 n_O [(t 51),(t 53)]),lo 2 (oo 55 (.build [(.slice none 0 0),(.slice none 0 0),(.slice none 0 0)] [(0,1,(t 49)),(2,1,(t 54))])),oo 14 (.alloc [(.slice none 0 0),(.slice none 0 0),(.slice none 0 0)]),lo 2 (st 3 14 (t 55))]
def r_y_12:List CI:=[fa 56 1 8,l 57 56,le 58 (t 57),mv 59 (i 0)]
def r_y_13:List CI:=[bi .lss 60 (t 59) (t 58)]
def r_y_14:List CI:=[mv 61 (t 59),ia 62 1 57 (t 59),l 63 62,mv 15 (t 61),mv 16 (t 63)]
def r_y_15:List CI:=[fa 64 0 8,l 65 64,mv 66 (t 15),ia 67 1 65 (t 66),l 68 67,mv 17 (t 68)]
def r_y_16:List CI:=[mv 69 (t 17),bi .geq 70 (t 69) (i 0)]
def r_y_17:List CI:=[mv 71 (t 16),fa 72 1 9,l 73 72,mv 74 (t 17),ia 75 1 73 (t 74),l 76 75,ca 77 n_O [(t 71),(t 76)],mv 16 (t 77)]
def r_y_18:List CI:=[mv 80 (t 16),ca 81 n_w [(t 80)],fa 78 1 14,l 79 78,lo 1 (oo 82 (.buildSlice 1 1 [(.slice none 0 0)] [(0,(t 81))])),lo 1 (ap 83 1 24 (t 79) (t 82)),lo 2 (fa 84 1 14),lo 2 (st 1 84 (t 83))]
def r_y_19:List CI:=[bi .add 85 (t 59) (i 1),mv 59 (t 85)]
def c_y_20:CC:=(.seq (.ops r_y_13) (bs [8,9,10,14,57,58,59,60]) (.seq (.cond (t 60) .skip (.exit 4)) (bs [8,9,10,14,57,58,59]) (.seq (.block 6 (.seq (.ops r_y_14) (bs [8,9,10,14,15,16,57,58,59]) (.seq (.seq (.ops r_y_15) (bs [8,9,10,14,16,17,57,58,59]) (.seq (.ops r_y_16) (bs [8,9,10,14,16,17,57,58,59,70]) (.cond (t 70) (.ops r_y_17) .skip))) (bs [8,9,10,14,16,57,58,59]) (.draw r_y_18)))) (bs [8,9,10,14,57,58,59]) (.ops r_y_19))))
def r_y_21:List CI:=[ln 86 3 14,st 3 10 (t 86),mv 11 (i 0)]
def c_y:CC:=(.seq (.ops r_y_1) (bs [5,6,7,8,9,10]) (.seq (.seq (.ops r_y_2) (bs [5,6,7,8,9,10,21,22,23]) (.block 0 (.loop (bs [5,6,7,8,9,10,21,22,23]) c_y_8))) (bs [5,6,7,8,9,10]) (.seq (.seq (.ops r_y_9) (bs [8,9,10,43]) (.cond (t 43) (.seq (.ops r_y_10) (bs [10,11]) .ret) .skip)) (bs [8,9,10]) (.seq (.draw r_y_11) (bs [8,9,10,14]) (.seq (.seq (.ops r_y_12) (bs [8,9,10,14,57,58,59]) (.block 4 (.loop (bs [8,9,10,14,57,58,59]) c_y_20))) (bs [10,14]) (.seq (.ops r_y_21) (bs [10,11]) .ret))))))
def f_y:zb:=⟨87,[.cell (some 3) (bits 10),.tmp (bits 11)],c_y,none,none⟩
def r_e_1:List CI:=[bx 5 (t 0),bx 6 (t 1),bx 7 (t 2),bx 8 (t 3),bx 9 (t 4),oo 10 (.alloc [(.slice none 0 0),(.slice none 0 0),(.slice none 0 0)]),mv 11 (i 0)]
def r_e_2:List CI:=[ln 18 4 5,ca 19 n_B [(t 18)],bi .neq 20 (t 19) (i 0),mv 21 (t 20),gu 21 false (ln 22 4 6),gu 21 false (ca 23 n_B [(t 22)]),gu 21 false (bi .neq 24 (t 23) (i 0)),pk 25 (t 21) tt (t 24),mv 26 (t 25),gu 26 false (ln 27 4 7),gu 26 false (ca 28 n_B [(t 27)]),gu 26 false (bi .neq 29 (t 28) (i 0)),pk 30 (t 26) tt (t 29),mv 31 (t 30),gu 31 false (ln 32 4 5),gu 31 false (ln 33 4 6),gu 31 false (ln 34 3 8),gu 31 false (ca 35 n_j [(t 32),(t 33),(t 34)]),gu 31 false (no 36 35),pk 37 (t 31) tt (t 36),mv 38 (t 37),gu 38 false (ln 39 4 6),gu 38 false (ln 40 4 7),gu 38 false (ln 41 3 9),gu 38 false (ca 42 n_j [(t 39),(t 40),(t 41)]),gu 38 false (no 43 42),pk 44 (t 38) tt (t 43)]
def r_e_3:List CI:=[oo 45 (.build [(.slice none 0 0),(.slice none 0 0),(.slice none 0 0)] []),st 3 10 (t 45),mv 11 (i 2)]
def r_e_4:List CI:=[oo 12 (.alloc [(.slice none 0 0),(.slice none 0 0),(.slice none 0 0)])]
def r_e_5:List CI:=[mv 13 (i 0)]
def r_e_6:List CI:=[mv 46 (t 13),fa 47 0 8,l 48 47,le 49 (t 48),bi .lss 50 (t 46) (t 49)]
def r_e_7:List CI:=[fa 55 0 8,l 56 55,mv 57 (t 13),ia 58 1 56 (t 57),l 59 58,fa 60 0 9,l 61 60,ca 62 n_G [(t 59),(t 61)],fa 53 0 12,l 54 53,lo 1 (oo 63 (.buildSlice 1 1 [(iI 0)] [(0,(t 62))])),lo 1 (ap 64 1 8 (t 54) (t 63)),lo 2 (fa 65 0 12),lo 2 (st 1 65 (t 64))]
def r_e_8:List CI:=[oo 66 (.buildSlice 0 1 [(iI 0)] []),mv 14 (t 66)]
def r_e_9:List CI:=[mv 15 (i 0)]
def r_e_10:List CI:=[mv 67 (t 15),fa 68 1 8,l 69 68,mv 70 (t 13),ia 71 1 69 (t 70),l 72 71,le 73 (t 72),bi .lss 74 (t 67) (t 73)]
def r_e_11:List CI:=[mv 16 (i (-1))]
def r_e_12:List CI:=[fa 77 0 8,l 78 77,mv 79 (t 13),ia 80 1 78 (t 79),l 81 80,bi .geq 82 (t 81) (i 0)]
def r_e_13:List CI:=[fa 83 1 8,l 84 83,mv 85 (t 13),ia 86 1 84 (t 85),l 87 86,mv 88 (t 15),ia 89 1 87 (t 88),l 90 89,fa 91 1 9,l 92 91,fa 93 0 8,l 94 93,mv 95 (t 13),ia 96 1 94 (t 95),l 97 96,ia 98 1 92 (t 97),l 99 98,ca 100 n_G [(t 90),(t 99)],lo 1 (mv 16 (t 100))]
def r_e_14:List CI:=[mv 101 (t 14),mv 102 (t 16),oo 103 (.buildSlice 1 1 [(iI 0)] [(0,(t 102))]),ap 104 1 8 (t 101) (t 103),mv 14 (t 104)]
def r_e_15:List CI:=[mv 75 (t 15),bi .add 76 (t 75) (i 1),mv 15 (t 76)]
def c_e_16:CC:=(.seq (.seq (.ops r_e_10) (bs [8,9,10,12,13,14,15,74]) (.cond (t 74) .skip (.exit 4))) (bs [8,9,10,12,13,14,15]) (.seq (.block 6 (.seq (.ops r_e_11) (bs [8,9,10,12,13,14,15,16]) (.seq (.seq (.ops r_e_12) (bs [8,9,10,12,13,14,15,16,82]) (.cond (t 82) (.draw r_e_13) .skip)) (bs [8,9,10,12,13,14,15,16]) (.ops r_e_14)))) (bs [8,9,10,12,13,14,15]) (.ops r_e_15)))
def r_e_17:List CI:=[fa 105 1 12,l 106 105,mv 107 (t 14),oo 108 (.buildSlice 1 1 [(.slice none 0 0)] [(0,(t 107))]),ap 109 1 24 (t 106) (t 108),fa 110 1 12,st 1 110 (t 109)]
def r_e_18:List CI:=[mv 51 (t 13),bi .add 52 (t 51) (i 1),mv 13 (t 52)]
def c_e_19:CC:=(.seq (.seq (.ops r_e_6) (bs [8,9,10,12,13,50]) (.cond (t 50) .skip (.exit 0))) (bs [8,9,10,12,13]) (.seq (.block 2 (.seq (.draw r_e_7) (bs [8,9,10,12,13]) (.seq (.ops r_e_8) (bs [8,9,10,12,13,14]) (.seq (.seq (.ops r_e_9) (bs [8,9,10,12,13,14,15]) (.block 4 (.loop (bs [8,9,10,12,13,14,15]) c_e_16))) (bs [8,9,10,12,13,14]) (.ops r_e_17))))) (bs [8,9,10,12,13]) (.ops r_e_18)))
def r_e_20:List CI:=[mv 17 (i 0)]
def r_e_21:List CI:=[mv 111 (t 17),fa 112 2 8,l 113 112,le 114 (t 113),bi .lss 115 (t 111) (t 114)]
def r_e_22:List CI:=[fa 120 2 8,l 121 120,mv 122 (t 17),ia 123 1 121 (t 122),l 124 123,fa 125 2 9,l 126 125,ca 127 n_G [(t 124),(t 126)],fa 118 2 12,l 119 118,lo 1 (oo 128 (.buildSlice 1 1 [(iI 0)] [(0,(t 127))])),lo 1 (ap 129 1 8 (t 119) (t 128)),lo 2 (fa 130 2 12),lo 2 (st 1 130 (t 129))]
def r_e_23:List CI:=[mv 116 (t 17),bi .add 117 (t 116) (i 1),mv 17 (t 117)]
def c_e_24:CC:=(.seq (.seq (.ops r_e_21) (bs [8,9,10,12,17,115]) (.cond (t 115) .skip (.exit 8))) (bs [8,9,10,12,17]) (.seq (.block 10 (.draw r_e_22)) (bs [8,9,10,12,17]) (.ops r_e_23)))
def r_e_25:List CI:=[ln 131 3 12,st 3 10 (t 131),mv 11 (i 0)]
def c_e:CC:=(.seq (.ops r_e_1) (bs [5,6,7,8,9,10]) (.seq (.seq (.ops r_e_2) (bs [8,9,10,44]) (.cond (t 44) (.seq (.ops r_e_3) (bs [10,11]) .ret) .skip)) (bs [8,9,10]) (.seq (.ops r_e_4) (bs [8,9,10,12]) (.seq (.seq (.ops r_e_5) (bs [8,9,10,12,13]) (.block 0 (.loop (bs [8,9,10,12,13]) c_e_19))) (bs [8,9,10,12]) (.seq (.seq (.ops r_e_20) (bs [8,9,10,12,17]) (.block 8 (.loop (bs [8,9,10,12,17]) c_e_24))) (bs [10,12]) (.seq (.ops r_e_25) (bs [10,11]) .ret))))))
def f_e:zb:=⟨132,[.cell (some 3) (bits 10),.tmp (bits 11)],c_e,none,none⟩
def r_N_1:List CI:=[bx 2 (t 0),bx 3 (t 1),mv 4 ff]
def r_N_2:List CI:=[fa 5 0 2,l 6 5,fa 7 0 3,l 8 7,ca 9 n_l [(t 6),(t 8)],mv 10 (t 9),gu 10 true (fa 11 1 2),gu 10 true (l 12 11),gu 10 true (fa 13 1 3),gu 10 true (l 14 13),gu 10 true (ca 15 n_m [(t 12),(t 14)]),pk 16 (t 10) (t 15) ff,mv 17 (t 16),gu 17 true (fa 18 2 2),gu 17 true (l 19 18),gu 17 true (fa 20 2 3),gu 17 true (l 21 20),gu 17 true (ca 22 n_l [(t 19),(t 21)]),pk 23 (t 17) (t 22) ff,mv 4 (t 23)]
def c_N:CC:=(.seq (.ops r_N_1) (bs [2,3]) (.seq (.ops r_N_2) (bs [4]) .ret))
def f_N:zb:=⟨24,[.tmp (bits 4)],c_N,none,none⟩
def r_j_1:List CI:=[bx 3 (t 0),bx 4 (t 1),bx 5 (t 2),mv 6 ff]
def r_j_2:List CI:=[fa 9 0 5,l 10 9,le 11 (t 10),fa 12 2 3,l 13 12,le 14 (t 13),bi .neq 15 (t 11) (t 14),mv 16 (t 15),gu 16 false (fa 17 1 5),gu 16 false (l 18 17),gu 16 false (le 19 (t 18)),gu 16 false (fa 20 2 3),gu 16 false (l 21 20),gu 16 false (le 22 (t 21)),gu 16 false (bi .neq 23 (t 19) (t 22)),pk 24 (t 16) tt (t 23),mv 25 (t 24),gu 25 false (fa 26 2 5),gu 25 false (l 27 26),gu 25 false (le 28 (t 27)),gu 25 false (fa 29 1 3),gu 25 false (l 30 29),gu 25 false (le 31 (t 30)),gu 25 false (bi .neq 32 (t 28) (t 31)),pk 33 (t 25) tt (t 32)]
def r_j_3:List CI:=[mv 6 ff]
def r_j_4:List CI:=[fa 34 0 5,l 35 34,fa 36 2 4,l 37 36,le 38 (t 37),ca 39 n_g [(t 35),(t 38),tt],no 40 39,mv 41 (t 40),gu 41 false (fa 42 2 5),gu 41 false (l 43 42),gu 41 false (fa 44 1 4),gu 41 false (l 45 44),gu 41 false (le 46 (t 45)),gu 41 false (ca 47 n_g [(t 43),(t 46),ff]),gu 41 false (no 48 47),pk 49 (t 41) tt (t 48)]
def r_j_5:List CI:=[mv 6 ff]
def r_j_6:List CI:=[mv 7 (i 0)]
def r_j_7:List CI:=[mv 50 (t 7),fa 51 0 5,l 52 51,le 53 (t 52),bi .lss 54 (t 50) (t 53)]
def r_j_8:List CI:=[mv 8 (i 0)]
def r_j_9:List CI:=[fa 57 0 5,l 58 57,mv 59 (t 7),ia 60 1 58 (t 59),l 61 60,bi .geq 62 (t 61) (i 0)]
def r_j_10:List CI:=[fa 63 2 4,l 64 63,fa 65 0 5,l 66 65,mv 67 (t 7),ia 68 1 66 (t 67),l 69 68,ia 70 3 64 (t 69),fa 71 0 70,l 72 71,le 73 (t 72),mv 8 (t 73)]
def r_j_11:List CI:=[fa 74 1 5,l 75 74,mv 76 (t 7),ia 77 1 75 (t 76),l 78 77,le 79 (t 78),fa 80 2 3,l 81 80,mv 82 (t 7),ia 83 3 81 (t 82),fa 84 0 83,l 85 84,le 86 (t 85),bi .neq 87 (t 79) (t 86),mv 88 (t 87),gu 88 false (fa 89 1 5),gu 88 false (l 90 89),gu 88 false (mv 91 (t 7)),gu 88 false (ia 92 1 90 (t 91)),gu 88 false (l 93 92),gu 88 false (mv 94 (t 8)),gu 88 false (ca 95 n_g [(t 93),(t 94),tt]),lo 1 (gu 88 false (no 96 95)),lo 1 (pk 97 (t 88) tt (t 96))]
def r_j_12:List CI:=[mv 6 ff]
def r_j_13:List CI:=[mv 55 (t 7),bi .add 56 (t 55) (i 1),mv 7 (t 56)]
def c_j_14:CC:=(.seq (.seq (.ops r_j_7) (bs [3,4,5,7,54]) (.cond (t 54) .skip (.exit 0))) (bs [3,4,5,7]) (.seq (.block 2 (.seq (.ops r_j_8) (bs [3,4,5,7,8]) (.seq (.seq (.ops r_j_9) (bs [3,4,5,7,8,62]) (.cond (t 62) (.draw r_j_10) .skip)) (bs [3,4,5,7,8]) (.seq (.draw r_j_11) (bs [3,4,5,7,97]) (.cond (t 97) (.seq (.ops r_j_12) (bs [6]) .ret) .skip))))) (bs [3,4,5,7]) (.ops r_j_13)))
def r_j_15:List CI:=[mv 6 tt]
def c_j:CC:=(.seq (.ops r_j_1) (bs [3,4,5]) (.seq (.seq (.ops r_j_2) (bs [3,4,5,33]) (.cond (t 33) (.seq (.ops r_j_3) (bs [6]) .ret) .skip)) (bs [3,4,5]) (.seq (.seq (.ops r_j_4) (bs [3,4,5,49]) (.cond (t 49) (.seq (.ops r_j_5) (bs [6]) .ret) .skip)) (bs [3,4,5]) (.seq (.seq (.ops r_j_6) (bs [3,4,5,7]) (.block 0 (.loop (bs [3,4,5,7]) c_j_14))) [] (.seq (.ops r_j_15) (bs [6]) .ret)))))
def f_j:zb:=⟨98,[.tmp (bits 6)],c_j,none,none⟩
def r_4:List CI:=[bx 1 (t 0),mv 2 (i 0)]
def r_P_2:List CI:=[ln 6 4 1,ca 7 n_W [(t 6),(fc n_4)],mv 5 (t 7),ex 8 5 0,ex 9 5 1,mv 3 (t 8),mv 4 (t 9)]
def r_P_3:List CI:=[mv 10 (t 4),mv 2 (t 10)]
def c_P:CC:=(.seq (.ops r_4) (bs [1]) (.seq (.ops r_P_2) (bs [4]) (.seq (.ops r_P_3) (bs [2]) .ret)))
def f_P:zb:=⟨11,[.tmp (bits 2)],c_P,none,none⟩
def r_f_1:List CI:=[bx 1 (t 0),oo 2 (.alloc [(.slice none 0 0),(.slice none 0 0),(.slice none 0 0)])]
def r_f_2:List CI:=[oo 3 (.alloc [(.slice none 0 0),(.slice none 0 0),(.slice none 0 0)])]
def r_f_3:List CI:=[mv 4 (i 0)]
def r_f_4:List CI:=[mv 8 (t 4),fa 9 2 1,l 10 9,le 11 (t 10),bi .lss 12 (t 8) (t 11)]
def r_f_5:List CI:=[fa 15 0 3,l 16 15,mv 17 (t 4),oo 18 (.buildSlice 1 1 [(iI 0)] [(0,(t 17))]),ap 19 1 8 (t 16) (t 18),fa 20 0 3,st 1 20 (t 19)]
def r_f_6:List CI:=[oo 21 (.buildSlice 0 1 [(iI 0)] []),mv 5 (t 21)]
def r_f_7:List CI:=[mv 6 (i 0)]
def r_f_8:List CI:=[mv 22 (t 6),fa 23 2 1,l 24 23,mv 25 (t 4),ia 26 3 24 (t 25),fa 27 0 26,l 28 27,le 29 (t 28),bi .lss 30 (t 22) (t 29)]
def r_f_9:List CI:=[mv 33 (t 5),mv 34 (t 6),oo 35 (.buildSlice 1 1 [(iI 0)] [(0,(t 34))]),ap 36 1 8 (t 33) (t 35),mv 5 (t 36)]
def r_f_10:List CI:=[mv 31 (t 6),bi .add 32 (t 31) (i 1),mv 6 (t 32)]
def c_f_11:CC:=(.seq (.seq (.ops r_f_8) (bs [1,2,3,4,5,6,30]) (.cond (t 30) .skip (.exit 4))) (bs [1,2,3,4,5,6]) (.seq (.block 6 (.ops r_f_9)) (bs [1,2,3,4,5,6]) (.ops r_f_10)))
def r_f_12:List CI:=[fa 37 1 3,l 38 37,mv 39 (t 5),oo 40 (.buildSlice 1 1 [(.slice none 0 0)] [(0,(t 39))]),ap 41 1 24 (t 38) (t 40),fa 42 1 3,st 1 42 (t 41)]
def r_f_13:List CI:=[mv 13 (t 4),bi .add 14 (t 13) (i 1),mv 4 (t 14)]
def c_f_14:CC:=(.seq (.seq (.ops r_f_4) (bs [1,2,3,4,12]) (.cond (t 12) .skip (.exit 0))) (bs [1,2,3,4]) (.seq (.block 2 (.seq (.ops r_f_5) (bs [1,2,3,4]) (.seq (.ops r_f_6) (bs [1,2,3,4,5]) (.seq (.seq (.ops r_f_7) (bs [1,2,3,4,5,6]) (.block 4 (.loop (bs [1,2,3,4,5,6]) c_f_11))) (bs [1,2,3,4,5]) (.ops r_f_12))))) (bs [1,2,3,4]) (.ops r_f_13)))
def r_f_15:List CI:=[mv 7 (i 0)]
def r_f_16:List CI:=[mv 43 (t 7),fa 44 1 1,l 45 44,le 46 (t 45),bi .lss 47 (t 43) (t 46)]
def r_f_17:List CI:=[fa 50 2 3,l 51 50,mv 52 (t 7),oo 53 (.buildSlice 1 1 [(iI 0)] [(0,(t 52))]),ap 54 1 8 (t 51) (t 53),fa 55 2 3,st 1 55 (t 54)]
def r_f_18:List CI:=[mv 48 (t 7),bi .add 49 (t 48) (i 1),mv 7 (t 49)]
def c_f_19:CC:=(.seq (.seq (.ops r_f_16) (bs [1,2,3,7,47]) (.cond (t 47) .skip (.exit 8))) (bs [1,2,3,7]) (.seq (.block 10 (.ops r_f_17)) (bs [1,2,3,7]) (.ops r_f_18)))
def r_f_20:List CI:=[ln 56 3 3,st 3 2 (t 56)]
def c_f:CC:=(.seq (.ops r_f_1) (bs [1,2]) (.seq (.ops r_f_2) (bs [1,2,3]) (.seq (.seq (.ops r_f_3) (bs [1,2,3,4]) (.block 0 (.loop (bs [1,2,3,4]) c_f_14))) (bs [1,2,3]) (.seq (.seq (.ops r_f_15) (bs [1,2,3,7]) (.block 8 (.loop (bs [1,2,3,7]) c_f_19))) (bs [2,3]) (.seq (.ops r_f_20) (bs [2]) .ret)))))
def f_f:zb:=⟨57,[.cell (some 3) (bits 2)],c_f,none,none⟩
def r_C_1:List CI:=[bx 3 (t 0),bx 4 (t 1),bx 5 (t 2),mv 6 ff]
def r_C_2:List CI:=[fa 10 0 5,l 11 10,le 12 (t 11),fa 13 2 3,l 14 13,le 15 (t 14),bi .neq 16 (t 12) (t 15),mv 17 (t 16),gu 17 false (fa 18 1 5),gu 17 false (l 19 18),gu 17 false (le 20 (t 19)),gu 17 false (fa 21 2 3),gu 17 false (l 22 21),gu 17 false (le 23 (t 22)),gu 17 false (bi .neq 24 (t 20) (t 23)),pk 25 (t 17) tt (t 24),mv 26 (t 25),gu 26 false (fa 27 2 5),gu 26 false (l 28 27),gu 26 false (le 29 (t 28)),gu 26 false (fa 30 1 3),gu 26 false (l 31 30),gu 26 false (le 32 (t 31)),gu 26 false (bi .neq 33 (t 29) (t 32)),pk 34 (t 26) tt (t 33),mv 35 (t 34),gu 35 false (fa 36 0 5),gu 35 false (l 37 36),gu 35 false (fa 38 2 4),gu 35 false (l 39 38),gu 35 false (le 40 (t 39)),gu 35 false (ca 41 n_J [(t 37),(t 40),tt]),gu 35 false (no 42 41),pk 43 (t 35) tt (t 42),mv 44 (t 43),gu 44 false (fa 45 2 5),gu 44 false (l 46 45),gu 44 false (fa 47 1 4),gu 44 false (l 48 47),gu 44 false (le 49 (t 48)),gu 44 false (ca 50 n_J [(t 46),(t 49),ff]),gu 44 false (no 51 50),pk 52 (t 44) tt (t 51)]
def r_C_3:List CI:=[mv 6 ff]
def r_C_4:List CI:=[fa 53 0 5,l 54 53,le 55 (t 54),mv 56 (i 0)]
def r_C_5:List CI:=[bi .lss 57 (t 56) (t 55)]
def r_C_6:List CI:=[mv 58 (t 56),ia 59 1 54 (t 56),l 60 59,mv 7 (t 58),mv 8 (t 60)]
def r_C_7:List CI:=[mv 9 (i 0)]
def r_C_8:List CI:=[mv 61 (t 8),bi .geq 62 (t 61) (i 0)]
def r_C_9:List CI:=[fa 63 2 4,l 64 63,mv 65 (t 8),ia 66 3 64 (t 65),fa 67 0 66,l 68 67,le 69 (t 68),mv 9 (t 69)]
def r_C_10:List CI:=[fa 70 1 5,l 71 70,mv 72 (t 7),ia 73 1 71 (t 72),l 74 73,le 75 (t 74),fa 76 2 3,l 77 76,mv 78 (t 7),ia 79 3 77 (t 78),fa 80 0 79,l 81 80,le 82 (t 81),bi .neq 83 (t 75) (t 82),mv 84 (t 83),gu 84 false (fa 85 1 5),gu 84 false (l 86 85),gu 84 false (mv 87 (t 7)),gu 84 false (ia 88 1 86 (t 87)),gu 84 false (l 89 88),gu 84 false (mv 90 (t 9)),gu 84 false (ca 91 n_J [(t 89),(t 90),tt]),lo 1 (gu 84 false (no 92 91)),lo 1 (pk 93 (t 84) tt (t 92))]
def r_C_11:List CI:=[mv 6 ff]
def r_C_12:List CI:=[bi .add 94 (t 56) (i 1),mv 56 (t 94)]
def c_C_13:CC:=(.seq (.ops r_C_5) (bs [3,4,5,54,55,56,57]) (.seq (.cond (t 57) .skip (.exit 0)) (bs [3,4,5,54,55,56]) (.seq (.block 2 (.seq (.ops r_C_6) (bs [3,4,5,7,8,54,55,56]) (.seq (.ops r_C_7) (bs [3,4,5,7,8,9,54,55,56]) (.seq (.seq (.ops r_C_8) (bs [3,4,5,7,8,9,54,55,56,62]) (.cond (t 62) (.ops r_C_9) .skip)) (bs [3,4,5,7,9,54,55,56]) (.seq (.draw r_C_10) (bs [3,4,5,54,55,56,93]) (.cond (t 93) (.seq (.ops r_C_11) (bs [6]) .ret) .skip)))))) (bs [3,4,5,54,55,56]) (.ops r_C_12))))
def r_C_14:List CI:=[mv 6 tt]
def c_C:CC:=(.seq (.ops r_C_1) (bs [3,4,5]) (.seq (.seq (.ops r_C_2) (bs [3,4,5,52]) (.cond (t 52) (.seq (.ops r_C_3) (bs [6]) .ret) .skip)) (bs [3,4,5]) (.seq (.seq (.ops r_C_4) (bs [3,4,5,54,55,56]) (.block 0 (.loop (bs [3,4,5,54,55,56]) c_C_13))) [] (.seq (.ops r_C_14) (bs [6]) .ret))))
def f_C:zb:=⟨95,[.tmp (bits 6)],c_C,none,none⟩
def r_d_1:List CI:=[bx 1 (t 0),mv 2 (.c (.pointer none))]
def r_d_2:List CI:=[ln 8 4 1,oo 9 (.build [(.slice none 0 0),(.slice none 0 0),(.slice none 0 0),(iI 0),(.slice none 0 0),(.slice none 0 0),(.slice none 0 0),(.bool false)] [(0,4,(t 8))]),bx 10 (t 9),mv 3 (t 10)]
def r_d_3:List CI:=[fa 11 0 1,l 12 11,le 13 (t 12),bi .gtr 14 (t 13) (i 12),mv 15 (t 14),gu 15 false (fa 16 1 1),gu 15 false (l 17 16),gu 15 false (le 18 (t 17)),gu 15 false (bi .gtr 19 (t 18) (i 60)),pk 20 (t 15) tt (t 19),mv 21 (t 20),gu 21 false (fa 22 2 1),gu 21 false (l 23 22),gu 21 false (le 24 (t 23)),gu 21 false (bi .gtr 25 (t 24) (i 12)),pk 26 (t 21) tt (t 25)]
def r_d_4:List CI:=[mv 27 (t 3),nc 28 27,fa 29 7 28,st 1 29 tt]
def r_d_5:List CI:=[mv 30 (t 3),mv 2 (t 30)]
def r_d_6:List CI:=[mv 4 (i 0)]
def r_d_7:List CI:=[mv 31 (t 4),fa 32 0 1,l 33 32,le 34 (t 33),bi .lss 35 (t 31) (t 34)]
def r_d_8:List CI:=[mv 39 (t 3),nc 40 39,fa 41 7 40,l 42 41,mv 43 (t 42),gu 43 false (fa 44 0 1),gu 43 false (l 45 44),gu 43 false (mv 46 (t 4)),gu 43 false (ia 47 1 45 (t 46)),gu 43 false (l 48 47),gu 43 false (ca 49 n_v [(t 48)]),mv 38 (t 3),lo 1 (gu 43 false (no 50 49)),lo 1 (pk 51 (t 43) tt (t 50)),lo 1 (mv 52 (t 51)),lo 1 (gu 52 false (mv 53 (t 4))),lo 1 (gu 52 false (bi .gtr 54 (t 53) (i 0))),lo 1 (gu 52 false (mv 55 (t 54))),lo 1 (gu 55 true (fa 56 0 1)),lo 1 (gu 55 true (l 57 56)),lo 1 (gu 55 true (mv 58 (t 4))),lo 1 (gu 55 true (ia 59 1 57 (t 58))),lo 1 (gu 55 true (l 60 59)),lo 1 (gu 55 true (fa 61 0 1)),lo 1 (gu 55 true (l 62 61)),lo 1 (gu 55 true (mv 63 (t 4))),lo 1 (gu 55 true (bi .sub 64 (t 63) (i 1))),lo 1 (gu 55 true (ia 65 1 62 (t 64))),lo 1 (gu 55 true (l 66 65)),lo 1 (gu 55 true (bi .leq 67 (t 60) (t 66))),lo 1 (gu 52 false (pk 68 (t 55) (t 67) ff)),lo 1 (pk 69 (t 52) tt (t 68)),lo 1 (nc 70 38),lo 1 (fa 71 7 70),lo 1 (st 1 71 (t 69))]
def r_d_9:List CI:=[mv 36 (t 4),bi .add 37 (t 36) (i 1),mv 4 (t 37)]
def c_d_10:CC:=(.seq (.seq (.ops r_d_7) (bs [1,3,4,35]) (.cond (t 35) .skip (.exit 0))) (bs [1,3,4]) (.seq (.block 2 (.draw r_d_8)) (bs [1,3,4]) (.ops r_d_9)))
def r_d_11:List CI:=[mv 5 (i 0)]
def r_d_12:List CI:=[mv 72 (t 5),fa 73 2 1,l 74 73,le 75 (t 74),bi .lss 76 (t 72) (t 75)]
def r_d_13:List CI:=[mv 79 (t 3),mv 80 (t 3),nc 81 80,fa 82 7 81,l 83 82,mv 84 (t 83),gu 84 false (fa 85 2 1),gu 84 false (l 86 85),gu 84 false (mv 87 (t 5)),gu 84 false (ia 88 3 86 (t 87)),gu 84 false (ln 89 3 88),gu 84 false (ca 90 n_c [(t 89)]),gu 84 false (no 91 90),pk 92 (t 84) tt (t 91),nc 93 79,fa 94 7 93,st 1 94 (t 92)]
def r_d_14:List CI:=[mv 77 (t 5),bi .add 78 (t 77) (i 1),mv 5 (t 78)]
def c_d_15:CC:=(.seq (.seq (.ops r_d_12) (bs [1,3,5,76]) (.cond (t 76) .skip (.exit 4))) (bs [1,3,5]) (.seq (.block 6 (.ops r_d_13)) (bs [1,3,5]) (.ops r_d_14)))
def r_d_16:List CI:=[mv 95 (t 3),fa 98 1 1,l 99 98,le 100 (t 99),oo 101 (.makeSlice 1 8 [(iI 0)] (t 100) (t 100)),nc 110 95,fa 111 4 110,st 1 111 (t 101),mv 96 (t 3),fa 102 1 1,l 103 102,le 104 (t 103),oo 105 (.makeSlice 1 8 [(iI 0)] (t 104) (t 104)),lo 1 (nc 112 96),lo 1 (fa 113 5 112),lo 1 (st 1 113 (t 105)),mv 97 (t 3),fa 106 2 1,l 107 106,le 108 (t 107),oo 109 (.makeSlice 1 8 [(iI 0)] (t 108) (t 108)),lo 2 (nc 114 97),lo 2 (fa 115 6 114),lo 2 (st 1 115 (t 109))]
def r_d_17:List CI:=[mv 116 (t 3),nc 117 116,fa 118 7 117,l 119 118]
def r_d_18:List CI:=[mv 120 (t 3),mv 2 (t 120)]
def r_d_19:List CI:=[mv 121 (t 3),fa 122 3 1,l 123 122,fa 124 0 1,l 125 124,le 126 (t 125),ca 127 n_b [(t 121),(t 123),(t 126)]]
def r_d_20:List CI:=[mv 6 (i 0)]
def r_d_21:List CI:=[mv 128 (t 6),mv 129 (t 3),nc 130 129,fa 131 5 130,l 132 131,le 133 (t 132),bi .lss 134 (t 128) (t 133)]
def r_d_22:List CI:=[mv 137 (t 3),mv 138 (t 3),nc 139 138,fa 140 7 139,l 141 140,mv 142 (t 141),gu 142 false (mv 143 (t 3)),gu 142 false (nc 144 143),gu 142 false (fa 145 5 144),gu 142 false (l 146 145),gu 142 false (mv 147 (t 6)),gu 142 false (ia 148 1 146 (t 147)),gu 142 false (l 149 148),gu 142 false (bi .eql 150 (t 149) (i 0)),pk 151 (t 142) tt (t 150),nc 152 137,fa 153 7 152,st 1 153 (t 151)]
def r_d_23:List CI:=[mv 135 (t 6),bi .add 136 (t 135) (i 1),mv 6 (t 136)]
def c_d_24:CC:=(.seq (.seq (.ops r_d_21) (bs [3,6,134]) (.cond (t 134) .skip (.exit 8))) (bs [3,6]) (.seq (.block 10 (.ops r_d_22)) (bs [3,6]) (.ops r_d_23)))
def r_d_25:List CI:=[mv 7 (i 0)]
def r_d_26:List CI:=[mv 154 (t 7),mv 155 (t 3),nc 156 155,fa 157 6 156,l 158 157,le 159 (t 158),bi .lss 160 (t 154) (t 159)]
def r_d_27:List CI:=[mv 163 (t 3),mv 164 (t 3),nc 165 164,fa 166 7 165,l 167 166,mv 168 (t 167),gu 168 false (mv 169 (t 3)),gu 168 false (nc 170 169),gu 168 false (fa 171 6 170),gu 168 false (l 172 171),gu 168 false (mv 173 (t 7)),gu 168 false (ia 174 1 172 (t 173)),gu 168 false (l 175 174),gu 168 false (bi .eql 176 (t 175) (i 0)),pk 177 (t 168) tt (t 176),nc 178 163,fa 179 7 178,st 1 179 (t 177)]
def r_d_28:List CI:=[mv 161 (t 7),bi .add 162 (t 161) (i 1),mv 7 (t 162)]
def c_d_29:CC:=(.seq (.seq (.ops r_d_26) (bs [3,7,160]) (.cond (t 160) .skip (.exit 12))) (bs [3,7]) (.seq (.block 14 (.ops r_d_27)) (bs [3,7]) (.ops r_d_28)))
def r_d_30:List CI:=[mv 180 (t 3),mv 2 (t 180)]
def c_d:CC:=(.seq (.ops r_d_1) (bs [1]) (.seq (.ops r_d_2) (bs [1,3]) (.seq (.seq (.ops r_d_3) (bs [1,3,26]) (.cond (t 26) (.seq (.ops r_d_4) (bs [3]) (.seq (.ops r_d_5) (bs [2]) .ret)) .skip)) (bs [1,3]) (.seq (.seq (.ops r_d_6) (bs [1,3,4]) (.block 0 (.loop (bs [1,3,4]) c_d_10))) (bs [1,3]) (.seq (.seq (.ops r_d_11) (bs [1,3,5]) (.block 4 (.loop (bs [1,3,5]) c_d_15))) (bs [1,3]) (.seq (.draw r_d_16) (bs [1,3]) (.seq (.seq (.ops r_d_17) (bs [1,3,119]) (.cond (t 119) (.seq (.ops r_d_18) (bs [2]) .ret) .skip)) (bs [1,3]) (.seq (.ops r_d_19) (bs [3]) (.seq (.seq (.ops r_d_20) (bs [3,6]) (.block 8 (.loop (bs [3,6]) c_d_24))) (bs [3]) (.seq (.seq (.ops r_d_25) (bs [3,7]) (.block 12 (.loop (bs [3,7]) c_d_29))) (bs [3]) (.seq (.ops r_d_30) (bs [2]) .ret)))))))))))
def f_d:zb:=⟨181,[.tmp (bits 2)],c_d,none,none⟩
def r_q_1:List CI:=[mv 4 (i 0)]
def r_q_2:List CI:=[mv 6 (t 0),le 7 (t 6),mv 8 (i 0)]
def r_q_3:List CI:=[bi .lss 9 (t 8) (t 7)]
def r_q_4:List CI:=[mv 10 (t 8),mv 5 (t 10)]
def r_q_5:List CI:=[mv 11 (t 1),mv 12 (t 0),mv 13 (t 5),ia 14 1 12 (t 13),l 15 14,bi .eql 16 (t 11) (t 15)]
def r_q_6:List CI:=[mv 17 (t 5),mv 4 (t 17)]
def r_q_7:List CI:=[bi .add 18 (t 8) (i 1),mv 8 (t 18)]
def c_q_8:CC:=(.seq (.ops r_q_3) (bs [0,1,7,8,9]) (.seq (.cond (t 9) .skip (.exit 0)) (bs [0,1,7,8]) (.seq (.block 2 (.seq (.ops r_q_4) (bs [0,1,5,7,8]) (.seq (.ops r_q_5) (bs [0,1,5,7,8,16]) (.cond (t 16) (.seq (.ops r_q_6) (bs [4]) .ret) .skip)))) (bs [0,1,7,8]) (.ops r_q_7))))
def r_q_9:List CI:=[mv 4 (i (-1))]
def c_q:CC:=(.seq (.ops r_q_1) (bs [0,1]) (.seq (.seq (.ops r_q_2) (bs [0,1,7,8]) (.block 0 (.loop (bs [0,1,7,8]) c_q_8))) [] (.seq (.ops r_q_9) (bs [4]) .ret)))
def f_q:zb:=⟨19,[.tmp (bits 4)],c_q,none,none⟩
def r_l_1:List CI:=[mv 4 ff]
def r_l_2:List CI:=[mv 6 (t 0),le 7 (t 6),mv 8 (t 1),le 9 (t 8),bi .neq 10 (t 7) (t 9)]
def r_l_3:List CI:=[mv 4 ff]
def r_l_4:List CI:=[mv 5 (i 0)]
def r_l_5:List CI:=[mv 11 (t 5),mv 12 (t 0),le 13 (t 12),bi .lss 14 (t 11) (t 13)]
def r_l_6:List CI:=[mv 17 (t 0),mv 18 (t 5),ia 19 1 17 (t 18),l 20 19,mv 21 (t 1),mv 22 (t 5),ia 23 1 21 (t 22),l 24 23,bi .neq 25 (t 20) (t 24)]
def r_l_7:List CI:=[mv 4 ff]
def r_l_8:List CI:=[mv 15 (t 5),bi .add 16 (t 15) (i 1),mv 5 (t 16)]
def c_l_9:CC:=(.seq (.seq (.ops r_l_5) (bs [0,1,5,14]) (.cond (t 14) .skip (.exit 0))) (bs [0,1,5]) (.seq (.block 2 (.seq (.draw r_l_6) (bs [0,1,5,25]) (.cond (t 25) (.seq (.ops r_l_7) (bs [4]) .ret) .skip))) (bs [0,1,5]) (.ops r_l_8)))
def r_l_10:List CI:=[mv 4 tt]
def c_l:CC:=(.seq (.ops r_l_1) (bs [0,1]) (.seq (.seq (.ops r_l_2) (bs [0,1,10]) (.cond (t 10) (.seq (.ops r_l_3) (bs [4]) .ret) .skip)) (bs [0,1]) (.seq (.seq (.ops r_l_4) (bs [0,1,5]) (.block 0 (.loop (bs [0,1,5]) c_l_9))) [] (.seq (.ops r_l_10) (bs [4]) .ret))))
def f_l:zb:=⟨26,[.tmp (bits 4)],c_l,none,none⟩
def r_Q_1:List CI:=[mv 2 (.c (.slice none 0 0))]
def r_Q_2:List CI:=[mv 3 (.c (.slice none 0 0))]
def r_Q_3:List CI:=[mv 5 (t 0),mv 6 (i 0)]
def r_Q_4:List CI:=[bi .lss 7 (t 6) (t 5)]
def r_Q_5:List CI:=[mv 8 (t 6),mv 4 (t 8)]
def r_Q_6:List CI:=[mv 9 (t 3),mv 10 (t 4),oo 11 (.buildSlice 1 1 [(iI 0)] [(0,(t 10))]),ap 12 1 8 (t 9) (t 11),mv 3 (t 12)]
def r_Q_7:List CI:=[bi .add 13 (t 6) (i 1),mv 6 (t 13)]
def c_Q_8:CC:=(.seq (.ops r_Q_4) (bs [3,5,6,7]) (.seq (.cond (t 7) .skip (.exit 0)) (bs [3,5,6]) (.seq (.block 2 (.seq (.ops r_Q_5) (bs [3,4,5,6]) (.ops r_Q_6))) (bs [3,5,6]) (.ops r_Q_7))))
def r_Q_9:List CI:=[mv 14 (t 3),mv 2 (t 14)]
def c_Q:CC:=(.seq (.ops r_Q_1) (bs [0]) (.seq (.ops r_Q_2) (bs [0,3]) (.seq (.seq (.ops r_Q_3) (bs [3,5,6]) (.block 0 (.loop (bs [3,5,6]) c_Q_8))) (bs [3]) (.seq (.ops r_Q_9) (bs [2]) .ret))))
def f_Q:zb:=⟨15,[.tmp (bits 2)],c_Q,none,none⟩
def r_O_1:List CI:=[mv 4 (.c (.slice none 0 0))]
def r_O_2:List CI:=[mv 5 (.c (.slice none 0 0))]
def r_O_3:List CI:=[mv 8 (t 0),le 9 (t 8),mv 10 (i 0)]
def r_O_4:List CI:=[bi .lss 11 (t 10) (t 9)]
def r_O_5:List CI:=[ia 12 1 8 (t 10),l 13 12,mv 7 (t 13)]
def r_O_6:List CI:=[mv 14 (t 7),bi .geq 15 (t 14) (i 0)]
def r_O_7:List CI:=[mv 16 (t 1),mv 17 (t 7),ia 18 1 16 (t 17),l 19 18,mv 7 (t 19)]
def r_O_8:List CI:=[mv 20 (t 5),mv 21 (t 7),oo 22 (.buildSlice 1 1 [(iI 0)] [(0,(t 21))]),ap 23 1 8 (t 20) (t 22),mv 5 (t 23)]
def r_O_9:List CI:=[bi .add 24 (t 10) (i 1),mv 10 (t 24)]
def c_O_10:CC:=(.seq (.ops r_O_4) (bs [1,5,8,9,10,11]) (.seq (.cond (t 11) .skip (.exit 0)) (bs [1,5,8,9,10]) (.seq (.block 2 (.seq (.ops r_O_5) (bs [1,5,7,8,9,10]) (.seq (.seq (.ops r_O_6) (bs [1,5,7,8,9,10,15]) (.cond (t 15) (.ops r_O_7) .skip)) (bs [1,5,7,8,9,10]) (.ops r_O_8)))) (bs [1,5,8,9,10]) (.ops r_O_9))))
def r_O_11:List CI:=[mv 25 (t 5),mv 4 (t 25)]
def c_O:CC:=(.seq (.ops r_O_1) (bs [0,1]) (.seq (.ops r_O_2) (bs [0,1,5]) (.seq (.seq (.ops r_O_3) (bs [1,5,8,9,10]) (.block 0 (.loop (bs [1,5,8,9,10]) c_O_10))) (bs [5]) (.seq (.ops r_O_11) (bs [4]) .ret))))
def f_O:zb:=⟨26,[.tmp (bits 4)],c_O,none,none⟩
def r_w_1:List CI:=[mv 2 (.c (.slice none 0 0))]
def r_w_2:List CI:=[mv 3 (t 0),oo 4 (.bin .eql .slice (t 3) (.c (.slice none 0 0)))]
def r_w_3:List CI:=[mv 2 (.c (.slice none 0 0))]
def r_w_4:List CI:=[oo 5 (.buildSlice 0 1 [(iI 0)] []),mv 6 (t 0),ap 7 1 8 (t 5) (t 6),mv 2 (t 7)]
def c_w:CC:=(.seq (.ops r_w_1) (bs [0]) (.seq (.seq (.ops r_w_2) (bs [0,4]) (.cond (t 4) (.seq (.ops r_w_3) (bs [2]) .ret) .skip)) (bs [0]) (.seq (.ops r_w_4) (bs [2]) .ret)))
def f_w:zb:=⟨8,[.tmp (bits 2)],c_w,none,none⟩
def r_G_1:List CI:=[mv 4 (i 0)]
def r_G_2:List CI:=[mv 5 (t 0),bi .lss 6 (t 5) (i 0)]
def r_G_3:List CI:=[mv 4 (i (-1))]
def r_G_4:List CI:=[mv 7 (t 1),mv 8 (t 0),ia 9 1 7 (t 8),l 10 9,mv 4 (t 10)]
def c_G:CC:=(.seq (.ops r_G_1) (bs [0,1]) (.seq (.seq (.ops r_G_2) (bs [0,1,6]) (.cond (t 6) (.seq (.ops r_G_3) (bs [4]) .ret) .skip)) (bs [0,1]) (.seq (.ops r_G_4) (bs [4]) .ret)))
def f_G:zb:=⟨11,[.tmp (bits 4)],c_G,none,none⟩
def r_m_1:List CI:=[mv 4 ff]
def r_m_2:List CI:=[mv 6 (t 0),le 7 (t 6),mv 8 (t 1),le 9 (t 8),bi .neq 10 (t 7) (t 9)]
def r_m_3:List CI:=[mv 4 ff]
def r_m_4:List CI:=[mv 5 (i 0)]
def r_m_5:List CI:=[mv 11 (t 5),mv 12 (t 0),le 13 (t 12),bi .lss 14 (t 11) (t 13)]
def r_m_6:List CI:=[mv 17 (t 0),mv 18 (t 5),ia 19 1 17 (t 18),l 20 19,mv 21 (t 1),mv 22 (t 5),ia 23 1 21 (t 22),l 24 23,ca 25 n_l [(t 20),(t 24)],lo 1 (no 26 25)]
def r_m_7:List CI:=[mv 4 ff]
def r_m_8:List CI:=[mv 15 (t 5),bi .add 16 (t 15) (i 1),mv 5 (t 16)]
def c_m_9:CC:=(.seq (.seq (.ops r_m_5) (bs [0,1,5,14]) (.cond (t 14) .skip (.exit 0))) (bs [0,1,5]) (.seq (.block 2 (.seq (.draw r_m_6) (bs [0,1,5,26]) (.cond (t 26) (.seq (.ops r_m_7) (bs [4]) .ret) .skip))) (bs [0,1,5]) (.ops r_m_8)))
def r_m_10:List CI:=[mv 4 tt]
def c_m:CC:=(.seq (.ops r_m_1) (bs [0,1]) (.seq (.seq (.ops r_m_2) (bs [0,1,10]) (.cond (t 10) (.seq (.ops r_m_3) (bs [4]) .ret) .skip)) (bs [0,1]) (.seq (.seq (.ops r_m_4) (bs [0,1,5]) (.block 0 (.loop (bs [0,1,5]) c_m_9))) [] (.seq (.ops r_m_10) (bs [4]) .ret))))
def f_m:zb:=⟨27,[.tmp (bits 4)],c_m,none,none⟩
def r_g_1:List CI:=[mv 6 ff]
def r_g_2:List CI:=[mv 7 (i 0)]
def r_g_3:List CI:=[mv 9 (t 7),mv 10 (t 0),le 11 (t 10),bi .lss 12 (t 9) (t 11)]
def r_g_4:List CI:=[mv 15 (t 0),mv 16 (t 7),ia 17 1 15 (t 16),l 18 17,bi .lss 19 (t 18) (i (-1)),mv 20 (t 19),gu 20 false (mv 21 (t 0)),gu 20 false (mv 22 (t 7)),gu 20 false (ia 23 1 21 (t 22)),gu 20 false (l 24 23),gu 20 false (mv 25 (t 1)),gu 20 false (bi .geq 26 (t 24) (t 25)),pk 27 (t 20) tt (t 26)]
def r_g_5:List CI:=[mv 6 ff]
def r_g_6:List CI:=[mv 8 (i 0)]
def r_g_7:List CI:=[mv 28 (t 8),mv 29 (t 7),bi .lss 30 (t 28) (t 29),mv 31 (t 30),gu 31 true (mv 32 (t 2)),pk 33 (t 31) (t 32) ff]
def r_g_8:List CI:=[mv 36 (t 0),mv 37 (t 7),ia 38 1 36 (t 37),l 39 38,bi .geq 40 (t 39) (i 0),mv 41 (t 40),gu 41 true (mv 42 (t 0)),gu 41 true (mv 43 (t 8)),gu 41 true (ia 44 1 42 (t 43)),gu 41 true (l 45 44),gu 41 true (mv 46 (t 0)),gu 41 true (mv 47 (t 7)),gu 41 true (ia 48 1 46 (t 47)),gu 41 true (l 49 48),gu 41 true (bi .eql 50 (t 45) (t 49)),pk 51 (t 41) (t 50) ff]
def r_g_9:List CI:=[mv 6 ff]
def r_g_10:List CI:=[mv 34 (t 8),bi .add 35 (t 34) (i 1),mv 8 (t 35)]
def c_g_11:CC:=(.seq (.seq (.ops r_g_7) (bs [0,1,2,7,8,33]) (.cond (t 33) .skip (.exit 4))) (bs [0,1,2,7,8]) (.seq (.block 6 (.seq (.draw r_g_8) (bs [0,1,2,7,8,51]) (.cond (t 51) (.seq (.ops r_g_9) (bs [6]) .ret) .skip))) (bs [0,1,2,7,8]) (.ops r_g_10)))
def r_g_12:List CI:=[mv 13 (t 7),bi .add 14 (t 13) (i 1),mv 7 (t 14)]
def c_g_13:CC:=(.seq (.seq (.ops r_g_3) (bs [0,1,2,7,12]) (.cond (t 12) .skip (.exit 0))) (bs [0,1,2,7]) (.seq (.block 2 (.seq (.seq (.ops r_g_4) (bs [0,1,2,7,27]) (.cond (t 27) (.seq (.ops r_g_5) (bs [6]) .ret) .skip)) (bs [0,1,2,7]) (.seq (.ops r_g_6) (bs [0,1,2,7,8]) (.block 4 (.loop (bs [0,1,2,7,8]) c_g_11))))) (bs [0,1,2,7]) (.ops r_g_12)))
def r_g_14:List CI:=[mv 6 tt]
def c_g:CC:=(.seq (.ops r_g_1) (bs [0,1,2]) (.seq (.seq (.ops r_g_2) (bs [0,1,2,7]) (.block 0 (.loop (bs [0,1,2,7]) c_g_13))) [] (.seq (.ops r_g_14) (bs [6]) .ret)))
def f_g:zb:=⟨52,[.tmp (bits 6)],c_g,none,none⟩
def r_W_1:List CI:=[bx 2 (t 0),mv 4 ff,oo 5 (.alloc [(iI 0)])]
def r_W_2:List CI:=[mv 6 (t 1),ln 7 4 2,ca 8 n_E [(t 7)],oo 9 (.call (t 6) [(t 8)]),mv 4 (t 9),st 1 5 (i 0)]
def c_W:CC:=(.seq (.ops r_W_1) (bs [1,2,4,5]) (.ops []))
def zc2:CC:=(.seq (.ops []) (bs [1,2,4,5]) (.seq (.ops r_W_2) (bs [4,5]) .ret))
def f_W:zb:=⟨10,[.tmp (bits 4),.cell none (bits 5)],c_W,some ⟨(fc n_S),[(t 5)],(bs [1,2,4,5]),zc2⟩,none⟩
def r_4_1:List CI:=[mv 2 ff]
def r_4_2:List CI:=[mv 2 tt]
def c_4:CC:=(.seq (.ops r_4_1) [] (.seq (.ops r_4_2) (bs [2]) .ret))
def f_4:zb:=⟨3,[.tmp (bits 2)],c_4,none,none⟩
def r_J_1:List CI:=[mv 6 ff]
def r_J_2:List CI:=[oo 10 (.makeMap),mv 7 (t 10)]
def r_J_3:List CI:=[mv 11 (t 0),le 12 (t 11),mv 13 (i 0)]
def r_J_4:List CI:=[bi .lss 14 (t 13) (t 12)]
def r_J_5:List CI:=[ia 15 1 11 (t 13),l 16 15,mv 9 (t 16)]
def r_J_6:List CI:=[mv 17 (t 9),bi .lss 18 (t 17) (i (-1)),mv 19 (t 18),gu 19 false (mv 20 (t 9)),gu 19 false (mv 21 (t 1)),gu 19 false (bi .geq 22 (t 20) (t 21)),pk 23 (t 19) tt (t 22),mv 24 (t 23),gu 24 false (mv 25 (t 2)),gu 24 false (mv 26 (t 25)),gu 26 true (mv 27 (t 7)),gu 26 true (mv 28 (t 9)),gu 26 true (oo 29 (.lookup .int (.bool false) false (t 27) (t 28))),gu 24 false (pk 30 (t 26) (t 29) ff),pk 31 (t 24) tt (t 30)]
def r_J_7:List CI:=[mv 6 ff]
def r_J_8:List CI:=[mv 32 (t 7),mv 33 (t 9),mv 34 (t 9),bi .geq 35 (t 34) (i 0),on (.mapUpdate .int (t 32) (t 33) (t 35))]
def r_J_9:List CI:=[bi .add 36 (t 13) (i 1),mv 13 (t 36)]
def c_J_10:CC:=(.seq (.ops r_J_4) (bs [1,2,7,11,12,13,14]) (.seq (.cond (t 14) .skip (.exit 0)) (bs [1,2,7,11,12,13]) (.seq (.block 2 (.seq (.ops r_J_5) (bs [1,2,7,9,11,12,13]) (.seq (.seq (.ops r_J_6) (bs [1,2,7,9,11,12,13,31]) (.cond (t 31) (.seq (.ops r_J_7) (bs [6]) .ret) .skip)) (bs [1,2,7,9,11,12,13]) (.ops r_J_8)))) (bs [1,2,7,11,12,13]) (.ops r_J_9))))
def r_J_11:List CI:=[mv 6 tt]
def c_J:CC:=(.seq (.ops r_J_1) (bs [0,1,2]) (.seq (.ops r_J_2) (bs [0,1,2,7]) (.seq (.seq (.ops r_J_3) (bs [1,2,7,11,12,13]) (.block 0 (.loop (bs [1,2,7,11,12,13]) c_J_10))) [] (.seq (.ops r_J_11) (bs [6]) .ret))))
def f_J:zb:=⟨37,[.tmp (bits 6)],c_J,none,none⟩
def r_v_1:List CI:=[mv 2 ff]
def r_v_2:List CI:=[mv 4 (t 0),oo 5 (.blt .lenStr [(t 4)]),bi .lss 6 (t 5) (i 1),mv 7 (t 6),gu 7 false (mv 8 (t 0)),gu 7 false (oo 9 (.blt .lenStr [(t 8)])),gu 7 false (bi .gtr 10 (t 9) (i 8)),pk 11 (t 7) tt (t 10)]
def r_v_3:List CI:=[mv 2 ff]
def r_v_4:List CI:=[mv 3 (i 0)]
def r_v_5:List CI:=[mv 12 (t 3),mv 13 (t 0),oo 14 (.blt .lenStr [(t 13)]),bi .lss 15 (t 12) (t 14)]
def r_v_6:List CI:=[mv 18 (t 0),mv 19 (t 3),oo 20 (.strIdx (t 18) (t 19)),bi .lss 21 (t 20) (.c (.int .u8 97)),mv 22 (t 21),gu 22 false (mv 23 (t 0)),gu 22 false (mv 24 (t 3)),gu 22 false (oo 25 (.strIdx (t 23) (t 24))),gu 22 false (bi .gtr 26 (t 25) (.c (.int .u8 122))),pk 27 (t 22) tt (t 26)]
def r_v_7:List CI:=[mv 2 ff]
def r_v_8:List CI:=[mv 16 (t 3),bi .add 17 (t 16) (i 1),mv 3 (t 17)]
def c_v_9:CC:=(.seq (.seq (.ops r_v_5) (bs [0,3,15]) (.cond (t 15) .skip (.exit 0))) (bs [0,3]) (.seq (.block 2 (.seq (.ops r_v_6) (bs [0,3,27]) (.cond (t 27) (.seq (.ops r_v_7) (bs [2]) .ret) .skip))) (bs [0,3]) (.ops r_v_8)))
def r_v_10:List CI:=[oo 28 (.buildSlice 10 1 [(.string ⟨#[]⟩)] [(0,(.c (.string ⟨#[97,110,100]⟩))),(1,(.c (.string ⟨#[100,101,102]⟩))),(2,(.c (.string ⟨#[101,108,115,101]⟩))),(3,(.c (.string ⟨#[103,111]⟩))),(4,(.c (.string ⟨#[105,102]⟩))),(5,(.c (.string ⟨#[105,110]⟩))),(6,(.c (.string ⟨#[112,108,97,99,101]⟩))),(7,(.c (.string ⟨#[115,116,111,112]⟩))),(8,(.c (.string ⟨#[116,104,101,110]⟩))),(9,(.c (.string ⟨#[119,97,116,99,104]⟩)))]),mv 29 (t 0),ca 30 n_A [(t 28),(t 29)],no 31 30,mv 2 (t 31)]
def c_v:CC:=(.seq (.ops r_v_1) (bs [0]) (.seq (.seq (.ops r_v_2) (bs [0,11]) (.cond (t 11) (.seq (.ops r_v_3) (bs [2]) .ret) .skip)) (bs [0]) (.seq (.seq (.ops r_v_4) (bs [0,3]) (.block 0 (.loop (bs [0,3]) c_v_9))) (bs [0]) (.seq (.ops r_v_10) (bs [2]) .ret))))
def f_v:zb:=⟨32,[.tmp (bits 2)],c_v,none,none⟩
def r_c_1:List CI:=[bx 1 (t 0),mv 2 ff]
def r_c_2:List CI:=[fa 12 0 1,l 13 12,le 14 (t 13),bi .gtr 15 (t 14) (i 30),mv 16 (t 15),gu 16 false (fa 17 1 1),gu 16 false (l 18 17),gu 16 false (le 19 (t 18)),gu 16 false (bi .gtr 20 (t 19) (i 30)),pk 21 (t 16) tt (t 20),mv 22 (t 21),gu 22 false (fa 23 2 1),gu 22 false (l 24 23),gu 22 false (le 25 (t 24)),gu 22 false (bi .gtr 26 (t 25) (i 30)),pk 27 (t 22) tt (t 26)]
def r_c_3:List CI:=[mv 2 ff]
def r_c_4:List CI:=[mv 3 (i 0)]
def r_c_5:List CI:=[mv 28 (t 3),fa 29 0 1,l 30 29,le 31 (t 30),bi .lss 32 (t 28) (t 31)]
def r_c_6:List CI:=[fa 35 0 1,l 36 35,mv 37 (t 3),ia 38 2 36 (t 37),fa 39 0 38,l 40 39,bi .lss 41 (t 40) (i 0),mv 42 (t 41),gu 42 false (fa 43 0 1),gu 42 false (l 44 43),gu 42 false (mv 45 (t 3)),gu 42 false (ia 46 2 44 (t 45)),gu 42 false (fa 47 0 46),gu 42 false (l 48 47),gu 42 false (fa 49 1 1),gu 42 false (l 50 49),gu 42 false (le 51 (t 50)),gu 42 false (bi .gtr 52 (t 48) (t 51)),pk 53 (t 42) tt (t 52),mv 54 (t 53),gu 54 false (fa 55 0 1),gu 54 false (l 56 55),gu 54 false (mv 57 (t 3)),gu 54 false (ia 58 2 56 (t 57)),gu 54 false (fa 59 1 58),gu 54 false (l 60 59),gu 54 false (bi .lss 61 (t 60) (i 0)),pk 62 (t 54) tt (t 61),mv 63 (t 62),gu 63 false (fa 64 0 1),gu 63 false (l 65 64),gu 63 false (mv 66 (t 3)),gu 63 false (ia 67 2 65 (t 66)),gu 63 false (fa 68 1 67),gu 63 false (l 69 68),gu 63 false (bi .gtr 70 (t 69) (i 3)),pk 71 (t 63) tt (t 70)]
def r_c_7:List CI:=[mv 2 ff]
def r_c_8:List CI:=[mv 33 (t 3),bi .add 34 (t 33) (i 1),mv 3 (t 34)]
def c_c_9:CC:=(.seq (.seq (.ops r_c_5) (bs [1,3,32]) (.cond (t 32) .skip (.exit 0))) (bs [1,3]) (.seq (.block 2 (.seq (.draw r_c_6) (bs [1,3,71]) (.cond (t 71) (.seq (.ops r_c_7) (bs [2]) .ret) .skip))) (bs [1,3]) (.ops r_c_8)))
def r_c_10:List CI:=[mv 4 (i 0)]
def r_c_11:List CI:=[mv 72 (t 4),fa 73 1 1,l 74 73,le 75 (t 74),bi .lss 76 (t 72) (t 75)]
def r_c_12:List CI:=[fa 79 1 1,l 80 79,mv 81 (t 4),ia 82 2 80 (t 81),fa 83 0 82,l 84 83,bi .lss 85 (t 84) (i 0),mv 86 (t 85),gu 86 false (fa 87 1 1),gu 86 false (l 88 87),gu 86 false (mv 89 (t 4)),gu 86 false (ia 90 2 88 (t 89)),gu 86 false (fa 91 0 90),gu 86 false (l 92 91),gu 86 false (mv 93 (t 4)),gu 86 false (bi .gtr 94 (t 92) (t 93)),pk 95 (t 86) tt (t 94)]
def r_c_13:List CI:=[mv 2 ff]
def r_c_14:List CI:=[mv 77 (t 4),bi .add 78 (t 77) (i 1),mv 4 (t 78)]
def c_c_15:CC:=(.seq (.seq (.ops r_c_11) (bs [1,4,76]) (.cond (t 76) .skip (.exit 4))) (bs [1,4]) (.seq (.block 6 (.seq (.ops r_c_12) (bs [1,4,95]) (.cond (t 95) (.seq (.ops r_c_13) (bs [2]) .ret) .skip))) (bs [1,4]) (.ops r_c_14)))
def r_c_16:List CI:=[fa 96 0 1,l 97 96,le 98 (t 97),oo 99 (.makeSlice 1 1 [(.bool false)] (t 98) (t 98)),mv 5 (t 99)]
def r_c_17:List CI:=[mv 6 (i 0)]
def r_c_18:List CI:=[mv 100 (t 6),fa 101 2 1,l 102 101,le 103 (t 102),bi .lss 104 (t 100) (t 103)]
def r_c_19:List CI:=[fa 107 2 1,l 108 107,mv 109 (t 6),ia 110 3 108 (t 109),ln 111 3 110,oo 7 (.alloc [(iI 0),(.slice none 0 0),(iI 0)]),st 3 7 (t 111)]
def r_c_20:List CI:=[fa 112 0 7,l 113 112,bi .lss 114 (t 113) (i 0),mv 115 (t 114),gu 115 false (fa 116 0 7),gu 115 false (l 117 116),gu 115 false (fa 118 1 1),gu 115 false (l 119 118),gu 115 false (le 120 (t 119)),gu 115 false (bi .gtr 121 (t 117) (t 120)),pk 122 (t 115) tt (t 121),mv 123 (t 122),gu 123 false (fa 124 1 7),gu 123 false (l 125 124),gu 123 false (le 126 (t 125)),gu 123 false (bi .lss 127 (t 126) (i 1)),pk 128 (t 123) tt (t 127),mv 129 (t 128),gu 129 false (fa 130 1 7),gu 129 false (l 131 130),gu 129 false (le 132 (t 131)),gu 129 false (bi .gtr 133 (t 132) (i 3)),pk 134 (t 129) tt (t 133)]
def r_c_21:List CI:=[mv 2 ff]
def r_c_22:List CI:=[mv 8 (i 0)]
def r_c_23:List CI:=[mv 135 (t 8),fa 136 1 7,l 137 136,le 138 (t 137),bi .lss 139 (t 135) (t 138)]
def r_c_24:List CI:=[fa 142 1 7,l 143 142,mv 144 (t 8),ia 145 1 143 (t 144),l 146 145,mv 9 (t 146)]
def r_c_25:List CI:=[mv 147 (t 9),bi .lss 148 (t 147) (i 0),mv 149 (t 148),gu 149 false (mv 150 (t 9)),gu 149 false (fa 151 0 1),gu 149 false (l 152 151),gu 149 false (le 153 (t 152)),gu 149 false (bi .geq 154 (t 150) (t 153)),pk 155 (t 149) tt (t 154),mv 156 (t 155),gu 156 false (fa 157 0 1),gu 156 false (l 158 157),gu 156 false (mv 159 (t 9)),gu 156 false (ia 160 2 158 (t 159)),gu 156 false (fa 161 0 160),gu 156 false (l 162 161),gu 156 false (fa 163 0 7),gu 156 false (l 164 163),gu 156 false (bi .neq 165 (t 162) (t 164)),pk 166 (t 156) tt (t 165)]
def r_c_26:List CI:=[mv 2 ff]
def r_c_27:List CI:=[mv 10 (i 0)]
def r_c_28:List CI:=[mv 167 (t 10),mv 168 (t 8),bi .lss 169 (t 167) (t 168)]
def r_c_29:List CI:=[fa 172 1 7,l 173 172,mv 174 (t 10),ia 175 1 173 (t 174),l 176 175,mv 177 (t 9),bi .eql 178 (t 176) (t 177)]
def r_c_30:List CI:=[mv 2 ff]
def r_c_31:List CI:=[mv 170 (t 10),bi .add 171 (t 170) (i 1),mv 10 (t 171)]
def c_c_32:CC:=(.seq (.seq (.ops r_c_28) (bs [1,5,6,7,8,9,10,169]) (.cond (t 169) .skip (.exit 16))) (bs [1,5,6,7,8,9,10]) (.seq (.block 18 (.seq (.ops r_c_29) (bs [1,5,6,7,8,9,10,178]) (.cond (t 178) (.seq (.ops r_c_30) (bs [2]) .ret) .skip))) (bs [1,5,6,7,8,9,10]) (.ops r_c_31)))
def r_c_33:List CI:=[mv 179 (t 5),mv 180 (t 9),ia 181 1 179 (t 180),st 1 181 tt]
def r_c_34:List CI:=[mv 140 (t 8),bi .add 141 (t 140) (i 1),mv 8 (t 141)]
def c_c_35:CC:=(.seq (.seq (.ops r_c_23) (bs [1,5,6,7,8,139]) (.cond (t 139) .skip (.exit 12))) (bs [1,5,6,7,8]) (.seq (.block 14 (.seq (.ops r_c_24) (bs [1,5,6,7,8,9]) (.seq (.seq (.draw r_c_25) (bs [1,5,6,7,8,9,166]) (.cond (t 166) (.seq (.ops r_c_26) (bs [2]) .ret) .skip)) (bs [1,5,6,7,8,9]) (.seq (.seq (.ops r_c_27) (bs [1,5,6,7,8,9,10]) (.block 16 (.loop (bs [1,5,6,7,8,9,10]) c_c_32))) (bs [1,5,6,7,8,9]) (.ops r_c_33))))) (bs [1,5,6,7,8]) (.ops r_c_34)))
def r_c_36:List CI:=[mv 105 (t 6),bi .add 106 (t 105) (i 1),mv 6 (t 106)]
def c_c_37:CC:=(.seq (.seq (.ops r_c_18) (bs [1,5,6,104]) (.cond (t 104) .skip (.exit 8))) (bs [1,5,6]) (.seq (.block 10 (.seq (.ops r_c_19) (bs [1,5,6,7]) (.seq (.seq (.ops r_c_20) (bs [1,5,6,7,134]) (.cond (t 134) (.seq (.ops r_c_21) (bs [2]) .ret) .skip)) (bs [1,5,6,7]) (.seq (.ops r_c_22) (bs [1,5,6,7,8]) (.block 12 (.loop (bs [1,5,6,7,8]) c_c_35)))))) (bs [1,5,6]) (.ops r_c_36)))
def r_c_38:List CI:=[mv 11 (i 0)]
def r_c_39:List CI:=[mv 182 (t 11),mv 183 (t 5),le 184 (t 183),bi .lss 185 (t 182) (t 184)]
def r_c_40:List CI:=[mv 188 (t 5),mv 189 (t 11),ia 190 1 188 (t 189),l 191 190,no 192 191]
def r_c_41:List CI:=[mv 2 ff]
def r_c_42:List CI:=[mv 186 (t 11),bi .add 187 (t 186) (i 1),mv 11 (t 187)]
def c_c_43:CC:=(.seq (.seq (.ops r_c_39) (bs [5,11,185]) (.cond (t 185) .skip (.exit 20))) (bs [5,11]) (.seq (.block 22 (.seq (.ops r_c_40) (bs [5,11,192]) (.cond (t 192) (.seq (.ops r_c_41) (bs [2]) .ret) .skip))) (bs [5,11]) (.ops r_c_42)))
def r_c_44:List CI:=[mv 2 tt]
def c_c:CC:=(.seq (.ops r_c_1) (bs [1]) (.seq (.seq (.ops r_c_2) (bs [1,27]) (.cond (t 27) (.seq (.ops r_c_3) (bs [2]) .ret) .skip)) (bs [1]) (.seq (.seq (.ops r_c_4) (bs [1,3]) (.block 0 (.loop (bs [1,3]) c_c_9))) (bs [1]) (.seq (.seq (.ops r_c_10) (bs [1,4]) (.block 4 (.loop (bs [1,4]) c_c_15))) (bs [1]) (.seq (.ops r_c_16) (bs [1,5]) (.seq (.seq (.ops r_c_17) (bs [1,5,6]) (.block 8 (.loop (bs [1,5,6]) c_c_37))) (bs [5]) (.seq (.seq (.ops r_c_38) (bs [5,11]) (.block 20 (.loop (bs [5,11]) c_c_43))) [] (.seq (.ops r_c_44) (bs [2]) .ret))))))))
def f_c:zb:=⟨193,[.tmp (bits 2)],c_c,none,none⟩
def r_b_1:List CI:=[mv 13 (t 1),bi .lss 14 (t 13) (i 0),mv 15 (t 14),gu 15 false (mv 16 (t 1)),gu 15 false (mv 17 (t 0)),gu 15 false (nc 18 17),gu 15 false (fa 19 0 18),gu 15 false (fa 20 1 19),gu 15 false (l 21 20),gu 15 false (le 22 (t 21)),gu 15 false (bi .geq 23 (t 16) (t 22)),pk 24 (t 15) tt (t 23),mv 25 (t 24),gu 25 false (mv 26 (t 0)),gu 25 false (nc 27 26),gu 25 false (fa 28 5 27),gu 25 false (l 29 28),gu 25 false (mv 30 (t 1)),gu 25 false (ia 31 1 29 (t 30)),gu 25 false (l 32 31),gu 25 false (bi .gtr 33 (t 32) (i 0)),pk 34 (t 25) tt (t 33)]
def r_b_2:List CI:=[mv 35 (t 0),nc 36 35,fa 37 7 36,st 1 37 tt]
def r_b_3:List CI:=[mv 38 (t 0),nc 39 38,fa 40 5 39,l 41 40,mv 42 (t 1),ia 43 1 41 (t 42),l 44 43,bi .add 45 (t 44) (i 1),ia 46 1 41 (t 42),st 1 46 (t 45)]
def r_b_4:List CI:=[mv 47 (t 0),nc 48 47,fa 49 4 48,l 50 49,mv 51 (t 1),mv 52 (t 2),ia 53 1 50 (t 51),st 1 53 (t 52)]
def r_b_5:List CI:=[mv 54 (t 0),nc 55 54,fa 56 0 55,fa 57 1 56,l 58 57,mv 59 (t 1),ia 60 4 58 (t 59),ln 61 4 60,oo 6 (.alloc [(iI 0),(iI 0),(.slice none 0 0),(.slice none 0 0)]),st 4 6 (t 61)]
def r_b_6:List CI:=[fa 63 0 6,l 64 63,ca 65 n_h [(t 64)],mv 62 (t 65),ex 66 62 0,ex 67 62 1,ex 68 62 2,mv 7 (t 66),mv 8 (t 67),mv 9 (t 68)]
def r_b_7:List CI:=[mv 69 (t 9),no 70 69,mv 71 (t 70),gu 71 false (fa 72 3 6),gu 71 false (l 73 72),gu 71 false (le 74 (t 73)),gu 71 false (mv 75 (t 8)),gu 71 false (bi .neq 76 (t 74) (t 75)),pk 77 (t 71) tt (t 76),mv 78 (t 77),gu 78 false (mv 79 (t 7)),gu 78 false (bi .lss 80 (t 79) (i 0)),gu 78 false (mv 81 (t 80)),gu 81 true (fa 82 2 6),gu 81 true (l 83 82),gu 81 true (le 84 (t 83)),gu 81 true (bi .gtr 85 (t 84) (i 3)),gu 78 false (pk 86 (t 81) (t 85) ff),pk 87 (t 78) tt (t 86),mv 88 (t 87),gu 88 false (mv 89 (t 7)),gu 88 false (bi .geq 90 (t 89) (i 0)),gu 88 false (mv 91 (t 90)),gu 91 true (fa 92 2 6),gu 91 true (l 93 92),gu 91 true (le 94 (t 93)),gu 91 true (mv 95 (t 7)),gu 91 true (bi .neq 96 (t 94) (t 95)),gu 88 false (pk 97 (t 91) (t 96) ff),pk 98 (t 88) tt (t 97)]
def r_b_8:List CI:=[mv 99 (t 0),nc 100 99,fa 101 7 100,st 1 101 tt]
def r_b_9:List CI:=[mv 10 (i 0)]
def r_b_10:List CI:=[mv 102 (t 10),fa 103 2 6,l 104 103,le 105 (t 104),bi .lss 106 (t 102) (t 105)]
def r_b_11:List CI:=[mv 109 (t 0),mv 110 (t 0),nc 111 110,fa 112 7 111,l 113 112,mv 114 (t 113),gu 114 false (fa 115 2 6),gu 114 false (l 116 115),gu 114 false (mv 117 (t 10)),gu 114 false (ia 118 3 116 (t 117)),gu 114 false (ln 119 3 118),gu 114 false (mv 120 (t 2)),gu 114 false (ca 121 n_L [(t 119),(t 120)]),gu 114 false (no 122 121),pk 123 (t 114) tt (t 122),nc 124 109,fa 125 7 124,st 1 125 (t 123)]
def r_b_12:List CI:=[mv 107 (t 10),bi .add 108 (t 107) (i 1),mv 10 (t 108)]
def c_b_13:CC:=(.seq (.seq (.ops r_b_10) (bs [0,2,6,10,106]) (.cond (t 106) .skip (.exit 0))) (bs [0,2,6,10]) (.seq (.block 2 (.ops r_b_11)) (bs [0,2,6,10]) (.ops r_b_12)))
def r_b_14:List CI:=[mv 126 (t 2),mv 11 (t 126)]
def r_b_15:List CI:=[fa 127 0 6,l 128 127]
def r_b_16:List CI:=[bi .eql 142 (t 128) (i 2),mv 141 (t 142)]
def r_b_17:List CI:=[bi .eql 143 (t 128) (i 6),mv 141 (t 143)]
def r_b_18:List CI:=[bi .eql 144 (t 128) (i 8),mv 141 (t 144)]
def r_b_19:List CI:=[mv 145 (t 0),mv 146 (t 0),nc 147 146,fa 148 7 147,l 149 148,mv 150 (t 149),gu 150 false (fa 151 1 6),gu 150 false (l 152 151),gu 150 false (bi .lss 153 (t 152) (i 0)),pk 154 (t 150) tt (t 153),mv 155 (t 154),gu 155 false (fa 156 1 6),gu 155 false (l 157 156),gu 155 false (mv 158 (t 2)),gu 155 false (bi .geq 159 (t 157) (t 158)),pk 160 (t 155) tt (t 159),nc 161 145,fa 162 7 161,st 1 162 (t 160)]
def r_b_20:List CI:=[bi .eql 164 (t 128) (i 4),mv 163 (t 164)]
def r_b_21:List CI:=[fa 165 1 6,l 166 165,bi .lss 167 (t 166) (i 0),mv 168 (t 167),gu 168 false (fa 169 1 6),gu 168 false (l 170 169),gu 168 false (mv 171 (t 0)),gu 168 false (nc 172 171),gu 168 false (fa 173 0 172),gu 168 false (fa 174 2 173),gu 168 false (l 175 174),gu 168 false (le 176 (t 175)),gu 168 false (bi .geq 177 (t 170) (t 176)),pk 178 (t 168) tt (t 177),mv 179 (t 178),gu 179 false (mv 180 (t 0)),gu 179 false (nc 181 180),gu 179 false (fa 182 6 181),gu 179 false (l 183 182),gu 179 false (fa 184 1 6),gu 179 false (l 185 184),gu 179 false (ia 186 1 183 (t 185)),gu 179 false (l 187 186),gu 179 false (bi .gtr 188 (t 187) (i 0)),pk 189 (t 179) tt (t 188)]
def r_b_22:List CI:=[mv 190 (t 0),nc 191 190,fa 192 7 191,st 1 192 tt]
def r_b_23:List CI:=[mv 193 (t 0),nc 194 193,fa 195 6 194,l 196 195,fa 197 1 6,l 198 197,ia 199 1 196 (t 198),l 200 199,bi .add 201 (t 200) (i 1),ia 202 1 196 (t 198),st 1 202 (t 201)]
def r_b_24:List CI:=[mv 204 (t 0),nc 205 204,fa 206 0 205,fa 207 2 206,l 208 207,fa 209 1 6,l 210 209,ia 211 3 208 (t 210),ln 212 3 211,ca 213 n_Z [(t 212)],mv 203 (t 2),lo 1 (bi .add 214 (t 203) (t 213)),lo 1 (mv 11 (t 214))]
def r_b_25:List CI:=[mv 215 (t 0),mv 216 (t 0),nc 217 216,fa 218 0 217,fa 219 2 218,l 220 219,fa 221 1 6,l 222 221,ia 223 3 220 (t 222),ln 224 3 223,mv 225 (t 11),ca 226 n_k [(t 215),(t 224),(t 225)]]
def r_b_26:List CI:=[mv 129 (t 0),mv 130 (t 0),nc 131 130,fa 132 7 131,l 133 132,mv 134 (t 133),gu 134 false (fa 135 1 6),gu 134 false (l 136 135),gu 134 false (bi .neq 137 (t 136) (i 0)),pk 138 (t 134) tt (t 137),nc 139 129,fa 140 7 139,st 1 140 (t 138)]
def r_b_27:List CI:=[mv 12 (i 0)]
def r_b_28:List CI:=[mv 227 (t 12),fa 228 3 6,l 229 228,le 230 (t 229),bi .lss 231 (t 227) (t 230),mv 232 (t 231),gu 232 true (mv 233 (t 0)),gu 232 true (nc 234 233),gu 232 true (fa 235 7 234),gu 232 true (l 236 235),gu 232 true (no 237 236),pk 238 (t 232) (t 237) ff]
def r_b_29:List CI:=[mv 241 (t 0),fa 242 3 6,l 243 242,mv 244 (t 12),ia 245 1 243 (t 244),l 246 245,mv 247 (t 11),ca 248 n_b [(t 241),(t 246),(t 247)]]
def r_b_30:List CI:=[mv 239 (t 12),bi .add 240 (t 239) (i 1),mv 12 (t 240)]
def zhy:CC:=(.seq (.seq (.ops r_b_28) (bs [0,6,11,12,238]) (.cond (t 238) .skip (.exit 6))) (bs [0,6,11,12]) (.seq (.block 8 (.ops r_b_29)) (bs [0,6,11,12]) (.ops r_b_30)))
def c_b:CC:=(.seq (.seq (.ops r_b_1) (bs [0,1,2,34]) (.cond (t 34) (.seq (.ops r_b_2) [] .ret) .skip)) (bs [0,1,2]) (.seq (.ops r_b_3) (bs [0,1,2]) (.seq (.ops r_b_4) (bs [0,1,2]) (.seq (.ops r_b_5) (bs [0,2,6]) (.seq (.ops r_b_6) (bs [0,2,6,7,8,9]) (.seq (.seq (.ops r_b_7) (bs [0,2,6,98]) (.cond (t 98) (.seq (.ops r_b_8) [] .ret) .skip)) (bs [0,2,6]) (.seq (.seq (.ops r_b_9) (bs [0,2,6,10]) (.block 0 (.loop (bs [0,2,6,10]) c_b_13))) (bs [0,2,6]) (.seq (.ops r_b_14) (bs [0,2,6,11]) (.seq (.seq (.ops r_b_15) (bs [0,2,6,11,128]) (.block 4 (.seq (.seq (.ops r_b_16) (bs [0,2,6,11,128,141]) (.cond (t 141) .skip (.seq (.ops r_b_17) (bs [0,2,6,11,128,141]) (.cond (t 141) .skip (.ops r_b_18))))) (bs [0,2,6,11,128,141]) (.cond (t 141) (.ops r_b_19) (.seq (.ops r_b_20) (bs [0,2,6,11,163]) (.cond (t 163) (.seq (.seq (.draw r_b_21) (bs [0,2,6,189]) (.cond (t 189) (.seq (.ops r_b_22) [] .ret) .skip)) (bs [0,2,6]) (.seq (.draw r_b_23) (bs [0,2,6]) (.seq (.draw r_b_24) (bs [0,6,11]) (.draw r_b_25)))) (.ops r_b_26))))))) (bs [0,6,11]) (.seq (.ops r_b_27) (bs [0,6,11,12]) (.block 6 (.loop (bs [0,6,11,12]) zhy))))))))))))
def f_b:zb:=⟨249,[],c_b,none,none⟩
def r_S_1:List CI:=[oo 5 (.recov),mv 2 (t 5)]
def r_S_2:List CI:=[mv 6 (t 2),oo 7 (.bin .neq (.iface true) (t 6) (.c .nilIface))]
def r_S_3:List CI:=[mv 9 (t 2),oo 10 (.assertT 288 (.agg ⟨[(iI 0)]⟩) true (t 9)),mv 8 (t 10),ex 11 8 0,ex 12 8 1,oo 3 (.alloc [(iI 0)]),st 1 3 (t 11),mv 4 (t 12)]
def r_S_4:List CI:=[mv 13 (t 4),no 14 13]
def r_S_5:List CI:=[mv 15 (t 2),on (.panic (t 15))]
def r_S_6:List CI:=[mv 16 (t 0),fa 17 0 3,l 18 17,nc 19 16,st 1 19 (t 18)]
def c_S:CC:=(.seq (.ops r_S_1) (bs [0,2]) (.seq (.ops r_S_2) (bs [0,2,7]) (.cond (t 7) (.seq (.ops r_S_3) (bs [0,2,3,4]) (.seq (.seq (.ops r_S_4) (bs [0,2,3,14]) (.cond (t 14) (.ops r_S_5) .skip)) (bs [0,3]) (.ops r_S_6))) .skip)))
def f_S:zb:=⟨20,[],c_S,none,none⟩
def r_E_1:List CI:=[bx 1 (t 0),mv 2 (.c (.pointer none))]
def r_E_2:List CI:=[fa 6 0 1,l 7 6,le 8 (t 7),bi .leq 9 (t 8) (i 12),mv 10 (t 9),gu 10 true (fa 11 1 1),gu 10 true (l 12 11),gu 10 true (le 13 (t 12)),gu 10 true (bi .leq 14 (t 13) (i 60)),pk 15 (t 10) (t 14) ff,mv 16 (t 15),gu 16 true (fa 17 2 1),gu 16 true (l 18 17),gu 16 true (le 19 (t 18)),gu 16 true (bi .leq 20 (t 19) (i 12)),pk 21 (t 16) (t 20) ff,ca 22 n_K [(t 21)]]
def r_E_3:List CI:=[fa 23 0 1,l 24 23,le 25 (t 24),mv 26 (i 0)]
def r_E_4:List CI:=[bi .lss 27 (t 26) (t 25)]
def r_E_5:List CI:=[mv 28 (t 26),ia 29 1 24 (t 26),l 30 29,mv 3 (t 28),mv 4 (t 30)]
def r_E_6:List CI:=[mv 31 (t 4),ca 32 n_T [(t 31)],mv 33 (t 32),gu 33 true (mv 34 (t 3)),gu 33 true (bi .eql 35 (t 34) (i 0)),gu 33 true (mv 36 (t 35)),gu 36 false (fa 37 0 1),gu 36 false (l 38 37),gu 36 false (mv 39 (t 3)),gu 36 false (bi .sub 40 (t 39) (i 1)),gu 36 false (ia 41 1 38 (t 40)),gu 36 false (l 42 41),gu 36 false (mv 43 (t 4)),gu 36 false (bi .lss 44 (t 42) (t 43)),gu 33 true (pk 45 (t 36) tt (t 44)),pk 46 (t 33) (t 45) ff,ca 47 n_K [(t 46)]]
def r_E_7:List CI:=[bi .add 48 (t 26) (i 1),mv 26 (t 48)]
def c_E_8:CC:=(.seq (.ops r_E_4) (bs [1,24,25,26,27]) (.seq (.cond (t 27) .skip (.exit 0)) (bs [1,24,25,26]) (.seq (.block 2 (.seq (.ops r_E_5) (bs [1,3,4,24,25,26]) (.ops r_E_6))) (bs [1,24,25,26]) (.ops r_E_7))))
def r_E_9:List CI:=[ln 49 4 1,fa 50 1 1,l 51 50,le 52 (t 51),oo 53 (.makeSlice 1 8 [(iI 0)] (t 52) (t 52)),fa 54 1 1,l 55 54,le 56 (t 55),oo 57 (.makeSlice 1 1 [(.bool false)] (t 56) (t 56)),fa 58 2 1,l 59 58,le 60 (t 59),oo 61 (.makeSlice 1 1 [(.bool false)] (t 60) (t 60)),oo 62 (.build [(.slice none 0 0),(.slice none 0 0),(.slice none 0 0),(iI 0),(.slice none 0 0),(.slice none 0 0),(.slice none 0 0)] [(0,4,(t 49)),(4,1,(t 53)),(5,1,(t 57)),(6,1,(t 61))]),bx 63 (t 62),mv 5 (t 63)]
def r_E_10:List CI:=[mv 64 (t 5),fa 65 3 1,l 66 65,fa 67 0 1,l 68 67,le 69 (t 68),ca 70 n_a [(t 64),(t 66),(t 69)]]
def r_E_11:List CI:=[mv 71 (t 5),nc 72 71,fa 73 5 72,l 74 73,ca 75 n_D [(t 74),ff],no 76 75,mv 77 (t 76),gu 77 true (mv 78 (t 5)),gu 77 true (nc 79 78),gu 77 true (fa 80 6 79),gu 77 true (l 81 80),gu 77 true (ca 82 n_D [(t 81),ff]),gu 77 true (no 83 82),pk 84 (t 77) (t 83) ff,ca 85 n_K [(t 84)]]
def r_E_12:List CI:=[mv 86 (t 5),mv 2 (t 86)]
def c_E:CC:=(.seq (.ops r_E_1) (bs [1]) (.seq (.ops r_E_2) (bs [1]) (.seq (.seq (.ops r_E_3) (bs [1,24,25,26]) (.block 0 (.loop (bs [1,24,25,26]) c_E_8))) (bs [1]) (.seq (.draw r_E_9) (bs [1,5]) (.seq (.ops r_E_10) (bs [5]) (.seq (.ops r_E_11) (bs [5]) (.seq (.ops r_E_12) (bs [2]) .ret)))))))
def f_E:zb:=⟨87,[.tmp (bits 2)],c_E,none,none⟩
def r_A_1:List CI:=[mv 4 ff]
def r_A_2:List CI:=[mv 5 (i 0)]
def r_A_3:List CI:=[mv 6 (t 5),mv 7 (t 0),le 8 (t 7),bi .lss 9 (t 6) (t 8)]
def r_A_4:List CI:=[mv 12 (t 0),mv 13 (t 5),ia 14 1 12 (t 13),l 15 14,mv 16 (t 1),bi .eql 17 (t 15) (t 16)]
def r_A_5:List CI:=[mv 4 tt]
def r_A_6:List CI:=[mv 10 (t 5),bi .add 11 (t 10) (i 1),mv 5 (t 11)]
def c_A_7:CC:=(.seq (.seq (.ops r_A_3) (bs [0,1,5,9]) (.cond (t 9) .skip (.exit 0))) (bs [0,1,5]) (.seq (.block 2 (.seq (.ops r_A_4) (bs [0,1,5,17]) (.cond (t 17) (.seq (.ops r_A_5) (bs [4]) .ret) .skip))) (bs [0,1,5]) (.ops r_A_6)))
def r_A_8:List CI:=[mv 4 ff]
def c_A:CC:=(.seq (.ops r_A_1) (bs [0,1]) (.seq (.seq (.ops r_A_2) (bs [0,1,5]) (.block 0 (.loop (bs [0,1,5]) c_A_7))) [] (.seq (.ops r_A_8) (bs [4]) .ret)))
def f_A:zb:=⟨18,[.tmp (bits 4)],c_A,none,none⟩
def r_h_1:List CI:=[mv 2 (i 0),mv 3 (i 0),mv 4 ff]
def r_h_2:List CI:=[mv 5 (t 0)]
def r_h_3:List CI:=[bi .eql 7 (t 5) (i 1),mv 6 (t 7)]
def r_h_4:List CI:=[bi .eql 8 (t 5) (i 7),mv 6 (t 8)]
def r_h_5:List CI:=[mv 2 (i 0),mv 3 (i 0),mv 4 tt]
def r_h_6:List CI:=[bi .eql 10 (t 5) (i 2),mv 9 (t 10)]
def r_h_7:List CI:=[mv 2 (i (-1)),mv 3 (i 0),mv 4 tt]
def r_h_8:List CI:=[bi .eql 12 (t 5) (i 3),mv 11 (t 12)]
def r_h_9:List CI:=[mv 2 (i 0),mv 3 (i 2),mv 4 tt]
def r_h_10:List CI:=[bi .eql 14 (t 5) (i 5),mv 13 (t 14)]
def r_h_11:List CI:=[mv 2 (i 1),mv 3 (i 2),mv 4 tt]
def r_h_12:List CI:=[bi .eql 16 (t 5) (i 4),mv 15 (t 16)]
def r_h_13:List CI:=[bi .eql 17 (t 5) (i 6),mv 15 (t 17)]
def r_h_14:List CI:=[bi .eql 18 (t 5) (i 8),mv 15 (t 18)]
def r_h_15:List CI:=[mv 2 (i 0),mv 3 (i 1),mv 4 tt]
def r_h_16:List CI:=[mv 2 (i 0),mv 3 (i 0),mv 4 ff]
def c_h:CC:=(.seq (.ops r_h_1) (bs [0]) (.seq (.seq (.ops r_h_2) (bs [5]) (.block 0 (.seq (.seq (.ops r_h_3) (bs [5,6]) (.cond (t 6) .skip (.ops r_h_4))) (bs [5,6]) (.cond (t 6) (.seq (.ops r_h_5) (bs [2,3,4]) .ret) (.seq (.ops r_h_6) (bs [5,9]) (.cond (t 9) (.seq (.ops r_h_7) (bs [2,3,4]) .ret) (.seq (.ops r_h_8) (bs [5,11]) (.cond (t 11) (.seq (.ops r_h_9) (bs [2,3,4]) .ret) (.seq (.ops r_h_10) (bs [5,13]) (.cond (t 13) (.seq (.ops r_h_11) (bs [2,3,4]) .ret) (.seq (.seq (.ops r_h_12) (bs [5,15]) (.cond (t 15) .skip (.seq (.ops r_h_13) (bs [5,15]) (.cond (t 15) .skip (.ops r_h_14))))) (bs [15]) (.cond (t 15) (.seq (.ops r_h_15) (bs [2,3,4]) .ret) .skip)))))))))))) [] (.seq (.ops r_h_16) (bs [2,3,4]) .ret)))
def f_h:zb:=⟨19,[.tmp (bits 2),.tmp (bits 3),.tmp (bits 4)],c_h,none,none⟩
def r_L_1:List CI:=[bx 2 (t 0),mv 4 ff]
def r_L_2:List CI:=[ln 5 3 2,ca 6 n_u [(t 5),(i 60)],bi .leq 7 (t 6) (i 60),mv 8 (t 7),gu 8 true (ln 9 3 2),gu 8 true (ca 10 n_t [(t 9)]),gu 8 true (bi .leq 11 (t 10) (i 12)),pk 12 (t 8) (t 11) ff,mv 13 (t 12),gu 13 true (ln 14 3 2),gu 13 true (mv 15 (t 1)),gu 13 true (ca 16 n_p [(t 14),(t 15)]),pk 17 (t 13) (t 16) ff,mv 4 (t 17)]
def c_L:CC:=(.seq (.ops r_L_1) (bs [1,2]) (.seq (.ops r_L_2) (bs [4]) .ret))
def f_L:zb:=⟨18,[.tmp (bits 4)],c_L,none,none⟩
def r_Z_1:List CI:=[bx 1 (t 0),mv 2 (i 0)]
def r_Z_2:List CI:=[fa 3 0 1,l 4 3,le 5 (t 4),fa 6 1 1,l 7 6,le 8 (t 7),bi .add 9 (t 5) (t 8),mv 2 (t 9)]
def c_Z:CC:=(.seq (.ops r_Z_1) (bs [1]) (.seq (.ops r_Z_2) (bs [2]) .ret))
def f_Z:zb:=⟨10,[.tmp (bits 2)],c_Z,none,none⟩
def r_k_1:List CI:=[bx 4 (t 1)]
def r_k_2:List CI:=[mv 6 (i 0)]
def r_k_3:List CI:=[mv 8 (t 6),fa 9 2 4,l 10 9,le 11 (t 10),bi .lss 12 (t 8) (t 11),mv 13 (t 12),gu 13 true (mv 14 (t 0)),gu 13 true (nc 15 14),gu 13 true (fa 16 7 15),gu 13 true (l 17 16),gu 13 true (no 18 17),pk 19 (t 13) (t 18) ff]
def r_k_4:List CI:=[ln 30 3 4,fa 31 2 4,l 32 31,mv 33 (t 6),ia 34 3 32 (t 33),ln 35 3 34,ca 36 n_z [(t 30),(t 35)],mv 22 (t 0),fa 23 2 4,l 24 23,mv 25 (t 6),ia 26 3 24 (t 25),fa 27 2 26,l 28 27,mv 29 (t 2),lo 1 (bi .add 37 (t 29) (t 36)),lo 1 (ca 38 n_b [(t 22),(t 28),(t 37)])]
def r_k_5:List CI:=[mv 20 (t 6),bi .add 21 (t 20) (i 1),mv 6 (t 21)]
def c_k_6:CC:=(.seq (.seq (.ops r_k_3) (bs [0,2,4,6,19]) (.cond (t 19) .skip (.exit 0))) (bs [0,2,4,6]) (.seq (.block 2 (.draw r_k_4)) (bs [0,2,4,6]) (.ops r_k_5)))
def r_k_7:List CI:=[mv 7 (i 0)]
def r_k_8:List CI:=[mv 39 (t 7),fa 40 1 4,l 41 40,le 42 (t 41),bi .lss 43 (t 39) (t 42),mv 44 (t 43),gu 44 true (mv 45 (t 0)),gu 44 true (nc 46 45),gu 44 true (fa 47 7 46),gu 44 true (l 48 47),gu 44 true (no 49 48),pk 50 (t 44) (t 49) ff]
def r_k_9:List CI:=[mv 53 (t 0),fa 54 1 4,l 55 54,mv 56 (t 7),ia 57 2 55 (t 56),fa 58 1 57,l 59 58,mv 60 (t 2),ca 61 n_b [(t 53),(t 59),(t 60)]]
def r_k_10:List CI:=[mv 51 (t 7),bi .add 52 (t 51) (i 1),mv 7 (t 52)]
def c_k_11:CC:=(.seq (.seq (.ops r_k_8) (bs [0,2,4,7,50]) (.cond (t 50) .skip (.exit 4))) (bs [0,2,4,7]) (.seq (.block 6 (.ops r_k_9)) (bs [0,2,4,7]) (.ops r_k_10)))
def c_k:CC:=(.seq (.ops r_k_1) (bs [0,2,4]) (.seq (.seq (.ops r_k_2) (bs [0,2,4,6]) (.block 0 (.loop (bs [0,2,4,6]) c_k_6))) (bs [0,2,4]) (.seq (.ops r_k_7) (bs [0,2,4,7]) (.block 4 (.loop (bs [0,2,4,7]) c_k_11)))))
def f_k:zb:=⟨62,[],c_k,none,none⟩
def r_K_1:List CI:=[mv 2 (t 0),no 3 2]
def r_K_2:List CI:=[oo 4 (.build [(iI 0)] [(0,1,(i 2))]),oo 5 (.mkI 288 (t 4)),on (.panic (t 5))]
def c_K:CC:=(.seq (.ops r_K_1) (bs [3]) (.cond (t 3) (.ops r_K_2) .skip))
def f_K:zb:=⟨6,[],c_K,none,none⟩
def r_T_1:List CI:=[mv 2 ff]
def r_T_2:List CI:=[mv 4 (t 0),oo 5 (.blt .lenStr [(t 4)]),mv 6 (i 0)]
def r_T_3:List CI:=[bi .lss 7 (t 6) (t 5)]
def r_T_4:List CI:=[mv 8 (t 6),mv 3 (t 8)]
def r_T_5:List CI:=[mv 9 (t 0),mv 10 (t 3),oo 11 (.strIdx (t 9) (t 10)),bi .lss 12 (t 11) (.c (.int .u8 97)),mv 13 (t 12),gu 13 false (mv 14 (t 0)),gu 13 false (mv 15 (t 3)),gu 13 false (oo 16 (.strIdx (t 14) (t 15))),gu 13 false (bi .gtr 17 (t 16) (.c (.int .u8 122))),pk 18 (t 13) tt (t 17)]
def r_T_6:List CI:=[mv 2 ff]
def r_T_7:List CI:=[bi .add 19 (t 6) (i 1),mv 6 (t 19)]
def c_T_8:CC:=(.seq (.ops r_T_3) (bs [0,5,6,7]) (.seq (.cond (t 7) .skip (.exit 0)) (bs [0,5,6]) (.seq (.block 2 (.seq (.ops r_T_4) (bs [0,3,5,6]) (.seq (.ops r_T_5) (bs [0,5,6,18]) (.cond (t 18) (.seq (.ops r_T_6) (bs [2]) .ret) .skip)))) (bs [0,5,6]) (.ops r_T_7))))
def r_T_9:List CI:=[mv 20 (t 0),oo 21 (.blt .lenStr [(t 20)]),bi .gtr 22 (t 21) (i 0),mv 23 (t 22),gu 23 true (mv 24 (t 0)),gu 23 true (oo 25 (.blt .lenStr [(t 24)])),gu 23 true (bi .leq 26 (t 25) (i 8)),pk 27 (t 23) (t 26) ff,mv 28 (t 27),gu 28 true (ca 29 n_1 []),gu 28 true (mv 30 (t 0)),gu 28 true (oo 31 (.lookup .str (.bool false) false (t 29) (t 30))),gu 28 true (no 32 31),pk 33 (t 28) (t 32) ff,mv 2 (t 33)]
def c_T:CC:=(.seq (.ops r_T_1) (bs [0]) (.seq (.seq (.ops r_T_2) (bs [0,5,6]) (.block 0 (.loop (bs [0,5,6]) c_T_8))) (bs [0]) (.seq (.ops r_T_9) (bs [2]) .ret)))
def f_T:zb:=⟨34,[.tmp (bits 2)],c_T,none,none⟩
def r_a_1:List CI:=[mv 18 (t 1),bi .geq 19 (t 18) (i 0),mv 20 (t 19),gu 20 true (mv 21 (t 1)),gu 20 true (mv 22 (t 0)),gu 20 true (nc 23 22),gu 20 true (fa 24 0 23),gu 20 true (fa 25 1 24),gu 20 true (l 26 25),gu 20 true (le 27 (t 26)),gu 20 true (bi .lss 28 (t 21) (t 27)),pk 29 (t 20) (t 28) ff,mv 30 (t 29),gu 30 true (mv 31 (t 0)),gu 30 true (nc 32 31),gu 30 true (fa 33 5 32),gu 30 true (l 34 33),gu 30 true (mv 35 (t 1)),gu 30 true (ia 36 1 34 (t 35)),gu 30 true (l 37 36),gu 30 true (no 38 37),pk 39 (t 30) (t 38) ff,ca 40 n_K [(t 39)]]
def r_a_2:List CI:=[mv 41 (t 0),nc 42 41,fa 43 5 42,l 44 43,mv 45 (t 1),mv 46 (t 0),nc 47 46,fa 48 4 47,l 49 48,ia 52 1 44 (t 45),st 1 52 tt,mv 50 (t 1),mv 51 (t 2),lo 1 (ia 53 1 49 (t 50)),lo 1 (st 1 53 (t 51))]
def r_a_3:List CI:=[mv 54 (t 0),nc 55 54,fa 56 0 55,fa 57 1 56,l 58 57,mv 59 (t 1),ia 60 4 58 (t 59),ln 61 4 60,oo 6 (.alloc [(iI 0),(iI 0),(.slice none 0 0),(.slice none 0 0)]),st 4 6 (t 61)]
def r_a_4:List CI:=[fa 62 0 6,l 63 62,ca 64 n_r [(t 63)],mv 7 (t 64)]
def r_a_5:List CI:=[mv 65 (t 7),oo 66 (.bin .neq (.iface true) (t 65) (.c .nilIface)),mv 67 (t 66),gu 67 true (mv 71 (t 7)),gu 67 true (oo 72 (.invoke [(325,n_Y),(326,n_X),(327,n_U),(328,n_V),(345,n_0)] (t 71) [])),gu 67 true (fa 68 3 6),gu 67 true (l 69 68),gu 67 true (le 70 (t 69)),lo 1 (gu 67 true (bi .eql 73 (t 70) (t 72))),lo 1 (pk 74 (t 67) (t 73) ff),lo 1 (ca 75 n_K [(t 74)])]
def r_a_6:List CI:=[mv 8 (i 0)]
def r_a_7:List CI:=[mv 76 (t 7)]
def r_a_8:List CI:=[oo 81 (.assertT 325 (.agg ⟨[]⟩) true (t 76)),ex 82 81 1,ex 83 81 0]
def r_a_9:List CI:=[fa 84 2 6,l 85 84,le 86 (t 85),oo 87 (.blt .min [(t 86),(i 3)]),mv 8 (t 87)]
def r_a_10:List CI:=[fa 88 1 6,l 89 88,bi .geq 90 (t 89) (i 0),mv 91 (t 90),gu 91 true (fa 92 1 6),gu 91 true (l 93 92),gu 91 true (mv 94 (t 2)),gu 91 true (bi .lss 95 (t 93) (t 94)),pk 96 (t 91) (t 95) ff,ca 97 n_K [(t 96)]]
def r_a_11:List CI:=[oo 98 (.assertT 326 (.agg ⟨[]⟩) true (t 76)),ex 99 98 1,ex 100 98 0]
def r_a_12:List CI:=[fa 101 1 6,l 102 101,bi .geq 103 (t 102) (i 0),mv 104 (t 103),gu 104 true (fa 105 1 6),gu 104 true (l 106 105),gu 104 true (mv 107 (t 2)),gu 104 true (bi .lss 108 (t 106) (t 107)),pk 109 (t 104) (t 108) ff,ca 110 n_K [(t 109)]]
def r_a_13:List CI:=[oo 111 (.assertT 327 (.agg ⟨[]⟩) true (t 76)),ex 112 111 1,ex 113 111 0]
def r_a_14:List CI:=[fa 114 1 6,l 115 114,bi .geq 116 (t 115) (i 0),mv 117 (t 116),gu 117 true (fa 118 1 6),gu 117 true (l 119 118),gu 117 true (mv 120 (t 0)),gu 117 true (nc 121 120),gu 117 true (fa 122 0 121),gu 117 true (fa 123 2 122),gu 117 true (l 124 123),gu 117 true (le 125 (t 124)),gu 117 true (bi .lss 126 (t 119) (t 125)),pk 127 (t 117) (t 126) ff,mv 128 (t 127),gu 128 true (mv 129 (t 0)),gu 128 true (nc 130 129),gu 128 true (fa 131 6 130),gu 128 true (l 132 131),gu 128 true (fa 133 1 6),gu 128 true (l 134 133),gu 128 true (ia 135 1 132 (t 134)),gu 128 true (l 136 135),gu 128 true (no 137 136),pk 138 (t 128) (t 137) ff,ca 139 n_K [(t 138)]]
def r_a_15:List CI:=[oo 140 (.assertT 328 (.agg ⟨[]⟩) true (t 76)),ex 141 140 1,ex 142 140 0]
def r_a_16:List CI:=[mv 8 (i 1)]
def r_a_17:List CI:=[fa 143 1 6,l 144 143,bi .eql 145 (t 144) (i 0),ca 146 n_K [(t 145)]]
def r_a_18:List CI:=[fa 77 1 6,l 78 77,bi .eql 79 (t 78) (i 0),ca 80 n_K [(t 79)]]
def r_a_19:List CI:=[fa 147 2 6,l 148 147,le 149 (t 148),mv 150 (t 8),bi .eql 151 (t 149) (t 150),ca 152 n_K [(t 151)]]
def r_a_20:List CI:=[fa 153 2 6,l 154 153,le 155 (t 154),mv 156 (i 0)]
def r_a_21:List CI:=[bi .lss 157 (t 156) (t 155)]
def r_a_22:List CI:=[ia 158 3 154 (t 156),ln 159 3 158,oo 10 (.alloc [(iI 0),(iI 0),(.slice none 0 0)]),st 3 10 (t 159)]
def r_a_23:List CI:=[ln 160 3 10,mv 161 (t 2),ca 162 n_R [(t 160),(t 161)]]
def r_a_24:List CI:=[bi .add 163 (t 156) (i 1),mv 156 (t 163)]
def c_a_25:CC:=(.seq (.ops r_a_21) (bs [0,2,6,154,155,156,157]) (.seq (.cond (t 157) .skip (.exit 2)) (bs [0,2,6,154,155,156]) (.seq (.block 4 (.seq (.ops r_a_22) (bs [0,2,6,10,154,155,156]) (.ops r_a_23))) (bs [0,2,6,154,155,156]) (.ops r_a_24))))
def r_a_26:List CI:=[fa 164 0 6,l 165 164,bi .eql 166 (t 165) (i 4)]
def r_a_27:List CI:=[mv 167 (t 0),nc 168 167,fa 169 6 168,l 170 169,fa 171 1 6,l 172 171,ia 173 1 170 (t 172),st 1 173 tt]
def r_a_28:List CI:=[mv 174 (t 0),nc 175 174,fa 176 0 175,fa 177 2 176,l 178 177,fa 179 1 6,l 180 179,ia 181 3 178 (t 180),ln 182 3 181,oo 11 (.alloc [(.slice none 0 0),(.slice none 0 0),(.slice none 0 0)]),st 3 11 (t 182)]
def r_a_29:List CI:=[ln 183 3 11,ca 184 n_i [(t 183)]]
def r_a_30:List CI:=[mv 185 (t 2),ln 186 3 11,ca 187 n_2 [(t 186)],bi .add 188 (t 185) (t 187),mv 2 (t 188)]
def r_a_31:List CI:=[fa 189 2 11,l 190 189,le 191 (t 190),mv 192 (i 0)]
def r_a_32:List CI:=[bi .lss 193 (t 192) (t 191)]
def r_a_33:List CI:=[ia 194 3 190 (t 192),ln 195 3 194,oo 13 (.alloc [(iI 0),(.slice none 0 0),(iI 0)]),st 3 13 (t 195)]
def r_a_34:List CI:=[ln 200 3 11,ln 201 3 13,ca 202 n_F [(t 200),(t 201)],mv 196 (t 0),fa 197 2 13,l 198 197,mv 199 (t 2),lo 1 (bi .add 203 (t 199) (t 202)),lo 1 (ca 204 n_a [(t 196),(t 198),(t 203)])]
def r_a_35:List CI:=[bi .add 205 (t 192) (i 1),mv 192 (t 205)]
def c_a_36:CC:=(.seq (.ops r_a_32) (bs [0,2,6,11,190,191,192,193]) (.seq (.cond (t 193) .skip (.exit 6)) (bs [0,2,6,11,190,191,192]) (.seq (.block 8 (.seq (.ops r_a_33) (bs [0,2,6,11,13,190,191,192]) (.draw r_a_34))) (bs [0,2,6,11,190,191,192]) (.ops r_a_35))))
def r_a_37:List CI:=[fa 206 1 11,l 207 206,le 208 (t 207),mv 209 (i 0)]
def r_a_38:List CI:=[bi .lss 210 (t 209) (t 208)]
def r_a_39:List CI:=[ia 211 2 207 (t 209),ln 212 2 211,oo 15 (.alloc [(iI 0),(iI 0)]),st 2 15 (t 212)]
def r_a_40:List CI:=[mv 213 (t 0),fa 214 1 15,l 215 214,mv 216 (t 2),ca 217 n_a [(t 213),(t 215),(t 216)]]
def r_a_41:List CI:=[bi .add 218 (t 209) (i 1),mv 209 (t 218)]
def c_a_42:CC:=(.seq (.ops r_a_38) (bs [0,2,6,207,208,209,210]) (.seq (.cond (t 210) .skip (.exit 10)) (bs [0,2,6,207,208,209]) (.seq (.block 12 (.seq (.ops r_a_39) (bs [0,2,6,15,207,208,209]) (.ops r_a_40))) (bs [0,2,6,207,208,209]) (.ops r_a_41))))
def r_a_43:List CI:=[fa 219 3 6,l 220 219,le 221 (t 220),mv 222 (i 0)]
def r_a_44:List CI:=[bi .lss 223 (t 222) (t 221)]
def r_a_45:List CI:=[ia 224 1 220 (t 222),l 225 224,mv 17 (t 225)]
def r_a_46:List CI:=[mv 226 (t 0),mv 227 (t 17),mv 228 (t 2),ca 229 n_a [(t 226),(t 227),(t 228)]]
def r_a_47:List CI:=[bi .add 230 (t 222) (i 1),mv 222 (t 230)]
def c_a_48:CC:=(.seq (.ops r_a_44) (bs [0,2,220,221,222,223]) (.seq (.cond (t 223) .skip (.exit 14)) (bs [0,2,220,221,222]) (.seq (.block 16 (.seq (.ops r_a_45) (bs [0,2,17,220,221,222]) (.ops r_a_46))) (bs [0,2,220,221,222]) (.ops r_a_47))))
def c_a:CC:=(.seq (.ops r_a_1) (bs [0,1,2]) (.seq (.draw r_a_2) (bs [0,1,2]) (.seq (.ops r_a_3) (bs [0,2,6]) (.seq (.ops r_a_4) (bs [0,2,6,7]) (.seq (.draw r_a_5) (bs [0,2,6,7]) (.seq (.ops r_a_6) (bs [0,2,6,7,8]) (.seq (.seq (.ops r_a_7) (bs [0,2,6,8,76]) (.block 0 (.seq (.ops r_a_8) (bs [0,2,6,8,76,82]) (.cond (t 82) (.seq (.ops r_a_9) (bs [0,2,6,8]) (.ops r_a_10)) (.seq (.ops r_a_11) (bs [0,2,6,8,76,99]) (.cond (t 99) (.ops r_a_12) (.seq (.ops r_a_13) (bs [0,2,6,8,76,112]) (.cond (t 112) (.draw r_a_14) (.seq (.ops r_a_15) (bs [0,2,6,8,141]) (.cond (t 141) (.seq (.ops r_a_16) (bs [0,2,6,8]) (.ops r_a_17)) (.ops r_a_18))))))))))) (bs [0,2,6,8]) (.seq (.ops r_a_19) (bs [0,2,6]) (.seq (.seq (.ops r_a_20) (bs [0,2,6,154,155,156]) (.block 2 (.loop (bs [0,2,6,154,155,156]) c_a_25))) (bs [0,2,6]) (.seq (.seq (.ops r_a_26) (bs [0,2,6,166]) (.cond (t 166) (.seq (.draw r_a_27) (bs [0,2,6]) (.seq (.draw r_a_28) (bs [0,2,6,11]) (.seq (.ops r_a_29) (bs [0,2,6,11]) (.seq (.ops r_a_30) (bs [0,2,6,11]) (.seq (.seq (.ops r_a_31) (bs [0,2,6,11,190,191,192]) (.block 6 (.loop (bs [0,2,6,11,190,191,192]) c_a_36))) (bs [0,2,6,11]) (.seq (.ops r_a_37) (bs [0,2,6,207,208,209]) (.block 10 (.loop (bs [0,2,6,207,208,209]) c_a_42)))))))) .skip)) (bs [0,2,6]) (.seq (.ops r_a_43) (bs [0,2,220,221,222]) (.block 14 (.loop (bs [0,2,220,221,222]) c_a_48)))))))))))))
def f_a:zb:=⟨231,[],c_a,none,none⟩
def r_D_1:List CI:=[mv 4 ff]
def r_D_2:List CI:=[mv 5 (t 0),mv 6 (t 1),ca 7 n_o [(t 5),(t 6)],bi .geq 8 (t 7) (i 0),mv 4 (t 8)]
def c_D:CC:=(.seq (.ops r_D_1) (bs [0,1]) (.seq (.ops r_D_2) (bs [4]) .ret))
def f_D:zb:=⟨9,[.tmp (bits 4)],c_D,none,none⟩
def r_u_1:List CI:=[bx 2 (t 0),mv 4 (i 0)]
def r_u_2:List CI:=[mv 5 (i 1)]
def r_u_3:List CI:=[mv 6 (i 0)]
def r_u_4:List CI:=[mv 7 (t 6),fa 8 2 2,l 9 8,le 10 (t 9),bi .lss 11 (t 7) (t 10),mv 12 (t 11),gu 12 true (mv 13 (t 5)),gu 12 true (mv 14 (t 1)),gu 12 true (bi .leq 15 (t 13) (t 14)),pk 16 (t 12) (t 15) ff]
def r_u_5:List CI:=[mv 19 (t 5),fa 20 2 2,l 21 20,mv 22 (t 6),ia 23 3 21 (t 22),ln 24 3 23,mv 25 (t 1),mv 26 (t 5),bi .sub 27 (t 25) (t 26),ca 28 n_u [(t 24),(t 27)],bi .add 29 (t 19) (t 28),mv 5 (t 29)]
def r_u_6:List CI:=[mv 17 (t 6),bi .add 18 (t 17) (i 1),mv 6 (t 18)]
def c_u_7:CC:=(.seq (.seq (.ops r_u_4) (bs [1,2,5,6,16]) (.cond (t 16) .skip (.exit 0))) (bs [1,2,5,6]) (.seq (.block 2 (.ops r_u_5)) (bs [1,2,5,6]) (.ops r_u_6)))
def r_u_8:List CI:=[mv 30 (t 5),mv 4 (t 30)]
def c_u:CC:=(.seq (.ops r_u_1) (bs [1,2]) (.seq (.ops r_u_2) (bs [1,2,5]) (.seq (.seq (.ops r_u_3) (bs [1,2,5,6]) (.block 0 (.loop (bs [1,2,5,6]) c_u_7))) (bs [5]) (.seq (.ops r_u_8) (bs [4]) .ret))))
def f_u:zb:=⟨31,[.tmp (bits 4)],c_u,none,none⟩
def r_t_1:List CI:=[bx 1 (t 0),mv 2 (i 0)]
def r_t_2:List CI:=[mv 3 (i 0)]
def r_t_3:List CI:=[mv 4 (i 0)]
def r_t_4:List CI:=[mv 5 (t 4),fa 6 2 1,l 7 6,le 8 (t 7),bi .lss 9 (t 5) (t 8)]
def r_t_5:List CI:=[mv 12 (t 3),fa 13 2 1,l 14 13,mv 15 (t 4),ia 16 3 14 (t 15),ln 17 3 16,ca 18 n_t [(t 17)],oo 19 (.blt .max [(t 12),(t 18)]),mv 3 (t 19)]
def r_t_6:List CI:=[mv 10 (t 4),bi .add 11 (t 10) (i 1),mv 4 (t 11)]
def c_t_7:CC:=(.seq (.seq (.ops r_t_4) (bs [1,3,4,9]) (.cond (t 9) .skip (.exit 0))) (bs [1,3,4]) (.seq (.block 2 (.ops r_t_5)) (bs [1,3,4]) (.ops r_t_6)))
def r_t_8:List CI:=[mv 20 (t 3),bi .add 21 (t 20) (i 1),mv 2 (t 21)]
def c_t:CC:=(.seq (.ops r_t_1) (bs [1]) (.seq (.ops r_t_2) (bs [1,3]) (.seq (.seq (.ops r_t_3) (bs [1,3,4]) (.block 0 (.loop (bs [1,3,4]) c_t_7))) (bs [3]) (.seq (.ops r_t_8) (bs [2]) .ret))))
def f_t:zb:=⟨22,[.tmp (bits 2)],c_t,none,none⟩
def r_p_1:List CI:=[bx 2 (t 0),mv 4 ff]
def r_p_2:List CI:=[fa 6 0 2,l 7 6,bi .eql 8 (t 7) (i 1),mv 5 (t 8)]
def r_p_3:List CI:=[fa 9 2 2,l 10 9,le 11 (t 10),bi .eql 12 (t 11) (i 0),mv 13 (t 12),gu 13 true (fa 14 1 2),gu 13 true (l 15 14),gu 13 true (bi .geq 16 (t 15) (i (-1000000000))),pk 17 (t 13) (t 16) ff,mv 18 (t 17),gu 18 true (fa 19 1 2),gu 18 true (l 20 19),gu 18 true (bi .leq 21 (t 20) (i 1000000000)),pk 22 (t 18) (t 21) ff,mv 4 (t 22)]
def r_p_4:List CI:=[fa 24 0 2,l 25 24,bi .eql 26 (t 25) (i 2),mv 23 (t 26)]
def r_p_5:List CI:=[fa 27 2 2,l 28 27,le 29 (t 28),bi .eql 30 (t 29) (i 0),mv 31 (t 30),gu 31 true (fa 32 1 2),gu 31 true (l 33 32),gu 31 true (bi .geq 34 (t 33) (i 0)),pk 35 (t 31) (t 34) ff,mv 36 (t 35),gu 36 true (fa 37 1 2),gu 36 true (l 38 37),gu 36 true (mv 39 (t 1)),gu 36 true (bi .lss 40 (t 38) (t 39)),pk 41 (t 36) (t 40) ff,mv 4 (t 41)]
def r_p_6:List CI:=[fa 43 0 2,l 44 43,bi .lss 45 (t 44) (i 3),mv 46 (t 45),gu 46 false (fa 47 0 2),gu 46 false (l 48 47),gu 46 false (bi .gtr 49 (t 48) (i 7)),pk 50 (t 46) tt (t 49),mv 51 (t 50),gu 51 false (fa 52 2 2),gu 51 false (l 53 52),gu 51 false (le 54 (t 53)),gu 51 false (bi .neq 55 (t 54) (i 2)),pk 56 (t 51) tt (t 55),mv 57 (t 56),gu 57 false (fa 58 1 2),gu 57 false (l 59 58),gu 57 false (bi .neq 60 (t 59) (i 0)),pk 61 (t 57) tt (t 60),mv 42 (t 61)]
def r_p_7:List CI:=[mv 4 ff]
def r_p_8:List CI:=[fa 62 2 2,l 63 62,ia 64 3 63 (i 0),ln 65 3 64,mv 66 (t 1),ca 67 n_p [(t 65),(t 66)],mv 68 (t 67),gu 68 true (fa 69 2 2),gu 68 true (l 70 69),gu 68 true (ia 71 3 70 (i 1)),gu 68 true (ln 72 3 71),gu 68 true (mv 73 (t 1)),gu 68 true (ca 74 n_p [(t 72),(t 73)]),pk 75 (t 68) (t 74) ff,mv 4 (t 75)]
def c_p:CC:=(.seq (.ops r_p_1) (bs [1,2]) (.seq (.block 0 (.seq (.ops r_p_2) (bs [1,2,5]) (.cond (t 5) (.seq (.ops r_p_3) (bs [4]) .ret) (.seq (.ops r_p_4) (bs [1,2,23]) (.cond (t 23) (.seq (.ops r_p_5) (bs [4]) .ret) (.seq (.ops r_p_6) (bs [1,2,42]) (.cond (t 42) (.seq (.ops r_p_7) (bs [4]) .ret) .skip))))))) (bs [1,2]) (.seq (.ops r_p_8) (bs [4]) .ret)))
def f_p:zb:=⟨76,[.tmp (bits 4)],c_p,none,none⟩
def r_z_1:List CI:=[bx 2 (t 0),bx 3 (t 1),mv 4 (i 0)]
def r_z_2:List CI:=[mv 5 (i 0)]
def r_z_3:List CI:=[mv 6 (i 0)]
def r_z_4:List CI:=[mv 7 (t 6),fa 8 1 3,l 9 8,le 10 (t 9),bi .lss 11 (t 7) (t 10)]
def r_z_5:List CI:=[mv 14 (t 5),fa 15 0 2,l 16 15,fa 17 1 3,l 18 17,mv 19 (t 6),ia 20 1 18 (t 19),l 21 20,ia 22 2 16 (t 21),fa 23 1 22,l 24 23,bi .add 25 (t 14) (t 24),mv 5 (t 25)]
def r_z_6:List CI:=[mv 12 (t 6),bi .add 13 (t 12) (i 1),mv 6 (t 13)]
def c_z_7:CC:=(.seq (.seq (.ops r_z_4) (bs [2,3,5,6,11]) (.cond (t 11) .skip (.exit 0))) (bs [2,3,5,6]) (.seq (.block 2 (.draw r_z_5)) (bs [2,3,5,6]) (.ops r_z_6)))
def r_z_8:List CI:=[mv 26 (t 5),mv 4 (t 26)]
def c_z:CC:=(.seq (.ops r_z_1) (bs [2,3]) (.seq (.ops r_z_2) (bs [2,3,5]) (.seq (.seq (.ops r_z_3) (bs [2,3,5,6]) (.block 0 (.loop (bs [2,3,5,6]) c_z_7))) (bs [5]) (.seq (.ops r_z_8) (bs [4]) .ret))))
def f_z:zb:=⟨27,[.tmp (bits 4)],c_z,none,none⟩
def r_1_1:List CI:=[mv 0 (.c (.map none))]
def r_1_2:List CI:=[oo 1 (.makeMap),on (.mapUpdate .str (t 1) (.c (.string ⟨#[97,110,100]⟩)) tt),on (.mapUpdate .str (t 1) (.c (.string ⟨#[100,101,102]⟩)) tt),on (.mapUpdate .str (t 1) (.c (.string ⟨#[101,108,115,101]⟩)) tt),on (.mapUpdate .str (t 1) (.c (.string ⟨#[103,111]⟩)) tt),on (.mapUpdate .str (t 1) (.c (.string ⟨#[105,102]⟩)) tt),on (.mapUpdate .str (t 1) (.c (.string ⟨#[105,110]⟩)) tt),on (.mapUpdate .str (t 1) (.c (.string ⟨#[112,108,97,99,101]⟩)) tt),on (.mapUpdate .str (t 1) (.c (.string ⟨#[115,116,111,112]⟩)) tt),on (.mapUpdate .str (t 1) (.c (.string ⟨#[116,104,101,110]⟩)) tt),on (.mapUpdate .str (t 1) (.c (.string ⟨#[119,97,116,99,104]⟩)) tt),mv 2 (t 1),mv 0 (t 2)]
def c_1:CC:=(.seq (.ops r_1_1) [] (.seq (.ops r_1_2) (bs [0]) .ret))
def f_1:zb:=⟨3,[.tmp (bits 0)],c_1,none,none⟩
def r_r_1:List CI:=[mv 2 (.c .nilIface)]
def r_r_2:List CI:=[mv 3 (t 0)]
def r_r_3:List CI:=[bi .eql 5 (t 3) (i 1),mv 4 (t 5)]
def r_r_4:List CI:=[bi .eql 6 (t 3) (i 7),mv 4 (t 6)]
def r_r_5:List CI:=[oo 7 (.mkI 345 (i 0)),mv 2 (t 7)]
def r_r_6:List CI:=[bi .eql 9 (t 3) (i 3),mv 8 (t 9)]
def r_r_7:List CI:=[oo 10 (.mkI 345 (i 2)),mv 2 (t 10)]
def r_r_8:List CI:=[bi .eql 12 (t 3) (i 2),mv 11 (t 12)]
def r_r_9:List CI:=[oo 13 (.build [] []),oo 14 (.mkI 325 (t 13)),mv 2 (t 14)]
def r_r_10:List CI:=[bi .eql 16 (t 3) (i 5),mv 15 (t 16)]
def r_r_11:List CI:=[oo 17 (.build [] []),oo 18 (.mkI 328 (t 17)),mv 2 (t 18)]
def r_r_12:List CI:=[bi .eql 20 (t 3) (i 6),mv 19 (t 20)]
def r_r_13:List CI:=[bi .eql 21 (t 3) (i 8),mv 19 (t 21)]
def r_r_14:List CI:=[oo 22 (.build [] []),oo 23 (.mkI 326 (t 22)),mv 2 (t 23)]
def r_r_15:List CI:=[bi .eql 25 (t 3) (i 4),mv 24 (t 25)]
def r_r_16:List CI:=[oo 26 (.build [] []),oo 27 (.mkI 327 (t 26)),mv 2 (t 27)]
def r_r_17:List CI:=[mv 2 (.c .nilIface)]
def c_r:CC:=(.seq (.ops r_r_1) (bs [0]) (.seq (.seq (.ops r_r_2) (bs [3]) (.block 0 (.seq (.seq (.ops r_r_3) (bs [3,4]) (.cond (t 4) .skip (.ops r_r_4))) (bs [3,4]) (.cond (t 4) (.seq (.ops r_r_5) (bs [2]) .ret) (.seq (.ops r_r_6) (bs [3,8]) (.cond (t 8) (.seq (.ops r_r_7) (bs [2]) .ret) (.seq (.ops r_r_8) (bs [3,11]) (.cond (t 11) (.seq (.ops r_r_9) (bs [2]) .ret) (.seq (.ops r_r_10) (bs [3,15]) (.cond (t 15) (.seq (.ops r_r_11) (bs [2]) .ret) (.seq (.seq (.ops r_r_12) (bs [3,19]) (.cond (t 19) .skip (.ops r_r_13))) (bs [3,19]) (.cond (t 19) (.seq (.ops r_r_14) (bs [2]) .ret) (.seq (.ops r_r_15) (bs [24]) (.cond (t 24) (.seq (.ops r_r_16) (bs [2]) .ret) .skip)))))))))))))) [] (.seq (.ops r_r_17) (bs [2]) .ret)))
def f_r:zb:=⟨28,[.tmp (bits 2)],c_r,none,none⟩
def r_x:List CI:=[bx 2 (t 0),bx 3 (t 1)]
def r_R_2:List CI:=[oo 4 (.alloc [(iI 0)]),st 1 4 (i 0)]
def r_R_3:List CI:=[oo 5 (.alloc [.nilFunc])]
def r_R_4:List CI:=[oo 6 (.makeFunc (.func n_x) [] [(t 4),(t 3),(t 5)]),st 1 5 (t 6)]
def r_R_5:List CI:=[l 7 5,ln 8 3 2,oo 9 (.call (t 7) [(t 8),(i 1)])]
def c_R:CC:=(.seq (.ops r_x) (bs [2,3]) (.seq (.ops r_R_2) (bs [2,3,4]) (.seq (.ops r_R_3) (bs [2,3,4,5]) (.seq (.ops r_R_4) (bs [2,5]) (.ops r_R_5)))))
def f_R:zb:=⟨10,[],c_R,none,none⟩
def r_5:List CI:=[bx 1 (t 0)]
def r_i_2:List CI:=[fa 12 0 1,l 13 12,le 14 (t 13),bi .leq 15 (t 14) (i 30),mv 16 (t 15),gu 16 true (fa 17 1 1),gu 16 true (l 18 17),gu 16 true (le 19 (t 18)),gu 16 true (bi .leq 20 (t 19) (i 30)),pk 21 (t 16) (t 20) ff,mv 22 (t 21),gu 22 true (fa 23 2 1),gu 22 true (l 24 23),gu 22 true (le 25 (t 24)),gu 22 true (bi .leq 26 (t 25) (i 30)),pk 27 (t 22) (t 26) ff,ca 28 n_K [(t 27)]]
def r_i_3:List CI:=[oo 29 (.makeFunc (.func n_5) [] [(t 1)]),mv 2 (t 29)]
def r_i_4:List CI:=[fa 30 0 1,l 31 30,le 32 (t 31),mv 33 (i 0)]
def r_i_5:List CI:=[bi .lss 34 (t 33) (t 32)]
def r_i_6:List CI:=[ia 35 2 31 (t 33),ln 36 2 35,oo 4 (.alloc [(iI 0),(iI 0)]),st 2 4 (t 36)]
def r_i_7:List CI:=[mv 37 (t 2),fa 38 0 4,l 39 38,oo 40 (.call (t 37) [(t 39)])]
def r_i_8:List CI:=[fa 41 1 4,l 42 41,bi .geq 43 (t 42) (i 0),mv 44 (t 43),gu 44 true (fa 45 1 4),gu 44 true (l 46 45),gu 44 true (bi .leq 47 (t 46) (i 3)),pk 48 (t 44) (t 47) ff,ca 49 n_K [(t 48)]]
def r_i_9:List CI:=[bi .add 50 (t 33) (i 1),mv 33 (t 50)]
def c_i_10:CC:=(.seq (.ops r_i_5) (bs [1,2,31,32,33,34]) (.seq (.cond (t 34) .skip (.exit 0)) (bs [1,2,31,32,33]) (.seq (.block 2 (.seq (.ops r_i_6) (bs [1,2,4,31,32,33]) (.seq (.ops r_i_7) (bs [1,2,4,31,32,33]) (.ops r_i_8)))) (bs [1,2,31,32,33]) (.ops r_i_9))))
def r_i_11:List CI:=[fa 51 1 1,l 52 51,le 53 (t 52),mv 54 (i 0)]
def r_i_12:List CI:=[bi .lss 55 (t 54) (t 53)]
def r_i_13:List CI:=[mv 56 (t 54),ia 57 2 52 (t 54),ln 58 2 57,oo 6 (.alloc [(iI 0),(iI 0)]),mv 5 (t 56),st 2 6 (t 58)]
def r_i_14:List CI:=[fa 59 0 6,l 60 59,bi .geq 61 (t 60) (i 0),mv 62 (t 61),gu 62 true (fa 63 0 6),gu 62 true (l 64 63),gu 62 true (mv 65 (t 5)),gu 62 true (bi .leq 66 (t 64) (t 65)),pk 67 (t 62) (t 66) ff,ca 68 n_K [(t 67)]]
def r_i_15:List CI:=[bi .add 69 (t 54) (i 1),mv 54 (t 69)]
def c_i_16:CC:=(.seq (.ops r_i_12) (bs [1,2,52,53,54,55]) (.seq (.cond (t 55) .skip (.exit 4)) (bs [1,2,52,53,54]) (.seq (.block 6 (.seq (.ops r_i_13) (bs [1,2,5,6,52,53,54]) (.ops r_i_14))) (bs [1,2,52,53,54]) (.ops r_i_15))))
def r_i_17:List CI:=[oo 70 (.makeMap),mv 7 (t 70)]
def r_i_18:List CI:=[fa 71 2 1,l 72 71,le 73 (t 72),mv 74 (i 0)]
def r_i_19:List CI:=[bi .lss 75 (t 74) (t 73)]
def r_i_20:List CI:=[ia 76 3 72 (t 74),ln 77 3 76,oo 9 (.alloc [(iI 0),(.slice none 0 0),(iI 0)]),st 3 9 (t 77)]
def r_i_21:List CI:=[mv 78 (t 2),fa 79 0 9,l 80 79,oo 81 (.call (t 78) [(t 80)])]
def r_i_22:List CI:=[fa 82 1 9,l 83 82,le 84 (t 83),bi .gtr 85 (t 84) (i 0),mv 86 (t 85),gu 86 true (fa 87 1 9),gu 86 true (l 88 87),gu 86 true (le 89 (t 88)),gu 86 true (bi .leq 90 (t 89) (i 3)),pk 91 (t 86) (t 90) ff,ca 92 n_K [(t 91)]]
def r_i_23:List CI:=[fa 93 1 9,l 94 93,le 95 (t 94),mv 96 (i 0)]
def r_i_24:List CI:=[bi .lss 97 (t 96) (t 95)]
def r_i_25:List CI:=[mv 98 (t 96),ia 99 1 94 (t 96),l 100 99,mv 10 (t 98),mv 11 (t 100)]
def r_i_26:List CI:=[mv 101 (t 11),bi .geq 102 (t 101) (i 0),mv 103 (t 102),gu 103 true (mv 104 (t 11)),gu 103 true (fa 105 0 1),gu 103 true (l 106 105),gu 103 true (le 107 (t 106)),gu 103 true (bi .lss 108 (t 104) (t 107)),pk 109 (t 103) (t 108) ff,mv 110 (t 109),gu 110 true (fa 111 0 1),gu 110 true (l 112 111),gu 110 true (mv 113 (t 11)),gu 110 true (ia 114 2 112 (t 113)),gu 110 true (fa 115 0 114),gu 110 true (l 116 115),gu 110 true (fa 117 0 9),gu 110 true (l 118 117),gu 110 true (bi .eql 119 (t 116) (t 118)),pk 120 (t 110) (t 119) ff,mv 121 (t 120),gu 121 true (fa 122 1 9),gu 121 true (l 123 122),gu 121 true (mv 124 (t 10)),gu 121 true (oo 125 (.slice 1 (t 123) none (some (t 124)))),gu 121 true (mv 126 (t 11)),gu 121 true (ca 127 n_I [(t 125),(t 126)]),lo 1 (gu 121 true (no 128 127)),lo 1 (pk 129 (t 121) (t 128) ff),lo 1 (ca 130 n_K [(t 129)])]
def r_i_27:List CI:=[mv 131 (t 7),mv 132 (t 11),on (.mapUpdate .int (t 131) (t 132) tt)]
def r_i_28:List CI:=[bi .add 133 (t 96) (i 1),mv 96 (t 133)]
def c_i_29:CC:=(.seq (.ops r_i_24) (bs [1,2,7,9,72,73,74,94,95,96,97]) (.seq (.cond (t 97) .skip (.exit 12)) (bs [1,2,7,9,72,73,74,94,95,96]) (.seq (.block 14 (.seq (.ops r_i_25) (bs [1,2,7,9,10,11,72,73,74,94,95,96]) (.seq (.draw r_i_26) (bs [1,2,7,9,11,72,73,74,94,95,96]) (.ops r_i_27)))) (bs [1,2,7,9,72,73,74,94,95,96]) (.ops r_i_28))))
def r_i_30:List CI:=[bi .add 134 (t 74) (i 1),mv 74 (t 134)]
def c_i_31:CC:=(.seq (.ops r_i_19) (bs [1,2,7,72,73,74,75]) (.seq (.cond (t 75) .skip (.exit 8)) (bs [1,2,7,72,73,74]) (.seq (.block 10 (.seq (.ops r_i_20) (bs [1,2,7,9,72,73,74]) (.seq (.ops r_i_21) (bs [1,2,7,9,72,73,74]) (.seq (.ops r_i_22) (bs [1,2,7,9,72,73,74]) (.seq (.ops r_i_23) (bs [1,2,7,9,72,73,74,94,95,96]) (.block 12 (.loop (bs [1,2,7,9,72,73,74,94,95,96]) c_i_29))))))) (bs [1,2,7,72,73,74]) (.ops r_i_30))))
def r_i_32:List CI:=[mv 135 (t 7),oo 136 (.blt .lenMap [(t 135)]),fa 137 0 1,l 138 137,le 139 (t 138),bi .eql 140 (t 136) (t 139),ca 141 n_K [(t 140)]]
def c_i:CC:=(.seq (.ops r_5) (bs [1]) (.seq (.ops r_i_2) (bs [1]) (.seq (.ops r_i_3) (bs [1,2]) (.seq (.seq (.ops r_i_4) (bs [1,2,31,32,33]) (.block 0 (.loop (bs [1,2,31,32,33]) c_i_10))) (bs [1,2]) (.seq (.seq (.ops r_i_11) (bs [1,2,52,53,54]) (.block 4 (.loop (bs [1,2,52,53,54]) c_i_16))) (bs [1,2]) (.seq (.ops r_i_17) (bs [1,2,7]) (.seq (.seq (.ops r_i_18) (bs [1,2,7,72,73,74]) (.block 8 (.loop (bs [1,2,7,72,73,74]) c_i_31))) (bs [1,7]) (.ops r_i_32))))))))
def f_i:zb:=⟨142,[],c_i,none,none⟩
def r_2_1:List CI:=[bx 1 (t 0),mv 2 (i 0)]
def r_2_2:List CI:=[fa 3 0 1,l 4 3,le 5 (t 4),fa 6 1 1,l 7 6,le 8 (t 7),bi .add 9 (t 5) (t 8),mv 2 (t 9)]
def c_2:CC:=(.seq (.ops r_2_1) (bs [1]) (.seq (.ops r_2_2) (bs [2]) .ret))
def f_2:zb:=⟨10,[.tmp (bits 2)],c_2,none,none⟩
def r_F_1:List CI:=[bx 2 (t 0),bx 3 (t 1),mv 4 (i 0)]
def r_F_2:List CI:=[mv 5 (i 0)]
def r_F_3:List CI:=[fa 8 1 3,l 9 8,le 10 (t 9),mv 11 (i 0)]
def r_F_4:List CI:=[bi .lss 12 (t 11) (t 10)]
def r_F_5:List CI:=[ia 13 1 9 (t 11),l 14 13,mv 7 (t 14)]
def r_F_6:List CI:=[mv 15 (t 5),fa 16 0 2,l 17 16,mv 18 (t 7),ia 19 2 17 (t 18),fa 20 1 19,l 21 20,bi .add 22 (t 15) (t 21),mv 5 (t 22)]
def r_F_7:List CI:=[bi .add 23 (t 11) (i 1),mv 11 (t 23)]
def c_F_8:CC:=(.seq (.ops r_F_4) (bs [2,5,9,10,11,12]) (.seq (.cond (t 12) .skip (.exit 0)) (bs [2,5,9,10,11]) (.seq (.block 2 (.seq (.ops r_F_5) (bs [2,5,7,9,10,11]) (.ops r_F_6))) (bs [2,5,9,10,11]) (.ops r_F_7))))
def r_F_9:List CI:=[mv 24 (t 5),mv 4 (t 24)]
def c_F:CC:=(.seq (.ops r_F_1) (bs [2,3]) (.seq (.ops r_F_2) (bs [2,3,5]) (.seq (.seq (.ops r_F_3) (bs [2,5,9,10,11]) (.block 0 (.loop (bs [2,5,9,10,11]) c_F_8))) (bs [5]) (.seq (.ops r_F_9) (bs [4]) .ret))))
def f_F:zb:=⟨25,[.tmp (bits 4)],c_F,none,none⟩
def r_o_1:List CI:=[mv 4 (i 0)]
def r_o_2:List CI:=[mv 6 (t 0),le 7 (t 6),mv 8 (i 0)]
def r_o_3:List CI:=[bi .lss 9 (t 8) (t 7)]
def r_o_4:List CI:=[mv 10 (t 8),mv 5 (t 10)]
def r_o_5:List CI:=[mv 11 (t 1),mv 12 (t 0),mv 13 (t 5),ia 14 1 12 (t 13),l 15 14,oo 16 (.bin .eql .bool (t 11) (t 15))]
def r_o_6:List CI:=[mv 17 (t 5),mv 4 (t 17)]
def r_o_7:List CI:=[bi .add 18 (t 8) (i 1),mv 8 (t 18)]
def c_o_8:CC:=(.seq (.ops r_o_3) (bs [0,1,7,8,9]) (.seq (.cond (t 9) .skip (.exit 0)) (bs [0,1,7,8]) (.seq (.block 2 (.seq (.ops r_o_4) (bs [0,1,5,7,8]) (.seq (.ops r_o_5) (bs [0,1,5,7,8,16]) (.cond (t 16) (.seq (.ops r_o_6) (bs [4]) .ret) .skip)))) (bs [0,1,7,8]) (.ops r_o_7))))
def r_o_9:List CI:=[mv 4 (i (-1))]
def c_o:CC:=(.seq (.ops r_o_1) (bs [0,1]) (.seq (.seq (.ops r_o_2) (bs [0,1,7,8]) (.block 0 (.loop (bs [0,1,7,8]) c_o_8))) [] (.seq (.ops r_o_9) (bs [4]) .ret)))
def f_o:zb:=⟨19,[.tmp (bits 4)],c_o,none,none⟩
def r_x_1:List CI:=[bx 5 (t 0)]
def r_x_2:List CI:=[l 9 2,bi .add 10 (t 9) (i 1),st 1 2 (t 10)]
def r_x_3:List CI:=[l 11 2,bi .leq 12 (t 11) (i 60),mv 13 (t 12),gu 13 true (mv 14 (t 1)),gu 13 true (bi .leq 15 (t 14) (i 12)),pk 16 (t 13) (t 15) ff,ca 17 n_K [(t 16)]]
def r_x_4:List CI:=[fa 18 0 5,l 19 18]
def r_x_5:List CI:=[bi .eql 22 (t 19) (i 1),mv 21 (t 22)]
def r_x_6:List CI:=[fa 23 1 5,l 24 23,bi .geq 25 (t 24) (i (-1000000000)),mv 26 (t 25),gu 26 true (fa 27 1 5),gu 26 true (l 28 27),gu 26 true (bi .leq 29 (t 28) (i 1000000000)),pk 30 (t 26) (t 29) ff,mv 31 (t 30),gu 31 true (fa 32 2 5),gu 31 true (l 33 32),gu 31 true (le 34 (t 33)),gu 31 true (bi .eql 35 (t 34) (i 0)),pk 36 (t 31) (t 35) ff,ca 37 n_K [(t 36)]]
def r_x_7:List CI:=[bi .eql 39 (t 19) (i 2),mv 38 (t 39)]
def r_x_8:List CI:=[fa 40 1 5,l 41 40,bi .geq 42 (t 41) (i 0),mv 43 (t 42),gu 43 true (fa 44 1 5),gu 43 true (l 45 44),gu 43 true (l 46 3),gu 43 true (bi .lss 47 (t 45) (t 46)),pk 48 (t 43) (t 47) ff,mv 49 (t 48),gu 49 true (fa 50 2 5),gu 49 true (l 51 50),gu 49 true (le 52 (t 51)),gu 49 true (bi .eql 53 (t 52) (i 0)),pk 54 (t 49) (t 53) ff,ca 55 n_K [(t 54)]]
def r_x_9:List CI:=[bi .eql 57 (t 19) (i 3),mv 56 (t 57)]
def r_x_10:List CI:=[bi .eql 58 (t 19) (i 4),mv 56 (t 58)]
def r_x_11:List CI:=[bi .eql 59 (t 19) (i 5),mv 56 (t 59)]
def r_x_12:List CI:=[bi .eql 60 (t 19) (i 6),mv 56 (t 60)]
def r_x_13:List CI:=[bi .eql 61 (t 19) (i 7),mv 56 (t 61)]
def r_x_14:List CI:=[fa 62 1 5,l 63 62,bi .eql 64 (t 63) (i 0),mv 65 (t 64),gu 65 true (fa 66 2 5),gu 65 true (l 67 66),gu 65 true (le 68 (t 67)),gu 65 true (bi .eql 69 (t 68) (i 2)),pk 70 (t 65) (t 69) ff,ca 71 n_K [(t 70)]]
def r_x_15:List CI:=[ca 20 n_K [ff]]
def r_x_16:List CI:=[fa 72 2 5,l 73 72,le 74 (t 73),mv 75 (i 0)]
def r_x_17:List CI:=[bi .lss 76 (t 75) (t 74)]
def r_x_18:List CI:=[ia 77 3 73 (t 75),ln 78 3 77,oo 8 (.alloc [(iI 0),(iI 0),(.slice none 0 0)]),st 3 8 (t 78)]
def r_x_19:List CI:=[l 79 4,ln 80 3 8,mv 81 (t 1),bi .add 82 (t 81) (i 1),oo 83 (.call (t 79) [(t 80),(t 82)])]
def r_x_20:List CI:=[bi .add 84 (t 75) (i 1),mv 75 (t 84)]
def c_x_21:CC:=(.seq (.ops r_x_17) (bs [1,4,73,74,75,76]) (.seq (.cond (t 76) .skip (.exit 2)) (bs [1,4,73,74,75]) (.seq (.block 4 (.seq (.ops r_x_18) (bs [1,4,8,73,74,75]) (.ops r_x_19))) (bs [1,4,73,74,75]) (.ops r_x_20))))
def c_x:CC:=(.seq (.ops r_x_1) (bs [1,2,3,4,5]) (.seq (.ops r_x_2) (bs [1,2,3,4,5]) (.seq (.ops r_x_3) (bs [1,3,4,5]) (.seq (.seq (.ops r_x_4) (bs [1,3,4,5,19]) (.block 0 (.seq (.ops r_x_5) (bs [1,3,4,5,19,21]) (.cond (t 21) (.ops r_x_6) (.seq (.ops r_x_7) (bs [1,3,4,5,19,38]) (.cond (t 38) (.ops r_x_8) (.seq (.seq (.ops r_x_9) (bs [1,4,5,19,56]) (.cond (t 56) .skip (.seq (.ops r_x_10) (bs [1,4,5,19,56]) (.cond (t 56) .skip (.seq (.ops r_x_11) (bs [1,4,5,19,56]) (.cond (t 56) .skip (.seq (.ops r_x_12) (bs [1,4,5,19,56]) (.cond (t 56) .skip (.ops r_x_13))))))))) (bs [1,4,5,56]) (.cond (t 56) (.ops r_x_14) (.ops r_x_15))))))))) (bs [1,4,5]) (.seq (.ops r_x_16) (bs [1,4,73,74,75]) (.block 2 (.loop (bs [1,4,73,74,75]) c_x_21)))))))
def f_x:zb:=⟨85,[],c_x,none,none⟩
def r_5_1:List CI:=[mv 3 (t 0),bi .geq 4 (t 3) (i 0),mv 5 (t 4),gu 5 true (mv 6 (t 0)),gu 5 true (fa 7 1 1),gu 5 true (l 8 7),gu 5 true (le 9 (t 8)),gu 5 true (bi .leq 10 (t 6) (t 9)),pk 11 (t 5) (t 10) ff,ca 12 n_K [(t 11)]]
def c_5:CC:=(.ops r_5_1)
def f_5:zb:=⟨13,[],c_5,none,none⟩
def r_Y_1:List CI:=[bx 1 (t 0),mv 2 (i 0)]
def r_Y_2:List CI:=[mv 2 (i 0)]
def c_Y:CC:=(.seq (.ops r_Y_1) [] (.seq (.ops r_Y_2) (bs [2]) .ret))
def f_Y:zb:=⟨3,[.tmp (bits 2)],c_Y,none,none⟩
def r_X_1:List CI:=[bx 1 (t 0),mv 2 (i 0)]
def r_X_2:List CI:=[mv 2 (i 1)]
def c_X:CC:=(.seq (.ops r_X_1) [] (.seq (.ops r_X_2) (bs [2]) .ret))
def f_X:zb:=⟨3,[.tmp (bits 2)],c_X,none,none⟩
def r_U_1:List CI:=[bx 1 (t 0),mv 2 (i 0)]
def r_U_2:List CI:=[mv 2 (i 1)]
def c_U:CC:=(.seq (.ops r_U_1) [] (.seq (.ops r_U_2) (bs [2]) .ret))
def f_U:zb:=⟨3,[.tmp (bits 2)],c_U,none,none⟩
def r_V_1:List CI:=[bx 1 (t 0),mv 2 (i 0)]
def r_V_2:List CI:=[mv 2 (i 2)]
def c_V:CC:=(.seq (.ops r_V_1) [] (.seq (.ops r_V_2) (bs [2]) .ret))
def f_V:zb:=⟨3,[.tmp (bits 2)],c_V,none,none⟩
def r_0_1:List CI:=[mv 2 (i 0)]
def r_0_2:List CI:=[mv 3 (t 0),mv 2 (t 3)]
def c_0:CC:=(.seq (.ops r_0_1) (bs [0]) (.seq (.ops r_0_2) (bs [2]) .ret))
def f_0:zb:=⟨4,[.tmp (bits 2)],c_0,none,none⟩
end Go.Ideal.Q
