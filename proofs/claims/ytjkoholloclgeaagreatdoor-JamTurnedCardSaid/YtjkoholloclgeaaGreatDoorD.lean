/- A part of the proof: the ideal machine, and what the functions of the program answer over it. -/
import Derived.RowKit
import Derived.OpenShut
import Derived.WideKeyArgs
import Derived.ChangeSame
import Derived.Test.YtjkoholloclgeaaGreatDoorC
set_option linter.unusedSimpArgs false
set_option linter.unusedVariables false
set_option linter.unusedSectionVars false
namespace Go.Ideal
variable {F:FuncId→Option zn} {n0:Nat}
theorem E_up {n m:Nat} (h:n≤m) {t:Task} {o:Out} (e:E F n t=some o):E F m t=some o:=E_le h t o e
theorem zlF {w:Wd} {s:DS} {t:zp} (h:SRel w s t) (L:List (List Bool)):SRel w (zbh L s) t:=fun p d e=>h p d (zlK e).1
theorem zi5 {w0:Wd} {M0:VM} {h0:H} {K:KD} {s:DS} {M:VM} {pend:Option CC} (hk:pendD K s M pend) {w:Wd} {h:H} {t:zp} (hst:St n0 w0 M0 h0 w M h) (hs:SRel w s t): ∃o,pendK t h pend=some o∧OutK n0 w0 M0 h0 K o:=by
 unfold pendD at hk
 split at hk
 ·exact⟨_,rfl,w,M,s,hst,hs,hk⟩
 ·exact⟨_,rfl,w,M,s,hst,hs,hk⟩
 ·exact⟨_,rfl,w,M,s,hst,hs,hk⟩
 ·exact hk.elim
theorem zfk: ∀(c:CC) {K:KD} {s:DS} {M:VM},wp (rD F n0) c K s M→CodeD F n0 c K s M:=by
 intro c
 induction c with
 |skip=>intro K s M hk w0 M0 h0 w h t hst hs;exact⟨1,.nrm t h,rfl,w,M,s,hst,hs,hk⟩
 |ops l=>
  intro K s M hk w0 M0 h0 w h t hst hs
  obtain⟨n,o,h1,h2⟩:=zkm hk hst hs
  exact⟨n+1,o,h1,OutK.mono (K:=⟨K.nrm,fun _ _ _=>False,fun _ _=>False,K.pan⟩) (K':=K) (fun _ _ q=>q) (fun _ _ _ q=>False.elim q) (fun _ _ q=>False.elim q) (fun _ _ _ q=>q) h2⟩
 |draw l=>
  intro K s M hk w0 M0 h0 w h t hst hs
  obtain⟨n,t',h',w',M',s',h1,h2,h3,h4⟩:=zfK hk hst hs (cs:=[(0,h)]) ⟨⟨rfl,w,hst.r,.refl _ _ _,fun p _ d e=>hs p d e⟩,trivial⟩
  exact⟨n+1,.nrm t' h',by show(zb2 (E F n) l [(0,h)] t h).map nrmOf=_;rw[h1];rfl,w',M',s',h2,h3,h4⟩
 |draw2 l x y=>
  intro K s M hk w0 M0 h0 w h t hst hs
  obtain⟨n,t',h',w',M',s',h1,h2,h3,h4⟩:=zfK hk hst hs (cs:=[(0,h)]) ⟨⟨rfl,w,hst.r,.refl _ _ _,fun p _ d e=>hs p d e⟩,trivial⟩
  suffices hh: ∃h2' w2 M2,zeg x.op y.op t' h'=some h2'∧St n0 w0 M0 h0 w2 M2 h2'∧SRel w2 s' t'∧K.nrm s' M2 by
   obtain⟨h2',w2,M2,a,b,c,d⟩:=hh
   exact⟨n+1,.nrm t' h2',by show((zb2 (E F n) l [(0,h)] t h).bind fun r=>(zeg x.op y.op r.1 r.2).map fun h=>Out.nrm r.1 h)=_;rw[h1,Option.bind_some,a];rfl,w2,M2,s',b,c,d⟩
  cases hx:x.op<;>rw[hx] at h4<;>first|exact h4.elim|skip
  cases hy:y.op<;>rw[hy] at h4<;>first|exact h4.elim|skip
  rename_i n1 a b n2 c d
  obtain⟨da,ea,h4⟩:=zbM h4
  obtain⟨db,eb,h4⟩:=zbM h4
  obtain⟨dc,ec,h4⟩:=zbM h4
  obtain⟨dd,ed,h4⟩:=zbM h4
  obtain⟨va,fa,ra⟩:=zbT h3 ea
  obtain⟨vb,fb,rb⟩:=zbT h3 eb
  obtain⟨vc,fc,rc⟩:=zbT h3 ec
  obtain⟨vd,fd,rd⟩:=zbT h3 ed
  cases da with
  |ptr i u1 v1=>
   cases dc with
   |ptr j u2 v2=>
    obtain⟨hij,h4⟩:=h4
    obtain⟨M2,hs1,h4⟩:=zbM h4
    obtain⟨M3,hs2,h4⟩:=zbM h4
    obtain⟨b1,o1,g1,rfl,q1,q2,q3,q4,j1,i1,u1,R1,e1,k1,k2⟩:=zg0 h2.r hs1 rb ra
    obtain⟨b2,o2,g2,rfl,p1,p2,p3,p4,j2,i2,u2,R2,e2,l1,l2⟩:=zg0 q4 hs2 rd rc
    cases e1;cases e2
    have live: ∀{M M':VM} {n x j i o},zeQ n M x (.ptr j i o)=some M'→(M.get j).isSome=true:=fun{M M' n x j i o} hd=>by
     obtain⟨ob,ho,_⟩:=aof (show(M.obj j).bind _=some M' from hd)
     obtain⟨st,hg⟩:=zbt ho
     rw[hg];rfl
    have hne:b1≠b2:=fun e=>by
     have h5:(M2.get i).isSome=true:=by
      obtain⟨ob,ho,h6⟩:=aof (show(M'.obj i).bind _=some M2 from hs1)
      cases ob with
      |rows op sz rs=>
       obtain⟨r,hri,h6⟩:=aof (show(rs[u1]?).bind _=some M2 from h6)
       split at h6
       ·obtain⟨r',hw,rfl⟩:=amf h6
        rw[get_put,if_pos rfl];rfl
       ·cases h6
      |_=>cases h6
     exact hij (q4.inj i j R1 R2 k1 l1 h5 (live hs2) (by rw[k2,l2,e]))
    refine⟨g2,w',M3,?_,(h2.step q3 q4).step p3 p4,h3,h4⟩
    show(a.ev t').bind _=_
    rw[fa,Option.bind_some,fb,Option.bind_some,fc,Option.bind_some,fd,Option.bind_some]
    unfold store2
    show(if Nat.beq b1 b2 then _ else _)=_
    rw[if_neg (fun e=>hne (Nat.eq_of_beq_eq_true e)),if_pos (by rw[q1,p1];rfl),q2,Option.bind_some,p2]
   |_=>exact h4.elim
  |_=>exact h4.elim
 |seq a L b iha ihb=>
  intro K s M hk w0 M0 h0 w h t hst hs
  obtain⟨n,o,h1,h2⟩:=iha hk w0 M0 h0 w h t hst hs
  have step: ∀{m o'},(∀k,max n m≤k→(E F k (.code a t h)).bind (thenK (E F k) L b)=some o')→OutK n0 w0 M0 h0 K o'→ ∃n o,E F n (.code (.seq a L b) t h)=some o∧OutK n0 w0 M0 h0 K o:=fun{m o'} e q=>⟨max n m+1,o',e _ (Nat.le_refl _),q⟩
  cases o with
  |nrm t1 h1'=>
   obtain⟨w1,M1,s1,a1,a2,a3⟩:=h2
   obtain⟨m,o2,b1,b2⟩:=ihb a3 w0 M0 h0 w1 h1' (zcg L t1) a1 (a2.keep L)
   exact step (m:=m) (fun k hk'=>by rw[E_up (by omega) h1];exact E_up (by omega) b1) b2
  |exit i t1 h1'=>exact step (m:=0) (fun k hk'=>by rw[E_up (by omega) h1];rfl) (show OutK n0 w0 M0 h0 K (.exit i t1 h1') from h2)
  |ret t1 h1'=>exact step (m:=0) (fun k hk'=>by rw[E_up (by omega) h1];rfl) (show OutK n0 w0 M0 h0 K (.ret t1 h1') from h2)
  |pan v t1 h1'=>exact step (m:=0) (fun k hk'=>by rw[E_up (by omega) h1];rfl) (show OutK n0 w0 M0 h0 K (.pan v t1 h1') from h2)
  |val=>exact h2.elim
 |cond c a b iha ihb=>
  intro K s M hk w0 M0 h0 w h t hst hs
  obtain⟨d,hd,hk⟩:=zbM hk
  obtain⟨v,hv,hr⟩:=zbT hs hd
  unfold wIf at hk
  split at hk
  ·obtain⟨n,o,h1,h2⟩:=iha hk w0 M0 h0 w h t hst hs
   refine⟨n+1,o,?_,h2⟩
   show(c.ev t).bind _=_
   rw[hv,hr.inv_bool];exact h1
  ·obtain⟨n,o,h1,h2⟩:=ihb hk w0 M0 h0 w h t hst hs
   refine⟨n+1,o,?_,h2⟩
   show(c.ev t).bind _=_
   rw[hv,hr.inv_bool];exact h1
  ·exact hk.elim
 |block i b ih=>
  intro K s M hk w0 M0 h0 w h t hst hs
  obtain⟨n,o,h1,h2⟩:=ih hk w0 M0 h0 w h t hst hs
  refine⟨n+1,zjO i o,by show(E F n _).map _=_;rw[h1];rfl,?_⟩
  cases o with
  |exit j t1 h1'=>
   obtain⟨w1,M1,s1,a1,a2,a3⟩:=h2
   have a3:blkD i K j s1 M1:=a3
   unfold blkD at a3
   unfold zjO
   dsimp only
   split at a3
   ·rename_i e;rw[e];exact⟨w1,M1,s1,a1,a2,a3⟩
   ·rename_i e;rw[e];exact⟨w1,M1,s1,a1,a2,a3⟩
  |_=>exact h2
 |loop L b ih=>
  intro K s M hk w0 M0 h0 w h t hst hs
  exact hk w0 M0 h0 w h t hst (zlF hs L)
 |rangeFunc rid L f ps as b _ _=>
  intro K s M hk w0 M0 h0 w h t hst hs
  obtain⟨d,hd,hk⟩:=zbM hk
  obtain⟨v,hv,hr⟩:=zbT hs hd
  cases d with
  |fn g a c=>
   obtain⟨a',c',rfl,ha,hc⟩:=hr.inv_fn
   have hle:=Wd.add_le (w:=w) (j:=M.next) (R:=⟨h.next,0,false⟩) (hst.r.rho_none (Nat.le_refl _))
   obtain⟨p1,p2⟩:=hst.r.new (o:=.loop .ready none (zbh L s) ⟨rid,L,ps,as,b⟩) (e:=.loop .ready none (zcg L t) ⟨rid,L,ps,as,b⟩) (sz:=0) (op:=false) (.loop ((hs.mono hle).keep L))
   have hy:VRel (w.add M.next ⟨h.next,0,false⟩) (.yld M.next) (.func (.yield h.next) #[] #[]):=.yld (R:=⟨h.next,0,false⟩) zff
   obtain⟨n,o,h1,h2⟩:=hk _ _ _ _ p1 (hr.mono hle) (.cons hy .nil)
   cases o with
   |val v h1'=>
    obtain⟨w1,M1,d1,a1,a2,a3,a4⟩:=h2
    obtain⟨ob,ho,a4⟩:=zbM a4
    obtain⟨st,hg⟩:=zbt ho
    have hR:=a1.le.rho _ _ (zff (w:=w) (j:=M.next) (R:=⟨h.next,0,false⟩))
    obtain⟨hz,e,he,hro⟩:=a2.obj _ _ st _ hg hR
    have hst1:=(hst.step p2 p1).step a1 a2
    have hs1:=(hs.mono hle).mono a1.le
    have fin: ∀{o'},zgj h.next t h1' e=some o'→E F (n+1) (.code (.rangeFunc rid L f ps as b) t h)=some o':=fun{o'} hq=>by
     show((f.ev t).bind fun f=>(isFn f).bind fun f=>(E F n (.call f [.func (.yield h.next) #[] #[]] (h.new (.loop .ready none (zcg L t) ⟨rid,L,ps,as,b⟩)))).bind fun o=>(zgX o).bind fun x=>(x.2.get h.next).bind (zgj h.next t x.2))=_
     rw[hv,Option.bind_some]
     show((E F n _).bind _)=_
     rw[h1,Option.bind_some]
     show((h1'.get h.next).bind _)=_
     rw[he,Option.bind_some,hq]
    cases hro with
    | @loop st1 pend sl sl' rc hsl=>
      have hput:=a2.put hg hR (o:=.loop .exhausted pend sl rc) (e:=.loop .exhausted pend sl' rc) (.loop hsl)
      cases st1 with
      |ready=>
       obtain⟨o',q1,q2⟩:=zi5 a4 (hst1.step hput.2 hput.1) hs1
       exact⟨n+1,o',fin q1,q2⟩
      |done=>
       obtain⟨o',q1,q2⟩:=zi5 a4 (hst1.step hput.2 hput.1) hs1
       exact⟨n+1,o',fin q1,q2⟩
      |_=>exact a4.elim
    |rows=>exact a4.elim
    |map=>exact a4.elim
   |pan=>obtain⟨_,_,_,_,_,_,q⟩:=h2;exact q.elim
   |nrm=>exact h2.elim
   |exit=>exact h2.elim
   |ret=>exact h2.elim
  |_=>exact hk.elim
 |exit i=>intro K s M hk w0 M0 h0 w h t hst hs;exact⟨1,.exit i t h,rfl,w,M,s,hst,hs,hk⟩
 |ret=>intro K s M hk w0 M0 h0 w h t hst hs;exact⟨1,.ret t h,rfl,w,M,s,hst,hs,hk⟩
 |scope b l1 r1 l2 r2=>intro K s M hk;exact hk
def scopeX (F:FuncId→Option zn) (n0:Nat) (l1:Nat) (r1:CC) (l2:Nat) (r2:CC) (K:KD) (i:Nat) (s:DS) (M:VM):Prop:=match Nat.beq i (zbE l1) with
 |true=>zcu F n0 r1 l1 r1 l2 r2 K s M
 |false=>match Nat.beq i (zbE l2) with
  |true=>zcu F n0 r2 l1 r1 l2 r2 K s M
  |false=>K.ext i s M
theorem zcu.step {b:CC} {l1:Nat} {r1:CC} {l2:Nat} {r2:CC} {K:KD} {s:DS} {M:VM} (h:wp (rD F n0) b ⟨K.nrm,scopeX F n0 l1 r1 l2 r2 K,K.ret,K.pan⟩ s M):zcu F n0 b l1 r1 l2 r2 K s M:=by
 intro w0 M0 h0 w hp t hst hs
 obtain⟨n,o,h1,h2⟩:=zfk b h w0 M0 h0 w hp t hst hs
 have plain:scopeK (E F n) l1 r1 l2 r2 o=some o→OutK n0 w0 M0 h0 K o→ ∃n o,E F n (.code (.scope b l1 r1 l2 r2) t hp)=some o∧OutK n0 w0 M0 h0 K o:=fun e k=>⟨n+2,o,by show(E F n (.code b t hp)).bind (scopeK (E F n) l1 r1 l2 r2)=_;rw[h1,Option.bind_some,e],k⟩
 cases o with
 |nrm t1 h1'=>exact plain rfl h2
 |ret t1 h1'=>exact plain rfl h2
 |pan v t1 h1'=>exact plain rfl h2
 |val=>exact h2.elim
 |exit i t1 h1'=>
  obtain⟨w1,M1,s1,a1,a2,a3⟩:=h2
  have a3:scopeX F n0 l1 r1 l2 r2 K i s1 M1:=a3
  have jump: ∀{r:CC},(∀g:IH,zbW g l1 r1 l2 r2 i t1 h1'=g (.scope r l1 r1 l2 r2 t1 h1'))→zcu F n0 r l1 r1 l2 r2 K s1 M1→ ∃n o,E F n (.code (.scope b l1 r1 l2 r2) t hp)=some o∧OutK n0 w0 M0 h0 K o:=by
   intro r e a3
   obtain⟨m,o2,b1,b2⟩:=a3 w0 M0 h0 w1 h1' t1 a1 a2
   cases m with
   |zero=>cases b1
   |succ m=>
    have b1:E F m (.scope r l1 r1 l2 r2 t1 h1')=some o2:=b1
    refine⟨max n m+2,o2,?_,b2⟩
    show(E F (max n m) (.code b t hp)).bind (scopeK (E F (max n m)) l1 r1 l2 r2)=_
    rw[E_up (Nat.le_max_left n m) h1,Option.bind_some]
    show zbW _ _ _ _ _ _ _ _=_
    rw[e];exact E_up (Nat.le_max_right n m) b1
  unfold scopeX at a3
  cases e1:Nat.beq i (zbE l1) with
  |true=>rw[e1] at a3;exact jump (fun g=>by unfold zbW;rw[e1]) a3
  |false=>
   rw[e1] at a3
   cases e2:Nat.beq i (zbE l2) with
   |true=>rw[e2] at a3;exact jump (fun g=>by unfold zbW;rw[e1,e2]) a3
   |false=>
    rw[e2] at a3
    exact plain (by show zbW _ _ _ _ _ _ _ _=_;unfold zbW;rw[e1,e2]) ⟨w1,M1,s1,a1,a2,a3⟩
theorem zcs.step {L:List (List Bool)} {b:CC} {K:KD} {s:DS} {M:VM} (h:wp (rD F n0) b ⟨fun s M=>zcs F n0 L b K (zbh L s) M,K.ext,K.ret,K.pan⟩ (zbh L s) M):zcs F n0 L b K s M:=by
 intro w0 M0 h0 w hp t hst hs
 obtain⟨n,o,h1,h2⟩:=zfk b h w0 M0 h0 w hp (zcg L t) hst (hs.keep L)
 cases o with
 |nrm t1 h1'=>
  obtain⟨w1,M1,s1,a1,a2,a3⟩:=h2
  obtain⟨m,o2,b1,b2⟩:=a3 w0 M0 h0 w1 h1' t1 a1 (zlF a2 L)
  exact⟨max n m+1,o2,by show(E F _ (.code b _ hp)).bind _=_;rw[E_up (Nat.le_max_left n m) h1];exact E_up (Nat.le_max_right n m) b1,b2⟩
 |exit i t1 h1'=>exact⟨n+1,.exit i t1 h1',by show(E F _ (.code b _ hp)).bind _=_;rw[h1];rfl,(show OutK n0 w0 M0 h0 K (.exit i t1 h1') from h2)⟩
 |ret t1 h1'=>exact⟨n+1,.ret t1 h1',by show(E F _ (.code b _ hp)).bind _=_;rw[h1];rfl,(show OutK n0 w0 M0 h0 K (.ret t1 h1') from h2)⟩
 |pan v t1 h1'=>exact⟨n+1,.pan v t1 h1',by show(E F _ (.code b _ hp)).bind _=_;rw[h1];rfl,(show OutK n0 w0 M0 h0 K (.pan v t1 h1') from h2)⟩
 |val=>exact h2.elim
theorem resD_rel {w:Wd} {M:VM} {h:H} (hr:HRel w M h) {s:DS} {t:zp} (hs:SRel w s t) {r:CR} {d:DV} (hd:resD s M r=some d): ∃v,resV t h r=some v∧VRel w d v:=by
 cases r with
 |tmp p=>exact hs p d hd
 |cell n p=>
  obtain⟨a,ha,hd⟩:=aof (show(getS s p).bind _=some d from hd)
  obtain⟨r,hr1,hd⟩:=aof hd
  obtain⟨v,hv,r1⟩:=hs p a ha
  obtain⟨b,off,cs,e,us,tl,rfl,hg,hb,hsp,hl⟩:=ziG hr hr1 r1
  cases n with
  |some n=>
   obtain⟨y,hy,rfl⟩:=amf (show(zeI n r).map DV.agg=some d from hd)
   obtain⟨hn,rfl⟩:=zfl hy
   refine⟨_,?_,.agg_of (hl.take n)⟩
   show(t.get p).bind _=_
   rw[hv]
   show(h.readN b off n).map _=_
   rw[zep hg hsp (by rw[←hl.len];exact hn) hl.clean];rfl
  |none=>
   have hd:oneD r=some d:=hd
   unfold oneD at hd
   split at hd
   ·cases hd
    obtain⟨u,us',rfl,hu,hus⟩:=hl.head
    refine⟨u,?_,hu⟩
    show(t.get p).bind _=_
    rw[hv]
    show(h.readN b off 1).bind oneOf=_
    rw[zep hg hsp (by simp) hl.clean];rfl
   ·cases hd
theorem resDL_rel {w:Wd} {M:VM} {h:H} (hr:HRel w M h) {s:DS} {t:zp} (hs:SRel w s t): ∀{rs:List CR} {ds:List DV},resDL s M rs=some ds→ ∃vs,allO (resV t h) rs=some vs∧LRel w ds vs
 | [],ds,h=>by cases h;exact⟨[],rfl,.nil⟩
 |r::rs,ds,hd=>by
  obtain⟨d,h1,hd⟩:=aof hd
  obtain⟨l,h2,rfl⟩:=amf hd
  obtain⟨v,h3,h4⟩:=resD_rel hr hs h1
  obtain⟨vs,h5,h6⟩:=resDL_rel hr hs h2
  exact⟨v::vs,by show(resV t h r).bind _=_;rw[h3];show(allO _ _).map _=_;rw[h5];rfl,.cons h4 h6⟩
theorem tupleD_rel {w:Wd} {ds:List DV} {vs:List Value} (h:LRel w ds vs):VRel w (zio ds) (zgY vs):=by
 match ds,vs,h with
 | [],vs,h=>rw[h.inv_nil];exact .tup_of .nil
 | [d],vs,h=>
   obtain⟨v,r,rfl,hv,hr⟩:=h.head
   rw[hr.inv_nil];exact hv
 |d::e::l,vs,h=>
  obtain⟨v,r,rfl,hv,hr⟩:=h.head
  obtain⟨v2,r2,rfl,hv2,hr2⟩:=hr.head
  exact .tup_of h
theorem zhq {w w0:Wd} {M M0:VM} {h h0:H} {s:DS} {t:zp} {rs:List CR} {k kp:DV→VM→Prop} (hst:St n0 w0 M0 h0 w M h) (hs:SRel w s t) (hk:endD rs k s M): ∃o,zhT rs t h=some o∧OutC w0 M0 h0 k kp o∧(∃v,o=.val v h):=by
 obtain⟨ds,hd,hk⟩:=zbM hk
 obtain⟨vs,h1,h2⟩:=resDL_rel hst.r hs hd
 exact⟨.val (zgY vs) h,by unfold zhT;rw[h1];rfl,⟨w,M,_,hst.hi,hst.r,tupleD_rel h2,hk⟩,_,rfl⟩
theorem argsD_rel {w:Wd}: ∀{ds:List DV} {vs:List Value} {i:Nat} {s:DS} {t:zp},LRel w ds vs→SRel w s t→SRel w (argsD ds i s) (zcq vs i t)
 | [],vs,i,s,t,h,hs=>by rw[h.inv_nil];exact hs
 |d::ds,vs,i,s,t,h,hs=>by
  obtain⟨v,r,rfl,hv,hr⟩:=h.head
  exact argsD_rel (ds:=ds) (vs:=r) hr (hs.set hv (bits i))
theorem handE_sound {f:DV} {l:List DV} {p:Option DV} {rs:List CR} {k kp:DV→VM→Prop} {s:DS} {M:VM} (hk:HandD F f l p M fun M=>endD rs k s M) {w0 w:Wd} {M0:VM} {h0 h:H} {t:zp} {fv:Value} {vs:List Value} {pv:Option Value} (hst:St n0 w0 M0 h0 w M h) (hs:SRel w s t) (hf:VRel w f fv) (hl:LRel w l vs) (hp:ORelO w p pv):
 ∃n o,(E F n (.hand fv vs pv h)).bind (resK1 rs t)=some o∧OutC w0 M0 h0 k kp o:=by
 obtain⟨n,v,h1,w1,M1,e,a1,a2,a3⟩:=hk w h fv vs pv hst.r hf hl hp
 obtain⟨o,h2,h3,-⟩:=zhq (kp:=kp) (hst.step a1 a2) (hs.mono a1.le) a3
 exact⟨n,o,by rw[e];exact h2,h3⟩
theorem zy.func {g:Nat} {a c args:List DV} {M:VM} {k kp:DV→VM→Prop} {cf:zn} (hF:F g=some cf) (hp:cf.prim=none) (h:wFunc (rD F) cf (a++args++c) M k kp):zy F (.fn g a c) args M k kp:=by
 intro w hp0 fv vs hr hf hv
 obtain⟨a',c',rfl,ha,hc⟩:=hf.inv_fn
 have hall:=(ha.append hv).append hc
 obtain⟨hlen,hw⟩:=h
 have hst:St M.next w M hp0 w M hp0:=⟨rfl,hr,.refl _ _ _,hr⟩
 obtain⟨n,o,h1,h2⟩:=zfk cf.body hw w M hp0 w hp0 (zcq (a'++vs++c') 0 .nil) hst (argsD_rel hall .nil)
 have fin: ∀{m o'},n≤m→bodyK (E F m) cf.results cf.dfr o=some o'→E F (m+1) (.call (.func (.func g) ⟨a'⟩ ⟨c'⟩) vs hp0)=some o':=fun{m o'} hm e=>by
  show((F g).bind fun cf=>zcx (E F m) cf (a'++vs++c') hp0)=_
  rw[hF,Option.bind_some]
  unfold zcx
  rw[hp]
  show zbU _ _ _ _=_
  unfold zbU
  rw[if_pos (by rw[Nat.ble_eq,←hall.len];exact hlen),E_up hm h1,Option.bind_some,e]
 cases hd:cf.dfr with
 |none=>
  rw[hd] at h2
  cases o with
  |nrm t1 h1'=>
   obtain⟨w1,M1,s1,a1,a2,a3⟩:=h2
   obtain⟨o',e1,e2,-⟩:=zhq (kp:=kp) a1 a2 a3
   exact⟨n+1,o',fin (Nat.le_refl _) (by rw[hd];exact e1),e2⟩
  |ret t1 h1'=>
   obtain⟨w1,M1,s1,a1,a2,a3⟩:=h2
   obtain⟨o',e1,e2,-⟩:=zhq (kp:=kp) a1 a2 a3
   exact⟨n+1,o',fin (Nat.le_refl _) (by rw[hd];exact e1),e2⟩
  |pan v t1 h1'=>
   obtain⟨w1,M1,s1,d,a1,a2,a3,a4⟩:=h2
   exact⟨n+1,.pan v .nil h1',fin (Nat.le_refl _) (by rw[hd];rfl),w1,M1,d,a1.hi,a1.r,a3,a4⟩
  |exit=>obtain⟨w1,M1,s1,a1,a2,a3⟩:=h2;exact a3.elim
  |val=>exact h2.elim
 |some df=>
  rw[hd] at h2
  cases o with
  |nrm t1 h1'=>
   obtain⟨w1,M1,s1,a1,a2,a3⟩:=h2
   obtain⟨f,hf1,a3⟩:=zbM a3
   obtain⟨fv,hf2,hf3⟩:=zbT a2 hf1
   cases f with
   |fn g2 fa fc=>
    obtain⟨l,hl1,a3⟩:=zbM a3
    obtain⟨lv,hl2,hl3⟩:=zfq a2 hl1
    have hst1:St M1.next w1 M1 h1' w1 M1 h1':=⟨rfl,a1.r,.refl _ _ _,a1.r⟩
    obtain⟨n2,o2,b1,b2⟩:=zfk df.rest a3 w1 M1 h1' w1 h1' (zcg df.L t1) hst1 (a2.keep df.L)
    have hisf:isFn fv=some fv:=by cases hf3;rfl
    have fin2: ∀{m o'},n≤m→n2≤m→doneK (E F m) fv lv cf.results o2=some o'→E F (m+1) (.call (.func (.func g) ⟨a'⟩ ⟨c'⟩) vs hp0)=some o':=fun{m o'} hm hm2 e=>fin hm (by
     rw[hd]
     show((df.f.ev t1).bind fun f=>(isFn f).bind fun f=>(evL t1 df.args).bind fun l=>(E F m (.code df.rest (zcg df.L t1) h1')).bind (doneK (E F m) f l cf.results))=_
     rw[hf2,Option.bind_some,hisf,Option.bind_some,hl2,Option.bind_some,E_up hm2 b1,Option.bind_some,e])
    have done: ∀{t2 h2' p pv} {s2:DS} {M2:VM} {w2:Wd},St M1.next w1 M1 h1' w2 M2 h2'→SRel w2 s2 t2→ORelO w2 p pv→HandD F (.fn g2 fa fc) l p M2 (fun M=>endD cf.results k s2 M)→(∀m,doneK (E F m) fv lv cf.results o2=(E F m (.hand fv lv pv h2')).bind (resK1 cf.results t2))→
     ∃n o,E F n (.call (.func (.func g) ⟨a'⟩ ⟨c'⟩) vs hp0)=some o∧OutC w M hp0 k kp o:=fun{t2 h2' p pv s2 M2 w2} c1 c2 c4 c5 c6=>by
     have c1':St M.next w M hp0 w2 M2 h2':=a1.step c1.hi c1.r
     obtain⟨m,o3,d1,d2⟩:=handE_sound (kp:=kp) c5 c1' c2 (hf3.mono c1.hi.le) (hl3.mono c1.hi.le) c4
     obtain⟨x,hx,hy⟩:=aof d1
     refine⟨max (max n n2) m+1,o3,fin2 (by omega) (by omega) ?_,d2⟩
     rw[c6,E_up (by omega) hx,Option.bind_some,hy]
    cases o2 with
    |nrm t2 h2'=>
     obtain⟨w2,M2,s2,c1,c2,c3⟩:=b2
     exact done (p:=none) (pv:=none) c1 c2 trivial c3 fun m=>rfl
    |ret t2 h2'=>
     obtain⟨w2,M2,s2,c1,c2,c3⟩:=b2
     exact done (p:=none) (pv:=none) c1 c2 trivial c3 fun m=>rfl
    |pan v t2 h2'=>
     obtain⟨w2,M2,s2,d2,c1,c2,c3,c4⟩:=b2
     exact done (p:=some d2) (pv:=some v) c1 c2 c3 c4 fun m=>rfl
    |exit=>obtain⟨_,_,_,_,_,q⟩:=b2;exact q.elim
    |val=>exact b2.elim
   |_=>exact a3.elim
  |pan v t1 h1'=>
   obtain⟨w1,M1,s1,d,a1,a2,a3,a4⟩:=h2
   exact⟨n+1,.pan v .nil h1',fin (Nat.le_refl _) (by rw[hd];rfl),w1,M1,d,a1.hi,a1.r,a3,a4⟩
  |ret=>obtain⟨w1,M1,s1,a1,a2,a3⟩:=h2;exact a3.elim
  |exit=>obtain⟨w1,M1,s1,a1,a2,a3⟩:=h2;exact a3.elim
  |val=>exact h2.elim
theorem setSD_rel {w:Wd}: ∀{ps:List (List Bool)} {ds:List DV} {vs:List Value} {s s2:DS} {t:zp},setSD ps ds s=some s2→LRel w ds vs→SRel w s t→ ∃t2,zds ps vs t=some t2∧SRel w s2 t2
 | [],[],vs,s,s2,t,h,hl,hs=>by rw[hl.inv_nil];cases h;exact⟨t,rfl,hs⟩
 | [],_::_,vs,s,s2,t,h,hl,hs=>by cases h
 |_::_,[],vs,s,s2,t,h,hl,hs=>by cases h
 |p::ps,d::ds,vs,s,s2,t,h,hl,hs=>by
  obtain⟨v,r,rfl,hv,hr⟩:=hl.head
  exact setSD_rel (ps:=ps) h hr (hs.set hv p)
theorem zy.yield {l:Nat} {args:List DV} {M:VM} {k kp:DV→VM→Prop} {st:LoopState} {pend:Option CC} {sl:DS} {rc:RC} (ho:M.obj l=some (.loop st pend sl rc)) (h:wRound (rD F M.next) l sl rc args M k):zy F (.yld l) args M k kp:=by
 intro w hp0 fv vs hr hf hv
 cases hf with
 | @yld _ R hR=>
   obtain⟨stt,hg⟩:=zbt ho
   obtain⟨hz,e,he,hro⟩:=hr.obj _ _ _ R hg hR
   cases hro with
   | @loop _ _ _ sl' _ hsl=>
     have hst:St M.next w M hp0 w M hp0:=⟨rfl,hr,.refl _ _ _,hr⟩
     obtain⟨s,hs,h⟩:=zbM h
     obtain⟨t2,ht2,hs2⟩:=setSD_rel hs hv (hsl.keep rc.L)
     obtain⟨n,o,h1,h2⟩:=zfk rc.as h w M hp0 w hp0 t2 hst hs2
     have fin: ∀{m o'},n≤m→zfP (E F m) R.blk rc.b o=some o'→E F (m+1) (.call (.func (.yield R.blk) #[] #[]) vs hp0)=some o':=fun{m o'} hm e'=>by
      show(hp0.get R.blk).bind (runRound (E F m) R.blk vs hp0)=_
      rw[he,Option.bind_some]
      show((zds rc.ps vs (zcg rc.L sl')).bind fun s=>(E F m (.code rc.as s hp0)).bind (zfP (E F m) R.blk rc.b))=_
      rw[ht2,Option.bind_some,E_up hm h1,Option.bind_some,e']
     cases o with
     |nrm t1 h1'=>
      obtain⟨w1,M1,s1,a1,a2,a3⟩:=h2
      obtain⟨ob,ho1,a3⟩:=zbM a3
      obtain⟨st1,hg1⟩:=zbt ho1
      have hR1:=a1.hi.le.rho _ _ hR
      obtain⟨hz1,e1,he1,hro1⟩:=a1.r.obj _ _ st1 R hg1 hR1
      cases hro1 with
      |rows=>exact a3.elim
      |map=>exact a3.elim
      | @loop lst pend1 sl1 sl1' rc1 hsl1=>
        cases lst with
        |ready=>
         obtain⟨p1,p2⟩:=a1.r.put hg1 hR1 (o:=.loop .busy pend1 sl1 rc1) (e:=.loop .busy pend1 sl1' rc1) (.loop hsl1)
         obtain⟨n2,o2,b1,b2⟩:=zfk rc.b a3 w M hp0 w1 (h1'.put R.blk (.loop .busy pend1 sl1' rc1)) t1 (a1.step p2 p1) a2
         have fin2: ∀{o'},finRound R.blk o2=some o'→OutC w M hp0 k kp o'→ ∃n o,E F n (.call (.func (.yield R.blk) #[] #[]) vs hp0)=some o∧OutC w M hp0 k kp o:=fun{o'} e' q=>by
          refine⟨max n n2+1,o',fin (Nat.le_max_left _ _) ?_,q⟩
          show(h1'.get R.blk).bind _=_
          rw[he1,Option.bind_some]
          show(E F _ _).bind _=_
          rw[E_up (Nat.le_max_right _ _) b1,Option.bind_some,e']
         have ze4: ∀{pd:Option CC} {M2:VM} {w2:Wd} {h2:H},finD l k pd M2→St M.next w M hp0 w2 M2 h2→ ∃o',(h2.get R.blk).bind (zjv R.blk pd h2)=some o'∧OutC w M hp0 k kp o':=fun{pd M2 w2 h2} q c1=>by
          obtain⟨ob2,ho2,q⟩:=zbM q
          obtain⟨st2,hg2⟩:=zbt ho2
          have hR2:=c1.hi.le.rho _ _ hR
          obtain⟨hz2,e2,he2,hro2⟩:=c1.r.obj _ _ st2 R hg2 hR2
          cases hro2 with
          |rows=>exact q.elim
          |map=>exact q.elim
          | @loop lst2 pend2 sl2 sl2' rc2 hsl2=>
            obtain⟨p1,p2⟩:=c1.r.put hg2 hR2 (o:=.loop (stOf pd) pd sl2 rc2) (e:=.loop (stOf pd) pd sl2' rc2) (.loop hsl2)
            exact⟨.val (.bool pd.isNone) (h2.put R.blk (.loop (stOf pd) pd sl2' rc2)),by rw[he2];rfl,_,_,_,(c1.step p2 p1).hi,p1,.bool _,q⟩
         cases o2 with
         |nrm t3 h3=>
          obtain⟨w2,M2,s2,c1,c2,c3⟩:=b2
          obtain⟨o',q1,q2⟩:=ze4 c3 c1
          exact fin2 q1 q2
         |ret t3 h3=>
          obtain⟨w2,M2,s2,c1,c2,c3⟩:=b2
          obtain⟨o',q1,q2⟩:=ze4 c3 c1
          exact fin2 q1 q2
         |exit i t3 h3=>
          obtain⟨w2,M2,s2,c1,c2,c3⟩:=b2
          obtain⟨o',q1,q2⟩:=ze4 c3 c1
          exact fin2 q1 q2
         |pan=>obtain⟨_,_,_,_,_,_,_,q⟩:=b2;exact q.elim
         |val=>exact b2.elim
        |_=>exact a3.elim
     |exit=>obtain⟨_,_,_,_,_,q⟩:=h2;exact q.elim
     |ret=>obtain⟨_,_,_,_,_,q⟩:=h2;exact q.elim
     |pan=>obtain⟨_,_,_,_,_,_,_,q⟩:=h2;exact q.elim
     |val=>exact h2.elim
theorem zy.mono {f:DV} {args:List DV} {M:VM} {k k' kp kp':DV→VM→Prop} (h:zy F f args M k kp) (h1: ∀d M,k d M→k' d M) (h2: ∀d M,kp d M→kp' d M):zy F f args M k' kp':=fun w hp fv vs a b c=>by
 obtain⟨n,o,e,q⟩:=h w hp fv vs a b c
 refine⟨n,o,e,?_⟩
 cases o with
 |val=>obtain⟨w1,M1,d,a1,a2,a3,a4⟩:=q;exact⟨w1,M1,d,a1,a2,a3,h1 _ _ a4⟩
 |pan=>obtain⟨w1,M1,d,a1,a2,a3,a4⟩:=q;exact⟨w1,M1,d,a1,a2,a3,h2 _ _ a4⟩
 |_=>exact q
end Go.Ideal
namespace Go.Ideal
inductive zJ (n:Nat):DV→Prop where
 |int (k:IntKind) (a:Int):zJ n (.int k a)
 |bool (b:Bool):zJ n (.bool b)
 |str (s:ByteArray):zJ n (.str s)
 |nilS:zJ n .nilS
 |nilP:zJ n .nilP
 |nilM:zJ n .nilM
 |nilF:zJ n .nilF
 |nilI:zJ n .nilI
 |agg {l:List DV} (h: ∀d∈l,zJ n d):zJ n (.agg l)
 |tup {l:List DV} (h: ∀d∈l,zJ n d):zJ n (.tup l)
 |lst {s:Nat} {rows:List (List DV)} (h: ∀r∈rows,∀d∈r,zJ n d):zJ n (.lst s rows)
 |pl {s i off:Nat} {rows:List (List DV)} (h: ∀r∈rows,∀d∈r,zJ n d):zJ n (.pl s rows i off)
 |fn (g:Nat) {a c:List DV} (h: ∀d∈a,zJ n d) (h': ∀d∈c,zJ n d):zJ n (.fn g a c)
 |ifc (t:Nat) {d:DV} (h:zJ n d):zJ n (.ifc t d)
 |ms {j lo len cap:Nat} (h:j<n):zJ n (.ms j lo len cap)
 |ptr {j i off:Nat} (h:j<n):zJ n (.ptr j i off)
 |map {j:Nat} (h:j<n):zJ n (.map j)
 |yld {j:Nat} (h:j<n):zJ n (.yld j)
inductive Frz (M M2:VM):DV→DV→Prop where
 |refl (d:DV):Frz M M2 d d
 |nilS (s:Nat):Frz M M2 .nilS (.lst s [])
 |agg {l l2:List DV} (hl:l.length=l2.length) (h: ∀(k:Nat) d e,l[k]? =some d→l2[k]? =some e→Frz M M2 d e):Frz M M2 (.agg l) (.agg l2)
 |tup {l l2:List DV} (hl:l.length=l2.length) (h: ∀(k:Nat) d e,l[k]? =some d→l2[k]? =some e→Frz M M2 d e):Frz M M2 (.tup l) (.tup l2)
 |ifc (t:Nat) {d e:DV} (h:Frz M M2 d e):Frz M M2 (.ifc t d) (.ifc t e)
 |ms {j lo len cap sz:Nat} {op:Bool} {rs rows:List (List DV)} (ho:M.obj j=some (.rows op sz rs)) (hn:M2.get j=none) (hb:lo+len≤rs.length) (hs: ∀r∈rows,r.length=sz) (hr:rows.length=len)
   (h: ∀(k:Nat) d e,(((rs.drop lo).take len).flatten)[k]? =some d→rows.flatten[k]? =some e→Frz M M2 d e):Frz M M2 (.ms j lo len cap) (.lst sz rows)
 |ptr {j i off sz:Nat} {op:Bool} {rs rows:List (List DV)} (ho:M.obj j=some (.rows op sz rs)) (hn:M2.get j=none) (hs: ∀r∈rows,r.length=sz) (hr:rows.length=rs.length)
   (h: ∀(k:Nat) d e,rs.flatten[k]? =some d→rows.flatten[k]? =some e→Frz M M2 d e):Frz M M2 (.ptr j i off) (.pl sz rows i off)
inductive FrzO (M M2:VM):MO→MO→Prop where
 |refl (o:MO):FrzO M M2 o o
 |rows {op:Bool} {sz:Nat} {rs rows:List (List DV)} (hs: ∀r∈rows,r.length=sz) (hr:rows.length=rs.length) (h: ∀(k:Nat) d e,rs.flatten[k]? =some d→rows.flatten[k]? =some e→Frz M M2 d e):FrzO M M2 (.rows op sz rs) (.rows op sz rows)
inductive zlW (n:Nat):MO→Prop where
 |rows {op:Bool} {sz:Nat} {rs:List (List DV)} (h: ∀r∈rs,∀d∈r,zJ n d):zlW n (.rows op sz rs)
 |map {es:List (DV×DV)} (h: ∀e∈es,zJ n e.1∧zJ n e.2):zlW n (.map es)
 |loop {st:LoopState} {pend:Option CC} {sl:DS} {rc:RC} (h: ∀x∈sl,zJ n x.2):zlW n (.loop st pend sl rc)
structure Conv (M M' M2:VM):Prop where
 nx:M.next≤M2.next
 obj: ∀j,(M2.get j=M.get j∧(j<M.next→M'.get j=M.get j))∨M2.get j=none∨
  ∃o st o',M2.get j=some (o,st)∧j<M2.next∧M.next≤st∧st<M2.next∧M'.obj j=some o'∧FrzO M' M2 o' o∧zlW M2.next o
section
variable {w:Wd} {M' M2:VM} {h:H}
def FB (w:Wd) (M' M2:VM) (b:Nat):Prop:= ∃j R,w.rho j=some R∧R.blk=b∧(M'.get j).isSome=true∧M2.get j=none
open Classical in
noncomputable def cw (w:Wd) (M' M2:VM) (h:H):Wd:=⟨fun j=>if j<M2.next then w.rho j else none,fun b=>match w.Z b with
 |some z=>some z
 |none=>if FB w M' M2 b then(match h.get b with|some (.cells cs e)=>some (cs,e)|_=>none) else none⟩
theorem zlR {j:Nat} (hj:j<M2.next) {R:RBd} (hR:w.rho j=some R):(cw w M' M2 h).rho j=some R:=by
 show(if j<M2.next then _ else _)=_;rw[if_pos hj];exact hR
theorem zjG {j:Nat} {R:RBd} (hR:(cw w M' M2 h).rho j=some R):j<M2.next∧w.rho j=some R:=by
 have hR:(if j<M2.next then w.rho j else none)=some R:=hR
 split at hR
 ·exact⟨‹_›,hR⟩
 ·cases hR
theorem cw_Z {b:Nat} {z:List Value×Nat} (hz:w.Z b=some z):(cw w M' M2 h).Z b=some z:=by
 show(match w.Z b with|some z=>some z|none=>_)=_;rw[hz]
theorem cw_FB {b:Nat} {cs:List Value} {e:Nat} (hz:w.Z b=none) (hf:FB w M' M2 b) (hg:h.get b=some (.cells cs e)):(cw w M' M2 h).Z b=some (cs,e):=by
 show(match w.Z b with|some z=>some z|none=>_)=_;rw[hz]
 dsimp only
 rw[if_pos hf,hg]
theorem cw_Z' {b:Nat} {z:List Value×Nat} (hz:(cw w M' M2 h).Z b=some z):w.Z b=some z∨(FB w M' M2 b∧h.get b=some (.cells z.1 z.2)):=by
 have hz:(match w.Z b with|some z=>some z|none=>_)=some z:=hz
 split at hz
 ·rename_i e;cases hz;exact .inl e
 ·split at hz
  ·rename_i hf
   split at hz
   ·rename_i hg;cases hz;exact .inr ⟨hf,hg⟩
   ·cases hz
  ·cases hz
theorem zJ.rel {d:DV} {v:Value} (hv:VRel w d v):zJ M2.next d→VRel (cw w M' M2 h) d v:=by
 induction hv with
 |int k n=>intro _;exact .int k n
 |bool b=>intro _;exact .bool b
 |str s=>intro _;exact .str s
 |nilS=>intro _;exact .nilS
 |nilP=>intro _;exact .nilP
 |nilM=>intro _;exact .nilM
 |nilF=>intro _;exact .nilF
 |nilI=>intro _;exact .nilI
 |agg hl _ ih=>intro hb;cases hb with|agg hb=>exact .agg hl fun k d v a b=>ih k d v a b (hb d (List.mem_of_getElem? a))
 |tup hl _ ih=>intro hb;cases hb with|tup hb=>exact .tup hl fun k d v a b=>ih k d v a b (hb d (List.mem_of_getElem? a))
 |fn g ha hc _ _ ih ih'=>intro hb;cases hb with|fn _ h1 h2=>exact .fn g ha hc (fun k d v a b=>ih k d v a b (h1 d (List.mem_of_getElem? a))) (fun k d v a b=>ih' k d v a b (h2 d (List.mem_of_getElem? a)))
 |yld hR=>intro hb;cases hb with|yld hb=>exact .yld (zlR hb hR)
 |ifc t _ ih=>intro hb;cases hb with|ifc _ hb=>exact .ifc t (ih hb)
 |map hR=>intro hb;cases hb with|map hb=>exact .map (zlR hb hR)
 |ptr hR=>intro hb;cases hb with|ptr hb=>exact .ptr (zlR hb hR)
 |ms hR ho hc=>intro hb;cases hb with|ms hb=>exact .ms (zlR hb hR) ho hc
 |lst hz hs hb _ ho hc hn ih=>intro hq;cases hq with|lst hq=>exact .lst (cw_Z hz) hs hb (fun k d v a b=>ih k d v a b (by
   obtain⟨r,hr1,hr2⟩:=List.mem_flatten.1 (List.mem_of_getElem? a);exact hq r hr1 d hr2)) ho hc hn
 |lst0 hc hsp=>intro _;exact .lst0 hc hsp
 |pl hz hs hb _ ih=>intro hq;cases hq with|pl hq=>exact .pl (cw_Z hz) hs hb (fun k d v a b=>ih k d v a b (by
   obtain⟨r,hr1,hr2⟩:=List.mem_flatten.1 (List.mem_of_getElem? a);exact hq r hr1 d hr2))
theorem zcX {l m:List DV} (hl:l.length=m.length) {k:Nat} {e:DV} (he:m[k]? =some e): ∃d,l[k]? =some d:=by
 have:=(List.getElem?_eq_some_iff.1 he).1
 exact⟨l[k]'(by omega),List.getElem?_eq_getElem (by omega)⟩
theorem Frz.rel (hr:HRel w M' h) {d e:DV} (hf:Frz M' M2 d e): ∀{v:Value},VRel w d v→zJ M2.next e→VRel (cw w M' M2 h) e v:=by
 induction hf with
 |refl d=>intro v hv hb;exact zJ.rel hv hb
 |nilS s=>intro v hv hb;cases hv;exact .lst0 (by decide) (fun a e=>by cases e)
 |agg hl _ ih=>
  intro v hv hb
  cases hb with
  |agg hb=>
   obtain⟨vs,rfl,hlr⟩:=hv.inv_agg
   refine .agg (hl.symm.trans hlr.len) fun k e v a b=> ?_
   obtain⟨d,hd⟩:=zcX hl a
   exact ih k d e hd a (hlr.at_ k d v hd b) (hb e (List.mem_of_getElem? a))
 |tup hl _ ih=>
  intro v hv hb
  cases hb with
  |tup hb=>
   obtain⟨vs,rfl,hlr⟩:=hv.inv_tup
   refine .tup (hl.symm.trans hlr.len) fun k e v a b=> ?_
   obtain⟨d,hd⟩:=zcX hl a
   exact ih k d e hd a (hlr.at_ k d v hd b) (hb e (List.mem_of_getElem? a))
 |ifc t _ ih=>
  intro v hv hb
  cases hb with
  |ifc _ hb=>cases hv with|ifc _ hv=>exact .ifc t (ih hv hb)
 | @ms j lo len cap sz op rs rows ho hn hle hs hrl _ ih=>
   intro v hv hb
   cases hb with
   |lst hb=>
    cases hv with
    | @ms _ _ _ _ R hR hO hC=>
      obtain⟨st,hg⟩:=zbt ho
      obtain⟨hz,eo,he,hro⟩:=hr.obj j _ st R hg hR
      cases hro with
      | @rows _ _ _ cs e hrows=>
        have hs0:=hrows.row
        have hfl:=zbg hs0
        have hcl:=hrows.rel.len
        have hlen2:((rs.drop lo).take len).flatten.length=rows.flatten.length:=by
         rw[zbg (rs:=(rs.drop lo).take len) (fun r hr=>hs0 r (List.mem_of_mem_drop (List.mem_of_mem_take hr))),zbg hs,hrl]
         congr 1;simp;omega
        have hmul:lo*sz+len*sz≤rs.length*sz:=by rw[←Nat.add_mul];exact Nat.mul_le_mul_right _ hle
        refine .lst (cs:=cs) (e:=e) (cw_FB hz ⟨j,R,hR,rfl,by rw[hg];rfl,hn⟩ he) hs (by rw[hrl,←hrows.hsz];omega) (fun k e2 v a b=> ?_) (fun hc=> ?_) (fun hc=>by rw[hrl];exact hC hc) hrl.symm
        ·obtain⟨d,hd⟩:=zcX hlen2 a
         have hd2:=hd
         rw[zdb (fun r hr=>hs0 r (List.mem_of_mem_drop hr)),zdc hs0,List.getElem?_take] at hd2
         split at hd2
         ·rw[List.getElem?_drop] at hd2
          refine ih k d e2 hd a (hrows.rel.at_ _ d v hd2 (by rw[hrows.hsz];exact b)) ?_
          obtain⟨r,hr1,hr2⟩:=List.mem_flatten.1 (List.mem_of_getElem? a);exact hb r hr1 e2 hr2
         ·cases hd2
        ·have h1:=hO hc
         have h2:=hrows.hop.trans h1
         subst h2
         have:=hrows.esz
         rw[if_pos rfl] at this
         exact⟨this,hrows.pos rfl⟩
 | @ptr j i off sz op rs rows ho hn hs hrl _ ih=>
   intro v hv hb
   cases hb with
   |pl hb=>
    cases hv with
    | @ptr _ _ _ R hR=>
      obtain⟨st,hg⟩:=zbt ho
      obtain⟨hz,eo,he,hro⟩:=hr.obj j _ st R hg hR
      cases hro with
      | @rows _ _ _ cs e hrows=>
        have hs0:=hrows.row
        have hfl:=zbg hs0
        have hcl:=hrows.rel.len
        have hlen2:rs.flatten.length=rows.flatten.length:=by rw[hfl,zbg hs,hrl]
        have:=VRel.pl (w:=cw w M' M2 h) (o:=0) (i:=i) (off:=off) (cs:=cs) (e:=e) (cw_FB hz ⟨j,R,hR,rfl,by rw[hg];rfl,hn⟩ he) hs (by rw[hrl];omega) (fun k e2 v a b=>by
         obtain⟨d,hd⟩:=zcX hlen2 a
         refine ih k d e2 hd a (hrows.rel.at_ _ d v hd (by rw[←b];congr 1;omega)) ?_
         obtain⟨r,hr1,hr2⟩:=List.mem_flatten.1 (List.mem_of_getElem? a);exact hb r hr1 e2 hr2)
        rw[Nat.zero_add] at this
        rw[←hrows.hsz];exact this
theorem St.conv {n0:Nat} {w0:Wd} {M M0:VM} {h0 h1:H} {w1:Wd} (hst:St n0 w0 M0 h0 w1 M h1) {hh:H} (hr1:HRel w1 M h1) (hi:Hist w1 M h1 w M' hh) (hr:HRel w M' hh) (hc:Conv M M' M2):St n0 w0 M0 h0 (cw w M' M2 hh) M2 hh:=by
 have hle1:w1.Le (cw w M' M2 hh):=⟨fun j R e=>zlR (Nat.lt_of_lt_of_le (hr1.dom j R e).1 hc.nx) (hi.le.rho _ _ e),fun b z e=>cw_Z (hi.le.Z _ _ e)⟩
 have kept: ∀j o st,M2.get j=some (o,st)→(M.get j=some (o,st)∧M'.get j=some (o,st))∨(j<M2.next∧M.next≤st∧st<M2.next∧ ∃o',M'.obj j=some o'∧FrzO M' M2 o' o∧zlW M2.next o):=fun j o st e=>by
  rcases hc.obj j with⟨h1,h2⟩|h1| ⟨o1,st1,o',h1,h2,h3,h4,h5,h6,h7⟩
  ·rw[h1] at e
   exact .inl ⟨e,by rw[h2 (hr1.wf j o st e).1];exact e⟩
  ·rw[h1] at e;cases e
  ·rw[h1] at e;cases e;exact .inr ⟨h2,h3,h4,o',h5,h6,h7⟩
 have live: ∀j x,M2.get j=some x→ ∃y,M'.get j=some y:=fun j x e=>by
  obtain⟨o,st⟩:=x
  rcases kept j o st e with⟨_,h2⟩| ⟨_,_,_,o',h5,_⟩
  ·exact⟨_,h2⟩
  ·obtain⟨st',h6⟩:=zbt h5;exact⟨_,h6⟩
 refine⟨hst.n,hst.r0,hst.hi.trans hst.r0 ⟨hle1,hc.nx,hi.hnx,fun j o st e=> ?_,fun j x R e1 e2 hR=> ?_,fun j R e=>hi.own j R (zjG e).2,hi.rest⟩,?_⟩
 ·rcases kept j o st e with⟨h1,-⟩| ⟨_,h1,_⟩
  ·exact .inl h1
  ·exact .inr h1
 ·obtain⟨o,st⟩:=x
  rcases kept j o st e2 with⟨_,h2⟩| ⟨_,h1,_⟩
  ·exact hi.same j _ R e1 h2 hR
  ·have:=(hr1.wf j o st e1).2.1;omega
 ·constructor
  ·intro j o st e
   rcases kept j o st e with⟨h1,h2⟩| ⟨h1,_,h3,o',h5,_⟩
   ·obtain⟨a,b,R,c⟩:=hr1.wf j o st h1
    exact⟨Nat.lt_of_lt_of_le a hc.nx,Nat.lt_of_lt_of_le b hc.nx,R,hle1.rho _ _ c⟩
   ·obtain⟨st',h6⟩:=zbt h5
    obtain⟨_,_,R,c⟩:=hr.wf j _ _ h6
    exact⟨h1,h3,R,zlR h1 c⟩
  ·intro j R e
   obtain⟨a,b⟩:=zjG e
   exact⟨a,(hr.dom j R b).2⟩
  ·intro b z e
   rcases cw_Z' e with e| ⟨⟨j,R,hR,rfl,_⟩,hg⟩
   ·exact hr.zd b z e
   ·exact⟨(hr.dom j R hR).2,hg⟩
  ·intro j o st R e hR
   obtain⟨hj,hR⟩:=zjG hR
   obtain⟨y,hy⟩:=live j _ e
   obtain⟨hz,e',he',hro⟩:=hr.obj j y.1 y.2 R hy hR
   refine⟨?_,?_⟩
   ·cases hzz:(cw w M' M2 hh).Z R.blk with
    |none=>rfl
    |some z=>
     rcases cw_Z' hzz with e2| ⟨⟨j',R',hR',eb,hl,hn⟩,hg⟩
     ·rw[hz] at e2;cases e2
     ·have:=hr.inj j' j R' R hR' hR hl (by rw[hy];rfl) eb
      subst this
      rw[hn] at e;cases e
   ·rcases kept j o st e with⟨h1,h2⟩| ⟨_,_,_,o',h5,h6,h7⟩
    ·
     obtain⟨_,_,R1,c⟩:=hr1.wf j o st h1
     have:R1=R:=by have:=hi.le.rho _ _ c;rw[hR] at this;cases this;rfl
     subst this
     obtain⟨_,e0,he0,hro0⟩:=hr1.obj j o st R1 h1 c
     exact⟨e0,by rw[hi.same j _ R1 h1 h2 c];exact he0,hro0.mono hle1⟩
    ·obtain⟨st',h8⟩:=zbt h5
     rw[hy] at h8;cases h8
     refine⟨e',he',?_⟩
     cases h6 with
     |refl=>
      cases hro with
      | @rows op sz rs cs ee hrows=>
        cases h7 with
        |rows h7=>
         refine .rows ⟨hrows.hop,hrows.hsz,hrows.esz,hrows.pos,hrows.row,hrows.rel.len,fun k d v a b=>zJ.rel (hrows.rel.at_ k d v a b) ?_⟩
         obtain⟨r,hr1,hr2⟩:=List.mem_flatten.1 (List.mem_of_getElem? a);exact h7 r hr1 d hr2
      | @map es es' c hm=>
        cases h7 with
        |map h7=>
         refine .map ⟨⟨hm.keys.len,fun k d v a b=>zJ.rel (hm.keys.at_ k d v a b) ?_⟩,⟨hm.vals.len,fun k d v a b=>zJ.rel (hm.vals.at_ k d v a b) ?_⟩⟩
         ·obtain⟨x,hx,rfl⟩:=List.mem_map.1 (List.mem_of_getElem? a);exact(h7 x hx).1
         ·obtain⟨x,hx,rfl⟩:=List.mem_map.1 (List.mem_of_getElem? a);exact(h7 x hx).2
      | @loop lst pend sl sl' rc hsl=>
        cases h7 with
        |loop h7=>
         refine .loop fun p d hd=> ?_
         obtain⟨v,hv,hv2⟩:=hsl p d hd
         refine⟨v,hv,zJ.rel hv2 ?_⟩
         have: ∀{s:DS},getS s p=some d→ ∃x∈s,x.2=d:=by
          intro s
          induction s with
          |nil=>intro q;cases q
          |cons x s ih=>
           intro q
           obtain⟨x1,x2⟩:=x
           rw[zd3] at q
           split at q
           ·cases q;exact⟨_,List.mem_cons_self ..,rfl⟩
           ·obtain⟨y,hy,e⟩:=ih q;exact⟨y,List.mem_cons_of_mem _ hy,e⟩
         obtain⟨x,hx,rfl⟩:=this hd
         exact h7 x hx
     | @rows op sz rs rows hs hrl hfr=>
       cases hro with
       | @rows _ _ _ cs ee hrows=>
         cases h7 with
         |rows h7=>
          have hlen2:rs.flatten.length=rows.flatten.length:=by rw[zbg hrows.row,zbg hs,hrl]
          refine .rows ⟨hrows.hop,hrows.hsz,hrows.esz,hrows.pos,hs,hlen2.symm.trans hrows.rel.len,fun k d v a b=> ?_⟩
          obtain⟨d0,hd0⟩:=zcX hlen2 a
          refine(hfr k d0 d hd0 a).rel hr (hrows.rel.at_ k d0 v hd0 b) ?_
          obtain⟨r,hr1,hr2⟩:=List.mem_flatten.1 (List.mem_of_getElem? a);exact h7 r hr1 d hr2
  ·intro i j R S hi' hj ai aj eb
   obtain⟨xi,ei⟩:=Option.isSome_iff_exists.1 ai
   obtain⟨xj,ej⟩:=Option.isSome_iff_exists.1 aj
   obtain⟨yi,fi⟩:=live i _ ei
   obtain⟨yj,fj⟩:=live j _ ej
   exact hr.inj i j R S (zjG hi').2 (zjG hj).2 (by rw[fi];rfl) (by rw[fj];rfl) eb
end
variable {F:FuncId→Option zn} {n0:Nat}
theorem zy.conv {f:DV} {args:List DV} {M:VM} {k kp:DV→VM→Prop} (h:zy F f args M (fun d M'=> ∃e M2,Conv M M' M2∧Frz M' M2 d e∧zJ M2.next e∧k e M2) kp):zy F f args M k kp:=by
 intro w hp fv vs hr hf hv
 obtain⟨n,o,e,q⟩:=h w hp fv vs hr hf hv
 refine⟨n,o,e,?_⟩
 cases o with
 |val v h1=>
  obtain⟨w1,M1,d,a1,a2,a3,e2,M2,c1,c2,c3,c4⟩:=q
  have:=St.conv ⟨rfl,hr,.refl _ _ _,hr⟩ hr a1 a2 c1
  exact⟨_,M2,e2,this.hi,this.r,c2.rel a2 a3 c3,c4⟩
 |pan v s h1=>exact q
 |_=>exact q
theorem zy.pre {f:DV} {args args2:List DV} {M M2:VM} {k kp:DV→VM→Prop} (hc:Conv M M M2) (hf:zJ M2.next f) (hl:args.length=args2.length) (ha: ∀(i:Nat) d e,args[i]? =some d→args2[i]? =some e→Frz M M2 d e∧zJ M2.next e) (h:zy F f args2 M2 k kp):zy F f args M k kp:=by
 intro w hp fv vs hr hfv hv
 have st:=St.conv ⟨rfl,hr,.refl _ _ _,hr⟩ hr (.refl _ _ _) hr hc
 obtain⟨n,o,e,q⟩:=h _ hp fv vs st.r (zJ.rel hfv hf) ⟨hl.symm.trans hv.len,fun i e v a b=>by
  obtain⟨d,hd⟩:=zcX hl a
  obtain⟨h1,h2⟩:=ha i d e hd a
  exact h1.rel hr (hv.at_ i d v hd b) h2⟩
 refine⟨n,o,e,?_⟩
 cases o with
 |val v h1=>obtain⟨w1,M1,d,a1,a2,a3,a4⟩:=q;exact⟨w1,M1,d,st.hi.trans hr a1,a2,a3,a4⟩
 |pan v s h1=>obtain⟨w1,M1,d,a1,a2,a3,a4⟩:=q;exact⟨w1,M1,d,st.hi.trans hr a1,a2,a3,a4⟩
 |_=>exact q
def VM.Wf (M:VM):Prop:= ∀j,M.next≤j→M.get j=none
theorem HRel.Wf {w:Wd} {M:VM} {h:H} (hr:HRel w M h):M.Wf:=fun j hj=>by
 cases e:M.get j with
 |none=>rfl
 |some x=>obtain⟨o,st⟩:=x;have:=(hr.wf j o st e).1;omega
theorem zy.wf {f:DV} {args:List DV} {M:VM} {k kp:DV→VM→Prop} (h:M.Wf→zy F f args M k kp):zy F f args M k kp:=fun w hp fv vs hr a b=>h hr.Wf w hp fv vs hr a b
theorem Conv.same {M M':VM} (h: ∀j,j<M.next→M'.get j=M.get j):Conv M M' M:=⟨Nat.le_refl _,fun j=>.inl ⟨rfl,h j⟩⟩
theorem Frz.ms0 {M M2:VM} {j n cap sz:Nat} {op:Bool} {rs:List (List DV)} (ho:M.obj j=some (.rows op sz rs)) (hn:M2.get j=none) (hl:n=rs.length) (hs: ∀r∈rs,r.length=sz):Frz M M2 (.ms j 0 n cap) (.lst sz rs):=by
 subst hl
 refine .ms ho hn (by omega) hs rfl fun k d e a b=> ?_
 rw[List.drop_zero,List.take_length] at a
 rw[a] at b;cases b;exact .refl d
end Go.Ideal
namespace Go.Ideal
noncomputable section
namespace Q
abbrev iI (n:Int):Value:=.int .i64 n
abbrev t (n:Nat):CO:=.t (bits n)
abbrev i (n:Int):CO:=.c (.int .i64 n)
abbrev tt:CO:=.c (.bool true)
abbrev ff:CO:=.c (.bool false)
abbrev fc (f:Nat):CO:=.c (.func (.func f) ⟨[]⟩ ⟨[]⟩)
abbrev bs (l:List Nat):List (List Bool):=l.map bits
abbrev oo (d:Nat) (x:COp):CI:=⟨some (bits d),x,none,0⟩
abbrev on (x:COp):CI:=⟨none,x,none,0⟩
abbrev gu (q:Nat) (b:Bool) (c:CI):CI:=⟨c.dst,c.op,some (bits q,b),c.lo⟩
def lo (n:Nat) (c:CI):CI:=⟨c.dst,c.op,c.guard,n⟩
@[simp] theorem lo_eq (n m:Nat) (d:Option (List Bool)) (o:COp) (g:Option (List Bool×Bool)):lo n ⟨d,o,g,m⟩=⟨d,o,g,n⟩:=id rfl
abbrev mv (d:Nat) (x:CO):CI:=⟨some (bits d),.mv x,none,0⟩
abbrev l (d a:Nat):CI:=⟨some (bits d),.load1 (t a),none,0⟩
abbrev ln (d n a:Nat):CI:=⟨some (bits d),.loadN n (t a),none,0⟩
abbrev fa (d n a:Nat):CI:=⟨some (bits d),.fieldAddr n (t a),none,0⟩
abbrev nc (d a:Nat):CI:=⟨some (bits d),.nilCheck (t a),none,0⟩
abbrev ia (d n a:Nat) (x:CO):CI:=⟨some (bits d),.indexAddr n (t a) x,none,0⟩
abbrev st (n a:Nat) (x:CO):CI:=⟨none,.store n (t a) x,none,0⟩
abbrev bi (op:BinOp) (d:Nat) (x y:CO):CI:=⟨some (bits d),.bin op .other x y,none,0⟩
abbrev le (d:Nat) (x:CO):CI:=⟨some (bits d),.blt .len [x],none,0⟩
abbrev ca (d f:Nat) (as:List CO):CI:=⟨some (bits d),.call (fc f) as,none,0⟩
abbrev ex (d a n:Nat):CI:=⟨some (bits d),.extract (t a) n,none,0⟩
abbrev bx (d:Nat) (x:CO):CI:=⟨some (bits d),.box x,none,0⟩
abbrev no (d a:Nat):CI:=⟨some (bits d),.un .not (t a),none,0⟩
abbrev pk (d:Nat) (c a b:CO):CI:=⟨some (bits d),.pick c a b,none,0⟩
abbrev ap (d s b:Nat) (x y:CO):CI:=⟨some (bits d),.blt (.append s b) [x,y],none,0⟩
end Q
inductive Fr where
 |sq (L:List (List Bool)) (b:CC)
 |bk (i:Nat)
def KF (X:RnD):List Fr→KD→KD
 | [],K=>K
 |.sq L b::ks,K=>⟨fun s M=>wp X b (KF X ks K) (zbh L s) M,(KF X ks K).ext,(KF X ks K).ret,(KF X ks K).pan⟩
 |.bk i::ks,K=>⟨(KF X ks K).nrm,blkD i (KF X ks K),(KF X ks K).ret,(KF X ks K).pan⟩
class FrC where
 ks:List Fr
 K:KD
abbrev FrC.sq (f:FrC) (L:List (List Bool)) (b:CC):FrC:=⟨.sq L b::f.ks,f.K⟩
abbrev FrC.bk (f:FrC) (i:Nat):FrC:=⟨.bk i::f.ks,f.K⟩
abbrev FrC.base (K:KD):FrC:=⟨[],K⟩
def kf (X:RnD) [f:FrC]:KD:=KF X f.ks f.K
section
variable (X:RnD) [fr:FrC]
def Cd (c:CC) (s:DS) (M:VM):Prop:=wp X c (@kf X fr) s M
def Op (l:List CI) (s:DS) (M:VM):Prop:=wOps X (@kf X fr).pan l s M (@kf X fr).nrm
def Nx (s:DS) (M:VM):Prop:=(@kf X fr).nrm s M
def Ex (i:Nat) (s:DS) (M:VM):Prop:=(@kf X fr).ext i s M
def CK (d:Option (List Bool)) (r:List CI) (s:DS) (v:DV) (M:VM):Prop:= @Op X fr r (zbp d v s) M
def PK [fr:FrC] (s:DS) (v:DV) (M:VM):Prop:=fr.K.pan v s M
def Rs (o:RD) (d:Option (List Bool)) (r:List CI) (s:DS):Prop:=okD o (@CK X fr d r s)
def Ca (f:Option DV) (as:Option (List DV)) (d:Option (List Bool)) (r:List CI) (s:DS) (M:VM):Prop:=ofD f fun f=>ofD as fun l=>X.call f l M (@CK X fr d r s) (@PK fr s)
def Gd (g:Option Bool) (d:Option (List Bool)) (op:COp) (lo:Nat) (r:List CI) (s:DS) (M:VM):Prop:=ofD g fun b=>match b with
 |true=> @Op X fr (⟨d,op,none,lo⟩::r) s M
 |false=> @Op X fr r (zbp d (.tup []) s) M
def Br (v:Option DV) (a b:CC) (s:DS) (M:VM):Prop:=ofD v fun v=>wIf v (@Cd X fr a s M) (@Cd X fr b s M)
def Rg (f:Option DV) (rc:RC) (s:DS) (M:VM):Prop:=ofD f fun f=>match f with
    |.fn g a c=>X.call (.fn g a c) [.yld M.next] (M.new (.loop .ready none (zbh rc.L s) rc)) (fun _ M'=>zgi (@kf X fr) s M.next M') fun _ _=>False
    |_=>False
end
section
variable {X:RnD} {fr:FrC} {K:KD} {s:DS} {M:VM} {d:Option (List Bool)} {r:List CI} {lo:Nat}
theorem KF_ret0: ∀ks:List Fr,(KF X ks K).ret=K.ret
 | []=>rfl
 |.sq _ _::ks=>KF_ret0 ks
 |.bk _::ks=>KF_ret0 ks
theorem KF_pan0: ∀ks:List Fr,(KF X ks K).pan=K.pan
 | []=>rfl
 |.sq _ _::ks=>KF_pan0 ks
 |.bk _::ks=>KF_pan0 ks
theorem KF_ret:(@kf X fr).ret=fr.K.ret:=KF_ret0 _
theorem KF_pan:(@kf X fr).pan=fr.K.pan:=KF_pan0 _
@[simp] theorem KF_ret':(@kf X fr).ret s M=fr.K.ret s M:=by rw[KF_ret]
@[simp] theorem sq_K (L:List (List Bool)) (b:CC):(fr.sq L b).K=fr.K:=id rfl
@[simp] theorem bk_K (i:Nat):(fr.bk i).K=fr.K:=id rfl
@[simp] theorem base_K:(FrC.base K).K=K:=id rfl
@[simp] theorem KF_nrm:(@kf X fr).nrm s M= @Nx X fr s M:=id rfl
@[simp] theorem KF_ext (i:Nat):(@kf X fr).ext i s M= @Ex X fr i s M:=id rfl
@[simp] theorem Cd_skip: @Cd X fr .skip s M= @Nx X fr s M:=id rfl
@[simp] theorem Cd_ops (l:List CI): @Cd X fr (.ops l) s M= @Op X fr l s M:=id rfl
@[simp] theorem Cd_seq (a b:CC) (L:List (List Bool)): @Cd X fr (.seq a L b) s M= @Cd X (fr.sq L b) a s M:=id rfl
@[simp] theorem Cd_block (i:Nat) (b:CC): @Cd X fr (.block i b) s M= @Cd X (fr.bk i) b s M:=id rfl
@[simp] theorem Cd_cond (c:CO) (a b:CC): @Cd X fr (.cond c a b) s M= @Br X fr (evD s c) a b s M:=id rfl
@[simp] theorem Cd_exit (i:Nat): @Cd X fr (.exit i) s M= @Ex X fr i s M:=id rfl
@[simp] theorem Cd_ret: @Cd X fr .ret s M=fr.K.ret s M:=by show(@kf X fr).ret s M=_;rw[KF_ret]
@[simp] theorem Cd_loop (L:List (List Bool)) (b:CC): @Cd X fr (.loop L b) s M=X.loop L b (@kf X fr) (zbh L s) M:=id rfl
@[simp] theorem Cd_scope (b:CC) (l1:Nat) (r1:CC) (l2:Nat) (r2:CC): @Cd X fr (.scope b l1 r1 l2 r2) s M=X.scope b l1 r1 l2 r2 (@kf X fr) s M:=id rfl
@[simp] theorem Cd_range (rid:Nat) (L:List (List Bool)) (f:CO) (ps:List (List Bool)) (as b:CC): @Cd X fr (.rangeFunc rid L f ps as b) s M= @Rg X fr (evD s f) ⟨rid,L,ps,as,b⟩ s M:=id rfl
@[simp] theorem Rg_fn (g:Nat) (a c:List DV) (rc:RC): @Rg X fr (some (.fn g a c)) rc s M=X.call (.fn g a c) [.yld M.next] (M.new (.loop .ready none (zbh rc.L s) rc)) (fun _ M'=>zgi (@kf X fr) s M.next M') fun _ _=>False:=id rfl
@[simp] theorem Br_true (a b:CC): @Br X fr (some (.bool true)) a b s M= @Cd X fr a s M:=id rfl
@[simp] theorem Br_false (a b:CC): @Br X fr (some (.bool false)) a b s M= @Cd X fr b s M:=id rfl
theorem zj (b:Bool) (a c:CC): @Br X fr (some (.bool b)) a c s M=if b=true then @Cd X fr a s M else @Cd X fr c s M:=by cases b<;>rfl
@[simp] theorem Nx_nil: @Nx X (.base K) s M=K.nrm s M:=id rfl
@[simp] theorem Nx_sq (L:List (List Bool)) (b:CC): @Nx X (fr.sq L b) s M= @Cd X fr b (zbh L s) M:=id rfl
@[simp] theorem Nx_bk (i:Nat): @Nx X (fr.bk i) s M= @Nx X fr s M:=id rfl
@[simp] theorem Ex_nil (i:Nat): @Ex X (.base K) i s M=K.ext i s M:=id rfl
@[simp] theorem Ex_sq (L:List (List Bool)) (b:CC) (i:Nat): @Ex X (fr.sq L b) i s M= @Ex X fr i s M:=id rfl
@[simp] theorem Ex_bk (i j:Nat): @Ex X (fr.bk i) j s M=if j=i then @Nx X fr s M else @Ex X fr j s M:=by
  show blkD i (@kf X fr) j s M=_
  unfold blkD
  by_cases h:j=i
  ·subst h;rw[if_pos rfl,Nat.beq_refl];rfl
  ·rw[if_neg h];cases e:Nat.beq j i with
   |true=>exact absurd (Nat.eq_of_beq_eq_true e) h
   |false=>rfl
@[simp] theorem Op_nil: @Op X fr [] s M= @Nx X fr s M:=id rfl
@[simp] theorem Op_guard (op:COp) (g:List Bool×Bool): @Op X fr (⟨d,op,some g,lo⟩::r) s M= @Gd X fr (wantD (some g) s) d op lo r s M:=by
  show zgW X _ s M _ _=_
  unfold zgW Gd
  congr 1
theorem zi (b:Bool) (op:COp): @Gd X fr (some b) d op lo r s M=if b=true then @Op X fr (⟨d,op,none,lo⟩::r) s M else @Op X fr r (zbp d (.tup []) s) M:=by cases b<;>rfl
@[simp] theorem Gd_true (op:COp): @Gd X fr (some true) d op lo r s M= @Op X fr (⟨d,op,none,lo⟩::r) s M:=id rfl
@[simp] theorem Gd_false (op:COp): @Gd X fr (some false) d op lo r s M= @Op X fr r (zbp d (.tup []) s) M:=id rfl
@[simp] theorem Rs_some (v:DV) (M':VM): @Rs X fr (some (v,M')) d r s= @Op X fr r (zbp d v s) M':=id rfl
@[simp] theorem CK_eq (v:DV): @CK X fr d r s v M= @Op X fr r (zbp d v s) M:=id rfl
@[simp] theorem Ca_some (f:DV) (as:List DV): @Ca X fr (some f) (some as) d r s M=X.call f as M (@CK X fr d r s) (@PK fr s):=id rfl
@[simp] theorem Op_call (f:CO) (as:List CO): @Op X fr (⟨d,.call f as,none,lo⟩::r) s M= @Ca X fr (evD s f) (evDL s as) d r s M:=by
  show ofD _ _=ofD _ _
  unfold PK CK Op
  rw[KF_pan]
@[simp] theorem Op_mv (x:CO): @Op X fr (⟨d,.mv x,none,lo⟩::r) s M= @Rs X fr (opD (.mv x) s M) d r s:=id rfl
@[simp] theorem Op_pick (c a b:CO): @Op X fr (⟨d,.pick c a b,none,lo⟩::r) s M= @Rs X fr (opD (.pick c a b) s M) d r s:=id rfl
@[simp] theorem Op_build (z:List Value) (ps:List (Nat×Nat×CO)): @Op X fr (⟨d,.build z ps,none,lo⟩::r) s M= @Rs X fr (opD (.build z ps) s M) d r s:=id rfl
@[simp] theorem Op_load1 (a:CO): @Op X fr (⟨d,.load1 a,none,lo⟩::r) s M= @Rs X fr (opD (.load1 a) s M) d r s:=id rfl
@[simp] theorem Op_loadN (n:Nat) (a:CO): @Op X fr (⟨d,.loadN n a,none,lo⟩::r) s M= @Rs X fr (opD (.loadN n a) s M) d r s:=id rfl
@[simp] theorem Op_store (n:Nat) (a x:CO): @Op X fr (⟨d,.store n a x,none,lo⟩::r) s M= @Rs X fr (opD (.store n a x) s M) d r s:=id rfl
@[simp] theorem Op_bin (op:BinOp) (ek:EK) (x y:CO): @Op X fr (⟨d,.bin op ek x y,none,lo⟩::r) s M= @Rs X fr (opD (.bin op ek x y) s M) d r s:=id rfl
@[simp] theorem Op_un (op:UnOp) (x:CO): @Op X fr (⟨d,.un op x,none,lo⟩::r) s M= @Rs X fr (opD (.un op x) s M) d r s:=id rfl
@[simp] theorem Op_conv (k:IntKind) (x:CO): @Op X fr (⟨d,.conv k x,none,lo⟩::r) s M= @Rs X fr (opD (.conv k x) s M) d r s:=id rfl
@[simp] theorem Op_makeFunc (g:Fn) (a b:List CO): @Op X fr (⟨d,.makeFunc g a b,none,lo⟩::r) s M= @Rs X fr (opD (.makeFunc g a b) s M) d r s:=id rfl
@[simp] theorem Op_slice (n:Nat) (x:CO) (lo' hi:Option CO): @Op X fr (⟨d,.slice n x lo' hi,none,lo⟩::r) s M= @Rs X fr (opD (.slice n x lo' hi) s M) d r s:=id rfl
@[simp] theorem Op_fieldAddr (n:Nat) (x:CO): @Op X fr (⟨d,.fieldAddr n x,none,lo⟩::r) s M= @Rs X fr (opD (.fieldAddr n x) s M) d r s:=id rfl
@[simp] theorem Op_indexAddr (n:Nat) (x i:CO): @Op X fr (⟨d,.indexAddr n x i,none,lo⟩::r) s M= @Rs X fr (opD (.indexAddr n x i) s M) d r s:=id rfl
@[simp] theorem Op_indexArr (n m:Nat) (x i:CO): @Op X fr (⟨d,.indexArr n m x i,none,lo⟩::r) s M= @Rs X fr (opD (.indexArr n m x i) s M) d r s:=id rfl
@[simp] theorem Op_lookup (kk:KK) (z:Value) (ok:Bool) (x i:CO): @Op X fr (⟨d,.lookup kk z ok x i,none,lo⟩::r) s M= @Rs X fr (opD (.lookup kk z ok x i) s M) d r s:=id rfl
@[simp] theorem Op_mapUpdate (kk:KK) (m i x:CO): @Op X fr (⟨d,.mapUpdate kk m i x,none,lo⟩::r) s M= @Rs X fr (opD (.mapUpdate kk m i x) s M) d r s:=id rfl
@[simp] theorem Op_extract (x:CO) (i:Nat): @Op X fr (⟨d,.extract x i,none,lo⟩::r) s M= @Rs X fr (opD (.extract x i) s M) d r s:=id rfl
@[simp] theorem Op_box (x:CO): @Op X fr (⟨d,.box x,none,lo⟩::r) s M= @Rs X fr (opD (.box x) s M) d r s:=id rfl
@[simp] theorem Op_alloc (z:List Value): @Op X fr (⟨d,.alloc z,none,lo⟩::r) s M= @Rs X fr (opD (.alloc z) s M) d r s:=id rfl
@[simp] theorem Op_makeMap: @Op X fr (⟨d,.makeMap,none,lo⟩::r) s M= @Rs X fr (opD (.makeMap) s M) d r s:=id rfl
@[simp] theorem Op_makeSlice (n b:Nat) (z:List Value) (l c:CO): @Op X fr (⟨d,.makeSlice n b z l c,none,lo⟩::r) s M= @Rs X fr (opD (.makeSlice n b z l c) s M) d r s:=id rfl
@[simp] theorem Op_buildSlice (len size:Nat) (z:List Value) (ps:List (Nat×CO)): @Op X fr (⟨d,.buildSlice len size z ps,none,lo⟩::r) s M= @Rs X fr (opD (.buildSlice len size z ps) s M) d r s:=id rfl
@[simp] theorem Op_blt (b:CB) (as:List CO): @Op X fr (⟨d,.blt b as,none,lo⟩::r) s M= @Rs X fr (opD (.blt b as) s M) d r s:=id rfl
end
section
variable (X:RnD) [fr:FrC]
def Dr (l:List CI) (bs:List Mo) (s:DS) (M:VM):Prop:=zdR X l bs s M (@kf X fr).nrm
def DW (d:Option (List Bool)) (l:List CI) (bs:List Mo) (s:DS) (v:DV) (M:VM):Prop:= @Dr X fr l (⟨zlC bs,M,[]⟩::bs.map (zct d)) (zbp d v s) M
def DrW (o:RD) (d:Option (List Bool)) (l:List CI) (bs:List Mo) (s:DS):Prop:=okD o (@DW X fr d l bs s)
def DrC (f:Option DV) (as:Option (List DV)) (d:Option (List Bool)) (l:List CI) (bs:List Mo) (s:DS) (M:VM):Prop:=ofD f fun f=>ofD as fun a=>X.call f a M (@DW X fr d l bs s) fun _ _=>False
def DrF (o:RD) (ns:List (List Bool)) (d:Option (List Bool)) (l:List CI) (bs:List Mo) (s:DS):Prop:=okD o fun v M=> @Dr X fr l (bs.map (zgn ns d)) (zbp d v s) M
def DrA (o:RD) (d:Option (List Bool)) (l:List CI) (bs:List Mo) (s:DS):Prop:=okD o fun v M=> @Dr X fr l (bs.map (zct d)) (zbp d v s) M
def DrR (o:RD) (rs:List Nat) (ns:List (List Bool)) (d:Option (List Bool)) (lo:Nat) (l:List CI) (bs:List Mo) (s:DS) (M:VM):Prop:=match bs with
 | []=>False
 |x::r=>okD o fun v _=>rdAt rs ns M x∧rdOk rs ns M lo r∧zkv (x::r) v=true∧ @Dr X fr l (x::ziN lo d r) (zbp d v s) M
def DrG (g:Option Bool) (o:CI) (l:List CI) (bs:List Mo) (s:DS) (M:VM):Prop:=ofD g fun b=>match b with
 |true=> @Dr X fr (⟨o.dst,o.op,none,o.lo⟩::l) bs s M
 |false=>if isW o.op=true then @DW X fr o.dst l bs s (.tup []) M else if isRd o.op=true then @Dr X fr l (bs.map (zgn (zB o.op) o.dst)) (zbp o.dst (.tup []) s) M else if isFl o.op=true then @Dr X fr l (bs.map (zgn (zB o.op) o.dst)) (zbp o.dst (.tup []) s) M else @Dr X fr l (bs.map (zct o.dst)) (zbp o.dst (.tup []) s) M
end
section
variable {X:RnD} {fr:FrC} {K:KD} {s:DS} {M:VM} {d:Option (List Bool)} {l:List CI} {lo:Nat} {bs:List Mo}
@[simp] theorem Cd_draw (l:List CI): @Cd X fr (.draw l) s M= @Dr X fr l [⟨0,M,[]⟩] s M:=id rfl
@[simp] theorem Dr_nil: @Dr X fr [] bs s M= @Nx X fr s M:=id rfl
@[simp] theorem DW_eq (v:DV): @DW X fr d l bs s v M= @Dr X fr l (⟨zlC bs,M,[]⟩::bs.map (zct d)) (zbp d v s) M:=id rfl
@[simp] theorem DrW_some (v:DV) (M':VM): @DrW X fr (some (v,M')) d l bs s= @Dr X fr l (⟨zlC bs,M',[]⟩::bs.map (zct d)) (zbp d v s) M':=id rfl
@[simp] theorem DrC_some (f:DV) (as:List DV): @DrC X fr (some f) (some as) d l bs s M=X.call f as M (@DW X fr d l bs s) fun _ _=>False:=id rfl
@[simp] theorem DrF_some (ns:List (List Bool)) (v:DV) (M':VM): @DrF X fr (some (v,M')) ns d l bs s= @Dr X fr l (bs.map (zgn ns d)) (zbp d v s) M':=id rfl
@[simp] theorem DrA_some (v:DV) (M':VM): @DrA X fr (some (v,M')) d l bs s= @Dr X fr l (bs.map (zct d)) (zbp d v s) M':=id rfl
@[simp] theorem DrR_some (v:DV) (M':VM) (rs:List Nat) (ns:List (List Bool)) (x:Mo) (r:List Mo): @DrR X fr (some (v,M')) rs ns d lo l (x::r) s M=(rdAt rs ns M x∧rdOk rs ns M lo r∧zkv (x::r) v=true∧ @Dr X fr l (x::ziN lo d r) (zbp d v s) M):=id rfl
theorem zg (b:Bool) (o:CI): @DrG X fr (some b) o l bs s M=if b=true then @DrG X fr (some true) o l bs s M else @DrG X fr (some false) o l bs s M:=by cases b<;>rfl
@[simp] theorem DrG_true (o:CI): @DrG X fr (some true) o l bs s M= @Dr X fr (⟨o.dst,o.op,none,o.lo⟩::l) bs s M:=id rfl
@[simp] theorem DrG_false (o:CI): @DrG X fr (some false) o l bs s M=if isW o.op=true then @DW X fr o.dst l bs s (.tup []) M else if isRd o.op=true then @Dr X fr l (bs.map (zgn (zB o.op) o.dst)) (zbp o.dst (.tup []) s) M else if isFl o.op=true then @Dr X fr l (bs.map (zgn (zB o.op) o.dst)) (zbp o.dst (.tup []) s) M else @Dr X fr l (bs.map (zct o.dst)) (zbp o.dst (.tup []) s) M:=id rfl
@[simp] theorem Dr_guard (op:COp) (g:List Bool×Bool): @Dr X fr (⟨d,op,some g,lo⟩::l) bs s M= @DrG X fr (wantD (some g) s) ⟨d,op,some g,lo⟩ l bs s M:=by
  unfold Dr
  conv=>lhs;unfold zdR
  cases hw:isW op with
  |true=>
   show zgW X _ s M _ _=_
   unfold zgW DrG
   dsimp only
   congr 1;funext b
   cases b with
   |true=>show _= @Dr X fr _ _ _ _;unfold Dr;(conv=>rhs;unfold zdR;rw[hw]);rfl
   |false=>dsimp only;rw[hw];rfl
  |false=>
   cases hr:isRd op with
   |true=>
    unfold DrG
    dsimp only
    congr 1;funext b
    cases b with
    |true=>show _= @Dr X fr _ _ _ _;unfold Dr;(conv=>rhs;unfold zdR;rw[hw,hr]);rfl
    |false=>dsimp only;rw[hw,hr];rfl
   |false=>
    cases hf:isFl op with
    |true=>
     show zgW X _ s M _ _=_
     unfold zgW DrG
     dsimp only
     congr 1;funext b
     cases b with
     |true=>show _= @Dr X fr _ _ _ _;unfold Dr;(conv=>rhs;unfold zdR;rw[hw,hr,hf]);rfl
     |false=>dsimp only;rw[hw,hr,hf];rfl
    |false=>
     show zgW X _ s M _ _=_
     unfold zgW DrG
     dsimp only
     congr 1;funext b
     cases b with
     |true=>show _= @Dr X fr _ _ _ _;unfold Dr;(conv=>rhs;unfold zdR;rw[hw,hr,hf]);rfl
     |false=>dsimp only;rw[hw,hr,hf];rfl
@[simp] theorem Dr_call (f:CO) (as:List CO): @Dr X fr (⟨d,.call f as,none,lo⟩::l) bs s M= @DrC X fr (evD s f) (evDL s as) d l bs s M:=id rfl
@[simp] theorem Dr_mv (x:CO): @Dr X fr (⟨d,.mv x,none,lo⟩::l) bs s M= @DrF X fr (opD (.mv x) s M) (zB (.mv x)) d l bs s:=id rfl
@[simp] theorem Dr_pick (c a b:CO): @Dr X fr (⟨d,.pick c a b,none,lo⟩::l) bs s M= @DrF X fr (opD (.pick c a b) s M) (zB (.pick c a b)) d l bs s:=id rfl
@[simp] theorem Dr_build (z:List Value) (ps:List (Nat×Nat×CO)): @Dr X fr (⟨d,.build z ps,none,lo⟩::l) bs s M= @DrF X fr (opD (.build z ps) s M) (zB (.build z ps)) d l bs s:=id rfl
@[simp] theorem Dr_load1 (a:CO): @Dr X fr (⟨d,.load1 a,none,lo⟩::l) bs s M= @DrR X fr (opD (.load1 a) s M) (zc3 s (.load1 a)) (zB (.load1 a)) d lo l bs s M:=by cases bs<;>rfl
@[simp] theorem Dr_loadN (n:Nat) (a:CO): @Dr X fr (⟨d,.loadN n a,none,lo⟩::l) bs s M= @DrR X fr (opD (.loadN n a) s M) (zc3 s (.loadN n a)) (zB (.loadN n a)) d lo l bs s M:=by cases bs<;>rfl
@[simp] theorem Dr_store (n:Nat) (a x:CO): @Dr X fr (⟨d,.store n a x,none,lo⟩::l) bs s M= @DrW X fr (opD (.store n a x) s M) d l bs s:=id rfl
@[simp] theorem Dr_nilc (x:CO): @Dr X fr (⟨d,.nilCheck x,none,lo⟩::l) bs s M= @DrF X fr (opD (.nilCheck x) s M) (zB (.nilCheck x)) d l bs s:=id rfl
@[simp] theorem Dr_bin (op:BinOp) (ek:EK) (x y:CO): @Dr X fr (⟨d,.bin op ek x y,none,lo⟩::l) bs s M= @DrF X fr (opD (.bin op ek x y) s M) (zB (.bin op ek x y)) d l bs s:=id rfl
@[simp] theorem Dr_makeFunc (g:Fn) (a b:List CO): @Dr X fr (⟨d,.makeFunc g a b,none,lo⟩::l) bs s M= @DrF X fr (opD (.makeFunc g a b) s M) (zB (.makeFunc g a b)) d l bs s:=id rfl
@[simp] theorem Dr_slice (n:Nat) (x:CO) (lo' hi:Option CO): @Dr X fr (⟨d,.slice n x lo' hi,none,lo⟩::l) bs s M= @DrR X fr (opD (.slice n x lo' hi) s M) (zc3 s (.slice n x lo' hi)) (zB (.slice n x lo' hi)) d lo l bs s M:=by cases bs<;>rfl
@[simp] theorem Dr_fieldAddr (n:Nat) (x:CO): @Dr X fr (⟨d,.fieldAddr n x,none,lo⟩::l) bs s M= @DrF X fr (opD (.fieldAddr n x) s M) (zB (.fieldAddr n x)) d l bs s:=id rfl
@[simp] theorem Dr_indexAddr (n:Nat) (x i:CO): @Dr X fr (⟨d,.indexAddr n x i,none,lo⟩::l) bs s M= @DrF X fr (opD (.indexAddr n x i) s M) (zB (.indexAddr n x i)) d l bs s:=id rfl
@[simp] theorem Dr_indexArr (n m:Nat) (x i:CO): @Dr X fr (⟨d,.indexArr n m x i,none,lo⟩::l) bs s M= @DrF X fr (opD (.indexArr n m x i) s M) (zB (.indexArr n m x i)) d l bs s:=id rfl
@[simp] theorem Dr_extract (x:CO) (i:Nat): @Dr X fr (⟨d,.extract x i,none,lo⟩::l) bs s M= @DrF X fr (opD (.extract x i) s M) (zB (.extract x i)) d l bs s:=id rfl
@[simp] theorem Dr_alloc (z:List Value): @Dr X fr (⟨d,.alloc z,none,lo⟩::l) bs s M= @DrA X fr (opD (.alloc z) s M) d l bs s:=id rfl
@[simp] theorem Dr_buildSlice (len size:Nat) (z:List Value) (ps:List (Nat×CO)): @Dr X fr (⟨d,.buildSlice len size z ps,none,lo⟩::l) bs s M= @DrA X fr (opD (.buildSlice len size z ps) s M) d l bs s:=id rfl
@[simp] theorem Dr_append (s' b:Nat) (as:List CO): @Dr X fr (⟨d,.blt (.append s' b) as,none,lo⟩::l) bs s M= @DrW X fr (opD (.blt (.append s' b) as) s M) d l bs s:=id rfl
@[simp] theorem Dr_copy (s':Nat) (as:List CO): @Dr X fr (⟨d,.blt (.copy s') as,none,lo⟩::l) bs s M= @DrW X fr (opD (.blt (.copy s') as) s M) d l bs s:=id rfl
@[simp] theorem Dr_len (as:List CO): @Dr X fr (⟨d,.blt .len as,none,lo⟩::l) bs s M= @DrF X fr (opD (.blt .len as) s M) (zB (.blt .len as)) d l bs s:=id rfl
@[simp] theorem Dr_min (as:List CO): @Dr X fr (⟨d,.blt .min as,none,lo⟩::l) bs s M= @DrF X fr (opD (.blt .min as) s M) (zB (.blt .min as)) d l bs s:=id rfl
@[simp] theorem Dr_max (as:List CO): @Dr X fr (⟨d,.blt .max as,none,lo⟩::l) bs s M= @DrF X fr (opD (.blt .max as) s M) (zB (.blt .max as)) d l bs s:=id rfl
end
end
end Go.Ideal
namespace Go.Ideal
noncomputable section
attribute [simp] List.getElem?_cons_zero List.getElem?_cons_succ List.getElem?_eq_getElem
def rdV (M:VM):Option DV→RD
 |some d=>some (d,M)
 |none=>none
@[simp] theorem rdV_some (M:VM) (d:DV):rdV M (some d)=some (d,M):=id rfl
theorem zcj (M:VM) (o:Option DV):o.map (fun d=>(d,M))=rdV M o:=by cases o<;>rfl
def rowO (M:VM):Option DV→Option (List DV)
 |some d=>zcR M d
 |none=>none
def rowI (off:Nat):Option (List DV)→Option (List DV)
 |some r=>some (r.drop off)
 |none=>none
def rowJ (i off:Nat):Option MO→Option (List DV)
 |some (.rows _ _ rs)=>rowI off (rs[i]?)
 |_=>none
@[simp] theorem rowO_some (M:VM) (d:DV):rowO M (some d)=zcR M d:=id rfl
@[simp] theorem rowI_some (off:Nat) (r:List DV):rowI off (some r)=some (r.drop off):=id rfl
@[simp] theorem rowJ_some (i off:Nat) (op:Bool) (sz:Nat) (rs:List (List DV)):rowJ i off (some (.rows op sz rs))=rowI off (rs[i]?):=id rfl
@[simp] theorem rowOf_ptr (M:VM) (j i off:Nat):zcR M (.ptr j i off)=rowJ i off (M.obj j):=by
  show(M.obj j).bind _=_
  cases M.obj j with
  |none=>rfl
  |some o=>cases o<;>first|rfl| (show(Option.map _ _)=rowI off _;rename_i rs;cases rs[i]?<;>rfl)
@[simp] theorem rowOf_pl (M:VM) (s:Nat) (rows:List (List DV)) (i off:Nat):zcR M (.pl s rows i off)=rowI off (rows[i]?):=by
  show(Option.map _ _)=rowI off _;cases rows[i]?<;>rfl
def ld1:Option (List DV)→Option DV
 |some r=>oneD r
 |none=>none
def ldN (n:Nat):Option (List DV)→Option DV
 |some r=>(zeI n r).map .agg
 |none=>none
@[simp] theorem ld1_some (r:List DV):ld1 (some r)=oneD r:=id rfl
@[simp] theorem ldN_some (n:Nat) (r:List DV):ldN n (some r)=(zeI n r).map .agg:=id rfl
@[simp] theorem oneD_cons (v:DV) (r:List DV):oneD (v::r)=some v:=id rfl
@[simp] theorem takeD_zero (l:List DV):zeI 0 l=some []:=by cases l<;>rfl
@[simp] theorem takeD_succ (n:Nat) (v:DV) (r:List DV):zeI (n+1) (v::r)=(zeI n r).map (v:: ·):=id rfl
def f1 (f:DV→Option DV):Option DV→Option DV
 |some d=>f d
 |none=>none
@[simp] theorem f1_some (f:DV→Option DV) (d:DV):f1 f (some d)=f d:=id rfl
def f2 (f:DV→DV→Option DV):Option DV→Option DV→Option DV
 |some a,some b=>f a b
 |_,_=>none
@[simp] theorem f2_some (f:DV→DV→Option DV) (a b:DV):f2 f (some a) (some b)=f a b:=id rfl
def pkO:Option DV→Option DV→Option DV→Option DV
 |some c,a,b=>pickD a b c
 |none,_,_=>none
@[simp] theorem pkO_true (a b:Option DV):pkO (some (.bool true)) a b=a:=id rfl
@[simp] theorem pkO_false (a b:Option DV):pkO (some (.bool false)) a b=b:=id rfl
def stW (M:VM) (j i:Nat) (op:Bool) (sz:Nat) (rs:List (List DV)):Option (List DV)→Option VM
 |some r=>some (M.put j (.rows op sz (rs.set i r)))
 |none=>none
def stI (n:Nat) (M:VM) (xs:List DV) (j i off:Nat) (op:Bool) (sz:Nat) (rs:List (List DV)):Option (List DV)→Option VM
 |some r=>if xs.length=n∧0<n∧xs.all zL=true then stW M j i op sz rs (zbc r off xs) else none
 |none=>none
def stJ (n:Nat) (M:VM) (xs:List DV) (j i off:Nat):Option MO→Option VM
 |some (.rows op sz rs)=>stI n M xs j i off op sz rs (rs[i]?)
 |_=>none
@[simp] theorem stW_some (M:VM) (j i:Nat) (op:Bool) (sz:Nat) (rs:List (List DV)) (r:List DV):stW M j i op sz rs (some r)=some (M.put j (.rows op sz (rs.set i r))):=id rfl
@[simp] theorem stI_some (n:Nat) (M:VM) (xs:List DV) (j i off:Nat) (op:Bool) (sz:Nat) (rs:List (List DV)) (r:List DV):stI n M xs j i off op sz rs (some r)=if xs.length=n∧0<n∧xs.all zL=true then stW M j i op sz rs (zbc r off xs) else none:=id rfl
@[simp] theorem stJ_some (n:Nat) (M:VM) (xs:List DV) (j i off:Nat) (op:Bool) (sz:Nat) (rs:List (List DV)):stJ n M xs j i off (some (.rows op sz rs))=stI n M xs j i off op sz rs (rs[i]?):=id rfl
@[simp] theorem storeD_ptr (n:Nat) (M:VM) (x:DV) (j i off:Nat):zeQ n M x (.ptr j i off)=stJ n M (zS x) j i off (M.obj j):=by
  show(M.obj j).bind _=_
  cases M.obj j with
  |none=>rfl
  |some o=>cases o with
   |rows op sz rs=>
    show(rs[i]?).bind _=stI n M (zS x) j i off op sz rs (rs[i]?)
    cases rs[i]? with
    |none=>rfl
    |some r=>
     show(if _ then _ else _)=(if _ then _ else _)
     congr 1
     cases zbc r off (zS x)<;>rfl
   |_=>rfl
def stR:Option VM→RD
 |some M=>some (.tup [],M)
 |none=>none
@[simp] theorem stR_some (M:VM):stR (some M)=some (.tup [],M):=id rfl
def stO (n:Nat) (M:VM):Option DV→Option DV→RD
 |some a,some x=>stR (zeQ n M x a)
 |_,_=>none
@[simp] theorem stO_some (n:Nat) (M:VM) (a x:DV):stO n M (some a) (some x)=stR (zeQ n M x a):=id rfl
def bxO (M:VM):Option DV→RD
 |some v=>some (.ptr M.next 0 0,M.new (.rows false (zS v).length [zS v]))
 |none=>none
@[simp] theorem bxO_some (M:VM) (v:DV):bxO M (some v)=some (.ptr M.next 0 0,M.new (.rows false (zS v).length [zS v])):=id rfl
def alO (M:VM):Option (List DV)→RD
 |some z=>some (.ptr M.next 0 0,M.new (.rows false z.length [z]))
 |none=>none
@[simp] theorem alO_some (M:VM) (z:List DV):alO M (some z)=some (.ptr M.next 0 0,M.new (.rows false z.length [z])):=id rfl
def bdO:Option (List DV)→Option (List (Nat×Nat×DV))→Option DV
 |some z,some l=>(zhn z l).map .agg
 |_,_=>none
@[simp] theorem bdO_some (z:List DV) (l:List (Nat×Nat×DV)):bdO (some z) (some l)=(zhn z l).map .agg:=id rfl
def msR (M:VM) (len size:Nat):Option (List (List DV))→RD
 |some rows=>some (.ms M.next 0 len len,M.new (.rows false size rows))
 |none=>none
@[simp] theorem msR_some (M:VM) (len size:Nat) (rows:List (List DV)):msR M len size (some rows)=some (.ms M.next 0 len len,M.new (.rows false size rows)):=id rfl
def bsO (M:VM) (len size:Nat):Option (List DV)→Option (List (Nat×DV))→RD
 |some z,some l=>if z.length=size∧len<zo then msR M len size (zcv size (List.replicate len z) l) else none
 |_,_=>none
@[simp] theorem bsO_some (M:VM) (len size:Nat) (z:List DV) (l:List (Nat×DV)):bsO M len size (some z) (some l)=if z.length=size∧len<zo then msR M len size (zcv size (List.replicate len z) l) else none:=id rfl
def mkO (b:Nat) (M:VM):Option DV→Option DV→Option (List DV)→RD
 |some l,some c,some z=>zcW b z M l c
 |_,_,_=>none
@[simp] theorem mkO_some (b:Nat) (M:VM) (l c:DV) (z:List DV):mkO b M (some l) (some c) (some z)=zcW b z M l c:=id rfl
def fnO (g:Fn) (M:VM):Option (List DV)→Option (List DV)→RD
 |some a,some b=>match g with|.func g=>some (.fn g a b,M)|_=>none
 |_,_=>none
@[simp] theorem fnO_some (g:Nat) (M:VM) (a b:List DV):fnO (.func g) M (some a) (some b)=some (.fn g a b,M):=id rfl
def slO (n:Nat) (M:VM):Option DV→Option (Option DV)→Option (Option DV)→Option DV
 |some v,some lo,some hi=>sliceD n M lo hi v
 |_,_,_=>none
@[simp] theorem slO_some (n:Nat) (M:VM) (v:DV) (lo hi:Option DV):slO n M (some v) (some lo) (some hi)=sliceD n M lo hi v:=id rfl
def lkE (kk:KK) (z:DV) (ok:Bool) (k:DV):Option (List (DV×DV))→Option DV
 |some es=>match zbA kk k k with|some _=>(zh1 kk k es).map (zfV z ok)|none=>none
 |none=>none
def lkO (kk:KK) (ok:Bool) (M:VM):Option DV→Option DV→Option DV→Option DV
 |some m,some k,some z=>lkE kk z ok k (zbk M m)
 |_,_,_=>none
@[simp] theorem lkO_some (kk:KK) (ok:Bool) (M:VM) (m k z:DV):lkO kk ok M (some m) (some k) (some z)=lkE kk z ok k (zbk M m):=id rfl
def muO (kk:KK) (M:VM):Option DV→Option DV→Option DV→RD
 |some m,some k,some x=>stR (updD kk M k x m)
 |_,_,_=>none
@[simp] theorem muO_some (kk:KK) (M:VM) (m k x:DV):muO kk M (some m) (some k) (some x)=stR (updD kk M k x m):=id rfl
def exV (i:Nat):DV→Option DV
 |.tup l=>l[i]?
 |_=>none
@[simp] theorem exV_tup (i:Nat) (l:List DV):exV i (.tup l)=l[i]?:=id rfl
def blO (b:CB) (M:VM):Option (List DV)→RD
 |some l=>bltD M b l
 |none=>none
@[simp] theorem blO_some (b:CB) (M:VM) (l:List DV):blO b M (some l)=bltD M b l:=id rfl
section
variable {s:DS} {M:VM}
@[simp] theorem opD_mv (x:CO):opD (.mv x) s M=rdV M (evD s x):=zcj _ _
@[simp] theorem opD_pick (c a b:CO):opD (.pick c a b) s M=rdV M (pkO (evD s c) (evD s a) (evD s b)):=by
  show(evD s c).bind _=_;cases evD s c<;>first|rfl|exact zcj _ _
@[simp] theorem opD_build (z:List Value) (ps:List (Nat×Nat×CO)):opD (.build z ps) s M=rdV M (bdO (dOfL z) (zgl s ps)):=by
  show(dOfL z).bind _=_
  cases dOfL z with
  |none=>rfl
  |some z=>show(zgl s ps).bind _=_;cases zgl s ps with
   |none=>rfl
   |some l=>show(zhn z l).map _=rdV M ((zhn z l).map .agg);cases zhn z l<;>rfl
@[simp] theorem opD_load1 (a:CO):opD (.load1 a) s M=rdV M (ld1 (rowO M (evD s a))):=by
  show(evD s a).bind _=_
  cases evD s a with
  |none=>rfl
  |some a=>show(zcR M a).bind _=rdV M (ld1 (zcR M a));cases zcR M a with
   |none=>rfl
   |some r=>exact zcj _ _
@[simp] theorem opD_loadN (n:Nat) (a:CO):opD (.loadN n a) s M=rdV M (ldN n (rowO M (evD s a))):=by
  show(evD s a).bind _=_
  cases evD s a with
  |none=>rfl
  |some a=>show(zcR M a).bind _=rdV M (ldN n (zcR M a));cases zcR M a with
   |none=>rfl
   |some r=>show(zeI n r).map _=rdV M ((zeI n r).map .agg);cases zeI n r<;>rfl
@[simp] theorem opD_store (n:Nat) (a x:CO):opD (.store n a x) s M=stO n M (evD s a) (evD s x):=by
  show(evD s a).bind _=_
  cases evD s a with
  |none=>rfl
  |some a=>show(evD s x).bind _=_;cases evD s x with
   |none=>rfl
   |some x=>show(zeQ n M x a).map _=stR (zeQ n M x a);cases zeQ n M x a<;>rfl
@[simp] theorem opD_nil (x:CO):opD (.nilCheck x) s M=rdV M (f1 nilD (evD s x)):=by
  show(evD s x).bind _=_;cases evD s x<;>first|rfl|exact zcj _ _
@[simp] theorem opD_bin (op:BinOp) (ek:EK) (x y:CO):opD (.bin op ek x y) s M=rdV M (f2 (binD op ek) (evD s x) (evD s y)):=by
  show(evD s x).bind _=_
  cases evD s x with
  |none=>rfl
  |some a=>show(evD s y).bind _=_;cases evD s y<;>first|rfl|exact zcj _ _
@[simp] theorem opD_un (op:UnOp) (x:CO):opD (.un op x) s M=rdV M (f1 (unD op) (evD s x)):=by
  show(evD s x).bind _=_;cases evD s x<;>first|rfl|exact zcj _ _
@[simp] theorem opD_conv (k:IntKind) (x:CO):opD (.conv k x) s M=rdV M (f1 (convD k) (evD s x)):=by
  show(evD s x).bind _=_;cases evD s x<;>first|rfl|exact zcj _ _
@[simp] theorem opD_makeFunc (g:Fn) (a b:List CO):opD (.makeFunc g a b) s M=fnO g M (evDL s a) (evDL s b):=by
  cases g with
  |func g=>
   show(evDL s a).bind _=_
   cases evDL s a with
   |none=>rfl
   |some a=>show(evDL s b).map _=_;cases evDL s b<;>rfl
  |_=>unfold opD fnO;cases evDL s a<;>cases evDL s b<;>rfl
@[simp] theorem opD_slice (n:Nat) (x:CO) (lo hi:Option CO):opD (.slice n x lo hi) s M=rdV M (slO n M (evD s x) (evDO s lo) (evDO s hi)):=by
  show(evD s x).bind _=_
  cases evD s x with
  |none=>rfl
  |some v=>show(evDO s lo).bind _=_;cases evDO s lo with
   |none=>rfl
   |some lo=>show(evDO s hi).bind _=_;cases evDO s hi<;>first|rfl|exact zcj _ _
@[simp] theorem opD_fieldAddr (n:Nat) (x:CO):opD (.fieldAddr n x) s M=rdV M (f1 (offD n) (evD s x)):=by
  show(evD s x).bind _=_;cases evD s x<;>first|rfl|exact zcj _ _
@[simp] theorem opD_indexAddr (n:Nat) (x i:CO):opD (.indexAddr n x i) s M=rdV M (f2 (zkj n M) (evD s i) (evD s x)):=by
  show(evD s x).bind _=_
  cases evD s x with
  |none=>cases evD s i<;>rfl
  |some a=>show(evD s i).bind _=_;cases evD s i<;>first|rfl|exact zcj _ _
@[simp] theorem opD_indexArr (n m:Nat) (x i:CO):opD (.indexArr n m x i) s M=rdV M (f2 (arrD n m) (evD s i) (evD s x)):=by
  show(evD s x).bind _=_
  cases evD s x with
  |none=>cases evD s i<;>rfl
  |some a=>show(evD s i).bind _=_;cases evD s i<;>first|rfl|exact zcj _ _
@[simp] theorem opD_lookup (kk:KK) (z:Value) (ok:Bool) (x i:CO):opD (.lookup kk z ok x i) s M=rdV M (lkO kk ok M (evD s x) (evD s i) (dOf z)):=by
  show(evD s x).bind _=_
  cases evD s x with
  |none=>rfl
  |some m=>show(evD s i).bind _=_;cases evD s i with
   |none=>rfl
   |some k=>show(dOf z).bind _=_;cases dOf z with
    |none=>rfl
    |some z=>
     show(zbA kk k k).bind _=rdV M (lkE kk z ok k (zbk M m))
     cases hk:zbA kk k k with
     |none=>cases zbk M m<;>simp[lkE,hk,rdV]
     |some b=>
      show(zbk M m).bind _=_
      cases zbk M m with
      |none=>rfl
      |some es=>
       simp only[lkE,hk]
       show(zh1 kk k es).map _=rdV M ((zh1 kk k es).map _)
       cases zh1 kk k es<;>rfl
@[simp] theorem opD_mapUpdate (kk:KK) (m i x:CO):opD (.mapUpdate kk m i x) s M=muO kk M (evD s m) (evD s i) (evD s x):=by
  show(evD s m).bind _=_
  cases evD s m with
  |none=>rfl
  |some m=>show(evD s i).bind _=_;cases evD s i with
   |none=>rfl
   |some k=>show(evD s x).bind _=_;cases evD s x with
    |none=>rfl
    |some x=>show(updD kk M k x m).map _=stR (updD kk M k x m);cases updD kk M k x m<;>rfl
@[simp] theorem opD_extract (x:CO) (i:Nat):opD (.extract x i) s M=rdV M (f1 (exV i) (evD s x)):=by
  show(evD s x).bind _=_
  cases evD s x with
  |none=>rfl
  |some v=>cases v<;>first|rfl|exact zcj _ _
@[simp] theorem opD_box (x:CO):opD (.box x) s M=bxO M (evD s x):=by
  show(evD s x).map _=_;cases evD s x<;>rfl
@[simp] theorem opD_alloc (z:List Value):opD (.alloc z) s M=alO M (dOfL z):=by
  show(dOfL z).map _=_;cases dOfL z<;>rfl
@[simp] theorem opD_makeMap:opD .makeMap s M=some (.map M.next,M.new (.map [])):=id rfl
@[simp] theorem opD_makeSlice (n b:Nat) (z:List Value) (l c:CO):opD (.makeSlice n b z l c) s M=mkO b M (evD s l) (evD s c) (dOfL z):=by
  show(evD s l).bind _=_
  cases evD s l with
  |none=>rfl
  |some l=>show(evD s c).bind _=_;cases evD s c with
   |none=>rfl
   |some c=>show(dOfL z).bind _=_;cases dOfL z<;>rfl
@[simp] theorem opD_buildSlice (len size:Nat) (z:List Value) (ps:List (Nat×CO)):opD (.buildSlice len size z ps) s M=bsO M len size (dOfL z) (zeq s ps):=by
  show(dOfL z).bind _=_
  cases dOfL z with
  |none=>rfl
  |some z=>
   show(if z.length=size∧len<zo then(zeq s ps).bind _ else none)=_
   cases zeq s ps with
   |none=>split<;>rfl
   |some l=>
    show _=(if z.length=size∧len<zo then msR M len size (zcv size (List.replicate len z) l) else none)
    split
    ·show(zcv _ _ _).map _=_;cases zcv size (List.replicate len z) l<;>rfl
    ·rfl
@[simp] theorem opD_blt (b:CB) (as:List CO):opD (.blt b as) s M=blO b M (evDL s as):=by
  show(evDL s as).bind _=_;cases evDL s as<;>rfl
@[simp] theorem getS_bits (m n:Nat) (d:DV) (s:DS):getS ((bits m,d)::s) (bits n)=if m=n then some d else getS s (bits n):=by
  rw[zd3]
  by_cases h:m=n
  ·rw[if_pos h,if_pos (by rw[h])]
  ·rw[if_neg h,if_neg (fun e=>h (zgO e))]
@[simp] theorem evD_t (n:Nat):evD s (.t (bits n))=getS s (bits n):=id rfl
@[simp] theorem evD_int (k:IntKind) (n:Int):evD s (.c (.int k n))=some (.int k n):=id rfl
@[simp] theorem evD_bool (b:Bool):evD s (.c (.bool b))=some (.bool b):=id rfl
@[simp] theorem evD_fc (f:Nat):evD s (.c (.func (.func f) ⟨[]⟩ ⟨[]⟩))=some (.fn f [] []):=id rfl
@[simp] theorem evD_nilS:evD s (.c (.slice none 0 0))=some .nilS:=id rfl
@[simp] theorem evD_nilF:evD s (.c .nilFunc)=some .nilF:=id rfl
@[simp] theorem dOf_int (k:IntKind) (n:Int):dOf (.int k n)=some (.int k n):=id rfl
@[simp] theorem dOfL_nil:dOfL []=some []:=id rfl
@[simp] theorem dOfL_cons (v:Value) (r:List Value):dOfL (v::r)=(dOf1 v).bind fun d=>(dOfL r).map (d:: ·):=id rfl
@[simp] theorem dOf1_int (k:IntKind) (n:Int):dOf1 (.int k n)=some (.int k n):=id rfl
@[simp] theorem dOf1_bool (b:Bool):dOf1 (.bool b)=some (.bool b):=id rfl
@[simp] theorem dOf1_nilS:dOf1 (.slice none 0 0)=some .nilS:=id rfl
def consO:Option DV→Option (List DV)→Option (List DV)
 |some d,some l=>some (d::l)
 |_,_=>none
@[simp] theorem consO_some (d:DV) (l:List DV):consO (some d) (some l)=some (d::l):=id rfl
@[simp] theorem evDL_nil:evDL s []=some []:=id rfl
@[simp] theorem evDL_cons (x:CO) (r:List CO):evDL s (x::r)=consO (evD s x) (evDL s r):=by
  show(evD s x).bind _=_;cases evD s x<;>cases evDL s r<;>rfl
@[simp] theorem evDO_none:evDO s none=some none:=id rfl
@[simp] theorem evDO_some (x:CO):evDO s (some x)=(evD s x).map some:=id rfl
@[simp] theorem partsD_nil:zgl s []=some []:=id rfl
@[simp] theorem partsD_cons (o n:Nat) (x:CO) (r:List (Nat×Nat×CO)):zgl s ((o,n,x)::r)=(evD s x).bind fun v=>(zgl s r).map ((o,n,v):: ·):=id rfl
@[simp] theorem partsSD_nil:zeq s []=some []:=id rfl
@[simp] theorem partsSD_cons (i:Nat) (x:CO) (r:List (Nat×CO)):zeq s ((i,x)::r)=(evD s x).bind fun v=>(zeq s r).map ((i,v):: ·):=id rfl
@[simp] theorem fillD_nil (z:List DV):zhn z []=some z:=id rfl
def fillR (r:List (Nat×Nat×DV)):Option (List DV)→Option (List DV)
 |some c=>zhn c r
 |none=>none
@[simp] theorem fillR_some (r:List (Nat×Nat×DV)) (c:List DV):fillR r (some c)=zhn c r:=id rfl
@[simp] theorem fillD_cons (z:List DV) (o n:Nat) (v:DV) (r:List (Nat×Nat×DV)):zhn z ((o,n,v)::r)=if(zS v).length=n∧0<n∧(zS v).all zL=true then fillR r (zbc z o (zS v)) else none:=by
  show(if _ then(zbc z o (zS v)).bind _ else none)=_
  congr 1;cases zbc z o (zS v)<;>rfl
@[simp] theorem setRows_nil (n:Nat) (rows:List (List DV)):zcv n rows []=some rows:=id rfl
@[simp] theorem setRows_cons (n:Nat) (rows:List (List DV)) (i:Nat) (v:DV) (r:List (Nat×DV)):zcv n rows ((i,v)::r)=if(zS v).length=n∧0<n∧(zS v).all zL=true∧i<rows.length then zcv n (rows.set i (zS v)) r else none:=id rfl
@[simp] theorem writeD_n (l:List DV) (o:Nat):zbc l o []=some l:=zgV l o
@[simp] theorem writeD_0 (c:DV) (l:List DV) (v:DV) (vs:List DV):zbc (c::l) 0 (v::vs)=(zbc l 0 vs).map (v:: ·):=id rfl
@[simp] theorem writeD_s (c:DV) (l:List DV) (n:Nat) (v:DV) (vs:List DV):zbc (c::l) (n+1) (v::vs)=(zbc l n (v::vs)).map (c:: ·):=id rfl
@[simp] theorem putDD_some (p:List Bool) (v:DV):zbp (some p) v s=(p,v)::s:=id rfl
@[simp] theorem putDD_none (v:DV):zbp none v s=s:=id rfl
def kpL (p:List Bool) (r:DS):Option DV→DS
 |some d=>(p,d)::r
 |none=>r
@[simp] theorem kpL_some (p:List Bool) (r:DS) (d:DV):kpL p r (some d)=(p,d)::r:=id rfl
@[simp] theorem keepD_nil:zbh [] s=s:=id rfl
@[simp] theorem keepD_cons (p:List Bool) (L:List (List Bool)):zbh (p::L) s=zka s (p::L):=id rfl
@[simp] theorem keepL_nil:zka s []=[]:=id rfl
@[simp] theorem keepL_cons (p:List Bool) (L:List (List Bool)):zka s (p::L)=kpL p (zka s L) (getS s p):=by
  show(match getS s p with|some d=>_|none=>_)=_;cases getS s p<;>rfl
def wtB (w:Bool):Option DV→Option Bool
 |some (.bool b)=>some (b==w)
 |some (.tup _)=>some false
 |_=>none
@[simp] theorem wtB_bool (w b:Bool):wtB w (some (.bool b))=some (b==w):=id rfl
@[simp] theorem wtB_tup (w:Bool) (l:List DV):wtB w (some (.tup l))=some false:=id rfl
@[simp] theorem wantD_some (q:List Bool) (w:Bool):wantD (some (q,w)) s=wtB w (getS s q):=by
  show(getS s q).bind _=_
  cases getS s q with
  |none=>rfl
  |some d=>cases d<;>rfl
@[simp] theorem argsD_nil (i:Nat):argsD [] i s=s:=id rfl
@[simp] theorem argsD_cons (v:DV) (vs:List DV) (i:Nat):argsD (v::vs) i s=argsD vs (i+1) ((bits i,v)::s):=id rfl
@[simp] theorem setSD_nil:setSD [] [] s=some s:=id rfl
@[simp] theorem setSD_cons (p:List Bool) (ps:List (List Bool)) (v:DV) (vs:List DV):setSD (p::ps) (v::vs) s=setSD ps vs ((p,v)::s):=id rfl
def enO (k:DV→VM→Prop) (M:VM):Option (List DV)→Prop
 |some vs=>k (zio vs) M
 |none=>False
@[simp] theorem enO_some (k:DV→VM→Prop) (M:VM) (vs:List DV):enO k M (some vs)=k (zio vs) M:=id rfl
@[simp] theorem endD_eq (rs:List CR) (k:DV→VM→Prop):endD rs k s M=enO k M (resDL s M rs):=by
  unfold endD;cases resDL s M rs<;>rfl
@[simp] theorem resDL_nil:resDL s M []=some []:=id rfl
@[simp] theorem resDL_cons (r:CR) (rs:List CR):resDL s M (r::rs)=consO (resD s M r) (resDL s M rs):=by
  show(resD s M r).bind _=_;cases resD s M r<;>cases resDL s M rs<;>rfl
@[simp] theorem resD_tmp (p:List Bool):resD s M (.tmp p)=getS s p:=id rfl
@[simp] theorem resD_cell1 (p:List Bool):resD s M (.cell none p)=ld1 (rowO M (getS s p)):=by
  show(getS s p).bind _=_
  cases getS s p with
  |none=>rfl
  |some v=>show(zcR M v).bind _=ld1 (zcR M v);cases zcR M v<;>rfl
@[simp] theorem resD_cellN (n:Nat) (p:List Bool):resD s M (.cell (some n) p)=ldN n (rowO M (getS s p)):=by
  show(getS s p).bind _=_
  cases getS s p with
  |none=>rfl
  |some v=>show(zcR M v).bind _=ldN n (zcR M v);cases zcR M v<;>rfl
@[simp] theorem tupleD_one (v:DV):zio [v]=v:=id rfl
@[simp] theorem tupleD_nil:zio []=.tup []:=id rfl
@[simp] theorem tupleD_two (v u:DV) (l:List DV):zio (v::u::l)=.tup (v::u::l):=id rfl
end
section
variable {M:VM}
@[simp] theorem zc (o:MO):(M.new o).next=M.next+1:=id rfl
@[simp] theorem ze (j:Nat) (o:MO):(M.put j o).next=M.next+1:=id rfl
@[simp] theorem zf (j:Nat):(M.del j).next=M.next:=id rfl
@[simp low] theorem obj_new (o:MO) (i:Nat):(M.new o).obj i=if i=M.next then some o else M.obj i:=by
  unfold VM.obj VM.new;dsimp only;by_cases h:i=M.next<;>simp[h]
@[simp low] theorem z7 (o:MO) (j i:Nat):(M.put j o).obj i=if i=j then some o else M.obj i:=by
  unfold VM.obj VM.put;dsimp only;by_cases h:i=j<;>simp[h]
@[simp low] theorem obj_del (j i:Nat):(M.del j).obj i=if i=j then none else M.obj i:=by
  unfold VM.obj VM.del;dsimp only;by_cases h:i=j<;>simp[h]
@[simp] theorem zha (o:MO):(M.new o).obj M.next=some o:=by rw[obj_new,if_pos rfl]
@[simp] theorem obj_new_ne {o:MO} {i:Nat} (h:i≠M.next):(M.new o).obj i=M.obj i:=by rw[obj_new,if_neg h]
@[simp] theorem zlB (o:MO) (j:Nat):(M.put j o).obj j=some o:=by rw[z7,if_pos rfl]
@[simp] theorem obj_put_ne {o:MO} {j i:Nat} (h:i≠j):(M.put j o).obj i=M.obj i:=by rw[z7,if_neg h]
@[simp] theorem get_new_lt {o:MO} {i:Nat} (h:i<M.next):(M.new o).get i=M.get i:=by rw[get_new,if_neg (by omega)]
@[simp] theorem get_new_eq {o:MO}:(M.new o).get M.next=some (o,M.next):=by rw[get_new,if_pos rfl]
@[simp] theorem get_put_ne {j:Nat} {o:MO} {i:Nat} (h:i≠j):(M.put j o).get i=M.get i:=by rw[get_put,if_neg h]
@[simp] theorem get_put_eq {j:Nat} {o:MO}:(M.put j o).get j=some (o,M.next):=by rw[get_put,if_pos rfl]
@[simp] theorem get_del_ne {j:Nat} {i:Nat} (h:i≠j):(M.del j).get i=M.get i:=by rw[zc9,if_neg h]
@[simp] theorem get_del_eq {j:Nat}:(M.del j).get j=none:=by rw[zc9,if_pos rfl]
theorem zjc {j:Nat} (o:MO) (h:j<M.next):(M.new o).obj j=M.obj j:=by rw[obj_new,if_neg (by omega)]
@[simp] theorem offD_ptr (n j i o:Nat):offD n (.ptr j i o)=some (.ptr j i (o+n)):=id rfl
@[simp] theorem offD_pl (n s i o:Nat) (r:List (List DV)):offD n (.pl s r i o)=some (.pl s r i (o+n)):=id rfl
@[simp] theorem cellsD_agg (l:List DV):zS (.agg l)=l:=id rfl
@[simp] theorem cellsD_int (k:IntKind) (n:Int):zS (.int k n)=[.int k n]:=id rfl
@[simp] theorem cellsD_bool (b:Bool):zS (.bool b)=[.bool b]:=id rfl
@[simp] theorem cellsD_lst (s:Nat) (r:List (List DV)):zS (.lst s r)=[.lst s r]:=id rfl
@[simp] theorem cellsD_ms (j lo len cap:Nat):zS (.ms j lo len cap)=[.ms j lo len cap]:=id rfl
@[simp] theorem cellsD_nilS:zS .nilS=[.nilS]:=id rfl
@[simp] theorem isCellD_int (k:IntKind) (n:Int):zL (.int k n)=true:=id rfl
@[simp] theorem isCellD_bool (b:Bool):zL (.bool b)=true:=id rfl
@[simp] theorem isCellD_lst (s:Nat) (r:List (List DV)):zL (.lst s r)=true:=id rfl
@[simp] theorem isCellD_ms (j lo len cap:Nat):zL (.ms j lo len cap)=true:=id rfl
@[simp] theorem isCellD_nilS:zL .nilS=true:=id rfl
@[simp] theorem nilD_ptr (j i o:Nat):nilD (.ptr j i o)=some (.ptr j i o):=id rfl
@[simp] theorem lenD_lst (s:Nat) (r:List (List DV)):lenD M (.lst s r)=some r.length:=id rfl
@[simp] theorem lenD_ms (j lo len cap:Nat):lenD M (.ms j lo len cap)=some len:=id rfl
@[simp] theorem lenD_nil:lenD M .nilS=some 0:=id rfl
def lenI (M:VM):Option Nat→RD
 |some n=>some (.int .i64 (n:Int),M)
 |none=>none
@[simp] theorem lenI_some (n:Nat):lenI M (some n)=some (.int .i64 (n:Int),M):=id rfl
@[simp] theorem bltD_len (d:DV):bltD M .len [d]=lenI M (lenD M d):=by show(lenD M d).map _=_;cases lenD M d<;>rfl
def lenE (M:VM):Option (List (DV×DV))→RD
 |some es=>some (.int .i64 (es.length:Int),M)
 |none=>none
@[simp] theorem lenE_some (es:List (DV×DV)):lenE M (some es)=some (.int .i64 (es.length:Int),M):=id rfl
@[simp] theorem bltD_lenMap (d:DV):bltD M .lenMap [d]=lenE M (zbk M d):=by show(zbk M d).map _=_;cases zbk M d<;>rfl
@[simp] theorem bltD_min (v:DV) (r:List DV):bltD M .min (v::r)=rdV M (zcl false v r):=zcj _ _
@[simp] theorem bltD_max (v:DV) (r:List DV):bltD M .max (v::r)=rdV M (zcl true v r):=zcj _ _
@[simp] theorem minmaxD_max (k:IntKind) (a b:Int):zcl true (.int k a) [.int k b]=some (.int k (if a<b then b else a)):=by
  show(if k=k then some (DV.int k (match ltI a b with|true=>b|false=>a)) else none)=_
  rw[if_pos rfl,zc4];by_cases h:a<b<;>simp[h]
@[simp] theorem minmaxD_min (k:IntKind) (a b:Int):zcl false (.int k a) [.int k b]=some (.int k (if b<a then b else a)):=by
  show(if k=k then some (DV.int k (match ltI b a with|true=>b|false=>a)) else none)=_
  rw[if_pos rfl,zc4];by_cases h:b<a<;>simp[h]
def apN (n b:Nat) (M:VM) (x:DV):Option (List (List DV))→RD
 |some new=>if new.all (fun r=>r.all zL)=true then zbj n b M new x else none
 |none=>none
@[simp] theorem zft (n b:Nat) (x:DV) (new:List (List DV)):apN n b M x (some new)=if new.all (fun r=>r.all zL)=true then zbj n b M new x else none:=id rfl
theorem zdf (n b:Nat) (s x:DV):bltD M (.append n b) [s,x]=if 0<n∧n<roE then apN n b M s (zb9 M n x) else none:=by
 show(if _ then(zb9 M n x).bind _ else none)=_
 congr 1;cases zb9 M n x<;>rfl
def cpN (n:Nat) (M:VM) (d:DV):Option (List (List DV))→RD
 |some src=>if src.all (fun r=>r.all zL)=true then copyD n M src d else none
 |none=>none
@[simp] theorem cpN_some (n:Nat) (d:DV) (src:List (List DV)):cpN n M d (some src)=if src.all (fun r=>r.all zL)=true then copyD n M src d else none:=id rfl
@[simp] theorem bltD_copy (n:Nat) (d x:DV):bltD M (.copy n) [d,x]=cpN n M d (zeH M n x):=by
  show(zeH M n x).bind _=_
  cases zeH M n x<;>rfl
def cpM (n:Nat) (M:VM) (src:List (List DV)) (j lo len:Nat):Option MO→RD
 |some (.rows op sz rs)=>if sz=n∧lo+len≤rs.length∧0<len∧0<src.length then some (.int .i64 ((min len src.length:Nat):Int),M.put j (.rows op sz (zbb rs (src.take (min len src.length)) lo))) else none
 |_=>none
@[simp] theorem cpM_some (n:Nat) (src:List (List DV)) (j lo len:Nat) (op:Bool) (sz:Nat) (rs:List (List DV)):cpM n M src j lo len (some (.rows op sz rs))=if sz=n∧lo+len≤rs.length∧0<len∧0<src.length then some (.int .i64 ((min len src.length:Nat):Int),M.put j (.rows op sz (zbb rs (src.take (min len src.length)) lo))) else none:=id rfl
@[simp] theorem copyD_ms (n:Nat) (src:List (List DV)) (j lo len cap:Nat):copyD n M src (.ms j lo len cap)=cpM n M src j lo len (M.obj j):=by
  show(M.obj j).bind _=_
  cases M.obj j with
  |none=>rfl
  |some o=>cases o<;>rfl
@[simp] theorem appendedD_lst (n s:Nat) (r:List (List DV)):zb9 M n (.lst s r)=if s=n then some r else none:=id rfl
def elO (n lo len:Nat):Option MO→Option (List (List DV))
 |some (.rows _ sz rs)=>if sz=n∧lo+len≤rs.length then some ((rs.drop lo).take len) else none
 |_=>none
@[simp] theorem elO_some (n lo len:Nat) (op:Bool) (sz:Nat) (rs:List (List DV)):elO n lo len (some (.rows op sz rs))=if sz=n∧lo+len≤rs.length then some ((rs.drop lo).take len) else none:=id rfl
@[simp] theorem elemsD_ms (n j lo len cap:Nat):zeH M n (.ms j lo len cap)=elO n lo len (M.obj j):=by
  show(M.obj j).bind _=_
  cases M.obj j with
  |none=>rfl
  |some o=>cases o<;>rfl
@[simp] theorem zdI (n j lo len cap:Nat):zb9 M n (.ms j lo len cap)=elO n lo len (M.obj j):=elemsD_ms n j lo len cap
@[simp] theorem appendD_nilS (n b:Nat) (new:List (List DV)):zbj n b M new .nilS=if new=[] then some (.nilS,M) else if new.length*b≤1073741824 then some (.ms M.next 0 new.length zo,M.new (.rows true n new)) else none:=by
  unfold zbj;rfl
def apM (n:Nat) (M:VM) (new:List (List DV)) (j lo len cap:Nat):Option MO→RD
 |some o=>zcH n M new j lo len cap o
 |none=>none
@[simp] theorem zez (n:Nat) (new:List (List DV)) (j lo len cap:Nat) (o:MO):apM n M new j lo len cap (some o)=zcH n M new j lo len cap o:=id rfl
@[simp] theorem zcE (n b:Nat) (new:List (List DV)) (j lo len cap:Nat):zbj n b M new (.ms j lo len cap)=if new=[] then some (.ms j lo len cap,M) else if(len+new.length)*b≤1073741824 then apM n M new j lo len cap (M.obj j) else none:=by
  unfold zbj
  by_cases h:new=[]
  ·rw[if_pos h,if_pos h]
  ·rw[if_neg h,if_neg h]
   show(if _ then(M.obj j).bind _ else none)=_
   congr 1;cases M.obj j<;>rfl
@[simp] theorem zcr (n:Nat) (new:List (List DV)) (j lo len:Nat) (sz:Nat) (rs:List (List DV)):zcH n M new j lo len zo (.rows true sz rs)=if sz=n∧lo+len≤rs.length then
   (if lo+len+new.length≤rs.length then some (.ms j lo (len+new.length) zo,M.put j (.rows true sz (zbb rs new (lo+len))))
    else some (.ms M.next 0 ((rs.drop lo).take len++new).length zo,(M.del j).new (.rows true n ((rs.drop lo).take len++new)))) else none:=by
  show(if sz=n∧lo+len≤rs.length then(if zo=zo then _ else none) else none)=_
  rw[if_pos rfl];rfl
theorem addrD_lst (s:Nat) (k:IntKind) (z:Int) (rows:List (List DV)):zkj s M (.int k z) (.lst s rows)=if 0≤z∧z.toNat<rows.length then some (.pl s rows z.toNat 0) else none:=by
 cases z with
 |ofNat i=>show(if s=s∧i<rows.length then _ else _)=_;simp
 |negSucc i=>show none=_;rw[if_neg (by omega)]
@[simp] theorem addrD_lstN (s:Nat) (k:IntKind) (i:Nat) (rows:List (List DV)):zkj s M (.int k (i:Int)) (.lst s rows)=if i<rows.length then some (.pl s rows i 0) else none:=by
  rw[addrD_lst];simp
@[simp] theorem addrD_lst0 (s:Nat) (k:IntKind) (rows:List (List DV)):zkj s M (.int k 0) (.lst s rows)=if 0<rows.length then some (.pl s rows 0 0) else none:=addrD_lstN s k 0 rows
def adO (n:Nat) (z:Int) (j lo len:Nat):Option MO→Option DV
 |some (.rows _ sz _)=>if sz=n∧0≤z∧z.toNat<len then some (.ptr j (lo+z.toNat) 0) else none
 |_=>none
@[simp] theorem adO_some (n:Nat) (z:Int) (j lo len:Nat) (op:Bool) (sz:Nat) (rs:List (List DV)):adO n z j lo len (some (.rows op sz rs))=if sz=n∧0≤z∧z.toNat<len then some (.ptr j (lo+z.toNat) 0) else none:=id rfl
@[simp] theorem addrD_ms (n:Nat) (k:IntKind) (z:Int) (j lo len cap:Nat):zkj n M (.int k z) (.ms j lo len cap)=adO n z j lo len (M.obj j):=by
  show(M.obj j).bind _=_
  cases M.obj j with
  |none=>rfl
  |some o=>cases o with
   |rows op sz rs=>
    cases z with
    |ofNat i=>show(if sz=n∧i<len then _ else _)=_;simp
    |negSucc i=>show none=_;rw[adO_some,if_neg (by omega)]
   |_=>cases z<;>rfl
theorem inD_int (y:Nat) (k:IntKind) (z:Int):inD y (.int k z)=if 0≤z∧z≤(y:Int) then some z.toNat else none:=by
 cases z with
 |ofNat i=>show(if i≤y then _ else _)=_;simp
 |negSucc i=>show none=_;rw[if_neg (by omega)]
@[simp] theorem zjN (d y:Nat):zK d y none=some d:=id rfl
@[simp] theorem zjM (d y:Nat) (k:IntKind) (z:Int):zK d y (some (.int k z))=if 0≤z∧z≤(y:Int) then some z.toNat else none:=inD_int y k z
def slT (j l:Nat) (lo:Option DV):Option Nat→Option DV
 |some hi=>(zK 0 hi lo).map fun lo=>.ms j (l+lo) (hi - lo) zo
 |none=>none
@[simp] theorem slT_some (j l hi:Nat) (lo:Option DV):slT j l lo (some hi)=(zK 0 hi lo).map fun lo=>.ms j (l+lo) (hi - lo) zo:=id rfl
def slF (j l cap:Nat) (lo:Option DV):Option Nat→Option DV
 |some hi=>(zK 0 hi lo).map fun lo=>.ms j (if cap=lo then l else l+lo) (hi - lo) (cap - lo)
 |none=>none
@[simp] theorem slF_some (j l cap hi:Nat) (lo:Option DV):slF j l cap lo (some hi)=(zK 0 hi lo).map fun lo=>.ms j (if cap=lo then l else l+lo) (hi - lo) (cap - lo):=id rfl
def slM (n:Nat) (lo hi:Option DV) (j l len cap:Nat):Option MO→Option DV
 |some (.rows true sz rs)=>if sz=n∧cap=zo∧l≤rs.length then slT j l lo (zK len (rs.length - l) hi) else none
 |some (.rows false sz _)=>if sz=n∧cap<zo then slF j l cap lo (zK len cap hi) else none
 |_=>none
@[simp] theorem slM_true (n:Nat) (lo hi:Option DV) (j l len cap sz:Nat) (rs:List (List DV)):slM n lo hi j l len cap (some (.rows true sz rs))=if sz=n∧cap=zo∧l≤rs.length then slT j l lo (zK len (rs.length - l) hi) else none:=id rfl
@[simp] theorem slM_false (n:Nat) (lo hi:Option DV) (j l len cap sz:Nat) (rs:List (List DV)):slM n lo hi j l len cap (some (.rows false sz rs))=if sz=n∧cap<zo then slF j l cap lo (zK len cap hi) else none:=id rfl
@[simp] theorem sliceD_ms (n:Nat) (lo hi:Option DV) (j l len cap:Nat):sliceD n M lo hi (.ms j l len cap)=slM n lo hi j l len cap (M.obj j):=by
  show(M.obj j).bind _=_
  cases M.obj j with
  |none=>rfl
  |some o=>
   cases o with
   |rows op sz rs=>
    cases op with
    |true=>
     show(if sz=n∧cap=zo∧l≤rs.length then(zK len (rs.length - l) hi).bind _ else none)=_
     rw[slM_true];congr 1;cases zK len (rs.length - l) hi<;>rfl
    |false=>
     show(if sz=n∧cap<zo then(zK len cap hi).bind _ else none)=_
     rw[slM_false];congr 1;cases zK len cap hi<;>rfl
   |_=>rfl
def enT:Option MO→Option (List (DV×DV))
 |some (.map es)=>some es
 |_=>none
@[simp] theorem enT_some (es:List (DV×DV)):enT (some (.map es))=some es:=id rfl
@[simp] theorem entriesD_map (j:Nat):zbk M (.map j)=enT (M.obj j):=by
  show(M.obj j).bind _=_
  cases M.obj j with
  |none=>rfl
  |some o=>cases o<;>rfl
@[simp] theorem lookupD_some (z v:DV):zfV z true (some v)=.tup [v,.bool true]:=id rfl
@[simp] theorem lookupD_none (z:DV):zfV z true none=.tup [z,.bool false]:=id rfl
theorem makeSliceD_eq (b:Nat) (z:List DV) (l c:Int):zcW b z M (.int .i64 l) (.int .i64 c)=if 0≤l∧0≤c∧l≤c∧c.toNat*b≤1073741824∧c≤1073741824 then some (.ms M.next 0 l.toNat c.toNat,M.new (.rows false z.length (List.replicate c.toNat z))) else none:=by
 cases l with
 |ofNat l=>cases c with
  |ofNat c=>
   show(if l≤c∧c*b≤1073741824∧c≤1073741824 then _ else _)=_
   by_cases h:l≤c∧c*b≤1073741824∧c≤1073741824
   ·rw[if_pos h,if_pos (by obtain⟨a,e,f⟩:=h;exact⟨by simp,by simp,by simpa using a,by simpa using e,by simp;omega⟩)];rfl
   ·rw[if_neg h,if_neg (by rintro⟨_,_,a,e,f⟩;exact h ⟨by simpa using a,by simpa using e,by simp at f;omega⟩)]
  |negSucc c=>show none=_;rw[if_neg (by omega)]
 |negSucc l=>cases c<;>(show none=_;rw[if_neg (by omega)])
@[simp] theorem makeSliceD_N (b:Nat) (z:List DV) (n:Nat):zcW b z M (.int .i64 (n:Int)) (.int .i64 (n:Int))=if n*b≤1073741824∧n≤1073741824 then some (.ms M.next 0 n n,M.new (.rows false z.length (List.replicate n z))) else none:=by
  rw[makeSliceD_eq]
  by_cases h:n*b≤1073741824∧n≤1073741824
  ·rw[if_pos h,if_pos (by simp;omega)];rfl
  ·rw[if_neg h,if_neg (by simp;omega)]
@[simp] theorem assertD_eq (t u:Nat) (z v:DV):zjX t z true (.ifc u v)=if u=t then some (.tup [v,.bool true]) else some (.tup [z,.bool false]):=by
  show(match Nat.beq u t,true with|true,true=>_|true,false=>_|false,true=>_|false,false=>_)=_
  by_cases h:u=t
  ·subst h;rw[if_pos rfl,Nat.beq_refl]
  ·rw[if_neg h];cases e:Nat.beq u t with
   |true=>exact absurd (Nat.eq_of_beq_eq_true e) h
   |false=>rfl
@[simp] theorem assertD_eq' (t u:Nat) (z v:DV):zjX t z false (.ifc u v)=if u=t then some v else none:=by
  show(match Nat.beq u t,false with|true,true=>_|true,false=>_|false,true=>_|false,false=>_)=_
  by_cases h:u=t
  ·subst h;rw[if_pos rfl,Nat.beq_refl]
  ·rw[if_neg h];cases e:Nat.beq u t with
   |true=>exact absurd (Nat.eq_of_beq_eq_true e) h
   |false=>rfl
end
abbrev I (n:Int):DV:=.int .i64 n
section
variable {ek:EK} {a b:Int}
theorem zho (a b:Int):eqI a b=decide (a=b):=by rw[zgG];by_cases h:a=b<;>simp[h]
@[simp] theorem bin_lss:binD .lss ek (.int .i64 a) (.int .i64 b)=some (.bool (decide (a<b))):=by show some (DV.bool (ltI a b))=_;rw[zc4]
@[simp] theorem bin_gtr:binD .gtr ek (.int .i64 a) (.int .i64 b)=some (.bool (decide (b<a))):=by show some (DV.bool (ltI b a))=_;rw[zc4]
@[simp] theorem bin_geq:binD .geq ek (.int .i64 a) (.int .i64 b)=some (.bool (decide (b≤a))):=by
  show some (DV.bool (!(ltI a b)))=_;rw[zc4];congr 2;by_cases h:a<b<;>simp[h]<;>omega
@[simp] theorem bin_eql:binD .eql ek (.int .i64 a) (.int .i64 b)=some (.bool (decide (a=b))):=by show some (DV.bool (eqI a b))=_;rw[zho]
@[simp] theorem bin_neq:binD .neq ek (.int .i64 a) (.int .i64 b)=some (.bool (!decide (a=b))):=by show some (DV.bool (!(eqI a b)))=_;rw[zho]
@[simp] theorem bin_add:binD .add ek (.int .i64 a) (.int .i64 b)=some (.int .i64 (zf5 .i64 (a+b))):=id rfl
@[simp] theorem bin_sub:binD .sub ek (.int .i64 a) (.int .i64 b)=some (.int .i64 (zf5 .i64 (a - b))):=id rfl
@[simp] theorem un_not (b:Bool):unD .not (.bool b)=some (.bool !b):=id rfl
@[simp] theorem bin_bne (x y:Bool):binD .neq .bool (.bool x) (.bool y)=some (.bool (!(x==y))):=id rfl
theorem wrapF_in {n:Int} (h1: -9223372036854775808≤n) (h2:n≤9223372036854775807):zf5 .i64 n=n:=by
 rw[zfj]
 show(if(true&&decide (n%(2^64:Int)≥(2^63:Int)))=true then n%(2^64:Int) - (2^64:Int) else n%(2^64:Int))=n
 simp only[Bool.true_and,decide_eq_true_eq]
 split<;>omega
theorem zH {n:Int} (h1: -9223372036854775808≤n) (h2:n<9223372036854775808):zf5 .i64 n=n:=wrapF_in h1 (by omega)
end
section
variable {F:FuncId→Option zn} {n0:Nat}
@[simp] theorem rD_call (f:DV) (l:List DV) (M:VM) (k kp:DV→VM→Prop):(rD F n0).call f l M k kp=zy F f l M k kp:=id rfl
@[simp] theorem rD_loop (L:List (List Bool)) (b:CC) (K:KD) (s:DS) (M:VM):(rD F n0).loop L b K s M=zcs F n0 L b K s M:=id rfl
end
section
variable {F:FuncId→Option zn} {n0:Nat}
theorem zy.fn {g:Nat} {a c args:List DV} {M:VM} {k kp:DV→VM→Prop} {cf:zn} (hF:F g=some cf) (hp:cf.prim=none) (hn:(a++args++c).length≤cf.ntmps) (h: @Cd (rD F M.next) (.base (bodyKD (rD F) cf.results k kp cf.dfr)) cf.body (argsD (a++args++c) 0 []) M):zy F (.fn g a c) args M k kp:=
 zy.func hF hp ⟨hn,h⟩
@[simp] theorem bodyKD_none (X:Nat→RnD) (rs:List CR) (k kp:DV→VM→Prop):bodyKD X rs k kp none=fnKD rs k kp:=id rfl
@[simp] theorem fnKD_ret (rs:List CR) (k kp:DV→VM→Prop) (s:DS) (M:VM):(fnKD rs k kp).ret s M=endD rs k s M:=id rfl
@[simp] theorem fnKD_nrm (rs:List CR) (k kp:DV→VM→Prop) (s:DS) (M:VM):(fnKD rs k kp).nrm s M=endD rs k s M:=id rfl
def LoK (F:FuncId→Option zn) (n0:Nat) (L:List (List Bool)) (b:CC) (K:KD):KD:=⟨fun s M=>zcs F n0 L b K (zbh L s) M,K.ext,K.ret,K.pan⟩
@[simp] theorem LoK_nrm (L:List (List Bool)) (b:CC) (K:KD) (s:DS) (M:VM):(LoK F n0 L b K).nrm s M=zcs F n0 L b K (zbh L s) M:=id rfl
@[simp] theorem LoK_ext (L:List (List Bool)) (b:CC) (K:KD) (i:Nat) (s:DS) (M:VM):(LoK F n0 L b K).ext i s M=K.ext i s M:=id rfl
@[simp] theorem LoK_ret (L:List (List Bool)) (b:CC) (K:KD) (s:DS) (M:VM):(LoK F n0 L b K).ret s M=K.ret s M:=id rfl
theorem zcs.go {L:List (List Bool)} {b b':CC} {K:KD} {s:DS} {M:VM} (hb:b=b') (h: @Cd (rD F n0) (.base (LoK F n0 L b K)) b' (zbh L s) M):zcs F n0 L b K s M:=zcs.step (hb▸h)
def SM (n:Nat) (M M':VM):Prop:= ∀j,j<n→M'.get j=M.get j
@[simp] theorem zt (n:Nat) (M:VM):SM n M M:=fun _ _=>rfl
@[simp] theorem zx {n:Nat} {M M':VM} {o:MO} (h:SM n M M') (hn:n≤M'.next):SM n M (M'.new o):=fun j hj=>by rw[get_new,if_neg (by omega)];exact h j hj
@[simp] theorem zu {n:Nat} {M M':VM} {i:Nat} {o:MO} (h:SM n M M') (hn:n≤i):SM n M (M'.put i o):=fun j hj=>by rw[get_put,if_neg (by omega)];exact h j hj
@[simp] theorem zA {n:Nat} {M M':VM} {i:Nat} (h:SM n M M') (hn:n≤i):SM n M (M'.del i):=fun j hj=>by rw[zc9,if_neg (by omega)];exact h j hj
def Back (k:DV→VM→Prop) (M:VM) (d:DV) (M':VM):Prop:=M.Wf→ ∃e,Frz M' M d e∧zJ M.next e∧(∀j,j<M.next→M'.get j=M.get j)∧k e M
theorem zy.back {f:DV} {args:List DV} {M:VM} {k kp:DV→VM→Prop} (h:zy F f args M (Back k M) kp):zy F f args M k kp:=
 zy.wf fun hw=>zy.conv (h.mono (fun d M' q=>let⟨e,h1,h2,h3,h4⟩:=q hw;⟨e,M,.same h3,h1,h2,h4⟩) (fun _ _ q=>q))
theorem Back.plain {k:DV→VM→Prop} {M M':VM} {d:DV} (hb:zJ M.next d) (h:SM M.next M M') (hk:k d M):Back k M d M':=fun _=>⟨d,.refl d,hb,h,hk⟩
end
@[simp] theorem below_int {n:Nat} (k:IntKind) (a:Int):zJ n (.int k a):=.int k a
@[simp] theorem below_bool {n:Nat} (b:Bool):zJ n (.bool b):=.bool b
@[simp] theorem below_nilS {n:Nat}:zJ n .nilS:=.nilS
theorem zfc {n:Nat} {p:DV} {q:Prop} (h1:zJ n p→q) (h2:q→zJ n p):zJ n p=q:=propext ⟨h1,h2⟩
@[simp] theorem below_agg {n:Nat} (l:List DV):zJ n (.agg l)= ∀d∈l,zJ n d:=zfc (fun h=>by cases h;assumption) .agg
@[simp] theorem below_tup {n:Nat} (l:List DV):zJ n (.tup l)= ∀d∈l,zJ n d:=zfc (fun h=>by cases h;assumption) .tup
@[simp] theorem below_lst {n s:Nat} (l:List (List DV)):zJ n (.lst s l)= ∀r∈l,∀d∈r,zJ n d:=zfc (fun h=>by cases h;assumption) .lst
@[simp] theorem below_ms {n j lo len cap:Nat}:zJ n (.ms j lo len cap)=(j<n):=zfc (fun h=>by cases h;assumption) .ms
@[simp] theorem below_fn {n g:Nat} (a c:List DV):zJ n (.fn g a c)=((∀d∈a,zJ n d)∧ ∀d∈c,zJ n d):=zfc (fun h=>by cases h;exact⟨‹_›,‹_›⟩) (fun h=>.fn g h.1 h.2)
attribute [simp] zC zdH zB isW isRd isFl refD zcw
section
variable {M M':VM} {s:DS}
@[simp] theorem inP_nil (p:List Bool):inP [] p=false:=id rfl
@[simp] theorem inP_bits (m n:Nat) (r:List (List Bool)):inP (bits m::r) (bits n)=if m=n then true else inP r (bits n):=by
  show(match beqP (bits m) (bits n) with|true=>true|false=>inP r (bits n))=_
  by_cases h:m=n
  ·subst h;rw[if_pos rfl,zec]
  ·rw[if_neg h];cases e:beqP (bits m) (bits n) with
   |true=>exact absurd (zgO (beqP_eq e)) h
   |false=>rfl
def fr1:Bool→Bool→Bool
 |true,_=>false
 |false,b=>b
@[simp] theorem fr1_true (b:Bool):fr1 true b=false:=id rfl
@[simp] theorem fr1_false (b:Bool):fr1 false b=b:=id rfl
@[simp] theorem freeOf_nil (b:List (List Bool)):zda b []=true:=id rfl
@[simp] theorem freeOf_cons (b:List (List Bool)) (p:List Bool) (r:List (List Bool)):zda b (p::r)=fr1 (inP b p) (zda b r):=by
  show(match inP b p with|true=>false|false=>zda b r)=_;cases inP b p<;>rfl
def nt:Bool→Option (List Bool)→Mo→Mo
 |true,_,x=>x
 |false,q,x=>zct q x
@[simp] theorem nt_true (q:Option (List Bool)) (x:Mo):nt true q x=x:=id rfl
@[simp] theorem nt_false (q:Option (List Bool)) (x:Mo):nt false q x=zct q x:=id rfl
@[simp] theorem noteN_eq (ns:List (List Bool)) (q:Option (List Bool)) (i:Nat) (M:VM) (b:List (List Bool)):zgn ns q ⟨i,M,b⟩=nt (zda b ns) q ⟨i,M,b⟩:=by
  show(match zda b ns with|true=>_|false=>_)=_;cases zda b ns<;>rfl
@[simp] theorem addBad_some (q:List Bool) (i:Nat) (M:VM) (b:List (List Bool)):zct (some q) ⟨i,M,b⟩=⟨i,M,q::b⟩:=id rfl
@[simp] theorem addBad_none (x:Mo):zct none x=x:=id rfl
def rfO:Option DV→List Nat
 |some d=>refD d
 |none=>[]
@[simp] theorem rfO_some (d:DV):rfO (some d)=refD d:=id rfl
theorem refCO_rf (x:CO):zcN s x=rfO (evD s x):=by unfold zcN;cases evD s x<;>rfl
@[simp] theorem refs_load1 (a:CO):zc3 s (.load1 a)=rfO (evD s a):=refCO_rf a
@[simp] theorem refs_loadN (n:Nat) (a:CO):zc3 s (.loadN n a)=rfO (evD s a):=refCO_rf a
@[simp] theorem refs_slice (n:Nat) (x:CO) (lo hi:Option CO):zc3 s (.slice n x lo hi)=rfO (evD s x):=refCO_rf x
theorem get_isSome (j:Nat):(M.get j).isSome=(M.obj j).isSome:=by unfold VM.obj;cases M.get j<;>rfl
@[simp] theorem alikeAt_nil:zfe [] M M'=True:=id rfl
@[simp] theorem alikeAt_cons (j:Nat) (r:List Nat):zfe (j::r) M M'=((M.get j=M'.get j∧(M.obj j).isSome=true)∧zfe r M M'):=by rw[←get_isSome];rfl
@[simp] theorem rdAt_eq (rs:List Nat) (ns:List (List Bool)) (i:Nat) (b:List (List Bool)):rdAt rs ns M ⟨i,M',b⟩=(zda b ns=true∧zfe rs M M'):=id rfl
@[simp] theorem rdOk_nil (rs:List Nat) (ns:List (List Bool)) (lo:Nat):rdOk rs ns M lo []=True:=id rfl
@[simp] theorem rdOk_cons (rs:List Nat) (ns:List (List Bool)) (lo i:Nat) (b:List (List Bool)) (r:List Mo):rdOk rs ns M lo (⟨i,M',b⟩::r)=((if i<lo then True else rdAt rs ns M ⟨i,M',b⟩)∧rdOk rs ns M lo r):=by
  show((match Nat.blt i lo with|true=>True|false=>_)∧_)=_
  by_cases h:i<lo
  ·rw[if_pos h,show Nat.blt i lo=true from by show Nat.ble (i+1) lo=true;rw[Nat.ble_eq];exact h]
  ·rw[if_neg h];cases e:Nat.blt i lo with
   |true=>have e:Nat.ble (i+1) lo=true:=e;rw[Nat.ble_eq] at e;exact absurd e h
   |false=>rfl
@[simp] theorem rdBad_nil (lo:Nat) (q:Option (List Bool)):ziN lo q []=[]:=id rfl
@[simp] theorem rdBad_cons (lo:Nat) (q:Option (List Bool)) (i:Nat) (b:List (List Bool)) (r:List Mo):ziN lo q (⟨i,M,b⟩::r)=(if i<lo then zct q ⟨i,M,b⟩ else⟨i,M,b⟩)::ziN lo q r:=by
  show(match Nat.blt i lo with|true=>_|false=>_)::_=_
  by_cases h:i<lo
  ·rw[if_pos h,show Nat.blt i lo=true from by show Nat.ble (i+1) lo=true;rw[Nat.ble_eq];exact h]
  ·rw[if_neg h];cases e:Nat.blt i lo with
   |true=>have e:Nat.ble (i+1) lo=true:=e;rw[Nat.ble_eq] at e;exact absurd e h
   |false=>rfl
@[simp] theorem nextMo_cons (i:Nat) (b:List (List Bool)) (r:List Mo):zlC (⟨i,M,b⟩::r)=i+1:=id rfl
@[simp] theorem selfIn_one (x:Mo) (d:DV):zkv [x] d=true:=id rfl
@[simp] theorem selfIn_two (x y:Mo) (r:List Mo) (d:DV):zkv (x::y::r) d=selfEq d:=id rfl
@[simp] theorem selfEq_agg (l:List DV):selfEq (.agg l)=l.all zcw:=id rfl
@[simp] theorem selfEq_int (k:IntKind) (a:Int):selfEq (.int k a)=true:=id rfl
end
end
end Go.Ideal
set_option maxRecDepth 100000
namespace Go.Ideal.Q
abbrev n_b:Nat:=10
abbrev n_J:Nat:=11
abbrev n_Y:Nat:=12
abbrev n_w:Nat:=13
abbrev n_j:Nat:=18
abbrev n_o:Nat:=23
abbrev n_p:Nat:=29
abbrev n_y:Nat:=35
abbrev n_q:Nat:=37
abbrev n_l:Nat:=39
abbrev n_N:Nat:=40
abbrev n_t:Nat:=41
abbrev n_L:Nat:=49
abbrev n_m:Nat:=50
abbrev n_v:Nat:=51
abbrev n_g:Nat:=52
abbrev n_F:Nat:=53
abbrev n_d:Nat:=54
abbrev n_f:Nat:=66
abbrev n_C:Nat:=67
abbrev n_H:Nat:=68
abbrev n_x:Nat:=72
abbrev n_G:Nat:=73
abbrev n_a:Nat:=74
abbrev n_c:Nat:=76
abbrev n_h:Nat:=77
abbrev n_n:Nat:=80
abbrev n_e:Nat:=83
abbrev n_Z:Nat:=93
abbrev n_M:Nat:=94
abbrev n_A:Nat:=95
abbrev n_z:Nat:=96
abbrev n_r:Nat:=97
abbrev n_O:Nat:=98
abbrev n_D:Nat:=99
abbrev n_W:Nat:=100
abbrev n_R:Nat:=101
abbrev n_X:Nat:=102
abbrev n_k:Nat:=106
abbrev n_u:Nat:=107
abbrev n_T:Nat:=108
abbrev n_S:Nat:=109
abbrev n_i:Nat:=121
abbrev n_K:Nat:=135
abbrev n_V:Nat:=136
abbrev n_Q:Nat:=137
abbrev n_I:Nat:=138
abbrev n_B:Nat:=139
abbrev n_E:Nat:=145
abbrev n_P:Nat:=160
abbrev n_s:Nat:=161
def r_b_1:List CI:=[bx 2 (t 0),mv 4 ff]
def r_b_2:List CI:=[ln 28 3 2,ca 29 n_J [(t 28)],mv 30 (t 29),gu 30 false (ln 31 3 2),gu 30 false (ca 32 n_p [(t 31)]),gu 30 false (no 33 32),pk 34 (t 30) tt (t 33)]
def r_b_3:List CI:=[ca 35 n_Y [],mv 4 (t 35)]
def r_b_4:List CI:=[fa 36 0 2,l 37 36,mv 38 (t 1),ca 39 n_l [(t 37),(i 1),(t 38)],fa 40 1 2,l 41 40,mv 42 (t 1),lo 1 (ca 43 n_l [(t 41),(i 0),(t 42)]),lo 2 (mv 5 (t 39)),lo 2 (mv 6 (t 43))]
def r_b_5:List CI:=[fa 44 0 2,l 45 44,fa 46 1 2,l 47 46,oo 48 (.build [(iI 0),(iI 0),(.slice none 0 0)] [(0,1,(t 45)),(1,1,(t 47))]),oo 7 (.alloc [(iI 0),(iI 0),(.slice none 0 0)]),st 3 7 (t 48)]
def r_b_6:List CI:=[fa 49 2 2,l 50 49,le 51 (t 50),mv 52 (i 0)]
def r_b_7:List CI:=[bi .lss 53 (t 52) (t 51)]
def r_b_8:List CI:=[ia 54 3 50 (t 52),ln 55 3 54,oo 9 (.alloc [(iI 0),(iI 0),(iI 0)]),st 3 9 (t 55)]
def r_b_9:List CI:=[fa 56 2 7,l 57 56,mv 58 (t 5),fa 59 0 9,l 60 59,ia 61 1 58 (t 60),l 62 61,mv 63 (t 6),fa 64 1 9,l 65 64,ia 66 1 63 (t 65),l 67 66,mv 68 (t 5),fa 69 2 9,l 70 69,ia 71 1 68 (t 70),l 72 71,oo 73 (.build [(iI 0),(iI 0),(iI 0)] [(0,1,(t 62)),(1,1,(t 67)),(2,1,(t 72))]),oo 74 (.buildSlice 1 3 [(iI 0),(iI 0),(iI 0)] [(0,(t 73))]),ap 75 3 24 (t 57) (t 74),lo 1 (fa 76 2 7),lo 1 (st 1 76 (t 75))]
def r_b_10:List CI:=[bi .add 77 (t 52) (i 1),mv 52 (t 77)]
def c_b_11:CC:=(.seq (.ops r_b_7) (bs [2,5,6,7,50,51,52,53]) (.seq (.cond (t 53) .skip (.exit 0)) (bs [2,5,6,7,50,51,52]) (.seq (.block 2 (.seq (.ops r_b_8) (bs [2,5,6,7,9,50,51,52]) (.draw r_b_9))) (bs [2,5,6,7,50,51,52]) (.ops r_b_10))))
def r_b_12:List CI:=[fa 78 2 7,l 79 78,ca 80 n_N [(t 79),(fc n_t)]]
def r_b_13:List CI:=[ln 82 3 2,ca 83 n_o [(t 82)],mv 81 (t 83),ex 84 81 0,ex 85 81 1,mv 10 (t 84),mv 11 (t 85)]
def r_b_14:List CI:=[ln 87 3 7,ca 88 n_o [(t 87)],mv 86 (t 88),ex 89 86 0,ex 90 86 1,mv 12 (t 89),mv 13 (t 90)]
def r_b_15:List CI:=[mv 91 (t 11),bi .neq 92 (t 91) (i 0),mv 93 (t 92),gu 93 false (mv 94 (t 13)),gu 93 false (bi .neq 95 (t 94) (i 0)),pk 96 (t 93) tt (t 95),mv 97 (t 96),gu 97 false (mv 98 (t 10)),gu 97 false (le 99 (t 98)),gu 97 false (fa 100 0 2),gu 97 false (l 101 100),gu 97 false (bi .neq 102 (t 99) (t 101)),pk 103 (t 97) tt (t 102),mv 104 (t 103),gu 104 false (mv 105 (t 12)),gu 104 false (le 106 (t 105)),gu 104 false (fa 107 0 2),gu 104 false (l 108 107),gu 104 false (bi .neq 109 (t 106) (t 108)),pk 110 (t 104) tt (t 109)]
def r_b_16:List CI:=[mv 4 ff]
def r_b_17:List CI:=[mv 111 (t 10),le 112 (t 111),mv 113 (i 0)]
def r_b_18:List CI:=[bi .lss 114 (t 113) (t 112)]
def r_b_19:List CI:=[mv 115 (t 113),mv 14 (t 115)]
def r_b_20:List CI:=[mv 116 (t 10),le 117 (t 116),mv 118 (i 0)]
def r_b_21:List CI:=[bi .lss 119 (t 118) (t 117)]
def r_b_22:List CI:=[mv 120 (t 118),mv 15 (t 120)]
def r_b_23:List CI:=[mv 121 (t 10),mv 122 (t 14),ia 123 1 121 (t 122),l 124 123,mv 125 (t 10),mv 126 (t 15),ia 127 1 125 (t 126),l 128 127,bi .eql 129 (t 124) (t 128),mv 130 (t 12),mv 131 (t 5),mv 132 (t 14),ia 133 1 131 (t 132),l 134 133,ia 135 1 130 (t 134),l 136 135,mv 137 (t 12),mv 138 (t 5),mv 139 (t 15),ia 140 1 138 (t 139),l 141 140,ia 142 1 137 (t 141),l 143 142,bi .eql 144 (t 136) (t 143),oo 145 (.bin .neq .bool (t 129) (t 144))]
def r_b_24:List CI:=[mv 4 ff]
def r_b_25:List CI:=[bi .add 146 (t 118) (i 1),mv 118 (t 146)]
def c_b_26:CC:=(.seq (.ops r_b_21) (bs [2,5,6,7,10,12,14,112,113,117,118,119]) (.seq (.cond (t 119) .skip (.exit 8)) (bs [2,5,6,7,10,12,14,112,113,117,118]) (.seq (.block 10 (.seq (.ops r_b_22) (bs [2,5,6,7,10,12,14,15,112,113,117,118]) (.seq (.draw r_b_23) (bs [2,5,6,7,10,12,14,112,113,117,118,145]) (.cond (t 145) (.seq (.ops r_b_24) (bs [4]) .ret) .skip)))) (bs [2,5,6,7,10,12,14,112,113,117,118]) (.ops r_b_25))))
def r_b_27:List CI:=[bi .add 147 (t 113) (i 1),mv 113 (t 147)]
def c_b_28:CC:=(.seq (.ops r_b_18) (bs [2,5,6,7,10,12,112,113,114]) (.seq (.cond (t 114) .skip (.exit 4)) (bs [2,5,6,7,10,12,112,113]) (.seq (.block 6 (.seq (.ops r_b_19) (bs [2,5,6,7,10,12,14,112,113]) (.seq (.ops r_b_20) (bs [2,5,6,7,10,12,14,112,113,117,118]) (.block 8 (.loop (bs [2,5,6,7,10,12,14,112,113,117,118]) c_b_26))))) (bs [2,5,6,7,10,12,112,113]) (.ops r_b_27))))
def r_b_29:List CI:=[mv 148 (t 6),le 149 (t 148),mv 150 (i 0)]
def r_b_30:List CI:=[bi .lss 151 (t 150) (t 149)]
def r_b_31:List CI:=[mv 152 (t 150),ia 153 1 148 (t 150),l 154 153,mv 16 (t 152),mv 17 (t 154)]
def r_b_32:List CI:=[ln 156 3 2,mv 157 (t 16),ca 158 n_j [(t 156),(t 157)],mv 155 (t 158),ex 159 155 0,ex 160 155 1,ex 161 155 2,mv 18 (t 159),mv 19 (t 160),mv 20 (t 161)]
def r_b_33:List CI:=[ln 163 3 7,mv 164 (t 17),ca 165 n_j [(t 163),(t 164)],mv 162 (t 165),ex 166 162 0,ex 167 162 1,ex 168 162 2,mv 21 (t 166),mv 22 (t 167),mv 23 (t 168)]
def r_b_34:List CI:=[ln 170 3 2,mv 171 (t 16),ca 172 n_w [(t 170),(t 171)],mv 169 (t 172),ex 173 169 0,ex 174 169 1,mv 24 (t 173),mv 25 (t 174)]
def r_b_35:List CI:=[ln 176 3 7,mv 177 (t 17),ca 178 n_w [(t 176),(t 177)],mv 175 (t 178),ex 179 175 0,ex 180 175 1,mv 26 (t 179),mv 27 (t 180)]
def r_b_36:List CI:=[mv 181 (t 20),mv 182 (t 23),bi .neq 183 (t 181) (t 182),mv 184 (t 183),gu 184 false (mv 185 (t 25)),gu 184 false (mv 186 (t 27)),gu 184 false (bi .neq 187 (t 185) (t 186)),pk 188 (t 184) tt (t 187)]
def r_b_37:List CI:=[mv 4 ff]
def r_b_38:List CI:=[bi .add 189 (t 150) (i 1),mv 150 (t 189)]
def c_b_39:CC:=(.seq (.ops r_b_30) (bs [2,7,148,149,150,151]) (.seq (.cond (t 151) .skip (.exit 12)) (bs [2,7,148,149,150]) (.seq (.block 14 (.seq (.ops r_b_31) (bs [2,7,16,17,148,149,150]) (.seq (.ops r_b_32) (bs [2,7,16,17,20,148,149,150]) (.seq (.ops r_b_33) (bs [2,7,16,17,20,23,148,149,150]) (.seq (.ops r_b_34) (bs [2,7,17,20,23,25,148,149,150]) (.seq (.ops r_b_35) (bs [2,7,20,23,25,27,148,149,150]) (.seq (.ops r_b_36) (bs [2,7,148,149,150,188]) (.cond (t 188) (.seq (.ops r_b_37) (bs [4]) .ret) .skip)))))))) (bs [2,7,148,149,150]) (.ops r_b_38))))
def r_b_40:List CI:=[ca 190 n_Y [],mv 4 (t 190)]
def c_b:CC:=(.seq (.ops r_b_1) (bs [1,2]) (.seq (.seq (.ops r_b_2) (bs [1,2,34]) (.cond (t 34) (.seq (.ops r_b_3) (bs [4]) .ret) .skip)) (bs [1,2]) (.seq (.draw r_b_4) (bs [2,5,6]) (.seq (.ops r_b_5) (bs [2,5,6,7]) (.seq (.seq (.ops r_b_6) (bs [2,5,6,7,50,51,52]) (.block 0 (.loop (bs [2,5,6,7,50,51,52]) c_b_11))) (bs [2,5,6,7]) (.seq (.ops r_b_12) (bs [2,5,6,7]) (.seq (.ops r_b_13) (bs [2,5,6,7,10,11]) (.seq (.ops r_b_14) (bs [2,5,6,7,10,11,12,13]) (.seq (.seq (.ops r_b_15) (bs [2,5,6,7,10,12,110]) (.cond (t 110) (.seq (.ops r_b_16) (bs [4]) .ret) .skip)) (bs [2,5,6,7,10,12]) (.seq (.seq (.ops r_b_17) (bs [2,5,6,7,10,12,112,113]) (.block 4 (.loop (bs [2,5,6,7,10,12,112,113]) c_b_28))) (bs [2,6,7]) (.seq (.seq (.ops r_b_29) (bs [2,7,148,149,150]) (.block 12 (.loop (bs [2,7,148,149,150]) c_b_39))) [] (.seq (.ops r_b_40) (bs [4]) .ret))))))))))))
def f_b:zn:=⟨191,[.tmp (bits 4)],c_b,none,none⟩
def r_J_1:List CI:=[bx 1 (t 0),mv 2 ff]
def r_J_2:List CI:=[fa 3 2 1,l 4 3,le 5 (t 4),bi .gtr 6 (t 5) (i 500),mv 2 (t 6)]
def c_J:CC:=(.seq (.ops r_J_1) (bs [1]) (.seq (.ops r_J_2) (bs [2]) .ret))
def f_J:zn:=⟨7,[.tmp (bits 2)],c_J,none,none⟩
def r_w_1:List CI:=[bx 2 (t 0),bx 3 (t 1),oo 4 (.alloc [(.slice none 0 0)]),oo 5 (.alloc [(iI 0)])]
def r_w_2:List CI:=[ln 11 3 2,l 12 3,ca 13 n_L [(t 11),(t 12),(.c (.slice none 0 0))],no 14 13]
def r_w_3:List CI:=[st 1 4 (.c (.slice none 0 0)),st 1 5 (i 2)]
def r_w_4:List CI:=[ln 15 3 2,oo 16 (.build [(iI 0),(iI 0),(.slice none 0 0)] [(0,3,(t 15))]),oo 6 (.alloc [(iI 0),(iI 0),(.slice none 0 0)]),st 3 6 (t 16)]
def r_w_5:List CI:=[ln 18 3 6,ca 19 n_v [(t 18)],ln 17 3 6,lo 1 (ca 20 n_m [(t 17),(i 0),(t 19),(i (-1))]),oo 7 (.alloc [(.int .u64 0)]),lo 2 (st 1 7 (t 20))]
def r_w_6:List CI:=[ln 21 3 6,ln 22 1 7,l 23 3,ca 24 n_g [(t 21),(t 22),(t 23),tt],le 25 (t 24),mv 26 (i 0)]
def r_w_7:List CI:=[bi .lss 27 (t 26) (t 25)]
def r_w_8:List CI:=[ia 28 1 24 (t 26),ln 29 1 28,oo 9 (.alloc [(.int .u64 0)]),st 1 9 (t 29)]
def r_w_9:List CI:=[ln 30 1 9,ca 31 n_F [(t 30)]]
def r_w_10:List CI:=[mv 10 (t 32)]
def r_w_11:List CI:=[ln 33 3 6,mv 34 (t 10),ln 35 1 9,l 36 3,ca 37 n_d [(t 33),(t 34),(t 35),(t 36),tt],st 1 4 (t 37),st 1 5 (i 0)]
def c_w_12:CC:=(.ops r_w_10)
def zgP:CC:=(.block 6 (.seq (.ops r_w_11) [] .ret))
def r_w_13:List CI:=[bi .add 38 (t 26) (i 1),mv 26 (t 38)]
def c_w_14:CC:=(.seq (.ops r_w_7) (bs [3,4,5,6,24,25,26,27]) (.seq (.cond (t 27) .skip (.exit 0)) (bs [3,4,5,6,24,25,26]) (.seq (.block 2 (.seq (.ops r_w_8) (bs [3,4,5,6,9,24,25,26]) (.seq (.ops r_w_9) (bs [3,4,5,6,9,24,25,26,31]) (.block 4 (.rangeFunc 0 (bs [3,4,5,6,9]) (t 31) (bs [32]) c_w_12 zgP))))) (bs [3,4,5,6,24,25,26]) (.ops r_w_13))))
def r_w_15:List CI:=[st 1 4 (.c (.slice none 0 0)),st 1 5 (i 5)]
def c_w:CC:=(.seq (.ops r_w_1) (bs [2,3,4,5]) (.seq (.seq (.ops r_w_2) (bs [2,3,4,5,14]) (.cond (t 14) (.seq (.ops r_w_3) (bs [4,5]) .ret) .skip)) (bs [2,3,4,5]) (.seq (.ops r_w_4) (bs [3,4,5,6]) (.seq (.draw r_w_5) (bs [3,4,5,6,7]) (.seq (.seq (.ops r_w_6) (bs [3,4,5,6,24,25,26]) (.block 0 (.loop (bs [3,4,5,6,24,25,26]) c_w_14))) (bs [4,5]) (.seq (.ops r_w_15) (bs [4,5]) .ret))))))
def f_w:zn:=⟨39,[.cell none (bits 4),.cell none (bits 5)],c_w,none,none⟩
def r_j_1:List CI:=[bx 2 (t 0),mv 4 (.c (.slice none 0 0)),mv 5 (.c (.slice none 0 0)),mv 6 (i 0)]
def r_j_2:List CI:=[ln 16 3 2,mv 17 (t 1),ca 18 n_L [(t 16),(t 17),(.c (.slice none 0 0))],no 19 18]
def r_j_3:List CI:=[mv 4 (.c (.slice none 0 0)),mv 5 (.c (.slice none 0 0)),mv 6 (i 2)]
def r_j_4:List CI:=[ln 20 3 2,oo 21 (.build [(iI 0),(iI 0),(.slice none 0 0)] [(0,3,(t 20))]),oo 7 (.alloc [(iI 0),(iI 0),(.slice none 0 0)]),st 3 7 (t 21)]
def r_j_5:List CI:=[ln 24 3 7,ca 25 n_v [(t 24)],ln 23 3 7,mv 26 (t 1),ln 27 3 7,oo 28 (.makeFunc (.func n_C) [(t 27)] []),lo 1 (ca 29 n_f [(t 23),(i 0),(t 25),(t 26),(t 28)]),lo 2 (mv 22 (t 29)),lo 2 (ex 30 22 0),lo 2 (ex 31 22 1),lo 2 (mv 8 (t 30)),lo 2 (mv 9 (t 31))]
def r_j_6:List CI:=[mv 32 (t 9)]
def r_j_7:List CI:=[mv 33 (t 8),mv 4 (t 33),mv 5 (.c (.slice none 0 0)),mv 6 (i 0)]
def r_j_8:List CI:=[ln 35 3 7,ca 36 n_v [(t 35)],ln 34 3 7,mv 37 (t 1),lo 1 (ca 38 n_m [(t 34),(i 0),(t 36),(t 37)]),oo 10 (.alloc [(.int .u64 0)]),lo 2 (st 1 10 (t 38))]
def r_j_9:List CI:=[ln 39 3 7,ln 40 1 10,mv 41 (t 1),ca 42 n_g [(t 39),(t 40),(t 41),ff],le 43 (t 42),mv 44 (i 0)]
def r_j_10:List CI:=[bi .lss 45 (t 44) (t 43)]
def r_j_11:List CI:=[ia 46 1 42 (t 44),ln 47 1 46,oo 12 (.alloc [(.int .u64 0)]),st 1 12 (t 47)]
def r_j_12:List CI:=[ln 50 3 7,ca 51 n_v [(t 50)],ln 49 3 7,mv 52 (t 1),ln 53 1 12,oo 54 (.makeFunc (.func n_H) [(t 53)] []),lo 1 (ca 55 n_f [(t 49),(i 0),(t 51),(t 52),(t 54)]),lo 2 (mv 48 (t 55)),lo 2 (ex 56 48 0),lo 2 (ex 57 48 1),lo 2 (mv 13 (t 56)),lo 2 (mv 14 (t 57))]
def r_j_13:List CI:=[mv 58 (t 14)]
def r_j_14:List CI:=[mv 15 (i 0)]
def r_j_15:List CI:=[mv 59 (t 13),le 60 (t 59),bi .gtr 61 (t 60) (i 0)]
def r_j_16:List CI:=[fa 62 0 7,fa 63 2 62,l 64 63,mv 65 (t 13),mv 66 (t 13),le 67 (t 66),bi .sub 68 (t 67) (i 1),ia 69 1 65 (t 68),l 70 69,ia 71 3 64 (t 70),fa 72 2 71,l 73 72,mv 15 (t 73)]
def r_j_17:List CI:=[mv 74 (t 13),ln 75 3 7,mv 76 (t 15),ln 77 1 12,mv 78 (t 1),ca 79 n_d [(t 75),(t 76),(t 77),(t 78),ff],mv 4 (t 74),mv 5 (t 79),mv 6 (i 0)]
def r_j_18:List CI:=[bi .add 80 (t 44) (i 1),mv 44 (t 80)]
def c_j_19:CC:=(.seq (.ops r_j_10) (bs [1,7,42,43,44,45]) (.seq (.cond (t 45) .skip (.exit 0)) (bs [1,7,42,43,44]) (.seq (.block 2 (.seq (.ops r_j_11) (bs [1,7,12,42,43,44]) (.seq (.draw r_j_12) (bs [1,7,12,13,14,42,43,44]) (.seq (.ops r_j_13) (bs [1,7,12,13,42,43,44,58]) (.cond (t 58) (.seq (.ops r_j_14) (bs [1,7,12,13,15]) (.seq (.seq (.ops r_j_15) (bs [1,7,12,13,15,61]) (.cond (t 61) (.draw r_j_16) .skip)) (bs [1,7,12,13,15]) (.seq (.ops r_j_17) (bs [4,5,6]) .ret))) .skip))))) (bs [1,7,42,43,44]) (.ops r_j_18))))
def r_j_20:List CI:=[mv 4 (.c (.slice none 0 0)),mv 5 (.c (.slice none 0 0)),mv 6 (i 5)]
def c_j:CC:=(.seq (.ops r_j_1) (bs [1,2]) (.seq (.seq (.ops r_j_2) (bs [1,2,19]) (.cond (t 19) (.seq (.ops r_j_3) (bs [4,5,6]) .ret) .skip)) (bs [1,2]) (.seq (.ops r_j_4) (bs [1,7]) (.seq (.seq (.draw r_j_5) (bs [1,7,8,9]) (.seq (.ops r_j_6) (bs [1,7,8,32]) (.cond (t 32) (.seq (.ops r_j_7) (bs [4,5,6]) .ret) .skip))) (bs [1,7]) (.seq (.draw r_j_8) (bs [1,7,10]) (.seq (.seq (.ops r_j_9) (bs [1,7,42,43,44]) (.block 0 (.loop (bs [1,7,42,43,44]) c_j_19))) [] (.seq (.ops r_j_20) (bs [4,5,6]) .ret)))))))
def f_j:zn:=⟨81,[.tmp (bits 4),.tmp (bits 5),.tmp (bits 6)],c_j,none,none⟩
def r_o_1:List CI:=[bx 1 (t 0),mv 2 (.c (.slice none 0 0)),mv 3 (i 0)]
def r_o_2:List CI:=[ln 12 3 1,ca 13 n_G [(t 12)],no 14 13]
def r_o_3:List CI:=[mv 2 (.c (.slice none 0 0)),mv 3 (i 2)]
def r_o_4:List CI:=[ln 15 3 1,oo 16 (.build [(iI 0),(iI 0),(.slice none 0 0)] [(0,3,(t 15))]),oo 4 (.alloc [(iI 0),(iI 0),(.slice none 0 0)]),st 3 4 (t 16)]
def r_o_5:List CI:=[ln 19 3 4,ca 20 n_v [(t 19)],ln 18 3 4,lo 1 (ca 21 n_a [(t 18),(t 20),(i (-1))]),lo 2 (mv 17 (t 21)),lo 2 (ex 22 17 0),lo 2 (ex 23 17 1),lo 2 (mv 5 (t 22)),lo 2 (mv 6 (t 23))]
def r_o_6:List CI:=[oo 24 (.makeMap),mv 7 (t 24)]
def r_o_7:List CI:=[mv 25 (t 5),le 26 (t 25),mv 27 (i 0)]
def r_o_8:List CI:=[bi .lss 28 (t 27) (t 26)]
def r_o_9:List CI:=[mv 29 (t 27),ia 30 1 25 (t 27),l 31 30,mv 8 (t 29),mv 9 (t 31)]
def r_o_10:List CI:=[mv 33 (t 7),mv 34 (t 9),oo 35 (.lookup .int (iI 0) true (t 33) (t 34)),mv 32 (t 35),ex 36 32 0,ex 37 32 1,mv 10 (t 36),mv 11 (t 37)]
def r_o_11:List CI:=[mv 38 (t 11),no 39 38]
def r_o_12:List CI:=[mv 40 (t 7),oo 41 (.blt .lenMap [(t 40)]),mv 10 (t 41)]
def r_o_13:List CI:=[mv 42 (t 7),mv 43 (t 9),mv 44 (t 10),on (.mapUpdate .int (t 42) (t 43) (t 44))]
def r_o_14:List CI:=[mv 45 (t 5),mv 46 (t 8),mv 47 (t 10),ia 48 1 45 (t 46),st 1 48 (t 47)]
def r_o_15:List CI:=[bi .add 49 (t 27) (i 1),mv 27 (t 49)]
def c_o_16:CC:=(.seq (.ops r_o_8) (bs [5,7,25,26,27,28]) (.seq (.cond (t 28) .skip (.exit 0)) (bs [5,7,25,26,27]) (.seq (.block 2 (.seq (.ops r_o_9) (bs [5,7,8,9,25,26,27]) (.seq (.ops r_o_10) (bs [5,7,8,9,10,11,25,26,27]) (.seq (.seq (.ops r_o_11) (bs [5,7,8,9,10,25,26,27,39]) (.cond (t 39) (.seq (.ops r_o_12) (bs [5,7,8,9,10,25,26,27]) (.ops r_o_13)) .skip)) (bs [5,7,8,10,25,26,27]) (.ops r_o_14))))) (bs [5,7,25,26,27]) (.ops r_o_15))))
def r_o_17:List CI:=[mv 50 (t 5),mv 2 (t 50),mv 3 (i 0)]
def c_o:CC:=(.seq (.ops r_o_1) (bs [1]) (.seq (.seq (.ops r_o_2) (bs [1,14]) (.cond (t 14) (.seq (.ops r_o_3) (bs [2,3]) .ret) .skip)) (bs [1]) (.seq (.ops r_o_4) (bs [4]) (.seq (.draw r_o_5) (bs [5]) (.seq (.ops r_o_6) (bs [5,7]) (.seq (.seq (.ops r_o_7) (bs [5,7,25,26,27]) (.block 0 (.loop (bs [5,7,25,26,27]) c_o_16))) (bs [5]) (.seq (.ops r_o_17) (bs [2,3]) .ret)))))))
def f_o:zn:=⟨51,[.tmp (bits 2),.tmp (bits 3)],c_o,none,none⟩
def r_p_1:List CI:=[bx 1 (t 0),mv 2 ff]
def r_p_2:List CI:=[fa 5 0 1,l 6 5,bi .lss 7 (t 6) (i 1),mv 8 (t 7),gu 8 false (fa 9 0 1),gu 8 false (l 10 9),gu 8 false (bi .gtr 11 (t 10) (i 60)),pk 12 (t 8) tt (t 11),mv 13 (t 12),gu 13 false (fa 14 1 1),gu 13 false (l 15 14),gu 13 false (bi .lss 16 (t 15) (i 0)),pk 17 (t 13) tt (t 16),mv 18 (t 17),gu 18 false (fa 19 1 1),gu 18 false (l 20 19),gu 18 false (bi .gtr 21 (t 20) (i 40)),pk 22 (t 18) tt (t 21),mv 23 (t 22),gu 23 false (fa 24 2 1),gu 23 false (l 25 24),gu 23 false (le 26 (t 25)),gu 23 false (bi .gtr 27 (t 26) (i 400)),pk 28 (t 23) tt (t 27)]
def r_p_3:List CI:=[mv 2 ff]
def r_p_4:List CI:=[fa 29 2 1,l 30 29,le 31 (t 30),mv 32 (i 0)]
def r_p_5:List CI:=[bi .lss 33 (t 32) (t 31)]
def r_p_6:List CI:=[mv 34 (t 32),ia 35 3 30 (t 32),ln 36 3 35,oo 4 (.alloc [(iI 0),(iI 0),(iI 0)]),mv 3 (t 34),st 3 4 (t 36)]
def r_p_7:List CI:=[fa 37 0 4,l 38 37,fa 39 2 4,l 40 39,fa 41 1 4,l 42 41,oo 43 (.blt .min [(t 38),(t 40),(t 42)]),bi .lss 44 (t 43) (i 0),mv 45 (t 44),gu 45 false (fa 46 0 4),gu 45 false (l 47 46),gu 45 false (fa 48 2 4),gu 45 false (l 49 48),gu 45 false (oo 50 (.blt .max [(t 47),(t 49)])),gu 45 false (fa 51 0 1),gu 45 false (l 52 51),gu 45 false (bi .geq 53 (t 50) (t 52)),pk 54 (t 45) tt (t 53),mv 55 (t 54),gu 55 false (fa 56 1 4),gu 55 false (l 57 56),gu 55 false (fa 58 1 1),gu 55 false (l 59 58),gu 55 false (bi .geq 60 (t 57) (t 59)),pk 61 (t 55) tt (t 60),mv 62 (t 61),gu 62 false (mv 63 (t 3)),gu 62 false (bi .gtr 64 (t 63) (i 0)),gu 62 false (mv 65 (t 64)),gu 65 true (fa 66 2 1),gu 65 true (l 67 66),gu 65 true (mv 68 (t 3)),gu 65 true (bi .sub 69 (t 68) (i 1)),gu 65 true (ia 70 3 67 (t 69)),gu 65 true (ln 71 3 70),gu 65 true (ln 72 3 4),gu 65 true (ca 73 n_t [(t 71),(t 72)]),lo 1 (gu 65 true (bi .geq 74 (t 73) (i 0))),lo 1 (gu 62 false (pk 75 (t 65) (t 74) ff)),lo 1 (pk 76 (t 62) tt (t 75))]
def r_p_8:List CI:=[mv 2 ff]
def r_p_9:List CI:=[bi .add 77 (t 32) (i 1),mv 32 (t 77)]
def c_p_10:CC:=(.seq (.ops r_p_5) (bs [1,30,31,32,33]) (.seq (.cond (t 33) .skip (.exit 0)) (bs [1,30,31,32]) (.seq (.block 2 (.seq (.ops r_p_6) (bs [1,3,4,30,31,32]) (.seq (.draw r_p_7) (bs [1,30,31,32,76]) (.cond (t 76) (.seq (.ops r_p_8) (bs [2]) .ret) .skip)))) (bs [1,30,31,32]) (.ops r_p_9))))
def r_p_11:List CI:=[mv 2 tt]
def c_p:CC:=(.seq (.ops r_p_1) (bs [1]) (.seq (.seq (.ops r_p_2) (bs [1,28]) (.cond (t 28) (.seq (.ops r_p_3) (bs [2]) .ret) .skip)) (bs [1]) (.seq (.seq (.ops r_p_4) (bs [1,30,31,32]) (.block 0 (.loop (bs [1,30,31,32]) c_p_10))) [] (.seq (.ops r_p_11) (bs [2]) .ret))))
def f_p:zn:=⟨78,[.tmp (bits 2)],c_p,none,none⟩
def r_y_1:List CI:=[mv 4 ff]
def r_y_2:List CI:=[mv 5 (t 0),mv 6 (t 1),ca 7 n_n [(t 5),(t 6)],bi .geq 8 (t 7) (i 0),mv 4 (t 8)]
def c_y:CC:=(.seq (.ops r_y_1) (bs [0,1]) (.seq (.ops r_y_2) (bs [4]) .ret))
def f_y:zn:=⟨9,[.tmp (bits 4)],c_y,none,none⟩
def r_q_1:List CI:=[mv 4 ff]
def r_q_2:List CI:=[mv 5 (t 0),mv 6 (t 1),ca 7 n_c [(t 5),(t 6)],bi .geq 8 (t 7) (i 0),mv 4 (t 8)]
def c_q:CC:=(.seq (.ops r_q_1) (bs [0,1]) (.seq (.ops r_q_2) (bs [4]) .ret))
def f_q:zn:=⟨9,[.tmp (bits 4)],c_q,none,none⟩
def r_l_1:List CI:=[mv 6 (.c (.slice none 0 0))]
def r_l_2:List CI:=[mv 11 (t 0),oo 12 (.makeSlice 1 8 [(iI 0)] (t 11) (t 11)),mv 7 (t 12)]
def r_l_3:List CI:=[mv 13 (t 7),le 14 (t 13),mv 15 (i 0)]
def r_l_4:List CI:=[bi .lss 16 (t 15) (t 14)]
def r_l_5:List CI:=[mv 17 (t 15),mv 8 (t 17)]
def r_l_6:List CI:=[mv 18 (t 7),mv 19 (t 8),mv 20 (t 8),ia 21 1 18 (t 19),st 1 21 (t 20)]
def r_l_7:List CI:=[bi .add 22 (t 15) (i 1),mv 15 (t 22)]
def c_l_8:CC:=(.seq (.ops r_l_4) (bs [0,1,2,7,14,15,16]) (.seq (.cond (t 16) .skip (.exit 0)) (bs [0,1,2,7,14,15]) (.seq (.block 2 (.seq (.ops r_l_5) (bs [0,1,2,7,8,14,15]) (.ops r_l_6))) (bs [0,1,2,7,14,15]) (.ops r_l_7))))
def r_l_9:List CI:=[mv 23 (t 1),bi .add 24 (t 23) (i 1),mv 9 (t 24)]
def r_l_10:List CI:=[mv 25 (t 9),mv 26 (t 0),bi .lss 27 (t 25) (t 26),mv 28 (t 27),gu 28 true (mv 29 (t 2)),gu 28 true (le 30 (t 29)),gu 28 true (bi .gtr 31 (t 30) (i 0)),pk 32 (t 28) (t 31) ff]
def r_l_11:List CI:=[mv 35 (t 1),mv 36 (t 2),mv 37 (t 9),mv 38 (t 2),le 39 (t 38),bi .rem 40 (t 37) (t 39),ia 41 1 36 (t 40),l 42 41,oo 43 (.conv .i64 (t 42)),mv 44 (t 9),mv 45 (t 1),bi .sub 46 (t 44) (t 45),bi .add 47 (t 46) (i 1),bi .rem 48 (t 43) (t 47),bi .add 49 (t 35) (t 48),mv 10 (t 49)]
def r_l_12:List CI:=[mv 50 (t 7),mv 51 (t 9),mv 54 (t 7),mv 55 (t 10),ia 56 1 54 (t 55),l 57 56,mv 58 (t 7),mv 59 (t 9),ia 60 1 58 (t 59),l 61 60,ia 62 1 50 (t 51),st 1 62 (t 57),mv 52 (t 7),mv 53 (t 10),lo 1 (ia 63 1 52 (t 53)),lo 1 (st 1 63 (t 61))]
def r_l_13:List CI:=[mv 33 (t 9),bi .add 34 (t 33) (i 1),mv 9 (t 34)]
def c_l_14:CC:=(.seq (.seq (.ops r_l_10) (bs [0,1,2,7,9,32]) (.cond (t 32) .skip (.exit 4))) (bs [0,1,2,7,9]) (.seq (.block 6 (.seq (.ops r_l_11) (bs [0,1,2,7,9,10]) (.draw r_l_12))) (bs [0,1,2,7,9]) (.ops r_l_13)))
def r_l_15:List CI:=[mv 64 (t 7),mv 6 (t 64)]
def c_l:CC:=(.seq (.ops r_l_1) (bs [0,1,2]) (.seq (.ops r_l_2) (bs [0,1,2,7]) (.seq (.seq (.ops r_l_3) (bs [0,1,2,7,14,15]) (.block 0 (.loop (bs [0,1,2,7,14,15]) c_l_8))) (bs [0,1,2,7]) (.seq (.seq (.ops r_l_9) (bs [0,1,2,7,9]) (.block 4 (.loop (bs [0,1,2,7,9]) c_l_14))) (bs [7]) (.seq (.ops r_l_15) (bs [6]) .ret)))))
def f_l:zn:=⟨65,[.tmp (bits 6)],c_l,none,none⟩
def r_t_1:List CI:=[bx 2 (t 0),bx 3 (t 1),mv 4 (i 0)]
def r_t_2:List CI:=[fa 5 0 2,l 6 5,fa 7 1 2,l 8 7,fa 9 2 2,l 10 9,oo 11 (.buildSlice 3 1 [(iI 0)] [(0,(t 6)),(1,(t 8)),(2,(t 10))]),fa 12 0 3,l 13 12,fa 14 1 3,l 15 14,fa 16 2 3,l 17 16,oo 18 (.buildSlice 3 1 [(iI 0)] [(0,(t 13)),(1,(t 15)),(2,(t 17))]),ca 19 n_e [(t 11),(t 18)],mv 4 (t 19)]
def c_t:CC:=(.seq (.ops r_t_1) (bs [2,3]) (.seq (.ops r_t_2) (bs [4]) .ret))
def f_t:zn:=⟨20,[.tmp (bits 4)],c_t,none,none⟩
def r_Z:List CI:=[bx 3 (t 0),mv 6 ff]
def r_L_2:List CI:=[ln 7 3 3,ca 8 n_G [(t 7)],mv 9 (t 8),gu 9 true (mv 10 (t 1)),gu 9 true (bi .geq 11 (t 10) (i 0)),pk 12 (t 9) (t 11) ff,mv 13 (t 12),gu 13 true (mv 14 (t 1)),gu 13 true (fa 15 1 3),gu 13 true (l 16 15),gu 13 true (bi .lss 17 (t 14) (t 16)),pk 18 (t 13) (t 17) ff,mv 19 (t 18),gu 19 true (mv 20 (t 2)),gu 19 true (oo 21 (.makeFunc (.func n_Z) [] [(t 3)])),gu 19 true (ca 22 n_y [(t 20),(t 21)]),gu 19 true (no 23 22),pk 24 (t 19) (t 23) ff,mv 6 (t 24)]
def c_L:CC:=(.seq (.ops r_Z) (bs [1,2,3]) (.seq (.ops r_L_2) (bs [6]) .ret))
def f_L:zn:=⟨25,[.tmp (bits 6)],c_L,none,none⟩
def r_m_1:List CI:=[bx 4 (t 0),bx 6 (t 2),bx 7 (t 3),oo 8 (.alloc [(.int .u64 0)])]
def r_m_2:List CI:=[oo 9 (.alloc [(.int .u64 0)])]
def r_m_3:List CI:=[mv 14 (t 1),ca 15 n_M [(t 9),(t 14)]]
def r_m_4:List CI:=[oo 16 (.build [(.int .u64 0)] []),oo 10 (.alloc [(.int .u64 0)]),st 1 10 (t 16)]
def r_m_5:List CI:=[ln 17 1 10,ln 18 1 9,oo 19 (.bin .neq (.leaves [0]) (t 17) (t 18))]
def r_m_6:List CI:=[ln 20 1 9,st 1 10 (t 20)]
def r_m_7:List CI:=[ln 21 1 10,ca 22 n_F [(t 21)]]
def r_m_8:List CI:=[mv 11 (t 23)]
def r_m_9:List CI:=[ln 24 3 4,mv 25 (t 11),ca 26 n_A [(t 24),(t 25)]]
def r_m_10:List CI:=[oo 13 (.alloc [(iI 0),(iI 0),(iI 0)]),st 3 13 (t 28)]
def r_m_11:List CI:=[fa 29 1 13,l 30 29,l 31 7,bi .neq 32 (t 30) (t 31),mv 33 (t 32),gu 33 true (ln 34 1 6),gu 33 true (fa 35 2 13),gu 33 true (l 36 35),gu 33 true (ca 37 n_H [(t 34),(t 36)]),pk 38 (t 33) (t 37) ff]
def r_m_12:List CI:=[fa 39 2 13,l 40 39,ca 41 n_M [(t 9),(t 40)]]
def c_m_13:CC:=(.ops r_m_10)
def zb3:CC:=(.block 10 (.seq (.ops r_m_11) (bs [9,13,38]) (.cond (t 38) (.ops r_m_12) .skip)))
def c_m_14:CC:=(.ops r_m_8)
def zcQ:CC:=(.block 6 (.seq (.ops r_m_9) (bs [6,7,9,26]) (.block 8 (.rangeFunc 0 (bs [6,7,9]) (t 26) (bs [27,28]) c_m_13 zb3))))
def r_m_15:List CI:=[ln 42 1 10]
def r_m_16:List CI:=[oo 10 (.alloc [(.int .u64 0)]),st 1 10 (t 42)]
def c_m_17:CC:=(.seq (.seq (.ops r_m_5) (bs [4,6,7,8,9,10,19]) (.cond (t 19) .skip (.exit 0))) (bs [4,6,7,8,9,10]) (.seq (.block 2 (.seq (.ops r_m_6) (bs [4,6,7,8,9,10]) (.seq (.ops r_m_7) (bs [4,6,7,8,9,10,22]) (.block 4 (.rangeFunc 0 (bs [4,6,7,9]) (t 22) (bs [23]) c_m_14 zcQ))))) (bs [4,6,7,8,9,10]) (.seq (.ops r_m_15) (bs [4,6,7,8,9,42]) (.ops r_m_16))))
def r_m_18:List CI:=[ln 43 1 9,st 1 8 (t 43)]
def c_m:CC:=(.seq (.ops r_m_1) (bs [1,4,6,7,8]) (.seq (.ops r_m_2) (bs [1,4,6,7,8,9]) (.seq (.ops r_m_3) (bs [4,6,7,8,9]) (.seq (.seq (.ops r_m_4) (bs [4,6,7,8,9,10]) (.block 0 (.loop (bs [4,6,7,8,9,10]) c_m_17))) (bs [8,9]) (.seq (.ops r_m_18) (bs [8]) .ret)))))
def f_m:zn:=⟨44,[.cell (some 1) (bits 8)],c_m,none,none⟩
def r_v_1:List CI:=[bx 1 (t 0),oo 2 (.alloc [(.int .u64 0)])]
def r_v_2:List CI:=[oo 3 (.alloc [(.int .u64 0)])]
def r_v_3:List CI:=[fa 5 0 1,fa 6 0 5,l 7 6,mv 8 (i 0)]
def r_v_4:List CI:=[bi .lss 9 (t 8) (t 7)]
def r_v_5:List CI:=[mv 10 (t 8),mv 4 (t 10)]
def r_v_6:List CI:=[mv 11 (t 4),ca 12 n_M [(t 3),(t 11)]]
def r_v_7:List CI:=[bi .add 13 (t 8) (i 1),mv 8 (t 13)]
def c_v_8:CC:=(.seq (.ops r_v_4) (bs [2,3,7,8,9]) (.seq (.cond (t 9) .skip (.exit 0)) (bs [2,3,7,8]) (.seq (.block 2 (.seq (.ops r_v_5) (bs [2,3,4,7,8]) (.ops r_v_6))) (bs [2,3,7,8]) (.ops r_v_7))))
def r_v_9:List CI:=[ln 14 1 3,st 1 2 (t 14)]
def c_v:CC:=(.seq (.ops r_v_1) (bs [1,2]) (.seq (.ops r_v_2) (bs [1,2,3]) (.seq (.seq (.ops r_v_3) (bs [2,3,7,8]) (.block 0 (.loop (bs [2,3,7,8]) c_v_8))) (bs [2,3]) (.seq (.ops r_v_9) (bs [2]) .ret))))
def f_v:zn:=⟨15,[.cell (some 1) (bits 2)],c_v,none,none⟩
def r_g_1:List CI:=[bx 4 (t 0),bx 5 (t 1),mv 8 (.c (.slice none 0 0))]
def r_g_2:List CI:=[ln 18 3 4,ln 19 1 5,mv 20 (t 2),ca 21 n_a [(t 18),(t 19),(t 20)],mv 17 (t 21),ex 22 17 0,ex 23 17 1,mv 9 (t 22),mv 10 (t 23)]
def r_g_3:List CI:=[mv 11 (.c (.slice none 0 0))]
def r_g_4:List CI:=[mv 24 (t 10),mv 25 (i 0)]
def r_g_5:List CI:=[bi .lss 26 (t 25) (t 24)]
def r_g_6:List CI:=[mv 27 (t 25),mv 12 (t 27)]
def r_g_7:List CI:=[oo 13 (.alloc [(.int .u64 0)])]
def r_g_8:List CI:=[mv 28 (t 9),le 29 (t 28),mv 30 (i 0)]
def r_g_9:List CI:=[bi .lss 31 (t 30) (t 29)]
def r_g_10:List CI:=[mv 32 (t 30),ia 33 1 28 (t 30),l 34 33,mv 14 (t 32),mv 15 (t 34)]
def r_g_11:List CI:=[mv 35 (t 15),mv 36 (t 12),bi .eql 37 (t 35) (t 36)]
def r_g_12:List CI:=[mv 38 (t 14),ca 39 n_M [(t 13),(t 38)]]
def r_g_13:List CI:=[bi .add 40 (t 30) (i 1),mv 30 (t 40)]
def c_g_14:CC:=(.seq (.ops r_g_9) (bs [2,3,4,9,11,12,13,24,25,28,29,30,31]) (.seq (.cond (t 31) .skip (.exit 4)) (bs [2,3,4,9,11,12,13,24,25,28,29,30]) (.seq (.block 6 (.seq (.ops r_g_10) (bs [2,3,4,9,11,12,13,14,15,24,25,28,29,30]) (.seq (.ops r_g_11) (bs [2,3,4,9,11,12,13,14,24,25,28,29,30,37]) (.cond (t 37) (.ops r_g_12) .skip)))) (bs [2,3,4,9,11,12,13,24,25,28,29,30]) (.ops r_g_13))))
def r_g_15:List CI:=[ln 41 3 4,ln 42 1 13,mv 43 (t 2),ca 44 n_z [(t 41),(t 42),(i (-1)),(t 43)],no 45 44]
def r_g_16:List CI:=[ln 46 3 4,ln 47 1 13,mv 48 (t 2),mv 49 (t 3),ca 50 n_r [(t 46),(t 47),(t 48),(t 49)],oo 16 (.alloc [(.int .u64 0)]),st 1 16 (t 50)]
def r_g_17:List CI:=[ln 52 1 16,ln 53 1 13,oo 54 (.bin .neq (.leaves [0]) (t 52) (t 53)),mv 51 (t 54)]
def r_g_18:List CI:=[mv 55 (t 11),ln 56 3 4,ln 57 1 16,mv 58 (t 2),mv 59 (t 3),ca 60 n_g [(t 56),(t 57),(t 58),(t 59)],ap 61 1 8 (t 55) (t 60),mv 11 (t 61)]
def r_g_19:List CI:=[mv 63 (t 3),no 64 63,mv 65 (t 64),gu 65 false (ln 66 3 4),gu 65 false (ln 67 1 13),gu 65 false (mv 68 (t 2)),gu 65 false (ca 69 n_x [(t 66),(t 67),(t 68)]),pk 70 (t 65) tt (t 69),mv 62 (t 70)]
def r_g_20:List CI:=[mv 71 (t 11),ln 72 1 13,oo 73 (.buildSlice 1 1 [(.int .u64 0)] [(0,(t 72))]),ap 74 1 8 (t 71) (t 73),mv 11 (t 74)]
def r_g_21:List CI:=[bi .add 75 (t 25) (i 1),mv 25 (t 75)]
def c_g_22:CC:=(.seq (.ops r_g_5) (bs [2,3,4,9,11,24,25,26]) (.seq (.cond (t 26) .skip (.exit 0)) (bs [2,3,4,9,11,24,25]) (.seq (.block 2 (.seq (.ops r_g_6) (bs [2,3,4,9,11,12,24,25]) (.seq (.ops r_g_7) (bs [2,3,4,9,11,12,13,24,25]) (.seq (.seq (.ops r_g_8) (bs [2,3,4,9,11,12,13,24,25,28,29,30]) (.block 4 (.loop (bs [2,3,4,9,11,12,13,24,25,28,29,30]) c_g_14))) (bs [2,3,4,9,11,13,24,25]) (.seq (.seq (.ops r_g_15) (bs [2,3,4,9,11,13,24,25,45]) (.cond (t 45) (.exit 2) .skip)) (bs [2,3,4,9,11,13,24,25]) (.seq (.ops r_g_16) (bs [2,3,4,9,11,13,16,24,25]) (.block 8 (.seq (.ops r_g_17) (bs [2,3,4,9,11,13,16,24,25,51]) (.cond (t 51) (.ops r_g_18) (.seq (.ops r_g_19) (bs [2,3,4,9,11,13,24,25,62]) (.cond (t 62) (.ops r_g_20) .skip))))))))))) (bs [2,3,4,9,11,24,25]) (.ops r_g_21))))
def r_g_23:List CI:=[mv 76 (t 11),mv 8 (t 76)]
def c_g:CC:=(.seq (.ops r_g_1) (bs [2,3,4,5]) (.seq (.ops r_g_2) (bs [2,3,4,9,10]) (.seq (.ops r_g_3) (bs [2,3,4,9,10,11]) (.seq (.seq (.ops r_g_4) (bs [2,3,4,9,11,24,25]) (.block 0 (.loop (bs [2,3,4,9,11,24,25]) c_g_22))) (bs [11]) (.seq (.ops r_g_23) (bs [8]) .ret)))))
def f_g:zn:=⟨77,[.tmp (bits 8)],c_g,none,none⟩
def r_O:List CI:=[bx 1 (t 0),mv 2 (.c .nilFunc)]
def r_F_2:List CI:=[oo 3 (.makeFunc (.func n_O) [] [(t 1)]),mv 2 (t 3)]
def c_F:CC:=(.seq (.ops r_O) (bs [1]) (.seq (.ops r_F_2) (bs [2]) .ret))
def f_F:zn:=⟨4,[.tmp (bits 2)],c_F,none,none⟩
def r_D:List CI:=[bx 5 (t 0),bx 6 (t 1),bx 7 (t 2),bx 8 (t 3),mv 10 (.c (.slice none 0 0))]
def r_W:List CI:=[oo 11 (.alloc [(.slice none 0 0)])]
def r_R:List CI:=[l 17 6,oo 12 (.alloc [(iI 0)]),st 1 12 (t 17)]
def r_X:List CI:=[oo 18 (.makeFunc (.func n_D) [] [(t 5),(t 12),(t 7),(t 8),(t 11)]),mv 13 (t 18)]
def r_d_5:List CI:=[oo 14 (.alloc [(.bool false),(.bool false),(.bool false),(.bool false),(.bool false),(.bool false),(.bool false),(.bool false),(.bool false),(.bool false),(.bool false),(.bool false),(.bool false),(.bool false),(.bool false),(.bool false),(.bool false),(.bool false),(.bool false),(.bool false),(.bool false),(.bool false),(.bool false),(.bool false),(.bool false),(.bool false),(.bool false),(.bool false),(.bool false),(.bool false),(.bool false),(.bool false),(.bool false),(.bool false),(.bool false),(.bool false),(.bool false),(.bool false),(.bool false),(.bool false)])]
def r_d_6:List CI:=[fa 19 0 5,fa 20 2 19,l 21 20,le 22 (t 21),mv 23 (i 0)]
def r_d_7:List CI:=[bi .lss 24 (t 23) (t 22)]
def r_d_8:List CI:=[mv 25 (t 23),ia 26 3 21 (t 23),ln 27 3 26,oo 16 (.alloc [(iI 0),(iI 0),(iI 0)]),mv 15 (t 25),st 3 16 (t 27)]
def r_d_9:List CI:=[fa 28 1 16,l 29 28,l 30 8,bi .eql 31 (t 29) (t 30),mv 32 (t 31),gu 32 false (fa 33 1 16),gu 32 false (l 34 33),gu 32 false (oo 35 (.indexArr 40 1 (t 14) (t 34))),gu 32 false (l 36 35),pk 37 (t 32) tt (t 36),mv 38 (t 37),gu 38 false (ln 39 1 7),gu 38 false (fa 40 0 16),gu 38 false (l 41 40),gu 38 false (ca 42 n_H [(t 39),(t 41)]),gu 38 false (no 43 42),pk 44 (t 38) tt (t 43),mv 45 (t 44),gu 45 false (ln 46 1 7),gu 45 false (fa 47 2 16),gu 45 false (l 48 47),gu 45 false (ca 49 n_H [(t 46),(t 48)]),gu 45 false (no 50 49),pk 51 (t 45) tt (t 50)]
def r_d_10:List CI:=[fa 52 1 16,l 53 52,oo 54 (.indexArr 40 1 (t 14) (t 53)),st 1 54 tt]
def r_d_11:List CI:=[mv 55 (t 13),oo 56 (.makeFunc (.func n_W) [] [(t 16)]),oo 57 (.call (t 55) [(t 56)])]
def r_d_12:List CI:=[l 58 11,mv 59 (t 15),oo 60 (.buildSlice 1 1 [(iI 0)] [(0,(t 59))]),ap 61 1 8 (t 58) (t 60),st 1 11 (t 61)]
def r_d_13:List CI:=[fa 62 2 16,l 63 62,st 1 12 (t 63)]
def r_d_14:List CI:=[bi .add 64 (t 23) (i 1),mv 23 (t 64)]
def c_d_15:CC:=(.seq (.ops r_d_7) (bs [4,5,6,7,8,11,12,13,14,21,22,23,24]) (.seq (.cond (t 24) .skip (.exit 0)) (bs [4,5,6,7,8,11,12,13,14,21,22,23]) (.seq (.block 2 (.seq (.ops r_d_8) (bs [4,5,6,7,8,11,12,13,14,15,16,21,22,23]) (.seq (.seq (.ops r_d_9) (bs [4,5,6,7,8,11,12,13,14,15,16,21,22,23,51]) (.cond (t 51) (.exit 2) .skip)) (bs [4,5,6,7,8,11,12,13,14,15,16,21,22,23]) (.seq (.ops r_d_10) (bs [4,5,6,7,8,11,12,13,14,15,16,21,22,23]) (.seq (.ops r_d_11) (bs [4,5,6,7,8,11,12,13,14,15,16,21,22,23]) (.seq (.ops r_d_12) (bs [4,5,6,7,8,11,12,13,14,16,21,22,23]) (.ops r_d_13))))))) (bs [4,5,6,7,8,11,12,13,14,21,22,23]) (.ops r_d_14))))
def r_d_16:List CI:=[mv 65 (t 4)]
def r_d_17:List CI:=[mv 66 (t 13),oo 67 (.makeFunc (.func n_R) [] [(t 5),(t 8)]),oo 68 (.call (t 66) [(t 67)])]
def r_d_18:List CI:=[mv 69 (t 13),oo 70 (.makeFunc (.func n_X) [] [(t 6)]),oo 71 (.call (t 69) [(t 70)])]
def r_d_19:List CI:=[l 72 11,mv 10 (t 72)]
def c_d:CC:=(.seq (.ops r_D) (bs [4,5,6,7,8]) (.seq (.ops r_W) (bs [4,5,6,7,8,11]) (.seq (.ops r_R) (bs [4,5,6,7,8,11,12]) (.seq (.ops r_X) (bs [4,5,6,7,8,11,12,13]) (.seq (.ops r_d_5) (bs [4,5,6,7,8,11,12,13,14]) (.seq (.seq (.ops r_d_6) (bs [4,5,6,7,8,11,12,13,14,21,22,23]) (.block 0 (.loop (bs [4,5,6,7,8,11,12,13,14,21,22,23]) c_d_15))) (bs [4,5,6,8,11,13]) (.seq (.seq (.ops r_d_16) (bs [5,6,8,11,13,65]) (.cond (t 65) (.ops r_d_17) .skip)) (bs [6,11,13]) (.seq (.ops r_d_18) (bs [11]) (.seq (.ops r_d_19) (bs [10]) .ret)))))))))
def f_d:zn:=⟨73,[.tmp (bits 10)],c_d,none,none⟩
def r_f_1:List CI:=[bx 5 (t 0),bx 7 (t 2),bx 8 (t 3),mv 10 (.c (.slice none 0 0)),mv 11 ff]
def r_f_2:List CI:=[oo 19 (.buildSlice 1 1 [(iI 0)] [(0,(i (-1)))]),fa 20 0 5,fa 21 0 20,l 22 21,ca 23 n_k [(t 19),(t 22)],oo 12 (.alloc [(.slice none 0 0)]),st 1 12 (t 23)]
def r_f_3:List CI:=[oo 13 (.alloc [(.int .u64 0)])]
def r_f_4:List CI:=[mv 24 (t 1),ca 25 n_M [(t 13),(t 24)]]
def r_f_5:List CI:=[mv 26 (t 1),oo 27 (.buildSlice 1 1 [(iI 0)] [(0,(t 26))]),oo 14 (.alloc [(.slice none 0 0)]),st 1 14 (t 27)]
def r_f_6:List CI:=[l 28 14,le 29 (t 28),bi .gtr 30 (t 29) (i 0)]
def r_f_7:List CI:=[l 31 14,ia 32 1 31 (i 0),l 33 32,mv 15 (t 33)]
def r_f_8:List CI:=[l 34 14,oo 35 (.slice 1 (t 34) (some (i 1)) none),st 1 14 (t 35)]
def r_f_9:List CI:=[mv 36 (t 4),mv 37 (t 15),oo 38 (.call (t 36) [(t 37)])]
def r_f_10:List CI:=[mv 16 (.c (.slice none 0 0))]
def r_f_11:List CI:=[mv 39 (t 15),mv 40 (t 1),bi .neq 41 (t 39) (t 40)]
def r_f_12:List CI:=[mv 52 (t 16),l 53 12,mv 54 (t 15),ia 55 1 53 (t 54),l 56 55,oo 57 (.buildSlice 1 1 [(iI 0)] [(0,(t 56))]),ap 58 1 8 (t 52) (t 57),mv 16 (t 58)]
def r_f_13:List CI:=[fa 42 0 5,fa 43 2 42,l 44 43,l 45 12,mv 46 (t 15),ia 47 1 45 (t 46),l 48 47,ia 49 3 44 (t 48),fa 50 0 49,l 51 50,mv 15 (t 51)]
def c_f_14:CC:=(.seq (.seq (.ops r_f_11) (bs [1,5,12,15,16,41]) (.cond (t 41) .skip (.exit 4))) (bs [1,5,12,15,16]) (.seq (.block 6 (.ops r_f_12)) (bs [1,5,12,15,16]) (.draw r_f_13)))
def r_f_15:List CI:=[mv 59 (t 16),ca 60 n_u [(t 59)]]
def r_f_16:List CI:=[mv 61 (t 16),mv 10 (t 61),mv 11 tt]
def r_f_17:List CI:=[ln 62 3 5,mv 63 (t 15),ca 64 n_A [(t 62),(t 63)]]
def r_f_18:List CI:=[mv 17 (t 65)]
def r_f_19:List CI:=[oo 18 (.alloc [(iI 0),(iI 0),(iI 0)]),st 3 18 (t 66)]
def r_f_20:List CI:=[fa 67 1 18,l 68 67,l 69 8,bi .neq 70 (t 68) (t 69),mv 71 (t 70),gu 71 true (ln 72 1 7),gu 71 true (fa 73 2 18),gu 71 true (l 74 73),gu 71 true (ca 75 n_H [(t 72),(t 74)]),pk 76 (t 71) (t 75) ff,mv 77 (t 76),gu 77 true (ln 78 1 13),gu 77 true (fa 79 2 18),gu 77 true (l 80 79),gu 77 true (ca 81 n_H [(t 78),(t 80)]),gu 77 true (no 82 81),pk 83 (t 77) (t 82) ff]
def r_f_21:List CI:=[fa 84 2 18,l 85 84,ca 86 n_M [(t 13),(t 85)]]
def r_f_22:List CI:=[l 87 12,fa 88 2 18,l 89 88,mv 90 (t 17),ia 91 1 87 (t 89),st 1 91 (t 90)]
def r_f_23:List CI:=[l 92 14,fa 93 2 18,l 94 93,oo 95 (.buildSlice 1 1 [(iI 0)] [(0,(t 94))]),ap 96 1 8 (t 92) (t 95),st 1 14 (t 96)]
def c_f_24:CC:=(.seq (.ops r_f_18) (bs [7,8,12,13,14,17,66]) (.ops r_f_19))
def zcf:CC:=(.block 10 (.seq (.ops r_f_20) (bs [12,13,14,17,18,83]) (.cond (t 83) (.seq (.ops r_f_21) (bs [12,14,17,18]) (.seq (.ops r_f_22) (bs [14,18]) (.ops r_f_23))) .skip)))
def c_f_25:CC:=(.seq (.seq (.ops r_f_6) (bs [1,4,5,7,8,10,11,12,13,14,30]) (.cond (t 30) .skip (.exit 0))) (bs [1,4,5,7,8,10,11,12,13,14]) (.block 2 (.seq (.ops r_f_7) (bs [1,4,5,7,8,10,11,12,13,14,15]) (.seq (.ops r_f_8) (bs [1,4,5,7,8,10,11,12,13,14,15]) (.seq (.seq (.ops r_f_9) (bs [1,4,5,7,8,10,11,12,13,14,15,38]) (.cond (t 38) (.seq (.ops r_f_10) (bs [1,5,12,15,16]) (.seq (.block 4 (.loop (bs [1,5,12,15,16]) c_f_14)) (bs [16]) (.seq (.ops r_f_15) (bs [16]) (.seq (.ops r_f_16) (bs [10,11]) .ret)))) .skip)) (bs [1,4,5,7,8,10,11,12,13,14,15]) (.seq (.ops r_f_17) (bs [1,4,5,7,8,10,11,12,13,14,64]) (.block 8 (.rangeFunc 0 (bs [7,8,12,13,14]) (t 64) (bs [65,66]) c_f_24 zcf))))))))
def r_f_26:List CI:=[mv 10 (.c (.slice none 0 0)),mv 11 ff]
def c_f:CC:=(.seq (.ops r_f_1) (bs [1,4,5,7,8,10,11]) (.seq (.ops r_f_2) (bs [1,4,5,7,8,10,11,12]) (.seq (.ops r_f_3) (bs [1,4,5,7,8,10,11,12,13]) (.seq (.ops r_f_4) (bs [1,4,5,7,8,10,11,12,13]) (.seq (.ops r_f_5) (bs [1,4,5,7,8,10,11,12,13,14]) (.seq (.block 0 (.loop (bs [1,4,5,7,8,10,11,12,13,14]) c_f_25)) [] (.seq (.ops r_f_26) (bs [10,11]) .ret)))))))
def f_f:zn:=⟨97,[.tmp (bits 10),.tmp (bits 11)],c_f,none,none⟩
def r_C_1:List CI:=[bx 2 (t 0),oo 4 (.alloc [(.bool false)])]
def r_C_2:List CI:=[ln 5 3 2,mv 6 (t 1),ca 7 n_A [(t 5),(t 6)]]
def r_C_3:List CI:=[st 1 4 ff]
def c_C_4:CC:=.skip
def zbu:CC:=(.block 2 (.seq (.ops r_C_3) [] .ret))
def r_C_5:List CI:=[st 1 4 tt]
def c_C:CC:=(.seq (.ops r_C_1) (bs [1,2,4]) (.seq (.seq (.ops r_C_2) (bs [4,7]) (.block 0 (.rangeFunc 0 (bs [4]) (t 7) (bs [8,9]) c_C_4 zbu))) (bs [4]) (.seq (.ops r_C_5) (bs [4]) .ret)))
def f_C:zn:=⟨10,[.cell none (bits 4)],c_C,none,none⟩
def r_H_1:List CI:=[bx 2 (t 0),mv 4 ff]
def r_H_2:List CI:=[mv 5 (t 1),bi .quo 6 (t 5) (i 64),oo 7 (.indexArr 1 1 (t 2) (t 6)),l 8 7,mv 9 (t 1),bi .rem 10 (t 9) (i 64),bi .shr 11 (t 8) (t 10),bi .and 12 (t 11) (.c (.int .u64 1)),bi .eql 13 (t 12) (.c (.int .u64 1)),mv 4 (t 13)]
def c_H:CC:=(.seq (.ops r_H_1) (bs [1,2]) (.seq (.ops r_H_2) (bs [4]) .ret))
def f_H:zn:=⟨14,[.tmp (bits 4)],c_H,none,none⟩
def r_T:List CI:=[bx 3 (t 0),bx 4 (t 1),bx 5 (t 2),mv 6 ff]
def r_x_2:List CI:=[fa 7 0 3,fa 8 2 7,l 9 8,oo 10 (.makeFunc (.func n_T) [] [(t 4),(t 5)]),ca 11 n_q [(t 9),(t 10)],mv 6 (t 11)]
def c_x:CC:=(.seq (.ops r_T) (bs [3,4,5]) (.seq (.ops r_x_2) (bs [6]) .ret))
def f_x:zn:=⟨12,[.tmp (bits 6)],c_x,none,none⟩
def r_G_1:List CI:=[bx 1 (t 0),mv 2 ff]
def r_G_2:List CI:=[fa 5 0 1,l 6 5,bi .lss 7 (t 6) (i 1),mv 8 (t 7),gu 8 false (fa 9 0 1),gu 8 false (l 10 9),gu 8 false (bi .gtr 11 (t 10) (i 60)),pk 12 (t 8) tt (t 11),mv 13 (t 12),gu 13 false (fa 14 1 1),gu 13 false (l 15 14),gu 13 false (bi .lss 16 (t 15) (i 0)),pk 17 (t 13) tt (t 16),mv 18 (t 17),gu 18 false (fa 19 1 1),gu 18 false (l 20 19),gu 18 false (bi .gtr 21 (t 20) (i 40)),pk 22 (t 18) tt (t 21),mv 23 (t 22),gu 23 false (fa 24 2 1),gu 23 false (l 25 24),gu 23 false (le 26 (t 25)),gu 23 false (bi .gtr 27 (t 26) (i 400)),pk 28 (t 23) tt (t 27)]
def r_G_3:List CI:=[mv 2 ff]
def r_G_4:List CI:=[fa 29 2 1,l 30 29,le 31 (t 30),mv 32 (i 0)]
def r_G_5:List CI:=[bi .lss 33 (t 32) (t 31)]
def r_G_6:List CI:=[mv 34 (t 32),ia 35 3 30 (t 32),ln 36 3 35,oo 4 (.alloc [(iI 0),(iI 0),(iI 0)]),mv 3 (t 34),st 3 4 (t 36)]
def r_G_7:List CI:=[fa 37 0 4,l 38 37,bi .lss 39 (t 38) (i 0),mv 40 (t 39),gu 40 false (fa 41 0 4),gu 40 false (l 42 41),gu 40 false (fa 43 0 1),gu 40 false (l 44 43),gu 40 false (bi .geq 45 (t 42) (t 44)),pk 46 (t 40) tt (t 45),mv 47 (t 46),gu 47 false (fa 48 2 4),gu 47 false (l 49 48),gu 47 false (bi .lss 50 (t 49) (i 0)),pk 51 (t 47) tt (t 50),mv 52 (t 51),gu 52 false (fa 53 2 4),gu 52 false (l 54 53),gu 52 false (fa 55 0 1),gu 52 false (l 56 55),gu 52 false (bi .geq 57 (t 54) (t 56)),pk 58 (t 52) tt (t 57),mv 59 (t 58),gu 59 false (fa 60 1 4),gu 59 false (l 61 60),gu 59 false (bi .lss 62 (t 61) (i 0)),pk 63 (t 59) tt (t 62),mv 64 (t 63),gu 64 false (fa 65 1 4),gu 64 false (l 66 65),gu 64 false (fa 67 1 1),gu 64 false (l 68 67),gu 64 false (bi .geq 69 (t 66) (t 68)),pk 70 (t 64) tt (t 69),mv 71 (t 70),gu 71 false (mv 72 (t 3)),gu 71 false (bi .gtr 73 (t 72) (i 0)),gu 71 false (mv 74 (t 73)),gu 74 true (fa 75 2 1),gu 74 true (l 76 75),gu 74 true (mv 77 (t 3)),gu 74 true (bi .sub 78 (t 77) (i 1)),gu 74 true (ia 79 3 76 (t 78)),gu 74 true (ln 80 3 79),gu 74 true (ln 81 3 4),gu 74 true (ca 82 n_S [(t 80),(t 81)]),lo 1 (gu 74 true (bi .geq 83 (t 82) (i 0))),lo 1 (gu 71 false (pk 84 (t 74) (t 83) ff)),lo 1 (pk 85 (t 71) tt (t 84))]
def r_G_8:List CI:=[mv 2 ff]
def r_G_9:List CI:=[bi .add 86 (t 32) (i 1),mv 32 (t 86)]
def c_G_10:CC:=(.seq (.ops r_G_5) (bs [1,30,31,32,33]) (.seq (.cond (t 33) .skip (.exit 0)) (bs [1,30,31,32]) (.seq (.block 2 (.seq (.ops r_G_6) (bs [1,3,4,30,31,32]) (.seq (.draw r_G_7) (bs [1,30,31,32,85]) (.cond (t 85) (.seq (.ops r_G_8) (bs [2]) .ret) .skip)))) (bs [1,30,31,32]) (.ops r_G_9))))
def r_G_11:List CI:=[mv 2 tt]
def c_G:CC:=(.seq (.ops r_G_1) (bs [1]) (.seq (.seq (.ops r_G_2) (bs [1,28]) (.cond (t 28) (.seq (.ops r_G_3) (bs [2]) .ret) .skip)) (bs [1]) (.seq (.seq (.ops r_G_4) (bs [1,30,31,32]) (.block 0 (.loop (bs [1,30,31,32]) c_G_10))) [] (.seq (.ops r_G_11) (bs [2]) .ret))))
def f_G:zn:=⟨87,[.tmp (bits 2)],c_G,none,none⟩
def r_a_1:List CI:=[bx 3 (t 0),bx 4 (t 1),bx 5 (t 2),mv 6 (.c (.slice none 0 0)),mv 7 (i 0)]
def r_a_2:List CI:=[oo 21 (.buildSlice 1 1 [(iI 0)] [(0,(i (-1)))]),fa 22 0 3,fa 23 0 22,l 24 23,ca 25 n_k [(t 21),(t 24)],oo 8 (.alloc [(.slice none 0 0)]),st 1 8 (t 25)]
def r_a_3:List CI:=[fa 26 0 3,fa 27 0 26,l 28 27,oo 29 (.makeSlice 2 16 [(iI 0),(iI 0)] (t 28) (t 28)),oo 9 (.alloc [(.slice none 0 0)]),st 1 9 (t 29)]
def r_a_4:List CI:=[oo 10 (.alloc [(.slice none 0 0)]),oo 11 (.alloc [(.slice none 0 0)])]
def r_a_5:List CI:=[fa 30 0 3,fa 31 0 30,l 32 31,oo 33 (.makeSlice 1 8 [(iI 0)] (t 32) (t 32)),oo 12 (.alloc [(.slice none 0 0)]),st 1 12 (t 33)]
def r_a_6:List CI:=[oo 13 (.alloc [(iI 0)]),oo 14 (.alloc [(iI 0)]),st 1 13 (i 0),st 1 14 (i 0)]
def r_a_7:List CI:=[oo 15 (.alloc [(iI 0)]),oo 16 (.alloc [(iI 0)])]
def r_a_8:List CI:=[ln 34 1 4,ca 35 n_F [(t 34)]]
def r_a_9:List CI:=[mv 17 (t 36)]
def zi2:List CI:=[l 37 9,mv 38 (t 17),ia 39 2 37 (t 38),fa 40 0 39,l 41 40,bi .gtr 42 (t 41) (i 0)]
def zi1:List CI:=[mv 43 (t 17),st 1 15 (t 43)]
def zlv:List CI:=[l 44 13,bi .add 45 (t 44) (i 1),st 1 13 (t 45)]
def zlu:List CI:=[l 46 9,l 47 15,l 48 13,l 49 13,oo 50 (.build [(iI 0),(iI 0)] [(0,1,(t 48)),(1,1,(t 49))]),ia 51 2 46 (t 47),st 2 51 (t 50)]
def zlt:List CI:=[l 52 10,l 53 15,oo 54 (.buildSlice 1 1 [(iI 0)] [(0,(t 53))]),ap 55 1 8 (t 52) (t 54),st 1 10 (t 55)]
def zls:List CI:=[l 56 11,l 57 15,oo 58 (.buildSlice 1 1 [(iI 0)] [(0,(t 57))]),ap 59 1 8 (t 56) (t 58),st 1 11 (t 59)]
def zlr:List CI:=[l 60 12,l 61 15,ia 62 1 60 (t 61),l 63 62,fa 64 0 3,fa 65 2 64,l 66 65,le 67 (t 66),bi .lss 68 (t 63) (t 67)]
def zlq:List CI:=[fa 75 0 3,fa 76 2 75,l 77 76,l 78 12,l 79 15,ia 80 1 78 (t 79),l 81 80,ia 82 3 77 (t 81),ln 83 3 82,oo 18 (.alloc [(iI 0),(iI 0),(iI 0)]),st 3 18 (t 83)]
def zlp:List CI:=[fa 84 0 18,l 85 84,l 86 15,bi .neq 87 (t 85) (t 86),mv 88 (t 87),gu 88 false (fa 89 1 18),gu 88 false (l 90 89),gu 88 false (l 91 5),gu 88 false (bi .eql 92 (t 90) (t 91)),pk 93 (t 88) tt (t 92),mv 94 (t 93),gu 94 false (ln 95 1 4),gu 94 false (fa 96 2 18),gu 94 false (l 97 96),gu 94 false (ca 98 n_H [(t 95),(t 97)]),gu 94 false (no 99 98),pk 100 (t 94) tt (t 99)]
def zlo:List CI:=[l 101 9,fa 102 2 18,l 103 102,ia 104 2 101 (t 103),fa 105 0 104,l 106 105,bi .eql 107 (t 106) (i 0)]
def zln:List CI:=[fa 108 2 18,l 109 108,st 1 15 (t 109)]
def zlm:List CI:=[l 110 8,fa 111 2 18,l 112 111,ia 113 1 110 (t 112),l 114 113,bi .lss 115 (t 114) (i 0)]
def zll:List CI:=[l 116 9,l 117 15,l 118 9,l 119 15,ia 120 2 118 (t 119),fa 121 1 120,l 122 121,l 123 9,fa 124 2 18,l 125 124,ia 126 2 123 (t 125),fa 127 1 126,l 128 127,oo 129 (.blt .min [(t 122),(t 128)]),ia 130 2 116 (t 117),fa 131 1 130,st 1 131 (t 129)]
def zlk:List CI:=[l 69 12,l 70 15,ia 71 1 69 (t 70),l 72 71,bi .add 73 (t 72) (i 1),ia 74 1 69 (t 70),st 1 74 (t 73)]
def c_a_24:CC:=(.seq (.seq (.draw zlr) (bs [3,4,5,8,9,10,11,12,13,14,15,16,68]) (.cond (t 68) .skip (.exit 4))) (bs [3,4,5,8,9,10,11,12,13,14,15,16]) (.seq (.block 6 (.seq (.draw zlq) (bs [3,4,5,8,9,10,11,12,13,14,15,16,18]) (.seq (.seq (.ops zlp) (bs [3,4,5,8,9,10,11,12,13,14,15,16,18,100]) (.cond (t 100) (.exit 6) .skip)) (bs [3,4,5,8,9,10,11,12,13,14,15,16,18]) (.seq (.seq (.ops zlo) (bs [3,4,5,8,9,10,11,12,13,14,15,16,18,107]) (.cond (t 107) (.seq (.ops zln) (bs [3,4,5,8,9,10,11,12,13,14,15,16]) (.exit 1)) .skip)) (bs [3,4,5,8,9,10,11,12,13,14,15,16,18]) (.seq (.ops zlm) (bs [3,4,5,8,9,10,11,12,13,14,15,16,18,115]) (.cond (t 115) (.draw zll) .skip)))))) (bs [3,4,5,8,9,10,11,12,13,14,15,16]) (.ops zlk)))
def zlj:List CI:=[l 132 10,l 133 10,le 134 (t 133),bi .sub 135 (t 134) (i 1),oo 136 (.slice 1 (t 132) none (some (t 135))),st 1 10 (t 136)]
def zli:List CI:=[l 137 9,l 138 15,ia 139 2 137 (t 138),fa 140 1 139,l 141 140,l 142 9,l 143 15,ia 144 2 142 (t 143),fa 145 0 144,l 146 145,bi .eql 147 (t 141) (t 146)]
def zlh:List CI:=[l 148 11,l 149 15,ca 150 n_h [(t 148),(t 149)],st 1 16 (t 150)]
def zlg:List CI:=[l 151 11,l 152 16,oo 153 (.slice 1 (t 151) (some (t 152)) none),le 154 (t 153),mv 155 (i 0)]
def zlf:List CI:=[bi .lss 156 (t 155) (t 154)]
def zle:List CI:=[ia 157 1 153 (t 155),l 158 157,mv 20 (t 158)]
def zld:List CI:=[l 159 8,mv 160 (t 20),l 161 14,ia 162 1 159 (t 160),st 1 162 (t 161)]
def zlc:List CI:=[bi .add 163 (t 155) (i 1),mv 155 (t 163)]
def c_a_33:CC:=(.seq (.ops zlf) (bs [3,4,5,8,9,10,11,12,13,14,15,16,153,154,155,156]) (.seq (.cond (t 156) .skip (.exit 8)) (bs [3,4,5,8,9,10,11,12,13,14,15,16,153,154,155]) (.seq (.block 10 (.seq (.ops zle) (bs [3,4,5,8,9,10,11,12,13,14,15,16,20,153,154,155]) (.ops zld))) (bs [3,4,5,8,9,10,11,12,13,14,15,16,153,154,155]) (.ops zlc))))
def zlb:List CI:=[l 164 11,l 165 16,oo 166 (.slice 1 (t 164) none (some (t 165))),st 1 11 (t 166)]
def zla:List CI:=[l 167 14,bi .add 168 (t 167) (i 1),st 1 14 (t 168)]
def zk9:List CI:=[l 169 10,le 170 (t 169),bi .gtr 171 (t 170) (i 0)]
def zk8:List CI:=[l 172 10,l 173 10,le 174 (t 173),bi .sub 175 (t 174) (i 1),ia 176 1 172 (t 175),l 177 176,st 1 15 (t 177)]
def zi0:List CI:=[l 44 13,bi .add 45 (t 44) (i 1),st 1 13 (t 45)]
def ziZ:List CI:=[l 46 9,l 47 15,l 48 13,l 49 13,oo 50 (.build [(iI 0),(iI 0)] [(0,1,(t 48)),(1,1,(t 49))]),ia 51 2 46 (t 47),st 2 51 (t 50)]
def ziY:List CI:=[l 52 10,l 53 15,oo 54 (.buildSlice 1 1 [(iI 0)] [(0,(t 53))]),ap 55 1 8 (t 52) (t 54),st 1 10 (t 55)]
def ziX:List CI:=[l 56 11,l 57 15,oo 58 (.buildSlice 1 1 [(iI 0)] [(0,(t 57))]),ap 59 1 8 (t 56) (t 58),st 1 11 (t 59)]
def zk7:List CI:=[l 60 12,l 61 15,ia 62 1 60 (t 61),l 63 62,fa 64 0 3,fa 65 2 64,l 66 65,le 67 (t 66),bi .lss 68 (t 63) (t 67)]
def zk6:List CI:=[fa 75 0 3,fa 76 2 75,l 77 76,l 78 12,l 79 15,ia 80 1 78 (t 79),l 81 80,ia 82 3 77 (t 81),ln 83 3 82,oo 18 (.alloc [(iI 0),(iI 0),(iI 0)]),st 3 18 (t 83)]
def zk5:List CI:=[fa 84 0 18,l 85 84,l 86 15,bi .neq 87 (t 85) (t 86),mv 88 (t 87),gu 88 false (fa 89 1 18),gu 88 false (l 90 89),gu 88 false (l 91 5),gu 88 false (bi .eql 92 (t 90) (t 91)),pk 93 (t 88) tt (t 92),mv 94 (t 93),gu 94 false (ln 95 1 4),gu 94 false (fa 96 2 18),gu 94 false (l 97 96),gu 94 false (ca 98 n_H [(t 95),(t 97)]),gu 94 false (no 99 98),pk 100 (t 94) tt (t 99)]
def zk4:List CI:=[l 101 9,fa 102 2 18,l 103 102,ia 104 2 101 (t 103),fa 105 0 104,l 106 105,bi .eql 107 (t 106) (i 0)]
def zk3:List CI:=[fa 108 2 18,l 109 108,st 1 15 (t 109)]
def zk2:List CI:=[l 110 8,fa 111 2 18,l 112 111,ia 113 1 110 (t 112),l 114 113,bi .lss 115 (t 114) (i 0)]
def zk1:List CI:=[l 116 9,l 117 15,l 118 9,l 119 15,ia 120 2 118 (t 119),fa 121 1 120,l 122 121,l 123 9,fa 124 2 18,l 125 124,ia 126 2 123 (t 125),fa 127 1 126,l 128 127,oo 129 (.blt .min [(t 122),(t 128)]),ia 130 2 116 (t 117),fa 131 1 130,st 1 131 (t 129)]
def zk0:List CI:=[l 69 12,l 70 15,ia 71 1 69 (t 70),l 72 71,bi .add 73 (t 72) (i 1),ia 74 1 69 (t 70),st 1 74 (t 73)]
def c_a_50:CC:=(.seq (.seq (.draw zk7) (bs [3,4,5,8,9,10,11,12,13,14,15,16,68]) (.cond (t 68) .skip (.exit 4))) (bs [3,4,5,8,9,10,11,12,13,14,15,16]) (.seq (.block 6 (.seq (.draw zk6) (bs [3,4,5,8,9,10,11,12,13,14,15,16,18]) (.seq (.seq (.ops zk5) (bs [3,4,5,8,9,10,11,12,13,14,15,16,18,100]) (.cond (t 100) (.exit 6) .skip)) (bs [3,4,5,8,9,10,11,12,13,14,15,16,18]) (.seq (.seq (.ops zk4) (bs [3,4,5,8,9,10,11,12,13,14,15,16,18,107]) (.cond (t 107) (.seq (.ops zk3) (bs [3,4,5,8,9,10,11,12,13,14,15,16]) (.exit 1)) .skip)) (bs [3,4,5,8,9,10,11,12,13,14,15,16,18]) (.seq (.ops zk2) (bs [3,4,5,8,9,10,11,12,13,14,15,16,18,115]) (.cond (t 115) (.draw zk1) .skip)))))) (bs [3,4,5,8,9,10,11,12,13,14,15,16]) (.ops zk0)))
def zkZ:List CI:=[l 132 10,l 133 10,le 134 (t 133),bi .sub 135 (t 134) (i 1),oo 136 (.slice 1 (t 132) none (some (t 135))),st 1 10 (t 136)]
def zkY:List CI:=[l 137 9,l 138 15,ia 139 2 137 (t 138),fa 140 1 139,l 141 140,l 142 9,l 143 15,ia 144 2 142 (t 143),fa 145 0 144,l 146 145,bi .eql 147 (t 141) (t 146)]
def zkX:List CI:=[l 148 11,l 149 15,ca 150 n_h [(t 148),(t 149)],st 1 16 (t 150)]
def zkW:List CI:=[l 151 11,l 152 16,oo 153 (.slice 1 (t 151) (some (t 152)) none),le 154 (t 153),mv 155 (i 0)]
def zkV:List CI:=[bi .lss 156 (t 155) (t 154)]
def zkU:List CI:=[ia 157 1 153 (t 155),l 158 157,mv 20 (t 158)]
def zkT:List CI:=[l 159 8,mv 160 (t 20),l 161 14,ia 162 1 159 (t 160),st 1 162 (t 161)]
def zkS:List CI:=[bi .add 163 (t 155) (i 1),mv 155 (t 163)]
def c_a_59:CC:=(.seq (.ops zkV) (bs [3,4,5,8,9,10,11,12,13,14,15,16,153,154,155,156]) (.seq (.cond (t 156) .skip (.exit 8)) (bs [3,4,5,8,9,10,11,12,13,14,15,16,153,154,155]) (.seq (.block 10 (.seq (.ops zkU) (bs [3,4,5,8,9,10,11,12,13,14,15,16,20,153,154,155]) (.ops zkT))) (bs [3,4,5,8,9,10,11,12,13,14,15,16,153,154,155]) (.ops zkS))))
def zkR:List CI:=[l 164 11,l 165 16,oo 166 (.slice 1 (t 164) none (some (t 165))),st 1 11 (t 166)]
def zkQ:List CI:=[l 167 14,bi .add 168 (t 167) (i 1),st 1 14 (t 168)]
def zkP:List CI:=[l 169 10,le 170 (t 169),bi .gtr 171 (t 170) (i 0)]
def zkO:List CI:=[l 172 10,l 173 10,le 174 (t 173),bi .sub 175 (t 174) (i 1),ia 176 1 172 (t 175),l 177 176,st 1 15 (t 177)]
def zkN:List CI:=[l 60 12,l 61 15,ia 62 1 60 (t 61),l 63 62,fa 64 0 3,fa 65 2 64,l 66 65,le 67 (t 66),bi .lss 68 (t 63) (t 67)]
def zkM:List CI:=[fa 75 0 3,fa 76 2 75,l 77 76,l 78 12,l 79 15,ia 80 1 78 (t 79),l 81 80,ia 82 3 77 (t 81),ln 83 3 82,oo 18 (.alloc [(iI 0),(iI 0),(iI 0)]),st 3 18 (t 83)]
def zkL:List CI:=[fa 84 0 18,l 85 84,l 86 15,bi .neq 87 (t 85) (t 86),mv 88 (t 87),gu 88 false (fa 89 1 18),gu 88 false (l 90 89),gu 88 false (l 91 5),gu 88 false (bi .eql 92 (t 90) (t 91)),pk 93 (t 88) tt (t 92),mv 94 (t 93),gu 94 false (ln 95 1 4),gu 94 false (fa 96 2 18),gu 94 false (l 97 96),gu 94 false (ca 98 n_H [(t 95),(t 97)]),gu 94 false (no 99 98),pk 100 (t 94) tt (t 99)]
def zkK:List CI:=[l 101 9,fa 102 2 18,l 103 102,ia 104 2 101 (t 103),fa 105 0 104,l 106 105,bi .eql 107 (t 106) (i 0)]
def zkJ:List CI:=[fa 108 2 18,l 109 108,st 1 15 (t 109)]
def zkI:List CI:=[l 110 8,fa 111 2 18,l 112 111,ia 113 1 110 (t 112),l 114 113,bi .lss 115 (t 114) (i 0)]
def zkH:List CI:=[l 116 9,l 117 15,l 118 9,l 119 15,ia 120 2 118 (t 119),fa 121 1 120,l 122 121,l 123 9,fa 124 2 18,l 125 124,ia 126 2 123 (t 125),fa 127 1 126,l 128 127,oo 129 (.blt .min [(t 122),(t 128)]),ia 130 2 116 (t 117),fa 131 1 130,st 1 131 (t 129)]
def zkG:List CI:=[l 69 12,l 70 15,ia 71 1 69 (t 70),l 72 71,bi .add 73 (t 72) (i 1),ia 74 1 69 (t 70),st 1 74 (t 73)]
def zgN:CC:=(.seq (.seq (.draw zkN) (bs [3,4,5,8,9,10,11,12,13,14,15,16,68]) (.cond (t 68) .skip (.exit 4))) (bs [3,4,5,8,9,10,11,12,13,14,15,16]) (.seq (.block 6 (.seq (.draw zkM) (bs [3,4,5,8,9,10,11,12,13,14,15,16,18]) (.seq (.seq (.ops zkL) (bs [3,4,5,8,9,10,11,12,13,14,15,16,18,100]) (.cond (t 100) (.exit 6) .skip)) (bs [3,4,5,8,9,10,11,12,13,14,15,16,18]) (.seq (.seq (.ops zkK) (bs [3,4,5,8,9,10,11,12,13,14,15,16,18,107]) (.cond (t 107) (.seq (.ops zkJ) (bs [3,4,5,8,9,10,11,12,13,14,15,16]) (.exit 1)) .skip)) (bs [3,4,5,8,9,10,11,12,13,14,15,16,18]) (.seq (.ops zkI) (bs [3,4,5,8,9,10,11,12,13,14,15,16,18,115]) (.cond (t 115) (.draw zkH) .skip)))))) (bs [3,4,5,8,9,10,11,12,13,14,15,16]) (.ops zkG)))
def ziW:List CI:=[l 132 10,l 133 10,le 134 (t 133),bi .sub 135 (t 134) (i 1),oo 136 (.slice 1 (t 132) none (some (t 135))),st 1 10 (t 136)]
def ziV:List CI:=[l 137 9,l 138 15,ia 139 2 137 (t 138),fa 140 1 139,l 141 140,l 142 9,l 143 15,ia 144 2 142 (t 143),fa 145 0 144,l 146 145,bi .eql 147 (t 141) (t 146)]
def ziU:List CI:=[l 148 11,l 149 15,ca 150 n_h [(t 148),(t 149)],st 1 16 (t 150)]
def ziT:List CI:=[l 151 11,l 152 16,oo 153 (.slice 1 (t 151) (some (t 152)) none),le 154 (t 153),mv 155 (i 0)]
def zkF:List CI:=[bi .lss 156 (t 155) (t 154)]
def zkE:List CI:=[ia 157 1 153 (t 155),l 158 157,mv 20 (t 158)]
def zkD:List CI:=[l 159 8,mv 160 (t 20),l 161 14,ia 162 1 159 (t 160),st 1 162 (t 161)]
def zkC:List CI:=[bi .add 163 (t 155) (i 1),mv 155 (t 163)]
def c_a_81:CC:=(.seq (.ops zkF) (bs [3,4,5,8,9,10,11,12,13,14,15,16,153,154,155,156]) (.seq (.cond (t 156) .skip (.exit 8)) (bs [3,4,5,8,9,10,11,12,13,14,15,16,153,154,155]) (.seq (.block 10 (.seq (.ops zkE) (bs [3,4,5,8,9,10,11,12,13,14,15,16,20,153,154,155]) (.ops zkD))) (bs [3,4,5,8,9,10,11,12,13,14,15,16,153,154,155]) (.ops zkC))))
def ziS:List CI:=[l 164 11,l 165 16,oo 166 (.slice 1 (t 164) none (some (t 165))),st 1 11 (t 166)]
def ziR:List CI:=[l 167 14,bi .add 168 (t 167) (i 1),st 1 14 (t 168)]
def ziQ:List CI:=[l 169 10,le 170 (t 169),bi .gtr 171 (t 170) (i 0)]
def ziP:List CI:=[l 172 10,l 173 10,le 174 (t 173),bi .sub 175 (t 174) (i 1),ia 176 1 172 (t 175),l 177 176,st 1 15 (t 177)]
def c_a_86:CC:=(.seq (.seq (.ops zi2) (bs [3,4,5,8,9,10,11,12,13,14,15,16,17,42]) (.cond (t 42) (.exit 2) .skip)) (bs [3,4,5,8,9,10,11,12,13,14,15,16,17]) (.seq (.ops zi1) (bs [3,4,5,8,9,10,11,12,13,14,15,16]) (.seq .skip (bs [3,4,5,8,9,10,11,12,13,14,15,16]) (.seq (.ops zlv) (bs [3,4,5,8,9,10,11,12,13,14,15,16]) (.seq (.ops zlu) (bs [3,4,5,8,9,10,11,12,13,14,15,16]) (.seq (.ops zlt) (bs [3,4,5,8,9,10,11,12,13,14,15,16]) (.seq (.ops zls) (bs [3,4,5,8,9,10,11,12,13,14,15,16]) (.seq .skip (bs [3,4,5,8,9,10,11,12,13,14,15,16]) (.seq (.block 4 (.loop (bs [3,4,5,8,9,10,11,12,13,14,15,16]) c_a_24)) (bs [3,4,5,8,9,10,11,12,13,14,15,16]) (.seq (.ops zlj) (bs [3,4,5,8,9,10,11,12,13,14,15,16]) (.seq (.seq (.draw zli) (bs [3,4,5,8,9,10,11,12,13,14,15,16,147]) (.cond (t 147) (.seq (.ops zlh) (bs [3,4,5,8,9,10,11,12,13,14,15,16]) (.seq (.seq (.ops zlg) (bs [3,4,5,8,9,10,11,12,13,14,15,16,153,154,155]) (.block 8 (.loop (bs [3,4,5,8,9,10,11,12,13,14,15,16,153,154,155]) c_a_33))) (bs [3,4,5,8,9,10,11,12,13,14,15,16]) (.seq (.ops zlb) (bs [3,4,5,8,9,10,11,12,13,14,15,16]) (.ops zla)))) .skip)) (bs [3,4,5,8,9,10,11,12,13,14,15,16]) (.seq (.ops zk9) (bs [3,4,5,8,9,10,11,12,13,14,15,16,171]) (.cond (t 171) (.seq (.ops zk8) (bs [3,4,5,8,9,10,11,12,13,14,15,16]) (.exit 3)) .skip)))))))))))))
def zD:CC:=(.seq .skip (bs [3,4,5,8,9,10,11,12,13,14,15,16]) (.seq (.ops zi0) (bs [3,4,5,8,9,10,11,12,13,14,15,16]) (.seq (.ops ziZ) (bs [3,4,5,8,9,10,11,12,13,14,15,16]) (.seq (.ops ziY) (bs [3,4,5,8,9,10,11,12,13,14,15,16]) (.seq (.ops ziX) (bs [3,4,5,8,9,10,11,12,13,14,15,16]) (.seq .skip (bs [3,4,5,8,9,10,11,12,13,14,15,16]) (.seq (.block 4 (.loop (bs [3,4,5,8,9,10,11,12,13,14,15,16]) c_a_50)) (bs [3,4,5,8,9,10,11,12,13,14,15,16]) (.seq (.ops zkZ) (bs [3,4,5,8,9,10,11,12,13,14,15,16]) (.seq (.seq (.draw zkY) (bs [3,4,5,8,9,10,11,12,13,14,15,16,147]) (.cond (t 147) (.seq (.ops zkX) (bs [3,4,5,8,9,10,11,12,13,14,15,16]) (.seq (.seq (.ops zkW) (bs [3,4,5,8,9,10,11,12,13,14,15,16,153,154,155]) (.block 8 (.loop (bs [3,4,5,8,9,10,11,12,13,14,15,16,153,154,155]) c_a_59))) (bs [3,4,5,8,9,10,11,12,13,14,15,16]) (.seq (.ops zkR) (bs [3,4,5,8,9,10,11,12,13,14,15,16]) (.ops zkQ)))) .skip)) (bs [3,4,5,8,9,10,11,12,13,14,15,16]) (.seq (.ops zkP) (bs [3,4,5,8,9,10,11,12,13,14,15,16,171]) (.cond (t 171) (.seq (.ops zkO) (bs [3,4,5,8,9,10,11,12,13,14,15,16]) (.exit 3)) .skip)))))))))))
def zdE:CC:=(.seq .skip (bs [3,4,5,8,9,10,11,12,13,14,15,16]) (.seq (.block 4 (.loop (bs [3,4,5,8,9,10,11,12,13,14,15,16]) zgN)) (bs [3,4,5,8,9,10,11,12,13,14,15,16]) (.seq (.ops ziW) (bs [3,4,5,8,9,10,11,12,13,14,15,16]) (.seq (.seq (.draw ziV) (bs [3,4,5,8,9,10,11,12,13,14,15,16,147]) (.cond (t 147) (.seq (.ops ziU) (bs [3,4,5,8,9,10,11,12,13,14,15,16]) (.seq (.seq (.ops ziT) (bs [3,4,5,8,9,10,11,12,13,14,15,16,153,154,155]) (.block 8 (.loop (bs [3,4,5,8,9,10,11,12,13,14,15,16,153,154,155]) c_a_81))) (bs [3,4,5,8,9,10,11,12,13,14,15,16]) (.seq (.ops ziS) (bs [3,4,5,8,9,10,11,12,13,14,15,16]) (.ops ziR)))) .skip)) (bs [3,4,5,8,9,10,11,12,13,14,15,16]) (.seq (.ops ziQ) (bs [3,4,5,8,9,10,11,12,13,14,15,16,171]) (.cond (t 171) (.seq (.ops ziP) (bs [3,4,5,8,9,10,11,12,13,14,15,16]) (.exit 3)) .skip))))))
def zhM:CC:=(.ops r_a_9)
def zN:CC:=(.block 2 (.scope c_a_86 0 zD 1 zdE))
def zkB:List CI:=[l 178 8,l 179 14,mv 6 (t 178),mv 7 (t 179)]
def c_a:CC:=(.seq (.ops r_a_1) (bs [3,4,5,6,7]) (.seq (.ops r_a_2) (bs [3,4,5,6,7,8]) (.seq (.ops r_a_3) (bs [3,4,5,6,7,8,9]) (.seq (.ops r_a_4) (bs [3,4,5,6,7,8,9,10,11]) (.seq (.ops r_a_5) (bs [3,4,5,6,7,8,9,10,11,12]) (.seq (.ops r_a_6) (bs [3,4,5,6,7,8,9,10,11,12,13,14]) (.seq (.ops r_a_7) (bs [3,4,5,6,7,8,9,10,11,12,13,14,15,16]) (.seq (.seq (.ops r_a_8) (bs [3,4,5,6,7,8,9,10,11,12,13,14,15,16,35]) (.block 0 (.rangeFunc 0 (bs [3,4,5,8,9,10,11,12,13,14,15,16]) (t 35) (bs [36]) zhM zN))) (bs [8,14]) (.seq (.draw zkB) (bs [6,7]) .ret)))))))))
def f_a:zn:=⟨180,[.tmp (bits 6),.tmp (bits 7)],c_a,none,none⟩
def r_c_1:List CI:=[mv 4 (i 0)]
def r_c_2:List CI:=[mv 6 (t 0),le 7 (t 6),mv 8 (i 0)]
def r_c_3:List CI:=[bi .lss 9 (t 8) (t 7)]
def r_c_4:List CI:=[mv 10 (t 8),mv 5 (t 10)]
def r_c_5:List CI:=[mv 11 (t 1),mv 12 (t 0),mv 13 (t 5),ia 14 3 12 (t 13),ln 15 3 14,oo 16 (.call (t 11) [(t 15)])]
def r_c_6:List CI:=[mv 17 (t 5),mv 4 (t 17)]
def r_c_7:List CI:=[bi .add 18 (t 8) (i 1),mv 8 (t 18)]
def c_c_8:CC:=(.seq (.ops r_c_3) (bs [0,1,7,8,9]) (.seq (.cond (t 9) .skip (.exit 0)) (bs [0,1,7,8]) (.seq (.block 2 (.seq (.ops r_c_4) (bs [0,1,5,7,8]) (.seq (.ops r_c_5) (bs [0,1,5,7,8,16]) (.cond (t 16) (.seq (.ops r_c_6) (bs [4]) .ret) .skip)))) (bs [0,1,7,8]) (.ops r_c_7))))
def r_c_9:List CI:=[mv 4 (i (-1))]
def c_c:CC:=(.seq (.ops r_c_1) (bs [0,1]) (.seq (.seq (.ops r_c_2) (bs [0,1,7,8]) (.block 0 (.loop (bs [0,1,7,8]) c_c_8))) [] (.seq (.ops r_c_9) (bs [4]) .ret)))
def f_c:zn:=⟨19,[.tmp (bits 4)],c_c,none,none⟩
def r_h_1:List CI:=[mv 4 (i 0)]
def r_h_2:List CI:=[mv 6 (t 0),le 7 (t 6),mv 8 (i 0)]
def r_h_3:List CI:=[bi .lss 9 (t 8) (t 7)]
def r_h_4:List CI:=[mv 10 (t 8),mv 5 (t 10)]
def r_h_5:List CI:=[mv 11 (t 1),mv 12 (t 0),mv 13 (t 5),ia 14 1 12 (t 13),l 15 14,bi .eql 16 (t 11) (t 15)]
def r_h_6:List CI:=[mv 17 (t 5),mv 4 (t 17)]
def r_h_7:List CI:=[bi .add 18 (t 8) (i 1),mv 8 (t 18)]
def c_h_8:CC:=(.seq (.ops r_h_3) (bs [0,1,7,8,9]) (.seq (.cond (t 9) .skip (.exit 0)) (bs [0,1,7,8]) (.seq (.block 2 (.seq (.ops r_h_4) (bs [0,1,5,7,8]) (.seq (.ops r_h_5) (bs [0,1,5,7,8,16]) (.cond (t 16) (.seq (.ops r_h_6) (bs [4]) .ret) .skip)))) (bs [0,1,7,8]) (.ops r_h_7))))
def r_h_9:List CI:=[mv 4 (i (-1))]
def c_h:CC:=(.seq (.ops r_h_1) (bs [0,1]) (.seq (.seq (.ops r_h_2) (bs [0,1,7,8]) (.block 0 (.loop (bs [0,1,7,8]) c_h_8))) [] (.seq (.ops r_h_9) (bs [4]) .ret)))
def f_h:zn:=⟨19,[.tmp (bits 4)],c_h,none,none⟩
def r_n_1:List CI:=[mv 4 (i 0)]
def r_n_2:List CI:=[mv 6 (t 0),le 7 (t 6),mv 8 (i 0)]
def r_n_3:List CI:=[bi .lss 9 (t 8) (t 7)]
def r_n_4:List CI:=[mv 10 (t 8),mv 5 (t 10)]
def r_n_5:List CI:=[mv 11 (t 1),mv 12 (t 0),mv 13 (t 5),ia 14 1 12 (t 13),l 15 14,oo 16 (.call (t 11) [(t 15)])]
def r_n_6:List CI:=[mv 17 (t 5),mv 4 (t 17)]
def r_n_7:List CI:=[bi .add 18 (t 8) (i 1),mv 8 (t 18)]
def c_n_8:CC:=(.seq (.ops r_n_3) (bs [0,1,7,8,9]) (.seq (.cond (t 9) .skip (.exit 0)) (bs [0,1,7,8]) (.seq (.block 2 (.seq (.ops r_n_4) (bs [0,1,5,7,8]) (.seq (.ops r_n_5) (bs [0,1,5,7,8,16]) (.cond (t 16) (.seq (.ops r_n_6) (bs [4]) .ret) .skip)))) (bs [0,1,7,8]) (.ops r_n_7))))
def r_n_9:List CI:=[mv 4 (i (-1))]
def c_n:CC:=(.seq (.ops r_n_1) (bs [0,1]) (.seq (.seq (.ops r_n_2) (bs [0,1,7,8]) (.block 0 (.loop (bs [0,1,7,8]) c_n_8))) [] (.seq (.ops r_n_9) (bs [4]) .ret)))
def f_n:zn:=⟨19,[.tmp (bits 4)],c_n,none,none⟩
def r_e_1:List CI:=[mv 4 (i 0)]
def r_e_2:List CI:=[mv 9 (t 0),le 10 (t 9),mv 11 (i 0)]
def r_e_3:List CI:=[bi .lss 12 (t 11) (t 10)]
def r_e_4:List CI:=[mv 13 (t 11),ia 14 1 9 (t 11),l 15 14,mv 5 (t 13),mv 6 (t 15)]
def r_e_5:List CI:=[mv 16 (t 5),mv 17 (t 1),le 18 (t 17),bi .geq 19 (t 16) (t 18)]
def r_e_6:List CI:=[mv 4 (i 1)]
def r_e_7:List CI:=[mv 20 (t 1),mv 21 (t 5),ia 22 1 20 (t 21),l 23 22,mv 7 (t 23)]
def r_e_8:List CI:=[mv 24 (t 6),mv 25 (t 7),ca 26 n_i [(t 24),(t 25)],mv 8 (t 26)]
def r_e_9:List CI:=[mv 27 (t 8),bi .neq 28 (t 27) (i 0)]
def r_e_10:List CI:=[mv 29 (t 8),mv 4 (t 29)]
def r_e_11:List CI:=[bi .add 30 (t 11) (i 1),mv 11 (t 30)]
def c_e_12:CC:=(.seq (.ops r_e_3) (bs [0,1,9,10,11,12]) (.seq (.cond (t 12) .skip (.exit 0)) (bs [0,1,9,10,11]) (.seq (.block 2 (.seq (.ops r_e_4) (bs [0,1,5,6,9,10,11]) (.seq (.seq (.ops r_e_5) (bs [0,1,5,6,9,10,11,19]) (.cond (t 19) (.seq (.ops r_e_6) (bs [4]) .ret) .skip)) (bs [0,1,5,6,9,10,11]) (.seq (.ops r_e_7) (bs [0,1,6,7,9,10,11]) (.seq (.ops r_e_8) (bs [0,1,8,9,10,11]) (.seq (.ops r_e_9) (bs [0,1,8,9,10,11,28]) (.cond (t 28) (.seq (.ops r_e_10) (bs [4]) .ret) .skip))))))) (bs [0,1,9,10,11]) (.ops r_e_11))))
def r_e_13:List CI:=[mv 31 (t 0),le 32 (t 31),mv 33 (t 1),le 34 (t 33),bi .lss 35 (t 32) (t 34)]
def r_e_14:List CI:=[mv 4 (i (-1))]
def r_e_15:List CI:=[mv 4 (i 0)]
def c_e:CC:=(.seq (.ops r_e_1) (bs [0,1]) (.seq (.seq (.ops r_e_2) (bs [0,1,9,10,11]) (.block 0 (.loop (bs [0,1,9,10,11]) c_e_12))) (bs [0,1]) (.seq (.seq (.ops r_e_13) (bs [35]) (.cond (t 35) (.seq (.ops r_e_14) (bs [4]) .ret) .skip)) [] (.seq (.ops r_e_15) (bs [4]) .ret))))
def f_e:zn:=⟨36,[.tmp (bits 4)],c_e,none,none⟩
def r_Z_1:List CI:=[mv 3 ff]
def r_Z_2:List CI:=[mv 4 (t 0),bi .lss 5 (t 4) (i 0),mv 6 (t 5),gu 6 false (mv 7 (t 0)),gu 6 false (fa 8 2 1),gu 6 false (l 9 8),gu 6 false (le 10 (t 9)),gu 6 false (bi .geq 11 (t 7) (t 10)),pk 12 (t 6) tt (t 11),mv 3 (t 12)]
def c_Z:CC:=(.seq (.ops r_Z_1) (bs [0,1]) (.seq (.ops r_Z_2) (bs [3]) .ret))
def f_Z:zn:=⟨13,[.tmp (bits 3)],c_Z,none,none⟩
def r_M_1:List CI:=[mv 4 (t 0),mv 5 (t 1),bi .quo 6 (t 5) (i 64),nc 7 4,oo 8 (.indexArr 1 1 (t 7) (t 6)),l 9 8,mv 10 (t 1),bi .rem 11 (t 10) (i 64),bi .shl 12 (.c (.int .u64 1)) (t 11),bi .or 13 (t 9) (t 12),nc 14 4,oo 15 (.indexArr 1 1 (t 14) (t 6)),st 1 15 (t 13)]
def c_M:CC:=(.draw r_M_1)
def f_M:zn:=⟨16,[],c_M,none,none⟩
def r_K:List CI:=[bx 2 (t 0),bx 3 (t 1),mv 4 (.c .nilFunc)]
def r_A_2:List CI:=[oo 5 (.makeFunc (.func n_K) [] [(t 2),(t 3)]),mv 4 (t 5)]
def c_A:CC:=(.seq (.ops r_K) (bs [2,3]) (.seq (.ops r_A_2) (bs [4]) .ret))
def f_A:zn:=⟨6,[.tmp (bits 4)],c_A,none,none⟩
def r_V:List CI:=[bx 4 (t 0),bx 5 (t 1),bx 6 (t 2),bx 7 (t 3),mv 8 ff]
def r_z_2:List CI:=[fa 9 0 4,fa 10 2 9,l 11 10,oo 12 (.makeFunc (.func n_V) [] [(t 5),(t 7),(t 6)]),ca 13 n_q [(t 11),(t 12)],mv 8 (t 13)]
def c_z:CC:=(.seq (.ops r_V) (bs [4,5,6,7]) (.seq (.ops r_z_2) (bs [8]) .ret))
def f_z:zn:=⟨14,[.tmp (bits 8)],c_z,none,none⟩
def r_r_1:List CI:=[bx 4 (t 0),bx 5 (t 1),oo 8 (.alloc [(.int .u64 0)])]
def r_r_2:List CI:=[ln 12 1 5,oo 9 (.alloc [(.int .u64 0)]),st 1 9 (t 12)]
def r_r_3:List CI:=[fa 13 0 4,fa 14 2 13,l 15 14,le 16 (t 15),mv 17 (i 0)]
def r_r_4:List CI:=[bi .lss 18 (t 17) (t 16)]
def r_r_5:List CI:=[ia 19 3 15 (t 17),ln 20 3 19,oo 11 (.alloc [(iI 0),(iI 0),(iI 0)]),st 3 11 (t 20)]
def r_r_6:List CI:=[ln 22 1 5,fa 23 0 11,l 24 23,ca 25 n_H [(t 22),(t 24)],no 26 25,mv 21 (t 26)]
def r_r_7:List CI:=[fa 28 1 11,l 29 28,mv 30 (t 2),bi .eql 31 (t 29) (t 30),mv 32 (t 31),gu 32 true (mv 33 (t 3)),gu 32 true (no 34 33),pk 35 (t 32) (t 34) ff,mv 36 (t 35),gu 36 false (fa 37 1 11),gu 36 false (l 38 37),gu 36 false (mv 39 (t 2)),gu 36 false (bi .neq 40 (t 38) (t 39)),gu 36 false (mv 41 (t 40)),gu 41 true (ln 42 3 4),gu 41 true (ln 43 1 5),gu 41 true (fa 44 1 11),gu 41 true (l 45 44),gu 41 true (mv 46 (t 2)),gu 41 true (ca 47 n_z [(t 42),(t 43),(t 45),(t 46)]),gu 41 true (no 48 47),gu 36 false (pk 49 (t 41) (t 48) ff),pk 50 (t 36) tt (t 49),mv 27 (t 50)]
def r_r_8:List CI:=[fa 51 0 11,l 52 51,ca 53 n_Q [(t 9),(t 52)]]
def r_r_9:List CI:=[bi .add 54 (t 17) (i 1),mv 17 (t 54)]
def c_r_10:CC:=(.seq (.ops r_r_4) (bs [2,3,4,5,8,9,15,16,17,18]) (.seq (.cond (t 18) .skip (.exit 0)) (bs [2,3,4,5,8,9,15,16,17]) (.seq (.block 2 (.seq (.ops r_r_5) (bs [2,3,4,5,8,9,11,15,16,17]) (.block 4 (.seq (.ops r_r_6) (bs [2,3,4,5,8,9,11,15,16,17,21]) (.cond (t 21) .skip (.seq (.ops r_r_7) (bs [2,3,4,5,8,9,11,15,16,17,27]) (.cond (t 27) (.ops r_r_8) .skip))))))) (bs [2,3,4,5,8,9,15,16,17]) (.ops r_r_9))))
def r_r_11:List CI:=[ln 55 1 9,st 1 8 (t 55)]
def c_r:CC:=(.seq (.ops r_r_1) (bs [2,3,4,5,8]) (.seq (.ops r_r_2) (bs [2,3,4,5,8,9]) (.seq (.seq (.ops r_r_3) (bs [2,3,4,5,8,9,15,16,17]) (.block 0 (.loop (bs [2,3,4,5,8,9,15,16,17]) c_r_10))) (bs [8,9]) (.seq (.ops r_r_11) (bs [8]) .ret))))
def f_r:zn:=⟨56,[.cell (some 1) (bits 8)],c_r,none,none⟩
def r_O_1:List CI:=[mv 4 (i 0)]
def r_O_2:List CI:=[bi .lss 5 (t 4) (i 60)]
def r_O_3:List CI:=[mv 6 (t 4),mv 3 (t 6)]
def r_O_4:List CI:=[ln 7 1 1,mv 8 (t 3),ca 9 n_H [(t 7),(t 8)],mv 10 (t 9),gu 10 true (mv 11 (t 0)),gu 10 true (mv 12 (t 3)),gu 10 true (oo 13 (.call (t 11) [(t 12)])),gu 10 true (no 14 13),pk 15 (t 10) (t 14) ff]
def r_O_5:List CI:=[bi .add 16 (t 4) (i 1),mv 4 (t 16)]
def c_O_6:CC:=(.seq (.ops r_O_2) (bs [0,1,4,5]) (.seq (.cond (t 5) .skip (.exit 0)) (bs [0,1,4]) (.seq (.block 2 (.seq (.ops r_O_3) (bs [0,1,3,4]) (.seq (.ops r_O_4) (bs [0,1,4,15]) (.cond (t 15) .ret .skip)))) (bs [0,1,4]) (.ops r_O_5))))
def c_O:CC:=(.seq (.ops r_O_1) (bs [0,1,4]) (.block 0 (.loop (bs [0,1,4]) c_O_6)))
def f_O:zn:=⟨17,[],c_O,none,none⟩
def r_D_1:List CI:=[ln 12 3 1,l 13 2,ln 14 1 3,l 15 4,mv 16 (t 0),ca 17 n_f [(t 12),(t 13),(t 14),(t 15),(t 16)],mv 11 (t 17),ex 18 11 0,ex 19 11 1,mv 7 (t 18),mv 8 (t 19)]
def r_D_2:List CI:=[mv 20 (t 7),le 21 (t 20),mv 22 (i 0)]
def r_D_3:List CI:=[bi .lss 23 (t 22) (t 21)]
def r_D_4:List CI:=[ia 24 1 20 (t 22),l 25 24,mv 10 (t 25)]
def r_D_5:List CI:=[l 26 5,mv 27 (t 10),oo 28 (.buildSlice 1 1 [(iI 0)] [(0,(t 27))]),ap 29 1 8 (t 26) (t 28),st 1 5 (t 29)]
def r_D_6:List CI:=[fa 30 0 1,fa 31 2 30,l 32 31,mv 33 (t 10),ia 34 3 32 (t 33),fa 35 2 34,l 36 35,st 1 2 (t 36)]
def r_D_7:List CI:=[bi .add 37 (t 22) (i 1),mv 22 (t 37)]
def c_D_8:CC:=(.seq (.ops r_D_3) (bs [1,2,5,20,21,22,23]) (.seq (.cond (t 23) .skip (.exit 0)) (bs [1,2,5,20,21,22]) (.seq (.block 2 (.seq (.ops r_D_4) (bs [1,2,5,10,20,21,22]) (.seq (.ops r_D_5) (bs [1,2,5,10,20,21,22]) (.ops r_D_6)))) (bs [1,2,5,20,21,22]) (.ops r_D_7))))
def c_D:CC:=(.seq (.ops r_D_1) (bs [1,2,5,7]) (.seq (.ops r_D_2) (bs [1,2,5,20,21,22]) (.block 0 (.loop (bs [1,2,5,20,21,22]) c_D_8))))
def f_D:zn:=⟨38,[],c_D,none,none⟩
def r_W_1:List CI:=[mv 3 ff]
def r_W_2:List CI:=[mv 4 (t 0),fa 5 0 1,l 6 5,bi .eql 7 (t 4) (t 6),mv 3 (t 7)]
def c_W:CC:=(.seq (.ops r_W_1) (bs [0,1]) (.seq (.ops r_W_2) (bs [3]) .ret))
def f_W:zn:=⟨8,[.tmp (bits 3)],c_W,none,none⟩
def r_R_1:List CI:=[mv 4 ff]
def r_R_2:List CI:=[oo 5 (.alloc [(.int .u64 0)])]
def r_R_3:List CI:=[mv 6 (t 0),ca 7 n_M [(t 5),(t 6)]]
def r_R_4:List CI:=[ln 8 3 1,ln 9 1 5,l 10 2,ca 11 n_x [(t 8),(t 9),(t 10)],mv 4 (t 11)]
def c_R:CC:=(.seq (.ops r_R_1) (bs [0,1,2]) (.seq (.ops r_R_2) (bs [0,1,2,5]) (.seq (.ops r_R_3) (bs [1,2,5]) (.seq (.ops r_R_4) (bs [4]) .ret))))
def f_R:zn:=⟨12,[.tmp (bits 4)],c_R,none,none⟩
def r_X_1:List CI:=[mv 3 ff]
def r_X_2:List CI:=[mv 4 (t 0),l 5 1,bi .eql 6 (t 4) (t 5),mv 3 (t 6)]
def c_X:CC:=(.seq (.ops r_X_1) (bs [0,1]) (.seq (.ops r_X_2) (bs [3]) .ret))
def f_X:zn:=⟨7,[.tmp (bits 3)],c_X,none,none⟩
def r_k_1:List CI:=[mv 4 (.c (.slice none 0 0))]
def r_k_2:List CI:=[mv 9 (t 1),bi .lss 10 (t 9) (i 0)]
def r_k_3:List CI:=[oo 11 (.mkI 9 (.c (.string ⟨#[99,97,110,110,111,116,32,98,101,32,110,101,103,97,116,105,118,101]⟩))),on (.panic (t 11))]
def r_k_4:List CI:=[mv 13 (t 0),le 14 (t 13),oo 15 (.conv .u64 (t 14)),mv 16 (t 1),oo 17 (.conv .u64 (t 16)),ca 18 n_I [(t 15),(t 17)],mv 12 (t 18),ex 19 12 0,ex 20 12 1,mv 5 (t 19),mv 6 (t 20)]
def r_k_5:List CI:=[mv 21 (t 5),bi .gtr 22 (t 21) (.c (.int .u64 0)),mv 23 (t 22),gu 23 false (mv 24 (t 6)),gu 23 false (bi .gtr 25 (t 24) (.c (.int .u64 9223372036854775807))),pk 26 (t 23) tt (t 25)]
def r_k_6:List CI:=[oo 27 (.mkI 9 (.c (.string ⟨#[116,104,101,32,114,101,115,117,108,116,32,111,102,32,40,108,101,110,40,120,41,32,42,32,99,111,117,110,116,41,32,111,118,101,114,102,108,111,119,115]⟩))),on (.panic (t 27))]
def r_k_7:List CI:=[mv 28 (t 6),oo 29 (.conv .i64 (t 28)),oo 30 (.makeSlice 1 8 [(iI 0)] (t 29) (t 29)),mv 7 (t 30)]
def r_k_8:List CI:=[mv 31 (t 7),mv 32 (t 0),oo 33 (.blt (.copy 1) [(t 31),(t 32)]),mv 8 (t 33)]
def r_k_9:List CI:=[mv 34 (t 8),mv 35 (t 7),le 36 (t 35),bi .lss 37 (t 34) (t 36)]
def r_k_10:List CI:=[mv 39 (t 7),mv 40 (t 8),oo 41 (.slice 1 (t 39) (some (t 40)) none),mv 42 (t 7),mv 43 (t 8),oo 44 (.slice 1 (t 42) none (some (t 43))),oo 45 (.blt (.copy 1) [(t 41),(t 44)]),mv 38 (t 8),lo 1 (bi .add 46 (t 38) (t 45)),lo 1 (mv 8 (t 46))]
def c_k_11:CC:=(.seq (.seq (.ops r_k_9) (bs [7,8,37]) (.cond (t 37) .skip (.exit 0))) (bs [7,8]) (.block 2 (.draw r_k_10)))
def r_k_12:List CI:=[mv 47 (t 7),mv 4 (t 47)]
def c_k:CC:=(.seq (.ops r_k_1) (bs [0,1]) (.seq (.seq (.ops r_k_2) (bs [0,1,10]) (.cond (t 10) (.ops r_k_3) .skip)) (bs [0,1]) (.seq (.ops r_k_4) (bs [0,5,6]) (.seq (.seq (.ops r_k_5) (bs [0,6,26]) (.cond (t 26) (.ops r_k_6) .skip)) (bs [0,6]) (.seq (.ops r_k_7) (bs [0,7]) (.seq (.ops r_k_8) (bs [7,8]) (.seq (.block 0 (.loop (bs [7,8]) c_k_11)) (bs [7]) (.seq (.ops r_k_12) (bs [4]) .ret))))))))
def f_k:zn:=⟨48,[.tmp (bits 4)],c_k,none,none⟩
def r_u_1:List CI:=[mv 4 (t 0),le 5 (t 4),bi .sub 6 (t 5) (i 1),mv 2 (i 0),mv 3 (t 6)]
def r_u_2:List CI:=[mv 7 (t 2),mv 8 (t 3),bi .lss 9 (t 7) (t 8)]
def r_u_3:List CI:=[mv 14 (t 0),mv 15 (t 2),mv 18 (t 0),mv 19 (t 3),ia 20 1 18 (t 19),l 21 20,mv 22 (t 0),mv 23 (t 2),ia 24 1 22 (t 23),l 25 24,ia 26 1 14 (t 15),st 1 26 (t 21),mv 16 (t 0),mv 17 (t 3),lo 1 (ia 27 1 16 (t 17)),lo 1 (st 1 27 (t 25))]
def r_u_4:List CI:=[mv 10 (t 2),bi .add 11 (t 10) (i 1),mv 12 (t 3),bi .sub 13 (t 12) (i 1),mv 2 (t 11),mv 3 (t 13)]
def c_u_5:CC:=(.seq (.seq (.ops r_u_2) (bs [0,2,3,9]) (.cond (t 9) .skip (.exit 0))) (bs [0,2,3]) (.seq (.block 2 (.draw r_u_3)) (bs [0,2,3]) (.ops r_u_4)))
def c_u:CC:=(.seq (.ops r_u_1) (bs [0,2,3]) (.block 0 (.loop (bs [0,2,3]) c_u_5)))
def f_u:zn:=⟨28,[],c_u,none,none⟩
def r_T_1:List CI:=[bx 3 (t 0),mv 4 ff]
def r_T_2:List CI:=[ln 5 1 1,fa 6 0 3,l 7 6,ca 8 n_H [(t 5),(t 7)],mv 9 (t 8),gu 9 true (fa 10 1 3),gu 9 true (l 11 10),gu 9 true (l 12 2),gu 9 true (bi .eql 13 (t 11) (t 12)),pk 14 (t 9) (t 13) ff,mv 4 (t 14)]
def c_T:CC:=(.seq (.ops r_T_1) (bs [1,2,3]) (.seq (.ops r_T_2) (bs [4]) .ret))
def f_T:zn:=⟨15,[.tmp (bits 4)],c_T,none,none⟩
def r_S_1:List CI:=[bx 2 (t 0),bx 3 (t 1),mv 4 (i 0)]
def r_S_2:List CI:=[fa 5 0 2,l 6 5,fa 7 0 3,l 8 7,bi .sub 9 (t 6) (t 8),fa 10 1 2,l 11 10,fa 12 1 3,l 13 12,bi .sub 14 (t 11) (t 13),fa 15 2 2,l 16 15,fa 17 2 3,l 18 17,bi .sub 19 (t 16) (t 18),oo 20 (.buildSlice 3 1 [(iI 0)] [(0,(t 9)),(1,(t 14)),(2,(t 19))]),ca 21 n_B [(t 20)],mv 4 (t 21)]
def c_S:CC:=(.seq (.ops r_S_1) (bs [2,3]) (.seq (.ops r_S_2) (bs [4]) .ret))
def f_S:zn:=⟨22,[.tmp (bits 4)],c_S,none,none⟩
def r_i_1:List CI:=[mv 4 (i 0)]
def r_i_2:List CI:=[mv 7 (t 0),ca 8 n_E [(t 7)],mv 5 (t 8)]
def r_i_3:List CI:=[mv 9 (t 1),ca 10 n_E [(t 9)],mv 6 (t 10)]
def r_i_4:List CI:=[mv 11 (t 5)]
def r_i_5:List CI:=[mv 12 (t 6)]
def r_i_6:List CI:=[mv 4 (i 0)]
def r_i_7:List CI:=[mv 4 (i (-1))]
def r_i_8:List CI:=[mv 13 (t 6)]
def r_i_9:List CI:=[mv 4 (i 1)]
def r_i_10:List CI:=[mv 14 (t 0),mv 15 (t 1),bi .lss 16 (t 14) (t 15)]
def r_i_11:List CI:=[mv 4 (i (-1))]
def r_i_12:List CI:=[mv 17 (t 0),mv 18 (t 1),bi .gtr 19 (t 17) (t 18)]
def r_i_13:List CI:=[mv 4 (i 1)]
def r_i_14:List CI:=[mv 4 (i 0)]
def c_i:CC:=(.seq (.ops r_i_1) (bs [0,1]) (.seq (.ops r_i_2) (bs [0,1,5]) (.seq (.ops r_i_3) (bs [0,1,5,6]) (.seq (.seq (.ops r_i_4) (bs [0,1,6,11]) (.cond (t 11) (.seq (.seq (.ops r_i_5) (bs [12]) (.cond (t 12) (.seq (.ops r_i_6) (bs [4]) .ret) .skip)) [] (.seq (.ops r_i_7) (bs [4]) .ret)) .skip)) (bs [0,1,6]) (.seq (.seq (.ops r_i_8) (bs [0,1,13]) (.cond (t 13) (.seq (.ops r_i_9) (bs [4]) .ret) .skip)) (bs [0,1]) (.seq (.seq (.ops r_i_10) (bs [0,1,16]) (.cond (t 16) (.seq (.ops r_i_11) (bs [4]) .ret) .skip)) (bs [0,1]) (.seq (.seq (.ops r_i_12) (bs [19]) (.cond (t 19) (.seq (.ops r_i_13) (bs [4]) .ret) .skip)) [] (.seq (.ops r_i_14) (bs [4]) .ret))))))))
def f_i:zn:=⟨20,[.tmp (bits 4)],c_i,none,none⟩
def r_K_1:List CI:=[fa 6 0 1,fa 7 2 6,l 8 7,le 9 (t 8),mv 10 (i 0)]
def r_K_2:List CI:=[bi .lss 11 (t 10) (t 9)]
def r_K_3:List CI:=[mv 12 (t 10),ia 13 3 8 (t 10),ln 14 3 13,oo 5 (.alloc [(iI 0),(iI 0),(iI 0)]),mv 4 (t 12),st 3 5 (t 14)]
def r_K_4:List CI:=[fa 15 0 5,l 16 15,l 17 2,bi .eql 18 (t 16) (t 17),mv 19 (t 18),gu 19 true (mv 20 (t 0)),gu 19 true (mv 21 (t 4)),gu 19 true (ln 22 3 5),gu 19 true (oo 23 (.call (t 20) [(t 21),(t 22)])),gu 19 true (no 24 23),pk 25 (t 19) (t 24) ff]
def r_K_5:List CI:=[bi .add 26 (t 10) (i 1),mv 10 (t 26)]
def c_K_6:CC:=(.seq (.ops r_K_2) (bs [0,2,8,9,10,11]) (.seq (.cond (t 11) .skip (.exit 0)) (bs [0,2,8,9,10]) (.seq (.block 2 (.seq (.ops r_K_3) (bs [0,2,4,5,8,9,10]) (.seq (.ops r_K_4) (bs [0,2,8,9,10,25]) (.cond (t 25) .ret .skip)))) (bs [0,2,8,9,10]) (.ops r_K_5))))
def c_K:CC:=(.seq (.ops r_K_1) (bs [0,2,8,9,10]) (.block 0 (.loop (bs [0,2,8,9,10]) c_K_6)))
def f_K:zn:=⟨27,[],c_K,none,none⟩
def r_V_1:List CI:=[bx 4 (t 0),mv 5 ff]
def r_V_2:List CI:=[ln 6 1 1,fa 7 0 4,l 8 7,ca 9 n_H [(t 6),(t 8)],mv 10 (t 9),gu 10 true (ln 11 1 1),gu 10 true (fa 12 2 4),gu 10 true (l 13 12),gu 10 true (ca 14 n_H [(t 11),(t 13)]),pk 15 (t 10) (t 14) ff,mv 16 (t 15),gu 16 true (fa 17 1 4),gu 16 true (l 18 17),gu 16 true (l 19 2),gu 16 true (bi .neq 20 (t 18) (t 19)),pk 21 (t 16) (t 20) ff,mv 22 (t 21),gu 22 true (l 23 3),gu 22 true (bi .lss 24 (t 23) (i 0)),gu 22 true (mv 25 (t 24)),gu 25 false (fa 26 1 4),gu 25 false (l 27 26),gu 25 false (l 28 3),gu 25 false (bi .eql 29 (t 27) (t 28)),gu 22 true (pk 30 (t 25) tt (t 29)),pk 31 (t 22) (t 30) ff,mv 5 (t 31)]
def c_V:CC:=(.seq (.ops r_V_1) (bs [1,2,3,4]) (.seq (.ops r_V_2) (bs [5]) .ret))
def f_V:zn:=⟨32,[.tmp (bits 5)],c_V,none,none⟩
def r_Q_1:List CI:=[mv 4 (t 0),mv 5 (t 1),bi .quo 6 (t 5) (i 64),nc 7 4,oo 8 (.indexArr 1 1 (t 7) (t 6)),l 9 8,mv 10 (t 1),bi .rem 11 (t 10) (i 64),bi .shl 12 (.c (.int .u64 1)) (t 11),bi .andNot 13 (t 9) (t 12),nc 14 4,oo 15 (.indexArr 1 1 (t 14) (t 6)),st 1 15 (t 13)]
def c_Q:CC:=(.draw r_Q_1)
def f_Q:zn:=⟨16,[],c_Q,none,none⟩
def r_I_1:List CI:=[mv 4 (.c (.int .u64 0)),mv 5 (.c (.int .u64 0))]
def r_I_2:List CI:=[mv 11 (t 0),oo 12 (.conv .u32 (t 11)),mv 13 (t 1),oo 14 (.conv .u32 (t 13)),ca 15 n_P [(t 12),(t 14)],mv 10 (t 15),ex 16 10 0,ex 17 10 1,mv 6 (t 16),mv 7 (t 17)]
def r_I_3:List CI:=[mv 18 (t 6),oo 19 (.conv .u64 (t 18)),mv 20 (t 7),oo 21 (.conv .u64 (t 20)),mv 4 (t 19),mv 5 (t 21)]
def r_I_4:List CI:=[mv 23 (t 0),mv 24 (t 1),ca 25 n_s [(t 23),(t 24)],mv 22 (t 25),ex 26 22 0,ex 27 22 1,mv 8 (t 26),mv 9 (t 27)]
def r_I_5:List CI:=[mv 28 (t 8),mv 29 (t 9),mv 4 (t 28),mv 5 (t 29)]
def c_I:CC:=(.seq (.ops r_I_1) (bs [0,1]) (.seq (.cond ff (.seq (.ops r_I_2) (bs [6,7]) (.seq (.ops r_I_3) (bs [4,5]) .ret)) .skip) (bs [0,1]) (.seq (.ops r_I_4) (bs [8,9]) (.seq (.ops r_I_5) (bs [4,5]) .ret))))
def f_I:zn:=⟨30,[.tmp (bits 4),.tmp (bits 5)],c_I,none,none⟩
def r_B_1:List CI:=[mv 2 (i 0)]
def r_B_2:List CI:=[mv 3 (i 0)]
def r_B_3:List CI:=[mv 6 (t 0),le 7 (t 6),mv 8 (i 0)]
def r_B_4:List CI:=[bi .lss 9 (t 8) (t 7)]
def r_B_5:List CI:=[ia 10 1 6 (t 8),l 11 10,mv 5 (t 11)]
def r_B_6:List CI:=[mv 12 (t 5),mv 13 (t 3),bi .neq 14 (t 12) (t 13)]
def r_B_7:List CI:=[mv 15 (t 5),mv 2 (t 15)]
def r_B_8:List CI:=[bi .add 16 (t 8) (i 1),mv 8 (t 16)]
def c_B_9:CC:=(.seq (.ops r_B_4) (bs [3,6,7,8,9]) (.seq (.cond (t 9) .skip (.exit 0)) (bs [3,6,7,8]) (.seq (.block 2 (.seq (.ops r_B_5) (bs [3,5,6,7,8]) (.seq (.ops r_B_6) (bs [3,5,6,7,8,14]) (.cond (t 14) (.seq (.ops r_B_7) (bs [2]) .ret) .skip)))) (bs [3,6,7,8]) (.ops r_B_8))))
def r_B_10:List CI:=[mv 17 (t 3),mv 2 (t 17)]
def c_B:CC:=(.seq (.ops r_B_1) (bs [0]) (.seq (.ops r_B_2) (bs [0,3]) (.seq (.seq (.ops r_B_3) (bs [3,6,7,8]) (.block 0 (.loop (bs [3,6,7,8]) c_B_9))) (bs [3]) (.seq (.ops r_B_10) (bs [2]) .ret))))
def f_B:zn:=⟨18,[.tmp (bits 2)],c_B,none,none⟩
def r_E_1:List CI:=[mv 2 ff]
def r_E_2:List CI:=[mv 3 (t 0),mv 4 (t 0),bi .neq 5 (t 3) (t 4),mv 2 (t 5)]
def c_E:CC:=(.seq (.ops r_E_1) (bs [0]) (.seq (.ops r_E_2) (bs [2]) .ret))
def f_E:zn:=⟨6,[.tmp (bits 2)],c_E,none,none⟩
def r_P_1:List CI:=[mv 4 (.c (.int .u32 0)),mv 5 (.c (.int .u32 0))]
def r_P_2:List CI:=[mv 7 (t 0),oo 8 (.conv .u64 (t 7)),mv 9 (t 1),oo 10 (.conv .u64 (t 9)),bi .mul 11 (t 8) (t 10),mv 6 (t 11)]
def r_P_3:List CI:=[mv 12 (t 6),bi .shr 13 (t 12) (.c (.int .u64 32)),oo 14 (.conv .u32 (t 13)),mv 15 (t 6),oo 16 (.conv .u32 (t 15)),mv 4 (t 14),mv 5 (t 16)]
def c_P:CC:=(.seq (.ops r_P_1) (bs [0,1]) (.seq (.ops r_P_2) (bs [6]) (.seq (.ops r_P_3) (bs [4,5]) .ret)))
def f_P:zn:=⟨17,[.tmp (bits 4),.tmp (bits 5)],c_P,none,none⟩
def r_s_1:List CI:=[mv 4 (.c (.int .u64 0)),mv 5 (.c (.int .u64 0))]
def r_s_2:List CI:=[mv 14 (t 0),bi .and 15 (t 14) (.c (.int .u64 4294967295)),mv 6 (t 15)]
def r_s_3:List CI:=[mv 16 (t 0),bi .shr 17 (t 16) (.c (.int .u64 32)),mv 7 (t 17)]
def r_s_4:List CI:=[mv 18 (t 1),bi .and 19 (t 18) (.c (.int .u64 4294967295)),mv 8 (t 19)]
def r_s_5:List CI:=[mv 20 (t 1),bi .shr 21 (t 20) (.c (.int .u64 32)),mv 9 (t 21)]
def r_s_6:List CI:=[mv 22 (t 6),mv 23 (t 8),bi .mul 24 (t 22) (t 23),mv 10 (t 24)]
def r_s_7:List CI:=[mv 25 (t 7),mv 26 (t 8),bi .mul 27 (t 25) (t 26),mv 28 (t 10),bi .shr 29 (t 28) (.c (.int .u64 32)),bi .add 30 (t 27) (t 29),mv 11 (t 30)]
def r_s_8:List CI:=[mv 31 (t 11),bi .and 32 (t 31) (.c (.int .u64 4294967295)),mv 12 (t 32)]
def r_s_9:List CI:=[mv 33 (t 11),bi .shr 34 (t 33) (.c (.int .u64 32)),mv 13 (t 34)]
def r_s_10:List CI:=[mv 35 (t 12),mv 36 (t 6),mv 37 (t 9),bi .mul 38 (t 36) (t 37),bi .add 39 (t 35) (t 38),mv 12 (t 39)]
def r_s_11:List CI:=[mv 40 (t 7),mv 41 (t 9),bi .mul 42 (t 40) (t 41),mv 43 (t 13),bi .add 44 (t 42) (t 43),mv 45 (t 12),bi .shr 46 (t 45) (.c (.int .u64 32)),bi .add 47 (t 44) (t 46),mv 4 (t 47)]
def r_s_12:List CI:=[mv 48 (t 0),mv 49 (t 1),bi .mul 50 (t 48) (t 49),mv 5 (t 50)]
def c_s:CC:=(.seq (.ops r_s_1) (bs [0,1]) (.seq (.ops r_s_2) (bs [0,1,6]) (.seq (.ops r_s_3) (bs [0,1,6,7]) (.seq (.ops r_s_4) (bs [0,1,6,7,8]) (.seq (.ops r_s_5) (bs [0,1,6,7,8,9]) (.seq (.ops r_s_6) (bs [0,1,6,7,8,9,10]) (.seq (.ops r_s_7) (bs [0,1,6,7,9,11]) (.seq (.ops r_s_8) (bs [0,1,6,7,9,11,12]) (.seq (.ops r_s_9) (bs [0,1,6,7,9,12,13]) (.seq (.ops r_s_10) (bs [0,1,7,9,12,13]) (.seq (.ops r_s_11) (bs [0,1,4]) (.seq (.ops r_s_12) (bs [4,5]) .ret))))))))))))
def f_s:zn:=⟨51,[.tmp (bits 4),.tmp (bits 5)],c_s,none,none⟩
end Go.Ideal.Q
namespace Go.Ideal
noncomputable section
variable {P:Program}
def zbG (W:World) (b:Nat):Bool:=match W.heap[b]? with
 |some (.cells _ _ _)=>true
 |_=>false
def okV (W:World):Value→Bool
 |.bool _=>true
 |.int _ _=>true
 |.string _=>true
 |.nilFunc=>true
 |.pointer none=>true
 |.map none=>true
 |.slice none 0 0=>true
 |.slice (some a) len cap=>a.spot.isNone&&(decide (len≤cap)&&(decide (cap<zo)&&zbG W a.block))
 |.pointer (some a)=>a.spot.isNone&&zbG W a.block
 |_=>false
def isDang:Value→Bool
 |.slice (some _) 0 0=>true
 |_=>false
def dang (W:World):Value:=.slice (some ⟨W.heap.size,0,none⟩) 0 0
def impV (W:World) (v:Value):Value:=if okV W v then v else if isDang v then dang W else poison
def impObj (W:World):Obj→Option IObj
 |.cells c _ _=>some (.cells (c.toList.map (impV W)) roE)
 |_=>none
open Classical in
def dangR (W:World):Option RB:=if h: ∃b,zbG W b=true then some ⟨Classical.choose h,0,0,0,1,none⟩ else none
def zc7 (W:World) (i:Nat):Option RB:=if i=W.heap.size then dangR W else(W.heap[i]?).bind fun o=>match o with
 |.cells c _ _=>some ⟨i,0,c.size,roE,c.size,some o⟩
 |_=>none
def zlI (W:World) (n:Nat):PT IObj:=Nat.rec (motive:=fun _=>PT IObj) .nil (fun i t=>match(W.heap[i]?).bind (impObj W) with|some o=>t.set (bits i) o|none=>t) n
def impH (W:World):H:=⟨W.heap.size+1,zlI W W.heap.size⟩
theorem zhh (W:World): ∀(n j:Nat),(zlI W n).get (bits j)=if j<n then(W.heap[j]?).bind (impObj W) else none
 |0,j=>by rw[if_neg (by omega)];exact PT.get_nil _
 |n+1,j=>by
  have e:zlI W (n+1)=match(W.heap[n]?).bind (impObj W) with|some o=>(zlI W n).set (bits n) o|none=>zlI W n:=rfl
  rw[e]
  cases ho:(W.heap[n]?).bind (impObj W) with
  |none=>
   rw[zhh W n j]
   by_cases h:j<n
   ·rw[if_pos h,if_pos (by omega)]
   ·rw[if_neg h]
    by_cases e:j=n
    ·subst e;rw[if_pos (by omega),ho]
    ·rw[if_neg (by omega)]
  |some o=>
   dsimp only
   rw[PT.get_set_bits,zhh W n j]
   by_cases e:n=j
   ·subst e;rw[if_pos rfl,if_pos (by omega),ho]
   ·rw[if_neg e]
    by_cases h:j<n
    ·rw[if_pos h,if_pos (by omega)]
    ·rw[if_neg h,if_neg (by omega)]
theorem zgu (W:World) (j:Nat):(impH W).get j=(W.heap[j]?).bind (impObj W):=by
 show(zlI W W.heap.size).get (bits j)=_
 rw[zhh]
 by_cases h:j<W.heap.size
 ·rw[if_pos h]
 ·rw[if_neg h,Array.getElem?_eq_none (by omega)];rfl
theorem zfo {W:World} {b:Nat} {c:Array Value} {t:TypeId} {fr:Nat×Nat} (h:W.heap[b]? =some (.cells c t fr)):(impH W).get b=some (.cells (c.toList.map (impV W)) roE):=by rw[zgu,h];rfl
theorem zjl (W:World):(impH W).next=W.heap.size+1:=rfl
theorem zlH {W:World} {b:Nat} (h:zbG W b=true):b<W.heap.size:=by
 unfold zbG at h
 split at h
 ·rename_i hb;exact(Array.getElem?_eq_some_iff.1 hb).1
 ·cases h
theorem impRho_lt {W:World} {i:Nat} (h:i<W.heap.size):zc7 W i=(W.heap[i]?).bind fun o=>match o with|.cells c _ _=>some ⟨i,0,c.size,roE,c.size,some o⟩|_=>none:=by
 unfold zc7;rw[if_neg (by omega)]
theorem zdz {W:World} {b:Nat} (h:zbG W b=true): ∃R,zc7 W b=some R∧R.blk=b∧R.base=0:=by
 have hlt:=zlH h
 unfold zbG at h
 split at h
 ·rename_i c t fr hb
  exact⟨_,by rw[impRho_lt hlt,hb];rfl,rfl,rfl⟩
 ·cases h
theorem okV_rel {W:World} {v:Value} (h:okV W v=true):VR (zc7 W) v v:=by
 unfold okV at h
 split at h
 ·exact .bool _
 ·exact .int _ _
 ·exact .str _
 ·exact .nilFunc
 ·exact .ptrNil
 ·exact .mapNil
 ·exact .sliceNil
 ·rename_i a len cap
  simp only[Bool.and_eq_true,Option.isNone_iff_eq_none,decide_eq_true_eq] at h
  obtain⟨h1,h2,h3,h4⟩:=h
  obtain⟨R,hR,hb,h0⟩:=zdz h4
  obtain⟨b,o,sp⟩:=a
  simp only at h1 hR hb
  subst h1
  have:=VR.slice (o:=o) (len:=len) hR h3 h2
  rw[hb,h0,Nat.zero_add] at this
  exact this
 ·rename_i a
  simp only[Bool.and_eq_true,Option.isNone_iff_eq_none] at h
  obtain⟨h1,h4⟩:=h
  obtain⟨R,hR,hb,h0⟩:=zdz h4
  obtain⟨b,o,sp⟩:=a
  simp only at h1 hR hb
  subst h1
  have:=VR.ptr (o:=o) hR
  rw[hb,h0,Nat.zero_add] at this
  exact this
 ·cases h
theorem zcy {W:World} {i:Nat} {R:RB} (h:zc7 W i=some R):(i≠W.heap.size∧ ∃c t fr,W.heap[i]? =some (.cells c t fr)∧R=⟨i,0,c.size,roE,c.size,some (.cells c t fr)⟩)∨(i=W.heap.size∧zbG W R.blk=true):=by
 unfold zc7 at h
 split at h
 ·rename_i e
  refine .inr ⟨e,?_⟩
  unfold dangR at h
  split at h
  ·rename_i hx;cases h;exact Classical.choose_spec hx
  ·cases h
 ·rename_i e
  obtain⟨o,ho,h⟩:=aof h
  cases o with
  |cells c t fr=>cases h;exact .inl ⟨e,c,t,fr,ho,rfl⟩
  |_=>cases h
theorem zhg {W:World} {i:Nat} {R:RB} {o:IObj} (h:zc7 W i=some R) (ho:(impH W).get i=some o): ∃c t fr,W.heap[i]? =some (.cells c t fr)∧R=⟨i,0,c.size,roE,c.size,some (.cells c t fr)⟩:=by
 rcases zcy h with⟨-,h⟩| ⟨rfl,-⟩
 ·exact h
 ·rw[zgu,Array.getElem?_eq_none (Nat.le_refl _)] at ho;cases ho
theorem dang_rel {W:World} {v:Value} {b:Nat} (hb:zbG W b=true) (h:isDang v=true):VR (zc7 W) (dang W) v:=by
 unfold isDang at h
 split at h
 ·refine .sliceD (R:=⟨Classical.choose (⟨b,hb⟩: ∃b,zbG W b=true),0,0,0,1,none⟩) ?_ (by show 0<1;omega)
  unfold zc7;rw[if_pos rfl];unfold dangR;rw[dif_pos ⟨b,hb⟩]
 ·cases h
theorem imp_HR (W:World):HR P (zc7 W) (impH W) W where
 obj:=fun i R o hi ho=>by
  obtain⟨c,t,fr,hb,rfl⟩:=zhg hi ho
  rw[zfo hb] at ho;cases ho
  refine⟨rfl,by simp,c,t,fr,hb,.inr ⟨rfl,rfl⟩,rfl,by simp,fun j v hj=> ?_⟩
  rw[List.getElem?_map] at hj
  obtain⟨x,hx,rfl⟩:=Option.map_eq_some_iff.1 hj
  refine⟨x,by rw[Array.getElem?_toList] at hx;simpa using hx,?_⟩
  unfold impV
  by_cases hok:okV W x=true
  ·rw[if_pos hok];exact .inr (okV_rel hok)
  ·rw[if_neg hok]
   by_cases hd:isDang x=true
   ·rw[if_pos hd];exact .inr (dang_rel (b:=i) (by unfold zbG;rw[hb]) hd)
   ·rw[if_neg hd];exact .inl rfl
 nxt:=fun i hi=>by
  have hi':W.heap.size+1≤i:=hi
  have hn:W.heap[i]? =none:=Array.getElem?_eq_none (by omega)
  exact⟨by unfold zc7;rw[if_neg (by omega),hn];rfl,by rw[zgu,hn];rfl⟩
 sep:=fun i j R S hi hj ai aj e=>by
  obtain⟨o,ho,-⟩:=ai
  obtain⟨o',ho',-⟩:=aj
  obtain⟨_,_,_,_,rfl⟩:=zhg hi ho
  obtain⟨_,_,_,_,rfl⟩:=zhg hj ho'
  exact e
 blk:=fun i R hi=>by
  rcases zcy hi with⟨-,_,_,_,hb,rfl⟩| ⟨-,hc⟩
  ·exact(Array.getElem?_eq_some_iff.1 hb).1
  ·exact zlH hc
 glb:=fun i b x hi=>by
  rw[zgu] at hi
  obtain⟨o,-,ho⟩:=aof hi
  cases o<;>cases ho
def okArg (W:World):Value→Bool
 |.agg cs=>cs.toList.all (okV W)
 |v=>okV W v
theorem okArg_rel {W:World} {v:Value} (h:okArg W v=true):VR (zc7 W) v v:=by
 unfold okArg at h
 split at h
 ·rename_i cs
  have:VRL (zc7 W) cs.toList cs.toList:=⟨rfl,fun j x y hx hy=>by rw[hx] at hy;cases hy;exact okV_rel (List.all_eq_true.1 h x (List.mem_of_getElem? hx))⟩
  exact VR.agg_of this
 ·exact okV_rel h
theorem calls_import {F:FuncId→Option zn} (hmix:P.follows .mixedOrders=true) (hF: ∀g cf,F g=some cf→FnOk P g cf) {g:FuncId} {args:Array Value} {W:World} (hargs: ∀v∈args.toList,okArg W v=true)
 {b:Bool} {n:Nat} {h':H} (hn:E F n (.call (.func (.func g) #[] #[]) args.toList (impH W))=some (.val (.bool b) h')) (hfr: ∀i,i<W.heap.size→h'.get i=(impH W).get i):
 Calls P g args W fun e W'=>e=.returned (.bool b)∧Same W W':=by
 have ra:VRL (zc7 W) args.toList args.toList:=⟨rfl,fun j x y hx hy=>by rw[hx] at hy;cases hy;exact okArg_rel (hargs x (List.mem_of_getElem? hx))⟩
 refine(zfs hmix hF hn ra (imp_HR W)).mono ?_
 rintro e W' ⟨v',σ,rfl,hv,hr,hx⟩
 refine⟨by rw[hv.inv_bool],hx.os,hx.out,fun B hB=> ?_,hx.froz,hx.td,hx.size⟩
 by_cases hc:zbG W B=true
 ·obtain⟨R,hR,hb,h0⟩:=zdz hc
  obtain⟨-,c,t,fr,hWB,rfl⟩:=(zcy hR).resolve_right (fun h=>by omega)
  have ho:=hr.obj B _ _ (hx.le _ _ hR) (by rw[hfr B hB];exact zfo hWB)
  obtain⟨_,_,c',t',fr',q1,q2,_⟩:=ho
  rcases q2 with⟨q2,_⟩| ⟨q2,_⟩
  ·cases q2
  ·rw[q1,hWB];exact(q2.symm▸rfl:some (Obj.cells c' t' fr')=some (Obj.cells c t fr))
 ·refine hx.frame B hB fun i R hi e=> ?_
  rcases zcy hi with⟨-,c,t,fr,hWB,rfl⟩| ⟨-,hcc⟩
  ·have e:i=B:=e
   subst e
   exact hc (by unfold zbG;rw[hWB])
  ·rw[e] at hcc;exact hc hcc
theorem prim_of {F:FuncId→Option zn} (hmix:P.follows .mixedOrders=true) (hF: ∀g cf,F g=some cf→FnOk P g cf) {g:FuncId} {fn:Func} {cf0:zn} (hfn:P.funcs[g]? =some fn) (hcf:zbi P fn=some (zeD cf0)) {b:Bool} {n:Nat} {h':H}
 (he:E F n (.call (.func (.func g) #[] #[]) [] .empty)=some (.val (.bool b) h')):FnOk P g (zg8 b):=by
 refine .inr (.inl ⟨fn,cf0,b,hfn,hcf,rfl,fun w=> ?_⟩)
 have hr:HR P (fun _=>none) H.empty w:=⟨fun _ _ _ h=>(by cases h),fun i _=>⟨rfl,PT.get_nil _⟩,fun _ _ _ _ h=>(by cases h),fun _ _ h=>(by cases h),fun i _ _ h=>by rw[H.get_empty] at h;cases h⟩
 refine(zfs hmix hF he (args':= #[]) ⟨rfl,fun j x y hx=>by simp at hx⟩ hr).mono ?_
 rintro e w' ⟨v',σ,rfl,hv,-,hx⟩
 exact⟨by rw[hv.inv_bool],hx.os,hx.out,fun B hB=>hx.frame B hB fun _ _ h=>(by cases h),hx.froz,hx.td,hx.size⟩
section
open Go.ChangeShapes Go.WideShapes Go.RowKit
variable {H:Type} {enc:TypeId×Value→H}
theorem Same.kept {W W':World} (h:Same W W') (may:MemPlace→Prop):W.keptBut W' may:=by
 refine⟨h.os,h.out,fun i hi=> ?_⟩
 rw[h.heap i hi]
 cases ho:W.heap[i]? with
 |none=>trivial
 |some o=>
  cases o with
  |cells c t fr=>exact⟨rfl,rfl,rfl,fun _ _=>rfl⟩
  |map es c=>exact .inr ⟨rfl,rfl⟩
  |_=>rfl
theorem Same.at {W W':World} (h:Same W W') {p:MemPlace} (hp:p.block<W.heap.size):W.sameAt W' p:=by
 cases p with
 |cell b off=>
  show W'.cell? ⟨b,off,none⟩=W.cell? ⟨b,off,none⟩
  have:=h.heap b hp
  simp only[World.cell?,this]
 |map b=>exact h.heap b hp
theorem zf9 (hl:laidOutB P=true) {W W':World} {sp':Nat→Bool} (hs:Same W W'): ∀{ts:List TypeId} {vs:List Value} {ds:List (DataW H)} {ps:List MemPlace},(∀t∈ts,P.readableRec t=true∧t<P.types.size)→
 DataW.TrodAll enc P W 0 (fun _=>true) true ts vs ds ps→(∀p∈ps,p.block<W.heap.size)→(∀p∈ps,sp' p.block=true)→DataW.TrodAll enc P W' 0 sp' true ts vs ds ps
 | [],vs,ds,ps,_,h,_,_=>by
   obtain⟨rfl,rfl,rfl⟩:=trodAll_nil h
   exact trodAll_mk0
 |t::ts,vs,ds,ps,ht,h,hlt,hsp=>by
  obtain⟨v,vs',d,ds',p,q,rfl,rfl,rfl,h1,h2⟩:=trodAll_cons h
  obtain⟨r1,r2⟩:=ht t (by simp)
  exact trodAll_cons_mk (WideElems.Trod_stays hl r1 r2 h1 (fun x hx=>hs.at (hlt x (by simp[hx]))) (fun x hx=>hsp x (by simp[hx])))
   (zf9 hl hs (fun t ht'=>ht t (by simp[ht'])) h2 (fun x hx=>hlt x (by simp[hx])) (fun x hx=>hsp x (by simp[hx])))
theorem post_kept {f:Func} {s:ChangeSpec} {apart fresh handsOn again:Bool} {W W':World} {args:Array Value} {v:Value} {ds gs:List (DataW H)} {before pa pv:List MemPlace}
 (hW:DataW.Whole enc P f.params.toList s.vars apart W args.toList ds gs before)
 (hres: ∀(b:Nat) (sp:Nat→Bool) (hd:Bool),DataW.TrodAll enc P W' b sp hd f.resultTypes.toList (v.resultList f.resultTypes.size) (s.fn H (ds++gs)).results [])
 (hargs: ∀sp:Nat→Bool,(∀p∈before,sp p.block=true)→DataW.TrodAll enc P W' 0 sp true f.params.toList args.toList (s.fn H (ds++gs)).args pa)
 (hvars: ∀sp:Nat→Bool,(∀p∈before,sp p.block=true)→DataW.TrodVars enc P W' sp s.vars (s.fn H (ds++gs)).vars pv)
 (hps:before=pa++pv) (hk:W.keptBut W' (· ∈before)) (hfz: ∀a:Addr,a.block<W.heap.size→W'.frozen? a=W.frozen? a)
 (hok: ∀(j:Nat) (t:TypeId) (r:Value),f.resultTypes[j]? =some t→(v.resultList f.resultTypes.size)[j]? =some r→Value.okWide P W' .any 0 t r):
 s.post enc P f apart fresh handsOn again W args v W':=by
 refine⟨ds,gs,before,[],pa,pv,hW,hres _ _ _,hargs _ fun p hp=>by simpa using hW.lt p hp,hvars _ fun p hp=>by simpa using hW.lt p hp,World.keptBut_mono (fun p hp=>⟨hp,?_⟩) hk,fun _=> ?_⟩
 ·rw[hps,List.mem_append] at hp
  exact Or.inr hp
 ·have hlt:=hW.lt
  obtain⟨_,_,_,_,_,hz,hn⟩:=hW
  refine⟨hok,_,_,([]++pa)++pv,⟨[]++pa,pv,trodAll_append (hargs _ (fun _ _=>rfl)) (hres _ _ _),hvars _ (fun _ _=>rfl),rfl,fun b off hp=> ?_,fun ha=> ?_⟩,fun p hp _=> ?_⟩
  ·have hb:MemPlace.cell b off∈before:=by rw[hps];simpa using hp
   rw[hfz ⟨b,off,none⟩ (hlt _ hb)]
   exact hz b off hb
  ·have:=hn ha
   rw[hps] at this
   simpa using this
  ·rw[hps]
   simpa using hp
theorem law_post {s:ChangeSpec} {fn:Func} {apart fresh handsOn again:Bool} {W W':World} {args:Array Value} {ds gs:List (DataW H)} {before:List MemPlace} {t:TypeId} (hW:DataW.Whole enc P fn.params.toList s.vars apart W args.toList ds gs before)
 (hvars:s.vars=[]) (hspec:s.fn H (ds++gs)={results:=[.lit (.bool true)],args:=ds}) (hres:fn.resultTypes= #[t]) (ht:P.underlying t=some .bool) (hsame:Same W W') (hl:laidOutB P=true) (hr: ∀t∈fn.params.toList,P.readableRec t=true∧t<P.types.size):
 s.post enc P fn apart fresh handsOn again W args (.bool true) W':=by
 have hW':=hW
 obtain⟨p,q,hA,hV,rfl,hfz,hnd⟩:=hW
 rw[hvars] at hV
 obtain⟨rfl,rfl⟩:=trodVars_none hV
 refine post_kept (pa:=p) (pv:=[]) hW' (fun b sp hd=> ?_) (fun sp hsp=> ?_) (fun sp hsp=> ?_) rfl (hsame.kept _) hsame.froz ?_
 ·rw[hspec,hres]
  exact trodAll_mk1 (shut_bool ht true)
 ·rw[hspec]
  exact zf9 hl hsame hr hA (fun x hx=>hW'.lt x (by simp[hx])) (fun x hx=>hsp x (by simp[hx]))
 ·rw[hspec,hvars];rfl
 ·exact ok_one hres rfl (okWide_bool_mk ht true)
end
end
end Go.Ideal
namespace Go.Ideal
noncomputable section
variable {P:Program}
def allEq {α:Type} (f:α→α→Bool):List α→List α→Bool
 | [],[]=>true
 |a::l,b::m=>f a b&&allEq f l m
 |_,_=>false
theorem zfu {α:Type} {f:α→α→Bool} (hf: ∀a b,f a b=true→a=b): ∀{l m:List α},allEq f l m=true→l=m
 | [],[],_=>rfl
 | [],_::_,h=>by cases h
 |_::_,[],h=>by cases h
 |a::l,b::m,h=>by
  simp only[allEq,Bool.and_eq_true] at h
  rw[hf _ _ h.1,zfu hf h.2]
def eqX:Nat→Value→Value→Bool
 |n+1,.agg a,.agg b=>allEq (eqX n) a.toList b.toList
 |n+1,.tuple a,.tuple b=>allEq (eqX n) a.toList b.toList
 |n+1,.iface t a,.iface u b=>Nat.beq t u&&eqX n a b
 |_,.nilIface,.nilIface=>true
 |_,.func (.func f) a b,.func (.func g) c d=>Nat.beq f g&&(a.isEmpty&&b.isEmpty&&(c.isEmpty&&d.isEmpty))
 |_,a,b=>zfE a b
theorem zlN: ∀(n:Nat) (a b:Value),eqX n a b=true→a=b:=by
 intro n
 induction n with
 |zero=>
  intro a b h
  unfold eqX at h
  split at h
  ·rename_i e;exact absurd e (by simp)
  ·rename_i e;exact absurd e (by simp)
  ·rename_i e;exact absurd e (by simp)
  ·rfl
  ·simp only[Bool.and_eq_true,Array.isEmpty_iff] at h
   obtain⟨h1,⟨h2,h3⟩,h4,h5⟩:=h
   rw[Nat.eq_of_beq_eq_true h1,h2,h3,h4,h5]
  ·exact zgH h
 |succ n ih=>
  intro a b h
  unfold eqX at h
  split at h
  ·rename_i e;cases e;rw[Array.toList_inj.1 (zfu ih h)]
  ·rename_i e;cases e;rw[Array.toList_inj.1 (zfu ih h)]
  ·rename_i e;cases e;rw[Bool.and_eq_true] at h;rw[Nat.eq_of_beq_eq_true h.1,ih _ _ h.2]
  ·rfl
  ·simp only[Bool.and_eq_true,Array.isEmpty_iff] at h
   obtain⟨h1,⟨h2,h3⟩,h4,h5⟩:=h
   rw[Nat.eq_of_beq_eq_true h1,h2,h3,h4,h5]
  ·exact zgH h
def eqEnt (a b:Value×Value×Nat):Bool:=eqX 4 a.1 b.1&&(eqX 4 a.2.1 b.2.1&&Nat.beq a.2.2 b.2.2)
theorem eqEnt_eq (a b:Value×Value×Nat) (h:eqEnt a b=true):a=b:=by
 simp only[eqEnt,Bool.and_eq_true] at h
 obtain⟨a1,a2,a3⟩:=a
 obtain⟨b1,b2,b3⟩:=b
 have h1:=zlN _ _ _ h.1
 have h2:=zlN _ _ _ h.2.1
 have h3:=Nat.eq_of_beq_eq_true h.2.2
 simp only at h1 h2 h3
 rw[h1,h2,h3]
def eqObj:IObj→IObj→Bool
 |.cells a e,.cells b f=>Nat.beq e f&&allEq (eqX 4) a b
 |.map a c,.map b d=>Nat.beq c d&&allEq eqEnt a b
 |.glob b x,.glob c y=>Nat.beq b c&&eqX 4 x y
 |.dead,.dead=>true
 |_,_=>false
theorem eqObj_eq {a b:IObj} (h:eqObj a b=true):a=b:=by
 unfold eqObj at h
 split at h
 ·rw[Bool.and_eq_true] at h;rw[Nat.eq_of_beq_eq_true h.1,zfu (zlN 4) h.2]
 ·rw[Bool.and_eq_true] at h;rw[Nat.eq_of_beq_eq_true h.1,zfu eqEnt_eq h.2]
 ·rw[Bool.and_eq_true] at h;rw[Nat.eq_of_beq_eq_true h.1,zlN _ _ _ h.2]
 ·rfl
 ·cases h
def liveO:IObj→Bool
 |.dead=>false
 |_=>true
def refF (S:Nat→Bool):Nat→Value→Bool
 |n+1,.agg a=>a.toList.all (refF S n)
 |n+1,.tuple a=>a.toList.all (refF S n)
 |n+1,.iface _ v=>refF S n v
 |_,.pointer (some a)=>S a.block
 |_,.slice (some a) _ _=>S a.block
 |_,.map (some i)=>S i
 |_,.func (.func _) a b=>a.isEmpty&&b.isEmpty
 |_,.bool _=>true
 |_,.int _ _=>true
 |_,.string _=>true
 |_,.pointer none=>true
 |_,.slice none _ _=>true
 |_,.map none=>true
 |_,.nilFunc=>true
 |_,.nilIface=>true
 |_,.complex _ _ _=>true
 |_,_=>false
theorem VR.agree {ρ σ:Rho} {S:Nat→Bool} (hS: ∀i,S i=true→σ i=ρ i): ∀(n:Nat) {v v':Value},VR ρ v v'→refF S n v=true→VR σ v v':=by
 intro n
 induction n with
 |zero=>
  intro v v' h hv
  cases h with
  |bool b=>exact .bool b
  |int k n=>exact .int k n
  |str s=>exact .str s
  |ptrNil=>exact .ptrNil
  |ptr h=>exact .ptr ((hS _ hv).trans h)
  |sliceNil=>exact .sliceNil
  |slice h hc hl=>exact .slice ((hS _ hv).trans h) hc hl
  |sliceO h he hl hs hb=>exact .sliceO ((hS _ hv).trans h) he hl hs hb
  |sliceE h he hb=>exact .sliceE ((hS _ hv).trans h) he hb
  |sliceD h hm=>exact .sliceD ((hS _ hv).trans h) hm
  |sliceR h he hl=>exact .sliceR ((hS _ hv).trans h) he hl
  |mapNil=>exact .mapNil
  |map h=>exact .map ((hS _ hv).trans h)
  |func f ha hb ra rb=>
   have hv:(Array.isEmpty _&&Array.isEmpty _)=true:=hv
   simp only[Bool.and_eq_true,Array.isEmpty_iff] at hv
   obtain⟨rfl,rfl⟩:=hv
   exact .func f ha hb (fun j x y hx=>by simp at hx) (fun j x y hx=>by simp at hx)
  |yield h=>cases hv
  |nilFunc=>exact .nilFunc
  |nilIface=>exact .nilIface
  |iface t h=>cases hv
  |agg ha ra=>cases hv
  |tuple ha ra=>cases hv
 |succ n ih=>
  intro v v' h hv
  cases h with
  |bool b=>exact .bool b
  |int k n=>exact .int k n
  |str s=>exact .str s
  |ptrNil=>exact .ptrNil
  |ptr h=>exact .ptr ((hS _ hv).trans h)
  |sliceNil=>exact .sliceNil
  |slice h hc hl=>exact .slice ((hS _ hv).trans h) hc hl
  |sliceO h he hl hs hb=>exact .sliceO ((hS _ hv).trans h) he hl hs hb
  |sliceE h he hb=>exact .sliceE ((hS _ hv).trans h) he hb
  |sliceD h hm=>exact .sliceD ((hS _ hv).trans h) hm
  |sliceR h he hl=>exact .sliceR ((hS _ hv).trans h) he hl
  |mapNil=>exact .mapNil
  |map h=>exact .map ((hS _ hv).trans h)
  |func f ha hb ra rb=>
   have hv:(Array.isEmpty _&&Array.isEmpty _)=true:=hv
   simp only[Bool.and_eq_true,Array.isEmpty_iff] at hv
   obtain⟨rfl,rfl⟩:=hv
   exact .func f ha hb (fun j x y hx=>by simp at hx) (fun j x y hx=>by simp at hx)
  |yield h=>cases hv
  |nilFunc=>exact .nilFunc
  |nilIface=>exact .nilIface
  |iface t h=>exact .iface t (ih h hv)
  |agg ha ra=>
   exact .agg ha (fun j x y hx hy=>ih (ra j x y hx hy) (List.all_eq_true.1 (show(Array.toList _).all (refF S n)=true from hv) x (Array.mem_toList_iff.2 (Array.mem_of_getElem? hx))))
  |tuple ha ra=>
   exact .tuple ha (fun j x y hx hy=>ih (ra j x y hx hy) (List.all_eq_true.1 (show(Array.toList _).all (refF S n)=true from hv) x (Array.mem_toList_iff.2 (Array.mem_of_getElem? hx))))
def refO (S:Nat→Bool):IObj→Bool
 |.cells cs _=>cs.all (refF S 4)
 |.map es _=>es.all fun e=>refF S 4 e.1&&refF S 4 e.2.1
 |.glob _ _=>true
 |.dead=>true
 |.loop _ _ _ _=>false
theorem OR.agree {ρ σ:Rho} {S:Nat→Bool} (hS: ∀i,S i=true→σ i=ρ i) {w:World} {R:RB} {o:IObj} (h:OR P ρ w R o) (ho:refO S o=true):OR P σ w R o:=by
 cases o with
 |cells cs esz=>
  obtain⟨h1,h2,c,t,fr,h3,h7,h4,h5,h6⟩:=h
  exact⟨h1,h2,c,t,fr,h3,h7,h4,h5,fun j v hj=>let⟨v',a,b⟩:=h6 j v hj;⟨v',a,b.imp id (fun b=>b.agree hS 4 (List.all_eq_true.1 ho v (List.mem_of_getElem? hj)))⟩⟩
 |map es clock=>
  obtain⟨es',h1,h2,h3⟩:=h
  refine⟨es',h1,h2,fun j e hj=> ?_⟩
  obtain⟨e',a,b,c,d⟩:=h3 j e hj
  have:=List.all_eq_true.1 ho e (List.mem_of_getElem? hj)
  rw[Bool.and_eq_true] at this
  exact⟨e',a,b.agree hS 4 this.1,c.agree hS 4 this.2,d⟩
 |glob b x=>exact h
 |loop _ _ _ _=>cases ho
 |dead=>trivial
theorem VRL.agree {ρ σ:Rho} {S:Nat→Bool} (hS: ∀i,S i=true→σ i=ρ i) {xs ys:List Value} (h:VRL ρ xs ys) (hx:xs.all (refF S 4)=true):VRL σ xs ys:=
 ⟨h.1,fun j x y h1 h2=>(h.2 j x y h1 h2).agree hS 4 (List.all_eq_true.1 hx x (List.mem_of_getElem? h1))⟩
structure zcM where
 args:List Value
 next:Nat
 pre:List (Nat×IObj)
 val:Value
 next':Nat
 post:List (Nat×IObj)
def ziy (l:List (Nat×IObj)) (t:PT IObj):PT IObj:=List.rec (motive:=fun _=>PT IObj) t (fun x _ ih=>ih.set (bits x.1) x.2) l
def matchH (h:H) (l:List (Nat×IObj)):Bool:=l.all fun x=>match h.get x.1 with
 |some o=>eqObj o x.2
 |none=>false
def zbw (l:List (Nat×IObj)) (i:Nat):Bool:=l.any fun x=>Nat.beq x.1 i
def zcM.fits (p:zcM) (args:List Value) (h:H):Bool:=Nat.beq h.next p.next&&(allEq (eqX 4) args p.args&&matchH h p.pre)
def zcM.out (p:zcM) (h:H):Value×H:=(p.val,⟨p.next',ziy p.post h.mem⟩)
def zeT (l:List zcM) (args:List Value) (h:H):Option (Value×H):=
 List.rec (motive:=fun _=>Option (Value×H)) none (fun p _ ih=>match p.fits args h with|true=>some (p.out h)|false=>ih) l
def zcM.start (p:zcM):H:=⟨p.next,ziy p.pre .nil⟩
def zcM.ends (p:zcM):Option Out→Bool
 |some (.val v h)=>eqX 4 v p.val&&(Nat.beq h.next p.next'&&matchH h p.post)
 |_=>false
def zcM.runs (F:FuncId→Option zn) (n:Nat) (g:FuncId) (p:zcM):Bool:=p.ends (E F n (.call (.func (.func g) #[] #[]) p.args p.start))
def zcM.good (p:zcM):Bool:=
 Nat.ble p.next p.next'&&(p.pre.all (fun x=>Nat.blt x.1 p.next&&zbw p.post x.1)&&(p.post.all (fun x=>zbw p.pre x.1||(Nat.ble p.next x.1&&Nat.blt x.1 p.next'))&&
 (p.args.all (refF (zbw p.pre) 4)&&(p.pre.all (fun x=>liveO x.2&&refO (zbw p.pre) x.2)&&(refF (zbw p.post) 4 p.val&&p.post.all (fun x=>refO (zbw p.post) x.2))))))
theorem hasId_iff {l:List (Nat×IObj)} {i:Nat}:zbw l i=true↔ ∃o,(i,o)∈l:=by
 unfold zbw
 rw[List.any_eq_true]
 constructor
 ·rintro⟨⟨j,o⟩,h1,h2⟩;exact⟨o,by rw[←Nat.eq_of_beq_eq_true h2];exact h1⟩
 ·rintro⟨o,h⟩;exact⟨(i,o),h,Nat.beq_refl i⟩
theorem zku {l:List (Nat×IObj)} {t:PT IObj} {i:Nat} (h:zbw l i=false):(ziy l t).get (bits i)=t.get (bits i):=by
 induction l with
 |nil=>rfl
 |cons x l ih=>
  have h':(Nat.beq x.1 i||zbw l i)=false:=h
  rw[Bool.or_eq_false_iff] at h'
  show((ziy l t).set (bits x.1) x.2).get (bits i)=_
  rw[PT.get_set_bits,if_neg (by rintro rfl;rw[Nat.beq_refl] at h';cases h'.1),ih h'.2]
theorem setAll_in {l:List (Nat×IObj)} {t:PT IObj} {i:Nat} (h:zbw l i=true): ∃o,(i,o)∈l∧(ziy l t).get (bits i)=some o:=by
 induction l with
 |nil=>cases h
 |cons x l ih=>
  have e:(ziy (x::l) t).get (bits i)=if x.1=i then some x.2 else(ziy l t).get (bits i):=PT.get_set_bits _ _ _ _
  rw[e]
  by_cases hi:x.1=i
  ·rw[if_pos hi];exact⟨x.2,by subst hi;simp,rfl⟩
  ·rw[if_neg hi]
   have h':(Nat.beq x.1 i||zbw l i)=true:=h
   rw[Bool.or_eq_true] at h'
   obtain⟨o,h1,h2⟩:=ih (h'.resolve_left fun e=>hi (Nat.eq_of_beq_eq_true e))
   exact⟨o,by simp[h1],h2⟩
theorem zlE {h:H} {l:List (Nat×IObj)} (hm:matchH h l=true) {i:Nat} {o:IObj} (hi:(i,o)∈l):h.get i=some o:=by
 have:=List.all_eq_true.1 hm _ hi
 dsimp only at this
 split at this
 ·rename_i o' ho;have e:=eqObj_eq this;subst e;exact ho
 ·cases this
theorem piece_calls {F:FuncId→Option zn} (hmix:P.follows .mixedOrders=true) (hF: ∀g cf,F g=some cf→FnOk P g cf) {n:Nat} {g:FuncId} {p:zcM} (hg:p.good=true) (hrun:p.runs F n g=true)
 {args:List Value} {h:H} (hfit:p.fits args h=true) {ρ:Rho} {args':Array Value} {w:World} (ra:VRL ρ args args'.toList) (hr:HR P ρ h w):
 Calls P g args' w (zhu P ρ w (.val (p.out h).1 (p.out h).2)):=by
 simp only[zcM.good,Bool.and_eq_true] at hg
 obtain⟨g1,g2,g3,g4,g5,g6,g7⟩:=hg
 simp only[zcM.fits,Bool.and_eq_true] at hfit
 obtain⟨f1,f2,f3⟩:=hfit
 have f2:=zfu (zlN 4) f2
 subst f2
 have f1:=Nat.eq_of_beq_eq_true f1
 have g1:=Nat.le_of_ble_eq_true g1
 have preLt: ∀i,zbw p.pre i=true→i<p.next∧zbw p.post i=true:=fun i hi=>by
  obtain⟨o,ho⟩:=hasId_iff.1 hi
  have:=List.all_eq_true.1 g2 _ ho
  rw[Bool.and_eq_true] at this
  exact⟨Nat.le_of_ble_eq_true this.1,this.2⟩
 have postIn: ∀i,zbw p.post i=true→zbw p.pre i=true∨(p.next≤i∧i<p.next'):=fun i hi=>by
  obtain⟨o,ho⟩:=hasId_iff.1 hi
  have:=List.all_eq_true.1 g3 _ ho
  rw[Bool.or_eq_true,Bool.and_eq_true] at this
  exact this.imp id fun h=>⟨Nat.le_of_ble_eq_true h.1,Nat.le_of_ble_eq_true h.2⟩
 have preGet: ∀i,zbw p.pre i=true→ ∃o,h.get i=some o∧o≠ .dead∧p.start.get i=some o∧refO (zbw p.pre) o=true:=fun i hi=>by
  obtain⟨o,h1,h2⟩:=setAll_in (t:=.nil) hi
  have q1:=zlE f3 h1
  have q4:=List.all_eq_true.1 g5 _ h1
  rw[Bool.and_eq_true] at q4
  exact⟨o,q1,by rintro rfl;exact Bool.false_ne_true q4.1,h2,q4.2⟩
 have preNo: ∀i,zbw p.pre i=false→p.start.get i=none:=fun i hi=>(zku hi).trans (PT.get_nil _)
 obtain⟨ρ',hρ'⟩: ∃ρ':Rho,∀i,ρ' i=if zbw p.pre i=true then ρ i else none:=⟨_,fun _=>rfl⟩
 have agr: ∀i,zbw p.pre i=true→ρ' i=ρ i:=fun i hi=>by rw[hρ',if_pos hi]
 have sub: ∀i R,ρ' i=some R→zbw p.pre i=true∧ρ i=some R:=fun i R hi=>by
  rw[hρ'] at hi
  split at hi
  ·rename_i hc;exact⟨hc,hi⟩
  ·cases hi
 have hr':HR P ρ' p.start w:={
  obj:=fun i R o hi ho=>by
   obtain⟨hc,hi⟩:=sub i R hi
   obtain⟨o',q1,q2,q3,q4⟩:=preGet i hc
   have e:o'=o:=Option.some.inj (q3.symm.trans ho)
   subst e
   exact(hr.obj i R o' hi q1).agree agr q4
  nxt:=fun i hi=>by
   have hi:p.next≤i:=hi
   have hc:zbw p.pre i=false:=by
    rw[Bool.eq_false_iff];intro hc;have:=(preLt i hc).1;omega
   exact⟨by rw[hρ',if_neg (by rw[hc];simp)],preNo i hc⟩
  sep:=fun i j R S hi hj _ _ e=>by
   obtain⟨hc,hi⟩:=sub i R hi
   obtain⟨hd,hj⟩:=sub j S hj
   obtain⟨o,q1,q2,-,-⟩:=preGet i hc
   obtain⟨o',r1,r2,-,-⟩:=preGet j hd
   exact hr.sep i j R S hi hj ⟨o,q1,q2⟩ ⟨o',r1,r2⟩ e
  blk:=fun i R hi=>hr.blk i R (sub i R hi).2
  glb:=fun i b x hi=>by
   cases hc:zbw p.pre i with
   |false=>rw[preNo i hc] at hi;cases hi
   |true=>
    obtain⟨o',q1,-,q3,-⟩:=preGet i hc
    have e:o'=.glob b x:=Option.some.inj (q3.symm.trans hi)
    subst e
    obtain⟨R,hR⟩:=hr.glb i b x q1
    exact⟨R,(agr i hc).trans hR⟩}
 have ra':VRL ρ' p.args args'.toList:=ra.agree agr g4
 unfold zcM.runs at hrun
 generalize he:E F n (.call (.func (.func g) #[] #[]) p.args p.start)=out at hrun
 unfold zcM.ends at hrun
 split at hrun
 ·rename_i v h2
  simp only[Bool.and_eq_true] at hrun
  obtain⟨e1,e2,e3⟩:=hrun
  obtain rfl:=zlN _ _ _ e1
  have e2:=Nat.eq_of_beq_eq_true e2
  refine(zfs hmix hF he ra' hr').mono ?_
  rintro e w' ⟨v',σ2,rfl,hv,hr2,hx⟩
  obtain⟨σ,hσ⟩: ∃σ:Rho,∀i,σ i=if zbw p.post i=true then σ2 i else ρ i:=⟨_,fun _=>rfl⟩
  have agr2: ∀i,zbw p.post i=true→σ i=σ2 i:=fun i hi=>by rw[hσ,if_pos hi]
  have oth: ∀i,zbw p.post i=false→σ i=ρ i:=fun i hi=>by rw[hσ,if_neg (by rw[hi];simp)]
  have le:zgQ ρ σ:=fun i R hi=>by
   cases hc:zbw p.post i with
   |false=>rw[oth i hc];exact hi
   |true=>
    rw[agr2 i hc]
    rcases postIn i hc with hp| ⟨hp,-⟩
    ·exact hx.le i R ((agr i hp).trans hi)
    ·have:=(hr.nxt i (by omega)).1;rw[hi] at this;cases this
  have postGet: ∀i,zbw p.post i=true→ ∃o,h2.get i=some o∧(p.out h).2.get i=some o∧refO (zbw p.post) o=true:=fun i hi=>by
   obtain⟨o,h1,h3⟩:=setAll_in (t:=h.mem) hi
   have q1:=zlE e3 h1
   exact⟨o,q1,h3,List.all_eq_true.1 g7 _ h1⟩
  have postNo: ∀i,zbw p.post i=false→(p.out h).2.get i=h.get i:=fun i hi=>zku hi
  have apart: ∀i R j S,zbw p.post i=true→σ2 i=some R→zbw p.post j=false→ρ j=some S→zef h j→R.blk≠S.blk:=fun i R j S hi hiR hj hjS aj e=>by
   rcases hx.fresh i R hiR with⟨k,T,hk,hT⟩|hb
   ·obtain⟨hc,hk⟩:=sub k T hk
    obtain⟨o,q1,q2,-,-⟩:=preGet k hc
    have:=hr.sep k j T S hk hjS ⟨o,q1,q2⟩ aj (hT.trans e)
    subst this
    rw[(preLt k hc).2] at hj;cases hj
   ·have:=hr.blk j S hjS;omega
  have hrN:HR P σ (p.out h).2 w':={
   obj:=fun i R o hi ho=>by
    cases hc:zbw p.post i with
    |true=>
     rw[agr2 i hc] at hi
     obtain⟨o',q1,q3,q4⟩:=postGet i hc
     have e:o'=o:=Option.some.inj (q3.symm.trans ho)
     subst e
     exact(hr2.obj i R o' hi q1).agree agr2 q4
    |false=>
     rw[oth i hc] at hi
     rw[postNo i hc] at ho
     by_cases hd:o=.dead
     ·subst hd;trivial
     ·refine(hr.obj i R o hi ho).mono le (hx.frame _ (hr.blk i R hi) fun j S hj e=> ?_)
      obtain⟨hp,hj⟩:=sub j S hj
      obtain⟨o',q1,q2,-,-⟩:=preGet j hp
      have:=hr.sep j i S R hj hi ⟨o',q1,q2⟩ ⟨o,ho,hd⟩ e
      subst this
      rw[(preLt j hp).2] at hc;cases hc
   nxt:=fun i hi=>by
    have hi:p.next'≤i:=hi
    have hc:zbw p.post i=false:=by
     rw[Bool.eq_false_iff];intro hc
     rcases postIn i hc with hp|hp
     ·have:=(preLt i hp).1;omega
     ·omega
    rw[oth i hc,postNo i hc]
    exact hr.nxt i (by omega)
   sep:=fun i j R S hi hj ai aj e=>by
    have al: ∀k,zbw p.post k=true→zef (p.out h).2 k→zef h2 k:=fun k hk ⟨o,h1,h3⟩=>by
     obtain⟨o',q1,q2,-⟩:=postGet k hk
     have e:o'=o:=Option.some.inj (q2.symm.trans h1)
     subst e;exact⟨o',q1,h3⟩
    have al': ∀k,zbw p.post k=false→zef (p.out h).2 k→zef h k:=fun k hk ⟨o,h1,h3⟩=>⟨o,(postNo k hk).symm.trans h1,h3⟩
    cases hc:zbw p.post i with
    |true=>
     rw[agr2 i hc] at hi
     cases hd:zbw p.post j with
     |true=>rw[agr2 j hd] at hj;exact hr2.sep i j R S hi hj (al i hc ai) (al j hd aj) e
     |false=>rw[oth j hd] at hj;exact absurd e (apart i R j S hc hi hd hj (al' j hd aj))
    |false=>
     rw[oth i hc] at hi
     cases hd:zbw p.post j with
     |true=>rw[agr2 j hd] at hj;exact absurd e.symm (apart j S i R hd hj hc hi (al' i hc ai))
     |false=>rw[oth j hd] at hj;exact hr.sep i j R S hi hj (al' i hc ai) (al' j hd aj) e
   blk:=fun i R hi=>by
    cases hc:zbw p.post i with
    |true=>rw[agr2 i hc] at hi;exact hr2.blk i R hi
    |false=>rw[oth i hc] at hi;exact Nat.lt_of_lt_of_le (hr.blk i R hi) hx.size
   glb:=fun i b x hi=>by
    cases hc:zbw p.post i with
    |true=>
     obtain⟨o',q1,q3,-⟩:=postGet i hc
     have e:o'=.glob b x:=Option.some.inj (q3.symm.trans hi)
     subst e
     obtain⟨R,hR⟩:=hr2.glb i b x q1
     exact⟨R,(agr2 i hc).trans hR⟩
    |false=>
     rw[postNo i hc] at hi
     obtain⟨R,hR⟩:=hr.glb i b x hi
     exact⟨R,(oth i hc).trans hR⟩}
  refine⟨_,_,v',σ,rfl,rfl,hv.agree agr2 4 g6,hrN,le,hx.size,fun i R hi=> ?_,fun B hB hn=>hx.frame B hB fun i R hi=>hn i R (sub i R hi).2,hx.loops,hx.os,hx.out,hx.froz,hx.td⟩
  cases hc:zbw p.post i with
  |true=>
   rw[agr2 i hc] at hi
   rcases hx.fresh i R hi with⟨j,S,hj,e⟩|hb
   ·exact .inl ⟨j,S,(sub j S hj).2,e⟩
   ·exact .inr hb
  |false=>rw[oth i hc] at hi;exact .inl ⟨i,R,hi,rfl⟩
 ·cases hrun
theorem pieces_ok (hmix:P.follows .mixedOrders=true) {g:FuncId} {fn:Func} {cf0:zn} (hfn:P.funcs[g]? =some fn) (hcf:zbi P fn=some (zeD cf0))
 {l:List zcM} (hl: ∀p∈l,p.good=true∧ ∃F n,(∀g cf,F g=some cf→FnOk P g cf)∧p.runs F n g=true):FnOk P g (primW (zeT l) cf0):=by
 refine .inr (.inr (.inr ⟨_,fn,cf0,rfl,⟨fun args w=> ?_,fun args h v h' hp ρ args' w ra hr=> ?_⟩,hfn,hcf⟩))
 ·obtain⟨hname,c,hbody,-⟩:=zbN hcf
  have hne: ¬fn.name= "runtime.NumGoroutine" :=by simpa using hname
  simp[callFunc,hfn,hne,hbody]
 ·induction l with
  |nil=>cases hp
  |cons p l ih=>
   have hp:(match p.fits args h with|true=>some (p.out h)|false=>zeT l args h)=some (v,h'):=hp
   split at hp
   ·rename_i hfit
    obtain⟨q1,F,n,hF,q2⟩:=hl p (by simp)
    have e:p.out h=(v,h'):=Option.some.inj hp
    have:=piece_calls hmix hF q1 q2 hfit ra hr
    rw[e] at this;exact this
   ·exact ih (fun p hp=>hl p (by simp[hp])) hp
def lookE (l:List (Nat×zn)) (g:Nat):Option zn:=List.rec (motive:=fun _=>Option zn) none (fun p _ ih=>match Nat.beq p.1 g with|true=>some p.2|false=>ih) l
theorem zgr: ∀{t:List (Nat×zn)} {g:Nat} {cf:zn},lookE t g=some cf→ ∃p∈t,p.1=g∧p.2=cf
 | [],g,x,h=>by cases h
 |p::t,g,x,h=>by
  have h:(match Nat.beq p.1 g with|true=>some p.2|false=>lookE t g)=some x:=h
  split at h
  ·rename_i e;cases h;exact⟨p,by simp,Nat.eq_of_beq_eq_true e,rfl⟩
  ·obtain⟨q,hq,e⟩:=zgr h;exact⟨q,by simp[hq],e⟩
def overF (l:List (Nat×zn)) (F:FuncId→Option zn):FuncId→Option zn:=fun g=>match lookE l g with
 |some cf=>some cf
 |none=>F g
theorem over_ok {l:List (Nat×zn)} {F:FuncId→Option zn} (hl: ∀p∈l,FnOk P p.1 p.2) (hF: ∀g cf,F g=some cf→FnOk P g cf): ∀g cf,overF l F g=some cf→FnOk P g cf:=by
 intro g cf h
 unfold overF at h
 split at h
 ·rename_i c hc;cases h;obtain⟨p,hp,rfl,rfl⟩:=zgr hc;exact hl p hp
 ·exact hF g cf h
theorem look_ok {l:List (Nat×zn)} (hl: ∀p∈l,FnOk P p.1 p.2): ∀g cf,lookE l g=some cf→FnOk P g cf:=fun g cf h=>by
 obtain⟨p,hp,rfl,rfl⟩:=zgr h;exact hl p hp
def endsTrue:Option Out→Bool
 |some (.val (.bool true) _)=>true
 |_=>false
theorem endsTrue_some {o:Option Out} (h:endsTrue o=true): ∃h',o=some (.val (.bool true) h'):=by
 unfold endsTrue at h
 split at h
 ·exact⟨_,rfl⟩
 ·cases h
end
end Go.Ideal
namespace Go.Ideal
open Go
variable {P:Program}
def AllC (P:Program) (l:List (Nat×zn)):Prop:=l.map (fun x=>(P.funcs[x.1]?).bind (zbi P))=l.map fun x=>some (zeD x.2)
theorem AllC.mem {l:List (Nat×zn)} (h:AllC P l): ∀p∈l,∃fn,P.funcs[p.1]? =some fn∧zbi P fn=some (zeD p.2):=by
 unfold AllC at h
 induction l with
 |nil=>intro p hp;cases hp
 |cons x l ih=>
  rw[List.map_cons,List.map_cons,List.cons.injEq] at h
  intro p hp
  rcases List.mem_cons.1 hp with rfl|hp
  ·cases e:P.funcs[p.1]? with
   |none=>rw[e] at h;cases h.1
   |some fn=>rw[e] at h;exact⟨fn,rfl,h.1⟩
  ·exact ih h.2 p hp
theorem AllC.at {l:List (Nat×zn)} (h:AllC P l) {g:Nat} {cf:zn} (hg:lookE l g=some cf): ∃fn,P.funcs[g]? =some fn∧zbi P fn=some (zeD cf):=by
 obtain⟨p,hp,rfl,rfl⟩:=zgr hg
 exact h.mem p hp
theorem AllC.ok {l:List (Nat×zn)} (h:AllC P l): ∀p∈l,FnOk P p.1 p.2:=fun p hp=>.inl (h.mem p hp)
theorem AllC.app {l m:List (Nat×zn)} (h:AllC P l) (h2:AllC P m):AllC P (l++m):=by
 unfold AllC at*
 rw[List.map_append,List.map_append,h,h2]
theorem AllC.pieces (hmix:P.follows .mixedOrders=true) {l:List (Nat×zn)} (h:AllC P l) {g:Nat} {cf:zn} (hg:lookE l g=some cf) {ps:List zcM}
 (hl: ∀p∈ps,p.good=true∧ ∃F n,(∀g cf,F g=some cf→FnOk P g cf)∧p.runs F n g=true):FnOk P g (primW (zeT ps) cf):=by
 obtain⟨fn,h1,h2⟩:=h.at hg
 exact pieces_ok hmix h1 h2 hl
end Go.Ideal
namespace Go.Ideal
open Go
abbrev fnV (g:Nat):Value:=.func (.func g) #[] #[]
noncomputable def srtAt (srt:List Value→List Value) (h:H):Value→H
 |.slice (some a) (_+1) _=>match h.get a.block with
  |some (.cells cs e)=>h.put a.block (.cells (srt cs) e)
  |_=>h
 |_=>h
def OwnS (h:H) (sz:Nat) (v:Value) (rows:List (List Value)):Prop:=
 (v=.slice none 0 0∧rows=[])∨ ∃b,v=.slice (some ⟨b,0,none⟩) rows.length zo∧b<h.next∧h.get b=some (.cells rows.flatten sz)
open Classical in
noncomputable def ziu {α:Type} (srt:List Value→List Value) (enc:α→List Value) (sz:Nat) (g:FuncId) (args:List Value) (h:H):Option (Value×H):=
 if∃(v:Value) (l:List α),args=[v,fnV g]∧OwnS h sz v (l.map enc)∧l.length<4611686018427387904 then some (.tuple #[],srtAt srt h (args.headD zY)) else none
structure Tri where
 f:Int
 a:Int
 t:Int
def vTri (e:Tri):List Value:=[.int .i64 e.f,.int .i64 e.a,.int .i64 e.t]
def befT (a b:Tri):Prop:=if a.f=b.f then(if a.a=b.a then a.t<b.t else a.a<b.a) else a.f<b.f
open Classical in
noncomputable def leT (a b:Tri):Bool:=decide (¬befT b a)
theorem vTri_flat: ∀(l l':List Tri),(l.map vTri).flatten=(l'.map vTri).flatten→l=l'
 | [],[],_=>rfl
 | [],y::l',h=>by simp[vTri] at h
 |x::l,[],h=>by simp[vTri] at h
 | ⟨a,b,c⟩::l,⟨d,e,f⟩::l',h=>by
   simp only[List.map_cons,List.flatten_cons,vTri,List.cons_append,List.nil_append,List.cons.injEq,Value.int.injEq,true_and] at h
   obtain⟨rfl,rfl,rfl,h⟩:=h
   rw[vTri_flat l l' h]
open Classical in
noncomputable def srtT (cs:List Value):List Value:=if h: ∃l:List Tri,(l.map vTri).flatten=cs then(((Classical.choose h).mergeSort leT).map vTri).flatten else cs
theorem srtT_eq (l:List Tri):srtT (l.map vTri).flatten=((l.mergeSort leT).map vTri).flatten:=by
 have h: ∃l':List Tri,(l'.map vTri).flatten=(l.map vTri).flatten:=⟨l,rfl⟩
 unfold srtT
 rw[dif_pos h,vTri_flat _ _ (Classical.choose_spec h)]
noncomputable def pSrt (g:Nat):List Value→H→Option (Value×H):=ziu srtT vTri 3 g
end Go.Ideal
namespace Go.Ideal.Q
noncomputable section
def tab0:List (Nat×zn):=[(10,f_b),(11,f_J),(13,f_w),(18,f_j),(23,f_o),(29,f_p),(35,f_y),(37,f_q),(39,f_l),(41,f_t),(49,f_L),(50,f_m),(51,f_v),(52,f_g),(53,f_F),(54,f_d),(66,f_f),(67,f_C),(68,f_H),(72,f_x),(73,f_G),(74,f_a),(76,f_c),(77,f_h),(80,f_n),(83,f_e),(93,f_Z),(94,f_M),(95,f_A),(96,f_z)]
def tab1:List (Nat×zn):=[(97,f_r),(98,f_O),(99,f_D),(100,f_W),(101,f_R),(102,f_X),(106,f_k),(107,f_u),(108,f_T),(109,f_S),(121,f_i),(135,f_K),(136,f_V),(137,f_Q),(138,f_I),(139,f_B),(145,f_E),(160,f_P),(161,f_s)]
def tabC:List (Nat×zn):=tab0++tab1
def tabF:List (Nat×zn):=(12,zg8 true)::(40,primP (pSrt n_t))::tabC
def F:FuncId→Option zn:=lookE tabF
theorem zdN:F n_b=some f_b:=by kernel_rfl
theorem ze2:F n_J=some f_J:=by kernel_rfl
theorem ze0:F n_Y=some (zg8 true):=by kernel_rfl
theorem h_jam_Ring:F n_w=some f_w:=by kernel_rfl
theorem h_jam_Around:F n_j=some f_j:=by kernel_rfl
theorem h_jam_Parts:F n_o=some f_o:=by kernel_rfl
theorem zeJ:F n_p=some f_p:=by kernel_rfl
theorem zcJ:F n_y=some f_y:=by kernel_rfl
theorem zbz:F n_q=some f_q:=by kernel_rfl
theorem zfx:F n_l=some f_l:=by kernel_rfl
theorem zba:F n_N=some (primP (pSrt n_t)):=by kernel_rfl
theorem ze1:F n_t=some f_t:=by kernel_rfl
theorem h_jam_known:F n_L=some f_L:=by kernel_rfl
theorem zhm:F n_m=some f_m:=by kernel_rfl
theorem zhj:F n_v=some f_v:=by kernel_rfl
theorem zhk:F n_g=some f_g:=by kernel_rfl
theorem h_jam_set_all:F n_F=some f_F:=by kernel_rfl
theorem zhU:F n_d=some f_d:=by kernel_rfl
theorem zhV:F n_f=some f_f:=by kernel_rfl
theorem zhZ:F n_C=some f_C:=by kernel_rfl
theorem h_jam_set_has:F n_H=some f_H:=by kernel_rfl
theorem zhW:F n_x=some f_x:=by kernel_rfl
theorem h_jam_fine:F n_G=some f_G:=by kernel_rfl
theorem zhl:F n_a=some f_a:=by kernel_rfl
theorem zbH:F n_c=some f_c:=by kernel_rfl
theorem zet:F n_h=some f_h:=by kernel_rfl
theorem zc8:F n_n=some f_n:=by kernel_rfl
theorem zdM:F n_e=some f_e:=by kernel_rfl
theorem h_jam_known_1:F n_Z=some f_Z:=by kernel_rfl
theorem zkd:F n_M=some f_M:=by kernel_rfl
theorem zhY:F n_A=some f_A:=by kernel_rfl
theorem zgB:F n_z=some f_z:=by kernel_rfl
theorem zhX:F n_r=some f_r:=by kernel_rfl
theorem zjr:F n_O=some f_O:=by kernel_rfl
theorem zgz:F n_D=some f_D:=by kernel_rfl
theorem zgy:F n_W=some f_W:=by kernel_rfl
theorem zgx:F n_R=some f_R:=by kernel_rfl
theorem zgw:F n_X=some f_X:=by kernel_rfl
theorem zd1:F n_k=some f_k:=by kernel_rfl
theorem zb6:F n_u=some f_u:=by kernel_rfl
theorem zgA:F n_T=some f_T:=by kernel_rfl
theorem h_jam_order:F n_S=some f_S:=by kernel_rfl
theorem zgD:F n_i=some f_i:=by kernel_rfl
theorem zgC:F n_K=some f_K:=by kernel_rfl
theorem zfw:F n_V=some f_V:=by kernel_rfl
theorem zjs:F n_Q=some f_Q:=by kernel_rfl
theorem zjq:F n_I=some f_I:=by kernel_rfl
theorem h_cmp_Or_int_:F n_B=some f_B:=by kernel_rfl
theorem zh0:F n_E=some f_E:=by kernel_rfl
theorem h_math_bits_Mul32:F n_P=some f_P:=by kernel_rfl
theorem zhi:F n_s=some f_s:=by kernel_rfl
end
end Go.Ideal.Q
