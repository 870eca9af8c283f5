/- A part of the proof: the ideal machine, and what the functions of the program answer over it. -/
import Derived.RowKit
import Derived.OpenShut
import Derived.WideKeyArgs
import Derived.ChangeSame
import Derived.Test.YtjkoholloclgeaaGreatDoorC
set_option linter.unusedSimpArgs false
set_option linter.unusedVariables false
set_option linter.unusedSectionVars false
namespace Go.Ideal
variable {F:FuncId→Option zq} {n0:Nat}
theorem E_up {n m:Nat} (h:n≤m) {t:Task} {o:Out} (e:E F n t=some o):E F m t=some o:=E_le h t o e
theorem zlP {w:Wd} {s:DS} {t:zt} (h:SRel w s t) (L:List (List Bool)):SRel w (zbk L s) t:=fun p d e=>h p d (zlU e).1
theorem zje {w0:Wd} {M0:VM} {h0:H} {K:KD} {s:DS} {M:VM} {pend:Option CC} (hk:pendD K s M pend) {w:Wd} {h:H} {t:zt} (hst:St n0 w0 M0 h0 w M h) (hs:SRel w s t): ∃o,pendK t h pend=some o∧OutK n0 w0 M0 h0 K o:=by
 unfold pendD at hk
 split at hk
 ·exact⟨_,rfl,w,M,s,hst,hs,hk⟩
 ·exact⟨_,rfl,w,M,s,hst,hs,hk⟩
 ·exact⟨_,rfl,w,M,s,hst,hs,hk⟩
 ·exact hk.elim
theorem zet: ∀(c:CC) {K:KD} {s:DS} {M:VM},wp (rD F n0) c K s M→CodeD F n0 c K s M:=by
 intro c
 induction c with
 |skip=>intro K s M hk w0 M0 h0 w h t hst hs;exact⟨1,.nrm t h,rfl,w,M,s,hst,hs,hk⟩
 |ops l=>
  intro K s M hk w0 M0 h0 w h t hst hs
  obtain⟨n,o,h1,h2⟩:=zkv hk hst hs
  exact⟨n+1,o,h1,OutK.mono (K:=⟨K.nrm,fun _ _ _=>False,fun _ _=>False,K.pan⟩) (K':=K) (fun _ _ q=>q) (fun _ _ _ q=>False.elim q) (fun _ _ q=>False.elim q) (fun _ _ _ q=>q) h2⟩
 |draw l=>
  intro K s M hk w0 M0 h0 w h t hst hs
  obtain⟨n,t',h',w',M',s',h1,h2,h3,h4⟩:=zfT hk hst hs (cs:=[(0,h)]) ⟨⟨rfl,w,hst.r,.refl _ _ _,fun p _ d e=>hs p d e⟩,trivial⟩
  exact⟨n+1,.nrm t' h',by show(zca (E F n) l [(0,h)] t h).map nrmOf=_;rw[h1];rfl,w',M',s',h2,h3,h4⟩
 |draw2 l x y=>
  intro K s M hk w0 M0 h0 w h t hst hs
  obtain⟨n,t',h',w',M',s',h1,h2,h3,h4⟩:=zfT hk hst hs (cs:=[(0,h)]) ⟨⟨rfl,w,hst.r,.refl _ _ _,fun p _ d e=>hs p d e⟩,trivial⟩
  suffices hh: ∃h2' w2 M2,zeu x.op y.op t' h'=some h2'∧St n0 w0 M0 h0 w2 M2 h2'∧SRel w2 s' t'∧K.nrm s' M2 by
   obtain⟨h2',w2,M2,a,b,c,d⟩:=hh
   exact⟨n+1,.nrm t' h2',by show((zca (E F n) l [(0,h)] t h).bind fun r=>(zeu x.op y.op r.1 r.2).map fun h=>Out.nrm r.1 h)=_;rw[h1,Option.bind_some,a];rfl,w2,M2,s',b,c,d⟩
  cases hx:x.op<;>rw[hx] at h4<;>first|exact h4.elim|skip
  cases hy:y.op<;>rw[hy] at h4<;>first|exact h4.elim|skip
  rename_i n1 a b n2 c d
  obtain⟨da,ea,h4⟩:=zbQ h4
  obtain⟨db,eb,h4⟩:=zbQ h4
  obtain⟨dc,ec,h4⟩:=zbQ h4
  obtain⟨dd,ed,h4⟩:=zbQ h4
  obtain⟨va,fa,ra⟩:=zbX h3 ea
  obtain⟨vb,fb,rb⟩:=zbX h3 eb
  obtain⟨vc,fc,rc⟩:=zbX h3 ec
  obtain⟨vd,fd,rd⟩:=zbX h3 ed
  cases da with
  |ptr i u1 v1=>
   cases dc with
   |ptr j u2 v2=>
    obtain⟨hij,h4⟩:=h4
    obtain⟨M2,hs1,h4⟩:=zbQ h4
    obtain⟨M3,hs2,h4⟩:=zbQ h4
    obtain⟨b1,o1,g1,rfl,q1,q2,q3,q4,j1,i1,u1,R1,e1,k1,k2⟩:=zhb h2.r hs1 rb ra
    obtain⟨b2,o2,g2,rfl,p1,p2,p3,p4,j2,i2,u2,R2,e2,l1,l2⟩:=zhb q4 hs2 rd rc
    cases e1;cases e2
    have live: ∀{M M':VM} {n x j i o},ze2 n M x (.ptr j i o)=some M'→(M.get j).isSome=true:=fun{M M' n x j i o} hd=>by
     obtain⟨ob,ho,_⟩:=aof (show(M.obj j).bind _=some M' from hd)
     obtain⟨st,hg⟩:=zbv ho
     rw[hg];rfl
    have hne:b1≠b2:=fun e=>by
     have h5:(M2.get i).isSome=true:=by
      obtain⟨ob,ho,h6⟩:=aof (show(M'.obj i).bind _=some M2 from hs1)
      cases ob with
      |rows op sz rs=>
       obtain⟨r,hri,h6⟩:=aof (show(rs[u1]?).bind _=some M2 from h6)
       split at h6
       ·obtain⟨r',hw,rfl⟩:=amf h6
        rw[get_put,if_pos rfl];rfl
       ·cases h6
      |_=>cases h6
     exact hij (q4.inj i j R1 R2 k1 l1 h5 (live hs2) (by rw[k2,l2,e]))
    refine⟨g2,w',M3,?_,(h2.step q3 q4).step p3 p4,h3,h4⟩
    show(a.ev t').bind _=_
    rw[fa,Option.bind_some,fb,Option.bind_some,fc,Option.bind_some,fd,Option.bind_some]
    unfold store2
    show(if Nat.beq b1 b2 then _ else _)=_
    rw[if_neg (fun e=>hne (Nat.eq_of_beq_eq_true e)),if_pos (by rw[q1,p1];rfl),q2,Option.bind_some,p2]
   |_=>exact h4.elim
  |_=>exact h4.elim
 |seq a L b iha ihb=>
  intro K s M hk w0 M0 h0 w h t hst hs
  obtain⟨n,o,h1,h2⟩:=iha hk w0 M0 h0 w h t hst hs
  have step: ∀{m o'},(∀k,max n m≤k→(E F k (.code a t h)).bind (thenK (E F k) L b)=some o')→OutK n0 w0 M0 h0 K o'→ ∃n o,E F n (.code (.seq a L b) t h)=some o∧OutK n0 w0 M0 h0 K o:=fun{m o'} e q=>⟨max n m+1,o',e _ (Nat.le_refl _),q⟩
  cases o with
  |nrm t1 h1'=>
   obtain⟨w1,M1,s1,a1,a2,a3⟩:=h2
   obtain⟨m,o2,b1,b2⟩:=ihb a3 w0 M0 h0 w1 h1' (zcp L t1) a1 (a2.keep L)
   exact step (m:=m) (fun k hk'=>by rw[E_up (by omega) h1];exact E_up (by omega) b1) b2
  |exit i t1 h1'=>exact step (m:=0) (fun k hk'=>by rw[E_up (by omega) h1];rfl) (show OutK n0 w0 M0 h0 K (.exit i t1 h1') from h2)
  |ret t1 h1'=>exact step (m:=0) (fun k hk'=>by rw[E_up (by omega) h1];rfl) (show OutK n0 w0 M0 h0 K (.ret t1 h1') from h2)
  |pan v t1 h1'=>exact step (m:=0) (fun k hk'=>by rw[E_up (by omega) h1];rfl) (show OutK n0 w0 M0 h0 K (.pan v t1 h1') from h2)
  |val=>exact h2.elim
 |cond c a b iha ihb=>
  intro K s M hk w0 M0 h0 w h t hst hs
  obtain⟨d,hd,hk⟩:=zbQ hk
  obtain⟨v,hv,hr⟩:=zbX hs hd
  unfold wIf at hk
  split at hk
  ·obtain⟨n,o,h1,h2⟩:=iha hk w0 M0 h0 w h t hst hs
   refine⟨n+1,o,?_,h2⟩
   show(c.ev t).bind _=_
   rw[hv,hr.inv_bool];exact h1
  ·obtain⟨n,o,h1,h2⟩:=ihb hk w0 M0 h0 w h t hst hs
   refine⟨n+1,o,?_,h2⟩
   show(c.ev t).bind _=_
   rw[hv,hr.inv_bool];exact h1
  ·exact hk.elim
 |block i b ih=>
  intro K s M hk w0 M0 h0 w h t hst hs
  obtain⟨n,o,h1,h2⟩:=ih hk w0 M0 h0 w h t hst hs
  refine⟨n+1,zjY i o,by show(E F n _).map _=_;rw[h1];rfl,?_⟩
  cases o with
  |exit j t1 h1'=>
   obtain⟨w1,M1,s1,a1,a2,a3⟩:=h2
   have a3:blkD i K j s1 M1:=a3
   unfold blkD at a3
   unfold zjY
   dsimp only
   split at a3
   ·rename_i e;rw[e];exact⟨w1,M1,s1,a1,a2,a3⟩
   ·rename_i e;rw[e];exact⟨w1,M1,s1,a1,a2,a3⟩
  |_=>exact h2
 |loop L b ih=>
  intro K s M hk w0 M0 h0 w h t hst hs
  exact hk w0 M0 h0 w h t hst (zlP hs L)
 |rangeFunc rid L f ps as b _ _=>
  intro K s M hk w0 M0 h0 w h t hst hs
  obtain⟨d,hd,hk⟩:=zbQ hk
  obtain⟨v,hv,hr⟩:=zbX hs hd
  cases d with
  |fn g a c=>
   obtain⟨a',c',rfl,ha,hc⟩:=hr.inv_fn
   have hle:=Wd.add_le (w:=w) (j:=M.next) (R:=⟨h.next,0,false⟩) (hst.r.rho_none (Nat.le_refl _))
   obtain⟨p1,p2⟩:=hst.r.new (o:=.loop .ready none (zbk L s) ⟨rid,L,ps,as,b⟩) (e:=.loop .ready none (zcp L t) ⟨rid,L,ps,as,b⟩) (sz:=0) (op:=false) (.loop ((hs.mono hle).keep L))
   have hy:VRel (w.add M.next ⟨h.next,0,false⟩) (.yld M.next) (.func (.yield h.next) #[] #[]):=.yld (R:=⟨h.next,0,false⟩) zfu
   obtain⟨n,o,h1,h2⟩:=hk _ _ _ _ p1 (hr.mono hle) (.cons hy .nil)
   cases o with
   |val v h1'=>
    obtain⟨w1,M1,d1,a1,a2,a3,a4⟩:=h2
    obtain⟨ob,ho,a4⟩:=zbQ a4
    obtain⟨st,hg⟩:=zbv ho
    have hR:=a1.le.rho _ _ (zfu (w:=w) (j:=M.next) (R:=⟨h.next,0,false⟩))
    obtain⟨hz,e,he,hro⟩:=a2.obj _ _ st _ hg hR
    have hst1:=(hst.step p2 p1).step a1 a2
    have hs1:=(hs.mono hle).mono a1.le
    have fin: ∀{o'},zgs h.next t h1' e=some o'→E F (n+1) (.code (.rangeFunc rid L f ps as b) t h)=some o':=fun{o'} hq=>by
     show((f.ev t).bind fun f=>(isFn f).bind fun f=>(E F n (.call f [.func (.yield h.next) #[] #[]] (h.new (.loop .ready none (zcp L t) ⟨rid,L,ps,as,b⟩)))).bind fun o=>(zg8 o).bind fun x=>(x.2.get h.next).bind (zgs h.next t x.2))=_
     rw[hv,Option.bind_some]
     show((E F n _).bind _)=_
     rw[h1,Option.bind_some]
     show((h1'.get h.next).bind _)=_
     rw[he,Option.bind_some,hq]
    cases hro with
    | @loop st1 pend sl sl' rc hsl=>
      have hput:=a2.put hg hR (o:=.loop .exhausted pend sl rc) (e:=.loop .exhausted pend sl' rc) (.loop hsl)
      cases st1 with
      |ready=>
       obtain⟨o',q1,q2⟩:=zje a4 (hst1.step hput.2 hput.1) hs1
       exact⟨n+1,o',fin q1,q2⟩
      |done=>
       obtain⟨o',q1,q2⟩:=zje a4 (hst1.step hput.2 hput.1) hs1
       exact⟨n+1,o',fin q1,q2⟩
      |_=>exact a4.elim
    |rows=>exact a4.elim
    |map=>exact a4.elim
   |pan=>obtain⟨_,_,_,_,_,_,q⟩:=h2;exact q.elim
   |nrm=>exact h2.elim
   |exit=>exact h2.elim
   |ret=>exact h2.elim
  |_=>exact hk.elim
 |exit i=>intro K s M hk w0 M0 h0 w h t hst hs;exact⟨1,.exit i t h,rfl,w,M,s,hst,hs,hk⟩
 |ret=>intro K s M hk w0 M0 h0 w h t hst hs;exact⟨1,.ret t h,rfl,w,M,s,hst,hs,hk⟩
 |scope b l1 r1 l2 r2=>intro K s M hk;exact hk
def scopeX (F:FuncId→Option zq) (n0:Nat) (l1:Nat) (r1:CC) (l2:Nat) (r2:CC) (K:KD) (i:Nat) (s:DS) (M:VM):Prop:=match Nat.beq i (zbH l1) with
 |true=>zcD F n0 r1 l1 r1 l2 r2 K s M
 |false=>match Nat.beq i (zbH l2) with
  |true=>zcD F n0 r2 l1 r1 l2 r2 K s M
  |false=>K.ext i s M
theorem zcD.step {b:CC} {l1:Nat} {r1:CC} {l2:Nat} {r2:CC} {K:KD} {s:DS} {M:VM} (h:wp (rD F n0) b ⟨K.nrm,scopeX F n0 l1 r1 l2 r2 K,K.ret,K.pan⟩ s M):zcD F n0 b l1 r1 l2 r2 K s M:=by
 intro w0 M0 h0 w hp t hst hs
 obtain⟨n,o,h1,h2⟩:=zet b h w0 M0 h0 w hp t hst hs
 have plain:scopeK (E F n) l1 r1 l2 r2 o=some o→OutK n0 w0 M0 h0 K o→ ∃n o,E F n (.code (.scope b l1 r1 l2 r2) t hp)=some o∧OutK n0 w0 M0 h0 K o:=fun e k=>⟨n+2,o,by show(E F n (.code b t hp)).bind (scopeK (E F n) l1 r1 l2 r2)=_;rw[h1,Option.bind_some,e],k⟩
 cases o with
 |nrm t1 h1'=>exact plain rfl h2
 |ret t1 h1'=>exact plain rfl h2
 |pan v t1 h1'=>exact plain rfl h2
 |val=>exact h2.elim
 |exit i t1 h1'=>
  obtain⟨w1,M1,s1,a1,a2,a3⟩:=h2
  have a3:scopeX F n0 l1 r1 l2 r2 K i s1 M1:=a3
  have jump: ∀{r:CC},(∀g:IH,zbZ g l1 r1 l2 r2 i t1 h1'=g (.scope r l1 r1 l2 r2 t1 h1'))→zcD F n0 r l1 r1 l2 r2 K s1 M1→ ∃n o,E F n (.code (.scope b l1 r1 l2 r2) t hp)=some o∧OutK n0 w0 M0 h0 K o:=by
   intro r e a3
   obtain⟨m,o2,b1,b2⟩:=a3 w0 M0 h0 w1 h1' t1 a1 a2
   cases m with
   |zero=>cases b1
   |succ m=>
    have b1:E F m (.scope r l1 r1 l2 r2 t1 h1')=some o2:=b1
    refine⟨max n m+2,o2,?_,b2⟩
    show(E F (max n m) (.code b t hp)).bind (scopeK (E F (max n m)) l1 r1 l2 r2)=_
    rw[E_up (Nat.le_max_left n m) h1,Option.bind_some]
    show zbZ _ _ _ _ _ _ _ _=_
    rw[e];exact E_up (Nat.le_max_right n m) b1
  unfold scopeX at a3
  cases e1:Nat.beq i (zbH l1) with
  |true=>rw[e1] at a3;exact jump (fun g=>by unfold zbZ;rw[e1]) a3
  |false=>
   rw[e1] at a3
   cases e2:Nat.beq i (zbH l2) with
   |true=>rw[e2] at a3;exact jump (fun g=>by unfold zbZ;rw[e1,e2]) a3
   |false=>
    rw[e2] at a3
    exact plain (by show zbZ _ _ _ _ _ _ _ _=_;unfold zbZ;rw[e1,e2]) ⟨w1,M1,s1,a1,a2,a3⟩
theorem zcq.step {L:List (List Bool)} {b:CC} {K:KD} {s:DS} {M:VM} (h:wp (rD F n0) b ⟨fun s M=>zcq F n0 L b K (zbk L s) M,K.ext,K.ret,K.pan⟩ (zbk L s) M):zcq F n0 L b K s M:=by
 intro w0 M0 h0 w hp t hst hs
 obtain⟨n,o,h1,h2⟩:=zet b h w0 M0 h0 w hp (zcp L t) hst (hs.keep L)
 cases o with
 |nrm t1 h1'=>
  obtain⟨w1,M1,s1,a1,a2,a3⟩:=h2
  obtain⟨m,o2,b1,b2⟩:=a3 w0 M0 h0 w1 h1' t1 a1 (zlP a2 L)
  exact⟨max n m+1,o2,by show(E F _ (.code b _ hp)).bind _=_;rw[E_up (Nat.le_max_left n m) h1];exact E_up (Nat.le_max_right n m) b1,b2⟩
 |exit i t1 h1'=>exact⟨n+1,.exit i t1 h1',by show(E F _ (.code b _ hp)).bind _=_;rw[h1];rfl,(show OutK n0 w0 M0 h0 K (.exit i t1 h1') from h2)⟩
 |ret t1 h1'=>exact⟨n+1,.ret t1 h1',by show(E F _ (.code b _ hp)).bind _=_;rw[h1];rfl,(show OutK n0 w0 M0 h0 K (.ret t1 h1') from h2)⟩
 |pan v t1 h1'=>exact⟨n+1,.pan v t1 h1',by show(E F _ (.code b _ hp)).bind _=_;rw[h1];rfl,(show OutK n0 w0 M0 h0 K (.pan v t1 h1') from h2)⟩
 |val=>exact h2.elim
theorem resD_rel {w:Wd} {M:VM} {h:H} (hr:HRel w M h) {s:DS} {t:zt} (hs:SRel w s t) {r:CR} {d:DV} (hd:resD s M r=some d): ∃v,resV t h r=some v∧VRel w d v:=by
 cases r with
 |tmp p=>exact hs p d hd
 |cell n p=>
  obtain⟨a,ha,hd⟩:=aof (show(getS s p).bind _=some d from hd)
  obtain⟨r,hr1,hd⟩:=aof hd
  obtain⟨v,hv,r1⟩:=hs p a ha
  obtain⟨b,off,cs,e,us,tl,rfl,hg,hb,hsp,hl⟩:=ziQ hr hr1 r1
  cases n with
  |some n=>
   obtain⟨y,hy,rfl⟩:=amf (show(zeU n r).map DV.agg=some d from hd)
   obtain⟨hn,rfl⟩:=zfy hy
   refine⟨_,?_,.agg_of (hl.take n)⟩
   show(t.get p).bind _=_
   rw[hv]
   show(h.readN b off n).map _=_
   rw[zeD hg hsp (by rw[←hl.len];exact hn) hl.clean];rfl
  |none=>
   have hd:oneD r=some d:=hd
   unfold oneD at hd
   split at hd
   ·cases hd
    obtain⟨u,us',rfl,hu,hus⟩:=hl.head
    refine⟨u,?_,hu⟩
    show(t.get p).bind _=_
    rw[hv]
    show(h.readN b off 1).bind oneOf=_
    rw[zeD hg hsp (by simp) hl.clean];rfl
   ·cases hd
theorem resDL_rel {w:Wd} {M:VM} {h:H} (hr:HRel w M h) {s:DS} {t:zt} (hs:SRel w s t): ∀{rs:List CR} {ds:List DV},resDL s M rs=some ds→ ∃vs,allO (resV t h) rs=some vs∧LRel w ds vs
 | [],ds,h=>by cases h;exact⟨[],rfl,.nil⟩
 |r::rs,ds,hd=>by
  obtain⟨d,h1,hd⟩:=aof hd
  obtain⟨l,h2,rfl⟩:=amf hd
  obtain⟨v,h3,h4⟩:=resD_rel hr hs h1
  obtain⟨vs,h5,h6⟩:=resDL_rel hr hs h2
  exact⟨v::vs,by show(resV t h r).bind _=_;rw[h3];show(allO _ _).map _=_;rw[h5];rfl,.cons h4 h6⟩
theorem tupleD_rel {w:Wd} {ds:List DV} {vs:List Value} (h:LRel w ds vs):VRel w (ziA ds) (zg9 vs):=by
 match ds,vs,h with
 | [],vs,h=>rw[h.inv_nil];exact .tup_of .nil
 | [d],vs,h=>
   obtain⟨v,r,rfl,hv,hr⟩:=h.head
   rw[hr.inv_nil];exact hv
 |d::e::l,vs,h=>
  obtain⟨v,r,rfl,hv,hr⟩:=h.head
  obtain⟨v2,r2,rfl,hv2,hr2⟩:=hr.head
  exact .tup_of h
theorem zek {w w0:Wd} {M M0:VM} {h h0:H} {s:DS} {t:zt} {rs:List CR} {k kp:DV→VM→Prop} (hst:St n0 w0 M0 h0 w M h) (hs:SRel w s t) (hk:endD rs k s M): ∃o,zh4 rs t h=some o∧OutC w0 M0 h0 k kp o∧(∃v,o=.val v h):=by
 obtain⟨ds,hd,hk⟩:=zbQ hk
 obtain⟨vs,h1,h2⟩:=resDL_rel hst.r hs hd
 exact⟨.val (zg9 vs) h,by unfold zh4;rw[h1];rfl,⟨w,M,_,hst.hi,hst.r,tupleD_rel h2,hk⟩,_,rfl⟩
theorem zj9 {w:Wd}: ∀{ds:List DV} {vs:List Value} {i:Nat} {s:DS} {t:zt},LRel w ds vs→SRel w s t→SRel w (argsD ds i s) (zbD vs i t)
 | [],vs,i,s,t,h,hs=>by rw[h.inv_nil];exact hs
 |d::ds,vs,i,s,t,h,hs=>by
  obtain⟨v,r,rfl,hv,hr⟩:=h.head
  exact zj9 (ds:=ds) (vs:=r) hr (hs.set hv (bits i))
theorem handE_sound {f:DV} {l:List DV} {p:Option DV} {rs:List CR} {k kp:DV→VM→Prop} {s:DS} {M:VM} (hk:HandD F f l p M fun M=>endD rs k s M) {w0 w:Wd} {M0:VM} {h0 h:H} {t:zt} {fv:Value} {vs:List Value} {pv:Option Value} (hst:St n0 w0 M0 h0 w M h) (hs:SRel w s t) (hf:VRel w f fv) (hl:LRel w l vs) (hp:ORelO w p pv):
 ∃n o,(E F n (.hand fv vs pv h)).bind (resK1 rs t)=some o∧OutC w0 M0 h0 k kp o:=by
 obtain⟨n,v,h1,w1,M1,e,a1,a2,a3⟩:=hk w h fv vs pv hst.r hf hl hp
 obtain⟨o,h2,h3,-⟩:=zek (kp:=kp) (hst.step a1 a2) (hs.mono a1.le) a3
 exact⟨n,o,by rw[e];exact h2,h3⟩
theorem zA.func {g:Nat} {a c args:List DV} {M:VM} {k kp:DV→VM→Prop} {cf:zq} (hF:F g=some cf) (hp:cf.prim=none) (h:wFunc (rD F) cf (a++args++c) M k kp):zA F (.fn g a c) args M k kp:=by
 intro w hp0 fv vs hr hf hv
 obtain⟨a',c',rfl,ha,hc⟩:=hf.inv_fn
 have hall:=(ha.append hv).append hc
 obtain⟨hlen,hw⟩:=h
 have hst:St M.next w M hp0 w M hp0:=⟨rfl,hr,.refl _ _ _,hr⟩
 obtain⟨n,o,h1,h2⟩:=zet cf.body hw w M hp0 w hp0 (zbD (a'++vs++c') 0 .nil) hst (zj9 hall .nil)
 have fin: ∀{m o'},n≤m→bodyK (E F m) cf.results cf.dfr o=some o'→E F (m+1) (.call (.func (.func g) ⟨a'⟩ ⟨c'⟩) vs hp0)=some o':=fun{m o'} hm e=>by
  show((F g).bind fun cf=>zct (E F m) cf (a'++vs++c') hp0)=_
  rw[hF,Option.bind_some]
  unfold zct
  rw[hp]
  show zbB _ _ _ _=_
  unfold zbB
  rw[if_pos (by rw[Nat.ble_eq,←hall.len];exact hlen),E_up hm h1,Option.bind_some,e]
 cases hd:cf.dfr with
 |none=>
  rw[hd] at h2
  cases o with
  |nrm t1 h1'=>
   obtain⟨w1,M1,s1,a1,a2,a3⟩:=h2
   obtain⟨o',e1,e2,-⟩:=zek (kp:=kp) a1 a2 a3
   exact⟨n+1,o',fin (Nat.le_refl _) (by rw[hd];exact e1),e2⟩
  |ret t1 h1'=>
   obtain⟨w1,M1,s1,a1,a2,a3⟩:=h2
   obtain⟨o',e1,e2,-⟩:=zek (kp:=kp) a1 a2 a3
   exact⟨n+1,o',fin (Nat.le_refl _) (by rw[hd];exact e1),e2⟩
  |pan v t1 h1'=>
   obtain⟨w1,M1,s1,d,a1,a2,a3,a4⟩:=h2
   exact⟨n+1,.pan v .nil h1',fin (Nat.le_refl _) (by rw[hd];rfl),w1,M1,d,a1.hi,a1.r,a3,a4⟩
  |exit=>obtain⟨w1,M1,s1,a1,a2,a3⟩:=h2;exact a3.elim
  |val=>exact h2.elim
 |some df=>
  rw[hd] at h2
  cases o with
  |nrm t1 h1'=>
   obtain⟨w1,M1,s1,a1,a2,a3⟩:=h2
   obtain⟨f,hf1,a3⟩:=zbQ a3
   obtain⟨fv,hf2,hf3⟩:=zbX a2 hf1
   cases f with
   |fn g2 fa fc=>
    obtain⟨l,hl1,a3⟩:=zbQ a3
    obtain⟨lv,hl2,hl3⟩:=zfC a2 hl1
    have hst1:St M1.next w1 M1 h1' w1 M1 h1':=⟨rfl,a1.r,.refl _ _ _,a1.r⟩
    obtain⟨n2,o2,b1,b2⟩:=zet df.rest a3 w1 M1 h1' w1 h1' (zcp df.L t1) hst1 (a2.keep df.L)
    have hisf:isFn fv=some fv:=by cases hf3;rfl
    have fin2: ∀{m o'},n≤m→n2≤m→doneK (E F m) fv lv cf.results o2=some o'→E F (m+1) (.call (.func (.func g) ⟨a'⟩ ⟨c'⟩) vs hp0)=some o':=fun{m o'} hm hm2 e=>fin hm (by
     rw[hd]
     show((df.f.ev t1).bind fun f=>(isFn f).bind fun f=>(evL t1 df.args).bind fun l=>(E F m (.code df.rest (zcp df.L t1) h1')).bind (doneK (E F m) f l cf.results))=_
     rw[hf2,Option.bind_some,hisf,Option.bind_some,hl2,Option.bind_some,E_up hm2 b1,Option.bind_some,e])
    have done: ∀{t2 h2' p pv} {s2:DS} {M2:VM} {w2:Wd},St M1.next w1 M1 h1' w2 M2 h2'→SRel w2 s2 t2→ORelO w2 p pv→HandD F (.fn g2 fa fc) l p M2 (fun M=>endD cf.results k s2 M)→(∀m,doneK (E F m) fv lv cf.results o2=(E F m (.hand fv lv pv h2')).bind (resK1 cf.results t2))→
     ∃n o,E F n (.call (.func (.func g) ⟨a'⟩ ⟨c'⟩) vs hp0)=some o∧OutC w M hp0 k kp o:=fun{t2 h2' p pv s2 M2 w2} c1 c2 c4 c5 c6=>by
     have c1':St M.next w M hp0 w2 M2 h2':=a1.step c1.hi c1.r
     obtain⟨m,o3,d1,d2⟩:=handE_sound (kp:=kp) c5 c1' c2 (hf3.mono c1.hi.le) (hl3.mono c1.hi.le) c4
     obtain⟨x,hx,hy⟩:=aof d1
     refine⟨max (max n n2) m+1,o3,fin2 (by omega) (by omega) ?_,d2⟩
     rw[c6,E_up (by omega) hx,Option.bind_some,hy]
    cases o2 with
    |nrm t2 h2'=>
     obtain⟨w2,M2,s2,c1,c2,c3⟩:=b2
     exact done (p:=none) (pv:=none) c1 c2 trivial c3 fun m=>rfl
    |ret t2 h2'=>
     obtain⟨w2,M2,s2,c1,c2,c3⟩:=b2
     exact done (p:=none) (pv:=none) c1 c2 trivial c3 fun m=>rfl
    |pan v t2 h2'=>
     obtain⟨w2,M2,s2,d2,c1,c2,c3,c4⟩:=b2
     exact done (p:=some d2) (pv:=some v) c1 c2 c3 c4 fun m=>rfl
    |exit=>obtain⟨_,_,_,_,_,q⟩:=b2;exact q.elim
    |val=>exact b2.elim
   |_=>exact a3.elim
  |pan v t1 h1'=>
   obtain⟨w1,M1,s1,d,a1,a2,a3,a4⟩:=h2
   exact⟨n+1,.pan v .nil h1',fin (Nat.le_refl _) (by rw[hd];rfl),w1,M1,d,a1.hi,a1.r,a3,a4⟩
  |ret=>obtain⟨w1,M1,s1,a1,a2,a3⟩:=h2;exact a3.elim
  |exit=>obtain⟨w1,M1,s1,a1,a2,a3⟩:=h2;exact a3.elim
  |val=>exact h2.elim
theorem setSD_rel {w:Wd}: ∀{ps:List (List Bool)} {ds:List DV} {vs:List Value} {s s2:DS} {t:zt},setSD ps ds s=some s2→LRel w ds vs→SRel w s t→ ∃t2,zdE ps vs t=some t2∧SRel w s2 t2
 | [],[],vs,s,s2,t,h,hl,hs=>by rw[hl.inv_nil];cases h;exact⟨t,rfl,hs⟩
 | [],_::_,vs,s,s2,t,h,hl,hs=>by cases h
 |_::_,[],vs,s,s2,t,h,hl,hs=>by cases h
 |p::ps,d::ds,vs,s,s2,t,h,hl,hs=>by
  obtain⟨v,r,rfl,hv,hr⟩:=hl.head
  exact setSD_rel (ps:=ps) h hr (hs.set hv p)
theorem zA.yield {l:Nat} {args:List DV} {M:VM} {k kp:DV→VM→Prop} {st:LoopState} {pend:Option CC} {sl:DS} {rc:RC} (ho:M.obj l=some (.loop st pend sl rc)) (h:wRound (rD F M.next) l sl rc args M k):zA F (.yld l) args M k kp:=by
 intro w hp0 fv vs hr hf hv
 cases hf with
 | @yld _ R hR=>
   obtain⟨stt,hg⟩:=zbv ho
   obtain⟨hz,e,he,hro⟩:=hr.obj _ _ _ R hg hR
   cases hro with
   | @loop _ _ _ sl' _ hsl=>
     have hst:St M.next w M hp0 w M hp0:=⟨rfl,hr,.refl _ _ _,hr⟩
     obtain⟨s,hs,h⟩:=zbQ h
     obtain⟨t2,ht2,hs2⟩:=setSD_rel hs hv (hsl.keep rc.L)
     obtain⟨n,o,h1,h2⟩:=zet rc.as h w M hp0 w hp0 t2 hst hs2
     have fin: ∀{m o'},n≤m→zfY (E F m) R.blk rc.b o=some o'→E F (m+1) (.call (.func (.yield R.blk) #[] #[]) vs hp0)=some o':=fun{m o'} hm e'=>by
      show(hp0.get R.blk).bind (runRound (E F m) R.blk vs hp0)=_
      rw[he,Option.bind_some]
      show((zdE rc.ps vs (zcp rc.L sl')).bind fun s=>(E F m (.code rc.as s hp0)).bind (zfY (E F m) R.blk rc.b))=_
      rw[ht2,Option.bind_some,E_up hm h1,Option.bind_some,e']
     cases o with
     |nrm t1 h1'=>
      obtain⟨w1,M1,s1,a1,a2,a3⟩:=h2
      obtain⟨ob,ho1,a3⟩:=zbQ a3
      obtain⟨st1,hg1⟩:=zbv ho1
      have hR1:=a1.hi.le.rho _ _ hR
      obtain⟨hz1,e1,he1,hro1⟩:=a1.r.obj _ _ st1 R hg1 hR1
      cases hro1 with
      |rows=>exact a3.elim
      |map=>exact a3.elim
      | @loop lst pend1 sl1 sl1' rc1 hsl1=>
        cases lst with
        |ready=>
         obtain⟨p1,p2⟩:=a1.r.put hg1 hR1 (o:=.loop .busy pend1 sl1 rc1) (e:=.loop .busy pend1 sl1' rc1) (.loop hsl1)
         obtain⟨n2,o2,b1,b2⟩:=zet rc.b a3 w M hp0 w1 (h1'.put R.blk (.loop .busy pend1 sl1' rc1)) t1 (a1.step p2 p1) a2
         have fin2: ∀{o'},finRound R.blk o2=some o'→OutC w M hp0 k kp o'→ ∃n o,E F n (.call (.func (.yield R.blk) #[] #[]) vs hp0)=some o∧OutC w M hp0 k kp o:=fun{o'} e' q=>by
          refine⟨max n n2+1,o',fin (Nat.le_max_left _ _) ?_,q⟩
          show(h1'.get R.blk).bind _=_
          rw[he1,Option.bind_some]
          show(E F _ _).bind _=_
          rw[E_up (Nat.le_max_right _ _) b1,Option.bind_some,e']
         have zga: ∀{pd:Option CC} {M2:VM} {w2:Wd} {h2:H},finD l k pd M2→St M.next w M hp0 w2 M2 h2→ ∃o',(h2.get R.blk).bind (zjF R.blk pd h2)=some o'∧OutC w M hp0 k kp o':=fun{pd M2 w2 h2} q c1=>by
          obtain⟨ob2,ho2,q⟩:=zbQ q
          obtain⟨st2,hg2⟩:=zbv ho2
          have hR2:=c1.hi.le.rho _ _ hR
          obtain⟨hz2,e2,he2,hro2⟩:=c1.r.obj _ _ st2 R hg2 hR2
          cases hro2 with
          |rows=>exact q.elim
          |map=>exact q.elim
          | @loop lst2 pend2 sl2 sl2' rc2 hsl2=>
            obtain⟨p1,p2⟩:=c1.r.put hg2 hR2 (o:=.loop (stOf pd) pd sl2 rc2) (e:=.loop (stOf pd) pd sl2' rc2) (.loop hsl2)
            exact⟨.val (.bool pd.isNone) (h2.put R.blk (.loop (stOf pd) pd sl2' rc2)),by rw[he2];rfl,_,_,_,(c1.step p2 p1).hi,p1,.bool _,q⟩
         cases o2 with
         |nrm t3 h3=>
          obtain⟨w2,M2,s2,c1,c2,c3⟩:=b2
          obtain⟨o',q1,q2⟩:=zga c3 c1
          exact fin2 q1 q2
         |ret t3 h3=>
          obtain⟨w2,M2,s2,c1,c2,c3⟩:=b2
          obtain⟨o',q1,q2⟩:=zga c3 c1
          exact fin2 q1 q2
         |exit i t3 h3=>
          obtain⟨w2,M2,s2,c1,c2,c3⟩:=b2
          obtain⟨o',q1,q2⟩:=zga c3 c1
          exact fin2 q1 q2
         |pan=>obtain⟨_,_,_,_,_,_,_,q⟩:=b2;exact q.elim
         |val=>exact b2.elim
        |_=>exact a3.elim
     |exit=>obtain⟨_,_,_,_,_,q⟩:=h2;exact q.elim
     |ret=>obtain⟨_,_,_,_,_,q⟩:=h2;exact q.elim
     |pan=>obtain⟨_,_,_,_,_,_,_,q⟩:=h2;exact q.elim
     |val=>exact h2.elim
theorem zA.mono {f:DV} {args:List DV} {M:VM} {k k' kp kp':DV→VM→Prop} (h:zA F f args M k kp) (h1: ∀d M,k d M→k' d M) (h2: ∀d M,kp d M→kp' d M):zA F f args M k' kp':=fun w hp fv vs a b c=>by
 obtain⟨n,o,e,q⟩:=h w hp fv vs a b c
 refine⟨n,o,e,?_⟩
 cases o with
 |val=>obtain⟨w1,M1,d,a1,a2,a3,a4⟩:=q;exact⟨w1,M1,d,a1,a2,a3,h1 _ _ a4⟩
 |pan=>obtain⟨w1,M1,d,a1,a2,a3,a4⟩:=q;exact⟨w1,M1,d,a1,a2,a3,h2 _ _ a4⟩
 |_=>exact q
end Go.Ideal
namespace Go.Ideal
inductive zM (n:Nat):DV→Prop where
 |int (k:IntKind) (a:Int):zM n (.int k a)
 |bool (b:Bool):zM n (.bool b)
 |str (s:ByteArray):zM n (.str s)
 |nilS:zM n .nilS
 |nilP:zM n .nilP
 |nilM:zM n .nilM
 |nilF:zM n .nilF
 |nilI:zM n .nilI
 |agg {l:List DV} (h: ∀d∈l,zM n d):zM n (.agg l)
 |tup {l:List DV} (h: ∀d∈l,zM n d):zM n (.tup l)
 |lst {s:Nat} {rows:List (List DV)} (h: ∀r∈rows,∀d∈r,zM n d):zM n (.lst s rows)
 |pl {s i off:Nat} {rows:List (List DV)} (h: ∀r∈rows,∀d∈r,zM n d):zM n (.pl s rows i off)
 |fn (g:Nat) {a c:List DV} (h: ∀d∈a,zM n d) (h': ∀d∈c,zM n d):zM n (.fn g a c)
 |ifc (t:Nat) {d:DV} (h:zM n d):zM n (.ifc t d)
 |ms {j lo len cap:Nat} (h:j<n):zM n (.ms j lo len cap)
 |ptr {j i off:Nat} (h:j<n):zM n (.ptr j i off)
 |map {j:Nat} (h:j<n):zM n (.map j)
 |yld {j:Nat} (h:j<n):zM n (.yld j)
inductive Frz (M M2:VM):DV→DV→Prop where
 |refl (d:DV):Frz M M2 d d
 |nilS (s:Nat):Frz M M2 .nilS (.lst s [])
 |agg {l l2:List DV} (hl:l.length=l2.length) (h: ∀(k:Nat) d e,l[k]? =some d→l2[k]? =some e→Frz M M2 d e):Frz M M2 (.agg l) (.agg l2)
 |tup {l l2:List DV} (hl:l.length=l2.length) (h: ∀(k:Nat) d e,l[k]? =some d→l2[k]? =some e→Frz M M2 d e):Frz M M2 (.tup l) (.tup l2)
 |ifc (t:Nat) {d e:DV} (h:Frz M M2 d e):Frz M M2 (.ifc t d) (.ifc t e)
 |ms {j lo len cap sz:Nat} {op:Bool} {rs rows:List (List DV)} (ho:M.obj j=some (.rows op sz rs)) (hn:M2.get j=none) (hb:lo+len≤rs.length) (hs: ∀r∈rows,r.length=sz) (hr:rows.length=len)
   (h: ∀(k:Nat) d e,(((rs.drop lo).take len).flatten)[k]? =some d→rows.flatten[k]? =some e→Frz M M2 d e):Frz M M2 (.ms j lo len cap) (.lst sz rows)
 |ptr {j i off sz:Nat} {op:Bool} {rs rows:List (List DV)} (ho:M.obj j=some (.rows op sz rs)) (hn:M2.get j=none) (hs: ∀r∈rows,r.length=sz) (hr:rows.length=rs.length)
   (h: ∀(k:Nat) d e,rs.flatten[k]? =some d→rows.flatten[k]? =some e→Frz M M2 d e):Frz M M2 (.ptr j i off) (.pl sz rows i off)
inductive FrzO (M M2:VM):MO→MO→Prop where
 |refl (o:MO):FrzO M M2 o o
 |rows {op:Bool} {sz:Nat} {rs rows:List (List DV)} (hs: ∀r∈rows,r.length=sz) (hr:rows.length=rs.length) (h: ∀(k:Nat) d e,rs.flatten[k]? =some d→rows.flatten[k]? =some e→Frz M M2 d e):FrzO M M2 (.rows op sz rs) (.rows op sz rows)
inductive BelowO (n:Nat):MO→Prop where
 |rows {op:Bool} {sz:Nat} {rs:List (List DV)} (h: ∀r∈rs,∀d∈r,zM n d):BelowO n (.rows op sz rs)
 |map {es:List (DV×DV)} (h: ∀e∈es,zM n e.1∧zM n e.2):BelowO n (.map es)
 |loop {st:LoopState} {pend:Option CC} {sl:DS} {rc:RC} (h: ∀x∈sl,zM n x.2):BelowO n (.loop st pend sl rc)
structure Conv (M M' M2:VM):Prop where
 nx:M.next≤M2.next
 obj: ∀j,(M2.get j=M.get j∧(j<M.next→M'.get j=M.get j))∨M2.get j=none∨
  ∃o st o',M2.get j=some (o,st)∧j<M2.next∧M.next≤st∧st<M2.next∧M'.obj j=some o'∧FrzO M' M2 o' o∧BelowO M2.next o
section
variable {w:Wd} {M' M2:VM} {h:H}
def FB (w:Wd) (M' M2:VM) (b:Nat):Prop:= ∃j R,w.rho j=some R∧R.blk=b∧(M'.get j).isSome=true∧M2.get j=none
open Classical in
noncomputable def cw (w:Wd) (M' M2:VM) (h:H):Wd:=⟨fun j=>if j<M2.next then w.rho j else none,fun b=>match w.Z b with
 |some z=>some z
 |none=>if FB w M' M2 b then(match h.get b with|some (.cells cs e)=>some (cs,e)|_=>none) else none⟩
theorem zl1 {j:Nat} (hj:j<M2.next) {R:RBd} (hR:w.rho j=some R):(cw w M' M2 h).rho j=some R:=by
 show(if j<M2.next then _ else _)=_;rw[if_pos hj];exact hR
theorem zjP {j:Nat} {R:RBd} (hR:(cw w M' M2 h).rho j=some R):j<M2.next∧w.rho j=some R:=by
 have hR:(if j<M2.next then w.rho j else none)=some R:=hR
 split at hR
 ·exact⟨‹_›,hR⟩
 ·cases hR
theorem cw_Z {b:Nat} {z:List Value×Nat} (hz:w.Z b=some z):(cw w M' M2 h).Z b=some z:=by
 show(match w.Z b with|some z=>some z|none=>_)=_;rw[hz]
theorem cw_FB {b:Nat} {cs:List Value} {e:Nat} (hz:w.Z b=none) (hf:FB w M' M2 b) (hg:h.get b=some (.cells cs e)):(cw w M' M2 h).Z b=some (cs,e):=by
 show(match w.Z b with|some z=>some z|none=>_)=_;rw[hz]
 dsimp only
 rw[if_pos hf,hg]
theorem cw_Z' {b:Nat} {z:List Value×Nat} (hz:(cw w M' M2 h).Z b=some z):w.Z b=some z∨(FB w M' M2 b∧h.get b=some (.cells z.1 z.2)):=by
 have hz:(match w.Z b with|some z=>some z|none=>_)=some z:=hz
 split at hz
 ·rename_i e;cases hz;exact .inl e
 ·split at hz
  ·rename_i hf
   split at hz
   ·rename_i hg;cases hz;exact .inr ⟨hf,hg⟩
   ·cases hz
  ·cases hz
theorem zM.rel {d:DV} {v:Value} (hv:VRel w d v):zM M2.next d→VRel (cw w M' M2 h) d v:=by
 induction hv with
 |int k n=>intro _;exact .int k n
 |bool b=>intro _;exact .bool b
 |str s=>intro _;exact .str s
 |nilS=>intro _;exact .nilS
 |nilP=>intro _;exact .nilP
 |nilM=>intro _;exact .nilM
 |nilF=>intro _;exact .nilF
 |nilI=>intro _;exact .nilI
 |agg hl _ ih=>intro hb;cases hb with|agg hb=>exact .agg hl fun k d v a b=>ih k d v a b (hb d (List.mem_of_getElem? a))
 |tup hl _ ih=>intro hb;cases hb with|tup hb=>exact .tup hl fun k d v a b=>ih k d v a b (hb d (List.mem_of_getElem? a))
 |fn g ha hc _ _ ih ih'=>intro hb;cases hb with|fn _ h1 h2=>exact .fn g ha hc (fun k d v a b=>ih k d v a b (h1 d (List.mem_of_getElem? a))) (fun k d v a b=>ih' k d v a b (h2 d (List.mem_of_getElem? a)))
 |yld hR=>intro hb;cases hb with|yld hb=>exact .yld (zl1 hb hR)
 |ifc t _ ih=>intro hb;cases hb with|ifc _ hb=>exact .ifc t (ih hb)
 |map hR=>intro hb;cases hb with|map hb=>exact .map (zl1 hb hR)
 |ptr hR=>intro hb;cases hb with|ptr hb=>exact .ptr (zl1 hb hR)
 |ms hR ho hc=>intro hb;cases hb with|ms hb=>exact .ms (zl1 hb hR) ho hc
 |lst hz hs hb _ ho hc hn ih=>intro hq;cases hq with|lst hq=>exact .lst (cw_Z hz) hs hb (fun k d v a b=>ih k d v a b (by
   obtain⟨r,hr1,hr2⟩:=List.mem_flatten.1 (List.mem_of_getElem? a);exact hq r hr1 d hr2)) ho hc hn
 |lst0 hc hsp=>intro _;exact .lst0 hc hsp
 |pl hz hs hb _ ih=>intro hq;cases hq with|pl hq=>exact .pl (cw_Z hz) hs hb (fun k d v a b=>ih k d v a b (by
   obtain⟨r,hr1,hr2⟩:=List.mem_flatten.1 (List.mem_of_getElem? a);exact hq r hr1 d hr2))
theorem zda {l m:List DV} (hl:l.length=m.length) {k:Nat} {e:DV} (he:m[k]? =some e): ∃d,l[k]? =some d:=by
 have:=(List.getElem?_eq_some_iff.1 he).1
 exact⟨l[k]'(by omega),List.getElem?_eq_getElem (by omega)⟩
theorem Frz.rel (hr:HRel w M' h) {d e:DV} (hf:Frz M' M2 d e): ∀{v:Value},VRel w d v→zM M2.next e→VRel (cw w M' M2 h) e v:=by
 induction hf with
 |refl d=>intro v hv hb;exact zM.rel hv hb
 |nilS s=>intro v hv hb;cases hv;exact .lst0 (by decide) (fun a e=>by cases e)
 |agg hl _ ih=>
  intro v hv hb
  cases hb with
  |agg hb=>
   obtain⟨vs,rfl,hlr⟩:=hv.inv_agg
   refine .agg (hl.symm.trans hlr.len) fun k e v a b=> ?_
   obtain⟨d,hd⟩:=zda hl a
   exact ih k d e hd a (hlr.at_ k d v hd b) (hb e (List.mem_of_getElem? a))
 |tup hl _ ih=>
  intro v hv hb
  cases hb with
  |tup hb=>
   obtain⟨vs,rfl,hlr⟩:=hv.inv_tup
   refine .tup (hl.symm.trans hlr.len) fun k e v a b=> ?_
   obtain⟨d,hd⟩:=zda hl a
   exact ih k d e hd a (hlr.at_ k d v hd b) (hb e (List.mem_of_getElem? a))
 |ifc t _ ih=>
  intro v hv hb
  cases hb with
  |ifc _ hb=>cases hv with|ifc _ hv=>exact .ifc t (ih hv hb)
 | @ms j lo len cap sz op rs rows ho hn hle hs hrl _ ih=>
   intro v hv hb
   cases hb with
   |lst hb=>
    cases hv with
    | @ms _ _ _ _ R hR hO hC=>
      obtain⟨st,hg⟩:=zbv ho
      obtain⟨hz,eo,he,hro⟩:=hr.obj j _ st R hg hR
      cases hro with
      | @rows _ _ _ cs e hrows=>
        have hs0:=hrows.row
        have hfl:=zbg hs0
        have hcl:=hrows.rel.len
        have hlen2:((rs.drop lo).take len).flatten.length=rows.flatten.length:=by
         rw[zbg (rs:=(rs.drop lo).take len) (fun r hr=>hs0 r (List.mem_of_mem_drop (List.mem_of_mem_take hr))),zbg hs,hrl]
         congr 1;simp;omega
        have hmul:lo*sz+len*sz≤rs.length*sz:=by rw[←Nat.add_mul];exact Nat.mul_le_mul_right _ hle
        refine .lst (cs:=cs) (e:=e) (cw_FB hz ⟨j,R,hR,rfl,by rw[hg];rfl,hn⟩ he) hs (by rw[hrl,←hrows.hsz];omega) (fun k e2 v a b=> ?_) (fun hc=> ?_) (fun hc=>by rw[hrl];exact hC hc) hrl.symm
        ·obtain⟨d,hd⟩:=zda hlen2 a
         have hd2:=hd
         rw[zdn (fun r hr=>hs0 r (List.mem_of_mem_drop hr)),zdo hs0,List.getElem?_take] at hd2
         split at hd2
         ·rw[List.getElem?_drop] at hd2
          refine ih k d e2 hd a (hrows.rel.at_ _ d v hd2 (by rw[hrows.hsz];exact b)) ?_
          obtain⟨r,hr1,hr2⟩:=List.mem_flatten.1 (List.mem_of_getElem? a);exact hb r hr1 e2 hr2
         ·cases hd2
        ·have h1:=hO hc
         have h2:=hrows.hop.trans h1
         subst h2
         have:=hrows.esz
         rw[if_pos rfl] at this
         exact⟨this,hrows.pos rfl⟩
 | @ptr j i off sz op rs rows ho hn hs hrl _ ih=>
   intro v hv hb
   cases hb with
   |pl hb=>
    cases hv with
    | @ptr _ _ _ R hR=>
      obtain⟨st,hg⟩:=zbv ho
      obtain⟨hz,eo,he,hro⟩:=hr.obj j _ st R hg hR
      cases hro with
      | @rows _ _ _ cs e hrows=>
        have hs0:=hrows.row
        have hfl:=zbg hs0
        have hcl:=hrows.rel.len
        have hlen2:rs.flatten.length=rows.flatten.length:=by rw[hfl,zbg hs,hrl]
        have:=VRel.pl (w:=cw w M' M2 h) (o:=0) (i:=i) (off:=off) (cs:=cs) (e:=e) (cw_FB hz ⟨j,R,hR,rfl,by rw[hg];rfl,hn⟩ he) hs (by rw[hrl];omega) (fun k e2 v a b=>by
         obtain⟨d,hd⟩:=zda hlen2 a
         refine ih k d e2 hd a (hrows.rel.at_ _ d v hd (by rw[←b];congr 1;omega)) ?_
         obtain⟨r,hr1,hr2⟩:=List.mem_flatten.1 (List.mem_of_getElem? a);exact hb r hr1 e2 hr2)
        rw[Nat.zero_add] at this
        rw[←hrows.hsz];exact this
theorem St.conv {n0:Nat} {w0:Wd} {M M0:VM} {h0 h1:H} {w1:Wd} (hst:St n0 w0 M0 h0 w1 M h1) {hh:H} (hr1:HRel w1 M h1) (hi:Hist w1 M h1 w M' hh) (hr:HRel w M' hh) (hc:Conv M M' M2):St n0 w0 M0 h0 (cw w M' M2 hh) M2 hh:=by
 have hle1:w1.Le (cw w M' M2 hh):=⟨fun j R e=>zl1 (Nat.lt_of_lt_of_le (hr1.dom j R e).1 hc.nx) (hi.le.rho _ _ e),fun b z e=>cw_Z (hi.le.Z _ _ e)⟩
 have kept: ∀j o st,M2.get j=some (o,st)→(M.get j=some (o,st)∧M'.get j=some (o,st))∨(j<M2.next∧M.next≤st∧st<M2.next∧ ∃o',M'.obj j=some o'∧FrzO M' M2 o' o∧BelowO M2.next o):=fun j o st e=>by
  rcases hc.obj j with⟨h1,h2⟩|h1| ⟨o1,st1,o',h1,h2,h3,h4,h5,h6,h7⟩
  ·rw[h1] at e
   exact .inl ⟨e,by rw[h2 (hr1.wf j o st e).1];exact e⟩
  ·rw[h1] at e;cases e
  ·rw[h1] at e;cases e;exact .inr ⟨h2,h3,h4,o',h5,h6,h7⟩
 have live: ∀j x,M2.get j=some x→ ∃y,M'.get j=some y:=fun j x e=>by
  obtain⟨o,st⟩:=x
  rcases kept j o st e with⟨_,h2⟩| ⟨_,_,_,o',h5,_⟩
  ·exact⟨_,h2⟩
  ·obtain⟨st',h6⟩:=zbv h5;exact⟨_,h6⟩
 refine⟨hst.n,hst.r0,hst.hi.trans hst.r0 ⟨hle1,hc.nx,hi.hnx,fun j o st e=> ?_,fun j x R e1 e2 hR=> ?_,fun j R e=>hi.own j R (zjP e).2,hi.rest⟩,?_⟩
 ·rcases kept j o st e with⟨h1,-⟩| ⟨_,h1,_⟩
  ·exact .inl h1
  ·exact .inr h1
 ·obtain⟨o,st⟩:=x
  rcases kept j o st e2 with⟨_,h2⟩| ⟨_,h1,_⟩
  ·exact hi.same j _ R e1 h2 hR
  ·have:=(hr1.wf j o st e1).2.1;omega
 ·constructor
  ·intro j o st e
   rcases kept j o st e with⟨h1,h2⟩| ⟨h1,_,h3,o',h5,_⟩
   ·obtain⟨a,b,R,c⟩:=hr1.wf j o st h1
    exact⟨Nat.lt_of_lt_of_le a hc.nx,Nat.lt_of_lt_of_le b hc.nx,R,hle1.rho _ _ c⟩
   ·obtain⟨st',h6⟩:=zbv h5
    obtain⟨_,_,R,c⟩:=hr.wf j _ _ h6
    exact⟨h1,h3,R,zl1 h1 c⟩
  ·intro j R e
   obtain⟨a,b⟩:=zjP e
   exact⟨a,(hr.dom j R b).2⟩
  ·intro b z e
   rcases cw_Z' e with e| ⟨⟨j,R,hR,rfl,_⟩,hg⟩
   ·exact hr.zd b z e
   ·exact⟨(hr.dom j R hR).2,hg⟩
  ·intro j o st R e hR
   obtain⟨hj,hR⟩:=zjP hR
   obtain⟨y,hy⟩:=live j _ e
   obtain⟨hz,e',he',hro⟩:=hr.obj j y.1 y.2 R hy hR
   refine⟨?_,?_⟩
   ·cases hzz:(cw w M' M2 hh).Z R.blk with
    |none=>rfl
    |some z=>
     rcases cw_Z' hzz with e2| ⟨⟨j',R',hR',eb,hl,hn⟩,hg⟩
     ·rw[hz] at e2;cases e2
     ·have:=hr.inj j' j R' R hR' hR hl (by rw[hy];rfl) eb
      subst this
      rw[hn] at e;cases e
   ·rcases kept j o st e with⟨h1,h2⟩| ⟨_,_,_,o',h5,h6,h7⟩
    ·
     obtain⟨_,_,R1,c⟩:=hr1.wf j o st h1
     have:R1=R:=by have:=hi.le.rho _ _ c;rw[hR] at this;cases this;rfl
     subst this
     obtain⟨_,e0,he0,hro0⟩:=hr1.obj j o st R1 h1 c
     exact⟨e0,by rw[hi.same j _ R1 h1 h2 c];exact he0,hro0.mono hle1⟩
    ·obtain⟨st',h8⟩:=zbv h5
     rw[hy] at h8;cases h8
     refine⟨e',he',?_⟩
     cases h6 with
     |refl=>
      cases hro with
      | @rows op sz rs cs ee hrows=>
        cases h7 with
        |rows h7=>
         refine .rows ⟨hrows.hop,hrows.hsz,hrows.esz,hrows.pos,hrows.row,hrows.rel.len,fun k d v a b=>zM.rel (hrows.rel.at_ k d v a b) ?_⟩
         obtain⟨r,hr1,hr2⟩:=List.mem_flatten.1 (List.mem_of_getElem? a);exact h7 r hr1 d hr2
      | @map es es' c hm=>
        cases h7 with
        |map h7=>
         refine .map ⟨⟨hm.keys.len,fun k d v a b=>zM.rel (hm.keys.at_ k d v a b) ?_⟩,⟨hm.vals.len,fun k d v a b=>zM.rel (hm.vals.at_ k d v a b) ?_⟩⟩
         ·obtain⟨x,hx,rfl⟩:=List.mem_map.1 (List.mem_of_getElem? a);exact(h7 x hx).1
         ·obtain⟨x,hx,rfl⟩:=List.mem_map.1 (List.mem_of_getElem? a);exact(h7 x hx).2
      | @loop lst pend sl sl' rc hsl=>
        cases h7 with
        |loop h7=>
         refine .loop fun p d hd=> ?_
         obtain⟨v,hv,hv2⟩:=hsl p d hd
         refine⟨v,hv,zM.rel hv2 ?_⟩
         have: ∀{s:DS},getS s p=some d→ ∃x∈s,x.2=d:=by
          intro s
          induction s with
          |nil=>intro q;cases q
          |cons x s ih=>
           intro q
           obtain⟨x1,x2⟩:=x
           rw[zef] at q
           split at q
           ·cases q;exact⟨_,List.mem_cons_self ..,rfl⟩
           ·obtain⟨y,hy,e⟩:=ih q;exact⟨y,List.mem_cons_of_mem _ hy,e⟩
         obtain⟨x,hx,rfl⟩:=this hd
         exact h7 x hx
     | @rows op sz rs rows hs hrl hfr=>
       cases hro with
       | @rows _ _ _ cs ee hrows=>
         cases h7 with
         |rows h7=>
          have hlen2:rs.flatten.length=rows.flatten.length:=by rw[zbg hrows.row,zbg hs,hrl]
          refine .rows ⟨hrows.hop,hrows.hsz,hrows.esz,hrows.pos,hs,hlen2.symm.trans hrows.rel.len,fun k d v a b=> ?_⟩
          obtain⟨d0,hd0⟩:=zda hlen2 a
          refine(hfr k d0 d hd0 a).rel hr (hrows.rel.at_ k d0 v hd0 b) ?_
          obtain⟨r,hr1,hr2⟩:=List.mem_flatten.1 (List.mem_of_getElem? a);exact h7 r hr1 d hr2
  ·intro i j R S hi' hj ai aj eb
   obtain⟨xi,ei⟩:=Option.isSome_iff_exists.1 ai
   obtain⟨xj,ej⟩:=Option.isSome_iff_exists.1 aj
   obtain⟨yi,fi⟩:=live i _ ei
   obtain⟨yj,fj⟩:=live j _ ej
   exact hr.inj i j R S (zjP hi').2 (zjP hj).2 (by rw[fi];rfl) (by rw[fj];rfl) eb
end
variable {F:FuncId→Option zq} {n0:Nat}
theorem zA.conv {f:DV} {args:List DV} {M:VM} {k kp:DV→VM→Prop} (h:zA F f args M (fun d M'=> ∃e M2,Conv M M' M2∧Frz M' M2 d e∧zM M2.next e∧k e M2) kp):zA F f args M k kp:=by
 intro w hp fv vs hr hf hv
 obtain⟨n,o,e,q⟩:=h w hp fv vs hr hf hv
 refine⟨n,o,e,?_⟩
 cases o with
 |val v h1=>
  obtain⟨w1,M1,d,a1,a2,a3,e2,M2,c1,c2,c3,c4⟩:=q
  have:=St.conv ⟨rfl,hr,.refl _ _ _,hr⟩ hr a1 a2 c1
  exact⟨_,M2,e2,this.hi,this.r,c2.rel a2 a3 c3,c4⟩
 |pan v s h1=>exact q
 |_=>exact q
theorem zA.pre {f:DV} {args args2:List DV} {M M2:VM} {k kp:DV→VM→Prop} (hc:Conv M M M2) (hf:zM M2.next f) (hl:args.length=args2.length) (ha: ∀(i:Nat) d e,args[i]? =some d→args2[i]? =some e→Frz M M2 d e∧zM M2.next e) (h:zA F f args2 M2 k kp):zA F f args M k kp:=by
 intro w hp fv vs hr hfv hv
 have st:=St.conv ⟨rfl,hr,.refl _ _ _,hr⟩ hr (.refl _ _ _) hr hc
 obtain⟨n,o,e,q⟩:=h _ hp fv vs st.r (zM.rel hfv hf) ⟨hl.symm.trans hv.len,fun i e v a b=>by
  obtain⟨d,hd⟩:=zda hl a
  obtain⟨h1,h2⟩:=ha i d e hd a
  exact h1.rel hr (hv.at_ i d v hd b) h2⟩
 refine⟨n,o,e,?_⟩
 cases o with
 |val v h1=>obtain⟨w1,M1,d,a1,a2,a3,a4⟩:=q;exact⟨w1,M1,d,st.hi.trans hr a1,a2,a3,a4⟩
 |pan v s h1=>obtain⟨w1,M1,d,a1,a2,a3,a4⟩:=q;exact⟨w1,M1,d,st.hi.trans hr a1,a2,a3,a4⟩
 |_=>exact q
def VM.Wf (M:VM):Prop:= ∀j,M.next≤j→M.get j=none
theorem HRel.Wf {w:Wd} {M:VM} {h:H} (hr:HRel w M h):M.Wf:=fun j hj=>by
 cases e:M.get j with
 |none=>rfl
 |some x=>obtain⟨o,st⟩:=x;have:=(hr.wf j o st e).1;omega
theorem zA.wf {f:DV} {args:List DV} {M:VM} {k kp:DV→VM→Prop} (h:M.Wf→zA F f args M k kp):zA F f args M k kp:=fun w hp fv vs hr a b=>h hr.Wf w hp fv vs hr a b
theorem Conv.same {M M':VM} (h: ∀j,j<M.next→M'.get j=M.get j):Conv M M' M:=⟨Nat.le_refl _,fun j=>.inl ⟨rfl,h j⟩⟩
theorem Frz.ms0 {M M2:VM} {j n cap sz:Nat} {op:Bool} {rs:List (List DV)} (ho:M.obj j=some (.rows op sz rs)) (hn:M2.get j=none) (hl:n=rs.length) (hs: ∀r∈rs,r.length=sz):Frz M M2 (.ms j 0 n cap) (.lst sz rs):=by
 subst hl
 refine .ms ho hn (by omega) hs rfl fun k d e a b=> ?_
 rw[List.drop_zero,List.take_length] at a
 rw[a] at b;cases b;exact .refl d
end Go.Ideal
namespace Go.Ideal
noncomputable section
namespace Q
abbrev iI (n:Int):Value:=.int .i64 n
abbrev t (n:Nat):CO:=.t (bits n)
abbrev i (n:Int):CO:=.c (.int .i64 n)
abbrev tt:CO:=.c (.bool true)
abbrev ff:CO:=.c (.bool false)
abbrev fc (f:Nat):CO:=.c (.func (.func f) ⟨[]⟩ ⟨[]⟩)
abbrev bs (l:List Nat):List (List Bool):=l.map bits
abbrev oo (d:Nat) (x:COp):CI:=⟨some (bits d),x,none,0⟩
abbrev on (x:COp):CI:=⟨none,x,none,0⟩
abbrev gu (q:Nat) (b:Bool) (c:CI):CI:=⟨c.dst,c.op,some (bits q,b),c.lo⟩
def lo (n:Nat) (c:CI):CI:=⟨c.dst,c.op,c.guard,n⟩
@[simp] theorem lo_eq (n m:Nat) (d:Option (List Bool)) (o:COp) (g:Option (List Bool×Bool)):lo n ⟨d,o,g,m⟩=⟨d,o,g,n⟩:=id rfl
abbrev mv (d:Nat) (x:CO):CI:=⟨some (bits d),.mv x,none,0⟩
abbrev l (d a:Nat):CI:=⟨some (bits d),.load1 (t a),none,0⟩
abbrev ln (d n a:Nat):CI:=⟨some (bits d),.loadN n (t a),none,0⟩
abbrev fa (d n a:Nat):CI:=⟨some (bits d),.fieldAddr n (t a),none,0⟩
abbrev nc (d a:Nat):CI:=⟨some (bits d),.nilCheck (t a),none,0⟩
abbrev ia (d n a:Nat) (x:CO):CI:=⟨some (bits d),.indexAddr n (t a) x,none,0⟩
abbrev st (n a:Nat) (x:CO):CI:=⟨none,.store n (t a) x,none,0⟩
abbrev bi (op:BinOp) (d:Nat) (x y:CO):CI:=⟨some (bits d),.bin op .other x y,none,0⟩
abbrev le (d:Nat) (x:CO):CI:=⟨some (bits d),.blt .len [x],none,0⟩
abbrev ca (d f:Nat) (as:List CO):CI:=⟨some (bits d),.call (fc f) as,none,0⟩
abbrev ex (d a n:Nat):CI:=⟨some (bits d),.extract (t a) n,none,0⟩
abbrev bx (d:Nat) (x:CO):CI:=⟨some (bits d),.box x,none,0⟩
abbrev no (d a:Nat):CI:=⟨some (bits d),.un .not (t a),none,0⟩
abbrev pk (d:Nat) (c a b:CO):CI:=⟨some (bits d),.pick c a b,none,0⟩
abbrev ap (d s b:Nat) (x y:CO):CI:=⟨some (bits d),.blt (.append s b) [x,y],none,0⟩
end Q
inductive Fr where
 |sq (L:List (List Bool)) (b:CC)
 |bk (i:Nat)
def KF (X:RnD):List Fr→KD→KD
 | [],K=>K
 |.sq L b::ks,K=>⟨fun s M=>wp X b (KF X ks K) (zbk L s) M,(KF X ks K).ext,(KF X ks K).ret,(KF X ks K).pan⟩
 |.bk i::ks,K=>⟨(KF X ks K).nrm,blkD i (KF X ks K),(KF X ks K).ret,(KF X ks K).pan⟩
class FrC where
 ks:List Fr
 K:KD
abbrev FrC.sq (f:FrC) (L:List (List Bool)) (b:CC):FrC:=⟨.sq L b::f.ks,f.K⟩
abbrev FrC.bk (f:FrC) (i:Nat):FrC:=⟨.bk i::f.ks,f.K⟩
abbrev FrC.base (K:KD):FrC:=⟨[],K⟩
def kf (X:RnD) [f:FrC]:KD:=KF X f.ks f.K
section
variable (X:RnD) [fr:FrC]
def Cd (c:CC) (s:DS) (M:VM):Prop:=wp X c (@kf X fr) s M
def Op (l:List CI) (s:DS) (M:VM):Prop:=wOps X (@kf X fr).pan l s M (@kf X fr).nrm
def Nx (s:DS) (M:VM):Prop:=(@kf X fr).nrm s M
def Ex (i:Nat) (s:DS) (M:VM):Prop:=(@kf X fr).ext i s M
def CK (d:Option (List Bool)) (r:List CI) (s:DS) (v:DV) (M:VM):Prop:= @Op X fr r (zbm d v s) M
def PK [fr:FrC] (s:DS) (v:DV) (M:VM):Prop:=fr.K.pan v s M
def Rs (o:RD) (d:Option (List Bool)) (r:List CI) (s:DS):Prop:=okD o (@CK X fr d r s)
def Ca (f:Option DV) (as:Option (List DV)) (d:Option (List Bool)) (r:List CI) (s:DS) (M:VM):Prop:=ofD f fun f=>ofD as fun l=>X.call f l M (@CK X fr d r s) (@PK fr s)
def Gd (g:Option Bool) (d:Option (List Bool)) (op:COp) (lo:Nat) (r:List CI) (s:DS) (M:VM):Prop:=ofD g fun b=>match b with
 |true=> @Op X fr (⟨d,op,none,lo⟩::r) s M
 |false=> @Op X fr r (zbm d (.tup []) s) M
def Br (v:Option DV) (a b:CC) (s:DS) (M:VM):Prop:=ofD v fun v=>wIf v (@Cd X fr a s M) (@Cd X fr b s M)
def Rg (f:Option DV) (rc:RC) (s:DS) (M:VM):Prop:=ofD f fun f=>match f with
    |.fn g a c=>X.call (.fn g a c) [.yld M.next] (M.new (.loop .ready none (zbk rc.L s) rc)) (fun _ M'=>zgr (@kf X fr) s M.next M') fun _ _=>False
    |_=>False
end
section
variable {X:RnD} {fr:FrC} {K:KD} {s:DS} {M:VM} {d:Option (List Bool)} {r:List CI} {lo:Nat}
theorem KF_ret0: ∀ks:List Fr,(KF X ks K).ret=K.ret
 | []=>rfl
 |.sq _ _::ks=>KF_ret0 ks
 |.bk _::ks=>KF_ret0 ks
theorem KF_pan0: ∀ks:List Fr,(KF X ks K).pan=K.pan
 | []=>rfl
 |.sq _ _::ks=>KF_pan0 ks
 |.bk _::ks=>KF_pan0 ks
theorem KF_ret:(@kf X fr).ret=fr.K.ret:=KF_ret0 _
theorem KF_pan:(@kf X fr).pan=fr.K.pan:=KF_pan0 _
@[simp] theorem KF_ret':(@kf X fr).ret s M=fr.K.ret s M:=by rw[KF_ret]
@[simp] theorem sq_K (L:List (List Bool)) (b:CC):(fr.sq L b).K=fr.K:=id rfl
@[simp] theorem bk_K (i:Nat):(fr.bk i).K=fr.K:=id rfl
@[simp] theorem base_K:(FrC.base K).K=K:=id rfl
@[simp] theorem KF_nrm:(@kf X fr).nrm s M= @Nx X fr s M:=id rfl
@[simp] theorem KF_ext (i:Nat):(@kf X fr).ext i s M= @Ex X fr i s M:=id rfl
@[simp] theorem Cd_skip: @Cd X fr .skip s M= @Nx X fr s M:=id rfl
@[simp] theorem Cd_ops (l:List CI): @Cd X fr (.ops l) s M= @Op X fr l s M:=id rfl
@[simp] theorem Cd_seq (a b:CC) (L:List (List Bool)): @Cd X fr (.seq a L b) s M= @Cd X (fr.sq L b) a s M:=id rfl
@[simp] theorem Cd_block (i:Nat) (b:CC): @Cd X fr (.block i b) s M= @Cd X (fr.bk i) b s M:=id rfl
@[simp] theorem Cd_cond (c:CO) (a b:CC): @Cd X fr (.cond c a b) s M= @Br X fr (evD s c) a b s M:=id rfl
@[simp] theorem Cd_exit (i:Nat): @Cd X fr (.exit i) s M= @Ex X fr i s M:=id rfl
@[simp] theorem Cd_ret: @Cd X fr .ret s M=fr.K.ret s M:=by show(@kf X fr).ret s M=_;rw[KF_ret]
@[simp] theorem Cd_loop (L:List (List Bool)) (b:CC): @Cd X fr (.loop L b) s M=X.loop L b (@kf X fr) (zbk L s) M:=id rfl
@[simp] theorem Cd_scope (b:CC) (l1:Nat) (r1:CC) (l2:Nat) (r2:CC): @Cd X fr (.scope b l1 r1 l2 r2) s M=X.scope b l1 r1 l2 r2 (@kf X fr) s M:=id rfl
@[simp] theorem Cd_range (rid:Nat) (L:List (List Bool)) (f:CO) (ps:List (List Bool)) (as b:CC): @Cd X fr (.rangeFunc rid L f ps as b) s M= @Rg X fr (evD s f) ⟨rid,L,ps,as,b⟩ s M:=id rfl
@[simp] theorem Rg_fn (g:Nat) (a c:List DV) (rc:RC): @Rg X fr (some (.fn g a c)) rc s M=X.call (.fn g a c) [.yld M.next] (M.new (.loop .ready none (zbk rc.L s) rc)) (fun _ M'=>zgr (@kf X fr) s M.next M') fun _ _=>False:=id rfl
@[simp] theorem Br_true (a b:CC): @Br X fr (some (.bool true)) a b s M= @Cd X fr a s M:=id rfl
@[simp] theorem Br_false (a b:CC): @Br X fr (some (.bool false)) a b s M= @Cd X fr b s M:=id rfl
theorem zj (b:Bool) (a c:CC): @Br X fr (some (.bool b)) a c s M=if b=true then @Cd X fr a s M else @Cd X fr c s M:=by cases b<;>rfl
@[simp] theorem Nx_nil: @Nx X (.base K) s M=K.nrm s M:=id rfl
@[simp] theorem Nx_sq (L:List (List Bool)) (b:CC): @Nx X (fr.sq L b) s M= @Cd X fr b (zbk L s) M:=id rfl
@[simp] theorem Nx_bk (i:Nat): @Nx X (fr.bk i) s M= @Nx X fr s M:=id rfl
@[simp] theorem Ex_nil (i:Nat): @Ex X (.base K) i s M=K.ext i s M:=id rfl
@[simp] theorem Ex_sq (L:List (List Bool)) (b:CC) (i:Nat): @Ex X (fr.sq L b) i s M= @Ex X fr i s M:=id rfl
@[simp] theorem Ex_bk (i j:Nat): @Ex X (fr.bk i) j s M=if j=i then @Nx X fr s M else @Ex X fr j s M:=by
  show blkD i (@kf X fr) j s M=_
  unfold blkD
  by_cases h:j=i
  ·subst h;rw[if_pos rfl,Nat.beq_refl];rfl
  ·rw[if_neg h];cases e:Nat.beq j i with
   |true=>exact absurd (Nat.eq_of_beq_eq_true e) h
   |false=>rfl
@[simp] theorem Op_nil: @Op X fr [] s M= @Nx X fr s M:=id rfl
@[simp] theorem Op_guard (op:COp) (g:List Bool×Bool): @Op X fr (⟨d,op,some g,lo⟩::r) s M= @Gd X fr (wantD (some g) s) d op lo r s M:=by
  show zg7 X _ s M _ _=_
  unfold zg7 Gd
  congr 1
theorem zi (b:Bool) (op:COp): @Gd X fr (some b) d op lo r s M=if b=true then @Op X fr (⟨d,op,none,lo⟩::r) s M else @Op X fr r (zbm d (.tup []) s) M:=by cases b<;>rfl
@[simp] theorem Gd_true (op:COp): @Gd X fr (some true) d op lo r s M= @Op X fr (⟨d,op,none,lo⟩::r) s M:=id rfl
@[simp] theorem Gd_false (op:COp): @Gd X fr (some false) d op lo r s M= @Op X fr r (zbm d (.tup []) s) M:=id rfl
@[simp] theorem Rs_some (v:DV) (M':VM): @Rs X fr (some (v,M')) d r s= @Op X fr r (zbm d v s) M':=id rfl
@[simp] theorem CK_eq (v:DV): @CK X fr d r s v M= @Op X fr r (zbm d v s) M:=id rfl
@[simp] theorem Ca_some (f:DV) (as:List DV): @Ca X fr (some f) (some as) d r s M=X.call f as M (@CK X fr d r s) (@PK fr s):=id rfl
@[simp] theorem Op_call (f:CO) (as:List CO): @Op X fr (⟨d,.call f as,none,lo⟩::r) s M= @Ca X fr (evD s f) (evDL s as) d r s M:=by
  show ofD _ _=ofD _ _
  unfold PK CK Op
  rw[KF_pan]
@[simp] theorem Op_mv (x:CO): @Op X fr (⟨d,.mv x,none,lo⟩::r) s M= @Rs X fr (opD (.mv x) s M) d r s:=id rfl
@[simp] theorem Op_pick (c a b:CO): @Op X fr (⟨d,.pick c a b,none,lo⟩::r) s M= @Rs X fr (opD (.pick c a b) s M) d r s:=id rfl
@[simp] theorem Op_build (z:List Value) (ps:List (Nat×Nat×CO)): @Op X fr (⟨d,.build z ps,none,lo⟩::r) s M= @Rs X fr (opD (.build z ps) s M) d r s:=id rfl
@[simp] theorem Op_load1 (a:CO): @Op X fr (⟨d,.load1 a,none,lo⟩::r) s M= @Rs X fr (opD (.load1 a) s M) d r s:=id rfl
@[simp] theorem Op_loadN (n:Nat) (a:CO): @Op X fr (⟨d,.loadN n a,none,lo⟩::r) s M= @Rs X fr (opD (.loadN n a) s M) d r s:=id rfl
@[simp] theorem Op_store (n:Nat) (a x:CO): @Op X fr (⟨d,.store n a x,none,lo⟩::r) s M= @Rs X fr (opD (.store n a x) s M) d r s:=id rfl
@[simp] theorem Op_bin (op:BinOp) (ek:EK) (x y:CO): @Op X fr (⟨d,.bin op ek x y,none,lo⟩::r) s M= @Rs X fr (opD (.bin op ek x y) s M) d r s:=id rfl
@[simp] theorem Op_un (op:UnOp) (x:CO): @Op X fr (⟨d,.un op x,none,lo⟩::r) s M= @Rs X fr (opD (.un op x) s M) d r s:=id rfl
@[simp] theorem Op_conv (k:IntKind) (x:CO): @Op X fr (⟨d,.conv k x,none,lo⟩::r) s M= @Rs X fr (opD (.conv k x) s M) d r s:=id rfl
@[simp] theorem Op_makeFunc (g:Fn) (a b:List CO): @Op X fr (⟨d,.makeFunc g a b,none,lo⟩::r) s M= @Rs X fr (opD (.makeFunc g a b) s M) d r s:=id rfl
@[simp] theorem Op_slice (n:Nat) (x:CO) (lo' hi:Option CO): @Op X fr (⟨d,.slice n x lo' hi,none,lo⟩::r) s M= @Rs X fr (opD (.slice n x lo' hi) s M) d r s:=id rfl
@[simp] theorem Op_slice3 (n:Nat) (x:CO) (lo':Option CO) (hi mx:CO): @Op X fr (⟨d,.slice3 n x lo' hi mx,none,lo⟩::r) s M= @Rs X fr (opD (.slice3 n x lo' hi mx) s M) d r s:=id rfl
@[simp] theorem Op_fieldAddr (n:Nat) (x:CO): @Op X fr (⟨d,.fieldAddr n x,none,lo⟩::r) s M= @Rs X fr (opD (.fieldAddr n x) s M) d r s:=id rfl
@[simp] theorem Op_indexAddr (n:Nat) (x i:CO): @Op X fr (⟨d,.indexAddr n x i,none,lo⟩::r) s M= @Rs X fr (opD (.indexAddr n x i) s M) d r s:=id rfl
@[simp] theorem Op_indexArr (n m:Nat) (x i:CO): @Op X fr (⟨d,.indexArr n m x i,none,lo⟩::r) s M= @Rs X fr (opD (.indexArr n m x i) s M) d r s:=id rfl
@[simp] theorem Op_lookup (kk:KK) (z:Value) (ok:Bool) (x i:CO): @Op X fr (⟨d,.lookup kk z ok x i,none,lo⟩::r) s M= @Rs X fr (opD (.lookup kk z ok x i) s M) d r s:=id rfl
@[simp] theorem Op_mapUpdate (kk:KK) (m i x:CO): @Op X fr (⟨d,.mapUpdate kk m i x,none,lo⟩::r) s M= @Rs X fr (opD (.mapUpdate kk m i x) s M) d r s:=id rfl
@[simp] theorem Op_extract (x:CO) (i:Nat): @Op X fr (⟨d,.extract x i,none,lo⟩::r) s M= @Rs X fr (opD (.extract x i) s M) d r s:=id rfl
@[simp] theorem Op_b2s (x:CO): @Op X fr (⟨d,.b2s x,none,lo⟩::r) s M= @Rs X fr (opD (.b2s x) s M) d r s:=id rfl
@[simp] theorem Op_box (x:CO): @Op X fr (⟨d,.box x,none,lo⟩::r) s M= @Rs X fr (opD (.box x) s M) d r s:=id rfl
@[simp] theorem Op_alloc (z:List Value): @Op X fr (⟨d,.alloc z,none,lo⟩::r) s M= @Rs X fr (opD (.alloc z) s M) d r s:=id rfl
@[simp] theorem Op_makeMap: @Op X fr (⟨d,.makeMap,none,lo⟩::r) s M= @Rs X fr (opD (.makeMap) s M) d r s:=id rfl
@[simp] theorem Op_makeSlice (n b:Nat) (z:List Value) (l c:CO): @Op X fr (⟨d,.makeSlice n b z l c,none,lo⟩::r) s M= @Rs X fr (opD (.makeSlice n b z l c) s M) d r s:=id rfl
@[simp] theorem Op_buildSlice (len size:Nat) (z:List Value) (ps:List (Nat×CO)): @Op X fr (⟨d,.buildSlice len size z ps,none,lo⟩::r) s M= @Rs X fr (opD (.buildSlice len size z ps) s M) d r s:=id rfl
@[simp] theorem Op_blt (b:CB) (as:List CO): @Op X fr (⟨d,.blt b as,none,lo⟩::r) s M= @Rs X fr (opD (.blt b as) s M) d r s:=id rfl
end
section
variable (X:RnD) [fr:FrC]
def Dr (l:List CI) (bs:List Mo) (s:DS) (M:VM):Prop:=zd1 X l bs s M (@kf X fr).nrm
def DW (d:Option (List Bool)) (l:List CI) (bs:List Mo) (s:DS) (v:DV) (M:VM):Prop:= @Dr X fr l (⟨zlL bs,M,[]⟩::bs.map (zcC d)) (zbm d v s) M
def DrW (o:RD) (d:Option (List Bool)) (l:List CI) (bs:List Mo) (s:DS):Prop:=okD o (@DW X fr d l bs s)
def DrC (f:Option DV) (as:Option (List DV)) (d:Option (List Bool)) (l:List CI) (bs:List Mo) (s:DS) (M:VM):Prop:=ofD f fun f=>ofD as fun a=>X.call f a M (@DW X fr d l bs s) fun _ _=>False
def DrF (o:RD) (ns:List (List Bool)) (d:Option (List Bool)) (l:List CI) (bs:List Mo) (s:DS):Prop:=okD o fun v M=> @Dr X fr l (bs.map (zgx ns d)) (zbm d v s) M
def DrA (o:RD) (d:Option (List Bool)) (l:List CI) (bs:List Mo) (s:DS):Prop:=okD o fun v M=> @Dr X fr l (bs.map (zcC d)) (zbm d v s) M
def DrR (o:RD) (rs:List Nat) (ns:List (List Bool)) (d:Option (List Bool)) (lo:Nat) (l:List CI) (bs:List Mo) (s:DS) (M:VM):Prop:=match bs with
 | []=>False
 |x::r=>okD o fun v _=>rdAt rs ns M x∧rdOk rs ns M lo r∧zkE (x::r) v=true∧ @Dr X fr l (x::ziY lo d r) (zbm d v s) M
def DrG (g:Option Bool) (o:CI) (l:List CI) (bs:List Mo) (s:DS) (M:VM):Prop:=ofD g fun b=>match b with
 |true=> @Dr X fr (⟨o.dst,o.op,none,o.lo⟩::l) bs s M
 |false=>if isW o.op=true then @DW X fr o.dst l bs s (.tup []) M else if isRd o.op=true then @Dr X fr l (bs.map (zgx (zB o.op) o.dst)) (zbm o.dst (.tup []) s) M else if isFl o.op=true then @Dr X fr l (bs.map (zgx (zB o.op) o.dst)) (zbm o.dst (.tup []) s) M else @Dr X fr l (bs.map (zcC o.dst)) (zbm o.dst (.tup []) s) M
end
section
variable {X:RnD} {fr:FrC} {K:KD} {s:DS} {M:VM} {d:Option (List Bool)} {l:List CI} {lo:Nat} {bs:List Mo}
@[simp] theorem Cd_draw (l:List CI): @Cd X fr (.draw l) s M= @Dr X fr l [⟨0,M,[]⟩] s M:=id rfl
@[simp] theorem Dr_nil: @Dr X fr [] bs s M= @Nx X fr s M:=id rfl
@[simp] theorem DW_eq (v:DV): @DW X fr d l bs s v M= @Dr X fr l (⟨zlL bs,M,[]⟩::bs.map (zcC d)) (zbm d v s) M:=id rfl
@[simp] theorem DrW_some (v:DV) (M':VM): @DrW X fr (some (v,M')) d l bs s= @Dr X fr l (⟨zlL bs,M',[]⟩::bs.map (zcC d)) (zbm d v s) M':=id rfl
@[simp] theorem DrC_some (f:DV) (as:List DV): @DrC X fr (some f) (some as) d l bs s M=X.call f as M (@DW X fr d l bs s) fun _ _=>False:=id rfl
@[simp] theorem DrF_some (ns:List (List Bool)) (v:DV) (M':VM): @DrF X fr (some (v,M')) ns d l bs s= @Dr X fr l (bs.map (zgx ns d)) (zbm d v s) M':=id rfl
@[simp] theorem DrA_some (v:DV) (M':VM): @DrA X fr (some (v,M')) d l bs s= @Dr X fr l (bs.map (zcC d)) (zbm d v s) M':=id rfl
@[simp] theorem DrR_some (v:DV) (M':VM) (rs:List Nat) (ns:List (List Bool)) (x:Mo) (r:List Mo): @DrR X fr (some (v,M')) rs ns d lo l (x::r) s M=(rdAt rs ns M x∧rdOk rs ns M lo r∧zkE (x::r) v=true∧ @Dr X fr l (x::ziY lo d r) (zbm d v s) M):=id rfl
theorem zg (b:Bool) (o:CI): @DrG X fr (some b) o l bs s M=if b=true then @DrG X fr (some true) o l bs s M else @DrG X fr (some false) o l bs s M:=by cases b<;>rfl
@[simp] theorem DrG_true (o:CI): @DrG X fr (some true) o l bs s M= @Dr X fr (⟨o.dst,o.op,none,o.lo⟩::l) bs s M:=id rfl
@[simp] theorem DrG_false (o:CI): @DrG X fr (some false) o l bs s M=if isW o.op=true then @DW X fr o.dst l bs s (.tup []) M else if isRd o.op=true then @Dr X fr l (bs.map (zgx (zB o.op) o.dst)) (zbm o.dst (.tup []) s) M else if isFl o.op=true then @Dr X fr l (bs.map (zgx (zB o.op) o.dst)) (zbm o.dst (.tup []) s) M else @Dr X fr l (bs.map (zcC o.dst)) (zbm o.dst (.tup []) s) M:=id rfl
@[simp] theorem Dr_guard (op:COp) (g:List Bool×Bool): @Dr X fr (⟨d,op,some g,lo⟩::l) bs s M= @DrG X fr (wantD (some g) s) ⟨d,op,some g,lo⟩ l bs s M:=by
  unfold Dr
  conv=>lhs;unfold zd1
  cases hw:isW op with
  |true=>
   show zg7 X _ s M _ _=_
   unfold zg7 DrG
   dsimp only
   congr 1;funext b
   cases b with
   |true=>show _= @Dr X fr _ _ _ _;unfold Dr;(conv=>rhs;unfold zd1;rw[hw]);rfl
   |false=>dsimp only;rw[hw];rfl
  |false=>
   cases hr:isRd op with
   |true=>
    unfold DrG
    dsimp only
    congr 1;funext b
    cases b with
    |true=>show _= @Dr X fr _ _ _ _;unfold Dr;(conv=>rhs;unfold zd1;rw[hw,hr]);rfl
    |false=>dsimp only;rw[hw,hr];rfl
   |false=>
    cases hf:isFl op with
    |true=>
     show zg7 X _ s M _ _=_
     unfold zg7 DrG
     dsimp only
     congr 1;funext b
     cases b with
     |true=>show _= @Dr X fr _ _ _ _;unfold Dr;(conv=>rhs;unfold zd1;rw[hw,hr,hf]);rfl
     |false=>dsimp only;rw[hw,hr,hf];rfl
    |false=>
     show zg7 X _ s M _ _=_
     unfold zg7 DrG
     dsimp only
     congr 1;funext b
     cases b with
     |true=>show _= @Dr X fr _ _ _ _;unfold Dr;(conv=>rhs;unfold zd1;rw[hw,hr,hf]);rfl
     |false=>dsimp only;rw[hw,hr,hf];rfl
@[simp] theorem Dr_call (f:CO) (as:List CO): @Dr X fr (⟨d,.call f as,none,lo⟩::l) bs s M= @DrC X fr (evD s f) (evDL s as) d l bs s M:=id rfl
@[simp] theorem Dr_mv (x:CO): @Dr X fr (⟨d,.mv x,none,lo⟩::l) bs s M= @DrF X fr (opD (.mv x) s M) (zB (.mv x)) d l bs s:=id rfl
@[simp] theorem Dr_pick (c a b:CO): @Dr X fr (⟨d,.pick c a b,none,lo⟩::l) bs s M= @DrF X fr (opD (.pick c a b) s M) (zB (.pick c a b)) d l bs s:=id rfl
@[simp] theorem Dr_load1 (a:CO): @Dr X fr (⟨d,.load1 a,none,lo⟩::l) bs s M= @DrR X fr (opD (.load1 a) s M) (zdh s (.load1 a)) (zB (.load1 a)) d lo l bs s M:=by cases bs<;>rfl
@[simp] theorem Dr_loadN (n:Nat) (a:CO): @Dr X fr (⟨d,.loadN n a,none,lo⟩::l) bs s M= @DrR X fr (opD (.loadN n a) s M) (zdh s (.loadN n a)) (zB (.loadN n a)) d lo l bs s M:=by cases bs<;>rfl
@[simp] theorem Dr_store (n:Nat) (a x:CO): @Dr X fr (⟨d,.store n a x,none,lo⟩::l) bs s M= @DrW X fr (opD (.store n a x) s M) d l bs s:=id rfl
@[simp] theorem Dr_nilc (x:CO): @Dr X fr (⟨d,.nilCheck x,none,lo⟩::l) bs s M= @DrF X fr (opD (.nilCheck x) s M) (zB (.nilCheck x)) d l bs s:=id rfl
@[simp] theorem Dr_bin (op:BinOp) (ek:EK) (x y:CO): @Dr X fr (⟨d,.bin op ek x y,none,lo⟩::l) bs s M= @DrF X fr (opD (.bin op ek x y) s M) (zB (.bin op ek x y)) d l bs s:=id rfl
@[simp] theorem Dr_un (op:UnOp) (x:CO): @Dr X fr (⟨d,.un op x,none,lo⟩::l) bs s M= @DrF X fr (opD (.un op x) s M) (zB (.un op x)) d l bs s:=id rfl
@[simp] theorem Dr_slice (n:Nat) (x:CO) (lo' hi:Option CO): @Dr X fr (⟨d,.slice n x lo' hi,none,lo⟩::l) bs s M= @DrR X fr (opD (.slice n x lo' hi) s M) (zdh s (.slice n x lo' hi)) (zB (.slice n x lo' hi)) d lo l bs s M:=by cases bs<;>rfl
@[simp] theorem Dr_fieldAddr (n:Nat) (x:CO): @Dr X fr (⟨d,.fieldAddr n x,none,lo⟩::l) bs s M= @DrF X fr (opD (.fieldAddr n x) s M) (zB (.fieldAddr n x)) d l bs s:=id rfl
@[simp] theorem Dr_indexAddr (n:Nat) (x i:CO): @Dr X fr (⟨d,.indexAddr n x i,none,lo⟩::l) bs s M= @DrF X fr (opD (.indexAddr n x i) s M) (zB (.indexAddr n x i)) d l bs s:=id rfl
@[simp] theorem Dr_indexArr (n m:Nat) (x i:CO): @Dr X fr (⟨d,.indexArr n m x i,none,lo⟩::l) bs s M= @DrF X fr (opD (.indexArr n m x i) s M) (zB (.indexArr n m x i)) d l bs s:=id rfl
@[simp] theorem Dr_extract (x:CO) (i:Nat): @Dr X fr (⟨d,.extract x i,none,lo⟩::l) bs s M= @DrF X fr (opD (.extract x i) s M) (zB (.extract x i)) d l bs s:=id rfl
@[simp] theorem Dr_alloc (z:List Value): @Dr X fr (⟨d,.alloc z,none,lo⟩::l) bs s M= @DrA X fr (opD (.alloc z) s M) d l bs s:=id rfl
@[simp] theorem Dr_append (s' b:Nat) (as:List CO): @Dr X fr (⟨d,.blt (.append s' b) as,none,lo⟩::l) bs s M= @DrW X fr (opD (.blt (.append s' b) as) s M) d l bs s:=id rfl
@[simp] theorem Dr_copy (s':Nat) (as:List CO): @Dr X fr (⟨d,.blt (.copy s') as,none,lo⟩::l) bs s M= @DrW X fr (opD (.blt (.copy s') as) s M) d l bs s:=id rfl
@[simp] theorem Dr_len (as:List CO): @Dr X fr (⟨d,.blt .len as,none,lo⟩::l) bs s M= @DrF X fr (opD (.blt .len as) s M) (zB (.blt .len as)) d l bs s:=id rfl
@[simp] theorem Dr_min (as:List CO): @Dr X fr (⟨d,.blt .min as,none,lo⟩::l) bs s M= @DrF X fr (opD (.blt .min as) s M) (zB (.blt .min as)) d l bs s:=id rfl
@[simp] theorem Dr_max (as:List CO): @Dr X fr (⟨d,.blt .max as,none,lo⟩::l) bs s M= @DrF X fr (opD (.blt .max as) s M) (zB (.blt .max as)) d l bs s:=id rfl
end
end
end Go.Ideal
namespace Go.Ideal
noncomputable section
attribute [simp] List.getElem?_cons_zero List.getElem?_cons_succ List.getElem?_eq_getElem
def rdV (M:VM):Option DV→RD
 |some d=>some (d,M)
 |none=>none
@[simp] theorem rdV_some (M:VM) (d:DV):rdV M (some d)=some (d,M):=id rfl
theorem zb8 (M:VM) (o:Option DV):o.map (fun d=>(d,M))=rdV M o:=by cases o<;>rfl
def rowO (M:VM):Option DV→Option (List DV)
 |some d=>zc1 M d
 |none=>none
def rowI (off:Nat):Option (List DV)→Option (List DV)
 |some r=>some (r.drop off)
 |none=>none
def rowJ (i off:Nat):Option MO→Option (List DV)
 |some (.rows _ _ rs)=>rowI off (rs[i]?)
 |_=>none
@[simp] theorem rowO_some (M:VM) (d:DV):rowO M (some d)=zc1 M d:=id rfl
@[simp] theorem rowI_some (off:Nat) (r:List DV):rowI off (some r)=some (r.drop off):=id rfl
@[simp] theorem rowJ_some (i off:Nat) (op:Bool) (sz:Nat) (rs:List (List DV)):rowJ i off (some (.rows op sz rs))=rowI off (rs[i]?):=id rfl
@[simp] theorem rowOf_ptr (M:VM) (j i off:Nat):zc1 M (.ptr j i off)=rowJ i off (M.obj j):=by
  show(M.obj j).bind _=_
  cases M.obj j with
  |none=>rfl
  |some o=>cases o<;>first|rfl| (show(Option.map _ _)=rowI off _;rename_i rs;cases rs[i]?<;>rfl)
@[simp] theorem rowOf_pl (M:VM) (s:Nat) (rows:List (List DV)) (i off:Nat):zc1 M (.pl s rows i off)=rowI off (rows[i]?):=by
  show(Option.map _ _)=rowI off _;cases rows[i]?<;>rfl
def ld1:Option (List DV)→Option DV
 |some r=>oneD r
 |none=>none
def ldN (n:Nat):Option (List DV)→Option DV
 |some r=>(zeU n r).map .agg
 |none=>none
@[simp] theorem ld1_some (r:List DV):ld1 (some r)=oneD r:=id rfl
@[simp] theorem ldN_some (n:Nat) (r:List DV):ldN n (some r)=(zeU n r).map .agg:=id rfl
@[simp] theorem oneD_cons (v:DV) (r:List DV):oneD (v::r)=some v:=id rfl
@[simp] theorem takeD_zero (l:List DV):zeU 0 l=some []:=by cases l<;>rfl
@[simp] theorem takeD_succ (n:Nat) (v:DV) (r:List DV):zeU (n+1) (v::r)=(zeU n r).map (v:: ·):=id rfl
def f1 (f:DV→Option DV):Option DV→Option DV
 |some d=>f d
 |none=>none
@[simp] theorem f1_some (f:DV→Option DV) (d:DV):f1 f (some d)=f d:=id rfl
def f2 (f:DV→DV→Option DV):Option DV→Option DV→Option DV
 |some a,some b=>f a b
 |_,_=>none
@[simp] theorem f2_some (f:DV→DV→Option DV) (a b:DV):f2 f (some a) (some b)=f a b:=id rfl
def pkO:Option DV→Option DV→Option DV→Option DV
 |some c,a,b=>pickD a b c
 |none,_,_=>none
@[simp] theorem pkO_true (a b:Option DV):pkO (some (.bool true)) a b=a:=id rfl
@[simp] theorem pkO_false (a b:Option DV):pkO (some (.bool false)) a b=b:=id rfl
def stW (M:VM) (j i:Nat) (op:Bool) (sz:Nat) (rs:List (List DV)):Option (List DV)→Option VM
 |some r=>some (M.put j (.rows op sz (rs.set i r)))
 |none=>none
def stI (n:Nat) (M:VM) (xs:List DV) (j i off:Nat) (op:Bool) (sz:Nat) (rs:List (List DV)):Option (List DV)→Option VM
 |some r=>if xs.length=n∧0<n∧xs.all zJ=true then stW M j i op sz rs (zba r off xs) else none
 |none=>none
def stJ (n:Nat) (M:VM) (xs:List DV) (j i off:Nat):Option MO→Option VM
 |some (.rows op sz rs)=>stI n M xs j i off op sz rs (rs[i]?)
 |_=>none
@[simp] theorem stW_some (M:VM) (j i:Nat) (op:Bool) (sz:Nat) (rs:List (List DV)) (r:List DV):stW M j i op sz rs (some r)=some (M.put j (.rows op sz (rs.set i r))):=id rfl
@[simp] theorem stI_some (n:Nat) (M:VM) (xs:List DV) (j i off:Nat) (op:Bool) (sz:Nat) (rs:List (List DV)) (r:List DV):stI n M xs j i off op sz rs (some r)=if xs.length=n∧0<n∧xs.all zJ=true then stW M j i op sz rs (zba r off xs) else none:=id rfl
@[simp] theorem stJ_some (n:Nat) (M:VM) (xs:List DV) (j i off:Nat) (op:Bool) (sz:Nat) (rs:List (List DV)):stJ n M xs j i off (some (.rows op sz rs))=stI n M xs j i off op sz rs (rs[i]?):=id rfl
@[simp] theorem storeD_ptr (n:Nat) (M:VM) (x:DV) (j i off:Nat):ze2 n M x (.ptr j i off)=stJ n M (zU x) j i off (M.obj j):=by
  show(M.obj j).bind _=_
  cases M.obj j with
  |none=>rfl
  |some o=>cases o with
   |rows op sz rs=>
    show(rs[i]?).bind _=stI n M (zU x) j i off op sz rs (rs[i]?)
    cases rs[i]? with
    |none=>rfl
    |some r=>
     show(if _ then _ else _)=(if _ then _ else _)
     congr 1
     cases zba r off (zU x)<;>rfl
   |_=>rfl
def stR:Option VM→RD
 |some M=>some (.tup [],M)
 |none=>none
@[simp] theorem stR_some (M:VM):stR (some M)=some (.tup [],M):=id rfl
def stO (n:Nat) (M:VM):Option DV→Option DV→RD
 |some a,some x=>stR (ze2 n M x a)
 |_,_=>none
@[simp] theorem stO_some (n:Nat) (M:VM) (a x:DV):stO n M (some a) (some x)=stR (ze2 n M x a):=id rfl
def bxO (M:VM):Option DV→RD
 |some v=>some (.ptr M.next 0 0,M.new (.rows false (zU v).length [zU v]))
 |none=>none
@[simp] theorem bxO_some (M:VM) (v:DV):bxO M (some v)=some (.ptr M.next 0 0,M.new (.rows false (zU v).length [zU v])):=id rfl
def alO (M:VM):Option (List DV)→RD
 |some z=>some (.ptr M.next 0 0,M.new (.rows false z.length [z]))
 |none=>none
@[simp] theorem alO_some (M:VM) (z:List DV):alO M (some z)=some (.ptr M.next 0 0,M.new (.rows false z.length [z])):=id rfl
def bdO:Option (List DV)→Option (List (Nat×Nat×DV))→Option DV
 |some z,some l=>(zhB z l).map .agg
 |_,_=>none
@[simp] theorem bdO_some (z:List DV) (l:List (Nat×Nat×DV)):bdO (some z) (some l)=(zhB z l).map .agg:=id rfl
def msR (M:VM) (len size:Nat):Option (List (List DV))→RD
 |some rows=>some (.ms M.next 0 len len,M.new (.rows false size rows))
 |none=>none
@[simp] theorem msR_some (M:VM) (len size:Nat) (rows:List (List DV)):msR M len size (some rows)=some (.ms M.next 0 len len,M.new (.rows false size rows)):=id rfl
def bsO (M:VM) (len size:Nat):Option (List DV)→Option (List (Nat×DV))→RD
 |some z,some l=>if z.length=size∧len<zp then msR M len size (zcE size (List.replicate len z) l) else none
 |_,_=>none
@[simp] theorem bsO_some (M:VM) (len size:Nat) (z:List DV) (l:List (Nat×DV)):bsO M len size (some z) (some l)=if z.length=size∧len<zp then msR M len size (zcE size (List.replicate len z) l) else none:=id rfl
def mkO (b:Nat) (M:VM):Option DV→Option DV→Option (List DV)→RD
 |some l,some c,some z=>zc9 b z M l c
 |_,_,_=>none
@[simp] theorem mkO_some (b:Nat) (M:VM) (l c:DV) (z:List DV):mkO b M (some l) (some c) (some z)=zc9 b z M l c:=id rfl
def fnO (g:Fn) (M:VM):Option (List DV)→Option (List DV)→RD
 |some a,some b=>match g with|.func g=>some (.fn g a b,M)|_=>none
 |_,_=>none
@[simp] theorem fnO_some (g:Nat) (M:VM) (a b:List DV):fnO (.func g) M (some a) (some b)=some (.fn g a b,M):=id rfl
def slO (n:Nat) (M:VM):Option DV→Option (Option DV)→Option (Option DV)→Option DV
 |some v,some lo,some hi=>sliceD n M lo hi v
 |_,_,_=>none
@[simp] theorem slO_some (n:Nat) (M:VM) (v:DV) (lo hi:Option DV):slO n M (some v) (some lo) (some hi)=sliceD n M lo hi v:=id rfl
def s3O (n:Nat) (M:VM):Option DV→Option (Option DV)→Option DV→Option DV→Option DV
 |some v,some lo,some hi,some mx=>ze3 n M lo hi mx v
 |_,_,_,_=>none
@[simp] theorem s3O_some (n:Nat) (M:VM) (v:DV) (lo:Option DV) (hi mx:DV):s3O n M (some v) (some lo) (some hi) (some mx)=ze3 n M lo hi mx v:=id rfl
def lkE (kk:KK) (z:DV) (ok:Bool) (k:DV):Option (List (DV×DV))→Option DV
 |some es=>match zbJ kk k k with|some _=>(zgN kk k es).map (zf5 z ok)|none=>none
 |none=>none
def lkO (kk:KK) (ok:Bool) (M:VM):Option DV→Option DV→Option DV→Option DV
 |some m,some k,some z=>lkE kk z ok k (zbC M m)
 |_,_,_=>none
@[simp] theorem lkO_some (kk:KK) (ok:Bool) (M:VM) (m k z:DV):lkO kk ok M (some m) (some k) (some z)=lkE kk z ok k (zbC M m):=id rfl
def muO (kk:KK) (M:VM):Option DV→Option DV→Option DV→RD
 |some m,some k,some x=>stR (updD kk M k x m)
 |_,_,_=>none
@[simp] theorem muO_some (kk:KK) (M:VM) (m k x:DV):muO kk M (some m) (some k) (some x)=stR (updD kk M k x m):=id rfl
def exV (i:Nat):DV→Option DV
 |.tup l=>l[i]?
 |_=>none
@[simp] theorem exV_tup (i:Nat) (l:List DV):exV i (.tup l)=l[i]?:=id rfl
def blO (b:CB) (M:VM):Option (List DV)→RD
 |some l=>bltD M b l
 |none=>none
@[simp] theorem blO_some (b:CB) (M:VM) (l:List DV):blO b M (some l)=bltD M b l:=id rfl
section
variable {s:DS} {M:VM}
@[simp] theorem opD_mv (x:CO):opD (.mv x) s M=rdV M (evD s x):=zb8 _ _
@[simp] theorem opD_pick (c a b:CO):opD (.pick c a b) s M=rdV M (pkO (evD s c) (evD s a) (evD s b)):=by
  show(evD s c).bind _=_;cases evD s c<;>first|rfl|exact zb8 _ _
@[simp] theorem opD_build (z:List Value) (ps:List (Nat×Nat×CO)):opD (.build z ps) s M=rdV M (bdO (dOfL z) (zgv s ps)):=by
  show(dOfL z).bind _=_
  cases dOfL z with
  |none=>rfl
  |some z=>show(zgv s ps).bind _=_;cases zgv s ps with
   |none=>rfl
   |some l=>show(zhB z l).map _=rdV M ((zhB z l).map .agg);cases zhB z l<;>rfl
@[simp] theorem opD_load1 (a:CO):opD (.load1 a) s M=rdV M (ld1 (rowO M (evD s a))):=by
  show(evD s a).bind _=_
  cases evD s a with
  |none=>rfl
  |some a=>show(zc1 M a).bind _=rdV M (ld1 (zc1 M a));cases zc1 M a with
   |none=>rfl
   |some r=>exact zb8 _ _
@[simp] theorem opD_loadN (n:Nat) (a:CO):opD (.loadN n a) s M=rdV M (ldN n (rowO M (evD s a))):=by
  show(evD s a).bind _=_
  cases evD s a with
  |none=>rfl
  |some a=>show(zc1 M a).bind _=rdV M (ldN n (zc1 M a));cases zc1 M a with
   |none=>rfl
   |some r=>show(zeU n r).map _=rdV M ((zeU n r).map .agg);cases zeU n r<;>rfl
@[simp] theorem opD_store (n:Nat) (a x:CO):opD (.store n a x) s M=stO n M (evD s a) (evD s x):=by
  show(evD s a).bind _=_
  cases evD s a with
  |none=>rfl
  |some a=>show(evD s x).bind _=_;cases evD s x with
   |none=>rfl
   |some x=>show(ze2 n M x a).map _=stR (ze2 n M x a);cases ze2 n M x a<;>rfl
@[simp] theorem opD_nil (x:CO):opD (.nilCheck x) s M=rdV M (f1 nilD (evD s x)):=by
  show(evD s x).bind _=_;cases evD s x<;>first|rfl|exact zb8 _ _
@[simp] theorem opD_bin (op:BinOp) (ek:EK) (x y:CO):opD (.bin op ek x y) s M=rdV M (f2 (binD op ek) (evD s x) (evD s y)):=by
  show(evD s x).bind _=_
  cases evD s x with
  |none=>rfl
  |some a=>show(evD s y).bind _=_;cases evD s y<;>first|rfl|exact zb8 _ _
@[simp] theorem opD_un (op:UnOp) (x:CO):opD (.un op x) s M=rdV M (f1 (unD op) (evD s x)):=by
  show(evD s x).bind _=_;cases evD s x<;>first|rfl|exact zb8 _ _
@[simp] theorem opD_conv (k:IntKind) (x:CO):opD (.conv k x) s M=rdV M (f1 (convD k) (evD s x)):=by
  show(evD s x).bind _=_;cases evD s x<;>first|rfl|exact zb8 _ _
@[simp] theorem opD_makeFunc (g:Fn) (a b:List CO):opD (.makeFunc g a b) s M=fnO g M (evDL s a) (evDL s b):=by
  cases g with
  |func g=>
   show(evDL s a).bind _=_
   cases evDL s a with
   |none=>rfl
   |some a=>show(evDL s b).map _=_;cases evDL s b<;>rfl
  |_=>unfold opD fnO;cases evDL s a<;>cases evDL s b<;>rfl
@[simp] theorem opD_slice (n:Nat) (x:CO) (lo hi:Option CO):opD (.slice n x lo hi) s M=rdV M (slO n M (evD s x) (evDO s lo) (evDO s hi)):=by
  show(evD s x).bind _=_
  cases evD s x with
  |none=>rfl
  |some v=>show(evDO s lo).bind _=_;cases evDO s lo with
   |none=>rfl
   |some lo=>show(evDO s hi).bind _=_;cases evDO s hi<;>first|rfl|exact zb8 _ _
@[simp] theorem opD_slice3 (n:Nat) (x:CO) (lo:Option CO) (hi mx:CO):opD (.slice3 n x lo hi mx) s M=rdV M (s3O n M (evD s x) (evDO s lo) (evD s hi) (evD s mx)):=by
  show(evD s x).bind _=_
  cases evD s x with
  |none=>rfl
  |some v=>show(evDO s lo).bind _=_;cases evDO s lo with
   |none=>rfl
   |some lo=>show(evD s hi).bind _=_;cases evD s hi with
    |none=>rfl
    |some hi=>show(evD s mx).bind _=_;cases evD s mx<;>first|rfl|exact zb8 _ _
@[simp] theorem opD_fieldAddr (n:Nat) (x:CO):opD (.fieldAddr n x) s M=rdV M (f1 (offD n) (evD s x)):=by
  show(evD s x).bind _=_;cases evD s x<;>first|rfl|exact zb8 _ _
@[simp] theorem opD_indexAddr (n:Nat) (x i:CO):opD (.indexAddr n x i) s M=rdV M (f2 (zkt n M) (evD s i) (evD s x)):=by
  show(evD s x).bind _=_
  cases evD s x with
  |none=>cases evD s i<;>rfl
  |some a=>show(evD s i).bind _=_;cases evD s i<;>first|rfl|exact zb8 _ _
@[simp] theorem opD_indexArr (n m:Nat) (x i:CO):opD (.indexArr n m x i) s M=rdV M (f2 (arrD n m) (evD s i) (evD s x)):=by
  show(evD s x).bind _=_
  cases evD s x with
  |none=>cases evD s i<;>rfl
  |some a=>show(evD s i).bind _=_;cases evD s i<;>first|rfl|exact zb8 _ _
@[simp] theorem opD_lookup (kk:KK) (z:Value) (ok:Bool) (x i:CO):opD (.lookup kk z ok x i) s M=rdV M (lkO kk ok M (evD s x) (evD s i) (dOf z)):=by
  show(evD s x).bind _=_
  cases evD s x with
  |none=>rfl
  |some m=>show(evD s i).bind _=_;cases evD s i with
   |none=>rfl
   |some k=>show(dOf z).bind _=_;cases dOf z with
    |none=>rfl
    |some z=>
     show(zbJ kk k k).bind _=rdV M (lkE kk z ok k (zbC M m))
     cases hk:zbJ kk k k with
     |none=>cases zbC M m<;>simp[lkE,hk,rdV]
     |some b=>
      show(zbC M m).bind _=_
      cases zbC M m with
      |none=>rfl
      |some es=>
       simp only[lkE,hk]
       show(zgN kk k es).map _=rdV M ((zgN kk k es).map _)
       cases zgN kk k es<;>rfl
@[simp] theorem opD_mapUpdate (kk:KK) (m i x:CO):opD (.mapUpdate kk m i x) s M=muO kk M (evD s m) (evD s i) (evD s x):=by
  show(evD s m).bind _=_
  cases evD s m with
  |none=>rfl
  |some m=>show(evD s i).bind _=_;cases evD s i with
   |none=>rfl
   |some k=>show(evD s x).bind _=_;cases evD s x with
    |none=>rfl
    |some x=>show(updD kk M k x m).map _=stR (updD kk M k x m);cases updD kk M k x m<;>rfl
@[simp] theorem opD_extract (x:CO) (i:Nat):opD (.extract x i) s M=rdV M (f1 (exV i) (evD s x)):=by
  show(evD s x).bind _=_
  cases evD s x with
  |none=>rfl
  |some v=>cases v<;>first|rfl|exact zb8 _ _
@[simp] theorem opD_b2s (x:CO):opD (.b2s x) s M=rdV M (f1 (b2sD M) (evD s x)):=by
  show(evD s x).bind _=_;cases evD s x<;>first|rfl|exact zb8 _ _
@[simp] theorem opD_box (x:CO):opD (.box x) s M=bxO M (evD s x):=by
  show(evD s x).map _=_;cases evD s x<;>rfl
@[simp] theorem opD_alloc (z:List Value):opD (.alloc z) s M=alO M (dOfL z):=by
  show(dOfL z).map _=_;cases dOfL z<;>rfl
@[simp] theorem opD_makeMap:opD .makeMap s M=some (.map M.next,M.new (.map [])):=id rfl
@[simp] theorem opD_makeSlice (n b:Nat) (z:List Value) (l c:CO):opD (.makeSlice n b z l c) s M=mkO b M (evD s l) (evD s c) (dOfL z):=by
  show(evD s l).bind _=_
  cases evD s l with
  |none=>rfl
  |some l=>show(evD s c).bind _=_;cases evD s c with
   |none=>rfl
   |some c=>show(dOfL z).bind _=_;cases dOfL z<;>rfl
@[simp] theorem opD_buildSlice (len size:Nat) (z:List Value) (ps:List (Nat×CO)):opD (.buildSlice len size z ps) s M=bsO M len size (dOfL z) (zeF s ps):=by
  show(dOfL z).bind _=_
  cases dOfL z with
  |none=>rfl
  |some z=>
   show(if z.length=size∧len<zp then(zeF s ps).bind _ else none)=_
   cases zeF s ps with
   |none=>split<;>rfl
   |some l=>
    show _=(if z.length=size∧len<zp then msR M len size (zcE size (List.replicate len z) l) else none)
    split
    ·show(zcE _ _ _).map _=_;cases zcE size (List.replicate len z) l<;>rfl
    ·rfl
@[simp] theorem opD_blt (b:CB) (as:List CO):opD (.blt b as) s M=blO b M (evDL s as):=by
  show(evDL s as).bind _=_;cases evDL s as<;>rfl
@[simp] theorem getS_bits (m n:Nat) (d:DV) (s:DS):getS ((bits m,d)::s) (bits n)=if m=n then some d else getS s (bits n):=by
  rw[zef]
  by_cases h:m=n
  ·rw[if_pos h,if_pos (by rw[h])]
  ·rw[if_neg h,if_neg (fun e=>h (zgX e))]
@[simp] theorem evD_t (n:Nat):evD s (.t (bits n))=getS s (bits n):=id rfl
@[simp] theorem evD_int (k:IntKind) (n:Int):evD s (.c (.int k n))=some (.int k n):=id rfl
@[simp] theorem evD_bool (b:Bool):evD s (.c (.bool b))=some (.bool b):=id rfl
@[simp] theorem evD_fc (f:Nat):evD s (.c (.func (.func f) ⟨[]⟩ ⟨[]⟩))=some (.fn f [] []):=id rfl
@[simp] theorem evD_nilS:evD s (.c (.slice none 0 0))=some .nilS:=id rfl
@[simp] theorem evD_nilF:evD s (.c .nilFunc)=some .nilF:=id rfl
@[simp] theorem dOf_int (k:IntKind) (n:Int):dOf (.int k n)=some (.int k n):=id rfl
@[simp] theorem dOfL_nil:dOfL []=some []:=id rfl
@[simp] theorem dOfL_cons (v:Value) (r:List Value):dOfL (v::r)=(dOf1 v).bind fun d=>(dOfL r).map (d:: ·):=id rfl
@[simp] theorem dOf1_int (k:IntKind) (n:Int):dOf1 (.int k n)=some (.int k n):=id rfl
@[simp] theorem dOf1_bool (b:Bool):dOf1 (.bool b)=some (.bool b):=id rfl
@[simp] theorem dOf1_nilS:dOf1 (.slice none 0 0)=some .nilS:=id rfl
def consO:Option DV→Option (List DV)→Option (List DV)
 |some d,some l=>some (d::l)
 |_,_=>none
@[simp] theorem consO_some (d:DV) (l:List DV):consO (some d) (some l)=some (d::l):=id rfl
@[simp] theorem evDL_nil:evDL s []=some []:=id rfl
@[simp] theorem evDL_cons (x:CO) (r:List CO):evDL s (x::r)=consO (evD s x) (evDL s r):=by
  show(evD s x).bind _=_;cases evD s x<;>cases evDL s r<;>rfl
@[simp] theorem evDO_none:evDO s none=some none:=id rfl
@[simp] theorem evDO_some (x:CO):evDO s (some x)=(evD s x).map some:=id rfl
@[simp] theorem partsD_nil:zgv s []=some []:=id rfl
@[simp] theorem partsD_cons (o n:Nat) (x:CO) (r:List (Nat×Nat×CO)):zgv s ((o,n,x)::r)=(evD s x).bind fun v=>(zgv s r).map ((o,n,v):: ·):=id rfl
@[simp] theorem partsSD_nil:zeF s []=some []:=id rfl
@[simp] theorem partsSD_cons (i:Nat) (x:CO) (r:List (Nat×CO)):zeF s ((i,x)::r)=(evD s x).bind fun v=>(zeF s r).map ((i,v):: ·):=id rfl
@[simp] theorem fillD_nil (z:List DV):zhB z []=some z:=id rfl
def fillR (r:List (Nat×Nat×DV)):Option (List DV)→Option (List DV)
 |some c=>zhB c r
 |none=>none
@[simp] theorem fillR_some (r:List (Nat×Nat×DV)) (c:List DV):fillR r (some c)=zhB c r:=id rfl
@[simp] theorem fillD_cons (z:List DV) (o n:Nat) (v:DV) (r:List (Nat×Nat×DV)):zhB z ((o,n,v)::r)=if(zU v).length=n∧0<n∧(zU v).all zJ=true then fillR r (zba z o (zU v)) else none:=by
  show(if _ then(zba z o (zU v)).bind _ else none)=_
  congr 1;cases zba z o (zU v)<;>rfl
@[simp] theorem setRows_nil (n:Nat) (rows:List (List DV)):zcE n rows []=some rows:=id rfl
@[simp] theorem setRows_cons (n:Nat) (rows:List (List DV)) (i:Nat) (v:DV) (r:List (Nat×DV)):zcE n rows ((i,v)::r)=if(zU v).length=n∧0<n∧(zU v).all zJ=true∧i<rows.length then zcE n (rows.set i (zU v)) r else none:=id rfl
@[simp] theorem writeD_n (l:List DV) (o:Nat):zba l o []=some l:=zg6 l o
@[simp] theorem writeD_0 (c:DV) (l:List DV) (v:DV) (vs:List DV):zba (c::l) 0 (v::vs)=(zba l 0 vs).map (v:: ·):=id rfl
@[simp] theorem writeD_s (c:DV) (l:List DV) (n:Nat) (v:DV) (vs:List DV):zba (c::l) (n+1) (v::vs)=(zba l n (v::vs)).map (c:: ·):=id rfl
@[simp] theorem putDD_some (p:List Bool) (v:DV):zbm (some p) v s=(p,v)::s:=id rfl
@[simp] theorem putDD_none (v:DV):zbm none v s=s:=id rfl
def kpL (p:List Bool) (r:DS):Option DV→DS
 |some d=>(p,d)::r
 |none=>r
@[simp] theorem kpL_some (p:List Bool) (r:DS) (d:DV):kpL p r (some d)=(p,d)::r:=id rfl
@[simp] theorem keepD_nil:zbk [] s=s:=id rfl
@[simp] theorem keepD_cons (p:List Bool) (L:List (List Bool)):zbk (p::L) s=zkl s (p::L):=id rfl
@[simp] theorem keepL_nil:zkl s []=[]:=id rfl
@[simp] theorem keepL_cons (p:List Bool) (L:List (List Bool)):zkl s (p::L)=kpL p (zkl s L) (getS s p):=by
  show(match getS s p with|some d=>_|none=>_)=_;cases getS s p<;>rfl
def wtB (w:Bool):Option DV→Option Bool
 |some (.bool b)=>some (b==w)
 |some (.tup _)=>some false
 |_=>none
@[simp] theorem wtB_bool (w b:Bool):wtB w (some (.bool b))=some (b==w):=id rfl
@[simp] theorem wtB_tup (w:Bool) (l:List DV):wtB w (some (.tup l))=some false:=id rfl
@[simp] theorem wantD_some (q:List Bool) (w:Bool):wantD (some (q,w)) s=wtB w (getS s q):=by
  show(getS s q).bind _=_
  cases getS s q with
  |none=>rfl
  |some d=>cases d<;>rfl
@[simp] theorem argsD_nil (i:Nat):argsD [] i s=s:=id rfl
@[simp] theorem argsD_cons (v:DV) (vs:List DV) (i:Nat):argsD (v::vs) i s=argsD vs (i+1) ((bits i,v)::s):=id rfl
@[simp] theorem setSD_nil:setSD [] [] s=some s:=id rfl
@[simp] theorem setSD_cons (p:List Bool) (ps:List (List Bool)) (v:DV) (vs:List DV):setSD (p::ps) (v::vs) s=setSD ps vs ((p,v)::s):=id rfl
def enO (k:DV→VM→Prop) (M:VM):Option (List DV)→Prop
 |some vs=>k (ziA vs) M
 |none=>False
@[simp] theorem enO_some (k:DV→VM→Prop) (M:VM) (vs:List DV):enO k M (some vs)=k (ziA vs) M:=id rfl
@[simp] theorem endD_eq (rs:List CR) (k:DV→VM→Prop):endD rs k s M=enO k M (resDL s M rs):=by
  unfold endD;cases resDL s M rs<;>rfl
@[simp] theorem resDL_nil:resDL s M []=some []:=id rfl
@[simp] theorem resDL_cons (r:CR) (rs:List CR):resDL s M (r::rs)=consO (resD s M r) (resDL s M rs):=by
  show(resD s M r).bind _=_;cases resD s M r<;>cases resDL s M rs<;>rfl
@[simp] theorem resD_tmp (p:List Bool):resD s M (.tmp p)=getS s p:=id rfl
@[simp] theorem resD_cell1 (p:List Bool):resD s M (.cell none p)=ld1 (rowO M (getS s p)):=by
  show(getS s p).bind _=_
  cases getS s p with
  |none=>rfl
  |some v=>show(zc1 M v).bind _=ld1 (zc1 M v);cases zc1 M v<;>rfl
@[simp] theorem resD_cellN (n:Nat) (p:List Bool):resD s M (.cell (some n) p)=ldN n (rowO M (getS s p)):=by
  show(getS s p).bind _=_
  cases getS s p with
  |none=>rfl
  |some v=>show(zc1 M v).bind _=ldN n (zc1 M v);cases zc1 M v<;>rfl
@[simp] theorem tupleD_one (v:DV):ziA [v]=v:=id rfl
@[simp] theorem tupleD_nil:ziA []=.tup []:=id rfl
@[simp] theorem tupleD_two (v u:DV) (l:List DV):ziA (v::u::l)=.tup (v::u::l):=id rfl
end
section
variable {M:VM}
@[simp] theorem zc (o:MO):(M.new o).next=M.next+1:=id rfl
@[simp] theorem ze (j:Nat) (o:MO):(M.put j o).next=M.next+1:=id rfl
@[simp] theorem zf (j:Nat):(M.del j).next=M.next:=id rfl
@[simp low] theorem obj_new (o:MO) (i:Nat):(M.new o).obj i=if i=M.next then some o else M.obj i:=by
  unfold VM.obj VM.new;dsimp only;by_cases h:i=M.next<;>simp[h]
@[simp low] theorem zbh (o:MO) (j i:Nat):(M.put j o).obj i=if i=j then some o else M.obj i:=by
  unfold VM.obj VM.put;dsimp only;by_cases h:i=j<;>simp[h]
@[simp low] theorem obj_del (j i:Nat):(M.del j).obj i=if i=j then none else M.obj i:=by
  unfold VM.obj VM.del;dsimp only;by_cases h:i=j<;>simp[h]
@[simp] theorem zhn (o:MO):(M.new o).obj M.next=some o:=by rw[obj_new,if_pos rfl]
@[simp] theorem obj_new_ne {o:MO} {i:Nat} (h:i≠M.next):(M.new o).obj i=M.obj i:=by rw[obj_new,if_neg h]
@[simp] theorem obj_put_eq (o:MO) (j:Nat):(M.put j o).obj j=some o:=by rw[zbh,if_pos rfl]
@[simp] theorem obj_put_ne {o:MO} {j i:Nat} (h:i≠j):(M.put j o).obj i=M.obj i:=by rw[zbh,if_neg h]
@[simp] theorem get_new_lt {o:MO} {i:Nat} (h:i<M.next):(M.new o).get i=M.get i:=by rw[get_new,if_neg (by omega)]
@[simp] theorem get_new_eq {o:MO}:(M.new o).get M.next=some (o,M.next):=by rw[get_new,if_pos rfl]
@[simp] theorem get_put_ne {j:Nat} {o:MO} {i:Nat} (h:i≠j):(M.put j o).get i=M.get i:=by rw[get_put,if_neg h]
@[simp] theorem get_put_eq {j:Nat} {o:MO}:(M.put j o).get j=some (o,M.next):=by rw[get_put,if_pos rfl]
@[simp] theorem get_del_ne {j:Nat} {i:Nat} (h:i≠j):(M.del j).get i=M.get i:=by rw[zf8,if_neg h]
@[simp] theorem get_del_eq {j:Nat}:(M.del j).get j=none:=by rw[zf8,if_pos rfl]
theorem zjm {j:Nat} (o:MO) (h:j<M.next):(M.new o).obj j=M.obj j:=by rw[obj_new,if_neg (by omega)]
@[simp] theorem offD_ptr (n j i o:Nat):offD n (.ptr j i o)=some (.ptr j i (o+n)):=id rfl
@[simp] theorem offD_pl (n s i o:Nat) (r:List (List DV)):offD n (.pl s r i o)=some (.pl s r i (o+n)):=id rfl
@[simp] theorem cellsD_agg (l:List DV):zU (.agg l)=l:=id rfl
@[simp] theorem cellsD_int (k:IntKind) (n:Int):zU (.int k n)=[.int k n]:=id rfl
@[simp] theorem cellsD_bool (b:Bool):zU (.bool b)=[.bool b]:=id rfl
@[simp] theorem cellsD_lst (s:Nat) (r:List (List DV)):zU (.lst s r)=[.lst s r]:=id rfl
@[simp] theorem cellsD_ms (j lo len cap:Nat):zU (.ms j lo len cap)=[.ms j lo len cap]:=id rfl
@[simp] theorem cellsD_nilS:zU .nilS=[.nilS]:=id rfl
@[simp] theorem isCellD_int (k:IntKind) (n:Int):zJ (.int k n)=true:=id rfl
@[simp] theorem isCellD_bool (b:Bool):zJ (.bool b)=true:=id rfl
@[simp] theorem isCellD_lst (s:Nat) (r:List (List DV)):zJ (.lst s r)=true:=id rfl
@[simp] theorem isCellD_ms (j lo len cap:Nat):zJ (.ms j lo len cap)=true:=id rfl
@[simp] theorem isCellD_nilS:zJ .nilS=true:=id rfl
@[simp] theorem nilD_ptr (j i o:Nat):nilD (.ptr j i o)=some (.ptr j i o):=id rfl
@[simp] theorem lenD_lst (s:Nat) (r:List (List DV)):lenD M (.lst s r)=some r.length:=id rfl
@[simp] theorem lenD_ms (j lo len cap:Nat):lenD M (.ms j lo len cap)=some len:=id rfl
@[simp] theorem lenD_nil:lenD M .nilS=some 0:=id rfl
def lenI (M:VM):Option Nat→RD
 |some n=>some (.int .i64 (n:Int),M)
 |none=>none
@[simp] theorem lenI_some (n:Nat):lenI M (some n)=some (.int .i64 (n:Int),M):=id rfl
@[simp] theorem bltD_len (d:DV):bltD M .len [d]=lenI M (lenD M d):=by show(lenD M d).map _=_;cases lenD M d<;>rfl
@[simp] theorem bltD_min (v:DV) (r:List DV):bltD M .min (v::r)=rdV M (zcv false v r):=zb8 _ _
@[simp] theorem bltD_max (v:DV) (r:List DV):bltD M .max (v::r)=rdV M (zcv true v r):=zb8 _ _
@[simp] theorem minmaxD_max (k:IntKind) (a b:Int):zcv true (.int k a) [.int k b]=some (.int k (if a<b then b else a)):=by
  show(if k=k then some (DV.int k (match ltI a b with|true=>b|false=>a)) else none)=_
  rw[if_pos rfl,zdi];by_cases h:a<b<;>simp[h]
@[simp] theorem minmaxD_min (k:IntKind) (a b:Int):zcv false (.int k a) [.int k b]=some (.int k (if b<a then b else a)):=by
  show(if k=k then some (DV.int k (match ltI b a with|true=>b|false=>a)) else none)=_
  rw[if_pos rfl,zdi];by_cases h:b<a<;>simp[h]
def apN (n b:Nat) (M:VM) (x:DV):Option (List (List DV))→RD
 |some new=>if new.all (fun r=>r.all zJ)=true then zbd n b M new x else none
 |none=>none
@[simp] theorem zc5 (n b:Nat) (x:DV) (new:List (List DV)):apN n b M x (some new)=if new.all (fun r=>r.all zJ)=true then zbd n b M new x else none:=id rfl
theorem zb2 (n b:Nat) (s x:DV):bltD M (.append n b) [s,x]=if 0<n∧n<roE then apN n b M s (zci M n x) else none:=by
 show(if _ then(zci M n x).bind _ else none)=_
 congr 1;cases zci M n x<;>rfl
def cpN (n:Nat) (M:VM) (d:DV):Option (List (List DV))→RD
 |some src=>if src.all (fun r=>r.all zJ)=true then copyD n M src d else none
 |none=>none
@[simp] theorem cpN_some (n:Nat) (d:DV) (src:List (List DV)):cpN n M d (some src)=if src.all (fun r=>r.all zJ)=true then copyD n M src d else none:=id rfl
@[simp] theorem bltD_copy (n:Nat) (d x:DV):bltD M (.copy n) [d,x]=cpN n M d (zdP M n x):=by
  show(zdP M n x).bind _=_
  cases zdP M n x<;>rfl
def cpM (n:Nat) (M:VM) (src:List (List DV)) (j lo len:Nat):Option MO→RD
 |some (.rows op sz rs)=>if sz=n∧lo+len≤rs.length∧0<len∧0<src.length then some (.int .i64 ((min len src.length:Nat):Int),M.put j (.rows op sz (zP rs (src.take (min len src.length)) lo))) else none
 |_=>none
@[simp] theorem cpM_some (n:Nat) (src:List (List DV)) (j lo len:Nat) (op:Bool) (sz:Nat) (rs:List (List DV)):cpM n M src j lo len (some (.rows op sz rs))=if sz=n∧lo+len≤rs.length∧0<len∧0<src.length then some (.int .i64 ((min len src.length:Nat):Int),M.put j (.rows op sz (zP rs (src.take (min len src.length)) lo))) else none:=id rfl
@[simp] theorem copyD_ms (n:Nat) (src:List (List DV)) (j lo len cap:Nat):copyD n M src (.ms j lo len cap)=cpM n M src j lo len (M.obj j):=by
  show(M.obj j).bind _=_
  cases M.obj j with
  |none=>rfl
  |some o=>cases o<;>rfl
def clZ (M:VM) (d:DV):Option (List DV)→RD
 |some z=>zjS z M d
 |none=>none
@[simp] theorem clZ_some (d:DV) (z:List DV):clZ M d (some z)=zjS z M d:=id rfl
@[simp] theorem bltD_clear (z:List Value) (d:DV):bltD M (.clear z) [d]=clZ M d (dOfL z):=by
  show(dOfL z).bind _=_
  cases dOfL z<;>rfl
def clJ (z:List DV) (M:VM) (j lo len:Nat):Option MO→RD
 |some (.rows op sz rs)=>if sz=z.length∧lo+len≤rs.length∧z.all zJ=true then some (.tup [],M.put j (.rows op sz (zP rs (List.replicate len z) lo))) else none
 |_=>none
@[simp] theorem clJ_some (z:List DV) (j lo len:Nat) (op:Bool) (sz:Nat) (rs:List (List DV)):clJ z M j lo len (some (.rows op sz rs))=if sz=z.length∧lo+len≤rs.length∧z.all zJ=true then some (.tup [],M.put j (.rows op sz (zP rs (List.replicate len z) lo))) else none:=id rfl
@[simp] theorem clearD_ms (z:List DV) (j lo len cap:Nat):zjS z M (.ms j lo len cap)=if len=0 then some (.tup [],M) else clJ z M j lo len (M.obj j):=by
  show(if len=0 then some (DV.tup [],M) else(M.obj j).bind _)=_
  congr 1
  cases M.obj j with
  |none=>rfl
  |some o=>cases o<;>rfl
@[simp] theorem zg0 (n s:Nat) (r:List (List DV)):zci M n (.lst s r)=if s=n then some r else none:=id rfl
def elO (n lo len:Nat):Option MO→Option (List (List DV))
 |some (.rows _ sz rs)=>if sz=n∧lo+len≤rs.length then some ((rs.drop lo).take len) else none
 |_=>none
@[simp] theorem elO_some (n lo len:Nat) (op:Bool) (sz:Nat) (rs:List (List DV)):elO n lo len (some (.rows op sz rs))=if sz=n∧lo+len≤rs.length then some ((rs.drop lo).take len) else none:=id rfl
@[simp] theorem elemsD_ms (n j lo len cap:Nat):zdP M n (.ms j lo len cap)=elO n lo len (M.obj j):=by
  show(M.obj j).bind _=_
  cases M.obj j with
  |none=>rfl
  |some o=>cases o<;>rfl
@[simp] theorem zco (n j lo len cap:Nat):zci M n (.ms j lo len cap)=elO n lo len (M.obj j):=elemsD_ms n j lo len cap
@[simp] theorem appendD_nilS (n b:Nat) (new:List (List DV)):zbd n b M new .nilS=if new=[] then some (.nilS,M) else if new.length*b≤1073741824 then some (.ms M.next 0 new.length zp,M.new (.rows true n new)) else none:=by
  unfold zbd;rfl
def apM (n:Nat) (M:VM) (new:List (List DV)) (j lo len cap:Nat):Option MO→RD
 |some o=>zcA n M new j lo len cap o
 |none=>none
@[simp] theorem zcN (n:Nat) (new:List (List DV)) (j lo len cap:Nat) (o:MO):apM n M new j lo len cap (some o)=zcA n M new j lo len cap o:=id rfl
@[simp] theorem zbI (n b:Nat) (new:List (List DV)) (j lo len cap:Nat):zbd n b M new (.ms j lo len cap)=if new=[] then some (.ms j lo len cap,M) else if(len+new.length)*b≤1073741824 then apM n M new j lo len cap (M.obj j) else none:=by
  unfold zbd
  by_cases h:new=[]
  ·rw[if_pos h,if_pos h]
  ·rw[if_neg h,if_neg h]
   show(if _ then(M.obj j).bind _ else none)=_
   congr 1;cases M.obj j<;>rfl
@[simp] theorem zbN (n:Nat) (new:List (List DV)) (j lo len:Nat) (sz:Nat) (rs:List (List DV)):zcA n M new j lo len zp (.rows true sz rs)=if sz=n∧lo+len≤rs.length then
   (if lo+len+new.length≤rs.length then some (.ms j lo (len+new.length) zp,M.put j (.rows true sz (zP rs new (lo+len))))
    else some (.ms M.next 0 ((rs.drop lo).take len++new).length zp,(M.del j).new (.rows true n ((rs.drop lo).take len++new)))) else none:=by
  show(if sz=n∧lo+len≤rs.length then(if zp=zp then _ else none) else none)=_
  rw[if_pos rfl];rfl
theorem addrD_lst (s:Nat) (k:IntKind) (z:Int) (rows:List (List DV)):zkt s M (.int k z) (.lst s rows)=if 0≤z∧z.toNat<rows.length then some (.pl s rows z.toNat 0) else none:=by
 cases z with
 |ofNat i=>show(if s=s∧i<rows.length then _ else _)=_;simp
 |negSucc i=>show none=_;rw[if_neg (by omega)]
@[simp] theorem addrD_lstN (s:Nat) (k:IntKind) (i:Nat) (rows:List (List DV)):zkt s M (.int k (i:Int)) (.lst s rows)=if i<rows.length then some (.pl s rows i 0) else none:=by
  rw[addrD_lst];simp
@[simp] theorem addrD_lst0 (s:Nat) (k:IntKind) (rows:List (List DV)):zkt s M (.int k 0) (.lst s rows)=if 0<rows.length then some (.pl s rows 0 0) else none:=addrD_lstN s k 0 rows
def adO (n:Nat) (z:Int) (j lo len:Nat):Option MO→Option DV
 |some (.rows _ sz _)=>if sz=n∧0≤z∧z.toNat<len then some (.ptr j (lo+z.toNat) 0) else none
 |_=>none
@[simp] theorem adO_some (n:Nat) (z:Int) (j lo len:Nat) (op:Bool) (sz:Nat) (rs:List (List DV)):adO n z j lo len (some (.rows op sz rs))=if sz=n∧0≤z∧z.toNat<len then some (.ptr j (lo+z.toNat) 0) else none:=id rfl
@[simp] theorem addrD_ms (n:Nat) (k:IntKind) (z:Int) (j lo len cap:Nat):zkt n M (.int k z) (.ms j lo len cap)=adO n z j lo len (M.obj j):=by
  show(M.obj j).bind _=_
  cases M.obj j with
  |none=>rfl
  |some o=>cases o with
   |rows op sz rs=>
    cases z with
    |ofNat i=>show(if sz=n∧i<len then _ else _)=_;simp
    |negSucc i=>show none=_;rw[adO_some,if_neg (by omega)]
   |_=>cases z<;>rfl
theorem inD_int (y:Nat) (k:IntKind) (z:Int):inD y (.int k z)=if 0≤z∧z≤(y:Int) then some z.toNat else none:=by
 cases z with
 |ofNat i=>show(if i≤y then _ else _)=_;simp
 |negSucc i=>show none=_;rw[if_neg (by omega)]
@[simp] theorem zjX (d y:Nat):zG d y none=some d:=id rfl
@[simp] theorem zdr (d y:Nat) (k:IntKind) (z:Int):zG d y (some (.int k z))=if 0≤z∧z≤(y:Int) then some z.toNat else none:=inD_int y k z
def slL (s:Nat) (rows:List (List DV)) (lo:Option DV):Option Nat→Option DV
 |some hi=>(zG 0 hi lo).map fun lo=>.lst s ((rows.drop lo).take (hi - lo))
 |none=>none
@[simp] theorem slL_some (s:Nat) (rows:List (List DV)) (lo:Option DV) (hi:Nat):slL s rows lo (some hi)=(zG 0 hi lo).map fun lo=>.lst s ((rows.drop lo).take (hi - lo)):=id rfl
@[simp] theorem sliceD_lst (n s:Nat) (rows:List (List DV)) (lo hi:Option DV):sliceD n M lo hi (.lst s rows)=if s=n∧0<s then slL s rows lo (zG rows.length rows.length hi) else none:=by
  show(if _ then(zG _ _ hi).bind _ else none)=_
  congr 1;cases zG rows.length rows.length hi<;>rfl
def slT (j l:Nat) (lo:Option DV):Option Nat→Option DV
 |some hi=>(zG 0 hi lo).map fun lo=>.ms j (l+lo) (hi - lo) zp
 |none=>none
@[simp] theorem slT_some (j l hi:Nat) (lo:Option DV):slT j l lo (some hi)=(zG 0 hi lo).map fun lo=>.ms j (l+lo) (hi - lo) zp:=id rfl
def slF (j l cap:Nat) (lo:Option DV):Option Nat→Option DV
 |some hi=>(zG 0 hi lo).map fun lo=>.ms j (if cap=lo then l else l+lo) (hi - lo) (cap - lo)
 |none=>none
@[simp] theorem slF_some (j l cap hi:Nat) (lo:Option DV):slF j l cap lo (some hi)=(zG 0 hi lo).map fun lo=>.ms j (if cap=lo then l else l+lo) (hi - lo) (cap - lo):=id rfl
def slM (n:Nat) (lo hi:Option DV) (j l len cap:Nat):Option MO→Option DV
 |some (.rows true sz rs)=>if sz=n∧cap=zp∧l≤rs.length then slT j l lo (zG len (rs.length - l) hi) else none
 |some (.rows false sz _)=>if sz=n∧cap<zp then slF j l cap lo (zG len cap hi) else none
 |_=>none
@[simp] theorem slM_true (n:Nat) (lo hi:Option DV) (j l len cap sz:Nat) (rs:List (List DV)):slM n lo hi j l len cap (some (.rows true sz rs))=if sz=n∧cap=zp∧l≤rs.length then slT j l lo (zG len (rs.length - l) hi) else none:=id rfl
@[simp] theorem slM_false (n:Nat) (lo hi:Option DV) (j l len cap sz:Nat) (rs:List (List DV)):slM n lo hi j l len cap (some (.rows false sz rs))=if sz=n∧cap<zp then slF j l cap lo (zG len cap hi) else none:=id rfl
@[simp] theorem sliceD_ms (n:Nat) (lo hi:Option DV) (j l len cap:Nat):sliceD n M lo hi (.ms j l len cap)=slM n lo hi j l len cap (M.obj j):=by
  show(M.obj j).bind _=_
  cases M.obj j with
  |none=>rfl
  |some o=>
   cases o with
   |rows op sz rs=>
    cases op with
    |true=>
     show(if sz=n∧cap=zp∧l≤rs.length then(zG len (rs.length - l) hi).bind _ else none)=_
     rw[slM_true];congr 1;cases zG len (rs.length - l) hi<;>rfl
    |false=>
     show(if sz=n∧cap<zp then(zG len cap hi).bind _ else none)=_
     rw[slM_false];congr 1;cases zG len cap hi<;>rfl
   |_=>rfl
def enT:Option MO→Option (List (DV×DV))
 |some (.map es)=>some es
 |_=>none
@[simp] theorem enT_some (es:List (DV×DV)):enT (some (.map es))=some es:=id rfl
@[simp] theorem entriesD_map (j:Nat):zbC M (.map j)=enT (M.obj j):=by
  show(M.obj j).bind _=_
  cases M.obj j with
  |none=>rfl
  |some o=>cases o<;>rfl
@[simp] theorem lookupD_some (z v:DV):zf5 z true (some v)=.tup [v,.bool true]:=id rfl
@[simp] theorem lookupD_none (z:DV):zf5 z true none=.tup [z,.bool false]:=id rfl
theorem makeSliceD_eq (b:Nat) (z:List DV) (l c:Int):zc9 b z M (.int .i64 l) (.int .i64 c)=if 0≤l∧0≤c∧l≤c∧c.toNat*b≤1073741824∧c≤1073741824 then some (.ms M.next 0 l.toNat c.toNat,M.new (.rows false z.length (List.replicate c.toNat z))) else none:=by
 cases l with
 |ofNat l=>cases c with
  |ofNat c=>
   show(if l≤c∧c*b≤1073741824∧c≤1073741824 then _ else _)=_
   by_cases h:l≤c∧c*b≤1073741824∧c≤1073741824
   ·rw[if_pos h,if_pos (by obtain⟨a,e,f⟩:=h;exact⟨by simp,by simp,by simpa using a,by simpa using e,by simp;omega⟩)];rfl
   ·rw[if_neg h,if_neg (by rintro⟨_,_,a,e,f⟩;exact h ⟨by simpa using a,by simpa using e,by simp at f;omega⟩)]
  |negSucc c=>show none=_;rw[if_neg (by omega)]
 |negSucc l=>cases c<;>(show none=_;rw[if_neg (by omega)])
@[simp] theorem makeSliceD_N (b:Nat) (z:List DV) (n:Nat):zc9 b z M (.int .i64 (n:Int)) (.int .i64 (n:Int))=if n*b≤1073741824∧n≤1073741824 then some (.ms M.next 0 n n,M.new (.rows false z.length (List.replicate n z))) else none:=by
  rw[makeSliceD_eq]
  by_cases h:n*b≤1073741824∧n≤1073741824
  ·rw[if_pos h,if_pos (by simp;omega)];rfl
  ·rw[if_neg h,if_neg (by simp;omega)]
@[simp] theorem assertD_eq (t u:Nat) (z v:DV):zj8 t z true (.ifc u v)=if u=t then some (.tup [v,.bool true]) else some (.tup [z,.bool false]):=by
  show(match Nat.beq u t,true with|true,true=>_|true,false=>_|false,true=>_|false,false=>_)=_
  by_cases h:u=t
  ·subst h;rw[if_pos rfl,Nat.beq_refl]
  ·rw[if_neg h];cases e:Nat.beq u t with
   |true=>exact absurd (Nat.eq_of_beq_eq_true e) h
   |false=>rfl
@[simp] theorem assertD_eq' (t u:Nat) (z v:DV):zj8 t z false (.ifc u v)=if u=t then some v else none:=by
  show(match Nat.beq u t,false with|true,true=>_|true,false=>_|false,true=>_|false,false=>_)=_
  by_cases h:u=t
  ·subst h;rw[if_pos rfl,Nat.beq_refl]
  ·rw[if_neg h];cases e:Nat.beq u t with
   |true=>exact absurd (Nat.eq_of_beq_eq_true e) h
   |false=>rfl
end
abbrev I (n:Int):DV:=.int .i64 n
section
variable {ek:EK} {a b:Int}
theorem zjK (a b:Int):eqI a b=decide (a=b):=by rw[zgP];by_cases h:a=b<;>simp[h]
@[simp] theorem bin_lss:binD .lss ek (.int .i64 a) (.int .i64 b)=some (.bool (decide (a<b))):=by show some (DV.bool (ltI a b))=_;rw[zdi]
@[simp] theorem bin_gtr:binD .gtr ek (.int .i64 a) (.int .i64 b)=some (.bool (decide (b<a))):=by show some (DV.bool (ltI b a))=_;rw[zdi]
@[simp] theorem bin_geq:binD .geq ek (.int .i64 a) (.int .i64 b)=some (.bool (decide (b≤a))):=by
  show some (DV.bool (!(ltI a b)))=_;rw[zdi];congr 2;by_cases h:a<b<;>simp[h]<;>omega
@[simp] theorem bin_eql:binD .eql ek (.int .i64 a) (.int .i64 b)=some (.bool (decide (a=b))):=by show some (DV.bool (eqI a b))=_;rw[zjK]
@[simp] theorem bin_neq:binD .neq ek (.int .i64 a) (.int .i64 b)=some (.bool (!decide (a=b))):=by show some (DV.bool (!(eqI a b)))=_;rw[zjK]
@[simp] theorem bin_add:binD .add ek (.int .i64 a) (.int .i64 b)=some (.int .i64 (zgi .i64 (a+b))):=id rfl
@[simp] theorem bin_sub:binD .sub ek (.int .i64 a) (.int .i64 b)=some (.int .i64 (zgi .i64 (a - b))):=id rfl
@[simp] theorem bin_mul:binD .mul ek (.int .i64 a) (.int .i64 b)=some (.int .i64 (zgi .i64 (a*b))):=id rfl
@[simp] theorem un_not (b:Bool):unD .not (.bool b)=some (.bool !b):=id rfl
@[simp] theorem bin_beq (x y:Bool):binD .eql .bool (.bool x) (.bool y)=some (.bool (x==y)):=id rfl
theorem wrapF_in {n:Int} (h1: -9223372036854775808≤n) (h2:n≤9223372036854775807):zgi .i64 n=n:=by
 rw[zfx]
 show(if(true&&decide (n%(2^64:Int)≥(2^63:Int)))=true then n%(2^64:Int) - (2^64:Int) else n%(2^64:Int))=n
 simp only[Bool.true_and,decide_eq_true_eq]
 split<;>omega
theorem zK {n:Int} (h1: -9223372036854775808≤n) (h2:n<9223372036854775808):zgi .i64 n=n:=wrapF_in h1 (by omega)
end
section
variable {F:FuncId→Option zq} {n0:Nat}
@[simp] theorem rD_call (f:DV) (l:List DV) (M:VM) (k kp:DV→VM→Prop):(rD F n0).call f l M k kp=zA F f l M k kp:=id rfl
@[simp] theorem rD_loop (L:List (List Bool)) (b:CC) (K:KD) (s:DS) (M:VM):(rD F n0).loop L b K s M=zcq F n0 L b K s M:=id rfl
end
section
variable {F:FuncId→Option zq} {n0:Nat}
theorem zA.fn {g:Nat} {a c args:List DV} {M:VM} {k kp:DV→VM→Prop} {cf:zq} (hF:F g=some cf) (hp:cf.prim=none) (hn:(a++args++c).length≤cf.ntmps) (h: @Cd (rD F M.next) (.base (bodyKD (rD F) cf.results k kp cf.dfr)) cf.body (argsD (a++args++c) 0 []) M):zA F (.fn g a c) args M k kp:=
 zA.func hF hp ⟨hn,h⟩
@[simp] theorem bodyKD_none (X:Nat→RnD) (rs:List CR) (k kp:DV→VM→Prop):bodyKD X rs k kp none=fnKD rs k kp:=id rfl
@[simp] theorem fnKD_ret (rs:List CR) (k kp:DV→VM→Prop) (s:DS) (M:VM):(fnKD rs k kp).ret s M=endD rs k s M:=id rfl
@[simp] theorem fnKD_nrm (rs:List CR) (k kp:DV→VM→Prop) (s:DS) (M:VM):(fnKD rs k kp).nrm s M=endD rs k s M:=id rfl
def LoK (F:FuncId→Option zq) (n0:Nat) (L:List (List Bool)) (b:CC) (K:KD):KD:=⟨fun s M=>zcq F n0 L b K (zbk L s) M,K.ext,K.ret,K.pan⟩
@[simp] theorem LoK_nrm (L:List (List Bool)) (b:CC) (K:KD) (s:DS) (M:VM):(LoK F n0 L b K).nrm s M=zcq F n0 L b K (zbk L s) M:=id rfl
@[simp] theorem LoK_ext (L:List (List Bool)) (b:CC) (K:KD) (i:Nat) (s:DS) (M:VM):(LoK F n0 L b K).ext i s M=K.ext i s M:=id rfl
@[simp] theorem LoK_ret (L:List (List Bool)) (b:CC) (K:KD) (s:DS) (M:VM):(LoK F n0 L b K).ret s M=K.ret s M:=id rfl
theorem zcq.go {L:List (List Bool)} {b b':CC} {K:KD} {s:DS} {M:VM} (hb:b=b') (h: @Cd (rD F n0) (.base (LoK F n0 L b K)) b' (zbk L s) M):zcq F n0 L b K s M:=zcq.step (hb▸h)
def SM (n:Nat) (M M':VM):Prop:= ∀j,j<n→M'.get j=M.get j
@[simp] theorem zr (n:Nat) (M:VM):SM n M M:=fun _ _=>rfl
@[simp] theorem zw {n:Nat} {M M':VM} {o:MO} (h:SM n M M') (hn:n≤M'.next):SM n M (M'.new o):=fun j hj=>by rw[get_new,if_neg (by omega)];exact h j hj
@[simp] theorem zu {n:Nat} {M M':VM} {i:Nat} {o:MO} (h:SM n M M') (hn:n≤i):SM n M (M'.put i o):=fun j hj=>by rw[get_put,if_neg (by omega)];exact h j hj
@[simp] theorem zy {n:Nat} {M M':VM} {i:Nat} (h:SM n M M') (hn:n≤i):SM n M (M'.del i):=fun j hj=>by rw[zf8,if_neg (by omega)];exact h j hj
def Back (k:DV→VM→Prop) (M:VM) (d:DV) (M':VM):Prop:=M.Wf→ ∃e,Frz M' M d e∧zM M.next e∧(∀j,j<M.next→M'.get j=M.get j)∧k e M
theorem zA.back {f:DV} {args:List DV} {M:VM} {k kp:DV→VM→Prop} (h:zA F f args M (Back k M) kp):zA F f args M k kp:=
 zA.wf fun hw=>zA.conv (h.mono (fun d M' q=>let⟨e,h1,h2,h3,h4⟩:=q hw;⟨e,M,.same h3,h1,h2,h4⟩) (fun _ _ q=>q))
theorem Back.plain {k:DV→VM→Prop} {M M':VM} {d:DV} (hb:zM M.next d) (h:SM M.next M M') (hk:k d M):Back k M d M':=fun _=>⟨d,.refl d,hb,h,hk⟩
end
@[simp] theorem below_int {n:Nat} (k:IntKind) (a:Int):zM n (.int k a):=.int k a
@[simp] theorem below_bool {n:Nat} (b:Bool):zM n (.bool b):=.bool b
@[simp] theorem below_nilS {n:Nat}:zM n .nilS:=.nilS
theorem zfr {n:Nat} {p:DV} {q:Prop} (h1:zM n p→q) (h2:q→zM n p):zM n p=q:=propext ⟨h1,h2⟩
@[simp] theorem below_agg {n:Nat} (l:List DV):zM n (.agg l)= ∀d∈l,zM n d:=zfr (fun h=>by cases h;assumption) .agg
@[simp] theorem below_tup {n:Nat} (l:List DV):zM n (.tup l)= ∀d∈l,zM n d:=zfr (fun h=>by cases h;assumption) .tup
@[simp] theorem below_lst {n s:Nat} (l:List (List DV)):zM n (.lst s l)= ∀r∈l,∀d∈r,zM n d:=zfr (fun h=>by cases h;assumption) .lst
@[simp] theorem below_ms {n j lo len cap:Nat}:zM n (.ms j lo len cap)=(j<n):=zfr (fun h=>by cases h;assumption) .ms
@[simp] theorem below_fn {n g:Nat} (a c:List DV):zM n (.fn g a c)=((∀d∈a,zM n d)∧ ∀d∈c,zM n d):=zfr (fun h=>by cases h;exact⟨‹_›,‹_›⟩) (fun h=>.fn g h.1 h.2)
attribute [simp] zC zdU zB isW isRd isFl refD zcF
section
variable {M M':VM} {s:DS}
@[simp] theorem inP_nil (p:List Bool):inP [] p=false:=id rfl
@[simp] theorem inP_bits (m n:Nat) (r:List (List Bool)):inP (bits m::r) (bits n)=if m=n then true else inP r (bits n):=by
  show(match beqP (bits m) (bits n) with|true=>true|false=>inP r (bits n))=_
  by_cases h:m=n
  ·subst h;rw[if_pos rfl,zeo]
  ·rw[if_neg h];cases e:beqP (bits m) (bits n) with
   |true=>exact absurd (zgX (beqP_eq e)) h
   |false=>rfl
def fr1:Bool→Bool→Bool
 |true,_=>false
 |false,b=>b
@[simp] theorem fr1_true (b:Bool):fr1 true b=false:=id rfl
@[simp] theorem fr1_false (b:Bool):fr1 false b=b:=id rfl
@[simp] theorem freeOf_nil (b:List (List Bool)):zdm b []=true:=id rfl
@[simp] theorem freeOf_cons (b:List (List Bool)) (p:List Bool) (r:List (List Bool)):zdm b (p::r)=fr1 (inP b p) (zdm b r):=by
  show(match inP b p with|true=>false|false=>zdm b r)=_;cases inP b p<;>rfl
def nt:Bool→Option (List Bool)→Mo→Mo
 |true,_,x=>x
 |false,q,x=>zcC q x
@[simp] theorem nt_true (q:Option (List Bool)) (x:Mo):nt true q x=x:=id rfl
@[simp] theorem nt_false (q:Option (List Bool)) (x:Mo):nt false q x=zcC q x:=id rfl
@[simp] theorem noteN_eq (ns:List (List Bool)) (q:Option (List Bool)) (i:Nat) (M:VM) (b:List (List Bool)):zgx ns q ⟨i,M,b⟩=nt (zdm b ns) q ⟨i,M,b⟩:=by
  show(match zdm b ns with|true=>_|false=>_)=_;cases zdm b ns<;>rfl
@[simp] theorem addBad_some (q:List Bool) (i:Nat) (M:VM) (b:List (List Bool)):zcC (some q) ⟨i,M,b⟩=⟨i,M,q::b⟩:=id rfl
@[simp] theorem addBad_none (x:Mo):zcC none x=x:=id rfl
def rfO:Option DV→List Nat
 |some d=>refD d
 |none=>[]
@[simp] theorem rfO_some (d:DV):rfO (some d)=refD d:=id rfl
theorem refCO_rf (x:CO):zcV s x=rfO (evD s x):=by unfold zcV;cases evD s x<;>rfl
@[simp] theorem refs_load1 (a:CO):zdh s (.load1 a)=rfO (evD s a):=refCO_rf a
@[simp] theorem refs_loadN (n:Nat) (a:CO):zdh s (.loadN n a)=rfO (evD s a):=refCO_rf a
@[simp] theorem refs_slice (n:Nat) (x:CO) (lo hi:Option CO):zdh s (.slice n x lo hi)=rfO (evD s x):=refCO_rf x
theorem get_isSome (j:Nat):(M.get j).isSome=(M.obj j).isSome:=by unfold VM.obj;cases M.get j<;>rfl
@[simp] theorem alikeAt_nil:zft [] M M'=True:=id rfl
@[simp] theorem alikeAt_cons (j:Nat) (r:List Nat):zft (j::r) M M'=((M.get j=M'.get j∧(M.obj j).isSome=true)∧zft r M M'):=by rw[←get_isSome];rfl
@[simp] theorem rdAt_eq (rs:List Nat) (ns:List (List Bool)) (i:Nat) (b:List (List Bool)):rdAt rs ns M ⟨i,M',b⟩=(zdm b ns=true∧zft rs M M'):=id rfl
@[simp] theorem rdOk_nil (rs:List Nat) (ns:List (List Bool)) (lo:Nat):rdOk rs ns M lo []=True:=id rfl
@[simp] theorem rdOk_cons (rs:List Nat) (ns:List (List Bool)) (lo i:Nat) (b:List (List Bool)) (r:List Mo):rdOk rs ns M lo (⟨i,M',b⟩::r)=((if i<lo then True else rdAt rs ns M ⟨i,M',b⟩)∧rdOk rs ns M lo r):=by
  show((match Nat.blt i lo with|true=>True|false=>_)∧_)=_
  by_cases h:i<lo
  ·rw[if_pos h,show Nat.blt i lo=true from by show Nat.ble (i+1) lo=true;rw[Nat.ble_eq];exact h]
  ·rw[if_neg h];cases e:Nat.blt i lo with
   |true=>have e:Nat.ble (i+1) lo=true:=e;rw[Nat.ble_eq] at e;exact absurd e h
   |false=>rfl
@[simp] theorem rdBad_nil (lo:Nat) (q:Option (List Bool)):ziY lo q []=[]:=id rfl
@[simp] theorem rdBad_cons (lo:Nat) (q:Option (List Bool)) (i:Nat) (b:List (List Bool)) (r:List Mo):ziY lo q (⟨i,M,b⟩::r)=(if i<lo then zcC q ⟨i,M,b⟩ else⟨i,M,b⟩)::ziY lo q r:=by
  show(match Nat.blt i lo with|true=>_|false=>_)::_=_
  by_cases h:i<lo
  ·rw[if_pos h,show Nat.blt i lo=true from by show Nat.ble (i+1) lo=true;rw[Nat.ble_eq];exact h]
  ·rw[if_neg h];cases e:Nat.blt i lo with
   |true=>have e:Nat.ble (i+1) lo=true:=e;rw[Nat.ble_eq] at e;exact absurd e h
   |false=>rfl
@[simp] theorem nextMo_cons (i:Nat) (b:List (List Bool)) (r:List Mo):zlL (⟨i,M,b⟩::r)=i+1:=id rfl
@[simp] theorem selfIn_one (x:Mo) (d:DV):zkE [x] d=true:=id rfl
@[simp] theorem selfIn_two (x y:Mo) (r:List Mo) (d:DV):zkE (x::y::r) d=selfEq d:=id rfl
@[simp] theorem selfEq_agg (l:List DV):selfEq (.agg l)=l.all zcF:=id rfl
end
end
end Go.Ideal
set_option maxRecDepth 100000
namespace Go.Ideal.Q
abbrev n_e:Nat:=8
abbrev n_M:Nat:=11
abbrev n_2:Nat:=12
abbrev n_x:Nat:=13
abbrev n_B:Nat:=22
abbrev n_q:Nat:=29
abbrev n_c:Nat:=30
abbrev n_k:Nat:=31
abbrev n_Z:Nat:=32
abbrev n_b:Nat:=33
abbrev n_A:Nat:=34
abbrev n_z:Nat:=35
abbrev n_E:Nat:=36
abbrev n_r:Nat:=37
abbrev n_X:Nat:=38
abbrev n_L:Nat:=41
abbrev n_P:Nat:=49
abbrev n_n:Nat:=50
abbrev n_y:Nat:=51
abbrev n_i:Nat:=52
abbrev n_I:Nat:=53
abbrev n_f:Nat:=54
abbrev n_h:Nat:=66
abbrev n_N:Nat:=68
abbrev n_p:Nat:=70
abbrev n_l:Nat:=71
abbrev n_C:Nat:=72
abbrev n_J:Nat:=73
abbrev n_a:Nat:=74
abbrev n_d:Nat:=76
abbrev n_g:Nat:=77
abbrev n_u:Nat:=78
abbrev n_1:Nat:=79
abbrev n_o:Nat:=80
abbrev n_j:Nat:=83
abbrev n_6:Nat:=93
abbrev n_R:Nat:=94
abbrev n_G:Nat:=95
abbrev n_D:Nat:=96
abbrev n_t:Nat:=97
abbrev n_S:Nat:=98
abbrev n_H:Nat:=99
abbrev n_5:Nat:=100
abbrev n_W:Nat:=101
abbrev n_4:Nat:=102
abbrev n_m:Nat:=106
abbrev n_w:Nat:=107
abbrev n_0:Nat:=108
abbrev n_Y:Nat:=109
abbrev n_s:Nat:=121
abbrev n_O:Nat:=135
abbrev n_3:Nat:=136
abbrev n_V:Nat:=137
abbrev n_K:Nat:=138
abbrev n_F:Nat:=139
abbrev n_Q:Nat:=145
abbrev n_T:Nat:=160
abbrev n_v:Nat:=161
def r_Z:List CI:=[bx 3 (t 0),mv 6 ff]
def r_E:List CI:=[ln 19 3 3,ca 20 n_M [(t 19)],mv 21 (t 20),gu 21 false (ln 22 3 3),gu 21 false (ca 23 n_q [(t 22)]),gu 21 false (no 24 23),pk 25 (t 21) tt (t 24),mv 26 (t 25),gu 26 false (fa 27 1 3),gu 26 false (l 28 27),gu 26 false (bi .eql 29 (t 28) (i 0)),pk 30 (t 26) tt (t 29)]
def r_e_3:List CI:=[ca 31 n_2 [],mv 6 (t 31)]
def r_e_4:List CI:=[mv 32 (t 1),oo 33 (.conv .i64 (t 32)),fa 34 1 3,l 35 34,bi .rem 36 (t 33) (t 35),oo 7 (.alloc [(iI 0)]),st 1 7 (t 36)]
def r_e_5:List CI:=[oo 8 (.alloc [(iI 0)]),st 1 8 (i 0)]
def r_e_6:List CI:=[mv 37 (t 2),oo 38 (.conv .i64 (t 37)),mv 39 (i 0)]
def r_e_7:List CI:=[bi .lss 40 (t 39) (t 38)]
def r_e_8:List CI:=[mv 41 (t 39),mv 9 (t 41)]
def r_e_9:List CI:=[fa 42 2 3,l 43 42,ca 44 n_k [(t 43)],oo 45 (.makeFunc (.func n_Z) [] [(t 8)]),ca 46 n_c [(t 44),(t 45)],mv 10 (t 46)]
def r_e_10:List CI:=[mv 47 (t 10),le 48 (t 47),bi .eql 49 (t 48) (i 0)]
def r_e_11:List CI:=[mv 50 (t 10),mv 51 (t 9),bi .mul 52 (t 51) (i 7),mv 53 (t 2),oo 54 (.conv .i64 (t 53)),bi .add 55 (t 52) (t 54),mv 56 (t 10),le 57 (t 56),bi .rem 58 (t 55) (t 57),ia 59 3 50 (t 58),fa 60 2 59,l 61 60,st 1 8 (t 61)]
def r_e_12:List CI:=[bi .add 62 (t 39) (i 1),mv 39 (t 62)]
def c_e_13:CC:=(.seq (.ops r_e_7) (bs [2,3,7,8,38,39,40]) (.seq (.cond (t 40) .skip (.exit 0)) (bs [2,3,7,8,38,39]) (.seq (.block 2 (.seq (.ops r_e_8) (bs [2,3,7,8,9,38,39]) (.seq (.ops r_e_9) (bs [2,3,7,8,9,10,38,39]) (.seq (.seq (.ops r_e_10) (bs [2,3,7,8,9,10,38,39,49]) (.cond (t 49) (.exit 0) .skip)) (bs [2,3,7,8,9,10,38,39]) (.ops r_e_11))))) (bs [2,3,7,8,38,39]) (.ops r_e_12))))
def r_e_14:List CI:=[ln 64 3 3,l 65 8,l 66 7,ca 67 n_b [(t 64),(t 65),(t 66)],mv 63 (t 67),ex 68 63 0,ex 69 63 1,ex 70 63 2,mv 11 (t 68),mv 12 (t 69),mv 13 (t 70)]
def r_e_15:List CI:=[ln 72 3 3,l 73 7,ca 74 n_x [(t 72),(t 73)],mv 71 (t 74),ex 75 71 0,ex 76 71 1,mv 14 (t 75),mv 15 (t 76)]
def r_e_16:List CI:=[mv 77 (t 15),bi .neq 78 (t 77) (i 0),mv 79 (t 78),gu 79 true (mv 80 (t 15)),gu 79 true (bi .neq 81 (t 80) (i 5)),pk 82 (t 79) (t 81) ff,mv 83 (t 82),gu 83 false (mv 84 (t 15)),gu 83 false (bi .eql 85 (t 84) (i 0)),gu 83 false (mv 86 (t 85)),gu 86 true (mv 87 (t 14)),gu 86 true (le 88 (t 87)),gu 86 true (bi .eql 89 (t 88) (i 0)),gu 83 false (pk 90 (t 86) (t 89) ff),pk 91 (t 83) tt (t 90)]
def r_e_17:List CI:=[mv 6 ff]
def r_e_18:List CI:=[mv 92 (t 13),no 93 92,mv 94 (t 93),gu 94 false (mv 95 (t 12)),gu 94 false (bi .lss 96 (t 95) (i 0)),pk 97 (t 94) tt (t 96),mv 98 (t 97),gu 98 false (ln 99 3 3),gu 98 false (mv 100 (t 11)),gu 98 false (mv 101 (t 12)),gu 98 false (oo 102 (.slice 1 (t 100) (some (t 101)) none)),gu 98 false (l 103 7),gu 98 false (ca 104 n_A [(t 99),(t 102),(t 103)]),lo 1 (pk 105 (t 98) tt (t 104))]
def r_e_19:List CI:=[ca 106 n_2 [],mv 6 (t 106)]
def r_e_20:List CI:=[mv 107 (t 11),mv 108 (t 12),oo 109 (.slice 1 (t 107) (some (t 108)) none),oo 110 (.makeFunc (.func n_E) [] [(t 3),(t 7)]),ca 111 n_z [(t 109),(t 110)],mv 16 (t 111)]
def r_e_21:List CI:=[ln 113 3 3,mv 114 (t 11),mv 115 (t 12),oo 116 (.slice 1 (t 114) (some (t 115)) none),l 117 7,ca 118 n_B [(t 113),(t 116),(t 117)],lo 1 (mv 112 (t 118)),lo 1 (ex 119 112 0),lo 1 (ex 120 112 1),lo 1 (mv 17 (t 119)),lo 1 (mv 18 (t 120))]
def r_e_22:List CI:=[mv 121 (t 18),bi .eql 122 (t 121) (i 0),mv 123 (t 122),gu 123 true (mv 124 (t 17)),gu 123 true (mv 125 (t 16)),gu 123 true (oo 126 (.bin .eql .bool (t 124) (t 125))),pk 127 (t 123) (t 126) ff,mv 128 (t 127),gu 128 true (mv 129 (t 16)),gu 128 true (no 130 129),gu 128 true (mv 131 (t 130)),gu 131 false (mv 132 (t 15)),gu 131 false (bi .eql 133 (t 132) (i 0)),gu 128 true (pk 134 (t 131) tt (t 133)),pk 135 (t 128) (t 134) ff,mv 136 (t 135),gu 136 true (ca 137 n_2 []),pk 138 (t 136) (t 137) ff,mv 6 (t 138)]
def c_e:CC:=(.seq (.ops r_Z) (bs [1,2,3]) (.seq (.seq (.ops r_E) (bs [1,2,3,30]) (.cond (t 30) (.seq (.ops r_e_3) (bs [6]) .ret) .skip)) (bs [1,2,3]) (.seq (.ops r_e_4) (bs [2,3,7]) (.seq (.ops r_e_5) (bs [2,3,7,8]) (.seq (.seq (.ops r_e_6) (bs [2,3,7,8,38,39]) (.block 0 (.loop (bs [2,3,7,8,38,39]) c_e_13))) (bs [3,7,8]) (.seq (.ops r_e_14) (bs [3,7,11,12,13]) (.seq (.ops r_e_15) (bs [3,7,11,12,13,14,15]) (.seq (.seq (.ops r_e_16) (bs [3,7,11,12,13,15,91]) (.cond (t 91) (.seq (.ops r_e_17) (bs [6]) .ret) .skip)) (bs [3,7,11,12,13,15]) (.seq (.seq (.draw r_e_18) (bs [3,7,11,12,15,105]) (.cond (t 105) (.seq (.ops r_e_19) (bs [6]) .ret) .skip)) (bs [3,7,11,12,15]) (.seq (.ops r_e_20) (bs [3,7,11,12,15,16]) (.seq (.draw r_e_21) (bs [15,16,17,18]) (.seq (.ops r_e_22) (bs [6]) .ret))))))))))))
def f_e:zq:=⟨139,[.tmp (bits 6)],c_e,none,none⟩
def r_M_1:List CI:=[bx 1 (t 0),mv 2 ff]
def r_M_2:List CI:=[fa 3 2 1,l 4 3,le 5 (t 4),bi .gtr 6 (t 5) (i 500),mv 2 (t 6)]
def c_M:CC:=(.seq (.ops r_M_1) (bs [1]) (.seq (.ops r_M_2) (bs [2]) .ret))
def f_M:zq:=⟨7,[.tmp (bits 2)],c_M,none,none⟩
def r_x_1:List CI:=[bx 2 (t 0),bx 3 (t 1),oo 4 (.alloc [(.slice none 0 0)]),oo 5 (.alloc [(iI 0)])]
def r_x_2:List CI:=[ln 11 3 2,l 12 3,ca 13 n_P [(t 11),(t 12),(.c (.slice none 0 0))],no 14 13]
def r_x_3:List CI:=[st 1 4 (.c (.slice none 0 0)),st 1 5 (i 2)]
def r_x_4:List CI:=[ln 15 3 2,oo 16 (.build [(iI 0),(iI 0),(.slice none 0 0)] [(0,3,(t 15))]),oo 6 (.alloc [(iI 0),(iI 0),(.slice none 0 0)]),st 3 6 (t 16)]
def r_x_5:List CI:=[ln 18 3 6,ca 19 n_y [(t 18)],ln 17 3 6,lo 1 (ca 20 n_n [(t 17),(i 0),(t 19),(i (-1))]),oo 7 (.alloc [(.int .u64 0)]),lo 2 (st 1 7 (t 20))]
def r_x_6:List CI:=[ln 21 3 6,ln 22 1 7,l 23 3,ca 24 n_i [(t 21),(t 22),(t 23),tt],le 25 (t 24),mv 26 (i 0)]
def r_x_7:List CI:=[bi .lss 27 (t 26) (t 25)]
def r_x_8:List CI:=[ia 28 1 24 (t 26),ln 29 1 28,oo 9 (.alloc [(.int .u64 0)]),st 1 9 (t 29)]
def r_x_9:List CI:=[ln 30 1 9,ca 31 n_I [(t 30)]]
def r_x_10:List CI:=[mv 10 (t 32)]
def r_x_11:List CI:=[ln 33 3 6,mv 34 (t 10),ln 35 1 9,l 36 3,ca 37 n_f [(t 33),(t 34),(t 35),(t 36),tt],st 1 4 (t 37),st 1 5 (i 0)]
def c_x_12:CC:=(.ops r_x_10)
def zgZ:CC:=(.block 6 (.seq (.ops r_x_11) [] .ret))
def r_x_13:List CI:=[bi .add 38 (t 26) (i 1),mv 26 (t 38)]
def c_x_14:CC:=(.seq (.ops r_x_7) (bs [3,4,5,6,24,25,26,27]) (.seq (.cond (t 27) .skip (.exit 0)) (bs [3,4,5,6,24,25,26]) (.seq (.block 2 (.seq (.ops r_x_8) (bs [3,4,5,6,9,24,25,26]) (.seq (.ops r_x_9) (bs [3,4,5,6,9,24,25,26,31]) (.block 4 (.rangeFunc 0 (bs [3,4,5,6,9]) (t 31) (bs [32]) c_x_12 zgZ))))) (bs [3,4,5,6,24,25,26]) (.ops r_x_13))))
def r_x_15:List CI:=[st 1 4 (.c (.slice none 0 0)),st 1 5 (i 5)]
def c_x:CC:=(.seq (.ops r_x_1) (bs [2,3,4,5]) (.seq (.seq (.ops r_x_2) (bs [2,3,4,5,14]) (.cond (t 14) (.seq (.ops r_x_3) (bs [4,5]) .ret) .skip)) (bs [2,3,4,5]) (.seq (.ops r_x_4) (bs [3,4,5,6]) (.seq (.draw r_x_5) (bs [3,4,5,6,7]) (.seq (.seq (.ops r_x_6) (bs [3,4,5,6,24,25,26]) (.block 0 (.loop (bs [3,4,5,6,24,25,26]) c_x_14))) (bs [4,5]) (.seq (.ops r_x_15) (bs [4,5]) .ret))))))
def f_x:zq:=⟨39,[.cell none (bits 4),.cell none (bits 5)],c_x,none,none⟩
def r_B_1:List CI:=[bx 3 (t 0),mv 6 ff,mv 7 (i 0)]
def r_B_2:List CI:=[mv 15 (t 1),le 16 (t 15),bi .gtr 17 (t 16) (i 4000),mv 14 (t 17)]
def r_B_3:List CI:=[mv 6 ff,mv 7 (i 3)]
def r_B_4:List CI:=[ln 19 3 3,mv 20 (t 2),mv 21 (t 1),ca 22 n_P [(t 19),(t 20),(t 21)],no 23 22,mv 18 (t 23)]
def r_B_5:List CI:=[mv 6 ff,mv 7 (i 2)]
def r_B_6:List CI:=[mv 25 (t 1),le 26 (t 25),bi .eql 27 (t 26) (i 0),mv 24 (t 27)]
def r_B_7:List CI:=[mv 6 ff,mv 7 (i 0)]
def r_B_8:List CI:=[ln 28 3 3,oo 29 (.build [(iI 0),(iI 0),(.slice none 0 0)] [(0,3,(t 28))]),oo 8 (.alloc [(iI 0),(iI 0),(.slice none 0 0)]),st 3 8 (t 29)]
def r_B_9:List CI:=[fa 30 2 3,l 31 30,mv 32 (t 1),ia 33 1 32 (i 0),l 34 33,ia 35 3 31 (t 34),fa 36 0 35,l 37 36,mv 9 (t 37)]
def r_B_10:List CI:=[ln 39 3 8,mv 40 (t 9),mv 41 (t 1),mv 42 (t 2),ca 43 n_p [(t 39),(t 40),(t 41),(t 42)],mv 38 (t 43),ex 44 38 0,ex 45 38 1,mv 10 (t 44),mv 11 (t 45)]
def r_B_11:List CI:=[ln 47 3 8,mv 48 (t 1),mv 49 (t 2),ca 50 n_l [(t 47),(t 48),(t 49)],mv 46 (t 50),ex 51 46 0,ex 52 46 1,oo 12 (.alloc [(.int .u64 0)]),st 1 12 (t 51),mv 13 (t 52)]
def r_B_12:List CI:=[mv 53 (t 11),mv 54 (t 53),gu 54 true (mv 55 (t 10)),gu 54 true (mv 56 (t 9)),gu 54 true (bi .eql 57 (t 55) (t 56)),pk 58 (t 54) (t 57) ff,mv 59 (t 58),gu 59 true (mv 60 (t 13)),pk 61 (t 59) (t 60) ff,mv 62 (t 61),gu 62 true (ln 63 3 8),gu 62 true (ln 64 1 12),gu 62 true (mv 65 (t 2)),gu 62 true (ca 66 n_C [(t 63),(t 64),(t 65)]),pk 67 (t 62) (t 66) ff,mv 6 (t 67),mv 7 (i 0)]
def c_B:CC:=(.seq (.ops r_B_1) (bs [1,2,3]) (.seq (.block 0 (.seq (.ops r_B_2) (bs [1,2,3,14]) (.cond (t 14) (.seq (.ops r_B_3) (bs [6,7]) .ret) (.seq (.ops r_B_4) (bs [1,2,3,18]) (.cond (t 18) (.seq (.ops r_B_5) (bs [6,7]) .ret) (.seq (.ops r_B_6) (bs [1,2,3,24]) (.cond (t 24) (.seq (.ops r_B_7) (bs [6,7]) .ret) .skip))))))) (bs [1,2,3]) (.seq (.ops r_B_8) (bs [1,2,3,8]) (.seq (.draw r_B_9) (bs [1,2,8,9]) (.seq (.ops r_B_10) (bs [1,2,8,9,10,11]) (.seq (.ops r_B_11) (bs [2,8,9,10,11,12,13]) (.seq (.ops r_B_12) (bs [6,7]) .ret)))))))
def f_B:zq:=⟨68,[.tmp (bits 6),.tmp (bits 7)],c_B,none,none⟩
def r_q_1:List CI:=[bx 1 (t 0),mv 2 ff]
def r_q_2:List CI:=[fa 5 0 1,l 6 5,bi .lss 7 (t 6) (i 1),mv 8 (t 7),gu 8 false (fa 9 0 1),gu 8 false (l 10 9),gu 8 false (bi .gtr 11 (t 10) (i 60)),pk 12 (t 8) tt (t 11),mv 13 (t 12),gu 13 false (fa 14 1 1),gu 13 false (l 15 14),gu 13 false (bi .lss 16 (t 15) (i 0)),pk 17 (t 13) tt (t 16),mv 18 (t 17),gu 18 false (fa 19 1 1),gu 18 false (l 20 19),gu 18 false (bi .gtr 21 (t 20) (i 40)),pk 22 (t 18) tt (t 21),mv 23 (t 22),gu 23 false (fa 24 2 1),gu 23 false (l 25 24),gu 23 false (le 26 (t 25)),gu 23 false (bi .gtr 27 (t 26) (i 400)),pk 28 (t 23) tt (t 27)]
def r_q_3:List CI:=[mv 2 ff]
def r_q_4:List CI:=[fa 29 2 1,l 30 29,le 31 (t 30),mv 32 (i 0)]
def r_q_5:List CI:=[bi .lss 33 (t 32) (t 31)]
def r_q_6:List CI:=[mv 34 (t 32),ia 35 3 30 (t 32),ln 36 3 35,oo 4 (.alloc [(iI 0),(iI 0),(iI 0)]),mv 3 (t 34),st 3 4 (t 36)]
def r_q_7:List CI:=[fa 37 0 4,l 38 37,fa 39 2 4,l 40 39,fa 41 1 4,l 42 41,oo 43 (.blt .min [(t 38),(t 40),(t 42)]),bi .lss 44 (t 43) (i 0),mv 45 (t 44),gu 45 false (fa 46 0 4),gu 45 false (l 47 46),gu 45 false (fa 48 2 4),gu 45 false (l 49 48),gu 45 false (oo 50 (.blt .max [(t 47),(t 49)])),gu 45 false (fa 51 0 1),gu 45 false (l 52 51),gu 45 false (bi .geq 53 (t 50) (t 52)),pk 54 (t 45) tt (t 53),mv 55 (t 54),gu 55 false (fa 56 1 4),gu 55 false (l 57 56),gu 55 false (fa 58 1 1),gu 55 false (l 59 58),gu 55 false (bi .geq 60 (t 57) (t 59)),pk 61 (t 55) tt (t 60),mv 62 (t 61),gu 62 false (mv 63 (t 3)),gu 62 false (bi .gtr 64 (t 63) (i 0)),gu 62 false (mv 65 (t 64)),gu 65 true (fa 66 2 1),gu 65 true (l 67 66),gu 65 true (mv 68 (t 3)),gu 65 true (bi .sub 69 (t 68) (i 1)),gu 65 true (ia 70 3 67 (t 69)),gu 65 true (ln 71 3 70),gu 65 true (ln 72 3 4),gu 65 true (ca 73 n_L [(t 71),(t 72)]),lo 1 (gu 65 true (bi .geq 74 (t 73) (i 0))),lo 1 (gu 62 false (pk 75 (t 65) (t 74) ff)),lo 1 (pk 76 (t 62) tt (t 75))]
def r_q_8:List CI:=[mv 2 ff]
def r_q_9:List CI:=[bi .add 77 (t 32) (i 1),mv 32 (t 77)]
def c_q_10:CC:=(.seq (.ops r_q_5) (bs [1,30,31,32,33]) (.seq (.cond (t 33) .skip (.exit 0)) (bs [1,30,31,32]) (.seq (.block 2 (.seq (.ops r_q_6) (bs [1,3,4,30,31,32]) (.seq (.draw r_q_7) (bs [1,30,31,32,76]) (.cond (t 76) (.seq (.ops r_q_8) (bs [2]) .ret) .skip)))) (bs [1,30,31,32]) (.ops r_q_9))))
def r_q_11:List CI:=[mv 2 tt]
def c_q:CC:=(.seq (.ops r_q_1) (bs [1]) (.seq (.seq (.ops r_q_2) (bs [1,28]) (.cond (t 28) (.seq (.ops r_q_3) (bs [2]) .ret) .skip)) (bs [1]) (.seq (.seq (.ops r_q_4) (bs [1,30,31,32]) (.block 0 (.loop (bs [1,30,31,32]) c_q_10))) [] (.seq (.ops r_q_11) (bs [2]) .ret))))
def f_q:zq:=⟨78,[.tmp (bits 2)],c_q,none,none⟩
def r_c_1:List CI:=[mv 4 (.c (.slice none 0 0))]
def r_c_2:List CI:=[mv 8 (t 0),mv 9 (t 1),ca 10 n_d [(t 8),(t 9)],mv 5 (t 10)]
def r_c_3:List CI:=[mv 11 (t 5),bi .eql 12 (t 11) (i (-1))]
def r_c_4:List CI:=[mv 13 (t 0),mv 4 (t 13)]
def r_c_5:List CI:=[mv 14 (t 5),bi .add 15 (t 14) (i 1),mv 6 (t 15)]
def r_c_6:List CI:=[mv 16 (t 6),mv 17 (t 0),le 18 (t 17),bi .lss 19 (t 16) (t 18)]
def r_c_7:List CI:=[mv 22 (t 0),mv 23 (t 6),ia 24 3 22 (t 23),ln 25 3 24,oo 7 (.alloc [(iI 0),(iI 0),(iI 0)]),st 3 7 (t 25)]
def r_c_8:List CI:=[mv 26 (t 1),ln 27 3 7,oo 28 (.call (t 26) [(t 27)]),no 29 28]
def r_c_9:List CI:=[mv 30 (t 0),mv 31 (t 5),ln 32 3 7,ia 33 3 30 (t 31),st 3 33 (t 32)]
def r_c_10:List CI:=[mv 34 (t 5),bi .add 35 (t 34) (i 1),mv 5 (t 35)]
def r_c_11:List CI:=[mv 20 (t 6),bi .add 21 (t 20) (i 1),mv 6 (t 21)]
def c_c_12:CC:=(.seq (.seq (.ops r_c_6) (bs [0,1,5,6,19]) (.cond (t 19) .skip (.exit 0))) (bs [0,1,5,6]) (.seq (.block 2 (.seq (.ops r_c_7) (bs [0,1,5,6,7]) (.seq (.ops r_c_8) (bs [0,1,5,6,7,29]) (.cond (t 29) (.seq (.ops r_c_9) (bs [0,1,5,6]) (.ops r_c_10)) .skip)))) (bs [0,1,5,6]) (.ops r_c_11)))
def r_c_13:List CI:=[mv 36 (t 0),mv 37 (t 5),oo 38 (.slice 3 (t 36) (some (t 37)) none),on (.blt (.clear [(iI 0),(iI 0),(iI 0)]) [(t 38)])]
def r_c_14:List CI:=[mv 39 (t 0),mv 40 (t 5),oo 41 (.slice 3 (t 39) none (some (t 40))),mv 4 (t 41)]
def c_c:CC:=(.seq (.ops r_c_1) (bs [0,1]) (.seq (.ops r_c_2) (bs [0,1,5]) (.seq (.seq (.ops r_c_3) (bs [0,1,5,12]) (.cond (t 12) (.seq (.ops r_c_4) (bs [4]) .ret) .skip)) (bs [0,1,5]) (.seq (.seq (.ops r_c_5) (bs [0,1,5,6]) (.block 0 (.loop (bs [0,1,5,6]) c_c_12))) (bs [0,5]) (.seq (.ops r_c_13) (bs [0,5]) (.seq (.ops r_c_14) (bs [4]) .ret))))))
def f_c:zq:=⟨42,[.tmp (bits 4)],c_c,none,none⟩
def r_k_1:List CI:=[mv 2 (.c (.slice none 0 0))]
def r_k_2:List CI:=[mv 3 (t 0),oo 4 (.bin .eql .slice (t 3) (.c (.slice none 0 0)))]
def r_k_3:List CI:=[mv 2 (.c (.slice none 0 0))]
def r_k_4:List CI:=[oo 5 (.buildSlice 0 3 [(iI 0),(iI 0),(iI 0)] []),mv 6 (t 0),ap 7 3 24 (t 5) (t 6),mv 2 (t 7)]
def c_k:CC:=(.seq (.ops r_k_1) (bs [0]) (.seq (.seq (.ops r_k_2) (bs [0,4]) (.cond (t 4) (.seq (.ops r_k_3) (bs [2]) .ret) .skip)) (bs [0]) (.seq (.ops r_k_4) (bs [2]) .ret)))
def f_k:zq:=⟨8,[.tmp (bits 2)],c_k,none,none⟩
def r_Z_1:List CI:=[bx 2 (t 0),mv 3 ff]
def r_Z_2:List CI:=[fa 4 0 2,l 5 4,l 6 1,bi .neq 7 (t 5) (t 6),mv 3 (t 7)]
def c_Z:CC:=(.seq (.ops r_Z_1) (bs [1,2]) (.seq (.ops r_Z_2) (bs [3]) .ret))
def f_Z:zq:=⟨8,[.tmp (bits 3)],c_Z,none,none⟩
def r_b_1:List CI:=[bx 3 (t 0),mv 6 (.c (.slice none 0 0)),mv 7 (i 0),mv 8 ff]
def r_b_2:List CI:=[mv 9 (.c (.slice none 0 0))]
def r_b_3:List CI:=[fa 23 1 3,l 24 23,mv 25 (i 0)]
def r_b_4:List CI:=[bi .lss 26 (t 25) (t 24)]
def r_b_5:List CI:=[mv 27 (t 25),mv 10 (t 27)]
def r_b_6:List CI:=[mv 28 (t 10),mv 29 (t 2),bi .neq 30 (t 28) (t 29)]
def r_b_7:List CI:=[mv 31 (t 9),mv 32 (t 10),oo 33 (.buildSlice 1 1 [(iI 0)] [(0,(t 32))]),ap 34 1 8 (t 31) (t 33),mv 9 (t 34)]
def r_b_8:List CI:=[bi .add 35 (t 25) (i 1),mv 25 (t 35)]
def c_b_9:CC:=(.seq (.ops r_b_4) (bs [1,2,3,6,9,24,25,26]) (.seq (.cond (t 26) .skip (.exit 0)) (bs [1,2,3,6,9,24,25]) (.seq (.block 2 (.seq (.ops r_b_5) (bs [1,2,3,6,9,10,24,25]) (.seq (.ops r_b_6) (bs [1,2,3,6,9,10,24,25,30]) (.cond (t 30) (.ops r_b_7) .skip)))) (bs [1,2,3,6,9,24,25]) (.ops r_b_8))))
def r_b_10:List CI:=[oo 36 (.makeMap),mv 11 (t 36)]
def r_b_11:List CI:=[mv 37 (i 0)]
def r_b_12:List CI:=[bi .lss 38 (t 37) (i 3000)]
def r_b_13:List CI:=[mv 39 (t 1),oo 40 (.conv .u8 (t 39)),oo 41 (.buildSlice 1 1 [(.int .u8 0)] [(0,(t 40))]),mv 12 (t 41)]
def r_b_14:List CI:=[mv 42 (t 9),le 43 (t 42),mv 44 (i 0)]
def r_b_15:List CI:=[bi .lss 45 (t 44) (t 43)]
def r_b_16:List CI:=[ia 46 1 42 (t 44),l 47 46,mv 14 (t 47)]
def r_b_17:List CI:=[mv 48 (t 12),mv 49 (t 14),oo 50 (.conv .u8 (t 49)),oo 51 (.buildSlice 1 1 [(.int .u8 0)] [(0,(t 50))]),ap 52 1 1 (t 48) (t 51),mv 12 (t 52)]
def r_b_18:List CI:=[bi .add 53 (t 44) (i 1),mv 44 (t 53)]
def c_b_19:CC:=(.seq (.ops r_b_15) (bs [1,3,6,9,11,12,37,42,43,44,45]) (.seq (.cond (t 45) .skip (.exit 8)) (bs [1,3,6,9,11,12,37,42,43,44]) (.seq (.block 10 (.seq (.ops r_b_16) (bs [1,3,6,9,11,12,14,37,42,43,44]) (.ops r_b_17))) (bs [1,3,6,9,11,12,37,42,43,44]) (.ops r_b_18))))
def r_b_20:List CI:=[mv 55 (t 11),mv 56 (t 12),oo 57 (.b2s (t 56)),oo 58 (.lookup .str (iI 0) true (t 55) (t 57)),mv 54 (t 58),ex 59 54 0,ex 60 54 1,mv 15 (t 59),mv 16 (t 60)]
def r_b_21:List CI:=[mv 61 (t 16)]
def r_b_22:List CI:=[mv 62 (t 6),mv 63 (t 15),mv 6 (t 62),mv 7 (t 63),mv 8 tt]
def r_b_23:List CI:=[mv 64 (t 11),mv 65 (t 12),oo 66 (.b2s (t 65)),mv 67 (t 6),le 68 (t 67),on (.mapUpdate .str (t 64) (t 66) (t 68))]
def r_b_24:List CI:=[mv 69 (t 9),le 70 (t 69),bi .add 71 (t 70) (i 1),mv 17 (t 71),mv 18 (i (-1))]
def r_b_25:List CI:=[fa 72 2 3,l 73 72,le 74 (t 73),mv 75 (i 0)]
def r_b_26:List CI:=[bi .lss 76 (t 75) (t 74)]
def r_b_27:List CI:=[mv 77 (t 75),ia 78 3 73 (t 75),ln 79 3 78,oo 20 (.alloc [(iI 0),(iI 0),(iI 0)]),mv 19 (t 77),st 3 20 (t 79)]
def r_b_28:List CI:=[fa 80 0 20,l 81 80,mv 82 (t 1),bi .neq 83 (t 81) (t 82)]
def r_b_29:List CI:=[mv 84 (t 9),fa 85 1 20,l 86 85,ca 87 n_g [(t 84),(t 86)],mv 21 (t 87)]
def r_b_30:List CI:=[mv 88 (t 21),bi .lss 89 (t 88) (i 0)]
def r_b_31:List CI:=[mv 90 (t 9),le 91 (t 90),mv 21 (t 91)]
def r_b_32:List CI:=[mv 92 (t 21),mv 93 (t 17),bi .lss 94 (t 92) (t 93)]
def r_b_33:List CI:=[mv 95 (t 21),mv 96 (t 19),mv 17 (t 95),mv 18 (t 96)]
def r_b_34:List CI:=[bi .add 97 (t 75) (i 1),mv 75 (t 97)]
def c_b_35:CC:=(.seq (.ops r_b_26) (bs [1,3,6,9,11,17,18,37,73,74,75,76]) (.seq (.cond (t 76) .skip (.exit 12)) (bs [1,3,6,9,11,17,18,37,73,74,75]) (.seq (.block 14 (.seq (.ops r_b_27) (bs [1,3,6,9,11,17,18,19,20,37,73,74,75]) (.seq (.seq (.ops r_b_28) (bs [1,3,6,9,11,17,18,19,20,37,73,74,75,83]) (.cond (t 83) (.exit 14) .skip)) (bs [1,3,6,9,11,17,18,19,20,37,73,74,75]) (.seq (.ops r_b_29) (bs [1,3,6,9,11,17,18,19,21,37,73,74,75]) (.seq (.seq (.ops r_b_30) (bs [1,3,6,9,11,17,18,19,21,37,73,74,75,89]) (.cond (t 89) (.ops r_b_31) .skip)) (bs [1,3,6,9,11,17,18,19,21,37,73,74,75]) (.seq (.ops r_b_32) (bs [1,3,6,9,11,17,18,19,21,37,73,74,75,94]) (.cond (t 94) (.ops r_b_33) .skip))))))) (bs [1,3,6,9,11,17,18,37,73,74,75]) (.ops r_b_34))))
def r_b_36:List CI:=[mv 98 (t 18),bi .lss 99 (t 98) (i 0)]
def r_b_37:List CI:=[mv 100 (t 6),mv 6 (t 100),mv 7 (i (-1)),mv 8 tt]
def r_b_38:List CI:=[mv 101 (t 6),mv 102 (t 18),oo 103 (.buildSlice 1 1 [(iI 0)] [(0,(t 102))]),ap 104 1 8 (t 101) (t 103),mv 6 (t 104)]
def r_b_39:List CI:=[mv 105 (t 17),mv 106 (t 9),le 107 (t 106),bi .lss 108 (t 105) (t 107)]
def r_b_40:List CI:=[mv 109 (t 9),mv 110 (t 17),ia 111 1 109 (t 110),l 112 111,mv 22 (t 112)]
def r_b_41:List CI:=[mv 113 (t 9),mv 114 (t 17),mv 115 (t 17),bi .add 116 (t 115) (i 1),ca 117 n_u [(t 113),(t 114),(t 116)],mv 118 (t 22),oo 119 (.buildSlice 1 1 [(iI 0)] [(0,(t 118))]),ap 120 1 8 (t 117) (t 119),mv 9 (t 120)]
def r_b_42:List CI:=[fa 121 2 3,l 122 121,mv 123 (t 18),ia 124 3 122 (t 123),fa 125 2 124,l 126 125,mv 1 (t 126)]
def r_b_43:List CI:=[bi .add 127 (t 37) (i 1),mv 37 (t 127)]
def c_b_44:CC:=(.seq (.ops r_b_12) (bs [1,3,6,9,11,37,38]) (.seq (.cond (t 38) .skip (.exit 4)) (bs [1,3,6,9,11,37]) (.seq (.block 6 (.seq (.ops r_b_13) (bs [1,3,6,9,11,12,37]) (.seq (.seq (.ops r_b_14) (bs [1,3,6,9,11,12,37,42,43,44]) (.block 8 (.loop (bs [1,3,6,9,11,12,37,42,43,44]) c_b_19))) (bs [1,3,6,9,11,12,37]) (.seq (.seq (.ops r_b_20) (bs [1,3,6,9,11,12,15,16,37]) (.seq (.ops r_b_21) (bs [1,3,6,9,11,12,15,37,61]) (.cond (t 61) (.seq (.ops r_b_22) (bs [6,7,8]) .ret) .skip))) (bs [1,3,6,9,11,12,37]) (.seq (.ops r_b_23) (bs [1,3,6,9,11,37]) (.seq (.ops r_b_24) (bs [1,3,6,9,11,17,18,37]) (.seq (.seq (.ops r_b_25) (bs [1,3,6,9,11,17,18,37,73,74,75]) (.block 12 (.loop (bs [1,3,6,9,11,17,18,37,73,74,75]) c_b_35))) (bs [3,6,9,11,17,18,37]) (.seq (.seq (.ops r_b_36) (bs [3,6,9,11,17,18,37,99]) (.cond (t 99) (.seq (.ops r_b_37) (bs [6,7,8]) .ret) .skip)) (bs [3,6,9,11,17,18,37]) (.seq (.ops r_b_38) (bs [3,6,9,11,17,18,37]) (.seq (.seq (.ops r_b_39) (bs [3,6,9,11,17,18,37,108]) (.cond (t 108) (.seq (.ops r_b_40) (bs [3,6,9,11,17,18,22,37]) (.ops r_b_41)) .skip)) (bs [3,6,9,11,18,37]) (.ops r_b_42))))))))))) (bs [1,3,6,9,11,37]) (.ops r_b_43))))
def r_b_45:List CI:=[mv 128 (t 6),mv 6 (t 128),mv 7 (i (-1)),mv 8 ff]
def c_b:CC:=(.seq (.ops r_b_1) (bs [1,2,3,6]) (.seq (.ops r_b_2) (bs [1,2,3,6,9]) (.seq (.seq (.ops r_b_3) (bs [1,2,3,6,9,24,25]) (.block 0 (.loop (bs [1,2,3,6,9,24,25]) c_b_9))) (bs [1,3,6,9]) (.seq (.ops r_b_10) (bs [1,3,6,9,11]) (.seq (.seq (.ops r_b_11) (bs [1,3,6,9,11,37]) (.block 4 (.loop (bs [1,3,6,9,11,37]) c_b_44))) (bs [6]) (.seq (.ops r_b_45) (bs [6,7,8]) .ret))))))
def f_b:zq:=⟨129,[.tmp (bits 6),.tmp (bits 7),.tmp (bits 8)],c_b,none,none⟩
def r_1:List CI:=[bx 3 (t 0),bx 5 (t 2),mv 6 ff]
def r_A_2:List CI:=[mv 7 (t 1),oo 8 (.makeFunc (.func n_1) [] [(t 3),(t 5)]),ca 9 n_z [(t 7),(t 8)],mv 6 (t 9)]
def c_A:CC:=(.seq (.ops r_1) (bs [1,3,5]) (.seq (.ops r_A_2) (bs [6]) .ret))
def f_A:zq:=⟨10,[.tmp (bits 6)],c_A,none,none⟩
def r_z_1:List CI:=[mv 4 ff]
def r_z_2:List CI:=[mv 5 (t 0),mv 6 (t 1),ca 7 n_o [(t 5),(t 6)],bi .geq 8 (t 7) (i 0),mv 4 (t 8)]
def c_z:CC:=(.seq (.ops r_z_1) (bs [0,1]) (.seq (.ops r_z_2) (bs [4]) .ret))
def f_z:zq:=⟨9,[.tmp (bits 4)],c_z,none,none⟩
def r_X:List CI:=[bx 3 (t 0),mv 4 ff]
def r_E_2:List CI:=[fa 5 2 1,l 6 5,oo 7 (.makeFunc (.func n_X) [] [(t 1),(t 3),(t 2)]),ca 8 n_r [(t 6),(t 7)],mv 4 (t 8)]
def c_E:CC:=(.seq (.ops r_X) (bs [1,2,3]) (.seq (.ops r_E_2) (bs [4]) .ret))
def f_E:zq:=⟨9,[.tmp (bits 4)],c_E,none,none⟩
def r_r_1:List CI:=[mv 4 ff]
def r_r_2:List CI:=[mv 5 (t 0),mv 6 (t 1),ca 7 n_d [(t 5),(t 6)],bi .geq 8 (t 7) (i 0),mv 4 (t 8)]
def c_r:CC:=(.seq (.ops r_r_1) (bs [0,1]) (.seq (.ops r_r_2) (bs [4]) .ret))
def f_r:zq:=⟨9,[.tmp (bits 4)],c_r,none,none⟩
def r_X_1:List CI:=[bx 4 (t 0),mv 5 ff]
def r_X_2:List CI:=[fa 6 0 4,l 7 6,fa 8 2 1,l 9 8,l 10 2,ia 11 3 9 (t 10),fa 12 0 11,l 13 12,bi .eql 14 (t 7) (t 13),mv 15 (t 14),gu 15 true (fa 16 1 4),gu 15 true (l 17 16),gu 15 true (l 18 3),gu 15 true (bi .eql 19 (t 17) (t 18)),pk 20 (t 15) (t 19) ff,mv 5 (t 20)]
def c_X:CC:=(.seq (.ops r_X_1) (bs [1,2,3,4]) (.seq (.draw r_X_2) (bs [5]) .ret))
def f_X:zq:=⟨21,[.tmp (bits 5)],c_X,none,none⟩
def r_L_1:List CI:=[bx 2 (t 0),bx 3 (t 1),mv 4 (i 0)]
def r_L_2:List CI:=[fa 5 0 2,l 6 5,fa 7 1 2,l 8 7,fa 9 2 2,l 10 9,oo 11 (.buildSlice 3 1 [(iI 0)] [(0,(t 6)),(1,(t 8)),(2,(t 10))]),fa 12 0 3,l 13 12,fa 14 1 3,l 15 14,fa 16 2 3,l 17 16,oo 18 (.buildSlice 3 1 [(iI 0)] [(0,(t 13)),(1,(t 15)),(2,(t 17))]),ca 19 n_j [(t 11),(t 18)],mv 4 (t 19)]
def c_L:CC:=(.seq (.ops r_L_1) (bs [2,3]) (.seq (.ops r_L_2) (bs [4]) .ret))
def f_L:zq:=⟨20,[.tmp (bits 4)],c_L,none,none⟩
def r_6:List CI:=[bx 3 (t 0),mv 6 ff]
def r_P_2:List CI:=[ln 7 3 3,ca 8 n_J [(t 7)],mv 9 (t 8),gu 9 true (mv 10 (t 1)),gu 9 true (bi .geq 11 (t 10) (i 0)),pk 12 (t 9) (t 11) ff,mv 13 (t 12),gu 13 true (mv 14 (t 1)),gu 13 true (fa 15 1 3),gu 13 true (l 16 15),gu 13 true (bi .lss 17 (t 14) (t 16)),pk 18 (t 13) (t 17) ff,mv 19 (t 18),gu 19 true (mv 20 (t 2)),gu 19 true (oo 21 (.makeFunc (.func n_6) [] [(t 3)])),gu 19 true (ca 22 n_z [(t 20),(t 21)]),gu 19 true (no 23 22),pk 24 (t 19) (t 23) ff,mv 6 (t 24)]
def c_P:CC:=(.seq (.ops r_6) (bs [1,2,3]) (.seq (.ops r_P_2) (bs [6]) .ret))
def f_P:zq:=⟨25,[.tmp (bits 6)],c_P,none,none⟩
def r_n_1:List CI:=[bx 4 (t 0),bx 6 (t 2),bx 7 (t 3),oo 8 (.alloc [(.int .u64 0)])]
def r_n_2:List CI:=[oo 9 (.alloc [(.int .u64 0)])]
def r_n_3:List CI:=[mv 14 (t 1),ca 15 n_R [(t 9),(t 14)]]
def r_n_4:List CI:=[oo 16 (.build [(.int .u64 0)] []),oo 10 (.alloc [(.int .u64 0)]),st 1 10 (t 16)]
def r_n_5:List CI:=[ln 17 1 10,ln 18 1 9,oo 19 (.bin .neq (.leaves [0]) (t 17) (t 18))]
def r_n_6:List CI:=[ln 20 1 9,st 1 10 (t 20)]
def r_n_7:List CI:=[ln 21 1 10,ca 22 n_I [(t 21)]]
def r_n_8:List CI:=[mv 11 (t 23)]
def r_n_9:List CI:=[ln 24 3 4,mv 25 (t 11),ca 26 n_G [(t 24),(t 25)]]
def r_n_10:List CI:=[oo 13 (.alloc [(iI 0),(iI 0),(iI 0)]),st 3 13 (t 28)]
def r_n_11:List CI:=[fa 29 1 13,l 30 29,l 31 7,bi .neq 32 (t 30) (t 31),mv 33 (t 32),gu 33 true (ln 34 1 6),gu 33 true (fa 35 2 13),gu 33 true (l 36 35),gu 33 true (ca 37 n_N [(t 34),(t 36)]),pk 38 (t 33) (t 37) ff]
def r_n_12:List CI:=[fa 39 2 13,l 40 39,ca 41 n_R [(t 9),(t 40)]]
def c_n_13:CC:=(.ops r_n_10)
def zcb:CC:=(.block 10 (.seq (.ops r_n_11) (bs [9,13,38]) (.cond (t 38) (.ops r_n_12) .skip)))
def c_n_14:CC:=(.ops r_n_8)
def zcY:CC:=(.block 6 (.seq (.ops r_n_9) (bs [6,7,9,26]) (.block 8 (.rangeFunc 0 (bs [6,7,9]) (t 26) (bs [27,28]) c_n_13 zcb))))
def r_n_15:List CI:=[ln 42 1 10]
def r_n_16:List CI:=[oo 10 (.alloc [(.int .u64 0)]),st 1 10 (t 42)]
def c_n_17:CC:=(.seq (.seq (.ops r_n_5) (bs [4,6,7,8,9,10,19]) (.cond (t 19) .skip (.exit 0))) (bs [4,6,7,8,9,10]) (.seq (.block 2 (.seq (.ops r_n_6) (bs [4,6,7,8,9,10]) (.seq (.ops r_n_7) (bs [4,6,7,8,9,10,22]) (.block 4 (.rangeFunc 0 (bs [4,6,7,9]) (t 22) (bs [23]) c_n_14 zcY))))) (bs [4,6,7,8,9,10]) (.seq (.ops r_n_15) (bs [4,6,7,8,9,42]) (.ops r_n_16))))
def r_n_18:List CI:=[ln 43 1 9,st 1 8 (t 43)]
def c_n:CC:=(.seq (.ops r_n_1) (bs [1,4,6,7,8]) (.seq (.ops r_n_2) (bs [1,4,6,7,8,9]) (.seq (.ops r_n_3) (bs [4,6,7,8,9]) (.seq (.seq (.ops r_n_4) (bs [4,6,7,8,9,10]) (.block 0 (.loop (bs [4,6,7,8,9,10]) c_n_17))) (bs [8,9]) (.seq (.ops r_n_18) (bs [8]) .ret)))))
def f_n:zq:=⟨44,[.cell (some 1) (bits 8)],c_n,none,none⟩
def r_y_1:List CI:=[bx 1 (t 0),oo 2 (.alloc [(.int .u64 0)])]
def r_y_2:List CI:=[oo 3 (.alloc [(.int .u64 0)])]
def r_y_3:List CI:=[fa 5 0 1,fa 6 0 5,l 7 6,mv 8 (i 0)]
def r_y_4:List CI:=[bi .lss 9 (t 8) (t 7)]
def r_y_5:List CI:=[mv 10 (t 8),mv 4 (t 10)]
def r_y_6:List CI:=[mv 11 (t 4),ca 12 n_R [(t 3),(t 11)]]
def r_y_7:List CI:=[bi .add 13 (t 8) (i 1),mv 8 (t 13)]
def c_y_8:CC:=(.seq (.ops r_y_4) (bs [2,3,7,8,9]) (.seq (.cond (t 9) .skip (.exit 0)) (bs [2,3,7,8]) (.seq (.block 2 (.seq (.ops r_y_5) (bs [2,3,4,7,8]) (.ops r_y_6))) (bs [2,3,7,8]) (.ops r_y_7))))
def r_y_9:List CI:=[ln 14 1 3,st 1 2 (t 14)]
def c_y:CC:=(.seq (.ops r_y_1) (bs [1,2]) (.seq (.ops r_y_2) (bs [1,2,3]) (.seq (.seq (.ops r_y_3) (bs [2,3,7,8]) (.block 0 (.loop (bs [2,3,7,8]) c_y_8))) (bs [2,3]) (.seq (.ops r_y_9) (bs [2]) .ret))))
def f_y:zq:=⟨15,[.cell (some 1) (bits 2)],c_y,none,none⟩
def r_i_1:List CI:=[bx 4 (t 0),bx 5 (t 1),mv 8 (.c (.slice none 0 0))]
def r_i_2:List CI:=[ln 18 3 4,ln 19 1 5,mv 20 (t 2),ca 21 n_a [(t 18),(t 19),(t 20)],mv 17 (t 21),ex 22 17 0,ex 23 17 1,mv 9 (t 22),mv 10 (t 23)]
def r_i_3:List CI:=[mv 11 (.c (.slice none 0 0))]
def r_i_4:List CI:=[mv 24 (t 10),mv 25 (i 0)]
def r_i_5:List CI:=[bi .lss 26 (t 25) (t 24)]
def r_i_6:List CI:=[mv 27 (t 25),mv 12 (t 27)]
def r_i_7:List CI:=[oo 13 (.alloc [(.int .u64 0)])]
def r_i_8:List CI:=[mv 28 (t 9),le 29 (t 28),mv 30 (i 0)]
def r_i_9:List CI:=[bi .lss 31 (t 30) (t 29)]
def r_i_10:List CI:=[mv 32 (t 30),ia 33 1 28 (t 30),l 34 33,mv 14 (t 32),mv 15 (t 34)]
def r_i_11:List CI:=[mv 35 (t 15),mv 36 (t 12),bi .eql 37 (t 35) (t 36)]
def r_i_12:List CI:=[mv 38 (t 14),ca 39 n_R [(t 13),(t 38)]]
def r_i_13:List CI:=[bi .add 40 (t 30) (i 1),mv 30 (t 40)]
def c_i_14:CC:=(.seq (.ops r_i_9) (bs [2,3,4,9,11,12,13,24,25,28,29,30,31]) (.seq (.cond (t 31) .skip (.exit 4)) (bs [2,3,4,9,11,12,13,24,25,28,29,30]) (.seq (.block 6 (.seq (.ops r_i_10) (bs [2,3,4,9,11,12,13,14,15,24,25,28,29,30]) (.seq (.ops r_i_11) (bs [2,3,4,9,11,12,13,14,24,25,28,29,30,37]) (.cond (t 37) (.ops r_i_12) .skip)))) (bs [2,3,4,9,11,12,13,24,25,28,29,30]) (.ops r_i_13))))
def r_i_15:List CI:=[ln 41 3 4,ln 42 1 13,mv 43 (t 2),ca 44 n_D [(t 41),(t 42),(i (-1)),(t 43)],no 45 44]
def r_i_16:List CI:=[ln 46 3 4,ln 47 1 13,mv 48 (t 2),mv 49 (t 3),ca 50 n_t [(t 46),(t 47),(t 48),(t 49)],oo 16 (.alloc [(.int .u64 0)]),st 1 16 (t 50)]
def r_i_17:List CI:=[ln 52 1 16,ln 53 1 13,oo 54 (.bin .neq (.leaves [0]) (t 52) (t 53)),mv 51 (t 54)]
def r_i_18:List CI:=[mv 55 (t 11),ln 56 3 4,ln 57 1 16,mv 58 (t 2),mv 59 (t 3),ca 60 n_i [(t 56),(t 57),(t 58),(t 59)],ap 61 1 8 (t 55) (t 60),mv 11 (t 61)]
def r_i_19:List CI:=[mv 63 (t 3),no 64 63,mv 65 (t 64),gu 65 false (ln 66 3 4),gu 65 false (ln 67 1 13),gu 65 false (mv 68 (t 2)),gu 65 false (ca 69 n_C [(t 66),(t 67),(t 68)]),pk 70 (t 65) tt (t 69),mv 62 (t 70)]
def r_i_20:List CI:=[mv 71 (t 11),ln 72 1 13,oo 73 (.buildSlice 1 1 [(.int .u64 0)] [(0,(t 72))]),ap 74 1 8 (t 71) (t 73),mv 11 (t 74)]
def r_i_21:List CI:=[bi .add 75 (t 25) (i 1),mv 25 (t 75)]
def c_i_22:CC:=(.seq (.ops r_i_5) (bs [2,3,4,9,11,24,25,26]) (.seq (.cond (t 26) .skip (.exit 0)) (bs [2,3,4,9,11,24,25]) (.seq (.block 2 (.seq (.ops r_i_6) (bs [2,3,4,9,11,12,24,25]) (.seq (.ops r_i_7) (bs [2,3,4,9,11,12,13,24,25]) (.seq (.seq (.ops r_i_8) (bs [2,3,4,9,11,12,13,24,25,28,29,30]) (.block 4 (.loop (bs [2,3,4,9,11,12,13,24,25,28,29,30]) c_i_14))) (bs [2,3,4,9,11,13,24,25]) (.seq (.seq (.ops r_i_15) (bs [2,3,4,9,11,13,24,25,45]) (.cond (t 45) (.exit 2) .skip)) (bs [2,3,4,9,11,13,24,25]) (.seq (.ops r_i_16) (bs [2,3,4,9,11,13,16,24,25]) (.block 8 (.seq (.ops r_i_17) (bs [2,3,4,9,11,13,16,24,25,51]) (.cond (t 51) (.ops r_i_18) (.seq (.ops r_i_19) (bs [2,3,4,9,11,13,24,25,62]) (.cond (t 62) (.ops r_i_20) .skip))))))))))) (bs [2,3,4,9,11,24,25]) (.ops r_i_21))))
def r_i_23:List CI:=[mv 76 (t 11),mv 8 (t 76)]
def c_i:CC:=(.seq (.ops r_i_1) (bs [2,3,4,5]) (.seq (.ops r_i_2) (bs [2,3,4,9,10]) (.seq (.ops r_i_3) (bs [2,3,4,9,10,11]) (.seq (.seq (.ops r_i_4) (bs [2,3,4,9,11,24,25]) (.block 0 (.loop (bs [2,3,4,9,11,24,25]) c_i_22))) (bs [11]) (.seq (.ops r_i_23) (bs [8]) .ret)))))
def f_i:zq:=⟨77,[.tmp (bits 8)],c_i,none,none⟩
def r_S:List CI:=[bx 1 (t 0),mv 2 (.c .nilFunc)]
def r_I_2:List CI:=[oo 3 (.makeFunc (.func n_S) [] [(t 1)]),mv 2 (t 3)]
def c_I:CC:=(.seq (.ops r_S) (bs [1]) (.seq (.ops r_I_2) (bs [2]) .ret))
def f_I:zq:=⟨4,[.tmp (bits 2)],c_I,none,none⟩
def r_H:List CI:=[bx 5 (t 0),bx 6 (t 1),bx 7 (t 2),bx 8 (t 3),mv 10 (.c (.slice none 0 0))]
def r_5:List CI:=[oo 11 (.alloc [(.slice none 0 0)])]
def r_W:List CI:=[l 17 6,oo 12 (.alloc [(iI 0)]),st 1 12 (t 17)]
def r_4:List CI:=[oo 18 (.makeFunc (.func n_H) [] [(t 5),(t 12),(t 7),(t 8),(t 11)]),mv 13 (t 18)]
def r_f_5:List CI:=[oo 14 (.alloc [(.bool false),(.bool false),(.bool false),(.bool false),(.bool false),(.bool false),(.bool false),(.bool false),(.bool false),(.bool false),(.bool false),(.bool false),(.bool false),(.bool false),(.bool false),(.bool false),(.bool false),(.bool false),(.bool false),(.bool false),(.bool false),(.bool false),(.bool false),(.bool false),(.bool false),(.bool false),(.bool false),(.bool false),(.bool false),(.bool false),(.bool false),(.bool false),(.bool false),(.bool false),(.bool false),(.bool false),(.bool false),(.bool false),(.bool false),(.bool false)])]
def r_f_6:List CI:=[fa 19 0 5,fa 20 2 19,l 21 20,le 22 (t 21),mv 23 (i 0)]
def r_f_7:List CI:=[bi .lss 24 (t 23) (t 22)]
def r_f_8:List CI:=[mv 25 (t 23),ia 26 3 21 (t 23),ln 27 3 26,oo 16 (.alloc [(iI 0),(iI 0),(iI 0)]),mv 15 (t 25),st 3 16 (t 27)]
def r_f_9:List CI:=[fa 28 1 16,l 29 28,l 30 8,bi .eql 31 (t 29) (t 30),mv 32 (t 31),gu 32 false (fa 33 1 16),gu 32 false (l 34 33),gu 32 false (oo 35 (.indexArr 40 1 (t 14) (t 34))),gu 32 false (l 36 35),pk 37 (t 32) tt (t 36),mv 38 (t 37),gu 38 false (ln 39 1 7),gu 38 false (fa 40 0 16),gu 38 false (l 41 40),gu 38 false (ca 42 n_N [(t 39),(t 41)]),gu 38 false (no 43 42),pk 44 (t 38) tt (t 43),mv 45 (t 44),gu 45 false (ln 46 1 7),gu 45 false (fa 47 2 16),gu 45 false (l 48 47),gu 45 false (ca 49 n_N [(t 46),(t 48)]),gu 45 false (no 50 49),pk 51 (t 45) tt (t 50)]
def r_f_10:List CI:=[fa 52 1 16,l 53 52,oo 54 (.indexArr 40 1 (t 14) (t 53)),st 1 54 tt]
def r_f_11:List CI:=[mv 55 (t 13),oo 56 (.makeFunc (.func n_5) [] [(t 16)]),oo 57 (.call (t 55) [(t 56)])]
def r_f_12:List CI:=[l 58 11,mv 59 (t 15),oo 60 (.buildSlice 1 1 [(iI 0)] [(0,(t 59))]),ap 61 1 8 (t 58) (t 60),st 1 11 (t 61)]
def r_f_13:List CI:=[fa 62 2 16,l 63 62,st 1 12 (t 63)]
def r_f_14:List CI:=[bi .add 64 (t 23) (i 1),mv 23 (t 64)]
def c_f_15:CC:=(.seq (.ops r_f_7) (bs [4,5,6,7,8,11,12,13,14,21,22,23,24]) (.seq (.cond (t 24) .skip (.exit 0)) (bs [4,5,6,7,8,11,12,13,14,21,22,23]) (.seq (.block 2 (.seq (.ops r_f_8) (bs [4,5,6,7,8,11,12,13,14,15,16,21,22,23]) (.seq (.seq (.ops r_f_9) (bs [4,5,6,7,8,11,12,13,14,15,16,21,22,23,51]) (.cond (t 51) (.exit 2) .skip)) (bs [4,5,6,7,8,11,12,13,14,15,16,21,22,23]) (.seq (.ops r_f_10) (bs [4,5,6,7,8,11,12,13,14,15,16,21,22,23]) (.seq (.ops r_f_11) (bs [4,5,6,7,8,11,12,13,14,15,16,21,22,23]) (.seq (.ops r_f_12) (bs [4,5,6,7,8,11,12,13,14,16,21,22,23]) (.ops r_f_13))))))) (bs [4,5,6,7,8,11,12,13,14,21,22,23]) (.ops r_f_14))))
def r_f_16:List CI:=[mv 65 (t 4)]
def r_f_17:List CI:=[mv 66 (t 13),oo 67 (.makeFunc (.func n_W) [] [(t 5),(t 8)]),oo 68 (.call (t 66) [(t 67)])]
def r_f_18:List CI:=[mv 69 (t 13),oo 70 (.makeFunc (.func n_4) [] [(t 6)]),oo 71 (.call (t 69) [(t 70)])]
def r_f_19:List CI:=[l 72 11,mv 10 (t 72)]
def c_f:CC:=(.seq (.ops r_H) (bs [4,5,6,7,8]) (.seq (.ops r_5) (bs [4,5,6,7,8,11]) (.seq (.ops r_W) (bs [4,5,6,7,8,11,12]) (.seq (.ops r_4) (bs [4,5,6,7,8,11,12,13]) (.seq (.ops r_f_5) (bs [4,5,6,7,8,11,12,13,14]) (.seq (.seq (.ops r_f_6) (bs [4,5,6,7,8,11,12,13,14,21,22,23]) (.block 0 (.loop (bs [4,5,6,7,8,11,12,13,14,21,22,23]) c_f_15))) (bs [4,5,6,8,11,13]) (.seq (.seq (.ops r_f_16) (bs [5,6,8,11,13,65]) (.cond (t 65) (.ops r_f_17) .skip)) (bs [6,11,13]) (.seq (.ops r_f_18) (bs [11]) (.seq (.ops r_f_19) (bs [10]) .ret)))))))))
def f_f:zq:=⟨73,[.tmp (bits 10)],c_f,none,none⟩
def r_h_1:List CI:=[bx 5 (t 0),bx 7 (t 2),bx 8 (t 3),mv 10 (.c (.slice none 0 0)),mv 11 ff]
def r_h_2:List CI:=[oo 19 (.buildSlice 1 1 [(iI 0)] [(0,(i (-1)))]),fa 20 0 5,fa 21 0 20,l 22 21,ca 23 n_m [(t 19),(t 22)],oo 12 (.alloc [(.slice none 0 0)]),st 1 12 (t 23)]
def r_h_3:List CI:=[oo 13 (.alloc [(.int .u64 0)])]
def r_h_4:List CI:=[mv 24 (t 1),ca 25 n_R [(t 13),(t 24)]]
def r_h_5:List CI:=[mv 26 (t 1),oo 27 (.buildSlice 1 1 [(iI 0)] [(0,(t 26))]),oo 14 (.alloc [(.slice none 0 0)]),st 1 14 (t 27)]
def r_h_6:List CI:=[l 28 14,le 29 (t 28),bi .gtr 30 (t 29) (i 0)]
def r_h_7:List CI:=[l 31 14,ia 32 1 31 (i 0),l 33 32,mv 15 (t 33)]
def r_h_8:List CI:=[l 34 14,oo 35 (.slice 1 (t 34) (some (i 1)) none),st 1 14 (t 35)]
def r_h_9:List CI:=[mv 36 (t 4),mv 37 (t 15),oo 38 (.call (t 36) [(t 37)])]
def r_h_10:List CI:=[mv 16 (.c (.slice none 0 0))]
def r_h_11:List CI:=[mv 39 (t 15),mv 40 (t 1),bi .neq 41 (t 39) (t 40)]
def r_h_12:List CI:=[mv 52 (t 16),l 53 12,mv 54 (t 15),ia 55 1 53 (t 54),l 56 55,oo 57 (.buildSlice 1 1 [(iI 0)] [(0,(t 56))]),ap 58 1 8 (t 52) (t 57),mv 16 (t 58)]
def r_h_13:List CI:=[fa 42 0 5,fa 43 2 42,l 44 43,l 45 12,mv 46 (t 15),ia 47 1 45 (t 46),l 48 47,ia 49 3 44 (t 48),fa 50 0 49,l 51 50,mv 15 (t 51)]
def c_h_14:CC:=(.seq (.seq (.ops r_h_11) (bs [1,5,12,15,16,41]) (.cond (t 41) .skip (.exit 4))) (bs [1,5,12,15,16]) (.seq (.block 6 (.ops r_h_12)) (bs [1,5,12,15,16]) (.draw r_h_13)))
def r_h_15:List CI:=[mv 59 (t 16),ca 60 n_w [(t 59)]]
def r_h_16:List CI:=[mv 61 (t 16),mv 10 (t 61),mv 11 tt]
def r_h_17:List CI:=[ln 62 3 5,mv 63 (t 15),ca 64 n_G [(t 62),(t 63)]]
def r_h_18:List CI:=[mv 17 (t 65)]
def r_h_19:List CI:=[oo 18 (.alloc [(iI 0),(iI 0),(iI 0)]),st 3 18 (t 66)]
def r_h_20:List CI:=[fa 67 1 18,l 68 67,l 69 8,bi .neq 70 (t 68) (t 69),mv 71 (t 70),gu 71 true (ln 72 1 7),gu 71 true (fa 73 2 18),gu 71 true (l 74 73),gu 71 true (ca 75 n_N [(t 72),(t 74)]),pk 76 (t 71) (t 75) ff,mv 77 (t 76),gu 77 true (ln 78 1 13),gu 77 true (fa 79 2 18),gu 77 true (l 80 79),gu 77 true (ca 81 n_N [(t 78),(t 80)]),gu 77 true (no 82 81),pk 83 (t 77) (t 82) ff]
def r_h_21:List CI:=[fa 84 2 18,l 85 84,ca 86 n_R [(t 13),(t 85)]]
def r_h_22:List CI:=[l 87 12,fa 88 2 18,l 89 88,mv 90 (t 17),ia 91 1 87 (t 89),st 1 91 (t 90)]
def r_h_23:List CI:=[l 92 14,fa 93 2 18,l 94 93,oo 95 (.buildSlice 1 1 [(iI 0)] [(0,(t 94))]),ap 96 1 8 (t 92) (t 95),st 1 14 (t 96)]
def c_h_24:CC:=(.seq (.ops r_h_18) (bs [7,8,12,13,14,17,66]) (.ops r_h_19))
def zcn:CC:=(.block 10 (.seq (.ops r_h_20) (bs [12,13,14,17,18,83]) (.cond (t 83) (.seq (.ops r_h_21) (bs [12,14,17,18]) (.seq (.ops r_h_22) (bs [14,18]) (.ops r_h_23))) .skip)))
def c_h_25:CC:=(.seq (.seq (.ops r_h_6) (bs [1,4,5,7,8,10,11,12,13,14,30]) (.cond (t 30) .skip (.exit 0))) (bs [1,4,5,7,8,10,11,12,13,14]) (.block 2 (.seq (.ops r_h_7) (bs [1,4,5,7,8,10,11,12,13,14,15]) (.seq (.ops r_h_8) (bs [1,4,5,7,8,10,11,12,13,14,15]) (.seq (.seq (.ops r_h_9) (bs [1,4,5,7,8,10,11,12,13,14,15,38]) (.cond (t 38) (.seq (.ops r_h_10) (bs [1,5,12,15,16]) (.seq (.block 4 (.loop (bs [1,5,12,15,16]) c_h_14)) (bs [16]) (.seq (.ops r_h_15) (bs [16]) (.seq (.ops r_h_16) (bs [10,11]) .ret)))) .skip)) (bs [1,4,5,7,8,10,11,12,13,14,15]) (.seq (.ops r_h_17) (bs [1,4,5,7,8,10,11,12,13,14,64]) (.block 8 (.rangeFunc 0 (bs [7,8,12,13,14]) (t 64) (bs [65,66]) c_h_24 zcn))))))))
def r_h_26:List CI:=[mv 10 (.c (.slice none 0 0)),mv 11 ff]
def c_h:CC:=(.seq (.ops r_h_1) (bs [1,4,5,7,8,10,11]) (.seq (.ops r_h_2) (bs [1,4,5,7,8,10,11,12]) (.seq (.ops r_h_3) (bs [1,4,5,7,8,10,11,12,13]) (.seq (.ops r_h_4) (bs [1,4,5,7,8,10,11,12,13]) (.seq (.ops r_h_5) (bs [1,4,5,7,8,10,11,12,13,14]) (.seq (.block 0 (.loop (bs [1,4,5,7,8,10,11,12,13,14]) c_h_25)) [] (.seq (.ops r_h_26) (bs [10,11]) .ret)))))))
def f_h:zq:=⟨97,[.tmp (bits 10),.tmp (bits 11)],c_h,none,none⟩
def r_N_1:List CI:=[bx 2 (t 0),mv 4 ff]
def r_N_2:List CI:=[mv 5 (t 1),bi .quo 6 (t 5) (i 64),oo 7 (.indexArr 1 1 (t 2) (t 6)),l 8 7,mv 9 (t 1),bi .rem 10 (t 9) (i 64),bi .shr 11 (t 8) (t 10),bi .and 12 (t 11) (.c (.int .u64 1)),bi .eql 13 (t 12) (.c (.int .u64 1)),mv 4 (t 13)]
def c_N:CC:=(.seq (.ops r_N_1) (bs [1,2]) (.seq (.ops r_N_2) (bs [4]) .ret))
def f_N:zq:=⟨14,[.tmp (bits 4)],c_N,none,none⟩
def r_p_1:List CI:=[bx 4 (t 0),mv 8 (i 0),mv 9 ff]
def r_p_2:List CI:=[mv 13 (t 2),le 14 (t 13),mv 15 (i 0)]
def r_p_3:List CI:=[bi .lss 16 (t 15) (t 14)]
def r_p_4:List CI:=[ia 17 1 13 (t 15),l 18 17,mv 11 (t 18)]
def r_p_5:List CI:=[fa 19 0 4,fa 20 2 19,l 21 20,mv 22 (t 11),ia 23 3 21 (t 22),ln 24 3 23,oo 12 (.alloc [(iI 0),(iI 0),(iI 0)]),st 3 12 (t 24)]
def r_p_6:List CI:=[fa 25 0 12,l 26 25,mv 27 (t 1),bi .neq 28 (t 26) (t 27),mv 29 (t 28),gu 29 false (fa 30 1 12),gu 29 false (l 31 30),gu 29 false (mv 32 (t 3)),gu 29 false (bi .eql 33 (t 31) (t 32)),pk 34 (t 29) tt (t 33)]
def r_p_7:List CI:=[mv 8 (i 0),mv 9 ff]
def r_p_8:List CI:=[fa 35 2 12,l 36 35,mv 1 (t 36)]
def r_p_9:List CI:=[bi .add 37 (t 15) (i 1),mv 15 (t 37)]
def c_p_10:CC:=(.seq (.ops r_p_3) (bs [1,3,4,13,14,15,16]) (.seq (.cond (t 16) .skip (.exit 0)) (bs [1,3,4,13,14,15]) (.seq (.block 2 (.seq (.ops r_p_4) (bs [1,3,4,11,13,14,15]) (.seq (.ops r_p_5) (bs [1,3,4,12,13,14,15]) (.seq (.seq (.ops r_p_6) (bs [3,4,12,13,14,15,34]) (.cond (t 34) (.seq (.ops r_p_7) (bs [8,9]) .ret) .skip)) (bs [3,4,12,13,14,15]) (.ops r_p_8))))) (bs [1,3,4,13,14,15]) (.ops r_p_9))))
def r_p_11:List CI:=[mv 38 (t 1),mv 8 (t 38),mv 9 tt]
def c_p:CC:=(.seq (.ops r_p_1) (bs [1,2,3,4]) (.seq (.seq (.ops r_p_2) (bs [1,3,4,13,14,15]) (.block 0 (.loop (bs [1,3,4,13,14,15]) c_p_10))) (bs [1]) (.seq (.ops r_p_11) (bs [8,9]) .ret)))
def f_p:zq:=⟨39,[.tmp (bits 8),.tmp (bits 9)],c_p,none,none⟩
def r_l_1:List CI:=[bx 3 (t 0),oo 6 (.alloc [(.int .u64 0)]),mv 7 ff]
def r_l_2:List CI:=[oo 8 (.alloc [(.int .u64 0)])]
def r_l_3:List CI:=[oo 9 (.alloc [(.bool false),(.bool false),(.bool false),(.bool false),(.bool false),(.bool false),(.bool false),(.bool false),(.bool false),(.bool false),(.bool false),(.bool false),(.bool false),(.bool false),(.bool false),(.bool false),(.bool false),(.bool false),(.bool false),(.bool false),(.bool false),(.bool false),(.bool false),(.bool false),(.bool false),(.bool false),(.bool false),(.bool false),(.bool false),(.bool false),(.bool false),(.bool false),(.bool false),(.bool false),(.bool false),(.bool false),(.bool false),(.bool false),(.bool false),(.bool false)])]
def r_l_4:List CI:=[mv 14 (t 1),le 15 (t 14),mv 16 (i 0)]
def r_l_5:List CI:=[bi .lss 17 (t 16) (t 15)]
def r_l_6:List CI:=[ia 18 1 14 (t 16),l 19 18,mv 11 (t 19)]
def r_l_7:List CI:=[fa 20 0 3,fa 21 2 20,l 22 21,mv 23 (t 11),ia 24 3 22 (t 23),fa 25 0 24,l 26 25,ca 27 n_R [(t 8),(t 26)]]
def r_l_8:List CI:=[fa 28 0 3,fa 29 2 28,l 30 29,mv 31 (t 11),ia 32 3 30 (t 31),fa 33 1 32,l 34 33,oo 35 (.indexArr 40 1 (t 9) (t 34)),st 1 35 tt]
def r_l_9:List CI:=[bi .add 36 (t 16) (i 1),mv 16 (t 36)]
def c_l_10:CC:=(.seq (.ops r_l_5) (bs [2,3,6,8,9,14,15,16,17]) (.seq (.cond (t 17) .skip (.exit 0)) (bs [2,3,6,8,9,14,15,16]) (.seq (.block 2 (.seq (.ops r_l_6) (bs [2,3,6,8,9,11,14,15,16]) (.seq (.ops r_l_7) (bs [2,3,6,8,9,11,14,15,16]) (.ops r_l_8)))) (bs [2,3,6,8,9,14,15,16]) (.ops r_l_9))))
def r_l_11:List CI:=[fa 37 0 3,fa 38 2 37,l 39 38,le 40 (t 39),mv 41 (i 0)]
def r_l_12:List CI:=[bi .lss 42 (t 41) (t 40)]
def r_l_13:List CI:=[ia 43 3 39 (t 41),ln 44 3 43,oo 13 (.alloc [(iI 0),(iI 0),(iI 0)]),st 3 13 (t 44)]
def r_l_14:List CI:=[ln 45 1 8,fa 46 0 13,l 47 46,ca 48 n_N [(t 45),(t 47)],mv 49 (t 48),gu 49 true (fa 50 1 13),gu 49 true (l 51 50),gu 49 true (mv 52 (t 2)),gu 49 true (bi .neq 53 (t 51) (t 52)),pk 54 (t 49) (t 53) ff,mv 55 (t 54),gu 55 true (fa 56 1 13),gu 55 true (l 57 56),gu 55 true (oo 58 (.indexArr 40 1 (t 9) (t 57))),gu 55 true (l 59 58),gu 55 true (no 60 59),pk 61 (t 55) (t 60) ff]
def r_l_15:List CI:=[ln 62 1 8,st 1 6 (t 62),mv 7 ff]
def r_l_16:List CI:=[bi .add 63 (t 41) (i 1),mv 41 (t 63)]
def c_l_17:CC:=(.seq (.ops r_l_12) (bs [2,6,8,9,39,40,41,42]) (.seq (.cond (t 42) .skip (.exit 4)) (bs [2,6,8,9,39,40,41]) (.seq (.block 6 (.seq (.ops r_l_13) (bs [2,6,8,9,13,39,40,41]) (.seq (.ops r_l_14) (bs [2,6,8,9,39,40,41,61]) (.cond (t 61) (.seq (.ops r_l_15) (bs [6,7]) .ret) .skip)))) (bs [2,6,8,9,39,40,41]) (.ops r_l_16))))
def r_l_18:List CI:=[ln 64 1 8,st 1 6 (t 64),mv 7 tt]
def c_l:CC:=(.seq (.ops r_l_1) (bs [1,2,3,6]) (.seq (.ops r_l_2) (bs [1,2,3,6,8]) (.seq (.ops r_l_3) (bs [1,2,3,6,8,9]) (.seq (.seq (.ops r_l_4) (bs [2,3,6,8,9,14,15,16]) (.block 0 (.loop (bs [2,3,6,8,9,14,15,16]) c_l_10))) (bs [2,3,6,8,9]) (.seq (.seq (.ops r_l_11) (bs [2,6,8,9,39,40,41]) (.block 4 (.loop (bs [2,6,8,9,39,40,41]) c_l_17))) (bs [6,8]) (.seq (.ops r_l_18) (bs [6,7]) .ret))))))
def f_l:zq:=⟨65,[.cell (some 1) (bits 6),.tmp (bits 7)],c_l,none,none⟩
def r_0:List CI:=[bx 3 (t 0),bx 4 (t 1),bx 5 (t 2),mv 6 ff]
def r_C_2:List CI:=[fa 7 0 3,fa 8 2 7,l 9 8,oo 10 (.makeFunc (.func n_0) [] [(t 4),(t 5)]),ca 11 n_r [(t 9),(t 10)],mv 6 (t 11)]
def c_C:CC:=(.seq (.ops r_0) (bs [3,4,5]) (.seq (.ops r_C_2) (bs [6]) .ret))
def f_C:zq:=⟨12,[.tmp (bits 6)],c_C,none,none⟩
def r_J_1:List CI:=[bx 1 (t 0),mv 2 ff]
def r_J_2:List CI:=[fa 5 0 1,l 6 5,bi .lss 7 (t 6) (i 1),mv 8 (t 7),gu 8 false (fa 9 0 1),gu 8 false (l 10 9),gu 8 false (bi .gtr 11 (t 10) (i 60)),pk 12 (t 8) tt (t 11),mv 13 (t 12),gu 13 false (fa 14 1 1),gu 13 false (l 15 14),gu 13 false (bi .lss 16 (t 15) (i 0)),pk 17 (t 13) tt (t 16),mv 18 (t 17),gu 18 false (fa 19 1 1),gu 18 false (l 20 19),gu 18 false (bi .gtr 21 (t 20) (i 40)),pk 22 (t 18) tt (t 21),mv 23 (t 22),gu 23 false (fa 24 2 1),gu 23 false (l 25 24),gu 23 false (le 26 (t 25)),gu 23 false (bi .gtr 27 (t 26) (i 400)),pk 28 (t 23) tt (t 27)]
def r_J_3:List CI:=[mv 2 ff]
def r_J_4:List CI:=[fa 29 2 1,l 30 29,le 31 (t 30),mv 32 (i 0)]
def r_J_5:List CI:=[bi .lss 33 (t 32) (t 31)]
def r_J_6:List CI:=[mv 34 (t 32),ia 35 3 30 (t 32),ln 36 3 35,oo 4 (.alloc [(iI 0),(iI 0),(iI 0)]),mv 3 (t 34),st 3 4 (t 36)]
def r_J_7:List CI:=[fa 37 0 4,l 38 37,bi .lss 39 (t 38) (i 0),mv 40 (t 39),gu 40 false (fa 41 0 4),gu 40 false (l 42 41),gu 40 false (fa 43 0 1),gu 40 false (l 44 43),gu 40 false (bi .geq 45 (t 42) (t 44)),pk 46 (t 40) tt (t 45),mv 47 (t 46),gu 47 false (fa 48 2 4),gu 47 false (l 49 48),gu 47 false (bi .lss 50 (t 49) (i 0)),pk 51 (t 47) tt (t 50),mv 52 (t 51),gu 52 false (fa 53 2 4),gu 52 false (l 54 53),gu 52 false (fa 55 0 1),gu 52 false (l 56 55),gu 52 false (bi .geq 57 (t 54) (t 56)),pk 58 (t 52) tt (t 57),mv 59 (t 58),gu 59 false (fa 60 1 4),gu 59 false (l 61 60),gu 59 false (bi .lss 62 (t 61) (i 0)),pk 63 (t 59) tt (t 62),mv 64 (t 63),gu 64 false (fa 65 1 4),gu 64 false (l 66 65),gu 64 false (fa 67 1 1),gu 64 false (l 68 67),gu 64 false (bi .geq 69 (t 66) (t 68)),pk 70 (t 64) tt (t 69),mv 71 (t 70),gu 71 false (mv 72 (t 3)),gu 71 false (bi .gtr 73 (t 72) (i 0)),gu 71 false (mv 74 (t 73)),gu 74 true (fa 75 2 1),gu 74 true (l 76 75),gu 74 true (mv 77 (t 3)),gu 74 true (bi .sub 78 (t 77) (i 1)),gu 74 true (ia 79 3 76 (t 78)),gu 74 true (ln 80 3 79),gu 74 true (ln 81 3 4),gu 74 true (ca 82 n_Y [(t 80),(t 81)]),lo 1 (gu 74 true (bi .geq 83 (t 82) (i 0))),lo 1 (gu 71 false (pk 84 (t 74) (t 83) ff)),lo 1 (pk 85 (t 71) tt (t 84))]
def r_J_8:List CI:=[mv 2 ff]
def r_J_9:List CI:=[bi .add 86 (t 32) (i 1),mv 32 (t 86)]
def c_J_10:CC:=(.seq (.ops r_J_5) (bs [1,30,31,32,33]) (.seq (.cond (t 33) .skip (.exit 0)) (bs [1,30,31,32]) (.seq (.block 2 (.seq (.ops r_J_6) (bs [1,3,4,30,31,32]) (.seq (.draw r_J_7) (bs [1,30,31,32,85]) (.cond (t 85) (.seq (.ops r_J_8) (bs [2]) .ret) .skip)))) (bs [1,30,31,32]) (.ops r_J_9))))
def r_J_11:List CI:=[mv 2 tt]
def c_J:CC:=(.seq (.ops r_J_1) (bs [1]) (.seq (.seq (.ops r_J_2) (bs [1,28]) (.cond (t 28) (.seq (.ops r_J_3) (bs [2]) .ret) .skip)) (bs [1]) (.seq (.seq (.ops r_J_4) (bs [1,30,31,32]) (.block 0 (.loop (bs [1,30,31,32]) c_J_10))) [] (.seq (.ops r_J_11) (bs [2]) .ret))))
def f_J:zq:=⟨87,[.tmp (bits 2)],c_J,none,none⟩
def r_a_1:List CI:=[bx 3 (t 0),bx 4 (t 1),bx 5 (t 2),mv 6 (.c (.slice none 0 0)),mv 7 (i 0)]
def r_a_2:List CI:=[oo 21 (.buildSlice 1 1 [(iI 0)] [(0,(i (-1)))]),fa 22 0 3,fa 23 0 22,l 24 23,ca 25 n_m [(t 21),(t 24)],oo 8 (.alloc [(.slice none 0 0)]),st 1 8 (t 25)]
def r_a_3:List CI:=[fa 26 0 3,fa 27 0 26,l 28 27,oo 29 (.makeSlice 2 16 [(iI 0),(iI 0)] (t 28) (t 28)),oo 9 (.alloc [(.slice none 0 0)]),st 1 9 (t 29)]
def r_a_4:List CI:=[oo 10 (.alloc [(.slice none 0 0)]),oo 11 (.alloc [(.slice none 0 0)])]
def r_a_5:List CI:=[fa 30 0 3,fa 31 0 30,l 32 31,oo 33 (.makeSlice 1 8 [(iI 0)] (t 32) (t 32)),oo 12 (.alloc [(.slice none 0 0)]),st 1 12 (t 33)]
def r_a_6:List CI:=[oo 13 (.alloc [(iI 0)]),oo 14 (.alloc [(iI 0)]),st 1 13 (i 0),st 1 14 (i 0)]
def r_a_7:List CI:=[oo 15 (.alloc [(iI 0)]),oo 16 (.alloc [(iI 0)])]
def r_a_8:List CI:=[ln 34 1 4,ca 35 n_I [(t 34)]]
def r_a_9:List CI:=[mv 17 (t 36)]
def zjc:List CI:=[l 37 9,mv 38 (t 17),ia 39 2 37 (t 38),fa 40 0 39,l 41 40,bi .gtr 42 (t 41) (i 0)]
def zjb:List CI:=[mv 43 (t 17),st 1 15 (t 43)]
def zlE:List CI:=[l 44 13,bi .add 45 (t 44) (i 1),st 1 13 (t 45)]
def zlD:List CI:=[l 46 9,l 47 15,l 48 13,l 49 13,oo 50 (.build [(iI 0),(iI 0)] [(0,1,(t 48)),(1,1,(t 49))]),ia 51 2 46 (t 47),st 2 51 (t 50)]
def zlC:List CI:=[l 52 10,l 53 15,oo 54 (.buildSlice 1 1 [(iI 0)] [(0,(t 53))]),ap 55 1 8 (t 52) (t 54),st 1 10 (t 55)]
def zlB:List CI:=[l 56 11,l 57 15,oo 58 (.buildSlice 1 1 [(iI 0)] [(0,(t 57))]),ap 59 1 8 (t 56) (t 58),st 1 11 (t 59)]
def zlA:List CI:=[l 60 12,l 61 15,ia 62 1 60 (t 61),l 63 62,fa 64 0 3,fa 65 2 64,l 66 65,le 67 (t 66),bi .lss 68 (t 63) (t 67)]
def zlz:List CI:=[fa 75 0 3,fa 76 2 75,l 77 76,l 78 12,l 79 15,ia 80 1 78 (t 79),l 81 80,ia 82 3 77 (t 81),ln 83 3 82,oo 18 (.alloc [(iI 0),(iI 0),(iI 0)]),st 3 18 (t 83)]
def zly:List CI:=[fa 84 0 18,l 85 84,l 86 15,bi .neq 87 (t 85) (t 86),mv 88 (t 87),gu 88 false (fa 89 1 18),gu 88 false (l 90 89),gu 88 false (l 91 5),gu 88 false (bi .eql 92 (t 90) (t 91)),pk 93 (t 88) tt (t 92),mv 94 (t 93),gu 94 false (ln 95 1 4),gu 94 false (fa 96 2 18),gu 94 false (l 97 96),gu 94 false (ca 98 n_N [(t 95),(t 97)]),gu 94 false (no 99 98),pk 100 (t 94) tt (t 99)]
def zlx:List CI:=[l 101 9,fa 102 2 18,l 103 102,ia 104 2 101 (t 103),fa 105 0 104,l 106 105,bi .eql 107 (t 106) (i 0)]
def zlw:List CI:=[fa 108 2 18,l 109 108,st 1 15 (t 109)]
def zlv:List CI:=[l 110 8,fa 111 2 18,l 112 111,ia 113 1 110 (t 112),l 114 113,bi .lss 115 (t 114) (i 0)]
def zlu:List CI:=[l 116 9,l 117 15,l 118 9,l 119 15,ia 120 2 118 (t 119),fa 121 1 120,l 122 121,l 123 9,fa 124 2 18,l 125 124,ia 126 2 123 (t 125),fa 127 1 126,l 128 127,oo 129 (.blt .min [(t 122),(t 128)]),ia 130 2 116 (t 117),fa 131 1 130,st 1 131 (t 129)]
def zlt:List CI:=[l 69 12,l 70 15,ia 71 1 69 (t 70),l 72 71,bi .add 73 (t 72) (i 1),ia 74 1 69 (t 70),st 1 74 (t 73)]
def c_a_24:CC:=(.seq (.seq (.draw zlA) (bs [3,4,5,8,9,10,11,12,13,14,15,16,68]) (.cond (t 68) .skip (.exit 4))) (bs [3,4,5,8,9,10,11,12,13,14,15,16]) (.seq (.block 6 (.seq (.draw zlz) (bs [3,4,5,8,9,10,11,12,13,14,15,16,18]) (.seq (.seq (.ops zly) (bs [3,4,5,8,9,10,11,12,13,14,15,16,18,100]) (.cond (t 100) (.exit 6) .skip)) (bs [3,4,5,8,9,10,11,12,13,14,15,16,18]) (.seq (.seq (.ops zlx) (bs [3,4,5,8,9,10,11,12,13,14,15,16,18,107]) (.cond (t 107) (.seq (.ops zlw) (bs [3,4,5,8,9,10,11,12,13,14,15,16]) (.exit 1)) .skip)) (bs [3,4,5,8,9,10,11,12,13,14,15,16,18]) (.seq (.ops zlv) (bs [3,4,5,8,9,10,11,12,13,14,15,16,18,115]) (.cond (t 115) (.draw zlu) .skip)))))) (bs [3,4,5,8,9,10,11,12,13,14,15,16]) (.ops zlt)))
def zls:List CI:=[l 132 10,l 133 10,le 134 (t 133),bi .sub 135 (t 134) (i 1),oo 136 (.slice 1 (t 132) none (some (t 135))),st 1 10 (t 136)]
def zlr:List CI:=[l 137 9,l 138 15,ia 139 2 137 (t 138),fa 140 1 139,l 141 140,l 142 9,l 143 15,ia 144 2 142 (t 143),fa 145 0 144,l 146 145,bi .eql 147 (t 141) (t 146)]
def zlq:List CI:=[l 148 11,l 149 15,ca 150 n_g [(t 148),(t 149)],st 1 16 (t 150)]
def zlp:List CI:=[l 151 11,l 152 16,oo 153 (.slice 1 (t 151) (some (t 152)) none),le 154 (t 153),mv 155 (i 0)]
def zlo:List CI:=[bi .lss 156 (t 155) (t 154)]
def zln:List CI:=[ia 157 1 153 (t 155),l 158 157,mv 20 (t 158)]
def zlm:List CI:=[l 159 8,mv 160 (t 20),l 161 14,ia 162 1 159 (t 160),st 1 162 (t 161)]
def zll:List CI:=[bi .add 163 (t 155) (i 1),mv 155 (t 163)]
def c_a_33:CC:=(.seq (.ops zlo) (bs [3,4,5,8,9,10,11,12,13,14,15,16,153,154,155,156]) (.seq (.cond (t 156) .skip (.exit 8)) (bs [3,4,5,8,9,10,11,12,13,14,15,16,153,154,155]) (.seq (.block 10 (.seq (.ops zln) (bs [3,4,5,8,9,10,11,12,13,14,15,16,20,153,154,155]) (.ops zlm))) (bs [3,4,5,8,9,10,11,12,13,14,15,16,153,154,155]) (.ops zll))))
def zlk:List CI:=[l 164 11,l 165 16,oo 166 (.slice 1 (t 164) none (some (t 165))),st 1 11 (t 166)]
def zlj:List CI:=[l 167 14,bi .add 168 (t 167) (i 1),st 1 14 (t 168)]
def zli:List CI:=[l 169 10,le 170 (t 169),bi .gtr 171 (t 170) (i 0)]
def zlh:List CI:=[l 172 10,l 173 10,le 174 (t 173),bi .sub 175 (t 174) (i 1),ia 176 1 172 (t 175),l 177 176,st 1 15 (t 177)]
def zja:List CI:=[l 44 13,bi .add 45 (t 44) (i 1),st 1 13 (t 45)]
def zi9:List CI:=[l 46 9,l 47 15,l 48 13,l 49 13,oo 50 (.build [(iI 0),(iI 0)] [(0,1,(t 48)),(1,1,(t 49))]),ia 51 2 46 (t 47),st 2 51 (t 50)]
def zi8:List CI:=[l 52 10,l 53 15,oo 54 (.buildSlice 1 1 [(iI 0)] [(0,(t 53))]),ap 55 1 8 (t 52) (t 54),st 1 10 (t 55)]
def zi7:List CI:=[l 56 11,l 57 15,oo 58 (.buildSlice 1 1 [(iI 0)] [(0,(t 57))]),ap 59 1 8 (t 56) (t 58),st 1 11 (t 59)]
def zlg:List CI:=[l 60 12,l 61 15,ia 62 1 60 (t 61),l 63 62,fa 64 0 3,fa 65 2 64,l 66 65,le 67 (t 66),bi .lss 68 (t 63) (t 67)]
def zlf:List CI:=[fa 75 0 3,fa 76 2 75,l 77 76,l 78 12,l 79 15,ia 80 1 78 (t 79),l 81 80,ia 82 3 77 (t 81),ln 83 3 82,oo 18 (.alloc [(iI 0),(iI 0),(iI 0)]),st 3 18 (t 83)]
def zle:List CI:=[fa 84 0 18,l 85 84,l 86 15,bi .neq 87 (t 85) (t 86),mv 88 (t 87),gu 88 false (fa 89 1 18),gu 88 false (l 90 89),gu 88 false (l 91 5),gu 88 false (bi .eql 92 (t 90) (t 91)),pk 93 (t 88) tt (t 92),mv 94 (t 93),gu 94 false (ln 95 1 4),gu 94 false (fa 96 2 18),gu 94 false (l 97 96),gu 94 false (ca 98 n_N [(t 95),(t 97)]),gu 94 false (no 99 98),pk 100 (t 94) tt (t 99)]
def zld:List CI:=[l 101 9,fa 102 2 18,l 103 102,ia 104 2 101 (t 103),fa 105 0 104,l 106 105,bi .eql 107 (t 106) (i 0)]
def zlc:List CI:=[fa 108 2 18,l 109 108,st 1 15 (t 109)]
def zlb:List CI:=[l 110 8,fa 111 2 18,l 112 111,ia 113 1 110 (t 112),l 114 113,bi .lss 115 (t 114) (i 0)]
def zla:List CI:=[l 116 9,l 117 15,l 118 9,l 119 15,ia 120 2 118 (t 119),fa 121 1 120,l 122 121,l 123 9,fa 124 2 18,l 125 124,ia 126 2 123 (t 125),fa 127 1 126,l 128 127,oo 129 (.blt .min [(t 122),(t 128)]),ia 130 2 116 (t 117),fa 131 1 130,st 1 131 (t 129)]
def zk9:List CI:=[l 69 12,l 70 15,ia 71 1 69 (t 70),l 72 71,bi .add 73 (t 72) (i 1),ia 74 1 69 (t 70),st 1 74 (t 73)]
def c_a_50:CC:=(.seq (.seq (.draw zlg) (bs [3,4,5,8,9,10,11,12,13,14,15,16,68]) (.cond (t 68) .skip (.exit 4))) (bs [3,4,5,8,9,10,11,12,13,14,15,16]) (.seq (.block 6 (.seq (.draw zlf) (bs [3,4,5,8,9,10,11,12,13,14,15,16,18]) (.seq (.seq (.ops zle) (bs [3,4,5,8,9,10,11,12,13,14,15,16,18,100]) (.cond (t 100) (.exit 6) .skip)) (bs [3,4,5,8,9,10,11,12,13,14,15,16,18]) (.seq (.seq (.ops zld) (bs [3,4,5,8,9,10,11,12,13,14,15,16,18,107]) (.cond (t 107) (.seq (.ops zlc) (bs [3,4,5,8,9,10,11,12,13,14,15,16]) (.exit 1)) .skip)) (bs [3,4,5,8,9,10,11,12,13,14,15,16,18]) (.seq (.ops zlb) (bs [3,4,5,8,9,10,11,12,13,14,15,16,18,115]) (.cond (t 115) (.draw zla) .skip)))))) (bs [3,4,5,8,9,10,11,12,13,14,15,16]) (.ops zk9)))
def zk8:List CI:=[l 132 10,l 133 10,le 134 (t 133),bi .sub 135 (t 134) (i 1),oo 136 (.slice 1 (t 132) none (some (t 135))),st 1 10 (t 136)]
def zk7:List CI:=[l 137 9,l 138 15,ia 139 2 137 (t 138),fa 140 1 139,l 141 140,l 142 9,l 143 15,ia 144 2 142 (t 143),fa 145 0 144,l 146 145,bi .eql 147 (t 141) (t 146)]
def zk6:List CI:=[l 148 11,l 149 15,ca 150 n_g [(t 148),(t 149)],st 1 16 (t 150)]
def zk5:List CI:=[l 151 11,l 152 16,oo 153 (.slice 1 (t 151) (some (t 152)) none),le 154 (t 153),mv 155 (i 0)]
def zk4:List CI:=[bi .lss 156 (t 155) (t 154)]
def zk3:List CI:=[ia 157 1 153 (t 155),l 158 157,mv 20 (t 158)]
def zk2:List CI:=[l 159 8,mv 160 (t 20),l 161 14,ia 162 1 159 (t 160),st 1 162 (t 161)]
def zk1:List CI:=[bi .add 163 (t 155) (i 1),mv 155 (t 163)]
def c_a_59:CC:=(.seq (.ops zk4) (bs [3,4,5,8,9,10,11,12,13,14,15,16,153,154,155,156]) (.seq (.cond (t 156) .skip (.exit 8)) (bs [3,4,5,8,9,10,11,12,13,14,15,16,153,154,155]) (.seq (.block 10 (.seq (.ops zk3) (bs [3,4,5,8,9,10,11,12,13,14,15,16,20,153,154,155]) (.ops zk2))) (bs [3,4,5,8,9,10,11,12,13,14,15,16,153,154,155]) (.ops zk1))))
def zk0:List CI:=[l 164 11,l 165 16,oo 166 (.slice 1 (t 164) none (some (t 165))),st 1 11 (t 166)]
def zkZ:List CI:=[l 167 14,bi .add 168 (t 167) (i 1),st 1 14 (t 168)]
def zkY:List CI:=[l 169 10,le 170 (t 169),bi .gtr 171 (t 170) (i 0)]
def zkX:List CI:=[l 172 10,l 173 10,le 174 (t 173),bi .sub 175 (t 174) (i 1),ia 176 1 172 (t 175),l 177 176,st 1 15 (t 177)]
def zkW:List CI:=[l 60 12,l 61 15,ia 62 1 60 (t 61),l 63 62,fa 64 0 3,fa 65 2 64,l 66 65,le 67 (t 66),bi .lss 68 (t 63) (t 67)]
def zkV:List CI:=[fa 75 0 3,fa 76 2 75,l 77 76,l 78 12,l 79 15,ia 80 1 78 (t 79),l 81 80,ia 82 3 77 (t 81),ln 83 3 82,oo 18 (.alloc [(iI 0),(iI 0),(iI 0)]),st 3 18 (t 83)]
def zkU:List CI:=[fa 84 0 18,l 85 84,l 86 15,bi .neq 87 (t 85) (t 86),mv 88 (t 87),gu 88 false (fa 89 1 18),gu 88 false (l 90 89),gu 88 false (l 91 5),gu 88 false (bi .eql 92 (t 90) (t 91)),pk 93 (t 88) tt (t 92),mv 94 (t 93),gu 94 false (ln 95 1 4),gu 94 false (fa 96 2 18),gu 94 false (l 97 96),gu 94 false (ca 98 n_N [(t 95),(t 97)]),gu 94 false (no 99 98),pk 100 (t 94) tt (t 99)]
def zkT:List CI:=[l 101 9,fa 102 2 18,l 103 102,ia 104 2 101 (t 103),fa 105 0 104,l 106 105,bi .eql 107 (t 106) (i 0)]
def zkS:List CI:=[fa 108 2 18,l 109 108,st 1 15 (t 109)]
def zkR:List CI:=[l 110 8,fa 111 2 18,l 112 111,ia 113 1 110 (t 112),l 114 113,bi .lss 115 (t 114) (i 0)]
def zkQ:List CI:=[l 116 9,l 117 15,l 118 9,l 119 15,ia 120 2 118 (t 119),fa 121 1 120,l 122 121,l 123 9,fa 124 2 18,l 125 124,ia 126 2 123 (t 125),fa 127 1 126,l 128 127,oo 129 (.blt .min [(t 122),(t 128)]),ia 130 2 116 (t 117),fa 131 1 130,st 1 131 (t 129)]
def zkP:List CI:=[l 69 12,l 70 15,ia 71 1 69 (t 70),l 72 71,bi .add 73 (t 72) (i 1),ia 74 1 69 (t 70),st 1 74 (t 73)]
def zgW:CC:=(.seq (.seq (.draw zkW) (bs [3,4,5,8,9,10,11,12,13,14,15,16,68]) (.cond (t 68) .skip (.exit 4))) (bs [3,4,5,8,9,10,11,12,13,14,15,16]) (.seq (.block 6 (.seq (.draw zkV) (bs [3,4,5,8,9,10,11,12,13,14,15,16,18]) (.seq (.seq (.ops zkU) (bs [3,4,5,8,9,10,11,12,13,14,15,16,18,100]) (.cond (t 100) (.exit 6) .skip)) (bs [3,4,5,8,9,10,11,12,13,14,15,16,18]) (.seq (.seq (.ops zkT) (bs [3,4,5,8,9,10,11,12,13,14,15,16,18,107]) (.cond (t 107) (.seq (.ops zkS) (bs [3,4,5,8,9,10,11,12,13,14,15,16]) (.exit 1)) .skip)) (bs [3,4,5,8,9,10,11,12,13,14,15,16,18]) (.seq (.ops zkR) (bs [3,4,5,8,9,10,11,12,13,14,15,16,18,115]) (.cond (t 115) (.draw zkQ) .skip)))))) (bs [3,4,5,8,9,10,11,12,13,14,15,16]) (.ops zkP)))
def zi6:List CI:=[l 132 10,l 133 10,le 134 (t 133),bi .sub 135 (t 134) (i 1),oo 136 (.slice 1 (t 132) none (some (t 135))),st 1 10 (t 136)]
def zi5:List CI:=[l 137 9,l 138 15,ia 139 2 137 (t 138),fa 140 1 139,l 141 140,l 142 9,l 143 15,ia 144 2 142 (t 143),fa 145 0 144,l 146 145,bi .eql 147 (t 141) (t 146)]
def zi4:List CI:=[l 148 11,l 149 15,ca 150 n_g [(t 148),(t 149)],st 1 16 (t 150)]
def zi3:List CI:=[l 151 11,l 152 16,oo 153 (.slice 1 (t 151) (some (t 152)) none),le 154 (t 153),mv 155 (i 0)]
def zkO:List CI:=[bi .lss 156 (t 155) (t 154)]
def zkN:List CI:=[ia 157 1 153 (t 155),l 158 157,mv 20 (t 158)]
def zkM:List CI:=[l 159 8,mv 160 (t 20),l 161 14,ia 162 1 159 (t 160),st 1 162 (t 161)]
def zkL:List CI:=[bi .add 163 (t 155) (i 1),mv 155 (t 163)]
def c_a_81:CC:=(.seq (.ops zkO) (bs [3,4,5,8,9,10,11,12,13,14,15,16,153,154,155,156]) (.seq (.cond (t 156) .skip (.exit 8)) (bs [3,4,5,8,9,10,11,12,13,14,15,16,153,154,155]) (.seq (.block 10 (.seq (.ops zkN) (bs [3,4,5,8,9,10,11,12,13,14,15,16,20,153,154,155]) (.ops zkM))) (bs [3,4,5,8,9,10,11,12,13,14,15,16,153,154,155]) (.ops zkL))))
def zi2:List CI:=[l 164 11,l 165 16,oo 166 (.slice 1 (t 164) none (some (t 165))),st 1 11 (t 166)]
def zi1:List CI:=[l 167 14,bi .add 168 (t 167) (i 1),st 1 14 (t 168)]
def zi0:List CI:=[l 169 10,le 170 (t 169),bi .gtr 171 (t 170) (i 0)]
def ziZ:List CI:=[l 172 10,l 173 10,le 174 (t 173),bi .sub 175 (t 174) (i 1),ia 176 1 172 (t 175),l 177 176,st 1 15 (t 177)]
def c_a_86:CC:=(.seq (.seq (.ops zjc) (bs [3,4,5,8,9,10,11,12,13,14,15,16,17,42]) (.cond (t 42) (.exit 2) .skip)) (bs [3,4,5,8,9,10,11,12,13,14,15,16,17]) (.seq (.ops zjb) (bs [3,4,5,8,9,10,11,12,13,14,15,16]) (.seq .skip (bs [3,4,5,8,9,10,11,12,13,14,15,16]) (.seq (.ops zlE) (bs [3,4,5,8,9,10,11,12,13,14,15,16]) (.seq (.ops zlD) (bs [3,4,5,8,9,10,11,12,13,14,15,16]) (.seq (.ops zlC) (bs [3,4,5,8,9,10,11,12,13,14,15,16]) (.seq (.ops zlB) (bs [3,4,5,8,9,10,11,12,13,14,15,16]) (.seq .skip (bs [3,4,5,8,9,10,11,12,13,14,15,16]) (.seq (.block 4 (.loop (bs [3,4,5,8,9,10,11,12,13,14,15,16]) c_a_24)) (bs [3,4,5,8,9,10,11,12,13,14,15,16]) (.seq (.ops zls) (bs [3,4,5,8,9,10,11,12,13,14,15,16]) (.seq (.seq (.draw zlr) (bs [3,4,5,8,9,10,11,12,13,14,15,16,147]) (.cond (t 147) (.seq (.ops zlq) (bs [3,4,5,8,9,10,11,12,13,14,15,16]) (.seq (.seq (.ops zlp) (bs [3,4,5,8,9,10,11,12,13,14,15,16,153,154,155]) (.block 8 (.loop (bs [3,4,5,8,9,10,11,12,13,14,15,16,153,154,155]) c_a_33))) (bs [3,4,5,8,9,10,11,12,13,14,15,16]) (.seq (.ops zlk) (bs [3,4,5,8,9,10,11,12,13,14,15,16]) (.ops zlj)))) .skip)) (bs [3,4,5,8,9,10,11,12,13,14,15,16]) (.seq (.ops zli) (bs [3,4,5,8,9,10,11,12,13,14,15,16,171]) (.cond (t 171) (.seq (.ops zlh) (bs [3,4,5,8,9,10,11,12,13,14,15,16]) (.exit 3)) .skip)))))))))))))
def zD:CC:=(.seq .skip (bs [3,4,5,8,9,10,11,12,13,14,15,16]) (.seq (.ops zja) (bs [3,4,5,8,9,10,11,12,13,14,15,16]) (.seq (.ops zi9) (bs [3,4,5,8,9,10,11,12,13,14,15,16]) (.seq (.ops zi8) (bs [3,4,5,8,9,10,11,12,13,14,15,16]) (.seq (.ops zi7) (bs [3,4,5,8,9,10,11,12,13,14,15,16]) (.seq .skip (bs [3,4,5,8,9,10,11,12,13,14,15,16]) (.seq (.block 4 (.loop (bs [3,4,5,8,9,10,11,12,13,14,15,16]) c_a_50)) (bs [3,4,5,8,9,10,11,12,13,14,15,16]) (.seq (.ops zk8) (bs [3,4,5,8,9,10,11,12,13,14,15,16]) (.seq (.seq (.draw zk7) (bs [3,4,5,8,9,10,11,12,13,14,15,16,147]) (.cond (t 147) (.seq (.ops zk6) (bs [3,4,5,8,9,10,11,12,13,14,15,16]) (.seq (.seq (.ops zk5) (bs [3,4,5,8,9,10,11,12,13,14,15,16,153,154,155]) (.block 8 (.loop (bs [3,4,5,8,9,10,11,12,13,14,15,16,153,154,155]) c_a_59))) (bs [3,4,5,8,9,10,11,12,13,14,15,16]) (.seq (.ops zk0) (bs [3,4,5,8,9,10,11,12,13,14,15,16]) (.ops zkZ)))) .skip)) (bs [3,4,5,8,9,10,11,12,13,14,15,16]) (.seq (.ops zkY) (bs [3,4,5,8,9,10,11,12,13,14,15,16,171]) (.cond (t 171) (.seq (.ops zkX) (bs [3,4,5,8,9,10,11,12,13,14,15,16]) (.exit 3)) .skip)))))))))))
def zdQ:CC:=(.seq .skip (bs [3,4,5,8,9,10,11,12,13,14,15,16]) (.seq (.block 4 (.loop (bs [3,4,5,8,9,10,11,12,13,14,15,16]) zgW)) (bs [3,4,5,8,9,10,11,12,13,14,15,16]) (.seq (.ops zi6) (bs [3,4,5,8,9,10,11,12,13,14,15,16]) (.seq (.seq (.draw zi5) (bs [3,4,5,8,9,10,11,12,13,14,15,16,147]) (.cond (t 147) (.seq (.ops zi4) (bs [3,4,5,8,9,10,11,12,13,14,15,16]) (.seq (.seq (.ops zi3) (bs [3,4,5,8,9,10,11,12,13,14,15,16,153,154,155]) (.block 8 (.loop (bs [3,4,5,8,9,10,11,12,13,14,15,16,153,154,155]) c_a_81))) (bs [3,4,5,8,9,10,11,12,13,14,15,16]) (.seq (.ops zi2) (bs [3,4,5,8,9,10,11,12,13,14,15,16]) (.ops zi1)))) .skip)) (bs [3,4,5,8,9,10,11,12,13,14,15,16]) (.seq (.ops zi0) (bs [3,4,5,8,9,10,11,12,13,14,15,16,171]) (.cond (t 171) (.seq (.ops ziZ) (bs [3,4,5,8,9,10,11,12,13,14,15,16]) (.exit 3)) .skip))))))
def zhX:CC:=(.ops r_a_9)
def zQ:CC:=(.block 2 (.scope c_a_86 0 zD 1 zdQ))
def zkK:List CI:=[l 178 8,l 179 14,mv 6 (t 178),mv 7 (t 179)]
def c_a:CC:=(.seq (.ops r_a_1) (bs [3,4,5,6,7]) (.seq (.ops r_a_2) (bs [3,4,5,6,7,8]) (.seq (.ops r_a_3) (bs [3,4,5,6,7,8,9]) (.seq (.ops r_a_4) (bs [3,4,5,6,7,8,9,10,11]) (.seq (.ops r_a_5) (bs [3,4,5,6,7,8,9,10,11,12]) (.seq (.ops r_a_6) (bs [3,4,5,6,7,8,9,10,11,12,13,14]) (.seq (.ops r_a_7) (bs [3,4,5,6,7,8,9,10,11,12,13,14,15,16]) (.seq (.seq (.ops r_a_8) (bs [3,4,5,6,7,8,9,10,11,12,13,14,15,16,35]) (.block 0 (.rangeFunc 0 (bs [3,4,5,8,9,10,11,12,13,14,15,16]) (t 35) (bs [36]) zhX zQ))) (bs [8,14]) (.seq (.draw zkK) (bs [6,7]) .ret)))))))))
def f_a:zq:=⟨180,[.tmp (bits 6),.tmp (bits 7)],c_a,none,none⟩
def r_d_1:List CI:=[mv 4 (i 0)]
def r_d_2:List CI:=[mv 6 (t 0),le 7 (t 6),mv 8 (i 0)]
def r_d_3:List CI:=[bi .lss 9 (t 8) (t 7)]
def r_d_4:List CI:=[mv 10 (t 8),mv 5 (t 10)]
def r_d_5:List CI:=[mv 11 (t 1),mv 12 (t 0),mv 13 (t 5),ia 14 3 12 (t 13),ln 15 3 14,oo 16 (.call (t 11) [(t 15)])]
def r_d_6:List CI:=[mv 17 (t 5),mv 4 (t 17)]
def r_d_7:List CI:=[bi .add 18 (t 8) (i 1),mv 8 (t 18)]
def c_d_8:CC:=(.seq (.ops r_d_3) (bs [0,1,7,8,9]) (.seq (.cond (t 9) .skip (.exit 0)) (bs [0,1,7,8]) (.seq (.block 2 (.seq (.ops r_d_4) (bs [0,1,5,7,8]) (.seq (.ops r_d_5) (bs [0,1,5,7,8,16]) (.cond (t 16) (.seq (.ops r_d_6) (bs [4]) .ret) .skip)))) (bs [0,1,7,8]) (.ops r_d_7))))
def r_d_9:List CI:=[mv 4 (i (-1))]
def c_d:CC:=(.seq (.ops r_d_1) (bs [0,1]) (.seq (.seq (.ops r_d_2) (bs [0,1,7,8]) (.block 0 (.loop (bs [0,1,7,8]) c_d_8))) [] (.seq (.ops r_d_9) (bs [4]) .ret)))
def f_d:zq:=⟨19,[.tmp (bits 4)],c_d,none,none⟩
def r_g_1:List CI:=[mv 4 (i 0)]
def r_g_2:List CI:=[mv 6 (t 0),le 7 (t 6),mv 8 (i 0)]
def r_g_3:List CI:=[bi .lss 9 (t 8) (t 7)]
def r_g_4:List CI:=[mv 10 (t 8),mv 5 (t 10)]
def r_g_5:List CI:=[mv 11 (t 1),mv 12 (t 0),mv 13 (t 5),ia 14 1 12 (t 13),l 15 14,bi .eql 16 (t 11) (t 15)]
def r_g_6:List CI:=[mv 17 (t 5),mv 4 (t 17)]
def r_g_7:List CI:=[bi .add 18 (t 8) (i 1),mv 8 (t 18)]
def c_g_8:CC:=(.seq (.ops r_g_3) (bs [0,1,7,8,9]) (.seq (.cond (t 9) .skip (.exit 0)) (bs [0,1,7,8]) (.seq (.block 2 (.seq (.ops r_g_4) (bs [0,1,5,7,8]) (.seq (.ops r_g_5) (bs [0,1,5,7,8,16]) (.cond (t 16) (.seq (.ops r_g_6) (bs [4]) .ret) .skip)))) (bs [0,1,7,8]) (.ops r_g_7))))
def r_g_9:List CI:=[mv 4 (i (-1))]
def c_g:CC:=(.seq (.ops r_g_1) (bs [0,1]) (.seq (.seq (.ops r_g_2) (bs [0,1,7,8]) (.block 0 (.loop (bs [0,1,7,8]) c_g_8))) [] (.seq (.ops r_g_9) (bs [4]) .ret)))
def f_g:zq:=⟨19,[.tmp (bits 4)],c_g,none,none⟩
def r_u_1:List CI:=[mv 6 (.c (.slice none 0 0))]
def r_u_2:List CI:=[mv 8 (t 0),mv 9 (t 1),mv 10 (t 2),mv 11 (t 0),le 12 (t 11),oo 13 (.slice3 1 (t 8) (some (t 9)) (t 10) (t 12))]
def r_u_3:List CI:=[mv 14 (t 1),mv 15 (t 2),bi .eql 16 (t 14) (t 15)]
def r_u_4:List CI:=[mv 17 (t 0),mv 6 (t 17)]
def r_u_5:List CI:=[mv 18 (t 0),le 19 (t 18),mv 7 (t 19)]
def r_u_6:List CI:=[mv 20 (t 0),mv 21 (t 1),oo 22 (.slice 1 (t 20) none (some (t 21))),mv 23 (t 0),mv 24 (t 2),oo 25 (.slice 1 (t 23) (some (t 24)) none),ap 26 1 8 (t 22) (t 25),lo 1 (mv 0 (t 26))]
def r_u_7:List CI:=[mv 27 (t 0),mv 28 (t 0),le 29 (t 28),mv 30 (t 7),oo 31 (.slice 1 (t 27) (some (t 29)) (some (t 30))),on (.blt (.clear [(iI 0)]) [(t 31)])]
def r_u_8:List CI:=[mv 32 (t 0),mv 6 (t 32)]
def c_u:CC:=(.seq (.ops r_u_1) (bs [0,1,2]) (.seq (.ops r_u_2) (bs [0,1,2]) (.seq (.seq (.ops r_u_3) (bs [0,1,2,16]) (.cond (t 16) (.seq (.ops r_u_4) (bs [6]) .ret) .skip)) (bs [0,1,2]) (.seq (.ops r_u_5) (bs [0,1,2,7]) (.seq (.draw r_u_6) (bs [0,7]) (.seq (.ops r_u_7) (bs [0]) (.seq (.ops r_u_8) (bs [6]) .ret)))))))
def f_u:zq:=⟨33,[.tmp (bits 6)],c_u,none,none⟩
def r_1_1:List CI:=[mv 4 ff]
def r_1_2:List CI:=[fa 5 2 1,l 6 5,mv 7 (t 0),ia 8 3 6 (t 7),fa 9 1 8,l 10 9,l 11 2,bi .eql 12 (t 10) (t 11),mv 4 (t 12)]
def c_1:CC:=(.seq (.ops r_1_1) (bs [0,1,2]) (.seq (.draw r_1_2) (bs [4]) .ret))
def f_1:zq:=⟨13,[.tmp (bits 4)],c_1,none,none⟩
def r_o_1:List CI:=[mv 4 (i 0)]
def r_o_2:List CI:=[mv 6 (t 0),le 7 (t 6),mv 8 (i 0)]
def r_o_3:List CI:=[bi .lss 9 (t 8) (t 7)]
def r_o_4:List CI:=[mv 10 (t 8),mv 5 (t 10)]
def r_o_5:List CI:=[mv 11 (t 1),mv 12 (t 0),mv 13 (t 5),ia 14 1 12 (t 13),l 15 14,oo 16 (.call (t 11) [(t 15)])]
def r_o_6:List CI:=[mv 17 (t 5),mv 4 (t 17)]
def r_o_7:List CI:=[bi .add 18 (t 8) (i 1),mv 8 (t 18)]
def c_o_8:CC:=(.seq (.ops r_o_3) (bs [0,1,7,8,9]) (.seq (.cond (t 9) .skip (.exit 0)) (bs [0,1,7,8]) (.seq (.block 2 (.seq (.ops r_o_4) (bs [0,1,5,7,8]) (.seq (.ops r_o_5) (bs [0,1,5,7,8,16]) (.cond (t 16) (.seq (.ops r_o_6) (bs [4]) .ret) .skip)))) (bs [0,1,7,8]) (.ops r_o_7))))
def r_o_9:List CI:=[mv 4 (i (-1))]
def c_o:CC:=(.seq (.ops r_o_1) (bs [0,1]) (.seq (.seq (.ops r_o_2) (bs [0,1,7,8]) (.block 0 (.loop (bs [0,1,7,8]) c_o_8))) [] (.seq (.ops r_o_9) (bs [4]) .ret)))
def f_o:zq:=⟨19,[.tmp (bits 4)],c_o,none,none⟩
def r_j_1:List CI:=[mv 4 (i 0)]
def r_j_2:List CI:=[mv 9 (t 0),le 10 (t 9),mv 11 (i 0)]
def r_j_3:List CI:=[bi .lss 12 (t 11) (t 10)]
def r_j_4:List CI:=[mv 13 (t 11),ia 14 1 9 (t 11),l 15 14,mv 5 (t 13),mv 6 (t 15)]
def r_j_5:List CI:=[mv 16 (t 5),mv 17 (t 1),le 18 (t 17),bi .geq 19 (t 16) (t 18)]
def r_j_6:List CI:=[mv 4 (i 1)]
def r_j_7:List CI:=[mv 20 (t 1),mv 21 (t 5),ia 22 1 20 (t 21),l 23 22,mv 7 (t 23)]
def r_j_8:List CI:=[mv 24 (t 6),mv 25 (t 7),ca 26 n_s [(t 24),(t 25)],mv 8 (t 26)]
def r_j_9:List CI:=[mv 27 (t 8),bi .neq 28 (t 27) (i 0)]
def r_j_10:List CI:=[mv 29 (t 8),mv 4 (t 29)]
def r_j_11:List CI:=[bi .add 30 (t 11) (i 1),mv 11 (t 30)]
def c_j_12:CC:=(.seq (.ops r_j_3) (bs [0,1,9,10,11,12]) (.seq (.cond (t 12) .skip (.exit 0)) (bs [0,1,9,10,11]) (.seq (.block 2 (.seq (.ops r_j_4) (bs [0,1,5,6,9,10,11]) (.seq (.seq (.ops r_j_5) (bs [0,1,5,6,9,10,11,19]) (.cond (t 19) (.seq (.ops r_j_6) (bs [4]) .ret) .skip)) (bs [0,1,5,6,9,10,11]) (.seq (.ops r_j_7) (bs [0,1,6,7,9,10,11]) (.seq (.ops r_j_8) (bs [0,1,8,9,10,11]) (.seq (.ops r_j_9) (bs [0,1,8,9,10,11,28]) (.cond (t 28) (.seq (.ops r_j_10) (bs [4]) .ret) .skip))))))) (bs [0,1,9,10,11]) (.ops r_j_11))))
def r_j_13:List CI:=[mv 31 (t 0),le 32 (t 31),mv 33 (t 1),le 34 (t 33),bi .lss 35 (t 32) (t 34)]
def r_j_14:List CI:=[mv 4 (i (-1))]
def r_j_15:List CI:=[mv 4 (i 0)]
def c_j:CC:=(.seq (.ops r_j_1) (bs [0,1]) (.seq (.seq (.ops r_j_2) (bs [0,1,9,10,11]) (.block 0 (.loop (bs [0,1,9,10,11]) c_j_12))) (bs [0,1]) (.seq (.seq (.ops r_j_13) (bs [35]) (.cond (t 35) (.seq (.ops r_j_14) (bs [4]) .ret) .skip)) [] (.seq (.ops r_j_15) (bs [4]) .ret))))
def f_j:zq:=⟨36,[.tmp (bits 4)],c_j,none,none⟩
def r_6_1:List CI:=[mv 3 ff]
def r_6_2:List CI:=[mv 4 (t 0),bi .lss 5 (t 4) (i 0),mv 6 (t 5),gu 6 false (mv 7 (t 0)),gu 6 false (fa 8 2 1),gu 6 false (l 9 8),gu 6 false (le 10 (t 9)),gu 6 false (bi .geq 11 (t 7) (t 10)),pk 12 (t 6) tt (t 11),mv 3 (t 12)]
def c_6:CC:=(.seq (.ops r_6_1) (bs [0,1]) (.seq (.ops r_6_2) (bs [3]) .ret))
def f_6:zq:=⟨13,[.tmp (bits 3)],c_6,none,none⟩
def r_R_1:List CI:=[mv 4 (t 0),mv 5 (t 1),bi .quo 6 (t 5) (i 64),nc 7 4,oo 8 (.indexArr 1 1 (t 7) (t 6)),l 9 8,mv 10 (t 1),bi .rem 11 (t 10) (i 64),bi .shl 12 (.c (.int .u64 1)) (t 11),bi .or 13 (t 9) (t 12),nc 14 4,oo 15 (.indexArr 1 1 (t 14) (t 6)),st 1 15 (t 13)]
def c_R:CC:=(.draw r_R_1)
def f_R:zq:=⟨16,[],c_R,none,none⟩
def r_O:List CI:=[bx 2 (t 0),bx 3 (t 1),mv 4 (.c .nilFunc)]
def r_G_2:List CI:=[oo 5 (.makeFunc (.func n_O) [] [(t 2),(t 3)]),mv 4 (t 5)]
def c_G:CC:=(.seq (.ops r_O) (bs [2,3]) (.seq (.ops r_G_2) (bs [4]) .ret))
def f_G:zq:=⟨6,[.tmp (bits 4)],c_G,none,none⟩
def r_3:List CI:=[bx 4 (t 0),bx 5 (t 1),bx 6 (t 2),bx 7 (t 3),mv 8 ff]
def r_D_2:List CI:=[fa 9 0 4,fa 10 2 9,l 11 10,oo 12 (.makeFunc (.func n_3) [] [(t 5),(t 7),(t 6)]),ca 13 n_r [(t 11),(t 12)],mv 8 (t 13)]
def c_D:CC:=(.seq (.ops r_3) (bs [4,5,6,7]) (.seq (.ops r_D_2) (bs [8]) .ret))
def f_D:zq:=⟨14,[.tmp (bits 8)],c_D,none,none⟩
def r_t_1:List CI:=[bx 4 (t 0),bx 5 (t 1),oo 8 (.alloc [(.int .u64 0)])]
def r_t_2:List CI:=[ln 12 1 5,oo 9 (.alloc [(.int .u64 0)]),st 1 9 (t 12)]
def r_t_3:List CI:=[fa 13 0 4,fa 14 2 13,l 15 14,le 16 (t 15),mv 17 (i 0)]
def r_t_4:List CI:=[bi .lss 18 (t 17) (t 16)]
def r_t_5:List CI:=[ia 19 3 15 (t 17),ln 20 3 19,oo 11 (.alloc [(iI 0),(iI 0),(iI 0)]),st 3 11 (t 20)]
def r_t_6:List CI:=[ln 22 1 5,fa 23 0 11,l 24 23,ca 25 n_N [(t 22),(t 24)],no 26 25,mv 21 (t 26)]
def r_t_7:List CI:=[fa 28 1 11,l 29 28,mv 30 (t 2),bi .eql 31 (t 29) (t 30),mv 32 (t 31),gu 32 true (mv 33 (t 3)),gu 32 true (no 34 33),pk 35 (t 32) (t 34) ff,mv 36 (t 35),gu 36 false (fa 37 1 11),gu 36 false (l 38 37),gu 36 false (mv 39 (t 2)),gu 36 false (bi .neq 40 (t 38) (t 39)),gu 36 false (mv 41 (t 40)),gu 41 true (ln 42 3 4),gu 41 true (ln 43 1 5),gu 41 true (fa 44 1 11),gu 41 true (l 45 44),gu 41 true (mv 46 (t 2)),gu 41 true (ca 47 n_D [(t 42),(t 43),(t 45),(t 46)]),gu 41 true (no 48 47),gu 36 false (pk 49 (t 41) (t 48) ff),pk 50 (t 36) tt (t 49),mv 27 (t 50)]
def r_t_8:List CI:=[fa 51 0 11,l 52 51,ca 53 n_V [(t 9),(t 52)]]
def r_t_9:List CI:=[bi .add 54 (t 17) (i 1),mv 17 (t 54)]
def c_t_10:CC:=(.seq (.ops r_t_4) (bs [2,3,4,5,8,9,15,16,17,18]) (.seq (.cond (t 18) .skip (.exit 0)) (bs [2,3,4,5,8,9,15,16,17]) (.seq (.block 2 (.seq (.ops r_t_5) (bs [2,3,4,5,8,9,11,15,16,17]) (.block 4 (.seq (.ops r_t_6) (bs [2,3,4,5,8,9,11,15,16,17,21]) (.cond (t 21) .skip (.seq (.ops r_t_7) (bs [2,3,4,5,8,9,11,15,16,17,27]) (.cond (t 27) (.ops r_t_8) .skip))))))) (bs [2,3,4,5,8,9,15,16,17]) (.ops r_t_9))))
def r_t_11:List CI:=[ln 55 1 9,st 1 8 (t 55)]
def c_t:CC:=(.seq (.ops r_t_1) (bs [2,3,4,5,8]) (.seq (.ops r_t_2) (bs [2,3,4,5,8,9]) (.seq (.seq (.ops r_t_3) (bs [2,3,4,5,8,9,15,16,17]) (.block 0 (.loop (bs [2,3,4,5,8,9,15,16,17]) c_t_10))) (bs [8,9]) (.seq (.ops r_t_11) (bs [8]) .ret))))
def f_t:zq:=⟨56,[.cell (some 1) (bits 8)],c_t,none,none⟩
def r_S_1:List CI:=[mv 4 (i 0)]
def r_S_2:List CI:=[bi .lss 5 (t 4) (i 60)]
def r_S_3:List CI:=[mv 6 (t 4),mv 3 (t 6)]
def r_S_4:List CI:=[ln 7 1 1,mv 8 (t 3),ca 9 n_N [(t 7),(t 8)],mv 10 (t 9),gu 10 true (mv 11 (t 0)),gu 10 true (mv 12 (t 3)),gu 10 true (oo 13 (.call (t 11) [(t 12)])),gu 10 true (no 14 13),pk 15 (t 10) (t 14) ff]
def r_S_5:List CI:=[bi .add 16 (t 4) (i 1),mv 4 (t 16)]
def c_S_6:CC:=(.seq (.ops r_S_2) (bs [0,1,4,5]) (.seq (.cond (t 5) .skip (.exit 0)) (bs [0,1,4]) (.seq (.block 2 (.seq (.ops r_S_3) (bs [0,1,3,4]) (.seq (.ops r_S_4) (bs [0,1,4,15]) (.cond (t 15) .ret .skip)))) (bs [0,1,4]) (.ops r_S_5))))
def c_S:CC:=(.seq (.ops r_S_1) (bs [0,1,4]) (.block 0 (.loop (bs [0,1,4]) c_S_6)))
def f_S:zq:=⟨17,[],c_S,none,none⟩
def r_H_1:List CI:=[ln 12 3 1,l 13 2,ln 14 1 3,l 15 4,mv 16 (t 0),ca 17 n_h [(t 12),(t 13),(t 14),(t 15),(t 16)],mv 11 (t 17),ex 18 11 0,ex 19 11 1,mv 7 (t 18),mv 8 (t 19)]
def r_H_2:List CI:=[mv 20 (t 7),le 21 (t 20),mv 22 (i 0)]
def r_H_3:List CI:=[bi .lss 23 (t 22) (t 21)]
def r_H_4:List CI:=[ia 24 1 20 (t 22),l 25 24,mv 10 (t 25)]
def r_H_5:List CI:=[l 26 5,mv 27 (t 10),oo 28 (.buildSlice 1 1 [(iI 0)] [(0,(t 27))]),ap 29 1 8 (t 26) (t 28),st 1 5 (t 29)]
def r_H_6:List CI:=[fa 30 0 1,fa 31 2 30,l 32 31,mv 33 (t 10),ia 34 3 32 (t 33),fa 35 2 34,l 36 35,st 1 2 (t 36)]
def r_H_7:List CI:=[bi .add 37 (t 22) (i 1),mv 22 (t 37)]
def c_H_8:CC:=(.seq (.ops r_H_3) (bs [1,2,5,20,21,22,23]) (.seq (.cond (t 23) .skip (.exit 0)) (bs [1,2,5,20,21,22]) (.seq (.block 2 (.seq (.ops r_H_4) (bs [1,2,5,10,20,21,22]) (.seq (.ops r_H_5) (bs [1,2,5,10,20,21,22]) (.ops r_H_6)))) (bs [1,2,5,20,21,22]) (.ops r_H_7))))
def c_H:CC:=(.seq (.ops r_H_1) (bs [1,2,5,7]) (.seq (.ops r_H_2) (bs [1,2,5,20,21,22]) (.block 0 (.loop (bs [1,2,5,20,21,22]) c_H_8))))
def f_H:zq:=⟨38,[],c_H,none,none⟩
def r_5_1:List CI:=[mv 3 ff]
def r_5_2:List CI:=[mv 4 (t 0),fa 5 0 1,l 6 5,bi .eql 7 (t 4) (t 6),mv 3 (t 7)]
def c_5:CC:=(.seq (.ops r_5_1) (bs [0,1]) (.seq (.ops r_5_2) (bs [3]) .ret))
def f_5:zq:=⟨8,[.tmp (bits 3)],c_5,none,none⟩
def r_W_1:List CI:=[mv 4 ff]
def r_W_2:List CI:=[oo 5 (.alloc [(.int .u64 0)])]
def r_W_3:List CI:=[mv 6 (t 0),ca 7 n_R [(t 5),(t 6)]]
def r_W_4:List CI:=[ln 8 3 1,ln 9 1 5,l 10 2,ca 11 n_C [(t 8),(t 9),(t 10)],mv 4 (t 11)]
def c_W:CC:=(.seq (.ops r_W_1) (bs [0,1,2]) (.seq (.ops r_W_2) (bs [0,1,2,5]) (.seq (.ops r_W_3) (bs [1,2,5]) (.seq (.ops r_W_4) (bs [4]) .ret))))
def f_W:zq:=⟨12,[.tmp (bits 4)],c_W,none,none⟩
def r_4_1:List CI:=[mv 3 ff]
def r_4_2:List CI:=[mv 4 (t 0),l 5 1,bi .eql 6 (t 4) (t 5),mv 3 (t 6)]
def c_4:CC:=(.seq (.ops r_4_1) (bs [0,1]) (.seq (.ops r_4_2) (bs [3]) .ret))
def f_4:zq:=⟨7,[.tmp (bits 3)],c_4,none,none⟩
def r_m_1:List CI:=[mv 4 (.c (.slice none 0 0))]
def r_m_2:List CI:=[mv 9 (t 1),bi .lss 10 (t 9) (i 0)]
def r_m_3:List CI:=[oo 11 (.mkI 9 (.c (.string ⟨#[99,97,110,110,111,116,32,98,101,32,110,101,103,97,116,105,118,101]⟩))),on (.panic (t 11))]
def r_m_4:List CI:=[mv 13 (t 0),le 14 (t 13),oo 15 (.conv .u64 (t 14)),mv 16 (t 1),oo 17 (.conv .u64 (t 16)),ca 18 n_K [(t 15),(t 17)],mv 12 (t 18),ex 19 12 0,ex 20 12 1,mv 5 (t 19),mv 6 (t 20)]
def r_m_5:List CI:=[mv 21 (t 5),bi .gtr 22 (t 21) (.c (.int .u64 0)),mv 23 (t 22),gu 23 false (mv 24 (t 6)),gu 23 false (bi .gtr 25 (t 24) (.c (.int .u64 9223372036854775807))),pk 26 (t 23) tt (t 25)]
def r_m_6:List CI:=[oo 27 (.mkI 9 (.c (.string ⟨#[116,104,101,32,114,101,115,117,108,116,32,111,102,32,40,108,101,110,40,120,41,32,42,32,99,111,117,110,116,41,32,111,118,101,114,102,108,111,119,115]⟩))),on (.panic (t 27))]
def r_m_7:List CI:=[mv 28 (t 6),oo 29 (.conv .i64 (t 28)),oo 30 (.makeSlice 1 8 [(iI 0)] (t 29) (t 29)),mv 7 (t 30)]
def r_m_8:List CI:=[mv 31 (t 7),mv 32 (t 0),oo 33 (.blt (.copy 1) [(t 31),(t 32)]),mv 8 (t 33)]
def r_m_9:List CI:=[mv 34 (t 8),mv 35 (t 7),le 36 (t 35),bi .lss 37 (t 34) (t 36)]
def r_m_10:List CI:=[mv 39 (t 7),mv 40 (t 8),oo 41 (.slice 1 (t 39) (some (t 40)) none),mv 42 (t 7),mv 43 (t 8),oo 44 (.slice 1 (t 42) none (some (t 43))),oo 45 (.blt (.copy 1) [(t 41),(t 44)]),mv 38 (t 8),lo 1 (bi .add 46 (t 38) (t 45)),lo 1 (mv 8 (t 46))]
def c_m_11:CC:=(.seq (.seq (.ops r_m_9) (bs [7,8,37]) (.cond (t 37) .skip (.exit 0))) (bs [7,8]) (.block 2 (.draw r_m_10)))
def r_m_12:List CI:=[mv 47 (t 7),mv 4 (t 47)]
def c_m:CC:=(.seq (.ops r_m_1) (bs [0,1]) (.seq (.seq (.ops r_m_2) (bs [0,1,10]) (.cond (t 10) (.ops r_m_3) .skip)) (bs [0,1]) (.seq (.ops r_m_4) (bs [0,5,6]) (.seq (.seq (.ops r_m_5) (bs [0,6,26]) (.cond (t 26) (.ops r_m_6) .skip)) (bs [0,6]) (.seq (.ops r_m_7) (bs [0,7]) (.seq (.ops r_m_8) (bs [7,8]) (.seq (.block 0 (.loop (bs [7,8]) c_m_11)) (bs [7]) (.seq (.ops r_m_12) (bs [4]) .ret))))))))
def f_m:zq:=⟨48,[.tmp (bits 4)],c_m,none,none⟩
def r_w_1:List CI:=[mv 4 (t 0),le 5 (t 4),bi .sub 6 (t 5) (i 1),mv 2 (i 0),mv 3 (t 6)]
def r_w_2:List CI:=[mv 7 (t 2),mv 8 (t 3),bi .lss 9 (t 7) (t 8)]
def r_w_3:List CI:=[mv 14 (t 0),mv 15 (t 2),mv 18 (t 0),mv 19 (t 3),ia 20 1 18 (t 19),l 21 20,mv 22 (t 0),mv 23 (t 2),ia 24 1 22 (t 23),l 25 24,ia 26 1 14 (t 15),st 1 26 (t 21),mv 16 (t 0),mv 17 (t 3),lo 1 (ia 27 1 16 (t 17)),lo 1 (st 1 27 (t 25))]
def r_w_4:List CI:=[mv 10 (t 2),bi .add 11 (t 10) (i 1),mv 12 (t 3),bi .sub 13 (t 12) (i 1),mv 2 (t 11),mv 3 (t 13)]
def c_w_5:CC:=(.seq (.seq (.ops r_w_2) (bs [0,2,3,9]) (.cond (t 9) .skip (.exit 0))) (bs [0,2,3]) (.seq (.block 2 (.draw r_w_3)) (bs [0,2,3]) (.ops r_w_4)))
def c_w:CC:=(.seq (.ops r_w_1) (bs [0,2,3]) (.block 0 (.loop (bs [0,2,3]) c_w_5)))
def f_w:zq:=⟨28,[],c_w,none,none⟩
def r_0_1:List CI:=[bx 3 (t 0),mv 4 ff]
def r_0_2:List CI:=[ln 5 1 1,fa 6 0 3,l 7 6,ca 8 n_N [(t 5),(t 7)],mv 9 (t 8),gu 9 true (fa 10 1 3),gu 9 true (l 11 10),gu 9 true (l 12 2),gu 9 true (bi .eql 13 (t 11) (t 12)),pk 14 (t 9) (t 13) ff,mv 4 (t 14)]
def c_0:CC:=(.seq (.ops r_0_1) (bs [1,2,3]) (.seq (.ops r_0_2) (bs [4]) .ret))
def f_0:zq:=⟨15,[.tmp (bits 4)],c_0,none,none⟩
def r_Y_1:List CI:=[bx 2 (t 0),bx 3 (t 1),mv 4 (i 0)]
def r_Y_2:List CI:=[fa 5 0 2,l 6 5,fa 7 0 3,l 8 7,bi .sub 9 (t 6) (t 8),fa 10 1 2,l 11 10,fa 12 1 3,l 13 12,bi .sub 14 (t 11) (t 13),fa 15 2 2,l 16 15,fa 17 2 3,l 18 17,bi .sub 19 (t 16) (t 18),oo 20 (.buildSlice 3 1 [(iI 0)] [(0,(t 9)),(1,(t 14)),(2,(t 19))]),ca 21 n_F [(t 20)],mv 4 (t 21)]
def c_Y:CC:=(.seq (.ops r_Y_1) (bs [2,3]) (.seq (.ops r_Y_2) (bs [4]) .ret))
def f_Y:zq:=⟨22,[.tmp (bits 4)],c_Y,none,none⟩
def r_s_1:List CI:=[mv 4 (i 0)]
def r_s_2:List CI:=[mv 7 (t 0),ca 8 n_Q [(t 7)],mv 5 (t 8)]
def r_s_3:List CI:=[mv 9 (t 1),ca 10 n_Q [(t 9)],mv 6 (t 10)]
def r_s_4:List CI:=[mv 11 (t 5)]
def r_s_5:List CI:=[mv 12 (t 6)]
def r_s_6:List CI:=[mv 4 (i 0)]
def r_s_7:List CI:=[mv 4 (i (-1))]
def r_s_8:List CI:=[mv 13 (t 6)]
def r_s_9:List CI:=[mv 4 (i 1)]
def r_s_10:List CI:=[mv 14 (t 0),mv 15 (t 1),bi .lss 16 (t 14) (t 15)]
def r_s_11:List CI:=[mv 4 (i (-1))]
def r_s_12:List CI:=[mv 17 (t 0),mv 18 (t 1),bi .gtr 19 (t 17) (t 18)]
def r_s_13:List CI:=[mv 4 (i 1)]
def r_s_14:List CI:=[mv 4 (i 0)]
def c_s:CC:=(.seq (.ops r_s_1) (bs [0,1]) (.seq (.ops r_s_2) (bs [0,1,5]) (.seq (.ops r_s_3) (bs [0,1,5,6]) (.seq (.seq (.ops r_s_4) (bs [0,1,6,11]) (.cond (t 11) (.seq (.seq (.ops r_s_5) (bs [12]) (.cond (t 12) (.seq (.ops r_s_6) (bs [4]) .ret) .skip)) [] (.seq (.ops r_s_7) (bs [4]) .ret)) .skip)) (bs [0,1,6]) (.seq (.seq (.ops r_s_8) (bs [0,1,13]) (.cond (t 13) (.seq (.ops r_s_9) (bs [4]) .ret) .skip)) (bs [0,1]) (.seq (.seq (.ops r_s_10) (bs [0,1,16]) (.cond (t 16) (.seq (.ops r_s_11) (bs [4]) .ret) .skip)) (bs [0,1]) (.seq (.seq (.ops r_s_12) (bs [19]) (.cond (t 19) (.seq (.ops r_s_13) (bs [4]) .ret) .skip)) [] (.seq (.ops r_s_14) (bs [4]) .ret))))))))
def f_s:zq:=⟨20,[.tmp (bits 4)],c_s,none,none⟩
def r_O_1:List CI:=[fa 6 0 1,fa 7 2 6,l 8 7,le 9 (t 8),mv 10 (i 0)]
def r_O_2:List CI:=[bi .lss 11 (t 10) (t 9)]
def r_O_3:List CI:=[mv 12 (t 10),ia 13 3 8 (t 10),ln 14 3 13,oo 5 (.alloc [(iI 0),(iI 0),(iI 0)]),mv 4 (t 12),st 3 5 (t 14)]
def r_O_4:List CI:=[fa 15 0 5,l 16 15,l 17 2,bi .eql 18 (t 16) (t 17),mv 19 (t 18),gu 19 true (mv 20 (t 0)),gu 19 true (mv 21 (t 4)),gu 19 true (ln 22 3 5),gu 19 true (oo 23 (.call (t 20) [(t 21),(t 22)])),gu 19 true (no 24 23),pk 25 (t 19) (t 24) ff]
def r_O_5:List CI:=[bi .add 26 (t 10) (i 1),mv 10 (t 26)]
def c_O_6:CC:=(.seq (.ops r_O_2) (bs [0,2,8,9,10,11]) (.seq (.cond (t 11) .skip (.exit 0)) (bs [0,2,8,9,10]) (.seq (.block 2 (.seq (.ops r_O_3) (bs [0,2,4,5,8,9,10]) (.seq (.ops r_O_4) (bs [0,2,8,9,10,25]) (.cond (t 25) .ret .skip)))) (bs [0,2,8,9,10]) (.ops r_O_5))))
def c_O:CC:=(.seq (.ops r_O_1) (bs [0,2,8,9,10]) (.block 0 (.loop (bs [0,2,8,9,10]) c_O_6)))
def f_O:zq:=⟨27,[],c_O,none,none⟩
def r_3_1:List CI:=[bx 4 (t 0),mv 5 ff]
def r_3_2:List CI:=[ln 6 1 1,fa 7 0 4,l 8 7,ca 9 n_N [(t 6),(t 8)],mv 10 (t 9),gu 10 true (ln 11 1 1),gu 10 true (fa 12 2 4),gu 10 true (l 13 12),gu 10 true (ca 14 n_N [(t 11),(t 13)]),pk 15 (t 10) (t 14) ff,mv 16 (t 15),gu 16 true (fa 17 1 4),gu 16 true (l 18 17),gu 16 true (l 19 2),gu 16 true (bi .neq 20 (t 18) (t 19)),pk 21 (t 16) (t 20) ff,mv 22 (t 21),gu 22 true (l 23 3),gu 22 true (bi .lss 24 (t 23) (i 0)),gu 22 true (mv 25 (t 24)),gu 25 false (fa 26 1 4),gu 25 false (l 27 26),gu 25 false (l 28 3),gu 25 false (bi .eql 29 (t 27) (t 28)),gu 22 true (pk 30 (t 25) tt (t 29)),pk 31 (t 22) (t 30) ff,mv 5 (t 31)]
def c_3:CC:=(.seq (.ops r_3_1) (bs [1,2,3,4]) (.seq (.ops r_3_2) (bs [5]) .ret))
def f_3:zq:=⟨32,[.tmp (bits 5)],c_3,none,none⟩
def r_V_1:List CI:=[mv 4 (t 0),mv 5 (t 1),bi .quo 6 (t 5) (i 64),nc 7 4,oo 8 (.indexArr 1 1 (t 7) (t 6)),l 9 8,mv 10 (t 1),bi .rem 11 (t 10) (i 64),bi .shl 12 (.c (.int .u64 1)) (t 11),bi .andNot 13 (t 9) (t 12),nc 14 4,oo 15 (.indexArr 1 1 (t 14) (t 6)),st 1 15 (t 13)]
def c_V:CC:=(.draw r_V_1)
def f_V:zq:=⟨16,[],c_V,none,none⟩
def r_K_1:List CI:=[mv 4 (.c (.int .u64 0)),mv 5 (.c (.int .u64 0))]
def r_K_2:List CI:=[mv 11 (t 0),oo 12 (.conv .u32 (t 11)),mv 13 (t 1),oo 14 (.conv .u32 (t 13)),ca 15 n_T [(t 12),(t 14)],mv 10 (t 15),ex 16 10 0,ex 17 10 1,mv 6 (t 16),mv 7 (t 17)]
def r_K_3:List CI:=[mv 18 (t 6),oo 19 (.conv .u64 (t 18)),mv 20 (t 7),oo 21 (.conv .u64 (t 20)),mv 4 (t 19),mv 5 (t 21)]
def r_K_4:List CI:=[mv 23 (t 0),mv 24 (t 1),ca 25 n_v [(t 23),(t 24)],mv 22 (t 25),ex 26 22 0,ex 27 22 1,mv 8 (t 26),mv 9 (t 27)]
def r_K_5:List CI:=[mv 28 (t 8),mv 29 (t 9),mv 4 (t 28),mv 5 (t 29)]
def c_K:CC:=(.seq (.ops r_K_1) (bs [0,1]) (.seq (.cond ff (.seq (.ops r_K_2) (bs [6,7]) (.seq (.ops r_K_3) (bs [4,5]) .ret)) .skip) (bs [0,1]) (.seq (.ops r_K_4) (bs [8,9]) (.seq (.ops r_K_5) (bs [4,5]) .ret))))
def f_K:zq:=⟨30,[.tmp (bits 4),.tmp (bits 5)],c_K,none,none⟩
def r_F_1:List CI:=[mv 2 (i 0)]
def r_F_2:List CI:=[mv 3 (i 0)]
def r_F_3:List CI:=[mv 6 (t 0),le 7 (t 6),mv 8 (i 0)]
def r_F_4:List CI:=[bi .lss 9 (t 8) (t 7)]
def r_F_5:List CI:=[ia 10 1 6 (t 8),l 11 10,mv 5 (t 11)]
def r_F_6:List CI:=[mv 12 (t 5),mv 13 (t 3),bi .neq 14 (t 12) (t 13)]
def r_F_7:List CI:=[mv 15 (t 5),mv 2 (t 15)]
def r_F_8:List CI:=[bi .add 16 (t 8) (i 1),mv 8 (t 16)]
def c_F_9:CC:=(.seq (.ops r_F_4) (bs [3,6,7,8,9]) (.seq (.cond (t 9) .skip (.exit 0)) (bs [3,6,7,8]) (.seq (.block 2 (.seq (.ops r_F_5) (bs [3,5,6,7,8]) (.seq (.ops r_F_6) (bs [3,5,6,7,8,14]) (.cond (t 14) (.seq (.ops r_F_7) (bs [2]) .ret) .skip)))) (bs [3,6,7,8]) (.ops r_F_8))))
def r_F_10:List CI:=[mv 17 (t 3),mv 2 (t 17)]
def c_F:CC:=(.seq (.ops r_F_1) (bs [0]) (.seq (.ops r_F_2) (bs [0,3]) (.seq (.seq (.ops r_F_3) (bs [3,6,7,8]) (.block 0 (.loop (bs [3,6,7,8]) c_F_9))) (bs [3]) (.seq (.ops r_F_10) (bs [2]) .ret))))
def f_F:zq:=⟨18,[.tmp (bits 2)],c_F,none,none⟩
def r_Q_1:List CI:=[mv 2 ff]
def r_Q_2:List CI:=[mv 3 (t 0),mv 4 (t 0),bi .neq 5 (t 3) (t 4),mv 2 (t 5)]
def c_Q:CC:=(.seq (.ops r_Q_1) (bs [0]) (.seq (.ops r_Q_2) (bs [2]) .ret))
def f_Q:zq:=⟨6,[.tmp (bits 2)],c_Q,none,none⟩
def r_T_1:List CI:=[mv 4 (.c (.int .u32 0)),mv 5 (.c (.int .u32 0))]
def r_T_2:List CI:=[mv 7 (t 0),oo 8 (.conv .u64 (t 7)),mv 9 (t 1),oo 10 (.conv .u64 (t 9)),bi .mul 11 (t 8) (t 10),mv 6 (t 11)]
def r_T_3:List CI:=[mv 12 (t 6),bi .shr 13 (t 12) (.c (.int .u64 32)),oo 14 (.conv .u32 (t 13)),mv 15 (t 6),oo 16 (.conv .u32 (t 15)),mv 4 (t 14),mv 5 (t 16)]
def c_T:CC:=(.seq (.ops r_T_1) (bs [0,1]) (.seq (.ops r_T_2) (bs [6]) (.seq (.ops r_T_3) (bs [4,5]) .ret)))
def f_T:zq:=⟨17,[.tmp (bits 4),.tmp (bits 5)],c_T,none,none⟩
def r_v_1:List CI:=[mv 4 (.c (.int .u64 0)),mv 5 (.c (.int .u64 0))]
def r_v_2:List CI:=[mv 14 (t 0),bi .and 15 (t 14) (.c (.int .u64 4294967295)),mv 6 (t 15)]
def r_v_3:List CI:=[mv 16 (t 0),bi .shr 17 (t 16) (.c (.int .u64 32)),mv 7 (t 17)]
def r_v_4:List CI:=[mv 18 (t 1),bi .and 19 (t 18) (.c (.int .u64 4294967295)),mv 8 (t 19)]
def r_v_5:List CI:=[mv 20 (t 1),bi .shr 21 (t 20) (.c (.int .u64 32)),mv 9 (t 21)]
def r_v_6:List CI:=[mv 22 (t 6),mv 23 (t 8),bi .mul 24 (t 22) (t 23),mv 10 (t 24)]
def r_v_7:List CI:=[mv 25 (t 7),mv 26 (t 8),bi .mul 27 (t 25) (t 26),mv 28 (t 10),bi .shr 29 (t 28) (.c (.int .u64 32)),bi .add 30 (t 27) (t 29),mv 11 (t 30)]
def r_v_8:List CI:=[mv 31 (t 11),bi .and 32 (t 31) (.c (.int .u64 4294967295)),mv 12 (t 32)]
def r_v_9:List CI:=[mv 33 (t 11),bi .shr 34 (t 33) (.c (.int .u64 32)),mv 13 (t 34)]
def r_v_10:List CI:=[mv 35 (t 12),mv 36 (t 6),mv 37 (t 9),bi .mul 38 (t 36) (t 37),bi .add 39 (t 35) (t 38),mv 12 (t 39)]
def r_v_11:List CI:=[mv 40 (t 7),mv 41 (t 9),bi .mul 42 (t 40) (t 41),mv 43 (t 13),bi .add 44 (t 42) (t 43),mv 45 (t 12),bi .shr 46 (t 45) (.c (.int .u64 32)),bi .add 47 (t 44) (t 46),mv 4 (t 47)]
def r_v_12:List CI:=[mv 48 (t 0),mv 49 (t 1),bi .mul 50 (t 48) (t 49),mv 5 (t 50)]
def c_v:CC:=(.seq (.ops r_v_1) (bs [0,1]) (.seq (.ops r_v_2) (bs [0,1,6]) (.seq (.ops r_v_3) (bs [0,1,6,7]) (.seq (.ops r_v_4) (bs [0,1,6,7,8]) (.seq (.ops r_v_5) (bs [0,1,6,7,8,9]) (.seq (.ops r_v_6) (bs [0,1,6,7,8,9,10]) (.seq (.ops r_v_7) (bs [0,1,6,7,9,11]) (.seq (.ops r_v_8) (bs [0,1,6,7,9,11,12]) (.seq (.ops r_v_9) (bs [0,1,6,7,9,12,13]) (.seq (.ops r_v_10) (bs [0,1,7,9,12,13]) (.seq (.ops r_v_11) (bs [0,1,4]) (.seq (.ops r_v_12) (bs [4,5]) .ret))))))))))))
def f_v:zq:=⟨51,[.tmp (bits 4),.tmp (bits 5)],c_v,none,none⟩
end Go.Ideal.Q
namespace Go.Ideal
noncomputable section
variable {P:Program}
def zb0 (W:World) (b:Nat):Bool:=match W.heap[b]? with
 |some (.cells _ _ _)=>true
 |_=>false
def okV (W:World):Value→Bool
 |.bool _=>true
 |.int _ _=>true
 |.string _=>true
 |.nilFunc=>true
 |.pointer none=>true
 |.map none=>true
 |.slice none 0 0=>true
 |.slice (some a) len cap=>a.spot.isNone&&(decide (len≤cap)&&(decide (cap<zp)&&zb0 W a.block))
 |.pointer (some a)=>a.spot.isNone&&zb0 W a.block
 |_=>false
def isDang:Value→Bool
 |.slice (some _) 0 0=>true
 |_=>false
def dang (W:World):Value:=.slice (some ⟨W.heap.size,0,none⟩) 0 0
def impV (W:World) (v:Value):Value:=if okV W v then v else if isDang v then dang W else poison
def impObj (W:World):Obj→Option IObj
 |.cells c _ _=>some (.cells (c.toList.map (impV W)) roE)
 |_=>none
open Classical in
def dangR (W:World):Option RB:=if h: ∃b,zb0 W b=true then some ⟨Classical.choose h,0,0,0,1,none⟩ else none
def zdL (W:World) (i:Nat):Option RB:=if i=W.heap.size then dangR W else(W.heap[i]?).bind fun o=>match o with
 |.cells c _ _=>some ⟨i,0,c.size,roE,c.size,some o⟩
 |_=>none
def zlS (W:World) (n:Nat):PT IObj:=Nat.rec (motive:=fun _=>PT IObj) .nil (fun i t=>match(W.heap[i]?).bind (impObj W) with|some o=>t.set (bits i) o|none=>t) n
def impH (W:World):H:=⟨W.heap.size+1,zlS W W.heap.size⟩
theorem zhu (W:World): ∀(n j:Nat),(zlS W n).get (bits j)=if j<n then(W.heap[j]?).bind (impObj W) else none
 |0,j=>by rw[if_neg (by omega)];exact PT.get_nil _
 |n+1,j=>by
  have e:zlS W (n+1)=match(W.heap[n]?).bind (impObj W) with|some o=>(zlS W n).set (bits n) o|none=>zlS W n:=rfl
  rw[e]
  cases ho:(W.heap[n]?).bind (impObj W) with
  |none=>
   rw[zhu W n j]
   by_cases h:j<n
   ·rw[if_pos h,if_pos (by omega)]
   ·rw[if_neg h]
    by_cases e:j=n
    ·subst e;rw[if_pos (by omega),ho]
    ·rw[if_neg (by omega)]
  |some o=>
   dsimp only
   rw[PT.get_set_bits,zhu W n j]
   by_cases e:n=j
   ·subst e;rw[if_pos rfl,if_pos (by omega),ho]
   ·rw[if_neg e]
    by_cases h:j<n
    ·rw[if_pos h,if_pos (by omega)]
    ·rw[if_neg h,if_neg (by omega)]
theorem zgD (W:World) (j:Nat):(impH W).get j=(W.heap[j]?).bind (impObj W):=by
 show(zlS W W.heap.size).get (bits j)=_
 rw[zhu]
 by_cases h:j<W.heap.size
 ·rw[if_pos h]
 ·rw[if_neg h,Array.getElem?_eq_none (by omega)];rfl
theorem zhv {W:World} {b:Nat} {c:Array Value} {t:TypeId} {fr:Nat×Nat} (h:W.heap[b]? =some (.cells c t fr)):(impH W).get b=some (.cells (c.toList.map (impV W)) roE):=by rw[zgD,h];rfl
theorem impH_next (W:World):(impH W).next=W.heap.size+1:=rfl
theorem zlR {W:World} {b:Nat} (h:zb0 W b=true):b<W.heap.size:=by
 unfold zb0 at h
 split at h
 ·rename_i hb;exact(Array.getElem?_eq_some_iff.1 hb).1
 ·cases h
theorem impRho_lt {W:World} {i:Nat} (h:i<W.heap.size):zdL W i=(W.heap[i]?).bind fun o=>match o with|.cells c _ _=>some ⟨i,0,c.size,roE,c.size,some o⟩|_=>none:=by
 unfold zdL;rw[if_neg (by omega)]
theorem zfc {W:World} {b:Nat} (h:zb0 W b=true): ∃R,zdL W b=some R∧R.blk=b∧R.base=0:=by
 have hlt:=zlR h
 unfold zb0 at h
 split at h
 ·rename_i c t fr hb
  exact⟨_,by rw[impRho_lt hlt,hb];rfl,rfl,rfl⟩
 ·cases h
theorem okV_rel {W:World} {v:Value} (h:okV W v=true):VR (zdL W) v v:=by
 unfold okV at h
 split at h
 ·exact .bool _
 ·exact .int _ _
 ·exact .str _
 ·exact .nilFunc
 ·exact .ptrNil
 ·exact .mapNil
 ·exact .sliceNil
 ·rename_i a len cap
  simp only[Bool.and_eq_true,Option.isNone_iff_eq_none,decide_eq_true_eq] at h
  obtain⟨h1,h2,h3,h4⟩:=h
  obtain⟨R,hR,hb,h0⟩:=zfc h4
  obtain⟨b,o,sp⟩:=a
  simp only at h1 hR hb
  subst h1
  have:=VR.slice (o:=o) (len:=len) hR h3 h2
  rw[hb,h0,Nat.zero_add] at this
  exact this
 ·rename_i a
  simp only[Bool.and_eq_true,Option.isNone_iff_eq_none] at h
  obtain⟨h1,h4⟩:=h
  obtain⟨R,hR,hb,h0⟩:=zfc h4
  obtain⟨b,o,sp⟩:=a
  simp only at h1 hR hb
  subst h1
  have:=VR.ptr (o:=o) hR
  rw[hb,h0,Nat.zero_add] at this
  exact this
 ·cases h
theorem zeG {W:World} {i:Nat} {R:RB} (h:zdL W i=some R):(i≠W.heap.size∧ ∃c t fr,W.heap[i]? =some (.cells c t fr)∧R=⟨i,0,c.size,roE,c.size,some (.cells c t fr)⟩)∨(i=W.heap.size∧zb0 W R.blk=true):=by
 unfold zdL at h
 split at h
 ·rename_i e
  refine .inr ⟨e,?_⟩
  unfold dangR at h
  split at h
  ·rename_i hx;cases h;exact Classical.choose_spec hx
  ·cases h
 ·rename_i e
  obtain⟨o,ho,h⟩:=aof h
  cases o with
  |cells c t fr=>cases h;exact .inl ⟨e,c,t,fr,ho,rfl⟩
  |_=>cases h
theorem zht {W:World} {i:Nat} {R:RB} {o:IObj} (h:zdL W i=some R) (ho:(impH W).get i=some o): ∃c t fr,W.heap[i]? =some (.cells c t fr)∧R=⟨i,0,c.size,roE,c.size,some (.cells c t fr)⟩:=by
 rcases zeG h with⟨-,h⟩| ⟨rfl,-⟩
 ·exact h
 ·rw[zgD,Array.getElem?_eq_none (Nat.le_refl _)] at ho;cases ho
theorem dang_rel {W:World} {v:Value} {b:Nat} (hb:zb0 W b=true) (h:isDang v=true):VR (zdL W) (dang W) v:=by
 unfold isDang at h
 split at h
 ·refine .sliceD (R:=⟨Classical.choose (⟨b,hb⟩: ∃b,zb0 W b=true),0,0,0,1,none⟩) ?_ (by show 0<1;omega)
  unfold zdL;rw[if_pos rfl];unfold dangR;rw[dif_pos ⟨b,hb⟩]
 ·cases h
theorem imp_HR (W:World):HR P (zdL W) (impH W) W where
 obj:=fun i R o hi ho=>by
  obtain⟨c,t,fr,hb,rfl⟩:=zht hi ho
  rw[zhv hb] at ho;cases ho
  refine⟨rfl,by simp,c,t,fr,hb,.inr ⟨rfl,rfl⟩,rfl,by simp,fun j v hj=> ?_⟩
  rw[List.getElem?_map] at hj
  obtain⟨x,hx,rfl⟩:=Option.map_eq_some_iff.1 hj
  refine⟨x,by rw[Array.getElem?_toList] at hx;simpa using hx,?_⟩
  unfold impV
  by_cases hok:okV W x=true
  ·rw[if_pos hok];exact .inr (okV_rel hok)
  ·rw[if_neg hok]
   by_cases hd:isDang x=true
   ·rw[if_pos hd];exact .inr (dang_rel (b:=i) (by unfold zb0;rw[hb]) hd)
   ·rw[if_neg hd];exact .inl rfl
 nxt:=fun i hi=>by
  have hi':W.heap.size+1≤i:=hi
  have hn:W.heap[i]? =none:=Array.getElem?_eq_none (by omega)
  exact⟨by unfold zdL;rw[if_neg (by omega),hn];rfl,by rw[zgD,hn];rfl⟩
 sep:=fun i j R S hi hj ai aj e=>by
  obtain⟨o,ho,-⟩:=ai
  obtain⟨o',ho',-⟩:=aj
  obtain⟨_,_,_,_,rfl⟩:=zht hi ho
  obtain⟨_,_,_,_,rfl⟩:=zht hj ho'
  exact e
 blk:=fun i R hi=>by
  rcases zeG hi with⟨-,_,_,_,hb,rfl⟩| ⟨-,hc⟩
  ·exact(Array.getElem?_eq_some_iff.1 hb).1
  ·exact zlR hc
 glb:=fun i b x hi=>by
  rw[zgD] at hi
  obtain⟨o,-,ho⟩:=aof hi
  cases o<;>cases ho
def okArg (W:World):Value→Bool
 |.agg cs=>cs.toList.all (okV W)
 |v=>okV W v
theorem okArg_rel {W:World} {v:Value} (h:okArg W v=true):VR (zdL W) v v:=by
 unfold okArg at h
 split at h
 ·rename_i cs
  have:VRL (zdL W) cs.toList cs.toList:=⟨rfl,fun j x y hx hy=>by rw[hx] at hy;cases hy;exact okV_rel (List.all_eq_true.1 h x (List.mem_of_getElem? hx))⟩
  exact VR.agg_of this
 ·exact okV_rel h
theorem calls_import {F:FuncId→Option zq} (hmix:P.follows .mixedOrders=true) (hF: ∀g cf,F g=some cf→FnOk P g cf) {g:FuncId} {args:Array Value} {W:World} (hargs: ∀v∈args.toList,okArg W v=true)
 {b:Bool} {n:Nat} {h':H} (hn:E F n (.call (.func (.func g) #[] #[]) args.toList (impH W))=some (.val (.bool b) h')) (hfr: ∀i,i<W.heap.size→h'.get i=(impH W).get i):
 Calls P g args W fun e W'=>e=.returned (.bool b)∧Same W W':=by
 have ra:VRL (zdL W) args.toList args.toList:=⟨rfl,fun j x y hx hy=>by rw[hx] at hy;cases hy;exact okArg_rel (hargs x (List.mem_of_getElem? hx))⟩
 refine(zhF hmix hF hn ra (imp_HR W)).mono ?_
 rintro e W' ⟨v',σ,rfl,hv,hr,hx⟩
 refine⟨by rw[hv.inv_bool],hx.os,hx.out,fun B hB=> ?_,hx.froz,hx.td,hx.size⟩
 by_cases hc:zb0 W B=true
 ·obtain⟨R,hR,hb,h0⟩:=zfc hc
  obtain⟨-,c,t,fr,hWB,rfl⟩:=(zeG hR).resolve_right (fun h=>by omega)
  have ho:=hr.obj B _ _ (hx.le _ _ hR) (by rw[hfr B hB];exact zhv hWB)
  obtain⟨_,_,c',t',fr',q1,q2,_⟩:=ho
  rcases q2 with⟨q2,_⟩| ⟨q2,_⟩
  ·cases q2
  ·rw[q1,hWB];exact(q2.symm▸rfl:some (Obj.cells c' t' fr')=some (Obj.cells c t fr))
 ·refine hx.frame B hB fun i R hi e=> ?_
  rcases zeG hi with⟨-,c,t,fr,hWB,rfl⟩| ⟨-,hcc⟩
  ·have e:i=B:=e
   subst e
   exact hc (by unfold zb0;rw[hWB])
  ·rw[e] at hcc;exact hc hcc
theorem prim_of {F:FuncId→Option zq} (hmix:P.follows .mixedOrders=true) (hF: ∀g cf,F g=some cf→FnOk P g cf) {g:FuncId} {fn:Func} {cf0:zq} (hfn:P.funcs[g]? =some fn) (hcf:zbl P fn=some (zeQ cf0)) {b:Bool} {n:Nat} {h':H}
 (he:E F n (.call (.func (.func g) #[] #[]) [] .empty)=some (.val (.bool b) h')):FnOk P g (zhk b):=by
 refine .inr (.inl ⟨fn,cf0,b,hfn,hcf,rfl,fun w=> ?_⟩)
 have hr:HR P (fun _=>none) H.empty w:=⟨fun _ _ _ h=>(by cases h),fun i _=>⟨rfl,PT.get_nil _⟩,fun _ _ _ _ h=>(by cases h),fun _ _ h=>(by cases h),fun i _ _ h=>by rw[H.get_empty] at h;cases h⟩
 refine(zhF hmix hF he (args':= #[]) ⟨rfl,fun j x y hx=>by simp at hx⟩ hr).mono ?_
 rintro e w' ⟨v',σ,rfl,hv,-,hx⟩
 exact⟨by rw[hv.inv_bool],hx.os,hx.out,fun B hB=>hx.frame B hB fun _ _ h=>(by cases h),hx.froz,hx.td,hx.size⟩
section
open Go.ChangeShapes Go.WideShapes Go.RowKit
variable {H:Type} {enc:TypeId×Value→H}
theorem Same.kept {W W':World} (h:Same W W') (may:MemPlace→Prop):W.keptBut W' may:=by
 refine⟨h.os,h.out,fun i hi=> ?_⟩
 rw[h.heap i hi]
 cases ho:W.heap[i]? with
 |none=>trivial
 |some o=>
  cases o with
  |cells c t fr=>exact⟨rfl,rfl,rfl,fun _ _=>rfl⟩
  |map es c=>exact .inr ⟨rfl,rfl⟩
  |_=>rfl
theorem Same.at {W W':World} (h:Same W W') {p:MemPlace} (hp:p.block<W.heap.size):W.sameAt W' p:=by
 cases p with
 |cell b off=>
  show W'.cell? ⟨b,off,none⟩=W.cell? ⟨b,off,none⟩
  have:=h.heap b hp
  simp only[World.cell?,this]
 |map b=>exact h.heap b hp
theorem zgk (hl:laidOutB P=true) {W W':World} {sp':Nat→Bool} (hs:Same W W'): ∀{ts:List TypeId} {vs:List Value} {ds:List (DataW H)} {ps:List MemPlace},(∀t∈ts,P.readableRec t=true∧t<P.types.size)→
 DataW.TrodAll enc P W 0 (fun _=>true) true ts vs ds ps→(∀p∈ps,p.block<W.heap.size)→(∀p∈ps,sp' p.block=true)→DataW.TrodAll enc P W' 0 sp' true ts vs ds ps
 | [],vs,ds,ps,_,h,_,_=>by
   obtain⟨rfl,rfl,rfl⟩:=trodAll_nil h
   exact trodAll_mk0
 |t::ts,vs,ds,ps,ht,h,hlt,hsp=>by
  obtain⟨v,vs',d,ds',p,q,rfl,rfl,rfl,h1,h2⟩:=trodAll_cons h
  obtain⟨r1,r2⟩:=ht t (by simp)
  exact trodAll_cons_mk (WideElems.Trod_stays hl r1 r2 h1 (fun x hx=>hs.at (hlt x (by simp[hx]))) (fun x hx=>hsp x (by simp[hx])))
   (zgk hl hs (fun t ht'=>ht t (by simp[ht'])) h2 (fun x hx=>hlt x (by simp[hx])) (fun x hx=>hsp x (by simp[hx])))
theorem post_kept {f:Func} {s:ChangeSpec} {apart fresh handsOn again:Bool} {W W':World} {args:Array Value} {v:Value} {ds gs:List (DataW H)} {before pa pv:List MemPlace}
 (hW:DataW.Whole enc P f.params.toList s.vars apart W args.toList ds gs before)
 (hres: ∀(b:Nat) (sp:Nat→Bool) (hd:Bool),DataW.TrodAll enc P W' b sp hd f.resultTypes.toList (v.resultList f.resultTypes.size) (s.fn H (ds++gs)).results [])
 (hargs: ∀sp:Nat→Bool,(∀p∈before,sp p.block=true)→DataW.TrodAll enc P W' 0 sp true f.params.toList args.toList (s.fn H (ds++gs)).args pa)
 (hvars: ∀sp:Nat→Bool,(∀p∈before,sp p.block=true)→DataW.TrodVars enc P W' sp s.vars (s.fn H (ds++gs)).vars pv)
 (hps:before=pa++pv) (hk:W.keptBut W' (· ∈before)) (hfz: ∀a:Addr,a.block<W.heap.size→W'.frozen? a=W.frozen? a)
 (hok: ∀(j:Nat) (t:TypeId) (r:Value),f.resultTypes[j]? =some t→(v.resultList f.resultTypes.size)[j]? =some r→Value.okWide P W' .any 0 t r):
 s.post enc P f apart fresh handsOn again W args v W':=by
 refine⟨ds,gs,before,[],pa,pv,hW,hres _ _ _,hargs _ fun p hp=>by simpa using hW.lt p hp,hvars _ fun p hp=>by simpa using hW.lt p hp,World.keptBut_mono (fun p hp=>⟨hp,?_⟩) hk,fun _=> ?_⟩
 ·rw[hps,List.mem_append] at hp
  exact Or.inr hp
 ·have hlt:=hW.lt
  obtain⟨_,_,_,_,_,hz,hn⟩:=hW
  refine⟨hok,_,_,([]++pa)++pv,⟨[]++pa,pv,trodAll_append (hargs _ (fun _ _=>rfl)) (hres _ _ _),hvars _ (fun _ _=>rfl),rfl,fun b off hp=> ?_,fun ha=> ?_⟩,fun p hp _=> ?_⟩
  ·have hb:MemPlace.cell b off∈before:=by rw[hps];simpa using hp
   rw[hfz ⟨b,off,none⟩ (hlt _ hb)]
   exact hz b off hb
  ·have:=hn ha
   rw[hps] at this
   simpa using this
  ·rw[hps]
   simpa using hp
theorem law_post {s:ChangeSpec} {fn:Func} {apart fresh handsOn again:Bool} {W W':World} {args:Array Value} {ds gs:List (DataW H)} {before:List MemPlace} {t:TypeId} (hW:DataW.Whole enc P fn.params.toList s.vars apart W args.toList ds gs before)
 (hvars:s.vars=[]) (hspec:s.fn H (ds++gs)={results:=[.lit (.bool true)],args:=ds}) (hres:fn.resultTypes= #[t]) (ht:P.underlying t=some .bool) (hsame:Same W W') (hl:laidOutB P=true) (hr: ∀t∈fn.params.toList,P.readableRec t=true∧t<P.types.size):
 s.post enc P fn apart fresh handsOn again W args (.bool true) W':=by
 have hW':=hW
 obtain⟨p,q,hA,hV,rfl,hfz,hnd⟩:=hW
 rw[hvars] at hV
 obtain⟨rfl,rfl⟩:=trodVars_none hV
 refine post_kept (pa:=p) (pv:=[]) hW' (fun b sp hd=> ?_) (fun sp hsp=> ?_) (fun sp hsp=> ?_) rfl (hsame.kept _) hsame.froz ?_
 ·rw[hspec,hres]
  exact trodAll_mk1 (shut_bool ht true)
 ·rw[hspec]
  exact zgk hl hsame hr hA (fun x hx=>hW'.lt x (by simp[hx])) (fun x hx=>hsp x (by simp[hx]))
 ·rw[hspec,hvars];rfl
 ·exact ok_one hres rfl (okWide_bool_mk ht true)
end
end
end Go.Ideal
namespace Go.Ideal
noncomputable section
variable {P:Program}
def allEq {α:Type} (f:α→α→Bool):List α→List α→Bool
 | [],[]=>true
 |a::l,b::m=>f a b&&allEq f l m
 |_,_=>false
theorem zfE {α:Type} {f:α→α→Bool} (hf: ∀a b,f a b=true→a=b): ∀{l m:List α},allEq f l m=true→l=m
 | [],[],_=>rfl
 | [],_::_,h=>by cases h
 |_::_,[],h=>by cases h
 |a::l,b::m,h=>by
  simp only[allEq,Bool.and_eq_true] at h
  rw[hf _ _ h.1,zfE hf h.2]
def eqX:Nat→Value→Value→Bool
 |n+1,.agg a,.agg b=>allEq (eqX n) a.toList b.toList
 |n+1,.tuple a,.tuple b=>allEq (eqX n) a.toList b.toList
 |n+1,.iface t a,.iface u b=>Nat.beq t u&&eqX n a b
 |_,.nilIface,.nilIface=>true
 |_,.func (.func f) a b,.func (.func g) c d=>Nat.beq f g&&(a.isEmpty&&b.isEmpty&&(c.isEmpty&&d.isEmpty))
 |_,a,b=>zfO a b
theorem zlX: ∀(n:Nat) (a b:Value),eqX n a b=true→a=b:=by
 intro n
 induction n with
 |zero=>
  intro a b h
  unfold eqX at h
  split at h
  ·rename_i e;exact absurd e (by simp)
  ·rename_i e;exact absurd e (by simp)
  ·rename_i e;exact absurd e (by simp)
  ·rfl
  ·simp only[Bool.and_eq_true,Array.isEmpty_iff] at h
   obtain⟨h1,⟨h2,h3⟩,h4,h5⟩:=h
   rw[Nat.eq_of_beq_eq_true h1,h2,h3,h4,h5]
  ·exact zgQ h
 |succ n ih=>
  intro a b h
  unfold eqX at h
  split at h
  ·rename_i e;cases e;rw[Array.toList_inj.1 (zfE ih h)]
  ·rename_i e;cases e;rw[Array.toList_inj.1 (zfE ih h)]
  ·rename_i e;cases e;rw[Bool.and_eq_true] at h;rw[Nat.eq_of_beq_eq_true h.1,ih _ _ h.2]
  ·rfl
  ·simp only[Bool.and_eq_true,Array.isEmpty_iff] at h
   obtain⟨h1,⟨h2,h3⟩,h4,h5⟩:=h
   rw[Nat.eq_of_beq_eq_true h1,h2,h3,h4,h5]
  ·exact zgQ h
def eqEnt (a b:Value×Value×Nat):Bool:=eqX 4 a.1 b.1&&(eqX 4 a.2.1 b.2.1&&Nat.beq a.2.2 b.2.2)
theorem eqEnt_eq (a b:Value×Value×Nat) (h:eqEnt a b=true):a=b:=by
 simp only[eqEnt,Bool.and_eq_true] at h
 obtain⟨a1,a2,a3⟩:=a
 obtain⟨b1,b2,b3⟩:=b
 have h1:=zlX _ _ _ h.1
 have h2:=zlX _ _ _ h.2.1
 have h3:=Nat.eq_of_beq_eq_true h.2.2
 simp only at h1 h2 h3
 rw[h1,h2,h3]
def eqObj:IObj→IObj→Bool
 |.cells a e,.cells b f=>Nat.beq e f&&allEq (eqX 4) a b
 |.map a c,.map b d=>Nat.beq c d&&allEq eqEnt a b
 |.glob b x,.glob c y=>Nat.beq b c&&eqX 4 x y
 |.dead,.dead=>true
 |_,_=>false
theorem eqObj_eq {a b:IObj} (h:eqObj a b=true):a=b:=by
 unfold eqObj at h
 split at h
 ·rw[Bool.and_eq_true] at h;rw[Nat.eq_of_beq_eq_true h.1,zfE (zlX 4) h.2]
 ·rw[Bool.and_eq_true] at h;rw[Nat.eq_of_beq_eq_true h.1,zfE eqEnt_eq h.2]
 ·rw[Bool.and_eq_true] at h;rw[Nat.eq_of_beq_eq_true h.1,zlX _ _ _ h.2]
 ·rfl
 ·cases h
def liveO:IObj→Bool
 |.dead=>false
 |_=>true
def refF (S:Nat→Bool):Nat→Value→Bool
 |n+1,.agg a=>a.toList.all (refF S n)
 |n+1,.tuple a=>a.toList.all (refF S n)
 |n+1,.iface _ v=>refF S n v
 |_,.pointer (some a)=>S a.block
 |_,.slice (some a) _ _=>S a.block
 |_,.map (some i)=>S i
 |_,.func (.func _) a b=>a.isEmpty&&b.isEmpty
 |_,.bool _=>true
 |_,.int _ _=>true
 |_,.string _=>true
 |_,.pointer none=>true
 |_,.slice none _ _=>true
 |_,.map none=>true
 |_,.nilFunc=>true
 |_,.nilIface=>true
 |_,.complex _ _ _=>true
 |_,_=>false
theorem VR.agree {ρ σ:Rho} {S:Nat→Bool} (hS: ∀i,S i=true→σ i=ρ i): ∀(n:Nat) {v v':Value},VR ρ v v'→refF S n v=true→VR σ v v':=by
 intro n
 induction n with
 |zero=>
  intro v v' h hv
  cases h with
  |bool b=>exact .bool b
  |int k n=>exact .int k n
  |str s=>exact .str s
  |ptrNil=>exact .ptrNil
  |ptr h=>exact .ptr ((hS _ hv).trans h)
  |sliceNil=>exact .sliceNil
  |slice h hc hl=>exact .slice ((hS _ hv).trans h) hc hl
  |sliceO h he hl hs hb=>exact .sliceO ((hS _ hv).trans h) he hl hs hb
  |sliceE h he hb=>exact .sliceE ((hS _ hv).trans h) he hb
  |sliceD h hm=>exact .sliceD ((hS _ hv).trans h) hm
  |sliceR h he hl=>exact .sliceR ((hS _ hv).trans h) he hl
  |mapNil=>exact .mapNil
  |map h=>exact .map ((hS _ hv).trans h)
  |func f ha hb ra rb=>
   have hv:(Array.isEmpty _&&Array.isEmpty _)=true:=hv
   simp only[Bool.and_eq_true,Array.isEmpty_iff] at hv
   obtain⟨rfl,rfl⟩:=hv
   exact .func f ha hb (fun j x y hx=>by simp at hx) (fun j x y hx=>by simp at hx)
  |yield h=>cases hv
  |nilFunc=>exact .nilFunc
  |nilIface=>exact .nilIface
  |iface t h=>cases hv
  |agg ha ra=>cases hv
  |tuple ha ra=>cases hv
 |succ n ih=>
  intro v v' h hv
  cases h with
  |bool b=>exact .bool b
  |int k n=>exact .int k n
  |str s=>exact .str s
  |ptrNil=>exact .ptrNil
  |ptr h=>exact .ptr ((hS _ hv).trans h)
  |sliceNil=>exact .sliceNil
  |slice h hc hl=>exact .slice ((hS _ hv).trans h) hc hl
  |sliceO h he hl hs hb=>exact .sliceO ((hS _ hv).trans h) he hl hs hb
  |sliceE h he hb=>exact .sliceE ((hS _ hv).trans h) he hb
  |sliceD h hm=>exact .sliceD ((hS _ hv).trans h) hm
  |sliceR h he hl=>exact .sliceR ((hS _ hv).trans h) he hl
  |mapNil=>exact .mapNil
  |map h=>exact .map ((hS _ hv).trans h)
  |func f ha hb ra rb=>
   have hv:(Array.isEmpty _&&Array.isEmpty _)=true:=hv
   simp only[Bool.and_eq_true,Array.isEmpty_iff] at hv
   obtain⟨rfl,rfl⟩:=hv
   exact .func f ha hb (fun j x y hx=>by simp at hx) (fun j x y hx=>by simp at hx)
  |yield h=>cases hv
  |nilFunc=>exact .nilFunc
  |nilIface=>exact .nilIface
  |iface t h=>exact .iface t (ih h hv)
  |agg ha ra=>
   exact .agg ha (fun j x y hx hy=>ih (ra j x y hx hy) (List.all_eq_true.1 (show(Array.toList _).all (refF S n)=true from hv) x (Array.mem_toList_iff.2 (Array.mem_of_getElem? hx))))
  |tuple ha ra=>
   exact .tuple ha (fun j x y hx hy=>ih (ra j x y hx hy) (List.all_eq_true.1 (show(Array.toList _).all (refF S n)=true from hv) x (Array.mem_toList_iff.2 (Array.mem_of_getElem? hx))))
def refO (S:Nat→Bool):IObj→Bool
 |.cells cs _=>cs.all (refF S 4)
 |.map es _=>es.all fun e=>refF S 4 e.1&&refF S 4 e.2.1
 |.glob _ _=>true
 |.dead=>true
 |.loop _ _ _ _=>false
theorem OR.agree {ρ σ:Rho} {S:Nat→Bool} (hS: ∀i,S i=true→σ i=ρ i) {w:World} {R:RB} {o:IObj} (h:OR P ρ w R o) (ho:refO S o=true):OR P σ w R o:=by
 cases o with
 |cells cs esz=>
  obtain⟨h1,h2,c,t,fr,h3,h7,h4,h5,h6⟩:=h
  exact⟨h1,h2,c,t,fr,h3,h7,h4,h5,fun j v hj=>let⟨v',a,b⟩:=h6 j v hj;⟨v',a,b.imp id (fun b=>b.agree hS 4 (List.all_eq_true.1 ho v (List.mem_of_getElem? hj)))⟩⟩
 |map es clock=>
  obtain⟨es',h1,h2,h3⟩:=h
  refine⟨es',h1,h2,fun j e hj=> ?_⟩
  obtain⟨e',a,b,c,d⟩:=h3 j e hj
  have:=List.all_eq_true.1 ho e (List.mem_of_getElem? hj)
  rw[Bool.and_eq_true] at this
  exact⟨e',a,b.agree hS 4 this.1,c.agree hS 4 this.2,d⟩
 |glob b x=>exact h
 |loop _ _ _ _=>cases ho
 |dead=>trivial
theorem VRL.agree {ρ σ:Rho} {S:Nat→Bool} (hS: ∀i,S i=true→σ i=ρ i) {xs ys:List Value} (h:VRL ρ xs ys) (hx:xs.all (refF S 4)=true):VRL σ xs ys:=
 ⟨h.1,fun j x y h1 h2=>(h.2 j x y h1 h2).agree hS 4 (List.all_eq_true.1 hx x (List.mem_of_getElem? h1))⟩
structure zcU where
 args:List Value
 next:Nat
 pre:List (Nat×IObj)
 val:Value
 next':Nat
 post:List (Nat×IObj)
def ziI (l:List (Nat×IObj)) (t:PT IObj):PT IObj:=List.rec (motive:=fun _=>PT IObj) t (fun x _ ih=>ih.set (bits x.1) x.2) l
def matchH (h:H) (l:List (Nat×IObj)):Bool:=l.all fun x=>match h.get x.1 with
 |some o=>eqObj o x.2
 |none=>false
def zbw (l:List (Nat×IObj)) (i:Nat):Bool:=l.any fun x=>Nat.beq x.1 i
def zcU.fits (p:zcU) (args:List Value) (h:H):Bool:=Nat.beq h.next p.next&&(allEq (eqX 4) args p.args&&matchH h p.pre)
def zcU.out (p:zcU) (h:H):Value×H:=(p.val,⟨p.next',ziI p.post h.mem⟩)
def ze5 (l:List zcU) (args:List Value) (h:H):Option (Value×H):=
 List.rec (motive:=fun _=>Option (Value×H)) none (fun p _ ih=>match p.fits args h with|true=>some (p.out h)|false=>ih) l
def zcU.start (p:zcU):H:=⟨p.next,ziI p.pre .nil⟩
def zcU.ends (p:zcU):Option Out→Bool
 |some (.val v h)=>eqX 4 v p.val&&(Nat.beq h.next p.next'&&matchH h p.post)
 |_=>false
def zcU.runs (F:FuncId→Option zq) (n:Nat) (g:FuncId) (p:zcU):Bool:=p.ends (E F n (.call (.func (.func g) #[] #[]) p.args p.start))
def zcU.good (p:zcU):Bool:=
 Nat.ble p.next p.next'&&(p.pre.all (fun x=>Nat.blt x.1 p.next&&zbw p.post x.1)&&(p.post.all (fun x=>zbw p.pre x.1||(Nat.ble p.next x.1&&Nat.blt x.1 p.next'))&&
 (p.args.all (refF (zbw p.pre) 4)&&(p.pre.all (fun x=>liveO x.2&&refO (zbw p.pre) x.2)&&(refF (zbw p.post) 4 p.val&&p.post.all (fun x=>refO (zbw p.post) x.2))))))
theorem hasId_iff {l:List (Nat×IObj)} {i:Nat}:zbw l i=true↔ ∃o,(i,o)∈l:=by
 unfold zbw
 rw[List.any_eq_true]
 constructor
 ·rintro⟨⟨j,o⟩,h1,h2⟩;exact⟨o,by rw[←Nat.eq_of_beq_eq_true h2];exact h1⟩
 ·rintro⟨o,h⟩;exact⟨(i,o),h,Nat.beq_refl i⟩
theorem zkD {l:List (Nat×IObj)} {t:PT IObj} {i:Nat} (h:zbw l i=false):(ziI l t).get (bits i)=t.get (bits i):=by
 induction l with
 |nil=>rfl
 |cons x l ih=>
  have h':(Nat.beq x.1 i||zbw l i)=false:=h
  rw[Bool.or_eq_false_iff] at h'
  show((ziI l t).set (bits x.1) x.2).get (bits i)=_
  rw[PT.get_set_bits,if_neg (by rintro rfl;rw[Nat.beq_refl] at h';cases h'.1),ih h'.2]
theorem setAll_in {l:List (Nat×IObj)} {t:PT IObj} {i:Nat} (h:zbw l i=true): ∃o,(i,o)∈l∧(ziI l t).get (bits i)=some o:=by
 induction l with
 |nil=>cases h
 |cons x l ih=>
  have e:(ziI (x::l) t).get (bits i)=if x.1=i then some x.2 else(ziI l t).get (bits i):=PT.get_set_bits _ _ _ _
  rw[e]
  by_cases hi:x.1=i
  ·rw[if_pos hi];exact⟨x.2,by subst hi;simp,rfl⟩
  ·rw[if_neg hi]
   have h':(Nat.beq x.1 i||zbw l i)=true:=h
   rw[Bool.or_eq_true] at h'
   obtain⟨o,h1,h2⟩:=ih (h'.resolve_left fun e=>hi (Nat.eq_of_beq_eq_true e))
   exact⟨o,by simp[h1],h2⟩
theorem zlO {h:H} {l:List (Nat×IObj)} (hm:matchH h l=true) {i:Nat} {o:IObj} (hi:(i,o)∈l):h.get i=some o:=by
 have:=List.all_eq_true.1 hm _ hi
 dsimp only at this
 split at this
 ·rename_i o' ho;have e:=eqObj_eq this;subst e;exact ho
 ·cases this
theorem piece_calls {F:FuncId→Option zq} (hmix:P.follows .mixedOrders=true) (hF: ∀g cf,F g=some cf→FnOk P g cf) {n:Nat} {g:FuncId} {p:zcU} (hg:p.good=true) (hrun:p.runs F n g=true)
 {args:List Value} {h:H} (hfit:p.fits args h=true) {ρ:Rho} {args':Array Value} {w:World} (ra:VRL ρ args args'.toList) (hr:HR P ρ h w):
 Calls P g args' w (zid P ρ w (.val (p.out h).1 (p.out h).2)):=by
 simp only[zcU.good,Bool.and_eq_true] at hg
 obtain⟨g1,g2,g3,g4,g5,g6,g7⟩:=hg
 simp only[zcU.fits,Bool.and_eq_true] at hfit
 obtain⟨f1,f2,f3⟩:=hfit
 have f2:=zfE (zlX 4) f2
 subst f2
 have f1:=Nat.eq_of_beq_eq_true f1
 have g1:=Nat.le_of_ble_eq_true g1
 have preLt: ∀i,zbw p.pre i=true→i<p.next∧zbw p.post i=true:=fun i hi=>by
  obtain⟨o,ho⟩:=hasId_iff.1 hi
  have:=List.all_eq_true.1 g2 _ ho
  rw[Bool.and_eq_true] at this
  exact⟨Nat.le_of_ble_eq_true this.1,this.2⟩
 have postIn: ∀i,zbw p.post i=true→zbw p.pre i=true∨(p.next≤i∧i<p.next'):=fun i hi=>by
  obtain⟨o,ho⟩:=hasId_iff.1 hi
  have:=List.all_eq_true.1 g3 _ ho
  rw[Bool.or_eq_true,Bool.and_eq_true] at this
  exact this.imp id fun h=>⟨Nat.le_of_ble_eq_true h.1,Nat.le_of_ble_eq_true h.2⟩
 have preGet: ∀i,zbw p.pre i=true→ ∃o,h.get i=some o∧o≠ .dead∧p.start.get i=some o∧refO (zbw p.pre) o=true:=fun i hi=>by
  obtain⟨o,h1,h2⟩:=setAll_in (t:=.nil) hi
  have q1:=zlO f3 h1
  have q4:=List.all_eq_true.1 g5 _ h1
  rw[Bool.and_eq_true] at q4
  exact⟨o,q1,by rintro rfl;exact Bool.false_ne_true q4.1,h2,q4.2⟩
 have preNo: ∀i,zbw p.pre i=false→p.start.get i=none:=fun i hi=>(zkD hi).trans (PT.get_nil _)
 obtain⟨ρ',hρ'⟩: ∃ρ':Rho,∀i,ρ' i=if zbw p.pre i=true then ρ i else none:=⟨_,fun _=>rfl⟩
 have agr: ∀i,zbw p.pre i=true→ρ' i=ρ i:=fun i hi=>by rw[hρ',if_pos hi]
 have sub: ∀i R,ρ' i=some R→zbw p.pre i=true∧ρ i=some R:=fun i R hi=>by
  rw[hρ'] at hi
  split at hi
  ·rename_i hc;exact⟨hc,hi⟩
  ·cases hi
 have hr':HR P ρ' p.start w:={
  obj:=fun i R o hi ho=>by
   obtain⟨hc,hi⟩:=sub i R hi
   obtain⟨o',q1,q2,q3,q4⟩:=preGet i hc
   have e:o'=o:=Option.some.inj (q3.symm.trans ho)
   subst e
   exact(hr.obj i R o' hi q1).agree agr q4
  nxt:=fun i hi=>by
   have hi:p.next≤i:=hi
   have hc:zbw p.pre i=false:=by
    rw[Bool.eq_false_iff];intro hc;have:=(preLt i hc).1;omega
   exact⟨by rw[hρ',if_neg (by rw[hc];simp)],preNo i hc⟩
  sep:=fun i j R S hi hj _ _ e=>by
   obtain⟨hc,hi⟩:=sub i R hi
   obtain⟨hd,hj⟩:=sub j S hj
   obtain⟨o,q1,q2,-,-⟩:=preGet i hc
   obtain⟨o',r1,r2,-,-⟩:=preGet j hd
   exact hr.sep i j R S hi hj ⟨o,q1,q2⟩ ⟨o',r1,r2⟩ e
  blk:=fun i R hi=>hr.blk i R (sub i R hi).2
  glb:=fun i b x hi=>by
   cases hc:zbw p.pre i with
   |false=>rw[preNo i hc] at hi;cases hi
   |true=>
    obtain⟨o',q1,-,q3,-⟩:=preGet i hc
    have e:o'=.glob b x:=Option.some.inj (q3.symm.trans hi)
    subst e
    obtain⟨R,hR⟩:=hr.glb i b x q1
    exact⟨R,(agr i hc).trans hR⟩}
 have ra':VRL ρ' p.args args'.toList:=ra.agree agr g4
 unfold zcU.runs at hrun
 generalize he:E F n (.call (.func (.func g) #[] #[]) p.args p.start)=out at hrun
 unfold zcU.ends at hrun
 split at hrun
 ·rename_i v h2
  simp only[Bool.and_eq_true] at hrun
  obtain⟨e1,e2,e3⟩:=hrun
  obtain rfl:=zlX _ _ _ e1
  have e2:=Nat.eq_of_beq_eq_true e2
  refine(zhF hmix hF he ra' hr').mono ?_
  rintro e w' ⟨v',σ2,rfl,hv,hr2,hx⟩
  obtain⟨σ,hσ⟩: ∃σ:Rho,∀i,σ i=if zbw p.post i=true then σ2 i else ρ i:=⟨_,fun _=>rfl⟩
  have agr2: ∀i,zbw p.post i=true→σ i=σ2 i:=fun i hi=>by rw[hσ,if_pos hi]
  have oth: ∀i,zbw p.post i=false→σ i=ρ i:=fun i hi=>by rw[hσ,if_neg (by rw[hi];simp)]
  have le:zg1 ρ σ:=fun i R hi=>by
   cases hc:zbw p.post i with
   |false=>rw[oth i hc];exact hi
   |true=>
    rw[agr2 i hc]
    rcases postIn i hc with hp| ⟨hp,-⟩
    ·exact hx.le i R ((agr i hp).trans hi)
    ·have:=(hr.nxt i (by omega)).1;rw[hi] at this;cases this
  have postGet: ∀i,zbw p.post i=true→ ∃o,h2.get i=some o∧(p.out h).2.get i=some o∧refO (zbw p.post) o=true:=fun i hi=>by
   obtain⟨o,h1,h3⟩:=setAll_in (t:=h.mem) hi
   have q1:=zlO e3 h1
   exact⟨o,q1,h3,List.all_eq_true.1 g7 _ h1⟩
  have postNo: ∀i,zbw p.post i=false→(p.out h).2.get i=h.get i:=fun i hi=>zkD hi
  have apart: ∀i R j S,zbw p.post i=true→σ2 i=some R→zbw p.post j=false→ρ j=some S→zer h j→R.blk≠S.blk:=fun i R j S hi hiR hj hjS aj e=>by
   rcases hx.fresh i R hiR with⟨k,T,hk,hT⟩|hb
   ·obtain⟨hc,hk⟩:=sub k T hk
    obtain⟨o,q1,q2,-,-⟩:=preGet k hc
    have:=hr.sep k j T S hk hjS ⟨o,q1,q2⟩ aj (hT.trans e)
    subst this
    rw[(preLt k hc).2] at hj;cases hj
   ·have:=hr.blk j S hjS;omega
  have hrN:HR P σ (p.out h).2 w':={
   obj:=fun i R o hi ho=>by
    cases hc:zbw p.post i with
    |true=>
     rw[agr2 i hc] at hi
     obtain⟨o',q1,q3,q4⟩:=postGet i hc
     have e:o'=o:=Option.some.inj (q3.symm.trans ho)
     subst e
     exact(hr2.obj i R o' hi q1).agree agr2 q4
    |false=>
     rw[oth i hc] at hi
     rw[postNo i hc] at ho
     by_cases hd:o=.dead
     ·subst hd;trivial
     ·refine(hr.obj i R o hi ho).mono le (hx.frame _ (hr.blk i R hi) fun j S hj e=> ?_)
      obtain⟨hp,hj⟩:=sub j S hj
      obtain⟨o',q1,q2,-,-⟩:=preGet j hp
      have:=hr.sep j i S R hj hi ⟨o',q1,q2⟩ ⟨o,ho,hd⟩ e
      subst this
      rw[(preLt j hp).2] at hc;cases hc
   nxt:=fun i hi=>by
    have hi:p.next'≤i:=hi
    have hc:zbw p.post i=false:=by
     rw[Bool.eq_false_iff];intro hc
     rcases postIn i hc with hp|hp
     ·have:=(preLt i hp).1;omega
     ·omega
    rw[oth i hc,postNo i hc]
    exact hr.nxt i (by omega)
   sep:=fun i j R S hi hj ai aj e=>by
    have al: ∀k,zbw p.post k=true→zer (p.out h).2 k→zer h2 k:=fun k hk ⟨o,h1,h3⟩=>by
     obtain⟨o',q1,q2,-⟩:=postGet k hk
     have e:o'=o:=Option.some.inj (q2.symm.trans h1)
     subst e;exact⟨o',q1,h3⟩
    have al': ∀k,zbw p.post k=false→zer (p.out h).2 k→zer h k:=fun k hk ⟨o,h1,h3⟩=>⟨o,(postNo k hk).symm.trans h1,h3⟩
    cases hc:zbw p.post i with
    |true=>
     rw[agr2 i hc] at hi
     cases hd:zbw p.post j with
     |true=>rw[agr2 j hd] at hj;exact hr2.sep i j R S hi hj (al i hc ai) (al j hd aj) e
     |false=>rw[oth j hd] at hj;exact absurd e (apart i R j S hc hi hd hj (al' j hd aj))
    |false=>
     rw[oth i hc] at hi
     cases hd:zbw p.post j with
     |true=>rw[agr2 j hd] at hj;exact absurd e.symm (apart j S i R hd hj hc hi (al' i hc ai))
     |false=>rw[oth j hd] at hj;exact hr.sep i j R S hi hj (al' i hc ai) (al' j hd aj) e
   blk:=fun i R hi=>by
    cases hc:zbw p.post i with
    |true=>rw[agr2 i hc] at hi;exact hr2.blk i R hi
    |false=>rw[oth i hc] at hi;exact Nat.lt_of_lt_of_le (hr.blk i R hi) hx.size
   glb:=fun i b x hi=>by
    cases hc:zbw p.post i with
    |true=>
     obtain⟨o',q1,q3,-⟩:=postGet i hc
     have e:o'=.glob b x:=Option.some.inj (q3.symm.trans hi)
     subst e
     obtain⟨R,hR⟩:=hr2.glb i b x q1
     exact⟨R,(agr2 i hc).trans hR⟩
    |false=>
     rw[postNo i hc] at hi
     obtain⟨R,hR⟩:=hr.glb i b x hi
     exact⟨R,(oth i hc).trans hR⟩}
  refine⟨_,_,v',σ,rfl,rfl,hv.agree agr2 4 g6,hrN,le,hx.size,fun i R hi=> ?_,fun B hB hn=>hx.frame B hB fun i R hi=>hn i R (sub i R hi).2,hx.loops,hx.os,hx.out,hx.froz,hx.td⟩
  cases hc:zbw p.post i with
  |true=>
   rw[agr2 i hc] at hi
   rcases hx.fresh i R hi with⟨j,S,hj,e⟩|hb
   ·exact .inl ⟨j,S,(sub j S hj).2,e⟩
   ·exact .inr hb
  |false=>rw[oth i hc] at hi;exact .inl ⟨i,R,hi,rfl⟩
 ·cases hrun
theorem pieces_ok (hmix:P.follows .mixedOrders=true) {g:FuncId} {fn:Func} {cf0:zq} (hfn:P.funcs[g]? =some fn) (hcf:zbl P fn=some (zeQ cf0))
 {l:List zcU} (hl: ∀p∈l,p.good=true∧ ∃F n,(∀g cf,F g=some cf→FnOk P g cf)∧p.runs F n g=true):FnOk P g (primW (ze5 l) cf0):=by
 refine .inr (.inr (.inr ⟨_,fn,cf0,rfl,⟨fun args w=> ?_,fun args h v h' hp ρ args' w ra hr=> ?_⟩,hfn,hcf⟩))
 ·obtain⟨hname,c,hbody,-⟩:=zbR hcf
  have hne: ¬fn.name= "runtime.NumGoroutine" :=by simpa using hname
  simp[callFunc,hfn,hne,hbody]
 ·induction l with
  |nil=>cases hp
  |cons p l ih=>
   have hp:(match p.fits args h with|true=>some (p.out h)|false=>ze5 l args h)=some (v,h'):=hp
   split at hp
   ·rename_i hfit
    obtain⟨q1,F,n,hF,q2⟩:=hl p (by simp)
    have e:p.out h=(v,h'):=Option.some.inj hp
    have:=piece_calls hmix hF q1 q2 hfit ra hr
    rw[e] at this;exact this
   ·exact ih (fun p hp=>hl p (by simp[hp])) hp
def lookE (l:List (Nat×zq)) (g:Nat):Option zq:=List.rec (motive:=fun _=>Option zq) none (fun p _ ih=>match Nat.beq p.1 g with|true=>some p.2|false=>ih) l
theorem zgA: ∀{t:List (Nat×zq)} {g:Nat} {cf:zq},lookE t g=some cf→ ∃p∈t,p.1=g∧p.2=cf
 | [],g,x,h=>by cases h
 |p::t,g,x,h=>by
  have h:(match Nat.beq p.1 g with|true=>some p.2|false=>lookE t g)=some x:=h
  split at h
  ·rename_i e;cases h;exact⟨p,by simp,Nat.eq_of_beq_eq_true e,rfl⟩
  ·obtain⟨q,hq,e⟩:=zgA h;exact⟨q,by simp[hq],e⟩
def overF (l:List (Nat×zq)) (F:FuncId→Option zq):FuncId→Option zq:=fun g=>match lookE l g with
 |some cf=>some cf
 |none=>F g
theorem over_ok {l:List (Nat×zq)} {F:FuncId→Option zq} (hl: ∀p∈l,FnOk P p.1 p.2) (hF: ∀g cf,F g=some cf→FnOk P g cf): ∀g cf,overF l F g=some cf→FnOk P g cf:=by
 intro g cf h
 unfold overF at h
 split at h
 ·rename_i c hc;cases h;obtain⟨p,hp,rfl,rfl⟩:=zgA hc;exact hl p hp
 ·exact hF g cf h
theorem look_ok {l:List (Nat×zq)} (hl: ∀p∈l,FnOk P p.1 p.2): ∀g cf,lookE l g=some cf→FnOk P g cf:=fun g cf h=>by
 obtain⟨p,hp,rfl,rfl⟩:=zgA h;exact hl p hp
def endsTrue:Option Out→Bool
 |some (.val (.bool true) _)=>true
 |_=>false
theorem endsTrue_some {o:Option Out} (h:endsTrue o=true): ∃h',o=some (.val (.bool true) h'):=by
 unfold endsTrue at h
 split at h
 ·exact⟨_,rfl⟩
 ·cases h
end
end Go.Ideal
