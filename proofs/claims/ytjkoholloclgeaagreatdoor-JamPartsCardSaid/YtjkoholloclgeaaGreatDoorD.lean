/- A part of the proof: the ideal machine, and what the functions of the program answer over it. -/
import Derived.RowKit
import Derived.OpenShut
import Derived.WideKeyArgs
import Derived.ChangeSame
import Derived.Test.YtjkoholloclgeaaGreatDoorC
set_option linter.unusedSimpArgs false
set_option linter.unusedVariables false
set_option linter.unusedSectionVars false
namespace Go.Ideal
variable {F:FuncId→Option zl} {n0:Nat}
theorem E_up {n m:Nat} (h:n≤m) {t:Task} {o:Out} (e:E F n t=some o):E F m t=some o:=E_le h t o e
theorem zke {w:Wd} {s:DS} {t:zk} (h:SRel w s t) (L:List (List Bool)):SRel w (z6 L s) t:=fun p d e=>h p d (zki e).1
theorem zhS {w0:Wd} {M0:VM} {h0:H} {K:KD} {s:DS} {M:VM} {pend:Option CC} (hk:pendD K s M pend) {w:Wd} {h:H} {t:zk} (hst:St n0 w0 M0 h0 w M h) (hs:SRel w s t): ∃o,pendK t h pend=some o∧OutK n0 w0 M0 h0 K o:=by
 unfold pendD at hk
 split at hk
 ·exact⟨_,rfl,w,M,s,hst,hs,hk⟩
 ·exact⟨_,rfl,w,M,s,hst,hs,hk⟩
 ·exact⟨_,rfl,w,M,s,hst,hs,hk⟩
 ·exact hk.elim
theorem zeF: ∀(c:CC) {K:KD} {s:DS} {M:VM},wp (rD F n0) c K s M→CodeD F n0 c K s M:=by
 intro c
 induction c with
 |skip=>intro K s M hk w0 M0 h0 w h t hst hs;exact⟨1,.nrm t h,rfl,w,M,s,hst,hs,hk⟩
 |ops l=>
  intro K s M hk w0 M0 h0 w h t hst hs
  obtain⟨n,o,h1,h2⟩:=ziZ hk hst hs
  exact⟨n+1,o,h1,OutK.mono (K:=⟨K.nrm,fun _ _ _=>False,fun _ _=>False,K.pan⟩) (K':=K) (fun _ _ q=>q) (fun _ _ _ q=>False.elim q) (fun _ _ q=>False.elim q) (fun _ _ _ q=>q) h2⟩
 |draw l=>
  intro K s M hk w0 M0 h0 w h t hst hs
  obtain⟨n,t',h',w',M',s',h1,h2,h3,h4⟩:=ze1 hk hst hs (cs:=[(0,h)]) ⟨⟨rfl,w,hst.r,.refl _ _ _,fun p _ d e=>hs p d e⟩,trivial⟩
  exact⟨n+1,.nrm t' h',by show(zbI (E F n) l [(0,h)] t h).map nrmOf=_;rw[h1];rfl,w',M',s',h2,h3,h4⟩
 |draw2 l x y=>
  intro K s M hk w0 M0 h0 w h t hst hs
  obtain⟨n,t',h',w',M',s',h1,h2,h3,h4⟩:=ze1 hk hst hs (cs:=[(0,h)]) ⟨⟨rfl,w,hst.r,.refl _ _ _,fun p _ d e=>hs p d e⟩,trivial⟩
  suffices hh: ∃h2' w2 M2,zdH x.op y.op t' h'=some h2'∧St n0 w0 M0 h0 w2 M2 h2'∧SRel w2 s' t'∧K.nrm s' M2 by
   obtain⟨h2',w2,M2,a,b,c,d⟩:=hh
   exact⟨n+1,.nrm t' h2',by show((zbI (E F n) l [(0,h)] t h).bind fun r=>(zdH x.op y.op r.1 r.2).map fun h=>Out.nrm r.1 h)=_;rw[h1,Option.bind_some,a];rfl,w2,M2,s',b,c,d⟩
  cases hx:x.op<;>rw[hx] at h4<;>first|exact h4.elim|skip
  cases hy:y.op<;>rw[hy] at h4<;>first|exact h4.elim|skip
  rename_i n1 a b n2 c d
  obtain⟨da,ea,h4⟩:=zbr h4
  obtain⟨db,eb,h4⟩:=zbr h4
  obtain⟨dc,ec,h4⟩:=zbr h4
  obtain⟨dd,ed,h4⟩:=zbr h4
  obtain⟨va,fa,ra⟩:=zby h3 ea
  obtain⟨vb,fb,rb⟩:=zby h3 eb
  obtain⟨vc,fc,rc⟩:=zby h3 ec
  obtain⟨vd,fd,rd⟩:=zby h3 ed
  cases da with
  |ptr i u1 v1=>
   cases dc with
   |ptr j u2 v2=>
    obtain⟨hij,h4⟩:=h4
    obtain⟨M2,hs1,h4⟩:=zbr h4
    obtain⟨M3,hs2,h4⟩:=zbr h4
    obtain⟨b1,o1,g1,rfl,q1,q2,q3,q4,j1,i1,u1,R1,e1,k1,k2⟩:=zf3 h2.r hs1 rb ra
    obtain⟨b2,o2,g2,rfl,p1,p2,p3,p4,j2,i2,u2,R2,e2,l1,l2⟩:=zf3 q4 hs2 rd rc
    cases e1;cases e2
    have live: ∀{M M':VM} {n x j i o},zef n M x (.ptr j i o)=some M'→(M.get j).isSome=true:=fun{M M' n x j i o} hd=>by
     obtain⟨ob,ho,_⟩:=aof (show(M.obj j).bind _=some M' from hd)
     obtain⟨st,hg⟩:=zbj ho
     rw[hg];rfl
    have hne:b1≠b2:=fun e=>by
     have h5:(M2.get i).isSome=true:=by
      obtain⟨ob,ho,h6⟩:=aof (show(M'.obj i).bind _=some M2 from hs1)
      cases ob with
      |rows op sz rs=>
       obtain⟨r,hri,h6⟩:=aof (show(rs[u1]?).bind _=some M2 from h6)
       split at h6
       ·obtain⟨r',hw,rfl⟩:=amf h6
        rw[get_put,if_pos rfl];rfl
       ·cases h6
      |_=>cases h6
     exact hij (q4.inj i j R1 R2 k1 l1 h5 (live hs2) (by rw[k2,l2,e]))
    refine⟨g2,w',M3,?_,(h2.step q3 q4).step p3 p4,h3,h4⟩
    show(a.ev t').bind _=_
    rw[fa,Option.bind_some,fb,Option.bind_some,fc,Option.bind_some,fd,Option.bind_some]
    unfold store2
    show(if Nat.beq b1 b2 then _ else _)=_
    rw[if_neg (fun e=>hne (Nat.eq_of_beq_eq_true e)),if_pos (by rw[q1,p1];rfl),q2,Option.bind_some,p2]
   |_=>exact h4.elim
  |_=>exact h4.elim
 |seq a L b iha ihb=>
  intro K s M hk w0 M0 h0 w h t hst hs
  obtain⟨n,o,h1,h2⟩:=iha hk w0 M0 h0 w h t hst hs
  have step: ∀{m o'},(∀k,max n m≤k→(E F k (.code a t h)).bind (thenK (E F k) L b)=some o')→OutK n0 w0 M0 h0 K o'→ ∃n o,E F n (.code (.seq a L b) t h)=some o∧OutK n0 w0 M0 h0 K o:=fun{m o'} e q=>⟨max n m+1,o',e _ (Nat.le_refl _),q⟩
  cases o with
  |nrm t1 h1'=>
   obtain⟨w1,M1,s1,a1,a2,a3⟩:=h2
   obtain⟨m,o2,b1,b2⟩:=ihb a3 w0 M0 h0 w1 h1' (zbS L t1) a1 (a2.keep L)
   exact step (m:=m) (fun k hk'=>by rw[E_up (by omega) h1];exact E_up (by omega) b1) b2
  |exit i t1 h1'=>exact step (m:=0) (fun k hk'=>by rw[E_up (by omega) h1];rfl) (show OutK n0 w0 M0 h0 K (.exit i t1 h1') from h2)
  |ret t1 h1'=>exact step (m:=0) (fun k hk'=>by rw[E_up (by omega) h1];rfl) (show OutK n0 w0 M0 h0 K (.ret t1 h1') from h2)
  |pan v t1 h1'=>exact step (m:=0) (fun k hk'=>by rw[E_up (by omega) h1];rfl) (show OutK n0 w0 M0 h0 K (.pan v t1 h1') from h2)
  |val=>exact h2.elim
 |cond c a b iha ihb=>
  intro K s M hk w0 M0 h0 w h t hst hs
  obtain⟨d,hd,hk⟩:=zbr hk
  obtain⟨v,hv,hr⟩:=zby hs hd
  unfold wIf at hk
  split at hk
  ·obtain⟨n,o,h1,h2⟩:=iha hk w0 M0 h0 w h t hst hs
   refine⟨n+1,o,?_,h2⟩
   show(c.ev t).bind _=_
   rw[hv,hr.inv_bool];exact h1
  ·obtain⟨n,o,h1,h2⟩:=ihb hk w0 M0 h0 w h t hst hs
   refine⟨n+1,o,?_,h2⟩
   show(c.ev t).bind _=_
   rw[hv,hr.inv_bool];exact h1
  ·exact hk.elim
 |block i b ih=>
  intro K s M hk w0 M0 h0 w h t hst hs
  obtain⟨n,o,h1,h2⟩:=ih hk w0 M0 h0 w h t hst hs
  refine⟨n+1,zix i o,by show(E F n _).map _=_;rw[h1];rfl,?_⟩
  cases o with
  |exit j t1 h1'=>
   obtain⟨w1,M1,s1,a1,a2,a3⟩:=h2
   have a3:blkD i K j s1 M1:=a3
   unfold blkD at a3
   unfold zix
   dsimp only
   split at a3
   ·rename_i e;rw[e];exact⟨w1,M1,s1,a1,a2,a3⟩
   ·rename_i e;rw[e];exact⟨w1,M1,s1,a1,a2,a3⟩
  |_=>exact h2
 |loop L b ih=>
  intro K s M hk w0 M0 h0 w h t hst hs
  exact hk w0 M0 h0 w h t hst (zke hs L)
 |rangeFunc rid L f ps as b _ _=>
  intro K s M hk w0 M0 h0 w h t hst hs
  obtain⟨d,hd,hk⟩:=zbr hk
  obtain⟨v,hv,hr⟩:=zby hs hd
  cases d with
  |fn g a c=>
   obtain⟨a',c',rfl,ha,hc⟩:=hr.inv_fn
   have hle:=Wd.add_le (w:=w) (j:=M.next) (R:=⟨h.next,0,false⟩) (hst.r.rho_none (Nat.le_refl _))
   obtain⟨p1,p2⟩:=hst.r.new (o:=.loop .ready none (z6 L s) ⟨rid,L,ps,as,b⟩) (e:=.loop .ready none (zbS L t) ⟨rid,L,ps,as,b⟩) (sz:=0) (op:=false) (.loop ((hs.mono hle).keep L))
   have hy:VRel (w.add M.next ⟨h.next,0,false⟩) (.yld M.next) (.func (.yield h.next) #[] #[]):=.yld (R:=⟨h.next,0,false⟩) zeD
   obtain⟨n,o,h1,h2⟩:=hk _ _ _ _ p1 (hr.mono hle) (.cons hy .nil)
   cases o with
   |val v h1'=>
    obtain⟨w1,M1,d1,a1,a2,a3,a4⟩:=h2
    obtain⟨ob,ho,a4⟩:=zbr a4
    obtain⟨st,hg⟩:=zbj ho
    have hR:=a1.le.rho _ _ (zeD (w:=w) (j:=M.next) (R:=⟨h.next,0,false⟩))
    obtain⟨hz,e,he,hro⟩:=a2.obj _ _ st _ hg hR
    have hst1:=(hst.step p2 p1).step a1 a2
    have hs1:=(hs.mono hle).mono a1.le
    have fin: ∀{o'},zfx h.next t h1' e=some o'→E F (n+1) (.code (.rangeFunc rid L f ps as b) t h)=some o':=fun{o'} hq=>by
     show((f.ev t).bind fun f=>(isFn f).bind fun f=>(E F n (.call f [.func (.yield h.next) #[] #[]] (h.new (.loop .ready none (zbS L t) ⟨rid,L,ps,as,b⟩)))).bind fun o=>(zf0 o).bind fun x=>(x.2.get h.next).bind (zfx h.next t x.2))=_
     rw[hv,Option.bind_some]
     show((E F n _).bind _)=_
     rw[h1,Option.bind_some]
     show((h1'.get h.next).bind _)=_
     rw[he,Option.bind_some,hq]
    cases hro with
    | @loop st1 pend sl sl' rc hsl=>
      have hput:=a2.put hg hR (o:=.loop .exhausted pend sl rc) (e:=.loop .exhausted pend sl' rc) (.loop hsl)
      cases st1 with
      |ready=>
       obtain⟨o',q1,q2⟩:=zhS a4 (hst1.step hput.2 hput.1) hs1
       exact⟨n+1,o',fin q1,q2⟩
      |done=>
       obtain⟨o',q1,q2⟩:=zhS a4 (hst1.step hput.2 hput.1) hs1
       exact⟨n+1,o',fin q1,q2⟩
      |_=>exact a4.elim
    |rows=>exact a4.elim
    |map=>exact a4.elim
   |pan=>obtain⟨_,_,_,_,_,_,q⟩:=h2;exact q.elim
   |nrm=>exact h2.elim
   |exit=>exact h2.elim
   |ret=>exact h2.elim
  |_=>exact hk.elim
 |exit i=>intro K s M hk w0 M0 h0 w h t hst hs;exact⟨1,.exit i t h,rfl,w,M,s,hst,hs,hk⟩
 |ret=>intro K s M hk w0 M0 h0 w h t hst hs;exact⟨1,.ret t h,rfl,w,M,s,hst,hs,hk⟩
 |scope b l1 r1 l2 r2=>intro K s M hk;exact hk
def scopeX (F:FuncId→Option zl) (n0:Nat) (l1:Nat) (r1:CC) (l2:Nat) (r2:CC) (K:KD) (i:Nat) (s:DS) (M:VM):Prop:=match Nat.beq i (zbk l1) with
 |true=>zb2 F n0 r1 l1 r1 l2 r2 K s M
 |false=>match Nat.beq i (zbk l2) with
  |true=>zb2 F n0 r2 l1 r1 l2 r2 K s M
  |false=>K.ext i s M
theorem zb2.step {b:CC} {l1:Nat} {r1:CC} {l2:Nat} {r2:CC} {K:KD} {s:DS} {M:VM} (h:wp (rD F n0) b ⟨K.nrm,scopeX F n0 l1 r1 l2 r2 K,K.ret,K.pan⟩ s M):zb2 F n0 b l1 r1 l2 r2 K s M:=by
 intro w0 M0 h0 w hp t hst hs
 obtain⟨n,o,h1,h2⟩:=zeF b h w0 M0 h0 w hp t hst hs
 have plain:scopeK (E F n) l1 r1 l2 r2 o=some o→OutK n0 w0 M0 h0 K o→ ∃n o,E F n (.code (.scope b l1 r1 l2 r2) t hp)=some o∧OutK n0 w0 M0 h0 K o:=fun e k=>⟨n+2,o,by show(E F n (.code b t hp)).bind (scopeK (E F n) l1 r1 l2 r2)=_;rw[h1,Option.bind_some,e],k⟩
 cases o with
 |nrm t1 h1'=>exact plain rfl h2
 |ret t1 h1'=>exact plain rfl h2
 |pan v t1 h1'=>exact plain rfl h2
 |val=>exact h2.elim
 |exit i t1 h1'=>
  obtain⟨w1,M1,s1,a1,a2,a3⟩:=h2
  have a3:scopeX F n0 l1 r1 l2 r2 K i s1 M1:=a3
  have jump: ∀{r:CC},(∀g:IH,zbB g l1 r1 l2 r2 i t1 h1'=g (.scope r l1 r1 l2 r2 t1 h1'))→zb2 F n0 r l1 r1 l2 r2 K s1 M1→ ∃n o,E F n (.code (.scope b l1 r1 l2 r2) t hp)=some o∧OutK n0 w0 M0 h0 K o:=by
   intro r e a3
   obtain⟨m,o2,b1,b2⟩:=a3 w0 M0 h0 w1 h1' t1 a1 a2
   cases m with
   |zero=>cases b1
   |succ m=>
    have b1:E F m (.scope r l1 r1 l2 r2 t1 h1')=some o2:=b1
    refine⟨max n m+2,o2,?_,b2⟩
    show(E F (max n m) (.code b t hp)).bind (scopeK (E F (max n m)) l1 r1 l2 r2)=_
    rw[E_up (Nat.le_max_left n m) h1,Option.bind_some]
    show zbB _ _ _ _ _ _ _ _=_
    rw[e];exact E_up (Nat.le_max_right n m) b1
  unfold scopeX at a3
  cases e1:Nat.beq i (zbk l1) with
  |true=>rw[e1] at a3;exact jump (fun g=>by unfold zbB;rw[e1]) a3
  |false=>
   rw[e1] at a3
   cases e2:Nat.beq i (zbk l2) with
   |true=>rw[e2] at a3;exact jump (fun g=>by unfold zbB;rw[e1,e2]) a3
   |false=>
    rw[e2] at a3
    exact plain (by show zbB _ _ _ _ _ _ _ _=_;unfold zbB;rw[e1,e2]) ⟨w1,M1,s1,a1,a2,a3⟩
theorem zcn.step {L:List (List Bool)} {b:CC} {K:KD} {s:DS} {M:VM} (h:wp (rD F n0) b ⟨fun s M=>zcn F n0 L b K (z6 L s) M,K.ext,K.ret,K.pan⟩ (z6 L s) M):zcn F n0 L b K s M:=by
 intro w0 M0 h0 w hp t hst hs
 obtain⟨n,o,h1,h2⟩:=zeF b h w0 M0 h0 w hp (zbS L t) hst (hs.keep L)
 cases o with
 |nrm t1 h1'=>
  obtain⟨w1,M1,s1,a1,a2,a3⟩:=h2
  obtain⟨m,o2,b1,b2⟩:=a3 w0 M0 h0 w1 h1' t1 a1 (zke a2 L)
  exact⟨max n m+1,o2,by show(E F _ (.code b _ hp)).bind _=_;rw[E_up (Nat.le_max_left n m) h1];exact E_up (Nat.le_max_right n m) b1,b2⟩
 |exit i t1 h1'=>exact⟨n+1,.exit i t1 h1',by show(E F _ (.code b _ hp)).bind _=_;rw[h1];rfl,(show OutK n0 w0 M0 h0 K (.exit i t1 h1') from h2)⟩
 |ret t1 h1'=>exact⟨n+1,.ret t1 h1',by show(E F _ (.code b _ hp)).bind _=_;rw[h1];rfl,(show OutK n0 w0 M0 h0 K (.ret t1 h1') from h2)⟩
 |pan v t1 h1'=>exact⟨n+1,.pan v t1 h1',by show(E F _ (.code b _ hp)).bind _=_;rw[h1];rfl,(show OutK n0 w0 M0 h0 K (.pan v t1 h1') from h2)⟩
 |val=>exact h2.elim
theorem resD_rel {w:Wd} {M:VM} {h:H} (hr:HRel w M h) {s:DS} {t:zk} (hs:SRel w s t) {r:CR} {d:DV} (hd:resD s M r=some d): ∃v,resV t h r=some v∧VRel w d v:=by
 cases r with
 |tmp p=>exact hs p d hd
 |cell n p=>
  obtain⟨a,ha,hd⟩:=aof (show(getS s p).bind _=some d from hd)
  obtain⟨r,hr1,hd⟩:=aof hd
  obtain⟨v,hv,r1⟩:=hs p a ha
  obtain⟨b,off,cs,e,us,tl,rfl,hg,hb,hsp,hl⟩:=zhx hr hr1 r1
  cases n with
  |some n=>
   obtain⟨y,hy,rfl⟩:=amf (show(zed n r).map DV.agg=some d from hd)
   obtain⟨hn,rfl⟩:=zeG hy
   refine⟨_,?_,.agg_of (hl.take n)⟩
   show(t.get p).bind _=_
   rw[hv]
   show(h.readN b off n).map _=_
   rw[zdQ hg hsp (by rw[←hl.len];exact hn) hl.clean];rfl
  |none=>
   have hd:oneD r=some d:=hd
   unfold oneD at hd
   split at hd
   ·cases hd
    obtain⟨u,us',rfl,hu,hus⟩:=hl.head
    refine⟨u,?_,hu⟩
    show(t.get p).bind _=_
    rw[hv]
    show(h.readN b off 1).bind oneOf=_
    rw[zdQ hg hsp (by simp) hl.clean];rfl
   ·cases hd
theorem resDL_rel {w:Wd} {M:VM} {h:H} (hr:HRel w M h) {s:DS} {t:zk} (hs:SRel w s t): ∀{rs:List CR} {ds:List DV},resDL s M rs=some ds→ ∃vs,allO (resV t h) rs=some vs∧LRel w ds vs
 | [],ds,h=>by cases h;exact⟨[],rfl,.nil⟩
 |r::rs,ds,hd=>by
  obtain⟨d,h1,hd⟩:=aof hd
  obtain⟨l,h2,rfl⟩:=amf hd
  obtain⟨v,h3,h4⟩:=resD_rel hr hs h1
  obtain⟨vs,h5,h6⟩:=resDL_rel hr hs h2
  exact⟨v::vs,by show(resV t h r).bind _=_;rw[h3];show(allO _ _).map _=_;rw[h5];rfl,.cons h4 h6⟩
theorem tupleD_rel {w:Wd} {ds:List DV} {vs:List Value} (h:LRel w ds vs):VRel w (zhh ds) (zf1 vs):=by
 match ds,vs,h with
 | [],vs,h=>rw[h.inv_nil];exact .tup_of .nil
 | [d],vs,h=>
   obtain⟨v,r,rfl,hv,hr⟩:=h.head
   rw[hr.inv_nil];exact hv
 |d::e::l,vs,h=>
  obtain⟨v,r,rfl,hv,hr⟩:=h.head
  obtain⟨v2,r2,rfl,hv2,hr2⟩:=hr.head
  exact .tup_of h
theorem zgr {w w0:Wd} {M M0:VM} {h h0:H} {s:DS} {t:zk} {rs:List CR} {k kp:DV→VM→Prop} (hst:St n0 w0 M0 h0 w M h) (hs:SRel w s t) (hk:endD rs k s M): ∃o,zgT rs t h=some o∧OutC w0 M0 h0 k kp o∧(∃v,o=.val v h):=by
 obtain⟨ds,hd,hk⟩:=zbr hk
 obtain⟨vs,h1,h2⟩:=resDL_rel hst.r hs hd
 exact⟨.val (zf1 vs) h,by unfold zgT;rw[h1];rfl,⟨w,M,_,hst.hi,hst.r,tupleD_rel h2,hk⟩,_,rfl⟩
theorem argsD_rel {w:Wd}: ∀{ds:List DV} {vs:List Value} {i:Nat} {s:DS} {t:zk},LRel w ds vs→SRel w s t→SRel w (argsD ds i s) (zb0 vs i t)
 | [],vs,i,s,t,h,hs=>by rw[h.inv_nil];exact hs
 |d::ds,vs,i,s,t,h,hs=>by
  obtain⟨v,r,rfl,hv,hr⟩:=h.head
  exact argsD_rel (ds:=ds) (vs:=r) hr (hs.set hv (bits i))
theorem handE_sound {f:DV} {l:List DV} {p:Option DV} {rs:List CR} {k kp:DV→VM→Prop} {s:DS} {M:VM} (hk:HandD F f l p M fun M=>endD rs k s M) {w0 w:Wd} {M0:VM} {h0 h:H} {t:zk} {fv:Value} {vs:List Value} {pv:Option Value} (hst:St n0 w0 M0 h0 w M h) (hs:SRel w s t) (hf:VRel w f fv) (hl:LRel w l vs) (hp:ORelO w p pv):
 ∃n o,(E F n (.hand fv vs pv h)).bind (resK1 rs t)=some o∧OutC w0 M0 h0 k kp o:=by
 obtain⟨n,v,h1,w1,M1,e,a1,a2,a3⟩:=hk w h fv vs pv hst.r hf hl hp
 obtain⟨o,h2,h3,-⟩:=zgr (kp:=kp) (hst.step a1 a2) (hs.mono a1.le) a3
 exact⟨n,o,by rw[e];exact h2,h3⟩
theorem zt.func {g:Nat} {a c args:List DV} {M:VM} {k kp:DV→VM→Prop} {cf:zl} (hF:F g=some cf) (hp:cf.prim=none) (h:wFunc (rD F) cf (a++args++c) M k kp):zt F (.fn g a c) args M k kp:=by
 intro w hp0 fv vs hr hf hv
 obtain⟨a',c',rfl,ha,hc⟩:=hf.inv_fn
 have hall:=(ha.append hv).append hc
 obtain⟨hlen,hw⟩:=h
 have hst:St M.next w M hp0 w M hp0:=⟨rfl,hr,.refl _ _ _,hr⟩
 obtain⟨n,o,h1,h2⟩:=zeF cf.body hw w M hp0 w hp0 (zb0 (a'++vs++c') 0 .nil) hst (argsD_rel hall .nil)
 have fin: ∀{m o'},n≤m→bodyK (E F m) cf.results cf.dfr o=some o'→E F (m+1) (.call (.func (.func g) ⟨a'⟩ ⟨c'⟩) vs hp0)=some o':=fun{m o'} hm e=>by
  show((F g).bind fun cf=>zdP (E F m) cf (a'++vs++c') hp0)=_
  rw[hF,Option.bind_some]
  unfold zdP
  rw[hp]
  show zbz _ _ _ _=_
  unfold zbz
  rw[if_pos (by rw[Nat.ble_eq,←hall.len];exact hlen),E_up hm h1,Option.bind_some,e]
 cases hd:cf.dfr with
 |none=>
  rw[hd] at h2
  cases o with
  |nrm t1 h1'=>
   obtain⟨w1,M1,s1,a1,a2,a3⟩:=h2
   obtain⟨o',e1,e2,-⟩:=zgr (kp:=kp) a1 a2 a3
   exact⟨n+1,o',fin (Nat.le_refl _) (by rw[hd];exact e1),e2⟩
  |ret t1 h1'=>
   obtain⟨w1,M1,s1,a1,a2,a3⟩:=h2
   obtain⟨o',e1,e2,-⟩:=zgr (kp:=kp) a1 a2 a3
   exact⟨n+1,o',fin (Nat.le_refl _) (by rw[hd];exact e1),e2⟩
  |pan v t1 h1'=>
   obtain⟨w1,M1,s1,d,a1,a2,a3,a4⟩:=h2
   exact⟨n+1,.pan v .nil h1',fin (Nat.le_refl _) (by rw[hd];rfl),w1,M1,d,a1.hi,a1.r,a3,a4⟩
  |exit=>obtain⟨w1,M1,s1,a1,a2,a3⟩:=h2;exact a3.elim
  |val=>exact h2.elim
 |some df=>
  rw[hd] at h2
  cases o with
  |nrm t1 h1'=>
   obtain⟨w1,M1,s1,a1,a2,a3⟩:=h2
   obtain⟨f,hf1,a3⟩:=zbr a3
   obtain⟨fv,hf2,hf3⟩:=zby a2 hf1
   cases f with
   |fn g2 fa fc=>
    obtain⟨l,hl1,a3⟩:=zbr a3
    obtain⟨lv,hl2,hl3⟩:=zfK a2 hl1
    have hst1:St M1.next w1 M1 h1' w1 M1 h1':=⟨rfl,a1.r,.refl _ _ _,a1.r⟩
    obtain⟨n2,o2,b1,b2⟩:=zeF df.rest a3 w1 M1 h1' w1 h1' (zbS df.L t1) hst1 (a2.keep df.L)
    have hisf:isFn fv=some fv:=by cases hf3;rfl
    have fin2: ∀{m o'},n≤m→n2≤m→doneK (E F m) fv lv cf.results o2=some o'→E F (m+1) (.call (.func (.func g) ⟨a'⟩ ⟨c'⟩) vs hp0)=some o':=fun{m o'} hm hm2 e=>fin hm (by
     rw[hd]
     show((df.f.ev t1).bind fun f=>(isFn f).bind fun f=>(evL t1 df.args).bind fun l=>(E F m (.code df.rest (zbS df.L t1) h1')).bind (doneK (E F m) f l cf.results))=_
     rw[hf2,Option.bind_some,hisf,Option.bind_some,hl2,Option.bind_some,E_up hm2 b1,Option.bind_some,e])
    have done: ∀{t2 h2' p pv} {s2:DS} {M2:VM} {w2:Wd},St M1.next w1 M1 h1' w2 M2 h2'→SRel w2 s2 t2→ORelO w2 p pv→HandD F (.fn g2 fa fc) l p M2 (fun M=>endD cf.results k s2 M)→(∀m,doneK (E F m) fv lv cf.results o2=(E F m (.hand fv lv pv h2')).bind (resK1 cf.results t2))→
     ∃n o,E F n (.call (.func (.func g) ⟨a'⟩ ⟨c'⟩) vs hp0)=some o∧OutC w M hp0 k kp o:=fun{t2 h2' p pv s2 M2 w2} c1 c2 c4 c5 c6=>by
     have c1':St M.next w M hp0 w2 M2 h2':=a1.step c1.hi c1.r
     obtain⟨m,o3,d1,d2⟩:=handE_sound (kp:=kp) c5 c1' c2 (hf3.mono c1.hi.le) (hl3.mono c1.hi.le) c4
     obtain⟨x,hx,hy⟩:=aof d1
     refine⟨max (max n n2) m+1,o3,fin2 (by omega) (by omega) ?_,d2⟩
     rw[c6,E_up (by omega) hx,Option.bind_some,hy]
    cases o2 with
    |nrm t2 h2'=>
     obtain⟨w2,M2,s2,c1,c2,c3⟩:=b2
     exact done (p:=none) (pv:=none) c1 c2 trivial c3 fun m=>rfl
    |ret t2 h2'=>
     obtain⟨w2,M2,s2,c1,c2,c3⟩:=b2
     exact done (p:=none) (pv:=none) c1 c2 trivial c3 fun m=>rfl
    |pan v t2 h2'=>
     obtain⟨w2,M2,s2,d2,c1,c2,c3,c4⟩:=b2
     exact done (p:=some d2) (pv:=some v) c1 c2 c3 c4 fun m=>rfl
    |exit=>obtain⟨_,_,_,_,_,q⟩:=b2;exact q.elim
    |val=>exact b2.elim
   |_=>exact a3.elim
  |pan v t1 h1'=>
   obtain⟨w1,M1,s1,d,a1,a2,a3,a4⟩:=h2
   exact⟨n+1,.pan v .nil h1',fin (Nat.le_refl _) (by rw[hd];rfl),w1,M1,d,a1.hi,a1.r,a3,a4⟩
  |ret=>obtain⟨w1,M1,s1,a1,a2,a3⟩:=h2;exact a3.elim
  |exit=>obtain⟨w1,M1,s1,a1,a2,a3⟩:=h2;exact a3.elim
  |val=>exact h2.elim
theorem setSD_rel {w:Wd}: ∀{ps:List (List Bool)} {ds:List DV} {vs:List Value} {s s2:DS} {t:zk},setSD ps ds s=some s2→LRel w ds vs→SRel w s t→ ∃t2,zcU ps vs t=some t2∧SRel w s2 t2
 | [],[],vs,s,s2,t,h,hl,hs=>by rw[hl.inv_nil];cases h;exact⟨t,rfl,hs⟩
 | [],_::_,vs,s,s2,t,h,hl,hs=>by cases h
 |_::_,[],vs,s,s2,t,h,hl,hs=>by cases h
 |p::ps,d::ds,vs,s,s2,t,h,hl,hs=>by
  obtain⟨v,r,rfl,hv,hr⟩:=hl.head
  exact setSD_rel (ps:=ps) h hr (hs.set hv p)
theorem zt.yield {l:Nat} {args:List DV} {M:VM} {k kp:DV→VM→Prop} {st:LoopState} {pend:Option CC} {sl:DS} {rc:RC} (ho:M.obj l=some (.loop st pend sl rc)) (h:wRound (rD F M.next) l sl rc args M k):zt F (.yld l) args M k kp:=by
 intro w hp0 fv vs hr hf hv
 cases hf with
 | @yld _ R hR=>
   obtain⟨stt,hg⟩:=zbj ho
   obtain⟨hz,e,he,hro⟩:=hr.obj _ _ _ R hg hR
   cases hro with
   | @loop _ _ _ sl' _ hsl=>
     have hst:St M.next w M hp0 w M hp0:=⟨rfl,hr,.refl _ _ _,hr⟩
     obtain⟨s,hs,h⟩:=zbr h
     obtain⟨t2,ht2,hs2⟩:=setSD_rel hs hv (hsl.keep rc.L)
     obtain⟨n,o,h1,h2⟩:=zeF rc.as h w M hp0 w hp0 t2 hst hs2
     have fin: ∀{m o'},n≤m→ze6 (E F m) R.blk rc.b o=some o'→E F (m+1) (.call (.func (.yield R.blk) #[] #[]) vs hp0)=some o':=fun{m o'} hm e'=>by
      show(hp0.get R.blk).bind (runRound (E F m) R.blk vs hp0)=_
      rw[he,Option.bind_some]
      show((zcU rc.ps vs (zbS rc.L sl')).bind fun s=>(E F m (.code rc.as s hp0)).bind (ze6 (E F m) R.blk rc.b))=_
      rw[ht2,Option.bind_some,E_up hm h1,Option.bind_some,e']
     cases o with
     |nrm t1 h1'=>
      obtain⟨w1,M1,s1,a1,a2,a3⟩:=h2
      obtain⟨ob,ho1,a3⟩:=zbr a3
      obtain⟨st1,hg1⟩:=zbj ho1
      have hR1:=a1.hi.le.rho _ _ hR
      obtain⟨hz1,e1,he1,hro1⟩:=a1.r.obj _ _ st1 R hg1 hR1
      cases hro1 with
      |rows=>exact a3.elim
      |map=>exact a3.elim
      | @loop lst pend1 sl1 sl1' rc1 hsl1=>
        cases lst with
        |ready=>
         obtain⟨p1,p2⟩:=a1.r.put hg1 hR1 (o:=.loop .busy pend1 sl1 rc1) (e:=.loop .busy pend1 sl1' rc1) (.loop hsl1)
         obtain⟨n2,o2,b1,b2⟩:=zeF rc.b a3 w M hp0 w1 (h1'.put R.blk (.loop .busy pend1 sl1' rc1)) t1 (a1.step p2 p1) a2
         have fin2: ∀{o'},finRound R.blk o2=some o'→OutC w M hp0 k kp o'→ ∃n o,E F n (.call (.func (.yield R.blk) #[] #[]) vs hp0)=some o∧OutC w M hp0 k kp o:=fun{o'} e' q=>by
          refine⟨max n n2+1,o',fin (Nat.le_max_left _ _) ?_,q⟩
          show(h1'.get R.blk).bind _=_
          rw[he1,Option.bind_some]
          show(E F _ _).bind _=_
          rw[E_up (Nat.le_max_right _ _) b1,Option.bind_some,e']
         have zih: ∀{pd:Option CC} {M2:VM} {w2:Wd} {h2:H},finD l k pd M2→St M.next w M hp0 w2 M2 h2→ ∃o',(h2.get R.blk).bind (zig R.blk pd h2)=some o'∧OutC w M hp0 k kp o':=fun{pd M2 w2 h2} q c1=>by
          obtain⟨ob2,ho2,q⟩:=zbr q
          obtain⟨st2,hg2⟩:=zbj ho2
          have hR2:=c1.hi.le.rho _ _ hR
          obtain⟨hz2,e2,he2,hro2⟩:=c1.r.obj _ _ st2 R hg2 hR2
          cases hro2 with
          |rows=>exact q.elim
          |map=>exact q.elim
          | @loop lst2 pend2 sl2 sl2' rc2 hsl2=>
            obtain⟨p1,p2⟩:=c1.r.put hg2 hR2 (o:=.loop (stOf pd) pd sl2 rc2) (e:=.loop (stOf pd) pd sl2' rc2) (.loop hsl2)
            exact⟨.val (.bool pd.isNone) (h2.put R.blk (.loop (stOf pd) pd sl2' rc2)),by rw[he2];rfl,_,_,_,(c1.step p2 p1).hi,p1,.bool _,q⟩
         cases o2 with
         |nrm t3 h3=>
          obtain⟨w2,M2,s2,c1,c2,c3⟩:=b2
          obtain⟨o',q1,q2⟩:=zih c3 c1
          exact fin2 q1 q2
         |ret t3 h3=>
          obtain⟨w2,M2,s2,c1,c2,c3⟩:=b2
          obtain⟨o',q1,q2⟩:=zih c3 c1
          exact fin2 q1 q2
         |exit i t3 h3=>
          obtain⟨w2,M2,s2,c1,c2,c3⟩:=b2
          obtain⟨o',q1,q2⟩:=zih c3 c1
          exact fin2 q1 q2
         |pan=>obtain⟨_,_,_,_,_,_,_,q⟩:=b2;exact q.elim
         |val=>exact b2.elim
        |_=>exact a3.elim
     |exit=>obtain⟨_,_,_,_,_,q⟩:=h2;exact q.elim
     |ret=>obtain⟨_,_,_,_,_,q⟩:=h2;exact q.elim
     |pan=>obtain⟨_,_,_,_,_,_,_,q⟩:=h2;exact q.elim
     |val=>exact h2.elim
theorem zt.mono {f:DV} {args:List DV} {M:VM} {k k' kp kp':DV→VM→Prop} (h:zt F f args M k kp) (h1: ∀d M,k d M→k' d M) (h2: ∀d M,kp d M→kp' d M):zt F f args M k' kp':=fun w hp fv vs a b c=>by
 obtain⟨n,o,e,q⟩:=h w hp fv vs a b c
 refine⟨n,o,e,?_⟩
 cases o with
 |val=>obtain⟨w1,M1,d,a1,a2,a3,a4⟩:=q;exact⟨w1,M1,d,a1,a2,a3,h1 _ _ a4⟩
 |pan=>obtain⟨w1,M1,d,a1,a2,a3,a4⟩:=q;exact⟨w1,M1,d,a1,a2,a3,h2 _ _ a4⟩
 |_=>exact q
end Go.Ideal
namespace Go.Ideal
inductive zG (n:Nat):DV→Prop where
 |int (k:IntKind) (a:Int):zG n (.int k a)
 |bool (b:Bool):zG n (.bool b)
 |str (s:ByteArray):zG n (.str s)
 |nilS:zG n .nilS
 |nilP:zG n .nilP
 |nilM:zG n .nilM
 |nilF:zG n .nilF
 |nilI:zG n .nilI
 |agg {l:List DV} (h: ∀d∈l,zG n d):zG n (.agg l)
 |tup {l:List DV} (h: ∀d∈l,zG n d):zG n (.tup l)
 |lst {s:Nat} {rows:List (List DV)} (h: ∀r∈rows,∀d∈r,zG n d):zG n (.lst s rows)
 |pl {s i off:Nat} {rows:List (List DV)} (h: ∀r∈rows,∀d∈r,zG n d):zG n (.pl s rows i off)
 |fn (g:Nat) {a c:List DV} (h: ∀d∈a,zG n d) (h': ∀d∈c,zG n d):zG n (.fn g a c)
 |ifc (t:Nat) {d:DV} (h:zG n d):zG n (.ifc t d)
 |ms {j lo len cap:Nat} (h:j<n):zG n (.ms j lo len cap)
 |ptr {j i off:Nat} (h:j<n):zG n (.ptr j i off)
 |map {j:Nat} (h:j<n):zG n (.map j)
 |yld {j:Nat} (h:j<n):zG n (.yld j)
inductive Frz (M M2:VM):DV→DV→Prop where
 |refl (d:DV):Frz M M2 d d
 |nilS (s:Nat):Frz M M2 .nilS (.lst s [])
 |agg {l l2:List DV} (hl:l.length=l2.length) (h: ∀(k:Nat) d e,l[k]? =some d→l2[k]? =some e→Frz M M2 d e):Frz M M2 (.agg l) (.agg l2)
 |tup {l l2:List DV} (hl:l.length=l2.length) (h: ∀(k:Nat) d e,l[k]? =some d→l2[k]? =some e→Frz M M2 d e):Frz M M2 (.tup l) (.tup l2)
 |ifc (t:Nat) {d e:DV} (h:Frz M M2 d e):Frz M M2 (.ifc t d) (.ifc t e)
 |ms {j lo len cap sz:Nat} {op:Bool} {rs rows:List (List DV)} (ho:M.obj j=some (.rows op sz rs)) (hn:M2.get j=none) (hb:lo+len≤rs.length) (hs: ∀r∈rows,r.length=sz) (hr:rows.length=len)
   (h: ∀(k:Nat) d e,(((rs.drop lo).take len).flatten)[k]? =some d→rows.flatten[k]? =some e→Frz M M2 d e):Frz M M2 (.ms j lo len cap) (.lst sz rows)
 |ptr {j i off sz:Nat} {op:Bool} {rs rows:List (List DV)} (ho:M.obj j=some (.rows op sz rs)) (hn:M2.get j=none) (hs: ∀r∈rows,r.length=sz) (hr:rows.length=rs.length)
   (h: ∀(k:Nat) d e,rs.flatten[k]? =some d→rows.flatten[k]? =some e→Frz M M2 d e):Frz M M2 (.ptr j i off) (.pl sz rows i off)
inductive FrzO (M M2:VM):MO→MO→Prop where
 |refl (o:MO):FrzO M M2 o o
 |rows {op:Bool} {sz:Nat} {rs rows:List (List DV)} (hs: ∀r∈rows,r.length=sz) (hr:rows.length=rs.length) (h: ∀(k:Nat) d e,rs.flatten[k]? =some d→rows.flatten[k]? =some e→Frz M M2 d e):FrzO M M2 (.rows op sz rs) (.rows op sz rows)
inductive BelowO (n:Nat):MO→Prop where
 |rows {op:Bool} {sz:Nat} {rs:List (List DV)} (h: ∀r∈rs,∀d∈r,zG n d):BelowO n (.rows op sz rs)
 |map {es:List (DV×DV)} (h: ∀e∈es,zG n e.1∧zG n e.2):BelowO n (.map es)
 |loop {st:LoopState} {pend:Option CC} {sl:DS} {rc:RC} (h: ∀x∈sl,zG n x.2):BelowO n (.loop st pend sl rc)
structure Conv (M M' M2:VM):Prop where
 nx:M.next≤M2.next
 obj: ∀j,(M2.get j=M.get j∧(j<M.next→M'.get j=M.get j))∨M2.get j=none∨
  ∃o st o',M2.get j=some (o,st)∧j<M2.next∧M.next≤st∧st<M2.next∧M'.obj j=some o'∧FrzO M' M2 o' o∧BelowO M2.next o
section
variable {w:Wd} {M' M2:VM} {h:H}
def FB (w:Wd) (M' M2:VM) (b:Nat):Prop:= ∃j R,w.rho j=some R∧R.blk=b∧(M'.get j).isSome=true∧M2.get j=none
open Classical in
noncomputable def cw (w:Wd) (M' M2:VM) (h:H):Wd:=⟨fun j=>if j<M2.next then w.rho j else none,fun b=>match w.Z b with
 |some z=>some z
 |none=>if FB w M' M2 b then(match h.get b with|some (.cells cs e)=>some (cs,e)|_=>none) else none⟩
theorem zkp {j:Nat} (hj:j<M2.next) {R:RBd} (hR:w.rho j=some R):(cw w M' M2 h).rho j=some R:=by
 show(if j<M2.next then _ else _)=_;rw[if_pos hj];exact hR
theorem zir {j:Nat} {R:RBd} (hR:(cw w M' M2 h).rho j=some R):j<M2.next∧w.rho j=some R:=by
 have hR:(if j<M2.next then w.rho j else none)=some R:=hR
 split at hR
 ·exact⟨‹_›,hR⟩
 ·cases hR
theorem cw_Z {b:Nat} {z:List Value×Nat} (hz:w.Z b=some z):(cw w M' M2 h).Z b=some z:=by
 show(match w.Z b with|some z=>some z|none=>_)=_;rw[hz]
theorem cw_FB {b:Nat} {cs:List Value} {e:Nat} (hz:w.Z b=none) (hf:FB w M' M2 b) (hg:h.get b=some (.cells cs e)):(cw w M' M2 h).Z b=some (cs,e):=by
 show(match w.Z b with|some z=>some z|none=>_)=_;rw[hz]
 dsimp only
 rw[if_pos hf,hg]
theorem cw_Z' {b:Nat} {z:List Value×Nat} (hz:(cw w M' M2 h).Z b=some z):w.Z b=some z∨(FB w M' M2 b∧h.get b=some (.cells z.1 z.2)):=by
 have hz:(match w.Z b with|some z=>some z|none=>_)=some z:=hz
 split at hz
 ·rename_i e;cases hz;exact .inl e
 ·split at hz
  ·rename_i hf
   split at hz
   ·rename_i hg;cases hz;exact .inr ⟨hf,hg⟩
   ·cases hz
  ·cases hz
theorem zG.rel {d:DV} {v:Value} (hv:VRel w d v):zG M2.next d→VRel (cw w M' M2 h) d v:=by
 induction hv with
 |int k n=>intro _;exact .int k n
 |bool b=>intro _;exact .bool b
 |str s=>intro _;exact .str s
 |nilS=>intro _;exact .nilS
 |nilP=>intro _;exact .nilP
 |nilM=>intro _;exact .nilM
 |nilF=>intro _;exact .nilF
 |nilI=>intro _;exact .nilI
 |agg hl _ ih=>intro hb;cases hb with|agg hb=>exact .agg hl fun k d v a b=>ih k d v a b (hb d (List.mem_of_getElem? a))
 |tup hl _ ih=>intro hb;cases hb with|tup hb=>exact .tup hl fun k d v a b=>ih k d v a b (hb d (List.mem_of_getElem? a))
 |fn g ha hc _ _ ih ih'=>intro hb;cases hb with|fn _ h1 h2=>exact .fn g ha hc (fun k d v a b=>ih k d v a b (h1 d (List.mem_of_getElem? a))) (fun k d v a b=>ih' k d v a b (h2 d (List.mem_of_getElem? a)))
 |yld hR=>intro hb;cases hb with|yld hb=>exact .yld (zkp hb hR)
 |ifc t _ ih=>intro hb;cases hb with|ifc _ hb=>exact .ifc t (ih hb)
 |map hR=>intro hb;cases hb with|map hb=>exact .map (zkp hb hR)
 |ptr hR=>intro hb;cases hb with|ptr hb=>exact .ptr (zkp hb hR)
 |ms hR ho hc=>intro hb;cases hb with|ms hb=>exact .ms (zkp hb hR) ho hc
 |lst hz hs hb _ ho hc hn ih=>intro hq;cases hq with|lst hq=>exact .lst (cw_Z hz) hs hb (fun k d v a b=>ih k d v a b (by
   obtain⟨r,hr1,hr2⟩:=List.mem_flatten.1 (List.mem_of_getElem? a);exact hq r hr1 d hr2)) ho hc hn
 |lst0 hc hsp=>intro _;exact .lst0 hc hsp
 |pl hz hs hb _ ih=>intro hq;cases hq with|pl hq=>exact .pl (cw_Z hz) hs hb (fun k d v a b=>ih k d v a b (by
   obtain⟨r,hr1,hr2⟩:=List.mem_flatten.1 (List.mem_of_getElem? a);exact hq r hr1 d hr2))
theorem zct {l m:List DV} (hl:l.length=m.length) {k:Nat} {e:DV} (he:m[k]? =some e): ∃d,l[k]? =some d:=by
 have:=(List.getElem?_eq_some_iff.1 he).1
 exact⟨l[k]'(by omega),List.getElem?_eq_getElem (by omega)⟩
theorem Frz.rel (hr:HRel w M' h) {d e:DV} (hf:Frz M' M2 d e): ∀{v:Value},VRel w d v→zG M2.next e→VRel (cw w M' M2 h) e v:=by
 induction hf with
 |refl d=>intro v hv hb;exact zG.rel hv hb
 |nilS s=>intro v hv hb;cases hv;exact .lst0 (by decide) (fun a e=>by cases e)
 |agg hl _ ih=>
  intro v hv hb
  cases hb with
  |agg hb=>
   obtain⟨vs,rfl,hlr⟩:=hv.inv_agg
   refine .agg (hl.symm.trans hlr.len) fun k e v a b=> ?_
   obtain⟨d,hd⟩:=zct hl a
   exact ih k d e hd a (hlr.at_ k d v hd b) (hb e (List.mem_of_getElem? a))
 |tup hl _ ih=>
  intro v hv hb
  cases hb with
  |tup hb=>
   obtain⟨vs,rfl,hlr⟩:=hv.inv_tup
   refine .tup (hl.symm.trans hlr.len) fun k e v a b=> ?_
   obtain⟨d,hd⟩:=zct hl a
   exact ih k d e hd a (hlr.at_ k d v hd b) (hb e (List.mem_of_getElem? a))
 |ifc t _ ih=>
  intro v hv hb
  cases hb with
  |ifc _ hb=>cases hv with|ifc _ hv=>exact .ifc t (ih hv hb)
 | @ms j lo len cap sz op rs rows ho hn hle hs hrl _ ih=>
   intro v hv hb
   cases hb with
   |lst hb=>
    cases hv with
    | @ms _ _ _ _ R hR hO hC=>
      obtain⟨st,hg⟩:=zbj ho
      obtain⟨hz,eo,he,hro⟩:=hr.obj j _ st R hg hR
      cases hro with
      | @rows _ _ _ cs e hrows=>
        have hs0:=hrows.row
        have hfl:=zR hs0
        have hcl:=hrows.rel.len
        have hlen2:((rs.drop lo).take len).flatten.length=rows.flatten.length:=by
         rw[zR (rs:=(rs.drop lo).take len) (fun r hr=>hs0 r (List.mem_of_mem_drop (List.mem_of_mem_take hr))),zR hs,hrl]
         congr 1;simp;omega
        have hmul:lo*sz+len*sz≤rs.length*sz:=by rw[←Nat.add_mul];exact Nat.mul_le_mul_right _ hle
        refine .lst (cs:=cs) (e:=e) (cw_FB hz ⟨j,R,hR,rfl,by rw[hg];rfl,hn⟩ he) hs (by rw[hrl,←hrows.hsz];omega) (fun k e2 v a b=> ?_) (fun hc=> ?_) (fun hc=>by rw[hrl];exact hC hc) hrl.symm
        ·obtain⟨d,hd⟩:=zct hlen2 a
         have hd2:=hd
         rw[zcF (fun r hr=>hs0 r (List.mem_of_mem_drop hr)),zcG hs0,List.getElem?_take] at hd2
         split at hd2
         ·rw[List.getElem?_drop] at hd2
          refine ih k d e2 hd a (hrows.rel.at_ _ d v hd2 (by rw[hrows.hsz];exact b)) ?_
          obtain⟨r,hr1,hr2⟩:=List.mem_flatten.1 (List.mem_of_getElem? a);exact hb r hr1 e2 hr2
         ·cases hd2
        ·have h1:=hO hc
         have h2:=hrows.hop.trans h1
         subst h2
         have:=hrows.esz
         rw[if_pos rfl] at this
         exact⟨this,hrows.pos rfl⟩
 | @ptr j i off sz op rs rows ho hn hs hrl _ ih=>
   intro v hv hb
   cases hb with
   |pl hb=>
    cases hv with
    | @ptr _ _ _ R hR=>
      obtain⟨st,hg⟩:=zbj ho
      obtain⟨hz,eo,he,hro⟩:=hr.obj j _ st R hg hR
      cases hro with
      | @rows _ _ _ cs e hrows=>
        have hs0:=hrows.row
        have hfl:=zR hs0
        have hcl:=hrows.rel.len
        have hlen2:rs.flatten.length=rows.flatten.length:=by rw[hfl,zR hs,hrl]
        have:=VRel.pl (w:=cw w M' M2 h) (o:=0) (i:=i) (off:=off) (cs:=cs) (e:=e) (cw_FB hz ⟨j,R,hR,rfl,by rw[hg];rfl,hn⟩ he) hs (by rw[hrl];omega) (fun k e2 v a b=>by
         obtain⟨d,hd⟩:=zct hlen2 a
         refine ih k d e2 hd a (hrows.rel.at_ _ d v hd (by rw[←b];congr 1;omega)) ?_
         obtain⟨r,hr1,hr2⟩:=List.mem_flatten.1 (List.mem_of_getElem? a);exact hb r hr1 e2 hr2)
        rw[Nat.zero_add] at this
        rw[←hrows.hsz];exact this
theorem St.conv {n0:Nat} {w0:Wd} {M M0:VM} {h0 h1:H} {w1:Wd} (hst:St n0 w0 M0 h0 w1 M h1) {hh:H} (hr1:HRel w1 M h1) (hi:Hist w1 M h1 w M' hh) (hr:HRel w M' hh) (hc:Conv M M' M2):St n0 w0 M0 h0 (cw w M' M2 hh) M2 hh:=by
 have hle1:w1.Le (cw w M' M2 hh):=⟨fun j R e=>zkp (Nat.lt_of_lt_of_le (hr1.dom j R e).1 hc.nx) (hi.le.rho _ _ e),fun b z e=>cw_Z (hi.le.Z _ _ e)⟩
 have kept: ∀j o st,M2.get j=some (o,st)→(M.get j=some (o,st)∧M'.get j=some (o,st))∨(j<M2.next∧M.next≤st∧st<M2.next∧ ∃o',M'.obj j=some o'∧FrzO M' M2 o' o∧BelowO M2.next o):=fun j o st e=>by
  rcases hc.obj j with⟨h1,h2⟩|h1| ⟨o1,st1,o',h1,h2,h3,h4,h5,h6,h7⟩
  ·rw[h1] at e
   exact .inl ⟨e,by rw[h2 (hr1.wf j o st e).1];exact e⟩
  ·rw[h1] at e;cases e
  ·rw[h1] at e;cases e;exact .inr ⟨h2,h3,h4,o',h5,h6,h7⟩
 have live: ∀j x,M2.get j=some x→ ∃y,M'.get j=some y:=fun j x e=>by
  obtain⟨o,st⟩:=x
  rcases kept j o st e with⟨_,h2⟩| ⟨_,_,_,o',h5,_⟩
  ·exact⟨_,h2⟩
  ·obtain⟨st',h6⟩:=zbj h5;exact⟨_,h6⟩
 refine⟨hst.n,hst.r0,hst.hi.trans hst.r0 ⟨hle1,hc.nx,hi.hnx,fun j o st e=> ?_,fun j x R e1 e2 hR=> ?_,fun j R e=>hi.own j R (zir e).2,hi.rest⟩,?_⟩
 ·rcases kept j o st e with⟨h1,-⟩| ⟨_,h1,_⟩
  ·exact .inl h1
  ·exact .inr h1
 ·obtain⟨o,st⟩:=x
  rcases kept j o st e2 with⟨_,h2⟩| ⟨_,h1,_⟩
  ·exact hi.same j _ R e1 h2 hR
  ·have:=(hr1.wf j o st e1).2.1;omega
 ·constructor
  ·intro j o st e
   rcases kept j o st e with⟨h1,h2⟩| ⟨h1,_,h3,o',h5,_⟩
   ·obtain⟨a,b,R,c⟩:=hr1.wf j o st h1
    exact⟨Nat.lt_of_lt_of_le a hc.nx,Nat.lt_of_lt_of_le b hc.nx,R,hle1.rho _ _ c⟩
   ·obtain⟨st',h6⟩:=zbj h5
    obtain⟨_,_,R,c⟩:=hr.wf j _ _ h6
    exact⟨h1,h3,R,zkp h1 c⟩
  ·intro j R e
   obtain⟨a,b⟩:=zir e
   exact⟨a,(hr.dom j R b).2⟩
  ·intro b z e
   rcases cw_Z' e with e| ⟨⟨j,R,hR,rfl,_⟩,hg⟩
   ·exact hr.zd b z e
   ·exact⟨(hr.dom j R hR).2,hg⟩
  ·intro j o st R e hR
   obtain⟨hj,hR⟩:=zir hR
   obtain⟨y,hy⟩:=live j _ e
   obtain⟨hz,e',he',hro⟩:=hr.obj j y.1 y.2 R hy hR
   refine⟨?_,?_⟩
   ·cases hzz:(cw w M' M2 hh).Z R.blk with
    |none=>rfl
    |some z=>
     rcases cw_Z' hzz with e2| ⟨⟨j',R',hR',eb,hl,hn⟩,hg⟩
     ·rw[hz] at e2;cases e2
     ·have:=hr.inj j' j R' R hR' hR hl (by rw[hy];rfl) eb
      subst this
      rw[hn] at e;cases e
   ·rcases kept j o st e with⟨h1,h2⟩| ⟨_,_,_,o',h5,h6,h7⟩
    ·
     obtain⟨_,_,R1,c⟩:=hr1.wf j o st h1
     have:R1=R:=by have:=hi.le.rho _ _ c;rw[hR] at this;cases this;rfl
     subst this
     obtain⟨_,e0,he0,hro0⟩:=hr1.obj j o st R1 h1 c
     exact⟨e0,by rw[hi.same j _ R1 h1 h2 c];exact he0,hro0.mono hle1⟩
    ·obtain⟨st',h8⟩:=zbj h5
     rw[hy] at h8;cases h8
     refine⟨e',he',?_⟩
     cases h6 with
     |refl=>
      cases hro with
      | @rows op sz rs cs ee hrows=>
        cases h7 with
        |rows h7=>
         refine .rows ⟨hrows.hop,hrows.hsz,hrows.esz,hrows.pos,hrows.row,hrows.rel.len,fun k d v a b=>zG.rel (hrows.rel.at_ k d v a b) ?_⟩
         obtain⟨r,hr1,hr2⟩:=List.mem_flatten.1 (List.mem_of_getElem? a);exact h7 r hr1 d hr2
      | @map es es' c hm=>
        cases h7 with
        |map h7=>
         refine .map ⟨⟨hm.keys.len,fun k d v a b=>zG.rel (hm.keys.at_ k d v a b) ?_⟩,⟨hm.vals.len,fun k d v a b=>zG.rel (hm.vals.at_ k d v a b) ?_⟩⟩
         ·obtain⟨x,hx,rfl⟩:=List.mem_map.1 (List.mem_of_getElem? a);exact(h7 x hx).1
         ·obtain⟨x,hx,rfl⟩:=List.mem_map.1 (List.mem_of_getElem? a);exact(h7 x hx).2
      | @loop lst pend sl sl' rc hsl=>
        cases h7 with
        |loop h7=>
         refine .loop fun p d hd=> ?_
         obtain⟨v,hv,hv2⟩:=hsl p d hd
         refine⟨v,hv,zG.rel hv2 ?_⟩
         have: ∀{s:DS},getS s p=some d→ ∃x∈s,x.2=d:=by
          intro s
          induction s with
          |nil=>intro q;cases q
          |cons x s ih=>
           intro q
           obtain⟨x1,x2⟩:=x
           rw[zdu] at q
           split at q
           ·cases q;exact⟨_,List.mem_cons_self ..,rfl⟩
           ·obtain⟨y,hy,e⟩:=ih q;exact⟨y,List.mem_cons_of_mem _ hy,e⟩
         obtain⟨x,hx,rfl⟩:=this hd
         exact h7 x hx
     | @rows op sz rs rows hs hrl hfr=>
       cases hro with
       | @rows _ _ _ cs ee hrows=>
         cases h7 with
         |rows h7=>
          have hlen2:rs.flatten.length=rows.flatten.length:=by rw[zR hrows.row,zR hs,hrl]
          refine .rows ⟨hrows.hop,hrows.hsz,hrows.esz,hrows.pos,hs,hlen2.symm.trans hrows.rel.len,fun k d v a b=> ?_⟩
          obtain⟨d0,hd0⟩:=zct hlen2 a
          refine(hfr k d0 d hd0 a).rel hr (hrows.rel.at_ k d0 v hd0 b) ?_
          obtain⟨r,hr1,hr2⟩:=List.mem_flatten.1 (List.mem_of_getElem? a);exact h7 r hr1 d hr2
  ·intro i j R S hi' hj ai aj eb
   obtain⟨xi,ei⟩:=Option.isSome_iff_exists.1 ai
   obtain⟨xj,ej⟩:=Option.isSome_iff_exists.1 aj
   obtain⟨yi,fi⟩:=live i _ ei
   obtain⟨yj,fj⟩:=live j _ ej
   exact hr.inj i j R S (zir hi').2 (zir hj).2 (by rw[fi];rfl) (by rw[fj];rfl) eb
end
variable {F:FuncId→Option zl} {n0:Nat}
theorem zt.conv {f:DV} {args:List DV} {M:VM} {k kp:DV→VM→Prop} (h:zt F f args M (fun d M'=> ∃e M2,Conv M M' M2∧Frz M' M2 d e∧zG M2.next e∧k e M2) kp):zt F f args M k kp:=by
 intro w hp fv vs hr hf hv
 obtain⟨n,o,e,q⟩:=h w hp fv vs hr hf hv
 refine⟨n,o,e,?_⟩
 cases o with
 |val v h1=>
  obtain⟨w1,M1,d,a1,a2,a3,e2,M2,c1,c2,c3,c4⟩:=q
  have:=St.conv ⟨rfl,hr,.refl _ _ _,hr⟩ hr a1 a2 c1
  exact⟨_,M2,e2,this.hi,this.r,c2.rel a2 a3 c3,c4⟩
 |pan v s h1=>exact q
 |_=>exact q
theorem zt.pre {f:DV} {args args2:List DV} {M M2:VM} {k kp:DV→VM→Prop} (hc:Conv M M M2) (hf:zG M2.next f) (hl:args.length=args2.length) (ha: ∀(i:Nat) d e,args[i]? =some d→args2[i]? =some e→Frz M M2 d e∧zG M2.next e) (h:zt F f args2 M2 k kp):zt F f args M k kp:=by
 intro w hp fv vs hr hfv hv
 have st:=St.conv ⟨rfl,hr,.refl _ _ _,hr⟩ hr (.refl _ _ _) hr hc
 obtain⟨n,o,e,q⟩:=h _ hp fv vs st.r (zG.rel hfv hf) ⟨hl.symm.trans hv.len,fun i e v a b=>by
  obtain⟨d,hd⟩:=zct hl a
  obtain⟨h1,h2⟩:=ha i d e hd a
  exact h1.rel hr (hv.at_ i d v hd b) h2⟩
 refine⟨n,o,e,?_⟩
 cases o with
 |val v h1=>obtain⟨w1,M1,d,a1,a2,a3,a4⟩:=q;exact⟨w1,M1,d,st.hi.trans hr a1,a2,a3,a4⟩
 |pan v s h1=>obtain⟨w1,M1,d,a1,a2,a3,a4⟩:=q;exact⟨w1,M1,d,st.hi.trans hr a1,a2,a3,a4⟩
 |_=>exact q
def VM.Wf (M:VM):Prop:= ∀j,M.next≤j→M.get j=none
theorem HRel.Wf {w:Wd} {M:VM} {h:H} (hr:HRel w M h):M.Wf:=fun j hj=>by
 cases e:M.get j with
 |none=>rfl
 |some x=>obtain⟨o,st⟩:=x;have:=(hr.wf j o st e).1;omega
theorem zt.wf {f:DV} {args:List DV} {M:VM} {k kp:DV→VM→Prop} (h:M.Wf→zt F f args M k kp):zt F f args M k kp:=fun w hp fv vs hr a b=>h hr.Wf w hp fv vs hr a b
theorem Conv.same {M M':VM} (h: ∀j,j<M.next→M'.get j=M.get j):Conv M M' M:=⟨Nat.le_refl _,fun j=>.inl ⟨rfl,h j⟩⟩
theorem Frz.ms0 {M M2:VM} {j n cap sz:Nat} {op:Bool} {rs:List (List DV)} (ho:M.obj j=some (.rows op sz rs)) (hn:M2.get j=none) (hl:n=rs.length) (hs: ∀r∈rs,r.length=sz):Frz M M2 (.ms j 0 n cap) (.lst sz rs):=by
 subst hl
 refine .ms ho hn (by omega) hs rfl fun k d e a b=> ?_
 rw[List.drop_zero,List.take_length] at a
 rw[a] at b;cases b;exact .refl d
end Go.Ideal
namespace Go.Ideal
noncomputable section
namespace Q
abbrev iI (n:Int):Value:=.int .i64 n
abbrev t (n:Nat):CO:=.t (bits n)
abbrev i (n:Int):CO:=.c (.int .i64 n)
abbrev tt:CO:=.c (.bool true)
abbrev ff:CO:=.c (.bool false)
abbrev fc (f:Nat):CO:=.c (.func (.func f) ⟨[]⟩ ⟨[]⟩)
abbrev bs (l:List Nat):List (List Bool):=l.map bits
abbrev oo (d:Nat) (x:COp):CI:=⟨some (bits d),x,none,0⟩
abbrev on (x:COp):CI:=⟨none,x,none,0⟩
abbrev gu (q:Nat) (b:Bool) (c:CI):CI:=⟨c.dst,c.op,some (bits q,b),c.lo⟩
def lo (n:Nat) (c:CI):CI:=⟨c.dst,c.op,c.guard,n⟩
@[simp] theorem lo_eq (n m:Nat) (d:Option (List Bool)) (o:COp) (g:Option (List Bool×Bool)):lo n ⟨d,o,g,m⟩=⟨d,o,g,n⟩:=id rfl
abbrev mv (d:Nat) (x:CO):CI:=⟨some (bits d),.mv x,none,0⟩
abbrev l (d a:Nat):CI:=⟨some (bits d),.load1 (t a),none,0⟩
abbrev ln (d n a:Nat):CI:=⟨some (bits d),.loadN n (t a),none,0⟩
abbrev fa (d n a:Nat):CI:=⟨some (bits d),.fieldAddr n (t a),none,0⟩
abbrev nc (d a:Nat):CI:=⟨some (bits d),.nilCheck (t a),none,0⟩
abbrev ia (d n a:Nat) (x:CO):CI:=⟨some (bits d),.indexAddr n (t a) x,none,0⟩
abbrev st (n a:Nat) (x:CO):CI:=⟨none,.store n (t a) x,none,0⟩
abbrev bi (op:BinOp) (d:Nat) (x y:CO):CI:=⟨some (bits d),.bin op .other x y,none,0⟩
abbrev le (d:Nat) (x:CO):CI:=⟨some (bits d),.blt .len [x],none,0⟩
abbrev ca (d f:Nat) (as:List CO):CI:=⟨some (bits d),.call (fc f) as,none,0⟩
abbrev ex (d a n:Nat):CI:=⟨some (bits d),.extract (t a) n,none,0⟩
abbrev bx (d:Nat) (x:CO):CI:=⟨some (bits d),.box x,none,0⟩
abbrev no (d a:Nat):CI:=⟨some (bits d),.un .not (t a),none,0⟩
abbrev pk (d:Nat) (c a b:CO):CI:=⟨some (bits d),.pick c a b,none,0⟩
abbrev ap (d s b:Nat) (x y:CO):CI:=⟨some (bits d),.blt (.append s b) [x,y],none,0⟩
end Q
inductive Fr where
 |sq (L:List (List Bool)) (b:CC)
 |bk (i:Nat)
def KF (X:RnD):List Fr→KD→KD
 | [],K=>K
 |.sq L b::ks,K=>⟨fun s M=>wp X b (KF X ks K) (z6 L s) M,(KF X ks K).ext,(KF X ks K).ret,(KF X ks K).pan⟩
 |.bk i::ks,K=>⟨(KF X ks K).nrm,blkD i (KF X ks K),(KF X ks K).ret,(KF X ks K).pan⟩
class FrC where
 ks:List Fr
 K:KD
abbrev FrC.sq (f:FrC) (L:List (List Bool)) (b:CC):FrC:=⟨.sq L b::f.ks,f.K⟩
abbrev FrC.bk (f:FrC) (i:Nat):FrC:=⟨.bk i::f.ks,f.K⟩
abbrev FrC.base (K:KD):FrC:=⟨[],K⟩
def kf (X:RnD) [f:FrC]:KD:=KF X f.ks f.K
section
variable (X:RnD) [fr:FrC]
def Cd (c:CC) (s:DS) (M:VM):Prop:=wp X c (@kf X fr) s M
def Op (l:List CI) (s:DS) (M:VM):Prop:=wOps X (@kf X fr).pan l s M (@kf X fr).nrm
def Nx (s:DS) (M:VM):Prop:=(@kf X fr).nrm s M
def Ex (i:Nat) (s:DS) (M:VM):Prop:=(@kf X fr).ext i s M
def CK (d:Option (List Bool)) (r:List CI) (s:DS) (v:DV) (M:VM):Prop:= @Op X fr r (z8 d v s) M
def PK [fr:FrC] (s:DS) (v:DV) (M:VM):Prop:=fr.K.pan v s M
def Rs (o:RD) (d:Option (List Bool)) (r:List CI) (s:DS):Prop:=okD o (@CK X fr d r s)
def Ca (f:Option DV) (as:Option (List DV)) (d:Option (List Bool)) (r:List CI) (s:DS) (M:VM):Prop:=ofD f fun f=>ofD as fun l=>X.call f l M (@CK X fr d r s) (@PK fr s)
def Gd (g:Option Bool) (d:Option (List Bool)) (op:COp) (lo:Nat) (r:List CI) (s:DS) (M:VM):Prop:=ofD g fun b=>match b with
 |true=> @Op X fr (⟨d,op,none,lo⟩::r) s M
 |false=> @Op X fr r (z8 d (.tup []) s) M
def Br (v:Option DV) (a b:CC) (s:DS) (M:VM):Prop:=ofD v fun v=>wIf v (@Cd X fr a s M) (@Cd X fr b s M)
def Rg (f:Option DV) (rc:RC) (s:DS) (M:VM):Prop:=ofD f fun f=>match f with
    |.fn g a c=>X.call (.fn g a c) [.yld M.next] (M.new (.loop .ready none (z6 rc.L s) rc)) (fun _ M'=>rgEndD (@kf X fr) s M.next M') fun _ _=>False
    |_=>False
end
section
variable {X:RnD} {fr:FrC} {K:KD} {s:DS} {M:VM} {d:Option (List Bool)} {r:List CI} {lo:Nat}
theorem KF_ret0: ∀ks:List Fr,(KF X ks K).ret=K.ret
 | []=>rfl
 |.sq _ _::ks=>KF_ret0 ks
 |.bk _::ks=>KF_ret0 ks
theorem KF_pan0: ∀ks:List Fr,(KF X ks K).pan=K.pan
 | []=>rfl
 |.sq _ _::ks=>KF_pan0 ks
 |.bk _::ks=>KF_pan0 ks
theorem KF_ret:(@kf X fr).ret=fr.K.ret:=KF_ret0 _
theorem KF_pan:(@kf X fr).pan=fr.K.pan:=KF_pan0 _
@[simp] theorem KF_ret':(@kf X fr).ret s M=fr.K.ret s M:=by rw[KF_ret]
@[simp] theorem sq_K (L:List (List Bool)) (b:CC):(fr.sq L b).K=fr.K:=id rfl
@[simp] theorem bk_K (i:Nat):(fr.bk i).K=fr.K:=id rfl
@[simp] theorem base_K:(FrC.base K).K=K:=id rfl
@[simp] theorem KF_nrm:(@kf X fr).nrm s M= @Nx X fr s M:=id rfl
@[simp] theorem KF_ext (i:Nat):(@kf X fr).ext i s M= @Ex X fr i s M:=id rfl
@[simp] theorem Cd_skip: @Cd X fr .skip s M= @Nx X fr s M:=id rfl
@[simp] theorem Cd_ops (l:List CI): @Cd X fr (.ops l) s M= @Op X fr l s M:=id rfl
@[simp] theorem Cd_seq (a b:CC) (L:List (List Bool)): @Cd X fr (.seq a L b) s M= @Cd X (fr.sq L b) a s M:=id rfl
@[simp] theorem Cd_block (i:Nat) (b:CC): @Cd X fr (.block i b) s M= @Cd X (fr.bk i) b s M:=id rfl
@[simp] theorem Cd_cond (c:CO) (a b:CC): @Cd X fr (.cond c a b) s M= @Br X fr (evD s c) a b s M:=id rfl
@[simp] theorem Cd_exit (i:Nat): @Cd X fr (.exit i) s M= @Ex X fr i s M:=id rfl
@[simp] theorem Cd_ret: @Cd X fr .ret s M=fr.K.ret s M:=by show(@kf X fr).ret s M=_;rw[KF_ret]
@[simp] theorem Cd_loop (L:List (List Bool)) (b:CC): @Cd X fr (.loop L b) s M=X.loop L b (@kf X fr) (z6 L s) M:=id rfl
@[simp] theorem Cd_scope (b:CC) (l1:Nat) (r1:CC) (l2:Nat) (r2:CC): @Cd X fr (.scope b l1 r1 l2 r2) s M=X.scope b l1 r1 l2 r2 (@kf X fr) s M:=id rfl
@[simp] theorem Cd_range (rid:Nat) (L:List (List Bool)) (f:CO) (ps:List (List Bool)) (as b:CC): @Cd X fr (.rangeFunc rid L f ps as b) s M= @Rg X fr (evD s f) ⟨rid,L,ps,as,b⟩ s M:=id rfl
@[simp] theorem Rg_fn (g:Nat) (a c:List DV) (rc:RC): @Rg X fr (some (.fn g a c)) rc s M=X.call (.fn g a c) [.yld M.next] (M.new (.loop .ready none (z6 rc.L s) rc)) (fun _ M'=>rgEndD (@kf X fr) s M.next M') fun _ _=>False:=id rfl
@[simp] theorem Br_true (a b:CC): @Br X fr (some (.bool true)) a b s M= @Cd X fr a s M:=id rfl
@[simp] theorem Br_false (a b:CC): @Br X fr (some (.bool false)) a b s M= @Cd X fr b s M:=id rfl
theorem ze (b:Bool) (a c:CC): @Br X fr (some (.bool b)) a c s M=if b=true then @Cd X fr a s M else @Cd X fr c s M:=by cases b<;>rfl
@[simp] theorem Nx_nil: @Nx X (.base K) s M=K.nrm s M:=id rfl
@[simp] theorem Nx_sq (L:List (List Bool)) (b:CC): @Nx X (fr.sq L b) s M= @Cd X fr b (z6 L s) M:=id rfl
@[simp] theorem Nx_bk (i:Nat): @Nx X (fr.bk i) s M= @Nx X fr s M:=id rfl
@[simp] theorem Ex_nil (i:Nat): @Ex X (.base K) i s M=K.ext i s M:=id rfl
@[simp] theorem Ex_sq (L:List (List Bool)) (b:CC) (i:Nat): @Ex X (fr.sq L b) i s M= @Ex X fr i s M:=id rfl
@[simp] theorem Ex_bk (i j:Nat): @Ex X (fr.bk i) j s M=if j=i then @Nx X fr s M else @Ex X fr j s M:=by
  show blkD i (@kf X fr) j s M=_
  unfold blkD
  by_cases h:j=i
  ·subst h;rw[if_pos rfl,Nat.beq_refl];rfl
  ·rw[if_neg h];cases e:Nat.beq j i with
   |true=>exact absurd (Nat.eq_of_beq_eq_true e) h
   |false=>rfl
@[simp] theorem Op_nil: @Op X fr [] s M= @Nx X fr s M:=id rfl
@[simp] theorem Op_guard (op:COp) (g:List Bool×Bool): @Op X fr (⟨d,op,some g,lo⟩::r) s M= @Gd X fr (wantD (some g) s) d op lo r s M:=by
  show zfZ X _ s M _ _=_
  unfold zfZ Gd
  congr 1
theorem zc (b:Bool) (op:COp): @Gd X fr (some b) d op lo r s M=if b=true then @Op X fr (⟨d,op,none,lo⟩::r) s M else @Op X fr r (z8 d (.tup []) s) M:=by cases b<;>rfl
@[simp] theorem Gd_true (op:COp): @Gd X fr (some true) d op lo r s M= @Op X fr (⟨d,op,none,lo⟩::r) s M:=id rfl
@[simp] theorem Gd_false (op:COp): @Gd X fr (some false) d op lo r s M= @Op X fr r (z8 d (.tup []) s) M:=id rfl
@[simp] theorem Rs_some (v:DV) (M':VM): @Rs X fr (some (v,M')) d r s= @Op X fr r (z8 d v s) M':=id rfl
@[simp] theorem CK_eq (v:DV): @CK X fr d r s v M= @Op X fr r (z8 d v s) M:=id rfl
@[simp] theorem Ca_some (f:DV) (as:List DV): @Ca X fr (some f) (some as) d r s M=X.call f as M (@CK X fr d r s) (@PK fr s):=id rfl
@[simp] theorem Op_call (f:CO) (as:List CO): @Op X fr (⟨d,.call f as,none,lo⟩::r) s M= @Ca X fr (evD s f) (evDL s as) d r s M:=by
  show ofD _ _=ofD _ _
  unfold PK CK Op
  rw[KF_pan]
@[simp] theorem Op_mv (x:CO): @Op X fr (⟨d,.mv x,none,lo⟩::r) s M= @Rs X fr (opD (.mv x) s M) d r s:=id rfl
@[simp] theorem Op_pick (c a b:CO): @Op X fr (⟨d,.pick c a b,none,lo⟩::r) s M= @Rs X fr (opD (.pick c a b) s M) d r s:=id rfl
@[simp] theorem Op_build (z:List Value) (ps:List (Nat×Nat×CO)): @Op X fr (⟨d,.build z ps,none,lo⟩::r) s M= @Rs X fr (opD (.build z ps) s M) d r s:=id rfl
@[simp] theorem Op_load1 (a:CO): @Op X fr (⟨d,.load1 a,none,lo⟩::r) s M= @Rs X fr (opD (.load1 a) s M) d r s:=id rfl
@[simp] theorem Op_loadN (n:Nat) (a:CO): @Op X fr (⟨d,.loadN n a,none,lo⟩::r) s M= @Rs X fr (opD (.loadN n a) s M) d r s:=id rfl
@[simp] theorem Op_store (n:Nat) (a x:CO): @Op X fr (⟨d,.store n a x,none,lo⟩::r) s M= @Rs X fr (opD (.store n a x) s M) d r s:=id rfl
@[simp] theorem Op_bin (op:BinOp) (ek:EK) (x y:CO): @Op X fr (⟨d,.bin op ek x y,none,lo⟩::r) s M= @Rs X fr (opD (.bin op ek x y) s M) d r s:=id rfl
@[simp] theorem Op_un (op:UnOp) (x:CO): @Op X fr (⟨d,.un op x,none,lo⟩::r) s M= @Rs X fr (opD (.un op x) s M) d r s:=id rfl
@[simp] theorem Op_conv (k:IntKind) (x:CO): @Op X fr (⟨d,.conv k x,none,lo⟩::r) s M= @Rs X fr (opD (.conv k x) s M) d r s:=id rfl
@[simp] theorem Op_makeFunc (g:Fn) (a b:List CO): @Op X fr (⟨d,.makeFunc g a b,none,lo⟩::r) s M= @Rs X fr (opD (.makeFunc g a b) s M) d r s:=id rfl
@[simp] theorem Op_slice (n:Nat) (x:CO) (lo' hi:Option CO): @Op X fr (⟨d,.slice n x lo' hi,none,lo⟩::r) s M= @Rs X fr (opD (.slice n x lo' hi) s M) d r s:=id rfl
@[simp] theorem Op_fieldAddr (n:Nat) (x:CO): @Op X fr (⟨d,.fieldAddr n x,none,lo⟩::r) s M= @Rs X fr (opD (.fieldAddr n x) s M) d r s:=id rfl
@[simp] theorem Op_indexAddr (n:Nat) (x i:CO): @Op X fr (⟨d,.indexAddr n x i,none,lo⟩::r) s M= @Rs X fr (opD (.indexAddr n x i) s M) d r s:=id rfl
@[simp] theorem Op_indexArr (n m:Nat) (x i:CO): @Op X fr (⟨d,.indexArr n m x i,none,lo⟩::r) s M= @Rs X fr (opD (.indexArr n m x i) s M) d r s:=id rfl
@[simp] theorem Op_lookup (kk:KK) (z:Value) (ok:Bool) (x i:CO): @Op X fr (⟨d,.lookup kk z ok x i,none,lo⟩::r) s M= @Rs X fr (opD (.lookup kk z ok x i) s M) d r s:=id rfl
@[simp] theorem Op_mapUpdate (kk:KK) (m i x:CO): @Op X fr (⟨d,.mapUpdate kk m i x,none,lo⟩::r) s M= @Rs X fr (opD (.mapUpdate kk m i x) s M) d r s:=id rfl
@[simp] theorem Op_extract (x:CO) (i:Nat): @Op X fr (⟨d,.extract x i,none,lo⟩::r) s M= @Rs X fr (opD (.extract x i) s M) d r s:=id rfl
@[simp] theorem Op_box (x:CO): @Op X fr (⟨d,.box x,none,lo⟩::r) s M= @Rs X fr (opD (.box x) s M) d r s:=id rfl
@[simp] theorem Op_alloc (z:List Value): @Op X fr (⟨d,.alloc z,none,lo⟩::r) s M= @Rs X fr (opD (.alloc z) s M) d r s:=id rfl
@[simp] theorem Op_makeMap: @Op X fr (⟨d,.makeMap,none,lo⟩::r) s M= @Rs X fr (opD (.makeMap) s M) d r s:=id rfl
@[simp] theorem Op_makeSlice (n b:Nat) (z:List Value) (l c:CO): @Op X fr (⟨d,.makeSlice n b z l c,none,lo⟩::r) s M= @Rs X fr (opD (.makeSlice n b z l c) s M) d r s:=id rfl
@[simp] theorem Op_buildSlice (len size:Nat) (z:List Value) (ps:List (Nat×CO)): @Op X fr (⟨d,.buildSlice len size z ps,none,lo⟩::r) s M= @Rs X fr (opD (.buildSlice len size z ps) s M) d r s:=id rfl
@[simp] theorem Op_blt (b:CB) (as:List CO): @Op X fr (⟨d,.blt b as,none,lo⟩::r) s M= @Rs X fr (opD (.blt b as) s M) d r s:=id rfl
end
section
variable (X:RnD) [fr:FrC]
def Dr (l:List CI) (bs:List Mo) (s:DS) (M:VM):Prop:=zdh X l bs s M (@kf X fr).nrm
def DW (d:Option (List Bool)) (l:List CI) (bs:List Mo) (s:DS) (v:DV) (M:VM):Prop:= @Dr X fr l (⟨zkb bs,M,[]⟩::bs.map (zb1 d)) (z8 d v s) M
def DrW (o:RD) (d:Option (List Bool)) (l:List CI) (bs:List Mo) (s:DS):Prop:=okD o (@DW X fr d l bs s)
def DrC (f:Option DV) (as:Option (List DV)) (d:Option (List Bool)) (l:List CI) (bs:List Mo) (s:DS) (M:VM):Prop:=ofD f fun f=>ofD as fun a=>X.call f a M (@DW X fr d l bs s) fun _ _=>False
def DrF (o:RD) (ns:List (List Bool)) (d:Option (List Bool)) (l:List CI) (bs:List Mo) (s:DS):Prop:=okD o fun v M=> @Dr X fr l (bs.map (zfB ns d)) (z8 d v s) M
def DrA (o:RD) (d:Option (List Bool)) (l:List CI) (bs:List Mo) (s:DS):Prop:=okD o fun v M=> @Dr X fr l (bs.map (zb1 d)) (z8 d v s) M
def DrR (o:RD) (rs:List Nat) (ns:List (List Bool)) (d:Option (List Bool)) (lo:Nat) (l:List CI) (bs:List Mo) (s:DS) (M:VM):Prop:=match bs with
 | []=>False
 |x::r=>okD o fun v _=>rdAt rs ns M x∧rdOk rs ns M lo r∧zi7 (x::r) v=true∧ @Dr X fr l (x::zhC lo d r) (z8 d v s) M
def DrG (g:Option Bool) (o:CI) (l:List CI) (bs:List Mo) (s:DS) (M:VM):Prop:=ofD g fun b=>match b with
 |true=> @Dr X fr (⟨o.dst,o.op,none,o.lo⟩::l) bs s M
 |false=>if isW o.op=true then @DW X fr o.dst l bs s (.tup []) M else if isRd o.op=true then @Dr X fr l (bs.map (zfB (zo o.op) o.dst)) (z8 o.dst (.tup []) s) M else if isFl o.op=true then @Dr X fr l (bs.map (zfB (zo o.op) o.dst)) (z8 o.dst (.tup []) s) M else @Dr X fr l (bs.map (zb1 o.dst)) (z8 o.dst (.tup []) s) M
end
section
variable {X:RnD} {fr:FrC} {K:KD} {s:DS} {M:VM} {d:Option (List Bool)} {l:List CI} {lo:Nat} {bs:List Mo}
@[simp] theorem Cd_draw (l:List CI): @Cd X fr (.draw l) s M= @Dr X fr l [⟨0,M,[]⟩] s M:=id rfl
@[simp] theorem Dr_nil: @Dr X fr [] bs s M= @Nx X fr s M:=id rfl
@[simp] theorem DW_eq (v:DV): @DW X fr d l bs s v M= @Dr X fr l (⟨zkb bs,M,[]⟩::bs.map (zb1 d)) (z8 d v s) M:=id rfl
@[simp] theorem DrW_some (v:DV) (M':VM): @DrW X fr (some (v,M')) d l bs s= @Dr X fr l (⟨zkb bs,M',[]⟩::bs.map (zb1 d)) (z8 d v s) M':=id rfl
@[simp] theorem DrC_some (f:DV) (as:List DV): @DrC X fr (some f) (some as) d l bs s M=X.call f as M (@DW X fr d l bs s) fun _ _=>False:=id rfl
@[simp] theorem DrF_some (ns:List (List Bool)) (v:DV) (M':VM): @DrF X fr (some (v,M')) ns d l bs s= @Dr X fr l (bs.map (zfB ns d)) (z8 d v s) M':=id rfl
@[simp] theorem DrA_some (v:DV) (M':VM): @DrA X fr (some (v,M')) d l bs s= @Dr X fr l (bs.map (zb1 d)) (z8 d v s) M':=id rfl
@[simp] theorem DrR_some (v:DV) (M':VM) (rs:List Nat) (ns:List (List Bool)) (x:Mo) (r:List Mo): @DrR X fr (some (v,M')) rs ns d lo l (x::r) s M=(rdAt rs ns M x∧rdOk rs ns M lo r∧zi7 (x::r) v=true∧ @Dr X fr l (x::zhC lo d r) (z8 d v s) M):=id rfl
theorem za (b:Bool) (o:CI): @DrG X fr (some b) o l bs s M=if b=true then @DrG X fr (some true) o l bs s M else @DrG X fr (some false) o l bs s M:=by cases b<;>rfl
@[simp] theorem DrG_true (o:CI): @DrG X fr (some true) o l bs s M= @Dr X fr (⟨o.dst,o.op,none,o.lo⟩::l) bs s M:=id rfl
@[simp] theorem DrG_false (o:CI): @DrG X fr (some false) o l bs s M=if isW o.op=true then @DW X fr o.dst l bs s (.tup []) M else if isRd o.op=true then @Dr X fr l (bs.map (zfB (zo o.op) o.dst)) (z8 o.dst (.tup []) s) M else if isFl o.op=true then @Dr X fr l (bs.map (zfB (zo o.op) o.dst)) (z8 o.dst (.tup []) s) M else @Dr X fr l (bs.map (zb1 o.dst)) (z8 o.dst (.tup []) s) M:=id rfl
@[simp] theorem Dr_guard (op:COp) (g:List Bool×Bool): @Dr X fr (⟨d,op,some g,lo⟩::l) bs s M= @DrG X fr (wantD (some g) s) ⟨d,op,some g,lo⟩ l bs s M:=by
  unfold Dr
  conv=>lhs;unfold zdh
  cases hw:isW op with
  |true=>
   show zfZ X _ s M _ _=_
   unfold zfZ DrG
   dsimp only
   congr 1;funext b
   cases b with
   |true=>show _= @Dr X fr _ _ _ _;unfold Dr;(conv=>rhs;unfold zdh;rw[hw]);rfl
   |false=>dsimp only;rw[hw];rfl
  |false=>
   cases hr:isRd op with
   |true=>
    unfold DrG
    dsimp only
    congr 1;funext b
    cases b with
    |true=>show _= @Dr X fr _ _ _ _;unfold Dr;(conv=>rhs;unfold zdh;rw[hw,hr]);rfl
    |false=>dsimp only;rw[hw,hr];rfl
   |false=>
    cases hf:isFl op with
    |true=>
     show zfZ X _ s M _ _=_
     unfold zfZ DrG
     dsimp only
     congr 1;funext b
     cases b with
     |true=>show _= @Dr X fr _ _ _ _;unfold Dr;(conv=>rhs;unfold zdh;rw[hw,hr,hf]);rfl
     |false=>dsimp only;rw[hw,hr,hf];rfl
    |false=>
     show zfZ X _ s M _ _=_
     unfold zfZ DrG
     dsimp only
     congr 1;funext b
     cases b with
     |true=>show _= @Dr X fr _ _ _ _;unfold Dr;(conv=>rhs;unfold zdh;rw[hw,hr,hf]);rfl
     |false=>dsimp only;rw[hw,hr,hf];rfl
@[simp] theorem Dr_call (f:CO) (as:List CO): @Dr X fr (⟨d,.call f as,none,lo⟩::l) bs s M= @DrC X fr (evD s f) (evDL s as) d l bs s M:=id rfl
@[simp] theorem Dr_mv (x:CO): @Dr X fr (⟨d,.mv x,none,lo⟩::l) bs s M= @DrF X fr (opD (.mv x) s M) (zo (.mv x)) d l bs s:=id rfl
@[simp] theorem Dr_pick (c a b:CO): @Dr X fr (⟨d,.pick c a b,none,lo⟩::l) bs s M= @DrF X fr (opD (.pick c a b) s M) (zo (.pick c a b)) d l bs s:=id rfl
@[simp] theorem Dr_load1 (a:CO): @Dr X fr (⟨d,.load1 a,none,lo⟩::l) bs s M= @DrR X fr (opD (.load1 a) s M) (zcz s (.load1 a)) (zo (.load1 a)) d lo l bs s M:=by cases bs<;>rfl
@[simp] theorem Dr_loadN (n:Nat) (a:CO): @Dr X fr (⟨d,.loadN n a,none,lo⟩::l) bs s M= @DrR X fr (opD (.loadN n a) s M) (zcz s (.loadN n a)) (zo (.loadN n a)) d lo l bs s M:=by cases bs<;>rfl
@[simp] theorem Dr_store (n:Nat) (a x:CO): @Dr X fr (⟨d,.store n a x,none,lo⟩::l) bs s M= @DrW X fr (opD (.store n a x) s M) d l bs s:=id rfl
@[simp] theorem Dr_nilc (x:CO): @Dr X fr (⟨d,.nilCheck x,none,lo⟩::l) bs s M= @DrF X fr (opD (.nilCheck x) s M) (zo (.nilCheck x)) d l bs s:=id rfl
@[simp] theorem Dr_bin (op:BinOp) (ek:EK) (x y:CO): @Dr X fr (⟨d,.bin op ek x y,none,lo⟩::l) bs s M= @DrF X fr (opD (.bin op ek x y) s M) (zo (.bin op ek x y)) d l bs s:=id rfl
@[simp] theorem Dr_un (op:UnOp) (x:CO): @Dr X fr (⟨d,.un op x,none,lo⟩::l) bs s M= @DrF X fr (opD (.un op x) s M) (zo (.un op x)) d l bs s:=id rfl
@[simp] theorem Dr_slice (n:Nat) (x:CO) (lo' hi:Option CO): @Dr X fr (⟨d,.slice n x lo' hi,none,lo⟩::l) bs s M= @DrR X fr (opD (.slice n x lo' hi) s M) (zcz s (.slice n x lo' hi)) (zo (.slice n x lo' hi)) d lo l bs s M:=by cases bs<;>rfl
@[simp] theorem Dr_fieldAddr (n:Nat) (x:CO): @Dr X fr (⟨d,.fieldAddr n x,none,lo⟩::l) bs s M= @DrF X fr (opD (.fieldAddr n x) s M) (zo (.fieldAddr n x)) d l bs s:=id rfl
@[simp] theorem Dr_indexAddr (n:Nat) (x i:CO): @Dr X fr (⟨d,.indexAddr n x i,none,lo⟩::l) bs s M= @DrF X fr (opD (.indexAddr n x i) s M) (zo (.indexAddr n x i)) d l bs s:=id rfl
@[simp] theorem Dr_indexArr (n m:Nat) (x i:CO): @Dr X fr (⟨d,.indexArr n m x i,none,lo⟩::l) bs s M= @DrF X fr (opD (.indexArr n m x i) s M) (zo (.indexArr n m x i)) d l bs s:=id rfl
@[simp] theorem Dr_extract (x:CO) (i:Nat): @Dr X fr (⟨d,.extract x i,none,lo⟩::l) bs s M= @DrF X fr (opD (.extract x i) s M) (zo (.extract x i)) d l bs s:=id rfl
@[simp] theorem Dr_alloc (z:List Value): @Dr X fr (⟨d,.alloc z,none,lo⟩::l) bs s M= @DrA X fr (opD (.alloc z) s M) d l bs s:=id rfl
@[simp] theorem Dr_copy (s':Nat) (as:List CO): @Dr X fr (⟨d,.blt (.copy s') as,none,lo⟩::l) bs s M= @DrW X fr (opD (.blt (.copy s') as) s M) d l bs s:=id rfl
@[simp] theorem Dr_len (as:List CO): @Dr X fr (⟨d,.blt .len as,none,lo⟩::l) bs s M= @DrF X fr (opD (.blt .len as) s M) (zo (.blt .len as)) d l bs s:=id rfl
@[simp] theorem Dr_min (as:List CO): @Dr X fr (⟨d,.blt .min as,none,lo⟩::l) bs s M= @DrF X fr (opD (.blt .min as) s M) (zo (.blt .min as)) d l bs s:=id rfl
end
end
end Go.Ideal
namespace Go.Ideal
noncomputable section
attribute [simp] List.getElem?_cons_zero List.getElem?_cons_succ List.getElem?_eq_getElem
def rdV (M:VM):Option DV→RD
 |some d=>some (d,M)
 |none=>none
@[simp] theorem rdV_some (M:VM) (d:DV):rdV M (some d)=some (d,M):=id rfl
theorem zb4 (M:VM) (o:Option DV):o.map (fun d=>(d,M))=rdV M o:=by cases o<;>rfl
def rowO (M:VM):Option DV→Option (List DV)
 |some d=>zdd M d
 |none=>none
def rowI (off:Nat):Option (List DV)→Option (List DV)
 |some r=>some (r.drop off)
 |none=>none
def rowJ (i off:Nat):Option MO→Option (List DV)
 |some (.rows _ _ rs)=>rowI off (rs[i]?)
 |_=>none
@[simp] theorem rowO_some (M:VM) (d:DV):rowO M (some d)=zdd M d:=id rfl
@[simp] theorem rowI_some (off:Nat) (r:List DV):rowI off (some r)=some (r.drop off):=id rfl
@[simp] theorem rowJ_some (i off:Nat) (op:Bool) (sz:Nat) (rs:List (List DV)):rowJ i off (some (.rows op sz rs))=rowI off (rs[i]?):=id rfl
@[simp] theorem rowOf_ptr (M:VM) (j i off:Nat):zdd M (.ptr j i off)=rowJ i off (M.obj j):=by
  show(M.obj j).bind _=_
  cases M.obj j with
  |none=>rfl
  |some o=>cases o<;>first|rfl| (show(Option.map _ _)=rowI off _;rename_i rs;cases rs[i]?<;>rfl)
@[simp] theorem rowOf_pl (M:VM) (s:Nat) (rows:List (List DV)) (i off:Nat):zdd M (.pl s rows i off)=rowI off (rows[i]?):=by
  show(Option.map _ _)=rowI off _;cases rows[i]?<;>rfl
def ld1:Option (List DV)→Option DV
 |some r=>oneD r
 |none=>none
def ldN (n:Nat):Option (List DV)→Option DV
 |some r=>(zed n r).map .agg
 |none=>none
@[simp] theorem ld1_some (r:List DV):ld1 (some r)=oneD r:=id rfl
@[simp] theorem ldN_some (n:Nat) (r:List DV):ldN n (some r)=(zed n r).map .agg:=id rfl
@[simp] theorem oneD_cons (v:DV) (r:List DV):oneD (v::r)=some v:=id rfl
@[simp] theorem takeD_zero (l:List DV):zed 0 l=some []:=by cases l<;>rfl
@[simp] theorem takeD_succ (n:Nat) (v:DV) (r:List DV):zed (n+1) (v::r)=(zed n r).map (v:: ·):=id rfl
def f1 (f:DV→Option DV):Option DV→Option DV
 |some d=>f d
 |none=>none
@[simp] theorem f1_some (f:DV→Option DV) (d:DV):f1 f (some d)=f d:=id rfl
def f2 (f:DV→DV→Option DV):Option DV→Option DV→Option DV
 |some a,some b=>f a b
 |_,_=>none
@[simp] theorem f2_some (f:DV→DV→Option DV) (a b:DV):f2 f (some a) (some b)=f a b:=id rfl
def pkO:Option DV→Option DV→Option DV→Option DV
 |some c,a,b=>pickD a b c
 |none,_,_=>none
@[simp] theorem pkO_true (a b:Option DV):pkO (some (.bool true)) a b=a:=id rfl
@[simp] theorem pkO_false (a b:Option DV):pkO (some (.bool false)) a b=b:=id rfl
def stW (M:VM) (j i:Nat) (op:Bool) (sz:Nat) (rs:List (List DV)):Option (List DV)→Option VM
 |some r=>some (M.put j (.rows op sz (rs.set i r)))
 |none=>none
def stI (n:Nat) (M:VM) (xs:List DV) (j i off:Nat) (op:Bool) (sz:Nat) (rs:List (List DV)):Option (List DV)→Option VM
 |some r=>if xs.length=n∧0<n∧xs.all zN=true then stW M j i op sz rs (zU r off xs) else none
 |none=>none
def stJ (n:Nat) (M:VM) (xs:List DV) (j i off:Nat):Option MO→Option VM
 |some (.rows op sz rs)=>stI n M xs j i off op sz rs (rs[i]?)
 |_=>none
@[simp] theorem stW_some (M:VM) (j i:Nat) (op:Bool) (sz:Nat) (rs:List (List DV)) (r:List DV):stW M j i op sz rs (some r)=some (M.put j (.rows op sz (rs.set i r))):=id rfl
@[simp] theorem stI_some (n:Nat) (M:VM) (xs:List DV) (j i off:Nat) (op:Bool) (sz:Nat) (rs:List (List DV)) (r:List DV):stI n M xs j i off op sz rs (some r)=if xs.length=n∧0<n∧xs.all zN=true then stW M j i op sz rs (zU r off xs) else none:=id rfl
@[simp] theorem stJ_some (n:Nat) (M:VM) (xs:List DV) (j i off:Nat) (op:Bool) (sz:Nat) (rs:List (List DV)):stJ n M xs j i off (some (.rows op sz rs))=stI n M xs j i off op sz rs (rs[i]?):=id rfl
@[simp] theorem storeD_ptr (n:Nat) (M:VM) (x:DV) (j i off:Nat):zef n M x (.ptr j i off)=stJ n M (zJ x) j i off (M.obj j):=by
  show(M.obj j).bind _=_
  cases M.obj j with
  |none=>rfl
  |some o=>cases o with
   |rows op sz rs=>
    show(rs[i]?).bind _=stI n M (zJ x) j i off op sz rs (rs[i]?)
    cases rs[i]? with
    |none=>rfl
    |some r=>
     show(if _ then _ else _)=(if _ then _ else _)
     congr 1
     cases zU r off (zJ x)<;>rfl
   |_=>rfl
def stR:Option VM→RD
 |some M=>some (.tup [],M)
 |none=>none
@[simp] theorem stR_some (M:VM):stR (some M)=some (.tup [],M):=id rfl
def stO (n:Nat) (M:VM):Option DV→Option DV→RD
 |some a,some x=>stR (zef n M x a)
 |_,_=>none
@[simp] theorem stO_some (n:Nat) (M:VM) (a x:DV):stO n M (some a) (some x)=stR (zef n M x a):=id rfl
def bxO (M:VM):Option DV→RD
 |some v=>some (.ptr M.next 0 0,M.new (.rows false (zJ v).length [zJ v]))
 |none=>none
@[simp] theorem bxO_some (M:VM) (v:DV):bxO M (some v)=some (.ptr M.next 0 0,M.new (.rows false (zJ v).length [zJ v])):=id rfl
def alO (M:VM):Option (List DV)→RD
 |some z=>some (.ptr M.next 0 0,M.new (.rows false z.length [z]))
 |none=>none
@[simp] theorem alO_some (M:VM) (z:List DV):alO M (some z)=some (.ptr M.next 0 0,M.new (.rows false z.length [z])):=id rfl
def bdO:Option (List DV)→Option (List (Nat×Nat×DV))→Option DV
 |some z,some l=>(zgp z l).map .agg
 |_,_=>none
@[simp] theorem bdO_some (z:List DV) (l:List (Nat×Nat×DV)):bdO (some z) (some l)=(zgp z l).map .agg:=id rfl
def msR (M:VM) (len size:Nat):Option (List (List DV))→RD
 |some rows=>some (.ms M.next 0 len len,M.new (.rows false size rows))
 |none=>none
@[simp] theorem msR_some (M:VM) (len size:Nat) (rows:List (List DV)):msR M len size (some rows)=some (.ms M.next 0 len len,M.new (.rows false size rows)):=id rfl
def bsO (M:VM) (len size:Nat):Option (List DV)→Option (List (Nat×DV))→RD
 |some z,some l=>if z.length=size∧len<zm then msR M len size (zb3 size (List.replicate len z) l) else none
 |_,_=>none
@[simp] theorem bsO_some (M:VM) (len size:Nat) (z:List DV) (l:List (Nat×DV)):bsO M len size (some z) (some l)=if z.length=size∧len<zm then msR M len size (zb3 size (List.replicate len z) l) else none:=id rfl
def mkO (b:Nat) (M:VM):Option DV→Option DV→Option (List DV)→RD
 |some l,some c,some z=>zcs b z M l c
 |_,_,_=>none
@[simp] theorem mkO_some (b:Nat) (M:VM) (l c:DV) (z:List DV):mkO b M (some l) (some c) (some z)=zcs b z M l c:=id rfl
def fnO (g:Fn) (M:VM):Option (List DV)→Option (List DV)→RD
 |some a,some b=>match g with|.func g=>some (.fn g a b,M)|_=>none
 |_,_=>none
@[simp] theorem fnO_some (g:Nat) (M:VM) (a b:List DV):fnO (.func g) M (some a) (some b)=some (.fn g a b,M):=id rfl
def slO (n:Nat) (M:VM):Option DV→Option (Option DV)→Option (Option DV)→Option DV
 |some v,some lo,some hi=>sliceD n M lo hi v
 |_,_,_=>none
@[simp] theorem slO_some (n:Nat) (M:VM) (v:DV) (lo hi:Option DV):slO n M (some v) (some lo) (some hi)=sliceD n M lo hi v:=id rfl
def lkE (kk:KK) (z:DV) (ok:Bool) (k:DV):Option (List (DV×DV))→Option DV
 |some es=>match zbf kk k k with|some _=>(zgU kk k es).map (zfd z ok)|none=>none
 |none=>none
def lkO (kk:KK) (ok:Bool) (M:VM):Option DV→Option DV→Option DV→Option DV
 |some m,some k,some z=>lkE kk z ok k (zW M m)
 |_,_,_=>none
@[simp] theorem lkO_some (kk:KK) (ok:Bool) (M:VM) (m k z:DV):lkO kk ok M (some m) (some k) (some z)=lkE kk z ok k (zW M m):=id rfl
def muO (kk:KK) (M:VM):Option DV→Option DV→Option DV→RD
 |some m,some k,some x=>stR (updD kk M k x m)
 |_,_,_=>none
@[simp] theorem muO_some (kk:KK) (M:VM) (m k x:DV):muO kk M (some m) (some k) (some x)=stR (updD kk M k x m):=id rfl
def exV (i:Nat):DV→Option DV
 |.tup l=>l[i]?
 |_=>none
@[simp] theorem exV_tup (i:Nat) (l:List DV):exV i (.tup l)=l[i]?:=id rfl
def blO (b:CB) (M:VM):Option (List DV)→RD
 |some l=>bltD M b l
 |none=>none
@[simp] theorem blO_some (b:CB) (M:VM) (l:List DV):blO b M (some l)=bltD M b l:=id rfl
section
variable {s:DS} {M:VM}
@[simp] theorem opD_mv (x:CO):opD (.mv x) s M=rdV M (evD s x):=zb4 _ _
@[simp] theorem opD_pick (c a b:CO):opD (.pick c a b) s M=rdV M (pkO (evD s c) (evD s a) (evD s b)):=by
  show(evD s c).bind _=_;cases evD s c<;>first|rfl|exact zb4 _ _
@[simp] theorem opD_build (z:List Value) (ps:List (Nat×Nat×CO)):opD (.build z ps) s M=rdV M (bdO (dOfL z) (zfz s ps)):=by
  show(dOfL z).bind _=_
  cases dOfL z with
  |none=>rfl
  |some z=>show(zfz s ps).bind _=_;cases zfz s ps with
   |none=>rfl
   |some l=>show(zgp z l).map _=rdV M ((zgp z l).map .agg);cases zgp z l<;>rfl
@[simp] theorem opD_load1 (a:CO):opD (.load1 a) s M=rdV M (ld1 (rowO M (evD s a))):=by
  show(evD s a).bind _=_
  cases evD s a with
  |none=>rfl
  |some a=>show(zdd M a).bind _=rdV M (ld1 (zdd M a));cases zdd M a with
   |none=>rfl
   |some r=>exact zb4 _ _
@[simp] theorem opD_loadN (n:Nat) (a:CO):opD (.loadN n a) s M=rdV M (ldN n (rowO M (evD s a))):=by
  show(evD s a).bind _=_
  cases evD s a with
  |none=>rfl
  |some a=>show(zdd M a).bind _=rdV M (ldN n (zdd M a));cases zdd M a with
   |none=>rfl
   |some r=>show(zed n r).map _=rdV M ((zed n r).map .agg);cases zed n r<;>rfl
@[simp] theorem opD_store (n:Nat) (a x:CO):opD (.store n a x) s M=stO n M (evD s a) (evD s x):=by
  show(evD s a).bind _=_
  cases evD s a with
  |none=>rfl
  |some a=>show(evD s x).bind _=_;cases evD s x with
   |none=>rfl
   |some x=>show(zef n M x a).map _=stR (zef n M x a);cases zef n M x a<;>rfl
@[simp] theorem opD_nil (x:CO):opD (.nilCheck x) s M=rdV M (f1 nilD (evD s x)):=by
  show(evD s x).bind _=_;cases evD s x<;>first|rfl|exact zb4 _ _
@[simp] theorem opD_bin (op:BinOp) (ek:EK) (x y:CO):opD (.bin op ek x y) s M=rdV M (f2 (binD op ek) (evD s x) (evD s y)):=by
  show(evD s x).bind _=_
  cases evD s x with
  |none=>rfl
  |some a=>show(evD s y).bind _=_;cases evD s y<;>first|rfl|exact zb4 _ _
@[simp] theorem opD_un (op:UnOp) (x:CO):opD (.un op x) s M=rdV M (f1 (unD op) (evD s x)):=by
  show(evD s x).bind _=_;cases evD s x<;>first|rfl|exact zb4 _ _
@[simp] theorem opD_conv (k:IntKind) (x:CO):opD (.conv k x) s M=rdV M (f1 (convD k) (evD s x)):=by
  show(evD s x).bind _=_;cases evD s x<;>first|rfl|exact zb4 _ _
@[simp] theorem opD_makeFunc (g:Fn) (a b:List CO):opD (.makeFunc g a b) s M=fnO g M (evDL s a) (evDL s b):=by
  cases g with
  |func g=>
   show(evDL s a).bind _=_
   cases evDL s a with
   |none=>rfl
   |some a=>show(evDL s b).map _=_;cases evDL s b<;>rfl
  |_=>unfold opD fnO;cases evDL s a<;>cases evDL s b<;>rfl
@[simp] theorem opD_slice (n:Nat) (x:CO) (lo hi:Option CO):opD (.slice n x lo hi) s M=rdV M (slO n M (evD s x) (evDO s lo) (evDO s hi)):=by
  show(evD s x).bind _=_
  cases evD s x with
  |none=>rfl
  |some v=>show(evDO s lo).bind _=_;cases evDO s lo with
   |none=>rfl
   |some lo=>show(evDO s hi).bind _=_;cases evDO s hi<;>first|rfl|exact zb4 _ _
@[simp] theorem opD_fieldAddr (n:Nat) (x:CO):opD (.fieldAddr n x) s M=rdV M (f1 (offD n) (evD s x)):=by
  show(evD s x).bind _=_;cases evD s x<;>first|rfl|exact zb4 _ _
@[simp] theorem opD_indexAddr (n:Nat) (x i:CO):opD (.indexAddr n x i) s M=rdV M (f2 (addrD n M) (evD s i) (evD s x)):=by
  show(evD s x).bind _=_
  cases evD s x with
  |none=>cases evD s i<;>rfl
  |some a=>show(evD s i).bind _=_;cases evD s i<;>first|rfl|exact zb4 _ _
@[simp] theorem opD_indexArr (n m:Nat) (x i:CO):opD (.indexArr n m x i) s M=rdV M (f2 (arrD n m) (evD s i) (evD s x)):=by
  show(evD s x).bind _=_
  cases evD s x with
  |none=>cases evD s i<;>rfl
  |some a=>show(evD s i).bind _=_;cases evD s i<;>first|rfl|exact zb4 _ _
@[simp] theorem opD_lookup (kk:KK) (z:Value) (ok:Bool) (x i:CO):opD (.lookup kk z ok x i) s M=rdV M (lkO kk ok M (evD s x) (evD s i) (dOf z)):=by
  show(evD s x).bind _=_
  cases evD s x with
  |none=>rfl
  |some m=>show(evD s i).bind _=_;cases evD s i with
   |none=>rfl
   |some k=>show(dOf z).bind _=_;cases dOf z with
    |none=>rfl
    |some z=>
     show(zbf kk k k).bind _=rdV M (lkE kk z ok k (zW M m))
     cases hk:zbf kk k k with
     |none=>cases zW M m<;>simp[lkE,hk,rdV]
     |some b=>
      show(zW M m).bind _=_
      cases zW M m with
      |none=>rfl
      |some es=>
       simp only[lkE,hk]
       show(zgU kk k es).map _=rdV M ((zgU kk k es).map _)
       cases zgU kk k es<;>rfl
@[simp] theorem opD_mapUpdate (kk:KK) (m i x:CO):opD (.mapUpdate kk m i x) s M=muO kk M (evD s m) (evD s i) (evD s x):=by
  show(evD s m).bind _=_
  cases evD s m with
  |none=>rfl
  |some m=>show(evD s i).bind _=_;cases evD s i with
   |none=>rfl
   |some k=>show(evD s x).bind _=_;cases evD s x with
    |none=>rfl
    |some x=>show(updD kk M k x m).map _=stR (updD kk M k x m);cases updD kk M k x m<;>rfl
@[simp] theorem opD_extract (x:CO) (i:Nat):opD (.extract x i) s M=rdV M (f1 (exV i) (evD s x)):=by
  show(evD s x).bind _=_
  cases evD s x with
  |none=>rfl
  |some v=>cases v<;>first|rfl|exact zb4 _ _
@[simp] theorem opD_box (x:CO):opD (.box x) s M=bxO M (evD s x):=by
  show(evD s x).map _=_;cases evD s x<;>rfl
@[simp] theorem opD_alloc (z:List Value):opD (.alloc z) s M=alO M (dOfL z):=by
  show(dOfL z).map _=_;cases dOfL z<;>rfl
@[simp] theorem opD_makeMap:opD .makeMap s M=some (.map M.next,M.new (.map [])):=id rfl
@[simp] theorem opD_makeSlice (n b:Nat) (z:List Value) (l c:CO):opD (.makeSlice n b z l c) s M=mkO b M (evD s l) (evD s c) (dOfL z):=by
  show(evD s l).bind _=_
  cases evD s l with
  |none=>rfl
  |some l=>show(evD s c).bind _=_;cases evD s c with
   |none=>rfl
   |some c=>show(dOfL z).bind _=_;cases dOfL z<;>rfl
@[simp] theorem opD_buildSlice (len size:Nat) (z:List Value) (ps:List (Nat×CO)):opD (.buildSlice len size z ps) s M=bsO M len size (dOfL z) (zdR s ps):=by
  show(dOfL z).bind _=_
  cases dOfL z with
  |none=>rfl
  |some z=>
   show(if z.length=size∧len<zm then(zdR s ps).bind _ else none)=_
   cases zdR s ps with
   |none=>split<;>rfl
   |some l=>
    show _=(if z.length=size∧len<zm then msR M len size (zb3 size (List.replicate len z) l) else none)
    split
    ·show(zb3 _ _ _).map _=_;cases zb3 size (List.replicate len z) l<;>rfl
    ·rfl
@[simp] theorem opD_blt (b:CB) (as:List CO):opD (.blt b as) s M=blO b M (evDL s as):=by
  show(evDL s as).bind _=_;cases evDL s as<;>rfl
@[simp] theorem getS_bits (m n:Nat) (d:DV) (s:DS):getS ((bits m,d)::s) (bits n)=if m=n then some d else getS s (bits n):=by
  rw[zdu]
  by_cases h:m=n
  ·rw[if_pos h,if_pos (by rw[h])]
  ·rw[if_neg h,if_neg (fun e=>h (zfS e))]
@[simp] theorem evD_t (n:Nat):evD s (.t (bits n))=getS s (bits n):=id rfl
@[simp] theorem evD_int (k:IntKind) (n:Int):evD s (.c (.int k n))=some (.int k n):=id rfl
@[simp] theorem evD_bool (b:Bool):evD s (.c (.bool b))=some (.bool b):=id rfl
@[simp] theorem evD_fc (f:Nat):evD s (.c (.func (.func f) ⟨[]⟩ ⟨[]⟩))=some (.fn f [] []):=id rfl
@[simp] theorem evD_nilS:evD s (.c (.slice none 0 0))=some .nilS:=id rfl
@[simp] theorem evD_nilF:evD s (.c .nilFunc)=some .nilF:=id rfl
@[simp] theorem dOf_int (k:IntKind) (n:Int):dOf (.int k n)=some (.int k n):=id rfl
@[simp] theorem dOfL_nil:dOfL []=some []:=id rfl
@[simp] theorem dOfL_cons (v:Value) (r:List Value):dOfL (v::r)=(dOf1 v).bind fun d=>(dOfL r).map (d:: ·):=id rfl
@[simp] theorem dOf1_int (k:IntKind) (n:Int):dOf1 (.int k n)=some (.int k n):=id rfl
@[simp] theorem dOf1_bool (b:Bool):dOf1 (.bool b)=some (.bool b):=id rfl
@[simp] theorem dOf1_nilS:dOf1 (.slice none 0 0)=some .nilS:=id rfl
def consO:Option DV→Option (List DV)→Option (List DV)
 |some d,some l=>some (d::l)
 |_,_=>none
@[simp] theorem consO_some (d:DV) (l:List DV):consO (some d) (some l)=some (d::l):=id rfl
@[simp] theorem evDL_nil:evDL s []=some []:=id rfl
@[simp] theorem evDL_cons (x:CO) (r:List CO):evDL s (x::r)=consO (evD s x) (evDL s r):=by
  show(evD s x).bind _=_;cases evD s x<;>cases evDL s r<;>rfl
@[simp] theorem evDO_none:evDO s none=some none:=id rfl
@[simp] theorem evDO_some (x:CO):evDO s (some x)=(evD s x).map some:=id rfl
@[simp] theorem partsD_nil:zfz s []=some []:=id rfl
@[simp] theorem partsD_cons (o n:Nat) (x:CO) (r:List (Nat×Nat×CO)):zfz s ((o,n,x)::r)=(evD s x).bind fun v=>(zfz s r).map ((o,n,v):: ·):=id rfl
@[simp] theorem partsSD_nil:zdR s []=some []:=id rfl
@[simp] theorem partsSD_cons (i:Nat) (x:CO) (r:List (Nat×CO)):zdR s ((i,x)::r)=(evD s x).bind fun v=>(zdR s r).map ((i,v):: ·):=id rfl
@[simp] theorem fillD_nil (z:List DV):zgp z []=some z:=id rfl
def fillR (r:List (Nat×Nat×DV)):Option (List DV)→Option (List DV)
 |some c=>zgp c r
 |none=>none
@[simp] theorem fillR_some (r:List (Nat×Nat×DV)) (c:List DV):fillR r (some c)=zgp c r:=id rfl
@[simp] theorem fillD_cons (z:List DV) (o n:Nat) (v:DV) (r:List (Nat×Nat×DV)):zgp z ((o,n,v)::r)=if(zJ v).length=n∧0<n∧(zJ v).all zN=true then fillR r (zU z o (zJ v)) else none:=by
  show(if _ then(zU z o (zJ v)).bind _ else none)=_
  congr 1;cases zU z o (zJ v)<;>rfl
@[simp] theorem setRows_nil (n:Nat) (rows:List (List DV)):zb3 n rows []=some rows:=id rfl
@[simp] theorem setRows_cons (n:Nat) (rows:List (List DV)) (i:Nat) (v:DV) (r:List (Nat×DV)):zb3 n rows ((i,v)::r)=if(zJ v).length=n∧0<n∧(zJ v).all zN=true∧i<rows.length then zb3 n (rows.set i (zJ v)) r else none:=id rfl
@[simp] theorem writeD_n (l:List DV) (o:Nat):zU l o []=some l:=zfX l o
@[simp] theorem writeD_0 (c:DV) (l:List DV) (v:DV) (vs:List DV):zU (c::l) 0 (v::vs)=(zU l 0 vs).map (v:: ·):=id rfl
@[simp] theorem writeD_s (c:DV) (l:List DV) (n:Nat) (v:DV) (vs:List DV):zU (c::l) (n+1) (v::vs)=(zU l n (v::vs)).map (c:: ·):=id rfl
@[simp] theorem putDD_some (p:List Bool) (v:DV):z8 (some p) v s=(p,v)::s:=id rfl
@[simp] theorem putDD_none (v:DV):z8 none v s=s:=id rfl
def kpL (p:List Bool) (r:DS):Option DV→DS
 |some d=>(p,d)::r
 |none=>r
@[simp] theorem kpL_some (p:List Bool) (r:DS) (d:DV):kpL p r (some d)=(p,d)::r:=id rfl
@[simp] theorem keepD_nil:z6 [] s=s:=id rfl
@[simp] theorem keepD_cons (p:List Bool) (L:List (List Bool)):z6 (p::L) s=ziP s (p::L):=id rfl
@[simp] theorem keepL_nil:ziP s []=[]:=id rfl
@[simp] theorem keepL_cons (p:List Bool) (L:List (List Bool)):ziP s (p::L)=kpL p (ziP s L) (getS s p):=by
  show(match getS s p with|some d=>_|none=>_)=_;cases getS s p<;>rfl
def wtB (w:Bool):Option DV→Option Bool
 |some (.bool b)=>some (b==w)
 |some (.tup _)=>some false
 |_=>none
@[simp] theorem wtB_bool (w b:Bool):wtB w (some (.bool b))=some (b==w):=id rfl
@[simp] theorem wtB_tup (w:Bool) (l:List DV):wtB w (some (.tup l))=some false:=id rfl
@[simp] theorem wantD_some (q:List Bool) (w:Bool):wantD (some (q,w)) s=wtB w (getS s q):=by
  show(getS s q).bind _=_
  cases getS s q with
  |none=>rfl
  |some d=>cases d<;>rfl
@[simp] theorem argsD_nil (i:Nat):argsD [] i s=s:=id rfl
@[simp] theorem argsD_cons (v:DV) (vs:List DV) (i:Nat):argsD (v::vs) i s=argsD vs (i+1) ((bits i,v)::s):=id rfl
@[simp] theorem setSD_nil:setSD [] [] s=some s:=id rfl
@[simp] theorem setSD_cons (p:List Bool) (ps:List (List Bool)) (v:DV) (vs:List DV):setSD (p::ps) (v::vs) s=setSD ps vs ((p,v)::s):=id rfl
def enO (k:DV→VM→Prop) (M:VM):Option (List DV)→Prop
 |some vs=>k (zhh vs) M
 |none=>False
@[simp] theorem enO_some (k:DV→VM→Prop) (M:VM) (vs:List DV):enO k M (some vs)=k (zhh vs) M:=id rfl
@[simp] theorem endD_eq (rs:List CR) (k:DV→VM→Prop):endD rs k s M=enO k M (resDL s M rs):=by
  unfold endD;cases resDL s M rs<;>rfl
@[simp] theorem resDL_nil:resDL s M []=some []:=id rfl
@[simp] theorem resDL_cons (r:CR) (rs:List CR):resDL s M (r::rs)=consO (resD s M r) (resDL s M rs):=by
  show(resD s M r).bind _=_;cases resD s M r<;>cases resDL s M rs<;>rfl
@[simp] theorem resD_tmp (p:List Bool):resD s M (.tmp p)=getS s p:=id rfl
@[simp] theorem resD_cellN (n:Nat) (p:List Bool):resD s M (.cell (some n) p)=ldN n (rowO M (getS s p)):=by
  show(getS s p).bind _=_
  cases getS s p with
  |none=>rfl
  |some v=>show(zdd M v).bind _=ldN n (zdd M v);cases zdd M v<;>rfl
@[simp] theorem tupleD_one (v:DV):zhh [v]=v:=id rfl
@[simp] theorem tupleD_nil:zhh []=.tup []:=id rfl
@[simp] theorem tupleD_two (v u:DV) (l:List DV):zhh (v::u::l)=.tup (v::u::l):=id rfl
end
section
variable {M:VM}
@[simp] theorem new_next (o:MO):(M.new o).next=M.next+1:=id rfl
@[simp] theorem put_next (j:Nat) (o:MO):(M.put j o).next=M.next+1:=id rfl
@[simp] theorem del_next (j:Nat):(M.del j).next=M.next:=id rfl
@[simp low] theorem obj_new (o:MO) (i:Nat):(M.new o).obj i=if i=M.next then some o else M.obj i:=by
  unfold VM.obj VM.new;dsimp only;by_cases h:i=M.next<;>simp[h]
@[simp low] theorem obj_put (o:MO) (j i:Nat):(M.put j o).obj i=if i=j then some o else M.obj i:=by
  unfold VM.obj VM.put;dsimp only;by_cases h:i=j<;>simp[h]
@[simp low] theorem obj_del (j i:Nat):(M.del j).obj i=if i=j then none else M.obj i:=by
  unfold VM.obj VM.del;dsimp only;by_cases h:i=j<;>simp[h]
@[simp] theorem obj_new_eq (o:MO):(M.new o).obj M.next=some o:=by rw[obj_new,if_pos rfl]
@[simp] theorem obj_new_ne {o:MO} {i:Nat} (h:i≠M.next):(M.new o).obj i=M.obj i:=by rw[obj_new,if_neg h]
@[simp] theorem obj_put_eq (o:MO) (j:Nat):(M.put j o).obj j=some o:=by rw[obj_put,if_pos rfl]
@[simp] theorem obj_put_ne {o:MO} {j i:Nat} (h:i≠j):(M.put j o).obj i=M.obj i:=by rw[obj_put,if_neg h]
@[simp] theorem get_new_lt {o:MO} {i:Nat} (h:i<M.next):(M.new o).get i=M.get i:=by rw[get_new,if_neg (by omega)]
@[simp] theorem get_new_eq {o:MO}:(M.new o).get M.next=some (o,M.next):=by rw[get_new,if_pos rfl]
@[simp] theorem get_put_ne {j:Nat} {o:MO} {i:Nat} (h:i≠j):(M.put j o).get i=M.get i:=by rw[get_put,if_neg h]
@[simp] theorem get_put_eq {j:Nat} {o:MO}:(M.put j o).get j=some (o,M.next):=by rw[get_put,if_pos rfl]
@[simp] theorem get_del_ne {j:Nat} {i:Nat} (h:i≠j):(M.del j).get i=M.get i:=by rw[get_del,if_neg h]
@[simp] theorem get_del_eq {j:Nat}:(M.del j).get j=none:=by rw[get_del,if_pos rfl]
theorem zhY {j:Nat} (o:MO) (h:j<M.next):(M.new o).obj j=M.obj j:=by rw[obj_new,if_neg (by omega)]
@[simp] theorem offD_ptr (n j i o:Nat):offD n (.ptr j i o)=some (.ptr j i (o+n)):=id rfl
@[simp] theorem cellsD_agg (l:List DV):zJ (.agg l)=l:=id rfl
@[simp] theorem cellsD_int (k:IntKind) (n:Int):zJ (.int k n)=[.int k n]:=id rfl
@[simp] theorem cellsD_bool (b:Bool):zJ (.bool b)=[.bool b]:=id rfl
@[simp] theorem cellsD_ms (j lo len cap:Nat):zJ (.ms j lo len cap)=[.ms j lo len cap]:=id rfl
@[simp] theorem isCellD_int (k:IntKind) (n:Int):zN (.int k n)=true:=id rfl
@[simp] theorem isCellD_bool (b:Bool):zN (.bool b)=true:=id rfl
@[simp] theorem isCellD_lst (s:Nat) (r:List (List DV)):zN (.lst s r)=true:=id rfl
@[simp] theorem isCellD_ms (j lo len cap:Nat):zN (.ms j lo len cap)=true:=id rfl
@[simp] theorem nilD_ptr (j i o:Nat):nilD (.ptr j i o)=some (.ptr j i o):=id rfl
@[simp] theorem lenD_lst (s:Nat) (r:List (List DV)):lenD M (.lst s r)=some r.length:=id rfl
@[simp] theorem lenD_ms (j lo len cap:Nat):lenD M (.ms j lo len cap)=some len:=id rfl
@[simp] theorem lenD_nil:lenD M .nilS=some 0:=id rfl
def lenI (M:VM):Option Nat→RD
 |some n=>some (.int .i64 (n:Int),M)
 |none=>none
@[simp] theorem lenI_some (n:Nat):lenI M (some n)=some (.int .i64 (n:Int),M):=id rfl
@[simp] theorem bltD_len (d:DV):bltD M .len [d]=lenI M (lenD M d):=by show(lenD M d).map _=_;cases lenD M d<;>rfl
def lenE (M:VM):Option (List (DV×DV))→RD
 |some es=>some (.int .i64 (es.length:Int),M)
 |none=>none
@[simp] theorem lenE_some (es:List (DV×DV)):lenE M (some es)=some (.int .i64 (es.length:Int),M):=id rfl
@[simp] theorem bltD_lenMap (d:DV):bltD M .lenMap [d]=lenE M (zW M d):=by show(zW M d).map _=_;cases zW M d<;>rfl
@[simp] theorem bltD_min (v:DV) (r:List DV):bltD M .min (v::r)=rdV M (zcB false v r):=zb4 _ _
@[simp] theorem minmaxD_max (k:IntKind) (a b:Int):zcB true (.int k a) [.int k b]=some (.int k (if a<b then b else a)):=by
  show(if k=k then some (DV.int k (match ltI a b with|true=>b|false=>a)) else none)=_
  rw[if_pos rfl,zcZ];by_cases h:a<b<;>simp[h]
@[simp] theorem minmaxD_min (k:IntKind) (a b:Int):zcB false (.int k a) [.int k b]=some (.int k (if b<a then b else a)):=by
  show(if k=k then some (DV.int k (match ltI b a with|true=>b|false=>a)) else none)=_
  rw[if_pos rfl,zcZ];by_cases h:b<a<;>simp[h]
def apN (n b:Nat) (M:VM) (x:DV):Option (List (List DV))→RD
 |some new=>if new.all (fun r=>r.all zN)=true then zca n b M new x else none
 |none=>none
@[simp] theorem apN_some (n b:Nat) (x:DV) (new:List (List DV)):apN n b M x (some new)=if new.all (fun r=>r.all zN)=true then zca n b M new x else none:=id rfl
theorem bltD_append (n b:Nat) (s x:DV):bltD M (.append n b) [s,x]=if 0<n∧n<roE then apN n b M s (zch M n x) else none:=by
 show(if _ then(zch M n x).bind _ else none)=_
 congr 1;cases zch M n x<;>rfl
def cpN (n:Nat) (M:VM) (d:DV):Option (List (List DV))→RD
 |some src=>if src.all (fun r=>r.all zN)=true then copyD n M src d else none
 |none=>none
@[simp] theorem cpN_some (n:Nat) (d:DV) (src:List (List DV)):cpN n M d (some src)=if src.all (fun r=>r.all zN)=true then copyD n M src d else none:=id rfl
@[simp] theorem bltD_copy (n:Nat) (d x:DV):bltD M (.copy n) [d,x]=cpN n M d (zd5 M n x):=by
  show(zd5 M n x).bind _=_
  cases zd5 M n x<;>rfl
def cpM (n:Nat) (M:VM) (src:List (List DV)) (j lo len:Nat):Option MO→RD
 |some (.rows op sz rs)=>if sz=n∧lo+len≤rs.length∧0<len∧0<src.length then some (.int .i64 ((min len src.length:Nat):Int),M.put j (.rows op sz (zV rs (src.take (min len src.length)) lo))) else none
 |_=>none
@[simp] theorem cpM_some (n:Nat) (src:List (List DV)) (j lo len:Nat) (op:Bool) (sz:Nat) (rs:List (List DV)):cpM n M src j lo len (some (.rows op sz rs))=if sz=n∧lo+len≤rs.length∧0<len∧0<src.length then some (.int .i64 ((min len src.length:Nat):Int),M.put j (.rows op sz (zV rs (src.take (min len src.length)) lo))) else none:=id rfl
@[simp] theorem copyD_ms (n:Nat) (src:List (List DV)) (j lo len cap:Nat):copyD n M src (.ms j lo len cap)=cpM n M src j lo len (M.obj j):=by
  show(M.obj j).bind _=_
  cases M.obj j with
  |none=>rfl
  |some o=>cases o<;>rfl
def elO (n lo len:Nat):Option MO→Option (List (List DV))
 |some (.rows _ sz rs)=>if sz=n∧lo+len≤rs.length then some ((rs.drop lo).take len) else none
 |_=>none
@[simp] theorem elO_some (n lo len:Nat) (op:Bool) (sz:Nat) (rs:List (List DV)):elO n lo len (some (.rows op sz rs))=if sz=n∧lo+len≤rs.length then some ((rs.drop lo).take len) else none:=id rfl
@[simp] theorem elemsD_ms (n j lo len cap:Nat):zd5 M n (.ms j lo len cap)=elO n lo len (M.obj j):=by
  show(M.obj j).bind _=_
  cases M.obj j with
  |none=>rfl
  |some o=>cases o<;>rfl
@[simp] theorem appendedD_ms (n j lo len cap:Nat):zch M n (.ms j lo len cap)=elO n lo len (M.obj j):=elemsD_ms n j lo len cap
@[simp] theorem appendD_nilS (n b:Nat) (new:List (List DV)):zca n b M new .nilS=if new=[] then some (.nilS,M) else if new.length*b≤1073741824 then some (.ms M.next 0 new.length zm,M.new (.rows true n new)) else none:=by
  unfold zca;rfl
def apM (n:Nat) (M:VM) (new:List (List DV)) (j lo len cap:Nat):Option MO→RD
 |some o=>zg8 n M new j lo len cap o
 |none=>none
@[simp] theorem apM_some (n:Nat) (new:List (List DV)) (j lo len cap:Nat) (o:MO):apM n M new j lo len cap (some o)=zg8 n M new j lo len cap o:=id rfl
@[simp] theorem appendD_ms (n b:Nat) (new:List (List DV)) (j lo len cap:Nat):zca n b M new (.ms j lo len cap)=if new=[] then some (.ms j lo len cap,M) else if(len+new.length)*b≤1073741824 then apM n M new j lo len cap (M.obj j) else none:=by
  unfold zca
  by_cases h:new=[]
  ·rw[if_pos h,if_pos h]
  ·rw[if_neg h,if_neg h]
   show(if _ then(M.obj j).bind _ else none)=_
   congr 1;cases M.obj j<;>rfl
@[simp] theorem appendMs_grow (n:Nat) (new:List (List DV)) (j lo len:Nat) (sz:Nat) (rs:List (List DV)):zg8 n M new j lo len zm (.rows true sz rs)=if sz=n∧lo+len≤rs.length then
   (if lo+len+new.length≤rs.length then some (.ms j lo (len+new.length) zm,M.put j (.rows true sz (zV rs new (lo+len))))
    else some (.ms M.next 0 ((rs.drop lo).take len++new).length zm,(M.del j).new (.rows true n ((rs.drop lo).take len++new)))) else none:=by
  show(if sz=n∧lo+len≤rs.length then(if zm=zm then _ else none) else none)=_
  rw[if_pos rfl];rfl
theorem addrD_lst (s:Nat) (k:IntKind) (z:Int) (rows:List (List DV)):addrD s M (.int k z) (.lst s rows)=if 0≤z∧z.toNat<rows.length then some (.pl s rows z.toNat 0) else none:=by
 cases z with
 |ofNat i=>show(if s=s∧i<rows.length then _ else _)=_;simp
 |negSucc i=>show none=_;rw[if_neg (by omega)]
@[simp] theorem addrD_lstN (s:Nat) (k:IntKind) (i:Nat) (rows:List (List DV)):addrD s M (.int k (i:Int)) (.lst s rows)=if i<rows.length then some (.pl s rows i 0) else none:=by
  rw[addrD_lst];simp
@[simp] theorem addrD_lst0 (s:Nat) (k:IntKind) (rows:List (List DV)):addrD s M (.int k 0) (.lst s rows)=if 0<rows.length then some (.pl s rows 0 0) else none:=addrD_lstN s k 0 rows
def adO (n:Nat) (z:Int) (j lo len:Nat):Option MO→Option DV
 |some (.rows _ sz _)=>if sz=n∧0≤z∧z.toNat<len then some (.ptr j (lo+z.toNat) 0) else none
 |_=>none
@[simp] theorem adO_some (n:Nat) (z:Int) (j lo len:Nat) (op:Bool) (sz:Nat) (rs:List (List DV)):adO n z j lo len (some (.rows op sz rs))=if sz=n∧0≤z∧z.toNat<len then some (.ptr j (lo+z.toNat) 0) else none:=id rfl
@[simp] theorem addrD_ms (n:Nat) (k:IntKind) (z:Int) (j lo len cap:Nat):addrD n M (.int k z) (.ms j lo len cap)=adO n z j lo len (M.obj j):=by
  show(M.obj j).bind _=_
  cases M.obj j with
  |none=>rfl
  |some o=>cases o with
   |rows op sz rs=>
    cases z with
    |ofNat i=>show(if sz=n∧i<len then _ else _)=_;simp
    |negSucc i=>show none=_;rw[adO_some,if_neg (by omega)]
   |_=>cases z<;>rfl
theorem inD_int (y:Nat) (k:IntKind) (z:Int):inD y (.int k z)=if 0≤z∧z≤(y:Int) then some z.toNat else none:=by
 cases z with
 |ofNat i=>show(if i≤y then _ else _)=_;simp
 |negSucc i=>show none=_;rw[if_neg (by omega)]
@[simp] theorem boundD_none (d y:Nat):zx d y none=some d:=id rfl
@[simp] theorem boundD_some (d y:Nat) (k:IntKind) (z:Int):zx d y (some (.int k z))=if 0≤z∧z≤(y:Int) then some z.toNat else none:=inD_int y k z
def slT (j l:Nat) (lo:Option DV):Option Nat→Option DV
 |some hi=>(zx 0 hi lo).map fun lo=>.ms j (l+lo) (hi - lo) zm
 |none=>none
@[simp] theorem slT_some (j l hi:Nat) (lo:Option DV):slT j l lo (some hi)=(zx 0 hi lo).map fun lo=>.ms j (l+lo) (hi - lo) zm:=id rfl
def slF (j l cap:Nat) (lo:Option DV):Option Nat→Option DV
 |some hi=>(zx 0 hi lo).map fun lo=>.ms j (if cap=lo then l else l+lo) (hi - lo) (cap - lo)
 |none=>none
@[simp] theorem slF_some (j l cap hi:Nat) (lo:Option DV):slF j l cap lo (some hi)=(zx 0 hi lo).map fun lo=>.ms j (if cap=lo then l else l+lo) (hi - lo) (cap - lo):=id rfl
def slM (n:Nat) (lo hi:Option DV) (j l len cap:Nat):Option MO→Option DV
 |some (.rows true sz rs)=>if sz=n∧cap=zm∧l≤rs.length then slT j l lo (zx len (rs.length - l) hi) else none
 |some (.rows false sz _)=>if sz=n∧cap<zm then slF j l cap lo (zx len cap hi) else none
 |_=>none
@[simp] theorem slM_true (n:Nat) (lo hi:Option DV) (j l len cap sz:Nat) (rs:List (List DV)):slM n lo hi j l len cap (some (.rows true sz rs))=if sz=n∧cap=zm∧l≤rs.length then slT j l lo (zx len (rs.length - l) hi) else none:=id rfl
@[simp] theorem slM_false (n:Nat) (lo hi:Option DV) (j l len cap sz:Nat) (rs:List (List DV)):slM n lo hi j l len cap (some (.rows false sz rs))=if sz=n∧cap<zm then slF j l cap lo (zx len cap hi) else none:=id rfl
@[simp] theorem sliceD_ms (n:Nat) (lo hi:Option DV) (j l len cap:Nat):sliceD n M lo hi (.ms j l len cap)=slM n lo hi j l len cap (M.obj j):=by
  show(M.obj j).bind _=_
  cases M.obj j with
  |none=>rfl
  |some o=>
   cases o with
   |rows op sz rs=>
    cases op with
    |true=>
     show(if sz=n∧cap=zm∧l≤rs.length then(zx len (rs.length - l) hi).bind _ else none)=_
     rw[slM_true];congr 1;cases zx len (rs.length - l) hi<;>rfl
    |false=>
     show(if sz=n∧cap<zm then(zx len cap hi).bind _ else none)=_
     rw[slM_false];congr 1;cases zx len cap hi<;>rfl
   |_=>rfl
def enT:Option MO→Option (List (DV×DV))
 |some (.map es)=>some es
 |_=>none
@[simp] theorem enT_some (es:List (DV×DV)):enT (some (.map es))=some es:=id rfl
@[simp] theorem entriesD_map (j:Nat):zW M (.map j)=enT (M.obj j):=by
  show(M.obj j).bind _=_
  cases M.obj j with
  |none=>rfl
  |some o=>cases o<;>rfl
@[simp] theorem lookupD_some (z v:DV):zfd z true (some v)=.tup [v,.bool true]:=id rfl
@[simp] theorem lookupD_none (z:DV):zfd z true none=.tup [z,.bool false]:=id rfl
theorem makeSliceD_eq (b:Nat) (z:List DV) (l c:Int):zcs b z M (.int .i64 l) (.int .i64 c)=if 0≤l∧0≤c∧l≤c∧c.toNat*b≤1073741824∧c≤1073741824 then some (.ms M.next 0 l.toNat c.toNat,M.new (.rows false z.length (List.replicate c.toNat z))) else none:=by
 cases l with
 |ofNat l=>cases c with
  |ofNat c=>
   show(if l≤c∧c*b≤1073741824∧c≤1073741824 then _ else _)=_
   by_cases h:l≤c∧c*b≤1073741824∧c≤1073741824
   ·rw[if_pos h,if_pos (by obtain⟨a,e,f⟩:=h;exact⟨by simp,by simp,by simpa using a,by simpa using e,by simp;omega⟩)];rfl
   ·rw[if_neg h,if_neg (by rintro⟨_,_,a,e,f⟩;exact h ⟨by simpa using a,by simpa using e,by simp at f;omega⟩)]
  |negSucc c=>show none=_;rw[if_neg (by omega)]
 |negSucc l=>cases c<;>(show none=_;rw[if_neg (by omega)])
@[simp] theorem makeSliceD_N (b:Nat) (z:List DV) (n:Nat):zcs b z M (.int .i64 (n:Int)) (.int .i64 (n:Int))=if n*b≤1073741824∧n≤1073741824 then some (.ms M.next 0 n n,M.new (.rows false z.length (List.replicate n z))) else none:=by
  rw[makeSliceD_eq]
  by_cases h:n*b≤1073741824∧n≤1073741824
  ·rw[if_pos h,if_pos (by simp;omega)];rfl
  ·rw[if_neg h,if_neg (by simp;omega)]
@[simp] theorem assertD_eq (t u:Nat) (z v:DV):ziF t z true (.ifc u v)=if u=t then some (.tup [v,.bool true]) else some (.tup [z,.bool false]):=by
  show(match Nat.beq u t,true with|true,true=>_|true,false=>_|false,true=>_|false,false=>_)=_
  by_cases h:u=t
  ·subst h;rw[if_pos rfl,Nat.beq_refl]
  ·rw[if_neg h];cases e:Nat.beq u t with
   |true=>exact absurd (Nat.eq_of_beq_eq_true e) h
   |false=>rfl
@[simp] theorem assertD_eq' (t u:Nat) (z v:DV):ziF t z false (.ifc u v)=if u=t then some v else none:=by
  show(match Nat.beq u t,false with|true,true=>_|true,false=>_|false,true=>_|false,false=>_)=_
  by_cases h:u=t
  ·subst h;rw[if_pos rfl,Nat.beq_refl]
  ·rw[if_neg h];cases e:Nat.beq u t with
   |true=>exact absurd (Nat.eq_of_beq_eq_true e) h
   |false=>rfl
end
abbrev I (n:Int):DV:=.int .i64 n
section
variable {ek:EK} {a b:Int}
theorem eqI_dec (a b:Int):eqI a b=decide (a=b):=by rw[zfL];by_cases h:a=b<;>simp[h]
@[simp] theorem bin_lss:binD .lss ek (.int .i64 a) (.int .i64 b)=some (.bool (decide (a<b))):=by show some (DV.bool (ltI a b))=_;rw[zcZ]
@[simp] theorem bin_gtr:binD .gtr ek (.int .i64 a) (.int .i64 b)=some (.bool (decide (b<a))):=by show some (DV.bool (ltI b a))=_;rw[zcZ]
@[simp] theorem bin_geq:binD .geq ek (.int .i64 a) (.int .i64 b)=some (.bool (decide (b≤a))):=by
  show some (DV.bool (!(ltI a b)))=_;rw[zcZ];congr 2;by_cases h:a<b<;>simp[h]<;>omega
@[simp] theorem bin_eql:binD .eql ek (.int .i64 a) (.int .i64 b)=some (.bool (decide (a=b))):=by show some (DV.bool (eqI a b))=_;rw[eqI_dec]
@[simp] theorem bin_neq:binD .neq ek (.int .i64 a) (.int .i64 b)=some (.bool (!decide (a=b))):=by show some (DV.bool (!(eqI a b)))=_;rw[eqI_dec]
@[simp] theorem bin_add:binD .add ek (.int .i64 a) (.int .i64 b)=some (.int .i64 (zfY .i64 (a+b))):=id rfl
@[simp] theorem bin_sub:binD .sub ek (.int .i64 a) (.int .i64 b)=some (.int .i64 (zfY .i64 (a - b))):=id rfl
@[simp] theorem un_not (b:Bool):unD .not (.bool b)=some (.bool !b):=id rfl
theorem wrapF_in {n:Int} (h1: -9223372036854775808≤n) (h2:n≤9223372036854775807):zfY .i64 n=n:=by
 rw[zfn]
 show(if(true&&decide (n%(2^64:Int)≥(2^63:Int)))=true then n%(2^64:Int) - (2^64:Int) else n%(2^64:Int))=n
 simp only[Bool.true_and,decide_eq_true_eq]
 split<;>omega
theorem z9 {n:Int} (h1: -9223372036854775808≤n) (h2:n<9223372036854775808):zfY .i64 n=n:=wrapF_in h1 (by omega)
end
section
variable {F:FuncId→Option zl} {n0:Nat}
@[simp] theorem rD_call (f:DV) (l:List DV) (M:VM) (k kp:DV→VM→Prop):(rD F n0).call f l M k kp=zt F f l M k kp:=id rfl
@[simp] theorem rD_loop (L:List (List Bool)) (b:CC) (K:KD) (s:DS) (M:VM):(rD F n0).loop L b K s M=zcn F n0 L b K s M:=id rfl
end
section
variable {F:FuncId→Option zl} {n0:Nat}
theorem zt.fn {g:Nat} {a c args:List DV} {M:VM} {k kp:DV→VM→Prop} {cf:zl} (hF:F g=some cf) (hp:cf.prim=none) (hn:(a++args++c).length≤cf.ntmps) (h: @Cd (rD F M.next) (.base (bodyKD (rD F) cf.results k kp cf.dfr)) cf.body (argsD (a++args++c) 0 []) M):zt F (.fn g a c) args M k kp:=
 zt.func hF hp ⟨hn,h⟩
@[simp] theorem bodyKD_none (X:Nat→RnD) (rs:List CR) (k kp:DV→VM→Prop):bodyKD X rs k kp none=fnKD rs k kp:=id rfl
@[simp] theorem fnKD_ret (rs:List CR) (k kp:DV→VM→Prop) (s:DS) (M:VM):(fnKD rs k kp).ret s M=endD rs k s M:=id rfl
@[simp] theorem fnKD_nrm (rs:List CR) (k kp:DV→VM→Prop) (s:DS) (M:VM):(fnKD rs k kp).nrm s M=endD rs k s M:=id rfl
def LoK (F:FuncId→Option zl) (n0:Nat) (L:List (List Bool)) (b:CC) (K:KD):KD:=⟨fun s M=>zcn F n0 L b K (z6 L s) M,K.ext,K.ret,K.pan⟩
@[simp] theorem LoK_nrm (L:List (List Bool)) (b:CC) (K:KD) (s:DS) (M:VM):(LoK F n0 L b K).nrm s M=zcn F n0 L b K (z6 L s) M:=id rfl
@[simp] theorem LoK_ext (L:List (List Bool)) (b:CC) (K:KD) (i:Nat) (s:DS) (M:VM):(LoK F n0 L b K).ext i s M=K.ext i s M:=id rfl
@[simp] theorem LoK_ret (L:List (List Bool)) (b:CC) (K:KD) (s:DS) (M:VM):(LoK F n0 L b K).ret s M=K.ret s M:=id rfl
theorem zcn.go {L:List (List Bool)} {b b':CC} {K:KD} {s:DS} {M:VM} (hb:b=b') (h: @Cd (rD F n0) (.base (LoK F n0 L b K)) b' (z6 L s) M):zcn F n0 L b K s M:=zcn.step (hb▸h)
def SM (n:Nat) (M M':VM):Prop:= ∀j,j<n→M'.get j=M.get j
@[simp] theorem SM_refl (n:Nat) (M:VM):SM n M M:=fun _ _=>rfl
@[simp] theorem SM_new {n:Nat} {M M':VM} {o:MO} (h:SM n M M') (hn:n≤M'.next):SM n M (M'.new o):=fun j hj=>by rw[get_new,if_neg (by omega)];exact h j hj
@[simp] theorem SM_put {n:Nat} {M M':VM} {i:Nat} {o:MO} (h:SM n M M') (hn:n≤i):SM n M (M'.put i o):=fun j hj=>by rw[get_put,if_neg (by omega)];exact h j hj
@[simp] theorem SM_del {n:Nat} {M M':VM} {i:Nat} (h:SM n M M') (hn:n≤i):SM n M (M'.del i):=fun j hj=>by rw[get_del,if_neg (by omega)];exact h j hj
def Back (k:DV→VM→Prop) (M:VM) (d:DV) (M':VM):Prop:=M.Wf→ ∃e,Frz M' M d e∧zG M.next e∧(∀j,j<M.next→M'.get j=M.get j)∧k e M
theorem zt.back {f:DV} {args:List DV} {M:VM} {k kp:DV→VM→Prop} (h:zt F f args M (Back k M) kp):zt F f args M k kp:=
 zt.wf fun hw=>zt.conv (h.mono (fun d M' q=>let⟨e,h1,h2,h3,h4⟩:=q hw;⟨e,M,.same h3,h1,h2,h4⟩) (fun _ _ q=>q))
theorem Back.plain {k:DV→VM→Prop} {M M':VM} {d:DV} (hb:zG M.next d) (h:SM M.next M M') (hk:k d M):Back k M d M':=fun _=>⟨d,.refl d,hb,h,hk⟩
end
@[simp] theorem below_int {n:Nat} (k:IntKind) (a:Int):zG n (.int k a):=.int k a
@[simp] theorem below_bool {n:Nat} (b:Bool):zG n (.bool b):=.bool b
@[simp] theorem below_nilS {n:Nat}:zG n .nilS:=.nilS
theorem ziy {n:Nat} {p:DV} {q:Prop} (h1:zG n p→q) (h2:q→zG n p):zG n p=q:=propext ⟨h1,h2⟩
@[simp] theorem below_agg {n:Nat} (l:List DV):zG n (.agg l)= ∀d∈l,zG n d:=ziy (fun h=>by cases h;assumption) .agg
@[simp] theorem below_tup {n:Nat} (l:List DV):zG n (.tup l)= ∀d∈l,zG n d:=ziy (fun h=>by cases h;assumption) .tup
@[simp] theorem below_fn {n g:Nat} (a c:List DV):zG n (.fn g a c)=((∀d∈a,zG n d)∧ ∀d∈c,zG n d):=ziy (fun h=>by cases h;exact⟨‹_›,‹_›⟩) (fun h=>.fn g h.1 h.2)
attribute [simp] zp zc9 zo isW isRd isFl refD zcj
section
variable {M M':VM} {s:DS}
@[simp] theorem inP_nil (p:List Bool):inP [] p=false:=id rfl
@[simp] theorem inP_bits (m n:Nat) (r:List (List Bool)):inP (bits m::r) (bits n)=if m=n then true else inP r (bits n):=by
  show(match beqP (bits m) (bits n) with|true=>true|false=>inP r (bits n))=_
  by_cases h:m=n
  ·subst h;rw[if_pos rfl,zdD]
  ·rw[if_neg h];cases e:beqP (bits m) (bits n) with
   |true=>exact absurd (zfS (beqP_eq e)) h
   |false=>rfl
def fr1:Bool→Bool→Bool
 |true,_=>false
 |false,b=>b
@[simp] theorem fr1_true (b:Bool):fr1 true b=false:=id rfl
@[simp] theorem fr1_false (b:Bool):fr1 false b=b:=id rfl
@[simp] theorem freeOf_nil (b:List (List Bool)):zcE b []=true:=id rfl
@[simp] theorem freeOf_cons (b:List (List Bool)) (p:List Bool) (r:List (List Bool)):zcE b (p::r)=fr1 (inP b p) (zcE b r):=by
  show(match inP b p with|true=>false|false=>zcE b r)=_;cases inP b p<;>rfl
def nt:Bool→Option (List Bool)→Mo→Mo
 |true,_,x=>x
 |false,q,x=>zb1 q x
@[simp] theorem nt_true (q:Option (List Bool)) (x:Mo):nt true q x=x:=id rfl
@[simp] theorem nt_false (q:Option (List Bool)) (x:Mo):nt false q x=zb1 q x:=id rfl
@[simp] theorem noteN_eq (ns:List (List Bool)) (q:Option (List Bool)) (i:Nat) (M:VM) (b:List (List Bool)):zfB ns q ⟨i,M,b⟩=nt (zcE b ns) q ⟨i,M,b⟩:=by
  show(match zcE b ns with|true=>_|false=>_)=_;cases zcE b ns<;>rfl
@[simp] theorem addBad_some (q:List Bool) (i:Nat) (M:VM) (b:List (List Bool)):zb1 (some q) ⟨i,M,b⟩=⟨i,M,q::b⟩:=id rfl
@[simp] theorem addBad_none (x:Mo):zb1 none x=x:=id rfl
def rfO:Option DV→List Nat
 |some d=>refD d
 |none=>[]
@[simp] theorem rfO_some (d:DV):rfO (some d)=refD d:=id rfl
theorem refCO_rf (x:CO):zck s x=rfO (evD s x):=by unfold zck;cases evD s x<;>rfl
@[simp] theorem refs_load1 (a:CO):zcz s (.load1 a)=rfO (evD s a):=refCO_rf a
@[simp] theorem refs_loadN (n:Nat) (a:CO):zcz s (.loadN n a)=rfO (evD s a):=refCO_rf a
@[simp] theorem refs_slice (n:Nat) (x:CO) (lo hi:Option CO):zcz s (.slice n x lo hi)=rfO (evD s x):=refCO_rf x
theorem get_isSome (j:Nat):(M.get j).isSome=(M.obj j).isSome:=by unfold VM.obj;cases M.get j<;>rfl
@[simp] theorem alikeAt_nil:zeC [] M M'=True:=id rfl
@[simp] theorem alikeAt_cons (j:Nat) (r:List Nat):zeC (j::r) M M'=((M.get j=M'.get j∧(M.obj j).isSome=true)∧zeC r M M'):=by rw[←get_isSome];rfl
@[simp] theorem rdAt_eq (rs:List Nat) (ns:List (List Bool)) (i:Nat) (b:List (List Bool)):rdAt rs ns M ⟨i,M',b⟩=(zcE b ns=true∧zeC rs M M'):=id rfl
@[simp] theorem rdOk_nil (rs:List Nat) (ns:List (List Bool)) (lo:Nat):rdOk rs ns M lo []=True:=id rfl
@[simp] theorem rdOk_cons (rs:List Nat) (ns:List (List Bool)) (lo i:Nat) (b:List (List Bool)) (r:List Mo):rdOk rs ns M lo (⟨i,M',b⟩::r)=((if i<lo then True else rdAt rs ns M ⟨i,M',b⟩)∧rdOk rs ns M lo r):=by
  show((match Nat.blt i lo with|true=>True|false=>_)∧_)=_
  by_cases h:i<lo
  ·rw[if_pos h,show Nat.blt i lo=true from by show Nat.ble (i+1) lo=true;rw[Nat.ble_eq];exact h]
  ·rw[if_neg h];cases e:Nat.blt i lo with
   |true=>have e:Nat.ble (i+1) lo=true:=e;rw[Nat.ble_eq] at e;exact absurd e h
   |false=>rfl
@[simp] theorem rdBad_nil (lo:Nat) (q:Option (List Bool)):zhC lo q []=[]:=id rfl
@[simp] theorem rdBad_cons (lo:Nat) (q:Option (List Bool)) (i:Nat) (b:List (List Bool)) (r:List Mo):zhC lo q (⟨i,M,b⟩::r)=(if i<lo then zb1 q ⟨i,M,b⟩ else⟨i,M,b⟩)::zhC lo q r:=by
  show(match Nat.blt i lo with|true=>_|false=>_)::_=_
  by_cases h:i<lo
  ·rw[if_pos h,show Nat.blt i lo=true from by show Nat.ble (i+1) lo=true;rw[Nat.ble_eq];exact h]
  ·rw[if_neg h];cases e:Nat.blt i lo with
   |true=>have e:Nat.ble (i+1) lo=true:=e;rw[Nat.ble_eq] at e;exact absurd e h
   |false=>rfl
@[simp] theorem nextMo_cons (i:Nat) (b:List (List Bool)) (r:List Mo):zkb (⟨i,M,b⟩::r)=i+1:=id rfl
@[simp] theorem selfIn_one (x:Mo) (d:DV):zi7 [x] d=true:=id rfl
@[simp] theorem selfIn_two (x y:Mo) (r:List Mo) (d:DV):zi7 (x::y::r) d=selfEq d:=id rfl
@[simp] theorem selfEq_agg (l:List DV):selfEq (.agg l)=l.all zcj:=id rfl
end
end
end Go.Ideal
set_option maxRecDepth 100000
namespace Go.Ideal.Q
abbrev n_l:Nat:=6
abbrev n_t:Nat:=11
abbrev n_B:Nat:=12
abbrev n_i:Nat:=23
abbrev n_b:Nat:=24
abbrev n_v:Nat:=25
abbrev n_q:Nat:=26
abbrev n_g:Nat:=27
abbrev n_o:Nat:=51
abbrev n_u:Nat:=53
abbrev n_h:Nat:=55
abbrev n_m:Nat:=58
abbrev n_e:Nat:=59
abbrev n_x:Nat:=68
abbrev n_r:Nat:=73
abbrev n_a:Nat:=74
abbrev n_j:Nat:=75
abbrev n_c:Nat:=77
abbrev n_z:Nat:=94
abbrev n_w:Nat:=98
abbrev n_n:Nat:=103
abbrev n_f:Nat:=106
abbrev n_A:Nat:=109
abbrev n_d:Nat:=110
abbrev n_s:Nat:=138
abbrev n_p:Nat:=139
abbrev n_y:Nat:=160
abbrev n_k:Nat:=161
def r_l_1:List CI:=[bx 1 (t 0),mv 2 ff]
def r_l_2:List CI:=[ln 7 3 1,ca 8 n_t [(t 7)]]
def r_l_3:List CI:=[ca 9 n_B [],mv 2 (t 9)]
def r_l_4:List CI:=[ln 11 3 1,ca 12 n_i [(t 11)],mv 10 (t 12),ex 13 10 0,ex 14 10 1,mv 3 (t 13),mv 4 (t 14)]
def r_l_5:List CI:=[ln 16 3 1,ca 17 n_b [(t 16)],mv 15 (t 17),ex 18 15 0,ex 19 15 1,mv 5 (t 18),mv 6 (t 19)]
def r_l_6:List CI:=[ln 20 3 1,ca 21 n_v [(t 20)],ln 22 3 1,lo 1 (ca 23 n_q [(t 22)]),lo 2 (bi .eql 24 (t 21) (t 23)),lo 2 (mv 25 (t 24)),lo 2 (gu 25 true (mv 26 (t 3))),lo 2 (gu 25 true (mv 27 (t 5))),lo 2 (gu 25 true (ca 28 n_g [(t 26),(t 27)])),lo 3 (pk 29 (t 25) (t 28) ff),lo 3 (mv 30 (t 29)),lo 3 (gu 30 true (mv 31 (t 4))),lo 3 (gu 30 true (mv 32 (t 6))),lo 3 (gu 30 true (bi .eql 33 (t 31) (t 32))),lo 3 (pk 34 (t 30) (t 33) ff),lo 3 (mv 35 (t 34)),lo 3 (gu 35 true (ca 36 n_B [])),lo 4 (pk 37 (t 35) (t 36) ff),lo 4 (mv 2 (t 37))]
def c_l:CC:=(.seq (.ops r_l_1) (bs [1]) (.seq (.seq (.ops r_l_2) (bs [1,8]) (.cond (t 8) (.seq (.ops r_l_3) (bs [2]) .ret) .skip)) (bs [1]) (.seq (.ops r_l_4) (bs [1,3,4]) (.seq (.ops r_l_5) (bs [1,3,4,5,6]) (.seq (.draw r_l_6) (bs [2]) .ret)))))
def f_l:zl:=⟨38,[.tmp (bits 2)],c_l,none,none⟩
def r_t_1:List CI:=[bx 1 (t 0),mv 2 ff]
def r_t_2:List CI:=[fa 3 2 1,l 4 3,le 5 (t 4),bi .gtr 6 (t 5) (i 500),mv 2 (t 6)]
def c_t:CC:=(.seq (.ops r_t_1) (bs [1]) (.seq (.ops r_t_2) (bs [2]) .ret))
def f_t:zl:=⟨7,[.tmp (bits 2)],c_t,none,none⟩
def r_i_1:List CI:=[bx 1 (t 0),mv 2 (.c (.slice none 0 0)),mv 3 (i 0)]
def r_i_2:List CI:=[ln 12 3 1,ca 13 n_r [(t 12)],no 14 13]
def r_i_3:List CI:=[mv 2 (.c (.slice none 0 0)),mv 3 (i 2)]
def r_i_4:List CI:=[ln 15 3 1,oo 16 (.build [(iI 0),(iI 0),(.slice none 0 0)] [(0,3,(t 15))]),oo 4 (.alloc [(iI 0),(iI 0),(.slice none 0 0)]),st 3 4 (t 16)]
def r_i_5:List CI:=[ln 19 3 4,ca 20 n_o [(t 19)],ln 18 3 4,lo 1 (ca 21 n_a [(t 18),(t 20),(i (-1))]),lo 2 (mv 17 (t 21)),lo 2 (ex 22 17 0),lo 2 (ex 23 17 1),lo 2 (mv 5 (t 22)),lo 2 (mv 6 (t 23))]
def r_i_6:List CI:=[oo 24 (.makeMap),mv 7 (t 24)]
def r_i_7:List CI:=[mv 25 (t 5),le 26 (t 25),mv 27 (i 0)]
def r_i_8:List CI:=[bi .lss 28 (t 27) (t 26)]
def r_i_9:List CI:=[mv 29 (t 27),ia 30 1 25 (t 27),l 31 30,mv 8 (t 29),mv 9 (t 31)]
def r_i_10:List CI:=[mv 33 (t 7),mv 34 (t 9),oo 35 (.lookup .int (iI 0) true (t 33) (t 34)),mv 32 (t 35),ex 36 32 0,ex 37 32 1,mv 10 (t 36),mv 11 (t 37)]
def r_i_11:List CI:=[mv 38 (t 11),no 39 38]
def r_i_12:List CI:=[mv 40 (t 7),oo 41 (.blt .lenMap [(t 40)]),mv 10 (t 41)]
def r_i_13:List CI:=[mv 42 (t 7),mv 43 (t 9),mv 44 (t 10),on (.mapUpdate .int (t 42) (t 43) (t 44))]
def r_i_14:List CI:=[mv 45 (t 5),mv 46 (t 8),mv 47 (t 10),ia 48 1 45 (t 46),st 1 48 (t 47)]
def r_i_15:List CI:=[bi .add 49 (t 27) (i 1),mv 27 (t 49)]
def c_i_16:CC:=(.seq (.ops r_i_8) (bs [5,7,25,26,27,28]) (.seq (.cond (t 28) .skip (.exit 0)) (bs [5,7,25,26,27]) (.seq (.block 2 (.seq (.ops r_i_9) (bs [5,7,8,9,25,26,27]) (.seq (.ops r_i_10) (bs [5,7,8,9,10,11,25,26,27]) (.seq (.seq (.ops r_i_11) (bs [5,7,8,9,10,25,26,27,39]) (.cond (t 39) (.seq (.ops r_i_12) (bs [5,7,8,9,10,25,26,27]) (.ops r_i_13)) .skip)) (bs [5,7,8,10,25,26,27]) (.ops r_i_14))))) (bs [5,7,25,26,27]) (.ops r_i_15))))
def r_i_17:List CI:=[mv 50 (t 5),mv 2 (t 50),mv 3 (i 0)]
def c_i:CC:=(.seq (.ops r_i_1) (bs [1]) (.seq (.seq (.ops r_i_2) (bs [1,14]) (.cond (t 14) (.seq (.ops r_i_3) (bs [2,3]) .ret) .skip)) (bs [1]) (.seq (.ops r_i_4) (bs [4]) (.seq (.draw r_i_5) (bs [5]) (.seq (.ops r_i_6) (bs [5,7]) (.seq (.seq (.ops r_i_7) (bs [5,7,25,26,27]) (.block 0 (.loop (bs [5,7,25,26,27]) c_i_16))) (bs [5]) (.seq (.ops r_i_17) (bs [2,3]) .ret)))))))
def f_i:zl:=⟨51,[.tmp (bits 2),.tmp (bits 3)],c_i,none,none⟩
def r_b_1:List CI:=[bx 1 (t 0),mv 2 (.c (.slice none 0 0)),mv 3 (i 0)]
def r_b_2:List CI:=[ln 10 3 1,ca 11 n_h [(t 10)],no 12 11]
def r_b_3:List CI:=[mv 2 (.c (.slice none 0 0)),mv 3 (i 2)]
def r_b_4:List CI:=[fa 13 0 1,l 14 13,oo 15 (.makeSlice 1 8 [(iI 0)] (t 14) (t 14)),mv 4 (t 15)]
def r_b_5:List CI:=[mv 5 (i 0)]
def r_b_6:List CI:=[mv 16 (t 5),fa 17 0 1,l 18 17,bi .lss 19 (t 16) (t 18)]
def r_b_7:List CI:=[mv 22 (t 4),mv 23 (t 5),ia 24 1 22 (t 23),st 1 24 (i (-1))]
def r_b_8:List CI:=[mv 20 (t 5),bi .add 21 (t 20) (i 1),mv 5 (t 21)]
def c_b_9:CC:=(.seq (.seq (.ops r_b_6) (bs [1,4,5,19]) (.cond (t 19) .skip (.exit 0))) (bs [1,4,5]) (.seq (.block 2 (.ops r_b_7)) (bs [1,4,5]) (.ops r_b_8)))
def r_b_10:List CI:=[mv 6 (i 0)]
def r_b_11:List CI:=[mv 7 (i 0)]
def r_b_12:List CI:=[mv 25 (t 7),fa 26 0 1,l 27 26,bi .lss 28 (t 25) (t 27)]
def r_b_13:List CI:=[mv 31 (t 4),mv 32 (t 7),ia 33 1 31 (t 32),l 34 33,bi .geq 35 (t 34) (i 0)]
def r_b_14:List CI:=[ln 38 3 1,ca 39 n_m [(t 38)],ln 36 3 1,mv 37 (t 7),lo 1 (ca 40 n_j [(t 36),(t 37),(t 39),(i (-1))]),lo 2 (mv 8 (t 40))]
def r_b_15:List CI:=[mv 9 (i 0)]
def r_b_16:List CI:=[mv 41 (t 9),fa 42 0 1,l 43 42,bi .lss 44 (t 41) (t 43)]
def r_b_17:List CI:=[mv 47 (t 8),mv 48 (t 9),ia 49 1 47 (t 48),l 50 49]
def r_b_18:List CI:=[mv 51 (t 4),mv 52 (t 9),mv 53 (t 6),ia 54 1 51 (t 52),st 1 54 (t 53)]
def r_b_19:List CI:=[mv 45 (t 9),bi .add 46 (t 45) (i 1),mv 9 (t 46)]
def c_b_20:CC:=(.seq (.seq (.ops r_b_16) (bs [1,4,6,7,8,9,44]) (.cond (t 44) .skip (.exit 8))) (bs [1,4,6,7,8,9]) (.seq (.block 10 (.seq (.ops r_b_17) (bs [1,4,6,7,8,9,50]) (.cond (t 50) (.ops r_b_18) .skip))) (bs [1,4,6,7,8,9]) (.ops r_b_19)))
def r_b_21:List CI:=[mv 55 (t 6),bi .add 56 (t 55) (i 1),mv 6 (t 56)]
def r_b_22:List CI:=[mv 29 (t 7),bi .add 30 (t 29) (i 1),mv 7 (t 30)]
def c_b_23:CC:=(.seq (.seq (.ops r_b_12) (bs [1,4,6,7,28]) (.cond (t 28) .skip (.exit 4))) (bs [1,4,6,7]) (.seq (.block 6 (.seq (.seq (.ops r_b_13) (bs [1,4,6,7,35]) (.cond (t 35) (.exit 6) .skip)) (bs [1,4,6,7]) (.seq (.draw r_b_14) (bs [1,4,6,7,8]) (.seq (.seq (.ops r_b_15) (bs [1,4,6,7,8,9]) (.block 8 (.loop (bs [1,4,6,7,8,9]) c_b_20))) (bs [1,4,6,7]) (.ops r_b_21))))) (bs [1,4,6,7]) (.ops r_b_22)))
def r_b_24:List CI:=[mv 57 (t 4),mv 2 (t 57),mv 3 (i 0)]
def c_b:CC:=(.seq (.ops r_b_1) (bs [1]) (.seq (.seq (.ops r_b_2) (bs [1,12]) (.cond (t 12) (.seq (.ops r_b_3) (bs [2,3]) .ret) .skip)) (bs [1]) (.seq (.ops r_b_4) (bs [1,4]) (.seq (.seq (.ops r_b_5) (bs [1,4,5]) (.block 0 (.loop (bs [1,4,5]) c_b_9))) (bs [1,4]) (.seq (.ops r_b_10) (bs [1,4,6]) (.seq (.seq (.ops r_b_11) (bs [1,4,6,7]) (.block 4 (.loop (bs [1,4,6,7]) c_b_23))) (bs [4]) (.seq (.ops r_b_24) (bs [2,3]) .ret)))))))
def f_b:zl:=⟨58,[.tmp (bits 2),.tmp (bits 3)],c_b,none,none⟩
def r_v_1:List CI:=[bx 1 (t 0),mv 2 (i 0)]
def r_v_2:List CI:=[ln 3 3 1,ca 4 n_r [(t 3)],no 5 4]
def r_v_3:List CI:=[mv 2 (i 2)]
def r_v_4:List CI:=[mv 2 (i 0)]
def c_v:CC:=(.seq (.ops r_v_1) (bs [1]) (.seq (.seq (.ops r_v_2) (bs [5]) (.cond (t 5) (.seq (.ops r_v_3) (bs [2]) .ret) .skip)) [] (.seq (.ops r_v_4) (bs [2]) .ret)))
def f_v:zl:=⟨6,[.tmp (bits 2)],c_v,none,none⟩
def r_q_1:List CI:=[bx 1 (t 0),mv 2 (i 0)]
def r_q_2:List CI:=[ln 3 3 1,ca 4 n_h [(t 3)],no 5 4]
def r_q_3:List CI:=[mv 2 (i 2)]
def r_q_4:List CI:=[mv 2 (i 0)]
def c_q:CC:=(.seq (.ops r_q_1) (bs [1]) (.seq (.seq (.ops r_q_2) (bs [5]) (.cond (t 5) (.seq (.ops r_q_3) (bs [2]) .ret) .skip)) [] (.seq (.ops r_q_4) (bs [2]) .ret)))
def f_q:zl:=⟨6,[.tmp (bits 2)],c_q,none,none⟩
def r_g_1:List CI:=[mv 4 ff]
def r_g_2:List CI:=[mv 6 (t 0),le 7 (t 6),mv 8 (t 1),le 9 (t 8),bi .neq 10 (t 7) (t 9)]
def r_g_3:List CI:=[mv 4 ff]
def r_g_4:List CI:=[mv 5 (i 0)]
def r_g_5:List CI:=[mv 11 (t 5),mv 12 (t 0),le 13 (t 12),bi .lss 14 (t 11) (t 13)]
def r_g_6:List CI:=[mv 17 (t 0),mv 18 (t 5),ia 19 1 17 (t 18),l 20 19,mv 21 (t 1),mv 22 (t 5),ia 23 1 21 (t 22),l 24 23,bi .neq 25 (t 20) (t 24)]
def r_g_7:List CI:=[mv 4 ff]
def r_g_8:List CI:=[mv 15 (t 5),bi .add 16 (t 15) (i 1),mv 5 (t 16)]
def c_g_9:CC:=(.seq (.seq (.ops r_g_5) (bs [0,1,5,14]) (.cond (t 14) .skip (.exit 0))) (bs [0,1,5]) (.seq (.block 2 (.seq (.draw r_g_6) (bs [0,1,5,25]) (.cond (t 25) (.seq (.ops r_g_7) (bs [4]) .ret) .skip))) (bs [0,1,5]) (.ops r_g_8)))
def r_g_10:List CI:=[mv 4 tt]
def c_g:CC:=(.seq (.ops r_g_1) (bs [0,1]) (.seq (.seq (.ops r_g_2) (bs [0,1,10]) (.cond (t 10) (.seq (.ops r_g_3) (bs [4]) .ret) .skip)) (bs [0,1]) (.seq (.seq (.ops r_g_4) (bs [0,1,5]) (.block 0 (.loop (bs [0,1,5]) c_g_9))) [] (.seq (.ops r_g_10) (bs [4]) .ret))))
def f_g:zl:=⟨26,[.tmp (bits 4)],c_g,none,none⟩
def r_o_1:List CI:=[bx 1 (t 0),oo 2 (.alloc [(.int .u64 0)])]
def r_o_2:List CI:=[oo 3 (.alloc [(.int .u64 0)])]
def r_o_3:List CI:=[fa 5 0 1,fa 6 0 5,l 7 6,mv 8 (i 0)]
def r_o_4:List CI:=[bi .lss 9 (t 8) (t 7)]
def r_o_5:List CI:=[mv 10 (t 8),mv 4 (t 10)]
def r_o_6:List CI:=[mv 11 (t 4),ca 12 n_z [(t 3),(t 11)]]
def r_o_7:List CI:=[bi .add 13 (t 8) (i 1),mv 8 (t 13)]
def c_o_8:CC:=(.seq (.ops r_o_4) (bs [2,3,7,8,9]) (.seq (.cond (t 9) .skip (.exit 0)) (bs [2,3,7,8]) (.seq (.block 2 (.seq (.ops r_o_5) (bs [2,3,4,7,8]) (.ops r_o_6))) (bs [2,3,7,8]) (.ops r_o_7))))
def r_o_9:List CI:=[ln 14 1 3,st 1 2 (t 14)]
def c_o:CC:=(.seq (.ops r_o_1) (bs [1,2]) (.seq (.ops r_o_2) (bs [1,2,3]) (.seq (.seq (.ops r_o_3) (bs [2,3,7,8]) (.block 0 (.loop (bs [2,3,7,8]) c_o_8))) (bs [2,3]) (.seq (.ops r_o_9) (bs [2]) .ret))))
def f_o:zl:=⟨15,[.cell (some 1) (bits 2)],c_o,none,none⟩
def r_w:List CI:=[bx 1 (t 0),mv 2 (.c .nilFunc)]
def r_u_2:List CI:=[oo 3 (.makeFunc (.func n_w) [] [(t 1)]),mv 2 (t 3)]
def c_u:CC:=(.seq (.ops r_w) (bs [1]) (.seq (.ops r_u_2) (bs [2]) .ret))
def f_u:zl:=⟨4,[.tmp (bits 2)],c_u,none,none⟩
def r_h_1:List CI:=[bx 1 (t 0),mv 2 ff]
def r_h_2:List CI:=[fa 5 0 1,l 6 5,bi .lss 7 (t 6) (i 1),mv 8 (t 7),gu 8 false (fa 9 0 1),gu 8 false (l 10 9),gu 8 false (bi .gtr 11 (t 10) (i 60)),pk 12 (t 8) tt (t 11),mv 13 (t 12),gu 13 false (fa 14 1 1),gu 13 false (l 15 14),gu 13 false (bi .lss 16 (t 15) (i 0)),pk 17 (t 13) tt (t 16),mv 18 (t 17),gu 18 false (fa 19 1 1),gu 18 false (l 20 19),gu 18 false (bi .gtr 21 (t 20) (i 40)),pk 22 (t 18) tt (t 21),mv 23 (t 22),gu 23 false (fa 24 2 1),gu 23 false (l 25 24),gu 23 false (le 26 (t 25)),gu 23 false (bi .gtr 27 (t 26) (i 400)),pk 28 (t 23) tt (t 27)]
def r_h_3:List CI:=[mv 2 ff]
def r_h_4:List CI:=[mv 3 (i 0)]
def r_h_5:List CI:=[mv 29 (t 3),fa 30 2 1,l 31 30,le 32 (t 31),bi .lss 33 (t 29) (t 32)]
def r_h_6:List CI:=[fa 36 2 1,l 37 36,mv 38 (t 3),ia 39 3 37 (t 38),ln 40 3 39,oo 4 (.alloc [(iI 0),(iI 0),(iI 0)]),st 3 4 (t 40)]
def r_h_7:List CI:=[fa 41 0 4,l 42 41,bi .lss 43 (t 42) (i 0),mv 44 (t 43),gu 44 false (fa 45 0 4),gu 44 false (l 46 45),gu 44 false (fa 47 0 1),gu 44 false (l 48 47),gu 44 false (bi .geq 49 (t 46) (t 48)),pk 50 (t 44) tt (t 49),mv 51 (t 50),gu 51 false (fa 52 2 4),gu 51 false (l 53 52),gu 51 false (bi .lss 54 (t 53) (i 0)),pk 55 (t 51) tt (t 54),mv 56 (t 55),gu 56 false (fa 57 2 4),gu 56 false (l 58 57),gu 56 false (fa 59 0 1),gu 56 false (l 60 59),gu 56 false (bi .geq 61 (t 58) (t 60)),pk 62 (t 56) tt (t 61),mv 63 (t 62),gu 63 false (fa 64 1 4),gu 63 false (l 65 64),gu 63 false (bi .lss 66 (t 65) (i 0)),pk 67 (t 63) tt (t 66),mv 68 (t 67),gu 68 false (fa 69 1 4),gu 68 false (l 70 69),gu 68 false (fa 71 1 1),gu 68 false (l 72 71),gu 68 false (bi .geq 73 (t 70) (t 72)),pk 74 (t 68) tt (t 73)]
def r_h_8:List CI:=[mv 2 ff]
def r_h_9:List CI:=[mv 75 (t 3),bi .gtr 76 (t 75) (i 0),mv 77 (t 76),gu 77 true (fa 78 2 1),gu 77 true (l 79 78),gu 77 true (mv 80 (t 3)),gu 77 true (bi .sub 81 (t 80) (i 1)),gu 77 true (ia 82 3 79 (t 81)),gu 77 true (ln 83 3 82),gu 77 true (ln 84 3 4),gu 77 true (ca 85 n_n [(t 83),(t 84)]),lo 1 (gu 77 true (no 86 85)),lo 1 (pk 87 (t 77) (t 86) ff)]
def r_h_10:List CI:=[mv 2 ff]
def r_h_11:List CI:=[mv 34 (t 3),bi .add 35 (t 34) (i 1),mv 3 (t 35)]
def c_h_12:CC:=(.seq (.seq (.ops r_h_5) (bs [1,3,33]) (.cond (t 33) .skip (.exit 0))) (bs [1,3]) (.seq (.block 2 (.seq (.ops r_h_6) (bs [1,3,4]) (.seq (.seq (.ops r_h_7) (bs [1,3,4,74]) (.cond (t 74) (.seq (.ops r_h_8) (bs [2]) .ret) .skip)) (bs [1,3,4]) (.seq (.draw r_h_9) (bs [1,3,87]) (.cond (t 87) (.seq (.ops r_h_10) (bs [2]) .ret) .skip))))) (bs [1,3]) (.ops r_h_11)))
def r_h_13:List CI:=[mv 2 tt]
def c_h:CC:=(.seq (.ops r_h_1) (bs [1]) (.seq (.seq (.ops r_h_2) (bs [1,28]) (.cond (t 28) (.seq (.ops r_h_3) (bs [2]) .ret) .skip)) (bs [1]) (.seq (.seq (.ops r_h_4) (bs [1,3]) (.block 0 (.loop (bs [1,3]) c_h_12))) [] (.seq (.ops r_h_13) (bs [2]) .ret))))
def f_h:zl:=⟨88,[.tmp (bits 2)],c_h,none,none⟩
def r_m_1:List CI:=[bx 1 (t 0),mv 2 (.c (.slice none 0 0))]
def r_m_2:List CI:=[fa 5 0 1,l 6 5,oo 7 (.makeSlice 1 1 [(.bool false)] (t 6) (t 6)),mv 3 (t 7)]
def r_m_3:List CI:=[mv 4 (i 0)]
def r_m_4:List CI:=[mv 8 (t 4),fa 9 0 1,l 10 9,bi .lss 11 (t 8) (t 10)]
def r_m_5:List CI:=[mv 14 (t 3),mv 15 (t 4),ia 16 1 14 (t 15),st 1 16 tt]
def r_m_6:List CI:=[mv 12 (t 4),bi .add 13 (t 12) (i 1),mv 4 (t 13)]
def c_m_7:CC:=(.seq (.seq (.ops r_m_4) (bs [1,3,4,11]) (.cond (t 11) .skip (.exit 0))) (bs [1,3,4]) (.seq (.block 2 (.ops r_m_5)) (bs [1,3,4]) (.ops r_m_6)))
def r_m_8:List CI:=[mv 17 (t 3),mv 2 (t 17)]
def c_m:CC:=(.seq (.ops r_m_1) (bs [1]) (.seq (.ops r_m_2) (bs [1,3]) (.seq (.seq (.ops r_m_3) (bs [1,3,4]) (.block 0 (.loop (bs [1,3,4]) c_m_7))) (bs [3]) (.seq (.ops r_m_8) (bs [2]) .ret))))
def f_m:zl:=⟨18,[.tmp (bits 2)],c_m,none,none⟩
def r_e_1:List CI:=[bx 4 (t 0),mv 8 (.c (.slice none 0 0))]
def r_e_2:List CI:=[fa 13 0 4,l 14 13,oo 15 (.makeSlice 1 1 [(.bool false)] (t 14) (t 14)),mv 9 (t 15)]
def r_e_3:List CI:=[mv 16 (t 9),mv 17 (t 1),ia 18 1 16 (t 17),st 1 18 tt]
def r_e_4:List CI:=[mv 10 tt]
def r_e_5:List CI:=[mv 19 (t 10)]
def r_e_6:List CI:=[mv 10 ff]
def r_e_7:List CI:=[mv 11 (i 0)]
def r_e_8:List CI:=[mv 20 (t 11),fa 21 2 4,l 22 21,le 23 (t 22),bi .lss 24 (t 20) (t 23)]
def r_e_9:List CI:=[fa 27 2 4,l 28 27,mv 29 (t 11),ia 30 3 28 (t 29),ln 31 3 30,oo 12 (.alloc [(iI 0),(iI 0),(iI 0)]),st 3 12 (t 31)]
def r_e_10:List CI:=[fa 32 1 12,l 33 32,mv 34 (t 3),bi .neq 35 (t 33) (t 34),mv 36 (t 35),gu 36 true (mv 37 (t 9)),gu 36 true (fa 38 0 12),gu 36 true (l 39 38),gu 36 true (ia 40 1 37 (t 39)),gu 36 true (l 41 40),pk 42 (t 36) (t 41) ff,mv 43 (t 42),gu 43 true (mv 44 (t 2)),gu 43 true (fa 45 2 12),gu 43 true (l 46 45),gu 43 true (ia 47 1 44 (t 46)),gu 43 true (l 48 47),pk 49 (t 43) (t 48) ff,mv 50 (t 49),gu 50 true (mv 51 (t 9)),gu 50 true (fa 52 2 12),gu 50 true (l 53 52),gu 50 true (ia 54 1 51 (t 53)),gu 50 true (l 55 54),gu 50 true (no 56 55),pk 57 (t 50) (t 56) ff]
def r_e_11:List CI:=[mv 58 (t 9),fa 59 2 12,l 60 59,ia 61 1 58 (t 60),st 1 61 tt]
def r_e_12:List CI:=[mv 10 tt]
def r_e_13:List CI:=[mv 25 (t 11),bi .add 26 (t 25) (i 1),mv 11 (t 26)]
def c_e_14:CC:=(.seq (.seq (.ops r_e_8) (bs [2,3,4,9,10,11,24]) (.cond (t 24) .skip (.exit 4))) (bs [2,3,4,9,10,11]) (.seq (.block 6 (.seq (.ops r_e_9) (bs [2,3,4,9,10,11,12]) (.seq (.ops r_e_10) (bs [2,3,4,9,10,11,12,57]) (.cond (t 57) (.seq (.ops r_e_11) (bs [2,3,4,9,11]) (.ops r_e_12)) .skip)))) (bs [2,3,4,9,10,11]) (.ops r_e_13)))
def c_e_15:CC:=(.seq (.seq (.ops r_e_5) (bs [2,3,4,9,19]) (.cond (t 19) .skip (.exit 0))) (bs [2,3,4,9]) (.block 2 (.seq (.ops r_e_6) (bs [2,3,4,9,10]) (.seq (.ops r_e_7) (bs [2,3,4,9,10,11]) (.block 4 (.loop (bs [2,3,4,9,10,11]) c_e_14))))))
def r_e_16:List CI:=[mv 62 (t 9),mv 8 (t 62)]
def c_e:CC:=(.seq (.ops r_e_1) (bs [1,2,3,4]) (.seq (.ops r_e_2) (bs [1,2,3,4,9]) (.seq (.ops r_e_3) (bs [2,3,4,9]) (.seq (.seq (.ops r_e_4) (bs [2,3,4,9,10]) (.block 0 (.loop (bs [2,3,4,9,10]) c_e_15))) (bs [9]) (.seq (.ops r_e_16) (bs [8]) .ret)))))
def f_e:zl:=⟨63,[.tmp (bits 8)],c_e,none,none⟩
def r_x_1:List CI:=[bx 2 (t 0),mv 4 ff]
def r_x_2:List CI:=[mv 5 (t 1),bi .quo 6 (t 5) (i 64),oo 7 (.indexArr 1 1 (t 2) (t 6)),l 8 7,mv 9 (t 1),bi .rem 10 (t 9) (i 64),bi .shr 11 (t 8) (t 10),bi .and 12 (t 11) (.c (.int .u64 1)),bi .eql 13 (t 12) (.c (.int .u64 1)),mv 4 (t 13)]
def c_x:CC:=(.seq (.ops r_x_1) (bs [1,2]) (.seq (.ops r_x_2) (bs [4]) .ret))
def f_x:zl:=⟨14,[.tmp (bits 4)],c_x,none,none⟩
def r_r_1:List CI:=[bx 1 (t 0),mv 2 ff]
def r_r_2:List CI:=[fa 5 0 1,l 6 5,bi .lss 7 (t 6) (i 1),mv 8 (t 7),gu 8 false (fa 9 0 1),gu 8 false (l 10 9),gu 8 false (bi .gtr 11 (t 10) (i 60)),pk 12 (t 8) tt (t 11),mv 13 (t 12),gu 13 false (fa 14 1 1),gu 13 false (l 15 14),gu 13 false (bi .lss 16 (t 15) (i 0)),pk 17 (t 13) tt (t 16),mv 18 (t 17),gu 18 false (fa 19 1 1),gu 18 false (l 20 19),gu 18 false (bi .gtr 21 (t 20) (i 40)),pk 22 (t 18) tt (t 21),mv 23 (t 22),gu 23 false (fa 24 2 1),gu 23 false (l 25 24),gu 23 false (le 26 (t 25)),gu 23 false (bi .gtr 27 (t 26) (i 400)),pk 28 (t 23) tt (t 27)]
def r_r_3:List CI:=[mv 2 ff]
def r_r_4:List CI:=[fa 29 2 1,l 30 29,le 31 (t 30),mv 32 (i 0)]
def r_r_5:List CI:=[bi .lss 33 (t 32) (t 31)]
def r_r_6:List CI:=[mv 34 (t 32),ia 35 3 30 (t 32),ln 36 3 35,oo 4 (.alloc [(iI 0),(iI 0),(iI 0)]),mv 3 (t 34),st 3 4 (t 36)]
def r_r_7:List CI:=[fa 37 0 4,l 38 37,bi .lss 39 (t 38) (i 0),mv 40 (t 39),gu 40 false (fa 41 0 4),gu 40 false (l 42 41),gu 40 false (fa 43 0 1),gu 40 false (l 44 43),gu 40 false (bi .geq 45 (t 42) (t 44)),pk 46 (t 40) tt (t 45),mv 47 (t 46),gu 47 false (fa 48 2 4),gu 47 false (l 49 48),gu 47 false (bi .lss 50 (t 49) (i 0)),pk 51 (t 47) tt (t 50),mv 52 (t 51),gu 52 false (fa 53 2 4),gu 52 false (l 54 53),gu 52 false (fa 55 0 1),gu 52 false (l 56 55),gu 52 false (bi .geq 57 (t 54) (t 56)),pk 58 (t 52) tt (t 57),mv 59 (t 58),gu 59 false (fa 60 1 4),gu 59 false (l 61 60),gu 59 false (bi .lss 62 (t 61) (i 0)),pk 63 (t 59) tt (t 62),mv 64 (t 63),gu 64 false (fa 65 1 4),gu 64 false (l 66 65),gu 64 false (fa 67 1 1),gu 64 false (l 68 67),gu 64 false (bi .geq 69 (t 66) (t 68)),pk 70 (t 64) tt (t 69),mv 71 (t 70),gu 71 false (mv 72 (t 3)),gu 71 false (bi .gtr 73 (t 72) (i 0)),gu 71 false (mv 74 (t 73)),gu 74 true (fa 75 2 1),gu 74 true (l 76 75),gu 74 true (mv 77 (t 3)),gu 74 true (bi .sub 78 (t 77) (i 1)),gu 74 true (ia 79 3 76 (t 78)),gu 74 true (ln 80 3 79),gu 74 true (ln 81 3 4),gu 74 true (ca 82 n_A [(t 80),(t 81)]),lo 1 (gu 74 true (bi .geq 83 (t 82) (i 0))),lo 1 (gu 71 false (pk 84 (t 74) (t 83) ff)),lo 1 (pk 85 (t 71) tt (t 84))]
def r_r_8:List CI:=[mv 2 ff]
def r_r_9:List CI:=[bi .add 86 (t 32) (i 1),mv 32 (t 86)]
def c_r_10:CC:=(.seq (.ops r_r_5) (bs [1,30,31,32,33]) (.seq (.cond (t 33) .skip (.exit 0)) (bs [1,30,31,32]) (.seq (.block 2 (.seq (.ops r_r_6) (bs [1,3,4,30,31,32]) (.seq (.draw r_r_7) (bs [1,30,31,32,85]) (.cond (t 85) (.seq (.ops r_r_8) (bs [2]) .ret) .skip)))) (bs [1,30,31,32]) (.ops r_r_9))))
def r_r_11:List CI:=[mv 2 tt]
def c_r:CC:=(.seq (.ops r_r_1) (bs [1]) (.seq (.seq (.ops r_r_2) (bs [1,28]) (.cond (t 28) (.seq (.ops r_r_3) (bs [2]) .ret) .skip)) (bs [1]) (.seq (.seq (.ops r_r_4) (bs [1,30,31,32]) (.block 0 (.loop (bs [1,30,31,32]) c_r_10))) [] (.seq (.ops r_r_11) (bs [2]) .ret))))
def f_r:zl:=⟨87,[.tmp (bits 2)],c_r,none,none⟩
def r_a_1:List CI:=[bx 3 (t 0),bx 4 (t 1),bx 5 (t 2),mv 6 (.c (.slice none 0 0)),mv 7 (i 0)]
def r_a_2:List CI:=[oo 21 (.buildSlice 1 1 [(iI 0)] [(0,(i (-1)))]),fa 22 0 3,fa 23 0 22,l 24 23,ca 25 n_f [(t 21),(t 24)],oo 8 (.alloc [(.slice none 0 0)]),st 1 8 (t 25)]
def r_a_3:List CI:=[fa 26 0 3,fa 27 0 26,l 28 27,oo 29 (.makeSlice 2 16 [(iI 0),(iI 0)] (t 28) (t 28)),oo 9 (.alloc [(.slice none 0 0)]),st 1 9 (t 29)]
def r_a_4:List CI:=[oo 10 (.alloc [(.slice none 0 0)]),oo 11 (.alloc [(.slice none 0 0)])]
def r_a_5:List CI:=[fa 30 0 3,fa 31 0 30,l 32 31,oo 33 (.makeSlice 1 8 [(iI 0)] (t 32) (t 32)),oo 12 (.alloc [(.slice none 0 0)]),st 1 12 (t 33)]
def r_a_6:List CI:=[oo 13 (.alloc [(iI 0)]),oo 14 (.alloc [(iI 0)]),st 1 13 (i 0),st 1 14 (i 0)]
def r_a_7:List CI:=[oo 15 (.alloc [(iI 0)]),oo 16 (.alloc [(iI 0)])]
def r_a_8:List CI:=[ln 34 1 4,ca 35 n_u [(t 34)]]
def r_a_9:List CI:=[mv 17 (t 36)]
def zhQ:List CI:=[l 37 9,mv 38 (t 17),ia 39 2 37 (t 38),fa 40 0 39,l 41 40,bi .gtr 42 (t 41) (i 0)]
def zhP:List CI:=[mv 43 (t 17),st 1 15 (t 43)]
def zj6:List CI:=[l 44 13,bi .add 45 (t 44) (i 1),st 1 13 (t 45)]
def zj5:List CI:=[l 46 9,l 47 15,l 48 13,l 49 13,oo 50 (.build [(iI 0),(iI 0)] [(0,1,(t 48)),(1,1,(t 49))]),ia 51 2 46 (t 47),st 2 51 (t 50)]
def zj4:List CI:=[l 52 10,l 53 15,oo 54 (.buildSlice 1 1 [(iI 0)] [(0,(t 53))]),ap 55 1 8 (t 52) (t 54),st 1 10 (t 55)]
def zj3:List CI:=[l 56 11,l 57 15,oo 58 (.buildSlice 1 1 [(iI 0)] [(0,(t 57))]),ap 59 1 8 (t 56) (t 58),st 1 11 (t 59)]
def zj2:List CI:=[l 60 12,l 61 15,ia 62 1 60 (t 61),l 63 62,fa 64 0 3,fa 65 2 64,l 66 65,le 67 (t 66),bi .lss 68 (t 63) (t 67)]
def zj1:List CI:=[fa 75 0 3,fa 76 2 75,l 77 76,l 78 12,l 79 15,ia 80 1 78 (t 79),l 81 80,ia 82 3 77 (t 81),ln 83 3 82,oo 18 (.alloc [(iI 0),(iI 0),(iI 0)]),st 3 18 (t 83)]
def zj0:List CI:=[fa 84 0 18,l 85 84,l 86 15,bi .neq 87 (t 85) (t 86),mv 88 (t 87),gu 88 false (fa 89 1 18),gu 88 false (l 90 89),gu 88 false (l 91 5),gu 88 false (bi .eql 92 (t 90) (t 91)),pk 93 (t 88) tt (t 92),mv 94 (t 93),gu 94 false (ln 95 1 4),gu 94 false (fa 96 2 18),gu 94 false (l 97 96),gu 94 false (ca 98 n_x [(t 95),(t 97)]),gu 94 false (no 99 98),pk 100 (t 94) tt (t 99)]
def zjZ:List CI:=[l 101 9,fa 102 2 18,l 103 102,ia 104 2 101 (t 103),fa 105 0 104,l 106 105,bi .eql 107 (t 106) (i 0)]
def zjY:List CI:=[fa 108 2 18,l 109 108,st 1 15 (t 109)]
def zjX:List CI:=[l 110 8,fa 111 2 18,l 112 111,ia 113 1 110 (t 112),l 114 113,bi .lss 115 (t 114) (i 0)]
def zjW:List CI:=[l 116 9,l 117 15,l 118 9,l 119 15,ia 120 2 118 (t 119),fa 121 1 120,l 122 121,l 123 9,fa 124 2 18,l 125 124,ia 126 2 123 (t 125),fa 127 1 126,l 128 127,oo 129 (.blt .min [(t 122),(t 128)]),ia 130 2 116 (t 117),fa 131 1 130,st 1 131 (t 129)]
def zjV:List CI:=[l 69 12,l 70 15,ia 71 1 69 (t 70),l 72 71,bi .add 73 (t 72) (i 1),ia 74 1 69 (t 70),st 1 74 (t 73)]
def c_a_24:CC:=(.seq (.seq (.draw zj2) (bs [3,4,5,8,9,10,11,12,13,14,15,16,68]) (.cond (t 68) .skip (.exit 4))) (bs [3,4,5,8,9,10,11,12,13,14,15,16]) (.seq (.block 6 (.seq (.draw zj1) (bs [3,4,5,8,9,10,11,12,13,14,15,16,18]) (.seq (.seq (.ops zj0) (bs [3,4,5,8,9,10,11,12,13,14,15,16,18,100]) (.cond (t 100) (.exit 6) .skip)) (bs [3,4,5,8,9,10,11,12,13,14,15,16,18]) (.seq (.seq (.ops zjZ) (bs [3,4,5,8,9,10,11,12,13,14,15,16,18,107]) (.cond (t 107) (.seq (.ops zjY) (bs [3,4,5,8,9,10,11,12,13,14,15,16]) (.exit 1)) .skip)) (bs [3,4,5,8,9,10,11,12,13,14,15,16,18]) (.seq (.ops zjX) (bs [3,4,5,8,9,10,11,12,13,14,15,16,18,115]) (.cond (t 115) (.draw zjW) .skip)))))) (bs [3,4,5,8,9,10,11,12,13,14,15,16]) (.ops zjV)))
def zjU:List CI:=[l 132 10,l 133 10,le 134 (t 133),bi .sub 135 (t 134) (i 1),oo 136 (.slice 1 (t 132) none (some (t 135))),st 1 10 (t 136)]
def zjT:List CI:=[l 137 9,l 138 15,ia 139 2 137 (t 138),fa 140 1 139,l 141 140,l 142 9,l 143 15,ia 144 2 142 (t 143),fa 145 0 144,l 146 145,bi .eql 147 (t 141) (t 146)]
def zjS:List CI:=[l 148 11,l 149 15,ca 150 n_c [(t 148),(t 149)],st 1 16 (t 150)]
def zjR:List CI:=[l 151 11,l 152 16,oo 153 (.slice 1 (t 151) (some (t 152)) none),le 154 (t 153),mv 155 (i 0)]
def zjQ:List CI:=[bi .lss 156 (t 155) (t 154)]
def zjP:List CI:=[ia 157 1 153 (t 155),l 158 157,mv 20 (t 158)]
def zjO:List CI:=[l 159 8,mv 160 (t 20),l 161 14,ia 162 1 159 (t 160),st 1 162 (t 161)]
def zjN:List CI:=[bi .add 163 (t 155) (i 1),mv 155 (t 163)]
def c_a_33:CC:=(.seq (.ops zjQ) (bs [3,4,5,8,9,10,11,12,13,14,15,16,153,154,155,156]) (.seq (.cond (t 156) .skip (.exit 8)) (bs [3,4,5,8,9,10,11,12,13,14,15,16,153,154,155]) (.seq (.block 10 (.seq (.ops zjP) (bs [3,4,5,8,9,10,11,12,13,14,15,16,20,153,154,155]) (.ops zjO))) (bs [3,4,5,8,9,10,11,12,13,14,15,16,153,154,155]) (.ops zjN))))
def zjM:List CI:=[l 164 11,l 165 16,oo 166 (.slice 1 (t 164) none (some (t 165))),st 1 11 (t 166)]
def zjL:List CI:=[l 167 14,bi .add 168 (t 167) (i 1),st 1 14 (t 168)]
def zjK:List CI:=[l 169 10,le 170 (t 169),bi .gtr 171 (t 170) (i 0)]
def zjJ:List CI:=[l 172 10,l 173 10,le 174 (t 173),bi .sub 175 (t 174) (i 1),ia 176 1 172 (t 175),l 177 176,st 1 15 (t 177)]
def zhO:List CI:=[l 44 13,bi .add 45 (t 44) (i 1),st 1 13 (t 45)]
def zhN:List CI:=[l 46 9,l 47 15,l 48 13,l 49 13,oo 50 (.build [(iI 0),(iI 0)] [(0,1,(t 48)),(1,1,(t 49))]),ia 51 2 46 (t 47),st 2 51 (t 50)]
def zhM:List CI:=[l 52 10,l 53 15,oo 54 (.buildSlice 1 1 [(iI 0)] [(0,(t 53))]),ap 55 1 8 (t 52) (t 54),st 1 10 (t 55)]
def zhL:List CI:=[l 56 11,l 57 15,oo 58 (.buildSlice 1 1 [(iI 0)] [(0,(t 57))]),ap 59 1 8 (t 56) (t 58),st 1 11 (t 59)]
def zjI:List CI:=[l 60 12,l 61 15,ia 62 1 60 (t 61),l 63 62,fa 64 0 3,fa 65 2 64,l 66 65,le 67 (t 66),bi .lss 68 (t 63) (t 67)]
def zjH:List CI:=[fa 75 0 3,fa 76 2 75,l 77 76,l 78 12,l 79 15,ia 80 1 78 (t 79),l 81 80,ia 82 3 77 (t 81),ln 83 3 82,oo 18 (.alloc [(iI 0),(iI 0),(iI 0)]),st 3 18 (t 83)]
def zjG:List CI:=[fa 84 0 18,l 85 84,l 86 15,bi .neq 87 (t 85) (t 86),mv 88 (t 87),gu 88 false (fa 89 1 18),gu 88 false (l 90 89),gu 88 false (l 91 5),gu 88 false (bi .eql 92 (t 90) (t 91)),pk 93 (t 88) tt (t 92),mv 94 (t 93),gu 94 false (ln 95 1 4),gu 94 false (fa 96 2 18),gu 94 false (l 97 96),gu 94 false (ca 98 n_x [(t 95),(t 97)]),gu 94 false (no 99 98),pk 100 (t 94) tt (t 99)]
def zjF:List CI:=[l 101 9,fa 102 2 18,l 103 102,ia 104 2 101 (t 103),fa 105 0 104,l 106 105,bi .eql 107 (t 106) (i 0)]
def zjE:List CI:=[fa 108 2 18,l 109 108,st 1 15 (t 109)]
def zjD:List CI:=[l 110 8,fa 111 2 18,l 112 111,ia 113 1 110 (t 112),l 114 113,bi .lss 115 (t 114) (i 0)]
def zjC:List CI:=[l 116 9,l 117 15,l 118 9,l 119 15,ia 120 2 118 (t 119),fa 121 1 120,l 122 121,l 123 9,fa 124 2 18,l 125 124,ia 126 2 123 (t 125),fa 127 1 126,l 128 127,oo 129 (.blt .min [(t 122),(t 128)]),ia 130 2 116 (t 117),fa 131 1 130,st 1 131 (t 129)]
def zjB:List CI:=[l 69 12,l 70 15,ia 71 1 69 (t 70),l 72 71,bi .add 73 (t 72) (i 1),ia 74 1 69 (t 70),st 1 74 (t 73)]
def c_a_50:CC:=(.seq (.seq (.draw zjI) (bs [3,4,5,8,9,10,11,12,13,14,15,16,68]) (.cond (t 68) .skip (.exit 4))) (bs [3,4,5,8,9,10,11,12,13,14,15,16]) (.seq (.block 6 (.seq (.draw zjH) (bs [3,4,5,8,9,10,11,12,13,14,15,16,18]) (.seq (.seq (.ops zjG) (bs [3,4,5,8,9,10,11,12,13,14,15,16,18,100]) (.cond (t 100) (.exit 6) .skip)) (bs [3,4,5,8,9,10,11,12,13,14,15,16,18]) (.seq (.seq (.ops zjF) (bs [3,4,5,8,9,10,11,12,13,14,15,16,18,107]) (.cond (t 107) (.seq (.ops zjE) (bs [3,4,5,8,9,10,11,12,13,14,15,16]) (.exit 1)) .skip)) (bs [3,4,5,8,9,10,11,12,13,14,15,16,18]) (.seq (.ops zjD) (bs [3,4,5,8,9,10,11,12,13,14,15,16,18,115]) (.cond (t 115) (.draw zjC) .skip)))))) (bs [3,4,5,8,9,10,11,12,13,14,15,16]) (.ops zjB)))
def zjA:List CI:=[l 132 10,l 133 10,le 134 (t 133),bi .sub 135 (t 134) (i 1),oo 136 (.slice 1 (t 132) none (some (t 135))),st 1 10 (t 136)]
def zjz:List CI:=[l 137 9,l 138 15,ia 139 2 137 (t 138),fa 140 1 139,l 141 140,l 142 9,l 143 15,ia 144 2 142 (t 143),fa 145 0 144,l 146 145,bi .eql 147 (t 141) (t 146)]
def zjy:List CI:=[l 148 11,l 149 15,ca 150 n_c [(t 148),(t 149)],st 1 16 (t 150)]
def zjx:List CI:=[l 151 11,l 152 16,oo 153 (.slice 1 (t 151) (some (t 152)) none),le 154 (t 153),mv 155 (i 0)]
def zjw:List CI:=[bi .lss 156 (t 155) (t 154)]
def zjv:List CI:=[ia 157 1 153 (t 155),l 158 157,mv 20 (t 158)]
def zju:List CI:=[l 159 8,mv 160 (t 20),l 161 14,ia 162 1 159 (t 160),st 1 162 (t 161)]
def zjt:List CI:=[bi .add 163 (t 155) (i 1),mv 155 (t 163)]
def c_a_59:CC:=(.seq (.ops zjw) (bs [3,4,5,8,9,10,11,12,13,14,15,16,153,154,155,156]) (.seq (.cond (t 156) .skip (.exit 8)) (bs [3,4,5,8,9,10,11,12,13,14,15,16,153,154,155]) (.seq (.block 10 (.seq (.ops zjv) (bs [3,4,5,8,9,10,11,12,13,14,15,16,20,153,154,155]) (.ops zju))) (bs [3,4,5,8,9,10,11,12,13,14,15,16,153,154,155]) (.ops zjt))))
def zjs:List CI:=[l 164 11,l 165 16,oo 166 (.slice 1 (t 164) none (some (t 165))),st 1 11 (t 166)]
def zjr:List CI:=[l 167 14,bi .add 168 (t 167) (i 1),st 1 14 (t 168)]
def zjq:List CI:=[l 169 10,le 170 (t 169),bi .gtr 171 (t 170) (i 0)]
def zjp:List CI:=[l 172 10,l 173 10,le 174 (t 173),bi .sub 175 (t 174) (i 1),ia 176 1 172 (t 175),l 177 176,st 1 15 (t 177)]
def zjo:List CI:=[l 60 12,l 61 15,ia 62 1 60 (t 61),l 63 62,fa 64 0 3,fa 65 2 64,l 66 65,le 67 (t 66),bi .lss 68 (t 63) (t 67)]
def zjn:List CI:=[fa 75 0 3,fa 76 2 75,l 77 76,l 78 12,l 79 15,ia 80 1 78 (t 79),l 81 80,ia 82 3 77 (t 81),ln 83 3 82,oo 18 (.alloc [(iI 0),(iI 0),(iI 0)]),st 3 18 (t 83)]
def zjm:List CI:=[fa 84 0 18,l 85 84,l 86 15,bi .neq 87 (t 85) (t 86),mv 88 (t 87),gu 88 false (fa 89 1 18),gu 88 false (l 90 89),gu 88 false (l 91 5),gu 88 false (bi .eql 92 (t 90) (t 91)),pk 93 (t 88) tt (t 92),mv 94 (t 93),gu 94 false (ln 95 1 4),gu 94 false (fa 96 2 18),gu 94 false (l 97 96),gu 94 false (ca 98 n_x [(t 95),(t 97)]),gu 94 false (no 99 98),pk 100 (t 94) tt (t 99)]
def zjl:List CI:=[l 101 9,fa 102 2 18,l 103 102,ia 104 2 101 (t 103),fa 105 0 104,l 106 105,bi .eql 107 (t 106) (i 0)]
def zjk:List CI:=[fa 108 2 18,l 109 108,st 1 15 (t 109)]
def zjj:List CI:=[l 110 8,fa 111 2 18,l 112 111,ia 113 1 110 (t 112),l 114 113,bi .lss 115 (t 114) (i 0)]
def zji:List CI:=[l 116 9,l 117 15,l 118 9,l 119 15,ia 120 2 118 (t 119),fa 121 1 120,l 122 121,l 123 9,fa 124 2 18,l 125 124,ia 126 2 123 (t 125),fa 127 1 126,l 128 127,oo 129 (.blt .min [(t 122),(t 128)]),ia 130 2 116 (t 117),fa 131 1 130,st 1 131 (t 129)]
def zjh:List CI:=[l 69 12,l 70 15,ia 71 1 69 (t 70),l 72 71,bi .add 73 (t 72) (i 1),ia 74 1 69 (t 70),st 1 74 (t 73)]
def zfR:CC:=(.seq (.seq (.draw zjo) (bs [3,4,5,8,9,10,11,12,13,14,15,16,68]) (.cond (t 68) .skip (.exit 4))) (bs [3,4,5,8,9,10,11,12,13,14,15,16]) (.seq (.block 6 (.seq (.draw zjn) (bs [3,4,5,8,9,10,11,12,13,14,15,16,18]) (.seq (.seq (.ops zjm) (bs [3,4,5,8,9,10,11,12,13,14,15,16,18,100]) (.cond (t 100) (.exit 6) .skip)) (bs [3,4,5,8,9,10,11,12,13,14,15,16,18]) (.seq (.seq (.ops zjl) (bs [3,4,5,8,9,10,11,12,13,14,15,16,18,107]) (.cond (t 107) (.seq (.ops zjk) (bs [3,4,5,8,9,10,11,12,13,14,15,16]) (.exit 1)) .skip)) (bs [3,4,5,8,9,10,11,12,13,14,15,16,18]) (.seq (.ops zjj) (bs [3,4,5,8,9,10,11,12,13,14,15,16,18,115]) (.cond (t 115) (.draw zji) .skip)))))) (bs [3,4,5,8,9,10,11,12,13,14,15,16]) (.ops zjh)))
def zhK:List CI:=[l 132 10,l 133 10,le 134 (t 133),bi .sub 135 (t 134) (i 1),oo 136 (.slice 1 (t 132) none (some (t 135))),st 1 10 (t 136)]
def zhJ:List CI:=[l 137 9,l 138 15,ia 139 2 137 (t 138),fa 140 1 139,l 141 140,l 142 9,l 143 15,ia 144 2 142 (t 143),fa 145 0 144,l 146 145,bi .eql 147 (t 141) (t 146)]
def zhI:List CI:=[l 148 11,l 149 15,ca 150 n_c [(t 148),(t 149)],st 1 16 (t 150)]
def zhH:List CI:=[l 151 11,l 152 16,oo 153 (.slice 1 (t 151) (some (t 152)) none),le 154 (t 153),mv 155 (i 0)]
def zjg:List CI:=[bi .lss 156 (t 155) (t 154)]
def zjf:List CI:=[ia 157 1 153 (t 155),l 158 157,mv 20 (t 158)]
def zje:List CI:=[l 159 8,mv 160 (t 20),l 161 14,ia 162 1 159 (t 160),st 1 162 (t 161)]
def zjd:List CI:=[bi .add 163 (t 155) (i 1),mv 155 (t 163)]
def c_a_81:CC:=(.seq (.ops zjg) (bs [3,4,5,8,9,10,11,12,13,14,15,16,153,154,155,156]) (.seq (.cond (t 156) .skip (.exit 8)) (bs [3,4,5,8,9,10,11,12,13,14,15,16,153,154,155]) (.seq (.block 10 (.seq (.ops zjf) (bs [3,4,5,8,9,10,11,12,13,14,15,16,20,153,154,155]) (.ops zje))) (bs [3,4,5,8,9,10,11,12,13,14,15,16,153,154,155]) (.ops zjd))))
def zhG:List CI:=[l 164 11,l 165 16,oo 166 (.slice 1 (t 164) none (some (t 165))),st 1 11 (t 166)]
def zhF:List CI:=[l 167 14,bi .add 168 (t 167) (i 1),st 1 14 (t 168)]
def zhE:List CI:=[l 169 10,le 170 (t 169),bi .gtr 171 (t 170) (i 0)]
def zhD:List CI:=[l 172 10,l 173 10,le 174 (t 173),bi .sub 175 (t 174) (i 1),ia 176 1 172 (t 175),l 177 176,st 1 15 (t 177)]
def c_a_86:CC:=(.seq (.seq (.ops zhQ) (bs [3,4,5,8,9,10,11,12,13,14,15,16,17,42]) (.cond (t 42) (.exit 2) .skip)) (bs [3,4,5,8,9,10,11,12,13,14,15,16,17]) (.seq (.ops zhP) (bs [3,4,5,8,9,10,11,12,13,14,15,16]) (.seq .skip (bs [3,4,5,8,9,10,11,12,13,14,15,16]) (.seq (.ops zj6) (bs [3,4,5,8,9,10,11,12,13,14,15,16]) (.seq (.ops zj5) (bs [3,4,5,8,9,10,11,12,13,14,15,16]) (.seq (.ops zj4) (bs [3,4,5,8,9,10,11,12,13,14,15,16]) (.seq (.ops zj3) (bs [3,4,5,8,9,10,11,12,13,14,15,16]) (.seq .skip (bs [3,4,5,8,9,10,11,12,13,14,15,16]) (.seq (.block 4 (.loop (bs [3,4,5,8,9,10,11,12,13,14,15,16]) c_a_24)) (bs [3,4,5,8,9,10,11,12,13,14,15,16]) (.seq (.ops zjU) (bs [3,4,5,8,9,10,11,12,13,14,15,16]) (.seq (.seq (.draw zjT) (bs [3,4,5,8,9,10,11,12,13,14,15,16,147]) (.cond (t 147) (.seq (.ops zjS) (bs [3,4,5,8,9,10,11,12,13,14,15,16]) (.seq (.seq (.ops zjR) (bs [3,4,5,8,9,10,11,12,13,14,15,16,153,154,155]) (.block 8 (.loop (bs [3,4,5,8,9,10,11,12,13,14,15,16,153,154,155]) c_a_33))) (bs [3,4,5,8,9,10,11,12,13,14,15,16]) (.seq (.ops zjM) (bs [3,4,5,8,9,10,11,12,13,14,15,16]) (.ops zjL)))) .skip)) (bs [3,4,5,8,9,10,11,12,13,14,15,16]) (.seq (.ops zjK) (bs [3,4,5,8,9,10,11,12,13,14,15,16,171]) (.cond (t 171) (.seq (.ops zjJ) (bs [3,4,5,8,9,10,11,12,13,14,15,16]) (.exit 3)) .skip)))))))))))))
def zq:CC:=(.seq .skip (bs [3,4,5,8,9,10,11,12,13,14,15,16]) (.seq (.ops zhO) (bs [3,4,5,8,9,10,11,12,13,14,15,16]) (.seq (.ops zhN) (bs [3,4,5,8,9,10,11,12,13,14,15,16]) (.seq (.ops zhM) (bs [3,4,5,8,9,10,11,12,13,14,15,16]) (.seq (.ops zhL) (bs [3,4,5,8,9,10,11,12,13,14,15,16]) (.seq .skip (bs [3,4,5,8,9,10,11,12,13,14,15,16]) (.seq (.block 4 (.loop (bs [3,4,5,8,9,10,11,12,13,14,15,16]) c_a_50)) (bs [3,4,5,8,9,10,11,12,13,14,15,16]) (.seq (.ops zjA) (bs [3,4,5,8,9,10,11,12,13,14,15,16]) (.seq (.seq (.draw zjz) (bs [3,4,5,8,9,10,11,12,13,14,15,16,147]) (.cond (t 147) (.seq (.ops zjy) (bs [3,4,5,8,9,10,11,12,13,14,15,16]) (.seq (.seq (.ops zjx) (bs [3,4,5,8,9,10,11,12,13,14,15,16,153,154,155]) (.block 8 (.loop (bs [3,4,5,8,9,10,11,12,13,14,15,16,153,154,155]) c_a_59))) (bs [3,4,5,8,9,10,11,12,13,14,15,16]) (.seq (.ops zjs) (bs [3,4,5,8,9,10,11,12,13,14,15,16]) (.ops zjr)))) .skip)) (bs [3,4,5,8,9,10,11,12,13,14,15,16]) (.seq (.ops zjq) (bs [3,4,5,8,9,10,11,12,13,14,15,16,171]) (.cond (t 171) (.seq (.ops zjp) (bs [3,4,5,8,9,10,11,12,13,14,15,16]) (.exit 3)) .skip)))))))))))
def zc6:CC:=(.seq .skip (bs [3,4,5,8,9,10,11,12,13,14,15,16]) (.seq (.block 4 (.loop (bs [3,4,5,8,9,10,11,12,13,14,15,16]) zfR)) (bs [3,4,5,8,9,10,11,12,13,14,15,16]) (.seq (.ops zhK) (bs [3,4,5,8,9,10,11,12,13,14,15,16]) (.seq (.seq (.draw zhJ) (bs [3,4,5,8,9,10,11,12,13,14,15,16,147]) (.cond (t 147) (.seq (.ops zhI) (bs [3,4,5,8,9,10,11,12,13,14,15,16]) (.seq (.seq (.ops zhH) (bs [3,4,5,8,9,10,11,12,13,14,15,16,153,154,155]) (.block 8 (.loop (bs [3,4,5,8,9,10,11,12,13,14,15,16,153,154,155]) c_a_81))) (bs [3,4,5,8,9,10,11,12,13,14,15,16]) (.seq (.ops zhG) (bs [3,4,5,8,9,10,11,12,13,14,15,16]) (.ops zhF)))) .skip)) (bs [3,4,5,8,9,10,11,12,13,14,15,16]) (.seq (.ops zhE) (bs [3,4,5,8,9,10,11,12,13,14,15,16,171]) (.cond (t 171) (.seq (.ops zhD) (bs [3,4,5,8,9,10,11,12,13,14,15,16]) (.exit 3)) .skip))))))
def zgM:CC:=(.ops r_a_9)
def zy:CC:=(.block 2 (.scope c_a_86 0 zq 1 zc6))
def zjc:List CI:=[l 178 8,l 179 14,mv 6 (t 178),mv 7 (t 179)]
def c_a:CC:=(.seq (.ops r_a_1) (bs [3,4,5,6,7]) (.seq (.ops r_a_2) (bs [3,4,5,6,7,8]) (.seq (.ops r_a_3) (bs [3,4,5,6,7,8,9]) (.seq (.ops r_a_4) (bs [3,4,5,6,7,8,9,10,11]) (.seq (.ops r_a_5) (bs [3,4,5,6,7,8,9,10,11,12]) (.seq (.ops r_a_6) (bs [3,4,5,6,7,8,9,10,11,12,13,14]) (.seq (.ops r_a_7) (bs [3,4,5,6,7,8,9,10,11,12,13,14,15,16]) (.seq (.seq (.ops r_a_8) (bs [3,4,5,6,7,8,9,10,11,12,13,14,15,16,35]) (.block 0 (.rangeFunc 0 (bs [3,4,5,8,9,10,11,12,13,14,15,16]) (t 35) (bs [36]) zgM zy))) (bs [8,14]) (.seq (.draw zjc) (bs [6,7]) .ret)))))))))
def f_a:zl:=⟨180,[.tmp (bits 6),.tmp (bits 7)],c_a,none,none⟩
def r_j_1:List CI:=[bx 4 (t 0),mv 8 (.c (.slice none 0 0))]
def r_j_2:List CI:=[ln 13 3 4,mv 14 (t 1),mv 15 (t 2),mv 16 (t 3),ca 17 n_e [(t 13),(t 14),(t 15),(t 16)],mv 9 (t 17)]
def r_j_3:List CI:=[ln 18 3 4,mv 19 (t 1),mv 20 (t 2),mv 21 (t 3),ca 22 n_d [(t 18),(t 19),(t 20),(t 21)],mv 10 (t 22)]
def r_j_4:List CI:=[fa 23 0 4,l 24 23,oo 25 (.makeSlice 1 1 [(.bool false)] (t 24) (t 24)),mv 11 (t 25)]
def r_j_5:List CI:=[mv 12 (i 0)]
def r_j_6:List CI:=[mv 26 (t 12),fa 27 0 4,l 28 27,bi .lss 29 (t 26) (t 28)]
def r_j_7:List CI:=[mv 32 (t 11),mv 33 (t 12),mv 34 (t 9),mv 35 (t 12),ia 36 1 34 (t 35),l 37 36,mv 38 (t 37),gu 38 true (mv 39 (t 10)),gu 38 true (mv 40 (t 12)),gu 38 true (ia 41 1 39 (t 40)),gu 38 true (l 42 41),pk 43 (t 38) (t 42) ff,ia 44 1 32 (t 33),st 1 44 (t 43)]
def r_j_8:List CI:=[mv 30 (t 12),bi .add 31 (t 30) (i 1),mv 12 (t 31)]
def c_j_9:CC:=(.seq (.seq (.ops r_j_6) (bs [4,9,10,11,12,29]) (.cond (t 29) .skip (.exit 0))) (bs [4,9,10,11,12]) (.seq (.block 2 (.ops r_j_7)) (bs [4,9,10,11,12]) (.ops r_j_8)))
def r_j_10:List CI:=[mv 45 (t 11),mv 8 (t 45)]
def c_j:CC:=(.seq (.ops r_j_1) (bs [1,2,3,4]) (.seq (.ops r_j_2) (bs [1,2,3,4,9]) (.seq (.ops r_j_3) (bs [4,9,10]) (.seq (.ops r_j_4) (bs [4,9,10,11]) (.seq (.seq (.ops r_j_5) (bs [4,9,10,11,12]) (.block 0 (.loop (bs [4,9,10,11,12]) c_j_9))) (bs [11]) (.seq (.ops r_j_10) (bs [8]) .ret))))))
def f_j:zl:=⟨46,[.tmp (bits 8)],c_j,none,none⟩
def r_c_1:List CI:=[mv 4 (i 0)]
def r_c_2:List CI:=[mv 6 (t 0),le 7 (t 6),mv 8 (i 0)]
def r_c_3:List CI:=[bi .lss 9 (t 8) (t 7)]
def r_c_4:List CI:=[mv 10 (t 8),mv 5 (t 10)]
def r_c_5:List CI:=[mv 11 (t 1),mv 12 (t 0),mv 13 (t 5),ia 14 1 12 (t 13),l 15 14,bi .eql 16 (t 11) (t 15)]
def r_c_6:List CI:=[mv 17 (t 5),mv 4 (t 17)]
def r_c_7:List CI:=[bi .add 18 (t 8) (i 1),mv 8 (t 18)]
def c_c_8:CC:=(.seq (.ops r_c_3) (bs [0,1,7,8,9]) (.seq (.cond (t 9) .skip (.exit 0)) (bs [0,1,7,8]) (.seq (.block 2 (.seq (.ops r_c_4) (bs [0,1,5,7,8]) (.seq (.ops r_c_5) (bs [0,1,5,7,8,16]) (.cond (t 16) (.seq (.ops r_c_6) (bs [4]) .ret) .skip)))) (bs [0,1,7,8]) (.ops r_c_7))))
def r_c_9:List CI:=[mv 4 (i (-1))]
def c_c:CC:=(.seq (.ops r_c_1) (bs [0,1]) (.seq (.seq (.ops r_c_2) (bs [0,1,7,8]) (.block 0 (.loop (bs [0,1,7,8]) c_c_8))) [] (.seq (.ops r_c_9) (bs [4]) .ret)))
def f_c:zl:=⟨19,[.tmp (bits 4)],c_c,none,none⟩
def r_z_1:List CI:=[mv 4 (t 0),mv 5 (t 1),bi .quo 6 (t 5) (i 64),nc 7 4,oo 8 (.indexArr 1 1 (t 7) (t 6)),l 9 8,mv 10 (t 1),bi .rem 11 (t 10) (i 64),bi .shl 12 (.c (.int .u64 1)) (t 11),bi .or 13 (t 9) (t 12),nc 14 4,oo 15 (.indexArr 1 1 (t 14) (t 6)),st 1 15 (t 13)]
def c_z:CC:=(.draw r_z_1)
def f_z:zl:=⟨16,[],c_z,none,none⟩
def r_w_1:List CI:=[mv 4 (i 0)]
def r_w_2:List CI:=[bi .lss 5 (t 4) (i 60)]
def r_w_3:List CI:=[mv 6 (t 4),mv 3 (t 6)]
def r_w_4:List CI:=[ln 7 1 1,mv 8 (t 3),ca 9 n_x [(t 7),(t 8)],mv 10 (t 9),gu 10 true (mv 11 (t 0)),gu 10 true (mv 12 (t 3)),gu 10 true (oo 13 (.call (t 11) [(t 12)])),gu 10 true (no 14 13),pk 15 (t 10) (t 14) ff]
def r_w_5:List CI:=[bi .add 16 (t 4) (i 1),mv 4 (t 16)]
def c_w_6:CC:=(.seq (.ops r_w_2) (bs [0,1,4,5]) (.seq (.cond (t 5) .skip (.exit 0)) (bs [0,1,4]) (.seq (.block 2 (.seq (.ops r_w_3) (bs [0,1,3,4]) (.seq (.ops r_w_4) (bs [0,1,4,15]) (.cond (t 15) .ret .skip)))) (bs [0,1,4]) (.ops r_w_5))))
def c_w:CC:=(.seq (.ops r_w_1) (bs [0,1,4]) (.block 0 (.loop (bs [0,1,4]) c_w_6)))
def f_w:zl:=⟨17,[],c_w,none,none⟩
def r_n_1:List CI:=[bx 2 (t 0),bx 3 (t 1),mv 4 ff]
def r_n_2:List CI:=[fa 5 0 2,l 6 5,fa 7 0 3,l 8 7,bi .neq 9 (t 6) (t 8)]
def r_n_3:List CI:=[fa 10 0 2,l 11 10,fa 12 0 3,l 13 12,bi .lss 14 (t 11) (t 13),mv 4 (t 14)]
def r_n_4:List CI:=[fa 15 1 2,l 16 15,fa 17 1 3,l 18 17,bi .neq 19 (t 16) (t 18)]
def r_n_5:List CI:=[fa 20 1 2,l 21 20,fa 22 1 3,l 23 22,bi .lss 24 (t 21) (t 23),mv 4 (t 24)]
def r_n_6:List CI:=[fa 25 2 2,l 26 25,fa 27 2 3,l 28 27,bi .lss 29 (t 26) (t 28),mv 4 (t 29)]
def c_n:CC:=(.seq (.ops r_n_1) (bs [2,3]) (.seq (.seq (.ops r_n_2) (bs [2,3,9]) (.cond (t 9) (.seq (.ops r_n_3) (bs [4]) .ret) .skip)) (bs [2,3]) (.seq (.seq (.ops r_n_4) (bs [2,3,19]) (.cond (t 19) (.seq (.ops r_n_5) (bs [4]) .ret) .skip)) (bs [2,3]) (.seq (.ops r_n_6) (bs [4]) .ret))))
def f_n:zl:=⟨30,[.tmp (bits 4)],c_n,none,none⟩
def r_f_1:List CI:=[mv 4 (.c (.slice none 0 0))]
def r_f_2:List CI:=[mv 9 (t 1),bi .lss 10 (t 9) (i 0)]
def r_f_3:List CI:=[oo 11 (.mkI 9 (.c (.string ⟨#[99,97,110,110,111,116,32,98,101,32,110,101,103,97,116,105,118,101]⟩))),on (.panic (t 11))]
def r_f_4:List CI:=[mv 13 (t 0),le 14 (t 13),oo 15 (.conv .u64 (t 14)),mv 16 (t 1),oo 17 (.conv .u64 (t 16)),ca 18 n_s [(t 15),(t 17)],mv 12 (t 18),ex 19 12 0,ex 20 12 1,mv 5 (t 19),mv 6 (t 20)]
def r_f_5:List CI:=[mv 21 (t 5),bi .gtr 22 (t 21) (.c (.int .u64 0)),mv 23 (t 22),gu 23 false (mv 24 (t 6)),gu 23 false (bi .gtr 25 (t 24) (.c (.int .u64 9223372036854775807))),pk 26 (t 23) tt (t 25)]
def r_f_6:List CI:=[oo 27 (.mkI 9 (.c (.string ⟨#[116,104,101,32,114,101,115,117,108,116,32,111,102,32,40,108,101,110,40,120,41,32,42,32,99,111,117,110,116,41,32,111,118,101,114,102,108,111,119,115]⟩))),on (.panic (t 27))]
def r_f_7:List CI:=[mv 28 (t 6),oo 29 (.conv .i64 (t 28)),oo 30 (.makeSlice 1 8 [(iI 0)] (t 29) (t 29)),mv 7 (t 30)]
def r_f_8:List CI:=[mv 31 (t 7),mv 32 (t 0),oo 33 (.blt (.copy 1) [(t 31),(t 32)]),mv 8 (t 33)]
def r_f_9:List CI:=[mv 34 (t 8),mv 35 (t 7),le 36 (t 35),bi .lss 37 (t 34) (t 36)]
def r_f_10:List CI:=[mv 39 (t 7),mv 40 (t 8),oo 41 (.slice 1 (t 39) (some (t 40)) none),mv 42 (t 7),mv 43 (t 8),oo 44 (.slice 1 (t 42) none (some (t 43))),oo 45 (.blt (.copy 1) [(t 41),(t 44)]),mv 38 (t 8),lo 1 (bi .add 46 (t 38) (t 45)),lo 1 (mv 8 (t 46))]
def c_f_11:CC:=(.seq (.seq (.ops r_f_9) (bs [7,8,37]) (.cond (t 37) .skip (.exit 0))) (bs [7,8]) (.block 2 (.draw r_f_10)))
def r_f_12:List CI:=[mv 47 (t 7),mv 4 (t 47)]
def c_f:CC:=(.seq (.ops r_f_1) (bs [0,1]) (.seq (.seq (.ops r_f_2) (bs [0,1,10]) (.cond (t 10) (.ops r_f_3) .skip)) (bs [0,1]) (.seq (.ops r_f_4) (bs [0,5,6]) (.seq (.seq (.ops r_f_5) (bs [0,6,26]) (.cond (t 26) (.ops r_f_6) .skip)) (bs [0,6]) (.seq (.ops r_f_7) (bs [0,7]) (.seq (.ops r_f_8) (bs [7,8]) (.seq (.block 0 (.loop (bs [7,8]) c_f_11)) (bs [7]) (.seq (.ops r_f_12) (bs [4]) .ret))))))))
def f_f:zl:=⟨48,[.tmp (bits 4)],c_f,none,none⟩
def r_A_1:List CI:=[bx 2 (t 0),bx 3 (t 1),mv 4 (i 0)]
def r_A_2:List CI:=[fa 5 0 2,l 6 5,fa 7 0 3,l 8 7,bi .sub 9 (t 6) (t 8),fa 10 1 2,l 11 10,fa 12 1 3,l 13 12,bi .sub 14 (t 11) (t 13),fa 15 2 2,l 16 15,fa 17 2 3,l 18 17,bi .sub 19 (t 16) (t 18),oo 20 (.buildSlice 3 1 [(iI 0)] [(0,(t 9)),(1,(t 14)),(2,(t 19))]),ca 21 n_p [(t 20)],mv 4 (t 21)]
def c_A:CC:=(.seq (.ops r_A_1) (bs [2,3]) (.seq (.ops r_A_2) (bs [4]) .ret))
def f_A:zl:=⟨22,[.tmp (bits 4)],c_A,none,none⟩
def r_d_1:List CI:=[bx 4 (t 0),mv 8 (.c (.slice none 0 0))]
def r_d_2:List CI:=[fa 13 0 4,l 14 13,oo 15 (.makeSlice 1 1 [(.bool false)] (t 14) (t 14)),mv 9 (t 15)]
def r_d_3:List CI:=[mv 16 (t 9),mv 17 (t 1),ia 18 1 16 (t 17),st 1 18 tt]
def r_d_4:List CI:=[mv 10 tt]
def r_d_5:List CI:=[mv 19 (t 10)]
def r_d_6:List CI:=[mv 10 ff]
def r_d_7:List CI:=[mv 11 (i 0)]
def r_d_8:List CI:=[mv 20 (t 11),fa 21 2 4,l 22 21,le 23 (t 22),bi .lss 24 (t 20) (t 23)]
def r_d_9:List CI:=[fa 27 2 4,l 28 27,mv 29 (t 11),ia 30 3 28 (t 29),ln 31 3 30,oo 12 (.alloc [(iI 0),(iI 0),(iI 0)]),st 3 12 (t 31)]
def r_d_10:List CI:=[fa 32 1 12,l 33 32,mv 34 (t 3),bi .neq 35 (t 33) (t 34),mv 36 (t 35),gu 36 true (mv 37 (t 9)),gu 36 true (fa 38 2 12),gu 36 true (l 39 38),gu 36 true (ia 40 1 37 (t 39)),gu 36 true (l 41 40),pk 42 (t 36) (t 41) ff,mv 43 (t 42),gu 43 true (mv 44 (t 2)),gu 43 true (fa 45 0 12),gu 43 true (l 46 45),gu 43 true (ia 47 1 44 (t 46)),gu 43 true (l 48 47),pk 49 (t 43) (t 48) ff,mv 50 (t 49),gu 50 true (mv 51 (t 9)),gu 50 true (fa 52 0 12),gu 50 true (l 53 52),gu 50 true (ia 54 1 51 (t 53)),gu 50 true (l 55 54),gu 50 true (no 56 55),pk 57 (t 50) (t 56) ff]
def r_d_11:List CI:=[mv 58 (t 9),fa 59 0 12,l 60 59,ia 61 1 58 (t 60),st 1 61 tt]
def r_d_12:List CI:=[mv 10 tt]
def r_d_13:List CI:=[mv 25 (t 11),bi .add 26 (t 25) (i 1),mv 11 (t 26)]
def c_d_14:CC:=(.seq (.seq (.ops r_d_8) (bs [2,3,4,9,10,11,24]) (.cond (t 24) .skip (.exit 4))) (bs [2,3,4,9,10,11]) (.seq (.block 6 (.seq (.ops r_d_9) (bs [2,3,4,9,10,11,12]) (.seq (.ops r_d_10) (bs [2,3,4,9,10,11,12,57]) (.cond (t 57) (.seq (.ops r_d_11) (bs [2,3,4,9,11]) (.ops r_d_12)) .skip)))) (bs [2,3,4,9,10,11]) (.ops r_d_13)))
def c_d_15:CC:=(.seq (.seq (.ops r_d_5) (bs [2,3,4,9,19]) (.cond (t 19) .skip (.exit 0))) (bs [2,3,4,9]) (.block 2 (.seq (.ops r_d_6) (bs [2,3,4,9,10]) (.seq (.ops r_d_7) (bs [2,3,4,9,10,11]) (.block 4 (.loop (bs [2,3,4,9,10,11]) c_d_14))))))
def r_d_16:List CI:=[mv 62 (t 9),mv 8 (t 62)]
def c_d:CC:=(.seq (.ops r_d_1) (bs [1,2,3,4]) (.seq (.ops r_d_2) (bs [1,2,3,4,9]) (.seq (.ops r_d_3) (bs [2,3,4,9]) (.seq (.seq (.ops r_d_4) (bs [2,3,4,9,10]) (.block 0 (.loop (bs [2,3,4,9,10]) c_d_15))) (bs [9]) (.seq (.ops r_d_16) (bs [8]) .ret)))))
def f_d:zl:=⟨63,[.tmp (bits 8)],c_d,none,none⟩
def r_s_1:List CI:=[mv 4 (.c (.int .u64 0)),mv 5 (.c (.int .u64 0))]
def r_s_2:List CI:=[mv 11 (t 0),oo 12 (.conv .u32 (t 11)),mv 13 (t 1),oo 14 (.conv .u32 (t 13)),ca 15 n_y [(t 12),(t 14)],mv 10 (t 15),ex 16 10 0,ex 17 10 1,mv 6 (t 16),mv 7 (t 17)]
def r_s_3:List CI:=[mv 18 (t 6),oo 19 (.conv .u64 (t 18)),mv 20 (t 7),oo 21 (.conv .u64 (t 20)),mv 4 (t 19),mv 5 (t 21)]
def r_s_4:List CI:=[mv 23 (t 0),mv 24 (t 1),ca 25 n_k [(t 23),(t 24)],mv 22 (t 25),ex 26 22 0,ex 27 22 1,mv 8 (t 26),mv 9 (t 27)]
def r_s_5:List CI:=[mv 28 (t 8),mv 29 (t 9),mv 4 (t 28),mv 5 (t 29)]
def c_s:CC:=(.seq (.ops r_s_1) (bs [0,1]) (.seq (.cond ff (.seq (.ops r_s_2) (bs [6,7]) (.seq (.ops r_s_3) (bs [4,5]) .ret)) .skip) (bs [0,1]) (.seq (.ops r_s_4) (bs [8,9]) (.seq (.ops r_s_5) (bs [4,5]) .ret))))
def f_s:zl:=⟨30,[.tmp (bits 4),.tmp (bits 5)],c_s,none,none⟩
def r_p_1:List CI:=[mv 2 (i 0)]
def r_p_2:List CI:=[mv 3 (i 0)]
def r_p_3:List CI:=[mv 6 (t 0),le 7 (t 6),mv 8 (i 0)]
def r_p_4:List CI:=[bi .lss 9 (t 8) (t 7)]
def r_p_5:List CI:=[ia 10 1 6 (t 8),l 11 10,mv 5 (t 11)]
def r_p_6:List CI:=[mv 12 (t 5),mv 13 (t 3),bi .neq 14 (t 12) (t 13)]
def r_p_7:List CI:=[mv 15 (t 5),mv 2 (t 15)]
def r_p_8:List CI:=[bi .add 16 (t 8) (i 1),mv 8 (t 16)]
def c_p_9:CC:=(.seq (.ops r_p_4) (bs [3,6,7,8,9]) (.seq (.cond (t 9) .skip (.exit 0)) (bs [3,6,7,8]) (.seq (.block 2 (.seq (.ops r_p_5) (bs [3,5,6,7,8]) (.seq (.ops r_p_6) (bs [3,5,6,7,8,14]) (.cond (t 14) (.seq (.ops r_p_7) (bs [2]) .ret) .skip)))) (bs [3,6,7,8]) (.ops r_p_8))))
def r_p_10:List CI:=[mv 17 (t 3),mv 2 (t 17)]
def c_p:CC:=(.seq (.ops r_p_1) (bs [0]) (.seq (.ops r_p_2) (bs [0,3]) (.seq (.seq (.ops r_p_3) (bs [3,6,7,8]) (.block 0 (.loop (bs [3,6,7,8]) c_p_9))) (bs [3]) (.seq (.ops r_p_10) (bs [2]) .ret))))
def f_p:zl:=⟨18,[.tmp (bits 2)],c_p,none,none⟩
def r_y_1:List CI:=[mv 4 (.c (.int .u32 0)),mv 5 (.c (.int .u32 0))]
def r_y_2:List CI:=[mv 7 (t 0),oo 8 (.conv .u64 (t 7)),mv 9 (t 1),oo 10 (.conv .u64 (t 9)),bi .mul 11 (t 8) (t 10),mv 6 (t 11)]
def r_y_3:List CI:=[mv 12 (t 6),bi .shr 13 (t 12) (.c (.int .u64 32)),oo 14 (.conv .u32 (t 13)),mv 15 (t 6),oo 16 (.conv .u32 (t 15)),mv 4 (t 14),mv 5 (t 16)]
def c_y:CC:=(.seq (.ops r_y_1) (bs [0,1]) (.seq (.ops r_y_2) (bs [6]) (.seq (.ops r_y_3) (bs [4,5]) .ret)))
def f_y:zl:=⟨17,[.tmp (bits 4),.tmp (bits 5)],c_y,none,none⟩
def r_k_1:List CI:=[mv 4 (.c (.int .u64 0)),mv 5 (.c (.int .u64 0))]
def r_k_2:List CI:=[mv 14 (t 0),bi .and 15 (t 14) (.c (.int .u64 4294967295)),mv 6 (t 15)]
def r_k_3:List CI:=[mv 16 (t 0),bi .shr 17 (t 16) (.c (.int .u64 32)),mv 7 (t 17)]
def r_k_4:List CI:=[mv 18 (t 1),bi .and 19 (t 18) (.c (.int .u64 4294967295)),mv 8 (t 19)]
def r_k_5:List CI:=[mv 20 (t 1),bi .shr 21 (t 20) (.c (.int .u64 32)),mv 9 (t 21)]
def r_k_6:List CI:=[mv 22 (t 6),mv 23 (t 8),bi .mul 24 (t 22) (t 23),mv 10 (t 24)]
def r_k_7:List CI:=[mv 25 (t 7),mv 26 (t 8),bi .mul 27 (t 25) (t 26),mv 28 (t 10),bi .shr 29 (t 28) (.c (.int .u64 32)),bi .add 30 (t 27) (t 29),mv 11 (t 30)]
def r_k_8:List CI:=[mv 31 (t 11),bi .and 32 (t 31) (.c (.int .u64 4294967295)),mv 12 (t 32)]
def r_k_9:List CI:=[mv 33 (t 11),bi .shr 34 (t 33) (.c (.int .u64 32)),mv 13 (t 34)]
def r_k_10:List CI:=[mv 35 (t 12),mv 36 (t 6),mv 37 (t 9),bi .mul 38 (t 36) (t 37),bi .add 39 (t 35) (t 38),mv 12 (t 39)]
def r_k_11:List CI:=[mv 40 (t 7),mv 41 (t 9),bi .mul 42 (t 40) (t 41),mv 43 (t 13),bi .add 44 (t 42) (t 43),mv 45 (t 12),bi .shr 46 (t 45) (.c (.int .u64 32)),bi .add 47 (t 44) (t 46),mv 4 (t 47)]
def r_k_12:List CI:=[mv 48 (t 0),mv 49 (t 1),bi .mul 50 (t 48) (t 49),mv 5 (t 50)]
def c_k:CC:=(.seq (.ops r_k_1) (bs [0,1]) (.seq (.ops r_k_2) (bs [0,1,6]) (.seq (.ops r_k_3) (bs [0,1,6,7]) (.seq (.ops r_k_4) (bs [0,1,6,7,8]) (.seq (.ops r_k_5) (bs [0,1,6,7,8,9]) (.seq (.ops r_k_6) (bs [0,1,6,7,8,9,10]) (.seq (.ops r_k_7) (bs [0,1,6,7,9,11]) (.seq (.ops r_k_8) (bs [0,1,6,7,9,11,12]) (.seq (.ops r_k_9) (bs [0,1,6,7,9,12,13]) (.seq (.ops r_k_10) (bs [0,1,7,9,12,13]) (.seq (.ops r_k_11) (bs [0,1,4]) (.seq (.ops r_k_12) (bs [4,5]) .ret))))))))))))
def f_k:zl:=⟨51,[.tmp (bits 4),.tmp (bits 5)],c_k,none,none⟩
end Go.Ideal.Q
namespace Go.Ideal
noncomputable section
variable {P:Program}
def zbC (W:World) (b:Nat):Bool:=match W.heap[b]? with
 |some (.cells _ _ _)=>true
 |_=>false
def okV (W:World):Value→Bool
 |.bool _=>true
 |.int _ _=>true
 |.string _=>true
 |.nilFunc=>true
 |.pointer none=>true
 |.map none=>true
 |.slice none 0 0=>true
 |.slice (some a) len cap=>a.spot.isNone&&(decide (len≤cap)&&(decide (cap<zm)&&zbC W a.block))
 |.pointer (some a)=>a.spot.isNone&&zbC W a.block
 |_=>false
def isDang:Value→Bool
 |.slice (some _) 0 0=>true
 |_=>false
def dang (W:World):Value:=.slice (some ⟨W.heap.size,0,none⟩) 0 0
def impV (W:World) (v:Value):Value:=if okV W v then v else if isDang v then dang W else poison
def impObj (W:World):Obj→Option IObj
 |.cells c _ _=>some (.cells (c.toList.map (impV W)) roE)
 |_=>none
open Classical in
def dangR (W:World):Option RB:=if h: ∃b,zbC W b=true then some ⟨Classical.choose h,0,0,0,1,none⟩ else none
def zc2 (W:World) (i:Nat):Option RB:=if i=W.heap.size then dangR W else(W.heap[i]?).bind fun o=>match o with
 |.cells c _ _=>some ⟨i,0,c.size,roE,c.size,some o⟩
 |_=>none
def zkg (W:World) (n:Nat):PT IObj:=Nat.rec (motive:=fun _=>PT IObj) .nil (fun i t=>match(W.heap[i]?).bind (impObj W) with|some o=>t.set (bits i) o|none=>t) n
def impH (W:World):H:=⟨W.heap.size+1,zkg W W.heap.size⟩
theorem zgk (W:World): ∀(n j:Nat),(zkg W n).get (bits j)=if j<n then(W.heap[j]?).bind (impObj W) else none
 |0,j=>by rw[if_neg (by omega)];exact PT.get_nil _
 |n+1,j=>by
  have e:zkg W (n+1)=match(W.heap[n]?).bind (impObj W) with|some o=>(zkg W n).set (bits n) o|none=>zkg W n:=rfl
  rw[e]
  cases ho:(W.heap[n]?).bind (impObj W) with
  |none=>
   rw[zgk W n j]
   by_cases h:j<n
   ·rw[if_pos h,if_pos (by omega)]
   ·rw[if_neg h]
    by_cases e:j=n
    ·subst e;rw[if_pos (by omega),ho]
    ·rw[if_neg (by omega)]
  |some o=>
   dsimp only
   rw[PT.get_set_bits,zgk W n j]
   by_cases e:n=j
   ·subst e;rw[if_pos rfl,if_pos (by omega),ho]
   ·rw[if_neg e]
    by_cases h:j<n
    ·rw[if_pos h,if_pos (by omega)]
    ·rw[if_neg h,if_neg (by omega)]
theorem zfH (W:World) (j:Nat):(impH W).get j=(W.heap[j]?).bind (impObj W):=by
 show(zkg W W.heap.size).get (bits j)=_
 rw[zgk]
 by_cases h:j<W.heap.size
 ·rw[if_pos h]
 ·rw[if_neg h,Array.getElem?_eq_none (by omega)];rfl
theorem zgl {W:World} {b:Nat} {c:Array Value} {t:TypeId} {fr:Nat×Nat} (h:W.heap[b]? =some (.cells c t fr)):(impH W).get b=some (.cells (c.toList.map (impV W)) roE):=by rw[zfH,h];rfl
theorem impH_next (W:World):(impH W).next=W.heap.size+1:=rfl
theorem zkf {W:World} {b:Nat} (h:zbC W b=true):b<W.heap.size:=by
 unfold zbC at h
 split at h
 ·rename_i hb;exact(Array.getElem?_eq_some_iff.1 hb).1
 ·cases h
theorem impRho_lt {W:World} {i:Nat} (h:i<W.heap.size):zc2 W i=(W.heap[i]?).bind fun o=>match o with|.cells c _ _=>some ⟨i,0,c.size,roE,c.size,some o⟩|_=>none:=by
 unfold zc2;rw[if_neg (by omega)]
theorem zen {W:World} {b:Nat} (h:zbC W b=true): ∃R,zc2 W b=some R∧R.blk=b∧R.base=0:=by
 have hlt:=zkf h
 unfold zbC at h
 split at h
 ·rename_i c t fr hb
  exact⟨_,by rw[impRho_lt hlt,hb];rfl,rfl,rfl⟩
 ·cases h
theorem okV_rel {W:World} {v:Value} (h:okV W v=true):VR (zc2 W) v v:=by
 unfold okV at h
 split at h
 ·exact .bool _
 ·exact .int _ _
 ·exact .str _
 ·exact .nilFunc
 ·exact .ptrNil
 ·exact .mapNil
 ·exact .sliceNil
 ·rename_i a len cap
  simp only[Bool.and_eq_true,Option.isNone_iff_eq_none,decide_eq_true_eq] at h
  obtain⟨h1,h2,h3,h4⟩:=h
  obtain⟨R,hR,hb,h0⟩:=zen h4
  obtain⟨b,o,sp⟩:=a
  simp only at h1 hR hb
  subst h1
  have:=VR.slice (o:=o) (len:=len) hR h3 h2
  rw[hb,h0,Nat.zero_add] at this
  exact this
 ·rename_i a
  simp only[Bool.and_eq_true,Option.isNone_iff_eq_none] at h
  obtain⟨h1,h4⟩:=h
  obtain⟨R,hR,hb,h0⟩:=zen h4
  obtain⟨b,o,sp⟩:=a
  simp only at h1 hR hb
  subst h1
  have:=VR.ptr (o:=o) hR
  rw[hb,h0,Nat.zero_add] at this
  exact this
 ·cases h
theorem zdT {W:World} {i:Nat} {R:RB} (h:zc2 W i=some R):(i≠W.heap.size∧ ∃c t fr,W.heap[i]? =some (.cells c t fr)∧R=⟨i,0,c.size,roE,c.size,some (.cells c t fr)⟩)∨(i=W.heap.size∧zbC W R.blk=true):=by
 unfold zc2 at h
 split at h
 ·rename_i e
  refine .inr ⟨e,?_⟩
  unfold dangR at h
  split at h
  ·rename_i hx;cases h;exact Classical.choose_spec hx
  ·cases h
 ·rename_i e
  obtain⟨o,ho,h⟩:=aof h
  cases o with
  |cells c t fr=>cases h;exact .inl ⟨e,c,t,fr,ho,rfl⟩
  |_=>cases h
theorem zgj {W:World} {i:Nat} {R:RB} {o:IObj} (h:zc2 W i=some R) (ho:(impH W).get i=some o): ∃c t fr,W.heap[i]? =some (.cells c t fr)∧R=⟨i,0,c.size,roE,c.size,some (.cells c t fr)⟩:=by
 rcases zdT h with⟨-,h⟩| ⟨rfl,-⟩
 ·exact h
 ·rw[zfH,Array.getElem?_eq_none (Nat.le_refl _)] at ho;cases ho
theorem dang_rel {W:World} {v:Value} {b:Nat} (hb:zbC W b=true) (h:isDang v=true):VR (zc2 W) (dang W) v:=by
 unfold isDang at h
 split at h
 ·refine .sliceD (R:=⟨Classical.choose (⟨b,hb⟩: ∃b,zbC W b=true),0,0,0,1,none⟩) ?_ (by show 0<1;omega)
  unfold zc2;rw[if_pos rfl];unfold dangR;rw[dif_pos ⟨b,hb⟩]
 ·cases h
theorem imp_HR (W:World):HR P (zc2 W) (impH W) W where
 obj:=fun i R o hi ho=>by
  obtain⟨c,t,fr,hb,rfl⟩:=zgj hi ho
  rw[zgl hb] at ho;cases ho
  refine⟨rfl,by simp,c,t,fr,hb,.inr ⟨rfl,rfl⟩,rfl,by simp,fun j v hj=> ?_⟩
  rw[List.getElem?_map] at hj
  obtain⟨x,hx,rfl⟩:=Option.map_eq_some_iff.1 hj
  refine⟨x,by rw[Array.getElem?_toList] at hx;simpa using hx,?_⟩
  unfold impV
  by_cases hok:okV W x=true
  ·rw[if_pos hok];exact .inr (okV_rel hok)
  ·rw[if_neg hok]
   by_cases hd:isDang x=true
   ·rw[if_pos hd];exact .inr (dang_rel (b:=i) (by unfold zbC;rw[hb]) hd)
   ·rw[if_neg hd];exact .inl rfl
 nxt:=fun i hi=>by
  have hi':W.heap.size+1≤i:=hi
  have hn:W.heap[i]? =none:=Array.getElem?_eq_none (by omega)
  exact⟨by unfold zc2;rw[if_neg (by omega),hn];rfl,by rw[zfH,hn];rfl⟩
 sep:=fun i j R S hi hj ai aj e=>by
  obtain⟨o,ho,-⟩:=ai
  obtain⟨o',ho',-⟩:=aj
  obtain⟨_,_,_,_,rfl⟩:=zgj hi ho
  obtain⟨_,_,_,_,rfl⟩:=zgj hj ho'
  exact e
 blk:=fun i R hi=>by
  rcases zdT hi with⟨-,_,_,_,hb,rfl⟩| ⟨-,hc⟩
  ·exact(Array.getElem?_eq_some_iff.1 hb).1
  ·exact zkf hc
 glb:=fun i b x hi=>by
  rw[zfH] at hi
  obtain⟨o,-,ho⟩:=aof hi
  cases o<;>cases ho
def okArg (W:World):Value→Bool
 |.agg cs=>cs.toList.all (okV W)
 |v=>okV W v
theorem okArg_rel {W:World} {v:Value} (h:okArg W v=true):VR (zc2 W) v v:=by
 unfold okArg at h
 split at h
 ·rename_i cs
  have:VRL (zc2 W) cs.toList cs.toList:=⟨rfl,fun j x y hx hy=>by rw[hx] at hy;cases hy;exact okV_rel (List.all_eq_true.1 h x (List.mem_of_getElem? hx))⟩
  exact VR.agg_of this
 ·exact okV_rel h
theorem calls_import {F:FuncId→Option zl} (hmix:P.follows .mixedOrders=true) (hF: ∀g cf,F g=some cf→FnOk P g cf) {g:FuncId} {args:Array Value} {W:World} (hargs: ∀v∈args.toList,okArg W v=true)
 {b:Bool} {n:Nat} {h':H} (hn:E F n (.call (.func (.func g) #[] #[]) args.toList (impH W))=some (.val (.bool b) h')) (hfr: ∀i,i<W.heap.size→h'.get i=(impH W).get i):
 Calls P g args W fun e W'=>e=.returned (.bool b)∧Same W W':=by
 have ra:VRL (zc2 W) args.toList args.toList:=⟨rfl,fun j x y hx hy=>by rw[hx] at hy;cases hy;exact okArg_rel (hargs x (List.mem_of_getElem? hx))⟩
 refine(zgt hmix hF hn ra (imp_HR W)).mono ?_
 rintro e W' ⟨v',σ,rfl,hv,hr,hx⟩
 refine⟨by rw[hv.inv_bool],hx.os,hx.out,fun B hB=> ?_,hx.froz,hx.td,hx.size⟩
 by_cases hc:zbC W B=true
 ·obtain⟨R,hR,hb,h0⟩:=zen hc
  obtain⟨-,c,t,fr,hWB,rfl⟩:=(zdT hR).resolve_right (fun h=>by omega)
  have ho:=hr.obj B _ _ (hx.le _ _ hR) (by rw[hfr B hB];exact zgl hWB)
  obtain⟨_,_,c',t',fr',q1,q2,_⟩:=ho
  rcases q2 with⟨q2,_⟩| ⟨q2,_⟩
  ·cases q2
  ·rw[q1,hWB];exact(q2.symm▸rfl:some (Obj.cells c' t' fr')=some (Obj.cells c t fr))
 ·refine hx.frame B hB fun i R hi e=> ?_
  rcases zdT hi with⟨-,c,t,fr,hWB,rfl⟩| ⟨-,hcc⟩
  ·have e:i=B:=e
   subst e
   exact hc (by unfold zbC;rw[hWB])
  ·rw[e] at hcc;exact hc hcc
theorem prim_of {F:FuncId→Option zl} (hmix:P.follows .mixedOrders=true) (hF: ∀g cf,F g=some cf→FnOk P g cf) {g:FuncId} {fn:Func} {cf0:zl} (hfn:P.funcs[g]? =some fn) (hcf:zT P fn=some (zd1 cf0)) {b:Bool} {n:Nat} {h':H}
 (he:E F n (.call (.func (.func g) #[] #[]) [] .empty)=some (.val (.bool b) h')):FnOk P g (zgc b):=by
 refine .inr (.inl ⟨fn,cf0,b,hfn,hcf,rfl,fun w=> ?_⟩)
 have hr:HR P (fun _=>none) H.empty w:=⟨fun _ _ _ h=>(by cases h),fun i _=>⟨rfl,PT.get_nil _⟩,fun _ _ _ _ h=>(by cases h),fun _ _ h=>(by cases h),fun i _ _ h=>by rw[H.get_empty] at h;cases h⟩
 refine(zgt hmix hF he (args':= #[]) ⟨rfl,fun j x y hx=>by simp at hx⟩ hr).mono ?_
 rintro e w' ⟨v',σ,rfl,hv,-,hx⟩
 exact⟨by rw[hv.inv_bool],hx.os,hx.out,fun B hB=>hx.frame B hB fun _ _ h=>(by cases h),hx.froz,hx.td,hx.size⟩
section
open Go.ChangeShapes Go.WideShapes Go.RowKit
variable {H:Type} {enc:TypeId×Value→H}
theorem Same.kept {W W':World} (h:Same W W') (may:MemPlace→Prop):W.keptBut W' may:=by
 refine⟨h.os,h.out,fun i hi=> ?_⟩
 rw[h.heap i hi]
 cases ho:W.heap[i]? with
 |none=>trivial
 |some o=>
  cases o with
  |cells c t fr=>exact⟨rfl,rfl,rfl,fun _ _=>rfl⟩
  |map es c=>exact .inr ⟨rfl,rfl⟩
  |_=>rfl
theorem Same.at {W W':World} (h:Same W W') {p:MemPlace} (hp:p.block<W.heap.size):W.sameAt W' p:=by
 cases p with
 |cell b off=>
  show W'.cell? ⟨b,off,none⟩=W.cell? ⟨b,off,none⟩
  have:=h.heap b hp
  simp only[World.cell?,this]
 |map b=>exact h.heap b hp
theorem zfp (hl:laidOutB P=true) {W W':World} {sp':Nat→Bool} (hs:Same W W'): ∀{ts:List TypeId} {vs:List Value} {ds:List (DataW H)} {ps:List MemPlace},(∀t∈ts,P.readableRec t=true∧t<P.types.size)→
 DataW.TrodAll enc P W 0 (fun _=>true) true ts vs ds ps→(∀p∈ps,p.block<W.heap.size)→(∀p∈ps,sp' p.block=true)→DataW.TrodAll enc P W' 0 sp' true ts vs ds ps
 | [],vs,ds,ps,_,h,_,_=>by
   obtain⟨rfl,rfl,rfl⟩:=trodAll_nil h
   exact trodAll_mk0
 |t::ts,vs,ds,ps,ht,h,hlt,hsp=>by
  obtain⟨v,vs',d,ds',p,q,rfl,rfl,rfl,h1,h2⟩:=trodAll_cons h
  obtain⟨r1,r2⟩:=ht t (by simp)
  exact trodAll_cons_mk (WideElems.Trod_stays hl r1 r2 h1 (fun x hx=>hs.at (hlt x (by simp[hx]))) (fun x hx=>hsp x (by simp[hx])))
   (zfp hl hs (fun t ht'=>ht t (by simp[ht'])) h2 (fun x hx=>hlt x (by simp[hx])) (fun x hx=>hsp x (by simp[hx])))
theorem post_kept {f:Func} {s:ChangeSpec} {apart fresh handsOn again:Bool} {W W':World} {args:Array Value} {v:Value} {ds gs:List (DataW H)} {before pa pv:List MemPlace}
 (hW:DataW.Whole enc P f.params.toList s.vars apart W args.toList ds gs before)
 (hres: ∀(b:Nat) (sp:Nat→Bool) (hd:Bool),DataW.TrodAll enc P W' b sp hd f.resultTypes.toList (v.resultList f.resultTypes.size) (s.fn H (ds++gs)).results [])
 (hargs: ∀sp:Nat→Bool,(∀p∈before,sp p.block=true)→DataW.TrodAll enc P W' 0 sp true f.params.toList args.toList (s.fn H (ds++gs)).args pa)
 (hvars: ∀sp:Nat→Bool,(∀p∈before,sp p.block=true)→DataW.TrodVars enc P W' sp s.vars (s.fn H (ds++gs)).vars pv)
 (hps:before=pa++pv) (hk:W.keptBut W' (· ∈before)) (hfz: ∀a:Addr,a.block<W.heap.size→W'.frozen? a=W.frozen? a)
 (hok: ∀(j:Nat) (t:TypeId) (r:Value),f.resultTypes[j]? =some t→(v.resultList f.resultTypes.size)[j]? =some r→Value.okWide P W' .any 0 t r):
 s.post enc P f apart fresh handsOn again W args v W':=by
 refine⟨ds,gs,before,[],pa,pv,hW,hres _ _ _,hargs _ fun p hp=>by simpa using hW.lt p hp,hvars _ fun p hp=>by simpa using hW.lt p hp,World.keptBut_mono (fun p hp=>⟨hp,?_⟩) hk,fun _=> ?_⟩
 ·rw[hps,List.mem_append] at hp
  exact Or.inr hp
 ·have hlt:=hW.lt
  obtain⟨_,_,_,_,_,hz,hn⟩:=hW
  refine⟨hok,_,_,([]++pa)++pv,⟨[]++pa,pv,trodAll_append (hargs _ (fun _ _=>rfl)) (hres _ _ _),hvars _ (fun _ _=>rfl),rfl,fun b off hp=> ?_,fun ha=> ?_⟩,fun p hp _=> ?_⟩
  ·have hb:MemPlace.cell b off∈before:=by rw[hps];simpa using hp
   rw[hfz ⟨b,off,none⟩ (hlt _ hb)]
   exact hz b off hb
  ·have:=hn ha
   rw[hps] at this
   simpa using this
  ·rw[hps]
   simpa using hp
theorem law_post {s:ChangeSpec} {fn:Func} {apart fresh handsOn again:Bool} {W W':World} {args:Array Value} {ds gs:List (DataW H)} {before:List MemPlace} {t:TypeId} (hW:DataW.Whole enc P fn.params.toList s.vars apart W args.toList ds gs before)
 (hvars:s.vars=[]) (hspec:s.fn H (ds++gs)={results:=[.lit (.bool true)],args:=ds}) (hres:fn.resultTypes= #[t]) (ht:P.underlying t=some .bool) (hsame:Same W W') (hl:laidOutB P=true) (hr: ∀t∈fn.params.toList,P.readableRec t=true∧t<P.types.size):
 s.post enc P fn apart fresh handsOn again W args (.bool true) W':=by
 have hW':=hW
 obtain⟨p,q,hA,hV,rfl,hfz,hnd⟩:=hW
 rw[hvars] at hV
 obtain⟨rfl,rfl⟩:=trodVars_none hV
 refine post_kept (pa:=p) (pv:=[]) hW' (fun b sp hd=> ?_) (fun sp hsp=> ?_) (fun sp hsp=> ?_) rfl (hsame.kept _) hsame.froz ?_
 ·rw[hspec,hres]
  exact trodAll_mk1 (shut_bool ht true)
 ·rw[hspec]
  exact zfp hl hsame hr hA (fun x hx=>hW'.lt x (by simp[hx])) (fun x hx=>hsp x (by simp[hx]))
 ·rw[hspec,hvars];rfl
 ·exact ok_one hres rfl (okWide_bool_mk ht true)
end
end
end Go.Ideal
namespace Go.Ideal
noncomputable section
variable {P:Program}
def allEq {α:Type} (f:α→α→Bool):List α→List α→Bool
 | [],[]=>true
 |a::l,b::m=>f a b&&allEq f l m
 |_,_=>false
theorem zeM {α:Type} {f:α→α→Bool} (hf: ∀a b,f a b=true→a=b): ∀{l m:List α},allEq f l m=true→l=m
 | [],[],_=>rfl
 | [],_::_,h=>by cases h
 |_::_,[],h=>by cases h
 |a::l,b::m,h=>by
  simp only[allEq,Bool.and_eq_true] at h
  rw[hf _ _ h.1,zeM hf h.2]
def eqX:Nat→Value→Value→Bool
 |n+1,.agg a,.agg b=>allEq (eqX n) a.toList b.toList
 |n+1,.tuple a,.tuple b=>allEq (eqX n) a.toList b.toList
 |n+1,.iface t a,.iface u b=>Nat.beq t u&&eqX n a b
 |_,.nilIface,.nilIface=>true
 |_,.func (.func f) a b,.func (.func g) c d=>Nat.beq f g&&(a.isEmpty&&b.isEmpty&&(c.isEmpty&&d.isEmpty))
 |_,a,b=>zeV a b
theorem zkl: ∀(n:Nat) (a b:Value),eqX n a b=true→a=b:=by
 intro n
 induction n with
 |zero=>
  intro a b h
  unfold eqX at h
  split at h
  ·rename_i e;exact absurd e (by simp)
  ·rename_i e;exact absurd e (by simp)
  ·rename_i e;exact absurd e (by simp)
  ·rfl
  ·simp only[Bool.and_eq_true,Array.isEmpty_iff] at h
   obtain⟨h1,⟨h2,h3⟩,h4,h5⟩:=h
   rw[Nat.eq_of_beq_eq_true h1,h2,h3,h4,h5]
  ·exact zfM h
 |succ n ih=>
  intro a b h
  unfold eqX at h
  split at h
  ·rename_i e;cases e;rw[Array.toList_inj.1 (zeM ih h)]
  ·rename_i e;cases e;rw[Array.toList_inj.1 (zeM ih h)]
  ·rename_i e;cases e;rw[Bool.and_eq_true] at h;rw[Nat.eq_of_beq_eq_true h.1,ih _ _ h.2]
  ·rfl
  ·simp only[Bool.and_eq_true,Array.isEmpty_iff] at h
   obtain⟨h1,⟨h2,h3⟩,h4,h5⟩:=h
   rw[Nat.eq_of_beq_eq_true h1,h2,h3,h4,h5]
  ·exact zfM h
def eqEnt (a b:Value×Value×Nat):Bool:=eqX 4 a.1 b.1&&(eqX 4 a.2.1 b.2.1&&Nat.beq a.2.2 b.2.2)
theorem eqEnt_eq (a b:Value×Value×Nat) (h:eqEnt a b=true):a=b:=by
 simp only[eqEnt,Bool.and_eq_true] at h
 obtain⟨a1,a2,a3⟩:=a
 obtain⟨b1,b2,b3⟩:=b
 have h1:=zkl _ _ _ h.1
 have h2:=zkl _ _ _ h.2.1
 have h3:=Nat.eq_of_beq_eq_true h.2.2
 simp only at h1 h2 h3
 rw[h1,h2,h3]
def eqObj:IObj→IObj→Bool
 |.cells a e,.cells b f=>Nat.beq e f&&allEq (eqX 4) a b
 |.map a c,.map b d=>Nat.beq c d&&allEq eqEnt a b
 |.glob b x,.glob c y=>Nat.beq b c&&eqX 4 x y
 |.dead,.dead=>true
 |_,_=>false
theorem eqObj_eq {a b:IObj} (h:eqObj a b=true):a=b:=by
 unfold eqObj at h
 split at h
 ·rw[Bool.and_eq_true] at h;rw[Nat.eq_of_beq_eq_true h.1,zeM (zkl 4) h.2]
 ·rw[Bool.and_eq_true] at h;rw[Nat.eq_of_beq_eq_true h.1,zeM eqEnt_eq h.2]
 ·rw[Bool.and_eq_true] at h;rw[Nat.eq_of_beq_eq_true h.1,zkl _ _ _ h.2]
 ·rfl
 ·cases h
def liveO:IObj→Bool
 |.dead=>false
 |_=>true
def refF (S:Nat→Bool):Nat→Value→Bool
 |n+1,.agg a=>a.toList.all (refF S n)
 |n+1,.tuple a=>a.toList.all (refF S n)
 |n+1,.iface _ v=>refF S n v
 |_,.pointer (some a)=>S a.block
 |_,.slice (some a) _ _=>S a.block
 |_,.map (some i)=>S i
 |_,.func (.func _) a b=>a.isEmpty&&b.isEmpty
 |_,.bool _=>true
 |_,.int _ _=>true
 |_,.string _=>true
 |_,.pointer none=>true
 |_,.slice none _ _=>true
 |_,.map none=>true
 |_,.nilFunc=>true
 |_,.nilIface=>true
 |_,.complex _ _ _=>true
 |_,_=>false
theorem VR.agree {ρ σ:Rho} {S:Nat→Bool} (hS: ∀i,S i=true→σ i=ρ i): ∀(n:Nat) {v v':Value},VR ρ v v'→refF S n v=true→VR σ v v':=by
 intro n
 induction n with
 |zero=>
  intro v v' h hv
  cases h with
  |bool b=>exact .bool b
  |int k n=>exact .int k n
  |str s=>exact .str s
  |ptrNil=>exact .ptrNil
  |ptr h=>exact .ptr ((hS _ hv).trans h)
  |sliceNil=>exact .sliceNil
  |slice h hc hl=>exact .slice ((hS _ hv).trans h) hc hl
  |sliceO h he hl hs hb=>exact .sliceO ((hS _ hv).trans h) he hl hs hb
  |sliceE h he hb=>exact .sliceE ((hS _ hv).trans h) he hb
  |sliceD h hm=>exact .sliceD ((hS _ hv).trans h) hm
  |sliceR h he hl=>exact .sliceR ((hS _ hv).trans h) he hl
  |mapNil=>exact .mapNil
  |map h=>exact .map ((hS _ hv).trans h)
  |func f ha hb ra rb=>
   have hv:(Array.isEmpty _&&Array.isEmpty _)=true:=hv
   simp only[Bool.and_eq_true,Array.isEmpty_iff] at hv
   obtain⟨rfl,rfl⟩:=hv
   exact .func f ha hb (fun j x y hx=>by simp at hx) (fun j x y hx=>by simp at hx)
  |yield h=>cases hv
  |nilFunc=>exact .nilFunc
  |nilIface=>exact .nilIface
  |iface t h=>cases hv
  |agg ha ra=>cases hv
  |tuple ha ra=>cases hv
 |succ n ih=>
  intro v v' h hv
  cases h with
  |bool b=>exact .bool b
  |int k n=>exact .int k n
  |str s=>exact .str s
  |ptrNil=>exact .ptrNil
  |ptr h=>exact .ptr ((hS _ hv).trans h)
  |sliceNil=>exact .sliceNil
  |slice h hc hl=>exact .slice ((hS _ hv).trans h) hc hl
  |sliceO h he hl hs hb=>exact .sliceO ((hS _ hv).trans h) he hl hs hb
  |sliceE h he hb=>exact .sliceE ((hS _ hv).trans h) he hb
  |sliceD h hm=>exact .sliceD ((hS _ hv).trans h) hm
  |sliceR h he hl=>exact .sliceR ((hS _ hv).trans h) he hl
  |mapNil=>exact .mapNil
  |map h=>exact .map ((hS _ hv).trans h)
  |func f ha hb ra rb=>
   have hv:(Array.isEmpty _&&Array.isEmpty _)=true:=hv
   simp only[Bool.and_eq_true,Array.isEmpty_iff] at hv
   obtain⟨rfl,rfl⟩:=hv
   exact .func f ha hb (fun j x y hx=>by simp at hx) (fun j x y hx=>by simp at hx)
  |yield h=>cases hv
  |nilFunc=>exact .nilFunc
  |nilIface=>exact .nilIface
  |iface t h=>exact .iface t (ih h hv)
  |agg ha ra=>
   exact .agg ha (fun j x y hx hy=>ih (ra j x y hx hy) (List.all_eq_true.1 (show(Array.toList _).all (refF S n)=true from hv) x (Array.mem_toList_iff.2 (Array.mem_of_getElem? hx))))
  |tuple ha ra=>
   exact .tuple ha (fun j x y hx hy=>ih (ra j x y hx hy) (List.all_eq_true.1 (show(Array.toList _).all (refF S n)=true from hv) x (Array.mem_toList_iff.2 (Array.mem_of_getElem? hx))))
def refO (S:Nat→Bool):IObj→Bool
 |.cells cs _=>cs.all (refF S 4)
 |.map es _=>es.all fun e=>refF S 4 e.1&&refF S 4 e.2.1
 |.glob _ _=>true
 |.dead=>true
 |.loop _ _ _ _=>false
theorem OR.agree {ρ σ:Rho} {S:Nat→Bool} (hS: ∀i,S i=true→σ i=ρ i) {w:World} {R:RB} {o:IObj} (h:OR P ρ w R o) (ho:refO S o=true):OR P σ w R o:=by
 cases o with
 |cells cs esz=>
  obtain⟨h1,h2,c,t,fr,h3,h7,h4,h5,h6⟩:=h
  exact⟨h1,h2,c,t,fr,h3,h7,h4,h5,fun j v hj=>let⟨v',a,b⟩:=h6 j v hj;⟨v',a,b.imp id (fun b=>b.agree hS 4 (List.all_eq_true.1 ho v (List.mem_of_getElem? hj)))⟩⟩
 |map es clock=>
  obtain⟨es',h1,h2,h3⟩:=h
  refine⟨es',h1,h2,fun j e hj=> ?_⟩
  obtain⟨e',a,b,c,d⟩:=h3 j e hj
  have:=List.all_eq_true.1 ho e (List.mem_of_getElem? hj)
  rw[Bool.and_eq_true] at this
  exact⟨e',a,b.agree hS 4 this.1,c.agree hS 4 this.2,d⟩
 |glob b x=>exact h
 |loop _ _ _ _=>cases ho
 |dead=>trivial
theorem VRL.agree {ρ σ:Rho} {S:Nat→Bool} (hS: ∀i,S i=true→σ i=ρ i) {xs ys:List Value} (h:VRL ρ xs ys) (hx:xs.all (refF S 4)=true):VRL σ xs ys:=
 ⟨h.1,fun j x y h1 h2=>(h.2 j x y h1 h2).agree hS 4 (List.all_eq_true.1 hx x (List.mem_of_getElem? h1))⟩
structure zci where
 args:List Value
 next:Nat
 pre:List (Nat×IObj)
 val:Value
 next':Nat
 post:List (Nat×IObj)
def zhp (l:List (Nat×IObj)) (t:PT IObj):PT IObj:=List.rec (motive:=fun _=>PT IObj) t (fun x _ ih=>ih.set (bits x.1) x.2) l
def matchH (h:H) (l:List (Nat×IObj)):Bool:=l.all fun x=>match h.get x.1 with
 |some o=>eqObj o x.2
 |none=>false
def zbc (l:List (Nat×IObj)) (i:Nat):Bool:=l.any fun x=>Nat.beq x.1 i
def zci.fits (p:zci) (args:List Value) (h:H):Bool:=Nat.beq h.next p.next&&(allEq (eqX 4) args p.args&&matchH h p.pre)
def zci.out (p:zci) (h:H):Value×H:=(p.val,⟨p.next',zhp p.post h.mem⟩)
def zeg (l:List zci) (args:List Value) (h:H):Option (Value×H):=
 List.rec (motive:=fun _=>Option (Value×H)) none (fun p _ ih=>match p.fits args h with|true=>some (p.out h)|false=>ih) l
def zci.start (p:zci):H:=⟨p.next,zhp p.pre .nil⟩
def zci.ends (p:zci):Option Out→Bool
 |some (.val v h)=>eqX 4 v p.val&&(Nat.beq h.next p.next'&&matchH h p.post)
 |_=>false
def zci.runs (F:FuncId→Option zl) (n:Nat) (g:FuncId) (p:zci):Bool:=p.ends (E F n (.call (.func (.func g) #[] #[]) p.args p.start))
def zci.good (p:zci):Bool:=
 Nat.ble p.next p.next'&&(p.pre.all (fun x=>Nat.blt x.1 p.next&&zbc p.post x.1)&&(p.post.all (fun x=>zbc p.pre x.1||(Nat.ble p.next x.1&&Nat.blt x.1 p.next'))&&
 (p.args.all (refF (zbc p.pre) 4)&&(p.pre.all (fun x=>liveO x.2&&refO (zbc p.pre) x.2)&&(refF (zbc p.post) 4 p.val&&p.post.all (fun x=>refO (zbc p.post) x.2))))))
theorem hasId_iff {l:List (Nat×IObj)} {i:Nat}:zbc l i=true↔ ∃o,(i,o)∈l:=by
 unfold zbc
 rw[List.any_eq_true]
 constructor
 ·rintro⟨⟨j,o⟩,h1,h2⟩;exact⟨o,by rw[←Nat.eq_of_beq_eq_true h2];exact h1⟩
 ·rintro⟨o,h⟩;exact⟨(i,o),h,Nat.beq_refl i⟩
theorem zi6 {l:List (Nat×IObj)} {t:PT IObj} {i:Nat} (h:zbc l i=false):(zhp l t).get (bits i)=t.get (bits i):=by
 induction l with
 |nil=>rfl
 |cons x l ih=>
  have h':(Nat.beq x.1 i||zbc l i)=false:=h
  rw[Bool.or_eq_false_iff] at h'
  show((zhp l t).set (bits x.1) x.2).get (bits i)=_
  rw[PT.get_set_bits,if_neg (by rintro rfl;rw[Nat.beq_refl] at h';cases h'.1),ih h'.2]
theorem setAll_in {l:List (Nat×IObj)} {t:PT IObj} {i:Nat} (h:zbc l i=true): ∃o,(i,o)∈l∧(zhp l t).get (bits i)=some o:=by
 induction l with
 |nil=>cases h
 |cons x l ih=>
  have e:(zhp (x::l) t).get (bits i)=if x.1=i then some x.2 else(zhp l t).get (bits i):=PT.get_set_bits _ _ _ _
  rw[e]
  by_cases hi:x.1=i
  ·rw[if_pos hi];exact⟨x.2,by subst hi;simp,rfl⟩
  ·rw[if_neg hi]
   have h':(Nat.beq x.1 i||zbc l i)=true:=h
   rw[Bool.or_eq_true] at h'
   obtain⟨o,h1,h2⟩:=ih (h'.resolve_left fun e=>hi (Nat.eq_of_beq_eq_true e))
   exact⟨o,by simp[h1],h2⟩
theorem zkd {h:H} {l:List (Nat×IObj)} (hm:matchH h l=true) {i:Nat} {o:IObj} (hi:(i,o)∈l):h.get i=some o:=by
 have:=List.all_eq_true.1 hm _ hi
 dsimp only at this
 split at this
 ·rename_i o' ho;have e:=eqObj_eq this;subst e;exact ho
 ·cases this
theorem piece_calls {F:FuncId→Option zl} (hmix:P.follows .mixedOrders=true) (hF: ∀g cf,F g=some cf→FnOk P g cf) {n:Nat} {g:FuncId} {p:zci} (hg:p.good=true) (hrun:p.runs F n g=true)
 {args:List Value} {h:H} (hfit:p.fits args h=true) {ρ:Rho} {args':Array Value} {w:World} (ra:VRL ρ args args'.toList) (hr:HR P ρ h w):
 Calls P g args' w (zgW P ρ w (.val (p.out h).1 (p.out h).2)):=by
 simp only[zci.good,Bool.and_eq_true] at hg
 obtain⟨g1,g2,g3,g4,g5,g6,g7⟩:=hg
 simp only[zci.fits,Bool.and_eq_true] at hfit
 obtain⟨f1,f2,f3⟩:=hfit
 have f2:=zeM (zkl 4) f2
 subst f2
 have f1:=Nat.eq_of_beq_eq_true f1
 have g1:=Nat.le_of_ble_eq_true g1
 have preLt: ∀i,zbc p.pre i=true→i<p.next∧zbc p.post i=true:=fun i hi=>by
  obtain⟨o,ho⟩:=hasId_iff.1 hi
  have:=List.all_eq_true.1 g2 _ ho
  rw[Bool.and_eq_true] at this
  exact⟨Nat.le_of_ble_eq_true this.1,this.2⟩
 have postIn: ∀i,zbc p.post i=true→zbc p.pre i=true∨(p.next≤i∧i<p.next'):=fun i hi=>by
  obtain⟨o,ho⟩:=hasId_iff.1 hi
  have:=List.all_eq_true.1 g3 _ ho
  rw[Bool.or_eq_true,Bool.and_eq_true] at this
  exact this.imp id fun h=>⟨Nat.le_of_ble_eq_true h.1,Nat.le_of_ble_eq_true h.2⟩
 have preGet: ∀i,zbc p.pre i=true→ ∃o,h.get i=some o∧o≠ .dead∧p.start.get i=some o∧refO (zbc p.pre) o=true:=fun i hi=>by
  obtain⟨o,h1,h2⟩:=setAll_in (t:=.nil) hi
  have q1:=zkd f3 h1
  have q4:=List.all_eq_true.1 g5 _ h1
  rw[Bool.and_eq_true] at q4
  exact⟨o,q1,by rintro rfl;exact Bool.false_ne_true q4.1,h2,q4.2⟩
 have preNo: ∀i,zbc p.pre i=false→p.start.get i=none:=fun i hi=>(zi6 hi).trans (PT.get_nil _)
 obtain⟨ρ',hρ'⟩: ∃ρ':Rho,∀i,ρ' i=if zbc p.pre i=true then ρ i else none:=⟨_,fun _=>rfl⟩
 have agr: ∀i,zbc p.pre i=true→ρ' i=ρ i:=fun i hi=>by rw[hρ',if_pos hi]
 have sub: ∀i R,ρ' i=some R→zbc p.pre i=true∧ρ i=some R:=fun i R hi=>by
  rw[hρ'] at hi
  split at hi
  ·rename_i hc;exact⟨hc,hi⟩
  ·cases hi
 have hr':HR P ρ' p.start w:={
  obj:=fun i R o hi ho=>by
   obtain⟨hc,hi⟩:=sub i R hi
   obtain⟨o',q1,q2,q3,q4⟩:=preGet i hc
   have e:o'=o:=Option.some.inj (q3.symm.trans ho)
   subst e
   exact(hr.obj i R o' hi q1).agree agr q4
  nxt:=fun i hi=>by
   have hi:p.next≤i:=hi
   have hc:zbc p.pre i=false:=by
    rw[Bool.eq_false_iff];intro hc;have:=(preLt i hc).1;omega
   exact⟨by rw[hρ',if_neg (by rw[hc];simp)],preNo i hc⟩
  sep:=fun i j R S hi hj _ _ e=>by
   obtain⟨hc,hi⟩:=sub i R hi
   obtain⟨hd,hj⟩:=sub j S hj
   obtain⟨o,q1,q2,-,-⟩:=preGet i hc
   obtain⟨o',r1,r2,-,-⟩:=preGet j hd
   exact hr.sep i j R S hi hj ⟨o,q1,q2⟩ ⟨o',r1,r2⟩ e
  blk:=fun i R hi=>hr.blk i R (sub i R hi).2
  glb:=fun i b x hi=>by
   cases hc:zbc p.pre i with
   |false=>rw[preNo i hc] at hi;cases hi
   |true=>
    obtain⟨o',q1,-,q3,-⟩:=preGet i hc
    have e:o'=.glob b x:=Option.some.inj (q3.symm.trans hi)
    subst e
    obtain⟨R,hR⟩:=hr.glb i b x q1
    exact⟨R,(agr i hc).trans hR⟩}
 have ra':VRL ρ' p.args args'.toList:=ra.agree agr g4
 unfold zci.runs at hrun
 generalize he:E F n (.call (.func (.func g) #[] #[]) p.args p.start)=out at hrun
 unfold zci.ends at hrun
 split at hrun
 ·rename_i v h2
  simp only[Bool.and_eq_true] at hrun
  obtain⟨e1,e2,e3⟩:=hrun
  obtain rfl:=zkl _ _ _ e1
  have e2:=Nat.eq_of_beq_eq_true e2
  refine(zgt hmix hF he ra' hr').mono ?_
  rintro e w' ⟨v',σ2,rfl,hv,hr2,hx⟩
  obtain⟨σ,hσ⟩: ∃σ:Rho,∀i,σ i=if zbc p.post i=true then σ2 i else ρ i:=⟨_,fun _=>rfl⟩
  have agr2: ∀i,zbc p.post i=true→σ i=σ2 i:=fun i hi=>by rw[hσ,if_pos hi]
  have oth: ∀i,zbc p.post i=false→σ i=ρ i:=fun i hi=>by rw[hσ,if_neg (by rw[hi];simp)]
  have le:zfT ρ σ:=fun i R hi=>by
   cases hc:zbc p.post i with
   |false=>rw[oth i hc];exact hi
   |true=>
    rw[agr2 i hc]
    rcases postIn i hc with hp| ⟨hp,-⟩
    ·exact hx.le i R ((agr i hp).trans hi)
    ·have:=(hr.nxt i (by omega)).1;rw[hi] at this;cases this
  have postGet: ∀i,zbc p.post i=true→ ∃o,h2.get i=some o∧(p.out h).2.get i=some o∧refO (zbc p.post) o=true:=fun i hi=>by
   obtain⟨o,h1,h3⟩:=setAll_in (t:=h.mem) hi
   have q1:=zkd e3 h1
   exact⟨o,q1,h3,List.all_eq_true.1 g7 _ h1⟩
  have postNo: ∀i,zbc p.post i=false→(p.out h).2.get i=h.get i:=fun i hi=>zi6 hi
  have apart: ∀i R j S,zbc p.post i=true→σ2 i=some R→zbc p.post j=false→ρ j=some S→zdG h j→R.blk≠S.blk:=fun i R j S hi hiR hj hjS aj e=>by
   rcases hx.fresh i R hiR with⟨k,T,hk,hT⟩|hb
   ·obtain⟨hc,hk⟩:=sub k T hk
    obtain⟨o,q1,q2,-,-⟩:=preGet k hc
    have:=hr.sep k j T S hk hjS ⟨o,q1,q2⟩ aj (hT.trans e)
    subst this
    rw[(preLt k hc).2] at hj;cases hj
   ·have:=hr.blk j S hjS;omega
  have hrN:HR P σ (p.out h).2 w':={
   obj:=fun i R o hi ho=>by
    cases hc:zbc p.post i with
    |true=>
     rw[agr2 i hc] at hi
     obtain⟨o',q1,q3,q4⟩:=postGet i hc
     have e:o'=o:=Option.some.inj (q3.symm.trans ho)
     subst e
     exact(hr2.obj i R o' hi q1).agree agr2 q4
    |false=>
     rw[oth i hc] at hi
     rw[postNo i hc] at ho
     by_cases hd:o=.dead
     ·subst hd;trivial
     ·refine(hr.obj i R o hi ho).mono le (hx.frame _ (hr.blk i R hi) fun j S hj e=> ?_)
      obtain⟨hp,hj⟩:=sub j S hj
      obtain⟨o',q1,q2,-,-⟩:=preGet j hp
      have:=hr.sep j i S R hj hi ⟨o',q1,q2⟩ ⟨o,ho,hd⟩ e
      subst this
      rw[(preLt j hp).2] at hc;cases hc
   nxt:=fun i hi=>by
    have hi:p.next'≤i:=hi
    have hc:zbc p.post i=false:=by
     rw[Bool.eq_false_iff];intro hc
     rcases postIn i hc with hp|hp
     ·have:=(preLt i hp).1;omega
     ·omega
    rw[oth i hc,postNo i hc]
    exact hr.nxt i (by omega)
   sep:=fun i j R S hi hj ai aj e=>by
    have al: ∀k,zbc p.post k=true→zdG (p.out h).2 k→zdG h2 k:=fun k hk ⟨o,h1,h3⟩=>by
     obtain⟨o',q1,q2,-⟩:=postGet k hk
     have e:o'=o:=Option.some.inj (q2.symm.trans h1)
     subst e;exact⟨o',q1,h3⟩
    have al': ∀k,zbc p.post k=false→zdG (p.out h).2 k→zdG h k:=fun k hk ⟨o,h1,h3⟩=>⟨o,(postNo k hk).symm.trans h1,h3⟩
    cases hc:zbc p.post i with
    |true=>
     rw[agr2 i hc] at hi
     cases hd:zbc p.post j with
     |true=>rw[agr2 j hd] at hj;exact hr2.sep i j R S hi hj (al i hc ai) (al j hd aj) e
     |false=>rw[oth j hd] at hj;exact absurd e (apart i R j S hc hi hd hj (al' j hd aj))
    |false=>
     rw[oth i hc] at hi
     cases hd:zbc p.post j with
     |true=>rw[agr2 j hd] at hj;exact absurd e.symm (apart j S i R hd hj hc hi (al' i hc ai))
     |false=>rw[oth j hd] at hj;exact hr.sep i j R S hi hj (al' i hc ai) (al' j hd aj) e
   blk:=fun i R hi=>by
    cases hc:zbc p.post i with
    |true=>rw[agr2 i hc] at hi;exact hr2.blk i R hi
    |false=>rw[oth i hc] at hi;exact Nat.lt_of_lt_of_le (hr.blk i R hi) hx.size
   glb:=fun i b x hi=>by
    cases hc:zbc p.post i with
    |true=>
     obtain⟨o',q1,q3,-⟩:=postGet i hc
     have e:o'=.glob b x:=Option.some.inj (q3.symm.trans hi)
     subst e
     obtain⟨R,hR⟩:=hr2.glb i b x q1
     exact⟨R,(agr2 i hc).trans hR⟩
    |false=>
     rw[postNo i hc] at hi
     obtain⟨R,hR⟩:=hr.glb i b x hi
     exact⟨R,(oth i hc).trans hR⟩}
  refine⟨_,_,v',σ,rfl,rfl,hv.agree agr2 4 g6,hrN,le,hx.size,fun i R hi=> ?_,fun B hB hn=>hx.frame B hB fun i R hi=>hn i R (sub i R hi).2,hx.loops,hx.os,hx.out,hx.froz,hx.td⟩
  cases hc:zbc p.post i with
  |true=>
   rw[agr2 i hc] at hi
   rcases hx.fresh i R hi with⟨j,S,hj,e⟩|hb
   ·exact .inl ⟨j,S,(sub j S hj).2,e⟩
   ·exact .inr hb
  |false=>rw[oth i hc] at hi;exact .inl ⟨i,R,hi,rfl⟩
 ·cases hrun
theorem pieces_ok (hmix:P.follows .mixedOrders=true) {g:FuncId} {fn:Func} {cf0:zl} (hfn:P.funcs[g]? =some fn) (hcf:zT P fn=some (zd1 cf0))
 {l:List zci} (hl: ∀p∈l,p.good=true∧ ∃F n,(∀g cf,F g=some cf→FnOk P g cf)∧p.runs F n g=true):FnOk P g (primW (zeg l) cf0):=by
 refine .inr (.inr (.inr ⟨_,fn,cf0,rfl,⟨fun args w=> ?_,fun args h v h' hp ρ args' w ra hr=> ?_⟩,hfn,hcf⟩))
 ·obtain⟨hname,c,hbody,-⟩:=zbs hcf
  have hne: ¬fn.name= "runtime.NumGoroutine" :=by simpa using hname
  simp[callFunc,hfn,hne,hbody]
 ·induction l with
  |nil=>cases hp
  |cons p l ih=>
   have hp:(match p.fits args h with|true=>some (p.out h)|false=>zeg l args h)=some (v,h'):=hp
   split at hp
   ·rename_i hfit
    obtain⟨q1,F,n,hF,q2⟩:=hl p (by simp)
    have e:p.out h=(v,h'):=Option.some.inj hp
    have:=piece_calls hmix hF q1 q2 hfit ra hr
    rw[e] at this;exact this
   ·exact ih (fun p hp=>hl p (by simp[hp])) hp
def lookE (l:List (Nat×zl)) (g:Nat):Option zl:=List.rec (motive:=fun _=>Option zl) none (fun p _ ih=>match Nat.beq p.1 g with|true=>some p.2|false=>ih) l
theorem zfE: ∀{t:List (Nat×zl)} {g:Nat} {cf:zl},lookE t g=some cf→ ∃p∈t,p.1=g∧p.2=cf
 | [],g,x,h=>by cases h
 |p::t,g,x,h=>by
  have h:(match Nat.beq p.1 g with|true=>some p.2|false=>lookE t g)=some x:=h
  split at h
  ·rename_i e;cases h;exact⟨p,by simp,Nat.eq_of_beq_eq_true e,rfl⟩
  ·obtain⟨q,hq,e⟩:=zfE h;exact⟨q,by simp[hq],e⟩
def overF (l:List (Nat×zl)) (F:FuncId→Option zl):FuncId→Option zl:=fun g=>match lookE l g with
 |some cf=>some cf
 |none=>F g
theorem over_ok {l:List (Nat×zl)} {F:FuncId→Option zl} (hl: ∀p∈l,FnOk P p.1 p.2) (hF: ∀g cf,F g=some cf→FnOk P g cf): ∀g cf,overF l F g=some cf→FnOk P g cf:=by
 intro g cf h
 unfold overF at h
 split at h
 ·rename_i c hc;cases h;obtain⟨p,hp,rfl,rfl⟩:=zfE hc;exact hl p hp
 ·exact hF g cf h
theorem look_ok {l:List (Nat×zl)} (hl: ∀p∈l,FnOk P p.1 p.2): ∀g cf,lookE l g=some cf→FnOk P g cf:=fun g cf h=>by
 obtain⟨p,hp,rfl,rfl⟩:=zfE h;exact hl p hp
def endsT (x:Value):Option Out→Bool
 |some (.val (.bool true) h)=>(match h.get 0 with|some o=>eqObj o (.glob 0 x)|none=>false)
 |_=>false
def endsTrue:Option Out→Bool
 |some (.val (.bool true) _)=>true
 |_=>false
theorem endsTrue_some {o:Option Out} (h:endsTrue o=true): ∃h',o=some (.val (.bool true) h'):=by
 unfold endsTrue at h
 split at h
 ·exact⟨_,rfl⟩
 ·cases h
end
end Go.Ideal
namespace Go.Ideal
open Go
variable {P:Program}
def AllC (P:Program) (l:List (Nat×zl)):Prop:=l.map (fun x=>(P.funcs[x.1]?).bind (zT P))=l.map fun x=>some (zd1 x.2)
theorem AllC.mem {l:List (Nat×zl)} (h:AllC P l): ∀p∈l,∃fn,P.funcs[p.1]? =some fn∧zT P fn=some (zd1 p.2):=by
 unfold AllC at h
 induction l with
 |nil=>intro p hp;cases hp
 |cons x l ih=>
  rw[List.map_cons,List.map_cons,List.cons.injEq] at h
  intro p hp
  rcases List.mem_cons.1 hp with rfl|hp
  ·cases e:P.funcs[p.1]? with
   |none=>rw[e] at h;cases h.1
   |some fn=>rw[e] at h;exact⟨fn,rfl,h.1⟩
  ·exact ih h.2 p hp
theorem AllC.at {l:List (Nat×zl)} (h:AllC P l) {g:Nat} {cf:zl} (hg:lookE l g=some cf): ∃fn,P.funcs[g]? =some fn∧zT P fn=some (zd1 cf):=by
 obtain⟨p,hp,rfl,rfl⟩:=zfE hg
 exact h.mem p hp
theorem AllC.ok {l:List (Nat×zl)} (h:AllC P l): ∀p∈l,FnOk P p.1 p.2:=fun p hp=>.inl (h.mem p hp)
theorem AllC.app {l m:List (Nat×zl)} (h:AllC P l) (h2:AllC P m):AllC P (l++m):=by
 unfold AllC at*
 rw[List.map_append,List.map_append,h,h2]
theorem AllC.pieces (hmix:P.follows .mixedOrders=true) {l:List (Nat×zl)} (h:AllC P l) {g:Nat} {cf:zl} (hg:lookE l g=some cf) {ps:List zci}
 (hl: ∀p∈ps,p.good=true∧ ∃F n,(∀g cf,F g=some cf→FnOk P g cf)∧p.runs F n g=true):FnOk P g (primW (zeg ps) cf):=by
 obtain⟨fn,h1,h2⟩:=h.at hg
 exact pieces_ok hmix h1 h2 hl
end Go.Ideal
namespace Go.Ideal.Q
noncomputable section
def tab0:List (Nat×zl):=[(6,f_l),(11,f_t),(23,f_i),(24,f_b),(25,f_v),(26,f_q),(27,f_g),(51,f_o),(53,f_u),(55,f_h),(58,f_m),(59,f_e),(68,f_x),(73,f_r),(74,f_a),(75,f_j),(77,f_c),(94,f_z),(98,f_w),(103,f_n),(106,f_f),(109,f_A),(110,f_d),(138,f_s),(139,f_p),(160,f_y),(161,f_k)]
def tabC:List (Nat×zl):=tab0
def tabF:List (Nat×zl):=(12,zgc true)::tabC
def F:FuncId→Option zl:=lookE tabF
theorem zds:F n_l=some f_l:=by kernel_rfl
theorem zes:F n_t=some f_t:=by kernel_rfl
theorem zer:F n_B=some (zgc true):=by kernel_rfl
theorem zid:F n_i=some f_i:=by kernel_rfl
theorem zce:F n_b=some f_b:=by kernel_rfl
theorem h_jam_Check:F n_v=some f_v:=by kernel_rfl
theorem zeq:F n_q=some f_q:=by kernel_rfl
theorem zbR:F n_g=some f_g:=by kernel_rfl
theorem zgn:F n_o=some f_o:=by kernel_rfl
theorem h_jam_set_all:F n_u=some f_u:=by kernel_rfl
theorem zeO:F n_h=some f_h:=by kernel_rfl
theorem zff:F n_m=some f_m:=by kernel_rfl
theorem zeo:F n_e=some f_e:=by kernel_rfl
theorem h_jam_set_has:F n_x=some f_x:=by kernel_rfl
theorem h_jam_fine:F n_r=some f_r:=by kernel_rfl
theorem zgo:F n_a=some f_a:=by kernel_rfl
theorem zeN:F n_j=some f_j:=by kernel_rfl
theorem zdV:F n_c=some f_c:=by kernel_rfl
theorem ziR:F n_z=some f_z:=by kernel_rfl
theorem zic:F n_w=some f_w:=by kernel_rfl
theorem zd6:F n_n=some f_n:=by kernel_rfl
theorem zdr:F n_f=some f_f:=by kernel_rfl
theorem h_jam_order:F n_A=some f_A:=by kernel_rfl
theorem zep:F n_d=some f_d:=by kernel_rfl
theorem zib:F n_s=some f_s:=by kernel_rfl
theorem h_cmp_Or_int_:F n_p=some f_p:=by kernel_rfl
theorem h_math_bits_Mul32:F n_y=some f_y:=by kernel_rfl
theorem zgm:F n_k=some f_k:=by kernel_rfl
end
end Go.Ideal.Q
namespace Go.Ideal
noncomputable section
@[simp] theorem openCap_le {n:Nat} (h:n<1000000):(n<zm)=True:=eq_true (by unfold zm;omega)
def upS (s:DS):List (Nat×DV)→DS
 | []=>s
 | (q,d)::r=>upS ((bits q,d)::s) r
@[simp] theorem upS_nil (s:DS):upS s []=s:=id rfl
@[simp] theorem upS_cons (s:DS) (q:Nat) (d:DV) (r:List (Nat×DV)):upS s ((q,d)::r)=upS ((bits q,d)::s) r:=id rfl
section
variable {F:FuncId→Option zl} {n0:Nat}
theorem zcn.for {σ:Type} {L:List (List Bool)} {b b':CC} {K:KD} {s:DS} {M:VM} (hb:b=b') (U:Nat→σ→List (Nat×DV)) (G:σ→VM) (P:Nat→σ→Prop) (N:Nat) (x0:σ) (hs:s=z6 L (upS s (U 0 x0))) (hM:M=G x0) (h0:P 0 x0)
 (step: ∀i x,i<N→P i x→(∀x',P (i+1) x'→zcn F n0 L b K (z6 L (upS s (U (i+1) x'))) (G x'))→ @Cd (rD F n0) (.base (LoK F n0 L b K)) b' (z6 L (z6 L (upS s (U i x)))) (G x))
 (last: ∀x,P N x→ @Cd (rD F n0) (.base (LoK F n0 L b K)) b' (z6 L (z6 L (upS s (U N x)))) (G x)):zcn F n0 L b K s M:=by
 have main: ∀m i x,i+m=N→P i x→zcn F n0 L b K (z6 L (upS s (U i x))) (G x):=by
  intro m
  induction m with
  |zero=>intro i x hi hp;obtain rfl:i=N:=by omega
         exact .go hb (last x hp)
  |succ m ih=>intro i x hi hp;exact .go hb (step i x (by omega) hp fun x' hp'=>ih (i+1) x' (by omega) hp')
 have:=main N 0 x0 (by omega) h0
 rw[←hs,←hM] at this
 exact this
theorem zcn.while {σ:Type} {L:List (List Bool)} {b b':CC} {K:KD} {s:DS} {M:VM} (hb:b=b') (U:σ→List (Nat×DV)) (G:σ→VM) (P:σ→Prop) (m:σ→Nat) (x0:σ) (hs:s=z6 L (upS s (U x0))) (hM:M=G x0) (h0:P x0)
 (step: ∀x,P x→(∀x',m x'<m x→P x'→zcn F n0 L b K (z6 L (upS s (U x'))) (G x'))→ @Cd (rD F n0) (.base (LoK F n0 L b K)) b' (z6 L (z6 L (upS s (U x)))) (G x)):zcn F n0 L b K s M:=by
 have main: ∀n x,m x<n→P x→zcn F n0 L b K (z6 L (upS s (U x))) (G x):=by
  intro n
  induction n with
  |zero=>intro x hx;omega
  |succ n ih=>intro x hx hp;exact .go hb (step x hp fun x' hx' hp'=>ih x' (by omega) hp')
 have:=main (m x0+1) x0 (by omega) h0
 rw[←hs,←hM] at this
 exact this
end
section
variable {F:FuncId→Option zl} {n0:Nat} {M:VM}
theorem zt.gen {f:DV} {args:List DV} {k kp:DV→VM→Prop} {Q:VM→Prop} (hQ:Q M) (h: ∀M1,Q M1→zt F f args M1 k kp):zt F f args M k kp:=h M hQ
theorem zcn.gen {L:List (List Bool)} {b:CC} {K:KD} {s:DS} {Q:VM→Prop} (hQ:Q M) (h: ∀M1,Q M1→zcn F n0 L b K s M1):zcn F n0 L b K s M:=h M hQ
end
def ziX {α:Type} (i:Nat) (l:List α) (ok:α→Prop):Prop:= ∀x∈l.take i,ok x
theorem ziX.zero {α:Type} {l:List α} {ok:α→Prop}:ziX 0 l ok:=by simp[ziX]
theorem ziX.succ {α:Type} {i:Nat} {l:List α} {ok:α→Prop} (h:ziX i l ok) (hi:i<l.length) (h2:ok l[i]):ziX (i+1) l ok:=by
 intro x hx
 rw[List.take_succ_eq_append_getElem hi] at hx
 rcases List.mem_append.1 hx with hx|hx
 ·exact h x hx
 ·simp at hx;subst hx;exact h2
theorem ziX.all {α:Type} {l:List α} {ok:α→Prop} (h:ziX l.length l ok): ∀x∈l,ok x:=by
 intro x hx;exact h x (by simpa using hx)
section
variable {B M:VM} {j:Nat} {o:MO}
end
section
variable {B M:VM} {d:DV} {s:Nat} {rows:List (List DV)}
end
section
variable {B M:VM} {d:DV} {s:Nat} {rows:List (List DV)} {X:RnD} {fr:FrC}
theorem Frz.list {F:FuncId→Option zl} {M M2:VM} {f:DV} {l r:List DV} {d e:DV} {k kp:DV→VM→Prop} (hc:Conv M M M2) (hf:zG M2.next f) (hb: ∀x∈l++e::r,zG M2.next x) (hd:Frz M M2 d e) (h:zt F f (l++e::r) M2 k kp):zt F f (l++d::r) M k kp:=by
 refine zt.pre hc hf (by simp) (fun i x y hx hy=>⟨?_,hb y (List.mem_of_getElem? hy)⟩) h
 rcases Nat.lt_trichotomy i l.length with hi|hi|hi
 ·rw[List.getElem?_append_left hi] at hx hy
  rw[hx] at hy;cases hy;exact .refl _
 ·subst hi
  simp at hx hy
  subst hx;subst hy;exact hd
 ·rw[List.getElem?_append_right (by omega)] at hx hy
  obtain⟨m,hm⟩: ∃m,i - l.length=m+1:=⟨i - l.length - 1,by omega⟩
  rw[hm] at hx hy
  simp only[List.getElem?_cons_succ] at hx hy
  rw[hx] at hy;cases hy;exact .refl _
theorem Conv.del (M:VM) (j:Nat):Conv M M (M.del j):=⟨Nat.le_refl _,fun i=>by
 by_cases e:i=j
 ·subst e;exact .inr (.inl (by simp))
 ·exact .inl ⟨by simp[e],fun _=>rfl⟩⟩
theorem zt.frz {F:FuncId→Option zl} {f:DV} (l r:List DV) {j n cap sz:Nat} {op:Bool} {rs:List (List DV)} {k kp:DV→VM→Prop} (ho:M.obj j=some (.rows op sz rs)) (hn:n=rs.length) (hs: ∀r∈rs,r.length=sz) (hf:zG M.next f) (hb: ∀x∈l++ .lst sz rs::r,zG M.next x) (h:zt F f (l++ .lst sz rs::r) (M.del j) k kp):zt F f (l++ .ms j 0 n cap::r) M k kp:=
 Frz.list (.del M j) hf hb (.ms0 ho (by simp) hn hs) h
end
end
end Go.Ideal
namespace Go.Ideal.S
open Go Go.Ideal
structure Edge where
 f:Int
 a:Int
 t:Int
structure Gr where
 st:Int
 ac:Int
 es:List Edge
def eInt (n:Int):List DV:=[I n]
abbrev ints (l:List Int):DV:=.lst 1 (l.map eInt)
def zbl (e:Edge):List DV:=[I e.f,I e.a,I e.t]
def eGr (g:Gr):List DV:=[I g.st,I g.ac,.lst 3 (g.es.map zbl)]
@[simp] theorem t_Gr (g:Gr):zed 3 (eGr g)=some (eGr g):=by simp[eGr]
@[simp] theorem n_Gr (g:Gr):(eGr g).length=3:=by simp[eGr]
variable {n:Nat}
theorem l_map {α:Type} {f:α→List DV} {s:Nat} (h: ∀a,(f a).length=s) (l:List α): ∀r∈l.map f,r.length=s:=fun r hr=>by
 obtain⟨a,_,rfl⟩:=List.mem_map.1 hr;exact h a
theorem l_Int (a:Int):(eInt a).length=1:=by simp[eInt]
section
variable {ek:EK}
theorem wrapU {n:Int} (h0:0≤n) (h1:n<18446744073709551616):IntKind.u64.wrap n=n:=by
 show(if(false&&decide (n%(2^64:Int)≥(2^63:Int)))=true then n%(2^64:Int) - (2^64:Int) else n%(2^64:Int))=n
 simp only[Bool.false_and,Bool.false_eq_true,if_false]
 exact Int.emod_eq_of_lt h0 h1
theorem bin_shr_u (m n:Nat) (hn:n<64):binD .shr ek (.int .u64 (m:Int)) (.int .i64 (n:Int))=some (.int .u64 ((m >>> n:Nat):Int)):=by
 show Option.bind (if ltI (n:Int) 0 then none else some (Value.int .u64 ((m:Int).fdiv (2^(min (n:Int).toNat 64))))) dOf1=_
 rw[zcZ]
 simp only[show¬((n:Int)<0) by omega,decide_false,Bool.false_eq_true,if_false,Option.bind_some]
 rw[Int.toNat_natCast,Nat.min_eq_left (by omega)]
 show some (DV.int .u64 _)=_
 congr 2
 rw[Nat.shiftRight_eq_div_pow,Int.fdiv_eq_ediv_of_nonneg _ (by exact_mod_cast Nat.zero_le (2^n))]
 norm_cast
theorem bv_nat {m:Nat} (h:m<2^64):(BitVec.ofInt 64 (m:Int)).toNat=m:=by
 rw[BitVec.ofInt_natCast,BitVec.toNat_ofNat,Nat.mod_eq_of_lt h]
theorem bin_and_u {a b:Nat} (ha:a<2^64) (hb:b<2^64):binD .and ek (.int .u64 (a:Int)) (.int .u64 (b:Int))=some (.int .u64 ((a &&& b:Nat):Int)):=by
 show some (DV.int .u64 (IntKind.u64.wrap (((BitVec.ofInt 64 (a:Int) &&& BitVec.ofInt 64 (b:Int)).toNat:Nat):Int)))=_
 rw[BitVec.toNat_and,bv_nat ha,bv_nat hb,wrapU (by omega) (by have:=Nat.and_le_left (n:=a) (m:=b);omega)]
theorem bin_or_u {a b:Nat} (ha:a<2^64) (hb:b<2^64):binD .or ek (.int .u64 (a:Int)) (.int .u64 (b:Int))=some (.int .u64 ((a ||| b:Nat):Int)):=by
 show some (DV.int .u64 (IntKind.u64.wrap (((BitVec.ofInt 64 (a:Int) ||| BitVec.ofInt 64 (b:Int)).toNat:Nat):Int)))=_
 rw[BitVec.toNat_or,bv_nat ha,bv_nat hb,wrapU (by omega) (by have:=Nat.or_lt_two_pow ha hb;omega)]
theorem bin_eql_u (a b:Int):binD .eql ek (.int .u64 a) (.int .u64 b)=some (.bool (decide (a=b))):=by show some (DV.bool (eqI a b))=_;rw[eqI_dec]
theorem bin_shl_u (n:Nat) (hn:n<64):binD .shl ek (.int .u64 1) (.int .i64 (n:Int))=some (.int .u64 ((2^n:Nat):Int)):=by
 show Option.bind (if ltI (n:Int) 0 then none else some (Value.int .u64 (IntKind.u64.wrap (1*2^(min (n:Int).toNat 64))))) dOf1=_
 rw[zcZ]
 simp only[show¬((n:Int)<0) by omega,decide_false,Bool.false_eq_true,if_false,Option.bind_some]
 rw[Int.toNat_natCast,Nat.min_eq_left (by omega),Int.one_mul]
 have:(2^n:Nat)<2^64:=Nat.pow_lt_pow_right (by omega) hn
 have e:((2:Int)^n)=((2^n:Nat):Int):=by norm_cast
 rw[e]
 generalize (2^n:Nat)=q at*
 rw[wrapU (by omega) (by omega)]
 rfl
theorem bin_quo64 {n:Int} (h0:0≤n) (h1:n<64):binD .quo ek (.int .i64 n) (.int .i64 64)=some (.int .i64 0):=by
 show some (DV.int .i64 (zfY .i64 (n.tdiv 64)))=_
 rw[Int.tdiv_eq_ediv_of_nonneg h0,Int.ediv_eq_zero_of_lt h0 h1];rfl
theorem bin_rem64 {n:Int} (h0:0≤n) (h1:n<64):binD .rem ek (.int .i64 n) (.int .i64 64)=some (.int .i64 n):=by
 show some (DV.int .i64 (n.tmod 64))=_
 rw[Int.tmod_eq_emod_of_nonneg h0,Int.emod_eq_of_lt h0 h1]
end
end Go.Ideal.S
namespace Go.Ideal
section
variable {X:RnD} {fr:FrC} {s:DS} {M:VM} {d:Option (List Bool)} {r:List CI} {lo:Nat} {p:Prop} [Decidable p]
@[simp] theorem arrD_n (n sz:Nat) (k:IntKind) (i:Nat) (x:DV):arrD n sz (.int k (i:Int)) x=if i<n then offD (i*sz) x else none:=rfl
@[simp] theorem arrD_0 (n sz:Nat) (k:IntKind) (x:DV):arrD n sz (.int k 0) x=if 0<n then offD 0 x else none:=by
  show(if 0<n then offD (0*sz) x else none)=_;rw[Nat.zero_mul]
theorem zj (a c:CC): @Br X fr (some (.bool (decide p))) a c s M=if p then @Cd X fr a s M else @Cd X fr c s M:=by rw[ze];simp only[decide_eq_true_eq]
theorem zh (a c:CC): @Br X fr (some (.bool (!decide p))) a c s M=if p then @Cd X fr c s M else @Cd X fr a s M:=by
 rw[ze];by_cases h:p<;>simp[h]
theorem zi (op:COp): @Gd X fr (some (decide p)) d op lo r s M=if p then @Op X fr (⟨d,op,none,lo⟩::r) s M else @Op X fr r (z8 d (.tup []) s) M:=by rw[zc];simp only[decide_eq_true_eq]
theorem zf (op:COp): @Gd X fr (some (!decide p)) d op lo r s M=if p then @Op X fr r (z8 d (.tup []) s) M else @Op X fr (⟨d,op,none,lo⟩::r) s M:=by
 rw[zc];by_cases h:p<;>simp[h]
theorem zg {l:List CI} {bs:List Mo} (o:CI): @DrG X fr (some (decide p)) o l bs s M=if p then @DrG X fr (some true) o l bs s M else @DrG X fr (some false) o l bs s M:=by rw[za];simp only[decide_eq_true_eq]
theorem zb {l:List CI} {bs:List Mo} (o:CI): @DrG X fr (some (!decide p)) o l bs s M=if p then @DrG X fr (some false) o l bs s M else @DrG X fr (some true) o l bs s M:=by
 rw[za];by_cases h:p<;>simp[h]
end
section
variable {n0:Nat} {F:FuncId→Option zl}
end
end Go.Ideal
set_option maxRecDepth 10000
set_option maxHeartbeats 4000000
namespace Go.Ideal.S
open Go Go.Ideal Q Classical
attribute [local simp] decide_eq_true decide_eq_false
variable {M:VM} {k kp:DV→VM→Prop} {n0:Nat}
def bef (a b:Edge):Prop:=if a.f=b.f then(if a.a=b.a then a.t<b.t else a.a<b.a) else a.f<b.f
structure EdgeOk (g:Gr) (e:Edge):Prop where
 f0:0≤e.f
 f1:e.f<g.st
 t0:0≤e.t
 t1:e.t<g.st
 a0:0≤e.a
 a1:e.a<g.ac
def SrtTo (i:Nat) (l:List Edge):Prop:= ∀q (h:q+1<l.length),q+1<i→bef (l[q]'(by omega)) l[q+1]
structure zde (g:Gr):Prop where
 s1:1≤g.st
 s2:g.st≤60
 a1:0≤g.ac
 a2:g.ac≤40
 el:g.es.length≤400
 ok: ∀e∈g.es,EdgeOk g e
 srt:SrtTo g.es.length g.es
theorem SrtTo.succ {i:Nat} {l:List Edge} (h:SrtTo i l) (hi:i<l.length) (h2: ∀(h0:0<i),bef (l[i - 1]'(by omega)) l[i]):SrtTo (i+1) l:=by
 intro q hq hqi
 rcases Nat.lt_or_ge (q+1) i with h1|h1
 ·exact h q hq h1
 ·obtain rfl:i=q+1:=by omega
  exact h2 (by omega)
theorem zcA {B M:VM} {j:Nat} {o:MO} (h:SM B.next B M) (hj:j<B.next) (ho:B.obj j=some o):M.obj j=some o:=by
 show(M.get j).map _=_;rw[h j hj];exact ho
attribute [local simp] c_n f_n r_n_1 r_n_2 r_n_3 r_n_4 r_n_5 r_n_6 c_h f_h r_h_1 r_h_2 r_h_3 r_h_4 r_h_5 r_h_6 r_h_7 r_h_8 r_h_9 r_h_10 r_h_11 r_h_13
theorem before_ok (a b:Edge) (hk:k (.bool (decide (bef a b))) M):zt F (.fn n_n [] []) [.agg (zbl a),.agg (zbl b)] M k kp:=by
 apply zt.back
 refine .fn zd6 rfl (by simp[f_n]) ?_
 unfold bef at hk
 repeat' (first| (simp(disch:=((try simp only[new_next,put_next,del_next]);omega)) [zbl];first|done| ((first|simp only[zj,zh,zi,zf,zg,zb]|simp only[ze,zc]|rw[za]);split)|skip)| ((first|simp only[zj,zh,zi,zf,zg,zb]|simp only[ze,zc]|rw[za]);split))
 all_goals (refine Back.plain (by simp) (by repeat' (first|assumption|exact SM_refl _ _|apply SM_put|apply SM_new|apply SM_del| ((try simp only[new_next,put_next,del_next]);omega))) ?_;simp_all)
theorem good_ok (g:Gr) (hk: ∀b:Bool,(b=true↔zde g)→k (.bool b) M):zt F (.fn n_h [] []) [.agg (eGr g)] M k kp:=by
 apply zt.back
 refine .fn zeO rfl (by simp[f_h]) ?_
 by_cases hc:g.st<1∨60<g.st∨g.ac<0∨40<g.ac∨400<(g.es.length:Int)
 ·have hk:=hk false ⟨fun h=>by(cases h),fun h=>by(have:=h.s1;have:=h.s2;have:=h.a1;have:=h.a2;have:=h.el;omega)⟩
  repeat' (first| (simp(disch:=((try simp only[new_next,put_next,del_next]);omega)) [eGr];first|done| ((first|simp only[zj,zh,zi,zf,zg,zb]|simp only[ze,zc]|rw[za]);split)|skip)| ((first|simp only[zj,zh,zi,zf,zg,zb]|simp only[ze,zc]|rw[za]);split))
  all_goals first|omega|exact Back.plain (by simp) (by repeat' (first|assumption|exact SM_refl _ _|apply SM_put|apply SM_new|apply SM_del| ((try simp only[new_next,put_next,del_next]);omega))) hk
 have h1: ¬g.st<1:=by omega
 have h2: ¬60<g.st:=by omega
 have h3: ¬g.ac<0:=by omega
 have h4: ¬40<g.ac:=by omega
 have h5: ¬400<(g.es.length:Int):=by omega
 clear hc
 obtain⟨M1,hM1⟩: ∃M1,M1=M.new (.rows false 3 [[I g.st,I g.ac,.lst 3 (g.es.map zbl)]]):=⟨_,rfl⟩
 have ho:M1.obj M.next=some (.rows false 3 [[I g.st,I g.ac,.lst 3 (g.es.map zbl)]]):=by simp[hM1]
 have hs:SM M.next M M1:=by simp[hM1]
 have hn:M.next<M1.next:=by simp[hM1]
 have hM:=hM1.symm
 clear hM1
 repeat' (first| (simp(disch:=((try simp only[new_next,put_next,del_next]);omega)) [eGr,h1,h2,h3,h4,h5,hM,ho];first|done| ((first|simp only[zj,zh,zi,zf,zg,zb]|simp only[ze,zc]|rw[za]);split)|skip)| ((first|simp only[zj,zh,zi,zf,zg,zb]|simp only[ze,zc]|rw[za]);split))
 clear hM
 refine .for (σ:=VM) c_h_12.eq_1 (fun i _=>[(3,I i)]) (fun y=>y) (fun i y=>(SM M1.next M1 y∧M1.next≤y.next)∧ziX i g.es (EdgeOk g)∧SrtTo i g.es) g.es.length M1 (by simp) rfl ⟨⟨SM_refl _ _,Nat.le_refl _⟩,.zero,fun q h hq=>by omega⟩ (fun i y hi hP again=> ?_) (fun y hP=> ?_)
 ·obtain⟨⟨hy,hyn⟩,hA,hS⟩:=hP
  have ho':=zcA hy hn ho
  have hsy:SM M.next M y:=fun j hj=>(hy j (by omega)).trans (hs j hj)
  by_cases hc:EdgeOk g g.es[i]
  ·have q1:=hc.f0;have q2:=hc.f1;have q3:=hc.t0;have q4:=hc.t1;have q5:=hc.a0;have q6:=hc.a1
   have hA2:=hA.succ hi hc
   rcases Nat.eq_zero_or_pos i with rfl|h0
   ·have again:=fun M' h=>again M' ⟨h,hA2,hS.succ hi (by omega)⟩
    simp at again
    clear hk
    repeat' (first| (simp(disch:=((try simp only[new_next,put_next,del_next]);omega)) [ho',hi,zbl,z9];first|done| ((first|simp only[zj,zh,zi,zf,zg,zb]|simp only[ze,zc]|rw[za]);split)|skip)| ((first|simp only[zj,zh,zi,zf,zg,zb]|simp only[ze,zc]|rw[za]);split))
    exact again _ (by repeat' (first|assumption|exact SM_refl _ _|apply SM_put|apply SM_new|apply SM_del| ((try simp only[new_next,put_next,del_next]);omega))) (by simp;omega)
   ·obtain⟨m,hm1⟩: ∃m,i - 1=m:=⟨_,rfl⟩
    have hm:m<g.es.length:=by omega
    have em:(i:Int) - 1=(m:Int):=by omega
    by_cases hb:bef g.es[m] g.es[i]
    ·have again:=fun M' h=>again M' ⟨h,hA2,hS.succ hi (fun _=>by simpa only[hm1] using hb)⟩
     simp at again
     clear hk
     repeat' (first| (simp(disch:=((try simp only[new_next,put_next,del_next]);omega)) [ho',hi,hm,em,zbl,z9];first|done| ((first|simp only[zj,zh,zi,zf,zg,zb]|simp only[ze,zc]|rw[za]);split)|skip)| ((first|simp only[zj,zh,zi,zf,zg,zb]|simp only[ze,zc]|rw[za]);split))
     refine before_ok g.es[m] g.es[i] ?_
     repeat' (first| (simp(disch:=((try simp only[new_next,put_next,del_next]);omega)) [hb,z9];first|done| ((first|simp only[zj,zh,zi,zf,zg,zb]|simp only[ze,zc]|rw[za]);split)|skip)| ((first|simp only[zj,zh,zi,zf,zg,zb]|simp only[ze,zc]|rw[za]);split))
     exact again _ (by repeat' (first|assumption|exact SM_refl _ _|apply SM_put|apply SM_new|apply SM_del| ((try simp only[new_next,put_next,del_next]);omega))) (by simp;omega)
    ·have hk:=hk false ⟨fun h=>by(cases h),fun h=>absurd (h.srt m (by omega) (by omega)) (fun q=>hb (by simpa only[show m+1=i by omega] using q))⟩
     clear again
     repeat' (first| (simp(disch:=((try simp only[new_next,put_next,del_next]);omega)) [ho',hi,hm,em,zbl,z9];first|done| ((first|simp only[zj,zh,zi,zf,zg,zb]|simp only[ze,zc]|rw[za]);split)|skip)| ((first|simp only[zj,zh,zi,zf,zg,zb]|simp only[ze,zc]|rw[za]);split))
     refine before_ok g.es[m] g.es[i] ?_
     repeat' (first| (simp(disch:=((try simp only[new_next,put_next,del_next]);omega)) [hb,z9];first|done| ((first|simp only[zj,zh,zi,zf,zg,zb]|simp only[ze,zc]|rw[za]);split)|skip)| ((first|simp only[zj,zh,zi,zf,zg,zb]|simp only[ze,zc]|rw[za]);split))
     exact Back.plain (by simp) (by repeat' (first|assumption|exact SM_refl _ _|apply SM_put|apply SM_new|apply SM_del| ((try simp only[new_next,put_next,del_next]);omega))) hk
  ·have hk:=hk false ⟨fun h=>by(cases h),fun h=>absurd (h.ok _ (List.getElem_mem hi)) hc⟩
   have hc':g.es[i].f<0∨g.st≤g.es[i].f∨g.es[i].t<0∨g.st≤g.es[i].t∨g.es[i].a<0∨g.ac≤g.es[i].a:=Classical.byContradiction fun h=>hc ⟨by omega,by omega,by omega,by omega,by omega,by omega⟩
   clear again hc
   repeat' (first| (simp(disch:=((try simp only[new_next,put_next,del_next]);omega)) [ho',hi,zbl];first|done| ((first|simp only[zj,zh,zi,zf,zg,zb]|simp only[ze,zc]|rw[za]);split)|skip)| ((first|simp only[zj,zh,zi,zf,zg,zb]|simp only[ze,zc]|rw[za]);split))
   all_goals first|omega|exact Back.plain (by simp) (by repeat' (first|assumption|exact SM_refl _ _|apply SM_put|apply SM_new|apply SM_del| ((try simp only[new_next,put_next,del_next]);omega))) hk
 ·obtain⟨⟨hy,hyn⟩,hA,hS⟩:=hP
  have ho':=zcA hy hn ho
  have hsy:SM M.next M y:=fun j hj=>(hy j (by omega)).trans (hs j hj)
  have hk:=hk true ⟨fun _=>⟨by omega,by omega,by omega,by omega,by omega,hA.all,hS⟩,fun _=>rfl⟩
  repeat' (first| (simp(disch:=((try simp only[new_next,put_next,del_next]);omega)) [ho'];first|done| ((first|simp only[zj,zh,zi,zf,zg,zb]|simp only[ze,zc]|rw[za]);split)|skip)| ((first|simp only[zj,zh,zi,zf,zg,zb]|simp only[ze,zc]|rw[za]);split))
  exact Back.plain (by simp) (by repeat' (first|assumption|exact SM_refl _ _|apply SM_put|apply SM_new|apply SM_del| ((try simp only[new_next,put_next,del_next]);omega))) hk
end Go.Ideal.S
namespace Go.Ideal.S
open Go Go.Ideal Q Classical
attribute [local simp] decide_eq_true decide_eq_false z9
variable {M:VM} {k kp:DV→VM→Prop} {n0:Nat}
def eAt (es:List Edge) (x:Int):Edge:=es[x.toNat]?.getD ⟨0,0,0⟩
end Go.Ideal.S
namespace Go.Ideal.S
open Go Go.Ideal Q Classical
attribute [local simp] decide_eq_true decide_eq_false z9
variable {M:VM} {k kp:DV→VM→Prop} {n0:Nat}
end Go.Ideal.S
namespace Go.Ideal.S
open Go Go.Ideal Q Classical
attribute [local simp] decide_eq_true decide_eq_false z9
variable {M:VM} {k kp:DV→VM→Prop} {n0:Nat}
end Go.Ideal.S
namespace Go.Ideal.S
open Go Go.Ideal Q Classical
attribute [local simp] decide_eq_true decide_eq_false z9
variable {M:VM} {k kp:DV→VM→Prop} {n0:Nat}
attribute [local simp] c_p f_p r_p_1 r_p_2 r_p_3 r_p_4 r_p_5 r_p_6 r_p_7 r_p_8 r_p_10 c_A f_A r_A_1 r_A_2 c_r f_r r_r_1 r_r_2 r_r_3 r_r_4 r_r_5 r_r_6 r_r_7 r_r_8 r_r_9 r_r_11 c_v f_v r_v_1 r_v_2 r_v_3 r_v_4 c_x f_x r_x_1 r_x_2 c_z f_z r_z_1
def orR:List Int→Int
 | []=>0
 |x::r=>if x=0 then orR r else x
theorem or_ok (l:List Int) (h2:l.length≤1000000) (hk:k (I (orR l)) M):zt F (.fn n_p [] []) [ints l] M k kp:=by
 apply zt.back
 refine .fn h_cmp_Or_int_ rfl (by simp[f_p]) ?_
 repeat' (first| (simp(disch:=((try simp only[new_next,put_next,del_next]);omega));first|done| ((first|simp only[zj,zh,zi,zf,zg,zb]|simp only[ze,zc]|rw[za]);split)|skip)| ((first|simp only[zj,zh,zi,zf,zg,zb]|simp only[ze,zc]|rw[za]);split))
 refine .for (σ:=Unit) c_p_9.eq_1 (fun i _=>[(8,I i)]) (fun _=>M) (fun i _=>orR (l.drop i)=orR l) l.length () (by simp) rfl (by simp) (fun i _ hi hP again=> ?_) (fun _ hP=> ?_)
 ·rw[List.drop_eq_getElem_cons hi,orR] at hP
  by_cases h0:l[i]=0
  ·rw[if_pos h0] at hP
   have again:=again () hP
   simp at again
   clear hk
   repeat' (first| (simp(disch:=((try simp only[new_next,put_next,del_next]);omega)) [hi,eInt,h0];first|done| ((first|simp only[zj,zh,zi,zf,zg,zb]|simp only[ze,zc]|rw[za]);split)|skip)| ((first|simp only[zj,zh,zi,zf,zg,zb]|simp only[ze,zc]|rw[za]);split))
   exact again
  ·rw[if_neg h0] at hP
   rw[←hP] at hk
   clear again hP
   repeat' (first| (simp(disch:=((try simp only[new_next,put_next,del_next]);omega)) [hi,eInt,h0];first|done| ((first|simp only[zj,zh,zi,zf,zg,zb]|simp only[ze,zc]|rw[za]);split)|skip)| ((first|simp only[zj,zh,zi,zf,zg,zb]|simp only[ze,zc]|rw[za]);split))
   exact Back.plain (by simp) (by repeat' (first|assumption|exact SM_refl _ _|apply SM_put|apply SM_new|apply SM_del| ((try simp only[new_next,put_next,del_next]);omega))) hk
 ·rw[List.drop_length,orR] at hP
  rw[←hP] at hk
  repeat' (first| (simp(disch:=((try simp only[new_next,put_next,del_next]);omega));first|done| ((first|simp only[zj,zh,zi,zf,zg,zb]|simp only[ze,zc]|rw[za]);split)|skip)| ((first|simp only[zj,zh,zi,zf,zg,zb]|simp only[ze,zc]|rw[za]);split))
  exact Back.plain (by simp) (by repeat' (first|assumption|exact SM_refl _ _|apply SM_put|apply SM_new|apply SM_del| ((try simp only[new_next,put_next,del_next]);omega))) hk
def ordR (a b:Edge):Int:=orR [a.f - b.f,a.a - b.a,a.t - b.t]
theorem ordR_bef (a b:Edge):0≤ordR a b↔ ¬bef a b:=by
 have e1:(a.f - b.f=0)↔a.f=b.f:=by omega
 have e2:(a.a - b.a=0)↔a.a=b.a:=by omega
 have e3:(a.t - b.t=0)↔a.t=b.t:=by omega
 unfold ordR bef
 simp only[orR,e1,e2,e3]
 repeat' split
 all_goals omega
structure Small (e:Edge):Prop where
 f0: -1000≤e.f
 f1:e.f≤1000
 a0: -1000≤e.a
 a1:e.a≤1000
 t0: -1000≤e.t
 t1:e.t≤1000
theorem order_ok (a b:Edge) (ha:Small a) (hb:Small b) (hk:k (I (ordR a b)) M):zt F (.fn n_A [] []) [.agg (zbl a),.agg (zbl b)] M k kp:=by
 obtain⟨p1,p2,p3,p4,p5,p6⟩:=ha
 obtain⟨q1,q2,q3,q4,q5,q6⟩:=hb
 apply zt.back
 refine .fn h_jam_order rfl (by simp[f_A]) ?_
 repeat' (first| (simp(disch:=((try simp only[new_next,put_next,del_next]);omega)) [zbl,zb3];first|done| ((first|simp only[zj,zh,zi,zf,zg,zb]|simp only[ze,zc]|rw[za]);split)|skip)| ((first|simp only[zj,zh,zi,zf,zg,zb]|simp only[ze,zc]|rw[za]);split))
 refine .frz [] [] (rs:=[a.f - b.f,a.a - b.a,a.t - b.t].map eInt) (by simp[eInt];rfl) (by simp) (l_map l_Int _) (by simp) (fun x hx=> ?_) ?_
 ·simp at hx;subst hx;exact .lst (by simp[eInt])
 refine or_ok _ (by simp) ?_
 repeat' (first| (simp(disch:=((try simp only[new_next,put_next,del_next]);omega));first|done| ((first|simp only[zj,zh,zi,zf,zg,zb]|simp only[ze,zc]|rw[za]);split)|skip)| ((first|simp only[zj,zh,zi,zf,zg,zb]|simp only[ze,zc]|rw[za]);split))
 exact Back.plain (by simp) (by repeat' (first|assumption|exact SM_refl _ _|apply SM_put|apply SM_new|apply SM_del| ((try simp only[new_next,put_next,del_next]);omega))) hk
theorem fine_ok (g:Gr) (hl:g.es.length≤1000000) (hk: ∀b:Bool,(b=true↔zde g)→k (.bool b) M):zt F (.fn n_r [] []) [.agg (eGr g)] M k kp:=by
 apply zt.back
 refine .fn h_jam_fine rfl (by simp[f_r]) ?_
 by_cases hc:g.st<1∨60<g.st∨g.ac<0∨40<g.ac∨400<(g.es.length:Int)
 ·have hk:=hk false ⟨fun h=>by(cases h),fun h=>by(have:=h.s1;have:=h.s2;have:=h.a1;have:=h.a2;have:=h.el;omega)⟩
  repeat' (first| (simp(disch:=((try simp only[new_next,put_next,del_next]);omega)) [eGr];first|done| ((first|simp only[zj,zh,zi,zf,zg,zb]|simp only[ze,zc]|rw[za]);split)|skip)| ((first|simp only[zj,zh,zi,zf,zg,zb]|simp only[ze,zc]|rw[za]);split))
  all_goals first|omega|exact Back.plain (by simp) (by repeat' (first|assumption|exact SM_refl _ _|apply SM_put|apply SM_new|apply SM_del| ((try simp only[new_next,put_next,del_next]);omega))) hk
 have h1: ¬g.st<1:=by omega
 have h2: ¬60<g.st:=by omega
 have h3: ¬g.ac<0:=by omega
 have h4: ¬40<g.ac:=by omega
 have h5: ¬400<(g.es.length:Int):=by omega
 clear hc
 obtain⟨M1,hM1⟩: ∃M1,M1=M.new (.rows false 3 [[I g.st,I g.ac,.lst 3 (g.es.map zbl)]]):=⟨_,rfl⟩
 have ho:M1.obj M.next=some (.rows false 3 [[I g.st,I g.ac,.lst 3 (g.es.map zbl)]]):=by simp[hM1]
 have hs:SM M.next M M1:=by simp[hM1]
 have hn:M.next<M1.next:=by simp[hM1]
 have hM:=hM1.symm
 clear hM1
 repeat' (first| (simp(disch:=((try simp only[new_next,put_next,del_next]);omega)) [eGr,h1,h2,h3,h4,h5,hM,ho];first|done| ((first|simp only[zj,zh,zi,zf,zg,zb]|simp only[ze,zc]|rw[za]);split)|skip)| ((first|simp only[zj,zh,zi,zf,zg,zb]|simp only[ze,zc]|rw[za]);split))
 clear hM
 refine .for (σ:=VM) c_r_10.eq_1 (fun i _=>[(32,I i)]) (fun y=>y) (fun i y=>(SM M1.next M1 y∧M1.next≤y.next)∧ziX i g.es (EdgeOk g)∧SrtTo i g.es) g.es.length M1 (by simp) rfl ⟨⟨SM_refl _ _,Nat.le_refl _⟩,.zero,fun q h hq=>by omega⟩ (fun i y hi hP again=> ?_) (fun y hP=> ?_)
 ·obtain⟨⟨hy,hyn⟩,hA,hS⟩:=hP
  have ho':=zcA hy hn ho
  have hsy:SM M.next M y:=fun j hj=>(hy j (by omega)).trans (hs j hj)
  by_cases hc:EdgeOk g g.es[i]
  ·have q1:=hc.f0;have q2:=hc.f1;have q3:=hc.t0;have q4:=hc.t1;have q5:=hc.a0;have q6:=hc.a1
   have hA2:=hA.succ hi hc
   rcases Nat.eq_zero_or_pos i with rfl|h0
   ·have again:=fun M' h=>again M' ⟨h,hA2,hS.succ hi (by omega)⟩
    simp at again
    clear hk
    repeat' (first| (simp(disch:=((try simp only[new_next,put_next,del_next]);omega)) [ho',hi,zbl];first|done| ((first|simp only[zj,zh,zi,zf,zg,zb]|simp only[ze,zc]|rw[za]);split)|skip)| ((first|simp only[zj,zh,zi,zf,zg,zb]|simp only[ze,zc]|rw[za]);split))
    exact again _ (by repeat' (first|assumption|exact SM_refl _ _|apply SM_put|apply SM_new|apply SM_del| ((try simp only[new_next,put_next,del_next]);omega))) (by simp;omega)
   ·obtain⟨m,hm1⟩: ∃m,i - 1=m:=⟨_,rfl⟩
    have hm:m<g.es.length:=by omega
    have em:(i:Int) - 1=(m:Int):=by omega
    have hme:=hA g.es[m] (List.mem_take_iff_getElem.2 ⟨m,by omega,rfl⟩)
    have hsm1:Small g.es[m]:=by obtain⟨_,_,_,_,_,_⟩:=hme;constructor<;>omega
    have hsm2:Small g.es[i]:=by constructor<;>omega
    have hob:=ordR_bef g.es[m] g.es[i]
    by_cases hb:bef g.es[m] g.es[i]
    ·have again:=fun M' h=>again M' ⟨h,hA2,hS.succ hi (fun _=>by simpa only[hm1] using hb)⟩
     have hob2:ordR g.es[m] g.es[i]<0:=Int.not_le.1 fun h=>hob.1 h hb
     simp at again
     clear hk
     repeat' (first| (simp(disch:=((try simp only[new_next,put_next,del_next]);omega)) [ho',hi,hm,em,zbl];first|done| ((first|simp only[zj,zh,zi,zf,zg,zb]|simp only[ze,zc]|rw[za]);split)|skip)| ((first|simp only[zj,zh,zi,zf,zg,zb]|simp only[ze,zc]|rw[za]);split))
     refine order_ok g.es[m] g.es[i] hsm1 hsm2 ?_
     repeat' (first| (simp(disch:=((try simp only[new_next,put_next,del_next]);omega));first|done| ((first|simp only[zj,zh,zi,zf,zg,zb]|simp only[ze,zc]|rw[za]);split)|skip)| ((first|simp only[zj,zh,zi,zf,zg,zb]|simp only[ze,zc]|rw[za]);split))
     exact again _ (by repeat' (first|assumption|exact SM_refl _ _|apply SM_put|apply SM_new|apply SM_del| ((try simp only[new_next,put_next,del_next]);omega))) (by simp;omega)
    ·have hk:=hk false ⟨fun h=>by(cases h),fun h=>absurd (h.srt m (by omega) (by omega)) (fun q=>hb (by simpa only[show m+1=i by omega] using q))⟩
     have hob2:=hob.2 hb
     clear again
     repeat' (first| (simp(disch:=((try simp only[new_next,put_next,del_next]);omega)) [ho',hi,hm,em,zbl];first|done| ((first|simp only[zj,zh,zi,zf,zg,zb]|simp only[ze,zc]|rw[za]);split)|skip)| ((first|simp only[zj,zh,zi,zf,zg,zb]|simp only[ze,zc]|rw[za]);split))
     refine order_ok g.es[m] g.es[i] hsm1 hsm2 ?_
     repeat' (first| (simp(disch:=((try simp only[new_next,put_next,del_next]);omega));first|done| ((first|simp only[zj,zh,zi,zf,zg,zb]|simp only[ze,zc]|rw[za]);split)|skip)| ((first|simp only[zj,zh,zi,zf,zg,zb]|simp only[ze,zc]|rw[za]);split))
     exact Back.plain (by simp) (by repeat' (first|assumption|exact SM_refl _ _|apply SM_put|apply SM_new|apply SM_del| ((try simp only[new_next,put_next,del_next]);omega))) hk
  ·have hk:=hk false ⟨fun h=>by(cases h),fun h=>absurd (h.ok _ (List.getElem_mem hi)) hc⟩
   have hc':g.es[i].f<0∨g.st≤g.es[i].f∨g.es[i].t<0∨g.st≤g.es[i].t∨g.es[i].a<0∨g.ac≤g.es[i].a:=Classical.byContradiction fun h=>hc ⟨by omega,by omega,by omega,by omega,by omega,by omega⟩
   clear again hc
   repeat' (first| (simp(disch:=((try simp only[new_next,put_next,del_next]);omega)) [ho',hi,zbl];first|done| ((first|simp only[zj,zh,zi,zf,zg,zb]|simp only[ze,zc]|rw[za]);split)|skip)| ((first|simp only[zj,zh,zi,zf,zg,zb]|simp only[ze,zc]|rw[za]);split))
   all_goals first|omega|exact Back.plain (by simp) (by repeat' (first|assumption|exact SM_refl _ _|apply SM_put|apply SM_new|apply SM_del| ((try simp only[new_next,put_next,del_next]);omega))) hk
 ·obtain⟨⟨hy,hyn⟩,hA,hS⟩:=hP
  have ho':=zcA hy hn ho
  have hsy:SM M.next M y:=fun j hj=>(hy j (by omega)).trans (hs j hj)
  have hk:=hk true ⟨fun _=>⟨by omega,by omega,by omega,by omega,by omega,hA.all,hS⟩,fun _=>rfl⟩
  repeat' (first| (simp(disch:=((try simp only[new_next,put_next,del_next]);omega)) [ho'];first|done| ((first|simp only[zj,zh,zi,zf,zg,zb]|simp only[ze,zc]|rw[za]);split)|skip)| ((first|simp only[zj,zh,zi,zf,zg,zb]|simp only[ze,zc]|rw[za]);split))
  exact Back.plain (by simp) (by repeat' (first|assumption|exact SM_refl _ _|apply SM_put|apply SM_new|apply SM_del| ((try simp only[new_next,put_next,del_next]);omega))) hk
abbrev setD (m:Nat):DV:=.agg [.int .u64 (m:Int)]
abbrev setO (m:Nat):MO:=.rows false 1 [[.int .u64 (m:Int)]]
theorem has_ok (m n:Nat) (hm:m<2^64) (hn:n<64) (hk:k (.bool (m.testBit n)) M):zt F (.fn n_x [] []) [setD m,I n] M k kp:=by
 apply zt.back
 refine .fn h_jam_set_has rfl (by simp[f_x]) ?_
 have h1:=bin_quo64 (ek:=.other) (n:=(n:Int)) (by omega) (by omega)
 have h2:=bin_rem64 (ek:=.other) (n:=(n:Int)) (by omega) (by omega)
 have h3:=bin_shr_u (ek:=.other) m n hn
 have hb:m >>> n<2^64:=Nat.lt_of_le_of_lt (Nat.shiftRight_le m n) hm
 have h4:binD .and .other (.int .u64 ((m >>> n:Nat):Int)) (.int .u64 1)=some (.int .u64 ((m >>> n &&& 1:Nat):Int)):=bin_and_u hb (show 1<2^64 by omega)
 have h5:=bin_eql_u (ek:=.other) ((m >>> n &&& 1:Nat):Int) 1
 have e:decide ((((m >>> n) &&& 1:Nat):Int)=1)=m.testBit n:=by
  rw[Nat.testBit_eq_decide_div_mod_eq,Nat.and_one_is_mod,Nat.shiftRight_eq_div_pow]
  generalize m / 2^n=q
  exact decide_eq_decide.2 (by omega)
 rw[e] at h5
 clear e
 generalize m >>> n &&& 1=q2 at*
 generalize m >>> n=q1 at*
 repeat' (first| (simp(disch:=((try simp only[new_next,put_next,del_next]);omega)) [h1,h2,h3,h4,h5];first|done| ((first|simp only[zj,zh,zi,zf,zg,zb]|simp only[ze,zc]|rw[za]);split)|skip)| ((first|simp only[zj,zh,zi,zf,zg,zb]|simp only[ze,zc]|rw[za]);split))
 exact Back.plain (by simp) (by repeat' (first|assumption|exact SM_refl _ _|apply SM_put|apply SM_new|apply SM_del| ((try simp only[new_next,put_next,del_next]);omega))) hk
theorem put_ok (m n j:Nat) (hm:m<2^64) (hn:n<64) (ho:M.obj j=some (setO m)) (hk:k (.tup []) (M.put j (setO (m ||| 2^n)))):zt F (.fn n_z [] []) [.ptr j 0 0,I n] M k kp:=by
 refine .fn ziR rfl (by simp[f_z]) ?_
 have h1:=bin_quo64 (ek:=.other) (n:=(n:Int)) (by omega) (by omega)
 have h2:=bin_rem64 (ek:=.other) (n:=(n:Int)) (by omega) (by omega)
 have h3:=bin_shl_u (ek:=.other) n hn
 have hb:2^n<2^64:=Nat.pow_lt_pow_right (by omega) hn
 have h4:=bin_or_u (ek:=.other) hm hb
 generalize m ||| 2^n=q2 at*
 generalize 2^n=q1 at*
 repeat' (first| (simp(disch:=((try simp only[new_next,put_next,del_next]);omega)) [h1,h2,h3,h4,ho];first|done| ((first|simp only[zj,zh,zi,zf,zg,zb]|simp only[ze,zc]|rw[za]);split)|skip)| ((first|simp only[zj,zh,zi,zf,zg,zb]|simp only[ze,zc]|rw[za]);split))
 exact hk
end Go.Ideal.S
namespace Go.Ideal.S
open Go Go.Ideal Q Classical
attribute [local simp] decide_eq_true decide_eq_false z9
variable {M:VM} {k kp:DV→VM→Prop} {n0:Nat}
attribute [local simp] c_v f_v r_v_1 r_v_2 r_v_3 r_v_4 c_q f_q r_q_1 r_q_2 r_q_3 r_q_4
theorem jcheck_ok (g:Gr) (hl:g.es.length≤1000000) (hk:k (I (if zde g then 0 else 2)) M):zt F (.fn n_v [] []) [.agg (eGr g)] M k kp:=by
 apply zt.back
 refine .fn h_jam_Check rfl (by simp[f_v]) ?_
 repeat' (first| (simp(disch:=((try simp only[new_next,put_next,del_next]);omega)) [eGr];first|done| ((first|simp only[zj,zh,zi,zf,zg,zb]|simp only[ze,zc]|rw[za]);split)|skip)| ((first|simp only[zj,zh,zi,zf,zg,zb]|simp only[ze,zc]|rw[za]);split))
 refine fine_ok g hl fun b hb=> ?_
 cases b with
 |false=>
  rw[if_neg (fun h=>by have:=hb.2 h;cases this)] at hk
  repeat' (first| (simp(disch:=((try simp only[new_next,put_next,del_next]);omega)) [eGr];first|done| ((first|simp only[zj,zh,zi,zf,zg,zb]|simp only[ze,zc]|rw[za]);split)|skip)| ((first|simp only[zj,zh,zi,zf,zg,zb]|simp only[ze,zc]|rw[za]);split))
  exact Back.plain (by simp) (by repeat' (first|assumption|exact SM_refl _ _|apply SM_put|apply SM_new|apply SM_del| ((try simp only[new_next,put_next,del_next]);omega))) hk
 |true=>
  rw[if_pos (hb.1 rfl)] at hk
  repeat' (first| (simp(disch:=((try simp only[new_next,put_next,del_next]);omega)) [eGr];first|done| ((first|simp only[zj,zh,zi,zf,zg,zb]|simp only[ze,zc]|rw[za]);split)|skip)| ((first|simp only[zj,zh,zi,zf,zg,zb]|simp only[ze,zc]|rw[za]);split))
  exact Back.plain (by simp) (by repeat' (first|assumption|exact SM_refl _ _|apply SM_put|apply SM_new|apply SM_del| ((try simp only[new_next,put_next,del_next]);omega))) hk
theorem rcheck_ok (g:Gr) (hk:k (I (if zde g then 0 else 2)) M):zt F (.fn n_q [] []) [.agg (eGr g)] M k kp:=by
 apply zt.back
 refine .fn zeq rfl (by simp[f_q]) ?_
 repeat' (first| (simp(disch:=((try simp only[new_next,put_next,del_next]);omega)) [eGr];first|done| ((first|simp only[zj,zh,zi,zf,zg,zb]|simp only[ze,zc]|rw[za]);split)|skip)| ((first|simp only[zj,zh,zi,zf,zg,zb]|simp only[ze,zc]|rw[za]);split))
 refine good_ok g fun b hb=> ?_
 cases b with
 |false=>
  rw[if_neg (fun h=>by have:=hb.2 h;cases this)] at hk
  repeat' (first| (simp(disch:=((try simp only[new_next,put_next,del_next]);omega)) [eGr];first|done| ((first|simp only[zj,zh,zi,zf,zg,zb]|simp only[ze,zc]|rw[za]);split)|skip)| ((first|simp only[zj,zh,zi,zf,zg,zb]|simp only[ze,zc]|rw[za]);split))
  exact Back.plain (by simp) (by repeat' (first|assumption|exact SM_refl _ _|apply SM_put|apply SM_new|apply SM_del| ((try simp only[new_next,put_next,del_next]);omega))) hk
 |true=>
  rw[if_pos (hb.1 rfl)] at hk
  repeat' (first| (simp(disch:=((try simp only[new_next,put_next,del_next]);omega)) [eGr];first|done| ((first|simp only[zj,zh,zi,zf,zg,zb]|simp only[ze,zc]|rw[za]);split)|skip)| ((first|simp only[zj,zh,zi,zf,zg,zb]|simp only[ze,zc]|rw[za]);split))
  exact Back.plain (by simp) (by repeat' (first|assumption|exact SM_refl _ _|apply SM_put|apply SM_new|apply SM_del| ((try simp only[new_next,put_next,del_next]);omega))) hk
end Go.Ideal.S
namespace Go.Ideal.S
open Go Go.Ideal Q Classical
attribute [local simp] decide_eq_true decide_eq_false z9
variable {M:VM} {k kp:DV→VM→Prop} {n0:Nat}
def bitsL (f:Int→Int) (l:List Int) (m:Nat):Nat:=l.foldl (fun m x=>m ||| 2^(f x).toNat) m
def bitsF (g:Gr) (l:List Int):Nat:=bitsL (fun x=>(eAt g.es x).f) l 0
end Go.Ideal.S
namespace Go.Ideal.S
open Go Go.Ideal Q Classical
attribute [local simp] decide_eq_true decide_eq_false z9
variable {M:VM} {k kp:DV→VM→Prop} {n0:Nat}
end Go.Ideal.S
namespace Go.Ideal
noncomputable section
variable {F:FuncId→Option zl} {n0:Nat}
def AsK (F:FuncId→Option zl) (n l:Nat) (rc:RC) (k:DV→VM→Prop):KD:=⟨fun s M=>ofD (M.obj l) fun o=>match o with
    |.loop .ready pend sl rc'=>wp (rD F n) rc.b (finKD l k) s (M.put l (.loop .busy pend sl rc'))
    |_=>False,fun _ _ _=>False,fun _ _=>False,fun _ _ _=>False⟩
theorem zt.round {l:Nat} {args:List DV} {M:VM} {k kp:DV→VM→Prop} {st:LoopState} {pend:Option CC} {sl:DS} {rc:RC} {s:DS} (ho:M.obj l=some (.loop st pend sl rc)) (hs:setSD rc.ps args (z6 rc.L sl)=some s) (h: @Cd (rD F M.next) (.base (AsK F M.next l rc k)) rc.as s M):zt F (.yld l) args M k kp:=
 .yield ho (by unfold wRound;rw[hs];exact h)
theorem AsK_nrm {n l:Nat} {rc rc':RC} {k:DV→VM→Prop} {s sl:DS} {M:VM} {pend:Option CC} (ho:M.obj l=some (.loop .ready pend sl rc')) (h: @Cd (rD F n) (.base (finKD l k)) rc.b s (M.put l (.loop .busy pend sl rc'))):(AsK F n l rc k).nrm s M:=by
 show ofD (M.obj l) _
 rw[ho];exact h
theorem zih {l:Nat} {k:DV→VM→Prop} {p:Option CC} {M:VM} {st:LoopState} {pd:Option CC} {sl:DS} {rc:RC} (ho:M.obj l=some (.loop st pd sl rc)) (h:k (.bool p.isNone) (M.put l (.loop (stOf p) p sl rc))):finD l k p M:=by
 unfold finD;rw[ho];exact h
@[simp] theorem finKD_nrm {l:Nat} {k:DV→VM→Prop} {s:DS} {M:VM}:(finKD l k).nrm s M=finD l k none M:=id rfl
theorem rgEnd_nrm {K:KD} {s:DS} {l:Nat} {M:VM} {sl:DS} {rc:RC} (ho:M.obj l=some (.loop .ready none sl rc)) (h:K.nrm s (M.put l (.loop .exhausted none sl rc))):rgEndD K s l M:=by
 unfold rgEndD;rw[ho];exact h
end
end Go.Ideal
namespace Go.Ideal.S
open Go Go.Ideal Q Classical
attribute [local simp] decide_eq_true decide_eq_false z9
variable {M:VM} {k kp:DV→VM→Prop} {n0:Nat}
abbrev grO (g:Gr):MO:=.rows false 3 [[I g.st,I g.ac,.lst 3 (g.es.map zbl)]]
abbrev intO (n:Int):MO:=.rows false 1 [[I n]]
end Go.Ideal.S
