/- A part of the proof: the ideal machine, and what the functions of the program answer over it. -/
import Derived.RowKit
import Derived.OpenShut
import Derived.WideKeyArgs
import Derived.ChangeSame
import Derived.Test.YtjkoholloclgeaaGreatDoorC
set_option linter.unusedSimpArgs false
set_option linter.unusedVariables false
set_option linter.unusedSectionVars false
namespace Go.Ideal
section
variable {w:Wd} {M:VM} {h:H} {s:DS} {t:zl}
def Left (w:Wd) (M:VM) (h:H) (d:DV) (M':VM) (v:Value) (h':H):Prop:= ∃w',VRel w' d v∧Hist w M h w' M' h'∧HRel w' M' h'
theorem write_ofD {R:RBd} {op:Bool} {sz e off:Nat} {rs rs':List (List DV)} {cs us:List Value} {xs:List DV} (hg:h.get R.blk=some (.cells cs e)) (hrows:RowsRel w R op sz rs cs e) (hw:zR rs.flatten off xs=some rs'.flatten) (hrow: ∀r∈rs',r.length=sz) (hx:LRel w xs us) (hc:xs.all zF=true):
 ∃cs',h.write R.blk off us=some (h.put R.blk (.cells cs' e))∧RowsRel w R op sz rs' cs' e:=by
 obtain⟨cs',h1,h2⟩:=zdu hrows.rel hx hw
 refine⟨cs',?_,hrows.hop,hrows.hsz,hrows.esz,hrows.pos,hrow,h2⟩
 unfold H.write
 rw[hg,Option.bind_some]
 unfold ze6
 have he:Nat.beq e roE=false:=by
  cases hb:Nat.beq e roE with
  |false=>rfl
  |true=>
   have:=Nat.eq_of_beq_eq_true hb
   have h3:=hrows.esz
   cases op with
   |true=>have:=(hrows.pos rfl).2;rw[if_pos rfl] at h3;omega
   |false=>rw[if_neg (by decide)] at h3;rw[h3] at this;exact absurd this (by decide)
 dsimp only
 rw[if_pos (by rw[hx.isCell hc,he];rfl),h1];rfl
theorem zgC (hr:HRel w M h) {n:Nat} {x a:DV} {x' a':Value} {M':VM} (hd:zey n M x a=some M') (hx:VRel w x x') (ha:VRel w a a'):
 ∃b off h',a'=.pointer (some ⟨b,off,none⟩)∧Nat.beq (zP x').length n=true∧h.write b off (zP x')=some h'∧Hist w M h w M' h'∧HRel w M' h'∧(∃j i o R,a=.ptr j i o∧w.rho j=some R∧R.blk=b):=by
 cases ha with
 | @ptr j i off R hR=>
   obtain⟨o,ho,hd⟩:=aof (show(M.obj j).bind _=some M' from hd)
   obtain⟨st,hg⟩:=zbw ho
   obtain⟨hz,e,he,hro⟩:=hr.obj j o st R hg hR
   cases hro with
   | @rows op sz rs cs e' hrows=>
     obtain⟨r,hri,hd⟩:=aof (show(rs[i]?).bind _=some M' from hd)
     split at hd
     ·rename_i hc
      obtain⟨r',hw,rfl⟩:=amf hd
      have hlt:=(List.getElem?_eq_some_iff.1 hri).1
      obtain⟨cs',h1,h2⟩:=write_ofD (rs':=rs.set i r') he hrows (zhN hrows.row hri hw) (fun q hq=>by
       rcases List.mem_or_eq_of_mem_set hq with h3|rfl
       ·exact hrows.row q h3
       ·rw[writeD_len hw];exact hrows.row r (List.mem_of_getElem? hri)) hx.cells hc.2.2
      obtain⟨p1,p2⟩:=hr.put hg hR (o:=.rows op sz (rs.set i r')) (e:=.cells cs' e') (.rows h2)
      exact⟨R.blk,i*R.sz+off,_,rfl,by rw[←hx.cells.len,hc.1,Nat.beq_refl],by rw[←hrows.hsz];exact h1,p2,p1,j,i,off,R,rfl,hR,rfl⟩
     ·cases hd
   |map=>cases hd
   |loop=>cases hd
 |_=>cases hd
theorem zh6 {size:Nat}: ∀{l:List (Nat×DV)} {l':List (Nat×Nat×Value)} {rows rows':List (List DV)} {vs:List Value},(∀r∈rows,r.length=size)→LRel w rows.flatten vs→l'.map (fun x=>(x.1,x.2.1))=l.map (fun x=>(x.1*size,size))→LRel w (l.map Prod.snd) (l'.map fun x=>x.2.2)→zch size rows l=some rows'→
 ∃vs',zhv vs l'=some vs'∧LRel w rows'.flatten vs'∧(∀r∈rows',r.length=size)∧rows'.length=rows.length
 | [],l',rows,rows',vs,hs,hc,e,_,h=>by
   cases h
   cases l' with
   |nil=>exact⟨vs,rfl,hc,hs,rfl⟩
   |cons=>cases e
 | (i,x)::l,[],rows,rows',vs,hs,hc,e,_,h=>by cases e
 | (i,x)::l,(o',n',x')::l',rows,rows',vs,hs,hc,e,hl,h=>by
   simp only[List.map_cons,List.cons.injEq,Prod.mk.injEq] at e hl
   obtain⟨⟨rfl,rfl⟩,e⟩:=e
   obtain⟨x2,r2,e2,hx,hr⟩:=hl.head
   cases e2
   unfold zch at h
   split at h
   ·rename_i hc1
    obtain⟨h1,h2,h3,h4⟩:=hc1
    have hri:rows[i]? =some rows[i]:=List.getElem?_eq_getElem h4
    have hw:zR rows[i] 0 (zA x)=some (zA x):=by
     have hl1:=hs _ (List.getElem_mem h4)
     rw[zdv (by omega)];simp;omega
    obtain⟨v1,h5,h6⟩:=zdu hc hx.cells (zhN hs hri hw)
    obtain⟨vs',h7,h8,h9,h10⟩:=zh6 (rows:=rows.set i (zA x)) (fun q hq=>by
     rcases List.mem_or_eq_of_mem_set hq with h3|rfl
     ·exact hs q h3
     ·exact h1) h6 e hr h
    refine⟨vs',?_,h8,h9,by rw[h10,List.length_set]⟩
    unfold zhv
    rw[if_pos (by simp[←hx.cells.len,h1,h2]),show i*n'=i*n'+0 from rfl,h5,Option.bind_some,h7]
   ·cases h
theorem zim {size:Nat}: ∀{ps:List (Nat×CO)} {l:List (Nat×DV)},zi8 w (ps.flatMap fun p=>zr p.2) s t→zec s ps=some l→
 ∃l',zcn t size ps=some l'∧l'.map (fun x=>(x.1,x.2.1))=l.map (fun x=>(x.1*size,size))∧LRel w (l.map Prod.snd) (l'.map fun x=>x.2.2)
 | [],l,_,h=>by cases h;exact⟨[],rfl,rfl,.nil⟩
 | (o,x)::ps,l,hs,h=>by
   obtain⟨d,hd,h⟩:=aof h
   obtain⟨r,hr,rfl⟩:=amf h
   obtain⟨v,hv,h1⟩:=zx (hs.sub fun p hp=>by simp[hp]) hd
   obtain⟨r',hr',e,h2⟩:=zim (size:=size) (hs.sub fun p hp=>by rw[List.flatMap_cons];exact List.mem_append_right _ hp) hr
   exact⟨(o*size,size,v)::r',by unfold zcn;rw[hv,Option.bind_some,hr'];rfl,by simp[e],.cons h1 h2⟩
theorem ze4 {w:Wd} {j:Nat} {R:RBd}:(w.add j R).rho j=some R:=by show(if j=j then _ else _)=_;rw[if_pos rfl]
theorem ziu (hr:HRel w M h) {op:Bool} {sz:Nat} {rs:List (List DV)} {cs:List Value} {e:Nat} (he:e=if op=true then sz else 0) (hp:op=true→0<sz∧sz<roE) (hrow: ∀r∈rs,r.length=sz) (hl:LRel w rs.flatten cs):
 HRel (w.add M.next ⟨h.next,sz,op⟩) (M.new (.rows op sz rs)) (h.new (.cells cs e))∧Hist w M h (w.add M.next ⟨h.next,sz,op⟩) (M.new (.rows op sz rs)) (h.new (.cells cs e)):=
 hr.new (.rows ⟨rfl,rfl,he,hp,hrow,hl.mono (Wd.add_le (hr.rho_none (Nat.le_refl _)))⟩)
theorem ziv (hr:HRel w M h) {size:Nat} {rs:List (List DV)} {cs:List Value} (hp:0<size∧size<roE) (hrow: ∀r∈rs,r.length=size) (hl:LRel w rs.flatten cs):
 Left w M h (zfH M size rs).1 (zfH M size rs).2 (zed h rs.length size cs).1 (zed h rs.length size cs).2:=by
 obtain⟨p1,p2⟩:=ziu hr (op:=true) (e:=size) (by rw[if_pos rfl]) (fun _=>hp) hrow hl
 refine⟨_,?_,p2,p1⟩
 have:=VRel.ms (w:=w.add M.next ⟨h.next,size,true⟩) (lo:=0) (len:=rs.length) (cap:=zp) ze4 (fun _=>rfl) (fun h=>absurd rfl h)
 rwa [Nat.zero_mul] at this
theorem appendD_rel (hr:HRel w M h) {size bytes:Nat} {new:List (List DV)} {us:List Value} {d:DV} {v:Value} {d':DV} {M':VM} (hp:0<size∧size<roE) (hrow: ∀r∈new,r.length=size) (hl:LRel w new.flatten us) (hc:new.all (fun r=>r.all zF)=true) (hv:VRel w d v)
 (hd:zbR size bytes M new d=some (d',M')): ∃v' h',zco size bytes new.length us h v=some (v',h')∧Left w M h d' M' v' h':=by
 have hcf:new.flatten.all zF=true:=by
  rw[List.all_eq_true] at hc⊢
  intro x hx
  obtain⟨r,hr1,hr2⟩:=List.mem_flatten.1 hx
  exact List.all_eq_true.1 (hc r hr1) x hr2
 have hcell:=hl.isCell hcf
 have hlen:=zV hrow
 unfold zbR at hd
 by_cases h0:new=[]
 ·rw[if_pos h0] at hd
  have hM:d'=d∧M'=M:=by split at hd<;>cases hd<;>exact⟨rfl,rfl⟩
  obtain⟨rfl,rfl⟩:=hM
  subst h0
  refine⟨v,h,?_,w,hv,.refl _ _ _,hr⟩
  cases hv<;>first| (cases hd;done)| (unfold zco;dsimp only;rw[if_pos (by rfl)])
 ·rw[if_neg h0] at hd
  have hn:Nat.beq new.length 0=false:=by
   cases new with
   |nil=>exact absurd rfl h0
   |cons=>rfl
  split at hd
  ·
   split at hd
   ·rename_i hb
    cases hd
    cases hv
    obtain⟨w',q⟩:=ziv hr hp hrow hl
    refine⟨_,_,?_,w',q⟩
    unfold zco
    dsimp only
    rw[hn,if_neg (by decide),if_pos (by simp[hcell];exact hb)]
    rfl
   ·cases hd
  ·rename_i j lo len cap
   split at hd
   ·rename_i hb
    obtain⟨o,ho,hd⟩:=aof hd
    obtain⟨st,hg⟩:=zbw ho
    cases hv with
    | @ms _ _ _ _ R hR hO hC=>
      obtain⟨hz,e,he,hro⟩:=hr.obj j o st R hg hR
      cases hro with
      |map=>cases hd
      |loop=>cases hd
      | @rows op sz rs cs e' hrows=>
        have hd2:(if sz=size∧lo+len≤rs.length then match op with
         |true=>if cap=zp then
           if lo+len+new.length≤rs.length then some (DV.ms j lo (len+new.length) cap,M.put j (.rows true sz (zcR rs new (lo+len))))
           else some (zfH (M.del j) size ((rs.drop lo).take len++new)) else none
         |false=>if cap<zp then
           if len+new.length≤cap then(if lo+cap≤rs.length then some (DV.ms j lo (len+new.length) cap,M.put j (.rows false sz (zcR rs new (lo+len)))) else none)
           else some (zfH M size ((rs.drop lo).take len++new)) else none
         else none)=some (d',M'):=hd
        clear hd
        split at hd2
        ·rename_i hsz;obtain⟨rfl,hle⟩:=hsz
         have hs:=hrows.row
         have hfl:=zV hs
         have hcl:=hrows.rel.len
         have hsz:=hrows.hsz
         have hold:zhV (len*sz) (zds (lo*R.sz) cs)=some ((cs.drop (lo*R.sz)).take (len*sz)):=by
          rw[zbV,←hsz]
          have:=takeC_app (us:=(cs.drop (lo*sz)).take (len*sz)) (tl:=(cs.drop (lo*sz)).drop (len*sz)) (n:=len*sz)
           (by rw[List.length_take,List.length_drop,←hcl,hfl]
               have:lo*sz+len*sz≤rs.length*sz:=by rw[←Nat.add_mul];exact Nat.mul_le_mul_right _ hle
               omega) (((hrows.rel.drop _).take _).clean)
          rw[List.take_append_drop,List.take_take,Nat.min_self] at this
          exact this
         have hso: ∀r∈(rs.drop lo).take len++new,r.length=sz:=fun r hr1=>by
          rcases List.mem_append.1 hr1 with h1|h1
          ·exact hs r (List.mem_of_mem_drop (List.mem_of_mem_take h1))
          ·exact hrow r h1
         have hlo:LRel w ((rs.drop lo).take len++new).flatten ((cs.drop (lo*R.sz)).take (len*sz)++us):=by
          rw[List.flatten_append,zdL (fun r hr1=>hs r (List.mem_of_mem_drop hr1)),zcY hs,←hsz]
          exact((hrows.rel.drop _).take _).append hl
         have hlen2:((rs.drop lo).take len++new).length=len+new.length:=by simp;omega
         have hput:lo+len+new.length≤rs.length→ ∃cs',h.write R.blk (lo*R.sz+len*sz) us=some (h.put R.blk (.cells cs' e'))∧RowsRel w R op sz (zcR rs new (lo+len)) cs' e':=fun hle2=>by
          rw[←hsz,←Nat.add_mul]
          refine write_ofD he hrows (putRows_flat hs hrow hle2) (fun r hr1=> ?_) hl hcf
          unfold zcR at hr1
          rcases List.mem_append.1 hr1 with h1|h1
          ·rcases List.mem_append.1 h1 with h1|h1
           ·exact hs r (List.mem_of_mem_take h1)
           ·exact hrow r h1
          ·exact hs r (List.mem_of_mem_drop h1)
         have hApp: ∀x,zdo sz ⟨R.blk,lo*R.sz,none⟩ len cap new.length us h (.cells cs e')=x→zco sz bytes new.length us h (.slice (some ⟨R.blk,lo*R.sz,none⟩) len cap)=x:=fun x hx=>by
          unfold zco
          dsimp only
          rw[hn,if_neg (by decide),if_pos (by simp[hcell];exact hb),he,Option.bind_some,hx]
         cases op with
         |true=>
          dsimp only at hd2
          split at hd2
          ·rename_i hcap;subst hcap
           obtain⟨hp1,hp2⟩:=hrows.pos rfl
           have hes:=hrows.esz
           rw[if_pos rfl] at hes
           have hq:(cs.length - lo*R.sz) / sz=rs.length - lo:=by
            rw[←hcl,hfl,←hsz,←Nat.sub_mul,Nat.mul_div_cancel _ hp1]
           have hcond:(Nat.beq e' sz&& !Nat.beq e' roE)=true:=by
            have:=zhB hes hp1 hp2
            simp only[Bool.and_eq_true] at this⊢
            exact⟨this.1,this.2.2⟩
           have hI:zdo sz ⟨R.blk,lo*R.sz,none⟩ len zp new.length us h (.cells cs e')=if Nat.ble (len+new.length) (rs.length - lo) then putIn sz ⟨R.blk,lo*R.sz,none⟩ len zp new.length us h else ziH sz ⟨R.blk,lo*R.sz,none⟩ len new.length us (h.put R.blk .dead) cs:=by
            unfold zdo
            dsimp only
            rw[if_pos (Nat.beq_refl _),if_pos hcond,hq]
           split at hd2
           ·rename_i hle2;cases hd2
            obtain⟨cs',h1,h2⟩:=hput hle2
            obtain⟨p1,p2⟩:=hr.put hg hR (o:=.rows true sz (zcR rs new (lo+len))) (e:=.cells cs' e') (.rows h2)
            refine⟨_,_,hApp _ ?_,w,.ms hR hO (fun h=>absurd rfl h),p2,p1⟩
            rw[hI,if_pos (by rw[Nat.ble_eq];omega)]
            unfold putIn
            rw[h1];rfl
           ·rename_i hle2;cases hd2
            obtain⟨k1,k2⟩:=hr.kill hg hR .dead
            obtain⟨w',q1,q2,q3⟩:=ziv k1 hp hso hlo
            refine⟨_,_,hApp _ ?_,w',q1,k2.trans hr q2,q3⟩
            rw[hI,if_neg (by rw[Nat.ble_eq];omega)]
            unfold ziH
            rw[hold,Option.map_some,hlen2]
          ·cases hd2
         |false=>
          dsimp only at hd2
          split at hd2
          ·rename_i hcap
           have hI:zdo sz ⟨R.blk,lo*R.sz,none⟩ len cap new.length us h (.cells cs e')=if Nat.ble (len+new.length) cap then putIn sz ⟨R.blk,lo*R.sz,none⟩ len cap new.length us h else ziH sz ⟨R.blk,lo*R.sz,none⟩ len new.length us h cs:=by
            unfold zdo
            dsimp only
            rw[if_neg (fun e=>by have:=Nat.eq_of_beq_eq_true e;omega)]
           split at hd2
           ·rename_i hle2
            split at hd2
            ·rename_i hle3;cases hd2
             obtain⟨cs',h1,h2⟩:=hput (by omega)
             obtain⟨p1,p2⟩:=hr.put hg hR (o:=.rows false sz (zcR rs new (lo+len))) (e:=.cells cs' e') (.rows h2)
             refine⟨_,_,hApp _ ?_,w,.ms hR hO (fun h=>⟨hle2,(hC h).2⟩),p2,p1⟩
             rw[hI,if_pos (by rw[Nat.ble_eq];omega)]
             unfold putIn
             rw[h1];rfl
            ·cases hd2
           ·rename_i hle2;cases hd2
            obtain⟨w',q1,q2,q3⟩:=ziv hr hp hso hlo
            refine⟨_,_,hApp _ ?_,w',q1,q2,q3⟩
            rw[hI,if_neg (by rw[Nat.ble_eq];omega)]
            unfold ziH
            rw[hold,Option.map_some,hlen2]
          ·cases hd2
        ·cases hd2
   ·cases hd
  ·cases hd
theorem appendedD_rel (hr:HRel w M h) {size:Nat} {d:DV} {new:List (List DV)} {v:Value} (hd:zbF M size d=some new) (hv:VRel w d v): ∃us,appended h size v=some (new.length,us)∧LRel w new.flatten us∧ ∀r∈new,r.length=size:=by
 unfold zbF at hd
 split at hd
 ·rename_i b
  split at hd
  ·rename_i hs;cases hd;subst hs
   rw[hv.inv_str]
   refine⟨b.data.toList.map zjy,?_,?_,?_⟩
   ·unfold appended
    dsimp only
    rw[if_pos (by rfl)]
    unfold bytesD
    simp
   ·unfold bytesD
    have: ∀l:List UInt8,LRel w (l.map fun b=>[byteD b]).flatten (l.map zjy):=fun l=>by
     induction l with
     |nil=>exact .nil
     |cons x l ih=>exact .cons (.int _ _) ih
    exact this _
   ·unfold bytesD
    intro r hr1
    obtain⟨x,-,rfl⟩:=List.mem_map.1 hr1;rfl
  ·cases hd
 ·rename_i hns
  obtain⟨base,cap,rfl,hs,hcase⟩:=zka hr hd hv
  have hfl:=zV hs
  by_cases h0:new.length=0
  ·have:new=[]:=List.eq_nil_of_length_eq_zero h0
   subst this
   refine⟨[],?_,.nil,by simp⟩
   unfold appended
   cases base<;>rfl
  ·rcases hcase with rfl| ⟨b,o,cs,e,us,tl,rfl,hg,hb,hsp,hl⟩
   ·exact absurd rfl h0
   ·refine⟨us,?_,hl,hs⟩
    unfold appended
    dsimp only
    rw[if_neg (fun e=>h0 (Nat.eq_of_beq_eq_true e)),ze9 hg hsp (by rw[←hl.len];omega) hl.clean,Option.map_some,List.take_of_length_le (by rw[←hl.len];omega)]
theorem opW_sound {op:COp} (hr:HRel w M h) (hs:SRel w s t) {d:DV} {M':VM} (hd:opD op s M=some (d,M')): ∃v h',opV op t h=some (v,h')∧Left w M h d M' v h':=by
 by_cases hfl:isFl op=true
 ·obtain⟨rfl,v,hv,hg⟩:=ziq hfl hr.ty (hs.N _) hd
  exact⟨v,h,hg h,w,hv,.refl _ _ _,hr⟩
 by_cases hrd:isRd op=true
 ·obtain⟨rfl,v,hv,hg⟩:=zio hrd hr (hs.N _) hd
  exact⟨v,h,hg h (fun _ _=>rfl),w,hv,.refl _ _ _,hr⟩
 cases op
 case alloc z=>
  obtain⟨z',hz,e⟩:=amf hd;cases e
  obtain⟨p1,p2⟩:=ziu hr (op:=false) (sz:=z'.length) (rs:=[z']) (cs:=z) (e:=0) rfl (fun h=>by cases h) (by simp) (by simpa using zfd hz)
  refine⟨_,_,rfl,_,?_,p2,p1⟩
  have:=VRel.ptr (w:=w.add M.next ⟨h.next,z'.length,false⟩) (i:=0) (off:=0) ze4
  simpa using this
 case box x=>
  obtain⟨y,hy,e⟩:=amf hd;cases e
  obtain⟨v,hv,hr1⟩:=zbK hs hy
  obtain⟨p1,p2⟩:=ziu hr (op:=false) (sz:=(zA y).length) (rs:=[zA y]) (cs:=zP v) (e:=0) rfl (fun h=>by cases h) (by simp) (by simpa using hr1.cells)
  refine⟨_,_,by show(x.ev t).map _=_;rw[hv];rfl,_,?_,p2,p1⟩
  have:=VRel.ptr (w:=w.add M.next ⟨h.next,(zA y).length,false⟩) (i:=0) (off:=0) ze4
  simpa[newPtr] using this
 case buildSlice len size z ps=>
  obtain⟨z',hz,hd⟩:=aof hd
  split at hd
  ·rename_i hc;obtain⟨hzl,hlt⟩:=hc
   obtain⟨l,hl,hd⟩:=aof hd
   obtain⟨rows,hrows,e⟩:=amf hd;cases e
   obtain⟨l',hl',e1,e2⟩:=zim (w:=w) (size:=size) (hs.N _) hl
   obtain⟨vs,h1,h2,h3,h4⟩:=zh6 (rows:=List.replicate len z') (fun r hr1=>by rw[(List.mem_replicate.1 hr1).2];exact hzl) (zfD (zfd hz) len) e1 e2 hrows
   obtain⟨p1,p2⟩:=ziu hr (op:=false) (sz:=size) (rs:=rows) (cs:=vs) (e:=0) rfl (fun h=>by cases h) h3 h2
   refine⟨.slice (some ⟨h.next,0,none⟩) len len,_,?_,_,?_,p2,p1⟩
   ·show((zcn t size ps).bind fun l=>(zhv (zbe z len) l).map fun c=>(Value.slice (some ⟨h.next,0,none⟩) len len,h.new (.cells c 0)))=_
    rw[hl',Option.bind_some,h1];rfl
   ·have:=VRel.ms (w:=w.add M.next ⟨h.next,size,false⟩) (lo:=0) (len:=len) (cap:=len) ze4 (fun h=>by omega) (fun h=>⟨Nat.le_refl _,hlt⟩)
    rwa [Nat.zero_mul] at this
  ·cases hd
 case makeMap=>
  cases hd
  obtain⟨p1,p2⟩:=hr.new (o:=.map []) (e:=.map [] 0) (sz:=0) (op:=false) (.map ⟨.nil,.nil⟩)
  exact⟨_,_,rfl,_,.map (R:=⟨h.next,0,false⟩) ze4,p2,p1⟩
 case makeSlice sz bytes z l c=>
  obtain⟨l',hl,hd⟩:=aof hd
  obtain⟨c',hc,hd⟩:=aof hd
  obtain⟨z',hz,hd⟩:=aof hd
  obtain⟨v,hv,r1⟩:=zbK hs hl
  obtain⟨u,hu,r2⟩:=zbK hs hc
  unfold zcG at hd
  split at hd
  ·rename_i n m _ _
   split at hd
   ·rename_i hcond;obtain⟨c1,c2,c3⟩:=hcond
    cases hd
    obtain⟨p1,p2⟩:=ziu hr (op:=false) (sz:=z'.length) (rs:=List.replicate m z') (cs:=zbe z m) (e:=0) rfl (fun h=>by cases h) (fun r hr1=>by rw[(List.mem_replicate.1 hr1).2]) (zfD (zfd hz) m)
    refine⟨.slice (some ⟨h.next,0,none⟩) n m,_,?_,_,?_,p2,p1⟩
    ·show((l.ev t).bind fun l=>(c.ev t).bind fun c=>zcF bytes z h l c)=_
     rw[hv,hu,r1.inv_int,r2.inv_int,Option.bind_some,Option.bind_some]
     unfold zcF
     dsimp only
     rw[if_pos (by simp only[Bool.and_eq_true,Nat.ble_eq];exact⟨⟨c1,c2⟩,c3⟩)]
    ·have:=VRel.ms (w:=w.add M.next ⟨h.next,z'.length,false⟩) (lo:=0) (len:=n) (cap:=m) ze4 (fun h=>by unfold zp at h;omega) (fun h=>⟨c1,by unfold zp;omega⟩)
     rwa [Nat.zero_mul] at this
   ·cases hd
  ·cases hd
 case store n a x=>
  obtain⟨y,hy,hd⟩:=aof hd
  obtain⟨z,hz,hd⟩:=aof hd
  obtain⟨M2,h2,e⟩:=amf hd;cases e
  obtain⟨v,hv,r1⟩:=zbK hs hy
  obtain⟨u,hu,r2⟩:=zbK hs hz
  obtain⟨b,off,h',rfl,e1,e2,q1,q2,_⟩:=zgC hr h2 r2 r1
  refine⟨zM,h',?_,w,.tup_of .nil,q1,q2⟩
  show((a.ev t).bind fun v=>(x.ev t).bind fun x=>(zdB v).bind fun a=>if Nat.beq (zP x).length n then(h.write a.block a.off (zP x)).map fun h=>(zM,h) else none)=_
  rw[hv,hu,Option.bind_some,Option.bind_some]
  show(if _ then _ else _)=_
  rw[if_pos e1,e2];rfl
 case mapUpdate kk m k x=>
  obtain⟨m',hm,hd⟩:=aof hd
  obtain⟨k',hk,hd⟩:=aof hd
  obtain⟨x',hx,hd⟩:=aof hd
  obtain⟨M2,h2,e⟩:=amf hd;cases e
  obtain⟨mv,hmv,r1⟩:=zbK hs hm
  obtain⟨kv,hkv,r2⟩:=zbK hs hk
  obtain⟨xv,hxv,r3⟩:=zbK hs hx
  cases r1 with
  | @map j R hR=>
    obtain⟨o,ho,h2⟩:=aof (show(M.obj j).bind _=some _ from h2)
    obtain⟨st,hg⟩:=zbw ho
    obtain⟨hz,e,he,hro⟩:=hr.obj j o st R hg hR
    cases hro with
    | @map es es' c hm=>
      obtain⟨b,hb,h2⟩:=aof h2
      obtain⟨es2,hes,rfl⟩:=amf h2
      obtain⟨es2',c',h3,h4⟩:=setD_rel r2 r3 c hes hm
      obtain⟨p1,p2⟩:=hr.put hg hR (o:=.map es2) (e:=.map es2' c') (.map h4)
      refine⟨zM,_,?_,w,.tup_of .nil,p2,p1⟩
      show((m.ev t).bind fun m=>(k.ev t).bind fun k=>(x.ev t).bind fun x=>mapUpd kk h k x m)=_
      rw[hmv,hkv,hxv,Option.bind_some,Option.bind_some,Option.bind_some]
      show(h.get R.blk).bind (mapSet kk h kv xv R.blk)=_
      rw[he,Option.bind_some]
      unfold mapSet
      dsimp only
      rw[zdc hb r2 r2,Option.bind_some,h3];rfl
    |rows=>cases h2
    |loop=>cases h2
  |_=>cases h2
 case blt b as=>
  cases b with
  |append size bytes=>
   obtain⟨l,hl,hd⟩:=aof hd
   obtain⟨vs,hvs,hrl⟩:=zhJ hs hl
   match l,hd,hrl with
   | [],hd,_=>cases hd
   | [_],hd,_=>cases hd
   |_::_::_::_,hd,_=>cases hd
   | [x,y],hd,hrl=>
     have hd:(if 0<size∧size<roE then(zbF M size y).bind fun new=>if new.all (fun r=>r.all zF)=true then zbR size bytes M new x else none else none)=some (d,M'):=hd
     split at hd
     ·rename_i hp
      obtain⟨new,hnew,hd⟩:=aof hd
      split at hd
      ·rename_i hc
       obtain⟨x',r,rfl,hx,hrr⟩:=hrl.head
       obtain⟨y',r',rfl,hy,hrr'⟩:=hrr.head
       rw[hrr'.inv_nil] at hvs
       obtain⟨us,h1,h2,h3⟩:=appendedD_rel hr hnew hy
       obtain⟨v',h',h4,h5⟩:=appendD_rel hr hp h3 h2 hc hx hd
       refine⟨v',h',?_,h5⟩
       show((evL t as).bind fun l=>bltV h (.append size bytes) l)=_
       rw[hvs,Option.bind_some]
       show((appended h size y').bind fun nl=>zco size bytes nl.1 nl.2 h x')=_
       rw[h1,Option.bind_some,h4]
      ·cases hd
     ·cases hd
  |clear z=>
   obtain⟨l,hl,hd⟩:=aof hd
   match l,hd with
   | [],hd=>cases hd
   | [_],hd=>cases hd
   |_::_::_,hd=>cases hd
  |copy z=>
   obtain⟨l,hl,hd⟩:=aof hd
   match l,hd with
   | [],hd=>cases hd
   | [_],hd=>cases hd
   |_::_::_,hd=>cases hd
  |lenMap=>exact absurd rfl hrd
  |_=>exact absurd rfl hfl
 all_goals first| (exact absurd rfl hfl)| (exact absurd rfl hrd)|cases hd
end
end Go.Ideal
namespace Go.Ideal
def OutC (w:Wd) (M:VM) (h:H) (k kp:DV→VM→Prop):Out→Prop
 |.val v h1=> ∃w1 M1 d,Hist w M h w1 M1 h1∧HRel w1 M1 h1∧VRel w1 d v∧k d M1
 |.pan v _ h1=> ∃w1 M1 d,Hist w M h w1 M1 h1∧HRel w1 M1 h1∧VRel w1 d v∧kp d M1
 |_=>False
def zt (F:FuncId→Option zm) (f:DV) (args:List DV) (M:VM) (k kp:DV→VM→Prop):Prop:=
 ∀w h fv vs,HRel w M h→VRel w f fv→LRel w args vs→ ∃n o,E F n (.call fv vs h)=some o∧OutC w M h k kp o
def HandD (F:FuncId→Option zm) (f:DV) (args:List DV) (p:Option DV) (M:VM) (k:VM→Prop):Prop:=
 ∀w h fv vs pv,HRel w M h→VRel w f fv→LRel w args vs→ORelO w p pv→ ∃n v h1 w1 M1,E F n (.hand fv vs pv h)=some (.val v h1)∧Hist w M h w1 M1 h1∧HRel w1 M1 h1∧k M1
structure St (n0:Nat) (w0:Wd) (M0:VM) (h0:H) (w:Wd) (M:VM) (h:H):Prop where
 n:M0.next=n0
 r0:HRel w0 M0 h0
 hi:Hist w0 M0 h0 w M h
 r:HRel w M h
theorem St.step {n0:Nat} {w0 w w1:Wd} {M0 M M1:VM} {h0 h h1:H} (s:St n0 w0 M0 h0 w M h) (a:Hist w M h w1 M1 h1) (b:HRel w1 M1 h1):St n0 w0 M0 h0 w1 M1 h1:=⟨s.n,s.r0,s.hi.trans s.r0 a,b⟩
def OutK (n0:Nat) (w0:Wd) (M0:VM) (h0:H) (K:KD):Out→Prop
 |.nrm t h=> ∃w M s,St n0 w0 M0 h0 w M h∧SRel w s t∧K.nrm s M
 |.exit i t h=> ∃w M s,St n0 w0 M0 h0 w M h∧SRel w s t∧K.ext i s M
 |.ret t h=> ∃w M s,St n0 w0 M0 h0 w M h∧SRel w s t∧K.ret s M
 |.pan v t h=> ∃w M s d,St n0 w0 M0 h0 w M h∧SRel w s t∧VRel w d v∧K.pan d s M
 |.val _ _=>False
def zfS (F:FuncId→Option zm) (n0:Nat) (c:CC) (K:KD) (s:DS) (M:VM):Prop:=
 ∀w0 M0 h0 w h t,St n0 w0 M0 h0 w M h→SRel w s t→ ∃n o,E F n (.code c t h)=some o∧OutK n0 w0 M0 h0 K o
def zbB (F:FuncId→Option zm) (n0:Nat) (L:List (List Bool)) (b:CC) (K:KD) (s:DS) (M:VM):Prop:=zfS F n0 (.loop L b) K s M
def zkg (F:FuncId→Option zm) (n0:Nat) (b:CC) (l1:Nat) (r1:CC) (l2:Nat) (r2:CC) (K:KD) (s:DS) (M:VM):Prop:=zfS F n0 (.scope b l1 r1 l2 r2) K s M
def rD (F:FuncId→Option zm) (n0:Nat):RnD:=⟨zt F,HandD F,zbB F n0,zkg F n0⟩
section
variable {F:FuncId→Option zm} {n0:Nat}
theorem OutK.mono {w0:Wd} {M0:VM} {h0:H} {K K':KD} (h1: ∀s M,K.nrm s M→K'.nrm s M) (h2: ∀i s M,K.ext i s M→K'.ext i s M) (h3: ∀s M,K.ret s M→K'.ret s M) (h4: ∀d s M,K.pan d s M→K'.pan d s M) {o:Out} (h:OutK n0 w0 M0 h0 K o):OutK n0 w0 M0 h0 K' o:=by
 cases o with
 |nrm=>obtain⟨w,M,s,a,b,c⟩:=h;exact⟨w,M,s,a,b,h1 _ _ c⟩
 |exit=>obtain⟨w,M,s,a,b,c⟩:=h;exact⟨w,M,s,a,b,h2 _ _ _ c⟩
 |ret=>obtain⟨w,M,s,a,b,c⟩:=h;exact⟨w,M,s,a,b,h3 _ _ c⟩
 |pan=>obtain⟨w,M,s,d,a,b,e,c⟩:=h;exact⟨w,M,s,d,a,b,e,h4 _ _ _ c⟩
 |val=>exact h
theorem zbv {α:Type} {r:Option α} {k:α→Prop} (h:ofD r k): ∃a,r=some a∧k a:=by
 cases r with
 |none=>exact h.elim
 |some a=>exact⟨a,rfl,h⟩
theorem okD_of {r:RD} {k:DV→VM→Prop} (h:okD r k): ∃d M,r=some (d,M)∧k d M:=by
 cases r with
 |none=>exact h.elim
 |some a=>exact⟨a.1,a.2,rfl,h⟩
theorem zeu {w:Wd} {s:DS} {t:zl} (hs:SRel w s t) {g:Option (List Bool×Bool)} {b:Bool} (h:wantD g s=some b):zbn g t=some b:=by
 cases g with
 |none=>exact h
 |some x=>
  obtain⟨p,q⟩:=x
  obtain⟨d,hd,h⟩:=aof (show(getS s p).bind _=some b from h)
  obtain⟨v,hv,hr⟩:=hs p d hd
  show(t.get p).bind (zhR q)=_
  rw[hv,Option.bind_some]
  cases hr<;>first|exact h|cases h
theorem wDo_sound {op:COp} {s:DS} {M:VM} {kp k:DV→VM→Prop} (h:wDo (rD F n0) op s M kp k) {w:Wd} {hp:H} {t:zl} (hr:HRel w M hp) (hs:SRel w s t): ∃n o,zeW (E F n) op t hp=some o∧OutC w M hp k kp o:=by
 have gen:okD (opD op s M) k→(∀ih:IH,zeW ih op t hp=(opV op t hp).map valO)→ ∃n o,zeW (E F n) op t hp=some o∧OutC w M hp k kp o:=fun hk he=>by
  obtain⟨d,M1,h1,h2⟩:=okD_of hk
  obtain⟨v,h',h3,w',h4,h5,h6⟩:=opW_sound hr hs h1
  exact⟨0,.val v h',by rw[he,h3];rfl,w',M1,d,h5,h6,h4,h2⟩
 cases op
 case call f args=>
  obtain⟨fd,hf,h⟩:=zbv h
  obtain⟨l,hl,h⟩:=zbv h
  obtain⟨fv,hfv,r1⟩:=zbK hs hf
  obtain⟨vs,hvs,r2⟩:=zhJ hs hl
  obtain⟨n,o,ho,hc⟩:=h w hp fv vs hr r1 r2
  refine⟨n,o,?_,hc⟩
  show((f.ev t).bind fun f=>(evL t args).bind fun l=>(E F n (.call f l hp)).bind zjk)=_
  rw[hfv,hvs,Option.bind_some,Option.bind_some,ho]
  cases o<;>first|rfl|exact hc.elim
 case invoke tbl x args=>
  obtain⟨v,hv,h⟩:=zbv h
  cases v with
  |ifc ty d=>
   obtain⟨f,hf,h⟩:=zbv h
   obtain⟨l,hl,h⟩:=zbv h
   obtain⟨v',hv',r1⟩:=zbK hs hv
   obtain⟨vs,hvs,r2⟩:=zhJ hs hl
   cases r1 with
   | @ifc _ _ v2 r1=>
     obtain⟨n,o,ho,hc⟩:=h w hp _ _ hr (.fn f (a:=[]) (c:=[]) (a':=[]) (c':=[]) rfl rfl (fun k d v h=>by simp at h) (fun k d v h=>by simp at h)) (.cons r1 r2)
     refine⟨n,o,?_,hc⟩
     show((x.ev t).bind fun v=>(zeH tbl v).bind fun r=>(evL t args).bind fun l=>(E F n (.call (.func (.func r.1) #[] #[]) (r.2::l) hp)).bind zjk)=_
     rw[hv',Option.bind_some]
     show((lookM ty tbl).map (fun f=>(f,v2))).bind _=_
     rw[hf,Option.map_some,Option.bind_some,hvs,Option.bind_some,ho]
     cases o<;>first|rfl|exact hc.elim
  |_=>exact h.elim
 case panic x=>
  obtain⟨v,hv,h⟩:=zbv h
  cases v with
  |ifc ty d=>
   obtain⟨v',hv',r1⟩:=zbK hs hv
   have r2:=r1
   cases r1 with
   |ifc _ r1=>
    refine⟨0,.pan _ .nil hp,?_,w,M,_,.refl _ _ _,hr,r2,h⟩
    show(x.ev t).bind (panV hp)=_
    rw[hv'];rfl
  |_=>exact h.elim
 all_goals exact gen h fun ih=>rfl
theorem zhS {o:CI} {s:DS} {M:VM} {kp k:DV→VM→Prop} (h:zgz (rD F n0) o s M kp k) {w:Wd} {hp:H} {t:zl} (hr:HRel w M hp) (hs:SRel w s t): ∃n out,zc9 (E F n) o t hp=some out∧OutC w M hp k kp out:=by
 obtain⟨b,hb,h⟩:=zbv h
 have hw:=zeu hs hb
 cases b with
 |true=>
  obtain⟨n,out,h1,h2⟩:=wDo_sound h hr hs
  exact⟨n,out,by unfold zc9;rw[hw];exact h1,h2⟩
 |false=>exact⟨0,.val zM hp,by unfold zc9;rw[hw];rfl,w,M,_,.refl _ _ _,hr,.tup_of .nil,h⟩
theorem zjD {kp:DV→DS→VM→Prop} {kk:DS→VM→Prop} {w0:Wd} {M0:VM} {h0:H}: ∀{l:List CI} {s:DS} {M:VM},wOps (rD F n0) kp l s M kk→ ∀{w:Wd} {h:H} {t:zl},St n0 w0 M0 h0 w M h→SRel w s t→ ∃n o,zbY (E F n) l t h=some o∧OutK n0 w0 M0 h0 ⟨kk,fun _ _ _=>False,fun _ _=>False,kp⟩ o
 | [],s,M,hk,w,h,t,hst,hs=>⟨0,.nrm t h,rfl,w,M,s,hst,hs,hk⟩
 |o::l,s,M,hk,w,h,t,hst,hs=>by
  obtain⟨n,out,h1,h2⟩:=zhS hk hst.r hs
  cases out with
  |val v h1'=>
   obtain⟨w1,M1,d,a1,a2,a3,a4⟩:=h2
   obtain⟨m,o2,b1,b2⟩:=zjD a4 (hst.step a1 a2) ((hs.mono a1.le).put a3 o.dst)
   refine⟨max n m,o2,?_,b2⟩
   rw[zb8,zh0 (E_le (Nat.le_max_left n m)) h1]
   exact zf3 (E_le (Nat.le_max_right n m)) b1
  |pan v _ h1'=>
   obtain⟨w1,M1,d,a1,a2,a3,a4⟩:=h2
   exact⟨n,.pan v t h1',by rw[zb8,h1];rfl,w1,M1,s,d,hst.step a1 a2,hs.mono a1.le,a3,a4⟩
  |nrm=>exact h2.elim
  |exit=>exact h2.elim
  |ret=>exact h2.elim
structure MoOk (s:DS) (t:zl) (w:Wd) (M:VM) (h:H) (x:Mo) (y:Nat×H):Prop where
 idx:x.idx=y.1
 ex: ∃wx,HRel wx x.M y.2∧Hist wx x.M y.2 w M h∧ ∀p,inP x.bad p=false→ ∀d,getS s p=some d→ ∃v,t.get p=some v∧VRel wx d v
def BsOk (s:DS) (t:zl) (w:Wd) (M:VM) (h:H):List Mo→List (Nat×H)→Prop
 | [],[]=>True
 |x::r,y::q=>MoOk s t w M h x y∧BsOk s t w M h r q
 |_,_=>False
theorem inP_cons (q:List Bool) (l:List (List Bool)) (p:List Bool):inP (q::l) p=false↔q≠p∧inP l p=false:=by
 show(match beqP q p with|true=>true|false=>inP l p)=false↔_
 cases h:beqP q p with
 |true=>have:=beqP_eq h;subst this;simp
 |false=>
  have:q≠p:=fun e=>by subst e;rw[zdV] at h;cases h
  simp[this]
theorem MoOk.put {s:DS} {t:zl} {w w1:Wd} {M M1:VM} {h h1:H} {x:Mo} {y:Nat×H} (ho:MoOk s t w M h x y) (hi:Hist w M h w1 M1 h1) (q:Option (List Bool)) {d:DV} {v:Value}:
 MoOk (zY q d s) (zU q v t) w1 M1 h1 (zcg q x) y:=by
 obtain⟨hx,wx,a,b,c⟩:=ho
 cases q with
 |none=>exact⟨hx,wx,a,b.trans a hi,c⟩
 |some q=>
  refine⟨hx,wx,a,b.trans a hi,fun p hp e he=> ?_⟩
  obtain⟨h1,h2⟩:=(inP_cons q x.bad p).1 hp
  rw[show zY (some q) d s=(q,d)::s from rfl,zcW,if_neg h1] at he
  obtain⟨u,hu,hr⟩:=c p h2 e he
  exact⟨u,by show(t.set q v).get p=_;rw[PT.get_set_ne v q p t h1];exact hu,hr⟩
theorem MoOk.putGood {s:DS} {t:zl} {w w1:Wd} {M M1:VM} {h h1:H} {x:Mo} {y:Nat×H} (ho:MoOk s t w M h x y) (hi:Hist w M h w1 M1 h1) (q:Option (List Bool)) {d:DV} {v:Value}
 (hv: ∀wx,HRel wx x.M y.2→Hist wx x.M y.2 w M h→(∀p,inP x.bad p=false→ ∀d,getS s p=some d→ ∃v,t.get p=some v∧VRel wx d v)→VRel wx d v):MoOk (zY q d s) (zU q v t) w1 M1 h1 x y:=by
 obtain⟨hx,wx,a,b,c⟩:=ho
 have hv:=hv wx a b c
 cases q with
 |none=>exact⟨hx,wx,a,b.trans a hi,c⟩
 |some q=>
  refine⟨hx,wx,a,b.trans a hi,fun p hp e he=> ?_⟩
  rw[show zY (some q) d s=(q,d)::s from rfl,zcW] at he
  by_cases h1:q=p
  ·rw[if_pos h1] at he;cases he;subst h1
   exact⟨v,PT.get_set_same v q t,hv⟩
  ·rw[if_neg h1] at he
   obtain⟨u,hu,hr⟩:=c p hp e he
   exact⟨u,by show(t.set q v).get p=_;rw[PT.get_set_ne v q p t h1];exact hu,hr⟩
theorem zfL {bad:List (List Bool)}: ∀{ns:List (List Bool)},zcX bad ns=true→ ∀p∈ns,inP bad p=false
 | [],_,p,hp=>by cases hp
 |q::ns,h,p,hp=>by
  have h:(match inP bad q with|true=>false|false=>zcX bad ns)=true:=h
  cases hq:inP bad q with
  |true=>rw[hq] at h;cases h
  |false=>
   rw[hq] at h
   rcases List.mem_cons.1 hp with rfl|hp
   ·exact hq
   ·exact zfL h p hp
theorem BsOk.map {s s1:DS} {t t1:zl} {w w1:Wd} {M M1:VM} {h h1:H} {f:Mo→Mo} (hf: ∀x y,MoOk s t w M h x y→MoOk s1 t1 w1 M1 h1 (f x) y): ∀{bs:List Mo} {cs:List (Nat×H)},BsOk s t w M h bs cs→BsOk s1 t1 w1 M1 h1 (bs.map f) cs
 | [],[],_=>trivial
 |x::r,y::q,hb=>⟨hf x y hb.1,hb.2.map hf⟩
 | [],_::_,hb=>hb.elim
 |_::_,[],hb=>hb.elim
theorem BsOk.next {s:DS} {t:zl} {w:Wd} {M:VM} {h:H}: ∀{bs:List Mo} {cs:List (Nat×H)},BsOk s t w M h bs cs→zit bs=zjm cs
 | [],[],_=>rfl
 |x::r,y::q,hb=>by show x.idx+1=y.1+1;rw[hb.1.idx]
 | [],_::_,hb=>hb.elim
 |_::_,[],hb=>hb.elim
theorem ze2 {M M':VM}: ∀{rs:List Nat},ze3 rs M M'→ ∀j∈rs,M.get j=M'.get j∧(M.get j).isSome=true
 | [],_,j,hj=>by cases hj
 |i::r,h,j,hj=>by
  rcases List.mem_cons.1 hj with rfl|hj
  ·exact h.1
  ·exact ze2 h.2 j hj
theorem zif {M M':VM} {d:DV} (h: ∀j∈refD d,M.get j=M'.get j):zcC M' d=zcC M d:=by
 cases d<;>first|rfl| (show(VM.obj _ _).bind _=(VM.obj _ _).bind _;unfold VM.obj;rw[h _ (List.mem_singleton.2 rfl)])
theorem elemsD_congr {M M':VM} {n:Nat} {d:DV} (h: ∀j∈refD d,M.get j=M'.get j):zgo M' n d=zgo M n d:=by
 cases d<;>first|rfl| (show(VM.obj _ _).bind _=(VM.obj _ _).bind _;unfold VM.obj;rw[h _ (List.mem_singleton.2 rfl)])
theorem zfr {M M':VM} {d:DV} (h: ∀j∈refD d,M.get j=M'.get j):zW M' d=zW M d:=by
 cases d<;>first|rfl| (show(VM.obj _ _).bind _=(VM.obj _ _).bind _;unfold VM.obj;rw[h _ (List.mem_singleton.2 rfl)])
theorem sliceD_congr {M M':VM} {n:Nat} {lo hi:Option DV} {d:DV} (h: ∀j∈refD d,M.get j=M'.get j):sliceD n M' lo hi d=sliceD n M lo hi d:=by
 cases d<;>first|rfl| (show(VM.obj _ _).bind _=(VM.obj _ _).bind _;unfold VM.obj;rw[h _ (List.mem_singleton.2 rfl)])
theorem opD_congr {op:COp} (hp:isRd op=true) {s:DS} {M M':VM} {d:DV} {M2:VM} (ha:ze3 (zbO s op) M M') (h:opD op s M=some (d,M2)):opD op s M'=some (d,M'):=by
 have hq:=fun j hj=>(ze2 ha j hj).1
 clear ha
 cases op
 case load1 a=>
  obtain⟨x,hx,h⟩:=aof h
  obtain⟨r,hr,h⟩:=aof h
  obtain⟨y,hy,e⟩:=amf h;cases e
  show((evD s a).bind fun a=>(zcC M' a).bind fun r=>(oneD r).map (·,M'))=_
  rw[hx,Option.bind_some,zif (M:=M) (fun j hj=>hq j (by show j∈zcp s a;rw[zbL hx];exact hj)),hr,Option.bind_some,hy];rfl
 case loadN n a=>
  obtain⟨x,hx,h⟩:=aof h
  obtain⟨r,hr,h⟩:=aof h
  obtain⟨y,hy,e⟩:=amf h;cases e
  show((evD s a).bind fun a=>(zcC M' a).bind fun r=>(zdZ n r).map fun l=>(DV.agg l,M'))=_
  rw[hx,Option.bind_some,zif (M:=M) (fun j hj=>hq j (by show j∈zcp s a;rw[zbL hx];exact hj)),hr,Option.bind_some,hy];rfl
 case lookup kk z ok x i=>
  obtain⟨m,hm,h⟩:=aof h
  obtain⟨k,hk,h⟩:=aof h
  obtain⟨z',hz,h⟩:=aof h
  obtain⟨b,hb,h⟩:=aof h
  obtain⟨es,hes,h⟩:=aof h
  obtain⟨r,hr1,e⟩:=amf h;cases e
  show((evD s x).bind fun m=>(evD s i).bind fun k=>(dOf z).bind fun z=>(zb6 kk k k).bind fun _=>(zW M' m).bind fun es=>(findD kk k es).map fun r=>(zeF z ok r,M'))=_
  rw[hm,hk,hz,Option.bind_some,Option.bind_some,Option.bind_some,hb,Option.bind_some,zfr (M:=M) (fun j hj=>hq j (by show j∈zcp s x;rw[zbL hm];exact hj)),hes,Option.bind_some,hr1];rfl
 case slice size x lo hi=>
  obtain⟨y,hy,h⟩:=aof h
  obtain⟨l,hl,h⟩:=aof h
  obtain⟨u,hu,h⟩:=aof h
  obtain⟨z,hz,e⟩:=amf h;cases e
  show((evD s x).bind fun v=>(evDO s lo).bind fun lo=>(evDO s hi).bind fun hi=>(sliceD size M' lo hi v).map (·,M'))=_
  rw[hy,hl,hu,Option.bind_some,Option.bind_some,Option.bind_some,sliceD_congr (M:=M) (fun j hj=>hq j (by show j∈zcp s x;rw[zbL hy];exact hj)),hz];rfl
 case slice3 size x lo hi mx=>
  obtain⟨y,hy,h⟩:=aof h
  obtain⟨l,hl,h⟩:=aof h
  obtain⟨u,hu,h⟩:=aof h
  obtain⟨v,hv,h⟩:=aof h
  obtain⟨z,hz,e⟩:=amf h;cases e
  have hc:zgE size M' l u v y=zgE size M l u v y:=by
   have hj: ∀j∈refD y,M.get j=M'.get j:=fun j hj=>hq j (by show j∈zcp s x;rw[zbL hy];exact hj)
   cases y<;>first|rfl| (show(VM.obj _ _).bind _=(VM.obj _ _).bind _;unfold VM.obj;rw[hj _ (List.mem_singleton.2 rfl)])
  show((evD s x).bind fun w=>(evDO s lo).bind fun lo=>(evD s hi).bind fun hi=>(evD s mx).bind fun mx=>(zgE size M' lo hi mx w).map (·,M'))=_
  rw[hy,hl,hu,hv,Option.bind_some,Option.bind_some,Option.bind_some,Option.bind_some,hc,hz];rfl
 case blt b as=>
  cases b with
  |lenMap=>
   obtain⟨l,hl,h⟩:=aof h
   match as,l,hl,h with
   |_,[],_,h=>cases h
   |_,_::_::_,_,h=>cases h
   | [],[_],hl,_=>cases hl
   |x::y::r,[d0],hl,_=>
    obtain⟨y,hy,h3⟩:=aof hl
    obtain⟨z,hz,h4⟩:=amf h3
    obtain⟨y2,hy2,h5⟩:=aof hz
    obtain⟨z2,hz2,h6⟩:=amf h5
    subst h6;cases h4
   | [x],[d0],hl,h=>
     obtain⟨y,hy,h3⟩:=aof hl
     obtain⟨z,hz,h4⟩:=amf h3
     cases hz;cases h4
     obtain⟨es,hes,e⟩:=amf (show(zW M d0).map _=_ from h);cases e
     show((evDL s [x]).bind fun l=>bltD M' .lenMap l)=_
     rw[hl,Option.bind_some]
     show(zW M' d0).map _=_
     rw[zfr (M:=M) (fun j hj=>hq j (by show j∈[x].flatMap (zcp s);simp[zbL hy,hj])),hes];rfl
  |_=>cases hp
 case b2s x=>
  obtain⟨y,hy,h⟩:=aof h
  obtain⟨z,hz,e⟩:=amf h;cases e
  show((evD s x).bind fun v=>(b2sD M' v).map (·,M'))=_
  have hb:b2sD M' y=b2sD M y:=by unfold b2sD;rw[elemsD_congr (M:=M) (fun j hj=>hq j (by show j∈zcp s x;rw[zbL hy];exact hj))]
  rw[hy,Option.bind_some,hb,hz];rfl
 all_goals cases hp
theorem zcZ {b o:Nat}:zgm ⟨b,o,none⟩ ⟨b,o,none⟩=true:=by unfold zgm;simp
theorem eqI_refl (a:Int):eqI a a=true:=by cases a<;>exact Nat.beq_refl _
theorem zfM {w:Wd} {d:DV} {v:Value} (hs:zcw d=true) (h:VRel w d v):zfq v v=true:=by
 cases h with
 |int k n=>show(decide (k=k)&&eqI n n)=true;rw[eqI_refl];simp
 |bool b=>cases b<;>rfl
 |str s=>exact zdj _
 |nilS=>rfl
 |nilP=>rfl
 |nilM=>rfl
 |nilF=>rfl
 |map=>exact Nat.beq_refl _
 |ptr=>exact zcZ
 |ms=>show(zgm _ _&&Nat.beq _ _&&Nat.beq _ _)=true;rw[zcZ,Nat.beq_refl,Nat.beq_refl];rfl
 |lst=>show(zgm _ _&&Nat.beq _ _&&Nat.beq _ _)=true;rw[zcZ,Nat.beq_refl,Nat.beq_refl];rfl
 | @lst0 s cap base hc hsp=>
   cases base with
   |none=>simp[zfq]
   |some a=>
    obtain⟨b,o,sp⟩:=a
    have:=hsp _ rfl
    simp only at this;subst this
    show(zgm _ _&&Nat.beq _ _&&Nat.beq _ _)=true;rw[zcZ,Nat.beq_refl,Nat.beq_refl];rfl
 |pl=>exact zcZ
 |_=>cases hs
theorem zeR {w:Wd}: ∀{l:List DV} {vs:List Value},l.all zcw=true→LRel w l vs→zgW vs vs=true
 | [],vs,_,h=>by rw[h.inv_nil];rfl
 |d::l,vs,hs,h=>by
  obtain⟨v,r,rfl,hv,hr⟩:=h.head
  simp only[List.all_cons,Bool.and_eq_true] at hs
  show(zfq v v&&zgW r r)=true
  rw[zfM hs.1 hv,zeR hs.2 hr];rfl
theorem eqVal1_refl {w:Wd} {d:DV} {v:Value} (hs:(match d with|.agg l=>l.all zcw|d=>zcw d)=true) (h:VRel w d v):ziP v v=true:=by
 cases d with
 |agg l=>obtain⟨vs,rfl,hl⟩:=h.inv_agg;exact zeR hs hl
 |_=>
  have e:ziP v v=zfq v v:=by cases h<;>first|rfl|cases hs
  rw[e];exact(fun hs=>zfM (w:=w) hs h) hs
theorem ziO {w:Wd}: ∀{l:List DV} {vs:List Value},(l.all fun d=>match d with|.agg l=>l.all zcw|d=>zcw d)=true→LRel w l vs→zj7 vs vs=true
 | [],vs,_,h=>by rw[h.inv_nil];rfl
 |d::l,vs,hs,h=>by
  obtain⟨v,r,rfl,hv,hr⟩:=h.head
  simp only[List.all_cons,Bool.and_eq_true] at hs
  show(ziP v v&&zj7 r r)=true
  rw[eqVal1_refl hs.1 hv,ziO hs.2 hr];rfl
theorem selfEq_refl {w:Wd} {d:DV} {v:Value} (hs:zcO d=true) (h:VRel w d v):eqVal v v=true:=by
 cases d with
 |agg l=>obtain⟨vs,rfl,hl⟩:=h.inv_agg;exact zeR hs hl
 |tup l=>obtain⟨vs,rfl,hl⟩:=h.inv_tup;exact ziO hs hl
 |_=>
  have e:eqVal v v=zfq v v:=by cases h<;>first|rfl|cases hs
  rw[e];exact(fun hs=>zfM (w:=w) hs h) hs
theorem read_at {op:COp} (hp:isRd op=true) {s:DS} {t:zl} {w:Wd} {M M2:VM} {h:H} {x:Mo} {y:Nat×H} {ns:List (List Bool)} {d:DV} (hr:HRel w M h) (hsub: ∀p∈zq op,p∈ns) (hm:MoOk s t w M h x y) (ha:rdAt (zbO s op) ns M x) (hd:opD op s M=some (d,M2)):
 ∃v,opV op t y.2=some (v,y.2)∧opV op t h=some (v,h)∧ ∀wx,HRel wx x.M y.2→Hist wx x.M y.2 w M h→(∀p,inP x.bad p=false→ ∀d,getS s p=some d→ ∃v,t.get p=some v∧VRel wx d v)→VRel wx d v:=by
 obtain⟨hx,wx,a,b,c⟩:=hm
 have hdx:=opD_congr hp ha.2 hd
 have key: ∀wx,HRel wx x.M y.2→Hist wx x.M y.2 w M h→(∀p,inP x.bad p=false→ ∀d,getS s p=some d→ ∃v,t.get p=some v∧VRel wx d v)→ ∃v,VRel wx d v∧opV op t y.2=some (v,y.2)∧opV op t h=some (v,h):=fun wx a b c=>by
  obtain⟨-,v,hv,hg⟩:=zio hp a (fun p hp e he=>c p (zfL ha.1 p (hsub p hp)) e he) hdx
  refine⟨v,hv,hg y.2 (fun _ _=>rfl),hg h fun bl hb=> ?_⟩
  rcases hb with⟨j,R,hj,hR,rfl⟩|hz
  ·obtain⟨e1,e2⟩:=ze2 ha.2 j hj
   obtain⟨z,hz⟩:=Option.isSome_iff_exists.1 e2
   exact b.same j z R (by rw[←e1];exact hz) hz hR
  ·obtain⟨z,hz⟩:=Option.isSome_iff_exists.1 hz
   rw[(hr.zd _ _ (b.le.Z _ _ hz)).2,(a.zd _ _ hz).2]
 obtain⟨v,hv,h1,h2⟩:=key wx a b c
 refine⟨v,h1,h2,fun wx a b c=> ?_⟩
 obtain⟨v',hv',-,h3⟩:=key wx a b c
 rw[h2] at h3;cases h3;exact hv'
theorem reads_ok {op:COp} (hp:isRd op=true) {s:DS} {t:zl} {w:Wd} {M M2:VM} {h:H} {ns:List (List Bool)} {d:DV} {lo:Nat} {v:Value} (q:Option (List Bool)) (hr:HRel w M h) (hsub: ∀p∈zq op,p∈ns) (hd:opD op s M=some (d,M2)) (hv:opV op t h=some (v,h)):
 ∀{bs:List Mo} {cs:List (Nat×H)},(bs≠[]→eqVal v v=true)→BsOk s t w M h bs cs→rdOk (zbO s op) ns M lo bs→zea op t lo v cs=true∧BsOk (zY q d s) (zU q v t) w M h (zij lo q bs) cs
 | [],[],_,_,_=>⟨rfl,trivial⟩
 | [],_::_,_,hb,_=>hb.elim
 |_::_,[],_,hb,_=>hb.elim
 |x::r,y::c,he,hb,hk=>by
  have he:=he (by simp)
  obtain⟨i1,i2⟩:=reads_ok hp q hr hsub hd hv (bs:=r) (cs:=c) (fun _=>he) hb.2 hk.2
  have hk1:=hk.1
  have hix:=hb.1.idx
  unfold zea
  show(if Nat.blt y.1 lo then _ else _)=true∧BsOk _ _ _ _ _ ((match Nat.blt x.idx lo with|true=>zcg q x|false=>x)::zij lo q r) _
  rw[←hix]
  cases hl:Nat.blt x.idx lo with
  |true=>exact⟨by rw[if_pos rfl];exact i1,hb.1.put (.refl _ _ _) q,i2⟩
  |false=>
   rw[hl] at hk1
   obtain⟨v',h1,h2,h3⟩:=read_at hp hr hsub hb.1 hk1 hd
   rw[hv] at h2;cases h2
   refine⟨?_,hb.1.putGood (.refl _ _ _) q h3,i2⟩
   rw[if_neg (by decide),h1]
   show(eqVal v v&&_)=true
   rw[he,i1];rfl
theorem doOp_of' {ih:IH} {op:COp} {t:zl} {h h1:H} {v:Value} (e1:zeW ih op t h=(opV op t h).map valO) (e2:doOp ih op t h=opV op t h) (hd:zeW ih op t h=some (.val v h1)):doOp ih op t h=some (v,h1):=by
 rw[e1] at hd
 obtain⟨x,hx,e⟩:=amf hd
 cases e
 rw[e2];exact hx
theorem doOp_of {ih:IH} {op:COp} {t:zl} {h h1:H} {v:Value} (hd:zeW ih op t h=some (.val v h1)):doOp ih op t h=some (v,h1):=by
 cases op
 case call f args=>
  obtain⟨fv,hf,hd⟩:=aof hd
  obtain⟨l,hl,hd⟩:=aof hd
  obtain⟨o,ho,hd⟩:=aof hd
  show((f.ev t).bind fun f=>(evL t args).bind fun l=>(ih (.call f l h)).bind zgA)=_
  rw[hf,hl,Option.bind_some,Option.bind_some,ho]
  cases o<;>first| (cases hd;rfl)|cases hd
 case invoke tbl x args=>
  obtain⟨fv,hf,hd⟩:=aof hd
  obtain⟨r,hr,hd⟩:=aof hd
  obtain⟨l,hl,hd⟩:=aof hd
  obtain⟨o,ho,hd⟩:=aof hd
  show((x.ev t).bind fun v=>(zeH tbl v).bind fun r=>(evL t args).bind fun l=>(ih (.call (.func (.func r.1) #[] #[]) (r.2::l) h)).bind zgA)=_
  rw[hf,Option.bind_some,hr,Option.bind_some,hl,Option.bind_some,ho]
  cases o<;>first| (cases hd;rfl)|cases hd
 case panic x=>
  obtain⟨u,hu,hd⟩:=aof hd
  unfold panV at hd
  split at hd<;>cases hd
 all_goals exact doOp_of' rfl rfl hd
theorem zfw {kk:DS→VM→Prop} {w0:Wd} {M0:VM} {h0:H}: ∀{l:List CI} {bs:List Mo} {s:DS} {M:VM},zdp (rD F n0) l bs s M kk→ ∀{w:Wd} {h:H} {t:zl} {cs:List (Nat×H)},St n0 w0 M0 h0 w M h→SRel w s t→BsOk s t w M h bs cs→
 ∃n t' h' w' M' s',zbA (E F n) l cs t h=some (t',h')∧St n0 w0 M0 h0 w' M' h'∧SRel w' s' t'∧kk s' M'
 | [],bs,s,M,hk,w,h,t,cs,hst,hs,hb=>⟨0,t,h,w,M,s,rfl,hst,hs,hk⟩
 |o::l,bs,s,M,hk,w,h,t,cs,hst,hs,hb=>by
  have fin: ∀{n v h1 cs1 w1 M1 d bs1},zbb (E F n) o cs t h=some (v,h1,cs1)→Hist w M h w1 M1 h1→HRel w1 M1 h1→VRel w1 d v→BsOk (zY o.dst d s) (zU o.dst v t) w1 M1 h1 bs1 cs1→zdp (rD F n0) l bs1 (zY o.dst d s) M1 kk→
   ∃n t' h' w' M' s',zbA (E F n) (o::l) cs t h=some (t',h')∧St n0 w0 M0 h0 w' M' h'∧SRel w' s' t'∧kk s' M':=fun{n v h1 cs1 w1 M1 d bs1} e1 e2 e3 e4 e5 e6=>by
   obtain⟨m,t',h',w',M',s',a1,a2⟩:=zfw e6 (hst.step e2 e3) ((hs.mono e2.le).put e4 o.dst) e5
   refine⟨max n m,t',h',w',M',s',?_,a2⟩
   rw[zcv,zfN (E_le (Nat.le_max_left n m)) e1,Option.bind_some]
   exact zdQ (E_le (Nat.le_max_right n m)) a1
  unfold zdp at hk
  cases hw:isW o.op with
  |true=>
   rw[hw] at hk
   obtain⟨b,hbb,hk⟩:=zbv (show ofD (wantD o.guard s) _ from hk)
   have hwt:=zeu hs hbb
   cases b with
   |true=>
    obtain⟨n,out,h1,h2⟩:=wDo_sound hk hst.r hs
    cases out with
    |val v h1'=>
     obtain⟨w1,M1,d,a1,a2,a3,a4⟩:=h2
     refine fin (n:=n) (v:=v) (h1:=h1') (cs1:=(zjm cs,h1')::cs) ?_ a1 a2 a3 ?_ a4
     ·unfold zbb
      rw[hwt,Option.bind_some]
      show zdS _ _ _ _ _=_
      unfold zdS
      rw[if_pos hw,doOp_of h1];rfl
     ·refine⟨⟨hb.next,w1,a2,.refl _ _ _,fun p _ e he=>((hs.mono a1.le).put a3 o.dst) p e he⟩,hb.map fun x y hx=>hx.put a1 o.dst⟩
    |pan=>obtain⟨_,_,_,_,_,_,h⟩:=h2;exact h.elim
    |nrm=>exact h2.elim
    |exit=>exact h2.elim
    |ret=>exact h2.elim
   |false=>
    refine fin (n:=0) (v:=zM) (h1:=h) (cs1:=(zjm cs,h)::cs) ?_ (.refl _ _ _) hst.r (.tup_of .nil) ?_ hk
    ·unfold zbb
     rw[hwt,Option.bind_some]
     show some (zM,h,if isW o.op then _ else _)=_
     rw[if_pos hw]
    ·exact⟨⟨hb.next,w,hst.r,.refl _ _ _,fun p _ e he=>(hs.put (.tup_of .nil) o.dst) p e he⟩,hb.map fun x y hx=>hx.put (.refl _ _ _) o.dst⟩
  |false=>
   rw[hw] at hk
   have gfalse:zbn o.guard t=some false→ ∀n,zbb (E F n) o cs t h=some (zM,h,cs):=fun hwt n=>by
    unfold zbb
    rw[hwt,Option.bind_some]
    show some (zM,h,if isW o.op then _ else _)=_
    rw[hw,if_neg (by decide)]
   have good: ∀{v:Value} {d:DV},(∀x y,MoOk s t w M h x y→zcX x.bad (zq o.op)=true→ ∀wx,HRel wx x.M y.2→Hist wx x.M y.2 w M h→(∀p,inP x.bad p=false→ ∀d,getS s p=some d→ ∃v,t.get p=some v∧VRel wx d v)→VRel wx d v)→
    BsOk (zY o.dst d s) (zU o.dst v t) w M h (bs.map (zf9 (zq o.op) o.dst)) cs:=fun{v d} hg=>hb.map fun x y hx=>by
    unfold zf9
    cases hf:zcX x.bad (zq o.op) with
    |true=>exact hx.putGood (.refl _ _ _) o.dst (hg x y hx hf)
    |false=>exact hx.put (.refl _ _ _) o.dst
   cases hrd:isRd o.op with
   |true=>
    rw[hrd] at hk
    obtain⟨b,hbb,hk⟩:=zbv hk
    have hwt:=zeu hs hbb
    cases b with
    |false=>exact fin (n:=0) (gfalse hwt 0) (.refl _ _ _) hst.r (.tup_of .nil) (good fun _ _ _ _ _ _ _ _=>.tup_of .nil) hk
    |true=>
     match bs,cs,hb,hk with
     | [],_,_,hk=>exact hk.elim
     |_::_,[],hb,_=>exact hb.elim
     |x::r,y::c,hb,hk=>
      obtain⟨d,M2,hd,k1,k2,k3,k4⟩:=okD_of (show okD (opD o.op s M) (fun d _=>rdAt (zbO s o.op) (zq o.op) M x∧rdOk (zbO s o.op) (zq o.op) M o.lo r∧zjN (x::r) d=true∧zdp (rD F n0) l (x::zij o.lo o.dst r) (zY o.dst d s) M kk) from hk)
      have hsub: ∀p∈zq o.op,p∈zq o.op:=fun p hp=>hp
      obtain⟨v,h1,h2,h3⟩:=read_at hrd hst.r hsub hb.1 k1 hd
      obtain⟨-,v',hv',hg⟩:=zio hrd hst.r (hs.N _) hd
      have:=hg h (fun _ _=>rfl)
      rw[h2] at this;cases this
      have he:r≠[]→eqVal v v=true:=fun hne=>by
       cases r with
       |nil=>exact absurd rfl hne
       |cons=>exact selfEq_refl k3 hv'
      obtain⟨r1,r2⟩:=reads_ok hrd o.dst hst.r hsub hd h2 he hb.2 k2
      refine fin (n:=0) (v:=v) (h1:=h) (cs1:=y::c) ?_ (.refl _ _ _) hst.r hv' (bs1:=x::zij o.lo o.dst r) ⟨hb.1.putGood (.refl _ _ _) o.dst h3,r2⟩ k4
      unfold zbb
      rw[hwt,Option.bind_some]
      show zdS _ _ _ _ _=_
      unfold zdS
      rw[if_neg (by rw[hw];decide),if_pos hrd]
      show(opV o.op t y.2).bind _=_
      rw[h1,Option.bind_some,if_pos r1]
   |false=>
    rw[hrd] at hk
    have hE: ∀{n v h1},zc9 (E F n) o t h=some (.val v h1)→zbb (E F n) o cs t h=some (v,h1,cs):=fun{n v h1} h2=>by
     unfold zbb
     obtain⟨b,hb1,h3⟩:=aof h2
     rw[hb1,Option.bind_some]
     cases b with
     |false=>cases h3;show some (zM,h,if isW o.op then _ else _)=_;rw[hw,if_neg (by decide)]
     |true=>
      have h4:=doOp_of h3
      show zdS _ _ _ _ _=_
      unfold zdS
      rw[if_neg (by rw[hw];decide),if_neg (by rw[hrd];decide)]
      have:opV o.op t h=some (v,h1):=by
       cases ho:o.op<;>rw[ho] at h4 hw<;>first|exact h4|cases hw
      rw[this];rfl
    cases hfl:isFl o.op with
    |false=>
     rw[hfl] at hk
     obtain⟨n,out,h1,h2⟩:=zhS hk hst.r hs
     cases out with
     |val v h1'=>
      obtain⟨w1,M1,d,a1,a2,a3,a4⟩:=h2
      exact fin (hE h1) a1 a2 a3 (hb.map fun x y hx=>hx.put a1 o.dst) a4
     |pan=>obtain⟨_,_,_,_,_,_,h⟩:=h2;exact h.elim
     |nrm=>exact h2.elim
     |exit=>exact h2.elim
     |ret=>exact h2.elim
    |true=>
     rw[hfl] at hk
     obtain⟨b,hbb,hk⟩:=zbv (show ofD (wantD o.guard s) _ from hk)
     have hwt:=zeu hs hbb
     cases b with
     |false=>exact fin (n:=0) (gfalse hwt 0) (.refl _ _ _) hst.r (.tup_of .nil) (good fun _ _ _ _ _ _ _ _=>.tup_of .nil) hk
     |true=>
      have hop:wDo (rD F n0) o.op s M (fun _ _=>False) (fun v M=>zdp (rD F n0) l (bs.map (zf9 (zq o.op) o.dst)) (zY o.dst v s) M kk)=okD (opD o.op s M) (fun v M=>zdp (rD F n0) l (bs.map (zf9 (zq o.op) o.dst)) (zY o.dst v s) M kk):=by
       cases ho:o.op<;>first|rfl| (rw[ho] at hw;cases hw)
      have hk:=hop▸(show wDo (rD F n0) o.op s M (fun _ _=>False) (fun v M=>zdp (rD F n0) l (bs.map (zf9 (zq o.op) o.dst)) (zY o.dst v s) M kk) from hk)
      obtain⟨d,M1,hd,hk2⟩:=okD_of hk
      obtain⟨e1,v,hv,hg⟩:=ziq hfl hst.r.ty (hs.N _) hd
      subst e1
      refine fin (n:=0) (hE ?_) (.refl _ _ _) hst.r hv (good fun x y hx hf wx a b c=> ?_) hk2
      ·unfold zc9
       rw[hwt,Option.bind_some]
       show zeW _ _ _ _=_
       have:zeW (E F 0) o.op t h=(opV o.op t h).map valO:=by
        cases ho:o.op<;>first|rfl| (rw[ho] at hw;cases hw)
       rw[this,hg h];rfl
      ·obtain⟨-,v',hv',hg'⟩:=ziq hfl (w:=wx) (fun j R op sz rs ho hR=>hst.r.ty j R op sz rs ho (b.le.rho _ _ hR)) (fun p hp e he=>c p (zfL hf p hp) e he) hd
       have:=hg' h
       rw[hg h] at this;cases this;exact hv'
end
end Go.Ideal
namespace Go.Ideal
variable {F:FuncId→Option zm} {n0:Nat}
theorem E_up {n m:Nat} (h:n≤m) {t:Task} {o:Out} (e:E F n t=some o):E F m t=some o:=E_le h t o e
theorem zgP {w:Wd} {s:DS} {t:zl} (h:SRel w s t) (L:List (List Bool)):SRel w (zbu L s) t:=fun p d e=>h p d (zj3 e).1
theorem zil {w0:Wd} {M0:VM} {h0:H} {K:KD} {s:DS} {M:VM} {pend:Option CC} (hk:pendD K s M pend) {w:Wd} {h:H} {t:zl} (hst:St n0 w0 M0 h0 w M h) (hs:SRel w s t): ∃o,zjj t h pend=some o∧OutK n0 w0 M0 h0 K o:=by
 unfold pendD at hk
 split at hk
 ·exact⟨_,rfl,w,M,s,hst,hs,hk⟩
 ·exact⟨_,rfl,w,M,s,hst,hs,hk⟩
 ·exact⟨_,rfl,w,M,s,hst,hs,hk⟩
 ·exact hk.elim
theorem zc7: ∀(c:CC) {K:KD} {s:DS} {M:VM},wp (rD F n0) c K s M→zfS F n0 c K s M:=by
 intro c
 induction c with
 |skip=>intro K s M hk w0 M0 h0 w h t hst hs;exact⟨1,.nrm t h,rfl,w,M,s,hst,hs,hk⟩
 |ops l=>
  intro K s M hk w0 M0 h0 w h t hst hs
  obtain⟨n,o,h1,h2⟩:=zjD hk hst hs
  exact⟨n+1,o,h1,OutK.mono (K:=⟨K.nrm,fun _ _ _=>False,fun _ _=>False,K.pan⟩) (K':=K) (fun _ _ q=>q) (fun _ _ _ q=>False.elim q) (fun _ _ q=>False.elim q) (fun _ _ _ q=>q) h2⟩
 |draw l=>
  intro K s M hk w0 M0 h0 w h t hst hs
  obtain⟨n,t',h',w',M',s',h1,h2,h3,h4⟩:=zfw hk hst hs (cs:=[(0,h)]) ⟨⟨rfl,w,hst.r,.refl _ _ _,fun p _ d e=>hs p d e⟩,trivial⟩
  exact⟨n+1,.nrm t' h',by show(zbA (E F n) l [(0,h)] t h).map nrmOf=_;rw[h1];rfl,w',M',s',h2,h3,h4⟩
 |draw2 l x y=>
  intro K s M hk w0 M0 h0 w h t hst hs
  obtain⟨n,t',h',w',M',s',h1,h2,h3,h4⟩:=zfw hk hst hs (cs:=[(0,h)]) ⟨⟨rfl,w,hst.r,.refl _ _ _,fun p _ d e=>hs p d e⟩,trivial⟩
  suffices hh: ∃h2' w2 M2,zcB x.op y.op t' h'=some h2'∧St n0 w0 M0 h0 w2 M2 h2'∧SRel w2 s' t'∧K.nrm s' M2 by
   obtain⟨h2',w2,M2,a,b,c,d⟩:=hh
   exact⟨n+1,.nrm t' h2',by show((zbA (E F n) l [(0,h)] t h).bind fun r=>(zcB x.op y.op r.1 r.2).map fun h=>Out.nrm r.1 h)=_;rw[h1,Option.bind_some,a];rfl,w2,M2,s',b,c,d⟩
  cases hx:x.op<;>rw[hx] at h4<;>first|exact h4.elim|skip
  cases hy:y.op<;>rw[hy] at h4<;>first|exact h4.elim|skip
  rename_i n1 a b n2 c d
  obtain⟨da,ea,h4⟩:=zbv h4
  obtain⟨db,eb,h4⟩:=zbv h4
  obtain⟨dc,ec,h4⟩:=zbv h4
  obtain⟨dd,ed,h4⟩:=zbv h4
  obtain⟨va,fa,ra⟩:=zbK h3 ea
  obtain⟨vb,fb,rb⟩:=zbK h3 eb
  obtain⟨vc,fc,rc⟩:=zbK h3 ec
  obtain⟨vd,fd,rd⟩:=zbK h3 ed
  cases da with
  |ptr i u1 v1=>
   cases dc with
   |ptr j u2 v2=>
    obtain⟨hij,h4⟩:=h4
    obtain⟨M2,hs1,h4⟩:=zbv h4
    obtain⟨M3,hs2,h4⟩:=zbv h4
    obtain⟨b1,o1,g1,rfl,q1,q2,q3,q4,j1,i1,u1,R1,e1,k1,k2⟩:=zgC h2.r hs1 rb ra
    obtain⟨b2,o2,g2,rfl,p1,p2,p3,p4,j2,i2,u2,R2,e2,l1,l2⟩:=zgC q4 hs2 rd rc
    cases e1;cases e2
    have live: ∀{M M':VM} {n x j i o},zey n M x (.ptr j i o)=some M'→(M.get j).isSome=true:=fun{M M' n x j i o} hd=>by
     obtain⟨ob,ho,_⟩:=aof (show(M.obj j).bind _=some M' from hd)
     obtain⟨st,hg⟩:=zbw ho
     rw[hg];rfl
    have hne:b1≠b2:=fun e=>by
     have h5:(M2.get i).isSome=true:=by
      obtain⟨ob,ho,h6⟩:=aof (show(M'.obj i).bind _=some M2 from hs1)
      cases ob with
      |rows op sz rs=>
       obtain⟨r,hri,h6⟩:=aof (show(rs[u1]?).bind _=some M2 from h6)
       split at h6
       ·obtain⟨r',hw,rfl⟩:=amf h6
        rw[get_put,if_pos rfl];rfl
       ·cases h6
      |_=>cases h6
     exact hij (q4.inj i j R1 R2 k1 l1 h5 (live hs2) (by rw[k2,l2,e]))
    refine⟨g2,w',M3,?_,(h2.step q3 q4).step p3 p4,h3,h4⟩
    show(a.ev t').bind _=_
    rw[fa,Option.bind_some,fb,Option.bind_some,fc,Option.bind_some,fd,Option.bind_some]
    unfold store2
    show(if Nat.beq b1 b2 then _ else _)=_
    rw[if_neg (fun e=>hne (Nat.eq_of_beq_eq_true e)),if_pos (by rw[q1,p1];rfl),q2,Option.bind_some,p2]
   |_=>exact h4.elim
  |_=>exact h4.elim
 |seq a L b iha ihb=>
  intro K s M hk w0 M0 h0 w h t hst hs
  obtain⟨n,o,h1,h2⟩:=iha hk w0 M0 h0 w h t hst hs
  have step: ∀{m o'},(∀k,max n m≤k→(E F k (.code a t h)).bind (thenK (E F k) L b)=some o')→OutK n0 w0 M0 h0 K o'→ ∃n o,E F n (.code (.seq a L b) t h)=some o∧OutK n0 w0 M0 h0 K o:=fun{m o'} e q=>⟨max n m+1,o',e _ (Nat.le_refl _),q⟩
  cases o with
  |nrm t1 h1'=>
   obtain⟨w1,M1,s1,a1,a2,a3⟩:=h2
   obtain⟨m,o2,b1,b2⟩:=ihb a3 w0 M0 h0 w1 h1' (zbi L t1) a1 (a2.keep L)
   exact step (m:=m) (fun k hk'=>by rw[E_up (by omega) h1];exact E_up (by omega) b1) b2
  |exit i t1 h1'=>exact step (m:=0) (fun k hk'=>by rw[E_up (by omega) h1];rfl) (show OutK n0 w0 M0 h0 K (.exit i t1 h1') from h2)
  |ret t1 h1'=>exact step (m:=0) (fun k hk'=>by rw[E_up (by omega) h1];rfl) (show OutK n0 w0 M0 h0 K (.ret t1 h1') from h2)
  |pan v t1 h1'=>exact step (m:=0) (fun k hk'=>by rw[E_up (by omega) h1];rfl) (show OutK n0 w0 M0 h0 K (.pan v t1 h1') from h2)
  |val=>exact h2.elim
 |cond c a b iha ihb=>
  intro K s M hk w0 M0 h0 w h t hst hs
  obtain⟨d,hd,hk⟩:=zbv hk
  obtain⟨v,hv,hr⟩:=zbK hs hd
  unfold wIf at hk
  split at hk
  ·obtain⟨n,o,h1,h2⟩:=iha hk w0 M0 h0 w h t hst hs
   refine⟨n+1,o,?_,h2⟩
   show(c.ev t).bind _=_
   rw[hv,hr.inv_bool];exact h1
  ·obtain⟨n,o,h1,h2⟩:=ihb hk w0 M0 h0 w h t hst hs
   refine⟨n+1,o,?_,h2⟩
   show(c.ev t).bind _=_
   rw[hv,hr.inv_bool];exact h1
  ·exact hk.elim
 |block i b ih=>
  intro K s M hk w0 M0 h0 w h t hst hs
  obtain⟨n,o,h1,h2⟩:=ih hk w0 M0 h0 w h t hst hs
  refine⟨n+1,zft i o,by show(E F n _).map _=_;rw[h1];rfl,?_⟩
  cases o with
  |exit j t1 h1'=>
   obtain⟨w1,M1,s1,a1,a2,a3⟩:=h2
   have a3:blkD i K j s1 M1:=a3
   unfold blkD at a3
   unfold zft
   dsimp only
   split at a3
   ·rename_i e;rw[e];exact⟨w1,M1,s1,a1,a2,a3⟩
   ·rename_i e;rw[e];exact⟨w1,M1,s1,a1,a2,a3⟩
  |_=>exact h2
 |loop L b ih=>
  intro K s M hk w0 M0 h0 w h t hst hs
  exact hk w0 M0 h0 w h t hst (zgP hs L)
 |rangeFunc rid L f ps as b _ _=>
  intro K s M hk w0 M0 h0 w h t hst hs
  obtain⟨d,hd,hk⟩:=zbv hk
  obtain⟨v,hv,hr⟩:=zbK hs hd
  cases d with
  |fn g a c=>
   obtain⟨a',c',rfl,ha,hc⟩:=hr.inv_fn
   have hle:=Wd.add_le (w:=w) (j:=M.next) (R:=⟨h.next,0,false⟩) (hst.r.rho_none (Nat.le_refl _))
   obtain⟨p1,p2⟩:=hst.r.new (o:=.loop .ready none (zbu L s) ⟨rid,L,ps,as,b⟩) (e:=.loop .ready none (zbi L t) ⟨rid,L,ps,as,b⟩) (sz:=0) (op:=false) (.loop ((hs.mono hle).keep L))
   have hy:VRel (w.add M.next ⟨h.next,0,false⟩) (.yld M.next) (.func (.yield h.next) #[] #[]):=.yld (R:=⟨h.next,0,false⟩) ze4
   obtain⟨n,o,h1,h2⟩:=hk _ _ _ _ p1 (hr.mono hle) (.cons hy .nil)
   cases o with
   |val v h1'=>
    obtain⟨w1,M1,d1,a1,a2,a3,a4⟩:=h2
    obtain⟨ob,ho,a4⟩:=zbv a4
    obtain⟨st,hg⟩:=zbw ho
    have hR:=a1.le.rho _ _ (ze4 (w:=w) (j:=M.next) (R:=⟨h.next,0,false⟩))
    obtain⟨hz,e,he,hro⟩:=a2.obj _ _ st _ hg hR
    have hst1:=(hst.step p2 p1).step a1 a2
    have hs1:=(hs.mono hle).mono a1.le
    have fin: ∀{o'},zeb h.next t h1' e=some o'→E F (n+1) (.code (.rangeFunc rid L f ps as b) t h)=some o':=fun{o'} hq=>by
     show((f.ev t).bind fun f=>(isFn f).bind fun f=>(E F n (.call f [.func (.yield h.next) #[] #[]] (h.new (.loop .ready none (zbi L t) ⟨rid,L,ps,as,b⟩)))).bind fun o=>(zgA o).bind fun x=>(x.2.get h.next).bind (zeb h.next t x.2))=_
     rw[hv,Option.bind_some]
     show((E F n _).bind _)=_
     rw[h1,Option.bind_some]
     show((h1'.get h.next).bind _)=_
     rw[he,Option.bind_some,hq]
    cases hro with
    | @loop st1 pend sl sl' rc hsl=>
      have hput:=a2.put hg hR (o:=.loop .exhausted pend sl rc) (e:=.loop .exhausted pend sl' rc) (.loop hsl)
      cases st1 with
      |ready=>
       obtain⟨o',q1,q2⟩:=zil a4 (hst1.step hput.2 hput.1) hs1
       exact⟨n+1,o',fin q1,q2⟩
      |done=>
       obtain⟨o',q1,q2⟩:=zil a4 (hst1.step hput.2 hput.1) hs1
       exact⟨n+1,o',fin q1,q2⟩
      |_=>exact a4.elim
    |rows=>exact a4.elim
    |map=>exact a4.elim
   |pan=>obtain⟨_,_,_,_,_,_,q⟩:=h2;exact q.elim
   |nrm=>exact h2.elim
   |exit=>exact h2.elim
   |ret=>exact h2.elim
  |_=>exact hk.elim
 |exit i=>intro K s M hk w0 M0 h0 w h t hst hs;exact⟨1,.exit i t h,rfl,w,M,s,hst,hs,hk⟩
 |ret=>intro K s M hk w0 M0 h0 w h t hst hs;exact⟨1,.ret t h,rfl,w,M,s,hst,hs,hk⟩
 |scope b l1 r1 l2 r2=>intro K s M hk;exact hk
def scopeX (F:FuncId→Option zm) (n0:Nat) (l1:Nat) (r1:CC) (l2:Nat) (r2:CC) (K:KD) (i:Nat) (s:DS) (M:VM):Prop:=match Nat.beq i (zbs l1) with
 |true=>zkg F n0 r1 l1 r1 l2 r2 K s M
 |false=>match Nat.beq i (zbs l2) with
  |true=>zkg F n0 r2 l1 r1 l2 r2 K s M
  |false=>K.ext i s M
theorem zkg.step {b:CC} {l1:Nat} {r1:CC} {l2:Nat} {r2:CC} {K:KD} {s:DS} {M:VM} (h:wp (rD F n0) b ⟨K.nrm,scopeX F n0 l1 r1 l2 r2 K,K.ret,K.pan⟩ s M):zkg F n0 b l1 r1 l2 r2 K s M:=by
 intro w0 M0 h0 w hp t hst hs
 obtain⟨n,o,h1,h2⟩:=zc7 b h w0 M0 h0 w hp t hst hs
 have plain:scopeK (E F n) l1 r1 l2 r2 o=some o→OutK n0 w0 M0 h0 K o→ ∃n o,E F n (.code (.scope b l1 r1 l2 r2) t hp)=some o∧OutK n0 w0 M0 h0 K o:=fun e k=>⟨n+2,o,by show(E F n (.code b t hp)).bind (scopeK (E F n) l1 r1 l2 r2)=_;rw[h1,Option.bind_some,e],k⟩
 cases o with
 |nrm t1 h1'=>exact plain rfl h2
 |ret t1 h1'=>exact plain rfl h2
 |pan v t1 h1'=>exact plain rfl h2
 |val=>exact h2.elim
 |exit i t1 h1'=>
  obtain⟨w1,M1,s1,a1,a2,a3⟩:=h2
  have a3:scopeX F n0 l1 r1 l2 r2 K i s1 M1:=a3
  have jump: ∀{r:CC},(∀g:IH,zbN g l1 r1 l2 r2 i t1 h1'=g (.scope r l1 r1 l2 r2 t1 h1'))→zkg F n0 r l1 r1 l2 r2 K s1 M1→ ∃n o,E F n (.code (.scope b l1 r1 l2 r2) t hp)=some o∧OutK n0 w0 M0 h0 K o:=by
   intro r e a3
   obtain⟨m,o2,b1,b2⟩:=a3 w0 M0 h0 w1 h1' t1 a1 a2
   cases m with
   |zero=>cases b1
   |succ m=>
    have b1:E F m (.scope r l1 r1 l2 r2 t1 h1')=some o2:=b1
    refine⟨max n m+2,o2,?_,b2⟩
    show(E F (max n m) (.code b t hp)).bind (scopeK (E F (max n m)) l1 r1 l2 r2)=_
    rw[E_up (Nat.le_max_left n m) h1,Option.bind_some]
    show zbN _ _ _ _ _ _ _ _=_
    rw[e];exact E_up (Nat.le_max_right n m) b1
  unfold scopeX at a3
  cases e1:Nat.beq i (zbs l1) with
  |true=>rw[e1] at a3;exact jump (fun g=>by unfold zbN;rw[e1]) a3
  |false=>
   rw[e1] at a3
   cases e2:Nat.beq i (zbs l2) with
   |true=>rw[e2] at a3;exact jump (fun g=>by unfold zbN;rw[e1,e2]) a3
   |false=>
    rw[e2] at a3
    exact plain (by show zbN _ _ _ _ _ _ _ _=_;unfold zbN;rw[e1,e2]) ⟨w1,M1,s1,a1,a2,a3⟩
theorem zbB.step {L:List (List Bool)} {b:CC} {K:KD} {s:DS} {M:VM} (h:wp (rD F n0) b ⟨fun s M=>zbB F n0 L b K (zbu L s) M,K.ext,K.ret,K.pan⟩ (zbu L s) M):zbB F n0 L b K s M:=by
 intro w0 M0 h0 w hp t hst hs
 obtain⟨n,o,h1,h2⟩:=zc7 b h w0 M0 h0 w hp (zbi L t) hst (hs.keep L)
 cases o with
 |nrm t1 h1'=>
  obtain⟨w1,M1,s1,a1,a2,a3⟩:=h2
  obtain⟨m,o2,b1,b2⟩:=a3 w0 M0 h0 w1 h1' t1 a1 (zgP a2 L)
  exact⟨max n m+1,o2,by show(E F _ (.code b _ hp)).bind _=_;rw[E_up (Nat.le_max_left n m) h1];exact E_up (Nat.le_max_right n m) b1,b2⟩
 |exit i t1 h1'=>exact⟨n+1,.exit i t1 h1',by show(E F _ (.code b _ hp)).bind _=_;rw[h1];rfl,(show OutK n0 w0 M0 h0 K (.exit i t1 h1') from h2)⟩
 |ret t1 h1'=>exact⟨n+1,.ret t1 h1',by show(E F _ (.code b _ hp)).bind _=_;rw[h1];rfl,(show OutK n0 w0 M0 h0 K (.ret t1 h1') from h2)⟩
 |pan v t1 h1'=>exact⟨n+1,.pan v t1 h1',by show(E F _ (.code b _ hp)).bind _=_;rw[h1];rfl,(show OutK n0 w0 M0 h0 K (.pan v t1 h1') from h2)⟩
 |val=>exact h2.elim
theorem resD_rel {w:Wd} {M:VM} {h:H} (hr:HRel w M h) {s:DS} {t:zl} (hs:SRel w s t) {r:CR} {d:DV} (hd:resD s M r=some d): ∃v,resV t h r=some v∧VRel w d v:=by
 cases r with
 |tmp p=>exact hs p d hd
 |cell n p=>
  obtain⟨a,ha,hd⟩:=aof (show(getS s p).bind _=some d from hd)
  obtain⟨r,hr1,hd⟩:=aof hd
  obtain⟨v,hv,r1⟩:=hs p a ha
  obtain⟨b,off,cs,e,us,tl,rfl,hg,hb,hsp,hl⟩:=zie hr hr1 r1
  cases n with
  |some n=>
   obtain⟨y,hy,rfl⟩:=amf (show(zdZ n r).map DV.agg=some d from hd)
   obtain⟨hn,rfl⟩:=ze7 hy
   refine⟨_,?_,.agg_of (hl.take n)⟩
   show(t.get p).bind _=_
   rw[hv]
   show(h.readN b off n).map _=_
   rw[ze9 hg hsp (by rw[←hl.len];exact hn) hl.clean];rfl
  |none=>
   have hd:oneD r=some d:=hd
   unfold oneD at hd
   split at hd
   ·cases hd
    obtain⟨u,us',rfl,hu,hus⟩:=hl.head
    refine⟨u,?_,hu⟩
    show(t.get p).bind _=_
    rw[hv]
    show(h.readN b off 1).bind oneOf=_
    rw[ze9 hg hsp (by simp) hl.clean];rfl
   ·cases hd
theorem resDL_rel {w:Wd} {M:VM} {h:H} (hr:HRel w M h) {s:DS} {t:zl} (hs:SRel w s t): ∀{rs:List CR} {ds:List DV},zjh s M rs=some ds→ ∃vs,allO (resV t h) rs=some vs∧LRel w ds vs
 | [],ds,h=>by cases h;exact⟨[],rfl,.nil⟩
 |r::rs,ds,hd=>by
  obtain⟨d,h1,hd⟩:=aof hd
  obtain⟨l,h2,rfl⟩:=amf hd
  obtain⟨v,h3,h4⟩:=resD_rel hr hs h1
  obtain⟨vs,h5,h6⟩:=resDL_rel hr hs h2
  exact⟨v::vs,by show(resV t h r).bind _=_;rw[h3];show(allO _ _).map _=_;rw[h5];rfl,.cons h4 h6⟩
theorem tupleD_rel {w:Wd} {ds:List DV} {vs:List Value} (h:LRel w ds vs):VRel w (zhT ds) (zfx vs):=by
 match ds,vs,h with
 | [],vs,h=>rw[h.inv_nil];exact .tup_of .nil
 | [d],vs,h=>
   obtain⟨v,r,rfl,hv,hr⟩:=h.head
   rw[hr.inv_nil];exact hv
 |d::e::l,vs,h=>
  obtain⟨v,r,rfl,hv,hr⟩:=h.head
  obtain⟨v2,r2,rfl,hv2,hr2⟩:=hr.head
  exact .tup_of h
theorem zdP {w w0:Wd} {M M0:VM} {h h0:H} {s:DS} {t:zl} {rs:List CR} {k kp:DV→VM→Prop} (hst:St n0 w0 M0 h0 w M h) (hs:SRel w s t) (hk:endD rs k s M): ∃o,zf5 rs t h=some o∧OutC w0 M0 h0 k kp o∧(∃v,o=.val v h):=by
 obtain⟨ds,hd,hk⟩:=zbv hk
 obtain⟨vs,h1,h2⟩:=resDL_rel hst.r hs hd
 exact⟨.val (zfx vs) h,by unfold zf5;rw[h1];rfl,⟨w,M,_,hst.hi,hst.r,tupleD_rel h2,hk⟩,_,rfl⟩
theorem zi5 {w:Wd}: ∀{ds:List DV} {vs:List Value} {i:Nat} {s:DS} {t:zl},LRel w ds vs→SRel w s t→SRel w (argsD ds i s) (zbW vs i t)
 | [],vs,i,s,t,h,hs=>by rw[h.inv_nil];exact hs
 |d::ds,vs,i,s,t,h,hs=>by
  obtain⟨v,r,rfl,hv,hr⟩:=h.head
  exact zi5 (ds:=ds) (vs:=r) hr (hs.set hv (bits i))
theorem handE_sound {f:DV} {l:List DV} {p:Option DV} {rs:List CR} {k kp:DV→VM→Prop} {s:DS} {M:VM} (hk:HandD F f l p M fun M=>endD rs k s M) {w0 w:Wd} {M0:VM} {h0 h:H} {t:zl} {fv:Value} {vs:List Value} {pv:Option Value} (hst:St n0 w0 M0 h0 w M h) (hs:SRel w s t) (hf:VRel w f fv) (hl:LRel w l vs) (hp:ORelO w p pv):
 ∃n o,(E F n (.hand fv vs pv h)).bind (resK1 rs t)=some o∧OutC w0 M0 h0 k kp o:=by
 obtain⟨n,v,h1,w1,M1,e,a1,a2,a3⟩:=hk w h fv vs pv hst.r hf hl hp
 obtain⟨o,h2,h3,-⟩:=zdP (kp:=kp) (hst.step a1 a2) (hs.mono a1.le) a3
 exact⟨n,o,by rw[e];exact h2,h3⟩
theorem zt.func {g:Nat} {a c args:List DV} {M:VM} {k kp:DV→VM→Prop} {cf:zm} (hF:F g=some cf) (hp:cf.prim=none) (h:wFunc (rD F) cf (a++args++c) M k kp):zt F (.fn g a c) args M k kp:=by
 intro w hp0 fv vs hr hf hv
 obtain⟨a',c',rfl,ha,hc⟩:=hf.inv_fn
 have hall:=(ha.append hv).append hc
 obtain⟨hlen,hw⟩:=h
 have hst:St M.next w M hp0 w M hp0:=⟨rfl,hr,.refl _ _ _,hr⟩
 obtain⟨n,o,h1,h2⟩:=zc7 cf.body hw w M hp0 w hp0 (zbW (a'++vs++c') 0 .nil) hst (zi5 hall .nil)
 have fin: ∀{m o'},n≤m→bodyK (E F m) cf.results cf.dfr o=some o'→E F (m+1) (.call (.func (.func g) ⟨a'⟩ ⟨c'⟩) vs hp0)=some o':=fun{m o'} hm e=>by
  show((F g).bind fun cf=>zcQ (E F m) cf (a'++vs++c') hp0)=_
  rw[hF,Option.bind_some]
  unfold zcQ
  rw[hp]
  show zbk _ _ _ _=_
  unfold zbk
  rw[if_pos (by rw[Nat.ble_eq,←hall.len];exact hlen),E_up hm h1,Option.bind_some,e]
 cases hd:cf.dfr with
 |none=>
  rw[hd] at h2
  cases o with
  |nrm t1 h1'=>
   obtain⟨w1,M1,s1,a1,a2,a3⟩:=h2
   obtain⟨o',e1,e2,-⟩:=zdP (kp:=kp) a1 a2 a3
   exact⟨n+1,o',fin (Nat.le_refl _) (by rw[hd];exact e1),e2⟩
  |ret t1 h1'=>
   obtain⟨w1,M1,s1,a1,a2,a3⟩:=h2
   obtain⟨o',e1,e2,-⟩:=zdP (kp:=kp) a1 a2 a3
   exact⟨n+1,o',fin (Nat.le_refl _) (by rw[hd];exact e1),e2⟩
  |pan v t1 h1'=>
   obtain⟨w1,M1,s1,d,a1,a2,a3,a4⟩:=h2
   exact⟨n+1,.pan v .nil h1',fin (Nat.le_refl _) (by rw[hd];rfl),w1,M1,d,a1.hi,a1.r,a3,a4⟩
  |exit=>obtain⟨w1,M1,s1,a1,a2,a3⟩:=h2;exact a3.elim
  |val=>exact h2.elim
 |some df=>
  rw[hd] at h2
  cases o with
  |nrm t1 h1'=>
   obtain⟨w1,M1,s1,a1,a2,a3⟩:=h2
   obtain⟨f,hf1,a3⟩:=zbv a3
   obtain⟨fv,hf2,hf3⟩:=zbK a2 hf1
   cases f with
   |fn g2 fa fc=>
    obtain⟨l,hl1,a3⟩:=zbv a3
    obtain⟨lv,hl2,hl3⟩:=zhJ a2 hl1
    have hst1:St M1.next w1 M1 h1' w1 M1 h1':=⟨rfl,a1.r,.refl _ _ _,a1.r⟩
    obtain⟨n2,o2,b1,b2⟩:=zc7 df.rest a3 w1 M1 h1' w1 h1' (zbi df.L t1) hst1 (a2.keep df.L)
    have hisf:isFn fv=some fv:=by cases hf3;rfl
    have fin2: ∀{m o'},n≤m→n2≤m→zjt (E F m) fv lv cf.results o2=some o'→E F (m+1) (.call (.func (.func g) ⟨a'⟩ ⟨c'⟩) vs hp0)=some o':=fun{m o'} hm hm2 e=>fin hm (by
     rw[hd]
     show((df.f.ev t1).bind fun f=>(isFn f).bind fun f=>(evL t1 df.args).bind fun l=>(E F m (.code df.rest (zbi df.L t1) h1')).bind (zjt (E F m) f l cf.results))=_
     rw[hf2,Option.bind_some,hisf,Option.bind_some,hl2,Option.bind_some,E_up hm2 b1,Option.bind_some,e])
    have done: ∀{t2 h2' p pv} {s2:DS} {M2:VM} {w2:Wd},St M1.next w1 M1 h1' w2 M2 h2'→SRel w2 s2 t2→ORelO w2 p pv→HandD F (.fn g2 fa fc) l p M2 (fun M=>endD cf.results k s2 M)→(∀m,zjt (E F m) fv lv cf.results o2=(E F m (.hand fv lv pv h2')).bind (resK1 cf.results t2))→
     ∃n o,E F n (.call (.func (.func g) ⟨a'⟩ ⟨c'⟩) vs hp0)=some o∧OutC w M hp0 k kp o:=fun{t2 h2' p pv s2 M2 w2} c1 c2 c4 c5 c6=>by
     have c1':St M.next w M hp0 w2 M2 h2':=a1.step c1.hi c1.r
     obtain⟨m,o3,d1,d2⟩:=handE_sound (kp:=kp) c5 c1' c2 (hf3.mono c1.hi.le) (hl3.mono c1.hi.le) c4
     obtain⟨x,hx,hy⟩:=aof d1
     refine⟨max (max n n2) m+1,o3,fin2 (by omega) (by omega) ?_,d2⟩
     rw[c6,E_up (by omega) hx,Option.bind_some,hy]
    cases o2 with
    |nrm t2 h2'=>
     obtain⟨w2,M2,s2,c1,c2,c3⟩:=b2
     exact done (p:=none) (pv:=none) c1 c2 trivial c3 fun m=>rfl
    |ret t2 h2'=>
     obtain⟨w2,M2,s2,c1,c2,c3⟩:=b2
     exact done (p:=none) (pv:=none) c1 c2 trivial c3 fun m=>rfl
    |pan v t2 h2'=>
     obtain⟨w2,M2,s2,d2,c1,c2,c3,c4⟩:=b2
     exact done (p:=some d2) (pv:=some v) c1 c2 c3 c4 fun m=>rfl
    |exit=>obtain⟨_,_,_,_,_,q⟩:=b2;exact q.elim
    |val=>exact b2.elim
   |_=>exact a3.elim
  |pan v t1 h1'=>
   obtain⟨w1,M1,s1,d,a1,a2,a3,a4⟩:=h2
   exact⟨n+1,.pan v .nil h1',fin (Nat.le_refl _) (by rw[hd];rfl),w1,M1,d,a1.hi,a1.r,a3,a4⟩
  |ret=>obtain⟨w1,M1,s1,a1,a2,a3⟩:=h2;exact a3.elim
  |exit=>obtain⟨w1,M1,s1,a1,a2,a3⟩:=h2;exact a3.elim
  |val=>exact h2.elim
theorem HandD.func {g:Nat} {a c args:List DV} {p:Option DV} {M:VM} {k:VM→Prop} {cf:zm} (hF:F g=some cf) (hp:cf.prim=none) (h:wHand (rD F M.next) cf (a++args++c) p M k):HandD F (.fn g a c) args p M k:=by
 intro w hp0 fv vs pv hr hf hv hpv
 obtain⟨a',c',rfl,ha,hc⟩:=hf.inv_fn
 have hall:=(ha.append hv).append hc
 obtain⟨hlen,hw⟩:=h
 have hst:St M.next w M hp0 w M hp0:=⟨rfl,hr,.refl _ _ _,hr⟩
 have hs:=zi5 (i:=0) hall (SRel.nil (w:=w) (t:=.nil))
 have hops: ∀{l:List CI} {p:Option DV} {s:DS} {M1:VM} {k1:Option DV→DS→VM→Prop} {w1:Wd} {h1:H} {t:zl} {pv:Option Value},handD l p s M1 k1→St M.next w M hp0 w1 M1 h1→SRel w1 s t→ORelO w1 p pv→
  ∃pv2 t2 h2 p2 s2 M2 w2,zX l pv t h1=some (pv2,t2,h2)∧St M.next w M hp0 w2 M2 h2∧SRel w2 s2 t2∧ORelO w2 p2 pv2∧k1 p2 s2 M2:=by
  intro l
  induction l with
  |nil=>intro p s M1 k1 w1 h1 t pv hk c1 c2 c3;exact⟨pv,t,h1,p,s,M1,w1,rfl,c1,c2,c3,hk⟩
  |cons o l ih=>
   intro p s M1 k1 w1 h1 t pv hk c1 c2 c3
   obtain⟨b,hb,hk⟩:=zbv hk
   have hwt:=zeu c2 hb
   have e0:zX (o::l) pv t h1=((zbn o.guard t).bind fun b=>match b with
    |true=>zdG o (zX l) pv t h1
    |false=>zX l pv (zU o.dst zM t) h1):=rfl
   rw[e0]
   clear hb e0
   cases b with
   |false=>
    rw[hwt,Option.bind_some]
    exact ih hk c1 (c2.put (.tup_of .nil) o.dst) c3
   |true=>
    rw[hwt,Option.bind_some]
    dsimp only
    have gen:okD (opD o.op s M1) (fun v M=>handD l p (zY o.dst v s) M k1)→zdG o (zX l) pv t h1=((opV o.op t h1).bind fun x=>zX l pv (zU o.dst x.1 t) x.2)→ ∃pv2 t2 h2 p2 s2 M2 w2,zdG o (zX l) pv t h1=some (pv2,t2,h2)∧St M.next w M hp0 w2 M2 h2∧SRel w2 s2 t2∧ORelO w2 p2 pv2∧k1 p2 s2 M2:=fun hq he=>by
     obtain⟨d,M2,q1,q2⟩:=okD_of hq
     obtain⟨v,h',q3,w',q4,q5,q6⟩:=opW_sound c1.r c2 q1
     rw[he,q3,Option.bind_some]
     refine ih q2 (c1.step q5 q6) ((c2.mono q5.le).put q4 o.dst) ?_
     cases p<;>cases pv<;>first|trivial|exact c3.elim|exact VRel.mono q5.le c3
    cases ho:o.op with
    |recov=>
     rw[ho] at hk
     have e1:zdG o (zX l) pv t h1=zX l none (zU o.dst (pv.getD .nilIface) t) h1:=by unfold zdG;rw[ho]
     rw[e1]
     refine ih hk c1 (c2.put ?_ o.dst) trivial
     cases p<;>cases pv<;>first|exact .nilI|exact c3.elim|exact c3
    |_=>
     rw[ho] at hk
     refine gen (by rw[ho];exact hk) (by unfold zdG;rw[ho])
 cases hd:cf.dfr with
 |some=>rw[hd] at hw;exact hw.elim
 |none=>
  rw[hd] at hw
  cases hb:cf.body with
  |seq a0 L b=>
   rw[hb] at hw
   cases a0 with
   |ops l=>
    obtain⟨pv2,t2,h2,p2,s2,M2,w2,e1,e2,e3,e4,e5⟩:=hops hw hst hs hpv
    cases p2 with
    |some=>exact e5.elim
    |none=>
     cases pv2 with
     |some=>exact e4.elim
     |none=>
      obtain⟨n,o,b1,b2⟩:=zc7 b e5 w M hp0 w2 h2 (zbi L t2) e2 (e3.keep L)
      have fin: ∀{v h'},retV cf.results o=some (.val v h')→E F (n+1) (.hand (.func (.func g) ⟨a'⟩ ⟨c'⟩) vs pv hp0)=some (.val v h'):=fun{v h'} e=>by
       show((F g).bind fun cf=>zd7 (E F n) cf (a'++vs++c') pv hp0)=_
       rw[hF,Option.bind_some]
       unfold zd7
       rw[hp,hd]
       dsimp only
       rw[if_pos (by rw[Nat.ble_eq,←hall.len];exact hlen),hb]
       show((zX l pv _ hp0).bind (ziG (E F n) cf.results L b))=_
       rw[e1,Option.bind_some]
       show(E F n _).bind _=_
       rw[b1,Option.bind_some,e]
      cases o with
      |nrm t1 h1'=>
       obtain⟨w1,M1,s1,a1,a2,a3⟩:=b2
       obtain⟨o',q1,q2,v,rfl⟩:=zdP (rs:=cf.results) (k:=fun _ M=>k M) (kp:=fun _ _=>False) a1 a2 a3
       obtain⟨w3,M3,d3,r1,r2,r3,r4⟩:=q2
       exact⟨n+1,v,h1',w3,M3,fin q1,r1,r2,r4⟩
      |ret t1 h1'=>
       obtain⟨w1,M1,s1,a1,a2,a3⟩:=b2
       obtain⟨o',q1,q2,v,rfl⟩:=zdP (rs:=cf.results) (k:=fun _ M=>k M) (kp:=fun _ _=>False) a1 a2 a3
       obtain⟨w3,M3,d3,r1,r2,r3,r4⟩:=q2
       exact⟨n+1,v,h1',w3,M3,fin q1,r1,r2,r4⟩
      |pan=>obtain⟨_,_,_,_,_,_,_,q⟩:=b2;exact q.elim
      |exit=>obtain⟨_,_,_,_,_,q⟩:=b2;exact q.elim
      |val=>exact b2.elim
   |_=>exact hw.elim
  |_=>rw[hb] at hw;exact hw.elim
theorem setSD_rel {w:Wd}: ∀{ps:List (List Bool)} {ds:List DV} {vs:List Value} {s s2:DS} {t:zl},setSD ps ds s=some s2→LRel w ds vs→SRel w s t→ ∃t2,zcm ps vs t=some t2∧SRel w s2 t2
 | [],[],vs,s,s2,t,h,hl,hs=>by rw[hl.inv_nil];cases h;exact⟨t,rfl,hs⟩
 | [],_::_,vs,s,s2,t,h,hl,hs=>by cases h
 |_::_,[],vs,s,s2,t,h,hl,hs=>by cases h
 |p::ps,d::ds,vs,s,s2,t,h,hl,hs=>by
  obtain⟨v,r,rfl,hv,hr⟩:=hl.head
  exact setSD_rel (ps:=ps) h hr (hs.set hv p)
theorem zt.yield {l:Nat} {args:List DV} {M:VM} {k kp:DV→VM→Prop} {st:LoopState} {pend:Option CC} {sl:DS} {rc:RC} (ho:M.obj l=some (.loop st pend sl rc)) (h:wRound (rD F M.next) l sl rc args M k):zt F (.yld l) args M k kp:=by
 intro w hp0 fv vs hr hf hv
 cases hf with
 | @yld _ R hR=>
   obtain⟨stt,hg⟩:=zbw ho
   obtain⟨hz,e,he,hro⟩:=hr.obj _ _ _ R hg hR
   cases hro with
   | @loop _ _ _ sl' _ hsl=>
     have hst:St M.next w M hp0 w M hp0:=⟨rfl,hr,.refl _ _ _,hr⟩
     obtain⟨s,hs,h⟩:=zbv h
     obtain⟨t2,ht2,hs2⟩:=setSD_rel hs hv (hsl.keep rc.L)
     obtain⟨n,o,h1,h2⟩:=zc7 rc.as h w M hp0 w hp0 t2 hst hs2
     have fin: ∀{m o'},n≤m→zd8 (E F m) R.blk rc.b o=some o'→E F (m+1) (.call (.func (.yield R.blk) #[] #[]) vs hp0)=some o':=fun{m o'} hm e'=>by
      show(hp0.get R.blk).bind (zhz (E F m) R.blk vs hp0)=_
      rw[he,Option.bind_some]
      show((zcm rc.ps vs (zbi rc.L sl')).bind fun s=>(E F m (.code rc.as s hp0)).bind (zd8 (E F m) R.blk rc.b))=_
      rw[ht2,Option.bind_some,E_up hm h1,Option.bind_some,e']
     cases o with
     |nrm t1 h1'=>
      obtain⟨w1,M1,s1,a1,a2,a3⟩:=h2
      obtain⟨ob,ho1,a3⟩:=zbv a3
      obtain⟨st1,hg1⟩:=zbw ho1
      have hR1:=a1.hi.le.rho _ _ hR
      obtain⟨hz1,e1,he1,hro1⟩:=a1.r.obj _ _ st1 R hg1 hR1
      cases hro1 with
      |rows=>exact a3.elim
      |map=>exact a3.elim
      | @loop lst pend1 sl1 sl1' rc1 hsl1=>
        cases lst with
        |ready=>
         obtain⟨p1,p2⟩:=a1.r.put hg1 hR1 (o:=.loop .busy pend1 sl1 rc1) (e:=.loop .busy pend1 sl1' rc1) (.loop hsl1)
         obtain⟨n2,o2,b1,b2⟩:=zc7 rc.b a3 w M hp0 w1 (h1'.put R.blk (.loop .busy pend1 sl1' rc1)) t1 (a1.step p2 p1) a2
         have fin2: ∀{o'},zgi R.blk o2=some o'→OutC w M hp0 k kp o'→ ∃n o,E F n (.call (.func (.yield R.blk) #[] #[]) vs hp0)=some o∧OutC w M hp0 k kp o:=fun{o'} e' q=>by
          refine⟨max n n2+1,o',fin (Nat.le_max_left _ _) ?_,q⟩
          show(h1'.get R.blk).bind _=_
          rw[he1,Option.bind_some]
          show(E F _ _).bind _=_
          rw[E_up (Nat.le_max_right _ _) b1,Option.bind_some,e']
         have ziL: ∀{pd:Option CC} {M2:VM} {w2:Wd} {h2:H},finD l k pd M2→St M.next w M hp0 w2 M2 h2→ ∃o',(h2.get R.blk).bind (zfn R.blk pd h2)=some o'∧OutC w M hp0 k kp o':=fun{pd M2 w2 h2} q c1=>by
          obtain⟨ob2,ho2,q⟩:=zbv q
          obtain⟨st2,hg2⟩:=zbw ho2
          have hR2:=c1.hi.le.rho _ _ hR
          obtain⟨hz2,e2,he2,hro2⟩:=c1.r.obj _ _ st2 R hg2 hR2
          cases hro2 with
          |rows=>exact q.elim
          |map=>exact q.elim
          | @loop lst2 pend2 sl2 sl2' rc2 hsl2=>
            obtain⟨p1,p2⟩:=c1.r.put hg2 hR2 (o:=.loop (stOf pd) pd sl2 rc2) (e:=.loop (stOf pd) pd sl2' rc2) (.loop hsl2)
            exact⟨.val (.bool pd.isNone) (h2.put R.blk (.loop (stOf pd) pd sl2' rc2)),by rw[he2];rfl,_,_,_,(c1.step p2 p1).hi,p1,.bool _,q⟩
         cases o2 with
         |nrm t3 h3=>
          obtain⟨w2,M2,s2,c1,c2,c3⟩:=b2
          obtain⟨o',q1,q2⟩:=ziL c3 c1
          exact fin2 q1 q2
         |ret t3 h3=>
          obtain⟨w2,M2,s2,c1,c2,c3⟩:=b2
          obtain⟨o',q1,q2⟩:=ziL c3 c1
          exact fin2 q1 q2
         |exit i t3 h3=>
          obtain⟨w2,M2,s2,c1,c2,c3⟩:=b2
          obtain⟨o',q1,q2⟩:=ziL c3 c1
          exact fin2 q1 q2
         |pan=>obtain⟨_,_,_,_,_,_,_,q⟩:=b2;exact q.elim
         |val=>exact b2.elim
        |_=>exact a3.elim
     |exit=>obtain⟨_,_,_,_,_,q⟩:=h2;exact q.elim
     |ret=>obtain⟨_,_,_,_,_,q⟩:=h2;exact q.elim
     |pan=>obtain⟨_,_,_,_,_,_,_,q⟩:=h2;exact q.elim
     |val=>exact h2.elim
theorem zt.mono {f:DV} {args:List DV} {M:VM} {k k' kp kp':DV→VM→Prop} (h:zt F f args M k kp) (h1: ∀d M,k d M→k' d M) (h2: ∀d M,kp d M→kp' d M):zt F f args M k' kp':=fun w hp fv vs a b c=>by
 obtain⟨n,o,e,q⟩:=h w hp fv vs a b c
 refine⟨n,o,e,?_⟩
 cases o with
 |val=>obtain⟨w1,M1,d,a1,a2,a3,a4⟩:=q;exact⟨w1,M1,d,a1,a2,a3,h1 _ _ a4⟩
 |pan=>obtain⟨w1,M1,d,a1,a2,a3,a4⟩:=q;exact⟨w1,M1,d,a1,a2,a3,h2 _ _ a4⟩
 |_=>exact q
end Go.Ideal
namespace Go.Ideal
inductive zw (n:Nat):DV→Prop where
 |int (k:IntKind) (a:Int):zw n (.int k a)
 |bool (b:Bool):zw n (.bool b)
 |str (s:ByteArray):zw n (.str s)
 |nilS:zw n .nilS
 |nilP:zw n .nilP
 |nilM:zw n .nilM
 |nilF:zw n .nilF
 |nilI:zw n .nilI
 |agg {l:List DV} (h: ∀d∈l,zw n d):zw n (.agg l)
 |tup {l:List DV} (h: ∀d∈l,zw n d):zw n (.tup l)
 |lst {s:Nat} {rows:List (List DV)} (h: ∀r∈rows,∀d∈r,zw n d):zw n (.lst s rows)
 |pl {s i off:Nat} {rows:List (List DV)} (h: ∀r∈rows,∀d∈r,zw n d):zw n (.pl s rows i off)
 |fn (g:Nat) {a c:List DV} (h: ∀d∈a,zw n d) (h': ∀d∈c,zw n d):zw n (.fn g a c)
 |ifc (t:Nat) {d:DV} (h:zw n d):zw n (.ifc t d)
 |ms {j lo len cap:Nat} (h:j<n):zw n (.ms j lo len cap)
 |ptr {j i off:Nat} (h:j<n):zw n (.ptr j i off)
 |map {j:Nat} (h:j<n):zw n (.map j)
 |yld {j:Nat} (h:j<n):zw n (.yld j)
inductive Frz (M M2:VM):DV→DV→Prop where
 |refl (d:DV):Frz M M2 d d
 |nilS (s:Nat):Frz M M2 .nilS (.lst s [])
 |agg {l l2:List DV} (hl:l.length=l2.length) (h: ∀(k:Nat) d e,l[k]? =some d→l2[k]? =some e→Frz M M2 d e):Frz M M2 (.agg l) (.agg l2)
 |tup {l l2:List DV} (hl:l.length=l2.length) (h: ∀(k:Nat) d e,l[k]? =some d→l2[k]? =some e→Frz M M2 d e):Frz M M2 (.tup l) (.tup l2)
 |ifc (t:Nat) {d e:DV} (h:Frz M M2 d e):Frz M M2 (.ifc t d) (.ifc t e)
 |ms {j lo len cap sz:Nat} {op:Bool} {rs rows:List (List DV)} (ho:M.obj j=some (.rows op sz rs)) (hn:M2.get j=none) (hb:lo+len≤rs.length) (hs: ∀r∈rows,r.length=sz) (hr:rows.length=len)
   (h: ∀(k:Nat) d e,(((rs.drop lo).take len).flatten)[k]? =some d→rows.flatten[k]? =some e→Frz M M2 d e):Frz M M2 (.ms j lo len cap) (.lst sz rows)
 |ptr {j i off sz:Nat} {op:Bool} {rs rows:List (List DV)} (ho:M.obj j=some (.rows op sz rs)) (hn:M2.get j=none) (hs: ∀r∈rows,r.length=sz) (hr:rows.length=rs.length)
   (h: ∀(k:Nat) d e,rs.flatten[k]? =some d→rows.flatten[k]? =some e→Frz M M2 d e):Frz M M2 (.ptr j i off) (.pl sz rows i off)
inductive FrzO (M M2:VM):MO→MO→Prop where
 |refl (o:MO):FrzO M M2 o o
 |rows {op:Bool} {sz:Nat} {rs rows:List (List DV)} (hs: ∀r∈rows,r.length=sz) (hr:rows.length=rs.length) (h: ∀(k:Nat) d e,rs.flatten[k]? =some d→rows.flatten[k]? =some e→Frz M M2 d e):FrzO M M2 (.rows op sz rs) (.rows op sz rows)
inductive zkh (n:Nat):MO→Prop where
 |rows {op:Bool} {sz:Nat} {rs:List (List DV)} (h: ∀r∈rs,∀d∈r,zw n d):zkh n (.rows op sz rs)
 |map {es:List (DV×DV)} (h: ∀e∈es,zw n e.1∧zw n e.2):zkh n (.map es)
 |loop {st:LoopState} {pend:Option CC} {sl:DS} {rc:RC} (h: ∀x∈sl,zw n x.2):zkh n (.loop st pend sl rc)
structure Conv (M M' M2:VM):Prop where
 nx:M.next≤M2.next
 obj: ∀j,(M2.get j=M.get j∧(j<M.next→M'.get j=M.get j))∨M2.get j=none∨
  ∃o st o',M2.get j=some (o,st)∧j<M2.next∧M.next≤st∧st<M2.next∧M'.obj j=some o'∧FrzO M' M2 o' o∧zkh M2.next o
section
variable {w:Wd} {M' M2:VM} {h:H}
def FB (w:Wd) (M' M2:VM) (b:Nat):Prop:= ∃j R,w.rho j=some R∧R.blk=b∧(M'.get j).isSome=true∧M2.get j=none
open Classical in
noncomputable def cw (w:Wd) (M' M2:VM) (h:H):Wd:=⟨fun j=>if j<M2.next then w.rho j else none,fun b=>match w.Z b with
 |some z=>some z
 |none=>if FB w M' M2 b then(match h.get b with|some (.cells cs e)=>some (cs,e)|_=>none) else none⟩
theorem zkb {j:Nat} (hj:j<M2.next) {R:RBd} (hR:w.rho j=some R):(cw w M' M2 h).rho j=some R:=by
 show(if j<M2.next then _ else _)=_;rw[if_pos hj];exact hR
theorem ziT {j:Nat} {R:RBd} (hR:(cw w M' M2 h).rho j=some R):j<M2.next∧w.rho j=some R:=by
 have hR:(if j<M2.next then w.rho j else none)=some R:=hR
 split at hR
 ·exact⟨‹_›,hR⟩
 ·cases hR
theorem cw_Z {b:Nat} {z:List Value×Nat} (hz:w.Z b=some z):(cw w M' M2 h).Z b=some z:=by
 show(match w.Z b with|some z=>some z|none=>_)=_;rw[hz]
theorem cw_FB {b:Nat} {cs:List Value} {e:Nat} (hz:w.Z b=none) (hf:FB w M' M2 b) (hg:h.get b=some (.cells cs e)):(cw w M' M2 h).Z b=some (cs,e):=by
 show(match w.Z b with|some z=>some z|none=>_)=_;rw[hz]
 dsimp only
 rw[if_pos hf,hg]
theorem cw_Z' {b:Nat} {z:List Value×Nat} (hz:(cw w M' M2 h).Z b=some z):w.Z b=some z∨(FB w M' M2 b∧h.get b=some (.cells z.1 z.2)):=by
 have hz:(match w.Z b with|some z=>some z|none=>_)=some z:=hz
 split at hz
 ·rename_i e;cases hz;exact .inl e
 ·split at hz
  ·rename_i hf
   split at hz
   ·rename_i hg;cases hz;exact .inr ⟨hf,hg⟩
   ·cases hz
  ·cases hz
theorem zw.rel {d:DV} {v:Value} (hv:VRel w d v):zw M2.next d→VRel (cw w M' M2 h) d v:=by
 induction hv with
 |int k n=>intro _;exact .int k n
 |bool b=>intro _;exact .bool b
 |str s=>intro _;exact .str s
 |nilS=>intro _;exact .nilS
 |nilP=>intro _;exact .nilP
 |nilM=>intro _;exact .nilM
 |nilF=>intro _;exact .nilF
 |nilI=>intro _;exact .nilI
 |agg hl _ ih=>intro hb;cases hb with|agg hb=>exact .agg hl fun k d v a b=>ih k d v a b (hb d (List.mem_of_getElem? a))
 |tup hl _ ih=>intro hb;cases hb with|tup hb=>exact .tup hl fun k d v a b=>ih k d v a b (hb d (List.mem_of_getElem? a))
 |fn g ha hc _ _ ih ih'=>intro hb;cases hb with|fn _ h1 h2=>exact .fn g ha hc (fun k d v a b=>ih k d v a b (h1 d (List.mem_of_getElem? a))) (fun k d v a b=>ih' k d v a b (h2 d (List.mem_of_getElem? a)))
 |yld hR=>intro hb;cases hb with|yld hb=>exact .yld (zkb hb hR)
 |ifc t _ ih=>intro hb;cases hb with|ifc _ hb=>exact .ifc t (ih hb)
 |map hR=>intro hb;cases hb with|map hb=>exact .map (zkb hb hR)
 |ptr hR=>intro hb;cases hb with|ptr hb=>exact .ptr (zkb hb hR)
 |ms hR ho hc=>intro hb;cases hb with|ms hb=>exact .ms (zkb hb hR) ho hc
 |lst hz hs hb _ ho hc hn ih=>intro hq;cases hq with|lst hq=>exact .lst (cw_Z hz) hs hb (fun k d v a b=>ih k d v a b (by
   obtain⟨r,hr1,hr2⟩:=List.mem_flatten.1 (List.mem_of_getElem? a);exact hq r hr1 d hr2)) ho hc hn
 |lst0 hc hsp=>intro _;exact .lst0 hc hsp
 |pl hz hs hb _ ih=>intro hq;cases hq with|pl hq=>exact .pl (cw_Z hz) hs hb (fun k d v a b=>ih k d v a b (by
   obtain⟨r,hr1,hr2⟩:=List.mem_flatten.1 (List.mem_of_getElem? a);exact hq r hr1 d hr2))
theorem zcH {l m:List DV} (hl:l.length=m.length) {k:Nat} {e:DV} (he:m[k]? =some e): ∃d,l[k]? =some d:=by
 have:=(List.getElem?_eq_some_iff.1 he).1
 exact⟨l[k]'(by omega),List.getElem?_eq_getElem (by omega)⟩
theorem Frz.rel (hr:HRel w M' h) {d e:DV} (hf:Frz M' M2 d e): ∀{v:Value},VRel w d v→zw M2.next e→VRel (cw w M' M2 h) e v:=by
 induction hf with
 |refl d=>intro v hv hb;exact zw.rel hv hb
 |nilS s=>intro v hv hb;cases hv;exact .lst0 (by decide) (fun a e=>by cases e)
 |agg hl _ ih=>
  intro v hv hb
  cases hb with
  |agg hb=>
   obtain⟨vs,rfl,hlr⟩:=hv.inv_agg
   refine .agg (hl.symm.trans hlr.len) fun k e v a b=> ?_
   obtain⟨d,hd⟩:=zcH hl a
   exact ih k d e hd a (hlr.at_ k d v hd b) (hb e (List.mem_of_getElem? a))
 |tup hl _ ih=>
  intro v hv hb
  cases hb with
  |tup hb=>
   obtain⟨vs,rfl,hlr⟩:=hv.inv_tup
   refine .tup (hl.symm.trans hlr.len) fun k e v a b=> ?_
   obtain⟨d,hd⟩:=zcH hl a
   exact ih k d e hd a (hlr.at_ k d v hd b) (hb e (List.mem_of_getElem? a))
 |ifc t _ ih=>
  intro v hv hb
  cases hb with
  |ifc _ hb=>cases hv with|ifc _ hv=>exact .ifc t (ih hv hb)
 | @ms j lo len cap sz op rs rows ho hn hle hs hrl _ ih=>
   intro v hv hb
   cases hb with
   |lst hb=>
    cases hv with
    | @ms _ _ _ _ R hR hO hC=>
      obtain⟨st,hg⟩:=zbw ho
      obtain⟨hz,eo,he,hro⟩:=hr.obj j _ st R hg hR
      cases hro with
      | @rows _ _ _ cs e hrows=>
        have hs0:=hrows.row
        have hfl:=zV hs0
        have hcl:=hrows.rel.len
        have hlen2:((rs.drop lo).take len).flatten.length=rows.flatten.length:=by
         rw[zV (rs:=(rs.drop lo).take len) (fun r hr=>hs0 r (List.mem_of_mem_drop (List.mem_of_mem_take hr))),zV hs,hrl]
         congr 1;simp;omega
        have hmul:lo*sz+len*sz≤rs.length*sz:=by rw[←Nat.add_mul];exact Nat.mul_le_mul_right _ hle
        refine .lst (cs:=cs) (e:=e) (cw_FB hz ⟨j,R,hR,rfl,by rw[hg];rfl,hn⟩ he) hs (by rw[hrl,←hrows.hsz];omega) (fun k e2 v a b=> ?_) (fun hc=> ?_) (fun hc=>by rw[hrl];exact hC hc) hrl.symm
        ·obtain⟨d,hd⟩:=zcH hlen2 a
         have hd2:=hd
         rw[zdL (fun r hr=>hs0 r (List.mem_of_mem_drop hr)),zcY hs0,List.getElem?_take] at hd2
         split at hd2
         ·rw[List.getElem?_drop] at hd2
          refine ih k d e2 hd a (hrows.rel.at_ _ d v hd2 (by rw[hrows.hsz];exact b)) ?_
          obtain⟨r,hr1,hr2⟩:=List.mem_flatten.1 (List.mem_of_getElem? a);exact hb r hr1 e2 hr2
         ·cases hd2
        ·have h1:=hO hc
         have h2:=hrows.hop.trans h1
         subst h2
         have:=hrows.esz
         rw[if_pos rfl] at this
         exact⟨this,hrows.pos rfl⟩
 | @ptr j i off sz op rs rows ho hn hs hrl _ ih=>
   intro v hv hb
   cases hb with
   |pl hb=>
    cases hv with
    | @ptr _ _ _ R hR=>
      obtain⟨st,hg⟩:=zbw ho
      obtain⟨hz,eo,he,hro⟩:=hr.obj j _ st R hg hR
      cases hro with
      | @rows _ _ _ cs e hrows=>
        have hs0:=hrows.row
        have hfl:=zV hs0
        have hcl:=hrows.rel.len
        have hlen2:rs.flatten.length=rows.flatten.length:=by rw[hfl,zV hs,hrl]
        have:=VRel.pl (w:=cw w M' M2 h) (o:=0) (i:=i) (off:=off) (cs:=cs) (e:=e) (cw_FB hz ⟨j,R,hR,rfl,by rw[hg];rfl,hn⟩ he) hs (by rw[hrl];omega) (fun k e2 v a b=>by
         obtain⟨d,hd⟩:=zcH hlen2 a
         refine ih k d e2 hd a (hrows.rel.at_ _ d v hd (by rw[←b];congr 1;omega)) ?_
         obtain⟨r,hr1,hr2⟩:=List.mem_flatten.1 (List.mem_of_getElem? a);exact hb r hr1 e2 hr2)
        rw[Nat.zero_add] at this
        rw[←hrows.hsz];exact this
theorem St.conv {n0:Nat} {w0:Wd} {M M0:VM} {h0 h1:H} {w1:Wd} (hst:St n0 w0 M0 h0 w1 M h1) {hh:H} (hr1:HRel w1 M h1) (hi:Hist w1 M h1 w M' hh) (hr:HRel w M' hh) (hc:Conv M M' M2):St n0 w0 M0 h0 (cw w M' M2 hh) M2 hh:=by
 have hle1:w1.Le (cw w M' M2 hh):=⟨fun j R e=>zkb (Nat.lt_of_lt_of_le (hr1.dom j R e).1 hc.nx) (hi.le.rho _ _ e),fun b z e=>cw_Z (hi.le.Z _ _ e)⟩
 have kept: ∀j o st,M2.get j=some (o,st)→(M.get j=some (o,st)∧M'.get j=some (o,st))∨(j<M2.next∧M.next≤st∧st<M2.next∧ ∃o',M'.obj j=some o'∧FrzO M' M2 o' o∧zkh M2.next o):=fun j o st e=>by
  rcases hc.obj j with⟨h1,h2⟩|h1| ⟨o1,st1,o',h1,h2,h3,h4,h5,h6,h7⟩
  ·rw[h1] at e
   exact .inl ⟨e,by rw[h2 (hr1.wf j o st e).1];exact e⟩
  ·rw[h1] at e;cases e
  ·rw[h1] at e;cases e;exact .inr ⟨h2,h3,h4,o',h5,h6,h7⟩
 have live: ∀j x,M2.get j=some x→ ∃y,M'.get j=some y:=fun j x e=>by
  obtain⟨o,st⟩:=x
  rcases kept j o st e with⟨_,h2⟩| ⟨_,_,_,o',h5,_⟩
  ·exact⟨_,h2⟩
  ·obtain⟨st',h6⟩:=zbw h5;exact⟨_,h6⟩
 refine⟨hst.n,hst.r0,hst.hi.trans hst.r0 ⟨hle1,hc.nx,hi.hnx,fun j o st e=> ?_,fun j x R e1 e2 hR=> ?_,fun j R e=>hi.own j R (ziT e).2,hi.rest⟩,?_⟩
 ·rcases kept j o st e with⟨h1,-⟩| ⟨_,h1,_⟩
  ·exact .inl h1
  ·exact .inr h1
 ·obtain⟨o,st⟩:=x
  rcases kept j o st e2 with⟨_,h2⟩| ⟨_,h1,_⟩
  ·exact hi.same j _ R e1 h2 hR
  ·have:=(hr1.wf j o st e1).2.1;omega
 ·constructor
  ·intro j o st e
   rcases kept j o st e with⟨h1,h2⟩| ⟨h1,_,h3,o',h5,_⟩
   ·obtain⟨a,b,R,c⟩:=hr1.wf j o st h1
    exact⟨Nat.lt_of_lt_of_le a hc.nx,Nat.lt_of_lt_of_le b hc.nx,R,hle1.rho _ _ c⟩
   ·obtain⟨st',h6⟩:=zbw h5
    obtain⟨_,_,R,c⟩:=hr.wf j _ _ h6
    exact⟨h1,h3,R,zkb h1 c⟩
  ·intro j R e
   obtain⟨a,b⟩:=ziT e
   exact⟨a,(hr.dom j R b).2⟩
  ·intro b z e
   rcases cw_Z' e with e| ⟨⟨j,R,hR,rfl,_⟩,hg⟩
   ·exact hr.zd b z e
   ·exact⟨(hr.dom j R hR).2,hg⟩
  ·intro j o st R e hR
   obtain⟨hj,hR⟩:=ziT hR
   obtain⟨y,hy⟩:=live j _ e
   obtain⟨hz,e',he',hro⟩:=hr.obj j y.1 y.2 R hy hR
   refine⟨?_,?_⟩
   ·cases hzz:(cw w M' M2 hh).Z R.blk with
    |none=>rfl
    |some z=>
     rcases cw_Z' hzz with e2| ⟨⟨j',R',hR',eb,hl,hn⟩,hg⟩
     ·rw[hz] at e2;cases e2
     ·have:=hr.inj j' j R' R hR' hR hl (by rw[hy];rfl) eb
      subst this
      rw[hn] at e;cases e
   ·rcases kept j o st e with⟨h1,h2⟩| ⟨_,_,_,o',h5,h6,h7⟩
    ·
     obtain⟨_,_,R1,c⟩:=hr1.wf j o st h1
     have:R1=R:=by have:=hi.le.rho _ _ c;rw[hR] at this;cases this;rfl
     subst this
     obtain⟨_,e0,he0,hro0⟩:=hr1.obj j o st R1 h1 c
     exact⟨e0,by rw[hi.same j _ R1 h1 h2 c];exact he0,hro0.mono hle1⟩
    ·obtain⟨st',h8⟩:=zbw h5
     rw[hy] at h8;cases h8
     refine⟨e',he',?_⟩
     cases h6 with
     |refl=>
      cases hro with
      | @rows op sz rs cs ee hrows=>
        cases h7 with
        |rows h7=>
         refine .rows ⟨hrows.hop,hrows.hsz,hrows.esz,hrows.pos,hrows.row,hrows.rel.len,fun k d v a b=>zw.rel (hrows.rel.at_ k d v a b) ?_⟩
         obtain⟨r,hr1,hr2⟩:=List.mem_flatten.1 (List.mem_of_getElem? a);exact h7 r hr1 d hr2
      | @map es es' c hm=>
        cases h7 with
        |map h7=>
         refine .map ⟨⟨hm.keys.len,fun k d v a b=>zw.rel (hm.keys.at_ k d v a b) ?_⟩,⟨hm.vals.len,fun k d v a b=>zw.rel (hm.vals.at_ k d v a b) ?_⟩⟩
         ·obtain⟨x,hx,rfl⟩:=List.mem_map.1 (List.mem_of_getElem? a);exact(h7 x hx).1
         ·obtain⟨x,hx,rfl⟩:=List.mem_map.1 (List.mem_of_getElem? a);exact(h7 x hx).2
      | @loop lst pend sl sl' rc hsl=>
        cases h7 with
        |loop h7=>
         refine .loop fun p d hd=> ?_
         obtain⟨v,hv,hv2⟩:=hsl p d hd
         refine⟨v,hv,zw.rel hv2 ?_⟩
         have: ∀{s:DS},getS s p=some d→ ∃x∈s,x.2=d:=by
          intro s
          induction s with
          |nil=>intro q;cases q
          |cons x s ih=>
           intro q
           obtain⟨x1,x2⟩:=x
           rw[zcW] at q
           split at q
           ·cases q;exact⟨_,List.mem_cons_self ..,rfl⟩
           ·obtain⟨y,hy,e⟩:=ih q;exact⟨y,List.mem_cons_of_mem _ hy,e⟩
         obtain⟨x,hx,rfl⟩:=this hd
         exact h7 x hx
     | @rows op sz rs rows hs hrl hfr=>
       cases hro with
       | @rows _ _ _ cs ee hrows=>
         cases h7 with
         |rows h7=>
          have hlen2:rs.flatten.length=rows.flatten.length:=by rw[zV hrows.row,zV hs,hrl]
          refine .rows ⟨hrows.hop,hrows.hsz,hrows.esz,hrows.pos,hs,hlen2.symm.trans hrows.rel.len,fun k d v a b=> ?_⟩
          obtain⟨d0,hd0⟩:=zcH hlen2 a
          refine(hfr k d0 d hd0 a).rel hr (hrows.rel.at_ k d0 v hd0 b) ?_
          obtain⟨r,hr1,hr2⟩:=List.mem_flatten.1 (List.mem_of_getElem? a);exact h7 r hr1 d hr2
  ·intro i j R S hi' hj ai aj eb
   obtain⟨xi,ei⟩:=Option.isSome_iff_exists.1 ai
   obtain⟨xj,ej⟩:=Option.isSome_iff_exists.1 aj
   obtain⟨yi,fi⟩:=live i _ ei
   obtain⟨yj,fj⟩:=live j _ ej
   exact hr.inj i j R S (ziT hi').2 (ziT hj).2 (by rw[fi];rfl) (by rw[fj];rfl) eb
end
variable {F:FuncId→Option zm} {n0:Nat}
def SFrz (M' M2:VM) (s s2:DS):Prop:= ∀p e,getS s2 p=some e→ ∃d,getS s p=some d∧Frz M' M2 d e∧zw M2.next e
theorem SFrz.rel {M' M2:VM} {w:Wd} {h:H} (hr:HRel w M' h) {s s2:DS} {t:zl} (hf:SFrz M' M2 s s2) (hs:SRel w s t):SRel (cw w M' M2 h) s2 t:=fun p e he=>by
 obtain⟨d,hd,h1,h2⟩:=hf p e he
 obtain⟨v,hv,h3⟩:=hs p d hd
 exact⟨v,hv,h1.rel hr h3 h2⟩
theorem zt.conv {f:DV} {args:List DV} {M:VM} {k kp:DV→VM→Prop} (h:zt F f args M (fun d M'=> ∃e M2,Conv M M' M2∧Frz M' M2 d e∧zw M2.next e∧k e M2) kp):zt F f args M k kp:=by
 intro w hp fv vs hr hf hv
 obtain⟨n,o,e,q⟩:=h w hp fv vs hr hf hv
 refine⟨n,o,e,?_⟩
 cases o with
 |val v h1=>
  obtain⟨w1,M1,d,a1,a2,a3,e2,M2,c1,c2,c3,c4⟩:=q
  have:=St.conv ⟨rfl,hr,.refl _ _ _,hr⟩ hr a1 a2 c1
  exact⟨_,M2,e2,this.hi,this.r,c2.rel a2 a3 c3,c4⟩
 |pan v s h1=>exact q
 |_=>exact q
theorem zt.pre {f:DV} {args args2:List DV} {M M2:VM} {k kp:DV→VM→Prop} (hc:Conv M M M2) (hf:zw M2.next f) (hl:args.length=args2.length) (ha: ∀(i:Nat) d e,args[i]? =some d→args2[i]? =some e→Frz M M2 d e∧zw M2.next e) (h:zt F f args2 M2 k kp):zt F f args M k kp:=by
 intro w hp fv vs hr hfv hv
 have st:=St.conv ⟨rfl,hr,.refl _ _ _,hr⟩ hr (.refl _ _ _) hr hc
 obtain⟨n,o,e,q⟩:=h _ hp fv vs st.r (zw.rel hfv hf) ⟨hl.symm.trans hv.len,fun i e v a b=>by
  obtain⟨d,hd⟩:=zcH hl a
  obtain⟨h1,h2⟩:=ha i d e hd a
  exact h1.rel hr (hv.at_ i d v hd b) h2⟩
 refine⟨n,o,e,?_⟩
 cases o with
 |val v h1=>obtain⟨w1,M1,d,a1,a2,a3,a4⟩:=q;exact⟨w1,M1,d,st.hi.trans hr a1,a2,a3,a4⟩
 |pan v s h1=>obtain⟨w1,M1,d,a1,a2,a3,a4⟩:=q;exact⟨w1,M1,d,st.hi.trans hr a1,a2,a3,a4⟩
 |_=>exact q
theorem zfS.frame {c:CC} {K:KD} {s:DS} {M:VM} (h:zfS F M.next c ⟨fun s' M'=> ∃s2 M2,Conv M M' M2∧SFrz M' M2 s' s2∧K.nrm s2 M2,fun i s' M'=> ∃s2 M2,Conv M M' M2∧SFrz M' M2 s' s2∧K.ext i s2 M2,K.ret,K.pan⟩ s M):zfS F n0 c K s M:=by
 intro w0 M0 h0 w hp t hst hs
 obtain⟨n,o,e,q⟩:=h w M hp w hp t ⟨rfl,hst.r,.refl _ _ _,hst.r⟩ hs
 refine⟨n,o,e,?_⟩
 cases o with
 |nrm t1 h1=>
  obtain⟨w1,M1,s1,a1,a2,s2,M2,b1,b2,b3⟩:=q
  exact⟨_,M2,s2,hst.conv hst.r a1.hi a1.r b1,b2.rel a1.r a2,b3⟩
 |exit i t1 h1=>
  obtain⟨w1,M1,s1,a1,a2,s2,M2,b1,b2,b3⟩:=q
  exact⟨_,M2,s2,hst.conv hst.r a1.hi a1.r b1,b2.rel a1.r a2,b3⟩
 |ret t1 h1=>obtain⟨w1,M1,s1,a1,a2,a3⟩:=q;exact⟨w1,M1,s1,hst.step a1.hi a1.r,a2,a3⟩
 |pan v t1 h1=>obtain⟨w1,M1,s1,d,a1,a2,a3,a4⟩:=q;exact⟨w1,M1,s1,d,hst.step a1.hi a1.r,a2,a3,a4⟩
 |val=>exact q
theorem zbB.frame {L:List (List Bool)} {b:CC} {K:KD} {s:DS} {M:VM} (h:zbB F M.next L b ⟨fun s' M'=> ∃s2 M2,Conv M M' M2∧SFrz M' M2 s' s2∧K.nrm s2 M2,fun i s' M'=> ∃s2 M2,Conv M M' M2∧SFrz M' M2 s' s2∧K.ext i s2 M2,K.ret,K.pan⟩ s M):zbB F n0 L b K s M:=zfS.frame h
theorem zbB.iter {L:List (List Bool)} {b:CC} {K:KD} {s:DS} {M:VM} (h:wp (rD F M.next) b ⟨fun s' M'=> ∃s2 M2,Conv M M' M2∧SFrz M' M2 (zbu L s') s2∧zbB F n0 L b K s2 M2,K.ext,K.ret,K.pan⟩ (zbu L s) M):zbB F n0 L b K s M:=by
 intro w0 M0 h0 w hp t hst hs
 obtain⟨n,o,h1,h2⟩:=zc7 b h w M hp w hp (zbi L t) ⟨rfl,hst.r,.refl _ _ _,hst.r⟩ (hs.keep L)
 cases o with
 |nrm t1 h1'=>
  obtain⟨w1,M1,s1,a1,a2,s2,M2,c1,c2,a3⟩:=h2
  obtain⟨m,o2,b1,b2⟩:=a3 w0 M0 h0 _ h1' t1 (hst.conv hst.r a1.hi a1.r c1) (fun p e he=>by
   obtain⟨v,hv,hr⟩:=c2.rel a1.r (zgP a2 L) p e he
   exact⟨v,hv,hr⟩)
  exact⟨max n m+1,o2,by show(E F _ (.code b _ hp)).bind _=_;rw[E_up (Nat.le_max_left n m) h1];exact E_up (Nat.le_max_right n m) b1,b2⟩
 |exit i t1 h1'=>obtain⟨w1,M1,s1,a1,a2,a3⟩:=h2;exact⟨n+1,.exit i t1 h1',by show(E F _ (.code b _ hp)).bind _=_;rw[h1];rfl,w1,M1,s1,hst.step a1.hi a1.r,a2,a3⟩
 |ret t1 h1'=>obtain⟨w1,M1,s1,a1,a2,a3⟩:=h2;exact⟨n+1,.ret t1 h1',by show(E F _ (.code b _ hp)).bind _=_;rw[h1];rfl,w1,M1,s1,hst.step a1.hi a1.r,a2,a3⟩
 |pan v t1 h1'=>obtain⟨w1,M1,s1,d,a1,a2,a3,a4⟩:=h2;exact⟨n+1,.pan v t1 h1',by show(E F _ (.code b _ hp)).bind _=_;rw[h1];rfl,w1,M1,s1,d,hst.step a1.hi a1.r,a2,a3,a4⟩
 |val=>exact h2.elim
def VM.Wf (M:VM):Prop:= ∀j,M.next≤j→M.get j=none
theorem HRel.Wf {w:Wd} {M:VM} {h:H} (hr:HRel w M h):M.Wf:=fun j hj=>by
 cases e:M.get j with
 |none=>rfl
 |some x=>obtain⟨o,st⟩:=x;have:=(hr.wf j o st e).1;omega
theorem zt.wf {f:DV} {args:List DV} {M:VM} {k kp:DV→VM→Prop} (h:M.Wf→zt F f args M k kp):zt F f args M k kp:=fun w hp fv vs hr a b=>h hr.Wf w hp fv vs hr a b
theorem zfS.wf {c:CC} {K:KD} {s:DS} {M:VM} (h:M.Wf→zfS F n0 c K s M):zfS F n0 c K s M:=fun w0 M0 h0 w hp t hst hs=>h hst.r.Wf w0 M0 h0 w hp t hst hs
theorem zbB.wf {L:List (List Bool)} {b:CC} {K:KD} {s:DS} {M:VM} (h:M.Wf→zbB F n0 L b K s M):zbB F n0 L b K s M:=zfS.wf h
theorem Conv.same {M M':VM} (h: ∀j,j<M.next→M'.get j=M.get j):Conv M M' M:=⟨Nat.le_refl _,fun j=>.inl ⟨rfl,h j⟩⟩
theorem Conv.put1 {M M':VM} {j:Nat} {o:MO} (hj:j<M.next) (h: ∀i,i<M.next→i≠j→M'.get i=M.get i) (ho:M'.obj j=some o) (hb:zkh (M.next+1) o):Conv M M' (M.put j o):=⟨Nat.le_succ _,fun i=>by
 by_cases e:i=j
 ·subst e
  exact .inr (.inr ⟨o,M.next,o,by rw[get_put,if_pos rfl],Nat.lt_succ_of_lt hj,Nat.le_refl _,Nat.lt_succ_self _,ho,.refl _,hb⟩)
 ·exact .inl ⟨by rw[get_put,if_neg e],fun hi=>h i hi e⟩⟩
theorem Frz.ms0 {M M2:VM} {j n cap sz:Nat} {op:Bool} {rs:List (List DV)} (ho:M.obj j=some (.rows op sz rs)) (hn:M2.get j=none) (hl:n=rs.length) (hs: ∀r∈rs,r.length=sz):Frz M M2 (.ms j 0 n cap) (.lst sz rs):=by
 subst hl
 refine .ms ho hn (by omega) hs rfl fun k d e a b=> ?_
 rw[List.drop_zero,List.take_length] at a
 rw[a] at b;cases b;exact .refl d
end Go.Ideal
namespace Go.Ideal
noncomputable section
namespace Q
abbrev iI (n:Int):Value:=.int .i64 n
abbrev t (n:Nat):CO:=.t (bits n)
abbrev i (n:Int):CO:=.c (.int .i64 n)
abbrev tt:CO:=.c (.bool true)
abbrev ff:CO:=.c (.bool false)
abbrev fc (f:Nat):CO:=.c (.func (.func f) ⟨[]⟩ ⟨[]⟩)
abbrev bs (l:List Nat):List (List Bool):=l.map bits
abbrev oo (d:Nat) (x:COp):CI:=⟨some (bits d),x,none,0⟩
abbrev on (x:COp):CI:=⟨none,x,none,0⟩
abbrev gu (q:Nat) (b:Bool) (c:CI):CI:=⟨c.dst,c.op,some (bits q,b),c.lo⟩
def lo (n:Nat) (c:CI):CI:=⟨c.dst,c.op,c.guard,n⟩
@[simp] theorem lo_eq (n m:Nat) (d:Option (List Bool)) (o:COp) (g:Option (List Bool×Bool)):lo n ⟨d,o,g,m⟩=⟨d,o,g,n⟩:=id rfl
abbrev mv (d:Nat) (x:CO):CI:=⟨some (bits d),.mv x,none,0⟩
abbrev l (d a:Nat):CI:=⟨some (bits d),.load1 (t a),none,0⟩
abbrev ln (d n a:Nat):CI:=⟨some (bits d),.loadN n (t a),none,0⟩
abbrev fa (d n a:Nat):CI:=⟨some (bits d),.fieldAddr n (t a),none,0⟩
abbrev nc (d a:Nat):CI:=⟨some (bits d),.nilCheck (t a),none,0⟩
abbrev ia (d n a:Nat) (x:CO):CI:=⟨some (bits d),.indexAddr n (t a) x,none,0⟩
abbrev st (n a:Nat) (x:CO):CI:=⟨none,.store n (t a) x,none,0⟩
abbrev bi (op:BinOp) (d:Nat) (x y:CO):CI:=⟨some (bits d),.bin op .other x y,none,0⟩
abbrev le (d:Nat) (x:CO):CI:=⟨some (bits d),.blt .len [x],none,0⟩
abbrev ca (d f:Nat) (as:List CO):CI:=⟨some (bits d),.call (fc f) as,none,0⟩
abbrev ex (d a n:Nat):CI:=⟨some (bits d),.extract (t a) n,none,0⟩
abbrev bx (d:Nat) (x:CO):CI:=⟨some (bits d),.box x,none,0⟩
abbrev no (d a:Nat):CI:=⟨some (bits d),.un .not (t a),none,0⟩
abbrev pk (d:Nat) (c a b:CO):CI:=⟨some (bits d),.pick c a b,none,0⟩
abbrev ap (d s b:Nat) (x y:CO):CI:=⟨some (bits d),.blt (.append s b) [x,y],none,0⟩
end Q
inductive Fr where
 |sq (L:List (List Bool)) (b:CC)
 |bk (i:Nat)
def KF (X:RnD):List Fr→KD→KD
 | [],K=>K
 |.sq L b::ks,K=>⟨fun s M=>wp X b (KF X ks K) (zbu L s) M,(KF X ks K).ext,(KF X ks K).ret,(KF X ks K).pan⟩
 |.bk i::ks,K=>⟨(KF X ks K).nrm,blkD i (KF X ks K),(KF X ks K).ret,(KF X ks K).pan⟩
class FrC where
 ks:List Fr
 K:KD
abbrev FrC.sq (f:FrC) (L:List (List Bool)) (b:CC):FrC:=⟨.sq L b::f.ks,f.K⟩
abbrev FrC.bk (f:FrC) (i:Nat):FrC:=⟨.bk i::f.ks,f.K⟩
abbrev FrC.base (K:KD):FrC:=⟨[],K⟩
def kf (X:RnD) [f:FrC]:KD:=KF X f.ks f.K
section
variable (X:RnD) [fr:FrC]
def Cd (c:CC) (s:DS) (M:VM):Prop:=wp X c (@kf X fr) s M
def Op (l:List CI) (s:DS) (M:VM):Prop:=wOps X (@kf X fr).pan l s M (@kf X fr).nrm
def Nx (s:DS) (M:VM):Prop:=(@kf X fr).nrm s M
def Ex (i:Nat) (s:DS) (M:VM):Prop:=(@kf X fr).ext i s M
def CK (d:Option (List Bool)) (r:List CI) (s:DS) (v:DV) (M:VM):Prop:= @Op X fr r (zY d v s) M
def PK [fr:FrC] (s:DS) (v:DV) (M:VM):Prop:=fr.K.pan v s M
def Rs (o:RD) (d:Option (List Bool)) (r:List CI) (s:DS):Prop:=okD o (@CK X fr d r s)
def Ca (f:Option DV) (as:Option (List DV)) (d:Option (List Bool)) (r:List CI) (s:DS) (M:VM):Prop:=ofD f fun f=>ofD as fun l=>X.call f l M (@CK X fr d r s) (@PK fr s)
def Gd (g:Option Bool) (d:Option (List Bool)) (op:COp) (lo:Nat) (r:List CI) (s:DS) (M:VM):Prop:=ofD g fun b=>match b with
 |true=> @Op X fr (⟨d,op,none,lo⟩::r) s M
 |false=> @Op X fr r (zY d (.tup []) s) M
def Iv (v:Option DV) (tbl:List (Nat×Nat)) (as:Option (List DV)) (d:Option (List Bool)) (r:List CI) (s:DS) (M:VM):Prop:=ofD v fun v=>match v with
 |.ifc t v=> @Ca X fr ((lookM t tbl).map fun f=>.fn f [] []) (as.map fun l=>v::l) d r s M
 |_=>False
def Pn [fr:FrC] (v:Option DV) (s:DS) (M:VM):Prop:=ofD v fun v=>match v with|.ifc t u=>fr.K.pan (.ifc t u) s M|_=>False
def Br (v:Option DV) (a b:CC) (s:DS) (M:VM):Prop:=ofD v fun v=>wIf v (@Cd X fr a s M) (@Cd X fr b s M)
def Rg (f:Option DV) (rc:RC) (s:DS) (M:VM):Prop:=ofD f fun f=>match f with
    |.fn g a c=>X.call (.fn g a c) [.yld M.next] (M.new (.loop .ready none (zbu rc.L s) rc)) (fun _ M'=>zf4 (@kf X fr) s M.next M') fun _ _=>False
    |_=>False
end
section
variable {X:RnD} {fr:FrC} {K:KD} {s:DS} {M:VM} {d:Option (List Bool)} {r:List CI} {lo:Nat}
theorem KF_ret0: ∀ks:List Fr,(KF X ks K).ret=K.ret
 | []=>rfl
 |.sq _ _::ks=>KF_ret0 ks
 |.bk _::ks=>KF_ret0 ks
theorem KF_pan0: ∀ks:List Fr,(KF X ks K).pan=K.pan
 | []=>rfl
 |.sq _ _::ks=>KF_pan0 ks
 |.bk _::ks=>KF_pan0 ks
theorem KF_ret:(@kf X fr).ret=fr.K.ret:=KF_ret0 _
theorem KF_pan:(@kf X fr).pan=fr.K.pan:=KF_pan0 _
@[simp] theorem KF_ret':(@kf X fr).ret s M=fr.K.ret s M:=by rw[KF_ret]
@[simp] theorem KF_pan' (v:DV):(@kf X fr).pan v s M=fr.K.pan v s M:=by rw[KF_pan]
@[simp] theorem sq_K (L:List (List Bool)) (b:CC):(fr.sq L b).K=fr.K:=id rfl
@[simp] theorem bk_K (i:Nat):(fr.bk i).K=fr.K:=id rfl
@[simp] theorem base_K:(FrC.base K).K=K:=id rfl
@[simp] theorem KF_nrm:(@kf X fr).nrm s M= @Nx X fr s M:=id rfl
@[simp] theorem KF_ext (i:Nat):(@kf X fr).ext i s M= @Ex X fr i s M:=id rfl
theorem wp_Cd (c:CC):wp X c K s M= @Cd X (.base K) c s M:=id rfl
@[simp] theorem Cd_skip: @Cd X fr .skip s M= @Nx X fr s M:=id rfl
@[simp] theorem Cd_ops (l:List CI): @Cd X fr (.ops l) s M= @Op X fr l s M:=id rfl
@[simp] theorem Cd_seq (a b:CC) (L:List (List Bool)): @Cd X fr (.seq a L b) s M= @Cd X (fr.sq L b) a s M:=id rfl
@[simp] theorem Cd_block (i:Nat) (b:CC): @Cd X fr (.block i b) s M= @Cd X (fr.bk i) b s M:=id rfl
@[simp] theorem Cd_cond (c:CO) (a b:CC): @Cd X fr (.cond c a b) s M= @Br X fr (evD s c) a b s M:=id rfl
@[simp] theorem Cd_exit (i:Nat): @Cd X fr (.exit i) s M= @Ex X fr i s M:=id rfl
@[simp] theorem Cd_ret: @Cd X fr .ret s M=fr.K.ret s M:=by show(@kf X fr).ret s M=_;rw[KF_ret]
@[simp] theorem Cd_loop (L:List (List Bool)) (b:CC): @Cd X fr (.loop L b) s M=X.loop L b (@kf X fr) (zbu L s) M:=id rfl
@[simp] theorem Cd_scope (b:CC) (l1:Nat) (r1:CC) (l2:Nat) (r2:CC): @Cd X fr (.scope b l1 r1 l2 r2) s M=X.scope b l1 r1 l2 r2 (@kf X fr) s M:=id rfl
@[simp] theorem Cd_range (rid:Nat) (L:List (List Bool)) (f:CO) (ps:List (List Bool)) (as b:CC): @Cd X fr (.rangeFunc rid L f ps as b) s M= @Rg X fr (evD s f) ⟨rid,L,ps,as,b⟩ s M:=id rfl
@[simp] theorem Rg_fn (g:Nat) (a c:List DV) (rc:RC): @Rg X fr (some (.fn g a c)) rc s M=X.call (.fn g a c) [.yld M.next] (M.new (.loop .ready none (zbu rc.L s) rc)) (fun _ M'=>zf4 (@kf X fr) s M.next M') fun _ _=>False:=id rfl
@[simp] theorem Br_true (a b:CC): @Br X fr (some (.bool true)) a b s M= @Cd X fr a s M:=id rfl
@[simp] theorem Br_false (a b:CC): @Br X fr (some (.bool false)) a b s M= @Cd X fr b s M:=id rfl
theorem zf (b:Bool) (a c:CC): @Br X fr (some (.bool b)) a c s M=if b=true then @Cd X fr a s M else @Cd X fr c s M:=by cases b<;>rfl
@[simp] theorem Nx_nil: @Nx X (.base K) s M=K.nrm s M:=id rfl
@[simp] theorem Nx_sq (L:List (List Bool)) (b:CC): @Nx X (fr.sq L b) s M= @Cd X fr b (zbu L s) M:=id rfl
@[simp] theorem Nx_bk (i:Nat): @Nx X (fr.bk i) s M= @Nx X fr s M:=id rfl
@[simp] theorem Ex_nil (i:Nat): @Ex X (.base K) i s M=K.ext i s M:=id rfl
@[simp] theorem Ex_sq (L:List (List Bool)) (b:CC) (i:Nat): @Ex X (fr.sq L b) i s M= @Ex X fr i s M:=id rfl
@[simp] theorem Ex_bk (i j:Nat): @Ex X (fr.bk i) j s M=if j=i then @Nx X fr s M else @Ex X fr j s M:=by
  show blkD i (@kf X fr) j s M=_
  unfold blkD
  by_cases h:j=i
  ·subst h;rw[if_pos rfl,Nat.beq_refl];rfl
  ·rw[if_neg h];cases e:Nat.beq j i with
   |true=>exact absurd (Nat.eq_of_beq_eq_true e) h
   |false=>rfl
@[simp] theorem Op_nil: @Op X fr [] s M= @Nx X fr s M:=id rfl
@[simp] theorem Op_guard (op:COp) (g:List Bool×Bool): @Op X fr (⟨d,op,some g,lo⟩::r) s M= @Gd X fr (wantD (some g) s) d op lo r s M:=by
  show zgz X _ s M _ _=_
  unfold zgz Gd
  congr 1
theorem ze (b:Bool) (op:COp): @Gd X fr (some b) d op lo r s M=if b=true then @Op X fr (⟨d,op,none,lo⟩::r) s M else @Op X fr r (zY d (.tup []) s) M:=by cases b<;>rfl
@[simp] theorem Gd_true (op:COp): @Gd X fr (some true) d op lo r s M= @Op X fr (⟨d,op,none,lo⟩::r) s M:=id rfl
@[simp] theorem Gd_false (op:COp): @Gd X fr (some false) d op lo r s M= @Op X fr r (zY d (.tup []) s) M:=id rfl
@[simp] theorem Rs_some (v:DV) (M':VM): @Rs X fr (some (v,M')) d r s= @Op X fr r (zY d v s) M':=id rfl
@[simp] theorem Rs_none: @Rs X fr none d r s=False:=id rfl
@[simp] theorem CK_eq (v:DV): @CK X fr d r s v M= @Op X fr r (zY d v s) M:=id rfl
@[simp] theorem PK_eq (v:DV): @PK fr s v M=fr.K.pan v s M:=id rfl
@[simp] theorem Ca_some (f:DV) (as:List DV): @Ca X fr (some f) (some as) d r s M=X.call f as M (@CK X fr d r s) (@PK fr s):=id rfl
@[simp] theorem Op_call (f:CO) (as:List CO): @Op X fr (⟨d,.call f as,none,lo⟩::r) s M= @Ca X fr (evD s f) (evDL s as) d r s M:=by
  show ofD _ _=ofD _ _
  unfold PK CK Op
  rw[KF_pan]
@[simp] theorem Op_invoke (tbl:List (Nat×Nat)) (x:CO) (as:List CO): @Op X fr (⟨d,.invoke tbl x as,none,lo⟩::r) s M= @Iv X fr (evD s x) tbl (evDL s as) d r s M:=by
  show ofD _ _=ofD _ _
  congr 1;funext v
  cases v<;>first|rfl|skip
  unfold Ca PK CK Op
  rw[KF_pan]
  dsimp only
  cases lookM _ tbl with
  |none=>rfl
  |some f=>cases evDL s as<;>rfl
@[simp] theorem Iv_ifc (t:Nat) (v:DV) (tbl:List (Nat×Nat)) (as:Option (List DV)): @Iv X fr (some (.ifc t v)) tbl as d r s M= @Ca X fr ((lookM t tbl).map fun f=>.fn f [] []) (as.map fun l=>v::l) d r s M:=id rfl
@[simp] theorem Op_panic (x:CO): @Op X fr (⟨d,.panic x,none,lo⟩::r) s M= @Pn fr (evD s x) s M:=by
  show ofD _ _=ofD _ _
  rw[KF_pan];rfl
@[simp] theorem Pn_ifc (t:Nat) (v:DV): @Pn fr (some (.ifc t v)) s M=fr.K.pan (.ifc t v) s M:=id rfl
@[simp] theorem Op_mv (x:CO): @Op X fr (⟨d,.mv x,none,lo⟩::r) s M= @Rs X fr (opD (.mv x) s M) d r s:=id rfl
@[simp] theorem Op_pick (c a b:CO): @Op X fr (⟨d,.pick c a b,none,lo⟩::r) s M= @Rs X fr (opD (.pick c a b) s M) d r s:=id rfl
@[simp] theorem Op_build (z:List Value) (ps:List (Nat×Nat×CO)): @Op X fr (⟨d,.build z ps,none,lo⟩::r) s M= @Rs X fr (opD (.build z ps) s M) d r s:=id rfl
@[simp] theorem Op_load1 (a:CO): @Op X fr (⟨d,.load1 a,none,lo⟩::r) s M= @Rs X fr (opD (.load1 a) s M) d r s:=id rfl
@[simp] theorem Op_loadN (n:Nat) (a:CO): @Op X fr (⟨d,.loadN n a,none,lo⟩::r) s M= @Rs X fr (opD (.loadN n a) s M) d r s:=id rfl
@[simp] theorem Op_store (n:Nat) (a x:CO): @Op X fr (⟨d,.store n a x,none,lo⟩::r) s M= @Rs X fr (opD (.store n a x) s M) d r s:=id rfl
@[simp] theorem Op_nilc (x:CO): @Op X fr (⟨d,.nilCheck x,none,lo⟩::r) s M= @Rs X fr (opD (.nilCheck x) s M) d r s:=id rfl
@[simp] theorem Op_bin (op:BinOp) (ek:EK) (x y:CO): @Op X fr (⟨d,.bin op ek x y,none,lo⟩::r) s M= @Rs X fr (opD (.bin op ek x y) s M) d r s:=id rfl
@[simp] theorem Op_un (op:UnOp) (x:CO): @Op X fr (⟨d,.un op x,none,lo⟩::r) s M= @Rs X fr (opD (.un op x) s M) d r s:=id rfl
@[simp] theorem Op_conv (k:IntKind) (x:CO): @Op X fr (⟨d,.conv k x,none,lo⟩::r) s M= @Rs X fr (opD (.conv k x) s M) d r s:=id rfl
@[simp] theorem Op_makeFunc (g:Fn) (a b:List CO): @Op X fr (⟨d,.makeFunc g a b,none,lo⟩::r) s M= @Rs X fr (opD (.makeFunc g a b) s M) d r s:=id rfl
@[simp] theorem Op_slice (n:Nat) (x:CO) (lo' hi:Option CO): @Op X fr (⟨d,.slice n x lo' hi,none,lo⟩::r) s M= @Rs X fr (opD (.slice n x lo' hi) s M) d r s:=id rfl
@[simp] theorem Op_slice3 (n:Nat) (x:CO) (lo':Option CO) (hi mx:CO): @Op X fr (⟨d,.slice3 n x lo' hi mx,none,lo⟩::r) s M= @Rs X fr (opD (.slice3 n x lo' hi mx) s M) d r s:=id rfl
@[simp] theorem Op_fieldAddr (n:Nat) (x:CO): @Op X fr (⟨d,.fieldAddr n x,none,lo⟩::r) s M= @Rs X fr (opD (.fieldAddr n x) s M) d r s:=id rfl
@[simp] theorem Op_indexAddr (n:Nat) (x i:CO): @Op X fr (⟨d,.indexAddr n x i,none,lo⟩::r) s M= @Rs X fr (opD (.indexAddr n x i) s M) d r s:=id rfl
@[simp] theorem Op_indexArr (n m:Nat) (x i:CO): @Op X fr (⟨d,.indexArr n m x i,none,lo⟩::r) s M= @Rs X fr (opD (.indexArr n m x i) s M) d r s:=id rfl
@[simp] theorem Op_lookup (kk:KK) (z:Value) (ok:Bool) (x i:CO): @Op X fr (⟨d,.lookup kk z ok x i,none,lo⟩::r) s M= @Rs X fr (opD (.lookup kk z ok x i) s M) d r s:=id rfl
@[simp] theorem Op_mapUpdate (kk:KK) (m i x:CO): @Op X fr (⟨d,.mapUpdate kk m i x,none,lo⟩::r) s M= @Rs X fr (opD (.mapUpdate kk m i x) s M) d r s:=id rfl
@[simp] theorem Op_extract (x:CO) (i:Nat): @Op X fr (⟨d,.extract x i,none,lo⟩::r) s M= @Rs X fr (opD (.extract x i) s M) d r s:=id rfl
@[simp] theorem Op_strIdx (x i:CO): @Op X fr (⟨d,.strIdx x i,none,lo⟩::r) s M= @Rs X fr (opD (.strIdx x i) s M) d r s:=id rfl
@[simp] theorem Op_mkI (t:TypeId) (x:CO): @Op X fr (⟨d,.mkI t x,none,lo⟩::r) s M= @Rs X fr (opD (.mkI t x) s M) d r s:=id rfl
@[simp] theorem Op_assertT (t:TypeId) (z:Value) (ok:Bool) (x:CO): @Op X fr (⟨d,.assertT t z ok x,none,lo⟩::r) s M= @Rs X fr (opD (.assertT t z ok x) s M) d r s:=id rfl
@[simp] theorem Op_strSlice (x:CO) (lo' hi:Option CO): @Op X fr (⟨d,.strSlice x lo' hi,none,lo⟩::r) s M= @Rs X fr (opD (.strSlice x lo' hi) s M) d r s:=id rfl
@[simp] theorem Op_b2s (x:CO): @Op X fr (⟨d,.b2s x,none,lo⟩::r) s M= @Rs X fr (opD (.b2s x) s M) d r s:=id rfl
@[simp] theorem Op_fld (n:Nat) (m:Option Nat) (x:CO): @Op X fr (⟨d,.fld n m x,none,lo⟩::r) s M= @Rs X fr (opD (.fld n m x) s M) d r s:=id rfl
@[simp] theorem Op_box (x:CO): @Op X fr (⟨d,.box x,none,lo⟩::r) s M= @Rs X fr (opD (.box x) s M) d r s:=id rfl
@[simp] theorem Op_alloc (z:List Value): @Op X fr (⟨d,.alloc z,none,lo⟩::r) s M= @Rs X fr (opD (.alloc z) s M) d r s:=id rfl
@[simp] theorem Op_makeMap: @Op X fr (⟨d,.makeMap,none,lo⟩::r) s M= @Rs X fr (opD (.makeMap) s M) d r s:=id rfl
@[simp] theorem Op_makeSlice (n b:Nat) (z:List Value) (l c:CO): @Op X fr (⟨d,.makeSlice n b z l c,none,lo⟩::r) s M= @Rs X fr (opD (.makeSlice n b z l c) s M) d r s:=id rfl
@[simp] theorem Op_buildSlice (len size:Nat) (z:List Value) (ps:List (Nat×CO)): @Op X fr (⟨d,.buildSlice len size z ps,none,lo⟩::r) s M= @Rs X fr (opD (.buildSlice len size z ps) s M) d r s:=id rfl
@[simp] theorem Op_blt (b:CB) (as:List CO): @Op X fr (⟨d,.blt b as,none,lo⟩::r) s M= @Rs X fr (opD (.blt b as) s M) d r s:=id rfl
end
section
variable (X:RnD) [fr:FrC]
def Dr (l:List CI) (bs:List Mo) (s:DS) (M:VM):Prop:=zdp X l bs s M (@kf X fr).nrm
def Dr2 (l:List CI) (x y:CI) (bs:List Mo) (s:DS) (M:VM):Prop:=zdp X l bs s M fun s M=>wStore2 x.op y.op s M fun M=>(@kf X fr).nrm s M
def DW (d:Option (List Bool)) (l:List CI) (bs:List Mo) (s:DS) (v:DV) (M:VM):Prop:= @Dr X fr l (⟨zit bs,M,[]⟩::bs.map (zcg d)) (zY d v s) M
def DrW (o:RD) (d:Option (List Bool)) (l:List CI) (bs:List Mo) (s:DS):Prop:=okD o (@DW X fr d l bs s)
def DrC (f:Option DV) (as:Option (List DV)) (d:Option (List Bool)) (l:List CI) (bs:List Mo) (s:DS) (M:VM):Prop:=ofD f fun f=>ofD as fun a=>X.call f a M (@DW X fr d l bs s) fun _ _=>False
def DrF (o:RD) (ns:List (List Bool)) (d:Option (List Bool)) (l:List CI) (bs:List Mo) (s:DS):Prop:=okD o fun v M=> @Dr X fr l (bs.map (zf9 ns d)) (zY d v s) M
def DrA (o:RD) (d:Option (List Bool)) (l:List CI) (bs:List Mo) (s:DS):Prop:=okD o fun v M=> @Dr X fr l (bs.map (zcg d)) (zY d v s) M
def DrR (o:RD) (rs:List Nat) (ns:List (List Bool)) (d:Option (List Bool)) (lo:Nat) (l:List CI) (bs:List Mo) (s:DS) (M:VM):Prop:=match bs with
 | []=>False
 |x::r=>okD o fun v _=>rdAt rs ns M x∧rdOk rs ns M lo r∧zjN (x::r) v=true∧ @Dr X fr l (x::zij lo d r) (zY d v s) M
def DrG (g:Option Bool) (o:CI) (l:List CI) (bs:List Mo) (s:DS) (M:VM):Prop:=ofD g fun b=>match b with
 |true=> @Dr X fr (⟨o.dst,o.op,none,o.lo⟩::l) bs s M
 |false=>if isW o.op=true then @DW X fr o.dst l bs s (.tup []) M else if isRd o.op=true then @Dr X fr l (bs.map (zf9 (zq o.op) o.dst)) (zY o.dst (.tup []) s) M else if isFl o.op=true then @Dr X fr l (bs.map (zf9 (zq o.op) o.dst)) (zY o.dst (.tup []) s) M else @Dr X fr l (bs.map (zcg o.dst)) (zY o.dst (.tup []) s) M
end
section
variable {X:RnD} {fr:FrC} {K:KD} {s:DS} {M:VM} {d:Option (List Bool)} {l:List CI} {lo:Nat} {bs:List Mo}
@[simp] theorem Cd_draw (l:List CI): @Cd X fr (.draw l) s M= @Dr X fr l [⟨0,M,[]⟩] s M:=id rfl
@[simp] theorem Dr_nil: @Dr X fr [] bs s M= @Nx X fr s M:=id rfl
@[simp] theorem DW_eq (v:DV): @DW X fr d l bs s v M= @Dr X fr l (⟨zit bs,M,[]⟩::bs.map (zcg d)) (zY d v s) M:=id rfl
@[simp] theorem DrW_some (v:DV) (M':VM): @DrW X fr (some (v,M')) d l bs s= @Dr X fr l (⟨zit bs,M',[]⟩::bs.map (zcg d)) (zY d v s) M':=id rfl
@[simp] theorem DrC_some (f:DV) (as:List DV): @DrC X fr (some f) (some as) d l bs s M=X.call f as M (@DW X fr d l bs s) fun _ _=>False:=id rfl
@[simp] theorem DrF_some (ns:List (List Bool)) (v:DV) (M':VM): @DrF X fr (some (v,M')) ns d l bs s= @Dr X fr l (bs.map (zf9 ns d)) (zY d v s) M':=id rfl
@[simp] theorem DrA_some (v:DV) (M':VM): @DrA X fr (some (v,M')) d l bs s= @Dr X fr l (bs.map (zcg d)) (zY d v s) M':=id rfl
@[simp] theorem DrR_some (v:DV) (M':VM) (rs:List Nat) (ns:List (List Bool)) (x:Mo) (r:List Mo): @DrR X fr (some (v,M')) rs ns d lo l (x::r) s M=(rdAt rs ns M x∧rdOk rs ns M lo r∧zjN (x::r) v=true∧ @Dr X fr l (x::zij lo d r) (zY d v s) M):=id rfl
theorem za (b:Bool) (o:CI): @DrG X fr (some b) o l bs s M=if b=true then @DrG X fr (some true) o l bs s M else @DrG X fr (some false) o l bs s M:=by cases b<;>rfl
@[simp] theorem DrG_true (o:CI): @DrG X fr (some true) o l bs s M= @Dr X fr (⟨o.dst,o.op,none,o.lo⟩::l) bs s M:=id rfl
@[simp] theorem DrG_false (o:CI): @DrG X fr (some false) o l bs s M=if isW o.op=true then @DW X fr o.dst l bs s (.tup []) M else if isRd o.op=true then @Dr X fr l (bs.map (zf9 (zq o.op) o.dst)) (zY o.dst (.tup []) s) M else if isFl o.op=true then @Dr X fr l (bs.map (zf9 (zq o.op) o.dst)) (zY o.dst (.tup []) s) M else @Dr X fr l (bs.map (zcg o.dst)) (zY o.dst (.tup []) s) M:=id rfl
@[simp] theorem Dr_guard (op:COp) (g:List Bool×Bool): @Dr X fr (⟨d,op,some g,lo⟩::l) bs s M= @DrG X fr (wantD (some g) s) ⟨d,op,some g,lo⟩ l bs s M:=by
  unfold Dr
  conv=>lhs;unfold zdp
  cases hw:isW op with
  |true=>
   show zgz X _ s M _ _=_
   unfold zgz DrG
   dsimp only
   congr 1;funext b
   cases b with
   |true=>show _= @Dr X fr _ _ _ _;unfold Dr;(conv=>rhs;unfold zdp;rw[hw]);rfl
   |false=>dsimp only;rw[hw];rfl
  |false=>
   cases hr:isRd op with
   |true=>
    unfold DrG
    dsimp only
    congr 1;funext b
    cases b with
    |true=>show _= @Dr X fr _ _ _ _;unfold Dr;(conv=>rhs;unfold zdp;rw[hw,hr]);rfl
    |false=>dsimp only;rw[hw,hr];rfl
   |false=>
    cases hf:isFl op with
    |true=>
     show zgz X _ s M _ _=_
     unfold zgz DrG
     dsimp only
     congr 1;funext b
     cases b with
     |true=>show _= @Dr X fr _ _ _ _;unfold Dr;(conv=>rhs;unfold zdp;rw[hw,hr,hf]);rfl
     |false=>dsimp only;rw[hw,hr,hf];rfl
    |false=>
     show zgz X _ s M _ _=_
     unfold zgz DrG
     dsimp only
     congr 1;funext b
     cases b with
     |true=>show _= @Dr X fr _ _ _ _;unfold Dr;(conv=>rhs;unfold zdp;rw[hw,hr,hf]);rfl
     |false=>dsimp only;rw[hw,hr,hf];rfl
@[simp] theorem Dr_call (f:CO) (as:List CO): @Dr X fr (⟨d,.call f as,none,lo⟩::l) bs s M= @DrC X fr (evD s f) (evDL s as) d l bs s M:=id rfl
@[simp] theorem Dr_mv (x:CO): @Dr X fr (⟨d,.mv x,none,lo⟩::l) bs s M= @DrF X fr (opD (.mv x) s M) (zq (.mv x)) d l bs s:=id rfl
@[simp] theorem Dr_pick (c a b:CO): @Dr X fr (⟨d,.pick c a b,none,lo⟩::l) bs s M= @DrF X fr (opD (.pick c a b) s M) (zq (.pick c a b)) d l bs s:=id rfl
@[simp] theorem Dr_build (z:List Value) (ps:List (Nat×Nat×CO)): @Dr X fr (⟨d,.build z ps,none,lo⟩::l) bs s M= @DrF X fr (opD (.build z ps) s M) (zq (.build z ps)) d l bs s:=id rfl
@[simp] theorem Dr_load1 (a:CO): @Dr X fr (⟨d,.load1 a,none,lo⟩::l) bs s M= @DrR X fr (opD (.load1 a) s M) (zbO s (.load1 a)) (zq (.load1 a)) d lo l bs s M:=by cases bs<;>rfl
@[simp] theorem Dr_loadN (n:Nat) (a:CO): @Dr X fr (⟨d,.loadN n a,none,lo⟩::l) bs s M= @DrR X fr (opD (.loadN n a) s M) (zbO s (.loadN n a)) (zq (.loadN n a)) d lo l bs s M:=by cases bs<;>rfl
@[simp] theorem Dr_store (n:Nat) (a x:CO): @Dr X fr (⟨d,.store n a x,none,lo⟩::l) bs s M= @DrW X fr (opD (.store n a x) s M) d l bs s:=id rfl
@[simp] theorem Dr_nilc (x:CO): @Dr X fr (⟨d,.nilCheck x,none,lo⟩::l) bs s M= @DrF X fr (opD (.nilCheck x) s M) (zq (.nilCheck x)) d l bs s:=id rfl
@[simp] theorem Dr_bin (op:BinOp) (ek:EK) (x y:CO): @Dr X fr (⟨d,.bin op ek x y,none,lo⟩::l) bs s M= @DrF X fr (opD (.bin op ek x y) s M) (zq (.bin op ek x y)) d l bs s:=id rfl
@[simp] theorem Dr_un (op:UnOp) (x:CO): @Dr X fr (⟨d,.un op x,none,lo⟩::l) bs s M= @DrF X fr (opD (.un op x) s M) (zq (.un op x)) d l bs s:=id rfl
@[simp] theorem Dr_conv (k:IntKind) (x:CO): @Dr X fr (⟨d,.conv k x,none,lo⟩::l) bs s M= @DrF X fr (opD (.conv k x) s M) (zq (.conv k x)) d l bs s:=id rfl
@[simp] theorem Dr_makeFunc (g:Fn) (a b:List CO): @Dr X fr (⟨d,.makeFunc g a b,none,lo⟩::l) bs s M= @DrF X fr (opD (.makeFunc g a b) s M) (zq (.makeFunc g a b)) d l bs s:=id rfl
@[simp] theorem Dr_slice (n:Nat) (x:CO) (lo' hi:Option CO): @Dr X fr (⟨d,.slice n x lo' hi,none,lo⟩::l) bs s M= @DrR X fr (opD (.slice n x lo' hi) s M) (zbO s (.slice n x lo' hi)) (zq (.slice n x lo' hi)) d lo l bs s M:=by cases bs<;>rfl
@[simp] theorem Dr_slice3 (n:Nat) (x:CO) (lo':Option CO) (hi mx:CO): @Dr X fr (⟨d,.slice3 n x lo' hi mx,none,lo⟩::l) bs s M= @DrR X fr (opD (.slice3 n x lo' hi mx) s M) (zbO s (.slice3 n x lo' hi mx)) (zq (.slice3 n x lo' hi mx)) d lo l bs s M:=by cases bs<;>rfl
@[simp] theorem Dr_fieldAddr (n:Nat) (x:CO): @Dr X fr (⟨d,.fieldAddr n x,none,lo⟩::l) bs s M= @DrF X fr (opD (.fieldAddr n x) s M) (zq (.fieldAddr n x)) d l bs s:=id rfl
@[simp] theorem Dr_indexAddr (n:Nat) (x i:CO): @Dr X fr (⟨d,.indexAddr n x i,none,lo⟩::l) bs s M= @DrF X fr (opD (.indexAddr n x i) s M) (zq (.indexAddr n x i)) d l bs s:=id rfl
@[simp] theorem Dr_indexArr (n m:Nat) (x i:CO): @Dr X fr (⟨d,.indexArr n m x i,none,lo⟩::l) bs s M= @DrF X fr (opD (.indexArr n m x i) s M) (zq (.indexArr n m x i)) d l bs s:=id rfl
@[simp] theorem Dr_lookup (kk:KK) (z:Value) (ok:Bool) (x i:CO): @Dr X fr (⟨d,.lookup kk z ok x i,none,lo⟩::l) bs s M= @DrR X fr (opD (.lookup kk z ok x i) s M) (zbO s (.lookup kk z ok x i)) (zq (.lookup kk z ok x i)) d lo l bs s M:=by cases bs<;>rfl
@[simp] theorem Dr_mapUpdate (kk:KK) (m i x:CO): @Dr X fr (⟨d,.mapUpdate kk m i x,none,lo⟩::l) bs s M= @DrW X fr (opD (.mapUpdate kk m i x) s M) d l bs s:=id rfl
@[simp] theorem Dr_extract (x:CO) (i:Nat): @Dr X fr (⟨d,.extract x i,none,lo⟩::l) bs s M= @DrF X fr (opD (.extract x i) s M) (zq (.extract x i)) d l bs s:=id rfl
@[simp] theorem Dr_strIdx (x i:CO): @Dr X fr (⟨d,.strIdx x i,none,lo⟩::l) bs s M= @DrF X fr (opD (.strIdx x i) s M) (zq (.strIdx x i)) d l bs s:=id rfl
@[simp] theorem Dr_mkI (t:TypeId) (x:CO): @Dr X fr (⟨d,.mkI t x,none,lo⟩::l) bs s M= @DrF X fr (opD (.mkI t x) s M) (zq (.mkI t x)) d l bs s:=id rfl
@[simp] theorem Dr_assertT (t:TypeId) (z:Value) (ok:Bool) (x:CO): @Dr X fr (⟨d,.assertT t z ok x,none,lo⟩::l) bs s M= @DrF X fr (opD (.assertT t z ok x) s M) (zq (.assertT t z ok x)) d l bs s:=id rfl
@[simp] theorem Dr_strSlice (x:CO) (lo' hi:Option CO): @Dr X fr (⟨d,.strSlice x lo' hi,none,lo⟩::l) bs s M= @DrF X fr (opD (.strSlice x lo' hi) s M) (zq (.strSlice x lo' hi)) d l bs s:=id rfl
@[simp] theorem Dr_b2s (x:CO): @Dr X fr (⟨d,.b2s x,none,lo⟩::l) bs s M= @DrR X fr (opD (.b2s x) s M) (zbO s (.b2s x)) (zq (.b2s x)) d lo l bs s M:=by cases bs<;>rfl
@[simp] theorem Dr_fld (n:Nat) (m:Option Nat) (x:CO): @Dr X fr (⟨d,.fld n m x,none,lo⟩::l) bs s M= @DrF X fr (opD (.fld n m x) s M) (zq (.fld n m x)) d l bs s:=id rfl
@[simp] theorem Dr_box (x:CO): @Dr X fr (⟨d,.box x,none,lo⟩::l) bs s M= @DrA X fr (opD (.box x) s M) d l bs s:=id rfl
@[simp] theorem Dr_alloc (z:List Value): @Dr X fr (⟨d,.alloc z,none,lo⟩::l) bs s M= @DrA X fr (opD (.alloc z) s M) d l bs s:=id rfl
@[simp] theorem Dr_makeMap: @Dr X fr (⟨d,.makeMap,none,lo⟩::l) bs s M= @DrA X fr (opD (.makeMap) s M) d l bs s:=id rfl
@[simp] theorem Dr_makeSlice (n b:Nat) (z:List Value) (l' c:CO): @Dr X fr (⟨d,.makeSlice n b z l' c,none,lo⟩::l) bs s M= @DrA X fr (opD (.makeSlice n b z l' c) s M) d l bs s:=id rfl
@[simp] theorem Dr_buildSlice (len size:Nat) (z:List Value) (ps:List (Nat×CO)): @Dr X fr (⟨d,.buildSlice len size z ps,none,lo⟩::l) bs s M= @DrA X fr (opD (.buildSlice len size z ps) s M) d l bs s:=id rfl
@[simp] theorem Dr_append (s' b:Nat) (as:List CO): @Dr X fr (⟨d,.blt (.append s' b) as,none,lo⟩::l) bs s M= @DrW X fr (opD (.blt (.append s' b) as) s M) d l bs s:=id rfl
@[simp] theorem Dr_lenMap (as:List CO): @Dr X fr (⟨d,.blt .lenMap as,none,lo⟩::l) bs s M= @DrR X fr (opD (.blt .lenMap as) s M) (zbO s (.blt .lenMap as)) (zq (.blt .lenMap as)) d lo l bs s M:=by cases bs<;>rfl
@[simp] theorem Dr_len (as:List CO): @Dr X fr (⟨d,.blt .len as,none,lo⟩::l) bs s M= @DrF X fr (opD (.blt .len as) s M) (zq (.blt .len as)) d l bs s:=id rfl
@[simp] theorem Dr_lenStr (as:List CO): @Dr X fr (⟨d,.blt .lenStr as,none,lo⟩::l) bs s M= @DrF X fr (opD (.blt .lenStr as) s M) (zq (.blt .lenStr as)) d l bs s:=id rfl
@[simp] theorem Dr_min (as:List CO): @Dr X fr (⟨d,.blt .min as,none,lo⟩::l) bs s M= @DrF X fr (opD (.blt .min as) s M) (zq (.blt .min as)) d l bs s:=id rfl
@[simp] theorem Dr_max (as:List CO): @Dr X fr (⟨d,.blt .max as,none,lo⟩::l) bs s M= @DrF X fr (opD (.blt .max as) s M) (zq (.blt .max as)) d l bs s:=id rfl
end
end
end Go.Ideal
namespace Go.Ideal
noncomputable section
attribute [simp] List.getElem?_cons_zero List.getElem?_cons_succ List.getElem?_eq_getElem
def rdV (M:VM):Option DV→RD
 |some d=>some (d,M)
 |none=>none
@[simp] theorem rdV_some (M:VM) (d:DV):rdV M (some d)=some (d,M):=id rfl
theorem zbq (M:VM) (o:Option DV):o.map (fun d=>(d,M))=rdV M o:=by cases o<;>rfl
def rowO (M:VM):Option DV→Option (List DV)
 |some d=>zcC M d
 |none=>none
def rowI (off:Nat):Option (List DV)→Option (List DV)
 |some r=>some (r.drop off)
 |none=>none
def rowJ (i off:Nat):Option MO→Option (List DV)
 |some (.rows _ _ rs)=>rowI off (rs[i]?)
 |_=>none
@[simp] theorem rowO_some (M:VM) (d:DV):rowO M (some d)=zcC M d:=id rfl
@[simp] theorem rowI_some (off:Nat) (r:List DV):rowI off (some r)=some (r.drop off):=id rfl
@[simp] theorem rowJ_some (i off:Nat) (op:Bool) (sz:Nat) (rs:List (List DV)):rowJ i off (some (.rows op sz rs))=rowI off (rs[i]?):=id rfl
@[simp] theorem rowOf_ptr (M:VM) (j i off:Nat):zcC M (.ptr j i off)=rowJ i off (M.obj j):=by
  show(M.obj j).bind _=_
  cases M.obj j with
  |none=>rfl
  |some o=>cases o<;>first|rfl| (show(Option.map _ _)=rowI off _;rename_i rs;cases rs[i]?<;>rfl)
@[simp] theorem rowOf_pl (M:VM) (s:Nat) (rows:List (List DV)) (i off:Nat):zcC M (.pl s rows i off)=rowI off (rows[i]?):=by
  show(Option.map _ _)=rowI off _;cases rows[i]?<;>rfl
def ld1:Option (List DV)→Option DV
 |some r=>oneD r
 |none=>none
def ldN (n:Nat):Option (List DV)→Option DV
 |some r=>(zdZ n r).map .agg
 |none=>none
@[simp] theorem ld1_some (r:List DV):ld1 (some r)=oneD r:=id rfl
@[simp] theorem ldN_some (n:Nat) (r:List DV):ldN n (some r)=(zdZ n r).map .agg:=id rfl
@[simp] theorem oneD_cons (v:DV) (r:List DV):oneD (v::r)=some v:=id rfl
@[simp] theorem takeD_zero (l:List DV):zdZ 0 l=some []:=by cases l<;>rfl
@[simp] theorem takeD_succ (n:Nat) (v:DV) (r:List DV):zdZ (n+1) (v::r)=(zdZ n r).map (v:: ·):=id rfl
def f1 (f:DV→Option DV):Option DV→Option DV
 |some d=>f d
 |none=>none
@[simp] theorem f1_some (f:DV→Option DV) (d:DV):f1 f (some d)=f d:=id rfl
def f2 (f:DV→DV→Option DV):Option DV→Option DV→Option DV
 |some a,some b=>f a b
 |_,_=>none
@[simp] theorem f2_some (f:DV→DV→Option DV) (a b:DV):f2 f (some a) (some b)=f a b:=id rfl
def pkO:Option DV→Option DV→Option DV→Option DV
 |some c,a,b=>pickD a b c
 |none,_,_=>none
@[simp] theorem pkO_true (a b:Option DV):pkO (some (.bool true)) a b=a:=id rfl
@[simp] theorem pkO_false (a b:Option DV):pkO (some (.bool false)) a b=b:=id rfl
def stW (M:VM) (j i:Nat) (op:Bool) (sz:Nat) (rs:List (List DV)):Option (List DV)→Option VM
 |some r=>some (M.put j (.rows op sz (rs.set i r)))
 |none=>none
def stI (n:Nat) (M:VM) (xs:List DV) (j i off:Nat) (op:Bool) (sz:Nat) (rs:List (List DV)):Option (List DV)→Option VM
 |some r=>if xs.length=n∧0<n∧xs.all zF=true then stW M j i op sz rs (zR r off xs) else none
 |none=>none
def stJ (n:Nat) (M:VM) (xs:List DV) (j i off:Nat):Option MO→Option VM
 |some (.rows op sz rs)=>stI n M xs j i off op sz rs (rs[i]?)
 |_=>none
@[simp] theorem stW_some (M:VM) (j i:Nat) (op:Bool) (sz:Nat) (rs:List (List DV)) (r:List DV):stW M j i op sz rs (some r)=some (M.put j (.rows op sz (rs.set i r))):=id rfl
@[simp] theorem stI_some (n:Nat) (M:VM) (xs:List DV) (j i off:Nat) (op:Bool) (sz:Nat) (rs:List (List DV)) (r:List DV):stI n M xs j i off op sz rs (some r)=if xs.length=n∧0<n∧xs.all zF=true then stW M j i op sz rs (zR r off xs) else none:=id rfl
@[simp] theorem stJ_some (n:Nat) (M:VM) (xs:List DV) (j i off:Nat) (op:Bool) (sz:Nat) (rs:List (List DV)):stJ n M xs j i off (some (.rows op sz rs))=stI n M xs j i off op sz rs (rs[i]?):=id rfl
@[simp] theorem storeD_ptr (n:Nat) (M:VM) (x:DV) (j i off:Nat):zey n M x (.ptr j i off)=stJ n M (zA x) j i off (M.obj j):=by
  show(M.obj j).bind _=_
  cases M.obj j with
  |none=>rfl
  |some o=>cases o with
   |rows op sz rs=>
    show(rs[i]?).bind _=stI n M (zA x) j i off op sz rs (rs[i]?)
    cases rs[i]? with
    |none=>rfl
    |some r=>
     show(if _ then _ else _)=(if _ then _ else _)
     congr 1
     cases zR r off (zA x)<;>rfl
   |_=>rfl
def stR:Option VM→RD
 |some M=>some (.tup [],M)
 |none=>none
@[simp] theorem stR_some (M:VM):stR (some M)=some (.tup [],M):=id rfl
def stO (n:Nat) (M:VM):Option DV→Option DV→RD
 |some a,some x=>stR (zey n M x a)
 |_,_=>none
@[simp] theorem stO_some (n:Nat) (M:VM) (a x:DV):stO n M (some a) (some x)=stR (zey n M x a):=id rfl
def bxO (M:VM):Option DV→RD
 |some v=>some (.ptr M.next 0 0,M.new (.rows false (zA v).length [zA v]))
 |none=>none
@[simp] theorem bxO_some (M:VM) (v:DV):bxO M (some v)=some (.ptr M.next 0 0,M.new (.rows false (zA v).length [zA v])):=id rfl
def alO (M:VM):Option (List DV)→RD
 |some z=>some (.ptr M.next 0 0,M.new (.rows false z.length [z]))
 |none=>none
@[simp] theorem alO_some (M:VM) (z:List DV):alO M (some z)=some (.ptr M.next 0 0,M.new (.rows false z.length [z])):=id rfl
def bdO:Option (List DV)→Option (List (Nat×Nat×DV))→Option DV
 |some z,some l=>(zgV z l).map .agg
 |_,_=>none
@[simp] theorem bdO_some (z:List DV) (l:List (Nat×Nat×DV)):bdO (some z) (some l)=(zgV z l).map .agg:=id rfl
def msR (M:VM) (len size:Nat):Option (List (List DV))→RD
 |some rows=>some (.ms M.next 0 len len,M.new (.rows false size rows))
 |none=>none
@[simp] theorem msR_some (M:VM) (len size:Nat) (rows:List (List DV)):msR M len size (some rows)=some (.ms M.next 0 len len,M.new (.rows false size rows)):=id rfl
def bsO (M:VM) (len size:Nat):Option (List DV)→Option (List (Nat×DV))→RD
 |some z,some l=>if z.length=size∧len<zp then msR M len size (zch size (List.replicate len z) l) else none
 |_,_=>none
@[simp] theorem bsO_some (M:VM) (len size:Nat) (z:List DV) (l:List (Nat×DV)):bsO M len size (some z) (some l)=if z.length=size∧len<zp then msR M len size (zch size (List.replicate len z) l) else none:=id rfl
def mkO (b:Nat) (M:VM):Option DV→Option DV→Option (List DV)→RD
 |some l,some c,some z=>zcG b z M l c
 |_,_,_=>none
@[simp] theorem mkO_some (b:Nat) (M:VM) (l c:DV) (z:List DV):mkO b M (some l) (some c) (some z)=zcG b z M l c:=id rfl
def fnO (g:Fn) (M:VM):Option (List DV)→Option (List DV)→RD
 |some a,some b=>match g with|.func g=>some (.fn g a b,M)|_=>none
 |_,_=>none
@[simp] theorem fnO_some (g:Nat) (M:VM) (a b:List DV):fnO (.func g) M (some a) (some b)=some (.fn g a b,M):=id rfl
def slO (n:Nat) (M:VM):Option DV→Option (Option DV)→Option (Option DV)→Option DV
 |some v,some lo,some hi=>sliceD n M lo hi v
 |_,_,_=>none
@[simp] theorem slO_some (n:Nat) (M:VM) (v:DV) (lo hi:Option DV):slO n M (some v) (some lo) (some hi)=sliceD n M lo hi v:=id rfl
def s3O (n:Nat) (M:VM):Option DV→Option (Option DV)→Option DV→Option DV→Option DV
 |some v,some lo,some hi,some mx=>zgE n M lo hi mx v
 |_,_,_,_=>none
@[simp] theorem s3O_some (n:Nat) (M:VM) (v:DV) (lo:Option DV) (hi mx:DV):s3O n M (some v) (some lo) (some hi) (some mx)=zgE n M lo hi mx v:=id rfl
def lkE (kk:KK) (z:DV) (ok:Bool) (k:DV):Option (List (DV×DV))→Option DV
 |some es=>match zb6 kk k k with|some _=>(findD kk k es).map (zeF z ok)|none=>none
 |none=>none
def lkO (kk:KK) (ok:Bool) (M:VM):Option DV→Option DV→Option DV→Option DV
 |some m,some k,some z=>lkE kk z ok k (zW M m)
 |_,_,_=>none
@[simp] theorem lkO_some (kk:KK) (ok:Bool) (M:VM) (m k z:DV):lkO kk ok M (some m) (some k) (some z)=lkE kk z ok k (zW M m):=id rfl
def muO (kk:KK) (M:VM):Option DV→Option DV→Option DV→RD
 |some m,some k,some x=>stR (updD kk M k x m)
 |_,_,_=>none
@[simp] theorem muO_some (kk:KK) (M:VM) (m k x:DV):muO kk M (some m) (some k) (some x)=stR (updD kk M k x m):=id rfl
def exV (i:Nat):DV→Option DV
 |.tup l=>l[i]?
 |_=>none
@[simp] theorem exV_tup (i:Nat) (l:List DV):exV i (.tup l)=l[i]?:=id rfl
def asO (t:TypeId) (ok:Bool):Option DV→Option DV→Option DV
 |some v,some z=>ze1 t z ok v
 |_,_=>none
@[simp] theorem asO_some (t:TypeId) (ok:Bool) (v z:DV):asO t ok (some v) (some z)=ze1 t z ok v:=id rfl
def ssO:Option DV→Option (Option DV)→Option (Option DV)→Option DV
 |some v,some lo,some hi=>zfX lo hi v
 |_,_,_=>none
@[simp] theorem ssO_some (v:DV) (lo hi:Option DV):ssO (some v) (some lo) (some hi)=zfX lo hi v:=id rfl
def blO (b:CB) (M:VM):Option (List DV)→RD
 |some l=>bltD M b l
 |none=>none
@[simp] theorem blO_some (b:CB) (M:VM) (l:List DV):blO b M (some l)=bltD M b l:=id rfl
def ifV (t:TypeId) (d:DV):Option DV:=some (.ifc t d)
@[simp] theorem ifV_eq (t:TypeId) (d:DV):ifV t d=some (.ifc t d):=id rfl
section
variable {s:DS} {M:VM}
@[simp] theorem opD_mv (x:CO):opD (.mv x) s M=rdV M (evD s x):=zbq _ _
@[simp] theorem opD_pick (c a b:CO):opD (.pick c a b) s M=rdV M (pkO (evD s c) (evD s a) (evD s b)):=by
  show(evD s c).bind _=_;cases evD s c<;>first|rfl|exact zbq _ _
@[simp] theorem opD_build (z:List Value) (ps:List (Nat×Nat×CO)):opD (.build z ps) s M=rdV M (bdO (dOfL z) (zf7 s ps)):=by
  show(dOfL z).bind _=_
  cases dOfL z with
  |none=>rfl
  |some z=>show(zf7 s ps).bind _=_;cases zf7 s ps with
   |none=>rfl
   |some l=>show(zgV z l).map _=rdV M ((zgV z l).map .agg);cases zgV z l<;>rfl
@[simp] theorem opD_load1 (a:CO):opD (.load1 a) s M=rdV M (ld1 (rowO M (evD s a))):=by
  show(evD s a).bind _=_
  cases evD s a with
  |none=>rfl
  |some a=>show(zcC M a).bind _=rdV M (ld1 (zcC M a));cases zcC M a with
   |none=>rfl
   |some r=>exact zbq _ _
@[simp] theorem opD_loadN (n:Nat) (a:CO):opD (.loadN n a) s M=rdV M (ldN n (rowO M (evD s a))):=by
  show(evD s a).bind _=_
  cases evD s a with
  |none=>rfl
  |some a=>show(zcC M a).bind _=rdV M (ldN n (zcC M a));cases zcC M a with
   |none=>rfl
   |some r=>show(zdZ n r).map _=rdV M ((zdZ n r).map .agg);cases zdZ n r<;>rfl
@[simp] theorem opD_store (n:Nat) (a x:CO):opD (.store n a x) s M=stO n M (evD s a) (evD s x):=by
  show(evD s a).bind _=_
  cases evD s a with
  |none=>rfl
  |some a=>show(evD s x).bind _=_;cases evD s x with
   |none=>rfl
   |some x=>show(zey n M x a).map _=stR (zey n M x a);cases zey n M x a<;>rfl
@[simp] theorem opD_nil (x:CO):opD (.nilCheck x) s M=rdV M (f1 nilD (evD s x)):=by
  show(evD s x).bind _=_;cases evD s x<;>first|rfl|exact zbq _ _
@[simp] theorem opD_bin (op:BinOp) (ek:EK) (x y:CO):opD (.bin op ek x y) s M=rdV M (f2 (binD op ek) (evD s x) (evD s y)):=by
  show(evD s x).bind _=_
  cases evD s x with
  |none=>rfl
  |some a=>show(evD s y).bind _=_;cases evD s y<;>first|rfl|exact zbq _ _
@[simp] theorem opD_un (op:UnOp) (x:CO):opD (.un op x) s M=rdV M (f1 (unD op) (evD s x)):=by
  show(evD s x).bind _=_;cases evD s x<;>first|rfl|exact zbq _ _
@[simp] theorem opD_conv (k:IntKind) (x:CO):opD (.conv k x) s M=rdV M (f1 (convD k) (evD s x)):=by
  show(evD s x).bind _=_;cases evD s x<;>first|rfl|exact zbq _ _
@[simp] theorem opD_makeFunc (g:Fn) (a b:List CO):opD (.makeFunc g a b) s M=fnO g M (evDL s a) (evDL s b):=by
  cases g with
  |func g=>
   show(evDL s a).bind _=_
   cases evDL s a with
   |none=>rfl
   |some a=>show(evDL s b).map _=_;cases evDL s b<;>rfl
  |_=>unfold opD fnO;cases evDL s a<;>cases evDL s b<;>rfl
@[simp] theorem opD_slice (n:Nat) (x:CO) (lo hi:Option CO):opD (.slice n x lo hi) s M=rdV M (slO n M (evD s x) (evDO s lo) (evDO s hi)):=by
  show(evD s x).bind _=_
  cases evD s x with
  |none=>rfl
  |some v=>show(evDO s lo).bind _=_;cases evDO s lo with
   |none=>rfl
   |some lo=>show(evDO s hi).bind _=_;cases evDO s hi<;>first|rfl|exact zbq _ _
@[simp] theorem opD_slice3 (n:Nat) (x:CO) (lo:Option CO) (hi mx:CO):opD (.slice3 n x lo hi mx) s M=rdV M (s3O n M (evD s x) (evDO s lo) (evD s hi) (evD s mx)):=by
  show(evD s x).bind _=_
  cases evD s x with
  |none=>rfl
  |some v=>show(evDO s lo).bind _=_;cases evDO s lo with
   |none=>rfl
   |some lo=>show(evD s hi).bind _=_;cases evD s hi with
    |none=>rfl
    |some hi=>show(evD s mx).bind _=_;cases evD s mx<;>first|rfl|exact zbq _ _
@[simp] theorem opD_fieldAddr (n:Nat) (x:CO):opD (.fieldAddr n x) s M=rdV M (f1 (offD n) (evD s x)):=by
  show(evD s x).bind _=_;cases evD s x<;>first|rfl|exact zbq _ _
@[simp] theorem opD_indexAddr (n:Nat) (x i:CO):opD (.indexAddr n x i) s M=rdV M (f2 (zjz n M) (evD s i) (evD s x)):=by
  show(evD s x).bind _=_
  cases evD s x with
  |none=>cases evD s i<;>rfl
  |some a=>show(evD s i).bind _=_;cases evD s i<;>first|rfl|exact zbq _ _
@[simp] theorem opD_indexArr (n m:Nat) (x i:CO):opD (.indexArr n m x i) s M=rdV M (f2 (arrD n m) (evD s i) (evD s x)):=by
  show(evD s x).bind _=_
  cases evD s x with
  |none=>cases evD s i<;>rfl
  |some a=>show(evD s i).bind _=_;cases evD s i<;>first|rfl|exact zbq _ _
@[simp] theorem opD_lookup (kk:KK) (z:Value) (ok:Bool) (x i:CO):opD (.lookup kk z ok x i) s M=rdV M (lkO kk ok M (evD s x) (evD s i) (dOf z)):=by
  show(evD s x).bind _=_
  cases evD s x with
  |none=>rfl
  |some m=>show(evD s i).bind _=_;cases evD s i with
   |none=>rfl
   |some k=>show(dOf z).bind _=_;cases dOf z with
    |none=>rfl
    |some z=>
     show(zb6 kk k k).bind _=rdV M (lkE kk z ok k (zW M m))
     cases hk:zb6 kk k k with
     |none=>cases zW M m<;>simp[lkE,hk,rdV]
     |some b=>
      show(zW M m).bind _=_
      cases zW M m with
      |none=>rfl
      |some es=>
       simp only[lkE,hk]
       show(findD kk k es).map _=rdV M ((findD kk k es).map _)
       cases findD kk k es<;>rfl
@[simp] theorem opD_mapUpdate (kk:KK) (m i x:CO):opD (.mapUpdate kk m i x) s M=muO kk M (evD s m) (evD s i) (evD s x):=by
  show(evD s m).bind _=_
  cases evD s m with
  |none=>rfl
  |some m=>show(evD s i).bind _=_;cases evD s i with
   |none=>rfl
   |some k=>show(evD s x).bind _=_;cases evD s x with
    |none=>rfl
    |some x=>show(updD kk M k x m).map _=stR (updD kk M k x m);cases updD kk M k x m<;>rfl
@[simp] theorem opD_extract (x:CO) (i:Nat):opD (.extract x i) s M=rdV M (f1 (exV i) (evD s x)):=by
  show(evD s x).bind _=_
  cases evD s x with
  |none=>rfl
  |some v=>cases v<;>first|rfl|exact zbq _ _
@[simp] theorem opD_strIdx (x i:CO):opD (.strIdx x i) s M=rdV M (f2 strIdxD (evD s x) (evD s i)):=by
  show(evD s x).bind _=_
  cases evD s x with
  |none=>rfl
  |some a=>show(evD s i).bind _=_;cases evD s i<;>first|rfl|exact zbq _ _
@[simp] theorem opD_mkI (t:TypeId) (x:CO):opD (.mkI t x) s M=rdV M (f1 (ifV t) (evD s x)):=by
  show(evD s x).map _=_;cases evD s x<;>rfl
@[simp] theorem opD_assertT (t:TypeId) (z:Value) (ok:Bool) (x:CO):opD (.assertT t z ok x) s M=rdV M (asO t ok (evD s x) (dOf z)):=by
  show(evD s x).bind _=_
  cases evD s x with
  |none=>rfl
  |some v=>show(dOf z).bind _=_;cases dOf z<;>first|rfl|exact zbq _ _
@[simp] theorem opD_strSlice (x:CO) (lo hi:Option CO):opD (.strSlice x lo hi) s M=rdV M (ssO (evD s x) (evDO s lo) (evDO s hi)):=by
  show(evD s x).bind _=_
  cases evD s x with
  |none=>rfl
  |some v=>show(evDO s lo).bind _=_;cases evDO s lo with
   |none=>rfl
   |some lo=>show(evDO s hi).bind _=_;cases evDO s hi<;>first|rfl|exact zbq _ _
@[simp] theorem opD_b2s (x:CO):opD (.b2s x) s M=rdV M (f1 (b2sD M) (evD s x)):=by
  show(evD s x).bind _=_;cases evD s x<;>first|rfl|exact zbq _ _
@[simp] theorem opD_fld (n:Nat) (m:Option Nat) (x:CO):opD (.fld n m x) s M=rdV M (f1 (fldD n m) (evD s x)):=by
  show(evD s x).bind _=_;cases evD s x<;>first|rfl|exact zbq _ _
@[simp] theorem opD_box (x:CO):opD (.box x) s M=bxO M (evD s x):=by
  show(evD s x).map _=_;cases evD s x<;>rfl
@[simp] theorem opD_alloc (z:List Value):opD (.alloc z) s M=alO M (dOfL z):=by
  show(dOfL z).map _=_;cases dOfL z<;>rfl
@[simp] theorem opD_makeMap:opD .makeMap s M=some (.map M.next,M.new (.map [])):=id rfl
@[simp] theorem opD_makeSlice (n b:Nat) (z:List Value) (l c:CO):opD (.makeSlice n b z l c) s M=mkO b M (evD s l) (evD s c) (dOfL z):=by
  show(evD s l).bind _=_
  cases evD s l with
  |none=>rfl
  |some l=>show(evD s c).bind _=_;cases evD s c with
   |none=>rfl
   |some c=>show(dOfL z).bind _=_;cases dOfL z<;>rfl
@[simp] theorem opD_buildSlice (len size:Nat) (z:List Value) (ps:List (Nat×CO)):opD (.buildSlice len size z ps) s M=bsO M len size (dOfL z) (zec s ps):=by
  show(dOfL z).bind _=_
  cases dOfL z with
  |none=>rfl
  |some z=>
   show(if z.length=size∧len<zp then(zec s ps).bind _ else none)=_
   cases zec s ps with
   |none=>split<;>rfl
   |some l=>
    show _=(if z.length=size∧len<zp then msR M len size (zch size (List.replicate len z) l) else none)
    split
    ·show(zch _ _ _).map _=_;cases zch size (List.replicate len z) l<;>rfl
    ·rfl
@[simp] theorem opD_blt (b:CB) (as:List CO):opD (.blt b as) s M=blO b M (evDL s as):=by
  show(evDL s as).bind _=_;cases evDL s as<;>rfl
@[simp] theorem getS_bits (m n:Nat) (d:DV) (s:DS):getS ((bits m,d)::s) (bits n)=if m=n then some d else getS s (bits n):=by
  rw[zcW]
  by_cases h:m=n
  ·rw[if_pos h,if_pos (by rw[h])]
  ·rw[if_neg h,if_neg (fun e=>h (zgr e))]
@[simp] theorem evD_t (n:Nat):evD s (.t (bits n))=getS s (bits n):=id rfl
@[simp] theorem evD_int (k:IntKind) (n:Int):evD s (.c (.int k n))=some (.int k n):=id rfl
@[simp] theorem evD_bool (b:Bool):evD s (.c (.bool b))=some (.bool b):=id rfl
@[simp] theorem evD_str (b:ByteArray):evD s (.c (.string b))=some (.str b):=id rfl
@[simp] theorem evD_fc (f:Nat):evD s (.c (.func (.func f) ⟨[]⟩ ⟨[]⟩))=some (.fn f [] []):=id rfl
@[simp] theorem evD_nilS:evD s (.c (.slice none 0 0))=some .nilS:=id rfl
@[simp] theorem evD_nilP:evD s (.c (.pointer none))=some .nilP:=id rfl
@[simp] theorem evD_nilM:evD s (.c (.map none))=some .nilM:=id rfl
@[simp] theorem evD_nilF:evD s (.c .nilFunc)=some .nilF:=id rfl
@[simp] theorem evD_nilI:evD s (.c .nilIface)=some .nilI:=id rfl
@[simp] theorem evD_agg (cs:List Value):evD s (.c (.agg ⟨cs⟩))=(dOfL cs).map .agg:=id rfl
@[simp] theorem dOf_int (k:IntKind) (n:Int):dOf (.int k n)=some (.int k n):=id rfl
@[simp] theorem dOf_bool (b:Bool):dOf (.bool b)=some (.bool b):=id rfl
@[simp] theorem dOf_agg (cs:List Value):dOf (.agg ⟨cs⟩)=(dOfL cs).map .agg:=id rfl
@[simp] theorem dOfL_nil:dOfL []=some []:=id rfl
@[simp] theorem dOfL_cons (v:Value) (r:List Value):dOfL (v::r)=(dOf1 v).bind fun d=>(dOfL r).map (d:: ·):=id rfl
@[simp] theorem dOf1_int (k:IntKind) (n:Int):dOf1 (.int k n)=some (.int k n):=id rfl
@[simp] theorem dOf1_bool (b:Bool):dOf1 (.bool b)=some (.bool b):=id rfl
@[simp] theorem dOf1_str (b:ByteArray):dOf1 (.string b)=some (.str b):=id rfl
@[simp] theorem dOf1_nilS:dOf1 (.slice none 0 0)=some .nilS:=id rfl
@[simp] theorem dOf1_nilP:dOf1 (.pointer none)=some .nilP:=id rfl
@[simp] theorem dOf1_nilM:dOf1 (.map none)=some .nilM:=id rfl
@[simp] theorem dOf1_nilF:dOf1 .nilFunc=some .nilF:=id rfl
@[simp] theorem dOf1_nilI:dOf1 .nilIface=some .nilI:=id rfl
def consO:Option DV→Option (List DV)→Option (List DV)
 |some d,some l=>some (d::l)
 |_,_=>none
@[simp] theorem consO_some (d:DV) (l:List DV):consO (some d) (some l)=some (d::l):=id rfl
@[simp] theorem evDL_nil:evDL s []=some []:=id rfl
@[simp] theorem evDL_cons (x:CO) (r:List CO):evDL s (x::r)=consO (evD s x) (evDL s r):=by
  show(evD s x).bind _=_;cases evD s x<;>cases evDL s r<;>rfl
@[simp] theorem evDO_none:evDO s none=some none:=id rfl
@[simp] theorem evDO_some (x:CO):evDO s (some x)=(evD s x).map some:=id rfl
@[simp] theorem partsD_nil:zf7 s []=some []:=id rfl
@[simp] theorem partsD_cons (o n:Nat) (x:CO) (r:List (Nat×Nat×CO)):zf7 s ((o,n,x)::r)=(evD s x).bind fun v=>(zf7 s r).map ((o,n,v):: ·):=id rfl
@[simp] theorem partsSD_nil:zec s []=some []:=id rfl
@[simp] theorem partsSD_cons (i:Nat) (x:CO) (r:List (Nat×CO)):zec s ((i,x)::r)=(evD s x).bind fun v=>(zec s r).map ((i,v):: ·):=id rfl
@[simp] theorem fillD_nil (z:List DV):zgV z []=some z:=id rfl
def fillR (r:List (Nat×Nat×DV)):Option (List DV)→Option (List DV)
 |some c=>zgV c r
 |none=>none
@[simp] theorem fillR_some (r:List (Nat×Nat×DV)) (c:List DV):fillR r (some c)=zgV c r:=id rfl
@[simp] theorem fillD_cons (z:List DV) (o n:Nat) (v:DV) (r:List (Nat×Nat×DV)):zgV z ((o,n,v)::r)=if(zA v).length=n∧0<n∧(zA v).all zF=true then fillR r (zR z o (zA v)) else none:=by
  show(if _ then(zR z o (zA v)).bind _ else none)=_
  congr 1;cases zR z o (zA v)<;>rfl
@[simp] theorem setRows_nil (n:Nat) (rows:List (List DV)):zch n rows []=some rows:=id rfl
@[simp] theorem setRows_cons (n:Nat) (rows:List (List DV)) (i:Nat) (v:DV) (r:List (Nat×DV)):zch n rows ((i,v)::r)=if(zA v).length=n∧0<n∧(zA v).all zF=true∧i<rows.length then zch n (rows.set i (zA v)) r else none:=id rfl
@[simp] theorem writeD_n (l:List DV) (o:Nat):zR l o []=some l:=zgy l o
@[simp] theorem writeD_0 (c:DV) (l:List DV) (v:DV) (vs:List DV):zR (c::l) 0 (v::vs)=(zR l 0 vs).map (v:: ·):=id rfl
@[simp] theorem writeD_s (c:DV) (l:List DV) (n:Nat) (v:DV) (vs:List DV):zR (c::l) (n+1) (v::vs)=(zR l n (v::vs)).map (c:: ·):=id rfl
@[simp] theorem putDD_some (p:List Bool) (v:DV):zY (some p) v s=(p,v)::s:=id rfl
@[simp] theorem putDD_none (v:DV):zY none v s=s:=id rfl
def kpL (p:List Bool) (r:DS):Option DV→DS
 |some d=>(p,d)::r
 |none=>r
@[simp] theorem kpL_some (p:List Bool) (r:DS) (d:DV):kpL p r (some d)=(p,d)::r:=id rfl
@[simp] theorem kpL_none (p:List Bool) (r:DS):kpL p r none=r:=id rfl
@[simp] theorem keepD_nil:zbu [] s=s:=id rfl
@[simp] theorem keepD_cons (p:List Bool) (L:List (List Bool)):zbu (p::L) s=zjn s (p::L):=id rfl
@[simp] theorem keepL_nil:zjn s []=[]:=id rfl
@[simp] theorem keepL_cons (p:List Bool) (L:List (List Bool)):zjn s (p::L)=kpL p (zjn s L) (getS s p):=by
  show(match getS s p with|some d=>_|none=>_)=_;cases getS s p<;>rfl
@[simp] theorem getS_nil (p:List Bool):getS [] p=none:=id rfl
def wtB (w:Bool):Option DV→Option Bool
 |some (.bool b)=>some (b==w)
 |some (.tup _)=>some false
 |_=>none
@[simp] theorem wtB_bool (w b:Bool):wtB w (some (.bool b))=some (b==w):=id rfl
@[simp] theorem wtB_tup (w:Bool) (l:List DV):wtB w (some (.tup l))=some false:=id rfl
@[simp] theorem wantD_some (q:List Bool) (w:Bool):wantD (some (q,w)) s=wtB w (getS s q):=by
  show(getS s q).bind _=_
  cases getS s q with
  |none=>rfl
  |some d=>cases d<;>rfl
@[simp] theorem argsD_nil (i:Nat):argsD [] i s=s:=id rfl
@[simp] theorem argsD_cons (v:DV) (vs:List DV) (i:Nat):argsD (v::vs) i s=argsD vs (i+1) ((bits i,v)::s):=id rfl
@[simp] theorem setSD_nil:setSD [] [] s=some s:=id rfl
@[simp] theorem setSD_cons (p:List Bool) (ps:List (List Bool)) (v:DV) (vs:List DV):setSD (p::ps) (v::vs) s=setSD ps vs ((p,v)::s):=id rfl
def resO (rs:List CR) (s:DS) (M:VM):Option (List DV):=zjh s M rs
def enO (k:DV→VM→Prop) (M:VM):Option (List DV)→Prop
 |some vs=>k (zhT vs) M
 |none=>False
@[simp] theorem enO_some (k:DV→VM→Prop) (M:VM) (vs:List DV):enO k M (some vs)=k (zhT vs) M:=id rfl
@[simp] theorem endD_eq (rs:List CR) (k:DV→VM→Prop):endD rs k s M=enO k M (zjh s M rs):=by
  unfold endD;cases zjh s M rs<;>rfl
@[simp] theorem resDL_nil:zjh s M []=some []:=id rfl
@[simp] theorem resDL_cons (r:CR) (rs:List CR):zjh s M (r::rs)=consO (resD s M r) (zjh s M rs):=by
  show(resD s M r).bind _=_;cases resD s M r<;>cases zjh s M rs<;>rfl
@[simp] theorem resD_tmp (p:List Bool):resD s M (.tmp p)=getS s p:=id rfl
@[simp] theorem resD_cell1 (p:List Bool):resD s M (.cell none p)=ld1 (rowO M (getS s p)):=by
  show(getS s p).bind _=_
  cases getS s p with
  |none=>rfl
  |some v=>show(zcC M v).bind _=ld1 (zcC M v);cases zcC M v<;>rfl
@[simp] theorem resD_cellN (n:Nat) (p:List Bool):resD s M (.cell (some n) p)=ldN n (rowO M (getS s p)):=by
  show(getS s p).bind _=_
  cases getS s p with
  |none=>rfl
  |some v=>show(zcC M v).bind _=ldN n (zcC M v);cases zcC M v<;>rfl
@[simp] theorem tupleD_one (v:DV):zhT [v]=v:=id rfl
@[simp] theorem tupleD_nil:zhT []=.tup []:=id rfl
@[simp] theorem tupleD_two (v u:DV) (l:List DV):zhT (v::u::l)=.tup (v::u::l):=id rfl
end
section
variable {M:VM}
@[simp] theorem new_next (o:MO):(M.new o).next=M.next+1:=id rfl
@[simp] theorem put_next (j:Nat) (o:MO):(M.put j o).next=M.next+1:=id rfl
@[simp] theorem del_next (j:Nat):(M.del j).next=M.next:=id rfl
@[simp low] theorem obj_new (o:MO) (i:Nat):(M.new o).obj i=if i=M.next then some o else M.obj i:=by
  unfold VM.obj VM.new;dsimp only;by_cases h:i=M.next<;>simp[h]
@[simp low] theorem obj_put (o:MO) (j i:Nat):(M.put j o).obj i=if i=j then some o else M.obj i:=by
  unfold VM.obj VM.put;dsimp only;by_cases h:i=j<;>simp[h]
@[simp low] theorem obj_del (j i:Nat):(M.del j).obj i=if i=j then none else M.obj i:=by
  unfold VM.obj VM.del;dsimp only;by_cases h:i=j<;>simp[h]
@[simp] theorem obj_new_eq (o:MO):(M.new o).obj M.next=some o:=by rw[obj_new,if_pos rfl]
@[simp] theorem obj_new_ne {o:MO} {i:Nat} (h:i≠M.next):(M.new o).obj i=M.obj i:=by rw[obj_new,if_neg h]
@[simp] theorem obj_put_eq (o:MO) (j:Nat):(M.put j o).obj j=some o:=by rw[obj_put,if_pos rfl]
@[simp] theorem obj_put_ne {o:MO} {j i:Nat} (h:i≠j):(M.put j o).obj i=M.obj i:=by rw[obj_put,if_neg h]
@[simp] theorem get_new_lt {o:MO} {i:Nat} (h:i<M.next):(M.new o).get i=M.get i:=by rw[get_new,if_neg (by omega)]
@[simp] theorem get_new_eq {o:MO}:(M.new o).get M.next=some (o,M.next):=by rw[get_new,if_pos rfl]
@[simp] theorem get_put_ne {j:Nat} {o:MO} {i:Nat} (h:i≠j):(M.put j o).get i=M.get i:=by rw[get_put,if_neg h]
@[simp] theorem get_put_eq {j:Nat} {o:MO}:(M.put j o).get j=some (o,M.next):=by rw[get_put,if_pos rfl]
@[simp] theorem get_del_ne {j:Nat} {i:Nat} (h:i≠j):(M.del j).get i=M.get i:=by rw[get_del,if_neg h]
@[simp] theorem get_del_eq {j:Nat}:(M.del j).get j=none:=by rw[get_del,if_pos rfl]
theorem obj_old {j:Nat} (o:MO) (h:j<M.next):(M.new o).obj j=M.obj j:=by rw[obj_new,if_neg (by omega)]
@[simp] theorem offD_ptr (n j i o:Nat):offD n (.ptr j i o)=some (.ptr j i (o+n)):=id rfl
@[simp] theorem offD_pl (n s i o:Nat) (r:List (List DV)):offD n (.pl s r i o)=some (.pl s r i (o+n)):=id rfl
@[simp] theorem cellsD_agg (l:List DV):zA (.agg l)=l:=id rfl
@[simp] theorem cellsD_int (k:IntKind) (n:Int):zA (.int k n)=[.int k n]:=id rfl
@[simp] theorem cellsD_bool (b:Bool):zA (.bool b)=[.bool b]:=id rfl
@[simp] theorem cellsD_str (b:ByteArray):zA (.str b)=[.str b]:=id rfl
@[simp] theorem cellsD_lst (s:Nat) (r:List (List DV)):zA (.lst s r)=[.lst s r]:=id rfl
@[simp] theorem cellsD_ms (j lo len cap:Nat):zA (.ms j lo len cap)=[.ms j lo len cap]:=id rfl
@[simp] theorem cellsD_nilS:zA .nilS=[.nilS]:=id rfl
@[simp] theorem cellsD_ptr (j i o:Nat):zA (.ptr j i o)=[.ptr j i o]:=id rfl
@[simp] theorem cellsD_nilP:zA .nilP=[.nilP]:=id rfl
@[simp] theorem cellsD_map (j:Nat):zA (.map j)=[.map j]:=id rfl
@[simp] theorem cellsD_nilM:zA .nilM=[.nilM]:=id rfl
@[simp] theorem cellsD_fn (g:Nat) (a c:List DV):zA (.fn g a c)=[.fn g a c]:=id rfl
@[simp] theorem cellsD_nilF:zA .nilF=[.nilF]:=id rfl
@[simp] theorem cellsD_ifc (t:Nat) (v:DV):zA (.ifc t v)=[.ifc t v]:=id rfl
@[simp] theorem cellsD_nilI:zA .nilI=[.nilI]:=id rfl
@[simp] theorem isCellD_int (k:IntKind) (n:Int):zF (.int k n)=true:=id rfl
@[simp] theorem isCellD_bool (b:Bool):zF (.bool b)=true:=id rfl
@[simp] theorem isCellD_str (b:ByteArray):zF (.str b)=true:=id rfl
@[simp] theorem isCellD_lst (s:Nat) (r:List (List DV)):zF (.lst s r)=true:=id rfl
@[simp] theorem isCellD_ms (j lo len cap:Nat):zF (.ms j lo len cap)=true:=id rfl
@[simp] theorem isCellD_nilS:zF .nilS=true:=id rfl
@[simp] theorem isCellD_ptr (j i o:Nat):zF (.ptr j i o)=true:=id rfl
@[simp] theorem isCellD_nilP:zF .nilP=true:=id rfl
@[simp] theorem isCellD_map (j:Nat):zF (.map j)=true:=id rfl
@[simp] theorem isCellD_nilM:zF .nilM=true:=id rfl
@[simp] theorem isCellD_fn (g:Nat) (a c:List DV):zF (.fn g a c)=true:=id rfl
@[simp] theorem isCellD_nilF:zF .nilF=true:=id rfl
@[simp] theorem isCellD_ifc (t:Nat) (v:DV):zF (.ifc t v)=true:=id rfl
@[simp] theorem isCellD_nilI:zF .nilI=true:=id rfl
@[simp] theorem nilD_ptr (j i o:Nat):nilD (.ptr j i o)=some (.ptr j i o):=id rfl
@[simp] theorem nilD_pl (s:Nat) (r:List (List DV)) (i o:Nat):nilD (.pl s r i o)=some (.pl s r i o):=id rfl
@[simp] theorem nilD_fn (g:Nat) (a c:List DV):nilD (.fn g a c)=some (.fn g a c):=id rfl
@[simp] theorem nilD_yld (l:Nat):nilD (.yld l)=some (.yld l):=id rfl
@[simp] theorem lenD_lst (s:Nat) (r:List (List DV)):lenD M (.lst s r)=some r.length:=id rfl
@[simp] theorem lenD_ms (j lo len cap:Nat):lenD M (.ms j lo len cap)=some len:=id rfl
@[simp] theorem lenD_nil:lenD M .nilS=some 0:=id rfl
def lenI (M:VM):Option Nat→RD
 |some n=>some (.int .i64 (n:Int),M)
 |none=>none
@[simp] theorem lenI_some (n:Nat):lenI M (some n)=some (.int .i64 (n:Int),M):=id rfl
@[simp] theorem bltD_len (d:DV):bltD M .len [d]=lenI M (lenD M d):=by show(lenD M d).map _=_;cases lenD M d<;>rfl
def lenE (M:VM):Option (List (DV×DV))→RD
 |some es=>some (.int .i64 (es.length:Int),M)
 |none=>none
@[simp] theorem lenE_some (es:List (DV×DV)):lenE M (some es)=some (.int .i64 (es.length:Int),M):=id rfl
@[simp] theorem bltD_lenMap (d:DV):bltD M .lenMap [d]=lenE M (zW M d):=by show(zW M d).map _=_;cases zW M d<;>rfl
@[simp] theorem bltD_lenStr (s:ByteArray):bltD M .lenStr [.str s]=some (.int .i64 s.size,M):=id rfl
@[simp] theorem bltD_min (v:DV) (r:List DV):bltD M .min (v::r)=rdV M (zcx false v r):=zbq _ _
@[simp] theorem bltD_max (v:DV) (r:List DV):bltD M .max (v::r)=rdV M (zcx true v r):=zbq _ _
@[simp] theorem minmaxD_max (k:IntKind) (a b:Int):zcx true (.int k a) [.int k b]=some (.int k (if a<b then b else a)):=by
  show(if k=k then some (DV.int k (match ltI a b with|true=>b|false=>a)) else none)=_
  rw[if_pos rfl,zdC];by_cases h:a<b<;>simp[h]
@[simp] theorem minmaxD_min (k:IntKind) (a b:Int):zcx false (.int k a) [.int k b]=some (.int k (if b<a then b else a)):=by
  show(if k=k then some (DV.int k (match ltI b a with|true=>b|false=>a)) else none)=_
  rw[if_pos rfl,zdC];by_cases h:b<a<;>simp[h]
def apN (n b:Nat) (M:VM) (x:DV):Option (List (List DV))→RD
 |some new=>if new.all (fun r=>r.all zF)=true then zbR n b M new x else none
 |none=>none
@[simp] theorem apN_some (n b:Nat) (x:DV) (new:List (List DV)):apN n b M x (some new)=if new.all (fun r=>r.all zF)=true then zbR n b M new x else none:=id rfl
@[simp] theorem roE_eq:roE=18446744073709551616:=id rfl
theorem bltD_append (n b:Nat) (s x:DV):bltD M (.append n b) [s,x]=if 0<n∧n<roE then apN n b M s (zbF M n x) else none:=by
 show(if _ then(zbF M n x).bind _ else none)=_
 congr 1;cases zbF M n x<;>rfl
@[simp] theorem appendedD_nilS (n:Nat):zbF M n .nilS=some []:=id rfl
@[simp] theorem appendedD_lst (n s:Nat) (r:List (List DV)):zbF M n (.lst s r)=if s=n then some r else none:=id rfl
def elO (n lo len:Nat):Option MO→Option (List (List DV))
 |some (.rows _ sz rs)=>if sz=n∧lo+len≤rs.length then some ((rs.drop lo).take len) else none
 |_=>none
@[simp] theorem elO_some (n lo len:Nat) (op:Bool) (sz:Nat) (rs:List (List DV)):elO n lo len (some (.rows op sz rs))=if sz=n∧lo+len≤rs.length then some ((rs.drop lo).take len) else none:=id rfl
@[simp] theorem elemsD_ms (n j lo len cap:Nat):zgo M n (.ms j lo len cap)=elO n lo len (M.obj j):=by
  show(M.obj j).bind _=_
  cases M.obj j with
  |none=>rfl
  |some o=>cases o<;>rfl
@[simp] theorem appendedD_ms (n j lo len cap:Nat):zbF M n (.ms j lo len cap)=elO n lo len (M.obj j):=elemsD_ms n j lo len cap
@[simp] theorem appendD_nilS (n b:Nat) (new:List (List DV)):zbR n b M new .nilS=if new=[] then some (.nilS,M) else if new.length*b≤1073741824 then some (.ms M.next 0 new.length zp,M.new (.rows true n new)) else none:=by
  unfold zbR;rfl
def apM (n:Nat) (M:VM) (new:List (List DV)) (j lo len cap:Nat):Option MO→RD
 |some o=>zdn n M new j lo len cap o
 |none=>none
@[simp] theorem apM_some (n:Nat) (new:List (List DV)) (j lo len cap:Nat) (o:MO):apM n M new j lo len cap (some o)=zdn n M new j lo len cap o:=id rfl
@[simp] theorem appendD_ms (n b:Nat) (new:List (List DV)) (j lo len cap:Nat):zbR n b M new (.ms j lo len cap)=if new=[] then some (.ms j lo len cap,M) else if(len+new.length)*b≤1073741824 then apM n M new j lo len cap (M.obj j) else none:=by
  unfold zbR
  by_cases h:new=[]
  ·rw[if_pos h,if_pos h]
  ·rw[if_neg h,if_neg h]
   show(if _ then(M.obj j).bind _ else none)=_
   congr 1;cases M.obj j<;>rfl
@[simp] theorem appendMs_grow (n:Nat) (new:List (List DV)) (j lo len:Nat) (sz:Nat) (rs:List (List DV)):zdn n M new j lo len zp (.rows true sz rs)=if sz=n∧lo+len≤rs.length then
   (if lo+len+new.length≤rs.length then some (.ms j lo (len+new.length) zp,M.put j (.rows true sz (zcR rs new (lo+len))))
    else some (.ms M.next 0 ((rs.drop lo).take len++new).length zp,(M.del j).new (.rows true n ((rs.drop lo).take len++new)))) else none:=by
  show(if sz=n∧lo+len≤rs.length then(if zp=zp then _ else none) else none)=_
  rw[if_pos rfl];rfl
theorem addrD_lst (s:Nat) (k:IntKind) (z:Int) (rows:List (List DV)):zjz s M (.int k z) (.lst s rows)=if 0≤z∧z.toNat<rows.length then some (.pl s rows z.toNat 0) else none:=by
 cases z with
 |ofNat i=>show(if s=s∧i<rows.length then _ else _)=_;simp
 |negSucc i=>show none=_;rw[if_neg (by omega)]
@[simp] theorem addrD_lstN (s:Nat) (k:IntKind) (i:Nat) (rows:List (List DV)):zjz s M (.int k (i:Int)) (.lst s rows)=if i<rows.length then some (.pl s rows i 0) else none:=by
  rw[addrD_lst];simp
@[simp] theorem addrD_lst0 (s:Nat) (k:IntKind) (rows:List (List DV)):zjz s M (.int k 0) (.lst s rows)=if 0<rows.length then some (.pl s rows 0 0) else none:=addrD_lstN s k 0 rows
@[simp] theorem addrD_lst1 (s:Nat) (k:IntKind) (rows:List (List DV)):zjz s M (.int k 1) (.lst s rows)=if 1<rows.length then some (.pl s rows 1 0) else none:=addrD_lstN s k 1 rows
def adO (n:Nat) (z:Int) (j lo len:Nat):Option MO→Option DV
 |some (.rows _ sz _)=>if sz=n∧0≤z∧z.toNat<len then some (.ptr j (lo+z.toNat) 0) else none
 |_=>none
@[simp] theorem adO_some (n:Nat) (z:Int) (j lo len:Nat) (op:Bool) (sz:Nat) (rs:List (List DV)):adO n z j lo len (some (.rows op sz rs))=if sz=n∧0≤z∧z.toNat<len then some (.ptr j (lo+z.toNat) 0) else none:=id rfl
@[simp] theorem addrD_ms (n:Nat) (k:IntKind) (z:Int) (j lo len cap:Nat):zjz n M (.int k z) (.ms j lo len cap)=adO n z j lo len (M.obj j):=by
  show(M.obj j).bind _=_
  cases M.obj j with
  |none=>rfl
  |some o=>cases o with
   |rows op sz rs=>
    cases z with
    |ofNat i=>show(if sz=n∧i<len then _ else _)=_;simp
    |negSucc i=>show none=_;rw[adO_some,if_neg (by omega)]
   |_=>cases z<;>rfl
theorem inD_int (y:Nat) (k:IntKind) (z:Int):inD y (.int k z)=if 0≤z∧z≤(y:Int) then some z.toNat else none:=by
 cases z with
 |ofNat i=>show(if i≤y then _ else _)=_;simp
 |negSucc i=>show none=_;rw[if_neg (by omega)]
@[simp] theorem boundD_none (d y:Nat):zD d y none=some d:=id rfl
@[simp] theorem boundD_some (d y:Nat) (k:IntKind) (z:Int):zD d y (some (.int k z))=if 0≤z∧z≤(y:Int) then some z.toNat else none:=inD_int y k z
def slL (s:Nat) (rows:List (List DV)) (lo:Option DV):Option Nat→Option DV
 |some hi=>(zD 0 hi lo).map fun lo=>.lst s ((rows.drop lo).take (hi - lo))
 |none=>none
@[simp] theorem slL_some (s:Nat) (rows:List (List DV)) (lo:Option DV) (hi:Nat):slL s rows lo (some hi)=(zD 0 hi lo).map fun lo=>.lst s ((rows.drop lo).take (hi - lo)):=id rfl
@[simp] theorem sliceD_lst (n s:Nat) (rows:List (List DV)) (lo hi:Option DV):sliceD n M lo hi (.lst s rows)=if s=n∧0<s then slL s rows lo (zD rows.length rows.length hi) else none:=by
  show(if _ then(zD _ _ hi).bind _ else none)=_
  congr 1;cases zD rows.length rows.length hi<;>rfl
@[simp] theorem entriesD_nil:zW M .nilM=some []:=id rfl
def enT:Option MO→Option (List (DV×DV))
 |some (.map es)=>some es
 |_=>none
@[simp] theorem enT_some (es:List (DV×DV)):enT (some (.map es))=some es:=id rfl
@[simp] theorem entriesD_map (j:Nat):zW M (.map j)=enT (M.obj j):=by
  show(M.obj j).bind _=_
  cases M.obj j with
  |none=>rfl
  |some o=>cases o<;>rfl
@[simp] theorem lookupD_some (z v:DV):zeF z true (some v)=.tup [v,.bool true]:=id rfl
@[simp] theorem lookupD_none (z:DV):zeF z true none=.tup [z,.bool false]:=id rfl
@[simp] theorem lookupD_some' (z v:DV):zeF z false (some v)=v:=id rfl
@[simp] theorem lookupD_none' (z:DV):zeF z false none=z:=id rfl
@[simp] theorem fldD_none (off:Nat) (cs:List DV):fldD off none (.agg cs)=oneD (cs.drop off):=id rfl
@[simp] theorem fldD_some (off n:Nat) (cs:List DV):fldD off (some n) (.agg cs)=(zdZ n (cs.drop off)).map .agg:=id rfl
theorem makeSliceD_eq (b:Nat) (z:List DV) (l c:Int):zcG b z M (.int .i64 l) (.int .i64 c)=if 0≤l∧0≤c∧l≤c∧c.toNat*b≤1073741824∧c≤1073741824 then some (.ms M.next 0 l.toNat c.toNat,M.new (.rows false z.length (List.replicate c.toNat z))) else none:=by
 cases l with
 |ofNat l=>cases c with
  |ofNat c=>
   show(if l≤c∧c*b≤1073741824∧c≤1073741824 then _ else _)=_
   by_cases h:l≤c∧c*b≤1073741824∧c≤1073741824
   ·rw[if_pos h,if_pos (by obtain⟨a,e,f⟩:=h;exact⟨by simp,by simp,by simpa using a,by simpa using e,by simp;omega⟩)];rfl
   ·rw[if_neg h,if_neg (by rintro⟨_,_,a,e,f⟩;exact h ⟨by simpa using a,by simpa using e,by simp at f;omega⟩)]
  |negSucc c=>show none=_;rw[if_neg (by omega)]
 |negSucc l=>cases c<;>(show none=_;rw[if_neg (by omega)])
@[simp] theorem makeSliceD_N (b:Nat) (z:List DV) (n:Nat):zcG b z M (.int .i64 (n:Int)) (.int .i64 (n:Int))=if n*b≤1073741824∧n≤1073741824 then some (.ms M.next 0 n n,M.new (.rows false z.length (List.replicate n z))) else none:=by
  rw[makeSliceD_eq]
  by_cases h:n*b≤1073741824∧n≤1073741824
  ·rw[if_pos h,if_pos (by simp;omega)];rfl
  ·rw[if_neg h,if_neg (by simp;omega)]
@[simp] theorem assertD_eq (t u:Nat) (z v:DV):ze1 t z true (.ifc u v)=if u=t then some (.tup [v,.bool true]) else some (.tup [z,.bool false]):=by
  show(match Nat.beq u t,true with|true,true=>_|true,false=>_|false,true=>_|false,false=>_)=_
  by_cases h:u=t
  ·subst h;rw[if_pos rfl,Nat.beq_refl]
  ·rw[if_neg h];cases e:Nat.beq u t with
   |true=>exact absurd (Nat.eq_of_beq_eq_true e) h
   |false=>rfl
@[simp] theorem assertD_eq' (t u:Nat) (z v:DV):ze1 t z false (.ifc u v)=if u=t then some v else none:=by
  show(match Nat.beq u t,false with|true,true=>_|true,false=>_|false,true=>_|false,false=>_)=_
  by_cases h:u=t
  ·subst h;rw[if_pos rfl,Nat.beq_refl]
  ·rw[if_neg h];cases e:Nat.beq u t with
   |true=>exact absurd (Nat.eq_of_beq_eq_true e) h
   |false=>rfl
@[simp] theorem assertD_nil (t:Nat) (z:DV):ze1 t z true .nilI=some (.tup [z,.bool false]):=id rfl
end
abbrev I (n:Int):DV:=.int .i64 n
section
variable {ek:EK} {a b:Int}
theorem eqI_dec (a b:Int):eqI a b=decide (a=b):=by rw[zgk];by_cases h:a=b<;>simp[h]
@[simp] theorem bin_lss:binD .lss ek (.int .i64 a) (.int .i64 b)=some (.bool (decide (a<b))):=by show some (DV.bool (ltI a b))=_;rw[zdC]
@[simp] theorem bin_gtr:binD .gtr ek (.int .i64 a) (.int .i64 b)=some (.bool (decide (b<a))):=by show some (DV.bool (ltI b a))=_;rw[zdC]
@[simp] theorem bin_leq:binD .leq ek (.int .i64 a) (.int .i64 b)=some (.bool (decide (a≤b))):=by
  show some (DV.bool (!(ltI b a)))=_;rw[zdC];congr 2;by_cases h:b<a<;>simp[h]<;>omega
@[simp] theorem bin_geq:binD .geq ek (.int .i64 a) (.int .i64 b)=some (.bool (decide (b≤a))):=by
  show some (DV.bool (!(ltI a b)))=_;rw[zdC];congr 2;by_cases h:a<b<;>simp[h]<;>omega
@[simp] theorem bin_eql:binD .eql ek (.int .i64 a) (.int .i64 b)=some (.bool (decide (a=b))):=by show some (DV.bool (eqI a b))=_;rw[eqI_dec]
@[simp] theorem bin_neq:binD .neq ek (.int .i64 a) (.int .i64 b)=some (.bool (!decide (a=b))):=by show some (DV.bool (!(eqI a b)))=_;rw[eqI_dec]
@[simp] theorem bin_add:binD .add ek (.int .i64 a) (.int .i64 b)=some (.int .i64 (zhp .i64 (a+b))):=id rfl
@[simp] theorem bin_sub:binD .sub ek (.int .i64 a) (.int .i64 b)=some (.int .i64 (zhp .i64 (a - b))):=id rfl
@[simp] theorem bin_mul:binD .mul ek (.int .i64 a) (.int .i64 b)=some (.int .i64 (zhp .i64 (a*b))):=id rfl
@[simp] theorem un_not (b:Bool):unD .not (.bool b)=some (.bool !b):=id rfl
@[simp] theorem bin_beq (x y:Bool):binD .eql .bool (.bool x) (.bool y)=some (.bool (x==y)):=id rfl
@[simp] theorem bin_bne (x y:Bool):binD .neq .bool (.bool x) (.bool y)=some (.bool (!(x==y))):=id rfl
theorem wrapF_in {n:Int} (h1: -9223372036854775808≤n) (h2:n≤9223372036854775807):zhp .i64 n=n:=by
 rw[wrapF_eq]
 show(if(true&&decide (n%(2^64:Int)≥(2^63:Int)))=true then n%(2^64:Int) - (2^64:Int) else n%(2^64:Int))=n
 simp only[Bool.true_and,decide_eq_true_eq]
 split<;>omega
theorem zcJ {n:Int} (h1: -9223372036854775808≤n) (h2:n<9223372036854775808):zhp .i64 n=n:=wrapF_in h1 (by omega)
end
section
variable {F:FuncId→Option zm} {n0:Nat}
@[simp] theorem rD_call (f:DV) (l:List DV) (M:VM) (k kp:DV→VM→Prop):(rD F n0).call f l M k kp=zt F f l M k kp:=id rfl
@[simp] theorem rD_loop (L:List (List Bool)) (b:CC) (K:KD) (s:DS) (M:VM):(rD F n0).loop L b K s M=zbB F n0 L b K s M:=id rfl
@[simp] theorem rD_hand (f:DV) (l:List DV) (p:Option DV) (M:VM) (k:VM→Prop):(rD F n0).hand f l p M k=HandD F f l p M k:=id rfl
end
section
variable {F:FuncId→Option zm} {n0:Nat}
theorem zt.fn {g:Nat} {a c args:List DV} {M:VM} {k kp:DV→VM→Prop} {cf:zm} (hF:F g=some cf) (hp:cf.prim=none) (hn:(a++args++c).length≤cf.ntmps) (h: @Cd (rD F M.next) (.base (bodyKD (rD F) cf.results k kp cf.dfr)) cf.body (argsD (a++args++c) 0 []) M):zt F (.fn g a c) args M k kp:=
 zt.func hF hp ⟨hn,h⟩
@[simp] theorem bodyKD_none (X:Nat→RnD) (rs:List CR) (k kp:DV→VM→Prop):bodyKD X rs k kp none=fnKD rs k kp:=id rfl
@[simp] theorem fnKD_ret (rs:List CR) (k kp:DV→VM→Prop) (s:DS) (M:VM):(fnKD rs k kp).ret s M=endD rs k s M:=id rfl
@[simp] theorem fnKD_nrm (rs:List CR) (k kp:DV→VM→Prop) (s:DS) (M:VM):(fnKD rs k kp).nrm s M=endD rs k s M:=id rfl
@[simp] theorem fnKD_pan (rs:List CR) (k kp:DV→VM→Prop) (v:DV) (s:DS) (M:VM):(fnKD rs k kp).pan v s M=kp v M:=id rfl
def LoK (F:FuncId→Option zm) (n0:Nat) (L:List (List Bool)) (b:CC) (K:KD):KD:=⟨fun s M=>zbB F n0 L b K (zbu L s) M,K.ext,K.ret,K.pan⟩
@[simp] theorem LoK_nrm (L:List (List Bool)) (b:CC) (K:KD) (s:DS) (M:VM):(LoK F n0 L b K).nrm s M=zbB F n0 L b K (zbu L s) M:=id rfl
@[simp] theorem LoK_ext (L:List (List Bool)) (b:CC) (K:KD) (i:Nat) (s:DS) (M:VM):(LoK F n0 L b K).ext i s M=K.ext i s M:=id rfl
@[simp] theorem LoK_ret (L:List (List Bool)) (b:CC) (K:KD) (s:DS) (M:VM):(LoK F n0 L b K).ret s M=K.ret s M:=id rfl
@[simp] theorem LoK_pan (L:List (List Bool)) (b:CC) (K:KD) (v:DV) (s:DS) (M:VM):(LoK F n0 L b K).pan v s M=K.pan v s M:=id rfl
theorem zbB.go {L:List (List Bool)} {b b':CC} {K:KD} {s:DS} {M:VM} (hb:b=b') (h: @Cd (rD F n0) (.base (LoK F n0 L b K)) b' (zbu L s) M):zbB F n0 L b K s M:=zbB.step (hb▸h)
def SM (n:Nat) (M M':VM):Prop:= ∀j,j<n→M'.get j=M.get j
@[simp] theorem SM_refl (n:Nat) (M:VM):SM n M M:=fun _ _=>rfl
@[simp] theorem SM_new {n:Nat} {M M':VM} {o:MO} (h:SM n M M') (hn:n≤M'.next):SM n M (M'.new o):=fun j hj=>by rw[get_new,if_neg (by omega)];exact h j hj
@[simp] theorem SM_put {n:Nat} {M M':VM} {i:Nat} {o:MO} (h:SM n M M') (hn:n≤i):SM n M (M'.put i o):=fun j hj=>by rw[get_put,if_neg (by omega)];exact h j hj
@[simp] theorem SM_del {n:Nat} {M M':VM} {i:Nat} (h:SM n M M') (hn:n≤i):SM n M (M'.del i):=fun j hj=>by rw[get_del,if_neg (by omega)];exact h j hj
def Again (F:FuncId→Option zm) (n0:Nat) (L:List (List Bool)) (b:CC) (K:KD) (M:VM) (s':DS) (M':VM):Prop:= ∃s2 M2,Conv M M' M2∧SFrz M' M2 s' s2∧zbB F n0 L b K s2 M2
def ItK (F:FuncId→Option zm) (n0:Nat) (L:List (List Bool)) (b:CC) (K:KD) (M:VM):KD:=⟨fun s' M'=>Again F n0 L b K M (zbu L s') M',K.ext,K.ret,K.pan⟩
@[simp] theorem ItK_nrm (L:List (List Bool)) (b:CC) (K:KD) (M0:VM) (s:DS) (M:VM):(ItK F n0 L b K M0).nrm s M=Again F n0 L b K M0 (zbu L s) M:=id rfl
@[simp] theorem ItK_ext (L:List (List Bool)) (b:CC) (K:KD) (M0:VM) (i:Nat) (s:DS) (M:VM):(ItK F n0 L b K M0).ext i s M=K.ext i s M:=id rfl
@[simp] theorem ItK_ret (L:List (List Bool)) (b:CC) (K:KD) (M0:VM) (s:DS) (M:VM):(ItK F n0 L b K M0).ret s M=K.ret s M:=id rfl
@[simp] theorem ItK_pan (L:List (List Bool)) (b:CC) (K:KD) (M0:VM) (v:DV) (s:DS) (M:VM):(ItK F n0 L b K M0).pan v s M=K.pan v s M:=id rfl
theorem zbB.round {L:List (List Bool)} {b b':CC} {K:KD} {s:DS} {M:VM} (hb:b=b') (h: @Cd (rD F M.next) (.base (ItK F n0 L b K M)) b' (zbu L s) M):zbB F n0 L b K s M:=zbB.iter (hb▸h)
theorem Again.same {L:List (List Bool)} {b:CC} {K:KD} {M M':VM} {s' s2:DS} (h:SM M.next M M') (hs:SFrz M' M s' s2) (hl:zbB F n0 L b K s2 M):Again F n0 L b K M s' M':=⟨s2,M,.same h,hs,hl⟩
theorem SFrz.refl {M' M2:VM} {s:DS} (h: ∀x∈s,zw M2.next x.2):SFrz M' M2 s s:=fun p e he=>⟨e,he,.refl e,by
 induction s with
 |nil=>cases he
 |cons x s ih=>
  obtain⟨x1,x2⟩:=x
  rw[zcW] at he
  split at he
  ·cases he;exact h _ (List.mem_cons_self ..)
  ·exact ih (fun x hx=>h x (List.mem_cons_of_mem _ hx)) he⟩
def Back (k:DV→VM→Prop) (M:VM) (d:DV) (M':VM):Prop:=M.Wf→ ∃e,Frz M' M d e∧zw M.next e∧(∀j,j<M.next→M'.get j=M.get j)∧k e M
theorem zt.back {f:DV} {args:List DV} {M:VM} {k kp:DV→VM→Prop} (h:zt F f args M (Back k M) kp):zt F f args M k kp:=
 zt.wf fun hw=>zt.conv (h.mono (fun d M' q=>let⟨e,h1,h2,h3,h4⟩:=q hw;⟨e,M,.same h3,h1,h2,h4⟩) (fun _ _ q=>q))
theorem Back.plain {k:DV→VM→Prop} {M M':VM} {d:DV} (hb:zw M.next d) (h:SM M.next M M') (hk:k d M):Back k M d M':=fun _=>⟨d,.refl d,hb,h,hk⟩
end
@[simp] theorem below_int {n:Nat} (k:IntKind) (a:Int):zw n (.int k a):=.int k a
@[simp] theorem below_bool {n:Nat} (b:Bool):zw n (.bool b):=.bool b
@[simp] theorem below_str {n:Nat} (b:ByteArray):zw n (.str b):=.str b
@[simp] theorem below_nilS {n:Nat}:zw n .nilS:=.nilS
@[simp] theorem below_nilP {n:Nat}:zw n .nilP:=.nilP
@[simp] theorem below_nilI {n:Nat}:zw n .nilI:=.nilI
@[simp] theorem below_nilF {n:Nat}:zw n .nilF:=.nilF
@[simp] theorem below_nilM {n:Nat}:zw n .nilM:=.nilM
theorem zb3 {n:Nat} {p:DV} {q:Prop} (h1:zw n p→q) (h2:q→zw n p):zw n p=q:=propext ⟨h1,h2⟩
@[simp] theorem below_agg {n:Nat} (l:List DV):zw n (.agg l)= ∀d∈l,zw n d:=zb3 (fun h=>by cases h;assumption) .agg
@[simp] theorem below_tup {n:Nat} (l:List DV):zw n (.tup l)= ∀d∈l,zw n d:=zb3 (fun h=>by cases h;assumption) .tup
@[simp] theorem below_lst {n s:Nat} (l:List (List DV)):zw n (.lst s l)= ∀r∈l,∀d∈r,zw n d:=zb3 (fun h=>by cases h;assumption) .lst
@[simp] theorem below_pl {n s i o:Nat} (l:List (List DV)):zw n (.pl s l i o)= ∀r∈l,∀d∈r,zw n d:=zb3 (fun h=>by cases h;assumption) .pl
@[simp] theorem below_ptr {n j i o:Nat}:zw n (.ptr j i o)=(j<n):=zb3 (fun h=>by cases h;assumption) .ptr
@[simp] theorem below_ms {n j lo len cap:Nat}:zw n (.ms j lo len cap)=(j<n):=zb3 (fun h=>by cases h;assumption) .ms
@[simp] theorem below_map {n j:Nat}:zw n (.map j)=(j<n):=zb3 (fun h=>by cases h;assumption) .map
@[simp] theorem below_yld {n j:Nat}:zw n (.yld j)=(j<n):=zb3 (fun h=>by cases h;assumption) .yld
@[simp] theorem below_ifc {n t:Nat} (d:DV):zw n (.ifc t d)=zw n d:=zb3 (fun h=>by cases h;assumption) (.ifc t)
@[simp] theorem below_fn {n g:Nat} (a c:List DV):zw n (.fn g a c)=((∀d∈a,zw n d)∧ ∀d∈c,zw n d):=zb3 (fun h=>by cases h;exact⟨‹_›,‹_›⟩) (fun h=>.fn g h.1 h.2)
attribute [simp] zr zdm zq isW isRd isFl refD zcw
section
variable {M M':VM} {s:DS}
@[simp] theorem inP_nil (p:List Bool):inP [] p=false:=id rfl
@[simp] theorem inP_bits (m n:Nat) (r:List (List Bool)):inP (bits m::r) (bits n)=if m=n then true else inP r (bits n):=by
  show(match beqP (bits m) (bits n) with|true=>true|false=>inP r (bits n))=_
  by_cases h:m=n
  ·subst h;rw[if_pos rfl,zdV]
  ·rw[if_neg h];cases e:beqP (bits m) (bits n) with
   |true=>exact absurd (zgr (beqP_eq e)) h
   |false=>rfl
def fr1:Bool→Bool→Bool
 |true,_=>false
 |false,b=>b
@[simp] theorem fr1_true (b:Bool):fr1 true b=false:=id rfl
@[simp] theorem fr1_false (b:Bool):fr1 false b=b:=id rfl
@[simp] theorem freeOf_nil (b:List (List Bool)):zcX b []=true:=id rfl
@[simp] theorem freeOf_cons (b:List (List Bool)) (p:List Bool) (r:List (List Bool)):zcX b (p::r)=fr1 (inP b p) (zcX b r):=by
  show(match inP b p with|true=>false|false=>zcX b r)=_;cases inP b p<;>rfl
def nt:Bool→Option (List Bool)→Mo→Mo
 |true,_,x=>x
 |false,q,x=>zcg q x
@[simp] theorem nt_true (q:Option (List Bool)) (x:Mo):nt true q x=x:=id rfl
@[simp] theorem nt_false (q:Option (List Bool)) (x:Mo):nt false q x=zcg q x:=id rfl
@[simp] theorem noteN_eq (ns:List (List Bool)) (q:Option (List Bool)) (i:Nat) (M:VM) (b:List (List Bool)):zf9 ns q ⟨i,M,b⟩=nt (zcX b ns) q ⟨i,M,b⟩:=by
  show(match zcX b ns with|true=>_|false=>_)=_;cases zcX b ns<;>rfl
@[simp] theorem addBad_some (q:List Bool) (i:Nat) (M:VM) (b:List (List Bool)):zcg (some q) ⟨i,M,b⟩=⟨i,M,q::b⟩:=id rfl
@[simp] theorem addBad_none (x:Mo):zcg none x=x:=id rfl
def rfO:Option DV→List Nat
 |some d=>refD d
 |none=>[]
@[simp] theorem rfO_some (d:DV):rfO (some d)=refD d:=id rfl
theorem zd9 (x:CO):zcp s x=rfO (evD s x):=by unfold zcp;cases evD s x<;>rfl
@[simp] theorem refs_load1 (a:CO):zbO s (.load1 a)=rfO (evD s a):=zd9 a
@[simp] theorem refs_loadN (n:Nat) (a:CO):zbO s (.loadN n a)=rfO (evD s a):=zd9 a
@[simp] theorem refs_lookup (kk:KK) (z:Value) (ok:Bool) (x i:CO):zbO s (.lookup kk z ok x i)=rfO (evD s x):=zd9 x
@[simp] theorem refs_slice (n:Nat) (x:CO) (lo hi:Option CO):zbO s (.slice n x lo hi)=rfO (evD s x):=zd9 x
@[simp] theorem refs_slice3 (n:Nat) (x:CO) (lo:Option CO) (hi mx:CO):zbO s (.slice3 n x lo hi mx)=rfO (evD s x):=zd9 x
@[simp] theorem refs_b2s (x:CO):zbO s (.b2s x)=rfO (evD s x):=zd9 x
@[simp] theorem refs_lenMap (x:CO):zbO s (.blt .lenMap [x])=rfO (evD s x):=by show[x].flatMap (zcp s)=_;simp[zd9]
theorem get_isSome (j:Nat):(M.get j).isSome=(M.obj j).isSome:=by unfold VM.obj;cases M.get j<;>rfl
@[simp] theorem alikeAt_nil:ze3 [] M M'=True:=id rfl
@[simp] theorem alikeAt_cons (j:Nat) (r:List Nat):ze3 (j::r) M M'=((M.get j=M'.get j∧(M.obj j).isSome=true)∧ze3 r M M'):=by rw[←get_isSome];rfl
@[simp] theorem rdAt_eq (rs:List Nat) (ns:List (List Bool)) (i:Nat) (b:List (List Bool)):rdAt rs ns M ⟨i,M',b⟩=(zcX b ns=true∧ze3 rs M M'):=id rfl
@[simp] theorem rdOk_nil (rs:List Nat) (ns:List (List Bool)) (lo:Nat):rdOk rs ns M lo []=True:=id rfl
@[simp] theorem rdOk_cons (rs:List Nat) (ns:List (List Bool)) (lo i:Nat) (b:List (List Bool)) (r:List Mo):rdOk rs ns M lo (⟨i,M',b⟩::r)=((if i<lo then True else rdAt rs ns M ⟨i,M',b⟩)∧rdOk rs ns M lo r):=by
  show((match Nat.blt i lo with|true=>True|false=>_)∧_)=_
  by_cases h:i<lo
  ·rw[if_pos h,show Nat.blt i lo=true from by show Nat.ble (i+1) lo=true;rw[Nat.ble_eq];exact h]
  ·rw[if_neg h];cases e:Nat.blt i lo with
   |true=>have e:Nat.ble (i+1) lo=true:=e;rw[Nat.ble_eq] at e;exact absurd e h
   |false=>rfl
@[simp] theorem rdBad_nil (lo:Nat) (q:Option (List Bool)):zij lo q []=[]:=id rfl
@[simp] theorem rdBad_cons (lo:Nat) (q:Option (List Bool)) (i:Nat) (b:List (List Bool)) (r:List Mo):zij lo q (⟨i,M,b⟩::r)=(if i<lo then zcg q ⟨i,M,b⟩ else⟨i,M,b⟩)::zij lo q r:=by
  show(match Nat.blt i lo with|true=>_|false=>_)::_=_
  by_cases h:i<lo
  ·rw[if_pos h,show Nat.blt i lo=true from by show Nat.ble (i+1) lo=true;rw[Nat.ble_eq];exact h]
  ·rw[if_neg h];cases e:Nat.blt i lo with
   |true=>have e:Nat.ble (i+1) lo=true:=e;rw[Nat.ble_eq] at e;exact absurd e h
   |false=>rfl
@[simp] theorem nextMo_nil:zit []=0:=id rfl
@[simp] theorem nextMo_cons (i:Nat) (b:List (List Bool)) (r:List Mo):zit (⟨i,M,b⟩::r)=i+1:=id rfl
@[simp] theorem selfIn_one (x:Mo) (d:DV):zjN [x] d=true:=id rfl
@[simp] theorem selfIn_two (x y:Mo) (r:List Mo) (d:DV):zjN (x::y::r) d=zcO d:=id rfl
@[simp] theorem selfEq_agg (l:List DV):zcO (.agg l)=l.all zcw:=id rfl
@[simp] theorem selfEq_int (k:IntKind) (a:Int):zcO (.int k a)=true:=id rfl
@[simp] theorem selfEq_bool (b:Bool):zcO (.bool b)=true:=id rfl
@[simp] theorem selfEq_str (b:ByteArray):zcO (.str b)=true:=id rfl
@[simp] theorem selfEq_lst (n:Nat) (r:List (List DV)):zcO (.lst n r)=true:=id rfl
@[simp] theorem selfEq_pl (n i o:Nat) (r:List (List DV)):zcO (.pl n r i o)=true:=id rfl
@[simp] theorem selfEq_ms (j lo len cap:Nat):zcO (.ms j lo len cap)=true:=id rfl
@[simp] theorem selfEq_ptr (j i o:Nat):zcO (.ptr j i o)=true:=id rfl
@[simp] theorem selfEq_map (j:Nat):zcO (.map j)=true:=id rfl
@[simp] theorem selfEq_nilS:zcO .nilS=true:=id rfl
@[simp] theorem selfEq_nilP:zcO .nilP=true:=id rfl
@[simp] theorem selfEq_nilM:zcO .nilM=true:=id rfl
end
end
end Go.Ideal
set_option maxRecDepth 100000
namespace Go.Ideal.Q
abbrev n_j:Nat:=7
abbrev n_z:Nat:=11
abbrev n_I:Nat:=12
abbrev n_a:Nat:=16
abbrev n_c:Nat:=20
abbrev n_q:Nat:=22
abbrev n_D:Nat:=25
abbrev n_v:Nat:=26
abbrev n_o:Nat:=28
abbrev n_r:Nat:=35
abbrev n_i:Nat:=37
abbrev n_A:Nat:=49
abbrev n_h:Nat:=55
abbrev n_x:Nat:=60
abbrev n_l:Nat:=61
abbrev n_k:Nat:=62
abbrev n_e:Nat:=63
abbrev n_n:Nat:=64
abbrev n_w:Nat:=67
abbrev n_E:Nat:=68
abbrev n_m:Nat:=69
abbrev n_f:Nat:=70
abbrev n_d:Nat:=71
abbrev n_s:Nat:=72
abbrev n_y:Nat:=73
abbrev n_b:Nat:=76
abbrev n_g:Nat:=80
abbrev n_J:Nat:=93
abbrev n_F:Nat:=94
abbrev n_u:Nat:=95
abbrev n_p:Nat:=103
abbrev n_H:Nat:=108
abbrev n_G:Nat:=109
abbrev n_C:Nat:=135
abbrev n_t:Nat:=139
def r_j_1:List CI:=[bx 4 (t 0),mv 8 ff]
def r_j_2:List CI:=[ln 17 3 4,ca 18 n_z [(t 17)],mv 19 (t 18),gu 19 false (mv 20 (t 1)),gu 19 false (le 21 (t 20)),gu 19 false (bi .gtr 22 (t 21) (i 5000)),pk 23 (t 19) tt (t 22),mv 24 (t 23),gu 24 false (mv 25 (t 2)),gu 24 false (le 26 (t 25)),gu 24 false (bi .gtr 27 (t 26) (i 5000)),pk 28 (t 24) tt (t 27)]
def r_j_3:List CI:=[ca 29 n_I [],mv 8 (t 29)]
def r_j_4:List CI:=[ln 31 3 4,mv 32 (t 2),mv 33 (t 3),ca 34 n_q [(t 31),(t 32),(t 33)],mv 30 (t 34),ex 35 30 0,ex 36 30 1,mv 9 (t 35),mv 10 (t 36)]
def r_j_5:List CI:=[ln 38 3 4,mv 39 (t 2),mv 40 (t 3),ca 41 n_a [(t 38),(t 39),(t 40)],mv 37 (t 41),ex 42 37 0,ex 43 37 1,mv 11 (t 42),mv 12 (t 43)]
def r_j_6:List CI:=[ln 45 3 4,mv 46 (t 1),mv 47 (t 2),mv 48 (t 3),ca 49 n_o [(t 45),(t 46),(t 47),(t 48)],mv 44 (t 49),ex 50 44 0,ex 51 44 1,mv 13 (t 50),mv 14 (t 51)]
def r_j_7:List CI:=[ln 53 3 4,mv 54 (t 1),mv 55 (t 2),mv 56 (t 3),ca 57 n_c [(t 53),(t 54),(t 55),(t 56)],mv 52 (t 57),ex 58 52 0,ex 59 52 1,mv 15 (t 58),mv 16 (t 59)]
def r_j_8:List CI:=[mv 60 (t 9),mv 61 (t 11),oo 62 (.bin .eql .bool (t 60) (t 61)),mv 63 (t 62),gu 63 true (mv 64 (t 10)),gu 63 true (mv 65 (t 12)),gu 63 true (bi .eql 66 (t 64) (t 65)),pk 67 (t 63) (t 66) ff,mv 68 (t 67),gu 68 true (mv 69 (t 13)),gu 68 true (mv 70 (t 15)),gu 68 true (oo 71 (.bin .eql .bool (t 69) (t 70))),pk 72 (t 68) (t 71) ff,mv 73 (t 72),gu 73 true (mv 74 (t 14)),gu 73 true (mv 75 (t 16)),gu 73 true (bi .eql 76 (t 74) (t 75)),pk 77 (t 73) (t 76) ff,mv 78 (t 77),gu 78 true (ca 79 n_I []),pk 80 (t 78) (t 79) ff,mv 8 (t 80)]
def c_j:CC:=(.seq (.ops r_j_1) (bs [1,2,3,4]) (.seq (.seq (.ops r_j_2) (bs [1,2,3,4,28]) (.cond (t 28) (.seq (.ops r_j_3) (bs [8]) .ret) .skip)) (bs [1,2,3,4]) (.seq (.ops r_j_4) (bs [1,2,3,4,9,10]) (.seq (.ops r_j_5) (bs [1,2,3,4,9,10,11,12]) (.seq (.ops r_j_6) (bs [1,2,3,4,9,10,11,12,13,14]) (.seq (.ops r_j_7) (bs [9,10,11,12,13,14,15,16]) (.seq (.ops r_j_8) (bs [8]) .ret)))))))
def f_j:zm:=⟨81,[.tmp (bits 8)],c_j,none,none⟩
def r_z_1:List CI:=[bx 1 (t 0),mv 2 ff]
def r_z_2:List CI:=[fa 3 2 1,l 4 3,le 5 (t 4),bi .gtr 6 (t 5) (i 500),mv 2 (t 6)]
def c_z:CC:=(.seq (.ops r_z_1) (bs [1]) (.seq (.ops r_z_2) (bs [2]) .ret))
def f_z:zm:=⟨7,[.tmp (bits 2)],c_z,none,none⟩
def r_a_1:List CI:=[bx 3 (t 0),mv 6 ff,mv 7 (i 0)]
def r_a_2:List CI:=[mv 11 (t 1),le 12 (t 11),bi .gtr 13 (t 12) (i 4000)]
def r_a_3:List CI:=[mv 6 ff,mv 7 (i 3)]
def r_a_4:List CI:=[ln 14 3 3,mv 15 (t 2),ca 16 n_x [(t 14),(t 15)],no 17 16,mv 18 (t 17),gu 18 false (ln 19 3 3),gu 18 false (mv 20 (t 1)),gu 18 false (ca 21 n_l [(t 19),(t 20)]),gu 18 false (no 22 21),pk 23 (t 18) tt (t 22)]
def r_a_5:List CI:=[mv 6 ff,mv 7 (i 2)]
def r_a_6:List CI:=[mv 24 (t 1),le 25 (t 24),bi .eql 26 (t 25) (i 0)]
def r_a_7:List CI:=[mv 6 ff,mv 7 (i 0)]
def r_a_8:List CI:=[fa 27 2 3,l 28 27,mv 29 (t 1),ia 30 1 29 (i 0),l 31 30,ia 32 3 28 (t 31),fa 33 0 32,l 34 33,mv 8 (t 34)]
def r_a_9:List CI:=[ln 35 3 3,mv 36 (t 8),mv 37 (t 1),mv 38 (t 2),ca 39 n_k [(t 35),(t 36),(t 37),(t 38)],mv 40 (t 8),bi .neq 41 (t 39) (t 40),mv 42 (t 41),gu 42 false (ln 43 3 3),gu 42 false (mv 44 (t 1)),gu 42 false (mv 45 (t 2)),gu 42 false (ca 46 n_e [(t 43),(t 44),(t 45)]),gu 42 false (no 47 46),pk 48 (t 42) tt (t 47)]
def r_a_10:List CI:=[mv 6 ff,mv 7 (i 0)]
def r_a_11:List CI:=[fa 49 0 3,l 50 49,oo 51 (.makeSlice 1 1 [(.bool false)] (t 50) (t 50)),mv 9 (t 51)]
def r_a_12:List CI:=[mv 10 (i 0)]
def r_a_13:List CI:=[mv 52 (t 10),mv 53 (t 1),le 54 (t 53),bi .lss 55 (t 52) (t 54)]
def r_a_14:List CI:=[mv 58 (t 9),fa 59 2 3,l 60 59,mv 61 (t 1),mv 62 (t 10),ia 63 1 61 (t 62),l 64 63,ia 65 3 60 (t 64),fa 66 0 65,l 67 66,ia 68 1 58 (t 67),st 1 68 tt]
def r_a_15:List CI:=[mv 56 (t 10),bi .add 57 (t 56) (i 1),mv 10 (t 57)]
def c_a_16:CC:=(.seq (.seq (.ops r_a_13) (bs [1,2,3,9,10,55]) (.cond (t 55) .skip (.exit 0))) (bs [1,2,3,9,10]) (.seq (.block 2 (.draw r_a_14)) (bs [1,2,3,9,10]) (.ops r_a_15)))
def r_a_17:List CI:=[ln 69 3 3,mv 70 (t 9),mv 71 (t 2),ca 72 n_n [(t 69),(t 70),(t 71)],mv 6 (t 72),mv 7 (i 0)]
def c_a:CC:=(.seq (.ops r_a_1) (bs [1,2,3]) (.seq (.seq (.ops r_a_2) (bs [1,2,3,13]) (.cond (t 13) (.seq (.ops r_a_3) (bs [6,7]) .ret) .skip)) (bs [1,2,3]) (.seq (.seq (.ops r_a_4) (bs [1,2,3,23]) (.cond (t 23) (.seq (.ops r_a_5) (bs [6,7]) .ret) .skip)) (bs [1,2,3]) (.seq (.seq (.ops r_a_6) (bs [1,2,3,26]) (.cond (t 26) (.seq (.ops r_a_7) (bs [6,7]) .ret) .skip)) (bs [1,2,3]) (.seq (.draw r_a_8) (bs [1,2,3,8]) (.seq (.seq (.ops r_a_9) (bs [1,2,3,48]) (.cond (t 48) (.seq (.ops r_a_10) (bs [6,7]) .ret) .skip)) (bs [1,2,3]) (.seq (.ops r_a_11) (bs [1,2,3,9]) (.seq (.seq (.ops r_a_12) (bs [1,2,3,9,10]) (.block 0 (.loop (bs [1,2,3,9,10]) c_a_16))) (bs [2,3,9]) (.seq (.ops r_a_17) (bs [6,7]) .ret)))))))))
def f_a:zm:=⟨73,[.tmp (bits 6),.tmp (bits 7)],c_a,none,none⟩
def r_c_1:List CI:=[bx 4 (t 0),mv 8 ff,mv 9 (i 0)]
def r_c_2:List CI:=[mv 11 (t 1),le 12 (t 11),bi .gtr 13 (t 12) (i 4000),mv 14 (t 13),gu 14 false (mv 15 (t 2)),gu 14 false (le 16 (t 15)),gu 14 false (bi .gtr 17 (t 16) (i 4000)),pk 18 (t 14) tt (t 17)]
def r_c_3:List CI:=[mv 8 ff,mv 9 (i 3)]
def r_c_4:List CI:=[ln 19 3 4,mv 20 (t 3),ca 21 n_x [(t 19),(t 20)],no 22 21,mv 23 (t 22),gu 23 false (ln 24 3 4),gu 23 false (mv 25 (t 1)),gu 23 false (ca 26 n_l [(t 24),(t 25)]),gu 23 false (no 27 26),pk 28 (t 23) tt (t 27),mv 29 (t 28),gu 29 false (ln 30 3 4),gu 29 false (mv 31 (t 2)),gu 29 false (ca 32 n_l [(t 30),(t 31)]),gu 29 false (no 33 32),pk 34 (t 29) tt (t 33)]
def r_c_5:List CI:=[mv 8 ff,mv 9 (i 2)]
def r_c_6:List CI:=[ln 35 3 4,mv 36 (t 1),mv 37 (t 3),ca 38 n_k [(t 35),(i 0),(t 36),(t 37)],mv 10 (t 38)]
def r_c_7:List CI:=[mv 39 (t 10),bi .lss 40 (t 39) (i 0)]
def r_c_8:List CI:=[mv 8 ff,mv 9 (i 0)]
def r_c_9:List CI:=[mv 41 (t 2),le 42 (t 41),bi .eql 43 (t 42) (i 0)]
def r_c_10:List CI:=[ln 44 3 4,mv 45 (t 10),ca 46 n_m [(t 44),(t 45)],no 47 46,mv 8 (t 47),mv 9 (i 0)]
def r_c_11:List CI:=[ln 48 3 4,mv 49 (t 10),mv 50 (t 2),mv 51 (t 3),ca 52 n_k [(t 48),(t 49),(t 50),(t 51)],mv 53 (t 10),bi .eql 54 (t 52) (t 53),mv 55 (t 54),gu 55 true (ln 56 3 4),gu 55 true (mv 57 (t 2)),gu 55 true (ca 58 n_e [(t 56),(t 57),(i (-1))]),pk 59 (t 55) (t 58) ff,mv 8 (t 59),mv 9 (i 0)]
def c_c:CC:=(.seq (.ops r_c_1) (bs [1,2,3,4]) (.seq (.seq (.ops r_c_2) (bs [1,2,3,4,18]) (.cond (t 18) (.seq (.ops r_c_3) (bs [8,9]) .ret) .skip)) (bs [1,2,3,4]) (.seq (.seq (.ops r_c_4) (bs [1,2,3,4,34]) (.cond (t 34) (.seq (.ops r_c_5) (bs [8,9]) .ret) .skip)) (bs [1,2,3,4]) (.seq (.ops r_c_6) (bs [2,3,4,10]) (.seq (.seq (.ops r_c_7) (bs [2,3,4,10,40]) (.cond (t 40) (.seq (.ops r_c_8) (bs [8,9]) .ret) .skip)) (bs [2,3,4,10]) (.seq (.seq (.ops r_c_9) (bs [2,3,4,10,43]) (.cond (t 43) (.seq (.ops r_c_10) (bs [8,9]) .ret) .skip)) (bs [2,3,4,10]) (.seq (.ops r_c_11) (bs [8,9]) .ret)))))))
def f_c:zm:=⟨60,[.tmp (bits 8),.tmp (bits 9)],c_c,none,none⟩
def r_q_1:List CI:=[bx 3 (t 0),mv 6 ff,mv 7 (i 0)]
def r_q_2:List CI:=[mv 15 (t 1),le 16 (t 15),bi .gtr 17 (t 16) (i 4000),mv 14 (t 17)]
def r_q_3:List CI:=[mv 6 ff,mv 7 (i 3)]
def r_q_4:List CI:=[ln 19 3 3,mv 20 (t 2),mv 21 (t 1),ca 22 n_A [(t 19),(t 20),(t 21)],no 23 22,mv 18 (t 23)]
def r_q_5:List CI:=[mv 6 ff,mv 7 (i 2)]
def r_q_6:List CI:=[mv 25 (t 1),le 26 (t 25),bi .eql 27 (t 26) (i 0),mv 24 (t 27)]
def r_q_7:List CI:=[mv 6 ff,mv 7 (i 0)]
def r_q_8:List CI:=[ln 28 3 3,oo 29 (.build [(iI 0),(iI 0),(.slice none 0 0)] [(0,3,(t 28))]),oo 8 (.alloc [(iI 0),(iI 0),(.slice none 0 0)]),st 3 8 (t 29)]
def r_q_9:List CI:=[fa 30 2 3,l 31 30,mv 32 (t 1),ia 33 1 32 (i 0),l 34 33,ia 35 3 31 (t 34),fa 36 0 35,l 37 36,mv 9 (t 37)]
def r_q_10:List CI:=[ln 39 3 8,mv 40 (t 9),mv 41 (t 1),mv 42 (t 2),ca 43 n_f [(t 39),(t 40),(t 41),(t 42)],mv 38 (t 43),ex 44 38 0,ex 45 38 1,mv 10 (t 44),mv 11 (t 45)]
def r_q_11:List CI:=[ln 47 3 8,mv 48 (t 1),mv 49 (t 2),ca 50 n_d [(t 47),(t 48),(t 49)],mv 46 (t 50),ex 51 46 0,ex 52 46 1,oo 12 (.alloc [(.int .u64 0)]),st 1 12 (t 51),mv 13 (t 52)]
def r_q_12:List CI:=[mv 53 (t 11),mv 54 (t 53),gu 54 true (mv 55 (t 10)),gu 54 true (mv 56 (t 9)),gu 54 true (bi .eql 57 (t 55) (t 56)),pk 58 (t 54) (t 57) ff,mv 59 (t 58),gu 59 true (mv 60 (t 13)),pk 61 (t 59) (t 60) ff,mv 62 (t 61),gu 62 true (ln 63 3 8),gu 62 true (ln 64 1 12),gu 62 true (mv 65 (t 2)),gu 62 true (ca 66 n_s [(t 63),(t 64),(t 65)]),pk 67 (t 62) (t 66) ff,mv 6 (t 67),mv 7 (i 0)]
def c_q:CC:=(.seq (.ops r_q_1) (bs [1,2,3]) (.seq (.block 0 (.seq (.ops r_q_2) (bs [1,2,3,14]) (.cond (t 14) (.seq (.ops r_q_3) (bs [6,7]) .ret) (.seq (.ops r_q_4) (bs [1,2,3,18]) (.cond (t 18) (.seq (.ops r_q_5) (bs [6,7]) .ret) (.seq (.ops r_q_6) (bs [1,2,3,24]) (.cond (t 24) (.seq (.ops r_q_7) (bs [6,7]) .ret) .skip))))))) (bs [1,2,3]) (.seq (.ops r_q_8) (bs [1,2,3,8]) (.seq (.draw r_q_9) (bs [1,2,8,9]) (.seq (.ops r_q_10) (bs [1,2,8,9,10,11]) (.seq (.ops r_q_11) (bs [2,8,9,10,11,12,13]) (.seq (.ops r_q_12) (bs [6,7]) .ret)))))))
def f_q:zm:=⟨68,[.tmp (bits 6),.tmp (bits 7)],c_q,none,none⟩
def r_D_1:List CI:=[bx 1 (t 0),mv 2 (i 0)]
def r_D_2:List CI:=[ln 3 3 1,ca 4 n_y [(t 3)],no 5 4]
def r_D_3:List CI:=[mv 2 (i 2)]
def r_D_4:List CI:=[mv 2 (i 0)]
def c_D:CC:=(.seq (.ops r_D_1) (bs [1]) (.seq (.seq (.ops r_D_2) (bs [5]) (.cond (t 5) (.seq (.ops r_D_3) (bs [2]) .ret) .skip)) [] (.seq (.ops r_D_4) (bs [2]) .ret)))
def f_D:zm:=⟨6,[.tmp (bits 2)],c_D,none,none⟩
def r_v_1:List CI:=[bx 1 (t 0),mv 2 (i 0)]
def r_v_2:List CI:=[ln 3 3 1,ca 4 n_h [(t 3)],no 5 4]
def r_v_3:List CI:=[mv 2 (i 2)]
def r_v_4:List CI:=[mv 2 (i 0)]
def c_v:CC:=(.seq (.ops r_v_1) (bs [1]) (.seq (.seq (.ops r_v_2) (bs [5]) (.cond (t 5) (.seq (.ops r_v_3) (bs [2]) .ret) .skip)) [] (.seq (.ops r_v_4) (bs [2]) .ret)))
def f_v:zm:=⟨6,[.tmp (bits 2)],c_v,none,none⟩
def r_o_1:List CI:=[bx 4 (t 0),mv 8 ff,mv 9 (i 0)]
def r_o_2:List CI:=[mv 17 (t 1),le 18 (t 17),bi .gtr 19 (t 18) (i 4000),mv 20 (t 19),gu 20 false (mv 21 (t 2)),gu 20 false (le 22 (t 21)),gu 20 false (bi .gtr 23 (t 22) (i 4000)),pk 24 (t 20) tt (t 23),mv 16 (t 24)]
def r_o_3:List CI:=[mv 8 ff,mv 9 (i 3)]
def r_o_4:List CI:=[ln 26 3 4,mv 27 (t 3),mv 28 (t 1),ca 29 n_A [(t 26),(t 27),(t 28)],no 30 29,mv 31 (t 30),gu 31 false (ln 32 3 4),gu 31 false (mv 33 (t 3)),gu 31 false (mv 34 (t 2)),gu 31 false (ca 35 n_A [(t 32),(t 33),(t 34)]),gu 31 false (no 36 35),pk 37 (t 31) tt (t 36),mv 25 (t 37)]
def r_o_5:List CI:=[mv 8 ff,mv 9 (i 2)]
def r_o_6:List CI:=[ln 38 3 4,oo 39 (.build [(iI 0),(iI 0),(.slice none 0 0)] [(0,3,(t 38))]),oo 10 (.alloc [(iI 0),(iI 0),(.slice none 0 0)]),st 3 10 (t 39)]
def r_o_7:List CI:=[ln 41 3 10,mv 42 (t 1),mv 43 (t 3),ca 44 n_f [(t 41),(i 0),(t 42),(t 43)],mv 40 (t 44),ex 45 40 0,ex 46 40 1,mv 11 (t 45),mv 12 (t 46)]
def r_o_8:List CI:=[mv 47 (t 12),no 48 47]
def r_o_9:List CI:=[mv 8 ff,mv 9 (i 0)]
def r_o_10:List CI:=[mv 49 (t 2),le 50 (t 49),bi .eql 51 (t 50) (i 0)]
def r_o_11:List CI:=[ln 52 3 10,mv 53 (t 11),ca 54 n_w [(t 52),(t 53)],mv 8 (t 54),mv 9 (i 0)]
def r_o_12:List CI:=[ln 56 3 10,mv 57 (t 11),mv 58 (t 2),mv 59 (t 3),ca 60 n_f [(t 56),(t 57),(t 58),(t 59)],mv 55 (t 60),ex 61 55 0,ex 62 55 1,mv 13 (t 61),mv 12 (t 62)]
def r_o_13:List CI:=[ln 64 3 10,mv 65 (t 2),ca 66 n_d [(t 64),(t 65),(i (-1))],mv 63 (t 66),ex 67 63 0,ex 68 63 1,oo 14 (.alloc [(.int .u64 0)]),st 1 14 (t 67),mv 15 (t 68)]
def r_o_14:List CI:=[mv 69 (t 12),mv 70 (t 69),gu 70 true (mv 71 (t 13)),gu 70 true (mv 72 (t 11)),gu 70 true (bi .eql 73 (t 71) (t 72)),pk 74 (t 70) (t 73) ff,mv 75 (t 74),gu 75 true (mv 76 (t 15)),pk 77 (t 75) (t 76) ff,mv 8 (t 77),mv 9 (i 0)]
def c_o:CC:=(.seq (.ops r_o_1) (bs [1,2,3,4]) (.seq (.block 0 (.seq (.ops r_o_2) (bs [1,2,3,4,16]) (.cond (t 16) (.seq (.ops r_o_3) (bs [8,9]) .ret) (.seq (.ops r_o_4) (bs [1,2,3,4,25]) (.cond (t 25) (.seq (.ops r_o_5) (bs [8,9]) .ret) .skip))))) (bs [1,2,3,4]) (.seq (.ops r_o_6) (bs [1,2,3,10]) (.seq (.ops r_o_7) (bs [2,3,10,11,12]) (.seq (.seq (.ops r_o_8) (bs [2,3,10,11,48]) (.cond (t 48) (.seq (.ops r_o_9) (bs [8,9]) .ret) .skip)) (bs [2,3,10,11]) (.seq (.seq (.ops r_o_10) (bs [2,3,10,11,51]) (.cond (t 51) (.seq (.ops r_o_11) (bs [8,9]) .ret) .skip)) (bs [2,3,10,11]) (.seq (.ops r_o_12) (bs [2,10,11,12,13]) (.seq (.ops r_o_13) (bs [11,12,13,15]) (.seq (.ops r_o_14) (bs [8,9]) .ret)))))))))
def f_o:zm:=⟨78,[.tmp (bits 8),.tmp (bits 9)],c_o,none,none⟩
def r_r_1:List CI:=[mv 4 ff]
def r_r_2:List CI:=[mv 5 (t 0),mv 6 (t 1),ca 7 n_g [(t 5),(t 6)],bi .geq 8 (t 7) (i 0),mv 4 (t 8)]
def c_r:CC:=(.seq (.ops r_r_1) (bs [0,1]) (.seq (.ops r_r_2) (bs [4]) .ret))
def f_r:zm:=⟨9,[.tmp (bits 4)],c_r,none,none⟩
def r_i_1:List CI:=[mv 4 ff]
def r_i_2:List CI:=[mv 5 (t 0),mv 6 (t 1),ca 7 n_b [(t 5),(t 6)],bi .geq 8 (t 7) (i 0),mv 4 (t 8)]
def c_i:CC:=(.seq (.ops r_i_1) (bs [0,1]) (.seq (.ops r_i_2) (bs [4]) .ret))
def f_i:zm:=⟨9,[.tmp (bits 4)],c_i,none,none⟩
def r_J:List CI:=[bx 3 (t 0),mv 6 ff]
def r_A_2:List CI:=[ln 7 3 3,ca 8 n_y [(t 7)],mv 9 (t 8),gu 9 true (mv 10 (t 1)),gu 9 true (bi .geq 11 (t 10) (i 0)),pk 12 (t 9) (t 11) ff,mv 13 (t 12),gu 13 true (mv 14 (t 1)),gu 13 true (fa 15 1 3),gu 13 true (l 16 15),gu 13 true (bi .lss 17 (t 14) (t 16)),pk 18 (t 13) (t 17) ff,mv 19 (t 18),gu 19 true (mv 20 (t 2)),gu 19 true (oo 21 (.makeFunc (.func n_J) [] [(t 3)])),gu 19 true (ca 22 n_r [(t 20),(t 21)]),gu 19 true (no 23 22),pk 24 (t 19) (t 23) ff,mv 6 (t 24)]
def c_A:CC:=(.seq (.ops r_J) (bs [1,2,3]) (.seq (.ops r_A_2) (bs [6]) .ret))
def f_A:zm:=⟨25,[.tmp (bits 6)],c_A,none,none⟩
def r_h_1:List CI:=[bx 1 (t 0),mv 2 ff]
def r_h_2:List CI:=[fa 5 0 1,l 6 5,bi .lss 7 (t 6) (i 1),mv 8 (t 7),gu 8 false (fa 9 0 1),gu 8 false (l 10 9),gu 8 false (bi .gtr 11 (t 10) (i 60)),pk 12 (t 8) tt (t 11),mv 13 (t 12),gu 13 false (fa 14 1 1),gu 13 false (l 15 14),gu 13 false (bi .lss 16 (t 15) (i 0)),pk 17 (t 13) tt (t 16),mv 18 (t 17),gu 18 false (fa 19 1 1),gu 18 false (l 20 19),gu 18 false (bi .gtr 21 (t 20) (i 40)),pk 22 (t 18) tt (t 21),mv 23 (t 22),gu 23 false (fa 24 2 1),gu 23 false (l 25 24),gu 23 false (le 26 (t 25)),gu 23 false (bi .gtr 27 (t 26) (i 400)),pk 28 (t 23) tt (t 27)]
def r_h_3:List CI:=[mv 2 ff]
def r_h_4:List CI:=[mv 3 (i 0)]
def r_h_5:List CI:=[mv 29 (t 3),fa 30 2 1,l 31 30,le 32 (t 31),bi .lss 33 (t 29) (t 32)]
def r_h_6:List CI:=[fa 36 2 1,l 37 36,mv 38 (t 3),ia 39 3 37 (t 38),ln 40 3 39,oo 4 (.alloc [(iI 0),(iI 0),(iI 0)]),st 3 4 (t 40)]
def r_h_7:List CI:=[fa 41 0 4,l 42 41,bi .lss 43 (t 42) (i 0),mv 44 (t 43),gu 44 false (fa 45 0 4),gu 44 false (l 46 45),gu 44 false (fa 47 0 1),gu 44 false (l 48 47),gu 44 false (bi .geq 49 (t 46) (t 48)),pk 50 (t 44) tt (t 49),mv 51 (t 50),gu 51 false (fa 52 2 4),gu 51 false (l 53 52),gu 51 false (bi .lss 54 (t 53) (i 0)),pk 55 (t 51) tt (t 54),mv 56 (t 55),gu 56 false (fa 57 2 4),gu 56 false (l 58 57),gu 56 false (fa 59 0 1),gu 56 false (l 60 59),gu 56 false (bi .geq 61 (t 58) (t 60)),pk 62 (t 56) tt (t 61),mv 63 (t 62),gu 63 false (fa 64 1 4),gu 63 false (l 65 64),gu 63 false (bi .lss 66 (t 65) (i 0)),pk 67 (t 63) tt (t 66),mv 68 (t 67),gu 68 false (fa 69 1 4),gu 68 false (l 70 69),gu 68 false (fa 71 1 1),gu 68 false (l 72 71),gu 68 false (bi .geq 73 (t 70) (t 72)),pk 74 (t 68) tt (t 73)]
def r_h_8:List CI:=[mv 2 ff]
def r_h_9:List CI:=[mv 75 (t 3),bi .gtr 76 (t 75) (i 0),mv 77 (t 76),gu 77 true (fa 78 2 1),gu 77 true (l 79 78),gu 77 true (mv 80 (t 3)),gu 77 true (bi .sub 81 (t 80) (i 1)),gu 77 true (ia 82 3 79 (t 81)),gu 77 true (ln 83 3 82),gu 77 true (ln 84 3 4),gu 77 true (ca 85 n_p [(t 83),(t 84)]),lo 1 (gu 77 true (no 86 85)),lo 1 (pk 87 (t 77) (t 86) ff)]
def r_h_10:List CI:=[mv 2 ff]
def r_h_11:List CI:=[mv 34 (t 3),bi .add 35 (t 34) (i 1),mv 3 (t 35)]
def c_h_12:CC:=(.seq (.seq (.ops r_h_5) (bs [1,3,33]) (.cond (t 33) .skip (.exit 0))) (bs [1,3]) (.seq (.block 2 (.seq (.ops r_h_6) (bs [1,3,4]) (.seq (.seq (.ops r_h_7) (bs [1,3,4,74]) (.cond (t 74) (.seq (.ops r_h_8) (bs [2]) .ret) .skip)) (bs [1,3,4]) (.seq (.draw r_h_9) (bs [1,3,87]) (.cond (t 87) (.seq (.ops r_h_10) (bs [2]) .ret) .skip))))) (bs [1,3]) (.ops r_h_11)))
def r_h_13:List CI:=[mv 2 tt]
def c_h:CC:=(.seq (.ops r_h_1) (bs [1]) (.seq (.seq (.ops r_h_2) (bs [1,28]) (.cond (t 28) (.seq (.ops r_h_3) (bs [2]) .ret) .skip)) (bs [1]) (.seq (.seq (.ops r_h_4) (bs [1,3]) (.block 0 (.loop (bs [1,3]) c_h_12))) [] (.seq (.ops r_h_13) (bs [2]) .ret))))
def f_h:zm:=⟨88,[.tmp (bits 2)],c_h,none,none⟩
def r_x_1:List CI:=[bx 2 (t 0),mv 4 ff]
def r_x_2:List CI:=[ln 5 3 2,ca 6 n_h [(t 5)],mv 7 (t 6),gu 7 true (mv 8 (t 1)),gu 7 true (bi .geq 9 (t 8) (i 0)),pk 10 (t 7) (t 9) ff,mv 11 (t 10),gu 11 true (mv 12 (t 1)),gu 11 true (fa 13 1 2),gu 11 true (l 14 13),gu 11 true (bi .lss 15 (t 12) (t 14)),pk 16 (t 11) (t 15) ff,mv 4 (t 16)]
def c_x:CC:=(.seq (.ops r_x_1) (bs [1,2]) (.seq (.ops r_x_2) (bs [4]) .ret))
def f_x:zm:=⟨17,[.tmp (bits 4)],c_x,none,none⟩
def r_l_1:List CI:=[bx 2 (t 0),mv 4 ff]
def r_l_2:List CI:=[mv 5 (i 0)]
def r_l_3:List CI:=[mv 6 (t 5),mv 7 (t 1),le 8 (t 7),bi .lss 9 (t 6) (t 8)]
def r_l_4:List CI:=[mv 12 (t 1),mv 13 (t 5),ia 14 1 12 (t 13),l 15 14,bi .lss 16 (t 15) (i 0),mv 17 (t 16),gu 17 false (mv 18 (t 1)),gu 17 false (mv 19 (t 5)),gu 17 false (ia 20 1 18 (t 19)),gu 17 false (l 21 20),gu 17 false (fa 22 2 2),gu 17 false (l 23 22),gu 17 false (le 24 (t 23)),gu 17 false (bi .geq 25 (t 21) (t 24)),pk 26 (t 17) tt (t 25)]
def r_l_5:List CI:=[mv 4 ff]
def r_l_6:List CI:=[mv 10 (t 5),bi .add 11 (t 10) (i 1),mv 5 (t 11)]
def c_l_7:CC:=(.seq (.seq (.ops r_l_3) (bs [1,2,5,9]) (.cond (t 9) .skip (.exit 0))) (bs [1,2,5]) (.seq (.block 2 (.seq (.draw r_l_4) (bs [1,2,5,26]) (.cond (t 26) (.seq (.ops r_l_5) (bs [4]) .ret) .skip))) (bs [1,2,5]) (.ops r_l_6)))
def r_l_8:List CI:=[mv 4 tt]
def c_l:CC:=(.seq (.ops r_l_1) (bs [1,2]) (.seq (.seq (.ops r_l_2) (bs [1,2,5]) (.block 0 (.loop (bs [1,2,5]) c_l_7))) [] (.seq (.ops r_l_8) (bs [4]) .ret)))
def f_l:zm:=⟨27,[.tmp (bits 4)],c_l,none,none⟩
def r_k_1:List CI:=[bx 4 (t 0),mv 8 (i 0)]
def r_k_2:List CI:=[mv 9 (i 0)]
def r_k_3:List CI:=[mv 11 (t 9),mv 12 (t 2),le 13 (t 12),bi .lss 14 (t 11) (t 13)]
def r_k_4:List CI:=[fa 17 2 4,l 18 17,mv 19 (t 2),mv 20 (t 9),ia 21 1 19 (t 20),l 22 21,ia 23 3 18 (t 22),ln 24 3 23,oo 10 (.alloc [(iI 0),(iI 0),(iI 0)]),st 3 10 (t 24)]
def r_k_5:List CI:=[fa 25 0 10,l 26 25,mv 27 (t 1),bi .neq 28 (t 26) (t 27),mv 29 (t 28),gu 29 false (fa 30 1 10),gu 29 false (l 31 30),gu 29 false (mv 32 (t 3)),gu 29 false (bi .eql 33 (t 31) (t 32)),pk 34 (t 29) tt (t 33)]
def r_k_6:List CI:=[mv 8 (i (-1))]
def r_k_7:List CI:=[fa 35 2 10,l 36 35,mv 1 (t 36)]
def r_k_8:List CI:=[mv 15 (t 9),bi .add 16 (t 15) (i 1),mv 9 (t 16)]
def c_k_9:CC:=(.seq (.seq (.ops r_k_3) (bs [1,2,3,4,9,14]) (.cond (t 14) .skip (.exit 0))) (bs [1,2,3,4,9]) (.seq (.block 2 (.seq (.draw r_k_4) (bs [1,2,3,4,9,10]) (.seq (.seq (.ops r_k_5) (bs [2,3,4,9,10,34]) (.cond (t 34) (.seq (.ops r_k_6) (bs [8]) .ret) .skip)) (bs [2,3,4,9,10]) (.ops r_k_7)))) (bs [1,2,3,4,9]) (.ops r_k_8)))
def r_k_10:List CI:=[mv 37 (t 1),mv 8 (t 37)]
def c_k:CC:=(.seq (.ops r_k_1) (bs [1,2,3,4]) (.seq (.seq (.ops r_k_2) (bs [1,2,3,4,9]) (.block 0 (.loop (bs [1,2,3,4,9]) c_k_9))) (bs [1]) (.seq (.ops r_k_10) (bs [8]) .ret)))
def f_k:zm:=⟨38,[.tmp (bits 8)],c_k,none,none⟩
def r_e_1:List CI:=[bx 3 (t 0),mv 6 ff]
def r_e_2:List CI:=[fa 11 0 3,l 12 11,oo 13 (.makeSlice 1 1 [(.bool false)] (t 12) (t 12)),mv 7 (t 13)]
def r_e_3:List CI:=[fa 14 1 3,l 15 14,oo 16 (.makeSlice 1 1 [(.bool false)] (t 15) (t 15)),mv 8 (t 16)]
def r_e_4:List CI:=[mv 9 (i 0)]
def r_e_5:List CI:=[mv 17 (t 9),mv 18 (t 1),le 19 (t 18),bi .lss 20 (t 17) (t 19)]
def r_e_6:List CI:=[mv 23 (t 7),fa 24 2 3,l 25 24,mv 26 (t 1),mv 27 (t 9),ia 28 1 26 (t 27),l 29 28,ia 30 3 25 (t 29),fa 31 0 30,l 32 31,ia 33 1 23 (t 32),st 1 33 tt]
def r_e_7:List CI:=[mv 34 (t 8),fa 35 2 3,l 36 35,mv 37 (t 1),mv 38 (t 9),ia 39 1 37 (t 38),l 40 39,ia 41 3 36 (t 40),fa 42 1 41,l 43 42,ia 44 1 34 (t 43),st 1 44 tt]
def r_e_8:List CI:=[mv 21 (t 9),bi .add 22 (t 21) (i 1),mv 9 (t 22)]
def c_e_9:CC:=(.seq (.seq (.ops r_e_5) (bs [1,2,3,7,8,9,20]) (.cond (t 20) .skip (.exit 0))) (bs [1,2,3,7,8,9]) (.seq (.block 2 (.seq (.draw r_e_6) (bs [1,2,3,7,8,9]) (.draw r_e_7))) (bs [1,2,3,7,8,9]) (.ops r_e_8)))
def r_e_10:List CI:=[mv 10 (i 0)]
def r_e_11:List CI:=[mv 45 (t 10),fa 46 1 3,l 47 46,bi .lss 48 (t 45) (t 47)]
def r_e_12:List CI:=[mv 51 (t 10),mv 52 (t 2),bi .neq 53 (t 51) (t 52),mv 54 (t 53),gu 54 true (mv 55 (t 8)),gu 54 true (mv 56 (t 10)),gu 54 true (ia 57 1 55 (t 56)),gu 54 true (l 58 57),gu 54 true (no 59 58),pk 60 (t 54) (t 59) ff,mv 61 (t 60),gu 61 true (ln 62 3 3),gu 61 true (mv 63 (t 7)),gu 61 true (mv 64 (t 10)),gu 61 true (ca 65 n_n [(t 62),(t 63),(t 64)]),pk 66 (t 61) (t 65) ff]
def r_e_13:List CI:=[mv 6 ff]
def r_e_14:List CI:=[mv 49 (t 10),bi .add 50 (t 49) (i 1),mv 10 (t 50)]
def c_e_15:CC:=(.seq (.seq (.ops r_e_11) (bs [2,3,7,8,10,48]) (.cond (t 48) .skip (.exit 4))) (bs [2,3,7,8,10]) (.seq (.block 6 (.seq (.ops r_e_12) (bs [2,3,7,8,10,66]) (.cond (t 66) (.seq (.ops r_e_13) (bs [6]) .ret) .skip))) (bs [2,3,7,8,10]) (.ops r_e_14)))
def r_e_16:List CI:=[mv 6 tt]
def c_e:CC:=(.seq (.ops r_e_1) (bs [1,2,3]) (.seq (.ops r_e_2) (bs [1,2,3,7]) (.seq (.ops r_e_3) (bs [1,2,3,7,8]) (.seq (.seq (.ops r_e_4) (bs [1,2,3,7,8,9]) (.block 0 (.loop (bs [1,2,3,7,8,9]) c_e_9))) (bs [2,3,7,8]) (.seq (.seq (.ops r_e_10) (bs [2,3,7,8,10]) (.block 4 (.loop (bs [2,3,7,8,10]) c_e_15))) [] (.seq (.ops r_e_16) (bs [6]) .ret))))))
def f_e:zm:=⟨67,[.tmp (bits 6)],c_e,none,none⟩
def r_n_1:List CI:=[bx 3 (t 0),mv 6 ff]
def r_n_2:List CI:=[mv 7 (i 0)]
def r_n_3:List CI:=[mv 8 (t 7),fa 9 2 3,l 10 9,le 11 (t 10),bi .lss 12 (t 8) (t 11)]
def r_n_4:List CI:=[mv 15 (t 1),fa 16 2 3,l 17 16,mv 18 (t 7),ia 19 3 17 (t 18),fa 20 0 19,l 21 20,ia 22 1 15 (t 21),l 23 22,mv 24 (t 23),gu 24 true (fa 25 2 3),gu 24 true (l 26 25),gu 24 true (mv 27 (t 7)),gu 24 true (ia 28 3 26 (t 27)),gu 24 true (fa 29 1 28),gu 24 true (l 30 29),gu 24 true (mv 31 (t 2)),gu 24 true (bi .eql 32 (t 30) (t 31)),pk 33 (t 24) (t 32) ff]
def r_n_5:List CI:=[mv 6 tt]
def r_n_6:List CI:=[mv 13 (t 7),bi .add 14 (t 13) (i 1),mv 7 (t 14)]
def c_n_7:CC:=(.seq (.seq (.ops r_n_3) (bs [1,2,3,7,12]) (.cond (t 12) .skip (.exit 0))) (bs [1,2,3,7]) (.seq (.block 2 (.seq (.ops r_n_4) (bs [1,2,3,7,33]) (.cond (t 33) (.seq (.ops r_n_5) (bs [6]) .ret) .skip))) (bs [1,2,3,7]) (.ops r_n_6)))
def r_n_8:List CI:=[mv 6 ff]
def c_n:CC:=(.seq (.ops r_n_1) (bs [1,2,3]) (.seq (.seq (.ops r_n_2) (bs [1,2,3,7]) (.block 0 (.loop (bs [1,2,3,7]) c_n_7))) [] (.seq (.ops r_n_8) (bs [6]) .ret)))
def f_n:zm:=⟨34,[.tmp (bits 6)],c_n,none,none⟩
def r_w_1:List CI:=[bx 2 (t 0),oo 4 (.alloc [(.bool false)])]
def r_w_2:List CI:=[ln 5 3 2,mv 6 (t 1),ca 7 n_u [(t 5),(t 6)]]
def r_w_3:List CI:=[st 1 4 ff]
def c_w_4:CC:=.skip
def zbc:CC:=(.block 2 (.seq (.ops r_w_3) [] .ret))
def r_w_5:List CI:=[st 1 4 tt]
def c_w:CC:=(.seq (.ops r_w_1) (bs [1,2,4]) (.seq (.seq (.ops r_w_2) (bs [4,7]) (.block 0 (.rangeFunc 0 (bs [4]) (t 7) (bs [8,9]) c_w_4 zbc))) (bs [4]) (.seq (.ops r_w_5) (bs [4]) .ret)))
def f_w:zm:=⟨10,[.cell none (bits 4)],c_w,none,none⟩
def r_E_1:List CI:=[bx 2 (t 0),mv 4 ff]
def r_E_2:List CI:=[mv 5 (t 1),bi .quo 6 (t 5) (i 64),oo 7 (.indexArr 1 1 (t 2) (t 6)),l 8 7,mv 9 (t 1),bi .rem 10 (t 9) (i 64),bi .shr 11 (t 8) (t 10),bi .and 12 (t 11) (.c (.int .u64 1)),bi .eql 13 (t 12) (.c (.int .u64 1)),mv 4 (t 13)]
def c_E:CC:=(.seq (.ops r_E_1) (bs [1,2]) (.seq (.ops r_E_2) (bs [4]) .ret))
def f_E:zm:=⟨14,[.tmp (bits 4)],c_E,none,none⟩
def r_m_1:List CI:=[bx 2 (t 0),mv 4 ff]
def r_m_2:List CI:=[mv 5 (i 0)]
def r_m_3:List CI:=[mv 6 (t 5),fa 7 2 2,l 8 7,le 9 (t 8),bi .lss 10 (t 6) (t 9)]
def r_m_4:List CI:=[fa 13 2 2,l 14 13,mv 15 (t 5),ia 16 3 14 (t 15),fa 17 0 16,l 18 17,mv 19 (t 1),bi .eql 20 (t 18) (t 19)]
def r_m_5:List CI:=[mv 4 tt]
def r_m_6:List CI:=[mv 11 (t 5),bi .add 12 (t 11) (i 1),mv 5 (t 12)]
def c_m_7:CC:=(.seq (.seq (.ops r_m_3) (bs [1,2,5,10]) (.cond (t 10) .skip (.exit 0))) (bs [1,2,5]) (.seq (.block 2 (.seq (.ops r_m_4) (bs [1,2,5,20]) (.cond (t 20) (.seq (.ops r_m_5) (bs [4]) .ret) .skip))) (bs [1,2,5]) (.ops r_m_6)))
def r_m_8:List CI:=[mv 4 ff]
def c_m:CC:=(.seq (.ops r_m_1) (bs [1,2]) (.seq (.seq (.ops r_m_2) (bs [1,2,5]) (.block 0 (.loop (bs [1,2,5]) c_m_7))) [] (.seq (.ops r_m_8) (bs [4]) .ret)))
def f_m:zm:=⟨21,[.tmp (bits 4)],c_m,none,none⟩
def r_f_1:List CI:=[bx 4 (t 0),mv 8 (i 0),mv 9 ff]
def r_f_2:List CI:=[mv 13 (t 2),le 14 (t 13),mv 15 (i 0)]
def r_f_3:List CI:=[bi .lss 16 (t 15) (t 14)]
def r_f_4:List CI:=[ia 17 1 13 (t 15),l 18 17,mv 11 (t 18)]
def r_f_5:List CI:=[fa 19 0 4,fa 20 2 19,l 21 20,mv 22 (t 11),ia 23 3 21 (t 22),ln 24 3 23,oo 12 (.alloc [(iI 0),(iI 0),(iI 0)]),st 3 12 (t 24)]
def r_f_6:List CI:=[fa 25 0 12,l 26 25,mv 27 (t 1),bi .neq 28 (t 26) (t 27),mv 29 (t 28),gu 29 false (fa 30 1 12),gu 29 false (l 31 30),gu 29 false (mv 32 (t 3)),gu 29 false (bi .eql 33 (t 31) (t 32)),pk 34 (t 29) tt (t 33)]
def r_f_7:List CI:=[mv 8 (i 0),mv 9 ff]
def r_f_8:List CI:=[fa 35 2 12,l 36 35,mv 1 (t 36)]
def r_f_9:List CI:=[bi .add 37 (t 15) (i 1),mv 15 (t 37)]
def c_f_10:CC:=(.seq (.ops r_f_3) (bs [1,3,4,13,14,15,16]) (.seq (.cond (t 16) .skip (.exit 0)) (bs [1,3,4,13,14,15]) (.seq (.block 2 (.seq (.ops r_f_4) (bs [1,3,4,11,13,14,15]) (.seq (.ops r_f_5) (bs [1,3,4,12,13,14,15]) (.seq (.seq (.ops r_f_6) (bs [3,4,12,13,14,15,34]) (.cond (t 34) (.seq (.ops r_f_7) (bs [8,9]) .ret) .skip)) (bs [3,4,12,13,14,15]) (.ops r_f_8))))) (bs [1,3,4,13,14,15]) (.ops r_f_9))))
def r_f_11:List CI:=[mv 38 (t 1),mv 8 (t 38),mv 9 tt]
def c_f:CC:=(.seq (.ops r_f_1) (bs [1,2,3,4]) (.seq (.seq (.ops r_f_2) (bs [1,3,4,13,14,15]) (.block 0 (.loop (bs [1,3,4,13,14,15]) c_f_10))) (bs [1]) (.seq (.ops r_f_11) (bs [8,9]) .ret)))
def f_f:zm:=⟨39,[.tmp (bits 8),.tmp (bits 9)],c_f,none,none⟩
def r_d_1:List CI:=[bx 3 (t 0),oo 6 (.alloc [(.int .u64 0)]),mv 7 ff]
def r_d_2:List CI:=[oo 8 (.alloc [(.int .u64 0)])]
def r_d_3:List CI:=[oo 9 (.alloc [(.bool false),(.bool false),(.bool false),(.bool false),(.bool false),(.bool false),(.bool false),(.bool false),(.bool false),(.bool false),(.bool false),(.bool false),(.bool false),(.bool false),(.bool false),(.bool false),(.bool false),(.bool false),(.bool false),(.bool false),(.bool false),(.bool false),(.bool false),(.bool false),(.bool false),(.bool false),(.bool false),(.bool false),(.bool false),(.bool false),(.bool false),(.bool false),(.bool false),(.bool false),(.bool false),(.bool false),(.bool false),(.bool false),(.bool false),(.bool false)])]
def r_d_4:List CI:=[mv 14 (t 1),le 15 (t 14),mv 16 (i 0)]
def r_d_5:List CI:=[bi .lss 17 (t 16) (t 15)]
def r_d_6:List CI:=[ia 18 1 14 (t 16),l 19 18,mv 11 (t 19)]
def r_d_7:List CI:=[fa 20 0 3,fa 21 2 20,l 22 21,mv 23 (t 11),ia 24 3 22 (t 23),fa 25 0 24,l 26 25,ca 27 n_F [(t 8),(t 26)]]
def r_d_8:List CI:=[fa 28 0 3,fa 29 2 28,l 30 29,mv 31 (t 11),ia 32 3 30 (t 31),fa 33 1 32,l 34 33,oo 35 (.indexArr 40 1 (t 9) (t 34)),st 1 35 tt]
def r_d_9:List CI:=[bi .add 36 (t 16) (i 1),mv 16 (t 36)]
def c_d_10:CC:=(.seq (.ops r_d_5) (bs [2,3,6,8,9,14,15,16,17]) (.seq (.cond (t 17) .skip (.exit 0)) (bs [2,3,6,8,9,14,15,16]) (.seq (.block 2 (.seq (.ops r_d_6) (bs [2,3,6,8,9,11,14,15,16]) (.seq (.ops r_d_7) (bs [2,3,6,8,9,11,14,15,16]) (.ops r_d_8)))) (bs [2,3,6,8,9,14,15,16]) (.ops r_d_9))))
def r_d_11:List CI:=[fa 37 0 3,fa 38 2 37,l 39 38,le 40 (t 39),mv 41 (i 0)]
def r_d_12:List CI:=[bi .lss 42 (t 41) (t 40)]
def r_d_13:List CI:=[ia 43 3 39 (t 41),ln 44 3 43,oo 13 (.alloc [(iI 0),(iI 0),(iI 0)]),st 3 13 (t 44)]
def r_d_14:List CI:=[ln 45 1 8,fa 46 0 13,l 47 46,ca 48 n_E [(t 45),(t 47)],mv 49 (t 48),gu 49 true (fa 50 1 13),gu 49 true (l 51 50),gu 49 true (mv 52 (t 2)),gu 49 true (bi .neq 53 (t 51) (t 52)),pk 54 (t 49) (t 53) ff,mv 55 (t 54),gu 55 true (fa 56 1 13),gu 55 true (l 57 56),gu 55 true (oo 58 (.indexArr 40 1 (t 9) (t 57))),gu 55 true (l 59 58),gu 55 true (no 60 59),pk 61 (t 55) (t 60) ff]
def r_d_15:List CI:=[ln 62 1 8,st 1 6 (t 62),mv 7 ff]
def r_d_16:List CI:=[bi .add 63 (t 41) (i 1),mv 41 (t 63)]
def c_d_17:CC:=(.seq (.ops r_d_12) (bs [2,6,8,9,39,40,41,42]) (.seq (.cond (t 42) .skip (.exit 4)) (bs [2,6,8,9,39,40,41]) (.seq (.block 6 (.seq (.ops r_d_13) (bs [2,6,8,9,13,39,40,41]) (.seq (.ops r_d_14) (bs [2,6,8,9,39,40,41,61]) (.cond (t 61) (.seq (.ops r_d_15) (bs [6,7]) .ret) .skip)))) (bs [2,6,8,9,39,40,41]) (.ops r_d_16))))
def r_d_18:List CI:=[ln 64 1 8,st 1 6 (t 64),mv 7 tt]
def c_d:CC:=(.seq (.ops r_d_1) (bs [1,2,3,6]) (.seq (.ops r_d_2) (bs [1,2,3,6,8]) (.seq (.ops r_d_3) (bs [1,2,3,6,8,9]) (.seq (.seq (.ops r_d_4) (bs [2,3,6,8,9,14,15,16]) (.block 0 (.loop (bs [2,3,6,8,9,14,15,16]) c_d_10))) (bs [2,3,6,8,9]) (.seq (.seq (.ops r_d_11) (bs [2,6,8,9,39,40,41]) (.block 4 (.loop (bs [2,6,8,9,39,40,41]) c_d_17))) (bs [6,8]) (.seq (.ops r_d_18) (bs [6,7]) .ret))))))
def f_d:zm:=⟨65,[.cell (some 1) (bits 6),.tmp (bits 7)],c_d,none,none⟩
def r_H:List CI:=[bx 3 (t 0),bx 4 (t 1),bx 5 (t 2),mv 6 ff]
def r_s_2:List CI:=[fa 7 0 3,fa 8 2 7,l 9 8,oo 10 (.makeFunc (.func n_H) [] [(t 4),(t 5)]),ca 11 n_i [(t 9),(t 10)],mv 6 (t 11)]
def c_s:CC:=(.seq (.ops r_H) (bs [3,4,5]) (.seq (.ops r_s_2) (bs [6]) .ret))
def f_s:zm:=⟨12,[.tmp (bits 6)],c_s,none,none⟩
def r_y_1:List CI:=[bx 1 (t 0),mv 2 ff]
def r_y_2:List CI:=[fa 5 0 1,l 6 5,bi .lss 7 (t 6) (i 1),mv 8 (t 7),gu 8 false (fa 9 0 1),gu 8 false (l 10 9),gu 8 false (bi .gtr 11 (t 10) (i 60)),pk 12 (t 8) tt (t 11),mv 13 (t 12),gu 13 false (fa 14 1 1),gu 13 false (l 15 14),gu 13 false (bi .lss 16 (t 15) (i 0)),pk 17 (t 13) tt (t 16),mv 18 (t 17),gu 18 false (fa 19 1 1),gu 18 false (l 20 19),gu 18 false (bi .gtr 21 (t 20) (i 40)),pk 22 (t 18) tt (t 21),mv 23 (t 22),gu 23 false (fa 24 2 1),gu 23 false (l 25 24),gu 23 false (le 26 (t 25)),gu 23 false (bi .gtr 27 (t 26) (i 400)),pk 28 (t 23) tt (t 27)]
def r_y_3:List CI:=[mv 2 ff]
def r_y_4:List CI:=[fa 29 2 1,l 30 29,le 31 (t 30),mv 32 (i 0)]
def r_y_5:List CI:=[bi .lss 33 (t 32) (t 31)]
def r_y_6:List CI:=[mv 34 (t 32),ia 35 3 30 (t 32),ln 36 3 35,oo 4 (.alloc [(iI 0),(iI 0),(iI 0)]),mv 3 (t 34),st 3 4 (t 36)]
def r_y_7:List CI:=[fa 37 0 4,l 38 37,bi .lss 39 (t 38) (i 0),mv 40 (t 39),gu 40 false (fa 41 0 4),gu 40 false (l 42 41),gu 40 false (fa 43 0 1),gu 40 false (l 44 43),gu 40 false (bi .geq 45 (t 42) (t 44)),pk 46 (t 40) tt (t 45),mv 47 (t 46),gu 47 false (fa 48 2 4),gu 47 false (l 49 48),gu 47 false (bi .lss 50 (t 49) (i 0)),pk 51 (t 47) tt (t 50),mv 52 (t 51),gu 52 false (fa 53 2 4),gu 52 false (l 54 53),gu 52 false (fa 55 0 1),gu 52 false (l 56 55),gu 52 false (bi .geq 57 (t 54) (t 56)),pk 58 (t 52) tt (t 57),mv 59 (t 58),gu 59 false (fa 60 1 4),gu 59 false (l 61 60),gu 59 false (bi .lss 62 (t 61) (i 0)),pk 63 (t 59) tt (t 62),mv 64 (t 63),gu 64 false (fa 65 1 4),gu 64 false (l 66 65),gu 64 false (fa 67 1 1),gu 64 false (l 68 67),gu 64 false (bi .geq 69 (t 66) (t 68)),pk 70 (t 64) tt (t 69),mv 71 (t 70),gu 71 false (mv 72 (t 3)),gu 71 false (bi .gtr 73 (t 72) (i 0)),gu 71 false (mv 74 (t 73)),gu 74 true (fa 75 2 1),gu 74 true (l 76 75),gu 74 true (mv 77 (t 3)),gu 74 true (bi .sub 78 (t 77) (i 1)),gu 74 true (ia 79 3 76 (t 78)),gu 74 true (ln 80 3 79),gu 74 true (ln 81 3 4),gu 74 true (ca 82 n_G [(t 80),(t 81)]),lo 1 (gu 74 true (bi .geq 83 (t 82) (i 0))),lo 1 (gu 71 false (pk 84 (t 74) (t 83) ff)),lo 1 (pk 85 (t 71) tt (t 84))]
def r_y_8:List CI:=[mv 2 ff]
def r_y_9:List CI:=[bi .add 86 (t 32) (i 1),mv 32 (t 86)]
def c_y_10:CC:=(.seq (.ops r_y_5) (bs [1,30,31,32,33]) (.seq (.cond (t 33) .skip (.exit 0)) (bs [1,30,31,32]) (.seq (.block 2 (.seq (.ops r_y_6) (bs [1,3,4,30,31,32]) (.seq (.draw r_y_7) (bs [1,30,31,32,85]) (.cond (t 85) (.seq (.ops r_y_8) (bs [2]) .ret) .skip)))) (bs [1,30,31,32]) (.ops r_y_9))))
def r_y_11:List CI:=[mv 2 tt]
def c_y:CC:=(.seq (.ops r_y_1) (bs [1]) (.seq (.seq (.ops r_y_2) (bs [1,28]) (.cond (t 28) (.seq (.ops r_y_3) (bs [2]) .ret) .skip)) (bs [1]) (.seq (.seq (.ops r_y_4) (bs [1,30,31,32]) (.block 0 (.loop (bs [1,30,31,32]) c_y_10))) [] (.seq (.ops r_y_11) (bs [2]) .ret))))
def f_y:zm:=⟨87,[.tmp (bits 2)],c_y,none,none⟩
def r_b_1:List CI:=[mv 4 (i 0)]
def r_b_2:List CI:=[mv 6 (t 0),le 7 (t 6),mv 8 (i 0)]
def r_b_3:List CI:=[bi .lss 9 (t 8) (t 7)]
def r_b_4:List CI:=[mv 10 (t 8),mv 5 (t 10)]
def r_b_5:List CI:=[mv 11 (t 1),mv 12 (t 0),mv 13 (t 5),ia 14 3 12 (t 13),ln 15 3 14,oo 16 (.call (t 11) [(t 15)])]
def r_b_6:List CI:=[mv 17 (t 5),mv 4 (t 17)]
def r_b_7:List CI:=[bi .add 18 (t 8) (i 1),mv 8 (t 18)]
def c_b_8:CC:=(.seq (.ops r_b_3) (bs [0,1,7,8,9]) (.seq (.cond (t 9) .skip (.exit 0)) (bs [0,1,7,8]) (.seq (.block 2 (.seq (.ops r_b_4) (bs [0,1,5,7,8]) (.seq (.ops r_b_5) (bs [0,1,5,7,8,16]) (.cond (t 16) (.seq (.ops r_b_6) (bs [4]) .ret) .skip)))) (bs [0,1,7,8]) (.ops r_b_7))))
def r_b_9:List CI:=[mv 4 (i (-1))]
def c_b:CC:=(.seq (.ops r_b_1) (bs [0,1]) (.seq (.seq (.ops r_b_2) (bs [0,1,7,8]) (.block 0 (.loop (bs [0,1,7,8]) c_b_8))) [] (.seq (.ops r_b_9) (bs [4]) .ret)))
def f_b:zm:=⟨19,[.tmp (bits 4)],c_b,none,none⟩
def r_g_1:List CI:=[mv 4 (i 0)]
def r_g_2:List CI:=[mv 6 (t 0),le 7 (t 6),mv 8 (i 0)]
def r_g_3:List CI:=[bi .lss 9 (t 8) (t 7)]
def r_g_4:List CI:=[mv 10 (t 8),mv 5 (t 10)]
def r_g_5:List CI:=[mv 11 (t 1),mv 12 (t 0),mv 13 (t 5),ia 14 1 12 (t 13),l 15 14,oo 16 (.call (t 11) [(t 15)])]
def r_g_6:List CI:=[mv 17 (t 5),mv 4 (t 17)]
def r_g_7:List CI:=[bi .add 18 (t 8) (i 1),mv 8 (t 18)]
def c_g_8:CC:=(.seq (.ops r_g_3) (bs [0,1,7,8,9]) (.seq (.cond (t 9) .skip (.exit 0)) (bs [0,1,7,8]) (.seq (.block 2 (.seq (.ops r_g_4) (bs [0,1,5,7,8]) (.seq (.ops r_g_5) (bs [0,1,5,7,8,16]) (.cond (t 16) (.seq (.ops r_g_6) (bs [4]) .ret) .skip)))) (bs [0,1,7,8]) (.ops r_g_7))))
def r_g_9:List CI:=[mv 4 (i (-1))]
def c_g:CC:=(.seq (.ops r_g_1) (bs [0,1]) (.seq (.seq (.ops r_g_2) (bs [0,1,7,8]) (.block 0 (.loop (bs [0,1,7,8]) c_g_8))) [] (.seq (.ops r_g_9) (bs [4]) .ret)))
def f_g:zm:=⟨19,[.tmp (bits 4)],c_g,none,none⟩
def r_J_1:List CI:=[mv 3 ff]
def r_J_2:List CI:=[mv 4 (t 0),bi .lss 5 (t 4) (i 0),mv 6 (t 5),gu 6 false (mv 7 (t 0)),gu 6 false (fa 8 2 1),gu 6 false (l 9 8),gu 6 false (le 10 (t 9)),gu 6 false (bi .geq 11 (t 7) (t 10)),pk 12 (t 6) tt (t 11),mv 3 (t 12)]
def c_J:CC:=(.seq (.ops r_J_1) (bs [0,1]) (.seq (.ops r_J_2) (bs [3]) .ret))
def f_J:zm:=⟨13,[.tmp (bits 3)],c_J,none,none⟩
def r_F_1:List CI:=[mv 4 (t 0),mv 5 (t 1),bi .quo 6 (t 5) (i 64),nc 7 4,oo 8 (.indexArr 1 1 (t 7) (t 6)),l 9 8,mv 10 (t 1),bi .rem 11 (t 10) (i 64),bi .shl 12 (.c (.int .u64 1)) (t 11),bi .or 13 (t 9) (t 12),nc 14 4,oo 15 (.indexArr 1 1 (t 14) (t 6)),st 1 15 (t 13)]
def c_F:CC:=(.draw r_F_1)
def f_F:zm:=⟨16,[],c_F,none,none⟩
def r_C:List CI:=[bx 2 (t 0),bx 3 (t 1),mv 4 (.c .nilFunc)]
def r_u_2:List CI:=[oo 5 (.makeFunc (.func n_C) [] [(t 2),(t 3)]),mv 4 (t 5)]
def c_u:CC:=(.seq (.ops r_C) (bs [2,3]) (.seq (.ops r_u_2) (bs [4]) .ret))
def f_u:zm:=⟨6,[.tmp (bits 4)],c_u,none,none⟩
def r_p_1:List CI:=[bx 2 (t 0),bx 3 (t 1),mv 4 ff]
def r_p_2:List CI:=[fa 5 0 2,l 6 5,fa 7 0 3,l 8 7,bi .neq 9 (t 6) (t 8)]
def r_p_3:List CI:=[fa 10 0 2,l 11 10,fa 12 0 3,l 13 12,bi .lss 14 (t 11) (t 13),mv 4 (t 14)]
def r_p_4:List CI:=[fa 15 1 2,l 16 15,fa 17 1 3,l 18 17,bi .neq 19 (t 16) (t 18)]
def r_p_5:List CI:=[fa 20 1 2,l 21 20,fa 22 1 3,l 23 22,bi .lss 24 (t 21) (t 23),mv 4 (t 24)]
def r_p_6:List CI:=[fa 25 2 2,l 26 25,fa 27 2 3,l 28 27,bi .lss 29 (t 26) (t 28),mv 4 (t 29)]
def c_p:CC:=(.seq (.ops r_p_1) (bs [2,3]) (.seq (.seq (.ops r_p_2) (bs [2,3,9]) (.cond (t 9) (.seq (.ops r_p_3) (bs [4]) .ret) .skip)) (bs [2,3]) (.seq (.seq (.ops r_p_4) (bs [2,3,19]) (.cond (t 19) (.seq (.ops r_p_5) (bs [4]) .ret) .skip)) (bs [2,3]) (.seq (.ops r_p_6) (bs [4]) .ret))))
def f_p:zm:=⟨30,[.tmp (bits 4)],c_p,none,none⟩
def r_H_1:List CI:=[bx 3 (t 0),mv 4 ff]
def r_H_2:List CI:=[ln 5 1 1,fa 6 0 3,l 7 6,ca 8 n_E [(t 5),(t 7)],mv 9 (t 8),gu 9 true (fa 10 1 3),gu 9 true (l 11 10),gu 9 true (l 12 2),gu 9 true (bi .eql 13 (t 11) (t 12)),pk 14 (t 9) (t 13) ff,mv 4 (t 14)]
def c_H:CC:=(.seq (.ops r_H_1) (bs [1,2,3]) (.seq (.ops r_H_2) (bs [4]) .ret))
def f_H:zm:=⟨15,[.tmp (bits 4)],c_H,none,none⟩
def r_G_1:List CI:=[bx 2 (t 0),bx 3 (t 1),mv 4 (i 0)]
def r_G_2:List CI:=[fa 5 0 2,l 6 5,fa 7 0 3,l 8 7,bi .sub 9 (t 6) (t 8),fa 10 1 2,l 11 10,fa 12 1 3,l 13 12,bi .sub 14 (t 11) (t 13),fa 15 2 2,l 16 15,fa 17 2 3,l 18 17,bi .sub 19 (t 16) (t 18),oo 20 (.buildSlice 3 1 [(iI 0)] [(0,(t 9)),(1,(t 14)),(2,(t 19))]),ca 21 n_t [(t 20)],mv 4 (t 21)]
def c_G:CC:=(.seq (.ops r_G_1) (bs [2,3]) (.seq (.ops r_G_2) (bs [4]) .ret))
def f_G:zm:=⟨22,[.tmp (bits 4)],c_G,none,none⟩
def r_C_1:List CI:=[fa 6 0 1,fa 7 2 6,l 8 7,le 9 (t 8),mv 10 (i 0)]
def r_C_2:List CI:=[bi .lss 11 (t 10) (t 9)]
def r_C_3:List CI:=[mv 12 (t 10),ia 13 3 8 (t 10),ln 14 3 13,oo 5 (.alloc [(iI 0),(iI 0),(iI 0)]),mv 4 (t 12),st 3 5 (t 14)]
def r_C_4:List CI:=[fa 15 0 5,l 16 15,l 17 2,bi .eql 18 (t 16) (t 17),mv 19 (t 18),gu 19 true (mv 20 (t 0)),gu 19 true (mv 21 (t 4)),gu 19 true (ln 22 3 5),gu 19 true (oo 23 (.call (t 20) [(t 21),(t 22)])),gu 19 true (no 24 23),pk 25 (t 19) (t 24) ff]
def r_C_5:List CI:=[bi .add 26 (t 10) (i 1),mv 10 (t 26)]
def c_C_6:CC:=(.seq (.ops r_C_2) (bs [0,2,8,9,10,11]) (.seq (.cond (t 11) .skip (.exit 0)) (bs [0,2,8,9,10]) (.seq (.block 2 (.seq (.ops r_C_3) (bs [0,2,4,5,8,9,10]) (.seq (.ops r_C_4) (bs [0,2,8,9,10,25]) (.cond (t 25) .ret .skip)))) (bs [0,2,8,9,10]) (.ops r_C_5))))
def c_C:CC:=(.seq (.ops r_C_1) (bs [0,2,8,9,10]) (.block 0 (.loop (bs [0,2,8,9,10]) c_C_6)))
def f_C:zm:=⟨27,[],c_C,none,none⟩
def r_t_1:List CI:=[mv 2 (i 0)]
def r_t_2:List CI:=[mv 3 (i 0)]
def r_t_3:List CI:=[mv 6 (t 0),le 7 (t 6),mv 8 (i 0)]
def r_t_4:List CI:=[bi .lss 9 (t 8) (t 7)]
def r_t_5:List CI:=[ia 10 1 6 (t 8),l 11 10,mv 5 (t 11)]
def r_t_6:List CI:=[mv 12 (t 5),mv 13 (t 3),bi .neq 14 (t 12) (t 13)]
def r_t_7:List CI:=[mv 15 (t 5),mv 2 (t 15)]
def r_t_8:List CI:=[bi .add 16 (t 8) (i 1),mv 8 (t 16)]
def c_t_9:CC:=(.seq (.ops r_t_4) (bs [3,6,7,8,9]) (.seq (.cond (t 9) .skip (.exit 0)) (bs [3,6,7,8]) (.seq (.block 2 (.seq (.ops r_t_5) (bs [3,5,6,7,8]) (.seq (.ops r_t_6) (bs [3,5,6,7,8,14]) (.cond (t 14) (.seq (.ops r_t_7) (bs [2]) .ret) .skip)))) (bs [3,6,7,8]) (.ops r_t_8))))
def r_t_10:List CI:=[mv 17 (t 3),mv 2 (t 17)]
def c_t:CC:=(.seq (.ops r_t_1) (bs [0]) (.seq (.ops r_t_2) (bs [0,3]) (.seq (.seq (.ops r_t_3) (bs [3,6,7,8]) (.block 0 (.loop (bs [3,6,7,8]) c_t_9))) (bs [3]) (.seq (.ops r_t_10) (bs [2]) .ret))))
def f_t:zm:=⟨18,[.tmp (bits 2)],c_t,none,none⟩
end Go.Ideal.Q
namespace Go.Ideal
noncomputable section
variable {P:Program}
def zbP (W:World) (b:Nat):Bool:=match W.heap[b]? with
 |some (.cells _ _ _)=>true
 |_=>false
def okV (W:World):Value→Bool
 |.bool _=>true
 |.int _ _=>true
 |.string _=>true
 |.nilFunc=>true
 |.pointer none=>true
 |.map none=>true
 |.slice none 0 0=>true
 |.slice (some a) len cap=>a.spot.isNone&&(decide (len≤cap)&&(decide (cap<zp)&&zbP W a.block))
 |.pointer (some a)=>a.spot.isNone&&zbP W a.block
 |_=>false
def isDang:Value→Bool
 |.slice (some _) 0 0=>true
 |_=>false
def dang (W:World):Value:=.slice (some ⟨W.heap.size,0,none⟩) 0 0
def impV (W:World) (v:Value):Value:=if okV W v then v else if isDang v then dang W else poison
def impObj (W:World):Obj→Option IObj
 |.cells c _ _=>some (.cells (c.toList.map (impV W)) roE)
 |_=>none
open Classical in
def dangR (W:World):Option RB:=if h: ∃b,zbP W b=true then some ⟨Classical.choose h,0,0,0,1,none⟩ else none
def zdh (W:World) (i:Nat):Option RB:=if i=W.heap.size then dangR W else(W.heap[i]?).bind fun o=>match o with
 |.cells c _ _=>some ⟨i,0,c.size,roE,c.size,some o⟩
 |_=>none
def zj1 (W:World) (n:Nat):PT IObj:=Nat.rec (motive:=fun _=>PT IObj) .nil (fun i t=>match(W.heap[i]?).bind (impObj W) with|some o=>t.set (bits i) o|none=>t) n
def impH (W:World):H:=⟨W.heap.size+1,zj1 W W.heap.size⟩
theorem zgS (W:World): ∀(n j:Nat),(zj1 W n).get (bits j)=if j<n then(W.heap[j]?).bind (impObj W) else none
 |0,j=>by rw[if_neg (by omega)];exact PT.get_nil _
 |n+1,j=>by
  have e:zj1 W (n+1)=match(W.heap[n]?).bind (impObj W) with|some o=>(zj1 W n).set (bits n) o|none=>zj1 W n:=rfl
  rw[e]
  cases ho:(W.heap[n]?).bind (impObj W) with
  |none=>
   rw[zgS W n j]
   by_cases h:j<n
   ·rw[if_pos h,if_pos (by omega)]
   ·rw[if_neg h]
    by_cases e:j=n
    ·subst e;rw[if_pos (by omega),ho]
    ·rw[if_neg (by omega)]
  |some o=>
   dsimp only
   rw[PT.get_set_bits,zgS W n j]
   by_cases e:n=j
   ·subst e;rw[if_pos rfl,if_pos (by omega),ho]
   ·rw[if_neg e]
    by_cases h:j<n
    ·rw[if_pos h,if_pos (by omega)]
    ·rw[if_neg h,if_neg (by omega)]
theorem zgd (W:World) (j:Nat):(impH W).get j=(W.heap[j]?).bind (impObj W):=by
 show(zj1 W W.heap.size).get (bits j)=_
 rw[zgS]
 by_cases h:j<W.heap.size
 ·rw[if_pos h]
 ·rw[if_neg h,Array.getElem?_eq_none (by omega)];rfl
theorem zgT {W:World} {b:Nat} {c:Array Value} {t:TypeId} {fr:Nat×Nat} (h:W.heap[b]? =some (.cells c t fr)):(impH W).get b=some (.cells (c.toList.map (impV W)) roE):=by rw[zgd,h];rfl
theorem impH_next (W:World):(impH W).next=W.heap.size+1:=rfl
theorem zj0 {W:World} {b:Nat} (h:zbP W b=true):b<W.heap.size:=by
 unfold zbP at h
 split at h
 ·rename_i hb;exact(Array.getElem?_eq_some_iff.1 hb).1
 ·cases h
theorem impRho_lt {W:World} {i:Nat} (h:i<W.heap.size):zdh W i=(W.heap[i]?).bind fun o=>match o with|.cells c _ _=>some ⟨i,0,c.size,roE,c.size,some o⟩|_=>none:=by
 unfold zdh;rw[if_neg (by omega)]
theorem zeG {W:World} {b:Nat} (h:zbP W b=true): ∃R,zdh W b=some R∧R.blk=b∧R.base=0:=by
 have hlt:=zj0 h
 unfold zbP at h
 split at h
 ·rename_i c t fr hb
  exact⟨_,by rw[impRho_lt hlt,hb];rfl,rfl,rfl⟩
 ·cases h
theorem okV_rel {W:World} {v:Value} (h:okV W v=true):VR (zdh W) v v:=by
 unfold okV at h
 split at h
 ·exact .bool _
 ·exact .int _ _
 ·exact .str _
 ·exact .nilFunc
 ·exact .ptrNil
 ·exact .mapNil
 ·exact .sliceNil
 ·rename_i a len cap
  simp only[Bool.and_eq_true,Option.isNone_iff_eq_none,decide_eq_true_eq] at h
  obtain⟨h1,h2,h3,h4⟩:=h
  obtain⟨R,hR,hb,h0⟩:=zeG h4
  obtain⟨b,o,sp⟩:=a
  simp only at h1 hR hb
  subst h1
  have:=VR.slice (o:=o) (len:=len) hR h3 h2
  rw[hb,h0,Nat.zero_add] at this
  exact this
 ·rename_i a
  simp only[Bool.and_eq_true,Option.isNone_iff_eq_none] at h
  obtain⟨h1,h4⟩:=h
  obtain⟨R,hR,hb,h0⟩:=zeG h4
  obtain⟨b,o,sp⟩:=a
  simp only at h1 hR hb
  subst h1
  have:=VR.ptr (o:=o) hR
  rw[hb,h0,Nat.zero_add] at this
  exact this
 ·cases h
theorem zee {W:World} {i:Nat} {R:RB} (h:zdh W i=some R):(i≠W.heap.size∧ ∃c t fr,W.heap[i]? =some (.cells c t fr)∧R=⟨i,0,c.size,roE,c.size,some (.cells c t fr)⟩)∨(i=W.heap.size∧zbP W R.blk=true):=by
 unfold zdh at h
 split at h
 ·rename_i e
  refine .inr ⟨e,?_⟩
  unfold dangR at h
  split at h
  ·rename_i hx;cases h;exact Classical.choose_spec hx
  ·cases h
 ·rename_i e
  obtain⟨o,ho,h⟩:=aof h
  cases o with
  |cells c t fr=>cases h;exact .inl ⟨e,c,t,fr,ho,rfl⟩
  |_=>cases h
theorem zgR {W:World} {i:Nat} {R:RB} {o:IObj} (h:zdh W i=some R) (ho:(impH W).get i=some o): ∃c t fr,W.heap[i]? =some (.cells c t fr)∧R=⟨i,0,c.size,roE,c.size,some (.cells c t fr)⟩:=by
 rcases zee h with⟨-,h⟩| ⟨rfl,-⟩
 ·exact h
 ·rw[zgd,Array.getElem?_eq_none (Nat.le_refl _)] at ho;cases ho
theorem dang_rel {W:World} {v:Value} {b:Nat} (hb:zbP W b=true) (h:isDang v=true):VR (zdh W) (dang W) v:=by
 unfold isDang at h
 split at h
 ·refine .sliceD (R:=⟨Classical.choose (⟨b,hb⟩: ∃b,zbP W b=true),0,0,0,1,none⟩) ?_ (by show 0<1;omega)
  unfold zdh;rw[if_pos rfl];unfold dangR;rw[dif_pos ⟨b,hb⟩]
 ·cases h
theorem imp_HR (W:World):HR P (zdh W) (impH W) W where
 obj:=fun i R o hi ho=>by
  obtain⟨c,t,fr,hb,rfl⟩:=zgR hi ho
  rw[zgT hb] at ho;cases ho
  refine⟨rfl,by simp,c,t,fr,hb,.inr ⟨rfl,rfl⟩,rfl,by simp,fun j v hj=> ?_⟩
  rw[List.getElem?_map] at hj
  obtain⟨x,hx,rfl⟩:=Option.map_eq_some_iff.1 hj
  refine⟨x,by rw[Array.getElem?_toList] at hx;simpa using hx,?_⟩
  unfold impV
  by_cases hok:okV W x=true
  ·rw[if_pos hok];exact .inr (okV_rel hok)
  ·rw[if_neg hok]
   by_cases hd:isDang x=true
   ·rw[if_pos hd];exact .inr (dang_rel (b:=i) (by unfold zbP;rw[hb]) hd)
   ·rw[if_neg hd];exact .inl rfl
 nxt:=fun i hi=>by
  have hi':W.heap.size+1≤i:=hi
  have hn:W.heap[i]? =none:=Array.getElem?_eq_none (by omega)
  exact⟨by unfold zdh;rw[if_neg (by omega),hn];rfl,by rw[zgd,hn];rfl⟩
 sep:=fun i j R S hi hj ai aj e=>by
  obtain⟨o,ho,-⟩:=ai
  obtain⟨o',ho',-⟩:=aj
  obtain⟨_,_,_,_,rfl⟩:=zgR hi ho
  obtain⟨_,_,_,_,rfl⟩:=zgR hj ho'
  exact e
 blk:=fun i R hi=>by
  rcases zee hi with⟨-,_,_,_,hb,rfl⟩| ⟨-,hc⟩
  ·exact(Array.getElem?_eq_some_iff.1 hb).1
  ·exact zj0 hc
 glb:=fun i b x hi=>by
  rw[zgd] at hi
  obtain⟨o,-,ho⟩:=aof hi
  cases o<;>cases ho
def okArg (W:World):Value→Bool
 |.agg cs=>cs.toList.all (okV W)
 |v=>okV W v
theorem okArg_rel {W:World} {v:Value} (h:okArg W v=true):VR (zdh W) v v:=by
 unfold okArg at h
 split at h
 ·rename_i cs
  have:VRL (zdh W) cs.toList cs.toList:=⟨rfl,fun j x y hx hy=>by rw[hx] at hy;cases hy;exact okV_rel (List.all_eq_true.1 h x (List.mem_of_getElem? hx))⟩
  exact VR.agg_of this
 ·exact okV_rel h
theorem calls_import {F:FuncId→Option zm} (hmix:P.follows .mixedOrders=true) (hF: ∀g cf,F g=some cf→FnOk P g cf) {g:FuncId} {args:Array Value} {W:World} (hargs: ∀v∈args.toList,okArg W v=true)
 {b:Bool} {n:Nat} {h':H} (hn:E F n (.call (.func (.func g) #[] #[]) args.toList (impH W))=some (.val (.bool b) h')) (hfr: ∀i,i<W.heap.size→h'.get i=(impH W).get i):
 Calls P g args W fun e W'=>e=.returned (.bool b)∧Same W W':=by
 have ra:VRL (zdh W) args.toList args.toList:=⟨rfl,fun j x y hx hy=>by rw[hx] at hy;cases hy;exact okArg_rel (hargs x (List.mem_of_getElem? hx))⟩
 refine(zdU hmix hF hn ra (imp_HR W)).mono ?_
 rintro e W' ⟨v',σ,rfl,hv,hr,hx⟩
 refine⟨by rw[hv.inv_bool],hx.os,hx.out,fun B hB=> ?_,hx.froz,hx.td,hx.size⟩
 by_cases hc:zbP W B=true
 ·obtain⟨R,hR,hb,h0⟩:=zeG hc
  obtain⟨-,c,t,fr,hWB,rfl⟩:=(zee hR).resolve_right (fun h=>by omega)
  have ho:=hr.obj B _ _ (hx.le _ _ hR) (by rw[hfr B hB];exact zgT hWB)
  obtain⟨_,_,c',t',fr',q1,q2,_⟩:=ho
  rcases q2 with⟨q2,_⟩| ⟨q2,_⟩
  ·cases q2
  ·rw[q1,hWB];exact(q2.symm▸rfl:some (Obj.cells c' t' fr')=some (Obj.cells c t fr))
 ·refine hx.frame B hB fun i R hi e=> ?_
  rcases zee hi with⟨-,c,t,fr,hWB,rfl⟩| ⟨-,hcc⟩
  ·have e:i=B:=e
   subst e
   exact hc (by unfold zbP;rw[hWB])
  ·rw[e] at hcc;exact hc hcc
theorem prim_of {F:FuncId→Option zm} (hmix:P.follows .mixedOrders=true) (hF: ∀g cf,F g=some cf→FnOk P g cf) {g:FuncId} {fn:Func} {cf0:zm} (hfn:P.funcs[g]? =some fn) (hcf:zc P fn=some (zn cf0)) {b:Bool} {n:Nat} {h':H}
 (he:E F n (.call (.func (.func g) #[] #[]) [] .empty)=some (.val (.bool b) h')):FnOk P g (zgK b):=by
 refine .inr (.inl ⟨fn,cf0,b,hfn,hcf,rfl,fun w=> ?_⟩)
 have hr:HR P (fun _=>none) H.empty w:=⟨fun _ _ _ h=>(by cases h),fun i _=>⟨rfl,PT.get_nil _⟩,fun _ _ _ _ h=>(by cases h),fun _ _ h=>(by cases h),fun i _ _ h=>by rw[H.get_empty] at h;cases h⟩
 refine(zdU hmix hF he (args':= #[]) ⟨rfl,fun j x y hx=>by simp at hx⟩ hr).mono ?_
 rintro e w' ⟨v',σ,rfl,hv,-,hx⟩
 exact⟨by rw[hv.inv_bool],hx.os,hx.out,fun B hB=>hx.frame B hB fun _ _ h=>(by cases h),hx.froz,hx.td,hx.size⟩
theorem calls_closed {F:FuncId→Option zm} (hmix:P.follows .mixedOrders=true) (hF: ∀g cf,F g=some cf→FnOk P g cf) {g:FuncId} {b:Bool} {n:Nat} {h':H}
 (he:E F n (.call (.func (.func g) #[] #[]) [] .empty)=some (.val (.bool b) h')) (w:World):Calls P g #[] w fun e w'=>e=.returned (.bool b)∧Same w w':=by
 have hr:HR P (fun _=>none) H.empty w:=⟨fun _ _ _ h=>(by cases h),fun i _=>⟨rfl,PT.get_nil _⟩,fun _ _ _ _ h=>(by cases h),fun _ _ h=>(by cases h),fun i _ _ h=>by rw[H.get_empty] at h;cases h⟩
 refine(zdU hmix hF he (args':= #[]) ⟨rfl,fun j x y hx=>by simp at hx⟩ hr).mono ?_
 rintro e w' ⟨v',σ,rfl,hv,-,hx⟩
 exact⟨by rw[hv.inv_bool],hx.os,hx.out,fun B hB=>hx.frame B hB fun _ _ h=>(by cases h),hx.froz,hx.td,hx.size⟩
def globH (b:Nat) (x:Value):H:=H.empty.new (.glob b x)
def zfK (b:Nat) (o:Obj) (i:Nat):Option RB:=if i=0 then some ⟨b,0,0,0,0,some o⟩ else none
theorem glob_HR {b:Nat} {x:Value} {W:World} {c:Array Value} {t:TypeId} {fr:Nat×Nat} (hW:W.heap[b]? =some (.cells c t fr)) (hx:c[0]? =some x):HR P (zfK b (.cells c t fr)) (globH b x) W where
 obj:=fun i R o hi ho=>by
  unfold zfK at hi
  split at hi
  ·rename_i e;subst e;cases hi
   have ho:(globH b x).get 0=some o:=ho
   rw[show(globH b x).get 0=some (.glob b x) from by unfold globH;rw[H.get_new];exact if_pos rfl] at ho
   cases ho
   exact⟨rfl,c,t,fr,rfl,hW,hx⟩
  ·cases hi
 nxt:=fun i hi=>by
  have hi:1≤i:=hi
  refine⟨by unfold zfK;rw[if_neg (by omega)],?_⟩
  unfold globH;rw[H.get_new,if_neg (by show¬(0=i);omega)];exact PT.get_nil _
 sep:=fun i j R S hi hj _ _ _=>by
  unfold zfK at hi hj
  split at hi
  ·split at hj
   ·rename_i a b;rw[a,b]
   ·cases hj
  ·cases hi
 blk:=fun i R hi=>by
  unfold zfK at hi
  split at hi
  ·cases hi;exact(Array.getElem?_eq_some_iff.1 hW).1
  ·cases hi
 glb:=fun i b' x' hi=>by
  unfold globH at hi
  rw[H.get_new] at hi
  by_cases e:H.empty.next=i
  ·subst e;exact⟨_,rfl⟩
  ·rw[if_neg e,H.get_empty] at hi;cases hi
theorem calls_glob {F:FuncId→Option zm} (hmix:P.follows .mixedOrders=true) (hF: ∀g cf,F g=some cf→FnOk P g cf) {g:FuncId} {b n:Nat} {x:Value} {h':H} {t:Bool}
 (he:E F n (.call (.func (.func g) #[] #[]) [] (globH b x))=some (.val (.bool t) h')) (hg:h'.get 0=some (.glob b x)) {W:World} (hW:W.cell? ⟨b,0,none⟩=some x):Calls P g #[] W fun e W'=>e=.returned (.bool t)∧Same W W':=by
 obtain⟨c,ty,fr,hb,hx⟩: ∃c t fr,W.heap[b]? =some (.cells c t fr)∧c[0]? =some x:=by
  unfold World.cell? at hW
  dsimp only at hW
  split at hW
  ·rename_i hb;exact⟨_,_,_,hb,hW⟩
  ·cases hW
 refine(zdU hmix hF he (args':= #[]) ⟨rfl,fun j x y hx=>by simp at hx⟩ (glob_HR hb hx)).mono ?_
 rintro e w' ⟨v',σ,rfl,hv,hr,hx'⟩
 refine⟨by rw[hv.inv_bool],hx'.os,hx'.out,fun B hB=> ?_,hx'.froz,hx'.td,hx'.size⟩
 have h0:zfK b (.cells c ty fr) 0=some ⟨b,0,0,0,0,some (.cells c ty fr)⟩:=rfl
 by_cases e:B=b
 ·subst e
  obtain⟨-,c',t',fr',q1,q2,-⟩:=hr.obj 0 _ _ (hx'.le _ _ h0) hg
  rw[q2,hb,←q1]
 ·refine hx'.frame B hB fun i R hi e'=> ?_
  unfold zfK at hi
  split at hi
  ·cases hi;exact e e'.symm
  ·cases hi
section
open Go.ChangeShapes Go.WideShapes Go.RowKit
variable {H:Type} {enc:TypeId×Value→H}
theorem Same.kept {W W':World} (h:Same W W') (may:MemPlace→Prop):W.keptBut W' may:=by
 refine⟨h.os,h.out,fun i hi=> ?_⟩
 rw[h.heap i hi]
 cases ho:W.heap[i]? with
 |none=>trivial
 |some o=>
  cases o with
  |cells c t fr=>exact⟨rfl,rfl,rfl,fun _ _=>rfl⟩
  |map es c=>exact .inr ⟨rfl,rfl⟩
  |_=>rfl
theorem Same.at {W W':World} (h:Same W W') {p:MemPlace} (hp:p.block<W.heap.size):W.sameAt W' p:=by
 cases p with
 |cell b off=>
  show W'.cell? ⟨b,off,none⟩=W.cell? ⟨b,off,none⟩
  have:=h.heap b hp
  simp only[World.cell?,this]
 |map b=>exact h.heap b hp
theorem zfV (hl:laidOutB P=true) {W W':World} {sp':Nat→Bool} (hs:Same W W'): ∀{ts:List TypeId} {vs:List Value} {ds:List (DataW H)} {ps:List MemPlace},(∀t∈ts,P.readableRec t=true∧t<P.types.size)→
 DataW.TrodAll enc P W 0 (fun _=>true) true ts vs ds ps→(∀p∈ps,p.block<W.heap.size)→(∀p∈ps,sp' p.block=true)→DataW.TrodAll enc P W' 0 sp' true ts vs ds ps
 | [],vs,ds,ps,_,h,_,_=>by
   obtain⟨rfl,rfl,rfl⟩:=trodAll_nil h
   exact trodAll_mk0
 |t::ts,vs,ds,ps,ht,h,hlt,hsp=>by
  obtain⟨v,vs',d,ds',p,q,rfl,rfl,rfl,h1,h2⟩:=trodAll_cons h
  obtain⟨r1,r2⟩:=ht t (by simp)
  exact trodAll_cons_mk (WideElems.Trod_stays hl r1 r2 h1 (fun x hx=>hs.at (hlt x (by simp[hx]))) (fun x hx=>hsp x (by simp[hx])))
   (zfV hl hs (fun t ht'=>ht t (by simp[ht'])) h2 (fun x hx=>hlt x (by simp[hx])) (fun x hx=>hsp x (by simp[hx])))
theorem post_kept {f:Func} {s:ChangeSpec} {apart fresh handsOn again:Bool} {W W':World} {args:Array Value} {v:Value} {ds gs:List (DataW H)} {before pa pv:List MemPlace}
 (hW:DataW.Whole enc P f.params.toList s.vars apart W args.toList ds gs before)
 (hres: ∀(b:Nat) (sp:Nat→Bool) (hd:Bool),DataW.TrodAll enc P W' b sp hd f.resultTypes.toList (v.resultList f.resultTypes.size) (s.fn H (ds++gs)).results [])
 (hargs: ∀sp:Nat→Bool,(∀p∈before,sp p.block=true)→DataW.TrodAll enc P W' 0 sp true f.params.toList args.toList (s.fn H (ds++gs)).args pa)
 (hvars: ∀sp:Nat→Bool,(∀p∈before,sp p.block=true)→DataW.TrodVars enc P W' sp s.vars (s.fn H (ds++gs)).vars pv)
 (hps:before=pa++pv) (hk:W.keptBut W' (· ∈before)) (hfz: ∀a:Addr,a.block<W.heap.size→W'.frozen? a=W.frozen? a)
 (hok: ∀(j:Nat) (t:TypeId) (r:Value),f.resultTypes[j]? =some t→(v.resultList f.resultTypes.size)[j]? =some r→Value.okWide P W' .any 0 t r):
 s.post enc P f apart fresh handsOn again W args v W':=by
 refine⟨ds,gs,before,[],pa,pv,hW,hres _ _ _,hargs _ fun p hp=>by simpa using hW.lt p hp,hvars _ fun p hp=>by simpa using hW.lt p hp,World.keptBut_mono (fun p hp=>⟨hp,?_⟩) hk,fun _=> ?_⟩
 ·rw[hps,List.mem_append] at hp
  exact Or.inr hp
 ·have hlt:=hW.lt
  obtain⟨_,_,_,_,_,hz,hn⟩:=hW
  refine⟨hok,_,_,([]++pa)++pv,⟨[]++pa,pv,trodAll_append (hargs _ (fun _ _=>rfl)) (hres _ _ _),hvars _ (fun _ _=>rfl),rfl,fun b off hp=> ?_,fun ha=> ?_⟩,fun p hp _=> ?_⟩
  ·have hb:MemPlace.cell b off∈before:=by rw[hps];simpa using hp
   rw[hfz ⟨b,off,none⟩ (hlt _ hb)]
   exact hz b off hb
  ·have:=hn ha
   rw[hps] at this
   simpa using this
  ·rw[hps]
   simpa using hp
theorem law_post {s:ChangeSpec} {fn:Func} {apart fresh handsOn again:Bool} {W W':World} {args:Array Value} {ds gs:List (DataW H)} {before:List MemPlace} {t:TypeId} (hW:DataW.Whole enc P fn.params.toList s.vars apart W args.toList ds gs before)
 (hvars:s.vars=[]) (hspec:s.fn H (ds++gs)={results:=[.lit (.bool true)],args:=ds}) (hres:fn.resultTypes= #[t]) (ht:P.underlying t=some .bool) (hsame:Same W W') (hl:laidOutB P=true) (hr: ∀t∈fn.params.toList,P.readableRec t=true∧t<P.types.size):
 s.post enc P fn apart fresh handsOn again W args (.bool true) W':=by
 have hW':=hW
 obtain⟨p,q,hA,hV,rfl,hfz,hnd⟩:=hW
 rw[hvars] at hV
 obtain⟨rfl,rfl⟩:=trodVars_none hV
 refine post_kept (pa:=p) (pv:=[]) hW' (fun b sp hd=> ?_) (fun sp hsp=> ?_) (fun sp hsp=> ?_) rfl (hsame.kept _) hsame.froz ?_
 ·rw[hspec,hres]
  exact trodAll_mk1 (shut_bool ht true)
 ·rw[hspec]
  exact zfV hl hsame hr hA (fun x hx=>hW'.lt x (by simp[hx])) (fun x hx=>hsp x (by simp[hx]))
 ·rw[hspec,hvars];rfl
 ·exact ok_one hres rfl (okWide_bool_mk ht true)
end
end
end Go.Ideal
