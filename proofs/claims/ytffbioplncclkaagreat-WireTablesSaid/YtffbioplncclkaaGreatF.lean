/- A part of the proof: the ideal machine, and what the functions of the program answer over it. -/
import Derived.Test.YtffbioplncclkaaGreatE
set_option linter.unusedSimpArgs false
set_option linter.unusedVariables false
set_option linter.unusedSectionVars false
set_option maxRecDepth 10000
set_option maxHeartbeats 1000000
open Option renaming bind_some→qb
open List renaming take_succ_eq_append_getElem→qd,getElem_mem→qg,take_length→qh,length_cons→qi,not_mem_nil→qj,getElem?_eq_getElem→qk,mem_cons→ql,length→qm,length_append→qn,mem_singleton→qo,length_take→qq,length_drop→qr,getElem?_eq_none→qt,mem_append→qu,head?_eq_getElem?→qw,take_append_drop→qx,mem_cons_of_mem→qy,idxOf_le_length→qA,flatMap_append→qC,mem_cons_self→qD,foldl_cons→qI,take_zero→qK
open Nat renaming le_refl→qe,pow_le_pow_right→qB,le_trans→qE,lt_of_lt_of_le→qF,lt_succ_of_lt→qG,mod_eq_of_lt→qH
open Int renaming eq_ofNat_of_zero_le→qf
open UInt8 renaming ofNat→qp,toNat_inj→qJ
open Option.some renaming inj→qv
namespace Go.Ideal.S
open Go Go.Ideal Q Classical
attribute [local simp] decide_eq_true decide_eq_false zI
section
variable {B:Base} {M M':VM} {k kp:DV→VM→Prop} {n0 j:Nat}
theorem crc_len (l:List UInt8):(crc l).length=2:=rfl
attribute [local simp] c_bv f_bv r_bv_1 r_bv_2
theorem sealed_ok {d:DV} {l:List UInt8} (h:Lb M d 1 (l.map eB)) (hl:l.length≤1000000000) (hk: ∀M',M.next≤M'.next→(∀i,i<M.next→Off d i→M'.get i=M.get i)→k (St (sealB l)) M'):ze F (.fn n_bv [] []) [d] M k kp:=by
 refine .fn h_wire_sealed rfl (by simp[f_bv]) ?_;simp(disch:=((try simp only[nx3]);omega));refine sum_ok (BV.lb h) (by omega) ?_;simp(disch:=((try simp only[nx3]);omega));refine zeQ (h.new _) (new:=(crc l).map eB) (by simp[crc]) (by decide) (mapc c_B _) (mapl n_B _) (by simp[crc_len];omega) fun d' M' hL hG=> ?_;have hb:=zhr (l:=sealB l) (M:=M') (d:=d') (by rw[hL.elems (by decide)];simp[sealB]);simp(disch:=((try simp only[nx3]);omega)) [hb];exact hk M' hG.pre.nx hG.pre.kp
def tabB (t:List Sv):List UInt8:=zu (t.flatMap fun v=>[v.k.toNat,v.n.toNat])
theorem tabB_one (t:List Sv) (v:Sv):tabB (t++[v])=tabB t++numB v.k.toNat++numB v.n.toNat:=by
 unfold tabB;rw[qC,numsB_app];simp[zu]
def zeb (v:Sv):Prop:=(0≤v.k∧v.k<4000000000000000000)∧0≤v.n∧v.n<4000000000000000000
theorem zhz (t:List Sv) (h: ∀v∈t,zeb v):(tabB t).length≤20*t.length:=by
 have b1:=big1
 induction t with
 |nil=>simp[tabB,zu]
 |cons v t ih=>
  have h1:=ih fun x hx=>h x (qy _ hx);obtain⟨⟨a,b⟩,c,d⟩:=h v qD;have e:tabB (v::t)=numB v.k.toNat++numB v.n.toNat++tabB t:=by simp[tabB,zu]
  have h2:=zX v.k.toNat (by omega);have h3:=zX v.n.toNat (by omega);rw[e];simp;omega
attribute [local simp] c_bj f_bj r_bj_1 r_bj_2 r_bj_3 r_bj_4 r_bj_5 r_bj_6 r_bj_7 r_bj_9
theorem head_ok (first:UInt8) {t:List Sv} {dn:DV} (hd:Lb M dn 2 (t.map eSv)) (hs: ∀v∈t,zeb v) (ht:t.length≤10000000) (hk: ∀d' M',Lb M' d' 1 ((first::zu (zbK t)).map eB)→M.next≤M'.next→(∀i,i<M.next→M'.get i=M.get i)→(∀i,i<M.next→Off d' i)→k d' M'):ze F (.fn n_bj [] []) [zbY first,dn] M k kp:=by
 have b0:=zlu;have b1:=big1;have hn1:=zX t.length (by omega);have hlit:Lb (M.new (.rows false 1 [[zbY first]])) (.ms M.next 0 1 1) 1 ([first].map eB):=⟨by simp[eB],.inr ⟨M.next,false,1,by simp,rfl,by simp[eB],.inr ⟨rfl,rfl,by decide⟩⟩⟩;refine .fn h_wire_head rfl (by simp[f_bj]) ?_;simp(disch:=((try simp only[nx3]);omega)) [hd.len];refine zhN hlit (by omega) (by simp;omega) fun d1 M1 h1 g1=> ?_;have o1: ∀i,i<M.next→M1.get i=M.get i:=fun i hi=>by rw[g1.kp i (by simp;omega) (by show i≠M.next;omega),get_new,if_neg (by omega)]
 have f1: ∀i,i<M.next→Off d1 i:=fun i hi=>g1.of i (by simp;omega) (by show i≠M.next;omega);have n1:=g1.nx;simp at n1;simp(disch:=((try simp only[nx3]);omega)) [hd.len];refine .for (σ:=VM×DV) c_bj_8.eq_1 (fun i z=>[(5,z.2),(15,I i)]) (fun z=>z.1) (fun i z=>Lb z.1 z.2 1 (([first]++numB t.length++tabB (t.take i)).map eB)∧(∀i,i<M.next→z.1.get i=M.get i)∧(∀i,i<M.next→Off z.2 i)∧M.next≤z.1.next) t.length (M1,d1) (by simp) rfl ⟨by simpa[tabB,zu] using h1,o1,f1,by show M.next≤M1.next;omega⟩ (fun i z hi hP again=> ?_) (fun z hP=> ?_)
 ·obtain⟨y,d⟩:=z;obtain⟨p1,p2,p3,p4⟩:=hP;dsimp only at*;have hdy:Lb y dn 2 (t.map eSv):=hd.keepA p4 p2;have hv:=hs _ (qg hi);rw[qd hi] at again;have hat: ∃p,ziT 2 y (I (i:Int)) dn=some p∧ldN 2 (zcG y p)=some (.agg (eSv t[i])):=by
   rcases hdy.v with⟨e,_⟩| ⟨q,op,cap,h2,e,h4,_⟩
   ·have:=congrArg qm e;simp at this;subst this;simp at hi
   ·subst e;exact⟨.ptr q (0+i) 0,by simp[h4,hi],by simp[h4,hi]⟩
  obtain⟨p,hp1,hp2⟩:=hat;have htk: ∀v∈t.take i,zeb v:=fun v hv=>hs v (List.mem_of_mem_take hv);have hl1:=zhz (t.take i) htk;have hl2:(t.take i).length≤t.length:=by rw[qq];omega
  rw[tabB_one] at again;generalize t[i]=v at*;generalize tabB (t.take i)=tb at*;obtain⟨⟨a,b⟩,c,dd⟩:=hv;obtain⟨kn,hkn⟩:=qf a;obtain⟨nn,hnn⟩:=qf c;have h2:=zX kn (by omega);have h3:=zX nn (by omega);have ek:v.k.toNat=kn:=by omega
  have en:v.n.toNat=nn:=by omega
  rw[ek,en] at again;simp(disch:=((try simp only[nx3]);omega)) [hi,hp1,hp2,eSv,hkn,hnn];have k1: ∀q,q<y.next→(((y.new (.rows false 2 [[.int .i64 0,.int .i64 0]])).put y.next (.rows false 2 [[I kn,I nn]])).get q=y.get q):=fun q hq=>by rw[get_put,if_neg (by omega),get_new,if_neg (by omega)]
  have p1y:=p1.keepA (M2:=(y.new (.rows false 2 [[.int .i64 0,.int .i64 0]])).put y.next (.rows false 2 [[I kn,I nn]])) (by simp;omega) k1;have hlen:([first]++numB t.length++tb).length≤300000000:=by simp;omega
  refine zhN p1y (by omega) (by omega) fun d3 M3 h3' g3=> ?_;have n3:=g3.nx;simp at n3;have o3:M3.obj y.next=some (.rows false 2 [[I kn,I nn]]):=by rw[g3.obj (by simp;omega) (p1.offN (qe _))];simp
  have hlen3:([first]++numB t.length++tb++numB kn).length≤300000100:=by rw[qn];omega
  have hnn2:nn<2^62:=by omega
  simp(disch:=((try simp only[nx3]);omega)) [o3];refine⟨by rw[g3.kp y.next (by simp;omega) (p1.offN (qe _)),get_put,if_pos rfl];simp,?_⟩;refine zhN h3' (by omega) (by omega) fun d4 M4 h4 g4=> ?_;have n4:=g4.nx;have again:=again (M4,d4) ⟨by simpa using h4,fun q hq=>by
   rw[g4.kp q (by omega) (g3.of q (by simp;omega) (p3 q hq)),g3.kp q (by simp;omega) (p3 q hq),k1 q (by omega)];exact p2 q hq,fun q hq=>g4.of q (by omega) (g3.of q (by simp;omega) (p3 q hq)),by show M.next≤M4.next;omega⟩
  simp at again;simp(disch:=((try simp only[nx3]);omega));exact again
 ·obtain⟨y,d⟩:=z;obtain⟨p1,p2,p3,p4⟩:=hP;dsimp only at*;rw[List.take_length] at p1;simp(disch:=((try simp only[nx3]);omega));refine hk d y ?_ p4 p2 p3;have:first::zu (zbK t)=[first]++numB t.length++tabB t:=by unfold zbK tabB;rw[zdj];simp
  rw[this];exact p1
attribute [local simp] c_bo f_bo r_bo_1 r_bo_2
theorem send_ok {w:WS} (h:WrS B M j w) (first:UInt8) (hs: ∀v∈w.t,zeb v) (ht:w.t.length≤10000000) (hb:(zu w.b).length≤700000000) (hk: ∀M',M.next≤M'.next→(∀i,B.fr i→M'.get i=B.m.get i)→k (St (w.fin first)) M'):ze F (.fn n_bo [] []) [.ptr j 0 0,zbY first] M k kp:=by
 obtain⟨dn,jm,db,h⟩:=h;have o1:=h.oj;have b0:=zlu;have b1:=big1;have hn1:=zX w.t.length (by omega);have htl:=zhz w.t hs;have hhl:(first::zu (zbK w.t)).length≤20+20*w.t.length:=by
  have:first::zu (zbK w.t)=[first]++numB w.t.length++tabB w.t:=by unfold zbK tabB;rw[zdj];simp
  rw[this];simp;omega
 have a:=h.j2;refine .fn zhX rfl (by simp[f_bo]) ?_;simp(disch:=((try simp only[nx3]);omega)) [o1];refine head_ok first h.ln hs ht fun d1 M1 h1 n1 k1 f1=> ?_
 have o2:M1.obj j=some (.rows false 3 [[dn,.map jm,db]]):=by show(M1.get j).map _=_;rw[k1 j a];exact o1
 have hbody:=h.lb.keepA n1 k1;simp(disch:=((try simp only[nx3]);omega)) [o2];refine⟨.inl (k1 j a),h.lb.self,?_⟩;refine zg0 h1 (hbody.appended (by decide)) (by decide) (mapc c_B _) (mapl n_B _) (by simp at hhl⊢;omega) fun d2 M2 h2 g2=> ?_;have n2:=g2.nx;rw[←List.map_append] at h2;simp(disch:=((try simp only[nx3]);omega));refine sealed_ok h2 (by rw[qn];omega) fun M3 n3 k3=> ?_;simp(disch:=((try simp only[nx3]);omega));exact hk M3 (by omega) fun i hi=>by
  have hi2:=h.nx i hi;rw[k3 i (by omega) (g2.of i (by omega) (f1 i (by omega))),g2.kp i (by omega) (f1 i (by omega)),k1 i (by omega)];exact h.sm i hi
attribute [local simp] c_bx f_bx r_bx_1 r_bx_2 c_bp f_bp r_bp_1 r_bp_2 r_bp_3 r_bp_4 r_bp_5
theorem write_ok (hk: ∀j M',WrS (bas M) M' j ⟨[],[]⟩→k (.ptr j 0 0) M'):ze F (.fn n_bx [] []) [] M k kp:=by
 refine .fn h_wire_write rfl (by simp[f_bx]) ?_;simp(disch:=((try simp only[nx3]);omega));refine hk _ _ ⟨.nilS,M.next,.nilS,fun i hi=> ?_,fun i hi=> ?_,?_,?_,?_,?_,?_,?_,.nil _ _,.nil _ _,fun _ _=>⟨trivial,trivial⟩⟩
 ·have hi:i<M.next:=hi;rw[get_new,if_neg (by simp;omega),get_new,if_neg (by omega)]
 ·have hi:i<M.next:=hi;simp;omega
 ·simp
 ·simp
 ·simp
 ·simp;omega
 ·simp
 ·rw[zbl _ (by simp)];simp[entF]
def zec (t:List Sv):Prop:= ∀x∈t,zb7 x
theorem zb7.small {v:Sv} (h:zb7 v):zeb v:=by
 unfold zeb;rcases h with h|h|h<;>omega
theorem zec.ment {t:List Sv} (h:zec t) {v:Sv} (hv:zb7 v):zec (zcH t v):=by
 unfold zcH
 split
 ·exact h
 ·intro x hx;rcases List.mem_append.1 hx with hx|hx
  ·exact h x hx
  ·rw[qo.1 hx];exact hv
theorem val_names {w:WS} (h:zec w.t) {v:Sv} (hv:ValV v):zec (w.val v).t:=by
 unfold WS.val
 split
 ·rename_i hk;rw[num_t,ment_t];exact h.ment (hv.resolve_right fun q=>hk q.1)
 ·split<;>exact h
theorem vals_len: ∀(l:List Sv) (w:WS),(∀v∈l,ValV v)→zec w.t→w.t.length+l.length≤10000000→zec (l.foldl WS.val w).t∧(l.foldl WS.val w).t.length≤w.t.length+l.length∧(zu (l.foldl WS.val w).b).length≤(zu w.b).length+10*l.length
 | [],w,_,h,_=>⟨h,qe _,qe _⟩
 |v::l,w,hv,h,ht=>by
  have hv1:=hv v qD;simp only[qi] at ht⊢;have h1:=val_len hv1 (w:=w) (by omega);obtain⟨a,b,c⟩:=vals_len l (w.val v) (fun x hx=>hv x (qy _ hx)) (val_names h hv1) (by omega);exact⟨a,by show(l.foldl WS.val (w.val v)).t.length≤_;omega,by show(zu (l.foldl WS.val (w.val v)).b).length≤_;omega⟩
theorem zjV {w:WS} {l:List Sv} (hv: ∀v∈l,ValV v) (h:zec w.t) (ht:w.t.length+l.length≤10000000):zec (w.vals l).t∧(w.vals l).t.length≤w.t.length+l.length∧(zu (w.vals l).b).length≤(zu w.b).length+10+10*l.length:=by
 have b1:=big1;have hn:=zX l.length (by omega);obtain⟨a,b,c⟩:=vals_len l (w.num l.length) hv h ht;rw[num_b,qn] at c;exact⟨a,b,by unfold WS.vals;omega⟩
theorem ref_len {w:WS} {v:Sv} (hv:zb7 v) (h:zec w.t) (ht:w.t.length≤10000000):zec (w.ref v).t∧(w.ref v).t.length≤w.t.length+1∧(zu (w.ref v).b).length≤(zu w.b).length+10:=by
 have b1:=big1;have hi:w.t.idxOf v≤w.t.length:=qA;have hn:=zX (w.t.idxOf v) (by omega);rw[ref_t,ref_b,qn];exact⟨h.ment hv,zku _ _,by omega⟩
def eLt (l:Lt):List DV:=[I l.ch,.lst 2 (l.vs.map eSv)]
@[simp] theorem t_Lt (v:Lt):zcD 2 (eLt v)=some (eLt v):=by simp[eLt]
@[simp] theorem n_Lt (v:Lt):(eLt v).length=2:=by simp[eLt]
@[simp] theorem all_Lt (v:Lt):(∀x,x∈eLt v→zj x=true)=True:=eq_true (by simp[eLt,zj])
theorem b_Lt {n:Nat} (v:Lt): ∀d∈eLt v,zJ n d:=by
 intro d hd;simp only[eLt,ql,qj,or_false] at hd;rcases hd with rfl|rfl
 ·simp
 ·exact .lst (mapb b_Sv _)
theorem letter_ok {l:Lt} (hp:zej l) (hk:k (St (encLt l)) M):ze F (.fn n_bp [] []) [.agg (eLt l)] M k kp:=by
 obtain⟨hc,hl,hv⟩:=hp;have hch:zb7 (chn l.ch):=.inr (.inl ⟨rfl,hc⟩);have h0:zec (⟨[],[]⟩:WS).t:=fun x hx=>by cases hx
 obtain⟨r1,r2,r3⟩:=ref_len (w:=⟨[],[]⟩) hch h0 (by decide);have r2:((⟨[],[]⟩:WS).ref (chn l.ch)).t.length≤1:=r2;have r3:(zu ((⟨[],[]⟩:WS).ref (chn l.ch)).b).length≤10:=r3;obtain⟨s1,s2,s3⟩:=zjV hv r1 (by omega);apply ze.back;refine .fn h_wire_letter rfl (by simp[f_bp]) ?_;simp(disch:=((try simp only[nx3]);omega));refine write_ok fun j M1 h1=> ?_;have sm1:M1.obj M.next=some (.rows false 2 [eLt l]):=by rw[h1.obj (by simp)];simp
 simp(disch:=((try simp only[nx3]);omega)) [sm1,eLt];refine schan_ok h1 l.ch (by decide) (by decide) fun M2 h2=> ?_;have sm2:M2.obj M.next=some (.rows false 2 [eLt l]):=by rw[h2.obj (by simp)];simp
 simp(disch:=((try simp only[nx3]);omega)) [sm2,eLt];refine svals_ok h2 l.vs hv (by omega) (by omega) fun M3 h3=> ?_;simp(disch:=((try simp only[nx3]);omega));refine send_ok h3 77 (fun v hv=>(s1 v hv).small) (by omega) (by omega) fun M4 n4 k4=> ?_;simp(disch:=((try simp only[nx3]);omega));exact Back.plain (by simp) (fun i hi=>by rw[k4 i (by simp;omega),get_new,if_neg (by omega)]) hk
end
section
variable {M M' B:VM} {k kp:DV→VM→Prop} {n0 j:Nat}
attribute [local simp] c_bq f_bq r_bq_1 r_bq_2 c_bm f_bm r_bm_1 r_bm_2 r_bm_3 r_bm_4 r_bm_5 r_bm_6 r_bm_7 c_by f_by r_by_1 r_by_2
theorem zfs (n m:Int) (hk:k (.bool (decide (0≤n∧n<m))) M):ze F (.fn n_bq [] []) [I n,I m] M k kp:=by
 apply ze.back;refine .fn h_wire_below rfl (by simp[f_bq]) ?_;by_cases h1:0≤n
 ·by_cases h2:n<m
  ·rw[decide_eq_true ⟨h1,h2⟩] at hk;simp(disch:=((try simp only[nx3]);omega)) [h1,h2];exact bpl hk
  ·rw[decide_eq_false (fun h=>h2 h.2)] at hk;simp(disch:=((try simp only[nx3]);omega)) [h1,h2];exact bpl hk
 ·rw[decide_eq_false (fun h=>h1 h.1)] at hk;simp(disch:=((try simp only[nx3]);omega)) [h1];exact bpl hk
theorem name_ok (v:Sv) (hk:k (.bool (decide (zb7 v))) M):ze F (.fn n_bm [] []) [.agg (eSv v)] M k kp:=by
 apply ze.back;refine .fn h_wire_name rfl (by simp[f_bm]) ?_;by_cases h2:v.k=2
 ·simp(disch:=((try simp only[nx3]);omega)) [eSv,h2];refine zfs _ _ ?_;rw[decide_eq_decide.2 (show(0≤v.n∧v.n<12)↔zb7 v by unfold zb7;omega)];simp(disch:=((try simp only[nx3]);omega));exact bpl hk
 ·by_cases h3:v.k=3
  ·simp(disch:=((try simp only[nx3]);omega)) [eSv,h3];refine zfs _ _ ?_;rw[decide_eq_decide.2 (show(0≤v.n∧v.n<60)↔zb7 v by unfold zb7;omega)];simp(disch:=((try simp only[nx3]);omega));exact bpl hk
  ·by_cases h4:v.k=4
   ·simp(disch:=((try simp only[nx3]);omega)) [eSv,h4];refine zfs _ _ ?_;rw[decide_eq_decide.2 (show(0≤v.n∧v.n<24)↔zb7 v by unfold zb7;omega)];simp(disch:=((try simp only[nx3]);omega));exact bpl hk
   ·rw[decide_eq_false (by unfold zb7;omega)] at hk;simp(disch:=((try simp only[nx3]);omega)) [eSv,h2,h3,h4];exact bpl hk
theorem value_ok (v:Sv) (hk:k (.bool (decide (ValV v))) M):ze F (.fn n_by [] []) [.agg (eSv v)] M k kp:=by
 apply ze.back;refine .fn h_wire_value rfl (by simp[f_by]) ?_;simp(disch:=((try simp only[nx3]);omega));refine name_ok v ?_;by_cases h1:zb7 v
 ·rw[decide_eq_true h1];rw[decide_eq_true (show ValV v from .inl h1)] at hk;simp(disch:=((try simp only[nx3]);omega));exact bpl hk
 ·rw[decide_eq_false h1];by_cases h2:v.k=1
  ·by_cases h3: -1000000000≤v.n
   ·by_cases h4:v.n≤1000000000
    ·rw[decide_eq_true (show ValV v from .inr ⟨h2,h3,h4⟩)] at hk;simp(disch:=((try simp only[nx3]);omega)) [eSv,h2,h3,h4];exact bpl hk
    ·rw[decide_eq_false (show¬ValV v from fun h=>h4 (h.resolve_left h1).2.2)] at hk;simp(disch:=((try simp only[nx3]);omega)) [eSv,h2,h3,h4];exact bpl hk
   ·rw[decide_eq_false (show¬ValV v from fun h=>h3 (h.resolve_left h1).2.1)] at hk;simp(disch:=((try simp only[nx3]);omega)) [eSv,h2,h3];exact bpl hk
  ·rw[decide_eq_false (show¬ValV v from fun h=>h2 (h.resolve_left h1).1)] at hk;simp(disch:=((try simp only[nx3]);omega)) [eSv,h2];exact bpl hk
attribute [local simp] c_j f_j r_j_1 r_j_2 r_j_3 r_j_4 r_j_5 r_j_6 r_j_7 r_j_9 c_M f_M r_M_1 r_M_2 c_be f_be r_be_1 r_be_2 c_bC f_bC r_bC_1 r_bC_2
theorem indexV_ok {f:DV} {l:List Sv} (p:Sv→Bool) (hl:l.length<4000000000000000000) (hf: ∀v∈l,∀{k:DV→VM→Prop},k (.bool (p v)) M→ze F f [.agg (eSv v)] M k kp) (hk: ∀r:Int,decide (0≤r)=l.any p→k (I r) M):ze F (.fn n_j [] []) [.lst 2 (l.map eSv),f] M k kp:=by
 refine .fn zbW rfl (by simp[f_j]) ?_;simp(disch:=((try simp only[nx3]);omega));refine .for (σ:=Unit) c_j_8.eq_1 (fun i _=>[(8,I i)]) (fun _=>M) (fun i _=>(l.take i).any p=false) l.length () (by simp) rfl rfl (fun i _ hi hP again=> ?_) (fun _ hP=> ?_)
 ·rw[List.take_succ_eq_append_getElem hi,List.any_append] at again;have hf:= @hf l[i] (List.getElem_mem hi);have hin:=List.getElem_mem hi;generalize hx:l[i]=v at*;simp(disch:=((try simp only[nx3]);omega)) [hi,hx];refine hf ?_;cases hp:p v with
  |true=>
   have hk:=hk i (by rw[decide_eq_true (by omega)];exact(List.any_eq_true.2 ⟨v,hin,hp⟩).symm);clear again;simp(disch:=((try simp only[nx3]);omega));exact hk
  |false=>
   have again:=again () (by rw[hP];simp[hp]);simp at again;simp(disch:=((try simp only[nx3]);omega));exact again
 ·rw[qh] at hP;have hk:=hk (-1) (by rw[hP];decide);simp(disch:=((try simp only[nx3]);omega));exact hk
theorem containsV_ok {f:DV} {l:List Sv} (p:Sv→Bool) (hl:l.length<4000000000000000000) (hf: ∀v∈l,∀{k:DV→VM→Prop},k (.bool (p v)) M→ze F f [.agg (eSv v)] M k kp) (hk:k (.bool (l.any p)) M):ze F (.fn n_M [] []) [.lst 2 (l.map eSv),f] M k kp:=by
 refine .fn zbF rfl (by simp[f_M]) ?_;simp(disch:=((try simp only[nx3]);omega));refine indexV_ok p hl hf fun r hr=> ?_;simp(disch:=((try simp only[nx3]);omega)) [hr];exact hk
theorem allV_ok {g:Nat} {l:List Sv} (q:Sv→Bool) (hl:l.length<4000000000000000000) (hf: ∀v∈l,∀{M:VM} {k:DV→VM→Prop},k (.bool (q v)) M→ze F (.fn g [] []) [.agg (eSv v)] M k kp) (hk:k (.bool (l.all q)) M):ze F (.fn n_be [] []) [.lst 2 (l.map eSv),.fn g [] []] M k kp:=by
 apply ze.back;refine .fn zfD rfl (by simp[f_be]) ?_;simp(disch:=((try simp only[nx3]);omega));refine containsV_ok (fun v=> !q v) hl (fun v hv {k} hk=> ?_) ?_
 ·apply ze.back;refine .fn zfe rfl (by simp[f_bC]) ?_;simp(disch:=((try simp only[nx3]);omega));refine hf v hv ?_;simp(disch:=((try simp only[nx3]);omega));exact bpl hk
 ·have e:(!(l.any fun v=> !q v))=l.all q:=by rw[List.not_any_eq_all_not];simp
  generalize (l.any fun v=> !q v)=b at*;simp(disch:=((try simp only[nx3]);omega));rw[e];exact bpl hk
def MsgV (m:List Sv):Prop:=m.length≤3∧ ∀v∈m,ValV v
attribute [local simp] c_bt f_bt r_bt_1 r_bt_2 c_bw f_bw r_bw_1 r_bw_2
theorem zlS (m:List Sv) (hl:m.length<4000000000000000000) (hk:k (.bool (decide (MsgV m))) M):ze F (.fn n_bt [] []) [.agg [.lst 2 (m.map eSv)]] M k kp:=by
 apply ze.back;refine .fn zln rfl (by simp[f_bt]) ?_;by_cases h1:m.length≤3
 ·have h1i:(m.length:Int)≤3:=by omega
  simp(disch:=((try simp only[nx3]);omega)) [h1i];refine allV_ok (fun v=>decide (ValV v)) hl (fun v hv {M k} hk=>value_ok v hk) ?_;have e:m.all (fun v=>decide (ValV v))=decide (MsgV m):=by
   rw[Bool.eq_iff_iff,List.all_eq_true,decide_eq_true_iff];exact⟨fun h=>⟨h1,fun v hv=>of_decide_eq_true (h v hv)⟩,fun h v hv=>decide_eq_true (h.2 v hv)⟩
  rw[e];simp(disch:=((try simp only[nx3]);omega));exact bpl hk
 ·have h1i: ¬(m.length:Int)≤3:=by omega
  rw[decide_eq_false (fun h=>h1 h.1)] at hk;simp(disch:=((try simp only[nx3]);omega)) [h1i];exact bpl hk
theorem proper_ok (l:Lt) (hl:l.vs.length<4000000000000000000) (hk:k (.bool (decide (zej l))) M):ze F (.fn n_bw [] []) [.agg (eLt l)] M k kp:=by
 apply ze.back;refine .fn h_wire_proper rfl (by simp[f_bw]) ?_;simp(disch:=((try simp only[nx3]);omega)) [eLt];refine zfs _ _ ?_;by_cases h1:0≤l.ch∧l.ch<60
 ·rw[decide_eq_true h1];simp(disch:=((try simp only[nx3]);omega)) [eLt];refine zlS l.vs hl ?_;rw[decide_eq_decide.2 (show MsgV l.vs↔zej l from⟨fun h=>⟨h1,h⟩,fun h=>h.2⟩)];simp(disch:=((try simp only[nx3]);omega));exact bpl hk
 ·rw[decide_eq_false h1];rw[decide_eq_false (fun h=>h1 h.1)] at hk;simp(disch:=((try simp only[nx3]);omega));exact bpl hk
end
section
variable {M M' B:VM} {k kp:DV→VM→Prop} {n0 j:Nat}
def eN (n:Nat):List DV:=[I (n:Int)]
@[simp] theorem n_N (v:Nat):(eN v).length=1:=by simp[eN]
attribute [local simp] c_V f_V r_V_1 r_V_2 r_V_3 r_V_4 r_V_5 r_V_7
theorem rnumber_ok (n:Nat) (hn:n<2^62) (hk:k (St (numB n)) M):ze F (.fn n_V [] []) [I n] M k kp:=by
 have b0:=zlu;have b1:=big1;have hnl:=zX n (by omega);apply ze.back;refine .fn zfG rfl (by simp[f_V]) ?_;simp(disch:=((try simp only[nx3]);omega));refine .while (σ:=VM×List UInt8×Nat) c_V_6.eq_1 (fun z=>[(3,St z.2.1),(0,I z.2.2)]) (fun z=>z.1) (fun z=>SM M.next M z.1∧M.next≤z.1.next∧z.2.1++numB z.2.2=numB n∧z.2.2≤n) (fun z=>z.2.2) (M,[],n) (by simp) rfl ⟨(by repeat' (first|assumption|exact zx _ _|apply zl|apply zy|apply z6| ((try simp only[nx3]);omega))),qe _,rfl,qe _⟩ (fun z hP again=> ?_);obtain⟨y,m,q⟩:=z;obtain⟨p1,p2,p3,p4⟩:=hP;dsimp only at*;have hlen:=congrArg qm p3;simp only[qn] at hlen;by_cases hq:128≤q
 ·have e1:numB q=UInt8.ofNat (q%128+128)::numB (q / 128):=by rw[numB,if_neg (by omega)]
  have c1: ∀ek,binD .rem ek (I q) (I 128)=some (I ((q%128:Nat):Int)):=fun ek=>zfp (ek:=ek) .i64 q 128 (by decide);have c2: ∀ek,binD .quo ek (I q) (I 128)=some (I ((q / 128:Nat):Int)):=fun ek=>zfq (ek:=ek) q 128 (by decide) (by omega);have c3:ziP .u8 (I (128+((q%128:Nat):Int)))=some (zbY (qp (q%128+128))):=by
   rw[show 128+((q%128:Nat):Int)=((q%128+128:Nat):Int) by omega];exact zc0 _ _
  have hr:q%128<128:=Nat.mod_lt _ (by decide);have ht:q / 128<q:=by omega
  have hqi:(128:Int)≤q:=by omega
  rw[e1] at hlen p3;simp only[qi] at hlen;have hp:=numB_pos (q / 128);generalize qp (q%128+128)=b at*;generalize q%128=r at*;generalize q / 128=t at*;have c4: ∀ek,binD .add ek (St m) (St [b])=some (St (m++[b])):=fun ek=>zd9 (ek:=ek) m [b] (by simp;omega);have c5: ∀y:VM,b2sD (y.new (.rows false 1 [[zbY b]])) (.ms y.next 0 1 1)=some (St [b]):=fun y=>zhr (by simp[eB]);have again:=again (y.new (.rows false 1 [[zbY b]]),m++[b],t) (by dsimp only;omega) ⟨(by repeat' (first|assumption|exact zx _ _|apply zl|apply zy|apply z6| ((try simp only[nx3]);omega))),by simp;omega,by rw[←p3];simp,by dsimp only;omega⟩;simp at again;simp(disch:=((try simp only[nx3]);omega)) [hqi,c1,c2,c3,c4,c5];exact again
 ·have e1:numB q=[UInt8.ofNat q]:=by rw[numB,if_pos (by omega)]
  have hqi: ¬(128:Int)≤q:=by omega
  have c3:=zc0 .i64 q;rw[e1] at hlen p3;generalize qp q=b at*;have c4: ∀ek,binD .add ek (St m) (St [b])=some (St (m++[b])):=fun ek=>zd9 (ek:=ek) m [b] (by simp;omega);have c5: ∀y:VM,b2sD (y.new (.rows false 1 [[zbY b]])) (.ms y.next 0 1 1)=some (St [b]):=fun y=>zhr (by simp[eB]);rw[←p3] at hk;simp(disch:=((try simp only[nx3]);omega)) [hqi,c3,c4,c5];exact bpl hk
attribute [local simp] c_K f_K r_K_1 r_K_2 r_K_3 r_K_4 r_K_5 r_K_6 r_K_8
theorem numsB_take (l:List Nat) (i:Nat) (hi:i<l.length):zu (l.take (i+1))=zu (l.take i)++numB l[i]:=by
 rw[qd hi,zko]
theorem numsB_le (l:List Nat) (i:Nat):(zu (l.take i)).length≤(zu l).length:=by
 conv=>rhs;rw[←qx i l,numsB_app]
 simp
theorem zg6 {d:DV} {l:List Nat} (h:Lb M d 1 (l.map eN)) (hs: ∀n∈l,n<2^62) (hl:(zu l).length≤900000000) (hll:l.length≤900000000) (hk:k (St (zu l)) M):ze F (.fn n_K [] []) [d] M k kp:=by
 have b0:=zlu;have b1:=big1;apply ze.back;refine .fn zfi rfl (by simp[f_K]) ?_;simp(disch:=((try simp only[nx3]);omega));refine .for (σ:=VM×DV) c_K_7.eq_1 (fun i z=>[(3,z.2),(4,I i)]) (fun z=>z.1) (fun i z=>SM M.next M z.1∧M.next≤z.1.next∧Lb z.1 z.2 1 ((zu (l.take i)).map eB)∧ ∀i,i<M.next→Off z.2 i) l.length (M,.nilS) (by simp) rfl ⟨(by repeat' (first|assumption|exact zx _ _|apply zl|apply zy|apply z6| ((try simp only[nx3]);omega))),qe _,.nil _ _,fun _ _=>trivial⟩ (fun i z hi hP again=> ?_) (fun z hP=> ?_)
 ·obtain⟨y,o⟩:=z;obtain⟨p1,p2,p3,p4⟩:=hP;dsimp only at*;have hd:Lb y d 1 (l.map eN):=h.keepA p2 fun i hi=>p1 i hi;have hin:=hs _ (qg hi);have hle:=numsB_le l i;rw[numsB_take l i hi] at again;have hat: ∃p,ziT 1 y (I (i:Int)) d=some p∧ld1 (zcG y p)=some (I (l[i]:Int)):=by
   rcases hd.v with⟨e,_⟩| ⟨q,op,cap,h2,e,h4,_⟩
   ·have:=congrArg qm e;simp at this;subst this;simp at hi
   ·subst e;exact⟨.ptr q (0+i) 0,by simp[h4,hi],by simp[h4,hi,eN]⟩
  obtain⟨p,hp1,hp2⟩:=hat;generalize l[i]=n at*;have hnl:=zX n (by omega);simp(disch:=((try simp only[nx3]);omega)) [hi,hd.len,hp1,hp2];refine rnumber_ok n hin ?_;simp(disch:=((try simp only[nx3]);omega));refine zeQ p3 (new:=(numB n).map eB) (by simp[zbs,zkY,eB]) (by decide) (mapc c_B _) (mapl n_B _) (by simp;omega) fun d' M' hL hG=> ?_;have hnx:=hG.nx;have again:=again (M',d') ⟨fun q hq=>by rw[hG.kp q (by omega) (p4 q hq)];exact p1 q hq,by dsimp only;omega,by simpa using hL,fun q hq=>hG.of q (by omega) (p4 q hq)⟩;simp at again;simp(disch:=((try simp only[nx3]);omega));exact again
 ·obtain⟨y,o⟩:=z;obtain⟨p1,p2,p3,p4⟩:=hP;dsimp only at*;have hd:Lb y d 1 (l.map eN):=h.keepA p2 fun i hi=>p1 i hi;rw[qh] at p3;have hb:=zhr (p3.elems (by decide));simp(disch:=((try simp only[nx3]);omega)) [hd.len,hb];exact Back.plain (by simp) p1 hk
def wgt (q:Nat):Nat:=if q<8 then 2^(7 - q) else 0
theorem wgt_half {q:Nat} (h:q<8):wgt q / 2=wgt (q+1):=by
 have:q=0∨q=1∨q=2∨q=3∨q=4∨q=5∨q=6∨q=7:=by omega
 rcases this with h|h|h|h|h|h|h|h<;>subst h<;>rfl
theorem wgt_lt {q:Nat} (h:q<8):wgt q=2^(7 - q)∧0<wgt q∧wgt q≤128:=by
 have:q=0∨q=1∨q=2∨q=3∨q=4∨q=5∨q=6∨q=7:=by omega
 rcases this with h|h|h|h|h|h|h|h<;>subst h<;>decide
attribute [local simp] c_p f_p r_p_1 r_p_2 r_p_3 r_p_4 r_p_5 r_p_6 r_p_7 r_p_8 r_p_9 r_p_10 r_p_11 r_p_12 r_p_13 r_p_15 r_p_17
theorem rsum_ok (l:List UInt8) (hl:l.length≤1000000000) (hk:k (St (crc l)) M):ze F (.fn n_p [] []) [St l] M k kp:=by
 apply ze.back;refine .fn zhe rfl (by simp[f_p]) ?_;simp(disch:=((try simp only[nx3]);omega));refine .for (σ:=Nat) c_p_16.eq_1 (fun i r=>[(3,I (r:Int)),(4,I i)]) (fun _=>M) (fun i r=>r=crcN (l.take i)) l.length 65535 (by simp) rfl rfl (fun i r hi hP again=> ?_) (fun r hP=> ?_)
 ·have hr:r<65536:=by rw[hP];exact crcN_lt _
  have again:=again (crcY l[i].toNat 8 r) (by rw[qd hi,crcN_app,hP]);have hx:l[i].toNat<256:=l[i].toNat_lt;have hb:ziP .i64 (zbY l[i])=some (I (l[i].toNat:Int)):=conv_i64 _ _ (by omega);generalize hbt:l[i]=bt at*;generalize bt.toNat=x at*;simp at again;simp(disch:=((try simp only[nx3]);omega)) [hi];refine .for (σ:=Nat) c_p_14.eq_1 (fun q r=>[(3,I (r:Int)),(5,I (wgt q:Int)),(6,I q)]) (fun _=>M) (fun q s=>s<65536∧crcY x (8 - q) s=crcY x 8 r) 8 r (by simp[wgt]) rfl ⟨hr,rfl⟩ (fun q s hq hP2 again2=> ?_) (fun s hP2=> ?_)
  ·obtain⟨q1,q2⟩:=hP2;obtain⟨w1,w2,w3⟩:=wgt_lt hq;have w4:=wgt_half hq;have s1: ∀ek,binD .quo ek (I s) (I 32768)=some (I ((s / 32768:Nat):Int)):=fun ek=>zfq s 32768 (by decide) (by omega);have s2: ∀ek,binD .rem ek (I (s*2)) (I 65536)=some (I ((s*2%65536:Nat):Int)):=fun ek=>zfp .i64 (s*2) 65536 (by decide);have s3: ∀ek,binD .quo ek (I x) (I (wgt q))=some (I ((x / wgt q:Nat):Int)):=fun ek=>zfq x (wgt q) (by omega) (by omega);have s4: ∀ek,binD .rem ek (I ((x / wgt q:Nat):Int)) (I 2)=some (I ((x / wgt q%2:Nat):Int)):=fun ek=>zfp .i64 _ 2 (by decide);have s5: ∀ek,binD .quo ek (I (wgt q)) (I 2)=some (I ((wgt (q+1):Nat):Int)):=fun ek=>by
    rw[←w4];exact zfq (wgt q) 2 (by decide) (by omega)
   have hf:(s*2%65536) ^^^ 4129<65536:=Nat.xor_lt_two_pow (n:=16) (Nat.mod_lt _ (by omega)) (by omega);have s6: ∀ek,binD .xor ek (I ((s*2%65536:Nat):Int)) (I 4129)=some (I (((s*2%65536) ^^^ 4129:Nat):Int)):=fun ek=>by
    have:=bin_xorN (ek:=ek) .i64 (s*2%65536) 4129 (by show _<2^64;omega) (by show 4129<2^64;omega);rw[wrap_i64 (by omega) (by omega)] at this;exact this
   have e8:8 - q=(7 - q)+1:=by omega
   rw[e8,crcY] at q2;have hcl:=crcB_lt s (decide (s / 32768≠x / 2^(7 - q)%2));have again2:=again2 (crcB s (decide (s / 32768≠x / 2^(7 - q)%2))) ⟨hcl,by rw[show 8 - (q+1)=7 - q by omega];exact q2⟩;rw[←w1] at again2;have hqi:(q:Int)<8:=by omega
   by_cases hac:s / 32768=x / wgt q%2
   ·have e1:crcB s (decide (s / 32768≠x / wgt q%2))=s*2%65536:=by unfold crcB;rw[if_neg (by simp[hac])]
    rw[e1] at again2;have hac2:((s / 32768:Nat):Int)=((x / wgt q%2:Nat):Int):=by rw[hac]
    generalize s / 32768=a at*;generalize s*2%65536=e at*;generalize x / wgt q=b at*;generalize b%2=c at*;generalize wgt (q+1)=w5 at*;generalize wgt q=w6 at*;simp at again2;simp(disch:=((try simp only[nx3]);omega)) [hqi,hbt,hb,hi,s1,s2,s3,s4,s5,hac2];exact again2
   ·have e1:crcB s (decide (s / 32768≠x / wgt q%2))=(s*2%65536) ^^^ 4129:=by unfold crcB;rw[if_pos (by simp[hac])]
    rw[e1] at again2;have hac2: ¬((s / 32768:Nat):Int)=((x / wgt q%2:Nat):Int):=fun h=>hac (by omega);generalize s*2%65536 ^^^ 4129=f at*;generalize s / 32768=a at*;generalize s*2%65536=e at*;generalize x / wgt q=b at*;generalize b%2=c at*;generalize wgt (q+1)=w5 at*;generalize wgt q=w6 at*;simp at again2;simp(disch:=((try simp only[nx3]);omega)) [hqi,hbt,hb,hi,s1,s2,s3,s4,s5,s6,hac2];exact again2
  ·obtain⟨q1,q2⟩:=hP2;have q2:s=crcY x 8 r:=q2;subst q2;simp(disch:=((try simp only[nx3]);omega));exact again
 ·rw[List.take_length] at hP;have hr:r<65536:=by rw[hP];exact crcN_lt _
  have s1: ∀ek,binD .quo ek (I r) (I 256)=some (I ((r / 256:Nat):Int)):=fun ek=>zfq r 256 (by decide) (by omega);have s2: ∀ek,binD .rem ek (I r) (I 256)=some (I ((r%256:Nat):Int)):=fun ek=>zfp .i64 r 256 (by decide);have s3:=zc0 .i64 (r / 256);have s4:=zc0 .i64 (r%256);have e2:crc l=[qp (r / 256),qp (r%256)]:=by unfold crc;rw[←hP]
  rw[e2] at hk;generalize qp (r / 256)=b1 at*;generalize qp (r%256)=b2 at*;generalize r / 256=a1 at*;generalize r%256=a2 at*;have c5: ∀y:VM,b2sD (y.new (.rows false 1 [[zbY b1],[zbY b2]])) (.ms y.next 0 2 2)=some (St [b1,b2]):=fun y=>zhr (by simp[eB]);simp(disch:=((try simp only[nx3]);omega)) [s1,s2,s3,s4,c5];exact bpl hk
end
section
variable {M M':VM} {B:Base} {k kp:DV→VM→Prop} {n0 j:Nat}
structure RrE (B:Base) (M:VM) (j:Nat) (w:WS) (dt db:DV):Prop where
 sm: ∀i,B.fr i→M.get i=B.m.get i
 nx: ∀i,B.fr i→i<M.next
 j1: ¬B.fr j
 j2:j<M.next
 oj:M.obj j=some (.rows false 2 [[dt,db]])
 ln:Lb M dt 2 (w.t.map eSv)
 lb:Lb M db 1 (w.b.map eN)
 fn: ∀i,B.fr i→Off dt i∧Off db i
 sb: ∀n∈w.b,n<2^62
def RrS (B:Base) (M:VM) (j:Nat) (w:WS):Prop:= ∃dt db,RrE B M j w dt db
section
variable {w:WS} {dt db:DV}
theorem RrE.nj (h:RrE B M j w dt db):Off dt j:=by
 rcases h.ln.v with⟨_,e⟩| ⟨q,op,cap,h2,e,h4,h5⟩
 ·rw[e];trivial
 ·rw[e];intro e3;subst e3;rw[h.oj] at h4;injection h4 with h4;injection h4 with h6 h7 h8;rcases h5 with⟨rfl,_⟩| ⟨_,_,_⟩
  ·cases h6
  ·have hb:=h.lb;have:=congrArg (fun l:List (List DV)=>l.map List.head?) h8
   match hw:w.t,h8 with
   | [],h8=>simp at h8
   | [v],h8=>
     simp[eSv] at h8;have:=h.ln.cell;obtain⟨h8,_⟩:=h8;rw[e] at h8;cases h8
   |_::_::_,h8=>simp at h8
theorem RrE.bj (h:RrE B M j w dt db):Off db j:=h.lb.off h.oj (fun op e=>by cases e)
theorem RrE.nb (h:RrE B M j w dt db) {i:Nat} (hi:i<M.next) (hn: ¬Off dt i):Off db i:=by
 rcases h.lb.v with⟨_,e2⟩| ⟨q,op,cap,q1,e2,q2,_⟩
 ·rw[e2];trivial
 ·rw[e2];intro e3;subst e3;exact hn (h.ln.off q2 fun op e=>by injection e with _ e4;cases e4)
theorem RrE.bn (h:RrE B M j w dt db) {i:Nat} (hi:i<M.next) (hn: ¬Off db i):Off dt i:=by
 rcases h.ln.v with⟨_,e2⟩| ⟨q,op,cap,q1,e2,q2,_⟩
 ·rw[e2];trivial
 ·rw[e2];intro e3;subst e3;exact hn (h.lb.off q2 fun op e=>by injection e with _ e4;cases e4)
theorem RrE.keep (h:RrE B M j w dt db) (hn:M.next≤M'.next) (hk: ∀i,i<M.next→M'.get i=M.get i):RrE B M' j w dt db:=by
 have a:=h.j2;refine⟨fun i hi=>(hk i (h.nx i hi)).trans (h.sm i hi),fun i hi=>by have:=h.nx i hi;omega,h.j1,by omega,?_,h.ln.keepA hn hk,h.lb.keepA hn hk,h.fn,h.sb⟩;rw[←h.oj];show(M'.get j).map _=(M.get j).map _;rw[hk j a]
theorem RrS.keep (h:RrS B M j w) (hn:M.next≤M'.next) (hk: ∀i,i<M.next→M'.get i=M.get i):RrS B M' j w:=by
 obtain⟨dn,db,h⟩:=h;exact⟨dn,db,h.keep hn hk⟩
theorem RrE.body (h:RrE B M j w dt db) {db':DV} {n:Nat} (hs:n<2^62) (hL:Lb M' db' 1 ((w.num n).b.map eN)) (hG:Gro M db M' db'):RrE B (M'.put j (.rows false 2 [[dt,db']])) j (w.num n) dt db':=by
 have hnx:=hG.nx;have c:=h.j2;refine⟨fun i hi=>by have hne:i≠j:=(fun e=>h.j1 (by rw[←e];exact hi));rw[get_put,if_neg hne];exact(hG.kp i (h.nx i hi) (h.fn i hi).2).trans (h.sm i hi),fun i hi=>by have:=h.nx i hi;simp;omega,h.j1,by simp;omega,by simp,?_,hL.put (hG.of j c h.bj) _,fun i hi=>⟨(h.fn i hi).1,hG.of i (h.nx i hi) (h.fn i hi).2⟩,fun m hm=> ?_⟩
 ·exact(h.ln.keep (M2:=M') hnx fun i hi hn=>hG.kp i hi (h.nb hi hn)).put h.nj _
 ·rcases List.mem_append.1 hm with hm|hm
  ·exact h.sb m hm
  ·rw[qo.1 hm];exact hs
theorem RrE.table (h:RrE B M j w dt db) {dt':DV} {v:Sv} (hv:v∉w.t) (hL:Lb M' dt' 2 ((w.t++[v]).map eSv)) (hG:Gro M dt M' dt'):RrE B (M'.put j (.rows false 2 [[dt',db]])) j (w.ment v) dt' db:=by
 have hnx:=hG.nx;have c:=h.j2;have e:w.ment v=⟨w.t++[v],w.b⟩:=if_neg hv;rw[e];refine⟨fun i hi=>by have hne:i≠j:=(fun e=>h.j1 (by rw[←e];exact hi));rw[get_put,if_neg hne];exact(hG.kp i (h.nx i hi) (h.fn i hi).1).trans (h.sm i hi),fun i hi=>by have:=h.nx i hi;simp;omega,h.j1,by simp;omega,by simp,hL.put (hG.of j c h.nj) _,?_,fun i hi=>⟨hG.of i (h.nx i hi) (h.fn i hi).1,(h.fn i hi).2⟩,h.sb⟩;exact(h.lb.keep (M2:=M') hnx fun i hi hn=>hG.kp i hi (h.bn hi hn)).put h.bj _
end
theorem zcT (v w:Sv):binD .eql (.leaves [0,1]) (.agg (eSv v)) (.agg (eSv w))=some (.bool (decide (v=w))):=by
 have h:=zcF v w;show(zfT (eSv v) (eSv w) [0,1]).map DV.bool=_;rw[show zfT (eSv v) (eSv w) [0,1]=some (decide (v=w)) from h];rfl
theorem leaves_SvN (v w:Sv):binD .neq (.leaves [0,1]) (.agg (eSv v)) (.agg (eSv w))=some (.bool (!decide (v=w))):=by
 have h:=zcF v w;show(zfT (eSv v) (eSv w) [0,1]).map (fun b=>DV.bool (!b))=_;rw[show zfT (eSv v) (eSv w) [0,1]=some (decide (v=w)) from h];rfl
attribute [local simp] c_R f_R r_R_1 c_n f_n r_n_1 r_n_2 r_n_3 r_n_4 r_n_5 r_n_6 r_n_8 r_n_9
theorem zcq {w:WS} (h:RrS B M j w) (n:Nat) (hn:n<2^62) (hl:w.b.length≤100000000) (hk: ∀M',RrS B M' j (w.num n)→k (.tup []) M'):ze F (.fn n_R [] []) [.ptr j 0 0,I n] M k kp:=by
 obtain⟨dt,db,h⟩:=h;have a:=h.j2;have o1:=h.oj;refine .fn zdy rfl (by simp[f_R]) ?_;simp(disch:=((try simp only[nx3]);omega)) [o1];refine zeQ (h.lb.new _) (new:=[eN n]) (by simp[eN]) (by decide) (by simp[eN]) (by simp) (by simp;omega) fun d' M' hL hG=> ?_;have p1:M'.obj j=some (.rows false 2 [[dt,db]]):=by rw[hG.pre.obj a h.bj];exact o1
 have hk:=hk _ ⟨_,_,h.body hn (by simpa[WS.num] using hL) hG.pre⟩;have c1:=hL.cells;have c2:=hL.cell;simp(disch:=((try simp only[nx3]);omega)) [p1,c1,c2];exact hk
theorem idx_take {t:List Sv} {v:Sv} {i:Nat} (hi:i<t.length) (h1:v∉t.take i) (h2:t[i]=v):v∈t∧t.idxOf v=i:=by
 have hm:v∈t:=by rw[←h2];exact qg hi
 refine⟨hm,?_⟩;have e:t=t.take i++t[i]::t.drop (i+1):=by rw[List.getElem_cons_drop,qx]
 rw[e,List.idxOf_append,if_neg h1,h2,List.idxOf_cons_self,qq];omega
theorem zfV {w:WS} (h:RrS B M j w) (v:Sv) (ht:w.t.length≤10000000) (hk: ∀M',RrS B M' j (w.ment v)→k (I ((w.t.idxOf v:Nat):Int)) M'):ze F (.fn n_n [] []) [.ptr j 0 0,.agg (eSv v)] M k kp:=by
 obtain⟨dt,db,h⟩:=h;have a:=h.j2;have o1:=h.oj;refine .fn zc7 rfl (by simp[f_n]) ?_;simp(disch:=((try simp only[nx3]);omega));refine .for (σ:=Unit) c_n_7.eq_1 (fun i _=>[(5,I i)]) (fun _=>M.new (.rows false 2 [eSv v])) (fun i _=>v∉w.t.take i) w.t.length () (by simp) rfl (by simp) (fun i _ hi hP again=> ?_) (fun _ hP=> ?_)
 ·have hln:=h.ln.new (.rows false 2 [eSv v]);rcases hln.v with⟨e,_⟩| ⟨q,op,cap,h2,e,h4,_⟩
  ·have:=congrArg qm e;simp at this;rw[this] at hi;simp at hi
  subst e;have hp3:zck (.agg (eSv w.t[i]))=true:=by simp[eSv]
  have hp4:zck (.agg (eSv v))=true:=by simp[eSv]
  rw[qd hi] at again;by_cases hx:w.t[i]=v
  ·obtain⟨hm,hix⟩:=idx_take hi hP hx;have hk:=hk (M.new (.rows false 2 [eSv v])) (by
    rw[show w.ment v=w from if_pos hm];exact⟨_,_,h.keep (by simp) fun q hq=>by rw[get_new,if_neg (by omega)]⟩)
   rw[hix] at hk;clear again;simp(disch:=((try simp only[nx3]);omega)) [o1,hi,h4,hp3,hp4,zcT,hx];exact hk
  ·have again:=again () (fun hm=>by
    rcases qu.1 hm with hm|hm
    ·exact hP hm
    ·exact hx (qo.1 hm).symm)
   simp at again;simp(disch:=((try simp only[nx3]);omega)) [o1,hi,h4,hp3,hp4,zcT,hx];exact again
 ·rw[List.take_length] at hP;have e0:w.t.idxOf v=w.t.length:=List.idxOf_eq_length hP;rw[e0] at hk;simp(disch:=((try simp only[nx3]);omega)) [o1,h.ln.len];refine zg0 ((h.ln.new _).new _) (new:=[eSv v]) (by simp) (by decide) (by simp) (by simp) (by simp;omega) fun d' M' hL hG=> ?_;have hG2:=hG.pre.pre;have nx:=hG2.nx;have p1:M'.obj j=some (.rows false 2 [[dt,db]]):=by rw[hG2.obj a h.nj];exact o1
  have hk:=hk _ ⟨_,_,h.table hP (by simpa using hL) hG2⟩;have c1:=hL.cells;have c2:=hL.cell;have hlen: ∀y:VM,lenD y d'=some (w.t.length+1):=fun y=>by rw[hL.len];simp
  have a2:j<M'.next:=by omega
  simp(disch:=((try simp only[nx3]);omega)) [p1,c1,c2,hlen];exact hk
attribute [local simp] c_m f_m r_m_1 r_m_2 r_m_3 r_m_4 r_m_5 r_m_6 r_m_7 r_m_8 r_m_9 r_m_10
theorem zjJ (w:WS) (n:Nat):(w.num n).b.length=w.b.length+1:=by simp[WS.num]
theorem val_b (w:WS) (v:Sv):(w.val v).b.length=w.b.length+1:=by
 unfold WS.val
 split
 ·rw[zjJ,zgP]
 ·split<;>rw[zjJ]
theorem rvals_ok {w:WS} (h:RrS B M j w) (l:List Sv) (hv: ∀v∈l,ValV v) (ht:w.t.length+l.length≤10000000) (hb:w.b.length+l.length+1≤100000000) (hk: ∀M',RrS B M' j (w.vals l)→k (.tup []) M'):ze F (.fn n_m [] []) [.ptr j 0 0,.lst 2 (l.map eSv)] M k kp:=by
 have b0:=zlu;refine .fn zdf rfl (by simp[f_m]) ?_;simp(disch:=((try simp only[nx3]);omega));refine zcq h l.length (by omega) (by omega) fun M1 h1=> ?_;simp(disch:=((try simp only[nx3]);omega));refine .for (σ:=VM) c_m_11.eq_1 (fun i _=>[(4,I i)]) (fun z=>z) (fun i z=>RrS B z j ((l.take i).foldl WS.val (w.num l.length))∧((l.take i).foldl WS.val (w.num l.length)).t.length≤w.t.length+i∧((l.take i).foldl WS.val (w.num l.length)).b.length=w.b.length+1+i) l.length M1 (by simp) rfl ⟨h1,by rw[qK];exact qe _,by rw[qK];exact zjJ _ _⟩ (fun i y hi hP again=> ?_) (fun y hP=> ?_)
 ·obtain⟨p1,p2,p3⟩:=hP;have hvi:=hv _ (qg hi);rw[qd hi,List.foldl_append] at again;simp only[qI,List.foldl_nil] at again;have hle:=val_len (w:=(l.take i).foldl WS.val (w.num l.length)) hvi (by omega);have hvb:=val_b ((l.take i).foldl WS.val (w.num l.length)) l[i];generalize (l.take i).foldl WS.val (w.num l.length)=u at*;generalize hx:l[i]=v at*;have hr: -1000000000≤v.n∧v.n≤1000000000:=by
   rcases hvi with(h|h|h)|h<;>omega
  have p1': ∀o,RrS B ((y.new (.rows false 2 [[.int .i64 0,.int .i64 0]])).put y.next o) j u:=fun o=>p1.keep (by simp;omega) fun q hq=>by rw[get_put,if_neg (by omega),get_new,if_neg (by omega)]
  by_cases hk1:v.k=1
  ·by_cases hn0:0≤v.n
   ·obtain⟨n,hn⟩:=Int.eq_ofNat_of_zero_le hn0;have e:u.val v=u.num (4*n):=by unfold WS.val;rw[if_neg (fun x=>x hk1),if_pos hn0,hn];rfl
    rw[e] at again hle hvb;simp(disch:=((try simp only[nx3]);omega)) [hi,hx,eSv,hk1,hn0];have e4:4*v.n=((4*n:Nat):Int):=by omega
    rw[e4];refine zcq (p1' _) (4*n) (by omega) (by omega) fun M2 h2=> ?_;have again:=again M2 ⟨h2,by omega,by omega⟩;simp at again;simp(disch:=((try simp only[nx3]);omega));exact again
   ·obtain⟨n,hn⟩:=Int.eq_ofNat_of_zero_le (show 0≤ -v.n - 1 by omega);have e:u.val v=u.num (4*n+2):=by unfold WS.val;rw[if_neg (fun x=>x hk1),if_neg hn0,hn];rfl
    rw[e] at again hle hvb;simp(disch:=((try simp only[nx3]);omega)) [hi,hx,eSv,hk1,hn0];have e4:4*(-v.n - 1)+2=((4*n+2:Nat):Int):=by omega
    rw[e4];refine zcq (p1' _) (4*n+2) (by omega) (by omega) fun M2 h2=> ?_;have again:=again M2 ⟨h2,by omega,by omega⟩;simp at again;simp(disch:=((try simp only[nx3]);omega));exact again
  ·have e:u.val v=(u.ment v).num (2*u.t.idxOf v+1):=by unfold WS.val;rw[if_pos hk1]
   have hix:u.t.idxOf v≤u.t.length:=qA;have hmb:=zgP u v;rw[e] at again hle hvb;simp(disch:=((try simp only[nx3]);omega)) [hi,hx,eSv,hk1];refine zfV (p1' _) v (by omega) fun M1 h1=> ?_;generalize u.t.idxOf v=ix at*;simp(disch:=((try simp only[nx3]);omega));have e4:2*(ix:Int)+1=((2*ix+1:Nat):Int):=by omega
   rw[e4];refine zcq h1 (2*ix+1) (by omega) (by rw[hmb];omega) fun M2 h2=> ?_;have again:=again M2 ⟨h2,by omega,by omega⟩;simp at again;simp(disch:=((try simp only[nx3]);omega));exact again
 ·rw[qh] at hP;simp(disch:=((try simp only[nx3]);omega));exact hk y hP.1
end
section
variable {M M':VM} {B:Base} {k kp:DV→VM→Prop} {n0 j:Nat}
theorem head_len (t:List Sv) (hs: ∀v∈t,zeb v) (ht:t.length≤10000000):(zu (zbK t)).length≤10+20*t.length:=by
 have b1:=big1;have hn1:=zX t.length (by omega);have htl:=zhz t hs;have:zu (zbK t)=numB t.length++tabB t:=by unfold zbK tabB;rw[zdj]
 rw[this,qn];omega
theorem headN_take (t:List Sv) (i:Nat) (hi:i<t.length):(t.take (i+1)).flatMap (fun v=>[v.k.toNat,v.n.toNat])=(t.take i).flatMap (fun v=>[v.k.toNat,v.n.toNat])++[t[i].k.toNat,t[i].n.toNat]:=by
 rw[qd hi,qC];simp
theorem flat2 (t:List Sv):(t.flatMap fun v=>[v.k.toNat,v.n.toNat]).length=2*t.length:=by
 induction t with
 |nil=>rfl
 |cons v t ih=>simp[ih];omega
attribute [local simp] c_s f_s r_s_1 r_s_2 r_s_3 r_s_4 r_s_5 r_s_6 r_s_8 r_s_9
theorem rend_ok {w:WS} (h:RrS B M j w) (first:UInt8) (hs: ∀v∈w.t,zeb v) (ht:w.t.length≤10000000) (hb:(zu w.b).length≤300000000) (hbl:w.b.length≤100000000) (hk: ∀M',M.next≤M'.next→(∀i,B.fr i→M'.get i=B.m.get i)→k (St (w.fin first)) M'):ze F (.fn n_s [] []) [.ptr j 0 0,zbY first] M k kp:=by
 obtain⟨dt,db,h⟩:=h;have b0:=zlu;have a:=h.j2;have o1:=h.oj;have hhl:=head_len w.t hs ht;have hlit:Lb (M.new (.rows false 1 [[I w.t.length]])) (.ms M.next 0 1 1) 1 ([w.t.length].map eN):=⟨by simp[eN],.inr ⟨M.next,false,1,by simp,rfl,by simp[eN],.inr ⟨rfl,rfl,by decide⟩⟩⟩;refine .fn zdz rfl (by simp[f_s]) ?_;simp(disch:=((try simp only[nx3]);omega)) [o1,h.ln.len];refine .for (σ:=VM×DV) c_s_7.eq_1 (fun i z=>[(5,z.2),(6,I i)]) (fun z=>z.1) (fun i z=>Lb z.1 z.2 1 ((w.t.length::(w.t.take i).flatMap fun v=>[v.k.toNat,v.n.toNat]).map eN)∧(∀i,i<M.next→z.1.get i=M.get i)∧(∀i,i<M.next→Off z.2 i)∧M.next≤z.1.next) w.t.length (M.new (.rows false 1 [[I w.t.length]]),.ms M.next 0 1 1) (by simp) rfl ⟨by simpa using hlit,fun q hq=>by rw[get_new,if_neg (by omega)],fun q hq=>by show q≠M.next;omega,by simp⟩ (fun i z hi hP again=> ?_) (fun z hP=> ?_)
 ·obtain⟨y,d⟩:=z;obtain⟨p1,p2,p3,p4⟩:=hP;dsimp only at*;have hh:=h.keep p4 p2;have o2:=hh.oj;have hln:=hh.ln;rcases hln.v with⟨e,_⟩| ⟨q,op,cap,h2,e,h4,_⟩
  ·have:=congrArg qm e;simp at this;rw[this] at hi;simp at hi
  subst e;have hv:=hs _ (qg hi);rw[headN_take w.t i hi] at again;have hfl:=flat2 (w.t.take i);rw[qq] at hfl;generalize hvx:w.t[i]=v at*;generalize (w.t.take i).flatMap (fun v=>[v.k.toNat,v.n.toNat])=tb at*;obtain⟨⟨a1,b⟩,c,dd⟩:=hv;obtain⟨kn,hkn⟩:=qf a1;obtain⟨nn,hnn⟩:=qf c;have ek:v.k.toNat=kn:=by omega
  have en:v.n.toNat=nn:=by omega
  rw[ek,en] at again;simp(disch:=((try simp only[nx3]);omega)) [o2,hi,h4,hvx,eSv,hkn,hnn];refine zg0 (p1.new _) (new:=[eN kn,eN nn]) (by simp[eN]) (by decide) (by simp[eN]) (by simp) (by simp;omega) fun d' M' hL hG=> ?_;have nx:=hG.pre.nx;have again:=again (M',d') ⟨by simpa using hL,fun q hq=>by rw[hG.pre.kp q (by omega) (p3 q hq)];exact p2 q hq,fun q hq=>hG.pre.of q (by omega) (p3 q hq),by show M.next≤M'.next;omega⟩;simp at again;simp(disch:=((try simp only[nx3]);omega));exact again
 ·obtain⟨y,d⟩:=z;obtain⟨p1,p2,p3,p4⟩:=hP;dsimp only at*;have hh:=h.keep p4 p2;have o2:=hh.oj;rw[qh] at p1;have p1:Lb y d 1 ((zbK w.t).map eN):=p1;have hsm: ∀n∈zbK w.t,n<2^62:=by
   intro n hn;rcases ql.1 hn with rfl|hn
   ·omega
   ·obtain⟨v,hv,hn⟩:=List.mem_flatMap.1 hn;obtain⟨⟨a1,b⟩,c,dd⟩:=hs v hv;simp at hn;rcases hn with rfl|rfl<;>omega
  have hhl2:(zbK w.t).length=1+2*w.t.length:=by unfold zbK;rw[qi,flat2];omega
  simp(disch:=((try simp only[nx3]);omega)) [o2,hh.ln.len];refine zg6 p1 hsm (by omega) (by omega) ?_;simp(disch:=((try simp only[nx3]);omega)) [o2];refine⟨hh.lb.self,?_⟩;refine zg6 hh.lb h.sb (by omega) (by omega) ?_;have c5: ∀y:VM,b2sD (y.new (.rows false 1 [[zbY first]])) (.ms y.next 0 1 1)=some (St [first]):=fun y=>zhr (by simp[eB]);have c4: ∀ek,binD .add ek (St [first]) (St (zu (zbK w.t)))=some (St (first::zu (zbK w.t))):=fun ek=>zd9 (ek:=ek) [first] _ (by simp;omega);have c6: ∀ek,binD .add ek (St (first::zu (zbK w.t))) (St (zu w.b))=some (St (first::zu (zbK w.t)++zu w.b)):=fun ek=>zd9 (ek:=ek) _ _ (by simp;omega);simp only[CK_eq,DW_eq];simp(disch:=((try simp only[nx3]);omega)) [c5,c4,c6];refine rsum_ok _ (by simp;omega) ?_;have hk:=hk (y.new (.rows false 1 [[zbY first]])) (by simp;omega) (fun i hi=>by rw[get_new,if_neg (by have:=hh.nx i hi;omega)];exact hh.sm i hi);have c7: ∀ek,binD .add ek (St (first::(zu (zbK w.t)++zu w.b))) (St (crc (first::(zu (zbK w.t)++zu w.b))))=some (St (w.fin first)):=fun ek=>zd9 (ek:=ek) _ _ (by simp[crc];omega);simp(disch:=((try simp only[nx3]);omega)) [c7];exact hk
end
section
variable {M M' B:VM} {k kp:DV→VM→Prop} {n0 j:Nat}
attribute [local simp] c_4 f_4 r_4_1 r_4_2 c_P f_P r_P_1 r_P_2 r_P_3 r_P_4 r_P_5 r_P_6 r_P_7 r_P_8 r_P_9 c_bc f_bc r_bc_1 r_bc_2
theorem zen (n a b:Int) (hk:k (.bool (decide (a≤n∧n≤b))) M):ze F (.fn n_4 [] []) [I n,I a,I b] M k kp:=by
 apply ze.back;refine .fn zhV rfl (by simp[f_4]) ?_;by_cases h1:a≤n
 ·by_cases h2:n≤b
  ·rw[decide_eq_true ⟨h1,h2⟩] at hk;simp(disch:=((try simp only[nx3]);omega)) [h1,h2];exact bpl hk
  ·rw[decide_eq_false (fun h=>h2 h.2)] at hk;simp(disch:=((try simp only[nx3]);omega)) [h1,h2];exact bpl hk
 ·rw[decide_eq_false (fun h=>h1 h.1)] at hk;simp(disch:=((try simp only[nx3]);omega)) [h1];exact bpl hk
theorem zjr (v:Sv) (hk:k (.bool (decide (zb7 v))) M):ze F (.fn n_P [] []) [.agg (eSv v)] M k kp:=by
 apply ze.back;refine .fn zgK rfl (by simp[f_P]) ?_;by_cases h2:v.k=2
 ·simp(disch:=((try simp only[nx3]);omega)) [eSv,h2];refine zen _ _ _ ?_;rw[decide_eq_decide.2 (show(0≤v.n∧v.n≤11)↔zb7 v by unfold zb7;omega)];simp(disch:=((try simp only[nx3]);omega));exact bpl hk
 ·by_cases h3:v.k=3
  ·simp(disch:=((try simp only[nx3]);omega)) [eSv,h3];refine zen _ _ _ ?_;rw[decide_eq_decide.2 (show(0≤v.n∧v.n≤59)↔zb7 v by unfold zb7;omega)];simp(disch:=((try simp only[nx3]);omega));exact bpl hk
  ·by_cases h4:v.k=4
   ·simp(disch:=((try simp only[nx3]);omega)) [eSv,h4];refine zen _ _ _ ?_;rw[decide_eq_decide.2 (show(0≤v.n∧v.n≤23)↔zb7 v by unfold zb7;omega)];simp(disch:=((try simp only[nx3]);omega));exact bpl hk
   ·rw[decide_eq_false (by unfold zb7;omega)] at hk;simp(disch:=((try simp only[nx3]);omega)) [eSv,h2,h3,h4];exact bpl hk
theorem zki (n:Int) (hk:k (.agg (eSv (chn n))) M):ze F (.fn n_bc [] []) [I n] M k kp:=by
 apply ze.back;refine .fn zfj rfl (by simp[f_bc]) ?_;simp(disch:=((try simp only[nx3]);omega));exact bpl hk
attribute [local simp] c_T f_T r_T_1 r_T_2 r_T_3 r_T_4 r_T_5 r_T_6 r_T_8
theorem rv_ok (l:List Sv) (hl:l.length<4000000000000000000) (hk:k (.bool (decide (∀v∈l,ValV v))) M):ze F (.fn n_T [] []) [.lst 2 (l.map eSv)] M k kp:=by
 apply ze.back;refine .fn zgI rfl (by simp[f_T]) ?_;simp(disch:=((try simp only[nx3]);omega));refine .for (σ:=Unit) c_T_7.eq_1 (fun i _=>[(3,I i)]) (fun _=>M) (fun i _=> ∀v∈l.take i,ValV v) l.length () (by simp) rfl (by simp) (fun i _ hi hP again=> ?_) (fun _ hP=> ?_)
 ·rw[List.take_succ_eq_append_getElem hi] at again;generalize hx:l[i]=v at*;by_cases hv:ValV v
  ·have again:=again () (fun u hu=>by
    rcases qu.1 hu with hu|hu
    ·exact hP u hu
    ·rw[qo.1 hu];exact hv)
   simp at again;simp(disch:=((try simp only[nx3]);omega)) [hi,hx];refine zjr v ?_;by_cases h1:zb7 v
   ·rw[decide_eq_true h1];simp(disch:=((try simp only[nx3]);omega));exact again
   ·rw[decide_eq_false h1];obtain⟨h2,h3,h4⟩:=hv.resolve_left h1;simp(disch:=((try simp only[nx3]);omega)) [hi,hx,eSv,h2];refine zen _ _ _ ?_;rw[decide_eq_true (show -1000000000≤v.n∧v.n≤1000000000 from⟨h3,h4⟩)];simp(disch:=((try simp only[nx3]);omega));exact again
  ·rw[decide_eq_false (fun h=>hv (by rw[←hx];exact h _ (List.getElem_mem hi)))] at hk;clear again;simp(disch:=((try simp only[nx3]);omega)) [hi,hx];refine zjr v ?_;rw[decide_eq_false (fun h=>hv (.inl h))];by_cases h2:v.k=1
   ·simp(disch:=((try simp only[nx3]);omega)) [hi,hx,eSv,h2];refine zen _ _ _ ?_;rw[decide_eq_false (show¬(-1000000000≤v.n∧v.n≤1000000000) from fun h=>hv (.inr ⟨h2,h⟩))];simp(disch:=((try simp only[nx3]);omega));exact bpl hk
   ·simp(disch:=((try simp only[nx3]);omega)) [hi,hx,eSv,h2];exact bpl hk
 ·rw[qh] at hP;rw[decide_eq_true hP] at hk;simp(disch:=((try simp only[nx3]);omega));exact bpl hk
attribute [local simp] c_bk f_bk r_bk_1 r_bk_2 c_Y f_Y r_Y_1 r_Y_2 r_Y_3 r_Y_4 r_Y_5
theorem rright_ok (l:Lt) (hl:l.vs.length<4000000000000000000) (hk:k (.bool (decide (zej l))) M):ze F (.fn n_bk [] []) [.agg (eLt l)] M k kp:=by
 apply ze.back;refine .fn zgb rfl (by simp[f_bk]) ?_;simp(disch:=((try simp only[nx3]);omega)) [eLt];refine zen _ _ _ ?_;by_cases h1:0≤l.ch∧l.ch≤59
 ·rw[decide_eq_true h1];by_cases h2:l.vs.length≤3
  ·have h2i:(l.vs.length:Int)≤3:=by omega
   simp(disch:=((try simp only[nx3]);omega)) [eLt,h2i];refine rv_ok l.vs hl ?_;rw[decide_eq_decide.2 (show(∀v∈l.vs,ValV v)↔zej l from⟨fun h=>⟨⟨h1.1,by omega⟩,h2,h⟩,fun h=>h.2.2⟩)];simp(disch:=((try simp only[nx3]);omega));exact bpl hk
  ·have h2i: ¬(l.vs.length:Int)≤3:=by omega
   rw[decide_eq_false (fun h=>h2 h.2.1)] at hk;simp(disch:=((try simp only[nx3]);omega)) [eLt,h2i];exact bpl hk
 ·rw[decide_eq_false h1];rw[decide_eq_false (fun h=>h1 ⟨h.1.1,by have:=h.1.2;omega⟩)] at hk;simp(disch:=((try simp only[nx3]);omega));exact bpl hk
theorem rletter_ok {l:Lt} (hp:zej l) (hk:k (St (encLt l)) M):ze F (.fn n_Y [] []) [.agg (eLt l)] M k kp:=by
 obtain⟨hc,hl,hv⟩:=hp;have hch:zb7 (chn l.ch):=.inr (.inl ⟨rfl,hc⟩);have h0:zec (⟨[],[]⟩:WS).t:=fun x hx=>by cases hx
 obtain⟨r1,r2,r3⟩:=ref_len (w:=⟨[],[]⟩) hch h0 (by decide);have r2:((⟨[],[]⟩:WS).ref (chn l.ch)).t.length≤1:=r2;have r3:(zu ((⟨[],[]⟩:WS).ref (chn l.ch)).b).length≤10:=r3;obtain⟨s1,s2,s3⟩:=zjV hv r1 (by omega);apply ze.back;refine .fn zfH rfl (by simp[f_Y]) ?_;simp(disch:=((try simp only[nx3]);omega)) [eLt];refine zki l.ch ?_;simp(disch:=((try simp only[nx3]);omega));have hs:RrS (bas (M.new (.rows false 2 [eLt l]))) ((M.new (.rows false 2 [eLt l])).new (.rows false 2 [[.nilS,.nilS]])) (M.next+1) ⟨[],[]⟩:=
  ⟨.nilS,.nilS,fun i hi=>by(have hi:i<_:=hi;rw[get_new,if_neg (by omega)]),fun i hi=>qG hi,by simp,by simp,by simp,.nil _ _,.nil _ _,fun _ _=>⟨trivial,trivial⟩,fun n hn=>by cases hn⟩
 refine zfV hs (chn l.ch) (by decide) fun M1 h1=> ?_;simp(disch:=((try simp only[nx3]);omega));have e0:((⟨[],[]⟩:WS).t.idxOf (chn l.ch))=0:=rfl;refine zcq h1 _ (Nat.two_pow_pos 62) (by rw[zgP];decide) fun M2 h2=> ?_;have h2:RrS (bas (M.new (.rows false 2 [eLt l]))) M2 (M.next+1) ((⟨[],[]⟩:WS).ref (chn l.ch)):=h2;have sm: ∀{y w},RrS (bas (M.new (.rows false 2 [eLt l]))) y (M.next+1) w→y.obj M.next=some (.rows false 2 [eLt l]):=by
  rintro y w ⟨dt,db,h⟩;show(y.get M.next).map _=_;rw[h.sm M.next (by simp)];simp[get_new]
 have rb:((⟨[],[]⟩:WS).ref (chn l.ch)).b.length=1:=by
  show((_:WS).num _).b.length=1;rw[zjJ,zgP];rfl
 simp(disch:=((try simp only[nx3]);omega)) [sm h2,eLt];refine rvals_ok h2 l.vs hv (by omega) (by omega) fun M3 h3=> ?_;have vb: ∀(l:List Sv) (w:WS),(l.foldl WS.val w).b.length=w.b.length+l.length:=by
  intro l
  induction l with
  |nil=>intro w;rfl
  |cons v l ih=>intro w;rw[qI,ih,val_b,qi];omega
 have vb2:(((⟨[],[]⟩:WS).ref (chn l.ch)).vals l.vs).b.length=2+l.vs.length:=by
  unfold WS.vals;rw[vb,zjJ,rb]
 simp(disch:=((try simp only[nx3]);omega));refine rend_ok h3 77 (fun v hv=>(s1 v hv).small) (by omega) (by omega) (by omega) fun M4 n4 k4=> ?_;simp(disch:=((try simp only[nx3]);omega));exact Back.plain (by simp) (fun i hi=>by rw[k4 i (by simp;omega),get_new,if_neg (by omega)]) hk
end
section
variable {M M' B:VM} {k kp:DV→VM→Prop} {n0 j:Nat}
abbrev zfx:DV:=.ifc 192 (.agg [])
structure RdE (B M:VM) (j:Nat) (t:List Sv) (l:List UInt8) (dn:DV):Prop where
 sm:SM B.next B M
 nx:B.next≤M.next
 j1:B.next≤j
 j2:j<M.next
 oj:M.obj j=some (.rows false 3 [[dn,.nilM,St l]])
 ln:Lb M dn 2 (t.map eSv)
 fn: ∀i,i<B.next→Off dn i
section
variable {t:List Sv} {l:List UInt8} {dn:DV}
theorem RdE.nj (h:RdE B M j t l dn):Off dn j:=h.ln.off h.oj (fun op e=>by cases e)
theorem RdE.keep (h:RdE B M j t l dn) (hn:M.next≤M'.next) (hk: ∀i,i<M.next→M'.get i=M.get i):RdE B M' j t l dn:=by
 have a:=h.j2;have g:=h.nx;refine⟨fun i hi=>(hk i (by omega)).trans (h.sm i hi),by omega,h.j1,by omega,?_,h.ln.keepA hn hk,h.fn⟩;rw[←h.oj];show(M'.get j).map _=(M.get j).map _;rw[hk j a]
theorem RdE.rest (h:RdE B M j t l dn) (r:List UInt8):RdE B (M.put j (.rows false 3 [[dn,.nilM,St r]])) j t r dn:=by
 have a:=h.j1;have c:=h.j2;have g:=h.nx;exact⟨zl h.sm h.j1,by simp;omega,h.j1,by simp;omega,by simp,h.ln.put h.nj _,h.fn⟩
end
theorem get_step {x a q i:Nat} (hx:x<256) (hq:q<5) (ha:a<2^(7*q)) (hi:i=7*q): ∃y z:Nat,(∀ek,binD .and ek (.int .u8 (x:Int)) (.int .u8 127)=some (.int .u8 (y:Int)))∧ziP .u64 (.int .u8 (y:Int))=some (.int .u64 (y:Int))∧(∀ek,binD .shl ek (.int .u64 (y:Int)) (I (i:Int))=some (.int .u64 (z:Int)))∧(∀ek,binD .or ek (.int .u64 (a:Int)) (.int .u64 (z:Int))=some (.int .u64 ((a+z:Nat):Int)))∧z=x%128*2^(7*q)∧a+z<2^(7*(q+1))∧a+z<34359738368:=by
 have hp:(2:Nat)^(7*(q+1))=2^(7*q)*128:=by rw[show 7*(q+1)=7*q+7 by omega,Nat.pow_add]
 have hm:x%128*2^(7*q)≤127*2^(7*q):=Nat.mul_le_mul_right _ (by omega);have h35:(2:Nat)^(7*(q+1))≤2^35:=qB (by omega) (by omega);have h35':(2:Nat)^35=34359738368:=by decide
 have hlt:a+x%128*2^(7*q)<2^(7*(q+1)):=by rw[hp];omega
 refine⟨x%128,x%128*2^(7*q),fun ek=> ?_,conv_u64 _ _ (by omega),fun ek=> ?_,fun ek=> ?_,rfl,hlt,by omega⟩
 ·have:=zh9 (ek:=ek) .u8 x 127 (by show x<2^8;omega) (by show 127<2^8;omega);rw[and127,wrap_u8] at this;rw[show(127:Int)=((127:Nat):Int) from rfl,this]
  congr 2;omega
 ·have:=bin_shlN (ek:=ek) .u64 .i64 (x%128) i (by show i≤64;omega);rw[wrap_u64,hi] at this;rw[hi,this];generalize x%128*2^(7*q)=z at*
  congr 2;omega
 ·have:=bin_orN (ek:=ek) .u64 a (x%128*2^(7*q)) (by show a<2^64;omega) (by show _<2^64;omega);rw[or_add _ ha,wrap_u64] at this;rw[this];generalize x%128*2^(7*q)=z at*
  congr 2;omega
attribute [local simp] c_v f_v r_v_1 r_v_2 r_v_3 r_v_4 r_v_5 r_v_6 r_v_7 r_v_8 r_v_9 r_v_10 r_v_11 r_v_12 r_v_14
theorem getA_pow (q:Nat):(2:Nat)^(7*(q+1))=2^(7*q)*128:=by rw[show 7*(q+1)=7*q+7 by omega,Nat.pow_add]
def Kj (j:Nat) (M M':VM):Prop:=M.next≤M'.next∧ ∀i,i<M.next→i≠j→M'.get i=M.get i
theorem Kj.refl (j:Nat) (M:VM):Kj j M M:=⟨qe _,fun _ _ _=>rfl⟩
theorem Kj.trans {M2:VM} (h:Kj j M M') (h2:Kj j M' M2):Kj j M M2:=⟨qE h.1 h2.1,fun i hi hj=>(h2.2 i (qF hi h.1) hj).trans (h.2 i hi hj)⟩
theorem Kj.put (j:Nat) (M:VM) (o:MO):Kj j M (M.put j o):=⟨Nat.le_succ _,fun i hi hj=>by rw[get_put,if_neg hj]⟩
theorem Kj.all (hn:M.next≤M'.next) (h: ∀i,i<M.next→M'.get i=M.get i):Kj j M M':=⟨hn,fun i hi _=>h i hi⟩
def Kept (B M':VM):Prop:=SM B.next B M'∧B.next≤M'.next
theorem Lb.kj {d:DV} {s:Nat} {rows:List (List DV)} (h:Lb M d s rows) (hj:Off d j) (hk:Kj j M M'):Lb M' d s rows:=h.keep hk.1 fun i hi hn=>hk.2 i hi fun e=>hn (by rw[e];exact hj)
section
variable {t:List Sv} {l:List UInt8} {dn:DV}
theorem RdE.kept (h:RdE B M j t l dn):Kept B M:=⟨h.sm,h.nx⟩
theorem ze8 (h:RdE B M j t l dn) (hk: ∀M' n r,getN l=some (n,r)→RdE B M' j t r dn→Kj j M M'→k (I (n:Int)) M') (hp: ∀M',getN l=none→Kept B M'→kp zfx M'):ze F (.fn n_v [] []) [.ptr j 0 0] M k kp:=by
 refine .fn zhY rfl (by simp[f_v]) ?_;simp(disch:=((try simp only[nx3]);omega));refine .for (σ:=VM×Nat×List UInt8×Nat) c_v_13.eq_1 (fun q z=>[(3,.int .u64 (z.2.1:Int)),(4,I (z.2.2.2:Int))]) (fun z=>z.1) (fun q z=>RdE B z.1 j t z.2.2.1 dn∧z.2.1<2^(7*q)∧z.2.2.2=7*q∧getA (5 - q) (2^(7*q)) z.2.1 z.2.2.1=getN l∧Kj j M z.1) 5 (M,0,l,0) (by simp) rfl ⟨h,by show 0<2^(7*0);decide,rfl,rfl,.refl _ _⟩ (fun q z hq hP again=> ?_) (fun z hP=> ?_)
 ·obtain⟨y,a,r,i⟩:=z;obtain⟨p1,p2,p3,p4,p5⟩:=hP;dsimp only at*;have o1:=p1.oj;have hii:(i:Int)<35:=by omega
  have e5:5 - q=(5 - (q+1))+1:=by omega
  rw[e5] at p4
  match r,p1,o1,p4 with
  | [],p1,o1,p4=>
    have hp:=hp y p4.symm p1.kept;clear again;simp(disch:=((try simp only[nx3]);omega)) [hii,o1];exact hp
  |x::r,p1,o1,p4=>
   have hx:=x.toNat_lt;obtain⟨b,c,s1,s2,s3,s4,hc,hlt,h35⟩:=get_step (x:=x.toNat) hx hq p2 p3;have s0:zcb (some (I 1)) none (St (x::r))=some (St r):=zeU (x::r) .i64 1 (by simp);have hb:zbY x=.int .u8 (x.toNat:Int):=rfl;have p1':=p1.rest r;unfold getA at p4;by_cases hlow:x.toNat<128
   ·rw[if_pos hlow] at p4;have hm:x.toNat%128=x.toNat:=Nat.mod_eq_of_lt hlow;rw[hm] at hc;rw[←hc] at p4;have hk:=hk _ _ _ p4.symm p1' (p5.trans (.put _ _ _));have s5:=conv_i64 .u64 (a+c) (by omega);have hli:(x.toNat:Int)<128:=by omega
    clear again;generalize a+c=n at*;simp(disch:=((try simp only[nx3]);omega)) [hii,o1,s0,hb,s1,s2,s3,s4,s5,bin_ltK,hli];exact hk
   ·rw[if_neg hlow] at p4;have again:=again (y.put j (.rows false 3 [[dn,.nilM,St r]]),a+c,r,i+7) ⟨p1',hlt,by dsimp only;omega,by rw[getA_pow,hc];exact p4,p5.trans (.put _ _ _)⟩;have hli: ¬(x.toNat:Int)<128:=by omega
    generalize a+c=n at*;simp at again;simp(disch:=((try simp only[nx3]);omega)) [hii,o1,s0,hb,s1,s2,s3,s4,bin_ltK,hli];exact again
 ·obtain⟨y,a,r,i⟩:=z;obtain⟨p1,p2,p3,p4,p5⟩:=hP;dsimp only at*;have hii: ¬(i:Int)<35:=by omega
  have hp:=hp y p4.symm p1.kept;simp(disch:=((try simp only[nx3]);omega)) [hii];exact hp
attribute [local simp] c_X f_X r_X_1 r_X_2 r_X_3 r_X_4 r_X_5 c_bf f_bf r_bf_1 r_bf_2 r_bf_3 r_bf_4 c_1 f_1 r_1_1 r_1_2 r_1_3 r_1_4 r_1_5
theorem zeq (h:RdE B M j t l dn) (hk: ∀M' n r,zbn l=some (n,r)→RdE B M' j t r dn→Kj j M M'→k (I (n:Int)) M') (hp: ∀M',zbn l=none→Kept B M'→kp zfx M'):ze F (.fn n_X [] []) [.ptr j 0 0] M k kp:=by
 refine .fn zhj rfl (by simp[f_X]) ?_;simp(disch:=((try simp only[nx3]);omega));refine ze8 h (fun M' n r e h' kj=> ?_) (fun M' e h'=> ?_)
 ·have o1:=h'.oj;by_cases hn:n≤r.length
  ·have hk:=hk M' n r (by unfold zbn;rw[e,Option.bind_some,if_pos hn]) h' kj;have hni: ¬(r.length:Int)<n:=by omega
   simp(disch:=((try simp only[nx3]);omega)) [o1,hni];exact hk
  ·have hp:=hp M' (by unfold zbn;rw[e,Option.bind_some,if_neg hn]) h'.kept;have hni:(r.length:Int)<n:=by omega
   simp(disch:=((try simp only[nx3]);omega)) [o1,hni];exact hp
 ·have hp:=hp M' (by unfold zbn;rw[e];rfl) h';simp(disch:=((try simp only[nx3]);omega));exact hp
theorem rdat_ok (h:RdE B M j t l dn) (i:Nat) (hk: ∀M' v,t[i]? =some v→RdE B M' j t l dn→M.next≤M'.next→(∀q,q<M.next→M'.get q=M.get q)→k (.agg (eSv v)) M') (hp: ∀M',t[i]? =none→Kept B M'→kp zfx M'):ze F (.fn n_bf [] []) [.ptr j 0 0,I (i:Int)] M k kp:=by
 have a:=h.j2;have o1:=h.oj;have hln:=h.ln;have hnx:=h.nx;refine .fn ziK rfl (by simp[f_bf]) ?_;by_cases hi:i<t.length
 ·have hni: ¬(t.length:Int)≤i:=by omega
  rcases hln.v with⟨e,_⟩| ⟨q,op,cap,h2,e,h4,_⟩
  ·have:=congrArg qm e;simp at this;rw[this] at hi;simp at hi
  subst e;have wS:zq [.int .i64 0,.int .i64 0] 0 (eSv t[i])=some (eSv t[i]):=rfl;have kq: ∀q,q<M.next→((M.new (.rows false 2 [[.int .i64 0,.int .i64 0]])).put M.next (.rows false 2 [eSv t[i]])).get q=M.get q:=fun q hq=>by rw[get_put,if_neg (by omega),get_new,if_neg (by omega)]
  have hk:=hk _ t[i] (qk hi) (h.keep (M':=(M.new (.rows false 2 [[.int .i64 0,.int .i64 0]])).put M.next (.rows false 2 [eSv t[i]])) (by simp;omega) kq) (by simp;omega) kq;have hqn:q≠M.next:=by omega
  have hjn:j≠M.next:=by omega
  simp(disch:=((try simp only[nx3]);omega)) [o1,hni,hi,h4,hqn,hjn,wS];exact hk
 ·have hni:(t.length:Int)≤i:=by omega
  have hp:=hp (M.new (.rows false 2 [[.int .i64 0,.int .i64 0]])) (qt (by omega)) ⟨zy h.sm hnx,by simp;omega⟩;simp(disch:=((try simp only[nx3]);omega)) [o1,h.ln.len,hni];exact hp
theorem zhI (h:RdE B M j t l dn) (kd:Int) (hk: ∀M' n r,zT t kd l=some (n,r)→RdE B M' j t r dn→Kj j M M'→k (I n) M') (hp: ∀M',zT t kd l=none→Kept B M'→kp zfx M'):ze F (.fn n_1 [] []) [.ptr j 0 0,I kd] M k kp:=by
 refine .fn zhi rfl (by simp[f_1]) ?_;simp(disch:=((try simp only[nx3]);omega));refine ze8 h (fun M' n r e h' kj=> ?_) (fun M' e h'=> ?_)
 ·simp(disch:=((try simp only[nx3]);omega));refine rdat_ok h' n (fun M2 v e2 h2 n2 k2=> ?_) (fun M2 e2 h2=> ?_)
  ·have kq: ∀q,q<M2.next→((M2.new (.rows false 2 [[.int .i64 0,.int .i64 0]])).put M2.next (.rows false 2 [eSv v])).get q=M2.get q:=fun q hq=>by rw[get_put,if_neg (by omega),get_new,if_neg (by omega)]
   have h3:=h2.keep (M':=(M2.new (.rows false 2 [[.int .i64 0,.int .i64 0]])).put M2.next (.rows false 2 [eSv v])) (by simp;omega) kq;have kj3:=(kj.trans (.all n2 k2)).trans (Kj.all (j:=j) (by simp;omega) kq);by_cases hkd:v.k=kd
   ·have hk:=hk _ _ _ (by unfold zT;rw[e,qb,e2,qb,if_pos hkd]) h3 kj3;unfold eSv at*;simp(disch:=((try simp only[nx3]);omega)) [hkd];rw[hkd] at hk;exact hk
   ·have hp:=hp _ (by unfold zT;rw[e,qb,e2,qb,if_neg hkd]) h3.kept;unfold eSv at*;simp(disch:=((try simp only[nx3]);omega)) [hkd];exact hp
  ·have hp:=hp M2 (by unfold zT;rw[e,qb,e2];rfl) h2;simp(disch:=((try simp only[nx3]);omega));exact hp
 ·have hp:=hp M' (by unfold zT;rw[e];rfl) h';simp(disch:=((try simp only[nx3]);omega));exact hp
end
end
section
variable {M M' B:VM} {k kp:DV→VM→Prop} {n0 j:Nat}
section
variable {X:RnD} {p:Option DV} {s:DS} {l:List CI} {d:Option (List Bool)} {lo:Nat} {K:Option DV→DS→VM→Prop}
@[simp] theorem handD_nil:ziJ [] p s M K=K p s M:=id rfl
@[simp] theorem handD_recov:ziJ (⟨d,.recov,none,lo⟩::l) p s M K=ziJ l none (zW d (p.getD .nilI) s) M K:=id rfl
@[simp] theorem handD_mv (x:CO):ziJ (⟨d,.mv x,none,lo⟩::l) p s M K=okD (opD (.mv x) s M) fun v M=>ziJ l p (zW d v s) M K:=id rfl
@[simp] theorem okD_some (v:DV) (k:DV→VM→Prop):okD (some (v,M)) k=k v M:=id rfl
@[simp] theorem doneKD_ret (f:DV) (l:List DV) (rs:List CR) (k:DV→VM→Prop):(doneKD X f l rs k).ret s M=X.hand f l none M fun M=>endD rs k s M:=id rfl
@[simp] theorem doneKD_pan (f v:DV) (l:List DV) (rs:List CR) (k:DV→VM→Prop):(doneKD X f l rs k).pan v s M=X.hand f l (some v) M fun M=>endD rs k s M:=id rfl
theorem dfr_go {X:Nat→RnD} {d:Dfr} {rs:List CR} {g:Nat} {a c:List DV} (h1:evD s d.f=some (.fn g a c)) (h2:evDL s d.args=some []) (h: @Cd (X M.next) (.base (doneKD (X M.next) (.fn g a c) [] rs k)) d.rest (zbJ d.L s) M):(bodyKD X rs k kp (some d)).nrm s M:=by
 show ofD (evD s d.f) _;rw[h1];show ofD (evDL s d.args) _;rw[h2];exact h
end
@[simp] theorem ne_nilI (t:TypeId) (u:DV):binD .neq (.iface true) (.ifc t u) .nilI=some (.bool true):=id rfl
@[simp] theorem ne_nilI2:binD .neq (.iface true) .nilI .nilI=some (.bool false):=id rfl
attribute [local simp] c_5 zgX f_5 r_5_2 r_5_3 r_5_4 r_bD c_bD f_bD r_bD_1 r_bD_2 r_bD_3
theorem zk6 {v:Option DV} {b:Bool} {k:VM→Prop} {q:Nat} (hq:M.obj q=some (.rows false 1 [[.bool b]])) (h0:v=none→k M) (h1: ∀t u,v=some (.ifc t u)→k (M.put q (.rows false 1 [[.bool false]]))) (hv:v=none∨ ∃t u,v=some (.ifc t u)):HandD F (.fn n_bD [] [.ptr q 0 0]) [] v M k:=by
 refine HandD.func zjj rfl ⟨by show 1≤5;decide,?_⟩;rcases hv with rfl| ⟨t,u,rfl⟩
 ·have h0:=h0 rfl;show ziJ _ _ _ _ _;simp;rw[wp_Cd];simp(disch:=((try simp only[nx3]);omega)) [hq];exact h0
 ·have h1:=h1 t u rfl;show ziJ _ _ _ _ _;simp;rw[wp_Cd];simp(disch:=((try simp only[nx3]);omega)) [hq];exact h1
theorem zmb {g:Nat} {a c:List DV} (h:ze F (.fn g a c) [] (M.new (.rows false 1 [[.bool false]])) (fun _ M'=>M'.obj M.next=some (.rows false 1 [[.bool false]])∧k (.bool true) (M'.put M.next (.rows false 1 [[.bool true]]))) (fun v M'=>(∃t u,v=.ifc t u)∧M'.obj M.next=some (.rows false 1 [[.bool false]])∧k (.bool false) (M'.put M.next (.rows false 1 [[.bool false]])))):ze F (.fn n_5 [] []) [.fn g a c] M k kp:=by
 refine .fn zlo rfl (by simp[f_5]) ?_;simp(disch:=((try simp only[nx3]);omega));refine dfr_go (g:=n_bD) (a:=[]) (c:=[.ptr M.next 0 0]) (by simp) rfl ?_;simp(disch:=((try simp only[nx3]);omega));refine h.mono (fun d M' hd=> ?_) (fun v M' hv=> ?_)
 ·obtain⟨h1,h2⟩:=hd;simp(disch:=((try simp only[nx3]);omega)) [h1];refine zk6 (b:=true) (by simp) (fun _=> ?_) (fun t u e=>by cases e) (.inl rfl);simp(disch:=((try simp only[nx3]);omega));exact h2
 ·obtain⟨⟨t,u,rfl⟩,h1,h2⟩:=hv;simp(disch:=((try simp only[nx3]);omega)) [h1];refine zk6 (b:=false) h1 (fun e=>by cases e) (fun t' u' e=> ?_) (.inr ⟨t,u,rfl⟩);simp(disch:=((try simp only[nx3]);omega));exact h2
section
variable {t:List Sv} {l:List UInt8} {dn:DV}
theorem Lb.ltN {d:DV} {s:Nat} {rows:List (List DV)} (h:Lb M d s rows) {i:Nat} (hi: ¬Off d i):i<M.next:=by
 rcases h.v with⟨_,rfl⟩| ⟨q,_,_,h2,rfl,_⟩
 ·exact absurd trivial hi
 ·have:i=q:=Classical.byContradiction fun e=>hi e;omega
theorem RdE.gro (h:RdE B M j t l dn) {d d':DV} (g:Gro M d M' d') (hf: ∀q,q<B.next→Off d q) (hj:Off d j) (hn: ∀q,¬Off dn q→Off d q):RdE B M' j t l dn:=by
 have a:=h.j2;have c:=h.nx;have e:=g.nx;refine⟨fun i hi=>(g.kp i (by omega) (hf i hi)).trans (h.sm i hi),by omega,h.j1,by omega,?_,h.ln.keep e fun i hi hn'=>g.kp i hi (hn i hn'),h.fn⟩;rw[g.obj a hj];exact h.oj
theorem Kj.gro {M3 M4:VM} {d d':DV} (h:Kj j M M3) (g:Gro M3 d M4 d') (hf: ∀q,q<M.next→Off d q):Kj j M M4:=⟨qE h.1 g.nx,fun q hq hj=>(g.kp q (qF hq h.1) (hf q hq)).trans (h.2 q hq hj)⟩
theorem val_step {x:Nat} (hx:x<34359738368): ∃a b c e:Nat,(∀ek,binD .and ek (I (x:Int)) (I 1)=some (I (a:Int)))∧(∀ek,binD .shr ek (I (x:Int)) (.int .u64 1)=some (I (b:Int)))∧(∀ek,binD .and ek (I (x:Int)) (I 2)=some (I (c:Int)))∧(∀ek,binD .shr ek (I (x:Int)) (.int .u64 2)=some (I (e:Int)))∧a=x%2∧b=x / 2∧c=2*(x / 2%2)∧e=x / 4:=by
 refine⟨x%2,x / 2,2*(x / 2%2),x / 4,fun ek=> ?_,fun ek=>zgG .i64 .u64 x 1 (by decide),fun ek=> ?_,fun ek=>zgG .i64 .u64 x 2 (by decide),rfl,rfl,rfl,rfl⟩
 ·have:=zh9 (ek:=ek) .i64 x 1 (by show x<2^64;omega) (by show 1<2^64;omega);rw[and1,wrap_i64 (by omega) (by omega)] at this;exact this
 ·have:=zh9 (ek:=ek) .i64 x 2 (by show x<2^64;omega) (by show 2<2^64;omega);rw[and2,wrap_i64 (by omega) (by omega)] at this;exact this
attribute [local simp] c_y f_y r_y_1 r_y_2 r_y_3 r_y_4 r_y_5 r_y_6 r_y_7 r_y_8 r_y_9 r_y_10 r_y_11 r_y_13
theorem zct {l:List UInt8} {n:Nat} {r:List UInt8} (h:zbn l=some (n,r)):n≤r.length∧r.length≤l.length∧n<34359738368:=by
 unfold zbn at h;cases hg:getN l with
 |none=>rw[hg] at h;cases h
 |some x=>
  obtain⟨m,q⟩:=x;rw[hg,qb] at h
  split at h
  ·cases h;obtain⟨h1,p,h2,h3⟩:=zkI hg;have:=congrArg qm h2;simp at this;exact⟨by assumption,by omega,h1⟩
  ·cases h
theorem rdvals_ok (h:RdE B M j t l dn) (hl:l.length≤1000000) (hk: ∀M' d vs r,z9 t l=some (vs,r)→RdE B M' j t r dn→Kj j M M'→Lb M' d 2 (vs.map eSv)→(∀q,q<M.next→Off d q)→k d M') (hp: ∀M',z9 t l=none→Kept B M'→kp zfx M'):ze F (.fn n_y [] []) [.ptr j 0 0] M k kp:=by
 have a:=h.j2;have c:=h.nx;refine .fn zhh rfl (by simp[f_y]) ?_;simp(disch:=((try simp only[nx3]);omega));refine zeq h (fun M1 N r1 e1 h1 k1=> ?_) (fun M' e h'=> ?_)
 ·obtain⟨w1,w2,w3⟩:=zct e1;have n1:=k1.1;have hv:z9 t l=repN (valN t) N [] r1:=by unfold z9;rw[e1];rfl
  simp(disch:=((try simp only[nx3]);omega));refine .for (σ:=VM×DV×List Sv×List UInt8) c_y_12.eq_1 (fun i z=>[(3,z.2.1),(7,I i)]) (fun z=>z.1) (fun i z=>RdE B z.1 j t z.2.2.2 dn∧Kj j M z.1∧Lb z.1 z.2.1 2 (z.2.2.1.map eSv)∧(∀q,q<M.next→Off z.2.1 q)∧repN (valN t) (N - i) z.2.2.1 z.2.2.2=z9 t l∧z.2.2.1.length=i) N (M1,.nilS,[],r1) (by simp) rfl ⟨h1,k1,.nil _ _,fun _ _=>trivial,hv.symm,rfl⟩ (fun i z hi hP again=> ?_) (fun z hP=> ?_)
  ·obtain⟨y,d,acc,r⟩:=z;obtain⟨p1,p2,p3,p4,p5,p6⟩:=hP;dsimp only at*;have eN:N - i=(N - (i+1))+1:=by omega
   rw[eN] at p5;have hdj:=p4 j a;have hdn: ∀q,¬Off dn q→Off d q:=fun q hq=>p4 q (h.ln.ltN hq);simp(disch:=((try simp only[nx3]);omega)) [hi];refine ze8 p1 (fun M2 x r2 e2 h2 k2=> ?_) (fun M' e h'=> ?_)
   ·have p3':=p3.kj hdj k2;obtain⟨hx,-⟩:=zkI e2;have n2:=k2.1;have ny:=p2.1;obtain⟨b1,b2,b3,b4,s1,s2,s3,s4,q1,q2,q3,q4⟩:=val_step hx;have pk: ∀{v:Sv} {M3 M4:VM} {d':DV},valN t r=some (v,r2)→RdE B M3 j t r2 dn→Kj j M M3→Gro M3 d M4 d'→Lb M4 d' 2 ((acc++[v]).map eSv)→RdE B M4 j t r2 dn∧Kj j M M4∧Lb M4 d' 2 ((acc++[v]).map eSv)∧(∀q,q<M.next→Off d' q)∧repN (valN t) (N - (i+1)) (acc++[v]) r2=z9 t l∧(acc++[v]).length=i+1:=fun{v M3 M4 d'} g1 g2 g3 g4 g5=>
     ⟨g2.gro g4 (fun q hq=>p4 q (by omega)) hdj hdn,g3.gro g4 p4,g5,fun q hq=>g4.of q (by have:=g3.1;omega) (p4 q hq),by rw[←p5,zep g1],by simp[p6]⟩
    by_cases hodd:x%2=1
    ·have hai:(b1:Int)=1:=by omega
     simp(disch:=((try simp only[nx3]);omega)) [s1,hai,s2];refine rdat_ok h2 b2 (fun M3 v e3 h3 n3 k3=> ?_) (fun M' e h'=> ?_)
     ·have g1:valN t r=some (v,r2):=by unfold valN;rw[e2,Option.bind_some,if_pos hodd,←q2,e3];rfl
      simp(disch:=((try simp only[nx3]);omega));refine zeQ ((p3'.keepA n3 k3).new _) (new:=[eSv v]) (by simp) (by decide) (by simp) (by simp) (by simp;omega) fun d' M' hL hG=> ?_;have again:=again (M',d',acc++[v],r2) (pk g1 h3 ((p2.trans k2).trans (.all n3 k3)) hG.pre (by simpa using hL));simp at again;simp(disch:=((try simp only[nx3]);omega));exact again
     ·have hp:=hp M' (by rw[←p5];exact zcd (by unfold valN;rw[e2,qb,if_pos hodd,←q2,e];rfl)) h';clear again;simp(disch:=((try simp only[nx3]);omega));exact hp
    ·have hai: ¬(b1:Int)=1:=by omega
     by_cases hf:x%4=0
     ·have hci:(b3:Int)=0:=by omega
      have g1:valN t r=some (⟨1,(b4:Int)⟩,r2):=by unfold valN;rw[e2,qb,if_neg hodd,if_pos hf,←q4]
      simp(disch:=((try simp only[nx3]);omega)) [s1,hai,s3,hci,s4];refine zeQ (p3'.new _) (new:=[eSv ⟨1,(b4:Int)⟩]) (by simp[eSv]) (by decide) (by simp) (by simp) (by simp;omega) fun d' M' hL hG=> ?_;have again:=again (M',d',acc++[⟨1,(b4:Int)⟩],r2) (pk g1 h2 (p2.trans k2) hG.pre (by simpa using hL));simp at again;simp(disch:=((try simp only[nx3]);omega));exact again
     ·have hci: ¬(b3:Int)=0:=by omega
      have g1:valN t r=some (⟨1,-(b4:Int) - 1⟩,r2):=by unfold valN;rw[e2,qb,if_neg hodd,if_neg hf,←q4]
      simp(disch:=((try simp only[nx3]);omega)) [s1,hai,s3,hci,s4];refine zeQ (p3'.new _) (new:=[eSv ⟨1,-(b4:Int) - 1⟩]) (by simp[eSv]) (by decide) (by simp) (by simp) (by simp;omega) fun d' M' hL hG=> ?_;have again:=again (M',d',acc++[⟨1,-(b4:Int) - 1⟩],r2) (pk g1 h2 (p2.trans k2) hG.pre (by simpa using hL));simp at again;simp(disch:=((try simp only[nx3]);omega));exact again
   ·have hp:=hp M' (by rw[←p5];exact zcd (by unfold valN;rw[e];rfl)) h';clear again;simp(disch:=((try simp only[nx3]);omega));exact hp
  ·obtain⟨y,d,acc,r⟩:=z;obtain⟨p1,p2,p3,p4,p5,p6⟩:=hP;dsimp only at*;rw[Nat.sub_self] at p5;have hk:=hk y d acc r p5.symm p1 p2 p3 p4;simp(disch:=((try simp only[nx3]);omega));exact hk
 ·have hp:=hp M' (by unfold z9;rw[e];rfl) h';simp(disch:=((try simp only[nx3]);omega));exact hp
end
end
section
variable {M M' B:VM} {k kp:DV→VM→Prop} {n0 j:Nat}
theorem RdE.names {t:List Sv} {l:List UInt8} {dn dn':DV} {v:Sv} (h:RdE B M j t l dn) (hL:Lb M' dn' 2 ((t++[v]).map eSv)) (hG:Gro M dn M' dn'):RdE B (M'.put j (.rows false 3 [[dn',.nilM,St l]])) j (t++[v]) l dn':=by
 have a:=h.j1;have c:=h.j2;have g:=h.nx;have e:=hG.nx;exact⟨zl (fun i hi=>(hG.kp i (by omega) (h.fn i hi)).trans (h.sm i hi)) h.j1,by simp;omega,h.j1,by simp;omega,by simp,hL.put (hG.of j c h.nj) _,fun i hi=>hG.of i (by omega) (h.fn i hi)⟩
theorem pairN_lt {l:List UInt8} {v:Sv} {r:List UInt8} (h:zcS l=some (v,r)):0≤v.k∧v.k<34359738368∧0≤v.n∧v.n<34359738368:=by
 unfold zcS at h;cases h1:getN l with
 |none=>rw[h1] at h;cases h
 |some x=>
  rw[h1,qb] at h;cases h2:getN x.2 with
  |none=>rw[h2] at h;cases h
  |some y=>
   rw[h2] at h;cases h;have a:=(zkI h1).1;have b:=(zkI h2).1;exact⟨by show(0:Int)≤(x.1:Int);omega,by show((x.1:Nat):Int)<_;omega,by show(0:Int)≤(y.1:Int);omega,by show((y.1:Nat):Int)<_;omega⟩
attribute [local simp] c_Z f_Z r_Z_1 r_Z_2 r_Z_3 r_Z_4 r_Z_5 r_Z_6 r_Z_7 r_Z_8 r_Z_9 r_Z_10 r_Z_11 r_Z_13
theorem zjq (l:List UInt8) (first:UInt8) (hl:l.length≤1000000) (hk: ∀M' j t r dn,zR l first=some (t,r)→RdE M M' j t r dn→k (.ptr j 0 0) M') (hp: ∀M',zR l first=none→Kept M M'→kp zfx M'):ze F (.fn n_Z [] []) [St l,zbY first] M k kp:=by
 refine .fn h_wire_start rfl (by simp[f_Z]) ?_;by_cases h3:3≤l.length
 ·obtain⟨n,hn⟩: ∃n,l.length=n+2:=⟨l.length - 2,by omega⟩;have hn2:l.length - 2=n:=by omega
  have e1:(l.length:Int) - 2=(n:Int):=by omega
  have c1: ¬(n:Int)<1:=by omega
  match l,h3,hl,hn,hn2,e1,hk,hp with
  |x::l',h3,hl,hn,hn2,e1,hk,hp=>
   have hb:zbY x=.int .u8 (x.toNat:Int):=rfl;have hb2:zbY first=.int .u8 (first.toNat:Int):=rfl
   by_cases hf:x=first
   ·have s1:=zeV (x::l') .i64 n (by omega);have s2:=zeU (x::l') .i64 n (by omega);have s3:zcb (some (I 1)) (some (I (n:Int))) (St (x::l'))=some (St (((x::l').take n).drop 1)):=zhA (x::l') .i64 .i64 1 n (by omega) (by omega);have hxf:(x.toNat:Int)=first.toNat:=by rw[hf]
    simp only[qi] at e1 hn hn2;have e1:((l'.length:Int)+1) - 2=n:=by omega
    simp(disch:=((try simp only[nx3]);omega)) [e1,c1,hb,hb2,zfr,hxf,s1,s2,s3];refine sum_ok (BV.bs _ _) (by rw[qq];simp only[qi];omega) ?_;have c5:b2sD (M.new (.rows false 1 ((crc ((x::l').take n)).map eB))) (.ms M.next 0 2 2)=some (St (crc ((x::l').take n))):=zhr (by simp[crc]);have c6: ∀ek,binD .neq ek (St (crc ((x::l').take n))) (St ((x::l').drop n))=some (.bool (!decide (crc ((x::l').take n)=(x::l').drop n))):=fun ek=>bin_sne _ _;have e2:(x::l').length - 2=n:=by simp only[qi];omega
    have hst: ∀o,zR (x::l') first=o↔(if crc ((x::l').take n)=(x::l').drop n then tabN (((x::l').take n).drop 1) else none)=o:=fun o=>by
     unfold zR zje;rw[e2];by_cases hc:crc ((x::l').take n)=(x::l').drop n
     ·rw[if_pos hc,if_pos ⟨h3,by rw[hf];rfl,hc⟩]
     ·rw[if_neg hc,if_neg (fun h=>hc h.2.2)]
    have hlr:(((x::l').take n).drop 1).length≤1000000:=by rw[qr,qq];omega
    generalize hrest:((x::l').take n).drop 1=rest at*;generalize hcr:crc ((x::l').take n)=cr at*;generalize hdr:(x::l').drop n=dr at*;by_cases hc:cr=dr
    ·simp only[if_pos hc] at hst;subst hc;simp(disch:=((try simp only[nx3]);omega)) [c5,c6,s1,s2,s3,e1];have h0:RdE M ((M.new (.rows false 1 (cr.map eB))).new (.rows false 3 [[.nilS,.nilM,St rest]])) (M.next+1) [] rest .nilS:=⟨(by repeat' (first|assumption|exact zx _ _|apply zl|apply zy|apply z6| ((try simp only[nx3]);omega))),by simp;omega,by omega,by simp,by simp,.nil _ _,fun _ _=>trivial⟩;refine zeq h0 (fun M1 N r1 e1 h1 k1=> ?_) (fun M' e h'=> ?_)
     ·obtain⟨w1,w2,w3⟩:=zct e1;have hv:tabN rest=repN zcS N [] r1:=by unfold tabN;rw[e1];rfl
      simp(disch:=((try simp only[nx3]);omega));refine .for (σ:=VM×DV×List Sv×List UInt8) c_Z_12.eq_1 (fun i z=>[(41,I i)]) (fun z=>z.1) (fun i z=>RdE M z.1 (M.next+1) z.2.2.1 z.2.2.2 z.2.1∧repN zcS (N - i) z.2.2.1 z.2.2.2=tabN rest∧z.2.2.1.length=i) N (M1,.nilS,[],r1) (by simp) rfl ⟨h1,hv.symm,rfl⟩ (fun i z hi hP again=> ?_) (fun z hP=> ?_)
      ·obtain⟨y,d,acc,r⟩:=z;obtain⟨p1,p2,p3⟩:=hP;dsimp only at*;have eN:N - i=(N - (i+1))+1:=by omega
       rw[eN] at p2;simp(disch:=((try simp only[nx3]);omega)) [hi];refine ze8 p1 (fun M2 kn r2 e2 h2 k2=> ?_) (fun M' e h'=> ?_)
       ·simp(disch:=((try simp only[nx3]);omega));refine ze8 h2 (fun M3 nn r3 e3 h3' k3=> ?_) (fun M' e h'=> ?_)
        ·have g1:zcS r=some (⟨(kn:Int),(nn:Int)⟩,r3):=by unfold zcS;rw[e2,Option.bind_some,e3];rfl
         have o3:=h3'.oj;have j3:=h3'.j2;simp(disch:=((try simp only[nx3]);omega)) [o3];refine zeQ (h3'.ln.new _) (new:=[eSv ⟨(kn:Int),(nn:Int)⟩]) (by simp[eSv]) (by decide) (by simp) (by simp) (by simp;omega) fun d' M' hL hG=> ?_;have hR:=h3'.names (v:=⟨(kn:Int),(nn:Int)⟩) (by simpa using hL) hG.pre;have o4:M'.obj (M.next+1)=some (.rows false 3 [[d,.nilM,St r3]]):=by rw[hG.pre.obj j3 h3'.nj];exact o3
         have c1:=hL.cells;have c2:=hL.cell;have again:=again (_,d',acc++[⟨(kn:Int),(nn:Int)⟩],r3) ⟨hR,by rw[←p2,zep g1],by simp[p3]⟩;simp at again;simp(disch:=((try simp only[nx3]);omega)) [o4,c1,c2];exact again
        ·have hp:=hp M' ((hst none).2 (by rw[←p2];exact zcd (by unfold zcS;rw[e2,qb,e];rfl))) h';clear again;simp(disch:=((try simp only[nx3]);omega));exact hp
       ·have hp:=hp M' ((hst none).2 (by rw[←p2];exact zcd (by unfold zcS;rw[e];rfl))) h';clear again;simp(disch:=((try simp only[nx3]);omega));exact hp
      ·obtain⟨y,d,acc,r⟩:=z;obtain⟨p1,p2,p3⟩:=hP;dsimp only at*;rw[Nat.sub_self] at p2;have hk:=hk y (M.next+1) acc r d ((hst _).2 p2.symm) p1;simp(disch:=((try simp only[nx3]);omega));exact hk
     ·have hp:=hp M' ((hst none).2 (by unfold tabN;rw[e];rfl)) h';simp(disch:=((try simp only[nx3]);omega));exact hp
    ·simp only[if_neg hc] at hst;have hp:=hp (M.new (.rows false 1 (cr.map eB))) ((hst none).2 rfl) ⟨(by repeat' (first|assumption|exact zx _ _|apply zl|apply zy|apply z6| ((try simp only[nx3]);omega))),by simp⟩;simp(disch:=((try simp only[nx3]);omega)) [c5,c6,s1,s2,s3,e1,hc];exact hp
   ·have hxf: ¬(x.toNat:Int)=first.toNat:=fun h=>hf (UInt8.toNat_inj.1 (by omega));have hp:=hp M (by unfold zR zje;rw[if_neg (fun h=>hf (by have:=h.2.1;simpa using this))]) ⟨zx _ _,Nat.le_refl _⟩;simp only[List.length_cons] at e1 hn hn2;have e1:((l'.length:Int)+1) - 2=n:=by omega
    simp(disch:=((try simp only[nx3]);omega)) [e1,c1,hb,hb2,zfr,hxf];exact hp
 ·have hp:=hp M (by unfold zR zje;rw[if_neg (fun h=>h3 h.1)]) ⟨zx _ _,Nat.le_refl _⟩;have c1:(l.length:Int) - 2<1:=by omega
  simp(disch:=((try simp only[nx3]);omega)) [c1];exact hp
end
section
variable {M M' B:VM} {k kp:DV→VM→Prop} {n0 j:Nat}
section
variable {t:List Sv} {l:List UInt8} {dn:DV}
def rdM (M M':VM) (j:Nat) (o:MO):VM:=⟨M'.next+1,fun i=>if i=j then some (o,M'.next) else if i<M.next then M.get i else none⟩
theorem rdM_kj {o:MO} (hn:M.next≤M'.next):Kj j M (rdM M M' j o):=⟨by show M.next≤M'.next+1;omega,fun i hi hj=>by
 show(if i=j then _ else if i<M.next then M.get i else none)=_;rw[if_neg hj,if_pos hi]⟩
theorem rdM_rd {r:List UInt8} (h0:RdE B M j t l dn) (h:RdE B M' j t r dn) (hn:M.next≤M'.next):RdE B (rdM M M' j (.rows false 3 [[dn,.nilM,St r]])) j t r dn:=by
 have a:=h0.j2;have c:=h0.nx;have e:=h0.j1;have kj:=rdM_kj (M:=M) (M':=M') (j:=j) (o:=.rows false 3 [[dn,.nilM,St r]]) hn;refine⟨fun i hi=>(kj.2 i (by omega) (by omega)).trans (h0.sm i hi),by have:=kj.1;omega,e,by have:=kj.1;omega,?_,h0.ln.kj h0.nj kj,h0.fn⟩;show((if j=j then some (MO.rows false 3 [[dn,.nilM,St r]],M'.next) else _)).map _=_;rw[if_pos rfl];rfl
theorem rdM_conv {r:List UInt8} (h0:RdE B M j t l dn) (kj:Kj j M M') (h:RdE B M' j t r dn):Conv M M' (rdM M M' j (.rows false 3 [[dn,.nilM,St r]])):=by
 have a:=h0.j2;have hb:zJ (M'.next+1) dn:=by
  have:=h.ln.below;rcases h.ln.v with⟨_,e⟩| ⟨q,_,_,h2,e,_⟩<;>rw[e]
  ·exact .nilS
  ·exact .ms (by omega)
 refine⟨by have:=kj.1;show M.next≤M'.next+1;omega,fun i=> ?_⟩;by_cases hi:i=j
 ·subst hi;refine .inr (.inr ⟨.rows false 3 [[dn,.nilM,St r]],M'.next,.rows false 3 [[dn,.nilM,St r]],by show(if i=i then _ else _)=_;rw[if_pos rfl],by show i<M'.next+1;have:=kj.1;omega,kj.1,by show M'.next<M'.next+1;omega,h.oj,.refl _,.rows fun x hx y hy=> ?_⟩);simp only[List.mem_singleton] at hx;subst hx;simp only[List.mem_cons,List.not_mem_nil,or_false] at hy;rcases hy with rfl|rfl|rfl
  ·exact hb
  ·exact .nilM
  ·exact .str _
 ·by_cases hl:i<M.next
  ·exact .inl ⟨by show(if i=j then _ else _)=_;rw[if_neg hi,if_pos hl],fun _=>kj.2 i hl hi⟩
  ·exact .inr (.inl (by show(if i=j then _ else _)=_;rw[if_neg hi,if_neg hl]))
theorem zkh {d:DV} {s:Nat} {rows:List (List DV)} {o:MO} (hL:Lb M' d s rows) (hf: ∀q,q<M.next→Off d q) (hj:j<M.next):Frz M' (rdM M M' j o) d (.lst s rows):=by
 rcases hL.v with⟨rfl,e⟩| ⟨q,op,cap,h2,e,h4,_⟩
 ·rw[e];exact .nilS s
 ·rw[e] at hf⊢;have hq:M.next≤q:=Classical.byContradiction fun h=>hf q (by omega) rfl;exact .ms0 h4 (by show(if q=j then _ else _)=_;rw[if_neg (by omega),if_neg (by omega)]) rfl hL.row
theorem rdvals_f (h:RdE B M j t l dn) (hl:l.length≤1000000) (hk: ∀M' vs r,z9 t l=some (vs,r)→RdE B M' j t r dn→Kj j M M'→k (.lst 2 (vs.map eSv)) M') (hp: ∀M',z9 t l=none→Kept B M'→kp zfx M'):ze F (.fn n_y [] []) [.ptr j 0 0] M k kp:=by
 refine ze.conv (rdvals_ok h hl (fun M' d vs r e h' kj hL hf=> ?_) hp);exact⟨.lst 2 (vs.map eSv),_,rdM_conv h kj h',zkh hL hf h.j2,.lst (mapb b_Sv _),hk _ vs r e (rdM_rd h h' kj.1) (rdM_kj kj.1)⟩
def setM (M:VM) (q:Nat) (x:Option (MO×Nat)):VM:=⟨M.next,fun i=>if i=q then x else M.get i⟩
theorem RdE.set (h:RdE B M j t l dn) {q:Nat} (hq:q<B.next) (o:MO):RdE (setM B q (some (o,M.next))) (M.put q o) j t l dn:=by
 have a:=h.j1;have c:=h.j2;have g:=h.nx;refine⟨fun i hi=> ?_,by show B.next≤_;simp;omega,h.j1,by simp;omega,?_,h.ln.put (h.fn q hq) o,h.fn⟩
 ·rw[get_put];show _=(if i=q then _ else B.get i)
  split
  ·rfl
  ·exact h.sm i hi
 ·rw[zbb,if_neg (by omega)];exact h.oj
end
theorem zfk {l:List UInt8} {n:Nat} {r:List UInt8} (h:getN l=some (n,r)):r.length+1≤l.length:=by
 obtain⟨_,p,h2,h3⟩:=zkI h;have:=congrArg qm h2;simp at this;omega
theorem zdX {t:List Sv} {k:Int} {l:List UInt8} {n:Int} {r:List UInt8} (h:zT t k l=some (n,r)):r.length+1≤l.length:=by
 unfold zT at h;cases h1:getN l with
 |none=>rw[h1] at h;cases h
 |some x=>
  rw[h1,qb] at h;cases h2:t[x.1]? with
  |none=>rw[h2] at h;cases h
  |some v=>
   rw[h2,qb] at h
   split at h
   ·cases h;exact zfk h1
   ·cases h
theorem valN_le {t:List Sv} {l:List UInt8} {v:Sv} {r:List UInt8} (h:valN t l=some (v,r)):r.length+1≤l.length:=by
 unfold valN at h;cases h1:getN l with
 |none=>rw[h1] at h;cases h
 |some x=>
  rw[h1,qb] at h;have:=zfk h1
  split at h
  ·cases h2:t[x.1 / 2]? with
   |none=>rw[h2] at h;cases h
   |some v=>rw[h2] at h;cases h;exact this
  ·split at h<;>(cases h;exact this)
theorem pairN_le {l:List UInt8} {v:Sv} {r:List UInt8} (h:zcS l=some (v,r)):r.length+1≤l.length:=by
 unfold zcS at h;cases h1:getN l with
 |none=>rw[h1] at h;cases h
 |some x=>
  rw[h1,qb] at h;cases h2:getN x.2 with
  |none=>rw[h2] at h;cases h
  |some y=>
   rw[h2] at h;cases h;have a:=zfk h1;have b:=zfk h2;omega
theorem zit {α:Type} {f:List UInt8→Option (α×List UInt8)} (hf: ∀l x r,f l=some (x,r)→r.length+1≤l.length): ∀(n:Nat) (a:List α) (l:List UInt8) (b:List α) (r:List UInt8),repN f n a l=some (b,r)→r.length+n≤l.length
 |0,a,l,b,r,h=>by cases h;simp
 |n+1,a,l,b,r,h=>by
  rw[zcR] at h;cases h1:f l with
  |none=>rw[h1] at h;cases h
  |some x=>
   rw[h1,qb] at h;have:=zit hf n _ _ _ _ h;have:=hf l x.1 x.2 h1;omega
theorem tabN_le {l:List UInt8} {t:List Sv} {r:List UInt8} (h:tabN l=some (t,r)):r.length≤l.length∧t.length≤l.length:=by
 unfold tabN at h;cases h1:zbn l with
 |none=>rw[h1] at h;cases h
 |some x=>
  rw[h1,qb] at h;have a:=zct (n:=x.1) (r:=x.2) h1;have b:=zit (fun l x r h=>pairN_le h) _ _ _ _ _ h;have c:=zhG _ _ _ _ _ h;simp at c;exact⟨by omega,by omega⟩
theorem zeS {t:List Sv} {l:List UInt8} {vs:List Sv} {r:List UInt8} (h:z9 t l=some (vs,r)):r.length+vs.length≤l.length:=by
 unfold z9 at h;cases h1:zbn l with
 |none=>rw[h1] at h;cases h
 |some x=>
  rw[h1,qb] at h;have a:=zct (n:=x.1) (r:=x.2) h1;have b:=zit (fun l x r h=>valN_le h) _ _ _ _ _ h;have c:=zhG _ _ _ _ _ h;simp at c;omega
theorem zdp {b:List UInt8} {f:UInt8} {t:List Sv} {r:List UInt8} (h:zR b f=some (t,r)):r.length≤b.length∧t.length≤b.length:=by
 unfold zR at h
 split at h
 ·have:=tabN_le h;simp at this;omega
 ·cases h
attribute [local simp] r_bF c_bF f_bF r_bF_1 r_bF_2 r_bF_3
theorem open1_ok {b:List UInt8} {q1 q2:Nat} (hl:b.length≤1000000) (h1:M.obj q1=some (.rows false 1 [[St b]])) (h2:M.obj q2=some (.rows false 2 [[I 0,.nilS]])) (hq1:q1<M.next) (hq2:q2<M.next) (hne:q1≠q2)
 (hk: ∀M' x,(zR b 77).bind ltN=some x→M.next≤M'.next→(∀i,i<M.next→i≠q2→M'.get i=M.get i)→M'.obj q2=some (.rows false 2 [eLt x])→k (.tup []) M')
 (hp: ∀M',(zR b 77).bind ltN=none→M.next≤M'.next→(∀i,i<M.next→i≠q2→M'.get i=M.get i)→kp zfx M'):ze F (.fn n_bF [] [.ptr q1 0 0,.ptr q2 0 0]) [] M k kp:=by
 refine .fn h_wire_Open_1 rfl (by simp[f_bF]) ?_;simp(disch:=((try simp only[nx3]);omega)) [h1];refine zjq b 77 hl (fun M1 j t r dn e1 r1=> ?_) (fun M1 e1 r1=> ?_)
 ·obtain⟨le1,le2⟩:=zdp e1;simp(disch:=((try simp only[nx3]);omega));refine zhI r1 3 (fun M2 n r2 e2 h2' kj2=> ?_) (fun M2 e2 h2'=> ?_)
  ·have le3:=zdX e2;have o2:M2.obj q2=some (.rows false 2 [[I 0,.nilS]]):=by show(M2.get q2).map _=_;rw[h2'.sm q2 hq2];exact h2
   have r3:=h2'.set hq2 (.rows false 2 [[I n,.nilS]]);simp(disch:=((try simp only[nx3]);omega)) [o2];refine rdvals_f r3 (by omega) (fun M4 vs r4 e4 h4 kj4=> ?_) (fun M4 e4 h4=> ?_)
   ·have s4: ∀i,i<M.next→M4.get i=(setM M q2 (some (.rows false 2 [[I n,.nilS]],M2.next))).get i:=h4.sm;have n4:M.next≤M4.next:=h4.nx;have o4:M4.obj q2=some (.rows false 2 [[I n,.nilS]]):=by
     show(M4.get q2).map _=_;rw[s4 q2 hq2];show Option.map Prod.fst (if q2=q2 then _ else _)=_;rw[if_pos rfl];rfl
    have hk:=hk (M4.put q2 (.rows false 2 [eLt ⟨n,vs⟩])) ⟨n,vs⟩ (by rw[e1,qb];unfold ltN;rw[e2,qb,e4];rfl) (by simp;omega) (fun i hi hn=>by
     rw[get_put,if_neg hn,s4 i hi];show(if i=q2 then _ else M.get i)=_;rw[if_neg hn]) (by simp)
    simp(disch:=((try simp only[nx3]);omega)) [o4];exact hk
   ·have s4: ∀i,i<M.next→M4.get i=(setM M q2 (some (.rows false 2 [[I n,.nilS]],M2.next))).get i:=h4.1;have hp:=hp M4 (by rw[e1,qb];unfold ltN;rw[e2,qb,e4];rfl) h4.2 (fun i hi hn=>by
     rw[s4 i hi];show(if i=q2 then _ else M.get i)=_;rw[if_neg hn])
    simp(disch:=((try simp only[nx3]);omega));exact hp
  ·have hp:=hp M2 (by rw[e1,qb];unfold ltN;rw[e2];rfl) h2'.2 fun i hi _=>h2'.1 i hi;simp(disch:=((try simp only[nx3]);omega));exact hp
 ·have hp:=hp M1 (by rw[e1];rfl) r1.2 fun i hi _=>r1.1 i hi;simp(disch:=((try simp only[nx3]);omega));exact hp
attribute [local simp] c_7 f_7 r_7_2 r_7_3 r_7_4 r_7_5 r_7_6 r_7_7 r_7_8
theorem ltN_len {b:List UInt8} {x:Lt} (h:(zR b 77).bind ltN=some x):x.vs.length≤b.length:=by
 cases h1:zR b 77 with
 |none=>rw[h1] at h;cases h
 |some y=>
  rw[h1,qb] at h;have a:=zdp (t:=y.1) (r:=y.2) h1;unfold ltN at h;cases h2:zT y.1 3 y.2 with
  |none=>rw[h2] at h;cases h
  |some z=>
   rw[h2,qb] at h;have c:=zdX (n:=z.1) (r:=z.2) h2;cases h3:z9 y.1 z.2 with
   |none=>rw[h3] at h;cases h
   |some w=>
    rw[h3] at h;cases h;have d:=zeS (vs:=w.1) (r:=w.2) h3;show w.1.length≤_;omega
theorem zcA {e:Int} (h:SM M.next M M') (hk:k (.tup [.agg (eLt ⟨0,[]⟩),I e]) M):Back k M (.tup [.agg [I 0,.nilS],I e]) M':=fun _=>by
 refine⟨_,?_,?_,h,hk⟩
 ·refine .tup rfl fun i d e a b=> ?_
  match i with
  |0=>
   cases a;cases b;refine .agg rfl fun i d e a b=> ?_
   match i with
   |0=>cases a;cases b;exact .refl _
   |1=>cases a;cases b;exact .nilS 2
   |i+2=>simp at a
  |1=>cases a;cases b;exact .refl _
  |i+2=>simp at a
 ·refine .tup fun d hd=> ?_;simp only[List.mem_cons,List.not_mem_nil,or_false] at hd;rcases hd with rfl|rfl
  ·exact .agg (b_Lt _)
  ·exact .int _ _
theorem Open_ok (b:List UInt8) (hk:k (.tup [.agg (eLt (zfY b).1),I (zfY b).2]) M):ze F (.fn n_7 [] []) [St b] M k kp:=by
 unfold zfY at hk;apply ze.back;refine .fn h_wire_Open rfl (by simp[f_7]) ?_;by_cases hl:80000<b.length
 ·rw[if_pos hl] at hk;have hli:(80000:Int)<b.length:=by omega
  simp(disch:=((try simp only[nx3]);omega)) [hli];exact zcA (by repeat' (first|assumption|exact zx _ _|apply zl|apply zy|apply z6| ((try simp only[nx3]);omega))) hk
 ·rw[if_neg hl] at hk;have hli: ¬(80000:Int)<b.length:=by omega
  simp(disch:=((try simp only[nx3]);omega)) [hli];obtain⟨Y,hY⟩: ∃Y,Y=((M.new (.rows false 1 [[St b]])).new (.rows false 2 [[I 0,.nilS]])).new (.rows false 2 [[I 0,.nilS]]):=⟨_,rfl⟩;have y0:Y.next=M.next+1+1+1:=by rw[hY];simp
  have y1:Y.obj M.next=some (.rows false 1 [[St b]]):=by rw[hY,zbl _ (by simp;omega),zbl _ (by simp)];simp
  have y2:Y.obj (M.next+1)=some (.rows false 2 [[I 0,.nilS]]):=by rw[hY,zbl _ (by simp),zfb,if_pos (by simp)]
  have y3:Y.obj (M.next+1+1)=some (.rows false 2 [[I 0,.nilS]]):=by rw[hY,zfb,if_pos (by simp)]
  have y4: ∀i,i<M.next→Y.get i=M.get i:=fun i hi=>by rw[hY,get_new,if_neg (by simp;omega),get_new,if_neg (by simp;omega),get_new,if_neg (by omega)]
  rw[←hY];refine zmb ?_;have z1:(Y.new (.rows false 1 [[.bool false]])).obj M.next=some (.rows false 1 [[St b]]):=by rw[zbl _ (by omega)];exact y1
  have z3:(Y.new (.rows false 1 [[.bool false]])).obj (M.next+1+1)=some (.rows false 2 [[I 0,.nilS]]):=by rw[zbl _ (by omega)];exact y3
  refine open1_ok (by omega) z1 z3 (by simp;omega) (by simp;omega) (by omega) (fun M' x ex n1 k1 o1=> ?_) (fun M' ex n1 k1=> ?_)
  ·have g1:M'.obj Y.next=some (.rows false 1 [[.bool false]]):=by
    show(M'.get Y.next).map _=_;rw[k1 _ (by simp) (by omega),get_new,if_pos rfl];rfl
   refine⟨g1,?_⟩;rw[ex] at hk;dsimp only at hk;have hxl:=ltN_len ex;have a1:M.next≠Y.next:=by omega
   have a2:M.next+1≠Y.next:=by omega
   have a3:M.next+1+1≠Y.next:=by omega
   have g2:M'.obj M.next=some (.rows false 1 [[St b]]):=by
    show(M'.get _).map _=_;rw[k1 _ (by simp;omega) (by omega)];exact z1
   have g3:M'.obj (M.next+1)=some (.rows false 2 [[I 0,.nilS]]):=by
    show(M'.get _).map _=_;rw[k1 _ (by simp;omega) (by omega),get_new,if_neg (by omega)];exact y2
   have g4:SM M.next M (M'.put Y.next (.rows false 1 [[.bool true]])):=fun i hi=>by
    rw[get_put,if_neg (by omega),k1 i (by simp;omega) (by omega),get_new,if_neg (by omega)];exact y4 i hi
   have nM:M.next+1+1+1+1≤M'.next:=by simp at n1;omega
   have wL:zq [I 0,.nilS] 0 (eLt x)=some (eLt x):=rfl;simp(disch:=((try simp only[nx3]);omega)) [o1,a1,a2,a3];refine⟨(by intro y hy;simp only[eLt,ql,qj,or_false] at hy;rcases hy with rfl|rfl<;>rfl),?_⟩;refine proper_ok x (by omega) ?_;by_cases hpr:zej x
   ·rw[decide_eq_true hpr];simp(disch:=((try simp only[nx3]);omega)) [o1,a1,a2,a3];refine⟨(by intro y hy;simp only[eLt,List.mem_cons,List.not_mem_nil,or_false] at hy;rcases hy with rfl|rfl<;>rfl),?_⟩;refine letter_ok hpr ?_;by_cases he:encLt x=b
    ·rw[if_pos ⟨hpr,he⟩] at hk;simp(disch:=((try simp only[nx3]);omega)) [o1,g2,g3,a1,a2,a3,he,wL];refine Back.plain (.tup fun d hd=> ?_) (zl g4 (by omega)) hk;simp only[List.mem_cons,List.not_mem_nil,or_false] at hd;rcases hd with rfl|rfl
     ·exact .agg (b_Lt _)
     ·exact .int _ _
    ·rw[if_neg (fun h=>he h.2)] at hk;simp(disch:=((try simp only[nx3]);omega)) [o1,g2,g3,a1,a2,a3,he];exact zcA (zl g4 (by omega)) hk
   ·rw[decide_eq_false hpr];rw[if_neg (fun h=>hpr h.1)] at hk;simp(disch:=((try simp only[nx3]);omega)) [o1,g2,g3,a1,a2,a3];exact zcA (zl g4 (by omega)) hk
  ·have g1:M'.obj Y.next=some (.rows false 1 [[.bool false]]):=by
    show(M'.get Y.next).map _=_;rw[k1 _ (by simp) (by omega),get_new,if_pos rfl];rfl
   refine⟨⟨_,_,rfl⟩,g1,?_⟩;rw[ex] at hk;dsimp only at hk;have a2:M.next+1≠Y.next:=by omega
   have g3:M'.obj (M.next+1)=some (.rows false 2 [[I 0,.nilS]]):=by
    show(M'.get _).map _=_;rw[k1 _ (by simp;omega) (by omega),get_new,if_neg (by omega)];exact y2
   have g4:SM M.next M (M'.put Y.next (.rows false 1 [[.bool false]])):=fun i hi=>by
    rw[get_put,if_neg (by omega),k1 i (by simp;omega) (by omega),get_new,if_neg (by omega)];exact y4 i hi
   simp(disch:=((try simp only[nx3]);omega)) [g3,a2];exact zcA (zl g4 (by omega)) hk
end
section
variable {M M':VM} {B:Base} {k kp:DV→VM→Prop} {n0 j:Nat}
structure QdE (B:Base) (M:VM) (j:Nat) (b:List UInt8) (t:List Sv) (dn:DV) (a:Nat) (q:Bool):Prop where
 sm: ∀i,B.fr i→M.get i=B.m.get i
 nx: ∀i,B.fr i→i<M.next
 j1: ¬B.fr j
 j2:j<M.next
 oj:M.obj j=some (.rows false 4 [[St b,I (a:Int),dn,.bool q]])
 ln:Lb M dn 2 (t.map eSv)
 fn: ∀i,B.fr i→Off dn i
 al:a≤b.length
 bl:b.length≤1000000
def sx (b:List UInt8) (a:Nat) (q:Bool):Option (List UInt8):=if q=true then none else some (b.drop a)
def Qd (B:Base) (M:VM) (j:Nat) (b:List UInt8) (t:List Sv) (dn:DV) (S:Option (List UInt8)):Prop:= ∃a q,QdE B M j b t dn a q∧S=sx b a q
section
variable {b:List UInt8} {t:List Sv} {dn:DV} {a:Nat} {q:Bool} {S:Option (List UInt8)}
theorem QdE.nj (h:QdE B M j b t dn a q):Off dn j:=h.ln.off h.oj (fun op e=>by cases e)
theorem QdE.keep (h:QdE B M j b t dn a q) (hn:M.next≤M'.next) (hk: ∀i,i<M.next→M'.get i=M.get i):QdE B M' j b t dn a q:=by
 have a:=h.j2;refine⟨fun i hi=>(hk i (h.nx i hi)).trans (h.sm i hi),fun i hi=>by have:=h.nx i hi;omega,h.j1,by omega,?_,h.ln.keepA hn hk,h.fn,h.al,h.bl⟩;rw[←h.oj];show(M'.get j).map _=(M.get j).map _;rw[hk j a]
theorem QdE.set (h:QdE B M j b t dn a q) {a':Nat} (q':Bool) (ha:a'≤b.length):QdE B (M.put j (.rows false 4 [[St b,I (a':Int),dn,.bool q']])) j b t dn a' q':=by
 have c:=h.j2;exact⟨fun i hi=>by have hne:i≠j:=(fun e=>h.j1 (by rw[←e];exact hi));rw[get_put,if_neg hne];exact h.sm i hi,fun i hi=>by have:=h.nx i hi;simp;omega,h.j1,by simp;omega,by simp,h.ln.put h.nj _,h.fn,ha,h.bl⟩
theorem Qd.keep (h:Qd B M j b t dn S) (hn:M.next≤M'.next) (hk: ∀i,i<M.next→M'.get i=M.get i):Qd B M' j b t dn S:=by
 obtain⟨a,q,h,e⟩:=h;exact⟨a,q,h.keep hn hk,e⟩
theorem Qd.j2 (h:Qd B M j b t dn S):j<M.next:=by
 obtain⟨a,q,h,e⟩:=h;exact h.j2
theorem Qd.nx (h:Qd B M j b t dn S): ∀i,B.fr i→i<M.next:=by
 obtain⟨a,q,h,e⟩:=h;exact h.nx
theorem sx_bad (b:List UInt8) (a:Nat):sx b a true=none:=rfl
theorem zlf (b:List UInt8) (a:Nat):sx b a false=some (b.drop a):=rfl
attribute [local simp] c_e f_e r_e_1 r_e_2 r_e_3 r_e_4 r_e_5 r_e_6 r_e_7 r_e_8 r_e_9 r_e_10 r_e_11 r_e_12 r_e_13 r_e_14 r_e_15 r_e_17 r_e_18
theorem zg7 (h:Qd B M j b t dn S) (hk: ∀M' n,Qd B M' j b t dn ((S.bind getN).map (·.2))→Kj j M M'→n<34359738368→(∀m r,S.bind getN=some (m,r)→n=m)→k (I (n:Int)) M'):ze F (.fn n_e [] []) [.ptr j 0 0] M k kp:=by
 obtain⟨a,q,h,rfl⟩:=h;have bl:=h.bl;refine .fn zdA rfl (by simp[f_e]) ?_;simp(disch:=((try simp only[nx3]);omega));refine .for (σ:=VM×Nat×Nat) c_e_16.eq_1 (fun i z=>[(3,I (z.2.1:Int)),(4,I (z.2.2:Int)),(5,I i)]) (fun z=>z.1) (fun i z=>QdE B z.1 j b t dn (a+i) q∧z.2.1<2^(7*i)∧z.2.2=2^(7*i)∧getA (5 - i) (2^(7*i)) z.2.1 (b.drop (a+i))=getN (b.drop a)∧Kj j M z.1) 5 (M,0,1) (by simp) rfl ⟨h,by show 0<2^(7*0);decide,rfl,rfl,.refl _ _⟩ (fun i z hi hP again=> ?_) (fun z hP=> ?_)
 ·obtain⟨y,n,u⟩:=z;obtain⟨p1,p2,p3,p4,p5⟩:=hP;dsimp only at*;have o1:=p1.oj;have al:=p1.al;have e5:5 - i=(5 - (i+1))+1:=by omega
  rw[e5] at p4;by_cases hend:a+i<b.length
  ·have hx:=(b[a+i]).toNat_lt;have hd:b.drop (a+i)=b[a+i]::b.drop (a+(i+1)):=by rw[List.drop_eq_getElem_cons hend];rfl
   have hix:zil (St b) (I ((a:Int)+i))=some (zbY b[a+i]):=by
    rw[show(a:Int)+i=((a+i:Nat):Int) by omega,strIdx_at,qk hend];rfl
   rw[hd] at p4;have hend2: ¬(b.length:Int)≤a+i:=by omega
   generalize hxv:b[a+i]=x at*;have hb:zbY x=.int .u8 (x.toNat:Int):=rfl;have c0:=conv_i64 .u8 x.toNat (by omega);have c1: ∀ek,binD .rem ek (I (x.toNat:Int)) (I 128)=some (I ((x.toNat%128:Nat):Int)):=fun ek=>zfp (ek:=ek) .i64 x.toNat 128 (by decide);obtain⟨_,_,_,_,_,_,hz,hlt,h35⟩:=get_step (x:=x.toNat) hx hi p2 (i:=7*i) rfl;rw[hz] at hlt h35;have hpw:(2:Nat)^(7*(i+1))=2^(7*i)*128:=getA_pow i;have hm1:x.toNat%128*u<34359738368:=by rw[p3];omega
   have hu1:u*128≤34359738368:=by
    rw[p3,←hpw];exact qE (qB (by decide) (show 7*(i+1)≤35 by omega)) (by decide)
   have p1':=p1.set (a':=a+(i+1)) q (by omega);unfold getA at p4;have c2: ∀ek,binD .mul ek (I ((x.toNat%128:Nat):Int)) (I (u:Int))=some (I ((x.toNat%128*u:Nat):Int)):=fun ek=>by
    rw[bin_mul,←Int.natCast_mul,zI (by omega) (by omega)]
   have e1:(((a+(i+1):Nat)):Int)=(a:Int)+i+1:=by omega
   rw[e1] at p1';have hlow2:n+x.toNat%128*u<34359738368:=by rw[p3];exact h35
   by_cases hlow:x.toNat<128
   ·rw[if_pos hlow] at p4;have hm:x.toNat%128=x.toNat:=Nat.mod_eq_of_lt hlow;rw[←p3,←hm] at p4;have hli:(x.toNat:Int)<128:=by omega
    have hk:=hk _ (n+x.toNat%128*u) ⟨_,_,p1',by
     cases q with
     |true=>rfl
     |false=>rw[zlf,zlf,qb,←p4];rfl⟩               (p5.trans (.put _ _ _)) (by omega) (fun m r e=>by
     cases q with
     |true=>cases e
     |false=>rw[zlf,qb,←p4] at e;cases e;rfl)
    clear again;generalize x.toNat%128*u=w at*;generalize x.toNat%128=w0 at*;rw[show((n+w:Nat):Int)=(n:Int)+w by omega] at hk;simp(disch:=((try simp only[nx3]);omega)) [o1,hend2,hix,hb,c0,c1,c2,hli];exact hk
   ·rw[if_neg hlow] at p4;rw[←p3] at p4;have hli: ¬(x.toNat:Int)<128:=by omega
    have again:=again (_,n+x.toNat%128*u,u*128) ⟨p1',by rw[p3];exact hlt,by dsimp only;rw[hpw,p3],by rw[hpw,←p3];exact p4,p5.trans (.put _ _ _)⟩;generalize x.toNat%128*u=w at*;generalize x.toNat%128=w0 at*;simp at again;simp(disch:=((try simp only[nx3]);omega)) [o1,hend2,hix,hb,c0,c1,c2,hli];exact again
  ·have hd:b.drop (a+i)=[]:=List.drop_eq_nil_of_le (by omega);rw[hd] at p4;have hend2:(b.length:Int)≤a+i:=by omega
   have hg:(sx b a q).bind getN=none:=by
    cases q with
    |true=>rfl
    |false=>rw[zlf,qb,←p4];rfl
   have hk:=hk _ 0 ⟨_,_,p1.set (a':=a+i) true (by omega),by rw[hg];rfl⟩ (p5.trans (.put _ _ _)) (by omega) (fun m r e=>by rw[hg] at e;cases e);clear again;simp at hk;simp(disch:=((try simp only[nx3]);omega)) [o1,hend2];exact hk
 ·obtain⟨y,n,u⟩:=z;obtain⟨p1,p2,p3,p4,p5⟩:=hP;dsimp only at*;have o1:=p1.oj;have hg:(sx b a q).bind getN=none:=by
   cases q with
   |true=>rfl
   |false=>rw[zlf,qb,←p4];rfl
  have hk:=hk _ 0 ⟨_,_,p1.set (a':=a+5) true p1.al,by rw[hg];rfl⟩ (p5.trans (.put _ _ _)) (by omega) (fun m r e=>by rw[hg] at e;cases e);simp at hk;simp(disch:=((try simp only[nx3]);omega)) [o1];exact hk
theorem bind_many (S:Option (List UInt8)):S.bind zbn=(S.bind getN).bind fun x=>if x.1≤x.2.length then some x else none:=by cases S<;>rfl
theorem bind_name (S:Option (List UInt8)) (t:List Sv) (kd:Int):S.bind (zT t kd)=(S.bind getN).bind fun x=>(t[x.1]?).bind fun v=>if v.k=kd then some (v.n,x.2) else none:=by cases S<;>rfl
attribute [local simp] c_w f_w r_w_1 r_w_2 r_w_3 r_w_4 r_w_5 r_w_6 c_C f_C r_C_1 r_C_2 r_C_3 r_C_4 r_C_5 r_C_6
theorem zer (h:Qd B M j b t dn S) (hk: ∀M' n,Qd B M' j b t dn ((S.bind zbn).map (·.2))→Kj j M M'→n≤b.length→(∀m r,S.bind zbn=some (m,r)→n=m)→k (I (n:Int)) M'):ze F (.fn n_w [] []) [.ptr j 0 0] M k kp:=by
 rw[bind_many] at hk;refine .fn zc8 rfl (by simp[f_w]) ?_;simp(disch:=((try simp only[nx3]);omega));refine zg7 h fun M1 n h1 k1 hn he=> ?_;obtain⟨a,q,h1,e1⟩:=h1;have o1:=h1.oj;have al:=h1.al;have bl:=h1.bl;by_cases hc:n≤b.length - a
 ·have hk:=hk M1 n ⟨a,q,h1,by
   rw[←e1];cases hg:S.bind getN with
   |none=>rfl
   |some x=>
    obtain⟨m,r⟩:=x;rw[hg] at e1 he;have hm:=he m r rfl;cases q with
    |true=>cases e1
    |false=>
     rw[zlf] at e1;have e1:r=b.drop a:=qv e1;rw[qb,if_pos (by rw[e1,qr];omega)]⟩                                          k1 (by omega) (fun m r e=>by
    cases hg:S.bind getN with
    |none=>rw[hg] at e;cases e
    |some x=>
     rw[hg,qb] at e
     split at e
     ·cases e;exact he _ _ hg
     ·cases e)
  have hci: ¬(b.length:Int) - a<n:=by omega
  simp(disch:=((try simp only[nx3]);omega)) [o1,hci];exact hk
 ·have hk:=hk _ 0 ⟨a,true,h1.set true al,by
   cases hg:S.bind getN with
   |none=>rfl
   |some x=>
    obtain⟨m,r⟩:=x;rw[hg] at e1 he;have hm:=he m r rfl;cases q with
    |true=>cases e1
    |false=>
     rw[zlf] at e1;have e1:r=b.drop a:=qv e1;rw[qb,if_neg (by rw[e1,qr];omega)];rfl⟩                                          (k1.trans (.put _ _ _)) (by omega) (fun m r e=>by
    cases hg:S.bind getN with
    |none=>rw[hg] at e;cases e
    |some x=>
     obtain⟨m',r'⟩:=x;rw[hg,qb] at e;rw[hg] at e1 he;have hm:=he _ _ rfl
     split at e
     ·rename_i hle;cases q with
      |true=>cases e1
      |false=>
       rw[zlf] at e1;have e1:r'=b.drop a:=qv e1;rw[e1,qr] at hle;dsimp only at hle;omega
     ·cases e)
  have hci:(b.length:Int) - a<n:=by omega
  simp at hk;simp(disch:=((try simp only[nx3]);omega)) [o1,hci];exact hk
theorem zhF (h:Qd B M j b t dn S) (kd:Int) (hk: ∀M' n,Qd B M' j b t dn ((S.bind (zT t kd)).map (·.2))→Kj j M M'→(∀m r,S.bind (zT t kd)=some (m,r)→n=m)→k (I n) M'):ze F (.fn n_C [] []) [.ptr j 0 0,I kd] M k kp:=by
 rw[bind_name] at hk;refine .fn zdh rfl (by simp[f_C]) ?_;simp(disch:=((try simp only[nx3]);omega));refine zg7 h fun M1 n h1 k1 hn he=> ?_;obtain⟨a,q,h1,e1⟩:=h1;have o1:=h1.oj;have al:=h1.al;have j2:=h1.j2;have hbad:(∀v,t[n]? =some v→v.k≠kd)→ ∀m r,((S.bind getN).bind fun x=>(t[x.1]?).bind fun v=>if v.k=kd then some (v.n,x.2) else none)≠some (m,r):=by
  intro hv m r e;cases hg:S.bind getN with
  |none=>rw[hg] at e;cases e
  |some x=>
   rw[hg,qb] at e;have hm:=he x.1 x.2 hg;cases ht:t[x.1]? with
   |none=>rw[ht] at e;cases e
   |some v=>
    rw[ht,qb,if_neg (hv v (by rw[hm];exact ht))] at e;cases e
 have hbn:(∀v,t[n]? =some v→v.k≠kd)→((S.bind getN).bind fun x=>(t[x.1]?).bind fun v=>if v.k=kd then some (v.n,x.2) else none)=none:=fun hv=>by
  cases hg:((S.bind getN).bind fun x=>(t[x.1]?).bind fun v=>if v.k=kd then some (v.n,x.2) else none) with
  |none=>rfl
  |some x=>exact absurd hg (hbad hv _ _)
 have bad:=fun hv=>hk _ 0 ⟨a,true,h1.set true al,by rw[hbn hv];rfl⟩ (k1.trans (.put _ _ _)) (fun m r e=>absurd e (hbad hv m r));by_cases hi:n<t.length
 ·have hni: ¬(t.length:Int)≤n:=by omega
  have hln:=h1.ln;have hnj:=h1.nj;rcases hln.v with⟨e,_⟩| ⟨p,op,cap,h2,e,h4,_⟩
  ·have:=congrArg qm e;simp at this;rw[this] at hi;simp at hi
  subst e;have hget:t[n]? =some t[n]:=qk hi;by_cases hkd:t[n].k=kd
  ·have hk:=hk M1 t[n].n ⟨a,q,h1,by
    rw[←e1];cases hg:S.bind getN with
    |none=>rfl
    |some x=>
     have hm:=he x.1 x.2 hg;rw[qb,←hm,hget,qb,if_pos hkd];rfl⟩                             k1 (fun m r e=>by
     cases hg:S.bind getN with
     |none=>rw[hg] at e;cases e
     |some x=>
      have hm:=he x.1 x.2 hg;rw[hg,qb,←hm,hget,qb,if_pos hkd] at e;cases e;rfl)
   clear bad hbad hbn;generalize hx:t[n]=v at*;simp(disch:=((try simp only[nx3]);omega)) [o1,hni,hi,h4,hx,eSv,hkd];exact hk
  ·have bad:=bad (fun v hv=>by rw[hget] at hv;cases hv;exact hkd);clear hk hbad hbn;generalize hx:t[n]=v at*
   try simp at bad
   simp(disch:=((try simp only[nx3]);omega)) [o1,hni,hi,h4,hx,eSv,hkd];exact bad
 ·have hni:(t.length:Int)≤n:=by omega
  have bad:=bad (fun v hv=>by rw[qt (by omega)] at hv;cases hv);clear hk hbad hbn
  try simp at bad
  simp(disch:=((try simp only[nx3]);omega)) [o1,h1.ln.len,hni];exact bad
end
end
section
variable {M M':VM} {B:Base} {k kp:DV→VM→Prop} {n0 j:Nat}
theorem repN_snoc {α:Type} (f:List UInt8→Option (α×List UInt8)): ∀(n:Nat) (a:List α) (l:List UInt8),repN f (n+1) a l=(repN f n a l).bind fun x=>(f x.2).map fun y=>(x.1++[y.1],y.2)
 |0,a,l=>by
  rw[zcR];show(f l).bind (fun x=>some (a++[x.1],x.2))=(f l).map _;cases f l<;>rfl
 |n+1,a,l=>by
  rw[zcR]
  conv=>rhs;rw[zcR]
  cases h:f l with
  |none=>rfl
  |some x=>rw[qb,qb];exact repN_snoc f n _ _
def Xr {α:Type} (f:List UInt8→Option (α×List UInt8)) (S:Option (List UInt8)) (i:Nat):Option (List α×List UInt8):=S.bind fun l=>repN f i [] l
theorem zdb {α:Type} (f:List UInt8→Option (α×List UInt8)) (S:Option (List UInt8)):Xr f S 0=S.map fun l=>([],l):=by cases S<;>rfl
theorem zlb {α:Type} (f:List UInt8→Option (α×List UInt8)) (S:Option (List UInt8)) (i:Nat):Xr f S (i+1)=(Xr f S i).bind fun x=>(f x.2).map fun y=>(x.1++[y.1],y.2):=by
 cases S with
 |none=>rfl
 |some l=>exact repN_snoc f i [] l
theorem Xr_none {α:Type} {f:List UInt8→Option (α×List UInt8)} {S:Option (List UInt8)} {i:Nat} (h:Xr f S i=none): ∀n,i≤n→Xr f S n=none
 |0,hn=>by have:i=0:=by omega
           subst this;exact h
 |n+1,hn=>by
  by_cases e:i=n+1
  ·subst e;exact h
  ·rw[zlb,Xr_none h n (by omega)];rfl
theorem bind_rep {α:Type} {f:List UInt8→Option (α×List UInt8)} {S:Option (List UInt8)} {N:Nat} (h: ∀m r,S.bind zbn=some (m,r)→N=m):(S.bind fun l=>(zbn l).bind fun x=>repN f x.1 [] x.2)=Xr f ((S.bind zbn).map (·.2)) N:=by
 cases S with
 |none=>rfl
 |some l=>
  rw[qb] at h⊢;cases hm:zbn l with
  |none=>rw[qb,hm];rfl
  |some x=>
   rw[hm] at h;rw[h x.1 x.2 rfl];show _=Xr f ((zbn l).map _) _;rw[hm];rfl
def valV (t:List Sv) (x:Nat):Option Sv:=if x%2=1 then t[x / 2]? else if x%4=0 then some ⟨1,((x / 4:Nat):Int)⟩ else some ⟨1,-((x / 4:Nat):Int) - 1⟩
theorem valN_eq (t:List Sv) (l:List UInt8):valN t l=(getN l).bind fun y=>(valV t y.1).map (·,y.2):=by
 unfold valN valV;cases getN l with
 |none=>rfl
 |some y=>
  rw[qb,qb]
  split
  ·rfl
  ·split<;>rfl
theorem X_val {t:List Sv} {S:Option (List UInt8)} {i x:Nat} {acc:List Sv} {v:Sv} (hv:valV t x=some v) (ha: ∀m r,Xr (valN t) S i=some (m,r)→acc=m) (hx: ∀m r,((Xr (valN t) S i).map (·.2)).bind getN=some (m,r)→x=m):
 (Xr (valN t) S (i+1)).map (·.2)=(((Xr (valN t) S i).map (·.2)).bind getN).map (·.2)∧ ∀m r,Xr (valN t) S (i+1)=some (m,r)→acc++[v]=m:=by
 rw[zlb];cases h:Xr (valN t) S i with
 |none=>exact⟨rfl,nofun⟩
 |some p=>
  obtain⟨m0,r0⟩:=p;have:=ha m0 r0 h;subst this;rw[h] at hx;have hx: ∀m r,getN r0=some (m,r)→x=m:=hx;rw[qb,valN_eq];show _=(getN r0).map _∧_;cases hg:getN r0 with
  |none=>exact⟨rfl,nofun⟩
  |some y=>
   have:=hx y.1 y.2 hg;rw[qb,←this,hv];exact⟨rfl,fun m r e=>by cases e;rfl⟩
theorem X_valn {t:List Sv} {S:Option (List UInt8)} {i x:Nat} (hv:valV t x=none) (hx: ∀m r,((Xr (valN t) S i).map (·.2)).bind getN=some (m,r)→x=m):Xr (valN t) S (i+1)=none:=by
 rw[zlb];cases h:Xr (valN t) S i with
 |none=>rfl
 |some p=>
  obtain⟨m0,r0⟩:=p;rw[h] at hx;have hx: ∀m r,getN r0=some (m,r)→x=m:=hx;rw[qb,valN_eq];cases hg:getN r0 with
  |none=>rfl
  |some y=>
   have:=hx y.1 y.2 hg;rw[qb,←this,hv];rfl
section
variable {b:List UInt8} {t:List Sv} {dn:DV} {a:Nat} {q:Bool} {S:Option (List UInt8)}
theorem Qd.gro (h:Qd B M j b t dn S) {d d':DV} (g:Gro M d M' d') (hf: ∀q,B.fr q→Off d q) (hj:Off d j) (hn: ∀q,¬Off dn q→Off d q):Qd B M' j b t dn S:=by
 obtain⟨at',q',h,e⟩:=h;have a:=h.j2;have e':=g.nx;refine⟨at',q',⟨fun i hi=>(g.kp i (h.nx i hi) (hf i hi)).trans (h.sm i hi),fun i hi=>by have:=h.nx i hi;omega,h.j1,by omega,?_,h.ln.keep e' fun i hi hn'=>g.kp i hi (hn i hn'),h.fn,h.al,h.bl⟩,e⟩;rw[g.obj a hj];exact h.oj
attribute [local simp] c_g f_g r_g_1 r_g_2 r_g_3 r_g_4 r_g_5 r_g_6 r_g_7 r_g_8 r_g_9 r_g_10 r_g_11 r_g_12 r_g_13 r_g_14 r_g_15 r_g_17
theorem rvals'_ok (h:Qd B M j b t dn S) (hk: ∀M' d vs,Qd B M' j b t dn ((S.bind (z9 t)).map (·.2))→Kj j M M'→Lb M' d 2 (vs.map eSv)→vs.length≤b.length→(∀q,q<M.next→Off d q)→(∀m r,S.bind (z9 t)=some (m,r)→vs=m)→k d M'):ze F (.fn n_g [] []) [.ptr j 0 0] M k kp:=by
 have a:=h.j2;have c:=h.nx;have hdn: ∀q,¬Off dn q→q<M.next:=by
  obtain⟨_,_,h,_⟩:=h;exact fun q hq=>h.ln.ltN hq
 refine .fn zdg rfl (by simp[f_g]) ?_;simp(disch:=((try simp only[nx3]);omega));refine zer h fun M1 N h1 k1 hN he=> ?_;have n1:=k1.1;have hall:S.bind (z9 t)=Xr (valN t) ((S.bind zbn).map (·.2)) N:=bind_rep he;rw[hall] at hk;generalize (S.bind zbn).map (·.2)=S1 at*;have hbl:b.length≤1000000:=by
  obtain⟨_,_,h,_⟩:=h;exact h.bl
 simp(disch:=((try simp only[nx3]);omega));refine .for (σ:=VM×DV×List Sv) c_g_16.eq_1 (fun i z=>[(3,z.2.1),(5,I i)]) (fun z=>z.1) (fun i z=>Qd B z.1 j b t dn ((Xr (valN t) S1 i).map (·.2))∧Kj j M z.1∧Lb z.1 z.2.1 2 (z.2.2.map eSv)∧(∀q,q<M.next→Off z.2.1 q)∧(∀m r,Xr (valN t) S1 i=some (m,r)→z.2.2=m)∧z.2.2.length=i) N (M1,.nilS,[]) (by simp) rfl ⟨by rw[zdb];cases S1<;>exact h1,k1,.nil _ _,fun _ _=>trivial,fun m r e=>by rw[zdb] at e;cases S1<;>cases e;rfl,rfl⟩ (fun i z hi hP again=> ?_) (fun z hP=> ?_)
 ·obtain⟨y,d,acc⟩:=z;obtain⟨p1,p2,p3,p4,p5,p6⟩:=hP;dsimp only at*;have hdj:=p4 j a;have hdn2: ∀q,¬Off dn q→Off d q:=fun q hq=>p4 q (hdn q hq);simp(disch:=((try simp only[nx3]);omega)) [hi];refine zg7 p1 fun M2 x h2 k2 hx hxe=> ?_;have p3':=p3.kj hdj k2;have n2:=k2.1;have ny:=p2.1;have c1: ∀ek,binD .rem ek (I (x:Int)) (I 2)=some (I ((x%2:Nat):Int)):=fun ek=>zfp (ek:=ek) .i64 x 2 (by decide);have c2: ∀ek,binD .quo ek (I (x:Int)) (I 2)=some (I ((x / 2:Nat):Int)):=fun ek=>zfq (ek:=ek) x 2 (by decide) (by omega);have c3: ∀ek,binD .rem ek (I (x:Int)) (I 4)=some (I ((x%4:Nat):Int)):=fun ek=>zfp (ek:=ek) .i64 x 4 (by decide);have c4: ∀ek,binD .quo ek (I (x:Int)) (I 4)=some (I ((x / 4:Nat):Int)):=fun ek=>zfq (ek:=ek) x 4 (by decide) (by omega);have pk: ∀{v:Sv} {M3 M4:VM} {d':DV},valV t x=some v→Qd B M3 j b t dn ((((Xr (valN t) S1 i).map (·.2)).bind getN).map (·.2))→Kj j M M3→Gro M3 d M4 d'→Lb M4 d' 2 ((acc++[v]).map eSv)→Qd B M4 j b t dn ((Xr (valN t) S1 (i+1)).map (·.2))∧Kj j M M4∧Lb M4 d' 2 ((acc++[v]).map eSv)∧(∀q,q<M.next→Off d' q)∧(∀m r,Xr (valN t) S1 (i+1)=some (m,r)→acc++[v]=m)∧(acc++[v]).length=i+1:=fun{v M3 M4 d'} g1 g2 g3 g4 g5=>by
   obtain⟨x1,x2⟩:=X_val g1 p5 hxe;exact⟨by rw[x1];exact g2.gro g4 (fun q hq=>p4 q (c q hq)) hdj hdn2,g3.gro g4 p4,g5,fun q hq=>g4.of q (by have:=g3.1;omega) (p4 q hq),x2,by simp[p6]⟩
  by_cases hodd:x%2=1
  ·have hai:((x%2:Nat):Int)=1:=by omega
   obtain⟨at2,q2,h2,e2⟩:=h2;have o2:=h2.oj;by_cases hr:x / 2<t.length
   ·have hri: ¬(t.length:Int)≤((x / 2:Nat):Int):=by omega
    have hv:valV t x=some t[x / 2]:=by unfold valV;rw[if_pos hodd,qk hr]
    have hln:=h2.ln;rcases hln.v with⟨e,_⟩| ⟨p,op,cap,g2,e,g4,_⟩
    ·have:=congrArg qm e;simp at this;rw[this] at hr;simp at hr
    subst e;generalize hxx:t[x / 2]=v at*;generalize hx2:x / 2=x2 at*;generalize x%2=b1 at*;simp(disch:=((try simp only[nx3]);omega)) [c1,hai,c2,o2,hri,hr,g4,hxx];refine zeQ (p3'.new _) (new:=[eSv v]) (by simp) (by decide) (by simp) (by simp) (by simp;omega) fun d' M' hL hG=> ?_;have again:=again (M',d',acc++[v]) (pk hv ⟨at2,q2,h2,e2⟩ (p2.trans k2) hG.pre (by simpa using hL));simp at again;simp(disch:=((try simp only[nx3]);omega));exact again
   ·have hri:(t.length:Int)≤((x / 2:Nat):Int):=by omega
    have hv:valV t x=none:=by unfold valV;rw[if_pos hodd,qt (by omega)]
    have hX:=Xr_none (X_valn hv hxe) N (by omega);rw[hX] at hk;have hk:=hk _ .nilS [] ⟨at2,true,h2.set true h2.al,rfl⟩ ((p2.trans k2).trans (.put _ _ _)) (.nil _ _) (by simp) (fun _ _=>trivial) nofun;clear again pk;generalize x / 2=x2 at*;generalize x%2=b1 at*;simp(disch:=((try simp only[nx3]);omega)) [c1,hai,c2,o2,h2.ln.len,hri];exact hk
  ·have hai: ¬((x%2:Nat):Int)=1:=by omega
   by_cases hf:x%4=0
   ·have hci:((x%4:Nat):Int)=0:=by omega
    have hv:valV t x=some ⟨1,((x / 4:Nat):Int)⟩:=by unfold valV;rw[if_neg hodd,if_pos hf]
    generalize x%2=b1 at*;generalize x%4=b2 at*;generalize x / 4=b4 at*;simp(disch:=((try simp only[nx3]);omega)) [c1,hai,c3,hci,c4];refine zeQ (p3'.new _) (new:=[eSv ⟨1,(b4:Int)⟩]) (by simp[eSv]) (by decide) (by simp) (by simp) (by simp;omega) fun d' M' hL hG=> ?_;have again:=again (M',d',acc++[⟨1,(b4:Int)⟩]) (pk hv h2 (p2.trans k2) hG.pre (by simpa using hL));simp at again;simp(disch:=((try simp only[nx3]);omega));exact again
   ·have hci: ¬((x%4:Nat):Int)=0:=by omega
    have hv:valV t x=some ⟨1,-((x / 4:Nat):Int) - 1⟩:=by unfold valV;rw[if_neg hodd,if_neg hf]
    have hb4:x / 4≤x:=Nat.div_le_self _ _;generalize x%2=b1 at*;generalize x%4=b2 at*;generalize x / 4=b4 at*;simp(disch:=((try simp only[nx3]);omega)) [c1,hai,c3,hci,c4];refine zeQ (p3'.new _) (new:=[eSv ⟨1,-(b4:Int) - 1⟩]) (by simp[eSv]) (by decide) (by simp) (by simp) (by simp;omega) fun d' M' hL hG=> ?_;have again:=again (M',d',acc++[⟨1,-(b4:Int) - 1⟩]) (pk hv h2 (p2.trans k2) hG.pre (by simpa using hL));simp at again;simp(disch:=((try simp only[nx3]);omega));exact again
 ·obtain⟨y,d,acc⟩:=z;obtain⟨p1,p2,p3,p4,p5,p6⟩:=hP;dsimp only at*;have hk:=hk y d acc p1 p2 p3 (by omega) p4 p5;simp(disch:=((try simp only[nx3]);omega));exact hk
end
end
section
variable {M M':VM} {B:Base} {k kp:DV→VM→Prop} {n0 j:Nat}
variable {b:List UInt8} {t:List Sv} {dn:DV} {a:Nat} {q:Bool} {S:Option (List UInt8)}
theorem X_pair {S:Option (List UInt8)} {i x y:Nat} {acc:List Sv} (ha: ∀m r,Xr zcS S i=some (m,r)→acc=m) (hx: ∀m r,((Xr zcS S i).map (·.2)).bind getN=some (m,r)→x=m) (hy: ∀m r,((((Xr zcS S i).map (·.2)).bind getN).map (·.2)).bind getN=some (m,r)→y=m):
 (Xr zcS S (i+1)).map (·.2)=(((((Xr zcS S i).map (·.2)).bind getN).map (·.2)).bind getN).map (·.2)∧ ∀m r,Xr zcS S (i+1)=some (m,r)→acc++[⟨(x:Int),(y:Int)⟩]=m:=by
 rw[zlb];cases h:Xr zcS S i with
 |none=>exact⟨rfl,nofun⟩
 |some p=>
  obtain⟨m0,r0⟩:=p;have:=ha m0 r0 h;subst this;rw[h] at hx hy;have hx: ∀m r,getN r0=some (m,r)→x=m:=hx;have hy: ∀m r,((getN r0).map (·.2)).bind getN=some (m,r)→y=m:=hy;rw[qb];show(Option.map _ ((zcS r0).map _))=(((getN r0).map (·.2)).bind getN).map (·.2)∧_;unfold zcS;cases hg:getN r0 with
  |none=>exact⟨rfl,nofun⟩
  |some u=>
   rw[hg] at hy;have hy: ∀m r,getN u.2=some (m,r)→y=m:=hy;have e1:=hx u.1 u.2 hg;rw[qb];show _=(getN u.2).map _∧_;cases hg2:getN u.2 with
   |none=>exact⟨rfl,nofun⟩
   |some w=>
    have e2:=hy w.1 w.2 hg2;refine⟨rfl,fun m r e=> ?_⟩;rw[e1,e2];cases e;rfl
theorem QdE.names (h:QdE B M j b t dn a q) {dn':DV} {v:Sv} (hL:Lb M' dn' 2 ((t++[v]).map eSv)) (hG:Gro M dn M' dn'):QdE B (M'.put j (.rows false 4 [[St b,I (a:Int),dn',.bool q]])) j b (t++[v]) dn' a q:=by
 have c:=h.j2;have nx:=hG.nx;exact⟨fun i hi=>by have hne:i≠j:=(fun e=>h.j1 (by rw[←e];exact hi));rw[get_put,if_neg hne];exact(hG.kp i (h.nx i hi) (h.fn i hi)).trans (h.sm i hi),fun i hi=>by have:=h.nx i hi;simp;omega,h.j1,by simp;omega,by simp,hL.put (hG.of j c h.nj) _,fun i hi=>hG.of i (h.nx i hi) (h.fn i hi),h.al,h.bl⟩
attribute [local simp] c_D f_D r_D_1 r_D_2 r_D_3 r_D_4 r_D_5 r_D_6 r_D_7 r_D_8 r_D_10
theorem zfW (b:List UInt8) (hb1:1≤b.length) (hb2:b.length≤1000000) (hk: ∀M' j t dn,Qd (bas M) M' j b t dn ((tabN (b.drop 1)).map (·.2))→t.length≤b.length→(∀m r,tabN (b.drop 1)=some (m,r)→t=m)→k (.ptr j 0 0) M'):ze F (.fn n_D [] []) [St b] M k kp:=by
 refine .fn zga rfl (by simp[f_D]) ?_;simp(disch:=((try simp only[nx3]);omega));obtain⟨B0,hB0⟩: ∃B0,B0=bas M:=⟨_,rfl⟩;rw[←hB0] at hk;have h0:Qd B0 (M.new (.rows false 4 [[St b,I 1,.nilS,.bool false]])) M.next b [] .nilS (some (b.drop 1)):=by
  rw[hB0];exact⟨1,false,⟨fun i hi=>by(have hi:i<_:=hi;rw[get_new,if_neg (by omega)]),fun i hi=>qG hi,by simp,by simp,by simp,.nil _ _,fun _ _=>trivial,hb1,hb2⟩,rfl⟩
 refine zer h0 fun M1 N h1 k1 hN he=> ?_;have hall:tabN (b.drop 1)=Xr zcS (((some (b.drop 1)).bind zbn).map (·.2)) N:=bind_rep (S:=some (b.drop 1)) he;rw[hall] at hk;generalize ((some (b.drop 1)).bind zbn).map (·.2)=S1 at*;clear hB0;generalize hj0:M.next=j0 at*;simp(disch:=((try simp only[nx3]);omega));refine .for (σ:=VM×List Sv×DV) c_D_9.eq_1 (fun i z=>[(5,I i)]) (fun z=>z.1) (fun i z=>Qd B0 z.1 j0 b z.2.1 z.2.2 ((Xr zcS S1 i).map (·.2))∧(∀m r,Xr zcS S1 i=some (m,r)→z.2.1=m)∧z.2.1.length=i) N (M1,[],.nilS) (by simp) rfl ⟨by rw[zdb];cases S1<;>exact h1,fun m r e=>by rw[zdb] at e;cases S1<;>cases e;rfl,rfl⟩ (fun i z hi hP again=> ?_) (fun z hP=> ?_)
 ·obtain⟨y,acc,d⟩:=z;obtain⟨p1,p2,p3⟩:=hP;dsimp only at*;simp(disch:=((try simp only[nx3]);omega)) [hi];refine zg7 p1 fun M2 x h2 k2 hx hxe=> ?_;simp(disch:=((try simp only[nx3]);omega));refine zg7 h2 fun M3 x2 h3 k3 hx2 hxe2=> ?_;obtain⟨e1,e2⟩:=X_pair p2 hxe hxe2;rw[←e1] at h3;have hold:M2.obj j0=M2.obj j0:=rfl;obtain⟨a2,q2,h2,e22⟩:=h2;obtain⟨a3,q3,h3,e33⟩:=h3;have o2:=h2.oj;have o3:=h3.oj;have j3:=h3.j2;simp(disch:=((try simp only[nx3]);omega)) [o2,o3];have hdet:detD d=true:=by rcases h3.ln.v with⟨_,e⟩| ⟨_,_,_,_,e,_⟩<;>rw[e]<;>rfl
  refine⟨.inr ⟨by simp,hdet,by simp[o2]⟩,h3.ln.self,?_⟩;refine zg0 (h3.ln.new _) (new:=[eSv ⟨(x:Int),(x2:Int)⟩]) (by simp[eSv]) (by decide) (by simp) (by simp) (by have:=h3.bl;simp;omega) fun d' M' hL hG=> ?_;have hR:=h3.names (v:=⟨(x:Int),(x2:Int)⟩) (by simpa using hL) hG.pre;have o4:M'.obj j0=some (.rows false 4 [[St b,I (a3:Int),d,.bool q3]]):=by rw[hG.pre.obj j3 h3.nj];exact o3
  have c1:=hL.cells;have c2:=hL.cell;have again:=again (_,acc++[⟨(x:Int),(x2:Int)⟩],d') ⟨⟨a3,q3,hR,e33⟩,e2,by simp[p3]⟩;simp at again;simp(disch:=((try simp only[nx3]);omega)) [o4,c1,c2];exact again
 ·obtain⟨y,acc,d⟩:=z;obtain⟨p1,p2,p3⟩:=hP;dsimp only at*;have hk:=hk y j0 acc d p1 (by omega) p2;simp(disch:=((try simp only[nx3]);omega));exact hk
end
section
variable {M M':VM} {B:Base} {k kp:DV→VM→Prop} {n0 j:Nat}
section
variable {b:List UInt8} {t:List Sv} {dn:DV} {a:Nat} {q:Bool} {S:Option (List UInt8)}
abbrev qdO (b:List UInt8) (a:Nat) (dn:DV) (q:Bool):MO:=.rows false 4 [[St b,I (a:Int),dn,.bool q]]
theorem rdM_qd (h0:Qd B M j b t dn S) (h:QdE B M' j b t dn a q) (hn:M.next≤M'.next):QdE B (rdM M M' j (qdO b a dn q)) j b t dn a q:=by
 obtain⟨_,_,h0,_⟩:=h0;have x:=h0.j2;have kj:=rdM_kj (M:=M) (M':=M') (j:=j) (o:=qdO b a dn q) hn;refine⟨fun i hi=>(kj.2 i (h0.nx i hi) (fun e=>h0.j1 (by rw[←e];exact hi))).trans (h0.sm i hi),fun i hi=>by have:=h0.nx i hi;have:=kj.1;omega,h0.j1,by have:=kj.1;omega,?_,h0.ln.kj h0.nj kj,h0.fn,h.al,h.bl⟩;show((if j=j then some (qdO b a dn q,M'.next) else _)).map _=_;rw[if_pos rfl];rfl
theorem rdM_qconv (h0:Qd B M j b t dn S) (kj:Kj j M M') (h:QdE B M' j b t dn a q):Conv M M' (rdM M M' j (qdO b a dn q)):=by
 have x:=h0.j2;have hb:zJ (M'.next+1) dn:=by
  rcases h.ln.v with⟨_,e⟩| ⟨q,_,_,h2,e,_⟩<;>rw[e]
  ·exact .nilS
  ·exact .ms (by omega)
 refine⟨by have:=kj.1;show M.next≤M'.next+1;omega,fun i=> ?_⟩;by_cases hi:i=j
 ·subst hi;refine .inr (.inr ⟨qdO b a dn q,M'.next,qdO b a dn q,by show(if i=i then _ else _)=_;rw[if_pos rfl],by show i<M'.next+1;have:=kj.1;omega,kj.1,by show M'.next<M'.next+1;omega,h.oj,.refl _,.rows fun x hx y hy=> ?_⟩);simp only[List.mem_singleton] at hx;subst hx;simp only[List.mem_cons,List.not_mem_nil,or_false] at hy;rcases hy with rfl|rfl|rfl|rfl
  ·exact .str _
  ·exact .int _ _
  ·exact hb
  ·exact .bool _
 ·by_cases hl:i<M.next
  ·exact .inl ⟨by show(if i=j then _ else _)=_;rw[if_neg hi,if_pos hl],fun _=>kj.2 i hl hi⟩
  ·exact .inr (.inl (by show(if i=j then _ else _)=_;rw[if_neg hi,if_neg hl]))
theorem rvals'_f (h:Qd B M j b t dn S) (hk: ∀M' vs,Qd B M' j b t dn ((S.bind (z9 t)).map (·.2))→Kj j M M'→vs.length≤b.length→(∀m r,S.bind (z9 t)=some (m,r)→vs=m)→k (.lst 2 (vs.map eSv)) M'):ze F (.fn n_g [] []) [.ptr j 0 0] M k kp:=by
 refine ze.conv (rvals'_ok h fun M' d vs h' kj hL hl hf he=> ?_);obtain⟨a,q,h',e⟩:=h';exact⟨.lst 2 (vs.map eSv),_,rdM_qconv h kj h',zkh hL hf h.j2,.lst (mapb b_Sv _),hk _ vs ⟨a,q,rdM_qd h h' kj.1,e⟩ (rdM_kj kj.1) hl he⟩
end
theorem ltN_of {s:Option (List Sv×List UInt8)} {t:List Sv} {n:Int} {vs:List Sv} {R:Option (List UInt8)} (h1: ∀m r,s=some (m,r)→t=m) (h2: ∀m r,(s.map (·.2)).bind (zT t 3)=some (m,r)→n=m) (h3: ∀m r,(((s.map (·.2)).bind (zT t 3)).map (·.2)).bind (z9 t)=some (m,r)→vs=m)
 (hR:R=((((s.map (·.2)).bind (zT t 3)).map (·.2)).bind (z9 t)).map (·.2)):s.bind ltN=if R=none then none else some ⟨n,vs⟩:=by
 cases s with
 |none=>rw[if_pos (by rw[hR];rfl)];rfl
 |some x=>
  obtain⟨t',r1⟩:=x;have:=h1 t' r1 rfl;subst this;have h2: ∀m r,zT t 3 r1=some (m,r)→n=m:=h2;have h3: ∀m r,((zT t 3 r1).map (·.2)).bind (z9 t)=some (m,r)→vs=m:=h3;have hR:R=(((zT t 3 r1).map (·.2)).bind (z9 t)).map (·.2):=hR;rw[qb];unfold ltN;dsimp only;cases hn:zT t 3 r1 with
  |none=>rw[hn] at hR;rw[if_pos (by rw[hR];rfl)];rfl
  |some y=>
   rw[hn] at hR h3;have h3: ∀m r,z9 t y.2=some (m,r)→vs=m:=h3;have hR:R=(z9 t y.2).map (·.2):=hR;have e1:=h2 y.1 y.2 hn;rw[qb];cases hv:z9 t y.2 with
   |none=>rw[hv] at hR;rw[if_pos (by rw[hR];rfl)];rfl
   |some z=>
    rw[hv] at hR;rw[if_neg (by rw[hR];exact nofun),e1,h3 z.1 z.2 hv];rfl
attribute [local simp] c_H f_H r_H_1 r_H_2 r_H_3 r_H_4 r_H_5 r_H_6 r_H_7 r_H_8 r_H_9 r_H_10 r_H_11
theorem rOpen_ok (b:List UInt8) (hk:k (.tup [.agg (eLt (zfY b).1),I (zfY b).2]) M):ze F (.fn n_H [] []) [St b] M k kp:=by
 unfold zfY at hk;apply ze.back;refine .fn zgJ rfl (by simp[f_H]) ?_;by_cases hl:80000<b.length
 ·rw[if_pos hl] at hk;have hli:(80000:Int)<b.length:=by omega
  simp(disch:=((try simp only[nx3]);omega)) [hli];exact zcA (by repeat' (first|assumption|exact zx _ _|apply zl|apply zy|apply z6| ((try simp only[nx3]);omega))) hk
 ·rw[if_neg hl] at hk;have hli: ¬(80000:Int)<b.length:=by omega
  have bad: ¬zje b 77→k (.tup [.agg (eLt ⟨0,[]⟩),I 4]) M:=fun h=>by
   have:zR b 77=none:=by unfold zR;rw[if_neg h]
   rw[this] at hk;exact hk
  by_cases h3:3≤b.length
  ·obtain⟨n,hn⟩: ∃n,b.length=n+2:=⟨b.length - 2,by omega⟩;have h3i: ¬(b.length:Int)<3:=by omega
   have e1:(b.length:Int) - 2=(n:Int):=by omega
   have s1:=zeV b .i64 n (by omega);have s2:=zeU b .i64 n (by omega);have h0:b[0]? =some b[0]:=qk (by omega);have hb:zbY b[0]=.int .u8 (b[0].toNat:Int):=rfl;have hlt:(b.take n).length=n:=by rw[qq];omega
   by_cases hf:b[0]=77
   ·have hfi:(b[0].toNat:Int)=77:=by rw[hf];rfl
    simp(disch:=((try simp only[nx3]);omega)) [hli,h3i,h0,hb,zfr,hfi,e1,s1,s2];refine rsum_ok _ (by omega) ?_;have c6: ∀ek,binD .neq ek (St (crc (b.take n))) (St (b.drop n))=some (.bool (!decide (crc (b.take n)=b.drop n))):=fun ek=>bin_sne _ _;by_cases hc:crc (b.take n)=b.drop n
    ·have hok:zje b 77:=⟨h3,by rw[List.head?_eq_getElem?,h0,hf],by rw[show b.length - 2=n by omega];exact hc⟩;have hst:zR b 77=tabN ((b.take n).drop 1):=by unfold zR;rw[if_pos hok,show b.length - 2=n by omega]
     rw[hst] at hk;simp only[hc,decide_true,Bool.not_true] at c6;simp(disch:=((try simp only[nx3]);omega)) [c6,s1,s2,e1];refine zfW (b.take n) (by omega) (by omega) fun M1 j t dn q1 lt he1=> ?_;simp(disch:=((try simp only[nx3]);omega));refine zhF q1 3 fun M2 ch q2 k2 he2=> ?_;have nx2:M.next<M2.next:=q2.nx M.next (by simp);have jl2:=q2.j2;simp(disch:=((try simp only[nx3]);omega));obtain⟨Y,hY⟩: ∃Y,Y=(M2.new (.rows false 2 [[I 0,.nilS]])).put M2.next (.rows false 2 [[I ch,.nilS]]):=⟨_,rfl⟩;have yn:Y.next=M2.next+2:=by rw[hY];simp
     have yk: ∀i,i<M2.next→Y.get i=M2.get i:=fun i hi=>by rw[hY,get_put,if_neg (by omega),get_new,if_neg (by omega)]
     have yo:Y.obj M2.next=some (.rows false 2 [[I ch,.nilS]]):=by rw[hY];simp
     rw[←hY];refine rvals'_f (q2.keep (by omega) yk) fun M3 vs q3 k3 lv he3=> ?_;have o5:M3.obj M2.next=some (.rows false 2 [[I ch,.nilS]]):=by
      show(M3.get _).map _=_;rw[k3.2 _ (by omega) (by omega)];exact yo
     have hlt:=ltN_of he1 he2 he3 rfl;obtain⟨a,q,q3,e3⟩:=q3;rw[e3] at hlt;have o3:=q3.oj;have nx3:=k3.1;have sm3:=q3.sm;have o2:M3.obj M.next=some (.rows false 2 [[I 0,.nilS]]):=by
      show(M3.get _).map _=_;rw[sm3 M.next (by simp)];simp[get_new]
     have ne1:j≠M2.next:=by omega
     have ne2:M.next≠M2.next:=by omega
     have smz: ∀o,SM M.next M (M3.put M2.next o):=fun o i hi=>by
      rw[get_put,if_neg (by omega),sm3 i (by simp;omega),get_new,if_neg (by omega)]
     cases q with
     |true=>
      rw[if_pos (sx_bad _ _)] at hlt;rw[hlt] at hk;simp(disch:=((try simp only[nx3]);omega)) [o5,o3,o2,ne1,ne2];exact zcA (zl (smz _) (qe _)) hk
     |false=>
      rw[if_neg (by rw[zlf];exact nofun)] at hlt;rw[hlt] at hk;dsimp only at hk;obtain⟨x,hx⟩: ∃x:Lt,x=⟨ch,vs⟩:=⟨_,rfl⟩;have ex:eLt x=[I ch,.lst 2 (vs.map eSv)]:=by rw[hx];rfl
      have xv:x.vs.length=vs.length:=by rw[hx]
      rw[←hx] at hk;simp(disch:=((try simp only[nx3]);omega)) [o5,o3,o2,ne1,ne2];rw[←ex];refine rright_ok x (by omega) ?_;by_cases hpr:zej x
      ·rw[decide_eq_true hpr];simp(disch:=((try simp only[nx3]);omega)) [o3];refine rletter_ok hpr ?_;by_cases he:encLt x=b
       ·rw[if_pos ⟨hpr,he⟩] at hk;have wL:zq [I 0,.nilS] 0 (eLt x)=some (eLt x):=by rw[ex];rfl
        simp(disch:=((try simp only[nx3]);omega)) [he,o2,ne2,wL];refine Back.plain (.tup fun d hd=> ?_) (zl (smz _) (qe _)) hk;simp only[ql,qj,or_false] at hd;rcases hd with rfl|rfl
        ·exact .agg (b_Lt _)
        ·exact .int _ _
       ·rw[if_neg (fun h=>he h.2)] at hk;simp(disch:=((try simp only[nx3]);omega)) [he,o2,ne2];exact zcA (zl (smz _) (qe _)) hk
      ·rw[decide_eq_false hpr];rw[if_neg (fun h=>hpr h.1)] at hk;simp(disch:=((try simp only[nx3]);omega)) [o2,ne2];exact zcA (zl (smz _) (qe _)) hk
    ·have bad:=bad (fun h=>hc (by have:=h.2.2;rwa [show b.length - 2=n by omega] at this));clear hk;simp(disch:=((try simp only[nx3]);omega)) [c6,hc,s1,s2,e1];exact zcA (by repeat' (first|assumption|exact zx _ _|apply zl|apply zy|apply z6| ((try simp only[nx3]);omega))) bad
   ·have hfi: ¬(b[0].toNat:Int)=77:=fun e=>hf (UInt8.toNat_inj.1 (by have:b[0].toNat=77:=by omega
                                                                     rw[this];rfl))
    have bad:=bad (fun h=>hf (by have:=h.2.1;rw[qw,h0] at this;exact qv this));clear hk;simp(disch:=((try simp only[nx3]);omega)) [hli,h3i,h0,hb,zfr,hfi];exact zcA (by repeat' (first|assumption|exact zx _ _|apply zl|apply zy|apply z6| ((try simp only[nx3]);omega))) bad
  ·have h3i:(b.length:Int)<3:=by omega
   have bad:=bad (fun h=>h3 h.1);clear hk;simp(disch:=((try simp only[nx3]);omega)) [hli,h3i];exact zcA (by repeat' (first|assumption|exact zx _ _|apply zl|apply zy|apply z6| ((try simp only[nx3]);omega))) bad
end
section
variable {M M' B:VM} {k kp:DV→VM→Prop} {n0 j:Nat}
attribute [local simp] c_x f_x r_x_1 r_x_2 r_x_3 r_x_4 r_x_5 r_x_6 r_x_7 r_x_8 r_x_10
theorem sameVals_ok (l:List Sv) (hl:l.length<4000000000000000000) (hk:k (.bool true) M):ze F (.fn n_x [] []) [.lst 2 (l.map eSv),.lst 2 (l.map eSv)] M k kp:=by
 apply ze.back;refine .fn zeB rfl (by simp[f_x]) ?_;simp(disch:=((try simp only[nx3]);omega));refine .for (σ:=Unit) c_x_9.eq_1 (fun i _=>[(5,I i)]) (fun _=>M) (fun i _=>True) l.length () (by simp) rfl trivial (fun i _ hi hP again=> ?_) (fun _ hP=> ?_)
 ·have again:=again () trivial;simp at again;generalize hx:l[i]=v at*;simp(disch:=((try simp only[nx3]);omega)) [hi,hx,leaves_SvN];exact again
 ·simp(disch:=((try simp only[nx3]);omega));exact bpl hk
theorem works_ok (hk:k (.bool true) M):ze F (.fn n_bG [] []) [] M k kp:=by
 apply ze.back;refine .fn zge rfl (by simp[zix]) ?_;simp(disch:=((try simp only[nx3]);omega)) [zix];exact bpl hk
end
end Go.Ideal.S
