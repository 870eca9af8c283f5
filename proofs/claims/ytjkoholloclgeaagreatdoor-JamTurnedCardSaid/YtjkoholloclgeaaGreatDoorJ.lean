/- JamTurned: a graph whose states, but for the first one, and actions are numbered otherwise has the same sure and the same starved actions, and as many parts, at any graph and any bytes. No condition but the given one, on what the listed variables hold; none of them is read. -/
import Derived.Shelf.SlSortCmp.NoneTotal
import Derived.Test.YtjkoholloclgeaaGreatDoorCards
import Derived.Test.YtjkoholloclgeaaGreatDoorTie
import Derived.ProofKit
import Derived.OpenShut
import Derived.LaidMore
import Derived.Lay
import Derived.ChangeVars
import Derived.JoinedOf
import Derived.LaidLaws
import Derived.LaidHandle
import Derived.Stop.Joined
import Derived.SevenTiedAt
import Derived.RowKitTokens
import Derived.Test.YtjkoholloclgeaaGreatDoorI
set_option linter.unusedSimpArgs false
set_option linter.unusedVariables false
set_option linter.unusedSectionVars false
set_option maxRecDepth 100000
set_option maxHeartbeats 4000000
namespace Go.Ideal.Z
open Go Go.Ideal Q Classical S
noncomputable def F0:FuncId→Option zn:=lookE Q.tabC
theorem okF0: ∀g cf,F0 g=some cf→FnOk Go.Proofs.Tryz.prog g cf:=look_ok Y.call.ok
theorem h0_nan:F0 n_E=some f_E:=by kernel_rfl
theorem h0_cmp:F0 n_i=some f_i:=by kernel_rfl
theorem h0_compare:F0 n_e=some f_e:=by kernel_rfl
theorem h0_order:F0 n_t=some f_t:=by kernel_rfl
attribute [local simp] decide_eq_true decide_eq_false zH
attribute [local simp] c_E f_E r_E_1 r_E_2 c_i f_i r_i_1 r_i_2 r_i_3 r_i_4 r_i_5 r_i_6 r_i_7 r_i_8 r_i_9 r_i_10 r_i_11 r_i_12 r_i_13 r_i_14 c_e f_e r_e_1 r_e_2 r_e_3 r_e_4 r_e_5 r_e_6 r_e_7 r_e_8 r_e_9 r_e_10 r_e_11 r_e_13 r_e_14 r_e_15 c_t f_t r_t_1 r_t_2
variable {M:VM} {k kp:DV→VM→Prop} {n0:Nat}
theorem nan_ok (x:Int) (hk:k (.bool false) M):zy F0 (.fn n_E [] []) [I x] M k kp:=by
 apply zy.back
 refine .fn h0_nan rfl (by simp[f_E]) ?_
 simp
 exact Back.plain (by simp) (by repeat' (first|assumption|exact zt _ _|apply zu|apply zx|apply zA| ((try simp only[zc,ze,zf]);omega))) hk
theorem cmp_ok (x y:Int) (hk:k (I (if x<y then -1 else if y<x then 1 else 0)) M):zy F0 (.fn n_i [] []) [I x,I y] M k kp:=by
 apply zy.back
 refine .fn h0_cmp rfl (by simp[f_i]) ?_
 repeat' (first| (simp(disch:=((try simp only[zc,ze,zf]);omega));first|done| ((first|simp only[zr,zm,zq,zk,zl,zh]|simp only[zj,zi]|rw[zg]);split)|skip)| ((first|simp only[zr,zm,zq,zk,zl,zh]|simp only[zj,zi]|rw[zg]);split))
 refine nan_ok x ?_
 repeat' (first| (simp(disch:=((try simp only[zc,ze,zf]);omega));first|done| ((first|simp only[zr,zm,zq,zk,zl,zh]|simp only[zj,zi]|rw[zg]);split)|skip)| ((first|simp only[zr,zm,zq,zk,zl,zh]|simp only[zj,zi]|rw[zg]);split))
 refine nan_ok y ?_
 by_cases h1:x<y
 ·rw[if_pos h1] at hk
  repeat' (first| (simp(disch:=((try simp only[zc,ze,zf]);omega)) [h1];first|done| ((first|simp only[zr,zm,zq,zk,zl,zh]|simp only[zj,zi]|rw[zg]);split)|skip)| ((first|simp only[zr,zm,zq,zk,zl,zh]|simp only[zj,zi]|rw[zg]);split))
  exact Back.plain (by simp) (by repeat' (first|assumption|exact zt _ _|apply zu|apply zx|apply zA| ((try simp only[zc,ze,zf]);omega))) hk
 ·rw[if_neg h1] at hk
  by_cases h2:y<x
  ·rw[if_pos h2] at hk
   repeat' (first| (simp(disch:=((try simp only[zc,ze,zf]);omega)) [h1,h2];first|done| ((first|simp only[zr,zm,zq,zk,zl,zh]|simp only[zj,zi]|rw[zg]);split)|skip)| ((first|simp only[zr,zm,zq,zk,zl,zh]|simp only[zj,zi]|rw[zg]);split))
   exact Back.plain (by simp) (by repeat' (first|assumption|exact zt _ _|apply zu|apply zx|apply zA| ((try simp only[zc,ze,zf]);omega))) hk
  ·rw[if_neg h2] at hk
   repeat' (first| (simp(disch:=((try simp only[zc,ze,zf]);omega)) [h1,h2];first|done| ((first|simp only[zr,zm,zq,zk,zl,zh]|simp only[zj,zi]|rw[zg]);split)|skip)| ((first|simp only[zr,zm,zq,zk,zl,zh]|simp only[zj,zi]|rw[zg]);split))
   exact Back.plain (by simp) (by repeat' (first|assumption|exact zt _ _|apply zu|apply zx|apply zA| ((try simp only[zc,ze,zf]);omega))) hk
def cmpR:List Int→List Int→Int
 |x::l,y::m=>if x<y then -1 else if y<x then 1 else cmpR l m
 |_,_=>0
theorem zhs (L N:List Int) (hL:L.length=N.length) (hl:L.length≤1000) (hk:k (I (cmpR L N)) M):zy F0 (.fn n_e [] []) [ints L,ints N] M k kp:=by
 apply zy.back
 refine .fn h0_compare rfl (by simp[f_e]) ?_
 repeat' (first| (simp(disch:=((try simp only[zc,ze,zf]);omega));first|done| ((first|simp only[zr,zm,zq,zk,zl,zh]|simp only[zj,zi]|rw[zg]);split)|skip)| ((first|simp only[zr,zm,zq,zk,zl,zh]|simp only[zj,zi]|rw[zg]);split))
 refine .for (σ:=Unit) c_e_12.eq_1 (fun i _=>[(11,I i)]) (fun _=>M) (fun i _=>cmpR L N=cmpR (L.drop i) (N.drop i)) L.length () (by simp) rfl (by simp) (fun i x hi hP again=> ?_) (fun x hP=> ?_)
 ·have hi2:i<N.length:=by omega
  have hi3: ¬(N.length:Int)≤i:=by omega
  rw[List.drop_eq_getElem_cons hi,List.drop_eq_getElem_cons hi2,cmpR] at hP
  repeat' (first| (simp(disch:=((try simp only[zc,ze,zf]);omega)) [hi,hi2,hi3,eInt];first|done| ((first|simp only[zr,zm,zq,zk,zl,zh]|simp only[zj,zi]|rw[zg]);split)|skip)| ((first|simp only[zr,zm,zq,zk,zl,zh]|simp only[zj,zi]|rw[zg]);split))
  refine cmp_ok L[i] N[i] ?_
  by_cases h1:L[i]<N[i]
  ·rw[if_pos h1] at hP⊢
   rw[hP] at hk
   clear again
   repeat' (first| (simp(disch:=((try simp only[zc,ze,zf]);omega));first|done| ((first|simp only[zr,zm,zq,zk,zl,zh]|simp only[zj,zi]|rw[zg]);split)|skip)| ((first|simp only[zr,zm,zq,zk,zl,zh]|simp only[zj,zi]|rw[zg]);split))
   exact Back.plain (by simp) (by repeat' (first|assumption|exact zt _ _|apply zu|apply zx|apply zA| ((try simp only[zc,ze,zf]);omega))) hk
  ·rw[if_neg h1] at hP⊢
   by_cases h2:N[i]<L[i]
   ·rw[if_pos h2] at hP⊢
    rw[hP] at hk
    clear again
    repeat' (first| (simp(disch:=((try simp only[zc,ze,zf]);omega));first|done| ((first|simp only[zr,zm,zq,zk,zl,zh]|simp only[zj,zi]|rw[zg]);split)|skip)| ((first|simp only[zr,zm,zq,zk,zl,zh]|simp only[zj,zi]|rw[zg]);split))
    exact Back.plain (by simp) (by repeat' (first|assumption|exact zt _ _|apply zu|apply zx|apply zA| ((try simp only[zc,ze,zf]);omega))) hk
   ·rw[if_neg h2] at hP⊢
    have again:=again () hP
    simp at again
    repeat' (first| (simp(disch:=((try simp only[zc,ze,zf]);omega));first|done| ((first|simp only[zr,zm,zq,zk,zl,zh]|simp only[zj,zi]|rw[zg]);split)|skip)| ((first|simp only[zr,zm,zq,zk,zl,zh]|simp only[zj,zi]|rw[zg]);split))
    exact again
 ·have hne: ¬(L.length:Int)<N.length:=by omega
  rw[List.drop_of_length_le (Nat.le_refl _),List.drop_of_length_le (by omega)] at hP
  rw[hP] at hk
  repeat' (first| (simp(disch:=((try simp only[zc,ze,zf]);omega)) [hne];first|done| ((first|simp only[zr,zm,zq,zk,zl,zh]|simp only[zj,zi]|rw[zg]);split)|skip)| ((first|simp only[zr,zm,zq,zk,zl,zh]|simp only[zj,zi]|rw[zg]);split))
  exact Back.plain (by simp) (by repeat' (first|assumption|exact zt _ _|apply zu|apply zx|apply zA| ((try simp only[zc,ze,zf]);omega))) hk
theorem zgp (a b:S.Edge) (hk:k (I (cmpR [a.f,a.a,a.t] [b.f,b.a,b.t])) M):zy F0 (.fn n_t [] []) [.agg (zF a),.agg (zF b)] M k kp:=by
 apply zy.back
 refine .fn h0_order rfl (by simp[f_t]) ?_
 repeat' (first| (simp(disch:=((try simp only[zc,ze,zf]);omega)) [zF];first|done| ((first|simp only[zr,zm,zq,zk,zl,zh]|simp only[zj,zi]|rw[zg]);split)|skip)| ((first|simp only[zr,zm,zq,zk,zl,zh]|simp only[zj,zi]|rw[zg]);split))
 refine zy.frz (j:=M.next+1+1) (n:=3) (cap:=3) (sz:=1) (op:=false) [] [.ms (M.next+1+1+1) 0 3 3] (rs:=[[I a.f],[I a.a],[I a.t]]) (by simp(disch:=((try simp only[zc,zf]);omega))) rfl (by simp) (by simp) (by simp) ?_
 refine zy.frz (j:=M.next+1+1+1) (n:=3) (cap:=3) (sz:=1) (op:=false) [.lst 1 [[I a.f],[I a.a],[I a.t]]] [] (rs:=[[I b.f],[I b.a],[I b.t]]) (by simp(disch:=((try simp only[zc,zf]);omega))) rfl (by simp) (by simp) (by simp) ?_
 refine zhs [a.f,a.a,a.t] [b.f,b.a,b.t] rfl (by simp) ?_
 repeat' (first| (simp(disch:=((try simp only[zc,ze,zf]);omega));first|done| ((first|simp only[zr,zm,zq,zk,zl,zh]|simp only[zj,zi]|rw[zg]);split)|skip)| ((first|simp only[zr,zm,zq,zk,zl,zh]|simp only[zj,zi]|rw[zg]);split))
 exact Back.plain (by simp) (by repeat' (first|assumption|exact zt _ _|apply zu|apply zx|apply zA| ((try simp only[zc,ze,zf]);omega))) hk
def cmpT (x y:Tri):Int:=cmpR [x.f,x.a,x.t] [y.f,y.a,y.t]
open Go.Proofs in
theorem ltT (x y:Tri):ltOf cmpT x y=decide (befT x y):=by
 unfold ltOf cmpT befT
 simp only[cmpR]
 congr 1
 apply propext
 by_cases h1:x.f=y.f
 ·rw[if_pos h1,if_neg (by omega),if_neg (by omega)]
  by_cases h2:x.a=y.a
  ·rw[if_pos h2,if_neg (by omega),if_neg (by omega)]
   split
   ·omega
   ·split<;>omega
  ·rw[if_neg h2]
   split
   ·omega
   ·split<;>omega
 ·rw[if_neg h1]
  split
  ·omega
  ·split<;>omega
open Go.Proofs in
theorem swoT:Go.Sort.SWO (ltOf cmpT) where
 irrefl x:=by rw[ltT];unfold befT;simp
 trans x y z h1 h2:=by
  rw[ltT] at*
  unfold befT at*
  simp only[decide_eq_true_eq] at*
  revert h1 h2
  repeat' split
  all_goals omega
 ntrans x y z h1 h2:=by
  rw[ltT] at*
  unfold befT at*
  simp only[decide_eq_false_iff_not] at*
  revert h1 h2
  repeat' split
  all_goals omega
open Go.Proofs in
theorem totT (x y:Tri) (h1:ltOf cmpT x y=false) (h2:ltOf cmpT y x=false):x=y:=by
 rw[ltT] at h1 h2
 unfold befT at h1 h2
 simp only[decide_eq_false_iff_not] at h1 h2
 have:x.f=y.f∧x.a=y.a∧x.t=y.t:=by
  revert h1 h2
  repeat' split
  all_goals omega
 cases x;cases y
 simp at this
 obtain⟨rfl,rfl,rfl⟩:=this
 rfl
open Go.Proofs in
def leX (x y:Tri):Bool:= !ltOf cmpT y x
open Go.Proofs in
theorem leX_eq:leX=leT:=by
 funext x y
 unfold leX
 rw[ltT]
 unfold leT
 by_cases h:befT y x<;>simp[h]
theorem calls_int {P:Program} {F:FuncId→Option zn} (hmix:P.follows .mixedOrders=true) (hF: ∀g cf,F g=some cf→FnOk P g cf) {g:FuncId} {ds:List DV} {args:Array Value} {W:World} {r:Int}
 (hc:zy F (.fn g [] []) ds VM.nil (fun d _=>d=I r) fun _ _=>False) (hargs: ∀v∈args.toList,okArg W v=true) (hr:LRel (impW W) ds args.toList):
 Calls P g args W fun e W'=>e=.returned (.int .i64 r)∧ ∃q os',W'=Go.Sort.grow (Go.Sort.ahead W q) os':=by
 obtain⟨n,o,he,ho⟩:=hc (impW W) (impH W) (.func (.func g) #[] #[]) args.toList (imp_HRel W) (.fn g rfl rfl (fun k d v h=>by simp at h) (fun k d v h=>by simp at h)) hr
 cases o with
 |val v h1=>
  obtain⟨w1,M1,d,q1,q2,q3,rfl⟩:=ho
  cases q3
  have hfr: ∀i,i<W.heap.size→h1.get i=(impH W).get i:=fun i hi=>q1.rest i (by rw[zjl];omega) (fun j R h=>by cases h)
  have ra:VRL (zc7 W) args.toList args.toList:=⟨rfl,fun j x y hx hy=>by rw[hx] at hy;cases hy;exact okArg_rel (hargs x (List.mem_of_getElem? hx))⟩
  refine(zfs hmix hF he ra (imp_HR W)).mono ?_
  rintro e W' ⟨v',σ,rfl,hv,hr,hx⟩
  refine⟨by rw[hv.inv_int],grown_of hx.size (fun B hB=> ?_) hx.os hx.out hx.td.1 hx.td.2⟩
  by_cases hc:zbG W B=true
  ·obtain⟨R,hR,hb,h0⟩:=zdz hc
   obtain⟨-,c,t,fr,hWB,rfl⟩:=(zcy hR).resolve_right (fun h=>by omega)
   have ho:=hr.obj B _ _ (hx.le _ _ hR) (by rw[hfr B hB];exact zfo hWB)
   obtain⟨_,_,c',t',fr',q1,q2,_⟩:=ho
   rcases q2 with⟨q2,_⟩| ⟨q2,_⟩
   ·cases q2
   ·rw[q1,hWB];exact(q2.symm▸rfl:some (Obj.cells c' t' fr')=some (Obj.cells c t fr))
  ·refine hx.frame B hB fun i R hi e=> ?_
   rcases zcy hi with⟨-,c,t,fr,hWB,rfl⟩| ⟨-,hcc⟩
   ·have e:i=B:=e
    subst e
    exact hc (by unfold zbG;rw[hWB])
   ·rw[e] at hcc;exact hc hcc
 |pan=>obtain⟨_,_,_,_,_,_,q⟩:=ho;exact q.elim
 |nrm=>exact ho.elim
 |exit=>exact ho.elim
 |ret=>exact ho.elim
theorem putRow_eq {α:Type} [Inhabited α] (enc:α→Value) (w:World) (blk off:Nat) (d:Array α) {c:Array Value} {t:TypeId} (hw:w.heap[blk]? =some (.cells c t (0,0))):Go.Sort.putRow enc w blk off d={w with heap:=w.heap.setIfInBounds blk (.cells (Go.Sort.putCells enc off d c) t (0,0))}:=by
 unfold Go.Sort.putRow Go.Sort.mapBlock
 have:w.heap.modify blk (Go.Sort.onCells (Go.Sort.putCells enc off d))=w.heap.setIfInBounds blk (.cells (Go.Sort.putCells enc off d c) t (0,0)):=by
  apply Array.ext_getElem?
  intro k
  rw[Array.getElem?_modify,Array.getElem?_setIfInBounds]
  by_cases e:blk=k
  ·subst e
   have hlt:=(Array.getElem?_eq_some_iff.1 hw).1
   rw[if_pos rfl,if_pos rfl,if_pos hlt,hw];rfl
  ·rw[if_neg e,if_neg e]
 rw[this]
theorem putCells_get {α:Type} [Inhabited α] (enc:α→Value) (off:Nat) (d:Array α) (c:Array Value) {j:Nat} (hj:j<d.size) (hc:off+j<c.size):(Go.Sort.putCells enc off d c)[off+j]? =some (enc d[j]!):=by
 unfold Go.Sort.putCells
 rw[Array.getElem?_mapIdx,Array.getElem?_eq_getElem hc,Option.map_some,if_pos ⟨by omega,by omega⟩,show off+j - off=j by omega]
theorem flat_get {α:Type} {enc:α→List Value} {k:Nat} (hk:0<k) (he: ∀x,(enc x).length=k): ∀(l:List α) (j:Nat),(l.map enc).flatten[j]? =(l[j / k]?).bind fun x=>(enc x)[j%k]?
 | [],j=>by simp
 |a::l,j=>by
  rw[List.map_cons,List.flatten_cons]
  by_cases h:j<k
  ·rw[List.getElem?_append_left (by rw[he];exact h),Nat.div_eq_of_lt h,Nat.mod_eq_of_lt h];rfl
  ·have e1:j / k=(j - k) / k+1:=Nat.div_eq_sub_div hk (by omega)
   have e2:j%k=(j - k)%k:=Nat.mod_eq_sub_mod (by omega)
   rw[List.getElem?_append_right (by rw[he];omega),he,flat_get hk he l,e1,e2];rfl
instance:Inhabited Tri:=⟨⟨0,0,0⟩⟩
open Go.Proofs in
theorem sortsJ:Sorts Go.Proofs.Tryz.prog n_N n_t vTri leX where
 ent:=enters_of Go.Proofs.Tryz.func40 (by kernel_rfl) rfl
 nil:=fun p cap fv w=>AnyF.slices_SortFunc_none (P:=Go.Proofs.Tryz.prog) (ρ:=Go.Proofs.Tryz.sortE_ren) Go.Proofs.Tryz.sortE p cap fv w
 row:=fun blk off cap l w c t hne hl hw hc=>by
  have eg: ∀args w,(callFunc n_t args).run Go.Proofs.Tryz.prog w=.ok (.enter n_t args) w:=enters_of Go.Proofs.Tryz.func41 (by kernel_rfl) rfl
  have hflat: ∀(l:List Tri) (j:Nat),j<l.length*3→(l.map vTri).flatten[j]? =some (Go.Sort.flatK vTri 3 l.toArray)[j]!:=fun l j hj=>by
   rw[flat_get (enc:=vTri) (k:=3) (by omega) (fun _=>rfl),Go.Sort.get_flatK _ _ _ _ (by simpa using hj)]
   have h3:j / 3<l.length:=by omega
   rw[List.getElem?_eq_getElem h3,Option.bind_some,getElem!_pos _ (j / 3) (by simpa using h3)]
   have hm:j%3<(vTri l[j / 3]).length:=Nat.mod_lt _ (by omega)
   rw[List.getElem?_eq_getElem hm]
   congr 1
   have e:(l.toArray[j / 3]'(by simpa using h3))=l[j / 3]:=by simp
   rw[e,getElem!_pos _ (j%3) hm]
  have hH:Go.Sort.HoldsK vTri 3 w blk off l.toArray:=fun j hj=>by
   have hj':j<l.length*3:=by simpa using hj
   have:=hc j _ (hflat l j hj')
   exact⟨by simp only[World.cell?,hw];simpa using this,by simp[World.frozen?,hw]⟩
  refine(AnyQ.slices_SortFunc_total Go.Proofs.Tryz.sortE 3 Go.Proofs.Tryz.isAgg46 Go.Proofs.Tryz.sizeOf46 vTri (fun _=>rfl) (fun x v hv=> ?_) cmpT swoT n_t #[] blk off cap l.toArray w eg (fun m os dk hs x y=> ?_) hH (Array.getElem?_eq_some_iff.1 hw).1 (by simpa using hl) totT).mono ?_
  ·unfold vTri at hv
   simp only[List.mem_cons,List.not_mem_nil,or_false] at hv
   rcases hv with rfl|rfl|rfl<;>rfl
  ·exact calls_int X.hmix okF0 (g:=n_t) (ds:=[.agg (zF ⟨x.f,x.a,x.t⟩),.agg (zF ⟨y.f,y.a,y.t⟩)]) (args:= #[.agg ⟨vTri x⟩,.agg ⟨vTri y⟩]) (r:=cmpT x y) (zgp _ _ rfl) (fun v hv=>by
    simp only[List.mem_cons,List.not_mem_nil,or_false] at hv
    rcases hv with rfl|rfl<;>rfl) (by
    have hx: ∀(W:Wd) (x:Tri),VRel W (.agg (zF ⟨x.f,x.a,x.t⟩)) (.agg ⟨vTri x⟩):=fun W x=>VRel.agg_of (LRel.cons (.int _ _) (LRel.cons (.int _ _) (LRel.cons (.int _ _) LRel.nil)))
    exact LRel.cons (hx _ x) (LRel.cons (hx _ y) LRel.nil))
  ·rintro e w' ⟨rfl,n,os,rfl⟩
   refine⟨rfl,Go.Sort.putCells id off (Go.Sort.flatK vTri 3 (l.mergeSort leX).toArray) c,n,os,by simp[Go.Sort.putCells],fun j v hj=> ?_,?_⟩
   ·have hj2:=(List.getElem?_eq_some_iff.1 hj).1
    rw[zgE (sz:=3) (fun _=>rfl),List.length_mergeSort] at hj2
    have:=hc j _ (hflat l j hj2)
    rw[putCells_get _ _ _ _ (by simpa using hj2) (Array.getElem?_eq_some_iff.1 this).1]
    rw[hflat _ j (by rw[List.length_mergeSort];exact hj2)] at hj
    simpa using hj
   ·have e:Go.Sort.putRow id (Go.Sort.ahead w n) blk off (Go.Sort.flatK vTri 3 (l.mergeSort leX).toArray)=Go.Sort.ahead {w with heap:=w.heap.setIfInBounds blk (.cells (Go.Sort.putCells id off (Go.Sort.flatK vTri 3 (l.mergeSort leX).toArray) c) t (0,0))} n:=putRow_eq _ (Go.Sort.ahead w n) _ _ _ hw
    show Go.Sort.grow (Go.Sort.putRow id (Go.Sort.ahead w n) blk off (Go.Sort.flatK vTri 3 (l.toArray.toList.mergeSort leX).toArray)) os=_
    rw[←e]
theorem ok_slices_SortFunc_api_JamEdge_api_JamEdge_:FnOk Go.Proofs.Tryz.prog n_N (primP (pSrt n_t)):=
 .inr (.inr (.inl ⟨_,rfl,sort_prim (sz:=3) (enc:=vTri) (by decide) (fun _=>rfl) (fun x v hv=>by unfold vTri at hv;simp only[List.mem_cons,List.not_mem_nil,or_false] at hv;rcases hv with rfl|rfl|rfl<;>exact⟨_,rfl⟩) srtT_eq (leX_eq▸sortsJ)⟩))
end Go.Ideal.Z
noncomputable section
namespace Go.Ideal.Y
open Go Go.Ideal Q
theorem okF: ∀g cf,Q.F g=some cf→FnOk Go.Proofs.Tryz.prog g cf:=look_ok (List.forall_mem_cons.2 ⟨X.root_true,(List.forall_mem_cons.2 ⟨Z.ok_slices_SortFunc_api_JamEdge_api_JamEdge_,call.ok⟩)⟩)
end Go.Ideal.Y
end
namespace Go.Proofs.YtjkoholloclgeaaGreatDoor
open Go.ChangeShapes Go.WideShapes Go.RowKit
theorem own:ownKnob Tryz.prog.godebug=none:=by kernel_rfl
abbrev laid {H:Type}:List (String×DataW H):=[("math/bits.deBruijn32tab",Rows.laid_math_bits_deBruijn32tab),("math/bits.deBruijn64tab",Rows.laid_math_bits_deBruijn64tab),("internal/strconv.uint64pow10",Rows.laid_internal_strconv_uint64pow10)]
theorem laid_plain (w:World):laidMetH Tryz.prog laid w=laidMet Tryz.prog laid w:=MakeChecks.laidMetH_plain _ _ _ (by kernel_rfl)
theorem laid_all (os:Os) (args:Array Value):laidMetH Tryz.prog laid ((World.laidAll Tryz.prog os laid).forCall (fun _ _=>0) ⟨#[],args,[]⟩).memory:=by
 rw[laid_plain];exact laidMet_laidAll _ (by kernel_rfl) (by kernel_rfl)
end Go.Proofs.YtjkoholloclgeaaGreatDoor
namespace Go.Proofs.YtjkoholloclgeaaGreatDoor
open Go.ChangeShapes Go.WideShapes Go.RowKit Go.Ideal Go.Ideal.S
theorem laidOut:laidOutB Tryz.prog=true:=by kernel_rfl
theorem ci1:Tryz.prog.cellsOf 3=1:=by kernel_rfl
theorem cs1:Tryz.prog.cellsOf 22=1:=by kernel_rfl
theorem cE3:Tryz.prog.cellsOf 46=3:=by kernel_rfl
def vEd (e:S.Edge):List Value:=[.int .i64 e.f,.int .i64 e.a,.int .i64 e.t]
theorem LRel1 {w:Wd} {d:DV} {v:Value} (h:VRel w d v):LRel w [d] [v]:=⟨rfl,fun k d' v' hd hv=>by
 match k with
 |0=>cases hd;cases hv;exact h
 |k+1=>simp at hd⟩
theorem LRel.cons {w:Wd} {d:DV} {v:Value} {ds:List DV} {vs:List Value} (h:VRel w d v) (hs:LRel w ds vs):LRel w (d::ds) (v::vs):=⟨by simp[hs.len],fun k d' v' hd hv=>by
 match k with
 |0=>cases hd;cases hv;exact h
 |k+1=>exact hs.at_ k _ _ (by simpa using hd) (by simpa using hv)⟩
section
variable {H:Type} {enc:TypeId×Value→H} {W:World} {base b:Nat} {r:Reach} {spare:Nat→Bool} {held:Bool} {v:Value} {d:DataW H} {ps:List MemPlace}
theorem graph_in (hval:Value.okWide Tryz.prog W r base 24 v) (hd:DataW.Trod enc Tryz.prog W b spare held 24 v d ps):okArg W v=true∧ ∃g:Gr,VRel (impW W) (.agg (eGr g)) v:=by
 unfold Value.okWide at hval
 rw[Tryz.underlying24] at hval
 obtain⟨cs,rfl,hsz,ts,hts,_,hcell⟩:=hval
 obtain⟨fuel,hd⟩:=hd
 have hcs:(Value.agg cs).cells.toList=cs.toList:=rfl
 rw[hcs] at hd
 obtain⟨xs,n,_,_,hl,hlen,hf⟩:=DataW.trod_struct Tryz.underlying24 hd
 have h3:Tryz.prog.cellsOf 24=3:=by kernel_rfl
 have hty:Tryz.prog.cellTypes Tryz.prog.depth 24=some [3,3,22]:=by kernel_rfl
 rw[hty] at hts
 cases hts
 rw[h3] at hl
 obtain⟨c0,c1,c2,hc⟩: ∃c0 c1 c2,cs.toList=[c0,c1,c2]:=by
  match cs.toList,hl with
  | [c0,c1,c2],_=>exact⟨c0,c1,c2,rfl⟩
 rw[hc] at hf
 have e0:DataW.trod enc Tryz.prog W b spare held n 3 (([c0,c1,c2].drop 0).take (Tryz.prog.cellsOf 3))=xs[0]?:=hf 0 _ rfl
 have e1:DataW.trod enc Tryz.prog W b spare held n 3 (([c0,c1,c2].drop 1).take (Tryz.prog.cellsOf 3))=xs[1]?:=hf 1 _ rfl
 have e2:DataW.trod enc Tryz.prog W b spare held n 22 (([c0,c1,c2].drop 2).take (Tryz.prog.cellsOf 22))=xs[2]?:=hf 2 _ rfl
 rw[ci1] at e0 e1
 rw[cs1] at e2
 obtain⟨y0,y1,y2,rfl⟩: ∃y0 y1 y2,xs=[y0,y1,y2]:=by
  match xs,hlen with
  | [y0,y1,y2],_=>exact⟨y0,y1,y2,rfl⟩
 obtain⟨st,rfl,_⟩:=zc6 Tryz.underlying3 (show DataW.trod enc Tryz.prog W b spare held n 3 [c0]=some y0 from e0)
 obtain⟨lb,rfl,_⟩:=zc6 Tryz.underlying3 (show DataW.trod enc Tryz.prog W b spare held n 3 [c1]=some y1 from e1)
 have hcs':cs= #[.int .i64 st,.int .i64 lb,c2]:=by rw[←Array.toList_inj,hc]
 subst hcs'
 obtain⟨u,hu,hok⟩:=hcell 2 c2 rfl
 cases hu
 obtain⟨hokv,es,hrow⟩:=zhx (α:=S.Edge) (f:=vEd) (e:=zF) (sz:=3) Tryz.underlying22 cE3 (by omega) (fun _=>rfl) (fun a=>LRel.cons (.int _ _) (LRel.cons (.int _ _) (LRel1 (.int _ _)))) (fun a v hv=>by
  simp only[vEd,List.mem_cons,List.not_mem_nil,or_false] at hv
  rcases hv with rfl|rfl|rfl<;>rfl)
  (fun fuel cs y h=>by
    obtain⟨p,q,s,rfl⟩:=ints3_of_trod Tryz.underlying46 ⟨rfl,rfl⟩ ⟨rfl,rfl⟩ ⟨rfl,rfl⟩ Tryz.underlying3 Tryz.underlying3 Tryz.underlying3 ci1 ci1 ci1 cE3 h
    exact⟨⟨p,q,s⟩,rfl⟩) (slice_ok Tryz.underlying22 hok) (show DataW.trod enc Tryz.prog W b spare held n 22 [c2]=some y2 from e2)
 refine⟨?_,⟨st,lb,es⟩,?_⟩
 ·show([.int .i64 st,.int .i64 lb,c2]:List Value).all (okV W)=true
  simp only[List.all_cons,List.all_nil,hokv,Bool.and_true]
  rfl
 ·have:=LRel.cons (w:=impW W) (.int .i64 st) (LRel.cons (.int .i64 lb) (LRel1 hrow))
  exact .agg this.len this.at_
end
end Go.Proofs.YtjkoholloclgeaaGreatDoor
namespace Go.Proofs.YtjkoholloclgeaaGreatDoor
open Go.ChangeShapes Go.WideShapes Go.RowKit Go.Ideal Go.Ideal.S
theorem ci5:Tryz.prog.cellsOf 5=1:=by kernel_rfl
theorem u8_wf {n:Int} (h:(Lit.int .u8 n).wf=true):0≤n∧n<256:=by
 have e1:IntKind.u8.min=0:=by decide+kernel
 have e2:IntKind.u8.max=255:=by decide+kernel
 have h:(decide (IntKind.u8.min≤n)&&decide (n≤IntKind.u8.max))=true:=h
 rw[e1,e2] at h
 simp only[Bool.and_eq_true,decide_eq_true_eq] at h
 omega
theorem bytes_in {H:Type} {enc:TypeId×Value→H} {W:World} {base b:Nat} {r:Reach} {spare:Nat→Bool} {held:Bool} {v:Value} {d:DataW H} {ps:List MemPlace} (hval:Value.okWide Tryz.prog W r base 56 v) (hd:DataW.Trod enc Tryz.prog W b spare held 56 v d ps):okArg W v=true∧ ∃l:List Int,(∀x∈l,0≤x∧x<256)∧VRel (impW W) (.lst 1 (l.map eU8)) v:=by
 unfold Value.okWide at hval
 rw[Tryz.underlying56] at hval
 have hval:Cell.okWide Tryz.prog W r base 56 v:=hval
 obtain⟨fuel,hd⟩:=hd
 have hsl: ∃base len cap,v=.slice base len cap:=by
  unfold Cell.okWide at hval
  rw[Tryz.underlying56] at hval
  have h:Cell.ok Tryz.prog W r base 56 v:=hval
  unfold Cell.ok at h
  rw[Tryz.underlying56] at h
  cases v<;>first|exact h.elim|exact⟨_,_,_,rfl⟩
 obtain⟨b0,len,cap,rfl⟩:=hsl
 obtain⟨hok,l,hr⟩:=zhx (α:={n:Int // 0≤n∧n<256}) (f:=fun a=>[.int .u8 a.1]) (e:=fun a=>eU8 a.1) (sz:=1) Tryz.underlying56 ci5 (by omega) (fun _=>rfl) (fun a=>LRel1 (.int _ _)) (fun a v hv=>by
  obtain rfl:=List.mem_singleton.1 hv
  rfl)
  (fun fuel cs y h=>by
    obtain⟨a,e,_,hw⟩:=DataW.trod_int Tryz.underlying5 h
    exact⟨⟨a,u8_wf hw⟩,e⟩) (slice_ok Tryz.underlying56 hval) hd
 exact⟨hok,l.map Subtype.val,(by intro x hx;obtain⟨a,_,rfl⟩:=List.mem_map.1 hx;exact a.2),by rw[List.map_map];exact hr⟩
theorem law_lifted (os:Os) (started:os.Started) (H:Type) (enc:TypeId×Value→H):
 ReturnsInHanded {} Tryz.checked os 10 .any (fun w args=>(Rows.jamTurnedSpec.pre enc Tryz.prog Tryz.f10 [] false w args∧laidMetH Tryz.prog laid w)∧sizedMet enc Tryz.prog Tryz.f10 (OpenSpec.ofChange Rows.jamTurnedSpec) false w args)
  (Rows.jamTurnedSpec.post enc Tryz.prog Tryz.f10 false true false false):=by
 refine returnsInHanded_of_change_and (C:=Tryz.checked) (X:=fun w _=>laidMetH Tryz.prog laid w) (fun _ _ _ hh h=>h.of_heap hh) own started (by kernel_rfl) Tryz.func10
  (ChangeSpec.witness_shaped (enc:=enc) (C:=Tryz.checked) (os:=os) (X:=fun w _=>laidMetH Tryz.prog laid w) false (World.laidAll Tryz.prog os laid) #[.agg #[.int .i64 0,.int .i64 0,.slice none 0 0],.slice none 0 0] 8 (World.laidAll_os _ _ _)
    (World.shaped_of_ZipB (by kernel_rfl) (by kernel_rfl)) (by kernel_rfl) (by kernel_rfl) (by kernel_rfl) (laid_all os _)) ?_
 intro W base args ds gs before hval0 hW _ _ hL _
 have hval: ∀(j:Nat) t v,Tryz.f10.params[j]? =some t→args[j]? =some v→Value.okWide Tryz.prog W .any base t v:=hval0
 have hW':=hW
 obtain⟨p,q,hA0,hV0,rfl,hfz,hnd⟩:=hW
 have hA:DataW.TrodAll enc Tryz.prog W 0 (fun _=>true) true Tryz.f10.params.toList args.toList ds p:=hA0
 rw[Tryz.params10] at hA hval
 obtain⟨v0,vs0,d0,ds0,q0,qs0,e0,rfl,rfl,h0,hr0⟩:=trodAll_cons hA
 obtain⟨v1,vs1,d1,ds1,q1,qs1,e1,rfl,rfl,h1,hr1⟩:=trodAll_cons hr0
 obtain⟨e2,rfl,rfl⟩:=trodAll_nil hr1
 obtain rfl:args= #[v0,v1]:=by rw[←Array.toArray_toList (xs:=args),e0,e1,e2]
 obtain⟨o0,x0,r0⟩:=graph_in (hval 0 24 v0 rfl rfl) h0
 obtain⟨o1,x1,b1,r1⟩:=bytes_in (hval 1 56 v1 rfl rfl) h1
 obtain⟨rfl,rfl⟩:=trodVars_none hV0
 refine(v_calls Go.Ideal.X.hmix Go.Ideal.Y.okF (turned_law x0 x1 b1 rfl) (fun v hv=>by
  simp only[List.mem_cons,List.not_mem_nil,or_false] at hv
  rcases hv with rfl|rfl
  ·exact o0
  ·exact o1) (LRel.cons r0 (LRel1 r1))).mono fun e W' ⟨he,hs⟩=>⟨_,he,?_⟩
 exact law_post hW' rfl rfl (t:=4) (by kernel_rfl) Tryz.underlying4 hs laidOut (fun t ht=>by
  rw[Tryz.params10] at ht
  simp only[List.mem_cons,List.not_mem_nil,or_false] at ht
  rcases ht with rfl|rfl<;>exact⟨by kernel_rfl,of_decide_eq_true (by kernel_rfl)⟩)
theorem row_holds:Rows.JamTurnedSaid:=
 OpenClaim.holds_of_wide 10 Tryz.f10 rfl rfl rfl rfl rfl rfl rfl ⟨rfl,rfl,rfl,rfl,rfl⟩ rfl rfl rfl rfl rfl (by kernel_rfl) Tryz.func10 (by kernel_rfl)
  (of_decide_eq_true (by kernel_rfl)) (by unfold Func.isWrapper;first| (rw[if_pos (by decide+kernel)];kernel_rfl)| (rw[if_neg (by decide+kernel)];exact⟨rfl,rfl⟩))
  (fun os started H enc _=>law_lifted os started H enc)
theorem card_holds:Rows.JamTurnedCardSaid:=
 Claim7.holds_tied_plain_at .later [] [.data,.data,.data] true (true,"521d0d024becd3449cbaa7fc8ddfd8d84abc78d655dc307d7db42fe736fb9c1c") true
  row_holds (fun _ h=>by cases h) (by kernel_rfl) (fun _ h=>by cases h) jamTurned_row_tie rfl ⟨rfl,rfl⟩ (by kernel_rfl) rfl
  (fun f fn hf hfn=>by
    obtain rfl:f=10:=Option.some.inj ((show Tryz.prog.funcNamed "cabotage/cabotagelaw23.JamTurned" =some 10 by kernel_rfl).symm.trans hf) |>.symm
    obtain rfl:fn=Tryz.f10:=(Option.some.inj (Tryz.func10.symm.trans hfn)).symm
    exact⟨by kernel_rfl,fun j t ht=>by
     rw[Tryz.params10] at ht
     rcases j with _|_|j<;>simp at ht<;>subst ht<;>exact of_decide_eq_true (by kernel_rfl)⟩)
  (by kernel_rfl)
end Go.Proofs.YtjkoholloclgeaaGreatDoor
