/- WireTables: both answer alike at any bytes and any pairs. No condition. -/
import Derived.Test.YtffbioplncclkaaGreatProg
import Derived.Shelf.Spec.SlicesInsertGrow
import Derived.Test.YtffbioplncclkaaGreatRows
import Derived.RowKitTokens
import Derived.ChangeVars
import Derived.Stop.Joined
import Derived.Test.YtffbioplncclkaaGreatG
set_option linter.unusedSimpArgs false
set_option linter.unusedVariables false
set_option linter.unusedSectionVars false
set_option maxRecDepth 100000
open List renaming take_succ_eq_append_getElem→qb,getElem?_eq_getElem→qd,forall_mem_cons→qg,take_length→qi,mem_singleton→qj,getElem_mem→ql,getElem?_append_left→qm,not_mem_nil→qn,getElem?_append_right→qo,mem_cons→qp,length_map→qq,length_append→qr,mem_append→qt,append_assoc→qv,foldl_append→qA,getElem?_eq_some_iff→qD,foldl_cons→qE,getElem?_take→qF,getElem?_drop→qG,nodup_append→qI,length_take→qJ,length_cons→qK,drop_append_of_le_length→qM,foldl_nil→qN,mem_cons_self→qO,find?_eq_none→qP,getElem?_map→qQ,mem_take_iff_getElem→qR,mem_of_find?_eq_some→qS,take_left'→qV,drop_left'→qW,length_nil→qY,length_set→qZ,head?_eq_getElem?→qba,find?_cons_of_pos→qbb,take_append_drop→qbd,mem_of_mem_drop→qbf,mem_cons_of_mem→qbh,mem_map→qbk,size_toArray→qbl,getElem?_set→qbn,getElem_map→qbr
open Option renaming bind_some→qe,map_eq_some_iff→qy,bind_eq_some_iff→qU,map_some→qX
open Classical renaming byContradiction→qf
open Nat renaming le_refl→qh,eq_of_beq_eq_true→qL,add_zero→qT,le_of_ble_eq_true→qbc,mul_le_mul_right→qbe,add_assoc→qbi,min_def→qbp
open Go.Builtin renaming zeroCells→qk,copy_→qC,firstCells→qbj,append_→qbs
open Go.DataW renaming trod→qu,trod_slice→qbq
open Go.World renaming cell?_drew→qw,cell?_alloc_lt→qbg,cells?_some→qbm,cell?→qbo
open Option.some renaming inj→qx
open Go.IntKind renaming wrap_i64→qB
open Go renaming run_storeCells_at→qH
namespace Go.Proofs.YtffbioplncclkaaGreat
open Go.RowKit Go.Lib Go.Shelf
section
theorem mixed:Tryz.prog.follows .mixedOrders=true:=by kernel_rfl
theorem z63: ∀w,(Go.sizeOf 73).run Tryz.prog w=.ok 3 w:=fun w=>by kernel_rfl
theorem u44:Tryz.prog.underlying 84=some (.slice 73):=Tryz.underlying84
set_option maxHeartbeats 8000000 in
theorem ins_shift (b off n c i vb voff vc:Nat) (w W1 W2:World) (hi:i<n) (hroom:n+1≤c) (hn63:n≤1000000000000) (hvb:vb≠b)
 (tA tB:TypeId) (kA kB:Nat) (hsa:w.shape? vb=some (tA,kA)) (hsb:w.shape? b=some (tB,kB)) (hkB:kB≠0) (hfa:w.frozen? ⟨vb,voff,none⟩=false) (hfe:w.frozen? ⟨vb,kA,none⟩=false)
 (hcp1: ∀ty dc sc,(qC #[84,84] ty #[.slice (some ⟨b,off+(i+1)*3,none⟩) (n - i) dc,.slice (some ⟨b,off+i*3,none⟩) (n+1 - i) sc]).run Tryz.prog w.drew=.ok (goInt ((n - i:Nat):Int)) W1)
 (hcp2: ∀ty dc,(qC #[84,84] ty #[.slice (some ⟨b,off+i*3,none⟩) (n+1 - i) dc,.slice (some ⟨vb,voff,none⟩) 1 vc]).run Tryz.prog W1=.ok (goInt 1) W2):
 Calls Tryz.prog 83 #[.slice (some ⟨b,off,none⟩) n c,.int .i64 i,.slice (some ⟨vb,voff,none⟩) 1 vc] w fun e w'=>
  e=.returned (.slice (some ⟨b,off,none⟩) (n+1) c)∧w'=W2:=by
 have hz2: ¬((i:Int)=(n:Int)):=by omega
 have hov: ∀lb cb,(callFunc 149 #[.slice (some ⟨vb,voff,none⟩) 1 vc,.slice (some ⟨b,off+(i+1)*3,none⟩) lb cb]).run Tryz.prog w=.ok (.value (.bool false)) w:=fun lb cb=>by
  rw[run_callFunc_extern Tryz.func149 (by kernel_rfl) (by kernel_rfl) (by kernel_rfl) (e:=Extern.SlicesOverlaps.overlaps #[84,84] #[4]) (by kernel_rfl),
   Lib.run_overlaps_apart w 84 4 73 u44 3 z63 ⟨vb,voff,none⟩ ⟨b,off+(i+1)*3,none⟩ 1 vc lb cb hvb tA tB kA kB hsa hsb hkB hfa hfe]
  rfl
 have mixed:=mixed;have hw1:IntKind.i64.wrap ((i:Int)+1)=(i:Int)+1:=by rw[qB];omega
 have hw2:IntKind.i64.wrap ((n:Int)+1)=(n:Int)+1:=by rw[qB];omega
 have hb1:(0:Int)≤(i:Int)+1:=by omega
 have hin:i≤n:=by omega
 have htn:((i:Int)+1).toNat=i+1:=by omega
 have htn2:((n:Int)+1).toNat=n+1:=by omega
 have hb2: ¬(c=i+1):=by omega
 have hb3:(i:Int)≤(n:Int)+1:=by omega
 have hb4: ¬(c=i):=by omega
 have z63:=z63
 go_enter Tryz.func83,Tryz.ntmps83
 go_wp2_with (simp only[hov])
 go_region_law_o (refine step_copy_runI rfl _ _ 84 84 rfl _ _ (by simp[Act.eval,Act.put]) (by simp[Act.eval,Act.put]) (hcp1 _ _ _) ?_)
 go_wp2_with (at_builtin;refine wpList_copy_runI _ rfl _ _ 84 84 rfl _ _ rfl rfl (hcp2 _ _) ?_)
 go_ret
 exact⟨rfl,rfl⟩
end
section
set_option maxHeartbeats 8000000 in
theorem ins_grow (b off n c i vb voff vc N G:Nat) (w W1 W2 W3:World) (hi:i<n) (hnc:n≤c) (hroom:c<n+1) (hn63:n≤1000000000000) (hG:n+1≤G) (hG63:G≤9223372036854775807)
 (hap: ∀ty,(qbs #[84,3] ty #[.slice (some ⟨b,off,none⟩) i c,.int .i64 ((n:Int)+1 - (i:Int))]).run Tryz.prog w=.ok (.slice (some ⟨N,0,none⟩) (n+1) G) W1)
 (hcpA: ∀ty dc,(qC #[84,84] ty #[.slice (some ⟨N,i*3,none⟩) (n+1 - i) dc,.slice (some ⟨vb,voff,none⟩) 1 vc]).run Tryz.prog W1=.ok (goInt 1) W2)
 (hcpB: ∀ty dc sc,(qC #[84,84] ty #[.slice (some ⟨N,(i+1)*3,none⟩) (n - i) dc,.slice (some ⟨b,off+i*3,none⟩) (n - i) sc]).run Tryz.prog W2.drew=.ok (goInt ((n - i:Nat):Int)) W3):
 Calls Tryz.prog 83 #[.slice (some ⟨b,off,none⟩) n c,.int .i64 i,.slice (some ⟨vb,voff,none⟩) 1 vc] w fun e w'=>
  e=.returned (.slice (some ⟨N,0,none⟩) (n+1) G)∧w'=W3:=by
 have hz2: ¬((i:Int)=(n:Int)):=by omega
 have hz3:(c:Int)<(n:Int)+1:=by omega
 have mixed:=mixed;have hw1:IntKind.i64.wrap ((i:Int)+1)=(i:Int)+1:=by rw[qB];omega
 have hw2:IntKind.i64.wrap ((n:Int)+1)=(n:Int)+1:=by rw[qB];omega
 have hw3:IntKind.i64.wrap ((n:Int)+1 - (i:Int))=(n:Int)+1 - (i:Int):=by rw[qB];omega
 have hb1:(0:Int)≤(i:Int)+1:=by omega
 have hin:i≤n:=by omega
 have htn:((i:Int)+1).toNat=i+1:=by omega
 have htn2:((n:Int)+1).toNat=n+1:=by omega
 have hb3:(i:Int)≤(n:Int):=by omega
 have hGi: ¬(G=i):=by omega
 have hGim: ¬(G=i+1):=by omega
 have hci: ¬(c=i):=by omega
 have z63:=z63
 go_enter Tryz.func83,Tryz.ntmps83
 go_wp2_with (first
  | (at_builtin;refine Lib.wpList_append_run _ rfl _ _ _ _ rfl _ _ rfl rfl _ _ (hap _) ?_)
  | (at_builtin;refine wpList_copy_runI _ rfl _ _ 84 84 rfl _ _ rfl rfl (hcpA _ _) ?_))
 go_region_law_o (refine step_copy_runI rfl _ _ 84 84 rfl _ _ (by simp[Act.eval,Act.put]) (by simp[Act.eval,Act.put]) (hcpB _ _ _) ?_)
 go_wp2
 go_ret
 exact⟨rfl,rfl⟩
end
end Go.Proofs.YtffbioplncclkaaGreat
namespace Go.Proofs.YtffbioplncclkaaGreat
open Go.RowKit Go.Lib Go.Shelf Go.Ideal
section
theorem zjE (w w':World) (d s:Addr) (dLen dc sLen sc k:Nat) (l:List Value) (ty:TypeId) (hk:Nat.min sLen dLen=k) (hl:l.length=k*3) (hsrc: ∀j v,l[j]? =some v→w.cell? (s.add j)=some v)
 (hst:(storeCells d l).run Tryz.prog w=.ok () w'):(qC #[84,84] ty #[.slice (some d) dLen dc,.slice (some s) sLen sc]).run Tryz.prog w=.ok (goInt k) w':=by
 have hld:=run_loadCells_list (P:=Tryz.prog) w s l hsrc;rw[hl] at hld;simp[qC,run_underlying u44,Builtin.lenOf,qbj,z63,hk,hld,hst]
def zgR (c:List Value) (p i:Nat) (vs tl:List Value):List Value:=
 let r1:=c.take (p+(i+1)*3)++tl++c.drop (p+(i+1)*3+tl.length)
 r1.take (p+i*3)++vs++r1.drop (p+i*3+vs.length)
theorem insRow_length {c:List Value} {p i:Nat} {vs tl:List Value} (hv:vs.length=3) (hf:p+(i+1)*3+tl.length≤c.length):(zgR c p i vs tl).length=c.length:=by
 unfold zgR;simp[hv];omega
theorem insRow_get {c:List Value} {p i n:Nat} {vs old:List Value} (hv:vs.length=3) (ho:old.length=n*3) (hi:i<n) (hf:p+(n+1)*3≤c.length) (hc: ∀j v,j<i*3→old[j]? =some v→c[p+j]? =some v)
 (j:Nat) (hj:j<(n+1)*3):(zgR c p i vs (old.drop (i*3)))[p+j]? =(old.take (i*3)++(vs++old.drop (i*3)))[j]?:=by
 have htl:(old.drop (i*3)).length=n*3 - i*3:=by simp[ho]
 unfold zgR;dsimp only;generalize hr1:(c.take (p+(i+1)*3)++old.drop (i*3)++c.drop (p+(i+1)*3+(old.drop (i*3)).length))=r1;have hl1:r1.length=c.length:=by rw[←hr1];simp[ho];omega
 have htk:(old.take (i*3)).length=i*3:=by simp[ho];omega
 by_cases h1:j<i*3
 ·rw[List.append_assoc,List.getElem?_append_left (by simp[hl1];omega),List.getElem?_take,if_pos (by omega),List.getElem?_append_left (by omega)];rw[←hr1,List.append_assoc,List.getElem?_append_left (by simp;omega),List.getElem?_take,if_pos (by omega)];have hlt:j<old.length:=by omega
  rw[hc j _ h1 (qd hlt),qF,if_pos h1,qd hlt]
 ·by_cases h2:j<i*3+3
  ·rw[List.append_assoc,List.getElem?_append_right (by simp[hl1];omega),List.getElem?_append_left (by simp[hl1];omega)];rw[List.getElem?_append_right (by omega),htk,List.getElem?_append_left (by omega)]
   congr 1;simp[hl1];omega
  ·rw[List.getElem?_append_right (by simp[hl1,hv];omega),List.getElem?_drop];have e:p+i*3+vs.length+(p+j - (r1.take (p+i*3)++vs).length)=p+j:=by simp[hl1,hv];omega
   rw[e,←hr1,qm (by simp[ho];omega),qo (by simp;omega)];rw[qo (by omega),htk,qo (by omega)]
   congr 1;simp[hv];omega
theorem cell_setRow {w:World} {g:Nat} {old cs:Array Value} {t:TypeId} {fr:Nat×Nat} (hg:w.heap[g]? =some (.cells old t fr)) {a:Addr} (hne:a.block≠g):(w.setRow g cs).cell? a=w.cell? a:=by
 rw[zbH w g old cs t fr hg];unfold qbo;rw[show({w with heap:=w.heap.setIfInBounds g (.cells cs t fr)}:World).heap[a.block]? =w.heap[a.block]? from by
  show(w.heap.setIfInBounds g _)[a.block]? =_;rw[Array.getElem?_setIfInBounds,if_neg (fun e=>hne e.symm)]]
theorem zlK {w:World} {g:Nat} {old cs:Array Value} {t:TypeId} {fr:Nat×Nat} (hg:w.heap[g]? =some (.cells old t fr)):(w.setRow g cs).heap[g]? =some (.cells cs t fr):=by
 rw[zbH w g old cs t fr hg];have:=(Array.getElem?_eq_some_iff.1 hg).1;show(w.heap.setIfInBounds g _)[g]? =_;simp[this]
theorem setRow_setRow {w:World} {g:Nat} {old c1 c2:Array Value} {t:TypeId} {fr:Nat×Nat} (hg:w.heap[g]? =some (.cells old t fr)):(w.setRow g c1).setRow g c2={w with heap:=w.heap.setIfInBounds g (.cells c2 t fr)}:=by
 rw[zbH _ g c1 c2 t fr (zlK hg),zbH w g old c1 t fr hg];simp
theorem cell_of {w:World} {g:Nat} {c:Array Value} {t:TypeId} {fr:Nat×Nat} (hg:w.heap[g]? =some (.cells c t fr)) (o:Nat):w.cell? ⟨g,o,none⟩=c[o]?:=by
 unfold qbo;simp[hg]
theorem VRL.three {ρ:Rho} {x y z:Value} {args:Array Value} (h:VRL ρ [x,y,z] args.toList): ∃x' y' z',args= #[x',y',z']∧VR ρ x x'∧VR ρ y y'∧VR ρ z z':=by
 obtain⟨x',l,e,h1,h2⟩:=h.cons_left;obtain⟨y',l2,rfl,h3,h4⟩:=h2.cons_left;obtain⟨z',l3,rfl,h5,h6⟩:=h4.cons_left;rw[h6.nil_left] at e;exact⟨x',y',z',by rw[←Array.toArray_toList (xs:=args),e],h1,h3,h5⟩
theorem plainRow_some {h:H} {i:Nat} (hp:plainRow h i=true): ∃cs e,h.get i=some (.cells cs e)∧e≠roE:=by
 unfold plainRow at hp
 split at hp
 ·rename_i cs e hg;exact⟨cs,e,hg,fun h=>by rw[h] at hp;simp at hp⟩
 ·cases hp
end
section
section
variable {ρ:Rho} {h:H} {w:World}
theorem shift_ok (hr:HR Tryz.prog ρ h w) {i0 o0 n cap' i:Nat} {R:RB} {cs old vs vs' old':List Value} {Rv:RB} {vo vc':Nat} (hR:ρ i0=some R) (ho:h.get i0=some (.cells cs 3)) (hl:n≤cap') (hs:R.base+o0+cap'*R.esz≤R.csize) (hi:i<n) (hle:n+1≤cap') (hn63:n≤1000000000000)
 (hvl:vs.length=3) (hvv:VRL ρ vs vs') (hcell:vs.all isCell=true) (hcv: ∀j v,vs'[j]? =some v→w.cell? ((⟨Rv.blk,Rv.base+vo,none⟩:Addr).add j)=some v) (hold:old.length=n*3) (hvo:VRL ρ old old')
 (hco: ∀j v,old'[j]? =some v→w.cell? ((⟨R.blk,R.base+o0,none⟩:Addr).add j)=some v) (hone: ∀u∈old',u.oneCell'=true)
 {cv:Array Value} {tv:TypeId} (hbv:w.heap[Rv.blk]? =some (.cells cv tv (0,0))) (hne:Rv.blk≠R.blk):
 Calls Tryz.prog 83 #[.slice (some ⟨R.blk,R.base+o0,none⟩) n cap',.int .i64 i,.slice (some ⟨Rv.blk,Rv.base+vo,none⟩) 1 vc'] w
  (zhu Tryz.prog ρ w (.val (zb5 (h.put i0 .dead) (n+1) 3 (old.take (i*3)++(vs++old.drop (i*3)))).1 (zb5 (h.put i0 .dead) (n+1) 3 (old.take (i*3)++(vs++old.drop (i*3)))).2)):=by
 obtain⟨q1,q2,c,t,fr,hb1,hfx,hsz,hfit,hget⟩:=hr.obj _ _ _ hR ho;obtain⟨hfx,rfl⟩:=hfx.resolve_right (fun h=>by have:=h.2;simp[roE] at this);rw[q1] at hs;have hvl':vs'.length=3:=by rw[←hvv.1];exact hvl
 have hol':old'.length=n*3:=by rw[←hvo.1];exact hold
 have hcl:c.toList.length=c.size:=by simp
 have hroom:R.base+o0+(n+1)*3≤c.size:=by rw[hsz];have:=qbe 3 hle;omega
 have honev:=one_of hvv hcell;have htl:(old'.drop (i*3)).length=n*3 - i*3:=by simp[hol']
 have hb1d:w.drew.heap[R.blk]? =some (.cells c t (0,0)):=hb1;have hbvd:w.drew.heap[Rv.blk]? =some (.cells cv tv (0,0)):=hbv;have hst1:=qH (P:=Tryz.prog) R.blk (R.base+o0+(i+1)*3) t (old'.drop (i*3)) 0 c w.drew hb1d (by rw[htl];omega) (fun v hv=>hone v (qbf hv));rw[qT] at hst1;generalize hrow1:(c.toList.take (R.base+o0+(i+1)*3)++old'.drop (i*3)++c.toList.drop (R.base+o0+(i+1)*3+(old'.drop (i*3)).length))=row1 at hst1;have hrl1:row1.length=c.size:=by rw[←hrow1];simp[hol'];omega
 have hb2:=zlK (cs:=row1.toArray) hb1d;have hst2:=qH (P:=Tryz.prog) R.blk (R.base+o0+i*3) t vs' 0 row1.toArray (w.drew.setRow R.blk row1.toArray) hb2 (by simp[hrl1,hvl'];omega) honev;rw[qT] at hst2;have hrow2:(row1.toArray.toList.take (R.base+o0+i*3)++vs'++row1.toArray.toList.drop (R.base+o0+i*3+vs'.length))=zgR c.toList (R.base+o0) i vs' (old'.drop (i*3)):=by
  unfold zgR;dsimp only;rw[hrow1]
 rw[hrow2,setRow_setRow hb1d] at hst2;have hrl2:(zgR c.toList (R.base+o0) i vs' (old'.drop (i*3))).length=c.size:=by rw[insRow_length hvl' (by rw[htl,hcl];omega),hcl]
 have hk1:n*3 - i*3=(n - i)*3:=by rw[←Nat.sub_mul]
 have hcall:=ins_shift R.blk (R.base+o0) n cap' i Rv.blk (Rv.base+vo) vc' w (w.drew.setRow R.blk row1.toArray) {w.drew with heap:=w.drew.heap.setIfInBounds R.blk (.cells (zgR c.toList (R.base+o0) i vs' (old'.drop (i*3))).toArray t (0,0))}
  hi hle hn63 hne tv t cv.size c.size (by unfold World.shape?;rw[hbv]) (by unfold World.shape?;rw[hb1]) (by omega) (by unfold World.frozen?;rw[hbv];simp) (by unfold World.frozen?;rw[hbv];simp)
  (fun ty dc sc=>zjE w.drew _ _ _ (n - i) dc (n+1 - i) sc (n - i) (old'.drop (i*3)) ty (by simp only[qbp];split<;>omega) (by rw[htl,hk1]) (fun j v hj=>by
    rw[qG] at hj;have:=hco _ v hj;rw[Addr.add_mk] at this⊢;rw[qw,qbi];exact this) hst1)
  (fun ty dc=>zjE _ _ _ _ (n+1 - i) dc 1 vc' 1 vs' ty (by simp only[qbp];split<;>omega) (by rw[hvl']) (fun j v hj=>by
    rw[cell_setRow hb1d (by rw[Addr.add_mk];exact hne),qw];exact hcv j v hj) hst2)
 refine hcall.mono ?_;rintro e w' ⟨rfl,rfl⟩;have hfree:=(hr.nxt _ (qh _)).1;have hLl:(old.take (i*3)++(vs++old.drop (i*3))).length=(n+1)*3:=by simp[hold,hvl];omega
 have hLr:VRL ρ (old.take (i*3)++(vs++old.drop (i*3))) (old'.take (i*3)++(vs'++old'.drop (i*3))):=(hvo.take _).append (hvv.append (hvo.drop _));have hblt:=hr.blk _ _ hR;obtain⟨g1,g2⟩:=hr.drew.steal (R':=⟨R.blk,R.base+o0,R.csize,3,(n+1)*3,none⟩) (io:=.cells (old.take (i*3)++(vs++old.drop (i*3))) 3) (o:=.cells (zgR c.toList (R.base+o0) i vs' (old'.drop (i*3))).toArray t) hR ho (by simp) hb1d (fun r hr=>by cases hr) (zbD _ _) (zbD _ _) rfl (by
  refine⟨rfl,hLl.symm,(zgR c.toList (R.base+o0) i vs' (old'.drop (i*3))).toArray,t,_,by simp[hblt],.inl ⟨rfl,rfl⟩,by simp[hrl2,hsz],by simp only[qbl,hrl2];rw[hLl];exact hroom,fun j x hj=> ?_⟩;have hjlt:j<(n+1)*3:=by rw[←hLl];exact(qD.1 hj).1
  obtain⟨y,hy,hyv⟩:=hLr.get hj;refine⟨y,?_,.inr (hyv.mono (zdo _ hfree))⟩;simp only[List.getElem?_toArray];rw[insRow_get hvl' hol' hi (by rw[hcl];exact hroom) (fun k v hk hkv=> ?_) j hjlt]
  ·exact hy
  ·have:=hco k v hkv;rw[Addr.add_mk,cell_of hb1] at this;rw[Array.getElem?_toList];exact this)
 have hvr:VR (upd ρ h.next ⟨R.blk,R.base+o0,R.csize,3,(n+1)*3,none⟩) (.slice (some ⟨h.next,0,none⟩) (n+1) zc) (.slice (some ⟨R.blk,R.base+o0+0,none⟩) (n+1) cap'):=by
  have h1:(n+1)*3≤cap'*3:=qbe _ hle;exact VR.sliceO (zK _ _ _) (by show 0<3;omega) hle (by show R.base+o0+0+cap'*3≤R.csize;omega) (by show(n+1)*3≤0+cap'*3;omega)
 exact⟨_,_,_,_,rfl,rfl,by simpa[zb5] using hvr,g1,(Ext.drew ρ w).trans g2⟩
end
theorem two_stores {A Z1 Z2 V D:List Value} {a v:Nat} (ha:A.length=a) (hv:V.length=v) (hz:Z1.length=v+D.length):
 let r1:=(A++Z1++Z2).take a++V++(A++Z1++Z2).drop (a+V.length)
 r1.length=(A++Z1++Z2).length∧r1.take (a+v)++D++r1.drop (a+v+D.length)=A++(V++D)++Z2:=by
 have e1:(A++Z1++Z2).take a=A:=by rw[qv];exact qV ha
 have e2:(A++Z1++Z2).drop (a+V.length)=Z1.drop v++Z2:=by
  rw[qv,←List.drop_drop,qW ha,hv,qM (by omega)]
 intro r1;have e:r1=A++V++(Z1.drop v++Z2):=by show(A++Z1++Z2).take a++V++(A++Z1++Z2).drop (a+V.length)=_;rw[e1,e2]
 have e3:r1.take (a+v)=A++V:=by rw[e];exact qV (by simp[ha,hv])
 have e4:r1.drop (a+v+D.length)=Z2:=by
  rw[e,←List.drop_drop,qW (by simp[ha,hv])];exact qW (by simp[hz])
 refine⟨by rw[e];simp[hz,hv];omega,?_⟩;rw[e3,e4];simp
theorem zjb {w:World} {A B:Array Value} {t:TypeId}:(w.alloc (.cells A t)).setRow w.heap.size B=w.alloc (.cells B t):=by
 rw[zbH _ _ A B t (0,0) (zY _ _)];show({w with heap:=(w.heap.push (.cells A t)).setIfInBounds w.heap.size (.cells B t)}:World)={w with heap:=w.heap.push (.cells B t)}
 congr 1
 apply Array.ext_getElem?;intro j;by_cases hj:j=w.heap.size
 ·subst hj;simp
 ·rw[Array.getElem?_setIfInBounds,if_neg (fun e=>hj e.symm),Array.getElem?_push,Array.getElem?_push,if_neg hj,if_neg hj]
def zv63:Value:=.agg #[.int .i64 0,.int .i64 0,.slice none 0 0]
theorem i63:(Tryz.prog.info? 73).map (fun i=>(i.zero,i.size,i.bytes))=some (some zv63,3,40):=by kernel_rfl
section
variable {ρ:Rho} {h:H} {w:World}
theorem grow_ok (hr:HR Tryz.prog ρ h w) {i0 o0 n cap' i:Nat} {R:RB} {cs old vs vs' old':List Value} {Rv:RB} {vo vc':Nat} (hR:ρ i0=some R) (ho:h.get i0=some (.cells cs 3)) (hl:n≤cap') (hi:i<n) (hle: ¬n+1≤cap') (hbytes:(n+1)*40≤1073741824)
 (hvl:vs.length=3) (hvv:VRL ρ vs vs') (hcell:vs.all isCell=true) (hcv: ∀j v,vs'[j]? =some v→w.cell? ((⟨Rv.blk,Rv.base+vo,none⟩:Addr).add j)=some v) (hvlt:Rv.blk<w.heap.size) (hold:old.length=n*3) (hvo:VRL ρ old old')
 (hco: ∀j v,old'[j]? =some v→w.cell? ((⟨R.blk,R.base+o0,none⟩:Addr).add j)=some v) (hone: ∀u∈old',u.oneCell'=true):
 Calls Tryz.prog 83 #[.slice (some ⟨R.blk,R.base+o0,none⟩) n cap',.int .i64 i,.slice (some ⟨Rv.blk,Rv.base+vo,none⟩) 1 vc'] w
  (zhu Tryz.prog ρ w (.val (zb5 (h.put i0 .dead) (n+1) 3 (old.take (i*3)++(vs++old.drop (i*3)))).1 (zb5 (h.put i0 .dead) (n+1) 3 (old.take (i*3)++(vs++old.drop (i*3)))).2)):=by
 obtain⟨i1,hi1,hz1,hsz,hbt⟩:=info_parts i63;have hvl':vs'.length=3:=by rw[←hvv.1];exact hvl
 have hol':old'.length=n*3:=by rw[←hvo.1];exact hold
 have honev:=one_of hvv hcell;have hRlt:=hr.blk _ _ hR;have htl:(old'.drop (i*3)).length=(n - i)*3:=by simp[hol',Nat.sub_mul]
 have htk:(old'.take (i*3)).length=i*3:=by simp[hol'];omega
 have hik:i+(n+1 - i)=n+1:=by omega
 have hkk:((n:Int)+1 - (i:Int))=((n+1 - i:Nat):Int):=by omega
 have hfc:(qbj i1.size i (.slice (some ⟨R.blk,R.base+o0,none⟩) i cap')).run Tryz.prog w.drew=.ok (old'.take (i*3)).toArray w.drew:=by
  rw[hsz];exact run_firstCells_some w.drew 3 i ⟨R.blk,R.base+o0,none⟩ i cap' (old'.take (i*3)) htk (fun j v hj=>by
   rw[qF] at hj
   split at hj
   ·rw[qw];exact hco j v hj
   ·cases hj)
 obtain⟨G,hG⟩: ∃G,G=grownCap w (n+1) cap' 73:=⟨_,rfl⟩;have hGn:n+1≤G:=by rw[hG];exact grownCap_ge w _ _ _
 have hG63:G≤9223372036854775807:=by
  have:=grownCap_le_maxLen w (n+1) cap' 73 (by unfold maxLen;omega);rw[←hG] at this;unfold maxLen at this;omega
 obtain⟨ROW,hROW⟩: ∃ROW:Array Value,ROW=(old'.take (i*3)).toArray++qk zv63.cells (n+1 - i)++qk zv63.cells (G - (n+1)):=⟨_,rfl⟩;have hrz: ∀ty,(qbs #[84,3] ty #[.slice (some ⟨R.blk,R.base+o0,none⟩) i cap',.int .i64 ((n:Int)+1 - (i:Int))]).run Tryz.prog w=.ok (.slice (some ⟨w.heap.size,0,none⟩) (n+1) G) (w.drew.alloc (.cells ROW 73)):=fun ty=>by
  have h:=Lib.run_append_grow_zeros w 84 3 ty 73 i1 _ .i64 .i64 u44 Tryz.underlying3 hi1 hz1 (some ⟨R.blk,R.base+o0,none⟩) i cap' (old'.take (i*3)) hfc (n+1 - i) (by omega) (by omega) (by omega) (by omega) (by rw[hbt];omega) (by rw[hbt,hik];exact growslice_fits (by omega) (by omega));rw[hik,←hG,←hROW] at h;rw[hkk];exact h
 have hzl: ∀k,(qk zv63.cells k).toList.length=k*3:=fun k=>by simp[qk,zv63,Value.cells]
 have hRl:ROW.toList=old'.take (i*3)++(qk zv63.cells (n+1 - i)).toList++(qk zv63.cells (G - (n+1))).toList:=by rw[hROW];simp
 obtain⟨s1,s2⟩:=two_stores (A:=old'.take (i*3)) (Z1:=(qk zv63.cells (n+1 - i)).toList) (Z2:=(qk zv63.cells (G - (n+1))).toList) (V:=vs') (D:=old'.drop (i*3)) htk hvl' (by rw[hzl,htl];omega);rw[←hRl] at s1 s2;have hRs:ROW.size=ROW.toList.length:=by simp
 have hRsz:i*3+(n+1 - i)*3≤ROW.size:=by rw[hRs,hRl];simp only[qr,htk,hzl];omega
 have hg1:(w.drew.alloc (.cells ROW 73)).heap[w.heap.size]? =some (.cells ROW 73 (0,0)):=zY w.drew _;have hst1:=qH (P:=Tryz.prog) w.heap.size (i*3) 73 vs' 0 ROW (w.drew.alloc (.cells ROW 73)) hg1 (by rw[hvl'];omega) honev;rw[qT] at hst1;generalize hrow1:(ROW.toList.take (i*3)++vs'++ROW.toList.drop (i*3+vs'.length))=row1 at hst1 s1 s2;have hA1:(w.drew.alloc (.cells ROW 73)).setRow w.heap.size row1.toArray=w.drew.alloc (.cells row1.toArray 73):=zjb (w:=w.drew);rw[hA1] at hst1;have hg2:(w.drew.alloc (.cells row1.toArray 73)).drew.heap[w.heap.size]? =some (.cells row1.toArray 73 (0,0)):=zY w.drew _;have hst2:=qH (P:=Tryz.prog) w.heap.size ((i+1)*3) 73 (old'.drop (i*3)) 0 row1.toArray (w.drew.alloc (.cells row1.toArray 73)).drew hg2 (by rw[htl];simp only[qbl,s1,←hRs];omega) (fun v hv=>hone v (qbf hv));rw[qT,show(i+1)*3=i*3+3 from by omega] at hst2;simp only[List.toList_toArray] at hst2;rw[s2] at hst2;have hA2:(w.drew.alloc (.cells row1.toArray 73)).drew.setRow w.heap.size (old'.take (i*3)++(vs'++old'.drop (i*3))++(qk zv63.cells (G - (n+1))).toList).toArray=w.drew.drew.alloc (.cells (old'.take (i*3)++(vs'++old'.drop (i*3))++(qk zv63.cells (G - (n+1))).toList).toArray 73):=zjb (w:=w.drew.drew);rw[hA2] at hst2;have hcall:=ins_grow R.blk (R.base+o0) n cap' i Rv.blk (Rv.base+vo) vc' w.heap.size G w _ _ _ hi hl (by omega) (by omega) hGn hG63 hrz
  (fun ty dc=>zjE _ _ _ _ (n+1 - i) dc 1 vc' 1 vs' ty (by simp only[qbp];split<;>omega) (by rw[hvl']) (fun j v hj=>by
    have:=hcv j v hj;rw[Addr.add_mk] at this⊢;rw[qbg _ _ ⟨Rv.blk,_,none⟩ (show Rv.blk<w.drew.heap.size from hvlt),qw];exact this) hst1)
  (fun ty dc sc=>zjE _ _ _ _ (n - i) dc (n - i) sc (n - i) (old'.drop (i*3)) ty (by simp) htl (fun j v hj=>by
    rw[qG] at hj;have:=hco _ v hj;rw[Addr.add_mk] at this⊢;rw[qw,qbg _ _ ⟨R.blk,_,none⟩ (show R.blk<w.drew.heap.size from hRlt),qw,qbi];exact this) (by rw[show(i+1)*3=i*3+3 from by omega];exact hst2))
 refine hcall.mono ?_;rintro e w' ⟨rfl,rfl⟩;have hLl:(old.take (i*3)++(vs++old.drop (i*3))).length=(n+1)*3:=by simp[hold,hvl];omega
 have hLr:VRL ρ (old.take (i*3)++(vs++old.drop (i*3))) (old'.take (i*3)++(vs'++old'.drop (i*3))):=(hvo.take _).append (hvv.append (hvo.drop _));have hkill:=hr.kill (i:=i0) (hr.lt ho);obtain⟨σ,v',p1,rfl,p2,p3⟩:=zhZ (P:=Tryz.prog) (i:=i1) (e:=73) (zv:=zv63) (by rw[hsz];rfl) (by omega) hkill.drew.drew hLr (VRL.nil ρ) (need:=n+1) (nc:=G) (by rw[List.append_nil,hsz];exact hLl) hGn;rw[hsz] at p1 p2;simp only[List.append_nil] at p1 p2 p3;have hrow:((old'.take (i*3)++(vs'++old'.drop (i*3))).toArray++qk zv63.cells (G - (n+1)))=(old'.take (i*3)++(vs'++old'.drop (i*3))++(qk zv63.cells (G - (n+1))).toList).toArray:=by
  apply Array.toList_inj.1;simp
 rw[hrow] at p2 p3;exact⟨_,_,_,_,rfl,rfl,p1,p2,((Ext.drew ρ w).trans (Ext.drew ρ _)).trans p3⟩
end
theorem insOk:PrimOk Tryz.prog 83 (insP 3 40):=by
 refine⟨fun args w=> ?_,fun args h v h' hp ρ args' w ra hr=> ?_⟩
 ·have hb:Tryz.f83.body≠none:=by rw[show(Tryz.f83.body≠none)=(Tryz.f83.body.isSome=true) from by simp[Option.isSome_iff_ne_none]];kernel_rfl
  have hn: ¬Tryz.f83.name= "runtime.NumGoroutine" :=by decide+kernel
  simp[callFunc,Tryz.func83,hb,hn]
 ·unfold insP at hp
  split at hp
  ·rename_i a n c i b m vc
   split at hp
   ·rename_i hc;simp only[Bool.and_eq_true] at hc;obtain⟨c1,c2,c3,c4,c5,c6⟩:=hc;obtain rfl:=Nat.eq_of_beq_eq_true c1;have hi:i<n:=Nat.le_of_ble_eq_true c2;obtain rfl:=Nat.eq_of_beq_eq_true c3;have hab:a.block≠b.block:=fun e=>by rw[e] at c4;simp at c4
    have hbytes:=qbc c6;obtain⟨vs,hvs,hp⟩:=aof hp
    split at hp
    ·rename_i hcell;obtain⟨o,ho,hp⟩:=aof hp;unfold insIn at hp
     split at hp
     ·rename_i cs esz
      split at hp
      ·rename_i hes;simp only[Bool.and_eq_true] at hes;obtain rfl:esz=3:=Nat.eq_of_beq_eq_true hes.1;obtain⟨old,hold,hp⟩:=aof hp
       split at hp
       case isFalse=>cases hp
       rename_i holdc;obtain⟨x',y',z',rfl,rx,ry,rz⟩:=VRL.three ra;have hre:h.readN a.block a.off (n*3)=some old:=by simp only[H.readN,ho,qe,readObj,hold]
       obtain⟨Rv,vc',hRv,rfl⟩:=rz.inv_slice_some (by omega);obtain rfl:=ry.inv_int;obtain⟨csv,ev,hgv,hev⟩:=plainRow_some c5;obtain⟨v1,v2,cv,tv,frv,hbv,hfv,_⟩:=hr.obj _ _ _ hRv hgv;obtain⟨-,rfl⟩:=hfv.resolve_right (fun h=>hev h.2);obtain⟨hvl,vs',hvv,hcv⟩:=zcI (P:=Tryz.prog) hr hRv hvs;cases rx with
       |slice hR hc hl=>exact(Nat.lt_irrefl zc hc).elim
       |sliceE hR he hb=>exact absurd hi (by omega)
       |sliceR hR he hl=>
        obtain⟨q1,_⟩:=hr.obj _ _ _ hR ho;have:=q1.symm.trans he;simp[roE] at this
       | @sliceO i0 o0 _ cap' R hR he hl hs hb=>
         obtain⟨hol,old',hvo,hco⟩:=zcI (P:=Tryz.prog) hr hR hre;have hne:Rv.blk≠R.blk:=fun e=>hab (hr.sep _ _ _ _ hR hRv ⟨_,ho,by simp⟩ ⟨_,hgv,by simp⟩ e.symm);have hone:=one_of hvo holdc;have e:zb5 (h.put i0 .dead) (n+1) 3 (old.take (i*3)++(vs++old.drop (i*3)))=(v,h'):=qx hp;have hn63:n≤1000000000000:=by omega
         have key:Calls Tryz.prog 83 #[.slice (some ⟨R.blk,R.base+o0,none⟩) n cap',.int .i64 (Int.ofNat i),.slice (some ⟨Rv.blk,Rv.base+b.off,none⟩) 1 vc'] w (zhu Tryz.prog ρ w (.val (zb5 (h.put i0 .dead) (n+1) 3 (old.take (i*3)++(vs++old.drop (i*3)))).1 (zb5 (h.put i0 .dead) (n+1) 3 (old.take (i*3)++(vs++old.drop (i*3)))).2)):=by
          by_cases hle:n+1≤cap'
          ·exact shift_ok hr hR ho hl hs hi hle hn63 hvl hvv hcell hcv hol hvo hco hone hbv hne
          ·exact grow_ok hr hR ho hl hi hle hbytes hvl hvv hcell hcv (hr.blk _ _ hRv) hol hvo hco hone
         rw[e] at key;exact key
      ·cases hp
     ·cases hp
    ·cases hp
   ·cases hp
  ·cases hp
end
end Go.Proofs.YtffbioplncclkaaGreat
set_option maxHeartbeats 4000000
noncomputable section
namespace Go.Ideal.X
open Go Go.Ideal
theorem hmix:Go.Proofs.Tryz.prog.follows .mixedOrders=true:=by kernel_rfl
theorem call:AllC Go.Proofs.Tryz.prog tabC:=((((c0.app c1).app c2).app c3).app c4)
theorem okF: ∀g cf,F g=some cf→FnOk Go.Proofs.Tryz.prog g cf:=look_ok (qg.2 ⟨.inr (.inr (.inr ⟨_,Go.Proofs.Tryz.f83,f83,rfl,Go.Proofs.YtffbioplncclkaaGreat.insOk,Go.Proofs.Tryz.func83,by kernel_rfl⟩)),call.ok⟩)
end Go.Ideal.X
end
noncomputable section
namespace Go.Ideal.X
open Go Go.Ideal
def q30:zc1:=⟨[vA [sL 10 0 1 1,sL 17 0 11 11,sL 11 0 1 1,0],vA [sL 48 0 2 oC,sL 50 0 1 oC,sL 44 0 2 oC,sL 95 0 2 oC],1],98,[(93,cL [2,0,3,0,3,1,4,1] 2),(56,cL [2,0,3,0,3,1,4,1] 2),(95,cL [1,2,sL 56 0 4 oC,0,9,sL 93 0 4 oC] 3),(90,cL [vS] 1),(77,cL [1,2] 2),(65,cL [1,1] 2),(82,cL [sL 65 0 1 oC,sL 77 0 1 oC] 1),(44,cL [0,0,0,sL 82 0 2 oC,0,1,0,sL 90 0 1 oC] 4),(36,cL [2,0,3,0,3,1,4,1] 2),(50,cL [0,0,sL 36 0 4 oC] 3),(48,cL [iI (-1),vF,0,vF] 2),(3,cL [0,1] 0),(4,cL [0,sL 3 0 2 2,1] 0),(2,cL [0,2] 0),(1,cL [0,1,0,0] 0),(11,cL [sL 1 0 2 2,sL 2 0 1 1,sL 4 0 1 1] 0),(9,cL [1,3,vS] 0),(16,cL [10] 0),(15,cL [8,9] 0),(8,cL [1,2,vS] 0),(14,cL [6,7] 0),(7,cL [1,1,vS] 0),(13,cL [4,5] 0),(6,cL [2,4,vS] 0),(12,cL [3] 0),(17,cL [4,0,vS,sL 12 0 1 1,2,0,sL 6 0 1 1,vS,7,0,vS,vS,3,0,vS,sL 13 0 2 2,2,1,sL 7 0 1 1,vS,3,0,vS,sL 14 0 2 2,2,1,sL 8 0 1 1,vS,3,0,vS,sL 15 0 2 2,2,2,vS,vS,8,3,vS,sL 16 0 1 1,2,1,sL 9 0 1 1,vS] 0),(10,cL [.string ⟨#[111,117,116]⟩] 0)],(.tuple ⟨[vA [sL 377 0 1 1,vS,sL 442 0 1 oC],vA [sL 382 0 2 oC,sL 389 0 1 oC,sL 418 0 2 oC,sL 449 0 1 oC],0]⟩),450,[(10,cL [.string ⟨#[111,117,116]⟩] 0),(17,cL [4,0,vS,sL 12 0 1 1,2,0,sL 6 0 1 1,vS,7,0,vS,vS,3,0,vS,sL 13 0 2 2,2,1,sL 7 0 1 1,vS,3,0,vS,sL 14 0 2 2,2,1,sL 8 0 1 1,vS,3,0,vS,sL 15 0 2 2,2,2,vS,vS,8,3,vS,sL 16 0 1 1,2,1,sL 9 0 1 1,vS] 0),(12,cL [3] 0),(6,cL [2,4,vS] 0),(13,cL [4,5] 0),(7,cL [1,1,vS] 0),(14,cL [6,7] 0),(8,cL [1,2,vS] 0),(15,cL [8,9] 0),(16,cL [10] 0),(9,cL [1,3,vS] 0),(11,cL [sL 1 0 2 2,sL 2 0 1 1,sL 4 0 1 1] 0),(1,cL [0,1,0,0] 0),(2,cL [0,2] 0),(4,cL [0,sL 3 0 2 2,1] 0),(3,cL [0,1] 0),(48,cL [iI (-1),vF,0,vF] 2),(50,cL [0,0,sL 36 0 4 oC] 3),(36,cL [2,0,3,0,3,1,4,1] 2),(44,cL [0,0,0,sL 82 0 2 oC,0,1,0,sL 90 0 1 oC] 4),(82,cL [sL 65 0 1 oC,sL 77 0 1 oC] 1),(65,cL [1,1] 2),(77,cL [1,2] 2),(90,cL [vS] 1),(95,cL [1,2,sL 56 0 4 oC,0,9,sL 93 0 4 oC] 3),(56,cL [2,0,3,0,3,1,4,1] 2),(93,cL [2,0,3,0,3,1,4,1] 2),(447,cL [2,0,3,0,3,1,4,1] 2),(449,cL [0,9,sL 447 0 4 oC] 3),(416,cL [vS] 1),(404,cL [1,2] 2),(397,cL [1,1] 2),(406,cL [sL 397 0 1 oC,sL 404 0 1 oC] 1),(418,cL [0,0,0,sL 406 0 2 oC,0,1,0,sL 416 0 1 oC] 4),(387,cL [2,0,3,0,3,1,4,1] 2),(389,cL [0,0,sL 387 0 4 oC] 3),(382,cL [iI (-1),vF,0,vF] 2),(440,cL [2,0,3,0,3,1,4,1] 2),(442,cL [0,1,2,sL 440 0 4 oC] 4),(377,cL [1] 0)]⟩
def q327:zc1:=⟨[vA [sL 377 0 1 1,vS,sL 442 0 1 oC]],452,[(440,cL [2,0,3,0,3,1,4,1] 2),(442,cL [0,1,2,sL 440 0 4 oC] 4),(377,cL [1] 0)],(.tuple ⟨[.string ⟨#[80,4,4,1,2,0,3,0,3,1,1,0,0,1,0,0,2,4,3,5,7,1,91,132]⟩,0]⟩),547,[(377,cL [1] 0),(442,cL [0,1,2,sL 440 0 4 oC] 4),(440,cL [2,0,3,0,3,1,4,1] 2)]⟩
def q409:zc1:=⟨[.string ⟨#[80,4,4,1,2,0,3,0,3,1,1,0,0,1,0,0,2,4,3,5,7,1,91,132]⟩],547,[],(.tuple ⟨[vA [sL 567 0 1 oC,vS,sL 584 0 1 oC],0]⟩),679,[(582,cL [2,0,3,0,3,1,4,1] 2),(584,cL [0,1,2,sL 582 0 4 oC] 4),(567,cL [1] 1)]⟩
def q530:zc1:=⟨[vA [sL 10 0 1 1,sL 17 0 11 11,sL 11 0 1 1,0],vA [sL 382 0 2 oC,sL 389 0 1 oC,sL 418 0 2 oC,sL 449 0 1 oC],vA [sL 567 0 1 oC,vS,sL 584 0 1 oC]],680,[(582,cL [2,0,3,0,3,1,4,1] 2),(584,cL [0,1,2,sL 582 0 4 oC] 4),(567,cL [1] 1),(447,cL [2,0,3,0,3,1,4,1] 2),(449,cL [0,9,sL 447 0 4 oC] 3),(416,cL [vS] 1),(404,cL [1,2] 2),(397,cL [1,1] 2),(406,cL [sL 397 0 1 oC,sL 404 0 1 oC] 1),(418,cL [0,0,0,sL 406 0 2 oC,0,1,0,sL 416 0 1 oC] 4),(387,cL [2,0,3,0,3,1,4,1] 2),(389,cL [0,0,sL 387 0 4 oC] 3),(382,cL [iI (-1),vF,0,vF] 2),(3,cL [0,1] 0),(4,cL [0,sL 3 0 2 2,1] 0),(2,cL [0,2] 0),(1,cL [0,1,0,0] 0),(11,cL [sL 1 0 2 2,sL 2 0 1 1,sL 4 0 1 1] 0),(9,cL [1,3,vS] 0),(16,cL [10] 0),(15,cL [8,9] 0),(8,cL [1,2,vS] 0),(14,cL [6,7] 0),(7,cL [1,1,vS] 0),(13,cL [4,5] 0),(6,cL [2,4,vS] 0),(12,cL [3] 0),(17,cL [4,0,vS,sL 12 0 1 1,2,0,sL 6 0 1 1,vS,7,0,vS,vS,3,0,vS,sL 13 0 2 2,2,1,sL 7 0 1 1,vS,3,0,vS,sL 14 0 2 2,2,1,sL 8 0 1 1,vS,3,0,vS,sL 15 0 2 2,2,2,vS,vS,8,3,vS,sL 16 0 1 1,2,1,sL 9 0 1 1,vS] 0),(10,cL [.string ⟨#[111,117,116]⟩] 0)],(.tuple ⟨[vA [sL 1052 0 2 oC,sL 1059 0 1 oC,sL 1088 0 2 oC,sL 1103 0 2 oC],0]⟩),1104,[(10,cL [.string ⟨#[111,117,116]⟩] 0),(17,cL [4,0,vS,sL 12 0 1 1,2,0,sL 6 0 1 1,vS,7,0,vS,vS,3,0,vS,sL 13 0 2 2,2,1,sL 7 0 1 1,vS,3,0,vS,sL 14 0 2 2,2,1,sL 8 0 1 1,vS,3,0,vS,sL 15 0 2 2,2,2,vS,vS,8,3,vS,sL 16 0 1 1,2,1,sL 9 0 1 1,vS] 0),(12,cL [3] 0),(6,cL [2,4,vS] 0),(13,cL [4,5] 0),(7,cL [1,1,vS] 0),(14,cL [6,7] 0),(8,cL [1,2,vS] 0),(15,cL [8,9] 0),(16,cL [10] 0),(9,cL [1,3,vS] 0),(11,cL [sL 1 0 2 2,sL 2 0 1 1,sL 4 0 1 1] 0),(1,cL [0,1,0,0] 0),(2,cL [0,2] 0),(4,cL [0,sL 3 0 2 2,1] 0),(3,cL [0,1] 0),(382,cL [iI (-1),vF,0,vF] 2),(389,cL [0,0,sL 387 0 4 oC] 3),(387,cL [2,0,3,0,3,1,4,1] 2),(418,cL [0,0,0,sL 406 0 2 oC,0,1,0,sL 416 0 1 oC] 4),(406,cL [sL 397 0 1 oC,sL 404 0 1 oC] 1),(397,cL [1,1] 2),(404,cL [1,2] 2),(416,cL [vS] 1),(449,cL [0,9,sL 447 0 4 oC] 3),(447,cL [2,0,3,0,3,1,4,1] 2),(567,cL [1] 1),(584,cL [0,1,2,sL 582 0 4 oC] 4),(582,cL [2,0,3,0,3,1,4,1] 2),(1093,cL [2,0,3,0,3,1,4,1] 2),(1101,cL [2,0,3,0,3,1,4,1] 2),(1103,cL [1,2,sL 1101 0 4 oC,0,9,sL 1093 0 4 oC] 3),(1086,cL [vS] 1),(1074,cL [1,2] 2),(1067,cL [1,1] 2),(1076,cL [sL 1067 0 1 oC,sL 1074 0 1 oC] 1),(1088,cL [0,0,0,sL 1076 0 2 oC,0,1,0,sL 1086 0 1 oC] 4),(1057,cL [2,0,3,0,3,1,4,1] 2),(1059,cL [0,0,sL 1057 0 4 oC] 3),(1052,cL [iI (-1),vF,0,vF] 2)]⟩
def q1057:zc1:=⟨[.string ⟨#[77,1,3,0,0,2,4,1,85,142]⟩],1203,[],(.tuple ⟨[sL 1266 0 1 oC,0]⟩),1267,[(1266,cL [3,0] 2)]⟩
def q1119:zc1:=⟨[.string ⟨#[77,1,3,0,0,2,4,1,85,142]⟩,sL 1269 0 1 1],1270,[(1269,cL [3,0,3,7] 0)],(.tuple ⟨[.string ⟨#[77,1,3,7,0,2,4,1,50,90]⟩,0]⟩),1359,[(1269,cL [3,0,3,7] 0)]⟩
end Go.Ideal.X
end
noncomputable section
namespace Go.Ideal.X
open Go Go.Ideal
def F30:FuncId→Option za:=F
theorem r30:q30.runs F30 100000 32=true:=by kernel_rfl
theorem g30:q30.good=true:=by kernel_rfl
end Go.Ideal.X
end
noncomputable section
namespace Go.Ideal.X
open Go Go.Ideal
def F327:FuncId→Option za:=F
theorem r327:q327.runs F327 100000 11=true:=by kernel_rfl
theorem g327:q327.good=true:=by kernel_rfl
end Go.Ideal.X
end
noncomputable section
namespace Go.Ideal.X
open Go Go.Ideal
def F409:FuncId→Option za:=F
theorem r409:q409.runs F409 100000 13=true:=by kernel_rfl
theorem g409:q409.good=true:=by kernel_rfl
end Go.Ideal.X
end
noncomputable section
namespace Go.Ideal.X
open Go Go.Ideal
def F530:FuncId→Option za:=F
theorem r530:q530.runs F530 100000 33=true:=by kernel_rfl
theorem g530:q530.good=true:=by kernel_rfl
end Go.Ideal.X
end
noncomputable section
namespace Go.Ideal.X
open Go Go.Ideal
def F1057:FuncId→Option za:=F
theorem r1057:q1057.runs F1057 100000 22=true:=by kernel_rfl
theorem g1057:q1057.good=true:=by kernel_rfl
end Go.Ideal.X
end
noncomputable section
namespace Go.Ideal.X
open Go Go.Ideal
def F1119:FuncId→Option za:=F
theorem r1119:q1119.runs F1119 100000 24=true:=by kernel_rfl
theorem g1119:q1119.good=true:=by kernel_rfl
end Go.Ideal.X
end
noncomputable section
namespace Go.Ideal.X
open Go Go.Ideal
def F0:FuncId→Option za:=overF [(32,zlj (ze9 [q30]) f32),(11,zlj (ze9 [q327]) f11),(13,zlj (ze9 [q409]) f13),(33,zlj (ze9 [q530]) f33),(22,zlj (ze9 [q1057]) f22),(24,zlj (ze9 [q1119]) f24)] F
theorem r0:endsTrue (E F0 100000 (.call (.func (.func 10) #[] #[]) [] .empty))=true:=by kernel_rfl
end Go.Ideal.X
end
noncomputable section
namespace Go.Ideal.X
open Go Go.Ideal
theorem ok1119: ∀g cf,F1119 g=some cf→FnOk Go.Proofs.Tryz.prog g cf:=okF
theorem ok1057: ∀g cf,F1057 g=some cf→FnOk Go.Proofs.Tryz.prog g cf:=okF
theorem ok530: ∀g cf,F530 g=some cf→FnOk Go.Proofs.Tryz.prog g cf:=okF
theorem ok409: ∀g cf,F409 g=some cf→FnOk Go.Proofs.Tryz.prog g cf:=okF
theorem ok327: ∀g cf,F327 g=some cf→FnOk Go.Proofs.Tryz.prog g cf:=okF
theorem ok30: ∀g cf,F30 g=some cf→FnOk Go.Proofs.Tryz.prog g cf:=okF
theorem ok0: ∀g cf,F0 g=some cf→FnOk Go.Proofs.Tryz.prog g cf:=over_ok (qg.2 ⟨call.pieces hmix (g:=32) (by kernel_rfl) (qg.2 ⟨⟨g30,F30,100000,ok30,r30⟩,(fun _ h=>by cases h)⟩),(qg.2 ⟨call.pieces hmix (g:=11) (by kernel_rfl) (qg.2 ⟨⟨g327,F327,100000,ok327,r327⟩,(fun _ h=>by cases h)⟩),(qg.2 ⟨call.pieces hmix (g:=13) (by kernel_rfl) (qg.2 ⟨⟨g409,F409,100000,ok409,r409⟩,(fun _ h=>by cases h)⟩),(qg.2 ⟨call.pieces hmix (g:=33) (by kernel_rfl) (qg.2 ⟨⟨g530,F530,100000,ok530,r530⟩,(fun _ h=>by cases h)⟩),(qg.2 ⟨call.pieces hmix (g:=22) (by kernel_rfl) (qg.2 ⟨⟨g1057,F1057,100000,ok1057,r1057⟩,(fun _ h=>by cases h)⟩),(qg.2 ⟨call.pieces hmix (g:=24) (by kernel_rfl) (qg.2 ⟨⟨g1119,F1119,100000,ok1119,r1119⟩,(fun _ h=>by cases h)⟩),(fun _ h=>by cases h)⟩)⟩)⟩)⟩)⟩)⟩) okF
theorem root_true:FnOk Go.Proofs.Tryz.prog 10 (zix true):=by
 obtain⟨h',e⟩:=endsTrue_some r0;obtain⟨fn,h1,h2⟩:=call.at (g:=10) (cf:=f10) (by kernel_rfl);exact prim_of hmix ok0 h1 h2 e
end Go.Ideal.X
end
noncomputable section
namespace Go.Ideal.Y
open Go Go.Ideal Q
theorem c0:AllC Go.Proofs.Tryz.prog tab0:=by unfold AllC;kernel_rfl
end Go.Ideal.Y
end
noncomputable section
namespace Go.Ideal.Y
open Go Go.Ideal Q
theorem c1:AllC Go.Proofs.Tryz.prog tab1:=by unfold AllC;kernel_rfl
end Go.Ideal.Y
end
noncomputable section
namespace Go.Ideal.Y
open Go Go.Ideal Q
theorem c2:AllC Go.Proofs.Tryz.prog tab2:=by unfold AllC;kernel_rfl
end Go.Ideal.Y
end
noncomputable section
namespace Go.Ideal.Y
open Go Go.Ideal Q
theorem c3:AllC Go.Proofs.Tryz.prog tab3:=by unfold AllC;kernel_rfl
end Go.Ideal.Y
end
noncomputable section
namespace Go.Ideal.Y
open Go Go.Ideal Q
theorem call:AllC Go.Proofs.Tryz.prog Q.tabC:=(((c0.app c1).app c2).app c3)
end Go.Ideal.Y
end
noncomputable section
namespace Go.Ideal.Y
open Go Go.Ideal Q
theorem okF: ∀g cf,Q.F g=some cf→FnOk Go.Proofs.Tryz.prog g cf:=look_ok (qg.2 ⟨X.root_true,call.ok⟩)
end Go.Ideal.Y
end
namespace Go.Proofs.YtffbioplncclkaaGreat
open Go.ChangeShapes Go.WideShapes Go.RowKit Go.Ideal Go.Ideal.S
section
variable {P:Program} {H:Type} {enc:TypeId×Value→H} {W:World} {base b:Nat} {r:Reach} {spare:Nat→Bool} {held:Bool} {v:Value} {d:DataW H} {ps:List MemPlace}
theorem spot_of_cell {a:Addr} {v:Value} (h:W.cell? a=some v):a.spot=none:=by
 unfold qbo at h
 split at h
 ·split at h
  ·cases h
  ·rename_i hs;simpa using hs
 ·cases h
theorem impV_ok {v:Value} (h:okV W v=true):impV W v=v:=by unfold impV;rw[if_pos h]
theorem impV_int {k:IntKind} {n:Int}:impV W (.int k n)=.int k n:=impV_ok rfl
theorem okV_of_slice {t el:TypeId} {fuel:Nat} {x:DataW H×List MemPlace} (ht:P.underlying t=some (.slice el)) (hv: ∀a len cap,v=.slice (some a) len cap→a.spot=none∧zbV W a.block=true)
 (h:qu enc P W base spare held fuel t [v]=some x):okV W v=true:=by
 rcases qbq ht h with⟨e0,_⟩| ⟨a,len,cap,elems,rest,n,_,e0,_,hb,hl,hm,hlen',hel',hsp,hns⟩
 ·cases e0;rfl
 ·cases e0;obtain⟨hsp0,hic⟩:=hv a len cap rfl;have hcap:cap<zc:=by unfold zc;unfold maxLen at hm;omega
  simp[okV,hl,hcap,hic,hsp0]
theorem vrow_nested {α:Type} {e:α→List DV} {sz:Nat} {t el:TypeId} {fuel:Nat} {x:DataW H×List MemPlace} (ht:P.underlying t=some (.slice el)) (hc:P.cellsOf el=sz) (hs:0<sz) (hlen: ∀a,(e a).length=sz)
 (hel: ∀fuel cs y,qu enc P W base (fun _=>true) held fuel el cs=some y→ ∃a,LRel (impW W) (e a) (cs.map (impV W)))
 (h:qu enc P W base (fun _=>true) held fuel t [v]=some x): ∃es:List α,VRel (impW W) (.lst sz (es.map e)) (impV W v):=by
 rcases qbq ht h with⟨e0,_⟩| ⟨a,len,cap,elems,rest,n,hfu,e0,_,hb,hl,hm,hlen',hel',hsp,hns⟩
 ·cases e0;exact⟨[],.lst0 (by unfold zc;omega) (fun a h=>by cases h)⟩
 ·cases e0;have hcap:cap<zc:=by unfold zc;unfold maxLen at hm;omega
  by_cases hz:cap=0
  ·subst hz;obtain rfl:len=0:=by omega
   by_cases hok:okV W (.slice (some a) 0 0)=true
   ·rw[impV_ok hok];unfold okV at hok;simp only[Bool.and_eq_true,Option.isNone_iff_eq_none,decide_eq_true_eq] at hok;obtain⟨h1,h2,h3,h4⟩:=hok;exact⟨[],.lst0 hcap (fun a' h=>by cases h;exact h1)⟩
   ·have:impV W (.slice (some a) 0 0)=dang W:=by unfold impV;rw[if_neg hok];rfl
    rw[this];exact⟨[],.lst0 hcap (fun a' h=>by cases h;rfl)⟩
  ·have hcell: ∀i,i<cap→ ∃cs y,W.cells? base (a.add (i*P.cellsOf el)) (P.cellsOf el)=some cs∧qu enc P W base (fun _=>true) held n el cs=some y:=by
    intro i hi;by_cases hil:i<len
    ·have h1:=hel' i hil;rw[qd (by omega)] at h1;obtain⟨cs,hcs,hy⟩:=qU.1 h1;exact⟨cs,_,hcs,hy⟩
    ·obtain⟨hrl,hr⟩:=hsp rfl;have h1:=hr (i - len) (by omega);rw[qd (by omega)] at h1;obtain⟨cs,hcs,hy⟩:=qU.1 h1;rw[show len+(i - len)=i by omega] at hcs;exact⟨cs,_,hcs,hy⟩
   have hln: ∀{cs y},qu enc P W base (fun _=>true) held n el cs=some y→cs.length=sz:=fun{cs y} hy=>by
    obtain⟨a,ha⟩:=hel _ _ _ hy;have:=ha.len;rw[qq,hlen] at this;exact this.symm
   have hspot: ∃b o c t fr,a=⟨b,o,none⟩∧W.heap[b]? =some (.cells c t fr):=by
    obtain⟨cs,y,hcs,hy⟩:=hcell 0 (by omega);obtain⟨_,q2,q3⟩:=qbm hcs;have hlc:0<cs.length:=by rw[hln hy];exact hs
    have hg:cs[0]? =some cs[0]:=qd hlc;have h3:=q3 0 (by rw[hc];exact hs);rw[hg] at h3;have hsp0:=spot_of_cell h3;obtain⟨b,o,s⟩:=a;have:s=none:=by
     unfold Addr.add at hsp0;cases s with
     |none=>rfl
     |some _=>split at hsp0<;>(try split at hsp0)<;>simp_all
    subst this;rw[zjG,zjG] at h3;obtain⟨c,t',fr,hbk,_⟩:=cell_heap h3;exact⟨b,o,c,t',fr,rfl,hbk⟩
   obtain⟨b,o,c,t',fr,rfl,hbk⟩:=hspot;have hic:zbV W b=true:=by unfold zbV;rw[hbk]
   have hok:okV W (.slice (some ⟨b,o,none⟩) len cap)=true:=by simp[okV,hl,hcap,hic]
   rw[impV_ok hok];have hel2: ∀i,i<len→ ∃a:α,∃cs:List Value,LRel (impW W) (e a) (cs.map (impV W))∧ ∀k,k<sz→W.cell? ⟨b,o+(i*sz+k),none⟩=cs[k]?:=by
    intro i hi;obtain⟨cs,y,hcs,hy⟩:=hcell i (by omega);obtain⟨a,ha⟩:=hel _ _ _ hy;rw[hc] at hcs;obtain⟨_,_,h3⟩:=qbm hcs;refine⟨a,cs,ha,fun k hk=> ?_⟩;have:=h3 k hk;rw[zjG,zjG] at this;rw[←this,qbi]
   obtain⟨es,hes,hq⟩:=list_of len hel2;subst hes;rcases Nat.eq_zero_or_pos es.length with h0|h0
   ·obtain rfl:=List.eq_nil_of_length_eq_zero h0;exact⟨[],.lst0 hcap (fun a h=>by cases h;rfl)⟩
   have hrows: ∀r∈es.map e,r.length=sz:=fun r hr=>by obtain⟨a,_,rfl⟩:=qbk.1 hr;exact hlen a
   have hcell: ∀i j a,es[i]? =some a→j<sz→ ∃d v,(e a)[j]? =some d∧(c.toList.map (impV W))[o+(i*sz+j)]? =some v∧VRel (impW W) d v:=by
    intro i j a ha hj;obtain⟨cs,hrel,hck⟩:=hq i a ha;have hck:=hck j hj;have hfl:(cs.map (impV W)).length=sz:=by rw[←hrel.len,hlen]
    have hjf:j<(cs.map (impV W)).length:=by rw[hfl];exact hj
    have hjc:j<cs.length:=by rw[qq] at hjf;exact hjf
    have hje:j<(e a).length:=by rw[hlen];exact hj
    have hka:cs[j]? =some (cs[j]'hjc):=qd hjc;have hea:(e a)[j]? =some ((e a)[j]'hje):=qd hje;rw[hka] at hck;obtain⟨c',t'',fr',hb',hco⟩:=cell_heap hck;rw[hbk] at hb';cases hb';exact⟨_,_,hea,by rw[qQ,Array.getElem?_toList,hco];rfl,hrel.at_ j _ _ hea (by rw[qQ,hka];rfl)⟩
   refine⟨es,.lst (impW_Z (ziI hbk)) hrows ?_ ?_ (fun h=>by omega) (fun _=>⟨by rw[qq];exact hl,hcap⟩) (by rw[qq])⟩
   ·rw[qq];obtain⟨d,v,_,h2,_⟩:=hcell (es.length - 1) (sz - 1) _ (qd (by omega)) (by omega);have:=(qD.1 h2).1;have e1:(es.length - 1)*sz+(sz - 1)+1=es.length*sz:=by
     obtain⟨m,hm⟩: ∃m,es.length=m+1:=⟨es.length - 1,by omega⟩;rw[hm,Nat.add_sub_cancel,Nat.succ_mul];omega
    omega
   ·intro k d v hd hv;have hkl:=(qD.1 hd).1;rw[z0 hrows,qq] at hkl;have hi:k / sz<es.length:=(Nat.div_lt_iff_lt_mul hs).2 hkl;have hj:k%sz<sz:=Nat.mod_lt _ hs;have hk:k / sz*sz+k%sz=k:=Nat.div_add_mod' k sz;obtain⟨d',v',h1,h2,h3⟩:=hcell _ _ _ (qd hi) hj;obtain⟨tl,ht⟩:=flat_at hrows (i:=k / sz) (r:=e es[k / sz]) (by rw[qQ,qd hi];rfl);have:(es.map e).flatten[k]? =(e es[k / sz])[k%sz]?:=by
     have e2:((es.map e).flatten.drop (k / sz*sz))[k%sz]? =(es.map e).flatten[k]?:=by rw[qG,hk]
     rw[←e2,ht,qm (by rw[hlen];exact hj)]
    rw[this,h1] at hd;rw[hk,hv] at h2;cases hd;cases h2;exact h3
end
end Go.Proofs.YtffbioplncclkaaGreat
set_option maxRecDepth 10000
set_option maxHeartbeats 2000000
namespace Go.Ideal.S
open Go Go.Ideal Q Classical
attribute [local simp] decide_eq_true decide_eq_false zI
variable {B M M':VM} {k kp:DV→VM→Prop} {n0 j:Nat}
attribute [local simp] c_W f_W r_W_1 r_W_2 r_W_3 r_W_4 r_W_5 r_W_6 r_W_8 c_J f_J r_J_1 r_J_2 r_J_3 r_J_4 r_J_5 r_J_6 r_J_7 r_J_8 r_J_10 c_bh f_bh r_bh_1 r_bh_2
theorem rplace_ok (n:Int) (hk:k (.agg (eSv (plc n))) M):ze F (.fn n_bh [] []) [I n] M k kp:=by
 apply ze.back;refine .fn zf8 rfl (by simp[f_bh]) ?_;simp(disch:=((try simp only[nx3]);omega));exact bpl hk
theorem rhas_ok (l:List Int) (n:Int) (hl:l.length<4000000000000000000) (hk:k (.bool (decide (n∈l))) M):ze F (.fn n_W [] []) [.lst 1 (l.map eInt),I n] M k kp:=by
 apply ze.back;refine .fn zhf rfl (by simp[f_W]) ?_;simp(disch:=((try simp only[nx3]);omega));refine .for (σ:=Unit) c_W_7.eq_1 (fun i _=>[(5,I i)]) (fun _=>M) (fun i _=>n∉l.take i) l.length () (by simp) rfl (by simp) (fun i _ hi hP again=> ?_) (fun _ hP=> ?_)
 ·rw[List.take_succ_eq_append_getElem hi] at again;have hm:l[i]∈l:=List.getElem_mem hi;generalize hx:l[i]=v at*;by_cases hv:v=n
  ·subst hv;rw[decide_eq_true hm] at hk;clear again;simp(disch:=((try simp only[nx3]);omega)) [hi,hx,eInt];exact bpl hk
  ·have again:=again () (fun h=>by
    rcases qt.1 h with h|h
    ·exact hP h
    ·exact hv (qj.1 h).symm)
   simp at again;simp(disch:=((try simp only[nx3]);omega)) [hi,hx,eInt,hv];exact again
 ·rw[qi] at hP;rw[decide_eq_false hP] at hk;simp(disch:=((try simp only[nx3]);omega));exact bpl hk
theorem rqueue_ok (q:Qu) (hl:q.ms.length<1000000) (hm: ∀m∈q.ms,m.length<1000000) (hk:k (.bool (decide (QueV q))) M):ze F (.fn n_J [] []) [.agg (eQu q)] M k kp:=by
 apply ze.back;refine .fn zf7 rfl (by simp[f_J]) ?_;simp(disch:=((try simp only[nx3]);omega)) [eQu];refine zen _ _ _ ?_;by_cases h1:0≤q.ch∧q.ch≤59
 ·rw[decide_eq_true h1];simp(disch:=((try simp only[nx3]);omega)) [eQu];refine zen _ _ _ ?_;by_cases h2:(1:Int)≤q.ms.length∧(q.ms.length:Int)≤12
  ·rw[decide_eq_true h2];simp(disch:=((try simp only[nx3]);omega));refine .for (σ:=Unit) c_J_9.eq_1 (fun i _=>[(3,I i)]) (fun _=>M.new (.rows false 2 [eQu q])) (fun i _=> ∀m∈q.ms.take i,MsgV m) q.ms.length () (by simp) (by simp[eQu]) (by simp) (fun i _ hi hP again=> ?_) (fun _ hP=> ?_)
   ·rw[qb hi] at again;have hmi:=hm _ (ql hi);have hmem:=ql hi;generalize hx:q.ms[i]=m at*;have good:MsgV m→ ∀u∈q.ms.take i++[m],MsgV u:=fun hv u hu=>by
     rcases qt.1 hu with hu|hu
     ·exact hP u hu
     ·rw[qj.1 hu];exact hv
    by_cases h3:m.length≤3
    ·have h3i:(m.length:Int)≤3:=by omega
     have h3j: ¬(3:Int)<m.length:=by omega
     simp(disch:=((try simp only[nx3]);omega)) [hi,hx,eQu,eMsg,h3j];refine rv_ok m (by omega) ?_;by_cases h4: ∀v∈m,ValV v
     ·rw[decide_eq_true h4];have again:=again () (good ⟨h3,h4⟩);simp at again;unfold eQu at again;simp(disch:=((try simp only[nx3]);omega));exact again
     ·rw[decide_eq_false h4];rw[decide_eq_false (fun h=>h4 (h.2.2 m hmem).2)] at hk;clear again;simp(disch:=((try simp only[nx3]);omega));exact bpl hk
    ·have h3j:(3:Int)<m.length:=by omega
     rw[decide_eq_false (fun h=>h3 (h.2.2 m hmem).1)] at hk;clear again;simp(disch:=((try simp only[nx3]);omega)) [hi,hx,eQu,eMsg,h3j];exact bpl hk
   ·rw[qi] at hP;rw[decide_eq_true (show QueV q from⟨⟨h1.1,by omega⟩,⟨by omega,by omega⟩,hP⟩)] at hk;simp(disch:=((try simp only[nx3]);omega)) [eQu];exact bpl hk
  ·rw[decide_eq_false h2];rw[decide_eq_false (fun h=>h2 ⟨by have:=h.2.1.1;omega,by have:=h.2.1.2;omega⟩)] at hk;simp(disch:=((try simp only[nx3]);omega));exact bpl hk
 ·rw[decide_eq_false h1];rw[decide_eq_false (fun h=>h1 ⟨h.1.1,by have:=h.1.2;omega⟩)] at hk;simp(disch:=((try simp only[nx3]);omega));exact bpl hk
end Go.Ideal.S
set_option maxHeartbeats 4000000
namespace Go.Ideal.S
open Go Go.Ideal Q Classical
attribute [local simp] decide_eq_true decide_eq_false zI
section
variable {B M M':VM} {k kp:DV→VM→Prop} {n0 j:Nat}
theorem ziA {α:Type} {l:List α} {a:α}:(l++[a]).Nodup↔l.Nodup∧a∉l:=by
 rw[qI];constructor
 ·rintro⟨h1,h2,h3⟩;exact⟨h1,fun h=>h3 a h a (by simp) rfl⟩
 ·rintro⟨h1,h2⟩;exact⟨h1,by simp,fun b hb c hc e=>by rw[qj] at hc;subst hc;subst e;exact h2 hb⟩
theorem zlQ {α:Type} {l:List α} (h:l.Nodup) (i:Nat) (hi:i<l.length):l[i]∉l.take i:=by
 have:=(List.take_sublist (i+1) l).nodup h;rw[qb hi,ziA] at this;exact this.2
attribute [local simp] c_d f_d r_d_1 r_d_2 r_d_3 r_d_4 r_d_5 r_d_6 r_d_7 r_d_8 r_d_10 r_d_11 r_d_12 r_d_13 r_d_14 r_d_15 r_d_16 r_d_17 r_d_18 r_d_20 r_d_22 r_d_23 r_d_24 r_d_25 r_d_26 r_d_27 r_d_28 r_d_29 r_d_31
theorem rgood_ok (x:Pc) (hx:SzP x) (hk:k (.bool (decide (zjn x))) M):ze F (.fn n_d [] []) [.agg (ePc x)] M k kp:=by
 obtain⟨s1,s2,s3,s4,s5⟩:=hx;have bad: ¬zjn x→k (.bool false) M:=fun h=>by rw[decide_eq_false h] at hk;exact hk
 have good:zjn x→k (.bool true) M:=fun h=>by rw[decide_eq_true h] at hk;exact hk
 clear hk;obtain⟨Y,hY⟩: ∃Y,Y=M.new (.rows false 3 [ePc x]):=⟨_,rfl⟩;have yo:Y.obj M.next=some (.rows false 3 [ePc x]):=by rw[hY];simp
 have yn:Y.next=M.next+1:=by rw[hY];simp
 have ys:SM M.next M Y:=by rw[hY];exact zy (zx _ _) (qh _)
 apply ze.back;refine .fn zgL rfl (by simp[f_d]) ?_;simp(disch:=((try simp only[nx3]);omega));rw[←hY];simp(disch:=((try simp only[nx3]);omega)) [yo,ePc];refine zen _ _ _ ?_;by_cases h1:(1:Int)≤x.sp.length∧(x.sp.length:Int)≤24
 ·rw[decide_eq_true h1];by_cases h2:x.qs.length≤60
  ·have h2i: ¬(60:Int)<x.qs.length:=by omega
   by_cases h3:x.ws.length≤40
   ·have h3i: ¬(40:Int)<x.ws.length:=by omega
    simp(disch:=((try simp only[nx3]);omega)) [yo,ePc,h2i,h3i];refine .for (σ:=Unit) c_d_9.eq_1 (fun i _=>[(3,I i)]) (fun _=>Y) (fun i _=>(∀n∈x.sp.take i,0≤n∧n<24)∧(x.sp.take i).Nodup) x.sp.length () (by simp) rfl (by simp) (fun i _ hi hP again=> ?_) (fun _ hP=> ?_)
    ·obtain⟨p1,p2⟩:=hP;rw[List.take_succ_eq_append_getElem hi] at again;have hnd:x.sp.Nodup→x.sp[i]∉x.sp.take i:=fun h=>zlQ h i hi;have hmem:=List.getElem_mem hi;generalize hv:x.sp[i]=v at*;simp(disch:=((try simp only[nx3]);omega)) [yo,ePc,hi,hv,eInt];refine zen _ _ _ ?_;by_cases h4:0≤v∧v≤23
     ·rw[decide_eq_true h4];have hii:(i:Int)≤x.sp.length:=by omega
      simp(disch:=((try simp only[nx3]);omega)) [yo,ePc,hi,hv,eInt,hii];rw[←List.map_take];refine rhas_ok _ _ (by rw[qJ];omega) ?_;by_cases h5:v∈x.sp.take i
      ·rw[decide_eq_true h5];have bad:=bad fun h=>hnd h.2.1 h5;clear again;simp(disch:=((try simp only[nx3]);omega));exact Back.plain (by simp) ys bad
      ·rw[decide_eq_false h5];have again:=again () ⟨fun n hn=>by
        rcases qt.1 hn with hn|hn
        ·exact p1 n hn
        ·rw[qj.1 hn];omega,ziA.2 ⟨p2,h5⟩⟩
       simp at again;simp(disch:=((try simp only[nx3]);omega));exact again
     ·rw[decide_eq_false h4];have bad:=bad fun h=>h4 (by have:=h.2.2.1 v hmem;omega);clear again;simp(disch:=((try simp only[nx3]);omega));exact Back.plain (by simp) ys bad
    ·rw[List.take_length] at hP;obtain⟨p1,p2⟩:=hP;simp(disch:=((try simp only[nx3]);omega)) [yo,ePc];refine .for (σ:=Unit) c_d_21.eq_1 (fun i _=>[(4,I i)]) (fun _=>Y) (fun i _=>(∀q∈x.qs.take i,QueV q)∧((x.qs.map Qu.ch).take i).Nodup) x.qs.length () (by simp) rfl (by simp) (fun i _ hi hP again=> ?_) (fun _ hP=> ?_)
     ·obtain⟨r1,r2⟩:=hP;have hic:i<(x.qs.map Qu.ch).length:=by simpa using hi
      rw[qb hi,qb hic] at again;have hnd:(x.qs.map Qu.ch).Nodup→(x.qs.map Qu.ch)[i]∉(x.qs.map Qu.ch).take i:=fun h=>zlQ h i hic;rw[qbr] at again hnd;have hmem:=ql hi;generalize hv:x.qs[i]=q at*;obtain⟨m1,m2⟩:=s4 q hmem;simp(disch:=((try simp only[nx3]);omega)) [yo,ePc,hi,hv];refine rqueue_ok q m1 m2 ?_;by_cases h4:QueV q
      ·rw[decide_eq_true h4];simp(disch:=((try simp only[nx3]);omega));refine .for (σ:=Unit) c_d_19.eq_1 (fun a _=>[(5,I a)]) (fun _=>Y) (fun a _=>q.ch∉(x.qs.map Qu.ch).take a) i () (by simp) rfl (by simp) (fun a _ ha hP2 again2=> ?_) (fun _ hP2=> ?_)
       ·have hal:a<x.qs.length:=by omega
        have hac:a<(x.qs.map Qu.ch).length:=by simpa using hal
        rw[qb hac,qbr] at again2;have hin:x.qs[a].ch∈(x.qs.map Qu.ch).take i:=by
         rw[qR];exact⟨a,by simp;omega,by simp⟩
        generalize hw:x.qs[a]=w at*;by_cases h5:w.ch=q.ch
        ·have bad:=bad fun h=>hnd h.2.2.2.1 (by rw[←h5];exact hin);clear again again2;simp(disch:=((try simp only[nx3]);omega)) [yo,ePc,ha,hal,hi,hv,hw,eQu,h5];exact Back.plain (by simp) ys bad
        ·have again2:=again2 () (fun h=>by
          rcases qt.1 h with h|h
          ·exact hP2 h
          ·exact h5 (qj.1 h).symm)
         simp at again2;simp(disch:=((try simp only[nx3]);omega)) [yo,ePc,ha,hal,hi,hv,hw,eQu,h5];exact again2
       ·have again:=again () ⟨fun u hu=>by
         rcases qt.1 hu with hu|hu
         ·exact r1 u hu
         ·rw[qj.1 hu];exact h4,ziA.2 ⟨r2,hP2⟩⟩
        simp at again;simp(disch:=((try simp only[nx3]);omega));exact again
      ·rw[decide_eq_false h4];have bad:=bad fun h=>h4 (h.2.2.2.2.1 q hmem);clear again;simp(disch:=((try simp only[nx3]);omega));exact Back.plain (by simp) ys bad
     ·rw[List.take_length,List.take_of_length_le (by simp)] at hP;obtain⟨r1,r2⟩:=hP;simp(disch:=((try simp only[nx3]);omega)) [yo,ePc];refine .for (σ:=VM) c_d_30.eq_1 (fun i _=>[(6,I i)]) (fun z=>z) (fun i z=>SM (M.next+1) Y z∧M.next+1≤z.next∧ ∀b (hb:b<x.ws.length),b<i→zlv x.sp (zfC x.ws b) x.ws[b]∧0≤x.ws[b].nth) x.ws.length Y (by simp) rfl ⟨zx _ _,by omega,fun _ _ h=>by omega⟩ (fun i y hi hP again=> ?_) (fun y hP=> ?_)
      ·obtain⟨q1,q2,q3⟩:=hP;have hmem:=ql hi;have zo: ∀o o',((y.new o).put y.next o').obj M.next=some (.rows false 3 [ePc x]):=fun o o'=>by
        rw[zbb,if_neg (by omega),zbl _ (by omega),←yo];show(y.get _).map _=(Y.get _).map _;rw[q1 _ (by omega)]
       have yo2:y.obj M.next=some (.rows false 3 [ePc x]):=by
        rw[←yo];show(y.get _).map _=(Y.get _).map _;rw[q1 _ (by omega)]
       have hl: -1≤zfC x.ws i:=by
        cases i with
        |zero=>exact Int.le_refl _
        |succ i=>
         have:=(q3 i (by omega) (by omega)).2;show -1≤(match x.ws[i]? with|some w=>w.nth|none=>0);rw[qd (by omega)];dsimp only;omega
       have zs: ∀o o',SM M.next M ((y.new o).put y.next o'):=fun o o' b hb=>by
        rw[get_put,if_neg (by omega),get_new,if_neg (by omega),q1 b (by omega)];exact ys b hb
       have nw0:zjn x→zlv x.sp (zfC x.ws i) x.ws[i]:=fun h=>h.2.2.2.2.2 i hi;have ok0: ∀o o',zlv x.sp (zfC x.ws i) x.ws[i]→SM (M.next+1) Y ((y.new o).put y.next o')∧M.next+1≤((y.new o).put y.next o').next∧ ∀b (hb:b<x.ws.length),b<i+1→zlv x.sp (zfC x.ws b) x.ws[b]∧0≤x.ws[b].nth:=fun o o' h=>⟨fun b hb=>by rw[get_put,if_neg (by omega),get_new,if_neg (by omega)];exact q1 b hb,by simp;omega,fun b hb hbi=>by
        by_cases e:b=i
        ·subst e;exact⟨h,by have:=h.1.1;omega⟩
        ·exact q3 b hb (by omega)⟩
       generalize hw:x.ws[i]=w at*;generalize hln:zfC x.ws i=last at*;have wL:zq [I 0,I 0,I 0,.nilS] 0 (eWt w)=some (eWt w):=rfl;have zo:=zo (.rows false 4 [[I 0,I 0,I 0,.nilS]]) (.rows false 4 [eWt w]);have zs:=zs (.rows false 4 [[I 0,I 0,I 0,.nilS]]) (.rows false 4 [eWt w]);have ok:=ok0 (.rows false 4 [[I 0,I 0,I 0,.nilS]]) (.rows false 4 [eWt w]);have o7:((y.new (.rows false 4 [[I 0,I 0,I 0,.nilS]])).put y.next (.rows false 4 [eWt w])).obj y.next=some (.rows false 4 [eWt w]):=by simp
       have n7:M.next≠y.next:=by omega
       have nw:=nw0;clear nw0 ok0;obtain⟨Z,hZ⟩: ∃Z,Z=(y.new (.rows false 4 [[I 0,I 0,I 0,.nilS]])).put y.next (.rows false 4 [eWt w]):=⟨_,rfl⟩;rw[←hZ] at zo zs ok o7;have x1:oneD (eWt w)=some (I w.nth):=rfl;simp(disch:=((try simp only[nx3]);omega)) [yo2,ePc,hi,hw,wL,n7];rw[←hZ];simp(disch:=((try simp only[nx3]);omega)) [zo,o7,ePc,x1,n7];refine zen _ _ _ ?_;by_cases h4:0≤w.nth∧w.nth≤39
       ·rw[decide_eq_true h4];by_cases hi0:i=0
        ·have hii: ¬(0:Int)<i:=by omega
         have hlast:last= -1:=by rw[←hln,hi0];rfl
         simp(disch:=((try simp only[nx3]);omega)) [zo,o7,ePc,hii];simp(disch:=((try simp only[nx3]);omega)) [eWt];refine rhas_ok x.sp w.pl (by omega) ?_;by_cases h6:w.pl∈x.sp
         ·rw[decide_eq_true h6];simp(disch:=((try simp only[nx3]);omega)) [zo,o7,n7,ePc,eWt];refine zen _ _ _ ?_;by_cases h7:0≤w.nd∧w.nd≤59
          ·rw[decide_eq_true h7];simp(disch:=((try simp only[nx3]);omega)) [zo,o7,n7,ePc,eWt];refine rv_ok w.env (by have:=s5 w hmem;omega) ?_;by_cases h8: ∀v∈w.env,ValV v
           ·rw[decide_eq_true h8];have again:=again _ (ok ⟨by omega,h6,by omega,h8⟩);simp at again;simp(disch:=((try simp only[nx3]);omega));exact again
           ·rw[decide_eq_false h8];have bad:=bad fun h=>h8 (nw h).2.2.2;clear again ok;simp(disch:=((try simp only[nx3]);omega));exact Back.plain (by simp) zs bad
          ·rw[decide_eq_false h7];have bad:=bad fun h=>h7 (by have:=(nw h).2.2.1;omega);clear again ok;simp(disch:=((try simp only[nx3]);omega));exact Back.plain (by simp) zs bad
         ·rw[decide_eq_false h6];have bad:=bad fun h=>h6 (nw h).2.1;clear again ok;simp(disch:=((try simp only[nx3]);omega));exact Back.plain (by simp) zs bad
        ·have hii:(0:Int)<i:=by omega
         have e1:(i:Int) - 1=((i - 1:Nat):Int):=by omega
         have hi1:i - 1<x.ws.length:=by omega
         have hlast:last=x.ws[i - 1].nth:=by
          rw[←hln]
          conv=>lhs;rw[show i=(i - 1)+1 by omega]
          show(match x.ws[i - 1]? with|some w=>w.nth|none=>0)=_;rw[qd hi1]
         generalize hw1:x.ws[i - 1]=w1 at*;have x2:oneD (eWt w1)=some (I w1.nth):=rfl;by_cases h5:w.nth≤w1.nth
         ·have bad:=bad fun h=>by have:=(nw h).1.1;omega
          clear again ok;simp(disch:=((try simp only[nx3]);omega)) [zo,o7,ePc,hii,e1,hi1,hw1,x1,x2,h5];exact Back.plain (by simp) zs bad
         ·simp(disch:=((try simp only[nx3]);omega)) [zo,o7,ePc,hii,e1,hi1,hw1,x1,x2,h5];simp(disch:=((try simp only[nx3]);omega)) [eWt];refine rhas_ok x.sp w.pl (by omega) ?_;by_cases h6:w.pl∈x.sp
          ·rw[decide_eq_true h6];simp(disch:=((try simp only[nx3]);omega)) [zo,o7,n7,ePc,eWt];refine zen _ _ _ ?_;by_cases h7:0≤w.nd∧w.nd≤59
           ·rw[decide_eq_true h7];simp(disch:=((try simp only[nx3]);omega)) [zo,o7,n7,ePc,eWt];refine rv_ok w.env (by have:=s5 w hmem;omega) ?_;by_cases h8: ∀v∈w.env,ValV v
            ·rw[decide_eq_true h8];have again:=again _ (ok ⟨by omega,h6,by omega,h8⟩);simp at again;simp(disch:=((try simp only[nx3]);omega));exact again
            ·rw[decide_eq_false h8];have bad:=bad fun h=>h8 (nw h).2.2.2;clear again ok;simp(disch:=((try simp only[nx3]);omega));exact Back.plain (by simp) zs bad
           ·rw[decide_eq_false h7];have bad:=bad fun h=>h7 (by have:=(nw h).2.2.1;omega);clear again ok;simp(disch:=((try simp only[nx3]);omega));exact Back.plain (by simp) zs bad
          ·rw[decide_eq_false h6];have bad:=bad fun h=>h6 (nw h).2.1;clear again ok;simp(disch:=((try simp only[nx3]);omega));exact Back.plain (by simp) zs bad
       ·rw[decide_eq_false h4];have bad:=bad fun h=>h4 (by have:=(nw h).1;omega);clear again ok;simp(disch:=((try simp only[nx3]);omega));exact Back.plain (by simp) zs bad
      ·have f:=good ⟨⟨by omega,by omega,h2,h3⟩,p2,p1,r2,r1,fun i hi=>(hP.2.2 i hi hi).1⟩;have yo2:y.obj M.next=some (.rows false 3 [ePc x]):=by
        rw[←yo];show(y.get _).map _=(Y.get _).map _;rw[hP.1 _ (by omega)]
       simp(disch:=((try simp only[nx3]);omega)) [yo2,ePc];exact Back.plain (by simp) (fun b hb=>(hP.1 b (by omega)).trans (ys b hb)) f
   ·have h3i:(40:Int)<x.ws.length:=by omega
    have bad:=bad fun h=>h3 h.1.2.2.2;simp(disch:=((try simp only[nx3]);omega)) [yo,ePc,h2i,h3i];exact Back.plain (by simp) ys bad
  ·have h2i:(60:Int)<x.qs.length:=by omega
   have bad:=bad fun h=>h2 h.1.2.2.1;simp(disch:=((try simp only[nx3]);omega)) [yo,ePc,h2i];exact Back.plain (by simp) ys bad
 ·rw[decide_eq_false h1];have bad:=bad fun h=>h1 ⟨by have:=h.1.1;omega,by have:=h.1.2.1;omega⟩;simp(disch:=((try simp only[nx3]);omega));exact Back.plain (by simp) ys bad
end
section
variable {M M':VM} {B:Base} {k kp:DV→VM→Prop} {n0 j:Nat}
theorem RrS.sm {w:WS} (h:RrS B M j w) {i:Nat} (hi:B.fr i):M.get i=B.m.get i:=by
 obtain⟨_,_,h⟩:=h;exact h.sm i hi
theorem RrS.nx {w:WS} (h:RrS B M j w) {i:Nat} (hi:B.fr i):i<M.next:=by
 obtain⟨_,_,h⟩:=h;exact h.nx i hi
theorem RrS.obj {w:WS} (h:RrS B M j w) {i:Nat} (hi:B.fr i):M.obj i=B.m.obj i:=by
 show(M.get i).map _=(B.m.get i).map _;rw[h.sm hi]
theorem RrS.add {w:WS} (h:RrS B M j w) (o o':MO):RrS ⟨(M.new o).put M.next o',fun i=>B.fr i∨i=M.next⟩ ((M.new o).put M.next o') j w:=by
 obtain⟨dt,db,h⟩:=h;have h2:=h.keep (M':=(M.new o).put M.next o') (by simp;omega) fun q hq=>by rw[get_put,if_neg (by omega),get_new,if_neg (by omega)]
 have a:=h.j2;refine⟨dt,db,fun _ _=>rfl,fun i hi=> ?_,fun hi=> ?_,h2.j2,h2.oj,h2.ln,h2.lb,fun i hi=> ?_,h.sb⟩
 ·rcases hi with hi|hi
  ·have:=h.nx i hi;simp;omega
  ·simp;omega
 ·rcases hi with hi|hi
  ·exact h.j1 hi
  ·omega
 ·rcases hi with hi|hi
  ·exact h.fn i hi
  ·exact⟨h.ln.offN (by omega),h.lb.offN (by omega)⟩
theorem RrS.rebase {B2:Base} {w:WS} (h:RrS B2 M j w) (hf: ∀i,B.fr i→B2.fr i∧B2.m.get i=B.m.get i):RrS B M j w:=by
 obtain⟨dt,db,h⟩:=h;exact⟨dt,db,fun i hi=>(h.sm i (hf i hi).1).trans (hf i hi).2,fun i hi=>h.nx i (hf i hi).1,fun hi=>h.j1 (hf _ hi).1,h.j2,h.oj,h.ln,h.lb,fun i hi=>h.fn i (hf i hi).1,h.sb⟩
theorem b_le (l:List Nat):l.length≤(zu l).length:=by
 induction l with
 |nil=>exact qh _
 |cons n l ih=>rw[zdj,qr,qK];have:=numB_pos n;omega
theorem Sm.b {w:WS} {T S:Nat} (h:Sm w T S):w.b.length≤S:=Nat.le_trans (b_le _) h.s
theorem Sm.ix {w:WS} {T S:Nat} (h:Sm w T S) (v:Sv):w.t.idxOf v≤T:=Nat.le_trans List.idxOf_le_length h.t
theorem nth_nn {sp:List Int} {ws:List Wt} (f9:WaitsV sp ws): ∀(i:Nat) (h:i<ws.length),0≤ws[i].nth:=by
 intro i
 induction i with
 |zero=>
  intro h;have h1:=(f9 0 h).1.1;have h2:zfC ws 0= -1:=rfl;omega
 |succ i ih=>
  intro h;have h0:=ih (by omega);have h1:=(f9 (i+1) h).1.1;have h2:zfC ws (i+1)=ws[i].nth:=by
   show(match ws[i]? with|some w=>w.nth|none=>0)=_;rw[qd (by omega)]
  omega
attribute [local simp] c_a f_a r_a_1 r_a_2 r_a_3 r_a_4 r_a_5 r_a_6 r_a_7 r_a_9 r_a_10 r_a_11 r_a_12 r_a_13 r_a_14 r_a_15 r_a_16 r_a_17 r_a_18 r_a_20 r_a_22 r_a_23 r_a_24 r_a_25 r_a_26 r_a_27 r_a_28 r_a_29 r_a_30 r_a_32
theorem rwritten_ok {x:Pc} (hf:zjn x) (he: ∀w∈x.ws,w.env.length<100000) (hk:k (St (encPc x)) M):ze F (.fn n_a [] []) [.agg (ePc x)] M k kp:=by
 obtain⟨⟨f1,f2,f3,f4⟩,f5,f6,f7,f8,f9⟩:=hf;have b0:=zlu;apply ze.back;refine .fn zfh rfl (by simp[f_a]) ?_;simp(disch:=((try simp only[nx3]);omega));obtain⟨B0,hB0⟩: ∃B0,B0=bas (M.new (.rows false 3 [ePc x])):=⟨_,rfl⟩;have fr0: ∀i,B0.fr i↔i<M.next+1:=fun i=>by rw[hB0];exact Iff.rfl
 have hs:RrS B0 ((M.new (.rows false 3 [ePc x])).new (.rows false 2 [[.nilS,.nilS]])) (M.next+1) ⟨[],[]⟩:=by
  rw[hB0];exact⟨.nilS,.nilS,fun i hi=>by(have hi:i<_:=hi;rw[get_new,if_neg (by omega)]),fun i hi=>Nat.lt_succ_of_lt hi,by simp,by simp,by simp,.nil _ _,.nil _ _,fun _ _=>⟨trivial,trivial⟩,fun n hn=>by cases hn⟩
 have ob: ∀{y:VM} {w:WS},RrS B0 y (M.next+1) w→y.obj M.next=some (.rows false 3 [ePc x]):=fun h=>by rw[h.obj ((fr0 _).2 (by omega)),hB0];simp
 have low: ∀{y:VM} {w:WS},RrS B0 y (M.next+1) w→ ∀i,i<M.next→y.get i=M.get i:=fun h i hi=>by
  rw[h.sm ((fr0 _).2 (by omega)),hB0];show(M.new _).get i=_;rw[get_new,if_neg (by omega)]
 generalize hj:M.next+1=j at*;have s0:Sm ⟨[],[]⟩ 0 0:=⟨(fun x hx=>by cases hx),qh _,qh _⟩;have s1:=s0.num (n:=x.sp.length) (by omega);have o0:=ob hs;simp(disch:=((try simp only[nx3]);omega)) [o0,ePc];refine zcq hs x.sp.length (by omega) (by decide) fun M2 h2=> ?_;have sm2:=ob h2;simp(disch:=((try simp only[nx3]);omega)) [sm2,ePc];refine .for (σ:=VM) c_a_8.eq_1 (fun i _=>[(4,I i)]) (fun z=>z) (fun i z=>RrS B0 z j ((x.sp.take i).foldl encS ((⟨[],[]⟩:WS).num x.sp.length))∧Sm ((x.sp.take i).foldl encS ((⟨[],[]⟩:WS).num x.sp.length)) i (10+10*i)) x.sp.length M2 (by simp) rfl ⟨h2,s1⟩ (fun i y hi hP again=> ?_) (fun y hP=> ?_)
 ·obtain⟨p1,p2⟩:=hP;have hv:=f6 _ (ql hi);rw[qb hi,qA] at again;simp only[qE,qN] at again;generalize (x.sp.take i).foldl encS ((⟨[],[]⟩:WS).num x.sp.length)=u at*;generalize hx:x.sp[i]=v at*;have o1:=ob p1;have x1:=p2.ix (plc v);have x2:=p2.b;have x3:=p2.t;simp(disch:=((try simp only[nx3]);omega)) [o1,ePc,hi,hx,eInt];refine rplace_ok v ?_;simp(disch:=((try simp only[nx3]);omega));refine zfV p1 (plc v) (by omega) fun M3 h3=> ?_;simp(disch:=((try simp only[nx3]);omega));refine zcq h3 _ (by omega) (by rw[zgP];omega) fun M4 h4=> ?_;have again:=again M4 ⟨h4,(p2.ref (zjv hv) (by omega)).mono (by omega) (by omega)⟩;simp at again;simp(disch:=((try simp only[nx3]);omega));exact again
 ·obtain⟨p1,p2⟩:=hP;rw[List.take_length] at p1 p2;have q2:=p2.num (n:=x.qs.length) (by omega);generalize hu:x.sp.foldl encS ((⟨[],[]⟩:WS).num x.sp.length)=u at*;have smy:=ob p1;simp(disch:=((try simp only[nx3]);omega)) [smy,ePc];refine zcq p1 x.qs.length (by omega) (by have:=p2.b;omega) fun M3 h3=> ?_;have sm3:=ob h3;simp(disch:=((try simp only[nx3]);omega)) [sm3,ePc];refine .for (σ:=VM) c_a_21.eq_1 (fun i _=>[(5,I i)]) (fun z=>z) (fun i z=>RrS B0 z j ((x.qs.take i).foldl encQ (u.num x.qs.length))∧Sm ((x.qs.take i).foldl encQ (u.num x.qs.length)) (24+37*i) (260+500*i)) x.qs.length M3 (by simp) rfl ⟨h3,q2.mono (by omega) (by omega)⟩ (fun i y hi hP again=> ?_) (fun y hP=> ?_)
  ·obtain⟨p1,p2⟩:=hP;obtain⟨v1,⟨v2,v3⟩,v4⟩:=f8 _ (List.getElem_mem hi);rw[List.take_succ_eq_append_getElem hi,List.foldl_append] at again;simp only[List.foldl_cons,List.foldl_nil] at again;generalize (x.qs.take i).foldl encQ (u.num x.qs.length)=w at*;generalize hx:x.qs[i]=q at*;have wQ:zq [I 0,.nilS] 0 (eQu q)=some (eQu q):=rfl;obtain⟨y2,hy2⟩: ∃y2,y2=(y.new (.rows false 2 [[.int .i64 0,.nilS]])).put y.next (.rows false 2 [eQu q]):=⟨_,rfl⟩;have p1y:=p1.add (.rows false 2 [[.int .i64 0,.nilS]]) (.rows false 2 [eQu q]);rw[←hy2] at p1y;have k2: ∀i,i<y.next→y2.get i=y.get i:=fun i hi=>by rw[hy2,get_put,if_neg (by omega),get_new,if_neg (by omega)]
   have back: ∀{M3:VM} {w':WS},RrS ⟨y2,fun i=>B0.fr i∨i=y.next⟩ M3 j w'→RrS B0 M3 j w':=fun h=>h.rebase fun i hi=>⟨.inl hi,(k2 i (p1.nx hi)).trans (p1.sm hi)⟩;have oq: ∀{M3:VM} {w':WS},RrS ⟨y2,fun i=>B0.fr i∨i=y.next⟩ M3 j w'→M3.obj y.next=some (.rows false 2 [eQu q]):=fun h=>by rw[h.obj (.inr rfl),hy2];simp
   have oy:=oq p1y;have q3:=p2.ref (name_chn v1) (by omega);have q4:=q3.num (n:=q.ms.length) (by omega);have o1:=ob p1;have x1:=p2.ix (chn q.ch);have x2:=p2.b;have x3:=p2.t;simp(disch:=((try simp only[nx3]);omega)) [o1,ePc,hi,hx,wQ];rw[←hy2];have f1:oneD (eQu q)=some (I q.ch):=rfl;simp(disch:=((try simp only[nx3]);omega)) [oy,f1];refine zki q.ch ?_;simp(disch:=((try simp only[nx3]);omega));refine zfV p1y (chn q.ch) (by omega) fun M3 h3=> ?_;simp(disch:=((try simp only[nx3]);omega));refine zcq h3 _ (by omega) (by rw[zgP];omega) fun M4 h4=> ?_;have h4:RrS ⟨y2,fun i=>B0.fr i∨i=y.next⟩ M4 j (w.ref (chn q.ch)):=h4;have o4:=oq h4;have f2:(eQu q).drop 1=[.lst 1 (q.ms.map eMsg)]:=rfl;simp(disch:=((try simp only[nx3]);omega)) [o4,f2];refine zcq h4 q.ms.length (by omega) (by have:=q3.b;omega) fun M5 h5=> ?_;simp(disch:=((try simp only[nx3]);omega));refine .for (σ:=VM) c_a_19.eq_1 (fun a _=>[(7,I a)]) (fun z=>z) (fun a z=>RrS ⟨y2,fun i=>B0.fr i∨i=y.next⟩ z j ((q.ms.take a).foldl WS.vals ((w.ref (chn q.ch)).num q.ms.length))∧Sm ((q.ms.take a).foldl WS.vals ((w.ref (chn q.ch)).num q.ms.length)) (24+37*i+1+3*a) (260+500*i+20+40*a)) q.ms.length M5 (by simp) rfl ⟨h5,q4.mono (by omega) (by omega)⟩ (fun a z ha hP2 again2=> ?_) (fun z hP2=> ?_)
   ·obtain⟨r1,r2⟩:=hP2;obtain⟨m1,m2⟩:=v4 _ (ql ha);rw[qb ha,qA] at again2;simp only[qE,qN] at again2;generalize (q.ms.take a).foldl WS.vals ((w.ref (chn q.ch)).num q.ms.length)=u2 at*;generalize hxm:q.ms[a]=m at*;have f3:oneD (eMsg m)=some (.lst 2 (m.map eSv)):=rfl;have oz:=oq r1;simp(disch:=((try simp only[nx3]);omega)) [oz,f2,ha,hxm,f3];refine rvals_ok r1 m m2 (by have:=r2.t;omega) (by have:=r2.b;omega) fun M6 h6=> ?_;have again2:=again2 M6 ⟨h6,(r2.vals m2 (by omega)).mono (by omega) (by omega)⟩;simp at again2;simp(disch:=((try simp only[nx3]);omega));exact again2
   ·obtain⟨r1,r2⟩:=hP2;rw[qi] at r1 r2;have oz:=oq r1;have again:=again z ⟨back r1,r2.mono (by omega) (by omega)⟩;simp at again;simp(disch:=((try simp only[nx3]);omega)) [oz,f2];exact again
  ·obtain⟨p1,p2⟩:=hP;rw[List.take_length] at p1 p2;have q2:=p2.num (n:=x.ws.length) (by omega);generalize hu2:x.qs.foldl encQ (u.num x.qs.length)=u2 at*;have smy:=ob p1;simp(disch:=((try simp only[nx3]);omega)) [smy,ePc];refine zcq p1 x.ws.length (by omega) (by have:=p2.b;omega) fun M3 h3=> ?_;have sm3:=ob h3;simp(disch:=((try simp only[nx3]);omega)) [sm3,ePc];refine .for (σ:=VM) c_a_31.eq_1 (fun i _=>[(8,I i)]) (fun z=>z) (fun i z=>RrS B0 z j ((x.ws.take i).foldl encW (u2.num x.ws.length))∧Sm ((x.ws.take i).foldl encW (u2.num x.ws.length)) (2300+100001*i) (31000+1000050*i)) x.ws.length M3 (by simp) rfl ⟨h3,q2.mono (by omega) (by omega)⟩ (fun i y hi hP again=> ?_) (fun y hP=> ?_)
   ·obtain⟨p1,p2⟩:=hP;obtain⟨⟨v1,v2⟩,v3,v4,v5⟩:=f9 i hi;have v6:=f6 _ v3;have v7:=he _ (List.getElem_mem hi);have v8:=nth_nn f9 i hi;rw[List.take_succ_eq_append_getElem hi,List.foldl_append] at again;simp only[List.foldl_cons,List.foldl_nil] at again;generalize (x.ws.take i).foldl encW (u2.num x.ws.length)=w at*;generalize hx:x.ws[i]=q at*;obtain⟨nth,hnth⟩:=Int.eq_ofNat_of_zero_le v8;obtain⟨nd,hnd⟩:=Int.eq_ofNat_of_zero_le v4.1;have wW:zq [I 0,I 0,I 0,.nilS] 0 (eWt q)=some (eWt q):=rfl;obtain⟨y2,hy2⟩: ∃y2,y2=(y.new (.rows false 4 [[.int .i64 0,.int .i64 0,.int .i64 0,.nilS]])).put y.next (.rows false 4 [eWt q]):=⟨_,rfl⟩;have p1y:=p1.add (.rows false 4 [[.int .i64 0,.int .i64 0,.int .i64 0,.nilS]]) (.rows false 4 [eWt q]);rw[←hy2] at p1y;have k2: ∀i,i<y.next→y2.get i=y.get i:=fun i hi=>by rw[hy2,get_put,if_neg (by omega),get_new,if_neg (by omega)]
    have back: ∀{M3:VM} {w':WS},RrS ⟨y2,fun i=>B0.fr i∨i=y.next⟩ M3 j w'→RrS B0 M3 j w':=fun h=>h.rebase fun i hi=>⟨.inl hi,(k2 i (p1.nx hi)).trans (p1.sm hi)⟩;have oq: ∀{M3:VM} {w':WS},RrS ⟨y2,fun i=>B0.fr i∨i=y.next⟩ M3 j w'→M3.obj y.next=some (.rows false 4 [eWt q]):=fun h=>by rw[h.obj (.inr rfl),hy2];simp
    have oy:=oq p1y;have e0:(eWt q)=[I nth,I q.pl,I nd,.lst 2 (q.env.map eSv)]:=by unfold eWt;rw[hnth,hnd]
    have q3:=p2.num (n:=nth) (by omega);have q4:=q3.ref (zjv v6) (by omega);have q5:=q4.num (n:=nd) (by omega);have q6:=q5.vals v5 (by omega);have eW:encW w q=(((w.num nth).ref (plc q.pl)).num nd).vals q.env:=by unfold encW;rw[hnth,hnd];rfl
    rw[eW] at again;have o1:=ob p1;simp(disch:=((try simp only[nx3]);omega)) [o1,ePc,hi,hx,wW];rw[←hy2];rw[e0] at oy oq;have g1:oneD (eWt q)=some (I (nth:Int)):=by rw[e0];rfl
    simp(disch:=((try simp only[nx3]);omega)) [g1];have x1:=q3.ix (plc q.pl);have x2:=p2.b;have x3:=q3.t;have x4:=q3.b;have x5:=q4.b;have x6:=q5.b;have x7:=q5.t;refine zcq p1y nth (by omega) (by omega) fun M4 h4=> ?_;have o4:=oq h4;simp(disch:=((try simp only[nx3]);omega)) [o4];refine rplace_ok q.pl ?_;simp(disch:=((try simp only[nx3]);omega));refine zfV h4 (plc q.pl) (by omega) fun M5 h5=> ?_;simp(disch:=((try simp only[nx3]);omega));refine zcq h5 _ (by omega) (by rw[zgP];omega) fun M6 h6=> ?_;have h6:RrS ⟨y2,fun i=>B0.fr i∨i=y.next⟩ M6 j ((w.num nth).ref (plc q.pl)):=h6;have o6:=oq h6;simp(disch:=((try simp only[nx3]);omega)) [o6];refine zcq h6 nd (by omega) (by omega) fun M7 h7=> ?_;have o7:=oq h7;simp(disch:=((try simp only[nx3]);omega)) [o7];refine rvals_ok h7 q.env v5 (by omega) (by omega) fun M8 h8=> ?_;have again:=again M8 ⟨back h8,q6.mono (by omega) (by omega)⟩;simp at again;simp(disch:=((try simp only[nx3]);omega));exact again
   ·obtain⟨p1,p2⟩:=hP;rw[List.take_length] at p1 p2;have smy:=ob p1;have x1:=p2.t;have x2:=p2.s;have x3:=p2.b;simp(disch:=((try simp only[nx3]);omega)) [smy,ePc];refine rend_ok p1 80 (fun v hv=>(p2.nm v hv).small) (by omega) (by omega) (by omega) fun M9 n9 k9=> ?_;have hk:k (St (((x.ws.foldl encW (u2.num x.ws.length))).fin 80)) M:=by rw[←hu2,←hu];exact hk
    simp(disch:=((try simp only[nx3]);omega));refine Back.plain (by simp) (fun i hi=> ?_) hk;rw[k9 i ((fr0 i).2 (by omega)),hB0];show(M.new _).get i=_;rw[get_new,if_neg (by omega)]
end
end Go.Ideal.S
set_option maxHeartbeats 2000000
namespace Go.Ideal.S
open Go Go.Ideal Q Classical
attribute [local simp] decide_eq_true decide_eq_false zI
section
variable {M M':VM} {k kp:DV→VM→Prop} {n0 j:Nat}
end
section
variable {M M':VM} {k kp:DV→VM→Prop} {n0 j:Nat}
end
section
variable {M M':VM} {k kp:DV→VM→Prop} {n0 j:Nat}
end
section
variable {M y y':VM} {B:Base} {k kp:DV→VM→Prop} {n0 j X0 N0:Nat} {b:List UInt8} {t:List Sv} {dn d1 d2 d3 d':DV} {S S':Option (List UInt8)} {sp:List Int} {qs:List Qu} {ws:List Wt}
theorem Qd.keepQ (h:Qd B y j b t dn S) {q:Nat} (hj:j<q) (hd: ∀i,¬Off dn i→i<q) (hB: ∀i,B.fr i→i<q) (hn:y.next≤y'.next) (hk: ∀i,i<q→y'.get i=y.get i):Qd B y' j b t dn S:=by
 obtain⟨a,f,h,e⟩:=h;refine⟨a,f,⟨fun i hi=>(hk i (hB i hi)).trans (h.sm i hi),fun i hi=>by have:=h.nx i hi;omega,h.j1,by have:=h.j2;omega,?_,h.ln.keep hn fun i hi hno=>hk i (hd i hno),h.fn,h.al,h.bl⟩,e⟩;rw[←h.oj];show(y'.get j).map _=(y.get j).map _;rw[hk j hj]
theorem Qd.putO (h:Qd B y j b t dn S) {q:Nat} (hq:j≠q) (hB: ¬B.fr q) (ho:Off dn q) (o:MO):Qd B (y.put q o) j b t dn S:=by
 obtain⟨a,f,h,e⟩:=h;have j2:=h.j2;exact⟨a,f,⟨fun i hi=>by have hne:i≠q:=(fun e=>hB (by rw[←e];exact hi));rw[get_put,if_neg hne];exact h.sm i hi,fun i hi=>by have:=h.nx i hi;simp;omega,h.j1,by simp;omega,by rw[zbb,if_neg hq];exact h.oj,h.ln.put ho o,h.fn,h.al,h.bl⟩,e⟩
theorem Qd.rebase {B2:Base} (h:Qd B2 y j b t dn S) (hf: ∀i,B.fr i→B2.fr i∧B2.m.get i=B.m.get i):Qd B y j b t dn S:=by
 obtain⟨a,f,h,e⟩:=h;exact⟨a,f,⟨fun i hi=>(h.sm i (hf i hi).1).trans (hf i hi).2,fun i hi=>h.nx i (hf i hi).1,fun hi=>h.j1 (hf _ hi).1,h.j2,h.oj,h.ln,fun i hi=>h.fn i (hf i hi).1,h.al,h.bl⟩,e⟩
structure PqE (B:Base) (X0 N0:Nat) (y:VM) (j:Nat) (b:List UInt8) (t:List Sv) (dn:DV) (S:Option (List UInt8)) (d1 d2 d3:DV) (sp:List Int) (qs:List Qu) (ws:List Wt):Prop where
 rd:Qd B y j b t dn S
 hx: ¬B.fr X0
 hxj:X0<j
 hjN:j<N0
 nx:N0≤y.next
 hd: ∀i,¬Off dn i→X0<i∧i<N0
 hB: ∀i,B.fr i→i<N0
 o3:y.obj X0=some (.rows false 3 [[d1,d2,d3]])
 l1:Lb y d1 1 (sp.map eInt)
 l2:Lb y d2 2 (qs.map eQu)
 l3:Lb y d3 4 (ws.map eWt)
 fr: ∀i,i<N0→Off d1 i∧Off d2 i∧Off d3 i
theorem PqE.frame (h:PqE B X0 N0 y j b t dn S d1 d2 d3 sp qs ws) {q:Nat} (hq:N0≤q) (hb: ∀i,q≤i→Off d1 i∧Off d2 i∧Off d3 i) (hn:y.next≤y'.next) (hk: ∀i,i<q→y'.get i=y.get i):PqE B X0 N0 y' j b t dn S d1 d2 d3 sp qs ws:=by
 have a:=h.hxj;have c:=h.hjN;have e:=h.nx;refine⟨h.rd.keepQ (q:=q) (by omega) (fun i hi=>by have:=(h.hd i hi).2;omega) (fun i hi=>by have:=h.hB i hi;omega) hn hk,h.hx,a,c,by omega,h.hd,h.hB,?_,h.l1.keep hn fun i hi hno=>hk i ?_,h.l2.keep hn fun i hi hno=>hk i ?_,h.l3.keep hn fun i hi hno=>hk i ?_,h.fr⟩
 ·rw[←h.o3];show(y'.get X0).map _=(y.get X0).map _;rw[hk X0 (by omega)]
 ·exact qf fun hc=>hno (hb i (by omega)).1
 ·exact qf fun hc=>hno (hb i (by omega)).2.1
 ·exact qf fun hc=>hno (hb i (by omega)).2.2
theorem PqE.rdk (h:PqE B X0 N0 y j b t dn S d1 d2 d3 sp qs ws) (h':Qd B y' j b t dn S') (kj:Kj j y y'):PqE B X0 N0 y' j b t dn S' d1 d2 d3 sp qs ws:=by
 have a:=h.hxj;have c:=h.hjN;have e:=h.nx;have g:=kj.1;exact⟨h',h.hx,a,c,by omega,h.hd,h.hB,by rw[←h.o3];show(y'.get X0).map _=(y.get X0).map _;rw[kj.2 X0 (by omega) (by omega)],h.l1.kj (h.fr j c).1 kj,h.l2.kj (h.fr j c).2.1 kj,h.l3.kj (h.fr j c).2.2 kj,h.fr⟩
theorem PqE.g1 (h:PqE B X0 N0 y j b t dn S d1 d2 d3 sp qs ws) {x:Int} (hL:Lb y' d' 1 ((sp++[x]).map eInt)) (hG:Gro y d1 y' d'):PqE B X0 N0 (y'.put X0 (.rows false 3 [[d',d2,d3]])) j b t dn S d' d2 d3 (sp++[x]) qs ws:=by
 have a:=h.hxj;have c:=h.hjN;have e:=h.nx;have g:=hG.nx;have f0:=fun i (hi:i<N0)=>(h.fr i hi).1;have r1:=h.rd.gro hG (fun q hq=>f0 q (h.hB q hq)) (f0 j c) (fun q hq=>f0 q (h.hd q hq).2);have ho:Off dn X0:=qf fun hc=>by have:=(h.hd _ hc).1;omega
 exact⟨r1.putO (by omega) h.hx ho _,h.hx,a,c,by simp;omega,h.hd,h.hB,by simp,hL.put (hG.of X0 (by omega) (f0 X0 (by omega))) _,(h.l2.keep g fun i hi hno=>hG.kp i hi (off2 h.l1 h.l2 (by decide) hno)).put (h.fr X0 (by omega)).2.1 _,(h.l3.keep g fun i hi hno=>hG.kp i hi (off2 h.l1 h.l3 (by decide) hno)).put (h.fr X0 (by omega)).2.2 _,fun i hi=>⟨hG.of i (by omega) (f0 i hi),(h.fr i hi).2⟩⟩
theorem PqE.g2 (h:PqE B X0 N0 y j b t dn S d1 d2 d3 sp qs ws) {x:Qu} (hL:Lb y' d' 2 ((qs++[x]).map eQu)) (hG:Gro y d2 y' d'):PqE B X0 N0 (y'.put X0 (.rows false 3 [[d1,d',d3]])) j b t dn S d1 d' d3 sp (qs++[x]) ws:=by
 have a:=h.hxj;have c:=h.hjN;have e:=h.nx;have g:=hG.nx;have f0:=fun i (hi:i<N0)=>(h.fr i hi).2.1;have r1:=h.rd.gro hG (fun q hq=>f0 q (h.hB q hq)) (f0 j c) (fun q hq=>f0 q (h.hd q hq).2);have ho:Off dn X0:=qf fun hc=>by have:=(h.hd _ hc).1;omega
 exact⟨r1.putO (by omega) h.hx ho _,h.hx,a,c,by simp;omega,h.hd,h.hB,by simp,(h.l1.keep g fun i hi hno=>hG.kp i hi (off2 h.l2 h.l1 (by decide) hno)).put (h.fr X0 (by omega)).1 _,hL.put (hG.of X0 (by omega) (f0 X0 (by omega))) _,(h.l3.keep g fun i hi hno=>hG.kp i hi (off2 h.l2 h.l3 (by decide) hno)).put (h.fr X0 (by omega)).2.2 _,fun i hi=>⟨(h.fr i hi).1,hG.of i (by omega) (f0 i hi),(h.fr i hi).2.2⟩⟩
theorem PqE.g3 (h:PqE B X0 N0 y j b t dn S d1 d2 d3 sp qs ws) {x:Wt} (hL:Lb y' d' 4 ((ws++[x]).map eWt)) (hG:Gro y d3 y' d'):PqE B X0 N0 (y'.put X0 (.rows false 3 [[d1,d2,d']])) j b t dn S d1 d2 d' sp qs (ws++[x]):=by
 have a:=h.hxj;have c:=h.hjN;have e:=h.nx;have g:=hG.nx;have f0:=fun i (hi:i<N0)=>(h.fr i hi).2.2;have r1:=h.rd.gro hG (fun q hq=>f0 q (h.hB q hq)) (f0 j c) (fun q hq=>f0 q (h.hd q hq).2);have ho:Off dn X0:=qf fun hc=>by have:=(h.hd _ hc).1;omega
 exact⟨r1.putO (by omega) h.hx ho _,h.hx,a,c,by simp;omega,h.hd,h.hB,by simp,(h.l1.keep g fun i hi hno=>hG.kp i hi (off2 h.l3 h.l1 (by decide) hno)).put (h.fr X0 (by omega)).1 _,(h.l2.keep g fun i hi hno=>hG.kp i hi (off2 h.l3 h.l2 (by decide) hno)).put (h.fr X0 (by omega)).2.1 _,hL.put (hG.of X0 (by omega) (f0 X0 (by omega))) _,fun i hi=>⟨(h.fr i hi).1,(h.fr i hi).2.1,hG.of i (by omega) (f0 i hi)⟩⟩
theorem X_one {α:Type} {f:List UInt8→Option (α×List UInt8)} {S:Option (List UInt8)} {i:Nat} {acc:List α} {x:α} (ha: ∀m r,Xr f S i=some (m,r)→acc=m) (hx: ∀m r,((Xr f S i).map (·.2)).bind f=some (m,r)→x=m):
 (Xr f S (i+1)).map (·.2)=(((Xr f S i).map (·.2)).bind f).map (·.2)∧ ∀m r,Xr f S (i+1)=some (m,r)→acc++[x]=m:=by
 rw[zlb];cases h:Xr f S i with
 |none=>exact⟨rfl,nofun⟩
 |some p=>
  obtain⟨m0,r0⟩:=p;have:=ha m0 r0 h;subst this;rw[h] at hx;have hx: ∀m r,f r0=some (m,r)→x=m:=hx;rw[qe];show _=(f r0).map _∧_;cases hg:f r0 with
  |none=>exact⟨rfl,nofun⟩
  |some u=>
   have e1:=hx u.1 u.2 hg;refine⟨rfl,fun m r e=> ?_⟩;rw[e1];cases e;rfl
theorem zh8 {α:Type} {f:List UInt8→Option (α×List UInt8)} (S:Option (List UInt8)) {N:Nat} (h: ∀m r,S.bind zbn=some (m,r)→N=m):S.bind (zA f)=Xr f ((S.bind zbn).map (·.2)) N:=bind_rep h
theorem que_two {t:List Sv} {S:Option (List UInt8)} {ch:Int} {ms:List (List Sv)} (h1: ∀m r,S.bind (zT t 3)=some (m,r)→ch=m) (h2: ∀m r,((S.bind (zT t 3)).map (·.2)).bind (zA (z9 t))=some (m,r)→ms=m):
 (S.bind (queN t)).map (·.2)=(((S.bind (zT t 3)).map (·.2)).bind (zA (z9 t))).map (·.2)∧ ∀m r,S.bind (queN t)=some (m,r)→(⟨ch,ms⟩:Qu)=m:=by
 cases S with
 |none=>exact⟨rfl,nofun⟩
 |some l=>
  have h1: ∀m r,zT t 3 l=some (m,r)→ch=m:=h1;have h2: ∀m r,((zT t 3 l).map (·.2)).bind (zA (z9 t))=some (m,r)→ms=m:=h2;show(queN t l).map _=(((zT t 3 l).map _).bind _).map _∧ ∀m r,queN t l=some (m,r)→_;unfold queN;cases hn:zT t 3 l with
  |none=>exact⟨rfl,nofun⟩
  |some a=>
   rw[hn] at h2;have h2: ∀m r,zA (z9 t) a.2=some (m,r)→ms=m:=h2;have e1:=h1 a.1 a.2 hn;rw[qe];show _=(zA (z9 t) a.2).map _∧_;cases hv:zA (z9 t) a.2 with
   |none=>exact⟨rfl,nofun⟩
   |some c=>refine⟨rfl,fun m r e=> ?_⟩;rw[e1,h2 c.1 c.2 hv];cases e;rfl
end
end Go.Ideal.S
set_option maxHeartbeats 4000000
namespace Go.Ideal.S
open Go Go.Ideal Q Classical
attribute [local simp] decide_eq_true decide_eq_false zI
variable {M:VM} {k kp:DV→VM→Prop} {n0:Nat}
theorem wait_four {t:List Sv} {S:Option (List UInt8)} {a c:Nat} {pl:Int} {vs:List Sv} (h1: ∀m r,S.bind getN=some (m,r)→a=m) (h2: ∀m r,((S.bind getN).map (·.2)).bind (zT t 4)=some (m,r)→pl=m) (h3: ∀m r,((((S.bind getN).map (·.2)).bind (zT t 4)).map (·.2)).bind getN=some (m,r)→c=m)
 (h4: ∀m r,((((((S.bind getN).map (·.2)).bind (zT t 4)).map (·.2)).bind getN).map (·.2)).bind (z9 t)=some (m,r)→vs=m):
 (S.bind (zca t)).map (·.2)=(((((((S.bind getN).map (·.2)).bind (zT t 4)).map (·.2)).bind getN).map (·.2)).bind (z9 t)).map (·.2)∧ ∀m r,S.bind (zca t)=some (m,r)→(⟨(a:Int),pl,(c:Int),vs⟩:Wt)=m:=by
 cases S with
 |none=>exact⟨rfl,nofun⟩
 |some l=>
  simp only[qe] at h1 h2 h3 h4⊢;unfold zca;cases e1:getN l with
  |none=>exact⟨rfl,nofun⟩
  |some x1=>
   simp only[e1,qX,qe] at h1 h2 h3 h4⊢;cases e2:zT t 4 x1.2 with
   |none=>exact⟨rfl,nofun⟩
   |some x2=>
    simp only[e2,qX,qe] at h2 h3 h4⊢;cases e3:getN x2.2 with
    |none=>exact⟨rfl,nofun⟩
    |some x3=>
     simp only[e3,qX,qe] at h3 h4⊢;cases e4:z9 t x3.2 with
     |none=>exact⟨rfl,nofun⟩
     |some x4=>
      refine⟨rfl,fun m r e=> ?_⟩;rw[h1 x1.1 x1.2 rfl,h2 x2.1 x2.2 rfl,h3 x3.1 x3.2 rfl,h4 x4.1 x4.2 e4];cases e;rfl
theorem pc_of {s:Option (List Sv×List UInt8)} {t:List Sv} {sp:List Int} {qs:List Qu} {ws:List Wt} {R:Option (List UInt8)} (h1: ∀m r,s=some (m,r)→t=m) (h2: ∀m r,(s.map (·.2)).bind (zA (zT t 4))=some (m,r)→sp=m) (h3: ∀m r,(((s.map (·.2)).bind (zA (zT t 4))).map (·.2)).bind (zA (queN t))=some (m,r)→qs=m)
 (h4: ∀m r,(((((s.map (·.2)).bind (zA (zT t 4))).map (·.2)).bind (zA (queN t))).map (·.2)).bind (zA (zca t))=some (m,r)→ws=m)
 (hR:R=((((((s.map (·.2)).bind (zA (zT t 4))).map (·.2)).bind (zA (queN t))).map (·.2)).bind (zA (zca t))).map (·.2)):s.bind pcN=if R=none then none else some ⟨sp,qs,ws⟩:=by
 cases s with
 |none=>rw[if_pos (by rw[hR];rfl)];rfl
 |some x=>
  obtain⟨t',r1⟩:=x;have:=h1 t' r1 rfl;subst this;have h2: ∀m r,zA (zT t 4) r1=some (m,r)→sp=m:=h2;have h3: ∀m r,((zA (zT t 4) r1).map (·.2)).bind (zA (queN t))=some (m,r)→qs=m:=h3;have h4: ∀m r,((((zA (zT t 4) r1).map (·.2)).bind (zA (queN t))).map (·.2)).bind (zA (zca t))=some (m,r)→ws=m:=h4;have hR:R=(((((zA (zT t 4) r1).map (·.2)).bind (zA (queN t))).map (·.2)).bind (zA (zca t))).map (·.2):=hR;rw[qe];unfold pcN;dsimp only;cases hn:zA (zT t 4) r1 with
  |none=>rw[hn] at hR;rw[if_pos (by rw[hR];rfl)];rfl
  |some y=>
   rw[hn] at hR h3 h4;have h3: ∀m r,zA (queN t) y.2=some (m,r)→qs=m:=h3;have h4: ∀m r,((zA (queN t) y.2).map (·.2)).bind (zA (zca t))=some (m,r)→ws=m:=h4;have hR:R=(((zA (queN t) y.2).map (·.2)).bind (zA (zca t))).map (·.2):=hR;have e1:=h2 y.1 y.2 hn;rw[qe];cases hq:zA (queN t) y.2 with
   |none=>rw[hq] at hR;rw[if_pos (by rw[hR];rfl)];rfl
   |some z=>
    rw[hq] at hR h4;have h4: ∀m r,zA (zca t) z.2=some (m,r)→ws=m:=h4;have hR:R=(zA (zca t) z.2).map (·.2):=hR;have e2:=h3 z.1 z.2 hq;rw[qe];cases hw:zA (zca t) z.2 with
    |none=>rw[hw] at hR;rw[if_pos (by rw[hR];rfl)];rfl
    |some u=>rw[hw] at hR;rw[if_neg (by rw[hR];exact nofun),e1,e2,h4 u.1 u.2 hw];rfl
theorem back_frz {y:VM} {d:DV} {s:Nat} {rows:List (List DV)} (hw:M.Wf) (hL:Lb y d s rows) (hf: ∀i,i<M.next→Off d i):Frz y M d (.lst s rows):=by
 rcases hL.v with⟨rfl,e⟩| ⟨p,op,cap,h2,e,h4,_⟩
 ·rw[e];exact .nilS s
 ·rw[e] at hf⊢;have hp:M.next≤p:=qf fun h=>hf p (by omega) rfl;exact .ms0 h4 (hw p hp) rfl hL.row
attribute [local simp] c_b f_b r_b_1 r_b_2 r_b_3 r_b_4 r_b_5 r_b_6 r_b_7 r_b_8 r_b_10 r_b_11 r_b_12 r_b_13 r_b_14 r_b_15 r_b_16 r_b_17 r_b_18 r_b_20 r_b_21 r_b_23 r_b_24 r_b_25 r_b_26 r_b_27 r_b_28 r_b_29 r_b_30 r_b_31 r_b_33
theorem rparcel_ok (b:List UInt8) (hb1:1≤b.length) (hb2:b.length≤1000000) (hk: ∀(x:Pc) (q:Bool),(q=false→(tabN (b.drop 1)).bind pcN=some x)→(q=true→(tabN (b.drop 1)).bind pcN=none)→k (.tup [.agg (ePc x),.bool (!q)]) M):ze F (.fn n_b [] []) [St b] M k kp:=by
 apply ze.back;refine .fn zfF rfl (by simp[f_b]) ?_;simp(disch:=((try simp only[nx3]);omega));obtain⟨Y,hY⟩: ∃Y,Y=(M.new (.rows false 3 [[.nilS,.nilS,.nilS]])).new (.rows false 3 [[.nilS,.nilS,.nilS]]):=⟨_,rfl⟩;have yn:Y.next=M.next+2:=by rw[hY];simp
 have y1:Y.obj (M.next+1)=some (.rows false 3 [[.nilS,.nilS,.nilS]]):=by rw[hY,zfb,if_pos (by simp)]
 have y0:Y.obj M.next=some (.rows false 3 [[.nilS,.nilS,.nilS]]):=by rw[hY,zbl _ (by simp)];simp
 rw[←hY];refine zfW b hb1 hb2 fun M1 j t dn q1 lt he1=> ?_;have q1b:Qd ⟨Y,fun i=>i<M.next+1⟩ M1 j b t dn ((tabN (b.drop 1)).map (·.2)):=q1.rebase fun i hi=>⟨by have hi:i<M.next+1:=hi;show i<Y.next;omega,rfl⟩;have p1:PqE ⟨Y,fun i=>i<M.next+1⟩ (M.next+1) M1.next M1 j b t dn ((tabN (b.drop 1)).map (·.2)) .nilS .nilS .nilS [] [] []:=by
  obtain⟨a,f,h,e⟩:=q1;have hj: ¬j<Y.next:=h.j1;have hn: ∀i,i<Y.next→i<M1.next:=h.nx;have hf: ∀i,i<Y.next→Off dn i:=h.fn;exact⟨q1b,fun hi=>Nat.lt_irrefl _ hi,by omega,h.j2,qh _,fun i hi=>⟨qf fun hc=>hi (hf i (by omega)),h.ln.ltN hi⟩,fun i hi=>hn i (by have hi:i<M.next+1:=hi;omega),by
   rw[←y1];show(M1.get _).map _=(Y.get _).map _;rw[h.sm (M.next+1) (by show _<Y.next;omega)],.nil _ _,.nil _ _,.nil _ _,fun _ _=>⟨trivial,trivial,trivial⟩⟩
 generalize hN0:M1.next=N0 at*;generalize hX0:M.next+1=X0 at*;generalize hS0:(tabN (b.drop 1)).map (·.2)=S0 at*;simp(disch:=((try simp only[nx3]);omega));refine zer p1.rd fun M2 N h2 k2 hN he=> ?_;have p2:=p1.rdk h2 k2;have hall:S0.bind (zA (zT t 4))=Xr (zT t 4) ((S0.bind zbn).map (·.2)) N:=zh8 S0 he;simp(disch:=((try simp only[nx3]);omega));refine .for (σ:=VM×DV×List Int) c_b_9.eq_1 (fun i z=>[(7,I i)]) (fun z=>z.1) (fun i z=>PqE ⟨Y,fun i=>i<X0⟩ X0 N0 z.1 j b t dn ((Xr (zT t 4) ((S0.bind zbn).map (·.2)) i).map (·.2)) z.2.1 .nilS .nilS z.2.2 [] []∧(∀m r,Xr (zT t 4) ((S0.bind zbn).map (·.2)) i=some (m,r)→z.2.2=m)∧z.2.2.length=i) N (M2,.nilS,[]) (by simp) rfl ⟨by rw[zdb];cases hh:(S0.bind zbn).map (·.2)<;>(rw[hh] at p2;exact p2),fun m r e=>by
  rw[zdb] at e;obtain⟨l0,_,e⟩:=qy.1 e;cases e;rfl,rfl⟩                     (fun i z hi hP again=> ?_) (fun z hP=> ?_)
 ·obtain⟨y,d,acc⟩:=z;obtain⟨p,p5,p6⟩:=hP;dsimp only at*;have xj:=p.hxj;have nx:=p.nx;have jN:=p.hjN;have o0:=p.o3;simp(disch:=((try simp only[nx3]);omega)) [hi];refine zhF p.rd 4 fun M3 x h3 k3 hxe=> ?_;obtain⟨x1,x2⟩:=X_one p5 hxe;rw[←x1] at h3;have q:=p.rdk h3 k3;have o3:=q.o3;simp(disch:=((try simp only[nx3]);omega)) [o3];refine⟨.inl (k3.2 _ (by omega) (by omega)),q.l1.self,?_⟩;refine zg0 (q.l1.new _) (new:=[eInt x]) (by simp[eInt]) (by decide) (by simp[eInt]) (by simp) (by simp;omega) fun d' M4 hL hG=> ?_;have hG:=hG.pre;have g:=q.g1 (x:=x) (by simpa using hL) hG;have nx3:=q.nx;have o4:M4.obj X0=some (.rows false 3 [[d,.nilS,.nilS]]):=by rw[hG.obj (by omega) (q.fr X0 (by omega)).1];exact o3
  have c1:=hL.cells;have c2:=hL.cell;have again:=again (_,d',acc++[x]) ⟨g,x2,by simp[p6]⟩;simp at again;simp(disch:=((try simp only[nx3]);omega)) [o4,c1,c2];exact again
 ·obtain⟨y,d1,sp⟩:=z;obtain⟨p,p5,p6⟩:=hP;dsimp only at*;rw[←hall] at p p5;have hsp:=p5;generalize hS1:(S0.bind (zA (zT t 4))).map (·.2)=S1 at*;simp(disch:=((try simp only[nx3]);omega));refine zer p.rd fun M5 N2 h5 k5 hN2 he2=> ?_;have pq:=p.rdk h5 k5;have hall2:S1.bind (zA (queN t))=Xr (queN t) ((S1.bind zbn).map (·.2)) N2:=zh8 S1 he2;generalize (S1.bind zbn).map (·.2)=S2 at*;simp(disch:=((try simp only[nx3]);omega));refine .for (σ:=VM×DV×List Qu) c_b_22.eq_1 (fun i z=>[(8,I i)]) (fun z=>z.1) (fun i z=>PqE ⟨Y,fun i=>i<X0⟩ X0 N0 z.1 j b t dn ((Xr (queN t) S2 i).map (·.2)) d1 z.2.1 .nilS sp z.2.2 []∧(∀m r,Xr (queN t) S2 i=some (m,r)→z.2.2=m)∧z.2.2.length=i) N2 (M5,.nilS,[]) (by simp) rfl ⟨by rw[zdb];cases S2<;>exact pq,fun m r e=>by
   rw[zdb] at e;obtain⟨l0,_,e⟩:=qy.1 e;cases e;rfl,rfl⟩                     (fun i z hi hP again=> ?_) (fun z hP=> ?_)
  ·obtain⟨y,d2,acc⟩:=z;obtain⟨p,p5,p6⟩:=hP;dsimp only at*;simp(disch:=((try simp only[nx3]);omega)) [hi];refine zhF p.rd 3 fun M6 ch h6 k6 he6=> ?_;have q:=p.rdk h6 k6;have nx6:=q.nx;have jN:=q.hjN;have xj:=q.hxj;simp(disch:=((try simp only[nx3]);omega));obtain⟨Z,hZ⟩: ∃Z,Z=(M6.new (.rows false 2 [[I 0,.nilS]])).put M6.next (.rows false 2 [[I ch,.nilS]]):=⟨_,rfl⟩;have zn:Z.next=M6.next+2:=by rw[hZ];simp
   have zk: ∀i,i<M6.next→Z.get i=M6.get i:=fun i hi=>by rw[hZ,get_put,if_neg (by omega),get_new,if_neg (by omega)]
   have zo:Z.obj M6.next=some (.rows false 2 [[I ch,.nilS]]):=by rw[hZ];simp
   have hoff: ∀i,M6.next≤i→Off d1 i∧Off d2 i∧Off (DV.nilS) i:=fun i hi=>⟨q.l1.offN hi,q.l2.offN hi,trivial⟩;have qz:=q.frame (q:=M6.next) nx6 hoff (by omega) zk;rw[←hZ];generalize hq4:M6.next=q4 at*;refine zer qz.rd fun M7 N3 h7 k7 hN3 he7=> ?_;have n7:=k7.1;have q7:=qz.rdk h7 k7;have o7:M7.obj q4=some (.rows false 2 [[I ch,.nilS]]):=by
    show(M7.get _).map _=_;rw[k7.2 _ (by omega) (by omega)];exact zo
   obtain⟨T0,hT0⟩: ∃T0,T0=(((Xr (queN t) S2 i).map (·.2)).bind (zT t 3)).map (·.2):=⟨_,rfl⟩;rw[←hT0] at q7 he7;have hallT:T0.bind (zA (z9 t))=Xr (z9 t) ((T0.bind zbn).map (·.2)) N3:=zh8 T0 he7;generalize (T0.bind zbn).map (·.2)=T1 at*;simp(disch:=((try simp only[nx3]);omega));refine zcn.forL (σ:=VM×DV×List (List Sv)) c_b_19.eq_1 (fun a z=>[(11,I a)]) (fun z=>z.1) (fun a z=>PqE ⟨Y,fun i=>i<X0⟩ X0 N0 z.1 j b t dn ((Xr (z9 t) T1 a).map (·.2)) d1 d2 .nilS sp acc []∧q4<z.1.next∧z.1.obj q4=some (.rows false 2 [[I ch,z.2.1]])∧Lb z.1 z.2.1 1 (z.2.2.map eMsg)∧(∀i,i≤q4→Off z.2.1 i)∧(∀m r,Xr (z9 t) T1 a=some (m,r)→z.2.2=m)∧z.2.2.length=a) N3 (M7,.nilS,[]) (by simp) rfl ⟨by rw[zdb];cases T1<;>exact q7,by dsimp only;omega,o7,.nil _ _,fun _ _=>trivial,fun m r e=>by
    rw[zdb] at e;obtain⟨l0,_,e⟩:=qy.1 e;cases e;rfl,rfl⟩                     (fun a z ha hP2 again2=> ?_) (fun z hP2=> ?_)
   ·obtain⟨y4,dq,ms⟩:=z;obtain⟨g,g1,g2,g3,g4,g5,g6⟩:=hP2;dsimp only at*;simp(disch:=((try simp only[nx3]);omega)) [ha];refine rvals'_f g.rd fun M8 vs h8 k8 lv he8=> ?_;obtain⟨x1,x2⟩:=X_one g5 he8;rw[←x1] at h8;have n8:=k8.1;have q8:=g.rdk h8 k8;have g3':=g3.kj (g4 j (by omega)) k8;have o8:M8.obj q4=some (.rows false 2 [[I ch,dq]]):=by
     show(M8.get _).map _=_;rw[k8.2 _ g1 (by omega)];exact g2
    simp(disch:=((try simp only[nx3]);omega)) [o8];refine⟨.inl (k8.2 _ g1 (by omega)),g3.self,?_⟩;refine zg0 (g3'.new _) (new:=[eMsg vs]) (by simp[eMsg]) (by decide) (by simp[eMsg,zj]) (by simp[eMsg]) (by simp;omega) fun d5 M9 hL hG=> ?_;have hG:=hG.pre;have n9:=hG.nx;have o9:M9.obj q4=some (.rows false 2 [[I ch,dq]]):=by rw[hG.obj (by omega) (g4 _ (by omega))];exact o8
    have c1:=hL.cells;have c2:=hL.cell;have f5: ∀i,i≤q4→Off d5 i:=fun i hi=>hG.of i (by omega) (g4 i hi);have q9:=q8.frame (y':=M9.put q4 (.rows false 2 [[I ch,d5]])) (q:=q4) nx6 hoff (by simp;omega) (fun i hi=>by rw[get_put,if_neg (by omega)];exact hG.kp i (by omega) (g4 i (by omega)));have again2:=again2 (M9.put q4 (.rows false 2 [[I ch,d5]]),d5,ms++[vs]) ⟨q9,by simp;omega,by simp,(show Lb M9 d5 1 ((ms++[vs]).map eMsg) by simpa using hL).put (f5 q4 (qh _)) _,f5,x2,by simp[g6]⟩;simp at again2;simp(disch:=((try simp only[nx3]);omega)) [o9,c1,c2];exact again2
   ·obtain⟨y4,dq,ms⟩:=z;obtain⟨g,g1,g2,g3,g4,g5,g6⟩:=hP2;dsimp only at*;rw[←hallT,hT0] at g g5;obtain⟨t1,t2⟩:=que_two he6 g5;rw[←t1] at g;obtain⟨x1,x2⟩:=X_one p5 t2;rw[←x1] at g;obtain⟨O,hO⟩: ∃O,O=MO.rows false 2 [eQu ⟨ch,ms⟩]:=⟨_,rfl⟩;have cv:Conv y4 y4 (cutM y4 q4 O):=cutM_conv g1 g2 (by
     rw[hO];refine .rows (by simp) rfl fun k d e hd he=> ?_
     match k with
     |0=>cases hd;cases he;exact .refl _
     |1=>cases hd;cases he;exact cutM_frz g3 g4
     |k+2=>simp at hd) (by
     rw[hO];refine .rows fun r hr d hd=> ?_;rw[qj.1 hr] at hd;exact b_Qu _ d hd)
    have qc:=g.frame (y':=cutM y4 q4 O) (q:=q4) nx6 hoff (Nat.le_succ _) (fun i hi=>cutM_lt hi);have oc:(cutM y4 q4 O).obj q4=some O:=cutM_obj;refine zcn.pre cv (SFrz.refl fun x hx=> ?_) ?_
    ·have hn:(cutM y4 q4 O).next=y4.next+1:=rfl
     have hM:M.next<y4.next:=by omega
     rw[hn];simp at hx;rcases hx with rfl|rfl|rfl|rfl|rfl|rfl|rfl|rfl
     all_goals first
      |exact .int _ _
      |exact .ptr (by omega)
    ·generalize cutM y4 q4 O=yc at*;have o3:=qc.o3;have nc:=qc.nx;refine .go c_b_19.eq_1 ?_;simp(disch:=((try simp only[nx3]);omega)) [o3,oc,hO];refine zeQ (qc.l2.new _) (new:=[eQu ⟨ch,ms⟩]) (by simp) (by decide) (by simp[eQu,zj]) (by simp[eQu]) (by simp;omega) fun d' M10 hL hG=> ?_;have hG:=hG.pre;have q10:=qc.g2 (x:=⟨ch,ms⟩) (by simpa using hL) hG;have o10:M10.obj X0=some (.rows false 3 [[d1,d2,.nilS]]):=by rw[hG.obj (by omega) (qc.fr X0 (by omega)).2.1];exact o3
     have c1:=hL.cells;have c2:=hL.cell;have again:=again (_,d',acc++[⟨ch,ms⟩]) ⟨q10,x2,by simp[p6]⟩;simp at again;simp(disch:=((try simp only[nx3]);omega)) [o10,c1,c2];exact again
  ·obtain⟨y,d2,qs⟩:=z;obtain⟨p,p5,p6⟩:=hP;dsimp only at*;rw[←hall2] at p p5;have hqs:=p5;generalize hS3:(S1.bind (zA (queN t))).map (·.2)=S3 at*;simp(disch:=((try simp only[nx3]);omega));refine zer p.rd fun M5 N3 h5 k5 hN3 he3=> ?_;have pq:=p.rdk h5 k5;have hall3:S3.bind (zA (zca t))=Xr (zca t) ((S3.bind zbn).map (·.2)) N3:=zh8 S3 he3;generalize (S3.bind zbn).map (·.2)=S4 at*;simp(disch:=((try simp only[nx3]);omega));refine .for (σ:=VM×DV×List Wt) c_b_32.eq_1 (fun i z=>[(12,I i)]) (fun z=>z.1) (fun i z=>PqE ⟨Y,fun i=>i<X0⟩ X0 N0 z.1 j b t dn ((Xr (zca t) S4 i).map (·.2)) d1 d2 z.2.1 sp qs z.2.2∧(∀m r,Xr (zca t) S4 i=some (m,r)→z.2.2=m)∧z.2.2.length=i) N3 (M5,.nilS,[]) (by simp) rfl ⟨by rw[zdb];cases S4<;>exact pq,fun m r e=>by
    rw[zdb] at e;obtain⟨l0,_,e⟩:=qy.1 e;cases e;rfl,rfl⟩                     (fun i z hi hP again=> ?_) (fun z hP=> ?_)
   ·obtain⟨y,d3,acc⟩:=z;obtain⟨p,p5,p6⟩:=hP;dsimp only at*;simp(disch:=((try simp only[nx3]);omega)) [hi];refine zg7 p.rd fun M6 a h6 k6 ha6 he6=> ?_;have q:=p.rdk h6 k6;have nx6:=q.nx;have jN:=q.hjN;have xj:=q.hxj;simp(disch:=((try simp only[nx3]);omega));obtain⟨Z,hZ⟩: ∃Z,Z=(M6.new (.rows false 4 [[I 0,I 0,I 0,.nilS]])).put M6.next (.rows false 4 [[I (a:Int),I 0,I 0,.nilS]]):=⟨_,rfl⟩;have zn:Z.next=M6.next+2:=by rw[hZ];simp
    have zk: ∀i,i<M6.next→Z.get i=M6.get i:=fun i hi=>by rw[hZ,get_put,if_neg (by omega),get_new,if_neg (by omega)]
    have zo:Z.obj M6.next=some (.rows false 4 [[I (a:Int),I 0,I 0,.nilS]]):=by rw[hZ];simp
    have hoff: ∀i,M6.next≤i→Off d1 i∧Off d2 i∧Off d3 i:=fun i hi=>⟨q.l1.offN hi,q.l2.offN hi,q.l3.offN hi⟩;have g0:=q.frame (q:=M6.next) nx6 hoff (by omega) zk;rw[←hZ];generalize hq5:M6.next=q5 at*;have put: ∀{M2:VM} {S:Option (List UInt8)} (o:MO),PqE ⟨Y,fun i=>i<X0⟩ X0 N0 M2 j b t dn S d1 d2 d3 sp qs acc→PqE ⟨Y,fun i=>i<X0⟩ X0 N0 (M2.put q5 o) j b t dn S d1 d2 d3 sp qs acc:=fun o h=>h.frame (q:=q5) nx6 hoff (by simp) (fun i hi=>by rw[get_put,if_neg (by omega)]);have keep: ∀{M2 M3:VM} {o:MO},Kj j M2 M3→q5<M2.next→M2.obj q5=some o→M3.obj q5=some o:=fun{M2 M3 o} h1 h2 h3=>by
     show(M3.get _).map _=_;rw[h1.2 _ h2 (by omega)];exact h3
    refine zhF g0.rd 4 fun M7 pl h7 k7 he7=> ?_;have g1:=put (.rows false 4 [[I (a:Int),I pl,I 0,.nilS]]) (g0.rdk h7 k7);have o1:=keep k7 (by omega) zo;have x3':q5<M7.next:=by have:=k7.1;omega
    simp(disch:=((try simp only[nx3]);omega)) [o1];refine zg7 g1.rd fun M8 c h8 k8 hc8 he8=> ?_;have g2:=put (.rows false 4 [[I (a:Int),I pl,I (c:Int),.nilS]]) (g1.rdk h8 k8);have o2:=keep (o:=.rows false 4 [[I (a:Int),I pl,I 0,.nilS]]) k8 (by simp;omega) (by simp);have x4':q5<M8.next:=by have:=k8.1;simp at this;omega
    simp(disch:=((try simp only[nx3]);omega)) [o2];refine rvals'_f g2.rd fun M9 vs h9 k9 lv he9=> ?_;have q9:=g2.rdk h9 k9;have o3:=keep (o:=.rows false 4 [[I (a:Int),I pl,I (c:Int),.nilS]]) k9 (by simp;omega) (by simp);have x5':q5<M9.next:=by have:=k9.1;simp at this;omega
    obtain⟨t1,t2⟩:=wait_four he6 he7 he8 he9;obtain⟨x1,x2⟩:=X_one p5 t2;have g4:=put (.rows false 4 [[I (a:Int),I pl,I (c:Int),.lst 2 (vs.map eSv)]]) q9;rw[←t1,←x1] at g4;have oR5:=q9.o3;have oR:=g4.o3;have nY:=g4.nx;have ne5:X0≠q5:=by omega
    simp(disch:=((try simp only[nx3]);omega)) [o3,oR5,ne5];refine zeQ (g4.l3.new _) (new:=[eWt ⟨a,pl,c,vs⟩]) (by simp[eWt]) (by decide) (by simp[eWt,zj]) (by simp[eWt]) (by simp;omega) fun d' M10 hL hG=> ?_;have hG:=hG.pre;have g8:=g4.g3 (x:=⟨a,pl,c,vs⟩) (by simpa using hL) hG;have o8:M10.obj X0=some (.rows false 3 [[d1,d2,d3]]):=by rw[hG.obj (by omega) (g4.fr X0 (by omega)).2.2];exact oR
    have c1:=hL.cells;have c2:=hL.cell;have again:=again (_,d',acc++[⟨a,pl,c,vs⟩]) ⟨g8,x2,by simp[p6]⟩;simp at again;simp(disch:=((try simp only[nx3]);omega)) [o8,c1,c2];exact again
   ·obtain⟨y,d3,ws⟩:=z;obtain⟨p,p5,p6⟩:=hP;dsimp only at*;rw[←hall3] at p p5;have hpc:=pc_of (s:=tabN (b.drop 1)) (R:=(S3.bind (zA (zca t))).map (·.2)) he1 (by rw[hS0];exact hsp) (by rw[hS0,hS1];exact hqs) (by rw[hS0,hS1,hS3];exact p5) (by rw[hS0,hS1,hS3]);obtain⟨a,q,h,e⟩:=p.rd;rw[e] at hpc;have oj:=h.oj;have o3:=p.o3;have xj:=p.hxj;have nx2:=p.nx;have jN:=p.hjN;have o0:y.obj M.next=some (.rows false 3 [[.nilS,.nilS,.nilS]]):=by
     rw[←y0];show(y.get M.next).map _=_;rw[h.sm M.next (by show M.next<X0;omega)];rfl
    have c1:=p.l1.cell;have c2:=p.l2.cell;have c3:=p.l3.cell;have ne1:j≠M.next:=by omega
    have ne2:X0≠M.next:=by omega
    have hk:=hk ⟨sp,qs,ws⟩ q (fun e0=>by rw[hpc,e0,if_neg (by rw[zlf];exact nofun)]) (fun e0=>by rw[hpc,e0,if_pos (sx_bad _ _)]);simp(disch:=((try simp only[nx3]);omega)) [o3,oj,o0,c1,c2,c3,ne1,ne2];intro hw;have fr:=p.fr;refine⟨.tup [.agg (ePc ⟨sp,qs,ws⟩),.bool (!q)],.tup rfl fun i d e a b=> ?_,.tup fun d hd=> ?_,fun i hi=> ?_,hk⟩
    ·match i with
     |0=>
      cases a;cases b;refine .agg rfl fun i d e hd he=> ?_
      match i with
      |0=>cases hd;cases he;exact back_frz hw (p.l1.put (fr M.next (by omega)).1 _) (fun q hq=>(fr q (by omega)).1)
      |1=>cases hd;cases he;exact back_frz hw (p.l2.put (fr M.next (by omega)).2.1 _) (fun q hq=>(fr q (by omega)).2.1)
      |2=>cases hd;cases he;exact back_frz hw (p.l3.put (fr M.next (by omega)).2.2 _) (fun q hq=>(fr q (by omega)).2.2)
      |i+3=>simp at hd
     |1=>cases a;cases b;exact .refl _
     |i+2=>simp at a
    ·simp only[List.mem_cons,List.not_mem_nil,or_false] at hd;rcases hd with rfl|rfl
     ·exact .agg (b_Pc _)
     ·exact .bool _
    ·rw[get_put,if_neg (by omega),h.sm i (by show i<X0;omega),hY,get_new,if_neg (by simp;omega),get_new,if_neg (by omega)]
end Go.Ideal.S
set_option maxHeartbeats 2000000
namespace Go.Ideal.S
open Go Go.Ideal Q Classical
attribute [local simp] decide_eq_true decide_eq_false zI
section
variable {M:VM} {k kp:DV→VM→Prop} {n0:Nat}
attribute [local simp] c_L f_L r_L_1 r_L_2 r_L_3 r_L_4 r_L_5 r_L_6 r_L_7 r_L_8 r_L_9
theorem rParcel_ok (b:List UInt8) (hk:k (.tup [.agg (ePc (zb3 b).1),I (zb3 b).2]) M):ze F (.fn n_L [] []) [St b] M k kp:=by
 unfold zb3 at hk;have wL: ∀x:Pc,zq [.nilS,.nilS,.nilS] 0 (ePc x)=some (ePc x):=fun x=>rfl;apply ze.back;refine .fn zfJ rfl (by simp[f_L]) ?_;by_cases hl:80000<b.length
 ·rw[if_pos hl] at hk;have hli:(80000:Int)<b.length:=by omega
  simp(disch:=((try simp only[nx3]);omega)) [hli];exact zcz (by repeat' (first|assumption|exact zx _ _|apply zl|apply zy|apply z6| ((try simp only[nx3]);omega))) hk
 ·rw[if_neg hl] at hk;have hli: ¬(80000:Int)<b.length:=by omega
  have bad: ¬zje b 80→k (.tup [.agg (ePc ⟨[],[],[]⟩),I 4]) M:=fun h=>by
   have:zR b 80=none:=by unfold zR;rw[if_neg h]
   rw[this] at hk;exact hk
  by_cases h3:3≤b.length
  ·obtain⟨n,hn⟩: ∃n,b.length=n+2:=⟨b.length - 2,by omega⟩;have h3i: ¬(b.length:Int)<3:=by omega
   have e1:(b.length:Int) - 2=(n:Int):=by omega
   have s1:=zeV b .i64 n (by omega);have s2:=zeU b .i64 n (by omega);have h0:b[0]? =some b[0]:=qd (by omega);have hb:zbY b[0]=.int .u8 (b[0].toNat:Int):=rfl;have hlt:(b.take n).length=n:=by rw[qJ];omega
   by_cases hf:b[0]=80
   ·have hfi:(b[0].toNat:Int)=80:=by rw[hf];rfl
    simp(disch:=((try simp only[nx3]);omega)) [hli,h3i,h0,hb,zfr,hfi,e1,s1,s2];refine rsum_ok _ (by omega) ?_;have c6: ∀ek,binD .neq ek (St (crc (b.take n))) (St (b.drop n))=some (.bool (!decide (crc (b.take n)=b.drop n))):=fun ek=>bin_sne _ _;by_cases hc:crc (b.take n)=b.drop n
    ·have hok:zje b 80:=⟨h3,by rw[List.head?_eq_getElem?,h0,hf],by rw[show b.length - 2=n by omega];exact hc⟩;have hst:zR b 80=tabN ((b.take n).drop 1):=by unfold zR;rw[if_pos hok,show b.length - 2=n by omega]
     have hsz:= @pc_sz b;rw[hst] at hk;simp only[hc,decide_true,Bool.not_true] at c6;simp(disch:=((try simp only[nx3]);omega)) [c6,s1,s2,e1];refine rparcel_ok (b.take n) (by omega) (by omega) fun x q q1 q2=> ?_;cases q with
     |true=>
      rw[q2 rfl] at hk;dsimp only at hk;simp(disch:=((try simp only[nx3]);omega)) [wL];exact zcz (by repeat' (first|assumption|exact zx _ _|apply zl|apply zy|apply z6| ((try simp only[nx3]);omega))) hk
     |false=>
      have ex:=q1 rfl;obtain⟨z1,z2⟩:=hsz (x:=x) (by rw[hst];exact ex) (by omega);rw[ex] at hk;dsimp only at hk;simp(disch:=((try simp only[nx3]);omega)) [wL];refine rgood_ok x z1 ?_;by_cases hpr:zjn x
      ·rw[decide_eq_true hpr];simp(disch:=((try simp only[nx3]);omega));refine rwritten_ok hpr z2 ?_;by_cases he:encPc x=b
       ·rw[if_pos ⟨hpr,he⟩] at hk;simp(disch:=((try simp only[nx3]);omega)) [he,wL];refine Back.plain (.tup fun d hd=> ?_) (by repeat' (first|assumption|exact zx _ _|apply zl|apply zy|apply z6| ((try simp only[nx3]);omega))) hk;simp only[List.mem_cons,List.not_mem_nil,or_false] at hd;rcases hd with rfl|rfl
        ·exact .agg (b_Pc _)
        ·exact .int _ _
       ·rw[if_neg (fun h=>he h.2)] at hk;simp(disch:=((try simp only[nx3]);omega)) [he];exact zcz (by repeat' (first|assumption|exact zx _ _|apply zl|apply zy|apply z6| ((try simp only[nx3]);omega))) hk
      ·rw[decide_eq_false hpr];rw[if_neg (fun h=>hpr h.1)] at hk;simp(disch:=((try simp only[nx3]);omega));exact zcz (by repeat' (first|assumption|exact zx _ _|apply zl|apply zy|apply z6| ((try simp only[nx3]);omega))) hk
    ·have bad:=bad (fun h=>hc (by have:=h.2.2;rwa [show b.length - 2=n by omega] at this));clear hk;simp(disch:=((try simp only[nx3]);omega)) [c6,hc,s1,s2,e1];exact zcz (by repeat' (first|assumption|exact zx _ _|apply zl|apply zy|apply z6| ((try simp only[nx3]);omega))) bad
   ·have hfi: ¬(b[0].toNat:Int)=80:=fun e=>hf (UInt8.toNat_inj.1 (by have:b[0].toNat=80:=by omega
                                                                     rw[this];rfl))
    have bad:=bad (fun h=>hf (by have:=h.2.1;rw[qba,h0] at this;exact qx this));clear hk;simp(disch:=((try simp only[nx3]);omega)) [hli,h3i,h0,hb,zfr,hfi];exact zcz (by repeat' (first|assumption|exact zx _ _|apply zl|apply zy|apply z6| ((try simp only[nx3]);omega))) bad
  ·have h3i:(b.length:Int)<3:=by omega
   have bad:=bad (fun h=>h3 h.1);clear hk;simp(disch:=((try simp only[nx3]);omega)) [hli,h3i];exact zcz (by repeat' (first|assumption|exact zx _ _|apply zl|apply zy|apply z6| ((try simp only[nx3]);omega))) bad
end
section
variable {M:VM} {k kp:DV→VM→Prop} {n0:Nat}
end
end Go.Ideal.S
namespace Go.Ideal.S
open Go Go.Ideal
theorem parcelR_some {s:List UInt8} (h:(zb3 s).2=0):s.length≤80000∧ ∃x,zb3 s=(x,0)∧zjn x∧encPc x=s∧ ∃y,zR s 80=some y:=by
 unfold zb3 at h⊢
 split at h
 ·exact absurd h (by decide)
 ·rename_i hl;rw[if_neg hl]
  split at h
  ·rename_i x hx
   split at h
   ·rename_i hp;refine⟨by omega,x,by rw[if_pos hp],hp.1,hp.2,?_⟩;cases e:zR s 80 with
    |none=>rw[e] at hx;cases hx
    |some y=>exact⟨y,rfl⟩
   ·exact absurd h (by decide)
  ·exact absurd h (by decide)
theorem openR_some {s:List UInt8} (h:(zfY s).2=0):s.length≤80000∧ ∃x,zfY s=(x,0)∧zej x∧encLt x=s∧ ∃y,zR s 77=some y:=by
 unfold zfY at h⊢
 split at h
 ·exact absurd h (by decide)
 ·rename_i hl;rw[if_neg hl]
  split at h
  ·rename_i x hx
   split at h
   ·rename_i hp;refine⟨by omega,x,by rw[if_pos hp],hp.1,hp.2,?_⟩;cases e:zR s 77 with
    |none=>rw[e] at hx;cases hx
    |some y=>exact⟨y,rfl⟩
   ·exact absurd h (by decide)
  ·exact absurd h (by decide)
end Go.Ideal.S
set_option maxHeartbeats 4000000
namespace Go.Ideal.S
open Go Go.Ideal Q Classical
attribute [local simp] decide_eq_true decide_eq_false zI
section
variable {M M':VM} {k kp:DV→VM→Prop} {n0 j:Nat}
theorem back_fz {y:VM} {d:DV} {s:Nat} {rows:List (List DV)} (hw:M.Wf) (hL:Lb y d s rows) (hf: ∀i,i<M.next→Off d i):Frz y M d (.lst s rows):=by
 rcases hL.v with⟨rfl,e⟩| ⟨p,op,cap,h2,e,h4,_⟩
 ·rw[e];exact .nilS s
 ·rw[e] at hf⊢;have hp:M.next≤p:=qf fun h=>hf p (by omega) rfl;exact .ms0 h4 (hw p hp) rfl hL.row
structure Pr where
 f:Sv
 t:Sv
def ePr (p:Pr):List DV:=[I p.f.k,I p.f.n,I p.t.k,I p.t.n]
def PairV (p:Pr):Prop:=zb7 p.f∧zb7 p.t∧p.f.k=p.t.k
def zjf (l:List Pr):Prop:= ∀i (hi:i<l.length),PairV l[i]∧ ∀p∈l.take i,p.f≠l[i].f
def othV (l:List Pr) (v:Sv):Sv:=match l.find? fun p=>decide (p.f=v) with|some p=>p.t|none=>v
noncomputable def tabR (b:List UInt8):Option (List Sv×List UInt8):=if(zb3 b).2=0∨(zfY b).2=0 then zR b (b.headD 0) else none
noncomputable def zf0 (b:List UInt8):List Sv×Int:=if 80000<b.length then([],3) else match tabR b with|some x=>(x.1,0)|none=>([],4)
noncomputable def renR (b:List UInt8) (l:List Pr):List UInt8×Int:=if 80000<b.length∨100<l.length then([],3) else if zjf l then match tabR b with
 |some x=>if(x.1.map (othV l)).Nodup then(sealB (b.headD 0::zu (zbK (x.1.map (othV l)))++x.2),0) else([],7)
 |none=>([],4) else([],2)
theorem zeX {b:List UInt8} {f:UInt8} {y:List Sv×List UInt8} (h:zR b f=some y):b.head? =some f∧tabN ((b.take (b.length - 2)).drop 1)=some y:=by
 unfold zR at h
 split at h
 ·rename_i a;exact⟨a.2.1,h⟩
 ·cases h
theorem tabR_of {b:List UInt8} (h:(zb3 b).2=0∨(zfY b).2=0): ∃t r x xs,tabR b=some (t,r)∧zR b x=some (t,r)∧b=x::xs∧b.length≤80000:=by
 have key: ∀f y,zR b f=some y→b.length≤80000→ ∃t r x xs,tabR b=some (t,r)∧zR b x=some (t,r)∧b=x::xs∧b.length≤80000:=fun f y hy hl=>by
  obtain⟨h1,_⟩:=zeX hy
  match b,h1 with
  |x::xs,h1=>
   cases h1;exact⟨y.1,y.2,_,xs,by unfold tabR;rw[if_pos h];exact hy,hy,rfl,hl⟩
 rcases h with h|h
 ·obtain⟨hl,x,_,_,_,y,hy⟩:=parcelR_some h;exact key 80 y hy hl
 ·obtain⟨hl,x,_,_,_,y,hy⟩:=openR_some h;exact key 77 y hy hl
theorem tabR_no {b:List UInt8} (h1: ¬(zb3 b).2=0) (h2: ¬(zfY b).2=0):tabR b=none:=by
 unfold tabR;rw[if_neg (by rintro(h|h)<;>contradiction)]
theorem zlz {l:List UInt8} {t:List Sv} {r:List UInt8} (h:tabN l=some (t,r)): ∀v∈t,zeb v:=by
 unfold tabN at h;cases h1:zbn l with
 |none=>rw[h1] at h;cases h
 |some x=>
  rw[h1,qe] at h;refine repN_all (P:=zeb) (L:=x.2.length) (fun l v r hl e=> ?_) _ _ _ _ _ (qh _) (fun x hx=>by cases hx) h;have a:=pairN_lt e;have b:=pairN_le e;exact⟨⟨⟨a.1,by omega⟩,a.2.2.1,by omega⟩,by omega⟩
theorem back_kn {e:Int} (h:SM M.next M M') (hk:k (.tup [.lst 2 [],St [],I e]) M):Back k M (.tup [.nilS,St [],I e]) M':=fun _=>by
 refine⟨_,?_,?_,h,hk⟩
 ·refine .tup rfl fun i d e a b=> ?_
  match i with
  |0=>cases a;cases b;exact .nilS 2
  |1=>cases a;cases b;exact .refl _
  |2=>cases a;cases b;exact .refl _
  |i+3=>simp at a
 ·refine .tup fun d hd=> ?_;simp only[List.mem_cons,List.not_mem_nil,or_false] at hd;rcases hd with rfl|rfl|rfl
  ·exact .lst nofun
  ·exact .str _
  ·exact .int _ _
theorem back_tab {y B:VM} {j:Nat} {t:List Sv} {r:List UInt8} {dn:DV} (h1:RdE B y j t r dn) (hB:M.next≤B.next) (hs:SM M.next M B) (hk:k (.tup [.lst 2 (t.map eSv),St r,I 0]) M):Back k M (.tup [dn,St r,I 0]) y:=fun hw=>by
 refine⟨.tup [.lst 2 (t.map eSv),St r,I 0],?_,?_,fun i hi=>(h1.sm i (by omega)).trans (hs i hi),hk⟩
 ·refine .tup rfl fun i d e a b=> ?_
  match i with
  |0=>cases a;cases b;exact back_fz hw h1.ln fun i hi=>h1.fn i (by omega)
  |1=>cases a;cases b;exact .refl _
  |2=>cases a;cases b;exact .refl _
  |i+3=>simp at a
 ·refine .tup fun d hd=> ?_;simp only[List.mem_cons,List.not_mem_nil,or_false] at hd;rcases hd with rfl|rfl|rfl
  ·exact .lst (mapb b_Sv _)
  ·exact .str _
  ·exact .int _ _
attribute [local simp] c_9 f_9 r_9_1 r_9_2 r_9_3 r_9_4 r_9_5 r_9_6 r_9_7 r_9_8 r_9_9 r_9_10 c_bu f_bu r_bu_1 r_bu_2 r_bu_3
theorem known_ok (b:List UInt8) (h3:80000<b.length→k (.tup [.lst 2 [],St [],I 3]) M) (h4: ¬80000<b.length→tabR b=none→k (.tup [.lst 2 [],St [],I 4]) M) (h0: ∀t r,¬80000<b.length→tabR b=some (t,r)→k (.tup [.lst 2 (t.map eSv),St r,I 0]) M):ze F (.fn n_9 [] []) [St b] M k kp:=by
 have wL: ∀x:Pc,zq [.nilS,.nilS,.nilS] 0 (ePc x)=some (ePc x):=fun x=>rfl;have wL2: ∀x:Lt,zq [I 0,.nilS] 0 (eLt x)=some (eLt x):=fun x=>rfl;apply ze.back;refine .fn h_wire_known rfl (by simp[f_9]) ?_;by_cases hl:80000<b.length
 ·have hli:(80000:Int)<b.length:=by omega
  simp(disch:=((try simp only[nx3]);omega)) [hli];exact back_kn (by repeat' (first|assumption|exact zx _ _|apply zl|apply zy|apply z6| ((try simp only[nx3]);omega))) (h3 hl)
 ·have hli: ¬(80000:Int)<b.length:=by omega
  have h4:=h4 hl;have h0:=fun t r=>h0 t r hl;have tk:= @tabR_of b;have tn:= @tabR_no b;simp(disch:=((try simp only[nx3]);omega)) [hli];refine Parcel_ok b ?_;by_cases hp:(zb3 b).2=0
  ·obtain⟨t,r,x,xs,e1,e2,e3,e4⟩:=tk (.inl hp);have h0:=h0 t r e1;have hix:b[0]? =some x:=by rw[e3];rfl
   simp(disch:=((try simp only[nx3]);omega)) [wL,hp,hix];refine zjq b x (by omega) (fun M1 j t' r' dn e5 r1=> ?_) (fun M1 e5 _=>absurd (e2.symm.trans e5) nofun);have e6:=e2.symm.trans e5;cases e6;have oj:=r1.oj;simp(disch:=((try simp only[nx3]);omega)) [oj];exact back_tab r1 (by simp;omega) (zl (zy (by repeat' (first|assumption|exact zx _ _|apply zl|apply zy|apply z6| ((try simp only[nx3]);omega))) (qh _)) (qh _)) h0
  ·simp(disch:=((try simp only[nx3]);omega)) [wL,hp];refine Open_ok b ?_;by_cases ho:(zfY b).2=0
   ·obtain⟨t,r,x,xs,e1,e2,e3,e4⟩:=tk (.inr ho);have h0:=h0 t r e1;have hix:b[0]? =some x:=by rw[e3];rfl
    simp(disch:=((try simp only[nx3]);omega)) [wL2,ho,hix];refine zjq b x (by omega) (fun M1 j t' r' dn e5 r1=> ?_) (fun M1 e5 _=>absurd (e2.symm.trans e5) nofun);have e6:=e2.symm.trans e5;cases e6;have oj:=r1.oj;simp(disch:=((try simp only[nx3]);omega)) [oj];exact back_tab r1 (by simp;omega) (zl (zy (zl (zy (by repeat' (first|assumption|exact zx _ _|apply zl|apply zy|apply z6| ((try simp only[nx3]);omega))) (qh _)) (qh _)) (by simp;omega)) (by omega)) h0
   ·have h4:=h4 (tn hp ho);simp(disch:=((try simp only[nx3]);omega)) [wL2,ho];exact back_kn (zl (zy (zl (zy (by repeat' (first|assumption|exact zx _ _|apply zl|apply zy|apply z6| ((try simp only[nx3]);omega))) (qh _)) (qh _)) (by simp;omega)) (by omega)) h4
theorem Names_ok (b:List UInt8) (hk:k (.tup [.lst 2 ((zf0 b).1.map eSv),I (zf0 b).2]) M):ze F (.fn n_bu [] []) [St b] M k kp:=by
 unfold zf0 at hk;apply ze.back;refine .fn h_wire_Names rfl (by simp[f_bu]) ?_;simp(disch:=((try simp only[nx3]);omega));refine known_ok b (fun hl=> ?_) (fun hl ht=> ?_) (fun t r hl ht=> ?_)
 ·rw[if_pos hl] at hk;simp(disch:=((try simp only[nx3]);omega));exact Back.plain (.tup fun d hd=>by
   simp only[qp,qn,or_false] at hd;rcases hd with rfl|rfl
   ·exact .lst nofun
   ·exact .int _ _) (by repeat' (first|assumption|exact zx _ _|apply zl|apply zy|apply z6| ((try simp only[nx3]);omega))) hk
 ·rw[if_neg hl,ht] at hk;simp(disch:=((try simp only[nx3]);omega));exact Back.plain (.tup fun d hd=>by
   simp only[qp,qn,or_false] at hd;rcases hd with rfl|rfl
   ·exact .lst nofun
   ·exact .int _ _) (by repeat' (first|assumption|exact zx _ _|apply zl|apply zy|apply z6| ((try simp only[nx3]);omega))) hk
 ·rw[if_neg hl,ht] at hk;simp(disch:=((try simp only[nx3]);omega));exact Back.plain (.tup fun d hd=>by
   simp only[qp,qn,or_false] at hd;rcases hd with rfl|rfl
   ·exact .lst (mapb b_Sv _)
   ·exact .int _ _) (by repeat' (first|assumption|exact zx _ _|apply zl|apply zy|apply z6| ((try simp only[nx3]);omega))) hk
end
section
variable {M M':VM} {k kp:DV→VM→Prop} {n0 j:Nat}
def entP (l:List Pr):List (DV×DV):=l.map fun p=>(.agg (eSv p.f),.agg (eSv p.t))
def entS (l:List Sv):List (DV×DV):=l.map fun v=>(.agg (eSv v),.bool true)
theorem zkK (v:Sv): ∀l:List Pr,zeF (.leaves [0,1]) (.agg (eSv v)) (entP l)=some ((l.find? fun p=>decide (p.f=v)).map fun p=>.agg (eSv p.t))
 | []=>rfl
 |p::l=>by
  show((zM (.leaves [0,1]) (.agg (eSv v)) (.agg (eSv p.f))).bind fun b=>match b with|true=>some (some (.agg (eSv p.t)))|false=>zeF (.leaves [0,1]) (.agg (eSv v)) (entP l))=_;rw[zcF,qe];by_cases h:p.f=v
  ·rw[decide_eq_true h.symm,qbb (by simp[h])];rfl
  ·rw[decide_eq_false (fun e=>h e.symm),List.find?_cons_of_neg (by simp[h])];exact zkK v l
theorem set_entP (v:Sv) (x:DV): ∀l:List Pr,(∀p∈l,p.f≠v)→setD (.leaves [0,1]) (.agg (eSv v)) x (entP l)=some (entP l++[(.agg (eSv v),x)])
 | [],_=>rfl
 |p::l,h=>by
  show((zM (.leaves [0,1]) (.agg (eSv v)) (.agg (eSv p.f))).bind fun s=>match s with
   |true=>if zb2 (zt (.agg (eSv v))) (zt (.agg (eSv p.f)))=true then some ((.agg (eSv v),x)::entP l) else none
   |false=>(setD (.leaves [0,1]) (.agg (eSv v)) x (entP l)).map fun y=>(.agg (eSv p.f),.agg (eSv p.t))::y)=_
  rw[zcF,qe,decide_eq_false (fun e=>h p (qO ..) e.symm)];dsimp only;rw[set_entP v x l fun q hq=>h q (qbh _ hq)];rfl
theorem set_entS (v:Sv): ∀l:List Sv,setD (.leaves [0,1]) (.agg (eSv v)) (.bool true) (entS l)=some (entS (zcH l v))
 | []=>rfl
 |w::l=>by
  show((zM (.leaves [0,1]) (.agg (eSv v)) (.agg (eSv w))).bind fun s=>match s with
   |true=>if zb2 (zt (.agg (eSv v))) (zt (.agg (eSv w)))=true then some ((.agg (eSv v),.bool true)::entS l) else none
   |false=>(setD (.leaves [0,1]) (.agg (eSv v)) (.bool true) (entS l)).map fun y=>(.agg (eSv w),.bool true)::y)=_
  rw[zcF,qe];by_cases h:v=w
  ·subst h;rw[decide_eq_true rfl];dsimp only;rw[if_pos (by simp[zb2,zt,eSv,zei])];unfold zcH;rw[if_pos (qO ..)];rfl
  ·rw[decide_eq_false h];dsimp only;rw[set_entS v l];unfold zcH;by_cases hm:v∈l
   ·rw[if_pos hm,if_pos (qbh _ hm)];rfl
   ·rw[if_neg hm,if_neg (by simp;exact⟨h,hm⟩)];rfl
attribute [local simp] c_l f_l r_l_1 r_l_2 r_l_3 r_l_4 r_l_5 r_l_6 r_l_7 r_l_9 r_br c_br f_br r_br_1 r_br_2 r_br_3 r_br_4 r_br_5 r_br_6
theorem eachV_ok {f:DV} {l:List Sv} (g:Sv→Sv) (Inv:Nat→VM→Prop) (hl:l.length≤1000000) (h0:Inv 0 M) (hst: ∀i y y',Inv i y→M.next≤y.next→(∀q,q<M.next→y'.get q=y.get q)→y.next≤y'.next→Inv i y')
 (hf: ∀i (hi:i<l.length) {y:VM} {k:DV→VM→Prop},Inv i y→M.next≤y.next→(∀y',Inv (i+1) y'→y.next≤y'.next→(∀q,M.next≤q→q<y.next→y'.get q=y.get q)→k (.agg (eSv (g l[i]))) y')→ze F f [.agg (eSv l[i])] y k kp)
 (hk: ∀d' M',Inv l.length M'→M.next≤M'.next→Lb M' d' 2 ((l.map g).map eSv)→(∀q,q<M.next→Off d' q)→k d' M'):ze F (.fn n_l [] []) [.lst 2 (l.map eSv),f] M k kp:=by
 refine .fn zcm rfl (by simp[f_l]) ?_;simp(disch:=((try simp only[nx3]);omega));refine .for (σ:=VM×DV) c_l_8.eq_1 (fun i z=>[(5,z.2),(10,I i)]) (fun z=>z.1) (fun i z=>Inv i z.1∧M.next≤z.1.next∧Lb z.1 z.2 2 (((l.take i).map g).map eSv)∧ ∀q,q<M.next→Off z.2 q) l.length (M,.nilS) (by simp) rfl ⟨h0,qh _,.nil _ _,fun _ _=>trivial⟩ (fun i z hi hP again=> ?_) (fun z hP=> ?_)
 ·obtain⟨y,d⟩:=z;obtain⟨p1,p2,p3,p4⟩:=hP;dsimp only at*;rw[List.take_succ_eq_append_getElem hi] at again;have hf:= @hf i hi;generalize hx:l[i]=v at*;have wS: ∀(x:Sv) (a c:DV),zq [a,c] 0 (eSv x)=some (eSv x):=fun _ _ _=>rfl;simp(disch:=((try simp only[nx3]);omega)) [hi,hx,wS];obtain⟨Y1,hY⟩: ∃Y1,Y1=(y.new (.rows false 2 [[I 0,I 0]])).put y.next (.rows false 2 [eSv v]):=⟨_,rfl⟩;have n1:Y1.next=y.next+2:=by rw[hY];simp
  have kq: ∀q,q<y.next→Y1.get q=y.get q:=fun q hq=>by rw[hY,get_put,if_neg (by omega),get_new,if_neg (by omega)]
  rw[←hY];refine hf (hst i y _ p1 p2 (fun q hq=>kq q (by omega)) (by omega)) (by omega) fun y' i1 n2 k1=> ?_;have p3y:=(p3.keepA (M2:=Y1) (by omega) kq).keep n2 fun q hq hno=>k1 q (qf fun hc=>hno (p4 q (by omega))) hq;simp(disch:=((try simp only[nx3]);omega));refine zeQ (p3y.new _) (new:=[eSv (g v)]) (by simp) (by decide) (by simp) (by simp) (by simp;omega) fun d' M' hL hG=> ?_;have hG:=hG.pre;have nx:=hG.nx;have again:=again (M',d') ⟨hst (i+1) y' M' i1 (by omega) (fun q hq=>hG.kp q (by omega) (p4 q hq)) nx,by dsimp only;omega,by simpa using hL,fun q hq=>hG.of q (by omega) (p4 q hq)⟩;simp at again;simp(disch:=((try simp only[nx3]);omega));exact again
 ·obtain⟨y,d⟩:=z;obtain⟨p1,p2,p3,p4⟩:=hP;dsimp only at*;rw[qi] at p3;have hk:=hk d y p1 p2 p3 p4;simp(disch:=((try simp only[nx3]);omega));exact hk
theorem ren1_ok {q6 jm q14 js:Nat} {l:List Pr} {sn:List Sv} (v:Sv) (h1:M.obj q6=some (.rows false 1 [[.map jm]])) (h2:M.obj jm=some (.map (entP l))) (h3:M.obj q14=some (.rows false 1 [[.map js]])) (h4:M.obj js=some (.map (entS sn))) (l1:q6<M.next) (l2:jm<M.next) (l3:q14<M.next) (l4:js<M.next)
 (hk: ∀M',M.next≤M'.next→(∀q,q<M.next→q≠js→M'.get q=M.get q)→M'.obj js=some (.map (entS (zcH sn (othV l v))))→k (.agg (eSv (othV l v))) M'):ze F (.fn n_br [] [.ptr q6 0 0,.ptr q14 0 0]) [.agg (eSv v)] M k kp:=by
 have hl1:lkE (.leaves [0,1]) (.agg [I 0,I 0]) true (.agg (eSv v)) (some (entP l))=some (zbA (.agg [I 0,I 0]) true ((l.find? fun p=>decide (p.f=v)).map fun p=>.agg (eSv p.t))):=by
  show(match zM (.leaves [0,1]) (.agg (eSv v)) (.agg (eSv v)) with|some _=>(zeF (.leaves [0,1]) (.agg (eSv v)) (entP l)).map (zbA (.agg [I 0,I 0]) true)|none=>none)=_;rw[zcF,zkK];rfl
 have hu: ∀(w:Sv) (y:VM),y.obj js=some (.map (entS sn))→updD (.leaves [0,1]) y (.agg (eSv w)) (.bool true) (.map js)=some (y.put js (.map (entS (zcH sn w)))):=fun w y hy=>by
  show(y.obj js).bind _=_;rw[hy];show(zM (.leaves [0,1]) (.agg (eSv w)) (.agg (eSv w))).bind (fun _=>(setD (.leaves [0,1]) (.agg (eSv w)) (.bool true) (entS sn)).map fun es=>y.put js (.map es))=_;rw[zcF,set_entS];rfl
 have wS: ∀(x:Sv) (a c:DV),zq [a,c] 0 (eSv x)=some (eSv x):=fun _ _ _=>rfl;have wS2: ∀(x w:Sv),zq (eSv x) 0 (eSv w)=some (eSv w):=fun _ _=>rfl;unfold othV at hk;refine .fn zkF rfl (by simp[f_br]) ?_;cases hfd:l.find? (fun p=>decide (p.f=v)) with
 |none=>
  rw[hfd] at hl1 hk;dsimp only at hk;simp(disch:=((try simp only[nx3]);omega)) [h1,h2,h3,h4,hl1,zbA];rw[hu v]
  ·simp(disch:=((try simp only[nx3]);omega)) [wS];refine hk _ (by simp;omega) (fun q hq hne=> ?_) (by rw[zbb,if_neg (by omega),zbb,if_pos rfl]);rw[get_put,if_neg (by omega),get_put,if_neg hne,get_put,if_neg (by omega),get_new,if_neg (by simp;omega),get_new,if_neg (by simp;omega),get_new,if_neg (by omega)]
  ·simp(disch:=((try simp only[nx3]);omega)) [h4]
 |some p=>
  rw[hfd] at hl1 hk;dsimp only at hk;simp(disch:=((try simp only[nx3]);omega)) [h1,h2,h3,h4,hl1,zbA,wS,wS2];rw[hu p.t]
  ·simp(disch:=((try simp only[nx3]);omega)) [wS];refine hk _ (by simp;omega) (fun q hq hne=> ?_) (by rw[zbb,if_neg (by omega),zbb,if_pos rfl]);rw[get_put,if_neg (by omega),get_put,if_neg hne,get_put,if_neg (by omega),get_put,if_neg (by omega),get_new,if_neg (by simp;omega),get_new,if_neg (by simp;omega),get_new,if_neg (by omega)]
  ·simp(disch:=((try simp only[nx3]);omega)) [h4]
end
section
variable {M M':VM} {k kp:DV→VM→Prop} {n0 j:Nat}
theorem zkt: ∀(l acc:List Sv),acc.Nodup→(l.foldl zcH acc).length≤acc.length+l.length∧((l.foldl zcH acc).length=acc.length+l.length↔(acc++l).Nodup)
 | [],acc,h=>⟨by simp,by simp[h]⟩
 |v::l,acc,h=>by
  rw[qE];by_cases hv:v∈acc
  ·have e:zcH acc v=acc:=if_pos hv;rw[e];have ih:=zkt l acc h;refine⟨by have:=ih.1;simp;omega,fun e=> ?_,fun hn=> ?_⟩
   ·have:=ih.1;simp at e;omega
   ·exact absurd rfl ((qI.1 hn).2.2 v hv v (qO ..))
  ·have e:zcH acc v=acc++[v]:=if_neg hv;rw[e];have ih:=zkt l (acc++[v]) (qI.2 ⟨h,by simp,fun a ha b hb e=>hv (by rw[←qj.1 hb,←e];exact ha)⟩);rw[qv] at ih;simp only[qr,qK,qY,List.cons_append,List.nil_append] at ih⊢;exact⟨by omega,fun e=>ih.2.1 (by omega),fun hn=>by have:=ih.2.2 hn;omega⟩
theorem seen_dup (l:List Sv):(l.foldl zcH []).length<l.length↔ ¬l.Nodup:=by
 have h:=zkt l [] (by simp);simp only[qY,List.nil_append,Nat.zero_add] at h;constructor
 ·intro e hn;have:=h.2.2 hn;omega
 ·intro hn;have:(l.foldl zcH []).length≠l.length:=fun e=>hn (h.2.1 e);omega
theorem zlP {l:List Pr} (h:zjf l) {v:Sv} (hv:zeb v):zeb (othV l v):=by
 unfold othV
 split
 ·rename_i p hp;obtain⟨i,hi,rfl⟩:=List.getElem_of_mem (qS hp);exact(h i hi).1.2.1.small
 ·exact hv
attribute [local simp] c_u f_u r_u_2 r_u_3 r_u_4 r_u_5 r_u_6 r_u_7 r_u_8 r_u_9 r_u_10 r_u_11 r_u_12 r_u_14 r_u_15 r_u_16 r_u_17 r_u_18 r_u_19 r_u_20 r_u_21
attribute [local simp] r_br
theorem Rename_ok (b:List UInt8) (l:List Pr) (hk:k (.tup [St (renR b l).1,I (renR b l).2]) M):ze F (.fn n_u [] []) [St b,.lst 4 (l.map ePr)] M k kp:=by
 unfold renR at hk;apply ze.back;refine .fn h_wire_Rename rfl (by simp[f_u]) ?_;by_cases hl:80000<b.length
 ·have hli:(80000:Int)<b.length:=by omega
  rw[if_pos (.inl hl)] at hk;simp(disch:=((try simp only[nx3]);omega)) [hli];exact bpl hk
 have hli: ¬(80000:Int)<b.length:=by omega
 by_cases hl2:100<l.length
 ·have hl2i:(100:Int)<l.length:=by omega
  rw[if_pos (.inr hl2)] at hk;simp(disch:=((try simp only[nx3]);omega)) [hli,hl2i];exact bpl hk
 have hl2i: ¬(100:Int)<l.length:=by omega
 rw[if_neg (by rintro(h|h)<;>contradiction)] at hk;have bad: ¬zjf l→k (.tup [St [],I 2]) M:=fun h=>by rw[if_neg h] at hk;exact hk
 simp(disch:=((try simp only[nx3]);omega)) [hli,hl2i];refine .for (σ:=VM) c_u_13.eq_1 (fun i _=>[(27,I i)]) (fun z=>z) (fun i z=>SM M.next M z∧M.next+1<z.next∧z.obj M.next=some (.map (entP (l.take i)))∧z.obj (M.next+1)=some (.rows false 1 [[.map M.next]])∧ ∀j (hj:j<l.length),j<i→PairV l[j]∧ ∀p∈l.take j,p.f≠l[j].f) l.length _ (by simp) rfl ⟨zl (zy (zy (by repeat' (first|assumption|exact zx _ _|apply zl|apply zy|apply z6| ((try simp only[nx3]);omega))) (qh _)) (by simp)) (by omega),by simp,by simp[entP],by simp,fun j hj h=>by omega⟩ (fun i y hi hP again=> ?_) (fun y hP=> ?_)
 ·obtain⟨p1,p2,p3,p4,p5⟩:=hP;have hin:l.take (i+1)=l.take i++[l[i]]:=qb hi;rw[hin] at again;have bad2: ¬(PairV l[i]∧ ∀p∈l.take i,p.f≠l[i].f)→k (.tup [St [],I 2]) M:=fun h=>bad fun hh=>h (hh i hi);have good:(PairV l[i]∧ ∀p∈l.take i,p.f≠l[i].f)→ ∀j (hj:j<l.length),j<i+1→PairV l[j]∧ ∀p∈l.take j,p.f≠l[j].f:=fun h j hj hji=>by
   by_cases e:j=i
   ·subst e;exact h
   ·exact p5 j hj (by omega)
  clear bad hk;generalize hx:l[i]=p at*;have hl1:lkE (.leaves [0,1]) (.agg [I 0,I 0]) true (.agg [I p.f.k,I p.f.n]) (some (entP (l.take i)))=some (zbA (.agg [I 0,I 0]) true (((l.take i).find? fun q=>decide (q.f=p.f)).map fun q=>.agg (eSv q.t))):=by
   show(match zM (.leaves [0,1]) (.agg (eSv p.f)) (.agg (eSv p.f)) with|some _=>(zeF (.leaves [0,1]) (.agg (eSv p.f)) (entP (l.take i))).map (zbA (.agg [I 0,I 0]) true)|none=>none)=_;rw[zcF,zkK];rfl
  have wS: ∀(x:Sv) (a c:DV),zq [a,c] 0 (eSv x)=some (eSv x):=fun _ _ _=>rfl;have t4:zcD 4 (ePr p)=some [I p.f.k,I p.f.n,I p.t.k,I p.t.n]:=rfl;have wP:zq [I 0,I 0,I 0,I 0] 0 [I p.f.k,I p.f.n,I p.t.k,I p.t.n]=some [I p.f.k,I p.f.n,I p.t.k,I p.t.n]:=rfl;cases hfd:(l.take i).find? (fun q=>decide (q.f=p.f)) with
  |some q=>
   rw[hfd] at hl1;have bad:=bad2 fun h=>h.2 q (qS hfd) (by simpa using List.find?_some hfd);clear again;simp(disch:=((try simp only[nx3]);omega)) [hi,hx,p3,p4,hl1,zbA,wS,wP,t4];exact Back.plain (by simp) (zl (zy (zl (zy p1 (by omega)) (by omega)) (by simp;omega)) (by omega)) bad
  |none=>
   rw[hfd] at hl1;have hnf: ∀q∈l.take i,q.f≠p.f:=fun q hq e=>by
    have:=qP.1 hfd q hq;simp at this;exact this e
   simp(disch:=((try simp only[nx3]);omega)) [hi,hx,p3,p4,hl1,zbA,wS,wP,t4];obtain⟨Y1,hY⟩: ∃Y1,Y1=((((y.new (.rows false 4 [[I 0,I 0,I 0,I 0]])).put y.next (.rows false 4 [[I p.f.k,I p.f.n,I p.t.k,I p.t.n]])).new (.rows false 2 [[I 0,I 0]])).put (y.next+1+1) (.rows false 2 [[I 0,I 0]])):=⟨_,rfl⟩;have n1:Y1.next=y.next+4:=by rw[hY];simp
   have k1: ∀q,q<y.next→Y1.get q=y.get q:=fun q hq=>by rw[hY,get_put,if_neg (by omega),get_new,if_neg (by simp;omega),get_put,if_neg (by omega),get_new,if_neg (by omega)]
   have o8:Y1.obj y.next=some (.rows false 4 [[I p.f.k,I p.f.n,I p.t.k,I p.t.n]]):=by rw[hY,zbb,if_neg (by omega),zbl _ (by simp;omega),zbb,if_pos rfl]
   have sm:SM M.next M Y1:=fun q hq=>(k1 q (by omega)).trans (p1 q hq);have o6:Y1.obj (M.next+1)=some (.rows false 1 [[.map M.next]]):=by
    show(Y1.get _).map _=_;rw[k1 _ p2];exact p4
   have oM:Y1.obj M.next=some (.map (entP (l.take i))):=by
    show(Y1.get _).map _=_;rw[k1 _ (by omega)];exact p3
   rw[←hY];refine name_ok p.f ?_;by_cases a1:zb7 p.f
   ·rw[decide_eq_true a1];simp(disch:=((try simp only[nx3]);omega)) [o8];refine name_ok p.t ?_;by_cases a2:zb7 p.t
    ·rw[decide_eq_true a2];by_cases a3:p.f.k=p.t.k
     ·have good:=good ⟨⟨a1,a2,a3⟩,hnf⟩;have hs:=set_entP p.f (.agg (eSv p.t)) (l.take i) hnf;have hu:updD (.leaves [0,1]) Y1 (.agg [I p.f.k,I p.f.n]) (.agg [I p.t.k,I p.t.n]) (.map M.next)=some (Y1.put M.next (.map (entP (l.take i++[p])))):=by
       show(Y1.obj M.next).bind _=_;rw[oM];show(zM (.leaves [0,1]) (.agg (eSv p.f)) (.agg (eSv p.f))).bind (fun _=>(setD (.leaves [0,1]) (.agg (eSv p.f)) (.agg (eSv p.t)) (entP (l.take i))).map fun es=>Y1.put M.next (.map es))=_;rw[zcF,hs];simp[entP]
      have again:=again (Y1.put M.next (.map (entP (l.take i++[p])))) ⟨zl sm (qh _),by simp;omega,by rw[zbb,if_pos rfl],by rw[zbb,if_neg (by omega)];exact o6,good⟩;have a3:=eq_true a3;simp at again;simp(disch:=((try simp only[nx3]);omega)) [o8,o6,a3,hu];exact again
     ·have bad:=bad2 fun h=>a3 h.1.2.2;clear again;simp(disch:=((try simp only[nx3]);omega)) [o8,a3];exact Back.plain (by simp) sm bad
    ·have bad:=bad2 fun h=>a2 h.1.2.1;clear again;rw[decide_eq_false a2];simp(disch:=((try simp only[nx3]);omega));exact Back.plain (by simp) sm bad
   ·have bad:=bad2 fun h=>a1 h.1.1;clear again;rw[decide_eq_false a1];simp(disch:=((try simp only[nx3]);omega));exact Back.plain (by simp) sm bad
 ·obtain⟨p1,p2,p3,p4,p5⟩:=hP;rw[List.take_length] at p3;have pv:zjf l:=fun i hi=>p5 i hi hi;rw[if_pos pv] at hk;clear bad p5;simp(disch:=((try simp only[nx3]);omega));refine known_ok b (fun h=>absurd h hl) (fun _ ht=> ?_) (fun t r _ ht=> ?_)
  ·rw[ht] at hk;simp(disch:=((try simp only[nx3]);omega));exact Back.plain (by simp) p1 hk
  ·have hacc:(zb3 b).2=0∨(zfY b).2=0:=qf fun h=>by
    unfold tabR at ht;rw[if_neg h] at ht;cases ht
   obtain⟨t',r',x,xs,e1,e2,e3,e4⟩:=tabR_of hacc;rw[ht] at e1;cases e1;rw[ht] at hk;dsimp only at hk;have hle:=zdp e2;have hsm:=zlz (zeX e2).2;have hix:b[0]? =some x:=by rw[e3];rfl
   have hhd:b.headD 0=x:=by rw[e3];rfl
   rw[hhd] at hk;simp(disch:=((try simp only[nx3]);omega));obtain⟨Z,hZ⟩: ∃Z,Z=((y.new (.map [])).new (.rows false 1 [[.nilM]])).put (y.next+1) (.rows false 1 [[.map y.next]]):=⟨_,rfl⟩;have n1:Z.next=y.next+3:=by rw[hZ];simp
   have k1: ∀q,q<y.next→Z.get q=y.get q:=fun q hq=>by rw[hZ,get_put,if_neg (by omega),get_new,if_neg (by simp;omega),get_new,if_neg (by omega)]
   have z1:Z.obj y.next=some (.map (entS [])):=by rw[hZ,zbb,if_neg (by omega),zbl _ (by simp)];simp[entS]
   have z2:Z.obj (y.next+1)=some (.rows false 1 [[.map y.next]]):=by rw[hZ,zbb,if_pos rfl]
   have z3:Z.obj (M.next+1)=some (.rows false 1 [[.map M.next]]):=by
    show(Z.get _).map _=_;rw[k1 _ p2];exact p4
   have z4:Z.obj M.next=some (.map (entP l)):=by
    show(Z.get _).map _=_;rw[k1 _ (by omega)];exact p3
   rw[←hZ];refine eachV_ok (othV l) (fun i z=>z.obj y.next=some (.map (entS (((t.take i).map (othV l)).foldl zcH [])))∧(∀q,q<Z.next→q≠y.next→z.get q=Z.get q)) (by omega) ⟨z1,fun _ _ _=>rfl⟩ (fun i u u' hI hn hq hn'=> ?_) (fun i hi {u} {k'} hI hn cont=> ?_) (fun d M1 hI hn hL hf=> ?_)
   ·obtain⟨a,c⟩:=hI;refine⟨?_,fun q h1 h2=>(hq q h1).trans (c q h1 h2)⟩;show(u'.get _).map _=_;rw[hq _ (by omega)];exact a
   ·obtain⟨a,c⟩:=hI;have w2:u.obj (y.next+1)=some (.rows false 1 [[.map y.next]]):=by
     show(u.get _).map _=_;rw[c _ (by omega) (by omega)];exact z2
    have w3:u.obj (M.next+1)=some (.rows false 1 [[.map M.next]]):=by
     show(u.get _).map _=_;rw[c _ (by omega) (by omega)];exact z3
    have w4:u.obj M.next=some (.map (entP l)):=by
     show(u.get _).map _=_;rw[c _ (by omega) (by omega)];exact z4
    refine ren1_ok t[i] w3 w4 w2 a (by omega) (by omega) (by omega) (by omega) fun M2 g1 g2 g3=>cont M2 ⟨?_,fun q h1 h2=>(g2 q (by omega) h2).trans (c q h1 h2)⟩ g1 fun q h1 h2=>g2 q h2 (by omega);rw[qb hi,List.map_append,qA];exact g3
   ·obtain⟨a,c⟩:=hI;rw[qi] at a;have w2:M1.obj (y.next+1)=some (.rows false 1 [[.map y.next]]):=by
     show(M1.get _).map _=_;rw[c _ (by omega) (by omega)];exact z2
    have sm:SM M.next M M1:=fun q hq=>by rw[c q (by omega) (by omega),k1 q (by omega)];exact p1 q hq
    have hlen:(entS ((t.map (othV l)).foldl zcH [])).length=((t.map (othV l)).foldl zcH []).length:=by simp[entS]
    have hdup:=seen_dup (t.map (othV l));have hsn: ∀v∈t.map (othV l),zeb v:=fun v hv=>by
     obtain⟨u,hu,rfl⟩:=qbk.1 hv;exact zlP pv (hsm u hu)
    have htl:(t.map (othV l)).length=t.length:=by simp
    generalize t.map (othV l)=now at*;generalize now.foldl zcH []=sn at*;by_cases hd:now.Nodup
    ·rw[if_pos hd] at hk;have hns: ¬((entS sn).length:Int)<now.length:=by rw[hlen];intro h;exact hdup.1 (by omega) hd
     have hhl:(zu (zbK now)).length≤10+20*now.length:=by
      have h1:=zhz now hsn;have h2:=zX now.length (by have:=big1;omega);have e:zu (zbK now)=numB now.length++tabB now:=by unfold zbK;rw[zdj];rfl
      rw[e,qr];omega
     simp(disch:=((try simp only[nx3]);omega)) [w2,a,hL.len,hns,hix];refine head_ok x hL hsn (by omega) fun d2 M2 h2 n2 k2 f2=> ?_;simp(disch:=((try simp only[nx3]);omega));refine zeQ h2 (new:=r.map eB) (by simp[zbs,zkY,eB]) (by decide) (mapc c_B _) (mapl n_B _) (by simp;omega) fun d3 M3 hL3 hG3=> ?_;simp(disch:=((try simp only[nx3]);omega));refine sealed_ok (l:=x::zu (zbK now)++r) (by simpa using hL3) (by simp;omega) fun M4 n4 k4=> ?_;simp(disch:=((try simp only[nx3]);omega));refine Back.plain (by simp) (fun q hq=> ?_) hk;rw[k4 q (by have:=hG3.nx;omega) (hG3.of q (by omega) (f2 q (by omega))),hG3.kp q (by omega) (f2 q (by omega)),k2 q (by omega)];exact sm q hq
    ·rw[if_neg hd] at hk;have hns:((entS sn).length:Int)<now.length:=by rw[hlen];have:=hdup.2 hd;omega
     simp(disch:=((try simp only[nx3]);omega)) [w2,a,hL.len,hns];exact Back.plain (by simp) sm hk
end
section
variable {M M':VM} {k kp:DV→VM→Prop} {n0 j:Nat}
theorem zjz (e:List UInt8): ∀(f u a:Nat) (l:List UInt8) (n:Nat) (r:List UInt8),getA f u a l=some (n,r)→getA f u a (l++e)=some (n,r++e)
 |0,_,_,_,_,_,h=>by cases h
 |_+1,_,_,[],_,_,h=>by cases h
 |f+1,u,a,x::l,n,r,h=>by
  show(if x.toNat<128 then some (a+x.toNat*u,l++e) else getA f (u*128) (a+x.toNat%128*u) (l++e))=_;have h:(if x.toNat<128 then some (a+x.toNat*u,l) else getA f (u*128) (a+x.toNat%128*u) l)=_:=h;by_cases hx:x.toNat<128
  ·rw[if_pos hx] at h⊢;cases h;rfl
  ·rw[if_neg hx] at h⊢;exact zjz e f _ _ l n r h
theorem manyN_app (e:List UInt8) {l:List UInt8} {n:Nat} {r:List UInt8} (h:zbn l=some (n,r)):zbn (l++e)=some (n,r++e):=by
 unfold zbn at h⊢;cases h1:getN l with
 |none=>rw[h1] at h;cases h
 |some x=>
  rw[h1,qe] at h;have h2:getN (l++e)=some (x.1,x.2++e):=zjz e 5 1 0 l x.1 x.2 h1;rw[h2,qe]
  split at h
  ·rename_i hl;cases h;rw[if_pos (by rw[qr];dsimp only at hl⊢;omega)]
  ·cases h
theorem repN_app {α:Type} {f:List UInt8→Option (α×List UInt8)} (e:List UInt8) (hf: ∀l x r,f l=some (x,r)→f (l++e)=some (x,r++e)): ∀(n:Nat) (a:List α) (l:List UInt8) (b:List α) (r:List UInt8),repN f n a l=some (b,r)→repN f n a (l++e)=some (b,r++e)
 |0,a,l,b,r,h=>by cases h;rfl
 |n+1,a,l,b,r,h=>by
  rw[zcR] at h⊢;cases h1:f l with
  |none=>rw[h1] at h;cases h
  |some x=>
   rw[h1,qe] at h;rw[hf l x.1 x.2 h1,qe];exact repN_app e hf n _ _ b r h
theorem pairN_app (e:List UInt8) (l:List UInt8) (x:Sv) (r:List UInt8) (h:zcS l=some (x,r)):zcS (l++e)=some (x,r++e):=by
 unfold zcS at h⊢;cases h1:getN l with
 |none=>rw[h1] at h;cases h
 |some y=>
  rw[h1,qe] at h;have h2:getN (l++e)=some (y.1,y.2++e):=zjz e 5 1 0 l y.1 y.2 h1;rw[h2,qe];cases h3:getN y.2 with
  |none=>rw[h3] at h;cases h
  |some z=>
   rw[h3] at h;have h4:getN (y.2++e)=some (z.1,z.2++e):=zjz e 5 1 0 y.2 z.1 z.2 h3;dsimp only;rw[h4];cases h;rfl
theorem tabN_app (e:List UInt8) {l:List UInt8} {t:List Sv} {r:List UInt8} (h:tabN l=some (t,r)):tabN (l++e)=some (t,r++e):=by
 unfold tabN at h⊢;cases h1:zbn l with
 |none=>rw[h1] at h;cases h
 |some x=>
  rw[h1,qe] at h;rw[manyN_app e (n:=x.1) (r:=x.2) h1,qe];exact repN_app e (pairN_app e) _ _ _ _ _ h
theorem tab_all {b:List UInt8} {x:UInt8} {t:List Sv} {r:List UInt8} (h:zR b x=some (t,r)):3≤b.length∧tabN (b.drop 1)=some (t,r++b.drop (b.length - 2)):=by
 have h3:3≤b.length:=by
  unfold zR at h
  split at h
  ·rename_i a;exact a.1
  ·cases h
 have h2:=(zeX h).2;refine⟨h3,?_⟩;have e:b.drop 1=(b.take (b.length - 2)).drop 1++b.drop (b.length - 2):=by
  conv=>lhs;rw[←qbd (b.length - 2) b]
  rw[qM (by rw[qJ];omega)]
 rw[e];exact tabN_app _ h2
attribute [local simp] c_Q f_Q r_Q_1 r_Q_2 r_Q_3 r_Q_4 r_Q_5 r_Q_6 r_Q_7 r_Q_8 c_r f_r r_r_1 r_r_2 r_r_3 r_r_4 r_r_5 r_r_6 r_r_7 r_r_8 r_r_9 r_r_10 r_r_12 r_r_14 c_S f_S r_S_1 r_S_2 r_S_3 r_S_4 r_S_5 r_S_6 r_S_8
theorem rNames_ok (b:List UInt8) (hk: ∀M' d,M.next≤M'.next→SM M.next M M'→Lb M' d 2 ((zf0 b).1.map eSv)→(∀q,q<M.next→Off d q)→k (.tup [d,I (zf0 b).2]) M'):ze F (.fn n_Q [] []) [St b] M k kp:=by
 have wL: ∀x:Pc,zq [.nilS,.nilS,.nilS] 0 (ePc x)=some (ePc x):=fun x=>rfl;have wL2: ∀x:Lt,zq [I 0,.nilS] 0 (eLt x)=some (eLt x):=fun x=>rfl;unfold zf0 at hk;refine .fn zgd rfl (by simp[f_Q]) ?_;by_cases hl:80000<b.length
 ·have hli:(80000:Int)<b.length:=by omega
  rw[if_pos hl] at hk;simp(disch:=((try simp only[nx3]);omega)) [hli];exact hk M .nilS (qh _) (by repeat' (first|assumption|exact zx _ _|apply zl|apply zy|apply z6| ((try simp only[nx3]);omega))) (.nil _ _) fun _ _=>trivial
 ·have hli: ¬(80000:Int)<b.length:=by omega
  rw[if_neg hl] at hk;have tk:= @tabR_of b;have tn:= @tabR_no b;simp(disch:=((try simp only[nx3]);omega)) [hli];refine rParcel_ok b ?_;simp(disch:=((try simp only[nx3]);omega)) [wL];refine rOpen_ok b ?_;obtain⟨Z,hZ⟩: ∃Z,Z=(((M.new (.rows false 3 [[.nilS,.nilS,.nilS]])).put M.next (.rows false 3 [ePc (zb3 b).1])).new (.rows false 2 [[I 0,.nilS]])).put (M.next+1+1) (.rows false 2 [eLt (zfY b).1]):=⟨_,rfl⟩;have n1:Z.next=M.next+4:=by rw[hZ];simp
  have sm:SM M.next M Z:=by rw[hZ];exact zl (zy (zl (zy (by repeat' (first|assumption|exact zx _ _|apply zl|apply zy|apply z6| ((try simp only[nx3]);omega))) (qh _)) (qh _)) (by simp;omega)) (by omega)
  have ok:(∃t r x xs,tabR b=some (t,r)∧zR b x=some (t,r)∧b=x::xs∧b.length≤80000)→ ∀M1 j t dn,Qd (bas Z) M1 j b t dn ((tabN (b.drop 1)).map (·.2))→(∀m r,tabN (b.drop 1)=some (m,r)→t=m)→k (.tup [dn,I 0]) M1:=fun h M1 j t dn q1 he=>by
   obtain⟨t0,r,x,xs,e1,e2,e3,e4⟩:=h;obtain⟨_,e5⟩:=tab_all e2;have e6:=he _ _ e5;subst e6;rw[e1] at hk;obtain⟨a,q,h,_⟩:=q1;have hn: ∀i,i<Z.next→i<M1.next:=h.nx;have hs: ∀i,i<Z.next→M1.get i=Z.get i:=h.sm;have hf: ∀i,i<Z.next→Off dn i:=h.fn;exact hk M1 dn (by have:=hn M.next (by omega);omega) (fun i hi=>(hs i (by omega)).trans (sm i hi)) h.ln fun i hi=>hf i (by omega)
  by_cases hp:(zb3 b).2=0
  ·have tk:=tk (.inl hp);have hlen:3≤b.length:=by
    obtain⟨_,_,_,_,_,e2,_⟩:=tk;exact(tab_all e2).1
   have ok:=ok tk;clear hk;simp(disch:=((try simp only[nx3]);omega)) [wL2,hp];rw[←hZ];refine zfW b (by omega) (by omega) fun M1 j t dn q1 lt he1=> ?_;have ok:=ok M1 j t dn q1 he1;obtain⟨a,q,h,_⟩:=q1;have oj:=h.oj;simp(disch:=((try simp only[nx3]);omega)) [oj];exact ok
  ·by_cases ho:(zfY b).2=0
   ·have tk:=tk (.inr ho);have hlen:3≤b.length:=by
     obtain⟨_,_,_,_,_,e2,_⟩:=tk;exact(tab_all e2).1
    have ok:=ok tk;clear hk;simp(disch:=((try simp only[nx3]);omega)) [wL2,hp,ho];rw[←hZ];refine zfW b (by omega) (by omega) fun M1 j t dn q1 lt he1=> ?_;have ok:=ok M1 j t dn q1 he1;obtain⟨a,q,h,_⟩:=q1;have oj:=h.oj;simp(disch:=((try simp only[nx3]);omega)) [oj];exact ok
   ·rw[tn hp ho] at hk;clear ok;simp(disch:=((try simp only[nx3]);omega)) [wL2,hp,ho];rw[←hZ];exact hk Z .nilS (by omega) sm (.nil _ _) fun _ _=>trivial
theorem rpairs_ok (l:List Pr) (hl:l.length≤1000000) (hk:k (.bool (decide (zjf l))) M):ze F (.fn n_r [] []) [.lst 4 (l.map ePr)] M k kp:=by
 have t2: ∀p:Pr,zcD 2 (ePr p)=some (eSv p.f):=fun _=>rfl;have t3: ∀p:Pr,zcD 2 ((ePr p).drop 2)=some (eSv p.t):=fun _=>rfl;have bad: ¬zjf l→k (.bool false) M:=fun h=>by rw[decide_eq_false h] at hk;exact hk
 apply ze.back;refine .fn zf9 rfl (by simp[f_r]) ?_;simp(disch:=((try simp only[nx3]);omega));refine .for (σ:=Unit) c_r_13.eq_1 (fun i _=>[(3,I i)]) (fun _=>M) (fun i _=> ∀j (hj:j<l.length),j<i→PairV l[j]∧ ∀p∈l.take j,p.f≠l[j].f) l.length () (by simp) rfl (fun j hj h=>by omega) (fun i _ hi hP again=> ?_) (fun _ hP=> ?_)
 ·have bad2: ¬(PairV l[i]∧ ∀p∈l.take i,p.f≠l[i].f)→k (.bool false) M:=fun h=>bad fun hh=>h (hh i hi);have good:(PairV l[i]∧ ∀p∈l.take i,p.f≠l[i].f)→ ∀j (hj:j<l.length),j<i+1→PairV l[j]∧ ∀p∈l.take j,p.f≠l[j].f:=fun h j hj hji=>by
   by_cases e:j=i
   ·subst e;exact h
   ·exact hP j hj (by omega)
  clear bad hk;generalize hx:l[i]=p at*;have hp5:zck (.agg (eSv p.t))=true:=by simp[eSv]
  have hp6:zck (.agg (eSv p.f))=true:=by simp[eSv]
  simp(disch:=((try simp only[nx3]);omega)) [hi,hx,t2,t3,hp5,hp6];refine zjr p.f ?_;by_cases a1:zb7 p.f
  ·rw[decide_eq_true a1];simp(disch:=((try simp only[nx3]);omega)) [hi,hx,t2,t3,hp5,hp6];refine zjr p.t ?_;by_cases a2:zb7 p.t
   ·rw[decide_eq_true a2];by_cases a3:p.f.k=p.t.k
    ·have good:=fun h=>good ⟨⟨a1,a2,a3⟩,h⟩;have bad:=fun h: ¬(∀p'∈l.take i,p'.f≠p.f)=>bad2 fun hh=>h hh.2;have a3:=eq_true a3;simp(disch:=((try simp only[nx3]);omega)) [hi,hx,t2,t3,a3,ePr];refine .for (σ:=Unit) c_r_11.eq_1 (fun j _=>[(4,I j)]) (fun _=>M) (fun j _=> ∀p'∈l.take j,p'.f≠p.f) i () (by simp) rfl (by simp) (fun j _ hj hQ again2=> ?_) (fun _ hQ=> ?_)
     ·have hj2:j<l.length:=by omega
      have hm:l[j]∈l.take i:=by
       rw[qR];exact⟨j,by omega,rfl⟩
      rw[qb hj2] at again2;generalize hy:l[j]=u at*;have hp3:zck (.agg (eSv u.f))=true:=by simp[eSv]
      have hp4:zck (.agg (eSv p.f))=true:=by simp[eSv]
      by_cases hv:u.f=p.f
      ·have bad:=bad fun h=>h u hm hv;clear again again2;simp(disch:=((try simp only[nx3]);omega)) [hi,hj,hj2,hx,hy,t2,zcT,hp3,hp4,hv];exact bpl bad
      ·have again2:=again2 () (fun q hq=>by
        rcases qt.1 hq with hq|hq
        ·exact hQ q hq
        ·rw[qj.1 hq];exact hv)
       clear again;simp at again2;simp(disch:=((try simp only[nx3]);omega)) [hi,hj,hj2,hx,hy,t2,zcT,hp3,hp4,hv];exact again2
     ·have again:=again () (good hQ);simp at again;simp(disch:=((try simp only[nx3]);omega));exact again
    ·have bad:=bad2 fun h=>a3 h.1.2.2;clear again;simp(disch:=((try simp only[nx3]);omega)) [hi,hx,t2,t3,a3,ePr];exact bpl bad
   ·have bad:=bad2 fun h=>a2 h.1.2.1;clear again;rw[decide_eq_false a2];simp(disch:=((try simp only[nx3]);omega));exact bpl bad
  ·have bad:=bad2 fun h=>a1 h.1.1;clear again;rw[decide_eq_false a1];simp(disch:=((try simp only[nx3]);omega));exact bpl bad
 ·have pv:zjf l:=fun i hi=>hP i hi hi;rw[decide_eq_true pv] at hk;simp(disch:=((try simp only[nx3]);omega));exact bpl hk
theorem rOther_ok (v:Sv) (l:List Pr) (hl:l.length≤1000000) (hk:k (.agg (eSv (othV l v))) M):ze F (.fn n_S [] []) [.agg (eSv v),.lst 4 (l.map ePr)] M k kp:=by
 have wS: ∀(x:Sv) (a c:DV),zq [a,c] 0 (eSv x)=some (eSv x):=fun _ _ _=>rfl;unfold othV at hk;apply ze.back;refine .fn zgc rfl (by simp[f_S]) ?_;simp(disch:=((try simp only[nx3]);omega));refine .for (σ:=Unit) c_S_7.eq_1 (fun i _=>[(5,I i)]) (fun _=>(M.new (.rows false 2 [eSv v])).new (.rows false 2 [[I 0,I 0]])) (fun i _=> ∀p∈l.take i,p.f≠v) l.length () (by simp) rfl (by simp) (fun i _ hi hP again=> ?_) (fun _ hP=> ?_)
 ·rw[qb hi] at again;have hsub:l.take (i+1)=l.take i++[l[i]]:=qb hi;have hfnd:l[i].f=v→(l.find? fun p=>decide (p.f=v))=some l[i]:=fun e=>by
   have h1:l=l.take i++l[i]::l.drop (i+1):=by
    conv=>lhs;rw[←qbd (i+1) l,hsub]
    simp
   conv=>lhs;rw[h1]
   rw[List.find?_append,qP.2 (fun p hp=>by simpa using hP p hp),Option.none_or,qbb (by simp[e])]
  have t2: ∀p:Pr,zcD 2 (ePr p)=some (eSv p.f):=fun _=>rfl;have t3: ∀p:Pr,zcD 2 ((ePr p).drop 2)=some (eSv p.t):=fun _=>rfl;generalize hx:l[i]=p at*;have hp3:zck (.agg (eSv p.f))=true:=by simp[eSv]
  have hp4:zck (.agg (eSv v))=true:=by simp[eSv]
  by_cases hv:p.f=v
  ·rw[hfnd hv] at hk;clear again;simp(disch:=((try simp only[nx3]);omega)) [hi,hx,t2,t3,zcT,hp3,hp4,hv,wS];exact Back.plain (.agg (b_Sv _)) (zl (zy (zy (by repeat' (first|assumption|exact zx _ _|apply zl|apply zy|apply z6| ((try simp only[nx3]);omega))) (qh _)) (by simp)) (by omega)) hk
  ·have again:=again () (fun q hq=>by
    rcases qt.1 hq with hq|hq
    ·exact hP q hq
    ·rw[qj.1 hq];exact hv)
   simp at again;simp(disch:=((try simp only[nx3]);omega)) [hi,hx,t2,zcT,hp3,hp4,hv];exact again
 ·rw[qi] at hP;rw[qP.2 (fun p hp=>by simpa using hP p hp)] at hk;simp(disch:=((try simp only[nx3]);omega)) [wS];exact Back.plain (.agg (b_Sv _)) (zl (zy (zy (by repeat' (first|assumption|exact zx _ _|apply zl|apply zy|apply z6| ((try simp only[nx3]);omega))) (qh _)) (by simp)) (by omega)) hk
end
section
variable {M M':VM} {k kp:DV→VM→Prop} {n0 j:Nat}
theorem Lb.setAt {d:DV} {s:Nat} {rows:List (List DV)} (h:Lb M d s rows) {i:Nat} {r:List DV} (hr:r.length=s) {q cap:Nat} {op:Bool} (h2:q<M.next) (e:d=.ms q 0 rows.length cap) (h5:op=true∧cap=zc∨op=false∧cap=rows.length∧cap<zc):Lb (M.put q (.rows op s (rows.set i r))) d s (rows.set i r):=by
 refine⟨fun x hx=> ?_,.inr ⟨q,op,cap,by simp;omega,by rw[qZ];exact e,by simp,by rw[qZ];exact h5⟩⟩;rcases List.mem_or_eq_of_mem_set hx with hx|rfl
 ·exact h.row x hx
 ·exact hr
def zkA (t:List Sv) (i:Nat):List Nat:=t.length::(t.take i).flatMap fun v=>[v.k.toNat,v.n.toNat]
theorem headP_all (t:List Sv):zkA t t.length=zbK t:=by unfold zkA zbK;rw[qi]
theorem headP_one (t:List Sv) {i:Nat} (hi:i<t.length):zkA t (i+1)=zkA t i++[t[i].k.toNat,t[i].n.toNat]:=by
 unfold zkA;rw[qb hi,List.flatMap_append];simp
theorem headP_len (t:List Sv) (i:Nat):(zkA t i).length≤1+2*t.length:=by
 unfold zkA;rw[qK,List.length_flatMap];have: ∀t:List Sv,(t.map fun v=>([v.k.toNat,v.n.toNat]:List Nat).length).sum=2*t.length:=by
  intro t
  induction t with
  |nil=>rfl
  |cons v t ih=>simp only[List.map_cons,List.sum_cons,qK,qY] at ih⊢;omega
 rw[this,qJ];have:=Nat.min_le_right i t.length;omega
attribute [local simp] c_h f_h r_h_1 r_h_2 r_h_3 r_h_4 r_h_5 r_h_6 r_h_7 r_h_8 r_h_9 r_h_10 r_h_11 r_h_12 r_h_13 r_h_14 r_h_15 r_h_16 r_h_17 r_h_18 r_h_20 r_h_21 r_h_23 r_h_24
theorem rRename_ok (b:List UInt8) (l:List Pr) (hk:k (.tup [St (renR b l).1,I (renR b l).2]) M):ze F (.fn n_h [] []) [St b,.lst 4 (l.map ePr)] M k kp:=by
 unfold renR at hk;apply ze.back;refine .fn zfI rfl (by simp[f_h]) ?_;by_cases hl:80000<b.length
 ·have hli:(80000:Int)<b.length:=by omega
  rw[if_pos (.inl hl)] at hk;simp(disch:=((try simp only[nx3]);omega)) [hli];exact bpl hk
 have hli: ¬(80000:Int)<b.length:=by omega
 by_cases hl2:100<l.length
 ·have hl2i:(100:Int)<l.length:=by omega
  rw[if_pos (.inr hl2)] at hk;simp(disch:=((try simp only[nx3]);omega)) [hli,hl2i];exact bpl hk
 have hl2i: ¬(100:Int)<l.length:=by omega
 rw[if_neg (by rintro(h|h)<;>contradiction)] at hk;simp(disch:=((try simp only[nx3]);omega)) [hli,hl2i];refine rpairs_ok l (by omega) ?_;by_cases pv:zjf l
 ·rw[decide_eq_true pv];rw[if_pos pv] at hk;simp(disch:=((try simp only[nx3]);omega));refine rNames_ok b fun M1 d n1 sm1 hL1 hf1=> ?_;unfold zf0 at hL1⊢;rw[if_neg hl] at hL1⊢;cases ht:tabR b with
  |none=>
   rw[ht] at hk;dsimp only;simp(disch:=((try simp only[nx3]);omega));exact Back.plain (by simp) sm1 hk
  |some tr=>
   obtain⟨t,r⟩:=tr;have hacc:(zb3 b).2=0∨(zfY b).2=0:=qf fun h=>by
    unfold tabR at ht;rw[if_neg h] at ht;cases ht
   obtain⟨t',r',x,xs,e1,e2,e3,e4⟩:=tabR_of hacc;rw[ht] at e1;cases e1;rw[ht] at hk hL1;dsimp only at hk hL1⊢;obtain⟨hb3,e5⟩:=tab_all e2;have hle:=zdp e2;have hsm:=zlz (zeX e2).2;have hhd:b.headD 0=x:=by rw[e3];rfl
   have hb1:b.take 1=[x]:=by rw[e3];rfl
   rw[hhd] at hk;clear hhd ht hacc;simp(disch:=((try simp only[nx3]);omega)) [hL1.len];refine zeQ (Lb.nil _ 1) (new:=[eN t.length]) (by simp[eN]) (by decide) (by simp[eN]) (by simp[eN]) (by simp) fun d2 M2 hL2 hG2=> ?_;have hG2:=hG2.pre;have n2:=hG2.nx;have k2: ∀q,q<M1.next→M2.get q=M1.get q:=fun q hq=>hG2.kp q hq trivial;have f2: ∀q,q<M1.next→Off d2 q:=fun q hq=>hG2.of q hq trivial;have hL1':Lb M2 d 2 (t.map eSv):=hL1.keepA n2 k2;have hdl: ∀q,¬Off d q→q<M1.next:=fun q hq=>hL1.ltN hq;clear hL1 hG2;have hsn: ∀v∈t.map (othV l),zeb v:=fun v hv=>by
    obtain⟨u,hu,rfl⟩:=qbk.1 hv;exact zlP pv (hsm u hu)
   obtain⟨now,hnow⟩: ∃now,now=t.map (othV l):=⟨_,rfl⟩;have hnl:now.length=t.length:=by rw[hnow];simp
   rw[←hnow] at hk hsn;have hhp0:[eN t.length]=(zkA now 0).map eN:=by unfold zkA;rw[hnl];simp
   simp(disch:=((try simp only[nx3]);omega));refine .for (σ:=VM×DV×List Sv) c_h_22.eq_1 (fun i z=>[(8,z.2.1),(9,I i)]) (fun z=>z.1) (fun i z=>SM M.next M z.1∧M1.next≤z.1.next∧Lb z.1 d 2 (z.2.2.map eSv)∧Lb z.1 z.2.1 1 ((zkA now i).map eN)∧(∀q,q<M1.next→Off z.2.1 q)∧z.2.2.length=t.length∧(∀j,j<i→z.2.2[j]? =now[j]?)∧(∀j,i≤j→z.2.2[j]? =t[j]?)∧(now.take i).Nodup) t.length (M2,d2,t) (by simp) rfl ⟨fun q hq=>(k2 q (by omega)).trans (sm1 q hq),n2,hL1',by rw[←hhp0];simpa using hL2,f2,rfl,fun j hj=>absurd hj (Nat.not_lt_zero _),fun _ _=>rfl,by simp⟩ (fun i z hi hP again=> ?_) (fun z hP=> ?_)
   ·obtain⟨y,o,R⟩:=z;obtain⟨p1,p2,p3,p4,p5,p6,p7,p8,p9⟩:=hP;dsimp only at*;have hiR:i<R.length:=by omega
    have hin:i<now.length:=by omega
    have hRi:R[i]=t[i]:=by
     have:=p8 i (qh _);rw[qd hiR,qd hi] at this;exact qx this
    have hni:now[i]=othV l t[i]:=by simp[hnow]
    rcases p3.v with⟨e,_⟩| ⟨q,op,cap,h2,e,h4,h5⟩
    ·have:=congrArg List.length e;simp at this;rw[this] at hiR;simp at hiR
    subst e;have hqd:=hdl q (by simp[Off]);generalize hv:t[i]=v at*;generalize hw:othV l v=w at*;have wS2: ∀(x w:Sv),zq (eSv x) 0 (eSv w)=some (eSv w):=fun _ _=>rfl;simp(disch:=((try simp only[nx3]);omega)) [hi,hiR,h4,hRi,hv,p6];refine rOther_ok v l (by omega) ?_;rw[hw];simp(disch:=((try simp only[nx3]);omega)) [hi,hiR,h4,wS2];obtain⟨R',hR'⟩: ∃R',R'=R.set i w:=⟨_,rfl⟩;have hRl:R'.length=t.length:=by rw[hR',qZ];exact p6
    have hset:(R.map eSv).set i (eSv w)=R'.map eSv:=by rw[hR',List.map_set]
    rw[hset];have hL3:Lb (y.put q (.rows op 2 (R'.map eSv))) (.ms q 0 t.length cap) 2 (R'.map eSv):=by
     have:=p3.setAt (i:=i) (r:=eSv w) (by simp) h2 (by rw[qq]) h5;rw[hset] at this;rw[qq] at this
     rwa [p6] at this
    have hLo:Lb (y.put q (.rows op 2 (R'.map eSv))) o 1 ((zkA now i).map eN):=p4.put (p5 q hqd) _;have oY:(y.put q (.rows op 2 (R'.map eSv))).obj q=some (.rows op 2 (R'.map eSv)):=by simp
    have smY:SM M.next M (y.put q (.rows op 2 (R'.map eSv))):=zl p1 (qf fun hc=>hf1 q (by omega) rfl);have nY:M1.next≤(y.put q (.rows op 2 (R'.map eSv))).next:=by simp;omega
    have r1: ∀j,j<i+1→R'[j]? =now[j]?:=fun j hj=>by
     rw[hR',qbn];by_cases e:i=j
     ·subst e;rw[if_pos rfl,if_pos hiR,qd hin,hni]
     ·rw[if_neg e];exact p7 j (by omega)
    have r2: ∀j,i+1≤j→R'[j]? =t[j]?:=fun j hj=>by
     rw[hR',qbn,if_neg (by omega)];exact p8 j (by omega)
    have hiR':i<R'.length:=by omega
    have hRi':R'[i]=w:=by
     have:=r1 i (by omega);rw[qd hiR',qd hin,hni] at this;exact qx this
    have hsw:=hsn w (by rw[←hni];exact ql hin);have hone:=headP_one now hin;rw[hni] at hone;have hnin:=hnow;clear hset hR' hRi p3 p4 h4 hnow;generalize y.put q (.rows op 2 (R'.map eSv))=Y at*;have hp4:zck (.agg (eSv w))=true:=by simp[eSv]
    refine .for (σ:=Unit) c_h_19.eq_1 (fun j _=>[(10,I j)]) (fun _=>Y) (fun j _=>w∉now.take j) i () (by simp) rfl (by simp) (fun j _ hj hQ again2=> ?_) (fun _ hQ=> ?_)
    ·have hjn:j<now.length:=by omega
     have hjR:j<R'.length:=by omega
     have hjt:j<t.length:=by omega
     have hRj:R'[j]=now[j]:=by
      have:=r1 j (by omega);rw[qd hjR,qd hjn] at this;exact qx this
     rw[qb hjn] at again2;have hdup:now[j]=w→ ¬now.Nodup:=fun e hn=>by
      have:=List.pairwise_iff_getElem.1 hn j i hjn hin hj;rw[hni] at this;exact this e
     generalize now[j]=u at*;have hp3:zck (.agg (eSv u))=true:=by simp[eSv]
     by_cases hu:u=w
     ·rw[if_neg (hdup hu)] at hk;clear again again2;simp(disch:=((try simp only[nx3]);omega)) [hi,hj,hjt,hjR,hiR',hRj,hRi',oY,zcT,hp3,hp4,hu];exact Back.plain (by simp) smY hk
     ·have again2:=again2 () (fun hq=>by
       rcases qt.1 hq with hq|hq
       ·exact hQ hq
       ·exact hu (qj.1 hq).symm)
      clear again;simp at again2;simp(disch:=((try simp only[nx3]);omega)) [hi,hj,hjt,hjR,hiR',hRj,hRi',oY,zcT,hp3,hp4,hu];exact again2
    ·have hnd:(now.take (i+1)).Nodup:=by
      rw[qb hin,hni];exact qI.2 ⟨p9,by simp,fun a ha b hb e=>hQ (by rw[←qj.1 hb,←e];exact ha)⟩
     obtain⟨⟨s1,s2⟩,s3,s4⟩:=hsw;have hk1:((w.k.toNat:Nat):Int)=w.k:=by omega
     have hk2:((w.n.toNat:Nat):Int)=w.n:=by omega
     simp(disch:=((try simp only[nx3]);omega)) [hi,hiR',hRi',oY,eSv];have hhl:=headP_len now i;refine zg0 (hLo.new _) (new:=[[I w.k],[I w.n]]) (by simp) (by decide) (by simp) (by simp) (by simp;omega) fun d' M' hL hG=> ?_;have hG:=hG.pre;have nx:=hG.nx;have hLd:Lb M' (.ms q 0 t.length cap) 2 (R'.map eSv):=hL3.keep nx fun a ha hno=>hG.kp a ha (p5 a (hdl a hno));have again:=again (M',d',R') ⟨fun a ha=>(hG.kp a (by omega) (p5 a (by omega))).trans (smY a ha),by dsimp only;omega,by dsimp only;rw[qq,p6];exact hLd,by rw[hone];simpa[eN,hk1,hk2] using hL,fun a ha=>hG.of a (by omega) (p5 a ha),hRl,r1,r2,hnd⟩;simp[p6] at again;simp(disch:=((try simp only[nx3]);omega));exact again
   ·obtain⟨y,o,R⟩:=z;obtain⟨p1,p2,p3,p4,p5,p6,p7,p8,p9⟩:=hP;dsimp only at*;rw[←hnl,headP_all] at p4;rw[←hnl,qi] at p9;rw[if_pos p9] at hk;have hhl:(zu (zbK now)).length≤10+20*now.length:=by
     have h1:=zhz now hsn;have h2:=zX now.length (by have:=big1;omega);have e:zu (zbK now)=numB now.length++tabB now:=by unfold zbK;rw[zdj];rfl
     rw[e,qr];omega
    have hb0:=zlu;have hsz: ∀n∈zbK now,n<2^62:=fun n hn=>by
     unfold zbK at hn;rcases qp.1 hn with rfl|hn
     ·omega
     ·obtain⟨v,hv,hn⟩:=List.mem_flatMap.1 hn;obtain⟨⟨s1,s2⟩,s3,s4⟩:=hsn v hv;simp at hn;omega
    have hll:(zbK now).length≤1+2*now.length:=by rw[←headP_all];exact headP_len now _
    simp(disch:=((try simp only[nx3]);omega)) [p3.len,p6];refine zg6 p4 hsz (by omega) (by omega) ?_;simp(disch:=((try simp only[nx3]);omega));refine zfW b (by omega) (by omega) fun M3 j t' dn q1 lt he1=> ?_;obtain⟨a,q,h,hS⟩:=q1;rw[e5] at hS;have oj:=h.oj;have al:=h.al;have sm3:SM M.next M M3:=fun i hi=>by
     have hs: ∀i,i<y.next→M3.get i=y.get i:=h.sm;rw[hs i (by omega)];exact p1 i hi
    cases q with
    |true=>cases hS
    |false=>
     have hS:some (r++b.drop (b.length - 2))=some (b.drop a):=hS;have hS:=qx hS;have hla:r.length+2=b.length - a:=by
      have:=congrArg List.length hS;simp only[qr,List.length_drop] at this;omega
     have hbr:(b.take (b.length - 2)).drop a=r:=by
      have e:b.length - 2=a+r.length:=by omega
      rw[e,←List.take_drop,←hS,qV];rfl
     have x1:zcb none (some (I 1)) (St b)=some (St [x]):=by rw[←hb1];exact zeV b .i64 1 (by omega)
     have x2:=zhA b .i64 .i64 a (b.length - 2) (by omega) (by omega);rw[hbr,show((b.length - 2:Nat):Int)=(b.length:Int) - 2 by omega] at x2;have x3: ∀ek,binD .add ek (St [x]) (St (zu (zbK now)))=some (St (x::zu (zbK now))):=fun ek=>zd9 _ _ (by simp;omega);have x4: ∀ek,binD .add ek (St (x::zu (zbK now))) (St r)=some (St (x::zu (zbK now)++r)):=fun ek=>zd9 _ _ (by simp;omega);have x5: ∀ek s,s.length≤100000000→binD .add ek (St s) (St (crc s))=some (St (sealB s)):=fun ek s hs=>zd9 _ _ (by rw[crc_len];omega);obtain⟨s,hs⟩: ∃s,s=x::zu (zbK now)++r:=⟨_,rfl⟩;have hss:x::zu (zbK now)++r=s:=hs.symm;have hsl:s.length≤100000000:=by rw[hs];simp;omega
     have x5:=fun ek=>x5 ek s hsl;rw[←hs] at hk;rw[hss] at x4;simp(disch:=((try simp only[nx3]);omega)) [oj,x1,x2,x3,x4];refine rsum_ok s (by omega) ?_;simp(disch:=((try simp only[nx3]);omega)) [x5];exact Back.plain (by simp) sm3 hk
 ·rw[decide_eq_false pv];rw[if_neg pv] at hk;simp(disch:=((try simp only[nx3]);omega));exact bpl hk
end
end Go.Ideal.S
set_option maxHeartbeats 2000000
namespace Go.Ideal.S
open Go Go.Ideal Q Classical
attribute [local simp] decide_eq_true decide_eq_false zI
variable {M:VM} {k kp:DV→VM→Prop} {n0:Nat}
theorem namesR_len (b:List UInt8):(zf0 b).1.length≤b.length:=by
 unfold zf0
 split
 ·simp
 ·cases ht:tabR b with
  |none=>simp
  |some x=>
   unfold tabR at ht
   split at ht
   ·exact(zdp (t:=x.1) (r:=x.2) ht).2
   ·cases ht
theorem rNames_f (b:List UInt8) (hk:k (.tup [.lst 2 ((zf0 b).1.map eSv),I (zf0 b).2]) M):ze F (.fn n_Q [] []) [St b] M k kp:=by
 apply ze.back;refine rNames_ok b fun M' d n sm hL hf hw=> ?_;refine⟨_,?_,?_,sm,hk⟩
 ·refine .tup rfl fun i d e a b=> ?_
  match i with
  |0=>cases a;cases b;exact back_fz hw hL hf
  |1=>cases a;cases b;exact .refl _
  |i+2=>simp at a
 ·refine .tup fun d hd=> ?_;simp only[List.mem_cons,List.not_mem_nil,or_false] at hd;rcases hd with rfl|rfl
  ·exact .lst (mapb b_Sv _)
  ·exact .int _ _
attribute [local simp] c_E f_E r_E_1 r_E_2 r_E_3 r_E_4 r_E_5 r_E_6 r_E_7 r_E_8
theorem tables_law (b:List UInt8) (l:List Pr) (hk:k (.bool true) M):ze F (.fn n_E [] []) [St b,.lst 4 (l.map ePr)] M k kp:=by
 apply ze.back;refine .fn zdO rfl (by simp[f_E]) ?_;by_cases h2:90000<b.length
 ·have h2i:(90000:Int)<b.length:=by omega
  simp(disch:=((try simp only[nx3]);omega)) [h2i];refine works_ok ?_;simp(disch:=((try simp only[nx3]);omega));exact bpl hk
 have h2i: ¬(90000:Int)<b.length:=by omega
 by_cases h1:120<l.length
 ·have h1i:(120:Int)<l.length:=by omega
  simp(disch:=((try simp only[nx3]);omega)) [h2i,h1i];refine works_ok ?_;simp(disch:=((try simp only[nx3]);omega));exact bpl hk
 ·have h1i: ¬(120:Int)<l.length:=by omega
  have hlen:=namesR_len b;simp(disch:=((try simp only[nx3]);omega)) [h2i,h1i];refine Names_ok b ?_;simp(disch:=((try simp only[nx3]);omega));refine rNames_f b ?_;simp(disch:=((try simp only[nx3]);omega));refine Rename_ok b l ?_;simp(disch:=((try simp only[nx3]);omega));refine rRename_ok b l ?_;simp(disch:=((try simp only[nx3]);omega));refine sameVals_ok _ (by omega) ?_;simp(disch:=((try simp only[nx3]);omega));refine works_ok ?_;simp(disch:=((try simp only[nx3]);omega));exact bpl hk
end Go.Ideal.S
set_option maxRecDepth 100000
set_option maxHeartbeats 4000000
namespace Go.Proofs.YtffbioplncclkaaGreat
open Go.ChangeShapes Go.WideShapes Go.RowKit Go.Ideal Go.Ideal.S
section
section
variable {H:Type} {enc:TypeId×Value→H} {W:World} {base b:Nat} {r:Reach} {held:Bool} {v:Value} {d:DataW H} {ps:List MemPlace}
theorem cP4:Tryz.prog.cellsOf 65=4:=by kernel_rfl
theorem pair_el {fuel:Nat} {cs:List Value} {x:DataW H×List MemPlace} (h:qu enc Tryz.prog W b (fun _=>true) held fuel 65 cs=some x): ∃a:Pr,LRel (impW W) (ePr a) (cs.map (impV W)):=by
 obtain⟨xs,n,_,_,hl,hlen,hf⟩:=DataW.trod_struct Tryz.underlying65 h;rw[cP4] at hl
 match cs,hl with
 | [c0,c1,c2,c3],_=>
   have e0:qu enc Tryz.prog W b (fun _=>true) held n 60 (([c0,c1,c2,c3].drop 0).take (Tryz.prog.cellsOf 60))=xs[0]?:=hf 0 _ rfl;have e1:qu enc Tryz.prog W b (fun _=>true) held n 60 (([c0,c1,c2,c3].drop 2).take (Tryz.prog.cellsOf 60))=xs[1]?:=hf 1 _ rfl;rw[cV2] at e0 e1
   match xs,hlen with
   | [y0,y1],_=>
     obtain⟨p,hp⟩:=zlA (show qu enc Tryz.prog W b (fun _=>true) held n 60 [c0,c1]=some y0 from e0);obtain⟨q,hq⟩:=zlA (show qu enc Tryz.prog W b (fun _=>true) held n 60 [c2,c3]=some y1 from e1);cases hp;cases hq;exact⟨⟨p,q⟩,by simp only[List.map_cons,List.map_nil,impV_int];exact LRel.cons (.int _ _) (LRel.cons (.int _ _) (LRel.cons (.int _ _) (LRel1 (.int _ _))))⟩
theorem pairs_in (hval:Value.okWide Tryz.prog W r base 45 v) (hd:DataW.Trod enc Tryz.prog W b (fun _=>true) held 45 v d ps):okArg W v=true∧ ∃l:List Pr,VRel (impW W) (.lst 4 (l.map ePr)) v:=by
 unfold Value.okWide at hval;rw[Tryz.underlying45] at hval;have hval:Cell.okWide Tryz.prog W r base 45 v:=hval;obtain⟨fuel,hd⟩:=hd;have hsl: ∃base len cap,v=.slice base len cap:=by
  unfold Cell.okWide at hval;rw[Tryz.underlying45] at hval;have h:Cell.ok Tryz.prog W r base 45 v:=hval;unfold Cell.ok at h;rw[Tryz.underlying45] at h;cases v<;>first|exact h.elim|exact⟨_,_,_,rfl⟩
 obtain⟨b0,len,cap,rfl⟩:=hsl;have hd:qu enc Tryz.prog W b (fun _=>true) held fuel 45 [.slice b0 len cap]=some (d,ps):=hd;have hok:=okV_of_slice Tryz.underlying45 (slice_ok Tryz.underlying45 hval) hd;obtain⟨l,hr⟩:=vrow_nested (e:=ePr) Tryz.underlying45 cP4 (by omega) (fun _=>rfl) (fun _ _ _ h=>pair_el h) hd;rw[impV_ok hok] at hr;exact⟨hok,l,hr⟩
end
end
section
theorem law_lifted (os:Os) (started:os.Started) (H:Type) (enc:TypeId×Value→H):
 ReturnsInHanded {} Tryz.checked os 5 .any (Rows.wireTablesSpec.pre6 enc Tryz.prog Tryz.f5 Rows.wireTablesRow.domain false) (Rows.wireTablesSpec.post enc Tryz.prog Tryz.f5 false true false false):=by
 refine returnsInHanded_of_change (C:=Tryz.checked) own started (by kernel_rfl) Tryz.func5
  (ChangeSpec.witness6 (enc:=enc) (C:=Tryz.checked) false ⟨#[],#[.string ⟨#[]⟩,.slice none 0 0],[]⟩ 8 (by kernel_rfl) (by kernel_rfl) (by kernel_rfl) (by kernel_rfl)) ?_
 intro W base args ds gs before hval0 hW hcnd _;have hval: ∀(j:Nat) t v,Tryz.f5.params[j]? =some t→args[j]? =some v→Value.okWide Tryz.prog W .any base t v:=hval0;have hW':=hW;obtain⟨p,q,hA0,hV0,rfl,hfz,hnd⟩:=hW;have hA:DataW.TrodAll enc Tryz.prog W 0 (fun _=>true) true Tryz.f5.params.toList args.toList ds p:=hA0;rw[Tryz.params5] at hA hval;obtain⟨v0,vs0,d0,ds0,q0,qs0,e0,rfl,rfl,h0,hr0⟩:=trodAll_cons hA;obtain⟨v1,vs1,d1,ds1,q1,qs1,e1,rfl,rfl,h1,hr1⟩:=trodAll_cons hr0;obtain⟨e2,rfl,rfl⟩:=trodAll_nil hr1;obtain rfl:args= #[v0,v1]:=by rw[←Array.toArray_toList (xs:=args),e0,e1,e2]
 obtain⟨x0,rfl⟩:=str_in (hval 0 9 v0 rfl rfl);obtain⟨o1,x1,r1⟩:=pairs_in (hval 1 45 v1 rfl rfl) h1;obtain⟨rfl,rfl⟩:=trodVars_none hV0;refine(v_calls Go.Ideal.X.hmix Go.Ideal.Y.okF (tables_law x0 x1 rfl) (fun v hv=>by
  simp only[qp,qn,or_false] at hv;rcases hv with rfl|rfl
  ·rfl
  ·exact o1) (LRel.cons (.str _) (LRel1 r1))).mono fun e W' ⟨he,hs⟩=>⟨_,he,?_⟩
 exact law_post hW' rfl rfl (t:=4) (by kernel_rfl) Tryz.underlying4 hs laidOut (fun t ht=>by
  rw[Tryz.params5] at ht;simp only[qp,qn,or_false] at ht;rcases ht with rfl|rfl<;>exact⟨by kernel_rfl,of_decide_eq_true (by kernel_rfl)⟩)
theorem tables_holds:Rows.WireTablesSaid:=
 OpenClaim.holds_of_wide 5 Tryz.f5 rfl rfl rfl rfl rfl rfl rfl ⟨rfl,rfl,rfl,rfl,rfl⟩ rfl rfl rfl rfl rfl (by kernel_rfl) Tryz.func5 (by kernel_rfl)
  (of_decide_eq_true (by kernel_rfl)) (by unfold Func.isWrapper;first| (rw[if_pos (by decide+kernel)];kernel_rfl)| (rw[if_neg (by decide+kernel)];exact⟨rfl,rfl⟩))
  (fun os started H enc _=>law_lifted os started H enc)
end
end Go.Proofs.YtffbioplncclkaaGreat
