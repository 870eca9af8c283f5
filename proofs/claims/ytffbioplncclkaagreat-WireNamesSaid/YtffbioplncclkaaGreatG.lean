/- WireNames: what is read of bytes with other names is what was read, with other names, and names exchanged back restore the bytes, at any parcel and any pairs. No condition. -/
import Derived.Test.YtffbioplncclkaaGreatProg
import Derived.Shelf.Spec.SlicesInsertGrow
import Derived.Test.YtffbioplncclkaaGreatRows
import Derived.RowKitTokens
import Derived.ChangeVars
import Derived.Stop.Joined
import Derived.Test.YtffbioplncclkaaGreatF
set_option linter.unusedSimpArgs false
set_option linter.unusedVariables false
set_option linter.unusedSectionVars false
set_option maxRecDepth 100000
open List renaming length_map→qd,take_succ_eq_append_getElem→qe,foldl_cons→qi,append_assoc→qj,getElem?_eq_getElem→qk,forall_mem_cons→ql,mem_map→qm,length_append→qn,mem_cons_of_mem→qo,take_length→qp,map_cons→qq,getElem?_append_left→qt,mem_cons_self→qu,mem_singleton→qv,length_cons→qw,getElem?_append_right→qx,mem_cons→qy,append_nil→qB,not_mem_nil→qC,map_append→qD,getElem?_eq_some_iff→qF,getElem_mem→qH,mem_append→qI,mem_filter→qJ,flatMap_cons→qK,foldl_append→qL,map_map→qM,mem_append_left→qO,getElem_of_mem→qQ,mem_of_find?_eq_some→qR,getElem?_take→qS,getElem?_drop→qT,find?_eq_none→qU,getElem?_map→qW,getElem_map→qX,map_nil→qZ,nodup_cons→qbb,nodup_append→qbd,mem_take_iff_getElem→qbe,pairwise_iff_getElem→qbf,drop_left'→qbi,length_nil→qbj,find?_cons_of_pos→qbk,mem_append_right→qbn,mem_of_mem_drop→qbp,size_toArray→qbs,cons_append→qbx
open Nat renaming le_refl→qf,eq_of_beq_eq_true→qY,add_assoc→qbc,add_zero→qbg,le_of_ble_eq_true→qbl,div_lt_iff_lt_mul→qbm,mul_le_mul_right→qbo,min_def→qbv
open Go.DataW renaming trod→qg,trod_struct→qE,trod_slice→qbw
open Option renaming bind_some→qh,bind_eq_some_iff→qbh
open Go.Builtin renaming zeroCells→qr,copy_→qP,firstCells→qbr,append_→qby
open Classical renaming byContradiction→qA
open Go.World renaming cell?_drew→qG,cell?_alloc_lt→qbq,cells?_some→qbt,cell?→qbu
open Go.IntKind renaming wrap_i64→qN
open Go renaming run_storeCells_at→qV
open Go.Value renaming okWide→qba
namespace Go.Proofs.YtffbioplncclkaaGreat
open Go.RowKit Go.Lib Go.Shelf
section
theorem mixed:Tryz.prog.follows .mixedOrders=true:=by kernel_rfl
theorem z63: ∀w,(Go.sizeOf 73).run Tryz.prog w=.ok 3 w:=fun w=>by kernel_rfl
theorem u44:Tryz.prog.underlying 84=some (.slice 73):=Tryz.underlying84
set_option maxHeartbeats 8000000 in
theorem ins_shift (b off n c i vb voff vc:Nat) (w W1 W2:World) (hi:i<n) (hroom:n+1≤c) (hn63:n≤1000000000000) (hvb:vb≠b)
 (tA tB:TypeId) (kA kB:Nat) (hsa:w.shape? vb=some (tA,kA)) (hsb:w.shape? b=some (tB,kB)) (hkB:kB≠0) (hfa:w.frozen? ⟨vb,voff,none⟩=false) (hfe:w.frozen? ⟨vb,kA,none⟩=false)
 (hcp1: ∀ty dc sc,(qP #[84,84] ty #[.slice (some ⟨b,off+(i+1)*3,none⟩) (n - i) dc,.slice (some ⟨b,off+i*3,none⟩) (n+1 - i) sc]).run Tryz.prog w.drew=.ok (goInt ((n - i:Nat):Int)) W1)
 (hcp2: ∀ty dc,(qP #[84,84] ty #[.slice (some ⟨b,off+i*3,none⟩) (n+1 - i) dc,.slice (some ⟨vb,voff,none⟩) 1 vc]).run Tryz.prog W1=.ok (goInt 1) W2):
 Calls Tryz.prog 83 #[.slice (some ⟨b,off,none⟩) n c,.int .i64 i,.slice (some ⟨vb,voff,none⟩) 1 vc] w fun e w'=>
  e=.returned (.slice (some ⟨b,off,none⟩) (n+1) c)∧w'=W2:=by
 have hz2: ¬((i:Int)=(n:Int)):=by omega
 have hov: ∀lb cb,(callFunc 149 #[.slice (some ⟨vb,voff,none⟩) 1 vc,.slice (some ⟨b,off+(i+1)*3,none⟩) lb cb]).run Tryz.prog w=.ok (.value (.bool false)) w:=fun lb cb=>by
  rw[run_callFunc_extern Tryz.func149 (by kernel_rfl) (by kernel_rfl) (by kernel_rfl) (e:=Extern.SlicesOverlaps.overlaps #[84,84] #[4]) (by kernel_rfl),
   Lib.run_overlaps_apart w 84 4 73 u44 3 z63 ⟨vb,voff,none⟩ ⟨b,off+(i+1)*3,none⟩ 1 vc lb cb hvb tA tB kA kB hsa hsb hkB hfa hfe]
  rfl
 have mixed:=mixed;have hw1:IntKind.i64.wrap ((i:Int)+1)=(i:Int)+1:=by rw[qN];omega
 have hw2:IntKind.i64.wrap ((n:Int)+1)=(n:Int)+1:=by rw[qN];omega
 have hb1:(0:Int)≤(i:Int)+1:=by omega
 have hin:i≤n:=by omega
 have htn:((i:Int)+1).toNat=i+1:=by omega
 have htn2:((n:Int)+1).toNat=n+1:=by omega
 have hb2: ¬(c=i+1):=by omega
 have hb3:(i:Int)≤(n:Int)+1:=by omega
 have hb4: ¬(c=i):=by omega
 have z63:=z63
 go_enter Tryz.func83,Tryz.ntmps83
 go_wp2_with (simp only[hov])
 go_region_law_o (refine step_copy_runI rfl _ _ 84 84 rfl _ _ (by simp[Act.eval,Act.put]) (by simp[Act.eval,Act.put]) (hcp1 _ _ _) ?_)
 go_wp2_with (at_builtin;refine wpList_copy_runI _ rfl _ _ 84 84 rfl _ _ rfl rfl (hcp2 _ _) ?_)
 go_ret
 exact⟨rfl,rfl⟩
end
section
set_option maxHeartbeats 8000000 in
theorem ins_grow (b off n c i vb voff vc N G:Nat) (w W1 W2 W3:World) (hi:i<n) (hnc:n≤c) (hroom:c<n+1) (hn63:n≤1000000000000) (hG:n+1≤G) (hG63:G≤9223372036854775807)
 (hap: ∀ty,(qby #[84,3] ty #[.slice (some ⟨b,off,none⟩) i c,.int .i64 ((n:Int)+1 - (i:Int))]).run Tryz.prog w=.ok (.slice (some ⟨N,0,none⟩) (n+1) G) W1)
 (hcpA: ∀ty dc,(qP #[84,84] ty #[.slice (some ⟨N,i*3,none⟩) (n+1 - i) dc,.slice (some ⟨vb,voff,none⟩) 1 vc]).run Tryz.prog W1=.ok (goInt 1) W2)
 (hcpB: ∀ty dc sc,(qP #[84,84] ty #[.slice (some ⟨N,(i+1)*3,none⟩) (n - i) dc,.slice (some ⟨b,off+i*3,none⟩) (n - i) sc]).run Tryz.prog W2.drew=.ok (goInt ((n - i:Nat):Int)) W3):
 Calls Tryz.prog 83 #[.slice (some ⟨b,off,none⟩) n c,.int .i64 i,.slice (some ⟨vb,voff,none⟩) 1 vc] w fun e w'=>
  e=.returned (.slice (some ⟨N,0,none⟩) (n+1) G)∧w'=W3:=by
 have hz2: ¬((i:Int)=(n:Int)):=by omega
 have hz3:(c:Int)<(n:Int)+1:=by omega
 have mixed:=mixed;have hw1:IntKind.i64.wrap ((i:Int)+1)=(i:Int)+1:=by rw[qN];omega
 have hw2:IntKind.i64.wrap ((n:Int)+1)=(n:Int)+1:=by rw[qN];omega
 have hw3:IntKind.i64.wrap ((n:Int)+1 - (i:Int))=(n:Int)+1 - (i:Int):=by rw[qN];omega
 have hb1:(0:Int)≤(i:Int)+1:=by omega
 have hin:i≤n:=by omega
 have htn:((i:Int)+1).toNat=i+1:=by omega
 have htn2:((n:Int)+1).toNat=n+1:=by omega
 have hb3:(i:Int)≤(n:Int):=by omega
 have hGi: ¬(G=i):=by omega
 have hGim: ¬(G=i+1):=by omega
 have hci: ¬(c=i):=by omega
 have z63:=z63
 go_enter Tryz.func83,Tryz.ntmps83
 go_wp2_with (first
  | (at_builtin;refine Lib.wpList_append_run _ rfl _ _ _ _ rfl _ _ rfl rfl _ _ (hap _) ?_)
  | (at_builtin;refine wpList_copy_runI _ rfl _ _ 84 84 rfl _ _ rfl rfl (hcpA _ _) ?_))
 go_region_law_o (refine step_copy_runI rfl _ _ 84 84 rfl _ _ (by simp[Act.eval,Act.put]) (by simp[Act.eval,Act.put]) (hcpB _ _ _) ?_)
 go_wp2
 go_ret
 exact⟨rfl,rfl⟩
end
end Go.Proofs.YtffbioplncclkaaGreat
namespace Go.Proofs.YtffbioplncclkaaGreat
open Go.RowKit Go.Lib Go.Shelf Go.Ideal
section
theorem zje (w w':World) (d s:Addr) (dLen dc sLen sc k:Nat) (l:List Value) (ty:TypeId) (hk:Nat.min sLen dLen=k) (hl:l.length=k*3) (hsrc: ∀j v,l[j]? =some v→w.cell? (s.add j)=some v)
 (hst:(storeCells d l).run Tryz.prog w=.ok () w'):(qP #[84,84] ty #[.slice (some d) dLen dc,.slice (some s) sLen sc]).run Tryz.prog w=.ok (goInt k) w':=by
 have hld:=run_loadCells_list (P:=Tryz.prog) w s l hsrc;rw[hl] at hld;simp[qP,run_underlying u44,Builtin.lenOf,qbr,z63,hk,hld,hst]
def zgm (c:List Value) (p i:Nat) (vs tl:List Value):List Value:=
 let r1:=c.take (p+(i+1)*3)++tl++c.drop (p+(i+1)*3+tl.length)
 r1.take (p+i*3)++vs++r1.drop (p+i*3+vs.length)
theorem insRow_length {c:List Value} {p i:Nat} {vs tl:List Value} (hv:vs.length=3) (hf:p+(i+1)*3+tl.length≤c.length):(zgm c p i vs tl).length=c.length:=by
 unfold zgm;simp[hv];omega
theorem insRow_get {c:List Value} {p i n:Nat} {vs old:List Value} (hv:vs.length=3) (ho:old.length=n*3) (hi:i<n) (hf:p+(n+1)*3≤c.length) (hc: ∀j v,j<i*3→old[j]? =some v→c[p+j]? =some v)
 (j:Nat) (hj:j<(n+1)*3):(zgm c p i vs (old.drop (i*3)))[p+j]? =(old.take (i*3)++(vs++old.drop (i*3)))[j]?:=by
 have htl:(old.drop (i*3)).length=n*3 - i*3:=by simp[ho]
 unfold zgm;dsimp only;generalize hr1:(c.take (p+(i+1)*3)++old.drop (i*3)++c.drop (p+(i+1)*3+(old.drop (i*3)).length))=r1;have hl1:r1.length=c.length:=by rw[←hr1];simp[ho];omega
 have htk:(old.take (i*3)).length=i*3:=by simp[ho];omega
 by_cases h1:j<i*3
 ·rw[List.append_assoc,List.getElem?_append_left (by simp[hl1];omega),List.getElem?_take,if_pos (by omega),List.getElem?_append_left (by omega)];rw[←hr1,List.append_assoc,List.getElem?_append_left (by simp;omega),List.getElem?_take,if_pos (by omega)];have hlt:j<old.length:=by omega
  rw[hc j _ h1 (qk hlt),qS,if_pos h1,qk hlt]
 ·by_cases h2:j<i*3+3
  ·rw[List.append_assoc,List.getElem?_append_right (by simp[hl1];omega),List.getElem?_append_left (by simp[hl1];omega)];rw[List.getElem?_append_right (by omega),htk,List.getElem?_append_left (by omega)]
   congr 1;simp[hl1];omega
  ·rw[List.getElem?_append_right (by simp[hl1,hv];omega),List.getElem?_drop];have e:p+i*3+vs.length+(p+j - (r1.take (p+i*3)++vs).length)=p+j:=by simp[hl1,hv];omega
   rw[e,←hr1,qt (by simp[ho];omega),qx (by simp;omega)];rw[qx (by omega),htk,qx (by omega)]
   congr 1;simp[hv];omega
theorem cell_setRow {w:World} {g:Nat} {old cs:Array Value} {t:TypeId} {fr:Nat×Nat} (hg:w.heap[g]? =some (.cells old t fr)) {a:Addr} (hne:a.block≠g):(w.setRow g cs).cell? a=w.cell? a:=by
 rw[zbF w g old cs t fr hg];unfold qbu;rw[show({w with heap:=w.heap.setIfInBounds g (.cells cs t fr)}:World).heap[a.block]? =w.heap[a.block]? from by
  show(w.heap.setIfInBounds g _)[a.block]? =_;rw[Array.getElem?_setIfInBounds,if_neg (fun e=>hne e.symm)]]
theorem zlj {w:World} {g:Nat} {old cs:Array Value} {t:TypeId} {fr:Nat×Nat} (hg:w.heap[g]? =some (.cells old t fr)):(w.setRow g cs).heap[g]? =some (.cells cs t fr):=by
 rw[zbF w g old cs t fr hg];have:=(Array.getElem?_eq_some_iff.1 hg).1;show(w.heap.setIfInBounds g _)[g]? =_;simp[this]
theorem setRow_setRow {w:World} {g:Nat} {old c1 c2:Array Value} {t:TypeId} {fr:Nat×Nat} (hg:w.heap[g]? =some (.cells old t fr)):(w.setRow g c1).setRow g c2={w with heap:=w.heap.setIfInBounds g (.cells c2 t fr)}:=by
 rw[zbF _ g c1 c2 t fr (zlj hg),zbF w g old c1 t fr hg];simp
theorem cell_of {w:World} {g:Nat} {c:Array Value} {t:TypeId} {fr:Nat×Nat} (hg:w.heap[g]? =some (.cells c t fr)) (o:Nat):w.cell? ⟨g,o,none⟩=c[o]?:=by
 unfold qbu;simp[hg]
theorem VRL.three {ρ:Rho} {x y z:Value} {args:Array Value} (h:VRL ρ [x,y,z] args.toList): ∃x' y' z',args= #[x',y',z']∧VR ρ x x'∧VR ρ y y'∧VR ρ z z':=by
 obtain⟨x',l,e,h1,h2⟩:=h.cons_left;obtain⟨y',l2,rfl,h3,h4⟩:=h2.cons_left;obtain⟨z',l3,rfl,h5,h6⟩:=h4.cons_left;rw[h6.nil_left] at e;exact⟨x',y',z',by rw[←Array.toArray_toList (xs:=args),e],h1,h3,h5⟩
theorem plainRow_some {h:H} {i:Nat} (hp:plainRow h i=true): ∃cs e,h.get i=some (.cells cs e)∧e≠roE:=by
 unfold plainRow at hp
 split at hp
 ·rename_i cs e hg;exact⟨cs,e,hg,fun h=>by rw[h] at hp;simp at hp⟩
 ·cases hp
end
section
section
variable {ρ:Rho} {h:H} {w:World}
theorem shift_ok (hr:HR Tryz.prog ρ h w) {i0 o0 n cap' i:Nat} {R:RB} {cs old vs vs' old':List Value} {Rv:RB} {vo vc':Nat} (hR:ρ i0=some R) (ho:h.get i0=some (.cells cs 3)) (hl:n≤cap') (hs:R.base+o0+cap'*R.esz≤R.csize) (hi:i<n) (hle:n+1≤cap') (hn63:n≤1000000000000)
 (hvl:vs.length=3) (hvv:VRL ρ vs vs') (hcell:vs.all isCell=true) (hcv: ∀j v,vs'[j]? =some v→w.cell? ((⟨Rv.blk,Rv.base+vo,none⟩:Addr).add j)=some v) (hold:old.length=n*3) (hvo:VRL ρ old old')
 (hco: ∀j v,old'[j]? =some v→w.cell? ((⟨R.blk,R.base+o0,none⟩:Addr).add j)=some v) (hone: ∀u∈old',u.oneCell'=true)
 {cv:Array Value} {tv:TypeId} (hbv:w.heap[Rv.blk]? =some (.cells cv tv (0,0))) (hne:Rv.blk≠R.blk):
 Calls Tryz.prog 83 #[.slice (some ⟨R.blk,R.base+o0,none⟩) n cap',.int .i64 i,.slice (some ⟨Rv.blk,Rv.base+vo,none⟩) 1 vc'] w
  (zgU Tryz.prog ρ w (.val (zb3 (h.put i0 .dead) (n+1) 3 (old.take (i*3)++(vs++old.drop (i*3)))).1 (zb3 (h.put i0 .dead) (n+1) 3 (old.take (i*3)++(vs++old.drop (i*3)))).2)):=by
 obtain⟨q1,q2,c,t,fr,hb1,hfx,hsz,hfit,hget⟩:=hr.obj _ _ _ hR ho;obtain⟨hfx,rfl⟩:=hfx.resolve_right (fun h=>by have:=h.2;simp[roE] at this);rw[q1] at hs;have hvl':vs'.length=3:=by rw[←hvv.1];exact hvl
 have hol':old'.length=n*3:=by rw[←hvo.1];exact hold
 have hcl:c.toList.length=c.size:=by simp
 have hroom:R.base+o0+(n+1)*3≤c.size:=by rw[hsz];have:=qbo 3 hle;omega
 have honev:=one_of hvv hcell;have htl:(old'.drop (i*3)).length=n*3 - i*3:=by simp[hol']
 have hb1d:w.drew.heap[R.blk]? =some (.cells c t (0,0)):=hb1;have hbvd:w.drew.heap[Rv.blk]? =some (.cells cv tv (0,0)):=hbv;have hst1:=qV (P:=Tryz.prog) R.blk (R.base+o0+(i+1)*3) t (old'.drop (i*3)) 0 c w.drew hb1d (by rw[htl];omega) (fun v hv=>hone v (qbp hv));rw[qbg] at hst1;generalize hrow1:(c.toList.take (R.base+o0+(i+1)*3)++old'.drop (i*3)++c.toList.drop (R.base+o0+(i+1)*3+(old'.drop (i*3)).length))=row1 at hst1;have hrl1:row1.length=c.size:=by rw[←hrow1];simp[hol'];omega
 have hb2:=zlj (cs:=row1.toArray) hb1d;have hst2:=qV (P:=Tryz.prog) R.blk (R.base+o0+i*3) t vs' 0 row1.toArray (w.drew.setRow R.blk row1.toArray) hb2 (by simp[hrl1,hvl'];omega) honev;rw[qbg] at hst2;have hrow2:(row1.toArray.toList.take (R.base+o0+i*3)++vs'++row1.toArray.toList.drop (R.base+o0+i*3+vs'.length))=zgm c.toList (R.base+o0) i vs' (old'.drop (i*3)):=by
  unfold zgm;dsimp only;rw[hrow1]
 rw[hrow2,setRow_setRow hb1d] at hst2;have hrl2:(zgm c.toList (R.base+o0) i vs' (old'.drop (i*3))).length=c.size:=by rw[insRow_length hvl' (by rw[htl,hcl];omega),hcl]
 have hk1:n*3 - i*3=(n - i)*3:=by rw[←Nat.sub_mul]
 have hcall:=ins_shift R.blk (R.base+o0) n cap' i Rv.blk (Rv.base+vo) vc' w (w.drew.setRow R.blk row1.toArray) {w.drew with heap:=w.drew.heap.setIfInBounds R.blk (.cells (zgm c.toList (R.base+o0) i vs' (old'.drop (i*3))).toArray t (0,0))}
  hi hle hn63 hne tv t cv.size c.size (by unfold World.shape?;rw[hbv]) (by unfold World.shape?;rw[hb1]) (by omega) (by unfold World.frozen?;rw[hbv];simp) (by unfold World.frozen?;rw[hbv];simp)
  (fun ty dc sc=>zje w.drew _ _ _ (n - i) dc (n+1 - i) sc (n - i) (old'.drop (i*3)) ty (by simp only[qbv];split<;>omega) (by rw[htl,hk1]) (fun j v hj=>by
    rw[qT] at hj;have:=hco _ v hj;rw[Addr.add_mk] at this⊢;rw[qG,qbc];exact this) hst1)
  (fun ty dc=>zje _ _ _ _ (n+1 - i) dc 1 vc' 1 vs' ty (by simp only[qbv];split<;>omega) (by rw[hvl']) (fun j v hj=>by
    rw[cell_setRow hb1d (by rw[Addr.add_mk];exact hne),qG];exact hcv j v hj) hst2)
 refine hcall.mono ?_;rintro e w' ⟨rfl,rfl⟩;have hfree:=(hr.nxt _ (qf _)).1;have hLl:(old.take (i*3)++(vs++old.drop (i*3))).length=(n+1)*3:=by simp[hold,hvl];omega
 have hLr:VRL ρ (old.take (i*3)++(vs++old.drop (i*3))) (old'.take (i*3)++(vs'++old'.drop (i*3))):=(hvo.take _).append (hvv.append (hvo.drop _));have hblt:=hr.blk _ _ hR;obtain⟨g1,g2⟩:=hr.drew.steal (R':=⟨R.blk,R.base+o0,R.csize,3,(n+1)*3,none⟩) (io:=.cells (old.take (i*3)++(vs++old.drop (i*3))) 3) (o:=.cells (zgm c.toList (R.base+o0) i vs' (old'.drop (i*3))).toArray t) hR ho (by simp) hb1d (fun r hr=>by cases hr) (zbz _ _) (zbz _ _) rfl (by
  refine⟨rfl,hLl.symm,(zgm c.toList (R.base+o0) i vs' (old'.drop (i*3))).toArray,t,_,by simp[hblt],.inl ⟨rfl,rfl⟩,by simp[hrl2,hsz],by simp only[qbs,hrl2];rw[hLl];exact hroom,fun j x hj=> ?_⟩;have hjlt:j<(n+1)*3:=by rw[←hLl];exact(qF.1 hj).1
  obtain⟨y,hy,hyv⟩:=hLr.get hj;refine⟨y,?_,.inr (hyv.mono (zdg _ hfree))⟩;simp only[List.getElem?_toArray];rw[insRow_get hvl' hol' hi (by rw[hcl];exact hroom) (fun k v hk hkv=> ?_) j hjlt]
  ·exact hy
  ·have:=hco k v hkv;rw[Addr.add_mk,cell_of hb1] at this;rw[Array.getElem?_toList];exact this)
 have hvr:VR (upd ρ h.next ⟨R.blk,R.base+o0,R.csize,3,(n+1)*3,none⟩) (.slice (some ⟨h.next,0,none⟩) (n+1) zc) (.slice (some ⟨R.blk,R.base+o0+0,none⟩) (n+1) cap'):=by
  have h1:(n+1)*3≤cap'*3:=qbo _ hle;exact VR.sliceO (zH _ _ _) (by show 0<3;omega) hle (by show R.base+o0+0+cap'*3≤R.csize;omega) (by show(n+1)*3≤0+cap'*3;omega)
 exact⟨_,_,_,_,rfl,rfl,by simpa[zb3] using hvr,g1,(Ext.drew ρ w).trans g2⟩
end
theorem two_stores {A Z1 Z2 V D:List Value} {a v:Nat} (ha:A.length=a) (hv:V.length=v) (hz:Z1.length=v+D.length):
 let r1:=(A++Z1++Z2).take a++V++(A++Z1++Z2).drop (a+V.length)
 r1.length=(A++Z1++Z2).length∧r1.take (a+v)++D++r1.drop (a+v+D.length)=A++(V++D)++Z2:=by
 have e1:(A++Z1++Z2).take a=A:=by rw[qj];exact List.take_left' ha
 have e2:(A++Z1++Z2).drop (a+V.length)=Z1.drop v++Z2:=by
  rw[qj,←List.drop_drop,qbi ha,hv,List.drop_append_of_le_length (by omega)]
 intro r1;have e:r1=A++V++(Z1.drop v++Z2):=by show(A++Z1++Z2).take a++V++(A++Z1++Z2).drop (a+V.length)=_;rw[e1,e2]
 have e3:r1.take (a+v)=A++V:=by rw[e];exact List.take_left' (by simp[ha,hv])
 have e4:r1.drop (a+v+D.length)=Z2:=by
  rw[e,←List.drop_drop,qbi (by simp[ha,hv])];exact qbi (by simp[hz])
 refine⟨by rw[e];simp[hz,hv];omega,?_⟩;rw[e3,e4];simp
theorem ziL {w:World} {A B:Array Value} {t:TypeId}:(w.alloc (.cells A t)).setRow w.heap.size B=w.alloc (.cells B t):=by
 rw[zbF _ _ A B t (0,0) (zV _ _)];show({w with heap:=(w.heap.push (.cells A t)).setIfInBounds w.heap.size (.cells B t)}:World)={w with heap:=w.heap.push (.cells B t)}
 congr 1
 apply Array.ext_getElem?;intro j;by_cases hj:j=w.heap.size
 ·subst hj;simp
 ·rw[Array.getElem?_setIfInBounds,if_neg (fun e=>hj e.symm),Array.getElem?_push,Array.getElem?_push,if_neg hj,if_neg hj]
def zv63:Value:=.agg #[.int .i64 0,.int .i64 0,.slice none 0 0]
theorem i63:(Tryz.prog.info? 73).map (fun i=>(i.zero,i.size,i.bytes))=some (some zv63,3,40):=by kernel_rfl
section
variable {ρ:Rho} {h:H} {w:World}
theorem grow_ok (hr:HR Tryz.prog ρ h w) {i0 o0 n cap' i:Nat} {R:RB} {cs old vs vs' old':List Value} {Rv:RB} {vo vc':Nat} (hR:ρ i0=some R) (ho:h.get i0=some (.cells cs 3)) (hl:n≤cap') (hi:i<n) (hle: ¬n+1≤cap') (hbytes:(n+1)*40≤1073741824)
 (hvl:vs.length=3) (hvv:VRL ρ vs vs') (hcell:vs.all isCell=true) (hcv: ∀j v,vs'[j]? =some v→w.cell? ((⟨Rv.blk,Rv.base+vo,none⟩:Addr).add j)=some v) (hvlt:Rv.blk<w.heap.size) (hold:old.length=n*3) (hvo:VRL ρ old old')
 (hco: ∀j v,old'[j]? =some v→w.cell? ((⟨R.blk,R.base+o0,none⟩:Addr).add j)=some v) (hone: ∀u∈old',u.oneCell'=true):
 Calls Tryz.prog 83 #[.slice (some ⟨R.blk,R.base+o0,none⟩) n cap',.int .i64 i,.slice (some ⟨Rv.blk,Rv.base+vo,none⟩) 1 vc'] w
  (zgU Tryz.prog ρ w (.val (zb3 (h.put i0 .dead) (n+1) 3 (old.take (i*3)++(vs++old.drop (i*3)))).1 (zb3 (h.put i0 .dead) (n+1) 3 (old.take (i*3)++(vs++old.drop (i*3)))).2)):=by
 obtain⟨i1,hi1,hz1,hsz,hbt⟩:=info_parts i63;have hvl':vs'.length=3:=by rw[←hvv.1];exact hvl
 have hol':old'.length=n*3:=by rw[←hvo.1];exact hold
 have honev:=one_of hvv hcell;have hRlt:=hr.blk _ _ hR;have htl:(old'.drop (i*3)).length=(n - i)*3:=by simp[hol',Nat.sub_mul]
 have htk:(old'.take (i*3)).length=i*3:=by simp[hol'];omega
 have hik:i+(n+1 - i)=n+1:=by omega
 have hkk:((n:Int)+1 - (i:Int))=((n+1 - i:Nat):Int):=by omega
 have hfc:(qbr i1.size i (.slice (some ⟨R.blk,R.base+o0,none⟩) i cap')).run Tryz.prog w.drew=.ok (old'.take (i*3)).toArray w.drew:=by
  rw[hsz];exact run_firstCells_some w.drew 3 i ⟨R.blk,R.base+o0,none⟩ i cap' (old'.take (i*3)) htk (fun j v hj=>by
   rw[qS] at hj
   split at hj
   ·rw[qG];exact hco j v hj
   ·cases hj)
 obtain⟨G,hG⟩: ∃G,G=grownCap w (n+1) cap' 73:=⟨_,rfl⟩;have hGn:n+1≤G:=by rw[hG];exact grownCap_ge w _ _ _
 have hG63:G≤9223372036854775807:=by
  have:=grownCap_le_maxLen w (n+1) cap' 73 (by unfold maxLen;omega);rw[←hG] at this;unfold maxLen at this;omega
 obtain⟨ROW,hROW⟩: ∃ROW:Array Value,ROW=(old'.take (i*3)).toArray++qr zv63.cells (n+1 - i)++qr zv63.cells (G - (n+1)):=⟨_,rfl⟩;have hrz: ∀ty,(qby #[84,3] ty #[.slice (some ⟨R.blk,R.base+o0,none⟩) i cap',.int .i64 ((n:Int)+1 - (i:Int))]).run Tryz.prog w=.ok (.slice (some ⟨w.heap.size,0,none⟩) (n+1) G) (w.drew.alloc (.cells ROW 73)):=fun ty=>by
  have h:=Lib.run_append_grow_zeros w 84 3 ty 73 i1 _ .i64 .i64 u44 Tryz.underlying3 hi1 hz1 (some ⟨R.blk,R.base+o0,none⟩) i cap' (old'.take (i*3)) hfc (n+1 - i) (by omega) (by omega) (by omega) (by omega) (by rw[hbt];omega) (by rw[hbt,hik];exact growslice_fits (by omega) (by omega));rw[hik,←hG,←hROW] at h;rw[hkk];exact h
 have hzl: ∀k,(qr zv63.cells k).toList.length=k*3:=fun k=>by simp[qr,zv63,Value.cells]
 have hRl:ROW.toList=old'.take (i*3)++(qr zv63.cells (n+1 - i)).toList++(qr zv63.cells (G - (n+1))).toList:=by rw[hROW];simp
 obtain⟨s1,s2⟩:=two_stores (A:=old'.take (i*3)) (Z1:=(qr zv63.cells (n+1 - i)).toList) (Z2:=(qr zv63.cells (G - (n+1))).toList) (V:=vs') (D:=old'.drop (i*3)) htk hvl' (by rw[hzl,htl];omega);rw[←hRl] at s1 s2;have hRs:ROW.size=ROW.toList.length:=by simp
 have hRsz:i*3+(n+1 - i)*3≤ROW.size:=by rw[hRs,hRl];simp only[qn,htk,hzl];omega
 have hg1:(w.drew.alloc (.cells ROW 73)).heap[w.heap.size]? =some (.cells ROW 73 (0,0)):=zV w.drew _;have hst1:=qV (P:=Tryz.prog) w.heap.size (i*3) 73 vs' 0 ROW (w.drew.alloc (.cells ROW 73)) hg1 (by rw[hvl'];omega) honev;rw[qbg] at hst1;generalize hrow1:(ROW.toList.take (i*3)++vs'++ROW.toList.drop (i*3+vs'.length))=row1 at hst1 s1 s2;have hA1:(w.drew.alloc (.cells ROW 73)).setRow w.heap.size row1.toArray=w.drew.alloc (.cells row1.toArray 73):=ziL (w:=w.drew);rw[hA1] at hst1;have hg2:(w.drew.alloc (.cells row1.toArray 73)).drew.heap[w.heap.size]? =some (.cells row1.toArray 73 (0,0)):=zV w.drew _;have hst2:=qV (P:=Tryz.prog) w.heap.size ((i+1)*3) 73 (old'.drop (i*3)) 0 row1.toArray (w.drew.alloc (.cells row1.toArray 73)).drew hg2 (by rw[htl];simp only[qbs,s1,←hRs];omega) (fun v hv=>hone v (qbp hv));rw[qbg,show(i+1)*3=i*3+3 from by omega] at hst2;simp only[List.toList_toArray] at hst2;rw[s2] at hst2;have hA2:(w.drew.alloc (.cells row1.toArray 73)).drew.setRow w.heap.size (old'.take (i*3)++(vs'++old'.drop (i*3))++(qr zv63.cells (G - (n+1))).toList).toArray=w.drew.drew.alloc (.cells (old'.take (i*3)++(vs'++old'.drop (i*3))++(qr zv63.cells (G - (n+1))).toList).toArray 73):=ziL (w:=w.drew.drew);rw[hA2] at hst2;have hcall:=ins_grow R.blk (R.base+o0) n cap' i Rv.blk (Rv.base+vo) vc' w.heap.size G w _ _ _ hi hl (by omega) (by omega) hGn hG63 hrz
  (fun ty dc=>zje _ _ _ _ (n+1 - i) dc 1 vc' 1 vs' ty (by simp only[qbv];split<;>omega) (by rw[hvl']) (fun j v hj=>by
    have:=hcv j v hj;rw[Addr.add_mk] at this⊢;rw[qbq _ _ ⟨Rv.blk,_,none⟩ (show Rv.blk<w.drew.heap.size from hvlt),qG];exact this) hst1)
  (fun ty dc sc=>zje _ _ _ _ (n - i) dc (n - i) sc (n - i) (old'.drop (i*3)) ty (by simp) htl (fun j v hj=>by
    rw[qT] at hj;have:=hco _ v hj;rw[Addr.add_mk] at this⊢;rw[qG,qbq _ _ ⟨R.blk,_,none⟩ (show R.blk<w.drew.heap.size from hRlt),qG,qbc];exact this) (by rw[show(i+1)*3=i*3+3 from by omega];exact hst2))
 refine hcall.mono ?_;rintro e w' ⟨rfl,rfl⟩;have hLl:(old.take (i*3)++(vs++old.drop (i*3))).length=(n+1)*3:=by simp[hold,hvl];omega
 have hLr:VRL ρ (old.take (i*3)++(vs++old.drop (i*3))) (old'.take (i*3)++(vs'++old'.drop (i*3))):=(hvo.take _).append (hvv.append (hvo.drop _));have hkill:=hr.kill (i:=i0) (hr.lt ho);obtain⟨σ,v',p1,rfl,p2,p3⟩:=zhv (P:=Tryz.prog) (i:=i1) (e:=73) (zv:=zv63) (by rw[hsz];rfl) (by omega) hkill.drew.drew hLr (VRL.nil ρ) (need:=n+1) (nc:=G) (by rw[qB,hsz];exact hLl) hGn;rw[hsz] at p1 p2;simp only[qB] at p1 p2 p3;have hrow:((old'.take (i*3)++(vs'++old'.drop (i*3))).toArray++qr zv63.cells (G - (n+1)))=(old'.take (i*3)++(vs'++old'.drop (i*3))++(qr zv63.cells (G - (n+1))).toList).toArray:=by
  apply Array.toList_inj.1;simp
 rw[hrow] at p2 p3;exact⟨_,_,_,_,rfl,rfl,p1,p2,((Ext.drew ρ w).trans (Ext.drew ρ _)).trans p3⟩
end
theorem insOk:PrimOk Tryz.prog 83 (insP 3 40):=by
 refine⟨fun args w=> ?_,fun args h v h' hp ρ args' w ra hr=> ?_⟩
 ·have hb:Tryz.f83.body≠none:=by rw[show(Tryz.f83.body≠none)=(Tryz.f83.body.isSome=true) from by simp[Option.isSome_iff_ne_none]];kernel_rfl
  have hn: ¬Tryz.f83.name= "runtime.NumGoroutine" :=by decide+kernel
  simp[callFunc,Tryz.func83,hb,hn]
 ·unfold insP at hp
  split at hp
  ·rename_i a n c i b m vc
   split at hp
   ·rename_i hc;simp only[Bool.and_eq_true] at hc;obtain⟨c1,c2,c3,c4,c5,c6⟩:=hc;obtain rfl:=Nat.eq_of_beq_eq_true c1;have hi:i<n:=Nat.le_of_ble_eq_true c2;obtain rfl:=Nat.eq_of_beq_eq_true c3;have hab:a.block≠b.block:=fun e=>by rw[e] at c4;simp at c4
    have hbytes:=qbl c6;obtain⟨vs,hvs,hp⟩:=aof hp
    split at hp
    ·rename_i hcell;obtain⟨o,ho,hp⟩:=aof hp;unfold insIn at hp
     split at hp
     ·rename_i cs esz
      split at hp
      ·rename_i hes;simp only[Bool.and_eq_true] at hes;obtain rfl:esz=3:=Nat.eq_of_beq_eq_true hes.1;obtain⟨old,hold,hp⟩:=aof hp
       split at hp
       case isFalse=>cases hp
       rename_i holdc;obtain⟨x',y',z',rfl,rx,ry,rz⟩:=VRL.three ra;have hre:h.readN a.block a.off (n*3)=some old:=by simp only[H.readN,ho,qh,readObj,hold]
       obtain⟨Rv,vc',hRv,rfl⟩:=rz.inv_slice_some (by omega);obtain rfl:=ry.inv_int;obtain⟨csv,ev,hgv,hev⟩:=plainRow_some c5;obtain⟨v1,v2,cv,tv,frv,hbv,hfv,_⟩:=hr.obj _ _ _ hRv hgv;obtain⟨-,rfl⟩:=hfv.resolve_right (fun h=>hev h.2);obtain⟨hvl,vs',hvv,hcv⟩:=zcG (P:=Tryz.prog) hr hRv hvs;cases rx with
       |slice hR hc hl=>exact(Nat.lt_irrefl zc hc).elim
       |sliceE hR he hb=>exact absurd hi (by omega)
       |sliceR hR he hl=>
        obtain⟨q1,_⟩:=hr.obj _ _ _ hR ho;have:=q1.symm.trans he;simp[roE] at this
       | @sliceO i0 o0 _ cap' R hR he hl hs hb=>
         obtain⟨hol,old',hvo,hco⟩:=zcG (P:=Tryz.prog) hr hR hre;have hne:Rv.blk≠R.blk:=fun e=>hab (hr.sep _ _ _ _ hR hRv ⟨_,ho,by simp⟩ ⟨_,hgv,by simp⟩ e.symm);have hone:=one_of hvo holdc;have e:zb3 (h.put i0 .dead) (n+1) 3 (old.take (i*3)++(vs++old.drop (i*3)))=(v,h'):=Option.some.inj hp;have hn63:n≤1000000000000:=by omega
         have key:Calls Tryz.prog 83 #[.slice (some ⟨R.blk,R.base+o0,none⟩) n cap',.int .i64 (Int.ofNat i),.slice (some ⟨Rv.blk,Rv.base+b.off,none⟩) 1 vc'] w (zgU Tryz.prog ρ w (.val (zb3 (h.put i0 .dead) (n+1) 3 (old.take (i*3)++(vs++old.drop (i*3)))).1 (zb3 (h.put i0 .dead) (n+1) 3 (old.take (i*3)++(vs++old.drop (i*3)))).2)):=by
          by_cases hle:n+1≤cap'
          ·exact shift_ok hr hR ho hl hs hi hle hn63 hvl hvv hcell hcv hol hvo hco hone hbv hne
          ·exact grow_ok hr hR ho hl hi hle hbytes hvl hvv hcell hcv (hr.blk _ _ hRv) hol hvo hco hone
         rw[e] at key;exact key
      ·cases hp
     ·cases hp
    ·cases hp
   ·cases hp
  ·cases hp
end
end Go.Proofs.YtffbioplncclkaaGreat
set_option maxHeartbeats 4000000
noncomputable section
namespace Go.Ideal.X
open Go Go.Ideal
theorem hmix:Go.Proofs.Tryz.prog.follows .mixedOrders=true:=by kernel_rfl
theorem call:AllC Go.Proofs.Tryz.prog tabC:=((((c0.app c1).app c2).app c3).app c4)
theorem okF: ∀g cf,F g=some cf→FnOk Go.Proofs.Tryz.prog g cf:=look_ok (ql.2 ⟨.inr (.inr (.inr ⟨_,Go.Proofs.Tryz.f83,f83,rfl,Go.Proofs.YtffbioplncclkaaGreat.insOk,Go.Proofs.Tryz.func83,by kernel_rfl⟩)),call.ok⟩)
end Go.Ideal.X
end
noncomputable section
namespace Go.Ideal.X
open Go Go.Ideal
def q30:zcY:=⟨[vA [sL 10 0 1 1,sL 17 0 11 11,sL 11 0 1 1,0],vA [sL 48 0 2 oC,sL 50 0 1 oC,sL 44 0 2 oC,sL 95 0 2 oC],1],98,[(93,cL [2,0,3,0,3,1,4,1] 2),(56,cL [2,0,3,0,3,1,4,1] 2),(95,cL [1,2,sL 56 0 4 oC,0,9,sL 93 0 4 oC] 3),(90,cL [vS] 1),(77,cL [1,2] 2),(65,cL [1,1] 2),(82,cL [sL 65 0 1 oC,sL 77 0 1 oC] 1),(44,cL [0,0,0,sL 82 0 2 oC,0,1,0,sL 90 0 1 oC] 4),(36,cL [2,0,3,0,3,1,4,1] 2),(50,cL [0,0,sL 36 0 4 oC] 3),(48,cL [iI (-1),vF,0,vF] 2),(3,cL [0,1] 0),(4,cL [0,sL 3 0 2 2,1] 0),(2,cL [0,2] 0),(1,cL [0,1,0,0] 0),(11,cL [sL 1 0 2 2,sL 2 0 1 1,sL 4 0 1 1] 0),(9,cL [1,3,vS] 0),(16,cL [10] 0),(15,cL [8,9] 0),(8,cL [1,2,vS] 0),(14,cL [6,7] 0),(7,cL [1,1,vS] 0),(13,cL [4,5] 0),(6,cL [2,4,vS] 0),(12,cL [3] 0),(17,cL [4,0,vS,sL 12 0 1 1,2,0,sL 6 0 1 1,vS,7,0,vS,vS,3,0,vS,sL 13 0 2 2,2,1,sL 7 0 1 1,vS,3,0,vS,sL 14 0 2 2,2,1,sL 8 0 1 1,vS,3,0,vS,sL 15 0 2 2,2,2,vS,vS,8,3,vS,sL 16 0 1 1,2,1,sL 9 0 1 1,vS] 0),(10,cL [.string ⟨#[111,117,116]⟩] 0)],(.tuple ⟨[vA [sL 377 0 1 1,vS,sL 442 0 1 oC],vA [sL 382 0 2 oC,sL 389 0 1 oC,sL 418 0 2 oC,sL 449 0 1 oC],0]⟩),450,[(10,cL [.string ⟨#[111,117,116]⟩] 0),(17,cL [4,0,vS,sL 12 0 1 1,2,0,sL 6 0 1 1,vS,7,0,vS,vS,3,0,vS,sL 13 0 2 2,2,1,sL 7 0 1 1,vS,3,0,vS,sL 14 0 2 2,2,1,sL 8 0 1 1,vS,3,0,vS,sL 15 0 2 2,2,2,vS,vS,8,3,vS,sL 16 0 1 1,2,1,sL 9 0 1 1,vS] 0),(12,cL [3] 0),(6,cL [2,4,vS] 0),(13,cL [4,5] 0),(7,cL [1,1,vS] 0),(14,cL [6,7] 0),(8,cL [1,2,vS] 0),(15,cL [8,9] 0),(16,cL [10] 0),(9,cL [1,3,vS] 0),(11,cL [sL 1 0 2 2,sL 2 0 1 1,sL 4 0 1 1] 0),(1,cL [0,1,0,0] 0),(2,cL [0,2] 0),(4,cL [0,sL 3 0 2 2,1] 0),(3,cL [0,1] 0),(48,cL [iI (-1),vF,0,vF] 2),(50,cL [0,0,sL 36 0 4 oC] 3),(36,cL [2,0,3,0,3,1,4,1] 2),(44,cL [0,0,0,sL 82 0 2 oC,0,1,0,sL 90 0 1 oC] 4),(82,cL [sL 65 0 1 oC,sL 77 0 1 oC] 1),(65,cL [1,1] 2),(77,cL [1,2] 2),(90,cL [vS] 1),(95,cL [1,2,sL 56 0 4 oC,0,9,sL 93 0 4 oC] 3),(56,cL [2,0,3,0,3,1,4,1] 2),(93,cL [2,0,3,0,3,1,4,1] 2),(447,cL [2,0,3,0,3,1,4,1] 2),(449,cL [0,9,sL 447 0 4 oC] 3),(416,cL [vS] 1),(404,cL [1,2] 2),(397,cL [1,1] 2),(406,cL [sL 397 0 1 oC,sL 404 0 1 oC] 1),(418,cL [0,0,0,sL 406 0 2 oC,0,1,0,sL 416 0 1 oC] 4),(387,cL [2,0,3,0,3,1,4,1] 2),(389,cL [0,0,sL 387 0 4 oC] 3),(382,cL [iI (-1),vF,0,vF] 2),(440,cL [2,0,3,0,3,1,4,1] 2),(442,cL [0,1,2,sL 440 0 4 oC] 4),(377,cL [1] 0)]⟩
def q327:zcY:=⟨[vA [sL 377 0 1 1,vS,sL 442 0 1 oC]],452,[(440,cL [2,0,3,0,3,1,4,1] 2),(442,cL [0,1,2,sL 440 0 4 oC] 4),(377,cL [1] 0)],(.tuple ⟨[.string ⟨#[80,4,4,1,2,0,3,0,3,1,1,0,0,1,0,0,2,4,3,5,7,1,91,132]⟩,0]⟩),547,[(377,cL [1] 0),(442,cL [0,1,2,sL 440 0 4 oC] 4),(440,cL [2,0,3,0,3,1,4,1] 2)]⟩
def q409:zcY:=⟨[.string ⟨#[80,4,4,1,2,0,3,0,3,1,1,0,0,1,0,0,2,4,3,5,7,1,91,132]⟩],547,[],(.tuple ⟨[vA [sL 567 0 1 oC,vS,sL 584 0 1 oC],0]⟩),679,[(582,cL [2,0,3,0,3,1,4,1] 2),(584,cL [0,1,2,sL 582 0 4 oC] 4),(567,cL [1] 1)]⟩
def q530:zcY:=⟨[vA [sL 10 0 1 1,sL 17 0 11 11,sL 11 0 1 1,0],vA [sL 382 0 2 oC,sL 389 0 1 oC,sL 418 0 2 oC,sL 449 0 1 oC],vA [sL 567 0 1 oC,vS,sL 584 0 1 oC]],680,[(582,cL [2,0,3,0,3,1,4,1] 2),(584,cL [0,1,2,sL 582 0 4 oC] 4),(567,cL [1] 1),(447,cL [2,0,3,0,3,1,4,1] 2),(449,cL [0,9,sL 447 0 4 oC] 3),(416,cL [vS] 1),(404,cL [1,2] 2),(397,cL [1,1] 2),(406,cL [sL 397 0 1 oC,sL 404 0 1 oC] 1),(418,cL [0,0,0,sL 406 0 2 oC,0,1,0,sL 416 0 1 oC] 4),(387,cL [2,0,3,0,3,1,4,1] 2),(389,cL [0,0,sL 387 0 4 oC] 3),(382,cL [iI (-1),vF,0,vF] 2),(3,cL [0,1] 0),(4,cL [0,sL 3 0 2 2,1] 0),(2,cL [0,2] 0),(1,cL [0,1,0,0] 0),(11,cL [sL 1 0 2 2,sL 2 0 1 1,sL 4 0 1 1] 0),(9,cL [1,3,vS] 0),(16,cL [10] 0),(15,cL [8,9] 0),(8,cL [1,2,vS] 0),(14,cL [6,7] 0),(7,cL [1,1,vS] 0),(13,cL [4,5] 0),(6,cL [2,4,vS] 0),(12,cL [3] 0),(17,cL [4,0,vS,sL 12 0 1 1,2,0,sL 6 0 1 1,vS,7,0,vS,vS,3,0,vS,sL 13 0 2 2,2,1,sL 7 0 1 1,vS,3,0,vS,sL 14 0 2 2,2,1,sL 8 0 1 1,vS,3,0,vS,sL 15 0 2 2,2,2,vS,vS,8,3,vS,sL 16 0 1 1,2,1,sL 9 0 1 1,vS] 0),(10,cL [.string ⟨#[111,117,116]⟩] 0)],(.tuple ⟨[vA [sL 1052 0 2 oC,sL 1059 0 1 oC,sL 1088 0 2 oC,sL 1103 0 2 oC],0]⟩),1104,[(10,cL [.string ⟨#[111,117,116]⟩] 0),(17,cL [4,0,vS,sL 12 0 1 1,2,0,sL 6 0 1 1,vS,7,0,vS,vS,3,0,vS,sL 13 0 2 2,2,1,sL 7 0 1 1,vS,3,0,vS,sL 14 0 2 2,2,1,sL 8 0 1 1,vS,3,0,vS,sL 15 0 2 2,2,2,vS,vS,8,3,vS,sL 16 0 1 1,2,1,sL 9 0 1 1,vS] 0),(12,cL [3] 0),(6,cL [2,4,vS] 0),(13,cL [4,5] 0),(7,cL [1,1,vS] 0),(14,cL [6,7] 0),(8,cL [1,2,vS] 0),(15,cL [8,9] 0),(16,cL [10] 0),(9,cL [1,3,vS] 0),(11,cL [sL 1 0 2 2,sL 2 0 1 1,sL 4 0 1 1] 0),(1,cL [0,1,0,0] 0),(2,cL [0,2] 0),(4,cL [0,sL 3 0 2 2,1] 0),(3,cL [0,1] 0),(382,cL [iI (-1),vF,0,vF] 2),(389,cL [0,0,sL 387 0 4 oC] 3),(387,cL [2,0,3,0,3,1,4,1] 2),(418,cL [0,0,0,sL 406 0 2 oC,0,1,0,sL 416 0 1 oC] 4),(406,cL [sL 397 0 1 oC,sL 404 0 1 oC] 1),(397,cL [1,1] 2),(404,cL [1,2] 2),(416,cL [vS] 1),(449,cL [0,9,sL 447 0 4 oC] 3),(447,cL [2,0,3,0,3,1,4,1] 2),(567,cL [1] 1),(584,cL [0,1,2,sL 582 0 4 oC] 4),(582,cL [2,0,3,0,3,1,4,1] 2),(1093,cL [2,0,3,0,3,1,4,1] 2),(1101,cL [2,0,3,0,3,1,4,1] 2),(1103,cL [1,2,sL 1101 0 4 oC,0,9,sL 1093 0 4 oC] 3),(1086,cL [vS] 1),(1074,cL [1,2] 2),(1067,cL [1,1] 2),(1076,cL [sL 1067 0 1 oC,sL 1074 0 1 oC] 1),(1088,cL [0,0,0,sL 1076 0 2 oC,0,1,0,sL 1086 0 1 oC] 4),(1057,cL [2,0,3,0,3,1,4,1] 2),(1059,cL [0,0,sL 1057 0 4 oC] 3),(1052,cL [iI (-1),vF,0,vF] 2)]⟩
def q1057:zcY:=⟨[.string ⟨#[77,1,3,0,0,2,4,1,85,142]⟩],1203,[],(.tuple ⟨[sL 1266 0 1 oC,0]⟩),1267,[(1266,cL [3,0] 2)]⟩
def q1119:zcY:=⟨[.string ⟨#[77,1,3,0,0,2,4,1,85,142]⟩,sL 1269 0 1 1],1270,[(1269,cL [3,0,3,7] 0)],(.tuple ⟨[.string ⟨#[77,1,3,7,0,2,4,1,50,90]⟩,0]⟩),1359,[(1269,cL [3,0,3,7] 0)]⟩
end Go.Ideal.X
end
noncomputable section
namespace Go.Ideal.X
open Go Go.Ideal
def F30:FuncId→Option za:=F
theorem r30:q30.runs F30 100000 32=true:=by kernel_rfl
theorem g30:q30.good=true:=by kernel_rfl
end Go.Ideal.X
end
noncomputable section
namespace Go.Ideal.X
open Go Go.Ideal
def F327:FuncId→Option za:=F
theorem r327:q327.runs F327 100000 11=true:=by kernel_rfl
theorem g327:q327.good=true:=by kernel_rfl
end Go.Ideal.X
end
noncomputable section
namespace Go.Ideal.X
open Go Go.Ideal
def F409:FuncId→Option za:=F
theorem r409:q409.runs F409 100000 13=true:=by kernel_rfl
theorem g409:q409.good=true:=by kernel_rfl
end Go.Ideal.X
end
noncomputable section
namespace Go.Ideal.X
open Go Go.Ideal
def F530:FuncId→Option za:=F
theorem r530:q530.runs F530 100000 33=true:=by kernel_rfl
theorem g530:q530.good=true:=by kernel_rfl
end Go.Ideal.X
end
noncomputable section
namespace Go.Ideal.X
open Go Go.Ideal
def F1057:FuncId→Option za:=F
theorem r1057:q1057.runs F1057 100000 22=true:=by kernel_rfl
theorem g1057:q1057.good=true:=by kernel_rfl
end Go.Ideal.X
end
noncomputable section
namespace Go.Ideal.X
open Go Go.Ideal
def F1119:FuncId→Option za:=F
theorem r1119:q1119.runs F1119 100000 24=true:=by kernel_rfl
theorem g1119:q1119.good=true:=by kernel_rfl
end Go.Ideal.X
end
noncomputable section
namespace Go.Ideal.X
open Go Go.Ideal
def F0:FuncId→Option za:=overF [(32,zkV (zeU [q30]) f32),(11,zkV (zeU [q327]) f11),(13,zkV (zeU [q409]) f13),(33,zkV (zeU [q530]) f33),(22,zkV (zeU [q1057]) f22),(24,zkV (zeU [q1119]) f24)] F
theorem r0:endsTrue (E F0 100000 (.call (.func (.func 10) #[] #[]) [] .empty))=true:=by kernel_rfl
end Go.Ideal.X
end
noncomputable section
namespace Go.Ideal.X
open Go Go.Ideal
theorem ok1119: ∀g cf,F1119 g=some cf→FnOk Go.Proofs.Tryz.prog g cf:=okF
theorem ok1057: ∀g cf,F1057 g=some cf→FnOk Go.Proofs.Tryz.prog g cf:=okF
theorem ok530: ∀g cf,F530 g=some cf→FnOk Go.Proofs.Tryz.prog g cf:=okF
theorem ok409: ∀g cf,F409 g=some cf→FnOk Go.Proofs.Tryz.prog g cf:=okF
theorem ok327: ∀g cf,F327 g=some cf→FnOk Go.Proofs.Tryz.prog g cf:=okF
theorem ok30: ∀g cf,F30 g=some cf→FnOk Go.Proofs.Tryz.prog g cf:=okF
theorem ok0: ∀g cf,F0 g=some cf→FnOk Go.Proofs.Tryz.prog g cf:=over_ok (ql.2 ⟨call.pieces hmix (g:=32) (by kernel_rfl) (ql.2 ⟨⟨g30,F30,100000,ok30,r30⟩,(fun _ h=>by cases h)⟩),(ql.2 ⟨call.pieces hmix (g:=11) (by kernel_rfl) (ql.2 ⟨⟨g327,F327,100000,ok327,r327⟩,(fun _ h=>by cases h)⟩),(ql.2 ⟨call.pieces hmix (g:=13) (by kernel_rfl) (ql.2 ⟨⟨g409,F409,100000,ok409,r409⟩,(fun _ h=>by cases h)⟩),(ql.2 ⟨call.pieces hmix (g:=33) (by kernel_rfl) (ql.2 ⟨⟨g530,F530,100000,ok530,r530⟩,(fun _ h=>by cases h)⟩),(ql.2 ⟨call.pieces hmix (g:=22) (by kernel_rfl) (ql.2 ⟨⟨g1057,F1057,100000,ok1057,r1057⟩,(fun _ h=>by cases h)⟩),(ql.2 ⟨call.pieces hmix (g:=24) (by kernel_rfl) (ql.2 ⟨⟨g1119,F1119,100000,ok1119,r1119⟩,(fun _ h=>by cases h)⟩),(fun _ h=>by cases h)⟩)⟩)⟩)⟩)⟩)⟩) okF
theorem root_true:FnOk Go.Proofs.Tryz.prog 10 (zh6 true):=by
 obtain⟨h',e⟩:=endsTrue_some r0;obtain⟨fn,h1,h2⟩:=call.at (g:=10) (cf:=f10) (by kernel_rfl);exact prim_of hmix ok0 h1 h2 e
end Go.Ideal.X
end
noncomputable section
namespace Go.Ideal.Y
open Go Go.Ideal Q
theorem c0:AllC Go.Proofs.Tryz.prog tab0:=by unfold AllC;kernel_rfl
end Go.Ideal.Y
end
noncomputable section
namespace Go.Ideal.Y
open Go Go.Ideal Q
theorem c1:AllC Go.Proofs.Tryz.prog tab1:=by unfold AllC;kernel_rfl
end Go.Ideal.Y
end
noncomputable section
namespace Go.Ideal.Y
open Go Go.Ideal Q
theorem c2:AllC Go.Proofs.Tryz.prog tab2:=by unfold AllC;kernel_rfl
end Go.Ideal.Y
end
noncomputable section
namespace Go.Ideal.Y
open Go Go.Ideal Q
theorem call:AllC Go.Proofs.Tryz.prog Q.tabC:=((c0.app c1).app c2)
end Go.Ideal.Y
end
noncomputable section
namespace Go.Ideal.Y
open Go Go.Ideal Q
theorem okF: ∀g cf,Q.F g=some cf→FnOk Go.Proofs.Tryz.prog g cf:=look_ok (ql.2 ⟨X.root_true,call.ok⟩)
end Go.Ideal.Y
end
namespace Go.Proofs.YtffbioplncclkaaGreat
open Go.ChangeShapes Go.WideShapes Go.RowKit Go.Ideal Go.Ideal.S
section
variable {P:Program} {H:Type} {enc:TypeId×Value→H} {W:World} {base b:Nat} {r:Reach} {spare:Nat→Bool} {held:Bool} {v:Value} {d:DataW H} {ps:List MemPlace}
theorem spot_of_cell {a:Addr} {v:Value} (h:W.cell? a=some v):a.spot=none:=by
 unfold qbu at h
 split at h
 ·split at h
  ·cases h
  ·rename_i hs;simpa using hs
 ·cases h
theorem zgF {v:Value} (h:okV W v=true):impV W v=v:=by unfold impV;rw[if_pos h]
theorem zhp {k:IntKind} {n:Int}:impV W (.int k n)=.int k n:=zgF rfl
theorem zdL {t el:TypeId} {fuel:Nat} {x:DataW H×List MemPlace} (ht:P.underlying t=some (.slice el)) (hv: ∀a len cap,v=.slice (some a) len cap→a.spot=none∧zbT W a.block=true)
 (h:qg enc P W base spare held fuel t [v]=some x):okV W v=true:=by
 rcases qbw ht h with⟨e0,_⟩| ⟨a,len,cap,elems,rest,n,_,e0,_,hb,hl,hm,hlen',hel',hsp,hns⟩
 ·cases e0;rfl
 ·cases e0;obtain⟨hsp0,hic⟩:=hv a len cap rfl;have hcap:cap<zc:=by unfold zc;unfold maxLen at hm;omega
  simp[okV,hl,hcap,hic,hsp0]
theorem zcA {α:Type} {e:α→List DV} {sz:Nat} {t el:TypeId} {fuel:Nat} {x:DataW H×List MemPlace} (ht:P.underlying t=some (.slice el)) (hc:P.cellsOf el=sz) (hs:0<sz) (hlen: ∀a,(e a).length=sz)
 (hel: ∀fuel cs y,qg enc P W base (fun _=>true) held fuel el cs=some y→ ∃a,LRel (impW W) (e a) (cs.map (impV W)))
 (h:qg enc P W base (fun _=>true) held fuel t [v]=some x): ∃es:List α,VRel (impW W) (.lst sz (es.map e)) (impV W v):=by
 rcases qbw ht h with⟨e0,_⟩| ⟨a,len,cap,elems,rest,n,hfu,e0,_,hb,hl,hm,hlen',hel',hsp,hns⟩
 ·cases e0;exact⟨[],.lst0 (by unfold zc;omega) (fun a h=>by cases h)⟩
 ·cases e0;have hcap:cap<zc:=by unfold zc;unfold maxLen at hm;omega
  by_cases hz:cap=0
  ·subst hz;obtain rfl:len=0:=by omega
   by_cases hok:okV W (.slice (some a) 0 0)=true
   ·rw[zgF hok];unfold okV at hok;simp only[Bool.and_eq_true,Option.isNone_iff_eq_none,decide_eq_true_eq] at hok;obtain⟨h1,h2,h3,h4⟩:=hok;exact⟨[],.lst0 hcap (fun a' h=>by cases h;exact h1)⟩
   ·have:impV W (.slice (some a) 0 0)=dang W:=by unfold impV;rw[if_neg hok];rfl
    rw[this];exact⟨[],.lst0 hcap (fun a' h=>by cases h;rfl)⟩
  ·have hcell: ∀i,i<cap→ ∃cs y,W.cells? base (a.add (i*P.cellsOf el)) (P.cellsOf el)=some cs∧qg enc P W base (fun _=>true) held n el cs=some y:=by
    intro i hi;by_cases hil:i<len
    ·have h1:=hel' i hil;rw[qk (by omega)] at h1;obtain⟨cs,hcs,hy⟩:=qbh.1 h1;exact⟨cs,_,hcs,hy⟩
    ·obtain⟨hrl,hr⟩:=hsp rfl;have h1:=hr (i - len) (by omega);rw[qk (by omega)] at h1;obtain⟨cs,hcs,hy⟩:=qbh.1 h1;rw[show len+(i - len)=i by omega] at hcs;exact⟨cs,_,hcs,hy⟩
   have hln: ∀{cs y},qg enc P W base (fun _=>true) held n el cs=some y→cs.length=sz:=fun{cs y} hy=>by
    obtain⟨a,ha⟩:=hel _ _ _ hy;have:=ha.len;rw[qd,hlen] at this;exact this.symm
   have hspot: ∃b o c t fr,a=⟨b,o,none⟩∧W.heap[b]? =some (.cells c t fr):=by
    obtain⟨cs,y,hcs,hy⟩:=hcell 0 (by omega);obtain⟨_,q2,q3⟩:=qbt hcs;have hlc:0<cs.length:=by rw[hln hy];exact hs
    have hg:cs[0]? =some cs[0]:=qk hlc;have h3:=q3 0 (by rw[hc];exact hs);rw[hg] at h3;have hsp0:=spot_of_cell h3;obtain⟨b,o,s⟩:=a;have:s=none:=by
     unfold Addr.add at hsp0;cases s with
     |none=>rfl
     |some _=>split at hsp0<;>(try split at hsp0)<;>simp_all
    subst this;rw[zjj,zjj] at h3;obtain⟨c,t',fr,hbk,_⟩:=cell_heap h3;exact⟨b,o,c,t',fr,rfl,hbk⟩
   obtain⟨b,o,c,t',fr,rfl,hbk⟩:=hspot;have hic:zbT W b=true:=by unfold zbT;rw[hbk]
   have hok:okV W (.slice (some ⟨b,o,none⟩) len cap)=true:=by simp[okV,hl,hcap,hic]
   rw[zgF hok];have hel2: ∀i,i<len→ ∃a:α,∃cs:List Value,LRel (impW W) (e a) (cs.map (impV W))∧ ∀k,k<sz→W.cell? ⟨b,o+(i*sz+k),none⟩=cs[k]?:=by
    intro i hi;obtain⟨cs,y,hcs,hy⟩:=hcell i (by omega);obtain⟨a,ha⟩:=hel _ _ _ hy;rw[hc] at hcs;obtain⟨_,_,h3⟩:=qbt hcs;refine⟨a,cs,ha,fun k hk=> ?_⟩;have:=h3 k hk;rw[zjj,zjj] at this;rw[←this,qbc]
   obtain⟨es,hes,hq⟩:=list_of len hel2;subst hes;rcases Nat.eq_zero_or_pos es.length with h0|h0
   ·obtain rfl:=List.eq_nil_of_length_eq_zero h0;exact⟨[],.lst0 hcap (fun a h=>by cases h;rfl)⟩
   have hrows: ∀r∈es.map e,r.length=sz:=fun r hr=>by obtain⟨a,_,rfl⟩:=qm.1 hr;exact hlen a
   have hcell: ∀i j a,es[i]? =some a→j<sz→ ∃d v,(e a)[j]? =some d∧(c.toList.map (impV W))[o+(i*sz+j)]? =some v∧VRel (impW W) d v:=by
    intro i j a ha hj;obtain⟨cs,hrel,hck⟩:=hq i a ha;have hck:=hck j hj;have hfl:(cs.map (impV W)).length=sz:=by rw[←hrel.len,hlen]
    have hjf:j<(cs.map (impV W)).length:=by rw[hfl];exact hj
    have hjc:j<cs.length:=by rw[qd] at hjf;exact hjf
    have hje:j<(e a).length:=by rw[hlen];exact hj
    have hka:cs[j]? =some (cs[j]'hjc):=qk hjc;have hea:(e a)[j]? =some ((e a)[j]'hje):=qk hje;rw[hka] at hck;obtain⟨c',t'',fr',hb',hco⟩:=cell_heap hck;rw[hbk] at hb';cases hb';exact⟨_,_,hea,by rw[qW,Array.getElem?_toList,hco];rfl,hrel.at_ j _ _ hea (by rw[qW,hka];rfl)⟩
   refine⟨es,.lst (impW_Z (zig hbk)) hrows ?_ ?_ (fun h=>by omega) (fun _=>⟨by rw[qd];exact hl,hcap⟩) (by rw[qd])⟩
   ·rw[qd];obtain⟨d,v,_,h2,_⟩:=hcell (es.length - 1) (sz - 1) _ (qk (by omega)) (by omega);have:=(qF.1 h2).1;have e1:(es.length - 1)*sz+(sz - 1)+1=es.length*sz:=by
     obtain⟨m,hm⟩: ∃m,es.length=m+1:=⟨es.length - 1,by omega⟩;rw[hm,Nat.add_sub_cancel,Nat.succ_mul];omega
    omega
   ·intro k d v hd hv;have hkl:=(qF.1 hd).1;rw[zX hrows,qd] at hkl;have hi:k / sz<es.length:=(qbm hs).2 hkl;have hj:k%sz<sz:=Nat.mod_lt _ hs;have hk:k / sz*sz+k%sz=k:=Nat.div_add_mod' k sz;obtain⟨d',v',h1,h2,h3⟩:=hcell _ _ _ (qk hi) hj;obtain⟨tl,ht⟩:=flat_at hrows (i:=k / sz) (r:=e es[k / sz]) (by rw[qW,qk hi];rfl);have:(es.map e).flatten[k]? =(e es[k / sz])[k%sz]?:=by
     have e2:((es.map e).flatten.drop (k / sz*sz))[k%sz]? =(es.map e).flatten[k]?:=by rw[qT,hk]
     rw[←e2,ht,qt (by rw[hlen];exact hj)]
    rw[this,h1] at hd;rw[hk,hv] at h2;cases hd;cases h2;exact h3
theorem cs22:Tryz.prog.cellsOf 22=1:=by kernel_rfl
theorem cs23:Tryz.prog.cellsOf 23=1:=by kernel_rfl
theorem cs24:Tryz.prog.cellsOf 24=1:=by kernel_rfl
theorem cs67:Tryz.prog.cellsOf 67=1:=by kernel_rfl
theorem cQ2:Tryz.prog.cellsOf 69=2:=by kernel_rfl
theorem cM1:Tryz.prog.cellsOf 71=1:=by kernel_rfl
theorem cW4:Tryz.prog.cellsOf 75=4:=by kernel_rfl
theorem cW3:Tryz.prog.cellsOf 73=3:=by kernel_rfl
theorem sv_el {fuel:Nat} {cs:List Value} {x:DataW H×List MemPlace} (h:qg enc Tryz.prog W b (fun _=>true) held fuel 60 cs=some x): ∃a:Sv,LRel (impW W) (eSv a) (cs.map (impV W)):=by
 obtain⟨a,rfl⟩:=zhU h;exact⟨a,by simp only[vSv,qq,qZ,zhp];exact LRel.cons (.int _ _) (LRel1 (.int _ _))⟩
theorem int_el {fuel:Nat} {cs:List Value} {x:DataW H×List MemPlace} (h:qg enc Tryz.prog W b (fun _=>true) held fuel 3 cs=some x): ∃a:Int,LRel (impW W) (eInt a) (cs.map (impV W)):=by
 obtain⟨n,e,_,hw⟩:=DataW.trod_int Tryz.underlying3 h;cases e;exact⟨n,by simp only[qq,qZ,zhp];exact LRel1 (.int _ _)⟩
theorem svs_el {fuel:Nat} {c:Value} {x:DataW H×List MemPlace} (h:qg enc Tryz.prog W b (fun _=>true) held fuel 36 [c]=some x): ∃vs:List Sv,VRel (impW W) (.lst 2 (vs.map eSv)) (impV W c):=
 zcA Tryz.underlying36 cV2 (by omega) (fun _=>rfl) (fun _ _ _ h=>sv_el h) h
theorem msg_el {fuel:Nat} {cs:List Value} {x:DataW H×List MemPlace} (h:qg enc Tryz.prog W b (fun _=>true) held fuel 71 cs=some x): ∃a:List Sv,LRel (impW W) (eMsg a) (cs.map (impV W)):=by
 obtain⟨xs,n,_,_,hl,hlen,hf⟩:=qE Tryz.underlying71 h;rw[cM1] at hl
 match cs,hl with
 | [c0],_=>
   have e0:qg enc Tryz.prog W b (fun _=>true) held n 36 (([c0].drop 0).take (Tryz.prog.cellsOf 36))=xs[0]?:=hf 0 _ rfl;rw[cs1] at e0
   match xs,hlen with
   | [y0],_=>
     obtain⟨vs,hv⟩:=svs_el (show qg enc Tryz.prog W b (fun _=>true) held n 36 [c0]=some y0 from e0);exact⟨vs,LRel1 hv⟩
theorem qu_el {fuel:Nat} {cs:List Value} {x:DataW H×List MemPlace} (h:qg enc Tryz.prog W b (fun _=>true) held fuel 69 cs=some x): ∃a:Qu,LRel (impW W) (eQu a) (cs.map (impV W)):=by
 obtain⟨xs,n,_,_,hl,hlen,hf⟩:=qE Tryz.underlying69 h;rw[cQ2] at hl
 match cs,hl with
 | [c0,c1],_=>
   have e0:qg enc Tryz.prog W b (fun _=>true) held n 3 (([c0,c1].drop 0).take (Tryz.prog.cellsOf 3))=xs[0]?:=hf 0 _ rfl;have e1:qg enc Tryz.prog W b (fun _=>true) held n 67 (([c0,c1].drop 1).take (Tryz.prog.cellsOf 67))=xs[1]?:=hf 1 _ rfl;rw[ci1] at e0;rw[cs67] at e1
   match xs,hlen with
   | [y0,y1],_=>
     obtain⟨ch,rfl,_⟩:=zcF Tryz.underlying3 (show qg enc Tryz.prog W b (fun _=>true) held n 3 [c0]=some y0 from e0);obtain⟨ms,hv⟩:=zcA (e:=eMsg) Tryz.underlying67 cM1 (by omega) (fun _=>rfl) (fun _ _ _ h=>msg_el h) (show qg enc Tryz.prog W b (fun _=>true) held n 67 [c1]=some y1 from e1);exact⟨⟨ch,ms⟩,by simp only[qq,qZ,zhp];exact LRel.cons (.int _ _) (LRel1 hv)⟩
theorem wt_el {fuel:Nat} {cs:List Value} {x:DataW H×List MemPlace} (h:qg enc Tryz.prog W b (fun _=>true) held fuel 75 cs=some x): ∃a:Wt,LRel (impW W) (eWt a) (cs.map (impV W)):=by
 obtain⟨xs,n,_,_,hl,hlen,hf⟩:=qE Tryz.underlying75 h;rw[cW4] at hl
 match cs,hl with
 | [c0,c1,c2,c3],_=>
   have e0:qg enc Tryz.prog W b (fun _=>true) held n 3 (([c0,c1,c2,c3].drop 0).take (Tryz.prog.cellsOf 3))=xs[0]?:=hf 0 _ rfl;have e1:qg enc Tryz.prog W b (fun _=>true) held n 73 (([c0,c1,c2,c3].drop 1).take (Tryz.prog.cellsOf 73))=xs[1]?:=hf 1 _ rfl;rw[ci1] at e0;rw[cW3] at e1
   match xs,hlen with
   | [y0,y1],_=>
     obtain⟨a,rfl,_⟩:=zcF Tryz.underlying3 (show qg enc Tryz.prog W b (fun _=>true) held n 3 [c0]=some y0 from e0);obtain⟨xs,n,_,_,hl,hlen,hf⟩:=qE Tryz.underlying73 (show qg enc Tryz.prog W b (fun _=>true) held n 73 [c1,c2,c3]=some y1 from e1);have e1:qg enc Tryz.prog W b (fun _=>true) held n 3 (([c1,c2,c3].drop 0).take (Tryz.prog.cellsOf 3))=xs[0]?:=hf 0 _ rfl;have e2:qg enc Tryz.prog W b (fun _=>true) held n 3 (([c1,c2,c3].drop 1).take (Tryz.prog.cellsOf 3))=xs[1]?:=hf 1 _ rfl;have e3:qg enc Tryz.prog W b (fun _=>true) held n 36 (([c1,c2,c3].drop 2).take (Tryz.prog.cellsOf 36))=xs[2]?:=hf 2 _ rfl;rw[ci1] at e1 e2;rw[cs1] at e3
     match xs,hlen with
     | [z0,z1,z2],_=>
       obtain⟨p,rfl,_⟩:=zcF Tryz.underlying3 (show qg enc Tryz.prog W b (fun _=>true) held n 3 [c1]=some z0 from e1);obtain⟨q,rfl,_⟩:=zcF Tryz.underlying3 (show qg enc Tryz.prog W b (fun _=>true) held n 3 [c2]=some z1 from e2);obtain⟨vs,hv⟩:=svs_el (show qg enc Tryz.prog W b (fun _=>true) held n 36 [c3]=some z2 from e3);exact⟨⟨a,p,q,vs⟩,by simp only[qq,qZ,zhp];exact LRel.cons (.int _ _) (LRel.cons (.int _ _) (LRel.cons (.int _ _) (LRel1 hv)))⟩
theorem parcel_in (hval:qba Tryz.prog W r base 26 v) (hd:DataW.Trod enc Tryz.prog W b (fun _=>true) held 26 v d ps):okArg W v=true∧ ∃g:Pc,VRel (impW W) (.agg (ePc g)) v:=by
 unfold qba at hval;rw[Tryz.underlying26] at hval;obtain⟨cs,rfl,hsz,ts,hts,_,hcell⟩:=hval;obtain⟨fuel,hd⟩:=hd;have hcs:(Value.agg cs).cells.toList=cs.toList:=rfl;rw[hcs] at hd;obtain⟨xs,n,_,_,hl,hlen,hf⟩:=qE Tryz.underlying26 hd;have h3:Tryz.prog.cellsOf 26=3:=by kernel_rfl
 have hty:Tryz.prog.cellTypes Tryz.prog.depth 26=some [22,23,24]:=by kernel_rfl
 rw[hty] at hts;cases hts;rw[h3] at hl;obtain⟨c0,c1,c2,hc⟩: ∃c0 c1 c2,cs.toList=[c0,c1,c2]:=by
  match cs.toList,hl with
  | [c0,c1,c2],_=>exact⟨c0,c1,c2,rfl⟩
 rw[hc] at hf;have e0:qg enc Tryz.prog W b (fun _=>true) held n 22 (([c0,c1,c2].drop 0).take (Tryz.prog.cellsOf 22))=xs[0]?:=hf 0 _ rfl;have e1:qg enc Tryz.prog W b (fun _=>true) held n 23 (([c0,c1,c2].drop 1).take (Tryz.prog.cellsOf 23))=xs[1]?:=hf 1 _ rfl;have e2:qg enc Tryz.prog W b (fun _=>true) held n 24 (([c0,c1,c2].drop 2).take (Tryz.prog.cellsOf 24))=xs[2]?:=hf 2 _ rfl;rw[cs22] at e0;rw[cs23] at e1;rw[cs24] at e2;obtain⟨y0,y1,y2,rfl⟩: ∃y0 y1 y2,xs=[y0,y1,y2]:=by
  match xs,hlen with
  | [y0,y1,y2],_=>exact⟨y0,y1,y2,rfl⟩
 have hcs':cs= #[c0,c1,c2]:=by rw[←Array.toList_inj,hc]
 subst hcs';have e0:qg enc Tryz.prog W b (fun _=>true) held n 22 [c0]=some y0:=e0;have e1:qg enc Tryz.prog W b (fun _=>true) held n 23 [c1]=some y1:=e1;have e2:qg enc Tryz.prog W b (fun _=>true) held n 24 [c2]=some y2:=e2;obtain⟨u0,hu0,hok0⟩:=hcell 0 c0 rfl;cases hu0;obtain⟨u1,hu1,hok1⟩:=hcell 1 c1 rfl;cases hu1;obtain⟨u2,hu2,hok2⟩:=hcell 2 c2 rfl;cases hu2;have k0:=zdL Tryz.underlying22 (zi0 Tryz.underlying22 hok0) e0;have k1:=zdL Tryz.underlying23 (zi0 Tryz.underlying23 hok1) e1;have k2:=zdL Tryz.underlying24 (zi0 Tryz.underlying24 hok2) e2;obtain⟨sp,r0⟩:=zcA (e:=eInt) Tryz.underlying22 ci1 (by omega) (fun _=>rfl) (fun _ _ _ h=>int_el h) e0;obtain⟨qs,r1⟩:=zcA (e:=eQu) Tryz.underlying23 cQ2 (by omega) (fun _=>rfl) (fun _ _ _ h=>qu_el h) e1;obtain⟨ws,r2⟩:=zcA (e:=eWt) Tryz.underlying24 cW4 (by omega) (fun _=>rfl) (fun _ _ _ h=>wt_el h) e2;rw[zgF k0] at r0;rw[zgF k1] at r1;rw[zgF k2] at r2;refine⟨?_,⟨sp,qs,ws⟩,?_⟩
 ·show([c0,c1,c2]:List Value).all (okV W)=true;simp only[List.all_cons,List.all_nil,k0,k1,k2,Bool.and_true]
 ·have:=LRel.cons (w:=impW W) r0 (LRel.cons r1 (LRel1 r2));exact .agg this.len this.at_
end
end Go.Proofs.YtffbioplncclkaaGreat
set_option maxRecDepth 10000
set_option maxHeartbeats 2000000
namespace Go.Ideal.S
open Go Go.Ideal Q Classical
attribute [local simp] decide_eq_true decide_eq_false zP
variable {B M M':VM} {k kp:DV→VM→Prop} {n0 j:Nat}
noncomputable def zhG (x:Pc):List UInt8×Int:=if zfY x then(if 80000<(zbE x).length then([],3) else(zbE x,0)) else([],2)
attribute [local simp] c_V f_V r_V_1 r_V_2 r_V_3 r_V_4 r_V_5 r_V_6 r_V_7
theorem Bytes_ok (x:Pc) (hx:SzP x) (he: ∀w∈x.ws,w.env.length<100000) (hk:k (.tup [St (zhG x).1,I (zhG x).2]) M):zg F (.fn n_V [] []) [.agg (ePc x)] M k kp:=by
 unfold zhG at hk;apply zg.back;refine .fn h_wire_Bytes rfl (by simp[f_V]) ?_;simp(disch:=((try simp only[nx3]);omega));refine fine_ok x hx ?_;by_cases h1:zfY x
 ·rw[decide_eq_true h1];rw[if_pos h1] at hk;simp(disch:=((try simp only[nx3]);omega));refine bytes_ok h1 he ?_;by_cases h2:80000<(zbE x).length
  ·rw[if_pos h2] at hk;have h2i:(80000:Int)<(zbE x).length:=by omega
   simp(disch:=((try simp only[nx3]);omega)) [h2i];exact bpl hk
  ·rw[if_neg h2] at hk;have h2i: ¬(80000:Int)<(zbE x).length:=by omega
   simp(disch:=((try simp only[nx3]);omega)) [h2i];exact bpl hk
 ·rw[decide_eq_false h1];rw[if_neg h1] at hk;simp(disch:=((try simp only[nx3]);omega));exact bpl hk
end Go.Ideal.S
namespace Go.Ideal.S
open Go Go.Ideal
theorem zj1 {n:Nat} (h:n<256):(UInt8.ofNat n).toNat=n:=by
 rw[UInt8.toNat_ofNat'];exact Nat.mod_eq_of_lt h
theorem getA_num: ∀(f u a n:Nat) (l:List UInt8),n<128^(f+1)→getA (f+1) u a (numB n++l)=some (a+n*u,l)
 |f,u,a,n,l,h=>by
  rw[numB];by_cases hn:n<128
  ·rw[if_pos hn];show(if(UInt8.ofNat n).toNat<128 then some (a+(UInt8.ofNat n).toNat*u,l) else _)=_;rw[zj1 (by omega),if_pos hn]
  ·rw[if_neg hn];show(if(UInt8.ofNat (n%128+128)).toNat<128 then _ else getA f (u*128) (a+(UInt8.ofNat (n%128+128)).toNat%128*u) (numB (n / 128)++l))=_;rw[zj1 (by omega),if_neg (by omega)]
   match f,h with
   |0,h=>simp at h;omega
   |f+1,h=>
    rw[getA_num f _ _ _ l (by rw[qbm (by omega)];rw[Nat.pow_succ] at h;exact h)];have e1:(n%128+128)%128=n%128:=by omega
    rw[e1];have e2:n / 128*(u*128)=n / 128*128*u:=by rw[Nat.mul_comm u,Nat.mul_assoc]
    rw[e2,qbc,←Nat.add_mul,show n%128+n / 128*128=n by omega]
theorem zdU {n:Nat} (l:List UInt8) (h:n<34359738368):getN (numB n++l)=some (n,l):=by
 unfold getN;rw[getA_num 4 1 0 n l h];simp
theorem zi4: ∀(l:List Nat),l.length≤(zF l).length
 | []=>qf _
 |n::l=>by
  have:=zi4 l;have:=numB_pos n;rw[zR,qn,qw];omega
theorem manyN_num {n:Nat} (l:List UInt8) (h:n≤l.length) (hl:n<34359738368):zej (numB n++l)=some (n,l):=by
 unfold zej;rw[zdU l hl,qh,if_pos h]
structure Wr {α:Type} (f:List Sv→List UInt8→Option (α×List UInt8)) (x:α) (w w':WS) (m:Nat):Prop where
 tb: ∃tt,w'.t=w.t++tt
 bd: ∃new,w'.b=w.b++new∧m≤new.length∧ ∀T l,(∃tt,T=w'.t++tt)→T.length<1000000→f T (zF new++l)=some (x,l)
theorem Wr.num (w:WS) {n:Nat} (h:n<34359738368):Wr (fun _=>getN) n w (w.num n) 1:=
 ⟨⟨[],by simp[WS.num]⟩,⟨[n],rfl,qf _,fun T l _ _=>by rw[zR,zcq,qB];exact zdU l h⟩⟩
theorem ment_idx (w:WS) (v:Sv):(w.ment v).t[w.t.idxOf v]? =some v∧ ∃tt,(w.ment v).t=w.t++tt:=by
 unfold WS.ment;by_cases h:v∈w.t
 ·rw[if_pos h];have hi:=List.idxOf_lt_length_of_mem h;exact⟨by rw[qk hi,List.getElem_idxOf hi],[],by simp⟩
 ·rw[if_neg h];have hi:w.t.idxOf v=w.t.length:=List.idxOf_eq_length h;exact⟨by rw[hi];simp,[v],rfl⟩
theorem tab_idx {T t:List Sv} {i:Nat} {v:Sv} (h:t[i]? =some v) (hT: ∃tt,T=t++tt):T[i]? =some v∧i<T.length:=by
 obtain⟨tt,rfl⟩:=hT;have hi:=(qF.1 h).1;exact⟨by rw[qt hi];exact h,by rw[qn];omega⟩
theorem Wr.ref (w:WS) (v:Sv):Wr (fun T=>zcR T v.k) v.n w (w.ref v) 1:=by
 obtain⟨h1,h2⟩:=ment_idx w v;refine⟨h2,⟨[w.t.idxOf v],?_,qf _,fun T l hT hl=> ?_⟩⟩
 ·unfold WS.ref WS.num WS.ment
  split<;>rfl
 ·obtain⟨i1,i2⟩:=tab_idx h1 hT;rw[zR,zcq,qB];unfold zcR;rw[zdU l (by omega),qh,i1,qh,if_pos rfl]
theorem Wr.val (w:WS) {v:Sv} (hv:ValV v):Wr valN v w (w.val v) 1:=by
 unfold WS.val;by_cases hk:v.k≠1
 ·rw[if_pos hk];obtain⟨h1,h2⟩:=ment_idx w v;refine⟨h2,⟨[2*w.t.idxOf v+1],?_,Nat.le_refl _,fun T l hT hl=> ?_⟩⟩
  ·unfold WS.num WS.ment
   split<;>rfl
  ·obtain⟨i1,i2⟩:=tab_idx h1 hT;rw[zR,zcq,qB];unfold valN;rw[zdU l (by omega),qh,if_pos (show(2*w.t.idxOf v+1)%2=1 by omega)];show(T[(2*w.t.idxOf v+1) / 2]?).map _=_;rw[show(2*w.t.idxOf v+1) / 2=w.t.idxOf v by omega,i1];rfl
 ·rw[if_neg hk];have hk:v.k=1:=by omega
  have hr: -1000000000≤v.n∧v.n≤1000000000:=by
   rcases hv with(h|h|h)|h<;>omega
  by_cases h0:0≤v.n
  ·rw[if_pos h0];refine⟨⟨[],by simp[WS.num]⟩,⟨[_],rfl,qf _,fun T l _ _=> ?_⟩⟩;rw[zR,zcq,qB];unfold valN;rw[zdU l (by omega),qh,if_neg (show¬4*v.n.toNat%2=1 by omega),if_pos (show 4*v.n.toNat%4=0 by omega)];show some ((⟨1,((4*v.n.toNat / 4:Nat):Int)⟩:Sv),l)=_;rw[show((4*v.n.toNat / 4:Nat):Int)=v.n by omega,←hk]
  ·rw[if_neg h0];refine⟨⟨[],by simp[WS.num]⟩,⟨[_],rfl,qf _,fun T l _ _=> ?_⟩⟩;rw[zR,zcq,qB];unfold valN;rw[zdU l (by omega),qh,if_neg (show¬(4*(-v.n - 1).toNat+2)%2=1 by omega),if_neg (show¬(4*(-v.n - 1).toNat+2)%4=0 by omega)];show some ((⟨1,-(((4*(-v.n - 1).toNat+2) / 4:Nat):Int) - 1⟩:Sv),l)=_;rw[show -(((4*(-v.n - 1).toNat+2) / 4:Nat):Int) - 1=v.n by omega,←hk]
theorem app2 {α:Type} {a b c:List α} (h1: ∃t,b=a++t) (h2: ∃t,c=b++t): ∃t,c=a++t:=by
 obtain⟨t,rfl⟩:=h1;obtain⟨u,rfl⟩:=h2;exact⟨t++u,by rw[qj]⟩
theorem Wr.bind {α β γ:Type} {f:List Sv→List UInt8→Option (α×List UInt8)} {g:List Sv→List UInt8→Option (β×List UInt8)} {x:α} {y:β} {w w1 w2:WS} {m m2:Nat} (c:α→β→γ) (h1:Wr f x w w1 m) (h2:Wr g y w1 w2 m2):
 Wr (fun T l=>(f T l).bind fun a=>(g T a.2).map fun b=>(c a.1 b.1,b.2)) (c x y) w w2 (m+m2):=by
 obtain⟨t1,n1,e1,l1,r1⟩:=h1;obtain⟨t2,n2,e2,l2,r2⟩:=h2;refine⟨app2 t1 t2,⟨n1++n2,by rw[e2,e1,qj],by rw[qn];omega,fun T l hT hl=> ?_⟩⟩;rw[zcb,qj,r1 T _ (app2 t2 hT) hl,qh];dsimp only;rw[r2 T _ hT hl];rfl
theorem Wr.rep {α:Type} {f:List Sv→List UInt8→Option (α×List UInt8)} {g:WS→α→WS}: ∀(L:List α) (w:WS),(∀w,∀x∈L,Wr f x w (g w x) 1)→(∃tt,(L.foldl g w).t=w.t++tt)∧ ∃new,(L.foldl g w).b=w.b++new∧L.length≤new.length∧ ∀T l acc,(∃tt,T=(L.foldl g w).t++tt)→T.length<1000000→repN (f T) L.length acc (zF new++l)=some (acc++L,l)
 | [],w,_=>⟨⟨[],by simp⟩,[],by simp,qf _,fun T l acc _ _=>by simp[repN,zcq]⟩
 |x::L,w,h=>by
  obtain⟨t1,n1,e1,l1,r1⟩:=h w x (qu ..);obtain⟨t2,n2,e2,l2,r2⟩:=Wr.rep L (g w x) fun w y hy=>h w y (qo _ hy);refine⟨app2 t1 t2,n1++n2,by rw[qi,e2,e1,qj],by rw[qn,qw];omega,fun T l acc hT hl=> ?_⟩;rw[qi] at hT;rw[zcb,qj,qw,zcQ (r1 T _ (app2 t2 hT) hl),r2 T l _ hT hl,qj];rfl
theorem Wr.list {α:Type} {f:List Sv→List UInt8→Option (α×List UInt8)} {g:WS→α→WS} (L:List α) (w:WS) (hL:L.length<34359738368) (h: ∀w,∀x∈L,Wr f x w (g w x) 1):Wr (fun T=>zbK (f T)) L w (L.foldl g (w.num L.length)) 1:=by
 obtain⟨t2,n2,e2,l2,r2⟩:=Wr.rep L (w.num L.length) h;refine⟨t2,⟨L.length::n2,by rw[e2];simp[WS.num],by simp,fun T l hT hl=> ?_⟩⟩;unfold zbK;have:=zi4 n2;rw[zR,qj,manyN_num _ (by rw[qn];omega) hL,qh];exact r2 T l [] hT hl
theorem Wr.mono {α:Type} {f:List Sv→List UInt8→Option (α×List UInt8)} {x:α} {w w':WS} {m m':Nat} (h:Wr f x w w' m) (hm:m'≤m):Wr f x w w' m':=by
 obtain⟨t1,n1,e1,l1,r1⟩:=h;exact⟨t1,n1,e1,by omega,r1⟩
theorem Wr.vals (w:WS) {l:List Sv} (hl:l.length<34359738368) (hv: ∀v∈l,ValV v):Wr zcB l w (w.vals l) 1:=Wr.list (f:=valN) (g:=WS.val) l w hl fun w x hx=>.val w (hv x hx)
theorem Wr.que (w:WS) {q:Qu} (h:QueV q):Wr queN q w (encQ w q) 1:=by
 obtain⟨h1,h2,h3⟩:=h;have a:=Wr.ref w (chn q.ch);have b:=Wr.list (f:=zcB) (g:=WS.vals) q.ms (w.ref (chn q.ch)) (by omega) fun w m hm=>.vals w (by have:=(h3 m hm).1;omega) (h3 m hm).2;exact(a.bind Qu.mk b).mono (by omega)
theorem Wr.wt (w:WS) {y:Wt} {sp:List Int} {last:Int} (h:WaitV sp last y) (hl: -1≤last) (he:y.env.length<34359738368):Wr zeE y w (encW w y) 1:=by
 obtain⟨⟨h1,h1'⟩,h2,h3,h4⟩:=h;have a:=Wr.num w (n:=y.nth.toNat) (by omega);have b:=Wr.ref (w.num y.nth.toNat) (plc y.pl);have c:=Wr.num ((w.num y.nth.toNat).ref (plc y.pl)) (n:=y.nd.toNat) (by omega);have d:=Wr.vals (((w.num y.nth.toNat).ref (plc y.pl)).num y.nd.toNat) he h4;obtain⟨t1,n1,e1,l1,r1⟩:=a;obtain⟨t2,n2,e2,l2,r2⟩:=b;obtain⟨t3,n3,e3,l3,r3⟩:=c;obtain⟨t4,n4,e4,l4,r4⟩:=d;refine⟨app2 t1 (app2 t2 (app2 t3 t4)),⟨n1++(n2++(n3++n4)),by unfold encW;rw[e4,e3,e2,e1];simp only[qj],by rw[qn];omega,fun T l hT hl=> ?_⟩⟩;have T3:=app2 t4 hT;have T2:=app2 t3 T3;have T1:=app2 t2 T2;unfold zeE;rw[zcb,zcb,zcb];simp only[qj];rw[r1 T _ T1 hl,qh];dsimp only;have r2:zcR T 4 _=_:=r2 T (zF n3++(zF n4++l)) T2 hl;rw[r2,qh];dsimp only;rw[r3 T _ T3 hl,qh];dsimp only;rw[r4 T l hT hl];show some ((⟨((y.nth.toNat:Nat):Int),(plc y.pl).n,((y.nd.toNat:Nat):Int),y.env⟩:Wt),l)=_;rw[show((y.nth.toNat:Nat):Int)=y.nth by omega,show((y.nd.toNat:Nat):Int)=y.nd by omega];rfl
theorem rep_pairs: ∀(t:List Sv) (acc:List Sv) (l:List UInt8),(∀v∈t,zb0 v)→repN zhc t.length acc (zF (t.flatMap fun v=>[v.k.toNat,v.n.toNat])++l)=some (acc++t,l)
 | [],acc,l,_=>by simp[repN,zcq]
 |v::t,acc,l,h=>by
  have hv:=h v (qu ..);have b:0≤v.k∧v.k<5∧0≤v.n∧v.n<60:=by
   rcases hv with h|h|h<;>omega
  have e1:zhc (numB v.k.toNat++(numB v.n.toNat++(zF (t.flatMap fun v=>[v.k.toNat,v.n.toNat])++l)))=some (v,zF (t.flatMap fun v=>[v.k.toNat,v.n.toNat])++l):=by
   unfold zhc;rw[zdU _ (by omega),qh];dsimp only;rw[zdU _ (by omega)];show some ((⟨((v.k.toNat:Nat):Int),((v.n.toNat:Nat):Int)⟩:Sv),_)=_;rw[show((v.k.toNat:Nat):Int)=v.k by omega,show((v.n.toNat:Nat):Int)=v.n by omega]
  rw[qK,zcb,zR,zR,zcq];simp only[qj,qB,qw];rw[zcQ e1,rep_pairs t _ l fun v hv=>h v (qo _ hv)];simp
theorem tabN_head (t:List Sv) (l:List UInt8) (h: ∀v∈t,zb0 v) (hl:t.length<34359738368):tabN (zF (zge t)++l)=some (t,l):=by
 unfold tabN zge;have hf:t.length≤(t.flatMap fun v=>[v.k.toNat,v.n.toNat]).length:=by
  rw[List.length_flatMap];have: ∀t:List Sv,t.length≤(t.map fun v=>([v.k.toNat,v.n.toNat]:List Nat).length).sum:=by
   intro t
   induction t with
   |nil=>exact qf _
   |cons v t ih=>simp only[qq,List.sum_cons,qw,qbj] at ih⊢;omega
  exact this t
 have:=zi4 (t.flatMap fun v=>[v.k.toNat,v.n.toNat]);rw[zR,qj,manyN_num _ (by rw[qn];omega) hl,qh];exact rep_pairs t [] l h
theorem seal_ok (first:UInt8) (l:List UInt8):SealOk (zfu (first::l)) first∧(zfu (first::l)).take ((zfu (first::l)).length - 2)=first::l:=by
 have e:(zfu (first::l)).length - 2=(first::l).length:=by simp[zfu,crc]
 have e2:(zfu (first::l)).take ((zfu (first::l)).length - 2)=first::l:=by rw[e];simp[zfu]
 refine⟨⟨by simp[zfu,crc],rfl,?_⟩,e2⟩;rw[e2,e];simp[zfu]
theorem zlc (w:WS) (first:UInt8) (h: ∀v∈w.t,zb0 v) (hl:w.t.length<34359738368):z7 (w.fin first) first=some (w.t,zF w.b):=by
 unfold z7 WS.fin;rw[qbx,if_pos (seal_ok _ _).1,(seal_ok _ _).2];exact tabN_head _ _ h hl
structure Tn (w:WS):Prop where
 nm: ∀v∈w.t,zb0 v
 le:w.t.length≤w.b.length
theorem Tn.num {w:WS} (h:Tn w) (n:Nat):Tn (w.num n):=⟨h.nm,by have:=h.le;simp[WS.num];omega⟩
theorem Tn.ment {w:WS} (h:Tn w) {v:Sv} (hv:zb0 v) (n:Nat):Tn ((w.ment v).num n):=by
 have:=h.le;unfold WS.ment
 split
 ·exact h.num n
 ·refine⟨fun x hx=> ?_,by simp[WS.num];omega⟩;rcases List.mem_append.1 hx with hx|hx
  ·exact h.nm x hx
  ·rw[qv.1 hx];exact hv
theorem Tn.ref {w:WS} (h:Tn w) {v:Sv} (hv:zb0 v):Tn (w.ref v):=h.ment hv _
theorem Tn.val {w:WS} (h:Tn w) {v:Sv} (hv:ValV v):Tn (w.val v):=by
 unfold WS.val
 split
 ·rename_i hk;refine h.ment ?_ _;rcases hv with hv|hv
  ·exact hv
  ·exact absurd hv.1 hk
 ·split<;>exact h.num _
theorem Tn.fold {α:Type} {g:WS→α→WS}: ∀(L:List α) (w:WS),Tn w→(∀w,∀x∈L,Tn w→Tn (g w x))→Tn (L.foldl g w)
 | [],_,h,_=>h
 |x::L,w,h,hg=>Tn.fold L (g w x) (hg w x (qu ..) h) fun w y hy=>hg w y (qo _ hy)
theorem Tn.vals {w:WS} (h:Tn w) {l:List Sv} (hv: ∀v∈l,ValV v):Tn (w.vals l):=Tn.fold l _ (h.num _) fun w x hx hw=>hw.val (hv x hx)
theorem Tn.que {w:WS} (h:Tn w) {q:Qu} (hq:QueV q):Tn (encQ w q):=Tn.fold q.ms _ ((h.ref (name_chn hq.1)).num _) fun w m hm hw=>hw.vals (hq.2.2 m hm).2
theorem lastN_ge {sp:List Int} {ws:List Wt} (h:WaitsV sp ws): ∀i,i≤ws.length→ -1≤zho ws i
 |0,_=>by show(-1:Int)≤ -1;omega
 |i+1,hi=>by
  have a:=lastN_ge h i (by omega);have b:=(h i (by omega)).1.1;have e:zho ws (i+1)=ws[i].nth:=by
   show(match ws[i]? with|some w=>w.nth|none=>0)=_;rw[qk (by omega)]
  rw[e];omega
theorem wsP_ok {x:Pc} (hf:zfY x):Tn (wsP x):=by
 obtain⟨⟨f1,f2,f3,f4⟩,f5,f6,f7,f8,f9⟩:=hf;have t0:Tn ⟨[],[]⟩:=⟨nofun,qf _⟩;have t1:Tn (x.sp.foldl encS ((⟨[],[]⟩:WS).num x.sp.length)):=Tn.fold x.sp _ (t0.num _) fun w n hn hw=>hw.ref (zhi (f6 n hn));have t2:=Tn.fold (g:=encQ) x.qs _ (t1.num x.qs.length) fun w q hq hw=>hw.que (f8 q hq);refine Tn.fold (g:=encW) x.ws _ (t2.num _) fun w y hy hw=> ?_;obtain⟨i,hi,rfl⟩:=qQ hy;obtain⟨h1,h2,h3,h4⟩:=f9 i hi;exact(((hw.num _).ref (zhi (f6 _ h2))).num _).vals h4
theorem pcN_wsP {x:Pc} (hf:zfY x) (he: ∀w∈x.ws,w.env.length<34359738368) (hT:(wsP x).t.length<1000000):pcN ((wsP x).t,zF (wsP x).b)=some x:=by
 obtain⟨⟨f1,f2,f3,f4⟩,f5,f6,f7,f8,f9⟩:=hf;have a:=Wr.list (f:=fun T=>zcR T 4) (g:=encS) x.sp ⟨[],[]⟩ (by omega) fun w n hn=>.ref w (plc n);have b:=Wr.list (f:=queN) (g:=encQ) x.qs (x.sp.foldl encS ((⟨[],[]⟩:WS).num x.sp.length)) (by omega) fun w q hq=>.que w (f8 q hq);have c:=Wr.list (f:=zeE) (g:=encW) x.ws (x.qs.foldl encQ ((x.sp.foldl encS ((⟨[],[]⟩:WS).num x.sp.length)).num x.qs.length)) (by omega) fun w y hy=>by
  obtain⟨i,hi,rfl⟩:=qQ hy;exact .wt w (f9 i hi) (lastN_ge f9 i (by omega)) (he _ hy)
 have hw:wsP x=x.ws.foldl encW ((x.qs.foldl encQ ((x.sp.foldl encS ((⟨[],[]⟩:WS).num x.sp.length)).num x.qs.length)).num x.ws.length):=rfl;rw[←hw] at c;generalize wsP x=z at*;obtain⟨t1,n1,e1,l1,r1⟩:=a;obtain⟨t2,n2,e2,l2,r2⟩:=b;obtain⟨t3,n3,e3,l3,r3⟩:=c;have T3: ∃tt,z.t=z.t++tt:=⟨[],by simp⟩;have T2:=app2 t3 T3;have T1:=app2 t2 T2;have eb:z.b=n1++(n2++n3):=by rw[e3,e2,e1];simp
 unfold pcN;rw[eb,zcb,zcb];have r1:=r1 z.t (zF n2++zF n3) T1 hT;have r2:=r2 z.t (zF n3) T2 hT;have r3:=r3 z.t [] T3 hT;rw[qB] at r3;dsimp only at r1 r2 r3⊢;rw[r1,qh];dsimp only;rw[r2,qh];dsimp only;rw[r3];rfl
theorem fin_len (w:WS) (first:UInt8):w.b.length≤(w.fin first).length:=by
 have:=zi4 w.b;unfold WS.fin zfu;simp only[qn,qw];omega
theorem zjW {x:Pc} (hf:zfY x) (he: ∀w∈x.ws,w.env.length<34359738368) (hl:(zbE x).length≤80000):zcp (zbE x)=(x,0):=by
 have tn:=wsP_ok hf;have b1:=fin_len (wsP x) 80;have b2:=tn.le;have b3:(zbE x).length=((wsP x).fin 80).length:=rfl;have e:(z7 (zbE x) 80).bind pcN=some x:=by
  show(z7 ((wsP x).fin 80) 80).bind pcN=_;rw[zlc _ _ tn.nm (by omega),qh];exact pcN_wsP hf he (by omega)
 unfold zcp;rw[if_neg (by omega),e];dsimp only;rw[if_pos ⟨hf,rfl⟩]
theorem parcelR_some {s:List UInt8} (h:(zcp s).2=0):s.length≤80000∧ ∃x,zcp s=(x,0)∧zfY x∧zbE x=s∧ ∃y,z7 s 80=some y:=by
 unfold zcp at h⊢
 split at h
 ·exact absurd h (by decide)
 ·rename_i hl;rw[if_neg hl]
  split at h
  ·rename_i x hx
   split at h
   ·rename_i hp;refine⟨by omega,x,by rw[if_pos hp],hp.1,hp.2,?_⟩;cases e:z7 s 80 with
    |none=>rw[e] at hx;cases hx
    |some y=>exact⟨y,rfl⟩
   ·exact absurd h (by decide)
  ·exact absurd h (by decide)
theorem openR_some {s:List UInt8} (h:(zjY s).2=0):s.length≤80000∧ ∃x,zjY s=(x,0)∧zir x∧encLt x=s∧ ∃y,z7 s 77=some y:=by
 unfold zjY at h⊢
 split at h
 ·exact absurd h (by decide)
 ·rename_i hl;rw[if_neg hl]
  split at h
  ·rename_i x hx
   split at h
   ·rename_i hp;refine⟨by omega,x,by rw[if_pos hp],hp.1,hp.2,?_⟩;cases e:z7 s 77 with
    |none=>rw[e] at hx;cases hx
    |some y=>exact⟨y,rfl⟩
   ·exact absurd h (by decide)
  ·exact absurd h (by decide)
theorem bytesR_ok {x:Pc} (h:(zhG x).2=0):zfY x∧(zbE x).length≤80000∧zhG x=(zbE x,0):=by
 unfold zhG at h⊢
 split at h
 ·rename_i hf
  split at h
  ·exact absurd h (by decide)
  ·rename_i hl;exact⟨hf,by omega,by rw[if_pos hf,if_neg hl]⟩
 ·exact absurd h (by decide)
end Go.Ideal.S
set_option maxHeartbeats 4000000
namespace Go.Ideal.S
open Go Go.Ideal Q Classical
attribute [local simp] decide_eq_true decide_eq_false zP
section
variable {M M':VM} {k kp:DV→VM→Prop} {n0 j:Nat}
theorem back_fz {y:VM} {d:DV} {s:Nat} {rows:List (List DV)} (hw:M.Wf) (hL:Lb y d s rows) (hf: ∀i,i<M.next→Off d i):Frz y M d (.lst s rows):=by
 rcases hL.v with⟨rfl,e⟩| ⟨p,op,cap,h2,e,h4,_⟩
 ·rw[e];exact .nilS s
 ·rw[e] at hf⊢;have hp:M.next≤p:=qA fun h=>hf p (by omega) rfl;exact .ms0 h4 (hw p hp) rfl hL.row
structure Pr where
 f:Sv
 t:Sv
def ePr (p:Pr):List DV:=[I p.f.k,I p.f.n,I p.t.k,I p.t.n]
def PairV (p:Pr):Prop:=zb0 p.f∧zb0 p.t∧p.f.k=p.t.k
def zfh (l:List Pr):Prop:= ∀i (hi:i<l.length),PairV l[i]∧ ∀p∈l.take i,p.f≠l[i].f
def othV (l:List Pr) (v:Sv):Sv:=match l.find? fun p=>decide (p.f=v) with|some p=>p.t|none=>v
noncomputable def tabR (b:List UInt8):Option (List Sv×List UInt8):=if(zcp b).2=0∨(zjY b).2=0 then z7 b (b.headD 0) else none
noncomputable def namesR (b:List UInt8):List Sv×Int:=if 80000<b.length then([],3) else match tabR b with|some x=>(x.1,0)|none=>([],4)
noncomputable def renR (b:List UInt8) (l:List Pr):List UInt8×Int:=if 80000<b.length∨100<l.length then([],3) else if zfh l then match tabR b with
 |some x=>if(x.1.map (othV l)).Nodup then(zfu (b.headD 0::zF (zge (x.1.map (othV l)))++x.2),0) else([],7)
 |none=>([],4) else([],2)
theorem zjC {b:List UInt8} {f:UInt8} {y:List Sv×List UInt8} (h:z7 b f=some y):b.head? =some f∧tabN ((b.take (b.length - 2)).drop 1)=some y:=by
 unfold z7 at h
 split at h
 ·rename_i a;exact⟨a.2.1,h⟩
 ·cases h
theorem tabR_of {b:List UInt8} (h:(zcp b).2=0∨(zjY b).2=0): ∃t r x xs,tabR b=some (t,r)∧z7 b x=some (t,r)∧b=x::xs∧b.length≤80000:=by
 have key: ∀f y,z7 b f=some y→b.length≤80000→ ∃t r x xs,tabR b=some (t,r)∧z7 b x=some (t,r)∧b=x::xs∧b.length≤80000:=fun f y hy hl=>by
  obtain⟨h1,_⟩:=zjC hy
  match b,h1 with
  |x::xs,h1=>
   cases h1;exact⟨y.1,y.2,_,xs,by unfold tabR;rw[if_pos h];exact hy,hy,rfl,hl⟩
 rcases h with h|h
 ·obtain⟨hl,x,_,_,_,y,hy⟩:=parcelR_some h;exact key 80 y hy hl
 ·obtain⟨hl,x,_,_,_,y,hy⟩:=openR_some h;exact key 77 y hy hl
theorem tabR_no {b:List UInt8} (h1: ¬(zcp b).2=0) (h2: ¬(zjY b).2=0):tabR b=none:=by
 unfold tabR;rw[if_neg (by rintro(h|h)<;>contradiction)]
theorem tabN_small {l:List UInt8} {t:List Sv} {r:List UInt8} (h:tabN l=some (t,r)): ∀v∈t,zfX v:=by
 unfold tabN at h;cases h1:zej l with
 |none=>rw[h1] at h;cases h
 |some x=>
  rw[h1,qh] at h;refine repN_all (P:=zfX) (L:=x.2.length) (fun l v r hl e=> ?_) _ _ _ _ _ (qf _) (fun x hx=>by cases hx) h;have a:=pairN_lt e;have b:=pairN_le e;exact⟨⟨⟨a.1,by omega⟩,a.2.2.1,by omega⟩,by omega⟩
theorem back_kn {e:Int} (h:SM M.next M M') (hk:k (.tup [.lst 2 [],St [],I e]) M):Back k M (.tup [.nilS,St [],I e]) M':=fun _=>by
 refine⟨_,?_,?_,h,hk⟩
 ·refine .tup rfl fun i d e a b=> ?_
  match i with
  |0=>cases a;cases b;exact .nilS 2
  |1=>cases a;cases b;exact .refl _
  |2=>cases a;cases b;exact .refl _
  |i+3=>simp at a
 ·refine .tup fun d hd=> ?_;simp only[List.mem_cons,List.not_mem_nil,or_false] at hd;rcases hd with rfl|rfl|rfl
  ·exact .lst nofun
  ·exact .str _
  ·exact .int _ _
theorem back_tab {y B:VM} {j:Nat} {t:List Sv} {r:List UInt8} {dn:DV} (h1:RdE B y j t r dn) (hB:M.next≤B.next) (hs:SM M.next M B) (hk:k (.tup [.lst 2 (t.map eSv),St r,I 0]) M):Back k M (.tup [dn,St r,I 0]) y:=fun hw=>by
 refine⟨.tup [.lst 2 (t.map eSv),St r,I 0],?_,?_,fun i hi=>(h1.sm i (by omega)).trans (hs i hi),hk⟩
 ·refine .tup rfl fun i d e a b=> ?_
  match i with
  |0=>cases a;cases b;exact back_fz hw h1.ln fun i hi=>h1.fn i (by omega)
  |1=>cases a;cases b;exact .refl _
  |2=>cases a;cases b;exact .refl _
  |i+3=>simp at a
 ·refine .tup fun d hd=> ?_;simp only[List.mem_cons,List.not_mem_nil,or_false] at hd;rcases hd with rfl|rfl|rfl
  ·exact .lst (mapb b_Sv _)
  ·exact .str _
  ·exact .int _ _
attribute [local simp] c_M f_M r_M_1 r_M_2 r_M_3 r_M_4 r_M_5 r_M_6 r_M_7 r_M_8 r_M_9 r_M_10 c_7 f_7 r_7_1 r_7_2 r_7_3
theorem known_ok (b:List UInt8) (h3:80000<b.length→k (.tup [.lst 2 [],St [],I 3]) M) (h4: ¬80000<b.length→tabR b=none→k (.tup [.lst 2 [],St [],I 4]) M) (h0: ∀t r,¬80000<b.length→tabR b=some (t,r)→k (.tup [.lst 2 (t.map eSv),St r,I 0]) M):zg F (.fn n_M [] []) [St b] M k kp:=by
 have wL: ∀x:Pc,zp [.nilS,.nilS,.nilS] 0 (ePc x)=some (ePc x):=fun x=>rfl;have wL2: ∀x:Lt,zp [I 0,.nilS] 0 (eLt x)=some (eLt x):=fun x=>rfl;apply zg.back;refine .fn h_wire_known rfl (by simp[f_M]) ?_;by_cases hl:80000<b.length
 ·have hli:(80000:Int)<b.length:=by omega
  simp(disch:=((try simp only[nx3]);omega)) [hli];exact back_kn (by repeat' (first|assumption|exact zbj _ _|apply zC|apply zT|apply zck| ((try simp only[nx3]);omega))) (h3 hl)
 ·have hli: ¬(80000:Int)<b.length:=by omega
  have h4:=h4 hl;have h0:=fun t r=>h0 t r hl;have tk:= @tabR_of b;have tn:= @tabR_no b;simp(disch:=((try simp only[nx3]);omega)) [hli];refine Parcel_ok b ?_;by_cases hp:(zcp b).2=0
  ·obtain⟨t,r,x,xs,e1,e2,e3,e4⟩:=tk (.inl hp);have h0:=h0 t r e1;have hix:b[0]? =some x:=by rw[e3];rfl
   simp(disch:=((try simp only[nx3]);omega)) [wL,hp,hix];refine ziZ b x (by omega) (fun M1 j t' r' dn e5 r1=> ?_) (fun M1 e5 _=>absurd (e2.symm.trans e5) nofun);have e6:=e2.symm.trans e5;cases e6;have oj:=r1.oj;simp(disch:=((try simp only[nx3]);omega)) [oj];exact back_tab r1 (by simp;omega) (zC (zT (by repeat' (first|assumption|exact zbj _ _|apply zC|apply zT|apply zck| ((try simp only[nx3]);omega))) (qf _)) (qf _)) h0
  ·simp(disch:=((try simp only[nx3]);omega)) [wL,hp];refine Open_ok b ?_;by_cases ho:(zjY b).2=0
   ·obtain⟨t,r,x,xs,e1,e2,e3,e4⟩:=tk (.inr ho);have h0:=h0 t r e1;have hix:b[0]? =some x:=by rw[e3];rfl
    simp(disch:=((try simp only[nx3]);omega)) [wL2,ho,hix];refine ziZ b x (by omega) (fun M1 j t' r' dn e5 r1=> ?_) (fun M1 e5 _=>absurd (e2.symm.trans e5) nofun);have e6:=e2.symm.trans e5;cases e6;have oj:=r1.oj;simp(disch:=((try simp only[nx3]);omega)) [oj];exact back_tab r1 (by simp;omega) (zC (zT (zC (zT (by repeat' (first|assumption|exact zbj _ _|apply zC|apply zT|apply zck| ((try simp only[nx3]);omega))) (qf _)) (qf _)) (by simp;omega)) (by omega)) h0
   ·have h4:=h4 (tn hp ho);simp(disch:=((try simp only[nx3]);omega)) [wL2,ho];exact back_kn (zC (zT (zC (zT (by repeat' (first|assumption|exact zbj _ _|apply zC|apply zT|apply zck| ((try simp only[nx3]);omega))) (qf _)) (qf _)) (by simp;omega)) (by omega)) h4
theorem Names_ok (b:List UInt8) (hk:k (.tup [.lst 2 ((namesR b).1.map eSv),I (namesR b).2]) M):zg F (.fn n_7 [] []) [St b] M k kp:=by
 unfold namesR at hk;apply zg.back;refine .fn h_wire_Names rfl (by simp[f_7]) ?_;simp(disch:=((try simp only[nx3]);omega));refine known_ok b (fun hl=> ?_) (fun hl ht=> ?_) (fun t r hl ht=> ?_)
 ·rw[if_pos hl] at hk;simp(disch:=((try simp only[nx3]);omega));exact Back.plain (.tup fun d hd=>by
   simp only[qy,qC,or_false] at hd;rcases hd with rfl|rfl
   ·exact .lst nofun
   ·exact .int _ _) (by repeat' (first|assumption|exact zbj _ _|apply zC|apply zT|apply zck| ((try simp only[nx3]);omega))) hk
 ·rw[if_neg hl,ht] at hk;simp(disch:=((try simp only[nx3]);omega));exact Back.plain (.tup fun d hd=>by
   simp only[qy,qC,or_false] at hd;rcases hd with rfl|rfl
   ·exact .lst nofun
   ·exact .int _ _) (by repeat' (first|assumption|exact zbj _ _|apply zC|apply zT|apply zck| ((try simp only[nx3]);omega))) hk
 ·rw[if_neg hl,ht] at hk;simp(disch:=((try simp only[nx3]);omega));exact Back.plain (.tup fun d hd=>by
   simp only[qy,qC,or_false] at hd;rcases hd with rfl|rfl
   ·exact .lst (mapb b_Sv _)
   ·exact .int _ _) (by repeat' (first|assumption|exact zbj _ _|apply zC|apply zT|apply zck| ((try simp only[nx3]);omega))) hk
end
section
variable {M M':VM} {k kp:DV→VM→Prop} {n0 j:Nat}
def entP (l:List Pr):List (DV×DV):=l.map fun p=>(.agg (eSv p.f),.agg (eSv p.t))
def entS (l:List Sv):List (DV×DV):=l.map fun v=>(.agg (eSv v),.bool true)
theorem zkm (v:Sv): ∀l:List Pr,zes (.leaves [0,1]) (.agg (eSv v)) (entP l)=some ((l.find? fun p=>decide (p.f=v)).map fun p=>.agg (eSv p.t))
 | []=>rfl
 |p::l=>by
  show((zD (.leaves [0,1]) (.agg (eSv v)) (.agg (eSv p.f))).bind fun b=>match b with|true=>some (some (.agg (eSv p.t)))|false=>zes (.leaves [0,1]) (.agg (eSv v)) (entP l))=_;rw[zcD,qh];by_cases h:p.f=v
  ·rw[decide_eq_true h.symm,qbk (by simp[h])];rfl
  ·rw[decide_eq_false (fun e=>h e.symm),List.find?_cons_of_neg (by simp[h])];exact zkm v l
theorem set_entP (v:Sv) (x:DV): ∀l:List Pr,(∀p∈l,p.f≠v)→setD (.leaves [0,1]) (.agg (eSv v)) x (entP l)=some (entP l++[(.agg (eSv v),x)])
 | [],_=>rfl
 |p::l,h=>by
  show((zD (.leaves [0,1]) (.agg (eSv v)) (.agg (eSv p.f))).bind fun s=>match s with
   |true=>if zb1 (zr (.agg (eSv v))) (zr (.agg (eSv p.f)))=true then some ((.agg (eSv v),x)::entP l) else none
   |false=>(setD (.leaves [0,1]) (.agg (eSv v)) x (entP l)).map fun y=>(.agg (eSv p.f),.agg (eSv p.t))::y)=_
  rw[zcD,qh,decide_eq_false (fun e=>h p (qu ..) e.symm)];dsimp only;rw[set_entP v x l fun q hq=>h q (qo _ hq)];rfl
theorem set_entS (v:Sv): ∀l:List Sv,setD (.leaves [0,1]) (.agg (eSv v)) (.bool true) (entS l)=some (entS (zcE l v))
 | []=>rfl
 |w::l=>by
  show((zD (.leaves [0,1]) (.agg (eSv v)) (.agg (eSv w))).bind fun s=>match s with
   |true=>if zb1 (zr (.agg (eSv v))) (zr (.agg (eSv w)))=true then some ((.agg (eSv v),.bool true)::entS l) else none
   |false=>(setD (.leaves [0,1]) (.agg (eSv v)) (.bool true) (entS l)).map fun y=>(.agg (eSv w),.bool true)::y)=_
  rw[zcD,qh];by_cases h:v=w
  ·subst h;rw[decide_eq_true rfl];dsimp only;rw[if_pos (by simp[zb1,zr,eSv,zfN])];unfold zcE;rw[if_pos (qu ..)];rfl
  ·rw[decide_eq_false h];dsimp only;rw[set_entS v l];unfold zcE;by_cases hm:v∈l
   ·rw[if_pos hm,if_pos (qo _ hm)];rfl
   ·rw[if_neg hm,if_neg (by simp;exact⟨h,hm⟩)];rfl
attribute [local simp] c_j f_j r_j_1 r_j_2 r_j_3 r_j_4 r_j_5 r_j_6 r_j_7 r_j_9 r_5 c_5 f_5 r_5_1 r_5_2 r_5_3 r_5_4 r_5_5 r_5_6
theorem eachV_ok {f:DV} {l:List Sv} (g:Sv→Sv) (Inv:Nat→VM→Prop) (hl:l.length≤1000000) (h0:Inv 0 M) (hst: ∀i y y',Inv i y→M.next≤y.next→(∀q,q<M.next→y'.get q=y.get q)→y.next≤y'.next→Inv i y')
 (hf: ∀i (hi:i<l.length) {y:VM} {k:DV→VM→Prop},Inv i y→M.next≤y.next→(∀y',Inv (i+1) y'→y.next≤y'.next→(∀q,M.next≤q→q<y.next→y'.get q=y.get q)→k (.agg (eSv (g l[i]))) y')→zg F f [.agg (eSv l[i])] y k kp)
 (hk: ∀d' M',Inv l.length M'→M.next≤M'.next→Lb M' d' 2 ((l.map g).map eSv)→(∀q,q<M.next→Off d' q)→k d' M'):zg F (.fn n_j [] []) [.lst 2 (l.map eSv),f] M k kp:=by
 refine .fn zcl rfl (by simp[f_j]) ?_;simp(disch:=((try simp only[nx3]);omega));refine .for (σ:=VM×DV) c_j_8.eq_1 (fun i z=>[(5,z.2),(10,I i)]) (fun z=>z.1) (fun i z=>Inv i z.1∧M.next≤z.1.next∧Lb z.1 z.2 2 (((l.take i).map g).map eSv)∧ ∀q,q<M.next→Off z.2 q) l.length (M,.nilS) (by simp) rfl ⟨h0,qf _,.nil _ _,fun _ _=>trivial⟩ (fun i z hi hP again=> ?_) (fun z hP=> ?_)
 ·obtain⟨y,d⟩:=z;obtain⟨p1,p2,p3,p4⟩:=hP;dsimp only at*;rw[List.take_succ_eq_append_getElem hi] at again;have hf:= @hf i hi;generalize hx:l[i]=v at*;have wS: ∀(x:Sv) (a c:DV),zp [a,c] 0 (eSv x)=some (eSv x):=fun _ _ _=>rfl;simp(disch:=((try simp only[nx3]);omega)) [hi,hx,wS];obtain⟨Y1,hY⟩: ∃Y1,Y1=(y.new (.rows false 2 [[I 0,I 0]])).put y.next (.rows false 2 [eSv v]):=⟨_,rfl⟩;have n1:Y1.next=y.next+2:=by rw[hY];simp
  have kq: ∀q,q<y.next→Y1.get q=y.get q:=fun q hq=>by rw[hY,get_put,if_neg (by omega),get_new,if_neg (by omega)]
  rw[←hY];refine hf (hst i y _ p1 p2 (fun q hq=>kq q (by omega)) (by omega)) (by omega) fun y' i1 n2 k1=> ?_;have p3y:=(p3.keepA (M2:=Y1) (by omega) kq).keep n2 fun q hq hno=>k1 q (qA fun hc=>hno (p4 q (by omega))) hq;simp(disch:=((try simp only[nx3]);omega));refine zgV (p3y.new _) (new:=[eSv (g v)]) (by simp) (by decide) (by simp) (by simp) (by simp;omega) fun d' M' hL hG=> ?_;have hG:=hG.pre;have nx:=hG.nx;have again:=again (M',d') ⟨hst (i+1) y' M' i1 (by omega) (fun q hq=>hG.kp q (by omega) (p4 q hq)) nx,by dsimp only;omega,by simpa using hL,fun q hq=>hG.of q (by omega) (p4 q hq)⟩;simp at again;simp(disch:=((try simp only[nx3]);omega));exact again
 ·obtain⟨y,d⟩:=z;obtain⟨p1,p2,p3,p4⟩:=hP;dsimp only at*;rw[qp] at p3;have hk:=hk d y p1 p2 p3 p4;simp(disch:=((try simp only[nx3]);omega));exact hk
theorem ren1_ok {q6 jm q14 js:Nat} {l:List Pr} {sn:List Sv} (v:Sv) (h1:M.obj q6=some (.rows false 1 [[.map jm]])) (h2:M.obj jm=some (.map (entP l))) (h3:M.obj q14=some (.rows false 1 [[.map js]])) (h4:M.obj js=some (.map (entS sn))) (l1:q6<M.next) (l2:jm<M.next) (l3:q14<M.next) (l4:js<M.next)
 (hk: ∀M',M.next≤M'.next→(∀q,q<M.next→q≠js→M'.get q=M.get q)→M'.obj js=some (.map (entS (zcE sn (othV l v))))→k (.agg (eSv (othV l v))) M'):zg F (.fn n_5 [] [.ptr q6 0 0,.ptr q14 0 0]) [.agg (eSv v)] M k kp:=by
 have hl1:lkE (.leaves [0,1]) (.agg [I 0,I 0]) true (.agg (eSv v)) (some (entP l))=some (zbw (.agg [I 0,I 0]) true ((l.find? fun p=>decide (p.f=v)).map fun p=>.agg (eSv p.t))):=by
  show(match zD (.leaves [0,1]) (.agg (eSv v)) (.agg (eSv v)) with|some _=>(zes (.leaves [0,1]) (.agg (eSv v)) (entP l)).map (zbw (.agg [I 0,I 0]) true)|none=>none)=_;rw[zcD,zkm];rfl
 have hu: ∀(w:Sv) (y:VM),y.obj js=some (.map (entS sn))→updD (.leaves [0,1]) y (.agg (eSv w)) (.bool true) (.map js)=some (y.put js (.map (entS (zcE sn w)))):=fun w y hy=>by
  show(y.obj js).bind _=_;rw[hy];show(zD (.leaves [0,1]) (.agg (eSv w)) (.agg (eSv w))).bind (fun _=>(setD (.leaves [0,1]) (.agg (eSv w)) (.bool true) (entS sn)).map fun es=>y.put js (.map es))=_;rw[zcD,set_entS];rfl
 have wS: ∀(x:Sv) (a c:DV),zp [a,c] 0 (eSv x)=some (eSv x):=fun _ _ _=>rfl;have wS2: ∀(x w:Sv),zp (eSv x) 0 (eSv w)=some (eSv w):=fun _ _=>rfl;unfold othV at hk;refine .fn zkh rfl (by simp[f_5]) ?_;cases hfd:l.find? (fun p=>decide (p.f=v)) with
 |none=>
  rw[hfd] at hl1 hk;dsimp only at hk;simp(disch:=((try simp only[nx3]);omega)) [h1,h2,h3,h4,hl1,zbw];rw[hu v]
  ·simp(disch:=((try simp only[nx3]);omega)) [wS];refine hk _ (by simp;omega) (fun q hq hne=> ?_) (by rw[zO,if_neg (by omega),zO,if_pos rfl]);rw[get_put,if_neg (by omega),get_put,if_neg hne,get_put,if_neg (by omega),get_new,if_neg (by simp;omega),get_new,if_neg (by simp;omega),get_new,if_neg (by omega)]
  ·simp(disch:=((try simp only[nx3]);omega)) [h4]
 |some p=>
  rw[hfd] at hl1 hk;dsimp only at hk;simp(disch:=((try simp only[nx3]);omega)) [h1,h2,h3,h4,hl1,zbw,wS,wS2];rw[hu p.t]
  ·simp(disch:=((try simp only[nx3]);omega)) [wS];refine hk _ (by simp;omega) (fun q hq hne=> ?_) (by rw[zO,if_neg (by omega),zO,if_pos rfl]);rw[get_put,if_neg (by omega),get_put,if_neg hne,get_put,if_neg (by omega),get_put,if_neg (by omega),get_new,if_neg (by simp;omega),get_new,if_neg (by simp;omega),get_new,if_neg (by omega)]
  ·simp(disch:=((try simp only[nx3]);omega)) [h4]
end
section
variable {M M':VM} {k kp:DV→VM→Prop} {n0 j:Nat}
theorem zj6: ∀(l acc:List Sv),acc.Nodup→(l.foldl zcE acc).length≤acc.length+l.length∧((l.foldl zcE acc).length=acc.length+l.length↔(acc++l).Nodup)
 | [],acc,h=>⟨by simp,by simp[h]⟩
 |v::l,acc,h=>by
  rw[qi];by_cases hv:v∈acc
  ·have e:zcE acc v=acc:=if_pos hv;rw[e];have ih:=zj6 l acc h;refine⟨by have:=ih.1;simp;omega,fun e=> ?_,fun hn=> ?_⟩
   ·have:=ih.1;simp at e;omega
   ·exact absurd rfl ((qbd.1 hn).2.2 v hv v (qu ..))
  ·have e:zcE acc v=acc++[v]:=if_neg hv;rw[e];have ih:=zj6 l (acc++[v]) (qbd.2 ⟨h,by simp,fun a ha b hb e=>hv (by rw[←qv.1 hb,←e];exact ha)⟩);rw[qj] at ih;simp only[qn,qw,qbj,qbx,List.nil_append] at ih⊢;exact⟨by omega,fun e=>ih.2.1 (by omega),fun hn=>by have:=ih.2.2 hn;omega⟩
theorem seen_dup (l:List Sv):(l.foldl zcE []).length<l.length↔ ¬l.Nodup:=by
 have h:=zj6 l [] (by simp);simp only[qbj,List.nil_append,Nat.zero_add] at h;constructor
 ·intro e hn;have:=h.2.2 hn;omega
 ·intro hn;have:(l.foldl zcE []).length≠l.length:=fun e=>hn (h.2.1 e);omega
theorem othV_small {l:List Pr} (h:zfh l) {v:Sv} (hv:zfX v):zfX (othV l v):=by
 unfold othV
 split
 ·rename_i p hp;obtain⟨i,hi,rfl⟩:=qQ (qR hp);exact(h i hi).1.2.1.small
 ·exact hv
attribute [local simp] c_m f_m r_m_2 r_m_3 r_m_4 r_m_5 r_m_6 r_m_7 r_m_8 r_m_9 r_m_10 r_m_11 r_m_12 r_m_14 r_m_15 r_m_16 r_m_17 r_m_18 r_m_19 r_m_20 r_m_21
attribute [local simp] r_5
theorem Rename_ok (b:List UInt8) (l:List Pr) (hk:k (.tup [St (renR b l).1,I (renR b l).2]) M):zg F (.fn n_m [] []) [St b,.lst 4 (l.map ePr)] M k kp:=by
 unfold renR at hk;apply zg.back;refine .fn h_wire_Rename rfl (by simp[f_m]) ?_;by_cases hl:80000<b.length
 ·have hli:(80000:Int)<b.length:=by omega
  rw[if_pos (.inl hl)] at hk;simp(disch:=((try simp only[nx3]);omega)) [hli];exact bpl hk
 have hli: ¬(80000:Int)<b.length:=by omega
 by_cases hl2:100<l.length
 ·have hl2i:(100:Int)<l.length:=by omega
  rw[if_pos (.inr hl2)] at hk;simp(disch:=((try simp only[nx3]);omega)) [hli,hl2i];exact bpl hk
 have hl2i: ¬(100:Int)<l.length:=by omega
 rw[if_neg (by rintro(h|h)<;>contradiction)] at hk;have bad: ¬zfh l→k (.tup [St [],I 2]) M:=fun h=>by rw[if_neg h] at hk;exact hk
 simp(disch:=((try simp only[nx3]);omega)) [hli,hl2i];refine .for (σ:=VM) c_m_13.eq_1 (fun i _=>[(27,I i)]) (fun z=>z) (fun i z=>SM M.next M z∧M.next+1<z.next∧z.obj M.next=some (.map (entP (l.take i)))∧z.obj (M.next+1)=some (.rows false 1 [[.map M.next]])∧ ∀j (hj:j<l.length),j<i→PairV l[j]∧ ∀p∈l.take j,p.f≠l[j].f) l.length _ (by simp) rfl ⟨zC (zT (zT (by repeat' (first|assumption|exact zbj _ _|apply zC|apply zT|apply zck| ((try simp only[nx3]);omega))) (qf _)) (by simp)) (by omega),by simp,by simp[entP],by simp,fun j hj h=>by omega⟩ (fun i y hi hP again=> ?_) (fun y hP=> ?_)
 ·obtain⟨p1,p2,p3,p4,p5⟩:=hP;have hin:l.take (i+1)=l.take i++[l[i]]:=qe hi;rw[hin] at again;have bad2: ¬(PairV l[i]∧ ∀p∈l.take i,p.f≠l[i].f)→k (.tup [St [],I 2]) M:=fun h=>bad fun hh=>h (hh i hi);have good:(PairV l[i]∧ ∀p∈l.take i,p.f≠l[i].f)→ ∀j (hj:j<l.length),j<i+1→PairV l[j]∧ ∀p∈l.take j,p.f≠l[j].f:=fun h j hj hji=>by
   by_cases e:j=i
   ·subst e;exact h
   ·exact p5 j hj (by omega)
  clear bad hk;generalize hx:l[i]=p at*;have hl1:lkE (.leaves [0,1]) (.agg [I 0,I 0]) true (.agg [I p.f.k,I p.f.n]) (some (entP (l.take i)))=some (zbw (.agg [I 0,I 0]) true (((l.take i).find? fun q=>decide (q.f=p.f)).map fun q=>.agg (eSv q.t))):=by
   show(match zD (.leaves [0,1]) (.agg (eSv p.f)) (.agg (eSv p.f)) with|some _=>(zes (.leaves [0,1]) (.agg (eSv p.f)) (entP (l.take i))).map (zbw (.agg [I 0,I 0]) true)|none=>none)=_;rw[zcD,zkm];rfl
  have wS: ∀(x:Sv) (a c:DV),zp [a,c] 0 (eSv x)=some (eSv x):=fun _ _ _=>rfl;have t4:zcZ 4 (ePr p)=some [I p.f.k,I p.f.n,I p.t.k,I p.t.n]:=rfl;have wP:zp [I 0,I 0,I 0,I 0] 0 [I p.f.k,I p.f.n,I p.t.k,I p.t.n]=some [I p.f.k,I p.f.n,I p.t.k,I p.t.n]:=rfl;cases hfd:(l.take i).find? (fun q=>decide (q.f=p.f)) with
  |some q=>
   rw[hfd] at hl1;have bad:=bad2 fun h=>h.2 q (qR hfd) (by simpa using List.find?_some hfd);clear again;simp(disch:=((try simp only[nx3]);omega)) [hi,hx,p3,p4,hl1,zbw,wS,wP,t4];exact Back.plain (by simp) (zC (zT (zC (zT p1 (by omega)) (by omega)) (by simp;omega)) (by omega)) bad
  |none=>
   rw[hfd] at hl1;have hnf: ∀q∈l.take i,q.f≠p.f:=fun q hq e=>by
    have:=qU.1 hfd q hq;simp at this;exact this e
   simp(disch:=((try simp only[nx3]);omega)) [hi,hx,p3,p4,hl1,zbw,wS,wP,t4];obtain⟨Y1,hY⟩: ∃Y1,Y1=((((y.new (.rows false 4 [[I 0,I 0,I 0,I 0]])).put y.next (.rows false 4 [[I p.f.k,I p.f.n,I p.t.k,I p.t.n]])).new (.rows false 2 [[I 0,I 0]])).put (y.next+1+1) (.rows false 2 [[I 0,I 0]])):=⟨_,rfl⟩;have n1:Y1.next=y.next+4:=by rw[hY];simp
   have k1: ∀q,q<y.next→Y1.get q=y.get q:=fun q hq=>by rw[hY,get_put,if_neg (by omega),get_new,if_neg (by simp;omega),get_put,if_neg (by omega),get_new,if_neg (by omega)]
   have o8:Y1.obj y.next=some (.rows false 4 [[I p.f.k,I p.f.n,I p.t.k,I p.t.n]]):=by rw[hY,zO,if_neg (by omega),zK _ (by simp;omega),zO,if_pos rfl]
   have sm:SM M.next M Y1:=fun q hq=>(k1 q (by omega)).trans (p1 q hq);have o6:Y1.obj (M.next+1)=some (.rows false 1 [[.map M.next]]):=by
    show(Y1.get _).map _=_;rw[k1 _ p2];exact p4
   have oM:Y1.obj M.next=some (.map (entP (l.take i))):=by
    show(Y1.get _).map _=_;rw[k1 _ (by omega)];exact p3
   rw[←hY];refine name_ok p.f ?_;by_cases a1:zb0 p.f
   ·rw[decide_eq_true a1];simp(disch:=((try simp only[nx3]);omega)) [o8];refine name_ok p.t ?_;by_cases a2:zb0 p.t
    ·rw[decide_eq_true a2];by_cases a3:p.f.k=p.t.k
     ·have good:=good ⟨⟨a1,a2,a3⟩,hnf⟩;have hs:=set_entP p.f (.agg (eSv p.t)) (l.take i) hnf;have hu:updD (.leaves [0,1]) Y1 (.agg [I p.f.k,I p.f.n]) (.agg [I p.t.k,I p.t.n]) (.map M.next)=some (Y1.put M.next (.map (entP (l.take i++[p])))):=by
       show(Y1.obj M.next).bind _=_;rw[oM];show(zD (.leaves [0,1]) (.agg (eSv p.f)) (.agg (eSv p.f))).bind (fun _=>(setD (.leaves [0,1]) (.agg (eSv p.f)) (.agg (eSv p.t)) (entP (l.take i))).map fun es=>Y1.put M.next (.map es))=_;rw[zcD,hs];simp[entP]
      have again:=again (Y1.put M.next (.map (entP (l.take i++[p])))) ⟨zC sm (qf _),by simp;omega,by rw[zO,if_pos rfl],by rw[zO,if_neg (by omega)];exact o6,good⟩;have a3:=eq_true a3;simp at again;simp(disch:=((try simp only[nx3]);omega)) [o8,o6,a3,hu];exact again
     ·have bad:=bad2 fun h=>a3 h.1.2.2;clear again;simp(disch:=((try simp only[nx3]);omega)) [o8,a3];exact Back.plain (by simp) sm bad
    ·have bad:=bad2 fun h=>a2 h.1.2.1;clear again;rw[decide_eq_false a2];simp(disch:=((try simp only[nx3]);omega));exact Back.plain (by simp) sm bad
   ·have bad:=bad2 fun h=>a1 h.1.1;clear again;rw[decide_eq_false a1];simp(disch:=((try simp only[nx3]);omega));exact Back.plain (by simp) sm bad
 ·obtain⟨p1,p2,p3,p4,p5⟩:=hP;rw[List.take_length] at p3;have pv:zfh l:=fun i hi=>p5 i hi hi;rw[if_pos pv] at hk;clear bad p5;simp(disch:=((try simp only[nx3]);omega));refine known_ok b (fun h=>absurd h hl) (fun _ ht=> ?_) (fun t r _ ht=> ?_)
  ·rw[ht] at hk;simp(disch:=((try simp only[nx3]);omega));exact Back.plain (by simp) p1 hk
  ·have hacc:(zcp b).2=0∨(zjY b).2=0:=qA fun h=>by
    unfold tabR at ht;rw[if_neg h] at ht;cases ht
   obtain⟨t',r',x,xs,e1,e2,e3,e4⟩:=tabR_of hacc;rw[ht] at e1;cases e1;rw[ht] at hk;dsimp only at hk;have hle:=zft e2;have hsm:=tabN_small (zjC e2).2;have hix:b[0]? =some x:=by rw[e3];rfl
   have hhd:b.headD 0=x:=by rw[e3];rfl
   rw[hhd] at hk;simp(disch:=((try simp only[nx3]);omega));obtain⟨Z,hZ⟩: ∃Z,Z=((y.new (.map [])).new (.rows false 1 [[.nilM]])).put (y.next+1) (.rows false 1 [[.map y.next]]):=⟨_,rfl⟩;have n1:Z.next=y.next+3:=by rw[hZ];simp
   have k1: ∀q,q<y.next→Z.get q=y.get q:=fun q hq=>by rw[hZ,get_put,if_neg (by omega),get_new,if_neg (by simp;omega),get_new,if_neg (by omega)]
   have z1:Z.obj y.next=some (.map (entS [])):=by rw[hZ,zO,if_neg (by omega),zK _ (by simp)];simp[entS]
   have z2:Z.obj (y.next+1)=some (.rows false 1 [[.map y.next]]):=by rw[hZ,zO,if_pos rfl]
   have z3:Z.obj (M.next+1)=some (.rows false 1 [[.map M.next]]):=by
    show(Z.get _).map _=_;rw[k1 _ p2];exact p4
   have z4:Z.obj M.next=some (.map (entP l)):=by
    show(Z.get _).map _=_;rw[k1 _ (by omega)];exact p3
   rw[←hZ];refine eachV_ok (othV l) (fun i z=>z.obj y.next=some (.map (entS (((t.take i).map (othV l)).foldl zcE [])))∧(∀q,q<Z.next→q≠y.next→z.get q=Z.get q)) (by omega) ⟨z1,fun _ _ _=>rfl⟩ (fun i u u' hI hn hq hn'=> ?_) (fun i hi {u} {k'} hI hn cont=> ?_) (fun d M1 hI hn hL hf=> ?_)
   ·obtain⟨a,c⟩:=hI;refine⟨?_,fun q h1 h2=>(hq q h1).trans (c q h1 h2)⟩;show(u'.get _).map _=_;rw[hq _ (by omega)];exact a
   ·obtain⟨a,c⟩:=hI;have w2:u.obj (y.next+1)=some (.rows false 1 [[.map y.next]]):=by
     show(u.get _).map _=_;rw[c _ (by omega) (by omega)];exact z2
    have w3:u.obj (M.next+1)=some (.rows false 1 [[.map M.next]]):=by
     show(u.get _).map _=_;rw[c _ (by omega) (by omega)];exact z3
    have w4:u.obj M.next=some (.map (entP l)):=by
     show(u.get _).map _=_;rw[c _ (by omega) (by omega)];exact z4
    refine ren1_ok t[i] w3 w4 w2 a (by omega) (by omega) (by omega) (by omega) fun M2 g1 g2 g3=>cont M2 ⟨?_,fun q h1 h2=>(g2 q (by omega) h2).trans (c q h1 h2)⟩ g1 fun q h1 h2=>g2 q h2 (by omega);rw[qe hi,qD,qL];exact g3
   ·obtain⟨a,c⟩:=hI;rw[qp] at a;have w2:M1.obj (y.next+1)=some (.rows false 1 [[.map y.next]]):=by
     show(M1.get _).map _=_;rw[c _ (by omega) (by omega)];exact z2
    have sm:SM M.next M M1:=fun q hq=>by rw[c q (by omega) (by omega),k1 q (by omega)];exact p1 q hq
    have hlen:(entS ((t.map (othV l)).foldl zcE [])).length=((t.map (othV l)).foldl zcE []).length:=by simp[entS]
    have hdup:=seen_dup (t.map (othV l));have hsn: ∀v∈t.map (othV l),zfX v:=fun v hv=>by
     obtain⟨u,hu,rfl⟩:=qm.1 hv;exact othV_small pv (hsm u hu)
    have htl:(t.map (othV l)).length=t.length:=by simp
    generalize t.map (othV l)=now at*;generalize now.foldl zcE []=sn at*;by_cases hd:now.Nodup
    ·rw[if_pos hd] at hk;have hns: ¬((entS sn).length:Int)<now.length:=by rw[hlen];intro h;exact hdup.1 (by omega) hd
     have hhl:(zF (zge now)).length≤10+20*now.length:=by
      have h1:=tabB_len now hsn;have h2:=zbn now.length (by have:=big1;omega);have e:zF (zge now)=numB now.length++tabB now:=by unfold zge;rw[zR];rfl
      rw[e,qn];omega
     simp(disch:=((try simp only[nx3]);omega)) [w2,a,hL.len,hns,hix];refine head_ok x hL hsn (by omega) fun d2 M2 h2 n2 k2 f2=> ?_;simp(disch:=((try simp only[nx3]);omega));refine zgV h2 (new:=r.map eB) (by simp[zbA,zlH,eB]) (by decide) (mapc c_B _) (mapl n_B _) (by simp;omega) fun d3 M3 hL3 hG3=> ?_;simp(disch:=((try simp only[nx3]);omega));refine sealed_ok (l:=x::zF (zge now)++r) (by simpa using hL3) (by simp;omega) fun M4 n4 k4=> ?_;simp(disch:=((try simp only[nx3]);omega));refine Back.plain (by simp) (fun q hq=> ?_) hk;rw[k4 q (by have:=hG3.nx;omega) (hG3.of q (by omega) (f2 q (by omega))),hG3.kp q (by omega) (f2 q (by omega)),k2 q (by omega)];exact sm q hq
    ·rw[if_neg hd] at hk;have hns:((entS sn).length:Int)<now.length:=by rw[hlen];have:=hdup.2 hd;omega
     simp(disch:=((try simp only[nx3]);omega)) [w2,a,hL.len,hns];exact Back.plain (by simp) sm hk
end
end Go.Ideal.S
namespace Go.Ideal.S
open Go Go.Ideal
inductive Wop
 |num (n:Nat)
 |ref (v:Sv)
 |val (v:Sv)
def Wop.run (w:WS):Wop→WS
 |.num n=>w.num n
 |.ref v=>w.ref v
 |.val v=>w.val v
def Wop.ren (σ:Sv→Sv):Wop→Wop
 |.num n=>.num n
 |.ref v=>.ref (σ v)
 |.val v=>.val (σ v)
def Wop.ment:Wop→Option Sv
 |.num _=>none
 |.ref v=>some v
 |.val v=>if v.k=1 then none else some v
def opsV (l:List Sv):List Wop:=.num l.length::l.map .val
def opsQ (q:Qu):List Wop:=.ref (chn q.ch):: .num q.ms.length::q.ms.flatMap opsV
def opsW (y:Wt):List Wop:=.num y.nth.toNat:: .ref (plc y.pl):: .num y.nd.toNat::opsV y.env
def opsP (x:Pc):List Wop:=.num x.sp.length::(x.sp.map fun n=>Wop.ref (plc n))++(.num x.qs.length::x.qs.flatMap opsQ)++(.num x.ws.length::x.ws.flatMap opsW)
theorem zhx {α β γ:Type} (f:α→List β) (g:γ→β→γ): ∀(l:List α) (a:γ),(l.flatMap f).foldl g a=l.foldl (fun a x=>(f x).foldl g a) a
 | [],_=>rfl
 |x::l,a=>by rw[qK,qL,qi,zhx f g l]
theorem fold_map {α β γ:Type} (f:α→β) (g:γ→β→γ): ∀(l:List α) (a:γ),(l.map f).foldl g a=l.foldl (fun a x=>g a (f x)) a
 | [],_=>rfl
 |x::l,a=>by rw[qq,qi,qi,fold_map f g l]
theorem opsV_run (l:List Sv) (w:WS):(opsV l).foldl Wop.run w=w.vals l:=by
 unfold opsV;rw[qi,fold_map];rfl
theorem opsQ_run (q:Qu) (w:WS):(opsQ q).foldl Wop.run w=encQ w q:=by
 unfold opsQ encQ;rw[qi,qi,zhx];have:(fun a x=>(opsV x).foldl Wop.run a)=WS.vals:=by funext a x;exact opsV_run x a
 rw[this];rfl
theorem opsW_run (y:Wt) (w:WS):(opsW y).foldl Wop.run w=encW w y:=by
 unfold opsW encW;rw[qi,qi,qi,opsV_run];rfl
theorem zf5 (x:Pc):(opsP x).foldl Wop.run ⟨[],[]⟩=wsP x:=by
 unfold opsP wsP;rw[qL,qL,qi,qi,qi,fold_map,zhx,zhx];have h1:(fun a x=>(opsQ x).foldl Wop.run a)=encQ:=by funext a x;exact opsQ_run x a
 have h2:(fun a x=>(opsW x).foldl Wop.run a)=encW:=by funext a x;exact opsW_run x a
 rw[h1,h2];rfl
theorem ment_sub (w:WS) (v:Sv):(∀u∈w.t,u∈(w.ment v).t)∧v∈(w.ment v).t∧(w.t.Nodup→(w.ment v).t.Nodup):=by
 unfold WS.ment;by_cases h:v∈w.t
 ·rw[if_pos h];exact⟨fun u hu=>hu,h,fun hn=>hn⟩
 ·rw[if_neg h];exact⟨fun u hu=>qO _ hu,qbn _ (qv.2 rfl),fun hn=>qbd.2 ⟨hn,by simp,fun a ha b hb e=>h (by rw[←qv.1 hb,←e];exact ha)⟩⟩
theorem run_sub (w:WS) (o:Wop):(∀u∈w.t,u∈(o.run w).t)∧(∀v,o.ment=some v→v∈(o.run w).t)∧(w.t.Nodup→(o.run w).t.Nodup):=by
 cases o with
 |num n=>exact⟨fun u hu=>hu,nofun,fun h=>h⟩
 |ref v=>
  obtain⟨a,b,c⟩:=ment_sub w v;exact⟨a,fun u hu=>by cases hu;exact b,c⟩
 |val v=>
  obtain⟨a,b,c⟩:=ment_sub w v;show(∀u∈w.t,u∈(w.val v).t)∧(∀u,(if v.k=1 then none else some v)=some u→u∈(w.val v).t)∧(w.t.Nodup→(w.val v).t.Nodup);unfold WS.val;by_cases hk:v.k=1
  ·rw[if_neg (by omega),if_pos hk]
   split<;>exact⟨fun u hu=>hu,nofun,fun h=>h⟩
  ·rw[if_pos hk,if_neg hk];exact⟨a,fun u hu=>by cases hu;exact b,c⟩
theorem zhw: ∀(l:List Wop) (w:WS),(∀u∈w.t,u∈(l.foldl Wop.run w).t)∧(∀o∈l,∀v,o.ment=some v→v∈(l.foldl Wop.run w).t)∧(w.t.Nodup→(l.foldl Wop.run w).t.Nodup)
 | [],w=>⟨fun u hu=>hu,nofun,fun h=>h⟩
 |o::l,w=>by
  obtain⟨a,b,c⟩:=run_sub w o;obtain⟨a2,b2,c2⟩:=zhw l (o.run w);rw[qi];refine⟨fun u hu=>a2 u (a u hu),fun p hp v hv=> ?_,fun h=>c2 (c h)⟩;rcases qy.1 hp with rfl|hp
  ·exact a2 v (b v hv)
  ·exact b2 p hp v hv
structure Ren (σ:Sv→Sv) (D:Sv→Prop):Prop where
 inj: ∀u v,D u→D v→σ u=σ v→u=v
 kd: ∀v,(σ v).k=v.k
 one: ∀v:Sv,v.k=1→σ v=v
theorem idx_map {σ:Sv→Sv} {D:Sv→Prop} (h:Ren σ D) (v:Sv) (hv:D v): ∀t:List Sv,(∀u∈t,D u)→(t.map σ).idxOf (σ v)=t.idxOf v∧(σ v∈t.map σ↔v∈t)
 | [],_=>⟨rfl,by simp⟩
 |u::t,ht=>by
  obtain⟨a,b⟩:=idx_map h v hv t fun x hx=>ht x (qo _ hx);have hu:=ht u (qu ..);rw[qq,List.idxOf_cons,List.idxOf_cons];by_cases e:u=v
  ·subst e;simp
  ·have e2: ¬σ u=σ v:=fun h'=>e (h.inj u v hu hv h');rw[beq_eq_false_iff_ne.2 e,beq_eq_false_iff_ne.2 e2,a];refine⟨rfl,?_⟩;simp only[List.mem_cons,b];constructor
   ·rintro(h'|h')
    ·exact absurd h'.symm e2
    ·exact .inr h'
   ·rintro(h'|h')
    ·exact absurd h'.symm e
    ·exact .inr h'
theorem ment_ren {σ:Sv→Sv} {D:Sv→Prop} (h:Ren σ D) {w w':WS} (h1:w'.t=w.t.map σ) (h2:w'.b=w.b) (hw: ∀u∈w.t,D u) {v:Sv} (hv:D v):(w'.ment (σ v)).t=(w.ment v).t.map σ∧(w'.ment (σ v)).b=(w.ment v).b∧w'.t.idxOf (σ v)=w.t.idxOf v:=by
 obtain⟨a,b⟩:=idx_map h v hv w.t hw;unfold WS.ment;rw[h1];by_cases hm:v∈w.t
 ·rw[if_pos hm,if_pos (b.2 hm)];exact⟨h1,h2,a⟩
 ·rw[if_neg hm,if_neg (fun h=>hm (b.1 h))];exact⟨by simp,h2,a⟩
theorem run_ren {σ:Sv→Sv} {D:Sv→Prop} (h:Ren σ D) {w w':WS} (h1:w'.t=w.t.map σ) (h2:w'.b=w.b) (hw: ∀u∈w.t,D u) (o:Wop) (ho: ∀v,o.ment=some v→D v):((o.ren σ).run w').t=(o.run w).t.map σ∧((o.ren σ).run w').b=(o.run w).b:=by
 cases o with
 |num n=>exact⟨h1,by show w'.b++[n]=w.b++[n];rw[h2]⟩
 |ref v=>
  obtain⟨a,b,c⟩:=ment_ren h h1 h2 hw (ho v rfl);exact⟨a,by show(w'.ment (σ v)).b++[w'.t.idxOf (σ v)]=(w.ment v).b++[w.t.idxOf v];rw[b,c]⟩
 |val v=>
  show(w'.val (σ v)).t=(w.val v).t.map σ∧(w'.val (σ v)).b=(w.val v).b;unfold WS.val;rw[h.kd];by_cases hk:v.k=1
  ·rw[if_neg (show¬v.k≠1 from fun h=>h hk),if_neg (show¬v.k≠1 from fun h=>h hk),h.one v hk];by_cases h0:0≤v.n
   ·rw[if_pos h0,if_pos h0];exact⟨h1,by show w'.b++[_]=w.b++[_];rw[h2]⟩
   ·rw[if_neg h0,if_neg h0];exact⟨h1,by show w'.b++[_]=w.b++[_];rw[h2]⟩
  ·rw[if_pos hk,if_pos hk];obtain⟨a,b,c⟩:=ment_ren h h1 h2 hw (ho v (if_neg hk));exact⟨a,by show(w'.ment (σ v)).b++[2*w'.t.idxOf (σ v)+1]=(w.ment v).b++[2*w.t.idxOf v+1];rw[b,c]⟩
theorem fold_ren {σ:Sv→Sv} {D:Sv→Prop} (h:Ren σ D): ∀(l:List Wop) (w w':WS),w'.t=w.t.map σ→w'.b=w.b→(∀u∈(l.foldl Wop.run w).t,D u)→((l.map (Wop.ren σ)).foldl Wop.run w').t=(l.foldl Wop.run w).t.map σ∧((l.map (Wop.ren σ)).foldl Wop.run w').b=(l.foldl Wop.run w).b
 | [],w,w',h1,h2,_=>⟨h1,h2⟩
 |o::l,w,w',h1,h2,hD=>by
  rw[qi] at hD;obtain⟨a,b,_⟩:=run_sub w o;obtain⟨a2,_,_⟩:=zhw l (o.run w);obtain⟨r1,r2⟩:=run_ren h h1 h2 (fun u hu=>hD u (a2 u (a u hu))) o fun v hv=>hD v (a2 v (b v hv));rw[qq,qi,qi];exact fold_ren h l _ _ r1 r2 hD
def renP (σ:Sv→Sv) (x:Pc):Pc:=⟨x.sp.map fun n=>(σ (plc n)).n,x.qs.map fun q=>⟨(σ (chn q.ch)).n,q.ms.map fun m=>m.map σ⟩,x.ws.map fun w=>⟨w.nth,(σ (plc w.pl)).n,w.nd,w.env.map σ⟩⟩
section
variable {σ:Sv→Sv} {D:Sv→Prop}
theorem plc_ren (h:Ren σ D) (n:Int):plc (σ (plc n)).n=σ (plc n):=by
 have:=h.kd (plc n);have e:(plc n).k=4:=rfl;rw[e] at this;show(⟨4,(σ (plc n)).n⟩:Sv)=_;rw[←this]
theorem chn_ren (h:Ren σ D) (n:Int):chn (σ (chn n)).n=σ (chn n):=by
 have:=h.kd (chn n);have e:(chn n).k=3:=rfl;rw[e] at this;show(⟨3,(σ (chn n)).n⟩:Sv)=_;rw[←this]
theorem opsV_ren (l:List Sv):opsV (l.map σ)=(opsV l).map (Wop.ren σ):=by
 unfold opsV;rw[qd,qq,qM,qM];rfl
theorem zi9 {α β:Type} (f:α→List β) (g:β→β) (r:α→α) (h: ∀x,f (r x)=(f x).map g): ∀l:List α,(l.map r).flatMap f=(l.flatMap f).map g
 | []=>rfl
 |x::l=>by rw[qq,qK,qK,qD,h,zi9 f g r h l]
theorem opsP_ren (h:Ren σ D) (x:Pc):opsP (renP σ x)=(opsP x).map (Wop.ren σ):=by
 unfold opsP renP;dsimp only;rw[qd,qd,qd,qD,qD,qq,qq,qq,qM,qM,zi9 opsQ (Wop.ren σ) _ (fun q=> ?_) x.qs,zi9 opsW (Wop.ren σ) _ (fun y=> ?_) x.ws]
 ·have:(fun n=>Wop.ref (plc n))∘(fun n=>(σ (plc n)).n)=Wop.ren σ∘fun n=>Wop.ref (plc n):=by
   funext n
   show Wop.ref (plc (σ (plc n)).n)=Wop.ref (σ (plc n));rw[plc_ren h]
  rw[this];rfl
 ·unfold opsW;dsimp only;rw[plc_ren h,opsV_ren];rfl
 ·unfold opsQ;dsimp only;rw[chn_ren h,qd,zi9 opsV (Wop.ren σ) _ (fun l=>opsV_ren l) q.ms];rfl
theorem wsP_ren (h:Ren σ D) (x:Pc) (hD: ∀u∈(wsP x).t,D u):(wsP (renP σ x)).t=(wsP x).t.map σ∧(wsP (renP σ x)).b=(wsP x).b:=by
 rw[←zf5,←zf5,opsP_ren h];exact fold_ren h (opsP x) ⟨[],[]⟩ ⟨[],[]⟩ rfl rfl (by rw[zf5];exact hD)
end
theorem wsP_nodup (x:Pc):(wsP x).t.Nodup:=by
 rw[←zf5];exact(zhw (opsP x) ⟨[],[]⟩).2.2 (by simp)
theorem wsP_plc {x:Pc} {n:Int} (h:n∈x.sp):plc n∈(wsP x).t:=by
 rw[←zf5];exact(zhw (opsP x) ⟨[],[]⟩).2.1 (.ref (plc n)) (by
  unfold opsP;exact qO _ (qO _ (qo _ (qm.2 ⟨n,h,rfl⟩))))                                                                 _ rfl
theorem wsP_chn {x:Pc} {q:Qu} (h:q∈x.qs):chn q.ch∈(wsP x).t:=by
 rw[←zf5];exact(zhw (opsP x) ⟨[],[]⟩).2.1 (.ref (chn q.ch)) (by
  unfold opsP;exact qO _ (qbn _ (qo _ (List.mem_flatMap.2 ⟨q,h,qu ..⟩))))                                                                       _ rfl
theorem zhh {α β:Type} {f:α→β}: ∀{l:List α},l.Nodup→(∀a∈l,∀b∈l,f a=f b→a=b)→(l.map f).Nodup
 | [],_,_=>by simp
 |x::l,h,hf=>by
  rw[qq];obtain⟨h1,h2⟩:=qbb.1 h;refine qbb.2 ⟨fun hm=> ?_,zhh h2 fun a ha b hb=>hf a (qo _ ha) b (qo _ hb)⟩;obtain⟨y,hy,e⟩:=qm.1 hm;rw[←hf y (qo _ hy) x (qu ..) e] at h1;exact h1 hy
theorem ziw {α β:Type} {f:α→β}: ∀{l:List α},(l.map f).Nodup→ ∀a∈l,∀b∈l,f a=f b→a=b
 | [],_,a,ha,_,_,_=>by cases ha
 |x::l,h,a,ha,b,hb,e=>by
  rw[qq] at h;obtain⟨h1,h2⟩:=qbb.1 h;rcases qy.1 ha with rfl|ha'
  ·rcases List.mem_cons.1 hb with rfl|hb'
   ·rfl
   ·exact absurd (qm.2 ⟨b,hb',e.symm⟩) h1
  ·rcases List.mem_cons.1 hb with rfl|hb'
   ·exact absurd (qm.2 ⟨a,ha',e⟩) h1
   ·exact ziw h2 a ha' b hb' e
theorem nodup_len {α:Type} [DecidableEq α]: ∀(l m:List α),l.Nodup→(∀x∈l,x∈m)→l.length≤m.length
 | [],_,_,_=>Nat.zero_le _
 |x::l,m,h,hm=>by
  obtain⟨h1,h2⟩:=qbb.1 h;have hx:=hm x (qu ..);have ih:=nodup_len l (m.erase x) h2 fun y hy=>(List.mem_erase_of_ne (fun e=>h1 (by rw[←e];exact hy))).2 (hm y (qo _ hy));rw[List.length_erase_of_mem hx] at ih;have:0<m.length:=List.length_pos_of_mem hx;rw[qw];omega
section
variable {l:List Pr}
theorem zef (l:List Pr) (v:Sv):(∃p∈l,p.f=v∧othV l v=p.t)∨((∀p∈l,p.f≠v)∧othV l v=v):=by
 unfold othV;cases h:l.find? (fun p=>decide (p.f=v)) with
 |some p=>exact .inl ⟨p,qR h,by simpa using List.find?_some h,rfl⟩
 |none=>exact .inr ⟨fun p hp e=>by have:=qU.1 h p hp;simp at this;exact this e,rfl⟩
theorem pair_of (h:zfh l) {p:Pr} (hp:p∈l):PairV p:=by
 obtain⟨i,hi,rfl⟩:=qQ hp;exact(h i hi).1
theorem name_k {v:Sv} (h:zb0 v):v.k≠1:=by
 rcases h with h|h|h<;>omega
theorem zhd (h:zfh l) {v:Sv} (hv:zb0 v):zb0 (othV l v):=by
 rcases zef l v with⟨p,hp,_,e⟩| ⟨_,e⟩<;>rw[e]
 ·exact(pair_of h hp).2.1
 ·exact hv
theorem zi2 (h:zfh l) {T:List Sv} (hn:(T.map (othV l)).Nodup):Ren (othV l) (· ∈T):=by
 refine⟨fun u v hu hv e=>ziw hn u hu v hv e,fun v=> ?_,fun v hv=> ?_⟩
 ·rcases zef l v with⟨p,hp,e1,e⟩| ⟨_,e⟩<;>rw[e];have:=(pair_of h hp).2.2;rw[e1] at this;exact this.symm
 ·rcases zef l v with⟨p,hp,e1,e⟩| ⟨_,e⟩
  ·exact absurd (by rw[e1];exact hv) (name_k (pair_of h hp).1)
  ·exact e
theorem fine_ren (h:zfh l) {x:Pc} (hf:zfY x) (hn:((wsP x).t.map (othV l)).Nodup):zfY (renP (othV l) x):=by
 have hr:=zi2 h hn;obtain⟨⟨f1,f2,f3,f4⟩,f5,f6,f7,f8,f9⟩:=hf;have hval: ∀v,ValV v→ValV (othV l v):=fun v hv=>by
  rcases hv with hv|hv
  ·exact .inl (zhd h hv)
  ·rw[hr.one v hv.1];exact .inr hv
 have hp: ∀n,0≤n∧n<24→0≤(othV l (plc n)).n∧(othV l (plc n)).n<24:=fun n hn=>by
  have a:=zhd h (zhi hn);have b:=hr.kd (plc n);have c:(plc n).k=4:=rfl;rcases a with a|a|a<;>omega
 have hc: ∀n,0≤n∧n<60→0≤(othV l (chn n)).n∧(othV l (chn n)).n<60:=fun n hn=>by
  have a:=zhd h (name_chn hn);have b:=hr.kd (chn n);have c:(chn n).k=3:=rfl;rcases a with a|a|a<;>omega
 have hmsg: ∀m,MsgV m→MsgV (m.map (othV l)):=fun m hm=>⟨by rw[qd];exact hm.1,fun v hv=>by
  obtain⟨u,hu,rfl⟩:=qm.1 hv;exact hval u (hm.2 u hu)⟩
 refine⟨⟨?_,?_,?_,?_⟩,?_,?_,?_,?_,?_⟩
 ·show 1≤(x.sp.map _).length;rw[qd];exact f1
 ·show(x.sp.map _).length≤24;rw[qd];exact f2
 ·show(x.qs.map _).length≤60;rw[qd];exact f3
 ·show(x.ws.map _).length≤40;rw[qd];exact f4
 ·refine zhh f5 fun a ha b hb e=> ?_;have e2:othV l (plc a)=othV l (plc b):=by rw[←plc_ren hr a,←plc_ren hr b,e]
  have e3:=hr.inj _ _ (wsP_plc ha) (wsP_plc hb) e2;exact congrArg Sv.n e3
 ·intro n hn;obtain⟨m,hm,rfl⟩:=qm.1 hn;exact hp m (f6 m hm)
 ·show((x.qs.map _).map Qu.ch).Nodup;rw[List.map_map];have e0:(Qu.ch∘fun q:Qu=>(⟨(othV l (chn q.ch)).n,q.ms.map fun m=>m.map (othV l)⟩:Qu))=(fun n=>(othV l (chn n)).n)∘Qu.ch:=rfl;rw[e0,←List.map_map];refine zhh f7 fun a ha b hb e=> ?_;obtain⟨qa,hqa,rfl⟩:=List.mem_map.1 ha;obtain⟨qb,hqb,rfl⟩:=List.mem_map.1 hb;have e2:othV l (chn qa.ch)=othV l (chn qb.ch):=by rw[←chn_ren hr qa.ch,←chn_ren hr qb.ch,e]
  have e3:=hr.inj _ _ (wsP_chn hqa) (wsP_chn hqb) e2;exact congrArg Sv.n e3
 ·intro q hq;obtain⟨u,hu,rfl⟩:=qm.1 hq;obtain⟨a,b,c⟩:=f8 u hu;refine⟨hc _ a,by rw[qd];exact b,fun m hm=> ?_⟩;obtain⟨m',hm',rfl⟩:=qm.1 hm;exact hmsg m' (c m' hm')
 ·intro i hi;have hi':i<x.ws.length:=by
   have:i<(x.ws.map fun w=>(⟨w.nth,(othV l (plc w.pl)).n,w.nd,w.env.map (othV l)⟩:Wt)).length:=hi
   rwa [qd] at this
  obtain⟨⟨a1,a2⟩,a3,a4,a5⟩:=f9 i hi';have hl:zho (renP (othV l) x).ws i=zho x.ws i:=by
   cases i with
   |zero=>rfl
   |succ i=>
    show(match(x.ws.map fun w=>(⟨w.nth,(othV l (plc w.pl)).n,w.nd,w.env.map (othV l)⟩:Wt))[i]? with|some w=>w.nth|none=>0)=(match x.ws[i]? with|some w=>w.nth|none=>0);rw[qW];cases x.ws[i]?<;>rfl
  have hw:(renP (othV l) x).ws[i]=⟨x.ws[i].nth,(othV l (plc x.ws[i].pl)).n,x.ws[i].nd,x.ws[i].env.map (othV l)⟩:=by
   exact qX ..
  rw[hl,hw];refine⟨⟨a1,a2⟩,qm.2 ⟨_,a3,rfl⟩,a4,fun v hv=> ?_⟩;obtain⟨u,hu,rfl⟩:=qm.1 hv;exact hval u (a5 u hu)
theorem numB_one {n:Nat} (h:n<128):(numB n).length=1:=by rw[numB,if_pos h];rfl
theorem zhT: ∀t:List Sv,(∀v∈t,zb0 v)→(tabB t).length=2*t.length
 | [],_=>rfl
 |v::t,h=>by
  have hv:=h v (qu ..);have b:0≤v.k∧v.k<5∧0≤v.n∧v.n<60:=by
   rcases hv with h|h|h<;>omega
  have ih:=zhT t fun u hu=>h u (qo _ hu);unfold tabB at ih⊢;rw[qK,zcb,zR,zR,zcq,qn,qn,qn,ih,numB_one (by omega),numB_one (by omega),qw];simp;omega
theorem fin_same {w w':WS} (first:UInt8) (h1: ∀v∈w.t,zb0 v) (h2: ∀v∈w'.t,zb0 v) (hl:w'.t.length=w.t.length) (hb:w'.b=w.b):(w'.fin first).length=(w.fin first).length:=by
 have e: ∀t,zF (zge t)=numB t.length++tabB t:=fun t=>by unfold zge;rw[zR];rfl
 unfold WS.fin zfu;simp only[qn,qw,e,zhT _ h1,zhT _ h2,hl,hb,crc_len]
def zgi (l:List Pr) (T:List Sv):List Pr:=T.foldl (fun a v=>if othV l v=v then a else a++[⟨othV l v,v⟩]) []
theorem back_eq (l:List Pr): ∀(T:List Sv) (a:List Pr),T.foldl (fun a v=>if othV l v=v then a else a++[⟨othV l v,v⟩]) a=a++(T.filter fun v=>decide (othV l v≠v)).map fun v=>⟨othV l v,v⟩
 | [],a=>by simp
 |v::T,a=>by
  rw[qi,back_eq l T];by_cases h:othV l v=v
  ·rw[if_pos h,List.filter_cons_of_neg (by simp[h])]
  ·rw[if_neg h,List.filter_cons_of_pos (by simp[h])];simp
theorem zjh (l:List Pr) (T:List Sv):zgi l T=(T.filter fun v=>decide (othV l v≠v)).map fun v=>⟨othV l v,v⟩:=by
 unfold zgi;rw[back_eq];rfl
theorem zix {α:Type} (p:α→Bool) {T:List α} (h:T.Nodup):(T.filter p).Nodup:=List.Sublist.nodup List.filter_sublist h
theorem back_len {T:List Sv} (hT:T.Nodup):(zgi l T).length≤l.length:=by
 rw[zjh,qd];have:=nodup_len (T.filter fun v=>decide (othV l v≠v)) (l.map Pr.f) (zix _ hT) fun v hv=>by
  have hv:=(qJ.1 hv).2;simp at hv;rcases zef l v with⟨p,hp,e,_⟩| ⟨_,e⟩
  ·exact qm.2 ⟨p,hp,e⟩
  ·exact absurd e hv
 rwa [qd] at this
theorem back_pairs (h:zfh l) {T:List Sv} (hN: ∀v∈T,zb0 v) (hT:T.Nodup) (hn:(T.map (othV l)).Nodup):zfh (zgi l T):=by
 have hr:=zi2 h hn;rw[zjh];have hnd:((T.filter fun v=>decide (othV l v≠v)).map (othV l)).Nodup:=zhh (zix _ hT) fun a ha b hb e=>hr.inj a b (qJ.1 ha).1 (qJ.1 hb).1 e;generalize hF:T.filter (fun v=>decide (othV l v≠v))=F at*;have hFT: ∀v∈F,v∈T:=fun v hv=>by rw[←hF] at hv;exact(qJ.1 hv).1
 intro i hi;have hi':i<F.length:=by rwa [qd] at hi
 have hv:=hFT _ (qH hi');have e1:(F.map fun v=>(⟨othV l v,v⟩:Pr))[i]=⟨othV l F[i],F[i]⟩:=qX ..;rw[e1];refine⟨⟨zhd h (hN _ hv),hN _ hv,hr.kd _⟩,fun p hp=> ?_⟩;rw[←List.map_take] at hp;obtain⟨u,hu,rfl⟩:=qm.1 hp;obtain⟨j,hj,rfl⟩:=qbe.1 hu;have:=qbf.1 hnd j i (by rw[qd];omega) (by rw[qd];exact hi') (by omega);rw[qX,qX] at this;exact this
theorem back_oth (h:zfh l) {T:List Sv} (hn:(T.map (othV l)).Nodup) {v:Sv} (hv:v∈T):othV (zgi l T) (othV l v)=v:=by
 have hr:=zi2 h hn;rcases zef (zgi l T) (othV l v) with⟨p,hp,e,e2⟩| ⟨hno,e⟩
 ·rw[e2];rw[zjh] at hp;obtain⟨u,hu,rfl⟩:=qm.1 hp;exact hr.inj u v (qJ.1 hu).1 hv e
 ·rw[e];by_cases hvv:othV l v=v
  ·exact hvv
  ·refine absurd rfl (hno ⟨othV l v,v⟩ ?_);rw[zjh];exact qm.2 ⟨v,qJ.2 ⟨hv,by simp[hvv]⟩,rfl⟩
end
theorem tabR_enc {x:Pc} (hf:zfY x) (he: ∀w∈x.ws,w.env.length<34359738368) (hl:(zbE x).length≤80000):tabR (zbE x)=some ((wsP x).t,zF (wsP x).b):=by
 have tn:=wsP_ok hf;have b1:=fin_len (wsP x) 80;have b2:=tn.le;have b3:(zbE x).length=((wsP x).fin 80).length:=rfl;unfold tabR;rw[if_pos (.inl (by rw[zjW hf he hl]))];have e:(zbE x).headD 0=80:=rfl;rw[e];exact zlc _ _ tn.nm (by omega)
structure NamesLaw (x:Pc) (l:List Pr):Prop where
 tab:namesR (zbE x)=((wsP x).t,0)
 nint: ∀v∈(wsP x).t,v.k≠1
 nd:(wsP x).t.Nodup
 c0:(renR (zbE x) l).2=0→zcp (renR (zbE x) l).1=(renP (othV l) x,0)∧zhG (renP (othV l) x)=((renR (zbE x) l).1,0)∧(renR (renR (zbE x) l).1 (zgi l (wsP x).t))=(zbE x,0)
theorem names_law {x:Pc} (hf:zfY x) (he: ∀w∈x.ws,w.env.length<100000) (hl:(zbE x).length≤80000) (l:List Pr):NamesLaw x l:=by
 have ht:=tabR_enc hf (fun w hw=>by have:=he w hw;omega) hl;have tn:=wsP_ok hf;have hN:=tn.nm;have hT:=wsP_nodup x;have hd:(zbE x).headD 0=80:=rfl;refine⟨by unfold namesR;rw[if_neg (by omega),ht],fun v hv=>name_k (hN v hv),hT,fun h0=> ?_⟩;by_cases hll:100<l.length
 ·unfold renR at h0;rw[if_pos (.inr hll)] at h0;exact absurd h0 (by decide)
 have hno: ¬(80000<(zbE x).length∨100<l.length):=by omega
 by_cases hp:zfh l
 ·by_cases hn:((wsP x).t.map (othV l)).Nodup
  ·have hr:=zi2 hp hn;obtain⟨r1,r2⟩:=wsP_ren hr x fun u hu=>hu;have hfr:=fine_ren hp hf hn;have tn2:=wsP_ok hfr;have her: ∀w∈(renP (othV l) x).ws,w.env.length<34359738368:=fun w hw=>by
    obtain⟨u,hu,rfl⟩:=qm.1 hw;have:=he u hu;show(u.env.map _).length<_;rw[qd];omega
   have hlr:(zbE (renP (othV l) x)).length=(zbE x).length:=fin_same 80 hN tn2.nm (by rw[r1,qd]) r2;have hc:renR (zbE x) l=(zbE (renP (othV l) x),0):=by
    unfold renR;rw[if_neg hno,if_pos hp,ht];dsimp only;rw[if_pos hn,hd,←r1,←r2];rfl
   rw[hc];refine⟨zjW hfr her (by omega),by unfold zhG;rw[if_pos hfr,if_neg (by omega)],?_⟩;have ht2:=tabR_enc hfr her (by omega);rw[r1,r2] at ht2;have hb:=back_len (l:=l) hT;have hd2:(zbE (renP (othV l) x)).headD 0=80:=rfl;have hmap:((wsP x).t.map (othV l)).map (othV (zgi l (wsP x).t))=(wsP x).t:=by
    rw[qM]
    conv=>rhs;rw[←List.map_id (wsP x).t]
    exact List.map_congr_left fun v hv=>back_oth hp hn hv
   show renR (zbE (renP (othV l) x)) (zgi l (wsP x).t)=_;unfold renR;rw[if_neg (by omega),if_pos (back_pairs hp hN hT hn),ht2];dsimp only;rw[hmap,if_pos hT,hd2];rfl
  ·unfold renR at h0;rw[if_neg hno,if_pos hp,ht] at h0;dsimp only at h0;rw[if_neg hn] at h0;exact absurd h0 (by decide)
 ·unfold renR at h0;rw[if_neg hno,if_neg hp] at h0;exact absurd h0 (by decide)
end Go.Ideal.S
namespace Go.Ideal.S
open Go Go.Ideal Q Classical
attribute [local simp] decide_eq_true decide_eq_false zP
section
variable {M M':VM} {k kp:DV→VM→Prop} {n0 j:Nat}
theorem nes_Sv (v w:Sv):binD .neq (.leaves [0,1]) (.agg (eSv v)) (.agg (eSv w))=some (.bool (!decide (v=w))):=by
 show(zD (.leaves [0,1]) (.agg (eSv v)) (.agg (eSv w))).map (fun b=>DV.bool (!b))=_;rw[zcD];rfl
attribute [local simp] c_v f_v r_v_1 r_v_2 r_v_3 r_v_4 r_v_5 r_v_6 r_v_7 r_v_9 c_X f_X r_X_1 r_X_2 r_be c_be f_be r_be_1 r_be_2 r_A c_A f_A r_A_1 r_A_2 r_A_3 r_A_4 r_A_5 r_A_6 r_A_7 r_A_9 c_i f_i r_i_1 r_i_2 r_i_3 r_i_4 r_i_5 r_i_6 r_i_7 r_i_9 c_y f_y r_y_1 r_y_2
theorem zhk (v:Sv) (l:List Pr) (hl:l.length≤1000000) (hk:k (.agg (eSv (othV l v))) M):zg F (.fn n_v [] []) [.agg (eSv v),.lst 4 (l.map ePr)] M k kp:=by
 have wS: ∀(x:Sv) (a c:DV),zp [a,c] 0 (eSv x)=some (eSv x):=fun _ _ _=>rfl;have hp4:zc8 (.agg (eSv v))=true:=by simp[eSv]
 unfold othV at hk;apply zg.back;refine .fn zfF rfl (by simp[f_v]) ?_;simp(disch:=((try simp only[nx3]);omega));refine .for (σ:=VM) c_v_8.eq_1 (fun i _=>[(9,I i)]) (fun z=>z) (fun i z=>SM M.next M z∧M.next+1<z.next∧z.obj M.next=some (.rows false 2 [eSv v])∧z.obj (M.next+1)=some (.rows false 2 [[I 0,I 0]])∧ ∀p∈l.take i,p.f≠v) l.length ((M.new (.rows false 2 [eSv v])).new (.rows false 2 [[I 0,I 0]])) (by simp) rfl ⟨(by repeat' (first|assumption|exact zbj _ _|apply zC|apply zT|apply zck| ((try simp only[nx3]);omega))),by simp,by rw[zK _ (by simp)];simp,by simp,by simp⟩ (fun i y hi hP again=> ?_) (fun y hP=> ?_)
 ·obtain⟨p1,p2,p3,p4,p5⟩:=hP;rw[qe hi] at again;have hsub:l.take (i+1)=l.take i++[l[i]]:=qe hi;have hfnd:l[i].f=v→(l.find? fun p=>decide (p.f=v))=some l[i]:=fun e=>by
   have h1:l=l.take i++l[i]::l.drop (i+1):=by
    conv=>lhs;rw[←List.take_append_drop (i+1) l,hsub]
    simp
   conv=>lhs;rw[h1]
   rw[List.find?_append,qU.2 (fun p hp=>by simpa using p5 p hp),Option.none_or,qbk (by simp[e])]
  generalize hx:l[i]=p at*;have t4:zcZ 4 (ePr p)=some [I p.f.k,I p.f.n,I p.t.k,I p.t.n]:=rfl;have wP:zp [I 0,I 0,I 0,I 0] 0 [I p.f.k,I p.f.n,I p.t.k,I p.t.n]=some [I p.f.k,I p.f.n,I p.t.k,I p.t.n]:=rfl;have l1: ∀ek,ek=EK.leaves [0,1]→binD .eql ek (.agg [I p.f.k,I p.f.n]) (.agg (eSv v))=some (.bool (decide (p.f=v))):=fun ek e=>by subst e;exact zj9 p.f v
  have l1:=l1 _ rfl;by_cases hv:p.f=v
  ·rw[hfnd hv] at hk;rw[decide_eq_true hv] at l1;have wT: ∀(a c:DV),zp [a,c] 0 [I p.t.k,I p.t.n]=some [I p.t.k,I p.t.n]:=fun _ _=>rfl;clear again;simp(disch:=((try simp only[nx3]);omega)) [hi,hx,t4,wP,p3,p4,l1,wT];exact Back.plain (.agg (b_Sv p.t)) (zC (zC (zT p1 (by omega)) (by omega)) (by omega)) hk
  ·rw[decide_eq_false hv] at l1;have again:=again ((y.new (.rows false 4 [[I 0,I 0,I 0,I 0]])).put y.next (.rows false 4 [[I p.f.k,I p.f.n,I p.t.k,I p.t.n]])) ⟨zC (zT p1 (by omega)) (by omega),by simp;omega,by rw[zO,if_neg (by omega),zK _ (by omega)];exact p3,by rw[zO,if_neg (by omega),zK _ (by omega)];exact p4,fun q hq=>by
    rcases qI.1 hq with hq|hq
    ·exact p5 q hq
    ·rw[qv.1 hq];exact hv⟩
   simp at again;simp(disch:=((try simp only[nx3]);omega)) [hi,hx,t4,wP,p3,p4,l1];exact again
 ·obtain⟨p1,p2,p3,p4,p5⟩:=hP;rw[qp] at p5;rw[qU.2 (fun p hp=>by simpa using p5 p hp)] at hk;simp(disch:=((try simp only[nx3]);omega)) [p3,p4,wS];exact Back.plain (.agg (b_Sv _)) (zC p1 (by omega)) hk
theorem lname_ok (a n:Int) (hk:k (.agg (eSv ⟨a,n⟩)) M):zg F (.fn n_X [] []) [I a,I n] M k kp:=by
 apply zg.back;refine .fn zgf rfl (by simp[f_X]) ?_;simp(disch:=((try simp only[nx3]);omega));exact Back.plain (.agg (b_Sv ⟨a,n⟩)) (by repeat' (first|assumption|exact zbj _ _|apply zC|apply zT|apply zck| ((try simp only[nx3]);omega))) hk
theorem ren_place {q:Nat} {l:List Pr} (n:Int) (hl:l.length≤1000000) (hq:M.obj q=some (.rows false 1 [[.lst 4 (l.map ePr)]])) (hqn:q<M.next) (hk:k (I (othV l (plc n)).n) M):zg F (.fn n_be [] [.ptr q 0 0]) [I n] M k kp:=by
 apply zg.back;refine .fn zd6 rfl (by simp[f_be]) ?_;simp(disch:=((try simp only[nx3]);omega));refine lname_ok 4 n ?_;have sl:zc8 (.lst 4 (l.map ePr))=true:=rfl;simp(disch:=((try simp only[nx3]);omega)) [hq,sl];refine zhk ⟨4,n⟩ l hl ?_;simp(disch:=((try simp only[nx3]);omega)) [eSv];exact bpl hk
theorem ren_vals {q:Nat} {l:List Pr} (vs:List Sv) (hv:vs.length≤1000000) (hl:l.length≤1000000) (hq:M.obj q=some (.rows false 1 [[.lst 4 (l.map ePr)]])) (hqn:q<M.next) (hk:k (.lst 2 ((vs.map (othV l)).map eSv)) M):zg F (.fn n_A [] [.ptr q 0 0]) [.lst 2 (vs.map eSv)] M k kp:=by
 have wS: ∀(x:Sv) (a c:DV),zp [a,c] 0 (eSv x)=some (eSv x):=fun _ _ _=>rfl;apply zg.back;refine .fn zd5 rfl (by simp[f_A]) ?_;simp(disch:=((try simp only[nx3]);omega));refine .for (σ:=VM×DV) c_A_8.eq_1 (fun i z=>[(4,z.2),(9,I i)]) (fun z=>z.1) (fun i z=>SM M.next M z.1∧M.next≤z.1.next∧Lb z.1 z.2 2 (((vs.take i).map (othV l)).map eSv)∧ ∀a,a<M.next→Off z.2 a) vs.length (M,.nilS) (by simp) rfl ⟨(by repeat' (first|assumption|exact zbj _ _|apply zC|apply zT|apply zck| ((try simp only[nx3]);omega))),qf _,.nil _ _,fun _ _=>trivial⟩ (fun i z hi hP again=> ?_) (fun z hP=> ?_)
 ·obtain⟨y,d⟩:=z;obtain⟨p1,p2,p3,p4⟩:=hP;dsimp only at*;rw[qe hi] at again;generalize hx:vs[i]=v at*;have oq:y.obj q=some (.rows false 1 [[.lst 4 (l.map ePr)]]):=by
   show(y.get _).map _=_;rw[p1 q hqn];exact hq
  simp(disch:=((try simp only[nx3]);omega)) [hi,hx,wS,oq];refine zhk v l hl ?_;simp(disch:=((try simp only[nx3]);omega));have kq: ∀a,a<y.next→((y.new (.rows false 2 [[I 0,I 0]])).put y.next (.rows false 2 [eSv v])).get a=y.get a:=fun a ha=>by rw[get_put,if_neg (by omega),get_new,if_neg (by omega)]
  have p3y:=p3.keepA (M2:=(y.new (.rows false 2 [[I 0,I 0]])).put y.next (.rows false 2 [eSv v])) (by simp;omega) kq;refine zgV (p3y.new _) (new:=[eSv (othV l v)]) (by simp) (by decide) (by simp) (by simp) (by simp;omega) fun d' M' hL hG=> ?_;have nx:=hG.pre.nx;simp at nx;have again:=again (M',d') ⟨fun a ha=>by rw[hG.pre.kp a (by simp;omega) (p4 a ha),kq a (by omega)];exact p1 a ha,by dsimp only;omega,by simpa using hL,fun a ha=>hG.pre.of a (by simp;omega) (p4 a ha)⟩;simp at again;simp(disch:=((try simp only[nx3]);omega));exact again
 ·obtain⟨y,d⟩:=z;obtain⟨p1,p2,p3,p4⟩:=hP;dsimp only at*;rw[qp] at p3;simp(disch:=((try simp only[nx3]);omega));exact back_lb p3 p4 p1 (mapb b_Sv _) hk
theorem indexS_ok (l:List Sv) (v:Sv) (hl:l.length<4000000000000000000) (hk: ∀r:Int,decide (0≤r)=decide (v∈l)→k (I r) M):zg F (.fn n_i [] []) [.lst 2 (l.map eSv),.agg (eSv v)] M k kp:=by
 have hp4:zc8 (.agg (eSv v))=true:=by simp[eSv]
 apply zg.back;refine .fn zb7 rfl (by simp[f_i]) ?_;simp(disch:=((try simp only[nx3]);omega));refine .for (σ:=Unit) c_i_8.eq_1 (fun i _=>[(8,I i)]) (fun _=>M.new (.rows false 2 [eSv v])) (fun i _=>v∉l.take i) l.length () (by simp) rfl (by simp) (fun i _ hi hP again=> ?_) (fun _ hP=> ?_)
 ·rw[List.take_succ_eq_append_getElem hi] at again;have hin:=List.getElem_mem hi;generalize hx:l[i]=w at*;have hp3:zc8 (.agg (eSv w))=true:=by simp[eSv]
  by_cases hv:v=w
  ·have hk:=hk i (by rw[decide_eq_true (by omega),decide_eq_true (by rw[hv];exact hin)]);clear again;simp(disch:=((try simp only[nx3]);omega)) [hi,hx,zj9,hp3,hp4,hv];exact bpl hk
  ·have again:=again () (fun hm=>by
    rcases qI.1 hm with hm|hm
    ·exact hP hm
    ·exact hv (qv.1 hm))
   simp at again;simp(disch:=((try simp only[nx3]);omega)) [hi,hx,zj9,hp3,hp4,hv];exact again
 ·rw[qp] at hP;have hk:=hk (-1) (by rw[decide_eq_false hP];decide);simp(disch:=((try simp only[nx3]);omega));exact bpl hk
theorem containsS_ok (l:List Sv) (v:Sv) (hl:l.length<4000000000000000000) (hk:k (.bool (decide (v∈l))) M):zg F (.fn n_y [] []) [.lst 2 (l.map eSv),.agg (eSv v)] M k kp:=by
 apply zg.back;refine .fn zbZ rfl (by simp[f_y]) ?_;simp(disch:=((try simp only[nx3]);omega));refine indexS_ok l v hl fun r hr=> ?_;simp(disch:=((try simp only[nx3]);omega)) [hr];exact bpl hk
end
section
variable {M M' Y y y':VM} {k kp:DV→VM→Prop} {n0 j X0:Nat} {d1 d2 d3 d':DV} {sp:List Int} {qs:List Qu} {ws:List Wt}
structure OutE (Y:VM) (X0:Nat) (y:VM) (d1 d2 d3:DV) (sp:List Int) (qs:List Qu) (ws:List Wt):Prop where
 kp: ∀i,i<X0→y.get i=Y.get i
 nx:X0<y.next
 o3:y.obj X0=some (.rows false 3 [[d1,d2,d3]])
 l1:Lb y d1 1 (sp.map eInt)
 l2:Lb y d2 2 (qs.map eQu)
 l3:Lb y d3 4 (ws.map eWt)
 fr: ∀i,i≤X0→Off d1 i∧Off d2 i∧Off d3 i
theorem OutE.frame (h:OutE Y X0 y d1 d2 d3 sp qs ws) {q:Nat} (hq:X0<q) (hb: ∀i,q≤i→Off d1 i∧Off d2 i∧Off d3 i) (hn:y.next≤y'.next) (hk: ∀i,i<q→y'.get i=y.get i):OutE Y X0 y' d1 d2 d3 sp qs ws:=by
 have e:=h.nx;refine⟨fun i hi=>(hk i (by omega)).trans (h.kp i hi),by omega,?_,h.l1.keep hn fun i hi hno=>hk i ?_,h.l2.keep hn fun i hi hno=>hk i ?_,h.l3.keep hn fun i hi hno=>hk i ?_,h.fr⟩
 ·rw[←h.o3];show(y'.get X0).map _=(y.get X0).map _;rw[hk X0 (by omega)]
 ·exact qA fun hc=>hno (hb i (by omega)).1
 ·exact qA fun hc=>hno (hb i (by omega)).2.1
 ·exact qA fun hc=>hno (hb i (by omega)).2.2
theorem OutE.keep (h:OutE Y X0 y d1 d2 d3 sp qs ws) (hn:y.next≤y'.next) (hk: ∀i,i<y.next→y'.get i=y.get i):OutE Y X0 y' d1 d2 d3 sp qs ws:=
 h.frame h.nx (fun i hi=>⟨h.l1.offN hi,h.l2.offN hi,h.l3.offN hi⟩) hn hk
theorem OutE.g1 (h:OutE Y X0 y d1 d2 d3 sp qs ws) {x:Int} (hL:Lb y' d' 1 ((sp++[x]).map eInt)) (hG:Gro y d1 y' d'):OutE Y X0 (y'.put X0 (.rows false 3 [[d',d2,d3]])) d' d2 d3 (sp++[x]) qs ws:=by
 have e:=h.nx;have g:=hG.nx;have f0:=fun i (hi:i≤X0)=>(h.fr i hi).1;exact⟨fun i hi=>by rw[get_put,if_neg (by omega),hG.kp i (by omega) (f0 i (by omega))];exact h.kp i hi,by simp;omega,by simp,hL.put (hG.of X0 (by omega) (f0 X0 (qf _))) _,(h.l2.keep g fun i hi hno=>hG.kp i hi (off2 h.l1 h.l2 (by decide) hno)).put (h.fr X0 (qf _)).2.1 _,(h.l3.keep g fun i hi hno=>hG.kp i hi (off2 h.l1 h.l3 (by decide) hno)).put (h.fr X0 (qf _)).2.2 _,fun i hi=>⟨hG.of i (by omega) (f0 i hi),(h.fr i hi).2⟩⟩
theorem OutE.g2 (h:OutE Y X0 y d1 d2 d3 sp qs ws) {x:Qu} (hL:Lb y' d' 2 ((qs++[x]).map eQu)) (hG:Gro y d2 y' d'):OutE Y X0 (y'.put X0 (.rows false 3 [[d1,d',d3]])) d1 d' d3 sp (qs++[x]) ws:=by
 have e:=h.nx;have g:=hG.nx;have f0:=fun i (hi:i≤X0)=>(h.fr i hi).2.1;exact⟨fun i hi=>by rw[get_put,if_neg (by omega),hG.kp i (by omega) (f0 i (by omega))];exact h.kp i hi,by simp;omega,by simp,(h.l1.keep g fun i hi hno=>hG.kp i hi (off2 h.l2 h.l1 (by decide) hno)).put (h.fr X0 (qf _)).1 _,hL.put (hG.of X0 (by omega) (f0 X0 (qf _))) _,(h.l3.keep g fun i hi hno=>hG.kp i hi (off2 h.l2 h.l3 (by decide) hno)).put (h.fr X0 (qf _)).2.2 _,fun i hi=>⟨(h.fr i hi).1,hG.of i (by omega) (f0 i hi),(h.fr i hi).2.2⟩⟩
theorem OutE.g3 (h:OutE Y X0 y d1 d2 d3 sp qs ws) {x:Wt} (hL:Lb y' d' 4 ((ws++[x]).map eWt)) (hG:Gro y d3 y' d'):OutE Y X0 (y'.put X0 (.rows false 3 [[d1,d2,d']])) d1 d2 d' sp qs (ws++[x]):=by
 have e:=h.nx;have g:=hG.nx;have f0:=fun i (hi:i≤X0)=>(h.fr i hi).2.2;exact⟨fun i hi=>by rw[get_put,if_neg (by omega),hG.kp i (by omega) (f0 i (by omega))];exact h.kp i hi,by simp;omega,by simp,(h.l1.keep g fun i hi hno=>hG.kp i hi (off2 h.l3 h.l1 (by decide) hno)).put (h.fr X0 (qf _)).1 _,(h.l2.keep g fun i hi hno=>hG.kp i hi (off2 h.l3 h.l2 (by decide) hno)).put (h.fr X0 (qf _)).2.1 _,hL.put (hG.of X0 (by omega) (f0 X0 (qf _))) _,fun i hi=>⟨(h.fr i hi).1,(h.fr i hi).2.1,hG.of i (by omega) (f0 i hi)⟩⟩
theorem OutE.obj (h:OutE Y X0 y d1 d2 d3 sp qs ws) {i:Nat} {o:MO} (hi:i<X0) (ho:Y.obj i=some o):y.obj i=some o:=by
 show(y.get i).map _=_;rw[h.kp i hi];exact ho
def renQ (l:List Pr) (q:Qu):Qu:=⟨(othV l (chn q.ch)).n,q.ms.map fun m=>m.map (othV l)⟩
def renW (l:List Pr) (w:Wt):Wt:=⟨w.nth,(othV l (plc w.pl)).n,w.nd,w.env.map (othV l)⟩
def renS (l:List Pr) (n:Int):Int:=(othV l (plc n)).n
attribute [local simp] c_b f_b r_b_3 r_b_4 r_b_5 r_b_6 r_b_7 r_b_8 r_b_9 r_b_11 r_b_12 r_b_13 r_b_14 r_b_15 r_b_16 r_b_17 r_b_18 r_b_19 r_b_21 r_b_22 r_b_24 r_b_25 r_b_26 r_b_27 r_b_28 r_b_30
attribute [local simp] r_be r_A
theorem renamed_ok (x:Pc) (l:List Pr) (hf:zfY x) (he: ∀w∈x.ws,w.env.length<100000) (hl:l.length≤1000000) (hk:k (.agg (ePc (renP (othV l) x))) M):zg F (.fn n_b [] []) [.agg (ePc x),.lst 4 (l.map ePr)] M k kp:=by
 obtain⟨⟨f1,f2,f3,f4⟩,f5,f6,f7,f8,f9⟩:=hf;have sl:zc8 (.lst 4 (l.map ePr))=true:=rfl;apply zg.back;refine .fn ze1 rfl (by simp[f_b]) ?_;simp(disch:=((try simp only[nx3]);omega));obtain⟨Y,hY⟩: ∃Y,Y=(((M.new (.rows false 3 [ePc x])).new (.rows false 1 [[.lst 4 (l.map ePr)]])).new (.rows false 3 [[.nilS,.nilS,.nilS]])).new (.rows false 3 [[.nilS,.nilS,.nilS]]):=⟨_,rfl⟩;have yn:Y.next=M.next+4:=by rw[hY];simp
 have y0:Y.obj M.next=some (.rows false 3 [ePc x]):=by rw[hY,zK _ (by simp<;>omega),zK _ (by simp<;>omega),zK _ (by simp)];simp
 have y1:Y.obj (M.next+1)=some (.rows false 1 [[.lst 4 (l.map ePr)]]):=by rw[hY,zK _ (by simp<;>omega),zK _ (by simp),zdm,if_pos (by simp)]
 have y2:Y.obj (M.next+1+1)=some (.rows false 3 [[.nilS,.nilS,.nilS]]):=by rw[hY,zK _ (by simp),zdm,if_pos (by simp)]
 have y3:Y.obj (M.next+1+1+1)=some (.rows false 3 [[.nilS,.nilS,.nilS]]):=by rw[hY,zdm,if_pos (by simp)]
 have y4: ∀i,i<M.next→Y.get i=M.get i:=fun i hi=>by rw[hY,get_new,if_neg (by simp<;>omega),get_new,if_neg (by simp<;>omega),get_new,if_neg (by simp<;>omega),get_new,if_neg (by omega)]
 have h0:OutE Y (M.next+1+1+1) Y .nilS .nilS .nilS [] [] []:=⟨fun _ _=>rfl,by omega,y3,.nil _ _,.nil _ _,.nil _ _,fun _ _=>⟨trivial,trivial,trivial⟩⟩;rw[←hY];have sp0:zc8 (.agg (ePc x))=true:=rfl;simp(disch:=((try simp only[nx3]);omega)) [y0,ePc];generalize hX0:M.next+1+1+1=X0 at*;have a0:M.next<X0:=by omega
 have a1:M.next+1<X0:=by omega
 have a2:M.next+1+1<X0:=by omega
 refine .for (σ:=VM×DV) c_b_10.eq_1 (fun i z=>[(22,I i)]) (fun z=>z.1) (fun i z=>OutE Y X0 z.1 z.2 .nilS .nilS ((x.sp.take i).map (renS l)) [] []) x.sp.length (Y,.nilS) (by simp) rfl h0 (fun i z hi hP again=> ?_) (fun z hP=> ?_)
 ·obtain⟨y,d⟩:=z;dsimp only at*;have p:=hP;rw[List.take_succ_eq_append_getElem hi] at again;generalize hv:x.sp[i]=n at*;have oq:=p.obj a1 y1;have nx:=p.nx;simp(disch:=((try simp only[nx3]);omega)) [hi,hv,eInt];refine ren_place n hl oq (by omega) ?_;have o3:=p.o3;simp(disch:=((try simp only[nx3]);omega)) [o3];refine⟨p.l1.self,?_⟩;refine zkQ (p.l1.new _) (new:=[eInt (renS l n)]) (by simp[eInt,renS]) (by decide) (by simp[eInt]) (by simp) (by simp;omega) fun d' M4 hL hG=> ?_;have hG:=hG.pre;have g:=p.g1 (x:=renS l n) (by simpa using hL) hG;have o4:M4.obj X0=some (.rows false 3 [[d,.nilS,.nilS]]):=by rw[hG.obj (by omega) (p.fr X0 (Nat.le_refl _)).1];exact o3
  have c1:=hL.cells;have c2:=hL.cell;have again:=again (_,d') (by rw[qD];exact g);simp at again;simp(disch:=((try simp only[nx3]);omega)) [o4,c1,c2];exact again
 ·obtain⟨y,d1⟩:=z;dsimp only at*;rw[List.take_length] at hP;have spl:(x.sp.map (renS l)).length≤24:=by rw[List.length_map];exact f2
  have spe:(renP (othV l) x).sp=x.sp.map (renS l):=rfl;generalize x.sp.map (renS l)=sp at*;have ox:=hP.obj a0 y0;have nx:=hP.nx;simp(disch:=((try simp only[nx3]);omega)) [ox,ePc];refine .for (σ:=VM×DV) c_b_23.eq_1 (fun i z=>[(38,I i)]) (fun z=>z.1) (fun i z=>OutE Y X0 z.1 d1 z.2 .nilS sp ((x.qs.take i).map (renQ l)) []) x.qs.length (y,.nilS) (by simp) rfl hP (fun i z hi hP again=> ?_) (fun z hP=> ?_)
  ·obtain⟨y,d2⟩:=z;dsimp only at*;have p:=hP;have hq:=f8 _ (List.getElem_mem hi);have hms:=hq.2.1.2;rw[List.take_succ_eq_append_getElem hi] at again;generalize hv:x.qs[i]=q at*;have oq:=p.obj a1 y1;have nx:=p.nx;have wQ:zp [I 0,.nilS] 0 (eQu q)=some [I q.ch,.lst 1 (q.ms.map eMsg)]:=rfl;simp(disch:=((try simp only[nx3]);omega)) [hi,hv,wQ];refine lname_ok 3 q.ch ?_;simp(disch:=((try simp only[nx3]);omega)) [oq,sl];refine zhk ⟨3,q.ch⟩ l hl ?_;simp(disch:=((try simp only[nx3]);omega)) [eSv];obtain⟨ch,hch⟩: ∃ch,ch=(othV l ⟨3,q.ch⟩).n:=⟨_,rfl⟩;obtain⟨Z,hZ⟩: ∃Z,Z=(((y.new (.rows false 2 [[I 0,.nilS]])).put y.next (.rows false 2 [[I q.ch,.lst 1 (q.ms.map eMsg)]])).new (.rows false 2 [[I 0,.nilS]])).put (y.next+1+1) (.rows false 2 [[I ch,.nilS]]):=⟨_,rfl⟩;have zn:Z.next=y.next+4:=by rw[hZ];simp
   have zk: ∀i,i<y.next→Z.get i=y.get i:=fun i hi=>by rw[hZ,get_put,if_neg (by omega),get_new,if_neg (by simp;omega),get_put,if_neg (by omega),get_new,if_neg (by omega)]
   have zo:Z.obj (y.next+1+1)=some (.rows false 2 [[I ch,.nilS]]):=by rw[hZ,zO,if_pos rfl]
   have qz:=p.keep (y':=Z) (by omega) zk;have hoff: ∀i,y.next≤i→Off d1 i∧Off d2 i∧Off (DV.nilS) i:=fun i hi=>⟨p.l1.offN hi,p.l2.offN hi,trivial⟩;rw[←hch,←hZ];generalize hq4:y.next+1+1=q4 at*;refine zcf.forL (σ:=VM×DV×List (List Sv)) c_b_20.eq_1 (fun a z=>[(52,I a)]) (fun z=>z.1) (fun a z=>OutE Y X0 z.1 d1 d2 .nilS sp ((x.qs.take i).map (renQ l)) []∧q4<z.1.next∧z.1.obj q4=some (.rows false 2 [[I ch,z.2.1]])∧Lb z.1 z.2.1 1 (z.2.2.map eMsg)∧(∀i,i≤q4→Off z.2.1 i)∧z.2.2=(q.ms.take a).map fun m=>m.map (othV l)) q.ms.length (Z,.nilS,[]) (by simp) rfl ⟨qz,by dsimp only;omega,zo,.nil _ _,fun _ _=>trivial,by simp⟩ (fun a z ha hP2 again2=> ?_) (fun z hP2=> ?_)
   ·obtain⟨y4,dq,ms⟩:=z;obtain⟨g,g1,g2,g3,g4,g5⟩:=hP2;dsimp only at*;have hm:=hq.2.2 _ (List.getElem_mem ha);rw[List.take_succ_eq_append_getElem ha] at again2;generalize hmv:q.ms[a]=m at*;have oq4:=g.obj a1 y1;have nx4:=g.nx;have msl:ms.length≤a:=by rw[g5,List.length_map,List.length_take];omega
    have wM:zp [.nilS] 0 (eMsg m)=some [.lst 2 (m.map eSv)]:=rfl;have sm:zc8 (.lst 2 (m.map eSv))=true:=rfl;simp(disch:=((try simp only[nx3]);omega)) [ha,hmv,wM,sm];obtain⟨y5,hy5⟩: ∃y5,y5=(y4.new (.rows false 1 [[.nilS]])).put y4.next (.rows false 1 [[.lst 2 (m.map eSv)]]):=⟨_,rfl⟩;have n5:y5.next=y4.next+2:=by rw[hy5];simp
    have k5: ∀i,i<y4.next→y5.get i=y4.get i:=fun i hi=>by rw[hy5,get_put,if_neg (by omega),get_new,if_neg (by omega)]
    have o5:y5.obj q4=some (.rows false 2 [[I ch,dq]]):=by
     show(y5.get _).map _=_;rw[k5 _ g1];exact g2
    have oq5:y5.obj (M.next+1)=some (.rows false 1 [[.lst 4 (l.map ePr)]]):=by
     show(y5.get _).map _=_;rw[k5 _ (by omega)];exact oq4
    have g3':=g3.keepA (by omega) k5;have gz:=g.keep (y':=y5) (by omega) k5;rw[←hy5];refine ren_vals m (by have:=hm.1;omega) hl oq5 (by omega) ?_;simp(disch:=((try simp only[nx3]);omega)) [o5];refine⟨g3.self,?_⟩;refine zkQ (g3'.new _) (new:=[eMsg (m.map (othV l))]) (by simp[eMsg]) (by decide) (by simp[eMsg,zj]) (by simp[eMsg]) (by have:=hq.2.1.2;simp;omega) fun d5 M9 hL hG=> ?_;have hG:=hG.pre;have n9:=hG.nx;have o9:M9.obj q4=some (.rows false 2 [[I ch,dq]]):=by rw[hG.obj (by omega) (g4 _ (by omega))];exact o5
    have c1:=hL.cells;have c2:=hL.cell;have f5: ∀i,i≤q4→Off d5 i:=fun i hi=>hG.of i (by omega) (g4 i hi);have q9:=gz.frame (y':=M9.put q4 (.rows false 2 [[I ch,d5]])) (q:=q4) (by omega) (fun i hi=>hoff i (by omega)) (by simp;omega) (fun i hi=>by rw[get_put,if_neg (by omega)];exact hG.kp i (by omega) (g4 i (by omega)));have again2:=again2 (M9.put q4 (.rows false 2 [[I ch,d5]]),d5,ms++[m.map (othV l)]) ⟨q9,by simp;omega,by simp,(show Lb M9 d5 1 ((ms++[m.map (othV l)]).map eMsg) by simpa using hL).put (f5 q4 (qf _)) _,f5,by simp[g5]⟩;simp at again2;simp(disch:=((try simp only[nx3]);omega)) [o9,c1,c2];exact again2
   ·obtain⟨y4,dq,ms⟩:=z;obtain⟨g,g1,g2,g3,g4,g5⟩:=hP2;dsimp only at*;rw[List.take_length] at g5;have hrq:(⟨ch,ms⟩:Qu)=renQ l q:=by rw[hch,g5];rfl
    obtain⟨O,hO⟩: ∃O,O=MO.rows false 2 [eQu ⟨ch,ms⟩]:=⟨_,rfl⟩;have cv:Conv y4 y4 (cutM y4 q4 O):=cutM_conv g1 g2 (by
     rw[hO];refine .rows (by simp) rfl fun k d e hd he=> ?_
     match k with
     |0=>cases hd;cases he;exact .refl _
     |1=>cases hd;cases he;exact cutM_frz g3 g4
     |k+2=>simp at hd) (by
     rw[hO];refine .rows fun r hr d hd=> ?_;rw[qv.1 hr] at hd;exact b_Qu _ d hd)
    have qc:=g.frame (y':=cutM y4 q4 O) (q:=q4) (by omega) (fun i hi=>hoff i (by omega)) (Nat.le_succ _) (fun i hi=>cutM_lt hi);have oc:(cutM y4 q4 O).obj q4=some O:=cutM_obj;refine zcf.pre cv (SFrz.refl fun x hx=> ?_) ?_
    ·have hn:(cutM y4 q4 O).next=y4.next+1:=rfl
     have hM:M.next<y4.next:=by omega
     rw[hn];simp at hx;rcases hx with rfl|rfl|rfl|rfl|rfl|rfl|rfl|rfl|rfl|rfl|rfl|rfl|rfl
     all_goals first
      |exact .int _ _
      |exact .ptr (by omega)
      |exact .lst (mapb b_Qu _)
      |exact .lst (mapb b_Msg _)
      |exact .fn _ (by simp) (by simp;omega)
    ·generalize cutM y4 q4 O=yc at*;have o3:=qc.o3;have nc:=qc.nx;refine .go c_b_20.eq_1 ?_;simp(disch:=((try simp only[nx3]);omega)) [o3,oc,hO];refine zgV (qc.l2.new _) (new:=[eQu ⟨ch,ms⟩]) (by simp) (by decide) (by simp[eQu,zj]) (by simp[eQu]) (by simp;omega) fun d' M10 hL hG=> ?_;have hG:=hG.pre;have q10:=qc.g2 (x:=⟨ch,ms⟩) (by simpa using hL) hG;have o10:M10.obj X0=some (.rows false 3 [[d1,d2,.nilS]]):=by rw[hG.obj (by omega) (qc.fr X0 (by omega)).2.1];exact o3
     have c1:=hL.cells;have c2:=hL.cell;have again:=again (_,d') (by rw[qD];rw[hrq] at q10;exact q10);simp at again;simp(disch:=((try simp only[nx3]);omega)) [o10,c1,c2];exact again
  ·obtain⟨y,d2⟩:=z;dsimp only at*;rw[List.take_length] at hP;have qsl:(x.qs.map (renQ l)).length≤60:=by rw[List.length_map];exact f3
   have qse:(renP (othV l) x).qs=x.qs.map (renQ l):=rfl;generalize x.qs.map (renQ l)=qs at*;have ox:=hP.obj a0 y0;have nx:=hP.nx;simp(disch:=((try simp only[nx3]);omega)) [ox,ePc];refine .for (σ:=VM×DV) c_b_29.eq_1 (fun i z=>[(77,I i)]) (fun z=>z.1) (fun i z=>OutE Y X0 z.1 d1 d2 z.2 sp qs ((x.ws.take i).map (renW l))) x.ws.length (y,.nilS) (by simp) rfl hP (fun i z hi hP again=> ?_) (fun z hP=> ?_)
   ·obtain⟨y,d3⟩:=z;dsimp only at*;have p:=hP;have hw:=he _ (List.getElem_mem hi);rw[List.take_succ_eq_append_getElem hi] at again;generalize hv:x.ws[i]=w at*;have oq:=p.obj a1 y1;have nx:=p.nx;have t4:zcZ 4 (eWt w)=some [I w.nth,I w.pl,I w.nd,.lst 2 (w.env.map eSv)]:=rfl;have wW:zp [I 0,I 0,I 0,.nilS] 0 (eWt w)=some [I w.nth,I w.pl,I w.nd,.lst 2 (w.env.map eSv)]:=rfl;have se:zc8 (.lst 2 (w.env.map eSv))=true:=rfl;simp(disch:=((try simp only[nx3]);omega)) [hi,hv,wW,se];obtain⟨y5,hy5⟩: ∃y5,y5=(y.new (.rows false 4 [[I 0,I 0,I 0,.nilS]])).put y.next (.rows false 4 [[I w.nth,I w.pl,I w.nd,.lst 2 (w.env.map eSv)]]):=⟨_,rfl⟩;have n5:y5.next=y.next+2:=by rw[hy5];simp
    have k5: ∀i,i<y.next→y5.get i=y.get i:=fun i hi=>by rw[hy5,get_put,if_neg (by omega),get_new,if_neg (by omega)]
    have o5:y5.obj y.next=some (.rows false 4 [[I w.nth,I w.pl,I w.nd,.lst 2 (w.env.map eSv)]]):=by rw[hy5,zO,if_pos rfl]
    have oq5:y5.obj (M.next+1)=some (.rows false 1 [[.lst 4 (l.map ePr)]]):=by
     show(y5.get _).map _=_;rw[k5 _ (by omega)];exact oq
    have gz:=p.keep (y':=y5) (by omega) k5;rw[←hy5];refine ren_place w.pl hl oq5 (by omega) ?_;simp(disch:=((try simp only[nx3]);omega)) [o5,se];refine ren_vals w.env (by omega) hl oq5 (by omega) ?_;have o3:=gz.o3;simp(disch:=((try simp only[nx3]);omega)) [o5,o3,se];refine⟨gz.l3.self,?_⟩;refine zkQ (gz.l3.new _) (new:=[eWt (renW l w)]) (by simp[eWt,renW]) (by decide) (by simp[eWt,zj]) (by simp[eWt]) (by simp;omega) fun d' M8 hL hG=> ?_;have hG:=hG.pre;have g8:=gz.g3 (x:=renW l w) (by simpa using hL) hG;have o8:M8.obj X0=some (.rows false 3 [[d1,d2,d3]]):=by rw[hG.obj (by omega) (gz.fr X0 (qf _)).2.2];exact o3
    have c1:=hL.cells;have c2:=hL.cell;have again:=again (_,d') (by rw[qD];exact g8);simp at again;simp(disch:=((try simp only[nx3]);omega)) [o8,c1,c2];exact again
   ·obtain⟨y,d3⟩:=z;dsimp only at*;rw[List.take_length] at hP;have p:=hP;have wse:(renP (othV l) x).ws=x.ws.map (renW l):=rfl;generalize x.ws.map (renW l)=ws at*;have o3:=p.o3;have oR:=p.obj a2 y2;have nx:=p.nx;have c1:=p.l1.cell;have c2:=p.l2.cell;have c3:=p.l3.cell;have ne1:X0≠M.next+1+1:=by omega
    have hpe:renP (othV l) x=⟨sp,qs,ws⟩:=by rw[←spe,←qse,←wse]
    rw[hpe] at hk;simp(disch:=((try simp only[nx3]);omega)) [o3,oR,c1,c2,c3,ne1];intro hw;have fr:=p.fr;refine⟨.agg (ePc ⟨sp,qs,ws⟩),.agg rfl fun i d e hd he=> ?_,.agg (b_Pc _),fun i hi=> ?_,hk⟩
    ·match i with
     |0=>cases hd;cases he;exact back_fz hw (p.l1.put (fr _ (by omega)).1 _) (fun q hq=>(fr q (by omega)).1)
     |1=>cases hd;cases he;exact back_fz hw (p.l2.put (fr _ (by omega)).2.1 _) (fun q hq=>(fr q (by omega)).2.1)
     |2=>cases hd;cases he;exact back_fz hw (p.l3.put (fr _ (by omega)).2.2 _) (fun q hq=>(fr q (by omega)).2.2)
     |i+3=>simp at hd
    ·rw[get_put,if_neg (by omega),p.kp i (by omega)];exact y4 i hi
end
section
variable {B M M':VM} {k kp:DV→VM→Prop} {n0 j:Nat}
end
section
variable {M M':VM} {B:Base} {k kp:DV→VM→Prop} {n0 j:Nat}
end
end Go.Ideal.S
set_option maxHeartbeats 2000000
namespace Go.Ideal.S
open Go Go.Ideal Q Classical
attribute [local simp] decide_eq_true decide_eq_false zP
section
variable {M M':VM} {k kp:DV→VM→Prop} {n0 j:Nat}
end
section
variable {M M':VM} {k kp:DV→VM→Prop} {n0 j:Nat}
end
section
variable {M M':VM} {k kp:DV→VM→Prop} {n0 j:Nat}
attribute [local simp] c_h f_h r_h_1 r_h_2 r_h_3 r_h_4 r_h_5 r_h_6 r_h_7 r_h_8 r_h_9 r_h_10 r_h_11 r_h_12 r_h_14 r_h_16 r_h_17 r_h_18 r_h_19 r_h_20 r_h_22
theorem large_ok (x:Pc) (hk: ∀b:Bool,(b=false→SzP x∧ ∀w∈x.ws,w.env.length<100000)→k (.bool b) M):zg F (.fn n_h [] []) [.agg (ePc x)] M k kp:=by
 have yes:=hk true nofun;apply zg.back;refine .fn zfG rfl (by simp[f_h]) ?_;simp(disch:=((try simp only[nx3]);omega));obtain⟨Y,hY⟩: ∃Y,Y=M.new (.rows false 3 [ePc x]):=⟨_,rfl⟩;have yo:Y.obj M.next=some (.rows false 3 [ePc x]):=by rw[hY];simp
 have ys:SM M.next M Y:=by rw[hY];exact zT (zbj _ _) (qf _)
 rw[←hY];by_cases h1:x.sp.length≤70
 ·have h1i: ¬(70:Int)<x.sp.length:=by omega
  by_cases h2:x.qs.length≤70
  ·have h2i: ¬(70:Int)<x.qs.length:=by omega
   by_cases h3:x.ws.length≤70
   ·have h3i: ¬(70:Int)<x.ws.length:=by omega
    simp(disch:=((try simp only[nx3]);omega)) [yo,ePc,h1i,h2i,h3i];refine .for (σ:=Unit) c_h_15.eq_1 (fun i _=>[(3,I i)]) (fun _=>Y) (fun i _=> ∀q∈x.qs.take i,q.ms.length<1000000∧ ∀m∈q.ms,m.length<1000000) x.qs.length () (by simp) rfl (by simp) (fun i _ hi hP again=> ?_) (fun _ hP=> ?_)
    ·rw[List.take_succ_eq_append_getElem hi] at again;generalize hx:x.qs[i]=q at*;by_cases h4:q.ms.length≤20
     ·have h4i: ¬(20:Int)<q.ms.length:=by omega
      simp(disch:=((try simp only[nx3]);omega)) [yo,ePc,hi,hx,eQu,h4i];refine .for (σ:=Unit) c_h_13.eq_1 (fun a _=>[(4,I a)]) (fun _=>Y) (fun a _=> ∀m∈q.ms.take a,m.length<1000000) q.ms.length () (by simp) rfl (by simp) (fun a _ ha hP2 again2=> ?_) (fun _ hP2=> ?_)
      ·rw[List.take_succ_eq_append_getElem ha] at again2;generalize hm:q.ms[a]=m at*;simp(disch:=((try simp only[nx3]);omega)) [yo,ePc,hi,hx,eQu,ha,hm,eMsg];refine many_ok m ?_;by_cases h5:1000<m.length
       ·rw[decide_eq_true h5];clear again again2;simp(disch:=((try simp only[nx3]);omega));exact Back.plain (by simp) ys yes
       ·rw[decide_eq_false h5];have again2:=again2 () (fun u hu=>by
         rcases qI.1 hu with hu|hu
         ·exact hP2 u hu
         ·rw[qv.1 hu];omega)
        simp at again2;simp(disch:=((try simp only[nx3]);omega));exact again2
      ·rw[qp] at hP2;have again:=again () (fun u hu=>by
        rcases qI.1 hu with hu|hu
        ·exact hP u hu
        ·rw[qv.1 hu];exact⟨by omega,hP2⟩)
       simp at again;simp(disch:=((try simp only[nx3]);omega)) [yo,ePc,hi,hx,eQu];exact again
     ·have h4i:(20:Int)<q.ms.length:=by omega
      clear again;simp(disch:=((try simp only[nx3]);omega)) [yo,ePc,hi,hx,eQu,h4i];exact Back.plain (by simp) ys yes
    ·rw[List.take_length] at hP;simp(disch:=((try simp only[nx3]);omega)) [yo,ePc];refine .for (σ:=Unit) c_h_21.eq_1 (fun i _=>[(5,I i)]) (fun _=>Y) (fun i _=> ∀w∈x.ws.take i,w.env.length<100000) x.ws.length () (by simp) rfl (by simp) (fun i _ hi hP2 again=> ?_) (fun _ hP2=> ?_)
     ·rw[List.take_succ_eq_append_getElem hi] at again;generalize hx:x.ws[i]=w at*;simp(disch:=((try simp only[nx3]);omega)) [yo,ePc,hi,hx,eWt];refine many_ok w.env ?_;by_cases h5:1000<w.env.length
      ·rw[decide_eq_true h5];clear again;simp(disch:=((try simp only[nx3]);omega));exact Back.plain (by simp) ys yes
      ·rw[decide_eq_false h5];have again:=again () (fun u hu=>by
        rcases qI.1 hu with hu|hu
        ·exact hP2 u hu
        ·rw[qv.1 hu];omega)
       simp at again;simp(disch:=((try simp only[nx3]);omega));exact again
     ·rw[qp] at hP2;have no:=hk false fun _=>⟨⟨by omega,by omega,by omega,hP,fun w hw=>by have:=hP2 w hw;omega⟩,hP2⟩;simp(disch:=((try simp only[nx3]);omega)) [yo,ePc];exact Back.plain (by simp) ys no
   ·have h3i:(70:Int)<x.ws.length:=by omega
    simp(disch:=((try simp only[nx3]);omega)) [yo,ePc,h1i,h2i,h3i];exact Back.plain (by simp) ys yes
  ·have h2i:(70:Int)<x.qs.length:=by omega
   simp(disch:=((try simp only[nx3]);omega)) [yo,ePc,h1i,h2i];exact Back.plain (by simp) ys yes
 ·have h1i:(70:Int)<x.sp.length:=by omega
  simp(disch:=((try simp only[nx3]);omega)) [yo,ePc,h1i];exact Back.plain (by simp) ys yes
end
end Go.Ideal.S
set_option maxHeartbeats 4000000
namespace Go.Ideal.S
open Go Go.Ideal Q Classical
attribute [local simp] decide_eq_true decide_eq_false zP
variable {M M':VM} {k kp:DV→VM→Prop} {n0 j:Nat}
def cutN (y:VM) (q:Nat):VM:=⟨y.next,fun i=>if i<q then y.get i else none⟩
theorem cutN_lt {y:VM} {q i:Nat} (h:i<q):(cutN y q).get i=y.get i:=if_pos h
theorem cutN_conv {y:VM} {q:Nat}:Conv y y (cutN y q):=⟨qf _,fun i=>by
 by_cases h:i<q
 ·exact .inl ⟨cutN_lt h,fun _=>rfl⟩
 ·exact .inr (.inl (if_neg h))⟩
theorem cutN_frz {y:VM} {q s:Nat} {d:DV} {rows:List (List DV)} (hL:Lb y d s rows) (hf: ∀i,i<q→Off d i):Frz y (cutN y q) d (.lst s rows):=by
 rcases hL.v with⟨rfl,e⟩| ⟨p,op,cap,h2,e,h4,_⟩
 ·rw[e];exact .nilS s
 ·rw[e] at hf⊢;exact .ms0 h4 (if_neg fun h=>hf p h rfl) rfl hL.row
theorem scons {M M2:VM} {s s2:DS} {p:List Bool} {d e:DV} (h1:Frz M M2 d e) (h2:zG M2.next e) (h:SFrz M M2 s s2):SFrz M M2 ((p,d)::s) ((p,e)::s2):=fun r x hx=>by
 have hx:(match beqP p r with|true=>some e|false=>getS s2 r)=some x:=hx;show∃d',(match beqP p r with|true=>some d|false=>getS s r)=some d'∧_∧_;cases hb:beqP p r with
 |true=>rw[hb] at hx;cases hx;exact⟨d,rfl,h1,h2⟩
 |false=>rw[hb] at hx;exact h r x hx
theorem b_Pr {n:Nat} (p:Pr): ∀d∈ePr p,zG n d:=by simp[ePr]
theorem snil {M M2:VM}:SFrz M M2 [] []:=fun p e h=>by cases h
theorem back_one (l:List Pr) (T:List Sv) (v:Sv):zgi l (T++[v])=if othV l v=v then zgi l T else zgi l T++[⟨othV l v,v⟩]:=by
 unfold zgi;rw[qL];rfl
theorem SzP.ren {x:Pc} (l:List Pr) (h:SzP x):SzP (renP (othV l) x):=by
 obtain⟨s1,s2,s3,s4,s5⟩:=h;refine⟨?_,?_,?_,fun q hq=> ?_,fun w hw=> ?_⟩
 ·show(x.sp.map _).length<_;rw[qd];exact s1
 ·show(x.qs.map _).length<_;rw[qd];exact s2
 ·show(x.ws.map _).length<_;rw[qd];exact s3
 ·obtain⟨u,hu,rfl⟩:=qm.1 hq;refine⟨by show(u.ms.map _).length<_;rw[qd];exact(s4 u hu).1,fun m hm=> ?_⟩;obtain⟨v,hv,rfl⟩:=qm.1 hm;rw[qd];exact(s4 u hu).2 v hv
 ·obtain⟨u,hu,rfl⟩:=qm.1 hw;show(u.env.map _).length<_;rw[qd];exact s5 u hu
theorem env_ren {x:Pc} (l:List Pr) (h: ∀w∈x.ws,w.env.length<100000): ∀w∈(renP (othV l) x).ws,w.env.length<100000:=fun w hw=>by
 obtain⟨u,hu,rfl⟩:=qm.1 hw;show(u.env.map _).length<_;rw[qd];exact h u hu
attribute [local simp] c_a f_a r_a_1 r_a_2 r_a_3 r_a_4 r_a_5 r_a_6 r_a_7 r_a_8 r_a_9 r_a_10 r_a_11 r_a_12 r_a_13 r_a_14 r_a_15 r_a_16 r_a_18 r_a_19 r_a_20 r_a_21 r_a_22 r_a_23 r_a_24 r_a_25 r_a_26 r_a_27 r_a_28 r_a_29 r_a_30 r_a_31 r_a_32 r_a_33 r_a_34 r_a_36 r_a_37
theorem names_go (x:Pc) (l:List Pr) (hk:k (.bool true) M):zg F (.fn n_a [] []) [.agg (ePc x),.lst 4 (l.map ePr)] M k kp:=by
 have wL: ∀x:Pc,zp [.nilS,.nilS,.nilS] 0 (ePc x)=some (ePc x):=fun x=>rfl;have wS: ∀(x:Sv) (a c:DV),zp [a,c] 0 (eSv x)=some (eSv x):=fun _ _ _=>rfl;apply zg.back;refine .fn zd7 rfl (by simp[f_a]) ?_;simp(disch:=((try simp only[nx3]);omega));refine large_ok x fun q hq=> ?_;cases q with
 |true=>
  simp(disch:=((try simp only[nx3]);omega));refine zgY ?_;simp(disch:=((try simp only[nx3]);omega));exact bpl hk
 |false=>
  obtain⟨hx,he⟩:=hq rfl;by_cases h1:100<l.length
  ·have h1i:(100:Int)<l.length:=by omega
   simp(disch:=((try simp only[nx3]);omega)) [h1i];refine zgY ?_;simp(disch:=((try simp only[nx3]);omega));exact bpl hk
  have h1i: ¬(100:Int)<l.length:=by omega
  simp(disch:=((try simp only[nx3]);omega)) [h1i];refine Bytes_ok x hx he ?_;by_cases h2:(zhG x).2=0
  ·obtain⟨hf,hle,hbr⟩:=bytesR_ok h2;have law:=names_law hf he hle l;have htl:(wsP x).t.length≤80000:=by
    have:=(wsP_ok hf).le;have:=fin_len (wsP x) 80;have e:(zbE x).length=((wsP x).fin 80).length:=rfl;omega
   rw[hbr];simp(disch:=((try simp only[nx3]);omega));refine Names_ok (zbE x) ?_;rw[law.tab];simp(disch:=((try simp only[nx3]);omega));refine Rename_ok (zbE x) l ?_;simp(disch:=((try simp only[nx3]);omega));obtain⟨T,hT⟩: ∃T,T=(wsP x).t:=⟨_,rfl⟩;have hnd:=law.nd;have hni:=law.nint;have c0:=law.c0;rw[←hT] at hnd hni c0 htl⊢;have o0:(M.new (.rows false 3 [ePc x])).obj M.next=some (.rows false 3 [ePc x]):=by simp
   refine .for (σ:=VM) c_a_17.eq_1 (fun i _=>[(54,I i)]) (fun z=>z) (fun i z=>SM M.next M z∧M.next<z.next∧z.obj M.next=some (.rows false 3 [ePc x])) T.length (M.new (.rows false 3 [ePc x])) (by simp) rfl ⟨zT (by repeat' (first|assumption|exact zbj _ _|apply zC|apply zT|apply zck| ((try simp only[nx3]);omega))) (qf _),by simp,o0⟩ (fun i y hi hP again=> ?_) (fun y hP=> ?_)
   ·obtain⟨p1,p2,p3⟩:=hP;have hv:=hni _ (qH hi);have hno:T[i]∉T.take i:=fun hm=>by
     obtain⟨q,hq,e⟩:=qbe.1 hm;exact qbf.1 hnd q i (by omega) hi (by omega) e
    generalize hw:T[i]=v at*;have again:=again ((y.new (.rows false 2 [[I 0,I 0]])).put y.next (.rows false 2 [eSv v])) ⟨zC (zT p1 (by omega)) (by omega),by simp;omega,by rw[zO,if_neg (by omega),zK _ (by omega)];exact p3⟩;simp at again;have hiT:i≤T.length:=by omega
    simp(disch:=((try simp only[nx3]);omega)) [hi,hiT,hw,wS,hv,eSv,←List.map_take];refine containsS_ok (T.take i) v (by simp;omega) ?_;rw[decide_eq_false hno];simp(disch:=((try simp only[nx3]);omega));exact again
   ·obtain⟨p1,p2,p3⟩:=hP;by_cases hf0:(renR (zbE x) l).2=0
    ·obtain⟨c1,c2,c3⟩:=c0 hf0;have hx':=hx.ren l;have he':=env_ren l he;clear c0;generalize (renR (zbE x) l).1=c at*;simp(disch:=((try simp only[nx3]);omega)) [hf0];refine Parcel_ok _ ?_;rw[c1];simp(disch:=((try simp only[nx3]);omega)) [wL,p3];refine renamed_ok x l hf he (by omega) ?_;simp(disch:=((try simp only[nx3]);omega));refine Bytes_ok _ hx' he' ?_;rw[c2];simp(disch:=((try simp only[nx3]);omega));refine Bytes_ok _ hx' he' ?_;rw[c2];simp(disch:=((try simp only[nx3]);omega));obtain⟨y1,hy1⟩: ∃y1,y1=(y.new (.rows false 3 [[.nilS,.nilS,.nilS]])).put y.next (.rows false 3 [ePc (renP (othV l) x)]):=⟨_,rfl⟩;have sm1:SM M.next M y1:=by rw[hy1];exact zC (zT p1 (by omega)) (by omega)
     have n1:M.next≤y1.next:=by rw[hy1];simp;omega
     rw[←hy1];refine zcf.forL (σ:=VM×DV) c_a_35.eq_1 (fun i z=>[(18,z.2),(110,I i)]) (fun z=>z.1) (fun i z=>SM M.next M z.1∧y1.next≤z.1.next∧Lb z.1 z.2 4 ((zgi l (T.take i)).map ePr)∧(∀a,a<y1.next→Off z.2 a)∧(zgi l (T.take i)).length≤i) T.length (y1,.nilS) (by simp) rfl ⟨sm1,qf _,.nil _ _,fun _ _=>trivial,qf _⟩ (fun i z hi hP again=> ?_) (fun z hP=> ?_)
     ·obtain⟨y2,d⟩:=z;obtain⟨q1,q2,q3,q4,q5⟩:=hP;dsimp only at*;rw[List.take_succ_eq_append_getElem hi,back_one] at again;generalize hw:T[i]=v at*;simp(disch:=((try simp only[nx3]);omega)) [hi,hw,wS];refine zhk v l (by omega) ?_;simp(disch:=((try simp only[nx3]);omega)) [wS];obtain⟨y3,hy3⟩: ∃y3,y3=(((y2.new (.rows false 2 [[I 0,I 0]])).put y2.next (.rows false 2 [eSv v])).new (.rows false 2 [[I 0,I 0]])).put (y2.next+1+1) (.rows false 2 [eSv (othV l v)]):=⟨_,rfl⟩;have n3:y3.next=y2.next+4:=by rw[hy3];simp
      have k3: ∀a,a<y2.next→y3.get a=y2.get a:=fun a ha=>by rw[hy3,get_put,if_neg (by omega),get_new,if_neg (by simp;omega),get_put,if_neg (by omega),get_new,if_neg (by omega)]
      have o20:y3.obj y2.next=some (.rows false 2 [eSv v]):=by rw[hy3,zO,if_neg (by omega),zK _ (by simp;omega),zO,if_pos rfl]
      have o21:y3.obj (y2.next+1+1)=some (.rows false 2 [eSv (othV l v)]):=by rw[hy3,zO,if_pos rfl]
      have q3':=q3.keepA (M2:=y3) (by omega) k3;have sm3:SM M.next M y3:=fun a ha=>(k3 a (by omega)).trans (q1 a ha);rw[←hy3];by_cases hv:othV l v=v
      ·have hn2:=nes_Sv (othV l v) v;simp only[hv,if_true,decide_true,Bool.not_true] at again hn2;have again:=again (y3,d) ⟨sm3,by dsimp only;omega,q3',q4,by omega⟩;simp at again;simp(disch:=((try simp only[nx3]);omega)) [o20,o21,hv,hn2];exact again
      ·have hn2:=nes_Sv (othV l v) v;simp only[hv,if_false,decide_false,Bool.not_false] at again hn2;simp(disch:=((try simp only[nx3]);omega)) [o20,o21,hn2];simp(disch:=((try simp only[nx3]);omega)) [eSv];refine zgV (q3'.new _) (new:=[ePr ⟨othV l v,v⟩]) (by simp[ePr]) (by decide) (by simp[ePr,zj]) (by simp[ePr]) (by simp;omega) fun d' M8 hL hG=> ?_;have hG:=hG.pre;have nx:=hG.nx;have again:=again (M8,d') ⟨fun a ha=>(hG.kp a (by omega) (q4 a (by omega))).trans (sm3 a ha),by dsimp only;omega,by simpa using hL,fun a ha=>hG.of a (by omega) (q4 a ha),by simp;omega⟩;simp at again;simp(disch:=((try simp only[nx3]);omega));exact again
     ·obtain⟨y2,d⟩:=z;obtain⟨q1,q2,q3,q4,q5⟩:=hP;dsimp only at*;rw[qp] at q3;simp(disch:=((try simp only[nx3]);omega));refine zcf.pre (cutN_conv (q:=y1.next)) (scons (.refl _) (.lst (mapb b_Pr _)) (scons (.refl _) (.str _) (scons (.refl _) (.str _) (scons (cutN_frz q3 q4) (.lst (mapb b_Pr _)) (scons (.refl _) (.lst (mapb b_Sv _)) (scons (.refl _) (.int _ _) (scons (.refl _) (.int _ _) snil))))))) ?_;have sm2:SM M.next M (cutN y2 y1.next):=fun a ha=>(cutN_lt (by omega)).trans (q1 a ha);generalize cutN y2 y1.next=y3 at*;refine .go c_a_35.eq_1 ?_;simp(disch:=((try simp only[nx3]);omega));refine Rename_ok c (zgi l T) ?_;rw[c3];simp(disch:=((try simp only[nx3]);omega));refine zgY ?_;simp(disch:=((try simp only[nx3]);omega));exact bpl hk
    ·simp(disch:=((try simp only[nx3]);omega)) [hf0];refine zgY ?_;simp(disch:=((try simp only[nx3]);omega));exact bpl hk
  ·simp(disch:=((try simp only[nx3]);omega)) [h2];refine zgY ?_;simp(disch:=((try simp only[nx3]);omega));exact bpl hk
end Go.Ideal.S
set_option maxRecDepth 100000
namespace Go.Proofs.YtffbioplncclkaaGreat
open Go.ChangeShapes Go.WideShapes Go.RowKit Go.Ideal Go.Ideal.S
section
section
variable {H:Type} {enc:TypeId×Value→H} {W:World} {base b:Nat} {r:Reach} {held:Bool} {v:Value} {d:DataW H} {ps:List MemPlace}
theorem cP4:Tryz.prog.cellsOf 65=4:=by kernel_rfl
theorem pair_el {fuel:Nat} {cs:List Value} {x:DataW H×List MemPlace} (h:qg enc Tryz.prog W b (fun _=>true) held fuel 65 cs=some x): ∃a:Pr,LRel (impW W) (ePr a) (cs.map (impV W)):=by
 obtain⟨xs,n,_,_,hl,hlen,hf⟩:=qE Tryz.underlying65 h;rw[cP4] at hl
 match cs,hl with
 | [c0,c1,c2,c3],_=>
   have e0:qg enc Tryz.prog W b (fun _=>true) held n 60 (([c0,c1,c2,c3].drop 0).take (Tryz.prog.cellsOf 60))=xs[0]?:=hf 0 _ rfl;have e1:qg enc Tryz.prog W b (fun _=>true) held n 60 (([c0,c1,c2,c3].drop 2).take (Tryz.prog.cellsOf 60))=xs[1]?:=hf 1 _ rfl;rw[cV2] at e0 e1
   match xs,hlen with
   | [y0,y1],_=>
     obtain⟨p,hp⟩:=zhU (show qg enc Tryz.prog W b (fun _=>true) held n 60 [c0,c1]=some y0 from e0);obtain⟨q,hq⟩:=zhU (show qg enc Tryz.prog W b (fun _=>true) held n 60 [c2,c3]=some y1 from e1);cases hp;cases hq;exact⟨⟨p,q⟩,by simp only[qq,qZ,zhp];exact LRel.cons (.int _ _) (LRel.cons (.int _ _) (LRel.cons (.int _ _) (LRel1 (.int _ _))))⟩
theorem pairs_in (hval:qba Tryz.prog W r base 45 v) (hd:DataW.Trod enc Tryz.prog W b (fun _=>true) held 45 v d ps):okArg W v=true∧ ∃l:List Pr,VRel (impW W) (.lst 4 (l.map ePr)) v:=by
 unfold qba at hval;rw[Tryz.underlying45] at hval;have hval:Cell.okWide Tryz.prog W r base 45 v:=hval;obtain⟨fuel,hd⟩:=hd;have hsl: ∃base len cap,v=.slice base len cap:=by
  unfold Cell.okWide at hval;rw[Tryz.underlying45] at hval;have h:Cell.ok Tryz.prog W r base 45 v:=hval;unfold Cell.ok at h;rw[Tryz.underlying45] at h;cases v<;>first|exact h.elim|exact⟨_,_,_,rfl⟩
 obtain⟨b0,len,cap,rfl⟩:=hsl;have hd:qg enc Tryz.prog W b (fun _=>true) held fuel 45 [.slice b0 len cap]=some (d,ps):=hd;have hok:=zdL Tryz.underlying45 (zi0 Tryz.underlying45 hval) hd;obtain⟨l,hr⟩:=zcA (e:=ePr) Tryz.underlying45 cP4 (by omega) (fun _=>rfl) (fun _ _ _ h=>pair_el h) hd;rw[zgF hok] at hr;exact⟨hok,l,hr⟩
end
end
section
theorem law_lifted (os:Os) (started:os.Started) (H:Type) (enc:TypeId×Value→H):
 ReturnsInHanded {} Tryz.checked os 8 .any (Rows.wireNamesSpec.pre6 enc Tryz.prog Tryz.f8 Rows.wireNamesRow.domain false) (Rows.wireNamesSpec.post enc Tryz.prog Tryz.f8 false true false false):=by
 refine returnsInHanded_of_change (C:=Tryz.checked) own started (by kernel_rfl) Tryz.func8
  (ChangeSpec.witness6 (enc:=enc) (C:=Tryz.checked) false ⟨#[],#[.agg #[.slice none 0 0,.slice none 0 0,.slice none 0 0],.slice none 0 0],[]⟩ 8 (by kernel_rfl) (by kernel_rfl) (by kernel_rfl) (by kernel_rfl)) ?_
 intro W base args ds gs before hval0 hW hcnd _;have hval: ∀(j:Nat) t v,Tryz.f8.params[j]? =some t→args[j]? =some v→qba Tryz.prog W .any base t v:=hval0;have hW':=hW;obtain⟨p,q,hA0,hV0,rfl,hfz,hnd⟩:=hW;have hA:DataW.TrodAll enc Tryz.prog W 0 (fun _=>true) true Tryz.f8.params.toList args.toList ds p:=hA0;rw[Tryz.params8] at hA hval;obtain⟨v0,vs0,d0,ds0,q0,qs0,e0,rfl,rfl,h0,hr0⟩:=trodAll_cons hA;obtain⟨v1,vs1,d1,ds1,q1,qs1,e1,rfl,rfl,h1,hr1⟩:=trodAll_cons hr0;obtain⟨e2,rfl,rfl⟩:=trodAll_nil hr1;obtain rfl:args= #[v0,v1]:=by rw[←Array.toArray_toList (xs:=args),e0,e1,e2]
 obtain⟨o0,x0,r0⟩:=parcel_in (hval 0 26 v0 rfl rfl) h0;obtain⟨o1,x1,r1⟩:=pairs_in (hval 1 45 v1 rfl rfl) h1;obtain⟨rfl,rfl⟩:=trodVars_none hV0;refine(v_calls Go.Ideal.X.hmix Go.Ideal.Y.okF (names_go x0 x1 rfl) (fun v hv=>by
  simp only[qy,qC,or_false] at hv;rcases hv with rfl|rfl
  ·exact o0
  ·exact o1) (LRel.cons r0 (LRel1 r1))).mono fun e W' ⟨he,hs⟩=>⟨_,he,?_⟩
 exact law_post hW' rfl rfl (t:=4) (by kernel_rfl) Tryz.underlying4 hs laidOut (fun t ht=>by
  rw[Tryz.params8] at ht;simp only[qy,qC,or_false] at ht;rcases ht with rfl|rfl<;>exact⟨by kernel_rfl,of_decide_eq_true (by kernel_rfl)⟩)
theorem names_holds:Rows.WireNamesSaid:=
 OpenClaim.holds_of_wide 8 Tryz.f8 rfl rfl rfl rfl rfl rfl rfl ⟨rfl,rfl,rfl,rfl,rfl⟩ rfl rfl rfl rfl rfl (by kernel_rfl) Tryz.func8 (by kernel_rfl)
  (of_decide_eq_true (by kernel_rfl)) (by unfold Func.isWrapper;first| (rw[if_pos (by decide+kernel)];kernel_rfl)| (rw[if_neg (by decide+kernel)];exact⟨rfl,rfl⟩))
  (fun os started H enc _=>law_lifted os started H enc)
end
end Go.Proofs.YtffbioplncclkaaGreat
