/- WireBytes: both answer alike at any parcel and any bytes. No condition. -/
import Derived.Test.YtffbioplncclkaaGreatProg
import Derived.Shelf.Spec.SlicesInsertGrow
import Derived.Test.YtffbioplncclkaaGreatRows
import Derived.RowKitTokens
import Derived.ChangeVars
import Derived.Stop.Joined
import Derived.Test.YtffbioplncclkaaGreatH
set_option linter.unusedSimpArgs false
set_option linter.unusedVariables false
set_option linter.unusedSectionVars false
set_option maxRecDepth 100000
namespace Go.Proofs.YtffbioplncclkaaGreat
open Go.RowKit Go.Lib Go.Shelf
theorem mixed:Tryz.prog.follows .mixedOrders=true:=by kernel_rfl
theorem z63: ∀w,(Go.sizeOf 73).run Tryz.prog w=.ok 3 w:=fun w=>by kernel_rfl
theorem u44:Tryz.prog.underlying 84=some (.slice 73):=Tryz.underlying84
set_option maxHeartbeats 8000000 in
theorem ins_shift (b off n c i vb voff vc:Nat) (w W1 W2:World) (hi:i<n) (hroom:n+1≤c) (hn63:n≤1000000000000) (hvb:vb≠b)
 (tA tB:TypeId) (kA kB:Nat) (hsa:w.shape? vb=some (tA,kA)) (hsb:w.shape? b=some (tB,kB)) (hkB:kB≠0) (hfa:w.frozen? ⟨vb,voff,none⟩=false) (hfe:w.frozen? ⟨vb,kA,none⟩=false)
 (hcp1: ∀ty dc sc,(Builtin.copy_ #[84,84] ty #[.slice (some ⟨b,off+(i+1)*3,none⟩) (n - i) dc,.slice (some ⟨b,off+i*3,none⟩) (n+1 - i) sc]).run Tryz.prog w.drew=.ok (goInt ((n - i:Nat):Int)) W1)
 (hcp2: ∀ty dc,(Builtin.copy_ #[84,84] ty #[.slice (some ⟨b,off+i*3,none⟩) (n+1 - i) dc,.slice (some ⟨vb,voff,none⟩) 1 vc]).run Tryz.prog W1=.ok (goInt 1) W2):
 Calls Tryz.prog 83 #[.slice (some ⟨b,off,none⟩) n c,.int .i64 i,.slice (some ⟨vb,voff,none⟩) 1 vc] w fun e w'=>
  e=.returned (.slice (some ⟨b,off,none⟩) (n+1) c)∧w'=W2:=by
 have hz2: ¬((i:Int)=(n:Int)):=by omega
 have hov: ∀lb cb,(callFunc 149 #[.slice (some ⟨vb,voff,none⟩) 1 vc,.slice (some ⟨b,off+(i+1)*3,none⟩) lb cb]).run Tryz.prog w=.ok (.value (.bool false)) w:=fun lb cb=>by
  rw[run_callFunc_extern Tryz.func149 (by kernel_rfl) (by kernel_rfl) (by kernel_rfl) (e:=Extern.SlicesOverlaps.overlaps #[84,84] #[4]) (by kernel_rfl),
   Lib.run_overlaps_apart w 84 4 73 u44 3 z63 ⟨vb,voff,none⟩ ⟨b,off+(i+1)*3,none⟩ 1 vc lb cb hvb tA tB kA kB hsa hsb hkB hfa hfe]
  rfl
 have mixed:=mixed
 have hw1:IntKind.i64.wrap ((i:Int)+1)=(i:Int)+1:=by rw[IntKind.wrap_i64];omega
 have hw2:IntKind.i64.wrap ((n:Int)+1)=(n:Int)+1:=by rw[IntKind.wrap_i64];omega
 have hb1:(0:Int)≤(i:Int)+1:=by omega
 have hin:i≤n:=by omega
 have htn:((i:Int)+1).toNat=i+1:=by omega
 have htn2:((n:Int)+1).toNat=n+1:=by omega
 have hb2: ¬(c=i+1):=by omega
 have hb3:(i:Int)≤(n:Int)+1:=by omega
 have hb4: ¬(c=i):=by omega
 have z63:=z63
 go_enter Tryz.func83,Tryz.ntmps83
 go_wp2_with (simp only[hov])
 go_region_law_o (refine step_copy_runI rfl _ _ 84 84 rfl _ _ (by simp[Act.eval,Act.put]) (by simp[Act.eval,Act.put]) (hcp1 _ _ _) ?_)
 go_wp2_with (at_builtin;refine wpList_copy_runI _ rfl _ _ 84 84 rfl _ _ rfl rfl (hcp2 _ _) ?_)
 go_ret
 exact⟨rfl,rfl⟩
end Go.Proofs.YtffbioplncclkaaGreat
namespace Go.Proofs.YtffbioplncclkaaGreat
open Go.RowKit Go.Lib Go.Shelf
set_option maxHeartbeats 8000000 in
theorem ins_grow (b off n c i vb voff vc N G:Nat) (w W1 W2 W3:World) (hi:i<n) (hnc:n≤c) (hroom:c<n+1) (hn63:n≤1000000000000) (hG:n+1≤G) (hG63:G≤9223372036854775807)
 (hap: ∀ty,(Builtin.append_ #[84,3] ty #[.slice (some ⟨b,off,none⟩) i c,.int .i64 ((n:Int)+1 - (i:Int))]).run Tryz.prog w=.ok (.slice (some ⟨N,0,none⟩) (n+1) G) W1)
 (hcpA: ∀ty dc,(Builtin.copy_ #[84,84] ty #[.slice (some ⟨N,i*3,none⟩) (n+1 - i) dc,.slice (some ⟨vb,voff,none⟩) 1 vc]).run Tryz.prog W1=.ok (goInt 1) W2)
 (hcpB: ∀ty dc sc,(Builtin.copy_ #[84,84] ty #[.slice (some ⟨N,(i+1)*3,none⟩) (n - i) dc,.slice (some ⟨b,off+i*3,none⟩) (n - i) sc]).run Tryz.prog W2.drew=.ok (goInt ((n - i:Nat):Int)) W3):
 Calls Tryz.prog 83 #[.slice (some ⟨b,off,none⟩) n c,.int .i64 i,.slice (some ⟨vb,voff,none⟩) 1 vc] w fun e w'=>
  e=.returned (.slice (some ⟨N,0,none⟩) (n+1) G)∧w'=W3:=by
 have hz2: ¬((i:Int)=(n:Int)):=by omega
 have hz3:(c:Int)<(n:Int)+1:=by omega
 have mixed:=mixed
 have hw1:IntKind.i64.wrap ((i:Int)+1)=(i:Int)+1:=by rw[IntKind.wrap_i64];omega
 have hw2:IntKind.i64.wrap ((n:Int)+1)=(n:Int)+1:=by rw[IntKind.wrap_i64];omega
 have hw3:IntKind.i64.wrap ((n:Int)+1 - (i:Int))=(n:Int)+1 - (i:Int):=by rw[IntKind.wrap_i64];omega
 have hb1:(0:Int)≤(i:Int)+1:=by omega
 have hin:i≤n:=by omega
 have htn:((i:Int)+1).toNat=i+1:=by omega
 have htn2:((n:Int)+1).toNat=n+1:=by omega
 have hb3:(i:Int)≤(n:Int):=by omega
 have hGi: ¬(G=i):=by omega
 have hGim: ¬(G=i+1):=by omega
 have hci: ¬(c=i):=by omega
 have z63:=z63
 go_enter Tryz.func83,Tryz.ntmps83
 go_wp2_with (first
  | (at_builtin;refine Lib.wpList_append_run _ rfl _ _ _ _ rfl _ _ rfl rfl _ _ (hap _) ?_)
  | (at_builtin;refine wpList_copy_runI _ rfl _ _ 84 84 rfl _ _ rfl rfl (hcpA _ _) ?_))
 go_region_law_o (refine step_copy_runI rfl _ _ 84 84 rfl _ _ (by simp[Act.eval,Act.put]) (by simp[Act.eval,Act.put]) (hcpB _ _ _) ?_)
 go_wp2
 go_ret
 exact⟨rfl,rfl⟩
end Go.Proofs.YtffbioplncclkaaGreat
namespace Go.Proofs.YtffbioplncclkaaGreat
open Go.RowKit Go.Lib Go.Shelf Go.Ideal
theorem zjt (w w':World) (d s:Addr) (dLen dc sLen sc k:Nat) (l:List Value) (ty:TypeId) (hk:Nat.min sLen dLen=k) (hl:l.length=k*3) (hsrc: ∀j v,l[j]? =some v→w.cell? (s.add j)=some v)
 (hst:(storeCells d l).run Tryz.prog w=.ok () w'):(Builtin.copy_ #[84,84] ty #[.slice (some d) dLen dc,.slice (some s) sLen sc]).run Tryz.prog w=.ok (goInt k) w':=by
 have hld:=run_loadCells_list (P:=Tryz.prog) w s l hsrc
 rw[hl] at hld
 simp[Builtin.copy_,run_underlying u44,Builtin.lenOf,Builtin.firstCells,z63,hk,hld,hst]
def zgF (c:List Value) (p i:Nat) (vs tl:List Value):List Value:=
 let r1:=c.take (p+(i+1)*3)++tl++c.drop (p+(i+1)*3+tl.length)
 r1.take (p+i*3)++vs++r1.drop (p+i*3+vs.length)
theorem insRow_length {c:List Value} {p i:Nat} {vs tl:List Value} (hv:vs.length=3) (hf:p+(i+1)*3+tl.length≤c.length):(zgF c p i vs tl).length=c.length:=by
 unfold zgF;simp[hv];omega
theorem insRow_get {c:List Value} {p i n:Nat} {vs old:List Value} (hv:vs.length=3) (ho:old.length=n*3) (hi:i<n) (hf:p+(n+1)*3≤c.length) (hc: ∀j v,j<i*3→old[j]? =some v→c[p+j]? =some v)
 (j:Nat) (hj:j<(n+1)*3):(zgF c p i vs (old.drop (i*3)))[p+j]? =(old.take (i*3)++(vs++old.drop (i*3)))[j]?:=by
 have htl:(old.drop (i*3)).length=n*3 - i*3:=by simp[ho]
 unfold zgF
 dsimp only
 generalize hr1:(c.take (p+(i+1)*3)++old.drop (i*3)++c.drop (p+(i+1)*3+(old.drop (i*3)).length))=r1
 have hl1:r1.length=c.length:=by rw[←hr1];simp[ho];omega
 have htk:(old.take (i*3)).length=i*3:=by simp[ho];omega
 by_cases h1:j<i*3
 ·rw[List.append_assoc,List.getElem?_append_left (by simp[hl1];omega),List.getElem?_take,if_pos (by omega),List.getElem?_append_left (by omega)]
  rw[←hr1,List.append_assoc,List.getElem?_append_left (by simp;omega),List.getElem?_take,if_pos (by omega)]
  have hlt:j<old.length:=by omega
  rw[hc j _ h1 (List.getElem?_eq_getElem hlt),List.getElem?_take,if_pos h1,List.getElem?_eq_getElem hlt]
 ·by_cases h2:j<i*3+3
  ·rw[List.append_assoc,List.getElem?_append_right (by simp[hl1];omega),List.getElem?_append_left (by simp[hl1];omega)]
   rw[List.getElem?_append_right (by omega),htk,List.getElem?_append_left (by omega)]
   congr 1;simp[hl1];omega
  ·rw[List.getElem?_append_right (by simp[hl1,hv];omega),List.getElem?_drop]
   have e:p+i*3+vs.length+(p+j - (r1.take (p+i*3)++vs).length)=p+j:=by simp[hl1,hv];omega
   rw[e,←hr1,List.getElem?_append_left (by simp[ho];omega),List.getElem?_append_right (by simp;omega)]
   rw[List.getElem?_append_right (by omega),htk,List.getElem?_append_right (by omega)]
   congr 1;simp[hv];omega
theorem cell_setRow {w:World} {g:Nat} {old cs:Array Value} {t:TypeId} {fr:Nat×Nat} (hg:w.heap[g]? =some (.cells old t fr)) {a:Addr} (hne:a.block≠g):(w.setRow g cs).cell? a=w.cell? a:=by
 rw[zbH w g old cs t fr hg]
 unfold World.cell?
 rw[show({w with heap:=w.heap.setIfInBounds g (.cells cs t fr)}:World).heap[a.block]? =w.heap[a.block]? from by
  show(w.heap.setIfInBounds g _)[a.block]? =_
  rw[Array.getElem?_setIfInBounds,if_neg (fun e=>hne e.symm)]]
theorem zlr {w:World} {g:Nat} {old cs:Array Value} {t:TypeId} {fr:Nat×Nat} (hg:w.heap[g]? =some (.cells old t fr)):(w.setRow g cs).heap[g]? =some (.cells cs t fr):=by
 rw[zbH w g old cs t fr hg]
 have:=(Array.getElem?_eq_some_iff.1 hg).1
 show(w.heap.setIfInBounds g _)[g]? =_
 simp[this]
theorem setRow_setRow {w:World} {g:Nat} {old c1 c2:Array Value} {t:TypeId} {fr:Nat×Nat} (hg:w.heap[g]? =some (.cells old t fr)):(w.setRow g c1).setRow g c2={w with heap:=w.heap.setIfInBounds g (.cells c2 t fr)}:=by
 rw[zbH _ g c1 c2 t fr (zlr hg),zbH w g old c1 t fr hg]
 simp
theorem cell_of {w:World} {g:Nat} {c:Array Value} {t:TypeId} {fr:Nat×Nat} (hg:w.heap[g]? =some (.cells c t fr)) (o:Nat):w.cell? ⟨g,o,none⟩=c[o]?:=by
 unfold World.cell?;simp[hg]
theorem VRL.three {ρ:Rho} {x y z:Value} {args:Array Value} (h:VRL ρ [x,y,z] args.toList): ∃x' y' z',args= #[x',y',z']∧VR ρ x x'∧VR ρ y y'∧VR ρ z z':=by
 obtain⟨x',l,e,h1,h2⟩:=h.cons_left
 obtain⟨y',l2,rfl,h3,h4⟩:=h2.cons_left
 obtain⟨z',l3,rfl,h5,h6⟩:=h4.cons_left
 rw[h6.nil_left] at e
 exact⟨x',y',z',by rw[←Array.toArray_toList (xs:=args),e],h1,h3,h5⟩
theorem plainRow_some {h:H} {i:Nat} (hp:plainRow h i=true): ∃cs e,h.get i=some (.cells cs e)∧e≠roE:=by
 unfold plainRow at hp
 split at hp
 ·rename_i cs e hg;exact⟨cs,e,hg,fun h=>by rw[h] at hp;simp at hp⟩
 ·cases hp
end Go.Proofs.YtffbioplncclkaaGreat
namespace Go.Proofs.YtffbioplncclkaaGreat
open Go.RowKit Go.Lib Go.Shelf Go.Ideal
section
variable {ρ:Rho} {h:H} {w:World}
theorem shift_ok (hr:HR Tryz.prog ρ h w) {i0 o0 n cap' i:Nat} {R:RB} {cs old vs vs' old':List Value} {Rv:RB} {vo vc':Nat} (hR:ρ i0=some R) (ho:h.get i0=some (.cells cs 3)) (hl:n≤cap') (hs:R.base+o0+cap'*R.esz≤R.csize) (hi:i<n) (hle:n+1≤cap') (hn63:n≤1000000000000)
 (hvl:vs.length=3) (hvv:VRL ρ vs vs') (hcell:vs.all isCell=true) (hcv: ∀j v,vs'[j]? =some v→w.cell? ((⟨Rv.blk,Rv.base+vo,none⟩:Addr).add j)=some v) (hold:old.length=n*3) (hvo:VRL ρ old old')
 (hco: ∀j v,old'[j]? =some v→w.cell? ((⟨R.blk,R.base+o0,none⟩:Addr).add j)=some v) (hone: ∀u∈old',u.oneCell'=true)
 {cv:Array Value} {tv:TypeId} (hbv:w.heap[Rv.blk]? =some (.cells cv tv (0,0))) (hne:Rv.blk≠R.blk):
 Calls Tryz.prog 83 #[.slice (some ⟨R.blk,R.base+o0,none⟩) n cap',.int .i64 i,.slice (some ⟨Rv.blk,Rv.base+vo,none⟩) 1 vc'] w
  (zhi Tryz.prog ρ w (.val (zb3 (h.put i0 .dead) (n+1) 3 (old.take (i*3)++(vs++old.drop (i*3)))).1 (zb3 (h.put i0 .dead) (n+1) 3 (old.take (i*3)++(vs++old.drop (i*3)))).2)):=by
 obtain⟨q1,q2,c,t,fr,hb1,hfx,hsz,hfit,hget⟩:=hr.obj _ _ _ hR ho
 obtain⟨hfx,rfl⟩:=hfx.resolve_right (fun h=>by have:=h.2;simp[roE] at this)
 rw[q1] at hs
 have hvl':vs'.length=3:=by rw[←hvv.1];exact hvl
 have hol':old'.length=n*3:=by rw[←hvo.1];exact hold
 have hcl:c.toList.length=c.size:=by simp
 have hroom:R.base+o0+(n+1)*3≤c.size:=by rw[hsz];have:=Nat.mul_le_mul_right 3 hle;omega
 have honev:=one_of hvv hcell
 have htl:(old'.drop (i*3)).length=n*3 - i*3:=by simp[hol']
 have hb1d:w.drew.heap[R.blk]? =some (.cells c t (0,0)):=hb1
 have hbvd:w.drew.heap[Rv.blk]? =some (.cells cv tv (0,0)):=hbv
 have hst1:=run_storeCells_at (P:=Tryz.prog) R.blk (R.base+o0+(i+1)*3) t (old'.drop (i*3)) 0 c w.drew hb1d (by rw[htl];omega) (fun v hv=>hone v (List.mem_of_mem_drop hv))
 rw[Nat.add_zero] at hst1
 generalize hrow1:(c.toList.take (R.base+o0+(i+1)*3)++old'.drop (i*3)++c.toList.drop (R.base+o0+(i+1)*3+(old'.drop (i*3)).length))=row1 at hst1
 have hrl1:row1.length=c.size:=by rw[←hrow1];simp[hol'];omega
 have hb2:=zlr (cs:=row1.toArray) hb1d
 have hst2:=run_storeCells_at (P:=Tryz.prog) R.blk (R.base+o0+i*3) t vs' 0 row1.toArray (w.drew.setRow R.blk row1.toArray) hb2 (by simp[hrl1,hvl'];omega) honev
 rw[Nat.add_zero] at hst2
 have hrow2:(row1.toArray.toList.take (R.base+o0+i*3)++vs'++row1.toArray.toList.drop (R.base+o0+i*3+vs'.length))=zgF c.toList (R.base+o0) i vs' (old'.drop (i*3)):=by
  unfold zgF;dsimp only;rw[hrow1]
 rw[hrow2,setRow_setRow hb1d] at hst2
 have hrl2:(zgF c.toList (R.base+o0) i vs' (old'.drop (i*3))).length=c.size:=by rw[insRow_length hvl' (by rw[htl,hcl];omega),hcl]
 have hk1:n*3 - i*3=(n - i)*3:=by rw[←Nat.sub_mul]
 have hcall:=ins_shift R.blk (R.base+o0) n cap' i Rv.blk (Rv.base+vo) vc' w (w.drew.setRow R.blk row1.toArray) {w.drew with heap:=w.drew.heap.setIfInBounds R.blk (.cells (zgF c.toList (R.base+o0) i vs' (old'.drop (i*3))).toArray t (0,0))}
  hi hle hn63 hne tv t cv.size c.size (by unfold World.shape?;rw[hbv]) (by unfold World.shape?;rw[hb1]) (by omega) (by unfold World.frozen?;rw[hbv];simp) (by unfold World.frozen?;rw[hbv];simp)
  (fun ty dc sc=>zjt w.drew _ _ _ (n - i) dc (n+1 - i) sc (n - i) (old'.drop (i*3)) ty (by simp only[Nat.min_def];split<;>omega) (by rw[htl,hk1]) (fun j v hj=>by
    rw[List.getElem?_drop] at hj
    have:=hco _ v hj
    rw[Addr.add_mk] at this⊢
    rw[World.cell?_drew,Nat.add_assoc];exact this) hst1)
  (fun ty dc=>zjt _ _ _ _ (n+1 - i) dc 1 vc' 1 vs' ty (by simp only[Nat.min_def];split<;>omega) (by rw[hvl']) (fun j v hj=>by
    rw[cell_setRow hb1d (by rw[Addr.add_mk];exact hne),World.cell?_drew];exact hcv j v hj) hst2)
 refine hcall.mono ?_
 rintro e w' ⟨rfl,rfl⟩
 have hfree:=(hr.nxt _ (Nat.le_refl _)).1
 have hLl:(old.take (i*3)++(vs++old.drop (i*3))).length=(n+1)*3:=by simp[hold,hvl];omega
 have hLr:VRL ρ (old.take (i*3)++(vs++old.drop (i*3))) (old'.take (i*3)++(vs'++old'.drop (i*3))):=(hvo.take _).append (hvv.append (hvo.drop _))
 have hblt:=hr.blk _ _ hR
 obtain⟨g1,g2⟩:=hr.drew.steal (R':=⟨R.blk,R.base+o0,R.csize,3,(n+1)*3,none⟩) (io:=.cells (old.take (i*3)++(vs++old.drop (i*3))) 3) (o:=.cells (zgF c.toList (R.base+o0) i vs' (old'.drop (i*3))).toArray t) hR ho (by simp) hb1d (fun r hr=>by cases hr) (zbC _ _) (zbC _ _) rfl (by
  refine⟨rfl,hLl.symm,(zgF c.toList (R.base+o0) i vs' (old'.drop (i*3))).toArray,t,_,by simp[hblt],.inl ⟨rfl,rfl⟩,by simp[hrl2,hsz],by simp only[List.size_toArray,hrl2];rw[hLl];exact hroom,fun j x hj=> ?_⟩
  have hjlt:j<(n+1)*3:=by rw[←hLl];exact(List.getElem?_eq_some_iff.1 hj).1
  obtain⟨y,hy,hyv⟩:=hLr.get hj
  refine⟨y,?_,.inr (hyv.mono (zdi _ hfree))⟩
  simp only[List.getElem?_toArray]
  rw[insRow_get hvl' hol' hi (by rw[hcl];exact hroom) (fun k v hk hkv=> ?_) j hjlt]
  ·exact hy
  ·have:=hco k v hkv
   rw[Addr.add_mk,cell_of hb1] at this
   rw[Array.getElem?_toList];exact this)
 have hvr:VR (upd ρ h.next ⟨R.blk,R.base+o0,R.csize,3,(n+1)*3,none⟩) (.slice (some ⟨h.next,0,none⟩) (n+1) zg) (.slice (some ⟨R.blk,R.base+o0+0,none⟩) (n+1) cap'):=by
  have h1:(n+1)*3≤cap'*3:=Nat.mul_le_mul_right _ hle
  exact VR.sliceO (zL _ _ _) (by show 0<3;omega) hle (by show R.base+o0+0+cap'*3≤R.csize;omega) (by show(n+1)*3≤0+cap'*3;omega)
 exact⟨_,_,_,_,rfl,rfl,by simpa[zb3] using hvr,g1,(Ext.drew ρ w).trans g2⟩
end
theorem two_stores {A Z1 Z2 V D:List Value} {a v:Nat} (ha:A.length=a) (hv:V.length=v) (hz:Z1.length=v+D.length):
 let r1:=(A++Z1++Z2).take a++V++(A++Z1++Z2).drop (a+V.length)
 r1.length=(A++Z1++Z2).length∧r1.take (a+v)++D++r1.drop (a+v+D.length)=A++(V++D)++Z2:=by
 have e1:(A++Z1++Z2).take a=A:=by rw[List.append_assoc];exact List.take_left' ha
 have e2:(A++Z1++Z2).drop (a+V.length)=Z1.drop v++Z2:=by
  rw[List.append_assoc,←List.drop_drop,List.drop_left' ha,hv,List.drop_append_of_le_length (by omega)]
 intro r1
 have e:r1=A++V++(Z1.drop v++Z2):=by show(A++Z1++Z2).take a++V++(A++Z1++Z2).drop (a+V.length)=_;rw[e1,e2]
 have e3:r1.take (a+v)=A++V:=by rw[e];exact List.take_left' (by simp[ha,hv])
 have e4:r1.drop (a+v+D.length)=Z2:=by
  rw[e,←List.drop_drop,List.drop_left' (by simp[ha,hv])]
  exact List.drop_left' (by simp[hz])
 refine⟨by rw[e];simp[hz,hv];omega,?_⟩
 rw[e3,e4];simp
theorem zi3 {w:World} {A B:Array Value} {t:TypeId}:(w.alloc (.cells A t)).setRow w.heap.size B=w.alloc (.cells B t):=by
 rw[zbH _ _ A B t (0,0) (zY _ _)]
 show({w with heap:=(w.heap.push (.cells A t)).setIfInBounds w.heap.size (.cells B t)}:World)={w with heap:=w.heap.push (.cells B t)}
 congr 1
 apply Array.ext_getElem?
 intro j
 by_cases hj:j=w.heap.size
 ·subst hj;simp
 ·rw[Array.getElem?_setIfInBounds,if_neg (fun e=>hj e.symm),Array.getElem?_push,Array.getElem?_push,if_neg hj,if_neg hj]
def zv63:Value:=.agg #[.int .i64 0,.int .i64 0,.slice none 0 0]
theorem i63:(Tryz.prog.info? 73).map (fun i=>(i.zero,i.size,i.bytes))=some (some zv63,3,40):=by kernel_rfl
section
variable {ρ:Rho} {h:H} {w:World}
theorem grow_ok (hr:HR Tryz.prog ρ h w) {i0 o0 n cap' i:Nat} {R:RB} {cs old vs vs' old':List Value} {Rv:RB} {vo vc':Nat} (hR:ρ i0=some R) (ho:h.get i0=some (.cells cs 3)) (hl:n≤cap') (hi:i<n) (hle: ¬n+1≤cap') (hbytes:(n+1)*40≤1073741824)
 (hvl:vs.length=3) (hvv:VRL ρ vs vs') (hcell:vs.all isCell=true) (hcv: ∀j v,vs'[j]? =some v→w.cell? ((⟨Rv.blk,Rv.base+vo,none⟩:Addr).add j)=some v) (hvlt:Rv.blk<w.heap.size) (hold:old.length=n*3) (hvo:VRL ρ old old')
 (hco: ∀j v,old'[j]? =some v→w.cell? ((⟨R.blk,R.base+o0,none⟩:Addr).add j)=some v) (hone: ∀u∈old',u.oneCell'=true):
 Calls Tryz.prog 83 #[.slice (some ⟨R.blk,R.base+o0,none⟩) n cap',.int .i64 i,.slice (some ⟨Rv.blk,Rv.base+vo,none⟩) 1 vc'] w
  (zhi Tryz.prog ρ w (.val (zb3 (h.put i0 .dead) (n+1) 3 (old.take (i*3)++(vs++old.drop (i*3)))).1 (zb3 (h.put i0 .dead) (n+1) 3 (old.take (i*3)++(vs++old.drop (i*3)))).2)):=by
 obtain⟨i1,hi1,hz1,hsz,hbt⟩:=info_parts i63
 have hvl':vs'.length=3:=by rw[←hvv.1];exact hvl
 have hol':old'.length=n*3:=by rw[←hvo.1];exact hold
 have honev:=one_of hvv hcell
 have hRlt:=hr.blk _ _ hR
 have htl:(old'.drop (i*3)).length=(n - i)*3:=by simp[hol',Nat.sub_mul]
 have htk:(old'.take (i*3)).length=i*3:=by simp[hol'];omega
 have hik:i+(n+1 - i)=n+1:=by omega
 have hkk:((n:Int)+1 - (i:Int))=((n+1 - i:Nat):Int):=by omega
 have hfc:(Builtin.firstCells i1.size i (.slice (some ⟨R.blk,R.base+o0,none⟩) i cap')).run Tryz.prog w.drew=.ok (old'.take (i*3)).toArray w.drew:=by
  rw[hsz]
  exact run_firstCells_some w.drew 3 i ⟨R.blk,R.base+o0,none⟩ i cap' (old'.take (i*3)) htk (fun j v hj=>by
   rw[List.getElem?_take] at hj
   split at hj
   ·rw[World.cell?_drew];exact hco j v hj
   ·cases hj)
 obtain⟨G,hG⟩: ∃G,G=grownCap w (n+1) cap' 73:=⟨_,rfl⟩
 have hGn:n+1≤G:=by rw[hG];exact grownCap_ge w _ _ _
 have hG63:G≤9223372036854775807:=by
  have:=grownCap_le_maxLen w (n+1) cap' 73 (by unfold maxLen;omega)
  rw[←hG] at this;unfold maxLen at this;omega
 obtain⟨ROW,hROW⟩: ∃ROW:Array Value,ROW=(old'.take (i*3)).toArray++Builtin.zeroCells zv63.cells (n+1 - i)++Builtin.zeroCells zv63.cells (G - (n+1)):=⟨_,rfl⟩
 have hrz: ∀ty,(Builtin.append_ #[84,3] ty #[.slice (some ⟨R.blk,R.base+o0,none⟩) i cap',.int .i64 ((n:Int)+1 - (i:Int))]).run Tryz.prog w=.ok (.slice (some ⟨w.heap.size,0,none⟩) (n+1) G) (w.drew.alloc (.cells ROW 73)):=fun ty=>by
  have h:=Lib.run_append_grow_zeros w 84 3 ty 73 i1 _ .i64 .i64 u44 Tryz.underlying3 hi1 hz1 (some ⟨R.blk,R.base+o0,none⟩) i cap' (old'.take (i*3)) hfc (n+1 - i) (by omega) (by omega) (by omega) (by omega) (by rw[hbt];omega) (by rw[hbt,hik];exact growslice_fits (by omega) (by omega))
  rw[hik,←hG,←hROW] at h
  rw[hkk];exact h
 have hzl: ∀k,(Builtin.zeroCells zv63.cells k).toList.length=k*3:=fun k=>by simp[Builtin.zeroCells,zv63,Value.cells]
 have hRl:ROW.toList=old'.take (i*3)++(Builtin.zeroCells zv63.cells (n+1 - i)).toList++(Builtin.zeroCells zv63.cells (G - (n+1))).toList:=by rw[hROW];simp
 obtain⟨s1,s2⟩:=two_stores (A:=old'.take (i*3)) (Z1:=(Builtin.zeroCells zv63.cells (n+1 - i)).toList) (Z2:=(Builtin.zeroCells zv63.cells (G - (n+1))).toList) (V:=vs') (D:=old'.drop (i*3)) htk hvl' (by rw[hzl,htl];omega)
 rw[←hRl] at s1 s2
 have hRs:ROW.size=ROW.toList.length:=by simp
 have hRsz:i*3+(n+1 - i)*3≤ROW.size:=by rw[hRs,hRl];simp only[List.length_append,htk,hzl];omega
 have hg1:(w.drew.alloc (.cells ROW 73)).heap[w.heap.size]? =some (.cells ROW 73 (0,0)):=zY w.drew _
 have hst1:=run_storeCells_at (P:=Tryz.prog) w.heap.size (i*3) 73 vs' 0 ROW (w.drew.alloc (.cells ROW 73)) hg1 (by rw[hvl'];omega) honev
 rw[Nat.add_zero] at hst1
 generalize hrow1:(ROW.toList.take (i*3)++vs'++ROW.toList.drop (i*3+vs'.length))=row1 at hst1 s1 s2
 have hA1:(w.drew.alloc (.cells ROW 73)).setRow w.heap.size row1.toArray=w.drew.alloc (.cells row1.toArray 73):=zi3 (w:=w.drew)
 rw[hA1] at hst1
 have hg2:(w.drew.alloc (.cells row1.toArray 73)).drew.heap[w.heap.size]? =some (.cells row1.toArray 73 (0,0)):=zY w.drew _
 have hst2:=run_storeCells_at (P:=Tryz.prog) w.heap.size ((i+1)*3) 73 (old'.drop (i*3)) 0 row1.toArray (w.drew.alloc (.cells row1.toArray 73)).drew hg2 (by rw[htl];simp only[List.size_toArray,s1,←hRs];omega) (fun v hv=>hone v (List.mem_of_mem_drop hv))
 rw[Nat.add_zero,show(i+1)*3=i*3+3 from by omega] at hst2
 simp only[List.toList_toArray] at hst2
 rw[s2] at hst2
 have hA2:(w.drew.alloc (.cells row1.toArray 73)).drew.setRow w.heap.size (old'.take (i*3)++(vs'++old'.drop (i*3))++(Builtin.zeroCells zv63.cells (G - (n+1))).toList).toArray=w.drew.drew.alloc (.cells (old'.take (i*3)++(vs'++old'.drop (i*3))++(Builtin.zeroCells zv63.cells (G - (n+1))).toList).toArray 73):=zi3 (w:=w.drew.drew)
 rw[hA2] at hst2
 have hcall:=ins_grow R.blk (R.base+o0) n cap' i Rv.blk (Rv.base+vo) vc' w.heap.size G w _ _ _ hi hl (by omega) (by omega) hGn hG63 hrz
  (fun ty dc=>zjt _ _ _ _ (n+1 - i) dc 1 vc' 1 vs' ty (by simp only[Nat.min_def];split<;>omega) (by rw[hvl']) (fun j v hj=>by
    have:=hcv j v hj
    rw[Addr.add_mk] at this⊢
    rw[World.cell?_alloc_lt _ _ ⟨Rv.blk,_,none⟩ (show Rv.blk<w.drew.heap.size from hvlt),World.cell?_drew];exact this) hst1)
  (fun ty dc sc=>zjt _ _ _ _ (n - i) dc (n - i) sc (n - i) (old'.drop (i*3)) ty (by simp) htl (fun j v hj=>by
    rw[List.getElem?_drop] at hj
    have:=hco _ v hj
    rw[Addr.add_mk] at this⊢
    rw[World.cell?_drew,World.cell?_alloc_lt _ _ ⟨R.blk,_,none⟩ (show R.blk<w.drew.heap.size from hRlt),World.cell?_drew,Nat.add_assoc];exact this) (by rw[show(i+1)*3=i*3+3 from by omega];exact hst2))
 refine hcall.mono ?_
 rintro e w' ⟨rfl,rfl⟩
 have hLl:(old.take (i*3)++(vs++old.drop (i*3))).length=(n+1)*3:=by simp[hold,hvl];omega
 have hLr:VRL ρ (old.take (i*3)++(vs++old.drop (i*3))) (old'.take (i*3)++(vs'++old'.drop (i*3))):=(hvo.take _).append (hvv.append (hvo.drop _))
 have hkill:=hr.kill (i:=i0) (hr.lt ho)
 obtain⟨σ,v',p1,rfl,p2,p3⟩:=zhK (P:=Tryz.prog) (i:=i1) (e:=73) (zv:=zv63) (by rw[hsz];rfl) (by omega) hkill.drew.drew hLr (VRL.nil ρ) (need:=n+1) (nc:=G) (by rw[List.append_nil,hsz];exact hLl) hGn
 rw[hsz] at p1 p2
 simp only[List.append_nil] at p1 p2 p3
 have hrow:((old'.take (i*3)++(vs'++old'.drop (i*3))).toArray++Builtin.zeroCells zv63.cells (G - (n+1)))=(old'.take (i*3)++(vs'++old'.drop (i*3))++(Builtin.zeroCells zv63.cells (G - (n+1))).toList).toArray:=by
  apply Array.toList_inj.1;simp
 rw[hrow] at p2 p3
 exact⟨_,_,_,_,rfl,rfl,p1,p2,((Ext.drew ρ w).trans (Ext.drew ρ _)).trans p3⟩
end
theorem insOk:PrimOk Tryz.prog 83 (insP 3 40):=by
 refine⟨fun args w=> ?_,fun args h v h' hp ρ args' w ra hr=> ?_⟩
 ·have hb:Tryz.f83.body≠none:=by rw[show(Tryz.f83.body≠none)=(Tryz.f83.body.isSome=true) from by simp[Option.isSome_iff_ne_none]];kernel_rfl
  have hn: ¬Tryz.f83.name= "runtime.NumGoroutine" :=by decide+kernel
  simp[callFunc,Tryz.func83,hb,hn]
 ·unfold insP at hp
  split at hp
  ·rename_i a n c i b m vc
   split at hp
   ·rename_i hc
    simp only[Bool.and_eq_true] at hc
    obtain⟨c1,c2,c3,c4,c5,c6⟩:=hc
    obtain rfl:=Nat.eq_of_beq_eq_true c1
    have hi:i<n:=Nat.le_of_ble_eq_true c2
    obtain rfl:=Nat.eq_of_beq_eq_true c3
    have hab:a.block≠b.block:=fun e=>by rw[e] at c4;simp at c4
    have hbytes:=Nat.le_of_ble_eq_true c6
    obtain⟨vs,hvs,hp⟩:=aof hp
    split at hp
    ·rename_i hcell
     obtain⟨o,ho,hp⟩:=aof hp
     unfold insIn at hp
     split at hp
     ·rename_i cs esz
      split at hp
      ·rename_i hes
       simp only[Bool.and_eq_true] at hes
       obtain rfl:esz=3:=Nat.eq_of_beq_eq_true hes.1
       obtain⟨old,hold,hp⟩:=aof hp
       split at hp
       case isFalse=>cases hp
       rename_i holdc
       obtain⟨x',y',z',rfl,rx,ry,rz⟩:=VRL.three ra
       have hre:h.readN a.block a.off (n*3)=some old:=by simp only[H.readN,ho,Option.bind_some,readObj,hold]
       obtain⟨Rv,vc',hRv,rfl⟩:=rz.inv_slice_some (by omega)
       obtain rfl:=ry.inv_int
       obtain⟨csv,ev,hgv,hev⟩:=plainRow_some c5
       obtain⟨v1,v2,cv,tv,frv,hbv,hfv,_⟩:=hr.obj _ _ _ hRv hgv
       obtain⟨-,rfl⟩:=hfv.resolve_right (fun h=>hev h.2)
       obtain⟨hvl,vs',hvv,hcv⟩:=zcC (P:=Tryz.prog) hr hRv hvs
       cases rx with
       |slice hR hc hl=>exact(Nat.lt_irrefl zg hc).elim
       |sliceE hR he hb=>exact absurd hi (by omega)
       |sliceR hR he hl=>
        obtain⟨q1,_⟩:=hr.obj _ _ _ hR ho
        have:=q1.symm.trans he
        simp[roE] at this
       | @sliceO i0 o0 _ cap' R hR he hl hs hb=>
         obtain⟨hol,old',hvo,hco⟩:=zcC (P:=Tryz.prog) hr hR hre
         have hne:Rv.blk≠R.blk:=fun e=>hab (hr.sep _ _ _ _ hR hRv ⟨_,ho,by simp⟩ ⟨_,hgv,by simp⟩ e.symm)
         have hone:=one_of hvo holdc
         have e:zb3 (h.put i0 .dead) (n+1) 3 (old.take (i*3)++(vs++old.drop (i*3)))=(v,h'):=Option.some.inj hp
         have hn63:n≤1000000000000:=by omega
         have key:Calls Tryz.prog 83 #[.slice (some ⟨R.blk,R.base+o0,none⟩) n cap',.int .i64 (Int.ofNat i),.slice (some ⟨Rv.blk,Rv.base+b.off,none⟩) 1 vc'] w (zhi Tryz.prog ρ w (.val (zb3 (h.put i0 .dead) (n+1) 3 (old.take (i*3)++(vs++old.drop (i*3)))).1 (zb3 (h.put i0 .dead) (n+1) 3 (old.take (i*3)++(vs++old.drop (i*3)))).2)):=by
          by_cases hle:n+1≤cap'
          ·exact shift_ok hr hR ho hl hs hi hle hn63 hvl hvv hcell hcv hol hvo hco hone hbv hne
          ·exact grow_ok hr hR ho hl hi hle hbytes hvl hvv hcell hcv (hr.blk _ _ hRv) hol hvo hco hone
         rw[e] at key
         exact key
      ·cases hp
     ·cases hp
    ·cases hp
   ·cases hp
  ·cases hp
end Go.Proofs.YtffbioplncclkaaGreat
set_option maxHeartbeats 4000000
noncomputable section
namespace Go.Ideal.X
open Go Go.Ideal
theorem hmix:Go.Proofs.Tryz.prog.follows .mixedOrders=true:=by kernel_rfl
theorem call:AllC Go.Proofs.Tryz.prog tabC:=((((c0.app c1).app c2).app c3).app c4)
theorem okF: ∀g cf,F g=some cf→FnOk Go.Proofs.Tryz.prog g cf:=look_ok (List.forall_mem_cons.2 ⟨.inr (.inr (.inr ⟨_,Go.Proofs.Tryz.f83,f83,rfl,Go.Proofs.YtffbioplncclkaaGreat.insOk,Go.Proofs.Tryz.func83,by kernel_rfl⟩)),call.ok⟩)
end Go.Ideal.X
end
noncomputable section
namespace Go.Ideal.X
open Go Go.Ideal
def q30:zcU:=⟨[vA [sL 10 0 1 1,sL 17 0 11 11,sL 11 0 1 1,0],vA [sL 48 0 2 oC,sL 50 0 1 oC,sL 44 0 2 oC,sL 95 0 2 oC],1],98,[(93,cL [2,0,3,0,3,1,4,1] 2),(56,cL [2,0,3,0,3,1,4,1] 2),(95,cL [1,2,sL 56 0 4 oC,0,9,sL 93 0 4 oC] 3),(90,cL [vS] 1),(77,cL [1,2] 2),(65,cL [1,1] 2),(82,cL [sL 65 0 1 oC,sL 77 0 1 oC] 1),(44,cL [0,0,0,sL 82 0 2 oC,0,1,0,sL 90 0 1 oC] 4),(36,cL [2,0,3,0,3,1,4,1] 2),(50,cL [0,0,sL 36 0 4 oC] 3),(48,cL [iI (-1),vF,0,vF] 2),(3,cL [0,1] 0),(4,cL [0,sL 3 0 2 2,1] 0),(2,cL [0,2] 0),(1,cL [0,1,0,0] 0),(11,cL [sL 1 0 2 2,sL 2 0 1 1,sL 4 0 1 1] 0),(9,cL [1,3,vS] 0),(16,cL [10] 0),(15,cL [8,9] 0),(8,cL [1,2,vS] 0),(14,cL [6,7] 0),(7,cL [1,1,vS] 0),(13,cL [4,5] 0),(6,cL [2,4,vS] 0),(12,cL [3] 0),(17,cL [4,0,vS,sL 12 0 1 1,2,0,sL 6 0 1 1,vS,7,0,vS,vS,3,0,vS,sL 13 0 2 2,2,1,sL 7 0 1 1,vS,3,0,vS,sL 14 0 2 2,2,1,sL 8 0 1 1,vS,3,0,vS,sL 15 0 2 2,2,2,vS,vS,8,3,vS,sL 16 0 1 1,2,1,sL 9 0 1 1,vS] 0),(10,cL [.string ⟨#[111,117,116]⟩] 0)],(.tuple ⟨[vA [sL 377 0 1 1,vS,sL 442 0 1 oC],vA [sL 382 0 2 oC,sL 389 0 1 oC,sL 418 0 2 oC,sL 449 0 1 oC],0]⟩),450,[(10,cL [.string ⟨#[111,117,116]⟩] 0),(17,cL [4,0,vS,sL 12 0 1 1,2,0,sL 6 0 1 1,vS,7,0,vS,vS,3,0,vS,sL 13 0 2 2,2,1,sL 7 0 1 1,vS,3,0,vS,sL 14 0 2 2,2,1,sL 8 0 1 1,vS,3,0,vS,sL 15 0 2 2,2,2,vS,vS,8,3,vS,sL 16 0 1 1,2,1,sL 9 0 1 1,vS] 0),(12,cL [3] 0),(6,cL [2,4,vS] 0),(13,cL [4,5] 0),(7,cL [1,1,vS] 0),(14,cL [6,7] 0),(8,cL [1,2,vS] 0),(15,cL [8,9] 0),(16,cL [10] 0),(9,cL [1,3,vS] 0),(11,cL [sL 1 0 2 2,sL 2 0 1 1,sL 4 0 1 1] 0),(1,cL [0,1,0,0] 0),(2,cL [0,2] 0),(4,cL [0,sL 3 0 2 2,1] 0),(3,cL [0,1] 0),(48,cL [iI (-1),vF,0,vF] 2),(50,cL [0,0,sL 36 0 4 oC] 3),(36,cL [2,0,3,0,3,1,4,1] 2),(44,cL [0,0,0,sL 82 0 2 oC,0,1,0,sL 90 0 1 oC] 4),(82,cL [sL 65 0 1 oC,sL 77 0 1 oC] 1),(65,cL [1,1] 2),(77,cL [1,2] 2),(90,cL [vS] 1),(95,cL [1,2,sL 56 0 4 oC,0,9,sL 93 0 4 oC] 3),(56,cL [2,0,3,0,3,1,4,1] 2),(93,cL [2,0,3,0,3,1,4,1] 2),(447,cL [2,0,3,0,3,1,4,1] 2),(449,cL [0,9,sL 447 0 4 oC] 3),(416,cL [vS] 1),(404,cL [1,2] 2),(397,cL [1,1] 2),(406,cL [sL 397 0 1 oC,sL 404 0 1 oC] 1),(418,cL [0,0,0,sL 406 0 2 oC,0,1,0,sL 416 0 1 oC] 4),(387,cL [2,0,3,0,3,1,4,1] 2),(389,cL [0,0,sL 387 0 4 oC] 3),(382,cL [iI (-1),vF,0,vF] 2),(440,cL [2,0,3,0,3,1,4,1] 2),(442,cL [0,1,2,sL 440 0 4 oC] 4),(377,cL [1] 0)]⟩
def q327:zcU:=⟨[vA [sL 377 0 1 1,vS,sL 442 0 1 oC]],452,[(440,cL [2,0,3,0,3,1,4,1] 2),(442,cL [0,1,2,sL 440 0 4 oC] 4),(377,cL [1] 0)],(.tuple ⟨[.string ⟨#[80,4,4,1,2,0,3,0,3,1,1,0,0,1,0,0,2,4,3,5,7,1,91,132]⟩,0]⟩),547,[(377,cL [1] 0),(442,cL [0,1,2,sL 440 0 4 oC] 4),(440,cL [2,0,3,0,3,1,4,1] 2)]⟩
def q409:zcU:=⟨[.string ⟨#[80,4,4,1,2,0,3,0,3,1,1,0,0,1,0,0,2,4,3,5,7,1,91,132]⟩],547,[],(.tuple ⟨[vA [sL 567 0 1 oC,vS,sL 584 0 1 oC],0]⟩),679,[(582,cL [2,0,3,0,3,1,4,1] 2),(584,cL [0,1,2,sL 582 0 4 oC] 4),(567,cL [1] 1)]⟩
def q530:zcU:=⟨[vA [sL 10 0 1 1,sL 17 0 11 11,sL 11 0 1 1,0],vA [sL 382 0 2 oC,sL 389 0 1 oC,sL 418 0 2 oC,sL 449 0 1 oC],vA [sL 567 0 1 oC,vS,sL 584 0 1 oC]],680,[(582,cL [2,0,3,0,3,1,4,1] 2),(584,cL [0,1,2,sL 582 0 4 oC] 4),(567,cL [1] 1),(447,cL [2,0,3,0,3,1,4,1] 2),(449,cL [0,9,sL 447 0 4 oC] 3),(416,cL [vS] 1),(404,cL [1,2] 2),(397,cL [1,1] 2),(406,cL [sL 397 0 1 oC,sL 404 0 1 oC] 1),(418,cL [0,0,0,sL 406 0 2 oC,0,1,0,sL 416 0 1 oC] 4),(387,cL [2,0,3,0,3,1,4,1] 2),(389,cL [0,0,sL 387 0 4 oC] 3),(382,cL [iI (-1),vF,0,vF] 2),(3,cL [0,1] 0),(4,cL [0,sL 3 0 2 2,1] 0),(2,cL [0,2] 0),(1,cL [0,1,0,0] 0),(11,cL [sL 1 0 2 2,sL 2 0 1 1,sL 4 0 1 1] 0),(9,cL [1,3,vS] 0),(16,cL [10] 0),(15,cL [8,9] 0),(8,cL [1,2,vS] 0),(14,cL [6,7] 0),(7,cL [1,1,vS] 0),(13,cL [4,5] 0),(6,cL [2,4,vS] 0),(12,cL [3] 0),(17,cL [4,0,vS,sL 12 0 1 1,2,0,sL 6 0 1 1,vS,7,0,vS,vS,3,0,vS,sL 13 0 2 2,2,1,sL 7 0 1 1,vS,3,0,vS,sL 14 0 2 2,2,1,sL 8 0 1 1,vS,3,0,vS,sL 15 0 2 2,2,2,vS,vS,8,3,vS,sL 16 0 1 1,2,1,sL 9 0 1 1,vS] 0),(10,cL [.string ⟨#[111,117,116]⟩] 0)],(.tuple ⟨[vA [sL 1052 0 2 oC,sL 1059 0 1 oC,sL 1088 0 2 oC,sL 1103 0 2 oC],0]⟩),1104,[(10,cL [.string ⟨#[111,117,116]⟩] 0),(17,cL [4,0,vS,sL 12 0 1 1,2,0,sL 6 0 1 1,vS,7,0,vS,vS,3,0,vS,sL 13 0 2 2,2,1,sL 7 0 1 1,vS,3,0,vS,sL 14 0 2 2,2,1,sL 8 0 1 1,vS,3,0,vS,sL 15 0 2 2,2,2,vS,vS,8,3,vS,sL 16 0 1 1,2,1,sL 9 0 1 1,vS] 0),(12,cL [3] 0),(6,cL [2,4,vS] 0),(13,cL [4,5] 0),(7,cL [1,1,vS] 0),(14,cL [6,7] 0),(8,cL [1,2,vS] 0),(15,cL [8,9] 0),(16,cL [10] 0),(9,cL [1,3,vS] 0),(11,cL [sL 1 0 2 2,sL 2 0 1 1,sL 4 0 1 1] 0),(1,cL [0,1,0,0] 0),(2,cL [0,2] 0),(4,cL [0,sL 3 0 2 2,1] 0),(3,cL [0,1] 0),(382,cL [iI (-1),vF,0,vF] 2),(389,cL [0,0,sL 387 0 4 oC] 3),(387,cL [2,0,3,0,3,1,4,1] 2),(418,cL [0,0,0,sL 406 0 2 oC,0,1,0,sL 416 0 1 oC] 4),(406,cL [sL 397 0 1 oC,sL 404 0 1 oC] 1),(397,cL [1,1] 2),(404,cL [1,2] 2),(416,cL [vS] 1),(449,cL [0,9,sL 447 0 4 oC] 3),(447,cL [2,0,3,0,3,1,4,1] 2),(567,cL [1] 1),(584,cL [0,1,2,sL 582 0 4 oC] 4),(582,cL [2,0,3,0,3,1,4,1] 2),(1093,cL [2,0,3,0,3,1,4,1] 2),(1101,cL [2,0,3,0,3,1,4,1] 2),(1103,cL [1,2,sL 1101 0 4 oC,0,9,sL 1093 0 4 oC] 3),(1086,cL [vS] 1),(1074,cL [1,2] 2),(1067,cL [1,1] 2),(1076,cL [sL 1067 0 1 oC,sL 1074 0 1 oC] 1),(1088,cL [0,0,0,sL 1076 0 2 oC,0,1,0,sL 1086 0 1 oC] 4),(1057,cL [2,0,3,0,3,1,4,1] 2),(1059,cL [0,0,sL 1057 0 4 oC] 3),(1052,cL [iI (-1),vF,0,vF] 2)]⟩
def q1057:zcU:=⟨[.string ⟨#[77,1,3,0,0,2,4,1,85,142]⟩],1203,[],(.tuple ⟨[sL 1266 0 1 oC,0]⟩),1267,[(1266,cL [3,0] 2)]⟩
def q1119:zcU:=⟨[.string ⟨#[77,1,3,0,0,2,4,1,85,142]⟩,sL 1269 0 1 1],1270,[(1269,cL [3,0,3,7] 0)],(.tuple ⟨[.string ⟨#[77,1,3,7,0,2,4,1,50,90]⟩,0]⟩),1359,[(1269,cL [3,0,3,7] 0)]⟩
end Go.Ideal.X
end
noncomputable section
namespace Go.Ideal.X
open Go Go.Ideal
def F30:FuncId→Option ze:=F
theorem r30:q30.runs F30 100000 32=true:=by kernel_rfl
theorem g30:q30.good=true:=by kernel_rfl
end Go.Ideal.X
end
noncomputable section
namespace Go.Ideal.X
open Go Go.Ideal
def F327:FuncId→Option ze:=F
theorem r327:q327.runs F327 100000 11=true:=by kernel_rfl
theorem g327:q327.good=true:=by kernel_rfl
end Go.Ideal.X
end
noncomputable section
namespace Go.Ideal.X
open Go Go.Ideal
def F409:FuncId→Option ze:=F
theorem r409:q409.runs F409 100000 13=true:=by kernel_rfl
theorem g409:q409.good=true:=by kernel_rfl
end Go.Ideal.X
end
noncomputable section
namespace Go.Ideal.X
open Go Go.Ideal
def F530:FuncId→Option ze:=F
theorem r530:q530.runs F530 100000 33=true:=by kernel_rfl
theorem g530:q530.good=true:=by kernel_rfl
end Go.Ideal.X
end
noncomputable section
namespace Go.Ideal.X
open Go Go.Ideal
def F1057:FuncId→Option ze:=F
theorem r1057:q1057.runs F1057 100000 22=true:=by kernel_rfl
theorem g1057:q1057.good=true:=by kernel_rfl
end Go.Ideal.X
end
noncomputable section
namespace Go.Ideal.X
open Go Go.Ideal
def F1119:FuncId→Option ze:=F
theorem r1119:q1119.runs F1119 100000 24=true:=by kernel_rfl
theorem g1119:q1119.good=true:=by kernel_rfl
end Go.Ideal.X
end
noncomputable section
namespace Go.Ideal.X
open Go Go.Ideal
def F0:FuncId→Option ze:=overF [(32,zk3 (zeW [q30]) f32),(11,zk3 (zeW [q327]) f11),(13,zk3 (zeW [q409]) f13),(33,zk3 (zeW [q530]) f33),(22,zk3 (zeW [q1057]) f22),(24,zk3 (zeW [q1119]) f24)] F
theorem r0:endsTrue (E F0 100000 (.call (.func (.func 10) #[] #[]) [] .empty))=true:=by kernel_rfl
end Go.Ideal.X
end
noncomputable section
namespace Go.Ideal.X
open Go Go.Ideal
theorem ok1119: ∀g cf,F1119 g=some cf→FnOk Go.Proofs.Tryz.prog g cf:=okF
theorem ok1057: ∀g cf,F1057 g=some cf→FnOk Go.Proofs.Tryz.prog g cf:=okF
theorem ok530: ∀g cf,F530 g=some cf→FnOk Go.Proofs.Tryz.prog g cf:=okF
theorem ok409: ∀g cf,F409 g=some cf→FnOk Go.Proofs.Tryz.prog g cf:=okF
theorem ok327: ∀g cf,F327 g=some cf→FnOk Go.Proofs.Tryz.prog g cf:=okF
theorem ok30: ∀g cf,F30 g=some cf→FnOk Go.Proofs.Tryz.prog g cf:=okF
theorem ok0: ∀g cf,F0 g=some cf→FnOk Go.Proofs.Tryz.prog g cf:=over_ok (List.forall_mem_cons.2 ⟨call.pieces hmix (g:=32) (by kernel_rfl) (List.forall_mem_cons.2 ⟨⟨g30,F30,100000,ok30,r30⟩,(fun _ h=>by cases h)⟩),(List.forall_mem_cons.2 ⟨call.pieces hmix (g:=11) (by kernel_rfl) (List.forall_mem_cons.2 ⟨⟨g327,F327,100000,ok327,r327⟩,(fun _ h=>by cases h)⟩),(List.forall_mem_cons.2 ⟨call.pieces hmix (g:=13) (by kernel_rfl) (List.forall_mem_cons.2 ⟨⟨g409,F409,100000,ok409,r409⟩,(fun _ h=>by cases h)⟩),(List.forall_mem_cons.2 ⟨call.pieces hmix (g:=33) (by kernel_rfl) (List.forall_mem_cons.2 ⟨⟨g530,F530,100000,ok530,r530⟩,(fun _ h=>by cases h)⟩),(List.forall_mem_cons.2 ⟨call.pieces hmix (g:=22) (by kernel_rfl) (List.forall_mem_cons.2 ⟨⟨g1057,F1057,100000,ok1057,r1057⟩,(fun _ h=>by cases h)⟩),(List.forall_mem_cons.2 ⟨call.pieces hmix (g:=24) (by kernel_rfl) (List.forall_mem_cons.2 ⟨⟨g1119,F1119,100000,ok1119,r1119⟩,(fun _ h=>by cases h)⟩),(fun _ h=>by cases h)⟩)⟩)⟩)⟩)⟩)⟩) okF
theorem root_true:FnOk Go.Proofs.Tryz.prog 10 (zim true):=by
 obtain⟨h',e⟩:=endsTrue_some r0
 obtain⟨fn,h1,h2⟩:=call.at (g:=10) (cf:=f10) (by kernel_rfl)
 exact prim_of hmix ok0 h1 h2 e
end Go.Ideal.X
end
noncomputable section
namespace Go.Ideal.Y
open Go Go.Ideal Q
theorem c0:AllC Go.Proofs.Tryz.prog tab0:=by unfold AllC;kernel_rfl
end Go.Ideal.Y
end
noncomputable section
namespace Go.Ideal.Y
open Go Go.Ideal Q
theorem c1:AllC Go.Proofs.Tryz.prog tab1:=by unfold AllC;kernel_rfl
end Go.Ideal.Y
end
noncomputable section
namespace Go.Ideal.Y
open Go Go.Ideal Q
theorem c2:AllC Go.Proofs.Tryz.prog tab2:=by unfold AllC;kernel_rfl
end Go.Ideal.Y
end
noncomputable section
namespace Go.Ideal.Y
open Go Go.Ideal Q
theorem call:AllC Go.Proofs.Tryz.prog Q.tabC:=((c0.app c1).app c2)
end Go.Ideal.Y
end
noncomputable section
namespace Go.Ideal.Y
open Go Go.Ideal Q
theorem okF: ∀g cf,Q.F g=some cf→FnOk Go.Proofs.Tryz.prog g cf:=look_ok (List.forall_mem_cons.2 ⟨X.root_true,call.ok⟩)
end Go.Ideal.Y
end
namespace Go.Proofs.YtffbioplncclkaaGreat
open Go.ChangeShapes Go.WideShapes Go.RowKit Go.Ideal Go.Ideal.S
section
variable {P:Program} {H:Type} {enc:TypeId×Value→H} {W:World} {base b:Nat} {r:Reach} {spare:Nat→Bool} {held:Bool} {v:Value} {d:DataW H} {ps:List MemPlace}
theorem spot_of_cell {a:Addr} {v:Value} (h:W.cell? a=some v):a.spot=none:=by
 unfold World.cell? at h
 split at h
 ·split at h
  ·cases h
  ·rename_i hs;simpa using hs
 ·cases h
theorem ziw {v:Value} (h:okV W v=true):impV W v=v:=by unfold impV;rw[if_pos h]
theorem zjn {k:IntKind} {n:Int}:impV W (.int k n)=.int k n:=ziw rfl
theorem zfJ {t el:TypeId} {fuel:Nat} {x:DataW H×List MemPlace} (ht:P.underlying t=some (.slice el)) (hv: ∀a len cap,v=.slice (some a) len cap→a.spot=none∧zbU W a.block=true)
 (h:DataW.trod enc P W base spare held fuel t [v]=some x):okV W v=true:=by
 rcases DataW.trod_slice ht h with⟨e0,_⟩| ⟨a,len,cap,elems,rest,n,_,e0,_,hb,hl,hm,hlen',hel',hsp,hns⟩
 ·cases e0;rfl
 ·cases e0
  obtain⟨hsp0,hic⟩:=hv a len cap rfl
  have hcap:cap<zg:=by unfold zg;unfold maxLen at hm;omega
  simp[okV,hl,hcap,hic,hsp0]
theorem zdh {α:Type} {e:α→List DV} {sz:Nat} {t el:TypeId} {fuel:Nat} {x:DataW H×List MemPlace} (ht:P.underlying t=some (.slice el)) (hc:P.cellsOf el=sz) (hs:0<sz) (hlen: ∀a,(e a).length=sz)
 (hel: ∀fuel cs y,DataW.trod enc P W base (fun _=>true) held fuel el cs=some y→ ∃a,LRel (impW W) (e a) (cs.map (impV W)))
 (h:DataW.trod enc P W base (fun _=>true) held fuel t [v]=some x): ∃es:List α,VRel (impW W) (.lst sz (es.map e)) (impV W v):=by
 rcases DataW.trod_slice ht h with⟨e0,_⟩| ⟨a,len,cap,elems,rest,n,hfu,e0,_,hb,hl,hm,hlen',hel',hsp,hns⟩
 ·cases e0
  exact⟨[],.lst0 (by unfold zg;omega) (fun a h=>by cases h)⟩
 ·cases e0
  have hcap:cap<zg:=by unfold zg;unfold maxLen at hm;omega
  by_cases hz:cap=0
  ·subst hz
   obtain rfl:len=0:=by omega
   by_cases hok:okV W (.slice (some a) 0 0)=true
   ·rw[ziw hok]
    unfold okV at hok
    simp only[Bool.and_eq_true,Option.isNone_iff_eq_none,decide_eq_true_eq] at hok
    obtain⟨h1,h2,h3,h4⟩:=hok
    exact⟨[],.lst0 hcap (fun a' h=>by cases h;exact h1)⟩
   ·have:impV W (.slice (some a) 0 0)=dang W:=by unfold impV;rw[if_neg hok];rfl
    rw[this]
    exact⟨[],.lst0 hcap (fun a' h=>by cases h;rfl)⟩
  ·have hcell: ∀i,i<cap→ ∃cs y,W.cells? base (a.add (i*P.cellsOf el)) (P.cellsOf el)=some cs∧DataW.trod enc P W base (fun _=>true) held n el cs=some y:=by
    intro i hi
    by_cases hil:i<len
    ·have h1:=hel' i hil
     rw[List.getElem?_eq_getElem (by omega)] at h1
     obtain⟨cs,hcs,hy⟩:=Option.bind_eq_some_iff.1 h1
     exact⟨cs,_,hcs,hy⟩
    ·obtain⟨hrl,hr⟩:=hsp rfl
     have h1:=hr (i - len) (by omega)
     rw[List.getElem?_eq_getElem (by omega)] at h1
     obtain⟨cs,hcs,hy⟩:=Option.bind_eq_some_iff.1 h1
     rw[show len+(i - len)=i by omega] at hcs
     exact⟨cs,_,hcs,hy⟩
   have hln: ∀{cs y},DataW.trod enc P W base (fun _=>true) held n el cs=some y→cs.length=sz:=fun{cs y} hy=>by
    obtain⟨a,ha⟩:=hel _ _ _ hy
    have:=ha.len
    rw[List.length_map,hlen] at this;exact this.symm
   have hspot: ∃b o c t fr,a=⟨b,o,none⟩∧W.heap[b]? =some (.cells c t fr):=by
    obtain⟨cs,y,hcs,hy⟩:=hcell 0 (by omega)
    obtain⟨_,q2,q3⟩:=World.cells?_some hcs
    have hlc:0<cs.length:=by rw[hln hy];exact hs
    have hg:cs[0]? =some cs[0]:=List.getElem?_eq_getElem hlc
    have h3:=q3 0 (by rw[hc];exact hs)
    rw[hg] at h3
    have hsp0:=spot_of_cell h3
    obtain⟨b,o,s⟩:=a
    have:s=none:=by
     unfold Addr.add at hsp0
     cases s with
     |none=>rfl
     |some _=>split at hsp0<;>(try split at hsp0)<;>simp_all
    subst this
    rw[zjv,zjv] at h3
    obtain⟨c,t',fr,hbk,_⟩:=cell_heap h3
    exact⟨b,o,c,t',fr,rfl,hbk⟩
   obtain⟨b,o,c,t',fr,rfl,hbk⟩:=hspot
   have hic:zbU W b=true:=by unfold zbU;rw[hbk]
   have hok:okV W (.slice (some ⟨b,o,none⟩) len cap)=true:=by simp[okV,hl,hcap,hic]
   rw[ziw hok]
   have hel2: ∀i,i<len→ ∃a:α,∃cs:List Value,LRel (impW W) (e a) (cs.map (impV W))∧ ∀k,k<sz→W.cell? ⟨b,o+(i*sz+k),none⟩=cs[k]?:=by
    intro i hi
    obtain⟨cs,y,hcs,hy⟩:=hcell i (by omega)
    obtain⟨a,ha⟩:=hel _ _ _ hy
    rw[hc] at hcs
    obtain⟨_,_,h3⟩:=World.cells?_some hcs
    refine⟨a,cs,ha,fun k hk=> ?_⟩
    have:=h3 k hk
    rw[zjv,zjv] at this
    rw[←this,Nat.add_assoc]
   obtain⟨es,hes,hq⟩:=list_of len hel2
   subst hes
   rcases Nat.eq_zero_or_pos es.length with h0|h0
   ·obtain rfl:=List.eq_nil_of_length_eq_zero h0
    exact⟨[],.lst0 hcap (fun a h=>by cases h;rfl)⟩
   have hrows: ∀r∈es.map e,r.length=sz:=fun r hr=>by obtain⟨a,_,rfl⟩:=List.mem_map.1 hr;exact hlen a
   have hcell: ∀i j a,es[i]? =some a→j<sz→ ∃d v,(e a)[j]? =some d∧(c.toList.map (impV W))[o+(i*sz+j)]? =some v∧VRel (impW W) d v:=by
    intro i j a ha hj
    obtain⟨cs,hrel,hck⟩:=hq i a ha
    have hck:=hck j hj
    have hfl:(cs.map (impV W)).length=sz:=by rw[←hrel.len,hlen]
    have hjf:j<(cs.map (impV W)).length:=by rw[hfl];exact hj
    have hjc:j<cs.length:=by rw[List.length_map] at hjf;exact hjf
    have hje:j<(e a).length:=by rw[hlen];exact hj
    have hka:cs[j]? =some (cs[j]'hjc):=List.getElem?_eq_getElem hjc
    have hea:(e a)[j]? =some ((e a)[j]'hje):=List.getElem?_eq_getElem hje
    rw[hka] at hck
    obtain⟨c',t'',fr',hb',hco⟩:=cell_heap hck
    rw[hbk] at hb';cases hb'
    exact⟨_,_,hea,by rw[List.getElem?_map,Array.getElem?_toList,hco];rfl,hrel.at_ j _ _ hea (by rw[List.getElem?_map,hka];rfl)⟩
   refine⟨es,.lst (impW_Z (ziz hbk)) hrows ?_ ?_ (fun h=>by omega) (fun _=>⟨by rw[List.length_map];exact hl,hcap⟩) (by rw[List.length_map])⟩
   ·rw[List.length_map]
    obtain⟨d,v,_,h2,_⟩:=hcell (es.length - 1) (sz - 1) _ (List.getElem?_eq_getElem (by omega)) (by omega)
    have:=(List.getElem?_eq_some_iff.1 h2).1
    have e1:(es.length - 1)*sz+(sz - 1)+1=es.length*sz:=by
     obtain⟨m,hm⟩: ∃m,es.length=m+1:=⟨es.length - 1,by omega⟩
     rw[hm,Nat.add_sub_cancel,Nat.succ_mul];omega
    omega
   ·intro k d v hd hv
    have hkl:=(List.getElem?_eq_some_iff.1 hd).1
    rw[z6 hrows,List.length_map] at hkl
    have hi:k / sz<es.length:=(Nat.div_lt_iff_lt_mul hs).2 hkl
    have hj:k%sz<sz:=Nat.mod_lt _ hs
    have hk:k / sz*sz+k%sz=k:=Nat.div_add_mod' k sz
    obtain⟨d',v',h1,h2,h3⟩:=hcell _ _ _ (List.getElem?_eq_getElem hi) hj
    obtain⟨tl,ht⟩:=flat_at hrows (i:=k / sz) (r:=e es[k / sz]) (by rw[List.getElem?_map,List.getElem?_eq_getElem hi];rfl)
    have:(es.map e).flatten[k]? =(e es[k / sz])[k%sz]?:=by
     have e2:((es.map e).flatten.drop (k / sz*sz))[k%sz]? =(es.map e).flatten[k]?:=by rw[List.getElem?_drop,hk]
     rw[←e2,ht,List.getElem?_append_left (by rw[hlen];exact hj)]
    rw[this,h1] at hd
    rw[hk,hv] at h2
    cases hd;cases h2;exact h3
theorem cs22:Tryz.prog.cellsOf 22=1:=by kernel_rfl
theorem cs23:Tryz.prog.cellsOf 23=1:=by kernel_rfl
theorem cs24:Tryz.prog.cellsOf 24=1:=by kernel_rfl
theorem cs67:Tryz.prog.cellsOf 67=1:=by kernel_rfl
theorem cQ2:Tryz.prog.cellsOf 69=2:=by kernel_rfl
theorem cM1:Tryz.prog.cellsOf 71=1:=by kernel_rfl
theorem cW4:Tryz.prog.cellsOf 75=4:=by kernel_rfl
theorem cW3:Tryz.prog.cellsOf 73=3:=by kernel_rfl
theorem sv_el {fuel:Nat} {cs:List Value} {x:DataW H×List MemPlace} (h:DataW.trod enc Tryz.prog W b (fun _=>true) held fuel 60 cs=some x): ∃a:Sv,LRel (impW W) (eSv a) (cs.map (impV W)):=by
 obtain⟨a,rfl⟩:=sv_of_trod h
 exact⟨a,by simp only[vSv,List.map_cons,List.map_nil,zjn];exact LRel.cons (.int _ _) (LRel1 (.int _ _))⟩
theorem int_el {fuel:Nat} {cs:List Value} {x:DataW H×List MemPlace} (h:DataW.trod enc Tryz.prog W b (fun _=>true) held fuel 3 cs=some x): ∃a:Int,LRel (impW W) (eInt a) (cs.map (impV W)):=by
 obtain⟨n,e,_,hw⟩:=DataW.trod_int Tryz.underlying3 h
 cases e
 exact⟨n,by simp only[List.map_cons,List.map_nil,zjn];exact LRel1 (.int _ _)⟩
theorem svs_el {fuel:Nat} {c:Value} {x:DataW H×List MemPlace} (h:DataW.trod enc Tryz.prog W b (fun _=>true) held fuel 36 [c]=some x): ∃vs:List Sv,VRel (impW W) (.lst 2 (vs.map eSv)) (impV W c):=
 zdh Tryz.underlying36 cV2 (by omega) (fun _=>rfl) (fun _ _ _ h=>sv_el h) h
theorem msg_el {fuel:Nat} {cs:List Value} {x:DataW H×List MemPlace} (h:DataW.trod enc Tryz.prog W b (fun _=>true) held fuel 71 cs=some x): ∃a:List Sv,LRel (impW W) (eMsg a) (cs.map (impV W)):=by
 obtain⟨xs,n,_,_,hl,hlen,hf⟩:=DataW.trod_struct Tryz.underlying71 h
 rw[cM1] at hl
 match cs,hl with
 | [c0],_=>
   have e0:DataW.trod enc Tryz.prog W b (fun _=>true) held n 36 (([c0].drop 0).take (Tryz.prog.cellsOf 36))=xs[0]?:=hf 0 _ rfl
   rw[cs1] at e0
   match xs,hlen with
   | [y0],_=>
     obtain⟨vs,hv⟩:=svs_el (show DataW.trod enc Tryz.prog W b (fun _=>true) held n 36 [c0]=some y0 from e0)
     exact⟨vs,LRel1 hv⟩
theorem qu_el {fuel:Nat} {cs:List Value} {x:DataW H×List MemPlace} (h:DataW.trod enc Tryz.prog W b (fun _=>true) held fuel 69 cs=some x): ∃a:Qu,LRel (impW W) (eQu a) (cs.map (impV W)):=by
 obtain⟨xs,n,_,_,hl,hlen,hf⟩:=DataW.trod_struct Tryz.underlying69 h
 rw[cQ2] at hl
 match cs,hl with
 | [c0,c1],_=>
   have e0:DataW.trod enc Tryz.prog W b (fun _=>true) held n 3 (([c0,c1].drop 0).take (Tryz.prog.cellsOf 3))=xs[0]?:=hf 0 _ rfl
   have e1:DataW.trod enc Tryz.prog W b (fun _=>true) held n 67 (([c0,c1].drop 1).take (Tryz.prog.cellsOf 67))=xs[1]?:=hf 1 _ rfl
   rw[ci1] at e0
   rw[cs67] at e1
   match xs,hlen with
   | [y0,y1],_=>
     obtain⟨ch,rfl,_⟩:=zcB Tryz.underlying3 (show DataW.trod enc Tryz.prog W b (fun _=>true) held n 3 [c0]=some y0 from e0)
     obtain⟨ms,hv⟩:=zdh (e:=eMsg) Tryz.underlying67 cM1 (by omega) (fun _=>rfl) (fun _ _ _ h=>msg_el h) (show DataW.trod enc Tryz.prog W b (fun _=>true) held n 67 [c1]=some y1 from e1)
     exact⟨⟨ch,ms⟩,by simp only[List.map_cons,List.map_nil,zjn];exact LRel.cons (.int _ _) (LRel1 hv)⟩
theorem wt_el {fuel:Nat} {cs:List Value} {x:DataW H×List MemPlace} (h:DataW.trod enc Tryz.prog W b (fun _=>true) held fuel 75 cs=some x): ∃a:Wt,LRel (impW W) (eWt a) (cs.map (impV W)):=by
 obtain⟨xs,n,_,_,hl,hlen,hf⟩:=DataW.trod_struct Tryz.underlying75 h
 rw[cW4] at hl
 match cs,hl with
 | [c0,c1,c2,c3],_=>
   have e0:DataW.trod enc Tryz.prog W b (fun _=>true) held n 3 (([c0,c1,c2,c3].drop 0).take (Tryz.prog.cellsOf 3))=xs[0]?:=hf 0 _ rfl
   have e1:DataW.trod enc Tryz.prog W b (fun _=>true) held n 73 (([c0,c1,c2,c3].drop 1).take (Tryz.prog.cellsOf 73))=xs[1]?:=hf 1 _ rfl
   rw[ci1] at e0
   rw[cW3] at e1
   match xs,hlen with
   | [y0,y1],_=>
     obtain⟨a,rfl,_⟩:=zcB Tryz.underlying3 (show DataW.trod enc Tryz.prog W b (fun _=>true) held n 3 [c0]=some y0 from e0)
     obtain⟨xs,n,_,_,hl,hlen,hf⟩:=DataW.trod_struct Tryz.underlying73 (show DataW.trod enc Tryz.prog W b (fun _=>true) held n 73 [c1,c2,c3]=some y1 from e1)
     have e1:DataW.trod enc Tryz.prog W b (fun _=>true) held n 3 (([c1,c2,c3].drop 0).take (Tryz.prog.cellsOf 3))=xs[0]?:=hf 0 _ rfl
     have e2:DataW.trod enc Tryz.prog W b (fun _=>true) held n 3 (([c1,c2,c3].drop 1).take (Tryz.prog.cellsOf 3))=xs[1]?:=hf 1 _ rfl
     have e3:DataW.trod enc Tryz.prog W b (fun _=>true) held n 36 (([c1,c2,c3].drop 2).take (Tryz.prog.cellsOf 36))=xs[2]?:=hf 2 _ rfl
     rw[ci1] at e1 e2
     rw[cs1] at e3
     match xs,hlen with
     | [z0,z1,z2],_=>
       obtain⟨p,rfl,_⟩:=zcB Tryz.underlying3 (show DataW.trod enc Tryz.prog W b (fun _=>true) held n 3 [c1]=some z0 from e1)
       obtain⟨q,rfl,_⟩:=zcB Tryz.underlying3 (show DataW.trod enc Tryz.prog W b (fun _=>true) held n 3 [c2]=some z1 from e2)
       obtain⟨vs,hv⟩:=svs_el (show DataW.trod enc Tryz.prog W b (fun _=>true) held n 36 [c3]=some z2 from e3)
       exact⟨⟨a,p,q,vs⟩,by simp only[List.map_cons,List.map_nil,zjn];exact LRel.cons (.int _ _) (LRel.cons (.int _ _) (LRel.cons (.int _ _) (LRel1 hv)))⟩
theorem parcel_in (hval:Value.okWide Tryz.prog W r base 26 v) (hd:DataW.Trod enc Tryz.prog W b (fun _=>true) held 26 v d ps):okArg W v=true∧ ∃g:Pc,VRel (impW W) (.agg (ePc g)) v:=by
 unfold Value.okWide at hval
 rw[Tryz.underlying26] at hval
 obtain⟨cs,rfl,hsz,ts,hts,_,hcell⟩:=hval
 obtain⟨fuel,hd⟩:=hd
 have hcs:(Value.agg cs).cells.toList=cs.toList:=rfl
 rw[hcs] at hd
 obtain⟨xs,n,_,_,hl,hlen,hf⟩:=DataW.trod_struct Tryz.underlying26 hd
 have h3:Tryz.prog.cellsOf 26=3:=by kernel_rfl
 have hty:Tryz.prog.cellTypes Tryz.prog.depth 26=some [22,23,24]:=by kernel_rfl
 rw[hty] at hts
 cases hts
 rw[h3] at hl
 obtain⟨c0,c1,c2,hc⟩: ∃c0 c1 c2,cs.toList=[c0,c1,c2]:=by
  match cs.toList,hl with
  | [c0,c1,c2],_=>exact⟨c0,c1,c2,rfl⟩
 rw[hc] at hf
 have e0:DataW.trod enc Tryz.prog W b (fun _=>true) held n 22 (([c0,c1,c2].drop 0).take (Tryz.prog.cellsOf 22))=xs[0]?:=hf 0 _ rfl
 have e1:DataW.trod enc Tryz.prog W b (fun _=>true) held n 23 (([c0,c1,c2].drop 1).take (Tryz.prog.cellsOf 23))=xs[1]?:=hf 1 _ rfl
 have e2:DataW.trod enc Tryz.prog W b (fun _=>true) held n 24 (([c0,c1,c2].drop 2).take (Tryz.prog.cellsOf 24))=xs[2]?:=hf 2 _ rfl
 rw[cs22] at e0
 rw[cs23] at e1
 rw[cs24] at e2
 obtain⟨y0,y1,y2,rfl⟩: ∃y0 y1 y2,xs=[y0,y1,y2]:=by
  match xs,hlen with
  | [y0,y1,y2],_=>exact⟨y0,y1,y2,rfl⟩
 have hcs':cs= #[c0,c1,c2]:=by rw[←Array.toList_inj,hc]
 subst hcs'
 have e0:DataW.trod enc Tryz.prog W b (fun _=>true) held n 22 [c0]=some y0:=e0
 have e1:DataW.trod enc Tryz.prog W b (fun _=>true) held n 23 [c1]=some y1:=e1
 have e2:DataW.trod enc Tryz.prog W b (fun _=>true) held n 24 [c2]=some y2:=e2
 obtain⟨u0,hu0,hok0⟩:=hcell 0 c0 rfl
 cases hu0
 obtain⟨u1,hu1,hok1⟩:=hcell 1 c1 rfl
 cases hu1
 obtain⟨u2,hu2,hok2⟩:=hcell 2 c2 rfl
 cases hu2
 have k0:=zfJ Tryz.underlying22 (slice_ok Tryz.underlying22 hok0) e0
 have k1:=zfJ Tryz.underlying23 (slice_ok Tryz.underlying23 hok1) e1
 have k2:=zfJ Tryz.underlying24 (slice_ok Tryz.underlying24 hok2) e2
 obtain⟨sp,r0⟩:=zdh (e:=eInt) Tryz.underlying22 ci1 (by omega) (fun _=>rfl) (fun _ _ _ h=>int_el h) e0
 obtain⟨qs,r1⟩:=zdh (e:=eQu) Tryz.underlying23 cQ2 (by omega) (fun _=>rfl) (fun _ _ _ h=>qu_el h) e1
 obtain⟨ws,r2⟩:=zdh (e:=eWt) Tryz.underlying24 cW4 (by omega) (fun _=>rfl) (fun _ _ _ h=>wt_el h) e2
 rw[ziw k0] at r0
 rw[ziw k1] at r1
 rw[ziw k2] at r2
 refine⟨?_,⟨sp,qs,ws⟩,?_⟩
 ·show([c0,c1,c2]:List Value).all (okV W)=true
  simp only[List.all_cons,List.all_nil,k0,k1,k2,Bool.and_true]
 ·have:=LRel.cons (w:=impW W) r0 (LRel.cons r1 (LRel1 r2))
  exact .agg this.len this.at_
end
theorem law_lifted (os:Os) (started:os.Started) (H:Type) (enc:TypeId×Value→H):
 ReturnsInHanded {} Tryz.checked os 3 .any (Rows.wireBytesSpec.pre6 enc Tryz.prog Tryz.f3 Rows.wireBytesRow.domain false) (Rows.wireBytesSpec.post enc Tryz.prog Tryz.f3 false true false false):=by
 refine returnsInHanded_of_change (C:=Tryz.checked) own started (by kernel_rfl) Tryz.func3
  (ChangeSpec.witness6 (enc:=enc) (C:=Tryz.checked) false ⟨#[],#[.agg #[.slice none 0 0,.slice none 0 0,.slice none 0 0],.string ⟨#[]⟩],[]⟩ 8 (by kernel_rfl) (by kernel_rfl) (by kernel_rfl) (by kernel_rfl)) ?_
 intro W base args ds gs before hval0 hW hcnd _
 have hval: ∀(j:Nat) t v,Tryz.f3.params[j]? =some t→args[j]? =some v→Value.okWide Tryz.prog W .any base t v:=hval0
 have hW':=hW
 obtain⟨p,q,hA0,hV0,rfl,hfz,hnd⟩:=hW
 have hA:DataW.TrodAll enc Tryz.prog W 0 (fun _=>true) true Tryz.f3.params.toList args.toList ds p:=hA0
 rw[Tryz.params3] at hA hval
 obtain⟨v0,vs0,d0,ds0,q0,qs0,e0,rfl,rfl,h0,hr0⟩:=trodAll_cons hA
 obtain⟨v1,vs1,d1,ds1,q1,qs1,e1,rfl,rfl,h1,hr1⟩:=trodAll_cons hr0
 obtain⟨e2,rfl,rfl⟩:=trodAll_nil hr1
 obtain rfl:args= #[v0,v1]:=by rw[←Array.toArray_toList (xs:=args),e0,e1,e2]
 obtain⟨o0,x0,r0⟩:=parcel_in (hval 0 26 v0 rfl rfl) h0
 obtain⟨x1,rfl⟩:=str_in (hval 1 9 v1 rfl rfl)
 obtain⟨rfl,rfl⟩:=trodVars_none hV0
 refine(v_calls Go.Ideal.X.hmix Go.Ideal.Y.okF (bytes_law x0 x1 rfl) (fun v hv=>by
  simp only[List.mem_cons,List.not_mem_nil,or_false] at hv
  rcases hv with rfl|rfl
  ·exact o0
  ·rfl) (LRel.cons r0 (LRel1 (.str _)))).mono fun e W' ⟨he,hs⟩=>⟨_,he,?_⟩
 exact law_post hW' rfl rfl (t:=4) (by kernel_rfl) Tryz.underlying4 hs laidOut (fun t ht=>by
  rw[Tryz.params3] at ht
  simp only[List.mem_cons,List.not_mem_nil,or_false] at ht
  rcases ht with rfl|rfl<;>exact⟨by kernel_rfl,of_decide_eq_true (by kernel_rfl)⟩)
theorem bytes_holds:Rows.WireBytesSaid:=
 OpenClaim.holds_of_wide 3 Tryz.f3 rfl rfl rfl rfl rfl rfl rfl ⟨rfl,rfl,rfl,rfl,rfl⟩ rfl rfl rfl rfl rfl (by kernel_rfl) Tryz.func3 (by kernel_rfl)
  (of_decide_eq_true (by kernel_rfl)) (by unfold Func.isWrapper;first| (rw[if_pos (by decide+kernel)];kernel_rfl)| (rw[if_neg (by decide+kernel)];exact⟨rfl,rfl⟩))
  (fun os started H enc _=>law_lifted os started H enc)
end Go.Proofs.YtffbioplncclkaaGreat
