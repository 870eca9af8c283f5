/- WireOne: no string is both a parcel and a letter, and what is accepted is the bytes of what it is accepted as, at any parcel, letter and string. No condition. -/
import Derived.Test.YtffbioplncclkaaGreatProg
import Derived.Shelf.Spec.SlicesInsertGrow
import Derived.Test.YtffbioplncclkaaGreatRows
import Derived.RowKitTokens
import Derived.ChangeVars
import Derived.Stop.Joined
import Derived.Test.YtffbioplncclkaaGreatF
set_option linter.unusedSimpArgs false
set_option linter.unusedVariables false
set_option linter.unusedSectionVars false
set_option maxRecDepth 100000
namespace Go.Proofs.YtffbioplncclkaaGreat
open Go.RowKit Go.Lib Go.Shelf
theorem mixed:Tryz.prog.follows .mixedOrders=true:=by kernel_rfl
theorem z63: ∀w,(Go.sizeOf 73).run Tryz.prog w=.ok 3 w:=fun w=>by kernel_rfl
theorem u44:Tryz.prog.underlying 84=some (.slice 73):=Tryz.underlying84
set_option maxHeartbeats 8000000 in
theorem ins_shift (b off n c i vb voff vc:Nat) (w W1 W2:World) (hi:i<n) (hroom:n+1≤c) (hn63:n≤1000000000000) (hvb:vb≠b)
 (tA tB:TypeId) (kA kB:Nat) (hsa:w.shape? vb=some (tA,kA)) (hsb:w.shape? b=some (tB,kB)) (hkB:kB≠0) (hfa:w.frozen? ⟨vb,voff,none⟩=false) (hfe:w.frozen? ⟨vb,kA,none⟩=false)
 (hcp1: ∀ty dc sc,(Builtin.copy_ #[84,84] ty #[.slice (some ⟨b,off+(i+1)*3,none⟩) (n - i) dc,.slice (some ⟨b,off+i*3,none⟩) (n+1 - i) sc]).run Tryz.prog w.drew=.ok (goInt ((n - i:Nat):Int)) W1)
 (hcp2: ∀ty dc,(Builtin.copy_ #[84,84] ty #[.slice (some ⟨b,off+i*3,none⟩) (n+1 - i) dc,.slice (some ⟨vb,voff,none⟩) 1 vc]).run Tryz.prog W1=.ok (goInt 1) W2):
 Calls Tryz.prog 83 #[.slice (some ⟨b,off,none⟩) n c,.int .i64 i,.slice (some ⟨vb,voff,none⟩) 1 vc] w fun e w'=>
  e=.returned (.slice (some ⟨b,off,none⟩) (n+1) c)∧w'=W2:=by
 have hz2: ¬((i:Int)=(n:Int)):=by omega
 have hov: ∀lb cb,(callFunc 149 #[.slice (some ⟨vb,voff,none⟩) 1 vc,.slice (some ⟨b,off+(i+1)*3,none⟩) lb cb]).run Tryz.prog w=.ok (.value (.bool false)) w:=fun lb cb=>by
  rw[run_callFunc_extern Tryz.func149 (by kernel_rfl) (by kernel_rfl) (by kernel_rfl) (e:=Extern.SlicesOverlaps.overlaps #[84,84] #[4]) (by kernel_rfl),
   Lib.run_overlaps_apart w 84 4 73 u44 3 z63 ⟨vb,voff,none⟩ ⟨b,off+(i+1)*3,none⟩ 1 vc lb cb hvb tA tB kA kB hsa hsb hkB hfa hfe]
  rfl
 have mixed:=mixed
 have hw1:IntKind.i64.wrap ((i:Int)+1)=(i:Int)+1:=by rw[IntKind.wrap_i64];omega
 have hw2:IntKind.i64.wrap ((n:Int)+1)=(n:Int)+1:=by rw[IntKind.wrap_i64];omega
 have hb1:(0:Int)≤(i:Int)+1:=by omega
 have hin:i≤n:=by omega
 have htn:((i:Int)+1).toNat=i+1:=by omega
 have htn2:((n:Int)+1).toNat=n+1:=by omega
 have hb2: ¬(c=i+1):=by omega
 have hb3:(i:Int)≤(n:Int)+1:=by omega
 have hb4: ¬(c=i):=by omega
 have z63:=z63
 go_enter Tryz.func83,Tryz.ntmps83
 go_wp2_with (simp only[hov])
 go_region_law_o (refine step_copy_runI rfl _ _ 84 84 rfl _ _ (by simp[Act.eval,Act.put]) (by simp[Act.eval,Act.put]) (hcp1 _ _ _) ?_)
 go_wp2_with (at_builtin;refine wpList_copy_runI _ rfl _ _ 84 84 rfl _ _ rfl rfl (hcp2 _ _) ?_)
 go_ret
 exact⟨rfl,rfl⟩
end Go.Proofs.YtffbioplncclkaaGreat
namespace Go.Proofs.YtffbioplncclkaaGreat
open Go.RowKit Go.Lib Go.Shelf
set_option maxHeartbeats 8000000 in
theorem ins_grow (b off n c i vb voff vc N G:Nat) (w W1 W2 W3:World) (hi:i<n) (hnc:n≤c) (hroom:c<n+1) (hn63:n≤1000000000000) (hG:n+1≤G) (hG63:G≤9223372036854775807)
 (hap: ∀ty,(Builtin.append_ #[84,3] ty #[.slice (some ⟨b,off,none⟩) i c,.int .i64 ((n:Int)+1 - (i:Int))]).run Tryz.prog w=.ok (.slice (some ⟨N,0,none⟩) (n+1) G) W1)
 (hcpA: ∀ty dc,(Builtin.copy_ #[84,84] ty #[.slice (some ⟨N,i*3,none⟩) (n+1 - i) dc,.slice (some ⟨vb,voff,none⟩) 1 vc]).run Tryz.prog W1=.ok (goInt 1) W2)
 (hcpB: ∀ty dc sc,(Builtin.copy_ #[84,84] ty #[.slice (some ⟨N,(i+1)*3,none⟩) (n - i) dc,.slice (some ⟨b,off+i*3,none⟩) (n - i) sc]).run Tryz.prog W2.drew=.ok (goInt ((n - i:Nat):Int)) W3):
 Calls Tryz.prog 83 #[.slice (some ⟨b,off,none⟩) n c,.int .i64 i,.slice (some ⟨vb,voff,none⟩) 1 vc] w fun e w'=>
  e=.returned (.slice (some ⟨N,0,none⟩) (n+1) G)∧w'=W3:=by
 have hz2: ¬((i:Int)=(n:Int)):=by omega
 have hz3:(c:Int)<(n:Int)+1:=by omega
 have mixed:=mixed
 have hw1:IntKind.i64.wrap ((i:Int)+1)=(i:Int)+1:=by rw[IntKind.wrap_i64];omega
 have hw2:IntKind.i64.wrap ((n:Int)+1)=(n:Int)+1:=by rw[IntKind.wrap_i64];omega
 have hw3:IntKind.i64.wrap ((n:Int)+1 - (i:Int))=(n:Int)+1 - (i:Int):=by rw[IntKind.wrap_i64];omega
 have hb1:(0:Int)≤(i:Int)+1:=by omega
 have hin:i≤n:=by omega
 have htn:((i:Int)+1).toNat=i+1:=by omega
 have htn2:((n:Int)+1).toNat=n+1:=by omega
 have hb3:(i:Int)≤(n:Int):=by omega
 have hGi: ¬(G=i):=by omega
 have hGim: ¬(G=i+1):=by omega
 have hci: ¬(c=i):=by omega
 have z63:=z63
 go_enter Tryz.func83,Tryz.ntmps83
 go_wp2_with (first
  | (at_builtin;refine Lib.wpList_append_run _ rfl _ _ _ _ rfl _ _ rfl rfl _ _ (hap _) ?_)
  | (at_builtin;refine wpList_copy_runI _ rfl _ _ 84 84 rfl _ _ rfl rfl (hcpA _ _) ?_))
 go_region_law_o (refine step_copy_runI rfl _ _ 84 84 rfl _ _ (by simp[Act.eval,Act.put]) (by simp[Act.eval,Act.put]) (hcpB _ _ _) ?_)
 go_wp2
 go_ret
 exact⟨rfl,rfl⟩
end Go.Proofs.YtffbioplncclkaaGreat
namespace Go.Proofs.YtffbioplncclkaaGreat
open Go.RowKit Go.Lib Go.Shelf Go.Ideal
theorem ziU (w w':World) (d s:Addr) (dLen dc sLen sc k:Nat) (l:List Value) (ty:TypeId) (hk:Nat.min sLen dLen=k) (hl:l.length=k*3) (hsrc: ∀j v,l[j]? =some v→w.cell? (s.add j)=some v)
 (hst:(storeCells d l).run Tryz.prog w=.ok () w'):(Builtin.copy_ #[84,84] ty #[.slice (some d) dLen dc,.slice (some s) sLen sc]).run Tryz.prog w=.ok (goInt k) w':=by
 have hld:=run_loadCells_list (P:=Tryz.prog) w s l hsrc
 rw[hl] at hld
 simp[Builtin.copy_,run_underlying u44,Builtin.lenOf,Builtin.firstCells,z63,hk,hld,hst]
def zgb (c:List Value) (p i:Nat) (vs tl:List Value):List Value:=
 let r1:=c.take (p+(i+1)*3)++tl++c.drop (p+(i+1)*3+tl.length)
 r1.take (p+i*3)++vs++r1.drop (p+i*3+vs.length)
theorem insRow_length {c:List Value} {p i:Nat} {vs tl:List Value} (hv:vs.length=3) (hf:p+(i+1)*3+tl.length≤c.length):(zgb c p i vs tl).length=c.length:=by
 unfold zgb;simp[hv];omega
theorem insRow_get {c:List Value} {p i n:Nat} {vs old:List Value} (hv:vs.length=3) (ho:old.length=n*3) (hi:i<n) (hf:p+(n+1)*3≤c.length) (hc: ∀j v,j<i*3→old[j]? =some v→c[p+j]? =some v)
 (j:Nat) (hj:j<(n+1)*3):(zgb c p i vs (old.drop (i*3)))[p+j]? =(old.take (i*3)++(vs++old.drop (i*3)))[j]?:=by
 have htl:(old.drop (i*3)).length=n*3 - i*3:=by simp[ho]
 unfold zgb
 dsimp only
 generalize hr1:(c.take (p+(i+1)*3)++old.drop (i*3)++c.drop (p+(i+1)*3+(old.drop (i*3)).length))=r1
 have hl1:r1.length=c.length:=by rw[←hr1];simp[ho];omega
 have htk:(old.take (i*3)).length=i*3:=by simp[ho];omega
 by_cases h1:j<i*3
 ·rw[List.append_assoc,List.getElem?_append_left (by simp[hl1];omega),List.getElem?_take,if_pos (by omega),List.getElem?_append_left (by omega)]
  rw[←hr1,List.append_assoc,List.getElem?_append_left (by simp;omega),List.getElem?_take,if_pos (by omega)]
  have hlt:j<old.length:=by omega
  rw[hc j _ h1 (List.getElem?_eq_getElem hlt),List.getElem?_take,if_pos h1,List.getElem?_eq_getElem hlt]
 ·by_cases h2:j<i*3+3
  ·rw[List.append_assoc,List.getElem?_append_right (by simp[hl1];omega),List.getElem?_append_left (by simp[hl1];omega)]
   rw[List.getElem?_append_right (by omega),htk,List.getElem?_append_left (by omega)]
   congr 1;simp[hl1];omega
  ·rw[List.getElem?_append_right (by simp[hl1,hv];omega),List.getElem?_drop]
   have e:p+i*3+vs.length+(p+j - (r1.take (p+i*3)++vs).length)=p+j:=by simp[hl1,hv];omega
   rw[e,←hr1,List.getElem?_append_left (by simp[ho];omega),List.getElem?_append_right (by simp;omega)]
   rw[List.getElem?_append_right (by omega),htk,List.getElem?_append_right (by omega)]
   congr 1;simp[hv];omega
theorem cell_setRow {w:World} {g:Nat} {old cs:Array Value} {t:TypeId} {fr:Nat×Nat} (hg:w.heap[g]? =some (.cells old t fr)) {a:Addr} (hne:a.block≠g):(w.setRow g cs).cell? a=w.cell? a:=by
 rw[zbI w g old cs t fr hg]
 unfold World.cell?
 rw[show({w with heap:=w.heap.setIfInBounds g (.cells cs t fr)}:World).heap[a.block]? =w.heap[a.block]? from by
  show(w.heap.setIfInBounds g _)[a.block]? =_
  rw[Array.getElem?_setIfInBounds,if_neg (fun e=>hne e.symm)]]
theorem zkT {w:World} {g:Nat} {old cs:Array Value} {t:TypeId} {fr:Nat×Nat} (hg:w.heap[g]? =some (.cells old t fr)):(w.setRow g cs).heap[g]? =some (.cells cs t fr):=by
 rw[zbI w g old cs t fr hg]
 have:=(Array.getElem?_eq_some_iff.1 hg).1
 show(w.heap.setIfInBounds g _)[g]? =_
 simp[this]
theorem setRow_setRow {w:World} {g:Nat} {old c1 c2:Array Value} {t:TypeId} {fr:Nat×Nat} (hg:w.heap[g]? =some (.cells old t fr)):(w.setRow g c1).setRow g c2={w with heap:=w.heap.setIfInBounds g (.cells c2 t fr)}:=by
 rw[zbI _ g c1 c2 t fr (zkT hg),zbI w g old c1 t fr hg]
 simp
theorem cell_of {w:World} {g:Nat} {c:Array Value} {t:TypeId} {fr:Nat×Nat} (hg:w.heap[g]? =some (.cells c t fr)) (o:Nat):w.cell? ⟨g,o,none⟩=c[o]?:=by
 unfold World.cell?;simp[hg]
theorem VRL.three {ρ:Rho} {x y z:Value} {args:Array Value} (h:VRL ρ [x,y,z] args.toList): ∃x' y' z',args= #[x',y',z']∧VR ρ x x'∧VR ρ y y'∧VR ρ z z':=by
 obtain⟨x',l,e,h1,h2⟩:=h.cons_left
 obtain⟨y',l2,rfl,h3,h4⟩:=h2.cons_left
 obtain⟨z',l3,rfl,h5,h6⟩:=h4.cons_left
 rw[h6.nil_left] at e
 exact⟨x',y',z',by rw[←Array.toArray_toList (xs:=args),e],h1,h3,h5⟩
theorem plainRow_some {h:H} {i:Nat} (hp:plainRow h i=true): ∃cs e,h.get i=some (.cells cs e)∧e≠roE:=by
 unfold plainRow at hp
 split at hp
 ·rename_i cs e hg;exact⟨cs,e,hg,fun h=>by rw[h] at hp;simp at hp⟩
 ·cases hp
end Go.Proofs.YtffbioplncclkaaGreat
namespace Go.Proofs.YtffbioplncclkaaGreat
open Go.RowKit Go.Lib Go.Shelf Go.Ideal
section
variable {ρ:Rho} {h:H} {w:World}
theorem shift_ok (hr:HR Tryz.prog ρ h w) {i0 o0 n cap' i:Nat} {R:RB} {cs old vs vs' old':List Value} {Rv:RB} {vo vc':Nat} (hR:ρ i0=some R) (ho:h.get i0=some (.cells cs 3)) (hl:n≤cap') (hs:R.base+o0+cap'*R.esz≤R.csize) (hi:i<n) (hle:n+1≤cap') (hn63:n≤1000000000000)
 (hvl:vs.length=3) (hvv:VRL ρ vs vs') (hcell:vs.all isCell=true) (hcv: ∀j v,vs'[j]? =some v→w.cell? ((⟨Rv.blk,Rv.base+vo,none⟩:Addr).add j)=some v) (hold:old.length=n*3) (hvo:VRL ρ old old')
 (hco: ∀j v,old'[j]? =some v→w.cell? ((⟨R.blk,R.base+o0,none⟩:Addr).add j)=some v) (hone: ∀u∈old',u.oneCell'=true)
 {cv:Array Value} {tv:TypeId} (hbv:w.heap[Rv.blk]? =some (.cells cv tv (0,0))) (hne:Rv.blk≠R.blk):
 Calls Tryz.prog 83 #[.slice (some ⟨R.blk,R.base+o0,none⟩) n cap',.int .i64 i,.slice (some ⟨Rv.blk,Rv.base+vo,none⟩) 1 vc'] w
  (zgK Tryz.prog ρ w (.val (zb4 (h.put i0 .dead) (n+1) 3 (old.take (i*3)++(vs++old.drop (i*3)))).1 (zb4 (h.put i0 .dead) (n+1) 3 (old.take (i*3)++(vs++old.drop (i*3)))).2)):=by
 obtain⟨q1,q2,c,t,fr,hb1,hfx,hsz,hfit,hget⟩:=hr.obj _ _ _ hR ho
 obtain⟨hfx,rfl⟩:=hfx.resolve_right (fun h=>by have:=h.2;simp[roE] at this)
 rw[q1] at hs
 have hvl':vs'.length=3:=by rw[←hvv.1];exact hvl
 have hol':old'.length=n*3:=by rw[←hvo.1];exact hold
 have hcl:c.toList.length=c.size:=by simp
 have hroom:R.base+o0+(n+1)*3≤c.size:=by rw[hsz];have:=Nat.mul_le_mul_right 3 hle;omega
 have honev:=one_of hvv hcell
 have htl:(old'.drop (i*3)).length=n*3 - i*3:=by simp[hol']
 have hb1d:w.drew.heap[R.blk]? =some (.cells c t (0,0)):=hb1
 have hbvd:w.drew.heap[Rv.blk]? =some (.cells cv tv (0,0)):=hbv
 have hst1:=run_storeCells_at (P:=Tryz.prog) R.blk (R.base+o0+(i+1)*3) t (old'.drop (i*3)) 0 c w.drew hb1d (by rw[htl];omega) (fun v hv=>hone v (List.mem_of_mem_drop hv))
 rw[Nat.add_zero] at hst1
 generalize hrow1:(c.toList.take (R.base+o0+(i+1)*3)++old'.drop (i*3)++c.toList.drop (R.base+o0+(i+1)*3+(old'.drop (i*3)).length))=row1 at hst1
 have hrl1:row1.length=c.size:=by rw[←hrow1];simp[hol'];omega
 have hb2:=zkT (cs:=row1.toArray) hb1d
 have hst2:=run_storeCells_at (P:=Tryz.prog) R.blk (R.base+o0+i*3) t vs' 0 row1.toArray (w.drew.setRow R.blk row1.toArray) hb2 (by simp[hrl1,hvl'];omega) honev
 rw[Nat.add_zero] at hst2
 have hrow2:(row1.toArray.toList.take (R.base+o0+i*3)++vs'++row1.toArray.toList.drop (R.base+o0+i*3+vs'.length))=zgb c.toList (R.base+o0) i vs' (old'.drop (i*3)):=by
  unfold zgb;dsimp only;rw[hrow1]
 rw[hrow2,setRow_setRow hb1d] at hst2
 have hrl2:(zgb c.toList (R.base+o0) i vs' (old'.drop (i*3))).length=c.size:=by rw[insRow_length hvl' (by rw[htl,hcl];omega),hcl]
 have hk1:n*3 - i*3=(n - i)*3:=by rw[←Nat.sub_mul]
 have hcall:=ins_shift R.blk (R.base+o0) n cap' i Rv.blk (Rv.base+vo) vc' w (w.drew.setRow R.blk row1.toArray) {w.drew with heap:=w.drew.heap.setIfInBounds R.blk (.cells (zgb c.toList (R.base+o0) i vs' (old'.drop (i*3))).toArray t (0,0))}
  hi hle hn63 hne tv t cv.size c.size (by unfold World.shape?;rw[hbv]) (by unfold World.shape?;rw[hb1]) (by omega) (by unfold World.frozen?;rw[hbv];simp) (by unfold World.frozen?;rw[hbv];simp)
  (fun ty dc sc=>ziU w.drew _ _ _ (n - i) dc (n+1 - i) sc (n - i) (old'.drop (i*3)) ty (by simp only[Nat.min_def];split<;>omega) (by rw[htl,hk1]) (fun j v hj=>by
    rw[List.getElem?_drop] at hj
    have:=hco _ v hj
    rw[Addr.add_mk] at this⊢
    rw[World.cell?_drew,Nat.add_assoc];exact this) hst1)
  (fun ty dc=>ziU _ _ _ _ (n+1 - i) dc 1 vc' 1 vs' ty (by simp only[Nat.min_def];split<;>omega) (by rw[hvl']) (fun j v hj=>by
    rw[cell_setRow hb1d (by rw[Addr.add_mk];exact hne),World.cell?_drew];exact hcv j v hj) hst2)
 refine hcall.mono ?_
 rintro e w' ⟨rfl,rfl⟩
 have hfree:=(hr.nxt _ (Nat.le_refl _)).1
 have hLl:(old.take (i*3)++(vs++old.drop (i*3))).length=(n+1)*3:=by simp[hold,hvl];omega
 have hLr:VRL ρ (old.take (i*3)++(vs++old.drop (i*3))) (old'.take (i*3)++(vs'++old'.drop (i*3))):=(hvo.take _).append (hvv.append (hvo.drop _))
 have hblt:=hr.blk _ _ hR
 obtain⟨g1,g2⟩:=hr.drew.steal (R':=⟨R.blk,R.base+o0,R.csize,3,(n+1)*3,none⟩) (io:=.cells (old.take (i*3)++(vs++old.drop (i*3))) 3) (o:=.cells (zgb c.toList (R.base+o0) i vs' (old'.drop (i*3))).toArray t) hR ho (by simp) hb1d (fun r hr=>by cases hr) (zbD _ _) (zbD _ _) rfl (by
  refine⟨rfl,hLl.symm,(zgb c.toList (R.base+o0) i vs' (old'.drop (i*3))).toArray,t,_,by simp[hblt],.inl ⟨rfl,rfl⟩,by simp[hrl2,hsz],by simp only[List.size_toArray,hrl2];rw[hLl];exact hroom,fun j x hj=> ?_⟩
  have hjlt:j<(n+1)*3:=by rw[←hLl];exact(List.getElem?_eq_some_iff.1 hj).1
  obtain⟨y,hy,hyv⟩:=hLr.get hj
  refine⟨y,?_,.inr (hyv.mono (zdd _ hfree))⟩
  simp only[List.getElem?_toArray]
  rw[insRow_get hvl' hol' hi (by rw[hcl];exact hroom) (fun k v hk hkv=> ?_) j hjlt]
  ·exact hy
  ·have:=hco k v hkv
   rw[Addr.add_mk,cell_of hb1] at this
   rw[Array.getElem?_toList];exact this)
 have hvr:VR (upd ρ h.next ⟨R.blk,R.base+o0,R.csize,3,(n+1)*3,none⟩) (.slice (some ⟨h.next,0,none⟩) (n+1) zg) (.slice (some ⟨R.blk,R.base+o0+0,none⟩) (n+1) cap'):=by
  have h1:(n+1)*3≤cap'*3:=Nat.mul_le_mul_right _ hle
  exact VR.sliceO (zK _ _ _) (by show 0<3;omega) hle (by show R.base+o0+0+cap'*3≤R.csize;omega) (by show(n+1)*3≤0+cap'*3;omega)
 exact⟨_,_,_,_,rfl,rfl,by simpa[zb4] using hvr,g1,(Ext.drew ρ w).trans g2⟩
end
theorem two_stores {A Z1 Z2 V D:List Value} {a v:Nat} (ha:A.length=a) (hv:V.length=v) (hz:Z1.length=v+D.length):
 let r1:=(A++Z1++Z2).take a++V++(A++Z1++Z2).drop (a+V.length)
 r1.length=(A++Z1++Z2).length∧r1.take (a+v)++D++r1.drop (a+v+D.length)=A++(V++D)++Z2:=by
 have e1:(A++Z1++Z2).take a=A:=by rw[List.append_assoc];exact List.take_left' ha
 have e2:(A++Z1++Z2).drop (a+V.length)=Z1.drop v++Z2:=by
  rw[List.append_assoc,←List.drop_drop,List.drop_left' ha,hv,List.drop_append_of_le_length (by omega)]
 intro r1
 have e:r1=A++V++(Z1.drop v++Z2):=by show(A++Z1++Z2).take a++V++(A++Z1++Z2).drop (a+V.length)=_;rw[e1,e2]
 have e3:r1.take (a+v)=A++V:=by rw[e];exact List.take_left' (by simp[ha,hv])
 have e4:r1.drop (a+v+D.length)=Z2:=by
  rw[e,←List.drop_drop,List.drop_left' (by simp[ha,hv])]
  exact List.drop_left' (by simp[hz])
 refine⟨by rw[e];simp[hz,hv];omega,?_⟩
 rw[e3,e4];simp
theorem zil {w:World} {A B:Array Value} {t:TypeId}:(w.alloc (.cells A t)).setRow w.heap.size B=w.alloc (.cells B t):=by
 rw[zbI _ _ A B t (0,0) (zY _ _)]
 show({w with heap:=(w.heap.push (.cells A t)).setIfInBounds w.heap.size (.cells B t)}:World)={w with heap:=w.heap.push (.cells B t)}
 congr 1
 apply Array.ext_getElem?
 intro j
 by_cases hj:j=w.heap.size
 ·subst hj;simp
 ·rw[Array.getElem?_setIfInBounds,if_neg (fun e=>hj e.symm),Array.getElem?_push,Array.getElem?_push,if_neg hj,if_neg hj]
def zv63:Value:=.agg #[.int .i64 0,.int .i64 0,.slice none 0 0]
theorem i63:(Tryz.prog.info? 73).map (fun i=>(i.zero,i.size,i.bytes))=some (some zv63,3,40):=by kernel_rfl
section
variable {ρ:Rho} {h:H} {w:World}
theorem grow_ok (hr:HR Tryz.prog ρ h w) {i0 o0 n cap' i:Nat} {R:RB} {cs old vs vs' old':List Value} {Rv:RB} {vo vc':Nat} (hR:ρ i0=some R) (ho:h.get i0=some (.cells cs 3)) (hl:n≤cap') (hi:i<n) (hle: ¬n+1≤cap') (hbytes:(n+1)*40≤1073741824)
 (hvl:vs.length=3) (hvv:VRL ρ vs vs') (hcell:vs.all isCell=true) (hcv: ∀j v,vs'[j]? =some v→w.cell? ((⟨Rv.blk,Rv.base+vo,none⟩:Addr).add j)=some v) (hvlt:Rv.blk<w.heap.size) (hold:old.length=n*3) (hvo:VRL ρ old old')
 (hco: ∀j v,old'[j]? =some v→w.cell? ((⟨R.blk,R.base+o0,none⟩:Addr).add j)=some v) (hone: ∀u∈old',u.oneCell'=true):
 Calls Tryz.prog 83 #[.slice (some ⟨R.blk,R.base+o0,none⟩) n cap',.int .i64 i,.slice (some ⟨Rv.blk,Rv.base+vo,none⟩) 1 vc'] w
  (zgK Tryz.prog ρ w (.val (zb4 (h.put i0 .dead) (n+1) 3 (old.take (i*3)++(vs++old.drop (i*3)))).1 (zb4 (h.put i0 .dead) (n+1) 3 (old.take (i*3)++(vs++old.drop (i*3)))).2)):=by
 obtain⟨i1,hi1,hz1,hsz,hbt⟩:=info_parts i63
 have hvl':vs'.length=3:=by rw[←hvv.1];exact hvl
 have hol':old'.length=n*3:=by rw[←hvo.1];exact hold
 have honev:=one_of hvv hcell
 have hRlt:=hr.blk _ _ hR
 have htl:(old'.drop (i*3)).length=(n - i)*3:=by simp[hol',Nat.sub_mul]
 have htk:(old'.take (i*3)).length=i*3:=by simp[hol'];omega
 have hik:i+(n+1 - i)=n+1:=by omega
 have hkk:((n:Int)+1 - (i:Int))=((n+1 - i:Nat):Int):=by omega
 have hfc:(Builtin.firstCells i1.size i (.slice (some ⟨R.blk,R.base+o0,none⟩) i cap')).run Tryz.prog w.drew=.ok (old'.take (i*3)).toArray w.drew:=by
  rw[hsz]
  exact run_firstCells_some w.drew 3 i ⟨R.blk,R.base+o0,none⟩ i cap' (old'.take (i*3)) htk (fun j v hj=>by
   rw[List.getElem?_take] at hj
   split at hj
   ·rw[World.cell?_drew];exact hco j v hj
   ·cases hj)
 obtain⟨G,hG⟩: ∃G,G=grownCap w (n+1) cap' 73:=⟨_,rfl⟩
 have hGn:n+1≤G:=by rw[hG];exact grownCap_ge w _ _ _
 have hG63:G≤9223372036854775807:=by
  have:=grownCap_le_maxLen w (n+1) cap' 73 (by unfold maxLen;omega)
  rw[←hG] at this;unfold maxLen at this;omega
 obtain⟨ROW,hROW⟩: ∃ROW:Array Value,ROW=(old'.take (i*3)).toArray++Builtin.zeroCells zv63.cells (n+1 - i)++Builtin.zeroCells zv63.cells (G - (n+1)):=⟨_,rfl⟩
 have hrz: ∀ty,(Builtin.append_ #[84,3] ty #[.slice (some ⟨R.blk,R.base+o0,none⟩) i cap',.int .i64 ((n:Int)+1 - (i:Int))]).run Tryz.prog w=.ok (.slice (some ⟨w.heap.size,0,none⟩) (n+1) G) (w.drew.alloc (.cells ROW 73)):=fun ty=>by
  have h:=Lib.run_append_grow_zeros w 84 3 ty 73 i1 _ .i64 .i64 u44 Tryz.underlying3 hi1 hz1 (some ⟨R.blk,R.base+o0,none⟩) i cap' (old'.take (i*3)) hfc (n+1 - i) (by omega) (by omega) (by omega) (by omega) (by rw[hbt];omega) (by rw[hbt,hik];exact growslice_fits (by omega) (by omega))
  rw[hik,←hG,←hROW] at h
  rw[hkk];exact h
 have hzl: ∀k,(Builtin.zeroCells zv63.cells k).toList.length=k*3:=fun k=>by simp[Builtin.zeroCells,zv63,Value.cells]
 have hRl:ROW.toList=old'.take (i*3)++(Builtin.zeroCells zv63.cells (n+1 - i)).toList++(Builtin.zeroCells zv63.cells (G - (n+1))).toList:=by rw[hROW];simp
 obtain⟨s1,s2⟩:=two_stores (A:=old'.take (i*3)) (Z1:=(Builtin.zeroCells zv63.cells (n+1 - i)).toList) (Z2:=(Builtin.zeroCells zv63.cells (G - (n+1))).toList) (V:=vs') (D:=old'.drop (i*3)) htk hvl' (by rw[hzl,htl];omega)
 rw[←hRl] at s1 s2
 have hRs:ROW.size=ROW.toList.length:=by simp
 have hRsz:i*3+(n+1 - i)*3≤ROW.size:=by rw[hRs,hRl];simp only[List.length_append,htk,hzl];omega
 have hg1:(w.drew.alloc (.cells ROW 73)).heap[w.heap.size]? =some (.cells ROW 73 (0,0)):=zY w.drew _
 have hst1:=run_storeCells_at (P:=Tryz.prog) w.heap.size (i*3) 73 vs' 0 ROW (w.drew.alloc (.cells ROW 73)) hg1 (by rw[hvl'];omega) honev
 rw[Nat.add_zero] at hst1
 generalize hrow1:(ROW.toList.take (i*3)++vs'++ROW.toList.drop (i*3+vs'.length))=row1 at hst1 s1 s2
 have hA1:(w.drew.alloc (.cells ROW 73)).setRow w.heap.size row1.toArray=w.drew.alloc (.cells row1.toArray 73):=zil (w:=w.drew)
 rw[hA1] at hst1
 have hg2:(w.drew.alloc (.cells row1.toArray 73)).drew.heap[w.heap.size]? =some (.cells row1.toArray 73 (0,0)):=zY w.drew _
 have hst2:=run_storeCells_at (P:=Tryz.prog) w.heap.size ((i+1)*3) 73 (old'.drop (i*3)) 0 row1.toArray (w.drew.alloc (.cells row1.toArray 73)).drew hg2 (by rw[htl];simp only[List.size_toArray,s1,←hRs];omega) (fun v hv=>hone v (List.mem_of_mem_drop hv))
 rw[Nat.add_zero,show(i+1)*3=i*3+3 from by omega] at hst2
 simp only[List.toList_toArray] at hst2
 rw[s2] at hst2
 have hA2:(w.drew.alloc (.cells row1.toArray 73)).drew.setRow w.heap.size (old'.take (i*3)++(vs'++old'.drop (i*3))++(Builtin.zeroCells zv63.cells (G - (n+1))).toList).toArray=w.drew.drew.alloc (.cells (old'.take (i*3)++(vs'++old'.drop (i*3))++(Builtin.zeroCells zv63.cells (G - (n+1))).toList).toArray 73):=zil (w:=w.drew.drew)
 rw[hA2] at hst2
 have hcall:=ins_grow R.blk (R.base+o0) n cap' i Rv.blk (Rv.base+vo) vc' w.heap.size G w _ _ _ hi hl (by omega) (by omega) hGn hG63 hrz
  (fun ty dc=>ziU _ _ _ _ (n+1 - i) dc 1 vc' 1 vs' ty (by simp only[Nat.min_def];split<;>omega) (by rw[hvl']) (fun j v hj=>by
    have:=hcv j v hj
    rw[Addr.add_mk] at this⊢
    rw[World.cell?_alloc_lt _ _ ⟨Rv.blk,_,none⟩ (show Rv.blk<w.drew.heap.size from hvlt),World.cell?_drew];exact this) hst1)
  (fun ty dc sc=>ziU _ _ _ _ (n - i) dc (n - i) sc (n - i) (old'.drop (i*3)) ty (by simp) htl (fun j v hj=>by
    rw[List.getElem?_drop] at hj
    have:=hco _ v hj
    rw[Addr.add_mk] at this⊢
    rw[World.cell?_drew,World.cell?_alloc_lt _ _ ⟨R.blk,_,none⟩ (show R.blk<w.drew.heap.size from hRlt),World.cell?_drew,Nat.add_assoc];exact this) (by rw[show(i+1)*3=i*3+3 from by omega];exact hst2))
 refine hcall.mono ?_
 rintro e w' ⟨rfl,rfl⟩
 have hLl:(old.take (i*3)++(vs++old.drop (i*3))).length=(n+1)*3:=by simp[hold,hvl];omega
 have hLr:VRL ρ (old.take (i*3)++(vs++old.drop (i*3))) (old'.take (i*3)++(vs'++old'.drop (i*3))):=(hvo.take _).append (hvv.append (hvo.drop _))
 have hkill:=hr.kill (i:=i0) (hr.lt ho)
 obtain⟨σ,v',p1,rfl,p2,p3⟩:=zhc (P:=Tryz.prog) (i:=i1) (e:=73) (zv:=zv63) (by rw[hsz];rfl) (by omega) hkill.drew.drew hLr (VRL.nil ρ) (need:=n+1) (nc:=G) (by rw[List.append_nil,hsz];exact hLl) hGn
 rw[hsz] at p1 p2
 simp only[List.append_nil] at p1 p2 p3
 have hrow:((old'.take (i*3)++(vs'++old'.drop (i*3))).toArray++Builtin.zeroCells zv63.cells (G - (n+1)))=(old'.take (i*3)++(vs'++old'.drop (i*3))++(Builtin.zeroCells zv63.cells (G - (n+1))).toList).toArray:=by
  apply Array.toList_inj.1;simp
 rw[hrow] at p2 p3
 exact⟨_,_,_,_,rfl,rfl,p1,p2,((Ext.drew ρ w).trans (Ext.drew ρ _)).trans p3⟩
end
theorem insOk:PrimOk Tryz.prog 83 (insP 3 40):=by
 refine⟨fun args w=> ?_,fun args h v h' hp ρ args' w ra hr=> ?_⟩
 ·have hb:Tryz.f83.body≠none:=by rw[show(Tryz.f83.body≠none)=(Tryz.f83.body.isSome=true) from by simp[Option.isSome_iff_ne_none]];kernel_rfl
  have hn: ¬Tryz.f83.name= "runtime.NumGoroutine" :=by decide+kernel
  simp[callFunc,Tryz.func83,hb,hn]
 ·unfold insP at hp
  split at hp
  ·rename_i a n c i b m vc
   split at hp
   ·rename_i hc
    simp only[Bool.and_eq_true] at hc
    obtain⟨c1,c2,c3,c4,c5,c6⟩:=hc
    obtain rfl:=Nat.eq_of_beq_eq_true c1
    have hi:i<n:=Nat.le_of_ble_eq_true c2
    obtain rfl:=Nat.eq_of_beq_eq_true c3
    have hab:a.block≠b.block:=fun e=>by rw[e] at c4;simp at c4
    have hbytes:=Nat.le_of_ble_eq_true c6
    obtain⟨vs,hvs,hp⟩:=aof hp
    split at hp
    ·rename_i hcell
     obtain⟨o,ho,hp⟩:=aof hp
     unfold insIn at hp
     split at hp
     ·rename_i cs esz
      split at hp
      ·rename_i hes
       simp only[Bool.and_eq_true] at hes
       obtain rfl:esz=3:=Nat.eq_of_beq_eq_true hes.1
       obtain⟨old,hold,hp⟩:=aof hp
       split at hp
       case isFalse=>cases hp
       rename_i holdc
       obtain⟨x',y',z',rfl,rx,ry,rz⟩:=VRL.three ra
       have hre:h.readN a.block a.off (n*3)=some old:=by simp only[H.readN,ho,Option.bind_some,readObj,hold]
       obtain⟨Rv,vc',hRv,rfl⟩:=rz.inv_slice_some (by omega)
       obtain rfl:=ry.inv_int
       obtain⟨csv,ev,hgv,hev⟩:=plainRow_some c5
       obtain⟨v1,v2,cv,tv,frv,hbv,hfv,_⟩:=hr.obj _ _ _ hRv hgv
       obtain⟨-,rfl⟩:=hfv.resolve_right (fun h=>hev h.2)
       obtain⟨hvl,vs',hvv,hcv⟩:=zcB (P:=Tryz.prog) hr hRv hvs
       cases rx with
       |slice hR hc hl=>exact(Nat.lt_irrefl zg hc).elim
       |sliceE hR he hb=>exact absurd hi (by omega)
       |sliceR hR he hl=>
        obtain⟨q1,_⟩:=hr.obj _ _ _ hR ho
        have:=q1.symm.trans he
        simp[roE] at this
       | @sliceO i0 o0 _ cap' R hR he hl hs hb=>
         obtain⟨hol,old',hvo,hco⟩:=zcB (P:=Tryz.prog) hr hR hre
         have hne:Rv.blk≠R.blk:=fun e=>hab (hr.sep _ _ _ _ hR hRv ⟨_,ho,by simp⟩ ⟨_,hgv,by simp⟩ e.symm)
         have hone:=one_of hvo holdc
         have e:zb4 (h.put i0 .dead) (n+1) 3 (old.take (i*3)++(vs++old.drop (i*3)))=(v,h'):=Option.some.inj hp
         have hn63:n≤1000000000000:=by omega
         have key:Calls Tryz.prog 83 #[.slice (some ⟨R.blk,R.base+o0,none⟩) n cap',.int .i64 (Int.ofNat i),.slice (some ⟨Rv.blk,Rv.base+b.off,none⟩) 1 vc'] w (zgK Tryz.prog ρ w (.val (zb4 (h.put i0 .dead) (n+1) 3 (old.take (i*3)++(vs++old.drop (i*3)))).1 (zb4 (h.put i0 .dead) (n+1) 3 (old.take (i*3)++(vs++old.drop (i*3)))).2)):=by
          by_cases hle:n+1≤cap'
          ·exact shift_ok hr hR ho hl hs hi hle hn63 hvl hvv hcell hcv hol hvo hco hone hbv hne
          ·exact grow_ok hr hR ho hl hi hle hbytes hvl hvv hcell hcv (hr.blk _ _ hRv) hol hvo hco hone
         rw[e] at key
         exact key
      ·cases hp
     ·cases hp
    ·cases hp
   ·cases hp
  ·cases hp
end Go.Proofs.YtffbioplncclkaaGreat
set_option maxHeartbeats 4000000
noncomputable section
namespace Go.Ideal.X
open Go Go.Ideal
theorem hmix:Go.Proofs.Tryz.prog.follows .mixedOrders=true:=by kernel_rfl
theorem call:AllC Go.Proofs.Tryz.prog tabC:=((((c0.app c1).app c2).app c3).app c4)
theorem okF: ∀g cf,F g=some cf→FnOk Go.Proofs.Tryz.prog g cf:=look_ok (List.forall_mem_cons.2 ⟨.inr (.inr (.inr ⟨_,Go.Proofs.Tryz.f83,f83,rfl,Go.Proofs.YtffbioplncclkaaGreat.insOk,Go.Proofs.Tryz.func83,by kernel_rfl⟩)),call.ok⟩)
end Go.Ideal.X
end
noncomputable section
namespace Go.Ideal.X
open Go Go.Ideal
def q30:zcU:=⟨[vA [sL 10 0 1 1,sL 17 0 11 11,sL 11 0 1 1,0],vA [sL 48 0 2 oC,sL 50 0 1 oC,sL 44 0 2 oC,sL 95 0 2 oC],1],98,[(93,cL [2,0,3,0,3,1,4,1] 2),(56,cL [2,0,3,0,3,1,4,1] 2),(95,cL [1,2,sL 56 0 4 oC,0,9,sL 93 0 4 oC] 3),(90,cL [vS] 1),(77,cL [1,2] 2),(65,cL [1,1] 2),(82,cL [sL 65 0 1 oC,sL 77 0 1 oC] 1),(44,cL [0,0,0,sL 82 0 2 oC,0,1,0,sL 90 0 1 oC] 4),(36,cL [2,0,3,0,3,1,4,1] 2),(50,cL [0,0,sL 36 0 4 oC] 3),(48,cL [iI (-1),vF,0,vF] 2),(3,cL [0,1] 0),(4,cL [0,sL 3 0 2 2,1] 0),(2,cL [0,2] 0),(1,cL [0,1,0,0] 0),(11,cL [sL 1 0 2 2,sL 2 0 1 1,sL 4 0 1 1] 0),(9,cL [1,3,vS] 0),(16,cL [10] 0),(15,cL [8,9] 0),(8,cL [1,2,vS] 0),(14,cL [6,7] 0),(7,cL [1,1,vS] 0),(13,cL [4,5] 0),(6,cL [2,4,vS] 0),(12,cL [3] 0),(17,cL [4,0,vS,sL 12 0 1 1,2,0,sL 6 0 1 1,vS,7,0,vS,vS,3,0,vS,sL 13 0 2 2,2,1,sL 7 0 1 1,vS,3,0,vS,sL 14 0 2 2,2,1,sL 8 0 1 1,vS,3,0,vS,sL 15 0 2 2,2,2,vS,vS,8,3,vS,sL 16 0 1 1,2,1,sL 9 0 1 1,vS] 0),(10,cL [.string ⟨#[111,117,116]⟩] 0)],(.tuple ⟨[vA [sL 377 0 1 1,vS,sL 442 0 1 oC],vA [sL 382 0 2 oC,sL 389 0 1 oC,sL 418 0 2 oC,sL 449 0 1 oC],0]⟩),450,[(10,cL [.string ⟨#[111,117,116]⟩] 0),(17,cL [4,0,vS,sL 12 0 1 1,2,0,sL 6 0 1 1,vS,7,0,vS,vS,3,0,vS,sL 13 0 2 2,2,1,sL 7 0 1 1,vS,3,0,vS,sL 14 0 2 2,2,1,sL 8 0 1 1,vS,3,0,vS,sL 15 0 2 2,2,2,vS,vS,8,3,vS,sL 16 0 1 1,2,1,sL 9 0 1 1,vS] 0),(12,cL [3] 0),(6,cL [2,4,vS] 0),(13,cL [4,5] 0),(7,cL [1,1,vS] 0),(14,cL [6,7] 0),(8,cL [1,2,vS] 0),(15,cL [8,9] 0),(16,cL [10] 0),(9,cL [1,3,vS] 0),(11,cL [sL 1 0 2 2,sL 2 0 1 1,sL 4 0 1 1] 0),(1,cL [0,1,0,0] 0),(2,cL [0,2] 0),(4,cL [0,sL 3 0 2 2,1] 0),(3,cL [0,1] 0),(48,cL [iI (-1),vF,0,vF] 2),(50,cL [0,0,sL 36 0 4 oC] 3),(36,cL [2,0,3,0,3,1,4,1] 2),(44,cL [0,0,0,sL 82 0 2 oC,0,1,0,sL 90 0 1 oC] 4),(82,cL [sL 65 0 1 oC,sL 77 0 1 oC] 1),(65,cL [1,1] 2),(77,cL [1,2] 2),(90,cL [vS] 1),(95,cL [1,2,sL 56 0 4 oC,0,9,sL 93 0 4 oC] 3),(56,cL [2,0,3,0,3,1,4,1] 2),(93,cL [2,0,3,0,3,1,4,1] 2),(447,cL [2,0,3,0,3,1,4,1] 2),(449,cL [0,9,sL 447 0 4 oC] 3),(416,cL [vS] 1),(404,cL [1,2] 2),(397,cL [1,1] 2),(406,cL [sL 397 0 1 oC,sL 404 0 1 oC] 1),(418,cL [0,0,0,sL 406 0 2 oC,0,1,0,sL 416 0 1 oC] 4),(387,cL [2,0,3,0,3,1,4,1] 2),(389,cL [0,0,sL 387 0 4 oC] 3),(382,cL [iI (-1),vF,0,vF] 2),(440,cL [2,0,3,0,3,1,4,1] 2),(442,cL [0,1,2,sL 440 0 4 oC] 4),(377,cL [1] 0)]⟩
def q327:zcU:=⟨[vA [sL 377 0 1 1,vS,sL 442 0 1 oC]],452,[(440,cL [2,0,3,0,3,1,4,1] 2),(442,cL [0,1,2,sL 440 0 4 oC] 4),(377,cL [1] 0)],(.tuple ⟨[.string ⟨#[80,4,4,1,2,0,3,0,3,1,1,0,0,1,0,0,2,4,3,5,7,1,91,132]⟩,0]⟩),547,[(377,cL [1] 0),(442,cL [0,1,2,sL 440 0 4 oC] 4),(440,cL [2,0,3,0,3,1,4,1] 2)]⟩
def q409:zcU:=⟨[.string ⟨#[80,4,4,1,2,0,3,0,3,1,1,0,0,1,0,0,2,4,3,5,7,1,91,132]⟩],547,[],(.tuple ⟨[vA [sL 567 0 1 oC,vS,sL 584 0 1 oC],0]⟩),679,[(582,cL [2,0,3,0,3,1,4,1] 2),(584,cL [0,1,2,sL 582 0 4 oC] 4),(567,cL [1] 1)]⟩
def q530:zcU:=⟨[vA [sL 10 0 1 1,sL 17 0 11 11,sL 11 0 1 1,0],vA [sL 382 0 2 oC,sL 389 0 1 oC,sL 418 0 2 oC,sL 449 0 1 oC],vA [sL 567 0 1 oC,vS,sL 584 0 1 oC]],680,[(582,cL [2,0,3,0,3,1,4,1] 2),(584,cL [0,1,2,sL 582 0 4 oC] 4),(567,cL [1] 1),(447,cL [2,0,3,0,3,1,4,1] 2),(449,cL [0,9,sL 447 0 4 oC] 3),(416,cL [vS] 1),(404,cL [1,2] 2),(397,cL [1,1] 2),(406,cL [sL 397 0 1 oC,sL 404 0 1 oC] 1),(418,cL [0,0,0,sL 406 0 2 oC,0,1,0,sL 416 0 1 oC] 4),(387,cL [2,0,3,0,3,1,4,1] 2),(389,cL [0,0,sL 387 0 4 oC] 3),(382,cL [iI (-1),vF,0,vF] 2),(3,cL [0,1] 0),(4,cL [0,sL 3 0 2 2,1] 0),(2,cL [0,2] 0),(1,cL [0,1,0,0] 0),(11,cL [sL 1 0 2 2,sL 2 0 1 1,sL 4 0 1 1] 0),(9,cL [1,3,vS] 0),(16,cL [10] 0),(15,cL [8,9] 0),(8,cL [1,2,vS] 0),(14,cL [6,7] 0),(7,cL [1,1,vS] 0),(13,cL [4,5] 0),(6,cL [2,4,vS] 0),(12,cL [3] 0),(17,cL [4,0,vS,sL 12 0 1 1,2,0,sL 6 0 1 1,vS,7,0,vS,vS,3,0,vS,sL 13 0 2 2,2,1,sL 7 0 1 1,vS,3,0,vS,sL 14 0 2 2,2,1,sL 8 0 1 1,vS,3,0,vS,sL 15 0 2 2,2,2,vS,vS,8,3,vS,sL 16 0 1 1,2,1,sL 9 0 1 1,vS] 0),(10,cL [.string ⟨#[111,117,116]⟩] 0)],(.tuple ⟨[vA [sL 1052 0 2 oC,sL 1059 0 1 oC,sL 1088 0 2 oC,sL 1103 0 2 oC],0]⟩),1104,[(10,cL [.string ⟨#[111,117,116]⟩] 0),(17,cL [4,0,vS,sL 12 0 1 1,2,0,sL 6 0 1 1,vS,7,0,vS,vS,3,0,vS,sL 13 0 2 2,2,1,sL 7 0 1 1,vS,3,0,vS,sL 14 0 2 2,2,1,sL 8 0 1 1,vS,3,0,vS,sL 15 0 2 2,2,2,vS,vS,8,3,vS,sL 16 0 1 1,2,1,sL 9 0 1 1,vS] 0),(12,cL [3] 0),(6,cL [2,4,vS] 0),(13,cL [4,5] 0),(7,cL [1,1,vS] 0),(14,cL [6,7] 0),(8,cL [1,2,vS] 0),(15,cL [8,9] 0),(16,cL [10] 0),(9,cL [1,3,vS] 0),(11,cL [sL 1 0 2 2,sL 2 0 1 1,sL 4 0 1 1] 0),(1,cL [0,1,0,0] 0),(2,cL [0,2] 0),(4,cL [0,sL 3 0 2 2,1] 0),(3,cL [0,1] 0),(382,cL [iI (-1),vF,0,vF] 2),(389,cL [0,0,sL 387 0 4 oC] 3),(387,cL [2,0,3,0,3,1,4,1] 2),(418,cL [0,0,0,sL 406 0 2 oC,0,1,0,sL 416 0 1 oC] 4),(406,cL [sL 397 0 1 oC,sL 404 0 1 oC] 1),(397,cL [1,1] 2),(404,cL [1,2] 2),(416,cL [vS] 1),(449,cL [0,9,sL 447 0 4 oC] 3),(447,cL [2,0,3,0,3,1,4,1] 2),(567,cL [1] 1),(584,cL [0,1,2,sL 582 0 4 oC] 4),(582,cL [2,0,3,0,3,1,4,1] 2),(1093,cL [2,0,3,0,3,1,4,1] 2),(1101,cL [2,0,3,0,3,1,4,1] 2),(1103,cL [1,2,sL 1101 0 4 oC,0,9,sL 1093 0 4 oC] 3),(1086,cL [vS] 1),(1074,cL [1,2] 2),(1067,cL [1,1] 2),(1076,cL [sL 1067 0 1 oC,sL 1074 0 1 oC] 1),(1088,cL [0,0,0,sL 1076 0 2 oC,0,1,0,sL 1086 0 1 oC] 4),(1057,cL [2,0,3,0,3,1,4,1] 2),(1059,cL [0,0,sL 1057 0 4 oC] 3),(1052,cL [iI (-1),vF,0,vF] 2)]⟩
def q1057:zcU:=⟨[.string ⟨#[77,1,3,0,0,2,4,1,85,142]⟩],1203,[],(.tuple ⟨[sL 1266 0 1 oC,0]⟩),1267,[(1266,cL [3,0] 2)]⟩
def q1119:zcU:=⟨[.string ⟨#[77,1,3,0,0,2,4,1,85,142]⟩,sL 1269 0 1 1],1270,[(1269,cL [3,0,3,7] 0)],(.tuple ⟨[.string ⟨#[77,1,3,7,0,2,4,1,50,90]⟩,0]⟩),1359,[(1269,cL [3,0,3,7] 0)]⟩
end Go.Ideal.X
end
noncomputable section
namespace Go.Ideal.X
open Go Go.Ideal
def F30:FuncId→Option ze:=F
theorem r30:q30.runs F30 100000 32=true:=by kernel_rfl
theorem g30:q30.good=true:=by kernel_rfl
end Go.Ideal.X
end
noncomputable section
namespace Go.Ideal.X
open Go Go.Ideal
def F327:FuncId→Option ze:=F
theorem r327:q327.runs F327 100000 11=true:=by kernel_rfl
theorem g327:q327.good=true:=by kernel_rfl
end Go.Ideal.X
end
noncomputable section
namespace Go.Ideal.X
open Go Go.Ideal
def F409:FuncId→Option ze:=F
theorem r409:q409.runs F409 100000 13=true:=by kernel_rfl
theorem g409:q409.good=true:=by kernel_rfl
end Go.Ideal.X
end
noncomputable section
namespace Go.Ideal.X
open Go Go.Ideal
def F530:FuncId→Option ze:=F
theorem r530:q530.runs F530 100000 33=true:=by kernel_rfl
theorem g530:q530.good=true:=by kernel_rfl
end Go.Ideal.X
end
noncomputable section
namespace Go.Ideal.X
open Go Go.Ideal
def F1057:FuncId→Option ze:=F
theorem r1057:q1057.runs F1057 100000 22=true:=by kernel_rfl
theorem g1057:q1057.good=true:=by kernel_rfl
end Go.Ideal.X
end
noncomputable section
namespace Go.Ideal.X
open Go Go.Ideal
def F1119:FuncId→Option ze:=F
theorem r1119:q1119.runs F1119 100000 24=true:=by kernel_rfl
theorem g1119:q1119.good=true:=by kernel_rfl
end Go.Ideal.X
end
noncomputable section
namespace Go.Ideal.X
open Go Go.Ideal
def F0:FuncId→Option ze:=overF [(32,zkt (zeL [q30]) f32),(11,zkt (zeL [q327]) f11),(13,zkt (zeL [q409]) f13),(33,zkt (zeL [q530]) f33),(22,zkt (zeL [q1057]) f22),(24,zkt (zeL [q1119]) f24)] F
theorem r0:endsTrue (E F0 100000 (.call (.func (.func 10) #[] #[]) [] .empty))=true:=by kernel_rfl
end Go.Ideal.X
end
noncomputable section
namespace Go.Ideal.X
open Go Go.Ideal
theorem ok1119: ∀g cf,F1119 g=some cf→FnOk Go.Proofs.Tryz.prog g cf:=okF
theorem ok1057: ∀g cf,F1057 g=some cf→FnOk Go.Proofs.Tryz.prog g cf:=okF
theorem ok530: ∀g cf,F530 g=some cf→FnOk Go.Proofs.Tryz.prog g cf:=okF
theorem ok409: ∀g cf,F409 g=some cf→FnOk Go.Proofs.Tryz.prog g cf:=okF
theorem ok327: ∀g cf,F327 g=some cf→FnOk Go.Proofs.Tryz.prog g cf:=okF
theorem ok30: ∀g cf,F30 g=some cf→FnOk Go.Proofs.Tryz.prog g cf:=okF
theorem ok0: ∀g cf,F0 g=some cf→FnOk Go.Proofs.Tryz.prog g cf:=over_ok (List.forall_mem_cons.2 ⟨call.pieces hmix (g:=32) (by kernel_rfl) (List.forall_mem_cons.2 ⟨⟨g30,F30,100000,ok30,r30⟩,(fun _ h=>by cases h)⟩),(List.forall_mem_cons.2 ⟨call.pieces hmix (g:=11) (by kernel_rfl) (List.forall_mem_cons.2 ⟨⟨g327,F327,100000,ok327,r327⟩,(fun _ h=>by cases h)⟩),(List.forall_mem_cons.2 ⟨call.pieces hmix (g:=13) (by kernel_rfl) (List.forall_mem_cons.2 ⟨⟨g409,F409,100000,ok409,r409⟩,(fun _ h=>by cases h)⟩),(List.forall_mem_cons.2 ⟨call.pieces hmix (g:=33) (by kernel_rfl) (List.forall_mem_cons.2 ⟨⟨g530,F530,100000,ok530,r530⟩,(fun _ h=>by cases h)⟩),(List.forall_mem_cons.2 ⟨call.pieces hmix (g:=22) (by kernel_rfl) (List.forall_mem_cons.2 ⟨⟨g1057,F1057,100000,ok1057,r1057⟩,(fun _ h=>by cases h)⟩),(List.forall_mem_cons.2 ⟨call.pieces hmix (g:=24) (by kernel_rfl) (List.forall_mem_cons.2 ⟨⟨g1119,F1119,100000,ok1119,r1119⟩,(fun _ h=>by cases h)⟩),(fun _ h=>by cases h)⟩)⟩)⟩)⟩)⟩)⟩) okF
theorem root_true:FnOk Go.Proofs.Tryz.prog 10 (zhH true):=by
 obtain⟨h',e⟩:=endsTrue_some r0
 obtain⟨fn,h1,h2⟩:=call.at (g:=10) (cf:=f10) (by kernel_rfl)
 exact prim_of hmix ok0 h1 h2 e
end Go.Ideal.X
end
noncomputable section
namespace Go.Ideal.Y
open Go Go.Ideal Q
theorem c0:AllC Go.Proofs.Tryz.prog tab0:=by unfold AllC;kernel_rfl
end Go.Ideal.Y
end
noncomputable section
namespace Go.Ideal.Y
open Go Go.Ideal Q
theorem c1:AllC Go.Proofs.Tryz.prog tab1:=by unfold AllC;kernel_rfl
end Go.Ideal.Y
end
noncomputable section
namespace Go.Ideal.Y
open Go Go.Ideal Q
theorem c2:AllC Go.Proofs.Tryz.prog tab2:=by unfold AllC;kernel_rfl
end Go.Ideal.Y
end
noncomputable section
namespace Go.Ideal.Y
open Go Go.Ideal Q
theorem call:AllC Go.Proofs.Tryz.prog Q.tabC:=((c0.app c1).app c2)
end Go.Ideal.Y
end
noncomputable section
namespace Go.Ideal.Y
open Go Go.Ideal Q
theorem okF: ∀g cf,Q.F g=some cf→FnOk Go.Proofs.Tryz.prog g cf:=look_ok (List.forall_mem_cons.2 ⟨X.root_true,call.ok⟩)
end Go.Ideal.Y
end
namespace Go.Proofs.YtffbioplncclkaaGreat
open Go.ChangeShapes Go.WideShapes Go.RowKit Go.Ideal Go.Ideal.S
section
variable {P:Program} {H:Type} {enc:TypeId×Value→H} {W:World} {base b:Nat} {r:Reach} {spare:Nat→Bool} {held:Bool} {v:Value} {d:DataW H} {ps:List MemPlace}
theorem spot_of_cell {a:Addr} {v:Value} (h:W.cell? a=some v):a.spot=none:=by
 unfold World.cell? at h
 split at h
 ·split at h
  ·cases h
  ·rename_i hs;simpa using hs
 ·cases h
theorem zhP {v:Value} (h:okV W v=true):impV W v=v:=by unfold impV;rw[if_pos h]
theorem ziO {k:IntKind} {n:Int}:impV W (.int k n)=.int k n:=zhP rfl
theorem zfo {t el:TypeId} {fuel:Nat} {x:DataW H×List MemPlace} (ht:P.underlying t=some (.slice el)) (hv: ∀a len cap,v=.slice (some a) len cap→a.spot=none∧zbA W a.block=true)
 (h:DataW.trod enc P W base spare held fuel t [v]=some x):okV W v=true:=by
 rcases DataW.trod_slice ht h with⟨e0,_⟩| ⟨a,len,cap,elems,rest,n,_,e0,_,hb,hl,hm,hlen',hel',hsp,hns⟩
 ·cases e0;rfl
 ·cases e0
  obtain⟨hsp0,hic⟩:=hv a len cap rfl
  have hcap:cap<zg:=by unfold zg;unfold maxLen at hm;omega
  simp[okV,hl,hcap,hic,hsp0]
theorem zdc {α:Type} {e:α→List DV} {sz:Nat} {t el:TypeId} {fuel:Nat} {x:DataW H×List MemPlace} (ht:P.underlying t=some (.slice el)) (hc:P.cellsOf el=sz) (hs:0<sz) (hlen: ∀a,(e a).length=sz)
 (hel: ∀fuel cs y,DataW.trod enc P W base (fun _=>true) held fuel el cs=some y→ ∃a,LRel (impW W) (e a) (cs.map (impV W)))
 (h:DataW.trod enc P W base (fun _=>true) held fuel t [v]=some x): ∃es:List α,VRel (impW W) (.lst sz (es.map e)) (impV W v):=by
 rcases DataW.trod_slice ht h with⟨e0,_⟩| ⟨a,len,cap,elems,rest,n,hfu,e0,_,hb,hl,hm,hlen',hel',hsp,hns⟩
 ·cases e0
  exact⟨[],.lst0 (by unfold zg;omega) (fun a h=>by cases h)⟩
 ·cases e0
  have hcap:cap<zg:=by unfold zg;unfold maxLen at hm;omega
  by_cases hz:cap=0
  ·subst hz
   obtain rfl:len=0:=by omega
   by_cases hok:okV W (.slice (some a) 0 0)=true
   ·rw[zhP hok]
    unfold okV at hok
    simp only[Bool.and_eq_true,Option.isNone_iff_eq_none,decide_eq_true_eq] at hok
    obtain⟨h1,h2,h3,h4⟩:=hok
    exact⟨[],.lst0 hcap (fun a' h=>by cases h;exact h1)⟩
   ·have:impV W (.slice (some a) 0 0)=dang W:=by unfold impV;rw[if_neg hok];rfl
    rw[this]
    exact⟨[],.lst0 hcap (fun a' h=>by cases h;rfl)⟩
  ·have hcell: ∀i,i<cap→ ∃cs y,W.cells? base (a.add (i*P.cellsOf el)) (P.cellsOf el)=some cs∧DataW.trod enc P W base (fun _=>true) held n el cs=some y:=by
    intro i hi
    by_cases hil:i<len
    ·have h1:=hel' i hil
     rw[List.getElem?_eq_getElem (by omega)] at h1
     obtain⟨cs,hcs,hy⟩:=Option.bind_eq_some_iff.1 h1
     exact⟨cs,_,hcs,hy⟩
    ·obtain⟨hrl,hr⟩:=hsp rfl
     have h1:=hr (i - len) (by omega)
     rw[List.getElem?_eq_getElem (by omega)] at h1
     obtain⟨cs,hcs,hy⟩:=Option.bind_eq_some_iff.1 h1
     rw[show len+(i - len)=i by omega] at hcs
     exact⟨cs,_,hcs,hy⟩
   have hln: ∀{cs y},DataW.trod enc P W base (fun _=>true) held n el cs=some y→cs.length=sz:=fun{cs y} hy=>by
    obtain⟨a,ha⟩:=hel _ _ _ hy
    have:=ha.len
    rw[List.length_map,hlen] at this;exact this.symm
   have hspot: ∃b o c t fr,a=⟨b,o,none⟩∧W.heap[b]? =some (.cells c t fr):=by
    obtain⟨cs,y,hcs,hy⟩:=hcell 0 (by omega)
    obtain⟨_,q2,q3⟩:=World.cells?_some hcs
    have hlc:0<cs.length:=by rw[hln hy];exact hs
    have hg:cs[0]? =some cs[0]:=List.getElem?_eq_getElem hlc
    have h3:=q3 0 (by rw[hc];exact hs)
    rw[hg] at h3
    have hsp0:=spot_of_cell h3
    obtain⟨b,o,s⟩:=a
    have:s=none:=by
     unfold Addr.add at hsp0
     cases s with
     |none=>rfl
     |some _=>split at hsp0<;>(try split at hsp0)<;>simp_all
    subst this
    rw[zf2,zf2] at h3
    obtain⟨c,t',fr,hbk,_⟩:=zj7 h3
    exact⟨b,o,c,t',fr,rfl,hbk⟩
   obtain⟨b,o,c,t',fr,rfl,hbk⟩:=hspot
   have hic:zbA W b=true:=by unfold zbA;rw[hbk]
   have hok:okV W (.slice (some ⟨b,o,none⟩) len cap)=true:=by simp[okV,hl,hcap,hic]
   rw[zhP hok]
   have hel2: ∀i,i<len→ ∃a:α,∃cs:List Value,LRel (impW W) (e a) (cs.map (impV W))∧ ∀k,k<sz→W.cell? ⟨b,o+(i*sz+k),none⟩=cs[k]?:=by
    intro i hi
    obtain⟨cs,y,hcs,hy⟩:=hcell i (by omega)
    obtain⟨a,ha⟩:=hel _ _ _ hy
    rw[hc] at hcs
    obtain⟨_,_,h3⟩:=World.cells?_some hcs
    refine⟨a,cs,ha,fun k hk=> ?_⟩
    have:=h3 k hk
    rw[zf2,zf2] at this
    rw[←this,Nat.add_assoc]
   obtain⟨es,hes,hq⟩:=list_of len hel2
   subst hes
   rcases Nat.eq_zero_or_pos es.length with h0|h0
   ·obtain rfl:=List.eq_nil_of_length_eq_zero h0
    exact⟨[],.lst0 hcap (fun a h=>by cases h;rfl)⟩
   have hrows: ∀r∈es.map e,r.length=sz:=fun r hr=>by obtain⟨a,_,rfl⟩:=List.mem_map.1 hr;exact hlen a
   have hcell: ∀i j a,es[i]? =some a→j<sz→ ∃d v,(e a)[j]? =some d∧(c.toList.map (impV W))[o+(i*sz+j)]? =some v∧VRel (impW W) d v:=by
    intro i j a ha hj
    obtain⟨cs,hrel,hck⟩:=hq i a ha
    have hck:=hck j hj
    have hfl:(cs.map (impV W)).length=sz:=by rw[←hrel.len,hlen]
    have hjf:j<(cs.map (impV W)).length:=by rw[hfl];exact hj
    have hjc:j<cs.length:=by rw[List.length_map] at hjf;exact hjf
    have hje:j<(e a).length:=by rw[hlen];exact hj
    have hka:cs[j]? =some (cs[j]'hjc):=List.getElem?_eq_getElem hjc
    have hea:(e a)[j]? =some ((e a)[j]'hje):=List.getElem?_eq_getElem hje
    rw[hka] at hck
    obtain⟨c',t'',fr',hb',hco⟩:=zj7 hck
    rw[hbk] at hb';cases hb'
    exact⟨_,_,hea,by rw[List.getElem?_map,Array.getElem?_toList,hco];rfl,hrel.at_ j _ _ hea (by rw[List.getElem?_map,hka];rfl)⟩
   refine⟨es,.lst (impW_Z (zfU hbk)) hrows ?_ ?_ (fun h=>by omega) (fun _=>⟨by rw[List.length_map];exact hl,hcap⟩) (by rw[List.length_map])⟩
   ·rw[List.length_map]
    obtain⟨d,v,_,h2,_⟩:=hcell (es.length - 1) (sz - 1) _ (List.getElem?_eq_getElem (by omega)) (by omega)
    have:=(List.getElem?_eq_some_iff.1 h2).1
    have e1:(es.length - 1)*sz+(sz - 1)+1=es.length*sz:=by
     obtain⟨m,hm⟩: ∃m,es.length=m+1:=⟨es.length - 1,by omega⟩
     rw[hm,Nat.add_sub_cancel,Nat.succ_mul];omega
    omega
   ·intro k d v hd hv
    have hkl:=(List.getElem?_eq_some_iff.1 hd).1
    rw[zV hrows,List.length_map] at hkl
    have hi:k / sz<es.length:=(Nat.div_lt_iff_lt_mul hs).2 hkl
    have hj:k%sz<sz:=Nat.mod_lt _ hs
    have hk:k / sz*sz+k%sz=k:=Nat.div_add_mod' k sz
    obtain⟨d',v',h1,h2,h3⟩:=hcell _ _ _ (List.getElem?_eq_getElem hi) hj
    obtain⟨tl,ht⟩:=zjT hrows (i:=k / sz) (r:=e es[k / sz]) (by rw[List.getElem?_map,List.getElem?_eq_getElem hi];rfl)
    have:(es.map e).flatten[k]? =(e es[k / sz])[k%sz]?:=by
     have e2:((es.map e).flatten.drop (k / sz*sz))[k%sz]? =(es.map e).flatten[k]?:=by rw[List.getElem?_drop,hk]
     rw[←e2,ht,List.getElem?_append_left (by rw[hlen];exact hj)]
    rw[this,h1] at hd
    rw[hk,hv] at h2
    cases hd;cases h2;exact h3
theorem cs22:Tryz.prog.cellsOf 22=1:=by kernel_rfl
theorem cs23:Tryz.prog.cellsOf 23=1:=by kernel_rfl
theorem cs24:Tryz.prog.cellsOf 24=1:=by kernel_rfl
theorem cs67:Tryz.prog.cellsOf 67=1:=by kernel_rfl
theorem cQ2:Tryz.prog.cellsOf 69=2:=by kernel_rfl
theorem cM1:Tryz.prog.cellsOf 71=1:=by kernel_rfl
theorem cW4:Tryz.prog.cellsOf 75=4:=by kernel_rfl
theorem cW3:Tryz.prog.cellsOf 73=3:=by kernel_rfl
theorem sv_el {fuel:Nat} {cs:List Value} {x:DataW H×List MemPlace} (h:DataW.trod enc Tryz.prog W b (fun _=>true) held fuel 60 cs=some x): ∃a:Sv,LRel (impW W) (eSv a) (cs.map (impV W)):=by
 obtain⟨a,rfl⟩:=zkI h
 exact⟨a,by simp only[vSv,List.map_cons,List.map_nil,ziO];exact LRel.cons (.int _ _) (LRel1 (.int _ _))⟩
theorem int_el {fuel:Nat} {cs:List Value} {x:DataW H×List MemPlace} (h:DataW.trod enc Tryz.prog W b (fun _=>true) held fuel 3 cs=some x): ∃a:Int,LRel (impW W) (eInt a) (cs.map (impV W)):=by
 obtain⟨n,e,_,hw⟩:=DataW.trod_int Tryz.underlying3 h
 cases e
 exact⟨n,by simp only[List.map_cons,List.map_nil,ziO];exact LRel1 (.int _ _)⟩
theorem svs_el {fuel:Nat} {c:Value} {x:DataW H×List MemPlace} (h:DataW.trod enc Tryz.prog W b (fun _=>true) held fuel 36 [c]=some x): ∃vs:List Sv,VRel (impW W) (.lst 2 (vs.map eSv)) (impV W c):=
 zdc Tryz.underlying36 cV2 (by omega) (fun _=>rfl) (fun _ _ _ h=>sv_el h) h
theorem msg_el {fuel:Nat} {cs:List Value} {x:DataW H×List MemPlace} (h:DataW.trod enc Tryz.prog W b (fun _=>true) held fuel 71 cs=some x): ∃a:List Sv,LRel (impW W) (eMsg a) (cs.map (impV W)):=by
 obtain⟨xs,n,_,_,hl,hlen,hf⟩:=DataW.trod_struct Tryz.underlying71 h
 rw[cM1] at hl
 match cs,hl with
 | [c0],_=>
   have e0:DataW.trod enc Tryz.prog W b (fun _=>true) held n 36 (([c0].drop 0).take (Tryz.prog.cellsOf 36))=xs[0]?:=hf 0 _ rfl
   rw[cs1] at e0
   match xs,hlen with
   | [y0],_=>
     obtain⟨vs,hv⟩:=svs_el (show DataW.trod enc Tryz.prog W b (fun _=>true) held n 36 [c0]=some y0 from e0)
     exact⟨vs,LRel1 hv⟩
theorem qu_el {fuel:Nat} {cs:List Value} {x:DataW H×List MemPlace} (h:DataW.trod enc Tryz.prog W b (fun _=>true) held fuel 69 cs=some x): ∃a:Qu,LRel (impW W) (eQu a) (cs.map (impV W)):=by
 obtain⟨xs,n,_,_,hl,hlen,hf⟩:=DataW.trod_struct Tryz.underlying69 h
 rw[cQ2] at hl
 match cs,hl with
 | [c0,c1],_=>
   have e0:DataW.trod enc Tryz.prog W b (fun _=>true) held n 3 (([c0,c1].drop 0).take (Tryz.prog.cellsOf 3))=xs[0]?:=hf 0 _ rfl
   have e1:DataW.trod enc Tryz.prog W b (fun _=>true) held n 67 (([c0,c1].drop 1).take (Tryz.prog.cellsOf 67))=xs[1]?:=hf 1 _ rfl
   rw[ci1] at e0
   rw[cs67] at e1
   match xs,hlen with
   | [y0,y1],_=>
     obtain⟨ch,rfl,_⟩:=zcg Tryz.underlying3 (show DataW.trod enc Tryz.prog W b (fun _=>true) held n 3 [c0]=some y0 from e0)
     obtain⟨ms,hv⟩:=zdc (e:=eMsg) Tryz.underlying67 cM1 (by omega) (fun _=>rfl) (fun _ _ _ h=>msg_el h) (show DataW.trod enc Tryz.prog W b (fun _=>true) held n 67 [c1]=some y1 from e1)
     exact⟨⟨ch,ms⟩,by simp only[List.map_cons,List.map_nil,ziO];exact LRel.cons (.int _ _) (LRel1 hv)⟩
theorem wt_el {fuel:Nat} {cs:List Value} {x:DataW H×List MemPlace} (h:DataW.trod enc Tryz.prog W b (fun _=>true) held fuel 75 cs=some x): ∃a:Wt,LRel (impW W) (eWt a) (cs.map (impV W)):=by
 obtain⟨xs,n,_,_,hl,hlen,hf⟩:=DataW.trod_struct Tryz.underlying75 h
 rw[cW4] at hl
 match cs,hl with
 | [c0,c1,c2,c3],_=>
   have e0:DataW.trod enc Tryz.prog W b (fun _=>true) held n 3 (([c0,c1,c2,c3].drop 0).take (Tryz.prog.cellsOf 3))=xs[0]?:=hf 0 _ rfl
   have e1:DataW.trod enc Tryz.prog W b (fun _=>true) held n 73 (([c0,c1,c2,c3].drop 1).take (Tryz.prog.cellsOf 73))=xs[1]?:=hf 1 _ rfl
   rw[ci1] at e0
   rw[cW3] at e1
   match xs,hlen with
   | [y0,y1],_=>
     obtain⟨a,rfl,_⟩:=zcg Tryz.underlying3 (show DataW.trod enc Tryz.prog W b (fun _=>true) held n 3 [c0]=some y0 from e0)
     obtain⟨xs,n,_,_,hl,hlen,hf⟩:=DataW.trod_struct Tryz.underlying73 (show DataW.trod enc Tryz.prog W b (fun _=>true) held n 73 [c1,c2,c3]=some y1 from e1)
     have e1:DataW.trod enc Tryz.prog W b (fun _=>true) held n 3 (([c1,c2,c3].drop 0).take (Tryz.prog.cellsOf 3))=xs[0]?:=hf 0 _ rfl
     have e2:DataW.trod enc Tryz.prog W b (fun _=>true) held n 3 (([c1,c2,c3].drop 1).take (Tryz.prog.cellsOf 3))=xs[1]?:=hf 1 _ rfl
     have e3:DataW.trod enc Tryz.prog W b (fun _=>true) held n 36 (([c1,c2,c3].drop 2).take (Tryz.prog.cellsOf 36))=xs[2]?:=hf 2 _ rfl
     rw[ci1] at e1 e2
     rw[cs1] at e3
     match xs,hlen with
     | [z0,z1,z2],_=>
       obtain⟨p,rfl,_⟩:=zcg Tryz.underlying3 (show DataW.trod enc Tryz.prog W b (fun _=>true) held n 3 [c1]=some z0 from e1)
       obtain⟨q,rfl,_⟩:=zcg Tryz.underlying3 (show DataW.trod enc Tryz.prog W b (fun _=>true) held n 3 [c2]=some z1 from e2)
       obtain⟨vs,hv⟩:=svs_el (show DataW.trod enc Tryz.prog W b (fun _=>true) held n 36 [c3]=some z2 from e3)
       exact⟨⟨a,p,q,vs⟩,by simp only[List.map_cons,List.map_nil,ziO];exact LRel.cons (.int _ _) (LRel.cons (.int _ _) (LRel.cons (.int _ _) (LRel1 hv)))⟩
theorem parcel_in (hval:Value.okWide Tryz.prog W r base 26 v) (hd:DataW.Trod enc Tryz.prog W b (fun _=>true) held 26 v d ps):okArg W v=true∧ ∃g:Pc,VRel (impW W) (.agg (ePc g)) v:=by
 unfold Value.okWide at hval
 rw[Tryz.underlying26] at hval
 obtain⟨cs,rfl,hsz,ts,hts,_,hcell⟩:=hval
 obtain⟨fuel,hd⟩:=hd
 have hcs:(Value.agg cs).cells.toList=cs.toList:=rfl
 rw[hcs] at hd
 obtain⟨xs,n,_,_,hl,hlen,hf⟩:=DataW.trod_struct Tryz.underlying26 hd
 have h3:Tryz.prog.cellsOf 26=3:=by kernel_rfl
 have hty:Tryz.prog.cellTypes Tryz.prog.depth 26=some [22,23,24]:=by kernel_rfl
 rw[hty] at hts
 cases hts
 rw[h3] at hl
 obtain⟨c0,c1,c2,hc⟩: ∃c0 c1 c2,cs.toList=[c0,c1,c2]:=by
  match cs.toList,hl with
  | [c0,c1,c2],_=>exact⟨c0,c1,c2,rfl⟩
 rw[hc] at hf
 have e0:DataW.trod enc Tryz.prog W b (fun _=>true) held n 22 (([c0,c1,c2].drop 0).take (Tryz.prog.cellsOf 22))=xs[0]?:=hf 0 _ rfl
 have e1:DataW.trod enc Tryz.prog W b (fun _=>true) held n 23 (([c0,c1,c2].drop 1).take (Tryz.prog.cellsOf 23))=xs[1]?:=hf 1 _ rfl
 have e2:DataW.trod enc Tryz.prog W b (fun _=>true) held n 24 (([c0,c1,c2].drop 2).take (Tryz.prog.cellsOf 24))=xs[2]?:=hf 2 _ rfl
 rw[cs22] at e0
 rw[cs23] at e1
 rw[cs24] at e2
 obtain⟨y0,y1,y2,rfl⟩: ∃y0 y1 y2,xs=[y0,y1,y2]:=by
  match xs,hlen with
  | [y0,y1,y2],_=>exact⟨y0,y1,y2,rfl⟩
 have hcs':cs= #[c0,c1,c2]:=by rw[←Array.toList_inj,hc]
 subst hcs'
 have e0:DataW.trod enc Tryz.prog W b (fun _=>true) held n 22 [c0]=some y0:=e0
 have e1:DataW.trod enc Tryz.prog W b (fun _=>true) held n 23 [c1]=some y1:=e1
 have e2:DataW.trod enc Tryz.prog W b (fun _=>true) held n 24 [c2]=some y2:=e2
 obtain⟨u0,hu0,hok0⟩:=hcell 0 c0 rfl
 cases hu0
 obtain⟨u1,hu1,hok1⟩:=hcell 1 c1 rfl
 cases hu1
 obtain⟨u2,hu2,hok2⟩:=hcell 2 c2 rfl
 cases hu2
 have k0:=zfo Tryz.underlying22 (ziF Tryz.underlying22 hok0) e0
 have k1:=zfo Tryz.underlying23 (ziF Tryz.underlying23 hok1) e1
 have k2:=zfo Tryz.underlying24 (ziF Tryz.underlying24 hok2) e2
 obtain⟨sp,r0⟩:=zdc (e:=eInt) Tryz.underlying22 ci1 (by omega) (fun _=>rfl) (fun _ _ _ h=>int_el h) e0
 obtain⟨qs,r1⟩:=zdc (e:=eQu) Tryz.underlying23 cQ2 (by omega) (fun _=>rfl) (fun _ _ _ h=>qu_el h) e1
 obtain⟨ws,r2⟩:=zdc (e:=eWt) Tryz.underlying24 cW4 (by omega) (fun _=>rfl) (fun _ _ _ h=>wt_el h) e2
 rw[zhP k0] at r0
 rw[zhP k1] at r1
 rw[zhP k2] at r2
 refine⟨?_,⟨sp,qs,ws⟩,?_⟩
 ·show([c0,c1,c2]:List Value).all (okV W)=true
  simp only[List.all_cons,List.all_nil,k0,k1,k2,Bool.and_true]
 ·have:=LRel.cons (w:=impW W) r0 (LRel.cons r1 (LRel1 r2))
  exact .agg this.len this.at_
end
end Go.Proofs.YtffbioplncclkaaGreat
set_option maxRecDepth 10000
set_option maxHeartbeats 2000000
namespace Go.Ideal.S
open Go Go.Ideal Q Classical
attribute [local simp] decide_eq_true decide_eq_false zU
variable {B M M':VM} {k kp:DV→VM→Prop} {n0 j:Nat}
noncomputable def zbE (x:Pc):List UInt8×Int:=if ziB x then(if 80000<(zf7 x).length then([],3) else(zf7 x,0)) else([],2)
attribute [local simp] c_P f_P r_P_1 r_P_2 r_P_3 r_P_4 r_P_5 r_P_6 r_P_7
theorem Bytes_ok (x:Pc) (hx:SzP x) (he: ∀w∈x.ws,w.env.length<100000) (hk:k (.tup [St (zbE x).1,I (zbE x).2]) M):zj F (.fn n_P [] []) [.agg (ePc x)] M k kp:=by
 unfold zbE at hk
 apply zj.back
 refine .fn h_wire_Bytes rfl (by simp[f_P]) ?_
 simp(disch:=((try simp only[zb,za,zc]);omega))
 refine fine_ok x hx ?_
 by_cases h1:ziB x
 ·rw[decide_eq_true h1]
  rw[if_pos h1] at hk
  simp(disch:=((try simp only[zb,za,zc]);omega))
  refine bytes_ok h1 he ?_
  by_cases h2:80000<(zf7 x).length
  ·rw[if_pos h2] at hk
   have h2i:(80000:Int)<(zf7 x).length:=by omega
   simp(disch:=((try simp only[zb,za,zc]);omega)) [h2i]
   exact Back.plain (by simp) (by repeat' (first|assumption|exact zp _ _|apply zq|apply zt|apply zw| ((try simp only[zb,za,zc]);omega))) hk
  ·rw[if_neg h2] at hk
   have h2i: ¬(80000:Int)<(zf7 x).length:=by omega
   simp(disch:=((try simp only[zb,za,zc]);omega)) [h2i]
   exact Back.plain (by simp) (by repeat' (first|assumption|exact zp _ _|apply zq|apply zt|apply zw| ((try simp only[zb,za,zc]);omega))) hk
 ·rw[decide_eq_false h1]
  rw[if_neg h1] at hk
  simp(disch:=((try simp only[zb,za,zc]);omega))
  exact Back.plain (by simp) (by repeat' (first|assumption|exact zp _ _|apply zq|apply zt|apply zw| ((try simp only[zb,za,zc]);omega))) hk
end Go.Ideal.S
set_option maxHeartbeats 4000000
namespace Go.Ideal.S
open Go Go.Ideal Q Classical
attribute [local simp] decide_eq_true decide_eq_false zU
variable {B M M':VM} {k kp:DV→VM→Prop} {n0 j:Nat}
end Go.Ideal.S
namespace Go.Ideal.S
open Go Go.Ideal Q Classical
attribute [local simp] decide_eq_true decide_eq_false zU
variable {M M':VM} {B:Base} {k kp:DV→VM→Prop} {n0 j:Nat}
end Go.Ideal.S
set_option maxHeartbeats 2000000
namespace Go.Ideal.S
open Go Go.Ideal Q Classical
attribute [local simp] decide_eq_true decide_eq_false zU
variable {M M':VM} {k kp:DV→VM→Prop} {n0 j:Nat}
end Go.Ideal.S
namespace Go.Ideal.S
open Go Go.Ideal Q Classical
attribute [local simp] decide_eq_true decide_eq_false zU
variable {M M':VM} {k kp:DV→VM→Prop} {n0 j:Nat}
end Go.Ideal.S
namespace Go.Ideal.S
open Go Go.Ideal Q Classical
attribute [local simp] decide_eq_true decide_eq_false zU
variable {M M':VM} {k kp:DV→VM→Prop} {n0 j:Nat}
attribute [local simp] c_g f_g r_g_1 r_g_2 r_g_3 r_g_4 r_g_5 r_g_6 r_g_7 r_g_8 r_g_9 r_g_10 r_g_11 r_g_12 r_g_14 r_g_16 r_g_17 r_g_18 r_g_19 r_g_20 r_g_22
theorem large_ok (x:Pc) (hk: ∀b:Bool,(b=false→SzP x∧ ∀w∈x.ws,w.env.length<100000)→k (.bool b) M):zj F (.fn n_g [] []) [.agg (ePc x)] M k kp:=by
 have yes:=hk true nofun
 apply zj.back
 refine .fn zfx rfl (by simp[f_g]) ?_
 simp(disch:=((try simp only[zb,za,zc]);omega))
 obtain⟨Y,hY⟩: ∃Y,Y=M.new (.rows false 3 [ePc x]):=⟨_,rfl⟩
 have yo:Y.obj M.next=some (.rows false 3 [ePc x]):=by rw[hY];simp
 have ys:SM M.next M Y:=by rw[hY];exact zt (zp _ _) (Nat.le_refl _)
 rw[←hY]
 by_cases h1:x.sp.length≤70
 ·have h1i: ¬(70:Int)<x.sp.length:=by omega
  by_cases h2:x.qs.length≤70
  ·have h2i: ¬(70:Int)<x.qs.length:=by omega
   by_cases h3:x.ws.length≤70
   ·have h3i: ¬(70:Int)<x.ws.length:=by omega
    simp(disch:=((try simp only[zb,za,zc]);omega)) [yo,ePc,h1i,h2i,h3i]
    refine .for (σ:=Unit) c_g_15.eq_1 (fun i _=>[(3,I i)]) (fun _=>Y) (fun i _=> ∀q∈x.qs.take i,q.ms.length<1000000∧ ∀m∈q.ms,m.length<1000000) x.qs.length () (by simp) rfl (by simp) (fun i _ hi hP again=> ?_) (fun _ hP=> ?_)
    ·rw[List.take_succ_eq_append_getElem hi] at again
     generalize hx:x.qs[i]=q at*
     by_cases h4:q.ms.length≤20
     ·have h4i: ¬(20:Int)<q.ms.length:=by omega
      simp(disch:=((try simp only[zb,za,zc]);omega)) [yo,ePc,hi,hx,eQu,h4i]
      refine .for (σ:=Unit) c_g_13.eq_1 (fun a _=>[(4,I a)]) (fun _=>Y) (fun a _=> ∀m∈q.ms.take a,m.length<1000000) q.ms.length () (by simp) rfl (by simp) (fun a _ ha hP2 again2=> ?_) (fun _ hP2=> ?_)
      ·rw[List.take_succ_eq_append_getElem ha] at again2
       generalize hm:q.ms[a]=m at*
       simp(disch:=((try simp only[zb,za,zc]);omega)) [yo,ePc,hi,hx,eQu,ha,hm,eMsg]
       refine many_ok m ?_
       by_cases h5:1000<m.length
       ·rw[decide_eq_true h5]
        clear again again2
        simp(disch:=((try simp only[zb,za,zc]);omega))
        exact Back.plain (by simp) ys yes
       ·rw[decide_eq_false h5]
        have again2:=again2 () (fun u hu=>by
         rcases List.mem_append.1 hu with hu|hu
         ·exact hP2 u hu
         ·rw[List.mem_singleton.1 hu];omega)
        simp at again2
        simp(disch:=((try simp only[zb,za,zc]);omega))
        exact again2
      ·rw[List.take_length] at hP2
       have again:=again () (fun u hu=>by
        rcases List.mem_append.1 hu with hu|hu
        ·exact hP u hu
        ·rw[List.mem_singleton.1 hu];exact⟨by omega,hP2⟩)
       simp at again
       simp(disch:=((try simp only[zb,za,zc]);omega)) [yo,ePc,hi,hx,eQu]
       exact again
     ·have h4i:(20:Int)<q.ms.length:=by omega
      clear again
      simp(disch:=((try simp only[zb,za,zc]);omega)) [yo,ePc,hi,hx,eQu,h4i]
      exact Back.plain (by simp) ys yes
    ·rw[List.take_length] at hP
     simp(disch:=((try simp only[zb,za,zc]);omega)) [yo,ePc]
     refine .for (σ:=Unit) c_g_21.eq_1 (fun i _=>[(5,I i)]) (fun _=>Y) (fun i _=> ∀w∈x.ws.take i,w.env.length<100000) x.ws.length () (by simp) rfl (by simp) (fun i _ hi hP2 again=> ?_) (fun _ hP2=> ?_)
     ·rw[List.take_succ_eq_append_getElem hi] at again
      generalize hx:x.ws[i]=w at*
      simp(disch:=((try simp only[zb,za,zc]);omega)) [yo,ePc,hi,hx,eWt]
      refine many_ok w.env ?_
      by_cases h5:1000<w.env.length
      ·rw[decide_eq_true h5]
       clear again
       simp(disch:=((try simp only[zb,za,zc]);omega))
       exact Back.plain (by simp) ys yes
      ·rw[decide_eq_false h5]
       have again:=again () (fun u hu=>by
        rcases List.mem_append.1 hu with hu|hu
        ·exact hP2 u hu
        ·rw[List.mem_singleton.1 hu];omega)
       simp at again
       simp(disch:=((try simp only[zb,za,zc]);omega))
       exact again
     ·rw[List.take_length] at hP2
      have no:=hk false fun _=>⟨⟨by omega,by omega,by omega,hP,fun w hw=>by have:=hP2 w hw;omega⟩,hP2⟩
      simp(disch:=((try simp only[zb,za,zc]);omega)) [yo,ePc]
      exact Back.plain (by simp) ys no
   ·have h3i:(70:Int)<x.ws.length:=by omega
    simp(disch:=((try simp only[zb,za,zc]);omega)) [yo,ePc,h1i,h2i,h3i]
    exact Back.plain (by simp) ys yes
  ·have h2i:(70:Int)<x.qs.length:=by omega
   simp(disch:=((try simp only[zb,za,zc]);omega)) [yo,ePc,h1i,h2i]
   exact Back.plain (by simp) ys yes
 ·have h1i:(70:Int)<x.sp.length:=by omega
  simp(disch:=((try simp only[zb,za,zc]);omega)) [yo,ePc,h1i]
  exact Back.plain (by simp) ys yes
end Go.Ideal.S
namespace Go.Ideal.S
open Go Go.Ideal Q Classical
attribute [local simp] decide_eq_true decide_eq_false zU
variable {M y y':VM} {B:Base} {k kp:DV→VM→Prop} {n0 j X0 N0:Nat} {b:List UInt8} {t:List Sv} {dn d1 d2 d3 d':DV} {S S':Option (List UInt8)} {sp:List Int} {qs:List Qu} {ws:List Wt}
end Go.Ideal.S
set_option maxHeartbeats 4000000
namespace Go.Ideal.S
open Go Go.Ideal Q Classical
attribute [local simp] decide_eq_true decide_eq_false zU
variable {M:VM} {k kp:DV→VM→Prop} {n0:Nat}
end Go.Ideal.S
set_option maxHeartbeats 2000000
namespace Go.Ideal.S
open Go Go.Ideal Q Classical
attribute [local simp] decide_eq_true decide_eq_false zU
variable {M:VM} {k kp:DV→VM→Prop} {n0:Nat}
end Go.Ideal.S
namespace Go.Ideal.S
open Go Go.Ideal Q Classical
attribute [local simp] decide_eq_true decide_eq_false zU
variable {M:VM} {k kp:DV→VM→Prop} {n0:Nat}
theorem parcelR_sz (b:List UInt8):SzP (zbJ b).1:=by
 have h0:SzP ⟨[],[],[]⟩:=⟨by decide,by decide,by decide,nofun,nofun⟩
 unfold zbJ
 split
 ·exact h0
 ·split
  ·rename_i x hx
   split
   ·exact(pc_sz hx (by omega)).1
   ·exact h0
  ·exact h0
end Go.Ideal.S
namespace Go.Ideal.S
open Go Go.Ideal
theorem zjC {n:Nat} (h:n<256):(UInt8.ofNat n).toNat=n:=by
 rw[UInt8.toNat_ofNat'];exact Nat.mod_eq_of_lt h
theorem getA_num: ∀(f u a n:Nat) (l:List UInt8),n<128^(f+1)→getA (f+1) u a (numB n++l)=some (a+n*u,l)
 |f,u,a,n,l,h=>by
  rw[numB]
  by_cases hn:n<128
  ·rw[if_pos hn]
   show(if(UInt8.ofNat n).toNat<128 then some (a+(UInt8.ofNat n).toNat*u,l) else _)=_
   rw[zjC (by omega),if_pos hn]
  ·rw[if_neg hn]
   show(if(UInt8.ofNat (n%128+128)).toNat<128 then _ else getA f (u*128) (a+(UInt8.ofNat (n%128+128)).toNat%128*u) (numB (n / 128)++l))=_
   rw[zjC (by omega),if_neg (by omega)]
   match f,h with
   |0,h=>simp at h;omega
   |f+1,h=>
    rw[getA_num f _ _ _ l (by rw[Nat.div_lt_iff_lt_mul (by omega)];rw[Nat.pow_succ] at h;exact h)]
    have e1:(n%128+128)%128=n%128:=by omega
    rw[e1]
    have e2:n / 128*(u*128)=n / 128*128*u:=by rw[Nat.mul_comm u,Nat.mul_assoc]
    rw[e2,Nat.add_assoc,←Nat.add_mul,show n%128+n / 128*128=n by omega]
theorem zdQ {n:Nat} (l:List UInt8) (h:n<34359738368):getN (numB n++l)=some (n,l):=by
 unfold getN
 rw[getA_num 4 1 0 n l h];simp
theorem ziJ: ∀(l:List Nat),l.length≤(zP l).length
 | []=>Nat.le_refl _
 |n::l=>by
  have:=ziJ l
  have:=numB_pos n
  rw[zbh,List.length_append,List.length_cons];omega
theorem manyN_num {n:Nat} (l:List UInt8) (h:n≤l.length) (hl:n<34359738368):zeO (numB n++l)=some (n,l):=by
 unfold zeO
 rw[zdQ l hl,Option.bind_some,if_pos h]
structure Wr {α:Type} (f:List Sv→List UInt8→Option (α×List UInt8)) (x:α) (w w':WS) (m:Nat):Prop where
 tb: ∃tt,w'.t=w.t++tt
 bd: ∃new,w'.b=w.b++new∧m≤new.length∧ ∀T l,(∃tt,T=w'.t++tt)→T.length<1000000→f T (zP new++l)=some (x,l)
theorem Wr.num (w:WS) {n:Nat} (h:n<34359738368):Wr (fun _=>getN) n w (w.num n) 1:=
 ⟨⟨[],by simp[WS.num]⟩,⟨[n],rfl,Nat.le_refl _,fun T l _ _=>by rw[zbh,zcN,List.append_nil];exact zdQ l h⟩⟩
theorem ment_idx (w:WS) (v:Sv):(w.ment v).t[w.t.idxOf v]? =some v∧ ∃tt,(w.ment v).t=w.t++tt:=by
 unfold WS.ment
 by_cases h:v∈w.t
 ·rw[if_pos h]
  have hi:=List.idxOf_lt_length_of_mem h
  exact⟨by rw[List.getElem?_eq_getElem hi,List.getElem_idxOf hi],[],by simp⟩
 ·rw[if_neg h]
  have hi:w.t.idxOf v=w.t.length:=List.idxOf_eq_length h
  exact⟨by rw[hi];simp,[v],rfl⟩
theorem tab_idx {T t:List Sv} {i:Nat} {v:Sv} (h:t[i]? =some v) (hT: ∃tt,T=t++tt):T[i]? =some v∧i<T.length:=by
 obtain⟨tt,rfl⟩:=hT
 have hi:=(List.getElem?_eq_some_iff.1 h).1
 exact⟨by rw[List.getElem?_append_left hi];exact h,by rw[List.length_append];omega⟩
theorem Wr.ref (w:WS) (v:Sv):Wr (fun T=>zcA T v.k) v.n w (w.ref v) 1:=by
 obtain⟨h1,h2⟩:=ment_idx w v
 refine⟨h2,⟨[w.t.idxOf v],?_,Nat.le_refl _,fun T l hT hl=> ?_⟩⟩
 ·unfold WS.ref WS.num WS.ment
  split<;>rfl
 ·obtain⟨i1,i2⟩:=tab_idx h1 hT
  rw[zbh,zcN,List.append_nil]
  unfold zcA
  rw[zdQ l (by omega),Option.bind_some,i1,Option.bind_some,if_pos rfl]
theorem Wr.val (w:WS) {v:Sv} (hv:ValV v):Wr valN v w (w.val v) 1:=by
 unfold WS.val
 by_cases hk:v.k≠1
 ·rw[if_pos hk]
  obtain⟨h1,h2⟩:=ment_idx w v
  refine⟨h2,⟨[2*w.t.idxOf v+1],?_,Nat.le_refl _,fun T l hT hl=> ?_⟩⟩
  ·unfold WS.num WS.ment
   split<;>rfl
  ·obtain⟨i1,i2⟩:=tab_idx h1 hT
   rw[zbh,zcN,List.append_nil]
   unfold valN
   rw[zdQ l (by omega),Option.bind_some,if_pos (show(2*w.t.idxOf v+1)%2=1 by omega)]
   show(T[(2*w.t.idxOf v+1) / 2]?).map _=_
   rw[show(2*w.t.idxOf v+1) / 2=w.t.idxOf v by omega,i1];rfl
 ·rw[if_neg hk]
  have hk:v.k=1:=by omega
  have hr: -1000000000≤v.n∧v.n≤1000000000:=by
   rcases hv with(h|h|h)|h<;>omega
  by_cases h0:0≤v.n
  ·rw[if_pos h0]
   refine⟨⟨[],by simp[WS.num]⟩,⟨[_],rfl,Nat.le_refl _,fun T l _ _=> ?_⟩⟩
   rw[zbh,zcN,List.append_nil]
   unfold valN
   rw[zdQ l (by omega),Option.bind_some,if_neg (show¬4*v.n.toNat%2=1 by omega),if_pos (show 4*v.n.toNat%4=0 by omega)]
   show some ((⟨1,((4*v.n.toNat / 4:Nat):Int)⟩:Sv),l)=_
   rw[show((4*v.n.toNat / 4:Nat):Int)=v.n by omega,←hk]
  ·rw[if_neg h0]
   refine⟨⟨[],by simp[WS.num]⟩,⟨[_],rfl,Nat.le_refl _,fun T l _ _=> ?_⟩⟩
   rw[zbh,zcN,List.append_nil]
   unfold valN
   rw[zdQ l (by omega),Option.bind_some,if_neg (show¬(4*(-v.n - 1).toNat+2)%2=1 by omega),if_neg (show¬(4*(-v.n - 1).toNat+2)%4=0 by omega)]
   show some ((⟨1,-(((4*(-v.n - 1).toNat+2) / 4:Nat):Int) - 1⟩:Sv),l)=_
   rw[show -(((4*(-v.n - 1).toNat+2) / 4:Nat):Int) - 1=v.n by omega,←hk]
theorem app2 {α:Type} {a b c:List α} (h1: ∃t,b=a++t) (h2: ∃t,c=b++t): ∃t,c=a++t:=by
 obtain⟨t,rfl⟩:=h1
 obtain⟨u,rfl⟩:=h2
 exact⟨t++u,by rw[List.append_assoc]⟩
theorem Wr.bind {α β γ:Type} {f:List Sv→List UInt8→Option (α×List UInt8)} {g:List Sv→List UInt8→Option (β×List UInt8)} {x:α} {y:β} {w w1 w2:WS} {m m2:Nat} (c:α→β→γ) (h1:Wr f x w w1 m) (h2:Wr g y w1 w2 m2):
 Wr (fun T l=>(f T l).bind fun a=>(g T a.2).map fun b=>(c a.1 b.1,b.2)) (c x y) w w2 (m+m2):=by
 obtain⟨t1,n1,e1,l1,r1⟩:=h1
 obtain⟨t2,n2,e2,l2,r2⟩:=h2
 refine⟨app2 t1 t2,⟨n1++n2,by rw[e2,e1,List.append_assoc],by rw[List.length_append];omega,fun T l hT hl=> ?_⟩⟩
 rw[zca,List.append_assoc,r1 T _ (app2 t2 hT) hl,Option.bind_some]
 dsimp only
 rw[r2 T _ hT hl];rfl
theorem Wr.rep {α:Type} {f:List Sv→List UInt8→Option (α×List UInt8)} {g:WS→α→WS}: ∀(L:List α) (w:WS),(∀w,∀x∈L,Wr f x w (g w x) 1)→(∃tt,(L.foldl g w).t=w.t++tt)∧ ∃new,(L.foldl g w).b=w.b++new∧L.length≤new.length∧ ∀T l acc,(∃tt,T=(L.foldl g w).t++tt)→T.length<1000000→repN (f T) L.length acc (zP new++l)=some (acc++L,l)
 | [],w,_=>⟨⟨[],by simp⟩,[],by simp,Nat.le_refl _,fun T l acc _ _=>by simp[repN,zcN]⟩
 |x::L,w,h=>by
  obtain⟨t1,n1,e1,l1,r1⟩:=h w x (List.mem_cons_self ..)
  obtain⟨t2,n2,e2,l2,r2⟩:=Wr.rep L (g w x) fun w y hy=>h w y (List.mem_cons_of_mem _ hy)
  refine⟨app2 t1 t2,n1++n2,by rw[List.foldl_cons,e2,e1,List.append_assoc],by rw[List.length_append,List.length_cons];omega,fun T l acc hT hl=> ?_⟩
  rw[List.foldl_cons] at hT
  rw[zca,List.append_assoc,List.length_cons,zcM (r1 T _ (app2 t2 hT) hl),r2 T l _ hT hl,List.append_assoc];rfl
theorem Wr.list {α:Type} {f:List Sv→List UInt8→Option (α×List UInt8)} {g:WS→α→WS} (L:List α) (w:WS) (hL:L.length<34359738368) (h: ∀w,∀x∈L,Wr f x w (g w x) 1):Wr (fun T=>zbO (f T)) L w (L.foldl g (w.num L.length)) 1:=by
 obtain⟨t2,n2,e2,l2,r2⟩:=Wr.rep L (w.num L.length) h
 refine⟨t2,⟨L.length::n2,by rw[e2];simp[WS.num],by simp,fun T l hT hl=> ?_⟩⟩
 unfold zbO
 have:=ziJ n2
 rw[zbh,List.append_assoc,manyN_num _ (by rw[List.length_append];omega) hL,Option.bind_some]
 exact r2 T l [] hT hl
theorem Wr.mono {α:Type} {f:List Sv→List UInt8→Option (α×List UInt8)} {x:α} {w w':WS} {m m':Nat} (h:Wr f x w w' m) (hm:m'≤m):Wr f x w w' m':=by
 obtain⟨t1,n1,e1,l1,r1⟩:=h
 exact⟨t1,n1,e1,by omega,r1⟩
theorem Wr.vals (w:WS) {l:List Sv} (hl:l.length<34359738368) (hv: ∀v∈l,ValV v):Wr zcx l w (w.vals l) 1:=Wr.list (f:=valN) (g:=WS.val) l w hl fun w x hx=>.val w (hv x hx)
theorem Wr.que (w:WS) {q:Qu} (h:QueV q):Wr queN q w (encQ w q) 1:=by
 obtain⟨h1,h2,h3⟩:=h
 have a:=Wr.ref w (chn q.ch)
 have b:=Wr.list (f:=zcx) (g:=WS.vals) q.ms (w.ref (chn q.ch)) (by omega) fun w m hm=>.vals w (by have:=(h3 m hm).1;omega) (h3 m hm).2
 exact(a.bind Qu.mk b).mono (by omega)
theorem Wr.wt (w:WS) {y:Wt} {sp:List Int} {last:Int} (h:WaitV sp last y) (hl: -1≤last) (he:y.env.length<34359738368):Wr zev y w (encW w y) 1:=by
 obtain⟨⟨h1,h1'⟩,h2,h3,h4⟩:=h
 have a:=Wr.num w (n:=y.nth.toNat) (by omega)
 have b:=Wr.ref (w.num y.nth.toNat) (plc y.pl)
 have c:=Wr.num ((w.num y.nth.toNat).ref (plc y.pl)) (n:=y.nd.toNat) (by omega)
 have d:=Wr.vals (((w.num y.nth.toNat).ref (plc y.pl)).num y.nd.toNat) he h4
 obtain⟨t1,n1,e1,l1,r1⟩:=a
 obtain⟨t2,n2,e2,l2,r2⟩:=b
 obtain⟨t3,n3,e3,l3,r3⟩:=c
 obtain⟨t4,n4,e4,l4,r4⟩:=d
 refine⟨app2 t1 (app2 t2 (app2 t3 t4)),⟨n1++(n2++(n3++n4)),by unfold encW;rw[e4,e3,e2,e1];simp only[List.append_assoc],by rw[List.length_append];omega,fun T l hT hl=> ?_⟩⟩
 have T3:=app2 t4 hT
 have T2:=app2 t3 T3
 have T1:=app2 t2 T2
 unfold zev
 rw[zca,zca,zca]
 simp only[List.append_assoc]
 rw[r1 T _ T1 hl,Option.bind_some]
 dsimp only
 have r2:zcA T 4 _=_:=r2 T (zP n3++(zP n4++l)) T2 hl
 rw[r2,Option.bind_some]
 dsimp only
 rw[r3 T _ T3 hl,Option.bind_some]
 dsimp only
 rw[r4 T l hT hl]
 show some ((⟨((y.nth.toNat:Nat):Int),(plc y.pl).n,((y.nd.toNat:Nat):Int),y.env⟩:Wt),l)=_
 rw[show((y.nth.toNat:Nat):Int)=y.nth by omega,show((y.nd.toNat:Nat):Int)=y.nd by omega]
 rfl
theorem rep_pairs: ∀(t:List Sv) (acc:List Sv) (l:List UInt8),(∀v∈t,zc3 v)→repN zit t.length acc (zP (t.flatMap fun v=>[v.k.toNat,v.n.toNat])++l)=some (acc++t,l)
 | [],acc,l,_=>by simp[repN,zcN]
 |v::t,acc,l,h=>by
  have hv:=h v (List.mem_cons_self ..)
  have b:0≤v.k∧v.k<5∧0≤v.n∧v.n<60:=by
   rcases hv with h|h|h<;>omega
  have e1:zit (numB v.k.toNat++(numB v.n.toNat++(zP (t.flatMap fun v=>[v.k.toNat,v.n.toNat])++l)))=some (v,zP (t.flatMap fun v=>[v.k.toNat,v.n.toNat])++l):=by
   unfold zit
   rw[zdQ _ (by omega),Option.bind_some]
   dsimp only
   rw[zdQ _ (by omega)]
   show some ((⟨((v.k.toNat:Nat):Int),((v.n.toNat:Nat):Int)⟩:Sv),_)=_
   rw[show((v.k.toNat:Nat):Int)=v.k by omega,show((v.n.toNat:Nat):Int)=v.n by omega]
  rw[List.flatMap_cons,zca,zbh,zbh,zcN]
  simp only[List.append_assoc,List.append_nil,List.length_cons]
  rw[zcM e1,rep_pairs t _ l fun v hv=>h v (List.mem_cons_of_mem _ hv)]
  simp
theorem tabN_head (t:List Sv) (l:List UInt8) (h: ∀v∈t,zc3 v) (hl:t.length<34359738368):tabN (zP (zhS t)++l)=some (t,l):=by
 unfold tabN zhS
 have hf:t.length≤(t.flatMap fun v=>[v.k.toNat,v.n.toNat]).length:=by
  rw[List.length_flatMap]
  have: ∀t:List Sv,t.length≤(t.map fun v=>([v.k.toNat,v.n.toNat]:List Nat).length).sum:=by
   intro t
   induction t with
   |nil=>exact Nat.le_refl _
   |cons v t ih=>simp only[List.map_cons,List.sum_cons,List.length_cons,List.length_nil] at ih⊢;omega
  exact this t
 have:=ziJ (t.flatMap fun v=>[v.k.toNat,v.n.toNat])
 rw[zbh,List.append_assoc,manyN_num _ (by rw[List.length_append];omega) hl,Option.bind_some]
 exact rep_pairs t [] l h
theorem seal_ok (first:UInt8) (l:List UInt8):SealOk (zf3 (first::l)) first∧(zf3 (first::l)).take ((zf3 (first::l)).length - 2)=first::l:=by
 have e:(zf3 (first::l)).length - 2=(first::l).length:=by simp[zf3,crc]
 have e2:(zf3 (first::l)).take ((zf3 (first::l)).length - 2)=first::l:=by rw[e];simp[zf3]
 refine⟨⟨by simp[zf3,crc],rfl,?_⟩,e2⟩
 rw[e2,e]
 simp[zf3]
theorem zkM (w:WS) (first:UInt8) (h: ∀v∈w.t,zc3 v) (hl:w.t.length<34359738368):zbj (w.fin first) first=some (w.t,zP w.b):=by
 unfold zbj WS.fin
 rw[List.cons_append,if_pos (seal_ok _ _).1,(seal_ok _ _).2]
 exact tabN_head _ _ h hl
theorem startN_first {b:List UInt8} {f g:UInt8} {x y:List Sv×List UInt8} (h1:zbj b f=some x) (h2:zbj b g=some y):f=g:=by
 unfold zbj at h1 h2
 split at h1
 ·rename_i a
  split at h2
  ·rename_i c
   have:=a.2.1.symm.trans c.2.1
   exact Option.some.inj this
  ·cases h2
 ·cases h1
structure Tn (w:WS):Prop where
 nm: ∀v∈w.t,zc3 v
 le:w.t.length≤w.b.length
theorem Tn.num {w:WS} (h:Tn w) (n:Nat):Tn (w.num n):=⟨h.nm,by have:=h.le;simp[WS.num];omega⟩
theorem Tn.ment {w:WS} (h:Tn w) {v:Sv} (hv:zc3 v) (n:Nat):Tn ((w.ment v).num n):=by
 have:=h.le
 unfold WS.ment
 split
 ·exact h.num n
 ·refine⟨fun x hx=> ?_,by simp[WS.num];omega⟩
  rcases List.mem_append.1 hx with hx|hx
  ·exact h.nm x hx
  ·rw[List.mem_singleton.1 hx];exact hv
theorem Tn.ref {w:WS} (h:Tn w) {v:Sv} (hv:zc3 v):Tn (w.ref v):=h.ment hv _
theorem Tn.val {w:WS} (h:Tn w) {v:Sv} (hv:ValV v):Tn (w.val v):=by
 unfold WS.val
 split
 ·rename_i hk
  refine h.ment ?_ _
  rcases hv with hv|hv
  ·exact hv
  ·exact absurd hv.1 hk
 ·split<;>exact h.num _
theorem Tn.fold {α:Type} {g:WS→α→WS}: ∀(L:List α) (w:WS),Tn w→(∀w,∀x∈L,Tn w→Tn (g w x))→Tn (L.foldl g w)
 | [],_,h,_=>h
 |x::L,w,h,hg=>Tn.fold L (g w x) (hg w x (List.mem_cons_self ..) h) fun w y hy=>hg w y (List.mem_cons_of_mem _ hy)
theorem Tn.vals {w:WS} (h:Tn w) {l:List Sv} (hv: ∀v∈l,ValV v):Tn (w.vals l):=Tn.fold l _ (h.num _) fun w x hx hw=>hw.val (hv x hx)
theorem Tn.que {w:WS} (h:Tn w) {q:Qu} (hq:QueV q):Tn (encQ w q):=Tn.fold q.ms _ ((h.ref (name_chn hq.1)).num _) fun w m hm hw=>hw.vals (hq.2.2 m hm).2
theorem lastN_ge {sp:List Int} {ws:List Wt} (h:WaitsV sp ws): ∀i,i≤ws.length→ -1≤ziv ws i
 |0,_=>by show(-1:Int)≤ -1;omega
 |i+1,hi=>by
  have a:=lastN_ge h i (by omega)
  have b:=(h i (by omega)).1.1
  have e:ziv ws (i+1)=ws[i].nth:=by
   show(match ws[i]? with|some w=>w.nth|none=>0)=_
   rw[List.getElem?_eq_getElem (by omega)]
  rw[e];omega
theorem wsP_ok {x:Pc} (hf:ziB x):Tn (wsP x):=by
 obtain⟨⟨f1,f2,f3,f4⟩,f5,f6,f7,f8,f9⟩:=hf
 have t0:Tn ⟨[],[]⟩:=⟨nofun,Nat.le_refl _⟩
 have t1:Tn (x.sp.foldl encS ((⟨[],[]⟩:WS).num x.sp.length)):=Tn.fold x.sp _ (t0.num _) fun w n hn hw=>hw.ref (ziL (f6 n hn))
 have t2:=Tn.fold (g:=encQ) x.qs _ (t1.num x.qs.length) fun w q hq hw=>hw.que (f8 q hq)
 refine Tn.fold (g:=encW) x.ws _ (t2.num _) fun w y hy hw=> ?_
 obtain⟨i,hi,rfl⟩:=List.getElem_of_mem hy
 obtain⟨h1,h2,h3,h4⟩:=f9 i hi
 exact(((hw.num _).ref (ziL (f6 _ h2))).num _).vals h4
theorem pcN_wsP {x:Pc} (hf:ziB x) (he: ∀w∈x.ws,w.env.length<34359738368) (hT:(wsP x).t.length<1000000):pcN ((wsP x).t,zP (wsP x).b)=some x:=by
 obtain⟨⟨f1,f2,f3,f4⟩,f5,f6,f7,f8,f9⟩:=hf
 have a:=Wr.list (f:=fun T=>zcA T 4) (g:=encS) x.sp ⟨[],[]⟩ (by omega) fun w n hn=>.ref w (plc n)
 have b:=Wr.list (f:=queN) (g:=encQ) x.qs (x.sp.foldl encS ((⟨[],[]⟩:WS).num x.sp.length)) (by omega) fun w q hq=>.que w (f8 q hq)
 have c:=Wr.list (f:=zev) (g:=encW) x.ws (x.qs.foldl encQ ((x.sp.foldl encS ((⟨[],[]⟩:WS).num x.sp.length)).num x.qs.length)) (by omega) fun w y hy=>by
  obtain⟨i,hi,rfl⟩:=List.getElem_of_mem hy
  exact .wt w (f9 i hi) (lastN_ge f9 i (by omega)) (he _ hy)
 have hw:wsP x=x.ws.foldl encW ((x.qs.foldl encQ ((x.sp.foldl encS ((⟨[],[]⟩:WS).num x.sp.length)).num x.qs.length)).num x.ws.length):=rfl
 rw[←hw] at c
 generalize wsP x=z at*
 obtain⟨t1,n1,e1,l1,r1⟩:=a
 obtain⟨t2,n2,e2,l2,r2⟩:=b
 obtain⟨t3,n3,e3,l3,r3⟩:=c
 have T3: ∃tt,z.t=z.t++tt:=⟨[],by simp⟩
 have T2:=app2 t3 T3
 have T1:=app2 t2 T2
 have eb:z.b=n1++(n2++n3):=by rw[e3,e2,e1];simp
 unfold pcN
 rw[eb,zca,zca]
 have r1:=r1 z.t (zP n2++zP n3) T1 hT
 have r2:=r2 z.t (zP n3) T2 hT
 have r3:=r3 z.t [] T3 hT
 rw[List.append_nil] at r3
 dsimp only at r1 r2 r3⊢
 rw[r1,Option.bind_some]
 dsimp only
 rw[r2,Option.bind_some]
 dsimp only
 rw[r3];rfl
theorem fin_len (w:WS) (first:UInt8):w.b.length≤(w.fin first).length:=by
 have:=ziJ w.b
 unfold WS.fin zf3
 simp only[List.length_append,List.length_cons];omega
theorem parcel_back {x:Pc} (hf:ziB x) (he: ∀w∈x.ws,w.env.length<34359738368) (hl:(zf7 x).length≤80000):zbJ (zf7 x)=(x,0):=by
 have tn:=wsP_ok hf
 have b1:=fin_len (wsP x) 80
 have b2:=tn.le
 have b3:(zf7 x).length=((wsP x).fin 80).length:=rfl
 have e:(zbj (zf7 x) 80).bind pcN=some x:=by
  show(zbj ((wsP x).fin 80) 80).bind pcN=_
  rw[zkM _ _ tn.nm (by omega),Option.bind_some]
  exact pcN_wsP hf he (by omega)
 unfold zbJ
 rw[if_neg (by omega),e]
 dsimp only
 rw[if_pos ⟨hf,rfl⟩]
theorem zh6 {s:List UInt8} (h:(zbJ s).2=0):s.length≤80000∧ ∃x,zbJ s=(x,0)∧ziB x∧zf7 x=s∧ ∃y,zbj s 80=some y:=by
 unfold zbJ at h⊢
 split at h
 ·exact absurd h (by decide)
 ·rename_i hl
  rw[if_neg hl]
  split at h
  ·rename_i x hx
   split at h
   ·rename_i hp
    refine⟨by omega,x,by rw[if_pos hp],hp.1,hp.2,?_⟩
    cases e:zbj s 80 with
    |none=>rw[e] at hx;cases hx
    |some y=>exact⟨y,rfl⟩
   ·exact absurd h (by decide)
  ·exact absurd h (by decide)
theorem zkY {s:List UInt8} (h:(zfa s).2=0):s.length≤80000∧ ∃x,zfa s=(x,0)∧zd2 x∧zj0 x=s∧ ∃y,zbj s 77=some y:=by
 unfold zfa at h⊢
 split at h
 ·exact absurd h (by decide)
 ·rename_i hl
  rw[if_neg hl]
  split at h
  ·rename_i x hx
   split at h
   ·rename_i hp
    refine⟨by omega,x,by rw[if_pos hp],hp.1,hp.2,?_⟩
    cases e:zbj s 77 with
    |none=>rw[e] at hx;cases hx
    |some y=>exact⟨y,rfl⟩
   ·exact absurd h (by decide)
  ·exact absurd h (by decide)
theorem not_both {s:List UInt8} (h1:(zbJ s).2=0) (h2:(zfa s).2=0):False:=by
 obtain⟨_,x,_,_,_,y,hy⟩:=zh6 h1
 obtain⟨_,x',_,_,_,y',hy'⟩:=zkY h2
 have:=startN_first hy hy'
 exact absurd this (by decide)
theorem bytes_of {s:List UInt8} (h:(zbJ s).2=0):zbE (zbJ s).1=(s,0):=by
 obtain⟨hl,x,e,hf,he,_⟩:=zh6 h
 rw[e]
 dsimp only
 unfold zbE
 rw[if_pos hf,if_neg (by rw[he];omega),he]
theorem letter_of {s:List UInt8} (h:(zfa s).2=0):zI (zfa s).1=(s,0):=by
 obtain⟨hl,x,e,hf,he,_⟩:=zkY h
 rw[e]
 dsimp only
 unfold zI
 rw[if_pos hf,he]
theorem bytesR_ok {x:Pc} (h:(zbE x).2=0):ziB x∧(zf7 x).length≤80000∧zbE x=(zf7 x,0):=by
 unfold zbE at h⊢
 split at h
 ·rename_i hf
  split at h
  ·exact absurd h (by decide)
  ·rename_i hl
   exact⟨hf,by omega,by rw[if_pos hf,if_neg hl]⟩
 ·exact absurd h (by decide)
theorem parcel_bytes {x:Pc} (he: ∀w∈x.ws,w.env.length<34359738368) (h:(zbE x).2=0):zbJ (zbE x).1=(x,0):=by
 obtain⟨h1,h2,h3⟩:=bytesR_ok h
 rw[h3];exact parcel_back h1 he h2
theorem letterR_ok {x:Lt} (h:(zI x).2=0):zd2 x∧zI x=(zj0 x,0):=by
 unfold zI at h⊢
 split at h
 ·rename_i hf;exact⟨hf,by rw[if_pos hf]⟩
 ·exact absurd h (by decide)
theorem zgr: ∀(l:List Nat),(∀n∈l,n<34359738368)→(zP l).length≤10*l.length
 | [],_=>Nat.le_refl _
 |n::l,h=>by
  have a:=zgr l fun m hm=>h m (List.mem_cons_of_mem _ hm)
  have b:=zbp n (Nat.lt_of_lt_of_le (h n (List.mem_cons_self ..)) (by decide))
  rw[zbh,List.length_append,List.length_cons];omega
theorem letter_back {x:Lt} (hp:zd2 x):zfa (zj0 x)=(x,0):=by
 obtain⟨h1,h2,h3⟩:=hp
 have t0:Tn ⟨[],[]⟩:=⟨nofun,Nat.le_refl _⟩
 have tn:Tn (((⟨[],[]⟩:WS).ref (chn x.ch)).vals x.vs):=(t0.ref (name_chn h1)).vals h3
 have a:=Wr.ref ⟨[],[]⟩ (chn x.ch)
 have b:=Wr.vals ((⟨[],[]⟩:WS).ref (chn x.ch)) (l:=x.vs) (by omega) h3
 have lb: ∀(vs:List Sv) (w:WS),(vs.foldl WS.val w).b.length=w.b.length+vs.length:=by
  intro vs
  induction vs with
  |nil=>intro w;rfl
  |cons v vs ih=>
   intro w
   rw[List.foldl_cons,ih]
   have:(w.val v).b.length=w.b.length+1:=by
    unfold WS.val WS.ment WS.num
    split
    ·split<;>simp
    ·split<;>simp
   rw[this,List.length_cons];omega
 have hb:(((⟨[],[]⟩:WS).ref (chn x.ch)).vals x.vs).b.length=2+x.vs.length:=by
  unfold WS.vals
  rw[lb]
  unfold WS.ref WS.num WS.ment
  split<;>simp
 have hlen:(zj0 x).length≤80000:=by
  have tl:=tn.le
  have hsm: ∀n∈(((⟨[],[]⟩:WS).ref (chn x.ch)).vals x.vs).b,n<34359738368:=by
   have tl':=tl
   rw[hb] at tl'
   intro n hn
   have key: ∀(vs:List Sv) (w:WS),(∀v∈vs,ValV v)→w.t.length+vs.length≤100→(∀n∈w.b,n<34359738368)→ ∀n∈(vs.foldl WS.val w).b,n<34359738368:=by
    intro vs
    induction vs with
    |nil=>intro w _ _ h;exact h
    |cons v vs ih=>
     intro w hv hw h
     rw[List.foldl_cons]
     have hv0:=hv v (List.mem_cons_self ..)
     have hr:v.k=1→ -1000000000≤v.n∧v.n≤1000000000:=fun e=>by rcases hv0 with(h|h|h)|h<;>omega
     have hix:w.t.idxOf v≤w.t.length:=List.idxOf_le_length
     simp only[List.length_cons] at hw
     refine ih _ (fun v hv'=>hv v (List.mem_cons_of_mem _ hv')) ?_ ?_
     ·have:(w.val v).t.length≤w.t.length+1:=by
       unfold WS.val WS.ment WS.num
       split
       ·split<;>simp
       ·split<;>simp
      omega
     ·have e: ∃m,(w.val v).b=w.b++[m]∧m<34359738368:=by
       unfold WS.val WS.ment WS.num
       split
       ·refine⟨2*w.t.idxOf v+1,?_,by omega⟩
        split<;>rfl
       ·rename_i hk
        have hr:=hr (by omega)
        split
        ·exact⟨_,rfl,by omega⟩
        ·exact⟨_,rfl,by omega⟩
      obtain⟨m,e,hm⟩:=e
      rw[e]
      intro n hn
      rcases List.mem_append.1 hn with hn|hn
      ·exact h n hn
      ·rw[List.mem_singleton.1 hn];exact hm
   refine key x.vs _ h3 ?_ ?_ n hn
   ·show(WS.ment ⟨[],[]⟩ (chn x.ch)).t.length+_≤100
    unfold WS.ment
    rw[if_neg (by simp)]
    simp;omega
   ·intro n hn
    have:n∈([0,x.vs.length]:List Nat):=by
     have e:(((⟨[],[]⟩:WS).ref (chn x.ch)).num x.vs.length).b=[0,x.vs.length]:=by
      unfold WS.ref WS.ment
      rw[if_neg (by simp)];rfl
     rw[←e];exact hn
    simp at this
    omega
  have s1:=zgr _ hsm
  have s2:=zgr (zhS (((⟨[],[]⟩:WS).ref (chn x.ch)).vals x.vs).t) (by
   intro n hn
   unfold zhS at hn
   rcases List.mem_cons.1 hn with rfl|hn
   ·omega
   ·obtain⟨v,hv,hn⟩:=List.mem_flatMap.1 hn
    have:=tn.nm v hv
    have b:0≤v.k∧v.k<5∧0≤v.n∧v.n<60:=by
     rcases this with h|h|h<;>omega
    simp at hn
    omega)
  have s3:(zhS (((⟨[],[]⟩:WS).ref (chn x.ch)).vals x.vs).t).length=1+2*(((⟨[],[]⟩:WS).ref (chn x.ch)).vals x.vs).t.length:=by
   unfold zhS
   rw[List.length_cons,List.length_flatMap]
   have: ∀t:List Sv,(t.map fun v=>([v.k.toNat,v.n.toNat]:List Nat).length).sum=2*t.length:=by
    intro t
    induction t with
    |nil=>rfl
    |cons v t ih=>simp only[List.map_cons,List.sum_cons,List.length_cons,List.length_nil] at ih⊢;omega
   rw[this];omega
  unfold zj0 WS.fin zf3 crc
  simp only[List.length_append,List.length_cons,List.length_nil]
  omega
 have e:(zbj (zj0 x) 77).bind ltN=some x:=by
  have tl:=tn.le
  unfold zj0
  rw[zkM _ _ tn.nm (by omega),Option.bind_some]
  obtain⟨t1,n1,e1,l1,r1⟩:=a
  obtain⟨t2,n2,e2,l2,r2⟩:=b
  have T2: ∃tt,(((⟨[],[]⟩:WS).ref (chn x.ch)).vals x.vs).t=(((⟨[],[]⟩:WS).ref (chn x.ch)).vals x.vs).t++tt:=⟨[],by simp⟩
  have r1:=r1 _ (zP n2) (app2 t2 T2) (by omega)
  have r2:=r2 _ [] T2 (by omega)
  rw[List.append_nil] at r2
  have eb:(((⟨[],[]⟩:WS).ref (chn x.ch)).vals x.vs).b=n1++n2:=by rw[e2,e1];rfl
  rw[eb,zca]
  unfold ltN
  dsimp only
  have r1:zcA _ 3 _=_:=r1
  rw[r1,Option.bind_some]
  dsimp only
  rw[r2];rfl
 unfold zfa
 rw[if_neg (by omega),e]
 dsimp only
 rw[if_pos ⟨⟨h1,h2,h3⟩,rfl⟩]
theorem letter_bytes {x:Lt} (h:(zI x).2=0):zfa (zI x).1=(x,0):=by
 obtain⟨h1,h3⟩:=letterR_ok h
 rw[h3];exact letter_back h1
end Go.Ideal.S
set_option maxHeartbeats 4000000
namespace Go.Ideal.S
open Go Go.Ideal Q Classical
attribute [local simp] decide_eq_true decide_eq_false zU
variable {M:VM} {k kp:DV→VM→Prop} {n0:Nat}
theorem parcelR_env (b:List UInt8): ∀w∈(zbJ b).1.ws,w.env.length<100000:=by
 have h0: ∀w∈(⟨[],[],[]⟩:Pc).ws,w.env.length<100000:=nofun
 unfold zbJ
 split
 ·exact h0
 ·split
  ·rename_i x hx
   split
   ·exact(pc_sz hx (by omega)).2
   ·exact h0
  ·exact h0
attribute [local simp] c_b f_b r_b_1 r_b_2 r_b_3 r_b_4 r_b_5 r_b_6 r_b_7 r_b_8 r_b_9 r_b_10 r_b_11 r_b_12 r_b_13 r_b_14 r_b_15 r_b_16 r_b_17 r_b_18 r_b_19 r_b_20 r_b_21 r_b_22 r_b_23 r_b_25
theorem one_law (x:Pc) (l:Lt) (b:List UInt8) (hk:k (.bool true) M):zj F (.fn n_b [] []) [.agg (ePc x),.agg (eLt l),St b] M k kp:=by
 have wL: ∀x:Pc,zN [.nilS,.nilS,.nilS] 0 (ePc x)=some (ePc x):=fun x=>rfl
 have wL2: ∀x:Lt,zN [I 0,.nilS] 0 (eLt x)=some (eLt x):=fun x=>rfl
 apply zj.back
 refine .fn zeU rfl (by simp[f_b]) ?_
 simp(disch:=((try simp only[zb,za,zc]);omega))
 refine large_ok x fun q hq=> ?_
 cases q with
 |true=>
  simp(disch:=((try simp only[zb,za,zc]);omega))
  refine ziE ?_
  simp(disch:=((try simp only[zb,za,zc]);omega))
  exact Back.plain (by simp) (by repeat' (first|assumption|exact zp _ _|apply zq|apply zt|apply zw| ((try simp only[zb,za,zc]);omega))) hk
 |false=>
  obtain⟨hx,he⟩:=hq rfl
  simp(disch:=((try simp only[zb,za,zc]);omega)) [eLt]
  refine many_ok l.vs ?_
  by_cases h1:1000<l.vs.length
  ·rw[decide_eq_true h1]
   simp(disch:=((try simp only[zb,za,zc]);omega))
   refine ziE ?_
   simp(disch:=((try simp only[zb,za,zc]);omega))
   exact Back.plain (by simp) (by repeat' (first|assumption|exact zp _ _|apply zq|apply zt|apply zw| ((try simp only[zb,za,zc]);omega))) hk
  ·rw[decide_eq_false h1]
   by_cases h2:90000<b.length
   ·have h2i:(90000:Int)<b.length:=by omega
    simp(disch:=((try simp only[zb,za,zc]);omega)) [h2i]
    refine ziE ?_
    simp(disch:=((try simp only[zb,za,zc]);omega))
    exact Back.plain (by simp) (by repeat' (first|assumption|exact zp _ _|apply zq|apply zt|apply zw| ((try simp only[zb,za,zc]);omega))) hk
   ·have h2i: ¬(90000:Int)<b.length:=by omega
    simp(disch:=((try simp only[zb,za,zc]);omega)) [h2i]
    refine Bytes_ok x hx he ?_
    simp(disch:=((try simp only[zb,za,zc]);omega))
    refine Letter_ok l (by omega) ?_
    simp(disch:=((try simp only[zb,za,zc]);omega))
    refine .for (σ:=VM) c_b_24.eq_1 (fun i _=>[(49,I i)]) (fun z=>z) (fun i z=>SM M.next M z∧M.next+2<z.next∧z.obj (M.next+2)=some (.rows false 1 [[St b],[St (zbE x).1],[St (zI l).1]])) 3 _ (by simp) rfl ⟨zt (zt (zt (by repeat' (first|assumption|exact zp _ _|apply zq|apply zt|apply zw| ((try simp only[zb,za,zc]);omega))) (by simp)) (by simp)) (by simp;omega),by simp,by rw[zeN,if_pos (by simp)]⟩ (fun i y hi hP again=> ?_) (fun y hP=> ?_)
    ·obtain⟨p1,p2,p3⟩:=hP
     have again: ∀z,SM M.next M z∧M.next+2<z.next∧z.obj (M.next+2)=some (.rows false 1 [[St b],[St (zbE x).1],[St (zI l).1]])→_:=fun z h=>again z h
     have agn:=again ((((y.new (.rows false 3 [[.nilS,.nilS,.nilS]])).put y.next (.rows false 3 [ePc (zbJ ([b,(zbE x).1,(zI l).1][i]'hi)).1])).new (.rows false 2 [[I 0,.nilS]])).put (y.next+1+1) (.rows false 2 [eLt (zfa ([b,(zbE x).1,(zI l).1][i]'hi)).1])) ⟨zq (zt (zq (zt p1 (by omega)) (by omega)) (by simp;omega)) (by omega),by simp;omega,by rw[zcm,if_neg (by omega),zbs _ (by simp;omega),zcm,if_neg (by omega),zbs _ (by omega)];exact p3⟩
     clear again
     have hix: ∀h,oneD (([[St b],[St (zbE x).1],[St (zI l).1]]:List (List DV))[i]'h)=some (St ([b,(zbE x).1,(zI l).1][i]'hi)):=by
      intro h
      match i,hi with
      |0,_=>rfl
      |1,_=>rfl
      |2,_=>rfl
     have e4: ∀s,s=(zbE x).1→(zbE x).2=0→(zbJ s).2=0:=fun s h1 h2=>by
      rw[h1,parcel_bytes (fun w hw=>by have:=he w hw;omega) h2]
     have e5: ∀s,s=(zI l).1→(zI l).2=0→(zfa s).2=0:=fun s h1 h2=>by rw[h1,letter_bytes h2]
     generalize ([b,(zbE x).1,(zI l).1][i]'hi)=s at*
     have e4:=e4 s
     have e5:=e5 s
     have nb:= @not_both s
     have b1:= @bytes_of s
     have b2:= @letter_of s
     have z1:=parcelR_sz s
     have z3:=openR_len s
     have z2:=parcelR_env s
     simp at agn
     simp(disch:=((try simp only[zb,za,zc]);omega)) [hi,p3,hix]
     refine Parcel_ok s ?_
     simp(disch:=((try simp only[zb,za,zc]);omega)) [wL]
     refine Open_ok s ?_
     simp(disch:=((try simp only[zb,za,zc]);omega)) [wL2]
     have c1: ∀ek,binD .eql ek (St s) (St (zbE x).1)=some (.bool (decide (s=(zbE x).1))):=fun ek=>bin_seq _ _
     have c2: ∀ek,binD .eql ek (St s) (St (zI l).1)=some (.bool (decide (s=(zI l).1))):=fun ek=>bin_seq _ _
     by_cases hg:(zbJ s).2=0
     ·have hh: ¬(zfa s).2=0:=fun h=>nb hg h
      have b1:=b1 hg
      simp(disch:=((try simp only[zb,za,zc]);omega)) [hg,hh]
      refine Bytes_ok _ z1 z2 ?_
      rw[b1]
      simp(disch:=((try simp only[zb,za,zc]);omega))
      by_cases ea:(zbE x).2=0
      ·by_cases eb:s=(zbE x).1
       ·simp only[eb,decide_true] at c1
        by_cases fa:(zI l).2=0
        ·by_cases fb:s=(zI l).1
         ·exact absurd (e5 fb fa) hh
         ·simp only[fb,decide_false] at c2
          simp(disch:=((try simp only[zb,za,zc]);omega)) [hg,hh,ea,c1,fa,c2]
          try simp only[ea,fa] at agn
          exact agn
        ·simp(disch:=((try simp only[zb,za,zc]);omega)) [hg,hh,ea,c1,fa]
         try simp only[ea,fa] at agn
         exact agn
       ·simp only[eb,decide_false] at c1
        by_cases fa:(zI l).2=0
        ·by_cases fb:s=(zI l).1
         ·exact absurd (e5 fb fa) hh
         ·simp only[fb,decide_false] at c2
          simp(disch:=((try simp only[zb,za,zc]);omega)) [hg,hh,ea,c1,fa,c2]
          try simp only[ea,fa] at agn
          exact agn
        ·simp(disch:=((try simp only[zb,za,zc]);omega)) [hg,hh,ea,c1,fa]
         try simp only[ea,fa] at agn
         exact agn
      ·have dummy:=trivial
       by_cases fa:(zI l).2=0
       ·by_cases fb:s=(zI l).1
        ·exact absurd (e5 fb fa) hh
        ·simp only[fb,decide_false] at c2
         simp(disch:=((try simp only[zb,za,zc]);omega)) [hg,hh,ea,fa,c2]
         try simp only[ea,fa] at agn
         exact agn
       ·simp(disch:=((try simp only[zb,za,zc]);omega)) [hg,hh,ea,fa]
        try simp only[ea,fa] at agn
        exact agn
     ·by_cases hh:(zfa s).2=0
      ·have b2:=b2 hh
       simp(disch:=((try simp only[zb,za,zc]);omega)) [hg,hh]
       refine Letter_ok _ (by omega) ?_
       rw[b2]
       simp(disch:=((try simp only[zb,za,zc]);omega))
       by_cases ea:(zbE x).2=0
       ·by_cases eb:s=(zbE x).1
        ·exact absurd (e4 eb ea) hg
        ·simp only[eb,decide_false] at c1
         by_cases fa:(zI l).2=0
         ·by_cases fb:s=(zI l).1
          ·simp only[fb,decide_true] at c2
           simp(disch:=((try simp only[zb,za,zc]);omega)) [hg,hh,ea,c1,fa,c2]
           try simp only[ea,fa] at agn
           exact agn
          ·simp only[fb,decide_false] at c2
           simp(disch:=((try simp only[zb,za,zc]);omega)) [hg,hh,ea,c1,fa,c2]
           try simp only[ea,fa] at agn
           exact agn
         ·simp(disch:=((try simp only[zb,za,zc]);omega)) [hg,hh,ea,c1,fa]
          try simp only[ea,fa] at agn
          exact agn
       ·have dummy:=trivial
        by_cases fa:(zI l).2=0
        ·by_cases fb:s=(zI l).1
         ·simp only[fb,decide_true] at c2
          simp(disch:=((try simp only[zb,za,zc]);omega)) [hg,hh,ea,fa,c2]
          try simp only[ea,fa] at agn
          exact agn
         ·simp only[fb,decide_false] at c2
          simp(disch:=((try simp only[zb,za,zc]);omega)) [hg,hh,ea,fa,c2]
          try simp only[ea,fa] at agn
          exact agn
        ·simp(disch:=((try simp only[zb,za,zc]);omega)) [hg,hh,ea,fa]
         try simp only[ea,fa] at agn
         exact agn
      ·simp(disch:=((try simp only[zb,za,zc]);omega)) [hg,hh]
       by_cases ea:(zbE x).2=0
       ·by_cases eb:s=(zbE x).1
        ·exact absurd (e4 eb ea) hg
        ·simp only[eb,decide_false] at c1
         by_cases fa:(zI l).2=0
         ·by_cases fb:s=(zI l).1
          ·exact absurd (e5 fb fa) hh
          ·simp only[fb,decide_false] at c2
           simp(disch:=((try simp only[zb,za,zc]);omega)) [hg,hh,ea,c1,fa,c2]
           try simp only[ea,fa] at agn
           exact agn
         ·simp(disch:=((try simp only[zb,za,zc]);omega)) [hg,hh,ea,c1,fa]
          try simp only[ea,fa] at agn
          exact agn
       ·have dummy:=trivial
        by_cases fa:(zI l).2=0
        ·by_cases fb:s=(zI l).1
         ·exact absurd (e5 fb fa) hh
         ·simp only[fb,decide_false] at c2
          simp(disch:=((try simp only[zb,za,zc]);omega)) [hg,hh,ea,fa,c2]
          try simp only[ea,fa] at agn
          exact agn
        ·simp(disch:=((try simp only[zb,za,zc]);omega)) [hg,hh,ea,fa]
         try simp only[ea,fa] at agn
         exact agn
    ·obtain⟨p1,p2,p3⟩:=hP
     simp(disch:=((try simp only[zb,za,zc]);omega))
     refine ziE ?_
     simp(disch:=((try simp only[zb,za,zc]);omega))
     exact Back.plain (by simp) p1 hk
end Go.Ideal.S
set_option maxRecDepth 100000
namespace Go.Proofs.YtffbioplncclkaaGreat
open Go.ChangeShapes Go.WideShapes Go.RowKit Go.Ideal Go.Ideal.S
theorem law_lifted (os:Os) (started:os.Started) (H:Type) (enc:TypeId×Value→H):
 ReturnsInHanded {} Tryz.checked os 6 .any (Rows.wireOneSpec.pre6 enc Tryz.prog Tryz.f6 Rows.wireOneRow.domain false) (Rows.wireOneSpec.post enc Tryz.prog Tryz.f6 false true false false):=by
 refine returnsInHanded_of_change (C:=Tryz.checked) own started (by kernel_rfl) Tryz.func6
  (ChangeSpec.witness6 (enc:=enc) (C:=Tryz.checked) false ⟨#[],#[.agg #[.slice none 0 0,.slice none 0 0,.slice none 0 0],.agg #[.int .i64 0,.slice none 0 0],.string ⟨#[]⟩],[]⟩ 8 (by kernel_rfl) (by kernel_rfl) (by kernel_rfl) (by kernel_rfl)) ?_
 intro W base args ds gs before hval0 hW hcnd _
 have hval: ∀(j:Nat) t v,Tryz.f6.params[j]? =some t→args[j]? =some v→Value.okWide Tryz.prog W .any base t v:=hval0
 have hW':=hW
 obtain⟨p,q,hA0,hV0,rfl,hfz,hnd⟩:=hW
 have hA:DataW.TrodAll enc Tryz.prog W 0 (fun _=>true) true Tryz.f6.params.toList args.toList ds p:=hA0
 rw[Tryz.params6] at hA hval
 obtain⟨v0,vs0,d0,ds0,q0,qs0,e0,rfl,rfl,h0,hr0⟩:=trodAll_cons hA
 obtain⟨v1,vs1,d1,ds1,q1,qs1,e1,rfl,rfl,h1,hr1⟩:=trodAll_cons hr0
 obtain⟨v2,vs2,d2,ds2,q2,qs2,e2,rfl,rfl,h2,hr2⟩:=trodAll_cons hr1
 obtain⟨e3,rfl,rfl⟩:=trodAll_nil hr2
 obtain rfl:args= #[v0,v1,v2]:=by rw[←Array.toArray_toList (xs:=args),e0,e1,e2,e3]
 obtain⟨o0,x0,r0⟩:=parcel_in (hval 0 26 v0 rfl rfl) h0
 obtain⟨o1,x1,r1⟩:=letter_in (hval 1 38 v1 rfl rfl) h1
 obtain⟨x2,rfl⟩:=str_in (hval 2 9 v2 rfl rfl)
 obtain⟨rfl,rfl⟩:=trodVars_none hV0
 refine(v_calls Go.Ideal.X.hmix Go.Ideal.Y.okF (one_law x0 x1 x2 rfl) (fun v hv=>by
  simp only[List.mem_cons,List.not_mem_nil,or_false] at hv
  rcases hv with rfl|rfl|rfl
  ·exact o0
  ·exact o1
  ·rfl) (LRel.cons r0 (LRel.cons r1 (LRel1 (.str _))))).mono fun e W' ⟨he,hs⟩=>⟨_,he,?_⟩
 exact law_post hW' rfl rfl (t:=4) (by kernel_rfl) Tryz.underlying4 hs laidOut (fun t ht=>by
  rw[Tryz.params6] at ht
  simp only[List.mem_cons,List.not_mem_nil,or_false] at ht
  rcases ht with rfl|rfl|rfl<;>exact⟨by kernel_rfl,of_decide_eq_true (by kernel_rfl)⟩)
theorem one_holds:Rows.WireOneSaid:=
 OpenClaim.holds_of_wide 6 Tryz.f6 rfl rfl rfl rfl rfl rfl rfl ⟨rfl,rfl,rfl,rfl,rfl⟩ rfl rfl rfl rfl rfl (by kernel_rfl) Tryz.func6 (by kernel_rfl)
  (of_decide_eq_true (by kernel_rfl)) (by unfold Func.isWrapper;first| (rw[if_pos (by decide+kernel)];kernel_rfl)| (rw[if_neg (by decide+kernel)];exact⟨rfl,rfl⟩))
  (fun os started H enc _=>law_lifted os started H enc)
end Go.Proofs.YtffbioplncclkaaGreat
