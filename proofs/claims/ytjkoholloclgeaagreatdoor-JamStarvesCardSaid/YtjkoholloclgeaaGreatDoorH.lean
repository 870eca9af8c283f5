/- JamStarves: a run that takes one action never as long as another one is open starves it only if a ring is found, at any graph, action and number of steps. No condition but the given one, on what the listed variables hold; none of them is read. -/
import Derived.ProofKit
import Derived.JoinedOf
import Derived.Test.YtjkoholloclgeaaGreatDoorCards
import Derived.Test.YtjkoholloclgeaaGreatDoorTie
import Derived.OpenShut
import Derived.LaidMore
import Derived.Lay
import Derived.ChangeVars
import Derived.LaidLaws
import Derived.LaidHandle
import Derived.Stop.Joined
import Derived.SevenTiedAt
import Derived.RowKitTokens
import Derived.Test.YtjkoholloclgeaaGreatDoorG
set_option linter.unusedSimpArgs false
set_option linter.unusedVariables false
set_option linter.unusedSectionVars false
namespace Go.Ideal
open Go.ChangeShapes Go.WideShapes Go.RowKit
noncomputable section
variable {P:Program} {W:World}
theorem cell_heap {b o:Nat} {v:Value} (h:W.cell? ⟨b,o,none⟩=some v): ∃c t fr,W.heap[b]? =some (.cells c t fr)∧c[o]? =some v:=by
 unfold World.cell? at h
 dsimp only at h
 split at h
 ·rename_i c t fr hb
  exact⟨c,t,fr,hb,by simpa using h⟩
 ·cases h
theorem add_none {b o n:Nat}:(⟨b,o,none⟩:Addr).add n=⟨b,o+n,none⟩:=by
 unfold Addr.add
 split
 ·rename_i e;subst e;rfl
 ·rfl
theorem list_of {α:Type} {Q:Nat→α→Prop}: ∀n,(∀i,i<n→ ∃x,Q i x)→ ∃l:List α,l.length=n∧ ∀i x,l[i]? =some x→Q i x
 |0,_=>⟨[],rfl,fun i x h=>by simp at h⟩
 |n+1,h=>by
  obtain⟨l,hl,hq⟩:=list_of n fun i hi=>h i (by omega)
  obtain⟨x,hx⟩:=h n (by omega)
  refine⟨l++[x],by simp[hl],fun i y hy=> ?_⟩
  by_cases e:i<n
  ·rw[List.getElem?_append_left (by omega)] at hy;exact hq i y hy
  ·rw[List.getElem?_append_right (by omega)] at hy
   have:i=n:=by
    rcases Nat.lt_or_ge (i - l.length) 1 with h'|h'
    ·omega
    ·rw[List.getElem?_eq_none (by simpa using h')] at hy;cases hy
   subst this
   rw[hl,Nat.sub_self] at hy;simp at hy;subst hy;exact hx
theorem slice_ok {r:Reach} {base:Nat} {t e:TypeId} {v:Value} (ht:P.underlying t=some (.slice e)) (h:Cell.okWide P W r base t v): ∀a len cap,v=.slice (some a) len cap→a.spot=none∧zb0 W a.block=true:=by
 rintro a len cap rfl
 unfold Cell.okWide at h
 rw[ht] at h
 dsimp only at h
 unfold Cell.ok at h
 rw[ht] at h
 obtain⟨_,_,_,hs,row,cells,hsh,_⟩:=h
 refine⟨hs,?_⟩
 unfold World.shape? at hsh
 unfold zb0
 split at hsh
 ·rename_i hb;rw[hb]
 ·cases hsh
def impW (W:World):Wd:=⟨fun _=>none,fun b=>match(impH W).get b with
 |some (.cells cs e)=>some (cs,e)
 |_=>none⟩
def VM.nil:VM:=⟨0,fun _=>none⟩
theorem impW_Z {W:World} {b:Nat} {cs:List Value} {e:Nat} (h:(impH W).get b=some (.cells cs e)):(impW W).Z b=some (cs,e):=by
 show(match(impH W).get b with|some (.cells cs e)=>some (cs,e)|_=>none)=_
 rw[h]
theorem imp_HRel (W:World):HRel (impW W) VM.nil (impH W) where
 wf:=fun j o st h=>by cases h
 dom:=fun j R h=>by cases h
 zd:=fun b z h=>by
  have h:(match(impH W).get b with|some (.cells cs e)=>some (cs,e)|_=>none)=some z:=h
  split at h
  ·rename_i cs e hg
   cases h
   refine⟨?_,hg⟩
   rw[zgD] at hg
   rw[impH_next]
   cases hb:W.heap[b]? with
   |none=>rw[hb] at hg;cases hg
   |some o=>exact Nat.lt_succ_of_lt (Array.getElem?_eq_some_iff.1 hb).1
  ·cases h
 obj:=fun j o st R h=>by cases h
 inj:=fun i j R S h=>by cases h
section
variable {H:Type} {enc:TypeId×Value→H} {base:Nat} {spare:Nat→Bool} {held:Bool}
theorem zdk {t:TypeId} {k:IntKind} {fuel:Nat} {c:Value} {x:DataW H×List MemPlace} (ht:P.underlying t=some (.int k)) (h:DataW.trod enc P W base spare held fuel t [c]=some x): ∃n,c=.int k n∧(Lit.int k n).wf=true:=by
 obtain⟨n,e,_,hw⟩:=DataW.trod_int ht h
 cases e;exact⟨n,rfl,hw⟩
theorem ints3_of_trod {t i0 i1 i2:TypeId} {f0 f1 f2:Field} {fuel:Nat} {cs:List Value} {x:DataW H×List MemPlace} (ht:P.underlying t=some (.struct #[f0,f1,f2])) (h0:f0.type=i0∧f0.offset=0) (h1:f1.type=i1∧f1.offset=1) (h2:f2.type=i2∧f2.offset=2)
 (u0:P.underlying i0=some (.int .i64)) (u1:P.underlying i1=some (.int .i64)) (u2:P.underlying i2=some (.int .i64)) (c0:P.cellsOf i0=1) (c1:P.cellsOf i1=1) (c2:P.cellsOf i2=1) (hc:P.cellsOf t=3) (h:DataW.trod enc P W base spare held fuel t cs=some x):
 ∃a b c:Int,cs=[.int .i64 a,.int .i64 b,.int .i64 c]:=by
 obtain⟨xs,n,_,_,hl,hlen,hf⟩:=DataW.trod_struct ht h
 rw[hc] at hl
 match cs,hl with
 | [d0,d1,d2],_=>
   have e0:=hf 0 f0 rfl
   have e1:=hf 1 f1 rfl
   have e2:=hf 2 f2 rfl
   rw[h0.1,h0.2,c0] at e0
   rw[h1.1,h1.2,c1] at e1
   rw[h2.1,h2.2,c2] at e2
   match xs,hlen with
   | [y0,y1,y2],_=>
     obtain⟨a,rfl,_⟩:=zdk u0 (show DataW.trod enc P W base spare held n i0 [d0]=some y0 from e0)
     obtain⟨b,rfl,_⟩:=zdk u1 (show DataW.trod enc P W base spare held n i1 [d1]=some y1 from e1)
     obtain⟨c,rfl,_⟩:=zdk u2 (show DataW.trod enc P W base spare held n i2 [d2]=some y2 from e2)
     exact⟨a,b,c,rfl⟩
theorem vrow_of_trod {α:Type} {f:α→List Value} {e:α→List DV} {sz:Nat} {t el:TypeId} {fuel:Nat} {v:Value} {x:DataW H×List MemPlace} (ht:P.underlying t=some (.slice el)) (hc:P.cellsOf el=sz) (hs:0<sz) (hlen: ∀a,(e a).length=sz)
 (hrel: ∀a,LRel (impW W) (e a) (f a)) (hok: ∀a,∀v∈f a,okV W v=true)
 (hel: ∀fuel cs y,DataW.trod enc P W base spare held fuel el cs=some y→ ∃a,cs=f a)
 (hv: ∀a len cap,v=.slice (some a) len cap→a.spot=none∧zb0 W a.block=true)
 (h:DataW.trod enc P W base spare held fuel t [v]=some x):okV W v=true∧ ∃es:List α,VRel (impW W) (.lst sz (es.map e)) v:=by
 rcases DataW.trod_slice ht h with⟨e0,_⟩| ⟨a,len,cap,elems,rest,n,_,e0,_,hb,hl,hm,hlen',hel',hsp,hns⟩
 ·cases e0
  exact⟨rfl,[],.lst0 (by unfold zp;omega) (fun a h=>by cases h)⟩
 ·cases e0
  obtain⟨hsp0,hic⟩:=hv a len cap rfl
  obtain⟨b,o,s⟩:=a
  simp only at hsp0;subst hsp0
  have hic':=hic
  unfold zb0 at hic
  dsimp only at hic hic'
  split at hic
  ·rename_i c t' fr hbk
   have hcap:cap<zp:=by unfold zp;unfold maxLen at hm;omega
   refine⟨by simp[okV,hl,hcap,hic'],?_⟩
   have hel2: ∀i,i<len→ ∃a:α,∀k,k<sz→W.cell? ⟨b,o+(i*sz+k),none⟩=(f a)[k]?:=by
    intro i hi
    have h1:=hel' i hi
    rw[List.getElem?_eq_getElem (by omega),hc] at h1
    obtain⟨cs,hcs,hy⟩:=Option.bind_eq_some_iff.1 h1
    obtain⟨a,rfl⟩:=hel _ _ _ hy
    obtain⟨_,_,h3⟩:=World.cells?_some hcs
    refine⟨a,fun k hk=> ?_⟩
    have:=h3 k hk
    rw[add_none,add_none] at this
    rw[←this,Nat.add_assoc]
   obtain⟨es,hes,hq⟩:=list_of len hel2
   subst hes
   rcases Nat.eq_zero_or_pos es.length with h0|h0
   ·obtain rfl:=List.eq_nil_of_length_eq_zero h0
    exact⟨[],.lst0 hcap (fun a h=>by cases h;rfl)⟩
   have hrows: ∀r∈es.map e,r.length=sz:=fun r hr=>by obtain⟨a,_,rfl⟩:=List.mem_map.1 hr;exact hlen a
   have hcell: ∀i j a,es[i]? =some a→j<sz→ ∃d v,(e a)[j]? =some d∧(c.toList.map (impV W))[o+(i*sz+j)]? =some v∧VRel (impW W) d v:=by
    intro i j a ha hj
    have hck:=hq i a ha j hj
    have hfl:(f a).length=sz:=by rw[←(hrel a).len,hlen]
    have hjf:j<(f a).length:=by rw[hfl];exact hj
    have hje:j<(e a).length:=by rw[hlen];exact hj
    have hka:(f a)[j]? =some ((f a)[j]'hjf):=List.getElem?_eq_getElem hjf
    have hea:(e a)[j]? =some ((e a)[j]'hje):=List.getElem?_eq_getElem hje
    rw[hka] at hck
    obtain⟨c',t'',fr',hb',hco⟩:=cell_heap hck
    rw[hbk] at hb';cases hb'
    refine⟨_,_,hea,?_,(hrel a).at_ j _ _ hea hka⟩
    rw[List.getElem?_map,Array.getElem?_toList,hco]
    show some (impV W _)=_
    unfold impV
    rw[if_pos (hok a _ (List.getElem_mem _))]
   refine⟨es,.lst (impW_Z (zhv hbk)) hrows ?_ ?_ (fun h=>by omega) (fun _=>⟨by rw[List.length_map];exact hl,hcap⟩) (by rw[List.length_map])⟩
   ·rw[List.length_map]
    obtain⟨d,v,_,h2,_⟩:=hcell (es.length - 1) (sz - 1) _ (List.getElem?_eq_getElem (by omega)) (by omega)
    have:=(List.getElem?_eq_some_iff.1 h2).1
    have e1:(es.length - 1)*sz+(sz - 1)+1=es.length*sz:=by
     obtain⟨m,hm⟩: ∃m,es.length=m+1:=⟨es.length - 1,by omega⟩
     rw[hm,Nat.add_sub_cancel,Nat.succ_mul];omega
    omega
   ·intro k d v hd hv
    have hkl:=(List.getElem?_eq_some_iff.1 hd).1
    rw[zbg hrows,List.length_map] at hkl
    have hi:k / sz<es.length:=(Nat.div_lt_iff_lt_mul hs).2 hkl
    have hj:k%sz<sz:=Nat.mod_lt _ hs
    have hk:k / sz*sz+k%sz=k:=Nat.div_add_mod' k sz
    obtain⟨d',v',h1,h2,h3⟩:=hcell _ _ _ (List.getElem?_eq_getElem hi) hj
    obtain⟨tl,ht⟩:=flat_at hrows (i:=k / sz) (r:=e es[k / sz]) (by rw[List.getElem?_map,List.getElem?_eq_getElem hi];rfl)
    have:(es.map e).flatten[k]? =(e es[k / sz])[k%sz]?:=by
     have e2:((es.map e).flatten.drop (k / sz*sz))[k%sz]? =(es.map e).flatten[k]?:=by rw[List.getElem?_drop,hk]
     rw[←e2,ht,List.getElem?_append_left (by rw[hlen];exact hj)]
    rw[this,h1] at hd
    rw[hk,hv] at h2
    cases hd;cases h2;exact h3
  ·cases hic
end
theorem v_calls {F:FuncId→Option zq} (hmix:P.follows .mixedOrders=true) (hF: ∀g cf,F g=some cf→FnOk P g cf) {g:FuncId} {ds:List DV} {args:Array Value} {W:World}
 (hc:zA F (.fn g [] []) ds VM.nil (fun d _=>d=.bool true) fun _ _=>False) (hargs: ∀v∈args.toList,okArg W v=true) (hr:LRel (impW W) ds args.toList):
 Calls P g args W fun e W'=>e=.returned (.bool true)∧Same W W':=by
 obtain⟨n,o,he,ho⟩:=hc (impW W) (impH W) (.func (.func g) #[] #[]) args.toList (imp_HRel W) (.fn g rfl rfl (fun k d v h=>by simp at h) (fun k d v h=>by simp at h)) hr
 cases o with
 |val v h1=>
  obtain⟨w1,M1,d,q1,q2,q3,rfl⟩:=ho
  cases q3
  exact calls_import hmix hF hargs he fun i hi=>q1.rest i (by rw[impH_next];omega) (fun j R h=>by cases h)
 |pan=>obtain⟨_,_,_,_,_,_,q⟩:=ho;exact q.elim
 |nrm=>exact ho.elim
 |exit=>exact ho.elim
 |ret=>exact ho.elim
end
end Go.Ideal
set_option maxRecDepth 100000
set_option maxHeartbeats 4000000
namespace Go.Proofs.YtjkoholloclgeaaGreatDoor
open Go.ChangeShapes Go.WideShapes Go.RowKit
theorem own:ownKnob Tryz.prog.godebug=none:=by kernel_rfl
abbrev laid {H:Type}:List (String×DataW H):=[("math/bits.deBruijn32tab",Rows.laid_math_bits_deBruijn32tab),("math/bits.deBruijn64tab",Rows.laid_math_bits_deBruijn64tab),("internal/strconv.uint64pow10",Rows.laid_internal_strconv_uint64pow10)]
theorem laid_plain (w:World):laidMetH Tryz.prog laid w=laidMet Tryz.prog laid w:=MakeChecks.laidMetH_plain _ _ _ (by kernel_rfl)
theorem laid_all (os:Os) (args:Array Value):laidMetH Tryz.prog laid ((World.laidAll Tryz.prog os laid).forCall (fun _ _=>0) ⟨#[],args,[]⟩).memory:=by
 rw[laid_plain];exact laidMet_laidAll _ (by kernel_rfl) (by kernel_rfl)
end Go.Proofs.YtjkoholloclgeaaGreatDoor
namespace Go.Proofs.YtjkoholloclgeaaGreatDoor
open Go.ChangeShapes Go.WideShapes Go.RowKit Go.Ideal Go.Ideal.S
theorem laidOut:laidOutB Tryz.prog=true:=by kernel_rfl
theorem ci1:Tryz.prog.cellsOf 3=1:=by kernel_rfl
theorem cs1:Tryz.prog.cellsOf 22=1:=by kernel_rfl
theorem cE3:Tryz.prog.cellsOf 46=3:=by kernel_rfl
def vEd (e:S.Edge):List Value:=[.int .i64 e.f,.int .i64 e.a,.int .i64 e.t]
theorem LRel1 {w:Wd} {d:DV} {v:Value} (h:VRel w d v):LRel w [d] [v]:=⟨rfl,fun k d' v' hd hv=>by
 match k with
 |0=>cases hd;cases hv;exact h
 |k+1=>simp at hd⟩
theorem LRel.cons {w:Wd} {d:DV} {v:Value} {ds:List DV} {vs:List Value} (h:VRel w d v) (hs:LRel w ds vs):LRel w (d::ds) (v::vs):=⟨by simp[hs.len],fun k d' v' hd hv=>by
 match k with
 |0=>cases hd;cases hv;exact h
 |k+1=>exact hs.at_ k _ _ (by simpa using hd) (by simpa using hv)⟩
section
variable {H:Type} {enc:TypeId×Value→H} {W:World} {base b:Nat} {r:Reach} {spare:Nat→Bool} {held:Bool} {v:Value} {d:DataW H} {ps:List MemPlace}
theorem graph_in (hval:Value.okWide Tryz.prog W r base 24 v) (hd:DataW.Trod enc Tryz.prog W b spare held 24 v d ps):okArg W v=true∧ ∃g:Gr,VRel (impW W) (.agg (eGr g)) v:=by
 unfold Value.okWide at hval
 rw[Tryz.underlying24] at hval
 obtain⟨cs,rfl,hsz,ts,hts,_,hcell⟩:=hval
 obtain⟨fuel,hd⟩:=hd
 have hcs:(Value.agg cs).cells.toList=cs.toList:=rfl
 rw[hcs] at hd
 obtain⟨xs,n,_,_,hl,hlen,hf⟩:=DataW.trod_struct Tryz.underlying24 hd
 have h3:Tryz.prog.cellsOf 24=3:=by kernel_rfl
 have hty:Tryz.prog.cellTypes Tryz.prog.depth 24=some [3,3,22]:=by kernel_rfl
 rw[hty] at hts
 cases hts
 rw[h3] at hl
 obtain⟨c0,c1,c2,hc⟩: ∃c0 c1 c2,cs.toList=[c0,c1,c2]:=by
  match cs.toList,hl with
  | [c0,c1,c2],_=>exact⟨c0,c1,c2,rfl⟩
 rw[hc] at hf
 have e0:DataW.trod enc Tryz.prog W b spare held n 3 (([c0,c1,c2].drop 0).take (Tryz.prog.cellsOf 3))=xs[0]?:=hf 0 _ rfl
 have e1:DataW.trod enc Tryz.prog W b spare held n 3 (([c0,c1,c2].drop 1).take (Tryz.prog.cellsOf 3))=xs[1]?:=hf 1 _ rfl
 have e2:DataW.trod enc Tryz.prog W b spare held n 22 (([c0,c1,c2].drop 2).take (Tryz.prog.cellsOf 22))=xs[2]?:=hf 2 _ rfl
 rw[ci1] at e0 e1
 rw[cs1] at e2
 obtain⟨y0,y1,y2,rfl⟩: ∃y0 y1 y2,xs=[y0,y1,y2]:=by
  match xs,hlen with
  | [y0,y1,y2],_=>exact⟨y0,y1,y2,rfl⟩
 obtain⟨st,rfl,_⟩:=zdk Tryz.underlying3 (show DataW.trod enc Tryz.prog W b spare held n 3 [c0]=some y0 from e0)
 obtain⟨lb,rfl,_⟩:=zdk Tryz.underlying3 (show DataW.trod enc Tryz.prog W b spare held n 3 [c1]=some y1 from e1)
 have hcs':cs= #[.int .i64 st,.int .i64 lb,c2]:=by rw[←Array.toList_inj,hc]
 subst hcs'
 obtain⟨u,hu,hok⟩:=hcell 2 c2 rfl
 cases hu
 obtain⟨hokv,es,hrow⟩:=vrow_of_trod (α:=S.Edge) (f:=vEd) (e:=zE) (sz:=3) Tryz.underlying22 cE3 (by omega) (fun _=>rfl) (fun a=>LRel.cons (.int _ _) (LRel.cons (.int _ _) (LRel1 (.int _ _)))) (fun a v hv=>by
  simp only[vEd,List.mem_cons,List.not_mem_nil,or_false] at hv
  rcases hv with rfl|rfl|rfl<;>rfl)
  (fun fuel cs y h=>by
    obtain⟨p,q,s,rfl⟩:=ints3_of_trod Tryz.underlying46 ⟨rfl,rfl⟩ ⟨rfl,rfl⟩ ⟨rfl,rfl⟩ Tryz.underlying3 Tryz.underlying3 Tryz.underlying3 ci1 ci1 ci1 cE3 h
    exact⟨⟨p,q,s⟩,rfl⟩) (slice_ok Tryz.underlying22 hok) (show DataW.trod enc Tryz.prog W b spare held n 22 [c2]=some y2 from e2)
 refine⟨?_,⟨st,lb,es⟩,?_⟩
 ·show([.int .i64 st,.int .i64 lb,c2]:List Value).all (okV W)=true
  simp only[List.all_cons,List.all_nil,hokv,Bool.and_true]
  rfl
 ·have:=LRel.cons (w:=impW W) (.int .i64 st) (LRel.cons (.int .i64 lb) (LRel1 hrow))
  exact .agg this.len this.at_
end
end Go.Proofs.YtjkoholloclgeaaGreatDoor
namespace Go.Proofs.YtjkoholloclgeaaGreatDoor
open Go.ChangeShapes Go.WideShapes Go.RowKit Go.Ideal Go.Ideal.S
theorem u8_in {W:World} {base:Nat} {r:Reach} {v:Value} (hval:Value.okWide Tryz.prog W r base 5 v): ∃n,v=.int .u8 n∧0≤n∧n<256:=by
 unfold Value.okWide at hval
 rw[Tryz.underlying5] at hval
 have h:Cell.okWide Tryz.prog W r base 5 v:=hval
 unfold Cell.okWide at h
 rw[Tryz.underlying5] at h
 have h:Cell.ok Tryz.prog W r base 5 v:=h
 unfold Cell.ok at h
 rw[Tryz.underlying5] at h
 cases v<;>first|exact h.elim|skip
 obtain⟨h1,h2,h3⟩:=h
 have e1:IntKind.u8.min=0:=by decide+kernel
 have e2:IntKind.u8.max=255:=by decide+kernel
 rw[e1] at h2
 rw[e2] at h3
 exact⟨_,by rw[h1],h2,by omega⟩
theorem law_lifted (os:Os) (started:os.Started) (H:Type) (enc:TypeId×Value→H):
 ReturnsInHanded {} Tryz.checked os 8 .any (fun w args=>(Rows.jamStarvesSpec.pre enc Tryz.prog Tryz.f8 [] false w args∧laidMetH Tryz.prog laid w)∧sizedMet enc Tryz.prog Tryz.f8 (OpenSpec.ofChange Rows.jamStarvesSpec) false w args)
  (Rows.jamStarvesSpec.post enc Tryz.prog Tryz.f8 false true false false):=by
 refine returnsInHanded_of_change_and (C:=Tryz.checked) (X:=fun w _=>laidMetH Tryz.prog laid w) (fun _ _ _ hh h=>h.of_heap hh) own started (by kernel_rfl) Tryz.func8
  (ChangeSpec.witness_shaped (enc:=enc) (C:=Tryz.checked) (os:=os) (X:=fun w _=>laidMetH Tryz.prog laid w) false (World.laidAll Tryz.prog os laid) #[.agg #[.int .i64 0,.int .i64 0,.slice none 0 0],.int .u8 0,.int .u8 0] 8 (World.laidAll_os _ _ _)
    (World.shaped_of_ZipB (by kernel_rfl) (by kernel_rfl)) (by kernel_rfl) (by kernel_rfl) (by kernel_rfl) (laid_all os _)) ?_
 intro W base args ds gs before hval0 hW _ _ hL _
 have hval: ∀(j:Nat) t v,Tryz.f8.params[j]? =some t→args[j]? =some v→Value.okWide Tryz.prog W .any base t v:=hval0
 have hW':=hW
 obtain⟨p,q,hA0,hV0,rfl,hfz,hnd⟩:=hW
 have hA:DataW.TrodAll enc Tryz.prog W 0 (fun _=>true) true Tryz.f8.params.toList args.toList ds p:=hA0
 rw[Tryz.params8] at hA hval
 obtain⟨v0,vs0,d0,ds0,q0,qs0,e0,rfl,rfl,h0,hr0⟩:=trodAll_cons hA
 obtain⟨v1,vs1,d1,ds1,q1,qs1,e1,rfl,rfl,h1,hr1⟩:=trodAll_cons hr0
 obtain⟨v2,vs2,d2,ds2,q2,qs2,e2,rfl,rfl,h2,hr2⟩:=trodAll_cons hr1
 obtain⟨e3,rfl,rfl⟩:=trodAll_nil hr2
 obtain rfl:args= #[v0,v1,v2]:=by rw[←Array.toArray_toList (xs:=args),e0,e1,e2,e3]
 obtain⟨o0,x0,r0⟩:=graph_in (hval 0 24 v0 rfl rfl) h0
 obtain⟨x1,rfl,b1⟩:=u8_in (hval 1 5 v1 rfl rfl)
 obtain⟨x2,rfl,b2⟩:=u8_in (hval 2 5 v2 rfl rfl)
 obtain⟨rfl,rfl⟩:=trodVars_none hV0
 refine(v_calls Go.Ideal.X.hmix Go.Ideal.Y.okF (starves_law x0 x1 x2 b1 b2 rfl) (fun v hv=>by
  simp only[List.mem_cons,List.not_mem_nil,or_false] at hv
  rcases hv with rfl|rfl|rfl
  ·exact o0
  ·rfl
  ·rfl) (LRel.cons r0 (LRel.cons (.int _ _) (LRel1 (.int _ _))))).mono fun e W' ⟨he,hs⟩=>⟨_,he,?_⟩
 exact law_post hW' rfl rfl (t:=4) (by kernel_rfl) Tryz.underlying4 hs laidOut (fun t ht=>by
  rw[Tryz.params8] at ht
  simp only[List.mem_cons,List.not_mem_nil,or_false] at ht
  rcases ht with rfl|rfl|rfl<;>exact⟨by kernel_rfl,of_decide_eq_true (by kernel_rfl)⟩)
theorem row_holds:Rows.JamStarvesSaid:=
 OpenClaim.holds_of_wide 8 Tryz.f8 rfl rfl rfl rfl rfl rfl rfl ⟨rfl,rfl,rfl,rfl,rfl⟩ rfl rfl rfl rfl rfl (by kernel_rfl) Tryz.func8 (by kernel_rfl)
  (of_decide_eq_true (by kernel_rfl)) (by unfold Func.isWrapper;first| (rw[if_pos (by decide+kernel)];kernel_rfl)| (rw[if_neg (by decide+kernel)];exact⟨rfl,rfl⟩))
  (fun os started H enc _=>law_lifted os started H enc)
theorem card_holds:Rows.JamStarvesCardSaid:=
 Claim7.holds_tied_plain_at .later [] [.data,.data,.data] true (true,"521d0d024becd3449cbaa7fc8ddfd8d84abc78d655dc307d7db42fe736fb9c1c") true
  row_holds (fun _ h=>by cases h) (by kernel_rfl) (fun _ h=>by cases h) jamStarves_row_tie rfl ⟨rfl,rfl⟩ (by kernel_rfl) rfl
  (fun f fn hf hfn=>by
    obtain rfl:f=8:=Option.some.inj ((show Tryz.prog.funcNamed "cabotage/cabotagelaw23.JamStarves" =some 8 by kernel_rfl).symm.trans hf) |>.symm
    obtain rfl:fn=Tryz.f8:=(Option.some.inj (Tryz.func8.symm.trans hfn)).symm
    exact⟨by kernel_rfl,fun j t ht=>by
     rw[Tryz.params8] at ht
     rcases j with _|_|_|j<;>simp at ht<;>subst ht<;>exact of_decide_eq_true (by kernel_rfl)⟩)
  (by kernel_rfl)
end Go.Proofs.YtjkoholloclgeaaGreatDoor
