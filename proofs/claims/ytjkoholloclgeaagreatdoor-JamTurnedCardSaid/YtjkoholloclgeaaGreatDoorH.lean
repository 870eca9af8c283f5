/- A part of the proof: the ideal machine, and what the functions of the program answer over it. -/
import Derived.ProofKit
import Derived.JoinedOf
import Derived.Test.YtjkoholloclgeaaGreatDoorG
set_option linter.unusedSimpArgs false
set_option linter.unusedVariables false
set_option linter.unusedSectionVars false
namespace Go.Ideal
open Go.ChangeShapes Go.WideShapes Go.RowKit
noncomputable section
variable {P:Program} {W:World}
theorem cell_heap {b o:Nat} {v:Value} (h:W.cell? ⟨b,o,none⟩=some v): ∃c t fr,W.heap[b]? =some (.cells c t fr)∧c[o]? =some v:=by
 unfold World.cell? at h
 dsimp only at h
 split at h
 ·rename_i c t fr hb
  exact⟨c,t,fr,hb,by simpa using h⟩
 ·cases h
theorem add_none {b o n:Nat}:(⟨b,o,none⟩:Addr).add n=⟨b,o+n,none⟩:=by
 unfold Addr.add
 split
 ·rename_i e;subst e;rfl
 ·rfl
theorem list_of {α:Type} {Q:Nat→α→Prop}: ∀n,(∀i,i<n→ ∃x,Q i x)→ ∃l:List α,l.length=n∧ ∀i x,l[i]? =some x→Q i x
 |0,_=>⟨[],rfl,fun i x h=>by simp at h⟩
 |n+1,h=>by
  obtain⟨l,hl,hq⟩:=list_of n fun i hi=>h i (by omega)
  obtain⟨x,hx⟩:=h n (by omega)
  refine⟨l++[x],by simp[hl],fun i y hy=> ?_⟩
  by_cases e:i<n
  ·rw[List.getElem?_append_left (by omega)] at hy;exact hq i y hy
  ·rw[List.getElem?_append_right (by omega)] at hy
   have:i=n:=by
    rcases Nat.lt_or_ge (i - l.length) 1 with h'|h'
    ·omega
    ·rw[List.getElem?_eq_none (by simpa using h')] at hy;cases hy
   subst this
   rw[hl,Nat.sub_self] at hy;simp at hy;subst hy;exact hx
theorem slice_ok {r:Reach} {base:Nat} {t e:TypeId} {v:Value} (ht:P.underlying t=some (.slice e)) (h:Cell.okWide P W r base t v): ∀a len cap,v=.slice (some a) len cap→a.spot=none∧zbG W a.block=true:=by
 rintro a len cap rfl
 unfold Cell.okWide at h
 rw[ht] at h
 dsimp only at h
 unfold Cell.ok at h
 rw[ht] at h
 obtain⟨_,_,_,hs,row,cells,hsh,_⟩:=h
 refine⟨hs,?_⟩
 unfold World.shape? at hsh
 unfold zbG
 split at hsh
 ·rename_i hb;rw[hb]
 ·cases hsh
def impW (W:World):Wd:=⟨fun _=>none,fun b=>match(impH W).get b with
 |some (.cells cs e)=>some (cs,e)
 |_=>none⟩
def VM.nil:VM:=⟨0,fun _=>none⟩
theorem impW_Z {W:World} {b:Nat} {cs:List Value} {e:Nat} (h:(impH W).get b=some (.cells cs e)):(impW W).Z b=some (cs,e):=by
 show(match(impH W).get b with|some (.cells cs e)=>some (cs,e)|_=>none)=_
 rw[h]
theorem imp_HRel (W:World):HRel (impW W) VM.nil (impH W) where
 wf:=fun j o st h=>by cases h
 dom:=fun j R h=>by cases h
 zd:=fun b z h=>by
  have h:(match(impH W).get b with|some (.cells cs e)=>some (cs,e)|_=>none)=some z:=h
  split at h
  ·rename_i cs e hg
   cases h
   refine⟨?_,hg⟩
   rw[zgu] at hg
   rw[zjl]
   cases hb:W.heap[b]? with
   |none=>rw[hb] at hg;cases hg
   |some o=>exact Nat.lt_succ_of_lt (Array.getElem?_eq_some_iff.1 hb).1
  ·cases h
 obj:=fun j o st R h=>by cases h
 inj:=fun i j R S h=>by cases h
section
variable {H:Type} {enc:TypeId×Value→H} {base:Nat} {spare:Nat→Bool} {held:Bool}
theorem zc6 {t:TypeId} {k:IntKind} {fuel:Nat} {c:Value} {x:DataW H×List MemPlace} (ht:P.underlying t=some (.int k)) (h:DataW.trod enc P W base spare held fuel t [c]=some x): ∃n,c=.int k n∧(Lit.int k n).wf=true:=by
 obtain⟨n,e,_,hw⟩:=DataW.trod_int ht h
 cases e;exact⟨n,rfl,hw⟩
theorem ints3_of_trod {t i0 i1 i2:TypeId} {f0 f1 f2:Field} {fuel:Nat} {cs:List Value} {x:DataW H×List MemPlace} (ht:P.underlying t=some (.struct #[f0,f1,f2])) (h0:f0.type=i0∧f0.offset=0) (h1:f1.type=i1∧f1.offset=1) (h2:f2.type=i2∧f2.offset=2)
 (u0:P.underlying i0=some (.int .i64)) (u1:P.underlying i1=some (.int .i64)) (u2:P.underlying i2=some (.int .i64)) (c0:P.cellsOf i0=1) (c1:P.cellsOf i1=1) (c2:P.cellsOf i2=1) (hc:P.cellsOf t=3) (h:DataW.trod enc P W base spare held fuel t cs=some x):
 ∃a b c:Int,cs=[.int .i64 a,.int .i64 b,.int .i64 c]:=by
 obtain⟨xs,n,_,_,hl,hlen,hf⟩:=DataW.trod_struct ht h
 rw[hc] at hl
 match cs,hl with
 | [d0,d1,d2],_=>
   have e0:=hf 0 f0 rfl
   have e1:=hf 1 f1 rfl
   have e2:=hf 2 f2 rfl
   rw[h0.1,h0.2,c0] at e0
   rw[h1.1,h1.2,c1] at e1
   rw[h2.1,h2.2,c2] at e2
   match xs,hlen with
   | [y0,y1,y2],_=>
     obtain⟨a,rfl,_⟩:=zc6 u0 (show DataW.trod enc P W base spare held n i0 [d0]=some y0 from e0)
     obtain⟨b,rfl,_⟩:=zc6 u1 (show DataW.trod enc P W base spare held n i1 [d1]=some y1 from e1)
     obtain⟨c,rfl,_⟩:=zc6 u2 (show DataW.trod enc P W base spare held n i2 [d2]=some y2 from e2)
     exact⟨a,b,c,rfl⟩
theorem zhx {α:Type} {f:α→List Value} {e:α→List DV} {sz:Nat} {t el:TypeId} {fuel:Nat} {v:Value} {x:DataW H×List MemPlace} (ht:P.underlying t=some (.slice el)) (hc:P.cellsOf el=sz) (hs:0<sz) (hlen: ∀a,(e a).length=sz)
 (hrel: ∀a,LRel (impW W) (e a) (f a)) (hok: ∀a,∀v∈f a,okV W v=true)
 (hel: ∀fuel cs y,DataW.trod enc P W base spare held fuel el cs=some y→ ∃a,cs=f a)
 (hv: ∀a len cap,v=.slice (some a) len cap→a.spot=none∧zbG W a.block=true)
 (h:DataW.trod enc P W base spare held fuel t [v]=some x):okV W v=true∧ ∃es:List α,VRel (impW W) (.lst sz (es.map e)) v:=by
 rcases DataW.trod_slice ht h with⟨e0,_⟩| ⟨a,len,cap,elems,rest,n,_,e0,_,hb,hl,hm,hlen',hel',hsp,hns⟩
 ·cases e0
  exact⟨rfl,[],.lst0 (by unfold zo;omega) (fun a h=>by cases h)⟩
 ·cases e0
  obtain⟨hsp0,hic⟩:=hv a len cap rfl
  obtain⟨b,o,s⟩:=a
  simp only at hsp0;subst hsp0
  have hic':=hic
  unfold zbG at hic
  dsimp only at hic hic'
  split at hic
  ·rename_i c t' fr hbk
   have hcap:cap<zo:=by unfold zo;unfold maxLen at hm;omega
   refine⟨by simp[okV,hl,hcap,hic'],?_⟩
   have hel2: ∀i,i<len→ ∃a:α,∀k,k<sz→W.cell? ⟨b,o+(i*sz+k),none⟩=(f a)[k]?:=by
    intro i hi
    have h1:=hel' i hi
    rw[List.getElem?_eq_getElem (by omega),hc] at h1
    obtain⟨cs,hcs,hy⟩:=Option.bind_eq_some_iff.1 h1
    obtain⟨a,rfl⟩:=hel _ _ _ hy
    obtain⟨_,_,h3⟩:=World.cells?_some hcs
    refine⟨a,fun k hk=> ?_⟩
    have:=h3 k hk
    rw[add_none,add_none] at this
    rw[←this,Nat.add_assoc]
   obtain⟨es,hes,hq⟩:=list_of len hel2
   subst hes
   rcases Nat.eq_zero_or_pos es.length with h0|h0
   ·obtain rfl:=List.eq_nil_of_length_eq_zero h0
    exact⟨[],.lst0 hcap (fun a h=>by cases h;rfl)⟩
   have hrows: ∀r∈es.map e,r.length=sz:=fun r hr=>by obtain⟨a,_,rfl⟩:=List.mem_map.1 hr;exact hlen a
   have hcell: ∀i j a,es[i]? =some a→j<sz→ ∃d v,(e a)[j]? =some d∧(c.toList.map (impV W))[o+(i*sz+j)]? =some v∧VRel (impW W) d v:=by
    intro i j a ha hj
    have hck:=hq i a ha j hj
    have hfl:(f a).length=sz:=by rw[←(hrel a).len,hlen]
    have hjf:j<(f a).length:=by rw[hfl];exact hj
    have hje:j<(e a).length:=by rw[hlen];exact hj
    have hka:(f a)[j]? =some ((f a)[j]'hjf):=List.getElem?_eq_getElem hjf
    have hea:(e a)[j]? =some ((e a)[j]'hje):=List.getElem?_eq_getElem hje
    rw[hka] at hck
    obtain⟨c',t'',fr',hb',hco⟩:=cell_heap hck
    rw[hbk] at hb';cases hb'
    refine⟨_,_,hea,?_,(hrel a).at_ j _ _ hea hka⟩
    rw[List.getElem?_map,Array.getElem?_toList,hco]
    show some (impV W _)=_
    unfold impV
    rw[if_pos (hok a _ (List.getElem_mem _))]
   refine⟨es,.lst (impW_Z (zfo hbk)) hrows ?_ ?_ (fun h=>by omega) (fun _=>⟨by rw[List.length_map];exact hl,hcap⟩) (by rw[List.length_map])⟩
   ·rw[List.length_map]
    obtain⟨d,v,_,h2,_⟩:=hcell (es.length - 1) (sz - 1) _ (List.getElem?_eq_getElem (by omega)) (by omega)
    have:=(List.getElem?_eq_some_iff.1 h2).1
    have e1:(es.length - 1)*sz+(sz - 1)+1=es.length*sz:=by
     obtain⟨m,hm⟩: ∃m,es.length=m+1:=⟨es.length - 1,by omega⟩
     rw[hm,Nat.add_sub_cancel,Nat.succ_mul];omega
    omega
   ·intro k d v hd hv
    have hkl:=(List.getElem?_eq_some_iff.1 hd).1
    rw[zbg hrows,List.length_map] at hkl
    have hi:k / sz<es.length:=(Nat.div_lt_iff_lt_mul hs).2 hkl
    have hj:k%sz<sz:=Nat.mod_lt _ hs
    have hk:k / sz*sz+k%sz=k:=Nat.div_add_mod' k sz
    obtain⟨d',v',h1,h2,h3⟩:=hcell _ _ _ (List.getElem?_eq_getElem hi) hj
    obtain⟨tl,ht⟩:=flat_at hrows (i:=k / sz) (r:=e es[k / sz]) (by rw[List.getElem?_map,List.getElem?_eq_getElem hi];rfl)
    have:(es.map e).flatten[k]? =(e es[k / sz])[k%sz]?:=by
     have e2:((es.map e).flatten.drop (k / sz*sz))[k%sz]? =(es.map e).flatten[k]?:=by rw[List.getElem?_drop,hk]
     rw[←e2,ht,List.getElem?_append_left (by rw[hlen];exact hj)]
    rw[this,h1] at hd
    rw[hk,hv] at h2
    cases hd;cases h2;exact h3
  ·cases hic
end
theorem v_calls {F:FuncId→Option zn} (hmix:P.follows .mixedOrders=true) (hF: ∀g cf,F g=some cf→FnOk P g cf) {g:FuncId} {ds:List DV} {args:Array Value} {W:World}
 (hc:zy F (.fn g [] []) ds VM.nil (fun d _=>d=.bool true) fun _ _=>False) (hargs: ∀v∈args.toList,okArg W v=true) (hr:LRel (impW W) ds args.toList):
 Calls P g args W fun e W'=>e=.returned (.bool true)∧Same W W':=by
 obtain⟨n,o,he,ho⟩:=hc (impW W) (impH W) (.func (.func g) #[] #[]) args.toList (imp_HRel W) (.fn g rfl rfl (fun k d v h=>by simp at h) (fun k d v h=>by simp at h)) hr
 cases o with
 |val v h1=>
  obtain⟨w1,M1,d,q1,q2,q3,rfl⟩:=ho
  cases q3
  exact calls_import hmix hF hargs he fun i hi=>q1.rest i (by rw[zjl];omega) (fun j R h=>by cases h)
 |pan=>obtain⟨_,_,_,_,_,_,q⟩:=ho;exact q.elim
 |nrm=>exact ho.elim
 |exit=>exact ho.elim
 |ret=>exact ho.elim
end
end Go.Ideal
