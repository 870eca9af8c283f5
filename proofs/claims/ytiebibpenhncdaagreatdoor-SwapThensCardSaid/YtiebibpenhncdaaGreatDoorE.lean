/- A part of the proof: the ideal machine, and what the functions of the program answer over it. -/
import Derived.RowKit
import Derived.OpenShut
import Derived.WideKeyArgs
import Derived.ChangeSame
import Derived.Test.YtiebibpenhncdaaGreatDoorD
set_option linter.unusedSimpArgs false
set_option linter.unusedVariables false
set_option linter.unusedSectionVars false
namespace Go.Ideal
noncomputable section
variable {P:Program}
def zbG (W:World) (b:Nat):Bool:=match W.heap[b]? with
 |some (.cells _ _ _)=>true
 |_=>false
def okV (W:World):Value→Bool
 |.bool _=>true
 |.int _ _=>true
 |.string _=>true
 |.nilFunc=>true
 |.pointer none=>true
 |.map none=>true
 |.slice none 0 0=>true
 |.slice (some a) len cap=>a.spot.isNone&&(decide (len≤cap)&&(decide (cap<zc)&&zbG W a.block))
 |.pointer (some a)=>a.spot.isNone&&zbG W a.block
 |_=>false
def isDang:Value→Bool
 |.slice (some _) 0 0=>true
 |_=>false
def dang (W:World):Value:=.slice (some ⟨W.heap.size,0,none⟩) 0 0
def impV (W:World) (v:Value):Value:=if okV W v then v else if isDang v then dang W else poison
def impObj (W:World):Obj→Option IObj
 |.cells c _ _=>some (.cells (c.toList.map (impV W)) roE)
 |_=>none
open Classical in
def dangR (W:World):Option RB:=if h: ∃b,zbG W b=true then some ⟨Classical.choose h,0,0,0,1,W.heap[Classical.choose h]?⟩ else none
def zc0 (W:World) (i:Nat):Option RB:=if i=W.heap.size then dangR W else(W.heap[i]?).bind fun o=>match o with
 |.cells c _ _=>some ⟨i,0,c.size,roE,c.size,some o⟩
 |_=>none
def zlt (W:World) (n:Nat):PT IObj:=Nat.rec (motive:=fun _=>PT IObj) .nil (fun i t=>match(W.heap[i]?).bind (impObj W) with|some o=>t.set (bits i) o|none=>t) n
def impH (W:World):H:=⟨W.heap.size+1,zlt W W.heap.size⟩
theorem zh6 (W:World): ∀(n j:Nat),(zlt W n).get (bits j)=if j<n then(W.heap[j]?).bind (impObj W) else none
 |0,j=>by rw[if_neg (by omega)];exact PT.get_nil _
 |n+1,j=>by
  have e:zlt W (n+1)=match(W.heap[n]?).bind (impObj W) with|some o=>(zlt W n).set (bits n) o|none=>zlt W n:=rfl
  rw[e]
  cases ho:(W.heap[n]?).bind (impObj W) with
  |none=>
   rw[zh6 W n j]
   grind
  |some o=>
   dsimp only
   rw[PT.get_set_bits,zh6 W n j]
   grind
theorem zhm (W:World) (j:Nat):(impH W).get j=(W.heap[j]?).bind (impObj W):=by
 show(zlt W W.heap.size).get (bits j)=_
 grind [zh6]
theorem zh7 {W:World} {b:Nat} {c:Array Value} {t:TypeId} {fr:Nat×Nat} (h:W.heap[b]? =some (.cells c t fr)):(impH W).get b=some (.cells (c.toList.map (impV W)) roE):=by rw[zhm,h];rfl
theorem impH_next (W:World):(impH W).next=W.heap.size+1:=rfl
theorem zh4 {W:World} {b:Nat} (h:zbG W b=true):b<W.heap.size:=by
 grind [zbG]
theorem impRho_lt {W:World} {i:Nat} (h:i<W.heap.size):zc0 W i=(W.heap[i]?).bind fun o=>match o with|.cells c _ _=>some ⟨i,0,c.size,roE,c.size,some o⟩|_=>none:=by
 grind [zc0]
theorem zft {W:World} {b:Nat} (h:zbG W b=true): ∃R,zc0 W b=some R∧R.blk=b∧R.base=0:=by
 have hlt:=zh4 h
 unfold zbG at h
 split at h
 all_goals simp_all[impRho_lt]
theorem okV_rel {W:World} {v:Value} (h:okV W v=true):VR (zc0 W) v v:=by
 unfold okV at h
 split at h
 ·exact .bool _
 ·exact .int _ _
 ·exact .str _
 ·exact .nilFunc
 ·exact .ptrNil
 ·exact .mapNil
 ·exact .sliceNil
 ·rename_i a len cap
  simp only[Bool.and_eq_true,Option.isNone_iff_eq_none,decide_eq_true_eq] at h
  obtain⟨h1,h2,h3,h4⟩:=h
  obtain⟨R,hR,hb,h0⟩:=zft h4
  obtain⟨b,o,sp⟩:=a
  simp only at h1 hR hb
  subst h1
  have:=VR.slice (o:=o) (len:=len) hR h3 h2
  grind
 ·rename_i a
  simp only[Bool.and_eq_true,Option.isNone_iff_eq_none] at h
  obtain⟨h1,h4⟩:=h
  obtain⟨R,hR,hb,h0⟩:=zft h4
  obtain⟨b,o,sp⟩:=a
  simp only at h1 hR hb
  subst h1
  have:=VR.ptr (o:=o) hR
  grind
 grind
theorem zeW {W:World} {i:Nat} {R:RB} (h:zc0 W i=some R):(i≠W.heap.size∧ ∃c t fr,W.heap[i]? =some (.cells c t fr)∧R=⟨i,0,c.size,roE,c.size,some (.cells c t fr)⟩)∨(i=W.heap.size∧zbG W R.blk=true):=by
 unfold zc0 at h
 split at h
 ·rename_i e
  refine .inr ⟨e,?_⟩
  unfold dangR at h
  split at h
  all_goals grind
 grind
theorem zls {W:World} {i:Nat} {R:RB} {o:IObj} (h:zc0 W i=some R) (ho:(impH W).get i=some o): ∃c t fr,W.heap[i]? =some (.cells c t fr)∧R=⟨i,0,c.size,roE,c.size,some (.cells c t fr)⟩:=by
 rcases zeW h with⟨-,h⟩| ⟨rfl,-⟩
 all_goals grind [zhm]
theorem dang_rel {W:World} {v:Value} {b:Nat} (hb:zbG W b=true) (h:isDang v=true):VR (zc0 W) (dang W) v:=by
 unfold isDang at h
 split at h
 ·refine .sliceD (R:=⟨Classical.choose (⟨b,hb⟩: ∃b,zbG W b=true),0,0,0,1,W.heap[Classical.choose (⟨b,hb⟩: ∃b,zbG W b=true)]?⟩) ?_ (by grind)
  grind [zc0,dangR]
 grind
theorem impRho_fix {W:World} {i:Nat} {R:RB} (h:zc0 W i=some R):R.fix≠none:=by
 unfold zc0 at h
 split at h
 ·unfold dangR at h
  split at h
  ·rename_i hx;cases h
   have h2:zbG W (Classical.choose hx)=true:=Classical.choose_spec hx
   intro e
   have e:W.heap[Classical.choose hx]? =none:=e
   have:=zh4 h2
   rw[Array.getElem?_eq_none_iff] at e
   omega
  ·cases h
 ·obtain⟨o,ho,h⟩:=aof h
  cases o with
  |cells c t fr=>cases h;nofun
  |_=>cases h
theorem imp_HR (W:World) (hg:GlOk W):HR P (zc0 W) (impH W) W where
 gl:=⟨hg,fun _ _ _ _ _ hi _=>impRho_fix hi⟩
 obj:=fun i R o hi ho=>by
  obtain⟨c,t,fr,hb,rfl⟩:=zls hi ho
  rw[zh7 hb] at ho;cases ho
  refine⟨rfl,by simp,c,t,fr,hb,.inr ⟨rfl,rfl⟩,rfl,by simp,fun j v hj=> ?_⟩
  rw[List.getElem?_map] at hj
  obtain⟨x,hx,rfl⟩:=Option.map_eq_some_iff.1 hj
  refine⟨x,by grind,?_⟩
  unfold impV
  by_cases hok:okV W x=true
  ·grind [okV_rel]
  ·rw[if_neg hok]
   by_cases hd:isDang x=true
   ·rw[if_pos hd];exact .inr (dang_rel (b:=i) (by grind [zbG]) hd)
   grind
 nxt:=fun i hi=>by
  have hi':W.heap.size+1≤i:=hi
  grind [zc0,zhm]
 sep:=fun i j R S hi hj ai aj e=>by
  obtain⟨o,ho,-⟩:=ai
  obtain⟨o',ho',-⟩:=aj
  grind [zls]
 blk:=fun i R hi=>by
  rcases zeW hi with⟨-,_,_,_,hb,rfl⟩| ⟨-,hc⟩
  ·grind
  ·exact zh4 hc
 glb:=fun i b x hi=>by
  rw[zhm] at hi
  obtain⟨o,-,ho⟩:=aof hi
  cases o<;>cases ho
def okArg (W:World):Value→Bool
 |.agg cs=>cs.toList.all (okV W)
 |v=>okV W v
theorem okArg_rel {W:World} {v:Value} (h:okArg W v=true):VR (zc0 W) v v:=by
 unfold okArg at h
 split at h
 ·rename_i cs
  have:VRL (zc0 W) cs.toList cs.toList:=⟨rfl,fun j x y hx hy=>by grind [okV_rel]⟩
  exact VR.agg_of this
 grind [okV_rel]
theorem calls_import {F:FuncId→Option zb} (hmix:P.follows .mixedOrders=true) (hF: ∀g cf,F g=some cf→FnOk P g cf) {g:FuncId} {args:Array Value} {W:World} (hg:GlOk W) (hargs: ∀v∈args.toList,okArg W v=true)
 {b:Bool} {n:Nat} {h':H} (hn:E F n (.call (.func (.func g) #[] #[]) args.toList (impH W))=some (.val (.bool b) h')) (hfr: ∀i,i<W.heap.size→h'.get i=(impH W).get i):
 Calls P g args W fun e W'=>e=.returned (.bool b)∧Same W W':=by
 have ra:VRL (zc0 W) args.toList args.toList:=⟨rfl,fun j x y hx hy=>by grind [okArg_rel]⟩
 refine(zih hmix hF hn ra (imp_HR W hg)).mono ?_
 rintro e W' ⟨v',σ,rfl,hv,hr,hx⟩
 refine⟨by rw[hv.inv_bool],hx.os,hx.out,fun B hB=> ?_,hx.froz,hx.td,hx.size⟩
 by_cases hc:zbG W B=true
 ·obtain⟨R,hR,hb,h0⟩:=zft hc
  obtain⟨-,c,t,fr,hWB,rfl⟩:=(zeW hR).resolve_right (fun h=>by omega)
  have ho:=hr.obj B _ _ (hx.le _ _ hR) (by rw[hfr B hB];exact zh7 hWB)
  obtain⟨_,_,c',t',fr',q1,q2,_⟩:=ho
  rcases q2 with⟨q2,_⟩| ⟨q2,_⟩
  all_goals grind
 ·refine hx.frame B hB fun i R hi e=> ?_
  grind [zeW,zbG]
def globH (b:Nat) (x:Value):H:=H.empty.new (.glob b x)
def zfz (b:Nat) (o:Obj) (i:Nat):Option RB:=if i=0 then some ⟨b,0,0,0,0,some o⟩ else none
theorem glob_HR {b:Nat} {x:Value} {W:World} {c:Array Value} {t:TypeId} {fr:Nat×Nat} (hW:W.heap[b]? =some (.cells c t fr)) (hx:c[0]? =some x) (hg:GlOk W):HR P (zfz b (.cells c t fr)) (globH b x) W where
 gl:=⟨hg,fun _ _ _ i R hi _=>by
  unfold zfz at hi
  split at hi
  ·cases hi;nofun
  ·cases hi⟩
 obj:=fun i R o hi ho=>by
  unfold zfz at hi
  split at hi
  ·rename_i e;subst e;cases hi
   have ho:(globH b x).get 0=some o:=ho
   rw[show(globH b x).get 0=some (.glob b x) from by unfold globH;rw[H.get_new];exact if_pos rfl] at ho
   cases ho
   exact⟨rfl,c,t,fr,rfl,hW,hx⟩
  grind
 nxt:=fun i hi=>by
  have hi:1≤i:=hi
  refine⟨by grind [zfz],?_⟩
  unfold globH;rw[H.get_new,if_neg (by show¬(0=i);omega)];simp_all
 sep:=fun i j R S hi hj _ _ _=>by
  grind [zfz]
 blk:=fun i R hi=>by
  grind [zfz]
 glb:=fun i b' x' hi=>by
  unfold globH at hi
  rw[H.get_new] at hi
  by_cases e:H.empty.next=i
  ·subst e;exact⟨_,rfl⟩
  simp_all
theorem calls_glob {F:FuncId→Option zb} (hmix:P.follows .mixedOrders=true) (hF: ∀g cf,F g=some cf→FnOk P g cf) {g:FuncId} {b n:Nat} {x:Value} {h':H} {t:Bool}
 (he:E F n (.call (.func (.func g) #[] #[]) [] (globH b x))=some (.val (.bool t) h')) (hg:h'.get 0=some (.glob b x)) {W:World} (hgl:GlOk W) (hW:W.cell? ⟨b,0,none⟩=some x):Calls P g #[] W fun e W'=>e=.returned (.bool t)∧Same W W':=by
 obtain⟨c,ty,fr,hb,hx⟩: ∃c t fr,W.heap[b]? =some (.cells c t fr)∧c[0]? =some x:=by
  grind [World.cell?]
 refine(zih hmix hF he (args':= #[]) ⟨rfl,fun j x y hx=>by grind⟩ (glob_HR hb hx hgl)).mono ?_
 rintro e w' ⟨v',σ,rfl,hv,hr,hx'⟩
 refine⟨by rw[hv.inv_bool],hx'.os,hx'.out,fun B hB=> ?_,hx'.froz,hx'.td,hx'.size⟩
 have h0:zfz b (.cells c ty fr) 0=some ⟨b,0,0,0,0,some (.cells c ty fr)⟩:=rfl
 by_cases e:B=b
 ·subst e
  obtain⟨-,c',t',fr',q1,q2,-⟩:=hr.obj 0 _ _ (hx'.le _ _ h0) hg
  grind
 ·refine hx'.frame B hB fun i R hi e'=> ?_
  grind [zfz]
section
open Go.ChangeShapes Go.WideShapes Go.RowKit
variable {H:Type} {enc:TypeId×Value→H}
theorem Same.kept {W W':World} (h:Same W W') (may:MemPlace→Prop):W.keptBut W' may:=by
 refine⟨h.os,h.out,fun i hi=> ?_⟩
 rw[h.heap i hi]
 grind
theorem Same.at {W W':World} (h:Same W W') {p:MemPlace} (hp:p.block<W.heap.size):W.sameAt W' p:=by
 cases p with
 |cell b off=>
  show W'.cell? ⟨b,off,none⟩=W.cell? ⟨b,off,none⟩
  have:=h.heap b hp
  grind [World.cell?]
 |map b=>exact h.heap b hp
theorem zg1 (hl:laidOutB P=true) {W W':World} {sp':Nat→Bool} (hs:Same W W'): ∀{ts:List TypeId} {vs:List Value} {ds:List (DataW H)} {ps:List MemPlace},(∀t∈ts,P.readableRec t=true∧t<P.types.size)→
 DataW.TrodAll enc P W 0 (fun _=>true) true ts vs ds ps→(∀p∈ps,p.block<W.heap.size)→(∀p∈ps,sp' p.block=true)→DataW.TrodAll enc P W' 0 sp' true ts vs ds ps
 | [],vs,ds,ps,_,h,_,_=>by
   obtain⟨rfl,rfl,rfl⟩:=trodAll_nil h
   exact trodAll_mk0
 |t::ts,vs,ds,ps,ht,h,hlt,hsp=>by
  obtain⟨v,vs',d,ds',p,q,rfl,rfl,rfl,h1,h2⟩:=trodAll_cons h
  obtain⟨r1,r2⟩:=ht t (by simp)
  exact trodAll_cons_mk (WideElems.Trod_stays hl r1 r2 h1 (fun x hx=>hs.at (hlt x (by simp[hx]))) (fun x hx=>hsp x (by simp[hx])))
   (zg1 hl hs (fun t ht'=>ht t (by grind)) h2 (fun x hx=>hlt x (by simp[hx])) (fun x hx=>hsp x (by simp[hx])))
theorem post_kept {f:Func} {s:ChangeSpec} {apart fresh handsOn again:Bool} {W W':World} {args:Array Value} {v:Value} {ds gs:List (DataW H)} {before pa pv:List MemPlace}
 (hW:DataW.Whole enc P f.params.toList s.vars apart W args.toList ds gs before)
 (hres: ∀(b:Nat) (sp:Nat→Bool) (hd:Bool),DataW.TrodAll enc P W' b sp hd f.resultTypes.toList (v.resultList f.resultTypes.size) (s.fn H (ds++gs)).results [])
 (hargs: ∀sp:Nat→Bool,(∀p∈before,sp p.block=true)→DataW.TrodAll enc P W' 0 sp true f.params.toList args.toList (s.fn H (ds++gs)).args pa)
 (hvars: ∀sp:Nat→Bool,(∀p∈before,sp p.block=true)→DataW.TrodVars enc P W' sp s.vars (s.fn H (ds++gs)).vars pv)
 (hps:before=pa++pv) (hk:W.keptBut W' (· ∈before)) (hfz: ∀a:Addr,a.block<W.heap.size→W'.frozen? a=W.frozen? a)
 (hok: ∀(j:Nat) (t:TypeId) (r:Value),f.resultTypes[j]? =some t→(v.resultList f.resultTypes.size)[j]? =some r→Value.okWide P W' .any 0 t r):
 s.post enc P f apart fresh handsOn again W args v W':=by
 refine⟨ds,gs,before,[],pa,pv,hW,hres _ _ _,hargs _ fun p hp=>by simpa using hW.lt p hp,hvars _ fun p hp=>by simpa using hW.lt p hp,World.keptBut_mono (fun p hp=>⟨hp,?_⟩) hk,fun _=> ?_⟩
 ·grind
 ·have hlt:=hW.lt
  obtain⟨_,_,_,_,_,hz,hn⟩:=hW
  refine⟨hok,_,_,([]++pa)++pv,⟨[]++pa,pv,trodAll_append (hargs _ (fun _ _=>rfl)) (hres _ _ _),hvars _ (fun _ _=>rfl),rfl,fun b off hp=> ?_,fun ha=> ?_⟩,fun p hp _=> ?_⟩
  ·have hb:MemPlace.cell b off∈before:=by grind
   rw[hfz ⟨b,off,none⟩ (hlt _ hb)]
   exact hz b off hb
  all_goals grind
theorem law_post {s:ChangeSpec} {fn:Func} {apart fresh handsOn again:Bool} {W W':World} {args:Array Value} {ds gs:List (DataW H)} {before:List MemPlace} {t:TypeId} (hW:DataW.Whole enc P fn.params.toList s.vars apart W args.toList ds gs before)
 (hvars:s.vars=[]) (hspec:s.fn H (ds++gs)={results:=[.lit (.bool true)],args:=ds}) (hres:fn.resultTypes= #[t]) (ht:P.underlying t=some .bool) (hsame:Same W W') (hl:laidOutB P=true) (hr: ∀t∈fn.params.toList,P.readableRec t=true∧t<P.types.size):
 s.post enc P fn apart fresh handsOn again W args (.bool true) W':=by
 have hW':=hW
 obtain⟨p,q,hA,hV,rfl,hfz,hnd⟩:=hW
 rw[hvars] at hV
 obtain⟨rfl,rfl⟩:=trodVars_none hV
 refine post_kept (pa:=p) (pv:=[]) hW' (fun b sp hd=> ?_) (fun sp hsp=> ?_) (fun sp hsp=> ?_) rfl (hsame.kept _) hsame.froz ?_
 ·rw[hspec,hres]
  exact trodAll_mk1 (shut_bool ht true)
 ·rw[hspec]
  exact zg1 hl hsame hr hA (fun x hx=>hW'.lt x (by simp[hx])) (fun x hx=>hsp x (by simp[hx]))
 ·rw[hspec,hvars];rfl
 ·exact ok_one hres rfl (okWide_bool_mk ht true)
end
end
end Go.Ideal
namespace Go.Ideal
noncomputable section
variable {P:Program}
def allEq {α:Type} (f:α→α→Bool):List α→List α→Bool
 | [],[]=>true
 |a::l,b::m=>f a b&&allEq f l m
 |_,_=>false
theorem zjc {α:Type} {f:α→α→Bool} (hf: ∀a b,f a b=true→a=b): ∀{l m:List α},allEq f l m=true→l=m
 | [],[],_=>rfl
 | [],_::_,h=>by cases h
 |_::_,[],h=>by cases h
 |a::l,b::m,h=>by
  simp only[allEq,Bool.and_eq_true] at h
  rw[hf _ _ h.1,zjc hf h.2]
def eqX:Nat→Value→Value→Bool
 |n+1,.agg a,.agg b=>allEq (eqX n) a.toList b.toList
 |n+1,.tuple a,.tuple b=>allEq (eqX n) a.toList b.toList
 |n+1,.iface t a,.iface u b=>Nat.beq t u&&eqX n a b
 |_,.nilIface,.nilIface=>true
 |_,.func (.func f) a b,.func (.func g) c d=>Nat.beq f g&&(a.isEmpty&&b.isEmpty&&(c.isEmpty&&d.isEmpty))
 |_,a,b=>zgm a b
theorem eqX_eq: ∀(n:Nat) (a b:Value),eqX n a b=true→a=b:=by
 intro n
 induction n with
 |zero=>
  intro a b h
  unfold eqX at h
  grind [Nat.eq_of_beq_eq_true,zht]
 |succ n ih=>
  intro a b h
  unfold eqX at h
  grind [Array.toList_inj,zjc,Nat.eq_of_beq_eq_true,zht]
def eqEnt (a b:Value×Value×Nat):Bool:=eqX 4 a.1 b.1&&(eqX 4 a.2.1 b.2.1&&Nat.beq a.2.2 b.2.2)
theorem eqEnt_eq (a b:Value×Value×Nat) (h:eqEnt a b=true):a=b:=by
 grind [eqEnt,eqX_eq,Nat.eq_of_beq_eq_true]
def eqObj:IObj→IObj→Bool
 |.cells a e,.cells b f=>Nat.beq e f&&allEq (eqX 4) a b
 |.map a c,.map b d=>Nat.beq c d&&allEq eqEnt a b
 |.glob b x,.glob c y=>Nat.beq b c&&eqX 4 x y
 |.dead,.dead=>true
 |_,_=>false
theorem eqObj_eq {a b:IObj} (h:eqObj a b=true):a=b:=by
 unfold eqObj at h
 grind [Nat.eq_of_beq_eq_true,zjc,eqX_eq,eqEnt_eq]
def liveO:IObj→Bool
 |.dead=>false
 |_=>true
def refF (S:Nat→Bool):Nat→Value→Bool
 |n+1,.agg a=>a.toList.all (refF S n)
 |n+1,.tuple a=>a.toList.all (refF S n)
 |n+1,.iface _ v=>refF S n v
 |_,.pointer (some a)=>S a.block
 |_,.slice (some a) _ _=>S a.block
 |_,.map (some i)=>S i
 |_,.func (.func _) a b=>a.isEmpty&&b.isEmpty
 |_,.bool _=>true
 |_,.int _ _=>true
 |_,.string _=>true
 |_,.pointer none=>true
 |_,.slice none _ _=>true
 |_,.map none=>true
 |_,.nilFunc=>true
 |_,.nilIface=>true
 |_,.complex _ _ _=>true
 |_,_=>false
theorem VR.agree {ρ σ:Rho} {S:Nat→Bool} (hS: ∀i,S i=true→σ i=ρ i): ∀(n:Nat) {v v':Value},VR ρ v v'→refF S n v=true→VR σ v v':=by
 intro n
 induction n with
 |zero=>
  intro v v' h hv
  cases h with
  |bool b=>exact .bool b
  |int k n=>grind [int]
  |str s=>exact .str s
  |ptrNil=>exact .ptrNil
  |ptr h=>exact .ptr ((hS _ hv).trans h)
  |sliceNil=>exact .sliceNil
  |slice h hc hl=>exact .slice ((hS _ hv).trans h) hc hl
  |sliceO h he hl hs hb=>exact .sliceO ((hS _ hv).trans h) he hl hs hb
  |sliceE h he hb=>exact .sliceE ((hS _ hv).trans h) he hb
  |sliceD h hm=>exact .sliceD ((hS _ hv).trans h) hm
  |sliceR h he hl=>exact .sliceR ((hS _ hv).trans h) he hl
  |mapNil=>exact .mapNil
  |map h=>exact .map ((hS _ hv).trans h)
  |func f ha hb ra rb=>
   have hv:(Array.isEmpty _&&Array.isEmpty _)=true:=hv
   grind [func]
  |yield h=>cases hv
  |nilFunc=>exact .nilFunc
  |nilIface=>exact .nilIface
  |iface t h=>cases hv
  |agg ha ra=>cases hv
  |tuple ha ra=>cases hv
 |succ n ih=>
  intro v v' h hv
  cases h with
  |bool b=>exact .bool b
  |int k n=>grind [int]
  |str s=>exact .str s
  |ptrNil=>exact .ptrNil
  |ptr h=>exact .ptr ((hS _ hv).trans h)
  |sliceNil=>exact .sliceNil
  |slice h hc hl=>exact .slice ((hS _ hv).trans h) hc hl
  |sliceO h he hl hs hb=>exact .sliceO ((hS _ hv).trans h) he hl hs hb
  |sliceE h he hb=>exact .sliceE ((hS _ hv).trans h) he hb
  |sliceD h hm=>exact .sliceD ((hS _ hv).trans h) hm
  |sliceR h he hl=>exact .sliceR ((hS _ hv).trans h) he hl
  |mapNil=>exact .mapNil
  |map h=>exact .map ((hS _ hv).trans h)
  |func f ha hb ra rb=>
   have hv:(Array.isEmpty _&&Array.isEmpty _)=true:=hv
   grind [func]
  |yield h=>cases hv
  |nilFunc=>exact .nilFunc
  |nilIface=>exact .nilIface
  |iface t h=>exact .iface t (ih h hv)
  |agg ha ra=>
   grind [agg,refF]
  |tuple ha ra=>
   grind [tuple,refF]
def refO (S:Nat→Bool):IObj→Bool
 |.cells cs _=>cs.all (refF S 4)
 |.map es _=>es.all fun e=>refF S 4 e.1&&refF S 4 e.2.1
 |.glob _ _=>true
 |.dead=>true
 |.loop _ _ _ _=>false
theorem OR.agree {ρ σ:Rho} {S:Nat→Bool} (hS: ∀i,S i=true→σ i=ρ i) {w:World} {R:RB} {o:IObj} (h:OR P ρ w R o) (ho:refO S o=true):OR P σ w R o:=by
 cases o with
 |cells cs esz=>
  obtain⟨h1,h2,c,t,fr,h3,h7,h4,h5,h6⟩:=h
  exact⟨h1,h2,c,t,fr,h3,h7,h4,h5,fun j v hj=>let⟨v',a,b⟩:=h6 j v hj;⟨v',a,b.imp id (fun b=>b.agree hS 4 (List.all_eq_true.1 ho v (List.mem_of_getElem? hj)))⟩⟩
 |map es clock=>
  obtain⟨es',h1,h2,h3⟩:=h
  refine⟨es',h1,h2,fun j e hj=> ?_⟩
  obtain⟨e',a,b,c,d⟩:=h3 j e hj
  have:=List.all_eq_true.1 ho e (List.mem_of_getElem? hj)
  rw[Bool.and_eq_true] at this
  exact⟨e',a,b.agree hS 4 this.1,c.agree hS 4 this.2,d⟩
 |glob b x=>exact h
 |loop _ _ _ _=>cases ho
 |dead=>trivial
theorem VRL.agree {ρ σ:Rho} {S:Nat→Bool} (hS: ∀i,S i=true→σ i=ρ i) {xs ys:List Value} (h:VRL ρ xs ys) (hx:xs.all (refF S 4)=true):VRL σ xs ys:=
 ⟨h.1,fun j x y h1 h2=>(h.2 j x y h1 h2).agree hS 4 (List.all_eq_true.1 hx x (List.mem_of_getElem? h1))⟩
structure zda where
 args:List Value
 next:Nat
 pre:List (Nat×IObj)
 val:Value
 next':Nat
 post:List (Nat×IObj)
def zld (l:List (Nat×IObj)) (t:PT IObj):PT IObj:=List.rec (motive:=fun _=>PT IObj) t (fun x _ ih=>ih.set (bits x.1) x.2) l
def matchH (h:H) (l:List (Nat×IObj)):Bool:=l.all fun x=>match h.get x.1 with
 |some o=>eqObj o x.2
 |none=>false
def zbu (l:List (Nat×IObj)) (i:Nat):Bool:=l.any fun x=>Nat.beq x.1 i
def zda.fits (p:zda) (args:List Value) (h:H):Bool:=Nat.beq h.next p.next&&(allEq (eqX 4) args p.args&&matchH h p.pre)
def zda.out (p:zda) (h:H):Value×H:=(p.val,⟨p.next',zld p.post h.mem⟩)
def piecesV (l:List zda) (args:List Value) (h:H):Option (Value×H):=
 List.rec (motive:=fun _=>Option (Value×H)) none (fun p _ ih=>match p.fits args h with|true=>some (p.out h)|false=>ih) l
def zda.start (p:zda):H:=⟨p.next,zld p.pre .nil⟩
def zda.ends (p:zda):Option Out→Bool
 |some (.val v h)=>eqX 4 v p.val&&(Nat.beq h.next p.next'&&matchH h p.post)
 |_=>false
def zda.runs (F:FuncId→Option zb) (n:Nat) (g:FuncId) (p:zda):Bool:=p.ends (E F n (.call (.func (.func g) #[] #[]) p.args p.start))
def zda.good (p:zda):Bool:=
 Nat.ble p.next p.next'&&(p.pre.all (fun x=>Nat.blt x.1 p.next&&zbu p.post x.1)&&(p.post.all (fun x=>zbu p.pre x.1||(Nat.ble p.next x.1&&Nat.blt x.1 p.next'))&&
 (p.args.all (refF (zbu p.pre) 4)&&(p.pre.all (fun x=>liveO x.2&&refO (zbu p.pre) x.2)&&(refF (zbu p.post) 4 p.val&&p.post.all (fun x=>refO (zbu p.post) x.2))))))
theorem hasId_iff {l:List (Nat×IObj)} {i:Nat}:zbu l i=true↔ ∃o,(i,o)∈l:=by
 grind [zbu,Nat.eq_of_beq_eq_true,Nat.beq_refl]
theorem zlc {l:List (Nat×IObj)} {t:PT IObj} {i:Nat} (h:zbu l i=false):(zld l t).get (bits i)=t.get (bits i):=by
 induction l with
 |nil=>rfl
 |cons x l ih=>
  have h':(Nat.beq x.1 i||zbu l i)=false:=h
  grind [zld,PT.get_set_bits,Nat.beq_refl]
theorem setAll_in {l:List (Nat×IObj)} {t:PT IObj} {i:Nat} (h:zbu l i=true): ∃o,(i,o)∈l∧(zld l t).get (bits i)=some o:=by
 induction l with
 |nil=>cases h
 |cons x l ih=>
  grind [zld,PT.get_set_bits,zbu,Nat.eq_of_beq_eq_true]
theorem zlq {h:H} {l:List (Nat×IObj)} (hm:matchH h l=true) {i:Nat} {o:IObj} (hi:(i,o)∈l):h.get i=some o:=by
 have:=List.all_eq_true.1 hm _ hi
 grind [eqObj_eq]
theorem piece_calls {F:FuncId→Option zb} (hmix:P.follows .mixedOrders=true) (hF: ∀g cf,F g=some cf→FnOk P g cf) {n:Nat} {g:FuncId} {p:zda} (hg:p.good=true) (hrun:p.runs F n g=true)
 {args:List Value} {h:H} (hfit:p.fits args h=true) {ρ:Rho} {args':Array Value} {w:World} (ra:VRL ρ args args'.toList) (hr:HR P ρ h w):
 Calls P g args' w (ziT P ρ w (.val (p.out h).1 (p.out h).2)):=by
 simp only[zda.good,Bool.and_eq_true] at hg
 obtain⟨g1,g2,g3,g4,g5,g6,g7⟩:=hg
 simp only[zda.fits,Bool.and_eq_true] at hfit
 obtain⟨f1,f2,f3⟩:=hfit
 have f2:=zjc (eqX_eq 4) f2
 subst f2
 have f1:=Nat.eq_of_beq_eq_true f1
 have g1:=Nat.le_of_ble_eq_true g1
 have preLt: ∀i,zbu p.pre i=true→i<p.next∧zbu p.post i=true:=fun i hi=>by
  obtain⟨o,ho⟩:=hasId_iff.1 hi
  have:=List.all_eq_true.1 g2 _ ho
  simp_all
 have postIn: ∀i,zbu p.post i=true→zbu p.pre i=true∨(p.next≤i∧i<p.next'):=fun i hi=>by
  obtain⟨o,ho⟩:=hasId_iff.1 hi
  have:=List.all_eq_true.1 g3 _ ho
  simp_all
 have preGet: ∀i,zbu p.pre i=true→ ∃o,h.get i=some o∧o≠ .dead∧p.start.get i=some o∧refO (zbu p.pre) o=true:=fun i hi=>by
  obtain⟨o,h1,h2⟩:=setAll_in (t:=.nil) hi
  have q1:=zlq f3 h1
  have q4:=List.all_eq_true.1 g5 _ h1
  rw[Bool.and_eq_true] at q4
  exact⟨o,q1,by rintro rfl;exact Bool.false_ne_true q4.1,h2,q4.2⟩
 have preNo: ∀i,zbu p.pre i=false→p.start.get i=none:=fun i hi=>(zlc hi).trans (PT.get_nil _)
 obtain⟨ρ',hρ'⟩: ∃ρ':Rho,∀i,ρ' i=if zbu p.pre i=true then ρ i else none:=⟨_,fun _=>rfl⟩
 have agr: ∀i,zbu p.pre i=true→ρ' i=ρ i:=fun i hi=>by grind
 have sub: ∀i R,ρ' i=some R→zbu p.pre i=true∧ρ i=some R:=fun i R hi=>by
  grind
 have hr':HR P ρ' p.start w:={
  obj:=fun i R o hi ho=>by
   obtain⟨hc,hi⟩:=sub i R hi
   obtain⟨o',q1,q2,q3,q4⟩:=preGet i hc
   have e:o'=o:=Option.some.inj (q3.symm.trans ho)
   subst e
   exact(hr.obj i R o' hi q1).agree agr q4
  nxt:=fun i hi=>by
   have hi:p.next≤i:=hi
   grind
  sep:=fun i j R S hi hj _ _ e=>by
   obtain⟨hc,hi⟩:=sub i R hi
   obtain⟨hd,hj⟩:=sub j S hj
   obtain⟨o,q1,q2,-,-⟩:=preGet i hc
   obtain⟨o',r1,r2,-,-⟩:=preGet j hd
   exact hr.sep i j R S hi hj ⟨o,q1,q2⟩ ⟨o',r1,r2⟩ e
  blk:=fun i R hi=>hr.blk i R (sub i R hi).2
  gl:=⟨hr.gl.1,fun b x e i R hi hs=>hr.gl.2 b x e i R (sub i R hi).2 hs⟩
  glb:=fun i b x hi=>by
   cases hc:zbu p.pre i with
   |false=>grind
   |true=>
    obtain⟨o',q1,-,q3,-⟩:=preGet i hc
    have e:o'=.glob b x:=Option.some.inj (q3.symm.trans hi)
    subst e
    obtain⟨R,hR⟩:=hr.glb i b x q1
    grind}
 have ra':VRL ρ' p.args args'.toList:=ra.agree agr g4
 unfold zda.runs at hrun
 generalize he:E F n (.call (.func (.func g) #[] #[]) p.args p.start)=out at hrun
 unfold zda.ends at hrun
 split at hrun
 ·rename_i v h2
  simp only[Bool.and_eq_true] at hrun
  obtain⟨e1,e2,e3⟩:=hrun
  obtain rfl:=eqX_eq _ _ _ e1
  have e2:=Nat.eq_of_beq_eq_true e2
  refine(zih hmix hF he ra' hr').mono ?_
  rintro e w' ⟨v',σ2,rfl,hv,hr2,hx⟩
  obtain⟨σ,hσ⟩: ∃σ:Rho,∀i,σ i=if zbu p.post i=true then σ2 i else ρ i:=⟨_,fun _=>rfl⟩
  have agr2: ∀i,zbu p.post i=true→σ i=σ2 i:=fun i hi=>by grind
  have oth: ∀i,zbu p.post i=false→σ i=ρ i:=fun i hi=>by grind
  have le:zhD ρ σ:=fun i R hi=>by
   cases hc:zbu p.post i with
   |false=>grind
   |true=>
    rw[agr2 i hc]
    rcases postIn i hc with hp| ⟨hp,-⟩
    ·exact hx.le i R ((agr i hp).trans hi)
    ·have:=(hr.nxt i (by omega)).1;grind
  have postGet: ∀i,zbu p.post i=true→ ∃o,h2.get i=some o∧(p.out h).2.get i=some o∧refO (zbu p.post) o=true:=fun i hi=>by
   obtain⟨o,h1,h3⟩:=setAll_in (t:=h.mem) hi
   have q1:=zlq e3 h1
   exact⟨o,q1,h3,List.all_eq_true.1 g7 _ h1⟩
  have postNo: ∀i,zbu p.post i=false→(p.out h).2.get i=h.get i:=fun i hi=>zlc hi
  have apart: ∀i R j S,zbu p.post i=true→σ2 i=some R→zbu p.post j=false→ρ j=some S→zeF h j→R.blk≠S.blk:=fun i R j S hi hiR hj hjS aj e=>by
   rcases hx.fresh i R hiR with⟨k,T,hk,hT⟩|hb
   ·obtain⟨hc,hk⟩:=sub k T hk
    obtain⟨o,q1,q2,-,-⟩:=preGet k hc
    have:=hr.sep k j T S hk hjS ⟨o,q1,q2⟩ aj (hT.trans e)
    grind
   ·have:=hr.blk j S hjS;omega
  have hrN:HR P σ (p.out h).2 w':={
   gl:=⟨hr2.gl.1,fun b x e i R hi hs=>by
    cases hc:zbu p.post i with
    |true=>rw[agr2 i hc] at hi;exact hr2.gl.2 b x e i R hi hs
    |false=>rw[oth i hc] at hi;exact hr.gl.2 b x e i R hi hs⟩
   obj:=fun i R o hi ho=>by
    cases hc:zbu p.post i with
    |true=>
     rw[agr2 i hc] at hi
     obtain⟨o',q1,q3,q4⟩:=postGet i hc
     have e:o'=o:=Option.some.inj (q3.symm.trans ho)
     subst e
     exact(hr2.obj i R o' hi q1).agree agr2 q4
    |false=>
     rw[oth i hc] at hi
     rw[postNo i hc] at ho
     by_cases hd:o=.dead
     ·subst hd;trivial
     ·refine(hr.obj i R o hi ho).mono le (hx.frame _ (hr.blk i R hi) fun j S hj e=> ?_)
      obtain⟨hp,hj⟩:=sub j S hj
      obtain⟨o',q1,q2,-,-⟩:=preGet j hp
      have:=hr.sep j i S R hj hi ⟨o',q1,q2⟩ ⟨o,ho,hd⟩ e
      grind
   nxt:=fun i hi=>by
    have hi:p.next'≤i:=hi
    have hc:zbu p.post i=false:=by
     grind
    rw[oth i hc,postNo i hc]
    exact hr.nxt i (by omega)
   sep:=fun i j R S hi hj ai aj e=>by
    have al: ∀k,zbu p.post k=true→zeF (p.out h).2 k→zeF h2 k:=fun k hk ⟨o,h1,h3⟩=>by
     obtain⟨o',q1,q2,-⟩:=postGet k hk
     have e:o'=o:=Option.some.inj (q2.symm.trans h1)
     subst e;exact⟨o',q1,h3⟩
    have al': ∀k,zbu p.post k=false→zeF (p.out h).2 k→zeF h k:=fun k hk ⟨o,h1,h3⟩=>⟨o,(postNo k hk).symm.trans h1,h3⟩
    cases hc:zbu p.post i with
    |true=>
     rw[agr2 i hc] at hi
     cases hd:zbu p.post j with
     |true=>rw[agr2 j hd] at hj;exact hr2.sep i j R S hi hj (al i hc ai) (al j hd aj) e
     |false=>grind
    |false=>
     rw[oth i hc] at hi
     cases hd:zbu p.post j with
     |true=>grind
     |false=>rw[oth j hd] at hj;exact hr.sep i j R S hi hj (al' i hc ai) (al' j hd aj) e
   blk:=fun i R hi=>by
    cases hc:zbu p.post i with
    |true=>rw[agr2 i hc] at hi;exact hr2.blk i R hi
    |false=>rw[oth i hc] at hi;exact Nat.lt_of_lt_of_le (hr.blk i R hi) hx.size
   glb:=fun i b x hi=>by
    cases hc:zbu p.post i with
    |true=>
     obtain⟨o',q1,q3,-⟩:=postGet i hc
     have e:o'=.glob b x:=Option.some.inj (q3.symm.trans hi)
     subst e
     obtain⟨R,hR⟩:=hr2.glb i b x q1
     grind
    |false=>
     rw[postNo i hc] at hi
     obtain⟨R,hR⟩:=hr.glb i b x hi
     grind}
  refine⟨_,_,v',σ,rfl,rfl,hv.agree agr2 4 g6,hrN,le,hx.size,fun i R hi=> ?_,fun B hB hn=>hx.frame B hB fun i R hi=>hn i R (sub i R hi).2,hx.loops,hx.os,hx.out,hx.froz,hx.td⟩
  cases hc:zbu p.post i with
  |true=>
   rw[agr2 i hc] at hi
   rcases hx.fresh i R hi with⟨j,S,hj,e⟩|hb
   all_goals grind
  |false=>grind
 grind
theorem pieces_ok (hmix:P.follows .mixedOrders=true) {g:FuncId} {fn:Func} {cf0:zb} (hfn:P.funcs[g]? =some fn) (hcf:zbp P fn=some (zfl cf0))
 {l:List zda} (hl: ∀p∈l,p.good=true∧ ∃F n,(∀g cf,F g=some cf→FnOk P g cf)∧p.runs F n g=true):FnOk P g (primW (piecesV l) cf0):=by
 refine .inr (.inr (.inr ⟨_,fn,cf0,rfl,⟨fun args w=> ?_,fun args h v h' hp ρ args' w ra hr=> ?_⟩,hfn,hcf⟩))
 ·obtain⟨hname,c,hbody,-⟩:=zbO hcf
  simp_all[callFunc]
 ·induction l with
  |nil=>cases hp
  |cons p l ih=>
   have hp:(match p.fits args h with|true=>some (p.out h)|false=>piecesV l args h)=some (v,h'):=hp
   split at hp
   ·rename_i hfit
    obtain⟨q1,F,n,hF,q2⟩:=hl p (by simp)
    grind [piece_calls]
   grind
def lookE (l:List (Nat×zb)) (g:Nat):Option zb:=List.rec (motive:=fun _=>Option zb) none (fun p _ ih=>match Nat.beq p.1 g with|true=>some p.2|false=>ih) l
theorem zhk: ∀{t:List (Nat×zb)} {g:Nat} {cf:zb},lookE t g=some cf→ ∃p∈t,p.1=g∧p.2=cf
 | [],g,x,h=>by cases h
 |p::t,g,x,h=>by
  have h:(match Nat.beq p.1 g with|true=>some p.2|false=>lookE t g)=some x:=h
  split at h
  ·simp_all
  ·obtain⟨q,hq,e⟩:=zhk h;grind
def overF (l:List (Nat×zb)) (F:FuncId→Option zb):FuncId→Option zb:=fun g=>match lookE l g with
 |some cf=>some cf
 |none=>F g
theorem over_ok {l:List (Nat×zb)} {F:FuncId→Option zb} (hl: ∀p∈l,FnOk P p.1 p.2) (hF: ∀g cf,F g=some cf→FnOk P g cf): ∀g cf,overF l F g=some cf→FnOk P g cf:=by
 grind [overF,zhk]
theorem look_ok {l:List (Nat×zb)} (hl: ∀p∈l,FnOk P p.1 p.2): ∀g cf,lookE l g=some cf→FnOk P g cf:=by grind [zhk]
def endsT (x:Value):Option Out→Bool
 |some (.val (.bool true) h)=>(match h.get 0 with|some o=>eqObj o (.glob 0 x)|none=>false)
 |_=>false
theorem endsT_some {x:Value} {o:Option Out} (h:endsT x o=true): ∃h',o=some (.val (.bool true) h')∧h'.get 0=some (.glob 0 x):=by
 unfold endsT at h
 grind [eqObj_eq]
end
end Go.Ideal
namespace Go.Ideal
open Go
variable {P:Program}
def AllC (P:Program) (l:List (Nat×zb)):Prop:=l.map (fun x=>(P.funcs[x.1]?).bind (zbp P))=l.map fun x=>some (zfl x.2)
theorem AllC.mem {l:List (Nat×zb)} (h:AllC P l): ∀p∈l,∃fn,P.funcs[p.1]? =some fn∧zbp P fn=some (zfl p.2):=by
 unfold AllC at h
 induction l with
 |nil=>grind
 |cons x l ih=>
  grind
theorem AllC.at {l:List (Nat×zb)} (h:AllC P l) {g:Nat} {cf:zb} (hg:lookE l g=some cf): ∃fn,P.funcs[g]? =some fn∧zbp P fn=some (zfl cf):=by
 obtain⟨p,hp,rfl,rfl⟩:=zhk hg
 exact h.mem p hp
theorem AllC.ok {l:List (Nat×zb)} (h:AllC P l): ∀p∈l,FnOk P p.1 p.2:=fun p hp=>.inl (h.mem p hp)
theorem AllC.app {l m:List (Nat×zb)} (h:AllC P l) (h2:AllC P m):AllC P (l++m):=by
 grind [AllC]
theorem AllC.pieces (hmix:P.follows .mixedOrders=true) {l:List (Nat×zb)} (h:AllC P l) {g:Nat} {cf:zb} (hg:lookE l g=some cf) {ps:List zda}
 (hl: ∀p∈ps,p.good=true∧ ∃F n,(∀g cf,F g=some cf→FnOk P g cf)∧p.runs F n g=true):FnOk P g (primW (piecesV ps) cf):=by
 obtain⟨fn,h1,h2⟩:=h.at hg
 grind [pieces_ok]
end Go.Ideal
set_option maxRecDepth 100000
namespace Go.Ideal.Q
noncomputable section
def tab0:List (Nat×zb):=[(8,f_n),(15,f_s),(19,f_B),(29,f_I),(36,f_M),(37,f_H),(38,f_y),(39,f_e),(40,f_N),(41,f_j),(42,f_P),(50,f_f),(52,f_C),(60,f_d),(76,f_q),(78,f_l),(79,f_Q),(80,f_O),(81,f_w),(82,f_G),(83,f_m),(84,f_g),(85,f_W),(86,f_4),(94,f_J),(108,f_v),(109,f_c),(110,f_b),(119,f_S),(120,f_E)]
def tab1:List (Nat×zb):=[(145,f_A),(146,f_h),(147,f_L),(148,f_Z),(149,f_k),(153,f_K),(154,f_T),(155,f_a),(156,f_D),(185,f_u),(186,f_t),(187,f_p),(188,f_z),(189,f_1),(190,f_r),(191,f_R),(192,f_i),(193,f_2),(194,f_F),(195,f_o),(211,f_x),(212,f_5),(247,f_Y),(248,f_X),(249,f_U),(250,f_V),(251,f_0)]
def tabC:List (Nat×zb):=tab0++tab1
def tabF:List (Nat×zb):=(14,ziP true)::tabC
def F:FuncId→Option zb:=lookE tabF
theorem zd5:F n_n=some f_n:=by kernel_rfl
theorem zfx:F n_3=some (ziP true):=by kernel_rfl
theorem zfy:F n_s=some f_s:=by kernel_rfl
theorem zfw:F n_B=some f_B:=by kernel_rfl
theorem zdC:F n_I=some f_I:=by kernel_rfl
theorem h_swap_Self:F n_M=some f_M:=by kernel_rfl
theorem zf9:F n_H=some f_H:=by kernel_rfl
theorem h_swap_Then:F n_y=some f_y:=by kernel_rfl
theorem zf8:F n_e=some f_e:=by kernel_rfl
theorem ze0:F n_N=some f_N:=by kernel_rfl
theorem zga:F n_j=some f_j:=by kernel_rfl
theorem h_scope_Check:F n_P=some f_P:=by kernel_rfl
theorem zfe:F n_f=some f_f:=by kernel_rfl
theorem h_swap_fine:F n_C=some f_C:=by kernel_rfl
theorem zgM:F n_d=some f_d:=by kernel_rfl
theorem zeY:F n_q=some f_q:=by kernel_rfl
theorem zer:F n_l=some f_l:=by kernel_rfl
theorem h_swap_upTo:F n_Q=some f_Q:=by kernel_rfl
theorem h_swap_row:F n_O=some f_O:=by kernel_rfl
theorem zcu:F n_w=some f_w:=by kernel_rfl
theorem zf7:F n_G=some f_G:=by kernel_rfl
theorem zd3:F n_m=some f_m:=by kernel_rfl
theorem zeZ:F n_g=some f_g:=by kernel_rfl
theorem zf5:F n_W=some f_W:=by kernel_rfl
theorem zj7:F n_4=some f_4:=by kernel_rfl
theorem h_swap_list:F n_J=some f_J:=by kernel_rfl
theorem zgc:F n_v=some f_v:=by kernel_rfl
theorem zgL:F n_c=some f_c:=by kernel_rfl
theorem zdD:F n_b=some f_b:=by kernel_rfl
theorem zkW:F n_S=some f_S:=by kernel_rfl
theorem h_scope_look:F n_E=some f_E:=by kernel_rfl
theorem zgN:F n_A=some f_A:=by kernel_rfl
theorem zfv:F n_h=some f_h:=by kernel_rfl
theorem zd4:F n_L=some f_L:=by kernel_rfl
theorem zgK:F n_Z=some f_Z:=by kernel_rfl
theorem zd6:F n_k=some f_k:=by kernel_rfl
theorem h_scope_want:F n_K=some f_K:=by kernel_rfl
theorem h_term_Name:F n_T=some f_T:=by kernel_rfl
theorem zgd:F n_a=some f_a:=by kernel_rfl
theorem zc8:F n_D=some f_D:=by kernel_rfl
theorem zep:F n_u=some f_u:=by kernel_rfl
theorem zeq:F n_t=some f_t:=by kernel_rfl
theorem zd2:F n_p=some f_p:=by kernel_rfl
theorem zgb:F n_z=some f_z:=by kernel_rfl
theorem zj5:F n_1=some f_1:=by kernel_rfl
theorem zj6:F n_r=some f_r:=by kernel_rfl
theorem h_scope_exp:F n_R=some f_R:=by kernel_rfl
theorem h_scope_def:F n_i=some f_i:=by kernel_rfl
theorem h_scope_own:F n_2=some f_2:=by kernel_rfl
theorem zkX:F n_F=some f_F:=by kernel_rfl
theorem zd1:F n_o=some f_o:=by kernel_rfl
theorem h_scope_exp_1:F n_x=some f_x:=by kernel_rfl
theorem h_scope_def_1:F n_5=some f_5:=by kernel_rfl
theorem zgJ:F n_Y=some f_Y:=by kernel_rfl
theorem zf4:F n_X=some f_X:=by kernel_rfl
theorem zfu:F n_U=some f_U:=by kernel_rfl
theorem zf6:F n_V=some f_V:=by kernel_rfl
theorem zho:F n_0=some f_0:=by kernel_rfl
end
end Go.Ideal.Q
namespace Go.Ideal
noncomputable section
@[simp] theorem openCap_le {n:Nat} (h:n<1000000):(n<zc)=True:=eq_true (by unfold zc;omega)
def upS (s:DS):List (Nat×DV)→DS
 | []=>s
 | (q,d)::r=>upS ((bits q,d)::s) r
@[simp] theorem upS_nil (s:DS):upS s []=s:=id rfl
@[simp] theorem upS_cons (s:DS) (q:Nat) (d:DV) (r:List (Nat×DV)):upS s ((q,d)::r)=upS ((bits q,d)::s) r:=id rfl
section
variable {F:FuncId→Option zb} {n0:Nat}
theorem zcn.for {σ:Type} {L:List (List Bool)} {b b':CC} {K:KD} {s:DS} {M:VM} (hb:b=b') (U:Nat→σ→List (Nat×DV)) (G:σ→VM) (P:Nat→σ→Prop) (N:Nat) (x0:σ) (hs:s=zbM L (upS s (U 0 x0))) (hM:M=G x0) (h0:P 0 x0)
 (step: ∀i x,i<N→P i x→(∀x',P (i+1) x'→zcn F n0 L b K (zbM L (upS s (U (i+1) x'))) (G x'))→ @Cd (rD F n0) (.base (LoK F n0 L b K)) b' (zbM L (zbM L (upS s (U i x)))) (G x))
 (last: ∀x,P N x→ @Cd (rD F n0) (.base (LoK F n0 L b K)) b' (zbM L (zbM L (upS s (U N x)))) (G x)):zcn F n0 L b K s M:=by
 have main: ∀m i x,i+m=N→P i x→zcn F n0 L b K (zbM L (upS s (U i x))) (G x):=by
  intro m
  induction m with
  |zero=>grind [go]
  |succ m ih=>grind [go]
 have:=main N 0 x0 (by omega) h0
 grind
theorem zcn.while {σ:Type} {L:List (List Bool)} {b b':CC} {K:KD} {s:DS} {M:VM} (hb:b=b') (U:σ→List (Nat×DV)) (G:σ→VM) (P:σ→Prop) (m:σ→Nat) (x0:σ) (hs:s=zbM L (upS s (U x0))) (hM:M=G x0) (h0:P x0)
 (step: ∀x,P x→(∀x',m x'<m x→P x'→zcn F n0 L b K (zbM L (upS s (U x'))) (G x'))→ @Cd (rD F n0) (.base (LoK F n0 L b K)) b' (zbM L (zbM L (upS s (U x)))) (G x)):zcn F n0 L b K s M:=by
 have main: ∀n x,m x<n→P x→zcn F n0 L b K (zbM L (upS s (U x))) (G x):=by
  intro n
  induction n with
  |zero=>grind
  |succ n ih=>grind [go]
 have:=main (m x0+1) x0 (by omega) h0
 grind
end
section
variable {F:FuncId→Option zb} {n0:Nat} {M:VM}
end
section
variable {B M:VM} {j:Nat} {o:MO}
end
structure Acc (B M:VM) (d:DV) (s:Nat) (rows:List (List DV)):Prop where
 sm:SM B.next B M
 nx:B.next≤M.next
 row: ∀r∈rows,r.length=s
 v:(rows=[]∧d=.nilS)∨ ∃j op cap,B.next≤j∧j<M.next∧d=.ms j 0 rows.length cap∧M.obj j=some (.rows op s rows)∧(op=true∧cap=zc∨op=false∧cap=rows.length∧cap<zc)
theorem Acc.nil (B:VM) (s:Nat):Acc B B .nilS s []:=⟨z7 _ _,Nat.le_refl _,by simp,.inl ⟨rfl,rfl⟩⟩
section
variable {B M:VM} {d:DV} {s:Nat} {rows:List (List DV)}
theorem Acc.frame {M2:VM} (h:Acc B M d s rows) (hs:SM M.next M M2) (hn:M.next≤M2.next):Acc B M2 d s rows:=⟨fun i hi=>(hs i (Nat.lt_of_lt_of_le hi h.nx)).trans (h.sm i hi),Nat.le_trans h.nx hn,h.row,by
 rcases h.v with h1| ⟨j,op,cap,h1,h2,h3,h4,h5⟩
 ·grind
 ·refine .inr ⟨j,op,cap,h1,Nat.lt_of_lt_of_le h2 hn,h3,?_,h5⟩
  rw[←h4];show(M2.get j).map _=(M.get j).map _;rw[hs j h2]⟩
theorem Acc.new (h:Acc B M d s rows) (o:MO):Acc B (M.new o) d s rows:=h.frame (zq (z7 _ _) (Nat.le_refl _)) (Nat.le_succ _)
theorem Acc.lit (B:VM) {s:Nat} {rows:List (List DV)} (hr: ∀r∈rows,r.length=s) (hl:rows.length<zc):Acc B (B.new (.rows false s rows)) (.ms B.next 0 rows.length rows.length) s rows:=
 ⟨zq (z7 _ _) (Nat.le_refl _),Nat.le_succ _,hr,.inr ⟨B.next,false,rows.length,Nat.le_refl _,Nat.lt_succ_self _,rfl,by simp,.inr ⟨rfl,rfl,hl⟩⟩⟩
theorem Acc.app (h:Acc B M d s rows) {new:List (List DV)} {bytes:Nat} (hr: ∀r∈new,r.length=s) (hb:(rows.length+new.length)*bytes≤1073741824): ∃d' M',zbw s bytes M new d=some (d',M')∧Acc B M' d' s (rows++new):=by
 by_cases hn:new=[]
 ·subst hn
  refine⟨d,M,?_,by grind⟩
  rcases h.v with⟨_,rfl⟩| ⟨j,_,_,_,h2,rfl,_⟩<;>(simp_all)
 have hrow: ∀r∈rows++new,r.length=s:=fun r hm=>by
  rcases List.mem_append.1 hm with hm|hm
  ·exact h.row r hm
  grind
 have hnl:0<new.length:=by grind
 rcases h.v with⟨rfl,rfl⟩| ⟨j,op,cap,h1,h2,rfl,h4,h5⟩
 ·refine⟨_,_,by unfold zbw;rw[if_neg hn];dsimp only;rw[if_pos (by grind)],?_⟩
  exact⟨zq h.sm h.nx,Nat.le_succ_of_le h.nx,hrow,.inr ⟨M.next,true,zc,h.nx,Nat.lt_succ_self _,by simp[zeT],by simp[zeT],.inl ⟨rfl,rfl⟩⟩⟩
 ·rcases h5 with⟨rfl,rfl⟩| ⟨rfl,rfl,hc⟩
  ·have e:zbw s bytes M new (.ms j 0 rows.length zc)=some (zeT (M.del j) s (rows++new)):=by
    simp_all[if_neg,zc9]
   refine⟨_,_,e,?_⟩
   exact⟨zq (zc3 h.sm h1) (by exact h.nx),Nat.le_succ_of_le h.nx,hrow,.inr ⟨M.next,true,zc,h.nx,Nat.lt_succ_self _,by simp_all,by simp_all,.inl ⟨rfl,rfl⟩⟩⟩
  ·have e:zbw s bytes M new (.ms j 0 rows.length rows.length)=some (zeT M s (rows++new)):=by
    simp_all[if_neg,zc9]
   refine⟨_,_,e,?_⟩
   exact⟨zq h.sm h.nx,Nat.le_succ_of_le h.nx,hrow,.inr ⟨M.next,true,zc,h.nx,Nat.lt_succ_self _,by grind,by simp,.inl ⟨rfl,rfl⟩⟩⟩
end
section
variable {B M:VM} {d:DV} {s:Nat} {rows:List (List DV)} {X:RnD} {fr:FrC}
theorem Rs_app {bytes:Nat} {new:List (List DV)} {x:DV} {dst:Option (List Bool)} {r:List CI} {sl:DS} (h:Acc B M d s rows) (hx:zbQ M s x=some new) (hs:0<s∧s<roE) (hc: ∀r∈new,∀c∈r,zt c=true) (hr: ∀r∈new,r.length=s) (hb:(rows.length+new.length)*bytes≤1073741824) (k: ∀d' M',Acc B M' d' s (rows++new)→ @Op X fr r (zV dst d' sl) M'): @Rs X fr (bltD M (.append s bytes) [d,x]) dst r sl:=by
 obtain⟨d',M',e,h'⟩:=h.app hr hb
 rw[zks,if_pos hs,hx,apN_some,if_pos (by grind),e];simp_all
theorem Conv.del (M:VM) (j:Nat):Conv M M (M.del j):=⟨Nat.le_refl _,fun i=>by
 by_cases e:i=j
 all_goals simp_all⟩
theorem Back.acc {k:DV→VM→Prop} {M0:VM} (h:Acc B M d s rows) (hB:SM M0.next M0 B) (hn:M0.next≤B.next) (hb: ∀r∈rows,∀x∈r,zQ M0.next x) (hk:k (.lst s rows) M0):Back k M0 d M:=fun hw=>by
 refine⟨.lst s rows,?_,.lst hb,fun j hj=>(h.sm j (by omega)).trans (hB j hj),hk⟩
 rcases h.v with⟨rfl,rfl⟩| ⟨j,op,cap,h1,h2,rfl,h4,_⟩
 ·exact .nilS s
 ·exact .ms0 h4 (hw j (by omega)) rfl h.row
end
end
end Go.Ideal
namespace Go.Ideal.S
end Go.Ideal.S
set_option maxRecDepth 10000
set_option maxHeartbeats 1000000
namespace Go.Ideal.S
open Go Go.Ideal Q
theorem nx3:(∀(M:VM) (o:MO),(M.new o).next=M.next+1)∧(∀(M:VM) (j:Nat) (o:MO),(M.put j o).next=M.next+1)∧ ∀(M:VM) (j:Nat),(M.del j).next=M.next:=⟨fun _ _=>new_next ..,fun _ _ _=>put_next ..,fun _ _=>del_next ..⟩
theorem bpl {k:DV→VM→Prop} {M M':VM} {d:DV} (hk:k d M) (hb:zQ M.next d:=by simp) (h:SM M.next M M':=by repeat' (first|assumption|exact z7 _ _|apply zbc|apply zq|apply zc3| ((try simp only[nx3]);omega))):Back k M d M':=Back.plain hb h hk
def mkS (l:List UInt8):ByteArray:=⟨⟨l⟩⟩
abbrev St (l:List UInt8):DV:=.str (mkS l)
@[simp] theorem mkS_nil:(⟨#[]⟩:ByteArray)=mkS []:=id rfl
@[simp] theorem mkS_size (l:List UInt8):(mkS l).size=l.length:=id rfl
theorem mkS_of (s:ByteArray): ∃l,s=mkS l:=⟨s.data.toList,rfl⟩
theorem eq_bytes (l m:List UInt8):z6 l m=decide (l=m):=by
 induction l generalizing m with
 |nil=>cases m<;>simp[z6]
 |cons a l ih=>
  cases m with
  |nil=>simp[z6]
  |cons b m=>
   have e:Nat.beq a.toNat b.toNat=decide (a=b):=by
    by_cases h:a=b
    ·subst h;simp
    ·have:a.toNat≠b.toNat:=fun e=>h (UInt8.toNat_inj.1 e)
     rw[decide_eq_false h]
     cases e2:Nat.beq a.toNat b.toNat with
     |true=>exact absurd (Nat.eq_of_beq_eq_true e2) this
     |false=>rfl
   simp[z6,ih,e]
section
variable {ek:EK}
@[simp] theorem bin_seq (l m:List UInt8):binD .eql ek (St l) (St m)=some (.bool (decide (l=m))):=by
  show some (DV.bool (z6 l m))=_;rw[eq_bytes]
theorem zii (k:IntKind) (a b:Int):binD .lss ek (.int k a) (.int k b)=some (.bool (decide (a<b))):=by
 show(if k=k then some (Value.bool (ltI a b)) else none).bind dOf1=_
 rw[if_pos rfl,zej];rfl
end
@[simp] theorem strIdx_at (l:List UInt8) (k:IntKind) (i:Nat):strIdxD (St l) (.int k (i:Int))=(l[i]?).map byteD:=id rfl
section
variable {ek:EK}
end
def Off (d:DV) (i:Nat):Prop:=match d with
 |.ms j _ _ _=>i≠j
 |_=>True
structure Lb (M:VM) (d:DV) (s:Nat) (rows:List (List DV)):Prop where
 row: ∀r∈rows,r.length=s
 v:(rows=[]∧d=.nilS)∨ ∃j op cap,j<M.next∧d=.ms j 0 rows.length cap∧M.obj j=some (.rows op s rows)∧(op=true∧cap=zc∨op=false∧cap=rows.length∧cap<zc)
structure Gro (M:VM) (d:DV) (M':VM) (d':DV):Prop where
 nx:M.next≤M'.next
 kp: ∀i,i<M.next→Off d i→M'.get i=M.get i
 of: ∀i,i<M.next→Off d i→Off d' i
section
variable {M M' M2:VM} {d d' d2:DV} {s:Nat} {rows:List (List DV)}
theorem Gro.refl (M:VM) (d:DV):Gro M d M d:=⟨Nat.le_refl _,fun _ _ _=>rfl,fun _ _ h=>h⟩
theorem Gro.pre (o:MO) (h:Gro (M.new o) d M' d'):Gro M d M' d':=⟨Nat.le_trans (Nat.le_succ _) h.nx,fun i hi ho=>(h.kp i (Nat.lt_succ_of_lt hi) ho).trans (by rw[get_new,if_neg (by omega)]),fun i hi ho=>h.of i (Nat.lt_succ_of_lt hi) ho⟩
theorem Gro.obj (h:Gro M d M' d') {i:Nat} (hi:i<M.next) (ho:Off d i):M'.obj i=M.obj i:=by
 show(M'.get i).map _=(M.get i).map _;rw[h.kp i hi ho]
theorem Lb.nil (M:VM) (s:Nat):Lb M .nilS s []:=⟨by simp,.inl ⟨rfl,rfl⟩⟩
theorem Lb.keep (h:Lb M d s rows) (hn:M.next≤M2.next) (hk: ∀i,i<M.next→ ¬Off d i→M2.get i=M.get i):Lb M2 d s rows:=⟨h.row,by
 rcases h.v with h1| ⟨j,op,cap,h2,rfl,h4,h5⟩
 ·exact .inl h1
 ·refine .inr ⟨j,op,cap,Nat.lt_of_lt_of_le h2 hn,rfl,?_,h5⟩
  rw[←h4];show(M2.get j).map _=(M.get j).map _;rw[hk j h2 (fun q=>q rfl)]⟩
theorem Lb.new (h:Lb M d s rows) (o:MO):Lb (M.new o) d s rows:=h.keep (Nat.le_succ _) fun i hi _=>by rw[get_new,if_neg (by omega)]
theorem Lb.put (h:Lb M d s rows) {i:Nat} (hi:Off d i) (o:MO):Lb (M.put i o) d s rows:=h.keep (Nat.le_succ _) fun j hj hn=>by
 rw[get_put,if_neg (fun e=>hn (by rw[e];exact hi))]
theorem Lb.cells (h:Lb M d s rows):zr d=[d]:=by
 rcases h.v with⟨_,rfl⟩| ⟨j,_,_,h2,rfl,_⟩<;>rfl
theorem Lb.cell (h:Lb M d s rows):zt d=true:=by
 rcases h.v with⟨_,rfl⟩| ⟨j,_,_,h2,rfl,_⟩<;>rfl
theorem Lb.self (h:Lb M d s rows):zjz d=true:=by
 rcases h.v with⟨_,rfl⟩| ⟨j,_,_,h2,rfl,_⟩<;>rfl
theorem Lb.offN (h:Lb M d s rows) {i:Nat} (hi:M.next≤i):Off d i:=by
 rcases h.v with⟨_,rfl⟩| ⟨j,_,_,h2,rfl,_⟩
 ·trivial
 ·show i≠j;omega
theorem Lb.len (h:Lb M d s rows):lenD M2 d=some rows.length:=by
 rcases h.v with⟨rfl,rfl⟩| ⟨j,_,_,h2,rfl,_⟩<;>rfl
theorem Lb.app (h:Lb M d s rows) {new:List (List DV)} {bytes:Nat} (hr: ∀r∈new,r.length=s) (hb:(rows.length+new.length)*bytes≤1073741824): ∃d' M',zbw s bytes M new d=some (d',M')∧Lb M' d' s (rows++new)∧Gro M d M' d':=by
 by_cases hn:new=[]
 ·subst hn
  refine⟨d,M,?_,by rw[List.append_nil];exact h,.refl _ _⟩
  rcases h.v with⟨_,rfl⟩| ⟨j,_,_,h2,rfl,_⟩<;>(unfold zbw;rw[if_pos rfl])
 have hrow: ∀r∈rows++new,r.length=s:=fun r hm=>by
  rcases List.mem_append.1 hm with hm|hm
  ·exact h.row r hm
  ·exact hr r hm
 have hnl:0<new.length:=by cases new with|nil=>exact absurd rfl hn|cons=>simp
 rcases h.v with⟨rfl,rfl⟩| ⟨j,op,cap,h2,rfl,h4,h5⟩
 ·refine⟨_,_,by unfold zbw;rw[if_neg hn];dsimp only;rw[if_pos (by simpa using hb)],⟨hrow,.inr ⟨M.next,true,zc,Nat.lt_succ_self _,by simp[zeT],by simp[zeT],.inl ⟨rfl,rfl⟩⟩⟩,Nat.le_succ _,fun i hi _=>by show(M.new _).get i=_;rw[get_new,if_neg (by omega)],fun i hi _=>by show i≠M.next;omega⟩
 ·rcases h5 with⟨rfl,rfl⟩| ⟨rfl,rfl,hc⟩
  ·have e:zbw s bytes M new (.ms j 0 rows.length zc)=some (zeT (M.del j) s (rows++new)):=by
    unfold zbw;rw[if_neg hn];dsimp only;rw[if_pos hb,h4]
    show zc9 s M new j 0 rows.length zc (.rows true s rows)=_
    unfold zc9;dsimp only
    rw[if_pos ⟨rfl,by omega⟩,if_pos rfl,if_neg (by omega),List.drop_zero,List.take_length]
   refine⟨_,_,e,⟨hrow,.inr ⟨M.next,true,zc,Nat.lt_succ_self _,by simp[zeT,VM.del],by simp[zeT,VM.del],.inl ⟨rfl,rfl⟩⟩⟩,Nat.le_succ _,fun i hi ho=> ?_,fun i hi _=>by show i≠M.next;omega⟩
   show((M.del j).new _).get i=_
   rw[get_new,if_neg (by show i≠M.next;omega),zj9,if_neg ho]
  ·have e:zbw s bytes M new (.ms j 0 rows.length rows.length)=some (zeT M s (rows++new)):=by
    unfold zbw;rw[if_neg hn];dsimp only;rw[if_pos hb,h4]
    show zc9 s M new j 0 rows.length rows.length (.rows false s rows)=_
    unfold zc9;dsimp only
    rw[if_pos ⟨rfl,by omega⟩,if_pos hc,if_neg (by omega),List.drop_zero,List.take_length]
   refine⟨_,_,e,⟨hrow,.inr ⟨M.next,true,zc,Nat.lt_succ_self _,by simp[zeT],by simp[zeT],.inl ⟨rfl,rfl⟩⟩⟩,Nat.le_succ _,fun i hi _=>by show(M.new _).get i=_;rw[get_new,if_neg (by omega)],fun i hi _=>by show i≠M.next;omega⟩
theorem Lb.blt (h:Lb M d s rows) {x:DV} {new:List (List DV)} {bytes:Nat} (hx:zbQ M s x=some new) (hs:0<s∧s<roE) (hc: ∀r∈new,∀c∈r,zt c=true) (hr: ∀r∈new,r.length=s) (hb:(rows.length+new.length)*bytes≤1073741824):
 ∃d' M',bltD M (.append s bytes) [d,x]=some (d',M')∧Lb M' d' s (rows++new)∧Gro M d M' d':=by
 obtain⟨d',M',e,h'⟩:=h.app hr hb
 exact⟨d',M',by rw[zks,if_pos hs,hx,apN_some,if_pos (by simpa[List.all_eq_true] using hc),e],h'⟩
end
section
variable {M:VM} {d:DV} {s:Nat} {rows:List (List DV)} {X:RnD} {fr:FrC}
theorem Rs_lb {bytes:Nat} {new:List (List DV)} {x:DV} {dst:Option (List Bool)} {r:List CI} {sl:DS} (h:Lb M d s rows) (hx:zbQ M s x=some new) (hs:0<s∧s<roE) (hc: ∀r∈new,∀c∈r,zt c=true) (hr: ∀r∈new,r.length=s) (hb:(rows.length+new.length)*bytes≤1073741824) (k: ∀d' M',Lb M' d' s (rows++new)→Gro M d M' d'→ @Op X fr r (zV dst d' sl) M'): @Rs X fr (bltD M (.append s bytes) [d,x]) dst r sl:=by
 obtain⟨d',M',e,h1,h2⟩:=h.blt hx hs hc hr hb
 rw[e];exact k d' M' h1 h2
theorem DrW_lb {bytes:Nat} {new:List (List DV)} {x:DV} {dst:Option (List Bool)} {l:List CI} {bs:List Mo} {sl:DS} (h:Lb M d s rows) (hx:zbQ M s x=some new) (hs:0<s∧s<roE) (hc: ∀r∈new,∀c∈r,zt c=true) (hr: ∀r∈new,r.length=s) (hb:(rows.length+new.length)*bytes≤1073741824) (k: ∀d' M',Lb M' d' s (rows++new)→Gro M d M' d'→ @Dr X fr l (⟨zhg bs,M',[]⟩::bs.map (zcc dst)) (zV dst d' sl) M'): @DrW X fr (bltD M (.append s bytes) [d,x]) dst l bs sl:=by
 obtain⟨d',M',e,h1,h2⟩:=h.blt hx hs hc hr hb
 rw[e];exact k d' M' h1 h2
end
end Go.Ideal.S
namespace Go.Ideal.S
inductive Ex
 |mk (op n:Int) (kids:List Ex)
mutual
def Ex.nodes:Ex→Nat|.mk _ _ k=>1+zF k
def zF:List Ex→Nat| []=>0|e::l=>e.nodes+zF l
end
mutual
def Ex.depth:Ex→Nat|.mk _ _ k=>1+zb9 k
def zb9:List Ex→Nat| []=>0|e::l=>max e.depth (zb9 l)
end
def zcZ (size op n:Int) (kids:Nat):Prop:=(op=1∧ -1000000000≤n∧n≤1000000000∧kids=0)∨(op=2∧0≤n∧n<size∧kids=0)∨(3≤op∧op≤7∧n=0∧kids=2)
mutual
def Ex.formed (size:Int):Ex→Prop|.mk op n k=>zcZ size op n k.length∧zb3 size k
def zb3 (size:Int):List Ex→Prop| []=>True|e::l=>e.formed size∧zb3 size l
end
def zff (size:Int) (e:Ex):Prop:=e.nodes≤60∧e.depth≤12∧e.formed size
structure Nd where
 op:Int
 n:Int
 args:List Ex
 kids:List Int
structure Chn where
 pl:Int
 many:Int
structure Spt where
 in_:Int
 node:Int
structure Rul where
 pl:Int
 joins:List Int
 node:Int
structure Dfn where
 chs:List Chn
 sps:List Spt
 rls:List Rul
structure Pg where
 free:List (List UInt8)
 nodes:List Nd
 defs:List Dfn
 main:Int
def zgH (d:Dfn) (r:Rul):Prop:= ∀i (hi:i<r.joins.length),(∃c:Nat,r.joins[i]=(c:Int)∧ ∃h:c<d.chs.length,d.chs[c].pl=r.pl)∧r.joins[i]∉r.joins.take i
structure zR (d:Dfn):Prop where
 l1:d.chs.length≤30
 l2:d.sps.length≤30
 l3:d.rls.length≤30
 chs: ∀c∈d.chs,(0≤c.pl∧c.pl≤d.sps.length)∧0≤c.many∧c.many≤3
 sps: ∀i (h:i<d.sps.length),0≤d.sps[i].in_∧d.sps[i].in_≤i
 rls: ∀r∈d.rls,(0≤r.pl∧r.pl≤d.sps.length)∧0<r.joins.length∧r.joins.length≤3∧zgH d r
 all: ∀c,c<d.chs.length→ ∃r∈d.rls,(c:Int)∈r.joins
def own (d:Dfn):Int:=d.chs.length+d.sps.length
def zdo (d:Dfn) (c:Int):Int:=match d.chs[c.toNat]? with|some x=>x.many|none=>0
def zcy (d:Dfn) (r:Rul):Int:=(r.joins.map (zdo d)).sum
structure Vs where
 met:List Bool
 sz:List Int
 df:List Bool
def zfr (op:Int):Option Nat:=if op=1∨op=7 then some 0 else if op=3 then some 2 else if op=2 then some 0 else if op=5 then some 2 else if op=6∨op=8∨op=4 then some 1 else none
structure zhH (p:Pg) (df:List Bool) (x:Nd) (size:Int):Prop where
 kids:zfr x.op=some x.kids.length
 n:if x.op=2∨x.op=6∨x.op=8 then 0≤x.n∧x.n<size else if x.op=4 then∃d:Nat,x.n=(d:Int)∧d<p.defs.length∧df[d]? =some false∧ ∀y,p.defs[d]? =some y→zR y else x.n=0
 args:if x.op=2 then x.args.length≤3 else x.args.length=if x.op=5 then 1 else 0
 exps: ∀e∈x.args,zff size e
def zkH (p:Pg) (x:Nd) (size:Int):List (Int×Int):=if x.op=4 then match p.defs[x.n.toNat]? with
    |some d=>(d.rls.map fun r=>(r.node,size+own d+zcy d r))++(d.sps.map fun s=>(s.node,size+own d))++x.kids.map fun k=>(k,size+own d)
    |none=>[]
 else x.kids.map fun k=>(k,size)
open Classical in
noncomputable def zfc (p:Pg):Nat→Vs→Int→Int→Option Vs
 |0,_,_,_=>none
 |f+1,st,n,size=>if 0≤n∧st.met[n.toNat]? =some false then
   match p.nodes[n.toNat]? with
   |some x=>if zhH p st.df x size then(zkH p x size).foldl (fun s t=>s.bind fun s=>zfc p f s t.1 t.2) (some ⟨st.met.set n.toNat true,st.sz.set n.toNat size,if x.op=4 then st.df.set x.n.toNat true else st.df⟩) else none
   |none=>none
  else none
end Go.Ideal.S
set_option maxHeartbeats 2000000
namespace Go.Ideal.S
open Go Go.Ideal Q Classical
attribute [local simp] decide_eq_true decide_eq_false zbD
variable {M M':VM} {k kp:DV→VM→Prop} {n0 j:Nat}
mutual
def eEx:Ex→List DV|.mk op n ks=>[I op,I n,.lst 3 (eExs ks)]
def eExs:List Ex→List (List DV)| []=>[]|e::l=>eEx e::eExs l
end
theorem eExs_map: ∀l,eExs l=l.map eEx
 | []=>by rw[eExs];rfl
 |e::l=>by rw[eExs,eExs_map l];rfl
theorem zhv (op n:Int) (ks:List Ex):eEx (.mk op n ks)=[I op,I n,.lst 3 (ks.map eEx)]:=by rw[eEx,eExs_map]
@[simp] theorem take_Ex (e:Ex):zbJ 3 (eEx e)=some (eEx e):=by cases e;rw[zhv];rfl
@[simp] theorem write_Ex (e:Ex) (a b c:DV):zK [a,b,c] 0 (eEx e)=some (eEx e):=by cases e;rw[zhv];rfl
theorem n_Ex (e:Ex):(eEx e).length=3:=by cases e;rw[zhv];rfl
theorem zfZ: ∀{l:List Ex} {e:Ex},e∈l→e.nodes≤zF l
 |x::l,e,h=>by
  rw[zF]
  rcases List.mem_cons.1 h with rfl|h
  ·omega
  ·have:=zfZ h;omega
theorem zdc: ∀(l m:List Ex),zF (l++m)=zF l+zF m
 | [],m=>by simp[zF]
 |e::l,m=>by rw[List.cons_append,zF,zF,zdc l m];omega
theorem zie: ∀(l m:List Ex),zb9 (l++m)=max (zb9 l) (zb9 m)
 | [],m=>by simp[zb9]
 |e::l,m=>by rw[List.cons_append,zb9,zb9,zie l m];omega
theorem zkb (s:Int): ∀(l m:List Ex),zb3 s (l++m)↔zb3 s l∧zb3 s m
 | [],m=>by simp[zb3]
 |e::l,m=>by rw[List.cons_append,zb3,zb3,zkb s l m];exact and_assoc.symm
theorem zdn (e:Ex):0<e.nodes:=by cases e;rw[Ex.nodes];omega
theorem zeh: ∀l:List Ex,l.length≤zF l
 | []=>Nat.zero_le _
 |e::l=>by have:=zdn e;have:=zeh l;rw[zF,List.length_cons];omega
theorem nodesL_take (l:List Ex) (i:Nat):zF (l.take i)≤zF l:=by
 have:zF l=zF (l.take i)+zF (l.drop i):=by rw[←zdc,List.take_append_drop]
 omega
mutual
theorem depth_nodes: ∀e:Ex,e.depth≤e.nodes|.mk _ _ ks=>by rw[Ex.depth,Ex.nodes];have:=zfI ks;omega
theorem zfI: ∀l:List Ex,zb9 l≤zF l
 | []=>Nat.le_refl _
 |e::l=>by rw[zb9,zF];have:=depth_nodes e;have:=zfI l;omega
end
attribute [local simp] c_u f_u r_u_1 r_u_2 r_u_3 r_u_4 r_u_5 r_u_6 r_u_8 c_t f_t r_t_1 r_t_2 r_t_3 r_t_4 r_t_5 r_t_6 r_t_8 c_p f_p r_p_1 r_p_2 r_p_3 r_p_4 r_p_5 r_p_6 r_p_7 r_p_8 c_L f_L r_L_1 r_L_2
theorem zio: ∀(N:Nat) (e:Ex),e.nodes≤N→ ∀{M:VM} {k kp:DV→VM→Prop} (most:Nat),most≤1000→k (I ((min e.nodes (most+1):Nat):Int)) M→zg F (.fn n_u [] []) [.agg (eEx e),I (most:Int)] M k kp
 |0,e,h,_,_,_,_,_,_=>by have:=zdn e;omega
 |N+1,.mk op n ks,h,M,k,kp,most,hm,hk=>by
  rw[Ex.nodes] at h hk
  apply zg.back
  refine .fn zep rfl (by simp[f_u]) ?_
  rw[zhv]
  simp(disch:=((try simp only[nx3]);omega))
  refine .for (σ:=Unit) c_u_7.eq_1 (fun i _=>[(5,I ((min (1+zF (ks.take i)) (most+1):Nat):Int)),(6,I i)]) (fun _=>M.new (.rows false 3 [[I op,I n,.lst 3 (ks.map eEx)]])) (fun i _=>1+zF (ks.take i)≤most+1∨True) ks.length () (by simp[zF]) rfl (by simp) (fun i _ hi _ again=> ?_) (fun _ _=> ?_)
  ·rw[List.take_succ_eq_append_getElem hi,zdc,zF,zF] at again
   have hmem:=zfZ (List.getElem_mem hi)
   have hpre:=nodesL_take ks (i+1)
   have hap:zF ks=zF (ks.take i)+(ks[i].nodes+zF (ks.drop (i+1))):=by
    conv=>lhs;rw[←List.take_append_drop i ks,zdc,List.drop_eq_getElem_cons hi,zF]
   generalize hx:ks[i]=e at*
   have hia:i≤zF (ks.take i):=by have:=zeh (ks.take i);rw[List.length_take] at this;omega
   generalize zF (ks.take i)=a at*
   by_cases hle:1+a≤most
   ·have e1:min (1+a) (most+1)=1+a:=by omega
    have e2:min (1+(a+(e.nodes+0))) (most+1)=1+a+min e.nodes (most - (1+a)+1):=by omega
    have h3:((1+a:Nat):Int)≤most:=by omega
    have h4:(most:Int) - ((1+a:Nat):Int)=((most - (1+a):Nat):Int):=by omega
    have hib:i≤1000:=by omega
    have again:=again () (.inr trivial)
    rw[e2] at again
    rw[e1]
    generalize 1+a=c at*
    simp(disch:=((try simp only[nx3]);omega)) [hi,h3,hx,h4]
    refine zio N e (by omega) (most - c) (by omega) ?_
    simp(disch:=((try simp only[nx3]);omega))
    simp at again
    exact again
   ·have e1:min (1+a) (most+1)=most+1:=by omega
    have e3:min (1+zF ks) (most+1)=most+1:=by omega
    have h3: ¬((most+1:Nat):Int)≤most:=by omega
    rw[e3] at hk
    rw[e1]
    clear again
    generalize most+1=c at*
    simp(disch:=((try simp only[nx3]);omega)) [hi,h3]
    exact bpl hk
  ·rw[List.take_length]
   generalize min (1+zF ks) (most+1)=c at*
   simp(disch:=((try simp only[nx3]);omega))
   exact bpl hk
theorem ziq: ∀(N:Nat) (e:Ex),e.nodes≤N→N≤1000→ ∀{M:VM} {k kp:DV→VM→Prop},k (I (e.depth:Int)) M→zg F (.fn n_t [] []) [.agg (eEx e)] M k kp
 |0,e,h,_,_,_,_,_=>by have:=zdn e;omega
 |N+1,.mk op n ks,h,hN,M,k,kp,hk=>by
  rw[Ex.nodes] at h
  rw[Ex.depth] at hk
  apply zg.back
  refine .fn zeq rfl (by simp[f_t]) ?_
  rw[zhv]
  simp(disch:=((try simp only[nx3]);omega))
  refine .for (σ:=Unit) c_t_7.eq_1 (fun i _=>[(3,I (zb9 (ks.take i):Int)),(4,I i)]) (fun _=>M.new (.rows false 3 [[I op,I n,.lst 3 (ks.map eEx)]])) (fun i _=>True) ks.length () (by simp[zb9]) rfl trivial (fun i _ hi _ again=> ?_) (fun _ _=> ?_)
  ·have again:=again () trivial
   rw[List.take_succ_eq_append_getElem hi,zie,zb9,zb9,Nat.max_zero] at again
   have hmem:=zfZ (List.getElem_mem hi)
   have hln:=zeh ks
   generalize hx:ks[i]=e at*
   generalize zb9 (ks.take i)=a at*
   simp(disch:=((try simp only[nx3]);omega)) [hi,hx]
   refine ziq N e (by omega) (by omega) ?_
   simp at again
   have hm:(if a<e.depth then(e.depth:Int) else(a:Int))=((max a e.depth:Nat):Int):=by split<;>omega
   simp(disch:=((try simp only[nx3]);omega))
   rw[hm]
   exact again
  ·rw[List.take_length]
   have hd:=zfI ks
   generalize zb9 ks=a at*
   rw[show((1+a:Nat):Int)=(a:Int)+1 by omega] at hk
   simp(disch:=((try simp only[nx3]);omega))
   exact bpl hk
theorem zeO (size:Int): ∀(N:Nat) (e:Ex),e.nodes≤N→ ∀{M:VM} {k kp:DV→VM→Prop},k (.bool (decide (e.formed size))) M→zg F (.fn n_p [] []) [.agg (eEx e),I size] M k kp
 |0,e,h,_,_,_,_=>by have:=zdn e;omega
 |N+1,.mk op n ks,h,M,k,kp,hk=>by
  rw[Ex.nodes] at h
  have yes:(Ex.mk op n ks).formed size→k (.bool true) M:=fun hf=>by rw[decide_eq_true hf] at hk;exact hk
  have no: ¬(Ex.mk op n ks).formed size→k (.bool false) M:=fun hf=>by rw[decide_eq_false hf] at hk;exact hk
  rw[Ex.formed] at yes no
  clear hk
  apply zg.back
  refine .fn zd2 rfl (by simp[f_p]) ?_
  rw[zhv]
  by_cases h1:op=1
  ·subst h1
   by_cases h2:ks=[]
   ·subst h2
    by_cases h3: -1000000000≤n
    ·by_cases h4:n≤1000000000
     ·have yes:=yes ⟨.inl ⟨rfl,h3,h4,rfl⟩,by rw[zb3];trivial⟩
      simp(disch:=((try simp only[nx3]);omega)) [h3,h4]
      exact bpl yes
     ·have no:=no fun hh=>by unfold zcZ at hh;omega
      simp(disch:=((try simp only[nx3]);omega)) [h3,h4]
      exact bpl no
    ·have no:=no fun hh=>by unfold zcZ at hh;omega
     simp(disch:=((try simp only[nx3]);omega)) [h3]
     exact bpl no
   ·have h2l:ks.length≠0:=fun e=>h2 (List.eq_nil_of_length_eq_zero e)
    have no:=no fun hh=>by unfold zcZ at hh;omega
    simp(disch:=((try simp only[nx3]);omega)) [h2]
    exact bpl no
  by_cases h1b:op=2
  ·subst h1b
   by_cases h2:ks=[]
   ·subst h2
    by_cases h3:0≤n
    ·by_cases h4:n<size
     ·have yes:=yes ⟨.inr (.inl ⟨rfl,h3,h4,rfl⟩),by rw[zb3];trivial⟩
      simp(disch:=((try simp only[nx3]);omega)) [h3,h4]
      exact bpl yes
     ·have no:=no fun hh=>by unfold zcZ at hh;omega
      simp(disch:=((try simp only[nx3]);omega)) [h3,h4]
      exact bpl no
    ·have no:=no fun hh=>by unfold zcZ at hh;omega
     simp(disch:=((try simp only[nx3]);omega)) [h3]
     exact bpl no
   ·have h2l:ks.length≠0:=fun e=>h2 (List.eq_nil_of_length_eq_zero e)
    have no:=no fun hh=>by unfold zcZ at hh;omega
    simp(disch:=((try simp only[nx3]);omega)) [h2]
    exact bpl no
  by_cases h5:op<3
  ·have no:=no fun hh=>by unfold zcZ at hh;omega
   simp(disch:=((try simp only[nx3]);omega)) [h1,h1b,h5]
   exact bpl no
  by_cases h6:7<op
  ·have no:=no fun hh=>by unfold zcZ at hh;omega
   simp(disch:=((try simp only[nx3]);omega)) [h1,h1b,h5,h6]
   exact bpl no
  by_cases h7:ks.length=2
  ·by_cases h8:n=0
   ·subst h8
    match ks,h7 with
    | [a,b],_=>
      have hn:zF [a,b]=a.nodes+b.nodes:=by simp[zF]
      rw[hn] at h
      have hiff:(zcZ size op 0 [a,b].length∧zb3 size [a,b])↔(a.formed size∧b.formed size):=by
       simp only[zb3,and_true]
       constructor
       ·exact fun hh=>hh.2
       ·exact fun hh=>⟨by unfold zcZ;simp;omega,hh⟩
      rw[hiff] at yes no
      have pa:=zdn a;have pb:=zdn b
      simp(disch:=((try simp only[nx3]);omega)) [h1,h1b,h5,h6]
      refine zeO size N a (by omega) ?_
      by_cases ha:a.formed size
      ·rw[decide_eq_true ha]
       simp(disch:=((try simp only[nx3]);omega))
       refine zeO size N b (by omega) ?_
       by_cases hb:b.formed size
       ·have yes:=yes ⟨ha,hb⟩
        rw[decide_eq_true hb]
        simp(disch:=((try simp only[nx3]);omega))
        exact bpl yes
       ·have no:=no fun hh=>hb hh.2
        rw[decide_eq_false hb]
        simp(disch:=((try simp only[nx3]);omega))
        exact bpl no
      ·have no:=no fun hh=>ha hh.1
       rw[decide_eq_false ha]
       simp(disch:=((try simp only[nx3]);omega))
       exact bpl no
   ·have no:=no fun hh=>by unfold zcZ at hh;omega
    have h7i:(ks.length:Int)=2:=by omega
    simp(disch:=((try simp only[nx3]);omega)) [h1,h1b,h5,h6,h7i,h8]
    exact bpl no
  ·have no:=no fun hh=>by unfold zcZ at hh;omega
   have h7i: ¬(ks.length:Int)=2:=by omega
   simp(disch:=((try simp only[nx3]);omega)) [h1,h1b,h5,h6,h7i]
   exact bpl no
theorem rExpFormed_ok (size:Int) (e:Ex) (hk:k (.bool (decide (zff size e))) M):zg F (.fn n_L [] []) [.agg (eEx e),I size] M k kp:=by
 have yes:zff size e→k (.bool true) M:=fun hf=>by rw[decide_eq_true hf] at hk;exact hk
 have no: ¬zff size e→k (.bool false) M:=fun hf=>by rw[decide_eq_false hf] at hk;exact hk
 clear hk
 apply zg.back
 refine .fn zd4 rfl (by simp[f_L]) ?_
 simp(disch:=((try simp only[nx3]);omega))
 refine zio e.nodes e (Nat.le_refl _) 60 (by decide) ?_
 by_cases h1:e.nodes≤60
 ·have e1:min e.nodes (60+1)=e.nodes:=by omega
  have h1i:(e.nodes:Int)≤60:=by omega
  rw[e1]
  simp(disch:=((try simp only[nx3]);omega)) [h1i]
  refine ziq e.nodes e (Nat.le_refl _) (by omega) ?_
  by_cases h2:e.depth≤12
  ·have h2i:(e.depth:Int)≤12:=by omega
   simp(disch:=((try simp only[nx3]);omega)) [h2i]
   refine zeO size e.nodes e (Nat.le_refl _) ?_
   by_cases h3:e.formed size
   ·have yes:=yes ⟨h1,h2,h3⟩
    rw[decide_eq_true h3]
    simp(disch:=((try simp only[nx3]);omega))
    exact bpl yes
   ·have no:=no fun hh=>h3 hh.2.2
    rw[decide_eq_false h3]
    simp(disch:=((try simp only[nx3]);omega))
    exact bpl no
  ·have h2i: ¬(e.depth:Int)≤12:=by omega
   have no:=no fun hh=>h2 hh.2.1
   simp(disch:=((try simp only[nx3]);omega)) [h2i]
   exact bpl no
 ·have e1:min e.nodes (60+1)=61:=by omega
  have no:=no fun hh=>h1 hh.1
  rw[e1]
  simp(disch:=((try simp only[nx3]);omega))
  exact bpl no
end Go.Ideal.S
set_option maxHeartbeats 4000000
namespace Go.Ideal.S
open Go Go.Ideal Q Classical
attribute [local simp] decide_eq_true decide_eq_false zbD
variable {M M':VM} {k kp:DV→VM→Prop} {n0 j:Nat}
theorem zij {ek:EK} (k:IntKind) (a b:Int):binD .gtr ek (.int k a) (.int k b)=some (.bool (decide (b<a))):=by
 show(if k=k then some (Value.bool (ltI b a)) else none).bind dOf1=_
 rw[if_pos rfl,zej];rfl
def eS (s:List UInt8):List DV:=[St s]
def eChn (c:Chn):List DV:=[I c.pl,I c.many]
def eSpt (s:Spt):List DV:=[I s.in_,I s.node]
def eRul (r:Rul):List DV:=[I r.pl,.lst 1 (r.joins.map fun n=>[I n]),I r.node]
def eDfn (d:Dfn):List DV:=[.lst 2 (d.chs.map eChn),.lst 2 (d.sps.map eSpt),.lst 3 (d.rls.map eRul)]
def kwL:List (List UInt8):=[[97,110,100],[100,101,102],[101,108,115,101],[103,111],[105,102],[105,110],[112,108,97,99,101],[115,116,111,112],[116,104,101,110],[119,97,116,99,104]]
def NameS (s:List UInt8):Prop:=(1≤s.length∧s.length≤8)∧(∀b∈s,97≤b.toNat∧b.toNat≤122)∧s∉kwL
attribute [local simp] c_A f_A r_A_1 r_A_2 r_A_3 r_A_4 r_A_5 r_A_6 r_A_8 c_v f_v r_v_1 r_v_2 r_v_3 r_v_4 r_v_5 r_v_6 r_v_7 r_v_8 r_v_10 c_Z f_Z r_Z_1 r_Z_2 c_z f_z r_z_1 r_z_2 r_z_3 r_z_4 r_z_5 r_z_6 r_z_8
theorem rHas_ok {d:DV} {l:List (List UInt8)} (s:List UInt8) (h:Lb M d 1 (l.map eS)) (hl:l.length≤1000000) (hk:k (.bool (decide (s∈l))) M):zg F (.fn n_A [] []) [d,St s] M k kp:=by
 apply zg.back
 refine .fn zgN rfl (by simp[f_A]) ?_
 simp(disch:=((try simp only[nx3]);omega))
 refine .for (σ:=Unit) c_A_7.eq_1 (fun i _=>[(5,I i)]) (fun _=>M) (fun i _=>s∉l.take i) l.length () (by simp) rfl (by simp) (fun i _ hi hP again=> ?_) (fun _ hP=> ?_)
 ·rw[List.take_succ_eq_append_getElem hi] at again
  have hm:=List.getElem_mem hi
  rcases h.v with⟨e,_⟩| ⟨q,op,cap,h2,e,h4,h5⟩
  ·have:=congrArg List.length e;simp at this;rw[this] at hi;simp at hi
  subst e
  generalize hx:l[i]=w at*
  by_cases hw:w=s
  ·rw[decide_eq_true (by rw[←hw];exact hm)] at hk
   clear again
   simp(disch:=((try simp only[nx3]);omega)) [hi,h4,hx,eS,hw]
   exact bpl hk
  ·have again:=again () (fun hq=>by
    rcases List.mem_append.1 hq with hq|hq
    ·exact hP hq
    ·exact hw (List.mem_singleton.1 hq).symm)
   simp at again
   simp(disch:=((try simp only[nx3]);omega)) [hi,h4,hx,eS,hw]
   exact again
 ·rw[List.take_length] at hP
  rw[decide_eq_false hP] at hk
  simp(disch:=((try simp only[nx3]);omega)) [h.len]
  exact bpl hk
theorem rName_ok (s:List UInt8) (hk:k (.bool (decide (NameS s))) M):zg F (.fn n_v [] []) [St s] M k kp:=by
 have yes:NameS s→k (.bool true) M:=fun hf=>by rw[decide_eq_true hf] at hk;exact hk
 have no: ¬NameS s→k (.bool false) M:=fun hf=>by rw[decide_eq_false hf] at hk;exact hk
 clear hk
 apply zg.back
 refine .fn zgc rfl (by simp[f_v]) ?_
 by_cases h1:1≤s.length
 ·by_cases h2:s.length≤8
  ·have h1i: ¬(s.length:Int)<1:=by omega
   have h2i: ¬(8:Int)<s.length:=by omega
   simp(disch:=((try simp only[nx3]);omega)) [h1i,h2i]
   refine .for (σ:=Unit) c_v_9.eq_1 (fun i _=>[(3,I i)]) (fun _=>M) (fun i _=> ∀b∈s.take i,97≤b.toNat∧b.toNat≤122) s.length () (by simp) rfl (by simp) (fun i _ hi hP again=> ?_) (fun _ hP=> ?_)
   ·rw[List.take_succ_eq_append_getElem hi] at again
    have hm:=List.getElem_mem hi
    generalize hx:s[i]=b at*
    have hb:byteD b=.int .u8 (b.toNat:Int):=rfl
    by_cases h3:97≤b.toNat
    ·by_cases h4:b.toNat≤122
     ·have again:=again () (fun c hc=>by
       rcases List.mem_append.1 hc with hc|hc
       ·exact hP c hc
       ·rw[List.mem_singleton.1 hc];exact⟨h3,h4⟩)
      have h3i: ¬(b.toNat:Int)<97:=by omega
      have h4i: ¬(122:Int)<b.toNat:=by omega
      simp at again
      simp(disch:=((try simp only[nx3]);omega)) [hi,hx,hb,zii,zij,h3i,h4i]
      exact again
     ·have no:=no fun hh=>h4 (hh.2.1 b hm).2
      have h3i: ¬(b.toNat:Int)<97:=by omega
      have h4i:(122:Int)<b.toNat:=by omega
      clear again
      simp(disch:=((try simp only[nx3]);omega)) [hi,hx,hb,zii,zij,h3i,h4i]
      exact bpl no
    ·have no:=no fun hh=>h3 (hh.2.1 b hm).1
     have h3i:(b.toNat:Int)<97:=by omega
     clear again
     simp(disch:=((try simp only[nx3]);omega)) [hi,hx,hb,zii,zij,h3i]
     exact bpl no
   ·rw[List.take_length] at hP
    simp(disch:=((try simp only[nx3]);omega))
    refine rHas_ok s (l:=kwL) ⟨by simp[kwL,eS],.inr ⟨M.next,false,10,by simp,rfl,by simp[kwL,eS,mkS],.inr ⟨rfl,rfl,by decide⟩⟩⟩ (by decide) ?_
    by_cases h5:s∈kwL
    ·have no:=no fun hh=>hh.2.2 h5
     rw[decide_eq_true h5]
     simp(disch:=((try simp only[nx3]);omega))
     exact bpl no
    ·have yes:=yes ⟨⟨h1,h2⟩,hP,h5⟩
     rw[decide_eq_false h5]
     simp(disch:=((try simp only[nx3]);omega))
     exact bpl yes
  ·have no:=no fun hh=>h2 hh.1.2
   have h1i: ¬(s.length:Int)<1:=by omega
   have h2i:(8:Int)<s.length:=by omega
   simp(disch:=((try simp only[nx3]);omega)) [h1i,h2i]
   exact bpl no
 ·have no:=no fun hh=>h1 hh.1.1
  have h1i:(s.length:Int)<1:=by omega
  simp(disch:=((try simp only[nx3]);omega)) [h1i]
  exact bpl no
theorem rown_ok (d:Dfn) (h1:d.chs.length≤1000000) (h2:d.sps.length≤1000000) (hk:k (I (own d)) M):zg F (.fn n_Z [] []) [.agg (eDfn d)] M k kp:=by
 unfold own at hk
 apply zg.back
 refine .fn zgK rfl (by simp[f_Z]) ?_
 simp(disch:=((try simp only[nx3]);omega)) [eDfn]
 exact bpl hk
theorem many_at {d:Dfn} (hd:zR d) {c:Nat} (h:c<d.chs.length):zdo d (c:Int)=d.chs[c].many∧0≤d.chs[c].many∧d.chs[c].many≤3:=by
 refine⟨?_,(hd.chs _ (List.getElem_mem h)).2⟩
 unfold zdo
 rw[Int.toNat_natCast,List.getElem?_eq_getElem h]
theorem rmore_ok (d:Dfn) (r:Rul) (hd:zR d) (hr:r∈d.rls) (hk:k (I (zcy d r)) M):zg F (.fn n_z [] []) [.agg (eDfn d),.agg (eRul r)] M k kp:=by
 obtain⟨_,r1,r2,r3⟩:=hd.rls r hr
 unfold zcy at hk
 apply zg.back
 refine .fn zgb rfl (by simp[f_z]) ?_
 simp(disch:=((try simp only[nx3]);omega))
 refine .for (σ:=Unit) c_z_7.eq_1 (fun i _=>[(5,I ((r.joins.take i).map (zdo d)).sum),(6,I i)]) (fun _=>(M.new (.rows false 3 [eDfn d])).new (.rows false 3 [eRul r])) (fun i _=>0≤((r.joins.take i).map (zdo d)).sum∧((r.joins.take i).map (zdo d)).sum≤3*i) r.joins.length () (by simp) rfl (by simp) (fun i _ hi hP again=> ?_) (fun _ hP=> ?_)
 ·obtain⟨⟨c,hc,hcl,_⟩,_⟩:=r3 i hi
  obtain⟨m1,m2,m3⟩:=many_at hd hcl
  rw[List.take_succ_eq_append_getElem hi,hc,List.map_append,List.sum_append] at again
  simp only[List.map_cons,List.map_nil,List.sum_cons,List.sum_nil,Int.add_zero,m1] at again
  have again:=again () ⟨by omega,by omega⟩
  generalize ((r.joins.take i).map (zdo d)).sum=a at*
  have hj:r.joins[i]=(c:Int):=hc
  generalize hmm:d.chs[c].many=m at*
  simp at again
  simp(disch:=((try simp only[nx3]);omega)) [hi,eDfn,eRul,hj,hcl,eChn,hmm]
  exact again
 ·rw[List.take_length]
  simp(disch:=((try simp only[nx3]);omega)) [eRul]
  exact bpl hk
def zbZ (n:Nat) (js:List Int):List Bool:=(List.range n).map fun(c:Nat)=>decide ((c:Int)∈js)
theorem used_len (n:Nat) (js:List Int):(zbZ n js).length=n:=by simp[zbZ]
theorem used_at (n:Nat) (js:List Int) {c:Nat} (h:c<(zbZ n js).length):(zbZ n js)[c]=decide ((c:Int)∈js):=by simp[zbZ]
theorem used_set (n:Nat) (js:List Int) {c:Nat} (h:c<n):(zbZ n js).set c true=zbZ n (js++[(c:Int)]):=by
 refine List.ext_getElem (by simp[zbZ]) fun i h1 h2=> ?_
 rw[List.getElem_set,used_at _ _ h2]
 by_cases e:c=i
 ·subst e
  rw[if_pos rfl];simp
 ·rw[if_neg e,used_at n js (by simp[zbZ] at h2⊢;exact h2),decide_eq_decide]
  simp only[List.mem_append,List.mem_singleton]
  constructor
  ·exact .inl
  ·rintro(h|h)
   ·exact h
   ·omega
def eBl (b:Bool):List DV:=[.bool b]
theorem used_nil (n:Nat):List.replicate n [DV.bool false]=(zbZ n []).map eBl:=by
 refine List.ext_getElem (by simp[zbZ]) fun i h1 h2=> ?_
 simp[zbZ,eBl]
attribute [local simp] c_c f_c r_c_1 r_c_2 r_c_3 r_c_4 r_c_5 r_c_6 r_c_7 r_c_8 r_c_10 r_c_11 r_c_12 r_c_13 r_c_14 r_c_16 r_c_17 r_c_18 r_c_19 r_c_20 r_c_21 r_c_22 r_c_23 r_c_24 r_c_25 r_c_26 r_c_27 r_c_28 r_c_29 r_c_30 r_c_31 r_c_33 r_c_34 r_c_36 r_c_38 r_c_39 r_c_40 r_c_41 r_c_42 r_c_44
theorem rdef_ok (d:Dfn) (hk:k (.bool (decide (zR d))) M):zg F (.fn n_c [] []) [.agg (eDfn d)] M k kp:=by
 have yes:zR d→k (.bool true) M:=fun hf=>by rw[decide_eq_true hf] at hk;exact hk
 have no: ¬zR d→k (.bool false) M:=fun hf=>by rw[decide_eq_false hf] at hk;exact hk
 clear hk
 apply zg.back
 refine .fn zgL rfl (by simp[f_c]) ?_
 simp(disch:=((try simp only[nx3]);omega)) [eDfn]
 by_cases l1:30<d.chs.length
 ·have no:=no fun hh=>by have:=hh.l1;omega
  have l1i:(30:Int)<d.chs.length:=by omega
  simp(disch:=((try simp only[nx3]);omega)) [l1i]
  exact bpl no
 by_cases l2:30<d.sps.length
 ·have no:=no fun hh=>by have:=hh.l2;omega
  have l1i: ¬(30:Int)<d.chs.length:=by omega
  have l2i:(30:Int)<d.sps.length:=by omega
  simp(disch:=((try simp only[nx3]);omega)) [l1i,l2i]
  exact bpl no
 by_cases l3:30<d.rls.length
 ·have no:=no fun hh=>by have:=hh.l3;omega
  have l1i: ¬(30:Int)<d.chs.length:=by omega
  have l2i: ¬(30:Int)<d.sps.length:=by omega
  have l3i:(30:Int)<d.rls.length:=by omega
  simp(disch:=((try simp only[nx3]);omega)) [l1i,l2i,l3i]
  exact bpl no
 have l1i: ¬(30:Int)<d.chs.length:=by omega
 have l2i: ¬(30:Int)<d.sps.length:=by omega
 have l3i: ¬(30:Int)<d.rls.length:=by omega
 simp(disch:=((try simp only[nx3]);omega)) [l1i,l2i,l3i]
 obtain⟨M1,hM⟩: ∃M1,M1=M.new (.rows false 3 [[.lst 2 (d.chs.map eChn),.lst 2 (d.sps.map eSpt),.lst 3 (d.rls.map eRul)]]):=⟨_,rfl⟩
 have o1:M1.obj M.next=some (.rows false 3 [[.lst 2 (d.chs.map eChn),.lst 2 (d.sps.map eSpt),.lst 3 (d.rls.map eRul)]]):=by rw[hM];simp
 have n1:M1.next=M.next+1:=by rw[hM];simp
 have sm:SM M.next M M1:=by rw[hM];exact zq (by repeat' (first|assumption|exact z7 _ _|apply zbc|apply zq|apply zc3| ((try simp only[nx3]);omega))) (Nat.le_refl _)
 rw[←hM]
 clear hM
 refine .for (σ:=Unit) c_c_9.eq_1 (fun i _=>[(3,I i)]) (fun _=>M1) (fun i _=> ∀c∈d.chs.take i,(0≤c.pl∧c.pl≤d.sps.length)∧0≤c.many∧c.many≤3) d.chs.length () (by simp) rfl (by simp) (fun i _ hi hP again=> ?_) (fun _ hP1=> ?_)
 ·rw[List.take_succ_eq_append_getElem hi] at again
  have hm:=List.getElem_mem hi
  generalize hx:d.chs[i]=c at*
  have no: ¬((0≤c.pl∧c.pl≤d.sps.length)∧0≤c.many∧c.many≤3)→k (.bool false) M:=fun h=>no fun hh=>h (hh.chs c hm)
  have again:=fun h:(0≤c.pl∧c.pl≤d.sps.length)∧0≤c.many∧c.many≤3=>again () (fun q hq=>by
   rcases List.mem_append.1 hq with hq|hq
   ·exact hP q hq
   ·rw[List.mem_singleton.1 hq];exact h)
  by_cases a1:c.pl<0
  ·have no:=no (by omega)
   clear again
   simp(disch:=((try simp only[nx3]);omega)) [hi,hx,o1,eChn,a1]
   exact Back.plain (by simp) sm no
  by_cases a2:(d.sps.length:Int)<c.pl
  ·have no:=no (by omega)
   clear again
   simp(disch:=((try simp only[nx3]);omega)) [hi,hx,o1,eChn,a1,a2]
   exact Back.plain (by simp) sm no
  by_cases a3:c.many<0
  ·have no:=no (by omega)
   clear again
   simp(disch:=((try simp only[nx3]);omega)) [hi,hx,o1,eChn,a1,a2,a3]
   exact Back.plain (by simp) sm no
  by_cases a4:3<c.many
  ·have no:=no (by omega)
   clear again
   simp(disch:=((try simp only[nx3]);omega)) [hi,hx,o1,eChn,a1,a2,a3,a4]
   exact Back.plain (by simp) sm no
  have again:=again (by omega)
  simp at again
  simp(disch:=((try simp only[nx3]);omega)) [hi,hx,o1,eChn,a1,a2,a3,a4]
  exact again
 rw[List.take_length] at hP1
 simp(disch:=((try simp only[nx3]);omega)) [o1]
 refine .for (σ:=Unit) c_c_15.eq_1 (fun i _=>[(4,I i)]) (fun _=>M1) (fun i _=> ∀j (h:j<d.sps.length),j<i→0≤d.sps[j].in_∧d.sps[j].in_≤j) d.sps.length () (by simp) rfl (fun j _ h=>absurd h (Nat.not_lt_zero _)) (fun i _ hi hP again=> ?_) (fun _ hP2=> ?_)
 ·have no: ¬(0≤d.sps[i].in_∧d.sps[i].in_≤i)→k (.bool false) M:=fun h=>no fun hh=>h (hh.sps i hi)
  have again:=fun h:0≤d.sps[i].in_∧d.sps[i].in_≤i=>again () (fun j hj hji=>by
   by_cases e:j=i
   ·subst e;exact h
   ·exact hP j hj (by omega))
  generalize hx:d.sps[i]=c at*
  by_cases a1:c.in_<0
  ·have no:=no (by omega)
   clear again
   simp(disch:=((try simp only[nx3]);omega)) [hi,hx,o1,eSpt,a1]
   exact Back.plain (by simp) sm no
  by_cases a2:(i:Int)<c.in_
  ·have no:=no (by omega)
   clear again
   simp(disch:=((try simp only[nx3]);omega)) [hi,hx,o1,eSpt,a1,a2]
   exact Back.plain (by simp) sm no
  have again:=again (by omega)
  simp at again
  simp(disch:=((try simp only[nx3]);omega)) [hi,hx,o1,eSpt,a1,a2]
  exact again
 have hcl:d.chs.length≤1073741824:=by omega
 simp(disch:=((try simp only[nx3]);omega)) [o1,hcl]
 obtain⟨M2,hM2⟩: ∃M2,M2=M1.new (.rows false 1 (List.replicate d.chs.length [DV.bool false])):=⟨_,rfl⟩
 have n2:M2.next=M1.next+1:=by rw[hM2];simp
 have o2:M2.obj M.next=some (.rows false 3 [[.lst 2 (d.chs.map eChn),.lst 2 (d.sps.map eSpt),.lst 3 (d.rls.map eRul)]]):=by rw[hM2,zX _ (by omega)];exact o1
 have u2:M2.obj M1.next=some (.rows false 1 ((zbZ d.chs.length []).map eBl)):=by rw[hM2,←used_nil];simp
 have sm2:SM M.next M M2:=by rw[hM2];exact zq sm (by omega)
 rw[←hM2]
 clear hM2
 generalize hU:M1.next=U0 at*
 obtain⟨n,hn⟩: ∃n,n=d.chs.length:=⟨_,rfl⟩
 refine .for (σ:=VM) c_c_37.eq_1 (fun i _=>[(6,I i)]) (fun z=>z) (fun i z=>SM M.next M z∧U0<z.next∧z.obj M.next=some (.rows false 3 [[.lst 2 (d.chs.map eChn),.lst 2 (d.sps.map eSpt),.lst 3 (d.rls.map eRul)]])∧z.obj U0=some (.rows false 1 ((zbZ d.chs.length ((d.rls.take i).flatMap Rul.joins)).map eBl))∧ ∀r∈d.rls.take i,(0≤r.pl∧r.pl≤d.sps.length)∧0<r.joins.length∧r.joins.length≤3∧zgH d r) d.rls.length M2 (by simp) rfl ⟨sm2,by omega,o2,u2,by simp⟩ (fun i z hi hP again=> ?_) (fun z hP=> ?_)
 ·obtain⟨p1,p2,p3,p4,p5⟩:=hP
  rw[List.take_succ_eq_append_getElem hi,List.flatMap_append] at again
  have hm:=List.getElem_mem hi
  generalize hx:d.rls[i]=r at*
  generalize (d.rls.take i).flatMap Rul.joins=js at*
  have no: ¬((0≤r.pl∧r.pl≤d.sps.length)∧0<r.joins.length∧r.joins.length≤3∧zgH d r)→k (.bool false) M:=fun h=>no fun hh=>h (hh.rls r hm)
  have again:=fun(h:(0≤r.pl∧r.pl≤d.sps.length)∧0<r.joins.length∧r.joins.length≤3∧zgH d r) z h1 h2 h3 h4=>again z ⟨h1,h2,h3,h4,fun q hq=>by
   rcases List.mem_append.1 hq with hq|hq
   ·exact p5 q hq
   ·rw[List.mem_singleton.1 hq];exact h⟩
  have wR:zK [I 0,.nilS,I 0] 0 [I r.pl,.lst 1 (r.joins.map fun n=>[I n]),I r.node]=some [I r.pl,.lst 1 (r.joins.map fun n=>[I n]),I r.node]:=rfl
  have t3:zbJ 3 (eRul r)=some [I r.pl,.lst 1 (r.joins.map fun n=>[I n]),I r.node]:=rfl
  have sz:SM M.next M ((z.new (.rows false 3 [[I 0,.nilS,I 0]])).put z.next (.rows false 3 [[I r.pl,.lst 1 (r.joins.map fun n=>[I n]),I r.node]])):=zbc (zq p1 (by omega)) (by omega)
  by_cases a1:r.pl<0
  ·have no:=no (by omega)
   clear again
   simp(disch:=((try simp only[nx3]);omega)) [hi,hx,p3,wR,t3,a1]
   exact Back.plain (by simp) sz no
  by_cases a2:(d.sps.length:Int)<r.pl
  ·have no:=no (by omega)
   clear again
   simp(disch:=((try simp only[nx3]);omega)) [hi,hx,p3,wR,t3,a1,a2]
   exact Back.plain (by simp) sz no
  by_cases a3:(r.joins.length:Int)<1
  ·have no:=no (by omega)
   clear again
   simp(disch:=((try simp only[nx3]);omega)) [hi,hx,p3,wR,t3,a1,a2,a3]
   exact Back.plain (by simp) sz no
  by_cases a4:(3:Int)<r.joins.length
  ·have no:=no (by omega)
   clear again
   simp(disch:=((try simp only[nx3]);omega)) [hi,hx,p3,wR,t3,a1,a2,a3,a4]
   exact Back.plain (by simp) sz no
  simp(disch:=((try simp only[nx3]);omega)) [hi,hx,p3,wR,t3,a1,a2,a3,a4]
  obtain⟨z1,hz⟩: ∃z1,z1=(z.new (.rows false 3 [[I 0,.nilS,I 0]])).put z.next (.rows false 3 [[I r.pl,.lst 1 (r.joins.map fun n=>[I n]),I r.node]]):=⟨_,rfl⟩
  have m1:z1.next=z.next+2:=by rw[hz];simp
  have q0:z1.obj z.next=some (.rows false 3 [[I r.pl,.lst 1 (r.joins.map fun n=>[I n]),I r.node]]):=by rw[hz];simp
  have q1:z1.obj M.next=some (.rows false 3 [[.lst 2 (d.chs.map eChn),.lst 2 (d.sps.map eSpt),.lst 3 (d.rls.map eRul)]]):=by rw[hz,zj,if_neg (by omega),zX _ (by omega)];exact p3
  have q2:z1.obj U0=some (.rows false 1 ((zbZ d.chs.length js).map eBl)):=by rw[hz,zj,if_neg (by omega),zX _ (by omega)];exact p4
  rw[←hz] at sz⊢
  clear hz
  refine .for (σ:=VM) c_c_35.eq_1 (fun i _=>[(8,I i)]) (fun z=>z) (fun a y=>SM M.next M y∧z.next<y.next∧y.obj M.next=some (.rows false 3 [[.lst 2 (d.chs.map eChn),.lst 2 (d.sps.map eSpt),.lst 3 (d.rls.map eRul)]])∧y.obj U0=some (.rows false 1 ((zbZ d.chs.length (js++r.joins.take a)).map eBl))∧y.obj z.next=some (.rows false 3 [[I r.pl,.lst 1 (r.joins.map fun n=>[I n]),I r.node]])∧ ∀b (hb:b<r.joins.length),b<a→(∃c:Nat,r.joins[b]=(c:Int)∧ ∃h:c<d.chs.length,d.chs[c].pl=r.pl)∧r.joins[b]∉r.joins.take b) r.joins.length z1 (by simp) rfl ⟨sz,by omega,q1,by rw[List.take_zero,List.append_nil];exact q2,q0,fun b _ h=>absurd h (Nat.not_lt_zero _)⟩ (fun a y ha hQ again2=> ?_) (fun y hQ=> ?_)
  ·obtain⟨w1,w2,w3,w4,w5,w6⟩:=hQ
   have noj: ¬((∃c:Nat,r.joins[a]=(c:Int)∧ ∃h:c<d.chs.length,d.chs[c].pl=r.pl)∧r.joins[a]∉r.joins.take a)→k (.bool false) M:=fun h=>no fun hh=>h (hh.2.2.2 a ha)
   rw[List.take_succ_eq_append_getElem ha,←List.append_assoc] at again2
   have goodj:((∃c:Nat,r.joins[a]=(c:Int)∧ ∃h:c<d.chs.length,d.chs[c].pl=r.pl)∧r.joins[a]∉r.joins.take a)→ ∀b (hb:b<r.joins.length),b<a+1→(∃c:Nat,r.joins[b]=(c:Int)∧ ∃h:c<d.chs.length,d.chs[c].pl=r.pl)∧r.joins[b]∉r.joins.take b:=fun h b hb hba=>by
    by_cases e:b=a
    ·subst e;exact h
    ·exact w6 b hb (by omega)
   have hjm: ∀b (hb:b<r.joins.length),b<a→r.joins[b]∈r.joins.take a:=fun b hb hba=>by
    rw[List.mem_take_iff_getElem];exact⟨b,by omega,rfl⟩
   clear again no
   generalize hv:r.joins[a]=v at*
   by_cases b1:v<0
   ·have no:=noj (by rintro⟨⟨c,hc,_⟩,_⟩;omega)
    clear again2
    simp(disch:=((try simp only[nx3]);omega)) [ha,hv,w3,w5,b1]
    exact Back.plain (by simp) w1 no
   obtain⟨c,rfl⟩: ∃c:Nat,v=(c:Int):=⟨v.toNat,by omega⟩
   by_cases b2:c<d.chs.length
   ·have b2i: ¬(d.chs.length:Int)≤c:=by omega
    by_cases b3:d.chs[c].pl=r.pl
    ·have b3t:=eq_true b3
     simp(disch:=((try simp only[nx3]);omega)) [ha,hv,w3,w5,b1,b2,b2i,eChn,b3t]
     refine .for (σ:=Unit) c_c_32.eq_1 (fun b _=>[(10,I b)]) (fun _=>y) (fun b _=>(c:Int)∉r.joins.take b) a () (by simp) rfl (by simp) (fun b _ hb hR again3=> ?_) (fun _ hR=> ?_)
     ·have hb2:b<r.joins.length:=by omega
      have hmem:=hjm b hb2 hb
      rw[List.take_succ_eq_append_getElem hb2] at again3
      generalize hu:r.joins[b]=u at*
      by_cases b4:u=c
      ·have no:=noj (fun hh=>hh.2 (by rw[←b4];exact hmem))
       clear again2 again3
       simp(disch:=((try simp only[nx3]);omega)) [ha,hb,hb2,hu,w5,b4]
       exact Back.plain (by simp) w1 no
      ·have again3:=again3 () (fun hq=>by
        rcases List.mem_append.1 hq with hq|hq
        ·exact hR hq
        ·exact b4 (List.mem_singleton.1 hq).symm)
       clear again2
       simp at again3
       simp(disch:=((try simp only[nx3]);omega)) [ha,hb,hb2,hu,w5,b4]
       exact again3
     ·have goodj:=goodj ⟨⟨c,rfl,b2,b3⟩,hR⟩
      have hus:=used_len d.chs.length (js++r.joins.take a)
      have hset:=used_set d.chs.length (js++r.joins.take a) b2
      have again2:=again2 (y.put U0 (.rows false 1 ((zbZ d.chs.length (js++r.joins.take a++[(c:Int)])).map eBl))) ⟨zbc w1 (by omega),by simp;omega,by rw[zj,if_neg (by omega)];exact w3,by simp,by rw[zj,if_neg (by omega)];exact w5,goodj⟩
      have hms:((zbZ d.chs.length (js++r.joins.take a)).map eBl).set c [DV.bool true]=(zbZ d.chs.length (js++r.joins.take a++[(c:Int)])).map eBl:=by rw[←hset,List.map_set];rfl
      generalize zbZ d.chs.length (js++r.joins.take a++[(c:Int)])=us2 at*
      generalize zbZ d.chs.length (js++r.joins.take a)=us1 at*
      simp at again2
      simp(disch:=((try simp only[nx3]);omega)) [ha,b2,w4,hus,hms,eBl]
      exact again2
    ·have no:=noj (by rintro⟨⟨c',hc,_,h3⟩,_⟩;have:c'=c:=by omega
                      subst this;exact b3 h3)
     clear again2
     simp(disch:=((try simp only[nx3]);omega)) [ha,hv,w3,w5,b1,b2,b2i,eChn,b3]
     exact Back.plain (by simp) w1 no
   ·have no:=noj (by rintro⟨⟨c',hc,h2,h3⟩,_⟩;omega)
    have b2i:(d.chs.length:Int)≤c:=by omega
    clear again2
    simp(disch:=((try simp only[nx3]);omega)) [ha,hv,w3,w5,b1,b2i]
    exact Back.plain (by simp) w1 no
  ·obtain⟨w1,w2,w3,w4,w5,w6⟩:=hQ
   rw[List.take_length] at w4
   have again:=again ⟨by omega,by omega,by omega,fun b hb=>w6 b hb hb⟩ y w1 (by omega) w3 (by simpa using w4)
   simp at again
   simp(disch:=((try simp only[nx3]);omega)) [w5]
   exact again
 ·obtain⟨p1,p2,p3,p4,p5⟩:=hP
  rw[List.take_length] at p4 p5
  generalize hjs:d.rls.flatMap Rul.joins=js at*
  simp(disch:=((try simp only[nx3]);omega)) [p3]
  refine .for (σ:=Unit) c_c_43.eq_1 (fun i _=>[(11,I i)]) (fun _=>z) (fun i _=> ∀c,c<i→(c:Int)∈js) d.chs.length () (by simp) rfl (fun c h=>absurd h (Nat.not_lt_zero _)) (fun i _ hi hQ again=> ?_) (fun _ hQ=> ?_)
  ·have hlu:=used_len d.chs.length js
   have hiu:i<(zbZ d.chs.length js).length:=by omega
   by_cases hij:(i:Int)∈js
   ·have hat: ∀h,(zbZ d.chs.length js)[i]'h=true:=fun h=>by rw[used_at,decide_eq_true hij]
    have again:=again () (fun c hc=>by
     by_cases e:c=i
     ·subst e;exact hij
     ·exact hQ c (by omega))
    simp at again
    simp(disch:=((try simp only[nx3]);omega)) [hi,hiu,p4,hlu,hat,eBl]
    exact again
   ·have no:=no fun hh=>by
     obtain⟨r,hr,hc⟩:=hh.all i hi
     exact hij (by rw[←hjs];exact List.mem_flatMap.2 ⟨r,hr,hc⟩)
    have hat: ∀h,(zbZ d.chs.length js)[i]'h=false:=fun h=>by rw[used_at,decide_eq_false hij]
    clear again
    simp(disch:=((try simp only[nx3]);omega)) [hi,hiu,p4,hlu,hat,eBl]
    exact Back.plain (by simp) p1 no
  ·have yes:=yes ⟨by omega,by omega,by omega,hP1,fun i hi=>hP2 i hi hi,p5,fun c hc=>by
    have:=hQ c hc
    rw[←hjs] at this
    exact List.mem_flatMap.1 this⟩
   simp(disch:=((try simp only[nx3]);omega)) [p4,used_len]
   exact Back.plain (by simp) p1 yes
end Go.Ideal.S
namespace Go.Ideal.S
open Go Go.Ideal Q Classical
attribute [local simp] decide_eq_true decide_eq_false zbD
variable {M M':VM} {k kp:DV→VM→Prop} {n0 j:Nat}
def zgp:List Bool→Nat| []=>0|b::l=>(if b=true then 0 else 1)+zgp l
theorem zeA: ∀(l:List Bool) (i:Nat),l[i]? =some false→zgp (l.set i true)+1=zgp l
 | [],i,h=>by simp at h
 |b::l,0,h=>by
  simp at h;subst h
  rw[List.set_cons_zero,zgp,zgp,if_pos rfl,if_neg (by decide)];omega
 |b::l,i+1,h=>by
  simp at h
  have:=zeA l i h
  rw[List.set_cons_succ,zgp,zgp];omega
structure Base where
 m:VM
 fr:Nat→Prop
def zc5 (st:Vs):Nat:=zgp st.met
noncomputable def runV (p:Pg) (f:Nat) (st:Option Vs) (ts:List (Int×Int)):Option Vs:=ts.foldl (fun s t=>s.bind fun s=>zfc p f s t.1 t.2) st
theorem zce (p:Pg) (f:Nat) (st:Option Vs) (a b:List (Int×Int)):runV p f st (a++b)=runV p f (runV p f st a) b:=List.foldl_append ..
theorem zbq (p:Pg) (f:Nat) (st:Option Vs) (a:List (Int×Int)) (t:Int×Int):runV p f st (a++[t])=(runV p f st a).bind fun s=>zfc p f s t.1 t.2:=List.foldl_append ..
theorem zcq (p:Pg) (f:Nat): ∀l:List (Int×Int),runV p f none l=none
 | []=>rfl
 |_::l=>zcq p f l
theorem zc6 {p:Pg} {f:Nat} {st:Option Vs} {l:List (Int×Int)} {i:Nat} (h:runV p f st (l.take i)=none):runV p f st l=none:=by
 rw[←List.take_append_drop i l,zce,h,zcq]
noncomputable def mark (x:Nd) (st:Vs) (n size:Int):Vs:=⟨st.met.set n.toNat true,st.sz.set n.toNat size,if x.op=4 then st.df.set x.n.toNat true else st.df⟩
theorem zfS (p:Pg) (f:Nat) (st:Vs) (n size:Int):zfc p (f+1) st n size=if 0≤n∧st.met[n.toNat]? =some false then match p.nodes[n.toNat]? with
 |some x=>if zhH p st.df x size then runV p f (some (mark x st n size)) (zkH p x size) else none
 |none=>none
 else none:=by rw[zfc];rfl
structure Lens (p:Pg) (st:Vs):Prop where
 m:st.met.length=p.nodes.length
 s:st.sz.length=p.nodes.length
 d:st.df.length=p.defs.length
theorem Lens.mark {p:Pg} {st:Vs} (h:Lens p st) (x:Nd) (n size:Int):Lens p (mark x st n size):=by
 refine⟨by unfold S.mark;rw[List.length_set];exact h.m,by unfold S.mark;rw[List.length_set];exact h.s,?_⟩
 unfold S.mark
 dsimp only
 split
 ·rw[List.length_set];exact h.d
 ·exact h.d
theorem mark_unmet {st:Vs} (x:Nd) {n size:Int} (h:st.met[n.toNat]? =some false):zc5 (mark x st n size)+1=zc5 st:=zeA _ _ h
theorem zhK {p:Pg}: ∀(f:Nat) (st st':Vs) (n size:Int),Lens p st→zfc p f st n size=some st'→Lens p st'∧zc5 st'<zc5 st
 |0,_,_,_,_,_,h=>by cases h
 |f+1,st,st',n,size,hl,h=>by
  rw[zfS] at h
  split at h
  ·rename_i hc
   cases hx:p.nodes[n.toNat]? with
   |none=>rw[hx] at h;cases h
   |some x=>
    rw[hx] at h
    dsimp only at h
    split at h
    ·have key: ∀(l:List (Int×Int)) (s s':Vs),Lens p s→runV p f (some s) l=some s'→Lens p s'∧zc5 s'≤zc5 s:=by
      intro l
      induction l with
      |nil=>intro s s' hs e;cases e;exact⟨hs,Nat.le_refl _⟩
      |cons t l ih=>
       intro s s' hs e
       have e:runV p f (zfc p f s t.1 t.2) l=some s':=e
       cases hv:zfc p f s t.1 t.2 with
       |none=>rw[hv,zcq] at e;cases e
       |some u=>
        rw[hv] at e
        obtain⟨a,b⟩:=zhK f s u t.1 t.2 hs hv
        obtain⟨c,d⟩:=ih u s' a e
        exact⟨c,by omega⟩
     obtain⟨a,b⟩:=key _ _ _ (hl.mark x n size) h
     have:=mark_unmet x (size:=size) hc.2
     exact⟨a,by omega⟩
    ·cases h
  ·cases h
theorem zb4 {p:Pg} {f:Nat}: ∀(l:List (Int×Int)) (s s':Vs),Lens p s→runV p f (some s) l=some s'→Lens p s'∧zc5 s'≤zc5 s
 | [],s,s',hs,e=>by cases e;exact⟨hs,Nat.le_refl _⟩
 |t::l,s,s',hs,e=>by
  have e:runV p f (zfc p f s t.1 t.2) l=some s':=e
  cases hv:zfc p f s t.1 t.2 with
  |none=>rw[hv,zcq] at e;cases e
  |some u=>
   rw[hv] at e
   obtain⟨a,b⟩:=zhK f s u t.1 t.2 hs hv
   obtain⟨c,d⟩:=zb4 l u s' a e
   exact⟨c,by omega⟩
def eNd (x:Nd):List DV:=[I x.op,I x.n,.lst 3 (x.args.map eEx),.lst 1 (x.kids.map fun n=>[I n])]
def ePg (p:Pg):List DV:=[.lst 1 (p.free.map eS),.lst 4 (p.nodes.map eNd),.lst 3 (p.defs.map eDfn),I p.main]
def eCt (b:Bool):List DV:=[I (if b=true then 1 else 0)]
structure LkE (p:Pg) (B:Base) (L0 oS oO oU:Nat) (y:VM) (st:Vs) (bad:Bool):Prop where
 kp: ∀i,B.fr i→y.get i=B.m.get i
 nx: ∀i,B.fr i→i<y.next
 nl: ¬B.fr L0∧ ¬B.fr oS∧ ¬B.fr oO∧ ¬B.fr oU
 df:L0≠oS∧L0≠oO∧L0≠oU∧oS≠oO∧oS≠oU∧oO≠oU
 lt:L0<y.next∧oS<y.next∧oO<y.next∧oU<y.next
 oj:y.obj L0=some (.rows false 8 [[.lst 1 (p.free.map eS),.lst 4 (p.nodes.map eNd),.lst 3 (p.defs.map eDfn),I p.main,.ms oS 0 p.nodes.length p.nodes.length,.ms oO 0 p.nodes.length p.nodes.length,.ms oU 0 p.defs.length p.defs.length,.bool bad]])
 os:y.obj oS=some (.rows false 1 (st.sz.map fun n=>[I n]))
 oo:y.obj oO=some (.rows false 1 (st.met.map eCt))
 ou:y.obj oU=some (.rows false 1 (st.df.map eCt))
 ln:Lens p st
theorem LkE.keep {p:Pg} {B:Base} {L0 oS oO oU:Nat} {y y':VM} {st:Vs} {bad:Bool} (h:LkE p B L0 oS oO oU y st bad) (hn:y.next≤y'.next) (hk: ∀i,i<y.next→y'.get i=y.get i):LkE p B L0 oS oO oU y' st bad:=by
 obtain⟨l1,l2,l3,l4⟩:=h.lt
 have ob: ∀{i:Nat} {o:MO},i<y.next→y.obj i=some o→y'.obj i=some o:=fun hi ho=>by
  show(VM.get _ _).map _=_
  rw[hk _ hi];exact ho
 exact⟨fun i hi=>(hk i (h.nx i hi)).trans (h.kp i hi),fun i hi=>by have:=h.nx i hi;omega,h.nl,h.df,⟨by omega,by omega,by omega,by omega⟩,ob l1 h.oj,ob l2 h.os,ob l3 h.oo,ob l4 h.ou,h.ln⟩
theorem LkE.bad {p:Pg} {B:Base} {L0 oS oO oU:Nat} {y:VM} {st:Vs} {b:Bool} (h:LkE p B L0 oS oO oU y st b) (c:Bool):LkE p B L0 oS oO oU (y.put L0 (.rows false 8 [[.lst 1 (p.free.map eS),.lst 4 (p.nodes.map eNd),.lst 3 (p.defs.map eDfn),I p.main,.ms oS 0 p.nodes.length p.nodes.length,.ms oO 0 p.nodes.length p.nodes.length,.ms oU 0 p.defs.length p.defs.length,.bool c]])) st c:=by
 obtain⟨l1,l2,l3,l4⟩:=h.lt
 obtain⟨d1,d2,d3,d4,d5,d6⟩:=h.df
 have hne: ∀i,B.fr i→i≠L0:=fun i hi e=>h.nl.1 (by rw[←e];exact hi)
 exact⟨fun i hi=>by rw[get_put,if_neg (hne i hi)];exact h.kp i hi,fun i hi=>by have:=h.nx i hi;simp;omega,h.nl,h.df,by simp;omega,by simp,by rw[zj,if_neg (fun e=>d1 e.symm)];exact h.os,by rw[zj,if_neg (fun e=>d2 e.symm)];exact h.oo,by rw[zj,if_neg (fun e=>d3 e.symm)];exact h.ou,h.ln⟩
theorem LkE.met {p:Pg} {B:Base} {L0 oS oO oU:Nat} {y:VM} {st:Vs} {b:Bool} (h:LkE p B L0 oS oO oU y st b) (n:Nat):LkE p B L0 oS oO oU (y.put oO (.rows false 1 ((st.met.set n true).map eCt))) ⟨st.met.set n true,st.sz,st.df⟩ b:=by
 obtain⟨l1,l2,l3,l4⟩:=h.lt
 obtain⟨d1,d2,d3,d4,d5,d6⟩:=h.df
 have hne: ∀i,B.fr i→i≠oO:=fun i hi e=>h.nl.2.2.1 (by rw[←e];exact hi)
 exact⟨fun i hi=>by rw[get_put,if_neg (hne i hi)];exact h.kp i hi,fun i hi=>by have:=h.nx i hi;simp;omega,h.nl,h.df,by simp;omega,by rw[zj,if_neg d2];exact h.oj,by rw[zj,if_neg d4];exact h.os,by simp,by rw[zj,if_neg (fun e=>d6 e.symm)];exact h.ou,⟨by show(List.set _ _ _).length=_;rw[List.length_set];exact h.ln.m,h.ln.s,h.ln.d⟩⟩
theorem LkE.size {p:Pg} {B:Base} {L0 oS oO oU:Nat} {y:VM} {st:Vs} {b:Bool} (h:LkE p B L0 oS oO oU y st b) (n:Nat) (v:Int):LkE p B L0 oS oO oU (y.put oS (.rows false 1 ((st.sz.set n v).map fun n=>[I n]))) ⟨st.met,st.sz.set n v,st.df⟩ b:=by
 obtain⟨l1,l2,l3,l4⟩:=h.lt
 obtain⟨d1,d2,d3,d4,d5,d6⟩:=h.df
 have hne: ∀i,B.fr i→i≠oS:=fun i hi e=>h.nl.2.1 (by rw[←e];exact hi)
 exact⟨fun i hi=>by rw[get_put,if_neg (hne i hi)];exact h.kp i hi,fun i hi=>by have:=h.nx i hi;simp;omega,h.nl,h.df,by simp;omega,by rw[zj,if_neg d1];exact h.oj,by simp,by rw[zj,if_neg (fun e=>d4 e.symm)];exact h.oo,by rw[zj,if_neg (fun e=>d5 e.symm)];exact h.ou,⟨h.ln.m,by show(List.set _ _ _).length=_;rw[List.length_set];exact h.ln.s,h.ln.d⟩⟩
theorem LkE.defs {p:Pg} {B:Base} {L0 oS oO oU:Nat} {y:VM} {st:Vs} {b:Bool} (h:LkE p B L0 oS oO oU y st b) (n:Nat):LkE p B L0 oS oO oU (y.put oU (.rows false 1 ((st.df.set n true).map eCt))) ⟨st.met,st.sz,st.df.set n true⟩ b:=by
 obtain⟨l1,l2,l3,l4⟩:=h.lt
 obtain⟨d1,d2,d3,d4,d5,d6⟩:=h.df
 have hne: ∀i,B.fr i→i≠oU:=fun i hi e=>h.nl.2.2.2 (by rw[←e];exact hi)
 exact⟨fun i hi=>by rw[get_put,if_neg (hne i hi)];exact h.kp i hi,fun i hi=>by have:=h.nx i hi;simp;omega,h.nl,h.df,by simp;omega,by rw[zj,if_neg d3];exact h.oj,by rw[zj,if_neg d5];exact h.os,by rw[zj,if_neg d6];exact h.oo,by simp,⟨h.ln.m,h.ln.s,by show(List.set _ _ _).length=_;rw[List.length_set];exact h.ln.d⟩⟩
theorem LkE.obj {p:Pg} {B:Base} {L0 oS oO oU:Nat} {y:VM} {st:Vs} {b:Bool} (h:LkE p B L0 oS oO oU y st b) {i:Nat} (hi:B.fr i):y.obj i=B.m.obj i:=by
 show(y.get i).map _=(B.m.get i).map _
 rw[h.kp i hi]
theorem LkE.rebase {p:Pg} {B B2:Base} {L0 oS oO oU:Nat} {y:VM} {st:Vs} {b:Bool} (h:LkE p B L0 oS oO oU y st b) (hf: ∀i,B2.fr i→B.fr i∧B2.m.get i=B.m.get i):LkE p B2 L0 oS oO oU y st b:=
 ⟨fun i hi=>(h.kp i (hf i hi).1).trans (hf i hi).2.symm,fun i hi=>h.nx i (hf i hi).1,⟨fun hh=>h.nl.1 (hf _ hh).1,fun hh=>h.nl.2.1 (hf _ hh).1,fun hh=>h.nl.2.2.1 (hf _ hh).1,fun hh=>h.nl.2.2.2 (hf _ hh).1⟩,h.df,h.lt,h.oj,h.os,h.oo,h.ou,h.ln⟩
theorem LkE.more {p:Pg} {B:Base} {L0 oS oO oU:Nat} {y:VM} {st:Vs} {b:Bool} (h:LkE p B L0 oS oO oU y st b):LkE p ⟨y,fun i=>i<y.next∧i≠L0∧i≠oS∧i≠oO∧i≠oU⟩ L0 oS oO oU y st b:=
 ⟨fun _ _=>rfl,fun i hi=>hi.1,⟨fun hh=>hh.2.1 rfl,fun hh=>hh.2.2.1 rfl,fun hh=>hh.2.2.2.1 rfl,fun hh=>hh.2.2.2.2 rfl⟩,h.df,h.lt,h.oj,h.os,h.oo,h.ou,h.ln⟩
end Go.Ideal.S
namespace Go.Ideal.S
open Go Go.Ideal Q Classical
attribute [local simp] decide_eq_true decide_eq_false zbD
variable {M M':VM} {k kp:DV→VM→Prop} {n0 j:Nat} {p:Pg} {f:Nat} {B:Base} {L0 oS oO oU:Nat}
@[simp] theorem n_Dfn (d:Dfn):(eDfn d).length=3:=rfl
@[simp] theorem n_Rul (r:Rul):(eRul r).length=3:=rfl
@[simp] theorem n_Nd (x:Nd):(eNd x).length=4:=rfl
@[simp] theorem n_Pg (x:Pg):(ePg x).length=4:=rfl
def zgg (op:Int):Int×Int×Bool:=if op=1∨op=7 then(0,0,true) else if op=2 then(-1,0,true) else if op=3 then(0,2,true) else if op=5 then(1,2,true) else if op=4∨op=6∨op=8 then(0,1,true) else(0,0,false)
attribute [local simp] c_h f_h r_h_1 r_h_2 r_h_3 r_h_4 r_h_5 r_h_6 r_h_7 r_h_8 r_h_9 r_h_10 r_h_11 r_h_12 r_h_13 r_h_14 r_h_15 r_h_16
theorem rshape_ok (op:Int) (hk:k (.tup [I (zgg op).1,I (zgg op).2.1,.bool (zgg op).2.2]) M):zg F (.fn n_h [] []) [I op] M k kp:=by
 unfold zgg at hk
 apply zg.back
 refine .fn zfv rfl (by simp[f_h]) ?_
 by_cases h1:op=1
 ·subst h1
  simp(disch:=((try simp only[nx3]);omega))
  exact bpl hk
 by_cases h7:op=7
 ·subst h7
  simp(disch:=((try simp only[nx3]);omega))
  exact bpl hk
 rw[if_neg (by omega)] at hk
 by_cases h2:op=2
 ·subst h2
  simp(disch:=((try simp only[nx3]);omega))
  exact bpl hk
 rw[if_neg h2] at hk
 by_cases h3:op=3
 ·subst h3
  simp(disch:=((try simp only[nx3]);omega))
  exact bpl hk
 rw[if_neg h3] at hk
 by_cases h5:op=5
 ·subst h5
  simp(disch:=((try simp only[nx3]);omega))
  exact bpl hk
 rw[if_neg h5] at hk
 by_cases h4:op=4
 ·subst h4
  simp(disch:=((try simp only[nx3]);omega))
  exact bpl hk
 by_cases h6:op=6
 ·subst h6
  simp(disch:=((try simp only[nx3]);omega))
  exact bpl hk
 by_cases h8:op=8
 ·subst h8
  simp(disch:=((try simp only[nx3]);omega))
  exact bpl hk
 rw[if_neg (by omega)] at hk
 simp(disch:=((try simp only[nx3]);omega)) [h1,h2,h3,h4,h5,h6,h7,h8]
 exact bpl hk
theorem brings_le {d:Dfn} {r:Rul} (hd:zR d) (hr:r∈d.rls):0≤zcy d r∧zcy d r≤9:=by
 obtain⟨_,r1,r2,r3⟩:=hd.rls r hr
 unfold zcy
 have key: ∀l:List Int,(∀c∈l,0≤zdo d c∧zdo d c≤3)→0≤(l.map (zdo d)).sum∧(l.map (zdo d)).sum≤3*l.length:=by
  intro l
  induction l with
  |nil=>intro _;simp
  |cons c l ih=>
   intro h
   have a:=h c (List.mem_cons_self ..)
   have b:=ih fun x hx=>h x (List.mem_cons_of_mem _ hx)
   simp only[List.map_cons,List.sum_cons,List.length_cons]
   omega
 have:=key r.joins fun c hc=>by
  obtain⟨i,hi,rfl⟩:=List.getElem_of_mem hc
  obtain⟨⟨c,e,h,_⟩,_⟩:=r3 i hi
  obtain⟨m1,m2,m3⟩:=many_at hd h
  rw[e,m1];exact⟨m2,m3⟩
 omega
def NodeC (p:Pg) (f:Nat):Prop:= ∀{B:Base} {L0 oS oO oU:Nat} {M:VM} {k kp:DV→VM→Prop} (st:Vs) (n size:Int),zc5 st<f→0≤size→size+100*zc5 st≤10000→LkE p B L0 oS oO oU M st false→(∀M' st',LkE p B L0 oS oO oU M' st' false→zfc p f st n size=some st'→k (.tup []) M')→(∀M' st',LkE p B L0 oS oO oU M' st' true→zfc p f st n size=none→k (.tup []) M')→zg F (.fn n_b [] []) [.ptr L0 0 0,I n,I size] M k kp
attribute [local simp] c_k f_k r_k_1 r_k_2 r_k_3 r_k_4 r_k_5 r_k_7 r_k_8 r_k_9 r_k_10
theorem rlkdef_ok (IH:NodeC p f) (d:Dfn) (hd:zR d) (st:Vs) (size:Int) (h1:zc5 st<f) (h2:0≤size) (h3:size+9+100*zc5 st≤10000) (h:LkE p B L0 oS oO oU M st false)
 (hk: ∀M' st',LkE p B L0 oS oO oU M' st' false→runV p f (some st) ((d.rls.map fun r=>(r.node,size+zcy d r))++d.sps.map fun s=>(s.node,size))=some st'→k (.tup []) M')
 (hp: ∀M' st',LkE p B L0 oS oO oU M' st' true→runV p f (some st) ((d.rls.map fun r=>(r.node,size+zcy d r))++d.sps.map fun s=>(s.node,size))=none→k (.tup []) M'):zg F (.fn n_k [] []) [.ptr L0 0 0,.agg (eDfn d),I size] M k kp:=by
 have hsl:=h.ln
 refine .fn zd6 rfl (by simp[f_k]) ?_
 simp(disch:=((try simp only[nx3]);omega))
 obtain⟨M1,hM⟩: ∃M1,M1=M.new (.rows false 3 [eDfn d]):=⟨_,rfl⟩
 have n1:M1.next=M.next+1:=by rw[hM];simp
 have k1: ∀i,i<M.next→M1.get i=M.get i:=fun i hi=>by rw[hM,get_new,if_neg (by omega)]
 have o1:M1.obj M.next=some (.rows false 3 [[.lst 2 (d.chs.map eChn),.lst 2 (d.sps.map eSpt),.lst 3 (d.rls.map eRul)]]):=by rw[hM];simp[eDfn]
 have g1:=h.keep (y':=M1) (by omega) k1
 obtain⟨l1,l2,l3,l4⟩:=h.lt
 have m1:=g1.more
 have back: ∀{y s b},LkE p ⟨M1,fun i=>i<M1.next∧i≠L0∧i≠oS∧i≠oO∧i≠oU⟩ L0 oS oO oU y s b→LkE p B L0 oS oO oU y s b:=fun h'=>h'.rebase fun i hi=>⟨⟨g1.nx i hi,fun e=>g1.nl.1 (by rw[←e];exact hi),fun e=>g1.nl.2.1 (by rw[←e];exact hi),fun e=>g1.nl.2.2.1 (by rw[←e];exact hi),fun e=>g1.nl.2.2.2 (by rw[←e];exact hi)⟩,(g1.kp i hi).symm⟩
 have oD: ∀{y s b},LkE p ⟨M1,fun i=>i<M1.next∧i≠L0∧i≠oS∧i≠oO∧i≠oU⟩ L0 oS oO oU y s b→y.obj M.next=some (.rows false 3 [[.lst 2 (d.chs.map eChn),.lst 2 (d.sps.map eSpt),.lst 3 (d.rls.map eRul)]]):=fun h'=>(h'.obj ⟨by omega,by omega,by omega,by omega,by omega⟩).trans o1
 rw[←hM]
 clear hM
 generalize hB':(⟨M1,fun i=>i<M1.next∧i≠L0∧i≠oS∧i≠oO∧i≠oU⟩:Base)=B' at*
 obtain⟨rt,hrt⟩: ∃rt,rt=d.rls.map fun r=>(r.node,size+zcy d r):=⟨_,rfl⟩
 obtain⟨stt,hstt⟩: ∃stt,stt=d.sps.map fun s=>(s.node,size):=⟨_,rfl⟩
 have hrl:rt.length=d.rls.length:=by rw[hrt];simp
 have hstl:stt.length=d.sps.length:=by rw[hstt];simp
 rw[←hrt,←hstt] at hk hp
 have hdl:=hd.l3
 have hdl2:=hd.l2
 refine .while (σ:=Nat×VM×Vs×Bool) c_k_6.eq_1 (fun z=>[(6,I z.1)]) (fun z=>z.2.1) (fun z=>z.1≤d.rls.length∧LkE p B' L0 oS oO oU z.2.1 z.2.2.1 z.2.2.2∧(z.2.2.2=false→runV p f (some st) (rt.take z.1)=some z.2.2.1)∧(z.2.2.2=true→runV p f (some st) rt=none)) (fun z=>d.rls.length - z.1) (0,M1,st,false) (by simp) rfl ⟨Nat.zero_le _,m1,fun _=>rfl,nofun⟩ (fun z hP again=> ?_)
 obtain⟨i,y,s,b⟩:=z
 obtain⟨p1,p2,p3,p4⟩:=hP
 dsimp only at*
 have oj:=p2.oj
 have od:=oD p2
 by_cases hc:i<d.rls.length∧b=false
 ·obtain⟨hi,rfl⟩:=hc
  have p3:=p3 rfl
  have hir:i<rt.length:=by omega
  have hm:=List.getElem_mem hi
  have htk:rt.take (i+1)=rt.take i++[(d.rls[i].node,size+zcy d d.rls[i])]:=by
   rw[List.take_succ_eq_append_getElem hir]
   have:rt[i]=(d.rls[i].node,size+zcy d d.rls[i]):=by simp[hrt]
   rw[this]
  obtain⟨_,u1⟩:=zb4 _ _ _ hsl p3
  have again:=fun(M':VM) (st':Vs) (c:Bool) h1 h2 h3=>again (i+1,M',st',c) (by dsimp only;omega) ⟨by dsimp only;omega,h1,h2,h3⟩
  generalize hr:d.rls[i]=r at*
  obtain⟨b1,b2⟩:=brings_le hd hm
  have t3:zbJ 3 (eRul r)=some (eRul r):=rfl
  simp(disch:=((try simp only[nx3]);omega)) [oj,od,hi,hr,t3]
  refine rmore_ok d r hd hm ?_
  simp(disch:=((try simp only[nx3]);omega)) [od,hi,hr,eRul]
  refine IH s _ _ (by omega) (by omega) (by omega) p2 (fun M' st' g e=> ?_) (fun M' st' g e=> ?_)
  ·have again:=again M' st' false g (fun _=>by rw[htk,zbq,p3];exact e) nofun
   simp at again
   simp(disch:=((try simp only[nx3]);omega))
   exact again
  ·have again:=again M' st' true g nofun (fun _=>zc6 (i:=i+1) (by rw[htk,zbq,p3];exact e))
   simp at again
   simp(disch:=((try simp only[nx3]);omega))
   exact again
 have init:(b=false→runV p f (runV p f (some st) rt) (stt.take 0)=some s)∧(b=true→runV p f (some st) (rt++stt)=none):=⟨fun e=>by
  have hi:i=rt.length:=by
   have: ¬i<d.rls.length:=fun h=>hc ⟨h,e⟩
   omega
  have:=p3 e
  rw[hi,List.take_length] at this
  rw[List.take_zero,this];rfl,fun e=>by rw[zce,p4 e,zcq]⟩
 have hcs:b=true∨(b=false∧ ¬i<d.rls.length):=by
  cases b with
  |true=>exact .inl rfl
  |false=>exact .inr ⟨rfl,fun h=>hc ⟨h,rfl⟩⟩
 obtain⟨i1,i2⟩:=init
 clear again p3 p4 hc
 by_cases hil:i<d.rls.length<;>rcases hcs with hb| ⟨hb,hni⟩
 rotate_left 1
 ·exact absurd hil hni
 all_goals
  simp(disch:=((try simp only[nx3]);omega)) [oj,od,hb,hil]
  refine .while (σ:=Nat×VM×Vs×Bool) c_k_11.eq_1 (fun z=>[(7,I z.1)]) (fun z=>z.2.1) (fun z=>z.1≤d.sps.length∧LkE p B' L0 oS oO oU z.2.1 z.2.2.1 z.2.2.2∧(z.2.2.2=false→runV p f (runV p f (some st) rt) (stt.take z.1)=some z.2.2.1)∧(z.2.2.2=true→runV p f (some st) (rt++stt)=none)) (fun z=>d.sps.length - z.1) (0,y,s,b) (by simp) rfl ⟨Nat.zero_le _,p2,i1,i2⟩ (fun z hP again=> ?_)
  obtain⟨i',y',s',b'⟩:=z
  obtain⟨q1,q2,q3,q4⟩:=hP
  dsimp only at*
  have oj':=q2.oj
  have od':=oD q2
  by_cases hc':i'<d.sps.length∧b'=false
  ·obtain⟨hi,rfl⟩:=hc'
   have q3:=q3 rfl
   have hir:i'<stt.length:=by omega
   have htk:stt.take (i'+1)=stt.take i'++[(d.sps[i'].node,size)]:=by
    rw[List.take_succ_eq_append_getElem hir]
    have:stt[i']=(d.sps[i'].node,size):=by simp[hstt]
    rw[this]
   have q3':runV p f (some st) (rt++stt.take i')=some s':=by rw[zce];exact q3
   obtain⟨_,u1⟩:=zb4 _ _ _ hsl q3'
   have again:=fun(M':VM) (st':Vs) (c:Bool) h1 h2 h3=>again (i'+1,M',st',c) (by dsimp only;omega) ⟨by dsimp only;omega,h1,h2,h3⟩
   generalize hr:d.sps[i']=r at*
   simp(disch:=((try simp only[nx3]);omega)) [oj',od',hi,hr,eSpt]
   refine IH s' _ _ (by omega) (by omega) (by omega) q2 (fun M' st' g e=> ?_) (fun M' st' g e=> ?_)
   ·have again:=again M' st' false g (fun _=>by rw[htk,zbq,q3];exact e) nofun
    simp at again
    simp(disch:=((try simp only[nx3]);omega))
    exact again
   ·have again:=again M' st' true g nofun (fun _=>zc6 (i:=rt.length+(i'+1)) (by
     rw[List.take_append,List.take_of_length_le (by omega),show rt.length+(i'+1) - rt.length=i'+1 by omega,zce,htk,zbq,q3];exact e))
    simp at again
    simp(disch:=((try simp only[nx3]);omega))
    exact again
  ·have fin:k (.tup []) y':=by
    cases b' with
    |true=>exact hp y' s' (back q2) (q4 rfl)
    |false=>
     have hi:i'=stt.length:=by
      have: ¬i'<d.sps.length:=fun h=>hc' ⟨h,rfl⟩
      omega
     have q3:=q3 rfl
     rw[hi,List.take_length] at q3
     exact hk y' s' (back q2) (by rw[zce];exact q3)
   clear again
   by_cases hil':i'<d.sps.length
   ·have hb':b'=true:=by
     cases b' with
     |true=>rfl
     |false=>exact absurd ⟨hil',rfl⟩ hc'
    simp(disch:=((try simp only[nx3]);omega)) [oj',od',hil',hb']
    exact fin
   ·simp(disch:=((try simp only[nx3]);omega)) [oj',od',hil']
    exact fin
end Go.Ideal.S
namespace Go.Ideal.S
open Go Go.Ideal Q Classical
attribute [local simp] decide_eq_true decide_eq_false zbD
variable {M M':VM} {k kp:DV→VM→Prop} {n0 j:Nat} {p:Pg} {f:Nat} {B:Base} {L0 oS oO oU:Nat}
theorem shape_facts (op:Int):((zgg op).2.2=true→ ∃kd:Nat,(zgg op).2.1=(kd:Int)∧zfr op=some kd∧(zgg op).1=if op=2 then -1 else if op=5 then 1 else 0)∧((zgg op).2.2=false→zfr op=none):=by
 unfold zgg zfr
 by_cases h17:op=1∨op=7
 ·rw[if_pos h17,if_pos h17]
  refine⟨fun _=>⟨0,rfl,rfl,?_⟩,nofun⟩
  rw[if_neg (by omega),if_neg (by omega)]
 rw[if_neg h17,if_neg h17]
 by_cases h2:op=2
 ·subst h2
  exact⟨fun _=>⟨0,rfl,rfl,rfl⟩,nofun⟩
 rw[if_neg h2,if_neg h2]
 by_cases h3:op=3
 ·subst h3
  exact⟨fun _=>⟨2,rfl,rfl,rfl⟩,nofun⟩
 rw[if_neg h3,if_neg h3]
 by_cases h5:op=5
 ·subst h5
  exact⟨fun _=>⟨2,rfl,rfl,rfl⟩,nofun⟩
 rw[if_neg h5,if_neg h5]
 by_cases h4:op=4∨op=6∨op=8
 ·rw[if_pos h4,if_neg h2,if_pos (by omega)]
  refine⟨fun _=>⟨1,rfl,rfl,?_⟩,nofun⟩
  rw[if_neg h5]
 ·rw[if_neg h4,if_neg h2,if_neg (by omega)]
  exact⟨nofun,fun _=>rfl⟩
theorem kidsOf_le {op:Int} {k:Nat} (h:zfr op=some k):k≤2:=by
 unfold zfr at h
 repeat' split at h
 all_goals first| (cases h;omega)|cases h
attribute [local simp] c_b f_b r_b_1 r_b_2 r_b_3 r_b_4 r_b_5 r_b_6 r_b_7 r_b_8 r_b_9 r_b_10 r_b_11 r_b_12 r_b_14 r_b_15 r_b_16 r_b_17 r_b_18 r_b_19 r_b_20 r_b_21 r_b_22 r_b_23 r_b_24 r_b_25 r_b_26 r_b_27 r_b_28 r_b_29 r_b_30
theorem rnode_ok (hN:p.nodes.length≤60) (hD:p.defs.length≤12) (hall: ∀d∈p.defs,zR d): ∀f,NodeC p f
 |0=>fun st n size h=>absurd h (Nat.not_lt_zero _)
 |f+1=>by
  have IH:NodeC p f:=rnode_ok hN hD hall f
  rename_i B L0 oS oO oU M k kp
  intro st n size h1 h2 h3 h hk hp
  simp only[zfS] at hk hp
  have hln:=h.ln
  obtain⟨lm,ls,ld⟩:=hln
  have oj:=h.oj
  have oo:=h.oo
  have os:=h.os
  have dff:=h.df
  obtain⟨x1,x2,x3,x4,x5,x6⟩:=dff
  have x1':=fun e=>x1 (Eq.symm e)
  have x2':=fun e=>x2 (Eq.symm e)
  have x4':=fun e=>x4 (Eq.symm e)
  refine .fn zdD rfl (by simp[f_b]) ?_
  by_cases a1:n<0
  ·have hp:=hp _ st (h.bad true) (if_neg (by omega))
   simp(disch:=((try simp only[nx3]);omega)) [oj,a1]
   exact hp
  obtain⟨m,rfl⟩: ∃m:Nat,n=(m:Int):=⟨n.toNat,by omega⟩
  rw[Int.toNat_natCast] at hk hp
  by_cases a2:m<p.nodes.length
  ·have a2i: ¬(p.nodes.length:Int)≤m:=by omega
   have a3:m<st.met.length:=by omega
   have a4:m<st.sz.length:=by omega
   by_cases hm:st.met[m]=true
   ·have hp:=hp _ st (h.bad true) (if_neg (by rintro⟨_,h⟩;rw[List.getElem?_eq_getElem a3,hm] at h;cases h))
    simp(disch:=((try simp only[nx3]);omega)) [oj,oo,a1,a2,a2i,a3,hm,eCt]
    exact hp
   ·have hm:st.met[m]=false:=by simpa using hm
    have hmq:st.met[m]? =some false:=by rw[List.getElem?_eq_getElem a3,hm]
    have hcond:(0≤(m:Int)∧st.met[m]? =some false):=⟨by omega,hmq⟩
    have hxq:p.nodes[m]? =some p.nodes[m]:=List.getElem?_eq_getElem a2
    have hset:(st.met.map eCt).set m [I 1]=(st.met.set m true).map eCt:=by rw[List.map_set];rfl
    have hset2:(st.sz.map fun n=>[I n]).set m [I size]=(st.sz.set m size).map fun n=>[I n]:=by rw[List.map_set]
    have g1:=(h.met m).size m size
    obtain⟨RO,hRO⟩: ∃RO,RO=(st.met.set m true).map eCt:=⟨_,rfl⟩
    obtain⟨RS,hRS⟩: ∃RS,RS=(st.sz.set m size).map fun n=>[I n]:=⟨_,rfl⟩
    dsimp only at g1
    rw[←hRO,←hRS] at g1
    rw[←hRO] at hset
    rw[←hRS] at hset2
    rw[if_pos hcond,hxq] at hp
    simp only[if_pos hcond,hxq] at hk
    dsimp only at hp
    generalize hx:p.nodes[m]=x at*
    have t4:zbJ 4 (eNd x)=some [I x.op,I x.n,.lst 3 (x.args.map eEx),.lst 1 (x.kids.map fun n=>[I n])]:=rfl
    have w4:zK [I 0,I 0,.nilS,.nilS] 0 [I x.op,I x.n,.lst 3 (x.args.map eEx),.lst 1 (x.kids.map fun n=>[I n])]=some [I x.op,I x.n,.lst 3 (x.args.map eEx),.lst 1 (x.kids.map fun n=>[I n])]:=rfl
    simp(disch:=((try simp only[nx3]);omega)) [oj,oo,os,a1,a2,a2i,a3,a4,hm,eCt,x1,x2,x4,x1',x2',x4',hx,t4,w4,hset,hset2]
    obtain⟨M1,hM⟩: ∃M1,M1=((((M.put oO (.rows false 1 RO)).put oS (.rows false 1 RS)).new (.rows false 4 [[I 0,I 0,.nilS,.nilS]])).put (M.next+1+1) (.rows false 4 [[I x.op,I x.n,.lst 3 (x.args.map eEx),.lst 1 (x.kids.map fun n=>[I n])]])):=⟨_,rfl⟩
    have n1:M1.next=M.next+4:=by rw[hM];simp
    have g2:=g1.keep (y':=M1) (by rw[hM];simp<;>omega) (fun i hi=>by rw[hM,get_put,if_neg (by simp at hi;omega),get_new,if_neg (by simp at hi⊢;omega)])
    have oX1:M1.obj (M.next+1+1)=some (.rows false 4 [[I x.op,I x.n,.lst 3 (x.args.map eEx),.lst 1 (x.kids.map fun n=>[I n])]]):=by rw[hM,zj,if_pos rfl]
    rw[←hM]
    have lts:=h.lt
    clear hM oj oo os hset hset2 t4 w4
    obtain⟨t1,t2,t3,t4⟩:=lts
    generalize hxo:M.next+1+1=xo at*
    have m2:=g2.more
    have back: ∀{y s b},LkE p ⟨M1,fun i=>i<M1.next∧i≠L0∧i≠oS∧i≠oO∧i≠oU⟩ L0 oS oO oU y s b→LkE p B L0 oS oO oU y s b:=fun h'=>h'.rebase fun i hi=>⟨⟨g2.nx i hi,fun e=>g2.nl.1 (by rw[←e];exact hi),fun e=>g2.nl.2.1 (by rw[←e];exact hi),fun e=>g2.nl.2.2.1 (by rw[←e];exact hi),fun e=>g2.nl.2.2.2 (by rw[←e];exact hi)⟩,(g2.kp i hi).symm⟩
    have oX: ∀{y s b},LkE p ⟨M1,fun i=>i<M1.next∧i≠L0∧i≠oS∧i≠oO∧i≠oU⟩ L0 oS oO oU y s b→y.obj xo=some (.rows false 4 [[I x.op,I x.n,.lst 3 (x.args.map eEx),.lst 1 (x.kids.map fun n=>[I n])]]):=fun h'=>(h'.obj ⟨by omega,by omega,by omega,by omega,by omega⟩).trans oX1
    generalize hB':(⟨M1,fun i=>i<M1.next∧i≠L0∧i≠oS∧i≠oO∧i≠oU⟩:Base)=B' at*
    have oj1:=m2.oj
    have hp0:=hp
    have hp:=fun(hno: ¬zhH p st.df x size) M' st' hg=>hp M' st' hg (if_neg hno)
    have sf:=shape_facts x.op
    refine rshape_ok x.op ?_
    generalize hsr:zgg x.op=sr at*
    obtain⟨ar,kdi,is⟩:=sr
    dsimp only at sf⊢
    cases is with
    |false=>
     have hp:=hp (fun hh=>by have:=hh.kids;rw[sf.2 rfl] at this;cases this) _ _ (back (m2.bad true))
     simp(disch:=((try simp only[nx3]);omega)) [oX1,oj1]
     exact hp
    |true=>
     obtain⟨kd,rfl,hkd,har⟩:=sf.1 rfl
     by_cases c2:x.kids.length=kd
     ·have c2i:(x.kids.length:Int)=kd:=by omega
      have hkl:x.kids.length≤2:=by rw[c2];exact kidsOf_le hkd
      have hc:(x.op=2∧ar= -1)∨(x.op≠2∧ ∃an:Nat,ar=(an:Int)∧an=if x.op=5 then 1 else 0):=by
       by_cases o2:x.op=2
       ·rw[if_pos o2] at har;exact .inl ⟨o2,har⟩
       ·rw[if_neg o2] at har
        refine .inr ⟨o2,if x.op=5 then 1 else 0,?_,rfl⟩
        rw[har];split<;>rfl
      by_cases c3:if x.op=2 then x.args.length≤3 else x.args.length=if x.op=5 then 1 else 0
      ·have al:x.args.length≤3:=by split at c3<;>(try split at c3)<;>omega
       have hc4:(ar= -1∧ ¬(3:Int)<x.args.length)∨ ∃an:Nat,ar=(an:Int)∧((x.args.length:Int)=an)=True:=by
        rcases hc with⟨o2,e⟩| ⟨o2,an,e,e2⟩
        ·exact .inl ⟨e,by omega⟩
        ·rw[if_neg o2] at c3
         exact .inr ⟨an,e,eq_true (by omega)⟩
       clear hc har
       have nodeok: ∀hn hE,zhH p st.df x size:=fun hn hE=>⟨by rw[hkd,c2],hn,c3,hE⟩
       rcases hc4 with⟨rfl,c4⟩| ⟨an,rfl,c4⟩
       all_goals
        simp(disch:=((try simp only[nx3]);omega)) [oX1,oj1,c2i,c4]
        refine .for (σ:=VM) c_b_13.eq_1 (fun i _=>[(10,I i)]) (fun z=>z) (fun i y=>LkE p B' L0 oS oO oU y ⟨st.met.set m true,st.sz.set m size,st.df⟩ (!decide (∀e∈x.args.take i,zff size e))) x.args.length M1 (by simp) rfl (by simpa using m2) (fun i y hi hP again=> ?_) (fun y hP=> ?_)
        ·have oX2:=oX hP
         have oj2:=hP.oj
         rw[List.take_succ_eq_append_getElem hi] at again
         generalize hxa:x.args[i]=e at*
         by_cases hE: ∀e∈x.args.take i,zff size e
         ·have hb:(!decide (∀e∈x.args.take i,zff size e))=false:=by rw[decide_eq_true hE];rfl
          rw[hb] at oj2
          simp(disch:=((try simp only[nx3]);omega)) [oj2,oX2,hi,hxa]
          refine rExpFormed_ok size e ?_
          by_cases he:zff size e
          ·have hb2:(!decide (∀e'∈x.args.take i++[e],zff size e'))=false:=by
            rw[decide_eq_true (fun e' he'=>by
             rcases List.mem_append.1 he' with h|h
             ·exact hE e' h
             ·rw[List.mem_singleton.1 h];exact he)];rfl
           have again:=again _ (by rw[hb2];exact hP.bad false)
           rw[decide_eq_true he]
           simp at again
           simp(disch:=((try simp only[nx3]);omega)) [oj2]
           exact again
          ·have hb2:(!decide (∀e'∈x.args.take i++[e],zff size e'))=true:=by
            rw[decide_eq_false (fun hh=>he (hh e (List.mem_append_right _ (List.mem_singleton.2 rfl))))];rfl
           have again:=again _ (by rw[hb2];exact hP.bad true)
           rw[decide_eq_false he]
           simp at again
           simp(disch:=((try simp only[nx3]);omega)) [oj2]
           exact again
         ·have hb:(!decide (∀e∈x.args.take i,zff size e))=true:=by rw[decide_eq_false hE];rfl
          have hb2:(!decide (∀e'∈x.args.take i++[e],zff size e'))=true:=by
           rw[decide_eq_false (fun hh=>hE fun e' he'=>hh e' (List.mem_append_left _ he'))];rfl
          have again:=again _ (by rw[hb2];exact hP.bad true)
          rw[hb] at oj2
          simp at again
          simp(disch:=((try simp only[nx3]);omega)) [oj2,oX2,hi,hxa]
          exact again
        rw[List.take_length] at hP
        have oX3:=oX hP
        have oj3:=hP.oj
        have ou3:=hP.ou
        have hum:zc5 ⟨st.met.set m true,st.sz.set m size,st.df⟩+1=zc5 st:=zeA _ _ hmq
        by_cases hE: ∀e∈x.args,zff size e
        ·have hb:(!decide (∀e∈x.args,zff size e))=false:=by rw[decide_eq_true hE];rfl
         rw[hb] at oj3 hP
         have hln1:=hP.ln
         by_cases o4:x.op=4
         ·have c3':x.args.length=0:=by rw[if_neg (by omega),if_neg (by omega)] at c3;exact c3
          have htk4: ∀d,p.defs[x.n.toNat]? =some d→zkH p x size=((d.rls.map fun r=>(r.node,size+own d+zcy d r))++(d.sps.map fun s=>(s.node,size+own d)))++x.kids.map fun k=>(k,size+own d):=fun d hd=>by
           unfold zkH
           rw[if_pos o4,hd]
          have nfail: ¬(∃d:Nat,x.n=(d:Int)∧d<p.defs.length∧st.df[d]? =some false∧ ∀y,p.defs[d]? =some y→zR y)→ ¬zhH p st.df x size:=fun hn hh=>by
           have:=hh.n
           rw[if_neg (by omega),if_pos o4] at this
           exact hn this
          by_cases v1:x.n<0
          ·have hp:=hp (nfail (by rintro⟨d,e,_⟩;omega)) _ _ (back (hP.bad true))
           simp(disch:=((try simp only[nx3]);omega)) [oX3,oj3,o4,v1]
           exact hp
          obtain⟨dn,hdn⟩: ∃dn:Nat,x.n=(dn:Int):=⟨x.n.toNat,by omega⟩
          by_cases v2:dn<p.defs.length
          ·have v2i: ¬(p.defs.length:Int)≤dn:=by omega
           have v3:dn<st.df.length:=by omega
           by_cases hu:st.df[dn]=true
           ·have hp:=hp (nfail (by rintro⟨d,e,_,e2,_⟩;have:d=dn:=by omega
                                   subst this;rw[List.getElem?_eq_getElem v3,hu] at e2;cases e2)) _ _ (back (hP.bad true))
            simp(disch:=((try simp only[nx3]);omega)) [oX3,oj3,ou3,o4,hdn,v2,v2i,v3,hu,eCt]
            exact hp
           ·have hu:st.df[dn]=false:=by simpa using hu
            have hdq:p.defs[dn]? =some p.defs[dn]:=List.getElem?_eq_getElem v2
            have hdo:=hall _ (List.getElem_mem v2)
            have hsu:(st.df.map eCt).set dn [I 1]=(st.df.set dn true).map eCt:=by rw[List.map_set];rfl
            have hP3:=hP.defs dn
            dsimp only at hP3
            obtain⟨RU,hRU⟩: ∃RU,RU=(st.df.set dn true).map eCt:=⟨_,rfl⟩
            rw[←hRU] at hsu hP3
            have htk4:=htk4 p.defs[dn] (by rw[hdn,Int.toNat_natCast];exact hdq)
            generalize hdd:p.defs[dn]=d at*
            have t3:zbJ 3 (eDfn d)=some (eDfn d):=rfl
            have hl1:=hdo.l1;have hl2:=hdo.l2
            have oX4:=oX hP3
            have oj4:=hP3.oj
            simp(disch:=((try simp only[nx3]);omega)) [oX3,oj3,ou3,o4,hdn,v2,v2i,v3,hu,eCt,hsu,oX4,oj4,hdd,t3]
            refine rown_ok d (by omega) (by omega) ?_
            have hown:0≤own d∧own d≤60:=by unfold own;omega
            obtain⟨w1,w2⟩:=hown
            have hum2:zc5 ⟨st.met.set m true,st.sz.set m size,st.df.set dn true⟩+1=zc5 st:=hum
            have hmk4:mark x st m size=⟨st.met.set m true,st.sz.set m size,st.df.set dn true⟩:=by unfold S.mark;rw[if_pos o4,hdn,Int.toNat_natCast,Int.toNat_natCast]
            have hno:=nodeok (by
             rw[if_neg (by omega),if_pos o4]
             refine⟨dn,hdn,v2,by rw[List.getElem?_eq_getElem v3,hu],fun y' hy'=> ?_⟩
             rw[hdq] at hy'
             cases hy';exact hdo) hE
            simp(disch:=((try simp only[nx3]);omega)) [oX4,oj4,hdn,v2,hdd,t3]
            refine rlkdef_ok IH d hdo ⟨st.met.set m true,st.sz.set m size,st.df.set dn true⟩ (size+own d) (by omega) (by omega) (by omega) hP3 (fun M' st' g e=> ?_) (fun M' st' g e=> ?_)
            ·obtain⟨hlen0,u0⟩:=zb4 _ _ _ hP3.ln e
             have hkr:=fun y' s' (hy:LkE p B L0 oS oO oU y' s' false) (e':runV p f (some st') (x.kids.map fun k=>(k,size+own d))=some s')=>hk y' s' hy (by rw[if_pos hno,htk4,zce,hmk4,e];exact e')
             have hpr:=fun y' s' (hy:LkE p B L0 oS oO oU y' s' true) (e':runV p f (some st') (x.kids.map fun k=>(k,size+own d))=none)=>hp0 y' s' hy (by rw[if_pos hno,htk4,zce,hmk4,e];exact e')
             simp(disch:=((try simp only[nx3]);omega))
             refine .while (σ:=Nat×VM×Vs×Bool) zhy.eq_1 (fun z=>[(12,I z.1)]) (fun z=>z.2.1) (fun z=>z.1≤x.kids.length∧LkE p B' L0 oS oO oU z.2.1 z.2.2.1 z.2.2.2∧(z.2.2.2=false→runV p f (some st') ((x.kids.map fun k=>(k,size+own d)).take z.1)=some z.2.2.1)∧(z.2.2.2=true→runV p f (some st') (x.kids.map fun k=>(k,size+own d))=none)) (fun z=>x.kids.length - z.1) (0,M',st',false) (by simp) rfl ⟨Nat.zero_le _,g,fun _=>rfl,nofun⟩ (fun z hP again=> ?_)
             obtain⟨i,y5,s5,b5⟩:=z
             obtain⟨q1,q2,q3,q4⟩:=hP
             dsimp only at*
             have oj5:=q2.oj
             have oX5:=oX q2
             by_cases hc5:i<x.kids.length∧b5=false
             ·obtain⟨hi,rfl⟩:=hc5
              have q3:=q3 rfl
              have hir:i<(x.kids.map fun k=>(k,size+own d)).length:=by rw[List.length_map];exact hi
              have htk5:(x.kids.map fun k=>(k,size+own d)).take (i+1)=(x.kids.map fun k=>(k,size+own d)).take i++[(x.kids[i],size+own d)]:=by
               rw[List.take_succ_eq_append_getElem hir,List.getElem_map]
              obtain⟨_,u1⟩:=zb4 _ _ _ hlen0 q3
              have again:=fun(M':VM) (st':Vs) (c:Bool) h1 h2 h3=>again (i+1,M',st',c) (by dsimp only;omega) ⟨by dsimp only;omega,h1,h2,h3⟩
              generalize hr:x.kids[i]=r at*
              simp(disch:=((try simp only[nx3]);omega)) [oj5,oX5,hi,hr]
              refine IH s5 _ _ (by omega) (by omega) (by omega) q2 (fun M' st' g e=> ?_) (fun M' st' g e=> ?_)
              ·have again:=again M' st' false g (fun _=>by rw[htk5,zbq,q3];exact e) nofun
               simp at again
               simp(disch:=((try simp only[nx3]);omega))
               exact again
              ·have again:=again M' st' true g nofun (fun _=>zc6 (i:=i+1) (by rw[htk5,zbq,q3];exact e))
               simp at again
               simp(disch:=((try simp only[nx3]);omega))
               exact again
             ·have fin:k (.tup []) y5:=by
               cases b5 with
               |true=>exact hpr y5 s5 (back q2) (q4 rfl)
               |false=>
                have hi:i=(x.kids.map fun k=>(k,size+own d)).length:=by
                 rw[List.length_map]
                 have: ¬i<x.kids.length:=fun h=>hc5 ⟨h,rfl⟩
                 omega
                have q3:=q3 rfl
                rw[hi,List.take_length] at q3
                exact hkr y5 s5 (back q2) q3
              clear again
              by_cases hil5:i<x.kids.length
              ·have hb5:b5=true:=by
                cases b5 with
                |true=>rfl
                |false=>exact absurd ⟨hil5,rfl⟩ hc5
               simp(disch:=((try simp only[nx3]);omega)) [oj5,oX5,hil5,hb5]
               exact fin
              ·simp(disch:=((try simp only[nx3]);omega)) [oj5,oX5,hil5]
               exact fin
            ·have fin:=hp0 M' st' (back g) (by rw[if_pos hno,htk4,zce,hmk4,e,zcq])
             have oX6:=oX g
             have oj6:=g.oj
             simp(disch:=((try simp only[nx3]);omega))
             refine .go zhy.eq_1 ?_
             by_cases hk0:(0:Int)<x.kids.length
             ·simp(disch:=((try simp only[nx3]);omega)) [oj6,oX6,hk0]
              exact fin
             ·simp(disch:=((try simp only[nx3]);omega)) [oj6,oX6,hk0]
              exact fin
          ·have v2i:(p.defs.length:Int)≤dn:=by omega
           have hp:=hp (nfail (by rintro⟨d,e,e2,_⟩;omega)) _ _ (back (hP.bad true))
           simp(disch:=((try simp only[nx3]);omega)) [oX3,oj3,o4,hdn,v2i]
           exact hp
         have htk:zkH p x size=x.kids.map fun k=>(k,size):=by unfold zkH;rw[if_neg o4]
         have hmk:mark x st m size=⟨st.met.set m true,st.sz.set m size,st.df⟩:=by unfold S.mark;rw[if_neg o4,Int.toNat_natCast]
         have hP2:=hP.bad false
         have hP3:=hP.bad true
         have hlen0:=hP2.ln
         have oX4:=oX hP3
         have oj4:=hP3.oj
         have ck:(x.op=2∨x.op=6∨x.op=8)∨(x.op≠2∧x.op≠6∧x.op≠8):=by omega
         by_cases hn:if x.op=2∨x.op=6∨x.op=8 then 0≤x.n∧x.n<size else x.n=0
         ·have hno:=nodeok (by
           by_cases h:x.op=2∨x.op=6∨x.op=8
           ·rw[if_pos h] at hn⊢;exact hn
           ·rw[if_neg h] at hn⊢;rw[if_neg o4];exact hn) hE
          have hkr:=fun y' s' (hy:LkE p B L0 oS oO oU y' s' false) (e:runV p f (some ⟨st.met.set m true,st.sz.set m size,st.df⟩) (x.kids.map fun k=>(k,size))=some s')=>hk y' s' hy (by rw[if_pos hno,htk,hmk];exact e)
          have hpr:=fun y' s' (hy:LkE p B L0 oS oO oU y' s' true) (e:runV p f (some ⟨st.met.set m true,st.sz.set m size,st.df⟩) (x.kids.map fun k=>(k,size))=none)=>hp0 y' s' hy (by rw[if_pos hno,htk,hmk];exact e)
          rcases ck with ck|ck
          ·rw[if_pos ck] at hn
           obtain⟨v1,v2⟩:=hn
           have v1i: ¬x.n<0:=by omega
           have v2i: ¬size≤x.n:=by omega
           rcases ck with e|e|e
           all_goals
            simp(disch:=((try simp only[nx3]);omega)) [oX3,oj3,e,v1i,v2i]
            refine .while (σ:=Nat×VM×Vs×Bool) zhy.eq_1 (fun z=>[(12,I z.1)]) (fun z=>z.2.1) (fun z=>z.1≤x.kids.length∧LkE p B' L0 oS oO oU z.2.1 z.2.2.1 z.2.2.2∧(z.2.2.2=false→runV p f (some ⟨st.met.set m true,st.sz.set m size,st.df⟩) ((x.kids.map fun k=>(k,size)).take z.1)=some z.2.2.1)∧(z.2.2.2=true→runV p f (some ⟨st.met.set m true,st.sz.set m size,st.df⟩) (x.kids.map fun k=>(k,size))=none)) (fun z=>x.kids.length - z.1) (0,_,⟨st.met.set m true,st.sz.set m size,st.df⟩,false) (by simp) rfl ⟨Nat.zero_le _,hP2,fun _=>rfl,nofun⟩ (fun z hP again=> ?_)
            obtain⟨i,y5,s5,b5⟩:=z
            obtain⟨q1,q2,q3,q4⟩:=hP
            dsimp only at*
            have oj5:=q2.oj
            have oX5:=oX q2
            by_cases hc5:i<x.kids.length∧b5=false
            ·obtain⟨hi,rfl⟩:=hc5
             have q3:=q3 rfl
             have hir:i<(x.kids.map fun k=>(k,size)).length:=by rw[List.length_map];exact hi
             have htk5:(x.kids.map fun k=>(k,size)).take (i+1)=(x.kids.map fun k=>(k,size)).take i++[(x.kids[i],size)]:=by
              rw[List.take_succ_eq_append_getElem hir,List.getElem_map]
             obtain⟨_,u1⟩:=zb4 _ _ _ hlen0 q3
             have again:=fun(M':VM) (st':Vs) (c:Bool) h1 h2 h3=>again (i+1,M',st',c) (by dsimp only;omega) ⟨by dsimp only;omega,h1,h2,h3⟩
             generalize hr:x.kids[i]=r at*
             simp(disch:=((try simp only[nx3]);omega)) [oj5,oX5,hi,hr]
             refine IH s5 _ _ (by omega) (by omega) (by omega) q2 (fun M' st' g e=> ?_) (fun M' st' g e=> ?_)
             ·have again:=again M' st' false g (fun _=>by rw[htk5,zbq,q3];exact e) nofun
              simp at again
              simp(disch:=((try simp only[nx3]);omega))
              exact again
             ·have again:=again M' st' true g nofun (fun _=>zc6 (i:=i+1) (by rw[htk5,zbq,q3];exact e))
              simp at again
              simp(disch:=((try simp only[nx3]);omega))
              exact again
            ·have fin:k (.tup []) y5:=by
              cases b5 with
              |true=>exact hpr y5 s5 (back q2) (q4 rfl)
              |false=>
               have hi:i=(x.kids.map fun k=>(k,size)).length:=by
                rw[List.length_map]
                have: ¬i<x.kids.length:=fun h=>hc5 ⟨h,rfl⟩
                omega
               have q3:=q3 rfl
               rw[hi,List.take_length] at q3
               exact hkr y5 s5 (back q2) q3
             clear again
             by_cases hil5:i<x.kids.length
             ·have hb5:b5=true:=by
               cases b5 with
               |true=>rfl
               |false=>exact absurd ⟨hil5,rfl⟩ hc5
              simp(disch:=((try simp only[nx3]);omega)) [oj5,oX5,hil5,hb5]
              exact fin
             ·simp(disch:=((try simp only[nx3]);omega)) [oj5,oX5,hil5]
              exact fin
          ·have hck: ¬(x.op=2∨x.op=6∨x.op=8):=by omega
           rw[if_neg hck] at hn
           obtain⟨e1,e2,e3⟩:=ck
           simp(disch:=((try simp only[nx3]);omega)) [oX3,oj3,e1,e2,e3,o4,hn]
           refine .while (σ:=Nat×VM×Vs×Bool) zhy.eq_1 (fun z=>[(12,I z.1)]) (fun z=>z.2.1) (fun z=>z.1≤x.kids.length∧LkE p B' L0 oS oO oU z.2.1 z.2.2.1 z.2.2.2∧(z.2.2.2=false→runV p f (some ⟨st.met.set m true,st.sz.set m size,st.df⟩) ((x.kids.map fun k=>(k,size)).take z.1)=some z.2.2.1)∧(z.2.2.2=true→runV p f (some ⟨st.met.set m true,st.sz.set m size,st.df⟩) (x.kids.map fun k=>(k,size))=none)) (fun z=>x.kids.length - z.1) (0,_,⟨st.met.set m true,st.sz.set m size,st.df⟩,false) (by simp) rfl ⟨Nat.zero_le _,hP2,fun _=>rfl,nofun⟩ (fun z hP again=> ?_)
           obtain⟨i,y5,s5,b5⟩:=z
           obtain⟨q1,q2,q3,q4⟩:=hP
           dsimp only at*
           have oj5:=q2.oj
           have oX5:=oX q2
           by_cases hc5:i<x.kids.length∧b5=false
           ·obtain⟨hi,rfl⟩:=hc5
            have q3:=q3 rfl
            have hir:i<(x.kids.map fun k=>(k,size)).length:=by rw[List.length_map];exact hi
            have htk5:(x.kids.map fun k=>(k,size)).take (i+1)=(x.kids.map fun k=>(k,size)).take i++[(x.kids[i],size)]:=by
             rw[List.take_succ_eq_append_getElem hir,List.getElem_map]
            obtain⟨_,u1⟩:=zb4 _ _ _ hlen0 q3
            have again:=fun(M':VM) (st':Vs) (c:Bool) h1 h2 h3=>again (i+1,M',st',c) (by dsimp only;omega) ⟨by dsimp only;omega,h1,h2,h3⟩
            generalize hr:x.kids[i]=r at*
            simp(disch:=((try simp only[nx3]);omega)) [oj5,oX5,hi,hr]
            refine IH s5 _ _ (by omega) (by omega) (by omega) q2 (fun M' st' g e=> ?_) (fun M' st' g e=> ?_)
            ·have again:=again M' st' false g (fun _=>by rw[htk5,zbq,q3];exact e) nofun
             simp at again
             simp(disch:=((try simp only[nx3]);omega))
             exact again
            ·have again:=again M' st' true g nofun (fun _=>zc6 (i:=i+1) (by rw[htk5,zbq,q3];exact e))
             simp at again
             simp(disch:=((try simp only[nx3]);omega))
             exact again
           ·have fin:k (.tup []) y5:=by
             cases b5 with
             |true=>exact hpr y5 s5 (back q2) (q4 rfl)
             |false=>
              have hi:i=(x.kids.map fun k=>(k,size)).length:=by
               rw[List.length_map]
               have: ¬i<x.kids.length:=fun h=>hc5 ⟨h,rfl⟩
               omega
              have q3:=q3 rfl
              rw[hi,List.take_length] at q3
              exact hkr y5 s5 (back q2) q3
            clear again
            by_cases hil5:i<x.kids.length
            ·have hb5:b5=true:=by
              cases b5 with
              |true=>rfl
              |false=>exact absurd ⟨hil5,rfl⟩ hc5
             simp(disch:=((try simp only[nx3]);omega)) [oj5,oX5,hil5,hb5]
             exact fin
            ·simp(disch:=((try simp only[nx3]);omega)) [oj5,oX5,hil5]
             exact fin
         ·have fin:=hp (fun hh=>hn (by
           have:=hh.n
           by_cases h:x.op=2∨x.op=6∨x.op=8
           ·rw[if_pos h] at this⊢;exact this
           ·rw[if_neg h,if_neg o4] at this;rw[if_neg h];exact this)) _ _ (back hP3)
          rcases ck with ck|ck
          ·rw[if_pos ck] at hn
           by_cases v1:x.n<0
           ·rcases ck with e|e|e
            all_goals
             simp(disch:=((try simp only[nx3]);omega)) [oX3,oj3,e,v1]
             refine .go zhy.eq_1 ?_
             by_cases hk0:(0:Int)<x.kids.length
             ·simp(disch:=((try simp only[nx3]);omega)) [oj4,oX4,hk0]
              exact fin
             ·simp(disch:=((try simp only[nx3]);omega)) [oj4,oX4,hk0]
              exact fin
           ·have v2:size≤x.n:=by omega
            rcases ck with e|e|e
            all_goals
             simp(disch:=((try simp only[nx3]);omega)) [oX3,oj3,e,v1,v2]
             refine .go zhy.eq_1 ?_
             by_cases hk0:(0:Int)<x.kids.length
             ·simp(disch:=((try simp only[nx3]);omega)) [oj4,oX4,hk0]
              exact fin
             ·simp(disch:=((try simp only[nx3]);omega)) [oj4,oX4,hk0]
              exact fin
          ·have hck: ¬(x.op=2∨x.op=6∨x.op=8):=by omega
           rw[if_neg hck] at hn
           obtain⟨e1,e2,e3⟩:=ck
           simp(disch:=((try simp only[nx3]);omega)) [oX3,oj3,e1,e2,e3,o4,hn]
           refine .go zhy.eq_1 ?_
           by_cases hk0:(0:Int)<x.kids.length
           ·simp(disch:=((try simp only[nx3]);omega)) [oj4,oX4,hk0]
            exact fin
           ·simp(disch:=((try simp only[nx3]);omega)) [oj4,oX4,hk0]
            exact fin
        ·have hb:(!decide (∀e∈x.args,zff size e))=true:=by rw[decide_eq_false hE];rfl
         have hp:=hp fun hh=>hE hh.exps
         rw[hb] at oj3 hP
         have o4:x.op≠4:=fun e=>by
          rw[if_neg (by omega),if_neg (by omega)] at c3
          exact hE fun e' he'=>by rw[List.eq_nil_of_length_eq_zero c3] at he';cases he'
         have fin:=fun(y':VM) hy=>hp y' _ (back (hy:LkE p B' L0 oS oO oU y' ⟨st.met.set m true,st.sz.set m size,st.df⟩ true))
         have hP2:=hP.bad true
         have oX4:=oX hP2
         have oj4:=hP2.oj
         have ck:x.op=2∨x.op=6∨x.op=8∨(x.op≠2∧x.op≠6∧x.op≠8):=by omega
         rcases ck with e|e|e| ⟨e,e',e''⟩
         all_goals
          simp(disch:=((try simp only[nx3]);omega)) [oX3,oj3,e,o4]
          try simp only[e',e'',ne_eq,not_false_eq_true,if_false,decide_false]
          refine .go zhy.eq_1 ?_
          by_cases hk0:(0:Int)<x.kids.length
          ·simp(disch:=((try simp only[nx3]);omega)) [oj4,oX4,hk0]
           exact(fin _ hP2)
          ·simp(disch:=((try simp only[nx3]);omega)) [oj4,oX4,hk0]
           exact(fin _ hP2)
      ·have hp:=hp (fun hh=>c3 hh.args) _ _ (back (m2.bad true))
       rcases hc with⟨o2,rfl⟩| ⟨o2,an,rfl,e2⟩
       ·rw[if_pos o2] at c3
        have c4:(3:Int)<x.args.length:=by omega
        simp(disch:=((try simp only[nx3]);omega)) [oX1,oj1,c2i,c4]
        exact hp
       ·rw[if_neg o2,←e2] at c3
        have c4: ¬(x.args.length:Int)=an:=by omega
        simp(disch:=((try simp only[nx3]);omega)) [oX1,oj1,c2i,c4]
        exact hp
     ·have c2i: ¬(x.kids.length:Int)=kd:=by omega
      have hp:=hp (fun hh=>by have:=hh.kids;rw[hkd] at this;exact c2 (Option.some.inj this).symm) _ _ (back (m2.bad true))
      simp(disch:=((try simp only[nx3]);omega)) [oX1,oj1,c2i]
      exact hp
  ·have a2i:(p.nodes.length:Int)≤m:=by omega
   have hp:=hp _ st (h.bad true) (if_neg (by rintro⟨_,h⟩;rw[List.getElem?_eq_none (by omega)] at h;cases h))
   simp(disch:=((try simp only[nx3]);omega)) [oj,a1,a2i]
   exact hp
end Go.Ideal.S
namespace Go.Ideal.S
open Go Go.Ideal Q Classical
attribute [local simp] decide_eq_true decide_eq_false zbD
variable {M M':VM} {k kp:DV→VM→Prop} {n0 j:Nat} {p:Pg}
theorem le_lt: ∀a b:List UInt8,(zbL a b||z6 a b)= !zbL b a
 | [],[]=>rfl
 | [],b::m=>rfl
 |a::l,[]=>rfl
 |a::l,b::m=>by
  have ih:=le_lt l m
  show((Nat.blt a.toNat b.toNat||(Nat.beq a.toNat b.toNat&&zbL l m))||(Nat.beq a.toNat b.toNat&&z6 l m))= !(Nat.blt b.toNat a.toNat||(Nat.beq b.toNat a.toNat&&zbL m l))
  rcases Nat.lt_trichotomy a.toNat b.toNat with h|h|h
  ·have h1:Nat.blt a.toNat b.toNat=true:=by rw[Nat.blt_eq];exact h
   have h2:Nat.blt b.toNat a.toNat=false:=by rw[Bool.eq_false_iff];intro e;rw[Nat.blt_eq] at e;omega
   have h3:Nat.beq b.toNat a.toNat=false:=by rw[Bool.eq_false_iff];intro e;have:=Nat.eq_of_beq_eq_true e;omega
   rw[h1,h2,h3];rfl
  ·have h1:Nat.blt a.toNat b.toNat=false:=by rw[Bool.eq_false_iff];intro e;rw[Nat.blt_eq] at e;omega
   have h2:Nat.blt b.toNat a.toNat=false:=by rw[Bool.eq_false_iff];intro e;rw[Nat.blt_eq] at e;omega
   have h3:Nat.beq a.toNat b.toNat=true:=by rw[h];exact Nat.beq_refl _
   have h4:Nat.beq b.toNat a.toNat=true:=by rw[h];exact Nat.beq_refl _
   rw[h1,h2,h3,h4]
   simpa using ih
  ·have h1:Nat.blt a.toNat b.toNat=false:=by rw[Bool.eq_false_iff];intro e;rw[Nat.blt_eq] at e;omega
   have h2:Nat.blt b.toNat a.toNat=true:=by rw[Nat.blt_eq];exact h
   have h3:Nat.beq a.toNat b.toNat=false:=by rw[Bool.eq_false_iff];intro e;have:=Nat.eq_of_beq_eq_true e;omega
   rw[h1,h2,h3];rfl
theorem bin_sle {ek:EK} (a b:List UInt8):binD .leq ek (St a) (St b)=some (.bool (!zbL b a)):=by
 rw[←le_lt];rfl
theorem bin_slt {ek:EK} (a b:List UInt8):binD .lss ek (St a) (St b)=some (.bool (zbL a b)):=rfl
def zb8 (l:List (List UInt8)) (i:Nat):Prop:= ∃h:i<l.length,NameS l[i]∧ ∀h0:0<i,zbL (l[i - 1]'(by omega)) l[i]=true
def vs0 (p:Pg):Vs:=⟨List.replicate p.nodes.length false,List.replicate p.nodes.length 0,List.replicate p.defs.length false⟩
noncomputable def going (p:Pg):Option Vs:=zfc p 61 (vs0 p) p.main p.free.length
structure PgOk (p:Pg):Prop where
 l1:p.free.length≤12
 l2:p.nodes.length≤60
 l3:p.defs.length≤12
 free: ∀i,i<p.free.length→zb8 p.free i
 defs: ∀d∈p.defs,zR d
 go: ∃st,going p=some st∧(∀b∈st.met,b=true)∧ ∀b∈st.df,b=true
theorem vs0_lens (p:Pg):Lens p (vs0 p):=⟨by simp[vs0],by simp[vs0],by simp[vs0]⟩
theorem zif: ∀n,zgp (List.replicate n false)=n
 |0=>rfl
 |n+1=>by rw[List.replicate_succ,zgp,zif n,if_neg (by decide)];omega
def lkL (p:Pg) (a b c:DV) (q:Bool):List DV:=[.lst 1 (p.free.map eS),.lst 4 (p.nodes.map eNd),.lst 3 (p.defs.map eDfn),I p.main,a,b,c,.bool q]
structure Lk0 (p:Pg) (M:VM) (L0:Nat) (z:VM) (b:Bool):Prop where
 sm:SM M.next M z
 lt:L0<z.next
 ne:M.next<L0
 op:z.obj M.next=some (.rows false 4 [[.lst 1 (p.free.map eS),.lst 4 (p.nodes.map eNd),.lst 3 (p.defs.map eDfn),I p.main]])
 oj:z.obj L0=some (.rows false 8 [[.lst 1 (p.free.map eS),.lst 4 (p.nodes.map eNd),.lst 3 (p.defs.map eDfn),I p.main,.nilS,.nilS,.nilS,.bool b]])
theorem Lk0.bad {L0:Nat} {z:VM} {b:Bool} (h:Lk0 p M L0 z b) (c:Bool):Lk0 p M L0 (z.put L0 (.rows false 8 [[.lst 1 (p.free.map eS),.lst 4 (p.nodes.map eNd),.lst 3 (p.defs.map eDfn),I p.main,.nilS,.nilS,.nilS,.bool c]])) c:=by
 have a:=h.lt;have e:=h.ne
 exact⟨zbc h.sm (by omega),by simp;omega,e,by rw[zj,if_neg (by omega)];exact h.op,by simp⟩
attribute [local simp] c_d f_d r_d_1 r_d_2 r_d_3 r_d_4 r_d_5 r_d_6 r_d_7 r_d_8 r_d_9 r_d_11 r_d_12 r_d_13 r_d_14 r_d_16 r_d_17 r_d_18 r_d_19 r_d_20 r_d_21 r_d_22 r_d_23 r_d_25 r_d_26 r_d_27 r_d_28 r_d_30 c_B f_B r_B_1 r_B_2 r_B_3 r_B_4
theorem rall_ok (p:Pg) (hk: ∀M' L0 a b c,M'.obj L0=some (.rows false 8 [lkL p a b c (!decide (PgOk p))])→SM M.next M M'→M.next≤L0→L0<M'.next→k (.ptr L0 0 0) M'):zg F (.fn n_d [] []) [.agg (ePg p)] M k kp:=by
 have bad: ¬PgOk p→ ∀M' L0 a b c,M'.obj L0=some (.rows false 8 [lkL p a b c true])→SM M.next M M'→M.next≤L0→L0<M'.next→k (.ptr L0 0 0) M':=fun h M' L0 a b c h1=>hk M' L0 a b c (by rw[decide_eq_false h];exact h1)
 have good:PgOk p→ ∀M' L0 a b c,M'.obj L0=some (.rows false 8 [lkL p a b c false])→SM M.next M M'→M.next≤L0→L0<M'.next→k (.ptr L0 0 0) M':=fun h M' L0 a b c h1=>hk M' L0 a b c (by rw[decide_eq_true h];exact h1)
 clear hk
 refine .fn zgM rfl (by simp[f_d]) ?_
 have t4:zbJ 4 (ePg p)=some [.lst 1 (p.free.map eS),.lst 4 (p.nodes.map eNd),.lst 3 (p.defs.map eDfn),I p.main]:=rfl
 simp(disch:=((try simp only[nx3]);omega)) [ePg]
 obtain⟨M1,hM⟩: ∃M1,M1=(M.new (.rows false 4 [[.lst 1 (p.free.map eS),.lst 4 (p.nodes.map eNd),.lst 3 (p.defs.map eDfn),I p.main]])).new (.rows false 8 [[.lst 1 (p.free.map eS),.lst 4 (p.nodes.map eNd),.lst 3 (p.defs.map eDfn),I p.main,.nilS,.nilS,.nilS,.bool false]]):=⟨_,rfl⟩
 have n1:M1.next=M.next+2:=by rw[hM];simp
 have oP1:M1.obj M.next=some (.rows false 4 [[.lst 1 (p.free.map eS),.lst 4 (p.nodes.map eNd),.lst 3 (p.defs.map eDfn),I p.main]]):=by rw[hM,zX _ (by simp)];simp
 have oL1:M1.obj (M.next+1)=some (.rows false 8 [[.lst 1 (p.free.map eS),.lst 4 (p.nodes.map eNd),.lst 3 (p.defs.map eDfn),I p.main,.nilS,.nilS,.nilS,.bool false]]):=by rw[hM];simp
 have sm1:SM M.next M M1:=by rw[hM];exact zq (zq (by repeat' (first|assumption|exact z7 _ _|apply zbc|apply zq|apply zc3| ((try simp only[nx3]);omega))) (Nat.le_refl _)) (by simp)
 rw[←hM]
 clear hM t4
 have early: ∀M',SM M.next M M'→M.next+1<M'.next→ ¬PgOk p→k (.ptr (M.next+1) 0 0) (M'.put (M.next+1) (.rows false 8 [[.lst 1 (p.free.map eS),.lst 4 (p.nodes.map eNd),.lst 3 (p.defs.map eDfn),I p.main,.nilS,.nilS,.nilS,.bool true]])):=fun M' h1 h2 h3=>bad h3 _ _ .nilS .nilS .nilS (by simp[lkL]) (zbc h1 (by omega)) (by omega) (by simp;omega)
 by_cases l1:12<p.free.length
 ·have early:=early M1 sm1 (by omega) fun h=>by have:=h.l1;omega
  have l1i:(12:Int)<p.free.length:=by omega
  simp(disch:=((try simp only[nx3]);omega)) [l1i,oL1]
  exact early
 by_cases l2:60<p.nodes.length
 ·have early:=early M1 sm1 (by omega) fun h=>by have:=h.l2;omega
  have l1i: ¬(12:Int)<p.free.length:=by omega
  have l2i:(60:Int)<p.nodes.length:=by omega
  simp(disch:=((try simp only[nx3]);omega)) [l1i,l2i,oL1,oP1]
  exact early
 by_cases l3:12<p.defs.length
 ·have early:=early M1 sm1 (by omega) fun h=>by have:=h.l3;omega
  have l1i: ¬(12:Int)<p.free.length:=by omega
  have l2i: ¬(60:Int)<p.nodes.length:=by omega
  have l3i:(12:Int)<p.defs.length:=by omega
  simp(disch:=((try simp only[nx3]);omega)) [l1i,l2i,l3i,oL1,oP1]
  exact early
 have l1i: ¬(12:Int)<p.free.length:=by omega
 have l2i: ¬(60:Int)<p.nodes.length:=by omega
 have l3i: ¬(12:Int)<p.defs.length:=by omega
 simp(disch:=((try simp only[nx3]);omega)) [l1i,l2i,l3i,oL1,oP1]
 clear early
 generalize hL0:M.next+1=L0 at*
 refine .for (σ:=VM) c_d_10.eq_1 (fun i _=>[(4,I i)]) (fun z=>z) (fun i z=>Lk0 p M L0 z (!decide (∀j,j<i→zb8 p.free j))) p.free.length M1 (by simp) rfl ⟨sm1,by omega,by omega,oP1,by simpa using oL1⟩ (fun i z hi hP again=> ?_) (fun z hP=> ?_)
 ·have p3:=hP.op
  have p4:=hP.oj
  have step: ∀b:Bool,b=(!decide (∀j,j<i+1→zb8 p.free j))→Lk0 p M L0 (z.put L0 (.rows false 8 [[.lst 1 (p.free.map eS),.lst 4 (p.nodes.map eNd),.lst 3 (p.defs.map eDfn),I p.main,.nilS,.nilS,.nilS,.bool b]])) (!decide (∀j,j<i+1→zb8 p.free j)):=fun b hb=>by rw[←hb];exact hP.bad b
  by_cases hA: ∀j,j<i→zb8 p.free j
  ·have hA1:(∀j,j<i+1→zb8 p.free j)↔zb8 p.free i:=⟨fun h=>h i (by omega),fun h j hj=>by
    by_cases e:j=i
    ·rw[e];exact h
    ·exact hA j (by omega)⟩
   rw[decide_eq_true hA] at p4
   simp only[Bool.not_true] at p4
   have tt:zb8 p.free i→false=(!decide (∀j,j<i+1→zb8 p.free j)):=fun h=>by rw[decide_eq_true (hA1.2 h)];rfl
   have ff: ¬zb8 p.free i→true=(!decide (∀j,j<i+1→zb8 p.free j)):=fun h=>by rw[decide_eq_false (fun hh=>h (hA1.1 hh))];rfl
   have againT:=fun h=>again _ (step false (tt h))
   have againF:=fun h=>again _ (step true (ff h))
   clear again step tt ff
   simp(disch:=((try simp only[nx3]);omega)) [p3,p4,hi,eS]
   refine rName_ok _ ?_
   by_cases h1:NameS p.free[i]
   ·rw[decide_eq_true h1]
    by_cases h0:0<i
    ·have h0i:(0:Int)<i:=by omega
     have hi1:i - 1<p.free.length:=by omega
     have e1:(i:Int) - 1=((i - 1:Nat):Int):=by omega
     by_cases h2:zbL p.free[i - 1] p.free[i]=true
     ·have again:=againT ⟨hi,h1,fun _=>h2⟩
      simp at again
      simp(disch:=((try simp only[nx3]);omega)) [p3,p4,hi,h0,h0i,hi1,e1,eS,bin_sle,h2]
      exact again
     ·have again:=againF fun⟨_,_,h⟩=>h2 (h h0)
      have h2:zbL p.free[i - 1] p.free[i]=false:=by simpa using h2
      simp at again
      simp(disch:=((try simp only[nx3]);omega)) [p3,p4,hi,h0,h0i,hi1,e1,eS,bin_sle,h2]
      exact again
    ·have again:=againT ⟨hi,h1,fun h=>absurd h h0⟩
     have h0i: ¬(0:Int)<i:=by omega
     simp at again
     simp(disch:=((try simp only[nx3]);omega)) [p3,p4,hi,h0,h0i,eS]
     exact again
   ·have again:=againF fun⟨_,h,_⟩=>h1 h
    rw[decide_eq_false h1]
    simp at again
    simp(disch:=((try simp only[nx3]);omega)) [p3,p4,hi,eS]
    exact again
  ·rw[decide_eq_false hA] at p4
   simp only[Bool.not_false] at p4
   have again:=again _ (step true (by rw[decide_eq_false (fun hh=>hA fun j hj=>hh j (by omega))];rfl))
   simp at again
   simp(disch:=((try simp only[nx3]);omega)) [p3,p4,hi,eS]
   exact again
 have p3:=hP.op
 simp(disch:=((try simp only[nx3]);omega)) [p3]
 refine .for (σ:=VM) c_d_15.eq_1 (fun i _=>[(5,I i)]) (fun z=>z) (fun i z=>Lk0 p M L0 z (!decide ((∀j,j<p.free.length→zb8 p.free j)∧ ∀d∈p.defs.take i,zR d))) p.defs.length z (by simp) rfl (by simpa using hP) (fun i z hi hP again=> ?_) (fun z hP=> ?_)
 ·have p3:=hP.op
  have p4:=hP.oj
  rw[List.take_succ_eq_append_getElem hi] at again
  generalize hd:p.defs[i]=d at*
  have step: ∀b:Bool,b=(!decide ((∀j,j<p.free.length→zb8 p.free j)∧ ∀d'∈p.defs.take i++[d],zR d'))→Lk0 p M L0 (z.put L0 (.rows false 8 [[.lst 1 (p.free.map eS),.lst 4 (p.nodes.map eNd),.lst 3 (p.defs.map eDfn),I p.main,.nilS,.nilS,.nilS,.bool b]])) (!decide ((∀j,j<p.free.length→zb8 p.free j)∧ ∀d'∈p.defs.take i++[d],zR d')):=fun b hb=>by rw[←hb];exact hP.bad b
  have t3:zbJ 3 (eDfn d)=some (eDfn d):=rfl
  by_cases hA:(∀j,j<p.free.length→zb8 p.free j)∧ ∀d∈p.defs.take i,zR d
  ·rw[decide_eq_true hA] at p4
   simp only[Bool.not_true] at p4
   simp(disch:=((try simp only[nx3]);omega)) [p3,p4,hi,hd,t3]
   refine rdef_ok d ?_
   by_cases h1:zR d
   ·have again:=again _ (step false (by
     rw[decide_eq_true ⟨hA.1,fun d' hd'=>by
      rcases List.mem_append.1 hd' with h|h
      ·exact hA.2 d' h
      ·rw[List.mem_singleton.1 h];exact h1⟩];rfl))
    rw[decide_eq_true h1]
    simp at again
    simp(disch:=((try simp only[nx3]);omega)) [p3,p4]
    exact again
   ·have again:=again _ (step true (by
     rw[decide_eq_false (fun hh=>h1 (hh.2 d (List.mem_append_right _ (List.mem_singleton.2 rfl))))];rfl))
    rw[decide_eq_false h1]
    simp at again
    simp(disch:=((try simp only[nx3]);omega)) [p3,p4]
    exact again
  ·rw[decide_eq_false hA] at p4
   simp only[Bool.not_false] at p4
   have again:=again _ (step true (by rw[decide_eq_false (fun hh=>hA ⟨hh.1,fun d' hd'=>hh.2 d' (List.mem_append_left _ hd')⟩)];rfl))
   simp at again
   simp(disch:=((try simp only[nx3]);omega)) [p3,p4,hi]
   exact again
 rw[List.take_length] at hP
 have p3:=hP.op
 have p4:=hP.oj
 have m1:p.nodes.length≤1073741824:=by omega
 have m2:p.defs.length≤1073741824:=by omega
 have m3:p.nodes.length*8≤1073741824:=by omega
 have m4:p.defs.length*8≤1073741824:=by omega
 have hlt:=hP.lt
 have hlm:=hP.ne
 have smz:=hP.sm
 obtain⟨b,hb⟩: ∃b,b=(!decide ((∀j,j<p.free.length→zb8 p.free j)∧ ∀d∈p.defs,zR d)):=⟨_,rfl⟩
 rw[←hb] at p4
 have a0:L0≠z.next:=by omega
 have a1:L0≠z.next+1:=by omega
 have a2:L0≠z.next+1+1:=by omega
 have a3:L0≠z.next+1+1+1:=by omega
 have a4:L0≠z.next+1+1+1+1:=by omega
 have c0:M.next≠z.next:=by omega
 have c1:M.next≠z.next+1:=by omega
 have c2:M.next≠z.next+1+1:=by omega
 have c3:M.next≠z.next+1+1+1:=by omega
 have c4:M.next≠z.next+1+1+1+1:=by omega
 have c5:M.next≠L0:=by omega
 simp(disch:=((try simp only[nx3]);omega)) [p3,p4,m1,m2,m3,m4,a0,a1,a2,a3,a4,c0,c1,c2,c3,c4,c5]
 obtain⟨Z,hZ⟩: ∃Z,Z=((((((z.new (.rows false 1 (List.replicate p.nodes.length [I 0]))).put L0 (.rows false 8 [[.lst 1 (p.free.map eS),.lst 4 (p.nodes.map eNd),.lst 3 (p.defs.map eDfn),I p.main,.ms z.next 0 p.nodes.length p.nodes.length,.nilS,.nilS,.bool b]])).new (.rows false 1 (List.replicate p.nodes.length [I 0]))).put L0 (.rows false 8 [[.lst 1 (p.free.map eS),.lst 4 (p.nodes.map eNd),.lst 3 (p.defs.map eDfn),I p.main,.ms z.next 0 p.nodes.length p.nodes.length,.ms (z.next+1+1) 0 p.nodes.length p.nodes.length,.nilS,.bool b]])).new (.rows false 1 (List.replicate p.defs.length [I 0]))).put L0 (.rows false 8 [[.lst 1 (p.free.map eS),.lst 4 (p.nodes.map eNd),.lst 3 (p.defs.map eDfn),I p.main,.ms z.next 0 p.nodes.length p.nodes.length,.ms (z.next+1+1) 0 p.nodes.length p.nodes.length,.ms (z.next+1+1+1+1) 0 p.defs.length p.defs.length,.bool b]])):=⟨_,rfl⟩
 have zn:Z.next=z.next+6:=by rw[hZ];simp
 have zk: ∀i,i<z.next→i≠L0→Z.get i=z.get i:=fun i hi hne=>by
  rw[hZ,get_put,if_neg hne,get_new,if_neg (by simp;omega),get_put,if_neg hne,get_new,if_neg (by simp;omega),get_put,if_neg hne,get_new,if_neg (by omega)]
 have zL:Z.obj L0=some (.rows false 8 [[.lst 1 (p.free.map eS),.lst 4 (p.nodes.map eNd),.lst 3 (p.defs.map eDfn),I p.main,.ms z.next 0 p.nodes.length p.nodes.length,.ms (z.next+1+1) 0 p.nodes.length p.nodes.length,.ms (z.next+1+1+1+1) 0 p.defs.length p.defs.length,.bool b]]):=by rw[hZ,zj,if_pos rfl]
 have zS:Z.obj z.next=some (.rows false 1 (List.replicate p.nodes.length [I 0])):=by rw[hZ,zj,if_neg (by omega),zX _ (by simp;omega),zj,if_neg (by omega),zX _ (by simp<;>omega),zj,if_neg (by omega),zbm,if_pos rfl]
 have zO:Z.obj (z.next+1+1)=some (.rows false 1 (List.replicate p.nodes.length [I 0])):=by rw[hZ,zj,if_neg (by omega),zX _ (by simp),zj,if_neg (by omega),zbm,if_pos (by simp)]
 have zU:Z.obj (z.next+1+1+1+1)=some (.rows false 1 (List.replicate p.defs.length [I 0])):=by rw[hZ,zj,if_neg (by omega),zbm,if_pos (by simp)]
 have zP:Z.obj M.next=some (.rows false 4 [[.lst 1 (p.free.map eS),.lst 4 (p.nodes.map eNd),.lst 3 (p.defs.map eDfn),I p.main]]):=by
  show(Z.get _).map _=_
  rw[zk _ (by omega) c5];exact p3
 have smZ:SM M.next M Z:=fun i hi=>(zk i (by omega) (by omega)).trans (smz i hi)
 rw[←hZ]
 clear hZ a0 a1 a2 a3 a4 c0 c1 c2 c3 c4
 cases b with
 |true=>
  have hno: ¬PgOk p:=fun h=>by
   rw[decide_eq_true ⟨h.free,h.defs⟩] at hb
   cases hb
  have bad:=bad hno Z L0 _ _ _ zL smZ (by omega) (by omega)
  simp(disch:=((try simp only[nx3]);omega))
  exact bad
 |false=>
  have hfd:(∀j,j<p.free.length→zb8 p.free j)∧ ∀d∈p.defs,zR d:=Classical.byContradiction fun h=>by
   rw[decide_eq_false h] at hb;cases hb
  have g0:LkE p ⟨Z,fun i=>i<L0⟩ L0 z.next (z.next+1+1) (z.next+1+1+1+1) Z (vs0 p) false:=⟨fun _ _=>rfl,fun i hi=>by have hi:i<L0:=hi;omega,⟨fun h=>Nat.lt_irrefl _ h,fun h=>by have h:z.next<L0:=h;omega,fun h=>by have h:z.next+1+1<L0:=h;omega,fun h=>by have h:z.next+1+1+1+1<L0:=h;omega⟩,⟨by omega,by omega,by omega,by omega,by omega,by omega⟩,⟨by omega,by omega,by omega,by omega⟩,zL,by rw[zS];simp[vs0],by rw[zO];simp[vs0,eCt],by rw[zU];simp[vs0,eCt],vs0_lens p⟩
  have hun:zc5 (vs0 p)=p.nodes.length:=zif _
  simp(disch:=((try simp only[nx3]);omega)) [zP]
  refine rnode_ok (by omega) (by omega) hfd.2 61 (vs0 p) p.main p.free.length (by omega) (by omega) (by omega) g0 (fun M' st' g e=> ?_) (fun M' st' g e=> ?_)
  have hq: ∃b0:Bool,LkE p ⟨Z,fun i=>i<L0⟩ L0 z.next (z.next+1+1) (z.next+1+1+1+1) M' st' b0∧(b0=false→going p=some st')∧(b0=true→going p=none):=⟨false,g,fun _=>e,nofun⟩
  rotate_left 1
  have hq: ∃b0:Bool,LkE p ⟨Z,fun i=>i<L0⟩ L0 z.next (z.next+1+1) (z.next+1+1+1+1) M' st' b0∧(b0=false→going p=some st')∧(b0=true→going p=none):=⟨true,g,nofun,fun _=>e⟩
  all_goals clear g e
  all_goals
   obtain⟨b0,g,e1,e2⟩:=hq
   have hll0:=g.ln
   obtain⟨lm0,ls0,ld0⟩:=hll0
   have oj0:=g.oj
   simp(disch:=((try simp only[nx3]);omega)) [oj0]
   refine .for (σ:=VM) c_d_24.eq_1 (fun i _=>[(6,I i)]) (fun z=>z) (fun i y=>LkE p ⟨Z,fun i=>i<L0⟩ L0 z.next (z.next+1+1) (z.next+1+1+1+1) y st' (b0|| !decide (∀x∈st'.met.take i,x=true))) p.nodes.length _ (by simp) rfl (by simpa using g) (fun i y hi hP again=> ?_) (fun y hP=> ?_)
   ·have oj:=hP.oj
    have oo:=hP.oo
    have hll:=hP.ln
    obtain⟨lm,ls,ld⟩:=hll
    have hi2:i<st'.met.length:=by omega
    rw[List.take_succ_eq_append_getElem hi2] at again
    generalize hx:st'.met[i]=x at*
    cases hcur:(b0|| !decide (∀x∈st'.met.take i,x=true)) with
    |true=>
     rw[hcur] at oj
     have again:=again _ (by
      have hnx:(b0|| !decide (∀x'∈st'.met.take i++[x],x'=true))=true:=by
       rw[Bool.or_eq_true] at hcur⊢
       rcases hcur with h|h
       ·exact .inl h
       ·refine .inr ?_
        simp only[Bool.not_eq_true',decide_eq_false_iff_not] at h⊢
        exact fun hh=>h fun x' hx'=>hh x' (List.mem_append_left _ hx')
      rw[hnx];exact hP.bad true)
     simp at again
     simp(disch:=((try simp only[nx3]);omega)) [oj,hi]
     exact again
    |false=>
     rw[hcur] at oj
     rw[Bool.or_eq_false_iff] at hcur
     obtain⟨hc1,hc2⟩:=hcur
     simp only[Bool.not_eq_false',decide_eq_true_eq] at hc2
     cases x with
     |true=>
      have again:=again _ (by
       have hnx:(b0|| !decide (∀x'∈st'.met.take i++[true],x'=true))=false:=by
        rw[hc1,decide_eq_true (fun x' hx'=>by
         rcases List.mem_append.1 hx' with h|h
         ·exact hc2 x' h
         ·exact List.mem_singleton.1 h)];rfl
       rw[hnx];exact hP.bad false)
      simp at again
      simp(disch:=((try simp only[nx3]);omega)) [oj,oo,hi,hi2,hx,eCt]
      exact again
     |false=>
      have again:=again _ (by
       have hnx:(b0|| !decide (∀x'∈st'.met.take i++[false],x'=true))=true:=by
        rw[decide_eq_false (fun hh=>by have:=hh false (List.mem_append_right _ (List.mem_singleton.2 rfl));cases this)];simp
       rw[hnx];exact hP.bad true)
      simp at again
      simp(disch:=((try simp only[nx3]);omega)) [oj,oo,hi,hi2,hx,eCt]
      exact again
   rw[show st'.met.take p.nodes.length=st'.met from List.take_of_length_le (by omega)] at hP
   have oj7:=hP.oj
   have g:=hP
   clear hP
   obtain⟨b1,hb1⟩: ∃b1,b1=(b0|| !decide (∀x∈st'.met,x=true)):=⟨_,rfl⟩
   rw[←hb1] at g oj7
   simp(disch:=((try simp only[nx3]);omega)) [oj7]
   refine .for (σ:=VM) c_d_29.eq_1 (fun i _=>[(7,I i)]) (fun z=>z) (fun i y=>LkE p ⟨Z,fun i=>i<L0⟩ L0 z.next (z.next+1+1) (z.next+1+1+1+1) y st' (b1|| !decide (∀x∈st'.df.take i,x=true))) p.defs.length _ (by simp) rfl (by simpa using g) (fun i y hi hP again=> ?_) (fun y hP=> ?_)
   ·have oj:=hP.oj
    have oo:=hP.ou
    have hll:=hP.ln
    obtain⟨lm,ls,ld⟩:=hll
    have hi2:i<st'.df.length:=by omega
    rw[List.take_succ_eq_append_getElem hi2] at again
    generalize hx:st'.df[i]=x at*
    cases hcur:(b1|| !decide (∀x∈st'.df.take i,x=true)) with
    |true=>
     rw[hcur] at oj
     have again:=again _ (by
      have hnx:(b1|| !decide (∀x'∈st'.df.take i++[x],x'=true))=true:=by
       rw[Bool.or_eq_true] at hcur⊢
       rcases hcur with h|h
       ·exact .inl h
       ·refine .inr ?_
        simp only[Bool.not_eq_true',decide_eq_false_iff_not] at h⊢
        exact fun hh=>h fun x' hx'=>hh x' (List.mem_append_left _ hx')
      rw[hnx];exact hP.bad true)
     simp at again
     simp(disch:=((try simp only[nx3]);omega)) [oj,hi]
     exact again
    |false=>
     rw[hcur] at oj
     rw[Bool.or_eq_false_iff] at hcur
     obtain⟨hc1,hc2⟩:=hcur
     simp only[Bool.not_eq_false',decide_eq_true_eq] at hc2
     cases x with
     |true=>
      have again:=again _ (by
       have hnx:(b1|| !decide (∀x'∈st'.df.take i++[true],x'=true))=false:=by
        rw[hc1,decide_eq_true (fun x' hx'=>by
         rcases List.mem_append.1 hx' with h|h
         ·exact hc2 x' h
         ·exact List.mem_singleton.1 h)];rfl
       rw[hnx];exact hP.bad false)
      simp at again
      simp(disch:=((try simp only[nx3]);omega)) [oj,oo,hi,hi2,hx,eCt]
      exact again
     |false=>
      have again:=again _ (by
       have hnx:(b1|| !decide (∀x'∈st'.df.take i++[false],x'=true))=true:=by
        rw[decide_eq_false (fun hh=>by have:=hh false (List.mem_append_right _ (List.mem_singleton.2 rfl));cases this)];simp
       rw[hnx];exact hP.bad true)
      simp at again
      simp(disch:=((try simp only[nx3]);omega)) [oj,oo,hi,hi2,hx,eCt]
      exact again
   rw[show st'.df.take p.defs.length=st'.df from List.take_of_length_le (by omega)] at hP
   have oj8:=hP.oj
   have smf:SM M.next M y:=fun i hi=>(hP.kp i (by show i<L0;omega)).trans (smZ i hi)
   have hl8:=hP.lt.1
   have fin:k (.ptr L0 0 0) y:=by
    by_cases hok:PgOk p
    ·obtain⟨st,hs,hm,hd⟩:=hok.go
     have hb0:b0=false:=by
      cases b0 with
      |false=>rfl
      |true=>rw[e2 rfl] at hs;cases hs
     rw[e1 hb0] at hs
     cases hs
     have hb1:b1=false:=by rw[hb1,hb0,decide_eq_true hm];rfl
     have hfin:(b1|| !decide (∀x∈st'.df,x=true))=false:=by rw[hb1,decide_eq_true hd];rfl
     rw[hfin] at oj8
     exact good hok y L0 _ _ _ oj8 smf (by omega) hl8
    ·have hfin:(b1|| !decide (∀x∈st'.df,x=true))=true:=by
      cases hb1':(b1|| !decide (∀x∈st'.df,x=true)) with
      |true=>rfl
      |false=>
       rw[Bool.or_eq_false_iff] at hb1'
       obtain⟨h1,h2⟩:=hb1'
       rw[h1] at hb1
       have hb1:=hb1.symm
       rw[Bool.or_eq_false_iff] at hb1
       obtain⟨h3,h4⟩:=hb1
       simp only[Bool.not_eq_false',decide_eq_true_eq] at h2 h4
       exact absurd ⟨by omega,by omega,by omega,hfd.1,hfd.2,st',e1 h3,h4,h2⟩ hok
     rw[hfin] at oj8
     exact bad hok y L0 _ _ _ oj8 smf (by omega) hl8
   simp(disch:=((try simp only[nx3]);omega)) [oj8]
   exact fin
theorem zha (p:Pg) (hk:k (I (if PgOk p then 0 else 2)) M):zg F (.fn n_B [] []) [.agg (ePg p)] M k kp:=by
 have t4:zbJ 4 (ePg p)=some (ePg p):=rfl
 apply zg.back
 refine .fn zfw rfl (by simp[f_B]) ?_
 simp(disch:=((try simp only[nx3]);omega)) [t4]
 refine rall_ok p ?_
 intro M' L0 a b c o sm l1 l2
 have sm2:SM M.next M M':=fun i hi=>(sm i (by simp;omega)).trans (by rw[get_new,if_neg (by omega)])
 by_cases h:PgOk p
 ·rw[if_pos h] at hk
  rw[decide_eq_true h] at o
  simp(disch:=((try simp only[nx3]);omega)) [o,lkL]
  exact Back.plain (by simp) sm2 hk
 ·rw[if_neg h] at hk
  rw[decide_eq_false h] at o
  simp(disch:=((try simp only[nx3]);omega)) [o,lkL]
  exact Back.plain (by simp) sm2 hk
end Go.Ideal.S
namespace Go.Ideal.S
open Go Go.Ideal Q Classical
attribute [local simp] decide_eq_true decide_eq_false zbD
variable {M M':VM} {k kp:DV→VM→Prop} {n0 j:Nat}
theorem zdh {X:List CI} {F:FuncId→Option zb} {x:Mo} {bs:List Mo} {s:DS} {M:VM} {n0:Nat} (h: @Dr (rD F n0) (.base ⟨fun _ _=>True,fun _ _ _=>False,fun _ _=>False,fun _ _ _=>False⟩) (X.filter fun p=>Nat.ble p.lo x.idx) (x::bs) s M):wSurv (rD F n0) X (x::bs) s M:=by
 intro w0 M0 h0 w hp t cs hst hs hb
 rcases zeG h hst hs hb with⟨n,t',h',_,_,_,e,_⟩| ⟨_,_,_,_,_,_,_,_,_,_,_,q⟩
 ·exact⟨n,_,e⟩
 ·exact q.elim
theorem DP.of {X:RnD} {fr:FrC} {l:List CI} {bs:List Mo} {s:DS} {M M':VM} {v:DV} (h1:wSurv X l bs s M) (h2:fr.K.pan v [] M'): @DP X fr l bs s M v M':=⟨h1,h2⟩
abbrev ziR:DV:=.ifc 288 (.agg [I 2])
attribute [local simp] c_K f_K r_K_1 r_K_2
theorem want_ok {b:Bool} (hk:b=true→k (.tup []) M) (hp:b=false→kp ziR M):zg F (.fn n_K [] []) [.bool b] M k kp:=by
 apply zg.back
 refine .fn h_scope_want rfl (by simp[f_K]) ?_
 cases b with
 |true=>
  simp(disch:=((try simp only[nx3]);omega))
  exact bpl (hk rfl)
 |false=>
  simp(disch:=((try simp only[nx3]);omega))
  exact hp rfl
theorem zbY (hk:k (.tup []) M):zg F (.fn n_K [] []) [.bool true] M k kp:=want_ok (fun _=>hk) nofun
theorem zB (hp:kp ziR M):zg F (.fn n_K [] []) [.bool false] M k kp:=want_ok nofun fun _=>hp
theorem all_Ex (e:Ex):(∀x,x∈eEx e→zt x=true)=True:=eq_true (by cases e;rw[zhv];simp)
theorem zka {size:Int}: ∀{l:List Ex} {e:Ex},e∈l→zb3 size l→e.formed size
 |x::l,e,h,hf=>by
  rw[zb3] at hf
  rcases List.mem_cons.1 h with rfl|h
  ·exact hf.1
  ·exact zka h hf.2
theorem zlE: ∀{l:List Ex} {e:Ex},e∈l→e.depth≤zb9 l
 |x::l,e,h=>by
  rw[zb9]
  rcases List.mem_cons.1 h with rfl|h
  ·omega
  ·have:=zlE h;omega
def Kx (c0:Nat) (M M':VM):Prop:=M.next≤M'.next∧ ∀i,i<M.next→i≠c0→M'.get i=M.get i
theorem Kx.refl (c0:Nat) (M:VM):Kx c0 M M:=⟨Nat.le_refl _,fun _ _ _=>rfl⟩
theorem Kx.trans {c0:Nat} {M M1 M2:VM} (h:Kx c0 M M1) (h2:Kx c0 M1 M2):Kx c0 M M2:=⟨Nat.le_trans h.1 h2.1,fun i hi hn=>(h2.2 i (Nat.lt_of_lt_of_le hi h.1) hn).trans (h.2 i hi hn)⟩
theorem Kx.new {c0:Nat} {M1:VM} (h:Kx c0 M M1) (o:MO):Kx c0 M (M1.new o):=⟨Nat.le_succ_of_le h.1,fun i hi hn=>by rw[get_new,if_neg (by have:=h.1;omega)];exact h.2 i hi hn⟩
theorem Kx.put {c0:Nat} {M1:VM} (h:Kx c0 M M1) {j:Nat} (o:MO) (hj:j=c0∨M.next≤j):Kx c0 M (M1.put j o):=⟨Nat.le_succ_of_le h.1,fun i hi hn=>by rw[get_put,if_neg (by rcases hj with e|e<;>omega)];exact h.2 i hi hn⟩
theorem Kx.obj {c0:Nat} {M1:VM} (h:Kx c0 M M1) {i:Nat} (hi:i<M.next) (hn:i≠c0):M1.obj i=M.obj i:=by
 show(M1.get i).map _=(M.get i).map _
 rw[h.2 i hi hn]
structure DeE (size:Int) (c0 c1 c2:Nat) (M:VM) (m:Nat):Prop where
 o0:M.obj c0=some (.rows false 1 [[I (m:Int)]])
 o1:M.obj c1=some (.rows false 1 [[I size]])
 o2:M.obj c2=some (.rows false 1 [[.fn n_x [] [.ptr c0 0 0,.ptr c1 0 0,.ptr c2 0 0]]])
 df:c0≠c1∧c0≠c2
 lt:c0<M.next∧c1<M.next∧c2<M.next
theorem DeE.cnt {size:Int} {c0 c1 c2 m:Nat} (h:DeE size c0 c1 c2 M m) (m':Nat) (h2:Kx c0 M M') (h3:M'.obj c0=some (.rows false 1 [[I (m':Int)]])):DeE size c0 c1 c2 M' m':=by
 obtain⟨l0,l1,l2⟩:=h.lt
 obtain⟨d1,d2⟩:=h.df
 have:=h2.1
 exact⟨h3,by rw[h2.obj l1 (fun e=>d1 e.symm)];exact h.o1,by rw[h2.obj l2 (fun e=>d2 e.symm)];exact h.o2,h.df,by omega,by omega,by omega⟩
def okE (size:Int) (m dp:Nat) (e:Ex):Prop:=e.formed size∧m+e.nodes≤60∧dp+e.depth≤13
attribute [local simp] c_R f_R r_R_2 r_R_3 r_R_4 r_R_5 r_x c_x f_x r_x_1 r_x_2 r_x_3 r_x_4 r_x_5 r_x_6 r_x_7 r_x_8 r_x_9 r_x_10 r_x_11 r_x_12 r_x_13 r_x_14 r_x_15 r_x_16 r_x_17 r_x_18 r_x_19 r_x_20
theorem deep_ok (size:Int) {c0 c1 c2:Nat}: ∀(N:Nat) (e:Ex),e.nodes≤N→ ∀{M:VM} {k kp:DV→VM→Prop} (m dp:Nat),m≤60→dp≤13→DeE size c0 c1 c2 M m→(okE size m dp e→ ∀M',DeE size c0 c1 c2 M' (m+e.nodes)→Kx c0 M M'→k (.tup []) M')→(¬okE size m dp e→ ∀M',Kx c0 M M'→kp ziR M')→zg F (.fn n_x [] [.ptr c0 0 0,.ptr c1 0 0,.ptr c2 0 0]) [.agg (eEx e),I (dp:Int)] M k kp
 |0,e,h,_,_,_,_,_,_,_,_,_,_=>by have:=zdn e;omega
 |N+1,.mk op n ks,h,M,k,kp,m,dp,hm,hd,hM,hk,hp=>by
  unfold okE at hk hp
  rw[Ex.nodes] at h
  rw[Ex.formed,Ex.nodes,Ex.depth] at hk hp
  obtain⟨l0,l1,l2⟩:=hM.lt
  obtain⟨d1,d2⟩:=hM.df
  have o0:=hM.o0
  refine .fn h_scope_exp_1 rfl (by simp[f_x]) ?_
  rw[zhv]
  simp(disch:=((try simp only[nx3]);omega)) [o0]
  rw[show(m:Int)+1=((m+1:Nat):Int) by omega]
  obtain⟨Y,hY⟩: ∃Y,Y=(M.new (.rows false 3 [[I op,I n,.lst 3 (ks.map eEx)]])).put c0 (.rows false 1 [[I ((m+1:Nat):Int)]]):=⟨_,rfl⟩
  have kY:Kx c0 M Y:=by rw[hY];exact((Kx.refl c0 M).new _).put _ (.inl rfl)
  have y0:Y.obj c0=some (.rows false 1 [[I ((m+1:Nat):Int)]]):=by rw[hY];simp
  have dY:=hM.cnt (m+1) kY y0
  have yE:Y.obj M.next=some (.rows false 3 [[I op,I n,.lst 3 (ks.map eEx)]]):=by rw[hY,zj,if_neg (by omega)];simp
  have nY:M.next<Y.next:=by rw[hY];simp;omega
  have y1:=dY.o1
  have y2:=dY.o2
  rw[←hY]
  clear hY o0
  have hp0:=hp
  have hp:=fun hh=>hp hh Y kY
  by_cases a1:m+1≤60
  ·by_cases a2:dp≤12
   ·have a1i:((m+1:Nat):Int)≤60:=by omega
    have a2i:(dp:Int)≤12:=by omega
    by_cases hl:zcZ size op n ks.length
    ·have hl':(op=1∧ -1000000000≤n∧n≤1000000000∧ks.length=0)∨(op=2∧0≤n∧n<size∧ks.length=0)∨((op=3∨op=4∨op=5∨op=6∨op=7)∧n=0∧(1:Int)=1∧ks.length=2):=by
      unfold zcZ at hl;omega
     have hln:=zeh ks
     clear hp
     rcases hl' with⟨rfl,q1,q2,q3⟩| ⟨rfl,q1,q2,q3⟩| ⟨rfl|rfl|rfl|rfl|rfl,q1,q2,q3⟩
     all_goals
      simp(disch:=((try simp only[nx3]);omega)) [y0,a1i,a2i]
      refine zbY ?_
      simp(disch:=((try simp only[nx3]);omega)) [yE,y1,q1,q2,q3]
      refine zbY ?_
      simp(disch:=((try simp only[nx3]);omega)) [yE]
      clear q3
      refine .for (σ:=VM) c_x_21.eq_1 (fun i _=>[(75,I i)]) (fun y=>y) (fun i y=>DeE size c0 c1 c2 y (m+1+zF (ks.take i))∧Kx c0 M y∧zb3 size (ks.take i)∧dp+1+zb9 (ks.take i)≤13∧m+1+zF (ks.take i)≤60) ks.length Y (by simp) rfl ⟨by simpa[zF] using dY,kY,by simp[zb3],by simp[zb9];omega,by simp[zF];omega⟩ (fun i y hi hP again=> ?_) (fun y hP=> ?_)
      ·obtain⟨p1,p2,p5,p6,p7⟩:=hP
       have hmem:=zfZ (List.getElem_mem hi)
       have hap:zF ks=zF (ks.take i)+(ks[i].nodes+zF (ks.drop (i+1))):=by
        conv=>lhs;rw[←List.take_append_drop i ks,zdc,List.drop_eq_getElem_cons hi,zF]
       have hia:i≤zF (ks.take i):=by have:=zeh (ks.take i);rw[List.length_take] at this;omega
       have hfm:=zka (size:=size) (List.getElem_mem hi)
       have hdm:=zlE (List.getElem_mem hi)
       rw[List.take_succ_eq_append_getElem hi,zdc,zie,zkb] at again
       simp only[zF,zb9,zb3,Nat.add_zero,and_true,Nat.max_zero] at again
       generalize hx:ks[i]=e at*
       generalize zF (ks.take i)=a at*
       have g0:=p1.o0
       have g2:=p1.o2
       obtain⟨t0,t1,t2⟩:=p1.lt
       have wE:=write_Ex e (I 0) (I 0) .nilS
       simp(disch:=((try simp only[nx3]);omega)) [hi,hx,g2,wE,n_Ex,all_Ex]
       rw[show(dp:Int)+1=((dp+1:Nat):Int) by omega]
       obtain⟨Z,hZ⟩: ∃Z,Z=(y.new (.rows false 3 [[I 0,I 0,.nilS]])).put y.next (.rows false 3 [eEx e]):=⟨_,rfl⟩
       have kZ:Kx c0 y Z:=by rw[hZ];exact((Kx.refl c0 y).new _).put _ (.inr (Nat.le_refl _))
       have z0:Z.obj c0=some (.rows false 1 [[I ((m+1+a:Nat):Int)]]):=by rw[hZ,zj,if_neg (by omega),zX _ t0];exact g0
       rw[←hZ]
       refine deep_ok size N e (by omega) (m+1+a) (dp+1) (by omega) (by omega) (p1.cnt _ kZ z0) (fun ok M' g1 g2=> ?_) (fun no M' g2=> ?_)
       ·obtain⟨b1,b2,b3⟩:=ok
        have again:=again M' ⟨by rw[←Nat.add_assoc];exact g1,(p2.trans kZ).trans g2,⟨p5,b1⟩,by omega,by omega⟩
        simp at again
        simp(disch:=((try simp only[nx3]);omega))
        exact again
       ·have hp:=hp0 (fun hh=>no ⟨hfm hh.1.2,by omega,by omega⟩) M' ((p2.trans kZ).trans g2)
        clear again
        simp(disch:=((try simp only[nx3]);omega))
        exact hp
      ·rw[List.take_length] at hP
       obtain⟨p1,p2,p5,p6,p7⟩:=hP
       have hk:=hk ⟨⟨hl,p5⟩,by omega,by omega⟩ y (by rw[←Nat.add_assoc];exact p1) p2
       simp(disch:=((try simp only[nx3]);omega))
       exact hk
    ·have hpl:=hp fun hh=>hl hh.1.1
     unfold zcZ at hl
     simp(disch:=((try simp only[nx3]);omega)) [y0,a1i,a2i]
     refine zbY ?_
     by_cases b1:op=1
     ·subst b1
      by_cases e1: -1000000000≤n
      ·by_cases e2:n≤1000000000
       ·have e3: ¬ks.length=0:=by omega
        simp(disch:=((try simp only[nx3]);omega)) [yE,e1,e2,e3]
        refine zB ?_
        simp(disch:=((try simp only[nx3]);omega))
        exact hpl
       ·simp(disch:=((try simp only[nx3]);omega)) [yE,e1,e2]
        refine zB ?_
        simp(disch:=((try simp only[nx3]);omega))
        exact hpl
      ·simp(disch:=((try simp only[nx3]);omega)) [yE,e1]
       refine zB ?_
       simp(disch:=((try simp only[nx3]);omega))
       exact hpl
     by_cases b2:op=2
     ·subst b2
      by_cases e1:0≤n
      ·by_cases e2:n<size
       ·have e3: ¬ks.length=0:=by omega
        simp(disch:=((try simp only[nx3]);omega)) [yE,y1,e1,e2,e3]
        refine zB ?_
        simp(disch:=((try simp only[nx3]);omega))
        exact hpl
       ·simp(disch:=((try simp only[nx3]);omega)) [yE,y1,e1,e2]
        refine zB ?_
        simp(disch:=((try simp only[nx3]);omega))
        exact hpl
      ·simp(disch:=((try simp only[nx3]);omega)) [yE,y1,e1]
       refine zB ?_
       simp(disch:=((try simp only[nx3]);omega))
       exact hpl
     by_cases b3:op=3∨op=4∨op=5∨op=6∨op=7
     ·by_cases e1:n=0
      ·have e3: ¬ks.length=2:=by omega
       rcases b3 with rfl|rfl|rfl|rfl|rfl
       all_goals
        simp(disch:=((try simp only[nx3]);omega)) [yE,e1,e3]
        refine zB ?_
        simp(disch:=((try simp only[nx3]);omega))
        exact hpl
      ·rcases b3 with rfl|rfl|rfl|rfl|rfl
       all_goals
        simp(disch:=((try simp only[nx3]);omega)) [yE,e1]
        refine zB ?_
        simp(disch:=((try simp only[nx3]);omega))
        exact hpl
     ·simp only[not_or] at b3
      obtain⟨f3,f4,f5,f6,f7⟩:=b3
      simp(disch:=((try simp only[nx3]);omega)) [yE,b1,b2,f3,f4,f5,f6,f7]
      refine zB ?_
      simp(disch:=((try simp only[nx3]);omega))
      exact hpl
   ·have hp:=hp (by omega)
    have a1i:((m+1:Nat):Int)≤60:=by omega
    have a2i: ¬(dp:Int)≤12:=by omega
    simp(disch:=((try simp only[nx3]);omega)) [y0,a1i,a2i]
    refine zB ?_
    simp(disch:=((try simp only[nx3]);omega))
    exact hp
  ·have hp:=hp (by omega)
   have a1i: ¬((m+1:Nat):Int)≤60:=by omega
   simp(disch:=((try simp only[nx3]);omega)) [y0,a1i]
   refine zB ?_
   simp(disch:=((try simp only[nx3]);omega))
   exact hp
theorem exp_ok (e:Ex) (size:Int) (hk:zff size e→k (.tup []) M) (hp: ¬zff size e→ ∀M',SM M.next M M'→M.next≤M'.next→kp ziR M'):zg F (.fn n_R [] []) [.agg (eEx e),I size] M k kp:=by
 apply zg.back
 refine .fn h_scope_exp rfl (by simp[f_R]) ?_
 simp(disch:=((try simp only[nx3]);omega))
 obtain⟨Y,hY⟩: ∃Y,Y=((((((M.new (.rows false (eEx e).length [eEx e])).new (.rows false 1 [[I size]])).new (.rows false 1 [[I 0]])).put (M.next+1+1) (.rows false 1 [[I 0]])).new (.rows false 1 [[.nilF]])).put (M.next+1+1+1+1) (.rows false 1 [[.fn n_x [] [.ptr (M.next+1+1) 0 0,.ptr (M.next+1) 0 0,.ptr (M.next+1+1+1+1) 0 0]]])):=⟨_,rfl⟩
 have dY:DeE size (M.next+1+1) (M.next+1) (M.next+1+1+1+1) Y 0:=by
  subst hY
  refine⟨?_,?_,by simp,by omega,by simp⟩
  ·rw[zj,if_neg (by omega),zX _ (by simp)];simp
  ·rw[zj,if_neg (by omega),zX _ (by simp),zj,if_neg (by omega),zX _ (by simp),zbm,if_pos (by simp)]
 have sY:SM M.next M Y:=by
  subst hY
  exact zbc (zq (zbc (zq (zq (zq (z7 _ _) (Nat.le_refl _)) (by simp)) (by simp;omega)) (by omega)) (by simp;omega)) (by omega)
 have nY:M.next≤Y.next:=by rw[hY];simp;omega
 have sK: ∀{M'},Kx (M.next+1+1) Y M'→SM M.next M M'∧M.next≤M'.next:=fun h=>⟨fun i hi=>(h.2 i (by omega) (by omega)).trans (sY i hi),Nat.le_trans nY h.1⟩
 rw[←hY]
 refine deep_ok size _ e (Nat.le_refl _) 0 1 (by omega) (by omega) dY (fun ok M' _ g2=> ?_) (fun no M' g2=> ?_)
 ·obtain⟨b1,b2,b3⟩:=ok
  have hk:=hk ⟨by omega,by omega,b1⟩
  simp(disch:=((try simp only[nx3]);omega))
  exact Back.plain (by simp) (sK g2).1 hk
 ·have hp:=hp (fun hh=>no ⟨hh.2.2,by have:=hh.1;omega,by have:=hh.2.1;omega⟩) M' (sK g2).1 (sK g2).2
  simp(disch:=((try simp only[nx3]);omega))
  exact hp
attribute [local simp] c_2 f_2 r_2_1 r_2_2 c_F f_F r_F_1 r_F_2 r_F_3 r_F_4 r_F_5 r_F_6 r_F_7 r_F_9
theorem own_ok (d:Dfn) (h1:d.chs.length≤1000000) (h2:d.sps.length≤1000000) (hk:k (I (own d)) M):zg F (.fn n_2 [] []) [.agg (eDfn d)] M k kp:=by
 unfold own at hk
 apply zg.back
 refine .fn h_scope_own rfl (by simp[f_2]) ?_
 simp(disch:=((try simp only[nx3]);omega)) [eDfn]
 exact bpl hk
theorem brings_ok (d:Dfn) (r:Rul) (hd:zR d) (hr:r∈d.rls) (hk:k (I (zcy d r)) M):zg F (.fn n_F [] []) [.agg (eDfn d),.agg (eRul r)] M k kp:=by
 obtain⟨_,r1,r2,r3⟩:=hd.rls r hr
 unfold zcy at hk
 apply zg.back
 refine .fn zkX rfl (by simp[f_F]) ?_
 simp(disch:=((try simp only[nx3]);omega)) [eRul]
 refine .for (σ:=Unit) c_F_8.eq_1 (fun i _=>[(5,I ((r.joins.take i).map (zdo d)).sum),(11,I i)]) (fun _=>(M.new (.rows false 3 [eDfn d])).new (.rows false 3 [[I r.pl,.lst 1 (r.joins.map fun n=>[I n]),I r.node]])) (fun i _=>0≤((r.joins.take i).map (zdo d)).sum∧((r.joins.take i).map (zdo d)).sum≤3*i) r.joins.length () (by simp) rfl (by simp) (fun i _ hi hP again=> ?_) (fun _ hP=> ?_)
 ·obtain⟨⟨c,hc,hcl,_⟩,_⟩:=r3 i hi
  obtain⟨m1,m2,m3⟩:=many_at hd hcl
  rw[List.take_succ_eq_append_getElem hi,hc,List.map_append,List.sum_append] at again
  simp only[List.map_cons,List.map_nil,List.sum_cons,List.sum_nil,Int.add_zero,m1] at again
  have again:=again () ⟨by omega,by omega⟩
  generalize ((r.joins.take i).map (zdo d)).sum=a at*
  have hj:r.joins[i]=(c:Int):=hc
  generalize hmm:d.chs[c].many=m at*
  simp at again
  simp(disch:=((try simp only[nx3]);omega)) [hi,eDfn,hj,hcl,eChn,hmm]
  exact again
 ·rw[List.take_length]
  simp(disch:=((try simp only[nx3]);omega))
  exact bpl hk
def shV (op:Int):DV:=if op=1∨op=7 then .ifc 345 (I 0) else if op=3 then .ifc 345 (I 2) else if op=2 then .ifc 325 (.agg []) else if op=5 then .ifc 328 (.agg []) else if op=6∨op=8 then .ifc 326 (.agg []) else if op=4 then .ifc 327 (.agg []) else .nilI
attribute [local simp] c_r f_r r_r_1 r_r_2 r_r_3 r_r_4 r_r_5 r_r_6 r_r_7 r_r_8 r_r_9 r_r_10 r_r_11 r_r_12 r_r_13 r_r_14 r_r_15 r_r_16 r_r_17 c_Y f_Y r_Y_1 r_Y_2 c_X f_X r_X_1 r_X_2 c_U f_U r_U_1 r_U_2 c_V f_V r_V_1 r_V_2 c_0 f_0 r_0_1 r_0_2
theorem shapeOf_ok (op:Int) (hk:k (shV op) M):zg F (.fn n_r [] []) [I op] M k kp:=by
 unfold shV at hk
 apply zg.back
 refine .fn zj6 rfl (by simp[f_r]) ?_
 by_cases h1:op=1
 ·subst h1
  simp(disch:=((try simp only[nx3]);omega))
  exact bpl hk
 by_cases h7:op=7
 ·subst h7
  simp(disch:=((try simp only[nx3]);omega))
  exact bpl hk
 rw[if_neg (by omega)] at hk
 by_cases h3:op=3
 ·subst h3
  simp(disch:=((try simp only[nx3]);omega))
  exact bpl hk
 rw[if_neg h3] at hk
 by_cases h2:op=2
 ·subst h2
  simp(disch:=((try simp only[nx3]);omega))
  exact bpl hk
 rw[if_neg h2] at hk
 by_cases h5:op=5
 ·subst h5
  simp(disch:=((try simp only[nx3]);omega))
  exact bpl hk
 rw[if_neg h5] at hk
 by_cases h6:op=6
 ·subst h6
  simp(disch:=((try simp only[nx3]);omega))
  exact bpl hk
 by_cases h8:op=8
 ·subst h8
  simp(disch:=((try simp only[nx3]);omega))
  exact bpl hk
 rw[if_neg (by omega)] at hk
 by_cases h4:op=4
 ·subst h4
  simp(disch:=((try simp only[nx3]);omega))
  exact bpl hk
 rw[if_neg h4] at hk
 simp(disch:=((try simp only[nx3]);omega)) [h1,h2,h3,h4,h5,h6,h7,h8]
 exact bpl hk
theorem zi4 (hk:k (I 0) M):zg F (.fn n_Y [] []) [.agg []] M k kp:=by
 apply zg.back
 refine .fn zgJ rfl (by simp[f_Y]) ?_
 simp(disch:=((try simp only[nx3]);omega))
 exact bpl hk
theorem zi3 (hk:k (I 1) M):zg F (.fn n_X [] []) [.agg []] M k kp:=by
 apply zg.back
 refine .fn zf4 rfl (by simp[f_X]) ?_
 simp(disch:=((try simp only[nx3]);omega))
 exact bpl hk
theorem kids2_ok (hk:k (I 1) M):zg F (.fn n_U [] []) [.agg []] M k kp:=by
 apply zg.back
 refine .fn zfu rfl (by simp[f_U]) ?_
 simp(disch:=((try simp only[nx3]);omega))
 exact bpl hk
theorem zi2 (hk:k (I 2) M):zg F (.fn n_V [] []) [.agg []] M k kp:=by
 apply zg.back
 refine .fn zf6 rfl (by simp[f_V]) ?_
 simp(disch:=((try simp only[nx3]);omega))
 exact bpl hk
theorem zi1 (n:Int) (hk:k (I n) M):zg F (.fn n_0 [] []) [I n] M k kp:=by
 apply zg.back
 refine .fn zho rfl (by simp[f_0]) ?_
 simp(disch:=((try simp only[nx3]);omega))
 exact bpl hk
end Go.Ideal.S
namespace Go.Ideal.S
open Go Go.Ideal Q Classical
attribute [local simp] decide_eq_true decide_eq_false zbD
variable {M M':VM} {k kp:DV→VM→Prop} {n0 j:Nat}
attribute [local simp] c_q f_q r_q_1 r_q_2 r_q_3 r_q_4 r_q_5 r_q_6 r_q_7 r_q_9 c_I f_I r_I_1 r_I_2
theorem indexInt_ok (l:List Int) (n:Int) (hl:l.length<4000000000000000000) (hk: ∀r:Int,decide (0≤r)=decide (n∈l)→k (I r) M):zg F (.fn n_q [] []) [.lst 1 (l.map fun n=>[I n]),I n] M k kp:=by
 refine .fn zeY rfl (by simp[f_q]) ?_
 simp(disch:=((try simp only[nx3]);omega))
 refine .for (σ:=Unit) c_q_8.eq_1 (fun i _=>[(8,I i)]) (fun _=>M) (fun i _=>n∉l.take i) l.length () (by simp) rfl (by simp) (fun i _ hi hP again=> ?_) (fun _ hP=> ?_)
 ·rw[List.take_succ_eq_append_getElem hi] at again
  have hin:=List.getElem_mem hi
  generalize hx:l[i]=v at*
  by_cases hv:n=v
  ·have hk:=hk i (by rw[decide_eq_true (by omega),decide_eq_true (by rw[hv];exact hin)])
   clear again
   simp(disch:=((try simp only[nx3]);omega)) [hi,hx,hv]
   exact hk
  ·have again:=again () (fun hm=>by
    rcases List.mem_append.1 hm with hm|hm
    ·exact hP hm
    ·exact hv (List.mem_singleton.1 hm))
   simp at again
   simp(disch:=((try simp only[nx3]);omega)) [hi,hx,hv]
   exact again
 ·rw[List.take_length] at hP
  have hk:=hk (-1) (by rw[decide_eq_false hP];decide)
  simp(disch:=((try simp only[nx3]);omega))
  exact hk
theorem zkY (l:List Int) (n:Int) (hl:l.length<4000000000000000000) (hk:k (.bool (decide (n∈l))) M):zg F (.fn n_I [] []) [.lst 1 (l.map fun n=>[I n]),I n] M k kp:=by
 refine .fn zdC rfl (by simp[f_I]) ?_
 simp(disch:=((try simp only[nx3]);omega))
 refine indexInt_ok l n hl fun r hr=> ?_
 simp(disch:=((try simp only[nx3]);omega)) [hr]
 exact hk
theorem same_St (a b:List UInt8):zbd .str (St a) (St b)=some (decide (a=b)):=by
 show some (z6 a b)=_
 rw[eq_bytes]
def zgz (l:List (List UInt8)):List (DV×DV):=l.map fun n=>(St n,.bool true)
theorem zly (n:List UInt8): ∀l,zgO .str (St n) (zgz l)=some (if n∈l then some (.bool true) else none)
 | []=>rfl
 |m::l=>by
  show((zbd .str (St n) (St m)).bind fun b=>match b with|true=>some (some (DV.bool true))|false=>zgO .str (St n) (zgz l))=_
  rw[same_St,Option.bind_some]
  by_cases h:n=m
  ·subst h
   rw[decide_eq_true rfl];simp
  ·rw[decide_eq_false h]
   dsimp only
   rw[zly n l]
   simp[h]
theorem set_seenS (n:List UInt8): ∀l,n∉l→setD .str (St n) (.bool true) (zgz l)=some (zgz (l++[n]))
 | [],_=>rfl
 |m::l,h=>by
  have h1:n≠m:=fun e=>h (by rw[e];exact List.mem_cons_self)
  show((zbd .str (St n) (St m)).bind fun s=>match s with
   |true=>if zb6 (zr (St n)) (zr (St m))=true then some ((St n,DV.bool true)::zgz l) else none
   |false=>(setD .str (St n) (.bool true) (zgz l)).map fun y=>(St m,DV.bool true)::y)=_
  rw[same_St,Option.bind_some,decide_eq_false h1]
  dsimp only
  rw[set_seenS n l (fun q=>h (List.mem_cons_of_mem _ q))]
  rfl
theorem upd_S {y:VM} {q:Nat} {l:List (List UInt8)} {n:List UInt8} (h:y.obj q=some (.map (zgz l))) (hn:n∉l):updD .str y (St n) (.bool true) (.map q)=some (y.put q (.map (zgz (l++[n])))):=by
 show(y.obj q).bind _=_
 rw[h]
 show(zbd .str (St n) (St n)).bind (fun _=>(setD .str (St n) (.bool true) (zgz l)).map fun es=>y.put q (.map es))=_
 rw[same_St,set_seenS n l hn];rfl
theorem kw_step {X:RnD} {fr:FrC} {r:List CI} {sl:DS} {y:VM} {q:Nat} {l:List (List UInt8)} {n:List UInt8} (h:y.obj q=some (.map (zgz l))) (hn:n∉l) (sm:SM q M y) (lt:q<y.next) (hk: ∀y',y'.obj q=some (.map (zgz (l++[n])))→SM q M y'→q<y'.next→ @Op X fr r sl y'): @Rs X fr (stR (updD .str y (St n) (.bool true) (.map q))) none r sl:=by
 rw[upd_S h hn]
 exact hk _ (by simp) (zbc sm (Nat.le_refl _)) (by simp;omega)
attribute [local simp] c_T f_T r_T_1 r_T_2 r_T_3 r_T_4 r_T_5 r_T_6 r_T_7 r_T_9 c_1 f_1 r_1_1 r_1_2
theorem keywords_ok (hk: ∀M',M'.obj M.next=some (.map (zgz kwL))→SM M.next M M'→M.next<M'.next→k (.map M.next) M'):zg F (.fn n_1 [] []) [] M k kp:=by
 refine .fn zj5 rfl (by simp[f_1]) ?_
 simp(disch:=((try simp only[nx3]);omega))
 have o:(M.new (.map [])).obj M.next=some (.map (zgz [])):=by simp;rfl
 have sm:SM M.next M (M.new (.map [])):=(by repeat' (first|assumption|exact z7 _ _|apply zbc|apply zq|apply zc3| ((try simp only[nx3]);omega)))
 have lt:M.next<(M.new (.map [])).next:=by simp
 repeat
  refine kw_step o (by decide) sm lt fun y o sm lt=> ?_
  simp(disch:=((try simp only[nx3]);omega))
 exact hk _ o sm lt
theorem name_ok (s:List UInt8) (hs:s.length≤9223372036854775807) (hk:k (.bool (decide (NameS s))) M):zg F (.fn n_T [] []) [St s] M k kp:=by
 have yes:NameS s→k (.bool true) M:=fun hf=>by rw[decide_eq_true hf] at hk;exact hk
 have no: ¬NameS s→k (.bool false) M:=fun hf=>by rw[decide_eq_false hf] at hk;exact hk
 clear hk
 apply zg.back
 refine .fn h_term_Name rfl (by simp[f_T]) ?_
 simp(disch:=((try simp only[nx3]);omega))
 refine .for (σ:=Unit) c_T_8.eq_1 (fun i _=>[(6,I i)]) (fun _=>M) (fun i _=> ∀b∈s.take i,97≤b.toNat∧b.toNat≤122) s.length () (by simp) rfl (by simp) (fun i _ hi hP again=> ?_) (fun _ hP=> ?_)
 ·rw[List.take_succ_eq_append_getElem hi] at again
  have hm:=List.getElem_mem hi
  generalize hx:s[i]=b at*
  have hb:byteD b=.int .u8 (b.toNat:Int):=rfl
  by_cases h3:97≤b.toNat
  ·by_cases h4:b.toNat≤122
   ·have again:=again () (fun c hc=>by
     rcases List.mem_append.1 hc with hc|hc
     ·exact hP c hc
     ·rw[List.mem_singleton.1 hc];exact⟨h3,h4⟩)
    have h3i: ¬(b.toNat:Int)<97:=by omega
    have h4i: ¬(122:Int)<b.toNat:=by omega
    simp at again
    simp(disch:=((try simp only[nx3]);omega)) [hi,hx,hb,zii,zij,h3i,h4i]
    exact again
   ·have no:=no fun hh=>h4 (hh.2.1 b hm).2
    have h3i: ¬(b.toNat:Int)<97:=by omega
    have h4i:(122:Int)<b.toNat:=by omega
    clear again
    simp(disch:=((try simp only[nx3]);omega)) [hi,hx,hb,zii,zij,h3i,h4i]
    exact bpl no
  ·have no:=no fun hh=>h3 (hh.2.1 b hm).1
   have h3i:(b.toNat:Int)<97:=by omega
   clear again
   simp(disch:=((try simp only[nx3]);omega)) [hi,hx,hb,zii,zij,h3i]
   exact bpl no
 ·rw[List.take_length] at hP
  by_cases h1:1≤s.length
  ·have h1i:(0:Int)<s.length:=by omega
   by_cases h2:s.length≤8
   ·have h2i:(s.length:Int)≤8:=by omega
    simp(disch:=((try simp only[nx3]);omega)) [h1i,h2i]
    refine keywords_ok fun M' o sm lt=> ?_
    have hl1:lkE .str (.bool false) false (St s) (some (zgz kwL))=some (zdp (.bool false) false (if s∈kwL then some (.bool true) else none)):=by
     show(match zbd .str (St s) (St s) with|some _=>(zgO .str (St s) (zgz kwL)).map (zdp (.bool false) false)|none=>none)=_
     rw[same_St,zly];rfl
    by_cases h5:s∈kwL
    ·rw[if_pos h5] at hl1
     have no:=no fun hh=>hh.2.2 h5
     simp(disch:=((try simp only[nx3]);omega)) [o,hl1,zdp]
     exact Back.plain (by simp) sm no
    ·rw[if_neg h5] at hl1
     have yes:=yes ⟨⟨h1,h2⟩,hP,h5⟩
     simp(disch:=((try simp only[nx3]);omega)) [o,hl1,zdp]
     exact Back.plain (by simp) sm yes
   ·have no:=no fun hh=>h2 hh.1.2
    have h2i: ¬(s.length:Int)≤8:=by omega
    simp(disch:=((try simp only[nx3]);omega)) [h1i,h2i]
    exact bpl no
  ·have no:=no fun hh=>h1 hh.1.1
   have h1i: ¬(0:Int)<s.length:=by omega
   simp(disch:=((try simp only[nx3]);omega)) [h1i]
   exact bpl no
def zfd (l:List Int):List (DV×DV):=l.map fun n=>(I n,.bool true)
theorem set_seen (n:Int): ∀l:List Int,n∉l→setD .int (I n) (.bool true) (zfd l)=some (zfd (l++[n]))
 | [],_=>rfl
 |m::l,h=>by
  have h1:n≠m:=fun e=>h (by rw[e];exact List.mem_cons_self)
  show((some (eqI n m)).bind fun s=>match s with
   |true=>if zb6 (zr (I n)) (zr (I m))=true then some ((I n,DV.bool true)::zfd l) else none
   |false=>(setD .int (I n) (.bool true) (zfd l)).map fun y=>(I m,DV.bool true)::y)=_
  rw[zfF,Option.bind_some,decide_eq_false h1]
  dsimp only
  rw[set_seen n l (fun q=>h (List.mem_cons_of_mem _ q))]
  rfl
theorem set_dup (n:Int): ∀l:List Int,n∈l→setD .int (I n) (.bool true) (zfd l)=some (zfd l)
 | [],h=>by cases h
 |m::l,h=>by
  show((some (eqI n m)).bind fun s=>match s with
   |true=>if zb6 (zr (I n)) (zr (I m))=true then some ((I n,DV.bool true)::zfd l) else none
   |false=>(setD .int (I n) (.bool true) (zfd l)).map fun y=>(I m,DV.bool true)::y)=_
  rw[zfF,Option.bind_some]
  by_cases h1:n=m
  ·subst h1
   rw[decide_eq_true rfl]
   dsimp only
   rw[if_pos (by show(decide _&&eqI n n&&true)=true;rw[zfF];simp)]
   rfl
  ·rw[decide_eq_false h1]
   dsimp only
   rw[set_dup n l (by rcases List.mem_cons.1 h with e|e;exact absurd e h1;exact e)]
   rfl
def insL (l:List Int) (n:Int):List Int:=if n∈l then l else l++[n]
theorem insL_mem (l:List Int) (n x:Int):x∈insL l n↔x∈l∨x=n:=by
 unfold insL
 split
 ·constructor
  ·exact .inl
  ·rintro(h|rfl)
   ·exact h
   ·assumption
 ·rw[List.mem_append,List.mem_singleton]
theorem insL_nodup {l:List Int} (h:l.Nodup) (n:Int):(insL l n).Nodup:=by
 unfold insL
 split
 ·exact h
 ·rename_i hn
  exact List.nodup_append.2 ⟨h,by simp,fun a ha b hb e=>hn (by rw[←List.mem_singleton.1 hb,←e];exact ha)⟩
theorem upd_D {y:VM} {q:Nat} {l:List Int} {n:Int} (h:y.obj q=some (.map (zfd l))):updD .int y (I n) (.bool true) (.map q)=some (y.put q (.map (zfd (insL l n)))):=by
 show(y.obj q).bind _=_
 rw[h]
 show(some (eqI n n)).bind (fun _=>(setD .int (I n) (.bool true) (zfd l)).map fun es=>y.put q (.map es))=_
 unfold insL
 split
 ·rename_i hn;rw[set_dup n l hn];rfl
 ·rename_i hn;rw[set_seen n l hn];rfl
theorem zhf: ∀(l m:List Int),l.Nodup→(∀x∈l,x∈m)→l.length≤m.length
 | [],_,_,_=>Nat.zero_le _
 |x::l,m,h,hm=>by
  obtain⟨h1,h2⟩:=List.nodup_cons.1 h
  have hx:=hm x (List.mem_cons_self ..)
  have ih:=zhf l (m.erase x) h2 fun y hy=>(List.mem_erase_of_ne (fun e=>h1 (by rw[←e];exact hy))).2 (hm y (List.mem_cons_of_mem _ hy))
  rw[List.length_erase_of_mem hx] at ih
  have:0<m.length:=List.length_pos_of_mem hx
  rw[List.length_cons];omega
theorem len_all {l:List Int} {n:Nat} (h:l.Nodup) (hl: ∀x∈l,0≤x∧x<n):l.length=n↔ ∀c:Nat,c<n→(c:Int)∈l:=by
 have hr: ∀x∈l,x∈(List.range n).map fun(c:Nat)=>(c:Int):=fun x hx=>List.mem_map.2 ⟨x.toNat,by rw[List.mem_range];have:=hl x hx;omega,by have:=hl x hx;omega⟩
 have hle:=zhf l _ h hr
 rw[List.length_map,List.length_range] at hle
 constructor
 ·intro e c hc
  refine Classical.byContradiction fun hn=> ?_
  have:=zhf ((c:Int)::l) ((List.range n).map fun(c:Nat)=>(c:Int)) (List.nodup_cons.2 ⟨hn,h⟩) fun x hx=>by
   rcases List.mem_cons.1 hx with rfl|hx
   ·exact List.mem_map.2 ⟨c,List.mem_range.2 hc,rfl⟩
   ·exact hr x hx
  rw[List.length_map,List.length_range,List.length_cons] at this
  omega
 ·intro hc
  have:=zhf ((List.range n).map fun(c:Nat)=>(c:Int)) l (by
   rw[List.Nodup,List.pairwise_map]
   exact List.Pairwise.imp (fun hab e=>hab (by omega)) (List.nodup_range (n:=n))) fun x hx=>by
   obtain⟨c,h1,rfl⟩:=List.mem_map.1 hx
   exact hc c (List.mem_range.1 h1)
  rw[List.length_map,List.length_range] at this
  omega
attribute [local simp] c_i f_i r_i_2 r_i_3 r_i_4 r_i_5 r_i_6 r_i_7 r_i_8 r_i_9 r_i_11 r_i_12 r_i_13 r_i_14 r_i_15 r_i_17 r_i_18 r_i_19 r_i_20 r_i_21 r_i_22 r_i_23 r_i_24 r_i_25 r_i_26 r_i_27 r_i_28 r_i_30 r_i_32 r_5 c_5 f_5 r_5_1
theorem place_ok (d:Dfn) {q:Nat} (n:Int) (hq:M.obj q=some (.rows false 3 [[.lst 2 (d.chs.map eChn),.lst 2 (d.sps.map eSpt),.lst 3 (d.rls.map eRul)]])) (hk:(0≤n∧n≤d.sps.length)→k (.tup []) M) (hp: ¬(0≤n∧n≤d.sps.length)→kp ziR M):zg F (.fn n_5 [] [.ptr q 0 0]) [I n] M k kp:=by
 refine zg.back ?_
 refine .fn h_scope_def_1 rfl (by simp[f_5]) ?_
 by_cases h1:0≤n
 ·by_cases h2:n≤d.sps.length
  ·have hk:=hk ⟨h1,h2⟩
   simp(disch:=((try simp only[nx3]);omega)) [hq,h1,h2]
   refine zbY ?_
   simp(disch:=((try simp only[nx3]);omega))
   exact bpl hk
  ·have hp:=hp (fun hh=>h2 hh.2)
   simp(disch:=((try simp only[nx3]);omega)) [hq,h1,h2]
   refine zB ?_
   simp(disch:=((try simp only[nx3]);omega))
   exact hp
 ·have hp:=hp (fun hh=>h1 hh.1)
  simp(disch:=((try simp only[nx3]);omega)) [hq,h1]
  refine zB ?_
  simp(disch:=((try simp only[nx3]);omega))
  exact hp
structure DfE (M:VM) (d:Dfn) (y:VM):Prop where
 sm:SM M.next M y
 lt:M.next<y.next
 ob:y.obj M.next=some (.rows false 3 [[.lst 2 (d.chs.map eChn),.lst 2 (d.sps.map eSpt),.lst 3 (d.rls.map eRul)]])
theorem DfE.new {d:Dfn} {y:VM} (h:DfE M d y) (o:MO):DfE M d (y.new o):=by
 have:=h.lt
 exact⟨zq h.sm (by omega),by simp;omega,by rw[zX _ h.lt];exact h.ob⟩
theorem DfE.put {d:Dfn} {y:VM} (h:DfE M d y) {q:Nat} (hq:M.next<q) (o:MO):DfE M d (y.put q o):=by
 have:=h.lt
 exact⟨zbc h.sm (by omega),by simp;omega,by rw[zj,if_neg (by omega)];exact h.ob⟩
theorem DfE.box {d:Dfn} {y:VM} (h:DfE M d y) (o o2:MO):DfE M d ((y.new o).put y.next o2):=(h.new o).put h.lt o2
theorem def_ok (d:Dfn) (hk:zR d→k (.tup []) M) (hp: ¬zR d→ ∀M',SM M.next M M'→M.next≤M'.next→kp ziR M'):zg F (.fn n_i [] []) [.agg (eDfn d)] M k kp:=by
 apply zg.back
 refine .fn h_scope_def rfl (by simp[f_i]) ?_
 by_cases l1:d.chs.length≤30
 ·have l1i:(d.chs.length:Int)≤30:=by omega
  by_cases l2:d.sps.length≤30
  ·have l2i:(d.sps.length:Int)≤30:=by omega
   by_cases l3:d.rls.length≤30
   ·have l3i:(d.rls.length:Int)≤30:=by omega
    simp(disch:=((try simp only[nx3]);omega)) [eDfn,l1i,l2i,l3i]
    refine zbY ?_
    simp(disch:=((try simp only[nx3]);omega))
    have hp:=fun(h: ¬zR d) (y:VM) (e:DfE M d y)=>hp h y e.sm (by have:=e.lt;omega)
    have e0:DfE M d (M.new (.rows false 3 [[.lst 2 (d.chs.map eChn),.lst 2 (d.sps.map eSpt),.lst 3 (d.rls.map eRul)]])):=⟨(by repeat' (first|assumption|exact z7 _ _|apply zbc|apply zq|apply zc3| ((try simp only[nx3]);omega))),by simp,by simp⟩
    refine .for (σ:=VM) c_i_10.eq_1 (fun i _=>[(33,I i)]) (fun y=>y) (fun i y=>DfE M d y∧ ∀c∈d.chs.take i,(0≤c.pl∧c.pl≤d.sps.length)∧0≤c.many∧c.many≤3) d.chs.length _ (by simp) rfl ⟨e0,by simp⟩ (fun i y hi hP again=> ?_) (fun y hP1=> ?_)
    ·obtain⟨p1,p2⟩:=hP
     rw[List.take_succ_eq_append_getElem hi] at again
     have hm:=List.getElem_mem hi
     generalize hx:d.chs[i]=c at*
     have hp:=fun h: ¬((0≤c.pl∧c.pl≤d.sps.length)∧0≤c.many∧c.many≤3)=>hp fun hh=>h (hh.chs c hm)
     have again:=fun(h:(0≤c.pl∧c.pl≤d.sps.length)∧0≤c.many∧c.many≤3) z hz=>again z ⟨hz,fun q hq=>by
      rcases List.mem_append.1 hq with hq|hq
      ·exact p2 q hq
      ·rw[List.mem_singleton.1 hq];exact h⟩
     obtain⟨z,hz⟩: ∃z,z=(y.new (.rows false 2 [[I 0,I 0]])).put y.next (.rows false 2 [[I c.pl,I c.many]]):=⟨_,rfl⟩
     have pz:DfE M d z:=by rw[hz];exact p1.box _ _
     have oz:z.obj y.next=some (.rows false 2 [[I c.pl,I c.many]]):=by rw[hz];simp
     simp(disch:=((try simp only[nx3]);omega)) [hi,hx,eChn]
     rw[←hz]
     refine place_ok d c.pl pz.ob (fun h1=> ?_) (fun h1=> ?_)
     ·by_cases h2:0≤c.many
      ·by_cases h3:c.many≤3
       ·have again:=again ⟨h1,h2,h3⟩ z pz
        simp at again
        simp(disch:=((try simp only[nx3]);omega)) [oz,h2,h3]
        refine zbY ?_
        simp(disch:=((try simp only[nx3]);omega))
        exact again
       ·have hp:=hp (fun hh=>h3 hh.2.2) z pz
        clear again
        simp(disch:=((try simp only[nx3]);omega)) [oz,h2,h3]
        refine zB ?_
        simp(disch:=((try simp only[nx3]);omega))
        exact hp
      ·have hp:=hp (fun hh=>h2 hh.2.1) z pz
       clear again
       simp(disch:=((try simp only[nx3]);omega)) [oz,h2]
       refine zB ?_
       simp(disch:=((try simp only[nx3]);omega))
       exact hp
     ·have hp:=hp (fun hh=>h1 hh.1) z pz
      clear again
      simp(disch:=((try simp only[nx3]);omega))
      exact hp
    rw[List.take_length] at hP1
    obtain⟨e1,hP1⟩:=hP1
    simp(disch:=((try simp only[nx3]);omega)) [e1.ob]
    refine .for (σ:=VM) c_i_16.eq_1 (fun i _=>[(54,I i)]) (fun y=>y) (fun i y=>DfE M d y∧ ∀j (h:j<d.sps.length),j<i→0≤d.sps[j].in_∧d.sps[j].in_≤j) d.sps.length _ (by simp) rfl ⟨e1,fun j _ h=>absurd h (Nat.not_lt_zero _)⟩ (fun i y hi hP again=> ?_) (fun y hP2=> ?_)
    ·obtain⟨p1,p2⟩:=hP
     have hp:=fun h: ¬(0≤d.sps[i].in_∧d.sps[i].in_≤i)=>hp fun hh=>h (hh.sps i hi)
     have again:=fun(h:0≤d.sps[i].in_∧d.sps[i].in_≤i) z hz=>again z ⟨hz,fun j hj hji=>by
      by_cases e:j=i
      ·subst e;exact h
      ·exact p2 j hj (by omega)⟩
     generalize hx:d.sps[i]=c at*
     obtain⟨z,hz⟩: ∃z,z=(y.new (.rows false 2 [[I 0,I 0]])).put y.next (.rows false 2 [[I c.in_,I c.node]]):=⟨_,rfl⟩
     have pz:DfE M d z:=by rw[hz];exact p1.box _ _
     have oz:z.obj y.next=some (.rows false 2 [[I c.in_,I c.node]]):=by rw[hz];simp
     by_cases h2:0≤c.in_
     ·by_cases h3:c.in_≤i
      ·have again:=again ⟨h2,h3⟩ z pz
       simp at again
       simp(disch:=((try simp only[nx3]);omega)) [hi,hx,eSpt,h2,h3]
       refine zbY ?_
       rw[←hz]
       simp(disch:=((try simp only[nx3]);omega))
       exact again
      ·have hp:=hp (fun hh=>h3 hh.2) z pz
       clear again
       simp(disch:=((try simp only[nx3]);omega)) [hi,hx,eSpt,h2,h3]
       refine zB ?_
       rw[←hz]
       simp(disch:=((try simp only[nx3]);omega))
       exact hp
     ·have hp:=hp (fun hh=>h2 hh.1) z pz
      clear again
      simp(disch:=((try simp only[nx3]);omega)) [hi,hx,eSpt,h2]
      refine zB ?_
      rw[←hz]
      simp(disch:=((try simp only[nx3]);omega))
      exact hp
    obtain⟨e2,hP2⟩:=hP2
    have hny: ¬M.next=y.next:=by have:=e2.lt;omega
    simp(disch:=((try simp only[nx3]);omega)) [e2.ob,hny]
    obtain⟨U0,hU⟩: ∃U0,U0=y.next:=⟨_,rfl⟩
    have hU1:M.next<U0:=by rw[hU];exact e2.lt
    have u1:(y.new (.map [])).obj U0=some (.map (zfd [])):=by rw[hU];simp;rfl
    have u2:U0<(y.new (.map [])).next:=by rw[hU];simp
    have e3:=e2.new (.map [])
    have e3o:=e3.ob
    rw[←hU]
    generalize y.new (.map [])=y2 at*
    refine .for (σ:=VM×List Int) c_i_31.eq_1 (fun i _=>[(74,I i)]) (fun z=>z.1) (fun i z=>DfE M d z.1∧U0<z.1.next∧z.1.obj U0=some (.map (zfd z.2))∧(z.2.Nodup∧ ∀x,x∈z.2↔x∈(d.rls.take i).flatMap Rul.joins)∧ ∀r∈d.rls.take i,(0≤r.pl∧r.pl≤d.sps.length)∧0<r.joins.length∧r.joins.length≤3∧zgH d r) d.rls.length (y2,[]) (by simp) rfl ⟨e3,u2,u1,by simp,by simp⟩ (fun i z hi hP again=> ?_) (fun z hP=> ?_)
    ·obtain⟨z,l⟩:=z
     obtain⟨p1,p2,p3,p4,p5⟩:=hP
     dsimp only at*
     rw[List.take_succ_eq_append_getElem hi,List.flatMap_append] at again
     have hm:=List.getElem_mem hi
     generalize hx:d.rls[i]=r at*
     generalize (d.rls.take i).flatMap Rul.joins=js at*
     have hp:=fun h: ¬((0≤r.pl∧r.pl≤d.sps.length)∧0<r.joins.length∧r.joins.length≤3∧zgH d r)=>hp fun hh=>h (hh.rls r hm)
     have again:=fun(h:(0≤r.pl∧r.pl≤d.sps.length)∧0<r.joins.length∧r.joins.length≤3∧zgH d r) z l h1 h2 h3 h4=>again (z,l) ⟨h1,h2,h3,h4,fun q hq=>by
      rcases List.mem_append.1 hq with hq|hq
      ·exact p5 q hq
      ·rw[List.mem_singleton.1 hq];exact h⟩
     have wR:zK [I 0,.nilS,I 0] 0 [I r.pl,.lst 1 (r.joins.map fun n=>[I n]),I r.node]=some [I r.pl,.lst 1 (r.joins.map fun n=>[I n]),I r.node]:=rfl
     have t3:zbJ 3 (eRul r)=some [I r.pl,.lst 1 (r.joins.map fun n=>[I n]),I r.node]:=rfl
     obtain⟨z1,hz⟩: ∃z1,z1=(z.new (.rows false 3 [[I 0,.nilS,I 0]])).put z.next (.rows false 3 [[I r.pl,.lst 1 (r.joins.map fun n=>[I n]),I r.node]]):=⟨_,rfl⟩
     have pz:DfE M d z1:=by rw[hz];exact p1.box _ _
     have oz:z1.obj z.next=some (.rows false 3 [[I r.pl,.lst 1 (r.joins.map fun n=>[I n]),I r.node]]):=by rw[hz];simp
     have uz:z1.obj U0=some (.map (zfd l)):=by rw[hz,zj,if_neg (by omega),zX _ p2];exact p3
     have nz:z1.next=z.next+2:=by rw[hz];simp
     simp(disch:=((try simp only[nx3]);omega)) [hi,hx,wR,t3]
     rw[←hz]
     refine place_ok d r.pl pz.ob (fun h1=> ?_) (fun h1=> ?_)
     ·by_cases h2:0<r.joins.length
      ·have h2i:(0:Int)<r.joins.length:=by omega
       by_cases h3:r.joins.length≤3
       ·have h3i:(r.joins.length:Int)≤3:=by omega
        simp(disch:=((try simp only[nx3]);omega)) [oz,h2i,h3i]
        refine zbY ?_
        simp(disch:=((try simp only[nx3]);omega)) [oz]
        refine .for (σ:=VM×List Int) c_i_29.eq_1 (fun i _=>[(96,I i)]) (fun z=>z.1) (fun a y=>DfE M d y.1∧z.next<y.1.next∧y.1.obj U0=some (.map (zfd y.2))∧(y.2.Nodup∧ ∀x,x∈y.2↔x∈js++r.joins.take a)∧y.1.obj z.next=some (.rows false 3 [[I r.pl,.lst 1 (r.joins.map fun n=>[I n]),I r.node]])∧ ∀b (hb:b<r.joins.length),b<a→(∃c:Nat,r.joins[b]=(c:Int)∧ ∃h:c<d.chs.length,d.chs[c].pl=r.pl)∧r.joins[b]∉r.joins.take b) r.joins.length (z1,l) (by simp) rfl ⟨pz,by dsimp only;omega,uz,by simpa using p4,oz,fun b _ h=>absurd h (Nat.not_lt_zero _)⟩ (fun a y ha hQ again2=> ?_) (fun y hQ=> ?_)
        ·obtain⟨y,l2⟩:=y
         obtain⟨w1,w2,w3,w4,w5,w6⟩:=hQ
         dsimp only at*
         rw[List.take_succ_eq_append_getElem ha,←List.append_assoc] at again2
         have hpj: ¬((∃c:Nat,r.joins[a]=(c:Int)∧ ∃h:c<d.chs.length,d.chs[c].pl=r.pl)∧r.joins[a]∉r.joins.take a)→kp ziR y:=fun h=>hp (fun hh=>h (hh.2.2.2 a ha)) y w1
         have goodj:((∃c:Nat,r.joins[a]=(c:Int)∧ ∃h:c<d.chs.length,d.chs[c].pl=r.pl)∧r.joins[a]∉r.joins.take a)→ ∀b (hb:b<r.joins.length),b<a+1→(∃c:Nat,r.joins[b]=(c:Int)∧ ∃h:c<d.chs.length,d.chs[c].pl=r.pl)∧r.joins[b]∉r.joins.take b:=fun h b hb hba=>by
          by_cases e:b=a
          ·subst e;exact h
          ·exact w6 b hb (by omega)
         clear again
         have wo:=w1.ob
         generalize hv:r.joins[a]=v at*
         by_cases b1:0≤v
         ·obtain⟨c,rfl⟩: ∃c:Nat,v=(c:Int):=⟨v.toNat,by omega⟩
          by_cases b2:c<d.chs.length
          ·by_cases b3:d.chs[c].pl=r.pl
           ·have b3t:=eq_true b3
            have hale:a≤r.joins.length:=by omega
            have htk:(r.joins.map fun n=>[I n]).take a=(r.joins.take a).map fun n=>[I n]:=List.map_take.symm
            simp(disch:=((try simp only[nx3]);omega)) [ha,hv,wo,w5,b2,eChn,b3t,hale]
            rw[htk]
            refine zkY (r.joins.take a) c (by rw[List.length_take];omega) ?_
            by_cases b4:(c:Int)∈r.joins.take a
            ·have hpj:=hpj (fun hh=>hh.2 b4)
             clear again2
             rw[decide_eq_true b4]
             simp(disch:=((try simp only[nx3]);omega))
             refine zB (DP.of (zdh ?_) ?_)
             ·simp(disch:=((try simp only[nx3]);omega))
             ·simp(disch:=((try simp only[nx3]);omega))
              exact hpj
            ·have goodj:=goodj ⟨⟨c,rfl,b2,b3⟩,b4⟩
             have hup:=upd_D (n:=(c:Int)) w3
             have again2:=again2 (y.put U0 (.map (zfd (insL l2 c))),insL l2 c) ⟨w1.put hU1 _,by simp;omega,by simp,⟨insL_nodup w4.1 _,fun x=>by rw[insL_mem,w4.2,List.mem_append (t:=[(c:Int)]),List.mem_singleton]⟩,by dsimp only;rw[zj,if_neg (by omega)];exact w5,goodj⟩
             rw[decide_eq_false b4]
             simp at again2
             simp(disch:=((try simp only[nx3]);omega))
             refine zbY ?_
             simp(disch:=((try simp only[nx3]);omega)) [hup]
             exact again2
           ·have hpj:=hpj (by rintro⟨⟨c',hc,_,h3⟩,_⟩;have:c'=c:=by omega
                              subst this;exact b3 h3)
            clear again2
            simp(disch:=((try simp only[nx3]);omega)) [ha,hv,wo,w5,b2,eChn,b3]
            refine zB (DP.of (zdh ?_) ?_)
            ·simp(disch:=((try simp only[nx3]);omega))
            ·simp(disch:=((try simp only[nx3]);omega))
             exact hpj
          ·have hpj:=hpj (by rintro⟨⟨c',hc,h2,h3⟩,_⟩;omega)
           clear again2
           simp(disch:=((try simp only[nx3]);omega)) [ha,hv,wo,w5,b2]
           refine zB (DP.of (zdh ?_) ?_)
           ·simp(disch:=((try simp only[nx3]);omega))
           ·simp(disch:=((try simp only[nx3]);omega))
            exact hpj
         ·have hpj:=hpj (by rintro⟨⟨c,hc,_⟩,_⟩;omega)
          clear again2
          simp(disch:=((try simp only[nx3]);omega)) [ha,hv,wo,w5,b1]
          refine zB (DP.of (zdh ?_) ?_)
          ·simp(disch:=((try simp only[nx3]);omega))
          ·simp(disch:=((try simp only[nx3]);omega))
           exact hpj
        ·obtain⟨y,l2⟩:=y
         obtain⟨w1,w2,w3,w4,w5,w6⟩:=hQ
         dsimp only at*
         rw[List.take_length] at w4
         have again:=again ⟨h1,by omega,by omega,fun b hb=>w6 b hb hb⟩ y l2 w1 (by omega) w3 (by simpa using w4)
         simp at again
         simp(disch:=((try simp only[nx3]);omega)) [w5]
         exact again
       ·have hp:=hp (fun hh=>h3 hh.2.2.1) z1 pz
        have h3i: ¬(r.joins.length:Int)≤3:=by omega
        clear again
        simp(disch:=((try simp only[nx3]);omega)) [oz,h2i,h3i]
        refine zB ?_
        simp(disch:=((try simp only[nx3]);omega))
        exact hp
      ·have hp:=hp (fun hh=>h2 hh.2.1) z1 pz
       have h2i: ¬(0:Int)<r.joins.length:=by omega
       clear again
       simp(disch:=((try simp only[nx3]);omega)) [oz,h2i]
       refine zB ?_
       simp(disch:=((try simp only[nx3]);omega))
       exact hp
     ·have hp:=hp (fun hh=>h1 hh.1) z1 pz
      clear again
      simp(disch:=((try simp only[nx3]);omega))
      exact hp
    ·obtain⟨z,l⟩:=z
     obtain⟨p1,p2,p3,⟨p4,p4'⟩,p5⟩:=hP
     dsimp only at*
     rw[List.take_length] at p4' p5
     have hlen:(zfd l).length=l.length:=by simp[zfd]
     have hob:=p1.ob
     have hin: ∀x∈l,0≤x∧x<d.chs.length:=fun x hx=>by
      obtain⟨r,hr,hc⟩:=List.mem_flatMap.1 ((p4' x).1 hx)
      obtain⟨i,hi,rfl⟩:=List.getElem_of_mem hc
      obtain⟨⟨c,e,h,_⟩,_⟩:=(p5 r hr).2.2.2 i hi
      omega
     have hall:=len_all p4 hin
     by_cases hq:l.length=d.chs.length
     ·have hk:=hk ⟨l1,l2,l3,hP1,fun i hi=>hP2 i hi hi,p5,fun c hc=>by
       have:=(p4' c).1 (hall.1 hq c hc)
       exact List.mem_flatMap.1 this⟩
      have hqi:=eq_true hq
      simp(disch:=((try simp only[nx3]);omega)) [p3,hob,hlen,hqi]
      refine zbY ?_
      simp(disch:=((try simp only[nx3]);omega))
      exact Back.plain (by simp) p1.sm hk
     ·have hp:=hp (fun hh=>hq (hall.2 fun c hc=>by
       obtain⟨r,hr,h⟩:=hh.all c hc
       exact(p4' c).2 (List.mem_flatMap.2 ⟨r,hr,h⟩))) z p1
      have hqi: ¬(l.length:Int)=d.chs.length:=by omega
      simp(disch:=((try simp only[nx3]);omega)) [p3,hob,hlen,hqi]
      refine zB ?_
      simp(disch:=((try simp only[nx3]);omega))
      exact hp
   ·have hp:=hp fun hh=>l3 hh.l3
    have l3i: ¬(d.rls.length:Int)≤30:=by omega
    simp(disch:=((try simp only[nx3]);omega)) [eDfn,l1i,l2i,l3i]
    refine zB ?_
    have hp:=hp _ (zq (z7 _ _) (Nat.le_refl _):SM M.next M (M.new (.rows false 3 [[.lst 2 (d.chs.map eChn),.lst 2 (d.sps.map eSpt),.lst 3 (d.rls.map eRul)]]))) (by simp)
    simp(disch:=((try simp only[nx3]);omega))
    exact hp
  ·have hp:=hp fun hh=>l2 hh.l2
   have l2i: ¬(d.sps.length:Int)≤30:=by omega
   simp(disch:=((try simp only[nx3]);omega)) [eDfn,l1i,l2i]
   refine zB ?_
   have hp:=hp _ (zq (z7 _ _) (Nat.le_refl _):SM M.next M (M.new (.rows false 3 [[.lst 2 (d.chs.map eChn),.lst 2 (d.sps.map eSpt),.lst 3 (d.rls.map eRul)]]))) (by simp)
   simp(disch:=((try simp only[nx3]);omega))
   exact hp
 ·have hp:=hp fun hh=>l1 hh.l1
  have l1i: ¬(d.chs.length:Int)≤30:=by omega
  simp(disch:=((try simp only[nx3]);omega)) [eDfn,l1i]
  refine zB ?_
  have hp:=hp _ (zq (z7 _ _) (Nat.le_refl _):SM M.next M (M.new (.rows false 3 [[.lst 2 (d.chs.map eChn),.lst 2 (d.sps.map eSpt),.lst 3 (d.rls.map eRul)]]))) (by simp)
  simp(disch:=((try simp only[nx3]);omega))
  exact hp
end Go.Ideal.S
namespace Go.Ideal.S
open Go Go.Ideal Q Classical
attribute [local simp] decide_eq_true decide_eq_false zbD
variable {M M':VM} {k kp:DV→VM→Prop} {n0 j:Nat} {p:Pg} {f:Nat} {B:Base} {L0 oS oO oU:Nat} {y y':VM} {st:Vs}
def lkD (p:Pg) (oS oO oU:Nat):MO:=.rows false 7 [[.lst 1 (p.free.map eS),.lst 4 (p.nodes.map eNd),.lst 3 (p.defs.map eDfn),I p.main,.ms oS 0 p.nodes.length p.nodes.length,.ms oO 0 p.nodes.length p.nodes.length,.ms oU 0 p.defs.length p.defs.length]]
def Kp (B:Base) (y:VM):Prop:=(∀i,B.fr i→y.get i=B.m.get i)∧ ∀i,B.fr i→i<y.next
structure LkP (p:Pg) (B:Base) (L0 oS oO oU:Nat) (y:VM) (st:Vs):Prop where
 kp:Kp B y
 fl:B.fr L0
 oj:y.obj L0=some (lkD p oS oO oU)
 nl: ¬B.fr oS∧ ¬B.fr oO∧ ¬B.fr oU
 df:oS≠oO∧oS≠oU∧oO≠oU
 lt:oS<y.next∧oO<y.next∧oU<y.next
 os:y.obj oS=some (.rows false 1 (st.sz.map fun n=>[I n]))
 oo:y.obj oO=some (.rows false 1 (st.met.map eBl))
 ou:y.obj oU=some (.rows false 1 (st.df.map eBl))
 ln:Lens p st
theorem LkP.keep (h:LkP p B L0 oS oO oU y st) (hn:y.next≤y'.next) (hk: ∀i,i<y.next→y'.get i=y.get i):LkP p B L0 oS oO oU y' st:=by
 obtain⟨l2,l3,l4⟩:=h.lt
 obtain⟨h1,h2⟩:=h.kp
 have ob: ∀{i:Nat} {o:MO},i<y.next→y.obj i=some o→y'.obj i=some o:=fun hi ho=>by
  show(VM.get _ _).map _=_
  rw[hk _ hi];exact ho
 exact⟨⟨fun i hi=>(hk i (h2 i hi)).trans (h1 i hi),fun i hi=>by have:=h2 i hi;omega⟩,h.fl,ob (h2 _ h.fl) h.oj,h.nl,h.df,⟨by omega,by omega,by omega⟩,ob l2 h.os,ob l3 h.oo,ob l4 h.ou,h.ln⟩
theorem LkP.put1 (h:LkP p B L0 oS oO oU y st) {q:Nat} (hq: ¬B.fr q) (o:MO):Kp B (y.put q o)∧(y.put q o).obj L0=some (lkD p oS oO oU):=by
 obtain⟨h1,h2⟩:=h.kp
 have hne: ∀i,B.fr i→i≠q:=fun i hi e=>hq (by rw[←e];exact hi)
 exact⟨⟨fun i hi=>by rw[get_put,if_neg (hne i hi)];exact h1 i hi,fun i hi=>by have:=h2 i hi;simp;omega⟩,by rw[zj,if_neg (hne _ h.fl)];exact h.oj⟩
theorem LkP.met (h:LkP p B L0 oS oO oU y st) (n:Nat):LkP p B L0 oS oO oU (y.put oO (.rows false 1 ((st.met.set n true).map eBl))) ⟨st.met.set n true,st.sz,st.df⟩:=by
 obtain⟨l2,l3,l4⟩:=h.lt
 obtain⟨d4,d5,d6⟩:=h.df
 obtain⟨a,b⟩:=h.put1 h.nl.2.1 (.rows false 1 ((st.met.set n true).map eBl))
 exact⟨a,h.fl,b,h.nl,h.df,by simp;omega,by rw[zj,if_neg d4];exact h.os,by simp,by rw[zj,if_neg (fun e=>d6 e.symm)];exact h.ou,⟨by show(List.set _ _ _).length=_;rw[List.length_set];exact h.ln.m,h.ln.s,h.ln.d⟩⟩
theorem LkP.size (h:LkP p B L0 oS oO oU y st) (n:Nat) (v:Int):LkP p B L0 oS oO oU (y.put oS (.rows false 1 ((st.sz.set n v).map fun n=>[I n]))) ⟨st.met,st.sz.set n v,st.df⟩:=by
 obtain⟨l2,l3,l4⟩:=h.lt
 obtain⟨d4,d5,d6⟩:=h.df
 obtain⟨a,b⟩:=h.put1 h.nl.1 (.rows false 1 ((st.sz.set n v).map fun n=>[I n]))
 exact⟨a,h.fl,b,h.nl,h.df,by simp;omega,by simp,by rw[zj,if_neg (fun e=>d4 e.symm)];exact h.oo,by rw[zj,if_neg (fun e=>d5 e.symm)];exact h.ou,⟨h.ln.m,by show(List.set _ _ _).length=_;rw[List.length_set];exact h.ln.s,h.ln.d⟩⟩
theorem LkP.defs (h:LkP p B L0 oS oO oU y st) (n:Nat):LkP p B L0 oS oO oU (y.put oU (.rows false 1 ((st.df.set n true).map eBl))) ⟨st.met,st.sz,st.df.set n true⟩:=by
 obtain⟨l2,l3,l4⟩:=h.lt
 obtain⟨d4,d5,d6⟩:=h.df
 obtain⟨a,b⟩:=h.put1 h.nl.2.2 (.rows false 1 ((st.df.set n true).map eBl))
 exact⟨a,h.fl,b,h.nl,h.df,by simp;omega,by rw[zj,if_neg d5];exact h.os,by rw[zj,if_neg d6];exact h.oo,by simp,⟨h.ln.m,h.ln.s,by show(List.set _ _ _).length=_;rw[List.length_set];exact h.ln.d⟩⟩
theorem LkP.box (h:LkP p B L0 oS oO oU y st) (o o2:MO):LkP p B L0 oS oO oU ((y.new o).put y.next o2) st:=h.keep (by simp;omega) fun i hi=>by rw[get_put,if_neg (by omega),get_new,if_neg (by omega)]
theorem LkP.obj (h:LkP p B L0 oS oO oU y st) {i:Nat} (hi:B.fr i):y.obj i=B.m.obj i:=by
 show(y.get i).map _=(B.m.get i).map _
 rw[h.kp.1 i hi]
theorem Kp.frame (h:Kp B y) (hs:SM y.next y y') (hn:y.next≤y'.next):Kp B y':=⟨fun i hi=>(hs i (h.2 i hi)).trans (h.1 i hi),fun i hi=>Nat.lt_of_lt_of_le (h.2 i hi) hn⟩
abbrev zik (y:VM) (oS oO oU:Nat):Base:=⟨y,fun i=>i<y.next∧i≠oS∧i≠oO∧i≠oU⟩
theorem LkP.more (h:LkP p B L0 oS oO oU y st):LkP p (zik y oS oO oU) L0 oS oO oU y st:=
 ⟨⟨fun _ _=>rfl,fun i hi=>hi.1⟩,⟨h.kp.2 _ h.fl,fun e=>h.nl.1 (by rw[←e];exact h.fl),fun e=>h.nl.2.1 (by rw[←e];exact h.fl),fun e=>h.nl.2.2 (by rw[←e];exact h.fl)⟩,h.oj,⟨fun hh=>hh.2.1 rfl,fun hh=>hh.2.2.1 rfl,fun hh=>hh.2.2.2 rfl⟩,h.df,h.lt,h.os,h.oo,h.ou,h.ln⟩
theorem LkP.less (h:LkP p B L0 oS oO oU y st) {z:VM} (hz:Kp (zik y oS oO oU) z):Kp B z:=by
 have hf: ∀i,B.fr i→(zik y oS oO oU).fr i:=fun i hi=>⟨h.kp.2 i hi,fun e=>h.nl.1 (by rw[←e];exact hi),fun e=>h.nl.2.1 (by rw[←e];exact hi),fun e=>h.nl.2.2 (by rw[←e];exact hi)⟩
 exact⟨fun i hi=>(hz.1 i (hf i hi)).trans (h.kp.1 i hi),fun i hi=>hz.2 i (hf i hi)⟩
theorem LkP.back (h:LkP p B L0 oS oO oU y st) {z:VM} {s:Vs} (hz:LkP p (zik y oS oO oU) L0 oS oO oU z s):LkP p B L0 oS oO oU z s:=
 ⟨h.less hz.kp,h.fl,hz.oj,h.nl,hz.df,hz.lt,hz.os,hz.oo,hz.ou,hz.ln⟩
def NodeP (p:Pg) (f:Nat):Prop:= ∀{B:Base} {L0 oS oO oU:Nat} {M:VM} {k kp:DV→VM→Prop} (st:Vs) (n size:Int),zc5 st<f→0≤size→size+100*zc5 st≤10000→LkP p B L0 oS oO oU M st→(∀M' st',LkP p B L0 oS oO oU M' st'→zfc p f st n size=some st'→k (.tup []) M')→(∀M',Kp B M'→zfc p f st n size=none→kp ziR M')→zg F (.fn n_a [] []) [.ptr L0 0 0,I n,I size] M k kp
end Go.Ideal.S
