/- A part of the proof: the ideal machine, and what the functions of the program answer over it. -/
import Derived.Laws.IdiomStrings
import Derived.OrdersIn
import Derived.LoopNIn
import Derived.Test.YtffbioplncclkaaGreatA
set_option linter.unusedSimpArgs false
set_option linter.unusedVariables false
set_option linter.unusedSectionVars false
open Nat renaming le_refl→qd,eq_of_beq_eq_true→qi,beq→qE,le_of_ble_eq_true→qM,lt_of_lt_of_le→qO,testBit_or→qbb,sub_self→qbc,zero_le→qbj,le_trans→qbn,testBit_two_pow→qbA,ble→qbB,beq_refl→qbK,ble_eq→qb9
open List renaming getElem?_eq_getElem→qe,getElem?_eq_some_iff→qf,getElem?_append_left→qj,mem_filter→qk,getElem?_append_right→ql,getD_eq_getElem?_getD→qp,countP_eq_length_filter→qA,all_eq_true→qG,length_append→qH,take_succ_cons→qJ,length_take→qK,getElem?_take→qN,getElem?_eq_none→qP,mem_iff_getElem?→qQ,mem_of_getElem?→qR,mem_range→qS,getElem?_map→qT,filter_cons_of_pos→qX,getElem?_drop→qY,countP→qba,mem_zipIdx_iff_getElem?→qbd,length_cons→qbg,mem_cons→qbi,foldl_cons→qbk,mem_cons_self→qbm,filter_append→qbo,filter_cons_of_neg→qbq,length_eq_zero_iff→qbr,reverse_cons→qbs,take_append_drop→qbu,range→qbv,countP_map→qbx,take_append_of_le_length→qby,take_zero→qbC,map_take→qbE,ext_getElem?→qbF,flatMap_cons→qbG,exists_mem_of_ne_nil→qbI,pairwise_iff_getElem→qbJ,head?_drop→qbM,nodup_cons→qbN,length_nil→qbO,take_of_length_le→qbQ,getElem_cons_drop→qbR,mapM_cons→qbT,mem_cons_of_mem→qbU,filter_sublist→qbW,drop_sublist→qb1,cons_append→qb3,take_length→qb4,nodup_range→qb5,any_eq_true→qb7
open Option renaming bind_some→qg,map_eq_some_iff→qv,map_some→qB,bind_eq_some_iff→qI,isNone_iff_eq_none→qbH,getD_some→qb6
open Array renaming getElem?_eq_some_iff→qh,getElem?_eq_getElem→qn,getD_eq_getD_getElem?→qu,getElem?_toList→qL,toList_inj→qU,getElem?_replicate→qW,replicate→qZ,getElem?_setIfInBounds→qbe,getElem?_append_left→qbh,all_eq_true_iff_forall_mem→qbt,empty_append→qbY
open Bool renaming and_eq_true→qm,false_eq_true→qx,or_eq_true→qbw,not_true→qbV,not_eq_true'→qbZ,eq_false_iff→qb0
open Go.Result renaming andThen_ok→qo
open Option.some renaming injEq→qq,inj→qy
open Go.Sem renaming run_bind→qr,run_pure→qF
open Go.Region renaming binds→qt,ready→qV
open Go renaming run_underlying→qw,run_convert_bytes_string→qbl,run_loadCells_list→qbD,step_lone_go→qbL,wpIn_region_any→qbP,fenced_calm→qbS,run_typeInfo→qbX
open Prod.mk renaming injEq→qC
open Classical renaming byContradiction→qD,not_not→qb2
open Go.Instr renaming typeAssert→qbf,makeInterface→qbz,enterLoop→qb8
open Go.Fence renaming wide→qbp
namespace Go.Ideal
section
variable {P:Program}
inductive Cl where
 |pure|alloc|eff|call
def zQ:COp→Cl
 |.alloc _=>.alloc
 |.box _=>.alloc
 |.buildSlice .. =>.alloc
 |.makeMap=>.alloc
 |.makeSlice .. =>.alloc
 |.store .. =>.eff
 |.mapUpdate .. =>.eff
 |.blt (.append _ _) _=>.eff
 |.blt (.clear _) _=>.eff
 |.blt (.copy _) _=>.eff
 |.s2b _=>.eff
 |.call .. =>.call
 |.invoke .. =>.call
 |_=>.pure
section
variable {ρ:Rho} {h h':H} {w:World} {s:zb} {a:Act} {v:Value}
theorem Sim.of_sem {sem:Sem Value} {v':Value} {w':World} {σ:Rho} (h1:sem.run P w=.ok v' w') (h2:VR σ v v') (h3:HR P σ h' w') (h4:Ext ρ w σ w'):Sim P ρ w ((do pure (Next.value (←sem)):Sem Next).run P w) v h':=
 ⟨.value v',v',w',σ,by simp[h1],.inl rfl,h2,h3,h4⟩
def ClSim (P:Program) (ρ:Rho) (h:H) (w:World) (r:Result Next) (v:Value) (h':H):Cl→Prop
 |.pure=>h'=h∧SimP P ρ w r v
 |.alloc=> ∃(f:Nat→Value) (io:IObj),v=f h.next∧h'=h.new io∧ ∀i,ρ i=none→SimA P ρ w r i (f i) io
 |.eff=>Sim P ρ w r v h'
 |.call=>True
theorem s_clear (hr:HR P ρ h w) {ts:Array TypeId} {t e:TypeId} {z:List Value} (hts:ts[0]? =some t) (hu:P.underlying t=some (.slice e)) (hz:zbt P e=some z) (hz0:z.length≠0) {vs:List Value} {args:Array Value} (hargs:VRL ρ vs args.toList) (hv:bltV h (.clear z) vs=some (v,h')) (type:TypeId) (cs:Array Bool):
 Sim P ρ w ((builtin .clear ts type cs args).run P w) v h':=by
 cases vs with
 |nil=>simp[bltV] at hv
 |cons x l=>cases l with
  |cons y l=>cases x<;>simp[bltV] at hv
  |nil=>
   obtain⟨y,ys,hys,h1,h2⟩:=hargs.cons_left;have hy:args[0]? =some y:=by rw[←qL,hys];rfl
   cases x with
   |slice b n c=>
    cases b with
    |none=>
     simp only[bltV,qq,qC] at hv;obtain⟨rfl,rfl⟩:=hv;cases h1;exact⟨.value (.tuple #[]),.tuple #[],w,ρ,by simp[builtin,Builtin.clear_,hts,hy,qw hu],.inl rfl,VR.tuple_of (VRL.nil ρ),hr,.refl _ _⟩
    |some ad=>
     simp only[bltV] at hv
     split at hv
     ·rename_i hn;obtain rfl:n=0:=qi hn;cases hv;obtain⟨b',c',rfl,hb⟩:=h1.inv_slice;exact⟨.value (.tuple #[]),.tuple #[],w,ρ,by cases b'<;>simp[builtin,Builtin.clear_,hts,hy,qw hu],.inl rfl,VR.tuple_of (VRL.nil ρ),hr,.refl _ _⟩
     ·rename_i hn;have hn0:n≠0:=by intro e;subst e;exact hn rfl
      obtain⟨g,hg,e0⟩:=amf hv;cases e0;obtain⟨R,c',hR,rfl⟩:=h1.inv_slice_some hn0;obtain⟨⟨zv,hzv,hzr⟩,hzc⟩:=zcm hz;have hvz:VRL ρ z zv.cells.toList:=by rw[hzv];exact VRL.refl1 hzc
      have hl:z.length=zv.cells.size:=by have:=hvz.1;simpa using this
      have hrel:VRL ρ (zbl z n) (Builtin.zeroCells zv.cells n).toList:=zjl hvz n _ (by rw[hl]);have hne:zbl z n≠[]:=by
       intro e;have:=congrArg List.length e;rw[zb8] at this;have h2:0<n*z.length:=Nat.mul_pos (by omega) (by omega);simp at this;omega
      obtain⟨w',hst,g1,g2⟩:=zfm (P:=P) hr hR hrel hne hg;obtain⟨m,rfl⟩: ∃m,n=m+1:=⟨n - 1,by omega⟩;exact⟨.value (.tuple #[]),.tuple #[],w',ρ,by simp[builtin,Builtin.clear_,hts,hy,qw hu,hzr,hst],.inl rfl,VR.tuple_of (VRL.nil ρ),g1,g2⟩
   |_=>simp[bltV] at hv
theorem s_copy (hr:HR P ρ h w) {ts:Array TypeId} {t e:TypeId} {sz:Nat} (hts:ts[0]? =some t) (hu:P.underlying t=some (.slice e)) (hsz:zL P e=some sz) (hz0:sz≠0) {vs:List Value} {args:Array Value} (hargs:VRL ρ vs args.toList) (hv:bltV h (.copy sz) vs=some (v,h')) (type:TypeId) (cs:Array Bool):
 Sim P ρ w ((builtin .copy ts type cs args).run P w) v h':=by
 cases vs with
 |nil=>simp[bltV] at hv
 |cons x l=>cases l with
  |nil=>cases x<;>simp[bltV] at hv
  |cons x2 l=>cases l with
   |cons x3 l=>cases x<;>cases x2<;>simp[bltV] at hv
   |nil=>
    obtain⟨y,ys,hys,h1,h2⟩:=hargs.cons_left;obtain⟨y2,ys2,hys2,h3,h4⟩:=h2.cons_left;have hy:args[0]? =some y:=by rw[←qL,hys];rfl
    have hy2:args[1]? =some y2:=by rw[←qL,hys,hys2];rfl
    cases x with
    |slice b n c=>
     cases b with
     |none=>simp[bltV] at hv
     |some ad=>
      cases x2 with
      |slice b2 m c2=>
       have hv:copyV sz h ad (zhn m n) b2=some (v,h'):=hv;have hk:zhn m n=Nat.min m n:=by
        unfold zhn;cases e:qbB m n with
        |true=>have:=qM e;simp[Nat.min_def,this]
        |false=>have: ¬m≤n:=by intro h;rw[Nat.ble_eq_true_of_le h] at e;cases e
                simp[Nat.min_def,this]
       generalize zhn m n=k at hk hv;obtain⟨b',c',rfl,hb⟩:=h1.inv_slice;obtain⟨b2',c2',rfl,hb2⟩:=h3.inv_slice;obtain⟨ad',rfl⟩:=zhX hb;by_cases hk0:k=0
       ·have hv0:v=.int .i64 (0:Nat)∧h'=h:=by
         unfold copyV at hv
         split at hv
         ·rw[if_pos (by rw[hk0];rfl)] at hv;cases hv;exact⟨rfl,rfl⟩
         ·rw[if_pos (by rw[hk0];rfl)] at hv;cases hv;exact⟨rfl,rfl⟩
        obtain⟨rfl,rfl⟩:=hv0;have hm:Nat.min m n=0:=by omega
        refine⟨.value (.int .i64 (0:Nat)),.int .i64 (0:Nat),w,ρ,?_,.inl rfl,.int _ _,hr,.refl _ _⟩;cases b2' with
        |none=>simp[builtin,Builtin.copy_,Builtin.lenOf,Builtin.firstCells,hts,hy,hy2,qw hu,zI hsz,hm,storeCells,goInt]
        |some a2=>
         have hl:(loadCells a2 0).run P w=.ok #[] w:=qbD (P:=P) w a2 [] (by simp);simp[builtin,Builtin.copy_,Builtin.lenOf,Builtin.firstCells,hts,hy,hy2,qw hu,zI hsz,hm,storeCells,goInt,hl]
       ·unfold copyV at hv
        split at hv
        ·rename_i a2;rw[if_neg (by simpa using hk0)] at hv;obtain⟨l,hl,hv⟩:=aof hv;obtain⟨g,hg,e0⟩:=amf hv;cases e0;have hm0:m≠0:=by intro e;subst e;simp at hk;exact hk0 hk
         have hn0:n≠0:=by intro e;subst e;simp at hk;exact hk0 hk
         obtain⟨R,c3,hR,e1⟩:=h1.inv_slice_some hn0;obtain⟨R2,c4,hR2,e2⟩:=h3.inv_slice_some hm0;cases e1;cases e2;obtain⟨hnn,l',hv',hcc⟩:=zcG (P:=P) hr hR2 hl;have en:k*sz=l'.length:=by rw[←hnn];exact hv'.1
         have hrun:=qbD (P:=P) w _ l' hcc;rw[←en,hk] at hrun;have hne:l≠[]:=by
          intro e;rw[e] at hnn;have:0<k*sz:=Nat.mul_pos (by omega) (by omega);simp at hnn;omega
         obtain⟨w',hst,g1,g2⟩:=zfm (P:=P) hr hR hv' hne hg;refine⟨.value (.int .i64 k),.int .i64 k,w',ρ,?_,.inl rfl,.int _ _,g1,g2⟩;rw[hk];simp[builtin,Builtin.copy_,Builtin.lenOf,Builtin.firstCells,hts,hy,hy2,qw hu,zI hsz,hrun,hst,goInt]
        ·rw[if_neg (by simpa using hk0)] at hv;cases hv
      |_=>simp[bltV] at hv
    |_=>simp[bltV] at hv
theorem s_strIdx (hs:SR ρ s a.tmps) {x y:Operand} {c d:CO} (hc:co x=some c) (hd:co y=some d) {t:TypeId} (h1:P.underlying t=some .string) (hv:zgP c d s h=some (v,h')):
 h'=h∧SimP P ρ w ((do pure (Next.value (←Instr.index t (a.eval x) (a.eval y))):Sem Next).run P w) v:=by
 obtain⟨u,hu,hv⟩:=aof hv;obtain⟨i,hi,hv⟩:=aof hv;obtain⟨r,hr,e⟩:=amf hv;cases e;have rx:=zbb hc hs hu;have ri:=zbb hd hs hi;unfold strIdxV at hr
 split at hr
 ·rename_i sv k j _;obtain⟨b,hb,rfl⟩:=amf hr;rw[rx.inv_str,ri.inv_int];have hsz:j<sv.size:=by have:=(List.getElem?_eq_some_iff.1 hb).1;simpa using this
  have hget:sv[j]? =some b:=by
   rw[getElem?_pos sv j hsz];rw[←hb];show some (sv.data[j])=_;rw[qL,qn]
  refine⟨rfl,zq (v':=.int .u8 b.toNat) ?_ (.int _ _)⟩;simp[Instr.index,asIntOf,qw h1,hget]
 ·cases hr
theorem run_part {t:TypeId} {n:Option Nat} (h:zdA P t=some n) {cs:List Value} {off:Nat} {v:Value} (hv:partV off cs n=some v) (w:World):(part t ⟨cs⟩ off).run P w=.ok v w:=by
 cases n with
 |some n=>
  obtain⟨h1,h2⟩:=ziM h;obtain⟨l,hl,rfl⟩:=amf hv;rw[zb5,zdG] at hl
  split at hl
  ·cases hl;simp only[part,qr,h1 w,h2 w,qo,if_true,qF];simp
  ·cases hl
 |none=>
  have h1:=ziN h w;have hv:(zcW off cs).head? =some v:=hv;rw[zb5,qbM] at hv;have hx:(⟨cs⟩:Array Value)[off]? =some v:=by simpa using hv
  simp only[part,qr,h1,qo,qx,if_false,hx,qF]
theorem s_fld (hs:SR ρ s a.tmps) {x:Operand} {c:CO} (hc:co x=some c) {t:TypeId} {fs:Array Field} {i:Nat} {f:Field} {n:Option Nat} (h1:P.underlying t=some (.struct fs)) (h2:fs[i]? =some f) (h3:zdA P f.type=some n) (hv:bFld f.offset n c s h=some (v,h')):
 h'=h∧SimP P ρ w ((do pure (Next.value (←Instr.field t (a.eval x) i)):Sem Next).run P w) v:=by
 obtain⟨u,hu,hv⟩:=aof hv;obtain⟨r,hr,e⟩:=amf hv;cases e;have rx:=zbb hc hs hu;unfold fldV at hr
 split at hr
 ·rename_i cs;obtain⟨cs',ecs,hl⟩: ∃cs',a.eval x=.agg ⟨cs'⟩∧VRL ρ cs.toList cs':=by
   generalize a.eval x=y at rx;cases rx with
   | @agg _ a' ha ra=>exact⟨a'.toList,rfl,by simpa using ha,fun j x y hx hy=>ra j x y (by simpa using hx) (by simpa using hy)⟩
  have hlen:cs.toList.length=cs'.length:=hl.1;have key: ∃v',partV f.offset cs' n=some v'∧VR ρ v v':=by
   cases n with
   |some n=>
    obtain⟨l,hl1,rfl⟩:=amf (show(zeH n (zcW f.offset cs.toList)).map _=some v from hr);rw[zb5,zdG] at hl1
    split at hl1
    ·rename_i hle;cases hl1;refine⟨.agg ⟨(cs'.drop f.offset).take n⟩,?_,VR.agg_of ⟨?_,fun j x y hx hy=> ?_⟩⟩
     ·show(zeH n (zcW f.offset cs')).map _=_;rw[zb5,zdG,if_pos (by rw[List.length_drop] at hle⊢;omega)];rfl
     ·simp[hlen]
     ·rw[List.getElem?_take] at hx hy
      split at hx
      ·rename_i hj;rw[if_pos hj] at hy;rw[qY] at hx hy;exact hl.2 _ x y hx hy
      ·cases hx
    ·cases hl1
   |none=>
    have hr:(zcW f.offset cs.toList).head? =some v:=hr;rw[zb5,qbM] at hr;have hlt:f.offset<cs'.length:=by have:=(qf.1 hr).1;omega
    refine⟨cs'[f.offset],?_,hl.2 _ v _ hr (qe hlt)⟩;show(zcW f.offset cs').head? =_;rw[zb5,qbM];exact qe hlt
  obtain⟨v',hv',hrel⟩:=key;refine⟨rfl,zq (v':=v') ?_ hrel⟩;rw[ecs];simp only[Instr.field,qr,qw h1,qo,h2,asAgg,qF,run_part h3 hv']
 ·cases hr
theorem s_mkI (hs:SR ρ s a.tmps) {x:Operand} {c:CO} (hc:co x=some c) {t:TypeId} {u:TypeDesc} (h1:P.underlying t=some u) (h2: ∀ms,u≠ .interface ms) (hv:bMkI t c s h=some (v,h')):
 h'=h∧SimP P ρ w ((do pure (Next.value (←qbz t (a.eval x))):Sem Next).run P w) v:=by
 obtain⟨y,hy,e⟩:=amf hv;cases e;refine⟨rfl,zq (v':=.iface t (a.eval x)) ?_ (.iface t (zbb hc hs hy))⟩;have:(qbz t (a.eval x)).run P w=.ok (.iface t (a.eval x)) w:=by
  unfold qbz;simp only[qr,qw h1,qo];cases u<;>first|rfl|exact absurd rfl (h2 _)
 simp[this]
theorem s_assertT (hs:SR ρ s a.tmps) {x:Operand} {c:CO} (hc:co x=some c) {xt d:TypeId} {u:TypeDesc} (h1:P.underlying d=some u) (h2: ∀ms,u≠ .interface ms) {z:Value} {ok:Bool}
 (hz:ok=true→ ∃i,P.info? d=some i∧i.zero=some z∧zfR z=true) (hv:ze9 d z ok c s h=some (v,h')):
 h'=h∧SimP P ρ w ((do pure (Next.value (←qbf (a.eval x) xt d ok)):Sem Next).run P w) v:=by
 obtain⟨y,hy,hv⟩:=aof hv;obtain⟨r,hr,e⟩:=amf hv;cases e;have hx:=zbb hc hs hy;refine⟨rfl,?_⟩;generalize a.eval x=y' at hx;have hzero:ok=true→(zeroValue d).run P w=.ok z w∧zfR z=true:=by
  intro e;obtain⟨i,q1,q2,q3⟩:=hz e;exact⟨by simp[zeroValue,qbX _ q1,q2],q3⟩
 unfold zkK at hr
 split at hr
 ·rename_i u0 v0;obtain⟨v',rfl,hv'⟩:=hx.inv_iface;have key:(qbf (.iface u0 v') xt d ok).run P w=(if u0=d then(pure (if ok then .tuple #[v',.bool true] else v'):Sem Value) else if ok then(do pure (.tuple #[←zeroValue d,.bool false])) else runtimePanic (.typeAssertion (some xt) (some u0) d "")).run P w:=by
   unfold qbf;simp only[qr,qw h1,qo]
  cases hb:qE u0 d with
  |true=>
   have e:=qi hb;rw[if_pos e] at key;rw[hb] at hr;cases ok
   ·cases hr;exact zq (v':=v') (by simp[key]) hv'
   ·cases hr;exact zq (v':=.tuple #[v',.bool true]) (by simp[key]) (VR.tuple_of (.cons hv' (.cons (.bool true) (.nil _))))
  |false=>
   have e: ¬u0=d:=fun e=>by rw[e,qbK] at hb;cases hb
   rw[if_neg e] at key;rw[hb] at hr;cases ok
   ·cases hr
   ·cases hr;obtain⟨q1,q2⟩:=hzero rfl;exact zq (v':=.tuple #[z,.bool false]) (by simp[key,q1]) (VR.tuple_of (.cons (VR.refl q2) (.cons (.bool false) (.nil _))))
 ·obtain rfl:=hx.inv_nilIface;cases ok
  ·cases hr
  ·cases hr;obtain⟨q1,q2⟩:=hzero rfl;have key:(qbf .nilIface xt d true).run P w=(do pure (.tuple #[←zeroValue d,.bool false]):Sem Value).run P w:=by
    unfold qbf;simp only[qr,qw h1,qo];cases u
    case interface ms=>exact absurd rfl (h2 ms)
    all_goals simp
   exact zq (v':=.tuple #[z,.bool false]) (by simp[key,q1]) (VR.tuple_of (.cons (VR.refl q2) (.cons (.bool false) (.nil _))))
 ·cases hr
theorem s_s2b (hr:HR P ρ h w) (hs:SR ρ s a.tmps) {x:Operand} {c:CO} (hc:co x=some c) {st d e:TypeId} (h1:P.underlying st=some .string) (h2:P.underlying d=some (.slice e)) (h3:P.underlying e=some (.int .u8)) (hv:bS2b c s h=some (v,h')):
 Sim P ρ w ((do pure (Next.value (←convert st d (a.eval x))):Sem Next).run P w) v h':=by
 obtain⟨u,hu,hv⟩:=aof hv;unfold s2bV at hv
 split at hv
 ·rename_i b;cases hv;rw[(zbb hc hs hu).inv_str];have hrun:=run_bytes_of_string w st d e b h1 h2 h3;generalize hcap:grownCap w b.size 0 e=cap at hrun;have hle:b.size≤cap:=by rw[←hcap];simp[grownCap,Question.cut]
  have hfree:=(hr.nxt _ (qd _)).1;have hrow: ∀(j:Nat) y,(b.data.toList.map zhH)[j]? =some y→(bytesRow b cap)[j]? =some y:=by
   intro j y hj;rw[qT] at hj;obtain⟨z,hz,rfl⟩:=qv.1 hj;have hlt:=(qf.1 hz).1;unfold bytesRow;rw[qbh (by simpa using hlt),Array.getElem?_map,←qL,hz];rfl
  have hsz:(bytesRow b cap).size=cap:=by unfold bytesRow;simp;have:b.size=b.data.size:=rfl;omega
  obtain⟨g1,g2⟩:=hr.drew.newF (R:=⟨w.heap.size,0,(bytesRow b cap).size,roE,b.size,some (.cells (bytesRow b cap) e ((bytesRow b cap).size,(bytesRow b cap).size+1))⟩) (io:=.cells (b.data.toList.map zhH) roE) (o:=.cells (bytesRow b cap) e ((bytesRow b cap).size,(bytesRow b cap).size+1)) rfl
   ⟨rfl,by simp,_,_,_,zV _ _,.inr ⟨rfl,rfl⟩,rfl,by simp[hsz];exact hle,fun j y hj=>⟨y,by rw[Nat.zero_add];exact hrow j y hj,.inr ((bytes_rel _ b).2 j y y hj hj)⟩⟩
  refine Sim.of_sem hrun ?_ g1 ((Ext.drew ρ w).trans g2);have:=VR.sliceR (ρ:=upd ρ h.next ⟨w.heap.size,0,(bytesRow b cap).size,roE,b.size,some (.cells (bytesRow b cap) e ((bytesRow b cap).size,(bytesRow b cap).size+1))⟩) (o:=0) (len:=b.size) (cap:=cap) (zH _ _ _) rfl hle;simpa using this
 ·cases hv
theorem byteOf_some {v:Value} {b:UInt8} (h:zkB v=some b): ∃n:Nat,v=.int .u8 n∧b=UInt8.ofNat n:=by
 unfold zkB at h
 split at h
 ·cases h;exact⟨_,rfl,rfl⟩
 ·cases h
theorem ziJ: ∀{l:List Value} {bs:List UInt8},allO zkB l=some bs→ ∃ns:List Int,l=ns.map (Value.int .u8)∧ns.map (fun n=>UInt8.ofNat n.toNat)=bs
 | [],bs,h=>by cases h;exact⟨[],rfl,rfl⟩
 |v::l,bs,h=>by
  obtain⟨b,hb,h⟩:=aof h;obtain⟨bs',hl,rfl⟩:=amf h;obtain⟨n,rfl,rfl⟩:=byteOf_some hb;obtain⟨ns,rfl,rfl⟩:=ziJ hl;exact⟨(n:Int)::ns,rfl,by simp⟩
theorem zfJ: ∀(ns:List Int) (r:ByteArray),ns.foldl (fun r n=>r.push (UInt8.ofNat n.toNat)) r=⟨r.data++(ns.map fun n=>UInt8.ofNat n.toNat).toArray⟩
 | [],r=>by simp
 |n::ns,r=>by
  rw[qbk,zfJ ns];simp[ByteArray.push]
theorem s_b2s (hr:HR P ρ h w) (hs:SR ρ s a.tmps) {x:Operand} {c:CO} (hc:co x=some c) {st d e:TypeId} (h1:P.underlying st=some (.slice e)) (h2:P.underlying d=some .string) (h3:P.underlying e=some (.int .u8)) (hv:bB2s c s h=some (v,h')):
 h'=h∧SimP P ρ w ((do pure (Next.value (←convert st d (a.eval x))):Sem Next).run P w) v:=by
 obtain⟨u,hu,hv⟩:=aof hv;obtain⟨r,hb,hv⟩:=amf hv;cases hv;refine⟨rfl,?_⟩;have rx:=zbb hc hs hu;generalize a.eval x=y at rx;have emp: ∀(ad:Addr) (cp:Nat),(Conv.bytesToString (.slice (some ad) 0 cp)).run P w=.ok (.string ⟨⟨[]⟩⟩) w:=fun ad cp=>run_bytesToString w ad 0 cp [] rfl;unfold b2sV at hb
 split at hb
 ·cases hb;obtain⟨b',c',rfl,hn⟩:=rx.inv_slice;obtain rfl:=zh8 hn;exact zq (v':=.string ⟨⟨[]⟩⟩) (by simp only[qr,qbl w st d e _ _ _ h1 h3 h2];simp[Conv.bytesToString];rfl) (.str _)
 ·rename_i ad n cp
  split at hb
  ·rename_i hn0;obtain rfl:n=0:=qi hn0;cases hb;obtain⟨b',c',rfl,hb⟩:=rx.inv_slice;obtain⟨a',rfl⟩:=zhX hb;exact zq (v':=.string ⟨⟨[]⟩⟩) (by simp only[qr,qbl w st d e _ _ _ h1 h3 h2,emp]) (.str _)
  ·rename_i hn0;have hn:n≠0:=by intro e;subst e;exact hn0 rfl
   obtain⟨l,hl,hb⟩:=aof hb;obtain⟨bs,hbs,rfl⟩:=amf hb;obtain⟨R,c',hR,rfl⟩:=rx.inv_slice_some hn;obtain⟨hnn,l',hvl,hcc⟩:=zcG (P:=P) hr hR hl;obtain⟨ns,rfl,hns⟩:=ziJ hbs;have el:l'=ns.map (Value.int .u8):=by
    apply qbF;intro j;cases hj:(ns.map (Value.int .u8))[j]? with
    |none=>rw[List.getElem?_eq_none_iff] at hj⊢;rw[←hvl.1];exact hj
    |some y=>
     obtain⟨y',hy,hyv⟩:=hvl.get hj;rw[qT] at hj;obtain⟨m,-,rfl⟩:=qv.1 hj;rw[hyv.inv_int] at hy;exact hy
   subst el;have hrun:=qbD (P:=P) w _ _ hcc;rw[←hvl.1,hnn] at hrun;have:=run_bytesToString (P:=P) w ⟨R.blk,R.base+ad.off,none⟩ n c' ns hrun;rw[zfJ,hns] at this;exact zq (v':=.string ⟨⟨bs⟩⟩) (by simp only[qr,qbl w st d e _ _ _ h1 h3 h2,this];simp) (.str _)
 ·cases hb
theorem op_sim0 {o:Oper} {op:COp} (hc:zbg P o=some op) (hr:HR P ρ h w) (hs:SR ρ s a.tmps) (hv:opV op s h=some (v,h')):
 ClSim P ρ h w ((execOp a.eval o).run P w) v h' (zQ op):=by
 cases ho:o.op<;>simp only[zbg,ho,reduceCtorEq] at hc
 case move x=>obtain⟨c,h1,rfl⟩:=amf hc;simpa[execOp,ho,ClSim,zQ] using s_mv (w:=w) (P:=P) hs h1 hv
 case assign x=>obtain⟨c,h1,rfl⟩:=amf hc;simpa[execOp,ho,ClSim,zQ] using s_mv (w:=w) (P:=P) hs h1 hv
 case pick c x y=>
  obtain⟨c',h1,hc⟩:=aof hc;obtain⟨x',h2,hc⟩:=aof hc;obtain⟨y',h3,rfl⟩:=amf hc;have:=s_pick (w:=w) (P:=P) hs h1 h2 h3 hv;simp only[execOp,ho];exact this
 case alloc e=>
  obtain⟨z,h1,rfl⟩:=amf hc;cases hv;refine⟨fun i=>.pointer (some ⟨i,0,none⟩),.cells z 0,rfl,rfl,fun i hi=> ?_⟩;simp only[execOp,ho];exact s_alloc hi h1
 case box e x=>
  obtain⟨c,h1,rfl⟩:=amf hc;obtain⟨u,hu,e⟩:=amf hv;cases e;refine⟨fun i=>.pointer (some ⟨i,0,none⟩),.cells (zS u) 0,rfl,rfl,fun i hi=> ?_⟩;simp only[execOp,ho];exact s_box hs hi h1 hu
 case build t parts=>
  obtain⟨z,h1,hc⟩:=aof hc;obtain⟨u,h2,hc⟩:=aof hc;cases u<;>simp only[reduceCtorEq] at hc
  case struct fs=>
   split at hc
   ·rename_i hall;obtain⟨qs,h3,rfl⟩:=amf hc;simp only[execOp,ho];exact s_build (pl:=fun i=>(fs[i]?).bind fun(f:Field)=>(zL P f.type).map fun s=>(f.offset,s)) hs h1 h3 (fun p q hpq=>by
     obtain⟨f,hf,hpq⟩:=aof hpq;obtain⟨sz,hsz,hpq⟩:=aof hpq;obtain⟨x,hx,rfl⟩:=amf hpq;exact⟨by simp[hf,hsz],hx⟩) (fun l z' cs hz hfill=>ziP h2 hall l hz hfill) hv
   ·cases hc
  case array n e=>
   obtain⟨sz,h3,hc⟩:=aof hc;obtain⟨qs,h4,rfl⟩:=amf hc;simp only[execOp,ho];exact s_build (pl:=fun i=>some (i*sz,sz)) hs h1 h4 (fun p q hpq=>by obtain⟨x,hx,rfl⟩:=amf hpq;exact⟨rfl,hx⟩) (fun l z' cs hz hfill=>zjM h2 h3 l hz hfill) hv
 case buildSlice t len parts=>
  obtain⟨u,h1,hc⟩:=aof hc;cases u<;>simp only[reduceCtorEq] at hc
  case slice e=>
   obtain⟨sz,h2,hc⟩:=aof hc
   split at hc
   ·cases hc
   ·rename_i h3;obtain⟨z,h4,hc⟩:=aof hc
    split at hc
    ·cases hc
    ·rename_i h5
     split at hc
     ·cases hc
     ·rename_i h7;obtain⟨qs,h6,rfl⟩:=amf hc;obtain⟨l,hl,hv⟩:=aof hv;obtain⟨c,hcf,e0⟩:=amf hv;cases e0;refine⟨fun i=>.slice (some ⟨i,0,none⟩) len len,.cells c 0,rfl,rfl,fun i hi=> ?_⟩;simp only[execOp,ho];exact s_buildSlice hs hi h1 h2 h3 h4 (by simpa using h5) h6 hl hcf (by simpa using h7)
 case load t x=>
  obtain⟨c,h1,hc⟩:=aof hc;obtain⟨sz,h2,hc⟩:=amf hc;cases sz with
  |some n=>cases hc;simp only[execOp,ho];exact s_loadN hr hs h1 h2 hv
  |none=>cases hc;simp only[execOp,ho];exact s_load1 hr hs h1 h2 hv
 case store t x y=>
  obtain⟨c,h1,hc⟩:=aof hc;obtain⟨d,h2,hc⟩:=aof hc;obtain⟨n,h3,hc⟩:=aof hc
  split at hc
  ·cases hc
  ·rename_i hn;cases hc;simp only[execOp,ho];exact s_store hr hs h1 h2 h3 hn hv
 case nilCheck x=>obtain⟨c,h1,rfl⟩:=amf hc;exact s_nilCheck hs ho h1 hv
 case binOp op t x y yt=>
  obtain⟨c,h1,hc⟩:=aof hc;obtain⟨d,h2,rfl⟩:=amf hc;simp only[execOp,ho];exact s_bin hs h1 h2 hv
 case unOp op t x=>obtain⟨c,h1,rfl⟩:=amf hc;simp only[execOp,ho];exact s_un hs h1 hv
 case convert sr d x=>
  obtain⟨c,h1,hc⟩:=aof hc;obtain⟨u1,h2,hc⟩:=aof hc;obtain⟨u2,h3,hc⟩:=aof hc;cases u1<;>cases u2<;>simp only[reduceCtorEq,qq] at hc
  ·subst hc;simp only[execOp,ho];exact s_conv hs h1 h2 h3 hv
  ·obtain⟨u,hu,hc⟩:=aof hc
   split at hc
   ·cases hc;simp only[execOp,ho];exact s_s2b hr hs h1 h2 h3 hu hv
   ·cases hc
  ·obtain⟨u,hu,hc⟩:=aof hc
   split at hc
   ·cases hc;simp only[execOp,ho];exact s_b2s hr hs h1 h2 h3 hu hv
   ·cases hc
 case makeFunc fn fs cs=>
  cases fn<;>simp only[reduceCtorEq] at hc;obtain⟨l,h1,hc⟩:=aof hc;obtain⟨m,h2,rfl⟩:=amf hc;simp only[execOp,ho];exact s_makeFunc hs h1 h2 hv
 case makeMap t r=>
  cases r with
  |none=>
   cases hc;cases hv;refine⟨fun i=>.map (some i),.map [] 0,rfl,rfl,fun i hi=> ?_⟩;simp only[execOp,ho];exact s_makeMap
  |some _=>cases hc
 case makeSlice t l c=>
  obtain⟨l',h1,hc⟩:=aof hc;obtain⟨c',h2,hc⟩:=aof hc;obtain⟨u,h3,hc⟩:=aof hc;cases u<;>simp only[reduceCtorEq] at hc
  case slice e=>
   obtain⟨i0,h4,hc⟩:=aof hc;obtain⟨z,h5,hc⟩:=aof hc
   split at hc
   ·cases hc
   ·rename_i h6;cases hc;obtain⟨ul,hl,hv⟩:=aof hv;obtain⟨uc,hcv,hv⟩:=aof hv;have rl:=zbb h1 hs hl;have rc:=zbb h2 hs hcv;unfold zdc at hv
    split at hv
    ·split at hv
     ·rename_i hcond;simp only[qm] at hcond;cases hv;have q1:=qM hcond.1.1;have q2:=qM hcond.1.2;have q3:=qM hcond.2;refine⟨fun i=>.slice (some ⟨i,0,none⟩) _ _,.cells _ 0,rfl,rfl,fun i hi=> ?_⟩;simp only[execOp,ho];rw[rl.inv_int,rc.inv_int];exact s_makeSlice hi h3 h4 h5 (by simpa using h6) q1 q2 q3
     ·cases hv
    ·cases hv
 case slice t x lo hi mx=>
  obtain⟨c,h1,hc⟩:=aof hc;obtain⟨lo',h2,hc⟩:=aof hc;obtain⟨hi',h3,hc⟩:=aof hc;obtain⟨u,h4,hc⟩:=aof hc;cases u<;>cases mx<;>simp only[reduceCtorEq,qq] at hc
  case string.none=>
   subst hc;simp only[execOp,ho];exact s_strSlice hs h1 h2 h3 h4 hv
  case slice.none=>
   obtain⟨sz,h5,rfl⟩:=amf hc;simp only[execOp,ho];exact s_slice hr hs h1 h2 h3 h4 h5 hv
  obtain⟨mx',h6,hc⟩:=aof hc;obtain⟨hi2,h7,hc⟩:=aof hc;obtain⟨sz,h5,rfl⟩:=amf hc;subst h7;cases hi with
  |none=>cases h3
  |some hi=>
   obtain⟨hi3,h8,e⟩:=amf h3;cases e;simp only[execOp,ho];exact s_slice3 hr hs h1 h2 h8 h6 h4 h5 hv
 case fieldAddr t x f=>
  obtain⟨c,h1,hc⟩:=aof hc;obtain⟨u,h2,hc⟩:=aof hc;cases u<;>simp only[reduceCtorEq] at hc;obtain⟨fl,h3,hc⟩:=aof hc;obtain⟨sz,h4,hc⟩:=aof hc
  split at hc
  ·cases hc
  ·rename_i h5;cases hc;simp only[execOp,ho];exact s_fieldAddr hs h1 h2 h3 h4 h5 hv
 case indexAddr t x y=>
  obtain⟨c,h1,hc⟩:=aof hc;obtain⟨d,h2,hc⟩:=aof hc;obtain⟨u,h3,hc⟩:=aof hc;cases u<;>simp only[reduceCtorEq] at hc
  case slice e=>obtain⟨sz,h4,rfl⟩:=amf hc;simp only[execOp,ho];exact s_indexAddr hs h1 h2 h3 h4 hv
  case array n e=>obtain⟨sz,h4,rfl⟩:=amf hc;simp only[execOp,ho];exact s_indexArr hs h1 h2 h3 h4 hv
 case lookup t x y ok=>
  obtain⟨c,h1,hc⟩:=aof hc;obtain⟨d,h2,hc⟩:=aof hc;obtain⟨u,h3,hc⟩:=aof hc;cases u<;>simp only[reduceCtorEq] at hc;obtain⟨kk,h4,hc⟩:=aof hc;obtain⟨j,h5,hc⟩:=aof hc;obtain⟨z,h6,hc⟩:=aof hc
  split at hc
  ·rename_i h7;cases hc;simp only[execOp,ho];exact s_lookup hr hs h1 h2 h3 h4 (fun w=>by simp[zeroValue,qbX w h5,h6]) h7 hv
  ·cases hc
 case mapUpdate t m k x=>
  obtain⟨m',h1,hc⟩:=aof hc;obtain⟨k',h2,hc⟩:=aof hc;obtain⟨x',h3,hc⟩:=aof hc;obtain⟨u,h4,hc⟩:=aof hc;cases u<;>simp only[reduceCtorEq] at hc;obtain⟨kk,h5,rfl⟩:=amf hc;simp only[execOp,ho];exact zjK hr hs h1 h2 h3 h4 h5 hv
 case insert t m k x=>
  obtain⟨m',h1,hc⟩:=aof hc;obtain⟨k',h2,hc⟩:=aof hc;obtain⟨x',h3,hc⟩:=aof hc;obtain⟨u,h4,hc⟩:=aof hc;cases u<;>simp only[reduceCtorEq] at hc;obtain⟨kk,h5,rfl⟩:=amf hc;simp only[execOp,ho];exact zjK hr hs h1 h2 h3 h4 h5 hv
 case index t x y=>
  obtain⟨c,h1,hc⟩:=aof hc;obtain⟨d,h2,hc⟩:=aof hc;obtain⟨u,h3,hc⟩:=aof hc;cases u<;>simp only[reduceCtorEq,qq] at hc;subst hc;simp only[execOp,ho];exact s_strIdx hs h1 h2 h3 hv
 case extract x i=>obtain⟨c,h1,rfl⟩:=amf hc;simp only[execOp,ho];exact s_extract hs h1 hv
 case field t x i=>
  obtain⟨c,h1,hc⟩:=aof hc;obtain⟨u,h2,hc⟩:=aof hc;cases u<;>simp only[reduceCtorEq] at hc;obtain⟨f,h3,hc⟩:=aof hc;obtain⟨n,h4,rfl⟩:=amf hc;simp only[execOp,ho];exact s_fld hs h1 h2 h3 h4 hv
 case panic x=>obtain⟨c,h1,rfl⟩:=amf hc;cases hv
 case makeInterface t x=>
  obtain⟨u,h1,hc⟩:=aof hc
  split at hc
  ·cases hc
  ·rename_i hne;obtain⟨c,h2,rfl⟩:=amf hc;simp only[execOp,ho];exact s_mkI hs h2 h1 (fun ms e=>hne ms e) hv
 case typeAssert x xt d ok=>
  obtain⟨u,h1,hc⟩:=aof hc
  split at hc
  ·cases hc
  ·rename_i hne;obtain⟨c,h2,hc⟩:=aof hc;simp only[execOp,ho];cases ok with
   |false=>cases hc;exact s_assertT hs h2 h1 (fun ms e=>hne ms e) (fun e=>by cases e) hv
   |true=>
    obtain⟨i,h3,hc⟩:=aof hc;obtain⟨z,h4,hc⟩:=aof hc
    split at hc
    ·rename_i h5;cases hc;exact s_assertT hs h2 h1 (fun ms e=>hne ms e) (fun _=>⟨i,h3,h4,h5⟩) hv
    ·cases hc
 case call c=>
  split at hc
  ·obtain⟨f,h1,hc⟩:=aof hc;obtain⟨as,h2,rfl⟩:=amf hc;trivial
  ·rename_i b hcal
   split at hc
   ·cases hc;cases hv
   obtain⟨cb,h1,hc⟩:=aof hc;obtain⟨as,h2,rfl⟩:=amf hc;obtain⟨vs,hvs,hv⟩:=aof hv;have hargs:=zja hs h2 hvs;obtain⟨consts,hx⟩: ∃consts,(execOp a.eval o).run P w=(builtin b c.argTypes o.type consts (c.args.map a.eval)).run P w:=
    ⟨_,by simp only[execOp,ho,resolve,hcal,qr,qF,qo,invoke];rfl⟩
   rw[hx];by_cases happ: ∃x y,cb=.append x y
   ·obtain⟨x,y,rfl⟩:=happ;show Sim _ _ _ _ _ _;have app: ∀{e:TypeId} {i:TypeInfo} {z:Value},AppOk P c.argTypes e i z→bltV h (.append i.size i.bytes) vs=some (v,h')→Sim P ρ w ((builtin .append c.argTypes o.type consts (c.args.map a.eval)).run P w) v h':=by
     intro e i z ok hv;cases vs with
     |nil=>simp[bltV] at hv
     |cons sv vs=>cases vs with
      |nil=>simp[bltV] at hv
      |cons xv vs=>cases vs with
       |cons _ _=>simp[bltV] at hv
       |nil=>
        obtain⟨sv',l1,e1,r1,hl1⟩:=hargs.cons_left;obtain⟨xv',l2,e2,r2,hl2⟩:=hl1.cons_left;have:=hl2.nil_left;subst this;subst e2;have:c.args.map a.eval= #[sv',xv']:=qU.1 (by simpa using e1);rw[this];exact s_append hr ok _ _ r1 r2 hv
    cases b<;>simp only[zbP,reduceCtorEq] at h1
    case append=>
     split at h1
     ·rename_i t t1 hts;obtain⟨u,hu,h1⟩:=aof h1;obtain⟨u1,hu1,h1⟩:=aof h1
      split at h1
      ·obtain⟨i,hi,h1⟩:=aof h1;obtain⟨z,hz,h1⟩:=aof h1
       split at h1
       ·cases h1
       ·rename_i hcond;cases h1;have ok:AppOk P c.argTypes _ i z:=⟨⟨t,t1,qU.1 (by simpa using hts),hu,.inl ⟨_,hu1⟩⟩,hi,hz,by simpa using fun h=>hcond (.inr (.inr h)),fun h=>hcond (.inl h),fun h=>hcond (.inr (.inl h))⟩;exact app ok hv
      ·obtain⟨i,hi,h1⟩:=aof h1;obtain⟨z,hz,h1⟩:=aof h1
       split at h1
       ·cases h1
       ·rename_i hcond;cases h1;have ok:AppOk P c.argTypes _ i z:=⟨⟨t,t1,qU.1 (by simpa using hts),hu,.inr hu1⟩,hi,hz,by simpa using fun h=>hcond (.inr (.inr h)),fun h=>hcond (.inl h),fun h=>hcond (.inr (.inl h))⟩;exact app ok hv
      ·cases h1
     ·cases h1
    case len=>
     exfalso;obtain⟨t,ht,h1⟩:=aof h1;obtain⟨u,hu,h1⟩:=aof h1;cases u<;>simp at h1
    case clear=>
     exfalso;obtain⟨t,ht,h1⟩:=aof h1;obtain⟨u,hu,h1⟩:=aof h1;cases u<;>simp only[reduceCtorEq] at h1;obtain⟨z',hz',h1⟩:=aof h1
     split at h1<;>cases h1
    case copy=>
     exfalso;obtain⟨t,ht,h1⟩:=aof h1;obtain⟨u,hu,h1⟩:=aof h1;cases u<;>simp only[reduceCtorEq] at h1;obtain⟨z',hz',h1⟩:=aof h1
     split at h1<;>cases h1
    all_goals cases h1
   ·by_cases hclr: ∃z,cb=.clear z
    ·obtain⟨z,rfl⟩:=hclr;show Sim _ _ _ _ _ _;cases b<;>simp only[zbP,reduceCtorEq] at h1
     case clear=>
      obtain⟨t,ht,h1⟩:=aof h1;obtain⟨u,hu,h1⟩:=aof h1;cases u<;>simp only[reduceCtorEq] at h1;obtain⟨z',hz',h1⟩:=aof h1
      split at h1
      ·cases h1
      ·rename_i hz0;cases h1;exact s_clear hr ht hu hz' hz0 hargs hv o.type consts
     case append=>
      split at h1
      ·obtain⟨u,hu,h1⟩:=aof h1;obtain⟨u1,hu1,h1⟩:=aof h1
       split at h1
       ·obtain⟨i,hi,h1⟩:=aof h1;obtain⟨z,hz,h1⟩:=aof h1
        split at h1<;>cases h1
       ·obtain⟨i,hi,h1⟩:=aof h1;obtain⟨z,hz,h1⟩:=aof h1
        split at h1<;>cases h1
       ·cases h1
      ·cases h1
     case len=>
      exfalso;obtain⟨t,ht,h1⟩:=aof h1;obtain⟨u,hu,h1⟩:=aof h1;cases u<;>simp at h1
     case copy=>
      exfalso;obtain⟨t,ht,h1⟩:=aof h1;obtain⟨u,hu,h1⟩:=aof h1;cases u<;>simp only[reduceCtorEq] at h1;obtain⟨z',hz',h1⟩:=aof h1
      split at h1<;>cases h1
     all_goals cases h1
    ·by_cases hcp: ∃z,cb=.copy z
     ·obtain⟨z,rfl⟩:=hcp;show Sim _ _ _ _ _ _;cases b<;>simp only[zbP,reduceCtorEq] at h1
      case copy=>
       obtain⟨t,ht,h1⟩:=aof h1;obtain⟨u,hu,h1⟩:=aof h1;cases u<;>simp only[reduceCtorEq] at h1;obtain⟨s',hs',h1⟩:=aof h1
       split at h1
       ·cases h1
       ·rename_i hz0;cases h1;exact s_copy hr ht hu hs' hz0 hargs hv o.type consts
      case append=>
       split at h1
       ·obtain⟨u,hu,h1⟩:=aof h1;obtain⟨u1,hu1,h1⟩:=aof h1
        split at h1
        ·obtain⟨i,hi,h1⟩:=aof h1;obtain⟨z,hz,h1⟩:=aof h1
         split at h1<;>cases h1
        ·obtain⟨i,hi,h1⟩:=aof h1;obtain⟨z,hz,h1⟩:=aof h1
         split at h1<;>cases h1
        ·cases h1
       ·cases h1
      case len=>
       exfalso;obtain⟨t,ht,h1⟩:=aof h1;obtain⟨u,hu,h1⟩:=aof h1;cases u<;>simp at h1
      case clear=>
       exfalso;obtain⟨t,ht,h1⟩:=aof h1;obtain⟨u,hu,h1⟩:=aof h1;cases u<;>simp only[reduceCtorEq] at h1;obtain⟨z',hz',h1⟩:=aof h1
       split at h1<;>cases h1
      all_goals cases h1
     ·have:=s_blt hr h1 (fun x y e=>happ ⟨x,y,e⟩) (fun z e=>hclr ⟨z,e⟩) (fun z e=>hcp ⟨z,e⟩) hargs hv o.type consts;have hcl:zQ (.blt cb as)=.pure:=by
       cases cb<;>first|rfl|exact absurd ⟨_,_,rfl⟩ happ|exact absurd ⟨_,rfl⟩ hclr|exact absurd ⟨_,rfl⟩ hcp
      rw[hcl];exact this
  ·obtain⟨f,h1,hc⟩:=aof hc;obtain⟨as,h2,rfl⟩:=amf hc;cases hv
theorem zbO {o:Oper} {op:COp} (h:zcd P o=some op):isDefer o.op=false∧(zbg P o=some op∨op=.stuck):=by
 unfold zcd at h
 split at h
 ·cases h
 ·rename_i hd;refine⟨by simpa using hd,?_⟩;have h:=Option.some.inj h;cases hc:zbg P o with
  |none=>rw[hc] at h;exact .inr h.symm
  |some x=>rw[hc] at h;exact .inl (congrArg some h)
theorem op_sim {o:Oper} {op:COp} (hc:zcd P o=some op) (hr:HR P ρ h w) (hs:SR ρ s a.tmps) (hv:opV op s h=some (v,h')):
 ClSim P ρ h w ((execOp a.eval o).run P w) v h' (zQ op):=by
 rcases(zbO hc).2 with h1|rfl
 ·exact op_sim0 h1 hr hs hv
 ·cases hv
end
end
section
variable {P:Program}
abbrev Wf (r:Option Nat):Fence:=match r with|none=>Fence.wide|some l=>Fence.wide.inRound l
theorem Wf_fn (r:Option Nat) (f:FuncId):(Wf r).fn f:=by cases r<;>trivial
theorem zjk (r:Option Nat):(Wf r).depth=none:=by cases r<;>rfl
theorem Wf_round (r:Option Nat):(Wf r).round=r:=by cases r<;>rfl
def zB (D:Nat):Deferred:={target:=.collected D,args:= #[]}
structure zb6 (ρ:Rho) (w:World) (Ds:List Nat):Prop where
 nodup:Ds.Nodup
 ok: ∀D∈Ds,D<w.heap.size∧(∀i R,ρ i=some R→R.blk≠D)∧w.heap[D]? =some (.deferred (some []))
theorem zb6.ext {ρ σ:Rho} {w w':World} {Ds:List Nat} (h:zb6 ρ w Ds) (he:Ext ρ w σ w'):zb6 σ w' Ds:=
 ⟨h.nodup,fun D hD=>by
   obtain⟨h1,h2,h3⟩:=h.ok D hD;refine⟨qO h1 he.size,fun i R hi e=> ?_,by rw[he.frame D h1 h2];exact h3⟩;rcases he.fresh i R hi with⟨j,S,hj,hs⟩|hb
   ·exact h2 j S hj (hs.trans e)
   ·omega⟩
def zfb (r:Option Nat) (w:World):Prop:= ∀l,r=some l→ ∃lp:Loop,w.heap[l]? =some (.loop lp)
theorem zfb.ext {ρ σ:Rho} {w w':World} {r:Option Nat} (h:zfb r w) (he:Ext ρ w σ w'):zfb r w':=
 fun l hl=>let⟨lp,h1⟩:=h l hl;let⟨lp',h2,_⟩:=he.loops l lp h1;⟨lp',h2⟩
def zgU (P:Program) (ρ:Rho) (w:World) (o:Out) (e:Ending) (w':World):Prop:=
 ∃v h v' σ,o=.val v h∧e=.returned v'∧VR σ v v'∧HR P σ h w'∧Ext ρ w σ w'
abbrev one (v:Value):List PanicEntry:=[{v:=v,recovered:=false}]
def zhN (P:Program) (ρ:Rho) (w:World) (o:Out) (e:Ending) (w':World):Prop:=
 zgU P ρ w o e w'∨ ∃v h v' σ,o=.pan v .nil h∧e=.panicked (one v')∧VR σ v v'∧HR P σ h w'∧Ext ρ w σ w'
theorem zhN.val {ρ:Rho} {w:World} {v:Value} {h:H} {e:Ending} {w':World} (hp:zhN P ρ w (.val v h) e w'):zgU P ρ w (.val v h) e w':=by
 rcases hp with h| ⟨_,_,_,_,h,_⟩
 ·exact h
 ·cases h
def zc7 (P:Program) (ρ:Rho) (w:World) (N:Nat) (Ds0:List Nat) (Db:List Deferred) (o:Out) (e:Exit) (a':Act) (w':World):Prop:=
 ∃σ Ds s h,Ext ρ w σ w'∧a'.tmps.size=N∧a'.defers=Ds.map zB++Db∧(zb6 σ w' Ds∧ ∀D∈Ds,D∈Ds0∨w.heap.size≤D)∧SR σ s a'.tmps∧HR P σ h w'∧
  ((o=.nrm s h∧e=.normal)∨(∃i,o=.exit i s h∧e=exOf i)∨(o=.ret s h∧e=.ret)∨(∃v v',o=.pan v s h∧VR σ v v'∧e=.panic (one v')))
def zfy:Option Value→FrameMode
 |none=>.returning
 |some v=>.panicking (one v)
def zcr:Option Value→FrameMode
 |none=>.returning
 |some v=>.panicking [{v:=v,recovered:=true}]
def POR (ρ:Rho):Option Value→Option Value→Prop
 |none,none=>True
 |some v,some v'=>VR ρ v v'
 |_,_=>False
def HandOk (P:Program) (ρ:Rho) (w:World) (args':Array Value) (p':Option Value) (o:Out):Value→Prop
 |.func (.func g) first captured=>CallsDIn qbp 0 P g (first++args'++captured) (zfy p') w (fun e u w'=>zgU P ρ w o e w'∧u=zcr p')∧(∀w,(callFunc g (first++args'++captured)).run P w=.ok (.enter g (first++args'++captured)) w)
 |_=>False
def CallOk (P:Program) (ρ:Rho) (w:World) (args':Array Value) (o:Out):Value→Prop
 |.func (.func g) first captured=>CallsIn qbp 0 P g (first++args'++captured) w (zhN P ρ w o)∧(∀w,(callFunc g (first++args'++captured)).run P w=.ok (.enter g (first++args'++captured)) w)
 |.func (.yield l) _ _=> ∃fn tmps assign body,(Instr.yield l args').run P w=.ok (.round l fn tmps assign body) w∧RoundIn qbp 0 P l fn tmps assign body w (zgU P ρ w o)
 |_=>False
def CodeOk (P:Program) (m:Nat) (r:Option Nat) (Q:Exit→Act→World→Prop) (a:Act) (w:World):Code→Prop
 |.loop c=>Code.roundsIn (Wf r) 0 P c Q m a w
 |c=>c.wpIn (Wf r) 0 P Q a w
theorem CodeOk.wpIn {m:Nat} {r:Option Nat} {Q:Exit→Act→World→Prop} {a:Act} {w:World} {c:Code} (h:CodeOk P m r Q a w c):c.wpIn (Wf r) 0 P Q a w:=by
 cases c<;>first|exact h|exact wpIn_loop_rounds m h
def InScope (F:Fence) (P:Program) (body x:Code) (Q:Exit→Act→World→Prop) (a:Act) (w:World):Prop:=
 ∀(b:Frame) (k:List Item) (cs:List Frame),b.roundOf=F.round→F.fn b.fn→F.room (cs.length+1+0)→
  ∃e a' w',Q e a' w'∧ArrivesIn (Machine.fenced P F) P (lone (b.atR a (.code x:: .inScope body::k)) cs w) b k cs e a' w'
def LabOk (P:Program) (N:Nat) (body:Code) (l1:Nat) (r1:CC) (l2:Nat) (r2:CC):Prop:=
 (∃rest,findLabel body l1=some rest∧ze P N rest=some (zA r1))∧(∃rest,findLabel body l2=some rest∧ze P N rest=some (zA r2))∧ ∀l,l≠l1→l≠l2→findLabel body l=none
def zdF (P:Program) (m:Nat):Task→Out→Prop
 |.code c s h,o=> ∀(code:Code) (N:Nat),ze P N code=some (zA c)→ ∀(r:Option Nat) (ρ:Rho) (a:Act) (w:World) (Ds:List Nat) (Db:List Deferred),zfb r w→a.tmps.size=N→SR ρ s a.tmps→HR P ρ h w→a.defers=Ds.map zB++Db→zb6 ρ w Ds→
   CodeOk P m r (zc7 P ρ w N Ds Db o) a w code
 |.call f args h,o=> ∀(ρ:Rho) (f':Value) (args':Array Value) (w:World),VR ρ f f'→VRL ρ args args'.toList→HR P ρ h w→CallOk P ρ w args' o f'
 |.hand f args p h,o=> ∀(ρ:Rho) (f':Value) (args':Array Value) (p':Option Value) (w:World),VR ρ f f'→VRL ρ args args'.toList→POR ρ p p'→HR P ρ h w→HandOk P ρ w args' p' o f'
 |.scope b l1 r1 l2 r2 s h,o=> ∀(body x:Code) (N:Nat),ze P N x=some (zA b)→LabOk P N body l1 r1 l2 r2→ ∀(r:Option Nat) (ρ:Rho) (a:Act) (w:World) (Ds:List Nat) (Db:List Deferred),zfb r w→a.tmps.size=N→SR ρ s a.tmps→HR P ρ h w→a.defers=Ds.map zB++Db→zb6 ρ w Ds→
   InScope (Wf r) P body x (zc7 P ρ w N Ds Db o) a w
section
variable {ρ:Rho} {h h':H} {w:World} {s:zb} {a:Act} {v:Value}
theorem SR.get {ρ:Rho} {s:zb} {tmps:Array Value} (h:SR ρ s tmps) {t:Nat} {v:Value} (hv:s.get (bits t)=some v): ∃v',tmps[t]? =some v'∧VR ρ v v':=h t v hv
theorem zcj {N:Nat} {ops:Array Oper} {o:Oper} {c:CI} (hc:zt P N ops o=some c) (hs:SR ρ s a.tmps) {b:Bool} (hb:z8 c.guard s=some b):Region.wanted o (yielded ops a.tmps)=b:=by
 unfold zt at hc
 split at hc
 ·obtain⟨op,hop,hc⟩:=aof hc;unfold Region.wanted;cases hg:o.guard with
  |none=>rw[hg] at hc;cases hc;simp[z8] at hb;subst hb;rfl
  |some g=>
   obtain⟨j,want⟩:=g;rw[hg] at hc;obtain⟨p,hp,e⟩:=amf hc;subst e;obtain⟨t,ht,e⟩:=amf hp;subst e;simp only[z8] at hb;obtain⟨u,hu,hb⟩:=aof hb;obtain⟨u',hu',hr⟩:=hs.get hu;simp only[yielded,ht,qg,hu'];unfold wantedV at hb
   split at hb
   ·cases hb;rw[hr.inv_bool];simp
   ·cases hb;cases hr;simp
   ·cases hb
 ·cases hc
theorem zbf {N:Nat} {ops:Array Oper} {o:Oper} {c:CI} (hc:zt P N ops o=some c):zcd P o=some c.op∧c.dst=o.dst.map bits∧ ∀d,o.dst=some d→d<N:=by
 unfold zt at hc
 split at hc
 ·rename_i hd;obtain⟨op,hop,hc⟩:=aof hc;have hd': ∀d,o.dst=some d→d<N:=by intro d e;rw[e] at hd;simpa using hd
  cases hg:o.guard with
  |none=>rw[hg] at hc;cases hc;exact⟨hop,rfl,hd'⟩
  |some g=>rw[hg] at hc;obtain⟨p,hp,e⟩:=amf hc;subst e;exact⟨hop,rfl,hd'⟩
 ·cases hc
theorem zh4 {N:Nat} {σ:Rho} {v v':Value} {o:Oper} {c:CI} (hd:c.dst=o.dst.map bits) (hlt: ∀d,o.dst=some d→d<N) (hs:SR σ s a.tmps) (hN:a.tmps.size=N) (hv:VR σ v v'):
 SR σ (zbh c.dst v s) (a.put o.dst v').tmps∧(a.put o.dst v').tmps.size=N∧(a.put o.dst v').defers=a.defers:=by
 rw[hd];cases ho:o.dst with
 |none=>exact⟨hs,hN,rfl⟩
 |some d=>exact⟨hs.set (by rw[hN];exact hlt d ho) hv,by simp[Act.put,hN],rfl⟩
theorem ClSim.sim {op:COp} {r:Result Next} (hc:ClSim P ρ h w r v h' (zQ op)) (hr:HR P ρ h w) (hn:zQ op≠ .call):Sim P ρ w r v h':=by
 cases e:zQ op with
 |pure=>rw[e] at hc;obtain⟨rfl,h2⟩:=hc;exact h2.sim hr
 |alloc=>rw[e] at hc;obtain⟨f,io,rfl,rfl,h3⟩:=hc;exact(h3 _ (hr.nxt _ (qd _)).1).sim hr
 |eff=>rw[e] at hc;exact hc
 |call=>exact absurd e hn
theorem notDefer {o:Oper} {op:COp} (hc:zcd P o=some op): ∀c,o.op≠ .defer c:=by
 intro c e;have:=(zbO hc).1;rw[e] at this;cases this
theorem compile_call0 {o:Oper} {f:CO} {args:List CO} (hop:zbg P o=some (.call f args)): ∃cl:Call,o.op=.call cl∧ ∃fo,cl.callee=.value fo∧co fo=some f∧allO co cl.args.toList=some args:=by
 cases e:o.op<;>simp only[zbg,e,reduceCtorEq] at hop
 case call cl=>
  refine⟨cl,rfl,?_⟩
  split at hop
  ·rename_i fo hfo;obtain⟨f',h1,hop⟩:=aof hop;obtain⟨as',h2,e2⟩:=amf hop;cases e2;exact⟨fo,hfo,h1,h2⟩
  ·split at hop
   ·cases hop
   ·obtain⟨cb,h1,hop⟩:=aof hop;obtain⟨as',h2,e2⟩:=amf hop;cases e2
  ·obtain⟨f',h1,hop⟩:=aof hop;obtain⟨as',h2,e2⟩:=amf hop;cases e2
 case convert sr d x0=>
  obtain⟨x1,-,hop⟩:=aof hop;obtain⟨u1,-,hop⟩:=aof hop;obtain⟨u2,-,hop⟩:=aof hop;cases u1<;>cases u2<;>first| (cases hop;done)| (obtain⟨u,-,hop⟩:=aof hop;split at hop<;>cases hop)
 all_goals (exfalso;revert hop;simp only[qI,qv,reduceCtorEq,and_false,exists_false,imp_false,not_false_eq_true])
 all_goals (intro hop;repeat' (first| (obtain⟨_,_,hop⟩:=hop)|split at hop))
 all_goals simp_all[qI,qv]
theorem compile_call {o:Oper} {f:CO} {args:List CO} (hop:zcd P o=some (.call f args)): ∃cl:Call,o.op=.call cl∧ ∃fo,cl.callee=.value fo∧co fo=some f∧allO co cl.args.toList=some args:=by
 rcases(zbO hop).2 with h|h
 ·exact compile_call0 h
 ·cases h
theorem lookM_cons (t:Nat) (p:Nat×Nat) (l:List (Nat×Nat)):lookM t (p::l)=match qE p.1 t with|true=>some p.2|false=>lookM t l:=rfl
theorem lookM_mem {t f:Nat}: ∀{l:List (Nat×Nat)},lookM t l=some f→(t,f)∈l
 | [],h=>by cases h
 |p::l,h=>by
  rw[lookM_cons] at h
  split at h
  ·rename_i e;cases h;have:=qi e;subst this;exact qbm
  ·exact qbU _ (lookM_mem h)
theorem methodTbl_mem {nm:String} {t f:Nat} (h:(t,f)∈zhj P nm):zi6 P t nm=some f:=by
 obtain⟨x,hx,e⟩:=List.mem_filterMap.1 h;obtain⟨g,hg,e⟩:=amf e;cases e;exact hg
theorem method_run {t:TypeId} {nm:String} {f:FuncId} (h:zi6 P t nm=some f) (n:Nat) (v:Value) (w:World):(method (n+1) t v nm).run P w=.ok (f,v) w:=by
 obtain⟨i,hi,h⟩:=aof h;obtain⟨m,hm,h⟩:=aof h
 split at h
 ·rename_i hp;obtain⟨⟨g,pr⟩,hf,h⟩:=aof h;obtain⟨u,hu,h⟩:=aof h;have hp':m.path.toList=[]:=List.isEmpty_iff.1 hp;have key: ∀wr,(receiverAt t (.val v) pr wr).run P w=.ok v w∧f=g:=by
   intro wr
   split at h
   ·rename_i e hpr;have hpr:pr=true:=hpr;subst hpr;cases h;exact⟨by simp[receiverAt,qw hu,Place.get],rfl⟩
   ·cases h
   ·rename_i h1 hpr;have hpr:pr=false:=hpr;subst hpr;cases h;refine⟨?_,rfl⟩;unfold receiverAt;simp only[qr,qw hu,qo];rfl
   ·cases h
  unfold method;simp only[qr,qbX _ hi,qo,hm,hp',follow,qF,hf,(key _).1,(key none).2]
 ·cases h
theorem zkx {o:Oper} {tbl:List (Nat×Nat)} {x:CO} {args:List CO} (hop:zbg P o=some (.invoke tbl x args)): ∃(cl:Call) (r:Operand) (nm:String),o.op=.call cl∧cl.callee=.invoke r nm∧co r=some x∧allO co cl.args.toList=some args∧tbl=zhj P nm:=by
 cases e:o.op<;>simp only[zbg,e,reduceCtorEq] at hop
 case call cl=>
  split at hop
  ·obtain⟨f',h1,hop⟩:=aof hop;obtain⟨as',h2,e2⟩:=amf hop;cases e2
  ·split at hop
   ·cases hop
   ·obtain⟨cb,h1,hop⟩:=aof hop;obtain⟨as',h2,e2⟩:=amf hop;cases e2
  ·rename_i r nm hcal;obtain⟨f',h1,hop⟩:=aof hop;obtain⟨as',h2,e2⟩:=amf hop;cases e2;exact⟨cl,r,nm,rfl,hcal,h1,h2,rfl⟩
 case convert sr d x0=>
  obtain⟨x1,-,hop⟩:=aof hop;obtain⟨u1,-,hop⟩:=aof hop;obtain⟨u2,-,hop⟩:=aof hop;cases u1<;>cases u2<;>first| (cases hop;done)| (obtain⟨u,-,hop⟩:=aof hop;split at hop<;>cases hop)
 all_goals (exfalso;revert hop;simp only[qI,qv,reduceCtorEq,and_false,exists_false,imp_false,not_false_eq_true])
 all_goals (intro hop;repeat' (first| (obtain⟨_,_,hop⟩:=hop)|split at hop))
 all_goals simp_all[qI,qv]
theorem zk4 {o:Oper} {tbl:List (Nat×Nat)} {x:CO} {args:List CO} (hop:zcd P o=some (.invoke tbl x args)): ∃(cl:Call) (r:Operand) (nm:String),o.op=.call cl∧cl.callee=.invoke r nm∧co r=some x∧allO co cl.args.toList=some args∧tbl=zhj P nm:=by
 rcases(zbO hop).2 with h|h
 ·exact zkx h
 ·cases h
theorem zk3 {o:Oper} {x:CO} (hop:zbg P o=some (.panic x)): ∃xo,o.op=.panic xo∧co xo=some x:=by
 cases e:o.op<;>simp only[zbg,e,reduceCtorEq] at hop
 case panic xo=>obtain⟨c,h1,e2⟩:=amf hop;cases e2;exact⟨xo,rfl,h1⟩
 case convert sr d x0=>
  obtain⟨x1,-,hop⟩:=aof hop;obtain⟨u1,-,hop⟩:=aof hop;obtain⟨u2,-,hop⟩:=aof hop;cases u1<;>cases u2<;>first| (cases hop;done)| (obtain⟨u,-,hop⟩:=aof hop;split at hop<;>cases hop)
 all_goals (exfalso;revert hop;simp only[qI,qv,reduceCtorEq,and_false,exists_false,imp_false,not_false_eq_true])
 all_goals (intro hop;repeat' (first| (obtain⟨_,_,hop⟩:=hop)|split at hop))
 all_goals simp_all[qI,qv]
theorem compile_panic {o:Oper} {x:CO} (hop:zcd P o=some (.panic x)): ∃xo,o.op=.panic xo∧co xo=some x:=by
 rcases(zbO hop).2 with h|h
 ·exact zk3 h
 ·cases h
theorem zkz {n:Nat} {g:FuncId} {args:Array Value} {w:World} {R:Ending→World→Prop} (r:Option Nat) (h:CallsIn qbp n P g args w R):CallsIn (Wf r) n P g args w R:=by cases r<;>exact h
theorem roundIn_W {n l:Nat} {g:FuncId} {tmps:Array Value} {as b:Code} {w:World} {R:Ending→World→Prop} (r:Option Nat) (h:RoundIn qbp n P l g tmps as b w R):RoundIn (Wf r) n P l g tmps as b w R:=by cases r<;>exact h
theorem zj0 (cb:CB) (as:List CO):zQ (.blt cb as)≠ .call:=by cases cb<;>simp[zQ]
theorem op_wpIn {ih:IH} {M:Nat} (hih: ∀t o,ih t=some o→zdF P M t o) {N:Nat} {ops:Array Oper} {o:Oper} {c:CI} (hc:zt P N ops o=some c) (r:Option Nat) (hr:HR P ρ h w) (hs:SR ρ s a.tmps) {out:Out} (hv:zdD ih c.op s h=some out)
 {next:Act→World→Prop} {Q:Exit→Act→World→Prop} (hnext: ∀v h' v' w' σ,out=.val v h'→VR σ v v'→HR P σ h' w'→Ext ρ w σ w'→next (a.put o.dst v') w')
 (hpan: ∀v h' v' w' σ,out=.pan v .nil h'→VR σ v v'→HR P σ h' w'→Ext ρ w σ w'→Q (.panic (one v')) a w'):
 o.wpIn (Wf r) 0 P a w next Q:=by
 obtain⟨hop,-,-⟩:=zbf hc;refine⟨fun f _=>Wf_fn r f,?_⟩;rw[Oper.semAt_eq _ _ _ (notDefer hop)];have sim: ∀op,c.op=op→zQ op≠ .call→(opV op s h).map valO=some out→o.uponIn (Wf r) 0 P a next Q ((execOp a.eval o).run P w):=by
  intro op e hcl hv;rw[e] at hop;obtain⟨⟨v,h'⟩,hv2,eo⟩:=amf hv;subst eo;obtain⟨n,v',w',σ,h1,h2,h3,h4,h5⟩:=(op_sim hop hr hs hv2).sim hr hcl;rw[h1];rcases h2 with rfl| ⟨rfl,rfl⟩
  ·exact hnext _ _ v' w' σ rfl h3 h4 h5
  ·exact hnext _ _ undef w' σ rfl h3 h4 h5
 cases hcop:c.op<;>rw[hcop] at hv<;>try exact sim _ hcop (by first| (simp[zQ];done)|exact zj0 _ _) hv
 case call f args=>
  obtain⟨uf,huf,hv⟩:=aof hv;obtain⟨l,hl,hv⟩:=aof hv;obtain⟨out1,ho,hv⟩:=aof hv;have hsound:=hih _ _ ho;rw[hcop] at hop;have hcall:=compile_call hop;obtain⟨cl,hocl,fo,hfo,hf,hargs⟩:=hcall;have rf:=zbb hf hs huf;have ra:=zja hs hargs hl;have hok:=hsound ρ (a.eval fo) (cl.args.map a.eval) w rf ra hr;obtain rfl:out1=out:=by cases out1<;>simp only[outOf,qq,reduceCtorEq] at hv<;>exact hv
  generalize hfe:a.eval fo=fv at rf hok;unfold CallOk at hok
  split at hok
  ·rename_i g first captured
   obtain⟨hcalls,henter⟩:=hok;have hx:(execOp a.eval o).run P w=.ok (.enter g (first++cl.args.map a.eval++captured)) w:=by
    simp only[execOp,hocl,resolve,hfo,hfe,Deferred.ofValue,qr,qF,qo,invoke];exact henter w
   rw[hx];refine⟨(fun h=>by rw[zjk] at h;cases h),?_⟩;refine(zkz r hcalls).mono ?_;rintro e w' (⟨v1,h1,v',σ,rfl,rfl,q1,q2,q3⟩| ⟨v1,h1,v',σ,rfl,rfl,q1,q2,q3⟩)
   ·exact hnext _ _ v' w' σ rfl q1 q2 q3
   ·exact hpan _ _ v' w' σ rfl q1 q2 q3
  ·rename_i l0 first captured
   obtain⟨fn,tmps,assign,body,hy,hround⟩:=hok;have hemp:first= #[]∧captured= #[]:=by cases rf;exact⟨rfl,rfl⟩
   obtain⟨rfl,rfl⟩:=hemp;have hx:(execOp a.eval o).run P w=.ok (.round l0 fn tmps assign body) w:=by
    simp only[execOp,hocl,resolve,hfo,hfe,Deferred.ofValue,qr,qF,qo,invoke,qbY];exact hy
   rw[hx];refine⟨(fun h=>by rw[zjk] at h;cases h),?_⟩;refine(roundIn_W r hround).mono ?_;rintro e w' ⟨v1,h1,v',σ,rfl,rfl,q1,q2,q3⟩;exact hnext _ _ v' w' σ rfl q1 q2 q3
  ·exact hok.elim
 case invoke tbl x args=>
  obtain⟨u,hu,hv⟩:=aof hv;obtain⟨⟨g,rv⟩,hif,hv⟩:=aof hv;obtain⟨l,hl,hv⟩:=aof hv;obtain⟨out1,ho,hv⟩:=aof hv;rw[hcop] at hop;obtain⟨cl,ro,nm,hocl,hcal,hro,hargs,htbl⟩:=zk4 hop;unfold zgG at hif
  split at hif
  ·rename_i t0 v0;obtain⟨g',hlk,e⟩:=amf hif;cases e;have hx:=zbb hro hs hu;obtain⟨v',hv',hvr⟩:=hx.inv_iface;have ra:=zja hs hargs hl;have hm:zi6 P t0 nm=some g:=methodTbl_mem (htbl▸lookM_mem hlk);have rall:VRL ρ (rv::l) (#[v']++cl.args.map a.eval).toList:=by
    rw[Array.toList_append];exact .cons hvr ra
   have hok:=hih _ _ ho ρ (.func (.func g) #[] #[]) (#[v']++cl.args.map a.eval) w (.func g rfl rfl (by simp) (by simp)) rall hr;obtain rfl:out1=out:=by cases out1<;>simp only[outOf,qq,reduceCtorEq] at hv<;>exact hv
   obtain⟨hcalls,henter⟩:=hok;simp only[qbY,Array.append_empty] at hcalls henter;have hx2:(execOp a.eval o).run P w=.ok (.enter g (#[v']++cl.args.map a.eval)) w:=by
    have e1:(#[Value.iface t0 v']++cl.args.map a.eval)[0]? =some (.iface t0 v'):=by rw[qbh (by simp)];rfl
    have e2:(#[Value.iface t0 v']++cl.args.map a.eval).extract 1 (#[Value.iface t0 v']++cl.args.map a.eval).size=cl.args.map a.eval:=by
     apply qU.1;simp;exact qbQ (by simp)
    have e3: ∀w,(method (P.types.size+Made.depth) t0 v' nm).run P w=.ok (g,v') w:=fun w=>method_run hm (P.types.size+(Made.depth - 1)) v' w;simp only[execOp,hocl,resolve,hcal,hv',qr,qF,qo,invoke,e1,callMethod,e2,run_program,e3];exact henter w
   rw[hx2];refine⟨(fun h=>by rw[zjk] at h;cases h),?_⟩;refine(zkz r hcalls).mono ?_;rintro e w' (⟨v1,h1,v',σ,rfl,rfl,q1,q2,q3⟩| ⟨v1,h1,v',σ,rfl,rfl,q1,q2,q3⟩)
   ·exact hnext _ _ v' w' σ rfl q1 q2 q3
   ·exact hpan _ _ v' w' σ rfl q1 q2 q3
  ·cases hif
 case panic x=>
  obtain⟨u,hu,hv⟩:=aof hv;unfold panV at hv
  split at hv
  ·rename_i t v0;cases hv;rw[hcop] at hop;obtain⟨xo,hox,hcx⟩:=compile_panic hop;have hx:=zbb hcx hs hu;obtain⟨v',hv',hvr⟩:=hx.inv_iface;have hxr:(execOp a.eval o).run P w=.halt (.panic (.iface t v')) w:=by
    simp only[execOp,hox,hv',Instr.panic,qr,run_goPanic,Result.andThen]
   rw[hxr];exact hpan _ _ _ w ρ rfl (.iface t hvr) hr (.refl _ _)
  ·cases hv
theorem doOpP_of {ih:IH} {op:COp} {s:zb} {h:H} {v:Value} {h':H} (hv:doOp ih op s h=some (v,h')):zdD ih op s h=some (.val v h'):=by
 have plain:opV op s h=some (v,h')→(opV op s h).map valO=some (.val v h'):=by intro e;rw[e];rfl
 cases op
 case call f as=>
  obtain⟨u,hu,hv⟩:=aof hv;obtain⟨l,hl,hv⟩:=aof hv;obtain⟨o,ho,hv⟩:=aof hv;show callP _ _ _ _ _=_;unfold callP;rw[hu,qg,hl,qg,ho,qg];cases o<;>simp only[zhR,qq,qC,reduceCtorEq] at hv;obtain⟨rfl,rfl⟩:=hv;rfl
 case invoke tbl x args=>
  obtain⟨u,hu,hv⟩:=aof hv;obtain⟨r0,hr0,hv⟩:=aof hv;obtain⟨l,hl,hv⟩:=aof hv;obtain⟨o,ho,hv⟩:=aof hv;show invP _ _ _ _ _ _=_;unfold invP;rw[hu,qg,hr0,qg,hl,qg,ho,qg];cases o<;>simp only[zhR,qq,qC,reduceCtorEq] at hv;obtain⟨rfl,rfl⟩:=hv;rfl
 case panic x=>cases hv
 all_goals exact plain hv
theorem op_wpV {ih:IH} {M:Nat} (hih: ∀t o,ih t=some o→zdF P M t o) {N:Nat} {ops:Array Oper} {o:Oper} {c:CI} (hc:zt P N ops o=some c) (r:Option Nat) (hr:HR P ρ h w) (hs:SR ρ s a.tmps) (hv:doOp ih c.op s h=some (v,h'))
 {next:Act→World→Prop} {Q:Exit→Act→World→Prop} (hnext: ∀v' w' σ,VR σ v v'→HR P σ h' w'→Ext ρ w σ w'→next (a.put o.dst v') w'):
 o.wpIn (Wf r) 0 P a w next Q:=
 op_wpIn hih hc r hr hs (doOpP_of hv) (fun _ _ v' w' σ e q1 q2 q3=>by cases e;exact hnext v' w' σ q1 q2 q3) (fun _ _ _ _ _ e=>by cases e)
theorem zli (ih:IH) (s:zb) (h:H):zcO ih [] s h=some (.nrm s h):=rfl
theorem zdk (ih:IH) (o:CI) (l:List CI) (s:zb) (h:H):zcO ih (o::l) s h=(zgk ih o s h).bind (nextOp (zcO ih l) o.dst s):=rfl
theorem zjX {ih:IH} {M:Nat} (hih: ∀t o,ih t=some o→zdF P M t o) {N:Nat} {ops:Array Oper} (r:Option Nat) {w0:World} {ρ0:Rho} {Ds:List Nat} {Db:List Deferred} {out:Out} {Q:Exit→Act→World→Prop} {rest:List Nat}
 (hend: ∀sF hF σ (a1:Act) w1,out=.nrm sF hF→SR σ sF a1.tmps→HR P σ hF w1→a1.tmps.size=N→a1.defers=Ds.map zB++Db→zb6 σ w1 Ds→Ext ρ0 w0 σ w1→wpOpsIn (Wf r) 0 P ops Q rest a1 w1)
 (hpan: ∀v sF hF v' σ (a1:Act) w1,out=.pan v sF hF→VR σ v v'→SR σ sF a1.tmps→HR P σ hF w1→a1.tmps.size=N→a1.defers=Ds.map zB++Db→zb6 σ w1 Ds→Ext ρ0 w0 σ w1→Q (.panic (one v')) a1 w1):
 ∀(m k:Nat) (l:List CI) (ρ:Rho) (s:zb) (h:H) (a:Act) (w:World),k+m≤ops.size→allO (zt P N ops) ((ops.toList.drop k).take m)=some l→zcO ih l s h=some out→
  HR P ρ h w→SR ρ s a.tmps→a.tmps.size=N→a.defers=Ds.map zB++Db→zb6 ρ w Ds→Ext ρ0 w0 ρ w→wpOpsIn (Wf r) 0 P ops Q (List.range' k m++rest) a w
 |0,k,l,ρ,s,h,a,w,hk,hl,hrun,hr,hs,hN,hd,hD,hE=>by
  rw[qbC] at hl;cases hl;rw[zli] at hrun;cases hrun;exact hend _ _ ρ a w rfl hs hr hN hd hD hE
 |m+1,k,l,ρ,s,h,a,w,hk,hl,hrun,hr,hs,hN,hd,hD,hE=>by
  have hlt:k<ops.size:=by omega
  have hdr:ops.toList.drop k=ops[k]::ops.toList.drop (k+1):=by
   rw[←qbR (by simpa using hlt)];simp
  rw[hdr,qJ] at hl;obtain⟨c,hc,hl⟩:=aof hl;obtain⟨l',hl',e⟩:=amf hl;subst e;rw[zdk] at hrun;obtain⟨o1,hstep,hrest⟩:=aof hrun;obtain⟨b,hb,hstep⟩:=aof hstep;obtain⟨hop,hdst,hdlt⟩:=zbf hc;have hwant:=zcj hc hs hb;rw[List.range'_succ,qb3];simp only[wpOpsIn,qn hlt,hwant];cases b with
  |true=>
   simp only[if_true];refine op_wpIn hih hc r hr hs hstep (fun v h1 v' w' σ eo q1 q2 q3=> ?_) (fun v h1 v' w' σ eo q1 q2 q3=> ?_)
   ·subst eo;obtain⟨p1,p2,p3⟩:=zh4 hdst hdlt (hs.mono q3.le) hN q1;exact zjX hih r hend hpan m (k+1) l' σ _ _ _ _ (by omega) hl' hrest q2 p1 p2 (p3.trans hd) (hD.ext q3) (hE.trans q3)
   ·subst eo;cases hrest;exact hpan v s h1 v' σ a w' rfl q1 (hs.mono q3.le) q2 hN hd (hD.ext q3) (hE.trans q3)
  |false=>
   simp only[qx,if_false];cases hstep;obtain⟨p1,p2,p3⟩:=zh4 (v':=undef) hdst hdlt hs hN (VR.tuple_of (VRL.nil ρ));exact⟨fun f _=>Wf_fn r f,zjX hih r hend hpan m (k+1) l' ρ _ _ _ _ (by omega) hl' hrest hr p1 p2 (p3.trans hd) hD hE⟩
theorem ops_wpIn {ih:IH} {M:Nat} (hih: ∀t o,ih t=some o→zdF P M t o) {N:Nat} {ops:Array Oper} (r:Option Nat) {Ds:List Nat} {Db:List Deferred} {out:Out} {l:List CI} {ρ:Rho} {s:zb} {h:H} {a:Act} {w:World}
 (hl:allO (zt P N ops) ops.toList=some l) (hrun:zcO ih l s h=some out) (hr:HR P ρ h w) (hs:SR ρ s a.tmps) (hN:a.tmps.size=N) (hd:a.defers=Ds.map zB++Db) (hD:zb6 ρ w Ds):
 wpOpsIn (Wf r) 0 P ops (zc7 P ρ w N Ds Db out) (qbv ops.size) a w:=by
 have:=zjX (ops:=ops) (Q:=zc7 P ρ w N Ds Db out) (rest:=[]) hih r (w0:=w) (ρ0:=ρ) (Ds:=Ds) (Db:=Db) (out:=out)
  (fun sF hF σ a1 w1 eo q1 q2 q3 q4 q5 q6=>⟨σ,Ds,sF,hF,q6,q3,q4,⟨q5,fun D h=>.inl h⟩,q1,q2,.inl ⟨eo,rfl⟩⟩)
  (fun v sF hF v' σ a1 w1 eo q0 q1 q2 q3 q4 q5 q6=>⟨σ,Ds,sF,hF,q6,q3,q4,⟨q5,fun D h=>.inl h⟩,q1,q2,.inr (.inr (.inr ⟨v,v',eo,q0,rfl⟩))⟩)
  ops.size 0 l ρ s h a w (by omega) (by rw[List.drop_zero,qbQ (by simp)];exact hl) hrun hr hs hN hd hD (.refl _ _)
 rw[List.append_nil] at this;rw[List.range_eq_range'];exact this
end
section
variable {ρ:Rho} {h h':H} {w:World} {s:zb} {a:Act}
theorem zjR {F:Fence} {n:Nat} {c:Code} {Q Q':Exit→Act→World→Prop} (hq: ∀e a w,Q e a w→Q' e a w): ∀(m:Nat) (a:Act) (w:World),Code.roundsIn F n P c Q m a w→Code.roundsIn F n P c Q' m a w
 |0,_,_,h=>h
 |m+1,a,w,h=>by
  rw[roundsIn_succ] at h⊢;refine wpIn_mono h (fun e a w h=> ?_);cases e
  case normal=>exact zjR hq m a w h
  all_goals exact hq _ _ _ h
theorem zc7.ext {ρ σ:Rho} {w w':World} {N:Nat} {Ds0 Ds:List Nat} {Db:List Deferred} {o:Out} {e:Exit} {a:Act} {w'':World} (he:Ext ρ w σ w') (hds: ∀D∈Ds,D∈Ds0∨w.heap.size≤D) (hp:zc7 P σ w' N Ds Db o e a w''):zc7 P ρ w N Ds0 Db o e a w'':=by
 obtain⟨τ,Ds,s,h,h1,h2,h3,⟨h4,h5⟩,h6⟩:=hp;exact⟨τ,Ds,s,h,he.trans h1,h2,h3,⟨h4,fun D hD=>(h5 D hD).elim (fun h=>hds D h) (fun h=>.inr (qbn he.size h))⟩,h6⟩
theorem wpIn_scope {F:Fence} {n:Nat} {c:Code} {Q:Exit→Act→World→Prop} (h:c.wpIn F n P Q a w) (hq: ∀l,findLabel c l=none):(Code.scope c).wpIn F n P Q a w:=by
 intro b k cs hro hb hr;have h0:(lone (b.atR a (.code (.scope c)::k)) cs w).fenced P F:=qbS hb hr rfl;have s0:step P (lone (b.atR a (.code (.scope c)::k)) cs w)=.next (lone (b.atR a (.code c:: .inScope c::k)) cs w):=qbL (by simp[stepG,stepG.exec,Frame.atR])
 obtain⟨e,a₁,w₁,hQ,harr⟩:=h b (.inScope c::k) cs hro hb hr;cases e with
 |normal=>
  have s1:step P (lone (b.atR a₁ (.inScope c::k)) cs w₁)=.next (lone (b.atR a₁ k) cs w₁):=qbL (by simp[stepG,stepG.exec,Frame.atR])
  exact⟨.normal,a₁,w₁,hQ,.head h0 s0 (StepsIn.trans harr (.one (qbS hb hr rfl) s1))⟩
 |exit id=>
  have hx:exitTo id (.inScope c::k)=exitTo id k:=by simp[exitTo]
  exact⟨.exit id,a₁,w₁,hQ,fun k' hk=>.head h0 s0 (harr.1 k' (by rw[hx];exact hk)),fun hr' hk=>let⟨k₁,h1,h2⟩:=harr.2 hr' (by rw[hx];exact hk);⟨k₁,h1,.head h0 s0 h2⟩⟩
 |goto l=>
  have hx:gotoIn l (.inScope c::k)=gotoIn l k:=by simp[gotoIn,hq l]
  exact⟨.goto l,a₁,w₁,hQ,fun k' hk=>.head h0 s0 (harr.1 k' (by rw[hx];exact hk)),fun hr' hk=>let⟨k₁,h1,h2⟩:=harr.2 hr' (by rw[hx];exact hk);⟨k₁,h1,.head h0 s0 h2⟩⟩
 |ret=>exact⟨_,a₁,w₁,hQ,.of_steps (.one h0 s0) harr⟩
 |panic ch=>exact⟨_,a₁,w₁,hQ,.of_steps (.one h0 s0) harr⟩
 |outgrown=>exact⟨_,a₁,w₁,hQ,.of_steps (.one h0 s0) harr⟩
theorem zk9 {c:CC} (h:CC.skip=zA c):c=.skip:=by cases c<;>simp[zA] at h;rfl
theorem zla {c:CC} {i:Nat} (h:CC.exit i=zA c):c=.exit i:=by cases c<;>simp[zA] at h;rw[h]
theorem strip_ret {c:CC} (h:CC.ret=zA c):c=.ret:=by cases c<;>simp[zA] at h;rfl
theorem zjy {c:CC} {l:List CI} (h:CC.ops l=zA c):c=.ops l:=by cases c<;>simp[zA] at h;rw[h]
theorem strip_draw {c:CC} {l:List CI} (h:CC.draw l=zA c):c=.draw l:=by cases c<;>simp[zA] at h;rw[h]
theorem strip_draw2 {c:CC} {l:List CI} {x y:CI} (h:CC.draw2 l x y=zA c):c=.draw2 l x y:=by cases c<;>simp[zA] at h;rw[h.1,h.2.1,h.2.2]
theorem zjx {c x y:CC} {L:List (List Bool)} (h:CC.seq x L y=zA c): ∃a L' b,c=.seq a L' b∧x=zA a∧y=zA b:=by
 cases c<;>simp[zA] at h;exact⟨_,_,_,rfl,h.1,h.2.2⟩
theorem zlb {c x y:CC} {v:CO} (h:CC.cond v x y=zA c): ∃a b,c=.cond v a b∧x=zA a∧y=zA b:=by
 cases c<;>simp[zA] at h;obtain⟨rfl,h1,h2⟩:=h;exact⟨_,_,rfl,h1,h2⟩
theorem strip_block {c x:CC} {i:Nat} (h:CC.block i x=zA c): ∃a,c=.block i a∧x=zA a:=by
 cases c<;>simp[zA] at h;obtain⟨rfl,h1⟩:=h;exact⟨_,rfl,h1⟩
theorem strip_scope {c x q1 q2:CC} {l1 l2:Nat} (h:CC.scope x l1 q1 l2 q2=zA c): ∃a r1 r2,c=.scope a l1 r1 l2 r2∧x=zA a∧q1=zA r1∧q2=zA r2:=by
 cases c<;>simp[zA] at h;obtain⟨rfl,rfl,h1,rfl,h2⟩:=h;exact⟨_,_,_,rfl,rfl,h1,h2⟩
theorem strip_loop {c x:CC} {L:List (List Bool)} (h:CC.loop L x=zA c): ∃L' a,c=.loop L' a∧x=zA a:=by
 cases c<;>simp[zA] at h;exact⟨_,_,rfl,h.2⟩
theorem strip_range {c x y:CC} {r:Nat} {L:List (List Bool)} {f:CO} {ps:List (List Bool)} (h:CC.rangeFunc r L f ps x y=zA c): ∃r' L' a b,c=.rangeFunc r' L' f ps a b∧x=zA a∧y=zA b:=by
 cases c<;>simp[zA] at h;obtain⟨_,_,rfl,rfl,h1,h2⟩:=h;exact⟨_,_,_,_,rfl,h1,h2⟩
end
def zcc (l:Nat):List (Nat×CC)→Option CC
 | []=>none
 |x::r=>if x.1=l then some x.2 else zcc l r
theorem lookL_app (l:Nat): ∀(x y:List (Nat×CC)),zcc l (x++y)=match zcc l x with|some r=>some r|none=>zcc l y
 | [],y=>rfl
 |a::x,y=>by
  show(if a.1=l then _ else zcc l (x++y))=_;rw[lookL_app l x y];show _=match(if a.1=l then some a.2 else zcc l x) with|some r=>some r|none=>zcc l y
  split<;>rfl
theorem lookL_map (l:Nat) (f:CC→CC): ∀(x:List (Nat×CC)),zcc l (x.map fun y=>(y.1,f y.2))=(zcc l x).map f
 | []=>rfl
 |a::x=>by
  show(if a.1=l then _ else zcc l (x.map _))=_;rw[lookL_map l f x];show _=(if a.1=l then some a.2 else zcc l x).map f
  split<;>rfl
def LabR (P:Program) (N:Nat) (c:Code) (ls:List (Nat×CC)) (l:Nat):Prop:=match zcc l ls with
 |none=>findLabel c l=none
 |some r=> ∃rest,findLabel c l=some rest∧ze P N rest=some r
theorem zkb {P:Program} {N:Nat}: ∀(c:Code) {ls:List (Nat×CC)},labC P N c=some ls→ ∀l,LabR P N c ls l
 |.label m,ls,h,l=>by
  cases h;unfold LabR zcc;by_cases e:m=l
  ·simp[e,findLabel,ze]
  ·simp[e,findLabel,zcc]
 |.seq a b,ls,h,l=>by
  obtain⟨la,ha,h⟩:=aof h;obtain⟨lb,hb,h⟩:=aof h;have ia:=zkb a ha l;have ib:=zkb b hb l;cases la with
  |nil=>
   cases h;have ia:findLabel a l=none:=ia;unfold LabR at ib⊢;simp only[findLabel,ia];exact ib
  |cons x la=>
   obtain⟨cb,hcb,rfl⟩:=amf h;unfold LabR at ia ib⊢;rw[lookL_app,lookL_map l (fun r=>.seq r [] cb)];cases hl:zcc l (x::la) with
   |none=>rw[hl] at ia;simp only[Option.map_none,findLabel,ia];exact ib
   |some r=>
    rw[hl] at ia;obtain⟨rest,h1,h2⟩:=ia;simp only[qB,findLabel,h1];exact⟨_,rfl,by simp[ze,h2,hcb]⟩
 |.skip,ls,h,l=>by cases h;simp[LabR,zcc,findLabel]
 |.region _ _ _,ls,h,l=>by cases h;simp[LabR,zcc,findLabel]
 |.cond _ _ _,ls,h,l=>by cases h;simp[LabR,zcc,findLabel]
 |.block _ _,ls,h,l=>by cases h;simp[LabR,zcc,findLabel]
 |.loop _,ls,h,l=>by cases h;simp[LabR,zcc,findLabel]
 |.rangeFunc _ _ _ _,ls,h,l=>by cases h;simp[LabR,zcc,findLabel]
 |.exit _,ls,h,l=>by cases h;simp[LabR,zcc,findLabel]
 |.ret,ls,h,l=>by cases h;simp[LabR,zcc,findLabel]
 |.scope _,ls,h,l=>by cases h;simp[LabR,zcc,findLabel]
 |.goto _,ls,h,l=>by cases h;simp[LabR,zcc,findLabel]
 |.refuse _,ls,h,l=>by cases h;simp[LabR,zcc,findLabel]
theorem zgy {P:Program} {N:Nat} {b:Code} {c:CC} (hc:ze P N (.scope b)=some c):(ze P N b=some c∧ ∀l,findLabel b l=none)∨c=zfr∨ ∃cb l1 r1 l2 r2,ze P N b=some cb∧c=.scope cb l1 r1 l2 r2∧
 (∃rest,findLabel b l1=some rest∧ze P N rest=some r1)∧(∃rest,findLabel b l2=some rest∧ze P N rest=some r2)∧ ∀l,l≠l1→l≠l2→findLabel b l=none:=by
 obtain⟨cb,hb,hc⟩:=aof (show(ze P N b).bind (fun c=>(labC P N b).map (scopeOf c))=some c from hc);obtain⟨ls,hl,rfl⟩:=amf hc;have hs:=zkb b hl
 match ls,hs with
 | [],hs=>exact .inl ⟨hb,fun l=>hs l⟩
 | [(l,r)],hs=>
   refine .inr (.inr ⟨cb,l,r,l,r,hb,rfl,?_,?_,fun m hm _=> ?_⟩)
   ·have:=hs l;simpa[LabR,zcc] using this
   ·have:=hs l;simpa[LabR,zcc] using this
   ·have:=hs m;simpa[LabR,zcc,Ne.symm hm] using this
 | [(l,r),(m,q)],hs=>
   show _∨(match qE l m with|true=>zfr|false=>CC.scope cb l r m q)=zfr∨_;cases e:qE l m with
   |true=>exact .inr (.inl rfl)
   |false=>
    have hne:l≠m:=fun h=>by subst h;simp at e
    refine .inr (.inr ⟨cb,l,r,m,q,hb,by simp[scopeOf,e],?_,?_,fun n h1 h2=> ?_⟩)
    ·have:=hs l;simpa[LabR,zcc] using this
    ·have:=hs m;simpa[LabR,zcc,hne] using this
    ·have:=hs n;simpa[LabR,zcc,Ne.symm h1,Ne.symm h2] using this
 |_::_::_::_,_=>exact .inr (.inl rfl)
theorem scope_sound {P:Program} {ih:IH} {M:Nat} (hih: ∀t o,ih t=some o→zdF P M t o) {b:CC} {l1:Nat} {r1:CC} {l2:Nat} {r2:CC} {s:zb} {h:H} {o:Out} (hv:zdj ih b l1 r1 l2 r2 s h=some o):zdF P M (.scope b l1 r1 l2 r2 s h) o:=by
 intro body x N hx hlab r ρ a w Ds Db hR hN hs hr hd hD fb k cs hro hb hr';obtain⟨o1,h1,h2⟩:=aof hv;obtain⟨e,a1,w1,hQ,harr⟩:=(hih _ _ h1 x N hx r ρ a w Ds Db hR hN hs hr hd hD).wpIn fb (.inScope body::k) cs hro hb hr';obtain⟨σ,Ds1,s1,hh1,he,hN1,hd1,⟨hD1,hds1⟩,hs1,hr1,hcase⟩:=hQ;rcases hcase with⟨rfl,rfl⟩| ⟨i,rfl,rfl⟩| ⟨rfl,rfl⟩| ⟨pv,pv',rfl,hpv,rfl⟩
 ·cases h2;have st:step P (lone (fb.atR a1 (.inScope body::k)) cs w1)=.next (lone (fb.atR a1 k) cs w1):=step_lone_go (by simp[stepG,stepG.exec,Frame.atR])
  exact⟨.normal,a1,w1,⟨σ,Ds1,s1,hh1,he,hN1,hd1,⟨hD1,hds1⟩,hs1,hr1,.inl ⟨rfl,rfl⟩⟩,StepsIn.trans harr (.one (qbS hb hr' rfl) st)⟩
 ·have h2:zdi ih l1 r1 l2 r2 i s1 hh1=some o:=h2;rcases zf7 i with⟨j,rfl⟩| ⟨l,rfl⟩
  ·have e1:qE (2*j) (zb4 l1)=false:=by
    cases hq:qE (2*j) (zb4 l1) with
    |false=>rfl
    |true=>have:=qi hq;unfold zb4 at this;omega
   have e2:qE (2*j) (zb4 l2)=false:=by
    cases hq:qE (2*j) (zb4 l2) with
    |false=>rfl
    |true=>have:=qi hq;unfold zb4 at this;omega
   unfold zdi at h2;rw[e1,e2] at h2;cases h2;rw[zcu] at harr;have hx:exitTo j (.inScope body::k)=exitTo j k:=by simp[exitTo]
   exact⟨.exit j,a1,w1,⟨σ,Ds1,s1,hh1,he,hN1,hd1,⟨hD1,hds1⟩,hs1,hr1,.inr (.inl ⟨_,rfl,(zcu j).symm⟩)⟩,fun k' hk=>harr.1 k' (by rw[hx];exact hk),fun hr' hk=>let⟨k₁,h1,h2⟩:=harr.2 hr' (by rw[hx];exact hk);⟨k₁,h1,h2⟩⟩
  ·rw[zcU] at harr;have hne: ∀{m:Nat},l≠m→qE (zb4 l) (zb4 m)=false:=by
    intro m hm;cases hq:qE (zb4 l) (zb4 m) with
    |false=>rfl
    |true=>have:=qi hq;unfold zb4 at this;omega
   have jump: ∀{rc:CC} {rest:Code},findLabel body l=some rest→ze P N rest=some (zA rc)→ih (.scope rc l1 r1 l2 r2 s1 hh1)=some o→ ∃e a' w',zc7 P ρ w N Ds Db o e a' w'∧ArrivesIn (Machine.fenced P (Wf r)) P (lone (fb.atR a (.code x:: .inScope body::k)) cs w) fb k cs e a' w':=by
    intro rc rest hf hcr hi;have hg:gotoIn l (.inScope body::k)=some (.code rest:: .inScope body::k):=by simp[gotoIn,hf]
    obtain⟨e2,a2,w2,hQ2,harr2⟩:=hih _ _ hi body rest N hcr hlab r σ a1 w1 Ds1 Db (hR.ext he) hN1 hs1 hr1 hd1 hD1 fb k cs hro hb hr';exact⟨e2,a2,w2,hQ2.ext he hds1,.of_steps (harr.1 _ hg) harr2⟩
   by_cases hl1:l=l1
   ·subst hl1;unfold zdi at h2;rw[qbK] at h2;obtain⟨rest,hf,hcr⟩:=hlab.1;exact jump hf hcr h2
   ·by_cases hl2:l=l2
    ·subst hl2;unfold zdi at h2;rw[hne hl1,qbK] at h2;obtain⟨rest,hf,hcr⟩:=hlab.2.1;exact jump hf hcr h2
    ·unfold zdi at h2;rw[hne hl1,hne hl2] at h2;cases h2;have hx:gotoIn l (.inScope body::k)=gotoIn l k:=by simp[gotoIn,hlab.2.2 l hl1 hl2]
     exact⟨.goto l,a1,w1,⟨σ,Ds1,s1,hh1,he,hN1,hd1,⟨hD1,hds1⟩,hs1,hr1,.inr (.inl ⟨_,rfl,(zcU l).symm⟩)⟩,fun k' hk=>harr.1 k' (by rw[hx];exact hk),fun hr' hk=>let⟨k₁,h1,h2⟩:=harr.2 hr' (by rw[hx];exact hk);⟨k₁,h1,h2⟩⟩
 ·cases h2;exact⟨.ret,a1,w1,⟨σ,Ds1,s1,hh1,he,hN1,hd1,⟨hD1,hds1⟩,hs1,hr1,.inr (.inr (.inl ⟨rfl,rfl⟩))⟩,harr⟩
 ·cases h2;exact⟨.panic (one pv'),a1,w1,⟨σ,Ds1,s1,hh1,he,hN1,hd1,⟨hD1,hds1⟩,hs1,hr1,.inr (.inr (.inr ⟨pv,pv',rfl,hpv,rfl⟩))⟩,harr⟩
theorem wpIn_inScope {P:Program} {F:Fence} {c:Code} {Q:Exit→Act→World→Prop} {a:Act} {w:World} (h:InScope F P c c Q a w):(Code.scope c).wpIn F 0 P Q a w:=by
 intro b k cs hro hb hr;have h0:(lone (b.atR a (.code (.scope c)::k)) cs w).fenced P F:=qbS hb hr rfl;have s0:step P (lone (b.atR a (.code (.scope c)::k)) cs w)=.next (lone (b.atR a (.code c:: .inScope c::k)) cs w):=qbL (by simp[stepG,stepG.exec,Frame.atR])
 obtain⟨e,a1,w1,hQ,harr⟩:=h b k cs hro hb hr;exact⟨e,a1,w1,hQ,.of_steps (.one h0 s0) harr⟩
end
section
variable {P:Program}
section
variable {ρ:Rho} {h h':H} {w:World} {s:zb} {a:Act}
theorem isFn_some {v u:Value} (h:isFn v=some u): ∃g x y,v=.func (.func g) x y∧u=v:=by
 unfold isFn at h
 split at h
 ·cases h;exact⟨_,_,_,rfl,rfl⟩
 ·cases h
theorem zhl (hr:HR P ρ h w) {i:Nat} {R:RB} (hi:ρ i=some R) {st:LoopState} {pend:Option CC} {sl:zb} {rc:RC} (hg:h.get i=some (.loop st pend sl rc)):
 ∃lp:Loop,w.heap[R.blk]? =some (.loop lp)∧lp.state=st∧PendR pend lp.pending∧SR ρ sl lp.tmps∧rc.ps=lp.params.toList.map bits∧(∀t∈lp.params.toList,t<lp.tmps.size)∧ze P lp.tmps.size lp.assign=some (zA rc.as)∧ze P lp.tmps.size lp.body=some (zA rc.b):=
 hr.obj i R _ hi hg
theorem loop_put (hr:HR P ρ h w) {i:Nat} {R:RB} (hi:ρ i=some R) {st:LoopState} {pend:Option CC} {sl:zb} {rc:RC} (hg:h.get i=some (.loop st pend sl rc)) {lp lp':Loop}
 (hl:w.heap[R.blk]? =some (.loop lp)) {st':LoopState} {pend':Option CC} (h1:lp'.state=st') (h2:PendR pend' lp'.pending) (h3:lp'.tmps=lp.tmps) (h4:lp'.params=lp.params) (h5:lp'.assign=lp.assign) (h6:lp'.body=lp.body) (h7:lp'.defers=lp.defers):
 HR P ρ (h.put i (.loop st' pend' sl rc)) (w.putObj R.blk (.loop lp'))∧Ext ρ w ρ (w.putObj R.blk (.loop lp')):=by
 obtain⟨lp0,q0,q1,q2,q3,q4,q5,q6,q7⟩:=zhl hr hi hg;rw[hl] at q0;cases q0;have hblt:=hr.blk i R hi;exact hr.putBoth hi hg (by simp) hl (fun r hr'=>by cases hr';exact⟨lp',rfl,h7⟩) (zhF _) (zhF _) ⟨lp',by simp[hblt],h1,h2,by rw[h3];exact q3,by rw[h4];exact q4,by rw[h3,h4];exact q5,by rw[h3,h5];exact q6,by rw[h3,h6];exact q7⟩
theorem pend_wpIn {N:Nat} {Ds:List Nat} {Db:List Deferred} {o:Out} {pend:Option CC} {jump:Option Code} (hp:PendR pend jump) (ho:pendK s h pend=some o) {r:Option Nat} {Ds0:List Nat} {ρ0:Rho} {w0:World} (he:Ext ρ0 w0 ρ w) (hN:a.tmps.size=N) (hd:a.defers=Ds.map zB++Db) (hD:zb6 ρ w Ds)
 (hds: ∀D∈Ds,D∈Ds0∨w0.heap.size≤D) (hs:SR ρ s a.tmps) (hr:HR P ρ h w):
 (match(generalizing:=false) jump with|none=>zc7 P ρ0 w0 N Ds0 Db o .normal a w|some c=>c.wpIn (Wf r) 0 P (zc7 P ρ0 w0 N Ds0 Db o) a w):=by
 unfold pendK at ho
 split at ho
 ·cases ho;cases jump with
  |none=>exact⟨ρ,Ds,s,h,he,hN,hd,⟨hD,hds⟩,hs,hr,.inl ⟨rfl,rfl⟩⟩
  |some c=>cases c<;>exact hp.elim
 ·cases ho;cases jump with
  |none=>exact hp.elim
  |some c=>cases c<;>first|exact hp.elim|exact wpIn_ret ⟨ρ,Ds,s,h,he,hN,hd,⟨hD,hds⟩,hs,hr,.inr (.inr (.inl ⟨rfl,rfl⟩))⟩
 ·cases ho;cases jump with
  |none=>exact hp.elim
  |some c=>
   have hp:c=coOf _:=hp;subst hp;rename_i i;rcases zf7 i with⟨j,rfl⟩| ⟨l,rfl⟩
   ·rw[coOf_even];exact wpIn_exit ⟨ρ,Ds,s,h,he,hN,hd,⟨hD,hds⟩,hs,hr,.inr (.inl ⟨_,rfl,(zcu j).symm⟩)⟩
   ·rw[coOf_goto];exact wpIn_goto ⟨ρ,Ds,s,h,he,hN,hd,⟨hD,hds⟩,hs,hr,.inr (.inl ⟨_,rfl,(zcU l).symm⟩)⟩
 ·cases ho
theorem range_sound {ih:IH} {M:Nat} (hih: ∀t o,ih t=some o→zdF P M t o) {N:Nat} {f:Operand} {ps:Array Tmp} {as b:Code} {cf:CO} {cas cb:CC} (hps:ps.toList.all (· <N)=true) (hf:co f=some cf) (has:ze P N as=some (zA cas)) (hb:ze P N b=some (zA cb)) {rid:Nat} {L:List (List Bool)}
 {o:Out} (hv:sRange rid L cf (ps.toList.map bits) cas cb ih s h=some o) {r:Option Nat} {Ds:List Nat} {Db:List Deferred} (hR:zfb r w) (hN:a.tmps.size=N) (hs:SR ρ s a.tmps) (hr:HR P ρ h w) (hd:a.defers=Ds.map zB++Db) (hD:zb6 ρ w Ds):
 (Code.rangeFunc f ps as b).wpIn (Wf r) 0 P (zc7 P ρ w N Ds Db o) a w:=by
 obtain⟨u,hu,hv1⟩:=aof hv;obtain⟨u',hfn,hv2⟩:=aof hv1;obtain⟨o1,ho1,hv3⟩:=aof hv2;obtain⟨⟨v1,h1⟩,hval,hv4⟩:=aof hv3;obtain⟨lo,hlo,hv5⟩:=aof hv4;clear hv hv1 hv2 hv3 hv4;obtain⟨g,first,captured,rfl,rfl⟩:=isFn_some hfn;obtain⟨v0,h0,rfl⟩: ∃v0 h0,o1=.val v0 h0:=by cases o1<;>first|exact⟨_,_,rfl⟩| (simp[zhR] at hval)
 simp only[zhR,qq,qC] at hval;obtain⟨rfl,rfl⟩:=hval;have rf:=zbb hf hs hu;obtain⟨first',captured',hfe⟩: ∃x y,a.eval f=.func (.func g) x y:=by
  generalize a.eval f=y at rf;cases rf;exact⟨_,_,rfl⟩
 rw[hfe] at rf;refine wpIn_rangeFunc ?_;intro fn _;have enter: ∃(l:Nat) (mark:List Deferred) (Dn:List Nat) (w1:World) (σ:Rho) (R:RB),(qb8 fn a.tmps ps as b (Wf r).round).run P w=.ok (l,mark) w1∧mark=Dn.map zB∧(∀D∈Dn,w.heap.size≤D)∧
  R.blk=l∧σ h.next=some R∧HR P σ (h.new (.loop .ready none (keepA L s) ⟨rid,L,ps.toList.map bits,cas,cb⟩)) w1∧Ext ρ w σ w1∧zb6 σ w1 (Dn++Ds):=by
  have hor: ∀(w0:World) (σ:Rho) (R:RB) (dd:Nat),R.blk=w0.heap.size→SR σ s a.tmps→OR P σ (w0.alloc (.loop {state:=.ready,pending:=none,fn,tmps:=a.tmps,params:=ps,assign:=as,body:=b,defers:=dd})) R (.loop .ready none (keepA L s) ⟨rid,L,ps.toList.map bits,cas,cb⟩):=by
   intro w0 σ R dd hR hs;refine⟨{state:=.ready,pending:=none,fn,tmps:=a.tmps,params:=ps,assign:=as,body:=b,defers:=dd},by rw[hR];exact zV _ _,rfl,trivial,hs.keep L,rfl,fun t ht=> ?_,by dsimp only;rw[hN];exact has,by dsimp only;rw[hN];exact hb⟩;have:=qG.1 hps t ht;simp only[decide_eq_true_eq] at this;show t<a.tmps.size;rw[hN];exact this
  rw[Wf_round];cases r with
  |none=>
   obtain⟨g1,g2⟩:=hr.garbage (o:=.deferred (some [])) (zbc _);have hfree:=(hr.nxt _ (qd _)).1;obtain⟨k1,k2⟩:=g1.new (R:=⟨(w.alloc (.deferred (some []))).heap.size,0,0,0,0,none⟩) (io:=.loop .ready none (keepA L s) ⟨rid,L,ps.toList.map bits,cas,cb⟩) rfl (zhF _) (hor _ _ _ w.heap.size rfl (hs.mono (zdg _ hfree)));refine⟨_,_,[w.heap.size],_,_,_,run_enterLoop_outer fn a.tmps ps as b,rfl,by simp,by simp,zH _ _ _,k1,g2.trans k2,?_⟩;have hD1:zb6 ρ (w.alloc (.deferred (some []))) (w.heap.size::Ds):=by
    have hD':=hD.ext g2;refine⟨qbN.2 ⟨fun hm=>by have:=(hD.ok _ hm).1;omega,hD.nodup⟩,fun D hm=> ?_⟩;rcases qbi.1 hm with rfl|hm
    ·exact⟨by simp,fun i R hi e=>by have:=hr.blk i R hi;omega,zV _ _⟩
    ·exact hD'.ok D hm
   exact hD1.ext k2
  |some l0=>
   obtain⟨lp,hlp⟩:=hR l0 rfl;have hfree:=(hr.nxt _ (qd _)).1;obtain⟨k1,k2⟩:=hr.new (R:=⟨w.heap.size,0,0,0,0,none⟩) (io:=.loop .ready none (keepA L s) ⟨rid,L,ps.toList.map bits,cas,cb⟩) rfl (zhF _) (hor _ _ _ lp.defers rfl (hs.mono (zdg _ hfree)));refine⟨w.heap.size,[],[],_,_,_,?_,rfl,by simp,rfl,zH _ _ _,k1,k2,hD.ext k2⟩;unfold qb8;simp only[qr,run_getLoop hlp,qo,qF,run_newObj,World.alloc_eq]
 obtain⟨l,mark,Dn,w1,σ,R,e1,rfl,e2,rfl,e4,e5,e6,e7⟩:=enter;have hcall:=hih _ _ ho1 σ (.func (.func g) first' captured') #[.func (.yield R.blk) #[] #[]] w1 (rf.mono e6.le) (.cons (.yield e4) (.nil _)) e5;obtain⟨hcalls,henter⟩:=hcall;refine⟨R.blk,Dn.map zB,w1,{target:=.fn (.func g) captured',args:=first'++ #[.func (.yield R.blk) #[] #[]]},w1,g,first'++ #[.func (.yield R.blk) #[] #[]]++captured',w1,e1,?_,fun f' _=>Wf_fn r f',?_,(fun h=>by rw[zjk] at h;cases h),?_⟩
 ·have hy:a.eval (.const (.func (.yield R.blk) #[] #[]))=.func (.yield R.blk) #[] #[]:=rfl;simp[resolve,hfe,Deferred.ofValue,hy]
 ·simp only[invoke];exact henter w1
 ·refine(zkz r hcalls).mono ?_;intro e w3 hpp;obtain⟨v3,h3,v',τ,eo,rfl,q1,q2,q3⟩:=hpp.val;cases eo;have hi:τ h.next=some R:=q3.le _ _ e4;have fin: ∀{st:LoopState} {pend:Option CC} {sl:zb} {rc:RC},st≠ .busy→h0.get h.next=some (IObj.loop st pend sl rc)→pendK s (h0.put h.next (IObj.loop .exhausted pend sl rc)) pend=some o→
   rangePost (Wf r) 0 P R.blk (zc7 P ρ w N Ds Db o) {a with defers:=Dn.map zB++a.defers} (.returned v') w3:=by
   intro st pend sl rc hst hg hpk;obtain⟨lp,p0,p1,p2,p3⟩:=zhl q2 hi hg;obtain⟨g1,g2⟩:=loop_put q2 hi hg p0 (lp':={lp with state:=.exhausted}) (st':=.exhausted) (pend':=pend) rfl p2 rfl rfl rfl rfl rfl;refine⟨lp.pending,_,run_endLoop p0 (by rw[p1];exact hst),?_⟩;have hE:Ext ρ w τ (w3.putObj R.blk (.loop {lp with state:=.exhausted})):=(e6.trans q3).trans g2;exact pend_wpIn (a:={a with defers:=Dn.map zB++a.defers}) (Ds:=Dn++Ds) p2 hpk hE hN (by show Dn.map zB++a.defers=_;rw[hd,List.map_append,List.append_assoc]) ((e7.ext q3).ext g2) (fun D hm=>(List.mem_append.1 hm).elim (fun h=>.inr (e2 D h)) .inl) (hs.mono hE.le) g1
  cases lo with
  |loop st pend sl rc=>
   cases st<;>simp only[zg9,reduceCtorEq] at hv5
   ·exact fin (by simp) hlo hv5
   ·exact fin (by simp) hlo hv5
  |cells _ _=>cases hv5
  |map _ _=>cases hv5
  |dead=>cases hv5
  |glob _ _=>cases hv5
theorem argSlots_cons (v:Value) (l:List Value) (i:Nat) (s:zb):zcy (v::l) i s=zcy l (i+1) (s.set (bits i) v):=rfl
theorem ziK: ∀(l:List Value) (i:Nat) (s:zb) (t:Nat) (v:Value),(zcy l i s).get (bits t)=some v→(i≤t∧l[t - i]? =some v)∨(s.get (bits t)=some v∧ ¬(i≤t∧t<i+l.length))
 | [],i,s,t,v,h=>.inr ⟨h,by simp⟩
 |x::l,i,s,t,v,h=>by
  rw[argSlots_cons] at h;rcases ziK l (i+1) _ t v h with⟨h1,h2⟩| ⟨h1,h2⟩
  ·refine .inl ⟨by omega,?_⟩;have:t - i=(t - (i+1))+1:=by omega
   rw[this];simpa using h2
  ·rw[PT.get_set_bits] at h1;by_cases e:i=t
   ·subst e;rw[if_pos rfl] at h1;cases h1;exact .inl ⟨qd _,by simp⟩
   ·rw[if_neg e] at h1;exact .inr ⟨h1,by simp;omega⟩
theorem args_SR {ρ:Rho} {l:List Value} {args:Array Value} (hv:VRL ρ l args.toList) (m:Nat):SR ρ (zcy l 0 .nil) (args++qZ m undef):=by
 intro t v h;rcases ziK l 0 .nil t v h with⟨_,h2⟩| ⟨h2,_⟩
 ·rw[Nat.sub_zero] at h2;obtain⟨v',hv',hr⟩:=hv.get h2;rw[qL] at hv';exact⟨v',by rw[qbh (qh.1 hv').1];exact hv',hr⟩
 ·simp at h2
theorem setSlots_nil (vs:List Value) (s:zb):zf2 [] vs s=match vs with| []=>some s|_::_=>none:=rfl
theorem setSlots_cons (p:List Bool) (ps:List (List Bool)) (vs:List Value) (s:zb):zf2 (p::ps) vs s=match vs with| []=>none|v::vs=>zf2 ps vs (s.set p v):=rfl
theorem zjE {ρ:Rho}: ∀(ps:List Tmp) (vs:List Value) (ws:List Value) (s s':zb) (tmps:Array Value),zf2 (ps.map bits) vs s=some s'→VRL ρ vs ws→SR ρ s tmps→(∀t∈ps,t<tmps.size)→
 vs.length=ps.length∧SR ρ s' ((ps.zip ws).foldl (fun tmps (p:Tmp×Value)=>tmps.setIfInBounds p.1 p.2) tmps)∧((ps.zip ws).foldl (fun tmps (p:Tmp×Value)=>tmps.setIfInBounds p.1 p.2) tmps).size=tmps.size
 | [],vs,ws,s,s',tmps,h,hv,hs,hl=>by
   rw[List.map_nil,setSlots_nil] at h;cases vs with
   |nil=>cases h;exact⟨rfl,hs,rfl⟩
   |cons v vs=>cases h
 |p::ps,vs,ws,s,s',tmps,h,hv,hs,hl=>by
  rw[List.map_cons,setSlots_cons] at h;cases vs with
  |nil=>cases h
  |cons v vs=>
   obtain⟨y,ys,rfl,h1,h2⟩:=hv.cons_left;obtain⟨q1,q2,q3⟩:=zjE ps vs ys _ s' (tmps.setIfInBounds p y) h h2 (hs.set (hl p (by simp)) h1) (fun t ht=>by simpa using hl t (by simp[ht]));exact⟨by simp[q1],by simpa using q2,by simpa using q3⟩
theorem asAddr_run {ρ:Rho} {v:Value} {ad:Addr} (hp:zgB v=some ad) {v':Value} (hv:VR ρ v v') (w:World): ∃R,ρ ad.block=some R∧(asAddr v').run P w=.ok ⟨R.blk,R.base+ad.off,none⟩ w:=by
 obtain rfl:=zee hp;obtain⟨R,hR,rfl⟩:=hv.inv_ptr;exact⟨R,hR,by simp[asAddr]⟩
theorem getD_of {tmps:Array Value} {t:Nat} {v:Value} (h:tmps[t]? =some v):tmps.getD t undef=v:=by rw[qu,h];rfl
theorem zjS {fn:Func} {rs:List CR} (hc:allO (zba P) fn.results.toList=some rs) {ρ:Rho} {h:H} {w:World} {s:zb} {tmps:Array Value} (hr:HR P ρ h w) (hs:SR ρ s tmps) {o:Out} (ho:ziQ rs s h=some o):
 ∃v v',o=.val v h∧(results fn tmps).run P w=.ok v' w∧VR ρ v v':=by
 obtain⟨vs,hvs,rfl⟩:=amf ho;have key: ∀(xs:List ResultVar) (rs:List CR) (vs:List Value),allO (zba P) xs=some rs→allO (resV s h) rs=some vs→
  ∃ws,VRL ρ vs ws∧ ∀f:ResultVar→Sem Value,(∀t,f (.tmp t)=pure (tmps.getD t undef))→(∀a t,f (.cell a t)=do loadVar t (←asAddr (tmps.getD a undef)))→(xs.mapM f).run P w=.ok ws w:=by
  intro xs
  induction xs with
  |nil=>intro rs vs h1 h2;cases h1;cases h2;exact⟨[],.nil _,fun f _ _=>by simp⟩
  |cons x xs ih=>
   intro rs vs h1 h2;obtain⟨c,hcx,h1⟩:=aof h1;obtain⟨cs,hcs,rfl⟩:=amf h1;obtain⟨u,hu,h2⟩:=aof h2;obtain⟨us,hus,rfl⟩:=amf h2;obtain⟨ws,hw1,hw2⟩:=ih cs us hcs hus;cases x with
   |tmp t=>
    cases hcx;obtain⟨u',hu',hr'⟩:=hs t u hu;exact⟨u'::ws,.cons hr' hw1,fun f f1 f2=>by rw[qbT,f1];simp only[qr,qF,qo,getD_of hu',hw2 f f1 f2]⟩
   |cell a t=>
    obtain⟨n,hn,rfl⟩:=amf hcx;obtain⟨p,hp,hu⟩:=aof hu;obtain⟨ad,had,hu⟩:=aof hu;obtain⟨p',hp',hrp⟩:=hs a p hp;obtain⟨R,hR,hrun⟩:=asAddr_run (P:=P) had hrp w;cases n with
    |some n=>
     obtain⟨l,hl,rfl⟩:=amf hu;obtain⟨v',hv',hlv⟩:=loadVarN hr hn hR hl;exact⟨v'::ws,.cons hv' hw1,fun f f1 f2=>by rw[qbT,f2];simp only[qr,qF,qo,getD_of hp',hrun,hlv,hw2 f f1 f2]⟩
    |none=>
     obtain⟨l,hl,hone⟩:=aof hu;obtain⟨v',hv',hlv⟩:=loadVar1 hr hn hR hl hone;exact⟨v'::ws,.cons hv' hw1,fun f f1 f2=>by rw[qbT,f2];simp only[qr,qF,qo,getD_of hp',hrun,hlv,hw2 f f1 f2]⟩
 obtain⟨ws,h1,h2⟩:=key _ _ _ hc hvs;have hm: ∀f:ResultVar→Sem Value,(∀t,f (.tmp t)=pure (tmps.getD t undef))→(∀a t,f (.cell a t)=do loadVar t (←asAddr (tmps.getD a undef)))→(fn.results.mapM f).run P w=.ok ⟨ws⟩ w:=by
  intro f f1 f2;rw[Array.mapM_eq_mapM_toList];simp only[Sem.run_map,h2 f f1 f2,qo]
 refine⟨zhS vs,if h:ws.length=1 then ws[0] else .tuple ⟨ws⟩,rfl,?_,?_⟩
 ·unfold results;simp only[qr];rw[hm _ (fun _=>rfl) (fun _ _=>rfl)];simp
 ·by_cases e:ws.length=1
  ·match ws,e with
   | [y],_=>
     match vs,h1 with
     | [x],h1=>simpa[zhS] using h1.head
  ·rw[dif_neg e];have:vs.length≠1:=by rw[h1.1];exact e
   have ht:zhS vs=.tuple ⟨vs⟩:=by
    match vs,this with
    | [],_=>rfl
    |_::_::_,_=>rfl
   rw[ht];exact VR.tuple_of h1
end
end
section
variable {P:Program}
theorem eqAddr_eq {a b:Addr} (h:zhC a b=true):a=b:=by
 obtain⟨a1,a2,a3⟩:=a;obtain⟨b1,b2,b3⟩:=b;simp only[zhC,qm,qbH] at h;obtain⟨⟨⟨h1,h2⟩,h3⟩,h4⟩:=h;rw[qi h1,qi h2,h3,h4]
theorem zhB {a b:Value} (h:zgq a b=true):a=b:=by
 unfold zgq at h
 split at h
 ·rw[beq_iff_eq] at h;rw[h]
 ·simp only[qm,decide_eq_true_eq] at h;rw[h.1];rw[zhA,beq_iff_eq] at h;rw[h.2]
 ·rename_i s t;have:=zeu h;obtain⟨⟨s⟩⟩:=s;obtain⟨⟨t⟩⟩:=t;simp only at this;rw[this]
 ·rfl
 ·rw[eqAddr_eq h]
 ·simp only[qm] at h;rw[qi h.1,qi h.2]
 ·simp only[qm] at h;rw[eqAddr_eq h.1.1,qi h.1.2,qi h.2]
 ·rfl
 ·rw[qi h]
 ·rfl
 ·cases h
theorem zlD: ∀{a b:List Value},zik a b=true→a=b
 | [],[],_=>rfl
 |x::a,y::b,h=>by
  simp only[zik,qm] at h;rw[zlD h.2,zhB h.1]
 | [],_::_,h=>by cases h
 |_::_,[],h=>by cases h
theorem eqVal1_eq {a b:Value} (h:zkr a b=true):a=b:=by
 unfold zkr at h
 split at h
 ·rw[qU.1 (zlD h)]
 ·exact zhB h
theorem eqVals_eq: ∀{a b:List Value},zlB a b=true→a=b
 | [],[],_=>rfl
 |x::a,y::b,h=>by
  simp only[zlB,qm] at h;rw[eqVals_eq h.2,eqVal1_eq h.1]
 | [],_::_,h=>by cases h
 |_::_,[],h=>by cases h
theorem eqVal_eq {a b:Value} (h:eqVal a b=true):a=b:=by
 unfold eqVal at h
 split at h
 ·rw[qU.1 (eqVals_eq h)]
 ·exact eqVal1_eq h
theorem zez: ∀(l:List Bool),beqP l l=true
 | []=>rfl
 |a::l=>by simp[beqP,zez l]
def zbd (ps:List (List Bool)) (s s':zb):Prop:= ∀p∈ps,s.get p=s'.get p
theorem zbd.left {ps qs:List (List Bool)} {s s':zb} (h:zbd (ps++qs) s s'):zbd ps s s':=fun p hp=>h p (List.mem_append_left _ hp)
theorem zbd.right {ps qs:List (List Bool)} {s s':zb} (h:zbd (ps++qs) s s'):zbd qs s s':=fun p hp=>h p (List.mem_append_right _ hp)
theorem zbd.keep {ps qs:List (List Bool)} (s:zb) (h: ∀p∈ps,p∈qs):zbd ps s (zc4 qs s):=fun p hp=>by rw[zdn,if_pos (h p hp)]
theorem zh {s s':zb} {x:CO} (h:zbd (zi x) s s'):x.ev s=x.ev s':=by
 cases x with
 |t p=>exact h p (by simp[zi])
 |c v=>rfl
theorem zfL {s s':zb} {x:Option CO} (h:zbd (zdZ x) s s'):evO s x=evO s' x:=by
 cases x with
 |none=>rfl
 |some x=>simp only[evO];rw[zh h]
theorem zcV {s s':zb}: ∀{l:List CO},zbd (l.flatMap zi) s s'→evL s l=evL s' l
 | [],_=>rfl
 |x::l,h=>by
  rw[qbG] at h;rw[evL_cons,evL_cons,zh h.left,zcV h.right]
theorem zhz {s s':zb}: ∀{l:List (Nat×Nat×CO)},zbd (l.flatMap fun p=>zi p.2.2) s s'→ze4 s l=ze4 s' l
 | [],_=>rfl
 | (o,n,x)::l,h=>by
   rw[qbG] at h;simp only[ze4];rw[zh h.left,zhz h.right]
theorem zgo {s s':zb} (sz:Nat): ∀{l:List (Nat×CO)},zbd (l.flatMap fun p=>zi p.2) s s'→zcM s sz l=zcM s' sz l
 | [],_=>rfl
 | (o,x)::l,h=>by
   rw[qbG] at h;simp only[zcM];rw[zh h.left,zgo sz h.right]
theorem zeg {op:COp} {s s':zb} (h:zbd (zf op) s s') (hp:H):opV op s hp=opV op s' hp:=by
 cases op with
 |mv x=>show bMv _ _ _=bMv _ _ _;unfold bMv;rw[zh h]
 |pick c a b=>
  show bPick _ _ _ _ _=bPick _ _ _ _ _;unfold bPick;have h1:=h.left.left;have h2:=h.left.right;have h3:=h.right;rw[zh h1];have e:zkW a b s hp=zkW a b s' hp:=by funext v;unfold zkW;rw[zh h2,zh h3]
  rw[e]
 |alloc z=>rfl
 |box x=>show bBox _ _ _=bBox _ _ _;unfold bBox;rw[zh h]
 |build z ps=>show zkI _ _ _ _=zkI _ _ _ _;unfold zkI;rw[zhz h]
 |buildSlice n sz z ps=>show zcK _ _ _ _ _ _=zcK _ _ _ _ _ _;unfold zcK;rw[zgo sz h]
 |load1 a=>show zkH _ _ _=zkH _ _ _;unfold zkH;rw[zh h]
 |loadN n a=>show zkG _ _ _ _=zkG _ _ _ _;unfold zkG;rw[zh h]
 |store n a x=>show zkE _ _ _ _ _=zkE _ _ _ _ _;unfold zkE;rw[zh h.left,zh h.right]
 |nilCheck x=>show zdx _ _ _=zdx _ _ _;unfold zdx;rw[zh h]
 |bin op ek x y=>show bBin _ _ _ _ _ _=bBin _ _ _ _ _ _;unfold bBin;rw[zh h.left,zh h.right]
 |un op x=>show bUn _ _ _ _=bUn _ _ _ _;unfold bUn;rw[zh h]
 |conv k x=>show bConv _ _ _ _=bConv _ _ _ _;unfold bConv;rw[zh h]
 |makeFunc fn a b=>show zdy _ _ _ _ _=zdy _ _ _ _ _;unfold zdy;rw[zcV h.left,zcV h.right]
 |makeMap=>rfl
 |makeSlice sz bt z l c=>show zdf sz bt z l c s hp=zdf sz bt z l c s' hp;unfold zdf;rw[zh h.left,zh h.right]
 |slice sz x lo hi=>show zkF _ _ _ _ _ _=zkF _ _ _ _ _ _;unfold zkF;rw[zh h.left.left,zfL h.left.right,zfL h.right]
 |fieldAddr o x=>show zcJ _ _ _ _=zcJ _ _ _ _;unfold zcJ;rw[zh h]
 |indexAddr sz x i=>show zcI _ _ _ _ _=zcI _ _ _ _ _;unfold zcI;rw[zh h.left,zh h.right]
 |indexArr n sz x i=>show zdz _ _ _ _ _ _=zdz _ _ _ _ _ _;unfold zdz;rw[zh h.left,zh h.right]
 |lookup kk z ok x i=>show zgR _ _ _ _ _ _ _=zgR _ _ _ _ _ _ _;unfold zgR;rw[zh h.left,zh h.right]
 |mapUpdate kk m k x=>show zeA _ _ _ _ _ _=zeA _ _ _ _ _ _;unfold zeA;rw[zh h.left.left,zh h.left.right,zh h.right]
 |extract x i=>show ze8 _ _ _ _=ze8 _ _ _ _;unfold ze8;rw[zh h]
 |call f as=>rfl
 |blt b as=>show bBlt _ _ _ _=bBlt _ _ _ _;unfold bBlt;rw[zcV h]
 |slice3 sz x lo hi mx=>show zgQ _ _ _ _ _ _ _=zgQ _ _ _ _ _ _ _;unfold zgQ;rw[zh h.left,zfL h.right.left,zh h.right.right.left,zh h.right.right.right]
 |fld o n x=>show bFld _ _ _ _ _=bFld _ _ _ _ _;unfold bFld;rw[zh h]
 |strIdx x i=>show zgP _ _ _ _=zgP _ _ _ _;unfold zgP;rw[zh h.left,zh h.right]
 |panic x=>rfl
 |recov=>rfl
 |invoke tbl x as=>rfl
 |strSlice x lo hi=>show zdw _ _ _ _ _=zdw _ _ _ _ _;unfold zdw;rw[zh h.left.left,zfL h.left.right,zfL h.right]
 |mkI t x=>show bMkI _ _ _ _=bMkI _ _ _ _;unfold bMkI;rw[zh h]
 |assertT t z ok x=>show ze9 _ _ _ _ _ _=ze9 _ _ _ _ _ _;unfold ze9;rw[zh h]
 |stuck=>rfl
 |s2b x=>show bS2b _ _ _=bS2b _ _ _;unfold bS2b;rw[zh h]
 |b2s x=>show bB2s _ _ _=bB2s _ _ _;unfold bB2s;rw[zh h]
theorem doOp_agree {ih:IH} {op:COp} {s s':zb} (h:zbd (zf op) s s') (hp:H):doOp ih op s hp=doOp ih op s' hp:=by
 have plain:=zeg h hp;cases op
 case call f as=>
  show ziI _ _ _ _ _=ziI _ _ _ _ _;unfold ziI;rw[zh (x:=f) h.left,zcV (l:=as) h.right]
 case invoke tbl x as=>
  show invOp _ _ _ _ _ _=invOp _ _ _ _ _ _;unfold invOp;rw[zh (x:=x) h.left,zcV (l:=as) h.right]
 all_goals exact plain
theorem zfo {g:Option (List Bool×Bool)} {s s':zb} (h:zbd (zdd g) s s'):z8 g s=z8 g s':=by
 cases g with
 |none=>rfl
 |some g=>obtain⟨p,b⟩:=g;simp only[z8];rw[h p (by simp[zdd])]
theorem zfC {op:COp} (h:isW op=false):zQ op=.pure∨zQ op=.alloc:=by
 cases op<;>simp[isW,zQ] at h⊢
 case blt b as=>cases b<;>simp[isW,zQ] at h⊢
theorem zly {op:COp} {s:zb} {n m:Nat} (hf:zgL op s n m=true) {h h':H} {v:Value} (hv:opV op s h=some (v,h')):
 h'=h∧ ∃i,n≤i∧i<m∧((∀g:H,opV op s g=some (v,g))∨ ∃cs e,h.get i=some (.cells cs e)∧ ∀g:H,g.get i=some (.cells cs e)→opV op s g=some (v,g)):=by
 cases op<;>simp only[zgL,qx] at hf
 case b2s x=>
  split at hf
  ·rename_i a k c hx;have hv:((x.ev s).bind fun v=>(b2sV h v).map (·,h))=some (v,h'):=hv;have ex: ∀g:H,opV (.b2s x) s g=((x.ev s).bind fun v=>(b2sV g v).map (·,g)):=fun g=>rfl;simp only[ex,hx,Option.bind_some] at hv⊢;obtain⟨z,hz,e⟩:=amf hv;cases e;rw[Bool.and_eq_true] at hf;refine⟨rfl,a.block,Nat.le_of_ble_eq_true hf.1,by simpa using hf.2,?_⟩;simp only[b2sV] at hz⊢
   split at hz
   ·rename_i h0;cases hz;exact .inl fun g=>by rw[if_pos h0];rfl
   ·rename_i h0;obtain⟨l,hl,hz⟩:=aof hz;obtain⟨cs,e,hg,h1,h2,h3⟩:=zf4 hl;refine .inr ⟨cs,e,hg,fun g hgg=> ?_⟩;have hl':g.readN a.block a.off k=some l:=by
     unfold H.readN at hl⊢;rw[hgg];rw[hg] at hl;exact hl
    rw[if_neg h0,hl',qg,hz];rfl
  ·cases hf
theorem zh3 {op:COp} (hr:isRd op=true) {s:zb} {n:Nat} {m:PT IObj} {v:Value} {h':H} (h:opV op s ⟨n,m⟩=some (v,h')):
 h'=⟨n,m⟩∧ ∀n',opV op s ⟨n',m⟩=some (v,⟨n',m⟩):=by
 cases op<;>simp only[isRd,qx] at hr
 case load1 a=>
  obtain⟨u,hu,h⟩:=aof h;obtain⟨ad,ha,h⟩:=aof h;obtain⟨l,hl,h⟩:=aof h;obtain⟨x,hx,e⟩:=amf h;cases e;refine⟨rfl,fun n'=> ?_⟩;show zkH _ _ _=_;unfold zkH;have hl':H.readN ⟨n',m⟩ ad.block ad.off 1=some l:=hl;simp only[hu,ha,hl',hx,qg,qB]
 case loadN k a=>
  obtain⟨u,hu,h⟩:=aof h;obtain⟨ad,ha,h⟩:=aof h;obtain⟨l,hl,e⟩:=amf h;cases e;refine⟨rfl,fun n'=> ?_⟩;show zkG _ _ _ _=_;unfold zkG;have hl':H.readN ⟨n',m⟩ ad.block ad.off k=some l:=hl;simp only[hu,ha,hl',qg,qB]
 case b2s x=>
  obtain⟨u,hu,h⟩:=aof h;obtain⟨r,hb,e⟩:=amf h;cases e;refine⟨rfl,fun n'=> ?_⟩;show bB2s _ _ _=_;unfold bB2s;have hb':b2sV ⟨n',m⟩ u=some v:=hb;simp only[hu,hb',qg,qB]
 case lookup kk z ok x i=>
  obtain⟨u,hu,h⟩:=aof h;obtain⟨k,hk,h⟩:=aof h;obtain⟨b,hb,h⟩:=aof h;obtain⟨es,hes,h⟩:=aof h;obtain⟨r,hr,e⟩:=amf h;cases e;refine⟨rfl,fun n'=> ?_⟩;show zgR _ _ _ _ _ _ _=_;unfold zgR;have hes':zdu ⟨n',m⟩ u=some es:=hes;simp only[hu,hk,hb,hes',hr,qg,qB]
 case slice3 sz x lo hi mx=>
  obtain⟨u,hu,h⟩:=aof h;obtain⟨l,hlo,h⟩:=aof h;obtain⟨r,hhi,h⟩:=aof h;obtain⟨y,hmx,h⟩:=aof h;have key:h'=⟨n,m⟩∧ ∀n',zeJ sz ⟨n',m⟩ l r y u=some (v,⟨n',m⟩):=by
   unfold zeJ at h⊢
   split at h
   ·rename_i base len cap
    split at h
    ·rename_i hc;obtain⟨a,ha,h⟩:=aof h;obtain⟨o,ho,h⟩:=aof h;cases o with
     |cells cs esz=>
      simp only[zeb] at h
      split at h
      ·rename_i hz;obtain⟨q0,e0,h⟩:=aof h
       split at h
       ·rename_i hz2;obtain⟨q1,e1,h⟩:=aof h;obtain⟨q2,e2,h⟩:=amf h;cases h;refine⟨rfl,fun n'=> ?_⟩;have ho':H.get ⟨n',m⟩ a.block=some (.cells cs esz):=ho;simp only[hc,if_true,ha,qg,ho',zeb];rw[if_pos hz];simp only[e0,qg];rw[if_pos hz2];simp only[e1,e2,qg,qB]
       ·cases h
      ·cases h
     |map _ _=>cases h
     |loop _ _ _ _=>cases h
     |dead=>cases h
     |glob _ _=>cases h
    ·rename_i hc;obtain⟨q0,e0,h⟩:=aof h;obtain⟨q1,e1,h⟩:=aof h;obtain⟨q2,e2,h⟩:=amf h;cases h;refine⟨rfl,fun n'=> ?_⟩;simp only[hc,qx,if_false,e0,e1,e2,qg,qB]
   ·cases h
  refine⟨key.1,fun n'=> ?_⟩;show zgQ _ _ _ _ _ _ _=_;unfold zgQ;simp only[hu,hlo,hhi,hmx,qg];exact key.2 n'
 case slice sz x lo hi=>
  obtain⟨u,hu,h⟩:=aof h;obtain⟨l,hlo,h⟩:=aof h;obtain⟨r,hhi,h⟩:=aof h;have key:h'=⟨n,m⟩∧ ∀n',zfe sz ⟨n',m⟩ l r u=some (v,⟨n',m⟩):=by
   unfold zfe at h⊢
   split at h
   ·rename_i base len cap
    split at h
    ·rename_i hc;obtain⟨a,ha,h⟩:=aof h;obtain⟨o,ho,h⟩:=aof h;cases o with
     |cells cs esz=>
      simp only[zdh] at h
      split at h
      ·rename_i hz;obtain⟨q1,e1,h⟩:=aof h;obtain⟨q2,e2,h⟩:=amf h;cases h;refine⟨rfl,fun n'=> ?_⟩;have ho':H.get ⟨n',m⟩ a.block=some (.cells cs esz):=ho;simp only[hc,if_true,ha,qg,ho',zdh];rw[if_pos hz];simp only[e1,e2,qg,qB]
      ·cases h
     |map _ _=>cases h
     |loop _ _ _ _=>cases h
     |dead=>cases h
     |glob _ _=>cases h
    ·rename_i hc;obtain⟨q1,e1,h⟩:=aof h;obtain⟨q2,e2,h⟩:=amf h;cases h;refine⟨rfl,fun n'=> ?_⟩;simp only[hc,qx,if_false,e1,e2,qg,qB]
   ·cases h
  refine⟨key.1,fun n'=> ?_⟩;show zkF _ _ _ _ _ _=_;unfold zkF;simp only[hu,hlo,hhi,qg];exact key.2 n'
 case blt b as=>
  cases b<;>simp only[isRd,qx] at hr;obtain⟨l,hl,h⟩:=aof h;have key:h'=⟨n,m⟩∧ ∀n',bltV ⟨n',m⟩ .lenMap l=some (v,⟨n',m⟩):=by
   match l with
   | []=>cases h
   | [.map none]=>cases h;exact⟨rfl,fun _=>rfl⟩
   | [.map (some r)]=>
     simp only[bltV] at h⊢;cases hg:H.get ⟨n,m⟩ r with
     |none=>rw[hg] at h;cases h
     |some o=>
      rw[hg] at h;cases o with
      |map es c=>
       cases h;refine⟨rfl,fun n'=> ?_⟩;have hg':H.get ⟨n',m⟩ r=some (.map es c):=hg;rw[hg']
      |cells _ _=>cases h
      |loop _ _ _ _=>cases h
      |dead=>cases h
      |glob _ _=>cases h
   |.bool _::_=>cases h
   |.int _ _::_=>cases h
   |.float _ _::_=>cases h
   |.complex _ _ _::_=>cases h
   |.string _::_=>cases h
   |.pointer _::_=>cases h
   |.slice _ _ _::_=>cases h
   |.chan _::_=>cases h
   |.func _ _ _::_=>cases h
   |.nilFunc::_=>cases h
   |.iface _ _::_=>cases h
   |.nilIface::_=>cases h
   |.agg _::_=>cases h
   |.tuple _::_=>cases h
   |.map none::_::_=>cases h
   |.map (some _)::_::_=>cases h
  refine⟨key.1,fun n'=> ?_⟩;show bBlt _ _ _ _=_;unfold bBlt;simp only[hl,qg];exact key.2 n'
theorem zdb {op:COp} (hw:isW op=false) (hr:isRd op=false) (hc:zQ op=.pure) {s:zb} {h:H} {v:Value} {h':H} (hv:opV op s h=some (v,h')):
 h'=h∧ ∀g,opV op s g=some (v,g):=by
 cases op<;>simp only[isW,isRd,zQ,reduceCtorEq] at hw hr hc
 case mv x=>obtain⟨u,hu,e⟩:=amf hv;cases e;exact⟨rfl,fun g=>by show bMv _ _ _=_;unfold bMv;rw[hu];rfl⟩
 case pick c a b=>
  obtain⟨u,hu,hv⟩:=aof hv;unfold zkW at hv
  split at hv
  ·obtain⟨x,hx,e⟩:=amf hv;cases e;exact⟨rfl,fun g=>by show bPick _ _ _ _ _=_;unfold bPick;rw[hu];simp[zkW,hx]⟩
  ·obtain⟨x,hx,e⟩:=amf hv;cases e;exact⟨rfl,fun g=>by show bPick _ _ _ _ _=_;unfold bPick;rw[hu];simp[zkW,hx]⟩
  ·cases hv
 case build z ps=>obtain⟨u,hu,hv⟩:=aof hv;obtain⟨x,hx,e⟩:=amf hv;cases e;exact⟨rfl,fun g=>by show zkI _ _ _ _=_;unfold zkI;simp[hu,hx]⟩
 case nilCheck x=>obtain⟨u,hu,hv⟩:=aof hv;obtain⟨x,hx,e⟩:=amf hv;cases e;exact⟨rfl,fun g=>by show zdx _ _ _=_;unfold zdx;simp[hu,hx]⟩
 case bin op ek x y=>obtain⟨u,hu,hv⟩:=aof hv;obtain⟨u2,hu2,hv⟩:=aof hv;obtain⟨x,hx,e⟩:=amf hv;cases e;exact⟨rfl,fun g=>by show bBin _ _ _ _ _ _=_;unfold bBin;simp[hu,hu2,hx]⟩
 case un op x=>obtain⟨u,hu,hv⟩:=aof hv;obtain⟨x,hx,e⟩:=amf hv;cases e;exact⟨rfl,fun g=>by show bUn _ _ _ _=_;unfold bUn;simp[hu,hx]⟩
 case conv k x=>obtain⟨u,hu,hv⟩:=aof hv;obtain⟨x,hx,e⟩:=amf hv;cases e;exact⟨rfl,fun g=>by show bConv _ _ _ _=_;unfold bConv;simp[hu,hx]⟩
 case makeFunc fn a b=>obtain⟨u,hu,hv⟩:=aof hv;obtain⟨x,hx,e⟩:=amf hv;cases e;exact⟨rfl,fun g=>by show zdy _ _ _ _ _=_;unfold zdy;simp[hu,hx]⟩
 case fieldAddr o x=>obtain⟨u,hu,hv⟩:=aof hv;obtain⟨x,hx,e⟩:=amf hv;cases e;exact⟨rfl,fun g=>by show zcJ _ _ _ _=_;unfold zcJ;simp[hu,hx]⟩
 case indexAddr sz x i=>obtain⟨u,hu,hv⟩:=aof hv;obtain⟨u2,hu2,hv⟩:=aof hv;obtain⟨x,hx,e⟩:=amf hv;cases e;exact⟨rfl,fun g=>by show zcI _ _ _ _ _=_;unfold zcI;simp[hu,hu2,hx]⟩
 case indexArr n sz x i=>obtain⟨u,hu,hv⟩:=aof hv;obtain⟨u2,hu2,hv⟩:=aof hv;obtain⟨x,hx,e⟩:=amf hv;cases e;exact⟨rfl,fun g=>by show zdz _ _ _ _ _ _=_;unfold zdz;simp[hu,hu2,hx]⟩
 case extract x i=>obtain⟨u,hu,hv⟩:=aof hv;obtain⟨x,hx,e⟩:=amf hv;cases e;exact⟨rfl,fun g=>by show ze8 _ _ _ _=_;unfold ze8;simp[hu,hx]⟩
 case stuck=>cases hv
 case strSlice x lo hi=>
  obtain⟨u,hu,hv⟩:=aof hv;obtain⟨u2,hu2,hv⟩:=aof hv;obtain⟨u3,hu3,hv⟩:=aof hv;obtain⟨x,hx,e⟩:=amf hv;cases e;exact⟨rfl,fun g=>by show zdw _ _ _ _ _=_;unfold zdw;simp[hu,hu2,hu3,hx]⟩
 case mkI t x=>obtain⟨u,hu,e⟩:=amf hv;cases e;exact⟨rfl,fun g=>by show bMkI _ _ _ _=_;unfold bMkI;rw[hu];rfl⟩
 case assertT t z ok x=>obtain⟨u,hu,hv⟩:=aof hv;obtain⟨x,hx,e⟩:=amf hv;cases e;exact⟨rfl,fun g=>by show ze9 _ _ _ _ _ _=_;unfold ze9;simp[hu,hx]⟩
 case fld o n x=>obtain⟨u,hu,hv⟩:=aof hv;obtain⟨x,hx,e⟩:=amf hv;cases e;exact⟨rfl,fun g=>by show bFld _ _ _ _ _=_;unfold bFld;simp[hu,hx]⟩
 case strIdx x i=>obtain⟨u,hu,hv⟩:=aof hv;obtain⟨u2,hu2,hv⟩:=aof hv;obtain⟨x,hx,e⟩:=amf hv;cases e;exact⟨rfl,fun g=>by show zgP _ _ _ _=_;unfold zgP;simp[hu,hu2,hx]⟩
 case blt b as=>
  obtain⟨l,hl,hv⟩:=aof hv;have key:h'=h∧ ∀g,bltV g b l=some (v,g):=by
   cases b<;>simp only[isW,isRd,reduceCtorEq] at hw hr
   case len=>
    unfold bltV at hv
    split at hv<;>simp_all[bltV]
   case lenStr=>
    unfold bltV at hv
    split at hv<;>simp_all[bltV]
   case min=>
    cases l with
    |nil=>cases hv
    |cons x r=>obtain⟨y,hy,e⟩:=amf hv;cases e;exact⟨rfl,fun g=>by simp[bltV,hy]⟩
   case max=>
    cases l with
    |nil=>cases hv
    |cons x r=>obtain⟨y,hy,e⟩:=amf hv;cases e;exact⟨rfl,fun g=>by simp[bltV,hy]⟩
  exact⟨key.1,fun g=>by show bBlt _ _ _ _=_;unfold bBlt;rw[hl];exact key.2 g⟩
theorem zfa {op:COp} (hc:zQ op=.alloc) {s:zb} {h:H} {v:Value} {h':H} (hv:opV op s h=some (v,h')):
 ∃(f:Nat→Value) (io:IObj),v=f h.next∧h'=h.new io∧ ∀g,opV op s g=some (f g.next,g.new io):=by
 cases op<;>simp only[zQ,reduceCtorEq] at hc
 case alloc z=>cases hv;exact⟨fun i=>.pointer (some ⟨i,0,none⟩),_,rfl,rfl,fun g=>rfl⟩
 case box x=>obtain⟨u,hu,e⟩:=amf hv;cases e;exact⟨fun i=>.pointer (some ⟨i,0,none⟩),_,rfl,rfl,fun g=>by show bBox _ _ _=_;unfold bBox;rw[hu];rfl⟩
 case buildSlice n sz z ps=>
  obtain⟨u,hu,hv⟩:=aof hv;obtain⟨x,hx,e⟩:=amf hv;cases e;exact⟨fun i=>.slice (some ⟨i,0,none⟩) n n,_,rfl,rfl,fun g=>by show zcK _ _ _ _ _ _=_;unfold zcK;simp[hu,hx]⟩
 case makeMap=>cases hv;exact⟨fun i=>.map (some i),_,rfl,rfl,fun g=>rfl⟩
 case makeSlice sz bt z l c=>
  obtain⟨u,hu,hv⟩:=aof hv;obtain⟨u2,hu2,hv⟩:=aof hv;unfold zdc at hv
  split at hv
  ·split at hv
   ·rename_i hc;cases hv;refine⟨fun i=>.slice (some ⟨i,0,none⟩) _ _,_,rfl,rfl,fun g=> ?_⟩;show zdf sz bt z l c s g=_;unfold zdf;simp only[hu,hu2,qg,zdc];rw[if_pos hc]
   ·cases hv
  ·cases hv
 case blt b as=>cases b<;>cases hc
theorem zgX {h:H} {i off:Nat} {vs:List Value} {h':H} (hw:h.write i off vs=some h'):h'.next=h.next:=by
 obtain⟨o,ho,hw⟩:=aof hw;cases o with
 |cells cs esz=>
  simp only[zfZ] at hw
  split at hw
  ·obtain⟨c,hc,e⟩:=amf hw;subst e;rfl
  ·cases hw
 |map _ _=>cases hw
 |loop _ _ _ _=>cases hw
 |dead=>cases hw
 |glob _ _=>cases hw
theorem growNext {size:Nat} {a:Addr} {len n:Nat} {new:List Value} {h:H} {cs:List Value} {v:Value} {h':H} (hv:zkj size a len n new h cs=some (v,h')):h.next≤h'.next:=by
 obtain⟨o,ho,e⟩:=amf hv;cases e;simp
theorem putNext {size:Nat} {a:Addr} {len cap n:Nat} {new:List Value} {h:H} {v:Value} {h':H} (hv:putIn size a len cap n new h=some (v,h')):h.next≤h'.next:=by
 obtain⟨o,ho,e⟩:=amf hv;cases e;rw[zgX ho];exact qd _
theorem zhe {op:COp} {s:zb} {h:H} {v:Value} {h':H} (hv:opV op s h=some (v,h')):h.next≤h'.next:=by
 by_cases hw:isW op=false
 ·by_cases hr:isRd op=true
  ·have:=(zh3 hr (n:=h.next) (m:=h.mem) hv).1;rw[this];exact qd _
  ·rcases zfC hw with hc|hc
   ·rw[(zdb hw (by simpa using hr) hc hv).1];exact qd _
   ·obtain⟨f,io,-,e,-⟩:=zfa hc hv;rw[e];simp
 ·cases op<;>simp only[isW,not_true_eq_false,reduceCtorEq,not_false_eq_true] at hw
  case store n a x=>
   obtain⟨u,hu,hv⟩:=aof hv;obtain⟨u2,hu2,hv⟩:=aof hv;obtain⟨ad,ha,hv⟩:=aof hv
   split at hv
   ·obtain⟨g,hg,e⟩:=amf hv;cases e;rw[zgX hg];exact qd _
   ·cases hv
  case mapUpdate kk m k x=>
   obtain⟨u,hu,hv⟩:=aof hv;obtain⟨u2,hu2,hv⟩:=aof hv;obtain⟨u3,hu3,hv⟩:=aof hv;unfold mapUpd at hv
   split at hv
   ·obtain⟨o,ho,hv⟩:=aof hv;cases o with
    |map es c=>obtain⟨y,hy,hv⟩:=aof hv;obtain⟨z,hz,e⟩:=amf hv;cases e;exact qd _
    |cells _ _=>cases hv
    |loop _ _ _ _=>cases hv
    |dead=>cases hv
    |glob _ _=>cases hv
   ·cases hv
  case call f as=>cases hv
  case s2b x=>
   obtain⟨u,hu,hv⟩:=aof hv;unfold s2bV at hv
   split at hv
   ·cases hv;exact Nat.le_succ _
   ·cases hv
  case panic x=>cases hv
  case recov=>cases hv
  case invoke tbl x as=>cases hv
  case blt b as=>
   cases b<;>simp only[isW,not_true_eq_false,reduceCtorEq,not_false_eq_true] at hw
   case copy z=>
    obtain⟨l,hl,hv⟩:=aof hv
    match l with
    | []=>cases hv
    | [x]=>cases x<;>simp[bltV] at hv
    |x::y::_::_=>cases x<;>cases y<;>simp[bltV] at hv
    | [sv,tv]=>
      cases sv with
      |slice b n c=>
       cases b with
       |none=>simp[bltV] at hv
       |some ad=>
        cases tv with
        |slice b2 m c2=>
         have hv:copyV z h ad (zhn m n) b2=some (v,h'):=hv;unfold copyV at hv
         split at hv
         ·split at hv
          ·cases hv;exact qd _
          ·obtain⟨l,hl,hv⟩:=aof hv;obtain⟨g,hg,e⟩:=amf hv;cases e;rw[zgX hg];exact qd _
         ·split at hv
          ·cases hv;exact qd _
          ·cases hv
        |_=>simp[bltV] at hv
      |_=>simp[bltV] at hv
   case clear z=>
    obtain⟨l,hl,hv⟩:=aof hv
    match l with
    | []=>cases hv
    |_::_::_=>simp[bltV] at hv
    | [sv]=>
      cases sv with
      |slice b n c=>
       cases b with
       |none=>cases hv;exact qd _
       |some ad=>
        simp only[bltV] at hv
        split at hv
        ·cases hv;exact qd _
        ·obtain⟨g,hg,e⟩:=amf hv;cases e;rw[zgX hg];exact qd _
      |_=>simp[bltV] at hv
   rename_i size bytes;obtain⟨l,hl,hv⟩:=aof hv
   match l with
   | []=>cases hv
   | [_]=>cases hv
   |_::_::_::_=>cases hv
   | [sv,x]=>
     obtain⟨nl,hnl,hv⟩:=aof hv;unfold zcN at hv
     split at hv
     ·split at hv
      ·cases hv;exact qd _
      ·split at hv
       ·split at hv
        ·split at hv
         ·cases hv;simp
         ·cases hv
        ·obtain⟨o,ho,hv⟩:=aof hv;cases o with
         |cells cs esz=>
          simp only[zd0] at hv
          split at hv
          ·split at hv
           ·split at hv
            ·exact putNext hv
            ·have:=growNext hv;simpa using this
           ·cases hv
          ·split at hv
           ·exact putNext hv
           ·exact growNext hv
         |map _ _=>cases hv
         |loop _ _ _ _=>cases hv
         |dead=>cases hv
         |glob _ _=>cases hv
       ·cases hv
     ·cases hv
end
section
variable {P:Program}
theorem zhK (l:List Oper) (o:Oper):ancs (l++[o])=ancs l++[ancOf (ancs l) o]:=by simp[ancs,List.foldl_append]
theorem zgS (l:List Oper):(ancs l).length=l.length:=by
 have: ∀(r:List Oper),(ancs r.reverse).length=r.length:=by
  intro r
  induction r with
  |nil=>rfl
  |cons o r ih=>rw[qbs,zhK,qH,ih];rfl
 have h:=this l.reverse;simpa using h
theorem zg0 {s m i k:Nat} (h:(s ||| 2^k ||| m).testBit i=true):s.testBit i=true∨i=k∨m.testBit i=true:=by
 rw[qbb,qbb,qbA] at h;simp only[qbw,decide_eq_true_eq] at h;rcases h with(h|h)|h
 ·exact .inl h
 ·exact .inr (.inl h.symm)
 ·exact .inr (.inr h)
theorem zkl (d:List Nat): ∀(es:List Edge) (s i:Nat),(es.foldl (fun s e=>s ||| 2^e.on ||| d.getD e.on 0) s).testBit i=true→s.testBit i=true∨ ∃e∈es,i=e.on∨(d.getD e.on 0).testBit i=true
 | [],s,i,h=>.inl h
 |e::es,s,i,h=>by
  rw[qbk] at h;rcases zkl d es _ i h with h| ⟨e',he,h⟩
  ·rcases zg0 h with h|h|h
   ·exact .inl h
   ·exact .inr ⟨e,by simp,.inl h⟩
   ·exact .inr ⟨e,by simp,.inr h⟩
  ·exact .inr ⟨e',by simp[he],h⟩
theorem zeB {S:Nat→Prop}: ∀(r:List Oper),(∀j,S j→ ∀o,r.reverse[j]? =some o→ ∀e∈o.after.toList,qt .any e=true→S e.on)→
 ∀j o,r.reverse[j]? =some o→(∀e∈o.after.toList,qt .any e=true→S e.on)→ ∀i,((ancs r.reverse).getD j 0).testBit i=true→S i
 | [],_,j,o,ho,_,i,_=>by simp at ho
 |x::r,hS,j,o,ho,hj,i,hi=>by
  rw[qbs] at hS ho hi;have hS': ∀j,S j→ ∀o,r.reverse[j]? =some o→ ∀e∈o.after.toList,qt .any e=true→S e.on:=fun j hj o ho=>hS j hj o (by rw[qj (qf.1 ho).1];exact ho);have hlen:(ancs r.reverse).length=r.reverse.length:=zgS _;rw[zhK] at hi;by_cases hlt:j<r.reverse.length
  ·rw[qj hlt] at ho;have e:(ancs r.reverse++[ancOf (ancs r.reverse) x]).getD j 0=(ancs r.reverse).getD j 0:=by
    rw[qp,qj (by omega),←qp]
   rw[e] at hi;exact zeB r hS' j o ho hj i hi
  ·have hjl:=(List.getElem?_eq_some_iff.1 ho).1;simp only[List.length_append,List.length_cons,List.length_nil] at hjl;have hje:j=r.reverse.length:=by omega
   subst hje;rw[ql (qd _),qbc] at ho;cases ho;have e:(ancs r.reverse++[ancOf (ancs r.reverse) x]).getD r.reverse.length 0=ancOf (ancs r.reverse) x:=by
    rw[qp,ql (by omega),hlen,qbc];rfl
   rw[e] at hi;unfold ancOf at hi;rcases zkl _ _ 0 i hi with h| ⟨ed,hed,h⟩
   ·simp at h
   ·rw[List.mem_filter] at hed;have hs:=hj ed hed.1 hed.2;rcases h with rfl|h
    ·exact hs
    ·by_cases hb:ed.on<r.reverse.length
     ·exact zeB r hS' ed.on _ (qe hb) (fun e' he' hbi=>hS' _ hs _ (qe hb) e' he' hbi) i h
     ·rw[qp,qP (by omega)] at h;simp at h
structure OrdOk (anc:List Nat) (cis:List CI) (order:List Nat):Prop where
 lt: ∀(q j:Nat),order[q]? =some j→j<cis.length
 inj: ∀(q q' j:Nat),order[q]? =some j→order[q']? =some j→q=q'
 before: ∀(q j i:Nat),order[q]? =some j→(anc.getD j 0).testBit i=true→ ∃q',q'<q∧order[q']? =some i
 writer: ∀(q j:Nat) (c:CI),order[q]? =some j→cis[j]? =some c→isW c.op=true→ ∀(q' i:Nat) (d:CI),q'<q→order[q']? =some i→cis[i]? =some d→isFl d.op=false→(anc.getD j 0).testBit i=true
 names: ∀(q j:Nat) (c:CI),order[q]? =some j→cis[j]? =some c→namesOk anc cis j c=true
theorem zfq {seen j i:Nat}:(seen ||| 2^j).testBit i=true↔seen.testBit i=true∨i=j:=by
 rw[qbb,qbA,qbw,decide_eq_true_eq];exact or_congr Iff.rfl eq_comm
theorem and_eq_sub {a s i:Nat} (h:qE (a &&& s) a=true) (hi:a.testBit i=true):s.testBit i=true:=by
 have:=qi h;rw[←this,Nat.testBit_and,qm] at hi;exact hi.2
theorem ziv (anc:List Nat) (cis:List CI): ∀(l:List Nat) (seen:Nat) (seenL:List Nat),zh7 anc cis l seen seenL=true→
 (∀(q j:Nat),l[q]? =some j→j<cis.length∧seen.testBit j=false)∧(∀(q q' j:Nat),l[q]? =some j→l[q']? =some j→q=q')∧
 (∀(q j i:Nat),l[q]? =some j→(anc.getD j 0).testBit i=true→seen.testBit i=true∨ ∃q',q'<q∧l[q']? =some i)∧
 (∀(q j:Nat) (c:CI),l[q]? =some j→cis[j]? =some c→isW c.op=true→(∀i∈seenL,zkd anc cis j i=true)∧ ∀q' i:Nat,q'<q→l[q']? =some i→zkd anc cis j i=true)∧
 (∀(q j:Nat) (c:CI),l[q]? =some j→cis[j]? =some c→namesOk anc cis j c=true)
 | [],seen,_,_=>⟨fun _ _ h=>by simp at h,fun _ _ _ h=>by simp at h,fun _ _ _ h=>by simp at h,fun _ _ _ h=>by simp at h,fun _ _ _ h=>by simp at h⟩
 |j0::l,seen,seenL,h=>by
  unfold zh7 at h;cases hc:cis[j0]? with
  |none=>rw[hc] at h;cases h
  |some c0=>
   rw[hc] at h;simp only[qm,qbZ,qbw] at h;obtain⟨⟨⟨⟨h1,h2⟩,h3⟩,h4⟩,h5⟩:=h;obtain⟨p1,p2,p3,p4,p5⟩:=ziv anc cis l _ _ h5;have hj0:=(qf.1 hc).1;have notj0: ∀q,l[q]?≠some j0:=fun q hq=>by
    have:=(p1 q j0 hq).2;rw[qb0] at this;exact this (zfq.2 (.inr rfl))
   refine⟨fun q j hq=> ?_,fun q q' j hq hq'=> ?_,fun q j i hq hi=> ?_,fun q j c hq hcj hw=> ?_,fun q j c hq hcj=> ?_⟩
   ·cases q with
    |zero=>simp at hq;subst hq;exact⟨hj0,h1⟩
    |succ q=>
     simp at hq;obtain⟨a,b⟩:=p1 q j hq;refine⟨a,?_⟩;rw[qb0] at b⊢;exact fun h=>b (zfq.2 (.inl h))
   ·cases q with
    |zero=>cases q' with
     |zero=>rfl
     |succ q'=>simp at hq hq';subst hq;exact absurd hq' (notj0 _)
    |succ q=>cases q' with
     |zero=>simp at hq hq';subst hq';exact absurd hq (notj0 _)
     |succ q'=>simp at hq hq';rw[p2 q q' j hq hq']
   ·cases q with
    |zero=>simp at hq;subst hq;exact .inl (and_eq_sub h2 hi)
    |succ q=>
     simp at hq;rcases p3 q j i hq hi with h| ⟨q',a,b⟩
     ·rcases zfq.1 h with h|rfl
      ·exact .inl h
      ·exact .inr ⟨0,by omega,by simp⟩
     ·exact .inr ⟨q'+1,by omega,by simpa using b⟩
   ·cases q with
    |zero=>
     simp at hq;subst hq;rw[hc] at hcj;cases hcj;rcases h3 with h3|h3
     ·rw[hw] at h3;cases h3
     ·exact⟨fun i hi=>qG.1 h3 i hi,fun q' i hq'=>by omega⟩
    |succ q=>
     simp at hq;obtain⟨a,b⟩:=p4 q j c hq hcj hw;refine⟨fun i hi=>a i (by simp[hi]),fun q' i hq' hi=> ?_⟩;cases q' with
     |zero=>simp at hi;subst hi;exact a _ (by simp)
     |succ q'=>simp at hi;exact b q' i (by omega) hi
   ·cases q with
    |zero=>simp at hq;subst hq;rw[hc] at hcj;cases hcj;exact h4
    |succ q=>simp at hq;exact p5 q j c hq hcj
theorem zeX {anc:List Nat} {cis:List CI} {j i:Nat} {d:CI} (h:zkd anc cis j i=true) (hd:cis[i]? =some d) (hf:isFl d.op=false):(anc.getD j 0).testBit i=true:=by
 unfold zkd at h;rw[hd] at h;simpa[hf] using h
theorem ordOk_of {anc:List Nat} {cis:List CI} {order:List Nat} (h:zh7 anc cis order 0 []=true):OrdOk anc cis order:=by
 obtain⟨p1,p2,p3,p4,p5⟩:=ziv anc cis order 0 [] h;exact⟨fun q j hq=>(p1 q j hq).1,p2,fun q j i hq hi=>(p3 q j i hq hi).resolve_left (by simp),fun q j c hq hc hw q' i d hq' hi hd hf=>zeX ((p4 q j c hq hc hw).2 q' i hq' hi) hd hf,p5⟩
theorem zdM {anc:List Nat} {cis:List CI} {j:Nat} {c:CI} (h:namesOk anc cis j c=true) {x:List Bool} (hx:x∈zbm c) {i:Nat} {d:CI} (hd:cis[i]? =some d) (hdst:d.dst=some x):
 i=j∨(anc.getD j 0).testBit i=true∨(anc.getD i 0).testBit j=true:=by
 have h1:=qG.1 (qG.1 h x hx) (d,i) (qbd.2 hd);simp only[hdst,zez,qbV,Bool.false_or,qbw,beq_iff_eq] at h1;rcases h1 with(h1|h1)|h1
 ·exact .inl h1
 ·exact .inr (.inl h1)
 ·exact .inr (.inr h1)
theorem zkt (ih:IH) (bs:List (Nat×H)) (s:zb) (h:H):zx ih [] bs s h=some (s,h):=rfl
theorem zbe (ih:IH) (o:CI) (l:List CI) (bs:List (Nat×H)) (s:zb) (h:H):zx ih (o::l) bs s h=(zN ih o bs s h).bind fun x=>zx ih l x.2.2 (zbh o.dst x.1 s) x.2.1:=rfl
def zw (l:List CI) (q:Nat):Nat:=((l.take q).filter fun c=>isW c.op).length
def zkO (l:List CI) (q:Nat):Prop:=q=0∨ ∃p c,q=p+1∧l[p]? =some c∧isW c.op=true
def FreshAt (l:List CI) (hs:Nat→H) (op:COp) (s:zb) (q:Nat) (v:Value):Prop:= ∃p0,p0≤q∧(∀p c,p0≤p→p<q→l[p]? =some c→isW c.op=false)∧zgL op s (hs p0).next (hs q).next=true∧opV op s (hs q)=some (v,hs q)
structure Tr (ih:IH) (l:List CI) (ss:Nat→zb) (hs:Nat→H) (vs:Nat→Value):Prop where
 slots: ∀(q:Nat) c,l[q]? =some c→ss (q+1)=zbh c.dst (vs q) (ss q)
 step: ∀(q:Nat) c,l[q]? =some c→ ∃b,z8 c.guard (ss q)=some b∧(b=false→vs q=zM∧hs (q+1)=hs q)∧
  (b=true→isW c.op=true→doOp ih c.op (ss q) (hs q)=some (vs q,hs (q+1)))∧
  (b=true→isW c.op=false→isRd c.op=false→opV c.op (ss q) (hs q)=some (vs q,hs (q+1)))∧
  (b=true→isW c.op=false→isRd c.op=true→hs (q+1)=hs q∧((∀p,p≤q→zkO l p→c.lo≤zw l p→opV c.op (ss q) (hs p)=some (vs q,hs p))∨FreshAt l hs c.op (ss q) q (vs q)))
theorem zit {op:COp} {s:zb} {lo:Nat} {v:Value}: ∀{bs:List (Nat×H)},zgA op s lo v bs=true→ ∀x∈bs,lo≤x.1→ ∃h',opV op s x.2=some (v,h')
 | [],_,x,hx,_=>by cases hx
 |y::bs,h,x,hx,hlo=>by
  unfold zgA at h;rcases qbi.1 hx with rfl|hx
  ·have: ¬Nat.blt x.1 lo=true:=by
    simp only[Nat.blt_eq];omega
   rw[if_neg this] at h
   split at h
   ·rename_i y hy;rw[qm] at h;obtain⟨v',h'⟩:=y;rw[eqVal_eq h.1];exact⟨h',hy⟩
   ·cases h
  ·refine zit ?_ x hx hlo
   split at h
   ·exact h
   ·split at h
    ·rw[qm] at h;exact h.2
    ·cases h
theorem tr_of {ih:IH}: ∀(l pre:List CI) (bs:List (Nat×H)) (ss0:Nat→zb) (hs0:Nat→H) (vs0:Nat→Value) (sF:zb) (hF:H),Tr ih pre ss0 hs0 vs0→
 (∃p0,bs=(zw pre pre.length,hs0 p0)::bs.tail∧p0≤pre.length∧ ∀p c,p0≤p→p<pre.length→pre[p]? =some c→isW c.op=false)→(∀p,p≤pre.length→zkO pre p→(zw pre p,hs0 p)∈bs)→zx ih l bs (ss0 pre.length) (hs0 pre.length)=some (sF,hF)→
 ∃ss hs vs,Tr ih (pre++l) ss hs vs∧(∀q,q≤pre.length→ss q=ss0 q∧hs q=hs0 q)∧ss (pre++l).length=sF∧hs (pre++l).length=hF∧ ∀k,k≤l.length→zx ih (l.take k) bs (ss0 pre.length) (hs0 pre.length)=some (ss (pre.length+k),hs (pre.length+k))
 | [],pre,bs,ss0,hs0,vs0,sF,hF,ht,hb,hbs,hrun=>by
   rw[zkt] at hrun;cases hrun;exact⟨ss0,hs0,vs0,by simpa using ht,fun q _=>⟨rfl,rfl⟩,by simp,by simp,fun k hk=>by
    have:k=0:=by simpa using hk
    subst this;rfl⟩
 |o::l,pre,bs,ss0,hs0,vs0,sF,hF,ht,hb,hbs,hrun=>by
  rw[zbe] at hrun;obtain⟨⟨v,h1,bs1⟩,hstep,hrest⟩:=aof hrun;have hstep0:=hstep;obtain⟨b,hwant,hstep⟩:=aof hstep;let n:=pre.length;let ss1:Nat→zb:=fun q=>if q≤n then ss0 q else zbh o.dst v (ss0 n);let hs1:Nat→H:=fun q=>if q≤n then hs0 q else h1;let vs1:Nat→Value:=fun q=>if q<n then vs0 q else v;have s1a: ∀q,q≤n→ss1 q=ss0 q:=fun q hq=>if_pos hq;have h1a: ∀q,q≤n→hs1 q=hs0 q:=fun q hq=>if_pos hq;have v1a: ∀q,q<n→vs1 q=vs0 q:=fun q hq=>if_pos hq;have s1b:ss1 (n+1)=zbh o.dst v (ss0 n):=if_neg (by omega);have h1b:hs1 (n+1)=h1:=if_neg (by omega);have v1b:vs1 n=v:=if_neg (by omega);have len1:(pre++[o]).length=n+1:=by simp[n]
  have get1: ∀(q:Nat) c,(pre++[o])[q]? =some c→(q<n∧pre[q]? =some c)∨(q=n∧c=o):=by
   intro q c hq;by_cases hlt:q<n
   ·rw[qj hlt] at hq;exact .inl ⟨hlt,hq⟩
   ·have:=(List.getElem?_eq_some_iff.1 hq).1;have hqn:q=n:=by rw[len1] at this;omega
    subst hqn;rw[ql (qd _)] at hq;simp[n] at hq;exact .inr ⟨rfl,hq.symm⟩
  have wc1: ∀q,q≤n→zw (pre++[o]) q=zw pre q:=fun q hq=>by unfold zw;rw[qby hq]
  have wc2:zw (pre++[o]) (n+1)=zw pre n+if isW o.op=true then 1 else 0:=by
   unfold zw;rw[←len1,qb4,qbo,qH];simp only[n,qb4];by_cases hw:isW o.op=true<;>simp[hw]
  have base1: ∀p,p≤n→(zkO (pre++[o]) p↔zkO pre p):=by
   intro p hp;constructor
   ·rintro(rfl| ⟨p',c,rfl,hc,hw⟩)
    ·exact .inl rfl
    ·rw[qj (by omega)] at hc;exact .inr ⟨p',c,rfl,hc,hw⟩
   ·rintro(rfl| ⟨p',c,rfl,hc,hw⟩)
    ·exact .inl rfl
    ·exact .inr ⟨p',c,rfl,by rw[qj (by omega)];exact hc,hw⟩
  have base2:zkO (pre++[o]) (n+1)→isW o.op=true:=by
   rintro(h| ⟨p',c,h,hc,hw⟩)
   ·omega
   ·have:p'=n:=by omega
    subst this;rw[ql (qd _)] at hc;simp[n] at hc;subst hc;exact hw
  have key:(b=false→v=zM∧h1=hs0 n)∧(b=true→isW o.op=true→doOp ih o.op (ss0 n) (hs0 n)=some (v,h1))∧
   (b=true→isW o.op=false→isRd o.op=false→opV o.op (ss0 n) (hs0 n)=some (v,h1))∧
   (b=true→isW o.op=false→isRd o.op=true→h1=hs0 n∧((∀p,p≤n→zkO pre p→o.lo≤zw pre p→opV o.op (ss0 n) (hs0 p)=some (v,hs0 p))∨FreshAt pre hs0 o.op (ss0 n) n v))∧
   ((isW o.op=true→bs1=(nextB bs,h1)::bs)∧(isW o.op=false→bs1=bs)):=by
   cases b with
   |false=>
    simp only[qq,qC] at hstep;obtain⟨rfl,rfl,rfl⟩:=hstep;exact⟨fun _=>⟨rfl,rfl⟩,nofun,nofun,nofun,fun hw=>by rw[if_pos hw],fun hw=>by rw[if_neg (by simp[hw])]⟩
   |true=>
    simp only[zcX] at hstep;by_cases hw:isW o.op=true
    ·rw[if_pos hw] at hstep;obtain⟨x,hx,e⟩:=amf hstep;simp only[qC] at e;obtain⟨rfl,rfl,rfl⟩:=e;exact⟨nofun,fun _ _=>hx,fun _ h=>by(rw[hw] at h;cases h),fun _ h=>by(rw[hw] at h;cases h),fun _=>rfl,fun h=>by(rw[hw] at h;cases h)⟩
    ·rw[if_neg hw] at hstep;have hw':isW o.op=false:=by simpa using hw
     by_cases hr:isRd o.op=true
     ·rw[if_pos hr] at hstep;obtain⟨p0,hr0,hp0,hnw⟩:=hb;rw[hr0] at hstep;unfold zlE at hstep;dsimp only at hstep;by_cases hfr:zgL o.op (ss0 pre.length) (hs0 p0).next (hs0 pre.length).next=true
      ·rw[if_pos hfr] at hstep;obtain⟨⟨v',h'⟩,hy,hstep⟩:=amf hstep;simp only[qC] at hstep;obtain⟨rfl,rfl,rfl⟩:=hstep;have:=(zly hfr hy).1;subst this;exact⟨nofun,fun _ h=>absurd h hw,fun _ _ h=>by(rw[hr] at h;cases h),fun _ _ _=>⟨rfl,.inr ⟨p0,hp0,hnw,hfr,hy⟩⟩,fun h=>absurd h hw,fun _=>hr0.symm⟩
      rw[if_neg hfr] at hstep;obtain⟨⟨v',h'⟩,hy,hstep⟩:=aof hstep
      split at hstep
      ·rename_i hreads;simp only[qq,qC] at hstep;obtain⟨rfl,rfl,rfl⟩:=hstep;refine⟨nofun,fun _ h=>absurd h hw,fun _ _ h=>by(rw[hr] at h;cases h),fun _ _ _=>⟨rfl,.inl fun p hp hbase hlo=> ?_⟩,fun h=>absurd h hw,fun _=>hr0.symm⟩;have hm:=hbs p hp hbase;rw[hr0] at hm;have fix: ∀{g:H} {h''},opV o.op (ss0 n) g=some (v',h'')→opV o.op (ss0 n) g=some (v',g):=by
        intro g h'' hg;have:=(zh3 hr (n:=g.next) (m:=g.mem) hg).1;rw[this] at hg;exact hg
       rcases qbi.1 hm with hm|hm
       ·rw[qC] at hm;rw[hm.2];exact fix hy
       ·obtain⟨h'',hx⟩:=zit hreads _ hm hlo;exact fix hx
      ·cases hstep
     ·rw[if_neg hr] at hstep;obtain⟨x,hx,e⟩:=amf hstep;simp only[qC] at e;obtain⟨rfl,rfl,rfl⟩:=e;exact⟨nofun,fun _ h=>absurd h hw,fun _ _ _=>hx,fun _ _ h=>absurd h hr,fun h=>absurd h hw,fun _=>rfl⟩
  obtain⟨k1,k2,k3,k4,k5,k6⟩:=key;have frA: ∀{op:COp} {s:zb} {q:Nat} {u:Value},q≤n→FreshAt pre hs0 op s q u→FreshAt (pre++[o]) hs1 op s q u:=by
   rintro op s q u hq ⟨p0,x1,x2,x3,x4⟩;refine⟨p0,x1,fun p c y1 y2 hc=>x2 p c y1 y2 ?_,by rw[h1a p0 (by omega),h1a q hq];exact x3,by rw[h1a q hq];exact x4⟩
   rwa [qj (by omega)] at hc
  have ht1:Tr ih (pre++[o]) ss1 hs1 vs1:=by
   refine⟨fun q c hq=> ?_,fun q c hq=> ?_⟩
   ·rcases get1 q c hq with⟨hlt,hc⟩| ⟨rfl,rfl⟩
    ·rw[s1a (q+1) (by omega),s1a q (by omega),v1a q hlt];exact ht.slots q c hc
    ·rw[s1b,s1a n (qd _),v1b]
   ·rcases get1 q c hq with⟨hlt,hc⟩| ⟨rfl,rfl⟩
    ·rw[s1a q (by omega),v1a q hlt,h1a q (by omega),h1a (q+1) (by omega)];obtain⟨b',a1,a2,a3,a4,a5⟩:=ht.step q c hc;refine⟨b',a1,a2,a3,a4,fun x1 x2 x3=>⟨(a5 x1 x2 x3).1,?_⟩⟩;rcases(a5 x1 x2 x3).2 with a6|a6
     ·refine .inl fun p hp hbase hlo=> ?_;rw[wc1 p (by omega)] at hlo;rw[h1a p (by omega)];exact a6 p hp ((base1 p (by omega)).1 hbase) hlo
     ·exact .inr (frA (by omega) a6)
    ·rw[s1a n (Nat.le_refl _),v1b,h1a n (Nat.le_refl _),h1b];refine⟨b,hwant,k1,k2,k3,fun x1 x2 x3=>⟨(k4 x1 x2 x3).1,?_⟩⟩;rcases(k4 x1 x2 x3).2 with a6|a6
     ·refine .inl fun p hp hbase hlo=> ?_;rw[wc1 p hp] at hlo;rw[h1a p hp];exact a6 p hp ((base1 p hp).1 hbase) hlo
     ·exact .inr (frA (qd _) a6)
  obtain⟨ss,hs,vs,q1,q2,q3,q4,q5⟩:=tr_of l (pre++[o]) bs1 ss1 hs1 vs1 sF hF ht1
   (by
     obtain⟨p0,hr0,hp0,hnw⟩:=hb;rw[len1,wc2];by_cases hw:isW o.op=true
     ·rw[if_pos hw,k5 hw];refine⟨n+1,?_,qd _,fun p c y1 y2 _=>by omega⟩;rw[hr0,h1b];simp[nextB,n]
     ·rw[if_neg hw,k6 (by simpa using hw)];refine⟨p0,by rw[h1a p0 hp0];simpa using hr0,Nat.le_succ_of_le hp0,fun p c y1 y2 hc=> ?_⟩;rcases get1 p c hc with⟨y3,y4⟩| ⟨-,rfl⟩
      ·exact hnw p c y1 y3 y4
      ·simpa using hw)
   (by
     intro p hp hbase;rw[len1] at hp;by_cases hpn:p≤n
     ·rw[wc1 p hpn,h1a p hpn];have:=hbs p hpn ((base1 p hpn).1 hbase);by_cases hw:isW o.op=true
      ·rw[k5 hw];exact qbU _ this
      ·rw[k6 (by simpa using hw)];exact this
     ·have:p=n+1:=by omega
      subst this;have hw:=base2 hbase;obtain⟨p0,hr0,-⟩:=hb;rw[wc2,if_pos hw,h1b,k5 hw];have:nextB bs=zw pre n+1:=by rw[hr0];rfl
      rw[this];exact qbm)
   (by rw[len1,s1b,h1b];exact hrest)
  refine⟨ss,hs,vs,by simpa using q1,fun q hq=> ?_,by simpa using q3,by simpa using q4,fun k hk=> ?_⟩
  rotate_left
  ·have ee:ss n=ss0 n∧hs n=hs0 n:=by
    obtain⟨r1,r2⟩:=q2 n (by rw[len1];omega);exact⟨r1.trans (s1a n (qd _)),r2.trans (h1a n (qd _))⟩
   cases k with
   |zero=>rw[qbC];show some (ss0 n,hs0 n)=some (ss n,hs n);rw[ee.1,ee.2]
   |succ k=>
    rw[qJ,zbe];have hst2:zN ih o bs (ss0 pre.length) (hs0 pre.length)=some (v,h1,bs1):=hstep0;rw[hst2,qg];have:=q5 k (by simpa using hk);rw[len1,s1b,h1b] at this;rw[show pre.length+(k+1)=n+1+k by omega];exact this
  obtain⟨r1,r2⟩:=q2 q (by rw[len1];have:q≤n:=hq;omega);exact⟨r1.trans (s1a q hq),r2.trans (h1a q hq)⟩
theorem zju {ih:IH} {l:List CI} {s:zb} {h:H} {sF:zb} {hF:H} (hrun:zx ih l [(0,h)] s h=some (sF,hF)):
 ∃ss hs vs,Tr ih l ss hs vs∧ss 0=s∧hs 0=h∧ss l.length=sF∧hs l.length=hF∧ ∀k,k≤l.length→zx ih (l.take k) [(0,h)] s h=some (ss k,hs k):=by
 obtain⟨ss,hs,vs,q1,q2,q3,q4,q5⟩:=tr_of l [] [(0,h)] (fun _=>s) (fun _=>h) (fun _=>zM) sF hF ⟨fun _ _ h=>by simp at h,fun _ _ h=>by simp at h⟩ ⟨0,rfl,qd _,fun _ _ _ _ h=>by simp at h⟩
  (fun p hp _=>by simp at hp;subst hp;simp[zw]) hrun
 exact⟨ss,hs,vs,by simpa using q1,(q2 0 (qbj _)).1,(q2 0 (qbj _)).2,by simpa using q3,by simpa using q4,fun k hk=>by have:=q5 k hk;simpa using this⟩
end
section
variable {P:Program}
def cut (ρ:Rho) (m:Nat):Rho:=fun i=>if i<m then ρ i else none
theorem zu {ρ:Rho} {m i:Nat} {R:RB}:cut ρ m i=some R↔i<m∧ρ i=some R:=by
 unfold cut
 split
 ·rename_i h;exact⟨fun e=>⟨h,e⟩,fun e=>e.2⟩
 ·rename_i h;exact⟨fun e=>(by cases e),fun e=>absurd e.1 h⟩
theorem cut_le (ρ:Rho) (m:Nat):zhL (cut ρ m) ρ:=fun _ _ h=>(zu.1 h).2
theorem zcv {ρ σ:Rho} {m m':Nat} (h:zhL ρ σ) (hm:m≤m'):zhL (cut ρ m) (cut σ m'):=fun i R hi=>by
 obtain⟨h1,h2⟩:=zu.1 hi;exact zu.2 ⟨by omega,h i R h2⟩
theorem HR.lift {ρ:Rho} {B:H} {w:World} {m:Nat} (hr:HR P (cut ρ B.next) B w) (hm:B.next≤m) (hb: ∀i R,ρ i=some R→R.blk<w.heap.size):HR P (cut ρ m) ⟨m,B.mem⟩ w where
 obj:=fun i R o hi ho=>by
  have ho':B.get i=some o:=ho;exact(hr.obj i R o (zu.2 ⟨hr.lt ho',(zu.1 hi).2⟩) ho').mono (zcv (fun _ _ h=>h) hm) rfl
 nxt:=fun i hi=>by
  have hi':m≤i:=hi;exact⟨by unfold cut;rw[if_neg (by omega)],(hr.nxt i (by omega)).2⟩
 sep:=fun i j R S hi hj ai aj e=>by
  obtain⟨x,hx,hxd⟩:=ai;obtain⟨y,hy,hyd⟩:=aj;have hx':B.get i=some x:=hx;have hy':B.get j=some y:=hy;exact hr.sep i j R S (zu.2 ⟨hr.lt hx',(zu.1 hi).2⟩) (zu.2 ⟨hr.lt hy',(zu.1 hj).2⟩) ⟨x,hx',hxd⟩ ⟨y,hy',hyd⟩ e
 blk:=fun i R hi=>hb i R (zu.1 hi).2
 glb:=fun i b x hi=>by
  have hi':B.get i=some (.glob b x):=hi;obtain⟨R,hR⟩:=hr.glb i b x hi';exact⟨R,zcv (fun _ _ h=>h) hm i R hR⟩
theorem HR.addLate {ρ:Rho} {h:H} {w:World} {R:RB} {io:IObj} (hr:HR P (cut ρ h.next) h w) (hR:ρ h.next=some R) (ho:OR P (cut ρ (h.next+1)) w R io) (hlt:R.blk<w.heap.size)
 (hinj: ∀i S,ρ i=some S→S.blk=R.blk→i=h.next):HR P (cut ρ (h.next+1)) (h.new io) w where
 obj:=fun i S o hi hg=>by
  obtain⟨h1,h2⟩:=zu.1 hi;rw[H.get_new] at hg;by_cases e:h.next=i
  ·rw[if_pos e] at hg;cases hg;subst e;rw[hR] at h2;cases h2;exact ho
  ·rw[if_neg e] at hg;exact(hr.obj i S o (zu.2 ⟨by omega,h2⟩) hg).mono (zcv (fun _ _ h=>h) (by omega)) rfl
 nxt:=fun i hi=>by
  rw[H.next_new] at hi;exact⟨by unfold cut;rw[if_neg (by omega)],by rw[H.get_new,if_neg (by omega)];exact(hr.nxt i (by omega)).2⟩
 sep:=fun i j S T hi hj ai aj e=>by
  obtain⟨h1,h2⟩:=zu.1 hi;obtain⟨h3,h4⟩:=zu.1 hj;by_cases ei:i=h.next
  ·subst ei;rw[hR] at h2;cases h2;exact(hinj j T h4 e.symm).symm
  ·by_cases ej:j=h.next
   ·subst ej;rw[hR] at h4;cases h4;exact hinj i S h2 e
   ·have k: ∀i,i≠h.next→zeC (h.new io) i→zeC h i:=by
     intro i hne ⟨x,hx,hxd⟩;rw[H.get_new,if_neg (fun h=>hne h.symm)] at hx;exact⟨x,hx,hxd⟩
    exact hr.sep i j S T (zu.2 ⟨by omega,h2⟩) (zu.2 ⟨by omega,h4⟩) (k i ei ai) (k j ej aj) e
 blk:=fun i S hi=>by
  obtain⟨h1,h2⟩:=zu.1 hi;by_cases ei:i=h.next
  ·subst ei;rw[hR] at h2;cases h2;exact hlt
  ·exact hr.blk i S (zu.2 ⟨by omega,h2⟩)
 glb:=fun i b x hi=>by
  rw[H.get_new] at hi;by_cases e:h.next=i
  ·subst e;exact⟨R,zu.2 ⟨by omega,hR⟩⟩
  ·rw[if_neg e] at hi;obtain⟨S,hS⟩:=hr.glb i b x hi;exact⟨S,zcv (fun _ _ h=>h) (by omega) i S hS⟩
theorem zbY {α β:Type} {f:α→Option β}: ∀{xs:List α} {ys:List β},allO f xs=some ys→ys.length=xs.length∧ ∀(i:Nat) x,xs[i]? =some x→ ∃y,f x=some y∧ys[i]? =some y
 | [],ys,h=>by cases h;exact⟨rfl,fun i x hx=>by simp at hx⟩
 |x::xs,ys,h=>by
  obtain⟨y,hy,h⟩:=aof h;obtain⟨zs,hz,rfl⟩:=amf h;obtain⟨h1,h2⟩:=zbY hz;refine⟨by simp[h1],fun i u hu=> ?_⟩;cases i with
  |zero=>simp at hu;subst hu;exact⟨y,hy,rfl⟩
  |succ i=>simp at hu;obtain⟨v,a,b⟩:=h2 i u hu;exact⟨v,a,by simpa using b⟩
def zgC:Task→Nat
 |.code _ _ h=>h.next
 |.call _ _ h=>h.next
 |.hand _ _ _ h=>h.next
 |.scope _ _ _ _ _ _ h=>h.next
def zbG:Out→Nat
 |.nrm _ h=>h.next
 |.exit _ _ h=>h.next
 |.ret _ h=>h.next
 |.val _ h=>h.next
 |.pan _ _ h=>h.next
theorem doOp_next {ih:IH} (hnx: ∀t o,ih t=some o→zgC t≤zbG o) {op:COp} {s:zb} {h:H} {v:Value} {h':H} (hv:doOp ih op s h=some (v,h')):h.next≤h'.next:=by
 have plain:opV op s h=some (v,h')→h.next≤h'.next:=zhe;cases op
 case call f as=>
  obtain⟨u,hu,hv⟩:=aof hv;obtain⟨l,hl,hv⟩:=aof hv;obtain⟨o,ho,hv⟩:=aof hv;have:=hnx _ _ ho;cases o<;>simp only[zhR,qq,qC,reduceCtorEq] at hv;obtain⟨rfl,rfl⟩:=hv;exact this
 case invoke tbl x as=>
  obtain⟨u,hu,hv⟩:=aof hv;obtain⟨r,hr,hv⟩:=aof hv;obtain⟨l,hl,hv⟩:=aof hv;obtain⟨o,ho,hv⟩:=aof hv;have:=hnx _ _ ho;cases o<;>simp only[zhR,qq,qC,reduceCtorEq] at hv;obtain⟨rfl,rfl⟩:=hv;exact this
 all_goals exact plain hv
theorem zlF {ih:IH} (hnx: ∀t o,ih t=some o→zgC t≤zbG o) {op:COp} {s:zb} {h:H} {o:Out} (hv:zdD ih op s h=some o):h.next≤zbG o:=by
 have plain:(opV op s h).map valO=some o→h.next≤zbG o:=by
  intro hv;obtain⟨⟨v,h'⟩,hv2,e⟩:=amf hv;subst e;exact zhe hv2
 cases op
 case call f as=>
  obtain⟨u,hu,hv⟩:=aof hv;obtain⟨l,hl,hv⟩:=aof hv;obtain⟨o1,ho,hv⟩:=aof hv;have:=hnx _ _ ho;cases o1<;>simp only[outOf,qq,reduceCtorEq] at hv
  ·subst hv;exact this
  ·subst hv;exact this
 case invoke tbl x as=>
  obtain⟨u,hu,hv⟩:=aof hv;obtain⟨r,hr,hv⟩:=aof hv;obtain⟨l,hl,hv⟩:=aof hv;obtain⟨o1,ho,hv⟩:=aof hv;have:=hnx _ _ ho;cases o1<;>simp only[outOf,qq,reduceCtorEq] at hv
  ·subst hv;exact this
  ·subst hv;exact this
 case panic x=>
  obtain⟨u,hu,hv⟩:=aof hv;unfold panV at hv
  split at hv
  ·cases hv;exact qd _
  ·cases hv
 all_goals exact plain hv
structure Reg (P:Program) (ih:IH) (M N:Nat) (ex:Nat→Prop) (ops:Array Oper) (cis l:List CI) (order ws:List Nat) (ss:Nat→zb) (hs:Nat→H) (vs:Nat→Value):Prop where
 hih: ∀t o,ih t=some o→zdF P M t o
 hnx: ∀t o,ih t=some o→zgC t≤zbG o
 hcis:allO (zt P N ops) ops.toList=some cis
 hord:OrdOk (ancs ops.toList) cis order
 hsur: ∀i,i<cis.length→ ¬ex i→ ∃q:Nat,order[q]? =some i
 hex: ∀q i:Nat,order[q]? =some i→ ¬ex i
 hws:ws=wsOf cis
 hl:zdl (ancs ops.toList) cis order=some l
 htr:Tr ih l ss hs vs
theorem zdo {op:COp} (h:isFl op=true):isW op=false∧isRd op=false∧zQ op=.pure:=by
 cases op<;>first
  | (rename_i b as;cases b<;>simp[isFl,isW,isRd,zQ] at h⊢;done)
  | (simp[isFl,isW,isRd,zQ] at h⊢;done)
structure At (P:Program) (N:Nat) (ops:Array Oper) (cis l:List CI) (order ws:List Nat) (q j:Nat) (o:Oper) (c:CI):Prop where
 ord:order[q]? =some j
 op:ops[j]? =some o
 ci:cis[j]? =some c
 comp:zt P N ops o=some c
 can:l[q]? =some {c with lo:=loOf (ancs ops.toList) ws j}
section
variable {ih:IH} {M N:Nat} {ex:Nat→Prop} {ops:Array Oper} {cis l:List CI} {order ws:List Nat} {ss:Nat→zb} {hs:Nat→H} {vs:Nat→Value}
theorem Reg.cisLen (G:Reg P ih M N ex ops cis l order ws ss hs vs):cis.length=ops.size:=by have:=(zbY G.hcis).1;simpa using this
theorem Reg.ordLen (G:Reg P ih M N ex ops cis l order ws ss hs vs):order.length=l.length:=(zbY G.hl).1.symm
theorem Reg.at (G:Reg P ih M N ex ops cis l order ws ss hs vs) {q:Nat} (hq:q<l.length): ∃j o c,At P N ops cis l order ws q j o c:=by
 have hq':q<order.length:=by rw[G.ordLen];exact hq
 have hj:=G.hord.lt q _ (qe hq');have hjo:order[q]<ops.size:=by rw[←G.cisLen];exact hj
 obtain⟨y,hy,hyl⟩:=(zbY G.hl).2 q _ (qe hq');obtain⟨c,hc,rfl⟩:=amf hy;have hws:=G.hws;subst hws;obtain⟨c',hc',hcl⟩:=(zbY G.hcis).2 order[q] ops[order[q]] (by simp[hjo]);rw[hcl] at hc;cases hc;exact⟨order[q],ops[order[q]],_,qe hq',by simp[hjo],hcl,hc',hyl⟩
theorem Reg.atOp (G:Reg P ih M N ex ops cis l order ws ss hs vs) {j:Nat} (hj:j<ops.size) (hx: ¬ex j): ∃q,q<l.length∧order[q]? =some j:=by
 obtain⟨q,hq⟩:=G.hsur j (by rw[G.cisLen];exact hj) hx;exact⟨q,by have:=(qf.1 hq).1;rw[G.ordLen] at this;exact this,hq⟩
theorem At.lt {q j:Nat} {o:Oper} {c:CI} (G:Reg P ih M N ex ops cis l order ws ss hs vs) (A:At P N ops cis l order ws q j o c):q<l.length:=by
 have:=(qf.1 A.ord).1;rw[G.ordLen] at this;exact this
def zex (l:List CI) (q:Nat):Option (List Bool):=(l[q]?).bind (·.dst)
theorem At.dst {q j:Nat} {o:Oper} {c:CI} (A:At P N ops cis l order ws q j o c):zex l q=c.dst:=by unfold zex;rw[A.can];rfl
theorem Reg.nextStep (G:Reg P ih M N ex ops cis l order ws ss hs vs) {q:Nat} (hq:q<l.length):(hs q).next≤(hs (q+1)).next:=by
 obtain⟨j,o,c,A⟩:=G.at hq;obtain⟨b,hb,h1,h2,h3,h4⟩:=G.htr.step q _ A.can;cases b with
 |false=>rw[(h1 rfl).2];exact qd _
 |true=>
  by_cases hw:isW c.op=true
  ·exact doOp_next G.hnx (h2 rfl hw)
  ·by_cases hr:isRd c.op=true
   ·rw[(h4 rfl (by simpa using hw) hr).1];exact qd _
   ·exact zhe (h3 rfl (by simpa using hw) (by simpa using hr))
theorem Reg.nextMono (G:Reg P ih M N ex ops cis l order ws ss hs vs) {p:Nat}: ∀{q:Nat},p≤q→q≤l.length→(hs p).next≤(hs q).next
 |0,h,_=>by have:p=0:=by omega
            subst this;exact qd _
 |q+1,h,hq=>by
  by_cases e:p=q+1
  ·subst e;exact qd _
  ·exact qbn (G.nextMono (q:=q) (by omega) (by omega)) (G.nextStep (by omega))
theorem Reg.slotAt (G:Reg P ih M N ex ops cis l order ws ss hs vs) (p:List Bool): ∀{q:Nat},q≤l.length→
 (∃q1,q1<q∧zex l q1=some p∧(∀q',q1<q'→q'<q→zex l q'≠some p)∧(ss q).get p=some (vs q1))∨((∀q',q'<q→zex l q'≠some p)∧(ss q).get p=(ss 0).get p)
 |0,_=>.inr ⟨fun q' h=>by omega,rfl⟩
 |q+1,hq=>by
  obtain⟨j,o,c,A⟩:=G.at (q:=q) (by omega);have hs1:=G.htr.slots q _ A.can;have hd:zex l q=c.dst:=A.dst;by_cases e:c.dst=some p
  ·refine .inl ⟨q,by omega,hd.trans e,fun q' h1 h2=>by omega,?_⟩;rw[hs1];show(zbh c.dst (vs q) (ss q)).get p=_;rw[e];exact PT.get_set_same _ _ _
  ·have hg:(ss (q+1)).get p=(ss q).get p:=by
    rw[hs1];show(zbh c.dst (vs q) (ss q)).get p=_;cases hcd:c.dst with
    |none=>rfl
    |some u=>exact PT.get_set_ne _ _ _ _ (fun h=>e (by rw[hcd,h]))
   rw[hg];rcases G.slotAt p (q:=q) (by omega) with⟨q1,h1,h2,h3,h4⟩| ⟨h1,h2⟩
   ·refine .inl ⟨q1,by omega,h2,fun q' a b=> ?_,h4⟩;by_cases eq:q'=q
    ·subst eq;rw[hd];exact e
    ·exact h3 q' a (by omega)
   ·refine .inr ⟨fun q' a=> ?_,h2⟩;by_cases eq:q'=q
    ·subst eq;rw[hd];exact e
    ·exact h1 q' (by omega)
structure Inv (P:Program) (N:Nat) (n:Nat) (l:List CI) (ss:Nat→zb) (hs:Nat→H) (vs:Nat→Value) (ρ0:Rho) (w0:World) (Ds:List Deferred) (live:Prop) (D:Nat→Prop) (pb:Nat) (ρ:Rho) (a:Act) (w:World):Prop where
 base:live→zkO l pb
 le:pb≤n
 done: ∀q c,q<pb→l[q]? =some c→isFl c.op=false→D q
 now: ∀q c,pb≤q→D q→l[q]? =some c→isW c.op=false
 hr:live→HR P (cut ρ (hs pb).next) (hs pb) w
 fl: ∀q,pb≤q→q<n→D q→ ∀io,hs (q+1)=(hs q).new io→ ∃R,ρ (hs q).next=some R∧OR P (cut ρ (hs (q+1)).next) w R io∧ ∀i S,ρ i=some S→S.blk=R.blk→i=(hs q).next
 blk: ∀i R,ρ i=some R→R.blk<w.heap.size
 dom: ∀i R,ρ i=some R→i<(hs pb).next∨ ∃q io,pb≤q∧q<n∧D q∧hs (q+1)=(hs q).new io∧i=(hs q).next
 old: ∀t:Nat,(∀q,D q→zex l q≠some (bits t))→ ∀v,(ss 0).get (bits t)=some v→ ∃v',a.tmps[t]? =some v'∧VR ρ0 v v'
 new: ∀q,q<n→D q→ ∀t:Nat,zex l q=some (bits t)→(∀q',q<q'→D q'→zex l q'≠some (bits t))→ ∃v',a.tmps[t]? =some v'∧VR (cut ρ (hs (q+1)).next) (vs q) v'
 size:a.tmps.size=N
 defers:a.defers=Ds
 ext:Ext ρ0 w0 ρ w
 zero: ∀i R,ρ0 i=some R→i<(hs 0).next
variable {ρ0 ρ:Rho} {w0 w:World} {Ds:List Deferred} {live:Prop} {D:Nat→Prop} {pb:Nat} {a:Act}
theorem Inv.absorb (G:Reg P ih M N ex ops cis l order ws ss hs vs) (hlive:live) (I:Inv P N l.length l ss hs vs ρ0 w0 Ds live D pb ρ a w): ∀{q:Nat},pb≤q→q≤l.length→(∀p c,p<q→l[p]? =some c→isFl c.op=false→D p)→HR P (cut ρ (hs q).next) (hs q) w
 |0,h,_,_=>by have:pb=0:=by omega
              subst this;exact I.hr hlive
 |q+1,h,hq,hD=>by
  by_cases e:pb=q+1
  ·subst e;exact I.hr hlive
  ·have hr:=I.absorb G hlive (q:=q) (by omega) (by omega) (fun p c hp hc hf=>hD p c (by omega) hc hf);obtain⟨j,o,c,A⟩:=G.at (q:=q) (by omega);obtain⟨b,hb,h1,h2,h3,h4⟩:=G.htr.step q _ A.can;cases b with
   |false=>rw[(h1 rfl).2];exact hr
   |true=>
    by_cases hf:isFl c.op=true
    ·obtain⟨k1,k2,k3⟩:=zdo hf;rw[(zdb k1 k2 k3 (h3 rfl k1 k2)).1];exact hr
    ·have hDq:=hD q _ (by omega) A.can (by simpa using hf);have hw0:=I.now q _ (by omega) hDq A.can;have hw:isW c.op=false:=hw0;by_cases hrd:isRd c.op=true
     ·rw[(h4 rfl hw hrd).1];exact hr
     ·have hop:=h3 rfl hw (by simpa using hrd);rcases zfC hw with hc|hc
      ·rw[(zdb hw (by simpa using hrd) hc hop).1];exact hr
      ·obtain⟨f,io,-,e2,-⟩:=zfa hc hop;obtain⟨R,hR,ho,hinj⟩:=I.fl q (by omega) (by omega) hDq io e2;rw[e2] at ho⊢;exact hr.addLate hR ho (I.blk _ _ hR) hinj
structure Now (P:Program) (N:Nat) (ops:Array Oper) (cis l:List CI) (order ws:List Nat) (D:Nat→Prop) (q j:Nat) (o:Oper) (c:CI):Prop where
 A:At P N ops cis l order ws q j o c
 not: ¬D q
 anc: ∀i,((ancs ops.toList).getD j 0).testBit i=true→ ∃p,order[p]? =some i∧D p
 down: ∀p i k,D p→order[p]? =some i→((ancs ops.toList).getD i 0).testBit k=true→ ∃p',order[p']? =some k∧D p'
 lt: ∀p,D p→p<l.length
variable {q j:Nat} {o:Oper} {c:CI}
theorem Now.later (G:Reg P ih M N ex ops cis l order ws ss hs vs) (W:Now P N ops cis l order ws D q j o c) {p:Nat} (hp:D p) (hq:q<p) {x:List Bool} (hx:x∈zbm c):zex l p≠some x:=by
 intro hd;obtain⟨i,o',d,A'⟩:=G.at (W.lt p hp);rw[A'.dst] at hd;rcases zdM (G.hord.names q j c W.A.ord W.A.ci) hx A'.ci hd with h|h|h
 ·subst h;have:=G.hord.inj q p _ W.A.ord A'.ord;omega
 ·obtain⟨q',h1,h2⟩:=G.hord.before q j i W.A.ord h;have:=G.hord.inj q' p _ h2 A'.ord;omega
 ·obtain⟨p',h1,h2⟩:=W.down p i j hp A'.ord h;have:=G.hord.inj p' q _ h1 W.A.ord;subst this;exact W.not h2
theorem Now.earlier (G:Reg P ih M N ex ops cis l order ws ss hs vs) (W:Now P N ops cis l order ws D q j o c) {p:Nat} (hq:p<q) {x:List Bool} (hx:x∈zbm c) (hd:zex l p=some x):D p:=by
 have hps:p<l.length:=by have:=W.A.lt G;omega
 obtain⟨i,o',d,A'⟩:=G.at hps;rw[A'.dst] at hd;rcases zdM (G.hord.names q j c W.A.ord W.A.ci) hx A'.ci hd with h|h|h
 ·subst h;have:=G.hord.inj q p _ W.A.ord A'.ord;omega
 ·obtain⟨p',h1,h2⟩:=W.anc i h;have:=G.hord.inj p' p _ h1 A'.ord;subst this;exact h2
 ·obtain⟨p',h1,h2⟩:=G.hord.before p i j A'.ord h;have:=G.hord.inj p' q _ h2 W.A.ord;omega
theorem Inv.slots (G:Reg P ih M N ex ops cis l order ws ss hs vs) (I:Inv P N l.length l ss hs vs ρ0 w0 Ds live D pb ρ a w) (W:Now P N ops cis l order ws D q j o c):SR (cut ρ (hs q).next) (zc4 (zbm c) (ss q)) a.tmps:=by
 intro t v hv;have hqs:=W.A.lt G;rw[zdn] at hv
 split at hv
 ·rename_i hx;rcases G.slotAt (bits t) (q:=q) (by omega) with⟨q1,h1,h2,h3,h4⟩| ⟨h1,h2⟩
  ·have hD1:=W.earlier G h1 hx h2;rw[h4] at hv;cases hv;obtain⟨v',a1,a2⟩:=I.new q1 (by omega) hD1 t h2 (fun q' b1 b2=>by
    by_cases hlt:q'<q
    ·exact h3 q' b1 hlt
    ·have hne:q'≠q:=fun e=>W.not (e▸b2);exact W.later G b2 (by omega) hx)
   exact⟨v',a1,a2.mono (zcv (fun _ _ h=>h) (G.nextMono (by omega) (by omega)))⟩
  ·rw[h2] at hv;obtain⟨v',a1,a2⟩:=I.old t (fun q' b=>by
    by_cases hlt:q'<q
    ·exact h1 q' hlt
    ·have hne:q'≠q:=fun e=>W.not (e▸b);exact W.later G b (by omega) hx) v hv
   exact⟨v',a1,a2.mono (fun i R hi=>zu.2 ⟨qO (I.zero i R hi) (G.nextMono (qbj _) (by omega)),I.ext.le i R hi⟩)⟩
 ·cases hv
theorem Inv.putSlots (G:Reg P ih M N ex ops cis l order ws ss hs vs) (I:Inv P N l.length l ss hs vs ρ0 w0 Ds live D pb ρ a w) (W:Now P N ops cis l order ws D q j o c) {v':Value} {σ:Rho} (hle:zhL ρ σ) (hv:VR (cut σ (hs (q+1)).next) (vs q) v'):
 (∀t:Nat,(∀p,(D p∨p=q)→zex l p≠some (bits t))→ ∀v,(ss 0).get (bits t)=some v→ ∃v0,(a.put o.dst v').tmps[t]? =some v0∧VR ρ0 v v0)∧
 (∀p,p<l.length→(D p∨p=q)→ ∀t:Nat,zex l p=some (bits t)→(∀p',p<p'→(D p'∨p'=q)→zex l p'≠some (bits t))→ ∃v0,(a.put o.dst v').tmps[t]? =some v0∧VR (cut σ (hs (p+1)).next) (vs p) v0)∧
 (a.put o.dst v').tmps.size=N∧(a.put o.dst v').defers=Ds:=by
 obtain⟨hop,hdst,hdlt⟩:=zbf W.A.comp;have hdq:zex l q=o.dst.map bits:=W.A.dst.trans hdst;have put_ne: ∀t:Nat,o.dst≠some t→(a.put o.dst v').tmps[t]? =a.tmps[t]?:=by
  intro t ht;cases hd:o.dst with
  |none=>rfl
  |some d=>
   show(a.tmps.setIfInBounds d v')[t]? =_;rw[qbe,if_neg (fun e=>ht (by rw[hd,e]))]
 have ne_of: ∀t:Nat,zex l q≠some (bits t)→o.dst≠some t:=by
  intro t h e;apply h;rw[hdq,e];rfl
 refine⟨fun t ht v hv=> ?_,fun p hp hDp t ht hlater=> ?_,?_,?_⟩
 ·rw[put_ne t (ne_of t (ht q (.inr rfl)))];exact I.old t (fun p hp=>ht p (.inl hp)) v hv
 ·by_cases e:p=q
  ·subst e;rw[hdq] at ht;obtain⟨d,hd,hbt⟩:=Option.map_eq_some_iff.1 ht;have:=zgb hbt;subst this;refine⟨v',?_,hv⟩;rw[hd];show(a.tmps.setIfInBounds d v')[d]? =_;have:d<a.tmps.size:=by rw[I.size];exact hdlt d hd
   simp[this]
  ·have hDp':D p:=hDp.resolve_right e;have hne:zex l q≠some (bits t):=by
    intro h;by_cases hlt:q<p
    ·refine W.later G hDp' hlt (x:=bits t) ?_ ht;have:c.dst=some (bits t):=W.A.dst.symm.trans h;simp[zbm,this]
    ·exact hlater q (by omega) (.inr rfl) h
   rw[put_ne t (ne_of t hne)];obtain⟨v0,a1,a2⟩:=I.new p hp hDp' t ht (fun p' b1 b2=>hlater p' b1 (.inl b2));exact⟨v0,a1,a2.mono (zcv hle (qd _))⟩
 ·cases o.dst<;>simp[Act.put,I.size]
 ·cases o.dst<;>simp[Act.put,I.defers]
theorem Inv.pb_le (I:Inv P N l.length l ss hs vs ρ0 w0 Ds live D pb ρ a w) (W:Now P N ops cis l order ws D q j o c) (hf:isFl c.op=false):pb≤q:=by
 by_cases h:pb≤q
 ·exact h
 ·exact absurd (I.done q _ (by omega) W.A.can hf) W.not
theorem new_ne (h:H) (io:IObj):h.new io≠h:=by
 intro e;have:=congrArg H.next e;simp at this
theorem Inv.pure (G:Reg P ih M N ex ops cis l order ws ss hs vs) (I:Inv P N l.length l ss hs vs ρ0 w0 Ds live D pb ρ a w) (W:Now P N ops cis l order ws D q j o c) (hw:isW c.op=false) (hh:hs (q+1)=hs q) {v':Value} (hv:VR (cut ρ (hs q).next) (vs q) v'):
 Inv P N l.length l ss hs vs ρ0 w0 Ds live (fun p=>D p∨p=q) pb ρ (a.put o.dst v') w:=by
 obtain⟨s1,s2,s3,s4⟩:=I.putSlots G W (σ:=ρ) (fun _ _ h=>h) (by rw[hh];exact hv);refine⟨I.base,I.le,fun p d hp hd hf=>.inl (I.done p d hp hd hf),fun p d hp hD hd=> ?_,I.hr,fun p hp hps hD io hio=> ?_,I.blk,fun i R hi=> ?_,s1,s2,s3,s4,I.ext,I.zero⟩
 ·rcases hD with hD|rfl
  ·exact I.now p d hp hD hd
  ·rw[W.A.can] at hd;cases hd;exact hw
 ·rcases hD with hD|rfl
  ·exact I.fl p hp hps hD io hio
  ·rw[hh] at hio;exact absurd hio.symm (new_ne _ _)
 ·rcases I.dom i R hi with h| ⟨p,io,h1,h2,h3,h4⟩
  ·exact .inl h
  ·exact .inr ⟨p,io,h1,h2,.inl h3,h4⟩
theorem Inv.alloc (G:Reg P ih M N ex ops cis l order ws ss hs vs) (I:Inv P N l.length l ss hs vs ρ0 w0 Ds live D pb ρ a w) (W:Now P N ops cis l order ws D q j o c) (hw:isW c.op=false) (hf:isFl c.op=false) {io:IObj} (hh:hs (q+1)=(hs q).new io) {v':Value} {R:RB} {ob:Obj}
 (hR:R.blk=w.heap.size) (hcalm:Calm ob) (hv:VR (upd (cut ρ (hs q).next) (hs q).next R) (vs q) v') (ho:OR P (upd (cut ρ (hs q).next) (hs q).next R) (w.alloc ob) R io):
 Inv P N l.length l ss hs vs ρ0 w0 Ds live (fun p=>D p∨p=q) pb (upd ρ (hs q).next R) (a.put o.dst v') (w.alloc ob):=by
 have hqs:=W.A.lt G;have hpq:=I.pb_le W hf;have hfree:ρ (hs q).next=none:=by
  cases hn:ρ (hs q).next with
  |none=>rfl
  |some S=>
   exfalso;rcases I.dom _ _ hn with h| ⟨p,io',h1,h2,h3,h4,h5⟩
   ·have:=G.nextMono hpq (by omega);omega
   ·have hne:p≠q:=fun e=>W.not (e▸h3);have hp1:(hs (p+1)).next=(hs p).next+1:=by rw[h4];simp
    by_cases hlt:p<q
    ·have:=G.nextMono (p:=p+1) (q:=q) (by omega) (by omega);omega
    ·have:=G.nextMono (p:=q+1) (q:=p) (by omega) (by omega);have hq1:(hs (q+1)).next=(hs q).next+1:=by rw[hh];simp
     omega
 have hle:zhL ρ (upd ρ (hs q).next R):=zdg R hfree;have hq1:(hs (q+1)).next=(hs q).next+1:=by rw[hh];simp
 have hcut:upd (cut ρ (hs q).next) (hs q).next R=cut (upd ρ (hs q).next R) (hs (q+1)).next:=by
  funext i
  rw[hq1];unfold upd cut;by_cases e:i=(hs q).next
  ·subst e;simp
  ·by_cases hlt:i<(hs q).next
   ·simp only[e,hlt,if_true,if_false];rw[if_pos (by omega)]
   ·simp only[e,hlt,if_false];rw[if_neg (by omega)]
 obtain⟨s1,s2,s3,s4⟩:=I.putSlots G W hle (by rw[←hcut];exact hv);have hcb:cut (upd ρ (hs q).next R) (hs pb).next=cut ρ (hs pb).next:=by
  funext i
  unfold cut upd;have:=G.nextMono hpq (by omega);by_cases hlt:i<(hs pb).next
  ·rw[if_pos hlt,if_pos hlt,if_neg (by omega)]
  ·rw[if_neg hlt,if_neg hlt]
 have blk': ∀i S,upd ρ (hs q).next R i=some S→(i=(hs q).next∧S=R)∨(i≠(hs q).next∧ρ i=some S):=by
  intro i S hi;unfold upd at hi
  split at hi
  ·rename_i e;cases hi;exact .inl ⟨e,rfl⟩
  ·rename_i e;exact .inr ⟨e,hi⟩
 refine⟨I.base,I.le,fun p d hp hd hf=>.inl (I.done p d hp hd hf),fun p d hp hD hd=> ?_,fun hl=>by rw[hcb];exact((I.hr hl).garbage hcalm).1,fun p hp hps hD io' hio=> ?_,fun i S hi=> ?_,fun i S hi=> ?_,s1,s2,s3,s4,?_,I.zero⟩
 ·rcases hD with hD|rfl
  ·exact I.now p d hp hD hd
  ·rw[W.A.can] at hd;cases hd;exact hw
 ·by_cases e:p=q
  ·subst e;rw[hh] at hio;have e2:io=io':=by
    have h1:((hs p).new io).get (hs p).next=some io:=by simp
    rw[hio] at h1;simpa using h1.symm
   subst e2;refine⟨R,zH _ _ _,by rw[←hcut];exact ho,fun i S hi hS=> ?_⟩;rcases blk' i S hi with⟨h,_⟩| ⟨_,h⟩
   ·exact h
   ·have:=I.blk i S h;omega
  ·obtain⟨S,h1,h2,h3⟩:=I.fl p hp hps (hD.resolve_right e) io' hio;refine⟨S,hle _ _ h1,h2.mono (zcv hle (Nat.le_refl _)) (zW (I.blk _ _ h1)),fun i T hi hT=> ?_⟩;rcases blk' i T hi with⟨_,rfl⟩| ⟨_,h⟩
   ·have:=I.blk _ _ h1;omega
   ·exact h3 i T h hT
 ·rcases blk' i S hi with⟨_,rfl⟩| ⟨_,h⟩
  ·simp[hR]
  ·have:=I.blk i S h;simp;omega
 ·rcases blk' i S hi with⟨h,_⟩| ⟨_,h⟩
  ·exact .inr ⟨q,io,hpq,hqs,.inr rfl,hh,h⟩
  ·rcases I.dom i S h with h| ⟨p,io',h1,h2,h3,h4⟩
   ·exact .inl h
   ·exact .inr ⟨p,io',h1,h2,.inl h3,h4⟩
 ·refine I.ext.trans ⟨hle,by simp,fun i S hi=> ?_,fun B hB _=>zW hB,fun B r hr'=>⟨r,by rw[zW (Array.getElem?_eq_some_iff.1 hr').1];exact hr',rfl⟩,rfl,rfl,fun a _=>zlx hcalm a,⟨rfl,Nat.le_refl _⟩⟩;rcases blk' i S hi with⟨_,rfl⟩| ⟨_,h⟩
  ·exact .inr (by omega)
  ·exact .inl ⟨i,S,h,rfl⟩
theorem Inv.write (G:Reg P ih M N ex ops cis l order ws ss hs vs) (I:Inv P N l.length l ss hs vs ρ0 w0 Ds live D pb ρ a w) (W:Now P N ops cis l order ws D q j o c) (hw:isW c.op=true) {v':Value} {σ:Rho} {w':World}
 (hv:VR σ (vs q) v') (hr:HR P σ (hs (q+1)) w') (he:Ext (cut ρ (hs q).next) w σ w'):
 ∃τ,Inv P N l.length l ss hs vs ρ0 w0 Ds live (fun p=>D p∨p=q) (q+1) τ (a.put o.dst v') w':=by
 have hqs:=W.A.lt G;have hfl:isFl c.op=false:=by
  cases h:isFl c.op with
  |false=>rfl
  |true=>have:=(zdo h).1;rw[hw] at this;cases this
 have hpq:=I.pb_le W hfl;have hst:=G.nextStep hqs;have hall: ∀p d,p<q→l[p]? =some d→isFl d.op=false→D p:=fun p d hp hd hf=>by
  obtain⟨i,o',d',A'⟩:=G.at (q:=p) (by omega);rw[A'.can] at hd;cases hd;have:=G.hord.writer q j c W.A.ord W.A.ci hw p i d' hp A'.ord A'.ci hf;obtain⟨p',h1,h2⟩:=W.anc i this;have:=G.hord.inj p' p _ h1 A'.ord;subst this;exact h2
 let τ:Rho:=fun i=>if i<(hs (q+1)).next then σ i else ρ i
 have τ1: ∀i,i<(hs (q+1)).next→τ i=σ i:=fun i h=>if_pos h
 have τ2: ∀i,¬i<(hs (q+1)).next→τ i=ρ i:=fun i h=>if_neg h
 have split: ∀i R,ρ i=some R→i<(hs q).next∨(hs (q+1)).next≤i:=by
  intro i R hi;rcases I.dom i R hi with h| ⟨p,io,h1,h2,h3,h4,h5⟩
  ·have:=G.nextMono hpq (by omega);exact .inl (by omega)
  ·have hne:p≠q:=fun e=>W.not (e▸h3);have hp1:(hs (p+1)).next=(hs p).next+1:=by rw[h4];simp
   by_cases hlt:p<q
   ·have:=G.nextMono (p:=p+1) (q:=q) (by omega) (by omega);exact .inl (by omega)
   ·have:=G.nextMono (p:=q+1) (q:=p) (by omega) (by omega);exact .inr (by omega)
 have hle:zhL ρ τ:=by
  intro i R hi;rcases split i R hi with h|h
  ·rw[τ1 i (by omega)];exact he.le i R (zu.2 ⟨h,hi⟩)
  ·rw[τ2 i (by omega)];exact hi
 have hcut:cut τ (hs (q+1)).next=σ:=by
  funext i
  unfold cut;by_cases h:i<(hs (q+1)).next
  ·rw[if_pos h,τ1 i h]
  ·rw[if_neg h];exact(hr.nxt i (by omega)).1.symm
 obtain⟨s1,s2,s3,s4⟩:=I.putSlots G W hle (by rw[hcut];exact hv);have hext:Ext ρ0 w0 τ w':=by
  refine⟨fun i R hi=>hle i R (I.ext.le i R hi),qbn I.ext.size he.size,fun i R hi=> ?_,fun B hB hn=> ?_,fun B r hr'=> ?_,he.os.trans I.ext.os,he.out.trans I.ext.out,fun a ha=>(he.froz a (qO ha I.ext.size)).trans (I.ext.froz a ha),⟨he.td.1.trans I.ext.td.1,qbn I.ext.td.2 he.td.2⟩⟩
  ·by_cases h:i<(hs (q+1)).next
   ·rw[τ1 i h] at hi;rcases he.fresh i R hi with⟨k,S,hk,hS⟩|hb
    ·rcases I.ext.fresh k S (zu.1 hk).2 with⟨k',T,hk',hT⟩|hb
     ·exact .inl ⟨k',T,hk',hT.trans hS⟩
     ·exact .inr (hS▸hb)
    ·exact .inr (qbn I.ext.size hb)
   ·rw[τ2 i h] at hi;exact I.ext.fresh i R hi
  ·rw[he.frame B (Nat.lt_of_lt_of_le hB I.ext.size) ?_,I.ext.frame B hB hn];intro i R hi e;rcases I.ext.fresh i R (zu.1 hi).2 with⟨k,S,hk,hS⟩|hb
   ·exact hn k S hk (hS.trans e)
   ·omega
  ·obtain⟨r1,h1,h2⟩:=I.ext.loops B r hr';obtain⟨r2,h3,h4⟩:=he.loops B r1 h1;exact⟨r2,h3,h4.trans h2⟩
 refine⟨τ,fun _=>.inr ⟨q,_,rfl,W.A.can,hw⟩,hqs,fun p d hp hd hf=> ?_,fun p d hp hD hd=> ?_,fun _=>by rw[hcut];exact hr,fun p hp hps hD io hio=> ?_,fun i R hi=> ?_,fun i R hi=> ?_,s1,s2,s3,s4,hext,I.zero⟩
 ·by_cases e:p=q
  ·exact .inr e
  ·exact .inl (hall p d (by omega) hd hf)
 ·rcases hD with hD|rfl
  ·exact I.now p d (by omega) hD hd
  ·omega
 ·have hD':D p:=hD.resolve_right (by omega);obtain⟨R,h1,h2,h3⟩:=I.fl p (by omega) hps hD' io hio;have hnp:=G.nextMono (p:=q+1) (q:=p) hp (by omega);have hnot: ∀i S,cut ρ (hs q).next i=some S→S.blk≠R.blk:=by
   intro i S hi e;obtain⟨k1,k2⟩:=zu.1 hi;have:=h3 i S k2 e;omega
  refine⟨R,hle _ _ h1,h2.mono (zcv hle (qd _)) (he.frame R.blk (I.blk _ _ h1) hnot),fun i S hi hS=> ?_⟩;by_cases h:i<(hs (q+1)).next
  ·rw[τ1 i h] at hi;rcases he.fresh i S hi with⟨k,T,hk,hT⟩|hb
   ·exact absurd (hT.trans hS) (hnot k T hk)
   ·have:=I.blk _ _ h1;omega
  ·rw[τ2 i h] at hi;exact h3 i S hi hS
 ·by_cases h:i<(hs (q+1)).next
  ·rw[τ1 i h] at hi;exact hr.blk i R hi
  ·rw[τ2 i h] at hi;exact qO (I.blk i R hi) he.size
 ·by_cases h:i<(hs (q+1)).next
  ·exact .inl h
  ·rw[τ2 i h] at hi;rcases I.dom i R hi with h'| ⟨p,io,h1,h2,h3,h4,h5⟩
   ·have:=G.nextMono (p:=pb) (q:=q+1) (by omega) (by omega);exact .inl (by omega)
   ·have hne:p≠q:=fun e=>W.not (e▸h3);by_cases hlt:p<q
    ·have hp1:(hs (p+1)).next=(hs p).next+1:=by rw[h4];simp
     have:=G.nextMono (p:=p+1) (q:=q) (by omega) (by omega);exact .inl (by omega)
    ·exact .inr ⟨p,io,by omega,h2,.inl h3,h4,h5⟩
end
end
section
variable {P:Program}
theorem zi5: ∀(l m:List Nat),l.Nodup→(∀x∈l,x∈m)→l.length≤m.length
 | [],m,_,_=>qbj _
 |x::l,m,hn,hs=>by
  obtain⟨h1,h2⟩:=qbN.1 hn;have hx:=hs x (by simp);have:=zi5 l (m.erase x) h2 (fun y hy=>(List.mem_erase_of_ne (fun e=>h1 (by rw[←e];exact hy))).2 (hs y (by simp[hy])));rw[List.length_erase_of_mem hx] at this;have:0<m.length:=List.length_pos_of_mem hx;simp only[qbg];omega
theorem zd8 (d:List Nat): ∀(es:List Edge) (s i:Nat),s.testBit i=true→(es.foldl (fun s e=>s ||| 2^e.on ||| d.getD e.on 0) s).testBit i=true
 | [],s,i,h=>h
 |e::es,s,i,h=>by
  rw[qbk];exact zd8 d es _ i (by simp[qbb,h])
theorem zhy (d:List Nat): ∀(es:List Edge) (s:Nat) (e:Edge),e∈es→(es.foldl (fun s e=>s ||| 2^e.on ||| d.getD e.on 0) s).testBit e.on=true
 |e'::es,s,e,h=>by
  rw[qbk];rcases qbi.1 h with rfl|h
  ·exact zd8 d es _ _ (by simp[qbb,qbA])
  ·exact zhy d es _ e h
theorem zlK: ∀(r:List Oper) (j:Nat) (o:Oper),r.reverse[j]? =some o→ ∀e∈o.after.toList,qt .any e=true→((ancs r.reverse).getD j 0).testBit e.on=true
 | [],j,o,h,e,he,hb=>by simp at h
 |x::r,j,o,h,e,he,hb=>by
  rw[qbs] at h⊢;rw[zhK];have hlen:(ancs r.reverse).length=r.reverse.length:=zgS _;by_cases hlt:j<r.reverse.length
  ·rw[qj hlt] at h;rw[qp,qj (by omega),←qp];exact zlK r j o h e he hb
  ·have hjl:=(List.getElem?_eq_some_iff.1 h).1;simp only[List.length_append,List.length_cons,List.length_nil] at hjl;have hje:j=r.reverse.length:=by omega
   subst hje;rw[ql (qd _),qbc] at h;cases h;rw[qp,ql (by omega),hlen,qbc];exact zhy _ _ 0 e (qk.2 ⟨he,hb⟩)
section
variable {ih:IH} {M N:Nat} {ex:Nat→Prop} {ops:Array Oper} {cis l:List CI} {order ws:List Nat} {ss:Nat→zb} {hs:Nat→H} {vs:Nat→Value}
variable {ρ0 ρ:Rho} {w0 w:World} {Ds:List Nat} {Db:List Deferred} {live:Prop} {D:Nat→Prop} {pb:Nat} {a:Act} {q j:Nat} {o:Oper} {c:CI}
def wIdx (cis:List CI) (i:Nat):Bool:=match cis[i]? with|some c=>isW c.op|none=>false
theorem Reg.wcount_eq (G:Reg P ih M N ex ops cis l order ws ss hs vs) (q:Nat):zw l q=((order.take q).filter (wIdx cis)).length:=by
 have hmap:l.map (fun c=>isW c.op)=order.map (wIdx cis):=by
  apply qbF;intro i;rw[qT,qT];by_cases hi:i<order.length
  ·obtain⟨y,hy,hyl⟩:=(zbY G.hl).2 i _ (qe hi);obtain⟨c,hc,rfl⟩:=amf hy;rw[hyl,qe hi];simp[wIdx,hc]
  ·rw[qP (by have:=(zbY G.hl).1;omega),qP (by omega)];rfl
 unfold zw;rw[←qA,←qA];have e1: ∀(xs:List CI),qba (fun c=>isW c.op) xs=qba id (xs.map fun c=>isW c.op):=fun xs=>by rw[qbx];rfl
 have e2: ∀(xs:List Nat),qba (wIdx cis) xs=qba id (xs.map (wIdx cis)):=fun xs=>by rw[qbx];rfl
 rw[e1,e2,qbE,qbE,hmap]
theorem Inv.lo (G:Reg P ih M N ex ops cis l order ws ss hs vs) (I:Inv P N l.length l ss hs vs ρ0 w0 (Ds.map zB++Db) live D pb ρ a w) (W:Now P N ops cis l order ws D q j o c):loOf (ancs ops.toList) ws j≤zw l pb:=by
 rw[G.wcount_eq];unfold loOf;refine zi5 _ _ ?_ ?_
 ·rw[G.hws];unfold wsOf;exact(qb5.filter _).filter _
 ·intro k hk;obtain⟨hk1,hk2⟩:=List.mem_filter.1 hk;rw[G.hws] at hk1;unfold wsOf at hk1;obtain⟨hk3,hk4⟩:=List.mem_filter.1 hk1;obtain⟨p,h1,h2⟩:=W.anc k hk2;obtain⟨k',o',d,A'⟩:=G.at (W.lt p h2);have e:k'=k:=by have:=A'.ord;rw[h1] at this;exact(Option.some.inj this).symm
  subst e;have hw:isW d.op=true:=by rw[A'.ci] at hk4;exact hk4
  have hlt:p<pb:=by
   by_cases h:p<pb
   ·exact h
   ·have hn:=I.now p _ (by omega) h2 A'.can;have hn':isW d.op=false:=hn;rw[hw] at hn';cases hn'
  refine qk.2 ⟨?_,by simp[wIdx,A'.ci,hw]⟩;have:(order.take pb)[p]? =some k':=by rw[qN,if_pos hlt];exact h1
  exact qR this
theorem Now.allDone (G:Reg P ih M N ex ops cis l order ws ss hs vs) (W:Now P N ops cis l order ws D q j o c) (hw:isW c.op=true): ∀p d,p<q→l[p]? =some d→isFl d.op=false→D p:=fun p d hp hd hf=>by
 have:=W.A.lt G;obtain⟨i,o',d',A'⟩:=G.at (q:=p) (by omega);rw[A'.can] at hd;cases hd;have:=G.hord.writer q j c W.A.ord W.A.ci hw p i d' hp A'.ord A'.ci hf;obtain⟨p',h1,h2⟩:=W.anc i this;have:=G.hord.inj p' p _ h1 A'.ord;subst this;exact h2
theorem zdR {op:COp} (h:isW op=true):isFl op=false:=by
 cases e:isFl op with
 |false=>rfl
 |true=>have:=(zdo e).1;rw[h] at this;cases this
theorem float_run (W:Now P N ops cis l order ws D q j o c) {ρ:Rho} (hS:SR (cut ρ (hs q).next) (zc4 (zbm c) (ss q)) a.tmps) (hblk: ∀i R,ρ i=some R→R.blk<w.heap.size) (hf:isFl c.op=true)
 (hv:opV c.op (ss q) (hs q)=some (vs q,hs (q+1))):hs (q+1)=hs q∧ ∃v',(execOp a.eval o).run P w=.ok (.value v') w∧VR (cut ρ (hs q).next) (vs q) v':=by
 obtain⟨k1,k2,k3⟩:=zdo hf;obtain⟨hop,hdst,hdlt⟩:=zbf W.A.comp;obtain⟨e1,e2⟩:=zdb k1 k2 k3 hv;have hag:zbd (zf c.op) (ss q) (zc4 (zbm c) (ss q)):=.keep _ fun p hp=>by simp[zbm,hp]
 have hno: ∀i,H.get ⟨(hs q).next,.nil⟩ i=none:=fun i=>PT.get_nil _;have hE:HR P (cut ρ (hs q).next) ⟨(hs q).next,.nil⟩ w:=by
  refine⟨fun i R o _ ho=> ?_,fun i hi=>⟨?_,hno i⟩,fun i j R S _ _ hai _ _=> ?_,fun i R hi=>hblk i R (zu.1 hi).2,fun i b x hi=>by rw[hno] at hi;cases hi⟩
  ·rw[hno] at ho;cases ho
  ·have:(hs q).next≤i:=hi
   unfold cut;rw[if_neg (by omega)]
  ·obtain⟨x,hx,_⟩:=hai;rw[hno] at hx;cases hx
 have hv':=e2 ⟨(hs q).next,.nil⟩;rw[zeg hag] at hv';have hsim:=op_sim hop hE hS hv';rw[k3] at hsim;exact⟨e1,hsim.2⟩
theorem Reg.keep (G:Reg P ih M N ex ops cis l order ws ss hs vs) {i:Nat} {io:IObj} {p q:Nat} (hq:q≤l.length) (hn: ∀m c,p≤m→m<q→l[m]? =some c→isW c.op=false) (hlt:i<(hs p).next) (hg:(hs p).get i=some io): ∀k,p+k≤q→(hs (p+k)).get i=some io
 |0,_=>hg
 |k+1,hk=>by
  have h0:=G.keep hq hn hlt hg k (by omega);obtain⟨j,o,c,A⟩:=G.at (q:=p+k) (by omega);have hw0:=hn (p+k) _ (by omega) (by omega) A.can;have hw:isW c.op=false:=hw0;obtain⟨b,hb,h1,h2,h3,h4⟩:=G.htr.step (p+k) _ A.can;show(hs (p+k+1)).get i=_;cases b with
  |false=>rw[(h1 rfl).2];exact h0
  |true=>
   by_cases hrd:isRd c.op=true
   ·rw[(h4 rfl hw hrd).1];exact h0
   ·have hop:=h3 rfl hw (by simpa using hrd);rcases zfC hw with hc|hc
    ·rw[(zdb hw (by simpa using hrd) hc hop).1];exact h0
    ·obtain⟨f,io',-,e2,-⟩:=zfa hc hop;rw[e2,H.get_new,if_neg (by have:=G.nextMono (p:=p) (q:=p+k) (by omega) (by omega);omega)];exact h0
theorem Inv.one (G:Reg P ih M N ex ops cis l order ws ss hs vs) (hlive:live) (I:Inv P N l.length l ss hs vs ρ0 w0 (Ds.map zB++Db) live D pb ρ a w) (hq:q≤l.length) (hpq:pb≤q) {p0 i:Nat} {cs:List Value} {e:Nat} (h0:p0≤q) (hn: ∀p c,p0≤p→p<q→l[p]? =some c→isW c.op=false)
 (hi:(hs p0).next≤i) (hg:(hs q).get i=some (.cells cs e)) (hlt:i<(hs q).next):HR P (cut ρ (hs q).next) ⟨(hs q).next,PT.set .nil (bits i) (.cells cs e)⟩ w:=by
 have get: ∀k o,H.get ⟨(hs q).next,PT.set .nil (bits i) (.cells cs e)⟩ k=some o→k=i∧o=.cells cs e:=by
  intro k o ho;have ho:(PT.set .nil (bits i) (IObj.cells cs e)).get (bits k)=some o:=ho;by_cases hk:k=i
  ·subst hk;rw[PT.get_set_same] at ho;cases ho;exact⟨rfl,rfl⟩
  ·rw[PT.get_set_ne _ _ _ _ (fun h=>hk (zgb h).symm),PT.get_nil] at ho;cases ho
 have hpb:pb≤p0:=by
  rcases I.base hlive with h| ⟨p,c,h1,h2,h3⟩
  ·omega
  ·by_cases h:pb≤p0
   ·exact h
   ·have:=hn p c (by omega) (by omega) h2;rw[h3] at this;cases this
 refine⟨fun k R o hk ho=> ?_,fun k hk=>⟨?_,?_⟩,fun j k R S _ _ hj hk _=> ?_,fun k R hk=>I.blk k R (zu.1 hk).2,fun k b x hk=> ?_⟩
 ·obtain⟨rfl,rfl⟩:=get k o ho;obtain⟨-,hR⟩:=zu.1 hk;rcases I.dom _ R hR with h| ⟨q1,io,h1,h2,h3,h4,h5⟩
  ·have:=G.nextMono hpb (by omega);omega
  ·have n1:(hs (q1+1)).next=(hs q1).next+1:=by rw[h4];simp
   have hq1:q1<q:=by
    by_cases h:q1<q
    ·exact h
    ·have:=G.nextMono (p:=q) (q:=q1) (by omega) (by omega);omega
   have hp1:p0≤q1:=by
    by_cases h:p0≤q1
    ·exact h
    ·have:=G.nextMono (p:=q1+1) (q:=p0) (by omega) (by omega);omega
   obtain⟨R1,f1,f2,-⟩:=I.fl q1 h1 h2 h3 io h4;rw[←h5,hR] at f1;cases f1;have hk:=G.keep (i:=k) (io:=io) (p:=q1+1) (q:=q) hq (fun m c y1 y2 hc=>hn m c (by omega) y2 hc) (by omega) (by rw[h4,H.get_new,if_pos h5.symm]) (q - (q1+1)) (by omega);rw[show q1+1+(q - (q1+1))=q by omega,hg] at hk;cases hk;exact f2.mono (zcv (fun _ _ h=>h) (G.nextMono (by omega) hq)) rfl
 ·unfold cut;rw[if_neg (by have:(hs q).next≤k:=hk;omega)]
 ·cases hh:H.get ⟨(hs q).next,PT.set .nil (bits i) (.cells cs e)⟩ k with
  |none=>rfl
  |some o=>have:=(get k o hh).1;have:(hs q).next≤k:=hk;omega
 ·obtain⟨x,hx,_⟩:=hj;obtain⟨y,hy,_⟩:=hk;rw[(get j x hx).1,(get k y hy).1]
 ·have:=(get k _ hk).2;cases this
theorem Inv.step (G:Reg P ih M N ex ops cis l order ws ss hs vs) (hlive:live∨isFl c.op=true) (I:Inv P N l.length l ss hs vs ρ0 w0 (Ds.map zB++Db) live D pb ρ a w) (W:Now P N ops cis l order ws D q j o c) (r:Option Nat) {Q:Exit→Act→World→Prop} {K:Act→World→Prop}
 (hK: ∀pb' τ a' w',Inv P N l.length l ss hs vs ρ0 w0 (Ds.map zB++Db) live (fun p=>D p∨p=q) pb' τ a' w'→K a' w'):wpOpIn (Wf r) 0 P ops Q j K a w:=by
 have hqs:=W.A.lt G;have hS:=I.slots G W;obtain⟨hop,hdst,hdlt⟩:=zbf W.A.comp;obtain⟨b,hb,h1,h2,h3,h4⟩:=G.htr.step q _ W.A.can;have hag:zbd (zf c.op) (ss q) (zc4 (zbm c) (ss q)):=.keep _ fun p hp=>by simp[zbm,hp]
 have hgg:zbd (zdd c.guard) (ss q) (zc4 (zbm c) (ss q)):=.keep _ fun p hp=>by simp[zbm,hp]
 have hb':z8 c.guard (zc4 (zbm c) (ss q))=some b:=by rw[←zfo hgg];exact hb
 have hwant:=zcj W.A.comp hS hb';unfold wpOpIn;simp only[W.A.op,hwant];cases b with
 |false=>
  simp only[qx,if_false];refine⟨fun f _=>Wf_fn r f,?_⟩;obtain⟨e1,e2⟩:=h1 rfl;have hvu: ∀σ,VR σ (vs q) undef:=fun σ=>by rw[e1];exact VR.tuple_of (VRL.nil σ)
  by_cases hw:isW c.op=true
  ·have hl:live:=hlive.resolve_right (by rw[zdR hw];simp);obtain⟨τ,hI⟩:=I.write G W hw (σ:=cut ρ (hs q).next) (w':=w) (hvu _) (by rw[e2];exact I.absorb G hl (I.pb_le W (zdR hw)) (by omega) (W.allDone G hw)) (.refl _ _);exact hK _ _ _ _ hI
  ·exact hK _ _ _ _ (I.pure G W (by simpa using hw) e2 (hvu _))
 |true=>
  simp only[if_true];by_cases hw:isW c.op=true
  ·have hl:live:=hlive.resolve_right (by rw[zdR hw];simp);have hr:=I.absorb G hl (I.pb_le W (zdR hw)) (by omega) (W.allDone G hw);have hv:=h2 rfl hw;rw[doOp_agree hag] at hv;refine op_wpV G.hih W.A.comp r hr hS hv (fun v' w' σ q1 q2 q3=> ?_);obtain⟨τ,hI⟩:=I.write G W hw q1 q2 q3;exact hK _ _ _ _ hI
  ·have hw':isW c.op=false:=by simpa using hw
   refine⟨fun f _=>Wf_fn r f,?_⟩;rw[Oper.semAt_eq _ _ _ (notDefer hop)];by_cases hfl:isFl c.op=true
   ·obtain⟨e1,v',e2,e3⟩:=float_run (vs:=vs) W hS I.blk hfl (h3 rfl hw' (zdo hfl).2.1);rw[e2];exact hK _ _ _ _ (I.pure G W hw' e1 e3)
   have hl:live:=hlive.resolve_right hfl;have hfl':isFl c.op=false:=by simpa using hfl
   have hpq:=I.pb_le W hfl';have hlift:HR P (cut ρ (hs q).next) ⟨(hs q).next,(hs pb).mem⟩ w:=(I.hr hl).lift (G.nextMono hpq (by omega)) I.blk;have pureAt: ∀{g:H},HR P (cut ρ (hs q).next) g w→hs (q+1)=hs q→zQ c.op=.pure→opV c.op (ss q) g=some (vs q,g)→o.uponIn (Wf r) 0 P a K Q ((execOp a.eval o).run P w):=by
    intro g hlg hh hc hv;rw[zeg hag] at hv;have hsim:=op_sim hop hlg hS hv;rw[hc] at hsim;obtain⟨-,v',e1,e2⟩:=hsim;rw[e1];exact hK _ _ _ _ (I.pure G W hw' hh e2)
   by_cases hr:isRd c.op=true
   ·obtain⟨e1,e2⟩:=h4 rfl hw' hr;have hcl:zQ c.op=.pure:=by
     rcases zfC hw' with h|h
     ·exact h
     ·exfalso;cases hcop:c.op<;>rw[hcop] at hr h<;>simp[isRd,zQ] at hr h;rename_i b as;cases b<;>simp[zQ] at h
    rcases e2 with e2| ⟨p0,f1,f2,f3,f4⟩
    ·refine pureAt hlift e1 hcl ?_;have:=e2 pb hpq (I.base hl) (I.lo G W);exact(zh3 hr (n:=(hs pb).next) (m:=(hs pb).mem) this).2 _
    ·obtain⟨-,i,g1,hlt,g2| ⟨cs,e,g2,g3⟩⟩:=zly f3 f4
     ·exact pureAt hlift e1 hcl (g2 _)
     ·exact pureAt (I.one G hl (by omega) hpq f1 f2 g1 g2 hlt) e1 hcl (g3 _ (PT.get_set_same _ _ _))
   ·have hv:=h3 rfl hw' (by simpa using hr);rcases zfC hw' with hc|hc
    ·obtain⟨e1,e2⟩:=zdb hw' (by simpa using hr) hc hv;exact pureAt hlift e1 hc (e2 _)
    ·obtain⟨f,io,e1,e2,e3⟩:=zfa hc hv;have hv':=e3 ⟨(hs q).next,(hs pb).mem⟩;rw[zeg hag] at hv';have hsim:=op_sim hop hlift hS hv';rw[hc] at hsim;obtain⟨f',io',k1,k2,k3⟩:=hsim;obtain⟨v',ob,R,z1,z2,z3,z4,z5⟩:=k3 (hs q).next (hlift.nxt _ (Nat.le_refl _)).1
     rw[z1];have eio:io=io':=by
      have h1:(H.new ⟨(hs q).next,(hs pb).mem⟩ io).get (hs q).next=some io:=by rw[H.get_new];exact if_pos rfl
      have h2:(H.new ⟨(hs q).next,(hs pb).mem⟩ io').get (hs q).next=some io':=by rw[H.get_new];exact if_pos rfl
      rw[k2,h2] at h1;exact(qy h1).symm
     subst eio;have ev:f' (hs q).next=vs q:=by rw[e1];exact k1.symm
     rw[ev] at z3;exact hK _ _ _ _ (I.alloc G W hw' hfl' e2 z2 z5 z3 z4)
def zJ (listed:Array Bool) (i:Nat):Prop:=listed[i]? =some true
def zbB (order:List Nat) (listed:Array Bool) (q:Nat):Prop:= ∃j,order[q]? =some j∧zJ listed j
theorem getD_false {listed:Array Bool} {i:Nat} (h:listed.getD i false=true):zJ listed i:=by
 unfold zJ;rw[qu] at h;cases e:listed[i]? with
 |none=>rw[e] at h;cases h
 |some b=>rw[e] at h;simp at h;rw[h]
theorem zer {listed:Array Bool} {i:Nat} (hi:i<listed.size):listed.getD i true=true↔zJ listed i:=by
 unfold zJ;rw[qu,qn hi];simp
theorem zei {listed:Array Bool} (hsz:listed.size=ops.size) {i:Nat}:i∈qV .any ops listed↔ ∃o,ops[i]? =some o∧ ¬zJ listed i∧ ∀e∈o.after.toList,qt .any e=true→zJ listed e.on:=by
 unfold qV;rw[qk,qS];constructor
 ·rintro⟨h1,h2⟩;rw[qm] at h2;obtain⟨h2,h3⟩:=h2;have hn: ¬zJ listed i:=by
   rw[←zer (by omega)];simpa using h2
  refine⟨ops[i],qn h1,hn,fun e he hb=> ?_⟩;rw[qn h1] at h3;simp only[qB,qb6,qbt] at h3;have:=h3 e (by simpa using he);rw[hb] at this;exact getD_false (by simpa using this)
 ·rintro⟨o,ho,hn,hall⟩;have h1:=(Array.getElem?_eq_some_iff.1 ho).1;refine⟨h1,?_⟩;rw[Bool.and_eq_true];constructor
  ·rw[←zer (by omega)] at hn;simpa using hn
  ·rw[ho];simp only[Option.map_some,Option.getD_some,Array.all_eq_true_iff_forall_mem];intro e he;by_cases hb:Region.binds .any e=true
   ·have:=hall e (by simpa using he) hb;unfold zJ at this;rw[qu,this];simp
   ·simp[hb]
def unl (n:Nat) (listed:Array Bool):List Nat:=(qbv n).filter fun i=> !listed.getD i true
theorem unl_set {n:Nat} {listed:Array Bool} (hsz:listed.size=n) {i:Nat} (hi:i<n) (hn: ¬zJ listed i):(unl n (listed.setIfInBounds i true)).length+1=(unl n listed).length:=by
 have key: ∀m,i<m∨m≤i→m≤n→((qbv m).filter fun k=> !(listed.setIfInBounds i true).getD k true).length+(if i<m then 1 else 0)=((qbv m).filter fun k=> !listed.getD k true).length:=by
  intro m _
  induction m with
  |zero=>intro _;simp
  |succ m ih=>
   intro hm;rw[List.range_succ,qbo,qbo,qH,qH];have one: ∀(f:Nat→Bool),(List.filter f [m]).length=if f m=true then 1 else 0:=fun f=>by
    by_cases h:f m=true
    ·rw[qX h,if_pos h];rfl
    ·rw[qbq h,if_neg h];rfl
   rw[one,one];have ihm:=ih (by omega) (by omega);by_cases e:i=m
   ·subst e;rw[if_neg (by omega)] at ihm;have h1:(listed.setIfInBounds i true).getD i true=true:=by rw[Array.getD_eq_getD_getElem?];simp[hsz,hi]
    have h2:listed.getD i true=false:=by rw[←zer (by omega)] at hn;simpa using hn
    rw[if_pos (by omega:i<i+1),h1,h2];simp only[qbV,Bool.not_false,if_true,qx,if_false];omega
   ·have h1:(listed.setIfInBounds i true).getD m true=listed.getD m true:=by
     rw[qu,qu,qbe,if_neg e]
    rw[h1];by_cases hlt:i<m
    ·rw[if_pos hlt] at ihm;rw[if_pos (by omega:i<m+1)];omega
    ·rw[if_neg hlt] at ihm;rw[if_neg (by omega: ¬i<m+1)];omega
 have:=key n (.inl hi) (qd _);rw[if_pos hi] at this;exact this
theorem ziq {n:Nat} {listed:Array Bool} (hsz:listed.size=n) (h:unl n listed=[]): ∀i,i<n→zJ listed i:=by
 intro i hi;rw[←zer (by omega)];have:=List.filter_eq_nil_iff.1 h i (qS.2 hi);simpa using this
theorem zbB.lt (G:Reg P ih M N ex ops cis l order ws ss hs vs) {listed:Array Bool} {q:Nat} (h:zbB order listed q):q<l.length:=by
 obtain⟨j,hj,-⟩:=h;have:=(qf.1 hj).1;rw[G.ordLen] at this;exact this
def zgv (ops:Array Oper) (listed:Array Bool):Prop:= ∀j,zJ listed j→ ∀o,ops[j]? =some o→ ∀e∈o.after.toList,qt .any e=true→zJ listed e.on
theorem zbQ {listed:Array Bool} (hcl:zgv ops listed) {j:Nat} {o:Oper} (ho:ops[j]? =some o) (hj: ∀e∈o.after.toList,qt .any e=true→zJ listed e.on) {i:Nat} (hi:((ancs ops.toList).getD j 0).testBit i=true):zJ listed i:=
 zeB (S:=zJ listed) ops.toList.reverse (by rw[List.reverse_reverse];intro j hj o ho;exact hcl j hj o (by simpa using ho)) j o (by simpa using ho) hj i (by simpa using hi)
theorem zku (G:Reg P ih M N ex ops cis l order ws ss hs vs) {listed:Array Bool} (hsz:listed.size=ops.size) {i:Nat} (h:zJ listed i) (hx: ¬ex i): ∃p,order[p]? =some i∧zbB order listed p:=by
 have hlt:i<ops.size:=by rw[←hsz];exact(qh.1 h).1
 obtain⟨p,-,hp⟩:=G.atOp hlt hx;exact⟨p,hp,i,hp,h⟩
theorem now_of (G:Reg P ih M N ex ops cis l order ws ss hs vs) {listed:Array Bool} (hsz:listed.size=ops.size) (hcl:zgv ops listed) {i:Nat} {o:Oper} (ho:ops[i]? =some o) (hn: ¬zJ listed i) (hx: ¬ex i) (hall: ∀e∈o.after.toList,qt .any e=true→zJ listed e.on):
 ∃q c,Now P N ops cis l order ws (zbB order listed) q i o c:=by
 have hio:=(qh.1 ho).1;obtain⟨q,hq,hqo⟩:=G.atOp hio hx;obtain⟨j,o',c,A⟩:=G.at hq;have ej:j=i:=by have:=A.ord;rw[hqo] at this;exact(qy this).symm
 subst ej;have eo:o'=o:=by have:=A.op;rw[ho] at this;exact(qy this).symm
 subst eo;have inOrd: ∀{p k m:Nat},order[p]? =some k→((ancs ops.toList).getD k 0).testBit m=true→ ¬ex m:=by
  intro p k m hk hm;obtain⟨p',-,h2⟩:=G.hord.before p k m hk hm;exact G.hex p' m h2
 refine⟨q,c,A,fun⟨k,h1,h2⟩=> ?_,fun m hm=>zku G hsz (zbQ hcl ho hall hm) (inOrd A.ord hm),fun p k m ⟨k',h1,h2⟩ hk hm=> ?_,fun p hp=>hp.lt G⟩
 ·rw[A.ord] at h1;cases h1;exact hn h2
 ·rw[hk] at h1;cases h1;have hk':k<ops.size:=by rw[←hsz];exact(Array.getElem?_eq_some_iff.1 h2).1
  exact zku G hsz (zbQ hcl (qn hk') (hcl k h2 _ (qn hk')) hm) (inOrd hk hm)
theorem zbN {listed:Array Bool} {j:Nat} (hj:j<listed.size) (k:Nat):zJ (listed.setIfInBounds j true) k↔zJ listed k∨k=j:=by
 unfold zJ;rw[qbe];by_cases e:j=k
 ·subst e;simp[hj]
 ·rw[if_neg e];exact⟨.inl,fun h=>h.resolve_right (fun h=>e h.symm)⟩
theorem zin {listed:Array Bool} (hsz:listed.size=ops.size) (hcl:zgv ops listed) {j:Nat} {o:Oper} (ho:ops[j]? =some o) (hall: ∀e∈o.after.toList,qt .any e=true→zJ listed e.on):zgv ops (listed.setIfInBounds j true):=by
 have hj:j<listed.size:=by rw[hsz];exact(qh.1 ho).1
 intro k hk o2 ho2 e he hb;rcases(zbN hj k).1 hk with hk|rfl
 ·exact(zbN hj _).2 (.inl (hcl k hk o2 ho2 e he hb))
 ·rw[ho] at ho2;cases ho2;exact(zbN hj _).2 (.inl (hall e he hb))
theorem zjc (G:Reg P ih M N ex ops cis l order ws ss hs vs) {listed:Array Bool} {j q:Nat} (hj:j<listed.size) (hq:order[q]? =some j):(fun p=>zbB order listed p∨p=q)=zbB order (listed.setIfInBounds j true):=by
 funext p
 apply propext;constructor
 ·rintro(⟨k,h1,h2⟩|rfl)
  ·exact⟨k,h1,(zbN hj k).2 (.inl h2)⟩
  ·exact⟨j,hq,(zbN hj j).2 (.inr rfl)⟩
 ·rintro⟨k,h1,h2⟩;rcases(zbN hj k).1 h2 with h2|rfl
  ·exact .inl ⟨k,h1,h2⟩
  ·exact .inr (G.hord.inj p q _ h1 hq)
theorem done_set_ex (G:Reg P ih M N ex ops cis l order ws ss hs vs) {listed:Array Bool} {j:Nat} (hj:j<listed.size) (hx:ex j):zbB order listed=zbB order (listed.setIfInBounds j true):=by
 funext p
 apply propext;constructor
 ·rintro⟨k,h1,h2⟩;exact⟨k,h1,(zbN hj k).2 (.inl h2)⟩
 ·rintro⟨k,h1,h2⟩;rcases(zbN hj k).1 h2 with h2|rfl
  ·exact⟨k,h1,h2⟩
  ·exact absurd hx (G.hex p _ h1)
theorem zhW {listed:Array Bool} (hsz:listed.size=ops.size) {i:Nat} (hi:i<ops.size) (hn: ¬zJ listed i) (hback: ∀j o,ops[j]? =some o→ ∀e∈o.after.toList,qt .any e=true→e.on<j):qV .any ops listed≠[]:=by
 intro hnil;have hex: ∀m,m≤ops.size→(∀q,q<m→zJ listed q):=by
  intro m
  induction m with
  |zero=>intro _ q hq;omega
  |succ m ihm=>
   intro hm q hq;have hprev:=ihm (by omega);by_cases hqm:q<m
   ·exact hprev q hqm
   ·have:q=m:=by omega
    subst this;refine qD fun hn=> ?_;have:q∈qV .any ops listed:=(zei hsz).2 ⟨ops[q],qn (by omega),hn,fun e he hb=>hprev _ (hback q _ (qn (by omega)) e he hb)⟩;rw[hnil] at this;cases this
 exact hn (hex ops.size (qd _) i hi)
theorem Inv.slotsAll (G:Reg P ih M N ex ops cis l order ws ss hs vs) (I:Inv P N l.length l ss hs vs ρ0 w0 (Ds.map zB++Db) live D pb ρ a w) (hlt: ∀p,D p→p<l.length) {ps:List (List Bool)} (hps: ∀p∈ps,∀q,q<l.length→zex l q=some p→D q):SR ρ (zc4 ps (ss l.length)) a.tmps:=by
 intro t v hv;rw[zdn] at hv
 split at hv
 ·rename_i hx;rcases G.slotAt (bits t) (q:=l.length) (Nat.le_refl _) with⟨q1,h1,h2,h3,h4⟩| ⟨h1,h2⟩
  ·rw[h4] at hv;cases hv;obtain⟨v',a1,a2⟩:=I.new q1 h1 (hps _ hx q1 h1 h2) t h2 (fun q' b1 b2=>h3 q' b1 (hlt q' b2));exact⟨v',a1,a2.mono (cut_le _ _)⟩
  ·rw[h2] at hv;obtain⟨v',a1,a2⟩:=I.old t (fun q' b=>h1 q' (hlt q' b)) v hv;exact⟨v',a1,a2.mono I.ext.le⟩
 ·cases hv
theorem Inv.slotsFin (G:Reg P ih M N ex ops cis l order ws ss hs vs) (I:Inv P N l.length l ss hs vs ρ0 w0 (Ds.map zB++Db) live D pb ρ a w) (hlt: ∀p,D p→p<l.length) (hall: ∀q,q<l.length→D q):SR ρ (ss l.length) a.tmps:=by
 intro t v hv;have:=I.slotsAll G hlt (ps:=[bits t]) (fun p _ q hq _=>hall q hq);exact this t v (by rw[zdn,if_pos (by simp)];exact hv)
theorem Inv.cut_all (G:Reg P ih M N ex ops cis l order ws ss hs vs) (I:Inv P N l.length l ss hs vs ρ0 w0 (Ds.map zB++Db) live D pb ρ a w):cut ρ (hs l.length).next=ρ:=by
 funext i
 unfold cut;by_cases h:i<(hs l.length).next
 ·rw[if_pos h]
 ·rw[if_neg h];cases hi:ρ i with
  |none=>rfl
  |some R=>
   exfalso;rcases I.dom i R hi with h'| ⟨q,io,h1,h2,h3,h4,h5⟩
   ·have:=G.nextMono I.le (qd _);omega
   ·have:=G.nextMono (p:=q+1) (q:=l.length) (by omega) (Nat.le_refl _);have hq1:(hs (q+1)).next=(hs q).next+1:=by rw[h4];simp
    omega
theorem draw_any (G:Reg P ih M N (fun _=>False) ops cis l order ws ss hs vs) (hback: ∀j o,ops[j]? =some o→ ∀e∈o.after.toList,qt .any e=true→e.on<j) (r:Option Nat) (hD0:zb6 ρ0 w0 Ds): ∀(fuel:Nat) (listed:Array Bool) (a:Act) (w:World) (pb:Nat) (ρ:Rho),listed.size=ops.size→(unl ops.size listed).length=fuel→zgv ops listed→
 Inv P N l.length l ss hs vs ρ0 w0 (Ds.map zB++Db) True (zbB order listed) pb ρ a w→wpAnyIn (Wf r) 0 P .any ops (zc7 P ρ0 w0 N Ds Db (.nrm (ss l.length) (hs l.length))) fuel listed a w:=by
 intro fuel
 induction fuel with
 |zero=>
  intro listed a w pb ρ hsz hfuel hcl I;have hall:=ziq hsz (qbr.1 hfuel);have hDall: ∀q,q<l.length→zbB order listed q:=by
   intro q hq;obtain⟨j,o,c,A⟩:=G.at hq;exact⟨j,A.ord,hall j (qh.1 A.op).1⟩
  refine⟨?_,?_⟩
  ·cases hr:Region.ready .any ops listed with
   |nil=>rfl
   |cons i r'=>
    exfalso;obtain⟨o,ho,hn,-⟩:=(zei hsz).1 (hr▸qbm:i∈qV .any ops listed);exact hn (hall i (qh.1 ho).1)
  ·have hr:=I.absorb G trivial I.le (qd _) (fun p _ hp _ _=>hDall p hp);rw[I.cut_all G] at hr;exact⟨ρ,Ds,ss l.length,hs l.length,I.ext,I.size,I.defers,⟨hD0.ext I.ext,fun D h=>.inl h⟩,I.slotsFin G (fun p hp=>hp.lt G) hDall,hr,.inl ⟨rfl,rfl⟩⟩
 |succ fuel ihf=>
  intro listed a w pb ρ hsz hfuel hcl I;refine⟨fun hnil=> ?_,fun i hi=> ?_⟩
  ·exfalso;have hne:unl ops.size listed≠[]:=by intro h;rw[h] at hfuel;cases hfuel
   obtain⟨i,hi⟩:=qbI _ hne;obtain⟨hi1,hi2⟩:=qk.1 hi;have hi1:=qS.1 hi1;exact zhW hsz hi1 (fun h=>by rw[(zer (by omega)).2 h] at hi2;cases hi2) hback hnil
  ·obtain⟨o,ho,hn,hall⟩:=(zei hsz).1 hi;have hio:=(qh.1 ho).1;obtain⟨q,c,W⟩:=now_of G hsz hcl ho hn (fun h=>h) hall;refine I.step G (.inl trivial) W r (fun pb' τ a' w' hI=> ?_);rw[zjc G (by omega) W.A.ord] at hI;refine ihf _ a' w' pb' τ (by simpa using hsz) ?_ (zin hsz hcl ho hall) hI;have:=unl_set hsz hio hn;omega
end
end
section
variable {P:Program}
theorem zga (ih:IH) (o:CI) (l:List CI) (bs:List (Nat×H)) (s:zb) (h:H):zfQ ih (o::l) bs s h=match zN ih o bs s h with
 |some x=>zfQ ih l x.2.2 (zbh o.dst x.1 s) x.2.1
 |none=>panAt ih o l bs s h:=rfl
structure PanAt (ih:IH) (l:List CI) (i0:Nat) (bs:List (Nat×H)) (s:zb) (h:H) (n:Nat) (c:CI) (s1:zb) (h1:H) (out:Out):Prop where
 at_:l[n]? =some c
 pre:zx ih (l.take n) bs s h=some (s1,h1)
 all: ∃r,zx ih (l.take n++(l.drop (n+1)).filter fun p=>qbB p.lo (i0+zw l n)) bs s h=some r
 want:z8 c.guard s1=some true
 wr:isW c.op=true
 pan:zdD ih c.op s1 h1=some out
 isPan: ∃v t g,out=.pan v t g
theorem drawStep_head {ih:IH} {o:CI} {bs:List (Nat×H)} {s:zb} {h:H} {x:Value×H×List (Nat×H)} {i0:Nat} {g:H} {r:List (Nat×H)} (hb:bs=(i0,g)::r) (hv:zN ih o bs s h=some x): ∃g' r',x.2.2=(i0+(if isW o.op=true then 1 else 0),g')::r':=by
 subst hb;obtain⟨b,hb,hv⟩:=aof hv;cases b with
 |false=>
  cases hv;by_cases hw:isW o.op=true
  ·simp only[hw,if_true];exact⟨_,_,rfl⟩
  ·simp only[hw,if_false,Nat.add_zero];exact⟨g,r,rfl⟩
 |true=>
  simp only[zcX] at hv;by_cases hw:isW o.op=true
  ·rw[if_pos hw] at hv;obtain⟨y,hy,e⟩:=amf hv;rw[←e,if_pos hw];exact⟨_,_,rfl⟩
  ·rw[if_neg hw] at hv;rw[if_neg hw]
   split at hv
   ·unfold zlE at hv;dsimp only at hv
    split at hv
    ·obtain⟨y,hy,e⟩:=amf hv;rw[←e];exact⟨_,_,rfl⟩
    ·obtain⟨y,hy,hv⟩:=aof hv
     split at hv
     ·cases hv;exact⟨_,_,rfl⟩
     ·cases hv
   ·obtain⟨y,hy,e⟩:=amf hv;rw[←e];exact⟨_,_,rfl⟩
theorem wcount_cons (o:CI) (l:List CI) (n:Nat):zw (o::l) (n+1)=(if isW o.op=true then 1 else 0)+zw l n:=by
 unfold zw;rw[qJ];rw[List.filter_cons];by_cases hw:isW o.op=true
 ·rw[if_pos hw,if_pos hw,qbg];omega
 ·rw[if_neg hw,if_neg hw];omega
theorem zim {ih:IH}: ∀(l:List CI) (bs:List (Nat×H)) (s:zb) (h:H) (o:Out) (i0:Nat) (g:H) (r:List (Nat×H)),bs=(i0,g)::r→zfQ ih l bs s h=some o→ ∃n c s1 h1,PanAt ih l i0 bs s h n c s1 h1 o
 | [],bs,s,h,o,i0,g,r,hb,hv=>by cases hv
 |c::l,bs,s,h,o,i0,g,r,hb,hv=>by
  rw[zga] at hv;cases hst:zN ih c bs s h with
  |none=>
   rw[hst] at hv;subst hb;obtain⟨b,hb,hv⟩:=aof (show(z8 c.guard s).bind _=some o from hv);cases hbw:(b&&isW c.op) with
   |false=>rw[hbw] at hv;cases hv
   |true=>
    rw[hbw] at hv;rw[qm] at hbw;obtain⟨rfl,hw⟩:=hbw;obtain⟨out,ho,hv⟩:=aof (show(zdD ih c.op s h).bind _=some o from hv);cases out with
    |pan v t g2=>
     obtain⟨x,hx,e⟩:=amf (show(zx ih _ _ s h).map _=some o from hv);subst e;refine⟨0,c,s,h,rfl,rfl,⟨x,?_⟩,hb,hw,ho,_,_,_,rfl⟩;have:zw (c::l) 0=0:=rfl;rw[this];exact hx
    |nrm=>cases hv
    |exit=>cases hv
    |ret=>cases hv
    |val=>cases hv
  |some x=>
   rw[hst] at hv;obtain⟨g',r',hb'⟩:=drawStep_head hb hst;obtain⟨n,c1,s1,h1,k⟩:=zim l _ _ _ o _ g' r' hb' hv;refine⟨n+1,c1,s1,h1,k.at_,?_,?_,k.want,k.wr,k.pan,k.isPan⟩
   ·rw[qJ,zbe,hst];exact k.pre
   ·obtain⟨y,hy⟩:=k.all;refine⟨y,?_⟩;rw[qJ,qb3,zbe,hst,wcount_cons,←Nat.add_assoc];exact hy
theorem zfK (d:List Nat): ∀(es:List Edge) (s:Nat) (e:Edge) (i:Nat),e∈es→(d.getD e.on 0).testBit i=true→(es.foldl (fun s e=>s ||| 2^e.on ||| d.getD e.on 0) s).testBit i=true
 |e'::es,s,e,i,h,hi=>by
  rw[qbk];rcases qbi.1 h with rfl|h
  ·exact zd8 d es _ _ (by rw[qbb,hi];simp)
  ·exact zfK d es _ e i h hi
def BackE (l:List Oper):Prop:= ∀(j:Nat) o,l[j]? =some o→ ∀e∈o.after.toList,qt .any e=true→e.on<j
theorem anc_lt (r:List Oper) (hb:BackE r.reverse) {j:Nat} {o:Oper} (ho:r.reverse[j]? =some o) {i:Nat} (hi:((ancs r.reverse).getD j 0).testBit i=true):i<j:=
 zeB (S:=fun m=>m<j) r (fun m hm o ho e he hbi=>Nat.lt_trans (hb m o ho e he hbi) hm) j o ho (fun e he hbi=>hb j o ho e he hbi) i hi
theorem getD_last (l:List Nat) (a:Nat) {n:Nat} (h:l.length=n):(l++[a]).getD n 0=a:=by
 rw[qp,ql (by omega),h,qbc];rfl
theorem getD_left (l:List Nat) (a:Nat) {j:Nat} (h:j<l.length):(l++[a]).getD j 0=l.getD j 0:=by
 rw[qp,qj h,←qp]
theorem zji: ∀(r:List Oper),BackE r.reverse→ ∀(j m:Nat) o,((ancs r.reverse).getD j 0).testBit m=true→r.reverse[m]? =some o→ ∀e∈o.after.toList,qt .any e=true→((ancs r.reverse).getD j 0).testBit e.on=true
 | [],_,j,m,o,h,_,_,_,_=>by simp[ancs] at h
 |x::r,hb,j,m,o,h,ho,e,he,hbi=>by
  have hlen:(ancs r.reverse).length=r.reverse.length:=zgS _;rw[qbs] at hb h ho⊢;rw[zhK] at h⊢;have hb':BackE r.reverse:=fun j o ho=>hb j o (by rw[qj (qf.1 ho).1];exact ho);have old: ∀{k:Nat},k<r.reverse.length→(r.reverse++[x])[k]? =some o→r.reverse[k]? =some o:=fun hk h=>by rw[qj hk] at h;exact h
  by_cases hlt:j<r.reverse.length
  ·rw[getD_left _ _ (by omega)] at h⊢;have hm:=anc_lt r hb' (qe hlt) h;exact zji r hb' j m o h (old (by omega) ho) e he hbi
  ·by_cases hje:j=r.reverse.length
   ·rw[hje,getD_last _ _ hlen] at h⊢;unfold ancOf at h⊢;rcases zkl _ _ 0 m h with h| ⟨ed,hed,h⟩
    ·simp at h
    ·have hed2:=List.mem_filter.1 hed;have hon:ed.on<r.reverse.length:=hb _ x (by rw[List.getElem?_append_right (Nat.le_refl _),Nat.sub_self];rfl) ed hed2.1 hed2.2;rcases h with rfl|h
     ·exact zfK _ _ 0 ed _ hed (zlK r ed.on o (old hon ho) e he hbi)
     ·have hm:=anc_lt r hb' (qe hon) h;exact zfK _ _ 0 ed _ hed (zji r hb' ed.on m o h (old (by omega) ho) e he hbi)
   ·rw[qp,qP (by rw[qH];simp only[qbg,qbO];omega)] at h;simp at h
theorem anc_trans {l:List Oper} (hb:BackE l) {j i k:Nat} {o:Oper} (h:((ancs l).getD j 0).testBit i=true) (ho:l[i]? =some o) (hk:((ancs l).getD i 0).testBit k=true):((ancs l).getD j 0).testBit k=true:=by
 have e:l=l.reverse.reverse:=by simp
 rw[e] at hb h ho hk⊢;exact zeB (S:=fun m=>((ancs l.reverse.reverse).getD j 0).testBit m=true) l.reverse (fun m hm o ho e he hbi=>zji _ hb j m o hm ho e he hbi) i o ho (fun e he hbi=>zji _ hb j i o h ho e he hbi) k hk
theorem zjp {anc:List Nat} {cis l:List CI} {order:List Nat} (hl:zdl anc cis order=some l) (q:Nat):zw l q=((order.take q).filter (wIdx cis)).length:=by
 have hmap:l.map (fun c=>isW c.op)=order.map (wIdx cis):=by
  apply qbF;intro i;rw[qT,qT];by_cases hi:i<order.length
  ·obtain⟨y,hy,hyl⟩:=(zbY hl).2 i _ (qe hi);obtain⟨c,hc,rfl⟩:=amf hy;rw[hyl,qe hi];simp[wIdx,hc]
  ·rw[qP (by have:=(zbY hl).1;omega),qP (by omega)];rfl
 unfold zw;rw[←qA,←qA];have e1: ∀(xs:List CI),qba (fun c=>isW c.op) xs=qba id (xs.map fun c=>isW c.op):=fun xs=>by rw[qbx];rfl
 have e2: ∀(xs:List Nat),qba (wIdx cis) xs=qba id (xs.map (wIdx cis)):=fun xs=>by rw[qbx];rfl
 rw[e1,e2,qbE,qbE,hmap]
theorem mem_wsOf {cis:List CI} {k:Nat}:k∈wsOf cis↔ ∃c,cis[k]? =some c∧isW c.op=true:=by
 unfold wsOf;rw[qk,qS];constructor
 ·rintro⟨h1,h2⟩;rw[qe h1] at h2;exact⟨_,qe h1,h2⟩
 ·rintro⟨c,h1,h2⟩;exact⟨(qf.1 h1).1,by rw[h1];exact h2⟩
theorem zfx {l:List Nat} (h: ∀(q q' j:Nat),l[q]? =some j→l[q']? =some j→q=q'):l.Nodup:=by
 unfold List.Nodup;rw[qbJ];intro i j hi hj hij e;have:=h i j l[i] (qe hi) (by rw[e];exact qe hj);omega
theorem ziA {l:List Nat} (h:l.Nodup): ∀(q q' j:Nat),l[q]? =some j→l[q']? =some j→q=q':=by
 unfold List.Nodup at h;rw[qbJ] at h;intro q q' j hq hq';obtain⟨a1,a2⟩:=qf.1 hq;obtain⟨b1,b2⟩:=qf.1 hq';rcases Nat.lt_trichotomy q q' with h1|h1|h1
 ·exact absurd (a2.trans b2.symm) (h q q' a1 b1 h1)
 ·exact h1
 ·exact absurd (b2.trans a2.symm) (h q' q b1 a1 h1)
section
variable {ops:Array Oper} {cis l:List CI} {order:List Nat}
theorem lo_le (hb:BackE ops.toList) {i j:Nat} {o:Oper} (ho:ops[i]? =some o) (h:((ancs ops.toList).getD j 0).testBit i=true):loOf (ancs ops.toList) (wsOf cis) i≤loOf (ancs ops.toList) (wsOf cis) j:=by
 unfold loOf;rw[←qA,←qA];exact List.countP_mono_left fun k _ hk=>anc_trans hb h (by simpa using ho) hk
theorem lo_gt (hb:BackE ops.toList) (hO:OrdOk (ancs ops.toList) cis order) (hl:zdl (ancs ops.toList) cis order=some l) {n x j:Nat} {o:Oper} {c:CI} (hx:order[n]? =some x) (ho:ops[x]? =some o) (hc:cis[x]? =some c) (hw:isW c.op=true) (h:((ancs ops.toList).getD j 0).testBit x=true):zw l n+1≤loOf (ancs ops.toList) (wsOf cis) j:=by
 rw[zjp hl];unfold loOf;have hnd:=zfx hO.inj;have hxn:x∉(order.take n).filter (wIdx cis):=fun hm=>by
  obtain⟨p,hp⟩:=qQ.1 (qk.1 hm).1;rw[qN] at hp
  split at hp
  ·have:=hO.inj p n x hp hx;omega
  ·cases hp
 refine zi5 (x::(order.take n).filter (wIdx cis)) _ (qbN.2 ⟨hxn,((List.take_sublist _ _).nodup hnd).filter _⟩) fun k hk=> ?_;rcases qbi.1 hk with rfl|hk
 ·exact qk.2 ⟨mem_wsOf.2 ⟨c,hc,hw⟩,h⟩
 ·obtain⟨hk1,hk2⟩:=List.mem_filter.1 hk;obtain⟨p,hp⟩:=List.mem_iff_getElem?.1 hk1;rw[List.getElem?_take] at hp
  split at hp
  ·rename_i hpn;have hkl:=hO.lt p k hp;unfold wIdx at hk2;rw[qe hkl] at hk2;have:=hO.writer n x c hx hc hw p k _ hpn hp (qe hkl) (zdR hk2);exact qk.2 ⟨mem_wsOf.2 ⟨_,qe hkl,hk2⟩,anc_trans hb h (by simpa using ho) this⟩
  ·cases hp
theorem lo_late (hO:OrdOk (ancs ops.toList) cis order) (hl:zdl (ancs ops.toList) cis order=some l) (hsur: ∀i,i<cis.length→ ∃q:Nat,order[q]? =some i) {n j:Nat} (h:zw l n+1≤loOf (ancs ops.toList) (wsOf cis) j): ∃(p k:Nat) (c:CI),n≤p∧order[p]? =some k∧cis[k]? =some c∧isW c.op=true∧((ancs ops.toList).getD j 0).testBit k=true:=by
 refine qD fun hno=> ?_;rw[zjp hl] at h;have:loOf (ancs ops.toList) (wsOf cis) j≤((order.take n).filter (wIdx cis)).length:=by
  unfold loOf;refine zi5 _ _ ?_ fun k hk=> ?_
  ·unfold wsOf;exact(qb5.filter _).filter _
  ·obtain⟨hk1,hk2⟩:=List.mem_filter.1 hk;obtain⟨c,hc,hw⟩:=mem_wsOf.1 hk1;obtain⟨p,hp⟩:=hsur k (List.getElem?_eq_some_iff.1 hc).1;have hpn:p<n:=Classical.byContradiction fun hp2=>hno ⟨p,k,c,by omega,hp,hc,hw,hk2⟩;refine List.mem_filter.2 ⟨?_,by unfold wIdx;rw[hc];exact hw⟩;have:(order.take n)[p]? =some k:=by rw[List.getElem?_take,if_pos hpn];exact hp
   exact qR this
 omega
def cutO (anc:List Nat) (cis:List CI) (order:List Nat) (n m:Nat):List Nat:=order.take n++(order.drop (n+1)).filter fun j=>qbB (loOf anc (wsOf cis) j) m
theorem zkN {α β:Type} {f:α→Option β}: ∀{xs ys:List α} {a b:List β},allO f xs=some a→allO f ys=some b→allO f (xs++ys)=some (a++b)
 | [],ys,a,b,h,hb=>by cases h;exact hb
 |x::xs,ys,a,b,h,hb=>by
  obtain⟨y,hy,h⟩:=aof h;obtain⟨z,hz,rfl⟩:=amf h;show(f x).bind _=_;rw[hy,qg];show(allO f (xs++ys)).map _=_;rw[zkN hz hb];rfl
theorem allO_take {α β:Type} {f:α→Option β}: ∀{xs:List α} {a:List β} (n:Nat),allO f xs=some a→allO f (xs.take n)=some (a.take n)
 |_,_,0,_=>by rw[qbC,qbC];rfl
 | [],a,n+1,h=>by cases h;rfl
 |x::xs,a,n+1,h=>by
  obtain⟨y,hy,h⟩:=aof h;obtain⟨z,hz,rfl⟩:=amf h;rw[qJ,qJ];show(f x).bind _=_;rw[hy,qg];show(allO f (xs.take n)).map _=_;rw[allO_take n hz];rfl
theorem allO_drop {α β:Type} {f:α→Option β}: ∀{xs:List α} {a:List β} (n:Nat),allO f xs=some a→allO f (xs.drop n)=some (a.drop n)
 |_,_,0,h=>h
 | [],a,n+1,h=>by cases h;rfl
 |x::xs,a,n+1,h=>by
  obtain⟨y,hy,h⟩:=aof h;obtain⟨z,hz,rfl⟩:=amf h;exact allO_drop n hz
theorem zgT {α β:Type} {f:α→Option β} {p:α→Bool} {p':β→Bool} (hp: ∀x y,f x=some y→p' y=p x): ∀{xs:List α} {a:List β},allO f xs=some a→allO f (xs.filter p)=some (a.filter p')
 | [],a,h=>by cases h;rfl
 |x::xs,a,h=>by
  obtain⟨y,hy,h⟩:=aof h;obtain⟨z,hz,rfl⟩:=amf h;have hxy:=hp x y hy;cases hpx:p x with
  |true=>
   rw[qX hpx,qX (by rw[hxy];exact hpx)];show(f x).bind _=_;rw[hy,qg];show(allO f (xs.filter p)).map _=_;rw[zgT hp hz];rfl
  |false=>
   rw[qbq (by rw[hpx];decide),qbq (by rw[hxy,hpx];decide)];exact zgT hp hz
theorem cut_perm {anc:List Nat} (hl:zdl anc cis order=some l) (n m:Nat):zdl anc cis (cutO anc cis order n m)=some (l.take n++(l.drop (n+1)).filter fun p=>qbB p.lo m):=by
 refine zkN (allO_take n hl) (zgT (fun j y hy=> ?_) (allO_drop (n+1) hl));obtain⟨c,hc,rfl⟩:=amf hy;rfl
theorem zc5 {anc:List Nat} {n m q:Nat} (hn:n≤order.length) (hq:q<n):(cutO anc cis order n m)[q]? =order[q]?:=by
 unfold cutO;rw[qj (by rw[qK];omega),qN,if_pos hq]
theorem zgN {anc:List Nat} {n m q j:Nat} (hn:n≤order.length) (hq:n≤q) (h:(cutO anc cis order n m)[q]? =some j):loOf anc (wsOf cis) j≤m∧ ∃p:Nat,n<p∧order[p]? =some j:=by
 unfold cutO at h;rw[ql (by rw[qK];omega)] at h;obtain⟨h1,h2⟩:=qk.1 (qR h);obtain⟨p,hp⟩:=qQ.1 h1;rw[qY] at hp;exact⟨qM h2,n+1+p,by omega,hp⟩
theorem cut_in {anc:List Nat} {n m p j:Nat} (hn:n≤order.length) (hp:n<p) (h:order[p]? =some j) (hlo:loOf anc (wsOf cis) j≤m): ∃q:Nat,n≤q∧(cutO anc cis order n m)[q]? =some j:=by
 have hm:j∈(order.drop (n+1)).filter fun j=>qbB (loOf anc (wsOf cis) j) m:=by
  refine qk.2 ⟨?_,by rw[qb9];exact hlo⟩;have:(order.drop (n+1))[p - (n+1)]? =some j:=by rw[qY,show n+1+(p - (n+1))=p by omega];exact h
  exact qR this
 obtain⟨q,hq⟩:=qQ.1 hm;refine⟨n+q,by omega,?_⟩;unfold cutO;rw[ql (by rw[qK];omega),qK,show n+q - min n order.length=q by omega];exact hq
theorem filter_idx {p:Nat→Bool} {ys:List Nat} {a b i j:Nat} (ha:ys[a]? =some i) (hb:ys[b]? =some j) (hab:a<b) (hi:p i=true) (hj:p j=true): ∃a' b':Nat,a'<b'∧(ys.filter p)[a']? =some i∧(ys.filter p)[b']? =some j:=by
 obtain⟨hbl,hbe⟩:=qf.1 hb;have e:ys=ys.take b++ys[b]::ys.drop (b+1):=by rw[qbR,qbu]
 have hm:i∈(ys.take b).filter p:=by
  refine qk.2 ⟨?_,hi⟩;have:(ys.take b)[a]? =some i:=by rw[qN,if_pos hab];exact ha
  exact qR this
 obtain⟨a',ha'⟩:=qQ.1 hm;have hal:=(qf.1 ha').1;have e2:ys.filter p=(ys.take b).filter p++(ys[b]::ys.drop (b+1)).filter p:=by conv=>lhs;rw[e,qbo]
 refine⟨a',((ys.take b).filter p).length,hal,?_,?_⟩
 ·rw[e2,qj hal];exact ha'
 ·rw[e2,ql (qd _),qbc,qX (by rw[hbe];exact hj),hbe];rfl
end
structure Px (P:Program) (N:Nat) (ops:Array Oper) (cis l:List CI) (order:List Nat) (n x:Nat) (o:Oper) (c:CI):Prop where
 back:BackE ops.toList
 ord:OrdOk (ancs ops.toList) cis order
 sur: ∀i,i<cis.length→ ∃q:Nat,order[q]? =some i
 perm:zdl (ancs ops.toList) cis order=some l
 cisL:cis.length=ops.size
 at_:order[n]? =some x
 op:ops[x]? =some o
 ci:cis[x]? =some c
 comp:zt P N ops o=some c
 wr:isW c.op=true
section
variable {N:Nat} {ops:Array Oper} {cis l:List CI} {order:List Nat} {n x:Nat} {ox:Oper} {cx:CI}
theorem Px.len (X:Px P N ops cis l order n x ox cx):n≤order.length:=Nat.le_of_lt (qf.1 X.at_).1
theorem Px.notIn (X:Px P N ops cis l order n x ox cx) (q:Nat):(cutO (ancs ops.toList) cis order n (zw l n))[q]?≠some x:=by
 intro h;by_cases hq:q<n
 ·rw[zc5 X.len hq] at h;have:=X.ord.inj q n x h X.at_;omega
 ·obtain⟨-,p,hp,h2⟩:=zgN X.len (by omega) h;have:=X.ord.inj p n x h2 X.at_;omega
theorem Px.notAnc (X:Px P N ops cis l order n x ox cx) {j:Nat} (h:loOf (ancs ops.toList) (wsOf cis) j≤zw l n):((ancs ops.toList).getD j 0).testBit x=false:=by
 cases e:((ancs ops.toList).getD j 0).testBit x with
 |false=>rfl
 |true=>have:=lo_gt X.back X.ord X.perm X.at_ X.op X.ci X.wr e;omega
theorem Px.opOf (X:Px P N ops cis l order n x ox cx) {i:Nat} (h:i<cis.length): ∃o,ops[i]? =some o:=⟨_,qn (by rw[←X.cisL];exact h)⟩
theorem Px.ordCut (X:Px P N ops cis l order n x ox cx):OrdOk (ancs ops.toList) cis (cutO (ancs ops.toList) cis order n (zw l n)) where
 lt:=fun q j h=>by
  by_cases hq:q<n
  ·rw[zc5 X.len hq] at h;exact X.ord.lt q j h
  ·obtain⟨-,p,hp,h2⟩:=zgN X.len (by omega) h;exact X.ord.lt p j h2
 inj:=ziA (by
  have hs:(cutO (ancs ops.toList) cis order n (zw l n)).Sublist order:=by
   conv=>rhs;rw[←qbu n order]
   unfold cutO;refine List.Sublist.append (List.Sublist.refl _) ((qbW).trans ?_);rw[←List.drop_drop];exact qb1 _ _
  exact hs.nodup (zfx X.ord.inj))
 before:=fun q j i h hi=>by
  by_cases hq:q<n
  ·rw[zc5 X.len hq] at h;obtain⟨p,hp,h2⟩:=X.ord.before q j i h hi;exact⟨p,hp,by rw[zc5 X.len (by omega)];exact h2⟩
  ·obtain⟨hlo,p,hp,h2⟩:=zgN X.len (by omega) h;obtain⟨p',hp',h3⟩:=X.ord.before p j i h2 hi;by_cases h4:p'<n
   ·exact⟨p',by omega,by rw[zc5 X.len h4];exact h3⟩
   ·have hne:p'≠n:=fun e=>by
     subst e;rw[X.at_] at h3;cases h3;rw[X.notAnc hlo] at hi;cases hi
    obtain⟨oi,hoi⟩:=X.opOf (X.ord.lt p' i h3);have hlo2:=qbn (lo_le (cis:=cis) X.back hoi hi) hlo;have g1:(order.drop (n+1))[p' - (n+1)]? =some i:=by rw[qY,show n+1+(p' - (n+1))=p' by omega];exact h3
    have g2:(order.drop (n+1))[p - (n+1)]? =some j:=by rw[qY,show n+1+(p - (n+1))=p by omega];exact h2
    obtain⟨a,b,hab,ha,hb⟩:=filter_idx (p:=fun j=>qbB (loOf (ancs ops.toList) (wsOf cis) j) (zw l n)) g1 g2 (by omega) (by rw[qb9];exact hlo2) (by rw[qb9];exact hlo);have up: ∀{a k:Nat},((order.drop (n+1)).filter fun j=>qbB (loOf (ancs ops.toList) (wsOf cis) j) (zw l n))[a]? =some k→(cutO (ancs ops.toList) cis order n (zw l n))[n+a]? =some k:=fun{a k} h=>by
     have hn:=X.len;unfold cutO;rw[ql (by rw[qK];omega),qK,show n+a - min n order.length=a by omega];exact h
    have e:q=n+b:=by
     have hs:(cutO (ancs ops.toList) cis order n (zw l n)).Sublist order:=by
      conv=>rhs;rw[←qbu n order]
      unfold cutO;refine List.Sublist.append (List.Sublist.refl _) ((qbW).trans ?_);rw[←List.drop_drop];exact qb1 _ _
     exact ziA (hs.nodup (zfx X.ord.inj)) q (n+b) j h (up hb)
    exact⟨n+a,by omega,up ha⟩
 writer:=fun q j c h hc hw q' i d hq' h' hd hf=>by
  by_cases hq:q<n
  ·rw[zc5 X.len hq] at h;rw[zc5 X.len (by omega)] at h';exact X.ord.writer q j c h hc hw q' i d hq' h' hd hf
  ·obtain⟨hlo,p,hp,h2⟩:=zgN X.len (by omega) h;have:=X.ord.writer p j c h2 hc hw n x cx hp X.at_ X.ci (zdR X.wr);rw[X.notAnc hlo] at this;cases this
 names:=fun q j c h hc=>by
  by_cases hq:q<n
  ·rw[zc5 X.len hq] at h;exact X.ord.names q j c h hc
  ·obtain⟨-,p,hp,h2⟩:=zgN X.len (by omega) h;exact X.ord.names p j c h2 hc
end
theorem doOpP_agree {ih:IH} {op:COp} {s s':zb} (h:zbd (zf op) s s') (hp:H):zdD ih op s hp=zdD ih op s' hp:=by
 have plain:=zeg h hp;cases op
 case call f as=>
  show callP _ _ _ _ _=callP _ _ _ _ _;unfold callP;rw[zh (x:=f) h.left,zcV (l:=as) h.right]
 case invoke tbl x as=>
  show invP _ _ _ _ _ _=invP _ _ _ _ _ _;unfold invP;rw[zh (x:=x) h.left,zcV (l:=as) h.right]
 case panic x=>
  show panP _ _ _=panP _ _ _;unfold panP;rw[zh (x:=x) h]
 all_goals first|rfl|exact congrArg (Option.map valO) plain
section
variable {ih:IH} {M N:Nat} {ex:Nat→Prop} {ops:Array Oper} {cis l l':List CI} {order ws:List Nat} {ss:Nat→zb} {hs:Nat→H} {vs:Nat→Value}
variable {ρ0 ρ:Rho} {w0 w:World} {Ds:List Nat} {Db:List Deferred} {pb:Nat} {a:Act} {n x:Nat} {ox:Oper} {cx:CI}
theorem Px.step (X:Px P N ops cis l order n x ox cx) (G:Reg P ih M N ex ops cis l' (cutO (ancs ops.toList) cis order n (zw l n)) ws ss hs vs) (hex: ∀i,¬ex i→ ∃q:Nat,(cutO (ancs ops.toList) cis order n (zw l n))[q]? =some i)
 (hn:n≤l'.length) {listed:Array Bool} (hsz:listed.size=ops.size) (hcl:zgv ops listed) (hall: ∀e∈ox.after.toList,qt .any e=true→zJ listed e.on)
 (I:Inv P N l'.length l' ss hs vs ρ0 w0 (Ds.map zB++Db) True (zbB (cutO (ancs ops.toList) cis order n (zw l n)) listed) pb ρ a w) (hwant:z8 cx.guard (ss n)=some true)
 {v:Value} {t:zb} {h2:H} (hpan:zdD ih cx.op (ss n) (hs n)=some (.pan v t h2)) (r:Option Nat) (hD0:zb6 ρ0 w0 Ds) {K:Act→World→Prop}:
 wpOpIn (Wf r) 0 P ops (zc7 P ρ0 w0 N Ds Db (.pan v t h2)) x K a w:=by
 have hanc: ∀{i:Nat},((ancs ops.toList).getD x 0).testBit i=true→ ∃p:Nat,p<n∧order[p]? =some i∧zbB (cutO (ancs ops.toList) cis order n (zw l n)) listed p:=fun{i} hi=>by
  obtain⟨p,hp,h2⟩:=X.ord.before n x i X.at_ hi;exact⟨p,hp,h2,i,by rw[zc5 X.len hp];exact h2,zbQ hcl X.op hall hi⟩
 have hhard: ∀p c,p<n→l'[p]? =some c→isFl c.op=false→zbB (cutO (ancs ops.toList) cis order n (zw l n)) listed p:=fun p c hp hc hf=>by
  obtain⟨j,o,d,A⟩:=G.at (q:=p) (by omega);rw[A.can] at hc;cases hc;have ho:=A.ord;rw[zc5 X.len hp] at ho;have:=X.ord.writer n x cx X.at_ X.ci X.wr p j d hp ho A.ci hf;exact⟨j,A.ord,zbQ hcl X.op hall this⟩
 have hwn: ∀(q:Nat) c,l'[q]? =some c→isW c.op=true→q<n:=fun q c hc hw=>by
  refine qD fun hq=> ?_;have hql:q<l'.length:=(qf.1 hc).1;obtain⟨j,o,d,A⟩:=G.at hql;rw[A.can] at hc;cases hc;obtain⟨hlo,p,hp,h3⟩:=zgN X.len (by omega) A.ord;have:=X.ord.writer p j d h3 A.ci hw n x cx hp X.at_ X.ci (zdR X.wr);rw[X.notAnc hlo] at this;cases this
 have hpb:pb≤n:=by
  rcases I.base trivial with h| ⟨p,c,h1,h2,h3⟩
  ·omega
  ·have:=hwn p c h2 h3;omega
 have hr:=I.absorb G trivial hpb hn (fun p c hp hc hf=>hhard p c hp hc hf);have hS:SR (cut ρ (hs n).next) (zc4 (zbm cx) (ss n)) a.tmps:=by
  intro t v hv;rw[zdn] at hv
  split at hv
  ·rename_i hx;have late: ∀q',zbB (cutO (ancs ops.toList) cis order n (zw l n)) listed q'→n≤q'→zex l' q'≠some (bits t):=fun q' hD hq' hd=>by
    obtain⟨i,o',d,A⟩:=G.at (hD.lt G);rw[A.dst] at hd;obtain⟨hlo,p,hp,h3⟩:=zgN X.len hq' A.ord;rcases zdM (X.ord.names n x cx X.at_ X.ci) hx A.ci hd with h|h|h
    ·subst h;exact X.notIn q' A.ord
    ·obtain⟨p',h4,h5⟩:=X.ord.before n x i X.at_ h;have:=X.ord.inj p' p i h5 h3;omega
    ·rw[X.notAnc hlo] at h;cases h
   have early: ∀q',q'<n→zex l' q'=some (bits t)→zbB (cutO (ancs ops.toList) cis order n (zw l n)) listed q':=fun q' hq' hd=>by
    obtain⟨i,o',d,A⟩:=G.at (q:=q') (by omega);rw[A.dst] at hd;have ho:=A.ord;rw[zc5 X.len hq'] at ho;rcases zdM (X.ord.names n x cx X.at_ X.ci) hx A.ci hd with h|h|h
    ·subst h;exact absurd A.ord (X.notIn q')
    ·exact⟨i,A.ord,zbQ hcl X.op hall h⟩
    ·obtain⟨p',h4,h5⟩:=X.ord.before q' i x ho h;have:=X.ord.inj p' n x h5 X.at_;omega
   rcases G.slotAt (bits t) (q:=n) hn with⟨q1,h1,h2,h3,h4⟩| ⟨h1,h2⟩
   ·rw[h4] at hv;cases hv;obtain⟨v',a1,a2⟩:=I.new q1 (by omega) (early q1 h1 h2) t h2 (fun q' b1 b2 hd=>by
     by_cases hlt:q'<n
     ·exact h3 q' b1 hlt hd
     ·exact late q' b2 (by omega) hd)
    exact⟨v',a1,a2.mono (zcv (fun _ _ h=>h) (G.nextMono (p:=q1+1) (q:=n) (by omega) (by omega)))⟩
   ·rw[h2] at hv;obtain⟨v',a1,a2⟩:=I.old t (fun q' b hd=>by
     by_cases hlt:q'<n
     ·exact h1 q' hlt hd
     ·exact late q' b (by omega) hd) v hv
    exact⟨v',a1,a2.mono (fun i R hi=>zu.2 ⟨qO (I.zero i R hi) (G.nextMono (qbj _) hn),I.ext.le i R hi⟩)⟩
  ·cases hv
 have hag:zbd (zf cx.op) (ss n) (zc4 (zbm cx) (ss n)):=.keep _ fun p hp=>by simp[zbm,hp]
 have hgg:zbd (zdd cx.guard) (ss n) (zc4 (zbm cx) (ss n)):=.keep _ fun p hp=>by simp[zbm,hp]
 rw[zfo hgg] at hwant;rw[doOpP_agree hag] at hpan;have hw2:=zcj X.comp hS hwant;unfold wpOpIn;simp only[X.op,hw2,if_true];refine op_wpIn G.hih X.comp r hr hS hpan (fun _ _ _ _ _ e=>by cases e) (fun v1 h1 v' w' σ e q1 q2 q3=> ?_);cases e;have hext:Ext ρ0 w0 (cut ρ (hs n).next) w:=⟨fun i R hi=>zu.2 ⟨qO (I.zero i R hi) (G.nextMono (qbj _) hn),I.ext.le i R hi⟩,I.ext.size,fun i R hi=>I.ext.fresh i R (zu.1 hi).2,I.ext.frame,I.ext.loops,I.ext.os,I.ext.out,I.ext.froz,I.ext.td⟩;have he:=hext.trans q3;exact⟨σ,Ds,.nil,h2,he,I.size,I.defers,⟨hD0.ext he,fun D h=>.inl h⟩,(fun t v hv=>by rw[PT.get_nil] at hv;cases hv),q2,.inr (.inr (.inr ⟨v,v',rfl,q1,rfl⟩))⟩
theorem draw_pan (X:Px P N ops cis l order n x ox cx) (G:Reg P ih M N ex ops cis l' (cutO (ancs ops.toList) cis order n (zw l n)) ws ss hs vs) (hex: ∀i,¬ex i→ ∃q:Nat,(cutO (ancs ops.toList) cis order n (zw l n))[q]? =some i) (hex2: ∀i,ex i→ ∀q:Nat,(cutO (ancs ops.toList) cis order n (zw l n))[q]?≠some i)
 (hn:n≤l'.length) (hwant:z8 cx.guard (ss n)=some true) {v:Value} {t:zb} {h2:H} (hpan:zdD ih cx.op (ss n) (hs n)=some (.pan v t h2)) (r:Option Nat) (hD0:zb6 ρ0 w0 Ds):
 ∀(fuel:Nat) (listed:Array Bool) (a:Act) (w:World) (pb:Nat) (ρ:Rho),listed.size=ops.size→(unl ops.size listed).length=fuel→zgv ops listed→ ¬zJ listed x→
 Inv P N l'.length l' ss hs vs ρ0 w0 (Ds.map zB++Db) True (zbB (cutO (ancs ops.toList) cis order n (zw l n)) listed) pb ρ a w→wpAnyIn (Wf r) 0 P .any ops (zc7 P ρ0 w0 N Ds Db (.pan v t h2)) fuel listed a w:=by
 have hxo:=(qh.1 X.op).1;have hback: ∀j o,ops[j]? =some o→ ∀e∈o.after.toList,qt .any e=true→e.on<j:=fun j o ho=>X.back j o (by simpa using ho);intro fuel
 induction fuel with
 |zero=>
  intro listed a w pb ρ hsz hfuel hcl hx I;exact absurd (ziq hsz (qbr.1 hfuel) x hxo) hx
 |succ fuel ihf=>
  intro listed a w pb ρ hsz hfuel hcl hx I;refine⟨fun hnil=>absurd hnil (zhW hsz hxo hx hback),fun i hi=> ?_⟩;obtain⟨o,ho,hno,hall⟩:=(zei hsz).1 hi;have hio:=(qh.1 ho).1;by_cases hix:i=x
  ·subst hix;have eo:o=ox:=by have:=X.op;rw[ho] at this;exact Option.some.inj this
   subst eo;exact X.step G hex hn hsz hcl hall I hwant hpan r hD0
  ·by_cases hin: ∃q:Nat,(cutO (ancs ops.toList) cis order n (zw l n))[q]? =some i
   ·have hxi: ¬ex i:=fun h=>by obtain⟨q,hq⟩:=hin;exact hex2 i h q hq
    obtain⟨q,c,W⟩:=now_of G hsz hcl ho hno hxi hall;refine I.step G (.inl trivial) W r (fun pb' τ a' w' hI=> ?_);rw[zjc G (by omega) W.A.ord] at hI;refine ihf _ a' w' pb' τ (by simpa using hsz) ?_ (zin hsz hcl ho hall) (fun h=> ?_) hI
    ·have:=unl_set hsz hio hno;omega
    ·rcases(zbN (by omega) x).1 h with h|h
     ·exact hx h
     ·exact hix h.symm
   ·exfalso;obtain⟨p,hp⟩:=X.sur i (by rw[X.cisL];exact hio);have hpn:n<p:=by
     refine qD fun h=> ?_;by_cases h2:p=n
     ·subst h2;rw[X.at_] at hp;exact hix (qy hp).symm
     ·exact hin ⟨p,by rw[zc5 X.len (by omega)];exact hp⟩
    have hlo:zw l n+1≤loOf (ancs ops.toList) (wsOf cis) i:=by
     refine qD fun h=> ?_;obtain⟨q,-,hq⟩:=cut_in (anc:=ancs ops.toList) (cis:=cis) (m:=zw l n) X.len hpn hp (by omega);exact hin ⟨q,hq⟩
    obtain⟨p',k,c,h1,h2,h3,h4,h5⟩:=lo_late X.ord X.perm X.sur hlo;have hk:=zbQ hcl ho hall h5;by_cases e:p'=n
    ·subst e;rw[X.at_] at h2;cases h2;exact hx hk
    ·have hkx:=X.ord.writer p' k c h2 h3 h4 n x cx (by omega) X.at_ X.ci (zdR X.wr);obtain⟨ok,hok⟩:=X.opOf (X.ord.lt p' k h2);exact hx (zbQ hcl hok (hcl k hk ok hok) hkx)
end
end
section
variable {P:Program}
theorem PT.set_comm {α:Type} (a b:α): ∀(p q:List Bool) (t:PT α),p≠q→(t.set p a).set q b=(t.set q b).set p a:=by
 intro p
 induction p with
 |nil=>
  intro q t hne;cases q with
  |nil=>exact absurd rfl hne
  |cons c q=>cases t<;>cases c<;>rfl
 |cons c p ih=>
  intro q t hne;cases q with
  |nil=>cases t<;>cases c<;>rfl
  |cons d q=>
   cases c<;>cases d
   ·have hpq:p≠q:=fun e=>hne (by rw[e]);cases t with
    |nil=>show PT.node ((PT.nil.set p a).set q b) none .nil=PT.node ((PT.nil.set q b).set p a) none .nil;rw[ih q .nil hpq]
    |node l v r=>show PT.node ((l.set p a).set q b) v r=PT.node ((l.set q b).set p a) v r;rw[ih q l hpq]
   ·cases t<;>rfl
   ·cases t<;>rfl
   ·have hpq:p≠q:=fun e=>hne (by rw[e]);cases t with
    |nil=>show PT.node .nil none ((PT.nil.set p a).set q b)=PT.node .nil none ((PT.nil.set q b).set p a);rw[ih q .nil hpq]
    |node l v r=>show PT.node l v ((r.set p a).set q b)=PT.node l v ((r.set q b).set p a);rw[ih q r hpq]
theorem H.put_comm (h:H) {i j:Nat} (hne:i≠j) (a b:IObj):(h.put i a).put j b=(h.put j b).put i a:=by
 unfold H.put
 congr 1
 exact PT.set_comm a b _ _ _ (fun e=>hne (zgb e))
theorem zk6 {h:H} {i off:Nat} {vs:List Value} {h':H} (hw:h.write i off vs=some h'): ∃cs esz cs',h.get i=some (.cells cs esz)∧(vs.all isCell&& !Nat.beq esz roE)=true∧zbp cs off vs=some cs'∧h'=h.put i (.cells cs' esz):=by
 obtain⟨o,ho,hw⟩:=aof hw;cases o with
 |cells cs esz=>
  simp only[zfZ] at hw
  split at hw
  ·rename_i hc;obtain⟨c,hcw,e⟩:=amf hw;exact⟨cs,esz,c,ho,hc,hcw,e.symm⟩
  ·cases hw
 |map _ _=>cases hw
 |loop _ _ _ _=>cases hw
 |dead=>cases hw
 |glob _ _=>cases hw
theorem write_of {h:H} {i off:Nat} {vs cs cs':List Value} {esz:Nat} (h1:h.get i=some (.cells cs esz)) (h2:(vs.all isCell&& !Nat.beq esz roE)=true) (h3:zbp cs off vs=some cs'):h.write i off vs=some (h.put i (.cells cs' esz)):=by
 unfold H.write;rw[h1,qg];simp only[zfZ];rw[if_pos h2,h3];rfl
theorem zjA {x y:COp} {s:zb} {h h2:H} (hv:zeI x y s h=some h2): ∃h1 h1',opV x s h=some (zM,h1)∧opV y s h1=some (zM,h2)∧opV y s h=some (zM,h1')∧opV x s h1'=some (zM,h2)∧h1.next=h.next∧h1'.next=h.next∧h2.next=h.next:=by
 unfold zeI at hv
 split at hv
 ·rename_i n a b m c d;obtain⟨p,hp,hv⟩:=aof hv;obtain⟨v,hvv,hv⟩:=aof hv;obtain⟨q,hq,hv⟩:=aof hv;obtain⟨u,hu,hv⟩:=aof hv;unfold store2 at hv;obtain⟨pa,hpa,hv⟩:=aof hv;obtain⟨qa,hqa,hv⟩:=aof hv
  split at hv
  ·cases hv
  ·rename_i hne;have hne':pa.block≠qa.block:=fun e=>hne (by rw[e];exact Nat.beq_refl _)
   split at hv
   ·rename_i hlen;rw[qm] at hlen;obtain⟨h1,hw1,hw2⟩:=aof hv;obtain⟨cs,esz,cs',a1,a2,a3,rfl⟩:=zk6 hw1;obtain⟨ds,esz',ds',b1,b2,b3,rfl⟩:=zk6 hw2;rw[H.get_put,if_neg hne'] at b1;have st: ∀{k:Nat} {e f:CO} {pv vv:Value} {ad:Addr} {g g':H},e.ev s=some pv→f.ev s=some vv→zgB pv=some ad→qE (zS vv).length k=true→g.write ad.block ad.off (zS vv)=some g'→opV (.store k e f) s g=some (zM,g'):=by
     intro k e f pv vv ad g g' e1 e2 e3 e4 e5;show zkE _ _ _ _ _=_;unfold zkE;simp only[e1,e2,e3,qg];rw[if_pos e4,e5];rfl
    refine⟨_,_,st hp hvv hpa hlen.1 hw1,st hq hu hqa hlen.2 hw2,st hq hu hqa hlen.2 (write_of b1 b2 b3),?_,rfl,rfl,rfl⟩;rw[H.put_comm _ hne'];exact st hp hvv hpa hlen.1 (write_of (by rw[H.get_put,if_neg (fun e=>hne' e.symm)];exact a1) a2 a3)
   ·cases hv
 ·cases hv
theorem back_spec {ops:Array Oper} (h:ops.toList.zipIdx.all (fun x=>(x.1.after.toList.filter (qt .any)).all fun e=>Nat.blt e.on x.2)=true): ∀(j:Nat) o,ops[j]? =some o→ ∀e∈o.after.toList,qt .any e=true→e.on<j:=by
 intro j o ho e he hb;have h1:=qG.1 h (o,j) (qbd.2 (by simpa using ho));have h2:=qG.1 h1 e (qk.2 ⟨he,hb⟩);simpa using h2
theorem any_beq {l:List Nat} {i:Nat} (h:l.any (qE i)=true): ∃q:Nat,l[q]? =some i:=by
 obtain⟨x,hx,e⟩:=qb7.1 h;have:=qi e;subst this;exact qQ.1 hx
structure LastOk (anc:List Nat) (cis:List CI) (rest:List Nat) (x y:Nat) (c:CI):Prop where
 dst:c.dst=none
 guard:c.guard=none
 hard: ∀i∈rest,zkd anc cis x i=true
 apart:(anc.getD x 0).testBit y=false
 self:(anc.getD x 0).testBit x=false
 first: ∀j∈rest,(anc.getD j 0).testBit x=false
 names: ∀p∈zf c.op,∀(i:Nat) (d:CI),cis[i]? =some d→d.dst=some p→(anc.getD x 0).testBit i=true
theorem zka {anc:List Nat} {cis:List CI} {rest:List Nat} {x y:Nat} {c:CI} (h:lastOk anc cis rest x y c=true):LastOk anc cis rest x y c:=by
 unfold lastOk at h;simp only[qm,qbH,qbZ,qG] at h;obtain⟨⟨⟨⟨⟨⟨⟨h0,h1⟩,h2⟩,h3⟩,h4⟩,h5⟩,h6⟩,h7⟩:=h;refine⟨h1,h2,h3,h4,h5,fun j hj=>by simpa using h6 j hj,fun p hp i d hd hdst=> ?_⟩;have:=h7 p hp (d,i) (qbd.2 hd);simp only[hdst,zez,qbV,Bool.false_or] at this;exact this
theorem ze5 {anc:List Nat} {cis:List CI} {cc:CC} (h:zey anc cis=some cc):
 (∃l order,cc=.draw l∧OrdOk anc cis order∧(∀i,i<cis.length→ ∃q:Nat,order[q]? =some i)∧zdl anc cis order=some l)∨
 (∃l order x y c d rest,cc=.draw2 l c d∧OrdOk anc cis order∧rest=((qbv cis.length).filter fun i=> !(qE i x)&& !(qE i y))∧(∀i∈rest,∃q:Nat,order[q]? =some i)∧(∀(q i:Nat),order[q]? =some i→i∈rest)∧
   cis[x]? =some c∧cis[y]? =some d∧LastOk anc cis rest x y c∧LastOk anc cis rest y x d∧x≠y∧zdl anc cis order=some l):=by
 unfold zey at h;dsimp only at h
 split at h
 ·rename_i hc;simp only[qm,qG] at hc;obtain⟨l,hl,e⟩:=amf h;exact .inl ⟨l,_,e.symm,ordOk_of hc.1.1,fun i hi=>any_beq (hc.2 i (qS.2 hi)),hl⟩
 ·split at h
  ·rename_i y x r hws;unfold draw2In at h;obtain⟨c,hc,h⟩:=aof h;obtain⟨d,hd,h⟩:=aof h;dsimp only at h
   split at h
   ·rename_i hk;simp only[qm,qG] at hk;obtain⟨⟨⟨⟨⟨h1,h2⟩,h3⟩,h4⟩,h5⟩,h6⟩:=hk;obtain⟨l,hl,e⟩:=amf h;refine .inr ⟨l,_,x,y,c,d,_,e.symm,ordOk_of h1,rfl,fun i hi=>any_beq (h2 i hi),fun q i hq=> ?_,hc,hd,zka h4,zka h5,fun e=>by subst e;simp at h6,hl⟩;have:=h3 i (qR hq);obtain⟨z,hz,e⟩:=qb7.1 this;rw[qi e];exact hz
   ·cases h
  ·cases h
section
variable {ih:IH} {M N:Nat} {ex:Nat→Prop} {ops:Array Oper} {cis l:List CI} {order ws:List Nat} {ss:Nat→zb} {hs:Nat→H} {vs:Nat→Value}
variable {ρ0 ρ σ:Rho} {w0 w w':World} {Ds:List Nat} {Db:List Deferred} {live:Prop} {D:Nat→Prop} {pb:Nat} {a:Act} {q j:Nat} {o:Oper} {c:CI}
theorem Inv.stepFl (G:Reg P ih M N ex ops cis l order ws ss hs vs) (I:Inv P N l.length l ss hs vs ρ0 w0 (Ds.map zB++Db) live D pb ρ a w) (W:Now P N ops cis l order ws D q j o c) (hf:isFl c.op=true) (r:Option Nat) {Q:Exit→Act→World→Prop} {K:Act→World→Prop}
 (hK: ∀a',Inv P N l.length l ss hs vs ρ0 w0 (Ds.map zB++Db) live (fun p=>D p∨p=q) pb ρ a' w→K a' w):wpOpIn (Wf r) 0 P ops Q j K a w:=by
 have hS:=I.slots G W;obtain⟨hop,hdst,hdlt⟩:=zbf W.A.comp;obtain⟨b,hb,h1,h2,h3,h4⟩:=G.htr.step q _ W.A.can;have hgg:zbd (zdd c.guard) (ss q) (zc4 (zbm c) (ss q)):=.keep _ fun p hp=>by simp[zbm,hp]
 have hb':z8 c.guard (zc4 (zbm c) (ss q))=some b:=by rw[←zfo hgg];exact hb
 have hwant:=zcj W.A.comp hS hb';have hw:=(zdo hf).1;unfold wpOpIn;simp only[W.A.op,hwant];cases b with
 |false=>
  simp only[qx,if_false];refine⟨fun f _=>Wf_fn r f,?_⟩;obtain⟨e1,e2⟩:=h1 rfl;exact hK _ (I.pure G W hw e2 (by rw[e1];exact VR.tuple_of (VRL.nil _)))
 |true=>
  simp only[if_true];refine⟨fun f _=>Wf_fn r f,?_⟩;rw[Oper.semAt_eq _ _ _ (notDefer hop)];obtain⟨e1,v',e2,e3⟩:=float_run (vs:=vs) W hS I.blk hf (h3 rfl hw (zdo hf).2.1);rw[e2];exact hK _ (I.pure G W hw e1 e3)
theorem Inv.over (I:Inv P N l.length l ss hs vs ρ0 w0 (Ds.map zB++Db) live D pb ρ a w) (he:Ext ρ w σ w') {hh:H} (hr:HR P σ hh w') (hn:hh.next=(hs l.length).next) (hall: ∀q c,q<l.length→l[q]? =some c→isFl c.op=false→D q) (hlt: ∀p,D p→p<l.length):
 Inv P N l.length l ss hs vs ρ0 w0 (Ds.map zB++Db) False D l.length σ a w' where
 base:=nofun
 le:=qd _
 done:=hall
 now:=fun q c hq hD _=>by have:=hlt q hD;omega
 hr:=nofun
 fl:=fun q h1 h2=>by omega
 blk:=hr.blk
 dom:=fun i R hi=>.inl (by
  by_cases h:i<(hs l.length).next
  ·exact h
  ·rw[(hr.nxt i (by omega)).1] at hi;cases hi)
 old:=I.old
 new:=fun q hq hD t ht hl=>let⟨v',a1,a2⟩:=I.new q hq hD t ht hl;⟨v',a1,a2.mono (zcv he.le (qd _))⟩
 size:=I.size
 defers:=I.defers
 ext:=I.ext.trans he
 zero:=I.zero
structure Two (P:Program) (N:Nat) (ops:Array Oper) (cis l:List CI) (order:List Nat) (ss:Nat→zb) (hs:Nat→H) (x y:Nat) (c:CI) (ox:Oper) (rest:List Nat):Prop where
 op:ops[x]? =some ox
 comp:zt P N ops ox=some c
 last:LastOk (ancs ops.toList) cis rest x y c
 wr:isW c.op=true
 ne:x≠y
theorem Two.step {y x:Nat} {ox:Oper} {rest:List Nat} (G:Reg P ih M N (fun i=>i=x∨i=y) ops cis l order ws ss hs vs) (T:Two P N ops cis l order ss hs x y c ox rest) {listed:Array Bool} (hsz:listed.size=ops.size) (hcl:zgv ops listed)
 (hall: ∀e∈ox.after.toList,qt .any e=true→zJ listed e.on) (hrest: ∀(q i:Nat),order[q]? =some i→i∈rest) (I:Inv P N l.length l ss hs vs ρ0 w0 (Ds.map zB++Db) live (zbB order listed) pb ρ a w)
 {hh hh':H} (hr:HR P ρ hh w) (hn:hh'.next=(hs l.length).next) (hv:opV c.op (ss l.length) hh=some (zM,hh')) (r:Option Nat) {Q:Exit→Act→World→Prop} {K:Act→World→Prop}
 (hK: ∀σ w',Inv P N l.length l ss hs vs ρ0 w0 (Ds.map zB++Db) False (zbB order (listed.setIfInBounds x true)) l.length σ a w'→HR P σ hh' w'→K a w'):wpOpIn (Wf r) 0 P ops Q x K a w:=by
 have hxlt:x<listed.size:=by rw[hsz];exact(qh.1 T.op).1
 have hdone: ∀{i:Nat},((ancs ops.toList).getD x 0).testBit i=true→i≠x→i≠y→ ∃p,order[p]? =some i∧zbB order listed p:=fun hi h1 h2=>
  zku G hsz (zbQ hcl T.op hall hi) (fun h=>h.elim h1 h2)
 have hhard: ∀q c',q<l.length→l[q]? =some c'→isFl c'.op=false→zbB order listed q:=by
  intro q c' hq hc' hf;obtain⟨i,o',d,A⟩:=G.at hq;rw[A.can] at hc';cases hc';have hbit:=zeX (T.last.hard i (hrest q i A.ord)) A.ci hf;obtain⟨p,h1,h2⟩:=hdone hbit (fun e=>G.hex q i A.ord (.inl e)) (fun e=>G.hex q i A.ord (.inr e));have:=G.hord.inj p q _ h1 A.ord;subst this;exact h2
 have hS:SR ρ (zc4 (zf c.op) (ss l.length)) a.tmps:=I.slotsAll G (fun p hp=>hp.lt G) (fun p hp q hq hd=>by
  obtain⟨i,o',d,A⟩:=G.at hq;rw[A.dst] at hd;have hbit:=T.last.names p hp i d A.ci hd;obtain⟨p',h1,h2⟩:=hdone hbit (fun e=>G.hex q i A.ord (.inl e)) (fun e=>G.hex q i A.ord (.inr e));have:=G.hord.inj p' q _ h1 A.ord;subst this;exact h2)
 have hag:zbd (zf c.op) (ss l.length) (zc4 (zf c.op) (ss l.length)):=.keep _ fun p hp=>hp;rw[zeg hag] at hv;have hv':doOp ih c.op (zc4 (zf c.op) (ss l.length)) hh=some (zM,hh'):=by
  have this1: ¬ ∃f as,c.op=.call f as:=by
   rintro⟨f,as,e⟩;rw[e] at hv;cases hv
  have this2: ¬ ∃t x as,c.op=.invoke t x as:=by
   rintro⟨t,x,as,e⟩;rw[e] at hv;cases hv
  have e:doOp ih c.op (zc4 (zf c.op) (ss l.length)) hh=opV c.op (zc4 (zf c.op) (ss l.length)) hh:=by
   cases hc:c.op
   case call f as=>exact(this1 ⟨f,as,hc⟩).elim
   case invoke t x as=>exact(this2 ⟨t,x,as,hc⟩).elim
   all_goals rfl
  rw[e];exact hv
 have hwant:=zcj (b:=true) T.comp hS (by rw[T.last.guard];rfl);obtain⟨hop,hdst,-⟩:=zbf T.comp;have hod:ox.dst=none:=by
  rw[T.last.dst] at hdst;cases h:ox.dst with
  |none=>rfl
  |some d=>rw[h] at hdst;cases hdst
 unfold wpOpIn;simp only[T.op,hwant,if_true];refine op_wpV G.hih T.comp r hr hS hv' (fun v' w' σ q1 q2 q3=> ?_);rw[hod];have hI:=I.over q3 q2 hn hhard (fun p hp=>hp.lt G);rw[done_set_ex G hxlt (.inl rfl)] at hI;exact hK σ w' hI q2
theorem draw_two {x y:Nat} {ox oy:Oper} {c d:CI} {rest:List Nat} (G:Reg P ih M N (fun i=>i=x∨i=y) ops cis l order ws ss hs vs) (G':Reg P ih M N (fun i=>i=y∨i=x) ops cis l order ws ss hs vs)
 (Tx:Two P N ops cis l order ss hs x y c ox rest) (Ty:Two P N ops cis l order ss hs y x d oy rest) (hrest: ∀(q i:Nat),order[q]? =some i→i∈rest)
 (hback: ∀j o,ops[j]? =some o→ ∀e∈o.after.toList,qt .any e=true→e.on<j) {h1 h1' h2:H} (e1:opV c.op (ss l.length) (hs l.length)=some (zM,h1)) (e2:opV d.op (ss l.length) h1=some (zM,h2)) (e3:opV d.op (ss l.length) (hs l.length)=some (zM,h1'))
 (e4:opV c.op (ss l.length) h1'=some (zM,h2)) (n1:h1.next=(hs l.length).next) (n1':h1'.next=(hs l.length).next) (n2:h2.next=(hs l.length).next) (r:Option Nat) (hD0:zb6 ρ0 w0 Ds):
 ∀(fuel:Nat) (listed:Array Bool) (a:Act) (w:World),listed.size=ops.size→(unl ops.size listed).length=fuel→zgv ops listed→
  ((¬zJ listed x∧ ¬zJ listed y∧ ∃pb ρ,Inv P N l.length l ss hs vs ρ0 w0 (Ds.map zB++Db) True (zbB order listed) pb ρ a w)∨
   (∃ρ hh,Inv P N l.length l ss hs vs ρ0 w0 (Ds.map zB++Db) False (zbB order listed) l.length ρ a w∧HR P ρ hh w∧((zJ listed x∧ ¬zJ listed y∧hh=h1)∨(¬zJ listed x∧zJ listed y∧hh=h1')∨(zJ listed x∧zJ listed y∧hh=h2))))→
  wpAnyIn (Wf r) 0 P .any ops (zc7 P ρ0 w0 N Ds Db (.nrm (ss l.length) h2)) fuel listed a w:=by
 have hxs:=(qh.1 Tx.op).1;have hys:=(qh.1 Ty.op).1;intro fuel
 induction fuel with
 |zero=>
  intro listed a w hsz hfuel hcl hst;have hall:=ziq hsz (qbr.1 hfuel);have hDall: ∀q,q<l.length→zbB order listed q:=by
   intro q hq;obtain⟨j,o,c,A⟩:=G.at hq;exact⟨j,A.ord,hall j (qh.1 A.op).1⟩
  refine⟨?_,?_⟩
  ·cases hr:Region.ready .any ops listed with
   |nil=>rfl
   |cons i r'=>
    exfalso;obtain⟨o,ho,hn,-⟩:=(zei hsz).1 (hr▸qbm:i∈qV .any ops listed);exact hn (hall i (qh.1 ho).1)
  ·rcases hst with⟨hx,-,-⟩| ⟨ρ,hh,I,hr,hcase⟩
   ·exact absurd (hall x hxs) hx
   ·rcases hcase with⟨-,hy,-⟩| ⟨hx,-,-⟩| ⟨-,-,rfl⟩
    ·exact absurd (hall y hys) hy
    ·exact absurd (hall x hxs) hx
    ·exact⟨ρ,Ds,ss l.length,hh,I.ext,I.size,I.defers,⟨hD0.ext I.ext,fun D h=>.inl h⟩,I.slotsFin G (fun p hp=>hp.lt G) hDall,hr,.inl ⟨rfl,rfl⟩⟩
 |succ fuel ihf=>
  intro listed a w hsz hfuel hcl hst;refine⟨fun hnil=> ?_,fun i hi=> ?_⟩
  ·exfalso;have hne:unl ops.size listed≠[]:=by intro h;rw[h] at hfuel;cases hfuel
   obtain⟨i,hi⟩:=qbI _ hne;obtain⟨hi1,hi2⟩:=qk.1 hi;have hi1:=qS.1 hi1;exact zhW hsz hi1 (fun h=>by rw[(zer (by omega)).2 h] at hi2;cases hi2) hback hnil
  ·obtain⟨o,ho,hn,hall⟩:=(zei hsz).1 hi;have hio:=(Array.getElem?_eq_some_iff.1 ho).1;have hsz':(listed.setIfInBounds i true).size=ops.size:=by simpa using hsz
   have hfu:(unl ops.size (listed.setIfInBounds i true)).length=fuel:=by have:=unl_set hsz hio hn;omega
   have hcl':=zin hsz hcl ho hall;have setx: ∀k,zJ (listed.setIfInBounds i true) k↔zJ listed k∨k=i:=zbN (by omega);by_cases hix:i=x
   ·subst hix;have eo:o=ox:=by have:=Tx.op;rw[ho] at this;exact Option.some.inj this
    subst eo;have hny:i≠y:=Tx.ne;rcases hst with⟨hx,hy,pb,ρ,I⟩| ⟨ρ,hh,I,hr,hcase⟩
    ·
     have hhard: ∀q c',q<l.length→l[q]? =some c'→isFl c'.op=false→zbB order listed q:=by
      intro q c' hq hc' hf;obtain⟨k,o',d',A⟩:=G.at hq;rw[A.can] at hc';cases hc';have hbit:=zeX (Tx.last.hard k (hrest q k A.ord)) A.ci hf;obtain⟨p,k1,k2⟩:=zku G hsz (zbQ hcl ho hall hbit) (G.hex q k A.ord);have:=G.hord.inj p q _ k1 A.ord;subst this;exact k2
     have hr:=I.absorb G trivial I.le (qd _) (fun p c' hp hc' hf=>hhard p c' hp hc' hf);rw[I.cut_all G] at hr;refine Tx.step G hsz hcl hall hrest I hr n1 e1 r (fun σ w' hI hR=>ihf _ a w' hsz' hfu hcl' (.inr ⟨σ,h1,hI,hR,.inl ⟨(setx _).2 (.inr rfl),fun h=> ?_,rfl⟩⟩));rcases(setx _).1 h with h|h
     ·exact hy h
     ·exact hny h.symm
    ·rcases hcase with⟨hx,-,-⟩| ⟨-,hy,rfl⟩| ⟨hx,-,-⟩
     ·exact absurd hx hn
     ·exact Tx.step G hsz hcl hall hrest I hr n2 e4 r (fun σ w' hI hR=>ihf _ a w' hsz' hfu hcl' (.inr ⟨σ,h2,hI,hR,.inr (.inr ⟨(setx _).2 (.inr rfl),(setx _).2 (.inl hy),rfl⟩)⟩))
     ·exact absurd hx hn
   ·by_cases hiy:i=y
    ·subst hiy;have eo:o=oy:=by have:=Ty.op;rw[ho] at this;exact Option.some.inj this
     subst eo;have hnx:x≠i:=Tx.ne;rcases hst with⟨hx,hy,pb,ρ,I⟩| ⟨ρ,hh,I,hr,hcase⟩
     ·have hhard: ∀q c',q<l.length→l[q]? =some c'→isFl c'.op=false→zbB order listed q:=by
       intro q c' hq hc' hf;obtain⟨k,o',d',A⟩:=G.at hq;rw[A.can] at hc';cases hc';have hbit:=zeX (Ty.last.hard k (hrest q k A.ord)) A.ci hf;obtain⟨p,k1,k2⟩:=zku G hsz (zbQ hcl ho hall hbit) (G.hex q k A.ord);have:=G.hord.inj p q _ k1 A.ord;subst this;exact k2
      have hr:=I.absorb G trivial I.le (qd _) (fun p c' hp hc' hf=>hhard p c' hp hc' hf);rw[I.cut_all G] at hr;refine Ty.step G' hsz hcl hall hrest I hr n1' e3 r (fun σ w' hI hR=>ihf _ a w' hsz' hfu hcl' (.inr ⟨σ,h1',hI,hR,.inr (.inl ⟨fun h=> ?_,(setx _).2 (.inr rfl),rfl⟩)⟩));rcases(setx _).1 h with h|h
      ·exact hx h
      ·exact hnx h
     ·rcases hcase with⟨hx,-,rfl⟩| ⟨-,hy,-⟩| ⟨-,hy,-⟩
      ·exact Ty.step G' hsz hcl hall hrest I hr n2 e2 r (fun σ w' hI hR=>ihf _ a w' hsz' hfu hcl' (.inr ⟨σ,h2,hI,hR,.inr (.inr ⟨(setx _).2 (.inl hx),(setx _).2 (.inr rfl),rfl⟩)⟩))
      ·exact absurd hy hn
      ·exact absurd hy hn
    ·obtain⟨q,c',W⟩:=now_of G hsz hcl ho hn (fun h=>h.elim hix hiy) hall;have same: ∀k,k≠i→(zJ (listed.setIfInBounds i true) k↔zJ listed k):=fun k hk=>by rw[setx];exact⟨fun h=>h.resolve_right hk,.inl⟩
     have sx:=same x (fun e=>hix e.symm);have sy:=same y (fun e=>hiy e.symm);rcases hst with⟨hx,hy,pb,ρ,I⟩| ⟨ρ,hh,I,hr,hcase⟩
     ·refine I.step G (.inl trivial) W r (fun pb' τ a' w' hI=> ?_);rw[zjc G (by omega) W.A.ord] at hI;exact ihf _ a' w' hsz' hfu hcl' (.inl ⟨by rw[sx];exact hx,by rw[sy];exact hy,pb',τ,hI⟩)
     ·have hfl:isFl c'.op=true:=by
       cases hf:isFl c'.op with
       |true=>rfl
       |false=>exact absurd (I.done q _ (W.A.lt G) W.A.can hf) W.not
      refine I.stepFl G W hfl r (fun a' hI=> ?_);rw[zjc G (by omega) W.A.ord] at hI;exact ihf _ a' w hsz' hfu hcl' (.inr ⟨ρ,hh,hI,hr,by rw[sx,sy];exact hcase⟩)
end
theorem zjB {ih:IH} {M N:Nat} {ex:Nat→Prop} {ops:Array Oper} {cis l:List CI} {order ws:List Nat} {ss:Nat→zb} {hs:Nat→H} {vs:Nat→Value} (G:Reg P ih M N ex ops cis l order ws ss hs vs) {ρ:Rho} {h:H} {s:zb} {a:Act} {w:World} {Ds:List Nat} {Db:List Deferred} (e1:ss 0=s) (e2:hs 0=h)
 (hN:a.tmps.size=N) (hS:SR ρ s a.tmps) (hr:HR P ρ h w) (hd:a.defers=Ds.map zB++Db):Inv P N l.length l ss hs vs ρ w (Ds.map zB++Db) True (zbB order (qZ ops.size false)) 0 ρ a {w with drawn:=w.drawn+1}:=by
 have none: ∀q,¬zbB order (qZ ops.size false) q:=by
  rintro q ⟨j,-,hj⟩;unfold zJ at hj;rw[qW] at hj
  split at hj<;>cases hj
 have hext:Ext ρ w ρ {w with drawn:=w.drawn+1}:=Ext.drew ρ w;have hr1:HR P ρ h {w with drawn:=w.drawn+1}:=hr.drew;have hlt: ∀i R,ρ i=some R→i<(hs 0).next:=by
  intro i R hi;rw[e2];by_cases hlt:i<h.next
  ·exact hlt
  ·rw[(hr.nxt i (by omega)).1] at hi;cases hi
 have hcut:cut ρ (hs 0).next=ρ:=by
  funext i
  unfold cut;by_cases h:i<(hs 0).next
  ·rw[if_pos h]
  ·rw[if_neg h];cases hi:ρ i with
   |none=>rfl
   |some R=>exact absurd (hlt i R hi) h
 exact⟨fun _=>.inl rfl,qbj _,fun q _ hq=>by omega,fun q c _ hq=>absurd hq (none q),fun _=>by rw[hcut,e2];exact hr1,fun q _ _ hq=>absurd hq (none q),hr1.blk,fun i R hi=>.inl (hlt i R hi),fun t _ v hv=>by rw[e1] at hv;exact hS t v hv,fun q _ hq=>absurd hq (none q),hN,hd,hext,hlt⟩
theorem zjs (n:Nat):(unl n (qZ n false)).length=n:=by
 unfold unl;rw[List.filter_eq_self.2,List.length_range];intro i hi;have hi':=qS.1 hi;rw[qu,qW,if_pos hi'];rfl
theorem zfS (ops:Array Oper):zgv ops (qZ ops.size false):=by
 intro j hj;unfold zJ at hj;rw[qW] at hj
 split at hj<;>cases hj
theorem zc2 (n k:Nat): ¬zJ (qZ n false) k:=by
 intro hj;unfold zJ at hj;rw[qW] at hj
 split at hj<;>cases hj
theorem draw_sound (hmix:P.follows .mixedOrders=true) {ih:IH} {M:Nat} (hih: ∀t o,ih t=some o→zdF P M t o) (hnx: ∀t o,ih t=some o→zgC t≤zbG o) {N:Nat} {ops:Array Oper} {id:Nat} {cis:List CI} (hcis:allO (zt P N ops) ops.toList=some cis)
 (hbk:ops.toList.zipIdx.all (fun x=>(x.1.after.toList.filter (qt .any)).all fun e=>Nat.blt e.on x.2)=true) {cc:CC} (hc:zey (ancs ops.toList) cis=some cc) {s:zb} {h:H} {o:Out} (hv:zbI cc ih s h=some o) {ρ:Rho} {r:Option Nat} {a:Act} {w:World} {Ds:List Nat} {Db:List Deferred} (hN:a.tmps.size=N) (hs:SR ρ s a.tmps) (hr:HR P ρ h w) (hd:a.defers=Ds.map zB++Db) (hD:zb6 ρ w Ds):
 (Code.region id ops true).wpIn (Wf r) 0 P (zc7 P ρ w N Ds Db o) a w:=by
 have hback:=back_spec hbk;have hclen:cis.length=ops.size:=by have:=(zbY hcis).1;simpa using this
 rcases ze5 hc with⟨l,order,rfl,h1,h2,h3⟩| ⟨l,order,x,y,c,d,rest,rfl,h1,rfl,h2,h3,h4,h5,h6,h7,h8,h9⟩
 ·have hv:(match zx ih l [(0,h)] s h with
   |some x=>some (nrmOf x)
   |none=>zfQ ih l [(0,h)] s h)=some o:=hv
  cases hrun:zx ih l [(0,h)] s h with
  |none=>
   rw[hrun] at hv;have hv:zfQ ih l [(0,h)] s h=some o:=hv;obtain⟨n,c,s1,h1',K⟩:=zim l _ s h o 0 h [] rfl hv;obtain⟨⟨sF,hF⟩,hrun2⟩:=K.all;rw[Nat.zero_add] at hrun2;obtain⟨ss,hs',vs,htr,e1,e2,e3,e4,e5⟩:=zju hrun2;obtain⟨v,t,g,rfl⟩:=K.isPan;have hnl:=(qf.1 K.at_).1;have hol:order.length=l.length:=(zbY h3).1.symm;have hnl':n≤(l.take n++(l.drop (n+1)).filter fun p=>qbB p.lo (zw l n)).length:=by
    rw[qH,qK];omega
   have e6:=e5 n hnl';rw[qby (by rw[qK];omega),List.take_take,Nat.min_self,K.pre] at e6;obtain⟨e7,e8⟩:=Prod.mk.inj (qy e6);have hx:n<order.length:=by omega
   obtain⟨y,hy,hyl⟩:=(zbY h3).2 n _ (qe hx);obtain⟨c0,hc0,rfl⟩:=amf hy;rw[K.at_] at hyl;have hcl:=qy hyl;have hxc:=h1.lt n _ (qe hx);have hxo:order[n]<ops.size:=by rw[←hclen];exact hxc
   obtain⟨c1,hc1,hc2⟩:=(zbY hcis).2 order[n] ops[order[n]] (by simp[hxo]);rw[hc0] at hc2;cases hc2;have X:Px P N ops cis l order n order[n] ops[order[n]] c0:=⟨fun j o ho=>hback j o (by simpa using ho),h1,h2,h3,hclen,qe hx,qn hxo,hc0,hc1,by have:=K.wr;rw[hcl] at this;exact this⟩;have G:Reg P ih M N (fun i=> ¬ ∃q:Nat,(cutO (ancs ops.toList) cis order n (zw l n))[q]? =some i) ops cis _ (cutO (ancs ops.toList) cis order n (zw l n)) (wsOf cis) ss hs' vs:=⟨hih,hnx,hcis,X.ordCut,fun i _ hx=>qb2.1 hx,fun q i hq h=>h ⟨q,hq⟩,rfl,cut_perm h3 n (zw l n),htr⟩;have key:=draw_pan X G (fun i hx=>qb2.1 hx) (fun i hx q hq=>hx ⟨q,hq⟩) hnl' (by have:=K.want;rw[hcl,e7] at this;exact this) (by have:=K.pan;rw[hcl,e7,e8] at this;exact this) r hD ops.size _ a _ 0 ρ (by simp) (zjs _) (zfS _) (zc2 _ _) (zjB G e1 e2 hN hs hr hd);exact qbP hmix key
  |some x=>
  rw[hrun] at hv;obtain⟨sF,hF⟩:=x;have e:nrmOf (sF,hF)=o:=qy hv;subst e;obtain⟨ss,hs',vs,htr,e1,e2,e3,e4,-⟩:=zju hrun;have G:Reg P ih M N (fun _=>False) ops cis l order (wsOf cis) ss hs' vs:=⟨hih,hnx,hcis,h1,fun i hi _=>h2 i hi,fun _ _ _ h=>h,rfl,h3,htr⟩;have key:=draw_any G hback r hD ops.size _ a _ 0 ρ (by simp) (zjs _) (zfS _) (zjB G e1 e2 hN hs hr hd);rw[e3,e4] at key;exact qbP hmix key
 ·obtain⟨⟨sF,hF⟩,hrun,hv⟩:=aof hv;obtain⟨hh,hst,e⟩:=amf hv;subst e;obtain⟨ss,hs',vs,htr,e1,e2,e3,e4,-⟩:=zju hrun;obtain⟨g1,g1',s1,s2,s3,s4,n1,n1',n2⟩:=zjA hst;have notin: ∀i,i∈((qbv cis.length).filter fun i=> !(qE i x)&& !(qE i y))↔i<cis.length∧ ¬(i=x∨i=y):=by
   intro i;rw[qk,qS];constructor
   ·rintro⟨a1,a2⟩;refine⟨a1,fun h=> ?_⟩;rcases h with rfl|rfl<;>simp at a2
   ·rintro⟨a1,a2⟩;refine⟨a1,?_⟩;have b1:qE i x=false:=by
     cases e:qE i x with
     |false=>rfl
     |true=>exact absurd (.inl (qi e)) a2
    have b2:qE i y=false:=by
     cases e:qE i y with
     |false=>rfl
     |true=>exact absurd (.inr (qi e)) a2
    simp[b1,b2]
  have G:Reg P ih M N (fun i=>i=x∨i=y) ops cis l order (wsOf cis) ss hs' vs:=⟨hih,hnx,hcis,h1,fun i hi hx=>h2 i ((notin i).2 ⟨hi,hx⟩),fun q i hq h=>((notin i).1 (h3 q i hq)).2 h,rfl,h9,htr⟩;have G':Reg P ih M N (fun i=>i=y∨i=x) ops cis l order (wsOf cis) ss hs' vs:=⟨hih,hnx,hcis,h1,fun i hi hx=>h2 i ((notin i).2 ⟨hi,fun h=>hx h.symm⟩),fun q i hq h=>((notin i).1 (h3 q i hq)).2 h.symm,rfl,h9,htr⟩;have isStore:isW c.op=true∧isW d.op=true:=by
   unfold zeI at hst
   split at hst
   ·rename_i e1 e2;rw[e1,e2];exact⟨rfl,rfl⟩
   ·cases hst
  have opsx: ∀{i:Nat} {e:CI},cis[i]? =some e→ ∃o,ops[i]? =some o∧zt P N ops o=some e:=by
   intro i e he;have hi:i<ops.size:=by rw[←hclen];exact(qf.1 he).1
   obtain⟨y,hy1,hy2⟩:=(zbY hcis).2 i ops[i] (by simp[hi]);rw[he] at hy2;cases hy2;exact⟨ops[i],qn hi,hy1⟩
  obtain⟨ox,hox,hcx⟩:=opsx h4;obtain⟨oy,hoy,hcy⟩:=opsx h5;have Tx:Two P N ops cis l order ss hs' x y c ox _:=⟨hox,hcx,h6,isStore.1,h8⟩;have Ty:Two P N ops cis l order ss hs' y x d oy _:=⟨hoy,hcy,h7,isStore.2,fun e=>h8 e.symm⟩;rw[←e3,←e4] at s1;rw[←e3] at s2 s4;rw[←e3,←e4] at s3;rw[←e4] at n1 n1' n2;have key:=draw_two G G' Tx Ty h3 hback s1 s2 s3 s4 n1 n1' n2 r hD ops.size _ a _ (by simp) (zjs _) (zfS _) (.inl ⟨zc2 _ _,zc2 _ _,0,ρ,zjB G e1 e2 hN hs hr hd⟩);rw[e3] at key;exact qbP hmix key
end
end Go.Ideal
