/- A part of the proof: the ideal machine, and what the functions of the program answer over it. -/
import Derived.Laws.IdiomStrings
import Derived.OrdersIn
import Derived.LoopNIn
import Derived.Test.YtiebibpenhncdaaGreatDoorA
set_option linter.unusedSimpArgs false
set_option linter.unusedVariables false
set_option linter.unusedSectionVars false
namespace Go.Ideal
variable {P:Program}
inductive Cl where
 |pure|alloc|eff|call
def zZ:COp→Cl
 |.alloc _=>.alloc
 |.box _=>.alloc
 |.buildSlice .. =>.alloc
 |.makeMap=>.alloc
 |.makeSlice .. =>.alloc
 |.store .. =>.eff
 |.mapUpdate .. =>.eff
 |.blt (.append _ _) _=>.eff
 |.blt (.clear _) _=>.eff
 |.blt (.copy _) _=>.eff
 |.s2b _=>.eff
 |.call .. =>.call
 |.invoke .. =>.call
 |_=>.pure
section
variable {ρ:Rho} {h h':H} {w:World} {s:za} {a:Act} {v:Value}
theorem Sim.of_sem {sem:Sem Value} {v':Value} {w':World} {σ:Rho} (h1:sem.run P w=.ok v' w') (h2:VR σ v v') (h3:HR P σ h' w') (h4:Ext ρ w σ w'):Sim P ρ w ((do pure (Next.value (←sem)):Sem Next).run P w) v h':=
 ⟨.value v',v',w',σ,by simp[h1],.inl rfl,h2,h3,h4⟩
def ClSim (P:Program) (ρ:Rho) (h:H) (w:World) (r:Result Next) (v:Value) (h':H):Cl→Prop
 |.pure=>h'=h∧SimP P ρ w r v
 |.alloc=> ∃(f:Nat→Value) (io:IObj),v=f h.next∧h'=h.new io∧ ∀i,ρ i=none→SimA P ρ w r i (f i) io
 |.eff=>Sim P ρ w r v h'
 |.call=>True
theorem s_clear (hr:HR P ρ h w) {ts:Array TypeId} {t e:TypeId} {z:List Value} (hts:ts[0]? =some t) (hu:P.underlying t=some (.slice e)) (hz:zbC P e=some z) (hz0:z.length≠0) {vs:List Value} {args:Array Value} (hargs:VRL ρ vs args.toList) (hv:bltV h (.clear z) vs=some (v,h')) (type:TypeId) (cs:Array Bool):
 Sim P ρ w ((builtin .clear ts type cs args).run P w) v h':=by
 cases vs with
 |nil=>grind [bltV]
 |cons x l=>cases l with
  |cons y l=>grind [bltV]
  |nil=>
   obtain⟨y,ys,hys,h1,h2⟩:=hargs.cons_left
   have hy:args[0]? =some y:=by rw[←Array.getElem?_toList,hys];rfl
   cases x with
   |slice b n c=>
    cases b with
    |none=>
     simp only[bltV,Option.some.injEq,Prod.mk.injEq] at hv
     obtain⟨rfl,rfl⟩:=hv
     cases h1
     exact⟨.value (.tuple #[]),.tuple #[],w,ρ,by simp_all[builtin,Builtin.clear_,run_underlying],.inl rfl,VR.tuple_of (VRL.nil ρ),hr,.refl _ _⟩
    |some ad=>
     simp only[bltV] at hv
     split at hv
     ·rename_i hn
      obtain rfl:n=0:=Nat.eq_of_beq_eq_true hn
      cases hv
      obtain⟨b',c',rfl,hb⟩:=h1.inv_slice
      exact⟨.value (.tuple #[]),.tuple #[],w,ρ,by cases b'<;>simp[builtin,Builtin.clear_,hts,hy,run_underlying hu],.inl rfl,VR.tuple_of (VRL.nil ρ),hr,.refl _ _⟩
     ·rename_i hn
      have hn0:n≠0:=by simp_all
      obtain⟨g,hg,e0⟩:=amf hv
      cases e0
      obtain⟨R,c',hR,rfl⟩:=h1.inv_slice_some hn0
      obtain⟨⟨zv,hzv,hzr⟩,hzc⟩:=zco hz
      have hvz:VRL ρ z zv.cells.toList:=by grind [VRL.refl1]
      have hl:z.length=zv.cells.size:=by grind
      have hrel:VRL ρ (zbr z n) (Builtin.zeroCells zv.cells n).toList:=zjf hvz n _ (by rw[hl])
      have hne:zbr z n≠[]:=by
       intro e
       have:=congrArg List.length e
       rw[zcI] at this
       have h2:0<n*z.length:=Nat.mul_pos (by omega) (by omega)
       grind
      obtain⟨w',hst,g1,g2⟩:=zd9 (P:=P) hr hR hrel hne hg
      obtain⟨m,rfl⟩: ∃m,n=m+1:=⟨n - 1,by omega⟩
      exact⟨.value (.tuple #[]),.tuple #[],w',ρ,by simp_all[builtin,Builtin.clear_,run_underlying],.inl rfl,VR.tuple_of (VRL.nil ρ),g1,g2⟩
   |_=>simp[bltV] at hv
theorem s_copy (hr:HR P ρ h w) {ts:Array TypeId} {t e:TypeId} {sz:Nat} (hts:ts[0]? =some t) (hu:P.underlying t=some (.slice e)) (hsz:zJ P e=some sz) (hz0:sz≠0) {vs:List Value} {args:Array Value} (hargs:VRL ρ vs args.toList) (hv:bltV h (.copy sz) vs=some (v,h')) (type:TypeId) (cs:Array Bool):
 Sim P ρ w ((builtin .copy ts type cs args).run P w) v h':=by
 cases vs with
 |nil=>grind [bltV]
 |cons x l=>cases l with
  |nil=>grind [bltV]
  |cons x2 l=>cases l with
   |cons x3 l=>grind [bltV]
   |nil=>
    obtain⟨y,ys,hys,h1,h2⟩:=hargs.cons_left
    obtain⟨y2,ys2,hys2,h3,h4⟩:=h2.cons_left
    have hy:args[0]? =some y:=by rw[←Array.getElem?_toList,hys];rfl
    have hy2:args[1]? =some y2:=by rw[←Array.getElem?_toList,hys,hys2];rfl
    cases x with
    |slice b n c=>
     cases b with
     |none=>grind [bltV]
     |some ad=>
      cases x2 with
      |slice b2 m c2=>
       have hv:copyV sz h ad (zhl m n) b2=some (v,h'):=hv
       have hk:zhl m n=Nat.min m n:=by
        grind [zhl,Nat.le_of_ble_eq_true,Nat.ble_eq_true_of_le]
       generalize zhl m n=k at hk hv
       obtain⟨b',c',rfl,hb⟩:=h1.inv_slice
       obtain⟨b2',c2',rfl,hb2⟩:=h3.inv_slice
       obtain⟨ad',rfl⟩:=zhR hb
       by_cases hk0:k=0
       ·have hv0:v=.int .i64 (0:Nat)∧h'=h:=by
         unfold copyV at hv
         split at hv
         all_goals simp_all
        obtain⟨rfl,rfl⟩:=hv0
        have hm:Nat.min m n=0:=by omega
        refine⟨.value (.int .i64 (0:Nat)),.int .i64 (0:Nat),w,ρ,?_,.inl rfl,.int _ _,hr,.refl _ _⟩
        cases b2' with
        |none=>simp_all[builtin,Builtin.copy_,Builtin.lenOf,Builtin.firstCells,run_underlying,zG,storeCells,goInt]
        |some a2=>
         have hl:(loadCells a2 0).run P w=.ok #[] w:=run_loadCells_list (P:=P) w a2 [] (by simp)
         simp[builtin,Builtin.copy_,Builtin.lenOf,Builtin.firstCells,hts,hy,hy2,run_underlying hu,zG hsz,hm,storeCells,goInt,hl]
       ·unfold copyV at hv
        split at hv
        ·rename_i a2
         rw[if_neg (by simp_all)] at hv
         obtain⟨l,hl,hv⟩:=aof hv
         obtain⟨g,hg,e0⟩:=amf hv
         cases e0
         have hm0:m≠0:=by grind
         have hn0:n≠0:=by grind
         obtain⟨R,c3,hR,e1⟩:=h1.inv_slice_some hn0
         obtain⟨R2,c4,hR2,e2⟩:=h3.inv_slice_some hm0
         cases e1;cases e2
         obtain⟨hnn,l',hv',hcc⟩:=zeB (P:=P) hr hR2 hl
         have en:k*sz=l'.length:=by rw[←hnn];exact hv'.1
         have hrun:=run_loadCells_list (P:=P) w _ l' hcc
         rw[←en,hk] at hrun
         have hne:l≠[]:=by
          intro e
          rw[e] at hnn
          have:0<k*sz:=Nat.mul_pos (by omega) (by omega)
          grind
         obtain⟨w',hst,g1,g2⟩:=zd9 (P:=P) hr hR hv' hne hg
         refine⟨.value (.int .i64 k),.int .i64 k,w',ρ,?_,.inl rfl,.int _ _,g1,g2⟩
         simp_all[builtin,Builtin.copy_,Builtin.lenOf,Builtin.firstCells,run_underlying,zG,goInt]
        simp_all
      |_=>simp[bltV] at hv
    |_=>simp[bltV] at hv
theorem s_strIdx (hs:SR ρ s a.tmps) {x y:Operand} {c d:CO} (hc:co x=some c) (hd:co y=some d) {t:TypeId} (h1:P.underlying t=some .string) (hv:zgS c d s h=some (v,h')):
 h'=h∧SimP P ρ w ((do pure (Next.value (←Instr.index t (a.eval x) (a.eval y))):Sem Next).run P w) v:=by
 obtain⟨u,hu,hv⟩:=aof hv
 obtain⟨i,hi,hv⟩:=aof hv
 obtain⟨r,hr,e⟩:=amf hv
 cases e
 have rx:=zbg hc hs hu
 have ri:=zbg hd hs hi
 unfold strIdxV at hr
 split at hr
 ·rename_i sv k j _
  obtain⟨b,hb,rfl⟩:=amf hr
  rw[rx.inv_str,ri.inv_int]
  have hsz:j<sv.size:=by have:=(List.getElem?_eq_some_iff.1 hb).1;simp_all
  have hget:sv[j]? =some b:=by
   rw[getElem?_pos sv j hsz]
   rw[←hb]
   show some (sv.data[j])=_
   grind
  refine⟨rfl,zp (v':=.int .u8 b.toNat) ?_ (.int _ _)⟩
  simp_all[Instr.index,asIntOf,run_underlying]
 grind
theorem run_part {t:TypeId} {n:Option Nat} (h:zdB P t=some n) {cs:List Value} {off:Nat} {v:Value} (hv:partV off cs n=some v) (w:World):(part t ⟨cs⟩ off).run P w=.ok v w:=by
 cases n with
 |some n=>
  obtain⟨h1,h2⟩:=ziJ h
  obtain⟨l,hl,rfl⟩:=amf hv
  grind [zcf,zdG,part,Sem.run_bind,Result.andThen_ok,Sem.run_pure]
 |none=>
  have h1:=ziK h w
  have hv:(zey off cs).head? =some v:=hv
  simp_all[zcf,part]
theorem s_fld (hs:SR ρ s a.tmps) {x:Operand} {c:CO} (hc:co x=some c) {t:TypeId} {fs:Array Field} {i:Nat} {f:Field} {n:Option Nat} (h1:P.underlying t=some (.struct fs)) (h2:fs[i]? =some f) (h3:zdB P f.type=some n) (hv:bFld f.offset n c s h=some (v,h')):
 h'=h∧SimP P ρ w ((do pure (Next.value (←Instr.field t (a.eval x) i)):Sem Next).run P w) v:=by
 obtain⟨u,hu,hv⟩:=aof hv
 obtain⟨r,hr,e⟩:=amf hv
 cases e
 have rx:=zbg hc hs hu
 unfold fldV at hr
 split at hr
 ·rename_i cs
  obtain⟨cs',ecs,hl⟩: ∃cs',a.eval x=.agg ⟨cs'⟩∧VRL ρ cs.toList cs':=by
   generalize a.eval x=y at rx
   cases rx with
   | @agg _ a' ha ra=>exact⟨a'.toList,rfl,by grind,fun j x y hx hy=>ra j x y (by grind) (by grind)⟩
  have hlen:cs.toList.length=cs'.length:=hl.1
  have key: ∃v',partV f.offset cs' n=some v'∧VR ρ v v':=by
   cases n with
   |some n=>
    obtain⟨l,hl1,rfl⟩:=amf (show(zhO n (zey f.offset cs.toList)).map _=some v from hr)
    rw[zcf,zdG] at hl1
    split at hl1
    ·rename_i hle;cases hl1
     refine⟨.agg ⟨(cs'.drop f.offset).take n⟩,?_,VR.agg_of ⟨?_,fun j x y hx hy=> ?_⟩⟩
     ·show(zhO n (zey f.offset cs')).map _=_
      grind [zcf,zdG]
     ·grind
     ·rw[List.getElem?_take] at hx hy
      split at hx
      ·rename_i hj
       rw[if_pos hj] at hy
       rw[List.getElem?_drop] at hx hy
       exact hl.2 _ x y hx hy
      grind
    grind
   |none=>
    have hr:(zey f.offset cs.toList).head? =some v:=hr
    rw[zcf,List.head?_drop] at hr
    have hlt:f.offset<cs'.length:=by grind
    refine⟨cs'[f.offset],?_,hl.2 _ v _ hr (List.getElem?_eq_getElem hlt)⟩
    show(zey f.offset cs').head? =_
    grind [zcf,List.head?_drop]
  obtain⟨v',hv',hrel⟩:=key
  refine⟨rfl,zp (v':=v') ?_ hrel⟩
  simp_all[Instr.field,run_underlying,asAgg,run_part]
 grind
theorem s_mkI (hs:SR ρ s a.tmps) {x:Operand} {c:CO} (hc:co x=some c) {t:TypeId} {u:TypeDesc} (h1:P.underlying t=some u) (h2: ∀ms,u≠ .interface ms) (hv:bMkI t c s h=some (v,h')):
 h'=h∧SimP P ρ w ((do pure (Next.value (←Instr.makeInterface t (a.eval x))):Sem Next).run P w) v:=by
 obtain⟨y,hy,e⟩:=amf hv
 cases e
 refine⟨rfl,zp (v':=.iface t (a.eval x)) ?_ (.iface t (zbg hc hs hy))⟩
 simp_all[Instr.makeInterface,run_underlying]
theorem s_assertT (hs:SR ρ s a.tmps) {x:Operand} {c:CO} (hc:co x=some c) {xt d:TypeId} {u:TypeDesc} (h1:P.underlying d=some u) (h2: ∀ms,u≠ .interface ms) {z:Value} {ok:Bool}
 (hz:ok=true→ ∃i,P.info? d=some i∧i.zero=some z∧zfK z=true) (hv:ze7 d z ok c s h=some (v,h')):
 h'=h∧SimP P ρ w ((do pure (Next.value (←Instr.typeAssert (a.eval x) xt d ok)):Sem Next).run P w) v:=by
 obtain⟨y,hy,hv⟩:=aof hv
 obtain⟨r,hr,e⟩:=amf hv
 cases e
 have hx:=zbg hc hs hy
 refine⟨rfl,?_⟩
 generalize a.eval x=y' at hx
 have hzero:ok=true→(zeroValue d).run P w=.ok z w∧zfK z=true:=by
  intro e
  obtain⟨i,q1,q2,q3⟩:=hz e
  simp_all[zeroValue,run_typeInfo]
 unfold zkA at hr
 split at hr
 ·rename_i u0 v0
  obtain⟨v',rfl,hv'⟩:=hx.inv_iface
  have key:(Instr.typeAssert (.iface u0 v') xt d ok).run P w=(if u0=d then(pure (if ok then .tuple #[v',.bool true] else v'):Sem Value) else if ok then(do pure (.tuple #[←zeroValue d,.bool false])) else runtimePanic (.typeAssertion (some xt) (some u0) d "")).run P w:=by
   simp_all[Instr.typeAssert,run_underlying]
  cases hb:Nat.beq u0 d with
  |true=>
   have e:=Nat.eq_of_beq_eq_true hb
   rw[if_pos e] at key
   rw[hb] at hr
   cases ok
   ·cases hr;exact zp (v':=v') (by simp[key]) hv'
   ·cases hr;exact zp (v':=.tuple #[v',.bool true]) (by simp[key]) (VR.tuple_of (.cons hv' (.cons (.bool true) (.nil _))))
  |false=>
   have e: ¬u0=d:=fun e=>by simp_all
   rw[if_neg e] at key
   rw[hb] at hr
   cases ok
   ·cases hr
   ·cases hr
    obtain⟨q1,q2⟩:=hzero rfl
    exact zp (v':=.tuple #[z,.bool false]) (by simp_all) (VR.tuple_of (.cons (VR.refl q2) (.cons (.bool false) (.nil _))))
 ·obtain rfl:=hx.inv_nilIface
  cases ok
  ·cases hr
  ·cases hr
   obtain⟨q1,q2⟩:=hzero rfl
   have key:(Instr.typeAssert .nilIface xt d true).run P w=(do pure (.tuple #[←zeroValue d,.bool false]):Sem Value).run P w:=by
    simp_all[Instr.typeAssert,run_underlying]
   exact zp (v':=.tuple #[z,.bool false]) (by simp_all) (VR.tuple_of (.cons (VR.refl q2) (.cons (.bool false) (.nil _))))
 grind
theorem s_s2b (hr:HR P ρ h w) (hs:SR ρ s a.tmps) {x:Operand} {c:CO} (hc:co x=some c) {st d e:TypeId} (h1:P.underlying st=some .string) (h2:P.underlying d=some (.slice e)) (h3:P.underlying e=some (.int .u8)) (hv:bS2b c s h=some (v,h')):
 Sim P ρ w ((do pure (Next.value (←convert st d (a.eval x))):Sem Next).run P w) v h':=by
 obtain⟨u,hu,hv⟩:=aof hv
 unfold s2bV at hv
 split at hv
 ·rename_i b
  cases hv
  rw[(zbg hc hs hu).inv_str]
  have hrun:=run_bytes_of_string w st d e b h1 h2 h3
  generalize hcap:grownCap w b.size 0 e=cap at hrun
  have hle:b.size≤cap:=by grind [grownCap,Question.cut]
  have hfree:=(hr.nxt _ (Nat.le_refl _)).1
  have hrow: ∀(j:Nat) y,(b.data.toList.map zhz)[j]? =some y→(bytesRow b cap)[j]? =some y:=by
   intro j y hj
   rw[List.getElem?_map] at hj
   obtain⟨z,hz,rfl⟩:=Option.map_eq_some_iff.1 hj
   have hlt:=(List.getElem?_eq_some_iff.1 hz).1
   unfold bytesRow
   rw[Array.getElem?_append_left (by grind),Array.getElem?_map,←Array.getElem?_toList,hz];rfl
  have hsz:(bytesRow b cap).size=cap:=by simp_all[bytesRow]
  obtain⟨g1,g2⟩:=hr.drew.newF (R:=⟨w.heap.size,0,(bytesRow b cap).size,roE,b.size,some (.cells (bytesRow b cap) e ((bytesRow b cap).size,(bytesRow b cap).size+1))⟩) (io:=.cells (b.data.toList.map zhz) roE) (o:=.cells (bytesRow b cap) e ((bytesRow b cap).size,(bytesRow b cap).size+1)) rfl
   ⟨rfl,by simp,_,_,_,zbS _ _,.inr ⟨rfl,rfl⟩,rfl,by simp_all,fun j y hj=>⟨y,by grind,.inr ((bytes_rel _ b).2 j y y hj hj)⟩⟩
  refine Sim.of_sem hrun ?_ g1 ((Ext.drew ρ w).trans g2)
  have:=VR.sliceR (ρ:=upd ρ h.next ⟨w.heap.size,0,(bytesRow b cap).size,roE,b.size,some (.cells (bytesRow b cap) e ((bytesRow b cap).size,(bytesRow b cap).size+1))⟩) (o:=0) (len:=b.size) (cap:=cap) (zH _ _ _) rfl hle
  grind
 grind
theorem byteOf_some {v:Value} {b:UInt8} (h:zkr v=some b): ∃n:Nat,v=.int .u8 n∧b=UInt8.ofNat n:=by
 unfold zkr at h
 split at h
 all_goals grind
theorem ziG: ∀{l:List Value} {bs:List UInt8},allO zkr l=some bs→ ∃ns:List Int,l=ns.map (Value.int .u8)∧ns.map (fun n=>UInt8.ofNat n.toNat)=bs
 | [],bs,h=>by cases h;simp_all
 |v::l,bs,h=>by
  obtain⟨b,hb,h⟩:=aof h
  obtain⟨bs',hl,rfl⟩:=amf h
  obtain⟨n,rfl,rfl⟩:=byteOf_some hb
  obtain⟨ns,rfl,rfl⟩:=ziG hl
  exact⟨(n:Int)::ns,rfl,by simp⟩
theorem zfB: ∀(ns:List Int) (r:ByteArray),ns.foldl (fun r n=>r.push (UInt8.ofNat n.toNat)) r=⟨r.data++(ns.map fun n=>UInt8.ofNat n.toNat).toArray⟩
 | [],r=>by simp
 |n::ns,r=>by
  rw[List.foldl_cons,zfB ns]
  simp
theorem s_b2s (hr:HR P ρ h w) (hs:SR ρ s a.tmps) {x:Operand} {c:CO} (hc:co x=some c) {st d e:TypeId} (h1:P.underlying st=some (.slice e)) (h2:P.underlying d=some .string) (h3:P.underlying e=some (.int .u8)) (hv:bB2s c s h=some (v,h')):
 h'=h∧SimP P ρ w ((do pure (Next.value (←convert st d (a.eval x))):Sem Next).run P w) v:=by
 obtain⟨u,hu,hv⟩:=aof hv
 obtain⟨r,hb,hv⟩:=amf hv
 cases hv
 refine⟨rfl,?_⟩
 have rx:=zbg hc hs hu
 generalize a.eval x=y at rx
 have emp: ∀(ad:Addr) (cp:Nat),(Conv.bytesToString (.slice (some ad) 0 cp)).run P w=.ok (.string ⟨⟨[]⟩⟩) w:=fun ad cp=>run_bytesToString w ad 0 cp [] rfl
 unfold b2sV at hb
 split at hb
 ·cases hb
  obtain⟨b',c',rfl,hn⟩:=rx.inv_slice
  obtain rfl:=zjS hn
  exact zp (v':=.string ⟨⟨[]⟩⟩) (by simp only[Sem.run_bind,run_convert_bytes_string w st d e _ _ _ h1 h3 h2];simp[Conv.bytesToString];rfl) (.str _)
 ·rename_i ad n cp
  split at hb
  ·rename_i hn0
   obtain rfl:n=0:=Nat.eq_of_beq_eq_true hn0
   cases hb
   obtain⟨b',c',rfl,hb⟩:=rx.inv_slice
   obtain⟨a',rfl⟩:=zhR hb
   exact zp (v':=.string ⟨⟨[]⟩⟩) (by grind [run_convert_bytes_string]) (.str _)
  ·rename_i hn0
   have hn:n≠0:=by simp_all
   obtain⟨l,hl,hb⟩:=aof hb
   obtain⟨bs,hbs,rfl⟩:=amf hb
   obtain⟨R,c',hR,rfl⟩:=rx.inv_slice_some hn
   obtain⟨hnn,l',hvl,hcc⟩:=zeB (P:=P) hr hR hl
   obtain⟨ns,rfl,hns⟩:=ziG hbs
   have el:l'=ns.map (Value.int .u8):=by
    apply List.ext_getElem?
    intro j
    cases hj:(ns.map (Value.int .u8))[j]? with
    |none=>rw[List.getElem?_eq_none_iff] at hj⊢;rw[←hvl.1];exact hj
    |some y=>
     obtain⟨y',hy,hyv⟩:=hvl.get hj
     rw[List.getElem?_map] at hj
     obtain⟨m,-,rfl⟩:=Option.map_eq_some_iff.1 hj
     rw[hyv.inv_int] at hy;exact hy
   subst el
   have hrun:=run_loadCells_list (P:=P) w _ _ hcc
   rw[←hvl.1,hnn] at hrun
   have:=run_bytesToString (P:=P) w ⟨R.blk,R.base+ad.off,none⟩ n c' ns hrun
   rw[zfB,hns] at this
   exact zp (v':=.string ⟨⟨bs⟩⟩) (by simp_all[run_convert_bytes_string]) (.str _)
 grind
theorem op_sim0 {o:Oper} {op:COp} (hc:zbk P o=some op) (hr:HR P ρ h w) (hs:SR ρ s a.tmps) (hv:opV op s h=some (v,h')):
 ClSim P ρ h w ((execOp a.eval o).run P w) v h' (zZ op):=by
 cases ho:o.op<;>simp only[zbk,ho,reduceCtorEq] at hc
 case move x=>obtain⟨c,h1,rfl⟩:=amf hc;simpa[execOp,ho,ClSim,zZ] using s_mv (w:=w) (P:=P) hs h1 hv
 case assign x=>obtain⟨c,h1,rfl⟩:=amf hc;simpa[execOp,ho,ClSim,zZ] using s_mv (w:=w) (P:=P) hs h1 hv
 case pick c x y=>
  obtain⟨c',h1,hc⟩:=aof hc;obtain⟨x',h2,hc⟩:=aof hc;obtain⟨y',h3,rfl⟩:=amf hc
  have:=s_pick (w:=w) (P:=P) hs h1 h2 h3 hv
  simp only[execOp,ho];exact this
 case alloc e=>
  obtain⟨z,h1,rfl⟩:=amf hc
  cases hv
  refine⟨fun i=>.pointer (some ⟨i,0,none⟩),.cells z 0,rfl,rfl,fun i hi=> ?_⟩
  grind [execOp,s_alloc]
 case box e x=>
  obtain⟨c,h1,rfl⟩:=amf hc
  obtain⟨u,hu,e⟩:=amf hv
  cases e
  refine⟨fun i=>.pointer (some ⟨i,0,none⟩),.cells (zW u) 0,rfl,rfl,fun i hi=> ?_⟩
  grind [execOp,s_box]
 case build t parts=>
  obtain⟨z,h1,hc⟩:=aof hc;obtain⟨u,h2,hc⟩:=aof hc
  cases u<;>simp only[reduceCtorEq] at hc
  case struct fs=>
   split at hc
   ·rename_i hall
    obtain⟨qs,h3,rfl⟩:=amf hc
    simp only[execOp,ho]
    exact s_build (pl:=fun i=>(fs[i]?).bind fun(f:Field)=>(zJ P f.type).map fun s=>(f.offset,s)) hs h1 h3 (fun p q hpq=>by
     obtain⟨f,hf,hpq⟩:=aof hpq;obtain⟨sz,hsz,hpq⟩:=aof hpq;obtain⟨x,hx,rfl⟩:=amf hpq
     grind) (fun l z' cs hz hfill=>ziM h2 hall l hz hfill) hv
   grind
  case array n e=>
   obtain⟨sz,h3,hc⟩:=aof hc
   obtain⟨qs,h4,rfl⟩:=amf hc
   simp only[execOp,ho]
   exact s_build (pl:=fun i=>some (i*sz,sz)) hs h1 h4 (fun p q hpq=>by obtain⟨x,hx,rfl⟩:=amf hpq;grind) (fun l z' cs hz hfill=>zjE h2 h3 l hz hfill) hv
 case buildSlice t len parts=>
  obtain⟨u,h1,hc⟩:=aof hc
  cases u<;>simp only[reduceCtorEq] at hc
  case slice e=>
   obtain⟨sz,h2,hc⟩:=aof hc
   split at hc
   ·cases hc
   ·rename_i h3
    obtain⟨z,h4,hc⟩:=aof hc
    split at hc
    ·cases hc
    ·rename_i h5
     split at hc
     ·cases hc
     ·rename_i h7
      obtain⟨qs,h6,rfl⟩:=amf hc
      obtain⟨l,hl,hv⟩:=aof hv
      obtain⟨c,hcf,e0⟩:=amf hv
      cases e0
      refine⟨fun i=>.slice (some ⟨i,0,none⟩) len len,.cells c 0,rfl,rfl,fun i hi=> ?_⟩
      grind [execOp,s_buildSlice]
 case load t x=>
  obtain⟨c,h1,hc⟩:=aof hc;obtain⟨sz,h2,hc⟩:=amf hc
  cases sz with
  |some n=>cases hc;simp only[execOp,ho];exact s_loadN hr hs h1 h2 hv
  |none=>cases hc;simp only[execOp,ho];exact s_load1 hr hs h1 h2 hv
 case store t x y=>
  obtain⟨c,h1,hc⟩:=aof hc;obtain⟨d,h2,hc⟩:=aof hc;obtain⟨n,h3,hc⟩:=aof hc
  split at hc
  ·cases hc
  ·rename_i hn
   cases hc
   simp only[execOp,ho];exact s_store hr hs h1 h2 h3 hn hv
 case nilCheck x=>obtain⟨c,h1,rfl⟩:=amf hc;exact s_nilCheck hs ho h1 hv
 case binOp op t x y yt=>
  obtain⟨c,h1,hc⟩:=aof hc;obtain⟨d,h2,rfl⟩:=amf hc
  simp only[execOp,ho];exact s_bin hs h1 h2 hv
 case unOp op t x=>obtain⟨c,h1,rfl⟩:=amf hc;simp only[execOp,ho];exact s_un hs h1 hv
 case convert sr d x=>
  obtain⟨c,h1,hc⟩:=aof hc;obtain⟨u1,h2,hc⟩:=aof hc;obtain⟨u2,h3,hc⟩:=aof hc
  cases u1<;>cases u2<;>simp only[reduceCtorEq,Option.some.injEq] at hc
  ·subst hc
   simp only[execOp,ho];exact s_conv hs h1 h2 h3 hv
  ·obtain⟨u,hu,hc⟩:=aof hc
   split at hc
   ·cases hc;simp only[execOp,ho];exact s_s2b hr hs h1 h2 h3 hu hv
   grind
  ·obtain⟨u,hu,hc⟩:=aof hc
   split at hc
   ·cases hc;simp only[execOp,ho];exact s_b2s hr hs h1 h2 h3 hu hv
   grind
 case makeFunc fn fs cs=>
  cases fn<;>simp only[reduceCtorEq] at hc
  obtain⟨l,h1,hc⟩:=aof hc;obtain⟨m,h2,rfl⟩:=amf hc
  simp only[execOp,ho];exact s_makeFunc hs h1 h2 hv
 case makeMap t r=>
  cases r with
  |none=>
   cases hc;cases hv
   refine⟨fun i=>.map (some i),.map [] 0,rfl,rfl,fun i hi=> ?_⟩
   grind [execOp,s_makeMap]
  |some _=>cases hc
 case makeSlice t l c=>
  obtain⟨l',h1,hc⟩:=aof hc;obtain⟨c',h2,hc⟩:=aof hc;obtain⟨u,h3,hc⟩:=aof hc
  cases u<;>simp only[reduceCtorEq] at hc
  case slice e=>
   obtain⟨i0,h4,hc⟩:=aof hc;obtain⟨z,h5,hc⟩:=aof hc
   split at hc
   ·cases hc
   ·rename_i h6
    cases hc
    obtain⟨ul,hl,hv⟩:=aof hv;obtain⟨uc,hcv,hv⟩:=aof hv
    have rl:=zbg h1 hs hl
    have rc:=zbg h2 hs hcv
    unfold zdd at hv
    split at hv
    ·split at hv
     ·rename_i hcond
      simp only[Bool.and_eq_true] at hcond
      cases hv
      have q1:=Nat.le_of_ble_eq_true hcond.1.1
      have q2:=Nat.le_of_ble_eq_true hcond.1.2
      have q3:=Nat.le_of_ble_eq_true hcond.2
      refine⟨fun i=>.slice (some ⟨i,0,none⟩) _ _,.cells _ 0,rfl,rfl,fun i hi=> ?_⟩
      simp only[execOp,ho];rw[rl.inv_int,rc.inv_int];grind [s_makeSlice]
     grind
    grind
 case slice t x lo hi mx=>
  obtain⟨c,h1,hc⟩:=aof hc;obtain⟨lo',h2,hc⟩:=aof hc;obtain⟨hi',h3,hc⟩:=aof hc;obtain⟨u,h4,hc⟩:=aof hc
  cases u<;>cases mx<;>simp only[reduceCtorEq,Option.some.injEq] at hc
  case string.none=>
   subst hc
   simp only[execOp,ho];exact s_strSlice hs h1 h2 h3 h4 hv
  case slice.none=>
   obtain⟨sz,h5,rfl⟩:=amf hc
   simp only[execOp,ho];exact s_slice hr hs h1 h2 h3 h4 h5 hv
  obtain⟨mx',h6,hc⟩:=aof hc
  obtain⟨hi2,h7,hc⟩:=aof hc
  obtain⟨sz,h5,rfl⟩:=amf hc
  subst h7
  cases hi with
  |none=>cases h3
  |some hi=>
   obtain⟨hi3,h8,e⟩:=amf h3
   cases e
   simp only[execOp,ho];exact s_slice3 hr hs h1 h2 h8 h6 h4 h5 hv
 case fieldAddr t x f=>
  obtain⟨c,h1,hc⟩:=aof hc;obtain⟨u,h2,hc⟩:=aof hc
  cases u<;>simp only[reduceCtorEq] at hc
  obtain⟨fl,h3,hc⟩:=aof hc;obtain⟨sz,h4,hc⟩:=aof hc
  split at hc
  ·cases hc
  ·rename_i h5;cases hc;simp only[execOp,ho];exact s_fieldAddr hs h1 h2 h3 h4 h5 hv
 case indexAddr t x y=>
  obtain⟨c,h1,hc⟩:=aof hc;obtain⟨d,h2,hc⟩:=aof hc;obtain⟨u,h3,hc⟩:=aof hc
  cases u<;>simp only[reduceCtorEq] at hc
  case slice e=>obtain⟨sz,h4,rfl⟩:=amf hc;simp only[execOp,ho];exact s_indexAddr hs h1 h2 h3 h4 hv
  case array n e=>obtain⟨sz,h4,rfl⟩:=amf hc;simp only[execOp,ho];exact s_indexArr hs h1 h2 h3 h4 hv
 case lookup t x y ok=>
  obtain⟨c,h1,hc⟩:=aof hc;obtain⟨d,h2,hc⟩:=aof hc;obtain⟨u,h3,hc⟩:=aof hc
  cases u<;>simp only[reduceCtorEq] at hc
  obtain⟨kk,h4,hc⟩:=aof hc;obtain⟨j,h5,hc⟩:=aof hc;obtain⟨z,h6,hc⟩:=aof hc
  split at hc
  ·rename_i h7;cases hc
   simp only[execOp,ho]
   exact s_lookup hr hs h1 h2 h3 h4 (fun w=>by simp_all[zeroValue,run_typeInfo]) h7 hv
  grind
 case mapUpdate t m k x=>
  obtain⟨m',h1,hc⟩:=aof hc;obtain⟨k',h2,hc⟩:=aof hc;obtain⟨x',h3,hc⟩:=aof hc;obtain⟨u,h4,hc⟩:=aof hc
  cases u<;>simp only[reduceCtorEq] at hc
  obtain⟨kk,h5,rfl⟩:=amf hc
  simp only[execOp,ho];exact zjC hr hs h1 h2 h3 h4 h5 hv
 case insert t m k x=>
  obtain⟨m',h1,hc⟩:=aof hc;obtain⟨k',h2,hc⟩:=aof hc;obtain⟨x',h3,hc⟩:=aof hc;obtain⟨u,h4,hc⟩:=aof hc
  cases u<;>simp only[reduceCtorEq] at hc
  obtain⟨kk,h5,rfl⟩:=amf hc
  simp only[execOp,ho];exact zjC hr hs h1 h2 h3 h4 h5 hv
 case index t x y=>
  obtain⟨c,h1,hc⟩:=aof hc;obtain⟨d,h2,hc⟩:=aof hc;obtain⟨u,h3,hc⟩:=aof hc
  cases u<;>simp only[reduceCtorEq,Option.some.injEq] at hc
  subst hc
  simp only[execOp,ho];exact s_strIdx hs h1 h2 h3 hv
 case extract x i=>obtain⟨c,h1,rfl⟩:=amf hc;simp only[execOp,ho];exact s_extract hs h1 hv
 case field t x i=>
  obtain⟨c,h1,hc⟩:=aof hc;obtain⟨u,h2,hc⟩:=aof hc
  cases u<;>simp only[reduceCtorEq] at hc
  obtain⟨f,h3,hc⟩:=aof hc
  obtain⟨n,h4,rfl⟩:=amf hc
  simp only[execOp,ho];exact s_fld hs h1 h2 h3 h4 hv
 case panic x=>obtain⟨c,h1,rfl⟩:=amf hc;cases hv
 case makeInterface t x=>
  obtain⟨u,h1,hc⟩:=aof hc
  split at hc
  ·cases hc
  ·rename_i hne
   obtain⟨c,h2,rfl⟩:=amf hc
   simp only[execOp,ho]
   exact s_mkI hs h2 h1 (fun ms e=>hne ms e) hv
 case typeAssert x xt d ok=>
  obtain⟨u,h1,hc⟩:=aof hc
  split at hc
  ·cases hc
  ·rename_i hne
   obtain⟨c,h2,hc⟩:=aof hc
   simp only[execOp,ho]
   cases ok with
   |false=>cases hc;exact s_assertT hs h2 h1 (fun ms e=>hne ms e) (fun e=>by cases e) hv
   |true=>
    obtain⟨i,h3,hc⟩:=aof hc
    obtain⟨z,h4,hc⟩:=aof hc
    split at hc
    ·rename_i h5
     cases hc
     exact s_assertT hs h2 h1 (fun ms e=>hne ms e) (fun _=>⟨i,h3,h4,h5⟩) hv
    grind
 case call c=>
  split at hc
  ·obtain⟨f,h1,hc⟩:=aof hc;obtain⟨as,h2,rfl⟩:=amf hc;trivial
  ·rename_i b hcal
   split at hc
   ·cases hc;cases hv
   obtain⟨cb,h1,hc⟩:=aof hc;obtain⟨as,h2,rfl⟩:=amf hc
   obtain⟨vs,hvs,hv⟩:=aof hv
   have hargs:=zi7 hs h2 hvs
   obtain⟨consts,hx⟩: ∃consts,(execOp a.eval o).run P w=(builtin b c.argTypes o.type consts (c.args.map a.eval)).run P w:=
    ⟨_,by simp only[execOp,ho,resolve,hcal,Sem.run_bind,Sem.run_pure,Result.andThen_ok,invoke];rfl⟩
   rw[hx]
   by_cases happ: ∃x y,cb=.append x y
   ·obtain⟨x,y,rfl⟩:=happ
    show Sim _ _ _ _ _ _
    have app: ∀{e:TypeId} {i:TypeInfo} {z:Value},AppOk P c.argTypes e i z→bltV h (.append i.size i.bytes) vs=some (v,h')→Sim P ρ w ((builtin .append c.argTypes o.type consts (c.args.map a.eval)).run P w) v h':=by
     intro e i z ok hv
     cases vs with
     |nil=>grind [bltV]
     |cons sv vs=>cases vs with
      |nil=>grind [bltV]
      |cons xv vs=>cases vs with
       |cons _ _=>grind [bltV]
       |nil=>
        obtain⟨sv',l1,e1,r1,hl1⟩:=hargs.cons_left
        obtain⟨xv',l2,e2,r2,hl2⟩:=hl1.cons_left
        have:=hl2.nil_left;subst this;subst e2
        have:c.args.map a.eval= #[sv',xv']:=Array.toList_inj.1 (by grind)
        grind [s_append]
    cases b<;>simp only[zbU,reduceCtorEq] at h1
    case append=>
     split at h1
     ·rename_i t t1 hts
      obtain⟨u,hu,h1⟩:=aof h1;obtain⟨u1,hu1,h1⟩:=aof h1
      split at h1
      ·obtain⟨i,hi,h1⟩:=aof h1;obtain⟨z,hz,h1⟩:=aof h1
       split at h1
       ·cases h1
       ·rename_i hcond
        cases h1
        have ok:AppOk P c.argTypes _ i z:=⟨⟨t,t1,Array.toList_inj.1 (by grind),hu,.inl ⟨_,hu1⟩⟩,hi,hz,by grind,fun h=>hcond (.inl h),fun h=>hcond (.inr (.inl h))⟩
        grind
      ·obtain⟨i,hi,h1⟩:=aof h1;obtain⟨z,hz,h1⟩:=aof h1
       split at h1
       ·cases h1
       ·rename_i hcond
        cases h1
        have ok:AppOk P c.argTypes _ i z:=⟨⟨t,t1,Array.toList_inj.1 (by grind),hu,.inr hu1⟩,hi,hz,by grind,fun h=>hcond (.inl h),fun h=>hcond (.inr (.inl h))⟩
        grind
      grind
     grind
    case len=>
     exfalso
     obtain⟨t,ht,h1⟩:=aof h1;obtain⟨u,hu,h1⟩:=aof h1
     grind
    case clear=>
     exfalso
     obtain⟨t,ht,h1⟩:=aof h1;obtain⟨u,hu,h1⟩:=aof h1
     cases u<;>simp only[reduceCtorEq] at h1
     obtain⟨z',hz',h1⟩:=aof h1
     grind
    case copy=>
     exfalso
     obtain⟨t,ht,h1⟩:=aof h1;obtain⟨u,hu,h1⟩:=aof h1
     cases u<;>simp only[reduceCtorEq] at h1
     obtain⟨z',hz',h1⟩:=aof h1
     grind
    all_goals grind
   ·by_cases hclr: ∃z,cb=.clear z
    ·obtain⟨z,rfl⟩:=hclr
     show Sim _ _ _ _ _ _
     cases b<;>simp only[zbU,reduceCtorEq] at h1
     case clear=>
      obtain⟨t,ht,h1⟩:=aof h1;obtain⟨u,hu,h1⟩:=aof h1
      cases u<;>simp only[reduceCtorEq] at h1
      obtain⟨z',hz',h1⟩:=aof h1
      grind [s_clear]
     case append=>
      split at h1
      ·obtain⟨u,hu,h1⟩:=aof h1;obtain⟨u1,hu1,h1⟩:=aof h1
       split at h1
       ·obtain⟨i,hi,h1⟩:=aof h1;obtain⟨z,hz,h1⟩:=aof h1
        grind
       ·obtain⟨i,hi,h1⟩:=aof h1;obtain⟨z,hz,h1⟩:=aof h1
        grind
       grind
      grind
     case len=>
      exfalso
      obtain⟨t,ht,h1⟩:=aof h1;obtain⟨u,hu,h1⟩:=aof h1
      grind
     case copy=>
      exfalso
      obtain⟨t,ht,h1⟩:=aof h1;obtain⟨u,hu,h1⟩:=aof h1
      cases u<;>simp only[reduceCtorEq] at h1
      obtain⟨z',hz',h1⟩:=aof h1
      grind
     all_goals grind
    ·by_cases hcp: ∃z,cb=.copy z
     ·obtain⟨z,rfl⟩:=hcp
      show Sim _ _ _ _ _ _
      cases b<;>simp only[zbU,reduceCtorEq] at h1
      case copy=>
       obtain⟨t,ht,h1⟩:=aof h1;obtain⟨u,hu,h1⟩:=aof h1
       cases u<;>simp only[reduceCtorEq] at h1
       obtain⟨s',hs',h1⟩:=aof h1
       grind [s_copy]
      case append=>
       split at h1
       ·obtain⟨u,hu,h1⟩:=aof h1;obtain⟨u1,hu1,h1⟩:=aof h1
        split at h1
        ·obtain⟨i,hi,h1⟩:=aof h1;obtain⟨z,hz,h1⟩:=aof h1
         grind
        ·obtain⟨i,hi,h1⟩:=aof h1;obtain⟨z,hz,h1⟩:=aof h1
         grind
        grind
       grind
      case len=>
       exfalso
       obtain⟨t,ht,h1⟩:=aof h1;obtain⟨u,hu,h1⟩:=aof h1
       grind
      case clear=>
       exfalso
       obtain⟨t,ht,h1⟩:=aof h1;obtain⟨u,hu,h1⟩:=aof h1
       cases u<;>simp only[reduceCtorEq] at h1
       obtain⟨z',hz',h1⟩:=aof h1
       grind
      all_goals grind
     ·have:=s_blt hr h1 (fun x y e=>happ ⟨x,y,e⟩) (fun z e=>hclr ⟨z,e⟩) (fun z e=>hcp ⟨z,e⟩) hargs hv o.type consts
      have hcl:zZ (.blt cb as)=.pure:=by
       cases cb<;>first|rfl|exact absurd ⟨_,_,rfl⟩ happ|exact absurd ⟨_,rfl⟩ hclr|grind
      rw[hcl];exact this
  ·obtain⟨f,h1,hc⟩:=aof hc;obtain⟨as,h2,rfl⟩:=amf hc;cases hv
theorem zbT {o:Oper} {op:COp} (h:zca P o=some op):isDefer o.op=false∧(zbk P o=some op∨op=.stuck):=by
 unfold zca at h
 split at h
 ·cases h
 ·rename_i hd
  refine⟨by grind,?_⟩
  have h:=Option.some.inj h
  cases hc:zbk P o with
  |none=>grind
  |some x=>grind
theorem op_sim {o:Oper} {op:COp} (hc:zca P o=some op) (hr:HR P ρ h w) (hs:SR ρ s a.tmps) (hv:opV op s h=some (v,h')):
 ClSim P ρ h w ((execOp a.eval o).run P w) v h' (zZ op):=by
 rcases(zbT hc).2 with h1|rfl
 ·grind [op_sim0]
 ·cases hv
end
end Go.Ideal
namespace Go.Ideal
variable {P:Program}
abbrev Wf (r:Option Nat):Fence:=match r with|none=>Fence.wide|some l=>Fence.wide.inRound l
theorem Wf_fn (r:Option Nat) (f:FuncId):(Wf r).fn f:=by cases r<;>trivial
theorem zje (r:Option Nat):(Wf r).depth=none:=by cases r<;>rfl
theorem Wf_round (r:Option Nat):(Wf r).round=r:=by cases r<;>rfl
def zC (D:Nat):Deferred:={target:=.collected D,args:= #[]}
structure zR (ρ:Rho) (w:World) (Ds:List Nat):Prop where
 nodup:Ds.Nodup
 ok: ∀D∈Ds,D<w.heap.size∧(∀i R,ρ i=some R→R.blk≠D)∧w.heap[D]? =some (.deferred (some []))
theorem zR.ext {ρ σ:Rho} {w w':World} {Ds:List Nat} (h:zR ρ w Ds) (he:Ext ρ w σ w'):zR σ w' Ds:=
 ⟨h.nodup,fun D hD=>by
   obtain⟨h1,h2,h3⟩:=h.ok D hD
   refine⟨Nat.lt_of_lt_of_le h1 he.size,fun i R hi e=> ?_,by rw[he.frame D h1 h2];exact h3⟩
   rcases he.fresh i R hi with⟨j,S,hj,hs⟩|hb
   all_goals grind⟩
def ze9 (r:Option Nat) (w:World):Prop:= ∀l,r=some l→ ∃lp:Loop,w.heap[l]? =some (.loop lp)
theorem ze9.ext {ρ σ:Rho} {w w':World} {r:Option Nat} (h:ze9 r w) (he:Ext ρ w σ w'):ze9 r w':=
 fun l hl=>let⟨lp,h1⟩:=h l hl;let⟨lp',h2,_⟩:=he.loops l lp h1;⟨lp',h2⟩
def ziT (P:Program) (ρ:Rho) (w:World) (o:Out) (e:Ending) (w':World):Prop:=
 ∃v h v' σ,o=.val v h∧e=.returned v'∧VR σ v v'∧HR P σ h w'∧Ext ρ w σ w'
abbrev one (v:Value):List PanicEntry:=[{v:=v,recovered:=false}]
def zhF (P:Program) (ρ:Rho) (w:World) (o:Out) (e:Ending) (w':World):Prop:=
 ziT P ρ w o e w'∨ ∃v h v' σ,o=.pan v .nil h∧e=.panicked (one v')∧VR σ v v'∧HR P σ h w'∧Ext ρ w σ w'
theorem zhF.val {ρ:Rho} {w:World} {v:Value} {h:H} {e:Ending} {w':World} (hp:zhF P ρ w (.val v h) e w'):ziT P ρ w (.val v h) e w':=by
 rcases hp with h| ⟨_,_,_,_,h,_⟩
 all_goals grind
def zcY (P:Program) (ρ:Rho) (w:World) (N:Nat) (Ds0:List Nat) (Db:List Deferred) (o:Out) (e:Exit) (a':Act) (w':World):Prop:=
 ∃σ Ds s h,Ext ρ w σ w'∧a'.tmps.size=N∧a'.defers=Ds.map zC++Db∧(zR σ w' Ds∧ ∀D∈Ds,D∈Ds0∨w.heap.size≤D)∧SR σ s a'.tmps∧HR P σ h w'∧
  ((o=.nrm s h∧e=.normal)∨(∃i,o=.exit i s h∧e=exOf i)∨(o=.ret s h∧e=.ret)∨(∃v v',o=.pan v s h∧VR σ v v'∧e=.panic (one v')))
def zgh:Option Value→FrameMode
 |none=>.returning
 |some v=>.panicking (one v)
def zcs:Option Value→FrameMode
 |none=>.returning
 |some v=>.panicking [{v:=v,recovered:=true}]
def POR (ρ:Rho):Option Value→Option Value→Prop
 |none,none=>True
 |some v,some v'=>VR ρ v v'
 |_,_=>False
def HandOk (P:Program) (ρ:Rho) (w:World) (args':Array Value) (p':Option Value) (o:Out):Value→Prop
 |.func (.func g) first captured=>CallsDIn Fence.wide 0 P g (first++args'++captured) (zgh p') w (fun e u w'=>ziT P ρ w o e w'∧u=zcs p')∧(∀w,(callFunc g (first++args'++captured)).run P w=.ok (.enter g (first++args'++captured)) w)
 |_=>False
def CallOk (P:Program) (ρ:Rho) (w:World) (args':Array Value) (o:Out):Value→Prop
 |.func (.func g) first captured=>CallsIn Fence.wide 0 P g (first++args'++captured) w (zhF P ρ w o)∧(∀w,(callFunc g (first++args'++captured)).run P w=.ok (.enter g (first++args'++captured)) w)
 |.func (.yield l) _ _=> ∃fn tmps assign body,(Instr.yield l args').run P w=.ok (.round l fn tmps assign body) w∧RoundIn Fence.wide 0 P l fn tmps assign body w (ziT P ρ w o)
 |_=>False
def CodeOk (P:Program) (m:Nat) (r:Option Nat) (Q:Exit→Act→World→Prop) (a:Act) (w:World):Code→Prop
 |.loop c=>Code.roundsIn (Wf r) 0 P c Q m a w
 |c=>c.wpIn (Wf r) 0 P Q a w
theorem CodeOk.wpIn {m:Nat} {r:Option Nat} {Q:Exit→Act→World→Prop} {a:Act} {w:World} {c:Code} (h:CodeOk P m r Q a w c):c.wpIn (Wf r) 0 P Q a w:=by
 cases c<;>first|exact h|exact wpIn_loop_rounds m h
def InScope (F:Fence) (P:Program) (body x:Code) (Q:Exit→Act→World→Prop) (a:Act) (w:World):Prop:=
 ∀(b:Frame) (k:List Item) (cs:List Frame),b.roundOf=F.round→F.fn b.fn→F.room (cs.length+1+0)→
  ∃e a' w',Q e a' w'∧ArrivesIn (Machine.fenced P F) P (lone (b.atR a (.code x:: .inScope body::k)) cs w) b k cs e a' w'
def LabOk (P:Program) (N:Nat) (body:Code) (l1:Nat) (r1:CC) (l2:Nat) (r2:CC):Prop:=
 (∃rest,findLabel body l1=some rest∧ze P N rest=some (zA r1))∧(∃rest,findLabel body l2=some rest∧ze P N rest=some (zA r2))∧ ∀l,l≠l1→l≠l2→findLabel body l=none
def zdE (P:Program) (m:Nat):Task→Out→Prop
 |.code c s h,o=> ∀(code:Code) (N:Nat),ze P N code=some (zA c)→ ∀(r:Option Nat) (ρ:Rho) (a:Act) (w:World) (Ds:List Nat) (Db:List Deferred),ze9 r w→a.tmps.size=N→SR ρ s a.tmps→HR P ρ h w→a.defers=Ds.map zC++Db→zR ρ w Ds→
   CodeOk P m r (zcY P ρ w N Ds Db o) a w code
 |.call f args h,o=> ∀(ρ:Rho) (f':Value) (args':Array Value) (w:World),VR ρ f f'→VRL ρ args args'.toList→HR P ρ h w→CallOk P ρ w args' o f'
 |.hand f args p h,o=> ∀(ρ:Rho) (f':Value) (args':Array Value) (p':Option Value) (w:World),VR ρ f f'→VRL ρ args args'.toList→POR ρ p p'→HR P ρ h w→HandOk P ρ w args' p' o f'
 |.scope b l1 r1 l2 r2 s h,o=> ∀(body x:Code) (N:Nat),ze P N x=some (zA b)→LabOk P N body l1 r1 l2 r2→ ∀(r:Option Nat) (ρ:Rho) (a:Act) (w:World) (Ds:List Nat) (Db:List Deferred),ze9 r w→a.tmps.size=N→SR ρ s a.tmps→HR P ρ h w→a.defers=Ds.map zC++Db→zR ρ w Ds→
   InScope (Wf r) P body x (zcY P ρ w N Ds Db o) a w
section
variable {ρ:Rho} {h h':H} {w:World} {s:za} {a:Act} {v:Value}
theorem SR.get {ρ:Rho} {s:za} {tmps:Array Value} (h:SR ρ s tmps) {t:Nat} {v:Value} (hv:s.get (bits t)=some v): ∃v',tmps[t]? =some v'∧VR ρ v v':=h t v hv
theorem zcl {N:Nat} {ops:Array Oper} {o:Oper} {c:CI} (hc:zu P N ops o=some c) (hs:SR ρ s a.tmps) {b:Bool} (hb:zbb c.guard s=some b):Region.wanted o (yielded ops a.tmps)=b:=by
 unfold zu at hc
 split at hc
 ·obtain⟨op,hop,hc⟩:=aof hc
  unfold Region.wanted
  cases hg:o.guard with
  |none=>grind [zbb]
  |some g=>
   obtain⟨j,want⟩:=g
   rw[hg] at hc
   obtain⟨p,hp,e⟩:=amf hc
   subst e
   obtain⟨t,ht,e⟩:=amf hp
   subst e
   simp only[zbb] at hb
   obtain⟨u,hu,hb⟩:=aof hb
   obtain⟨u',hu',hr⟩:=hs.get hu
   simp only[yielded,ht,Option.bind_some,hu']
   unfold wantedV at hb
   split at hb
   ·cases hb;rw[hr.inv_bool];simp
   ·cases hb;cases hr;simp
   grind
 grind
theorem zbj {N:Nat} {ops:Array Oper} {o:Oper} {c:CI} (hc:zu P N ops o=some c):zca P o=some c.op∧c.dst=o.dst.map bits∧ ∀d,o.dst=some d→d<N:=by
 unfold zu at hc
 split at hc
 ·rename_i hd
  obtain⟨op,hop,hc⟩:=aof hc
  have hd': ∀d,o.dst=some d→d<N:=by grind
  cases hg:o.guard with
  |none=>grind
  |some g=>rw[hg] at hc;obtain⟨p,hp,e⟩:=amf hc;grind
 grind
theorem zhX {N:Nat} {σ:Rho} {v v':Value} {o:Oper} {c:CI} (hd:c.dst=o.dst.map bits) (hlt: ∀d,o.dst=some d→d<N) (hs:SR σ s a.tmps) (hN:a.tmps.size=N) (hv:VR σ v v'):
 SR σ (zY c.dst v s) (a.put o.dst v').tmps∧(a.put o.dst v').tmps.size=N∧(a.put o.dst v').defers=a.defers:=by
 rw[hd]
 cases ho:o.dst with
 |none=>exact⟨hs,hN,rfl⟩
 |some d=>exact⟨hs.set (by grind) hv,by simp[Act.put,hN],rfl⟩
theorem ClSim.sim {op:COp} {r:Result Next} (hc:ClSim P ρ h w r v h' (zZ op)) (hr:HR P ρ h w) (hn:zZ op≠ .call):Sim P ρ w r v h':=by
 cases e:zZ op with
 |pure=>rw[e] at hc;obtain⟨rfl,h2⟩:=hc;exact h2.sim hr
 |alloc=>rw[e] at hc;obtain⟨f,io,rfl,rfl,h3⟩:=hc;exact(h3 _ (hr.nxt _ (Nat.le_refl _)).1).sim hr
 |eff=>rw[e] at hc;exact hc
 |call=>grind
theorem notDefer {o:Oper} {op:COp} (hc:zca P o=some op): ∀c,o.op≠ .defer c:=by
 intro c e
 have:=(zbT hc).1
 rw[e] at this;cases this
theorem compile_call0 {o:Oper} {f:CO} {args:List CO} (hop:zbk P o=some (.call f args)): ∃cl:Call,o.op=.call cl∧ ∃fo,cl.callee=.value fo∧co fo=some f∧allO co cl.args.toList=some args:=by
 cases e:o.op<;>simp only[zbk,e,reduceCtorEq] at hop
 case call cl=>
  refine⟨cl,rfl,?_⟩
  split at hop
  ·rename_i fo hfo
   obtain⟨f',h1,hop⟩:=aof hop;simp_all
  ·split at hop
   ·grind
   ·obtain⟨cb,h1,hop⟩:=aof hop;simp_all
  ·obtain⟨f',h1,hop⟩:=aof hop;simp_all
 case convert sr d x0=>
  obtain⟨x1,-,hop⟩:=aof hop;obtain⟨u1,-,hop⟩:=aof hop;obtain⟨u2,-,hop⟩:=aof hop
  cases u1<;>cases u2<;>first| (cases hop;done)| (obtain⟨u,-,hop⟩:=aof hop;grind)
 all_goals (exfalso;revert hop;simp only[Option.bind_eq_some_iff,Option.map_eq_some_iff,reduceCtorEq,and_false,exists_false,imp_false,not_false_eq_true])
 all_goals grind [Option.bind_eq_some_iff,Option.map_eq_some_iff]
theorem compile_call {o:Oper} {f:CO} {args:List CO} (hop:zca P o=some (.call f args)): ∃cl:Call,o.op=.call cl∧ ∃fo,cl.callee=.value fo∧co fo=some f∧allO co cl.args.toList=some args:=by
 rcases(zbT hop).2 with h|h
 ·exact compile_call0 h
 grind
theorem lookM_cons (t:Nat) (p:Nat×Nat) (l:List (Nat×Nat)):zjW t (p::l)=match Nat.beq p.1 t with|true=>some p.2|false=>zjW t l:=rfl
theorem lookM_mem {t f:Nat}: ∀{l:List (Nat×Nat)},zjW t l=some f→(t,f)∈l
 | [],h=>by cases h
 |p::l,h=>by
  rw[lookM_cons] at h
  split at h
  ·grind [Nat.eq_of_beq_eq_true]
  ·exact List.mem_cons_of_mem _ (lookM_mem h)
theorem methodTbl_mem {nm:String} {t f:Nat} (h:(t,f)∈zhh P nm):zi0 P t nm=some f:=by
 obtain⟨x,hx,e⟩:=List.mem_filterMap.1 h
 obtain⟨g,hg,e⟩:=amf e
 grind
theorem method_run {t:TypeId} {nm:String} {f:FuncId} (h:zi0 P t nm=some f) (n:Nat) (v:Value) (w:World):(method (n+1) t v nm).run P w=.ok (f,v) w:=by
 obtain⟨i,hi,h⟩:=aof h
 obtain⟨m,hm,h⟩:=aof h
 split at h
 ·rename_i hp
  obtain⟨⟨g,pr⟩,hf,h⟩:=aof h
  obtain⟨u,hu,h⟩:=aof h
  have hp':m.path.toList=[]:=List.isEmpty_iff.1 hp
  have key: ∀wr,(receiverAt t (.val v) pr wr).run P w=.ok v w∧f=g:=by
   intro wr
   split at h
   ·simp_all[receiverAt,run_underlying,Place.get]
   ·cases h
   ·rename_i h1 hpr
    have hpr:pr=false:=hpr
    subst hpr
    cases h
    refine⟨?_,rfl⟩
    unfold receiverAt
    simp only[Sem.run_bind,run_underlying hu,Result.andThen_ok]
    rfl
   grind
  unfold method
  simp only[Sem.run_bind,run_typeInfo _ hi,Result.andThen_ok,hm,hp',follow,Sem.run_pure,hf,(key _).1,(key none).2]
 grind
theorem zkm {o:Oper} {tbl:List (Nat×Nat)} {x:CO} {args:List CO} (hop:zbk P o=some (.invoke tbl x args)): ∃(cl:Call) (r:Operand) (nm:String),o.op=.call cl∧cl.callee=.invoke r nm∧co r=some x∧allO co cl.args.toList=some args∧tbl=zhh P nm:=by
 cases e:o.op<;>simp only[zbk,e,reduceCtorEq] at hop
 case call cl=>
  split at hop
  ·obtain⟨f',h1,hop⟩:=aof hop;simp_all
  ·split at hop
   ·grind
   ·obtain⟨cb,h1,hop⟩:=aof hop;simp_all
  ·rename_i r nm hcal
   obtain⟨f',h1,hop⟩:=aof hop;obtain⟨as',h2,e2⟩:=amf hop
   grind
 case convert sr d x0=>
  obtain⟨x1,-,hop⟩:=aof hop;obtain⟨u1,-,hop⟩:=aof hop;obtain⟨u2,-,hop⟩:=aof hop
  cases u1<;>cases u2<;>first| (cases hop;done)| (obtain⟨u,-,hop⟩:=aof hop;grind)
 all_goals (exfalso;revert hop;simp only[Option.bind_eq_some_iff,Option.map_eq_some_iff,reduceCtorEq,and_false,exists_false,imp_false,not_false_eq_true])
 all_goals grind [Option.bind_eq_some_iff,Option.map_eq_some_iff]
theorem zk1 {o:Oper} {tbl:List (Nat×Nat)} {x:CO} {args:List CO} (hop:zca P o=some (.invoke tbl x args)): ∃(cl:Call) (r:Operand) (nm:String),o.op=.call cl∧cl.callee=.invoke r nm∧co r=some x∧allO co cl.args.toList=some args∧tbl=zhh P nm:=by
 rcases(zbT hop).2 with h|h
 ·exact zkm h
 grind
theorem zk0 {o:Oper} {x:CO} (hop:zbk P o=some (.panic x)): ∃xo,o.op=.panic xo∧co xo=some x:=by
 cases e:o.op<;>simp only[zbk,e,reduceCtorEq] at hop
 case panic xo=>simp_all
 case convert sr d x0=>
  obtain⟨x1,-,hop⟩:=aof hop;obtain⟨u1,-,hop⟩:=aof hop;obtain⟨u2,-,hop⟩:=aof hop
  cases u1<;>cases u2<;>first| (cases hop;done)| (obtain⟨u,-,hop⟩:=aof hop;grind)
 all_goals (exfalso;revert hop;simp only[Option.bind_eq_some_iff,Option.map_eq_some_iff,reduceCtorEq,and_false,exists_false,imp_false,not_false_eq_true])
 all_goals grind [Option.bind_eq_some_iff,Option.map_eq_some_iff]
theorem compile_panic {o:Oper} {x:CO} (hop:zca P o=some (.panic x)): ∃xo,o.op=.panic xo∧co xo=some x:=by
 rcases(zbT hop).2 with h|h
 ·exact zk0 h
 grind
theorem zko {n:Nat} {g:FuncId} {args:Array Value} {w:World} {R:Ending→World→Prop} (r:Option Nat) (h:CallsIn Fence.wide n P g args w R):CallsIn (Wf r) n P g args w R:=by cases r<;>exact h
theorem roundIn_W {n l:Nat} {g:FuncId} {tmps:Array Value} {as b:Code} {w:World} {R:Ending→World→Prop} (r:Option Nat) (h:RoundIn Fence.wide n P l g tmps as b w R):RoundIn (Wf r) n P l g tmps as b w R:=by cases r<;>exact h
theorem zjP (cb:CB) (as:List CO):zZ (.blt cb as)≠ .call:=by cases cb<;>simp[zZ]
theorem op_wpIn {ih:IH} {M:Nat} (hih: ∀t o,ih t=some o→zdE P M t o) {N:Nat} {ops:Array Oper} {o:Oper} {c:CI} (hc:zu P N ops o=some c) (r:Option Nat) (hr:HR P ρ h w) (hs:SR ρ s a.tmps) {out:Out} (hv:zcV ih c.op s h=some out)
 {next:Act→World→Prop} {Q:Exit→Act→World→Prop} (hnext: ∀v h' v' w' σ,out=.val v h'→VR σ v v'→HR P σ h' w'→Ext ρ w σ w'→next (a.put o.dst v') w')
 (hpan: ∀v h' v' w' σ,out=.pan v .nil h'→VR σ v v'→HR P σ h' w'→Ext ρ w σ w'→Q (.panic (one v')) a w'):
 o.wpIn (Wf r) 0 P a w next Q:=by
 obtain⟨hop,-,-⟩:=zbj hc
 refine⟨fun f _=>Wf_fn r f,?_⟩
 rw[Oper.semAt_eq _ _ _ (notDefer hop)]
 have sim: ∀op,c.op=op→zZ op≠ .call→(opV op s h).map valO=some out→o.uponIn (Wf r) 0 P a next Q ((execOp a.eval o).run P w):=by
  intro op e hcl hv
  rw[e] at hop
  obtain⟨⟨v,h'⟩,hv2,eo⟩:=amf hv
  subst eo
  obtain⟨n,v',w',σ,h1,h2,h3,h4,h5⟩:=(op_sim hop hr hs hv2).sim hr hcl
  rw[h1]
  rcases h2 with rfl| ⟨rfl,rfl⟩
  ·exact hnext _ _ v' w' σ rfl h3 h4 h5
  ·exact hnext _ _ undef w' σ rfl h3 h4 h5
 cases hcop:c.op<;>rw[hcop] at hv<;>try exact sim _ hcop (by first| (simp[zZ];done)|grind [zjP]) hv
 case call f args=>
  obtain⟨uf,huf,hv⟩:=aof hv
  obtain⟨l,hl,hv⟩:=aof hv
  obtain⟨out1,ho,hv⟩:=aof hv
  have hsound:=hih _ _ ho
  rw[hcop] at hop
  have hcall:=compile_call hop
  obtain⟨cl,hocl,fo,hfo,hf,hargs⟩:=hcall
  have rf:=zbg hf hs huf
  have ra:=zi7 hs hargs hl
  have hok:=hsound ρ (a.eval fo) (cl.args.map a.eval) w rf ra hr
  obtain rfl:out1=out:=by cases out1<;>simp only[zkP,Option.some.injEq,reduceCtorEq] at hv<;>exact hv
  generalize hfe:a.eval fo=fv at rf hok
  unfold CallOk at hok
  split at hok
  ·rename_i g first captured
   obtain⟨hcalls,henter⟩:=hok
   have hx:(execOp a.eval o).run P w=.ok (.enter g (first++cl.args.map a.eval++captured)) w:=by
    simp_all[execOp,resolve,Deferred.ofValue,invoke]
   rw[hx]
   refine⟨(fun h=>by grind [zje]),?_⟩
   refine(zko r hcalls).mono ?_
   rintro e w' (⟨v1,h1,v',σ,rfl,rfl,q1,q2,q3⟩| ⟨v1,h1,v',σ,rfl,rfl,q1,q2,q3⟩)
   all_goals grind
  ·rename_i l0 first captured
   obtain⟨fn,tmps,assign,body,hy,hround⟩:=hok
   have hemp:first= #[]∧captured= #[]:=by cases rf;grind
   obtain⟨rfl,rfl⟩:=hemp
   have hx:(execOp a.eval o).run P w=.ok (.round l0 fn tmps assign body) w:=by
    simp_all[execOp,resolve,Deferred.ofValue,invoke]
   rw[hx]
   refine⟨(fun h=>by grind [zje]),?_⟩
   refine(roundIn_W r hround).mono ?_
   rintro e w' ⟨v1,h1,v',σ,rfl,rfl,q1,q2,q3⟩
   grind
  grind
 case invoke tbl x args=>
  obtain⟨u,hu,hv⟩:=aof hv
  obtain⟨⟨g,rv⟩,hif,hv⟩:=aof hv
  obtain⟨l,hl,hv⟩:=aof hv
  obtain⟨out1,ho,hv⟩:=aof hv
  rw[hcop] at hop
  obtain⟨cl,ro,nm,hocl,hcal,hro,hargs,htbl⟩:=zk1 hop
  unfold zgI at hif
  split at hif
  ·rename_i t0 v0
   obtain⟨g',hlk,e⟩:=amf hif
   cases e
   have hx:=zbg hro hs hu
   obtain⟨v',hv',hvr⟩:=hx.inv_iface
   have ra:=zi7 hs hargs hl
   have hm:zi0 P t0 nm=some g:=methodTbl_mem (htbl▸lookM_mem hlk)
   have rall:VRL ρ (rv::l) (#[v']++cl.args.map a.eval).toList:=by
    rw[Array.toList_append];exact .cons hvr ra
   have hok:=hih _ _ ho ρ (.func (.func g) #[] #[]) (#[v']++cl.args.map a.eval) w (.func g rfl rfl (by simp) (by simp)) rall hr
   obtain rfl:out1=out:=by cases out1<;>simp only[zkP,Option.some.injEq,reduceCtorEq] at hv<;>exact hv
   obtain⟨hcalls,henter⟩:=hok
   simp only[Array.empty_append,Array.append_empty] at hcalls henter
   have hx2:(execOp a.eval o).run P w=.ok (.enter g (#[v']++cl.args.map a.eval)) w:=by
    have e1:(#[Value.iface t0 v']++cl.args.map a.eval)[0]? =some (.iface t0 v'):=by grind [Array.getElem?_append_left]
    have e2:(#[Value.iface t0 v']++cl.args.map a.eval).extract 1 (#[Value.iface t0 v']++cl.args.map a.eval).size=cl.args.map a.eval:=by
     simp_all
    have e3: ∀w,(method (P.types.size+Made.depth) t0 v' nm).run P w=.ok (g,v') w:=fun w=>method_run hm (P.types.size+(Made.depth - 1)) v' w
    simp only[execOp,hocl,resolve,hcal,hv',Sem.run_bind,Sem.run_pure,Result.andThen_ok,invoke,e1,callMethod,e2,run_program,e3]
    grind
   rw[hx2]
   refine⟨(fun h=>by grind [zje]),?_⟩
   refine(zko r hcalls).mono ?_
   rintro e w' (⟨v1,h1,v',σ,rfl,rfl,q1,q2,q3⟩| ⟨v1,h1,v',σ,rfl,rfl,q1,q2,q3⟩)
   all_goals grind
  grind
 case panic x=>
  obtain⟨u,hu,hv⟩:=aof hv
  unfold panV at hv
  split at hv
  ·rename_i t v0
   cases hv
   rw[hcop] at hop
   obtain⟨xo,hox,hcx⟩:=compile_panic hop
   have hx:=zbg hcx hs hu
   obtain⟨v',hv',hvr⟩:=hx.inv_iface
   have hxr:(execOp a.eval o).run P w=.halt (.panic (.iface t v')) w:=by
    grind [execOp,Instr.panic,Sem.run_bind,run_goPanic,Result.andThen]
   rw[hxr]
   exact hpan _ _ _ w ρ rfl (.iface t hvr) hr (.refl _ _)
  grind
theorem doOpP_of {ih:IH} {op:COp} {s:za} {h:H} {v:Value} {h':H} (hv:doOp ih op s h=some (v,h')):zcV ih op s h=some (.val v h'):=by
 have plain:opV op s h=some (v,h')→(opV op s h).map valO=some (.val v h'):=by intro e;rw[e];rfl
 cases op
 case call f as=>
  obtain⟨u,hu,hv⟩:=aof hv
  obtain⟨l,hl,hv⟩:=aof hv
  obtain⟨o,ho,hv⟩:=aof hv
  show zkp _ _ _ _ _=_
  unfold zkp
  rw[hu,Option.bind_some,hl,Option.bind_some,ho,Option.bind_some]
  cases o<;>simp only[zhL,Option.some.injEq,Prod.mk.injEq,reduceCtorEq] at hv
  obtain⟨rfl,rfl⟩:=hv
  rfl
 case invoke tbl x args=>
  obtain⟨u,hu,hv⟩:=aof hv
  obtain⟨r0,hr0,hv⟩:=aof hv
  obtain⟨l,hl,hv⟩:=aof hv
  obtain⟨o,ho,hv⟩:=aof hv
  show invP _ _ _ _ _ _=_
  unfold invP
  rw[hu,Option.bind_some,hr0,Option.bind_some,hl,Option.bind_some,ho,Option.bind_some]
  cases o<;>simp only[zhL,Option.some.injEq,Prod.mk.injEq,reduceCtorEq] at hv
  obtain⟨rfl,rfl⟩:=hv
  rfl
 case panic x=>cases hv
 all_goals exact plain hv
theorem op_wpV {ih:IH} {M:Nat} (hih: ∀t o,ih t=some o→zdE P M t o) {N:Nat} {ops:Array Oper} {o:Oper} {c:CI} (hc:zu P N ops o=some c) (r:Option Nat) (hr:HR P ρ h w) (hs:SR ρ s a.tmps) (hv:doOp ih c.op s h=some (v,h'))
 {next:Act→World→Prop} {Q:Exit→Act→World→Prop} (hnext: ∀v' w' σ,VR σ v v'→HR P σ h' w'→Ext ρ w σ w'→next (a.put o.dst v') w'):
 o.wpIn (Wf r) 0 P a w next Q:=
 op_wpIn hih hc r hr hs (doOpP_of hv) (fun _ _ v' w' σ e q1 q2 q3=>by grind) (fun _ _ _ _ _ e=>by cases e)
theorem zli (ih:IH) (s:za) (h:H):zb7 ih [] s h=some (.nrm s h):=rfl
theorem zch (ih:IH) (o:CI) (l:List CI) (s:za) (h:H):zb7 ih (o::l) s h=(zdI ih o s h).bind (nextOp (zb7 ih l) o.dst s):=rfl
theorem zjN {ih:IH} {M:Nat} (hih: ∀t o,ih t=some o→zdE P M t o) {N:Nat} {ops:Array Oper} (r:Option Nat) {w0:World} {ρ0:Rho} {Ds:List Nat} {Db:List Deferred} {out:Out} {Q:Exit→Act→World→Prop} {rest:List Nat}
 (hend: ∀sF hF σ (a1:Act) w1,out=.nrm sF hF→SR σ sF a1.tmps→HR P σ hF w1→a1.tmps.size=N→a1.defers=Ds.map zC++Db→zR σ w1 Ds→Ext ρ0 w0 σ w1→wpOpsIn (Wf r) 0 P ops Q rest a1 w1)
 (hpan: ∀v sF hF v' σ (a1:Act) w1,out=.pan v sF hF→VR σ v v'→SR σ sF a1.tmps→HR P σ hF w1→a1.tmps.size=N→a1.defers=Ds.map zC++Db→zR σ w1 Ds→Ext ρ0 w0 σ w1→Q (.panic (one v')) a1 w1):
 ∀(m k:Nat) (l:List CI) (ρ:Rho) (s:za) (h:H) (a:Act) (w:World),k+m≤ops.size→allO (zu P N ops) ((ops.toList.drop k).take m)=some l→zb7 ih l s h=some out→
  HR P ρ h w→SR ρ s a.tmps→a.tmps.size=N→a.defers=Ds.map zC++Db→zR ρ w Ds→Ext ρ0 w0 ρ w→wpOpsIn (Wf r) 0 P ops Q (List.range' k m++rest) a w
 |0,k,l,ρ,s,h,a,w,hk,hl,hrun,hr,hs,hN,hd,hD,hE=>by
  rw[List.take_zero] at hl;cases hl
  grind [zli]
 |m+1,k,l,ρ,s,h,a,w,hk,hl,hrun,hr,hs,hN,hd,hD,hE=>by
  have hlt:k<ops.size:=by omega
  have hdr:ops.toList.drop k=ops[k]::ops.toList.drop (k+1):=by
   rw[←List.getElem_cons_drop (by grind)];simp
  rw[hdr,List.take_succ_cons] at hl
  obtain⟨c,hc,hl⟩:=aof hl
  obtain⟨l',hl',e⟩:=amf hl
  subst e
  rw[zch] at hrun
  obtain⟨o1,hstep,hrest⟩:=aof hrun
  obtain⟨b,hb,hstep⟩:=aof hstep
  obtain⟨hop,hdst,hdlt⟩:=zbj hc
  have hwant:=zcl hc hs hb
  rw[List.range'_succ,List.cons_append]
  simp only[wpOpsIn,Array.getElem?_eq_getElem hlt,hwant]
  cases b with
  |true=>
   simp only[if_true]
   refine op_wpIn hih hc r hr hs hstep (fun v h1 v' w' σ eo q1 q2 q3=> ?_) (fun v h1 v' w' σ eo q1 q2 q3=> ?_)
   ·subst eo
    obtain⟨p1,p2,p3⟩:=zhX hdst hdlt (hs.mono q3.le) hN q1
    exact zjN hih r hend hpan m (k+1) l' σ _ _ _ _ (by omega) hl' hrest q2 p1 p2 (p3.trans hd) (hD.ext q3) (hE.trans q3)
   ·subst eo
    cases hrest
    exact hpan v s h1 v' σ a w' rfl q1 (hs.mono q3.le) q2 hN hd (hD.ext q3) (hE.trans q3)
  |false=>
   simp only[Bool.false_eq_true,if_false]
   cases hstep
   obtain⟨p1,p2,p3⟩:=zhX (v':=undef) hdst hdlt hs hN (VR.tuple_of (VRL.nil ρ))
   exact⟨fun f _=>Wf_fn r f,zjN hih r hend hpan m (k+1) l' ρ _ _ _ _ (by omega) hl' hrest hr p1 p2 (p3.trans hd) hD hE⟩
theorem ops_wpIn {ih:IH} {M:Nat} (hih: ∀t o,ih t=some o→zdE P M t o) {N:Nat} {ops:Array Oper} (r:Option Nat) {Ds:List Nat} {Db:List Deferred} {out:Out} {l:List CI} {ρ:Rho} {s:za} {h:H} {a:Act} {w:World}
 (hl:allO (zu P N ops) ops.toList=some l) (hrun:zb7 ih l s h=some out) (hr:HR P ρ h w) (hs:SR ρ s a.tmps) (hN:a.tmps.size=N) (hd:a.defers=Ds.map zC++Db) (hD:zR ρ w Ds):
 wpOpsIn (Wf r) 0 P ops (zcY P ρ w N Ds Db out) (List.range ops.size) a w:=by
 have:=zjN (ops:=ops) (Q:=zcY P ρ w N Ds Db out) (rest:=[]) hih r (w0:=w) (ρ0:=ρ) (Ds:=Ds) (Db:=Db) (out:=out)
  (fun sF hF σ a1 w1 eo q1 q2 q3 q4 q5 q6=>⟨σ,Ds,sF,hF,q6,q3,q4,⟨q5,fun D h=>.inl h⟩,q1,q2,.inl ⟨eo,rfl⟩⟩)
  (fun v sF hF v' σ a1 w1 eo q0 q1 q2 q3 q4 q5 q6=>⟨σ,Ds,sF,hF,q6,q3,q4,⟨q5,fun D h=>.inl h⟩,q1,q2,.inr (.inr (.inr ⟨v,v',eo,q0,rfl⟩))⟩)
  ops.size 0 l ρ s h a w (by omega) (by grind [List.take_of_length_le]) hrun hr hs hN hd hD (.refl _ _)
 grind [List.range_eq_range']
end
section
variable {ρ:Rho} {h h':H} {w:World} {s:za} {a:Act}
theorem zjI {F:Fence} {n:Nat} {c:Code} {Q Q':Exit→Act→World→Prop} (hq: ∀e a w,Q e a w→Q' e a w): ∀(m:Nat) (a:Act) (w:World),Code.roundsIn F n P c Q m a w→Code.roundsIn F n P c Q' m a w
 |0,_,_,h=>h
 |m+1,a,w,h=>by
  rw[roundsIn_succ] at h⊢
  refine wpIn_mono h (fun e a w h=> ?_)
  cases e
  case normal=>exact zjI hq m a w h
  all_goals exact hq _ _ _ h
theorem zcY.ext {ρ σ:Rho} {w w':World} {N:Nat} {Ds0 Ds:List Nat} {Db:List Deferred} {o:Out} {e:Exit} {a:Act} {w'':World} (he:Ext ρ w σ w') (hds: ∀D∈Ds,D∈Ds0∨w.heap.size≤D) (hp:zcY P σ w' N Ds Db o e a w''):zcY P ρ w N Ds0 Db o e a w'':=by
 obtain⟨τ,Ds,s,h,h1,h2,h3,⟨h4,h5⟩,h6⟩:=hp
 exact⟨τ,Ds,s,h,he.trans h1,h2,h3,⟨h4,fun D hD=>(h5 D hD).elim (fun h=>hds D h) (fun h=>.inr (Nat.le_trans he.size h))⟩,h6⟩
theorem wpIn_scope {F:Fence} {n:Nat} {c:Code} {Q:Exit→Act→World→Prop} (h:c.wpIn F n P Q a w) (hq: ∀l,findLabel c l=none):(Code.scope c).wpIn F n P Q a w:=by
 intro b k cs hro hb hr
 have h0:(lone (b.atR a (.code (.scope c)::k)) cs w).fenced P F:=fenced_calm hb hr rfl
 have s0:step P (lone (b.atR a (.code (.scope c)::k)) cs w)=.next (lone (b.atR a (.code c:: .inScope c::k)) cs w):=step_lone_go (by simp[stepG,stepG.exec,Frame.atR])
 obtain⟨e,a₁,w₁,hQ,harr⟩:=h b (.inScope c::k) cs hro hb hr
 cases e with
 |normal=>
  have s1:step P (lone (b.atR a₁ (.inScope c::k)) cs w₁)=.next (lone (b.atR a₁ k) cs w₁):=step_lone_go (by simp[stepG,stepG.exec,Frame.atR])
  exact⟨.normal,a₁,w₁,hQ,.head h0 s0 (StepsIn.trans harr (.one (fenced_calm hb hr rfl) s1))⟩
 |exit id=>
  have hx:exitTo id (.inScope c::k)=exitTo id k:=by simp[exitTo]
  exact⟨.exit id,a₁,w₁,hQ,fun k' hk=>.head h0 s0 (harr.1 k' (by grind)),fun hr' hk=>let⟨k₁,h1,h2⟩:=harr.2 hr' (by grind);⟨k₁,h1,.head h0 s0 h2⟩⟩
 |goto l=>
  have hx:gotoIn l (.inScope c::k)=gotoIn l k:=by grind [gotoIn]
  exact⟨.goto l,a₁,w₁,hQ,fun k' hk=>.head h0 s0 (harr.1 k' (by grind)),fun hr' hk=>let⟨k₁,h1,h2⟩:=harr.2 hr' (by grind);⟨k₁,h1,.head h0 s0 h2⟩⟩
 |ret=>exact⟨_,a₁,w₁,hQ,.of_steps (.one h0 s0) harr⟩
 |panic ch=>exact⟨_,a₁,w₁,hQ,.of_steps (.one h0 s0) harr⟩
 |outgrown=>exact⟨_,a₁,w₁,hQ,.of_steps (.one h0 s0) harr⟩
theorem zk7 {c:CC} (h:CC.skip=zA c):c=.skip:=by cases c<;>simp[zA] at h;rfl
theorem zk8 {c:CC} {i:Nat} (h:CC.exit i=zA c):c=.exit i:=by cases c<;>simp[zA] at h;rw[h]
theorem strip_ret {c:CC} (h:CC.ret=zA c):c=.ret:=by cases c<;>simp[zA] at h;rfl
theorem zjq {c:CC} {l:List CI} (h:CC.ops l=zA c):c=.ops l:=by cases c<;>simp[zA] at h;rw[h]
theorem strip_draw {c:CC} {l:List CI} (h:CC.draw l=zA c):c=.draw l:=by cases c<;>simp[zA] at h;rw[h]
theorem strip_draw2 {c:CC} {l:List CI} {x y:CI} (h:CC.draw2 l x y=zA c):c=.draw2 l x y:=by cases c<;>simp[zA] at h;grind
theorem zjp {c x y:CC} {L:List (List Bool)} (h:CC.seq x L y=zA c): ∃a L' b,c=.seq a L' b∧x=zA a∧y=zA b:=by
 cases c<;>simp[zA] at h
 grind
theorem zk9 {c x y:CC} {v:CO} (h:CC.cond v x y=zA c): ∃a b,c=.cond v a b∧x=zA a∧y=zA b:=by
 cases c<;>simp[zA] at h
 grind
theorem strip_block {c x:CC} {i:Nat} (h:CC.block i x=zA c): ∃a,c=.block i a∧x=zA a:=by
 cases c<;>simp[zA] at h
 grind
theorem strip_scope {c x q1 q2:CC} {l1 l2:Nat} (h:CC.scope x l1 q1 l2 q2=zA c): ∃a r1 r2,c=.scope a l1 r1 l2 r2∧x=zA a∧q1=zA r1∧q2=zA r2:=by
 cases c<;>simp[zA] at h
 grind
theorem strip_loop {c x:CC} {L:List (List Bool)} (h:CC.loop L x=zA c): ∃L' a,c=.loop L' a∧x=zA a:=by
 cases c<;>simp[zA] at h
 grind
theorem strip_range {c x y:CC} {r:Nat} {L:List (List Bool)} {f:CO} {ps:List (List Bool)} (h:CC.rangeFunc r L f ps x y=zA c): ∃r' L' a b,c=.rangeFunc r' L' f ps a b∧x=zA a∧y=zA b:=by
 cases c<;>simp[zA] at h
 obtain⟨_,_,rfl,rfl,h1,h2⟩:=h
 grind
end
def zcm (l:Nat):List (Nat×CC)→Option CC
 | []=>none
 |x::r=>if x.1=l then some x.2 else zcm l r
theorem lookL_app (l:Nat): ∀(x y:List (Nat×CC)),zcm l (x++y)=match zcm l x with|some r=>some r|none=>zcm l y
 | [],y=>rfl
 |a::x,y=>by
  show(if a.1=l then _ else zcm l (x++y))=_
  rw[lookL_app l x y]
  grind [zcm]
theorem lookL_map (l:Nat) (f:CC→CC): ∀(x:List (Nat×CC)),zcm l (x.map fun y=>(y.1,f y.2))=(zcm l x).map f
 | []=>rfl
 |a::x=>by
  show(if a.1=l then _ else zcm l (x.map _))=_
  rw[lookL_map l f x]
  grind [zcm]
def LabR (P:Program) (N:Nat) (c:Code) (ls:List (Nat×CC)) (l:Nat):Prop:=match zcm l ls with
 |none=>findLabel c l=none
 |some r=> ∃rest,findLabel c l=some rest∧ze P N rest=some r
theorem zjZ {P:Program} {N:Nat}: ∀(c:Code) {ls:List (Nat×CC)},labC P N c=some ls→ ∀l,LabR P N c ls l
 |.label m,ls,h,l=>by
  cases h
  unfold LabR zcm
  by_cases e:m=l
  all_goals simp_all[findLabel,ze,zcm]
 |.seq a b,ls,h,l=>by
  obtain⟨la,ha,h⟩:=aof h
  obtain⟨lb,hb,h⟩:=aof h
  have ia:=zjZ a ha l
  have ib:=zjZ b hb l
  cases la with
  |nil=>
   cases h
   have ia:findLabel a l=none:=ia
   grind [LabR,findLabel]
  |cons x la=>
   obtain⟨cb,hcb,rfl⟩:=amf h
   unfold LabR at ia ib⊢
   rw[lookL_app,lookL_map l (fun r=>.seq r [] cb)]
   grind [findLabel,ze]
 |.skip,ls,h,l=>by cases h;simp[LabR,zcm,findLabel]
 |.region _ _ _,ls,h,l=>by cases h;simp[LabR,zcm,findLabel]
 |.cond _ _ _,ls,h,l=>by cases h;simp[LabR,zcm,findLabel]
 |.block _ _,ls,h,l=>by cases h;simp[LabR,zcm,findLabel]
 |.loop _,ls,h,l=>by cases h;simp[LabR,zcm,findLabel]
 |.rangeFunc _ _ _ _,ls,h,l=>by cases h;simp[LabR,zcm,findLabel]
 |.exit _,ls,h,l=>by cases h;simp[LabR,zcm,findLabel]
 |.ret,ls,h,l=>by cases h;simp[LabR,zcm,findLabel]
 |.scope _,ls,h,l=>by cases h;simp[LabR,zcm,findLabel]
 |.goto _,ls,h,l=>by cases h;simp[LabR,zcm,findLabel]
 |.refuse _,ls,h,l=>by cases h;simp[LabR,zcm,findLabel]
theorem zgA {P:Program} {N:Nat} {b:Code} {c:CC} (hc:ze P N (.scope b)=some c):(ze P N b=some c∧ ∀l,findLabel b l=none)∨c=zfk∨ ∃cb l1 r1 l2 r2,ze P N b=some cb∧c=.scope cb l1 r1 l2 r2∧
 (∃rest,findLabel b l1=some rest∧ze P N rest=some r1)∧(∃rest,findLabel b l2=some rest∧ze P N rest=some r2)∧ ∀l,l≠l1→l≠l2→findLabel b l=none:=by
 obtain⟨cb,hb,hc⟩:=aof (show(ze P N b).bind (fun c=>(labC P N b).map (scopeOf c))=some c from hc)
 obtain⟨ls,hl,rfl⟩:=amf hc
 have hs:=zjZ b hl
 match ls,hs with
 | [],hs=>exact .inl ⟨hb,fun l=>hs l⟩
 | [(l,r)],hs=>
   refine .inr (.inr ⟨cb,l,r,l,r,hb,rfl,?_,?_,fun m hm _=> ?_⟩)
   ·have:=hs l;grind [LabR,zcm]
   ·have:=hs l;grind [LabR,zcm]
   ·have:=hs m;grind [LabR,zcm]
 | [(l,r),(m,q)],hs=>
   show _∨(match Nat.beq l m with|true=>zfk|false=>CC.scope cb l r m q)=zfk∨_
   cases e:Nat.beq l m with
   |true=>grind
   |false=>
    have hne:l≠m:=fun h=>by simp_all
    refine .inr (.inr ⟨cb,l,r,m,q,hb,by simp[scopeOf,e],?_,?_,fun n h1 h2=> ?_⟩)
    ·have:=hs l;grind [LabR,zcm]
    ·have:=hs m;grind [LabR,zcm]
    ·have:=hs n;grind [LabR,zcm]
 |_::_::_::_,_=>exact .inr (.inl rfl)
theorem scope_sound {P:Program} {ih:IH} {M:Nat} (hih: ∀t o,ih t=some o→zdE P M t o) {b:CC} {l1:Nat} {r1:CC} {l2:Nat} {r2:CC} {s:za} {h:H} {o:Out} (hv:zdl ih b l1 r1 l2 r2 s h=some o):zdE P M (.scope b l1 r1 l2 r2 s h) o:=by
 intro body x N hx hlab r ρ a w Ds Db hR hN hs hr hd hD fb k cs hro hb hr'
 obtain⟨o1,h1,h2⟩:=aof hv
 obtain⟨e,a1,w1,hQ,harr⟩:=(hih _ _ h1 x N hx r ρ a w Ds Db hR hN hs hr hd hD).wpIn fb (.inScope body::k) cs hro hb hr'
 obtain⟨σ,Ds1,s1,hh1,he,hN1,hd1,⟨hD1,hds1⟩,hs1,hr1,hcase⟩:=hQ
 rcases hcase with⟨rfl,rfl⟩| ⟨i,rfl,rfl⟩| ⟨rfl,rfl⟩| ⟨pv,pv',rfl,hpv,rfl⟩
 ·cases h2
  have st:step P (lone (fb.atR a1 (.inScope body::k)) cs w1)=.next (lone (fb.atR a1 k) cs w1):=step_lone_go (by simp[stepG,stepG.exec,Frame.atR])
  exact⟨.normal,a1,w1,⟨σ,Ds1,s1,hh1,he,hN1,hd1,⟨hD1,hds1⟩,hs1,hr1,.inl ⟨rfl,rfl⟩⟩,StepsIn.trans harr (.one (fenced_calm hb hr' rfl) st)⟩
 ·have h2:zdk ih l1 r1 l2 r2 i s1 hh1=some o:=h2
  rcases zhq i with⟨j,rfl⟩| ⟨l,rfl⟩
  ·have e1:Nat.beq (2*j) (zcv l1)=false:=by
    grind [zcv,Nat.eq_of_beq_eq_true]
   have e2:Nat.beq (2*j) (zcv l2)=false:=by
    grind [zcv,Nat.eq_of_beq_eq_true]
   unfold zdk at h2
   rw[e1,e2] at h2
   cases h2
   rw[zcN] at harr
   have hx:exitTo j (.inScope body::k)=exitTo j k:=by simp[exitTo]
   exact⟨.exit j,a1,w1,⟨σ,Ds1,s1,hh1,he,hN1,hd1,⟨hD1,hds1⟩,hs1,hr1,.inr (.inl ⟨_,rfl,(zcN j).symm⟩)⟩,fun k' hk=>harr.1 k' (by grind),fun hr' hk=>let⟨k₁,h1,h2⟩:=harr.2 hr' (by grind);⟨k₁,h1,h2⟩⟩
  ·rw[zdu] at harr
   have hne: ∀{m:Nat},l≠m→Nat.beq (zcv l) (zcv m)=false:=by
    grind [zcv,Nat.eq_of_beq_eq_true]
   have jump: ∀{rc:CC} {rest:Code},findLabel body l=some rest→ze P N rest=some (zA rc)→ih (.scope rc l1 r1 l2 r2 s1 hh1)=some o→ ∃e a' w',zcY P ρ w N Ds Db o e a' w'∧ArrivesIn (Machine.fenced P (Wf r)) P (lone (fb.atR a (.code x:: .inScope body::k)) cs w) fb k cs e a' w':=by
    intro rc rest hf hcr hi
    have hg:gotoIn l (.inScope body::k)=some (.code rest:: .inScope body::k):=by simp[gotoIn,hf]
    obtain⟨e2,a2,w2,hQ2,harr2⟩:=hih _ _ hi body rest N hcr hlab r σ a1 w1 Ds1 Db (hR.ext he) hN1 hs1 hr1 hd1 hD1 fb k cs hro hb hr'
    exact⟨e2,a2,w2,hQ2.ext he hds1,.of_steps (harr.1 _ hg) harr2⟩
   by_cases hl1:l=l1
   ·subst hl1
    unfold zdk at h2
    rw[Nat.beq_refl] at h2
    obtain⟨rest,hf,hcr⟩:=hlab.1
    grind
   ·by_cases hl2:l=l2
    ·subst hl2
     unfold zdk at h2
     rw[hne hl1,Nat.beq_refl] at h2
     obtain⟨rest,hf,hcr⟩:=hlab.2.1
     grind
    ·unfold zdk at h2
     rw[hne hl1,hne hl2] at h2
     cases h2
     have hx:gotoIn l (.inScope body::k)=gotoIn l k:=by simp[gotoIn,hlab.2.2 l hl1 hl2]
     exact⟨.goto l,a1,w1,⟨σ,Ds1,s1,hh1,he,hN1,hd1,⟨hD1,hds1⟩,hs1,hr1,.inr (.inl ⟨_,rfl,(zdu l).symm⟩)⟩,fun k' hk=>harr.1 k' (by grind),fun hr' hk=>let⟨k₁,h1,h2⟩:=harr.2 hr' (by grind);⟨k₁,h1,h2⟩⟩
 ·cases h2
  exact⟨.ret,a1,w1,⟨σ,Ds1,s1,hh1,he,hN1,hd1,⟨hD1,hds1⟩,hs1,hr1,.inr (.inr (.inl ⟨rfl,rfl⟩))⟩,harr⟩
 ·cases h2
  exact⟨.panic (one pv'),a1,w1,⟨σ,Ds1,s1,hh1,he,hN1,hd1,⟨hD1,hds1⟩,hs1,hr1,.inr (.inr (.inr ⟨pv,pv',rfl,hpv,rfl⟩))⟩,harr⟩
theorem wpIn_inScope {P:Program} {F:Fence} {c:Code} {Q:Exit→Act→World→Prop} {a:Act} {w:World} (h:InScope F P c c Q a w):(Code.scope c).wpIn F 0 P Q a w:=by
 intro b k cs hro hb hr
 have h0:(lone (b.atR a (.code (.scope c)::k)) cs w).fenced P F:=fenced_calm hb hr rfl
 have s0:step P (lone (b.atR a (.code (.scope c)::k)) cs w)=.next (lone (b.atR a (.code c:: .inScope c::k)) cs w):=step_lone_go (by simp[stepG,stepG.exec,Frame.atR])
 obtain⟨e,a1,w1,hQ,harr⟩:=h b k cs hro hb hr
 exact⟨e,a1,w1,hQ,.of_steps (.one h0 s0) harr⟩
end Go.Ideal
namespace Go.Ideal
variable {P:Program}
section
variable {ρ:Rho} {h h':H} {w:World} {s:za} {a:Act}
theorem isFn_some {v u:Value} (h:isFn v=some u): ∃g x y,v=.func (.func g) x y∧u=v:=by
 unfold isFn at h
 grind
theorem zhj (hr:HR P ρ h w) {i:Nat} {R:RB} (hi:ρ i=some R) {st:LoopState} {pend:Option CC} {sl:za} {rc:RC} (hg:h.get i=some (.loop st pend sl rc)):
 ∃lp:Loop,w.heap[R.blk]? =some (.loop lp)∧lp.state=st∧PendR pend lp.pending∧SR ρ sl lp.tmps∧rc.ps=lp.params.toList.map bits∧(∀t∈lp.params.toList,t<lp.tmps.size)∧ze P lp.tmps.size lp.assign=some (zA rc.as)∧ze P lp.tmps.size lp.body=some (zA rc.b):=
 hr.obj i R _ hi hg
theorem loop_put (hr:HR P ρ h w) {i:Nat} {R:RB} (hi:ρ i=some R) {st:LoopState} {pend:Option CC} {sl:za} {rc:RC} (hg:h.get i=some (.loop st pend sl rc)) {lp lp':Loop}
 (hl:w.heap[R.blk]? =some (.loop lp)) {st':LoopState} {pend':Option CC} (h1:lp'.state=st') (h2:PendR pend' lp'.pending) (h3:lp'.tmps=lp.tmps) (h4:lp'.params=lp.params) (h5:lp'.assign=lp.assign) (h6:lp'.body=lp.body) (h7:lp'.defers=lp.defers):
 HR P ρ (h.put i (.loop st' pend' sl rc)) (w.putObj R.blk (.loop lp'))∧Ext ρ w ρ (w.putObj R.blk (.loop lp')):=by
 obtain⟨lp0,q0,q1,q2,q3,q4,q5,q6,q7⟩:=zhj hr hi hg
 rw[hl] at q0;cases q0
 have hblt:=hr.blk i R hi
 exact hr.putBoth hi hg (by simp) hl (fun r hr'=>by grind) (zhx _) (zhx _) (.inl nofun) ⟨lp',by grind,h1,h2,by grind,by grind,by grind,by grind,by grind⟩
theorem pend_wpIn {N:Nat} {Ds:List Nat} {Db:List Deferred} {o:Out} {pend:Option CC} {jump:Option Code} (hp:PendR pend jump) (ho:zkO s h pend=some o) {r:Option Nat} {Ds0:List Nat} {ρ0:Rho} {w0:World} (he:Ext ρ0 w0 ρ w) (hN:a.tmps.size=N) (hd:a.defers=Ds.map zC++Db) (hD:zR ρ w Ds)
 (hds: ∀D∈Ds,D∈Ds0∨w0.heap.size≤D) (hs:SR ρ s a.tmps) (hr:HR P ρ h w):
 (match(generalizing:=false) jump with|none=>zcY P ρ0 w0 N Ds0 Db o .normal a w|some c=>c.wpIn (Wf r) 0 P (zcY P ρ0 w0 N Ds0 Db o) a w):=by
 unfold zkO at ho
 split at ho
 ·cases ho
  cases jump with
  |none=>exact⟨ρ,Ds,s,h,he,hN,hd,⟨hD,hds⟩,hs,hr,.inl ⟨rfl,rfl⟩⟩
  |some c=>cases c<;>exact hp.elim
 ·cases ho
  cases jump with
  |none=>exact hp.elim
  |some c=>cases c<;>first|exact hp.elim|exact wpIn_ret ⟨ρ,Ds,s,h,he,hN,hd,⟨hD,hds⟩,hs,hr,.inr (.inr (.inl ⟨rfl,rfl⟩))⟩
 ·cases ho
  cases jump with
  |none=>exact hp.elim
  |some c=>
   have hp:c=coOf _:=hp
   subst hp
   rename_i i
   rcases zhq i with⟨j,rfl⟩| ⟨l,rfl⟩
   ·rw[coOf_even];exact wpIn_exit ⟨ρ,Ds,s,h,he,hN,hd,⟨hD,hds⟩,hs,hr,.inr (.inl ⟨_,rfl,(zcN j).symm⟩)⟩
   ·rw[coOf_goto];exact wpIn_goto ⟨ρ,Ds,s,h,he,hN,hd,⟨hD,hds⟩,hs,hr,.inr (.inl ⟨_,rfl,(zdu l).symm⟩)⟩
 grind
theorem range_sound {ih:IH} {M:Nat} (hih: ∀t o,ih t=some o→zdE P M t o) {N:Nat} {f:Operand} {ps:Array Tmp} {as b:Code} {cf:CO} {cas cb:CC} (hps:ps.toList.all (· <N)=true) (hf:co f=some cf) (has:ze P N as=some (zA cas)) (hb:ze P N b=some (zA cb)) {rid:Nat} {L:List (List Bool)}
 {o:Out} (hv:sRange rid L cf (ps.toList.map bits) cas cb ih s h=some o) {r:Option Nat} {Ds:List Nat} {Db:List Deferred} (hR:ze9 r w) (hN:a.tmps.size=N) (hs:SR ρ s a.tmps) (hr:HR P ρ h w) (hd:a.defers=Ds.map zC++Db) (hD:zR ρ w Ds):
 (Code.rangeFunc f ps as b).wpIn (Wf r) 0 P (zcY P ρ w N Ds Db o) a w:=by
 obtain⟨u,hu,hv1⟩:=aof hv
 obtain⟨u',hfn,hv2⟩:=aof hv1
 obtain⟨o1,ho1,hv3⟩:=aof hv2
 obtain⟨⟨v1,h1⟩,hval,hv4⟩:=aof hv3
 obtain⟨lo,hlo,hv5⟩:=aof hv4
 clear hv hv1 hv2 hv3 hv4
 obtain⟨g,first,captured,rfl,rfl⟩:=isFn_some hfn
 obtain⟨v0,h0,rfl⟩: ∃v0 h0,o1=.val v0 h0:=by cases o1<;>first|exact⟨_,_,rfl⟩|grind [zhL]
 simp only[zhL,Option.some.injEq,Prod.mk.injEq] at hval
 obtain⟨rfl,rfl⟩:=hval
 have rf:=zbg hf hs hu
 obtain⟨first',captured',hfe⟩: ∃x y,a.eval f=.func (.func g) x y:=by
  generalize a.eval f=y at rf;cases rf;grind
 rw[hfe] at rf
 refine wpIn_rangeFunc ?_
 intro fn _
 have enter: ∃(l:Nat) (mark:List Deferred) (Dn:List Nat) (w1:World) (σ:Rho) (R:RB),(Instr.enterLoop fn a.tmps ps as b (Wf r).round).run P w=.ok (l,mark) w1∧mark=Dn.map zC∧(∀D∈Dn,w.heap.size≤D)∧
  R.blk=l∧σ h.next=some R∧HR P σ (h.new (.loop .ready none (zb5 L s) ⟨rid,L,ps.toList.map bits,cas,cb⟩)) w1∧Ext ρ w σ w1∧zR σ w1 (Dn++Ds):=by
  have hor: ∀(w0:World) (σ:Rho) (R:RB) (dd:Nat),R.blk=w0.heap.size→SR σ s a.tmps→OR P σ (w0.alloc (.loop {state:=.ready,pending:=none,fn,tmps:=a.tmps,params:=ps,assign:=as,body:=b,defers:=dd})) R (.loop .ready none (zb5 L s) ⟨rid,L,ps.toList.map bits,cas,cb⟩):=by
   intro w0 σ R dd hR hs
   refine⟨{state:=.ready,pending:=none,fn,tmps:=a.tmps,params:=ps,assign:=as,body:=b,defers:=dd},by grind [zbS],rfl,trivial,hs.keep L,rfl,fun t ht=> ?_,by grind,by grind⟩
   grind
  rw[Wf_round]
  cases r with
  |none=>
   obtain⟨g1,g2⟩:=hr.garbage (o:=.deferred (some [])) (zbh _)
   have hfree:=(hr.nxt _ (Nat.le_refl _)).1
   obtain⟨k1,k2⟩:=g1.new (R:=⟨(w.alloc (.deferred (some []))).heap.size,0,0,0,0,none⟩) (io:=.loop .ready none (zb5 L s) ⟨rid,L,ps.toList.map bits,cas,cb⟩) rfl (zhx _) (hor _ _ _ w.heap.size rfl (hs.mono (zdF _ hfree)))
   refine⟨_,_,[w.heap.size],_,_,_,run_enterLoop_outer fn a.tmps ps as b,rfl,by simp,by simp,zH _ _ _,k1,g2.trans k2,?_⟩
   have hD1:zR ρ (w.alloc (.deferred (some []))) (w.heap.size::Ds):=by
    have hD':=hD.ext g2
    refine⟨List.nodup_cons.2 ⟨fun hm=>by have:=(hD.ok _ hm).1;omega,hD.nodup⟩,fun D hm=> ?_⟩
    rcases List.mem_cons.1 hm with rfl|hm
    ·exact⟨by simp,fun i R hi e=>by have:=hr.blk i R hi;omega,zbS _ _⟩
    ·exact hD'.ok D hm
   exact hD1.ext k2
  |some l0=>
   obtain⟨lp,hlp⟩:=hR l0 rfl
   have hfree:=(hr.nxt _ (Nat.le_refl _)).1
   obtain⟨k1,k2⟩:=hr.new (R:=⟨w.heap.size,0,0,0,0,none⟩) (io:=.loop .ready none (zb5 L s) ⟨rid,L,ps.toList.map bits,cas,cb⟩) rfl (zhx _) (hor _ _ _ lp.defers rfl (hs.mono (zdF _ hfree)))
   refine⟨w.heap.size,[],[],_,_,_,?_,rfl,by simp,rfl,zH _ _ _,k1,k2,hD.ext k2⟩
   simp_all[Instr.enterLoop,run_getLoop]
 obtain⟨l,mark,Dn,w1,σ,R,e1,rfl,e2,rfl,e4,e5,e6,e7⟩:=enter
 have hcall:=hih _ _ ho1 σ (.func (.func g) first' captured') #[.func (.yield R.blk) #[] #[]] w1 (rf.mono e6.le) (.cons (.yield e4) (.nil _)) e5
 obtain⟨hcalls,henter⟩:=hcall
 refine⟨R.blk,Dn.map zC,w1,{target:=.fn (.func g) captured',args:=first'++ #[.func (.yield R.blk) #[] #[]]},w1,g,first'++ #[.func (.yield R.blk) #[] #[]]++captured',w1,e1,?_,fun f' _=>Wf_fn r f',?_,(fun h=>by grind [zje]),?_⟩
 ·have hy:a.eval (.const (.func (.yield R.blk) #[] #[]))=.func (.yield R.blk) #[] #[]:=rfl
  simp_all[resolve,Deferred.ofValue]
 ·grind [invoke]
 ·refine(zko r hcalls).mono ?_
  intro e w3 hpp
  obtain⟨v3,h3,v',τ,eo,rfl,q1,q2,q3⟩:=hpp.val
  cases eo
  have hi:τ h.next=some R:=q3.le _ _ e4
  have fin: ∀{st:LoopState} {pend:Option CC} {sl:za} {rc:RC},st≠ .busy→h0.get h.next=some (IObj.loop st pend sl rc)→zkO s (h0.put h.next (IObj.loop .exhausted pend sl rc)) pend=some o→
   rangePost (Wf r) 0 P R.blk (zcY P ρ w N Ds Db o) {a with defers:=Dn.map zC++a.defers} (.returned v') w3:=by
   intro st pend sl rc hst hg hpk
   obtain⟨lp,p0,p1,p2,p3⟩:=zhj q2 hi hg
   obtain⟨g1,g2⟩:=loop_put q2 hi hg p0 (lp':={lp with state:=.exhausted}) (st':=.exhausted) (pend':=pend) rfl p2 rfl rfl rfl rfl rfl
   refine⟨lp.pending,_,run_endLoop p0 (by grind),?_⟩
   have hE:Ext ρ w τ (w3.putObj R.blk (.loop {lp with state:=.exhausted})):=(e6.trans q3).trans g2
   exact pend_wpIn (a:={a with defers:=Dn.map zC++a.defers}) (Ds:=Dn++Ds) p2 hpk hE hN (by grind) ((e7.ext q3).ext g2) (fun D hm=>(List.mem_append.1 hm).elim (fun h=>.inr (e2 D h)) .inl) (hs.mono hE.le) g1
  cases lo with
  |loop st pend sl rc=>
   cases st<;>simp only[zfX,reduceCtorEq] at hv5
   all_goals grind
  |cells _ _=>cases hv5
  |map _ _=>cases hv5
  |dead=>cases hv5
  |glob _ _=>cases hv5
theorem argSlots_cons (v:Value) (l:List Value) (i:Nat) (s:za):zbB (v::l) i s=zbB l (i+1) (s.set (bits i) v):=rfl
theorem ziI: ∀(l:List Value) (i:Nat) (s:za) (t:Nat) (v:Value),(zbB l i s).get (bits t)=some v→(i≤t∧l[t - i]? =some v)∨(s.get (bits t)=some v∧ ¬(i≤t∧t<i+l.length))
 | [],i,s,t,v,h=>.inr ⟨h,by simp⟩
 |x::l,i,s,t,v,h=>by
  rw[argSlots_cons] at h
  rcases ziI l (i+1) _ t v h with⟨h1,h2⟩| ⟨h1,h2⟩
  all_goals grind [PT.get_set_bits]
theorem args_SR {ρ:Rho} {l:List Value} {args:Array Value} (hv:VRL ρ l args.toList) (m:Nat):SR ρ (zbB l 0 .nil) (args++Array.replicate m undef):=by
 intro t v h
 rcases ziI l 0 .nil t v h with⟨_,h2⟩| ⟨h2,_⟩
 ·rw[Nat.sub_zero] at h2
  obtain⟨v',hv',hr⟩:=hv.get h2
  grind
 simp_all
theorem setSlots_nil (vs:List Value) (s:za):zfV [] vs s=match vs with| []=>some s|_::_=>none:=rfl
theorem setSlots_cons (p:List Bool) (ps:List (List Bool)) (vs:List Value) (s:za):zfV (p::ps) vs s=match vs with| []=>none|v::vs=>zfV ps vs (s.set p v):=rfl
theorem zjw {ρ:Rho}: ∀(ps:List Tmp) (vs:List Value) (ws:List Value) (s s':za) (tmps:Array Value),zfV (ps.map bits) vs s=some s'→VRL ρ vs ws→SR ρ s tmps→(∀t∈ps,t<tmps.size)→
 vs.length=ps.length∧SR ρ s' ((ps.zip ws).foldl (fun tmps (p:Tmp×Value)=>tmps.setIfInBounds p.1 p.2) tmps)∧((ps.zip ws).foldl (fun tmps (p:Tmp×Value)=>tmps.setIfInBounds p.1 p.2) tmps).size=tmps.size
 | [],vs,ws,s,s',tmps,h,hv,hs,hl=>by
   rw[List.map_nil,setSlots_nil] at h
   cases vs with
   |nil=>simp_all
   |cons v vs=>cases h
 |p::ps,vs,ws,s,s',tmps,h,hv,hs,hl=>by
  rw[List.map_cons,setSlots_cons] at h
  cases vs with
  |nil=>cases h
  |cons v vs=>
   obtain⟨y,ys,rfl,h1,h2⟩:=hv.cons_left
   obtain⟨q1,q2,q3⟩:=zjw ps vs ys _ s' (tmps.setIfInBounds p y) h h2 (hs.set (hl p (by simp)) h1) (fun t ht=>by grind)
   simp_all
theorem asAddr_run {ρ:Rho} {v:Value} {ad:Addr} (hp:zgD v=some ad) {v':Value} (hv:VR ρ v v') (w:World): ∃R,ρ ad.block=some R∧(asAddr v').run P w=.ok ⟨R.blk,R.base+ad.off,none⟩ w:=by
 obtain rfl:=zee hp
 obtain⟨R,hR,rfl⟩:=hv.inv_ptr
 simp_all[asAddr]
theorem zjJ {fn:Func} {rs:List CR} (hc:allO (zbf P) fn.results.toList=some rs) {ρ:Rho} {h:H} {w:World} {s:za} {tmps:Array Value} (hr:HR P ρ h w) (hs:SR ρ s tmps) {o:Out} (ho:ziN rs s h=some o):
 ∃v v',o=.val v h∧(results fn tmps).run P w=.ok v' w∧VR ρ v v':=by
 obtain⟨vs,hvs,rfl⟩:=amf ho
 have key: ∀(xs:List ResultVar) (rs:List CR) (vs:List Value),allO (zbf P) xs=some rs→allO (resV s h) rs=some vs→
  ∃ws,VRL ρ vs ws∧ ∀f:ResultVar→Sem Value,(∀t,f (.tmp t)=pure (tmps.getD t undef))→(∀a t,f (.cell a t)=do loadVar t (←asAddr (tmps.getD a undef)))→(xs.mapM f).run P w=.ok ws w:=by
  intro xs
  induction xs with
  |nil=>intro rs vs h1 h2;cases h1;cases h2;exact⟨[],.nil _,fun f _ _=>by simp⟩
  |cons x xs ih=>
   intro rs vs h1 h2
   obtain⟨c,hcx,h1⟩:=aof h1
   obtain⟨cs,hcs,rfl⟩:=amf h1
   obtain⟨u,hu,h2⟩:=aof h2
   obtain⟨us,hus,rfl⟩:=amf h2
   obtain⟨ws,hw1,hw2⟩:=ih cs us hcs hus
   cases x with
   |tmp t=>
    cases hcx
    obtain⟨u',hu',hr'⟩:=hs t u hu
    exact⟨u'::ws,.cons hr' hw1,fun f f1 f2=>by simp_all⟩
   |cell a t=>
    obtain⟨n,hn,rfl⟩:=amf hcx
    obtain⟨p,hp,hu⟩:=aof hu
    obtain⟨ad,had,hu⟩:=aof hu
    obtain⟨p',hp',hrp⟩:=hs a p hp
    obtain⟨R,hR,hrun⟩:=asAddr_run (P:=P) had hrp w
    cases n with
    |some n=>
     obtain⟨l,hl,rfl⟩:=amf hu
     obtain⟨v',hv',hlv⟩:=loadVarN hr hn hR hl
     exact⟨v'::ws,.cons hv' hw1,fun f f1 f2=>by simp_all⟩
    |none=>
     obtain⟨l,hl,hone⟩:=aof hu
     obtain⟨v',hv',hlv⟩:=loadVar1 hr hn hR hl hone
     exact⟨v'::ws,.cons hv' hw1,fun f f1 f2=>by simp_all⟩
 obtain⟨ws,h1,h2⟩:=key _ _ _ hc hvs
 have hm: ∀f:ResultVar→Sem Value,(∀t,f (.tmp t)=pure (tmps.getD t undef))→(∀a t,f (.cell a t)=do loadVar t (←asAddr (tmps.getD a undef)))→(fn.results.mapM f).run P w=.ok ⟨ws⟩ w:=by
  grind [Array.mapM_eq_mapM_toList,Sem.run_map,Result.andThen_ok]
 refine⟨zhM vs,if h:ws.length=1 then ws[0] else .tuple ⟨ws⟩,rfl,?_,?_⟩
 ·simp_all[results]
 ·by_cases e:ws.length=1
  ·match ws,e with
   | [y],_=>
     match vs,h1 with
     | [x],h1=>simpa[zhM] using h1.head
  ·rw[dif_neg e]
   have:vs.length≠1:=by rw[h1.1];exact e
   have ht:zhM vs=.tuple ⟨vs⟩:=by
    match vs,this with
    | [],_=>rfl
    |_::_::_,_=>rfl
   grind [VR.tuple_of]
end
end Go.Ideal
namespace Go.Ideal
variable {P:Program}
theorem eqAddr_eq {a b:Addr} (h:zhu a b=true):a=b:=by
 obtain⟨a1,a2,a3⟩:=a;obtain⟨b1,b2,b3⟩:=b
 grind [zhu,Option.isNone_iff_eq_none,Nat.eq_of_beq_eq_true]
theorem zht {a b:Value} (h:zgm a b=true):a=b:=by
 unfold zgm at h
 split at h
 ·grind
 ·grind [zhs]
 ·rename_i s t
  have:=zew h
  obtain⟨⟨s⟩⟩:=s;simp_all
 all_goals grind [eqAddr_eq,Nat.eq_of_beq_eq_true]
theorem zlC: ∀{a b:List Value},zib a b=true→a=b
 | [],[],_=>rfl
 |x::a,y::b,h=>by
  simp only[zib,Bool.and_eq_true] at h
  rw[zlC h.2,zht h.1]
 | [],_::_,h=>by cases h
 |_::_,[],h=>by cases h
theorem eqVal1_eq {a b:Value} (h:zkh a b=true):a=b:=by
 unfold zkh at h
 grind [Array.toList_inj,zlC,zht]
theorem eqVals_eq: ∀{a b:List Value},zlA a b=true→a=b
 | [],[],_=>rfl
 |x::a,y::b,h=>by
  simp only[zlA,Bool.and_eq_true] at h
  rw[eqVals_eq h.2,eqVal1_eq h.1]
 | [],_::_,h=>by cases h
 |_::_,[],h=>by cases h
theorem eqVal_eq {a b:Value} (h:eqVal a b=true):a=b:=by
 unfold eqVal at h
 grind [Array.toList_inj,eqVals_eq,eqVal1_eq]
theorem zeC: ∀(l:List Bool),beqP l l=true
 | []=>rfl
 |a::l=>by simp[beqP,zeC l]
def zbi (ps:List (List Bool)) (s s':za):Prop:= ∀p∈ps,s.get p=s'.get p
theorem zbi.left {ps qs:List (List Bool)} {s s':za} (h:zbi (ps++qs) s s'):zbi ps s s':=fun p hp=>h p (List.mem_append_left _ hp)
theorem zbi.right {ps qs:List (List Bool)} {s s':za} (h:zbi (ps++qs) s s'):zbi qs s s':=fun p hp=>h p (List.mem_append_right _ hp)
theorem zbi.keep {ps qs:List (List Bool)} (s:za) (h: ∀p∈ps,p∈qs):zbi ps s (zci qs s):=fun p hp=>by grind [zcM]
theorem zi {s s':za} {x:CO} (h:zbi (zh x) s s'):x.ev s=x.ev s':=by
 cases x with
 |t p=>exact h p (by simp[zh])
 |c v=>rfl
theorem zfD {s s':za} {x:Option CO} (h:zbi (zdX x) s s'):evO s x=evO s' x:=by
 cases x with
 |none=>rfl
 |some x=>simp only[evO];rw[zi h]
theorem zcO {s s':za}: ∀{l:List CO},zbi (l.flatMap zh) s s'→evL s l=evL s' l
 | [],_=>rfl
 |x::l,h=>by
  rw[List.flatMap_cons] at h
  rw[evL_cons,evL_cons,zi h.left,zcO h.right]
theorem zhr {s s':za}: ∀{l:List (Nat×Nat×CO)},zbi (l.flatMap fun p=>zh p.2.2) s s'→ze3 s l=ze3 s' l
 | [],_=>rfl
 | (o,n,x)::l,h=>by
   rw[List.flatMap_cons] at h
   simp only[ze3]
   rw[zi h.left,zhr h.right]
theorem zgk {s s':za} (sz:Nat): ∀{l:List (Nat×CO)},zbi (l.flatMap fun p=>zh p.2) s s'→zcJ s sz l=zcJ s' sz l
 | [],_=>rfl
 | (o,x)::l,h=>by
   rw[List.flatMap_cons] at h
   simp only[zcJ]
   rw[zi h.left,zgk sz h.right]
theorem zef {op:COp} {s s':za} (h:zbi (zf op) s s') (hp:H):opV op s hp=opV op s' hp:=by
 cases op with
 |mv x=>show bMv _ _ _=bMv _ _ _;unfold bMv;rw[zi h]
 |pick c a b=>
  show bPick _ _ _ _ _=bPick _ _ _ _ _;unfold bPick
  have h1:=h.left.left;have h2:=h.left.right;have h3:=h.right
  rw[zi h1]
  have e:zkN a b s hp=zkN a b s' hp:=by funext v;unfold zkN;grind [zi]
  rw[e]
 |alloc z=>rfl
 |box x=>show bBox _ _ _=bBox _ _ _;unfold bBox;rw[zi h]
 |build z ps=>show zkz _ _ _ _=zkz _ _ _ _;unfold zkz;rw[zhr h]
 |buildSlice n sz z ps=>show zcH _ _ _ _ _ _=zcH _ _ _ _ _ _;unfold zcH;rw[zgk sz h]
 |load1 a=>show zky _ _ _=zky _ _ _;unfold zky;rw[zi h]
 |loadN n a=>show zkx _ _ _ _=zkx _ _ _ _;unfold zkx;rw[zi h]
 |store n a x=>show zkv _ _ _ _ _=zkv _ _ _ _ _;unfold zkv;rw[zi h.left,zi h.right]
 |nilCheck x=>show zdy _ _ _=zdy _ _ _;unfold zdy;rw[zi h]
 |bin op ek x y=>show bBin _ _ _ _ _ _=bBin _ _ _ _ _ _;unfold bBin;rw[zi h.left,zi h.right]
 |un op x=>show bUn _ _ _ _=bUn _ _ _ _;unfold bUn;rw[zi h]
 |conv k x=>show bConv _ _ _ _=bConv _ _ _ _;unfold bConv;rw[zi h]
 |makeFunc fn a b=>show zdz _ _ _ _ _=zdz _ _ _ _ _;unfold zdz;rw[zcO h.left,zcO h.right]
 |makeMap=>rfl
 |makeSlice sz bt z l c=>show zdg sz bt z l c s hp=zdg sz bt z l c s' hp;unfold zdg;rw[zi h.left,zi h.right]
 |slice sz x lo hi=>show zkw _ _ _ _ _ _=zkw _ _ _ _ _ _;unfold zkw;rw[zi h.left.left,zfD h.left.right,zfD h.right]
 |fieldAddr o x=>show zcG _ _ _ _=zcG _ _ _ _;unfold zcG;rw[zi h]
 |indexAddr sz x i=>show zcF _ _ _ _ _=zcF _ _ _ _ _;unfold zcF;rw[zi h.left,zi h.right]
 |indexArr n sz x i=>show zdA _ _ _ _ _ _=zdA _ _ _ _ _ _;unfold zdA;rw[zi h.left,zi h.right]
 |lookup kk z ok x i=>show zgU _ _ _ _ _ _ _=zgU _ _ _ _ _ _ _;unfold zgU;rw[zi h.left,zi h.right]
 |mapUpdate kk m k x=>show zeD _ _ _ _ _ _=zeD _ _ _ _ _ _;unfold zeD;rw[zi h.left.left,zi h.left.right,zi h.right]
 |extract x i=>show ze6 _ _ _ _=ze6 _ _ _ _;unfold ze6;rw[zi h]
 |call f as=>rfl
 |blt b as=>show bBlt _ _ _ _=bBlt _ _ _ _;unfold bBlt;rw[zcO h]
 |slice3 sz x lo hi mx=>show zgT _ _ _ _ _ _ _=zgT _ _ _ _ _ _ _;unfold zgT;rw[zi h.left,zfD h.right.left,zi h.right.right.left,zi h.right.right.right]
 |fld o n x=>show bFld _ _ _ _ _=bFld _ _ _ _ _;unfold bFld;rw[zi h]
 |strIdx x i=>show zgS _ _ _ _=zgS _ _ _ _;unfold zgS;rw[zi h.left,zi h.right]
 |panic x=>rfl
 |recov=>rfl
 |invoke tbl x as=>rfl
 |strSlice x lo hi=>show zdx _ _ _ _ _=zdx _ _ _ _ _;unfold zdx;rw[zi h.left.left,zfD h.left.right,zfD h.right]
 |mkI t x=>show bMkI _ _ _ _=bMkI _ _ _ _;unfold bMkI;rw[zi h]
 |assertT t z ok x=>show ze7 _ _ _ _ _ _=ze7 _ _ _ _ _ _;unfold ze7;rw[zi h]
 |stuck=>rfl
 |s2b x=>show bS2b _ _ _=bS2b _ _ _;unfold bS2b;rw[zi h]
 |b2s x=>show bB2s _ _ _=bB2s _ _ _;unfold bB2s;rw[zi h]
theorem doOp_agree {ih:IH} {op:COp} {s s':za} (h:zbi (zf op) s s') (hp:H):doOp ih op s hp=doOp ih op s' hp:=by
 have plain:=zef h hp
 cases op
 case call f as=>
  show zgr _ _ _ _ _=zgr _ _ _ _ _
  unfold zgr
  rw[zi (x:=f) h.left,zcO (l:=as) h.right]
 case invoke tbl x as=>
  show zkT _ _ _ _ _ _=zkT _ _ _ _ _ _
  unfold zkT
  rw[zi (x:=x) h.left,zcO (l:=as) h.right]
 all_goals exact plain
theorem zfi {g:Option (List Bool×Bool)} {s s':za} (h:zbi (zdf g) s s'):zbb g s=zbb g s':=by
 cases g with
 |none=>rfl
 |some g=>obtain⟨p,b⟩:=g;simp only[zbb];rw[h p (by simp[zdf])]
theorem zfs {op:COp} (h:isW op=false):zZ op=.pure∨zZ op=.alloc:=by
 cases op<;>simp[isW,zZ] at h⊢
 grind
theorem zkQ {ih:IH} {op:COp} (h:isW op=false) (s:za) (hp:H):doOp ih op s hp=opV op s hp:=by
 cases op<;>first|rfl|grind [isW]
theorem zh9 {op:COp} {s:za} {n m:Nat} (hf:ze1 op s n m=true) {h h':H} {v:Value} (hv:opV op s h=some (v,h')):
 h'=h∧ ∃i,n≤i∧i<m∧((∀g:H,opV op s g=some (v,g))∨ ∃cs e,h.get i=some (.cells cs e)∧ ∀g:H,g.get i=some (.cells cs e)→opV op s g=some (v,g)):=by
 cases op<;>simp only[ze1,Bool.false_eq_true] at hf
 case b2s x=>
  split at hf
  ·rename_i a k c hx
   have hv:((x.ev s).bind fun v=>(b2sV h v).map (·,h))=some (v,h'):=hv
   have ex: ∀g:H,opV (.b2s x) s g=((x.ev s).bind fun v=>(b2sV g v).map (·,g)):=fun g=>rfl
   simp only[ex,hx,Option.bind_some] at hv⊢
   obtain⟨z,hz,e⟩:=amf hv;cases e
   rw[Bool.and_eq_true] at hf
   refine⟨rfl,a.block,Nat.le_of_ble_eq_true hf.1,by simp_all,?_⟩
   simp only[b2sV] at hz⊢
   split at hz
   ·grind
   ·rename_i h0
    obtain⟨l,hl,hz⟩:=aof hz
    grind [zhW,H.readN]
  grind
theorem zhV {op:COp} (hr:isRd op=true) {s:za} {n:Nat} {m:PT IObj} {v:Value} {h':H} (h:opV op s ⟨n,m⟩=some (v,h')):
 h'=⟨n,m⟩∧ ∀n',opV op s ⟨n',m⟩=some (v,⟨n',m⟩):=by
 cases op<;>simp only[isRd,Bool.false_eq_true] at hr
 case load1 a=>
  obtain⟨u,hu,h⟩:=aof h;obtain⟨ad,ha,h⟩:=aof h;obtain⟨l,hl,h⟩:=aof h;obtain⟨x,hx,e⟩:=amf h
  cases e
  refine⟨rfl,fun n'=> ?_⟩
  show zky _ _ _=_
  unfold zky
  have hl':H.readN ⟨n',m⟩ ad.block ad.off 1=some l:=hl
  grind
 case loadN k a=>
  obtain⟨u,hu,h⟩:=aof h;obtain⟨ad,ha,h⟩:=aof h;obtain⟨l,hl,e⟩:=amf h
  cases e
  refine⟨rfl,fun n'=> ?_⟩
  show zkx _ _ _ _=_
  unfold zkx
  have hl':H.readN ⟨n',m⟩ ad.block ad.off k=some l:=hl
  grind
 case b2s x=>
  obtain⟨u,hu,h⟩:=aof h;obtain⟨r,hb,e⟩:=amf h
  cases e
  refine⟨rfl,fun n'=> ?_⟩
  show bB2s _ _ _=_
  unfold bB2s
  have hb':b2sV ⟨n',m⟩ u=some v:=hb
  grind
 case lookup kk z ok x i=>
  obtain⟨u,hu,h⟩:=aof h;obtain⟨k,hk,h⟩:=aof h;obtain⟨b,hb,h⟩:=aof h;obtain⟨es,hes,h⟩:=aof h;obtain⟨r,hr,e⟩:=amf h
  cases e
  refine⟨rfl,fun n'=> ?_⟩
  show zgU _ _ _ _ _ _ _=_
  unfold zgU
  have hes':zdw ⟨n',m⟩ u=some es:=hes
  grind
 case slice3 sz x lo hi mx=>
  obtain⟨u,hu,h⟩:=aof h;obtain⟨l,hlo,h⟩:=aof h;obtain⟨r,hhi,h⟩:=aof h;obtain⟨y,hmx,h⟩:=aof h
  have key:h'=⟨n,m⟩∧ ∀n',zeH sz ⟨n',m⟩ l r y u=some (v,⟨n',m⟩):=by
   unfold zeH at h⊢
   split at h
   ·rename_i base len cap
    split at h
    ·rename_i hc
     obtain⟨a,ha,h⟩:=aof h;obtain⟨o,ho,h⟩:=aof h
     cases o with
     |cells cs esz=>
      simp only[zec] at h
      split at h
      ·rename_i hz
       obtain⟨q0,e0,h⟩:=aof h
       split at h
       ·rename_i hz2
        obtain⟨q1,e1,h⟩:=aof h
        obtain⟨q2,e2,h⟩:=amf h
        grind [H.get,zec]
       grind
      grind
     |map _ _=>cases h
     |loop _ _ _ _=>cases h
     |dead=>cases h
     |glob _ _=>cases h
    ·rename_i hc
     obtain⟨q0,e0,h⟩:=aof h
     obtain⟨q1,e1,h⟩:=aof h
     obtain⟨q2,e2,h⟩:=amf h
     grind
   grind
  refine⟨key.1,fun n'=> ?_⟩
  show zgT _ _ _ _ _ _ _=_
  grind [zgT]
 case slice sz x lo hi=>
  obtain⟨u,hu,h⟩:=aof h;obtain⟨l,hlo,h⟩:=aof h;obtain⟨r,hhi,h⟩:=aof h
  have key:h'=⟨n,m⟩∧ ∀n',zfa sz ⟨n',m⟩ l r u=some (v,⟨n',m⟩):=by
   unfold zfa at h⊢
   split at h
   ·rename_i base len cap
    split at h
    ·rename_i hc
     obtain⟨a,ha,h⟩:=aof h;obtain⟨o,ho,h⟩:=aof h
     cases o with
     |cells cs esz=>
      simp only[zdi] at h
      split at h
      ·rename_i hz
       obtain⟨q1,e1,h⟩:=aof h
       obtain⟨q2,e2,h⟩:=amf h
       grind [H.get,zdi]
      grind
     |map _ _=>cases h
     |loop _ _ _ _=>cases h
     |dead=>cases h
     |glob _ _=>cases h
    ·rename_i hc
     obtain⟨q1,e1,h⟩:=aof h
     obtain⟨q2,e2,h⟩:=amf h
     grind
   grind
  refine⟨key.1,fun n'=> ?_⟩
  show zkw _ _ _ _ _ _=_
  grind [zkw]
 case blt b as=>
  cases b<;>simp only[isRd,Bool.false_eq_true] at hr
  obtain⟨l,hl,h⟩:=aof h
  have key:h'=⟨n,m⟩∧ ∀n',bltV ⟨n',m⟩ .lenMap l=some (v,⟨n',m⟩):=by
   match l with
   | []=>cases h
   | [.map none]=>cases h;exact⟨rfl,fun _=>rfl⟩
   | [.map (some r)]=>
     simp only[bltV] at h⊢
     cases hg:H.get ⟨n,m⟩ r with
     |none=>grind
     |some o=>
      rw[hg] at h
      cases o with
      |map es c=>
       grind [H.get]
      |cells _ _=>cases h
      |loop _ _ _ _=>cases h
      |dead=>cases h
      |glob _ _=>cases h
   |.bool _::_=>cases h
   |.int _ _::_=>cases h
   |.float _ _::_=>cases h
   |.complex _ _ _::_=>cases h
   |.string _::_=>cases h
   |.pointer _::_=>cases h
   |.slice _ _ _::_=>cases h
   |.chan _::_=>cases h
   |.func _ _ _::_=>cases h
   |.nilFunc::_=>cases h
   |.iface _ _::_=>cases h
   |.nilIface::_=>cases h
   |.agg _::_=>cases h
   |.tuple _::_=>cases h
   |.map none::_::_=>cases h
   |.map (some _)::_::_=>cases h
  refine⟨key.1,fun n'=> ?_⟩
  show bBlt _ _ _ _=_
  grind [bBlt]
theorem zdb {op:COp} (hw:isW op=false) (hr:isRd op=false) (hc:zZ op=.pure) {s:za} {h:H} {v:Value} {h':H} (hv:opV op s h=some (v,h')):
 h'=h∧ ∀g,opV op s g=some (v,g):=by
 cases op<;>simp only[isW,isRd,zZ,reduceCtorEq] at hw hr hc
 case mv x=>obtain⟨u,hu,e⟩:=amf hv;cases e;exact⟨rfl,fun g=>by show bMv _ _ _=_;grind [bMv]⟩
 case pick c a b=>
  obtain⟨u,hu,hv⟩:=aof hv
  unfold zkN at hv
  split at hv
  ·obtain⟨x,hx,e⟩:=amf hv;cases e
   exact⟨rfl,fun g=>by show bPick _ _ _ _ _=_;grind [bPick,zkN]⟩
  ·obtain⟨x,hx,e⟩:=amf hv;cases e
   exact⟨rfl,fun g=>by show bPick _ _ _ _ _=_;grind [bPick,zkN]⟩
  grind
 case build z ps=>obtain⟨u,hu,hv⟩:=aof hv;obtain⟨x,hx,e⟩:=amf hv;cases e;exact⟨rfl,fun g=>by show zkz _ _ _ _=_;grind [zkz]⟩
 case nilCheck x=>obtain⟨u,hu,hv⟩:=aof hv;obtain⟨x,hx,e⟩:=amf hv;cases e;exact⟨rfl,fun g=>by show zdy _ _ _=_;grind [zdy]⟩
 case bin op ek x y=>obtain⟨u,hu,hv⟩:=aof hv;obtain⟨u2,hu2,hv⟩:=aof hv;obtain⟨x,hx,e⟩:=amf hv;cases e;exact⟨rfl,fun g=>by show bBin _ _ _ _ _ _=_;grind [bBin]⟩
 case un op x=>obtain⟨u,hu,hv⟩:=aof hv;obtain⟨x,hx,e⟩:=amf hv;cases e;exact⟨rfl,fun g=>by show bUn _ _ _ _=_;grind [bUn]⟩
 case conv k x=>obtain⟨u,hu,hv⟩:=aof hv;obtain⟨x,hx,e⟩:=amf hv;cases e;exact⟨rfl,fun g=>by show bConv _ _ _ _=_;grind [bConv]⟩
 case makeFunc fn a b=>obtain⟨u,hu,hv⟩:=aof hv;obtain⟨x,hx,e⟩:=amf hv;cases e;exact⟨rfl,fun g=>by show zdz _ _ _ _ _=_;grind [zdz]⟩
 case fieldAddr o x=>obtain⟨u,hu,hv⟩:=aof hv;obtain⟨x,hx,e⟩:=amf hv;cases e;exact⟨rfl,fun g=>by show zcG _ _ _ _=_;grind [zcG]⟩
 case indexAddr sz x i=>obtain⟨u,hu,hv⟩:=aof hv;obtain⟨u2,hu2,hv⟩:=aof hv;obtain⟨x,hx,e⟩:=amf hv;cases e;exact⟨rfl,fun g=>by show zcF _ _ _ _ _=_;grind [zcF]⟩
 case indexArr n sz x i=>obtain⟨u,hu,hv⟩:=aof hv;obtain⟨u2,hu2,hv⟩:=aof hv;obtain⟨x,hx,e⟩:=amf hv;cases e;exact⟨rfl,fun g=>by show zdA _ _ _ _ _ _=_;grind [zdA]⟩
 case extract x i=>obtain⟨u,hu,hv⟩:=aof hv;obtain⟨x,hx,e⟩:=amf hv;cases e;exact⟨rfl,fun g=>by show ze6 _ _ _ _=_;grind [ze6]⟩
 case stuck=>cases hv
 case strSlice x lo hi=>
  obtain⟨u,hu,hv⟩:=aof hv;obtain⟨u2,hu2,hv⟩:=aof hv;obtain⟨u3,hu3,hv⟩:=aof hv;obtain⟨x,hx,e⟩:=amf hv;cases e;exact⟨rfl,fun g=>by show zdx _ _ _ _ _=_;grind [zdx]⟩
 case mkI t x=>obtain⟨u,hu,e⟩:=amf hv;cases e;exact⟨rfl,fun g=>by show bMkI _ _ _ _=_;grind [bMkI]⟩
 case assertT t z ok x=>obtain⟨u,hu,hv⟩:=aof hv;obtain⟨x,hx,e⟩:=amf hv;cases e;exact⟨rfl,fun g=>by show ze7 _ _ _ _ _ _=_;grind [ze7]⟩
 case fld o n x=>obtain⟨u,hu,hv⟩:=aof hv;obtain⟨x,hx,e⟩:=amf hv;cases e;exact⟨rfl,fun g=>by show bFld _ _ _ _ _=_;grind [bFld]⟩
 case strIdx x i=>obtain⟨u,hu,hv⟩:=aof hv;obtain⟨u2,hu2,hv⟩:=aof hv;obtain⟨x,hx,e⟩:=amf hv;cases e;exact⟨rfl,fun g=>by show zgS _ _ _ _=_;grind [zgS]⟩
 case blt b as=>
  obtain⟨l,hl,hv⟩:=aof hv
  have key:h'=h∧ ∀g,bltV g b l=some (v,g):=by
   cases b<;>simp only[isW,isRd,reduceCtorEq] at hw hr
   case len=>
    unfold bltV at hv
    grind [bltV]
   case lenStr=>
    unfold bltV at hv
    grind [bltV]
   case min=>
    cases l with
    |nil=>cases hv
    |cons x r=>obtain⟨y,hy,e⟩:=amf hv;grind [bltV]
   case max=>
    cases l with
    |nil=>cases hv
    |cons x r=>obtain⟨y,hy,e⟩:=amf hv;grind [bltV]
  exact⟨key.1,fun g=>by show bBlt _ _ _ _=_;grind [bBlt]⟩
theorem ze8 {op:COp} (hc:zZ op=.alloc) {s:za} {h:H} {v:Value} {h':H} (hv:opV op s h=some (v,h')):
 ∃(f:Nat→Value) (io:IObj),v=f h.next∧h'=h.new io∧ ∀g,opV op s g=some (f g.next,g.new io):=by
 cases op<;>simp only[zZ,reduceCtorEq] at hc
 case alloc z=>cases hv;exact⟨fun i=>.pointer (some ⟨i,0,none⟩),_,rfl,rfl,fun g=>rfl⟩
 case box x=>obtain⟨u,hu,e⟩:=amf hv;cases e;exact⟨fun i=>.pointer (some ⟨i,0,none⟩),_,rfl,rfl,fun g=>by show bBox _ _ _=_;unfold bBox;rw[hu];rfl⟩
 case buildSlice n sz z ps=>
  obtain⟨u,hu,hv⟩:=aof hv;obtain⟨x,hx,e⟩:=amf hv;cases e
  exact⟨fun i=>.slice (some ⟨i,0,none⟩) n n,_,rfl,rfl,fun g=>by show zcH _ _ _ _ _ _=_;grind [zcH]⟩
 case makeMap=>cases hv;exact⟨fun i=>.map (some i),_,rfl,rfl,fun g=>rfl⟩
 case makeSlice sz bt z l c=>
  obtain⟨u,hu,hv⟩:=aof hv;obtain⟨u2,hu2,hv⟩:=aof hv
  unfold zdd at hv
  split at hv
  ·split at hv
   ·rename_i hc
    cases hv
    refine⟨fun i=>.slice (some ⟨i,0,none⟩) _ _,_,rfl,rfl,fun g=> ?_⟩
    show zdg sz bt z l c s g=_
    grind [zdg,zdd]
   grind
  grind
 grind
theorem zgY {h:H} {i off:Nat} {vs:List Value} {h':H} (hw:h.write i off vs=some h'):h'.next=h.next:=by
 obtain⟨o,ho,hw⟩:=aof hw
 cases o with
 |cells cs esz=>
  simp only[zfR] at hw
  split at hw
  ·obtain⟨c,hc,e⟩:=amf hw;subst e;rfl
  grind
 |map _ _=>cases hw
 |loop _ _ _ _=>cases hw
 |dead=>cases hw
 |glob _ _=>cases hw
theorem growNext {size:Nat} {a:Addr} {len n:Nat} {new:List Value} {h:H} {cs:List Value} {v:Value} {h':H} (hv:zj8 size a len n new h cs=some (v,h')):h.next≤h'.next:=by
 obtain⟨o,ho,e⟩:=amf hv;cases e;simp
theorem putNext {size:Nat} {a:Addr} {len cap n:Nat} {new:List Value} {h:H} {v:Value} {h':H} (hv:putIn size a len cap n new h=some (v,h')):h.next≤h'.next:=by
 obtain⟨o,ho,e⟩:=amf hv;grind [zgY]
theorem zhd {op:COp} {s:za} {h:H} {v:Value} {h':H} (hv:opV op s h=some (v,h')):h.next≤h'.next:=by
 by_cases hw:isW op=false
 ·by_cases hr:isRd op=true
  ·have:=(zhV hr (n:=h.next) (m:=h.mem) hv).1;grind
  ·rcases zfs hw with hc|hc
   ·grind [zdb]
   ·obtain⟨f,io,-,e,-⟩:=ze8 hc hv;rw[e];simp
 ·cases op<;>simp only[isW,not_true_eq_false,reduceCtorEq,not_false_eq_true] at hw
  case store n a x=>
   obtain⟨u,hu,hv⟩:=aof hv;obtain⟨u2,hu2,hv⟩:=aof hv;obtain⟨ad,ha,hv⟩:=aof hv
   split at hv
   ·obtain⟨g,hg,e⟩:=amf hv;grind [zgY]
   grind
  case mapUpdate kk m k x=>
   obtain⟨u,hu,hv⟩:=aof hv;obtain⟨u2,hu2,hv⟩:=aof hv;obtain⟨u3,hu3,hv⟩:=aof hv
   unfold mapUpd at hv
   split at hv
   ·obtain⟨o,ho,hv⟩:=aof hv
    cases o with
    |map es c=>obtain⟨y,hy,hv⟩:=aof hv;obtain⟨z,hz,e⟩:=amf hv;cases e;simp_all
    |cells _ _=>cases hv
    |loop _ _ _ _=>cases hv
    |dead=>cases hv
    |glob _ _=>cases hv
   grind
  case call f as=>cases hv
  case s2b x=>
   obtain⟨u,hu,hv⟩:=aof hv
   unfold s2bV at hv
   split at hv
   ·cases hv;simp_all
   grind
  case panic x=>cases hv
  case recov=>cases hv
  case invoke tbl x as=>cases hv
  case blt b as=>
   cases b<;>simp only[isW,not_true_eq_false,reduceCtorEq,not_false_eq_true] at hw
   case copy z=>
    obtain⟨l,hl,hv⟩:=aof hv
    match l with
    | []=>cases hv
    | [x]=>grind [bltV]
    |x::y::_::_=>grind [bltV]
    | [sv,tv]=>
      cases sv with
      |slice b n c=>
       cases b with
       |none=>grind [bltV]
       |some ad=>
        cases tv with
        |slice b2 m c2=>
         have hv:copyV z h ad (zhl m n) b2=some (v,h'):=hv
         unfold copyV at hv
         split at hv
         ·split at hv
          ·grind
          ·obtain⟨l,hl,hv⟩:=aof hv
           obtain⟨g,hg,e⟩:=amf hv
           grind [zgY]
         grind
        |_=>simp[bltV] at hv
      |_=>simp[bltV] at hv
   case clear z=>
    obtain⟨l,hl,hv⟩:=aof hv
    match l with
    | []=>cases hv
    |_::_::_=>grind [bltV]
    | [sv]=>
      cases sv with
      |slice b n c=>
       cases b with
       |none=>cases hv;grind
       |some ad=>
        simp only[bltV] at hv
        split at hv
        ·grind
        ·obtain⟨g,hg,e⟩:=amf hv
         grind [zgY]
      |_=>simp[bltV] at hv
   rename_i size bytes
   obtain⟨l,hl,hv⟩:=aof hv
   match l with
   | []=>cases hv
   | [_]=>cases hv
   |_::_::_::_=>cases hv
   | [sv,x]=>
     obtain⟨nl,hnl,hv⟩:=aof hv
     unfold zcK at hv
     split at hv
     ·split at hv
      ·grind
      ·split at hv
       ·split at hv
        ·split at hv
         ·cases hv;simp
         grind
        ·obtain⟨o,ho,hv⟩:=aof hv
         cases o with
         |cells cs esz=>
          simp only[zdZ] at hv
          split at hv
          ·split at hv
           ·split at hv
            ·exact putNext hv
            ·have:=growNext hv;simp_all
           grind
          ·split at hv
           ·exact putNext hv
           ·exact growNext hv
         |map _ _=>cases hv
         |loop _ _ _ _=>cases hv
         |dead=>cases hv
         |glob _ _=>cases hv
       grind
     grind
end Go.Ideal
namespace Go.Ideal
variable {P:Program}
theorem zhC (l:List Oper) (o:Oper):ancs (l++[o])=ancs l++[ancOf (ancs l) o]:=by grind [ancs]
theorem zgV (l:List Oper):(ancs l).length=l.length:=by
 have: ∀(r:List Oper),(ancs r.reverse).length=r.length:=by
  intro r
  induction r with
  |nil=>rfl
  |cons o r ih=>grind [zhC]
 have h:=this l.reverse
 grind
theorem zkc (d:List Nat): ∀(es:List Edge) (s i:Nat),(es.foldl (fun s e=>s ||| 2^e.on ||| d.getD e.on 0) s).testBit i=true→s.testBit i=true∨ ∃e∈es,i=e.on∨(d.getD e.on 0).testBit i=true
 | [],s,i,h=>.inl h
 |e::es,s,i,h=>by
  rw[List.foldl_cons] at h
  rcases zkc d es _ i h with h| ⟨e',he,h⟩
  all_goals grind
theorem zeE {S:Nat→Prop}: ∀(r:List Oper),(∀j,S j→ ∀o,r.reverse[j]? =some o→ ∀e∈o.after.toList,Region.binds .any e=true→S e.on)→
 ∀j o,r.reverse[j]? =some o→(∀e∈o.after.toList,Region.binds .any e=true→S e.on)→ ∀i,((ancs r.reverse).getD j 0).testBit i=true→S i
 | [],_,j,o,ho,_,i,_=>by grind
 |x::r,hS,j,o,ho,hj,i,hi=>by
  rw[List.reverse_cons] at hS ho hi
  have hS': ∀j,S j→ ∀o,r.reverse[j]? =some o→ ∀e∈o.after.toList,Region.binds .any e=true→S e.on:=fun j hj o ho=>hS j hj o (by grind)
  have hlen:(ancs r.reverse).length=r.reverse.length:=zgV _
  rw[zhC] at hi
  by_cases hlt:j<r.reverse.length
  ·rw[List.getElem?_append_left hlt] at ho
   have e:(ancs r.reverse++[ancOf (ancs r.reverse) x]).getD j 0=(ancs r.reverse).getD j 0:=by
    grind
   rw[e] at hi
   exact zeE r hS' j o ho hj i hi
  ·have hjl:=(List.getElem?_eq_some_iff.1 ho).1
   simp only[List.length_append,List.length_cons,List.length_nil] at hjl
   have hje:j=r.reverse.length:=by omega
   subst hje
   rw[List.getElem?_append_right (Nat.le_refl _),Nat.sub_self] at ho
   cases ho
   have e:(ancs r.reverse++[ancOf (ancs r.reverse) x]).getD r.reverse.length 0=ancOf (ancs r.reverse) x:=by
    grind
   rw[e] at hi
   unfold ancOf at hi
   rcases zkc _ _ 0 i hi with h| ⟨ed,hed,h⟩
   ·grind
   ·rw[List.mem_filter] at hed
    have hs:=hj ed hed.1 hed.2
    rcases h with rfl|h
    ·exact hs
    ·by_cases hb:ed.on<r.reverse.length
     ·exact zeE r hS' ed.on _ (List.getElem?_eq_getElem hb) (fun e' he' hbi=>hS' _ hs _ (List.getElem?_eq_getElem hb) e' he' hbi) i h
     grind
structure OrdOk (anc:List Nat) (cis:List CI) (order:List Nat):Prop where
 lt: ∀(q j:Nat),order[q]? =some j→j<cis.length
 inj: ∀(q q' j:Nat),order[q]? =some j→order[q']? =some j→q=q'
 before: ∀(q j i:Nat),order[q]? =some j→(anc.getD j 0).testBit i=true→ ∃q',q'<q∧order[q']? =some i
 writer: ∀(q j:Nat) (c:CI),order[q]? =some j→cis[j]? =some c→isW c.op=true→ ∀(q' i:Nat) (d:CI),q'<q→order[q']? =some i→cis[i]? =some d→isFl d.op=false→(anc.getD j 0).testBit i=true
 names: ∀(q j:Nat) (c:CI),order[q]? =some j→cis[j]? =some c→namesOk anc cis j c=true
theorem testBit_seen {seen j i:Nat}:(seen ||| 2^j).testBit i=true↔seen.testBit i=true∨i=j:=by
 grind
theorem and_eq_sub {a s i:Nat} (h:Nat.beq (a &&& s) a=true) (hi:a.testBit i=true):s.testBit i=true:=by
 grind [Nat.eq_of_beq_eq_true]
theorem zit (anc:List Nat) (cis:List CI): ∀(l:List Nat) (seen:Nat) (seenL:List Nat),zhZ anc cis l seen seenL=true→
 (∀(q j:Nat),l[q]? =some j→j<cis.length∧seen.testBit j=false)∧(∀(q q' j:Nat),l[q]? =some j→l[q']? =some j→q=q')∧
 (∀(q j i:Nat),l[q]? =some j→(anc.getD j 0).testBit i=true→seen.testBit i=true∨ ∃q',q'<q∧l[q']? =some i)∧
 (∀(q j:Nat) (c:CI),l[q]? =some j→cis[j]? =some c→isW c.op=true→(∀i∈seenL,zj2 anc cis j i=true)∧ ∀q' i:Nat,q'<q→l[q']? =some i→zj2 anc cis j i=true)∧
 (∀(q j:Nat) (c:CI),l[q]? =some j→cis[j]? =some c→namesOk anc cis j c=true)
 | [],seen,_,_=>by grind
 |j0::l,seen,seenL,h=>by
  unfold zhZ at h
  cases hc:cis[j0]? with
  |none=>grind
  |some c0=>
   rw[hc] at h
   simp only[Bool.and_eq_true,Bool.not_eq_true',Bool.or_eq_true] at h
   obtain⟨⟨⟨⟨h1,h2⟩,h3⟩,h4⟩,h5⟩:=h
   obtain⟨p1,p2,p3,p4,p5⟩:=zit anc cis l _ _ h5
   have hj0:=(List.getElem?_eq_some_iff.1 hc).1
   have notj0: ∀q,l[q]?≠some j0:=fun q hq=>by
    have:=(p1 q j0 hq).2
    grind
   refine⟨fun q j hq=> ?_,fun q q' j hq hq'=> ?_,fun q j i hq hi=> ?_,fun q j c hq hcj hw=> ?_,fun q j c hq hcj=> ?_⟩
   ·grind
   ·grind
   ·cases q with
    |zero=>grind [and_eq_sub]
    |succ q=>
     simp at hq
     rcases p3 q j i hq hi with h| ⟨q',a,b⟩
     ·rcases testBit_seen.1 h with h|rfl
      ·grind
      ·exact .inr ⟨0,by omega,by simp⟩
     ·exact .inr ⟨q'+1,by omega,by grind⟩
   ·cases q with
    |zero=>
     grind
    |succ q=>
     simp at hq
     obtain⟨a,b⟩:=p4 q j c hq hcj hw
     refine⟨fun i hi=>a i (by simp[hi]),fun q' i hq' hi=> ?_⟩
     cases q' with
     |zero=>grind
     |succ q'=>grind
   grind
theorem zeX {anc:List Nat} {cis:List CI} {j i:Nat} {d:CI} (h:zj2 anc cis j i=true) (hd:cis[i]? =some d) (hf:isFl d.op=false):(anc.getD j 0).testBit i=true:=by
 grind [zj2]
theorem ordOk_of {anc:List Nat} {cis:List CI} {order:List Nat} (h:zhZ anc cis order 0 []=true):OrdOk anc cis order:=by
 obtain⟨p1,p2,p3,p4,p5⟩:=zit anc cis order 0 [] h
 exact⟨fun q j hq=>(p1 q j hq).1,p2,fun q j i hq hi=>(p3 q j i hq hi).resolve_left (by simp),fun q j c hq hc hw q' i d hq' hi hd hf=>zeX ((p4 q j c hq hc hw).2 q' i hq' hi) hd hf,p5⟩
theorem zdN {anc:List Nat} {cis:List CI} {j:Nat} {c:CI} (h:namesOk anc cis j c=true) {x:List Bool} (hx:x∈zbs c) {i:Nat} {d:CI} (hd:cis[i]? =some d) (hdst:d.dst=some x):
 i=j∨(anc.getD j 0).testBit i=true∨(anc.getD i 0).testBit j=true:=by
 have h1:=List.all_eq_true.1 (List.all_eq_true.1 h x hx) (d,i) (List.mem_zipIdx_iff_getElem?.2 hd)
 grind [zeC]
theorem zkj (ih:IH) (bs:List (Nat×H)) (s:za) (h:H):zx ih [] bs s h=some (s,h):=rfl
theorem zba (ih:IH) (o:CI) (l:List CI) (bs:List (Nat×H)) (s:za) (h:H):zx ih (o::l) bs s h=(zw ih o bs s h).bind fun x=>zx ih l x.2.2 (zY o.dst x.1 s) x.2.1:=rfl
def zy (l:List CI) (q:Nat):Nat:=((l.take q).filter fun c=>isW c.op).length
def zkE (l:List CI) (q:Nat):Prop:=q=0∨ ∃p c,q=p+1∧l[p]? =some c∧isW c.op=true
def FreshAt (l:List CI) (hs:Nat→H) (op:COp) (s:za) (q:Nat) (v:Value):Prop:= ∃p0,p0≤q∧(∀p c,p0≤p→p<q→l[p]? =some c→isW c.op=false)∧ze1 op s (hs p0).next (hs q).next=true∧opV op s (hs q)=some (v,hs q)
structure Tr (ih:IH) (l:List CI) (ss:Nat→za) (hs:Nat→H) (vs:Nat→Value):Prop where
 slots: ∀(q:Nat) c,l[q]? =some c→ss (q+1)=zY c.dst (vs q) (ss q)
 step: ∀(q:Nat) c,l[q]? =some c→ ∃b,zbb c.guard (ss q)=some b∧(b=false→vs q=zM∧hs (q+1)=hs q)∧
  (b=true→isW c.op=true→doOp ih c.op (ss q) (hs q)=some (vs q,hs (q+1)))∧
  (b=true→isW c.op=false→isRd c.op=false→opV c.op (ss q) (hs q)=some (vs q,hs (q+1)))∧
  (b=true→isW c.op=false→isRd c.op=true→hs (q+1)=hs q∧((∀p,p≤q→zkE l p→c.lo≤zy l p→opV c.op (ss q) (hs p)=some (vs q,hs p))∨FreshAt l hs c.op (ss q) q (vs q)))
theorem zir {op:COp} {s:za} {lo:Nat} {v:Value}: ∀{bs:List (Nat×H)},zeQ op s lo v bs=true→ ∀x∈bs,lo≤x.1→ ∃h',opV op s x.2=some (v,h')
 | [],_,x,hx,_=>by cases hx
 |y::bs,h,x,hx,hlo=>by
  unfold zeQ at h
  rcases List.mem_cons.1 hx with rfl|hx
  ·grind [Nat.blt_eq,eqVal_eq]
  ·refine zir ?_ x hx hlo
   grind
theorem tr_of {ih:IH}: ∀(l pre:List CI) (bs:List (Nat×H)) (ss0:Nat→za) (hs0:Nat→H) (vs0:Nat→Value) (sF:za) (hF:H),Tr ih pre ss0 hs0 vs0→
 (∃p0,bs=(zy pre pre.length,hs0 p0)::bs.tail∧p0≤pre.length∧ ∀p c,p0≤p→p<pre.length→pre[p]? =some c→isW c.op=false)→(∀p,p≤pre.length→zkE pre p→(zy pre p,hs0 p)∈bs)→zx ih l bs (ss0 pre.length) (hs0 pre.length)=some (sF,hF)→
 ∃ss hs vs,Tr ih (pre++l) ss hs vs∧(∀q,q≤pre.length→ss q=ss0 q∧hs q=hs0 q)∧ss (pre++l).length=sF∧hs (pre++l).length=hF∧ ∀k,k≤l.length→zx ih (l.take k) bs (ss0 pre.length) (hs0 pre.length)=some (ss (pre.length+k),hs (pre.length+k))
 | [],pre,bs,ss0,hs0,vs0,sF,hF,ht,hb,hbs,hrun=>by
   rw[zkj] at hrun;cases hrun
   exact⟨ss0,hs0,vs0,by grind,fun q _=>⟨rfl,rfl⟩,by simp,by simp,fun k hk=>by
    have:k=0:=by grind
    subst this;rfl⟩
 |o::l,pre,bs,ss0,hs0,vs0,sF,hF,ht,hb,hbs,hrun=>by
  rw[zba] at hrun
  obtain⟨⟨v,h1,bs1⟩,hstep,hrest⟩:=aof hrun
  have hstep0:=hstep
  obtain⟨b,hwant,hstep⟩:=aof hstep
  let n:=pre.length
  let ss1:Nat→za:=fun q=>if q≤n then ss0 q else zY o.dst v (ss0 n)
  let hs1:Nat→H:=fun q=>if q≤n then hs0 q else h1
  let vs1:Nat→Value:=fun q=>if q<n then vs0 q else v
  have s1a: ∀q,q≤n→ss1 q=ss0 q:=fun q hq=>if_pos hq
  have h1a: ∀q,q≤n→hs1 q=hs0 q:=fun q hq=>if_pos hq
  have v1a: ∀q,q<n→vs1 q=vs0 q:=fun q hq=>if_pos hq
  have s1b:ss1 (n+1)=zY o.dst v (ss0 n):=if_neg (by omega)
  have h1b:hs1 (n+1)=h1:=if_neg (by omega)
  have v1b:vs1 n=v:=if_neg (by omega)
  have len1:(pre++[o]).length=n+1:=by simp[n]
  have get1: ∀(q:Nat) c,(pre++[o])[q]? =some c→(q<n∧pre[q]? =some c)∨(q=n∧c=o):=by
   grind
  have wc1: ∀q,q≤n→zy (pre++[o]) q=zy pre q:=fun q hq=>by grind [zy]
  have wc2:zy (pre++[o]) (n+1)=zy pre n+if isW o.op=true then 1 else 0:=by
   grind [zy,List.take_length]
  have base1: ∀p,p≤n→(zkE (pre++[o]) p↔zkE pre p):=by
   intro p hp
   constructor
   ·rintro(rfl| ⟨p',c,rfl,hc,hw⟩)
    ·exact .inl rfl
    ·rw[List.getElem?_append_left (by omega)] at hc;exact .inr ⟨p',c,rfl,hc,hw⟩
   ·rintro(rfl| ⟨p',c,rfl,hc,hw⟩)
    ·exact .inl rfl
    ·exact .inr ⟨p',c,rfl,by grind,hw⟩
  have base2:zkE (pre++[o]) (n+1)→isW o.op=true:=by
   rintro(h| ⟨p',c,h,hc,hw⟩)
   all_goals grind
  have key:(b=false→v=zM∧h1=hs0 n)∧(b=true→isW o.op=true→doOp ih o.op (ss0 n) (hs0 n)=some (v,h1))∧
   (b=true→isW o.op=false→isRd o.op=false→opV o.op (ss0 n) (hs0 n)=some (v,h1))∧
   (b=true→isW o.op=false→isRd o.op=true→h1=hs0 n∧((∀p,p≤n→zkE pre p→o.lo≤zy pre p→opV o.op (ss0 n) (hs0 p)=some (v,hs0 p))∨FreshAt pre hs0 o.op (ss0 n) n v))∧
   ((isW o.op=true→bs1=(zkR bs,h1)::bs)∧(isW o.op=false→bs1=bs)):=by
   cases b with
   |false=>
    grind
   |true=>
    simp only[zcP] at hstep
    by_cases hw:isW o.op=true
    ·rw[if_pos hw] at hstep
     obtain⟨x,hx,e⟩:=amf hstep
     grind
    ·rw[if_neg hw] at hstep
     have hw':isW o.op=false:=by grind
     by_cases hr:isRd o.op=true
     ·rw[if_pos hr] at hstep
      obtain⟨p0,hr0,hp0,hnw⟩:=hb
      rw[hr0] at hstep
      unfold ziC at hstep
      dsimp only at hstep
      by_cases hfr:ze1 o.op (ss0 pre.length) (hs0 p0).next (hs0 pre.length).next=true
      ·rw[if_pos hfr] at hstep
       obtain⟨⟨v',h'⟩,hy,hstep⟩:=amf hstep
       simp only[Prod.mk.injEq] at hstep
       obtain⟨rfl,rfl,rfl⟩:=hstep
       have:=(zh9 hfr hy).1;subst this
       exact⟨nofun,fun _ h=>absurd h hw,fun _ _ h=>by grind,fun _ _ _=>⟨rfl,.inr ⟨p0,hp0,hnw,hfr,hy⟩⟩,fun h=>absurd h hw,fun _=>hr0.symm⟩
      rw[if_neg hfr] at hstep
      obtain⟨⟨v',h'⟩,hy,hstep⟩:=aof hstep
      split at hstep
      ·rename_i hreads
       simp only[Option.some.injEq,Prod.mk.injEq] at hstep
       obtain⟨rfl,rfl,rfl⟩:=hstep
       refine⟨nofun,fun _ h=>absurd h hw,fun _ _ h=>by grind,fun _ _ _=>⟨rfl,.inl fun p hp hbase hlo=> ?_⟩,fun h=>absurd h hw,fun _=>hr0.symm⟩
       have hm:=hbs p hp hbase
       rw[hr0] at hm
       have fix: ∀{g:H} {h''},opV o.op (ss0 n) g=some (v',h'')→opV o.op (ss0 n) g=some (v',g):=by
        intro g h'' hg
        have:=(zhV hr (n:=g.next) (m:=g.mem) hg).1
        rw[this] at hg;exact hg
       grind [zir]
      grind
     ·rw[if_neg hr] at hstep
      obtain⟨x,hx,e⟩:=amf hstep
      grind
  obtain⟨k1,k2,k3,k4,k5,k6⟩:=key
  have frA: ∀{op:COp} {s:za} {q:Nat} {u:Value},q≤n→FreshAt pre hs0 op s q u→FreshAt (pre++[o]) hs1 op s q u:=by
   rintro op s q u hq ⟨p0,x1,x2,x3,x4⟩
   refine⟨p0,x1,fun p c y1 y2 hc=>x2 p c y1 y2 ?_,by grind,by grind⟩
   grind
  have ht1:Tr ih (pre++[o]) ss1 hs1 vs1:=by
   refine⟨fun q c hq=> ?_,fun q c hq=> ?_⟩
   ·rcases get1 q c hq with⟨hlt,hc⟩| ⟨rfl,rfl⟩
    ·rw[s1a (q+1) (by omega),s1a q (by omega),v1a q hlt];exact ht.slots q c hc
    grind
   ·rcases get1 q c hq with⟨hlt,hc⟩| ⟨rfl,rfl⟩
    ·rw[s1a q (by omega),v1a q hlt,h1a q (by omega),h1a (q+1) (by omega)]
     obtain⟨b',a1,a2,a3,a4,a5⟩:=ht.step q c hc
     grind
    grind
  obtain⟨ss,hs,vs,q1,q2,q3,q4,q5⟩:=tr_of l (pre++[o]) bs1 ss1 hs1 vs1 sF hF ht1
   (by
     obtain⟨p0,hr0,hp0,hnw⟩:=hb
     rw[len1,wc2]
     by_cases hw:isW o.op=true
     ·rw[if_pos hw,k5 hw];refine⟨n+1,?_,Nat.le_refl _,fun p c y1 y2 _=>by omega⟩;grind [zkR]
     ·rw[if_neg hw,k6 (by grind)]
      grind)
   (by
     grind [zkR])
   (by grind)
  refine⟨ss,hs,vs,by grind,fun q hq=> ?_,by grind,by grind,fun k hk=> ?_⟩
  rotate_left
  ·have ee:ss n=ss0 n∧hs n=hs0 n:=by
    grind
   cases k with
   |zero=>rw[List.take_zero];show some (ss0 n,hs0 n)=some (ss n,hs n);grind
   |succ k=>
    rw[List.take_succ_cons,zba]
    have hst2:zw ih o bs (ss0 pre.length) (hs0 pre.length)=some (v,h1,bs1):=hstep0
    rw[hst2,Option.bind_some]
    have:=q5 k (by grind)
    rw[len1,s1b,h1b] at this
    grind
  grind
theorem zjn {ih:IH} {l:List CI} {s:za} {h:H} {sF:za} {hF:H} (hrun:zx ih l [(0,h)] s h=some (sF,hF)):
 ∃ss hs vs,Tr ih l ss hs vs∧ss 0=s∧hs 0=h∧ss l.length=sF∧hs l.length=hF∧ ∀k,k≤l.length→zx ih (l.take k) [(0,h)] s h=some (ss k,hs k):=by
 obtain⟨ss,hs,vs,q1,q2,q3,q4,q5⟩:=tr_of l [] [(0,h)] (fun _=>s) (fun _=>h) (fun _=>zM) sF hF ⟨fun _ _ h=>by grind,fun _ _ h=>by grind⟩ ⟨0,rfl,Nat.le_refl _,fun _ _ _ _ h=>by grind⟩
  (fun p hp _=>by grind [zy]) hrun
 grind
end Go.Ideal
namespace Go.Ideal
variable {P:Program}
def cut (ρ:Rho) (m:Nat):Rho:=fun i=>if i<m then ρ i else none
theorem zo {ρ:Rho} {m i:Nat} {R:RB}:cut ρ m i=some R↔i<m∧ρ i=some R:=by
 grind [cut]
theorem cut_le (ρ:Rho) (m:Nat):zhD (cut ρ m) ρ:=fun _ _ h=>(zo.1 h).2
theorem zcw {ρ σ:Rho} {m m':Nat} (h:zhD ρ σ) (hm:m≤m'):zhD (cut ρ m) (cut σ m'):=fun i R hi=>by
 obtain⟨h1,h2⟩:=zo.1 hi
 exact zo.2 ⟨by omega,h i R h2⟩
theorem HR.lift {ρ:Rho} {B:H} {w:World} {m:Nat} (hr:HR P (cut ρ B.next) B w) (hm:B.next≤m) (hb: ∀i R,ρ i=some R→R.blk<w.heap.size) (hgl: ∀b x,gZ=some (b,x)→ ∀i R,ρ i=some R→R.blk=b→R.fix≠none):HR P (cut ρ m) ⟨m,B.mem⟩ w where
 obj:=fun i R o hi ho=>by
  have ho':B.get i=some o:=ho
  exact(hr.obj i R o (zo.2 ⟨hr.lt ho',(zo.1 hi).2⟩) ho').mono (zcw (fun _ _ h=>h) hm) rfl
 nxt:=fun i hi=>by
  have hi':m≤i:=hi
  exact⟨by grind [cut],(hr.nxt i (by omega)).2⟩
 sep:=fun i j R S hi hj ai aj e=>by
  obtain⟨x,hx,hxd⟩:=ai
  obtain⟨y,hy,hyd⟩:=aj
  have hx':B.get i=some x:=hx
  have hy':B.get j=some y:=hy
  exact hr.sep i j R S (zo.2 ⟨hr.lt hx',(zo.1 hi).2⟩) (zo.2 ⟨hr.lt hy',(zo.1 hj).2⟩) ⟨x,hx',hxd⟩ ⟨y,hy',hyd⟩ e
 blk:=fun i R hi=>hb i R (zo.1 hi).2
 glb:=fun i b x hi=>by
  have hi':B.get i=some (.glob b x):=hi
  obtain⟨R,hR⟩:=hr.glb i b x hi'
  exact⟨R,zcw (fun _ _ h=>h) hm i R hR⟩
 gl:=⟨hr.gl.1,fun b x e i R hi hs=>hgl b x e i R (zo.1 hi).2 hs⟩
theorem HR.addLate {ρ:Rho} {h:H} {w:World} {R:RB} {io:IObj} (hr:HR P (cut ρ h.next) h w) (hR:ρ h.next=some R) (ho:OR P (cut ρ (h.next+1)) w R io) (hlt:R.blk<w.heap.size)
 (hinj: ∀i S,ρ i=some S→S.blk=R.blk→i=h.next) (hgl: ∀b x,gZ=some (b,x)→ ∀i R,ρ i=some R→R.blk=b→R.fix≠none):HR P (cut ρ (h.next+1)) (h.new io) w where
 obj:=fun i S o hi hg=>by
  obtain⟨h1,h2⟩:=zo.1 hi
  rw[H.get_new] at hg
  by_cases e:h.next=i
  ·grind
  ·rw[if_neg e] at hg
   exact(hr.obj i S o (zo.2 ⟨by omega,h2⟩) hg).mono (zcw (fun _ _ h=>h) (by omega)) rfl
 nxt:=fun i hi=>by
  rw[H.next_new] at hi
  exact⟨by grind [cut],by rw[H.get_new,if_neg (by omega)];exact(hr.nxt i (by omega)).2⟩
 sep:=fun i j S T hi hj ai aj e=>by
  obtain⟨h1,h2⟩:=zo.1 hi
  obtain⟨h3,h4⟩:=zo.1 hj
  by_cases ei:i=h.next
  ·grind
  ·by_cases ej:j=h.next
   ·grind
   ·have k: ∀i,i≠h.next→zeF (h.new io) i→zeF h i:=by
     intro i hne ⟨x,hx,hxd⟩
     rw[H.get_new,if_neg (fun h=>hne h.symm)] at hx
     exact⟨x,hx,hxd⟩
    exact hr.sep i j S T (zo.2 ⟨by omega,h2⟩) (zo.2 ⟨by omega,h4⟩) (k i ei ai) (k j ej aj) e
 blk:=fun i S hi=>by
  obtain⟨h1,h2⟩:=zo.1 hi
  by_cases ei:i=h.next
  ·grind
  ·exact hr.blk i S (zo.2 ⟨by omega,h2⟩)
 glb:=fun i b x hi=>by
  rw[H.get_new] at hi
  by_cases e:h.next=i
  ·grind [zo]
  ·rw[if_neg e] at hi
   obtain⟨S,hS⟩:=hr.glb i b x hi
   exact⟨S,zcw (fun _ _ h=>h) (by omega) i S hS⟩
 gl:=⟨hr.gl.1,fun b x e i R hi hs=>hgl b x e i R (zo.1 hi).2 hs⟩
theorem zb1 {α β:Type} {f:α→Option β}: ∀{xs:List α} {ys:List β},allO f xs=some ys→ys.length=xs.length∧ ∀(i:Nat) x,xs[i]? =some x→ ∃y,f x=some y∧ys[i]? =some y
 | [],ys,h=>by cases h;grind
 |x::xs,ys,h=>by
  obtain⟨y,hy,h⟩:=aof h
  obtain⟨zs,hz,rfl⟩:=amf h
  obtain⟨h1,h2⟩:=zb1 hz
  grind
def zgE:Task→Nat
 |.code _ _ h=>h.next
 |.call _ _ h=>h.next
 |.hand _ _ _ h=>h.next
 |.scope _ _ _ _ _ _ h=>h.next
def zbK:Out→Nat
 |.nrm _ h=>h.next
 |.exit _ _ h=>h.next
 |.ret _ h=>h.next
 |.val _ h=>h.next
 |.pan _ _ h=>h.next
theorem doOp_next {ih:IH} (hnx: ∀t o,ih t=some o→zgE t≤zbK o) {op:COp} {s:za} {h:H} {v:Value} {h':H} (hv:doOp ih op s h=some (v,h')):h.next≤h'.next:=by
 have plain:opV op s h=some (v,h')→h.next≤h'.next:=zhd
 cases op
 case call f as=>
  obtain⟨u,hu,hv⟩:=aof hv
  obtain⟨l,hl,hv⟩:=aof hv
  obtain⟨o,ho,hv⟩:=aof hv
  have:=hnx _ _ ho
  cases o<;>simp only[zhL,Option.some.injEq,Prod.mk.injEq,reduceCtorEq] at hv
  obtain⟨rfl,rfl⟩:=hv
  exact this
 case invoke tbl x as=>
  obtain⟨u,hu,hv⟩:=aof hv
  obtain⟨r,hr,hv⟩:=aof hv
  obtain⟨l,hl,hv⟩:=aof hv
  obtain⟨o,ho,hv⟩:=aof hv
  have:=hnx _ _ ho
  cases o<;>simp only[zhL,Option.some.injEq,Prod.mk.injEq,reduceCtorEq] at hv
  obtain⟨rfl,rfl⟩:=hv
  exact this
 all_goals exact plain hv
theorem zlD {ih:IH} (hnx: ∀t o,ih t=some o→zgE t≤zbK o) {op:COp} {s:za} {h:H} {o:Out} (hv:zcV ih op s h=some o):h.next≤zbK o:=by
 have plain:(opV op s h).map valO=some o→h.next≤zbK o:=by
  intro hv
  obtain⟨⟨v,h'⟩,hv2,e⟩:=amf hv
  subst e
  exact zhd hv2
 cases op
 case call f as=>
  obtain⟨u,hu,hv⟩:=aof hv
  obtain⟨l,hl,hv⟩:=aof hv
  obtain⟨o1,ho,hv⟩:=aof hv
  have:=hnx _ _ ho
  cases o1<;>simp only[zkP,Option.some.injEq,reduceCtorEq] at hv
  ·subst hv;exact this
  ·subst hv;exact this
 case invoke tbl x as=>
  obtain⟨u,hu,hv⟩:=aof hv
  obtain⟨r,hr,hv⟩:=aof hv
  obtain⟨l,hl,hv⟩:=aof hv
  obtain⟨o1,ho,hv⟩:=aof hv
  have:=hnx _ _ ho
  cases o1<;>simp only[zkP,Option.some.injEq,reduceCtorEq] at hv
  ·subst hv;exact this
  ·subst hv;exact this
 case panic x=>
  obtain⟨u,hu,hv⟩:=aof hv
  unfold panV at hv
  split at hv
  ·cases hv;exact Nat.le_refl _
  grind
 all_goals exact plain hv
structure Reg (P:Program) (ih:IH) (M N:Nat) (ex:Nat→Prop) (ops:Array Oper) (cis l:List CI) (order ws:List Nat) (ss:Nat→za) (hs:Nat→H) (vs:Nat→Value):Prop where
 hih: ∀t o,ih t=some o→zdE P M t o
 hnx: ∀t o,ih t=some o→zgE t≤zbK o
 hcis:allO (zu P N ops) ops.toList=some cis
 hord:OrdOk (ancs ops.toList) cis order
 hsur: ∀i,i<cis.length→ ¬ex i→ ∃q:Nat,order[q]? =some i
 hex: ∀q i:Nat,order[q]? =some i→ ¬ex i
 hws:ws=wsOf cis
 hl:zdm (ancs ops.toList) cis order=some l
 htr:Tr ih l ss hs vs
theorem zdq {op:COp} (h:isFl op=true):isW op=false∧isRd op=false∧zZ op=.pure:=by
 cases op<;>first
  | (rename_i b as;cases b<;>simp[isFl,isW,isRd,zZ] at h⊢;done)
  | (simp[isFl,isW,isRd,zZ] at h⊢;done)
structure At (P:Program) (N:Nat) (ops:Array Oper) (cis l:List CI) (order ws:List Nat) (q j:Nat) (o:Oper) (c:CI):Prop where
 ord:order[q]? =some j
 op:ops[j]? =some o
 ci:cis[j]? =some c
 comp:zu P N ops o=some c
 can:l[q]? =some {c with lo:=loOf (ancs ops.toList) ws j}
section
variable {ih:IH} {M N:Nat} {ex:Nat→Prop} {ops:Array Oper} {cis l:List CI} {order ws:List Nat} {ss:Nat→za} {hs:Nat→H} {vs:Nat→Value}
theorem Reg.cisLen (G:Reg P ih M N ex ops cis l order ws ss hs vs):cis.length=ops.size:=by have:=(zb1 G.hcis).1;grind
theorem Reg.ordLen (G:Reg P ih M N ex ops cis l order ws ss hs vs):order.length=l.length:=(zb1 G.hl).1.symm
theorem Reg.at (G:Reg P ih M N ex ops cis l order ws ss hs vs) {q:Nat} (hq:q<l.length): ∃j o c,At P N ops cis l order ws q j o c:=by
 have hq':q<order.length:=by rw[G.ordLen];exact hq
 have hj:=G.hord.lt q _ (List.getElem?_eq_getElem hq')
 have hjo:order[q]<ops.size:=by rw[←G.cisLen];exact hj
 obtain⟨y,hy,hyl⟩:=(zb1 G.hl).2 q _ (List.getElem?_eq_getElem hq')
 obtain⟨c,hc,rfl⟩:=amf hy
 have hws:=G.hws
 subst hws
 obtain⟨c',hc',hcl⟩:=(zb1 G.hcis).2 order[q] ops[order[q]] (by grind)
 rw[hcl] at hc;cases hc
 exact⟨order[q],ops[order[q]],_,List.getElem?_eq_getElem hq',by grind,hcl,hc',hyl⟩
theorem Reg.atOp (G:Reg P ih M N ex ops cis l order ws ss hs vs) {j:Nat} (hj:j<ops.size) (hx: ¬ex j): ∃q,q<l.length∧order[q]? =some j:=by
 obtain⟨q,hq⟩:=G.hsur j (by rw[G.cisLen];exact hj) hx
 exact⟨q,by have:=(List.getElem?_eq_some_iff.1 hq).1;rw[G.ordLen] at this;grind,hq⟩
theorem At.lt {q j:Nat} {o:Oper} {c:CI} (G:Reg P ih M N ex ops cis l order ws ss hs vs) (A:At P N ops cis l order ws q j o c):q<l.length:=by
 have:=(List.getElem?_eq_some_iff.1 A.ord).1;rw[G.ordLen] at this;grind
def zex (l:List CI) (q:Nat):Option (List Bool):=(l[q]?).bind (·.dst)
theorem At.dst {q j:Nat} {o:Oper} {c:CI} (A:At P N ops cis l order ws q j o c):zex l q=c.dst:=by unfold zex;rw[A.can];rfl
theorem Reg.nextStep (G:Reg P ih M N ex ops cis l order ws ss hs vs) {q:Nat} (hq:q<l.length):(hs q).next≤(hs (q+1)).next:=by
 obtain⟨j,o,c,A⟩:=G.at hq
 obtain⟨b,hb,h1,h2,h3,h4⟩:=G.htr.step q _ A.can
 cases b with
 |false=>grind
 |true=>
  by_cases hw:isW c.op=true
  ·exact doOp_next G.hnx (h2 rfl hw)
  ·by_cases hr:isRd c.op=true
   ·grind
   ·exact zhd (h3 rfl (by grind) (by grind))
theorem Reg.nextMono (G:Reg P ih M N ex ops cis l order ws ss hs vs) {p:Nat}: ∀{q:Nat},p≤q→q≤l.length→(hs p).next≤(hs q).next
 |0,h,_=>by grind
 |q+1,h,hq=>by
  by_cases e:p=q+1
  ·grind
  ·exact Nat.le_trans (G.nextMono (q:=q) (by omega) (by omega)) (G.nextStep (by omega))
theorem Reg.slotAt (G:Reg P ih M N ex ops cis l order ws ss hs vs) (p:List Bool): ∀{q:Nat},q≤l.length→
 (∃q1,q1<q∧zex l q1=some p∧(∀q',q1<q'→q'<q→zex l q'≠some p)∧(ss q).get p=some (vs q1))∨((∀q',q'<q→zex l q'≠some p)∧(ss q).get p=(ss 0).get p)
 |0,_=>by grind
 |q+1,hq=>by
  obtain⟨j,o,c,A⟩:=G.at (q:=q) (by omega)
  have hs1:=G.htr.slots q _ A.can
  have hd:zex l q=c.dst:=A.dst
  by_cases e:c.dst=some p
  ·refine .inl ⟨q,by omega,hd.trans e,fun q' h1 h2=>by omega,?_⟩
   rw[hs1]
   show(zY c.dst (vs q) (ss q)).get p=_
   rw[e];exact PT.get_set_same _ _ _
  ·have hg:(ss (q+1)).get p=(ss q).get p:=by
    rw[hs1]
    show(zY c.dst (vs q) (ss q)).get p=_
    cases hcd:c.dst with
    |none=>rfl
    |some u=>exact PT.get_set_ne _ _ _ _ (fun h=>e (by grind))
   rw[hg]
   rcases G.slotAt p (q:=q) (by omega) with⟨q1,h1,h2,h3,h4⟩| ⟨h1,h2⟩
   all_goals grind
structure Inv (P:Program) (N:Nat) (n:Nat) (l:List CI) (ss:Nat→za) (hs:Nat→H) (vs:Nat→Value) (ρ0:Rho) (w0:World) (Ds:List Deferred) (live:Prop) (D:Nat→Prop) (pb:Nat) (ρ:Rho) (a:Act) (w:World):Prop where
 base:live→zkE l pb
 le:pb≤n
 done: ∀q c,q<pb→l[q]? =some c→isFl c.op=false→D q
 now: ∀q c,pb≤q→D q→l[q]? =some c→isW c.op=false
 hr:live→HR P (cut ρ (hs pb).next) (hs pb) w
 fl: ∀q,pb≤q→q<n→D q→ ∀io,hs (q+1)=(hs q).new io→ ∃R,ρ (hs q).next=some R∧OR P (cut ρ (hs (q+1)).next) w R io∧ ∀i S,ρ i=some S→S.blk=R.blk→i=(hs q).next
 blk: ∀i R,ρ i=some R→R.blk<w.heap.size
 gl:GlOk w∧ ∀b x,gZ=some (b,x)→ ∀i R,ρ i=some R→R.blk=b→R.fix≠none
 dom: ∀i R,ρ i=some R→i<(hs pb).next∨ ∃q io,pb≤q∧q<n∧D q∧hs (q+1)=(hs q).new io∧i=(hs q).next
 old: ∀t:Nat,(∀q,D q→zex l q≠some (bits t))→ ∀v,(ss 0).get (bits t)=some v→ ∃v',a.tmps[t]? =some v'∧VR ρ0 v v'
 new: ∀q,q<n→D q→ ∀t:Nat,zex l q=some (bits t)→(∀q',q<q'→D q'→zex l q'≠some (bits t))→ ∃v',a.tmps[t]? =some v'∧VR (cut ρ (hs (q+1)).next) (vs q) v'
 size:a.tmps.size=N
 defers:a.defers=Ds
 ext:Ext ρ0 w0 ρ w
 zero: ∀i R,ρ0 i=some R→i<(hs 0).next
variable {ρ0 ρ:Rho} {w0 w:World} {Ds:List Deferred} {live:Prop} {D:Nat→Prop} {pb:Nat} {a:Act}
theorem Inv.absorb (G:Reg P ih M N ex ops cis l order ws ss hs vs) (hlive:live) (I:Inv P N l.length l ss hs vs ρ0 w0 Ds live D pb ρ a w): ∀{q:Nat},pb≤q→q≤l.length→(∀p c,p<q→l[p]? =some c→isFl c.op=false→D p)→HR P (cut ρ (hs q).next) (hs q) w
 |0,h,_,_=>by have:pb=0:=by omega
              subst this;exact I.hr hlive
 |q+1,h,hq,hD=>by
  by_cases e:pb=q+1
  ·subst e;exact I.hr hlive
  ·have hr:=I.absorb G hlive (q:=q) (by omega) (by omega) (fun p c hp hc hf=>hD p c (by omega) hc hf)
   obtain⟨j,o,c,A⟩:=G.at (q:=q) (by omega)
   obtain⟨b,hb,h1,h2,h3,h4⟩:=G.htr.step q _ A.can
   cases b with
   |false=>grind
   |true=>
    by_cases hf:isFl c.op=true
    ·grind [zdq,zdb]
    ·have hDq:=hD q _ (by omega) A.can (by grind)
     have hw0:=I.now q _ (by omega) hDq A.can
     have hw:isW c.op=false:=hw0
     by_cases hrd:isRd c.op=true
     ·grind
     ·have hop:=h3 rfl hw (by grind)
      rcases zfs hw with hc|hc
      ·grind [zdb]
      ·obtain⟨f,io,-,e2,-⟩:=ze8 hc hop
       obtain⟨R,hR,ho,hinj⟩:=I.fl q (by omega) (by omega) hDq io e2
       rw[e2] at ho⊢
       exact hr.addLate hR ho (I.blk _ _ hR) hinj I.gl.2
structure Now (P:Program) (N:Nat) (ops:Array Oper) (cis l:List CI) (order ws:List Nat) (D:Nat→Prop) (q j:Nat) (o:Oper) (c:CI):Prop where
 A:At P N ops cis l order ws q j o c
 not: ¬D q
 anc: ∀i,((ancs ops.toList).getD j 0).testBit i=true→ ∃p,order[p]? =some i∧D p
 down: ∀p i k,D p→order[p]? =some i→((ancs ops.toList).getD i 0).testBit k=true→ ∃p',order[p']? =some k∧D p'
 lt: ∀p,D p→p<l.length
variable {q j:Nat} {o:Oper} {c:CI}
theorem Now.later (G:Reg P ih M N ex ops cis l order ws ss hs vs) (W:Now P N ops cis l order ws D q j o c) {p:Nat} (hp:D p) (hq:q<p) {x:List Bool} (hx:x∈zbs c):zex l p≠some x:=by
 intro hd
 obtain⟨i,o',d,A'⟩:=G.at (W.lt p hp)
 rw[A'.dst] at hd
 rcases zdN (G.hord.names q j c W.A.ord W.A.ci) hx A'.ci hd with h|h|h
 ·subst h;have:=G.hord.inj q p _ W.A.ord A'.ord;omega
 ·obtain⟨q',h1,h2⟩:=G.hord.before q j i W.A.ord h
  have:=G.hord.inj q' p _ h2 A'.ord;omega
 ·obtain⟨p',h1,h2⟩:=W.down p i j hp A'.ord h
  have:=G.hord.inj p' q _ h1 W.A.ord
  subst this;exact W.not h2
theorem Now.earlier (G:Reg P ih M N ex ops cis l order ws ss hs vs) (W:Now P N ops cis l order ws D q j o c) {p:Nat} (hq:p<q) {x:List Bool} (hx:x∈zbs c) (hd:zex l p=some x):D p:=by
 have hps:p<l.length:=by have:=W.A.lt G;omega
 obtain⟨i,o',d,A'⟩:=G.at hps
 rw[A'.dst] at hd
 rcases zdN (G.hord.names q j c W.A.ord W.A.ci) hx A'.ci hd with h|h|h
 ·subst h;have:=G.hord.inj q p _ W.A.ord A'.ord;omega
 ·obtain⟨p',h1,h2⟩:=W.anc i h
  have:=G.hord.inj p' p _ h1 A'.ord
  grind
 ·obtain⟨p',h1,h2⟩:=G.hord.before p i j A'.ord h
  have:=G.hord.inj p' q _ h2 W.A.ord;omega
theorem Inv.slots (G:Reg P ih M N ex ops cis l order ws ss hs vs) (I:Inv P N l.length l ss hs vs ρ0 w0 Ds live D pb ρ a w) (W:Now P N ops cis l order ws D q j o c):SR (cut ρ (hs q).next) (zci (zbs c) (ss q)) a.tmps:=by
 intro t v hv
 have hqs:=W.A.lt G
 rw[zcM] at hv
 split at hv
 ·rename_i hx
  rcases G.slotAt (bits t) (q:=q) (by omega) with⟨q1,h1,h2,h3,h4⟩| ⟨h1,h2⟩
  ·have hD1:=W.earlier G h1 hx h2
   rw[h4] at hv;cases hv
   obtain⟨v',a1,a2⟩:=I.new q1 (by omega) hD1 t h2 (fun q' b1 b2=>by
    by_cases hlt:q'<q
    ·grind
    ·have hne:q'≠q:=fun e=>W.not (e▸b2)
     exact W.later G b2 (by omega) hx)
   exact⟨v',a1,a2.mono (zcw (fun _ _ h=>h) (G.nextMono (by omega) (by omega)))⟩
  ·rw[h2] at hv
   obtain⟨v',a1,a2⟩:=I.old t (fun q' b=>by
    by_cases hlt:q'<q
    ·grind
    ·have hne:q'≠q:=fun e=>W.not (e▸b)
     exact W.later G b (by omega) hx) v hv
   exact⟨v',a1,a2.mono (fun i R hi=>zo.2 ⟨Nat.lt_of_lt_of_le (I.zero i R hi) (G.nextMono (Nat.zero_le _) (by omega)),I.ext.le i R hi⟩)⟩
 grind
theorem Inv.putSlots (G:Reg P ih M N ex ops cis l order ws ss hs vs) (I:Inv P N l.length l ss hs vs ρ0 w0 Ds live D pb ρ a w) (W:Now P N ops cis l order ws D q j o c) {v':Value} {σ:Rho} (hle:zhD ρ σ) (hv:VR (cut σ (hs (q+1)).next) (vs q) v'):
 (∀t:Nat,(∀p,(D p∨p=q)→zex l p≠some (bits t))→ ∀v,(ss 0).get (bits t)=some v→ ∃v0,(a.put o.dst v').tmps[t]? =some v0∧VR ρ0 v v0)∧
 (∀p,p<l.length→(D p∨p=q)→ ∀t:Nat,zex l p=some (bits t)→(∀p',p<p'→(D p'∨p'=q)→zex l p'≠some (bits t))→ ∃v0,(a.put o.dst v').tmps[t]? =some v0∧VR (cut σ (hs (p+1)).next) (vs p) v0)∧
 (a.put o.dst v').tmps.size=N∧(a.put o.dst v').defers=Ds:=by
 obtain⟨hop,hdst,hdlt⟩:=zbj W.A.comp
 have hdq:zex l q=o.dst.map bits:=W.A.dst.trans hdst
 have put_ne: ∀t:Nat,o.dst≠some t→(a.put o.dst v').tmps[t]? =a.tmps[t]?:=by
  intro t ht
  cases hd:o.dst with
  |none=>rfl
  |some d=>
   show(a.tmps.setIfInBounds d v')[t]? =_
   grind
 have ne_of: ∀t:Nat,zex l q≠some (bits t)→o.dst≠some t:=by
  grind
 refine⟨fun t ht v hv=> ?_,fun p hp hDp t ht hlater=> ?_,?_,?_⟩
 ·rw[put_ne t (ne_of t (ht q (.inr rfl)))]
  exact I.old t (fun p hp=>ht p (.inl hp)) v hv
 ·by_cases e:p=q
  ·subst e
   rw[hdq] at ht
   obtain⟨d,hd,hbt⟩:=Option.map_eq_some_iff.1 ht
   have:=zf3 hbt;subst this
   refine⟨v',?_,hv⟩
   rw[hd]
   show(a.tmps.setIfInBounds d v')[d]? =_
   have:d<a.tmps.size:=by rw[I.size];grind
   grind
  ·have hDp':D p:=hDp.resolve_right e
   have hne:zex l q≠some (bits t):=by
    intro h
    by_cases hlt:q<p
    ·refine W.later G hDp' hlt (x:=bits t) ?_ ht
     grind [zbs]
    grind
   rw[put_ne t (ne_of t hne)]
   obtain⟨v0,a1,a2⟩:=I.new p hp hDp' t ht (fun p' b1 b2=>hlater p' b1 (.inl b2))
   exact⟨v0,a1,a2.mono (zcw hle (Nat.le_refl _))⟩
 ·cases o.dst<;>simp[Act.put,I.size]
 ·cases o.dst<;>simp[Act.put,I.defers]
theorem Inv.pb_le (I:Inv P N l.length l ss hs vs ρ0 w0 Ds live D pb ρ a w) (W:Now P N ops cis l order ws D q j o c) (hf:isFl c.op=false):pb≤q:=by
 by_cases h:pb≤q
 ·exact h
 ·exact absurd (I.done q _ (by omega) W.A.can hf) W.not
theorem new_ne (h:H) (io:IObj):h.new io≠h:=by
 intro e
 have:=congrArg H.next e
 simp at this
theorem Inv.pure (G:Reg P ih M N ex ops cis l order ws ss hs vs) (I:Inv P N l.length l ss hs vs ρ0 w0 Ds live D pb ρ a w) (W:Now P N ops cis l order ws D q j o c) (hw:isW c.op=false) (hh:hs (q+1)=hs q) {v':Value} (hv:VR (cut ρ (hs q).next) (vs q) v'):
 Inv P N l.length l ss hs vs ρ0 w0 Ds live (fun p=>D p∨p=q) pb ρ (a.put o.dst v') w:=by
 obtain⟨s1,s2,s3,s4⟩:=I.putSlots G W (σ:=ρ) (fun _ _ h=>h) (by rw[hh];exact hv)
 refine⟨I.base,I.le,fun p d hp hd hf=>.inl (I.done p d hp hd hf),fun p d hp hD hd=> ?_,I.hr,fun p hp hps hD io hio=> ?_,I.blk,I.gl,fun i R hi=> ?_,s1,s2,s3,s4,I.ext,I.zero⟩
 ·rcases hD with hD|rfl
  ·exact I.now p d hp hD hd
  ·rw[W.A.can] at hd;grind
 ·rcases hD with hD|rfl
  ·exact I.fl p hp hps hD io hio
  grind [new_ne]
 ·rcases I.dom i R hi with h| ⟨p,io,h1,h2,h3,h4⟩
  all_goals grind
theorem Inv.alloc (G:Reg P ih M N ex ops cis l order ws ss hs vs) (I:Inv P N l.length l ss hs vs ρ0 w0 Ds live D pb ρ a w) (W:Now P N ops cis l order ws D q j o c) (hw:isW c.op=false) (hf:isFl c.op=false) {io:IObj} (hh:hs (q+1)=(hs q).new io) {v':Value} {R:RB} {ob:Obj}
 (hR:R.blk=w.heap.size) (hcalm:Calm ob) (hv:VR (upd (cut ρ (hs q).next) (hs q).next R) (vs q) v') (ho:OR P (upd (cut ρ (hs q).next) (hs q).next R) (w.alloc ob) R io):
 Inv P N l.length l ss hs vs ρ0 w0 Ds live (fun p=>D p∨p=q) pb (upd ρ (hs q).next R) (a.put o.dst v') (w.alloc ob):=by
 have hqs:=W.A.lt G
 have hpq:=I.pb_le W hf
 have hfree:ρ (hs q).next=none:=by
  cases hn:ρ (hs q).next with
  |none=>rfl
  |some S=>
   exfalso
   rcases I.dom _ _ hn with h| ⟨p,io',h1,h2,h3,h4,h5⟩
   ·have:=G.nextMono hpq (by omega);omega
   ·have hne:p≠q:=fun e=>W.not (e▸h3)
    have hp1:(hs (p+1)).next=(hs p).next+1:=by simp_all
    by_cases hlt:p<q
    ·have:=G.nextMono (p:=p+1) (q:=q) (by omega) (by omega);omega
    ·have:=G.nextMono (p:=q+1) (q:=p) (by omega) (by omega)
     have hq1:(hs (q+1)).next=(hs q).next+1:=by simp_all
     omega
 have hle:zhD ρ (upd ρ (hs q).next R):=zdF R hfree
 have hq1:(hs (q+1)).next=(hs q).next+1:=by simp_all
 have hcut:upd (cut ρ (hs q).next) (hs q).next R=cut (upd ρ (hs q).next R) (hs (q+1)).next:=by
  grind [upd,cut]
 obtain⟨s1,s2,s3,s4⟩:=I.putSlots G W hle (by rw[←hcut];exact hv)
 have hcb:cut (upd ρ (hs q).next R) (hs pb).next=cut ρ (hs pb).next:=by
  funext i
  unfold cut upd
  have:=G.nextMono hpq (by omega)
  grind
 have blk': ∀i S,upd ρ (hs q).next R i=some S→(i=(hs q).next∧S=R)∨(i≠(hs q).next∧ρ i=some S):=by
  grind [upd]
 refine⟨I.base,I.le,fun p d hp hd hf=>.inl (I.done p d hp hd hf),fun p d hp hD hd=> ?_,fun hl=>by rw[hcb];exact((I.hr hl).garbage hcalm).1,fun p hp hps hD io' hio=> ?_,fun i S hi=> ?_,⟨I.gl.1.to fun _ _ e=>zI (I.gl.1.lt e),fun b x e i S hi hs=>by
  rcases blk' i S hi with⟨_,rfl⟩| ⟨_,h⟩
  ·have:=I.gl.1.lt e;omega
  ·exact I.gl.2 b x e i S h hs⟩,fun i S hi=> ?_,s1,s2,s3,s4,?_,I.zero⟩
 ·rcases hD with hD|rfl
  ·exact I.now p d hp hD hd
  ·rw[W.A.can] at hd;grind
 ·by_cases e:p=q
  ·subst e
   rw[hh] at hio
   have e2:io=io':=by
    have h1:((hs p).new io).get (hs p).next=some io:=by simp
    simp_all
   subst e2
   refine⟨R,zH _ _ _,by grind,fun i S hi hS=> ?_⟩
   rcases blk' i S hi with⟨h,_⟩| ⟨_,h⟩
   ·exact h
   ·have:=I.blk i S h;omega
  ·obtain⟨S,h1,h2,h3⟩:=I.fl p hp hps (hD.resolve_right e) io' hio
   refine⟨S,hle _ _ h1,h2.mono (zcw hle (Nat.le_refl _)) (zI (I.blk _ _ h1)),fun i T hi hT=> ?_⟩
   rcases blk' i T hi with⟨_,rfl⟩| ⟨_,h⟩
   ·have:=I.blk _ _ h1;omega
   grind
 ·rcases blk' i S hi with⟨_,rfl⟩| ⟨_,h⟩
  ·simp[hR]
  ·have:=I.blk i S h;simp;omega
 ·rcases blk' i S hi with⟨h,_⟩| ⟨_,h⟩
  ·grind
  ·rcases I.dom i S h with h| ⟨p,io',h1,h2,h3,h4⟩
   all_goals grind
 ·refine I.ext.trans ⟨hle,by simp,fun i S hi=> ?_,fun B hB _=>zI hB,fun B r hr'=>⟨r,by grind [zI],rfl⟩,rfl,rfl,fun a _=>zlx hcalm a,⟨rfl,Nat.le_refl _⟩⟩
  grind
theorem Inv.write (G:Reg P ih M N ex ops cis l order ws ss hs vs) (I:Inv P N l.length l ss hs vs ρ0 w0 Ds live D pb ρ a w) (W:Now P N ops cis l order ws D q j o c) (hw:isW c.op=true) {v':Value} {σ:Rho} {w':World}
 (hv:VR σ (vs q) v') (hr:HR P σ (hs (q+1)) w') (he:Ext (cut ρ (hs q).next) w σ w'):
 ∃τ,Inv P N l.length l ss hs vs ρ0 w0 Ds live (fun p=>D p∨p=q) (q+1) τ (a.put o.dst v') w':=by
 have hqs:=W.A.lt G
 have hfl:isFl c.op=false:=by
  grind [zdq]
 have hpq:=I.pb_le W hfl
 have hst:=G.nextStep hqs
 have hall: ∀p d,p<q→l[p]? =some d→isFl d.op=false→D p:=fun p d hp hd hf=>by
  obtain⟨i,o',d',A'⟩:=G.at (q:=p) (by omega)
  rw[A'.can] at hd;cases hd
  have:=G.hord.writer q j c W.A.ord W.A.ci hw p i d' hp A'.ord A'.ci hf
  obtain⟨p',h1,h2⟩:=W.anc i this
  have:=G.hord.inj p' p _ h1 A'.ord
  grind
 let τ:Rho:=fun i=>if i<(hs (q+1)).next then σ i else ρ i
 have τ1: ∀i,i<(hs (q+1)).next→τ i=σ i:=fun i h=>if_pos h
 have τ2: ∀i,¬i<(hs (q+1)).next→τ i=ρ i:=fun i h=>if_neg h
 have split: ∀i R,ρ i=some R→i<(hs q).next∨(hs (q+1)).next≤i:=by
  intro i R hi
  rcases I.dom i R hi with h| ⟨p,io,h1,h2,h3,h4,h5⟩
  ·have:=G.nextMono hpq (by omega);grind
  ·have hne:p≠q:=fun e=>W.not (e▸h3)
   have hp1:(hs (p+1)).next=(hs p).next+1:=by simp_all
   by_cases hlt:p<q
   ·have:=G.nextMono (p:=p+1) (q:=q) (by omega) (by omega);grind
   ·have:=G.nextMono (p:=q+1) (q:=p) (by omega) (by omega);grind
 have hle:zhD ρ τ:=by
  intro i R hi
  rcases split i R hi with h|h
  ·rw[τ1 i (by omega)];exact he.le i R (zo.2 ⟨h,hi⟩)
  grind
 have hcut:cut τ (hs (q+1)).next=σ:=by
  funext i
  unfold cut
  by_cases h:i<(hs (q+1)).next
  ·grind
  ·rw[if_neg h];exact(hr.nxt i (by omega)).1.symm
 obtain⟨s1,s2,s3,s4⟩:=I.putSlots G W hle (by rw[hcut];exact hv)
 have hext:Ext ρ0 w0 τ w':=by
  refine⟨fun i R hi=>hle i R (I.ext.le i R hi),Nat.le_trans I.ext.size he.size,fun i R hi=> ?_,fun B hB hn=> ?_,fun B r hr'=> ?_,he.os.trans I.ext.os,he.out.trans I.ext.out,fun a ha=>(he.froz a (Nat.lt_of_lt_of_le ha I.ext.size)).trans (I.ext.froz a ha),⟨he.td.1.trans I.ext.td.1,Nat.le_trans I.ext.td.2 he.td.2⟩⟩
  ·by_cases h:i<(hs (q+1)).next
   ·rw[τ1 i h] at hi
    rcases he.fresh i R hi with⟨k,S,hk,hS⟩|hb
    ·rcases I.ext.fresh k S (zo.1 hk).2 with⟨k',T,hk',hT⟩|hb
     all_goals grind
    ·exact .inr (Nat.le_trans I.ext.size hb)
   ·rw[τ2 i h] at hi;exact I.ext.fresh i R hi
  ·rw[he.frame B (Nat.lt_of_lt_of_le hB I.ext.size) ?_,I.ext.frame B hB hn]
   intro i R hi e
   rcases I.ext.fresh i R (zo.1 hi).2 with⟨k,S,hk,hS⟩|hb
   all_goals grind
  ·obtain⟨r1,h1,h2⟩:=I.ext.loops B r hr'
   obtain⟨r2,h3,h4⟩:=he.loops B r1 h1
   grind
 refine⟨τ,fun _=>.inr ⟨q,_,rfl,W.A.can,hw⟩,hqs,fun p d hp hd hf=> ?_,fun p d hp hD hd=> ?_,fun _=>by grind,fun p hp hps hD io hio=> ?_,fun i R hi=> ?_,⟨hr.gl.1,fun b x e i R hi hsb=>by
  by_cases h:i<(hs (q+1)).next
  ·rw[τ1 i h] at hi;exact hr.gl.2 b x e i R hi hsb
  ·rw[τ2 i h] at hi;exact I.gl.2 b x e i R hi hsb⟩,fun i R hi=> ?_,s1,s2,s3,s4,hext,I.zero⟩
 ·grind
 ·rcases hD with hD|rfl
  ·exact I.now p d (by omega) hD hd
  ·omega
 ·have hD':D p:=hD.resolve_right (by omega)
  obtain⟨R,h1,h2,h3⟩:=I.fl p (by omega) hps hD' io hio
  have hnp:=G.nextMono (p:=q+1) (q:=p) hp (by omega)
  have hnot: ∀i S,cut ρ (hs q).next i=some S→S.blk≠R.blk:=by
   grind [zo]
  refine⟨R,hle _ _ h1,h2.mono (zcw hle (Nat.le_refl _)) (he.frame R.blk (I.blk _ _ h1) hnot),fun i S hi hS=> ?_⟩
  by_cases h:i<(hs (q+1)).next
  ·rw[τ1 i h] at hi
   rcases he.fresh i S hi with⟨k,T,hk,hT⟩|hb
   ·grind
   ·have:=I.blk _ _ h1;omega
  grind
 ·by_cases h:i<(hs (q+1)).next
  ·rw[τ1 i h] at hi;exact hr.blk i R hi
  ·rw[τ2 i h] at hi;exact Nat.lt_of_lt_of_le (I.blk i R hi) he.size
 ·by_cases h:i<(hs (q+1)).next
  ·grind
  ·rw[τ2 i h] at hi
   rcases I.dom i R hi with h'| ⟨p,io,h1,h2,h3,h4,h5⟩
   ·have:=G.nextMono (p:=pb) (q:=q+1) (by omega) (by omega);grind
   ·have hne:p≠q:=fun e=>W.not (e▸h3)
    by_cases hlt:p<q
    ·have hp1:(hs (p+1)).next=(hs p).next+1:=by simp_all
     have:=G.nextMono (p:=p+1) (q:=q) (by omega) (by omega)
     grind
    grind
end
end Go.Ideal
namespace Go.Ideal
variable {P:Program}
theorem ziZ: ∀(l m:List Nat),l.Nodup→(∀x∈l,x∈m)→l.length≤m.length
 | [],m,_,_=>Nat.zero_le _
 |x::l,m,hn,hs=>by
  obtain⟨h1,h2⟩:=List.nodup_cons.1 hn
  have hx:=hs x (by simp)
  have:=ziZ l (m.erase x) h2 (fun y hy=>(List.mem_erase_of_ne (fun e=>h1 (by grind))).2 (hs y (by simp[hy])))
  grind
theorem zd7 (d:List Nat): ∀(es:List Edge) (s i:Nat),s.testBit i=true→(es.foldl (fun s e=>s ||| 2^e.on ||| d.getD e.on 0) s).testBit i=true
 | [],s,i,h=>h
 |e::es,s,i,h=>by
  rw[List.foldl_cons]
  exact zd7 d es _ i (by grind)
theorem zhp (d:List Nat): ∀(es:List Edge) (s:Nat) (e:Edge),e∈es→(es.foldl (fun s e=>s ||| 2^e.on ||| d.getD e.on 0) s).testBit e.on=true
 |e'::es,s,e,h=>by
  rw[List.foldl_cons]
  rcases List.mem_cons.1 h with rfl|h
  ·exact zd7 d es _ _ (by grind)
  ·exact zhp d es _ e h
theorem zlI: ∀(r:List Oper) (j:Nat) (o:Oper),r.reverse[j]? =some o→ ∀e∈o.after.toList,Region.binds .any e=true→((ancs r.reverse).getD j 0).testBit e.on=true
 | [],j,o,h,e,he,hb=>by grind
 |x::r,j,o,h,e,he,hb=>by
  rw[List.reverse_cons] at h⊢
  rw[zhC]
  have hlen:(ancs r.reverse).length=r.reverse.length:=zgV _
  by_cases hlt:j<r.reverse.length
  ·rw[List.getElem?_append_left hlt] at h
   rw[List.getD_eq_getElem?_getD,List.getElem?_append_left (by omega),←List.getD_eq_getElem?_getD]
   exact zlI r j o h e he hb
  ·have hjl:=(List.getElem?_eq_some_iff.1 h).1
   simp only[List.length_append,List.length_cons,List.length_nil] at hjl
   have hje:j=r.reverse.length:=by omega
   subst hje
   rw[List.getElem?_append_right (Nat.le_refl _),Nat.sub_self] at h
   cases h
   rw[List.getD_eq_getElem?_getD,List.getElem?_append_right (by omega),hlen,Nat.sub_self]
   exact zhp _ _ 0 e (List.mem_filter.2 ⟨he,hb⟩)
section
variable {ih:IH} {M N:Nat} {ex:Nat→Prop} {ops:Array Oper} {cis l:List CI} {order ws:List Nat} {ss:Nat→za} {hs:Nat→H} {vs:Nat→Value}
variable {ρ0 ρ:Rho} {w0 w:World} {Ds:List Nat} {Db:List Deferred} {live:Prop} {D:Nat→Prop} {pb:Nat} {a:Act} {q j:Nat} {o:Oper} {c:CI}
def wIdx (cis:List CI) (i:Nat):Bool:=match cis[i]? with|some c=>isW c.op|none=>false
theorem Reg.wcount_eq (G:Reg P ih M N ex ops cis l order ws ss hs vs) (q:Nat):zy l q=((order.take q).filter (wIdx cis)).length:=by
 have hmap:l.map (fun c=>isW c.op)=order.map (wIdx cis):=by
  apply List.ext_getElem?
  intro i
  rw[List.getElem?_map,List.getElem?_map]
  by_cases hi:i<order.length
  ·obtain⟨y,hy,hyl⟩:=(zb1 G.hl).2 i _ (List.getElem?_eq_getElem hi)
   grind [wIdx]
  ·rw[List.getElem?_eq_none (by have:=(zb1 G.hl).1;omega),List.getElem?_eq_none (by omega)];rfl
 unfold zy
 rw[←List.countP_eq_length_filter,←List.countP_eq_length_filter]
 have e1: ∀(xs:List CI),List.countP (fun c=>isW c.op) xs=List.countP id (xs.map fun c=>isW c.op):=fun xs=>by simp_all
 have e2: ∀(xs:List Nat),List.countP (wIdx cis) xs=List.countP id (xs.map (wIdx cis)):=fun xs=>by simp_all
 grind [List.map_take]
theorem Inv.lo (G:Reg P ih M N ex ops cis l order ws ss hs vs) (I:Inv P N l.length l ss hs vs ρ0 w0 (Ds.map zC++Db) live D pb ρ a w) (W:Now P N ops cis l order ws D q j o c):loOf (ancs ops.toList) ws j≤zy l pb:=by
 rw[G.wcount_eq]
 unfold loOf
 refine ziZ _ _ ?_ ?_
 ·rw[G.hws];unfold wsOf;exact(List.nodup_range.filter _).filter _
 ·intro k hk
  obtain⟨hk1,hk2⟩:=List.mem_filter.1 hk
  rw[G.hws] at hk1
  unfold wsOf at hk1
  obtain⟨hk3,hk4⟩:=List.mem_filter.1 hk1
  obtain⟨p,h1,h2⟩:=W.anc k hk2
  obtain⟨k',o',d,A'⟩:=G.at (W.lt p h2)
  have e:k'=k:=by have:=A'.ord;grind
  subst e
  have hw:isW d.op=true:=by rw[A'.ci] at hk4;grind
  have hlt:p<pb:=by
   by_cases h:p<pb
   ·exact h
   ·have hn:=I.now p _ (by omega) h2 A'.can
    grind
  refine List.mem_filter.2 ⟨?_,by grind [wIdx]⟩
  have:(order.take pb)[p]? =some k':=by grind
  grind
theorem Now.allDone (G:Reg P ih M N ex ops cis l order ws ss hs vs) (W:Now P N ops cis l order ws D q j o c) (hw:isW c.op=true): ∀p d,p<q→l[p]? =some d→isFl d.op=false→D p:=fun p d hp hd hf=>by
 have:=W.A.lt G
 obtain⟨i,o',d',A'⟩:=G.at (q:=p) (by omega)
 rw[A'.can] at hd;cases hd
 have:=G.hord.writer q j c W.A.ord W.A.ci hw p i d' hp A'.ord A'.ci hf
 obtain⟨p',h1,h2⟩:=W.anc i this
 have:=G.hord.inj p' p _ h1 A'.ord
 grind
theorem zdR {op:COp} (h:isW op=true):isFl op=false:=by
 grind [zdq]
theorem float_run (W:Now P N ops cis l order ws D q j o c) {ρ:Rho} (hS:SR (cut ρ (hs q).next) (zci (zbs c) (ss q)) a.tmps) (hblk: ∀i R,ρ i=some R→R.blk<w.heap.size) (hgl:GlOk w∧ ∀b x,gZ=some (b,x)→ ∀i R,ρ i=some R→R.blk=b→R.fix≠none) (hf:isFl c.op=true)
 (hv:opV c.op (ss q) (hs q)=some (vs q,hs (q+1))):hs (q+1)=hs q∧ ∃v',(execOp a.eval o).run P w=.ok (.value v') w∧VR (cut ρ (hs q).next) (vs q) v':=by
 obtain⟨k1,k2,k3⟩:=zdq hf
 obtain⟨hop,hdst,hdlt⟩:=zbj W.A.comp
 obtain⟨e1,e2⟩:=zdb k1 k2 k3 hv
 have hag:zbi (zf c.op) (ss q) (zci (zbs c) (ss q)):=.keep _ fun p hp=>by simp[zbs,hp]
 have hno: ∀i,H.get ⟨(hs q).next,.nil⟩ i=none:=fun i=>PT.get_nil _
 have hE:HR P (cut ρ (hs q).next) ⟨(hs q).next,.nil⟩ w:=by
  refine⟨fun i R o _ ho=> ?_,fun i hi=>⟨?_,hno i⟩,fun i j R S _ _ hai _ _=> ?_,fun i R hi=>hblk i R (zo.1 hi).2,fun i b x hi=>by grind,hgl.1,fun b x e i R hi hs=>hgl.2 b x e i R (zo.1 hi).2 hs⟩
  ·grind
  ·grind [cut]
  ·obtain⟨x,hx,_⟩:=hai
   grind
 have hv':=e2 ⟨(hs q).next,.nil⟩
 rw[zef hag] at hv'
 have hsim:=op_sim hop hE hS hv'
 rw[k3] at hsim
 exact⟨e1,hsim.2⟩
theorem Reg.keep (G:Reg P ih M N ex ops cis l order ws ss hs vs) {i:Nat} {io:IObj} {p q:Nat} (hq:q≤l.length) (hn: ∀m c,p≤m→m<q→l[m]? =some c→isW c.op=false) (hlt:i<(hs p).next) (hg:(hs p).get i=some io): ∀k,p+k≤q→(hs (p+k)).get i=some io
 |0,_=>hg
 |k+1,hk=>by
  have h0:=G.keep hq hn hlt hg k (by omega)
  obtain⟨j,o,c,A⟩:=G.at (q:=p+k) (by omega)
  have hw0:=hn (p+k) _ (by omega) (by omega) A.can
  have hw:isW c.op=false:=hw0
  obtain⟨b,hb,h1,h2,h3,h4⟩:=G.htr.step (p+k) _ A.can
  show(hs (p+k+1)).get i=_
  cases b with
  |false=>grind
  |true=>
   by_cases hrd:isRd c.op=true
   ·grind
   ·have hop:=h3 rfl hw (by grind)
    rcases zfs hw with hc|hc
    ·grind [zdb]
    ·obtain⟨f,io',-,e2,-⟩:=ze8 hc hop
     rw[e2,H.get_new,if_neg (by have:=G.nextMono (p:=p) (q:=p+k) (by omega) (by omega);omega)];exact h0
theorem Inv.one (G:Reg P ih M N ex ops cis l order ws ss hs vs) (hlive:live) (I:Inv P N l.length l ss hs vs ρ0 w0 (Ds.map zC++Db) live D pb ρ a w) (hq:q≤l.length) (hpq:pb≤q) {p0 i:Nat} {cs:List Value} {e:Nat} (h0:p0≤q) (hn: ∀p c,p0≤p→p<q→l[p]? =some c→isW c.op=false)
 (hi:(hs p0).next≤i) (hg:(hs q).get i=some (.cells cs e)) (hlt:i<(hs q).next):HR P (cut ρ (hs q).next) ⟨(hs q).next,PT.set .nil (bits i) (.cells cs e)⟩ w:=by
 have get: ∀k o,H.get ⟨(hs q).next,PT.set .nil (bits i) (.cells cs e)⟩ k=some o→k=i∧o=.cells cs e:=by
  intro k o ho
  have ho:(PT.set .nil (bits i) (IObj.cells cs e)).get (bits k)=some o:=ho
  grind [PT.get_set_same,PT.get_set_ne,zf3,PT.get_nil]
 have hpb:pb≤p0:=by
  rcases I.base hlive with h| ⟨p,c,h1,h2,h3⟩
  all_goals grind
 refine⟨fun k R o hk ho=> ?_,fun k hk=>⟨?_,?_⟩,fun j k R S _ _ hj hk _=> ?_,fun k R hk=>I.blk k R (zo.1 hk).2,fun k b x hk=> ?_,I.gl.1,fun b x e i R hi hs=>I.gl.2 b x e i R (zo.1 hi).2 hs⟩
 ·obtain⟨rfl,rfl⟩:=get k o ho
  obtain⟨-,hR⟩:=zo.1 hk
  rcases I.dom _ R hR with h| ⟨q1,io,h1,h2,h3,h4,h5⟩
  ·have:=G.nextMono hpb (by omega);omega
  ·have n1:(hs (q1+1)).next=(hs q1).next+1:=by rw[h4];simp
   have hq1:q1<q:=by
    by_cases h:q1<q
    ·exact h
    ·have:=G.nextMono (p:=q) (q:=q1) (by omega) (by omega);omega
   have hp1:p0≤q1:=by
    by_cases h:p0≤q1
    ·exact h
    ·have:=G.nextMono (p:=q1+1) (q:=p0) (by omega) (by omega);omega
   obtain⟨R1,f1,f2,-⟩:=I.fl q1 h1 h2 h3 io h4
   rw[←h5,hR] at f1;cases f1
   have hk:=G.keep (i:=k) (io:=io) (p:=q1+1) (q:=q) hq (fun m c y1 y2 hc=>hn m c (by omega) y2 hc) (by omega) (by grind [H.get_new]) (q - (q1+1)) (by omega)
   rw[show q1+1+(q - (q1+1))=q by omega,hg] at hk
   cases hk
   exact f2.mono (zcw (fun _ _ h=>h) (G.nextMono (by omega) hq)) rfl
 ·grind [cut]
 ·cases hh:H.get ⟨(hs q).next,PT.set .nil (bits i) (.cells cs e)⟩ k with
  |none=>rfl
  |some o=>grind
 ·obtain⟨x,hx,_⟩:=hj
  obtain⟨y,hy,_⟩:=hk
  grind
 grind
theorem Inv.step (G:Reg P ih M N ex ops cis l order ws ss hs vs) (hlive:live∨isFl c.op=true) (I:Inv P N l.length l ss hs vs ρ0 w0 (Ds.map zC++Db) live D pb ρ a w) (W:Now P N ops cis l order ws D q j o c) (r:Option Nat) {Q:Exit→Act→World→Prop} {K:Act→World→Prop}
 (hK: ∀pb' τ a' w',Inv P N l.length l ss hs vs ρ0 w0 (Ds.map zC++Db) live (fun p=>D p∨p=q) pb' τ a' w'→K a' w'):wpOpIn (Wf r) 0 P ops Q j K a w:=by
 have hqs:=W.A.lt G
 have hS:=I.slots G W
 obtain⟨hop,hdst,hdlt⟩:=zbj W.A.comp
 obtain⟨b,hb,h1,h2,h3,h4⟩:=G.htr.step q _ W.A.can
 have hag:zbi (zf c.op) (ss q) (zci (zbs c) (ss q)):=.keep _ fun p hp=>by simp[zbs,hp]
 have hgg:zbi (zdf c.guard) (ss q) (zci (zbs c) (ss q)):=.keep _ fun p hp=>by simp[zbs,hp]
 have hb':zbb c.guard (zci (zbs c) (ss q))=some b:=by grind [zfi]
 have hwant:=zcl W.A.comp hS hb'
 unfold wpOpIn
 simp only[W.A.op,hwant]
 cases b with
 |false=>
  simp only[Bool.false_eq_true,if_false]
  refine⟨fun f _=>Wf_fn r f,?_⟩
  obtain⟨e1,e2⟩:=h1 rfl
  have hvu: ∀σ,VR σ (vs q) undef:=fun σ=>by rw[e1];exact VR.tuple_of (VRL.nil σ)
  by_cases hw:isW c.op=true
  ·have hl:live:=hlive.resolve_right (by grind [zdR])
   obtain⟨τ,hI⟩:=I.write G W hw (σ:=cut ρ (hs q).next) (w':=w) (hvu _) (by rw[e2];exact I.absorb G hl (I.pb_le W (zdR hw)) (by omega) (W.allDone G hw)) (.refl _ _)
   grind
  ·exact hK _ _ _ _ (I.pure G W (by grind) e2 (hvu _))
 |true=>
  simp only[if_true]
  by_cases hw:isW c.op=true
  ·have hl:live:=hlive.resolve_right (by grind [zdR])
   have hr:=I.absorb G hl (I.pb_le W (zdR hw)) (by omega) (W.allDone G hw)
   have hv:=h2 rfl hw
   rw[doOp_agree hag] at hv
   refine op_wpV G.hih W.A.comp r hr hS hv (fun v' w' σ q1 q2 q3=> ?_)
   obtain⟨τ,hI⟩:=I.write G W hw q1 q2 q3
   grind
  ·have hw':isW c.op=false:=by grind
   refine⟨fun f _=>Wf_fn r f,?_⟩
   rw[Oper.semAt_eq _ _ _ (notDefer hop)]
   by_cases hfl:isFl c.op=true
   ·obtain⟨e1,v',e2,e3⟩:=float_run (vs:=vs) W hS I.blk I.gl hfl (h3 rfl hw' (zdq hfl).2.1)
    rw[e2]
    exact hK _ _ _ _ (I.pure G W hw' e1 e3)
   have hl:live:=hlive.resolve_right hfl
   have hfl':isFl c.op=false:=by grind
   have hpq:=I.pb_le W hfl'
   have hlift:HR P (cut ρ (hs q).next) ⟨(hs q).next,(hs pb).mem⟩ w:=(I.hr hl).lift (G.nextMono hpq (by omega)) I.blk I.gl.2
   have pureAt: ∀{g:H},HR P (cut ρ (hs q).next) g w→hs (q+1)=hs q→zZ c.op=.pure→opV c.op (ss q) g=some (vs q,g)→o.uponIn (Wf r) 0 P a K Q ((execOp a.eval o).run P w):=by
    intro g hlg hh hc hv
    rw[zef hag] at hv
    have hsim:=op_sim hop hlg hS hv
    rw[hc] at hsim
    obtain⟨-,v',e1,e2⟩:=hsim
    rw[e1]
    exact hK _ _ _ _ (I.pure G W hw' hh e2)
   by_cases hr:isRd c.op=true
   ·obtain⟨e1,e2⟩:=h4 rfl hw' hr
    have hcl:zZ c.op=.pure:=by
     rcases zfs hw' with h|h
     ·exact h
     ·exfalso
      cases hcop:c.op<;>rw[hcop] at hr h<;>simp[isRd,zZ] at hr h
      grind
    rcases e2 with e2| ⟨p0,f1,f2,f3,f4⟩
    ·refine pureAt hlift e1 hcl ?_
     have:=e2 pb hpq (I.base hl) (I.lo G W)
     exact(zhV hr (n:=(hs pb).next) (m:=(hs pb).mem) this).2 _
    ·obtain⟨-,i,g1,hlt,g2| ⟨cs,e,g2,g3⟩⟩:=zh9 f3 f4
     ·grind
     ·exact pureAt (I.one G hl (by omega) hpq f1 f2 g1 g2 hlt) e1 hcl (g3 _ (PT.get_set_same _ _ _))
   ·have hv:=h3 rfl hw' (by grind)
    rcases zfs hw' with hc|hc
    ·grind [zdb]
    ·obtain⟨f,io,e1,e2,e3⟩:=ze8 hc hv
     have hv':=e3 ⟨(hs q).next,(hs pb).mem⟩
     rw[zef hag] at hv'
     have hsim:=op_sim hop hlift hS hv'
     rw[hc] at hsim
     obtain⟨f',io',k1,k2,k3⟩:=hsim
     obtain⟨v',ob,R,z1,z2,z3,z4,z5⟩:=k3 (hs q).next (hlift.nxt _ (Nat.le_refl _)).1
     rw[z1]
     have eio:io=io':=by
      have h1:(H.new ⟨(hs q).next,(hs pb).mem⟩ io).get (hs q).next=some io:=by simp
      simp_all
     subst eio
     have ev:f' (hs q).next=vs q:=by grind
     rw[ev] at z3
     exact hK _ _ _ _ (I.alloc G W hw' hfl' e2 z2 z5 z3 z4)
def zN (listed:Array Bool) (i:Nat):Prop:=listed[i]? =some true
def zbI (order:List Nat) (listed:Array Bool) (q:Nat):Prop:= ∃j,order[q]? =some j∧zN listed j
theorem zfA {listed:Array Bool} {i:Nat} (hi:i<listed.size):listed.getD i true=true↔zN listed i:=by
 simp_all[zN]
theorem zei {listed:Array Bool} (hsz:listed.size=ops.size) {i:Nat}:i∈Region.ready .any ops listed↔ ∃o,ops[i]? =some o∧ ¬zN listed i∧ ∀e∈o.after.toList,Region.binds .any e=true→zN listed e.on:=by
 unfold Region.ready
 grind [zN,zfA,Array.all_eq_true_iff_forall_mem]
def unl (n:Nat) (listed:Array Bool):List Nat:=(List.range n).filter fun i=> !listed.getD i true
theorem unl_set {n:Nat} {listed:Array Bool} (hsz:listed.size=n) {i:Nat} (hi:i<n) (hn: ¬zN listed i):(unl n (listed.setIfInBounds i true)).length+1=(unl n listed).length:=by
 have key: ∀m,i<m∨m≤i→m≤n→((List.range m).filter fun k=> !(listed.setIfInBounds i true).getD k true).length+(if i<m then 1 else 0)=((List.range m).filter fun k=> !listed.getD k true).length:=by
  intro m _
  induction m with
  |zero=>grind
  |succ m ih=>
   intro hm
   rw[List.range_succ,List.filter_append,List.filter_append,List.length_append,List.length_append]
   have one: ∀(f:Nat→Bool),(List.filter f [m]).length=if f m=true then 1 else 0:=fun f=>by
    grind
   rw[one,one]
   have ihm:=ih (by omega) (by omega)
   by_cases e:i=m
   ·subst e
    rw[if_neg (by omega)] at ihm
    have h1:(listed.setIfInBounds i true).getD i true=true:=by simp_all
    grind [zfA]
   ·have h1:(listed.setIfInBounds i true).getD m true=listed.getD m true:=by
     simp_all
    grind
 have:=key n (.inl hi) (Nat.le_refl _)
 rw[if_pos hi] at this
 exact this
theorem zil {n:Nat} {listed:Array Bool} (hsz:listed.size=n) (h:unl n listed=[]): ∀i,i<n→zN listed i:=by
 intro i hi
 rw[←zfA (by omega)]
 have:=List.filter_eq_nil_iff.1 h i (List.mem_range.2 hi)
 grind
theorem zbI.lt (G:Reg P ih M N ex ops cis l order ws ss hs vs) {listed:Array Bool} {q:Nat} (h:zbI order listed q):q<l.length:=by
 obtain⟨j,hj,-⟩:=h
 have:=(List.getElem?_eq_some_iff.1 hj).1
 rw[G.ordLen] at this;grind
def zgt (ops:Array Oper) (listed:Array Bool):Prop:= ∀j,zN listed j→ ∀o,ops[j]? =some o→ ∀e∈o.after.toList,Region.binds .any e=true→zN listed e.on
theorem zbV {listed:Array Bool} (hcl:zgt ops listed) {j:Nat} {o:Oper} (ho:ops[j]? =some o) (hj: ∀e∈o.after.toList,Region.binds .any e=true→zN listed e.on) {i:Nat} (hi:((ancs ops.toList).getD j 0).testBit i=true):zN listed i:=
 zeE (S:=zN listed) ops.toList.reverse (by rw[List.reverse_reverse];intro j hj o ho;exact hcl j hj o (by grind)) j o (by grind) hj i (by grind)
theorem zkk (G:Reg P ih M N ex ops cis l order ws ss hs vs) {listed:Array Bool} (hsz:listed.size=ops.size) {i:Nat} (h:zN listed i) (hx: ¬ex i): ∃p,order[p]? =some i∧zbI order listed p:=by
 have hlt:i<ops.size:=by rw[←hsz];exact(Array.getElem?_eq_some_iff.1 h).1
 obtain⟨p,-,hp⟩:=G.atOp hlt hx
 exact⟨p,hp,i,hp,h⟩
theorem now_of (G:Reg P ih M N ex ops cis l order ws ss hs vs) {listed:Array Bool} (hsz:listed.size=ops.size) (hcl:zgt ops listed) {i:Nat} {o:Oper} (ho:ops[i]? =some o) (hn: ¬zN listed i) (hx: ¬ex i) (hall: ∀e∈o.after.toList,Region.binds .any e=true→zN listed e.on):
 ∃q c,Now P N ops cis l order ws (zbI order listed) q i o c:=by
 have hio:=(Array.getElem?_eq_some_iff.1 ho).1
 obtain⟨q,hq,hqo⟩:=G.atOp hio hx
 obtain⟨j,o',c,A⟩:=G.at hq
 have ej:j=i:=by have:=A.ord;grind
 subst ej
 have eo:o'=o:=by have:=A.op;grind
 subst eo
 have inOrd: ∀{p k m:Nat},order[p]? =some k→((ancs ops.toList).getD k 0).testBit m=true→ ¬ex m:=by
  intro p k m hk hm
  obtain⟨p',-,h2⟩:=G.hord.before p k m hk hm
  exact G.hex p' m h2
 refine⟨q,c,A,fun⟨k,h1,h2⟩=> ?_,fun m hm=>zkk G hsz (zbV hcl ho hall hm) (inOrd A.ord hm),fun p k m ⟨k',h1,h2⟩ hk hm=> ?_,fun p hp=>hp.lt G⟩
 ·grind
 ·rw[hk] at h1;cases h1
  have hk':k<ops.size:=by rw[←hsz];exact(Array.getElem?_eq_some_iff.1 h2).1
  exact zkk G hsz (zbV hcl (Array.getElem?_eq_getElem hk') (hcl k h2 _ (Array.getElem?_eq_getElem hk')) hm) (inOrd hk hm)
theorem zbR {listed:Array Bool} {j:Nat} (hj:j<listed.size) (k:Nat):zN (listed.setIfInBounds j true) k↔zN listed k∨k=j:=by
 grind [zN]
theorem zig {listed:Array Bool} (hsz:listed.size=ops.size) (hcl:zgt ops listed) {j:Nat} {o:Oper} (ho:ops[j]? =some o) (hall: ∀e∈o.after.toList,Region.binds .any e=true→zN listed e.on):zgt ops (listed.setIfInBounds j true):=by
 have hj:j<listed.size:=by grind
 intro k hk o2 ho2 e he hb
 rcases(zbR hj k).1 hk with hk|rfl
 ·exact(zbR hj _).2 (.inl (hcl k hk o2 ho2 e he hb))
 grind [zbR]
theorem zi9 (G:Reg P ih M N ex ops cis l order ws ss hs vs) {listed:Array Bool} {j q:Nat} (hj:j<listed.size) (hq:order[q]? =some j):(fun p=>zbI order listed p∨p=q)=zbI order (listed.setIfInBounds j true):=by
 funext p
 apply propext
 constructor
 ·rintro(⟨k,h1,h2⟩|rfl)
  ·exact⟨k,h1,(zbR hj k).2 (.inl h2)⟩
  ·exact⟨j,hq,(zbR hj j).2 (.inr rfl)⟩
 ·rintro⟨k,h1,h2⟩
  rcases(zbR hj k).1 h2 with h2|rfl
  ·exact .inl ⟨k,h1,h2⟩
  ·exact .inr (G.hord.inj p q _ h1 hq)
theorem done_set_ex (G:Reg P ih M N ex ops cis l order ws ss hs vs) {listed:Array Bool} {j:Nat} (hj:j<listed.size) (hx:ex j):zbI order listed=zbI order (listed.setIfInBounds j true):=by
 funext p
 apply propext
 constructor
 ·rintro⟨k,h1,h2⟩;exact⟨k,h1,(zbR hj k).2 (.inl h2)⟩
 ·rintro⟨k,h1,h2⟩
  rcases(zbR hj k).1 h2 with h2|rfl
  ·exact⟨k,h1,h2⟩
  ·exact absurd hx (G.hex p _ h1)
theorem zhQ {listed:Array Bool} (hsz:listed.size=ops.size) {i:Nat} (hi:i<ops.size) (hn: ¬zN listed i) (hback: ∀j o,ops[j]? =some o→ ∀e∈o.after.toList,Region.binds .any e=true→e.on<j):Region.ready .any ops listed≠[]:=by
 intro hnil
 have hex: ∀m,m≤ops.size→(∀q,q<m→zN listed q):=by
  intro m
  induction m with
  |zero=>grind
  |succ m ihm=>
   intro hm q hq
   have hprev:=ihm (by omega)
   by_cases hqm:q<m
   ·grind
   ·have:q=m:=by omega
    subst this
    refine Classical.byContradiction fun hn=> ?_
    have:q∈Region.ready .any ops listed:=(zei hsz).2 ⟨ops[q],Array.getElem?_eq_getElem (by omega),hn,fun e he hb=>hprev _ (hback q _ (Array.getElem?_eq_getElem (by omega)) e he hb)⟩
    grind
 grind
theorem Inv.slotsAll (G:Reg P ih M N ex ops cis l order ws ss hs vs) (I:Inv P N l.length l ss hs vs ρ0 w0 (Ds.map zC++Db) live D pb ρ a w) (hlt: ∀p,D p→p<l.length) {ps:List (List Bool)} (hps: ∀p∈ps,∀q,q<l.length→zex l q=some p→D q):SR ρ (zci ps (ss l.length)) a.tmps:=by
 intro t v hv
 rw[zcM] at hv
 split at hv
 ·rename_i hx
  rcases G.slotAt (bits t) (q:=l.length) (Nat.le_refl _) with⟨q1,h1,h2,h3,h4⟩| ⟨h1,h2⟩
  ·rw[h4] at hv;cases hv
   obtain⟨v',a1,a2⟩:=I.new q1 h1 (hps _ hx q1 h1 h2) t h2 (fun q' b1 b2=>h3 q' b1 (hlt q' b2))
   exact⟨v',a1,a2.mono (cut_le _ _)⟩
  ·rw[h2] at hv
   obtain⟨v',a1,a2⟩:=I.old t (fun q' b=>h1 q' (hlt q' b)) v hv
   exact⟨v',a1,a2.mono I.ext.le⟩
 grind
theorem Inv.slotsFin (G:Reg P ih M N ex ops cis l order ws ss hs vs) (I:Inv P N l.length l ss hs vs ρ0 w0 (Ds.map zC++Db) live D pb ρ a w) (hlt: ∀p,D p→p<l.length) (hall: ∀q,q<l.length→D q):SR ρ (ss l.length) a.tmps:=by
 intro t v hv
 have:=I.slotsAll G hlt (ps:=[bits t]) (fun p _ q hq _=>hall q hq)
 exact this t v (by grind [zcM])
theorem Inv.cut_all (G:Reg P ih M N ex ops cis l order ws ss hs vs) (I:Inv P N l.length l ss hs vs ρ0 w0 (Ds.map zC++Db) live D pb ρ a w):cut ρ (hs l.length).next=ρ:=by
 funext i
 unfold cut
 by_cases h:i<(hs l.length).next
 ·grind
 ·rw[if_neg h]
  cases hi:ρ i with
  |none=>rfl
  |some R=>
   exfalso
   rcases I.dom i R hi with h'| ⟨q,io,h1,h2,h3,h4,h5⟩
   ·have:=G.nextMono I.le (Nat.le_refl _);omega
   ·have:=G.nextMono (p:=q+1) (q:=l.length) (by omega) (Nat.le_refl _)
    have hq1:(hs (q+1)).next=(hs q).next+1:=by simp_all
    omega
theorem draw_any (G:Reg P ih M N (fun _=>False) ops cis l order ws ss hs vs) (hback: ∀j o,ops[j]? =some o→ ∀e∈o.after.toList,Region.binds .any e=true→e.on<j) (r:Option Nat) (hD0:zR ρ0 w0 Ds): ∀(fuel:Nat) (listed:Array Bool) (a:Act) (w:World) (pb:Nat) (ρ:Rho),listed.size=ops.size→(unl ops.size listed).length=fuel→zgt ops listed→
 Inv P N l.length l ss hs vs ρ0 w0 (Ds.map zC++Db) True (zbI order listed) pb ρ a w→wpAnyIn (Wf r) 0 P .any ops (zcY P ρ0 w0 N Ds Db (.nrm (ss l.length) (hs l.length))) fuel listed a w:=by
 intro fuel
 induction fuel with
 |zero=>
  intro listed a w pb ρ hsz hfuel hcl I
  have hall:=zil hsz (List.length_eq_zero_iff.1 hfuel)
  have hDall: ∀q,q<l.length→zbI order listed q:=by
   intro q hq
   obtain⟨j,o,c,A⟩:=G.at hq
   exact⟨j,A.ord,hall j (Array.getElem?_eq_some_iff.1 A.op).1⟩
  refine⟨?_,?_⟩
  ·cases hr:Region.ready .any ops listed with
   |nil=>rfl
   |cons i r'=>
    grind [zei,List.mem_cons_self]
  ·have hr:=I.absorb G trivial I.le (Nat.le_refl _) (fun p _ hp _ _=>hDall p hp)
   rw[I.cut_all G] at hr
   exact⟨ρ,Ds,ss l.length,hs l.length,I.ext,I.size,I.defers,⟨hD0.ext I.ext,fun D h=>.inl h⟩,I.slotsFin G (fun p hp=>hp.lt G) hDall,hr,.inl ⟨rfl,rfl⟩⟩
 |succ fuel ihf=>
  intro listed a w pb ρ hsz hfuel hcl I
  refine⟨fun hnil=> ?_,fun i hi=> ?_⟩
  ·exfalso
   have hne:unl ops.size listed≠[]:=by grind
   obtain⟨i,hi⟩:=List.exists_mem_of_ne_nil _ hne
   obtain⟨hi1,hi2⟩:=List.mem_filter.1 hi
   grind [zhQ,zfA]
  ·obtain⟨o,ho,hn,hall⟩:=(zei hsz).1 hi
   have hio:=(Array.getElem?_eq_some_iff.1 ho).1
   obtain⟨q,c,W⟩:=now_of G hsz hcl ho hn (fun h=>h) hall
   refine I.step G (.inl trivial) W r (fun pb' τ a' w' hI=> ?_)
   rw[zi9 G (by omega) W.A.ord] at hI
   refine ihf _ a' w' pb' τ (by grind) ?_ (zig hsz hcl ho hall) hI
   grind [unl_set]
end
end Go.Ideal
namespace Go.Ideal
variable {P:Program}
theorem zf2 (ih:IH) (o:CI) (l:List CI) (bs:List (Nat×H)) (s:za) (h:H):zge ih (o::l) bs s h=match zw ih o bs s h with
 |some x=>zge ih l x.2.2 (zY o.dst x.1 s) x.2.1
 |none=>panAt ih o l bs s h:=rfl
structure PanAt (ih:IH) (l:List CI) (i0:Nat) (bs:List (Nat×H)) (s:za) (h:H) (n:Nat) (c:CI) (s1:za) (h1:H) (out:Out):Prop where
 at_:l[n]? =some c
 pre:zx ih (l.take n) bs s h=some (s1,h1)
 all: ∃r,zx ih (l.take n++(l.drop (n+1)).filter fun p=>Nat.ble p.lo (i0+zy l n)) bs s h=some r
 want:zbb c.guard s1=some true
 wr:isW c.op=true
 pan:zcV ih c.op s1 h1=some out
 isPan: ∃v t g,out=.pan v t g
theorem drawStep_head {ih:IH} {o:CI} {bs:List (Nat×H)} {s:za} {h:H} {x:Value×H×List (Nat×H)} {i0:Nat} {g:H} {r:List (Nat×H)} (hb:bs=(i0,g)::r) (hv:zw ih o bs s h=some x): ∃g' r',x.2.2=(i0+(if isW o.op=true then 1 else 0),g')::r':=by
 subst hb
 obtain⟨b,hb,hv⟩:=aof hv
 cases b with
 |false=>
  cases hv
  by_cases hw:isW o.op=true
  ·simp only[hw,if_true];exact⟨_,_,rfl⟩
  simp_all
 |true=>
  simp only[zcP] at hv
  by_cases hw:isW o.op=true
  ·rw[if_pos hw] at hv
   obtain⟨y,hy,e⟩:=amf hv
   rw[←e,if_pos hw];exact⟨_,_,rfl⟩
  ·rw[if_neg hw] at hv
   rw[if_neg hw]
   split at hv
   ·unfold ziC at hv
    dsimp only at hv
    split at hv
    ·obtain⟨y,hy,e⟩:=amf hv;grind
    ·obtain⟨y,hy,hv⟩:=aof hv
     grind
   ·obtain⟨y,hy,e⟩:=amf hv;grind
theorem wcount_cons (o:CI) (l:List CI) (n:Nat):zy (o::l) (n+1)=(if isW o.op=true then 1 else 0)+zy l n:=by
 grind [zy]
theorem zid {ih:IH}: ∀(l:List CI) (bs:List (Nat×H)) (s:za) (h:H) (o:Out) (i0:Nat) (g:H) (r:List (Nat×H)),bs=(i0,g)::r→zge ih l bs s h=some o→ ∃n c s1 h1,PanAt ih l i0 bs s h n c s1 h1 o
 | [],bs,s,h,o,i0,g,r,hb,hv=>by cases hv
 |c::l,bs,s,h,o,i0,g,r,hb,hv=>by
  rw[zf2] at hv
  cases hst:zw ih c bs s h with
  |none=>
   rw[hst] at hv
   subst hb
   obtain⟨b,hb,hv⟩:=aof (show(zbb c.guard s).bind _=some o from hv)
   cases hbw:(b&&isW c.op) with
   |false=>grind
   |true=>
    rw[hbw] at hv
    rw[Bool.and_eq_true] at hbw
    obtain⟨rfl,hw⟩:=hbw
    obtain⟨out,ho,hv⟩:=aof (show(zcV ih c.op s h).bind _=some o from hv)
    cases out with
    |pan v t g2=>
     obtain⟨x,hx,e⟩:=amf (show(zx ih _ _ s h).map _=some o from hv)
     subst e
     refine⟨0,c,s,h,rfl,rfl,⟨x,?_⟩,hb,hw,ho,_,_,_,rfl⟩
     simp_all[zy]
    |nrm=>cases hv
    |exit=>cases hv
    |ret=>cases hv
    |val=>cases hv
  |some x=>
   rw[hst] at hv
   obtain⟨g',r',hb'⟩:=drawStep_head hb hst
   obtain⟨n,c1,s1,h1,k⟩:=zid l _ _ _ o _ g' r' hb' hv
   refine⟨n+1,c1,s1,h1,k.at_,?_,?_,k.want,k.wr,k.pan,k.isPan⟩
   ·rw[List.take_succ_cons,zba,hst];exact k.pre
   ·obtain⟨y,hy⟩:=k.all
    grind [zba,wcount_cons]
theorem zfC (d:List Nat): ∀(es:List Edge) (s:Nat) (e:Edge) (i:Nat),e∈es→(d.getD e.on 0).testBit i=true→(es.foldl (fun s e=>s ||| 2^e.on ||| d.getD e.on 0) s).testBit i=true
 |e'::es,s,e,i,h,hi=>by
  rw[List.foldl_cons]
  rcases List.mem_cons.1 h with rfl|h
  ·exact zd7 d es _ _ (by grind)
  ·exact zfC d es _ e i h hi
def BackE (l:List Oper):Prop:= ∀(j:Nat) o,l[j]? =some o→ ∀e∈o.after.toList,Region.binds .any e=true→e.on<j
theorem anc_lt (r:List Oper) (hb:BackE r.reverse) {j:Nat} {o:Oper} (ho:r.reverse[j]? =some o) {i:Nat} (hi:((ancs r.reverse).getD j 0).testBit i=true):i<j:=
 zeE (S:=fun m=>m<j) r (fun m hm o ho e he hbi=>Nat.lt_trans (hb m o ho e he hbi) hm) j o ho (fun e he hbi=>hb j o ho e he hbi) i hi
theorem getD_last (l:List Nat) (a:Nat) {n:Nat} (h:l.length=n):(l++[a]).getD n 0=a:=by
 grind
theorem getD_left (l:List Nat) (a:Nat) {j:Nat} (h:j<l.length):(l++[a]).getD j 0=l.getD j 0:=by
 grind
theorem zjb: ∀(r:List Oper),BackE r.reverse→ ∀(j m:Nat) o,((ancs r.reverse).getD j 0).testBit m=true→r.reverse[m]? =some o→ ∀e∈o.after.toList,Region.binds .any e=true→((ancs r.reverse).getD j 0).testBit e.on=true
 | [],_,j,m,o,h,_,_,_,_=>by grind
 |x::r,hb,j,m,o,h,ho,e,he,hbi=>by
  have hlen:(ancs r.reverse).length=r.reverse.length:=zgV _
  rw[List.reverse_cons] at hb h ho⊢
  rw[zhC] at h⊢
  have hb':BackE r.reverse:=fun j o ho=>hb j o (by grind)
  have old: ∀{k:Nat},k<r.reverse.length→(r.reverse++[x])[k]? =some o→r.reverse[k]? =some o:=fun hk h=>by grind
  by_cases hlt:j<r.reverse.length
  ·rw[getD_left _ _ (by omega)] at h⊢
   have hm:=anc_lt r hb' (List.getElem?_eq_getElem hlt) h
   exact zjb r hb' j m o h (old (by omega) ho) e he hbi
  ·by_cases hje:j=r.reverse.length
   ·rw[hje,getD_last _ _ hlen] at h⊢
    unfold ancOf at h⊢
    rcases zkc _ _ 0 m h with h| ⟨ed,hed,h⟩
    ·grind
    ·have hed2:=List.mem_filter.1 hed
     have hon:ed.on<r.reverse.length:=hb _ x (by grind) ed hed2.1 hed2.2
     rcases h with rfl|h
     ·exact zfC _ _ 0 ed _ hed (zlI r ed.on o (old hon ho) e he hbi)
     ·have hm:=anc_lt r hb' (List.getElem?_eq_getElem hon) h
      exact zfC _ _ 0 ed _ hed (zjb r hb' ed.on m o h (old (by omega) ho) e he hbi)
   grind
theorem anc_trans {l:List Oper} (hb:BackE l) {j i k:Nat} {o:Oper} (h:((ancs l).getD j 0).testBit i=true) (ho:l[i]? =some o) (hk:((ancs l).getD i 0).testBit k=true):((ancs l).getD j 0).testBit k=true:=by
 have e:l=l.reverse.reverse:=by simp
 rw[e] at hb h ho hk⊢
 exact zeE (S:=fun m=>((ancs l.reverse.reverse).getD j 0).testBit m=true) l.reverse (fun m hm o ho e he hbi=>zjb _ hb j m o hm ho e he hbi) i o ho (fun e he hbi=>zjb _ hb j i o h ho e he hbi) k hk
theorem zjj {anc:List Nat} {cis l:List CI} {order:List Nat} (hl:zdm anc cis order=some l) (q:Nat):zy l q=((order.take q).filter (wIdx cis)).length:=by
 have hmap:l.map (fun c=>isW c.op)=order.map (wIdx cis):=by
  apply List.ext_getElem?
  intro i
  rw[List.getElem?_map,List.getElem?_map]
  by_cases hi:i<order.length
  ·obtain⟨y,hy,hyl⟩:=(zb1 hl).2 i _ (List.getElem?_eq_getElem hi)
   grind [wIdx]
  ·rw[List.getElem?_eq_none (by have:=(zb1 hl).1;omega),List.getElem?_eq_none (by omega)];rfl
 unfold zy
 rw[←List.countP_eq_length_filter,←List.countP_eq_length_filter]
 have e1: ∀(xs:List CI),List.countP (fun c=>isW c.op) xs=List.countP id (xs.map fun c=>isW c.op):=fun xs=>by simp_all
 have e2: ∀(xs:List Nat),List.countP (wIdx cis) xs=List.countP id (xs.map (wIdx cis)):=fun xs=>by simp_all
 grind [List.map_take]
theorem mem_wsOf {cis:List CI} {k:Nat}:k∈wsOf cis↔ ∃c,cis[k]? =some c∧isW c.op=true:=by
 grind [wsOf]
theorem zfp {l:List Nat} (h: ∀(q q' j:Nat),l[q]? =some j→l[q']? =some j→q=q'):l.Nodup:=by
 unfold List.Nodup
 rw[List.pairwise_iff_getElem]
 intro i j hi hj hij e
 have:=h i j l[i] (List.getElem?_eq_getElem hi) (by grind)
 omega
theorem ziw {l:List Nat} (h:l.Nodup): ∀(q q' j:Nat),l[q]? =some j→l[q']? =some j→q=q':=by
 grind [List.pairwise_iff_getElem]
section
variable {ops:Array Oper} {cis l:List CI} {order:List Nat}
theorem lo_le (hb:BackE ops.toList) {i j:Nat} {o:Oper} (ho:ops[i]? =some o) (h:((ancs ops.toList).getD j 0).testBit i=true):loOf (ancs ops.toList) (wsOf cis) i≤loOf (ancs ops.toList) (wsOf cis) j:=by
 unfold loOf
 rw[←List.countP_eq_length_filter,←List.countP_eq_length_filter]
 exact List.countP_mono_left fun k _ hk=>anc_trans hb h (by simpa using ho) hk
theorem lo_gt (hb:BackE ops.toList) (hO:OrdOk (ancs ops.toList) cis order) (hl:zdm (ancs ops.toList) cis order=some l) {n x j:Nat} {o:Oper} {c:CI} (hx:order[n]? =some x) (ho:ops[x]? =some o) (hc:cis[x]? =some c) (hw:isW c.op=true) (h:((ancs ops.toList).getD j 0).testBit x=true):zy l n+1≤loOf (ancs ops.toList) (wsOf cis) j:=by
 rw[zjj hl]
 unfold loOf
 have hnd:=zfp hO.inj
 have hxn:x∉(order.take n).filter (wIdx cis):=fun hm=>by
  obtain⟨p,hp⟩:=List.mem_iff_getElem?.1 (List.mem_filter.1 hm).1
  rw[List.getElem?_take] at hp
  split at hp
  ·have:=hO.inj p n x hp hx;omega
  grind
 refine ziZ (x::(order.take n).filter (wIdx cis)) _ (List.nodup_cons.2 ⟨hxn,((List.take_sublist _ _).nodup hnd).filter _⟩) fun k hk=> ?_
 rcases List.mem_cons.1 hk with rfl|hk
 ·grind [mem_wsOf]
 ·obtain⟨hk1,hk2⟩:=List.mem_filter.1 hk
  obtain⟨p,hp⟩:=List.mem_iff_getElem?.1 hk1
  rw[List.getElem?_take] at hp
  split at hp
  ·rename_i hpn
   have hkl:=hO.lt p k hp
   unfold wIdx at hk2
   rw[List.getElem?_eq_getElem hkl] at hk2
   have:=hO.writer n x c hx hc hw p k _ hpn hp (List.getElem?_eq_getElem hkl) (zdR hk2)
   grind [mem_wsOf,anc_trans]
  grind
theorem lo_late (hO:OrdOk (ancs ops.toList) cis order) (hl:zdm (ancs ops.toList) cis order=some l) (hsur: ∀i,i<cis.length→ ∃q:Nat,order[q]? =some i) {n j:Nat} (h:zy l n+1≤loOf (ancs ops.toList) (wsOf cis) j): ∃(p k:Nat) (c:CI),n≤p∧order[p]? =some k∧cis[k]? =some c∧isW c.op=true∧((ancs ops.toList).getD j 0).testBit k=true:=by
 refine Classical.byContradiction fun hno=> ?_
 rw[zjj hl] at h
 have:loOf (ancs ops.toList) (wsOf cis) j≤((order.take n).filter (wIdx cis)).length:=by
  unfold loOf
  refine ziZ _ _ ?_ fun k hk=> ?_
  ·unfold wsOf;exact(List.nodup_range.filter _).filter _
  ·obtain⟨hk1,hk2⟩:=List.mem_filter.1 hk
   obtain⟨c,hc,hw⟩:=mem_wsOf.1 hk1
   obtain⟨p,hp⟩:=hsur k (List.getElem?_eq_some_iff.1 hc).1
   have hpn:p<n:=Classical.byContradiction fun hp2=>hno ⟨p,k,c,by omega,hp,hc,hw,hk2⟩
   refine List.mem_filter.2 ⟨?_,by grind [wIdx]⟩
   have:(order.take n)[p]? =some k:=by grind
   grind
 omega
def cutO (anc:List Nat) (cis:List CI) (order:List Nat) (n m:Nat):List Nat:=order.take n++(order.drop (n+1)).filter fun j=>Nat.ble (loOf anc (wsOf cis) j) m
theorem zkB {α β:Type} {f:α→Option β}: ∀{xs ys:List α} {a b:List β},allO f xs=some a→allO f ys=some b→allO f (xs++ys)=some (a++b)
 | [],ys,a,b,h,hb=>by cases h;exact hb
 |x::xs,ys,a,b,h,hb=>by
  obtain⟨y,hy,h⟩:=aof h
  obtain⟨z,hz,rfl⟩:=amf h
  show(f x).bind _=_
  rw[hy,Option.bind_some]
  show(allO f (xs++ys)).map _=_
  rw[zkB hz hb];rfl
theorem allO_take {α β:Type} {f:α→Option β}: ∀{xs:List α} {a:List β} (n:Nat),allO f xs=some a→allO f (xs.take n)=some (a.take n)
 |_,_,0,_=>by rw[List.take_zero,List.take_zero];rfl
 | [],a,n+1,h=>by cases h;rfl
 |x::xs,a,n+1,h=>by
  obtain⟨y,hy,h⟩:=aof h
  obtain⟨z,hz,rfl⟩:=amf h
  rw[List.take_succ_cons,List.take_succ_cons]
  show(f x).bind _=_
  rw[hy,Option.bind_some]
  show(allO f (xs.take n)).map _=_
  rw[allO_take n hz];rfl
theorem allO_drop {α β:Type} {f:α→Option β}: ∀{xs:List α} {a:List β} (n:Nat),allO f xs=some a→allO f (xs.drop n)=some (a.drop n)
 |_,_,0,h=>h
 | [],a,n+1,h=>by cases h;rfl
 |x::xs,a,n+1,h=>by
  obtain⟨y,hy,h⟩:=aof h
  obtain⟨z,hz,rfl⟩:=amf h
  exact allO_drop n hz
theorem zgW {α β:Type} {f:α→Option β} {p:α→Bool} {p':β→Bool} (hp: ∀x y,f x=some y→p' y=p x): ∀{xs:List α} {a:List β},allO f xs=some a→allO f (xs.filter p)=some (a.filter p')
 | [],a,h=>by cases h;rfl
 |x::xs,a,h=>by
  obtain⟨y,hy,h⟩:=aof h
  obtain⟨z,hz,rfl⟩:=amf h
  have hxy:=hp x y hy
  cases hpx:p x with
  |true=>
   rw[List.filter_cons_of_pos hpx,List.filter_cons_of_pos (by grind)]
   show(f x).bind _=_
   rw[hy,Option.bind_some]
   show(allO f (xs.filter p)).map _=_
   rw[zgW hp hz];rfl
  |false=>
   rw[List.filter_cons_of_neg (by grind),List.filter_cons_of_neg (by grind)]
   exact zgW hp hz
theorem cut_perm {anc:List Nat} (hl:zdm anc cis order=some l) (n m:Nat):zdm anc cis (cutO anc cis order n m)=some (l.take n++(l.drop (n+1)).filter fun p=>Nat.ble p.lo m):=by
 refine zkB (allO_take n hl) (zgW (fun j y hy=> ?_) (allO_drop (n+1) hl))
 grind
theorem zcW {anc:List Nat} {n m q:Nat} (hn:n≤order.length) (hq:q<n):(cutO anc cis order n m)[q]? =order[q]?:=by
 grind [cutO]
theorem zgQ {anc:List Nat} {n m q j:Nat} (hn:n≤order.length) (hq:n≤q) (h:(cutO anc cis order n m)[q]? =some j):loOf anc (wsOf cis) j≤m∧ ∃p:Nat,n<p∧order[p]? =some j:=by
 unfold cutO at h
 rw[List.getElem?_append_right (by grind)] at h
 obtain⟨h1,h2⟩:=List.mem_filter.1 (List.mem_of_getElem? h)
 obtain⟨p,hp⟩:=List.mem_iff_getElem?.1 h1
 rw[List.getElem?_drop] at hp
 exact⟨Nat.le_of_ble_eq_true h2,n+1+p,by omega,hp⟩
theorem cut_in {anc:List Nat} {n m p j:Nat} (hn:n≤order.length) (hp:n<p) (h:order[p]? =some j) (hlo:loOf anc (wsOf cis) j≤m): ∃q:Nat,n≤q∧(cutO anc cis order n m)[q]? =some j:=by
 have hm:j∈(order.drop (n+1)).filter fun j=>Nat.ble (loOf anc (wsOf cis) j) m:=by
  refine List.mem_filter.2 ⟨?_,by simp_all⟩
  have:(order.drop (n+1))[p - (n+1)]? =some j:=by grind
  grind
 obtain⟨q,hq⟩:=List.mem_iff_getElem?.1 hm
 refine⟨n+q,by omega,?_⟩
 grind [cutO]
theorem filter_idx {p:Nat→Bool} {ys:List Nat} {a b i j:Nat} (ha:ys[a]? =some i) (hb:ys[b]? =some j) (hab:a<b) (hi:p i=true) (hj:p j=true): ∃a' b':Nat,a'<b'∧(ys.filter p)[a']? =some i∧(ys.filter p)[b']? =some j:=by
 obtain⟨hbl,hbe⟩:=List.getElem?_eq_some_iff.1 hb
 have e:ys=ys.take b++ys[b]::ys.drop (b+1):=by simp
 have hm:i∈(ys.take b).filter p:=by
  grind
 obtain⟨a',ha'⟩:=List.mem_iff_getElem?.1 hm
 grind
end
structure Px (P:Program) (N:Nat) (ops:Array Oper) (cis l:List CI) (order:List Nat) (n x:Nat) (o:Oper) (c:CI):Prop where
 back:BackE ops.toList
 ord:OrdOk (ancs ops.toList) cis order
 sur: ∀i,i<cis.length→ ∃q:Nat,order[q]? =some i
 perm:zdm (ancs ops.toList) cis order=some l
 cisL:cis.length=ops.size
 at_:order[n]? =some x
 op:ops[x]? =some o
 ci:cis[x]? =some c
 comp:zu P N ops o=some c
 wr:isW c.op=true
section
variable {N:Nat} {ops:Array Oper} {cis l:List CI} {order:List Nat} {n x:Nat} {ox:Oper} {cx:CI}
theorem Px.len (X:Px P N ops cis l order n x ox cx):n≤order.length:=Nat.le_of_lt (List.getElem?_eq_some_iff.1 X.at_).1
theorem Px.notIn (X:Px P N ops cis l order n x ox cx) (q:Nat):(cutO (ancs ops.toList) cis order n (zy l n))[q]?≠some x:=by
 intro h
 by_cases hq:q<n
 ·rw[zcW X.len hq] at h
  have:=X.ord.inj q n x h X.at_;omega
 ·obtain⟨-,p,hp,h2⟩:=zgQ X.len (by omega) h
  have:=X.ord.inj p n x h2 X.at_;omega
theorem Px.notAnc (X:Px P N ops cis l order n x ox cx) {j:Nat} (h:loOf (ancs ops.toList) (wsOf cis) j≤zy l n):((ancs ops.toList).getD j 0).testBit x=false:=by
 cases e:((ancs ops.toList).getD j 0).testBit x with
 |false=>rfl
 |true=>have:=lo_gt X.back X.ord X.perm X.at_ X.op X.ci X.wr e;omega
theorem Px.opOf (X:Px P N ops cis l order n x ox cx) {i:Nat} (h:i<cis.length): ∃o,ops[i]? =some o:=⟨_,Array.getElem?_eq_getElem (by rw[←X.cisL];exact h)⟩
theorem Px.ordCut (X:Px P N ops cis l order n x ox cx):OrdOk (ancs ops.toList) cis (cutO (ancs ops.toList) cis order n (zy l n)) where
 lt:=fun q j h=>by
  by_cases hq:q<n
  ·rw[zcW X.len hq] at h;exact X.ord.lt q j h
  ·obtain⟨-,p,hp,h2⟩:=zgQ X.len (by omega) h
   exact X.ord.lt p j h2
 inj:=ziw (by
  have hs:(cutO (ancs ops.toList) cis order n (zy l n)).Sublist order:=by
   conv=>rhs;rw[←List.take_append_drop n order]
   unfold cutO
   refine List.Sublist.append (List.Sublist.refl _) ((List.filter_sublist).trans ?_)
   grind
  exact hs.nodup (zfp X.ord.inj))
 before:=fun q j i h hi=>by
  by_cases hq:q<n
  ·rw[zcW X.len hq] at h
   obtain⟨p,hp,h2⟩:=X.ord.before q j i h hi
   exact⟨p,hp,by rw[zcW X.len (by omega)];exact h2⟩
  ·obtain⟨hlo,p,hp,h2⟩:=zgQ X.len (by omega) h
   obtain⟨p',hp',h3⟩:=X.ord.before p j i h2 hi
   by_cases h4:p'<n
   ·exact⟨p',by omega,by grind [zcW]⟩
   ·have hne:p'≠n:=fun e=>by
     subst e
     rw[X.at_] at h3;cases h3
     rw[X.notAnc hlo] at hi;cases hi
    obtain⟨oi,hoi⟩:=X.opOf (X.ord.lt p' i h3)
    have hlo2:=Nat.le_trans (lo_le (cis:=cis) X.back hoi hi) hlo
    have g1:(order.drop (n+1))[p' - (n+1)]? =some i:=by grind
    have g2:(order.drop (n+1))[p - (n+1)]? =some j:=by grind
    obtain⟨a,b,hab,ha,hb⟩:=filter_idx (p:=fun j=>Nat.ble (loOf (ancs ops.toList) (wsOf cis) j) (zy l n)) g1 g2 (by omega) (by simp_all) (by simp_all)
    have up: ∀{a k:Nat},((order.drop (n+1)).filter fun j=>Nat.ble (loOf (ancs ops.toList) (wsOf cis) j) (zy l n))[a]? =some k→(cutO (ancs ops.toList) cis order n (zy l n))[n+a]? =some k:=fun{a k} h=>by
     grind [cutO]
    have e:q=n+b:=by
     have hs:(cutO (ancs ops.toList) cis order n (zy l n)).Sublist order:=by
      conv=>rhs;rw[←List.take_append_drop n order]
      unfold cutO
      refine List.Sublist.append (List.Sublist.refl _) ((List.filter_sublist).trans ?_)
      grind
     exact ziw (hs.nodup (zfp X.ord.inj)) q (n+b) j h (up hb)
    grind
 writer:=fun q j c h hc hw q' i d hq' h' hd hf=>by
  by_cases hq:q<n
  ·rw[zcW X.len hq] at h
   rw[zcW X.len (by omega)] at h'
   exact X.ord.writer q j c h hc hw q' i d hq' h' hd hf
  ·obtain⟨hlo,p,hp,h2⟩:=zgQ X.len (by omega) h
   have:=X.ord.writer p j c h2 hc hw n x cx hp X.at_ X.ci (zdR X.wr)
   rw[X.notAnc hlo] at this;grind
 names:=fun q j c h hc=>by
  by_cases hq:q<n
  ·rw[zcW X.len hq] at h;exact X.ord.names q j c h hc
  ·obtain⟨-,p,hp,h2⟩:=zgQ X.len (by omega) h
   exact X.ord.names p j c h2 hc
end
theorem doOpP_agree {ih:IH} {op:COp} {s s':za} (h:zbi (zf op) s s') (hp:H):zcV ih op s hp=zcV ih op s' hp:=by
 have plain:=zef h hp
 cases op
 case call f as=>
  show zkp _ _ _ _ _=zkp _ _ _ _ _
  unfold zkp
  rw[zi (x:=f) h.left,zcO (l:=as) h.right]
 case invoke tbl x as=>
  show invP _ _ _ _ _ _=invP _ _ _ _ _ _
  unfold invP
  rw[zi (x:=x) h.left,zcO (l:=as) h.right]
 case panic x=>
  show panP _ _ _=panP _ _ _
  unfold panP
  rw[zi (x:=x) h]
 all_goals first|rfl|exact congrArg (Option.map valO) plain
section
variable {ih:IH} {M N:Nat} {ex:Nat→Prop} {ops:Array Oper} {cis l l':List CI} {order ws:List Nat} {ss:Nat→za} {hs:Nat→H} {vs:Nat→Value}
variable {ρ0 ρ:Rho} {w0 w:World} {Ds:List Nat} {Db:List Deferred} {pb:Nat} {a:Act} {n x:Nat} {ox:Oper} {cx:CI}
theorem Px.step (X:Px P N ops cis l order n x ox cx) (G:Reg P ih M N ex ops cis l' (cutO (ancs ops.toList) cis order n (zy l n)) ws ss hs vs) (hex: ∀i,¬ex i→ ∃q:Nat,(cutO (ancs ops.toList) cis order n (zy l n))[q]? =some i)
 (hn:n≤l'.length) {listed:Array Bool} (hsz:listed.size=ops.size) (hcl:zgt ops listed) (hall: ∀e∈ox.after.toList,Region.binds .any e=true→zN listed e.on)
 (I:Inv P N l'.length l' ss hs vs ρ0 w0 (Ds.map zC++Db) True (zbI (cutO (ancs ops.toList) cis order n (zy l n)) listed) pb ρ a w) (hwant:zbb cx.guard (ss n)=some true)
 {v:Value} {t:za} {h2:H} (hpan:zcV ih cx.op (ss n) (hs n)=some (.pan v t h2)) (r:Option Nat) (hD0:zR ρ0 w0 Ds) {K:Act→World→Prop}:
 wpOpIn (Wf r) 0 P ops (zcY P ρ0 w0 N Ds Db (.pan v t h2)) x K a w:=by
 have hanc: ∀{i:Nat},((ancs ops.toList).getD x 0).testBit i=true→ ∃p:Nat,p<n∧order[p]? =some i∧zbI (cutO (ancs ops.toList) cis order n (zy l n)) listed p:=fun{i} hi=>by
  obtain⟨p,hp,h2⟩:=X.ord.before n x i X.at_ hi
  exact⟨p,hp,h2,i,by rw[zcW X.len hp];exact h2,zbV hcl X.op hall hi⟩
 have hhard: ∀p c,p<n→l'[p]? =some c→isFl c.op=false→zbI (cutO (ancs ops.toList) cis order n (zy l n)) listed p:=fun p c hp hc hf=>by
  obtain⟨j,o,d,A⟩:=G.at (q:=p) (by omega)
  rw[A.can] at hc;cases hc
  have ho:=A.ord
  rw[zcW X.len hp] at ho
  have:=X.ord.writer n x cx X.at_ X.ci X.wr p j d hp ho A.ci hf
  exact⟨j,A.ord,zbV hcl X.op hall this⟩
 have hwn: ∀(q:Nat) c,l'[q]? =some c→isW c.op=true→q<n:=fun q c hc hw=>by
  refine Classical.byContradiction fun hq=> ?_
  have hql:q<l'.length:=(List.getElem?_eq_some_iff.1 hc).1
  obtain⟨j,o,d,A⟩:=G.at hql
  rw[A.can] at hc;cases hc
  obtain⟨hlo,p,hp,h3⟩:=zgQ X.len (by omega) A.ord
  have:=X.ord.writer p j d h3 A.ci hw n x cx hp X.at_ X.ci (zdR X.wr)
  rw[X.notAnc hlo] at this;grind
 have hpb:pb≤n:=by
  rcases I.base trivial with h| ⟨p,c,h1,h2,h3⟩
  all_goals grind
 have hr:=I.absorb G trivial hpb hn (fun p c hp hc hf=>hhard p c hp hc hf)
 have hS:SR (cut ρ (hs n).next) (zci (zbs cx) (ss n)) a.tmps:=by
  intro t v hv
  rw[zcM] at hv
  split at hv
  ·rename_i hx
   have late: ∀q',zbI (cutO (ancs ops.toList) cis order n (zy l n)) listed q'→n≤q'→zex l' q'≠some (bits t):=fun q' hD hq' hd=>by
    obtain⟨i,o',d,A⟩:=G.at (hD.lt G)
    rw[A.dst] at hd
    obtain⟨hlo,p,hp,h3⟩:=zgQ X.len hq' A.ord
    rcases zdN (X.ord.names n x cx X.at_ X.ci) hx A.ci hd with h|h|h
    ·subst h;exact X.notIn q' A.ord
    ·obtain⟨p',h4,h5⟩:=X.ord.before n x i X.at_ h
     have:=X.ord.inj p' p i h5 h3;omega
    ·rw[X.notAnc hlo] at h;cases h
   have early: ∀q',q'<n→zex l' q'=some (bits t)→zbI (cutO (ancs ops.toList) cis order n (zy l n)) listed q':=fun q' hq' hd=>by
    obtain⟨i,o',d,A⟩:=G.at (q:=q') (by omega)
    rw[A.dst] at hd
    have ho:=A.ord
    rw[zcW X.len hq'] at ho
    rcases zdN (X.ord.names n x cx X.at_ X.ci) hx A.ci hd with h|h|h
    ·subst h;exact absurd A.ord (X.notIn q')
    ·exact⟨i,A.ord,zbV hcl X.op hall h⟩
    ·obtain⟨p',h4,h5⟩:=X.ord.before q' i x ho h
     have:=X.ord.inj p' n x h5 X.at_;omega
   rcases G.slotAt (bits t) (q:=n) hn with⟨q1,h1,h2,h3,h4⟩| ⟨h1,h2⟩
   ·rw[h4] at hv;cases hv
    obtain⟨v',a1,a2⟩:=I.new q1 (by omega) (early q1 h1 h2) t h2 (fun q' b1 b2 hd=>by
     grind)
    exact⟨v',a1,a2.mono (zcw (fun _ _ h=>h) (G.nextMono (p:=q1+1) (q:=n) (by omega) (by omega)))⟩
   ·rw[h2] at hv
    obtain⟨v',a1,a2⟩:=I.old t (fun q' b hd=>by
     grind) v hv
    exact⟨v',a1,a2.mono (fun i R hi=>zo.2 ⟨Nat.lt_of_lt_of_le (I.zero i R hi) (G.nextMono (Nat.zero_le _) hn),I.ext.le i R hi⟩)⟩
  grind
 have hag:zbi (zf cx.op) (ss n) (zci (zbs cx) (ss n)):=.keep _ fun p hp=>by simp[zbs,hp]
 have hgg:zbi (zdf cx.guard) (ss n) (zci (zbs cx) (ss n)):=.keep _ fun p hp=>by simp[zbs,hp]
 rw[zfi hgg] at hwant
 rw[doOpP_agree hag] at hpan
 have hw2:=zcl X.comp hS hwant
 unfold wpOpIn
 simp only[X.op,hw2,if_true]
 refine op_wpIn G.hih X.comp r hr hS hpan (fun _ _ _ _ _ e=>by cases e) (fun v1 h1 v' w' σ e q1 q2 q3=> ?_)
 cases e
 have hext:Ext ρ0 w0 (cut ρ (hs n).next) w:=⟨fun i R hi=>zo.2 ⟨Nat.lt_of_lt_of_le (I.zero i R hi) (G.nextMono (Nat.zero_le _) hn),I.ext.le i R hi⟩,I.ext.size,fun i R hi=>I.ext.fresh i R (zo.1 hi).2,I.ext.frame,I.ext.loops,I.ext.os,I.ext.out,I.ext.froz,I.ext.td⟩
 have he:=hext.trans q3
 exact⟨σ,Ds,.nil,h2,he,I.size,I.defers,⟨hD0.ext he,fun D h=>.inl h⟩,(fun t v hv=>by simp_all),q2,.inr (.inr (.inr ⟨v,v',rfl,q1,rfl⟩))⟩
theorem draw_pan (X:Px P N ops cis l order n x ox cx) (G:Reg P ih M N ex ops cis l' (cutO (ancs ops.toList) cis order n (zy l n)) ws ss hs vs) (hex: ∀i,¬ex i→ ∃q:Nat,(cutO (ancs ops.toList) cis order n (zy l n))[q]? =some i) (hex2: ∀i,ex i→ ∀q:Nat,(cutO (ancs ops.toList) cis order n (zy l n))[q]?≠some i)
 (hn:n≤l'.length) (hwant:zbb cx.guard (ss n)=some true) {v:Value} {t:za} {h2:H} (hpan:zcV ih cx.op (ss n) (hs n)=some (.pan v t h2)) (r:Option Nat) (hD0:zR ρ0 w0 Ds):
 ∀(fuel:Nat) (listed:Array Bool) (a:Act) (w:World) (pb:Nat) (ρ:Rho),listed.size=ops.size→(unl ops.size listed).length=fuel→zgt ops listed→ ¬zN listed x→
 Inv P N l'.length l' ss hs vs ρ0 w0 (Ds.map zC++Db) True (zbI (cutO (ancs ops.toList) cis order n (zy l n)) listed) pb ρ a w→wpAnyIn (Wf r) 0 P .any ops (zcY P ρ0 w0 N Ds Db (.pan v t h2)) fuel listed a w:=by
 have hxo:=(Array.getElem?_eq_some_iff.1 X.op).1
 have hback: ∀j o,ops[j]? =some o→ ∀e∈o.after.toList,Region.binds .any e=true→e.on<j:=fun j o ho=>X.back j o (by grind)
 intro fuel
 induction fuel with
 |zero=>
  grind [zil]
 |succ fuel ihf=>
  intro listed a w pb ρ hsz hfuel hcl hx I
  refine⟨fun hnil=>absurd hnil (zhQ hsz hxo hx hback),fun i hi=> ?_⟩
  obtain⟨o,ho,hno,hall⟩:=(zei hsz).1 hi
  have hio:=(Array.getElem?_eq_some_iff.1 ho).1
  by_cases hix:i=x
  ·subst hix
   have eo:o=ox:=by have:=X.op;grind
   subst eo
   exact X.step G hex hn hsz hcl hall I hwant hpan r hD0
  ·by_cases hin: ∃q:Nat,(cutO (ancs ops.toList) cis order n (zy l n))[q]? =some i
   ·have hxi: ¬ex i:=fun h=>by grind
    obtain⟨q,c,W⟩:=now_of G hsz hcl ho hno hxi hall
    refine I.step G (.inl trivial) W r (fun pb' τ a' w' hI=> ?_)
    rw[zi9 G (by omega) W.A.ord] at hI
    refine ihf _ a' w' pb' τ (by grind) ?_ (zig hsz hcl ho hall) (fun h=> ?_) hI
    all_goals grind [unl_set,zbR]
   ·exfalso
    obtain⟨p,hp⟩:=X.sur i (by rw[X.cisL];grind)
    have hpn:n<p:=by
     refine Classical.byContradiction fun h=> ?_
     by_cases h2:p=n
     ·subst h2;rw[X.at_] at hp;grind
     ·exact hin ⟨p,by rw[zcW X.len (by omega)];exact hp⟩
    have hlo:zy l n+1≤loOf (ancs ops.toList) (wsOf cis) i:=by
     refine Classical.byContradiction fun h=> ?_
     obtain⟨q,-,hq⟩:=cut_in (anc:=ancs ops.toList) (cis:=cis) (m:=zy l n) X.len hpn hp (by omega)
     grind
    obtain⟨p',k,c,h1,h2,h3,h4,h5⟩:=lo_late X.ord X.perm X.sur hlo
    have hk:=zbV hcl ho hall h5
    by_cases e:p'=n
    ·subst e;rw[X.at_] at h2;grind
    ·have hkx:=X.ord.writer p' k c h2 h3 h4 n x cx (by omega) X.at_ X.ci (zdR X.wr)
     obtain⟨ok,hok⟩:=X.opOf (X.ord.lt p' k h2)
     exact hx (zbV hcl hok (hcl k hk ok hok) hkx)
end
end Go.Ideal
namespace Go.Ideal
variable {P:Program}
theorem PT.set_comm {α:Type} (a b:α): ∀(p q:List Bool) (t:PT α),p≠q→(t.set p a).set q b=(t.set q b).set p a:=by
 intro p
 induction p with
 |nil=>
  intro q t hne
  cases q with
  |nil=>grind
  |cons c q=>cases t<;>cases c<;>rfl
 |cons c p ih=>
  intro q t hne
  cases q with
  |nil=>cases t<;>cases c<;>rfl
  |cons d q=>
   cases c<;>cases d
   ·have hpq:p≠q:=fun e=>hne (by rw[e])
    cases t with
    |nil=>simp_all[set]
    |node l v r=>simp_all[set]
   ·cases t<;>rfl
   ·cases t<;>rfl
   ·have hpq:p≠q:=fun e=>hne (by rw[e])
    cases t with
    |nil=>simp_all[set]
    |node l v r=>simp_all[set]
theorem H.put_comm (h:H) {i j:Nat} (hne:i≠j) (a b:IObj):(h.put i a).put j b=(h.put j b).put i a:=by
 grind [H.put,PT.set_comm,zf3]
theorem zk3 {h:H} {i off:Nat} {vs:List Value} {h':H} (hw:h.write i off vs=some h'): ∃cs esz cs',h.get i=some (.cells cs esz)∧(vs.all isCell&& !Nat.beq esz roE)=true∧zbt cs off vs=some cs'∧h'=h.put i (.cells cs' esz):=by
 obtain⟨o,ho,hw⟩:=aof hw
 cases o with
 |cells cs esz=>
  simp only[zfR] at hw
  split at hw
  ·rename_i hc
   obtain⟨c,hcw,e⟩:=amf hw
   grind
  grind
 |map _ _=>cases hw
 |loop _ _ _ _=>cases hw
 |dead=>cases hw
 |glob _ _=>cases hw
theorem write_of {h:H} {i off:Nat} {vs cs cs':List Value} {esz:Nat} (h1:h.get i=some (.cells cs esz)) (h2:(vs.all isCell&& !Nat.beq esz roE)=true) (h3:zbt cs off vs=some cs'):h.write i off vs=some (h.put i (.cells cs' esz)):=by
 grind [H.write,zfR]
theorem zjr {x y:COp} {s:za} {h h2:H} (hv:zdH x y s h=some h2): ∃h1 h1',opV x s h=some (zM,h1)∧opV y s h1=some (zM,h2)∧opV y s h=some (zM,h1')∧opV x s h1'=some (zM,h2)∧h1.next=h.next∧h1'.next=h.next∧h2.next=h.next:=by
 unfold zdH at hv
 split at hv
 ·rename_i n a b m c d
  obtain⟨p,hp,hv⟩:=aof hv
  obtain⟨v,hvv,hv⟩:=aof hv
  obtain⟨q,hq,hv⟩:=aof hv
  obtain⟨u,hu,hv⟩:=aof hv
  unfold store2 at hv
  obtain⟨pa,hpa,hv⟩:=aof hv
  obtain⟨qa,hqa,hv⟩:=aof hv
  split at hv
  ·cases hv
  ·rename_i hne
   have hne':pa.block≠qa.block:=fun e=>hne (by simp_all)
   split at hv
   ·rename_i hlen
    rw[Bool.and_eq_true] at hlen
    obtain⟨h1,hw1,hw2⟩:=aof hv
    obtain⟨cs,esz,cs',a1,a2,a3,rfl⟩:=zk3 hw1
    obtain⟨ds,esz',ds',b1,b2,b3,rfl⟩:=zk3 hw2
    rw[H.get_put,if_neg hne'] at b1
    have st: ∀{k:Nat} {e f:CO} {pv vv:Value} {ad:Addr} {g g':H},e.ev s=some pv→f.ev s=some vv→zgD pv=some ad→Nat.beq (zW vv).length k=true→g.write ad.block ad.off (zW vv)=some g'→opV (.store k e f) s g=some (zM,g'):=by
     intro k e f pv vv ad g g' e1 e2 e3 e4 e5
     show zkv _ _ _ _ _=_
     grind [zkv]
    refine⟨_,_,st hp hvv hpa hlen.1 hw1,st hq hu hqa hlen.2 hw2,st hq hu hqa hlen.2 (write_of b1 b2 b3),?_,rfl,rfl,rfl⟩
    rw[H.put_comm _ hne']
    exact st hp hvv hpa hlen.1 (write_of (by grind [H.get_put]) a2 a3)
   grind
 grind
theorem back_spec {ops:Array Oper} (h:ops.toList.zipIdx.all (fun x=>(x.1.after.toList.filter (Region.binds .any)).all fun e=>Nat.blt e.on x.2)=true): ∀(j:Nat) o,ops[j]? =some o→ ∀e∈o.after.toList,Region.binds .any e=true→e.on<j:=by
 intro j o ho e he hb
 have h1:=List.all_eq_true.1 h (o,j) (List.mem_zipIdx_iff_getElem?.2 (by grind))
 have h2:=List.all_eq_true.1 h1 e (List.mem_filter.2 ⟨he,hb⟩)
 simp_all
theorem any_beq {l:List Nat} {i:Nat} (h:l.any (Nat.beq i)=true): ∃q:Nat,l[q]? =some i:=by
 grind [Nat.eq_of_beq_eq_true,List.mem_iff_getElem?]
structure LastOk (anc:List Nat) (cis:List CI) (rest:List Nat) (x y:Nat) (c:CI):Prop where
 dst:c.dst=none
 guard:c.guard=none
 hard: ∀i∈rest,zj2 anc cis x i=true
 apart:(anc.getD x 0).testBit y=false
 self:(anc.getD x 0).testBit x=false
 first: ∀j∈rest,(anc.getD j 0).testBit x=false
 names: ∀p∈zf c.op,∀(i:Nat) (d:CI),cis[i]? =some d→d.dst=some p→(anc.getD x 0).testBit i=true
theorem zjX {anc:List Nat} {cis:List CI} {rest:List Nat} {x y:Nat} {c:CI} (h:lastOk anc cis rest x y c=true):LastOk anc cis rest x y c:=by
 unfold lastOk at h
 simp only[Bool.and_eq_true,Option.isNone_iff_eq_none,Bool.not_eq_true',List.all_eq_true] at h
 obtain⟨⟨⟨⟨⟨⟨⟨h0,h1⟩,h2⟩,h3⟩,h4⟩,h5⟩,h6⟩,h7⟩:=h
 refine⟨h1,h2,h3,h4,h5,fun j hj=>by grind,fun p hp i d hd hdst=> ?_⟩
 have:=h7 p hp (d,i) (List.mem_zipIdx_iff_getElem?.2 hd)
 grind [zeC]
theorem ze4 {anc:List Nat} {cis:List CI} {cc:CC} (h:zez anc cis=some cc):
 (∃l order,cc=.draw l∧OrdOk anc cis order∧(∀i,i<cis.length→ ∃q:Nat,order[q]? =some i)∧zdm anc cis order=some l)∨
 (∃l order x y c d rest,cc=.draw2 l c d∧OrdOk anc cis order∧rest=((List.range cis.length).filter fun i=> !(Nat.beq i x)&& !(Nat.beq i y))∧(∀i∈rest,∃q:Nat,order[q]? =some i)∧(∀(q i:Nat),order[q]? =some i→i∈rest)∧
   cis[x]? =some c∧cis[y]? =some d∧LastOk anc cis rest x y c∧LastOk anc cis rest y x d∧x≠y∧zdm anc cis order=some l):=by
 unfold zez at h
 dsimp only at h
 split at h
 ·rename_i hc
  simp only[Bool.and_eq_true,List.all_eq_true] at hc
  obtain⟨l,hl,e⟩:=amf h
  exact .inl ⟨l,_,e.symm,ordOk_of hc.1.1,fun i hi=>any_beq (hc.2 i (List.mem_range.2 hi)),hl⟩
 ·split at h
  ·rename_i y x r hws
   unfold draw2In at h
   obtain⟨c,hc,h⟩:=aof h
   obtain⟨d,hd,h⟩:=aof h
   dsimp only at h
   split at h
   ·rename_i hk
    simp only[Bool.and_eq_true,List.all_eq_true] at hk
    obtain⟨⟨⟨⟨⟨h1,h2⟩,h3⟩,h4⟩,h5⟩,h6⟩:=hk
    obtain⟨l,hl,e⟩:=amf h
    refine .inr ⟨l,_,x,y,c,d,_,e.symm,ordOk_of h1,rfl,fun i hi=>any_beq (h2 i hi),fun q i hq=> ?_,hc,hd,zjX h4,zjX h5,fun e=>by simp_all,hl⟩
    grind [Nat.eq_of_beq_eq_true]
   grind
  grind
section
variable {ih:IH} {M N:Nat} {ex:Nat→Prop} {ops:Array Oper} {cis l:List CI} {order ws:List Nat} {ss:Nat→za} {hs:Nat→H} {vs:Nat→Value}
variable {ρ0 ρ σ:Rho} {w0 w w':World} {Ds:List Nat} {Db:List Deferred} {live:Prop} {D:Nat→Prop} {pb:Nat} {a:Act} {q j:Nat} {o:Oper} {c:CI}
theorem Inv.stepFl (G:Reg P ih M N ex ops cis l order ws ss hs vs) (I:Inv P N l.length l ss hs vs ρ0 w0 (Ds.map zC++Db) live D pb ρ a w) (W:Now P N ops cis l order ws D q j o c) (hf:isFl c.op=true) (r:Option Nat) {Q:Exit→Act→World→Prop} {K:Act→World→Prop}
 (hK: ∀a',Inv P N l.length l ss hs vs ρ0 w0 (Ds.map zC++Db) live (fun p=>D p∨p=q) pb ρ a' w→K a' w):wpOpIn (Wf r) 0 P ops Q j K a w:=by
 have hS:=I.slots G W
 obtain⟨hop,hdst,hdlt⟩:=zbj W.A.comp
 obtain⟨b,hb,h1,h2,h3,h4⟩:=G.htr.step q _ W.A.can
 have hgg:zbi (zdf c.guard) (ss q) (zci (zbs c) (ss q)):=.keep _ fun p hp=>by simp[zbs,hp]
 have hb':zbb c.guard (zci (zbs c) (ss q))=some b:=by grind [zfi]
 have hwant:=zcl W.A.comp hS hb'
 have hw:=(zdq hf).1
 unfold wpOpIn
 simp only[W.A.op,hwant]
 cases b with
 |false=>
  simp only[Bool.false_eq_true,if_false]
  refine⟨fun f _=>Wf_fn r f,?_⟩
  obtain⟨e1,e2⟩:=h1 rfl
  exact hK _ (I.pure G W hw e2 (by rw[e1];exact VR.tuple_of (VRL.nil _)))
 |true=>
  simp only[if_true]
  refine⟨fun f _=>Wf_fn r f,?_⟩
  rw[Oper.semAt_eq _ _ _ (notDefer hop)]
  obtain⟨e1,v',e2,e3⟩:=float_run (vs:=vs) W hS I.blk I.gl hf (h3 rfl hw (zdq hf).2.1)
  rw[e2]
  exact hK _ (I.pure G W hw e1 e3)
theorem Inv.over (I:Inv P N l.length l ss hs vs ρ0 w0 (Ds.map zC++Db) live D pb ρ a w) (he:Ext ρ w σ w') {hh:H} (hr:HR P σ hh w') (hn:hh.next=(hs l.length).next) (hall: ∀q c,q<l.length→l[q]? =some c→isFl c.op=false→D q) (hlt: ∀p,D p→p<l.length):
 Inv P N l.length l ss hs vs ρ0 w0 (Ds.map zC++Db) False D l.length σ a w' where
 base:=nofun
 le:=Nat.le_refl _
 done:=hall
 now:=fun q c hq hD _=>by grind
 hr:=nofun
 fl:=fun q h1 h2=>by omega
 blk:=hr.blk
 gl:=hr.gl
 dom:=fun i R hi=>.inl (by
  by_cases h:i<(hs l.length).next
  ·exact h
  ·rw[(hr.nxt i (by omega)).1] at hi;cases hi)
 old:=I.old
 new:=fun q hq hD t ht hl=>let⟨v',a1,a2⟩:=I.new q hq hD t ht hl;⟨v',a1,a2.mono (zcw he.le (Nat.le_refl _))⟩
 size:=I.size
 defers:=I.defers
 ext:=I.ext.trans he
 zero:=I.zero
structure Two (P:Program) (N:Nat) (ops:Array Oper) (cis l:List CI) (order:List Nat) (ss:Nat→za) (hs:Nat→H) (x y:Nat) (c:CI) (ox:Oper) (rest:List Nat):Prop where
 op:ops[x]? =some ox
 comp:zu P N ops ox=some c
 last:LastOk (ancs ops.toList) cis rest x y c
 wr:isW c.op=true
 ne:x≠y
theorem Two.step {y x:Nat} {ox:Oper} {rest:List Nat} (G:Reg P ih M N (fun i=>i=x∨i=y) ops cis l order ws ss hs vs) (T:Two P N ops cis l order ss hs x y c ox rest) {listed:Array Bool} (hsz:listed.size=ops.size) (hcl:zgt ops listed)
 (hall: ∀e∈ox.after.toList,Region.binds .any e=true→zN listed e.on) (hrest: ∀(q i:Nat),order[q]? =some i→i∈rest) (I:Inv P N l.length l ss hs vs ρ0 w0 (Ds.map zC++Db) live (zbI order listed) pb ρ a w)
 {hh hh':H} (hr:HR P ρ hh w) (hn:hh'.next=(hs l.length).next) (hv:opV c.op (ss l.length) hh=some (zM,hh')) (r:Option Nat) {Q:Exit→Act→World→Prop} {K:Act→World→Prop}
 (hK: ∀σ w',Inv P N l.length l ss hs vs ρ0 w0 (Ds.map zC++Db) False (zbI order (listed.setIfInBounds x true)) l.length σ a w'→HR P σ hh' w'→K a w'):wpOpIn (Wf r) 0 P ops Q x K a w:=by
 have hxlt:x<listed.size:=by rw[hsz];exact(Array.getElem?_eq_some_iff.1 T.op).1
 have hdone: ∀{i:Nat},((ancs ops.toList).getD x 0).testBit i=true→i≠x→i≠y→ ∃p,order[p]? =some i∧zbI order listed p:=fun hi h1 h2=>
  zkk G hsz (zbV hcl T.op hall hi) (fun h=>h.elim h1 h2)
 have hhard: ∀q c',q<l.length→l[q]? =some c'→isFl c'.op=false→zbI order listed q:=by
  intro q c' hq hc' hf
  obtain⟨i,o',d,A⟩:=G.at hq
  rw[A.can] at hc';cases hc'
  have hbit:=zeX (T.last.hard i (hrest q i A.ord)) A.ci hf
  obtain⟨p,h1,h2⟩:=hdone hbit (fun e=>G.hex q i A.ord (.inl e)) (fun e=>G.hex q i A.ord (.inr e))
  have:=G.hord.inj p q _ h1 A.ord
  grind
 have hS:SR ρ (zci (zf c.op) (ss l.length)) a.tmps:=I.slotsAll G (fun p hp=>hp.lt G) (fun p hp q hq hd=>by
  obtain⟨i,o',d,A⟩:=G.at hq
  rw[A.dst] at hd
  have hbit:=T.last.names p hp i d A.ci hd
  obtain⟨p',h1,h2⟩:=hdone hbit (fun e=>G.hex q i A.ord (.inl e)) (fun e=>G.hex q i A.ord (.inr e))
  have:=G.hord.inj p' q _ h1 A.ord
  grind)
 have hag:zbi (zf c.op) (ss l.length) (zci (zf c.op) (ss l.length)):=.keep _ fun p hp=>hp
 rw[zef hag] at hv
 have hv':doOp ih c.op (zci (zf c.op) (ss l.length)) hh=some (zM,hh'):=by
  have this1: ¬ ∃f as,c.op=.call f as:=by
   rintro⟨f,as,e⟩
   rw[e] at hv;cases hv
  have this2: ¬ ∃t x as,c.op=.invoke t x as:=by
   rintro⟨t,x,as,e⟩
   rw[e] at hv;cases hv
  simp_all[doOp]
 have hwant:=zcl (b:=true) T.comp hS (by rw[T.last.guard];rfl)
 obtain⟨hop,hdst,-⟩:=zbj T.comp
 have hod:ox.dst=none:=by
  rw[T.last.dst] at hdst
  cases h:ox.dst with
  |none=>rfl
  |some d=>grind
 unfold wpOpIn
 simp only[T.op,hwant,if_true]
 refine op_wpV G.hih T.comp r hr hS hv' (fun v' w' σ q1 q2 q3=> ?_)
 rw[hod]
 have hI:=I.over q3 q2 hn hhard (fun p hp=>hp.lt G)
 rw[done_set_ex G hxlt (.inl rfl)] at hI
 exact hK σ w' hI q2
theorem draw_two {x y:Nat} {ox oy:Oper} {c d:CI} {rest:List Nat} (G:Reg P ih M N (fun i=>i=x∨i=y) ops cis l order ws ss hs vs) (G':Reg P ih M N (fun i=>i=y∨i=x) ops cis l order ws ss hs vs)
 (Tx:Two P N ops cis l order ss hs x y c ox rest) (Ty:Two P N ops cis l order ss hs y x d oy rest) (hrest: ∀(q i:Nat),order[q]? =some i→i∈rest)
 (hback: ∀j o,ops[j]? =some o→ ∀e∈o.after.toList,Region.binds .any e=true→e.on<j) {h1 h1' h2:H} (e1:opV c.op (ss l.length) (hs l.length)=some (zM,h1)) (e2:opV d.op (ss l.length) h1=some (zM,h2)) (e3:opV d.op (ss l.length) (hs l.length)=some (zM,h1'))
 (e4:opV c.op (ss l.length) h1'=some (zM,h2)) (n1:h1.next=(hs l.length).next) (n1':h1'.next=(hs l.length).next) (n2:h2.next=(hs l.length).next) (r:Option Nat) (hD0:zR ρ0 w0 Ds):
 ∀(fuel:Nat) (listed:Array Bool) (a:Act) (w:World),listed.size=ops.size→(unl ops.size listed).length=fuel→zgt ops listed→
  ((¬zN listed x∧ ¬zN listed y∧ ∃pb ρ,Inv P N l.length l ss hs vs ρ0 w0 (Ds.map zC++Db) True (zbI order listed) pb ρ a w)∨
   (∃ρ hh,Inv P N l.length l ss hs vs ρ0 w0 (Ds.map zC++Db) False (zbI order listed) l.length ρ a w∧HR P ρ hh w∧((zN listed x∧ ¬zN listed y∧hh=h1)∨(¬zN listed x∧zN listed y∧hh=h1')∨(zN listed x∧zN listed y∧hh=h2))))→
  wpAnyIn (Wf r) 0 P .any ops (zcY P ρ0 w0 N Ds Db (.nrm (ss l.length) h2)) fuel listed a w:=by
 have hxs:=(Array.getElem?_eq_some_iff.1 Tx.op).1
 have hys:=(Array.getElem?_eq_some_iff.1 Ty.op).1
 intro fuel
 induction fuel with
 |zero=>
  intro listed a w hsz hfuel hcl hst
  have hall:=zil hsz (List.length_eq_zero_iff.1 hfuel)
  have hDall: ∀q,q<l.length→zbI order listed q:=by
   intro q hq
   obtain⟨j,o,c,A⟩:=G.at hq
   exact⟨j,A.ord,hall j (Array.getElem?_eq_some_iff.1 A.op).1⟩
  refine⟨?_,?_⟩
  ·cases hr:Region.ready .any ops listed with
   |nil=>rfl
   |cons i r'=>
    grind [zei,List.mem_cons_self]
  ·rcases hst with⟨hx,-,-⟩| ⟨ρ,hh,I,hr,hcase⟩
   ·grind
   ·rcases hcase with⟨-,hy,-⟩| ⟨hx,-,-⟩| ⟨-,-,rfl⟩
    ·grind
    ·grind
    ·exact⟨ρ,Ds,ss l.length,hh,I.ext,I.size,I.defers,⟨hD0.ext I.ext,fun D h=>.inl h⟩,I.slotsFin G (fun p hp=>hp.lt G) hDall,hr,.inl ⟨rfl,rfl⟩⟩
 |succ fuel ihf=>
  intro listed a w hsz hfuel hcl hst
  refine⟨fun hnil=> ?_,fun i hi=> ?_⟩
  ·exfalso
   have hne:unl ops.size listed≠[]:=by grind
   obtain⟨i,hi⟩:=List.exists_mem_of_ne_nil _ hne
   obtain⟨hi1,hi2⟩:=List.mem_filter.1 hi
   grind [zhQ,zfA]
  ·obtain⟨o,ho,hn,hall⟩:=(zei hsz).1 hi
   have hio:=(Array.getElem?_eq_some_iff.1 ho).1
   have hsz':(listed.setIfInBounds i true).size=ops.size:=by grind
   have hfu:(unl ops.size (listed.setIfInBounds i true)).length=fuel:=by grind [unl_set]
   have hcl':=zig hsz hcl ho hall
   have setx: ∀k,zN (listed.setIfInBounds i true) k↔zN listed k∨k=i:=zbR (by omega)
   by_cases hix:i=x
   ·subst hix
    have eo:o=ox:=by have:=Tx.op;grind
    subst eo
    have hny:i≠y:=Tx.ne
    rcases hst with⟨hx,hy,pb,ρ,I⟩| ⟨ρ,hh,I,hr,hcase⟩
    ·
     have hhard: ∀q c',q<l.length→l[q]? =some c'→isFl c'.op=false→zbI order listed q:=by
      intro q c' hq hc' hf
      obtain⟨k,o',d',A⟩:=G.at hq
      rw[A.can] at hc';cases hc'
      have hbit:=zeX (Tx.last.hard k (hrest q k A.ord)) A.ci hf
      obtain⟨p,k1,k2⟩:=zkk G hsz (zbV hcl ho hall hbit) (G.hex q k A.ord)
      have:=G.hord.inj p q _ k1 A.ord
      grind
     have hr:=I.absorb G trivial I.le (Nat.le_refl _) (fun p c' hp hc' hf=>hhard p c' hp hc' hf)
     rw[I.cut_all G] at hr
     refine Tx.step G hsz hcl hall hrest I hr n1 e1 r (fun σ w' hI hR=>ihf _ a w' hsz' hfu hcl' (.inr ⟨σ,h1,hI,hR,.inl ⟨(setx _).2 (.inr rfl),fun h=> ?_,rfl⟩⟩))
     grind
    ·rcases hcase with⟨hx,-,-⟩| ⟨-,hy,rfl⟩| ⟨hx,-,-⟩
     ·grind
     ·exact Tx.step G hsz hcl hall hrest I hr n2 e4 r (fun σ w' hI hR=>ihf _ a w' hsz' hfu hcl' (.inr ⟨σ,h2,hI,hR,.inr (.inr ⟨(setx _).2 (.inr rfl),(setx _).2 (.inl hy),rfl⟩)⟩))
     grind
   ·by_cases hiy:i=y
    ·subst hiy
     have eo:o=oy:=by have:=Ty.op;grind
     subst eo
     have hnx:x≠i:=Tx.ne
     rcases hst with⟨hx,hy,pb,ρ,I⟩| ⟨ρ,hh,I,hr,hcase⟩
     ·have hhard: ∀q c',q<l.length→l[q]? =some c'→isFl c'.op=false→zbI order listed q:=by
       intro q c' hq hc' hf
       obtain⟨k,o',d',A⟩:=G.at hq
       rw[A.can] at hc';cases hc'
       have hbit:=zeX (Ty.last.hard k (hrest q k A.ord)) A.ci hf
       obtain⟨p,k1,k2⟩:=zkk G hsz (zbV hcl ho hall hbit) (G.hex q k A.ord)
       have:=G.hord.inj p q _ k1 A.ord
       grind
      have hr:=I.absorb G trivial I.le (Nat.le_refl _) (fun p c' hp hc' hf=>hhard p c' hp hc' hf)
      rw[I.cut_all G] at hr
      refine Ty.step G' hsz hcl hall hrest I hr n1' e3 r (fun σ w' hI hR=>ihf _ a w' hsz' hfu hcl' (.inr ⟨σ,h1',hI,hR,.inr (.inl ⟨fun h=> ?_,(setx _).2 (.inr rfl),rfl⟩)⟩))
      grind
     ·rcases hcase with⟨hx,-,rfl⟩| ⟨-,hy,-⟩| ⟨-,hy,-⟩
      ·exact Ty.step G' hsz hcl hall hrest I hr n2 e2 r (fun σ w' hI hR=>ihf _ a w' hsz' hfu hcl' (.inr ⟨σ,h2,hI,hR,.inr (.inr ⟨(setx _).2 (.inl hx),(setx _).2 (.inr rfl),rfl⟩)⟩))
      all_goals grind
    ·obtain⟨q,c',W⟩:=now_of G hsz hcl ho hn (fun h=>h.elim hix hiy) hall
     have same: ∀k,k≠i→(zN (listed.setIfInBounds i true) k↔zN listed k):=fun k hk=>by grind
     have sx:=same x (fun e=>hix e.symm)
     have sy:=same y (fun e=>hiy e.symm)
     rcases hst with⟨hx,hy,pb,ρ,I⟩| ⟨ρ,hh,I,hr,hcase⟩
     ·refine I.step G (.inl trivial) W r (fun pb' τ a' w' hI=> ?_)
      rw[zi9 G (by omega) W.A.ord] at hI
      grind
     ·have hfl:isFl c'.op=true:=by
       cases hf:isFl c'.op with
       |true=>rfl
       |false=>exact absurd (I.done q _ (W.A.lt G) W.A.can hf) W.not
      refine I.stepFl G W hfl r (fun a' hI=> ?_)
      rw[zi9 G (by omega) W.A.ord] at hI
      grind
end
theorem zjt {ih:IH} {M N:Nat} {ex:Nat→Prop} {ops:Array Oper} {cis l:List CI} {order ws:List Nat} {ss:Nat→za} {hs:Nat→H} {vs:Nat→Value} (G:Reg P ih M N ex ops cis l order ws ss hs vs) {ρ:Rho} {h:H} {s:za} {a:Act} {w:World} {Ds:List Nat} {Db:List Deferred} (e1:ss 0=s) (e2:hs 0=h)
 (hN:a.tmps.size=N) (hS:SR ρ s a.tmps) (hr:HR P ρ h w) (hd:a.defers=Ds.map zC++Db):Inv P N l.length l ss hs vs ρ w (Ds.map zC++Db) True (zbI order (Array.replicate ops.size false)) 0 ρ a {w with drawn:=w.drawn+1}:=by
 have none: ∀q,¬zbI order (Array.replicate ops.size false) q:=by
  rintro q ⟨j,-,hj⟩
  grind [zN]
 have hext:Ext ρ w ρ {w with drawn:=w.drawn+1}:=Ext.drew ρ w
 have hr1:HR P ρ h {w with drawn:=w.drawn+1}:=hr.drew
 have hlt: ∀i R,ρ i=some R→i<(hs 0).next:=by
  intro i R hi
  rw[e2]
  by_cases hlt:i<h.next
  ·grind
  ·rw[(hr.nxt i (by omega)).1] at hi;cases hi
 have hcut:cut ρ (hs 0).next=ρ:=by
  funext i
  unfold cut
  by_cases h:i<(hs 0).next
  ·grind
  ·rw[if_neg h]
   cases hi:ρ i with
   |none=>rfl
   |some R=>grind
 exact⟨fun _=>.inl rfl,Nat.zero_le _,fun q _ hq=>by omega,fun q c _ hq=>absurd hq (none q),fun _=>by grind,fun q _ _ hq=>absurd hq (none q),hr1.blk,hr1.gl,fun i R hi=>.inl (hlt i R hi),fun t _ v hv=>by rw[e1] at hv;exact hS t v hv,fun q _ hq=>absurd hq (none q),hN,hd,hext,hlt⟩
theorem zjl (n:Nat):(unl n (Array.replicate n false)).length=n:=by
 unfold unl
 rw[List.filter_eq_self.2,List.length_range]
 simp_all
theorem zfL (ops:Array Oper):zgt ops (Array.replicate ops.size false):=by
 intro j hj
 grind [zN]
theorem zcS (n k:Nat): ¬zN (Array.replicate n false) k:=by
 grind [zN]
theorem draw_sound (hmix:P.follows .mixedOrders=true) {ih:IH} {M:Nat} (hih: ∀t o,ih t=some o→zdE P M t o) (hnx: ∀t o,ih t=some o→zgE t≤zbK o) {N:Nat} {ops:Array Oper} {id:Nat} {cis:List CI} (hcis:allO (zu P N ops) ops.toList=some cis)
 (hbk:ops.toList.zipIdx.all (fun x=>(x.1.after.toList.filter (Region.binds .any)).all fun e=>Nat.blt e.on x.2)=true) {cc:CC} (hc:zez (ancs ops.toList) cis=some cc) {s:za} {h:H} {o:Out} (hv:zbA cc ih s h=some o) {ρ:Rho} {r:Option Nat} {a:Act} {w:World} {Ds:List Nat} {Db:List Deferred} (hN:a.tmps.size=N) (hs:SR ρ s a.tmps) (hr:HR P ρ h w) (hd:a.defers=Ds.map zC++Db) (hD:zR ρ w Ds):
 (Code.region id ops true).wpIn (Wf r) 0 P (zcY P ρ w N Ds Db o) a w:=by
 have hback:=back_spec hbk
 have hclen:cis.length=ops.size:=by have:=(zb1 hcis).1;grind
 rcases ze4 hc with⟨l,order,rfl,h1,h2,h3⟩| ⟨l,order,x,y,c,d,rest,rfl,h1,rfl,h2,h3,h4,h5,h6,h7,h8,h9⟩
 ·have hv:(match zx ih l [(0,h)] s h with
   |some x=>some (nrmOf x)
   |none=>zge ih l [(0,h)] s h)=some o:=hv
  cases hrun:zx ih l [(0,h)] s h with
  |none=>
   rw[hrun] at hv
   have hv:zge ih l [(0,h)] s h=some o:=hv
   obtain⟨n,c,s1,h1',K⟩:=zid l _ s h o 0 h [] rfl hv
   obtain⟨⟨sF,hF⟩,hrun2⟩:=K.all
   rw[Nat.zero_add] at hrun2
   obtain⟨ss,hs',vs,htr,e1,e2,e3,e4,e5⟩:=zjn hrun2
   obtain⟨v,t,g,rfl⟩:=K.isPan
   have hnl:=(List.getElem?_eq_some_iff.1 K.at_).1
   have hol:order.length=l.length:=(zb1 h3).1.symm
   have hnl':n≤(l.take n++(l.drop (n+1)).filter fun p=>Nat.ble p.lo (zy l n)).length:=by
    grind
   have e6:=e5 n hnl'
   rw[List.take_append_of_le_length (by grind),List.take_take,Nat.min_self,K.pre] at e6
   obtain⟨e7,e8⟩:=Prod.mk.inj (Option.some.inj e6)
   have hx:n<order.length:=by omega
   obtain⟨y,hy,hyl⟩:=(zb1 h3).2 n _ (List.getElem?_eq_getElem hx)
   obtain⟨c0,hc0,rfl⟩:=amf hy
   rw[K.at_] at hyl
   have hcl:=Option.some.inj hyl
   have hxc:=h1.lt n _ (List.getElem?_eq_getElem hx)
   have hxo:order[n]<ops.size:=by grind
   obtain⟨c1,hc1,hc2⟩:=(zb1 hcis).2 order[n] ops[order[n]] (by grind)
   rw[hc0] at hc2;cases hc2
   have X:Px P N ops cis l order n order[n] ops[order[n]] c0:=⟨fun j o ho=>hback j o (by grind),h1,h2,h3,hclen,List.getElem?_eq_getElem hx,Array.getElem?_eq_getElem hxo,hc0,hc1,by have:=K.wr;grind⟩
   have G:Reg P ih M N (fun i=> ¬ ∃q:Nat,(cutO (ancs ops.toList) cis order n (zy l n))[q]? =some i) ops cis _ (cutO (ancs ops.toList) cis order n (zy l n)) (wsOf cis) ss hs' vs:=⟨hih,hnx,hcis,X.ordCut,fun i _ hx=>Classical.not_not.1 hx,fun q i hq h=>h ⟨q,hq⟩,rfl,cut_perm h3 n (zy l n),htr⟩
   have key:=draw_pan X G (fun i hx=>Classical.not_not.1 hx) (fun i hx q hq=>hx ⟨q,hq⟩) hnl' (by have:=K.want;grind) (by have:=K.pan;rw[hcl,e7,e8] at this;omega) r hD ops.size _ a _ 0 ρ (by simp) (zjl _) (zfL _) (zcS _ _) (zjt G e1 e2 hN hs hr hd)
   grind [wpIn_region_any]
  |some x=>
  rw[hrun] at hv
  obtain⟨sF,hF⟩:=x
  have e:nrmOf (sF,hF)=o:=Option.some.inj hv
  subst e
  obtain⟨ss,hs',vs,htr,e1,e2,e3,e4,-⟩:=zjn hrun
  have G:Reg P ih M N (fun _=>False) ops cis l order (wsOf cis) ss hs' vs:=⟨hih,hnx,hcis,h1,fun i hi _=>h2 i hi,fun _ _ _ h=>h,rfl,h3,htr⟩
  have key:=draw_any G hback r hD ops.size _ a _ 0 ρ (by simp) (zjl _) (zfL _) (zjt G e1 e2 hN hs hr hd)
  rw[e3,e4] at key
  exact wpIn_region_any hmix key
 ·obtain⟨⟨sF,hF⟩,hrun,hv⟩:=aof hv
  obtain⟨hh,hst,e⟩:=amf hv
  subst e
  obtain⟨ss,hs',vs,htr,e1,e2,e3,e4,-⟩:=zjn hrun
  obtain⟨g1,g1',s1,s2,s3,s4,n1,n1',n2⟩:=zjr hst
  have notin: ∀i,i∈((List.range cis.length).filter fun i=> !(Nat.beq i x)&& !(Nat.beq i y))↔i<cis.length∧ ¬(i=x∨i=y):=by
   intro i
   rw[List.mem_filter,List.mem_range]
   constructor
   ·rintro⟨a1,a2⟩
    refine⟨a1,fun h=> ?_⟩
    rcases h with rfl|rfl<;>simp at a2
   grind [Nat.eq_of_beq_eq_true]
  have G:Reg P ih M N (fun i=>i=x∨i=y) ops cis l order (wsOf cis) ss hs' vs:=⟨hih,hnx,hcis,h1,fun i hi hx=>h2 i ((notin i).2 ⟨hi,hx⟩),fun q i hq h=>((notin i).1 (h3 q i hq)).2 h,rfl,h9,htr⟩
  have G':Reg P ih M N (fun i=>i=y∨i=x) ops cis l order (wsOf cis) ss hs' vs:=⟨hih,hnx,hcis,h1,fun i hi hx=>h2 i ((notin i).2 ⟨hi,fun h=>hx h.symm⟩),fun q i hq h=>((notin i).1 (h3 q i hq)).2 h.symm,rfl,h9,htr⟩
  have isStore:isW c.op=true∧isW d.op=true:=by
   unfold zdH at hst
   split at hst
   ·rename_i e1 e2;rw[e1,e2];exact⟨rfl,rfl⟩
   grind
  have opsx: ∀{i:Nat} {e:CI},cis[i]? =some e→ ∃o,ops[i]? =some o∧zu P N ops o=some e:=by
   intro i e he
   have hi:i<ops.size:=by grind
   obtain⟨y,hy1,hy2⟩:=(zb1 hcis).2 i ops[i] (by simp[hi])
   grind
  obtain⟨ox,hox,hcx⟩:=opsx h4
  obtain⟨oy,hoy,hcy⟩:=opsx h5
  have Tx:Two P N ops cis l order ss hs' x y c ox _:=⟨hox,hcx,h6,isStore.1,h8⟩
  have Ty:Two P N ops cis l order ss hs' y x d oy _:=⟨hoy,hcy,h7,isStore.2,fun e=>h8 e.symm⟩
  rw[←e3,←e4] at s1
  rw[←e3] at s2 s4
  rw[←e3,←e4] at s3
  rw[←e4] at n1 n1' n2
  have key:=draw_two G G' Tx Ty h3 hback s1 s2 s3 s4 n1 n1' n2 r hD ops.size _ a _ (by simp) (zjl _) (zfL _) (.inl ⟨zcS _ _,zcS _ _,0,ρ,zjt G e1 e2 hN hs hr hd⟩)
  grind [wpIn_region_any]
end Go.Ideal
namespace Go.Ideal
variable {P:Program}
def Le (ih ih':IH):Prop:= ∀t o,ih t=some o→ih' t=some o
theorem doOp_le {ih ih':IH} (hl:Le ih ih') {op:COp} {s:za} {h:H} {x:Value×H} (hv:doOp ih op s h=some x):doOp ih' op s h=some x:=by
 cases op
 case call f as=>
  obtain⟨u,hu,hv⟩:=aof hv
  obtain⟨l,hl',hv⟩:=aof hv
  obtain⟨o,ho,hv⟩:=aof hv
  show zgr _ _ _ _ _=_
  unfold zgr
  simp only[hu,hl',Option.bind_some,hl _ _ ho,hv]
 case invoke tbl y as=>
  obtain⟨u,hu,hv⟩:=aof hv
  obtain⟨r,hr,hv⟩:=aof hv
  obtain⟨l,hl',hv⟩:=aof hv
  obtain⟨o,ho,hv⟩:=aof hv
  show zkT _ _ _ _ _ _=_
  unfold zkT
  simp only[hu,hr,hl',Option.bind_some,hl _ _ ho,hv]
 all_goals exact hv
theorem doOpP_le {ih ih':IH} (hl:Le ih ih') {op:COp} {s:za} {h:H} {x:Out} (hv:zcV ih op s h=some x):zcV ih' op s h=some x:=by
 cases op
 case call f as=>
  obtain⟨u,hu,hv⟩:=aof hv
  obtain⟨l,hl',hv⟩:=aof hv
  obtain⟨o,ho,hv⟩:=aof hv
  show zkp _ _ _ _ _=_
  unfold zkp
  simp only[hu,hl',Option.bind_some,hl _ _ ho,hv]
 case invoke tbl y as=>
  obtain⟨u,hu,hv⟩:=aof hv
  obtain⟨r,hr,hv⟩:=aof hv
  obtain⟨l,hl',hv⟩:=aof hv
  obtain⟨o,ho,hv⟩:=aof hv
  show invP _ _ _ _ _ _=_
  unfold invP
  simp only[hu,hr,hl',Option.bind_some,hl _ _ ho,hv]
 all_goals exact hv
theorem zjs {ih ih':IH} (hl:Le ih ih') {o:CI} {s:za} {h:H} {x:Out} (hv:zdI ih o s h=some x):zdI ih' o s h=some x:=by
 grind [aof,zdI,doOpP_le]
theorem zg8 {ih ih':IH} (hl:Le ih ih'): ∀{l:List CI} {s:za} {h:H} {x:Out},zb7 ih l s h=some x→zb7 ih' l s h=some x
 | [],_,_,_,hv=>hv
 |o::l,s,h,x,hv=>by
  rw[zch] at hv⊢
  obtain⟨y,hy,hv⟩:=aof hv
  rw[zjs hl hy,Option.bind_some]
  cases y with
  |val v g=>exact zg8 hl (show zb7 ih l _ _=some x from hv)
  |pan _ _ _=>exact hv
  |nrm _ _=>cases hv
  |exit _ _ _=>cases hv
  |ret _ _=>cases hv
theorem zcC {ih ih':IH} (hl:Le ih ih') {o:CI} {bs:List (Nat×H)} {s:za} {h:H} {x:Value×H×List (Nat×H)} (hv:zw ih o bs s h=some x):zw ih' o bs s h=some x:=by
 obtain⟨b,hb,hv⟩:=aof hv
 unfold zw
 rw[hb]
 cases b with
 |false=>exact hv
 |true=>
  simp only[zcP,Option.bind_some] at hv⊢
  split at hv
  ·rename_i hw
   rw[if_pos hw]
   obtain⟨y,hy,e⟩:=amf hv
   grind [doOp_le]
  grind
theorem zcD {ih ih':IH} (hl:Le ih ih'): ∀{l:List CI} {bs:List (Nat×H)} {s:za} {h:H} {x:za×H},zx ih l bs s h=some x→zx ih' l bs s h=some x
 | [],_,_,_,_,hv=>hv
 |o::l,bs,s,h,x,hv=>by
  rw[zba] at hv⊢
  obtain⟨y,hy,hv⟩:=aof hv
  rw[zcC hl hy];exact zcD hl hv
theorem doOp_pan {ih:IH} {op:COp} {s:za} {h:H} {v:Value} {t:za} {g:H} (hv:zcV ih op s h=some (.pan v t g)):doOp ih op s h=none:=by
 have plain:(opV op s h).map valO=some (.pan v t g)→opV op s h=none:=fun hv=>by
  obtain⟨x,hx,e⟩:=amf hv
  cases e
 cases op
 case call f as=>
  obtain⟨u,hu,hv⟩:=aof hv
  obtain⟨l,hl,hv⟩:=aof hv
  obtain⟨o,ho,hv⟩:=aof hv
  show zgr _ _ _ _ _=_
  unfold zgr
  rw[hu,Option.bind_some,hl,Option.bind_some,ho,Option.bind_some]
  cases o<;>first|rfl|cases hv
 case invoke tbl y as=>
  obtain⟨u,hu,hv⟩:=aof hv
  obtain⟨r,hr,hv⟩:=aof hv
  obtain⟨l,hl,hv⟩:=aof hv
  obtain⟨o,ho,hv⟩:=aof hv
  show zkT _ _ _ _ _ _=_
  unfold zkT
  rw[hu,Option.bind_some,hr,Option.bind_some,hl,Option.bind_some,ho,Option.bind_some]
  cases o<;>first|rfl|cases hv
 case panic x=>rfl
 all_goals exact plain hv
theorem zi8 {ih ih':IH} (hl:Le ih ih'): ∀{l:List CI} {bs:List (Nat×H)} {s:za} {h:H} {x:Out},zge ih l bs s h=some x→zge ih' l bs s h=some x∧zx ih' l bs s h=none
 | [],_,_,_,_,hv=>by cases hv
 |o::l,bs,s,h,x,hv=>by
  rw[zf2] at hv⊢
  rw[zba]
  cases hst:zw ih o bs s h with
  |some y=>
   rw[hst] at hv
   rw[zcC hl hst]
   exact zi8 hl (show zge ih l _ _ _=some x from hv)
  |none=>
   rw[hst] at hv
   have hv:panAt ih o l bs s h=some x:=hv
   unfold panAt at hv
   cases bs with
   |nil=>cases hv
   |cons b0 bs=>
    obtain⟨b,hb,hv⟩:=aof hv
    cases hbw:(b&&isW o.op) with
    |false=>grind
    |true=>
     rw[hbw] at hv
     rw[Bool.and_eq_true] at hbw
     obtain⟨rfl,hw⟩:=hbw
     obtain⟨out,ho,hv⟩:=aof hv
     cases out with
     |pan v t g=>
      obtain⟨y,hy,e⟩:=amf (show(zx ih _ _ s h).map _=some x from hv)
      have h1:=doOpP_le hl ho
      have h2:zw ih' o (b0::bs) s h=none:=by
       unfold zw
       rw[hb,Option.bind_some]
       grind [zcP,doOp_pan]
      rw[h2]
      refine⟨?_,rfl⟩
      show panAt ih' o l (b0::bs) s h=some x
      unfold panAt
      grind [zcD]
     |nrm=>cases hv
     |exit=>cases hv
     |ret=>cases hv
     |val=>cases hv
theorem zkn {ih ih':IH} (hl:Le ih ih') {c:CC} {s:za} {h:H} {o:Out} (hv:zbA c ih s h=some o):zbA c ih' s h=some o:=by
 cases c with
 |skip=>exact hv
 |ops l=>exact zg8 hl (show zb7 ih l s h=some o from hv)
 |draw l=>
  have hv:(match zx ih l [(0,h)] s h with
   |some x=>some (nrmOf x)
   |none=>zge ih l [(0,h)] s h)=some o:=hv
  show(match zx ih' l [(0,h)] s h with
   |some x=>some (nrmOf x)
   |none=>zge ih' l [(0,h)] s h)=some o
  grind [zcD,zi8]
 |draw2 l x y=>obtain⟨r,hr,hv⟩:=aof hv;show(zx ih' l [(0,h)] s h).bind _=_;grind [zcD]
 |seq a L b=>
  obtain⟨o1,h1,h2⟩:=aof hv
  show(ih' _).bind _=_
  rw[hl _ _ h1]
  cases o1<;>first|exact hl _ _ h2|exact h2
 |cond x a b=>
  obtain⟨u,hu,hv⟩:=aof hv;obtain⟨y,hy,hv⟩:=aof hv
  show(x.ev s).bind _=_
  rw[hu,Option.bind_some,hy,Option.bind_some];exact hl _ _ hv
 |block i b=>
  obtain⟨o1,h1,e⟩:=amf hv
  show(ih' _).map _=_
  rw[hl _ _ h1,←e];rfl
 |loop L b=>
  obtain⟨o1,h1,h2⟩:=aof hv
  show(ih' _).bind _=_
  rw[hl _ _ h1]
  cases o1<;>first|exact hl _ _ h2|exact h2
 |rangeFunc rid L f ps as b=>
  obtain⟨u,hu,hv⟩:=aof hv;obtain⟨g,hg,hv⟩:=aof hv;obtain⟨o1,h1,hv⟩:=aof hv
  show(f.ev s).bind _=_
  rw[hu,Option.bind_some,hg,Option.bind_some,hl _ _ h1];exact hv
 |exit i=>exact hv
 |ret=>exact hv
 |scope b l1 r1 l2 r2=>exact hl _ _ (show ih (.scope b l1 r1 l2 r2 s h)=some o from hv)
theorem doneK_le {ih ih':IH} (hl:Le ih ih') {f:Value} {args:List Value} {rs:List CR} {o x:Out} (hv:doneK ih f args rs o=some x):doneK ih' f args rs o=some x:=by
 cases o with
 |nrm s h=>obtain⟨o1,h1,h2⟩:=aof hv;show(ih' _).bind _=_;rw[hl _ _ h1];exact h2
 |ret s h=>obtain⟨o1,h1,h2⟩:=aof hv;show(ih' _).bind _=_;rw[hl _ _ h1];exact h2
 |pan v s h=>obtain⟨o1,h1,h2⟩:=aof hv;show(ih' _).bind _=_;rw[hl _ _ h1];exact h2
 |exit _ _ _=>cases hv
 |val _ _=>cases hv
theorem bodyK_le {ih ih':IH} (hl:Le ih ih') {rs:List CR} {d:Option Dfr} {o x:Out} (hv:bodyK ih rs d o=some x):bodyK ih' rs d o=some x:=by
 cases d with
 |none=>exact hv
 |some d=>
  cases o with
  |nrm s h=>
   obtain⟨f,h1,hv⟩:=aof (show(d.f.ev s).bind _=some x from hv)
   obtain⟨f',h2,hv⟩:=aof hv
   obtain⟨l,h3,hv⟩:=aof hv
   obtain⟨o1,h4,hv⟩:=aof hv
   show(d.f.ev s).bind _=_
   rw[h1,Option.bind_some,h2,Option.bind_some,h3,Option.bind_some,hl _ _ h4]
   grind [doneK_le]
  |pan _ _ _=>exact hv
  |ret _ _=>cases hv
  |exit _ _ _=>cases hv
  |val _ _=>cases hv
theorem handStep_le {F:FuncId→Option zb} {ih ih':IH} (hl:Le ih ih') {f:Value} {args:List Value} {p:Option Value} {h:H} {o:Out} (hv:zct F ih args p h f=some o):zct F ih' args p h f=some o:=by
 unfold zct at hv⊢
 split at hv
 ·obtain⟨cf,hcf,hv⟩:=aof hv
  simp only[hcf,Option.bind_some]
  unfold zfn at hv⊢
  split at hv
  ·split at hv
   ·rename_i hle
    rw[if_pos hle]
    unfold zi5 at hv⊢
    split at hv
    ·rename_i l L b hbd
     obtain⟨x,hx,hv⟩:=aof hv
     simp only[hx,Option.bind_some]
     obtain⟨px,sx,gx⟩:=x
     cases px with
     |some _=>cases hv
     |none=>
      obtain⟨o1,h1,hv⟩:=aof (show(ih (.code b (zb5 L sx) gx)).bind _=some o from hv)
      show(ih' (.code b (zb5 L sx) gx)).bind _=_
      rw[hl _ _ h1];exact hv
    grind
   grind
  grind
 grind
theorem callStep_le {F:FuncId→Option zb} {ih ih':IH} (hl:Le ih ih') {f:Value} {args:List Value} {h:H} {o:Out} (hv:zcx F ih args h f=some o):zcx F ih' args h f=some o:=by
 unfold zcx at hv⊢
 split at hv
 ·rename_i g first captured
  obtain⟨cf,hcf,hv⟩:=aof hv
  simp only[hcf,Option.bind_some]
  unfold zcr at hv⊢
  have wk:zbz ih cf (first.toList++args++captured.toList) h=some o→zbz ih' cf (first.toList++args++captured.toList) h=some o:=by
   intro hv
   unfold zbz at hv⊢
   split at hv
   ·rename_i hle
    rw[if_pos hle]
    obtain⟨o1,h1,h2⟩:=aof hv
    rw[hl _ _ h1];grind [bodyK_le]
   grind
  grind
 ·split at hv
  ·rename_i hle
   rw[if_pos hle]
   obtain⟨lo,hlo,hv⟩:=aof hv
   rw[hlo,Option.bind_some]
   cases lo with
   |loop st pend sl rc=>
    obtain⟨s0,h0,hv⟩:=aof hv
    obtain⟨o1,h1,hv⟩:=aof hv
    show(zfV _ _ _).bind _=_
    rw[h0,Option.bind_some,hl _ _ h1,Option.bind_some]
    cases o1 with
    |nrm s g=>
     obtain⟨lo1,h2,hv⟩:=aof hv
     show(H.get _ _).bind _=_
     rw[h2,Option.bind_some]
     cases lo1 with
     |loop st1 p1 sl1 rc1=>
      cases st1<;>simp only[zg9,reduceCtorEq] at hv⊢
      obtain⟨o2,h3,hv⟩:=aof hv
      rw[hl _ _ h3];exact hv
     |cells _ _=>cases hv
     |map _ _=>cases hv
     |dead=>cases hv
     |glob _ _=>cases hv
    |exit _ _ _=>cases hv
    |ret _ _=>cases hv
    |val _ _=>cases hv
    |pan _ _ _=>cases hv
   |cells _ _=>cases hv
   |map _ _=>cases hv
   |dead=>cases hv
   |glob _ _=>cases hv
  grind
 grind
theorem scopeStep_le {ih ih':IH} (hl:Le ih ih') {b:CC} {l1:Nat} {r1:CC} {l2:Nat} {r2:CC} {s:za} {h:H} {o:Out} (hv:zdl ih b l1 r1 l2 r2 s h=some o):zdl ih' b l1 r1 l2 r2 s h=some o:=by
 obtain⟨o1,h1,h2⟩:=aof hv
 show(ih' _).bind _=_
 rw[hl _ _ h1,Option.bind_some]
 cases o1 with
 |exit i s h=>
  have h2:zdk ih l1 r1 l2 r2 i s h=some o:=h2
  show zdk ih' l1 r1 l2 r2 i s h=some o
  unfold zdk at h2⊢
  cases e1:Nat.beq i (zcv l1) with
  |true=>rw[e1] at h2;exact hl _ _ h2
  |false=>
   rw[e1] at h2
   cases e2:Nat.beq i (zcv l2) with
   |true=>rw[e2] at h2;exact hl _ _ h2
   |false=>grind
 |nrm _ _=>exact h2
 |ret _ _=>exact h2
 |val _ _=>exact h2
 |pan _ _ _=>exact h2
theorem body_le {F:FuncId→Option zb} {ih ih':IH} (hl:Le ih ih'):Le (body F ih) (body F ih'):=by
 intro t o h
 cases t with
 |code c s g=>exact zkn hl (show zbA c ih s g=some o from h)
 |call f a g=>exact callStep_le hl (show zcx F ih a g f=some o from h)
 |hand f a p g=>exact handStep_le hl (show zct F ih a p g f=some o from h)
 |scope b l1 r1 l2 r2 s g=>exact scopeStep_le hl (show zdl ih b l1 r1 l2 r2 s g=some o from h)
theorem E_code (F:FuncId→Option zb) (n:Nat) (c:CC) (s:za) (h:H):E F (n+1) (.code c s h)=zbA c (E F n) s h:=rfl
theorem E_le1 {F:FuncId→Option zb}: ∀(n:Nat),Le (E F n) (E F (n+1))
 |0=>fun t o h=>by cases h
 |n+1=>body_le (E_le1 n)
theorem E_le {F:FuncId→Option zb} {n m:Nat} (h:n≤m):Le (E F n) (E F m):=by
 induction m with
 |zero=>have:n=0:=by omega
        subst this;exact fun _ _ h=>h
 |succ m ih=>
  by_cases e:n=m+1
  ·subst e;exact fun _ _ h=>h
  ·exact fun t o ht=>E_le1 m t o (ih (by omega) t o ht)
theorem E_dec {F:FuncId→Option zb} (n:Nat) (c:CC) (s:za) (h:H) (o:Out) (hv:E F n (.code c s h)=some o):zbA c (E F n) s h=some o:=by
 cases n with
 |zero=>cases hv
 |succ n=>exact zkn (E_le1 n) (show zbA c (E F n) s h=some o from hv)
end Go.Ideal
