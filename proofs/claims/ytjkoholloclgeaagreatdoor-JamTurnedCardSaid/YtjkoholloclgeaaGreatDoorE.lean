/- A part of the proof: the ideal machine, and what the functions of the program answer over it. -/
import Derived.Test.YtjkoholloclgeaaGreatDoorD
set_option linter.unusedSimpArgs false
set_option linter.unusedVariables false
set_option linter.unusedSectionVars false
namespace Go.Ideal
noncomputable section
@[simp] theorem openCap_le {n:Nat} (h:n<1000000):(n<zo)=True:=eq_true (by unfold zo;omega)
def upS (s:DS):List (Nat×DV)→DS
 | []=>s
 | (q,d)::r=>upS ((bits q,d)::s) r
@[simp] theorem upS_nil (s:DS):upS s []=s:=id rfl
@[simp] theorem upS_cons (s:DS) (q:Nat) (d:DV) (r:List (Nat×DV)):upS s ((q,d)::r)=upS ((bits q,d)::s) r:=id rfl
section
variable {F:FuncId→Option zn} {n0:Nat}
theorem zcs.for {σ:Type} {L:List (List Bool)} {b b':CC} {K:KD} {s:DS} {M:VM} (hb:b=b') (U:Nat→σ→List (Nat×DV)) (G:σ→VM) (P:Nat→σ→Prop) (N:Nat) (x0:σ) (hs:s=zbh L (upS s (U 0 x0))) (hM:M=G x0) (h0:P 0 x0)
 (step: ∀i x,i<N→P i x→(∀x',P (i+1) x'→zcs F n0 L b K (zbh L (upS s (U (i+1) x'))) (G x'))→ @Cd (rD F n0) (.base (LoK F n0 L b K)) b' (zbh L (zbh L (upS s (U i x)))) (G x))
 (last: ∀x,P N x→ @Cd (rD F n0) (.base (LoK F n0 L b K)) b' (zbh L (zbh L (upS s (U N x)))) (G x)):zcs F n0 L b K s M:=by
 have main: ∀m i x,i+m=N→P i x→zcs F n0 L b K (zbh L (upS s (U i x))) (G x):=by
  intro m
  induction m with
  |zero=>intro i x hi hp;obtain rfl:i=N:=by omega
         exact .go hb (last x hp)
  |succ m ih=>intro i x hi hp;exact .go hb (step i x (by omega) hp fun x' hp'=>ih (i+1) x' (by omega) hp')
 have:=main N 0 x0 (by omega) h0
 rw[←hs,←hM] at this
 exact this
theorem zcs.while {σ:Type} {L:List (List Bool)} {b b':CC} {K:KD} {s:DS} {M:VM} (hb:b=b') (U:σ→List (Nat×DV)) (G:σ→VM) (P:σ→Prop) (m:σ→Nat) (x0:σ) (hs:s=zbh L (upS s (U x0))) (hM:M=G x0) (h0:P x0)
 (step: ∀x,P x→(∀x',m x'<m x→P x'→zcs F n0 L b K (zbh L (upS s (U x'))) (G x'))→ @Cd (rD F n0) (.base (LoK F n0 L b K)) b' (zbh L (zbh L (upS s (U x)))) (G x)):zcs F n0 L b K s M:=by
 have main: ∀n x,m x<n→P x→zcs F n0 L b K (zbh L (upS s (U x))) (G x):=by
  intro n
  induction n with
  |zero=>intro x hx;omega
  |succ n ih=>intro x hx hp;exact .go hb (step x hp fun x' hx' hp'=>ih x' (by omega) hp')
 have:=main (m x0+1) x0 (by omega) h0
 rw[←hs,←hM] at this
 exact this
end
section
variable {F:FuncId→Option zn} {n0:Nat} {M:VM}
theorem zy.gen {f:DV} {args:List DV} {k kp:DV→VM→Prop} {Q:VM→Prop} (hQ:Q M) (h: ∀M1,Q M1→zy F f args M1 k kp):zy F f args M k kp:=h M hQ
theorem zcs.gen {L:List (List Bool)} {b:CC} {K:KD} {s:DS} {Q:VM→Prop} (hQ:Q M) (h: ∀M1,Q M1→zcs F n0 L b K s M1):zcs F n0 L b K s M:=h M hQ
end
def zj3 {α:Type} (i:Nat) (l:List α) (ok:α→Prop):Prop:= ∀x∈l.take i,ok x
theorem zj3.zero {α:Type} {l:List α} {ok:α→Prop}:zj3 0 l ok:=by simp[zj3]
theorem zj3.succ {α:Type} {i:Nat} {l:List α} {ok:α→Prop} (h:zj3 i l ok) (hi:i<l.length) (h2:ok l[i]):zj3 (i+1) l ok:=by
 intro x hx
 rw[List.take_succ_eq_append_getElem hi] at hx
 rcases List.mem_append.1 hx with hx|hx
 ·exact h x hx
 ·simp at hx;subst hx;exact h2
theorem zj3.all {α:Type} {l:List α} {ok:α→Prop} (h:zj3 l.length l ok): ∀x∈l,ok x:=by
 intro x hx;exact h x (by simpa using hx)
section
variable {B M:VM} {j:Nat} {o:MO}
end
structure Acc (B M:VM) (d:DV) (s:Nat) (rows:List (List DV)):Prop where
 sm:SM B.next B M
 nx:B.next≤M.next
 row: ∀r∈rows,r.length=s
 v:(rows=[]∧d=.nilS)∨ ∃j op cap,B.next≤j∧j<M.next∧d=.ms j 0 rows.length cap∧M.obj j=some (.rows op s rows)∧(op=true∧cap=zo∨op=false∧cap=rows.length∧cap<zo)
theorem Acc.nil (B:VM) (s:Nat):Acc B B .nilS s []:=⟨zt _ _,Nat.le_refl _,by simp,.inl ⟨rfl,rfl⟩⟩
section
variable {B M:VM} {d:DV} {s:Nat} {rows:List (List DV)}
theorem Acc.obj (h:Acc B M d s rows) {j:Nat} (hj:j<B.next):M.obj j=B.obj j:=by
 show(M.get j).map _=(B.get j).map _;rw[h.sm j hj]
theorem Acc.frame {M2:VM} (h:Acc B M d s rows) (hs:SM M.next M M2) (hn:M.next≤M2.next):Acc B M2 d s rows:=⟨fun i hi=>(hs i (Nat.lt_of_lt_of_le hi h.nx)).trans (h.sm i hi),Nat.le_trans h.nx hn,h.row,by
 rcases h.v with h1| ⟨j,op,cap,h1,h2,h3,h4,h5⟩
 ·exact .inl h1
 ·refine .inr ⟨j,op,cap,h1,Nat.lt_of_lt_of_le h2 hn,h3,?_,h5⟩
  rw[←h4];show(M2.get j).map _=(M.get j).map _;rw[hs j h2]⟩
theorem Acc.new (h:Acc B M d s rows) (o:MO):Acc B (M.new o) d s rows:=h.frame (zx (zt _ _) (Nat.le_refl _)) (Nat.le_succ _)
theorem Acc.app (h:Acc B M d s rows) {new:List (List DV)} {bytes:Nat} (hr: ∀r∈new,r.length=s) (hb:(rows.length+new.length)*bytes≤1073741824): ∃d' M',zbj s bytes M new d=some (d',M')∧Acc B M' d' s (rows++new):=by
 by_cases hn:new=[]
 ·subst hn
  refine⟨d,M,?_,by rw[List.append_nil];exact h⟩
  rcases h.v with⟨_,rfl⟩| ⟨j,_,_,_,h2,rfl,_⟩<;>(unfold zbj;rw[if_pos rfl])
 have hrow: ∀r∈rows++new,r.length=s:=fun r hm=>by
  rcases List.mem_append.1 hm with hm|hm
  ·exact h.row r hm
  ·exact hr r hm
 have hnl:0<new.length:=by cases new with|nil=>exact absurd rfl hn|cons=>simp
 rcases h.v with⟨rfl,rfl⟩| ⟨j,op,cap,h1,h2,rfl,h4,h5⟩
 ·refine⟨_,_,by unfold zbj;rw[if_neg hn];dsimp only;rw[if_pos (by simpa using hb)],?_⟩
  exact⟨zx h.sm h.nx,Nat.le_succ_of_le h.nx,hrow,.inr ⟨M.next,true,zo,h.nx,Nat.lt_succ_self _,by simp[zfv],by simp[zfv],.inl ⟨rfl,rfl⟩⟩⟩
 ·rcases h5 with⟨rfl,rfl⟩| ⟨rfl,rfl,hc⟩
  ·have e:zbj s bytes M new (.ms j 0 rows.length zo)=some (zfv (M.del j) s (rows++new)):=by
    unfold zbj;rw[if_neg hn];dsimp only;rw[if_pos hb,h4]
    show zcH s M new j 0 rows.length zo (.rows true s rows)=_
    unfold zcH;dsimp only
    rw[if_pos ⟨rfl,by omega⟩,if_pos rfl,if_neg (by omega),List.drop_zero,List.take_length]
   refine⟨_,_,e,?_⟩
   exact⟨zx (zA h.sm h1) (by exact h.nx),Nat.le_succ_of_le h.nx,hrow,.inr ⟨M.next,true,zo,h.nx,Nat.lt_succ_self _,by simp[zfv,VM.del],by simp[zfv,VM.del],.inl ⟨rfl,rfl⟩⟩⟩
  ·have e:zbj s bytes M new (.ms j 0 rows.length rows.length)=some (zfv M s (rows++new)):=by
    unfold zbj;rw[if_neg hn];dsimp only;rw[if_pos hb,h4]
    show zcH s M new j 0 rows.length rows.length (.rows false s rows)=_
    unfold zcH;dsimp only
    rw[if_pos ⟨rfl,by omega⟩,if_pos hc,if_neg (by omega),List.drop_zero,List.take_length]
   refine⟨_,_,e,?_⟩
   exact⟨zx h.sm h.nx,Nat.le_succ_of_le h.nx,hrow,.inr ⟨M.next,true,zo,h.nx,Nat.lt_succ_self _,by simp[zfv],by simp[zfv],.inl ⟨rfl,rfl⟩⟩⟩
end
section
variable {B M:VM} {d:DV} {s:Nat} {rows:List (List DV)} {X:RnD} {fr:FrC}
theorem Rs_app {bytes:Nat} {new:List (List DV)} {x:DV} {dst:Option (List Bool)} {r:List CI} {sl:DS} (h:Acc B M d s rows) (hx:zb9 M s x=some new) (hs:0<s∧s<roE) (hc: ∀r∈new,∀c∈r,zL c=true) (hr: ∀r∈new,r.length=s) (hb:(rows.length+new.length)*bytes≤1073741824) (k: ∀d' M',Acc B M' d' s (rows++new)→ @Op X fr r (zbp dst d' sl) M'): @Rs X fr (bltD M (.append s bytes) [d,x]) dst r sl:=by
 obtain⟨d',M',e,h'⟩:=h.app hr hb
 rw[zdf,if_pos hs,hx,zft,if_pos (by simpa[List.all_eq_true] using hc),e];exact k d' M' h'
theorem Frz.list {F:FuncId→Option zn} {M M2:VM} {f:DV} {l r:List DV} {d e:DV} {k kp:DV→VM→Prop} (hc:Conv M M M2) (hf:zJ M2.next f) (hb: ∀x∈l++e::r,zJ M2.next x) (hd:Frz M M2 d e) (h:zy F f (l++e::r) M2 k kp):zy F f (l++d::r) M k kp:=by
 refine zy.pre hc hf (by simp) (fun i x y hx hy=>⟨?_,hb y (List.mem_of_getElem? hy)⟩) h
 rcases Nat.lt_trichotomy i l.length with hi|hi|hi
 ·rw[List.getElem?_append_left hi] at hx hy
  rw[hx] at hy;cases hy;exact .refl _
 ·subst hi
  simp at hx hy
  subst hx;subst hy;exact hd
 ·rw[List.getElem?_append_right (by omega)] at hx hy
  obtain⟨m,hm⟩: ∃m,i - l.length=m+1:=⟨i - l.length - 1,by omega⟩
  rw[hm] at hx hy
  simp only[List.getElem?_cons_succ] at hx hy
  rw[hx] at hy;cases hy;exact .refl _
theorem Conv.del (M:VM) (j:Nat):Conv M M (M.del j):=⟨Nat.le_refl _,fun i=>by
 by_cases e:i=j
 ·subst e;exact .inr (.inl (by simp))
 ·exact .inl ⟨by simp[e],fun _=>rfl⟩⟩
theorem zy.frz {F:FuncId→Option zn} {f:DV} (l r:List DV) {j n cap sz:Nat} {op:Bool} {rs:List (List DV)} {k kp:DV→VM→Prop} (ho:M.obj j=some (.rows op sz rs)) (hn:n=rs.length) (hs: ∀r∈rs,r.length=sz) (hf:zJ M.next f) (hb: ∀x∈l++ .lst sz rs::r,zJ M.next x) (h:zy F f (l++ .lst sz rs::r) (M.del j) k kp):zy F f (l++ .ms j 0 n cap::r) M k kp:=
 Frz.list (.del M j) hf hb (.ms0 ho (by simp) hn hs) h
theorem zy.nil {F:FuncId→Option zn} {f:DV} (l r:List DV) (s:Nat) {k kp:DV→VM→Prop} (hf:zJ M.next f) (hb: ∀x∈l++ .lst s []::r,zJ M.next x) (h:zy F f (l++ .lst s []::r) M k kp):zy F f (l++ .nilS::r) M k kp:=
 Frz.list (M2:=M) ⟨Nat.le_refl _,fun i=>.inl ⟨rfl,fun _=>rfl⟩⟩ hf hb (.nilS s) h
theorem Back.acc {k:DV→VM→Prop} {M0:VM} (h:Acc B M d s rows) (hB:SM M0.next M0 B) (hn:M0.next≤B.next) (hb: ∀r∈rows,∀x∈r,zJ M0.next x) (hk:k (.lst s rows) M0):Back k M0 d M:=fun hw=>by
 refine⟨.lst s rows,?_,.lst hb,fun j hj=>(h.sm j (by omega)).trans (hB j hj),hk⟩
 rcases h.v with⟨rfl,rfl⟩| ⟨j,op,cap,h1,h2,rfl,h4,_⟩
 ·exact .nilS s
 ·exact .ms0 h4 (hw j (by omega)) rfl h.row
end
end
end Go.Ideal
namespace Go.Ideal.S
open Go Go.Ideal
structure Edge where
 f:Int
 a:Int
 t:Int
structure Gr where
 st:Int
 ac:Int
 es:List Edge
def eInt (n:Int):List DV:=[I n]
abbrev ints (l:List Int):DV:=.lst 1 (l.map eInt)
def zF (e:Edge):List DV:=[I e.f,I e.a,I e.t]
def eGr (g:Gr):List DV:=[I g.st,I g.ac,.lst 3 (g.es.map zF)]
@[simp] theorem t_Edge (e:Edge):zeI 3 (zF e)=some (zF e):=by simp[zF]
@[simp] theorem t_Gr (g:Gr):zeI 3 (eGr g)=some (eGr g):=by simp[eGr]
@[simp] theorem n_Gr (g:Gr):(eGr g).length=3:=by simp[eGr]
variable {n:Nat}
theorem b_map {α:Type} {f:α→List DV} (h: ∀a,∀d∈f a,zJ n d) (l:List α): ∀r∈l.map f,∀d∈r,zJ n d:=by
 intro r hr
 obtain⟨a,-,rfl⟩:=List.mem_map.1 hr
 exact h a
theorem b_Int (a:Int): ∀d∈eInt a,zJ n d:=by simp[eInt]
theorem b_Edge (a:Edge): ∀d∈zF a,zJ n d:=by simp[zF]
theorem b_lst {s:Nat} {α:Type} {f:α→List DV} (h: ∀a,∀d∈f a,zJ n d) (l:List α):zJ n (.lst s (l.map f)):=.lst (b_map h l)
theorem b_Gr (g:Gr): ∀d∈eGr g,zJ n d:=by
 intro d hd
 simp only[eGr,List.mem_cons,List.not_mem_nil,or_false] at hd
 rcases hd with rfl|rfl|rfl
 ·simp
 ·simp
 ·exact b_lst b_Edge _
theorem c_map {α:Type} {f:α→List DV} (h: ∀a,∀c∈f a,zL c=true) (l:List α): ∀r∈l.map f,∀c∈r,zL c=true:=fun r hr c hc=>by
 obtain⟨a,_,rfl⟩:=List.mem_map.1 hr;exact h a c hc
theorem l_map {α:Type} {f:α→List DV} {s:Nat} (h: ∀a,(f a).length=s) (l:List α): ∀r∈l.map f,r.length=s:=fun r hr=>by
 obtain⟨a,_,rfl⟩:=List.mem_map.1 hr;exact h a
theorem l_Int (a:Int):(eInt a).length=1:=by simp[eInt]
section
variable {ek:EK}
theorem wrapU {n:Int} (h0:0≤n) (h1:n<18446744073709551616):IntKind.u64.wrap n=n:=by
 show(if(false&&decide (n%(2^64:Int)≥(2^63:Int)))=true then n%(2^64:Int) - (2^64:Int) else n%(2^64:Int))=n
 simp only[Bool.false_and,Bool.false_eq_true,if_false]
 exact Int.emod_eq_of_lt h0 h1
theorem bin_shr_u (m n:Nat) (hn:n<64):binD .shr ek (.int .u64 (m:Int)) (.int .i64 (n:Int))=some (.int .u64 ((m >>> n:Nat):Int)):=by
 show Option.bind (if ltI (n:Int) 0 then none else some (Value.int .u64 ((m:Int).fdiv (2^(min (n:Int).toNat 64))))) dOf1=_
 rw[zc4]
 simp only[show¬((n:Int)<0) by omega,decide_false,Bool.false_eq_true,if_false,Option.bind_some]
 rw[Int.toNat_natCast,Nat.min_eq_left (by omega)]
 show some (DV.int .u64 _)=_
 congr 2
 rw[Nat.shiftRight_eq_div_pow,Int.fdiv_eq_ediv_of_nonneg _ (by exact_mod_cast Nat.zero_le (2^n))]
 norm_cast
theorem bv_nat {m:Nat} (h:m<2^64):(BitVec.ofInt 64 (m:Int)).toNat=m:=by
 rw[BitVec.ofInt_natCast,BitVec.toNat_ofNat,Nat.mod_eq_of_lt h]
theorem bin_and_u {a b:Nat} (ha:a<2^64) (hb:b<2^64):binD .and ek (.int .u64 (a:Int)) (.int .u64 (b:Int))=some (.int .u64 ((a &&& b:Nat):Int)):=by
 show some (DV.int .u64 (IntKind.u64.wrap (((BitVec.ofInt 64 (a:Int) &&& BitVec.ofInt 64 (b:Int)).toNat:Nat):Int)))=_
 rw[BitVec.toNat_and,bv_nat ha,bv_nat hb,wrapU (by omega) (by have:=Nat.and_le_left (n:=a) (m:=b);omega)]
theorem bin_or_u {a b:Nat} (ha:a<2^64) (hb:b<2^64):binD .or ek (.int .u64 (a:Int)) (.int .u64 (b:Int))=some (.int .u64 ((a ||| b:Nat):Int)):=by
 show some (DV.int .u64 (IntKind.u64.wrap (((BitVec.ofInt 64 (a:Int) ||| BitVec.ofInt 64 (b:Int)).toNat:Nat):Int)))=_
 rw[BitVec.toNat_or,bv_nat ha,bv_nat hb,wrapU (by omega) (by have:=Nat.or_lt_two_pow ha hb;omega)]
theorem bin_eql_u (a b:Int):binD .eql ek (.int .u64 a) (.int .u64 b)=some (.bool (decide (a=b))):=by show some (DV.bool (eqI a b))=_;rw[zho]
theorem bin_shl_u (n:Nat) (hn:n<64):binD .shl ek (.int .u64 1) (.int .i64 (n:Int))=some (.int .u64 ((2^n:Nat):Int)):=by
 show Option.bind (if ltI (n:Int) 0 then none else some (Value.int .u64 (IntKind.u64.wrap (1*2^(min (n:Int).toNat 64))))) dOf1=_
 rw[zc4]
 simp only[show¬((n:Int)<0) by omega,decide_false,Bool.false_eq_true,if_false,Option.bind_some]
 rw[Int.toNat_natCast,Nat.min_eq_left (by omega),Int.one_mul]
 have:(2^n:Nat)<2^64:=Nat.pow_lt_pow_right (by omega) hn
 have e:((2:Int)^n)=((2^n:Nat):Int):=by norm_cast
 rw[e]
 generalize (2^n:Nat)=q at*
 rw[wrapU (by omega) (by omega)]
 rfl
theorem zjQ {n:Int} (h0:0≤n) (h1:n<64):binD .quo ek (.int .i64 n) (.int .i64 64)=some (.int .i64 0):=by
 show some (DV.int .i64 (zf5 .i64 (n.tdiv 64)))=_
 rw[Int.tdiv_eq_ediv_of_nonneg h0,Int.ediv_eq_zero_of_lt h0 h1];rfl
theorem zjP {n:Int} (h0:0≤n) (h1:n<64):binD .rem ek (.int .i64 n) (.int .i64 64)=some (.int .i64 n):=by
 show some (DV.int .i64 (n.tmod 64))=_
 rw[Int.tmod_eq_emod_of_nonneg h0,Int.emod_eq_of_lt h0 h1]
end
end Go.Ideal.S
namespace Go.Ideal
section
variable {X:RnD} {fr:FrC} {s:DS} {M:VM} {d:Option (List Bool)} {r:List CI} {lo:Nat} {p:Prop} [Decidable p]
@[simp] theorem arrD_n (n sz:Nat) (k:IntKind) (i:Nat) (x:DV):arrD n sz (.int k (i:Int)) x=if i<n then offD (i*sz) x else none:=rfl
@[simp] theorem arrD_0 (n sz:Nat) (k:IntKind) (x:DV):arrD n sz (.int k 0) x=if 0<n then offD 0 x else none:=by
  show(if 0<n then offD (0*sz) x else none)=_;rw[Nat.zero_mul]
theorem zr (a c:CC): @Br X fr (some (.bool (decide p))) a c s M=if p then @Cd X fr a s M else @Cd X fr c s M:=by rw[zj];simp only[decide_eq_true_eq]
theorem zm (a c:CC): @Br X fr (some (.bool (!decide p))) a c s M=if p then @Cd X fr c s M else @Cd X fr a s M:=by
 rw[zj];by_cases h:p<;>simp[h]
theorem zq (op:COp): @Gd X fr (some (decide p)) d op lo r s M=if p then @Op X fr (⟨d,op,none,lo⟩::r) s M else @Op X fr r (zbp d (.tup []) s) M:=by rw[zi];simp only[decide_eq_true_eq]
theorem zk (op:COp): @Gd X fr (some (!decide p)) d op lo r s M=if p then @Op X fr r (zbp d (.tup []) s) M else @Op X fr (⟨d,op,none,lo⟩::r) s M:=by
 rw[zi];by_cases h:p<;>simp[h]
theorem zl {l:List CI} {bs:List Mo} (o:CI): @DrG X fr (some (decide p)) o l bs s M=if p then @DrG X fr (some true) o l bs s M else @DrG X fr (some false) o l bs s M:=by rw[zg];simp only[decide_eq_true_eq]
theorem zh {l:List CI} {bs:List Mo} (o:CI): @DrG X fr (some (!decide p)) o l bs s M=if p then @DrG X fr (some false) o l bs s M else @DrG X fr (some true) o l bs s M:=by
 rw[zg];by_cases h:p<;>simp[h]
end
section
variable {n0:Nat} {F:FuncId→Option zn}
end
end Go.Ideal
set_option maxRecDepth 10000
set_option maxHeartbeats 4000000
namespace Go.Ideal.S
open Go Go.Ideal Q Classical
attribute [local simp] decide_eq_true decide_eq_false
variable {M:VM} {k kp:DV→VM→Prop} {n0:Nat}
theorem dT {p:Prop} {inst:Decidable p} (h:p): @decide p inst=true:=decide_eq_true h
theorem dF {p:Prop} {inst:Decidable p} (h: ¬p): @decide p inst=false:=decide_eq_false h
def bef (a b:Edge):Prop:=if a.f=b.f then(if a.a=b.a then a.t<b.t else a.a<b.a) else a.f<b.f
structure EdgeOk (g:Gr) (e:Edge):Prop where
 f0:0≤e.f
 f1:e.f<g.st
 t0:0≤e.t
 t1:e.t<g.st
 a0:0≤e.a
 a1:e.a<g.ac
def SrtTo (i:Nat) (l:List Edge):Prop:= ∀q (h:q+1<l.length),q+1<i→bef (l[q]'(by omega)) l[q+1]
structure zbr (g:Gr):Prop where
 s1:1≤g.st
 s2:g.st≤60
 a1:0≤g.ac
 a2:g.ac≤40
 el:g.es.length≤400
 ok: ∀e∈g.es,EdgeOk g e
 srt:SrtTo g.es.length g.es
theorem SrtTo.succ {i:Nat} {l:List Edge} (h:SrtTo i l) (hi:i<l.length) (h2: ∀(h0:0<i),bef (l[i - 1]'(by omega)) l[i]):SrtTo (i+1) l:=by
 intro q hq hqi
 rcases Nat.lt_or_ge (q+1) i with h1|h1
 ·exact h q hq h1
 ·obtain rfl:i=q+1:=by omega
  exact h2 (by omega)
theorem zR {B M:VM} {j:Nat} {o:MO} (h:SM B.next B M) (hj:j<B.next) (ho:B.obj j=some o):M.obj j=some o:=by
 show(M.get j).map _=_;rw[h j hj];exact ho
end Go.Ideal.S
namespace Go.Ideal.S
open Go Go.Ideal Q Classical
attribute [local simp] decide_eq_true decide_eq_false zH
variable {M:VM} {k kp:DV→VM→Prop} {n0:Nat}
def zgU (g:Gr) (a:Int):Prop:=zbr g∧0≤a∧a<g.ac
def EdgesOk (es:List Edge) (l:List Int):Prop:= ∀x∈l,0≤x∧x<es.length
def eAt (es:List Edge) (x:Int):Edge:=es[x.toNat]?.getD ⟨0,0,0⟩
theorem zjC {es:List Edge} {n:Nat} (h:n<es.length):eAt es (n:Int)=es[n]:=by simp[eAt,h]
def zdO (es:List Edge) (f:Int):Prop:= ∃e∈es,e.f=f
end Go.Ideal.S
namespace Go.Ideal.S
open Go Go.Ideal Q Classical
attribute [local simp] decide_eq_true decide_eq_false zH
variable {M:VM} {k kp:DV→VM→Prop} {n0:Nat}
theorem rep_on (n m:Nat): ¬(List.replicate n false)[m]? =some true:=by
 rw[List.getElem?_replicate];split<;>simp
end Go.Ideal.S
namespace Go.Ideal.S
open Go Go.Ideal Q Classical
attribute [local simp] decide_eq_true decide_eq_false zH
variable {M:VM} {k kp:DV→VM→Prop} {n0:Nat}
end Go.Ideal.S
namespace Go.Ideal.S
open Go Go.Ideal Q Classical
attribute [local simp] decide_eq_true decide_eq_false zH
variable {M:VM} {k kp:DV→VM→Prop} {n0:Nat}
attribute [local simp] c_B f_B r_B_1 r_B_2 r_B_3 r_B_4 r_B_5 r_B_6 r_B_7 r_B_8 r_B_10 c_S f_S r_S_1 r_S_2 c_G f_G r_G_1 r_G_2 r_G_3 r_G_4 r_G_5 r_G_6 r_G_7 r_G_8 r_G_9 r_G_11 c_H f_H r_H_1 r_H_2 c_M f_M r_M_1
def orR:List Int→Int
 | []=>0
 |x::r=>if x=0 then orR r else x
theorem or_ok (l:List Int) (h2:l.length≤1000000) (hk:k (I (orR l)) M):zy F (.fn n_B [] []) [ints l] M k kp:=by
 apply zy.back
 refine .fn h_cmp_Or_int_ rfl (by simp[f_B]) ?_
 simp
 refine .for (σ:=Unit) c_B_9.eq_1 (fun i _=>[(8,I i)]) (fun _=>M) (fun i _=>orR (l.drop i)=orR l) l.length () (by simp) rfl (by simp) (fun i _ hi hP again=> ?_) (fun _ hP=> ?_)
 ·rw[List.drop_eq_getElem_cons hi,orR] at hP
  by_cases h0:l[i]=0
  ·rw[if_pos h0] at hP
   have again:=again () hP
   simp at again
   clear hk
   simp(disch:=((try simp only[zc,ze,zf]);omega)) [hi,eInt,h0]
   exact again
  ·rw[if_neg h0] at hP
   rw[←hP] at hk
   clear again hP
   simp[hi,eInt,h0]
   exact Back.plain (by simp) (by repeat' (first|assumption|exact zt _ _|apply zu|apply zx|apply zA| ((try simp only[zc,ze,zf]);omega))) hk
 ·rw[List.drop_length,orR] at hP
  rw[←hP] at hk
  simp
  exact Back.plain (by simp) (by repeat' (first|assumption|exact zt _ _|apply zu|apply zx|apply zA| ((try simp only[zc,ze,zf]);omega))) hk
def ordR (a b:Edge):Int:=orR [a.f - b.f,a.a - b.a,a.t - b.t]
theorem ordR_bef (a b:Edge):0≤ordR a b↔ ¬bef a b:=by
 have e1:(a.f - b.f=0)↔a.f=b.f:=by omega
 have e2:(a.a - b.a=0)↔a.a=b.a:=by omega
 have e3:(a.t - b.t=0)↔a.t=b.t:=by omega
 unfold ordR bef
 simp only[orR,e1,e2,e3]
 repeat' split
 all_goals omega
structure Small (e:Edge):Prop where
 f0: -1000≤e.f
 f1:e.f≤1000
 a0: -1000≤e.a
 a1:e.a≤1000
 t0: -1000≤e.t
 t1:e.t≤1000
theorem order_ok (a b:Edge) (ha:Small a) (hb:Small b) (hk:k (I (ordR a b)) M):zy F (.fn n_S [] []) [.agg (zF a),.agg (zF b)] M k kp:=by
 obtain⟨p1,p2,p3,p4,p5,p6⟩:=ha
 obtain⟨q1,q2,q3,q4,q5,q6⟩:=hb
 apply zy.back
 refine .fn h_jam_order rfl (by simp[f_S]) ?_
 simp(disch:=((try simp only[zc,ze,zf]);omega)) [zF,zcv]
 refine .frz [] [] (rs:=[a.f - b.f,a.a - b.a,a.t - b.t].map eInt) (by simp[eInt];rfl) (by simp) (l_map l_Int _) (by simp) (fun x hx=> ?_) ?_
 ·simp at hx;subst hx;exact .lst (by simp[eInt])
 refine or_ok _ (by simp) ?_
 simp
 exact Back.plain (by simp) (by repeat' (first|assumption|exact zt _ _|apply zu|apply zx|apply zA| ((try simp only[zc,ze,zf]);omega))) hk
theorem fine_ok (g:Gr) (hl:g.es.length≤1000000) (hk: ∀b:Bool,(b=true↔zbr g)→k (.bool b) M):zy F (.fn n_G [] []) [.agg (eGr g)] M k kp:=by
 apply zy.back
 refine .fn h_jam_fine rfl (by simp[f_G]) ?_
 by_cases hc:g.st<1∨60<g.st∨g.ac<0∨40<g.ac∨400<(g.es.length:Int)
 ·have hk:=hk false ⟨fun h=>by(cases h),fun h=>by(have:=h.s1;have:=h.s2;have:=h.a1;have:=h.a2;have:=h.el;omega)⟩
  repeat' (first| (simp(disch:=((try simp only[zc,ze,zf]);omega)) [eGr];first|done| ((first|simp only[zr,zm,zq,zk,zl,zh]|simp only[zj,zi]|rw[zg]);split)|skip)| ((first|simp only[zr,zm,zq,zk,zl,zh]|simp only[zj,zi]|rw[zg]);split))
  all_goals first|omega|exact Back.plain (by simp) (by repeat' (first|assumption|exact zt _ _|apply zu|apply zx|apply zA| ((try simp only[zc,ze,zf]);omega))) hk
 have h1: ¬g.st<1:=by omega
 have h2: ¬60<g.st:=by omega
 have h3: ¬g.ac<0:=by omega
 have h4: ¬40<g.ac:=by omega
 have h5: ¬400<(g.es.length:Int):=by omega
 clear hc
 obtain⟨M1,hM1⟩: ∃M1,M1=M.new (.rows false 3 [[I g.st,I g.ac,.lst 3 (g.es.map zF)]]):=⟨_,rfl⟩
 have ho:M1.obj M.next=some (.rows false 3 [[I g.st,I g.ac,.lst 3 (g.es.map zF)]]):=by simp[hM1]
 have hs:SM M.next M M1:=by simp[hM1]
 have hn:M.next<M1.next:=by simp[hM1]
 have hM:=hM1.symm
 clear hM1
 simp[eGr,h1,h2,h3,h4,h5,hM,ho]
 clear hM
 refine .for (σ:=VM) c_G_10.eq_1 (fun i _=>[(32,I i)]) (fun y=>y) (fun i y=>(SM M1.next M1 y∧M1.next≤y.next)∧zj3 i g.es (EdgeOk g)∧SrtTo i g.es) g.es.length M1 (by simp) rfl ⟨⟨zt _ _,Nat.le_refl _⟩,.zero,fun q h hq=>by omega⟩ (fun i y hi hP again=> ?_) (fun y hP=> ?_)
 ·obtain⟨⟨hy,hyn⟩,hA,hS⟩:=hP
  have ho':=zR hy hn ho
  have hsy:SM M.next M y:=fun j hj=>(hy j (by omega)).trans (hs j hj)
  by_cases hc:EdgeOk g g.es[i]
  ·have q1:=hc.f0;have q2:=hc.f1;have q3:=hc.t0;have q4:=hc.t1;have q5:=hc.a0;have q6:=hc.a1
   have hA2:=hA.succ hi hc
   rcases Nat.eq_zero_or_pos i with rfl|h0
   ·have again:=fun M' h=>again M' ⟨h,hA2,hS.succ hi (by omega)⟩
    simp at again
    clear hk
    simp(disch:=((try simp only[zc,ze,zf]);omega)) [ho',hi,zF]
    exact again _ (by repeat' (first|assumption|exact zt _ _|apply zu|apply zx|apply zA| ((try simp only[zc,ze,zf]);omega))) (by simp;omega)
   ·obtain⟨m,hm1⟩: ∃m,i - 1=m:=⟨_,rfl⟩
    have hm:m<g.es.length:=by omega
    have em:(i:Int) - 1=(m:Int):=by omega
    have hme:=hA g.es[m] (List.mem_take_iff_getElem.2 ⟨m,by omega,rfl⟩)
    have hsm1:Small g.es[m]:=by obtain⟨_,_,_,_,_,_⟩:=hme;constructor<;>omega
    have hsm2:Small g.es[i]:=by constructor<;>omega
    have hob:=ordR_bef g.es[m] g.es[i]
    by_cases hb:bef g.es[m] g.es[i]
    ·have again:=fun M' h=>again M' ⟨h,hA2,hS.succ hi (fun _=>by simpa only[hm1] using hb)⟩
     have hob2:ordR g.es[m] g.es[i]<0:=Int.not_le.1 fun h=>hob.1 h hb
     simp at again
     clear hk
     simp(disch:=((try simp only[zc,ze,zf]);omega)) [ho',hi,hm,em,zF]
     refine order_ok g.es[m] g.es[i] hsm1 hsm2 ?_
     simp(disch:=((try simp only[zc,ze,zf]);omega))
     exact again _ (by repeat' (first|assumption|exact zt _ _|apply zu|apply zx|apply zA| ((try simp only[zc,ze,zf]);omega))) (by simp;omega)
    ·have hk:=hk false ⟨fun h=>by(cases h),fun h=>absurd (h.srt m (by omega) (by omega)) (fun q=>hb (by simpa only[show m+1=i by omega] using q))⟩
     have hob2:=hob.2 hb
     clear again
     simp(disch:=((try simp only[zc,ze,zf]);omega)) [ho',hi,hm,em,zF]
     refine order_ok g.es[m] g.es[i] hsm1 hsm2 ?_
     simp(disch:=((try simp only[zc,ze,zf]);omega))
     exact Back.plain (by simp) (by repeat' (first|assumption|exact zt _ _|apply zu|apply zx|apply zA| ((try simp only[zc,ze,zf]);omega))) hk
  ·have hk:=hk false ⟨fun h=>by(cases h),fun h=>absurd (h.ok _ (List.getElem_mem hi)) hc⟩
   have hc':g.es[i].f<0∨g.st≤g.es[i].f∨g.es[i].t<0∨g.st≤g.es[i].t∨g.es[i].a<0∨g.ac≤g.es[i].a:=Classical.byContradiction fun h=>hc ⟨by omega,by omega,by omega,by omega,by omega,by omega⟩
   clear again hc
   repeat' (first| (simp(disch:=((try simp only[zc,ze,zf]);omega)) [ho',hi,zF];first|done| ((first|simp only[zr,zm,zq,zk,zl,zh]|simp only[zj,zi]|rw[zg]);split)|skip)| ((first|simp only[zr,zm,zq,zk,zl,zh]|simp only[zj,zi]|rw[zg]);split))
   all_goals first|omega|exact Back.plain (by simp) (by repeat' (first|assumption|exact zt _ _|apply zu|apply zx|apply zA| ((try simp only[zc,ze,zf]);omega))) hk
 ·obtain⟨⟨hy,hyn⟩,hA,hS⟩:=hP
  have ho':=zR hy hn ho
  have hsy:SM M.next M y:=fun j hj=>(hy j (by omega)).trans (hs j hj)
  have hk:=hk true ⟨fun _=>⟨by omega,by omega,by omega,by omega,by omega,hA.all,hS⟩,fun _=>rfl⟩
  simp[ho']
  exact Back.plain (by simp) (by repeat' (first|assumption|exact zt _ _|apply zu|apply zx|apply zA| ((try simp only[zc,ze,zf]);omega))) hk
abbrev setD (m:Nat):DV:=.agg [.int .u64 (m:Int)]
abbrev setO (m:Nat):MO:=.rows false 1 [[.int .u64 (m:Int)]]
theorem zdA (m n:Nat) (hm:m<2^64) (hn:n<64) (hk:k (.bool (m.testBit n)) M):zy F (.fn n_H [] []) [setD m,I n] M k kp:=by
 apply zy.back
 refine .fn h_jam_set_has rfl (by simp[f_H]) ?_
 have h1:=zjQ (ek:=.other) (n:=(n:Int)) (by omega) (by omega)
 have h2:=zjP (ek:=.other) (n:=(n:Int)) (by omega) (by omega)
 have h3:=bin_shr_u (ek:=.other) m n hn
 have hb:m >>> n<2^64:=Nat.lt_of_le_of_lt (Nat.shiftRight_le m n) hm
 have h4:binD .and .other (.int .u64 ((m >>> n:Nat):Int)) (.int .u64 1)=some (.int .u64 ((m >>> n &&& 1:Nat):Int)):=bin_and_u hb (show 1<2^64 by omega)
 have h5:=bin_eql_u (ek:=.other) ((m >>> n &&& 1:Nat):Int) 1
 have e:decide ((((m >>> n) &&& 1:Nat):Int)=1)=m.testBit n:=by
  rw[Nat.testBit_eq_decide_div_mod_eq,Nat.and_one_is_mod,Nat.shiftRight_eq_div_pow]
  generalize m / 2^n=q
  exact decide_eq_decide.2 (by omega)
 rw[e] at h5
 clear e
 generalize m >>> n &&& 1=q2 at*
 generalize m >>> n=q1 at*
 simp[h1,h2,h3,h4,h5]
 exact Back.plain (by simp) (by repeat' (first|assumption|exact zt _ _|apply zu|apply zx|apply zA| ((try simp only[zc,ze,zf]);omega))) hk
theorem zi3 (m n j:Nat) (hm:m<2^64) (hn:n<64) (ho:M.obj j=some (setO m)) (hk:k (.tup []) (M.put j (setO (m ||| 2^n)))):zy F (.fn n_M [] []) [.ptr j 0 0,I n] M k kp:=by
 refine .fn zkd rfl (by simp[f_M]) ?_
 have h1:=zjQ (ek:=.other) (n:=(n:Int)) (by omega) (by omega)
 have h2:=zjP (ek:=.other) (n:=(n:Int)) (by omega) (by omega)
 have h3:=bin_shl_u (ek:=.other) n hn
 have hb:2^n<2^64:=Nat.pow_lt_pow_right (by omega) hn
 have h4:=bin_or_u (ek:=.other) hm hb
 generalize m ||| 2^n=q2 at*
 generalize 2^n=q1 at*
 simp[h1,h2,h3,h4,ho]
 exact hk
end Go.Ideal.S
namespace Go.Ideal.S
open Go Go.Ideal Q Classical
attribute [local simp] decide_eq_true decide_eq_false zH
variable {M:VM} {k kp:DV→VM→Prop} {n0:Nat}
attribute [local simp] c_n f_n r_n_1 r_n_2 r_n_3 r_n_4 r_n_5 r_n_6 r_n_7 r_n_9 c_y f_y r_y_1 r_y_2 c_c f_c r_c_1 r_c_2 r_c_3 r_c_4 r_c_5 r_c_6 r_c_7 r_c_9 c_q f_q r_q_1 r_q_2 c_L f_L r_L_2 r_Z c_Z f_Z r_Z_1 r_Z_2 c_x f_x r_x_2 r_T c_T f_T r_T_1 r_T_2
def idxR {α:Type} (p:α→Bool):List α→Nat→Int
 | [],_=> -1
 |x::r,n=>if p x=true then n else idxR p r (n+1)
theorem idxR_any {α:Type} (p:α→Bool): ∀(l:List α) (n:Nat),decide (0≤idxR p l n)=l.any p
 | [],n=>by simp[idxR]
 |x::r,n=>by
  unfold idxR
  cases h:p x with
  |true=>simp[h]
  |false=>simp[h];rw[←idxR_any p r (n+1)]
theorem indexI_ok (l:List Int) (f:DV) (p:Int→Bool) (h2:l.length≤1000000) (hc: ∀x∈l,∀{k kp:DV→VM→Prop},k (.bool (p x)) M→zy F f [I x] M k kp) (hk:k (I (idxR p l 0)) M):zy F (.fn n_n [] []) [ints l,f] M k kp:=by
 apply zy.back
 refine .fn zc8 rfl (by simp[f_n]) ?_
 repeat' (first| (simp(disch:=((try simp only[zc,ze,zf]);omega));first|done| ((first|simp only[zr,zm,zq,zk,zl,zh]|simp only[zj,zi]|rw[zg]);split)|skip)| ((first|simp only[zr,zm,zq,zk,zl,zh]|simp only[zj,zi]|rw[zg]);split))
 refine .for (σ:=Unit) c_n_8.eq_1 (fun i _=>[(8,I i)]) (fun _=>M) (fun i _=>idxR p (l.drop i) i=idxR p l 0) l.length () (by simp) rfl (by simp) (fun i _ hi hP again=> ?_) (fun _ hP=> ?_)
 ·rw[List.drop_eq_getElem_cons hi,idxR] at hP
  repeat' (first| (simp(disch:=((try simp only[zc,ze,zf]);omega)) [hi,eInt];first|done| ((first|simp only[zr,zm,zq,zk,zl,zh]|simp only[zj,zi]|rw[zg]);split)|skip)| ((first|simp only[zr,zm,zq,zk,zl,zh]|simp only[zj,zi]|rw[zg]);split))
  refine hc _ (List.getElem_mem hi) ?_
  cases h:p l[i] with
  |true=>
   rw[if_pos h] at hP
   rw[←hP] at hk
   clear again
   repeat' (first| (simp(disch:=((try simp only[zc,ze,zf]);omega)) [h];first|done| ((first|simp only[zr,zm,zq,zk,zl,zh]|simp only[zj,zi]|rw[zg]);split)|skip)| ((first|simp only[zr,zm,zq,zk,zl,zh]|simp only[zj,zi]|rw[zg]);split))
   exact Back.plain (by simp) (by repeat' (first|assumption|exact zt _ _|apply zu|apply zx|apply zA| ((try simp only[zc,ze,zf]);omega))) hk
  |false=>
   rw[if_neg (by simp[h])] at hP
   have again:=again () hP
   simp at again
   clear hk
   repeat' (first| (simp(disch:=((try simp only[zc,ze,zf]);omega)) [h];first|done| ((first|simp only[zr,zm,zq,zk,zl,zh]|simp only[zj,zi]|rw[zg]);split)|skip)| ((first|simp only[zr,zm,zq,zk,zl,zh]|simp only[zj,zi]|rw[zg]);split))
   exact again
 ·rw[List.drop_length,idxR] at hP
  rw[←hP] at hk
  repeat' (first| (simp(disch:=((try simp only[zc,ze,zf]);omega));first|done| ((first|simp only[zr,zm,zq,zk,zl,zh]|simp only[zj,zi]|rw[zg]);split)|skip)| ((first|simp only[zr,zm,zq,zk,zl,zh]|simp only[zj,zi]|rw[zg]);split))
  exact Back.plain (by simp) (by repeat' (first|assumption|exact zt _ _|apply zu|apply zx|apply zA| ((try simp only[zc,ze,zf]);omega))) hk
theorem containsI_ok (l:List Int) (f:DV) (p:Int→Bool) (h2:l.length≤1000000) (hc: ∀x∈l,∀{k kp:DV→VM→Prop},k (.bool (p x)) M→zy F f [I x] M k kp) (hk:k (.bool (l.any p)) M):zy F (.fn n_y [] []) [ints l,f] M k kp:=by
 apply zy.back
 refine .fn zcJ rfl (by simp[f_y]) ?_
 repeat' (first| (simp(disch:=((try simp only[zc,ze,zf]);omega));first|done| ((first|simp only[zr,zm,zq,zk,zl,zh]|simp only[zj,zi]|rw[zg]);split)|skip)| ((first|simp only[zr,zm,zq,zk,zl,zh]|simp only[zj,zi]|rw[zg]);split))
 refine indexI_ok l f p h2 hc ?_
 rw[←idxR_any p l 0] at hk
 generalize idxR p l 0=r at*
 simp
 exact Back.plain (by simp) (by repeat' (first|assumption|exact zt _ _|apply zu|apply zx|apply zA| ((try simp only[zc,ze,zf]);omega))) hk
theorem indexE_ok (l:List Edge) (f:DV) (p:Edge→Bool) (h2:l.length≤1000000) (hc: ∀x∈l,∀{k kp:DV→VM→Prop},k (.bool (p x)) M→zy F f [.agg (zF x)] M k kp) (hk:k (I (idxR p l 0)) M):zy F (.fn n_c [] []) [.lst 3 (l.map zF),f] M k kp:=by
 apply zy.back
 refine .fn zbH rfl (by simp[f_c]) ?_
 repeat' (first| (simp(disch:=((try simp only[zc,ze,zf]);omega));first|done| ((first|simp only[zr,zm,zq,zk,zl,zh]|simp only[zj,zi]|rw[zg]);split)|skip)| ((first|simp only[zr,zm,zq,zk,zl,zh]|simp only[zj,zi]|rw[zg]);split))
 refine .for (σ:=Unit) c_c_8.eq_1 (fun i _=>[(8,I i)]) (fun _=>M) (fun i _=>idxR p (l.drop i) i=idxR p l 0) l.length () (by simp) rfl (by simp) (fun i _ hi hP again=> ?_) (fun _ hP=> ?_)
 ·rw[List.drop_eq_getElem_cons hi,idxR] at hP
  repeat' (first| (simp(disch:=((try simp only[zc,ze,zf]);omega)) [hi];first|done| ((first|simp only[zr,zm,zq,zk,zl,zh]|simp only[zj,zi]|rw[zg]);split)|skip)| ((first|simp only[zr,zm,zq,zk,zl,zh]|simp only[zj,zi]|rw[zg]);split))
  refine hc _ (List.getElem_mem hi) ?_
  cases h:p l[i] with
  |true=>
   rw[if_pos h] at hP
   rw[←hP] at hk
   clear again
   repeat' (first| (simp(disch:=((try simp only[zc,ze,zf]);omega)) [h];first|done| ((first|simp only[zr,zm,zq,zk,zl,zh]|simp only[zj,zi]|rw[zg]);split)|skip)| ((first|simp only[zr,zm,zq,zk,zl,zh]|simp only[zj,zi]|rw[zg]);split))
   exact Back.plain (by simp) (by repeat' (first|assumption|exact zt _ _|apply zu|apply zx|apply zA| ((try simp only[zc,ze,zf]);omega))) hk
  |false=>
   rw[if_neg (by simp[h])] at hP
   have again:=again () hP
   simp at again
   clear hk
   repeat' (first| (simp(disch:=((try simp only[zc,ze,zf]);omega)) [h];first|done| ((first|simp only[zr,zm,zq,zk,zl,zh]|simp only[zj,zi]|rw[zg]);split)|skip)| ((first|simp only[zr,zm,zq,zk,zl,zh]|simp only[zj,zi]|rw[zg]);split))
   exact again
 ·rw[List.drop_length,idxR] at hP
  rw[←hP] at hk
  repeat' (first| (simp(disch:=((try simp only[zc,ze,zf]);omega));first|done| ((first|simp only[zr,zm,zq,zk,zl,zh]|simp only[zj,zi]|rw[zg]);split)|skip)| ((first|simp only[zr,zm,zq,zk,zl,zh]|simp only[zj,zi]|rw[zg]);split))
  exact Back.plain (by simp) (by repeat' (first|assumption|exact zt _ _|apply zu|apply zx|apply zA| ((try simp only[zc,ze,zf]);omega))) hk
theorem zhI (l:List Edge) (f:DV) (p:Edge→Bool) (h2:l.length≤1000000) (hc: ∀x∈l,∀{k kp:DV→VM→Prop},k (.bool (p x)) M→zy F f [.agg (zF x)] M k kp) (hk:k (.bool (l.any p)) M):zy F (.fn n_q [] []) [.lst 3 (l.map zF),f] M k kp:=by
 apply zy.back
 refine .fn zbz rfl (by simp[f_q]) ?_
 repeat' (first| (simp(disch:=((try simp only[zc,ze,zf]);omega));first|done| ((first|simp only[zr,zm,zq,zk,zl,zh]|simp only[zj,zi]|rw[zg]);split)|skip)| ((first|simp only[zr,zm,zq,zk,zl,zh]|simp only[zj,zi]|rw[zg]);split))
 refine indexE_ok l f p h2 hc ?_
 rw[←idxR_any p l 0] at hk
 generalize idxR p l 0=r at*
 simp
 exact Back.plain (by simp) (by repeat' (first|assumption|exact zt _ _|apply zu|apply zx|apply zA| ((try simp only[zc,ze,zf]);omega))) hk
theorem jknown_ok (g:Gr) (hl:g.es.length≤1000000) (a:Int) (l:List Int) (h2:l.length≤1000000) (hk:k (.bool (decide (zgU g a∧EdgesOk g.es l))) M):zy F (.fn n_L [] []) [.agg (eGr g),I a,ints l] M k kp:=by
 apply zy.back
 refine .fn h_jam_known rfl (by simp[f_L]) ?_
 repeat' (first| (simp(disch:=((try simp only[zc,ze,zf]);omega)) [eGr];first|done| ((first|simp only[zr,zm,zq,zk,zl,zh]|simp only[zj,zi]|rw[zg]);split)|skip)| ((first|simp only[zr,zm,zq,zk,zl,zh]|simp only[zj,zi]|rw[zg]);split))
 refine fine_ok g hl fun b hb=> ?_
 cases b with
 |false=>
  rw[dF (fun h=>by have:=hb.2 h.1.1;cases this)] at hk
  repeat' (first| (simp(disch:=((try simp only[zc,ze,zf]);omega)) [eGr];first|done| ((first|simp only[zr,zm,zq,zk,zl,zh]|simp only[zj,zi]|rw[zg]);split)|skip)| ((first|simp only[zr,zm,zq,zk,zl,zh]|simp only[zj,zi]|rw[zg]);split))
  exact Back.plain (by simp) (by repeat' (first|assumption|exact zt _ _|apply zu|apply zx|apply zA| ((try simp only[zc,ze,zf]);omega))) hk
 |true=>
  have hg:=hb.1 rfl
  by_cases h1:0≤a
  ·by_cases h2':a<g.ac
   ·have e:(!(l.any fun x=>decide (x<0)||decide ((g.es.length:Int)≤x)))=decide (zgU g a∧EdgesOk g.es l):=by
     rw[Bool.eq_iff_iff]
     simp only[Bool.not_eq_true',List.any_eq_false,Bool.or_eq_true,decide_eq_true_eq,not_or,zgU,hg,h1,h2',true_and,EdgesOk]
     exact⟨fun h x hx=>by have:=h x hx;omega,fun h x hx=>by have:=h x hx;omega⟩
    rw[←e] at hk
    repeat' (first| (simp(disch:=((try simp only[zc,ze,zf]);omega)) [eGr,h1,h2'];first|done| ((first|simp only[zr,zm,zq,zk,zl,zh]|simp only[zj,zi]|rw[zg]);split)|skip)| ((first|simp only[zr,zm,zq,zk,zl,zh]|simp only[zj,zi]|rw[zg]);split))
    refine containsI_ok l _ (fun x=>decide (x<0)||decide ((g.es.length:Int)≤x)) h2 (fun x hx {k kp} hk=> ?_) ?_
    ·apply zy.back
     refine .fn h_jam_known_1 rfl (by simp[f_Z]) ?_
     repeat' (first| (simp(disch:=((try simp only[zc,ze,zf]);omega)) [eGr];first|done| ((first|simp only[zr,zm,zq,zk,zl,zh]|simp only[zj,zi]|rw[zg]);split)|skip)| ((first|simp only[zr,zm,zq,zk,zl,zh]|simp only[zj,zi]|rw[zg]);split))
     all_goals exact Back.plain (by simp) (by repeat' (first|assumption|exact zt _ _|apply zu|apply zx|apply zA| ((try simp only[zc,ze,zf]);omega))) (by simp_all)
    generalize (l.any fun x=>decide (x<0)||decide ((g.es.length:Int)≤x))=b at*
    simp
    exact Back.plain (by simp) (by repeat' (first|assumption|exact zt _ _|apply zu|apply zx|apply zA| ((try simp only[zc,ze,zf]);omega))) hk
   ·rw[dF (fun h=>h2' h.1.2.2)] at hk
    repeat' (first| (simp(disch:=((try simp only[zc,ze,zf]);omega)) [eGr,h1,h2'];first|done| ((first|simp only[zr,zm,zq,zk,zl,zh]|simp only[zj,zi]|rw[zg]);split)|skip)| ((first|simp only[zr,zm,zq,zk,zl,zh]|simp only[zj,zi]|rw[zg]);split))
    exact Back.plain (by simp) (by repeat' (first|assumption|exact zt _ _|apply zu|apply zx|apply zA| ((try simp only[zc,ze,zf]);omega))) hk
  ·rw[dF (fun h=>h1 h.1.2.1)] at hk
   repeat' (first| (simp(disch:=((try simp only[zc,ze,zf]);omega)) [eGr,h1];first|done| ((first|simp only[zr,zm,zq,zk,zl,zh]|simp only[zj,zi]|rw[zg]);split)|skip)| ((first|simp only[zr,zm,zq,zk,zl,zh]|simp only[zj,zi]|rw[zg]);split))
   exact Back.plain (by simp) (by repeat' (first|assumption|exact zt _ _|apply zu|apply zx|apply zA| ((try simp only[zc,ze,zf]);omega))) hk
end Go.Ideal.S
namespace Go.Ideal.S
open Go Go.Ideal Q Classical
attribute [local simp] decide_eq_true decide_eq_false zH
variable {M:VM} {k kp:DV→VM→Prop} {n0:Nat}
theorem zkl: ∀(l:List DV) (n:Nat) (v:DV),n<l.length→zbc l n [v]=some (l.set n v)
 |a::r,0,v,_=>by simp[zbc]
 |a::r,n+1,v,h=>by simp[zbc,zkl r n v (by simpa using h)]
attribute [local simp] c_x f_x r_x_2 r_T c_T f_T r_T_1 r_T_2
theorem jopen_ok (g:Gr) (m:Nat) (a:Int) (hl:g.es.length≤1000000) (hm:m<2^64) (hE: ∀e∈g.es,0≤e.f∧e.f<64) (hk:k (.bool (g.es.any fun e=>m.testBit e.f.toNat&&decide (e.a=a))) M):zy F (.fn n_x [] []) [.agg (eGr g),setD m,I a] M k kp:=by
 apply zy.back
 refine .fn zhW rfl (by simp[f_x]) ?_
 repeat' (first| (simp(disch:=((try simp only[zc,ze,zf]);omega)) [eGr];first|done| ((first|simp only[zr,zm,zq,zk,zl,zh]|simp only[zj,zi]|rw[zg]);split)|skip)| ((first|simp only[zr,zm,zq,zk,zl,zh]|simp only[zj,zi]|rw[zg]);split))
 refine zhI g.es _ (fun e=>m.testBit e.f.toNat&&decide (e.a=a)) hl (fun x hx {k kp} hk=> ?_) ?_
 ·obtain⟨x0,x1⟩:=hE x hx
  obtain⟨c,hc⟩:=Int.eq_ofNat_of_zero_le x0
  rw[hc,Int.toNat_natCast] at hk
  apply zy.back
  refine .fn zgA rfl (by simp[f_T]) ?_
  repeat' (first| (simp(disch:=((try simp only[zc,ze,zf]);omega)) [zF,hc];first|done| ((first|simp only[zr,zm,zq,zk,zl,zh]|simp only[zj,zi]|rw[zg]);split)|skip)| ((first|simp only[zr,zm,zq,zk,zl,zh]|simp only[zj,zi]|rw[zg]);split))
  refine zdA m c hm (by omega) ?_
  cases hb:m.testBit c with
  |true=>
   rw[hb] at hk
   repeat' (first| (simp(disch:=((try simp only[zc,ze,zf]);omega)) [zF,hc];first|done| ((first|simp only[zr,zm,zq,zk,zl,zh]|simp only[zj,zi]|rw[zg]);split)|skip)| ((first|simp only[zr,zm,zq,zk,zl,zh]|simp only[zj,zi]|rw[zg]);split))
   exact Back.plain (by simp) (by repeat' (first|assumption|exact zt _ _|apply zu|apply zx|apply zA| ((try simp only[zc,ze,zf]);omega))) (by simpa using hk)
  |false=>
   rw[hb] at hk
   repeat' (first| (simp(disch:=((try simp only[zc,ze,zf]);omega)) [zF,hc];first|done| ((first|simp only[zr,zm,zq,zk,zl,zh]|simp only[zj,zi]|rw[zg]);split)|skip)| ((first|simp only[zr,zm,zq,zk,zl,zh]|simp only[zj,zi]|rw[zg]);split))
   exact Back.plain (by simp) (by repeat' (first|assumption|exact zt _ _|apply zu|apply zx|apply zA| ((try simp only[zc,ze,zf]);omega))) (by simpa using hk)
 generalize (g.es.any fun e=>m.testBit e.f.toNat&&decide (e.a=a))=b at*
 simp
 exact Back.plain (by simp) (by repeat' (first|assumption|exact zt _ _|apply zu|apply zx|apply zA| ((try simp only[zc,ze,zf]);omega))) hk
def bitsL (f:Int→Int) (l:List Int) (m:Nat):Nat:=l.foldl (fun m x=>m ||| 2^(f x).toNat) m
def bitsF (g:Gr) (l:List Int):Nat:=bitsL (fun x=>(eAt g.es x).f) l 0
end Go.Ideal.S
namespace Go.Ideal.S
open Go Go.Ideal Q Classical
attribute [local simp] decide_eq_true decide_eq_false zH
variable {M:VM} {k kp:DV→VM→Prop} {n0:Nat}
def no40:List Bool:=List.replicate 40 false
theorem no40_len:no40.length=40:=by simp[no40]
end Go.Ideal.S
namespace Go.Ideal
noncomputable section
variable {F:FuncId→Option zn} {n0:Nat}
def AsK (F:FuncId→Option zn) (n l:Nat) (rc:RC) (k:DV→VM→Prop):KD:=⟨fun s M=>ofD (M.obj l) fun o=>match o with
    |.loop .ready pend sl rc'=>wp (rD F n) rc.b (finKD l k) s (M.put l (.loop .busy pend sl rc'))
    |_=>False,fun _ _ _=>False,fun _ _=>False,fun _ _ _=>False⟩
theorem zy.round {l:Nat} {args:List DV} {M:VM} {k kp:DV→VM→Prop} {st:LoopState} {pend:Option CC} {sl:DS} {rc:RC} {s:DS} (ho:M.obj l=some (.loop st pend sl rc)) (hs:setSD rc.ps args (zbh rc.L sl)=some s) (h: @Cd (rD F M.next) (.base (AsK F M.next l rc k)) rc.as s M):zy F (.yld l) args M k kp:=
 .yield ho (by unfold wRound;rw[hs];exact h)
theorem AsK_nrm {n l:Nat} {rc rc':RC} {k:DV→VM→Prop} {s sl:DS} {M:VM} {pend:Option CC} (ho:M.obj l=some (.loop .ready pend sl rc')) (h: @Cd (rD F n) (.base (finKD l k)) rc.b s (M.put l (.loop .busy pend sl rc'))):(AsK F n l rc k).nrm s M:=by
 show ofD (M.obj l) _
 rw[ho];exact h
theorem ze4 {l:Nat} {k:DV→VM→Prop} {p:Option CC} {M:VM} {st:LoopState} {pd:Option CC} {sl:DS} {rc:RC} (ho:M.obj l=some (.loop st pd sl rc)) (h:k (.bool p.isNone) (M.put l (.loop (stOf p) p sl rc))):finD l k p M:=by
 unfold finD;rw[ho];exact h
@[simp] theorem finKD_nrm {l:Nat} {k:DV→VM→Prop} {s:DS} {M:VM}:(finKD l k).nrm s M=finD l k none M:=id rfl
@[simp] theorem finKD_ret {l:Nat} {k:DV→VM→Prop} {s:DS} {M:VM}:(finKD l k).ret s M=finD l k (some .ret) M:=id rfl
theorem zgh {K:KD} {s:DS} {l:Nat} {M:VM} {sl:DS} {rc:RC} (ho:M.obj l=some (.loop .ready none sl rc)) (h:K.nrm s (M.put l (.loop .exhausted none sl rc))):zgi K s l M:=by
 unfold zgi;rw[ho];exact h
theorem rgEnd_ret {K:KD} {s:DS} {l:Nat} {M:VM} {sl:DS} {rc:RC} (ho:M.obj l=some (.loop .done (some .ret) sl rc)) (h:K.ret s (M.put l (.loop .exhausted (some .ret) sl rc))):zgi K s l M:=by
 unfold zgi;rw[ho];exact h
end
end Go.Ideal
namespace Go.Ideal.S
open Go Go.Ideal Q Classical
attribute [local simp] decide_eq_true decide_eq_false zH
variable {M:VM} {k kp:DV→VM→Prop} {n0:Nat}
attribute [local simp] c_A f_A r_A_2 r_K c_K f_K r_K_1 r_K_2 r_K_3 r_K_4 r_K_5 c_C f_C r_C_1 r_C_2 r_C_3 r_C_5
abbrev grO (g:Gr):MO:=.rows false 3 [[I g.st,I g.ac,.lst 3 (g.es.map zF)]]
abbrev intO (n:Int):MO:=.rows false 1 [[I n]]
theorem from_ok (g:Gr) (n:Int) (hk: ∀M' j2 j3,SM M.next M M'→M.next≤j2→j2<j3→j3<M'.next→M'.obj j2=some (grO g)→M'.obj j3=some (intO n)→k (.fn n_K [] [.ptr j2 0 0,.ptr j3 0 0]) M'):zy F (.fn n_A [] []) [.agg (eGr g),I n] M k kp:=by
 refine .fn zhY rfl (by simp[f_A]) ?_
 simp[eGr]
 exact hk _ _ _ (by repeat' (first|assumption|exact zt _ _|apply zu|apply zx|apply zA| ((try simp only[zc,ze,zf]);omega))) (Nat.le_refl _) (Nat.lt_succ_self _) (by simp) (by simp<;>omega) (by simp)
theorem from1_ok (g:Gr) (hl:g.es.length≤1000000) (n:Int) (l j2 j3:Nat) (Inv:Nat→VM→Prop) (R:VM→Prop) (h0:Inv 0 M)
 (hob: ∀i y,Inv i y→y.obj j2=some (grO g)∧y.obj j3=some (intO n)∧j2<y.next∧j3<y.next)
 (skip: ∀(i:Nat) (y y':VM) (hi:i<g.es.length),Inv i y→SM y.next y y'→y.next≤y'.next→g.es[i].f≠n→Inv (i+1) y')
 (yld: ∀(i:Nat) (y y':VM) (hi:i<g.es.length),Inv i y→SM y.next y y'→y.next≤y'.next→g.es[i].f=n→ ∀{k kp:DV→VM→Prop},(∀M',Inv (i+1) M'→k (.bool true) M')→(∀M',R M'→k (.bool false) M')→zy F (.yld l) [I i,.agg (zF g.es[i])] y' k kp)
 (done: ∀y,Inv g.es.length y→k (.tup []) y) (stop: ∀y,R y→k (.tup []) y):zy F (.fn n_K [] [.ptr j2 0 0,.ptr j3 0 0]) [.yld l] M k kp:=by
 refine .fn zgC rfl (by simp[f_K]) ?_
 obtain⟨o2,o3,-,-⟩:=hob _ _ h0
 simp[o2,o3]
 refine .for (σ:=VM) c_K_6.eq_1 (fun i _=>[(10,I i)]) (fun y=>y) (fun i y=>Inv i y) g.es.length M (by simp) rfl h0 (fun i y hi hP again=> ?_) (fun y hP=> ?_)
 ·obtain⟨p2,p3,l2,l3⟩:=hob _ _ hP
  by_cases hq:g.es[i].f=n
  ·subst hq
   simp(disch:=((try simp only[zc,ze,zf]);omega)) [hi,p2,p3,zF]
   refine yld i y _ hi hP (by repeat' (first|assumption|exact zt _ _|apply zu|apply zx|apply zA| ((try simp only[zc,ze,zf]);omega))) (by simp;omega) rfl (fun M' hI=> ?_) (fun M' hR=> ?_)
   ·have again:=again M' hI
    simp at again
    simp(disch:=((try simp only[zc,ze,zf]);omega))
    exact again
   ·simp
    exact stop _ hR
  ·have again:=fun y' h1 h2=>again y' (skip i y y' hi hP h1 h2 hq)
   simp at again
   simp(disch:=((try simp only[zc,ze,zf]);omega)) [hi,p2,p3,zF,hq]
   exact again _ (by repeat' (first|assumption|exact zt _ _|apply zu|apply zx|apply zA| ((try simp only[zc,ze,zf]);omega))) (by simp;omega)
 ·simp
  exact done _ hP
theorem ends_ok (g:Gr) (hl:g.es.length≤1000000) (n:Int) (hk:k (.bool (!decide (zdO g.es n))) M):zy F (.fn n_C [] []) [.agg (eGr g),I n] M k kp:=by
 apply zy.back
 refine .fn zhZ rfl (by simp[f_C]) ?_
 simp[eGr]
 refine from_ok g n fun M' j2 j3 hs h2 h3 h4 o2 o3=> ?_
 have o4:M'.obj (M.next+1)=some (.rows false 1 [[.bool false]]):=zR hs (by simp) (by simp)
 have hs0:SM M.next M M':=fun j hj=>(hs j (by simp;omega)).trans ((show SM M.next M ((M.new _).new _) from(by repeat' (first|assumption|exact zt _ _|apply zu|apply zx|apply zA| ((try simp only[zc,ze,zf]);omega)))) j hj)
 simp at hs h2
 simp
 have hl0:M'.next<(M'.new (.loop .ready none [(bits 4,.ptr (M.next+1) 0 0)] ⟨0,[bits 4],[bits 8,bits 9],c_C_4,zbu⟩)).next:=by simp
 generalize hrc:RC.mk 0 [bits 4] [bits 8,bits 9] c_C_4 zbu=rc at*
 have has:rc.as=c_C_4:=by rw[←hrc]
 have hb:rc.b=zbu:=by rw[←hrc]
 have hps:rc.ps=[bits 8,bits 9]:=by rw[←hrc]
 have hL:rc.L=[bits 4]:=by rw[←hrc]
 clear hrc
 generalize hsl:[(bits 4,DV.ptr (M.next+1) 0 0)]=sl at*
 have ol:(M'.new (.loop .ready none sl rc)).obj M'.next=some (.loop .ready none sl rc):=by simp
 have p2:(M'.new (.loop .ready none sl rc)).obj j2=some (grO g):=by simp(disch:=omega) [o2]
 have p3:(M'.new (.loop .ready none sl rc)).obj j3=some (intO n):=by simp(disch:=omega) [o3]
 have p4:(M'.new (.loop .ready none sl rc)).obj (M.next+1)=some (.rows false 1 [[.bool false]]):=by simp(disch:=omega) [o4]
 have hs1:SM M.next M (M'.new (.loop .ready none sl rc)):=(by repeat' (first|assumption|exact zt _ _|apply zu|apply zx|apply zA| ((try simp only[zc,ze,zf]);omega)))
 generalize M'.next=l at*
 generalize M'.new (.loop .ready none sl rc)=y0 at*
 refine from1_ok g hl n l j2 j3 (fun i y=>SM y0.next y0 y∧y0.next≤y.next∧zj3 i g.es (fun e=>e.f≠n)) (fun y=>SM M.next M y∧y.obj (M.next+1)=some (.rows false 1 [[.bool false]])∧y.obj l=some (.loop .done (some .ret) sl rc)∧zdO g.es n∧M.next≤l) ⟨zt _ _,Nat.le_refl _,.zero⟩ (fun i y hP=> ?_) (fun i y y' hi hP s1 s2 hne=> ?_) (fun i y y' hi hP s1 s2 he {k kp} a1 a2=> ?_) (fun y hP=> ?_) (fun y hR=> ?_)
 ·obtain⟨q1,q2,q3⟩:=hP
  exact⟨zR q1 (by omega) p2,zR q1 (by omega) p3,by omega,by omega⟩
 ·obtain⟨q1,q2,q3⟩:=hP
  exact⟨fun j hj=>(s1 j (by omega)).trans (q1 j hj),by omega,q3.succ hi hne⟩
 ·obtain⟨q1,q2,q3⟩:=hP
  have q1':SM y0.next y0 y':=fun j hj=>(s1 j (by omega)).trans (q1 j hj)
  have r4:=zR q1' (by omega) p4
  have hsy:SM M.next M y':=fun j hj=>(q1' j (by omega)).trans (hs1 j hj)
  have rl:=zR q1' hl0 ol
  refine .round rl (s:=[(bits 9,.agg (zF g.es[i])),(bits 8,I i),(bits 4,.ptr (M.next+1) 0 0)]) (by rw[hps,hL,←hsl];rfl) ?_
  rw[has]
  simp[c_C_4]
  refine AsK_nrm rl ?_
  have e4:(y'.put l (.loop .busy none sl rc)).obj (M.next+1)=some (.rows false 1 [[.bool false]]):=by simp(disch:=omega) [r4]
  rw[hb]
  simp[zbu,e4,r4]
  refine ze4 (st:=.busy) (pd:=none) (sl:=sl) (rc:=rc) (by simp(disch:=omega)) ?_
  exact a2 _ ⟨(by repeat' (first|assumption|exact zt _ _|apply zu|apply zx|apply zA| ((try simp only[zc,ze,zf]);omega))),by simp(disch:=omega),by simp[stOf],⟨_,List.getElem_mem hi,he⟩,by omega⟩
 ·obtain⟨q1,q2,q3⟩:=hP
  have rl:=zR q1 hl0 ol
  have r4:=zR q1 (by omega) p4
  have hsy:SM M.next M y:=fun j hj=>(q1 j (by omega)).trans (hs1 j hj)
  rw[dF (fun⟨e,h1,h2⟩=>q3.all e h1 h2)] at hk
  refine zgh rl ?_
  simp(disch:=((try simp only[zc,ze,zf]);omega)) [r4]
  exact Back.plain (by simp) (by repeat' (first|assumption|exact zt _ _|apply zu|apply zx|apply zA| ((try simp only[zc,ze,zf]);omega))) hk
 ·obtain⟨q1,q2,q3,q4,q5⟩:=hR
  rw[dT q4] at hk
  refine rgEnd_ret q3 ?_
  simp(disch:=((try simp only[zc,ze,zf]);omega)) [q2]
  exact Back.plain (by simp) (by repeat' (first|assumption|exact zt _ _|apply zu|apply zx|apply zA| ((try simp only[zc,ze,zf]);omega))) hk
end Go.Ideal.S
namespace Go.Ideal.S
open Go Go.Ideal Q Classical
attribute [local simp] decide_eq_true decide_eq_false zH
variable {M:VM} {k kp:DV→VM→Prop} {n0:Nat}
attribute [local simp] c_v f_v r_v_1 r_v_2 r_v_3 r_v_4 r_v_5 r_v_6 r_v_7 r_v_9 c_F f_F r_F_2 r_O c_O f_O r_O_1 r_O_2 r_O_3 r_O_4 r_O_5 c_h f_h r_h_1 r_h_2 r_h_3 r_h_4 r_h_5 r_h_6 r_h_7 r_h_9
def lowB:Nat→Nat
 |0=>0
 |n+1=>lowB n ||| 2^n
theorem lowB_bit (n i:Nat):(lowB n).testBit i=decide (i<n):=by
 induction n with
 |zero=>simp[lowB]
 |succ n ih=>
  rw[lowB,Nat.testBit_or,ih,Nat.testBit_two_pow]
  by_cases h1:i<n
  ·simp[h1];omega
  ·by_cases h2:n=i
   ·simp[h2]
   ·have: ¬i<n+1:=by omega
    simp[h1,h2,this]
theorem zhd (n:Nat) (h:n≤64):lowB n<2^64:=by
 apply Nat.lt_pow_two_of_testBit
 intro i hi
 rw[lowB_bit];simp;omega
theorem zf6 (g:Gr) {N:Nat} (hN:g.st=N) (h64:N≤60) (hk:k (setD (lowB N)) M):zy F (.fn n_v [] []) [.agg (eGr g)] M k kp:=by
 apply zy.back
 refine .fn zhj rfl (by simp[f_v]) ?_
 simp(disch:=((try simp only[zc,ze,zf]);omega)) [eGr,hN]
 refine .for (σ:=VM) c_v_8.eq_1 (fun i _=>[(8,I i)]) (fun y=>y) (fun i y=>SM M.next M y∧M.next+3≤y.next∧y.obj (M.next+1)=some (setO 0)∧y.obj (M.next+1+1)=some (setO (lowB i))) N _ (by simp) rfl ⟨(by repeat' (first|assumption|exact zt _ _|apply zu|apply zx|apply zA| ((try simp only[zc,ze,zf]);omega))),by simp,by simp(disch:=((try simp only[zc,ze]);omega)),by simp[lowB]⟩ (fun i y hi hP again=> ?_) (fun y hP=> ?_)
 ·obtain⟨hs,hn,o2,o3⟩:=hP
  simp at again
  have hi6:i<64:=by omega
  simp[hi]
  refine zi3 (lowB i) i _ (zhd i (by omega)) hi6 o3 ?_
  simp(disch:=((try simp only[zc,ze,zf]);omega))
  exact again _ (by repeat' (first|assumption|exact zt _ _|apply zu|apply zx|apply zA| ((try simp only[zc,ze,zf]);omega))) (by simp;omega) (by simp(disch:=omega) [o2]) (by simp[lowB])
 ·obtain⟨hs,hn,o2,o3⟩:=hP
  simp[o3,o2]
  exact Back.plain (by simp) (by repeat' (first|assumption|exact zt _ _|apply zu|apply zx|apply zA| ((try simp only[zc,ze,zf]);omega))) hk
theorem all_ok (m:Nat) (hk: ∀M' j1,SM M.next M M'→M.next≤j1→j1<M'.next→M'.obj j1=some (setO m)→k (.fn n_O [] [.ptr j1 0 0]) M'):zy F (.fn n_F [] []) [setD m] M k kp:=by
 refine .fn h_jam_set_all rfl (by simp[f_F]) ?_
 simp
 exact hk _ _ (by repeat' (first|assumption|exact zt _ _|apply zu|apply zx|apply zA| ((try simp only[zc,ze,zf]);omega))) (Nat.le_refl _) (by simp) (by simp)
theorem all1_ok (m:Nat) (hm:m<2^64) (l j1:Nat) (Inv:Nat→VM→Prop) (R:VM→Prop) (h0:Inv 0 M)
 (hob: ∀i y,Inv i y→y.obj j1=some (setO m)∧j1<y.next)
 (skip: ∀(i:Nat) (y y':VM) (hi:i<60),Inv i y→SM y.next y y'→y.next≤y'.next→m.testBit i=false→Inv (i+1) y')
 (yld: ∀(i:Nat) (y y':VM) (hi:i<60),Inv i y→SM y.next y y'→y.next≤y'.next→m.testBit i=true→ ∀{k kp:DV→VM→Prop},(∀M',Inv (i+1) M'→k (.bool true) M')→(∀M',R M'→k (.bool false) M')→zy F (.yld l) [I i] y' k kp)
 (done: ∀y,Inv 60 y→k (.tup []) y) (stop: ∀y,R y→k (.tup []) y):zy F (.fn n_O [] [.ptr j1 0 0]) [.yld l] M k kp:=by
 refine .fn zjr rfl (by simp[f_O]) ?_
 simp
 refine .for (σ:=VM) c_O_6.eq_1 (fun i _=>[(4,I i)]) (fun y=>y) (fun i y=>Inv i y) 60 M (by simp) rfl h0 (fun i y hi hP again=> ?_) (fun y hP=> ?_)
 ·obtain⟨p1,l1⟩:=hob _ _ hP
  have hi6:i<64:=by omega
  have hi60:(i:Int)<60:=by omega
  cases hq:m.testBit i with
  |true=>
   simp[hi60,p1]
   refine zdA m i hm hi6 ?_
   simp[hq]
   refine yld i y _ hi hP (by repeat' (first|assumption|exact zt _ _|apply zu|apply zx|apply zA| ((try simp only[zc,ze,zf]);omega))) (by simp) hq (fun M' hI=> ?_) (fun M' hR=> ?_)
   ·have again:=again M' hI
    simp at again
    simp(disch:=((try simp only[zc,ze,zf]);omega))
    exact again
   ·simp
    exact stop _ hR
  |false=>
   have again:=fun y' h1 h2=>again y' (skip i y y' hi hP h1 h2 hq)
   simp at again
   simp[hi60,p1]
   refine zdA m i hm hi6 ?_
   simp(disch:=((try simp only[zc,ze,zf]);omega)) [hq]
   exact again _ (by repeat' (first|assumption|exact zt _ _|apply zu|apply zx|apply zA| ((try simp only[zc,ze,zf]);omega))) (by simp)
 ·simp
  exact done _ hP
end Go.Ideal.S
namespace Go.Ideal.S
open Go Go.Ideal Q Classical
attribute [local simp] decide_eq_true decide_eq_false zH
variable {M:VM} {k kp:DV→VM→Prop} {n0:Nat} {ek:EK}
theorem and_low {a:Int} (h0:0≤a) (h1:a<4294967296):binD .and ek (.int .u64 a) (.int .u64 4294967295)=some (.int .u64 a):=by
 obtain⟨n,rfl⟩:=Int.eq_ofNat_of_zero_le h0
 have:=bin_and_u (ek:=ek) (a:=n) (b:=4294967295) (by omega) (by omega)
 rw[show((4294967295:Nat):Int)=4294967295 from rfl] at this
 rw[this,show(4294967295:Nat)=2^32 - 1 from rfl,Nat.and_two_pow_sub_one_eq_mod,Nat.mod_eq_of_lt (by omega)]
theorem shr_hi {a:Int} (h0:0≤a) (h1:a<4294967296):binD .shr ek (.int .u64 a) (.int .u64 32)=some (.int .u64 0):=by
 show Option.bind (if ltI 32 0 then none else some (Value.int .u64 (a.fdiv (2^(min (32:Int).toNat 64))))) dOf1=_
 rw[zc4]
 simp only[show¬((32:Int)<0) by omega,decide_false,Bool.false_eq_true,if_false,Option.bind_some]
 rw[show(2:Int)^(min (32:Int).toNat 64)=4294967296 from by decide,Int.fdiv_eq_ediv_of_nonneg _ (by omega),Int.ediv_eq_zero_of_lt h0 h1]
 rfl
theorem mul_u {a b:Int} (h0:0≤a*b) (h1:a*b<18446744073709551616):binD .mul ek (.int .u64 a) (.int .u64 b)=some (.int .u64 (a*b)):=by
 show some (DV.int .u64 (zf5 .u64 (a*b)))=_
 rw[zfj,wrapU h0 h1]
theorem add_u {a b:Int} (h0:0≤a+b) (h1:a+b<18446744073709551616):binD .add ek (.int .u64 a) (.int .u64 b)=some (.int .u64 (a+b)):=by
 show some (DV.int .u64 (zf5 .u64 (a+b)))=_
 rw[zfj,wrapU h0 h1]
theorem gtr_u (a b:Int):binD .gtr ek (.int .u64 a) (.int .u64 b)=some (.bool (decide (b<a))):=by show some (DV.bool (ltI b a))=_;rw[zc4]
theorem conv_u {a:Int} (kk:IntKind) (h0:0≤a) (h1:a<18446744073709551616):convD .u64 (.int kk a)=some (.int .u64 a):=by
 show some (DV.int .u64 (IntKind.u64.wrap a))=_
 rw[wrapU h0 h1]
theorem conv_i {a:Int} (kk:IntKind) (h0:0≤a) (h1:a<9223372036854775808):convD .i64 (.int kk a)=some (I a):=by
 show some (DV.int .i64 (IntKind.i64.wrap a))=_
 rw[←zfj,zH (by omega) h1]
attribute [local simp] c_h f_h r_h_1 r_h_2 r_h_3 r_h_4 r_h_5 r_h_6 r_h_7 r_h_9 c_I f_I r_I_1 r_I_2 r_I_3 r_I_4 r_I_5 c_s f_s r_s_1 r_s_2 r_s_3 r_s_4 r_s_5 r_s_6 r_s_7 r_s_8 r_s_9 r_s_10 r_s_11 r_s_12 c_k f_k r_k_1 r_k_2 r_k_3 r_k_4 r_k_5 r_k_6 r_k_7 r_k_8 r_k_9 r_k_10 r_k_12
theorem mul64_ok (n:Nat) (hn:n<4294967296) (hk:k (.tup [.int .u64 0,.int .u64 n]) M):zy F (.fn n_s [] []) [.int .u64 1,.int .u64 n] M k kp:=by
 apply zy.back
 refine .fn zhi rfl (by simp[f_s]) ?_
 simp(disch:=((try simp only[zc,ze,zf]);omega)) [and_low,shr_hi,mul_u,add_u]
 exact Back.plain (by simp) (by repeat' (first|assumption|exact zt _ _|apply zu|apply zx|apply zA| ((try simp only[zc,ze,zf]);omega))) hk
theorem mul_ok (n:Nat) (hn:n<4294967296) (hk:k (.tup [.int .u64 0,.int .u64 n]) M):zy F (.fn n_I [] []) [.int .u64 1,.int .u64 n] M k kp:=by
 apply zy.back
 refine .fn zjq rfl (by simp[f_I]) ?_
 simp
 refine mul64_ok n hn ?_
 simp
 exact Back.plain (by simp) (by repeat' (first|assumption|exact zt _ _|apply zu|apply zx|apply zA| ((try simp only[zc,ze,zf]);omega))) hk
def idxI (x:Int):List Int→Nat→Int
 | [],_=> -1
 |y::l,i=>if x=y then i else idxI x l (i+1)
theorem idxI_at {x:Int} {l:List Int} {p:Nat} (hp:p<l.length) (h1:l[p]=x) (h2: ∀q (hq:q<p),l[q]≠x):idxI x l 0=p:=by
 have: ∀(l:List Int) (i p:Nat) (hp:p<l.length),l[p]=x→(∀q (hq:q<p),l[q]≠x)→idxI x l i=(i+p:Nat):=by
  intro l
  induction l with
  |nil=>intro i p hp;simp at hp
  |cons y l ih=>
   intro i p hp h1 h2
   unfold idxI
   cases p with
   |zero=>rw[if_pos (by simpa using h1.symm)];simp
   |succ p=>
    rw[if_neg (fun e=>h2 0 (by omega) e.symm)]
    rw[ih (i+1) p (by simpa using hp) (by simpa using h1) (fun q hq=>h2 (q+1) (by omega))]
    congr 1;omega
 rw[this l 0 p hp h1 h2];simp
def rsR (v:Int) (N n:Nat):List (List DV):=List.replicate n [I v]++List.replicate (N - n) [I 0]
theorem rsR_len {v:Int} {N n:Nat} (h:n≤N):(rsR v N n).length=N:=by simp[rsR];omega
theorem rsR_take {v:Int} {N n:Nat}:(rsR v N n).take n=List.replicate n [I v]:=by simp[rsR]
theorem rsR_put {v:Int} {N n m:Nat} (h:n+m≤N) (hm:m≤n):zbb (rsR v N n) ((List.replicate n [I v]).take m) n=rsR v N (n+m):=by
 unfold zbb rsR
 rw[List.take_replicate,Nat.min_eq_left hm,List.length_replicate,List.take_left' (by simp),List.drop_append,List.drop_replicate,List.drop_replicate,List.length_replicate,List.replicate_append_replicate,show n - (n+m)=0 by omega,show N - n - (n+m - n)=N - (n+m) by omega]
 simp
theorem repeat_ok (v:Int) (N j:Nat) (h1:1≤N) (h2:N≤1000) (ho:M.obj j=some (.rows false 1 [[I v]])) (hj:j<M.next) (hk: ∀M' j',SM M.next M M'→M.next≤j'→j'<M'.next→M'.obj j'=some (.rows false 1 (List.replicate N [I v]))→k (.ms j' 0 N N) M'):zy F (.fn n_k [] []) [.ms j 0 1 1,I N] M k kp:=by
 refine .fn zd1 rfl (by simp[f_k]) ?_
 have a1: ¬((N:Int)<0):=by omega
 have a2: ¬((9223372036854775807:Int)<(N:Int)):=by omega
 simp(disch:=((try simp only[zc,ze,zf]);omega)) [conv_u,a1]
 refine mul_ok N (by omega) ?_
 have a3:N*8≤1073741824∧N≤1073741824:=by omega
 have a4:1≤(List.replicate N [I 0]).length:=by simp;omega
 have a5: ¬N=0:=by omega
 have a6:0<N:=h1
 simp(disch:=((try simp only[zc,ze,zf]);omega)) [gtr_u,a2,conv_i,ho,a3,a4,a5,a6]
 have e0:zbb (List.replicate N [I 0]) [[I v]] 0=rsR v N 1:=by
  unfold zbb rsR
  rw[List.drop_replicate];simp
 rw[e0]
 refine .gen (Q:=fun y=>SM M.next M y∧M.next<y.next∧y.obj M.next=some (.rows false 1 (rsR v N 1))) ⟨(by repeat' (first|assumption|exact zt _ _|apply zu|apply zx|apply zA| ((try simp only[zc,ze,zf]);omega))),by simp;omega,by simp⟩ fun y0 hy0=> ?_
 refine .while (σ:=Nat×VM) c_k_11.eq_1 (fun x=>[(8,I x.1)]) (fun x=>x.2) (fun x=>1≤x.1∧x.1≤N∧SM M.next M x.2∧M.next<x.2.next∧x.2.obj M.next=some (.rows false 1 (rsR v N x.1))) (fun x=>N - x.1) (1,y0) (by simp) rfl ⟨Nat.le_refl _,h1,hy0⟩ (fun x hP again=> ?_)
 obtain⟨n,y⟩:=x
 obtain⟨p1,p2,hs,hn,o⟩:=hP
 have p1:1≤n:=p1
 have p2:n≤N:=p2
 have o:y.obj M.next=some (.rows false 1 (rsR v N n)):=o
 have hs:SM M.next M y:=hs
 have hn:M.next<y.next:=hn
 by_cases hq:n<N
 ·have b1: ¬N=n:=by omega
  have b2:=rsR_len (v:=v) p2
  have b3:=rsR_take (v:=v) (N:=N) (n:=n)
  have b4:=rsR_put (v:=v) (N:=N) (n:=n) (m:=min (N - n) n) (by omega) (by omega)
  have b5:n+(N - n)≤N:=by omega
  have b6:0<N - n:=by omega
  have b7:0<n:=by omega
  have b8: ¬n=0:=by omega
  have b9:zbb (rsR v N n) (List.replicate (min (N - n) n) [I v]) n=rsR v N (n+min (N - n) n):=by
   rw[←b4,List.take_replicate];congr 2;omega
  simp(disch:=((try simp only[zc,ze,zf]);omega)) [hq,o,p2,b1,b2,b3,b4,b5,b6,b7,b8]
  have:=again (n+min (N - n) n,y.put M.next (.rows false 1 (rsR v N (n+min (N - n) n)))) (by show N - (n+min (N - n) n)<N - n;omega) ⟨by show 1≤n+min (N - n) n;omega,by show n+min (N - n) n≤N;omega,(by repeat' (first|assumption|exact zt _ _|apply zu|apply zx|apply zA| ((try simp only[zc,ze,zf]);omega))),by simp;omega,by simp⟩
  simp at this
  rw[b9]
  exact this
 ·obtain rfl:n=N:=by omega
  simp[o]
  exact hk _ _ hs (Nat.le_refl _) hn (by rw[o,rsR];simp)
end Go.Ideal.S
namespace Go.Ideal.S
inductive Star {α:Type} (R:α→α→Prop):α→α→Prop
 |refl (a:α):Star R a a
 |tail {a b c:α} (h:Star R a b) (h2:R b c):Star R a c
section
variable {α:Type} {R:α→α→Prop}
theorem Star.trans {a b c:α} (h:Star R a b) (h2:Star R b c):Star R a c:=by
 induction h2 with
 |refl=>exact h
 |tail _ r ih=>exact ih.tail r
theorem Star.one {a b:α} (h:R a b):Star R a b:=(Star.refl a).tail h
theorem Star.keep {P:α→Prop} (hP: ∀a b,P a→R a b→P b) {a b:α} (h:Star R a b) (ha:P a):P b:=by
 induction h with
 |refl=>exact ha
 |tail _ r ih=>exact hP _ _ ih r
end
def up1 {β:Type} (f:Nat→β) (n:Nat) (x:β):Nat→β:=fun v=>if v=n then x else f v
theorem zdp {β:Type} (f:Nat→β) (n:Nat) (x:β):up1 f n x n=x:=by simp[up1]
theorem zf8 {β:Type} (f:Nat→β) {n v:Nat} (x:β) (h:v≠n):up1 f n x v=f v:=by simp[up1,h]
structure TS where
 met:Nat→Nat
 low:Nat→Nat
 nx:Nat→Nat
 cmp:Nat→Int
 many:Nat
 m:Nat
 way:List Nat
 op:List Nat
section
variable (E:Nat) (ed:Nat→Option (Nat×Nat))
def EdAt (i v t:Nat):Prop:=i<E∧ed i=some (v,t)
def RTo (v t:Nat):Prop:= ∃i,EdAt E ed i v t
structure Inv (T:TS):Prop where
 bnd: ∀v,T.met v≤T.m
 way: ∀v∈T.way,v∈T.op
 opi: ∀v,v∈T.op↔T.met v≠0∧T.cmp v= -1
 cv: ∀v,T.cmp v≠ -1→T.met v≠0∧0≤T.cmp v∧T.cmp v<(T.many:Int)
 nx0: ∀v,T.met v=0→T.nx v=0
 nxE: ∀v,T.nx v≤E
 opS:T.op.Pairwise fun a b=>T.met a<T.met b
 wayS:T.way.Pairwise fun a b=>T.met a<T.met b
 inj: ∀u v,T.met u≠0→T.met u=T.met v→u=v
 lo1: ∀v∈T.op,T.low v≤T.met v∧ ∃u∈T.op,T.met u=T.low v∧Star (RTo E ed) v u
 scan: ∀v t i,EdAt E ed i v t→i<T.nx v→T.met t≠0∧(v∈T.op→t∈T.op→T.low v≤T.met t)
 fin: ∀v∈T.op,v∉T.way→T.nx v=E∧T.low v<T.met v
 done: ∀v t,T.cmp v≠ -1→RTo E ed v t→T.cmp t≠ -1
 up: ∀v∈T.op,v∉T.way→ ∃p∈T.op,T.met p<T.met v∧(∀w∈T.way,T.met w≤T.met v→T.met w≤T.met p)∧(T.low p≤T.low v∨(p∈T.way∧EdAt E ed (T.nx p) p v))
 sub: ∀w∈T.way,∀v∈T.op,T.met w≤T.met v→Star (RTo E ed) w v
 eq: ∀a b,T.cmp a≠ -1→T.cmp b≠ -1→(T.cmp a=T.cmp b↔Star (RTo E ed) a b∧Star (RTo E ed) b a)
 link: ∀l p q l2,T.way=l++p::q::l2→EdAt E ed (T.nx p) p q
end
section
variable {E:Nat} {ed:Nat→Option (Nat×Nat)} {T:TS}
theorem zfR {l:List Nat} {f:Nat→Nat} {n:Nat} (h:(l++[n]).Pairwise fun a b=>f a<f b) {w:Nat} (hw:w∈l):f w<f n:=(List.pairwise_append.1 h).2.2 w hw n (by simp)
theorem Inv.root (h:Inv E ed T): ∀k v,T.met v<k→v∈T.op→ ∃w∈T.way,T.met w≤T.met v:=by
 intro k
 induction k with
 |zero=>intro v hv;omega
 |succ k ih=>
  intro v hv ho
  by_cases hw:v∈T.way
  ·exact⟨v,hw,Nat.le_refl _⟩
  ·obtain⟨p,hp,hlt,_⟩:=h.up v ho hw
   obtain⟨w,h1,h2⟩:=ih p (by omega) hp
   exact⟨w,h1,by omega⟩
theorem Inv.op_nil (h:Inv E ed T) (hw:T.way=[]):T.op=[]:=by
 cases ho:T.op with
 |nil=>rfl
 |cons a l=>
  obtain⟨w,h1,_⟩:=h.root (T.met a+1) a (by omega) (by rw[ho];simp)
  rw[hw] at h1;cases h1
def TS.enter (T:TS) (n:Nat):TS:={T with met:=up1 T.met n (T.m+1),low:=up1 T.low n (T.m+1),m:=T.m+1,way:=T.way++[n],op:=T.op++[n]}
theorem Inv.enter (h:Inv E ed T) {n:Nat} (h0:T.met n=0) (hp:T.way=[]∨ ∃l p,T.way=l++[p]∧EdAt E ed (T.nx p) p n):Inv E ed (T.enter n):=by
 have hno:n∉T.op:=fun ho=>((h.opi n).1 ho).1 h0
 have hnw:n∉T.way:=fun hw=>hno (h.way n hw)
 have hco:T.cmp n= -1:=Classical.byContradiction fun hc=>(h.cv n hc).1 h0
 have hm: ∀v,v≠n→(T.enter n).met v=T.met v:=fun v hv=>zf8 _ _ hv
 have hl: ∀v,v≠n→(T.enter n).low v=T.low v:=fun v hv=>zf8 _ _ hv
 have hmn:(T.enter n).met n=T.m+1:=zdp _ _ _
 have hln:(T.enter n).low n=T.m+1:=zdp _ _ _
 have ho: ∀v,v∈(T.enter n).op↔v∈T.op∨v=n:=fun v=>by simp[TS.enter]
 have hw: ∀v,v∈(T.enter n).way↔v∈T.way∨v=n:=fun v=>by simp[TS.enter]
 have ne: ∀v,v∈T.op→v≠n:=fun v hv e=>hno (e▸hv)
 have nw: ∀v,v∈T.way→v≠n:=fun v hv e=>hnw (e▸hv)
 have pw: ∀l:List Nat,(∀v∈l,v≠n)→l.Pairwise (fun a b=>T.met a<T.met b)→(l++[n]).Pairwise fun a b=>(T.enter n).met a<(T.enter n).met b:=fun l hn hl=>by
  rw[List.pairwise_append]
  refine⟨hl.imp_of_mem fun{a b} ha hb r=>by rw[hm a (hn a ha),hm b (hn b hb)];exact r,by simp,fun a ha b hb=> ?_⟩
  obtain rfl:b=n:=by simpa using hb
  rw[hm a (hn a ha),hmn]
  have:=h.bnd a;omega
 refine⟨fun v=> ?_,fun v hv=> ?_,fun v=> ?_,fun v hv=> ?_,fun v hv=> ?_,h.nxE,pw _ ne h.opS,pw _ nw h.wayS,fun u v hu e=> ?_,fun v hv=> ?_,fun v t i he hi=> ?_,fun v hv hnv=> ?_,h.done,fun v hv hnv=> ?_,fun w hw1 v hv hle=> ?_,h.eq,fun l p q l2 e=> ?_⟩
 ·by_cases e:v=n
  ·subst e;rw[hmn];exact Nat.le_refl _
  ·rw[hm v e];exact Nat.le_succ_of_le (h.bnd v)
 ·rw[ho];rcases(hw v).1 hv with hv|hv
  ·exact .inl (h.way v hv)
  ·exact .inr hv
 ·rw[ho]
  by_cases e:v=n
  ·subst e;rw[hmn];exact⟨fun _=>⟨by omega,hco⟩,fun _=>.inr rfl⟩
  ·rw[hm v e];exact⟨fun x=>(h.opi v).1 (x.resolve_right e),fun x=>.inl ((h.opi v).2 x)⟩
 ·have:=h.cv v hv
  refine⟨?_,this.2⟩
  by_cases e:v=n
  ·subst e;rw[hmn];omega
  ·rw[hm v e];exact this.1
 ·by_cases e:v=n
  ·subst e;rw[hmn] at hv;omega
  ·rw[hm v e] at hv;exact h.nx0 v hv
 ·have b1:=h.bnd u;have b2:=h.bnd v
  by_cases eu:u=n
  ·by_cases ev:v=n
   ·rw[eu,ev]
   ·rw[eu,hmn,hm v ev] at e;omega
  ·by_cases ev:v=n
   ·rw[ev,hmn,hm u eu] at e;omega
   ·rw[hm u eu] at hu e;rw[hm v ev] at e;exact h.inj u v hu e
 ·by_cases e:v=n
  ·subst e
   rw[hmn,hln]
   exact⟨Nat.le_refl _,v,(ho v).2 (.inr rfl),hmn,.refl _⟩
  ·have hv':=((ho v).1 hv).resolve_right e
   obtain⟨h1,u,h2,h3,h4⟩:=h.lo1 v hv'
   rw[hm v e,hl v e]
   exact⟨h1,u,(ho u).2 (.inl h2),by rw[hm u (ne u h2)];exact h3,h4⟩
 ·have hi3:i<T.nx v:=hi
  clear hi
  obtain⟨h1,h2⟩:=h.scan v t i he hi3
  have et:t≠n:=fun e=>h1 (e▸h0)
  have ev:v≠n:=fun e=>by subst e;rw[h.nx0 v h0] at hi3;omega
  rw[hm t et,hl v ev]
  exact⟨h1,fun a b=>h2 (((ho v).1 a).resolve_right ev) (((ho t).1 b).resolve_right et)⟩
 ·rw[hw] at hnv
  have e:v≠n:=fun e=>hnv (.inr e)
  rw[hm v e,hl v e]
  exact h.fin v (((ho v).1 hv).resolve_right e) fun x=>hnv (.inl x)
 ·rw[hw] at hnv
  have e:v≠n:=fun e=>hnv (.inr e)
  obtain⟨p,h1,h2,h3,h4⟩:=h.up v (((ho v).1 hv).resolve_right e) fun x=>hnv (.inl x)
  have ep:=ne p h1
  rw[hm v e,hl v e]
  refine⟨p,(ho p).2 (.inl h1),by rw[hm p ep];exact h2,fun w hw1 hle=> ?_,by rw[hl p ep];exact h4.imp id fun x=>⟨(hw p).2 (.inl x.1),x.2⟩⟩
  rcases(hw w).1 hw1 with hw1|rfl
  ·rw[hm w (nw w hw1)] at hle⊢;rw[hm p ep];exact h3 w hw1 hle
  ·rw[hmn] at hle;have:=h.bnd v;omega
 ·by_cases e:v=n
  ·subst e
   rcases(hw w).1 hw1 with hw1|rfl
   ·rcases hp with hp| ⟨l,p,hp,he⟩
    ·rw[hp] at hw1;cases hw1
    ·refine Star.tail ?_ ⟨_,he⟩
     have hpw:p∈T.way:=by rw[hp];simp
     refine h.sub w hw1 p (h.way p hpw) ?_
     have hs:=h.wayS
     rw[hp] at hw1 hs
     rcases List.mem_append.1 hw1 with hw1|hw1
     ·exact Nat.le_of_lt (zfR hs hw1)
     ·obtain rfl:w=p:=by simpa using hw1
      exact Nat.le_refl _
   ·exact .refl _
  ·have hv':=((ho v).1 hv).resolve_right e
   rcases(hw w).1 hw1 with hw1|rfl
   ·rw[hm w (nw w hw1),hm v e] at hle;exact h.sub w hw1 v hv' hle
   ·rw[hmn,hm v e] at hle;have:=h.bnd v;omega
 ·show EdAt E ed (T.nx p) p q
  have e:T.way++[n]=l++p::q::l2:=e
  rcases List.eq_nil_or_concat l2 with rfl| ⟨l3,z,rfl⟩
  ·have e2:T.way++[n]=(l++[p])++[q]:=by rw[e];simp
   obtain⟨e3,e4⟩:=List.append_inj' e2 rfl
   obtain rfl:n=q:=by simpa using e4
   rcases hp with hp| ⟨l',p',hp,he⟩
   ·rw[hp] at e3;simp at e3
   ·rw[hp] at e3
    obtain⟨_,e6⟩:=List.append_inj' e3 rfl
    obtain rfl:p'=p:=by simpa using e6
    exact he
  ·have e2:T.way++[n]=(l++p::q::l3)++[z]:=by rw[e];simp
   exact h.link l p q l3 (List.append_inj' e2 rfl).1
def TS.next (T:TS) (n x:Nat):TS:={T with low:=up1 T.low n x,nx:=up1 T.nx n (T.nx n+1)}
theorem Inv.next (h:Inv E ed T) {n x:Nat} {l:List Nat} (hw:T.way=l++[n]) (hi:T.nx n<E)
 (hx:x=T.low n∧(∀t,ed (T.nx n)=some (n,t)→T.met t≠0∧t∉T.op)∨ ∃t,ed (T.nx n)=some (n,t)∧t∈T.op∧x=min (T.low n) (T.low t)):Inv E ed (T.next n x):=by
 have hnw:n∈T.way:=by rw[hw];simp
 have hno:=h.way n hnw
 have hle:x≤T.low n:=by rcases hx with⟨rfl,_⟩| ⟨t,_,_,rfl⟩<;>omega
 have hl: ∀v,v≠n→(T.next n x).low v=T.low v:=fun v hv=>zf8 _ _ hv
 have hln:(T.next n x).low n=x:=zdp _ _ _
 have hll: ∀v,(T.next n x).low v≤T.low v:=fun v=>by
  by_cases e:v=n
  ·subst e;rw[hln];exact hle
  ·rw[hl v e];exact Nat.le_refl _
 have hn: ∀v,v≠n→(T.next n x).nx v=T.nx v:=fun v hv=>zf8 _ _ hv
 have hnn:(T.next n x).nx n=T.nx n+1:=zdp _ _ _
 have hnm:T.met n≠0:=((h.opi n).1 hno).1
 refine⟨h.bnd,h.way,h.opi,h.cv,fun v hv=> ?_,fun v=> ?_,h.opS,h.wayS,h.inj,fun v hv=> ?_,fun v t i he hi2=> ?_,fun v hv hnv=> ?_,h.done,fun v hv hnv=> ?_,h.sub,h.eq,fun l1 p q l2 e=> ?_⟩
 ·have hv:T.met v=0:=hv
  by_cases e:v=n
  ·subst e;exact absurd hv hnm
  ·rw[hn v e];exact h.nx0 v hv
 ·by_cases e:v=n
  ·subst e;rw[hnn];exact hi
  ·rw[hn v e];exact h.nxE v
 ·by_cases e:v=n
  ·subst e
   rw[hln]
   obtain⟨h1,h2⟩:=h.lo1 v hv
   refine⟨Nat.le_trans hle h1,?_⟩
   rcases hx with⟨rfl,_⟩| ⟨t,he,ht,rfl⟩
   ·exact h2
   ·rcases Nat.le_total (T.low v) (T.low t) with hh|hh
    ·rw[Nat.min_eq_left hh];exact h2
    ·rw[Nat.min_eq_right hh]
     obtain⟨_,u,h3,h4,h5⟩:=h.lo1 t ht
     exact⟨u,h3,h4,(Star.one ⟨_,hi,he⟩).trans h5⟩
  ·rw[hl v e];exact h.lo1 v hv
 ·have go: ∀{i},EdAt E ed i v t→i<T.nx v→T.met t≠0∧(v∈T.op→t∈T.op→(T.next n x).low v≤T.met t):=fun he hi=>⟨(h.scan v t _ he hi).1,fun a b=>Nat.le_trans (hll v) ((h.scan v t _ he hi).2 a b)⟩
  by_cases e:v=n
  ·subst e
   rw[hnn] at hi2
   rcases Nat.lt_or_ge i (T.nx v) with hh|hh
   ·exact go he hh
   ·obtain rfl:i=T.nx v:=by omega
    show T.met t≠0∧(v∈T.op→t∈T.op→(T.next v x).low v≤T.met t)
    rw[hln]
    rcases hx with⟨rfl,h2⟩| ⟨t',he',ht,rfl⟩
    ·obtain⟨h3,h4⟩:=h2 t he.2
     exact⟨h3,fun _ b=>absurd b h4⟩
    ·rw[he.2] at he';cases he'
     refine⟨((h.opi t).1 ht).1,fun _ _=> ?_⟩
     have:=(h.lo1 t ht).1;omega
  ·rw[hn v e] at hi2;exact go he hi2
 ·have e:v≠n:=fun e=>hnv (e▸hnw)
  rw[hn v e,hl v e];exact h.fin v hv hnv
 ·have e:v≠n:=fun e=>hnv (e▸hnw)
  obtain⟨p,h1,h2,h3,h4⟩:=h.up v hv hnv
  refine⟨p,h1,h2,h3,?_⟩
  rw[hl v e]
  rcases h4 with h4| ⟨h4,h5⟩
  ·exact .inl (Nat.le_trans (hll p) h4)
  ·by_cases ep:p=n
   ·subst ep
    left
    rw[hln]
    rcases hx with⟨rfl,h6⟩| ⟨t',he',ht,rfl⟩
    ·exact absurd hv (h6 v h5.2).2
    ·rw[h5.2] at he';cases he'
     omega
   ·right;rw[hn p ep];exact⟨h4,h5⟩
 ·replace e:T.way=l1++p::q::l2:=e
  have ep:p≠n:=fun ep=>by
   subst ep
   have hs:=h.wayS
   rw[e] at hs
   have h1:T.met p<T.met q:=by
    have:=(List.pairwise_append.1 hs).2.1
    exact(List.pairwise_cons.1 this).1 q (by simp)
   have hq:q∈T.way:=by rw[e];simp
   have hs:=h.wayS
   rw[hw] at hq hs
   rcases List.mem_append.1 hq with hq|hq
   ·have:=zfR hs hq;omega
   ·obtain rfl:q=p:=by simpa using hq
    omega
  rw[hn p ep];exact h.link l1 p q l2 e
def TS.pop (T:TS) (l:List Nat):TS:={T with way:=l}
theorem Inv.pop (h:Inv E ed T) {n:Nat} {l:List Nat} (hw:T.way=l++[n]) (hE:T.nx n=E) (hlow:T.low n≠T.met n):Inv E ed (T.pop l):=by
 have hnw:n∈T.way:=by rw[hw];simp
 have hno:=h.way n hnw
 have hs:=h.wayS
 have hsub: ∀w,w∈l→w∈T.way:=fun w hh=>by rw[hw];exact List.mem_append_left _ hh
 have hlt:T.low n<T.met n:=by have:=(h.lo1 n hno).1;omega
 have hnl:n∉l:=fun hh=>by
  rw[hw] at hs
  have:=zfR hs hh;omega
 have hin: ∀v,v∉l→v≠n→v∉T.way:=fun v h1 h2 h3=>by
  rw[hw] at h3
  rcases List.mem_append.1 h3 with h3|h3
  ·exact h1 h3
  ·exact h2 (by simpa using h3)
 refine⟨h.bnd,fun v hv=>h.way v (hsub v hv),h.opi,h.cv,h.nx0,h.nxE,h.opS,?_,h.inj,h.lo1,h.scan,fun v hv hnv=> ?_,h.done,fun v hv hnv=> ?_,fun w hw1=>h.sub w (hsub w hw1),h.eq,fun l1 p q l2 e=> ?_⟩
 ·rw[hw] at hs;exact(List.pairwise_append.1 hs).1
 ·by_cases e:v=n
  ·subst e;exact⟨hE,hlt⟩
  ·exact h.fin v hv (hin v hnv e)
 ·by_cases e:v=n
  ·subst e
   rcases List.eq_nil_or_concat l with rfl| ⟨l',p,rfl⟩
   ·obtain⟨_,u,h1,h2,_⟩:=h.lo1 v hv
    obtain⟨w,h3,h4⟩:=h.root (T.met u+1) u (by omega) h1
    rw[hw] at h3
    obtain rfl:w=v:=by simpa using h3
    omega
   ·have hpw:p∈T.way:=hsub p (by simp)
    rw[hw] at hs
    refine⟨p,h.way p hpw,zfR hs (by simp),fun w hw1 _=> ?_,.inr ⟨by simp[TS.pop],h.link l' p v [] (by rw[hw];simp)⟩⟩
    have hw1:w∈l'++[p]:=by simpa[TS.pop] using hw1
    rcases List.mem_append.1 hw1 with hw1|hw1
    ·have h5:=(List.pairwise_append.1 hs).1
     rw[List.concat_eq_append] at h5
     exact Nat.le_of_lt (zfR h5 hw1)
    ·obtain rfl:w=p:=by simpa using hw1
     exact Nat.le_refl _
  ·obtain⟨p,h1,h2,h3,h4⟩:=h.up v hv (hin v hnv e)
   refine⟨p,h1,h2,fun w hw1=>h3 w (hsub w hw1),?_⟩
   rcases h4 with h4| ⟨h4,h5⟩
   ·exact .inl h4
   ·rw[hw] at h4
    rcases List.mem_append.1 h4 with h4|h4
    ·exact .inr ⟨h4,h5⟩
    ·obtain rfl:p=n:=by simpa using h4
     have:=h5.1;omega
 ·have e:l=l1++p::q::l2:=e
  exact h.link l1 p q (l2++[n]) (by rw[hw,e];simp)
def TS.part (T:TS) (l:List Nat) (o2:List Nat) (cmp:Nat→Int):TS:={T with way:=l,op:=o2,cmp:=cmp,many:=T.many+1}
theorem Inv.part (h:Inv E ed T) {n:Nat} {l o2:List Nat} {cmp:Nat→Int} (hw:T.way=l++[n]) (hE:T.nx n=E) (hlow:T.low n=T.met n) (ho2: ∀v,v∈o2↔v∈T.op∧T.met v<T.met n) (hsl:o2.Sublist T.op)
 (hc: ∀v,cmp v=if v∈T.op∧T.met n≤T.met v then(T.many:Int) else T.cmp v):Inv E ed (T.part l o2 cmp):=by
 have hnw:n∈T.way:=by rw[hw];simp
 have hno:=h.way n hnw
 have hs:=h.wayS
 have hsub: ∀w,w∈l→w∈T.way:=fun w hh=>by rw[hw];exact List.mem_append_left _ hh
 have hmx: ∀w,w∈T.way→T.met w≤T.met n∧(w≠n→T.met w<T.met n∧w∈l):=fun w h3=>by
  rw[hw] at hs h3
  rcases List.mem_append.1 h3 with h3|h3
  ·have:=zfR hs h3;exact⟨by omega,fun _=>⟨this,h3⟩⟩
  ·obtain rfl:w=n:=by simpa using h3
   exact⟨Nat.le_refl _,fun h=>absurd rfl h⟩
 have hllt: ∀w,w∈l→T.met w<T.met n:=fun w hh=>by rw[hw] at hs;exact zfR hs hh
 have cin: ∀v,v∈T.op∧T.met n≤T.met v→cmp v=T.many:=fun v hv=>by rw[hc,if_pos hv]
 have cout: ∀v,¬(v∈T.op∧T.met n≤T.met v)→cmp v=T.cmp v:=fun v hv=>by rw[hc,if_neg hv]
 have low: ∀k v,T.met v<k→v∈T.op→T.met n≤T.met v→T.met n≤T.low v:=by
  intro k
  induction k with
  |zero=>intro v hv;omega
  |succ k ih=>
   intro v hv ho hle
   by_cases e:v=n
   ·subst e;omega
   ·have hnv:v∉T.way:=fun hh=>by have:=((hmx v hh).2 e).1;omega
    obtain⟨p,h1,h2,h3,h4⟩:=h.up v ho hnv
    have hp:=h3 n hnw hle
    rcases h4 with h4| ⟨h4,h5⟩
    ·exact Nat.le_trans (ih p (by omega) h1 hp) h4
    ·by_cases ep:p=n
     ·subst ep;have:=h5.1;omega
     ·have:=((hmx p h4).2 ep).1;omega
 have back: ∀k v,T.met v<k→v∈T.op→T.met n≤T.met v→Star (RTo E ed) v n:=by
  intro k
  induction k with
  |zero=>intro v hv;omega
  |succ k ih=>
   intro v hv ho hle
   by_cases e:v=n
   ·subst e;exact .refl _
   ·have hnv:v∉T.way:=fun hh=>by have:=((hmx v hh).2 e).1;omega
    obtain⟨_,h1⟩:=h.fin v ho hnv
    obtain⟨_,u,h2,h3,h4⟩:=h.lo1 v ho
    exact h4.trans (ih u (by omega) h2 (by rw[h3];exact low _ v (Nat.lt_succ_self _) ho hle))
 have clos: ∀v t,v∈T.op→T.met n≤T.met v→RTo E ed v t→(t∈T.op∧T.met n≤T.met t)∨T.cmp t≠ -1:=fun v t ho hle ⟨i,he⟩=>by
  have hx:T.nx v=E:=by
   by_cases e:v=n
   ·subst e;exact hE
   ·exact(h.fin v ho fun hh=>by have:=((hmx v hh).2 e).1;omega).1
  obtain⟨h1,h2⟩:=h.scan v t i he (by have:=he.1;omega)
  by_cases hct:T.cmp t= -1
  ·have ht:=(h.opi t).2 ⟨h1,hct⟩
   exact .inl ⟨ht,Nat.le_trans (low _ v (Nat.lt_succ_self _) ho hle) (h2 ho ht)⟩
  ·exact .inr hct
 have cne: ∀v,cmp v≠ -1↔T.cmp v≠ -1∨(v∈T.op∧T.met n≤T.met v):=fun v=>by
  by_cases hv:v∈T.op∧T.met n≤T.met v
  ·rw[cin v hv];exact⟨fun _=>.inr hv,fun _=>by omega⟩
  ·rw[cout v hv];exact⟨.inl,fun x=>x.resolve_right hv⟩
 have dn: ∀v t,cmp v≠ -1→RTo E ed v t→cmp t≠ -1:=fun v t hv r=>by
  rw[cne] at hv⊢
  rcases hv with hv|hv
  ·exact .inl (h.done v t hv r)
  ·rcases clos v t hv.1 hv.2 r with x|x
   ·exact .inr x
   ·exact .inl x
 refine⟨h.bnd,fun v hv=> ?_,fun v=> ?_,fun v hv=> ?_,h.nx0,h.nxE,h.opS.sublist hsl,?_,h.inj,fun v hv=> ?_,fun v t i he hi=> ?_,fun v hv hnv=> ?_,dn,fun v hv hnv=> ?_,fun w hw1 v hv=>h.sub w (hsub w hw1) v ((ho2 v).1 hv).1,fun a b ha hb=> ?_,fun l1 p q l2 e=> ?_⟩
 ·exact(ho2 v).2 ⟨h.way v (hsub v hv),hllt v hv⟩
 ·show v∈o2↔T.met v≠0∧cmp v= -1
  rw[ho2]
  constructor
  ·rintro⟨h1,h2⟩
   obtain⟨h3,h4⟩:=(h.opi v).1 h1
   exact⟨h3,by rw[cout v (fun x=>by omega)];exact h4⟩
  ·rintro⟨h1,h2⟩
   have h3: ¬cmp v≠ -1:=fun x=>x h2
   rw[cne] at h3
   have h4:T.cmp v= -1:=Classical.byContradiction fun x=>h3 (.inl x)
   have h5:=(h.opi v).2 ⟨h1,h4⟩
   exact⟨h5,Nat.lt_of_not_le fun x=>h3 (.inr ⟨h5,x⟩)⟩
 ·have hv:cmp v≠ -1:=hv
  show T.met v≠0∧0≤cmp v∧cmp v<((T.many+1:Nat):Int)
  by_cases hc:v∈T.op∧T.met n≤T.met v
  ·rw[cin v hc];exact⟨((h.opi v).1 hc.1).1,by omega,by omega⟩
  ·rw[cout v hc] at hv⊢
   obtain⟨h1,h2,h3⟩:=h.cv v hv
   exact⟨h1,h2,by omega⟩
 ·rw[hw] at hs;exact(List.pairwise_append.1 hs).1
 ·obtain⟨h1,h2⟩:=(ho2 v).1 hv
  obtain⟨h3,u,h4,h5,h6⟩:=h.lo1 v h1
  refine⟨h3,u,(ho2 u).2 ⟨h4,?_⟩,h5,h6⟩
  rw[h5];omega
 ·obtain⟨h1,h2⟩:=h.scan v t i he hi
  exact⟨h1,fun a b=>h2 ((ho2 v).1 a).1 ((ho2 t).1 b).1⟩
 ·obtain⟨h1,h2⟩:=(ho2 v).1 hv
  refine h.fin v h1 fun hh=> ?_
  by_cases e:v=n
  ·subst e;omega
  ·exact hnv ((hmx v hh).2 e).2
 ·obtain⟨h1,h2⟩:=(ho2 v).1 hv
  have hnv':v∉T.way:=fun hh=>by
   by_cases e:v=n
   ·subst e;omega
   ·exact hnv ((hmx v hh).2 e).2
  obtain⟨p,h3,h4,h5,h6⟩:=h.up v h1 hnv'
  refine⟨p,(ho2 p).2 ⟨h3,by omega⟩,h4,fun w hw1=>h5 w (hsub w hw1),h6.imp id fun x=>⟨((hmx p x.1).2 fun e=> ?_).2,x.2⟩⟩
  subst e;omega
 ·show cmp a=cmp b↔_
  have sep: ∀a b,(a∈T.op∧T.met n≤T.met a)→T.cmp b≠ -1→ ¬Star (RTo E ed) b a:=fun a b ha hb r=>by
   have:=r.keep (P:=fun v=>T.cmp v≠ -1) h.done hb
   exact this ((h.opi a).1 ha.1).2
  by_cases h1:a∈T.op∧T.met n≤T.met a
  ·by_cases h2:b∈T.op∧T.met n≤T.met b
   ·rw[cin a h1,cin b h2]
    exact⟨fun _=>⟨(back _ a (Nat.lt_succ_self _) h1.1 h1.2).trans (h.sub n hnw b h2.1 h2.2),(back _ b (Nat.lt_succ_self _) h2.1 h2.2).trans (h.sub n hnw a h1.1 h1.2)⟩,fun _=>rfl⟩
   ·have hb':=((cne b).1 hb).resolve_right h2
    have:=(h.cv b hb').2.2
    rw[cin a h1,cout b h2]
    exact⟨fun x=>by omega,fun x=>absurd x.2 (sep a b h1 hb')⟩
  ·have ha':=((cne a).1 ha).resolve_right h1
   by_cases h2:b∈T.op∧T.met n≤T.met b
   ·have:=(h.cv a ha').2.2
    rw[cout a h1,cin b h2]
    exact⟨fun x=>by omega,fun x=>absurd x.1 (sep b a h2 ha')⟩
   ·rw[cout a h1,cout b h2];exact h.eq a b ha' (((cne b).1 hb).resolve_right h2)
 ·have e:l=l1++p::q::l2:=e
  exact h.link l1 p q (l2++[n]) (by rw[hw,e];simp)
def TS.nil:TS:=⟨fun _=>0,fun _=>0,fun _=>0,fun _=> -1,0,0,[],[]⟩
theorem Inv.nil (E:Nat) (ed:Nat→Option (Nat×Nat)):Inv E ed TS.nil:=
 ⟨fun _=>Nat.le_refl _,fun _ h=>(by cases h),fun v=>⟨fun h=>(by cases h),fun h=>absurd rfl h.1⟩,fun _ h=>absurd rfl h,fun _ _=>rfl,fun _=>Nat.zero_le _,.nil,.nil,fun _ _ h=>absurd rfl h,fun _ h=>(by cases h),fun _ _ _ _ h=>absurd h (Nat.not_lt_zero _),fun _ h=>(by cases h),fun _ _ h=>absurd rfl h,fun _ h=>(by cases h),fun _ h=>(by cases h),fun _ _ h=>absurd rfl h,fun l p q l2 e=>absurd (show[]=l++p::q::l2 from e) (by simp)⟩
end
end Go.Ideal.S
namespace Go.Ideal
noncomputable section
variable {F:FuncId→Option zn} {n0:Nat}
def ScK (F:FuncId→Option zn) (n0:Nat) (r1 r2:CC) (K:KD):KD:=⟨K.nrm,scopeX F n0 0 r1 1 r2 K,K.ret,K.pan⟩
@[simp] theorem ScK_1 (r1 r2:CC) (K:KD) (s:DS) (M:VM):(ScK F n0 r1 r2 K).ext 1 s M=zcu F n0 r1 0 r1 1 r2 K s M:=id rfl
@[simp] theorem ScK_2 (r1 r2:CC) (K:KD) (s:DS) (M:VM):(ScK F n0 r1 r2 K).ext 2 s M=K.ext 2 s M:=id rfl
theorem zcu.go {b b' r1 r2:CC} {K:KD} {s:DS} {M:VM} (hb:b=b') (h: @Cd (rD F n0) (.base (ScK F n0 r1 r2 K)) b' s M):zcu F n0 b 0 r1 1 r2 K s M:=zcu.step (hb▸h)
theorem zcu.skip {b0 b r1 r2:CC} {L:List (List Bool)} {K:KD} {s s':DS} {M:VM} (hb:b0=.seq .skip L b) (hs:zbh L s=s') (h: @Cd (rD F n0) (.base (ScK F n0 r1 r2 K)) b s' M):zcu F n0 b0 0 r1 1 r2 K s M:=zcu.step (by subst hb;subst hs;exact h)
def Hold (y:VM) (L:List (Nat×MO)):Prop:= ∀(k:Nat) x,L[k]? =some x→y.obj x.1=some x.2
theorem Hold.frame {y y':VM} {L:List (Nat×MO)} (h:Hold y L) (hs:SM y.next y y') (hlt: ∀x∈L,x.1<y.next):Hold y' L:=fun k x hx=>by
 have:=h k x hx
 rw[←this]
 show(y'.get x.1).map _=(y.get x.1).map _
 rw[hs _ (hlt x (List.mem_of_getElem? hx))]
theorem Hold.set {y:VM} {L:List (Nat×MO)} (h:Hold y L) (hp:L.Pairwise fun a b=>a.1<b.1) (k:Nat) {j:Nat} {o o2:MO} (hk:L[k]? =some (j,o)):Hold (y.put j o2) (L.set k (j,o2)):=fun i x hx=>by
 rw[List.getElem?_set] at hx
 obtain⟨hkl,hke⟩:=List.getElem?_eq_some_iff.1 hk
 split at hx
 ·cases hx;simp
 ·rename_i hne
  have hi:=(List.getElem?_eq_some_iff.1 hx)
  obtain⟨hil,hie⟩:=hi
  have:x.1≠j:=by
   rw[List.pairwise_iff_getElem] at hp
   rcases Nat.lt_trichotomy i k with hh|hh|hh
   ·have:=hp i k hil hkl hh;rw[hie,hke] at this;exact Nat.ne_of_lt this
   ·exact absurd hh.symm hne
   ·have:=hp k i hkl hil hh;rw[hie,hke] at this;exact(Nat.ne_of_lt this).symm
  rw[z7,if_neg this];exact h i x hx
def Stk (Y:Nat) (y:VM) (d:DV) (l:List Nat):Prop:=(d=.nilS∧l=[])∨ ∃j rs,d=.ms j 0 l.length zo∧Y≤j∧j<y.next∧y.obj j=some (.rows true 1 rs)∧rs.take l.length=l.map fun v=>[I (v:Nat)]
def zer (d:DV) (j:Nat):Prop:= ∀a b c,d≠ .ms j a b c
theorem Stk.keep {Y:Nat} {y y':VM} {d:DV} {l:List Nat} (h:Stk Y y d l) (hn:y.next≤y'.next) (ho: ∀j,j<y.next→Y≤j→ ¬zer d j→y'.obj j=y.obj j):Stk Y y' d l:=by
 rcases h with h| ⟨j,rs,h1,h2,h3,h4,h5⟩
 ·exact .inl h
 ·refine .inr ⟨j,rs,h1,h2,Nat.lt_of_lt_of_le h3 hn,?_,h5⟩
  rw[ho j h3 h2 fun hh=>hh _ _ _ h1];exact h4
theorem Stk.pop {Y:Nat} {y:VM} {j n:Nat} {l:List Nat} {x:Nat} (h:Stk Y y (.ms j 0 n zo) (l++[x])):Stk Y y (.ms j 0 l.length zo) l:=by
 rcases h with⟨h,_⟩| ⟨j,rs,h1,h2,h3,h4,h5⟩
 ·cases h
 ·cases h1
  refine .inr ⟨j,rs,rfl,h2,h3,h4,?_⟩
  have:=congrArg (List.take l.length) h5
  rw[List.take_take,Nat.min_eq_left (by simp)] at this
  rw[this,List.map_append,List.take_left' (by simp)]
theorem Stk.cut {Y:Nat} {y:VM} {j n:Nat} {l l2:List Nat} (h:Stk Y y (.ms j 0 n zo) (l++l2)):Stk Y y (.ms j 0 l.length zo) l:=by
 rcases h with⟨h,_⟩| ⟨j,rs,h1,h2,h3,h4,h5⟩
 ·cases h
 ·cases h1
  refine .inr ⟨j,rs,rfl,h2,h3,h4,?_⟩
  have:=congrArg (List.take l.length) h5
  rw[List.take_take,Nat.min_eq_left (by simp)] at this
  rw[this,List.map_append,List.take_left' (by simp)]
theorem Rs_push {X:RnD} {fr:FrC} {Y:Nat} {y:VM} {d:DV} {l:List Nat} {x jb:Nat} {dst:Option (List Bool)} {r:List CI} {sl:DS} (h:Stk Y y d l) (hl:l.length≤1000000) (hY:Y≤y.next) (hb:y.obj jb=some (.rows false 1 [[I (x:Nat)]]))
 (k: ∀d' y',Stk Y y' d' (l++[x])→y.next≤y'.next→SM Y y y'→(∀j,j<y.next→zer d j→y'.obj j=y.obj j)→(∀j,¬zer d' j→j<y.next→ ¬zer d j)→ @Op X fr r (zbp dst d' sl) y'): @Rs X fr (bltD y (.append 1 8) [d,.ms jb 0 1 1]) dst r sl:=by
 rw[zdf,if_pos ⟨by decide,by decide⟩,zdI,hb]
 rcases h with⟨rfl,rfl⟩| ⟨j,rs,rfl,h2,h3,h4,h5⟩
 ·have e:zbj 1 8 y [[I (x:Nat)]] .nilS=some (.ms y.next 0 1 zo,y.new (.rows true 1 [[I (x:Nat)]])):=by simp
  rw[show elO 1 0 1 (some (MO.rows false 1 [[I (x:Nat)]]))=some [[I (x:Nat)]] from by simp,zft,if_pos (by simp),e]
  refine k _ _ (.inr ⟨y.next,_,rfl,hY,by simp,by simp;rfl,by simp⟩) (by simp) (zx (zt _ _) hY) (fun j hj _=>zjc _ hj) fun j hj hlt=> ?_
  exfalso
  refine hj fun a b c e=> ?_
  cases e;omega
 ·have hlen:l.length≤rs.length:=by
   have:=congrArg List.length h5
   rw[List.length_take,List.length_map] at this;omega
  rw[show elO 1 0 1 (some (MO.rows false 1 [[I (x:Nat)]]))=some [[I (x:Nat)]] from by simp,zft,if_pos (by simp)]
  by_cases hq:l.length+1≤rs.length
  ·have e:zbj 1 8 y [[I (x:Nat)]] (.ms j 0 l.length zo)=some (.ms j 0 (l.length+1) zo,y.put j (.rows true 1 (zbb rs [[I (x:Nat)]] l.length))):=by
    rw[zcE,if_neg (by simp),if_pos (by simp;omega),h4,zez,zcr,if_pos ⟨rfl,by omega⟩,if_pos (by simp;omega)]
    simp
   rw[e]
   refine k _ _ (.inr ⟨j,_,by simp,h2,by simp;omega,by simp;rfl,?_⟩) (by simp) (zu (zt _ _) h2) (fun i hi hn=> ?_) fun i hi _ hn=> ?_
   ·unfold zbb
    rw[h5,List.length_append,List.append_assoc,List.take_append,List.take_of_length_le (by simp)]
    simp
   ·have hne:i≠j:=fun e=>by subst e;exact hn _ _ _ rfl
    rw[z7,if_neg hne]
   ·refine hi fun a b c e=> ?_
    cases e;exact hn _ _ _ rfl
  ·have e:zbj 1 8 y [[I (x:Nat)]] (.ms j 0 l.length zo)=some (.ms y.next 0 (l.length+1) zo,(y.del j).new (.rows true 1 (rs.take l.length++[[I (x:Nat)]]))):=by
    rw[zcE,if_neg (by simp),if_pos (by simp;omega),h4,zez,zcr,if_pos ⟨rfl,by omega⟩,if_neg (by simp;omega)]
    simp[hlen]
   rw[e]
   refine k _ _ (.inr ⟨y.next,_,by simp,hY,by simp,by simp;rfl,?_⟩) (by simp) (zx (zA (zt _ _) h2) (by simpa using hY)) (fun i hi hn=> ?_) fun i hi hlt=> ?_
   ·rw[h5,List.take_of_length_le (by simp)];simp
   ·have hne:i≠j:=fun e=>by subst e;exact hn _ _ _ rfl
    rw[zjc _ (by simpa using hi)];simp[hne]
   ·exfalso
    refine hi fun a b c e=> ?_
    cases e;omega
end
end Go.Ideal
namespace Go.Ideal.S
open Go Go.Ideal Q Classical
attribute [local simp] decide_eq_true decide_eq_false zH
def R1 (f:Nat→Int) (N:Nat):List (List DV):=(List.range N).map fun v=>[I (f v)]
def R2 (f g:Nat→Int) (N:Nat):List (List DV):=(List.range N).map fun v=>[I (f v),I (g v)]
@[simp] theorem R1_len (f:Nat→Int) (N:Nat):(R1 f N).length=N:=by simp[R1]
theorem zcU {f:Nat→Int} {N n:Nat} (h:n<N):(R1 f N)[n]? =some [I (f n)]:=by simp[R1,h]
theorem R2_at {f g:Nat→Int} {N n:Nat} (h:n<N):(R2 f g N)[n]? =some [I (f n),I (g n)]:=by simp[R2,h]
theorem set_map {f:Nat→List DV} {x:List DV} {N n:Nat}:((List.range N).map f).set n x=(List.range N).map (up1 f n x):=by
 apply List.ext_getElem (by simp)
 intro i h1 h2
 simp at h1
 rw[List.getElem_set]
 by_cases e:n=i
 ·subst e;simp[up1]
 ·have e': ¬i=n:=fun h=>e h.symm
  rw[if_neg e];simp[up1,e']
theorem zfJ {f:Nat→Int} {N n:Nat} {x:Int}:(R1 f N).set n [I x]=R1 (up1 f n x) N:=by
 unfold R1
 rw[set_map]
 congr 1;funext v
 unfold up1;split<;>rfl
theorem R2_set {f g:Nat→Int} {N n:Nat} {x z:Int}:(R2 f g N).set n [I x,I z]=R2 (up1 f n x) (up1 g n z) N:=by
 unfold R2
 rw[set_map]
 congr 1;funext v
 unfold up1;split<;>rfl
theorem R2_set2 {f g:Nat→Int} {N n:Nat} {z:Int}:(R2 f g N).set n [I (f n),I z]=R2 f (up1 g n z) N:=by
 rw[R2_set]
 congr 1;funext v
 unfold up1;split
 ·subst v;rfl
 ·rfl
theorem zh4 (f:Nat→Nat) (n x:Nat):up1 (fun v=>(f v:Int)) n (x:Int)=fun v=>((up1 f n x v:Nat):Int):=by
 funext v;unfold up1;split<;>rfl
structure PJ where
 j3:Nat
 j4:Nat
 j5:Nat
 jo:Nat
 j8:Nat
 jt:Nat
 j9:Nat
 j10:Nat
 j11:Nat
 jn:Nat
 j12:Nat
 j13:Nat
 j14:Nat
 j15:Nat
 j16:Nat
 Y:Nat
 N:Nat
 ex:List (Nat×MO)
structure PJ.Ok (p:PJ) (b:Nat):Prop where
 h:b≤p.j3∧p.j3<p.j4∧p.j4<p.j5∧p.j5<p.jo∧p.jo<p.j8∧p.j8<p.jt∧p.jt<p.j9∧p.j9<p.j10∧p.j10<p.j11∧p.j11<p.jn∧p.jn<p.j12∧p.j12<p.j13∧p.j13<p.j14∧p.j14<p.j15∧p.j15<p.j16∧p.j16<p.Y
def PJ.L (p:PJ) (g:Gr) (mi:Nat) (w:Int) (T:TS) (n i:Int) (dw dp:DV):List (Nat×MO):=
 [(p.j3,grO g),(p.j4,setO mi),(p.j5,intO w),(p.jo,.rows false 1 (R1 T.cmp p.N)),(p.j8,.rows false 1 [[.ms p.jo 0 p.N p.N]]),(p.jt,.rows false 2 (R2 (fun v=>(T.met v:Int)) (fun v=>(T.low v:Int)) p.N)),(p.j9,.rows false 1 [[.ms p.jt 0 p.N p.N]]),
  (p.j10,.rows false 1 [[dw]]),(p.j11,.rows false 1 [[dp]]),(p.jn,.rows false 1 (R1 (fun v=>(T.nx v:Int)) p.N)),(p.j12,.rows false 1 [[.ms p.jn 0 p.N p.N]]),(p.j13,intO T.m),(p.j14,intO T.many),(p.j15,intO n),(p.j16,intO i)]
structure PM (B:VM) (p:PJ) (g:Gr) (mi:Nat) (w:Int) (T:TS) (n i:Int) (dw dp:DV) (y:VM):Prop where
 ok:p.Ok B.next
 sm:SM B.next B y
 nx:p.Y≤y.next
 hold:Hold y (p.L g mi w T n i dw dp)
 sw:Stk p.Y y dw T.way
 sp:Stk p.Y y dp T.op
 ne: ∀j,¬zer dw j→zer dp j
 xs: ∀x∈p.ex,y.obj x.1=some x.2∧p.j16<x.1∧x.1<p.Y
section
variable {B y y':VM} {p:PJ} {g:Gr} {mi:Nat} {w:Int} {T T':TS} {n i:Int} {dw dp:DV}
theorem PJ.L_pw (h:p.Ok B.next):(p.L g mi w T n i dw dp).Pairwise fun a b=>a.1<b.1:=by
 obtain⟨h⟩:=h
 simp[PJ.L];omega
theorem PJ.L_lt (h:p.Ok B.next): ∀x∈p.L g mi w T n i dw dp,B.next≤x.1∧x.1<p.Y∧x.1≤p.j16:=by
 obtain⟨h⟩:=h
 simp[PJ.L];omega
theorem PM.frame (h:PM B p g mi w T n i dw dp y) (hs:SM y.next y y') (hn:y.next≤y'.next):PM B p g mi w T n i dw dp y':=by
 have h1:=h.nx
 have h0:=h.ok.h
 have hob: ∀j,j<y.next→y'.obj j=y.obj j:=fun j hj=>by show(y'.get j).map _=(y.get j).map _;rw[hs j hj]
 exact⟨h.ok,fun j hj=>(hs j (by omega)).trans (h.sm j hj),by omega,h.hold.frame hs fun x hx=>by have:=(PJ.L_lt h.ok x hx).2.1;omega,h.sw.keep hn fun j a _ _=>hob j a,h.sp.keep hn fun j a _ _=>hob j a,h.ne,fun x hx=>by
  obtain⟨a,b,c⟩:=h.xs x hx
  exact⟨by rw[hob _ (by omega)];exact a,b,c⟩⟩
theorem PM.put (h:PM B p g mi w T n i dw dp y) (k:Nat) {j:Nat} {o o2:MO} {n2 i2:Int} {dw2 dp2:DV} (hk:(p.L g mi w T n i dw dp)[k]? =some (j,o)) (e:(p.L g mi w T n i dw dp).set k (j,o2)=p.L g mi w T' n2 i2 dw2 dp2)
 (h1:Stk p.Y y dw2 T'.way) (h2:Stk p.Y y dp2 T'.op) (h3: ∀j,¬zer dw2 j→zer dp2 j):PM B p g mi w T' n2 i2 dw2 dp2 (y.put j o2):=by
 have hj:=PJ.L_lt h.ok _ (List.mem_of_getElem? hk)
 have hh:=h.hold.set (PJ.L_pw h.ok) k (o2:=o2) hk
 rw[e] at hh
 refine⟨h.ok,zu h.sm hj.1,by have:=h.nx;simp;omega,hh,h1.keep (by simp) fun i a b _=> ?_,h2.keep (by simp) fun i a b _=> ?_,h3,fun x hx=> ?_⟩
 ·rw[z7,if_neg (by have:=hj.2.1;omega)]
 ·rw[z7,if_neg (by have:=hj.2.1;omega)]
 ·obtain⟨a,b,c⟩:=h.xs x hx
  exact⟨by rw[z7,if_neg (by have:=hj.2.2;omega)];exact a,b,c⟩
theorem PM.box (h:PM B p g mi w T n i dw dp y) (a b:MO):PM B p g mi w T n i dw dp ((y.new a).put y.next b):=h.frame (zu (zx (zt _ _) (Nat.le_refl _)) (Nat.le_refl _)) (by simp;omega)
theorem zh3 {β:Type} (f:Nat→β) (n:Nat):up1 f n (f n)=f:=by
 funext v;unfold up1;split
 ·subst v;rfl
 ·rfl
theorem PM.setNx (h:PM B p g mi w T n i dw dp y) (m:Nat):PM B p g mi w {T with nx:=up1 T.nx m (T.nx m+1)} n i dw dp (y.put p.jn (.rows false 1 ((R1 (fun v=>(T.nx v:Int)) p.N).set m [I ((T.nx m:Int)+1)]))):=by
 refine h.put 9 rfl ?_ h.sw h.sp h.ne
 rw[zfJ,show((T.nx m:Int)+1)=((T.nx m+1:Nat):Int) from by simp,zh4];rfl
theorem PM.setLow (h:PM B p g mi w T n i dw dp y) (m x:Nat):PM B p g mi w {T with low:=up1 T.low m x} n i dw dp (y.put p.jt (.rows false 2 ((R2 (fun v=>(T.met v:Int)) (fun v=>(T.low v:Int)) p.N).set m [I (T.met m),I (x:Int)]))):=by
 refine h.put 5 rfl ?_ h.sw h.sp h.ne
 rw[R2_set2 (f:=fun v=>(T.met v:Int)),zh4];rfl
theorem PM.setN (h:PM B p g mi w T n i dw dp y) (m:Int):PM B p g mi w T m i dw dp (y.put p.j15 (intO m)):=h.put 13 rfl rfl h.sw h.sp h.ne
theorem PM.setI (h:PM B p g mi w T n i dw dp y) (m:Int):PM B p g mi w T n m dw dp (y.put p.j16 (intO m)):=h.put 14 rfl rfl h.sw h.sp h.ne
theorem PM.setM (h:PM B p g mi w T n i dw dp y):PM B p g mi w {T with m:=T.m+1} n i dw dp (y.put p.j13 (intO ((T.m:Int)+1))):=h.put 11 rfl (by simp[PJ.L]) h.sw h.sp h.ne
theorem PM.setMany (h:PM B p g mi w T n i dw dp y):PM B p g mi w {T with many:=T.many+1} n i dw dp (y.put p.j14 (intO ((T.many:Int)+1))):=h.put 12 rfl (by simp[PJ.L]) h.sw h.sp h.ne
theorem PM.setMet (h:PM B p g mi w T n i dw dp y) (m x:Nat):PM B p g mi w {T with met:=up1 T.met m x,low:=up1 T.low m x} n i dw dp (y.put p.jt (.rows false 2 ((R2 (fun v=>(T.met v:Int)) (fun v=>(T.low v:Int)) p.N).set m [I (x:Int),I (x:Int)]))):=by
 refine h.put 5 rfl ?_ h.sw h.sp h.ne
 rw[R2_set,zh4,zh4];rfl
theorem PM.setCmp (h:PM B p g mi w T n i dw dp y) (m:Nat) (x:Int):PM B p g mi w {T with cmp:=up1 T.cmp m x} n i dw dp (y.put p.jo (.rows false 1 ((R1 T.cmp p.N).set m [I x]))):=by
 refine h.put 3 rfl ?_ h.sw h.sp h.ne
 rw[zfJ];rfl
theorem Stk.lt {Y:Nat} {d:DV} {l:List Nat} (h:Stk Y y d l) {j:Nat} (hj: ¬zer d j):j<y.next:=by
 rcases h with⟨rfl,_⟩| ⟨j',rs,rfl,h2,h3,_⟩
 ·exact absurd (fun a b c e=>by cases e) hj
 ·by_cases e:j=j'
  ·subst e;exact h3
  ·exact absurd (fun a b c e2=>by cases e2;exact e rfl) hj
theorem Hold.frame2 {L:List (Nat×MO)} (h:Hold y L) {Y:Nat} (hs:SM Y y y') (hlt: ∀x∈L,x.1<Y):Hold y' L:=fun k x hx=>by
 have:=h k x hx
 rw[←this]
 show(y'.get x.1).map _=(y.get x.1).map _
 rw[hs _ (hlt x (List.mem_of_getElem? hx))]
theorem PM.mid (h:PM B p g mi w T n i dw dp y) (hn:y.next≤y'.next) (hs:SM p.Y y y'):SM B.next B y'∧p.Y≤y'.next∧Hold y' (p.L g mi w T n i dw dp):=by
 have h0:=h.ok.h
 exact⟨fun j hj=>(hs j (by omega)).trans (h.sm j hj),Nat.le_trans h.nx hn,Hold.frame2 h.hold hs fun x hx=>(PJ.L_lt h.ok x hx).2.1⟩
theorem PM.pushW (h:PM B p g mi w T n i dw dp y) {x:Nat} {d':DV} (h1:Stk p.Y y' d' (T.way++[x])) (hn:y.next≤y'.next) (hs:SM p.Y y y') (hf: ∀j,j<y.next→zer dw j→y'.obj j=y.obj j) (hd: ∀j,¬zer d' j→j<y.next→ ¬zer dw j):
 PM B p g mi w {T with way:=T.way++[x]} n i d' dp (y'.put p.j10 (.rows false 1 [[d']])):=by
 obtain⟨a1,a2,a3⟩:=h.mid hn hs
 have hj:=PJ.L_lt h.ok (p.j10,_) (List.mem_of_getElem? (show(p.L g mi w T n i dw dp)[7]? =some (p.j10,_) from rfl))
 refine⟨h.ok,zu a1 hj.1,by simp;omega,a3.set (PJ.L_pw h.ok) 7 rfl,h1.keep (by simp) fun j a b _=> ?_,h.sp.keep (by simp;omega) fun j a b hnm=> ?_,fun j hj2=> ?_,fun x hx=> ?_⟩
 ·rw[z7,if_neg (by have:=hj.2.1;omega)]
 ·rw[z7,if_neg (by have:=hj.2.1;omega)]
  exact hf j a (Classical.byContradiction fun hh=>hnm (h.ne j hh))
 ·by_cases hlt:j<y.next
  ·exact h.ne j (hd j hj2 hlt)
  ·exact Classical.byContradiction fun hh=>hlt (Stk.lt h.sp hh)
 ·obtain⟨a,b,c⟩:=h.xs x hx
  refine⟨?_,b,c⟩
  rw[z7,if_neg (by have:=hj.2.2;omega),←a]
  show(y'.get x.1).map _=(y.get x.1).map _
  rw[hs _ c]
theorem PM.pushP (h:PM B p g mi w T n i dw dp y) {x:Nat} {d':DV} (h1:Stk p.Y y' d' (T.op++[x])) (hn:y.next≤y'.next) (hs:SM p.Y y y') (hf: ∀j,j<y.next→zer dp j→y'.obj j=y.obj j) (hd: ∀j,¬zer d' j→j<y.next→ ¬zer dp j):
 PM B p g mi w {T with op:=T.op++[x]} n i dw d' (y'.put p.j11 (.rows false 1 [[d']])):=by
 obtain⟨a1,a2,a3⟩:=h.mid hn hs
 have hj:=PJ.L_lt h.ok (p.j11,_) (List.mem_of_getElem? (show(p.L g mi w T n i dw dp)[8]? =some (p.j11,_) from rfl))
 refine⟨h.ok,zu a1 hj.1,by simp;omega,a3.set (PJ.L_pw h.ok) 8 rfl,h.sw.keep (by simp;omega) fun j a b hnm=> ?_,h1.keep (by simp) fun j a b _=> ?_,fun j hj2=> ?_,fun x hx=> ?_⟩
 ·rw[z7,if_neg (by have:=hj.2.1;omega)]
  exact hf j a (h.ne j hnm)
 ·rw[z7,if_neg (by have:=hj.2.1;omega)]
 ·refine Classical.byContradiction fun hh=> ?_
  have hlt:j<y.next:=Stk.lt h.sw hj2
  exact hd j hh hlt (h.ne j hj2)
 ·obtain⟨a,b,c⟩:=h.xs x hx
  refine⟨?_,b,c⟩
  rw[z7,if_neg (by have:=hj.2.2;omega),←a]
  show(y'.get x.1).map _=(y.get x.1).map _
  rw[hs _ c]
theorem PM.popW (h:PM B p g mi w T n i dw dp y) {l:List Nat} {d':DV} (h1:Stk p.Y y d' l) (hd: ∀j,¬zer d' j→ ¬zer dw j):PM B p g mi w {T with way:=l} n i d' dp (y.put p.j10 (.rows false 1 [[d']])):=h.put 7 rfl rfl h1 h.sp fun j hj=>h.ne j (hd j hj)
theorem PM.popP (h:PM B p g mi w T n i dw dp y) {l:List Nat} {d':DV} (h1:Stk p.Y y d' l) (hd: ∀j,¬zer d' j→ ¬zer dp j):PM B p g mi w {T with op:=l} n i dw d' (y.put p.j11 (.rows false 1 [[d']])):=h.put 8 rfl rfl h.sw h1 fun j hj=>Classical.byContradiction fun hh=>hd j hh (h.ne j hj)
theorem PM.setEx (h:PM B p g mi w T n i dw dp y) {j:Nat} (o:MO) {ex:List (Nat×MO)} (hj:p.j16<j∧j<p.Y) (he: ∀x∈ex,x=(j,o)∨x.1≠j∧x∈p.ex):PM B {p with ex:=ex} g mi w T n i dw dp (y.put j o):=by
 have h0:=h.ok.h
 have hL:=PJ.L_lt (g:=g) (mi:=mi) (w:=w) (T:=T) (n:=n) (i:=i) (dw:=dw) (dp:=dp) h.ok
 refine⟨⟨h0⟩,zu h.sm (by omega),by have:=h.nx;simp;omega,fun k x hx=> ?_,h.sw.keep (by simp) fun i a b _=> ?_,h.sp.keep (by simp) fun i a b _=> ?_,h.ne,fun x hx=> ?_⟩
 ·rw[z7,if_neg (by have:=(hL x (List.mem_of_getElem? hx)).2.2;omega)]
  exact h.hold k x hx
 ·rw[z7,if_neg (by omega)]
 ·rw[z7,if_neg (by omega)]
 ·rcases he x hx with rfl| ⟨h1,h2⟩
  ·exact⟨by simp,hj⟩
  ·obtain⟨a,b,c⟩:=h.xs x h2
   exact⟨by rw[z7,if_neg h1];exact a,b,c⟩
end
end Go.Ideal.S
namespace Go.Ideal.S
open Go Go.Ideal Q Classical
attribute [local simp] decide_eq_true decide_eq_false zH
attribute [local simp] c_a f_a r_a_1 r_a_2 r_a_3 r_a_4 r_a_5 r_a_6 r_a_7 r_a_8 r_a_9 zi2 zi1 zlv zlu zlt zls zlr zlq zlp zlo zln zlm zll zlk zlj zli zlh zlg zlf zle zld zlc zlb zla zk9 zk8 zi0 ziZ ziY ziX zk7 zk6 zk5 zk4 zk3 zk2 zk1 zk0 zkZ zkY zkX zkW zkV zkU zkT zkS zkR zkQ zkP zkO zkN zkM zkL zkK zkJ zkI zkH zkG ziW ziV ziU ziT zkF zkE zkD zkC ziS ziR ziQ ziP zkB
variable {M:VM} {k kp:DV→VM→Prop} {n0:Nat}
def edOf (g:Gr) (mi:Nat) (w:Int) (i:Nat):Option (Nat×Nat):=match g.es[i]? with
 |some e=>if e.a≠w∧mi.testBit e.t.toNat=true then some (e.f.toNat,e.t.toNat) else none
 |none=>none
theorem edOf_at {g:Gr} {mi:Nat} {w:Int} {i:Nat} (hi:i<g.es.length):edOf g mi w i=if g.es[i].a≠w∧mi.testBit g.es[i].t.toNat=true then some (g.es[i].f.toNat,g.es[i].t.toNat) else none:=by
 unfold edOf
 rw[List.getElem?_eq_getElem hi]
def S0 (p:PJ):DS:=[(bits 3,.ptr p.j3 0 0),(bits 4,.ptr p.j4 0 0),(bits 5,.ptr p.j5 0 0),(bits 8,.ptr p.j8 0 0),(bits 9,.ptr p.j9 0 0),(bits 10,.ptr p.j10 0 0),(bits 11,.ptr p.j11 0 0),(bits 12,.ptr p.j12 0 0),(bits 13,.ptr p.j13 0 0),(bits 14,.ptr p.j14 0 0),(bits 15,.ptr p.j15 0 0),(bits 16,.ptr p.j16 0 0)]
abbrev LS:List (List Bool):=[bits 3,bits 4,bits 5,bits 8,bits 9,bits 10,bits 11,bits 12,bits 13,bits 14,bits 15,bits 16]
theorem inner_ok {B:VM} {p:PJ} {g:Gr} (hg:zbr g) {mi:Nat} (hmi:mi<2^64) {w:Int} (hN:g.st=p.N) {T0:TS} {n:Nat} {i:Int} {dw dp:DV} {y0:VM} {l:List Nat} {K:KD} (h0:PM B p g mi w T0 n i dw dp y0) (hI0:Inv g.es.length (edOf g mi w) T0) (hw:T0.way=l++[n]) (hn:n<p.N)
 (brk: ∀T y s,PM B p g mi w T n i dw dp y→Inv g.es.length (edOf g mi w) T→T.way=T0.way→T.met=T0.met→T.op=T0.op∧T.many=T0.many∧T.m=T0.m→T.nx n=g.es.length→s=S0 p++[(bits 68,.bool false)]→K.ext 4 s y)
 (ent: ∀T y s (t:Nat),PM B p g mi w T t i dw dp y→Inv g.es.length (edOf g mi w) T→T.way=T0.way→T.met=T0.met→T.op=T0.op∧T.many=T0.many∧T.m=T0.m→T.met t=0→EdAt g.es.length (edOf g mi w) (T.nx n) n t→t<p.N→zbh LS s=S0 p→K.ext 1 s y):zcs F n0 LS zgN K (S0 p) y0:=by
 refine .while (σ:=TS×VM) zgN.eq_1 (fun _=>[]) (fun x=>x.2) (fun x=>PM B p g mi w x.1 n i dw dp x.2∧Inv g.es.length (edOf g mi w) x.1∧x.1.way=T0.way∧x.1.met=T0.met∧x.1.op=T0.op∧x.1.many=T0.many∧x.1.m=T0.m) (fun x=>g.es.length - x.1.nx n) (T0,y0) (by simp[S0]) rfl ⟨h0,hI0,rfl,rfl,rfl,rfl,rfl⟩ (fun x hP again=> ?_)
 obtain⟨T,y⟩:=x
 obtain⟨h,hI,e1,e2,e3⟩:=hP
 replace h:PM B p g mi w T n i dw dp y:=h
 replace hI:Inv g.es.length (edOf g mi w) T:=hI
 replace e1:T.way=T0.way:=e1
 replace e2:T.met=T0.met:=e2
 replace e3:T.op=T0.op∧T.many=T0.many∧T.m=T0.m:=e3
 have o3:=h.hold 0 _ rfl
 have o4:=h.hold 1 _ rfl
 have o5:=h.hold 2 _ rfl
 have oo:=h.hold 3 _ rfl
 have o8:=h.hold 4 _ rfl
 have ot:=h.hold 5 _ rfl
 have o9:=h.hold 6 _ rfl
 have on:=h.hold 9 _ rfl
 have o12:=h.hold 10 _ rfl
 have o15:=h.hold 13 _ rfl
 have hh:=h.ok.h
 have hnx:=h.nx
 have hnE:=hI.nxE n
 have g5:=hg.el
 have r1:=zcU (f:=fun v=>(T.nx v:Int)) hn
 have fin: ∀{T2:TS} {y2:VM},PM B p g mi w T2 n i dw dp y2→Inv g.es.length (edOf g mi w) T2→T2.way=T.way→T2.met=T.met→T2.op=T.op∧T2.many=T.many∧T2.m=T.m→T2.nx n=T.nx n+1→T.nx n<g.es.length→zcs F n0 LS zgN K (S0 p) y2:=fun a b c d d2 e f=>by
  have:=again (_,_) (by show g.es.length - _<g.es.length - T.nx n;rw[e];omega) ⟨a,b,c.trans e1,d.trans e2,d2.1.trans e3.1,d2.2.1.trans e3.2.1,d2.2.2.trans e3.2.2⟩
  simp[S0] at this
  exact this
 clear again
 by_cases hq:T.nx n<g.es.length
 ·have he:=hg.ok _ (List.getElem_mem hq)
  obtain⟨t,ht⟩:=Int.eq_ofNat_of_zero_le he.t0
  obtain⟨f,hf⟩:=Int.eq_ofNat_of_zero_le he.f0
  have htN:t<p.N:=by have:=he.t1;omega
  have ht64:t<64:=by have:=hg.s2;omega
  have hed:=edOf_at (g:=g) (mi:=mi) (w:=w) hq
  rw[hf,ht,Int.toNat_natCast,Int.toNat_natCast] at hed
  have m2:=R2_at (f:=fun v=>(T.met v:Int)) (g:=fun v=>(T.low v:Int)) htN
  have m3:=R2_at (f:=fun v=>(T.met v:Int)) (g:=fun v=>(T.low v:Int)) hn
  have rc:=zcU (f:=T.cmp) htN
  by_cases c1:f=n
  ·subst c1
   by_cases c2:g.es[T.nx f].a=w
   ·rw[if_neg (fun hc=>hc.1 c2)] at hed
    have hP:=(h.box (.rows false 3 [[I 0,I 0,I 0]]) (.rows false 3 [[I f,I w,I g.es[T.nx f].t]])).setNx f
    have hI2:=hI.next (x:=T.low f) (e1.trans hw) hq (.inl ⟨rfl,fun t hc=>by rw[hed] at hc;cases hc⟩)
    rw[TS.next,zh3] at hI2
    simp(disch:=((try simp only[zc,ze,zf]);omega)) [S0,o3,o5,o12,o15,on,r1,hn,hq,zF,hf,c2]
    exact fin hP hI2 rfl rfl ⟨rfl,rfl,rfl⟩ (zdp _ _ _) hq
   ·cases c3:mi.testBit t with
    |false=>
     rw[if_neg (fun hc=>by rw[c3] at hc;cases hc.2)] at hed
     have hP:=(h.box (.rows false 3 [[I 0,I 0,I 0]]) (.rows false 3 [[I f,I g.es[T.nx f].a,I t]])).setNx f
     have hI2:=hI.next (x:=T.low f) (e1.trans hw) hq (.inl ⟨rfl,fun t hc=>by rw[hed] at hc;cases hc⟩)
     rw[TS.next,zh3] at hI2
     simp(disch:=((try simp only[zc,ze,zf]);omega)) [S0,o3,o5,o4,o12,o15,on,r1,hn,hq,zF,hf,ht,c2]
     refine zdA mi t hmi ht64 ?_
     simp(disch:=((try simp only[zc,ze,zf]);omega)) [o3,o5,o4,o12,o15,on,r1,hn,hq,zF,hf,ht,c2,c3]
     exact fin hP hI2 rfl rfl ⟨rfl,rfl,rfl⟩ (zdp _ _ _) hq
    |true=>
     rw[if_pos ⟨c2,c3⟩] at hed
     have hb:=h.box (.rows false 3 [[I 0,I 0,I 0]]) (.rows false 3 [[I f,I g.es[T.nx f].a,I t]])
     simp(disch:=((try simp only[zc,ze,zf]);omega)) [S0,o3,o5,o4,o12,o15,on,r1,hn,hq,zF,hf,ht,c2]
     refine zdA mi t hmi ht64 ?_
     by_cases c4:T.met t=0
     ·have hP:=hb.setN t
      have c4':(T.met t:Int)=0:=by omega
      simp(disch:=((try simp only[zc,ze,zf]);omega)) [o3,o5,o4,o12,o15,on,r1,hn,hq,zF,hf,ht,c2,c3,o9,ot,m2,c4',htN]
      exact ent T _ _ t hP hI e1 e2 e3 c4 ⟨hq,hed⟩ htN (by simp[S0])
     ·have c4': ¬(T.met t:Int)=0:=by omega
      by_cases c5:T.cmp t<0
      ·have ct:T.cmp t= -1:=Classical.byContradiction fun hc=>by have:=(hI.cv t hc).2.1;omega
       have hto:=(hI.opi t).2 ⟨c4,ct⟩
       have hI2:=hI.next (x:=min (T.low f) (T.low t)) (e1.trans hw) hq (.inr ⟨t,hed,hto,rfl⟩)
       have hP:=(hb.setLow f (min (T.low f) (T.low t))).setNx f
       simp(disch:=((try simp only[zc,ze,zf]);omega)) [o3,o5,o4,o12,o15,on,r1,hn,hq,zF,hf,ht,c2,c3,o9,ot,m2,c4',htN,o8,oo,rc,c5,m3]
       have hmin:(if T.low t<T.low f then(T.low t:Int) else(T.low f:Int))=((min (T.low f) (T.low t):Nat):Int):=by split<;>omega
       rw[hmin]
       exact fin hP hI2 rfl rfl ⟨rfl,rfl,rfl⟩ (zdp _ _ _) hq
      ·have hI2:=hI.next (x:=T.low f) (e1.trans hw) hq (.inl ⟨rfl,fun t' hc=>by
        rw[hed] at hc;cases hc
        exact⟨c4,fun ho=>c5 (by rw[((hI.opi t).1 ho).2];omega)⟩⟩)
       rw[TS.next,zh3] at hI2
       have hP:=hb.setNx f
       simp(disch:=((try simp only[zc,ze,zf]);omega)) [o3,o5,o4,o12,o15,on,r1,hn,hq,zF,hf,ht,c2,c3,o9,ot,m2,c4',htN,o8,oo,rc,c5]
       exact fin hP hI2 rfl rfl ⟨rfl,rfl,rfl⟩ (zdp _ _ _) hq
  ·have c1': ¬(f:Int)=n:=by omega
   have hP:=(h.box (.rows false 3 [[I 0,I 0,I 0]]) (.rows false 3 [[I f,I g.es[T.nx n].a,I g.es[T.nx n].t]])).setNx n
   have hI2:=hI.next (x:=T.low n) (e1.trans hw) hq (.inl ⟨rfl,fun t' hc=>by
    rw[hed] at hc
    split at hc
    ·cases hc;exact absurd rfl c1
    ·cases hc⟩)
   rw[TS.next,zh3] at hI2
   simp(disch:=((try simp only[zc,ze,zf]);omega)) [S0,o3,o12,o15,on,r1,hn,hq,zF,hf,c1']
   exact fin hP hI2 rfl rfl ⟨rfl,rfl,rfl⟩ (zdp _ _ _) hq
 ·simp(disch:=((try simp only[zc,ze,zf]);omega)) [S0,o3,o12,o15,on,r1,hn,hq]
  exact brk T y _ h hI e1 e2 e3 (by omega) (by simp[S0])
end Go.Ideal.S
namespace Go.Ideal.S
open Go Go.Ideal Q Classical
attribute [local simp] decide_eq_true decide_eq_false zH
attribute [local simp] c_a f_a r_a_1 r_a_2 r_a_3 r_a_4 r_a_5 r_a_6 r_a_7 r_a_8 r_a_9 zi2 zi1 zlv zlu zlt zls zlr zlq zlp zlo zln zlm zll zlk zlj zli zlh zlg zlf zle zld zlc zlb zla zk9 zk8 zi0 ziZ ziY ziX zk7 zk6 zk5 zk4 zk3 zk2 zk1 zk0 zkZ zkY zkX zkW zkV zkU zkT zkS zkR zkQ zkP zkO zkN zkM zkL zkK zkJ zkI zkH zkG ziW ziV ziU ziT zkF zkE zkD zkC ziS ziR ziQ ziP zkB c_h f_h r_h_1 r_h_2 r_h_3 r_h_4 r_h_5 r_h_6 r_h_7 r_h_9
variable {M:VM} {k kp:DV→VM→Prop} {n0:Nat}
theorem indexMs_ok (l:List Nat) {j:Nat} {rs:List (List DV)} (ho:M.obj j=some (.rows true 1 rs)) (hr:rs.take l.length=l.map fun v=>[I (v:Nat)]) (x:Nat) (hl:l.length≤1000000) (hk:k (I (idxI x (l.map fun v:Nat=>(v:Int)) 0)) M):zy F (.fn n_h [] []) [.ms j 0 l.length zo,I x] M k kp:=by
 apply zy.back
 refine .fn zet rfl (by simp[f_h]) ?_
 simp
 have hat: ∀i (hi:i<l.length),rs[i]? =some [I (l[i]:Nat)]:=fun i hi=>by
  have:=congrArg (fun r=>r[i]?) hr
  simp only[List.getElem?_take,hi,if_true,List.getElem?_map,List.getElem?_eq_getElem hi,Option.map_some] at this
  exact this
 refine .for (σ:=Unit) c_h_8.eq_1 (fun i _=>[(8,I i)]) (fun _=>M) (fun i _=>idxI x (l.map fun v:Nat=>(v:Int)) 0=idxI x ((l.drop i).map fun v:Nat=>(v:Int)) i) l.length () (by simp) rfl (by simp) (fun i y hi hP again=> ?_) (fun y hP=> ?_)
 ·rw[List.drop_eq_getElem_cons hi,List.map_cons,idxI] at hP
  have ha:=hat i hi
  by_cases hq:x=l[i]
  ·have hq':(x:Int)=(l[i]:Nat):=by rw[hq]
   rw[if_pos hq'] at hP
   rw[hP] at hk
   simp[hi,ho,ha,hq']
   exact Back.plain (by simp) (by repeat' (first|assumption|exact zt _ _|apply zu|apply zx|apply zA| ((try simp only[zc,ze,zf]);omega))) hk
  ·have hq': ¬(x:Int)=(l[i]:Nat):=by omega
   rw[if_neg hq'] at hP
   have again:=again () hP
   simp at again
   simp(disch:=((try simp only[zc,ze,zf]);omega)) [hi,ho,ha,hq']
   exact again
 ·rw[List.drop_of_length_le (Nat.le_refl _),List.map_nil,idxI] at hP
  rw[hP] at hk
  simp
  exact Back.plain (by simp) (by repeat' (first|assumption|exact zt _ _|apply zu|apply zx|apply zA| ((try simp only[zc,ze,zf]);omega))) hk
def unv (N:Nat) (T:TS):Nat:=(List.range N).countP fun v=>decide (T.met v=0)
structure GI (g:Gr) (mi:Nat) (w:Int) (N:Nat) (T:TS):Prop where
 inv:Inv g.es.length (edOf g mi w) T
 bit: ∀v,T.met v≠0→v<N∧mi.testBit v=true
 len:unv N T+T.op.length+T.many≤N
 wlen:unv N T+T.way.length≤N
 mlen:unv N T+T.m≤N
theorem cnt_lt {l:List Nat} {p q:Nat→Bool} (h: ∀x,q x=true→p x=true) {t:Nat} (ht:t∈l) (hp:p t=true) (hq:q t=false):l.countP q<l.countP p:=by
 induction l with
 |nil=>cases ht
 |cons a l ih=>
  have hle:l.countP q≤l.countP p:=List.countP_mono_left fun x _=>h x
  rw[List.countP_cons,List.countP_cons]
  rcases List.mem_cons.1 ht with rfl|ht
  ·rw[hp,hq];simp;omega
  ·have:=ih ht
   have h2:=h a
   cases e:q a with
   |true=>rw[h2 e];simp;omega
   |false=>simp;omega
theorem GI.enter {g:Gr} {mi:Nat} {w:Int} {N:Nat} {T:TS} (h:GI g mi w N T) {t:Nat} (h0:T.met t=0) (ht:t<N) (hb:mi.testBit t=true) (hp:T.way=[]∨ ∃l p,T.way=l++[p]∧EdAt g.es.length (edOf g mi w) (T.nx p) p t):GI g mi w N (T.enter t)∧unv N (T.enter t)<unv N T:=by
 have hu:unv N (T.enter t)<unv N T:=by
  refine cnt_lt (t:=t) (fun x hx=> ?_) (List.mem_range.2 ht) (by simp[h0]) (by simp[TS.enter,up1])
  have hx':up1 T.met t (T.m+1) x=0:=of_decide_eq_true hx
  by_cases e:x=t
  ·subst e;rw[zdp] at hx';omega
  ·rw[zf8 _ _ e] at hx';exact decide_eq_true hx'
 refine⟨⟨h.inv.enter h0 hp,fun v hv=> ?_,?_,?_,?_⟩,hu⟩
 ·simp only[TS.enter,up1] at hv
  split at hv
  ·subst v;exact⟨ht,hb⟩
  ·exact h.bit v hv
 ·have:=h.len;simp only[TS.enter,List.length_append,List.length_singleton];simp only[TS.enter] at hu;omega
 ·have:=h.wlen;simp only[TS.enter,List.length_append,List.length_singleton];simp only[TS.enter] at hu;omega
 ·have:=h.mlen;show unv N (T.enter t)+(T.m+1)≤N;omega
theorem GI.opN {g:Gr} {mi:Nat} {w:Int} {N:Nat} {T:TS} (h:GI g mi w N T) {v:Nat} (hv:v∈T.op):v<N:=(h.bit v ((h.inv.opi v).1 hv).1).1
theorem GI.same {g:Gr} {mi:Nat} {w:Int} {N:Nat} {T T1:TS} (h:GI g mi w N T) (hI:Inv g.es.length (edOf g mi w) T1) (e1:T1.way=T.way) (e2:T1.met=T.met) (e3:T1.op=T.op∧T1.many=T.many∧T1.m=T.m):GI g mi w N T1:=by
 have hu:unv N T1=unv N T:=by unfold unv;rw[e2]
 exact⟨hI,by rw[e2];exact h.bit,by rw[hu,e3.1,e3.2.1];exact h.len,by rw[hu,e1];exact h.wlen,by rw[hu,e3.2.2];exact h.mlen⟩
def muE (N:Nat) (T:TS):Nat:=2*(2*unv N T+T.way.length)
theorem muE_same {N:Nat} {T T1:TS} (e1:T1.way=T.way) (e2:T1.met=T.met):muE N T1=muE N T:=by unfold muE unv;rw[e1,e2]
abbrev LX:List (List Bool):=bs [3,4,5,8,9,10,11,12,13,14,15,16,153,154,155]
def pcE:CC:=.seq (.ops ziU) LS (.seq (.seq (.ops ziT) LX (.block 8 (.loop LX c_a_81))) LS (.seq (.ops ziS) LS (.ops ziR)))
def tlE:CC:=.seq (.ops ziQ) (bs [3,4,5,8,9,10,11,12,13,14,15,16,171]) (.cond (t 171) (.seq (.ops ziP) LS (.exit 3)) .skip)
theorem Stk.ms {Y:Nat} {y:VM} {d:DV} {l:List Nat} (h:Stk Y y d l) (hl:l≠[]): ∃j rs,d=.ms j 0 l.length zo∧Y≤j∧j<y.next∧y.obj j=some (.rows true 1 rs)∧l.length≤rs.length∧rs.take l.length=(l.map fun v=>[I (v:Nat)])∧ ∀i (hi:i<l.length),rs[i]? =some [I (l[i]:Nat)]:=by
 rcases h with⟨_,h⟩| ⟨j,rs,h1,h2,h3,h4,h5⟩
 ·exact absurd h hl
 ·refine⟨j,rs,h1,h2,h3,h4,?_,h5,fun i hi=> ?_⟩
  ·have:=congrArg List.length h5
   rw[List.length_take,List.length_map] at this;omega
  ·have:=congrArg (fun r=>r[i]?) h5
   simp only[List.getElem?_take,hi,if_true,List.getElem?_map,List.getElem?_eq_getElem hi,Option.map_some] at this
   exact this
def cmpI (T:TS) (l:List Nat) (i:Nat):Nat→Int:=fun v=>if v∈l.take i then(T.many:Int) else T.cmp v
theorem cmpI_succ {T:TS} {l:List Nat} {i:Nat} (hi:i<l.length):cmpI T l (i+1)=up1 (cmpI T l i) l[i] T.many:=by
 funext v
 unfold cmpI up1
 rw[List.take_succ_eq_append_getElem hi]
 by_cases h1:v=l[i]
 ·rw[if_pos h1,if_pos (by rw[h1];exact List.mem_append_right _ (by simp))]
 ·have:v∈l.take i++[l[i]]↔v∈l.take i:=by simp only[List.mem_append,List.mem_singleton,h1,or_false]
  simp only[this,h1,if_false]
theorem pc_ok {B:VM} {p:PJ} {g:Gr} {mi:Nat} {w:Int} {T:TS} {n:Nat} {i:Int} {dw dp:DV} {y:VM} {fr:FrC} {a b:List Nat} (h:PM B p g mi w T n i dw dp y) (hop:T.op=a++n::b) (hna:n∉a) (hlt: ∀v∈T.op,v<p.N) (hlen:T.op.length≤60) (hmany:T.many<1000000)
 (hk: ∀y' i' dp' s',PM B p g mi w {T with op:=a,cmp:=cmpI T (n::b) (n::b).length,many:=T.many+1} n i' dw dp' y'→zbh LS s'=S0 p→ @Nx (rD F n0) fr s' y'): @Cd (rD F n0) fr pcE (S0 p++[(bits 147,.bool true)]) y:=by
 have o11:=h.hold 8 _ rfl
 have o15:=h.hold 13 _ rfl
 have o16:=h.hold 14 _ rfl
 have hh:=h.ok.h
 have hnx:=h.nx
 obtain⟨jp,rs,e1,e2,e3,e4,e5,e6,e7⟩:=Stk.ms h.sp (by rw[hop];simp)
 subst e1
 have hix:idxI n (T.op.map fun v:Nat=>(v:Int)) 0=a.length:=by
  refine idxI_at (p:=a.length) (by rw[hop];simp) (by simp[hop]) fun q hq hh=>hna ?_
  simp only[hop,List.getElem_map] at hh
  rw[List.getElem_append_left hq] at hh
  have:a[q]=n:=by omega
  rw[←this];exact List.getElem_mem hq
 have hol:T.op.length=a.length+(b.length+1):=by rw[hop];simp
 simp[pcE,S0,o11,o15]
 refine indexMs_ok T.op e4 e6 n (by omega) ?_
 rw[hix]
 have f1:a.length≤T.op.length:=by omega
 have f2:T.op.length - a.length=b.length+1:=by omega
 have f3:(a.length:Int)≤T.op.length:=by omega
 simp(disch:=((try simp only[zc,ze,zf]);omega)) [o11,o16,e4,e5,f1,f2,f3]
 have hnl:(n::b).length=b.length+1:=by simp
 have hc0:cmpI T (n::b) 0=T.cmp:=by funext v;simp[cmpI]
 refine .for (σ:=VM) c_a_81.eq_1 (fun i _=>[(155,I i)]) (fun y=>y) (fun i y=>PM B p g mi w {T with cmp:=cmpI T (n::b) i} n a.length dw (.ms jp 0 T.op.length zo) y) (b.length+1) _ (by simp) rfl (by rw[hc0];exact h.setI a.length) (fun i y hi hP again=> ?_) (fun y hP=> ?_)
 ·have o8:=hP.hold 4 _ rfl
  have oo:=hP.hold 3 _ rfl
  have o14:=hP.hold 12 _ rfl
  have hnx:=hP.nx
  obtain⟨jp',rs',q1,q2,q3,q4,q5,q6,q7⟩:=Stk.ms hP.sp (by show T.op≠[];rw[hop];simp)
  cases q1
  have hi':i<(n::b).length:=by rw[hnl];exact hi
  have hx:T.op[a.length+i]'(by omega)=(n::b)[i]:=by
   simp only[hop]
   rw[List.getElem_append_right (by omega)]
   congr 1;omega
  have q8:=q7 (a.length+i) (by show a.length+i<T.op.length;omega)
  have hxN:(n::b)[i]<p.N:=by rw[←hx];exact hlt _ (List.getElem_mem _)
  have hP2:=hP.setCmp (n::b)[i] T.many
  rw[show T.op[a.length+i]'(by omega)=(n::b)[i] from hx] at q8
  generalize hxx:(n::b)[i]=x at*
  have again:=again (y.put p.jo (.rows false 1 ((R1 (cmpI T (n::b) i) p.N).set x [I T.many]))) (by rw[cmpI_succ hi',hxx];exact hP2)
  simp at again
  have rcx:=zcU (f:=cmpI T (n::b) i) hxN
  simp(disch:=((try simp only[zc,ze,zf]);omega)) [hi,q4,q5,q8,o8,oo,o14,hxN,rcx]
  exact again
 ·have hP1:=hP.popP (l:=a) (d':=.ms jp 0 a.length zo) (Stk.cut (n:=T.op.length) (l2:=n::b) (by rw[←hop];exact hP.sp)) (fun j hj hh=>hj fun a b c e=>by cases e;exact hh _ _ _ rfl)
  have hP2:=hP1.setMany
  have o11:=hP.hold 8 _ rfl
  have o16:=hP.hold 14 _ rfl
  have o14:=hP.hold 12 _ rfl
  have hnx:=hP.nx
  obtain⟨jp',rs',q1,q2,q3,q4,q5,q6,q7⟩:=Stk.ms hP.sp (by show T.op≠[];rw[hop];simp)
  cases q1
  have f4:a.length≤rs'.length:=by have:T.op.length≤rs'.length:=q5;omega
  simp(disch:=((try simp only[zc,ze,zf]);omega)) [o11,o16,o14,q4,f4]
  exact hk _ _ _ _ hP2 (by simp[S0])
end Go.Ideal.S
set_option maxHeartbeats 1000000
namespace Go.Ideal.S
open Go Go.Ideal Q Classical
attribute [local simp] decide_eq_true decide_eq_false zH
attribute [local simp] c_a f_a r_a_1 r_a_2 r_a_3 r_a_4 r_a_5 r_a_6 r_a_7 r_a_8 r_a_9 zi2 zi1 zlv zlu zlt zls zlr zlq zlp zlo zln zlm zll zlk zlj zli zlh zlg zlf zle zld zlc zlb zla zk9 zk8 zi0 ziZ ziY ziX zk7 zk6 zk5 zk4 zk3 zk2 zk1 zk0 zkZ zkY zkX zkW zkV zkU zkT zkS zkR zkQ zkP zkO zkN zkM zkL zkK zkJ zkI zkH zkG ziW ziV ziU ziT zkF zkE zkD zkC ziS ziR ziQ ziP zkB
variable {M:VM} {k kp:DV→VM→Prop} {n0:Nat}
theorem tl_ok {B:VM} {p:PJ} {g:Gr} {mi:Nat} {w:Int} {T:TS} {n:Int} {i:Int} {dw dp:DV} {y:VM} {K:KD} (h:PM B p g mi w T n i dw dp y) (hlen:T.way.length≤60)
 (h0:T.way=[]→ ∀s,K.nrm s y) (h1: ∀l (q:Nat) s y',T.way=l++[q]→PM B p g mi w T q i dw dp y'→zbh LS s=S0 p→K.ext 3 s y'): @Cd (rD F n0) (.base K) tlE (S0 p) y:=by
 have o10:=h.hold 7 _ rfl
 have o15:=h.hold 13 _ rfl
 have hh:=h.ok.h
 have hnx:=h.nx
 rcases List.eq_nil_or_concat T.way with hw| ⟨l,q,hw⟩
 ·have hsw:=h.sw
  rw[hw] at hsw
  have hz:lenD y dw=some 0:=by
   rcases hsw with⟨rfl,_⟩| ⟨j,rs,rfl,_⟩<;>rfl
  simp[tlE,S0,o10,hz]
  exact h0 hw _
 ·rw[List.concat_eq_append] at hw
  obtain⟨jw,rs,e1,e2,e3,e4,e5,e6,e7⟩:=Stk.ms h.sw (by rw[hw];simp)
  subst e1
  have hwl:T.way.length=l.length+1:=by rw[hw];simp
  have e8:=e7 l.length (by omega)
  have e9:T.way[l.length]'(by omega)=q:=by simp[hw]
  rw[e9] at e8
  have hl60:l.length<60:=by omega
  have hP:=h.setN q
  rw[hwl] at o10
  obtain⟨e10,e11⟩:=List.getElem?_eq_some_iff.1 e8
  simp(disch:=((try simp only[zc,ze,zf]);omega)) [tlE,S0,o10,o15,e4,e8,hwl,e11]
  refine h1 l q _ _ hw hP ?_
  simp[S0]
def restE:CC:=.seq (.ops ziW) LS (.seq (.seq (.draw ziV) (bs [3,4,5,8,9,10,11,12,13,14,15,16,147]) (.cond (t 147) pcE .skip)) LS tlE)
theorem e_eq2:zdE=.seq .skip LS (.seq (.block 4 (.loop LS zgN)) LS restE):=rfl
theorem rest_ok {B:VM} {p:PJ} {g:Gr} (hg:zbr g) {mi:Nat} {w:Int} (hN:g.st=p.N) {T1:TS} {n:Nat} {i:Int} {dw dp:DV} {y1:VM} {K:KD} {l:List Nat} (h1:PM B p g mi w T1 n i dw dp y1) (hG1:GI g mi w p.N T1) (hw1:T1.way=l++[n]) (hnN:n<p.N) (hE:T1.nx n=g.es.length)
 (h0: ∀T2 y s i dw dp,PM B p g mi w T2 n i dw dp y→GI g mi w p.N T2→T2.way=[]→T2.met=T1.met→K.nrm s y)
 (h2: ∀T2 l' (q:Nat) s y i dw dp,PM B p g mi w T2 q i dw dp y→GI g mi w p.N T2→T2.way=l'++[q]→T2.way=l→T2.met=T1.met→zbh LS s=S0 p→K.ext 3 s y): @Cd (rD F n0) (.base K) restE (S0 p) y1:=by
 have o9:=h1.hold 6 _ rfl
 have o10:=h1.hold 7 _ rfl
 have ot:=h1.hold 5 _ rfl
 have o15:=h1.hold 13 _ rfl
 have hh:=h1.ok.h
 have hnx:=h1.nx
 have h60:p.N≤60:=by have:=hg.s2;omega
 have m3:=R2_at (f:=fun v=>(T1.met v:Int)) (g:=fun v=>(T1.low v:Int)) hnN
 obtain⟨jw,rs,b1,b2,b3,b4,b5,b6,b7⟩:=Stk.ms h1.sw (by rw[hw1];simp)
 have hwl:T1.way.length=l.length+1:=by rw[hw1];simp
 rw[hwl] at b1 b5
 subst b1
 have hlen:l.length≤rs.length:=by omega
 have hl60:l.length<60:=by have:=hG1.wlen;omega
 have hpW:=h1.popW (l:=l) (d':=.ms jw 0 l.length zo) (Stk.pop (x:=n) (by rw[←hw1];exact h1.sw)) (fun j hj hh=>hj fun a b c e=>by cases e;exact hh _ _ _ rfl)
 have hno:=hG1.inv.way n (by rw[hw1];simp)
 by_cases hlow:T1.low n=T1.met n
 ·obtain⟨a,b,hop⟩:=List.append_of_mem hno
  have hso:=hG1.inv.opS
  rw[hop] at hso
  have hso2:=List.pairwise_append.1 hso
  have hna:n∉a:=fun hh=>by have:=hso2.2.2 n hh n (by simp);omega
  have hlow':(T1.low n:Int)=T1.met n:=by omega
  have hmem: ∀v,(v∈n::b↔v∈T1.op∧T1.met n≤T1.met v)∧(v∈a↔v∈T1.op∧T1.met v<T1.met n):=fun v=>by
   rw[hop]
   have q1:v∈a→T1.met v<T1.met n:=fun h=>hso2.2.2 v h n (by simp)
   have q2:v∈n::b→T1.met n≤T1.met v:=fun h=>by
    rcases List.mem_cons.1 h with rfl|h
    ·exact Nat.le_refl _
    ·exact Nat.le_of_lt ((List.pairwise_cons.1 hso2.2.1).1 v h)
   rw[List.mem_append]
   refine⟨⟨fun h=>⟨.inr h,q2 h⟩,fun h=>h.1.resolve_left fun h2=> ?_⟩,⟨fun h=>⟨.inl h,q1 h⟩,fun h=>h.1.resolve_right fun h2=> ?_⟩⟩
   ·have:=q1 h2;omega
   ·have:=q2 h2;omega
  have hol:T1.op.length=a.length+(b.length+1):=by rw[hop];simp
  have hI2:=hG1.inv.part (cmp:=cmpI (T1.pop l) (n::b) (n::b).length) (o2:=a) hw1 hE hlow (fun v=>(hmem v).2) (by rw[hop];exact List.sublist_append_left _ _) (fun v=>by
   unfold cmpI
   rw[List.take_length]
   have:=(hmem v).1
   by_cases hv:v∈n::b
   ·rw[if_pos hv,if_pos (this.1 hv)];rfl
   ·rw[if_neg hv,if_neg (fun h=>hv (this.2 h))];rfl)
  have hG2:GI g mi w p.N (T1.part l a (cmpI (T1.pop l) (n::b) (n::b).length)):=⟨hI2,hG1.bit,by have:=hG1.len;show unv p.N T1+a.length+(T1.many+1)≤p.N;omega,by have:=hG1.wlen;rw[hwl] at this;show unv p.N T1+l.length≤p.N;omega,hG1.mlen⟩
  simp(disch:=((try simp only[zc,ze,zf]);omega)) [restE,S0,o10,b4,hlen,o9,o15,ot,m3,hnN,hlow']
  refine pc_ok (T:=T1.pop l) hpW hop hna (fun v hv=>hG1.opN hv) (by have:=hG1.len;show T1.op.length≤60;omega) (by have:=hG1.len;show T1.many<1000000;omega) (fun y' i' dp' s' hP' hs'=> ?_)
  rw[Nx_sq,hs']
  refine tl_ok (T:=T1.part l a (cmpI (T1.pop l) (n::b) (n::b).length)) hP' (by show l.length≤60;omega) (fun hl s=> ?_) (fun l' q s y' hl hP' hs'=> ?_)
  ·exact h0 _ _ _ _ _ _ hP' hG2 hl rfl
  ·exact h2 _ l' q _ _ _ _ _ hP' hG2 hl rfl rfl hs'
 ·have hlow': ¬(T1.low n:Int)=T1.met n:=by omega
  have hI2:=hG1.inv.pop hw1 hE hlow
  have hG2:GI g mi w p.N (T1.pop l):=⟨hI2,hG1.bit,hG1.len,by have:=hG1.wlen;rw[hwl] at this;show unv p.N T1+l.length≤p.N;omega,hG1.mlen⟩
  simp(disch:=((try simp only[zc,ze,zf]);omega)) [restE,S0,o10,b4,hlen,o9,o15,ot,m3,hnN,hlow']
  refine tl_ok (T:=T1.pop l) hpW (by show l.length≤60;omega) (fun hl s=> ?_) (fun l' q s y' hl hP' hs'=> ?_)
  ·exact h0 _ _ _ _ _ _ hpW hG2 hl rfl
  ·exact h2 _ l' q _ _ _ _ _ hP' hG2 hl rfl rfl hs'
end Go.Ideal.S
namespace Go.Ideal.S
open Go Go.Ideal Q Classical
attribute [local simp] decide_eq_true decide_eq_false zH
attribute [local simp] c_a f_a r_a_1 r_a_2 r_a_3 r_a_4 r_a_5 r_a_6 r_a_7 r_a_8 r_a_9 zi2 zi1 zlv zlu zlt zls zlr zlq zlp zlo zln zlm zll zlk zlj zli zlh zlg zlf zle zld zlc zlb zla zk9 zk8 zi0 ziZ ziY ziX zk7 zk6 zk5 zk4 zk3 zk2 zk1 zk0 zkZ zkY zkX zkW zkV zkU zkT zkS zkR zkQ zkP zkO zkN zkM zkL zkK zkJ zkI zkH zkG ziW ziV ziU ziT zkF zkE zkD zkC ziS ziR ziQ ziP zkB
variable {M:VM} {k kp:DV→VM→Prop} {n0:Nat}
def enE (eW:CC):CC:=.seq (.ops zi0) LS (.seq (.ops ziZ) LS (.seq (.ops ziY) LS (.seq (.ops ziX) LS eW)))
theorem d_eq:zD=.seq .skip LS (enE zdE):=rfl
theorem Stk.cell {Y:Nat} {y:VM} {d:DV} {l:List Nat} (h:Stk Y y d l):zS d=[d]∧zL d=true:=by
 rcases h with⟨rfl,_⟩| ⟨j,rs,rfl,_⟩<;>exact⟨rfl,rfl⟩
theorem enter_ok {B:VM} {p:PJ} {g:Gr} {mi:Nat} {w:Int} {T:TS} {t:Nat} {i:Int} {dw dp:DV} {y:VM} {K:KD} {eW:CC} (h60:p.N≤60) (h:PM B p g mi w T t i dw dp y) (hG:GI g mi w p.N T) (ht:t<p.N)
 (hk: ∀y' dw' dp',PM B p g mi w (T.enter t) t i dw' dp' y'→ @Cd (rD F n0) (.base K) eW (S0 p) y'): @Cd (rD F n0) (.base K) (enE eW) (S0 p) y:=by
 have o9:=h.hold 6 _ rfl
 have o10:=h.hold 7 _ rfl
 have o11:=h.hold 8 _ rfl
 have ot:=h.hold 5 _ rfl
 have o13:=h.hold 11 _ rfl
 have o15:=h.hold 13 _ rfl
 have hh:=h.ok.h
 have hnx:=h.nx
 have hml:T.m<1000000:=by have:=hG.mlen;omega
 have hwl:T.way.length≤1000000:=by have:=hG.wlen;omega
 have hpl:T.op.length≤1000000:=by have:=hG.len;omega
 have m3:=R2_at (f:=fun v=>(T.met v:Int)) (g:=fun v=>(T.low v:Int)) ht
 have hP1:=h.setM.setMet t (T.m+1)
 have hc:((T.m+1:Nat):Int)=(T.m:Int)+1:=by simp
 rw[hc] at hP1
 simp(disch:=((try simp only[zc,ze,zf]);omega)) [enE,S0,o13,o9,ot,o15,ht,m3,o10]
 generalize hy2:(y.put p.j13 (intO ((T.m:Int)+1))).put p.jt (.rows false 2 ((R2 (fun v=>(T.met v:Int)) (fun v=>(T.low v:Int)) p.N).set t [I ((T.m:Int)+1),I ((T.m:Int)+1)]))=y2 at hP1⊢
 have hn2:y2.next=y.next+1+1:=by rw[←hy2];simp
 rw[←hn2]
 generalize hy3:y2.new (.rows false 1 [[I (t:Int)]])=y3 at*
 have hP3:=hP1.frame (y':=y3) (by rw[←hy3];exact zx (zt _ _) (Nat.le_refl _)) (by rw[←hy3];simp)
 have hb3:y3.obj y2.next=some (.rows false 1 [[I (t:Int)]]):=by rw[←hy3];simp
 refine Rs_push hP3.sw hwl hP3.nx hb3 (fun d' y4 q1 q2 q3 q4 q5=> ?_)
 obtain⟨-,r2,r3⟩:=hP3.mid q2 q3
 have o10':=r3 7 _ rfl
 have o11':=r3 8 _ rfl
 have o15':=r3 13 _ rfl
 obtain⟨hcl,his⟩:=Stk.cell q1
 have hP5:=hP3.pushW q1 q2 q3 q4 q5
 clear hb3 o9 o10 o11 ot o13 o15 m3 hP3 hP1 h q1 q2 q3 q4 q5 r3
 simp(disch:=((try simp only[zc,ze,zf]);omega)) [S0,o10',o11',o15',hcl,his]
 generalize hy5:y4.put p.j10 (.rows false 1 [[d']])=y5 at hP5⊢
 have hn5:y5.next=y4.next+1:=by rw[←hy5];simp
 rw[←hn5]
 generalize hy6:y5.new (.rows false 1 [[I (t:Int)]])=y6 at*
 have hP6:=hP5.frame (y':=y6) (by rw[←hy6];exact zx (zt _ _) (Nat.le_refl _)) (by rw[←hy6];simp)
 have hb6:y6.obj y5.next=some (.rows false 1 [[I (t:Int)]]):=by rw[←hy6];simp
 refine Rs_push hP6.sp hpl hP6.nx hb6 (fun d2 y7 q1 q2 q3 q4 q5=> ?_)
 obtain⟨-,s2,s3⟩:=hP6.mid q2 q3
 have o11'':=s3 8 _ rfl
 obtain⟨hcl2,his2⟩:=Stk.cell q1
 have hP7:=hP6.pushP q1 q2 q3 q4 q5
 have:=hk _ _ _ hP7
 simp[S0,o11'',hcl2,his2]
 exact this
theorem along_ok {B:VM} {p:PJ} {g:Gr} (hg:zbr g) {mi:Nat} (hmi:mi<2^64) {w:Int} (hN:g.st=p.N) {m0:Nat→Prop} {K:KD}
 (hK: ∀T y s (n:Nat) i dw dp,PM B p g mi w T n i dw dp y→GI g mi w p.N T→T.way=[]→(∀v,m0 v→T.met v≠0)→K.nrm s y): ∀T y (n:Nat) l i dw dp,PM B p g mi w T n i dw dp y→GI g mi w p.N T→T.way=l++[n]→(∀v,m0 v→T.met v≠0)→
   (∀T2 y s (q:Nat) l' i dw dp,PM B p g mi w T2 q i dw dp y→GI g mi w p.N T2→T2.way=l'++[q]→T2.way=l→T2.met=T.met→zbh LS s=S0 p→zcu F n0 zdE 0 zD 1 zdE K s y)→
   (∀T2 y s (t:Nat) i dw dp,PM B p g mi w T2 t i dw dp y→GI g mi w p.N T2→T2.way=T.way→T2.met=T.met→T2.met t=0→t<p.N→mi.testBit t=true→EdAt g.es.length (edOf g mi w) (T2.nx n) n t→zbh LS s=S0 p→zcu F n0 zD 0 zD 1 zdE K s y)→
   @Cd (rD F n0) (.base (ScK F n0 zD zdE K)) (.seq (.block 4 (.loop LS zgN)) LS restE) (S0 p) y:=by
 intro T y n l i dw dp h hG hw hm kA kE
 have hnN:n<p.N:=hG.opN (hG.inv.way n (by rw[hw];simp))
 simp[S0]
 refine inner_ok hg hmi hN h hG.inv hw hnN (fun T1 y1 s1 h1 hI1 e1 e2 e3 hE hs1=> ?_) (fun T1 y1 s1 t h1 hI1 e1 e2 e3 h0 hed htN hs1=> ?_)
 ·subst hs1
  simp[S0]
  exact rest_ok hg hN h1 (hG.same hI1 e1 e2 e3) (e1.trans hw) hnN hE (fun T2 y s i dw dp a b c d=>hK _ _ _ _ _ _ _ a b c fun v hv=>by rw[d,e2];exact hm v hv) (fun T2 l' q s y i dw dp a b c d e f=>kA T2 y s q l' i dw dp a b c d (e.trans e2) f)
 ·have hb:mi.testBit t=true:=by
   obtain⟨x1,x2⟩:=hed
   rw[edOf_at x1] at x2
   split at x2
   ·rename_i hc
    rw[Option.some.injEq,Prod.mk.injEq] at x2
    rw[←x2.2];exact hc.2
   ·cases x2
  simp
  exact kE T1 y1 s1 t i dw dp h1 (hG.same hI1 e1 e2 e3) e1 e2 h0 htN hb hed hs1
theorem search_ok {B:VM} {p:PJ} {g:Gr} (hg:zbr g) {mi:Nat} (hmi:mi<2^64) {w:Int} (hN:g.st=p.N) {m0:Nat→Prop} {K:KD}
 (hK: ∀T y s (n:Nat) i dw dp,PM B p g mi w T n i dw dp y→GI g mi w p.N T→T.way=[]→(∀v,m0 v→T.met v≠0)→K.nrm s y): ∀μ,
 (∀T y s (n:Nat) l i dw dp,muE p.N T+1<μ→PM B p g mi w T n i dw dp y→GI g mi w p.N T→T.way=l++[n]→(∀v,m0 v→T.met v≠0)→zbh LS s=S0 p→zcu F n0 zdE 0 zD 1 zdE K s y)∧
 (∀T y s (t:Nat) i dw dp,muE p.N T<μ→PM B p g mi w T t i dw dp y→GI g mi w p.N T→T.met t=0→t<p.N→mi.testBit t=true→(T.way=[]∨ ∃l p,T.way=l++[p]∧EdAt g.es.length (edOf g mi w) (T.nx p) p t)→(∀v,m0 v→v≠t→T.met v≠0)→zbh LS s=S0 p→zcu F n0 zD 0 zD 1 zdE K s y):=by
 have h60:p.N≤60:=by have:=hg.s2;omega
 have along:=along_ok (n0:=n0) hg hmi hN hK
 intro μ
 induction μ with
 |zero=>exact⟨fun _ _ _ _ _ _ _ _ h=>by omega,fun _ _ _ _ _ _ _ h=>by omega⟩
 |succ μ ih=>
  obtain⟨ihA,ihE⟩:=ih
  have goA: ∀T y (n:Nat) l i dw dp,muE p.N T+1<μ+1→PM B p g mi w T n i dw dp y→GI g mi w p.N T→T.way=l++[n]→(∀v,m0 v→T.met v≠0)→ @Cd (rD F n0) (.base (ScK F n0 zD zdE K)) (.seq (.block 4 (.loop LS zgN)) LS restE) (S0 p) y:=by
   intro T y n l i dw dp hμ h hG hw hm
   refine along T y n l i dw dp h hG hw hm (fun T2 y s q l' i dw dp a b c d e f=> ?_) (fun T2 y s t i dw dp a b c d e f f2 f3 f4=> ?_)
   ·refine ihA T2 y s q l' i dw dp ?_ a b c (fun v hv=>by rw[e];exact hm v hv) f
    have x1:muE p.N T=2*(2*unv p.N T+(l.length+1)):=by unfold muE;rw[hw];simp
    have x2:muE p.N T2=2*(2*unv p.N T+l.length):=by unfold muE unv;rw[d,e]
    omega
   ·exact ihE T2 y s t i dw dp (by rw[muE_same c d];omega) a b e f f2 (.inr ⟨l,n,c.trans hw,f3⟩) (fun v hv _=>by rw[d];exact hm v hv) f4
  refine⟨fun T y s n l i dw dp hμ h hG hw hm hs=> ?_,fun T y s t i dw dp hμ h hG h0 ht hb hp hm hs=> ?_⟩
  ·exact .skip e_eq2 hs (goA T y n l i dw dp hμ h hG hw hm)
  ·refine .skip d_eq hs (enter_ok h60 h hG ht fun y' dw' dp' h'=> ?_)
   obtain⟨hG2,hu⟩:=hG.enter h0 ht hb hp
   have hm2: ∀v,m0 v→(T.enter t).met v≠0:=fun v hv=>by
    show up1 T.met t (T.m+1) v≠0
    by_cases e:v=t
    ·rw[e,zdp];omega
    ·rw[zf8 _ _ e];exact hm v hv e
   have hμ2:muE p.N (T.enter t)+1<μ+1:=by
    have x1:(T.enter t).way.length=T.way.length+1:=by simp[TS.enter]
    unfold muE at hμ⊢
    omega
   have:=goA (T.enter t) y' t T.way i dw' dp' hμ2 h' hG2 rfl hm2
   show @Cd (rD F n0) (.base _) zdE (S0 p) y'
   rw[e_eq2]
   have hk0:zbh LS (S0 p)=S0 p:=by simp[S0]
   show @Cd (rD F n0) (.base _) (.seq (.block 4 (.loop LS zgN)) LS restE) (zbh LS (S0 p)) y'
   rw[hk0]
   exact this
theorem start_ok {B:VM} {p:PJ} {g:Gr} (hg:zbr g) {mi:Nat} (hmi:mi<2^64) {w:Int} (hN:g.st=p.N) {m0:Nat→Prop} {K:KD}
 (hK: ∀T y s (n:Nat) i dw dp,PM B p g mi w T n i dw dp y→GI g mi w p.N T→T.way=[]→(∀v,m0 v→T.met v≠0)→K.nrm s y) {T:TS} {y:VM} {t:Nat} {i:Int} {dw dp:DV} (h:PM B p g mi w T t i dw dp y) (hG:GI g mi w p.N T) (h0:T.met t=0) (ht:t<p.N) (hb:mi.testBit t=true) (hw:T.way=[]) (hm: ∀v,m0 v→v≠t→T.met v≠0):
 @Cd (rD F n0) (.base (ScK F n0 zD zdE K)) zD (S0 p) y:=by
 have h60:p.N≤60:=by have:=hg.s2;omega
 have hk0:zbh LS (S0 p)=S0 p:=by simp[S0]
 rw[d_eq]
 show @Cd (rD F n0) (.base _) (enE zdE) (zbh LS (S0 p)) y
 rw[hk0]
 refine enter_ok h60 h hG ht fun y' dw' dp' h'=> ?_
 obtain⟨hG2,hu⟩:=hG.enter h0 ht hb (.inl hw)
 have hm2: ∀v,m0 v→(T.enter t).met v≠0:=fun v hv=>by
  show up1 T.met t (T.m+1) v≠0
  by_cases e:v=t
  ·rw[e,zdp];omega
  ·rw[zf8 _ _ e];exact hm v hv e
 rw[e_eq2]
 show @Cd (rD F n0) (.base _) (.seq (.block 4 (.loop LS zgN)) LS restE) (zbh LS (S0 p)) y'
 rw[hk0]
 refine along_ok hg hmi hN hK (T.enter t) y' t T.way i dw' dp' h' hG2 rfl hm2 (fun T2 y s q l' i dw dp a b c d e f=> ?_) (fun T2 y s t2 i dw dp a b c d e f f2 f3 f4=> ?_)
 ·exact(search_ok hg hmi hN hK (muE p.N T2+2)).1 T2 y s q l' i dw dp (by omega) a b c (fun v hv=>by rw[e];exact hm2 v hv) f
 ·exact(search_ok hg hmi hN hK (muE p.N T2+2)).2 T2 y s t2 i dw dp (by omega) a b e f f2 (.inr ⟨T.way,t,c,f3⟩) (fun v hv _=>by rw[d];exact hm2 v hv) f4
end Go.Ideal.S
namespace Go.Ideal.S
open Go Go.Ideal Q Classical
attribute [local simp] decide_eq_true decide_eq_false zH
attribute [local simp] c_a f_a r_a_1 r_a_2 r_a_3 r_a_4 r_a_5 r_a_6 r_a_7 r_a_8 r_a_9 zi2 zi1 zlv zlu zlt zls zlr zlq zlp zlo zln zlm zll zlk zlj zli zlh zlg zlf zle zld zlc zlb zla zk9 zk8 zi0 ziZ ziY ziX zk7 zk6 zk5 zk4 zk3 zk2 zk1 zk0 zkZ zkY zkX zkW zkV zkU zkT zkS zkR zkQ zkP zkO zkN zkM zkL zkK zkJ zkI zkH zkG ziW ziV ziU ziT zkF zkE zkD zkC ziS ziR ziQ ziP zkB
variable {M:VM} {k kp:DV→VM→Prop} {n0:Nat}
def RIn (g:Gr) (mi:Nat) (w:Int) (a b:Nat):Prop:=RTo g.es.length (edOf g mi w) a b
structure zj0 (g:Gr) (mi:Nat) (w:Int) (N:Nat) (cmp:Nat→Int) (many:Nat):Prop where
 out: ∀v,mi.testBit v=false→cmp v= -1
 ins: ∀v,mi.testBit v=true→0≤cmp v∧cmp v<many
 eq: ∀a b,mi.testBit a=true→mi.testBit b=true→(cmp a=cmp b↔Star (RIn g mi w) a b∧Star (RIn g mi w) b a)
 le:many≤N
theorem parts_of {g:Gr} {mi:Nat} {w:Int} {N:Nat} {T:TS} (h:GI g mi w N T) (hw:T.way=[]) (hm: ∀v,mi.testBit v=true→T.met v≠0):zj0 g mi w N T.cmp T.many:=by
 have ho:=h.inv.op_nil hw
 have hc: ∀v,mi.testBit v=true→T.cmp v≠ -1:=fun v hv e=>by
  have:=(h.inv.opi v).2 ⟨hm v hv,e⟩
  rw[ho] at this;cases this
 refine⟨fun v hv=>Classical.byContradiction fun e=> ?_,fun v hv=>(h.inv.cv v (hc v hv)).2,fun a b ha hb=>h.inv.eq a b (hc a ha) (hc b hb),by have:=h.len;omega⟩
 have:=(h.bit v (h.inv.cv v e).1).2
 rw[hv] at this;cases this
theorem c_eq:c_a_86=.seq (.seq (.ops zi2) (bs [3,4,5,8,9,10,11,12,13,14,15,16,17,42]) (.cond (t 42) (.exit 2) .skip)) (bs [3,4,5,8,9,10,11,12,13,14,15,16,17]) (.seq (.ops zi1) LS zD):=rfl
theorem parts_ok {g:Gr} (hg:zbr g) {mi:Nat} (hmi:mi<2^64) {w:Int} {N:Nat} (hN:g.st=N) (hin: ∀v,mi.testBit v=true→v<N)
 (hk: ∀M' j cmp many,SM M.next M M'→M.next≤j→j<M'.next→M'.obj j=some (.rows false 1 (R1 cmp N))→zj0 g mi w N cmp many→k (.tup [.ms j 0 N N,I many]) M'):zy F (.fn n_a [] []) [.agg (eGr g),setD mi,I w] M k kp:=by
 have h1N:1≤N:=by have:=hg.s1;omega
 have hN60:N≤60:=by have:=hg.s2;omega
 refine .fn zhl rfl (by simp[f_a]) ?_
 simp(disch:=((try simp only[zc,ze,zf]);omega)) [eGr,hN]
 refine repeat_ok (-1) N _ h1N (by omega) (by simp) (by simp) fun M1 jo q1 q2 q3 q4=> ?_
 have o3:=zR (j:=M.next) q1 (by simp;omega) (o:=grO g) (by simp(disch:=((try simp only[zc,ze]);omega)) [hN])
 have o4:=zR (j:=M.next+1) q1 (by simp<;>omega) (o:=setO mi) (by simp(disch:=((try simp only[zc,ze]);omega)))
 have o5:=zR (j:=M.next+1+1) q1 (by simp<;>omega) (o:=intO w) (by simp(disch:=((try simp only[zc,ze]);omega)))
 have hs0:SM M.next M M1:=fun j hj=>(q1 j (by simp;omega)).trans ((show SM M.next M ((((M.new _).new _).new _).new _) from(by repeat' (first|assumption|exact zt _ _|apply zu|apply zx|apply zA| ((try simp only[zc,ze,zf]);omega)))) j hj)
 simp at q1 q2
 clear q1
 have f1:N*16≤1073741824∧N≤1073741824:=by omega
 have f2:N*8≤1073741824∧N≤1073741824:=by omega
 simp(disch:=((try simp only[zc,ze,zf]);omega)) [o3,hN,q4,f1,f2,o4]
 have hr1:R1 (fun _=> -1) N=List.replicate N [I (-1)]:=by unfold R1;rw[List.map_const',List.length_range]
 have hr0:R1 (fun _=>((0:Nat):Int)) N=List.replicate N [I 0]:=by unfold R1;rw[List.map_const',List.length_range];rfl
 have hr2:R2 (fun _=>((0:Nat):Int)) (fun _=>((0:Nat):Int)) N=List.replicate N [I 0,I 0]:=by unfold R2;rw[List.map_const',List.length_range];rfl
 let p0:PJ:=⟨M.next,M.next+1,M.next+1+1,jo,M1.next,M1.next+1+1,M1.next+1+1+1,M1.next+1+1+1+1+1,M1.next+1+1+1+1+1+1,M1.next+1+1+1+1+1+1+1,M1.next+1+1+1+1+1+1+1+1,M1.next+1+1+1+1+1+1+1+1+1+1,M1.next+1+1+1+1+1+1+1+1+1+1+1,M1.next+1+1+1+1+1+1+1+1+1+1+1+1+1+1,M1.next+1+1+1+1+1+1+1+1+1+1+1+1+1+1+1,0,N,[]⟩
 refine zy.gen (Q:=fun y=>SM M.next M y∧y.next=M1.next+1+1+1+1+1+1+1+1+1+1+1+1+1+1+1+1∧ ∀x∈p0.L g mi w TS.nil 0 0 .nilS .nilS,y.obj x.1=some x.2) ⟨(by repeat' (first|assumption|exact zt _ _|apply zu|apply zx|apply zA| ((try simp only[zc,ze,zf]);omega))),by simp,?_⟩ fun y0 hy0=> ?_
 ·show∀x∈PJ.L p0 g mi w TS.nil 0 0 .nilS .nilS,_
  simp only[PJ.L,TS.nil,p0,List.forall_mem_cons,List.not_mem_nil,false_implies,implies_true,and_true,hr1,hr0,hr2]
  refine⟨?_,?_,?_,?_,?_,?_,?_,?_,?_,?_,?_,?_,?_,?_,?_⟩<;>simp(disch:=((try simp only[zc,ze,zf]);omega)) [o3,o4,o5,q4]
 obtain⟨hs1,hn1,hob⟩:=hy0
 refine all_ok mi fun M2 j1 a1 a2 a3 a4=> ?_
 simp
 have hl:M2.next<(M2.new (.loop .ready none (S0 p0) ⟨0,LS,[bits 36],zhM,zN⟩)).next:=by simp
 have ol:(M2.new (.loop .ready none (S0 p0) ⟨0,LS,[bits 36],zhM,zN⟩)).obj M2.next=some (.loop .ready none (S0 p0) ⟨0,LS,[bits 36],zhM,zN⟩):=by simp
 show zy F _ [.yld M2.next] (M2.new (.loop .ready none (S0 p0) ⟨0,LS,[bits 36],zhM,zN⟩)) _ _
 generalize hrc:RC.mk 0 LS [bits 36] zhM zN=rc at*
 have has:rc.as=zhM:=by rw[←hrc]
 have hb:rc.b=zN:=by rw[←hrc]
 have hps:rc.ps=[bits 36]:=by rw[←hrc]
 have hL:rc.L=LS:=by rw[←hrc]
 clear hrc
 have hok:PJ.Ok {p0 with Y:=M2.next+1,ex:=[(M2.next,.loop .ready none (S0 p0) rc),(j1,setO mi)]} M.next:=⟨by simp[p0];omega⟩
 have hP0:PM M {p0 with Y:=M2.next+1,ex:=[(M2.next,.loop .ready none (S0 p0) rc),(j1,setO mi)]} g mi w TS.nil (0:Nat) 0 .nilS .nilS (M2.new (.loop .ready none (S0 p0) rc)):=by
  refine⟨hok,?_,by simp,fun kk x hx=> ?_,.inl ⟨rfl,rfl⟩,.inl ⟨rfl,rfl⟩,fun j hj a b c e=>(by cases e),fun x hx=> ?_⟩
  ·exact zx (fun j hj=>(a1 j (by omega)).trans (hs1 j hj)) (by omega)
  ·have hx2:=hob x (List.mem_of_getElem? hx)
   have hlt:x.1<y0.next:=by
    have:x.1≤p0.j16:=(PJ.L_lt hok x (List.mem_of_getElem? hx)).2.2
    simp[p0] at this
    omega
   rw[zjc _ (by omega),←hx2]
   show(M2.get x.1).map _=(y0.get x.1).map _
   rw[a1 _ hlt]
  ·simp at hx
   rcases hx with rfl|rfl
   ·exact⟨ol,by simp[p0];omega,by simp⟩
   ·exact⟨by rw[zjc _ a3];exact a4,by simp[p0];omega,by simp;omega⟩
 clear hob ol hl a1 hs1 q4 o3 o4 o5 hs0
 have hl1:M2.next≠j1:=by omega
 have hj1:p0.j16<j1:=by simp[p0];omega
 have hj2:p0.j16<M2.next:=by simp[p0];omega
 have hpN:p0.N=N:=rfl
 have hp8:p0.j8=M1.next:=rfl
 have hp14:p0.j14=M1.next+1+1+1+1+1+1+1+1+1+1+1:=rfl
 have hpo:p0.jo=jo:=rfl
 clear_value p0
 generalize M2.new (.loop .ready none (S0 p0) rc)=y1 at*
 refine all1_ok mi hmi M2.next j1 (fun i y=> ∃T,∃n:Nat,∃ii dw dp,PM M {p0 with Y:=M2.next+1,ex:=[(M2.next,.loop .ready none (S0 p0) rc),(j1,setO mi)]} g mi w T n ii dw dp y∧GI g mi w N T∧T.way=[]∧ ∀v,v<i→mi.testBit v=true→T.met v≠0) (fun _=>False)
  ⟨TS.nil,0,0,.nilS,.nilS,hP0,⟨Inv.nil _ _,fun v hv=>absurd rfl hv,?_,?_,?_⟩,rfl,fun v hv=>by omega⟩ (fun i y hP=> ?_) (fun i y y' hi hP s1 s2 hne=> ?_) (fun i y y' hi hP s1 s2 he {k kp} b1 b2=> ?_) (fun y hP=> ?_) (fun y hR=>hR.elim)
 ·show unv N TS.nil+0+0≤N
  have:=List.countP_le_length (p:=fun v=>decide (TS.nil.met v=0)) (l:=List.range N)
  rw[List.length_range] at this;unfold unv;omega
 ·show unv N TS.nil+0≤N
  have:=List.countP_le_length (p:=fun v=>decide (TS.nil.met v=0)) (l:=List.range N)
  rw[List.length_range] at this;unfold unv;omega
 ·show unv N TS.nil+0≤N
  have:=List.countP_le_length (p:=fun v=>decide (TS.nil.met v=0)) (l:=List.range N)
  rw[List.length_range] at this;unfold unv;omega
 ·obtain⟨T,n,ii,dw,dp,h,_⟩:=hP
  obtain⟨x1,x2,x3⟩:=h.xs (j1,setO mi) (by simp)
  have:=h.nx
  exact⟨x1,by simp at x3 this;omega⟩
 ·obtain⟨T,n,ii,dw,dp,h,h2,h3,h4⟩:=hP
  exact⟨T,n,ii,dw,dp,h.frame s1 s2,h2,h3,fun v hv hb=>by
   by_cases e:v=i
   ·subst e;rw[hne] at hb;cases hb
   ·exact h4 v (by omega) hb⟩
 ·obtain⟨T,n,ii,dw,dp,h,h2,h3,h4⟩:=hP
  have h:=h.frame s1 s2
  have rl:=(h.xs (M2.next,.loop .ready none (S0 p0) rc) (by simp)).1
  refine .round rl (s:=(bits 36,I i)::S0 p0) (by rw[hps,hL];simp[S0]) ?_
  rw[has]
  simp[zhM,S0]
  refine AsK_nrm rl ?_
  rw[hb]
  have hB:=h.setEx (j:=M2.next) (.loop .busy none (S0 p0) rc) (ex:=[(M2.next,.loop .busy none (S0 p0) rc),(j1,setO mi)]) ⟨hj2,Nat.lt_succ_self _⟩ (fun x hx=>by
   simp at hx
   rcases hx with rfl|rfl
   ·exact .inl rfl
   ·exact .inr ⟨fun e=>hl1 e.symm,by simp⟩)
  generalize y'.put M2.next (.loop .busy none (S0 p0) rc)=y2 at*
  have hiN:=hin i he
  have o9:=hB.hold 6 _ rfl
  have ot:=hB.hold 5 _ rfl
  have o15:=hB.hold 13 _ rfl
  have hh:=hB.ok.h
  have hnx2:=hB.nx
  have m2:=R2_at (f:=fun v=>(T.met v:Int)) (g:=fun v=>(T.low v:Int)) hiN
  have back: ∀{T2:TS} {n2:Nat} {i2:Int} {dw2 dp2:DV} {y3:VM},PM M {p0 with Y:=M2.next+1,ex:=[(M2.next,.loop .busy none (S0 p0) rc),(j1,setO mi)]} g mi w T2 n2 i2 dw2 dp2 y3→GI g mi w N T2→T2.way=[]→(∀v,(v<i+1∧mi.testBit v=true)→T2.met v≠0)→finD M2.next k none y3:=by
   intro T2 n2 i2 dw2 dp2 y3 a b c d
   have hb3:=(a.xs (M2.next,.loop .busy none (S0 p0) rc) (by simp)).1
   refine ze4 (st:=.busy) (pd:=none) (sl:=S0 p0) (rc:=rc) hb3 ?_
   refine b1 _ ⟨T2,n2,i2,dw2,dp2,a.setEx (j:=M2.next) (.loop .ready none (S0 p0) rc) (ex:=[(M2.next,.loop .ready none (S0 p0) rc),(j1,setO mi)]) ⟨hj2,Nat.lt_succ_self _⟩ (fun x hx=> ?_),b,c,fun v hv hb=>d v ⟨hv,hb⟩⟩
   simp at hx
   rcases hx with rfl|rfl
   ·exact .inl rfl
   ·exact .inr ⟨fun e=>hl1 e.symm,by simp⟩
  subst hpN
  simp[zN]
  refine zcu.go c_eq ?_
  by_cases c:T.met i=0
  ·have c': ¬(0:Int)<(T.met i:Int):=by omega
   have hN2:=hB.setN i
   simp(disch:=((try simp only[zc,ze,zf]);omega)) [o9,ot,m2,c',hiN,o15]
   refine start_ok (p:={p0 with Y:=M2.next+1,ex:=[(M2.next,.loop .busy none (S0 p0) rc),(j1,setO mi)]}) hg hmi hN (m0:=fun v=>v<i+1∧mi.testBit v=true) (fun T2 y3 s3 n2 i2 dw2 dp2 a b cc d=> ?_) hN2 h2 c hiN he h3 (fun v hv hne=>h4 v (by omega) hv.2)
   simp
   exact back a b cc d
  ·have c':(0:Int)<(T.met i:Int):=by omega
   simp(disch:=((try simp only[zc,ze,zf]);omega)) [o9,ot,m2,c',hiN]
   exact back hB h2 h3 fun v hv=>by
    by_cases e:v=i
    ·rw[e];exact c
    ·exact h4 v (by omega) hv.2
 ·obtain⟨T,n,ii,dw,dp,h,h2,h3,h4⟩:=hP
  have rl:=(h.xs (M2.next,.loop .ready none (S0 p0) rc) (by simp)).1
  refine zgh rl ?_
  have o8:=h.hold 4 _ rfl
  have oo:=h.hold 3 _ rfl
  have o14:=h.hold 12 _ rfl
  have hh:=h.ok.h
  have hnx2:=h.nx
  have hsm:=h.sm
  subst hpN
  subst hpo
  rw[show({p0 with Y:=M2.next+1,ex:=[(M2.next,.loop .ready none (S0 p0) rc),(j1,setO mi)]}:PJ).j8=M1.next from hp8] at o8
  rw[show({p0 with Y:=M2.next+1,ex:=[(M2.next,.loop .ready none (S0 p0) rc),(j1,setO mi)]}:PJ).j14=_ from hp14] at o14
  simp(disch:=((try simp only[zc,ze,zf]);omega)) [o8,o14]
  refine hk _ p0.jo T.cmp T.many ?_ ?_ ?_ ?_ (parts_of h2 h3 fun v hv=>h4 v (by have:=hin v hv;omega) hv)
  ·dsimp only at hh
   exact zu hsm (by omega)
  ·dsimp only at hh
   omega
  ·dsimp only at hh hnx2
   simp;omega
  ·dsimp only at hh
   rw[z7,if_neg (by omega)];exact oo
end Go.Ideal.S
namespace Go.Ideal.S
open Go Go.Ideal Q Classical
attribute [local simp] decide_eq_true decide_eq_false zH
variable {M:VM} {k kp:DV→VM→Prop} {n0:Nat}
theorem Back.ms {M M2:VM} {j n cap s:Nat} {op:Bool} {rs:List (List DV)} (ho:M2.obj j=some (.rows op s rs)) (hn:n=rs.length) (hr: ∀r∈rs,r.length=s) (hj:M.next≤j) (hs:SM M.next M M2) (hb: ∀r∈rs,∀x∈r,zJ M.next x) (hk:k (.lst s rs) M):Back k M (.ms j 0 n cap) M2:=fun hw=>
 ⟨.lst s rs,.ms0 ho (hw j hj) hn hr,.lst hb,fun i hi=>hs i hi,hk⟩
def RF (g:Gr) (inn:Nat→Bool) (w:Int) (a b:Nat):Prop:= ∃e∈g.es,e.f=(a:Int)∧e.t=(b:Int)∧e.a≠w∧inn b=true
def nof (N:Nat) (f:Nat→Bool):Nat:=(List.range N).countP fun v=> !f v
end Go.Ideal.S
namespace Go.Ideal.S
open Go Go.Ideal Q Classical
attribute [local simp] decide_eq_true decide_eq_false zH
variable {M:VM} {k kp:DV→VM→Prop} {n0:Nat}
def RB (g:Gr) (inn:Nat→Bool) (w:Int) (a b:Nat):Prop:= ∃e∈g.es,e.t=(a:Int)∧e.f=(b:Int)∧e.a≠w∧inn b=true
end Go.Ideal.S
namespace Go.Ideal.S
open Classical
end Go.Ideal.S
namespace Go.Ideal.S
open Go Go.Ideal Q Classical
attribute [local simp] decide_eq_true decide_eq_false zH
attribute [local simp] c_o f_o r_o_1 r_o_2 r_o_3 r_o_4 r_o_5 r_o_6 r_o_7 r_o_8 r_o_9 r_o_10 r_o_11 r_o_12 r_o_13 r_o_14 r_o_15 r_o_17
variable {M:VM} {k kp:DV→VM→Prop} {n0:Nat}
end Go.Ideal.S
namespace Go.Ideal.S
open Go Go.Ideal Q Classical
theorem RIn_iff {g:Gr} (hg:zbr g) (mi:Nat) (w:Int) (a b:Nat):RIn g mi w a b↔RF g (fun v=>mi.testBit v) w a b:=by
 constructor
 ·rintro⟨i,hi,he⟩
  rw[edOf_at hi] at he
  split at he
  ·rename_i hc
   have h:=hg.ok _ (List.getElem_mem hi)
   rw[Option.some.injEq,Prod.mk.injEq] at he
   have h0:=h.f0;have h1:=h.t0
   refine⟨g.es[i],List.getElem_mem hi,by rw[←he.1];omega,by rw[←he.2];omega,hc.1,?_⟩
   show mi.testBit b=true
   rw[←he.2];exact hc.2
  ·cases he
 ·rintro⟨e,h1,h2,h3,h4,h5⟩
  obtain⟨i,hi,rfl⟩:=List.getElem_of_mem h1
  refine⟨i,hi,?_⟩
  rw[edOf_at hi,h2,h3,Int.toNat_natCast,Int.toNat_natCast,if_pos ⟨h4,h5⟩]
theorem Star.imp {α:Type} {R S:α→α→Prop} (h: ∀a b,R a b→S a b) {a b:α} (x:Star R a b):Star S a b:=by
 induction x with
 |refl=>exact .refl _
 |tail _ r ih=>exact ih.tail (h _ _ r)
theorem RF_low {g:Gr} (hg:zbr g) {N:Nat} (hN:g.st=N) (w:Int) (a b:Nat):RF g (fun v=>(lowB N).testBit v) w a b↔RF g (fun _=>true) w a b:=by
 constructor
 ·rintro⟨e,h1,h2,h3,h4,h5⟩;exact⟨e,h1,h2,h3,h4,rfl⟩
 ·rintro⟨e,h1,h2,h3,h4,h5⟩
  refine⟨e,h1,h2,h3,h4,?_⟩
  have:=(hg.ok e h1).t1
  show(lowB N).testBit b=true
  rw[lowB_bit];simp;omega
def Mut (g:Gr) (a b:Nat):Prop:=Star (RF g (fun _=>true) (-1)) a b∧Star (RF g (fun _=>true) (-1)) b a
theorem mut_in {g:Gr} (hg:zbr g) {N:Nat} (hN:g.st=N) (a b:Nat):(Star (RIn g (lowB N) (-1)) a b∧Star (RIn g (lowB N) (-1)) b a)↔Mut g a b:=by
 have h1: ∀a b,RIn g (lowB N) (-1) a b↔RF g (fun _=>true) (-1) a b:=fun a b=>(RIn_iff hg _ _ a b).trans (RF_low hg hN _ a b)
 exact⟨fun h=>⟨h.1.imp fun a b=>(h1 a b).1,h.2.imp fun a b=>(h1 a b).1⟩,fun h=>⟨h.1.imp fun a b=>(h1 a b).2,h.2.imp fun a b=>(h1 a b).2⟩⟩
end Go.Ideal.S
namespace Go.Ideal.S
open Go Go.Ideal Q Classical
variable {M:VM} {kp:DV→VM→Prop} {n0:Nat}
theorem zeB {n:Nat} {a b c:VM} (h:SM n a b) (h2:SM n b c):SM n a c:=fun j hj=>(h2 j hj).trans (h j hj)
theorem zfh {n m:Nat} {a b:VM} (h:SM n a b) (hm:m≤n):SM m a b:=fun j hj=>h j (Nat.lt_of_lt_of_le hj hm)
theorem zM {n j:Nat} {a b:VM} {o:MO} (h:SM n a b) (hj:j<n) (ho:a.obj j=some o):b.obj j=some o:=by
 rw[←ho];show(b.get j).map _=(a.get j).map _;rw[h j hj]
def Round (n l:Nat) (c b:CC) (s:DS) (y:VM) (fin ret:VM→Prop):Prop:= ∀(o1 o2:MO) (Ka Kb:KD),y.obj l=some o1→
 (∀s' y',y'.obj l=some o1→ @Cd (rD F n) (.base Kb) b s' (y'.put l o2)→Ka.nrm s' y')→
 (∀s' y',y'.obj l=some o2→fin y'→Kb.nrm s' y')→(∀s' y',y'.obj l=some o2→ret y'→Kb.ret s' y')→ @Cd (rD F n) (.base Ka) c s y
theorem Round.yld {l:Nat} {y:VM} {rc:RC} {sl s:DS} {args:List DV} {k:DV→VM→Prop} {fin ret:VM→Prop} (ho:y.obj l=some (.loop .ready none sl rc)) (hs:setSD rc.ps args (zbh rc.L sl)=some s)
 (h:Round y.next l rc.as rc.b s y fin ret) (h1: ∀y',y'.obj l=some (.loop .busy none sl rc)→fin y'→k (.bool true) (y'.put l (.loop .ready none sl rc))) (h2: ∀y',y'.obj l=some (.loop .busy none sl rc)→ret y'→k (.bool false) (y'.put l (.loop .done (some .ret) sl rc))):zy F (.yld l) args y k kp:=by
 refine .round ho hs (h _ _ _ _ ho (fun s' y' e x=>AsK_nrm e x) (fun s' y' e x=> ?_) (fun s' y' e x=> ?_))
 ·exact ze4 e (h1 y' e x)
 ·exact ze4 e (h2 y' e x)
theorem all_rg (m:Nat) (hm:m<2^64) {j1 Y p:Nat} (hY:Y≤j1) (hj:j1<M.next) (ho:M.obj j1=some (setO m)) {s sl:DS} {rc:RC} {c b:CC} {K:KD} (hps:rc.ps=[bits p]) (hc:rc.as=c) (hb:rc.b=b)
 (Inv:Nat→VM→Prop) (Rt:VM→Prop) (h0:Inv 0 M)
 (stab: ∀i y y',Inv i y→SM Y y y'→y.next≤y'.next→Inv i y') (stabR: ∀y y',Rt y→SM Y y y'→y.next≤y'.next→Rt y')
 (skip: ∀i y,i<60→Inv i y→m.testBit i=false→Inv (i+1) y)
 (body: ∀i y,i<60→Inv i y→m.testBit i=true→M.next<y.next→y.obj j1=some (setO m)→Round y.next M.next c b ((bits p,I i)::zbh rc.L sl) y (fun y'=>y'.obj j1=some (setO m)∧M.next<y'.next∧Inv (i+1) y') (fun y'=>M.next<y'.next∧Rt y'))
 (done: ∀y,Inv 60 y→M.next<y.next→K.nrm s y) (ret: ∀y,Rt y→M.next<y.next→K.ret s y):
 zy F (.fn n_O [] [.ptr j1 0 0]) [.yld M.next] (M.new (.loop .ready none sl rc)) (fun _ M'=>zgi K s M.next M') kp:=by
 have hYn:Y≤M.next:=by omega
 subst hc
 subst hb
 refine all1_ok m hm M.next j1 (fun i y=>Inv i y∧y.obj M.next=some (.loop .ready none sl rc)∧y.obj j1=some (setO m)∧M.next<y.next) (fun y=>Rt y∧y.obj M.next=some (.loop .done (some .ret) sl rc)∧M.next<y.next)
  ⟨stab 0 M _ h0 (zx (zt _ _) hYn) (by simp),by simp,by simp(disch:=omega) [ho],by simp⟩ (fun i y hP=>⟨hP.2.2.1,by have:=hP.2.2.2;omega⟩) (fun i y y' hi hP s1 s2 hne=> ?_) (fun i y y' hi hP s1 s2 he {k kp} b1 b2=> ?_) (fun y hP=> ?_) (fun y hR=> ?_)
 ·obtain⟨q1,q2,q3,q4⟩:=hP
  exact⟨skip i y' hi (stab i y y' q1 (zfh s1 (by omega)) s2) hne,zR s1 q4 q2,zR s1 (by omega) q3,by omega⟩
 ·obtain⟨q1,q2,q3,q4⟩:=hP
  have r2:=zR s1 q4 q2
  refine(body i y' hi (stab i y y' q1 (zfh s1 (by omega)) s2) he (by omega) (zR s1 (by omega) q3)).yld r2 (by rw[hps];rfl) (fun y2 e1 ⟨e2,e3,e4⟩=> ?_) (fun y2 e1 ⟨e3,e4⟩=> ?_)
  ·exact b1 _ ⟨stab _ y2 _ e4 (zu (zt _ _) hYn) (by simp),by simp,by simp(disch:=omega) [e2],by simp;omega⟩
  ·exact b2 _ ⟨stabR y2 _ e4 (zu (zt _ _) hYn) (by simp),by simp,by simp;omega⟩
 ·obtain⟨q1,q2,q3,q4⟩:=hP
  exact zgh q2 (done _ (stab _ y _ q1 (zu (zt _ _) hYn) (by simp)) (by simp;omega))
 ·obtain⟨q1,q2,q4⟩:=hR
  exact rgEnd_ret q2 (ret _ (stabR y _ q1 (zu (zt _ _) hYn) (by simp)) (by simp;omega))
theorem from_rg (g:Gr) (hl:g.es.length≤1000000) (n:Int) {j2 j3 Y p q:Nat} (hY:Y≤j2) (hY3:Y≤j3) (hj:j2<M.next) (hj3:j3<M.next) (ho:M.obj j2=some (grO g)) (ho3:M.obj j3=some (intO n)) {s sl:DS} {rc:RC} {c b:CC} {K:KD} (hps:rc.ps=[bits p,bits q]) (hc:rc.as=c) (hb:rc.b=b)
 (Inv:Nat→VM→Prop) (h0:Inv 0 M)
 (stab: ∀i y y',Inv i y→SM Y y y'→(∀j,j<y.next→j≠M.next→y'.get j=y.get j)→y.next≤y'.next→Inv i y')
 (skip: ∀i y (hi:i<g.es.length),Inv i y→g.es[i].f≠n→Inv (i+1) y)
 (body: ∀i y (hi:i<g.es.length),Inv i y→g.es[i].f=n→M.next<y.next→y.obj j2=some (grO g)→y.obj j3=some (intO n)→
   Round y.next M.next c b ((bits q,.agg (zF g.es[i]))::(bits p,I i)::zbh rc.L sl) y (fun y'=>y'.obj j2=some (grO g)∧y'.obj j3=some (intO n)∧M.next<y'.next∧Inv (i+1) y') (fun _=>False))
 (done: ∀y,Inv g.es.length y→M.next<y.next→K.nrm s y):
 zy F (.fn n_K [] [.ptr j2 0 0,.ptr j3 0 0]) [.yld M.next] (M.new (.loop .ready none sl rc)) (fun _ M'=>zgi K s M.next M') kp:=by
 have hYn:Y≤M.next:=by omega
 subst hc
 subst hb
 refine from1_ok g hl n M.next j2 j3 (fun i y=>Inv i y∧y.obj M.next=some (.loop .ready none sl rc)∧y.obj j2=some (grO g)∧y.obj j3=some (intO n)∧M.next<y.next) (fun _=>False)
  ⟨stab 0 M _ h0 (zx (zt _ _) hYn) (fun j hj _=>by rw[get_new,if_neg (by omega)]) (by simp),by simp,by simp(disch:=omega) [ho],by simp(disch:=omega) [ho3],by simp⟩ (fun i y hP=>⟨hP.2.2.1,hP.2.2.2.1,by have:=hP.2.2.2.2;omega,by have:=hP.2.2.2.2;omega⟩) (fun i y y' hi hP s1 s2 hne=> ?_) (fun i y y' hi hP s1 s2 he {k kp} b1 b2=> ?_) (fun y hP=> ?_) (fun y hR=>hR.elim)
 ·obtain⟨q1,q2,q3,q3',q4⟩:=hP
  exact⟨skip i y' hi (stab i y y' q1 (zfh s1 (by omega)) (fun j hj _=>s1 j hj) s2) hne,zR s1 q4 q2,zR s1 (by omega) q3,zR s1 (by omega) q3',by omega⟩
 ·obtain⟨q1,q2,q3,q3',q4⟩:=hP
  have r2:=zR s1 q4 q2
  refine(body i y' hi (stab i y y' q1 (zfh s1 (by omega)) (fun j hj _=>s1 j hj) s2) he (by omega) (zR s1 (by omega) q3) (zR s1 (by omega) q3')).yld r2 (by rw[hps];rfl) (fun y2 e1 ⟨e2,e2',e3,e4⟩=> ?_) (fun y2 e1 h=>h.elim)
  exact b1 _ ⟨stab _ y2 _ e4 (zu (zt _ _) hYn) (fun j _ hj=>by rw[get_put,if_neg hj]) (by simp),by simp,by simp(disch:=omega) [e2],by simp(disch:=omega) [e2'],by simp;omega⟩
 ·obtain⟨q1,q2,q3,q3',q4⟩:=hP
  exact zgh q2 (done _ (stab _ y _ q1 (zu (zt _ _) hYn) (fun j _ hj=>by rw[get_put,if_neg hj]) (by simp)) (by simp;omega))
end Go.Ideal.S
namespace Go.Ideal.S
open Classical
section
variable (R:Nat→Nat→Prop)
def zkb (v:Nat):Prop:= ∀j,j<v→ ¬R j v
noncomputable def numF (i:Nat):Nat:=(List.range i).countP fun j=>decide (zkb R j)
theorem numF_succ (i:Nat):numF R (i+1)=numF R i+if zkb R i then 1 else 0:=by
 unfold numF
 rw[List.range_succ,List.countP_append,List.countP_singleton]
 congr 1
 simp only[decide_eq_true_eq]
theorem least {P:Nat→Prop}: ∀n,P n→ ∃m,m≤n∧P m∧ ∀j,j<m→ ¬P j:=by
 intro n
 induction n using Nat.strongRecOn with
 |_ n ih=>
  intro h
  by_cases c: ∃j,j<n∧P j
  ·obtain⟨j,hj,hp⟩:=c
   obtain⟨m,h1,h2,h3⟩:=ih j hj hp
   exact⟨m,by omega,h2,h3⟩
  ·exact⟨n,Nat.le_refl _,h,fun j hj hp=>c ⟨j,hj,hp⟩⟩
noncomputable def clsN (v:Nat):Int:=if h: ∃m,R m v∧ ∀j,j<m→ ¬R j v then(numF R h.choose:Int) else -1
end
section
variable {R:Nat→Nat→Prop} (hr: ∀a,R a a) (hs: ∀a b,R a b→R b a) (ht: ∀a b c,R a b→R b c→R a c)
include hr hs ht
theorem clsN_at {m v:Nat} (h1:R m v) (h2: ∀j,j<m→ ¬R j v):clsN R v=numF R m:=by
 have hex: ∃m,R m v∧ ∀j,j<m→ ¬R j v:=⟨m,h1,h2⟩
 unfold clsN
 rw[dif_pos hex]
 obtain⟨g1,g2⟩:=hex.choose_spec
 have:hex.choose=m:=by
  rcases Nat.lt_trichotomy hex.choose m with h|h|h
  ·exact absurd g1 (h2 _ h)
  ·exact h
  ·exact absurd h1 (g2 _ h)
 rw[this]
theorem rep_ex (v:Nat): ∃m,m≤v∧R m v∧(∀j,j<m→ ¬R j v)∧zkb R m∧clsN R v=numF R m:=by
 obtain⟨m,h1,h2,h3⟩:=least (P:=fun j=>R j v) v (hr v)
 exact⟨m,h1,h2,h3,fun j hj x=>h3 j hj (ht _ _ _ x h2),clsN_at hr hs ht h2 h3⟩
theorem numF_lt {a b:Nat} (h:a<b) (ha:zkb R a):numF R a<numF R b:=by
 induction b with
 |zero=>omega
 |succ b ih=>
  rw[numF_succ]
  by_cases e:a=b
  ·subst e;rw[if_pos ha];omega
  ·have:=ih (by omega);split<;>omega
theorem clsN_eq (a b:Nat):clsN R a=clsN R b↔R a b:=by
 obtain⟨m,_,h2,h3,h4,h5⟩:=rep_ex hr hs ht a
 obtain⟨n,_,g2,g3,g4,g5⟩:=rep_ex hr hs ht b
 rw[h5,g5]
 constructor
 ·intro e
  have:m=n:=by
   rcases Nat.lt_trichotomy m n with h|h|h
   ·have:=numF_lt hr hs ht h h4;omega
   ·exact h
   ·have:=numF_lt hr hs ht h g4;omega
  subst this
  exact ht _ _ _ (hs _ _ h2) g2
 ·intro e
  have:m=n:=by
   rcases Nat.lt_trichotomy m n with h|h|h
   ·exact absurd (ht _ _ _ h2 e) (g3 _ h)
   ·exact h
   ·exact absurd (ht _ _ _ g2 (hs _ _ e)) (h3 _ h)
  rw[this]
theorem clsN_new {i v:Nat} (hi:zkb R i) (h:R i v):clsN R v=numF R i:=clsN_at hr hs ht h fun j hj x=>hi j hj (ht _ _ _ x (hs _ _ h))
end
end Go.Ideal.S
namespace Go.Ideal.S
open Go Go.Ideal Q Classical
attribute [local simp] decide_eq_true decide_eq_false zH
variable {M:VM} {k kp:DV→VM→Prop} {n0:Nat}
theorem zjZ {f h:Nat→Int} {N:Nat} (e: ∀v,v<N→f v=h v):R1 f N=R1 h N:=by
 unfold R1
 apply List.map_congr_left
 intro v hv
 rw[e v (List.mem_range.1 hv)]
theorem R1_no (N:Nat):List.replicate N [I 0]=R1 (fun _=>0) N:=by unfold R1;rw[List.map_const',List.length_range]
theorem R1_row {f:Nat→Int} {N:Nat}: ∀r∈R1 f N,r.length=1:=by simp[R1]
theorem R1_below {f:Nat→Int} {N n:Nat}: ∀r∈R1 f N,∀x∈r,zJ n x:=by
 intro r hr x hx
 simp only[R1,List.mem_map] at hr
 obtain⟨v,_,rfl⟩:=hr
 obtain rfl:=List.mem_singleton.1 hx
 simp
theorem Back.ms2 {M M2:VM} {j n cap s:Nat} {op:Bool} {rs:List (List DV)} {e:DV} (ho:M2.obj j=some (.rows op s rs)) (hn:n=rs.length) (hr: ∀r∈rs,r.length=s) (hj:M.next≤j) (hs:SM M.next M M2) (hb: ∀r∈rs,∀x∈r,zJ M.next x) (he:zJ M.next e) (hk:k (.tup [.lst s rs,e]) M):Back k M (.tup [.ms j 0 n cap,e]) M2:=fun hw=>
 ⟨.tup [.lst s rs,e],.tup rfl fun i d d' h1 h2=>by
   match i with
   |0=>cases h1;cases h2;exact .ms0 ho (hw j hj) hn hr
   |1=>cases h1;cases h2;exact .refl _
   |i+2=>simp at h1,.tup fun d hd=>by
   simp only[List.mem_cons,List.not_mem_nil,or_false] at hd
   rcases hd with rfl|rfl
   ·exact .lst hb
   ·exact he,fun i hi=>hs i hi,hk⟩
end Go.Ideal.S
namespace Go.Ideal.S
open Go Go.Ideal Q Classical
attribute [local simp] decide_eq_true decide_eq_false zH
attribute [local simp] c_o f_o r_o_1 r_o_2 r_o_3 r_o_4 r_o_5 r_o_6 r_o_7 r_o_8 r_o_9 r_o_10 r_o_11 r_o_12 r_o_13 r_o_14 r_o_15 r_o_17
variable {M:VM} {k kp:DV→VM→Prop} {n0:Nat}
end Go.Ideal.S
namespace Go.Ideal.S
open Go Go.Ideal Q Classical
attribute [local simp] decide_eq_true decide_eq_false zH
attribute [local simp] c_o f_o r_o_1 r_o_2 r_o_3 r_o_4 r_o_5 r_o_6 r_o_7 r_o_8 r_o_9 r_o_10 r_o_11 r_o_12 r_o_13 r_o_14 r_o_15 r_o_17
variable {M:VM} {k kp:DV→VM→Prop} {n0:Nat}
theorem zgd (x y:Int):zbA .int (I x) (I y)=some (decide (x=y)):=by
 show(if IntKind.i64=IntKind.i64 then some (eqI x y) else none)=_
 rw[if_pos rfl,zho]
abbrev mE (f c:Nat→Int) (L:List Nat):List (DV×DV):=L.map fun v=>(I (f v),I (c v))
theorem find_none {f c:Nat→Int} {x:Int}: ∀{L:List Nat},(∀v∈L,f v≠x)→zh1 .int (I x) (mE f c L)=some none
 | [],_=>rfl
 |v::L,h=>by
  show(zbA .int (I x) (I (f v))).bind _=_
  rw[zgd,decide_eq_false (fun e=>h v (List.mem_cons_self ..) e.symm)]
  exact find_none fun u hu=>h u (List.mem_cons_of_mem _ hu)
theorem find_some {f c:Nat→Int} {x y:Int}: ∀{L:List Nat},(∃m∈L,f m=x)→(∀v∈L,f v=x→c v=y)→zh1 .int (I x) (mE f c L)=some (some (I y))
 | [],h,_=>by obtain⟨m,hm,_⟩:=h;cases hm
 |v::L,h,h2=>by
  show(zbA .int (I x) (I (f v))).bind _=_
  rw[zgd]
  by_cases e:f v=x
  ·rw[decide_eq_true e.symm,←h2 v (List.mem_cons_self ..) e];rfl
  ·rw[decide_eq_false (fun q=>e q.symm)]
   refine find_some ?_ fun u hu=>h2 u (List.mem_cons_of_mem _ hu)
   obtain⟨m,hm,hx⟩:=h
   rcases List.mem_cons.1 hm with rfl|hm
   ·exact absurd hx e
   ·exact⟨m,hm,hx⟩
theorem set_new {f c:Nat→Int} {x:Int} {d:DV}: ∀{L:List Nat},(∀v∈L,f v≠x)→Go.Ideal.setD .int (I x) d (mE f c L)=some (mE f c L++[(I x,d)])
 | [],_=>rfl
 |v::L,h=>by
  show(zbA .int (I x) (I (f v))).bind _=_
  rw[zgd,decide_eq_false (fun e=>h v (List.mem_cons_self ..) e.symm)]
  show(Go.Ideal.setD .int (I x) d (mE f c L)).map _=_
  rw[set_new fun u hu=>h u (List.mem_cons_of_mem _ hu)];rfl
theorem lkE_int (z:DV) (ok:Bool) (x:Int) (es:List (DV×DV)):lkE .int z ok (I x) (some es)=(zh1 .int (I x) es).map (zfV z ok):=by
 unfold lkE;rw[zgd]
theorem upd_int {M:VM} {x:Int} {d:DV} {j:Nat} {es es':List (DV×DV)} (h:M.obj j=some (.map es)) (h2:Go.Ideal.setD .int (I x) d es=some es'):updD .int M (I x) d (.map j)=some (M.put j (.map es')):=by
 simp only[updD,h,Option.bind_some,zgd,h2,Option.map_some]
noncomputable def fsts (R:Nat→Nat→Prop) (i:Nat):List Nat:=(List.range i).filter fun j=>decide (zkb R j)
theorem fsts_len (R:Nat→Nat→Prop) (i:Nat):(fsts R i).length=numF R i:=by unfold fsts numF;rw[List.countP_eq_length_filter]
theorem fsts_succ (R:Nat→Nat→Prop) (i:Nat):fsts R (i+1)=fsts R i++if zkb R i then[i] else[]:=by
 unfold fsts
 rw[List.range_succ,List.filter_append]
 congr 1
 by_cases h:zkb R i<;>simp[h]
theorem zid {R:Nat→Nat→Prop} {i v:Nat}:v∈fsts R i↔v<i∧zkb R v:=by simp[fsts]
theorem jParts_ok {g:Gr} (hl:g.es.length≤1000000) (hg:zbr g) {N:Nat} (hN:g.st=N) (hk:k (.tup [.lst 1 (R1 (clsN (Mut g)) N),I 0]) M):zy F (.fn n_o [] []) [.agg (eGr g)] M k kp:=by
 apply zy.back
 refine .fn h_jam_Parts rfl (by simp[f_o]) ?_
 have g2:=hg.s2
 have h60:N≤60:=by omega
 have hcg: ∀x∈eGr g,zL x=true:=by intro x hx;simp[eGr] at hx;rcases hx with rfl|rfl|rfl<;>rfl
 have hgl:(eGr g).length=3:=rfl
 simp
 refine fine_ok g hl fun b hb=> ?_
 obtain rfl:b=true:=hb.2 hg
 have eg:([I g.st,I g.ac,.lst 3 (g.es.map zF)]:List DV)=eGr g:=rfl
 simp[eGr]
 simp only[eg]
 refine zf6 g hN h60 ?_
 have hlow: ∀v,(lowB N).testBit v=true↔v<N:=fun v=>by rw[lowB_bit];simp
 simp[hcg,hgl]
 refine⟨by intro x hx;simp[eGr] at hx;rcases hx with rfl|rfl|rfl<;>rfl,?_⟩
 refine parts_ok hg (zhd N (by omega)) hN (fun v hv=>(hlow v).1 hv) fun M2 j cmp many s1 s2 s3 s4 s5=> ?_
 have hs0:SM M.next M M2:=fun j hj=>(s1 j (by simp;omega)).trans ((show SM M.next M (((M.new _).new _).put _ _) from(by repeat' (first|assumption|exact zt _ _|apply zu|apply zx|apply zA| ((try simp only[zc,ze,zf]);omega)))) j hj)
 have hj0:M.next≤j:=by simp at s2;omega
 have hn0:M.next≤M2.next:=by omega
 clear s1 s2
 simp[s4]
 have hr: ∀a,Mut g a a:=fun a=>⟨.refl _,.refl _⟩
 have hs: ∀a b,Mut g a b→Mut g b a:=fun a b h=>⟨h.2,h.1⟩
 have ht: ∀a b c,Mut g a b→Mut g b c→Mut g a c:=fun a b c h h'=>⟨h.1.trans h'.1,h'.2.trans h.2⟩
 have hcl: ∀a b,a<N→b<N→(cmp a=cmp b↔Mut g a b):=fun a b ha hb=>(s5.eq a b ((hlow a).2 ha) ((hlow b).2 hb)).trans (mut_in hg hN a b)
 have hfi: ∀i v,i<N→v<i→cmp v=cmp i→Mut g v i:=fun i v hi hv e=>(hcl v i (by omega) hi).1 e
 refine .for (σ:=VM) c_o_16.eq_1 (fun i _=>[(27,I i)]) (fun y=>y) (fun i y=>SM M.next M y∧M2.next<y.next∧y.obj j=some (.rows false 1 (R1 (fun v=>if v<i then clsN (Mut g) v else cmp v) N))∧y.obj M2.next=some (.map (mE cmp (clsN (Mut g)) (fsts (Mut g) i)))) N _ (by simp) rfl ⟨zx hs0 hn0,by simp,?_,?_⟩ (fun i y hi hP again=> ?_) (fun y hP=> ?_)
 ·rw[zjc _ s3,s4];simp
 ·simp[fsts]
 ·obtain⟨h1,h2,h3,h4⟩:=hP
  have hB:=zcU (f:=fun v=>if v<i then clsN (Mut g) v else cmp v) hi
  rw[if_neg (Nat.lt_irrefl i)] at hB
  have he:R1 (up1 (fun v=>if v<i then clsN (Mut g) v else cmp v) i (clsN (Mut g) i)) N=R1 (fun v=>if v<i+1 then clsN (Mut g) v else cmp v) N:=zjZ fun v _=>by
   unfold up1
   by_cases e:v=i
   ·subst e;simp
   ·have:(v<i+1)=(v<i):=by simp;omega
    simp[e,this]
  have hjm:M2.next≠j:=by omega
  simp at again
  by_cases c:zkb (Mut g) i
  ·have hno: ∀v∈fsts (Mut g) i,cmp v≠cmp i:=fun v hv e=>c v (zid.1 hv).1 (hfi i v hi (zid.1 hv).1 e)
   have f1:=find_none (c:=clsN (Mut g)) hno
   have hc:clsN (Mut g) i=numF (Mut g) i:=clsN_new hr hs ht c (hr i)
   have f2:=set_new (c:=clsN (Mut g)) (d:=I (numF (Mut g) i)) hno
   have f3:=upd_int h4 f2
   rw[fsts_succ,if_pos c] at again
   rw[hc] at he
   simp(disch:=((try simp only[zc,ze,zf]);omega)) [h3,h4,hi,hB,lkE_int,f1,f3,fsts_len,hjm]
   refine again _ (by repeat' (first|assumption|exact zt _ _|apply zu|apply zx|apply zA| ((try simp only[zc,ze,zf]);omega))) (by simp;omega) ?_ ?_
   ·simp only[zlB];rw[←he,←zfJ]
   ·simp(disch:=omega) [List.map_append,hc]
  ·obtain⟨m,m1,m2,m3,m4,m5⟩:=rep_ex hr hs ht i
   have hmi:m<i:=by
    rcases Nat.lt_or_ge m i with h|h
    ·exact h
    ·exact absurd (by rw[show i=m by omega];exact m4) c
   have f1:=find_some (c:=clsN (Mut g)) (x:=cmp i) (y:=clsN (Mut g) i) (L:=fsts (Mut g) i) ⟨m,zid.2 ⟨hmi,m4⟩,(hcl m i (by omega) hi).2 m2⟩ (fun v hv e=>(clsN_eq hr hs ht v i).2 (hfi i v hi (zid.1 hv).1 e))
   rw[fsts_succ,if_neg c,List.append_nil] at again
   simp(disch:=((try simp only[zc,ze,zf]);omega)) [h3,h4,hi,hB,lkE_int,f1,hjm]
   refine again _ (by repeat' (first|assumption|exact zt _ _|apply zu|apply zx|apply zA| ((try simp only[zc,ze,zf]);omega))) (by simp;omega) ?_ ?_
   ·simp only[zlB];rw[←he,←zfJ]
   ·simp(disch:=omega) [h4]
 ·obtain⟨h1,h2,h3,h4⟩:=hP
  simp
  refine Back.ms2 h3 (by simp) R1_row hj0 h1 R1_below (by simp) ?_
  have e1:R1 (fun v=>if v<N then clsN (Mut g) v else cmp v) N=R1 (clsN (Mut g)) N:=zjZ fun v hv=>if_pos hv
  rw[e1]
  exact hk
end Go.Ideal.S
namespace Go.Ideal.S
open Go Go.Ideal Q Classical
attribute [local simp] decide_eq_true decide_eq_false zH
attribute [local simp] c_m f_m r_m_1 r_m_2 r_m_3 r_m_4 r_m_5 r_m_6 r_m_7 r_m_8 r_m_9 r_m_10 r_m_11 r_m_12 r_m_15 r_m_16 r_m_18
variable {M:VM} {k kp:DV→VM→Prop} {n0:Nat}
theorem zjg (a b:Nat):binD .neq (.leaves [0]) (setD a) (setD b)=some (.bool (!decide (a=b))):=by
 show some (DV.bool (!(eqI (a:Int) (b:Int)&&true)))=_
 rw[zho,Bool.and_true]
 have:((a:Int)=(b:Int))=(a=b):=propext ⟨fun h=>by omega,fun h=>by omega⟩
 simp only[this]
structure LdM (B y:VM) (g:Gr) (mi:Nat) (w:Int) (m:Nat):Prop where
 sm:SM B.next B y
 nx:B.next+5≤y.next
 o4:y.obj B.next=some (grO g)
 o6:y.obj (B.next+1)=some (setO mi)
 o7:y.obj (B.next+2)=some (intO w)
 o8:y.obj (B.next+3)=some (setO 0)
 o9:y.obj (B.next+4)=some (setO m)
theorem LdM.frame {B y y':VM} {g:Gr} {mi:Nat} {w:Int} {m Y:Nat} (h:LdM B y g mi w m) (hY:B.next+5≤Y) (s:SM Y y y') (hn:y.next≤y'.next):LdM B y' g mi w m:=by
 have ob: ∀j o,j<Y→y.obj j=some o→y'.obj j=some o:=fun j o hj e=>by
  rw[←e];show(y'.get j).map _=(y.get j).map _;rw[s j hj]
 exact⟨fun j hj=>(s j (by omega)).trans (h.sm j hj),Nat.le_trans h.nx hn,ob _ _ (by omega) h.o4,ob _ _ (by omega) h.o6,ob _ _ (by omega) h.o7,ob _ _ (by omega) h.o8,ob _ _ (by omega) h.o9⟩
theorem LdM.put {B y:VM} {g:Gr} {mi:Nat} {w:Int} {m:Nat} (h:LdM B y g mi w m) (m':Nat):LdM B (y.put (B.next+4) (setO m')) g mi w m':=
 ⟨zu h.sm (by omega),by have:=h.nx;simp;omega,by simp(disch:=omega) [h.o4],by simp(disch:=omega) [h.o6],by simp(disch:=omega) [h.o7],by simp(disch:=omega) [h.o8],by simp⟩
def subB (a b:Nat):Prop:= ∀v,a.testBit v=true→b.testBit v=true
theorem zlA (m v:Nat) (u:Nat):(m ||| 2^v).testBit u=true↔m.testBit u=true∨u=v:=by
 rw[Nat.testBit_or,Nat.testBit_two_pow,Bool.or_eq_true,decide_eq_true_eq]
 exact⟨fun h=>h.imp id fun e=>e.symm,fun h=>h.imp id fun e=>e.symm⟩
theorem subB_or (m v:Nat):subB m (m ||| 2^v):=fun u h=>(zlA m v u).2 (.inl h)
theorem or_lt {m v:Nat} (h:m<2^64) (hv:v<64):m ||| 2^v<2^64:=Nat.or_lt_two_pow h (Nat.pow_lt_pow_right (by omega) hv)
theorem nof_sub {N a b:Nat} (h:subB a b) (hb: ∀v,b.testBit v=true→v<N) (hne:a≠b):nof N b.testBit<nof N a.testBit:=by
 obtain⟨v,hv⟩: ∃v,a.testBit v≠b.testBit v:=Classical.byContradiction fun hc=>hne (Nat.eq_of_testBit_eq fun v=>Classical.byContradiction fun e=>hc ⟨v,e⟩)
 have h1:b.testBit v=true:=by
  cases e:b.testBit v with
  |true=>rfl
  |false=>
   cases e2:a.testBit v with
   |true=>rw[h v e2] at e;cases e
   |false=>rw[e,e2] at hv;exact absurd rfl hv
 have h2:a.testBit v=false:=by
  cases e2:a.testBit v with
  |true=>rw[h1,e2] at hv;exact absurd rfl hv
  |false=>rfl
 refine cnt_lt (t:=v) (fun x hx=> ?_) (List.mem_range.2 (hb v h1)) (by simp[h2]) (by simp[h1])
 cases e:a.testBit x with
 |false=>rfl
 |true=>rw[h x e] at hx;cases hx
structure LdP (g:Gr) (N mi:Nat) (w:Int) (s0:Nat) (m:Nat):Prop where
 lt:m<2^64
 mem:m.testBit s0=true
 snd: ∀v,m.testBit v=true→v<N∧Star (RF g (fun v=>mi.testBit v) w) s0 v
theorem LdP.add {g:Gr} (hg:zbr g) {N mi s0 m:Nat} {w:Int} (hN:g.st=N) (h:LdP g N mi w s0 m) {i:Nat} (hi:i<g.es.length) (h1:m.testBit g.es[i].f.toNat=true) (h2:g.es[i].a≠w) (h3:mi.testBit g.es[i].t.toNat=true):LdP g N mi w s0 (m ||| 2^g.es[i].t.toNat):=by
 have he:=hg.ok _ (List.getElem_mem hi)
 have a0:=he.f0;have a1:=he.t0;have a2:=he.t1
 have g2:=hg.s2
 refine⟨or_lt h.lt (by omega),(zlA _ _ _).2 (.inl h.mem),fun v hv=> ?_⟩
 rcases(zlA _ _ _).1 hv with hv|rfl
 ·exact h.snd v hv
 ·exact⟨by omega,(h.snd _ h1).2.tail ⟨g.es[i],List.getElem_mem hi,by omega,by omega,h2,h3⟩⟩
theorem jleads_ok {g:Gr} (hg:zbr g) {N:Nat} (hN:g.st=N) {mi:Nat} (hmi:mi<2^64) (w:Int) {s0:Nat} (hs0:s0<N)
 (hk: ∀m,m<2^64→(∀v,m.testBit v=true↔Star (RF g (fun v=>mi.testBit v) w) s0 v)→k (setD m) M):zy F (.fn n_m [] []) [.agg (eGr g),I s0,setD mi,I w] M k kp:=by
 have g2:=hg.s2
 have hl:g.es.length≤1000000:=by have:=hg.el;omega
 have h64:s0<64:=by omega
 apply zy.back
 refine .fn zhm rfl (by simp[f_m]) ?_
 simp[eGr]
 refine zi3 0 s0 _ (by decide) h64 (by simp) ?_
 simp
 have hl0:LdP g N mi w s0 (2^s0):=⟨Nat.pow_lt_pow_right (by omega) h64,by simp,fun v hv=>by
  rw[Nat.testBit_two_pow,decide_eq_true_eq] at hv;subst hv;exact⟨hs0,.refl _⟩⟩
 refine zcs.gen (Q:=fun y=>LdM M y g mi w (2^s0)∧M.next+6<y.next∧y.obj (M.next+6)=some (setO 0)) ⟨⟨(by repeat' (first|assumption|exact zt _ _|apply zu|apply zx|apply zA| ((try simp only[zc,ze,zf]);omega))),by simp<;>omega,by simp(disch:=((try simp only[zc,ze]);omega)),by simp(disch:=((try simp only[zc,ze]);omega)),by simp(disch:=((try simp only[zc,ze]);omega)),by simp(disch:=((try simp only[zc,ze]);omega)),by simp(disch:=((try simp only[zc,ze]);omega))⟩,by simp,by simp⟩ fun y0 hy0=> ?_
 refine .while (σ:=VM×Nat×Nat×Nat) c_m_17.eq_1 (fun x=>[(10,.ptr x.2.1 0 0)]) (fun x=>x.1) (fun x=>LdM M x.1 g mi w x.2.2.2∧M.next+5≤x.2.1∧x.2.1<x.1.next∧x.1.obj x.2.1=some (setO x.2.2.1)∧LdP g N mi w s0 x.2.2.2∧x.2.2.1<2^64∧subB x.2.2.1 x.2.2.2∧ ∀a b,x.2.2.1.testBit a=true→RF g (fun v=>mi.testBit v) w a b→x.2.2.2.testBit b=true)
  (fun x=>2*nof N x.2.2.2.testBit+if x.2.2.1=x.2.2.2 then 0 else 1) (y0,M.next+6,0,2^s0) (by simp) rfl ⟨hy0.1,by show M.next+5≤M.next+6;omega,hy0.2.1,hy0.2.2,hl0,Nat.two_pow_pos 64,by intro v hv;simp at hv,by intro a b hv;simp at hv⟩ (fun x hP again=> ?_)
 clear hy0
 obtain⟨y,jw,was,m⟩:=x
 obtain⟨h1,h2,h3,h4,h5,h6,h7,h8⟩:=hP
 dsimp only at*
 have o9:=h1.o9
 have o8:=h1.o8
 have nx:=h1.nx
 by_cases c:was=m
 ·subst c
  simp[h4,o9,zjg,o8]
  refine Back.plain (by simp) (zu h1.sm (by omega)) (hk was h6 fun v=>⟨fun hv=>(h5.snd v hv).2,fun hv=>hv.keep (P:=fun v=>was.testBit v=true) (fun a b ha r=>h8 a b ha r) h5.mem⟩)
 ·simp[h4,o9,zjg,c]
  refine all_ok m fun M2 j1 s1 s2 s3 s4=> ?_
  have hM2:LdM M M2 g mi w m:=(h1.frame (Y:=jw) (y':=y.put jw (setO m)) h2 (zu (zt _ _) (Nat.le_refl _)) (by simp)).frame (Y:=(y.put jw (setO m)).next) (by simp;omega) s1 (by simp only[ze] at s2⊢;omega)
  have hw2:M2.obj jw=some (setO m):=zR s1 (by simp;omega) (by simp)
  simp only[ze] at s1 s2
  simp
  have hlo:M.next+5≤j1:=by omega
  refine all_rg m h5.lt (Y:=j1) (p:=23) (Nat.le_refl _) s3 s4 rfl rfl rfl (fun i y=> ∃m',LdM M y g mi w m'∧LdP g N mi w s0 m'∧subB m m'∧y.obj jw=some (setO m)∧j1<y.next∧ ∀a b,a<i→m.testBit a=true→RF g (fun v=>mi.testBit v) w a b→m'.testBit b=true) (fun _=>False)
   ⟨m,hM2,h5,fun v h=>h,hw2,s3,fun a b ha=>by omega⟩ (fun i y y' ⟨m',q1,q2,q3,q4,q5,q6⟩ s hn=>⟨m',q1.frame hlo s hn,q2,q3,zM s (by omega) q4,by omega,q6⟩) (fun _ _ h=>h.elim) (fun i y hi ⟨m',q1,q2,q3,q4,q5,q6⟩ hb=>⟨m',q1,q2,q3,q4,q5,fun a b ha hm r=> ?_⟩) (fun i y hi ⟨m',q1,q2,q3,q4,q5,q6⟩ hb ly oj o1 o2 Ka Kb ol hA fin ret=> ?_) (fun y ⟨m',q1,q2,q3,q4,q5,q6⟩ ly=> ?_) (fun _ h=>h.elim)
  ·by_cases e:a=i
   ·subst e;rw[hm] at hb;cases hb
   ·exact q6 a b (by omega) hm r
  ·simp[c_m_14]
   refine hA _ _ ol ?_
   have r1:=q1.frame hlo (y':=y.put M2.next o2) (zu (zt _ _) (by omega)) (by simp)
   have r2:(y.put M2.next o2).obj M2.next=some o2:=by simp
   have r3:(y.put M2.next o2).obj j1=some (setO m):=by simp(disch:=omega) [oj]
   have r4:(y.put M2.next o2).obj jw=some (setO m):=by simp(disch:=omega) [q4]
   have r5:M2.next<(y.put M2.next o2).next:=by simp;omega
   generalize y.put M2.next o2=y1 at*
   have o4:=r1.o4
   simp[zcQ,o4]
   refine from_ok g i fun M3 j2 j3 t1 t2 t3 t4 t5 t6=> ?_
   have f1:=r1.frame (Y:=y1.next) (by omega) t1 (by omega)
   have f2:=zM t1 r5 r2
   have f3:=zM t1 (by omega) r3
   have f4:=zM t1 (by omega) r4
   simp
   refine from_rg g hl i (Y:=j2) (p:=27) (q:=28) (Nat.le_refl _) (by omega) (by omega) t4 t5 t6 rfl rfl rfl (fun e y=> ∃m',LdM M y g mi w m'∧LdP g N mi w s0 m'∧subB m m'∧y.obj M2.next=some o2∧y.obj j1=some (setO m)∧y.obj jw=some (setO m)∧j2<y.next∧(∀a b,a<i→m.testBit a=true→RF g (fun v=>mi.testBit v) w a b→m'.testBit b=true)∧ ∀(q:Nat) (hq:q<g.es.length),q<e→g.es[q].f=i→g.es[q].a≠w→mi.testBit g.es[q].t.toNat=true→m'.testBit g.es[q].t.toNat=true)
    ⟨m',f1,q2,q3,f2,f3,f4,by omega,q6,fun q hq h=>by omega⟩ (fun e y y' ⟨m',p1,p2,p3,p4,p5,p6,p7,p8,p9⟩ s _ hn=>⟨m',p1.frame (by omega) s hn,p2,p3,zM s (by omega) p4,zM s (by omega) p5,zM s (by omega) p6,by omega,p8,p9⟩) (fun e y he ⟨m',p1,p2,p3,p4,p5,p6,p7,p8,p9⟩ hn=>⟨m',p1,p2,p3,p4,p5,p6,p7,p8,fun q hq h hf ha hm=> ?_⟩) (fun e y he ⟨m',p1,p2,p3,p4,p5,p6,p7,p8,p9⟩ hn ly2 oj2 oj3 o3 o4 Kc Kd ol2 hA2 fin2 ret2=> ?_) (fun y ⟨m',p1,p2,p3,p4,p5,p6,p7,p8,p9⟩ ly2=> ?_)
   ·by_cases c2:q=e
    ·subst c2;exact absurd hf hn
    ·exact p9 q hq (by omega) hf ha hm
   ·have he0:=hg.ok _ (List.getElem_mem he)
    have a0:=he0.f0;have a1:=he0.t0;have a2:=he0.t1
    obtain⟨tn,htn⟩: ∃tn:Nat,g.es[e].t=tn:=⟨g.es[e].t.toNat,by omega⟩
    have htn2:g.es[e].t.toNat=tn:=by omega
    have hfi:g.es[e].f.toNat=i:=by omega
    have hm':m'.testBit g.es[e].f.toNat=true:=by rw[hfi];exact p3 i hb
    simp[c_m_13,zF]
    refine hA2 _ _ (by simp(disch:=((try simp only[zc,ze]);omega)) [ol2]) ?_
    have r1:=p1.frame (Y:=j2) (by omega) (y':=((y.new (.rows false 3 [[I 0,I 0,I 0]])).put y.next (.rows false 3 [[I g.es[e].f,I g.es[e].a,I g.es[e].t]])).put M3.next o4) (by repeat' (first|assumption|exact zt _ _|apply zu|apply zx|apply zA| ((try simp only[zc,ze,zf]);omega))) (by simp;omega)
    have r2:(((y.new (.rows false 3 [[I 0,I 0,I 0]])).put y.next (.rows false 3 [[I g.es[e].f,I g.es[e].a,I g.es[e].t]])).put M3.next o4).obj y.next=some (.rows false 3 [[I g.es[e].f,I g.es[e].a,I g.es[e].t]]):=by simp(disch:=omega)
    have r3:(((y.new (.rows false 3 [[I 0,I 0,I 0]])).put y.next (.rows false 3 [[I g.es[e].f,I g.es[e].a,I g.es[e].t]])).put M3.next o4).obj M3.next=some o4:=by simp
    have r4:SM M3.next y (((y.new (.rows false 3 [[I 0,I 0,I 0]])).put y.next (.rows false 3 [[I g.es[e].f,I g.es[e].a,I g.es[e].t]])).put M3.next o4):=(by repeat' (first|assumption|exact zt _ _|apply zu|apply zx|apply zA| ((try simp only[zc,ze,zf]);omega)))
    have r5:y.next<(((y.new (.rows false 3 [[I 0,I 0,I 0]])).put y.next (.rows false 3 [[I g.es[e].f,I g.es[e].a,I g.es[e].t]])).put M3.next o4).next:=by simp;omega
    generalize ((y.new (.rows false 3 [[I 0,I 0,I 0]])).put y.next (.rows false 3 [[I g.es[e].f,I g.es[e].a,I g.es[e].t]])).put M3.next o4=y2 at*
    rw[htn] at r2⊢
    have x6:=r1.o6;have x7:=r1.o7;have x9:=r1.o9
    have p4':=zM r4 (by omega) p4
    have p5':=zM r4 (by omega) p5
    have p6':=zM r4 (by omega) p6
    have oj2':=zM r4 (by omega) oj2
    have oj3':=zM r4 (by omega) oj3
    have hend: ∀s' y',SM y2.next y2 y'∨y'=y2→(g.es[e].a=w∨mi.testBit tn=false)→y2.next≤y'.next→Kd.nrm s' y':=fun s' y' hs hc hn2=>by
     have hs:SM y2.next y2 y':=by rcases hs with hs|rfl;exact hs;exact zt _ _
     refine fin2 _ _ (zM hs (by omega) r3) ⟨zM hs (by omega) oj2',zM hs (by omega) oj3',by omega,m',r1.frame (by omega) hs hn2,p2,p3,zM hs (by omega) p4',zM hs (by omega) p5',zM hs (by omega) p6',by omega,p8,fun q hq h hf ha hm=> ?_⟩
     by_cases c2:q=e
     ·subst c2
      rcases hc with hc|hc
      ·exact absurd hc ha
      ·rw[htn2,hc] at hm;cases hm
     ·exact p9 q hq (by omega) hf ha hm
    by_cases hw:g.es[e].a=w
    ·simp[zb3,r2,x7,hw]
     exact hend _ _ (.inr rfl) (.inl hw) (Nat.le_refl _)
    ·simp[zb3,r2,x7,hw,x6]
     refine zdA mi tn hmi (by omega) ?_
     cases hb2:mi.testBit tn with
     |false=>
      simp[hb2]
      exact hend _ _ (.inr rfl) (.inr hb2) (Nat.le_refl _)
     |true=>
      simp[hb2,r2]
      refine zi3 m' tn _ p2.lt (by omega) x9 ?_
      simp
      have hp2:=p2.add hg hN he hm' hw (by rw[htn2];exact hb2)
      rw[htn2] at hp2
      refine fin2 _ _ (by simp(disch:=omega) [r3]) ⟨by simp(disch:=omega) [oj2'],by simp(disch:=omega) [oj3'],by simp;omega,m' ||| 2^tn,r1.put _,hp2,fun v hv=>subB_or _ _ _ (p3 v hv),by simp(disch:=omega) [p4'],by simp(disch:=omega) [p5'],by simp(disch:=omega) [p6'],by simp;omega,fun a b ha hm r=>subB_or _ _ _ (p8 a b ha hm r),fun q hq h hf ha hm=> ?_⟩
      by_cases c2:q=e
      ·subst c2;rw[htn2];exact(zlA _ _ _).2 (.inr rfl)
      ·exact subB_or _ _ _ (p9 q hq (by omega) hf ha hm)
   ·simp
    refine fin _ _ p4 ⟨p5,by omega,m',p1,p2,p3,p6,by omega,fun a b ha hm r=> ?_⟩
    by_cases c2:a=i
    ·subst c2
     obtain⟨e,q1,q2,q3,q4,q5⟩:=r
     obtain⟨q,hq,rfl⟩:=List.getElem_of_mem q1
     have:=p9 q hq hq q2 q4 (by rw[q3];simpa using q5)
     rw[q3] at this;simpa using this
    ·exact p8 a b (by omega) hm r
  ·simp at again
   simp[q4]
   have hz:SM y.next y ((y.new (.rows false 1 [[.int .u64 0]])).put y.next (setO m)):=(by repeat' (first|assumption|exact zt _ _|apply zu|apply zx|apply zA| ((try simp only[zc,ze,zf]);omega)))
   refine again _ y.next m m' ?_ (q1.frame (Y:=y.next) (by have:=q1.nx;omega) hz (by simp;omega)) (by have:=q1.nx;omega) (by simp;omega) (by simp) q2 h5.lt q3 (fun a b ha r=> ?_)
   ·by_cases e:m=m'
    ·rw[if_pos e,if_neg c,←e];omega
    ·rw[if_neg e,if_neg c]
     have:=nof_sub q3 (fun v hv=>(q2.snd v hv).1) e
     omega
   ·refine q6 a b ?_ ha r
    have:=(h5.snd a ha).1
    omega
end Go.Ideal.S
namespace Go.Ideal.S
open Classical
section
variable (E:Nat→Int→Nat→Prop) (w:Int) (st:Bool)
def zca (P:Nat→Prop) (a b:Nat):Prop:= ∃x,E a x b∧x≠w∧P b
def Opn (P:Nat→Prop) (x:Int):Prop:= ∃a b,E a x b∧P a
def Ins (P:Nat→Prop) (x:Int):Prop:= ∃a b,E a x b∧P a∧P b
structure Core (P:Nat→Prop):Prop where
 ne: ∃x,x≠w∧Ins E P x
 con: ∀a b,P a→P b→Star (zca E w P) a b
 fair: ∀x,x≠w→Opn E P x→Ins E P x
 op:st=true∧Opn E P w∨st=false∧ ¬Opn E P w
def Bad (P:Nat→Prop) (v:Nat):Prop:= ∃x b,E v x b∧(x=w∧st=false∨x≠w∧ ¬Ins E P x)
def Rest (P:Nat→Prop) (v:Nat):Prop:=P v∧ ¬Bad E w st P v
def Part (I P:Nat→Prop):Prop:= ∃i,I i∧ ∀v,P v↔Star (zca E w I) i v∧Star (zca E w I) v i
end
section
variable {E:Nat→Int→Nat→Prop} {w:Int} {st:Bool} {I P Q:Nat→Prop}
theorem step_mono (h: ∀v,Q v→P v) {a b:Nat} (x:Star (zca E w Q) a b):Star (zca E w P) a b:=by
 induction x with
 |refl=>exact .refl _
 |tail _ r ih=>obtain⟨x,h1,h2,h3⟩:=r;exact ih.tail ⟨x,h1,h2,h _ h3⟩
theorem star_in {a b:Nat} (x:Star (zca E w P) a b) (ha:P a):P b:=x.keep (P:=P) (fun _ _ _ r=>by obtain⟨_,_,_,h⟩:=r;exact h) ha
theorem Part.sub (h:Part E w I P) {v:Nat} (hv:P v):I v:=by
 obtain⟨i,h1,h2⟩:=h
 exact star_in ((h2 v).1 hv).1 h1
theorem Core.part (hQ:Core E w st Q) (h:Part E w I P) (hI: ∀u,Q u→I u) {v:Nat} (hv:Q v) (hp:P v) {u:Nat} (hu:Q u):P u:=by
 obtain⟨i,h1,h2⟩:=h
 obtain⟨h3,h4⟩:=(h2 v).1 hp
 exact(h2 u).2 ⟨h3.trans (step_mono hI (hQ.con v u hv hu)),(step_mono hI (hQ.con u v hu hv)).trans h4⟩
theorem Part.con (h:Part E w I P) {a b:Nat} (ha:P a) (hb:P b):Star (zca E w P) a b:=by
 obtain⟨i,h1,h2⟩:=h
 obtain⟨a1,a2⟩:=(h2 a).1 ha
 obtain⟨b1,b2⟩:=(h2 b).1 hb
 have main: ∀c,Star (zca E w I) a c→Star (zca E w I) c b→Star (zca E w P) a c:=by
  intro c hc
  induction hc with
  |refl=>intro _;exact .refl _
  | @tail c d hc r ih=>
    intro hd
    obtain⟨x,r1,r2,r3⟩:=r
    have hcd:Star (zca E w I) c d:=Star.one ⟨x,r1,r2,r3⟩
    refine(ih (hcd.trans hd)).tail ⟨x,r1,r2,(h2 _).2 ⟨a1.trans (hc.trans hcd),hd.trans b2⟩⟩
 exact main b (a2.trans b1) (.refl _)
theorem Core.rest (hQ:Core E w st Q) (h: ∀u,Q u→P u) {v:Nat} (hv:Q v):Rest E w st P v:=by
 refine⟨h v hv,fun⟨x,b,h1,h2⟩=> ?_⟩
 rcases h2 with⟨rfl,h3⟩| ⟨h3,h4⟩
 ·rcases hQ.op with⟨h5,_⟩| ⟨_,h5⟩
  ·rw[h3] at h5;cases h5
  ·exact h5 ⟨v,b,h1,hv⟩
 ·obtain⟨c,d,h5,h6,h7⟩:=hQ.fair x h3 ⟨v,b,h1,hv⟩
  exact h4 ⟨c,d,h5,h _ h6,h _ h7⟩
theorem core_same (h:Part E w I P) (hn: ∃x,x≠w∧Ins E P x) (hb: ∀v,P v→ ¬Bad E w st P v) (ho:st=true→Opn E P w):Core E w st P:=by
 refine⟨hn,fun a b ha hb=>h.con ha hb,fun x hx ⟨a,b,h1,h2⟩=> ?_,?_⟩
 ·exact Classical.byContradiction fun hc=>hb a h2 ⟨x,b,h1,.inr ⟨hx,hc⟩⟩
 ·cases st with
  |true=>exact .inl ⟨rfl,ho rfl⟩
  |false=>exact .inr ⟨rfl,fun⟨a,b,h1,h2⟩=>hb a h2 ⟨w,b,h1,.inl ⟨rfl,rfl⟩⟩⟩
theorem Core.closed (hQ:Core E w st Q) {T:Nat→Prop} (hT: ∀a x b,T a→E a x b→x≠w→T b) {v u:Nat} (hv:Q v) (ht:T v) (hu:Q u):T u:=
 (hQ.con v u hv hu).keep (P:=T) (fun a b ha ⟨x,h1,h2,_⟩=>hT a x b ha h1 h2) ht
theorem Core.some (hQ:Core E w st Q): ∃v,Q v:=by
 obtain⟨x,_,a,b,_,h,_⟩:=hQ.ne
 exact⟨a,h⟩
def RgIn (E:Nat→Int→Nat→Prop) (w:Int) (st:Bool) (I:Nat→Prop) (v:Nat):Prop:= ∃Q,Core E w st Q∧(∀u,Q u→I u)∧Q v
theorem rg_empty (h:Part E w I P) (hn: ¬ ∃x,x≠w∧Ins E P x) {v:Nat} (hv:P v): ¬RgIn E w st I v:=by
 rintro⟨Q,h1,h2,h3⟩
 obtain⟨x,hx,a,b,q1,q2,q3⟩:=h1.ne
 exact hn ⟨x,hx,a,b,q1,h1.part h h2 h3 hv q2,h1.part h h2 h3 hv q3⟩
theorem rg_none (h:Part E w I P) (hs:st=true) (ho: ¬Opn E P w) {v:Nat} (hv:P v): ¬RgIn E w st I v:=by
 rintro⟨Q,h1,h2,h3⟩
 rcases h1.op with⟨_,a,b,q1,q2⟩| ⟨q,_⟩
 ·exact ho ⟨a,b,q1,h1.part h h2 h3 hv q2⟩
 ·rw[hs] at q;cases q
end
end Go.Ideal.S
namespace Go.Ideal.S
open Go Go.Ideal Q Classical
attribute [local simp] decide_eq_true decide_eq_false zH
attribute [local simp] c_z f_z r_z_2 r_V c_V f_V r_V_1 r_V_2 c_Q f_Q r_Q_1 c_r f_r r_r_1 r_r_2 r_r_3 r_r_4 r_r_5 r_r_6 r_r_7 r_r_8 r_r_9 r_r_11
variable {M:VM} {k kp:DV→VM→Prop} {n0:Nat}
def EG (g:Gr) (a:Nat) (x:Int) (b:Nat):Prop:= ∃e∈g.es,e.f=(a:Int)∧e.a=x∧e.t=(b:Int)
theorem EG_of {g:Gr} (hg:zbr g) {e:Edge} (he:e∈g.es):EG g e.f.toNat e.a e.t.toNat:=by
 have h:=hg.ok e he
 have:=h.f0;have:=h.t0
 exact⟨e,he,by omega,rfl,by omega⟩
theorem RF_step {g:Gr} {p:Nat→Bool} {w:Int} {a b:Nat}:RF g p w a b↔zca (EG g) w (fun v=>p v=true) a b:=by
 constructor
 ·rintro⟨e,h1,h2,h3,h4,h5⟩;exact⟨e.a,⟨e,h1,h2,rfl,h3⟩,h4,h5⟩
 ·rintro⟨x,⟨e,h1,h2,rfl,h3⟩,h4,h5⟩;exact⟨e,h1,h2,h3,h4,h5⟩
def insB (g:Gr) (p:Nat→Bool) (a w:Int):Bool:=g.es.any fun e=>p e.f.toNat&&(p e.t.toNat&&(decide (e.a≠w)&&(decide (a<0)||decide (e.a=a))))
def opnB (g:Gr) (p:Nat→Bool) (a:Int):Bool:=g.es.any fun e=>p e.f.toNat&&decide (e.a=a)
theorem zh6 {g:Gr} (hg:zbr g) {p:Nat→Bool} {a:Int}:opnB g p a=true↔Opn (EG g) (fun v=>p v=true) a:=by
 unfold opnB
 simp only[List.any_eq_true,Bool.and_eq_true,decide_eq_true_eq]
 constructor
 ·rintro⟨e,h1,h2,rfl⟩;exact⟨_,_,EG_of hg h1,h2⟩
 ·rintro⟨x,y,⟨e,h1,h2,h3,h4⟩,h5⟩;exact⟨e,h1,by rw[h2];exact h5,h3⟩
theorem insB_iff {g:Gr} (hg:zbr g) {p:Nat→Bool} {a w:Int} (h0:0≤a) (hw:a≠w):insB g p a w=true↔Ins (EG g) (fun v=>p v=true) a:=by
 unfold insB
 simp only[List.any_eq_true,Bool.and_eq_true,Bool.or_eq_true,decide_eq_true_eq]
 constructor
 ·rintro⟨e,h1,h2,h3,h4,h5⟩
  rcases h5 with h5|rfl
  ·omega
  ·exact⟨_,_,EG_of hg h1,h2,h3⟩
 ·rintro⟨x,y,⟨e,h1,h2,h3,h4⟩,h5,h6⟩;exact⟨e,h1,by rw[h2];exact h5,by rw[h4];exact h6,by rw[h3];exact hw,.inr h3⟩
theorem insB_any {g:Gr} (hg:zbr g) {p:Nat→Bool} {w:Int}:insB g p (-1) w=true↔ ∃x,x≠w∧Ins (EG g) (fun v=>p v=true) x:=by
 unfold insB
 simp only[List.any_eq_true,Bool.and_eq_true,Bool.or_eq_true,decide_eq_true_eq]
 constructor
 ·rintro⟨e,h1,h2,h3,h4,_⟩;exact⟨e.a,h4,_,_,EG_of hg h1,h2,h3⟩
 ·rintro⟨z,hz,x,y,⟨e,h1,h2,h3,h4⟩,h5,h6⟩;exact⟨e,h1,by rw[h2];exact h5,by rw[h4];exact h6,by rw[h3];exact hz,.inl (by decide)⟩
theorem zlG {g:Gr} (hg:zbr g) (m:Nat) (a w:Int) (hm:m<2^64) (hk:k (.bool (insB g m.testBit a w)) M):zy F (.fn n_z [] []) [.agg (eGr g),setD m,I a,I w] M k kp:=by
 have hl:g.es.length≤1000000:=by have:=hg.el;omega
 have g2:=hg.s2
 apply zy.back
 refine .fn zgB rfl (by simp[f_z]) ?_
 simp(disch:=((try simp only[zc,ze,zf]);omega)) [eGr]
 refine zhI g.es _ (fun e=>m.testBit e.f.toNat&&(m.testBit e.t.toNat&&(decide (e.a≠w)&&(decide (a<0)||decide (e.a=a))))) hl (fun x hx {k kp} hk=> ?_) ?_
 ·have he:=hg.ok x hx
  have a0:=he.f0;have a1:=he.f1;have a2:=he.t0;have a3:=he.t1
  obtain⟨c,hc⟩:=Int.eq_ofNat_of_zero_le a0
  obtain⟨d,hd⟩:=Int.eq_ofNat_of_zero_le a2
  rw[hc,hd,Int.toNat_natCast,Int.toNat_natCast] at hk
  apply zy.back
  refine .fn zfw rfl (by simp[f_V]) ?_
  simp[zF,hc,hd]
  refine zdA m c hm (by omega) ?_
  cases hb:m.testBit c with
  |false=>
   rw[hb] at hk
   simp[zF,hc,hd]
   exact Back.plain (by simp) (by repeat' (first|assumption|exact zt _ _|apply zu|apply zx|apply zA| ((try simp only[zc,ze,zf]);omega))) (by simpa using hk)
  |true=>
   rw[hb] at hk
   simp[zF,hc,hd]
   refine zdA m d hm (by omega) ?_
   cases hb2:m.testBit d with
   |false=>
    rw[hb2] at hk
    simp[zF,hc,hd]
    exact Back.plain (by simp) (by repeat' (first|assumption|exact zt _ _|apply zu|apply zx|apply zA| ((try simp only[zc,ze,zf]);omega))) (by simpa using hk)
   |true=>
    rw[hb2] at hk
    by_cases e1:x.a=w
    ·rw[decide_eq_false (fun h=>h e1)] at hk
     simp[zF,hc,hd,e1]
     exact Back.plain (by simp) (by repeat' (first|assumption|exact zt _ _|apply zu|apply zx|apply zA| ((try simp only[zc,ze,zf]);omega))) (by simpa using hk)
    ·rw[decide_eq_true e1] at hk
     by_cases e2:a<0
     ·rw[decide_eq_true e2] at hk
      simp[zF,hc,hd,e1,e2]
      exact Back.plain (by simp) (by repeat' (first|assumption|exact zt _ _|apply zu|apply zx|apply zA| ((try simp only[zc,ze,zf]);omega))) (by simpa using hk)
     ·rw[decide_eq_false e2] at hk
      by_cases e3:x.a=a
      ·rw[decide_eq_true e3] at hk
       simp(disch:=((try simp only[zc,ze,zf]);omega)) [zF,hc,hd,e1,e2,e3]
       exact Back.plain (by simp) (by repeat' (first|assumption|exact zt _ _|apply zu|apply zx|apply zA| ((try simp only[zc,ze,zf]);omega))) (by simpa using hk)
      ·rw[decide_eq_false e3] at hk
       simp[zF,hc,hd,e1,e2,e3]
       exact Back.plain (by simp) (by repeat' (first|assumption|exact zt _ _|apply zu|apply zx|apply zA| ((try simp only[zc,ze,zf]);omega))) (by simpa using hk)
 unfold insB at hk
 generalize (g.es.any _)=b at*
 simp
 exact Back.plain (by simp) (by repeat' (first|assumption|exact zt _ _|apply zu|apply zx|apply zA| ((try simp only[zc,ze,zf]);omega))) hk
def clr (m n:Nat):Nat:=(BitVec.ofNat 64 m &&& ~~~(BitVec.ofNat 64 (2^n))).toNat
theorem clr_lt (m n:Nat):clr m n<2^64:=BitVec.isLt _
theorem clr_bit {m n:Nat} (hm:m<2^64) (hn:n<64) (v:Nat):(clr m n).testBit v=true↔m.testBit v=true∧v≠n:=by
 unfold clr
 rw[BitVec.testBit_toNat,BitVec.getLsbD_and,BitVec.getLsbD_not,BitVec.getLsbD_ofNat,BitVec.getLsbD_ofNat,Nat.testBit_two_pow]
 by_cases h:v<64
 ·simp[h];intro _;exact⟨fun h e=>h e.symm,fun h e=>h e.symm⟩
 ·have:m.testBit v=false:=Nat.testBit_lt_two_pow (Nat.lt_of_lt_of_le hm (Nat.pow_le_pow_right (by omega) (by omega)))
  simp[h,this]
theorem bin_andNot_u {ek:EK} {m n:Nat}:binD .andNot ek (.int .u64 (m:Int)) (.int .u64 ((2^n:Nat):Int))=some (.int .u64 ((clr m n:Nat):Int)):=by
 show some (DV.int .u64 (IntKind.u64.wrap (((BitVec.ofInt 64 (m:Int) &&& ~~~(BitVec.ofInt 64 ((2^n:Nat):Int))).toNat:Nat):Int)))=_
 rw[BitVec.ofInt_natCast,BitVec.ofInt_natCast]
 have:=clr_lt m n
 unfold clr at*
 rw[wrapU (by omega) (by omega)]
theorem drop_ok (m n j:Nat) (hm:m<2^64) (hn:n<64) (ho:M.obj j=some (setO m)) (hk:k (.tup []) (M.put j (setO (clr m n)))):zy F (.fn n_Q [] []) [.ptr j 0 0,I n] M k kp:=by
 refine .fn zjs rfl (by simp[f_Q]) ?_
 have h1:=zjQ (ek:=.other) (n:=(n:Int)) (by omega) (by omega)
 have h2:=zjP (ek:=.other) (n:=(n:Int)) (by omega) (by omega)
 have h3:=bin_shl_u (ek:=.other) n hn
 have h4:=bin_andNot_u (ek:=.other) (m:=m) (n:=n)
 generalize clr m n=q2 at*
 generalize 2^n=q1 at*
 simp[h1,h2,h3,h4,ho]
 exact hk
end Go.Ideal.S
namespace Go.Ideal.S
open Go Go.Ideal Q Classical
attribute [local simp] decide_eq_true decide_eq_false zH
attribute [local simp] c_r f_r r_r_1 r_r_2 r_r_3 r_r_4 r_r_5 r_r_6 r_r_7 r_r_8 r_r_9 r_r_11
variable {M:VM} {k kp:DV→VM→Prop} {n0:Nat}
def badE (g:Gr) (p:Nat→Bool) (w:Int) (st:Bool) (e:Edge):Bool:=p e.f.toNat&&(if e.a=w then !st else !insB g p e.a w)
def ziL (g:Gr) (p:Nat→Bool) (w:Int) (st:Bool) (i:Nat) (v:Nat):Bool:=p v&& !((g.es.take i).any fun e=>decide (e.f.toNat=v)&&badE g p w st e)
theorem restI_zero {g:Gr} {p:Nat→Bool} {w:Int} {st:Bool} (v:Nat):ziL g p w st 0 v=p v:=by simp[ziL]
theorem zkA {g:Gr} {p:Nat→Bool} {w:Int} {st:Bool} {i:Nat} (hi:i<g.es.length) (v:Nat):ziL g p w st (i+1) v=(ziL g p w st i v&& !(decide (g.es[i].f.toNat=v)&&badE g p w st g.es[i])):=by
 unfold ziL
 rw[List.take_succ_eq_append_getElem hi,List.any_append,List.any_cons,List.any_nil,Bool.or_false,Bool.not_or,Bool.and_assoc]
theorem bad_iff {g:Gr} (hg:zbr g) {p:Nat→Bool} {w:Int} {st:Bool} {v:Nat}:(∃e∈g.es,e.f.toNat=v∧badE g p w st e=true)↔p v=true∧Bad (EG g) w st (fun v=>p v=true) v:=by
 constructor
 ·rintro⟨e,h1,rfl,h3⟩
  unfold badE at h3
  rw[Bool.and_eq_true] at h3
  have h:=hg.ok e h1
  refine⟨h3.1,e.a,e.t.toNat,EG_of hg h1,?_⟩
  by_cases c:e.a=w
  ·rw[if_pos c] at h3;exact .inl ⟨c,by simpa using h3.2⟩
  ·rw[if_neg c] at h3
   refine .inr ⟨c,fun hx=> ?_⟩
   rw[(insB_iff hg h.a0 c).2 hx] at h3;simp at h3
 ·rintro⟨hp,x,b,⟨e,h1,h2,rfl,h3⟩,h4⟩
  have h:=hg.ok e h1
  have hv:e.f.toNat=v:=by omega
  refine⟨e,h1,hv,?_⟩
  unfold badE
  rw[hv,hp,Bool.true_and]
  rcases h4 with⟨c,hs⟩| ⟨c,hn⟩
  ·rw[if_pos c,hs];rfl
  ·rw[if_neg c,Bool.not_eq_true']
   cases hh:insB g p e.a w with
   |false=>rfl
   |true=>exact absurd ((insB_iff hg h.a0 c).1 hh) hn
theorem ziK {g:Gr} (hg:zbr g) {p:Nat→Bool} {w:Int} {st:Bool} {v:Nat}:ziL g p w st g.es.length v=true↔Rest (EG g) w st (fun v=>p v=true) v:=by
 unfold ziL Rest
 rw[List.take_length,Bool.and_eq_true,Bool.not_eq_true',Bool.eq_false_iff,Ne,List.any_eq_true]
 simp only[Bool.and_eq_true,decide_eq_true_eq]
 constructor
 ·rintro⟨h1,h2⟩
  exact⟨h1,fun hb=>h2 ((bad_iff hg).2 ⟨h1,hb⟩)⟩
 ·rintro⟨h1,h2⟩
  exact⟨h1,fun hb=>h2 ((bad_iff hg).1 hb).2⟩
theorem jgood_ok {g:Gr} (hg:zbr g) (m:Nat) (w:Int) (st:Bool) (hm:m<2^64) (hk: ∀m',m'<2^64→(∀v,m'.testBit v=ziL g m.testBit w st g.es.length v)→k (setD m') M):zy F (.fn n_r [] []) [.agg (eGr g),setD m,I w,.bool st] M k kp:=by
 have hl:g.es.length≤1000000:=by have:=hg.el;omega
 have g2:=hg.s2
 apply zy.back
 refine .fn zhX rfl (by simp[f_r]) ?_
 simp(disch:=((try simp only[zc,ze,zf]);omega)) [eGr]
 refine zcs.gen (Q:=fun y=>SM M.next M y∧M.next+4≤y.next∧y.obj M.next=some (grO g)∧y.obj (M.next+1)=some (setO m)∧y.obj (M.next+2)=some (setO 0)∧y.obj (M.next+3)=some (setO m)) ⟨(by repeat' (first|assumption|exact zt _ _|apply zu|apply zx|apply zA| ((try simp only[zc,ze,zf]);omega))),by simp<;>omega,?_,?_,?_,?_⟩ fun y0 hy0=> ?_
 iterate 4 exact by simp(disch:=((try simp only[zc,ze]);omega))
 refine .for (σ:=VM×Nat) c_r_10.eq_1 (fun i _=>[(17,I i)]) (fun x=>x.1) (fun i x=>SM M.next M x.1∧M.next+4≤x.1.next∧x.1.obj M.next=some (grO g)∧x.1.obj (M.next+1)=some (setO m)∧x.1.obj (M.next+2)=some (setO 0)∧x.1.obj (M.next+3)=some (setO x.2)∧x.2<2^64∧ ∀v,x.2.testBit v=ziL g m.testBit w st i v) g.es.length (y0,m) (by simp) rfl
  ⟨hy0.1,hy0.2.1,hy0.2.2.1,hy0.2.2.2.1,hy0.2.2.2.2.1,hy0.2.2.2.2.2,hm,fun v=>(restI_zero v).symm⟩ (fun i x hi hP again=> ?_) (fun x hP=> ?_)
 ·obtain⟨y,m'⟩:=x
  obtain⟨h1,h2,h3,h4,h5,h6,h7,h8⟩:=hP
  dsimp only at*
  simp at again
  have he:=hg.ok _ (List.getElem_mem hi)
  have a0:=he.f0;have a1:=he.f1;have a2:=he.t0;have a3:=he.t1;have a4:=he.a0
  obtain⟨fn,hf⟩:=Int.eq_ofNat_of_zero_le a0
  have hfn:g.es[i].f.toNat=fn:=by omega
  have r0:SM y.next y ((y.new (.rows false 3 [[I 0,I 0,I 0]])).put y.next (.rows false 3 [[I fn,I g.es[i].a,I g.es[i].t]])):=(by repeat' (first|assumption|exact zt _ _|apply zu|apply zx|apply zA| ((try simp only[zc,ze,zf]);omega)))
  have r1:((y.new (.rows false 3 [[I 0,I 0,I 0]])).put y.next (.rows false 3 [[I fn,I g.es[i].a,I g.es[i].t]])).obj y.next=some (.rows false 3 [[I fn,I g.es[i].a,I g.es[i].t]]):=by simp
  have r2:y.next≤((y.new (.rows false 3 [[I 0,I 0,I 0]])).put y.next (.rows false 3 [[I fn,I g.es[i].a,I g.es[i].t]])).next:=by simp;omega
  simp(disch:=((try simp only[zc,ze,zf]);omega)) [zF,hi,hf,h4]
  generalize (y.new (.rows false 3 [[I 0,I 0,I 0]])).put y.next (.rows false 3 [[I fn,I g.es[i].a,I g.es[i].t]])=y1 at*
  have s1:SM M.next M y1:=zeB h1 (zfh r0 (by omega))
  have s3:=zM r0 (by omega) h3
  have s4:=zM r0 (by omega) h4
  have s5:=zM r0 (by omega) h5
  have s6:=zM r0 (by omega) h6
  have hstay:badE g m.testBit w st g.es[i]=false→ ∀v,m'.testBit v=ziL g m.testBit w st (i+1) v:=fun hb v=>by
   rw[zkA hi,hb,h8];simp
  have hbe:badE g m.testBit w st g.es[i]=(m.testBit fn&&(if g.es[i].a=w then !st else !insB g m.testBit g.es[i].a w)):=by unfold badE;rw[hfn]
  refine zdA m fn hm (by omega) ?_
  cases hb:m.testBit fn with
  |false=>
   rw[hb,Bool.false_and] at hbe
   simp(disch:=((try simp only[zc,ze,zf]);omega)) [hb]
   exact again y1 m' s1 (by omega) s3 s4 s5 s6 h7 (hstay hbe)
  |true=>
   rw[hb,Bool.true_and] at hbe
   have hdrop:badE g m.testBit w st g.es[i]=true→ ∀v,(clr m' fn).testBit v=ziL g m.testBit w st (i+1) v:=fun hb v=>by
    rw[zkA hi,hb,←h8,hfn,Bool.and_true,Bool.eq_iff_iff,clr_bit h7 (by omega)]
    simp;intro _;exact⟨fun h e=>h e.symm,fun h e=>h e.symm⟩
   by_cases c:g.es[i].a=w
   ·rw[if_pos c] at hbe
    cases st with
    |true=>
     simp(disch:=((try simp only[zc,ze,zf]);omega)) [hb,r1,c]
     exact again y1 m' s1 (by omega) s3 s4 s5 s6 h7 (hstay hbe)
    |false=>
     simp[hb,r1,c]
     refine drop_ok m' fn _ h7 (by omega) s6 ?_
     simp(disch:=((try simp only[zc,ze,zf]);omega))
     exact again _ _ (zu s1 (by omega)) (by simp;omega) (by simp(disch:=omega) [s3]) (by simp(disch:=omega) [s4]) (by simp(disch:=omega) [s5]) (by simp) (clr_lt _ _) (hdrop hbe)
   ·rw[if_neg c] at hbe
    simp[hb,r1,c,s3,s4]
    refine zlG hg m g.es[i].a w hm ?_
    cases hin:insB g m.testBit g.es[i].a w with
    |true=>
     rw[hin] at hbe
     simp(disch:=((try simp only[zc,ze,zf]);omega)) [hin]
     exact again y1 m' s1 (by omega) s3 s4 s5 s6 h7 (hstay hbe)
    |false=>
     rw[hin] at hbe
     simp[hin,r1]
     refine drop_ok m' fn _ h7 (by omega) s6 ?_
     simp(disch:=((try simp only[zc,ze,zf]);omega))
     exact again _ _ (zu s1 (by omega)) (by simp;omega) (by simp(disch:=omega) [s3]) (by simp(disch:=omega) [s4]) (by simp(disch:=omega) [s5]) (by simp) (clr_lt _ _) (hdrop hbe)
 ·obtain⟨y,m'⟩:=x
  obtain⟨h1,h2,h3,h4,h5,h6,h7,h8⟩:=hP
  dsimp only at*
  simp[h6,h5]
  exact Back.plain (by simp) (zu h1 (by omega)) (hk m' h7 h8)
end Go.Ideal.S
namespace Go.Ideal.S
open Go Go.Ideal Q Classical
attribute [local simp] decide_eq_true decide_eq_false zH
variable {M:VM} {k kp:DV→VM→Prop} {n0:Nat}
end Go.Ideal.S
namespace Go.Ideal.S
open Go Go.Ideal Q Classical
attribute [local simp] decide_eq_true decide_eq_false zH
variable {M:VM} {k kp:DV→VM→Prop} {n0:Nat}
end Go.Ideal.S
namespace Go.Ideal.S
open Go Go.Ideal Q Classical
attribute [local simp] decide_eq_true decide_eq_false zH
theorem RF_star {g:Gr} {p:Nat→Bool} {w:Int} {a b:Nat}:Star (RF g p w) a b↔Star (zca (EG g) w (fun v=>p v=true)) a b:=⟨fun h=>h.imp fun a b=>RF_step.1,fun h=>h.imp fun a b=>RF_step.2⟩
variable {M:VM} {k kp:DV→VM→Prop} {n0:Nat}
def cntB (N:Nat) (p:Nat→Bool):Nat:=(List.range N).countP p
end Go.Ideal.S
set_option maxHeartbeats 2000000
namespace Go.Ideal.S
open Go Go.Ideal Q Classical
attribute [local simp] decide_eq_true decide_eq_false zH
variable {n0:Nat}
end Go.Ideal.S
namespace Go.Ideal.S
open Go Go.Ideal Q Classical
attribute [local simp] decide_eq_true decide_eq_false zH
attribute [local simp] c_g f_g r_g_1 r_g_2 r_g_3 r_g_4 r_g_5 r_g_6 r_g_7 r_g_8 r_g_9 r_g_10 r_g_11 r_g_12 r_g_13 r_g_15 r_g_16 r_g_17 r_g_18 r_g_19 r_g_20 r_g_21 r_g_23
variable {n0:Nat}
theorem zii {g:Gr} (hg:zbr g) {m:Nat} {w:Int} {a b:Nat}:Star (RIn g m w) a b↔Star (zca (EG g) w (fun v=>m.testBit v=true)) a b:=
 ⟨fun h=>h.imp fun a b r=>RF_step.1 ((RIn_iff hg m w a b).1 r),fun h=>h.imp fun a b r=>(RIn_iff hg m w a b).2 (RF_step.2 r)⟩
theorem zi7 {g:Gr} (hg:zbr g) {m N many:Nat} {w:Int} {cmp:Nat→Int} (hp:zj0 g m w N cmp many) {i:Nat} (hi:m.testBit i=true) {P:Nat→Prop} (hP: ∀v,P v↔cmp v=cmp i):Part (EG g) w (fun v=>m.testBit v=true) P:=by
 refine⟨i,hi,fun v=>(hP v).trans ⟨fun e=> ?_,fun⟨a,b⟩=> ?_⟩⟩
 ·have hv:m.testBit v=true:=by
   cases h:m.testBit v with
   |true=>rfl
   |false=>have:=hp.out v h;have:=(hp.ins i hi).1;omega
  obtain⟨a,b⟩:=(hp.eq i v hi hv).1 e.symm
  exact⟨(zii hg).1 a,(zii hg).1 b⟩
 ·have hv:m.testBit v=true:=star_in a hi
  exact((hp.eq i v hi hv).2 ⟨(zii hg).2 a,(zii hg).2 b⟩).symm
def eU (x:Nat):List DV:=[.int .u64 (x:Int)]
theorem c_U: ∀a,∀c∈eU a,zL c=true:=by simp[eU]
theorem l_U: ∀a,(eU a).length=1:=by simp[eU]
theorem b_U {n:Nat}: ∀a,∀d∈eU a,zJ n d:=by simp[eU]
structure JrP (g:Gr) (w:Int) (st:Bool) (N m:Nat) (cmp:Nat→Int) (k:Nat) (L:List Nat):Prop where
 snd: ∀x∈L,x<2^64∧Core (EG g) w st (fun v=>x.testBit v=true)∧ ∀u,x.testBit u=true→m.testBit u=true
 all: ∀Q,Core (EG g) w st Q→(∀u,Q u→m.testBit u=true)→ ∀v,Q v→cmp v<k→ ∃x∈L,∀u,Q u→x.testBit u=true
 len:L.length≤cntB N fun v=>m.testBit v&&decide (cmp v<k)
theorem JrP.next {g:Gr} (hg:zbr g) {w:Int} {st:Bool} {N m many:Nat} {cmp:Nat→Int} {k:Nat} {L L2:List Nat} (h:JrP g w st N m cmp k L) (hp:zj0 g m w N cmp many)
 (h1: ∀x∈L2,x<2^64∧Core (EG g) w st (fun v=>x.testBit v=true)∧ ∀u,x.testBit u=true→cmp u=k)
 (h2: ∀Q,Core (EG g) w st Q→(∀u,Q u→cmp u=k)→ ∃x∈L2,∀u,Q u→x.testBit u=true)
 (h3:L2.length≤cntB N fun v=>decide (cmp v=k)):JrP g w st N m cmp (k+1) (L++L2):=by
 have hm: ∀u,cmp u=k→m.testBit u=true:=fun u e=>by
  cases hh:m.testBit u with
  |true=>rfl
  |false=>have:=hp.out u hh;omega
 refine⟨fun x hx=> ?_,fun Q hQ hs v hv hk=> ?_,?_⟩
 ·rcases List.mem_append.1 hx with hx|hx
  ·exact h.snd x hx
  ·obtain⟨a,b,c⟩:=h1 x hx
   exact⟨a,b,fun u hu=>hm u (c u hu)⟩
 ·by_cases e:cmp v=k
  ·have hpart:=zi7 hg hp (hm v e) (P:=fun u=>cmp u=cmp v) fun u=>Iff.rfl
   obtain⟨x,a,b⟩:=h2 Q hQ fun u hu=>(hQ.part hpart hs hv rfl hu).trans e
   exact⟨x,List.mem_append_right _ a,b⟩
  ·obtain⟨x,a,b⟩:=h.all Q hQ hs v hv (by omega)
   exact⟨x,List.mem_append_left _ a,b⟩
 ·rw[List.length_append]
  have hl:=h.len
  have:(cntB N fun v=>m.testBit v&&decide (cmp v<k))+(cntB N fun v=>decide (cmp v=k))≤cntB N fun v=>m.testBit v&&decide (cmp v<((k+1:Nat):Int)):=by
   unfold cntB
   generalize List.range N=l
   clear hl h3
   induction l with
   |nil=>simp
   |cons a l ih=>
    simp only[List.countP_cons]
    by_cases c1:cmp a=k
    ·have:=hm a c1
     have c2: ¬cmp a<k:=by omega
     have c3:cmp a<((k+1:Nat):Int):=by omega
     rw[this,decide_eq_true c1,decide_eq_false c2,decide_eq_true c3];simp only[Bool.and_self,Bool.and_false,if_true,if_false,Bool.false_eq_true,Nat.add_zero] at ih⊢;omega
    ·have:decide (cmp a<((k+1:Nat):Int))=decide (cmp a<k):=by
      congr 1;apply propext;omega
     rw[this,decide_eq_false c1]
     simp only[Bool.false_eq_true,if_false,Nat.add_zero] at ih⊢
     split<;>omega
  omega
end Go.Ideal.S
namespace Go.Ideal.S
open Go Go.Ideal Q Classical
attribute [local simp] decide_eq_true decide_eq_false zH
attribute [local simp] c_g f_g r_g_1 r_g_2 r_g_3 r_g_4 r_g_5 r_g_6 r_g_7 r_g_8 r_g_9 r_g_10 r_g_11 r_g_12 r_g_13 r_g_15 r_g_16 r_g_17 r_g_18 r_g_19 r_g_20 r_g_21 r_g_23
variable {n0:Nat}
structure JrR (g:Gr) (w:Int) (st:Bool) (N m:Nat) (L:List Nat):Prop where
 snd: ∀x∈L,x<2^64∧Core (EG g) w st (fun v=>x.testBit v=true)∧ ∀u,x.testBit u=true→m.testBit u=true
 all: ∀Q,Core (EG g) w st Q→(∀u,Q u→m.testBit u=true)→ ∃x∈L,∀u,Q u→x.testBit u=true
 len:L.length≤cntB N m.testBit
theorem cntB_mono {N:Nat} {p q:Nat→Bool} (h: ∀v,p v=true→q v=true):cntB N p≤cntB N q:=List.countP_mono_left fun v _=>h v
theorem cntB_le {N:Nat} {p:Nat→Bool}:cntB N p≤N:=by have:=List.countP_le_length (p:=p) (l:=List.range N);rw[List.length_range] at this;exact this
theorem JrP.fin {g:Gr} {w:Int} {st:Bool} {N m many:Nat} {cmp:Nat→Int} {L:List Nat} (h:JrP g w st N m cmp many L) (hp:zj0 g m w N cmp many):JrR g w st N m L:=
 ⟨h.snd,fun Q hQ hs=>by
   obtain⟨v,hv⟩:=hQ.some
   exact h.all Q hQ hs v hv (hp.ins v (hs v hv)).2,Nat.le_trans h.len (cntB_mono fun v hv=>by rw[Bool.and_eq_true] at hv;exact hv.1)⟩
theorem jrings_ok {g:Gr} (hg:zbr g) {N:Nat} (hN:g.st=N) (w:Int) (st:Bool): ∀(n m:Nat),m<2^64→(∀v,m.testBit v=true→v<N)→cntB N m.testBit<n→ ∀{M:VM} {k kp:DV→VM→Prop},
 (∀L,JrR g w st N m L→k (.lst 1 (L.map eU)) M)→zy F (.fn n_g [] []) [.agg (eGr g),setD m,I w,.bool st] M k kp:=by
 intro n
 induction n with
 |zero=>intro m _ _ h;omega
 |succ n ih=>
 intro m hm hin hcnt M k kp hk
 have g2:=hg.s2
 have hl:g.es.length≤1000000:=by have:=hg.el;omega
 have eg:([I g.st,I g.ac,.lst 3 (g.es.map zF)]:List DV)=eGr g:=rfl
 apply zy.back
 refine .fn zhk rfl (by simp[f_g]) ?_
 simp[eGr]
 simp only[eg]
 refine parts_ok hg hm hN hin fun M2 j cmp many s1 s2 s3 s4 s5=> ?_
 have hs0:SM M.next M M2:=zeB (show SM M.next M ((M.new _).new _) from(by repeat' (first|assumption|exact zt _ _|apply zu|apply zx|apply zA| ((try simp only[zc,ze,zf]);omega)))) (zfh s1 (by simp;omega))
 have o4:M2.obj M.next=some (grO g):=zM s1 (by simp;omega) (by simp(disch:=((try simp only[zc]);omega)) [eGr])
 have hj:M.next+2≤j:=by simpa using s2
 clear s1 s2
 have hmany:=s5.le
 have h00:JrP g w st N m cmp (0:Nat) []:=⟨by simp,fun Q hQ hs v hv hc=>by have:=(s5.ins v (hs v hv)).1;omega,by simp⟩
 simp
 refine .for (σ:=VM×DV×List Nat) c_g_22.eq_1 (fun kk x=>[(11,x.2.1),(25,I kk)]) (fun x=>x.1) (fun kk x=>Acc M2 x.1 x.2.1 1 (x.2.2.map eU)∧JrP g w st N m cmp kk x.2.2) many (M2,.nilS,[]) (by simp) rfl ⟨Acc.nil M2 1,h00⟩ (fun kk x hkk hP again=> ?_) (fun x hP=> ?_)
 ·obtain⟨y,d,L⟩:=x
  obtain⟨hA,hJ⟩:=hP
  dsimp only at*
  have hx:=hA.nx
  have p4:y.obj M.next=some (grO g):=by rw[hA.obj (by omega)];exact o4
  have pj:y.obj j=some (.rows false 1 (R1 cmp N)):=by rw[hA.obj (by omega)];exact s4
  simp at again
  have hkk':(kk:Int)<many:=by omega
  simp[hkk']
  refine zcs.gen (Q:=fun z=>SM y.next y z∧y.next<z.next∧z.obj y.next=some (setO 0)) ⟨(by repeat' (first|assumption|exact zt _ _|apply zu|apply zx|apply zA| ((try simp only[zc,ze,zf]);omega))),by simp,by simp⟩ fun y0 hy0=> ?_
  refine .for (σ:=VM×Nat) c_g_14.eq_1 (fun q _=>[(30,I q)]) (fun x=>x.1) (fun q x=>SM y.next y x.1∧y.next<x.1.next∧x.1.obj y.next=some (setO x.2)∧x.2<2^64∧ ∀v,x.2.testBit v=true↔v<q∧cmp v=kk) N (y0,0) (by simp) rfl ⟨hy0.1,hy0.2.1,hy0.2.2,Nat.two_pow_pos 64,fun v=>by simp⟩ (fun q x hq hP again2=> ?_) (fun x hP=> ?_)
  ·obtain⟨y1,x⟩:=x
   obtain⟨h1,h2,h3,h4,h5⟩:=hP
   dsimp only at*
   have qj:=zM h1 (by omega) pj
   have rc:=zcU (f:=cmp) hq
   simp at again2
   by_cases c:cmp q=kk
   ·simp(disch:=((try simp only[zc,ze,zf]);omega)) [qj,hq,rc,c]
    refine zi3 x q _ h4 (by omega) h3 ?_
    simp(disch:=((try simp only[zc,ze,zf]);omega))
    refine again2 _ (x ||| 2^q) (zu h1 (Nat.le_refl _)) (by simp;omega) (by simp) (or_lt h4 (by omega)) fun v=> ?_
    rw[zlA,h5]
    constructor
    ·rintro(⟨a,b⟩|rfl)
     ·exact⟨by omega,b⟩
     ·exact⟨by omega,c⟩
    ·rintro⟨a,b⟩
     by_cases e:v=q
     ·exact .inr e
     ·exact .inl ⟨by omega,b⟩
   ·simp(disch:=((try simp only[zc,ze,zf]);omega)) [qj,hq,rc,c]
    refine again2 _ x h1 h2 h3 h4 fun v=> ?_
    rw[h5]
    exact⟨fun⟨a,b⟩=>⟨by omega,b⟩,fun⟨a,b⟩=>⟨by
     by_cases e:v=q
     ·subst e;exact absurd b c
     ·omega,b⟩⟩
  ·obtain⟨y1,x⟩:=x
   obtain⟨h1,h2,h3,h4,h5⟩:=hP
   dsimp only at*
   have q4:=zM h1 (by omega) p4
   have hA1:=hA.frame h1 (by omega)
   have hxm: ∀v,cmp v=kk→m.testBit v=true:=fun v e=>by
    cases hh:m.testBit v with
    |true=>rfl
    |false=>have:=s5.out v hh;omega
   have hxc: ∀v,x.testBit v=true↔cmp v=kk:=fun v=>(h5 v).trans ⟨fun a=>a.2,fun a=>⟨hin v (hxm v a),a⟩⟩
   have hpart: ∀i,cmp i=kk→Part (EG g) w (fun v=>m.testBit v=true) (fun v=>x.testBit v=true):=fun i hi=>zi7 hg s5 (hxm i hi) fun v=>by rw[hxc,hi]
   simp[h3,q4]
   simp only[eg]
   refine zlG hg x (-1) w h4 ?_
   cases hin2:insB g x.testBit (-1) w with
   |false=>
    have hn: ¬ ∃z,z≠w∧Ins (EG g) (fun v=>x.testBit v=true) z:=fun hh=>by rw[(insB_any hg).2 hh] at hin2;cases hin2
    have hnext:=hJ.next hg s5 (L2:=[]) (by simp) (fun Q hQ hs=>by
     exfalso
     obtain⟨v,hv⟩:=hQ.some
     exact rg_empty (st:=st) (hpart v (hs v hv)) hn ((hxc v).2 (hs v hv)) ⟨Q,hQ,fun u hu=>hxm u (hs u hu),hv⟩) (by simp)
    rw[List.append_nil] at hnext
    simp(disch:=((try simp only[zc,ze,zf]);omega)) [hin2]
    exact again _ _ _ hA1 hnext
   |true=>
    have hn:=(insB_any hg).1 hin2
    obtain⟨z,hz,za,zb,_,hza,_⟩:=id hn
    have hpx:=hpart za ((hxc za).1 hza)
    simp[hin2,q4,h3]
    simp only[eg]
    refine jgood_ok hg x w st h4 fun r hr1 hr2=> ?_
    have hrx: ∀v,r.testBit v=true→x.testBit v=true:=fun v hv=>by
     rw[hr2] at hv;exact((ziK hg).1 hv).1
    have hsame:r=x→ ∀v,x.testBit v=true→ ¬Bad (EG g) w st (fun v=>x.testBit v=true) v:=fun e v hv=>by
     have hh:=hr2 v
     rw[e,hv] at hh
     exact((ziK hg).1 hh.symm).2
    have hJl:L.length≤60:=by have:=hJ.len;have:=cntB_le (N:=N) (p:=fun v=>m.testBit v&&decide (cmp v<kk));omega
    have hcx: ∀v,(fun v=>decide (cmp v=kk)) v=x.testBit v:=fun v=>by rw[Bool.eq_iff_iff,hxc,decide_eq_true_iff]
    have hx1:1≤cntB N fun v=>decide (cmp v=kk):=by
     refine List.countP_pos_iff.2 ⟨za,List.mem_range.2 (hin za (hpx.sub hza)),?_⟩
     exact decide_eq_true ((hxc za).1 hza)
    have hone:Core (EG g) w st (fun v=>x.testBit v=true)→JrP g w st N m cmp (kk+1:Nat) (L++[x]):=fun hC=>
     hJ.next hg s5 (fun u hu=>by
      obtain rfl:=List.mem_singleton.1 hu
      exact⟨h4,hC,fun v hv=>(hxc v).1 hv⟩) (fun Q hQ hs=>⟨x,by simp,fun u hu=>(hxc u).2 (hs u hu)⟩) hx1
    have hA2:=hA1.frame (M2:=(y1.new (.rows false 1 [[.int .u64 0]])).put y1.next (setO r)) (by repeat' (first|assumption|exact zt _ _|apply zu|apply zx|apply zA| ((try simp only[zc,ze,zf]);omega))) (by simp;omega)
    have t4:((y1.new (.rows false 1 [[.int .u64 0]])).put y1.next (setO r)).obj M.next=some (grO g):=by simp(disch:=((try simp only[zc]);omega)) [q4]
    have t3:((y1.new (.rows false 1 [[.int .u64 0]])).put y1.next (setO r)).obj y.next=some (setO x):=by simp(disch:=((try simp only[zc]);omega)) [h3]
    by_cases e:r=x
    ·have hnb:=hsame e
     cases st with
     |false=>
      have hnext:=hone (core_same hpx hn hnb fun h=>by cases h)
      simp(disch:=((try simp only[zc,ze,zf]);omega)) [h3,zjg,e]
      rw[e] at hA2
      refine Rs_app (hA2.new _) (new:=[eU x]) (by simp[eU]) (by decide) (by simp[eU]) (by simp[eU]) (by simp;omega) fun d' y3 hA3=> ?_
      rw[show L.map eU++[eU x]=(L++[x]).map eU by rw[List.map_append];rfl] at hA3
      simp(disch:=((try simp only[zc,ze,zf]);omega))
      exact again _ _ _ hA3 hnext
     |true=>
      simp(disch:=((try simp only[zc,ze,zf]);omega)) [h3,zjg,e,q4]
      simp only[eg]
      rw[e] at hA2 t4 t3
      generalize (y1.new (.rows false 1 [[.int .u64 0]])).put y1.next (setO x)=y2 at*
      refine jopen_ok g x w hl h4 (fun e he=>by have h:=hg.ok e he;have:=h.f0;have:=h.f1;omega) ?_
      rw[show(g.es.any fun e=>x.testBit e.f.toNat&&decide (e.a=w))=opnB g x.testBit w from rfl]
      cases hop:opnB g x.testBit w with
      |false=>
       have ho: ¬Opn (EG g) (fun v=>x.testBit v=true) w:=fun hh=>by rw[(zh6 hg).2 hh] at hop;cases hop
       have hnext:=hJ.next hg s5 (L2:=[]) (by simp) (fun Q hQ hs=>by
        exfalso
        obtain⟨v,hv⟩:=hQ.some
        exact rg_none (st:=true) (hpart v (hs v hv)) rfl ho ((hxc v).2 (hs v hv)) ⟨Q,hQ,fun u hu=>hxm u (hs u hu),hv⟩) (by simp)
       rw[List.append_nil] at hnext
       simp(disch:=((try simp only[zc,ze,zf]);omega))
       exact again _ _ _ hA2 hnext
      |true=>
       have hnext:=hone (core_same hpx hn hnb fun _=>(zh6 hg).1 hop)
       simp[t3]
       refine Rs_app (hA2.new _) (new:=[eU x]) (by simp[eU]) (by decide) (by simp[eU]) (by simp[eU]) (by simp;omega) fun d' y3 hA3=> ?_
       rw[show L.map eU++[eU x]=(L++[x]).map eU by rw[List.map_append];rfl] at hA3
       simp(disch:=((try simp only[zc,ze,zf]);omega))
       exact again _ _ _ hA3 hnext
    ·have hcr:cntB N r.testBit<cntB N m.testBit:=by
      obtain⟨v,hv1,hv2⟩: ∃v,x.testBit v=true∧r.testBit v=false:=Classical.byContradiction fun hc=>e (Nat.eq_of_testBit_eq fun v=>by
       cases h1:x.testBit v with
       |false=>
        cases h2:r.testBit v with
        |false=>rfl
        |true=>rw[hrx v h2] at h1;cases h1
       |true=>
        cases h2:r.testBit v with
        |true=>rfl
        |false=>exact absurd ⟨v,h1,h2⟩ hc)
      exact cnt_lt (fun u hu=>hpx.sub (hrx u hu)) (List.mem_range.2 (hin v (hpx.sub hv1))) (hpx.sub hv1) hv2
     simp(disch:=((try simp only[zc,ze,zf]);omega)) [h3,zjg,e,q4]
     simp only[eg]
     generalize (y1.new (.rows false 1 [[.int .u64 0]])).put y1.next (setO r)=y2 at*
     refine ih r hr1 (fun v hv=>hin v (hpx.sub (hrx v hv))) (by omega) fun L2 hL2=> ?_
     simp
     have hL2l:=hL2.len
     have hL2n:=cntB_le (N:=N) (p:=r.testBit)
     refine Rs_app hA2 (by rw[appendedD_lst,if_pos rfl]) (by decide) (c_map c_U L2) (l_map l_U L2) (by simp;omega) fun d' y3 hA3=> ?_
     rw[←List.map_append] at hA3
     simp(disch:=((try simp only[zc,ze,zf]);omega))
     exact again _ _ _ hA3 (hJ.next hg s5 (fun u hu=>⟨(hL2.snd u hu).1,(hL2.snd u hu).2.1,fun v hv=>(hxc v).1 (hrx v ((hL2.snd u hu).2.2 v hv))⟩) (fun Q hQ hs=>hL2.all Q hQ fun u hu=>by
      rw[hr2];exact(ziK hg).2 (hQ.rest (fun u hu=>(hxc u).2 (hs u hu)) hu)) (Nat.le_trans hL2l (cntB_mono fun v hv=>decide_eq_true ((hxc v).1 (hrx v hv)))))
 ·obtain⟨y,d,L⟩:=x
  obtain⟨hA,hJ⟩:=hP
  dsimp only at*
  simp
  exact Back.acc hA hs0 (by have:=hA.nx;omega) (b_map b_U L) (hk L (hJ.fin s5))
end Go.Ideal.S
namespace Go.Ideal.S
open Go Go.Ideal Q Classical
attribute [local simp] decide_eq_true decide_eq_false zH
attribute [local simp] c_u f_u r_u_1 r_u_2 r_u_3 r_u_4
variable {M:VM} {k kp:DV→VM→Prop} {n0:Nat}
def revI (f:Nat→Int) (n i:Nat):Nat→Int:=fun q=>if q<i∨n - i≤q then f (n - 1 - q) else f q
theorem revI_succ {f:Nat→Int} {n i:Nat} (h:i+1≤n / 2):R1 (up1 (up1 (revI f n i) i (f (n - 1 - i))) (n - 1 - i) (f i)) n=R1 (revI f n (i+1)) n:=zjZ fun v hv=>by
 unfold up1 revI
 by_cases e1:v=n - 1 - i
 ·rw[if_pos e1,if_pos (.inr (by omega))];congr 1;omega
 ·rw[if_neg e1]
  by_cases e2:v=i
  ·rw[if_pos e2,if_pos (.inl (by omega)),e2]
  ·rw[if_neg e2]
   by_cases e3:v<i∨n - i≤v
   ·rw[if_pos e3,if_pos (by omega)]
   ·rw[if_neg e3,if_neg (by omega)]
theorem revI_end {f:Nat→Int} {n:Nat}:R1 (revI f n (n / 2)) n=R1 (fun q=>f (n - 1 - q)) n:=zjZ fun v hv=>by
 unfold revI
 by_cases e:v<n / 2∨n - n / 2≤v
 ·rw[if_pos e]
 ·rw[if_neg e];congr 1;omega
theorem ints_R1 (l:List Int):l.map eInt=R1 (fun q=>l.getD q 0) l.length:=by
 unfold R1
 apply List.ext_getElem
 ·simp
 ·intro i h1 h2
  simp at h1
  simp[eInt,h1]
theorem rev_R1 (l:List Int):R1 (fun q=>l.getD (l.length - 1 - q) 0) l.length=l.reverse.map eInt:=by
 rw[ints_R1,List.length_reverse]
 refine zjZ fun v hv=> ?_
 rw[List.getD_eq_getElem?_getD,List.getD_eq_getElem?_getD,List.getElem?_reverse hv]
theorem reverse_ok {B:VM} {d:DV} {l:List Int} (h:Acc B M d 1 (l.map eInt)) (hl:l.length≤1000000) (hk: ∀M',Acc B M' d 1 (l.reverse.map eInt)→M.next≤M'.next→k (.tup []) M'):zy F (.fn n_u [] []) [d] M k kp:=by
 rcases h.v with⟨h1,rfl⟩| ⟨j,op,cap,h1,h2,rfl,h4,h5⟩
 ·obtain rfl:l=[]:=by simpa using h1
  refine .fn zb6 rfl (by simp[f_u]) ?_
  simp
  refine .go c_u_5.eq_1 ?_
  simp
  exact hk _ h (Nat.le_refl _)
 ·rw[ints_R1] at h4
  have hlen:(l.map eInt).length=l.length:=by simp
  rw[hlen] at h5⊢
  rw[hlen] at h
  refine .fn zb6 rfl (by simp[f_u]) ?_
  simp(disch:=((try simp only[zc,ze,zf]);omega))
  generalize hn:l.length=n at*
  generalize hf:(fun q=>l.getD q 0)=f at*
  have e0:R1 f n=R1 (revI f n 0) n:=zjZ fun v hv=>by unfold revI;rw[if_neg (by omega)]
  rw[e0] at h4
  refine .for (σ:=VM) c_u_5.eq_1 (fun i _=>[(2,I i),(3,I ((n:Int) - 1 - i))]) (fun y=>y) (fun i y=>M.next≤y.next∧SM B.next B y∧y.obj j=some (.rows op 1 (R1 (revI f n i) n))) (n / 2) M (by simp) rfl ⟨Nat.le_refl _,h.sm,h4⟩ (fun i y hi hP again=> ?_) (fun y hP=> ?_)
  ·obtain⟨p1,p2,p3⟩:=hP
   have i1:i<n:=by omega
   have i2:n - 1 - i<n:=by omega
   have r1:=zcU (f:=revI f n i) i1
   have r2:=zcU (f:=revI f n i) i2
   rw[show revI f n i i=f i from by unfold revI;rw[if_neg (by omega)]] at r1
   rw[show revI f n i (n - 1 - i)=f (n - 1 - i) from by unfold revI;rw[if_neg (by omega)]] at r2
   obtain⟨q,hq⟩: ∃q:Nat,(n:Int) - 1 - i=q:=⟨n - 1 - i,by omega⟩
   have hq2:n - 1 - i=q:=by omega
   have hq3:(n:Int) - 1 - (i+1:Nat)=q - 1:=by omega
   rw[hq2] at r2 i2
   have hs:=revI_succ (f:=f) (n:=n) (i:=i) (by omega)
   rw[hq2] at hs
   have again:=again ((y.put j (.rows op 1 (R1 (up1 (revI f n i) i (f q)) n))).put j (.rows op 1 (R1 (up1 (up1 (revI f n i) i (f q)) q (f i)) n))) ⟨by simp;omega,zu (zu p2 h1) h1,by rw[←hs];simp⟩
   rw[hq3] at again
   simp at again
   have hlt:(i:Int)<q:=by omega
   have hqi:q≠i:=by omega
   have r3:=zfJ (f:=revI f n i) (N:=n) (n:=i) (x:=f q)
   have r4:=zfJ (f:=up1 (revI f n i) i (f q)) (N:=n) (n:=q) (x:=f i)
   have r5:=zcU (f:=up1 (revI f n i) i (f q)) i2
   rw[hq]
   simp(disch:=((try simp only[zc,ze,zf]);omega)) [p3,r1,r2,hlt,i1,i2,r3,r4,r5]
   exact again
  ·obtain⟨p1,p2,p3⟩:=hP
   have hnot: ¬((n / 2:Nat):Int)<(n:Int) - 1 - (n / 2:Nat):=by omega
   simp(disch:=((try simp only[zc,ze,zf]);omega)) [hnot]
   rw[revI_end,←hf] at p3
   have hr:=rev_R1 l
   rw[hn] at hr
   rw[hr] at p3
   refine hk y ⟨p2,by have:=h.nx;omega,l_map l_Int _,.inr ⟨j,op,cap,h1,by omega,?_,p3,?_⟩⟩ p1
   ·simp[hn]
   ·simpa[hn] using h5
end Go.Ideal.S
set_option maxHeartbeats 1000000
namespace Go.Ideal.S
open Go Go.Ideal Q Classical
inductive Way (g:Gr) (mi:Nat) (w:Int) (s:Nat):List Int→Nat→Prop
 |nil:Way g mi w s [] s
 |snoc {l:List Int} {t:Nat} (h:Way g mi w s l t) (e:Nat) (he:e<g.es.length) (h1:g.es[e].f=(t:Int)) (h2:g.es[e].a≠w) (u:Nat) (h3:g.es[e].t=(u:Int)) (h4:mi.testBit u=true):Way g mi w s (l++[(e:Int)]) u
theorem Way.star {g:Gr} {mi:Nat} {w:Int} {s t:Nat} {l:List Int} (h:Way g mi w s l t):Star (RF g (fun v=>mi.testBit v) w) s t:=by
 induction h with
 |nil=>exact .refl _
 |snoc h e he h1 h2 u h3 h4 ih=>exact ih.tail ⟨g.es[e],List.getElem_mem he,h1,h3,h2,h4⟩
theorem Way.trans {g:Gr} {mi:Nat} {w:Int} {s t u:Nat} {l l2:List Int} (h:Way g mi w s l t) (h2:Way g mi w t l2 u):Way g mi w s (l++l2) u:=by
 induction h2 with
 |nil=>rw[List.append_nil];exact h
 |snoc _ e he a b u c d ih=>rw[←List.append_assoc];exact ih.snoc e he a b u c d
theorem Way.edges {g:Gr} {mi:Nat} {w:Int} {s t:Nat} {l:List Int} (h:Way g mi w s l t):EdgesOk g.es l:=by
 induction h with
 |nil=>intro x hx;cases hx
 |snoc _ e he _ _ _ _ _ ih=>
  intro x hx
  rcases List.mem_append.1 hx with hx|hx
  ·exact ih x hx
  ·obtain rfl:=List.mem_singleton.1 hx
   omega
structure Bf (g:Gr) (mi:Nat) (w:Int) (s N:Nat) (bf:Nat→Int) (qs:List Nat):Prop where
 hd:qs[0]? =some s
 nd:qs.Nodup
 lt: ∀v∈qs,v<N
 lk: ∀i (hi:i<qs.length),0<i→ ∃(e:Nat) (he:e<g.es.length) (j:Nat) (hj:j<i),bf qs[i]=e∧g.es[e].t=(qs[i]:Nat)∧g.es[e].f=(qs[j]'(by omega):Nat)∧g.es[e].a≠w∧mi.testBit qs[i]=true
theorem zh8 {l:List Nat} {N:Nat} (h:l.Nodup) (hl: ∀v∈l,v<N):l.length≤N:=by
 have:=h.length_le_of_subset (l₂:=List.range N) (fun v hv=>List.mem_range.2 (hl v hv))
 simpa using this
theorem Bf.len {g:Gr} {mi:Nat} {w:Int} {s N:Nat} {bf:Nat→Int} {qs:List Nat} (h:Bf g mi w s N bf qs):qs.length≤N:=zh8 h.nd h.lt
theorem Bf.pos {g:Gr} {mi:Nat} {w:Int} {s N:Nat} {bf:Nat→Int} {qs:List Nat} (h:Bf g mi w s N bf qs):0<qs.length:=by
 have:=h.hd
 cases qs with
 |nil=>cases this
 |cons=>simp
theorem Bf.one {g:Gr} {mi:Nat} {w:Int} {s N:Nat} (hs:s<N) (bf:Nat→Int):Bf g mi w s N bf [s]:=
 ⟨rfl,by simp,by simp[hs],fun i hi h0=>by simp at hi;omega⟩
theorem Bf.add {g:Gr} {mi:Nat} {w:Int} {s N:Nat} {bf:Nat→Int} {qs:List Nat} (h:Bf g mi w s N bf qs) {x p e:Nat} (hx:x∉qs) (hxN:x<N) (hp:p<qs.length) (he:e<g.es.length) (h1:g.es[e].t=(x:Int)) (h2:g.es[e].f=(qs[p]:Nat)) (h3:g.es[e].a≠w) (h4:mi.testBit x=true):Bf g mi w s N (up1 bf x e) (qs++[x]):=by
 refine⟨?_,?_,?_,fun i hi h0=> ?_⟩
 ·rw[List.getElem?_append_left h.pos];exact h.hd
 ·rw[List.nodup_append]
  refine⟨h.nd,by simp,fun a ha b hb=> ?_⟩
  obtain rfl:=List.mem_singleton.1 hb
  intro e;subst e;exact hx ha
 ·intro v hv
  rcases List.mem_append.1 hv with hv|hv
  ·exact h.lt v hv
  ·obtain rfl:=List.mem_singleton.1 hv;exact hxN
 ·by_cases c:i<qs.length
  ·obtain⟨e',q1,j,q2,q3,q4,q5,q6,q7⟩:=h.lk i c h0
   have hne:qs[i]≠x:=fun hh=>hx (hh▸List.getElem_mem c)
   rw[List.getElem_append_left c]
   refine⟨e',q1,j,q2,?_,q4,?_,q6,q7⟩
   ·rw[zf8 _ _ hne];exact q3
   ·rw[List.getElem_append_left (by omega)];exact q5
  ·have:i=qs.length:=by rw[List.length_append,List.length_singleton] at hi;omega
   subst this
   have hg:(qs++[x])[qs.length]'hi=x:=by simp
   rw[hg]
   refine⟨e,he,p,hp,zdp _ _ _,h1,?_,h3,h4⟩
   rw[List.getElem_append_left hp];exact h2
end Go.Ideal.S
