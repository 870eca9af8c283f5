/- A part of the proof: the ideal machine, and what the functions of the program answer over it. -/
import Derived.Test.YtjkoholloclgeaaGreatDoorD
set_option linter.unusedSimpArgs false
set_option linter.unusedVariables false
set_option linter.unusedSectionVars false
set_option maxRecDepth 10000
set_option maxHeartbeats 4000000
namespace Go.Ideal.S
open Go Go.Ideal Q Classical
attribute [local simp] decide_eq_true decide_eq_false z9
variable {M:VM} {k kp:DV→VM→Prop} {n0:Nat}
attribute [local simp] c_o f_o r_o_1 r_o_2 r_o_3 r_o_4 r_o_5 r_o_6 r_o_7 r_o_9 c_u f_u r_u_2 r_w c_w f_w r_w_1 r_w_2 r_w_3 r_w_4 r_w_5 c_c f_c r_c_1 r_c_2 r_c_3 r_c_4 r_c_5 r_c_6 r_c_7 r_c_9
def lowB:Nat→Nat
 |0=>0
 |n+1=>lowB n ||| 2^n
theorem lowB_bit (n i:Nat):(lowB n).testBit i=decide (i<n):=by
 induction n with
 |zero=>simp[lowB]
 |succ n ih=>
  rw[lowB,Nat.testBit_or,ih,Nat.testBit_two_pow]
  by_cases h1:i<n
  ·simp[h1];omega
  ·by_cases h2:n=i
   ·simp[h2]
   ·have: ¬i<n+1:=by omega
    simp[h1,h2,this]
theorem lowB_lt (n:Nat) (h:n≤64):lowB n<2^64:=by
 apply Nat.lt_pow_two_of_testBit
 intro i hi
 rw[lowB_bit];simp;omega
theorem whole_ok (g:Gr) {N:Nat} (hN:g.st=N) (h64:N≤60) (hk:k (setD (lowB N)) M):zt F (.fn n_o [] []) [.agg (eGr g)] M k kp:=by
 apply zt.back
 refine .fn zgn rfl (by simp[f_o]) ?_
 repeat' (first| (simp(disch:=((try simp only[new_next,put_next,del_next]);omega)) [eGr,hN];first|done| ((first|simp only[zj,zh,zi,zf,zg,zb]|simp only[ze,zc]|rw[za]);split)|skip)| ((first|simp only[zj,zh,zi,zf,zg,zb]|simp only[ze,zc]|rw[za]);split))
 refine .for (σ:=VM) c_o_8.eq_1 (fun i _=>[(8,I i)]) (fun y=>y) (fun i y=>SM M.next M y∧M.next+3≤y.next∧y.obj (M.next+1)=some (setO 0)∧y.obj (M.next+1+1)=some (setO (lowB i))) N _ (by simp) rfl ⟨(by repeat' (first|assumption|exact SM_refl _ _|apply SM_put|apply SM_new|apply SM_del| ((try simp only[new_next,put_next,del_next]);omega))),by simp,by simp(disch:=((try simp only[new_next,put_next]);omega)),by simp[lowB]⟩ (fun i y hi hP again=> ?_) (fun y hP=> ?_)
 ·obtain⟨hs,hn,o2,o3⟩:=hP
  simp at again
  have hi6:i<64:=by omega
  repeat' (first| (simp(disch:=((try simp only[new_next,put_next,del_next]);omega)) [hi];first|done| ((first|simp only[zj,zh,zi,zf,zg,zb]|simp only[ze,zc]|rw[za]);split)|skip)| ((first|simp only[zj,zh,zi,zf,zg,zb]|simp only[ze,zc]|rw[za]);split))
  refine put_ok (lowB i) i _ (lowB_lt i (by omega)) hi6 o3 ?_
  repeat' (first| (simp(disch:=((try simp only[new_next,put_next,del_next]);omega));first|done| ((first|simp only[zj,zh,zi,zf,zg,zb]|simp only[ze,zc]|rw[za]);split)|skip)| ((first|simp only[zj,zh,zi,zf,zg,zb]|simp only[ze,zc]|rw[za]);split))
  exact again _ (by repeat' (first|assumption|exact SM_refl _ _|apply SM_put|apply SM_new|apply SM_del| ((try simp only[new_next,put_next,del_next]);omega))) (by simp;omega) (by simp(disch:=omega) [o2]) (by simp[lowB])
 ·obtain⟨hs,hn,o2,o3⟩:=hP
  repeat' (first| (simp(disch:=((try simp only[new_next,put_next,del_next]);omega)) [o3,o2];first|done| ((first|simp only[zj,zh,zi,zf,zg,zb]|simp only[ze,zc]|rw[za]);split)|skip)| ((first|simp only[zj,zh,zi,zf,zg,zb]|simp only[ze,zc]|rw[za]);split))
  exact Back.plain (by simp) (by repeat' (first|assumption|exact SM_refl _ _|apply SM_put|apply SM_new|apply SM_del| ((try simp only[new_next,put_next,del_next]);omega))) hk
theorem all_ok (m:Nat) (hk: ∀M' j1,SM M.next M M'→M.next≤j1→j1<M'.next→M'.obj j1=some (setO m)→k (.fn n_w [] [.ptr j1 0 0]) M'):zt F (.fn n_u [] []) [setD m] M k kp:=by
 refine .fn h_jam_set_all rfl (by simp[f_u]) ?_
 repeat' (first| (simp(disch:=((try simp only[new_next,put_next,del_next]);omega));first|done| ((first|simp only[zj,zh,zi,zf,zg,zb]|simp only[ze,zc]|rw[za]);split)|skip)| ((first|simp only[zj,zh,zi,zf,zg,zb]|simp only[ze,zc]|rw[za]);split))
 exact hk _ _ (by repeat' (first|assumption|exact SM_refl _ _|apply SM_put|apply SM_new|apply SM_del| ((try simp only[new_next,put_next,del_next]);omega))) (Nat.le_refl _) (by simp) (by simp)
theorem all1_ok (m:Nat) (hm:m<2^64) (l j1:Nat) (Inv:Nat→VM→Prop) (R:VM→Prop) (h0:Inv 0 M)
 (hob: ∀i y,Inv i y→y.obj j1=some (setO m)∧j1<y.next)
 (skip: ∀(i:Nat) (y y':VM) (hi:i<60),Inv i y→SM y.next y y'→y.next≤y'.next→m.testBit i=false→Inv (i+1) y')
 (yld: ∀(i:Nat) (y y':VM) (hi:i<60),Inv i y→SM y.next y y'→y.next≤y'.next→m.testBit i=true→ ∀{k kp:DV→VM→Prop},(∀M',Inv (i+1) M'→k (.bool true) M')→(∀M',R M'→k (.bool false) M')→zt F (.yld l) [I i] y' k kp)
 (done: ∀y,Inv 60 y→k (.tup []) y) (stop: ∀y,R y→k (.tup []) y):zt F (.fn n_w [] [.ptr j1 0 0]) [.yld l] M k kp:=by
 refine .fn zic rfl (by simp[f_w]) ?_
 repeat' (first| (simp(disch:=((try simp only[new_next,put_next,del_next]);omega));first|done| ((first|simp only[zj,zh,zi,zf,zg,zb]|simp only[ze,zc]|rw[za]);split)|skip)| ((first|simp only[zj,zh,zi,zf,zg,zb]|simp only[ze,zc]|rw[za]);split))
 refine .for (σ:=VM) c_w_6.eq_1 (fun i _=>[(4,I i)]) (fun y=>y) (fun i y=>Inv i y) 60 M (by simp) rfl h0 (fun i y hi hP again=> ?_) (fun y hP=> ?_)
 ·obtain⟨p1,l1⟩:=hob _ _ hP
  have hi6:i<64:=by omega
  have hi60:(i:Int)<60:=by omega
  cases hq:m.testBit i with
  |true=>
   repeat' (first| (simp(disch:=((try simp only[new_next,put_next,del_next]);omega)) [hi60,p1];first|done| ((first|simp only[zj,zh,zi,zf,zg,zb]|simp only[ze,zc]|rw[za]);split)|skip)| ((first|simp only[zj,zh,zi,zf,zg,zb]|simp only[ze,zc]|rw[za]);split))
   refine has_ok m i hm hi6 ?_
   repeat' (first| (simp(disch:=((try simp only[new_next,put_next,del_next]);omega)) [hq];first|done| ((first|simp only[zj,zh,zi,zf,zg,zb]|simp only[ze,zc]|rw[za]);split)|skip)| ((first|simp only[zj,zh,zi,zf,zg,zb]|simp only[ze,zc]|rw[za]);split))
   refine yld i y _ hi hP (by repeat' (first|assumption|exact SM_refl _ _|apply SM_put|apply SM_new|apply SM_del| ((try simp only[new_next,put_next,del_next]);omega))) (by simp) hq (fun M' hI=> ?_) (fun M' hR=> ?_)
   ·have again:=again M' hI
    simp at again
    repeat' (first| (simp(disch:=((try simp only[new_next,put_next,del_next]);omega));first|done| ((first|simp only[zj,zh,zi,zf,zg,zb]|simp only[ze,zc]|rw[za]);split)|skip)| ((first|simp only[zj,zh,zi,zf,zg,zb]|simp only[ze,zc]|rw[za]);split))
    exact again
   ·repeat' (first| (simp(disch:=((try simp only[new_next,put_next,del_next]);omega));first|done| ((first|simp only[zj,zh,zi,zf,zg,zb]|simp only[ze,zc]|rw[za]);split)|skip)| ((first|simp only[zj,zh,zi,zf,zg,zb]|simp only[ze,zc]|rw[za]);split))
    exact stop _ hR
  |false=>
   have again:=fun y' h1 h2=>again y' (skip i y y' hi hP h1 h2 hq)
   simp at again
   repeat' (first| (simp(disch:=((try simp only[new_next,put_next,del_next]);omega)) [hi60,p1];first|done| ((first|simp only[zj,zh,zi,zf,zg,zb]|simp only[ze,zc]|rw[za]);split)|skip)| ((first|simp only[zj,zh,zi,zf,zg,zb]|simp only[ze,zc]|rw[za]);split))
   refine has_ok m i hm hi6 ?_
   repeat' (first| (simp(disch:=((try simp only[new_next,put_next,del_next]);omega)) [hq];first|done| ((first|simp only[zj,zh,zi,zf,zg,zb]|simp only[ze,zc]|rw[za]);split)|skip)| ((first|simp only[zj,zh,zi,zf,zg,zb]|simp only[ze,zc]|rw[za]);split))
   exact again _ (by repeat' (first|assumption|exact SM_refl _ _|apply SM_put|apply SM_new|apply SM_del| ((try simp only[new_next,put_next,del_next]);omega))) (by simp)
 ·repeat' (first| (simp(disch:=((try simp only[new_next,put_next,del_next]);omega));first|done| ((first|simp only[zj,zh,zi,zf,zg,zb]|simp only[ze,zc]|rw[za]);split)|skip)| ((first|simp only[zj,zh,zi,zf,zg,zb]|simp only[ze,zc]|rw[za]);split))
  exact done _ hP
end Go.Ideal.S
namespace Go.Ideal.S
open Go Go.Ideal Q Classical
attribute [local simp] decide_eq_true decide_eq_false z9
variable {M:VM} {k kp:DV→VM→Prop} {n0:Nat} {ek:EK}
theorem and_low {a:Int} (h0:0≤a) (h1:a<4294967296):binD .and ek (.int .u64 a) (.int .u64 4294967295)=some (.int .u64 a):=by
 obtain⟨n,rfl⟩:=Int.eq_ofNat_of_zero_le h0
 have:=bin_and_u (ek:=ek) (a:=n) (b:=4294967295) (by omega) (by omega)
 rw[show((4294967295:Nat):Int)=4294967295 from rfl] at this
 rw[this,show(4294967295:Nat)=2^32 - 1 from rfl,Nat.and_two_pow_sub_one_eq_mod,Nat.mod_eq_of_lt (by omega)]
theorem shr_hi {a:Int} (h0:0≤a) (h1:a<4294967296):binD .shr ek (.int .u64 a) (.int .u64 32)=some (.int .u64 0):=by
 show Option.bind (if ltI 32 0 then none else some (Value.int .u64 (a.fdiv (2^(min (32:Int).toNat 64))))) dOf1=_
 rw[zcZ]
 simp only[show¬((32:Int)<0) by omega,decide_false,Bool.false_eq_true,if_false,Option.bind_some]
 rw[show(2:Int)^(min (32:Int).toNat 64)=4294967296 from by decide,Int.fdiv_eq_ediv_of_nonneg _ (by omega),Int.ediv_eq_zero_of_lt h0 h1]
 rfl
theorem mul_u {a b:Int} (h0:0≤a*b) (h1:a*b<18446744073709551616):binD .mul ek (.int .u64 a) (.int .u64 b)=some (.int .u64 (a*b)):=by
 show some (DV.int .u64 (zfY .u64 (a*b)))=_
 rw[zfn,wrapU h0 h1]
theorem add_u {a b:Int} (h0:0≤a+b) (h1:a+b<18446744073709551616):binD .add ek (.int .u64 a) (.int .u64 b)=some (.int .u64 (a+b)):=by
 show some (DV.int .u64 (zfY .u64 (a+b)))=_
 rw[zfn,wrapU h0 h1]
theorem gtr_u (a b:Int):binD .gtr ek (.int .u64 a) (.int .u64 b)=some (.bool (decide (b<a))):=by show some (DV.bool (ltI b a))=_;rw[zcZ]
theorem conv_u {a:Int} (kk:IntKind) (h0:0≤a) (h1:a<18446744073709551616):convD .u64 (.int kk a)=some (.int .u64 a):=by
 show some (DV.int .u64 (IntKind.u64.wrap a))=_
 rw[wrapU h0 h1]
theorem conv_i {a:Int} (kk:IntKind) (h0:0≤a) (h1:a<9223372036854775808):convD .i64 (.int kk a)=some (I a):=by
 show some (DV.int .i64 (IntKind.i64.wrap a))=_
 rw[←zfn,z9 (by omega) h1]
attribute [local simp] c_c f_c r_c_1 r_c_2 r_c_3 r_c_4 r_c_5 r_c_6 r_c_7 r_c_9 c_s f_s r_s_1 r_s_2 r_s_3 r_s_4 r_s_5 c_k f_k r_k_1 r_k_2 r_k_3 r_k_4 r_k_5 r_k_6 r_k_7 r_k_8 r_k_9 r_k_10 r_k_11 r_k_12 c_f f_f r_f_1 r_f_2 r_f_3 r_f_4 r_f_5 r_f_6 r_f_7 r_f_8 r_f_9 r_f_10 r_f_12
theorem mul64_ok (n:Nat) (hn:n<4294967296) (hk:k (.tup [.int .u64 0,.int .u64 n]) M):zt F (.fn n_k [] []) [.int .u64 1,.int .u64 n] M k kp:=by
 apply zt.back
 refine .fn zgm rfl (by simp[f_k]) ?_
 repeat' (first| (simp(disch:=((try simp only[new_next,put_next,del_next]);omega)) [and_low,shr_hi,mul_u,add_u];first|done| ((first|simp only[zj,zh,zi,zf,zg,zb]|simp only[ze,zc]|rw[za]);split)|skip)| ((first|simp only[zj,zh,zi,zf,zg,zb]|simp only[ze,zc]|rw[za]);split))
 exact Back.plain (by simp) (by repeat' (first|assumption|exact SM_refl _ _|apply SM_put|apply SM_new|apply SM_del| ((try simp only[new_next,put_next,del_next]);omega))) hk
theorem mul_ok (n:Nat) (hn:n<4294967296) (hk:k (.tup [.int .u64 0,.int .u64 n]) M):zt F (.fn n_s [] []) [.int .u64 1,.int .u64 n] M k kp:=by
 apply zt.back
 refine .fn zib rfl (by simp[f_s]) ?_
 repeat' (first| (simp(disch:=((try simp only[new_next,put_next,del_next]);omega));first|done| ((first|simp only[zj,zh,zi,zf,zg,zb]|simp only[ze,zc]|rw[za]);split)|skip)| ((first|simp only[zj,zh,zi,zf,zg,zb]|simp only[ze,zc]|rw[za]);split))
 refine mul64_ok n hn ?_
 repeat' (first| (simp(disch:=((try simp only[new_next,put_next,del_next]);omega));first|done| ((first|simp only[zj,zh,zi,zf,zg,zb]|simp only[ze,zc]|rw[za]);split)|skip)| ((first|simp only[zj,zh,zi,zf,zg,zb]|simp only[ze,zc]|rw[za]);split))
 exact Back.plain (by simp) (by repeat' (first|assumption|exact SM_refl _ _|apply SM_put|apply SM_new|apply SM_del| ((try simp only[new_next,put_next,del_next]);omega))) hk
def idxI (x:Int):List Int→Nat→Int
 | [],_=> -1
 |y::l,i=>if x=y then i else idxI x l (i+1)
theorem idxI_at {x:Int} {l:List Int} {p:Nat} (hp:p<l.length) (h1:l[p]=x) (h2: ∀q (hq:q<p),l[q]≠x):idxI x l 0=p:=by
 have: ∀(l:List Int) (i p:Nat) (hp:p<l.length),l[p]=x→(∀q (hq:q<p),l[q]≠x)→idxI x l i=(i+p:Nat):=by
  intro l
  induction l with
  |nil=>intro i p hp;simp at hp
  |cons y l ih=>
   intro i p hp h1 h2
   unfold idxI
   cases p with
   |zero=>rw[if_pos (by simpa using h1.symm)];simp
   |succ p=>
    rw[if_neg (fun e=>h2 0 (by omega) e.symm)]
    rw[ih (i+1) p (by simpa using hp) (by simpa using h1) (fun q hq=>h2 (q+1) (by omega))]
    congr 1;omega
 rw[this l 0 p hp h1 h2];simp
def rsR (v:Int) (N n:Nat):List (List DV):=List.replicate n [I v]++List.replicate (N - n) [I 0]
theorem rsR_len {v:Int} {N n:Nat} (h:n≤N):(rsR v N n).length=N:=by simp[rsR];omega
theorem rsR_take {v:Int} {N n:Nat}:(rsR v N n).take n=List.replicate n [I v]:=by simp[rsR]
theorem rsR_put {v:Int} {N n m:Nat} (h:n+m≤N) (hm:m≤n):zV (rsR v N n) ((List.replicate n [I v]).take m) n=rsR v N (n+m):=by
 unfold zV rsR
 rw[List.take_replicate,Nat.min_eq_left hm,List.length_replicate,List.take_left' (by simp),List.drop_append,List.drop_replicate,List.drop_replicate,List.length_replicate,List.replicate_append_replicate,show n - (n+m)=0 by omega,show N - n - (n+m - n)=N - (n+m) by omega]
 simp
theorem repeat_ok (v:Int) (N j:Nat) (h1:1≤N) (h2:N≤1000) (ho:M.obj j=some (.rows false 1 [[I v]])) (hj:j<M.next) (hk: ∀M' j',SM M.next M M'→M.next≤j'→j'<M'.next→M'.obj j'=some (.rows false 1 (List.replicate N [I v]))→k (.ms j' 0 N N) M'):zt F (.fn n_f [] []) [.ms j 0 1 1,I N] M k kp:=by
 refine .fn zdr rfl (by simp[f_f]) ?_
 have a1: ¬((N:Int)<0):=by omega
 have a2: ¬((9223372036854775807:Int)<(N:Int)):=by omega
 repeat' (first| (simp(disch:=((try simp only[new_next,put_next,del_next]);omega)) [conv_u,a1];first|done| ((first|simp only[zj,zh,zi,zf,zg,zb]|simp only[ze,zc]|rw[za]);split)|skip)| ((first|simp only[zj,zh,zi,zf,zg,zb]|simp only[ze,zc]|rw[za]);split))
 refine mul_ok N (by omega) ?_
 have a3:N*8≤1073741824∧N≤1073741824:=by omega
 have a4:1≤(List.replicate N [I 0]).length:=by simp;omega
 have a5: ¬N=0:=by omega
 have a6:0<N:=h1
 repeat' (first| (simp(disch:=((try simp only[new_next,put_next,del_next]);omega)) [gtr_u,a2,conv_i,ho,a3,a4,a5,a6];first|done| ((first|simp only[zj,zh,zi,zf,zg,zb]|simp only[ze,zc]|rw[za]);split)|skip)| ((first|simp only[zj,zh,zi,zf,zg,zb]|simp only[ze,zc]|rw[za]);split))
 have e0:zV (List.replicate N [I 0]) [[I v]] 0=rsR v N 1:=by
  unfold zV rsR
  rw[List.drop_replicate];simp
 rw[e0]
 refine .gen (Q:=fun y=>SM M.next M y∧M.next<y.next∧y.obj M.next=some (.rows false 1 (rsR v N 1))) ⟨(by repeat' (first|assumption|exact SM_refl _ _|apply SM_put|apply SM_new|apply SM_del| ((try simp only[new_next,put_next,del_next]);omega))),by simp;omega,by simp⟩ fun y0 hy0=> ?_
 refine .while (σ:=Nat×VM) c_f_11.eq_1 (fun x=>[(8,I x.1)]) (fun x=>x.2) (fun x=>1≤x.1∧x.1≤N∧SM M.next M x.2∧M.next<x.2.next∧x.2.obj M.next=some (.rows false 1 (rsR v N x.1))) (fun x=>N - x.1) (1,y0) (by simp) rfl ⟨Nat.le_refl _,h1,hy0⟩ (fun x hP again=> ?_)
 obtain⟨n,y⟩:=x
 obtain⟨p1,p2,hs,hn,o⟩:=hP
 have p1:1≤n:=p1
 have p2:n≤N:=p2
 have o:y.obj M.next=some (.rows false 1 (rsR v N n)):=o
 have hs:SM M.next M y:=hs
 have hn:M.next<y.next:=hn
 by_cases hq:n<N
 ·have b1: ¬N=n:=by omega
  have b2:=rsR_len (v:=v) p2
  have b3:=rsR_take (v:=v) (N:=N) (n:=n)
  have b4:=rsR_put (v:=v) (N:=N) (n:=n) (m:=min (N - n) n) (by omega) (by omega)
  have b5:n+(N - n)≤N:=by omega
  have b6:0<N - n:=by omega
  have b7:0<n:=by omega
  have b8: ¬n=0:=by omega
  have b9:zV (rsR v N n) (List.replicate (min (N - n) n) [I v]) n=rsR v N (n+min (N - n) n):=by
   rw[←b4,List.take_replicate];congr 2;omega
  repeat' (first| (simp(disch:=((try simp only[new_next,put_next,del_next]);omega)) [hq,o,p2,b1,b2,b3,b4,b5,b6,b7,b8];first|done| ((first|simp only[zj,zh,zi,zf,zg,zb]|simp only[ze,zc]|rw[za]);split)|skip)| ((first|simp only[zj,zh,zi,zf,zg,zb]|simp only[ze,zc]|rw[za]);split))
  have:=again (n+min (N - n) n,y.put M.next (.rows false 1 (rsR v N (n+min (N - n) n)))) (by show N - (n+min (N - n) n)<N - n;omega) ⟨by show 1≤n+min (N - n) n;omega,by show n+min (N - n) n≤N;omega,(by repeat' (first|assumption|exact SM_refl _ _|apply SM_put|apply SM_new|apply SM_del| ((try simp only[new_next,put_next,del_next]);omega))),by simp;omega,by simp⟩
  simp at this
  rw[b9]
  exact this
 ·obtain rfl:n=N:=by omega
  repeat' (first| (simp(disch:=((try simp only[new_next,put_next,del_next]);omega)) [o];first|done| ((first|simp only[zj,zh,zi,zf,zg,zb]|simp only[ze,zc]|rw[za]);split)|skip)| ((first|simp only[zj,zh,zi,zf,zg,zb]|simp only[ze,zc]|rw[za]);split))
  exact hk _ _ hs (Nat.le_refl _) hn (by rw[o,rsR];simp)
end Go.Ideal.S
namespace Go.Ideal.S
inductive Star {α:Type} (R:α→α→Prop):α→α→Prop
 |refl (a:α):Star R a a
 |tail {a b c:α} (h:Star R a b) (h2:R b c):Star R a c
section
variable {α:Type} {R:α→α→Prop}
theorem Star.trans {a b c:α} (h:Star R a b) (h2:Star R b c):Star R a c:=by
 induction h2 with
 |refl=>exact h
 |tail _ r ih=>exact ih.tail r
theorem Star.one {a b:α} (h:R a b):Star R a b:=(Star.refl a).tail h
theorem Star.keep {P:α→Prop} (hP: ∀a b,P a→R a b→P b) {a b:α} (h:Star R a b) (ha:P a):P b:=by
 induction h with
 |refl=>exact ha
 |tail _ r ih=>exact hP _ _ ih r
end
def up1 {β:Type} (f:Nat→β) (n:Nat) (x:β):Nat→β:=fun v=>if v=n then x else f v
theorem zco {β:Type} (f:Nat→β) (n:Nat) (x:β):up1 f n x n=x:=by simp[up1]
theorem zeb {β:Type} (f:Nat→β) {n v:Nat} (x:β) (h:v≠n):up1 f n x v=f v:=by simp[up1,h]
structure TS where
 met:Nat→Nat
 low:Nat→Nat
 nx:Nat→Nat
 cmp:Nat→Int
 many:Nat
 m:Nat
 way:List Nat
 op:List Nat
section
variable (E:Nat) (ed:Nat→Option (Nat×Nat))
def EdAt (i v t:Nat):Prop:=i<E∧ed i=some (v,t)
def RTo (v t:Nat):Prop:= ∃i,EdAt E ed i v t
structure Inv (T:TS):Prop where
 bnd: ∀v,T.met v≤T.m
 way: ∀v∈T.way,v∈T.op
 opi: ∀v,v∈T.op↔T.met v≠0∧T.cmp v= -1
 cv: ∀v,T.cmp v≠ -1→T.met v≠0∧0≤T.cmp v∧T.cmp v<(T.many:Int)
 nx0: ∀v,T.met v=0→T.nx v=0
 nxE: ∀v,T.nx v≤E
 opS:T.op.Pairwise fun a b=>T.met a<T.met b
 wayS:T.way.Pairwise fun a b=>T.met a<T.met b
 inj: ∀u v,T.met u≠0→T.met u=T.met v→u=v
 lo1: ∀v∈T.op,T.low v≤T.met v∧ ∃u∈T.op,T.met u=T.low v∧Star (RTo E ed) v u
 scan: ∀v t i,EdAt E ed i v t→i<T.nx v→T.met t≠0∧(v∈T.op→t∈T.op→T.low v≤T.met t)
 fin: ∀v∈T.op,v∉T.way→T.nx v=E∧T.low v<T.met v
 done: ∀v t,T.cmp v≠ -1→RTo E ed v t→T.cmp t≠ -1
 up: ∀v∈T.op,v∉T.way→ ∃p∈T.op,T.met p<T.met v∧(∀w∈T.way,T.met w≤T.met v→T.met w≤T.met p)∧(T.low p≤T.low v∨(p∈T.way∧EdAt E ed (T.nx p) p v))
 sub: ∀w∈T.way,∀v∈T.op,T.met w≤T.met v→Star (RTo E ed) w v
 eq: ∀a b,T.cmp a≠ -1→T.cmp b≠ -1→(T.cmp a=T.cmp b↔Star (RTo E ed) a b∧Star (RTo E ed) b a)
 link: ∀l p q l2,T.way=l++p::q::l2→EdAt E ed (T.nx p) p q
end
section
variable {E:Nat} {ed:Nat→Option (Nat×Nat)} {T:TS}
theorem ze9 {l:List Nat} {f:Nat→Nat} {n:Nat} (h:(l++[n]).Pairwise fun a b=>f a<f b) {w:Nat} (hw:w∈l):f w<f n:=(List.pairwise_append.1 h).2.2 w hw n (by simp)
theorem Inv.root (h:Inv E ed T): ∀k v,T.met v<k→v∈T.op→ ∃w∈T.way,T.met w≤T.met v:=by
 intro k
 induction k with
 |zero=>intro v hv;omega
 |succ k ih=>
  intro v hv ho
  by_cases hw:v∈T.way
  ·exact⟨v,hw,Nat.le_refl _⟩
  ·obtain⟨p,hp,hlt,_⟩:=h.up v ho hw
   obtain⟨w,h1,h2⟩:=ih p (by omega) hp
   exact⟨w,h1,by omega⟩
theorem Inv.op_nil (h:Inv E ed T) (hw:T.way=[]):T.op=[]:=by
 cases ho:T.op with
 |nil=>rfl
 |cons a l=>
  obtain⟨w,h1,_⟩:=h.root (T.met a+1) a (by omega) (by rw[ho];simp)
  rw[hw] at h1;cases h1
def TS.enter (T:TS) (n:Nat):TS:={T with met:=up1 T.met n (T.m+1),low:=up1 T.low n (T.m+1),m:=T.m+1,way:=T.way++[n],op:=T.op++[n]}
theorem Inv.enter (h:Inv E ed T) {n:Nat} (h0:T.met n=0) (hp:T.way=[]∨ ∃l p,T.way=l++[p]∧EdAt E ed (T.nx p) p n):Inv E ed (T.enter n):=by
 have hno:n∉T.op:=fun ho=>((h.opi n).1 ho).1 h0
 have hnw:n∉T.way:=fun hw=>hno (h.way n hw)
 have hco:T.cmp n= -1:=Classical.byContradiction fun hc=>(h.cv n hc).1 h0
 have hm: ∀v,v≠n→(T.enter n).met v=T.met v:=fun v hv=>zeb _ _ hv
 have hl: ∀v,v≠n→(T.enter n).low v=T.low v:=fun v hv=>zeb _ _ hv
 have hmn:(T.enter n).met n=T.m+1:=zco _ _ _
 have hln:(T.enter n).low n=T.m+1:=zco _ _ _
 have ho: ∀v,v∈(T.enter n).op↔v∈T.op∨v=n:=fun v=>by simp[TS.enter]
 have hw: ∀v,v∈(T.enter n).way↔v∈T.way∨v=n:=fun v=>by simp[TS.enter]
 have ne: ∀v,v∈T.op→v≠n:=fun v hv e=>hno (e▸hv)
 have nw: ∀v,v∈T.way→v≠n:=fun v hv e=>hnw (e▸hv)
 have pw: ∀l:List Nat,(∀v∈l,v≠n)→l.Pairwise (fun a b=>T.met a<T.met b)→(l++[n]).Pairwise fun a b=>(T.enter n).met a<(T.enter n).met b:=fun l hn hl=>by
  rw[List.pairwise_append]
  refine⟨hl.imp_of_mem fun{a b} ha hb r=>by rw[hm a (hn a ha),hm b (hn b hb)];exact r,by simp,fun a ha b hb=> ?_⟩
  obtain rfl:b=n:=by simpa using hb
  rw[hm a (hn a ha),hmn]
  have:=h.bnd a;omega
 refine⟨fun v=> ?_,fun v hv=> ?_,fun v=> ?_,fun v hv=> ?_,fun v hv=> ?_,h.nxE,pw _ ne h.opS,pw _ nw h.wayS,fun u v hu e=> ?_,fun v hv=> ?_,fun v t i he hi=> ?_,fun v hv hnv=> ?_,h.done,fun v hv hnv=> ?_,fun w hw1 v hv hle=> ?_,h.eq,fun l p q l2 e=> ?_⟩
 ·by_cases e:v=n
  ·subst e;rw[hmn];exact Nat.le_refl _
  ·rw[hm v e];exact Nat.le_succ_of_le (h.bnd v)
 ·rw[ho];rcases(hw v).1 hv with hv|hv
  ·exact .inl (h.way v hv)
  ·exact .inr hv
 ·rw[ho]
  by_cases e:v=n
  ·subst e;rw[hmn];exact⟨fun _=>⟨by omega,hco⟩,fun _=>.inr rfl⟩
  ·rw[hm v e];exact⟨fun x=>(h.opi v).1 (x.resolve_right e),fun x=>.inl ((h.opi v).2 x)⟩
 ·have:=h.cv v hv
  refine⟨?_,this.2⟩
  by_cases e:v=n
  ·subst e;rw[hmn];omega
  ·rw[hm v e];exact this.1
 ·by_cases e:v=n
  ·subst e;rw[hmn] at hv;omega
  ·rw[hm v e] at hv;exact h.nx0 v hv
 ·have b1:=h.bnd u;have b2:=h.bnd v
  by_cases eu:u=n
  ·by_cases ev:v=n
   ·rw[eu,ev]
   ·rw[eu,hmn,hm v ev] at e;omega
  ·by_cases ev:v=n
   ·rw[ev,hmn,hm u eu] at e;omega
   ·rw[hm u eu] at hu e;rw[hm v ev] at e;exact h.inj u v hu e
 ·by_cases e:v=n
  ·subst e
   rw[hmn,hln]
   exact⟨Nat.le_refl _,v,(ho v).2 (.inr rfl),hmn,.refl _⟩
  ·have hv':=((ho v).1 hv).resolve_right e
   obtain⟨h1,u,h2,h3,h4⟩:=h.lo1 v hv'
   rw[hm v e,hl v e]
   exact⟨h1,u,(ho u).2 (.inl h2),by rw[hm u (ne u h2)];exact h3,h4⟩
 ·have hi3:i<T.nx v:=hi
  clear hi
  obtain⟨h1,h2⟩:=h.scan v t i he hi3
  have et:t≠n:=fun e=>h1 (e▸h0)
  have ev:v≠n:=fun e=>by subst e;rw[h.nx0 v h0] at hi3;omega
  rw[hm t et,hl v ev]
  exact⟨h1,fun a b=>h2 (((ho v).1 a).resolve_right ev) (((ho t).1 b).resolve_right et)⟩
 ·rw[hw] at hnv
  have e:v≠n:=fun e=>hnv (.inr e)
  rw[hm v e,hl v e]
  exact h.fin v (((ho v).1 hv).resolve_right e) fun x=>hnv (.inl x)
 ·rw[hw] at hnv
  have e:v≠n:=fun e=>hnv (.inr e)
  obtain⟨p,h1,h2,h3,h4⟩:=h.up v (((ho v).1 hv).resolve_right e) fun x=>hnv (.inl x)
  have ep:=ne p h1
  rw[hm v e,hl v e]
  refine⟨p,(ho p).2 (.inl h1),by rw[hm p ep];exact h2,fun w hw1 hle=> ?_,by rw[hl p ep];exact h4.imp id fun x=>⟨(hw p).2 (.inl x.1),x.2⟩⟩
  rcases(hw w).1 hw1 with hw1|rfl
  ·rw[hm w (nw w hw1)] at hle⊢;rw[hm p ep];exact h3 w hw1 hle
  ·rw[hmn] at hle;have:=h.bnd v;omega
 ·by_cases e:v=n
  ·subst e
   rcases(hw w).1 hw1 with hw1|rfl
   ·rcases hp with hp| ⟨l,p,hp,he⟩
    ·rw[hp] at hw1;cases hw1
    ·refine Star.tail ?_ ⟨_,he⟩
     have hpw:p∈T.way:=by rw[hp];simp
     refine h.sub w hw1 p (h.way p hpw) ?_
     have hs:=h.wayS
     rw[hp] at hw1 hs
     rcases List.mem_append.1 hw1 with hw1|hw1
     ·exact Nat.le_of_lt (ze9 hs hw1)
     ·obtain rfl:w=p:=by simpa using hw1
      exact Nat.le_refl _
   ·exact .refl _
  ·have hv':=((ho v).1 hv).resolve_right e
   rcases(hw w).1 hw1 with hw1|rfl
   ·rw[hm w (nw w hw1),hm v e] at hle;exact h.sub w hw1 v hv' hle
   ·rw[hmn,hm v e] at hle;have:=h.bnd v;omega
 ·show EdAt E ed (T.nx p) p q
  have e:T.way++[n]=l++p::q::l2:=e
  rcases List.eq_nil_or_concat l2 with rfl| ⟨l3,z,rfl⟩
  ·have e2:T.way++[n]=(l++[p])++[q]:=by rw[e];simp
   obtain⟨e3,e4⟩:=List.append_inj' e2 rfl
   obtain rfl:n=q:=by simpa using e4
   rcases hp with hp| ⟨l',p',hp,he⟩
   ·rw[hp] at e3;simp at e3
   ·rw[hp] at e3
    obtain⟨_,e6⟩:=List.append_inj' e3 rfl
    obtain rfl:p'=p:=by simpa using e6
    exact he
  ·have e2:T.way++[n]=(l++p::q::l3)++[z]:=by rw[e];simp
   exact h.link l p q l3 (List.append_inj' e2 rfl).1
def TS.next (T:TS) (n x:Nat):TS:={T with low:=up1 T.low n x,nx:=up1 T.nx n (T.nx n+1)}
theorem Inv.next (h:Inv E ed T) {n x:Nat} {l:List Nat} (hw:T.way=l++[n]) (hi:T.nx n<E)
 (hx:x=T.low n∧(∀t,ed (T.nx n)=some (n,t)→T.met t≠0∧t∉T.op)∨ ∃t,ed (T.nx n)=some (n,t)∧t∈T.op∧x=min (T.low n) (T.low t)):Inv E ed (T.next n x):=by
 have hnw:n∈T.way:=by rw[hw];simp
 have hno:=h.way n hnw
 have hle:x≤T.low n:=by rcases hx with⟨rfl,_⟩| ⟨t,_,_,rfl⟩<;>omega
 have hl: ∀v,v≠n→(T.next n x).low v=T.low v:=fun v hv=>zeb _ _ hv
 have hln:(T.next n x).low n=x:=zco _ _ _
 have hll: ∀v,(T.next n x).low v≤T.low v:=fun v=>by
  by_cases e:v=n
  ·subst e;rw[hln];exact hle
  ·rw[hl v e];exact Nat.le_refl _
 have hn: ∀v,v≠n→(T.next n x).nx v=T.nx v:=fun v hv=>zeb _ _ hv
 have hnn:(T.next n x).nx n=T.nx n+1:=zco _ _ _
 have hnm:T.met n≠0:=((h.opi n).1 hno).1
 refine⟨h.bnd,h.way,h.opi,h.cv,fun v hv=> ?_,fun v=> ?_,h.opS,h.wayS,h.inj,fun v hv=> ?_,fun v t i he hi2=> ?_,fun v hv hnv=> ?_,h.done,fun v hv hnv=> ?_,h.sub,h.eq,fun l1 p q l2 e=> ?_⟩
 ·have hv:T.met v=0:=hv
  by_cases e:v=n
  ·subst e;exact absurd hv hnm
  ·rw[hn v e];exact h.nx0 v hv
 ·by_cases e:v=n
  ·subst e;rw[hnn];exact hi
  ·rw[hn v e];exact h.nxE v
 ·by_cases e:v=n
  ·subst e
   rw[hln]
   obtain⟨h1,h2⟩:=h.lo1 v hv
   refine⟨Nat.le_trans hle h1,?_⟩
   rcases hx with⟨rfl,_⟩| ⟨t,he,ht,rfl⟩
   ·exact h2
   ·rcases Nat.le_total (T.low v) (T.low t) with hh|hh
    ·rw[Nat.min_eq_left hh];exact h2
    ·rw[Nat.min_eq_right hh]
     obtain⟨_,u,h3,h4,h5⟩:=h.lo1 t ht
     exact⟨u,h3,h4,(Star.one ⟨_,hi,he⟩).trans h5⟩
  ·rw[hl v e];exact h.lo1 v hv
 ·have go: ∀{i},EdAt E ed i v t→i<T.nx v→T.met t≠0∧(v∈T.op→t∈T.op→(T.next n x).low v≤T.met t):=fun he hi=>⟨(h.scan v t _ he hi).1,fun a b=>Nat.le_trans (hll v) ((h.scan v t _ he hi).2 a b)⟩
  by_cases e:v=n
  ·subst e
   rw[hnn] at hi2
   rcases Nat.lt_or_ge i (T.nx v) with hh|hh
   ·exact go he hh
   ·obtain rfl:i=T.nx v:=by omega
    show T.met t≠0∧(v∈T.op→t∈T.op→(T.next v x).low v≤T.met t)
    rw[hln]
    rcases hx with⟨rfl,h2⟩| ⟨t',he',ht,rfl⟩
    ·obtain⟨h3,h4⟩:=h2 t he.2
     exact⟨h3,fun _ b=>absurd b h4⟩
    ·rw[he.2] at he';cases he'
     refine⟨((h.opi t).1 ht).1,fun _ _=> ?_⟩
     have:=(h.lo1 t ht).1;omega
  ·rw[hn v e] at hi2;exact go he hi2
 ·have e:v≠n:=fun e=>hnv (e▸hnw)
  rw[hn v e,hl v e];exact h.fin v hv hnv
 ·have e:v≠n:=fun e=>hnv (e▸hnw)
  obtain⟨p,h1,h2,h3,h4⟩:=h.up v hv hnv
  refine⟨p,h1,h2,h3,?_⟩
  rw[hl v e]
  rcases h4 with h4| ⟨h4,h5⟩
  ·exact .inl (Nat.le_trans (hll p) h4)
  ·by_cases ep:p=n
   ·subst ep
    left
    rw[hln]
    rcases hx with⟨rfl,h6⟩| ⟨t',he',ht,rfl⟩
    ·exact absurd hv (h6 v h5.2).2
    ·rw[h5.2] at he';cases he'
     omega
   ·right;rw[hn p ep];exact⟨h4,h5⟩
 ·replace e:T.way=l1++p::q::l2:=e
  have ep:p≠n:=fun ep=>by
   subst ep
   have hs:=h.wayS
   rw[e] at hs
   have h1:T.met p<T.met q:=by
    have:=(List.pairwise_append.1 hs).2.1
    exact(List.pairwise_cons.1 this).1 q (by simp)
   have hq:q∈T.way:=by rw[e];simp
   have hs:=h.wayS
   rw[hw] at hq hs
   rcases List.mem_append.1 hq with hq|hq
   ·have:=ze9 hs hq;omega
   ·obtain rfl:q=p:=by simpa using hq
    omega
  rw[hn p ep];exact h.link l1 p q l2 e
def TS.pop (T:TS) (l:List Nat):TS:={T with way:=l}
theorem Inv.pop (h:Inv E ed T) {n:Nat} {l:List Nat} (hw:T.way=l++[n]) (hE:T.nx n=E) (hlow:T.low n≠T.met n):Inv E ed (T.pop l):=by
 have hnw:n∈T.way:=by rw[hw];simp
 have hno:=h.way n hnw
 have hs:=h.wayS
 have hsub: ∀w,w∈l→w∈T.way:=fun w hh=>by rw[hw];exact List.mem_append_left _ hh
 have hlt:T.low n<T.met n:=by have:=(h.lo1 n hno).1;omega
 have hnl:n∉l:=fun hh=>by
  rw[hw] at hs
  have:=ze9 hs hh;omega
 have hin: ∀v,v∉l→v≠n→v∉T.way:=fun v h1 h2 h3=>by
  rw[hw] at h3
  rcases List.mem_append.1 h3 with h3|h3
  ·exact h1 h3
  ·exact h2 (by simpa using h3)
 refine⟨h.bnd,fun v hv=>h.way v (hsub v hv),h.opi,h.cv,h.nx0,h.nxE,h.opS,?_,h.inj,h.lo1,h.scan,fun v hv hnv=> ?_,h.done,fun v hv hnv=> ?_,fun w hw1=>h.sub w (hsub w hw1),h.eq,fun l1 p q l2 e=> ?_⟩
 ·rw[hw] at hs;exact(List.pairwise_append.1 hs).1
 ·by_cases e:v=n
  ·subst e;exact⟨hE,hlt⟩
  ·exact h.fin v hv (hin v hnv e)
 ·by_cases e:v=n
  ·subst e
   rcases List.eq_nil_or_concat l with rfl| ⟨l',p,rfl⟩
   ·obtain⟨_,u,h1,h2,_⟩:=h.lo1 v hv
    obtain⟨w,h3,h4⟩:=h.root (T.met u+1) u (by omega) h1
    rw[hw] at h3
    obtain rfl:w=v:=by simpa using h3
    omega
   ·have hpw:p∈T.way:=hsub p (by simp)
    rw[hw] at hs
    refine⟨p,h.way p hpw,ze9 hs (by simp),fun w hw1 _=> ?_,.inr ⟨by simp[TS.pop],h.link l' p v [] (by rw[hw];simp)⟩⟩
    have hw1:w∈l'++[p]:=by simpa[TS.pop] using hw1
    rcases List.mem_append.1 hw1 with hw1|hw1
    ·have h5:=(List.pairwise_append.1 hs).1
     rw[List.concat_eq_append] at h5
     exact Nat.le_of_lt (ze9 h5 hw1)
    ·obtain rfl:w=p:=by simpa using hw1
     exact Nat.le_refl _
  ·obtain⟨p,h1,h2,h3,h4⟩:=h.up v hv (hin v hnv e)
   refine⟨p,h1,h2,fun w hw1=>h3 w (hsub w hw1),?_⟩
   rcases h4 with h4| ⟨h4,h5⟩
   ·exact .inl h4
   ·rw[hw] at h4
    rcases List.mem_append.1 h4 with h4|h4
    ·exact .inr ⟨h4,h5⟩
    ·obtain rfl:p=n:=by simpa using h4
     have:=h5.1;omega
 ·have e:l=l1++p::q::l2:=e
  exact h.link l1 p q (l2++[n]) (by rw[hw,e];simp)
def TS.part (T:TS) (l:List Nat) (o2:List Nat) (cmp:Nat→Int):TS:={T with way:=l,op:=o2,cmp:=cmp,many:=T.many+1}
theorem Inv.part (h:Inv E ed T) {n:Nat} {l o2:List Nat} {cmp:Nat→Int} (hw:T.way=l++[n]) (hE:T.nx n=E) (hlow:T.low n=T.met n) (ho2: ∀v,v∈o2↔v∈T.op∧T.met v<T.met n) (hsl:o2.Sublist T.op)
 (hc: ∀v,cmp v=if v∈T.op∧T.met n≤T.met v then(T.many:Int) else T.cmp v):Inv E ed (T.part l o2 cmp):=by
 have hnw:n∈T.way:=by rw[hw];simp
 have hno:=h.way n hnw
 have hs:=h.wayS
 have hsub: ∀w,w∈l→w∈T.way:=fun w hh=>by rw[hw];exact List.mem_append_left _ hh
 have hmx: ∀w,w∈T.way→T.met w≤T.met n∧(w≠n→T.met w<T.met n∧w∈l):=fun w h3=>by
  rw[hw] at hs h3
  rcases List.mem_append.1 h3 with h3|h3
  ·have:=ze9 hs h3;exact⟨by omega,fun _=>⟨this,h3⟩⟩
  ·obtain rfl:w=n:=by simpa using h3
   exact⟨Nat.le_refl _,fun h=>absurd rfl h⟩
 have hllt: ∀w,w∈l→T.met w<T.met n:=fun w hh=>by rw[hw] at hs;exact ze9 hs hh
 have cin: ∀v,v∈T.op∧T.met n≤T.met v→cmp v=T.many:=fun v hv=>by rw[hc,if_pos hv]
 have cout: ∀v,¬(v∈T.op∧T.met n≤T.met v)→cmp v=T.cmp v:=fun v hv=>by rw[hc,if_neg hv]
 have low: ∀k v,T.met v<k→v∈T.op→T.met n≤T.met v→T.met n≤T.low v:=by
  intro k
  induction k with
  |zero=>intro v hv;omega
  |succ k ih=>
   intro v hv ho hle
   by_cases e:v=n
   ·subst e;omega
   ·have hnv:v∉T.way:=fun hh=>by have:=((hmx v hh).2 e).1;omega
    obtain⟨p,h1,h2,h3,h4⟩:=h.up v ho hnv
    have hp:=h3 n hnw hle
    rcases h4 with h4| ⟨h4,h5⟩
    ·exact Nat.le_trans (ih p (by omega) h1 hp) h4
    ·by_cases ep:p=n
     ·subst ep;have:=h5.1;omega
     ·have:=((hmx p h4).2 ep).1;omega
 have back: ∀k v,T.met v<k→v∈T.op→T.met n≤T.met v→Star (RTo E ed) v n:=by
  intro k
  induction k with
  |zero=>intro v hv;omega
  |succ k ih=>
   intro v hv ho hle
   by_cases e:v=n
   ·subst e;exact .refl _
   ·have hnv:v∉T.way:=fun hh=>by have:=((hmx v hh).2 e).1;omega
    obtain⟨_,h1⟩:=h.fin v ho hnv
    obtain⟨_,u,h2,h3,h4⟩:=h.lo1 v ho
    exact h4.trans (ih u (by omega) h2 (by rw[h3];exact low _ v (Nat.lt_succ_self _) ho hle))
 have clos: ∀v t,v∈T.op→T.met n≤T.met v→RTo E ed v t→(t∈T.op∧T.met n≤T.met t)∨T.cmp t≠ -1:=fun v t ho hle ⟨i,he⟩=>by
  have hx:T.nx v=E:=by
   by_cases e:v=n
   ·subst e;exact hE
   ·exact(h.fin v ho fun hh=>by have:=((hmx v hh).2 e).1;omega).1
  obtain⟨h1,h2⟩:=h.scan v t i he (by have:=he.1;omega)
  by_cases hct:T.cmp t= -1
  ·have ht:=(h.opi t).2 ⟨h1,hct⟩
   exact .inl ⟨ht,Nat.le_trans (low _ v (Nat.lt_succ_self _) ho hle) (h2 ho ht)⟩
  ·exact .inr hct
 have cne: ∀v,cmp v≠ -1↔T.cmp v≠ -1∨(v∈T.op∧T.met n≤T.met v):=fun v=>by
  by_cases hv:v∈T.op∧T.met n≤T.met v
  ·rw[cin v hv];exact⟨fun _=>.inr hv,fun _=>by omega⟩
  ·rw[cout v hv];exact⟨.inl,fun x=>x.resolve_right hv⟩
 have dn: ∀v t,cmp v≠ -1→RTo E ed v t→cmp t≠ -1:=fun v t hv r=>by
  rw[cne] at hv⊢
  rcases hv with hv|hv
  ·exact .inl (h.done v t hv r)
  ·rcases clos v t hv.1 hv.2 r with x|x
   ·exact .inr x
   ·exact .inl x
 refine⟨h.bnd,fun v hv=> ?_,fun v=> ?_,fun v hv=> ?_,h.nx0,h.nxE,h.opS.sublist hsl,?_,h.inj,fun v hv=> ?_,fun v t i he hi=> ?_,fun v hv hnv=> ?_,dn,fun v hv hnv=> ?_,fun w hw1 v hv=>h.sub w (hsub w hw1) v ((ho2 v).1 hv).1,fun a b ha hb=> ?_,fun l1 p q l2 e=> ?_⟩
 ·exact(ho2 v).2 ⟨h.way v (hsub v hv),hllt v hv⟩
 ·show v∈o2↔T.met v≠0∧cmp v= -1
  rw[ho2]
  constructor
  ·rintro⟨h1,h2⟩
   obtain⟨h3,h4⟩:=(h.opi v).1 h1
   exact⟨h3,by rw[cout v (fun x=>by omega)];exact h4⟩
  ·rintro⟨h1,h2⟩
   have h3: ¬cmp v≠ -1:=fun x=>x h2
   rw[cne] at h3
   have h4:T.cmp v= -1:=Classical.byContradiction fun x=>h3 (.inl x)
   have h5:=(h.opi v).2 ⟨h1,h4⟩
   exact⟨h5,Nat.lt_of_not_le fun x=>h3 (.inr ⟨h5,x⟩)⟩
 ·have hv:cmp v≠ -1:=hv
  show T.met v≠0∧0≤cmp v∧cmp v<((T.many+1:Nat):Int)
  by_cases hc:v∈T.op∧T.met n≤T.met v
  ·rw[cin v hc];exact⟨((h.opi v).1 hc.1).1,by omega,by omega⟩
  ·rw[cout v hc] at hv⊢
   obtain⟨h1,h2,h3⟩:=h.cv v hv
   exact⟨h1,h2,by omega⟩
 ·rw[hw] at hs;exact(List.pairwise_append.1 hs).1
 ·obtain⟨h1,h2⟩:=(ho2 v).1 hv
  obtain⟨h3,u,h4,h5,h6⟩:=h.lo1 v h1
  refine⟨h3,u,(ho2 u).2 ⟨h4,?_⟩,h5,h6⟩
  rw[h5];omega
 ·obtain⟨h1,h2⟩:=h.scan v t i he hi
  exact⟨h1,fun a b=>h2 ((ho2 v).1 a).1 ((ho2 t).1 b).1⟩
 ·obtain⟨h1,h2⟩:=(ho2 v).1 hv
  refine h.fin v h1 fun hh=> ?_
  by_cases e:v=n
  ·subst e;omega
  ·exact hnv ((hmx v hh).2 e).2
 ·obtain⟨h1,h2⟩:=(ho2 v).1 hv
  have hnv':v∉T.way:=fun hh=>by
   by_cases e:v=n
   ·subst e;omega
   ·exact hnv ((hmx v hh).2 e).2
  obtain⟨p,h3,h4,h5,h6⟩:=h.up v h1 hnv'
  refine⟨p,(ho2 p).2 ⟨h3,by omega⟩,h4,fun w hw1=>h5 w (hsub w hw1),h6.imp id fun x=>⟨((hmx p x.1).2 fun e=> ?_).2,x.2⟩⟩
  subst e;omega
 ·show cmp a=cmp b↔_
  have sep: ∀a b,(a∈T.op∧T.met n≤T.met a)→T.cmp b≠ -1→ ¬Star (RTo E ed) b a:=fun a b ha hb r=>by
   have:=r.keep (P:=fun v=>T.cmp v≠ -1) h.done hb
   exact this ((h.opi a).1 ha.1).2
  by_cases h1:a∈T.op∧T.met n≤T.met a
  ·by_cases h2:b∈T.op∧T.met n≤T.met b
   ·rw[cin a h1,cin b h2]
    exact⟨fun _=>⟨(back _ a (Nat.lt_succ_self _) h1.1 h1.2).trans (h.sub n hnw b h2.1 h2.2),(back _ b (Nat.lt_succ_self _) h2.1 h2.2).trans (h.sub n hnw a h1.1 h1.2)⟩,fun _=>rfl⟩
   ·have hb':=((cne b).1 hb).resolve_right h2
    have:=(h.cv b hb').2.2
    rw[cin a h1,cout b h2]
    exact⟨fun x=>by omega,fun x=>absurd x.2 (sep a b h1 hb')⟩
  ·have ha':=((cne a).1 ha).resolve_right h1
   by_cases h2:b∈T.op∧T.met n≤T.met b
   ·have:=(h.cv a ha').2.2
    rw[cout a h1,cin b h2]
    exact⟨fun x=>by omega,fun x=>absurd x.1 (sep b a h2 ha')⟩
   ·rw[cout a h1,cout b h2];exact h.eq a b ha' (((cne b).1 hb).resolve_right h2)
 ·have e:l=l1++p::q::l2:=e
  exact h.link l1 p q (l2++[n]) (by rw[hw,e];simp)
def TS.nil:TS:=⟨fun _=>0,fun _=>0,fun _=>0,fun _=> -1,0,0,[],[]⟩
theorem Inv.nil (E:Nat) (ed:Nat→Option (Nat×Nat)):Inv E ed TS.nil:=
 ⟨fun _=>Nat.le_refl _,fun _ h=>(by cases h),fun v=>⟨fun h=>(by cases h),fun h=>absurd rfl h.1⟩,fun _ h=>absurd rfl h,fun _ _=>rfl,fun _=>Nat.zero_le _,.nil,.nil,fun _ _ h=>absurd rfl h,fun _ h=>(by cases h),fun _ _ _ _ h=>absurd h (Nat.not_lt_zero _),fun _ h=>(by cases h),fun _ _ h=>absurd rfl h,fun _ h=>(by cases h),fun _ h=>(by cases h),fun _ _ h=>absurd rfl h,fun l p q l2 e=>absurd (show[]=l++p::q::l2 from e) (by simp)⟩
end
end Go.Ideal.S
namespace Go.Ideal
noncomputable section
variable {F:FuncId→Option zl} {n0:Nat}
def ScK (F:FuncId→Option zl) (n0:Nat) (r1 r2:CC) (K:KD):KD:=⟨K.nrm,scopeX F n0 0 r1 1 r2 K,K.ret,K.pan⟩
@[simp] theorem ScK_1 (r1 r2:CC) (K:KD) (s:DS) (M:VM):(ScK F n0 r1 r2 K).ext 1 s M=zb2 F n0 r1 0 r1 1 r2 K s M:=id rfl
@[simp] theorem ScK_2 (r1 r2:CC) (K:KD) (s:DS) (M:VM):(ScK F n0 r1 r2 K).ext 2 s M=K.ext 2 s M:=id rfl
theorem zb2.go {b b' r1 r2:CC} {K:KD} {s:DS} {M:VM} (hb:b=b') (h: @Cd (rD F n0) (.base (ScK F n0 r1 r2 K)) b' s M):zb2 F n0 b 0 r1 1 r2 K s M:=zb2.step (hb▸h)
theorem zb2.skip {b0 b r1 r2:CC} {L:List (List Bool)} {K:KD} {s s':DS} {M:VM} (hb:b0=.seq .skip L b) (hs:z6 L s=s') (h: @Cd (rD F n0) (.base (ScK F n0 r1 r2 K)) b s' M):zb2 F n0 b0 0 r1 1 r2 K s M:=zb2.step (by subst hb;subst hs;exact h)
def Hold (y:VM) (L:List (Nat×MO)):Prop:= ∀(k:Nat) x,L[k]? =some x→y.obj x.1=some x.2
theorem Hold.frame {y y':VM} {L:List (Nat×MO)} (h:Hold y L) (hs:SM y.next y y') (hlt: ∀x∈L,x.1<y.next):Hold y' L:=fun k x hx=>by
 have:=h k x hx
 rw[←this]
 show(y'.get x.1).map _=(y.get x.1).map _
 rw[hs _ (hlt x (List.mem_of_getElem? hx))]
theorem Hold.set {y:VM} {L:List (Nat×MO)} (h:Hold y L) (hp:L.Pairwise fun a b=>a.1<b.1) (k:Nat) {j:Nat} {o o2:MO} (hk:L[k]? =some (j,o)):Hold (y.put j o2) (L.set k (j,o2)):=fun i x hx=>by
 rw[List.getElem?_set] at hx
 obtain⟨hkl,hke⟩:=List.getElem?_eq_some_iff.1 hk
 split at hx
 ·cases hx;simp
 ·rename_i hne
  have hi:=(List.getElem?_eq_some_iff.1 hx)
  obtain⟨hil,hie⟩:=hi
  have:x.1≠j:=by
   rw[List.pairwise_iff_getElem] at hp
   rcases Nat.lt_trichotomy i k with hh|hh|hh
   ·have:=hp i k hil hkl hh;rw[hie,hke] at this;exact Nat.ne_of_lt this
   ·exact absurd hh.symm hne
   ·have:=hp k i hkl hil hh;rw[hie,hke] at this;exact(Nat.ne_of_lt this).symm
  rw[obj_put,if_neg this];exact h i x hx
def Stk (Y:Nat) (y:VM) (d:DV) (l:List Nat):Prop:=(d=.nilS∧l=[])∨ ∃j rs,d=.ms j 0 l.length zm∧Y≤j∧j<y.next∧y.obj j=some (.rows true 1 rs)∧rs.take l.length=l.map fun v=>[I (v:Nat)]
def zdS (d:DV) (j:Nat):Prop:= ∀a b c,d≠ .ms j a b c
theorem Stk.keep {Y:Nat} {y y':VM} {d:DV} {l:List Nat} (h:Stk Y y d l) (hn:y.next≤y'.next) (ho: ∀j,j<y.next→Y≤j→ ¬zdS d j→y'.obj j=y.obj j):Stk Y y' d l:=by
 rcases h with h| ⟨j,rs,h1,h2,h3,h4,h5⟩
 ·exact .inl h
 ·refine .inr ⟨j,rs,h1,h2,Nat.lt_of_lt_of_le h3 hn,?_,h5⟩
  rw[ho j h3 h2 fun hh=>hh _ _ _ h1];exact h4
theorem Stk.pop {Y:Nat} {y:VM} {j n:Nat} {l:List Nat} {x:Nat} (h:Stk Y y (.ms j 0 n zm) (l++[x])):Stk Y y (.ms j 0 l.length zm) l:=by
 rcases h with⟨h,_⟩| ⟨j,rs,h1,h2,h3,h4,h5⟩
 ·cases h
 ·cases h1
  refine .inr ⟨j,rs,rfl,h2,h3,h4,?_⟩
  have:=congrArg (List.take l.length) h5
  rw[List.take_take,Nat.min_eq_left (by simp)] at this
  rw[this,List.map_append,List.take_left' (by simp)]
theorem Stk.cut {Y:Nat} {y:VM} {j n:Nat} {l l2:List Nat} (h:Stk Y y (.ms j 0 n zm) (l++l2)):Stk Y y (.ms j 0 l.length zm) l:=by
 rcases h with⟨h,_⟩| ⟨j,rs,h1,h2,h3,h4,h5⟩
 ·cases h
 ·cases h1
  refine .inr ⟨j,rs,rfl,h2,h3,h4,?_⟩
  have:=congrArg (List.take l.length) h5
  rw[List.take_take,Nat.min_eq_left (by simp)] at this
  rw[this,List.map_append,List.take_left' (by simp)]
theorem Rs_push {X:RnD} {fr:FrC} {Y:Nat} {y:VM} {d:DV} {l:List Nat} {x jb:Nat} {dst:Option (List Bool)} {r:List CI} {sl:DS} (h:Stk Y y d l) (hl:l.length≤1000000) (hY:Y≤y.next) (hb:y.obj jb=some (.rows false 1 [[I (x:Nat)]]))
 (k: ∀d' y',Stk Y y' d' (l++[x])→y.next≤y'.next→SM Y y y'→(∀j,j<y.next→zdS d j→y'.obj j=y.obj j)→(∀j,¬zdS d' j→j<y.next→ ¬zdS d j)→ @Op X fr r (z8 dst d' sl) y'): @Rs X fr (bltD y (.append 1 8) [d,.ms jb 0 1 1]) dst r sl:=by
 rw[bltD_append,if_pos ⟨by decide,by decide⟩,appendedD_ms,hb]
 rcases h with⟨rfl,rfl⟩| ⟨j,rs,rfl,h2,h3,h4,h5⟩
 ·have e:zca 1 8 y [[I (x:Nat)]] .nilS=some (.ms y.next 0 1 zm,y.new (.rows true 1 [[I (x:Nat)]])):=by simp
  rw[show elO 1 0 1 (some (MO.rows false 1 [[I (x:Nat)]]))=some [[I (x:Nat)]] from by simp,apN_some,if_pos (by simp),e]
  refine k _ _ (.inr ⟨y.next,_,rfl,hY,by simp,by simp;rfl,by simp⟩) (by simp) (SM_new (SM_refl _ _) hY) (fun j hj _=>zhY _ hj) fun j hj hlt=> ?_
  exfalso
  refine hj fun a b c e=> ?_
  cases e;omega
 ·have hlen:l.length≤rs.length:=by
   have:=congrArg List.length h5
   rw[List.length_take,List.length_map] at this;omega
  rw[show elO 1 0 1 (some (MO.rows false 1 [[I (x:Nat)]]))=some [[I (x:Nat)]] from by simp,apN_some,if_pos (by simp)]
  by_cases hq:l.length+1≤rs.length
  ·have e:zca 1 8 y [[I (x:Nat)]] (.ms j 0 l.length zm)=some (.ms j 0 (l.length+1) zm,y.put j (.rows true 1 (zV rs [[I (x:Nat)]] l.length))):=by
    rw[appendD_ms,if_neg (by simp),if_pos (by simp;omega),h4,apM_some,appendMs_grow,if_pos ⟨rfl,by omega⟩,if_pos (by simp;omega)]
    simp
   rw[e]
   refine k _ _ (.inr ⟨j,_,by simp,h2,by simp;omega,by simp;rfl,?_⟩) (by simp) (SM_put (SM_refl _ _) h2) (fun i hi hn=> ?_) fun i hi _ hn=> ?_
   ·unfold zV
    rw[h5,List.length_append,List.append_assoc,List.take_append,List.take_of_length_le (by simp)]
    simp
   ·have hne:i≠j:=fun e=>by subst e;exact hn _ _ _ rfl
    rw[obj_put,if_neg hne]
   ·refine hi fun a b c e=> ?_
    cases e;exact hn _ _ _ rfl
  ·have e:zca 1 8 y [[I (x:Nat)]] (.ms j 0 l.length zm)=some (.ms y.next 0 (l.length+1) zm,(y.del j).new (.rows true 1 (rs.take l.length++[[I (x:Nat)]]))):=by
    rw[appendD_ms,if_neg (by simp),if_pos (by simp;omega),h4,apM_some,appendMs_grow,if_pos ⟨rfl,by omega⟩,if_neg (by simp;omega)]
    simp[hlen]
   rw[e]
   refine k _ _ (.inr ⟨y.next,_,by simp,hY,by simp,by simp;rfl,?_⟩) (by simp) (SM_new (SM_del (SM_refl _ _) h2) (by simpa using hY)) (fun i hi hn=> ?_) fun i hi hlt=> ?_
   ·rw[h5,List.take_of_length_le (by simp)];simp
   ·have hne:i≠j:=fun e=>by subst e;exact hn _ _ _ rfl
    rw[zhY _ (by simpa using hi)];simp[hne]
   ·exfalso
    refine hi fun a b c e=> ?_
    cases e;omega
end
end Go.Ideal
namespace Go.Ideal.S
open Go Go.Ideal Q Classical
attribute [local simp] decide_eq_true decide_eq_false z9
def R1 (f:Nat→Int) (N:Nat):List (List DV):=(List.range N).map fun v=>[I (f v)]
def R2 (f g:Nat→Int) (N:Nat):List (List DV):=(List.range N).map fun v=>[I (f v),I (g v)]
@[simp] theorem R1_len (f:Nat→Int) (N:Nat):(R1 f N).length=N:=by simp[R1]
theorem R1_at {f:Nat→Int} {N n:Nat} (h:n<N):(R1 f N)[n]? =some [I (f n)]:=by simp[R1,h]
theorem R2_at {f g:Nat→Int} {N n:Nat} (h:n<N):(R2 f g N)[n]? =some [I (f n),I (g n)]:=by simp[R2,h]
theorem set_map {f:Nat→List DV} {x:List DV} {N n:Nat}:((List.range N).map f).set n x=(List.range N).map (up1 f n x):=by
 apply List.ext_getElem (by simp)
 intro i h1 h2
 simp at h1
 rw[List.getElem_set]
 by_cases e:n=i
 ·subst e;simp[up1]
 ·have e': ¬i=n:=fun h=>e h.symm
  rw[if_neg e];simp[up1,e']
theorem zku {f:Nat→Int} {N n:Nat} {x:Int}:(R1 f N).set n [I x]=R1 (up1 f n x) N:=by
 unfold R1
 rw[set_map]
 congr 1;funext v
 unfold up1;split<;>rfl
theorem R2_set {f g:Nat→Int} {N n:Nat} {x z:Int}:(R2 f g N).set n [I x,I z]=R2 (up1 f n x) (up1 g n z) N:=by
 unfold R2
 rw[set_map]
 congr 1;funext v
 unfold up1;split<;>rfl
theorem R2_set2 {f g:Nat→Int} {N n:Nat} {z:Int}:(R2 f g N).set n [I (f n),I z]=R2 f (up1 g n z) N:=by
 rw[R2_set]
 congr 1;funext v
 unfold up1;split
 ·subst v;rfl
 ·rfl
theorem zgY (f:Nat→Nat) (n x:Nat):up1 (fun v=>(f v:Int)) n (x:Int)=fun v=>((up1 f n x v:Nat):Int):=by
 funext v;unfold up1;split<;>rfl
structure PJ where
 j3:Nat
 j4:Nat
 j5:Nat
 jo:Nat
 j8:Nat
 jt:Nat
 j9:Nat
 j10:Nat
 j11:Nat
 jn:Nat
 j12:Nat
 j13:Nat
 j14:Nat
 j15:Nat
 j16:Nat
 Y:Nat
 N:Nat
 ex:List (Nat×MO)
structure PJ.Ok (p:PJ) (b:Nat):Prop where
 h:b≤p.j3∧p.j3<p.j4∧p.j4<p.j5∧p.j5<p.jo∧p.jo<p.j8∧p.j8<p.jt∧p.jt<p.j9∧p.j9<p.j10∧p.j10<p.j11∧p.j11<p.jn∧p.jn<p.j12∧p.j12<p.j13∧p.j13<p.j14∧p.j14<p.j15∧p.j15<p.j16∧p.j16<p.Y
def PJ.L (p:PJ) (g:Gr) (mi:Nat) (w:Int) (T:TS) (n i:Int) (dw dp:DV):List (Nat×MO):=
 [(p.j3,grO g),(p.j4,setO mi),(p.j5,intO w),(p.jo,.rows false 1 (R1 T.cmp p.N)),(p.j8,.rows false 1 [[.ms p.jo 0 p.N p.N]]),(p.jt,.rows false 2 (R2 (fun v=>(T.met v:Int)) (fun v=>(T.low v:Int)) p.N)),(p.j9,.rows false 1 [[.ms p.jt 0 p.N p.N]]),
  (p.j10,.rows false 1 [[dw]]),(p.j11,.rows false 1 [[dp]]),(p.jn,.rows false 1 (R1 (fun v=>(T.nx v:Int)) p.N)),(p.j12,.rows false 1 [[.ms p.jn 0 p.N p.N]]),(p.j13,intO T.m),(p.j14,intO T.many),(p.j15,intO n),(p.j16,intO i)]
structure PM (B:VM) (p:PJ) (g:Gr) (mi:Nat) (w:Int) (T:TS) (n i:Int) (dw dp:DV) (y:VM):Prop where
 ok:p.Ok B.next
 sm:SM B.next B y
 nx:p.Y≤y.next
 hold:Hold y (p.L g mi w T n i dw dp)
 sw:Stk p.Y y dw T.way
 sp:Stk p.Y y dp T.op
 ne: ∀j,¬zdS dw j→zdS dp j
 xs: ∀x∈p.ex,y.obj x.1=some x.2∧p.j16<x.1∧x.1<p.Y
section
variable {B y y':VM} {p:PJ} {g:Gr} {mi:Nat} {w:Int} {T T':TS} {n i:Int} {dw dp:DV}
theorem PJ.L_pw (h:p.Ok B.next):(p.L g mi w T n i dw dp).Pairwise fun a b=>a.1<b.1:=by
 obtain⟨h⟩:=h
 simp[PJ.L];omega
theorem PJ.L_lt (h:p.Ok B.next): ∀x∈p.L g mi w T n i dw dp,B.next≤x.1∧x.1<p.Y∧x.1≤p.j16:=by
 obtain⟨h⟩:=h
 simp[PJ.L];omega
theorem PM.frame (h:PM B p g mi w T n i dw dp y) (hs:SM y.next y y') (hn:y.next≤y'.next):PM B p g mi w T n i dw dp y':=by
 have h1:=h.nx
 have h0:=h.ok.h
 have hob: ∀j,j<y.next→y'.obj j=y.obj j:=fun j hj=>by show(y'.get j).map _=(y.get j).map _;rw[hs j hj]
 exact⟨h.ok,fun j hj=>(hs j (by omega)).trans (h.sm j hj),by omega,h.hold.frame hs fun x hx=>by have:=(PJ.L_lt h.ok x hx).2.1;omega,h.sw.keep hn fun j a _ _=>hob j a,h.sp.keep hn fun j a _ _=>hob j a,h.ne,fun x hx=>by
  obtain⟨a,b,c⟩:=h.xs x hx
  exact⟨by rw[hob _ (by omega)];exact a,b,c⟩⟩
theorem PM.put (h:PM B p g mi w T n i dw dp y) (k:Nat) {j:Nat} {o o2:MO} {n2 i2:Int} {dw2 dp2:DV} (hk:(p.L g mi w T n i dw dp)[k]? =some (j,o)) (e:(p.L g mi w T n i dw dp).set k (j,o2)=p.L g mi w T' n2 i2 dw2 dp2)
 (h1:Stk p.Y y dw2 T'.way) (h2:Stk p.Y y dp2 T'.op) (h3: ∀j,¬zdS dw2 j→zdS dp2 j):PM B p g mi w T' n2 i2 dw2 dp2 (y.put j o2):=by
 have hj:=PJ.L_lt h.ok _ (List.mem_of_getElem? hk)
 have hh:=h.hold.set (PJ.L_pw h.ok) k (o2:=o2) hk
 rw[e] at hh
 refine⟨h.ok,SM_put h.sm hj.1,by have:=h.nx;simp;omega,hh,h1.keep (by simp) fun i a b _=> ?_,h2.keep (by simp) fun i a b _=> ?_,h3,fun x hx=> ?_⟩
 ·rw[obj_put,if_neg (by have:=hj.2.1;omega)]
 ·rw[obj_put,if_neg (by have:=hj.2.1;omega)]
 ·obtain⟨a,b,c⟩:=h.xs x hx
  exact⟨by rw[obj_put,if_neg (by have:=hj.2.2;omega)];exact a,b,c⟩
theorem PM.box (h:PM B p g mi w T n i dw dp y) (a b:MO):PM B p g mi w T n i dw dp ((y.new a).put y.next b):=h.frame (SM_put (SM_new (SM_refl _ _) (Nat.le_refl _)) (Nat.le_refl _)) (by simp;omega)
theorem zgX {β:Type} (f:Nat→β) (n:Nat):up1 f n (f n)=f:=by
 funext v;unfold up1;split
 ·subst v;rfl
 ·rfl
theorem PM.setNx (h:PM B p g mi w T n i dw dp y) (m:Nat):PM B p g mi w {T with nx:=up1 T.nx m (T.nx m+1)} n i dw dp (y.put p.jn (.rows false 1 ((R1 (fun v=>(T.nx v:Int)) p.N).set m [I ((T.nx m:Int)+1)]))):=by
 refine h.put 9 rfl ?_ h.sw h.sp h.ne
 rw[zku,show((T.nx m:Int)+1)=((T.nx m+1:Nat):Int) from by simp,zgY];rfl
theorem PM.setLow (h:PM B p g mi w T n i dw dp y) (m x:Nat):PM B p g mi w {T with low:=up1 T.low m x} n i dw dp (y.put p.jt (.rows false 2 ((R2 (fun v=>(T.met v:Int)) (fun v=>(T.low v:Int)) p.N).set m [I (T.met m),I (x:Int)]))):=by
 refine h.put 5 rfl ?_ h.sw h.sp h.ne
 rw[R2_set2 (f:=fun v=>(T.met v:Int)),zgY];rfl
theorem PM.setN (h:PM B p g mi w T n i dw dp y) (m:Int):PM B p g mi w T m i dw dp (y.put p.j15 (intO m)):=h.put 13 rfl rfl h.sw h.sp h.ne
theorem PM.setI (h:PM B p g mi w T n i dw dp y) (m:Int):PM B p g mi w T n m dw dp (y.put p.j16 (intO m)):=h.put 14 rfl rfl h.sw h.sp h.ne
theorem PM.setM (h:PM B p g mi w T n i dw dp y):PM B p g mi w {T with m:=T.m+1} n i dw dp (y.put p.j13 (intO ((T.m:Int)+1))):=h.put 11 rfl (by simp[PJ.L]) h.sw h.sp h.ne
theorem PM.setMany (h:PM B p g mi w T n i dw dp y):PM B p g mi w {T with many:=T.many+1} n i dw dp (y.put p.j14 (intO ((T.many:Int)+1))):=h.put 12 rfl (by simp[PJ.L]) h.sw h.sp h.ne
theorem PM.setMet (h:PM B p g mi w T n i dw dp y) (m x:Nat):PM B p g mi w {T with met:=up1 T.met m x,low:=up1 T.low m x} n i dw dp (y.put p.jt (.rows false 2 ((R2 (fun v=>(T.met v:Int)) (fun v=>(T.low v:Int)) p.N).set m [I (x:Int),I (x:Int)]))):=by
 refine h.put 5 rfl ?_ h.sw h.sp h.ne
 rw[R2_set,zgY,zgY];rfl
theorem PM.setCmp (h:PM B p g mi w T n i dw dp y) (m:Nat) (x:Int):PM B p g mi w {T with cmp:=up1 T.cmp m x} n i dw dp (y.put p.jo (.rows false 1 ((R1 T.cmp p.N).set m [I x]))):=by
 refine h.put 3 rfl ?_ h.sw h.sp h.ne
 rw[zku];rfl
theorem Stk.lt {Y:Nat} {d:DV} {l:List Nat} (h:Stk Y y d l) {j:Nat} (hj: ¬zdS d j):j<y.next:=by
 rcases h with⟨rfl,_⟩| ⟨j',rs,rfl,h2,h3,_⟩
 ·exact absurd (fun a b c e=>by cases e) hj
 ·by_cases e:j=j'
  ·subst e;exact h3
  ·exact absurd (fun a b c e2=>by cases e2;exact e rfl) hj
theorem Hold.frame2 {L:List (Nat×MO)} (h:Hold y L) {Y:Nat} (hs:SM Y y y') (hlt: ∀x∈L,x.1<Y):Hold y' L:=fun k x hx=>by
 have:=h k x hx
 rw[←this]
 show(y'.get x.1).map _=(y.get x.1).map _
 rw[hs _ (hlt x (List.mem_of_getElem? hx))]
theorem PM.mid (h:PM B p g mi w T n i dw dp y) (hn:y.next≤y'.next) (hs:SM p.Y y y'):SM B.next B y'∧p.Y≤y'.next∧Hold y' (p.L g mi w T n i dw dp):=by
 have h0:=h.ok.h
 exact⟨fun j hj=>(hs j (by omega)).trans (h.sm j hj),Nat.le_trans h.nx hn,Hold.frame2 h.hold hs fun x hx=>(PJ.L_lt h.ok x hx).2.1⟩
theorem PM.pushW (h:PM B p g mi w T n i dw dp y) {x:Nat} {d':DV} (h1:Stk p.Y y' d' (T.way++[x])) (hn:y.next≤y'.next) (hs:SM p.Y y y') (hf: ∀j,j<y.next→zdS dw j→y'.obj j=y.obj j) (hd: ∀j,¬zdS d' j→j<y.next→ ¬zdS dw j):
 PM B p g mi w {T with way:=T.way++[x]} n i d' dp (y'.put p.j10 (.rows false 1 [[d']])):=by
 obtain⟨a1,a2,a3⟩:=h.mid hn hs
 have hj:=PJ.L_lt h.ok (p.j10,_) (List.mem_of_getElem? (show(p.L g mi w T n i dw dp)[7]? =some (p.j10,_) from rfl))
 refine⟨h.ok,SM_put a1 hj.1,by simp;omega,a3.set (PJ.L_pw h.ok) 7 rfl,h1.keep (by simp) fun j a b _=> ?_,h.sp.keep (by simp;omega) fun j a b hnm=> ?_,fun j hj2=> ?_,fun x hx=> ?_⟩
 ·rw[obj_put,if_neg (by have:=hj.2.1;omega)]
 ·rw[obj_put,if_neg (by have:=hj.2.1;omega)]
  exact hf j a (Classical.byContradiction fun hh=>hnm (h.ne j hh))
 ·by_cases hlt:j<y.next
  ·exact h.ne j (hd j hj2 hlt)
  ·exact Classical.byContradiction fun hh=>hlt (Stk.lt h.sp hh)
 ·obtain⟨a,b,c⟩:=h.xs x hx
  refine⟨?_,b,c⟩
  rw[obj_put,if_neg (by have:=hj.2.2;omega),←a]
  show(y'.get x.1).map _=(y.get x.1).map _
  rw[hs _ c]
theorem PM.pushP (h:PM B p g mi w T n i dw dp y) {x:Nat} {d':DV} (h1:Stk p.Y y' d' (T.op++[x])) (hn:y.next≤y'.next) (hs:SM p.Y y y') (hf: ∀j,j<y.next→zdS dp j→y'.obj j=y.obj j) (hd: ∀j,¬zdS d' j→j<y.next→ ¬zdS dp j):
 PM B p g mi w {T with op:=T.op++[x]} n i dw d' (y'.put p.j11 (.rows false 1 [[d']])):=by
 obtain⟨a1,a2,a3⟩:=h.mid hn hs
 have hj:=PJ.L_lt h.ok (p.j11,_) (List.mem_of_getElem? (show(p.L g mi w T n i dw dp)[8]? =some (p.j11,_) from rfl))
 refine⟨h.ok,SM_put a1 hj.1,by simp;omega,a3.set (PJ.L_pw h.ok) 8 rfl,h.sw.keep (by simp;omega) fun j a b hnm=> ?_,h1.keep (by simp) fun j a b _=> ?_,fun j hj2=> ?_,fun x hx=> ?_⟩
 ·rw[obj_put,if_neg (by have:=hj.2.1;omega)]
  exact hf j a (h.ne j hnm)
 ·rw[obj_put,if_neg (by have:=hj.2.1;omega)]
 ·refine Classical.byContradiction fun hh=> ?_
  have hlt:j<y.next:=Stk.lt h.sw hj2
  exact hd j hh hlt (h.ne j hj2)
 ·obtain⟨a,b,c⟩:=h.xs x hx
  refine⟨?_,b,c⟩
  rw[obj_put,if_neg (by have:=hj.2.2;omega),←a]
  show(y'.get x.1).map _=(y.get x.1).map _
  rw[hs _ c]
theorem PM.popW (h:PM B p g mi w T n i dw dp y) {l:List Nat} {d':DV} (h1:Stk p.Y y d' l) (hd: ∀j,¬zdS d' j→ ¬zdS dw j):PM B p g mi w {T with way:=l} n i d' dp (y.put p.j10 (.rows false 1 [[d']])):=h.put 7 rfl rfl h1 h.sp fun j hj=>h.ne j (hd j hj)
theorem PM.popP (h:PM B p g mi w T n i dw dp y) {l:List Nat} {d':DV} (h1:Stk p.Y y d' l) (hd: ∀j,¬zdS d' j→ ¬zdS dp j):PM B p g mi w {T with op:=l} n i dw d' (y.put p.j11 (.rows false 1 [[d']])):=h.put 8 rfl rfl h.sw h1 fun j hj=>Classical.byContradiction fun hh=>hd j hh (h.ne j hj)
theorem PM.setEx (h:PM B p g mi w T n i dw dp y) {j:Nat} (o:MO) {ex:List (Nat×MO)} (hj:p.j16<j∧j<p.Y) (he: ∀x∈ex,x=(j,o)∨x.1≠j∧x∈p.ex):PM B {p with ex:=ex} g mi w T n i dw dp (y.put j o):=by
 have h0:=h.ok.h
 have hL:=PJ.L_lt (g:=g) (mi:=mi) (w:=w) (T:=T) (n:=n) (i:=i) (dw:=dw) (dp:=dp) h.ok
 refine⟨⟨h0⟩,SM_put h.sm (by omega),by have:=h.nx;simp;omega,fun k x hx=> ?_,h.sw.keep (by simp) fun i a b _=> ?_,h.sp.keep (by simp) fun i a b _=> ?_,h.ne,fun x hx=> ?_⟩
 ·rw[obj_put,if_neg (by have:=(hL x (List.mem_of_getElem? hx)).2.2;omega)]
  exact h.hold k x hx
 ·rw[obj_put,if_neg (by omega)]
 ·rw[obj_put,if_neg (by omega)]
 ·rcases he x hx with rfl| ⟨h1,h2⟩
  ·exact⟨by simp,hj⟩
  ·obtain⟨a,b,c⟩:=h.xs x h2
   exact⟨by rw[obj_put,if_neg h1];exact a,b,c⟩
end
end Go.Ideal.S
namespace Go.Ideal.S
open Go Go.Ideal Q Classical
attribute [local simp] decide_eq_true decide_eq_false z9
attribute [local simp] c_a f_a r_a_1 r_a_2 r_a_3 r_a_4 r_a_5 r_a_6 r_a_7 r_a_8 r_a_9 zhQ zhP zj6 zj5 zj4 zj3 zj2 zj1 zj0 zjZ zjY zjX zjW zjV zjU zjT zjS zjR zjQ zjP zjO zjN zjM zjL zjK zjJ zhO zhN zhM zhL zjI zjH zjG zjF zjE zjD zjC zjB zjA zjz zjy zjx zjw zjv zju zjt zjs zjr zjq zjp zjo zjn zjm zjl zjk zjj zji zjh zhK zhJ zhI zhH zjg zjf zje zjd zhG zhF zhE zhD zjc
variable {M:VM} {k kp:DV→VM→Prop} {n0:Nat}
def edOf (g:Gr) (mi:Nat) (w:Int) (i:Nat):Option (Nat×Nat):=match g.es[i]? with
 |some e=>if e.a≠w∧mi.testBit e.t.toNat=true then some (e.f.toNat,e.t.toNat) else none
 |none=>none
theorem edOf_at {g:Gr} {mi:Nat} {w:Int} {i:Nat} (hi:i<g.es.length):edOf g mi w i=if g.es[i].a≠w∧mi.testBit g.es[i].t.toNat=true then some (g.es[i].f.toNat,g.es[i].t.toNat) else none:=by
 unfold edOf
 rw[List.getElem?_eq_getElem hi]
def S0 (p:PJ):DS:=[(bits 3,.ptr p.j3 0 0),(bits 4,.ptr p.j4 0 0),(bits 5,.ptr p.j5 0 0),(bits 8,.ptr p.j8 0 0),(bits 9,.ptr p.j9 0 0),(bits 10,.ptr p.j10 0 0),(bits 11,.ptr p.j11 0 0),(bits 12,.ptr p.j12 0 0),(bits 13,.ptr p.j13 0 0),(bits 14,.ptr p.j14 0 0),(bits 15,.ptr p.j15 0 0),(bits 16,.ptr p.j16 0 0)]
abbrev LS:List (List Bool):=[bits 3,bits 4,bits 5,bits 8,bits 9,bits 10,bits 11,bits 12,bits 13,bits 14,bits 15,bits 16]
theorem inner_ok {B:VM} {p:PJ} {g:Gr} (hg:zde g) {mi:Nat} (hmi:mi<2^64) {w:Int} (hN:g.st=p.N) {T0:TS} {n:Nat} {i:Int} {dw dp:DV} {y0:VM} {l:List Nat} {K:KD} (h0:PM B p g mi w T0 n i dw dp y0) (hI0:Inv g.es.length (edOf g mi w) T0) (hw:T0.way=l++[n]) (hn:n<p.N)
 (brk: ∀T y s,PM B p g mi w T n i dw dp y→Inv g.es.length (edOf g mi w) T→T.way=T0.way→T.met=T0.met→T.op=T0.op∧T.many=T0.many∧T.m=T0.m→T.nx n=g.es.length→s=S0 p++[(bits 68,.bool false)]→K.ext 4 s y)
 (ent: ∀T y s (t:Nat),PM B p g mi w T t i dw dp y→Inv g.es.length (edOf g mi w) T→T.way=T0.way→T.met=T0.met→T.op=T0.op∧T.many=T0.many∧T.m=T0.m→T.met t=0→EdAt g.es.length (edOf g mi w) (T.nx n) n t→t<p.N→z6 LS s=S0 p→K.ext 1 s y):zcn F n0 LS zfR K (S0 p) y0:=by
 refine .while (σ:=TS×VM) zfR.eq_1 (fun _=>[]) (fun x=>x.2) (fun x=>PM B p g mi w x.1 n i dw dp x.2∧Inv g.es.length (edOf g mi w) x.1∧x.1.way=T0.way∧x.1.met=T0.met∧x.1.op=T0.op∧x.1.many=T0.many∧x.1.m=T0.m) (fun x=>g.es.length - x.1.nx n) (T0,y0) (by simp[S0]) rfl ⟨h0,hI0,rfl,rfl,rfl,rfl,rfl⟩ (fun x hP again=> ?_)
 obtain⟨T,y⟩:=x
 obtain⟨h,hI,e1,e2,e3⟩:=hP
 replace h:PM B p g mi w T n i dw dp y:=h
 replace hI:Inv g.es.length (edOf g mi w) T:=hI
 replace e1:T.way=T0.way:=e1
 replace e2:T.met=T0.met:=e2
 replace e3:T.op=T0.op∧T.many=T0.many∧T.m=T0.m:=e3
 have o3:=h.hold 0 _ rfl
 have o4:=h.hold 1 _ rfl
 have o5:=h.hold 2 _ rfl
 have oo:=h.hold 3 _ rfl
 have o8:=h.hold 4 _ rfl
 have ot:=h.hold 5 _ rfl
 have o9:=h.hold 6 _ rfl
 have on:=h.hold 9 _ rfl
 have o12:=h.hold 10 _ rfl
 have o15:=h.hold 13 _ rfl
 have hh:=h.ok.h
 have hnx:=h.nx
 have hnE:=hI.nxE n
 have g5:=hg.el
 have r1:=R1_at (f:=fun v=>(T.nx v:Int)) hn
 have fin: ∀{T2:TS} {y2:VM},PM B p g mi w T2 n i dw dp y2→Inv g.es.length (edOf g mi w) T2→T2.way=T.way→T2.met=T.met→T2.op=T.op∧T2.many=T.many∧T2.m=T.m→T2.nx n=T.nx n+1→T.nx n<g.es.length→zcn F n0 LS zfR K (S0 p) y2:=fun a b c d d2 e f=>by
  have:=again (_,_) (by show g.es.length - _<g.es.length - T.nx n;rw[e];omega) ⟨a,b,c.trans e1,d.trans e2,d2.1.trans e3.1,d2.2.1.trans e3.2.1,d2.2.2.trans e3.2.2⟩
  simp[S0] at this
  exact this
 clear again
 by_cases hq:T.nx n<g.es.length
 ·have he:=hg.ok _ (List.getElem_mem hq)
  obtain⟨t,ht⟩:=Int.eq_ofNat_of_zero_le he.t0
  obtain⟨f,hf⟩:=Int.eq_ofNat_of_zero_le he.f0
  have htN:t<p.N:=by have:=he.t1;omega
  have ht64:t<64:=by have:=hg.s2;omega
  have hed:=edOf_at (g:=g) (mi:=mi) (w:=w) hq
  rw[hf,ht,Int.toNat_natCast,Int.toNat_natCast] at hed
  have m2:=R2_at (f:=fun v=>(T.met v:Int)) (g:=fun v=>(T.low v:Int)) htN
  have m3:=R2_at (f:=fun v=>(T.met v:Int)) (g:=fun v=>(T.low v:Int)) hn
  have rc:=R1_at (f:=T.cmp) htN
  by_cases c1:f=n
  ·subst c1
   by_cases c2:g.es[T.nx f].a=w
   ·rw[if_neg (fun hc=>hc.1 c2)] at hed
    have hP:=(h.box (.rows false 3 [[I 0,I 0,I 0]]) (.rows false 3 [[I f,I w,I g.es[T.nx f].t]])).setNx f
    have hI2:=hI.next (x:=T.low f) (e1.trans hw) hq (.inl ⟨rfl,fun t hc=>by rw[hed] at hc;cases hc⟩)
    rw[TS.next,zgX] at hI2
    repeat' (first| (simp(disch:=((try simp only[new_next,put_next,del_next]);omega)) [S0,o3,o5,o12,o15,on,r1,hn,hq,zbl,hf,c2];first|done| ((first|simp only[zj,zh,zi,zf,zg,zb]|simp only[ze,zc]|rw[za]);split)|skip)| ((first|simp only[zj,zh,zi,zf,zg,zb]|simp only[ze,zc]|rw[za]);split))
    exact fin hP hI2 rfl rfl ⟨rfl,rfl,rfl⟩ (zco _ _ _) hq
   ·cases c3:mi.testBit t with
    |false=>
     rw[if_neg (fun hc=>by rw[c3] at hc;cases hc.2)] at hed
     have hP:=(h.box (.rows false 3 [[I 0,I 0,I 0]]) (.rows false 3 [[I f,I g.es[T.nx f].a,I t]])).setNx f
     have hI2:=hI.next (x:=T.low f) (e1.trans hw) hq (.inl ⟨rfl,fun t hc=>by rw[hed] at hc;cases hc⟩)
     rw[TS.next,zgX] at hI2
     repeat' (first| (simp(disch:=((try simp only[new_next,put_next,del_next]);omega)) [S0,o3,o5,o4,o12,o15,on,r1,hn,hq,zbl,hf,ht,c2];first|done| ((first|simp only[zj,zh,zi,zf,zg,zb]|simp only[ze,zc]|rw[za]);split)|skip)| ((first|simp only[zj,zh,zi,zf,zg,zb]|simp only[ze,zc]|rw[za]);split))
     refine has_ok mi t hmi ht64 ?_
     repeat' (first| (simp(disch:=((try simp only[new_next,put_next,del_next]);omega)) [o3,o5,o4,o12,o15,on,r1,hn,hq,zbl,hf,ht,c2,c3];first|done| ((first|simp only[zj,zh,zi,zf,zg,zb]|simp only[ze,zc]|rw[za]);split)|skip)| ((first|simp only[zj,zh,zi,zf,zg,zb]|simp only[ze,zc]|rw[za]);split))
     exact fin hP hI2 rfl rfl ⟨rfl,rfl,rfl⟩ (zco _ _ _) hq
    |true=>
     rw[if_pos ⟨c2,c3⟩] at hed
     have hb:=h.box (.rows false 3 [[I 0,I 0,I 0]]) (.rows false 3 [[I f,I g.es[T.nx f].a,I t]])
     repeat' (first| (simp(disch:=((try simp only[new_next,put_next,del_next]);omega)) [S0,o3,o5,o4,o12,o15,on,r1,hn,hq,zbl,hf,ht,c2];first|done| ((first|simp only[zj,zh,zi,zf,zg,zb]|simp only[ze,zc]|rw[za]);split)|skip)| ((first|simp only[zj,zh,zi,zf,zg,zb]|simp only[ze,zc]|rw[za]);split))
     refine has_ok mi t hmi ht64 ?_
     by_cases c4:T.met t=0
     ·have hP:=hb.setN t
      have c4':(T.met t:Int)=0:=by omega
      repeat' (first| (simp(disch:=((try simp only[new_next,put_next,del_next]);omega)) [o3,o5,o4,o12,o15,on,r1,hn,hq,zbl,hf,ht,c2,c3,o9,ot,m2,c4',htN];first|done| ((first|simp only[zj,zh,zi,zf,zg,zb]|simp only[ze,zc]|rw[za]);split)|skip)| ((first|simp only[zj,zh,zi,zf,zg,zb]|simp only[ze,zc]|rw[za]);split))
      exact ent T _ _ t hP hI e1 e2 e3 c4 ⟨hq,hed⟩ htN (by simp[S0])
     ·have c4': ¬(T.met t:Int)=0:=by omega
      by_cases c5:T.cmp t<0
      ·have ct:T.cmp t= -1:=Classical.byContradiction fun hc=>by have:=(hI.cv t hc).2.1;omega
       have hto:=(hI.opi t).2 ⟨c4,ct⟩
       have hI2:=hI.next (x:=min (T.low f) (T.low t)) (e1.trans hw) hq (.inr ⟨t,hed,hto,rfl⟩)
       have hP:=(hb.setLow f (min (T.low f) (T.low t))).setNx f
       repeat' (first| (simp(disch:=((try simp only[new_next,put_next,del_next]);omega)) [o3,o5,o4,o12,o15,on,r1,hn,hq,zbl,hf,ht,c2,c3,o9,ot,m2,c4',htN,o8,oo,rc,c5,m3];first|done| ((first|simp only[zj,zh,zi,zf,zg,zb]|simp only[ze,zc]|rw[za]);split)|skip)| ((first|simp only[zj,zh,zi,zf,zg,zb]|simp only[ze,zc]|rw[za]);split))
       have hmin:(if T.low t<T.low f then(T.low t:Int) else(T.low f:Int))=((min (T.low f) (T.low t):Nat):Int):=by split<;>omega
       rw[hmin]
       exact fin hP hI2 rfl rfl ⟨rfl,rfl,rfl⟩ (zco _ _ _) hq
      ·have hI2:=hI.next (x:=T.low f) (e1.trans hw) hq (.inl ⟨rfl,fun t' hc=>by
        rw[hed] at hc;cases hc
        exact⟨c4,fun ho=>c5 (by rw[((hI.opi t).1 ho).2];omega)⟩⟩)
       rw[TS.next,zgX] at hI2
       have hP:=hb.setNx f
       repeat' (first| (simp(disch:=((try simp only[new_next,put_next,del_next]);omega)) [o3,o5,o4,o12,o15,on,r1,hn,hq,zbl,hf,ht,c2,c3,o9,ot,m2,c4',htN,o8,oo,rc,c5];first|done| ((first|simp only[zj,zh,zi,zf,zg,zb]|simp only[ze,zc]|rw[za]);split)|skip)| ((first|simp only[zj,zh,zi,zf,zg,zb]|simp only[ze,zc]|rw[za]);split))
       exact fin hP hI2 rfl rfl ⟨rfl,rfl,rfl⟩ (zco _ _ _) hq
  ·have c1': ¬(f:Int)=n:=by omega
   have hP:=(h.box (.rows false 3 [[I 0,I 0,I 0]]) (.rows false 3 [[I f,I g.es[T.nx n].a,I g.es[T.nx n].t]])).setNx n
   have hI2:=hI.next (x:=T.low n) (e1.trans hw) hq (.inl ⟨rfl,fun t' hc=>by
    rw[hed] at hc
    split at hc
    ·cases hc;exact absurd rfl c1
    ·cases hc⟩)
   rw[TS.next,zgX] at hI2
   repeat' (first| (simp(disch:=((try simp only[new_next,put_next,del_next]);omega)) [S0,o3,o12,o15,on,r1,hn,hq,zbl,hf,c1'];first|done| ((first|simp only[zj,zh,zi,zf,zg,zb]|simp only[ze,zc]|rw[za]);split)|skip)| ((first|simp only[zj,zh,zi,zf,zg,zb]|simp only[ze,zc]|rw[za]);split))
   exact fin hP hI2 rfl rfl ⟨rfl,rfl,rfl⟩ (zco _ _ _) hq
 ·repeat' (first| (simp(disch:=((try simp only[new_next,put_next,del_next]);omega)) [S0,o3,o12,o15,on,r1,hn,hq];first|done| ((first|simp only[zj,zh,zi,zf,zg,zb]|simp only[ze,zc]|rw[za]);split)|skip)| ((first|simp only[zj,zh,zi,zf,zg,zb]|simp only[ze,zc]|rw[za]);split))
  exact brk T y _ h hI e1 e2 e3 (by omega) (by simp[S0])
end Go.Ideal.S
namespace Go.Ideal.S
open Go Go.Ideal Q Classical
attribute [local simp] decide_eq_true decide_eq_false z9
attribute [local simp] c_a f_a r_a_1 r_a_2 r_a_3 r_a_4 r_a_5 r_a_6 r_a_7 r_a_8 r_a_9 zhQ zhP zj6 zj5 zj4 zj3 zj2 zj1 zj0 zjZ zjY zjX zjW zjV zjU zjT zjS zjR zjQ zjP zjO zjN zjM zjL zjK zjJ zhO zhN zhM zhL zjI zjH zjG zjF zjE zjD zjC zjB zjA zjz zjy zjx zjw zjv zju zjt zjs zjr zjq zjp zjo zjn zjm zjl zjk zjj zji zjh zhK zhJ zhI zhH zjg zjf zje zjd zhG zhF zhE zhD zjc c_c f_c r_c_1 r_c_2 r_c_3 r_c_4 r_c_5 r_c_6 r_c_7 r_c_9
variable {M:VM} {k kp:DV→VM→Prop} {n0:Nat}
theorem indexMs_ok (l:List Nat) {j:Nat} {rs:List (List DV)} (ho:M.obj j=some (.rows true 1 rs)) (hr:rs.take l.length=l.map fun v=>[I (v:Nat)]) (x:Nat) (hl:l.length≤1000000) (hk:k (I (idxI x (l.map fun v:Nat=>(v:Int)) 0)) M):zt F (.fn n_c [] []) [.ms j 0 l.length zm,I x] M k kp:=by
 apply zt.back
 refine .fn zdV rfl (by simp[f_c]) ?_
 repeat' (first| (simp(disch:=((try simp only[new_next,put_next,del_next]);omega));first|done| ((first|simp only[zj,zh,zi,zf,zg,zb]|simp only[ze,zc]|rw[za]);split)|skip)| ((first|simp only[zj,zh,zi,zf,zg,zb]|simp only[ze,zc]|rw[za]);split))
 have hat: ∀i (hi:i<l.length),rs[i]? =some [I (l[i]:Nat)]:=fun i hi=>by
  have:=congrArg (fun r=>r[i]?) hr
  simp only[List.getElem?_take,hi,if_true,List.getElem?_map,List.getElem?_eq_getElem hi,Option.map_some] at this
  exact this
 refine .for (σ:=Unit) c_c_8.eq_1 (fun i _=>[(8,I i)]) (fun _=>M) (fun i _=>idxI x (l.map fun v:Nat=>(v:Int)) 0=idxI x ((l.drop i).map fun v:Nat=>(v:Int)) i) l.length () (by simp) rfl (by simp) (fun i y hi hP again=> ?_) (fun y hP=> ?_)
 ·rw[List.drop_eq_getElem_cons hi,List.map_cons,idxI] at hP
  have ha:=hat i hi
  by_cases hq:x=l[i]
  ·have hq':(x:Int)=(l[i]:Nat):=by rw[hq]
   rw[if_pos hq'] at hP
   rw[hP] at hk
   repeat' (first| (simp(disch:=((try simp only[new_next,put_next,del_next]);omega)) [hi,ho,ha,hq'];first|done| ((first|simp only[zj,zh,zi,zf,zg,zb]|simp only[ze,zc]|rw[za]);split)|skip)| ((first|simp only[zj,zh,zi,zf,zg,zb]|simp only[ze,zc]|rw[za]);split))
   exact Back.plain (by simp) (by repeat' (first|assumption|exact SM_refl _ _|apply SM_put|apply SM_new|apply SM_del| ((try simp only[new_next,put_next,del_next]);omega))) hk
  ·have hq': ¬(x:Int)=(l[i]:Nat):=by omega
   rw[if_neg hq'] at hP
   have again:=again () hP
   simp at again
   repeat' (first| (simp(disch:=((try simp only[new_next,put_next,del_next]);omega)) [hi,ho,ha,hq'];first|done| ((first|simp only[zj,zh,zi,zf,zg,zb]|simp only[ze,zc]|rw[za]);split)|skip)| ((first|simp only[zj,zh,zi,zf,zg,zb]|simp only[ze,zc]|rw[za]);split))
   exact again
 ·rw[List.drop_of_length_le (Nat.le_refl _),List.map_nil,idxI] at hP
  rw[hP] at hk
  repeat' (first| (simp(disch:=((try simp only[new_next,put_next,del_next]);omega));first|done| ((first|simp only[zj,zh,zi,zf,zg,zb]|simp only[ze,zc]|rw[za]);split)|skip)| ((first|simp only[zj,zh,zi,zf,zg,zb]|simp only[ze,zc]|rw[za]);split))
  exact Back.plain (by simp) (by repeat' (first|assumption|exact SM_refl _ _|apply SM_put|apply SM_new|apply SM_del| ((try simp only[new_next,put_next,del_next]);omega))) hk
def unv (N:Nat) (T:TS):Nat:=(List.range N).countP fun v=>decide (T.met v=0)
structure GI (g:Gr) (mi:Nat) (w:Int) (N:Nat) (T:TS):Prop where
 inv:Inv g.es.length (edOf g mi w) T
 bit: ∀v,T.met v≠0→v<N∧mi.testBit v=true
 len:unv N T+T.op.length+T.many≤N
 wlen:unv N T+T.way.length≤N
 mlen:unv N T+T.m≤N
theorem cnt_lt {l:List Nat} {p q:Nat→Bool} (h: ∀x,q x=true→p x=true) {t:Nat} (ht:t∈l) (hp:p t=true) (hq:q t=false):l.countP q<l.countP p:=by
 induction l with
 |nil=>cases ht
 |cons a l ih=>
  have hle:l.countP q≤l.countP p:=List.countP_mono_left fun x _=>h x
  rw[List.countP_cons,List.countP_cons]
  rcases List.mem_cons.1 ht with rfl|ht
  ·rw[hp,hq];simp;omega
  ·have:=ih ht
   have h2:=h a
   cases e:q a with
   |true=>rw[h2 e];simp;omega
   |false=>simp;omega
theorem GI.enter {g:Gr} {mi:Nat} {w:Int} {N:Nat} {T:TS} (h:GI g mi w N T) {t:Nat} (h0:T.met t=0) (ht:t<N) (hb:mi.testBit t=true) (hp:T.way=[]∨ ∃l p,T.way=l++[p]∧EdAt g.es.length (edOf g mi w) (T.nx p) p t):GI g mi w N (T.enter t)∧unv N (T.enter t)<unv N T:=by
 have hu:unv N (T.enter t)<unv N T:=by
  refine cnt_lt (t:=t) (fun x hx=> ?_) (List.mem_range.2 ht) (by simp[h0]) (by simp[TS.enter,up1])
  have hx':up1 T.met t (T.m+1) x=0:=of_decide_eq_true hx
  by_cases e:x=t
  ·subst e;rw[zco] at hx';omega
  ·rw[zeb _ _ e] at hx';exact decide_eq_true hx'
 refine⟨⟨h.inv.enter h0 hp,fun v hv=> ?_,?_,?_,?_⟩,hu⟩
 ·simp only[TS.enter,up1] at hv
  split at hv
  ·subst v;exact⟨ht,hb⟩
  ·exact h.bit v hv
 ·have:=h.len;simp only[TS.enter,List.length_append,List.length_singleton];simp only[TS.enter] at hu;omega
 ·have:=h.wlen;simp only[TS.enter,List.length_append,List.length_singleton];simp only[TS.enter] at hu;omega
 ·have:=h.mlen;show unv N (T.enter t)+(T.m+1)≤N;omega
theorem GI.opN {g:Gr} {mi:Nat} {w:Int} {N:Nat} {T:TS} (h:GI g mi w N T) {v:Nat} (hv:v∈T.op):v<N:=(h.bit v ((h.inv.opi v).1 hv).1).1
theorem GI.same {g:Gr} {mi:Nat} {w:Int} {N:Nat} {T T1:TS} (h:GI g mi w N T) (hI:Inv g.es.length (edOf g mi w) T1) (e1:T1.way=T.way) (e2:T1.met=T.met) (e3:T1.op=T.op∧T1.many=T.many∧T1.m=T.m):GI g mi w N T1:=by
 have hu:unv N T1=unv N T:=by unfold unv;rw[e2]
 exact⟨hI,by rw[e2];exact h.bit,by rw[hu,e3.1,e3.2.1];exact h.len,by rw[hu,e1];exact h.wlen,by rw[hu,e3.2.2];exact h.mlen⟩
def muE (N:Nat) (T:TS):Nat:=2*(2*unv N T+T.way.length)
theorem muE_same {N:Nat} {T T1:TS} (e1:T1.way=T.way) (e2:T1.met=T.met):muE N T1=muE N T:=by unfold muE unv;rw[e1,e2]
abbrev LX:List (List Bool):=bs [3,4,5,8,9,10,11,12,13,14,15,16,153,154,155]
def pcE:CC:=.seq (.ops zhI) LS (.seq (.seq (.ops zhH) LX (.block 8 (.loop LX c_a_81))) LS (.seq (.ops zhG) LS (.ops zhF)))
def tlE:CC:=.seq (.ops zhE) (bs [3,4,5,8,9,10,11,12,13,14,15,16,171]) (.cond (t 171) (.seq (.ops zhD) LS (.exit 3)) .skip)
theorem Stk.ms {Y:Nat} {y:VM} {d:DV} {l:List Nat} (h:Stk Y y d l) (hl:l≠[]): ∃j rs,d=.ms j 0 l.length zm∧Y≤j∧j<y.next∧y.obj j=some (.rows true 1 rs)∧l.length≤rs.length∧rs.take l.length=(l.map fun v=>[I (v:Nat)])∧ ∀i (hi:i<l.length),rs[i]? =some [I (l[i]:Nat)]:=by
 rcases h with⟨_,h⟩| ⟨j,rs,h1,h2,h3,h4,h5⟩
 ·exact absurd h hl
 ·refine⟨j,rs,h1,h2,h3,h4,?_,h5,fun i hi=> ?_⟩
  ·have:=congrArg List.length h5
   rw[List.length_take,List.length_map] at this;omega
  ·have:=congrArg (fun r=>r[i]?) h5
   simp only[List.getElem?_take,hi,if_true,List.getElem?_map,List.getElem?_eq_getElem hi,Option.map_some] at this
   exact this
def cmpI (T:TS) (l:List Nat) (i:Nat):Nat→Int:=fun v=>if v∈l.take i then(T.many:Int) else T.cmp v
theorem cmpI_succ {T:TS} {l:List Nat} {i:Nat} (hi:i<l.length):cmpI T l (i+1)=up1 (cmpI T l i) l[i] T.many:=by
 funext v
 unfold cmpI up1
 rw[List.take_succ_eq_append_getElem hi]
 by_cases h1:v=l[i]
 ·rw[if_pos h1,if_pos (by rw[h1];exact List.mem_append_right _ (by simp))]
 ·have:v∈l.take i++[l[i]]↔v∈l.take i:=by simp only[List.mem_append,List.mem_singleton,h1,or_false]
  simp only[this,h1,if_false]
theorem pc_ok {B:VM} {p:PJ} {g:Gr} {mi:Nat} {w:Int} {T:TS} {n:Nat} {i:Int} {dw dp:DV} {y:VM} {fr:FrC} {a b:List Nat} (h:PM B p g mi w T n i dw dp y) (hop:T.op=a++n::b) (hna:n∉a) (hlt: ∀v∈T.op,v<p.N) (hlen:T.op.length≤60) (hmany:T.many<1000000)
 (hk: ∀y' i' dp' s',PM B p g mi w {T with op:=a,cmp:=cmpI T (n::b) (n::b).length,many:=T.many+1} n i' dw dp' y'→z6 LS s'=S0 p→ @Nx (rD F n0) fr s' y'): @Cd (rD F n0) fr pcE (S0 p++[(bits 147,.bool true)]) y:=by
 have o11:=h.hold 8 _ rfl
 have o15:=h.hold 13 _ rfl
 have o16:=h.hold 14 _ rfl
 have hh:=h.ok.h
 have hnx:=h.nx
 obtain⟨jp,rs,e1,e2,e3,e4,e5,e6,e7⟩:=Stk.ms h.sp (by rw[hop];simp)
 subst e1
 have hix:idxI n (T.op.map fun v:Nat=>(v:Int)) 0=a.length:=by
  refine idxI_at (p:=a.length) (by rw[hop];simp) (by simp[hop]) fun q hq hh=>hna ?_
  simp only[hop,List.getElem_map] at hh
  rw[List.getElem_append_left hq] at hh
  have:a[q]=n:=by omega
  rw[←this];exact List.getElem_mem hq
 have hol:T.op.length=a.length+(b.length+1):=by rw[hop];simp
 repeat' (first| (simp(disch:=((try simp only[new_next,put_next,del_next]);omega)) [pcE,S0,o11,o15];first|done| ((first|simp only[zj,zh,zi,zf,zg,zb]|simp only[ze,zc]|rw[za]);split)|skip)| ((first|simp only[zj,zh,zi,zf,zg,zb]|simp only[ze,zc]|rw[za]);split))
 refine indexMs_ok T.op e4 e6 n (by omega) ?_
 rw[hix]
 have f1:a.length≤T.op.length:=by omega
 have f2:T.op.length - a.length=b.length+1:=by omega
 have f3:(a.length:Int)≤T.op.length:=by omega
 repeat' (first| (simp(disch:=((try simp only[new_next,put_next,del_next]);omega)) [o11,o16,e4,e5,f1,f2,f3];first|done| ((first|simp only[zj,zh,zi,zf,zg,zb]|simp only[ze,zc]|rw[za]);split)|skip)| ((first|simp only[zj,zh,zi,zf,zg,zb]|simp only[ze,zc]|rw[za]);split))
 have hnl:(n::b).length=b.length+1:=by simp
 have hc0:cmpI T (n::b) 0=T.cmp:=by funext v;simp[cmpI]
 refine .for (σ:=VM) c_a_81.eq_1 (fun i _=>[(155,I i)]) (fun y=>y) (fun i y=>PM B p g mi w {T with cmp:=cmpI T (n::b) i} n a.length dw (.ms jp 0 T.op.length zm) y) (b.length+1) _ (by simp) rfl (by rw[hc0];exact h.setI a.length) (fun i y hi hP again=> ?_) (fun y hP=> ?_)
 ·have o8:=hP.hold 4 _ rfl
  have oo:=hP.hold 3 _ rfl
  have o14:=hP.hold 12 _ rfl
  have hnx:=hP.nx
  obtain⟨jp',rs',q1,q2,q3,q4,q5,q6,q7⟩:=Stk.ms hP.sp (by show T.op≠[];rw[hop];simp)
  cases q1
  have hi':i<(n::b).length:=by rw[hnl];exact hi
  have hx:T.op[a.length+i]'(by omega)=(n::b)[i]:=by
   simp only[hop]
   rw[List.getElem_append_right (by omega)]
   congr 1;omega
  have q8:=q7 (a.length+i) (by show a.length+i<T.op.length;omega)
  have hxN:(n::b)[i]<p.N:=by rw[←hx];exact hlt _ (List.getElem_mem _)
  have hP2:=hP.setCmp (n::b)[i] T.many
  rw[show T.op[a.length+i]'(by omega)=(n::b)[i] from hx] at q8
  generalize hxx:(n::b)[i]=x at*
  have again:=again (y.put p.jo (.rows false 1 ((R1 (cmpI T (n::b) i) p.N).set x [I T.many]))) (by rw[cmpI_succ hi',hxx];exact hP2)
  simp at again
  have rcx:=R1_at (f:=cmpI T (n::b) i) hxN
  repeat' (first| (simp(disch:=((try simp only[new_next,put_next,del_next]);omega)) [hi,q4,q5,q8,o8,oo,o14,hxN,rcx];first|done| ((first|simp only[zj,zh,zi,zf,zg,zb]|simp only[ze,zc]|rw[za]);split)|skip)| ((first|simp only[zj,zh,zi,zf,zg,zb]|simp only[ze,zc]|rw[za]);split))
  exact again
 ·have hP1:=hP.popP (l:=a) (d':=.ms jp 0 a.length zm) (Stk.cut (n:=T.op.length) (l2:=n::b) (by rw[←hop];exact hP.sp)) (fun j hj hh=>hj fun a b c e=>by cases e;exact hh _ _ _ rfl)
  have hP2:=hP1.setMany
  have o11:=hP.hold 8 _ rfl
  have o16:=hP.hold 14 _ rfl
  have o14:=hP.hold 12 _ rfl
  have hnx:=hP.nx
  obtain⟨jp',rs',q1,q2,q3,q4,q5,q6,q7⟩:=Stk.ms hP.sp (by show T.op≠[];rw[hop];simp)
  cases q1
  have f4:a.length≤rs'.length:=by have:T.op.length≤rs'.length:=q5;omega
  repeat' (first| (simp(disch:=((try simp only[new_next,put_next,del_next]);omega)) [o11,o16,o14,q4,f4];first|done| ((first|simp only[zj,zh,zi,zf,zg,zb]|simp only[ze,zc]|rw[za]);split)|skip)| ((first|simp only[zj,zh,zi,zf,zg,zb]|simp only[ze,zc]|rw[za]);split))
  exact hk _ _ _ _ hP2 (by simp[S0])
end Go.Ideal.S
set_option maxHeartbeats 1000000
namespace Go.Ideal.S
open Go Go.Ideal Q Classical
attribute [local simp] decide_eq_true decide_eq_false z9
attribute [local simp] c_a f_a r_a_1 r_a_2 r_a_3 r_a_4 r_a_5 r_a_6 r_a_7 r_a_8 r_a_9 zhQ zhP zj6 zj5 zj4 zj3 zj2 zj1 zj0 zjZ zjY zjX zjW zjV zjU zjT zjS zjR zjQ zjP zjO zjN zjM zjL zjK zjJ zhO zhN zhM zhL zjI zjH zjG zjF zjE zjD zjC zjB zjA zjz zjy zjx zjw zjv zju zjt zjs zjr zjq zjp zjo zjn zjm zjl zjk zjj zji zjh zhK zhJ zhI zhH zjg zjf zje zjd zhG zhF zhE zhD zjc
variable {M:VM} {k kp:DV→VM→Prop} {n0:Nat}
theorem tl_ok {B:VM} {p:PJ} {g:Gr} {mi:Nat} {w:Int} {T:TS} {n:Int} {i:Int} {dw dp:DV} {y:VM} {K:KD} (h:PM B p g mi w T n i dw dp y) (hlen:T.way.length≤60)
 (h0:T.way=[]→ ∀s,K.nrm s y) (h1: ∀l (q:Nat) s y',T.way=l++[q]→PM B p g mi w T q i dw dp y'→z6 LS s=S0 p→K.ext 3 s y'): @Cd (rD F n0) (.base K) tlE (S0 p) y:=by
 have o10:=h.hold 7 _ rfl
 have o15:=h.hold 13 _ rfl
 have hh:=h.ok.h
 have hnx:=h.nx
 rcases List.eq_nil_or_concat T.way with hw| ⟨l,q,hw⟩
 ·have hsw:=h.sw
  rw[hw] at hsw
  have hz:lenD y dw=some 0:=by
   rcases hsw with⟨rfl,_⟩| ⟨j,rs,rfl,_⟩<;>rfl
  repeat' (first| (simp(disch:=((try simp only[new_next,put_next,del_next]);omega)) [tlE,S0,o10,hz];first|done| ((first|simp only[zj,zh,zi,zf,zg,zb]|simp only[ze,zc]|rw[za]);split)|skip)| ((first|simp only[zj,zh,zi,zf,zg,zb]|simp only[ze,zc]|rw[za]);split))
  exact h0 hw _
 ·rw[List.concat_eq_append] at hw
  obtain⟨jw,rs,e1,e2,e3,e4,e5,e6,e7⟩:=Stk.ms h.sw (by rw[hw];simp)
  subst e1
  have hwl:T.way.length=l.length+1:=by rw[hw];simp
  have e8:=e7 l.length (by omega)
  have e9:T.way[l.length]'(by omega)=q:=by simp[hw]
  rw[e9] at e8
  have hl60:l.length<60:=by omega
  have hP:=h.setN q
  rw[hwl] at o10
  obtain⟨e10,e11⟩:=List.getElem?_eq_some_iff.1 e8
  repeat' (first| (simp(disch:=((try simp only[new_next,put_next,del_next]);omega)) [tlE,S0,o10,o15,e4,e8,hwl,e11];first|done| ((first|simp only[zj,zh,zi,zf,zg,zb]|simp only[ze,zc]|rw[za]);split)|skip)| ((first|simp only[zj,zh,zi,zf,zg,zb]|simp only[ze,zc]|rw[za]);split))
  refine h1 l q _ _ hw hP ?_
  simp[S0]
def restE:CC:=.seq (.ops zhK) LS (.seq (.seq (.draw zhJ) (bs [3,4,5,8,9,10,11,12,13,14,15,16,147]) (.cond (t 147) pcE .skip)) LS tlE)
theorem e_eq2:zc6=.seq .skip LS (.seq (.block 4 (.loop LS zfR)) LS restE):=rfl
theorem rest_ok {B:VM} {p:PJ} {g:Gr} (hg:zde g) {mi:Nat} {w:Int} (hN:g.st=p.N) {T1:TS} {n:Nat} {i:Int} {dw dp:DV} {y1:VM} {K:KD} {l:List Nat} (h1:PM B p g mi w T1 n i dw dp y1) (hG1:GI g mi w p.N T1) (hw1:T1.way=l++[n]) (hnN:n<p.N) (hE:T1.nx n=g.es.length)
 (h0: ∀T2 y s i dw dp,PM B p g mi w T2 n i dw dp y→GI g mi w p.N T2→T2.way=[]→T2.met=T1.met→K.nrm s y)
 (h2: ∀T2 l' (q:Nat) s y i dw dp,PM B p g mi w T2 q i dw dp y→GI g mi w p.N T2→T2.way=l'++[q]→T2.way=l→T2.met=T1.met→z6 LS s=S0 p→K.ext 3 s y): @Cd (rD F n0) (.base K) restE (S0 p) y1:=by
 have o9:=h1.hold 6 _ rfl
 have o10:=h1.hold 7 _ rfl
 have ot:=h1.hold 5 _ rfl
 have o15:=h1.hold 13 _ rfl
 have hh:=h1.ok.h
 have hnx:=h1.nx
 have h60:p.N≤60:=by have:=hg.s2;omega
 have m3:=R2_at (f:=fun v=>(T1.met v:Int)) (g:=fun v=>(T1.low v:Int)) hnN
 obtain⟨jw,rs,b1,b2,b3,b4,b5,b6,b7⟩:=Stk.ms h1.sw (by rw[hw1];simp)
 have hwl:T1.way.length=l.length+1:=by rw[hw1];simp
 rw[hwl] at b1 b5
 subst b1
 have hlen:l.length≤rs.length:=by omega
 have hl60:l.length<60:=by have:=hG1.wlen;omega
 have hpW:=h1.popW (l:=l) (d':=.ms jw 0 l.length zm) (Stk.pop (x:=n) (by rw[←hw1];exact h1.sw)) (fun j hj hh=>hj fun a b c e=>by cases e;exact hh _ _ _ rfl)
 have hno:=hG1.inv.way n (by rw[hw1];simp)
 by_cases hlow:T1.low n=T1.met n
 ·obtain⟨a,b,hop⟩:=List.append_of_mem hno
  have hso:=hG1.inv.opS
  rw[hop] at hso
  have hso2:=List.pairwise_append.1 hso
  have hna:n∉a:=fun hh=>by have:=hso2.2.2 n hh n (by simp);omega
  have hlow':(T1.low n:Int)=T1.met n:=by omega
  have hmem: ∀v,(v∈n::b↔v∈T1.op∧T1.met n≤T1.met v)∧(v∈a↔v∈T1.op∧T1.met v<T1.met n):=fun v=>by
   rw[hop]
   have q1:v∈a→T1.met v<T1.met n:=fun h=>hso2.2.2 v h n (by simp)
   have q2:v∈n::b→T1.met n≤T1.met v:=fun h=>by
    rcases List.mem_cons.1 h with rfl|h
    ·exact Nat.le_refl _
    ·exact Nat.le_of_lt ((List.pairwise_cons.1 hso2.2.1).1 v h)
   rw[List.mem_append]
   refine⟨⟨fun h=>⟨.inr h,q2 h⟩,fun h=>h.1.resolve_left fun h2=> ?_⟩,⟨fun h=>⟨.inl h,q1 h⟩,fun h=>h.1.resolve_right fun h2=> ?_⟩⟩
   ·have:=q1 h2;omega
   ·have:=q2 h2;omega
  have hol:T1.op.length=a.length+(b.length+1):=by rw[hop];simp
  have hI2:=hG1.inv.part (cmp:=cmpI (T1.pop l) (n::b) (n::b).length) (o2:=a) hw1 hE hlow (fun v=>(hmem v).2) (by rw[hop];exact List.sublist_append_left _ _) (fun v=>by
   unfold cmpI
   rw[List.take_length]
   have:=(hmem v).1
   by_cases hv:v∈n::b
   ·rw[if_pos hv,if_pos (this.1 hv)];rfl
   ·rw[if_neg hv,if_neg (fun h=>hv (this.2 h))];rfl)
  have hG2:GI g mi w p.N (T1.part l a (cmpI (T1.pop l) (n::b) (n::b).length)):=⟨hI2,hG1.bit,by have:=hG1.len;show unv p.N T1+a.length+(T1.many+1)≤p.N;omega,by have:=hG1.wlen;rw[hwl] at this;show unv p.N T1+l.length≤p.N;omega,hG1.mlen⟩
  repeat' (first| (simp(disch:=((try simp only[new_next,put_next,del_next]);omega)) [restE,S0,o10,b4,hlen,o9,o15,ot,m3,hnN,hlow'];first|done| ((first|simp only[zj,zh,zi,zf,zg,zb]|simp only[ze,zc]|rw[za]);split)|skip)| ((first|simp only[zj,zh,zi,zf,zg,zb]|simp only[ze,zc]|rw[za]);split))
  refine pc_ok (T:=T1.pop l) hpW hop hna (fun v hv=>hG1.opN hv) (by have:=hG1.len;show T1.op.length≤60;omega) (by have:=hG1.len;show T1.many<1000000;omega) (fun y' i' dp' s' hP' hs'=> ?_)
  rw[Nx_sq,hs']
  refine tl_ok (T:=T1.part l a (cmpI (T1.pop l) (n::b) (n::b).length)) hP' (by show l.length≤60;omega) (fun hl s=> ?_) (fun l' q s y' hl hP' hs'=> ?_)
  ·exact h0 _ _ _ _ _ _ hP' hG2 hl rfl
  ·exact h2 _ l' q _ _ _ _ _ hP' hG2 hl rfl rfl hs'
 ·have hlow': ¬(T1.low n:Int)=T1.met n:=by omega
  have hI2:=hG1.inv.pop hw1 hE hlow
  have hG2:GI g mi w p.N (T1.pop l):=⟨hI2,hG1.bit,hG1.len,by have:=hG1.wlen;rw[hwl] at this;show unv p.N T1+l.length≤p.N;omega,hG1.mlen⟩
  repeat' (first| (simp(disch:=((try simp only[new_next,put_next,del_next]);omega)) [restE,S0,o10,b4,hlen,o9,o15,ot,m3,hnN,hlow'];first|done| ((first|simp only[zj,zh,zi,zf,zg,zb]|simp only[ze,zc]|rw[za]);split)|skip)| ((first|simp only[zj,zh,zi,zf,zg,zb]|simp only[ze,zc]|rw[za]);split))
  refine tl_ok (T:=T1.pop l) hpW (by show l.length≤60;omega) (fun hl s=> ?_) (fun l' q s y' hl hP' hs'=> ?_)
  ·exact h0 _ _ _ _ _ _ hpW hG2 hl rfl
  ·exact h2 _ l' q _ _ _ _ _ hP' hG2 hl rfl rfl hs'
end Go.Ideal.S
namespace Go.Ideal.S
open Go Go.Ideal Q Classical
attribute [local simp] decide_eq_true decide_eq_false z9
attribute [local simp] c_a f_a r_a_1 r_a_2 r_a_3 r_a_4 r_a_5 r_a_6 r_a_7 r_a_8 r_a_9 zhQ zhP zj6 zj5 zj4 zj3 zj2 zj1 zj0 zjZ zjY zjX zjW zjV zjU zjT zjS zjR zjQ zjP zjO zjN zjM zjL zjK zjJ zhO zhN zhM zhL zjI zjH zjG zjF zjE zjD zjC zjB zjA zjz zjy zjx zjw zjv zju zjt zjs zjr zjq zjp zjo zjn zjm zjl zjk zjj zji zjh zhK zhJ zhI zhH zjg zjf zje zjd zhG zhF zhE zhD zjc
variable {M:VM} {k kp:DV→VM→Prop} {n0:Nat}
def enE (eW:CC):CC:=.seq (.ops zhO) LS (.seq (.ops zhN) LS (.seq (.ops zhM) LS (.seq (.ops zhL) LS eW)))
theorem d_eq:zq=.seq .skip LS (enE zc6):=rfl
theorem Stk.cell {Y:Nat} {y:VM} {d:DV} {l:List Nat} (h:Stk Y y d l):zJ d=[d]∧zN d=true:=by
 rcases h with⟨rfl,_⟩| ⟨j,rs,rfl,_⟩<;>exact⟨rfl,rfl⟩
theorem enter_ok {B:VM} {p:PJ} {g:Gr} {mi:Nat} {w:Int} {T:TS} {t:Nat} {i:Int} {dw dp:DV} {y:VM} {K:KD} {eW:CC} (h60:p.N≤60) (h:PM B p g mi w T t i dw dp y) (hG:GI g mi w p.N T) (ht:t<p.N)
 (hk: ∀y' dw' dp',PM B p g mi w (T.enter t) t i dw' dp' y'→ @Cd (rD F n0) (.base K) eW (S0 p) y'): @Cd (rD F n0) (.base K) (enE eW) (S0 p) y:=by
 have o9:=h.hold 6 _ rfl
 have o10:=h.hold 7 _ rfl
 have o11:=h.hold 8 _ rfl
 have ot:=h.hold 5 _ rfl
 have o13:=h.hold 11 _ rfl
 have o15:=h.hold 13 _ rfl
 have hh:=h.ok.h
 have hnx:=h.nx
 have hml:T.m<1000000:=by have:=hG.mlen;omega
 have hwl:T.way.length≤1000000:=by have:=hG.wlen;omega
 have hpl:T.op.length≤1000000:=by have:=hG.len;omega
 have m3:=R2_at (f:=fun v=>(T.met v:Int)) (g:=fun v=>(T.low v:Int)) ht
 have hP1:=h.setM.setMet t (T.m+1)
 have hc:((T.m+1:Nat):Int)=(T.m:Int)+1:=by simp
 rw[hc] at hP1
 repeat' (first| (simp(disch:=((try simp only[new_next,put_next,del_next]);omega)) [enE,S0,o13,o9,ot,o15,ht,m3,o10];first|done| ((first|simp only[zj,zh,zi,zf,zg,zb]|simp only[ze,zc]|rw[za]);split)|skip)| ((first|simp only[zj,zh,zi,zf,zg,zb]|simp only[ze,zc]|rw[za]);split))
 generalize hy2:(y.put p.j13 (intO ((T.m:Int)+1))).put p.jt (.rows false 2 ((R2 (fun v=>(T.met v:Int)) (fun v=>(T.low v:Int)) p.N).set t [I ((T.m:Int)+1),I ((T.m:Int)+1)]))=y2 at hP1⊢
 have hn2:y2.next=y.next+1+1:=by rw[←hy2];simp
 rw[←hn2]
 generalize hy3:y2.new (.rows false 1 [[I (t:Int)]])=y3 at*
 have hP3:=hP1.frame (y':=y3) (by rw[←hy3];exact SM_new (SM_refl _ _) (Nat.le_refl _)) (by rw[←hy3];simp)
 have hb3:y3.obj y2.next=some (.rows false 1 [[I (t:Int)]]):=by rw[←hy3];simp
 refine Rs_push hP3.sw hwl hP3.nx hb3 (fun d' y4 q1 q2 q3 q4 q5=> ?_)
 obtain⟨-,r2,r3⟩:=hP3.mid q2 q3
 have o10':=r3 7 _ rfl
 have o11':=r3 8 _ rfl
 have o15':=r3 13 _ rfl
 obtain⟨hcl,his⟩:=Stk.cell q1
 have hP5:=hP3.pushW q1 q2 q3 q4 q5
 clear hb3 o9 o10 o11 ot o13 o15 m3 hP3 hP1 h q1 q2 q3 q4 q5 r3
 repeat' (first| (simp(disch:=((try simp only[new_next,put_next,del_next]);omega)) [S0,o10',o11',o15',hcl,his];first|done| ((first|simp only[zj,zh,zi,zf,zg,zb]|simp only[ze,zc]|rw[za]);split)|skip)| ((first|simp only[zj,zh,zi,zf,zg,zb]|simp only[ze,zc]|rw[za]);split))
 generalize hy5:y4.put p.j10 (.rows false 1 [[d']])=y5 at hP5⊢
 have hn5:y5.next=y4.next+1:=by rw[←hy5];simp
 rw[←hn5]
 generalize hy6:y5.new (.rows false 1 [[I (t:Int)]])=y6 at*
 have hP6:=hP5.frame (y':=y6) (by rw[←hy6];exact SM_new (SM_refl _ _) (Nat.le_refl _)) (by rw[←hy6];simp)
 have hb6:y6.obj y5.next=some (.rows false 1 [[I (t:Int)]]):=by rw[←hy6];simp
 refine Rs_push hP6.sp hpl hP6.nx hb6 (fun d2 y7 q1 q2 q3 q4 q5=> ?_)
 obtain⟨-,s2,s3⟩:=hP6.mid q2 q3
 have o11'':=s3 8 _ rfl
 obtain⟨hcl2,his2⟩:=Stk.cell q1
 have hP7:=hP6.pushP q1 q2 q3 q4 q5
 have:=hk _ _ _ hP7
 repeat' (first| (simp(disch:=((try simp only[new_next,put_next,del_next]);omega)) [S0,o11'',hcl2,his2];first|done| ((first|simp only[zj,zh,zi,zf,zg,zb]|simp only[ze,zc]|rw[za]);split)|skip)| ((first|simp only[zj,zh,zi,zf,zg,zb]|simp only[ze,zc]|rw[za]);split))
 exact this
theorem along_ok {B:VM} {p:PJ} {g:Gr} (hg:zde g) {mi:Nat} (hmi:mi<2^64) {w:Int} (hN:g.st=p.N) {m0:Nat→Prop} {K:KD}
 (hK: ∀T y s (n:Nat) i dw dp,PM B p g mi w T n i dw dp y→GI g mi w p.N T→T.way=[]→(∀v,m0 v→T.met v≠0)→K.nrm s y): ∀T y (n:Nat) l i dw dp,PM B p g mi w T n i dw dp y→GI g mi w p.N T→T.way=l++[n]→(∀v,m0 v→T.met v≠0)→
   (∀T2 y s (q:Nat) l' i dw dp,PM B p g mi w T2 q i dw dp y→GI g mi w p.N T2→T2.way=l'++[q]→T2.way=l→T2.met=T.met→z6 LS s=S0 p→zb2 F n0 zc6 0 zq 1 zc6 K s y)→
   (∀T2 y s (t:Nat) i dw dp,PM B p g mi w T2 t i dw dp y→GI g mi w p.N T2→T2.way=T.way→T2.met=T.met→T2.met t=0→t<p.N→mi.testBit t=true→EdAt g.es.length (edOf g mi w) (T2.nx n) n t→z6 LS s=S0 p→zb2 F n0 zq 0 zq 1 zc6 K s y)→
   @Cd (rD F n0) (.base (ScK F n0 zq zc6 K)) (.seq (.block 4 (.loop LS zfR)) LS restE) (S0 p) y:=by
 intro T y n l i dw dp h hG hw hm kA kE
 have hnN:n<p.N:=hG.opN (hG.inv.way n (by rw[hw];simp))
 repeat' (first| (simp(disch:=((try simp only[new_next,put_next,del_next]);omega)) [S0];first|done| ((first|simp only[zj,zh,zi,zf,zg,zb]|simp only[ze,zc]|rw[za]);split)|skip)| ((first|simp only[zj,zh,zi,zf,zg,zb]|simp only[ze,zc]|rw[za]);split))
 refine inner_ok hg hmi hN h hG.inv hw hnN (fun T1 y1 s1 h1 hI1 e1 e2 e3 hE hs1=> ?_) (fun T1 y1 s1 t h1 hI1 e1 e2 e3 h0 hed htN hs1=> ?_)
 ·subst hs1
  repeat' (first| (simp(disch:=((try simp only[new_next,put_next,del_next]);omega)) [S0];first|done| ((first|simp only[zj,zh,zi,zf,zg,zb]|simp only[ze,zc]|rw[za]);split)|skip)| ((first|simp only[zj,zh,zi,zf,zg,zb]|simp only[ze,zc]|rw[za]);split))
  exact rest_ok hg hN h1 (hG.same hI1 e1 e2 e3) (e1.trans hw) hnN hE (fun T2 y s i dw dp a b c d=>hK _ _ _ _ _ _ _ a b c fun v hv=>by rw[d,e2];exact hm v hv) (fun T2 l' q s y i dw dp a b c d e f=>kA T2 y s q l' i dw dp a b c d (e.trans e2) f)
 ·have hb:mi.testBit t=true:=by
   obtain⟨x1,x2⟩:=hed
   rw[edOf_at x1] at x2
   split at x2
   ·rename_i hc
    rw[Option.some.injEq,Prod.mk.injEq] at x2
    rw[←x2.2];exact hc.2
   ·cases x2
  repeat' (first| (simp(disch:=((try simp only[new_next,put_next,del_next]);omega));first|done| ((first|simp only[zj,zh,zi,zf,zg,zb]|simp only[ze,zc]|rw[za]);split)|skip)| ((first|simp only[zj,zh,zi,zf,zg,zb]|simp only[ze,zc]|rw[za]);split))
  exact kE T1 y1 s1 t i dw dp h1 (hG.same hI1 e1 e2 e3) e1 e2 h0 htN hb hed hs1
theorem search_ok {B:VM} {p:PJ} {g:Gr} (hg:zde g) {mi:Nat} (hmi:mi<2^64) {w:Int} (hN:g.st=p.N) {m0:Nat→Prop} {K:KD}
 (hK: ∀T y s (n:Nat) i dw dp,PM B p g mi w T n i dw dp y→GI g mi w p.N T→T.way=[]→(∀v,m0 v→T.met v≠0)→K.nrm s y): ∀μ,
 (∀T y s (n:Nat) l i dw dp,muE p.N T+1<μ→PM B p g mi w T n i dw dp y→GI g mi w p.N T→T.way=l++[n]→(∀v,m0 v→T.met v≠0)→z6 LS s=S0 p→zb2 F n0 zc6 0 zq 1 zc6 K s y)∧
 (∀T y s (t:Nat) i dw dp,muE p.N T<μ→PM B p g mi w T t i dw dp y→GI g mi w p.N T→T.met t=0→t<p.N→mi.testBit t=true→(T.way=[]∨ ∃l p,T.way=l++[p]∧EdAt g.es.length (edOf g mi w) (T.nx p) p t)→(∀v,m0 v→v≠t→T.met v≠0)→z6 LS s=S0 p→zb2 F n0 zq 0 zq 1 zc6 K s y):=by
 have h60:p.N≤60:=by have:=hg.s2;omega
 have along:=along_ok (n0:=n0) hg hmi hN hK
 intro μ
 induction μ with
 |zero=>exact⟨fun _ _ _ _ _ _ _ _ h=>by omega,fun _ _ _ _ _ _ _ h=>by omega⟩
 |succ μ ih=>
  obtain⟨ihA,ihE⟩:=ih
  have goA: ∀T y (n:Nat) l i dw dp,muE p.N T+1<μ+1→PM B p g mi w T n i dw dp y→GI g mi w p.N T→T.way=l++[n]→(∀v,m0 v→T.met v≠0)→ @Cd (rD F n0) (.base (ScK F n0 zq zc6 K)) (.seq (.block 4 (.loop LS zfR)) LS restE) (S0 p) y:=by
   intro T y n l i dw dp hμ h hG hw hm
   refine along T y n l i dw dp h hG hw hm (fun T2 y s q l' i dw dp a b c d e f=> ?_) (fun T2 y s t i dw dp a b c d e f f2 f3 f4=> ?_)
   ·refine ihA T2 y s q l' i dw dp ?_ a b c (fun v hv=>by rw[e];exact hm v hv) f
    have x1:muE p.N T=2*(2*unv p.N T+(l.length+1)):=by unfold muE;rw[hw];simp
    have x2:muE p.N T2=2*(2*unv p.N T+l.length):=by unfold muE unv;rw[d,e]
    omega
   ·exact ihE T2 y s t i dw dp (by rw[muE_same c d];omega) a b e f f2 (.inr ⟨l,n,c.trans hw,f3⟩) (fun v hv _=>by rw[d];exact hm v hv) f4
  refine⟨fun T y s n l i dw dp hμ h hG hw hm hs=> ?_,fun T y s t i dw dp hμ h hG h0 ht hb hp hm hs=> ?_⟩
  ·exact .skip e_eq2 hs (goA T y n l i dw dp hμ h hG hw hm)
  ·refine .skip d_eq hs (enter_ok h60 h hG ht fun y' dw' dp' h'=> ?_)
   obtain⟨hG2,hu⟩:=hG.enter h0 ht hb hp
   have hm2: ∀v,m0 v→(T.enter t).met v≠0:=fun v hv=>by
    show up1 T.met t (T.m+1) v≠0
    by_cases e:v=t
    ·rw[e,zco];omega
    ·rw[zeb _ _ e];exact hm v hv e
   have hμ2:muE p.N (T.enter t)+1<μ+1:=by
    have x1:(T.enter t).way.length=T.way.length+1:=by simp[TS.enter]
    unfold muE at hμ⊢
    omega
   have:=goA (T.enter t) y' t T.way i dw' dp' hμ2 h' hG2 rfl hm2
   show @Cd (rD F n0) (.base _) zc6 (S0 p) y'
   rw[e_eq2]
   have hk0:z6 LS (S0 p)=S0 p:=by simp[S0]
   show @Cd (rD F n0) (.base _) (.seq (.block 4 (.loop LS zfR)) LS restE) (z6 LS (S0 p)) y'
   rw[hk0]
   exact this
theorem start_ok {B:VM} {p:PJ} {g:Gr} (hg:zde g) {mi:Nat} (hmi:mi<2^64) {w:Int} (hN:g.st=p.N) {m0:Nat→Prop} {K:KD}
 (hK: ∀T y s (n:Nat) i dw dp,PM B p g mi w T n i dw dp y→GI g mi w p.N T→T.way=[]→(∀v,m0 v→T.met v≠0)→K.nrm s y) {T:TS} {y:VM} {t:Nat} {i:Int} {dw dp:DV} (h:PM B p g mi w T t i dw dp y) (hG:GI g mi w p.N T) (h0:T.met t=0) (ht:t<p.N) (hb:mi.testBit t=true) (hw:T.way=[]) (hm: ∀v,m0 v→v≠t→T.met v≠0):
 @Cd (rD F n0) (.base (ScK F n0 zq zc6 K)) zq (S0 p) y:=by
 have h60:p.N≤60:=by have:=hg.s2;omega
 have hk0:z6 LS (S0 p)=S0 p:=by simp[S0]
 rw[d_eq]
 show @Cd (rD F n0) (.base _) (enE zc6) (z6 LS (S0 p)) y
 rw[hk0]
 refine enter_ok h60 h hG ht fun y' dw' dp' h'=> ?_
 obtain⟨hG2,hu⟩:=hG.enter h0 ht hb (.inl hw)
 have hm2: ∀v,m0 v→(T.enter t).met v≠0:=fun v hv=>by
  show up1 T.met t (T.m+1) v≠0
  by_cases e:v=t
  ·rw[e,zco];omega
  ·rw[zeb _ _ e];exact hm v hv e
 rw[e_eq2]
 show @Cd (rD F n0) (.base _) (.seq (.block 4 (.loop LS zfR)) LS restE) (z6 LS (S0 p)) y'
 rw[hk0]
 refine along_ok hg hmi hN hK (T.enter t) y' t T.way i dw' dp' h' hG2 rfl hm2 (fun T2 y s q l' i dw dp a b c d e f=> ?_) (fun T2 y s t2 i dw dp a b c d e f f2 f3 f4=> ?_)
 ·exact(search_ok hg hmi hN hK (muE p.N T2+2)).1 T2 y s q l' i dw dp (by omega) a b c (fun v hv=>by rw[e];exact hm2 v hv) f
 ·exact(search_ok hg hmi hN hK (muE p.N T2+2)).2 T2 y s t2 i dw dp (by omega) a b e f f2 (.inr ⟨T.way,t,c,f3⟩) (fun v hv _=>by rw[d];exact hm2 v hv) f4
end Go.Ideal.S
namespace Go.Ideal.S
open Go Go.Ideal Q Classical
attribute [local simp] decide_eq_true decide_eq_false z9
attribute [local simp] c_a f_a r_a_1 r_a_2 r_a_3 r_a_4 r_a_5 r_a_6 r_a_7 r_a_8 r_a_9 zhQ zhP zj6 zj5 zj4 zj3 zj2 zj1 zj0 zjZ zjY zjX zjW zjV zjU zjT zjS zjR zjQ zjP zjO zjN zjM zjL zjK zjJ zhO zhN zhM zhL zjI zjH zjG zjF zjE zjD zjC zjB zjA zjz zjy zjx zjw zjv zju zjt zjs zjr zjq zjp zjo zjn zjm zjl zjk zjj zji zjh zhK zhJ zhI zhH zjg zjf zje zjd zhG zhF zhE zhD zjc
variable {M:VM} {k kp:DV→VM→Prop} {n0:Nat}
def RIn (g:Gr) (mi:Nat) (w:Int) (a b:Nat):Prop:=RTo g.es.length (edOf g mi w) a b
structure PartsOf (g:Gr) (mi:Nat) (w:Int) (N:Nat) (cmp:Nat→Int) (many:Nat):Prop where
 out: ∀v,mi.testBit v=false→cmp v= -1
 ins: ∀v,mi.testBit v=true→0≤cmp v∧cmp v<many
 eq: ∀a b,mi.testBit a=true→mi.testBit b=true→(cmp a=cmp b↔Star (RIn g mi w) a b∧Star (RIn g mi w) b a)
 le:many≤N
theorem parts_of {g:Gr} {mi:Nat} {w:Int} {N:Nat} {T:TS} (h:GI g mi w N T) (hw:T.way=[]) (hm: ∀v,mi.testBit v=true→T.met v≠0):PartsOf g mi w N T.cmp T.many:=by
 have ho:=h.inv.op_nil hw
 have hc: ∀v,mi.testBit v=true→T.cmp v≠ -1:=fun v hv e=>by
  have:=(h.inv.opi v).2 ⟨hm v hv,e⟩
  rw[ho] at this;cases this
 refine⟨fun v hv=>Classical.byContradiction fun e=> ?_,fun v hv=>(h.inv.cv v (hc v hv)).2,fun a b ha hb=>h.inv.eq a b (hc a ha) (hc b hb),by have:=h.len;omega⟩
 have:=(h.bit v (h.inv.cv v e).1).2
 rw[hv] at this;cases this
theorem c_eq:c_a_86=.seq (.seq (.ops zhQ) (bs [3,4,5,8,9,10,11,12,13,14,15,16,17,42]) (.cond (t 42) (.exit 2) .skip)) (bs [3,4,5,8,9,10,11,12,13,14,15,16,17]) (.seq (.ops zhP) LS zq):=rfl
theorem parts_ok {g:Gr} (hg:zde g) {mi:Nat} (hmi:mi<2^64) {w:Int} {N:Nat} (hN:g.st=N) (hin: ∀v,mi.testBit v=true→v<N)
 (hk: ∀M' j cmp many,SM M.next M M'→M.next≤j→j<M'.next→M'.obj j=some (.rows false 1 (R1 cmp N))→PartsOf g mi w N cmp many→k (.tup [.ms j 0 N N,I many]) M'):zt F (.fn n_a [] []) [.agg (eGr g),setD mi,I w] M k kp:=by
 have h1N:1≤N:=by have:=hg.s1;omega
 have hN60:N≤60:=by have:=hg.s2;omega
 refine .fn zgo rfl (by simp[f_a]) ?_
 repeat' (first| (simp(disch:=((try simp only[new_next,put_next,del_next]);omega)) [eGr,hN];first|done| ((first|simp only[zj,zh,zi,zf,zg,zb]|simp only[ze,zc]|rw[za]);split)|skip)| ((first|simp only[zj,zh,zi,zf,zg,zb]|simp only[ze,zc]|rw[za]);split))
 refine repeat_ok (-1) N _ h1N (by omega) (by simp) (by simp) fun M1 jo q1 q2 q3 q4=> ?_
 have o3:=zcA (j:=M.next) q1 (by simp;omega) (o:=grO g) (by simp(disch:=((try simp only[new_next,put_next]);omega)) [hN])
 have o4:=zcA (j:=M.next+1) q1 (by simp<;>omega) (o:=setO mi) (by simp(disch:=((try simp only[new_next,put_next]);omega)))
 have o5:=zcA (j:=M.next+1+1) q1 (by simp<;>omega) (o:=intO w) (by simp(disch:=((try simp only[new_next,put_next]);omega)))
 have hs0:SM M.next M M1:=fun j hj=>(q1 j (by simp;omega)).trans ((show SM M.next M ((((M.new _).new _).new _).new _) from(by repeat' (first|assumption|exact SM_refl _ _|apply SM_put|apply SM_new|apply SM_del| ((try simp only[new_next,put_next,del_next]);omega)))) j hj)
 simp at q1 q2
 clear q1
 have f1:N*16≤1073741824∧N≤1073741824:=by omega
 have f2:N*8≤1073741824∧N≤1073741824:=by omega
 repeat' (first| (simp(disch:=((try simp only[new_next,put_next,del_next]);omega)) [o3,hN,q4,f1,f2,o4];first|done| ((first|simp only[zj,zh,zi,zf,zg,zb]|simp only[ze,zc]|rw[za]);split)|skip)| ((first|simp only[zj,zh,zi,zf,zg,zb]|simp only[ze,zc]|rw[za]);split))
 have hr1:R1 (fun _=> -1) N=List.replicate N [I (-1)]:=by unfold R1;rw[List.map_const',List.length_range]
 have hr0:R1 (fun _=>((0:Nat):Int)) N=List.replicate N [I 0]:=by unfold R1;rw[List.map_const',List.length_range];rfl
 have hr2:R2 (fun _=>((0:Nat):Int)) (fun _=>((0:Nat):Int)) N=List.replicate N [I 0,I 0]:=by unfold R2;rw[List.map_const',List.length_range];rfl
 let p0:PJ:=⟨M.next,M.next+1,M.next+1+1,jo,M1.next,M1.next+1+1,M1.next+1+1+1,M1.next+1+1+1+1+1,M1.next+1+1+1+1+1+1,M1.next+1+1+1+1+1+1+1,M1.next+1+1+1+1+1+1+1+1,M1.next+1+1+1+1+1+1+1+1+1+1,M1.next+1+1+1+1+1+1+1+1+1+1+1,M1.next+1+1+1+1+1+1+1+1+1+1+1+1+1+1,M1.next+1+1+1+1+1+1+1+1+1+1+1+1+1+1+1,0,N,[]⟩
 refine zt.gen (Q:=fun y=>SM M.next M y∧y.next=M1.next+1+1+1+1+1+1+1+1+1+1+1+1+1+1+1+1∧ ∀x∈p0.L g mi w TS.nil 0 0 .nilS .nilS,y.obj x.1=some x.2) ⟨(by repeat' (first|assumption|exact SM_refl _ _|apply SM_put|apply SM_new|apply SM_del| ((try simp only[new_next,put_next,del_next]);omega))),by simp,?_⟩ fun y0 hy0=> ?_
 ·show∀x∈PJ.L p0 g mi w TS.nil 0 0 .nilS .nilS,_
  simp only[PJ.L,TS.nil,p0,List.forall_mem_cons,List.not_mem_nil,false_implies,implies_true,and_true,hr1,hr0,hr2]
  refine⟨?_,?_,?_,?_,?_,?_,?_,?_,?_,?_,?_,?_,?_,?_,?_⟩<;>simp(disch:=((try simp only[new_next,put_next,del_next]);omega)) [o3,o4,o5,q4]
 obtain⟨hs1,hn1,hob⟩:=hy0
 refine all_ok mi fun M2 j1 a1 a2 a3 a4=> ?_
 repeat' (first| (simp(disch:=((try simp only[new_next,put_next,del_next]);omega));first|done| ((first|simp only[zj,zh,zi,zf,zg,zb]|simp only[ze,zc]|rw[za]);split)|skip)| ((first|simp only[zj,zh,zi,zf,zg,zb]|simp only[ze,zc]|rw[za]);split))
 have hl:M2.next<(M2.new (.loop .ready none (S0 p0) ⟨0,LS,[bits 36],zgM,zy⟩)).next:=by simp
 have ol:(M2.new (.loop .ready none (S0 p0) ⟨0,LS,[bits 36],zgM,zy⟩)).obj M2.next=some (.loop .ready none (S0 p0) ⟨0,LS,[bits 36],zgM,zy⟩):=by simp
 show zt F _ [.yld M2.next] (M2.new (.loop .ready none (S0 p0) ⟨0,LS,[bits 36],zgM,zy⟩)) _ _
 generalize hrc:RC.mk 0 LS [bits 36] zgM zy=rc at*
 have has:rc.as=zgM:=by rw[←hrc]
 have hb:rc.b=zy:=by rw[←hrc]
 have hps:rc.ps=[bits 36]:=by rw[←hrc]
 have hL:rc.L=LS:=by rw[←hrc]
 clear hrc
 have hok:PJ.Ok {p0 with Y:=M2.next+1,ex:=[(M2.next,.loop .ready none (S0 p0) rc),(j1,setO mi)]} M.next:=⟨by simp[p0];omega⟩
 have hP0:PM M {p0 with Y:=M2.next+1,ex:=[(M2.next,.loop .ready none (S0 p0) rc),(j1,setO mi)]} g mi w TS.nil (0:Nat) 0 .nilS .nilS (M2.new (.loop .ready none (S0 p0) rc)):=by
  refine⟨hok,?_,by simp,fun kk x hx=> ?_,.inl ⟨rfl,rfl⟩,.inl ⟨rfl,rfl⟩,fun j hj a b c e=>(by cases e),fun x hx=> ?_⟩
  ·exact SM_new (fun j hj=>(a1 j (by omega)).trans (hs1 j hj)) (by omega)
  ·have hx2:=hob x (List.mem_of_getElem? hx)
   have hlt:x.1<y0.next:=by
    have:x.1≤p0.j16:=(PJ.L_lt hok x (List.mem_of_getElem? hx)).2.2
    simp[p0] at this
    omega
   rw[zhY _ (by omega),←hx2]
   show(M2.get x.1).map _=(y0.get x.1).map _
   rw[a1 _ hlt]
  ·simp at hx
   rcases hx with rfl|rfl
   ·exact⟨ol,by simp[p0];omega,by simp⟩
   ·exact⟨by rw[zhY _ a3];exact a4,by simp[p0];omega,by simp;omega⟩
 clear hob ol hl a1 hs1 q4 o3 o4 o5 hs0
 have hl1:M2.next≠j1:=by omega
 have hj1:p0.j16<j1:=by simp[p0];omega
 have hj2:p0.j16<M2.next:=by simp[p0];omega
 have hpN:p0.N=N:=rfl
 have hp8:p0.j8=M1.next:=rfl
 have hp14:p0.j14=M1.next+1+1+1+1+1+1+1+1+1+1+1:=rfl
 have hpo:p0.jo=jo:=rfl
 clear_value p0
 generalize M2.new (.loop .ready none (S0 p0) rc)=y1 at*
 refine all1_ok mi hmi M2.next j1 (fun i y=> ∃T,∃n:Nat,∃ii dw dp,PM M {p0 with Y:=M2.next+1,ex:=[(M2.next,.loop .ready none (S0 p0) rc),(j1,setO mi)]} g mi w T n ii dw dp y∧GI g mi w N T∧T.way=[]∧ ∀v,v<i→mi.testBit v=true→T.met v≠0) (fun _=>False)
  ⟨TS.nil,0,0,.nilS,.nilS,hP0,⟨Inv.nil _ _,fun v hv=>absurd rfl hv,?_,?_,?_⟩,rfl,fun v hv=>by omega⟩ (fun i y hP=> ?_) (fun i y y' hi hP s1 s2 hne=> ?_) (fun i y y' hi hP s1 s2 he {k kp} b1 b2=> ?_) (fun y hP=> ?_) (fun y hR=>hR.elim)
 ·show unv N TS.nil+0+0≤N
  have:=List.countP_le_length (p:=fun v=>decide (TS.nil.met v=0)) (l:=List.range N)
  rw[List.length_range] at this;unfold unv;omega
 ·show unv N TS.nil+0≤N
  have:=List.countP_le_length (p:=fun v=>decide (TS.nil.met v=0)) (l:=List.range N)
  rw[List.length_range] at this;unfold unv;omega
 ·show unv N TS.nil+0≤N
  have:=List.countP_le_length (p:=fun v=>decide (TS.nil.met v=0)) (l:=List.range N)
  rw[List.length_range] at this;unfold unv;omega
 ·obtain⟨T,n,ii,dw,dp,h,_⟩:=hP
  obtain⟨x1,x2,x3⟩:=h.xs (j1,setO mi) (by simp)
  have:=h.nx
  exact⟨x1,by simp at x3 this;omega⟩
 ·obtain⟨T,n,ii,dw,dp,h,h2,h3,h4⟩:=hP
  exact⟨T,n,ii,dw,dp,h.frame s1 s2,h2,h3,fun v hv hb=>by
   by_cases e:v=i
   ·subst e;rw[hne] at hb;cases hb
   ·exact h4 v (by omega) hb⟩
 ·obtain⟨T,n,ii,dw,dp,h,h2,h3,h4⟩:=hP
  have h:=h.frame s1 s2
  have rl:=(h.xs (M2.next,.loop .ready none (S0 p0) rc) (by simp)).1
  refine .round rl (s:=(bits 36,I i)::S0 p0) (by rw[hps,hL];simp[S0]) ?_
  rw[has]
  repeat' (first| (simp(disch:=((try simp only[new_next,put_next,del_next]);omega)) [zgM,S0];first|done| ((first|simp only[zj,zh,zi,zf,zg,zb]|simp only[ze,zc]|rw[za]);split)|skip)| ((first|simp only[zj,zh,zi,zf,zg,zb]|simp only[ze,zc]|rw[za]);split))
  refine AsK_nrm rl ?_
  rw[hb]
  have hB:=h.setEx (j:=M2.next) (.loop .busy none (S0 p0) rc) (ex:=[(M2.next,.loop .busy none (S0 p0) rc),(j1,setO mi)]) ⟨hj2,Nat.lt_succ_self _⟩ (fun x hx=>by
   simp at hx
   rcases hx with rfl|rfl
   ·exact .inl rfl
   ·exact .inr ⟨fun e=>hl1 e.symm,by simp⟩)
  generalize y'.put M2.next (.loop .busy none (S0 p0) rc)=y2 at*
  have hiN:=hin i he
  have o9:=hB.hold 6 _ rfl
  have ot:=hB.hold 5 _ rfl
  have o15:=hB.hold 13 _ rfl
  have hh:=hB.ok.h
  have hnx2:=hB.nx
  have m2:=R2_at (f:=fun v=>(T.met v:Int)) (g:=fun v=>(T.low v:Int)) hiN
  have back: ∀{T2:TS} {n2:Nat} {i2:Int} {dw2 dp2:DV} {y3:VM},PM M {p0 with Y:=M2.next+1,ex:=[(M2.next,.loop .busy none (S0 p0) rc),(j1,setO mi)]} g mi w T2 n2 i2 dw2 dp2 y3→GI g mi w N T2→T2.way=[]→(∀v,(v<i+1∧mi.testBit v=true)→T2.met v≠0)→finD M2.next k none y3:=by
   intro T2 n2 i2 dw2 dp2 y3 a b c d
   have hb3:=(a.xs (M2.next,.loop .busy none (S0 p0) rc) (by simp)).1
   refine zih (st:=.busy) (pd:=none) (sl:=S0 p0) (rc:=rc) hb3 ?_
   refine b1 _ ⟨T2,n2,i2,dw2,dp2,a.setEx (j:=M2.next) (.loop .ready none (S0 p0) rc) (ex:=[(M2.next,.loop .ready none (S0 p0) rc),(j1,setO mi)]) ⟨hj2,Nat.lt_succ_self _⟩ (fun x hx=> ?_),b,c,fun v hv hb=>d v ⟨hv,hb⟩⟩
   simp at hx
   rcases hx with rfl|rfl
   ·exact .inl rfl
   ·exact .inr ⟨fun e=>hl1 e.symm,by simp⟩
  subst hpN
  repeat' (first| (simp(disch:=((try simp only[new_next,put_next,del_next]);omega)) [zy];first|done| ((first|simp only[zj,zh,zi,zf,zg,zb]|simp only[ze,zc]|rw[za]);split)|skip)| ((first|simp only[zj,zh,zi,zf,zg,zb]|simp only[ze,zc]|rw[za]);split))
  refine zb2.go c_eq ?_
  by_cases c:T.met i=0
  ·have c': ¬(0:Int)<(T.met i:Int):=by omega
   have hN2:=hB.setN i
   repeat' (first| (simp(disch:=((try simp only[new_next,put_next,del_next]);omega)) [o9,ot,m2,c',hiN,o15];first|done| ((first|simp only[zj,zh,zi,zf,zg,zb]|simp only[ze,zc]|rw[za]);split)|skip)| ((first|simp only[zj,zh,zi,zf,zg,zb]|simp only[ze,zc]|rw[za]);split))
   refine start_ok (p:={p0 with Y:=M2.next+1,ex:=[(M2.next,.loop .busy none (S0 p0) rc),(j1,setO mi)]}) hg hmi hN (m0:=fun v=>v<i+1∧mi.testBit v=true) (fun T2 y3 s3 n2 i2 dw2 dp2 a b cc d=> ?_) hN2 h2 c hiN he h3 (fun v hv hne=>h4 v (by omega) hv.2)
   repeat' (first| (simp(disch:=((try simp only[new_next,put_next,del_next]);omega));first|done| ((first|simp only[zj,zh,zi,zf,zg,zb]|simp only[ze,zc]|rw[za]);split)|skip)| ((first|simp only[zj,zh,zi,zf,zg,zb]|simp only[ze,zc]|rw[za]);split))
   exact back a b cc d
  ·have c':(0:Int)<(T.met i:Int):=by omega
   repeat' (first| (simp(disch:=((try simp only[new_next,put_next,del_next]);omega)) [o9,ot,m2,c',hiN];first|done| ((first|simp only[zj,zh,zi,zf,zg,zb]|simp only[ze,zc]|rw[za]);split)|skip)| ((first|simp only[zj,zh,zi,zf,zg,zb]|simp only[ze,zc]|rw[za]);split))
   exact back hB h2 h3 fun v hv=>by
    by_cases e:v=i
    ·rw[e];exact c
    ·exact h4 v (by omega) hv.2
 ·obtain⟨T,n,ii,dw,dp,h,h2,h3,h4⟩:=hP
  have rl:=(h.xs (M2.next,.loop .ready none (S0 p0) rc) (by simp)).1
  refine rgEnd_nrm rl ?_
  have o8:=h.hold 4 _ rfl
  have oo:=h.hold 3 _ rfl
  have o14:=h.hold 12 _ rfl
  have hh:=h.ok.h
  have hnx2:=h.nx
  have hsm:=h.sm
  subst hpN
  subst hpo
  rw[show({p0 with Y:=M2.next+1,ex:=[(M2.next,.loop .ready none (S0 p0) rc),(j1,setO mi)]}:PJ).j8=M1.next from hp8] at o8
  rw[show({p0 with Y:=M2.next+1,ex:=[(M2.next,.loop .ready none (S0 p0) rc),(j1,setO mi)]}:PJ).j14=_ from hp14] at o14
  repeat' (first| (simp(disch:=((try simp only[new_next,put_next,del_next]);omega)) [o8,o14];first|done| ((first|simp only[zj,zh,zi,zf,zg,zb]|simp only[ze,zc]|rw[za]);split)|skip)| ((first|simp only[zj,zh,zi,zf,zg,zb]|simp only[ze,zc]|rw[za]);split))
  refine hk _ p0.jo T.cmp T.many ?_ ?_ ?_ ?_ (parts_of h2 h3 fun v hv=>h4 v (by have:=hin v hv;omega) hv)
  ·dsimp only at hh
   exact SM_put hsm (by omega)
  ·dsimp only at hh
   omega
  ·dsimp only at hh hnx2
   simp;omega
  ·dsimp only at hh
   rw[obj_put,if_neg (by omega)];exact oo
end Go.Ideal.S
namespace Go.Ideal.S
open Go Go.Ideal Q Classical
attribute [local simp] decide_eq_true decide_eq_false z9
attribute [local simp] c_m f_m r_m_1 r_m_2 r_m_3 r_m_4 r_m_5 r_m_6 r_m_8 c_e f_e r_e_1 r_e_2 r_e_3 r_e_4 r_e_5 r_e_6 r_e_7 r_e_8 r_e_9 r_e_10 r_e_11 r_e_12 r_e_13 r_e_16
variable {M:VM} {k kp:DV→VM→Prop} {n0:Nat}
theorem Back.ms {M M2:VM} {j n cap s:Nat} {op:Bool} {rs:List (List DV)} (ho:M2.obj j=some (.rows op s rs)) (hn:n=rs.length) (hr: ∀r∈rs,r.length=s) (hj:M.next≤j) (hs:SM M.next M M2) (hb: ∀r∈rs,∀x∈r,zG M.next x) (hk:k (.lst s rs) M):Back k M (.ms j 0 n cap) M2:=fun hw=>
 ⟨.lst s rs,.ms0 ho (hw j hj) hn hr,.lst hb,fun i hi=>hs i hi,hk⟩
def B1 (f:Nat→Bool) (N:Nat):List (List DV):=(List.range N).map fun v=>[.bool (f v)]
@[simp] theorem B1_len (f:Nat→Bool) (N:Nat):(B1 f N).length=N:=by simp[B1]
theorem zgw {f:Nat→Bool} {N n:Nat} (h:n<N):(B1 f N)[n]? =some [.bool (f n)]:=by simp[B1,h]
theorem zkv {f:Nat→Bool} {N n:Nat} {x:Bool}:(B1 f N).set n [.bool x]=B1 (up1 f n x) N:=by
 unfold B1
 rw[set_map]
 congr 1;funext v
 unfold up1;split<;>rfl
theorem B1_row {f:Nat→Bool} {N:Nat}: ∀r∈B1 f N,r.length=1:=by simp[B1]
theorem zha {f:Nat→Bool} {N n:Nat}: ∀r∈B1 f N,∀x∈r,zG n x:=by
 intro r hr x hx
 simp only[B1,List.mem_map] at hr
 obtain⟨v,_,rfl⟩:=hr
 obtain rfl:=List.mem_singleton.1 hx
 simp
theorem B1_no (N:Nat):List.replicate N [DV.bool false]=B1 (fun _=>false) N:=by unfold B1;rw[List.map_const',List.length_range]
theorem B1_ext {f h:Nat→Bool} {N:Nat} (e: ∀v,v<N→f v=h v):B1 f N=B1 h N:=by
 unfold B1
 apply List.map_congr_left
 intro v hv
 rw[e v (List.mem_range.1 hv)]
theorem rall_ok {g:Gr} {N:Nat} (hN:g.st=N) (h1000:N≤1000) (hk:k (.lst 1 (B1 (fun _=>true) N)) M):zt F (.fn n_m [] []) [.agg (eGr g)] M k kp:=by
 apply zt.back
 refine .fn zff rfl (by simp[f_m]) ?_
 have f1:N*1≤1073741824∧N≤1073741824:=by omega
 have f2:N≤1073741824:=by omega
 repeat' (first| (simp(disch:=((try simp only[new_next,put_next,del_next]);omega)) [eGr,hN,f1,f2];first|done| ((first|simp only[zj,zh,zi,zf,zg,zb]|simp only[ze,zc]|rw[za]);split)|skip)| ((first|simp only[zj,zh,zi,zf,zg,zb]|simp only[ze,zc]|rw[za]);split))
 rw[B1_no]
 refine .for (σ:=VM) c_m_7.eq_1 (fun i _=>[(4,I i)]) (fun y=>y) (fun i y=>SM M.next M y∧M.next+2≤y.next∧y.obj M.next=some (.rows false 3 [eGr g])∧y.obj (M.next+1)=some (.rows false 1 (B1 (fun v=>decide (v<i)) N))) N _ (by simp) rfl ⟨(by repeat' (first|assumption|exact SM_refl _ _|apply SM_put|apply SM_new|apply SM_del| ((try simp only[new_next,put_next,del_next]);omega))),by simp,by simp(disch:=((try simp only[new_next,put_next]);omega)) [eGr,hN],by simp⟩ (fun i y hi hP again=> ?_) (fun y hP=> ?_)
 ·obtain⟨h1,h2,h3,h4⟩:=hP
  have hB:=zgw (f:=fun v=>decide (v<i)) hi
  have hst:=zkv (f:=fun v=>decide (v<i)) (N:=N) (n:=i) (x:=true)
  have he:B1 (up1 (fun v=>decide (v<i)) i true) N=B1 (fun v=>decide (v<i+1)) N:=B1_ext fun v _=>by
   unfold up1
   by_cases e:v=i
   ·simp[e]
   ·simp[e];omega
  simp at again
  repeat' (first| (simp(disch:=((try simp only[new_next,put_next,del_next]);omega)) [h3,h4,hi,hN,eGr,hB];first|done| ((first|simp only[zj,zh,zi,zf,zg,zb]|simp only[ze,zc]|rw[za]);split)|skip)| ((first|simp only[zj,zh,zi,zf,zg,zb]|simp only[ze,zc]|rw[za]);split))
  refine again _ (by repeat' (first|assumption|exact SM_refl _ _|apply SM_put|apply SM_new|apply SM_del| ((try simp only[new_next,put_next,del_next]);omega))) (by simp;omega) (by simp(disch:=omega) [h3]) ?_
  simp only[obj_put_eq]
  rw[hst,he]
 ·obtain⟨h1,h2,h3,h4⟩:=hP
  repeat' (first| (simp(disch:=((try simp only[new_next,put_next,del_next]);omega)) [h3,h4,hN,eGr];first|done| ((first|simp only[zj,zh,zi,zf,zg,zb]|simp only[ze,zc]|rw[za]);split)|skip)| ((first|simp only[zj,zh,zi,zf,zg,zb]|simp only[ze,zc]|rw[za]);split))
  refine Back.ms h4 (by simp) B1_row (by omega) h1 zha ?_
  rw[B1_ext (h:=fun _=>true) fun v hv=>by simp[hv]]
  exact hk
def RF (g:Gr) (inn:Nat→Bool) (w:Int) (a b:Nat):Prop:= ∃e∈g.es,e.f=(a:Int)∧e.t=(b:Int)∧e.a≠w∧inn b=true
def nof (N:Nat) (f:Nat→Bool):Nat:=(List.range N).countP fun v=> !f v
theorem nof_lt {N:Nat} {f:Nat→Bool} {t:Nat} (ht:t<N) (h:f t=false):nof N (up1 f t true)<nof N f:=by
 refine cnt_lt (t:=t) (fun x hx=> ?_) (List.mem_range.2 ht) (by simp[h]) (by simp[up1])
 unfold up1 at hx
 split at hx
 ·cases hx
 ·exact hx
structure RcM (M:VM) (g:Gr) (N:Nat) (R:Nat→Nat→Prop) (s:Nat) (f:Nat→Bool) (y:VM):Prop where
 sm:SM M.next M y
 nx:M.next+2≤y.next
 o4:y.obj M.next=some (.rows false 3 [eGr g])
 o9:y.obj (M.next+1)=some (.rows false 1 (B1 f N))
 so: ∀v,v<N→f v=true→Star R s v
 st:f s=true
theorem reach_ok {g:Gr} (hg:zde g) {N:Nat} (hN:g.st=N) {s:Nat} (hs:s<N) (inn:Nat→Bool) (w:Int) (hk: ∀f:Nat→Bool,(∀v,v<N→(f v=true↔Star (RF g inn w) s v))→k (.lst 1 (B1 f N)) M):zt F (.fn n_e [] []) [.agg (eGr g),I s,.lst 1 (B1 inn N),I w] M k kp:=by
 apply zt.back
 refine .fn zeo rfl (by simp[f_e]) ?_
 have g2:=hg.s2
 have g5:=hg.el
 have f1:N*1≤1073741824∧N≤1073741824:=by omega
 have f2:N≤1073741824:=by omega
 have hb0:=zgw (f:=fun _=>false) hs
 repeat' (first| (simp(disch:=((try simp only[new_next,put_next,del_next]);omega)) [eGr,hN,f1,f2,B1_no,hs,hb0];first|done| ((first|simp only[zj,zh,zi,zf,zg,zb]|simp only[ze,zc]|rw[za]);split)|skip)| ((first|simp only[zj,zh,zi,zf,zg,zb]|simp only[ze,zc]|rw[za]);split))
 rw[zkv]
 refine .gen (Q:=fun y=>RcM M g N (RF g inn w) s (up1 (fun _=>false) s true) y) ⟨(by repeat' (first|assumption|exact SM_refl _ _|apply SM_put|apply SM_new|apply SM_del| ((try simp only[new_next,put_next,del_next]);omega))),by simp,by simp(disch:=((try simp only[new_next,put_next]);omega)) [eGr,hN],by simp,fun v hv h=> ?_,zco _ _ _⟩ fun y0 hy0=> ?_
 ·unfold up1 at h
  split at h
  ·subst v;exact .refl _
  ·cases h
 refine .while (σ:=(Nat→Bool)×Bool×VM) c_e_15.eq_1 (fun x=>[(10,.bool x.2.1)]) (fun x=>x.2.2) (fun x=>RcM M g N (RF g inn w) s x.1 x.2.2∧(x.2.1=false→ ∀a b,x.1 a=true→RF g inn w a b→x.1 b=true)) (fun x=>2*nof N x.1+x.2.1.toNat) (up1 (fun _=>false) s true,true,y0) (by simp) rfl ⟨hy0,fun h=>by cases h⟩ (fun x hP again=> ?_)
 obtain⟨f,more,y⟩:=x
 obtain⟨⟨h1,h2,h3,h4,h5,h6⟩,hcl⟩:=hP
 dsimp only at h1 h2 h3 h4 h5 h6 hcl
 cases more with
 |false=>
  have hcl:=hcl rfl
  have hk:=hk f fun v hv=>⟨h5 v hv,fun h=>h.keep (P:=fun v=>f v=true) (fun a b ha r=>hcl a b ha r) h6⟩
  repeat' (first| (simp(disch:=((try simp only[new_next,put_next,del_next]);omega));first|done| ((first|simp only[zj,zh,zi,zf,zg,zb]|simp only[ze,zc]|rw[za]);split)|skip)| ((first|simp only[zj,zh,zi,zf,zg,zb]|simp only[ze,zc]|rw[za]);split))
  exact Back.ms h4 (by simp) B1_row (by omega) h1 zha hk
 |true=>
  repeat' (first| (simp(disch:=((try simp only[new_next,put_next,del_next]);omega));first|done| ((first|simp only[zj,zh,zi,zf,zg,zb]|simp only[ze,zc]|rw[za]);split)|skip)| ((first|simp only[zj,zh,zi,zf,zg,zb]|simp only[ze,zc]|rw[za]);split))
  refine .for (σ:=(Nat→Bool)×Bool×VM) c_e_14.eq_1 (fun i x=>[(11,I i),(10,.bool x.2.1)]) (fun x=>x.2.2) (fun i x=>RcM M g N (RF g inn w) s x.1 x.2.2∧(x.2.1=false→x.1=f∧ ∀j (hj:j<g.es.length),j<i→f g.es[j].f.toNat=true→g.es[j].a≠w→inn g.es[j].t.toNat=true→f g.es[j].t.toNat=true)∧(x.2.1=true→nof N x.1<nof N f)) g.es.length (f,false,y) (by simp) rfl ⟨⟨h1,h2,h3,h4,h5,h6⟩,fun _=>⟨rfl,fun j hj hh=>by omega⟩,fun h=>by cases h⟩ (fun i x hi hP again2=> ?_) (fun x hP=> ?_)
  ·obtain⟨f',more',y'⟩:=x
   obtain⟨⟨p1,p2,p3,p4,p5,p6⟩,q1,q2⟩:=hP
   dsimp only at p1 p2 p3 p4 p5 p6 q1 q2
   have he:=hg.ok _ (List.getElem_mem hi)
   obtain⟨u,hu⟩:=Int.eq_ofNat_of_zero_le he.f0
   obtain⟨t,ht⟩:=Int.eq_ofNat_of_zero_le he.t0
   have huN:u<N:=by have:=he.f1;omega
   have htN:t<N:=by have:=he.t1;omega
   have b1:=zgw (f:=f') huN
   have b2:=zgw (f:=f') htN
   have b3:=zgw (f:=inn) htN
   have no: ∀y2,RcM M g N (RF g inn w) s f' y2→(more'=false→f u=true→g.es[i].a≠w→inn t=true→f t=true)→zcn F M.next [bits 2,bits 3,bits 4,bits 9,bits 10,bits 11] c_e_14 _ _ y2:=fun y2 hR hn=>again2 (f',more',y2) ⟨hR,fun hm=>⟨(q1 hm).1,fun j hj hji hf ha hin=>by
    by_cases e:j=i
    ·subst e
     rw[hu,Int.toNat_natCast] at hf
     rw[ht,Int.toNat_natCast] at hin
     rw[ht,Int.toNat_natCast]
     exact hn hm hf ha hin
    ·exact(q1 hm).2 j hj (by omega) hf ha hin⟩,q2⟩
   have box: ∀a b,RcM M g N (RF g inn w) s f' ((y'.new a).put y'.next b):=fun a b=>⟨(by repeat' (first|assumption|exact SM_refl _ _|apply SM_put|apply SM_new|apply SM_del| ((try simp only[new_next,put_next,del_next]);omega))),by simp;omega,by simp(disch:=omega) [p3],by simp(disch:=omega) [p4],p5,p6⟩
   simp at no again2
   by_cases c1:g.es[i].a=w
   ·repeat' (first| (simp(disch:=((try simp only[new_next,put_next,del_next]);omega)) [p3,eGr,hi,zbl,hu,ht,c1];first|done| ((first|simp only[zj,zh,zi,zf,zg,zb]|simp only[ze,zc]|rw[za]);split)|skip)| ((first|simp only[zj,zh,zi,zf,zg,zb]|simp only[ze,zc]|rw[za]);split))
    exact no _ (box _ _) (fun _ _ h _=>absurd c1 h)
   ·cases c2:f' u with
    |false=>
     repeat' (first| (simp(disch:=((try simp only[new_next,put_next,del_next]);omega)) [p3,eGr,hi,zbl,hu,ht,c1,p4,b1,b2,huN,htN,c2];first|done| ((first|simp only[zj,zh,zi,zf,zg,zb]|simp only[ze,zc]|rw[za]);split)|skip)| ((first|simp only[zj,zh,zi,zf,zg,zb]|simp only[ze,zc]|rw[za]);split))
     exact no _ (box _ _) (fun hm hf _ _=>by rw[←(q1 hm).1,c2] at hf;cases hf)
    |true=>cases c3:inn t with
     |false=>
      repeat' (first| (simp(disch:=((try simp only[new_next,put_next,del_next]);omega)) [p3,eGr,hi,zbl,hu,ht,c1,p4,b1,b2,b3,huN,htN,c2,c3];first|done| ((first|simp only[zj,zh,zi,zf,zg,zb]|simp only[ze,zc]|rw[za]);split)|skip)| ((first|simp only[zj,zh,zi,zf,zg,zb]|simp only[ze,zc]|rw[za]);split))
      exact no _ (box _ _) (fun _ _ _ h=>by rw[c3] at h;cases h)
     |true=>cases c4:f' t with
      |true=>
       repeat' (first| (simp(disch:=((try simp only[new_next,put_next,del_next]);omega)) [p3,eGr,hi,zbl,hu,ht,c1,p4,b1,b2,b3,huN,htN,c2,c3,c4];first|done| ((first|simp only[zj,zh,zi,zf,zg,zb]|simp only[ze,zc]|rw[za]);split)|skip)| ((first|simp only[zj,zh,zi,zf,zg,zb]|simp only[ze,zc]|rw[za]);split))
       exact no _ (box _ _) (fun hm _ _ _=>by rw[←(q1 hm).1];exact c4)
      |false=>
       repeat' (first| (simp(disch:=((try simp only[new_next,put_next,del_next]);omega)) [p3,eGr,hi,zbl,hu,ht,c1,p4,b1,b2,b3,huN,htN,c2,c3,c4];first|done| ((first|simp only[zj,zh,zi,zf,zg,zb]|simp only[ze,zc]|rw[za]);split)|skip)| ((first|simp only[zj,zh,zi,zf,zg,zb]|simp only[ze,zc]|rw[za]);split))
       have hlt:=nof_lt htN c4
       have hle:nof N f'≤nof N f:=by
        cases more' with
        |false=>rw[(q1 rfl).1];exact Nat.le_refl _
        |true=>exact Nat.le_of_lt (q2 rfl)
       rw[zkv]
       refine(again2 (up1 f' t true)).2 _ ⟨(by repeat' (first|assumption|exact SM_refl _ _|apply SM_put|apply SM_new|apply SM_del| ((try simp only[new_next,put_next,del_next]);omega))),by simp;omega,by simp(disch:=omega) [p3],by simp,fun v hv h=> ?_,?_⟩ (by omega)
       ·by_cases e:v=t
        ·subst e
         exact(p5 u huN c2).tail ⟨_,List.getElem_mem hi,hu,ht,c1,c3⟩
        ·rw[zeb _ _ e] at h;exact p5 v hv h
       ·by_cases e:s=t
        ·rw[e,zco]
        ·rw[zeb _ _ e];exact p6
  ·obtain⟨f',more',y'⟩:=x
   obtain⟨hR,q1,q2⟩:=hP
   dsimp only at hR q1 q2
   have p3:=hR.o4
   repeat' (first| (simp(disch:=((try simp only[new_next,put_next,del_next]);omega)) [p3,eGr];first|done| ((first|simp only[zj,zh,zi,zf,zg,zb]|simp only[ze,zc]|rw[za]);split)|skip)| ((first|simp only[zj,zh,zi,zf,zg,zb]|simp only[ze,zc]|rw[za]);split))
   have:=again (f',more',y') (by
    show 2*nof N f'+more'.toNat<2*nof N f+1
    cases more' with
    |false=>rw[(q1 rfl).1];simp
    |true=>have:=q2 rfl;simp;omega) ⟨hR,fun hm a b ha r=>by
     obtain⟨e1,e2⟩:=q1 hm
     obtain⟨e,x1,x2,x3,x4,x5⟩:=r
     obtain⟨j,hj,rfl⟩:=List.getElem_of_mem x1
     have:=e2 j hj hj (by rw[x2,Int.toNat_natCast,←e1];exact ha) x4 (by rw[x3,Int.toNat_natCast];exact x5)
     rw[x3,Int.toNat_natCast] at this
     show f' b=true
     rw[e1];exact this⟩
   simp at this
   exact this
end Go.Ideal.S
namespace Go.Ideal.S
open Go Go.Ideal Q Classical
attribute [local simp] decide_eq_true decide_eq_false z9
attribute [local simp] c_d f_d r_d_1 r_d_2 r_d_3 r_d_4 r_d_5 r_d_6 r_d_7 r_d_8 r_d_9 r_d_10 r_d_11 r_d_12 r_d_13 r_d_16 c_j f_j r_j_1 r_j_2 r_j_3 r_j_4 r_j_5 r_j_6 r_j_7 r_j_8 r_j_10
variable {M:VM} {k kp:DV→VM→Prop} {n0:Nat}
def RB (g:Gr) (inn:Nat→Bool) (w:Int) (a b:Nat):Prop:= ∃e∈g.es,e.t=(a:Int)∧e.f=(b:Int)∧e.a≠w∧inn b=true
theorem leads_ok {g:Gr} (hg:zde g) {N:Nat} (hN:g.st=N) {s:Nat} (hs:s<N) (inn:Nat→Bool) (w:Int) (hk: ∀f:Nat→Bool,(∀v,v<N→(f v=true↔Star (RB g inn w) s v))→k (.lst 1 (B1 f N)) M):zt F (.fn n_d [] []) [.agg (eGr g),I s,.lst 1 (B1 inn N),I w] M k kp:=by
 apply zt.back
 refine .fn zep rfl (by simp[f_d]) ?_
 have g2:=hg.s2
 have g5:=hg.el
 have f1:N*1≤1073741824∧N≤1073741824:=by omega
 have f2:N≤1073741824:=by omega
 have hb0:=zgw (f:=fun _=>false) hs
 repeat' (first| (simp(disch:=((try simp only[new_next,put_next,del_next]);omega)) [eGr,hN,f1,f2,B1_no,hs,hb0];first|done| ((first|simp only[zj,zh,zi,zf,zg,zb]|simp only[ze,zc]|rw[za]);split)|skip)| ((first|simp only[zj,zh,zi,zf,zg,zb]|simp only[ze,zc]|rw[za]);split))
 rw[zkv]
 refine .gen (Q:=fun y=>RcM M g N (RB g inn w) s (up1 (fun _=>false) s true) y) ⟨(by repeat' (first|assumption|exact SM_refl _ _|apply SM_put|apply SM_new|apply SM_del| ((try simp only[new_next,put_next,del_next]);omega))),by simp,by simp(disch:=((try simp only[new_next,put_next]);omega)) [eGr,hN],by simp,fun v hv h=> ?_,zco _ _ _⟩ fun y0 hy0=> ?_
 ·unfold up1 at h
  split at h
  ·subst v;exact .refl _
  ·cases h
 refine .while (σ:=(Nat→Bool)×Bool×VM) c_d_15.eq_1 (fun x=>[(10,.bool x.2.1)]) (fun x=>x.2.2) (fun x=>RcM M g N (RB g inn w) s x.1 x.2.2∧(x.2.1=false→ ∀a b,x.1 a=true→RB g inn w a b→x.1 b=true)) (fun x=>2*nof N x.1+x.2.1.toNat) (up1 (fun _=>false) s true,true,y0) (by simp) rfl ⟨hy0,fun h=>by cases h⟩ (fun x hP again=> ?_)
 obtain⟨f,more,y⟩:=x
 obtain⟨⟨h1,h2,h3,h4,h5,h6⟩,hcl⟩:=hP
 dsimp only at h1 h2 h3 h4 h5 h6 hcl
 cases more with
 |false=>
  have hcl:=hcl rfl
  have hk:=hk f fun v hv=>⟨h5 v hv,fun h=>h.keep (P:=fun v=>f v=true) (fun a b ha r=>hcl a b ha r) h6⟩
  repeat' (first| (simp(disch:=((try simp only[new_next,put_next,del_next]);omega));first|done| ((first|simp only[zj,zh,zi,zf,zg,zb]|simp only[ze,zc]|rw[za]);split)|skip)| ((first|simp only[zj,zh,zi,zf,zg,zb]|simp only[ze,zc]|rw[za]);split))
  exact Back.ms h4 (by simp) B1_row (by omega) h1 zha hk
 |true=>
  repeat' (first| (simp(disch:=((try simp only[new_next,put_next,del_next]);omega));first|done| ((first|simp only[zj,zh,zi,zf,zg,zb]|simp only[ze,zc]|rw[za]);split)|skip)| ((first|simp only[zj,zh,zi,zf,zg,zb]|simp only[ze,zc]|rw[za]);split))
  refine .for (σ:=(Nat→Bool)×Bool×VM) c_d_14.eq_1 (fun i x=>[(11,I i),(10,.bool x.2.1)]) (fun x=>x.2.2) (fun i x=>RcM M g N (RB g inn w) s x.1 x.2.2∧(x.2.1=false→x.1=f∧ ∀j (hj:j<g.es.length),j<i→f g.es[j].t.toNat=true→g.es[j].a≠w→inn g.es[j].f.toNat=true→f g.es[j].f.toNat=true)∧(x.2.1=true→nof N x.1<nof N f)) g.es.length (f,false,y) (by simp) rfl ⟨⟨h1,h2,h3,h4,h5,h6⟩,fun _=>⟨rfl,fun j hj hh=>by omega⟩,fun h=>by cases h⟩ (fun i x hi hP again2=> ?_) (fun x hP=> ?_)
  ·obtain⟨f',more',y'⟩:=x
   obtain⟨⟨p1,p2,p3,p4,p5,p6⟩,q1,q2⟩:=hP
   dsimp only at p1 p2 p3 p4 p5 p6 q1 q2
   have he:=hg.ok _ (List.getElem_mem hi)
   obtain⟨u,hu⟩:=Int.eq_ofNat_of_zero_le he.t0
   obtain⟨t,ht⟩:=Int.eq_ofNat_of_zero_le he.f0
   have huN:u<N:=by have:=he.t1;omega
   have htN:t<N:=by have:=he.f1;omega
   have b1:=zgw (f:=f') huN
   have b2:=zgw (f:=f') htN
   have b3:=zgw (f:=inn) htN
   have no: ∀y2,RcM M g N (RB g inn w) s f' y2→(more'=false→f u=true→g.es[i].a≠w→inn t=true→f t=true)→zcn F M.next [bits 2,bits 3,bits 4,bits 9,bits 10,bits 11] c_d_14 _ _ y2:=fun y2 hR hn=>again2 (f',more',y2) ⟨hR,fun hm=>⟨(q1 hm).1,fun j hj hji hf ha hin=>by
    by_cases e:j=i
    ·subst e
     rw[hu,Int.toNat_natCast] at hf
     rw[ht,Int.toNat_natCast] at hin
     rw[ht,Int.toNat_natCast]
     exact hn hm hf ha hin
    ·exact(q1 hm).2 j hj (by omega) hf ha hin⟩,q2⟩
   have box: ∀a b,RcM M g N (RB g inn w) s f' ((y'.new a).put y'.next b):=fun a b=>⟨(by repeat' (first|assumption|exact SM_refl _ _|apply SM_put|apply SM_new|apply SM_del| ((try simp only[new_next,put_next,del_next]);omega))),by simp;omega,by simp(disch:=omega) [p3],by simp(disch:=omega) [p4],p5,p6⟩
   simp at no again2
   by_cases c1:g.es[i].a=w
   ·repeat' (first| (simp(disch:=((try simp only[new_next,put_next,del_next]);omega)) [p3,eGr,hi,zbl,hu,ht,c1];first|done| ((first|simp only[zj,zh,zi,zf,zg,zb]|simp only[ze,zc]|rw[za]);split)|skip)| ((first|simp only[zj,zh,zi,zf,zg,zb]|simp only[ze,zc]|rw[za]);split))
    exact no _ (box _ _) (fun _ _ h _=>absurd c1 h)
   ·cases c2:f' u with
    |false=>
     repeat' (first| (simp(disch:=((try simp only[new_next,put_next,del_next]);omega)) [p3,eGr,hi,zbl,hu,ht,c1,p4,b1,b2,huN,htN,c2];first|done| ((first|simp only[zj,zh,zi,zf,zg,zb]|simp only[ze,zc]|rw[za]);split)|skip)| ((first|simp only[zj,zh,zi,zf,zg,zb]|simp only[ze,zc]|rw[za]);split))
     exact no _ (box _ _) (fun hm hf _ _=>by rw[←(q1 hm).1,c2] at hf;cases hf)
    |true=>cases c3:inn t with
     |false=>
      repeat' (first| (simp(disch:=((try simp only[new_next,put_next,del_next]);omega)) [p3,eGr,hi,zbl,hu,ht,c1,p4,b1,b2,b3,huN,htN,c2,c3];first|done| ((first|simp only[zj,zh,zi,zf,zg,zb]|simp only[ze,zc]|rw[za]);split)|skip)| ((first|simp only[zj,zh,zi,zf,zg,zb]|simp only[ze,zc]|rw[za]);split))
      exact no _ (box _ _) (fun _ _ _ h=>by rw[c3] at h;cases h)
     |true=>cases c4:f' t with
      |true=>
       repeat' (first| (simp(disch:=((try simp only[new_next,put_next,del_next]);omega)) [p3,eGr,hi,zbl,hu,ht,c1,p4,b1,b2,b3,huN,htN,c2,c3,c4];first|done| ((first|simp only[zj,zh,zi,zf,zg,zb]|simp only[ze,zc]|rw[za]);split)|skip)| ((first|simp only[zj,zh,zi,zf,zg,zb]|simp only[ze,zc]|rw[za]);split))
       exact no _ (box _ _) (fun hm _ _ _=>by rw[←(q1 hm).1];exact c4)
      |false=>
       repeat' (first| (simp(disch:=((try simp only[new_next,put_next,del_next]);omega)) [p3,eGr,hi,zbl,hu,ht,c1,p4,b1,b2,b3,huN,htN,c2,c3,c4];first|done| ((first|simp only[zj,zh,zi,zf,zg,zb]|simp only[ze,zc]|rw[za]);split)|skip)| ((first|simp only[zj,zh,zi,zf,zg,zb]|simp only[ze,zc]|rw[za]);split))
       have hlt:=nof_lt htN c4
       have hle:nof N f'≤nof N f:=by
        cases more' with
        |false=>rw[(q1 rfl).1];exact Nat.le_refl _
        |true=>exact Nat.le_of_lt (q2 rfl)
       rw[zkv]
       refine(again2 (up1 f' t true)).2 _ ⟨(by repeat' (first|assumption|exact SM_refl _ _|apply SM_put|apply SM_new|apply SM_del| ((try simp only[new_next,put_next,del_next]);omega))),by simp;omega,by simp(disch:=omega) [p3],by simp,fun v hv h=> ?_,?_⟩ (by omega)
       ·by_cases e:v=t
        ·subst e
         exact(p5 u huN c2).tail ⟨_,List.getElem_mem hi,hu,ht,c1,c3⟩
        ·rw[zeb _ _ e] at h;exact p5 v hv h
       ·by_cases e:s=t
        ·rw[e,zco]
        ·rw[zeb _ _ e];exact p6
  ·obtain⟨f',more',y'⟩:=x
   obtain⟨hR,q1,q2⟩:=hP
   dsimp only at hR q1 q2
   have p3:=hR.o4
   repeat' (first| (simp(disch:=((try simp only[new_next,put_next,del_next]);omega)) [p3,eGr];first|done| ((first|simp only[zj,zh,zi,zf,zg,zb]|simp only[ze,zc]|rw[za]);split)|skip)| ((first|simp only[zj,zh,zi,zf,zg,zb]|simp only[ze,zc]|rw[za]);split))
   have:=again (f',more',y') (by
    show 2*nof N f'+more'.toNat<2*nof N f+1
    cases more' with
    |false=>rw[(q1 rfl).1];simp
    |true=>have:=q2 rfl;simp;omega) ⟨hR,fun hm a b ha r=>by
     obtain⟨e1,e2⟩:=q1 hm
     obtain⟨e,x1,x2,x3,x4,x5⟩:=r
     obtain⟨j,hj,rfl⟩:=List.getElem_of_mem x1
     have:=e2 j hj hj (by rw[x2,Int.toNat_natCast,←e1];exact ha) x4 (by rw[x3,Int.toNat_natCast];exact x5)
     rw[x3,Int.toNat_natCast] at this
     show f' b=true
     rw[e1];exact this⟩
   simp at this
   exact this
theorem part_ok {g:Gr} (hg:zde g) {N:Nat} (hN:g.st=N) {s:Nat} (hs:s<N) (inn:Nat→Bool) (w:Int) (hk: ∀f:Nat→Bool,(∀v,v<N→(f v=true↔Star (RF g inn w) s v∧Star (RB g inn w) s v))→k (.lst 1 (B1 f N)) M):zt F (.fn n_j [] []) [.agg (eGr g),I s,.lst 1 (B1 inn N),I w] M k kp:=by
 apply zt.back
 refine .fn zeN rfl (by simp[f_j]) ?_
 have g2:=hg.s2
 have f1:N*1≤1073741824∧N≤1073741824:=by omega
 have f2:N≤1073741824:=by omega
 repeat' (first| (simp(disch:=((try simp only[new_next,put_next,del_next]);omega));first|done| ((first|simp only[zj,zh,zi,zf,zg,zb]|simp only[ze,zc]|rw[za]);split)|skip)| ((first|simp only[zj,zh,zi,zf,zg,zb]|simp only[ze,zc]|rw[za]);split))
 refine reach_ok hg hN hs inn w fun f hf=> ?_
 repeat' (first| (simp(disch:=((try simp only[new_next,put_next,del_next]);omega));first|done| ((first|simp only[zj,zh,zi,zf,zg,zb]|simp only[ze,zc]|rw[za]);split)|skip)| ((first|simp only[zj,zh,zi,zf,zg,zb]|simp only[ze,zc]|rw[za]);split))
 refine leads_ok hg hN hs inn w fun h hh=> ?_
 repeat' (first| (simp(disch:=((try simp only[new_next,put_next,del_next]);omega)) [eGr,hN,f1,f2,B1_no];first|done| ((first|simp only[zj,zh,zi,zf,zg,zb]|simp only[ze,zc]|rw[za]);split)|skip)| ((first|simp only[zj,zh,zi,zf,zg,zb]|simp only[ze,zc]|rw[za]);split))
 refine .for (σ:=VM) c_j_9.eq_1 (fun i _=>[(12,I i)]) (fun y=>y) (fun i y=>SM M.next M y∧M.next+2≤y.next∧y.obj M.next=some (.rows false 3 [eGr g])∧y.obj (M.next+1)=some (.rows false 1 (B1 (fun v=>decide (v<i)&&(f v&&h v)) N))) N _ (by simp) rfl ⟨(by repeat' (first|assumption|exact SM_refl _ _|apply SM_put|apply SM_new|apply SM_del| ((try simp only[new_next,put_next,del_next]);omega))),by simp,by simp(disch:=((try simp only[new_next,put_next]);omega)) [eGr,hN],by simp⟩ (fun i y hi hP again=> ?_) (fun y hP=> ?_)
 ·obtain⟨h1,h2,h3,h4⟩:=hP
  have hB:=zgw (f:=fun v=>decide (v<i)&&(f v&&h v)) hi
  have hB1:=zgw (f:=f) hi
  have hB2:=zgw (f:=h) hi
  have he:B1 (up1 (fun v=>decide (v<i)&&(f v&&h v)) i (f i&&h i)) N=B1 (fun v=>decide (v<i+1)&&(f v&&h v)) N:=B1_ext fun v _=>by
   unfold up1
   by_cases e:v=i
   ·subst e;simp
   ·have:(v<i+1)=(v<i):=by simp;omega
    simp[e,this]
  have hst:=zkv (f:=fun v=>decide (v<i)&&(f v&&h v)) (N:=N) (n:=i) (x:=f i&&h i)
  simp at again
  cases c1:f i<;>cases c2:h i<;>repeat' (first| (simp(disch:=((try simp only[new_next,put_next,del_next]);omega)) [h3,h4,hi,hN,eGr,hB,hB1,hB2,c1,c2];first|done| ((first|simp only[zj,zh,zi,zf,zg,zb]|simp only[ze,zc]|rw[za]);split)|skip)| ((first|simp only[zj,zh,zi,zf,zg,zb]|simp only[ze,zc]|rw[za]);split))
  all_goals
   rw[c1,c2] at hst he
   exact again _ (by repeat' (first|assumption|exact SM_refl _ _|apply SM_put|apply SM_new|apply SM_del| ((try simp only[new_next,put_next,del_next]);omega))) (by simp;omega) (by simp(disch:=omega) [h3]) (by simp only[obj_put_eq];rw[←he,←hst];rfl)
 ·obtain⟨h1,h2,h3,h4⟩:=hP
  repeat' (first| (simp(disch:=((try simp only[new_next,put_next,del_next]);omega)) [h3,h4,hN,eGr];first|done| ((first|simp only[zj,zh,zi,zf,zg,zb]|simp only[ze,zc]|rw[za]);split)|skip)| ((first|simp only[zj,zh,zi,zf,zg,zb]|simp only[ze,zc]|rw[za]);split))
  refine Back.ms h4 (by simp) B1_row (by omega) h1 zha ?_
  rw[B1_ext (h:=fun v=>f v&&h v) fun v hv=>by simp[hv]]
  exact hk _ fun v hv=>by rw[Bool.and_eq_true,hf v hv,hh v hv]
end Go.Ideal.S
namespace Go.Ideal.S
open Classical
end Go.Ideal.S
namespace Go.Ideal.S
open Go Go.Ideal Q Classical
attribute [local simp] decide_eq_true decide_eq_false z9
attribute [local simp] c_g f_g r_g_1 r_g_2 r_g_3 r_g_4 r_g_5 r_g_6 r_g_7 r_g_8 r_g_10 c_i f_i r_i_1 r_i_2 r_i_3 r_i_4 r_i_5 r_i_6 r_i_7 r_i_8 r_i_9 r_i_10 r_i_11 r_i_12 r_i_13 r_i_14 r_i_15 r_i_17
variable {M:VM} {k kp:DV→VM→Prop} {n0:Nat}
theorem sameNil_ok (hk:k (.bool true) M):zt F (.fn n_g [] []) [.nilS,.nilS] M k kp:=by
 apply zt.back
 refine .fn zbR rfl (by simp[f_g]) ?_
 repeat' (first| (simp(disch:=((try simp only[new_next,put_next,del_next]);omega));first|done| ((first|simp only[zj,zh,zi,zf,zg,zb]|simp only[ze,zc]|rw[za]);split)|skip)| ((first|simp only[zj,zh,zi,zf,zg,zb]|simp only[ze,zc]|rw[za]);split))
 refine .go c_g_9.eq_1 ?_
 repeat' (first| (simp(disch:=((try simp only[new_next,put_next,del_next]);omega));first|done| ((first|simp only[zj,zh,zi,zf,zg,zb]|simp only[ze,zc]|rw[za]);split)|skip)| ((first|simp only[zj,zh,zi,zf,zg,zb]|simp only[ze,zc]|rw[za]);split))
 exact Back.plain (by simp) (by repeat' (first|assumption|exact SM_refl _ _|apply SM_put|apply SM_new|apply SM_del| ((try simp only[new_next,put_next,del_next]);omega))) hk
theorem same_ok (f:Nat→Int) (N:Nat) (hN:N≤1000) (hk:k (.bool true) M):zt F (.fn n_g [] []) [.lst 1 (R1 f N),.lst 1 (R1 f N)] M k kp:=by
 apply zt.back
 refine .fn zbR rfl (by simp[f_g]) ?_
 repeat' (first| (simp(disch:=((try simp only[new_next,put_next,del_next]);omega));first|done| ((first|simp only[zj,zh,zi,zf,zg,zb]|simp only[ze,zc]|rw[za]);split)|skip)| ((first|simp only[zj,zh,zi,zf,zg,zb]|simp only[ze,zc]|rw[za]);split))
 refine .for (σ:=Unit) c_g_9.eq_1 (fun i _=>[(5,I i)]) (fun _=>M) (fun i _=>True) N () (by simp) rfl trivial (fun i y hi hP again=> ?_) (fun y hP=> ?_)
 ·have h1:=R1_at (f:=f) hi
  have again:=again () trivial
  simp at again
  repeat' (first| (simp(disch:=((try simp only[new_next,put_next,del_next]);omega)) [hi,h1];first|done| ((first|simp only[zj,zh,zi,zf,zg,zb]|simp only[ze,zc]|rw[za]);split)|skip)| ((first|simp only[zj,zh,zi,zf,zg,zb]|simp only[ze,zc]|rw[za]);split))
  exact again
 ·repeat' (first| (simp(disch:=((try simp only[new_next,put_next,del_next]);omega));first|done| ((first|simp only[zj,zh,zi,zf,zg,zb]|simp only[ze,zc]|rw[za]);split)|skip)| ((first|simp only[zj,zh,zi,zf,zg,zb]|simp only[ze,zc]|rw[za]);split))
  exact Back.plain (by simp) (by repeat' (first|assumption|exact SM_refl _ _|apply SM_put|apply SM_new|apply SM_del| ((try simp only[new_next,put_next,del_next]);omega))) hk
end Go.Ideal.S
namespace Go.Ideal.S
open Go Go.Ideal Q Classical
theorem RIn_iff {g:Gr} (hg:zde g) (mi:Nat) (w:Int) (a b:Nat):RIn g mi w a b↔RF g (fun v=>mi.testBit v) w a b:=by
 constructor
 ·rintro⟨i,hi,he⟩
  rw[edOf_at hi] at he
  split at he
  ·rename_i hc
   have h:=hg.ok _ (List.getElem_mem hi)
   rw[Option.some.injEq,Prod.mk.injEq] at he
   have h0:=h.f0;have h1:=h.t0
   refine⟨g.es[i],List.getElem_mem hi,by rw[←he.1];omega,by rw[←he.2];omega,hc.1,?_⟩
   show mi.testBit b=true
   rw[←he.2];exact hc.2
  ·cases he
 ·rintro⟨e,h1,h2,h3,h4,h5⟩
  obtain⟨i,hi,rfl⟩:=List.getElem_of_mem h1
  refine⟨i,hi,?_⟩
  rw[edOf_at hi,h2,h3,Int.toNat_natCast,Int.toNat_natCast,if_pos ⟨h4,h5⟩]
theorem Star.imp {α:Type} {R S:α→α→Prop} (h: ∀a b,R a b→S a b) {a b:α} (x:Star R a b):Star S a b:=by
 induction x with
 |refl=>exact .refl _
 |tail _ r ih=>exact ih.tail (h _ _ r)
theorem Star.flip {α:Type} {R S:α→α→Prop} (h: ∀a b,R a b→S b a) {a b:α} (x:Star R a b):Star S b a:=by
 induction x with
 |refl=>exact .refl _
 |tail _ r ih=>exact(Star.one (h _ _ r)).trans ih
theorem RB_RF {g:Gr} (w:Int) (a b:Nat):RB g (fun _=>true) w a b↔RF g (fun _=>true) w b a:=by
 constructor
 ·rintro⟨e,h1,h2,h3,h4,h5⟩;exact⟨e,h1,h3,h2,h4,rfl⟩
 ·rintro⟨e,h1,h2,h3,h4,h5⟩;exact⟨e,h1,h3,h2,h4,rfl⟩
theorem RF_low {g:Gr} (hg:zde g) {N:Nat} (hN:g.st=N) (w:Int) (a b:Nat):RF g (fun v=>(lowB N).testBit v) w a b↔RF g (fun _=>true) w a b:=by
 constructor
 ·rintro⟨e,h1,h2,h3,h4,h5⟩;exact⟨e,h1,h2,h3,h4,rfl⟩
 ·rintro⟨e,h1,h2,h3,h4,h5⟩
  refine⟨e,h1,h2,h3,h4,?_⟩
  have:=(hg.ok e h1).t1
  show(lowB N).testBit b=true
  rw[lowB_bit];simp;omega
def Mut (g:Gr) (a b:Nat):Prop:=Star (RF g (fun _=>true) (-1)) a b∧Star (RF g (fun _=>true) (-1)) b a
theorem mut_in {g:Gr} (hg:zde g) {N:Nat} (hN:g.st=N) (a b:Nat):(Star (RIn g (lowB N) (-1)) a b∧Star (RIn g (lowB N) (-1)) b a)↔Mut g a b:=by
 have h1: ∀a b,RIn g (lowB N) (-1) a b↔RF g (fun _=>true) (-1) a b:=fun a b=>(RIn_iff hg _ _ a b).trans (RF_low hg hN _ a b)
 exact⟨fun h=>⟨h.1.imp fun a b=>(h1 a b).1,h.2.imp fun a b=>(h1 a b).1⟩,fun h=>⟨h.1.imp fun a b=>(h1 a b).2,h.2.imp fun a b=>(h1 a b).2⟩⟩
theorem mut_ref {g:Gr} (a b:Nat):(Star (RF g (fun _=>true) (-1)) a b∧Star (RB g (fun _=>true) (-1)) a b)↔Mut g a b:=
 ⟨fun h=>⟨h.1,h.2.flip fun a b r=>(RB_RF _ a b).1 r⟩,fun h=>⟨h.1,h.2.flip fun a b r=>(RB_RF _ b a).2 r⟩⟩
end Go.Ideal.S
namespace Go.Ideal.S
open Classical
section
variable (R:Nat→Nat→Prop)
def zgh (v:Nat):Prop:= ∀j,j<v→ ¬R j v
noncomputable def numF (i:Nat):Nat:=(List.range i).countP fun j=>decide (zgh R j)
theorem zhZ (i:Nat):numF R (i+1)=numF R i+if zgh R i then 1 else 0:=by
 unfold numF
 rw[List.range_succ,List.countP_append,List.countP_singleton]
 congr 1
 simp only[decide_eq_true_eq]
theorem least {P:Nat→Prop}: ∀n,P n→ ∃m,m≤n∧P m∧ ∀j,j<m→ ¬P j:=by
 intro n
 induction n using Nat.strongRecOn with
 |_ n ih=>
  intro h
  by_cases c: ∃j,j<n∧P j
  ·obtain⟨j,hj,hp⟩:=c
   obtain⟨m,h1,h2,h3⟩:=ih j hj hp
   exact⟨m,by omega,h2,h3⟩
  ·exact⟨n,Nat.le_refl _,h,fun j hj hp=>c ⟨j,hj,hp⟩⟩
noncomputable def clsN (v:Nat):Int:=if h: ∃m,R m v∧ ∀j,j<m→ ¬R j v then(numF R h.choose:Int) else -1
end
section
variable {R:Nat→Nat→Prop} (hr: ∀a,R a a) (hs: ∀a b,R a b→R b a) (ht: ∀a b c,R a b→R b c→R a c)
include hr hs ht
theorem clsN_at {m v:Nat} (h1:R m v) (h2: ∀j,j<m→ ¬R j v):clsN R v=numF R m:=by
 have hex: ∃m,R m v∧ ∀j,j<m→ ¬R j v:=⟨m,h1,h2⟩
 unfold clsN
 rw[dif_pos hex]
 obtain⟨g1,g2⟩:=hex.choose_spec
 have:hex.choose=m:=by
  rcases Nat.lt_trichotomy hex.choose m with h|h|h
  ·exact absurd g1 (h2 _ h)
  ·exact h
  ·exact absurd h1 (g2 _ h)
 rw[this]
theorem rep_ex (v:Nat): ∃m,m≤v∧R m v∧(∀j,j<m→ ¬R j v)∧zgh R m∧clsN R v=numF R m:=by
 obtain⟨m,h1,h2,h3⟩:=least (P:=fun j=>R j v) v (hr v)
 exact⟨m,h1,h2,h3,fun j hj x=>h3 j hj (ht _ _ _ x h2),clsN_at hr hs ht h2 h3⟩
theorem numF_lt {a b:Nat} (h:a<b) (ha:zgh R a):numF R a<numF R b:=by
 induction b with
 |zero=>omega
 |succ b ih=>
  rw[zhZ]
  by_cases e:a=b
  ·subst e;rw[if_pos ha];omega
  ·have:=ih (by omega);split<;>omega
theorem clsN_eq (a b:Nat):clsN R a=clsN R b↔R a b:=by
 obtain⟨m,_,h2,h3,h4,h5⟩:=rep_ex hr hs ht a
 obtain⟨n,_,g2,g3,g4,g5⟩:=rep_ex hr hs ht b
 rw[h5,g5]
 constructor
 ·intro e
  have:m=n:=by
   rcases Nat.lt_trichotomy m n with h|h|h
   ·have:=numF_lt hr hs ht h h4;omega
   ·exact h
   ·have:=numF_lt hr hs ht h g4;omega
  subst this
  exact ht _ _ _ (hs _ _ h2) g2
 ·intro e
  have:m=n:=by
   rcases Nat.lt_trichotomy m n with h|h|h
   ·exact absurd (ht _ _ _ h2 e) (g3 _ h)
   ·exact h
   ·exact absurd (ht _ _ _ g2 (hs _ _ e)) (h3 _ h)
  rw[this]
theorem clsN_new {i v:Nat} (hi:zgh R i) (h:R i v):clsN R v=numF R i:=clsN_at hr hs ht h fun j hj x=>hi j hj (ht _ _ _ x (hs _ _ h))
end
end Go.Ideal.S
namespace Go.Ideal.S
open Go Go.Ideal Q Classical
attribute [local simp] decide_eq_true decide_eq_false z9
attribute [local simp] c_b f_b r_b_1 r_b_2 r_b_3 r_b_4 r_b_5 r_b_6 r_b_7 r_b_8 r_b_10 r_b_11 r_b_12 r_b_13 r_b_14 r_b_15 r_b_16 r_b_17 r_b_18 r_b_19 r_b_21 r_b_22 r_b_24
variable {M:VM} {k kp:DV→VM→Prop} {n0:Nat}
theorem ze0 {f h:Nat→Int} {N:Nat} (e: ∀v,v<N→f v=h v):R1 f N=R1 h N:=by
 unfold R1
 apply List.map_congr_left
 intro v hv
 rw[e v (List.mem_range.1 hv)]
theorem R1_no (N:Nat):List.replicate N [I 0]=R1 (fun _=>0) N:=by unfold R1;rw[List.map_const',List.length_range]
theorem R1_row {f:Nat→Int} {N:Nat}: ∀r∈R1 f N,r.length=1:=by simp[R1]
theorem R1_below {f:Nat→Int} {N n:Nat}: ∀r∈R1 f N,∀x∈r,zG n x:=by
 intro r hr x hx
 simp only[R1,List.mem_map] at hr
 obtain⟨v,_,rfl⟩:=hr
 obtain rfl:=List.mem_singleton.1 hx
 simp
theorem Back.ms2 {M M2:VM} {j n cap s:Nat} {op:Bool} {rs:List (List DV)} {e:DV} (ho:M2.obj j=some (.rows op s rs)) (hn:n=rs.length) (hr: ∀r∈rs,r.length=s) (hj:M.next≤j) (hs:SM M.next M M2) (hb: ∀r∈rs,∀x∈r,zG M.next x) (he:zG M.next e) (hk:k (.tup [.lst s rs,e]) M):Back k M (.tup [.ms j 0 n cap,e]) M2:=fun hw=>
 ⟨.tup [.lst s rs,e],.tup rfl fun i d d' h1 h2=>by
   match i with
   |0=>cases h1;cases h2;exact .ms0 ho (hw j hj) hn hr
   |1=>cases h1;cases h2;exact .refl _
   |i+2=>simp at h1,.tup fun d hd=>by
   simp only[List.mem_cons,List.not_mem_nil,or_false] at hd
   rcases hd with rfl|rfl
   ·exact .lst hb
   ·exact he,fun i hi=>hs i hi,hk⟩
noncomputable def fI (g:Gr) (i:Nat):Nat→Int:=fun v=>if∃j,j<i∧Mut g j v then clsN (Mut g) v else -1
theorem rParts_ok {g:Gr} (hl:g.es.length≤1000000) (hg:zde g) {N:Nat} (hN:g.st=N) (hk:k (.tup [.lst 1 (R1 (clsN (Mut g)) N),I 0]) M):zt F (.fn n_b [] []) [.agg (eGr g)] M k kp:=by
 apply zt.back
 refine .fn zce rfl (by simp[f_b]) ?_
 have g2:=hg.s2
 have f1:N*8≤1073741824∧N≤1073741824:=by omega
 repeat' (first| (simp(disch:=((try simp only[new_next,put_next,del_next]);omega));first|done| ((first|simp only[zj,zh,zi,zf,zg,zb]|simp only[ze,zc]|rw[za]);split)|skip)| ((first|simp only[zj,zh,zi,zf,zg,zb]|simp only[ze,zc]|rw[za]);split))
 refine good_ok g fun b hb=> ?_
 obtain rfl:b=true:=hb.2 hg
 repeat' (first| (simp(disch:=((try simp only[new_next,put_next,del_next]);omega)) [hg,eGr,hN,f1];first|done| ((first|simp only[zj,zh,zi,zf,zg,zb]|simp only[ze,zc]|rw[za]);split)|skip)| ((first|simp only[zj,zh,zi,zf,zg,zb]|simp only[ze,zc]|rw[za]);split))
 rw[R1_no]
 refine .for (σ:=VM) c_b_9.eq_1 (fun i _=>[(5,I i)]) (fun y=>y) (fun i y=>SM M.next M y∧M.next+2≤y.next∧y.obj M.next=some (.rows false 3 [eGr g])∧y.obj (M.next+1)=some (.rows false 1 (R1 (fun v=>if v<i then -1 else 0) N))) N _ (by simp) rfl ⟨(by repeat' (first|assumption|exact SM_refl _ _|apply SM_put|apply SM_new|apply SM_del| ((try simp only[new_next,put_next,del_next]);omega))),by simp,by simp(disch:=((try simp only[new_next,put_next]);omega)) [eGr,hN],by simp⟩ (fun i y hi hP again=> ?_) (fun y hP=> ?_)
 ·obtain⟨h1,h2,h3,h4⟩:=hP
  have hB:=R1_at (f:=fun v=>if v<i then(-1:Int) else 0) hi
  have he:R1 (up1 (fun v=>if v<i then(-1:Int) else 0) i (-1)) N=R1 (fun v=>if v<i+1 then -1 else 0) N:=ze0 fun v _=>by
   unfold up1
   by_cases e:v=i
   ·subst e;simp
   ·have:(v<i+1)=(v<i):=by simp;omega
    simp[e,this]
  simp at again
  repeat' (first| (simp(disch:=((try simp only[new_next,put_next,del_next]);omega)) [h3,h4,hi,hN,eGr,hB];first|done| ((first|simp only[zj,zh,zi,zf,zg,zb]|simp only[ze,zc]|rw[za]);split)|skip)| ((first|simp only[zj,zh,zi,zf,zg,zb]|simp only[ze,zc]|rw[za]);split))
  refine again _ (by repeat' (first|assumption|exact SM_refl _ _|apply SM_put|apply SM_new|apply SM_del| ((try simp only[new_next,put_next,del_next]);omega))) (by simp;omega) (by simp(disch:=omega) [h3]) (by simp only[obj_put_eq];rw[←he,←zku])
 ·obtain⟨h1,h2,h3,h4⟩:=hP
  repeat' (first| (simp(disch:=((try simp only[new_next,put_next,del_next]);omega)) [h3,h4,hN,eGr];first|done| ((first|simp only[zj,zh,zi,zf,zg,zb]|simp only[ze,zc]|rw[za]);split)|skip)| ((first|simp only[zj,zh,zi,zf,zg,zb]|simp only[ze,zc]|rw[za]);split))
  have hr: ∀a,Mut g a a:=fun a=>⟨.refl _,.refl _⟩
  have hs: ∀a b,Mut g a b→Mut g b a:=fun a b h=>⟨h.2,h.1⟩
  have ht: ∀a b c,Mut g a b→Mut g b c→Mut g a c:=fun a b c h h'=>⟨h.1.trans h'.1,h'.2.trans h.2⟩
  have hz:numF (Mut g) 0=0:=rfl
  have e0:R1 (fun v=>if v<N then(-1:Int) else 0) N=R1 (fI g 0) N:=ze0 fun v hv=>by simp[hv,fI]
  rw[e0] at h4
  refine .for (σ:=VM) c_b_23.eq_1 (fun i _=>[(6,I (numF (Mut g) i)),(7,I i)]) (fun y=>y) (fun i y=>SM M.next M y∧M.next+2≤y.next∧y.obj M.next=some (.rows false 3 [eGr g])∧y.obj (M.next+1)=some (.rows false 1 (R1 (fI g i) N))) N _ (by simp[hz]) rfl ⟨h1,h2,h3,h4⟩ (fun i y hi hP again=> ?_) (fun y hP=> ?_)
  ·clear h1 h2 h3 h4 e0
   obtain⟨h1,h2,h3,h4⟩:=hP
   have hB:=R1_at (f:=fI g i) hi
   by_cases c: ∃j,j<i∧Mut g j i
   ·obtain⟨j,hj,hm⟩:=c
    have hv:fI g i i=clsN (Mut g) i:=if_pos ⟨j,hj,hm⟩
    obtain⟨m,_,_,_,_,hc⟩:=rep_ex hr hs ht i
    have h0:(0:Int)≤clsN (Mut g) i:=by rw[hc];omega
    have hnf: ¬zgh (Mut g) i:=fun h=>h j hj hm
    have hn:numF (Mut g) (i+1)=numF (Mut g) i:=by rw[zhZ,if_neg hnf];rfl
    have he:R1 (fI g (i+1)) N=R1 (fI g i) N:=ze0 fun v _=>by
     unfold fI
     have:(∃j,j<i+1∧Mut g j v)↔ ∃j,j<i∧Mut g j v:=⟨fun⟨a,b,d⟩=>by
      by_cases e:a=i
      ·subst e;exact⟨j,hj,ht _ _ _ hm d⟩
      ·exact⟨a,by omega,d⟩,fun⟨a,b,d⟩=>⟨a,by omega,d⟩⟩
     simp only[this]
    rw[hv] at hB
    rw[he,hn] at again
    simp at again
    repeat' (first| (simp(disch:=((try simp only[new_next,put_next,del_next]);omega)) [h3,h4,hi,hN,eGr,hB,h0];first|done| ((first|simp only[zj,zh,zi,zf,zg,zb]|simp only[ze,zc]|rw[za]);split)|skip)| ((first|simp only[zj,zh,zi,zf,zg,zb]|simp only[ze,zc]|rw[za]);split))
    exact again _ h1 h2 h3 h4
   ·have hv:fI g i i= -1:=if_neg c
    rw[hv] at hB
    have hf:zgh (Mut g) i:=fun j hj hm=>c ⟨j,hj,hm⟩
    have hn:numF (Mut g) (i+1)=numF (Mut g) i+1:=by rw[zhZ,if_pos hf]
    have hle:numF (Mut g) i≤i:=by unfold numF;have:=List.countP_le_length (p:=fun j=>decide (zgh (Mut g) j)) (l:=List.range i);rw[List.length_range] at this;exact this
    repeat' (first| (simp(disch:=((try simp only[new_next,put_next,del_next]);omega)) [h3,h4,hi,hN,eGr,hB];first|done| ((first|simp only[zj,zh,zi,zf,zg,zb]|simp only[ze,zc]|rw[za]);split)|skip)| ((first|simp only[zj,zh,zi,zf,zg,zb]|simp only[ze,zc]|rw[za]);split))
    have eg:([I (N:Int),I g.ac,.lst 3 (g.es.map zbl)]:List DV)=eGr g:=by simp[eGr,hN]
    rw[eg]
    refine rall_ok hN (by omega) ?_
    repeat' (first| (simp(disch:=((try simp only[new_next,put_next,del_next]);omega)) [h3];first|done| ((first|simp only[zj,zh,zi,zf,zg,zb]|simp only[ze,zc]|rw[za]);split)|skip)| ((first|simp only[zj,zh,zi,zf,zg,zb]|simp only[ze,zc]|rw[za]);split))
    refine⟨by intro x hx;simp[eGr] at hx;rcases hx with rfl|rfl|rfl<;>rfl,?_⟩
    refine part_ok hg hN hi (fun _=>true) (-1) fun f hfm=> ?_
    have hff: ∀v,v<N→(f v=true↔Mut g i v):=fun v hv=>(hfm v hv).trans (mut_ref i v)
    have hgi: ∀v,fI g i v=if∃j,j<i∧Mut g j v then clsN (Mut g) v else -1:=fun v=>rfl
    repeat' (first| (simp(disch:=((try simp only[new_next,put_next,del_next]);omega));first|done| ((first|simp only[zj,zh,zi,zf,zg,zb]|simp only[ze,zc]|rw[za]);split)|skip)| ((first|simp only[zj,zh,zi,zf,zg,zb]|simp only[ze,zc]|rw[za]);split))
    have e2:R1 (fI g i) N=R1 (fun v=>if v<0∧f v=true then(numF (Mut g) i:Int) else fI g i v) N:=ze0 fun v _=>by simp
    rw[e2] at h4
    refine .for (σ:=VM) c_b_20.eq_1 (fun kk _=>[(9,I kk)]) (fun y=>y) (fun kk y=>SM M.next M y∧M.next+2≤y.next∧y.obj M.next=some (.rows false 3 [eGr g])∧y.obj (M.next+1)=some (.rows false 1 (R1 (fun v=>if v<kk∧f v=true then(numF (Mut g) i:Int) else fI g i v) N))) N _ (by simp) rfl ⟨h1,h2,h3,h4⟩ (fun kk y hi2 hP again2=> ?_) (fun y hP=> ?_)
    ·obtain⟨h1,h2,h3,h4⟩:=hP
     have hB1:=zgw (f:=f) hi2
     have hB2:=R1_at (f:=fun v=>if v<kk∧f v=true then(numF (Mut g) i:Int) else fI g i v) hi2
     have hcong: ∀x,(x=if kk<kk+1∧f kk=true then(numF (Mut g) i:Int) else fI g i kk)→R1 (up1 (fun v=>if v<kk∧f v=true then(numF (Mut g) i:Int) else fI g i v) kk x) N=R1 (fun v=>if v<kk+1∧f v=true then(numF (Mut g) i:Int) else fI g i v) N:=fun x hx=>ze0 fun v _=>by
      unfold up1
      by_cases e:v=kk
      ·subst e;simp[hx]
      ·have:(v<kk+1)↔(v<kk):=by omega
       simp only[e,this,if_false]
     cases c2:f kk with
     |true=>
      have hc:=hcong (numF (Mut g) i) (by simp[c2])
      simp at again2
      repeat' (first| (simp(disch:=((try simp only[new_next,put_next,del_next]);omega)) [h3,h4,hi2,hN,eGr,hB1,hB2,c2];first|done| ((first|simp only[zj,zh,zi,zf,zg,zb]|simp only[ze,zc]|rw[za]);split)|skip)| ((first|simp only[zj,zh,zi,zf,zg,zb]|simp only[ze,zc]|rw[za]);split))
      refine again2 _ (by repeat' (first|assumption|exact SM_refl _ _|apply SM_put|apply SM_new|apply SM_del| ((try simp only[new_next,put_next,del_next]);omega))) (by simp;omega) (by simp(disch:=omega) [h3]) (by simp only[obj_put_eq];rw[←hc,←zku])
     |false=>
      have hc:R1 (fun v=>if v<kk+1∧f v=true then(numF (Mut g) i:Int) else fI g i v) N=R1 (fun v=>if v<kk∧f v=true then(numF (Mut g) i:Int) else fI g i v) N:=ze0 fun v _=>by
       by_cases e:v=kk
       ·subst e;simp[c2]
       ·have:(v<kk+1)↔(v<kk):=by omega
        simp only[this]
      rw[hc] at again2
      simp at again2
      repeat' (first| (simp(disch:=((try simp only[new_next,put_next,del_next]);omega)) [h3,h4,hi2,hN,eGr,hB1,c2];first|done| ((first|simp only[zj,zh,zi,zf,zg,zb]|simp only[ze,zc]|rw[za]);split)|skip)| ((first|simp only[zj,zh,zi,zf,zg,zb]|simp only[ze,zc]|rw[za]);split))
      exact again2 _ h1 h2 h3 h4
    ·obtain⟨h1,h2,h3,h4⟩:=hP
     have hfin:R1 (fun v=>if v<N∧f v=true then(numF (Mut g) i:Int) else fI g i v) N=R1 (fI g (i+1)) N:=ze0 fun v hv=>by
      have hx:(∃j,j<i+1∧Mut g j v)↔(∃j,j<i∧Mut g j v)∨Mut g i v:=⟨fun⟨a,b,d⟩=>by
       by_cases e:a=i
       ·subst e;exact .inr d
       ·exact .inl ⟨a,by omega,d⟩,fun x=>x.elim (fun⟨a,b,d⟩=>⟨a,by omega,d⟩) fun d=>⟨i,by omega,d⟩⟩
      show _=if∃j,j<i+1∧Mut g j v then clsN (Mut g) v else -1
      simp only[hv,true_and,hx]
      by_cases hm:Mut g i v
      ·rw[if_pos ((hff v hv).2 hm),if_pos (.inr hm),clsN_new hr hs ht hf hm]
      ·rw[if_neg (fun x=>hm ((hff v hv).1 x))]
       simp only[hm,or_false];rfl
     rw[hfin] at h4
     rw[hn] at again
     simp at again
     repeat' (first| (simp(disch:=((try simp only[new_next,put_next,del_next]);omega)) [h3,hN,eGr];first|done| ((first|simp only[zj,zh,zi,zf,zg,zb]|simp only[ze,zc]|rw[za]);split)|skip)| ((first|simp only[zj,zh,zi,zf,zg,zb]|simp only[ze,zc]|rw[za]);split))
     exact again _ h1 h2 h3 h4
  ·obtain⟨h1,h2,h3,h4⟩:=hP
   repeat' (first| (simp(disch:=((try simp only[new_next,put_next,del_next]);omega)) [h3,h4,hN,eGr];first|done| ((first|simp only[zj,zh,zi,zf,zg,zb]|simp only[ze,zc]|rw[za]);split)|skip)| ((first|simp only[zj,zh,zi,zf,zg,zb]|simp only[ze,zc]|rw[za]);split))
   refine Back.ms2 h4 (by simp) R1_row (by omega) h1 R1_below (by simp) ?_
   have e1:R1 (fI g N) N=R1 (clsN (Mut g)) N:=ze0 fun v hv=>if_pos ⟨v,hv,hr v⟩
   rw[e1]
   exact hk
end Go.Ideal.S
namespace Go.Ideal.S
open Go Go.Ideal Q Classical
attribute [local simp] decide_eq_true decide_eq_false z9
attribute [local simp] c_b f_b r_b_1 r_b_2 r_b_3 r_b_4 r_b_5 r_b_6 r_b_7 r_b_8 r_b_10 r_b_11 r_b_12 r_b_13 r_b_14 r_b_15 r_b_16 r_b_17 r_b_18 r_b_19 r_b_21 r_b_22 r_b_24 c_i f_i r_i_1 r_i_2 r_i_3 r_i_4 r_i_5 r_i_6 r_i_7 r_i_8 r_i_9 r_i_10 r_i_11 r_i_12 r_i_13 r_i_14 r_i_15 r_i_17
variable {M:VM} {k kp:DV→VM→Prop} {n0:Nat}
theorem rPartsBad_ok {g:Gr} (hg: ¬zde g) (hk:k (.tup [.nilS,I 2]) M):zt F (.fn n_b [] []) [.agg (eGr g)] M k kp:=by
 apply zt.back
 refine .fn zce rfl (by simp[f_b]) ?_
 repeat' (first| (simp(disch:=((try simp only[new_next,put_next,del_next]);omega));first|done| ((first|simp only[zj,zh,zi,zf,zg,zb]|simp only[ze,zc]|rw[za]);split)|skip)| ((first|simp only[zj,zh,zi,zf,zg,zb]|simp only[ze,zc]|rw[za]);split))
 refine good_ok g fun b hb=> ?_
 obtain rfl:b=false:=by cases b with|false=>rfl|true=>exact absurd (hb.1 rfl) hg
 repeat' (first| (simp(disch:=((try simp only[new_next,put_next,del_next]);omega));first|done| ((first|simp only[zj,zh,zi,zf,zg,zb]|simp only[ze,zc]|rw[za]);split)|skip)| ((first|simp only[zj,zh,zi,zf,zg,zb]|simp only[ze,zc]|rw[za]);split))
 exact Back.plain (by simp) (by repeat' (first|assumption|exact SM_refl _ _|apply SM_put|apply SM_new|apply SM_del| ((try simp only[new_next,put_next,del_next]);omega))) hk
theorem jPartsBad_ok {g:Gr} (hl:g.es.length≤1000000) (hg: ¬zde g) (hk:k (.tup [.nilS,I 2]) M):zt F (.fn n_i [] []) [.agg (eGr g)] M k kp:=by
 apply zt.back
 refine .fn zid rfl (by simp[f_i]) ?_
 repeat' (first| (simp(disch:=((try simp only[new_next,put_next,del_next]);omega));first|done| ((first|simp only[zj,zh,zi,zf,zg,zb]|simp only[ze,zc]|rw[za]);split)|skip)| ((first|simp only[zj,zh,zi,zf,zg,zb]|simp only[ze,zc]|rw[za]);split))
 refine fine_ok g hl fun b hb=> ?_
 obtain rfl:b=false:=by cases b with|false=>rfl|true=>exact absurd (hb.1 rfl) hg
 repeat' (first| (simp(disch:=((try simp only[new_next,put_next,del_next]);omega));first|done| ((first|simp only[zj,zh,zi,zf,zg,zb]|simp only[ze,zc]|rw[za]);split)|skip)| ((first|simp only[zj,zh,zi,zf,zg,zb]|simp only[ze,zc]|rw[za]);split))
 exact Back.plain (by simp) (by repeat' (first|assumption|exact SM_refl _ _|apply SM_put|apply SM_new|apply SM_del| ((try simp only[new_next,put_next,del_next]);omega))) hk
end Go.Ideal.S
namespace Go.Ideal.S
open Go Go.Ideal Q Classical
attribute [local simp] decide_eq_true decide_eq_false z9
attribute [local simp] c_i f_i r_i_1 r_i_2 r_i_3 r_i_4 r_i_5 r_i_6 r_i_7 r_i_8 r_i_9 r_i_10 r_i_11 r_i_12 r_i_13 r_i_14 r_i_15 r_i_17
variable {M:VM} {k kp:DV→VM→Prop} {n0:Nat}
theorem zft (x y:Int):zbf .int (I x) (I y)=some (decide (x=y)):=by
 show(if IntKind.i64=IntKind.i64 then some (eqI x y) else none)=_
 rw[if_pos rfl,eqI_dec]
abbrev mE (f c:Nat→Int) (L:List Nat):List (DV×DV):=L.map fun v=>(I (f v),I (c v))
theorem find_none {f c:Nat→Int} {x:Int}: ∀{L:List Nat},(∀v∈L,f v≠x)→zgU .int (I x) (mE f c L)=some none
 | [],_=>rfl
 |v::L,h=>by
  show(zbf .int (I x) (I (f v))).bind _=_
  rw[zft,decide_eq_false (fun e=>h v (List.mem_cons_self ..) e.symm)]
  exact find_none fun u hu=>h u (List.mem_cons_of_mem _ hu)
theorem find_some {f c:Nat→Int} {x y:Int}: ∀{L:List Nat},(∃m∈L,f m=x)→(∀v∈L,f v=x→c v=y)→zgU .int (I x) (mE f c L)=some (some (I y))
 | [],h,_=>by obtain⟨m,hm,_⟩:=h;cases hm
 |v::L,h,h2=>by
  show(zbf .int (I x) (I (f v))).bind _=_
  rw[zft]
  by_cases e:f v=x
  ·rw[decide_eq_true e.symm,←h2 v (List.mem_cons_self ..) e];rfl
  ·rw[decide_eq_false (fun q=>e q.symm)]
   refine find_some ?_ fun u hu=>h2 u (List.mem_cons_of_mem _ hu)
   obtain⟨m,hm,hx⟩:=h
   rcases List.mem_cons.1 hm with rfl|hm
   ·exact absurd hx e
   ·exact⟨m,hm,hx⟩
theorem set_new {f c:Nat→Int} {x:Int} {d:DV}: ∀{L:List Nat},(∀v∈L,f v≠x)→Go.Ideal.setD .int (I x) d (mE f c L)=some (mE f c L++[(I x,d)])
 | [],_=>rfl
 |v::L,h=>by
  show(zbf .int (I x) (I (f v))).bind _=_
  rw[zft,decide_eq_false (fun e=>h v (List.mem_cons_self ..) e.symm)]
  show(Go.Ideal.setD .int (I x) d (mE f c L)).map _=_
  rw[set_new fun u hu=>h u (List.mem_cons_of_mem _ hu)];rfl
theorem lkE_int (z:DV) (ok:Bool) (x:Int) (es:List (DV×DV)):lkE .int z ok (I x) (some es)=(zgU .int (I x) es).map (zfd z ok):=by
 unfold lkE;rw[zft]
theorem upd_int {M:VM} {x:Int} {d:DV} {j:Nat} {es es':List (DV×DV)} (h:M.obj j=some (.map es)) (h2:Go.Ideal.setD .int (I x) d es=some es'):updD .int M (I x) d (.map j)=some (M.put j (.map es')):=by
 simp only[updD,h,Option.bind_some,zft,h2,Option.map_some]
noncomputable def fsts (R:Nat→Nat→Prop) (i:Nat):List Nat:=(List.range i).filter fun j=>decide (zgh R j)
theorem fsts_len (R:Nat→Nat→Prop) (i:Nat):(fsts R i).length=numF R i:=by unfold fsts numF;rw[List.countP_eq_length_filter]
theorem fsts_succ (R:Nat→Nat→Prop) (i:Nat):fsts R (i+1)=fsts R i++if zgh R i then[i] else[]:=by
 unfold fsts
 rw[List.range_succ,List.filter_append]
 congr 1
 by_cases h:zgh R i<;>simp[h]
theorem zg5 {R:Nat→Nat→Prop} {i v:Nat}:v∈fsts R i↔v<i∧zgh R v:=by simp[fsts]
theorem jParts_ok {g:Gr} (hl:g.es.length≤1000000) (hg:zde g) {N:Nat} (hN:g.st=N) (hk:k (.tup [.lst 1 (R1 (clsN (Mut g)) N),I 0]) M):zt F (.fn n_i [] []) [.agg (eGr g)] M k kp:=by
 apply zt.back
 refine .fn zid rfl (by simp[f_i]) ?_
 have g2:=hg.s2
 have h60:N≤60:=by omega
 have hcg: ∀x∈eGr g,zN x=true:=by intro x hx;simp[eGr] at hx;rcases hx with rfl|rfl|rfl<;>rfl
 have hgl:(eGr g).length=3:=rfl
 repeat' (first| (simp(disch:=((try simp only[new_next,put_next,del_next]);omega));first|done| ((first|simp only[zj,zh,zi,zf,zg,zb]|simp only[ze,zc]|rw[za]);split)|skip)| ((first|simp only[zj,zh,zi,zf,zg,zb]|simp only[ze,zc]|rw[za]);split))
 refine fine_ok g hl fun b hb=> ?_
 obtain rfl:b=true:=hb.2 hg
 have eg:([I g.st,I g.ac,.lst 3 (g.es.map zbl)]:List DV)=eGr g:=rfl
 repeat' (first| (simp(disch:=((try simp only[new_next,put_next,del_next]);omega)) [eGr];first|done| ((first|simp only[zj,zh,zi,zf,zg,zb]|simp only[ze,zc]|rw[za]);split)|skip)| ((first|simp only[zj,zh,zi,zf,zg,zb]|simp only[ze,zc]|rw[za]);split))
 simp only[eg]
 refine whole_ok g hN h60 ?_
 have hlow: ∀v,(lowB N).testBit v=true↔v<N:=fun v=>by rw[lowB_bit];simp
 repeat' (first| (simp(disch:=((try simp only[new_next,put_next,del_next]);omega)) [hcg,hgl];first|done| ((first|simp only[zj,zh,zi,zf,zg,zb]|simp only[ze,zc]|rw[za]);split)|skip)| ((first|simp only[zj,zh,zi,zf,zg,zb]|simp only[ze,zc]|rw[za]);split))
 refine⟨by intro x hx;simp[eGr] at hx;rcases hx with rfl|rfl|rfl<;>rfl,?_⟩
 refine parts_ok hg (lowB_lt N (by omega)) hN (fun v hv=>(hlow v).1 hv) fun M2 j cmp many s1 s2 s3 s4 s5=> ?_
 have hs0:SM M.next M M2:=fun j hj=>(s1 j (by simp;omega)).trans ((show SM M.next M (((M.new _).new _).put _ _) from(by repeat' (first|assumption|exact SM_refl _ _|apply SM_put|apply SM_new|apply SM_del| ((try simp only[new_next,put_next,del_next]);omega)))) j hj)
 have hj0:M.next≤j:=by simp at s2;omega
 have hn0:M.next≤M2.next:=by omega
 clear s1 s2
 repeat' (first| (simp(disch:=((try simp only[new_next,put_next,del_next]);omega)) [s4];first|done| ((first|simp only[zj,zh,zi,zf,zg,zb]|simp only[ze,zc]|rw[za]);split)|skip)| ((first|simp only[zj,zh,zi,zf,zg,zb]|simp only[ze,zc]|rw[za]);split))
 have hr: ∀a,Mut g a a:=fun a=>⟨.refl _,.refl _⟩
 have hs: ∀a b,Mut g a b→Mut g b a:=fun a b h=>⟨h.2,h.1⟩
 have ht: ∀a b c,Mut g a b→Mut g b c→Mut g a c:=fun a b c h h'=>⟨h.1.trans h'.1,h'.2.trans h.2⟩
 have hcl: ∀a b,a<N→b<N→(cmp a=cmp b↔Mut g a b):=fun a b ha hb=>(s5.eq a b ((hlow a).2 ha) ((hlow b).2 hb)).trans (mut_in hg hN a b)
 have hfi: ∀i v,i<N→v<i→cmp v=cmp i→Mut g v i:=fun i v hi hv e=>(hcl v i (by omega) hi).1 e
 refine .for (σ:=VM) c_i_16.eq_1 (fun i _=>[(27,I i)]) (fun y=>y) (fun i y=>SM M.next M y∧M2.next<y.next∧y.obj j=some (.rows false 1 (R1 (fun v=>if v<i then clsN (Mut g) v else cmp v) N))∧y.obj M2.next=some (.map (mE cmp (clsN (Mut g)) (fsts (Mut g) i)))) N _ (by simp) rfl ⟨SM_new hs0 hn0,by simp,?_,?_⟩ (fun i y hi hP again=> ?_) (fun y hP=> ?_)
 ·rw[zhY _ s3,s4];simp
 ·simp[fsts]
 ·obtain⟨h1,h2,h3,h4⟩:=hP
  have hB:=R1_at (f:=fun v=>if v<i then clsN (Mut g) v else cmp v) hi
  rw[if_neg (Nat.lt_irrefl i)] at hB
  have he:R1 (up1 (fun v=>if v<i then clsN (Mut g) v else cmp v) i (clsN (Mut g) i)) N=R1 (fun v=>if v<i+1 then clsN (Mut g) v else cmp v) N:=ze0 fun v _=>by
   unfold up1
   by_cases e:v=i
   ·subst e;simp
   ·have:(v<i+1)=(v<i):=by simp;omega
    simp[e,this]
  have hjm:M2.next≠j:=by omega
  simp at again
  by_cases c:zgh (Mut g) i
  ·have hno: ∀v∈fsts (Mut g) i,cmp v≠cmp i:=fun v hv e=>c v (zg5.1 hv).1 (hfi i v hi (zg5.1 hv).1 e)
   have f1:=find_none (c:=clsN (Mut g)) hno
   have hc:clsN (Mut g) i=numF (Mut g) i:=clsN_new hr hs ht c (hr i)
   have f2:=set_new (c:=clsN (Mut g)) (d:=I (numF (Mut g) i)) hno
   have f3:=upd_int h4 f2
   rw[fsts_succ,if_pos c] at again
   rw[hc] at he
   repeat' (first| (simp(disch:=((try simp only[new_next,put_next,del_next]);omega)) [h3,h4,hi,hB,lkE_int,f1,f3,fsts_len,hjm];first|done| ((first|simp only[zj,zh,zi,zf,zg,zb]|simp only[ze,zc]|rw[za]);split)|skip)| ((first|simp only[zj,zh,zi,zf,zg,zb]|simp only[ze,zc]|rw[za]);split))
   refine again _ (by repeat' (first|assumption|exact SM_refl _ _|apply SM_put|apply SM_new|apply SM_del| ((try simp only[new_next,put_next,del_next]);omega))) (by simp;omega) ?_ ?_
   ·simp only[obj_put_eq];rw[←he,←zku]
   ·simp(disch:=omega) [List.map_append,hc]
  ·obtain⟨m,m1,m2,m3,m4,m5⟩:=rep_ex hr hs ht i
   have hmi:m<i:=by
    rcases Nat.lt_or_ge m i with h|h
    ·exact h
    ·exact absurd (by rw[show i=m by omega];exact m4) c
   have f1:=find_some (c:=clsN (Mut g)) (x:=cmp i) (y:=clsN (Mut g) i) (L:=fsts (Mut g) i) ⟨m,zg5.2 ⟨hmi,m4⟩,(hcl m i (by omega) hi).2 m2⟩ (fun v hv e=>(clsN_eq hr hs ht v i).2 (hfi i v hi (zg5.1 hv).1 e))
   rw[fsts_succ,if_neg c,List.append_nil] at again
   repeat' (first| (simp(disch:=((try simp only[new_next,put_next,del_next]);omega)) [h3,h4,hi,hB,lkE_int,f1,hjm];first|done| ((first|simp only[zj,zh,zi,zf,zg,zb]|simp only[ze,zc]|rw[za]);split)|skip)| ((first|simp only[zj,zh,zi,zf,zg,zb]|simp only[ze,zc]|rw[za]);split))
   refine again _ (by repeat' (first|assumption|exact SM_refl _ _|apply SM_put|apply SM_new|apply SM_del| ((try simp only[new_next,put_next,del_next]);omega))) (by simp;omega) ?_ ?_
   ·simp only[obj_put_eq];rw[←he,←zku]
   ·simp(disch:=omega) [h4]
 ·obtain⟨h1,h2,h3,h4⟩:=hP
  repeat' (first| (simp(disch:=((try simp only[new_next,put_next,del_next]);omega));first|done| ((first|simp only[zj,zh,zi,zf,zg,zb]|simp only[ze,zc]|rw[za]);split)|skip)| ((first|simp only[zj,zh,zi,zf,zg,zb]|simp only[ze,zc]|rw[za]);split))
  refine Back.ms2 h3 (by simp) R1_row hj0 h1 R1_below (by simp) ?_
  have e1:R1 (fun v=>if v<N then clsN (Mut g) v else cmp v) N=R1 (clsN (Mut g)) N:=ze0 fun v hv=>if_pos hv
  rw[e1]
  exact hk
end Go.Ideal.S
