/- A part of the proof: the ideal machine, and what the functions of the program answer over it. -/
import Derived.Test.YtffbioplncclkaaGreatD
set_option linter.unusedSimpArgs false
set_option linter.unusedVariables false
set_option linter.unusedSectionVars false
open Option renaming bind_some→qd
open Nat renaming eq_of_beq_eq_true→qe,le_refl→qj,lt_of_lt_of_le→ql,beq→qm,lt_succ_of_lt→qv,le_of_ble_eq_true→qw,mul_le_mul_right→qy,le_succ→qB,and_two_pow_sub_one_eq_mod→qG,two_pow_add_eq_or_of_lt→qI,mod_eq_of_lt→qL,le_trans→qM,lt_succ_self→qN,pow_succ→qT,xor_lt_two_pow→qU,mod_lt→qbd
open Bool renaming and_eq_true→qf,false_eq_true→qV,eq_false_iff→qY
open List renaming all_eq_true→qg,length_append→qi,take_succ_eq_append_getElem→qk,idxOf_le_length→qn,take_length→qo,length_cons→qp,not_mem_nil→qq,mem_cons→qt,mem_cons_of_mem→qA,length→qD,getElem_mem→qE,mem_of_getElem?→qF,mem_cons_self→qJ,length_take→qO,map_append→qP,mem_map→qW,mem_singleton→qX,any_eq_true→qbc
open UInt8 renaming ofNat→qh,toNat_ofNat'→qH,toNat_inj→qQ
open Int renaming eq_ofNat_of_zero_le→qr,emod_eq_of_lt→qZ,toNat_natCast→qba
open Option.some renaming inj→qu
open BitVec renaming ofInt→qx
open Array renaming isEmpty_iff→qC,isEmpty→qK,mem_of_getElem?→qR,mem_toList_iff→qS,toList_inj→qbb
namespace Go.Ideal
noncomputable section
variable {P:Program}
def allEq {α:Type} (f:α→α→Bool):List α→List α→Bool
 | [],[]=>true
 |a::l,b::m=>f a b&&allEq f l m
 |_,_=>false
theorem zgd {α:Type} {f:α→α→Bool} (hf: ∀a b,f a b=true→a=b): ∀{l m:List α},allEq f l m=true→l=m
 | [],[],_=>rfl
 | [],_::_,h=>by cases h
 |_::_,[],h=>by cases h
 |a::l,b::m,h=>by
  simp only[allEq,qf] at h;rw[hf _ _ h.1,zgd hf h.2]
def eqX:Nat→Value→Value→Bool
 |n+1,.agg a,.agg b=>allEq (eqX n) a.toList b.toList
 |n+1,.tuple a,.tuple b=>allEq (eqX n) a.toList b.toList
 |n+1,.iface t a,.iface u b=>qm t u&&eqX n a b
 |_,.nilIface,.nilIface=>true
 |_,.func (.func f) a b,.func (.func g) c d=>qm f g&&(a.isEmpty&&b.isEmpty&&(c.isEmpty&&d.isEmpty))
 |_,a,b=>zgq a b
theorem zlA: ∀(n:Nat) (a b:Value),eqX n a b=true→a=b:=by
 intro n
 induction n with
 |zero=>
  intro a b h;unfold eqX at h
  split at h
  ·rename_i e;exact absurd e (by simp)
  ·rename_i e;exact absurd e (by simp)
  ·rename_i e;exact absurd e (by simp)
  ·rfl
  ·simp only[qf,qC] at h;obtain⟨h1,⟨h2,h3⟩,h4,h5⟩:=h;rw[qe h1,h2,h3,h4,h5]
  ·exact zhB h
 |succ n ih=>
  intro a b h;unfold eqX at h
  split at h
  ·rename_i e;cases e;rw[qbb.1 (zgd ih h)]
  ·rename_i e;cases e;rw[qbb.1 (zgd ih h)]
  ·rename_i e;cases e;rw[qf] at h;rw[qe h.1,ih _ _ h.2]
  ·rfl
  ·simp only[qf,qC] at h;obtain⟨h1,⟨h2,h3⟩,h4,h5⟩:=h;rw[qe h1,h2,h3,h4,h5]
  ·exact zhB h
def eqEnt (a b:Value×Value×Nat):Bool:=eqX 4 a.1 b.1&&(eqX 4 a.2.1 b.2.1&&qm a.2.2 b.2.2)
theorem eqEnt_eq (a b:Value×Value×Nat) (h:eqEnt a b=true):a=b:=by
 simp only[eqEnt,qf] at h;obtain⟨a1,a2,a3⟩:=a;obtain⟨b1,b2,b3⟩:=b;have h1:=zlA _ _ _ h.1;have h2:=zlA _ _ _ h.2.1;have h3:=qe h.2.2;simp only at h1 h2 h3;rw[h1,h2,h3]
def eqObj:IObj→IObj→Bool
 |.cells a e,.cells b f=>qm e f&&allEq (eqX 4) a b
 |.map a c,.map b d=>qm c d&&allEq eqEnt a b
 |.glob b x,.glob c y=>qm b c&&eqX 4 x y
 |.dead,.dead=>true
 |_,_=>false
theorem eqObj_eq {a b:IObj} (h:eqObj a b=true):a=b:=by
 unfold eqObj at h
 split at h
 ·rw[qf] at h;rw[qe h.1,zgd (zlA 4) h.2]
 ·rw[qf] at h;rw[qe h.1,zgd eqEnt_eq h.2]
 ·rw[qf] at h;rw[qe h.1,zlA _ _ _ h.2]
 ·rfl
 ·cases h
def liveO:IObj→Bool
 |.dead=>false
 |_=>true
def refF (S:Nat→Bool):Nat→Value→Bool
 |n+1,.agg a=>a.toList.all (refF S n)
 |n+1,.tuple a=>a.toList.all (refF S n)
 |n+1,.iface _ v=>refF S n v
 |_,.pointer (some a)=>S a.block
 |_,.slice (some a) _ _=>S a.block
 |_,.map (some i)=>S i
 |_,.func (.func _) a b=>a.isEmpty&&b.isEmpty
 |_,.bool _=>true
 |_,.int _ _=>true
 |_,.string _=>true
 |_,.pointer none=>true
 |_,.slice none _ _=>true
 |_,.map none=>true
 |_,.nilFunc=>true
 |_,.nilIface=>true
 |_,.complex _ _ _=>true
 |_,_=>false
theorem VR.agree {ρ σ:Rho} {S:Nat→Bool} (hS: ∀i,S i=true→σ i=ρ i): ∀(n:Nat) {v v':Value},VR ρ v v'→refF S n v=true→VR σ v v':=by
 intro n
 induction n with
 |zero=>
  intro v v' h hv;cases h with
  |bool b=>exact .bool b
  |int k n=>exact .int k n
  |str s=>exact .str s
  |ptrNil=>exact .ptrNil
  |ptr h=>exact .ptr ((hS _ hv).trans h)
  |sliceNil=>exact .sliceNil
  |slice h hc hl=>exact .slice ((hS _ hv).trans h) hc hl
  |sliceO h he hl hs hb=>exact .sliceO ((hS _ hv).trans h) he hl hs hb
  |sliceE h he hb=>exact .sliceE ((hS _ hv).trans h) he hb
  |sliceD h hm=>exact .sliceD ((hS _ hv).trans h) hm
  |sliceR h he hl=>exact .sliceR ((hS _ hv).trans h) he hl
  |mapNil=>exact .mapNil
  |map h=>exact .map ((hS _ hv).trans h)
  |func f ha hb ra rb=>
   have hv:(qK _&&qK _)=true:=hv;simp only[qf,qC] at hv;obtain⟨rfl,rfl⟩:=hv;exact .func f ha hb (fun j x y hx=>by simp at hx) (fun j x y hx=>by simp at hx)
  |yield h=>cases hv
  |nilFunc=>exact .nilFunc
  |nilIface=>exact .nilIface
  |iface t h=>cases hv
  |agg ha ra=>cases hv
  |tuple ha ra=>cases hv
 |succ n ih=>
  intro v v' h hv;cases h with
  |bool b=>exact .bool b
  |int k n=>exact .int k n
  |str s=>exact .str s
  |ptrNil=>exact .ptrNil
  |ptr h=>exact .ptr ((hS _ hv).trans h)
  |sliceNil=>exact .sliceNil
  |slice h hc hl=>exact .slice ((hS _ hv).trans h) hc hl
  |sliceO h he hl hs hb=>exact .sliceO ((hS _ hv).trans h) he hl hs hb
  |sliceE h he hb=>exact .sliceE ((hS _ hv).trans h) he hb
  |sliceD h hm=>exact .sliceD ((hS _ hv).trans h) hm
  |sliceR h he hl=>exact .sliceR ((hS _ hv).trans h) he hl
  |mapNil=>exact .mapNil
  |map h=>exact .map ((hS _ hv).trans h)
  |func f ha hb ra rb=>
   have hv:(qK _&&qK _)=true:=hv;simp only[qf,qC] at hv;obtain⟨rfl,rfl⟩:=hv;exact .func f ha hb (fun j x y hx=>by simp at hx) (fun j x y hx=>by simp at hx)
  |yield h=>cases hv
  |nilFunc=>exact .nilFunc
  |nilIface=>exact .nilIface
  |iface t h=>exact .iface t (ih h hv)
  |agg ha ra=>
   exact .agg ha (fun j x y hx hy=>ih (ra j x y hx hy) (qg.1 (show(Array.toList _).all (refF S n)=true from hv) x (qS.2 (qR hx))))
  |tuple ha ra=>
   exact .tuple ha (fun j x y hx hy=>ih (ra j x y hx hy) (qg.1 (show(Array.toList _).all (refF S n)=true from hv) x (qS.2 (qR hx))))
def refO (S:Nat→Bool):IObj→Bool
 |.cells cs _=>cs.all (refF S 4)
 |.map es _=>es.all fun e=>refF S 4 e.1&&refF S 4 e.2.1
 |.glob _ _=>true
 |.dead=>true
 |.loop _ _ _ _=>false
theorem OR.agree {ρ σ:Rho} {S:Nat→Bool} (hS: ∀i,S i=true→σ i=ρ i) {w:World} {R:RB} {o:IObj} (h:OR P ρ w R o) (ho:refO S o=true):OR P σ w R o:=by
 cases o with
 |cells cs esz=>
  obtain⟨h1,h2,c,t,fr,h3,h7,h4,h5,h6⟩:=h;exact⟨h1,h2,c,t,fr,h3,h7,h4,h5,fun j v hj=>let⟨v',a,b⟩:=h6 j v hj;⟨v',a,b.imp id (fun b=>b.agree hS 4 (qg.1 ho v (qF hj)))⟩⟩
 |map es clock=>
  obtain⟨es',h1,h2,h3⟩:=h;refine⟨es',h1,h2,fun j e hj=> ?_⟩;obtain⟨e',a,b,c,d⟩:=h3 j e hj;have:=qg.1 ho e (qF hj);rw[qf] at this;exact⟨e',a,b.agree hS 4 this.1,c.agree hS 4 this.2,d⟩
 |glob b x=>exact h
 |loop _ _ _ _=>cases ho
 |dead=>trivial
theorem VRL.agree {ρ σ:Rho} {S:Nat→Bool} (hS: ∀i,S i=true→σ i=ρ i) {xs ys:List Value} (h:VRL ρ xs ys) (hx:xs.all (refF S 4)=true):VRL σ xs ys:=
 ⟨h.1,fun j x y h1 h2=>(h.2 j x y h1 h2).agree hS 4 (qg.1 hx x (qF h1))⟩
structure zcY where
 args:List Value
 next:Nat
 pre:List (Nat×IObj)
 val:Value
 next':Nat
 post:List (Nat×IObj)
def zjG (l:List (Nat×IObj)) (t:PT IObj):PT IObj:=List.rec (motive:=fun _=>PT IObj) t (fun x _ ih=>ih.set (bits x.1) x.2) l
def matchH (h:H) (l:List (Nat×IObj)):Bool:=l.all fun x=>match h.get x.1 with
 |some o=>eqObj o x.2
 |none=>false
def zbq (l:List (Nat×IObj)) (i:Nat):Bool:=l.any fun x=>qm x.1 i
def zcY.fits (p:zcY) (args:List Value) (h:H):Bool:=qm h.next p.next&&(allEq (eqX 4) args p.args&&matchH h p.pre)
def zcY.out (p:zcY) (h:H):Value×H:=(p.val,⟨p.next',zjG p.post h.mem⟩)
def zeU (l:List zcY) (args:List Value) (h:H):Option (Value×H):=
 List.rec (motive:=fun _=>Option (Value×H)) none (fun p _ ih=>match p.fits args h with|true=>some (p.out h)|false=>ih) l
def zcY.start (p:zcY):H:=⟨p.next,zjG p.pre .nil⟩
def zcY.ends (p:zcY):Option Out→Bool
 |some (.val v h)=>eqX 4 v p.val&&(qm h.next p.next'&&matchH h p.post)
 |_=>false
def zcY.runs (F:FuncId→Option za) (n:Nat) (g:FuncId) (p:zcY):Bool:=p.ends (E F n (.call (.func (.func g) #[] #[]) p.args p.start))
def zcY.good (p:zcY):Bool:=
 Nat.ble p.next p.next'&&(p.pre.all (fun x=>Nat.blt x.1 p.next&&zbq p.post x.1)&&(p.post.all (fun x=>zbq p.pre x.1||(Nat.ble p.next x.1&&Nat.blt x.1 p.next'))&&
 (p.args.all (refF (zbq p.pre) 4)&&(p.pre.all (fun x=>liveO x.2&&refO (zbq p.pre) x.2)&&(refF (zbq p.post) 4 p.val&&p.post.all (fun x=>refO (zbq p.post) x.2))))))
theorem hasId_iff {l:List (Nat×IObj)} {i:Nat}:zbq l i=true↔ ∃o,(i,o)∈l:=by
 unfold zbq;rw[qbc];constructor
 ·rintro⟨⟨j,o⟩,h1,h2⟩;exact⟨o,by rw[←qe h2];exact h1⟩
 ·rintro⟨o,h⟩;exact⟨(i,o),h,Nat.beq_refl i⟩
theorem zle {l:List (Nat×IObj)} {t:PT IObj} {i:Nat} (h:zbq l i=false):(zjG l t).get (bits i)=t.get (bits i):=by
 induction l with
 |nil=>rfl
 |cons x l ih=>
  have h':(qm x.1 i||zbq l i)=false:=h;rw[Bool.or_eq_false_iff] at h';show((zjG l t).set (bits x.1) x.2).get (bits i)=_;rw[PT.get_set_bits,if_neg (by rintro rfl;rw[Nat.beq_refl] at h';cases h'.1),ih h'.2]
theorem setAll_in {l:List (Nat×IObj)} {t:PT IObj} {i:Nat} (h:zbq l i=true): ∃o,(i,o)∈l∧(zjG l t).get (bits i)=some o:=by
 induction l with
 |nil=>cases h
 |cons x l ih=>
  have e:(zjG (x::l) t).get (bits i)=if x.1=i then some x.2 else(zjG l t).get (bits i):=PT.get_set_bits _ _ _ _;rw[e];by_cases hi:x.1=i
  ·rw[if_pos hi];exact⟨x.2,by subst hi;simp,rfl⟩
  ·rw[if_neg hi];have h':(qm x.1 i||zbq l i)=true:=h;rw[Bool.or_eq_true] at h';obtain⟨o,h1,h2⟩:=ih (h'.resolve_left fun e=>hi (qe e));exact⟨o,by simp[h1],h2⟩
theorem zlq {h:H} {l:List (Nat×IObj)} (hm:matchH h l=true) {i:Nat} {o:IObj} (hi:(i,o)∈l):h.get i=some o:=by
 have:=qg.1 hm _ hi;dsimp only at this
 split at this
 ·rename_i o' ho;have e:=eqObj_eq this;subst e;exact ho
 ·cases this
theorem piece_calls {F:FuncId→Option za} (hmix:P.follows .mixedOrders=true) (hF: ∀g cf,F g=some cf→FnOk P g cf) {n:Nat} {g:FuncId} {p:zcY} (hg:p.good=true) (hrun:p.runs F n g=true)
 {args:List Value} {h:H} (hfit:p.fits args h=true) {ρ:Rho} {args':Array Value} {w:World} (ra:VRL ρ args args'.toList) (hr:HR P ρ h w):
 Calls P g args' w (zgU P ρ w (.val (p.out h).1 (p.out h).2)):=by
 simp only[zcY.good,qf] at hg;obtain⟨g1,g2,g3,g4,g5,g6,g7⟩:=hg;simp only[zcY.fits,qf] at hfit;obtain⟨f1,f2,f3⟩:=hfit;have f2:=zgd (zlA 4) f2;subst f2;have f1:=qe f1;have g1:=qw g1;have preLt: ∀i,zbq p.pre i=true→i<p.next∧zbq p.post i=true:=fun i hi=>by
  obtain⟨o,ho⟩:=hasId_iff.1 hi;have:=qg.1 g2 _ ho;rw[qf] at this;exact⟨qw this.1,this.2⟩
 have postIn: ∀i,zbq p.post i=true→zbq p.pre i=true∨(p.next≤i∧i<p.next'):=fun i hi=>by
  obtain⟨o,ho⟩:=hasId_iff.1 hi;have:=qg.1 g3 _ ho;rw[Bool.or_eq_true,qf] at this;exact this.imp id fun h=>⟨qw h.1,qw h.2⟩
 have preGet: ∀i,zbq p.pre i=true→ ∃o,h.get i=some o∧o≠ .dead∧p.start.get i=some o∧refO (zbq p.pre) o=true:=fun i hi=>by
  obtain⟨o,h1,h2⟩:=setAll_in (t:=.nil) hi;have q1:=zlq f3 h1;have q4:=qg.1 g5 _ h1;rw[qf] at q4;exact⟨o,q1,by rintro rfl;exact Bool.false_ne_true q4.1,h2,q4.2⟩
 have preNo: ∀i,zbq p.pre i=false→p.start.get i=none:=fun i hi=>(zle hi).trans (PT.get_nil _);obtain⟨ρ',hρ'⟩: ∃ρ':Rho,∀i,ρ' i=if zbq p.pre i=true then ρ i else none:=⟨_,fun _=>rfl⟩;have agr: ∀i,zbq p.pre i=true→ρ' i=ρ i:=fun i hi=>by rw[hρ',if_pos hi]
 have sub: ∀i R,ρ' i=some R→zbq p.pre i=true∧ρ i=some R:=fun i R hi=>by
  rw[hρ'] at hi
  split at hi
  ·rename_i hc;exact⟨hc,hi⟩
  ·cases hi
 have hr':HR P ρ' p.start w:={
  obj:=fun i R o hi ho=>by
   obtain⟨hc,hi⟩:=sub i R hi;obtain⟨o',q1,q2,q3,q4⟩:=preGet i hc;have e:o'=o:=qu (q3.symm.trans ho);subst e;exact(hr.obj i R o' hi q1).agree agr q4
  nxt:=fun i hi=>by
   have hi:p.next≤i:=hi;have hc:zbq p.pre i=false:=by
    rw[qY];intro hc;have:=(preLt i hc).1;omega
   exact⟨by rw[hρ',if_neg (by rw[hc];simp)],preNo i hc⟩
  sep:=fun i j R S hi hj _ _ e=>by
   obtain⟨hc,hi⟩:=sub i R hi;obtain⟨hd,hj⟩:=sub j S hj;obtain⟨o,q1,q2,-,-⟩:=preGet i hc;obtain⟨o',r1,r2,-,-⟩:=preGet j hd;exact hr.sep i j R S hi hj ⟨o,q1,q2⟩ ⟨o',r1,r2⟩ e
  blk:=fun i R hi=>hr.blk i R (sub i R hi).2
  glb:=fun i b x hi=>by
   cases hc:zbq p.pre i with
   |false=>rw[preNo i hc] at hi;cases hi
   |true=>
    obtain⟨o',q1,-,q3,-⟩:=preGet i hc;have e:o'=.glob b x:=qu (q3.symm.trans hi);subst e;obtain⟨R,hR⟩:=hr.glb i b x q1;exact⟨R,(agr i hc).trans hR⟩}
 have ra':VRL ρ' p.args args'.toList:=ra.agree agr g4;unfold zcY.runs at hrun;generalize he:E F n (.call (.func (.func g) #[] #[]) p.args p.start)=out at hrun;unfold zcY.ends at hrun
 split at hrun
 ·rename_i v h2;simp only[Bool.and_eq_true] at hrun;obtain⟨e1,e2,e3⟩:=hrun;obtain rfl:=zlA _ _ _ e1;have e2:=Nat.eq_of_beq_eq_true e2;refine(zio hmix hF he ra' hr').mono ?_;rintro e w' ⟨v',σ2,rfl,hv,hr2,hx⟩;obtain⟨σ,hσ⟩: ∃σ:Rho,∀i,σ i=if zbq p.post i=true then σ2 i else ρ i:=⟨_,fun _=>rfl⟩;have agr2: ∀i,zbq p.post i=true→σ i=σ2 i:=fun i hi=>by rw[hσ,if_pos hi]
  have oth: ∀i,zbq p.post i=false→σ i=ρ i:=fun i hi=>by rw[hσ,if_neg (by rw[hi];simp)]
  have le:zhL ρ σ:=fun i R hi=>by
   cases hc:zbq p.post i with
   |false=>rw[oth i hc];exact hi
   |true=>
    rw[agr2 i hc];rcases postIn i hc with hp| ⟨hp,-⟩
    ·exact hx.le i R ((agr i hp).trans hi)
    ·have:=(hr.nxt i (by omega)).1;rw[hi] at this;cases this
  have postGet: ∀i,zbq p.post i=true→ ∃o,h2.get i=some o∧(p.out h).2.get i=some o∧refO (zbq p.post) o=true:=fun i hi=>by
   obtain⟨o,h1,h3⟩:=setAll_in (t:=h.mem) hi;have q1:=zlq e3 h1;exact⟨o,q1,h3,qg.1 g7 _ h1⟩
  have postNo: ∀i,zbq p.post i=false→(p.out h).2.get i=h.get i:=fun i hi=>zle hi;have apart: ∀i R j S,zbq p.post i=true→σ2 i=some R→zbq p.post j=false→ρ j=some S→zeC h j→R.blk≠S.blk:=fun i R j S hi hiR hj hjS aj e=>by
   rcases hx.fresh i R hiR with⟨k,T,hk,hT⟩|hb
   ·obtain⟨hc,hk⟩:=sub k T hk;obtain⟨o,q1,q2,-,-⟩:=preGet k hc;have:=hr.sep k j T S hk hjS ⟨o,q1,q2⟩ aj (hT.trans e);subst this;rw[(preLt k hc).2] at hj;cases hj
   ·have:=hr.blk j S hjS;omega
  have hrN:HR P σ (p.out h).2 w':={
   obj:=fun i R o hi ho=>by
    cases hc:zbq p.post i with
    |true=>
     rw[agr2 i hc] at hi;obtain⟨o',q1,q3,q4⟩:=postGet i hc;have e:o'=o:=qu (q3.symm.trans ho);subst e;exact(hr2.obj i R o' hi q1).agree agr2 q4
    |false=>
     rw[oth i hc] at hi;rw[postNo i hc] at ho;by_cases hd:o=.dead
     ·subst hd;trivial
     ·refine(hr.obj i R o hi ho).mono le (hx.frame _ (hr.blk i R hi) fun j S hj e=> ?_);obtain⟨hp,hj⟩:=sub j S hj;obtain⟨o',q1,q2,-,-⟩:=preGet j hp;have:=hr.sep j i S R hj hi ⟨o',q1,q2⟩ ⟨o,ho,hd⟩ e;subst this;rw[(preLt j hp).2] at hc;cases hc
   nxt:=fun i hi=>by
    have hi:p.next'≤i:=hi;have hc:zbq p.post i=false:=by
     rw[qY];intro hc;rcases postIn i hc with hp|hp
     ·have:=(preLt i hp).1;omega
     ·omega
    rw[oth i hc,postNo i hc];exact hr.nxt i (by omega)
   sep:=fun i j R S hi hj ai aj e=>by
    have al: ∀k,zbq p.post k=true→zeC (p.out h).2 k→zeC h2 k:=fun k hk ⟨o,h1,h3⟩=>by
     obtain⟨o',q1,q2,-⟩:=postGet k hk;have e:o'=o:=qu (q2.symm.trans h1);subst e;exact⟨o',q1,h3⟩
    have al': ∀k,zbq p.post k=false→zeC (p.out h).2 k→zeC h k:=fun k hk ⟨o,h1,h3⟩=>⟨o,(postNo k hk).symm.trans h1,h3⟩;cases hc:zbq p.post i with
    |true=>
     rw[agr2 i hc] at hi;cases hd:zbq p.post j with
     |true=>rw[agr2 j hd] at hj;exact hr2.sep i j R S hi hj (al i hc ai) (al j hd aj) e
     |false=>rw[oth j hd] at hj;exact absurd e (apart i R j S hc hi hd hj (al' j hd aj))
    |false=>
     rw[oth i hc] at hi;cases hd:zbq p.post j with
     |true=>rw[agr2 j hd] at hj;exact absurd e.symm (apart j S i R hd hj hc hi (al' i hc ai))
     |false=>rw[oth j hd] at hj;exact hr.sep i j R S hi hj (al' i hc ai) (al' j hd aj) e
   blk:=fun i R hi=>by
    cases hc:zbq p.post i with
    |true=>rw[agr2 i hc] at hi;exact hr2.blk i R hi
    |false=>rw[oth i hc] at hi;exact ql (hr.blk i R hi) hx.size
   glb:=fun i b x hi=>by
    cases hc:zbq p.post i with
    |true=>
     obtain⟨o',q1,q3,-⟩:=postGet i hc;have e:o'=.glob b x:=qu (q3.symm.trans hi);subst e;obtain⟨R,hR⟩:=hr2.glb i b x q1;exact⟨R,(agr2 i hc).trans hR⟩
    |false=>
     rw[postNo i hc] at hi;obtain⟨R,hR⟩:=hr.glb i b x hi;exact⟨R,(oth i hc).trans hR⟩}
  refine⟨_,_,v',σ,rfl,rfl,hv.agree agr2 4 g6,hrN,le,hx.size,fun i R hi=> ?_,fun B hB hn=>hx.frame B hB fun i R hi=>hn i R (sub i R hi).2,hx.loops,hx.os,hx.out,hx.froz,hx.td⟩;cases hc:zbq p.post i with
  |true=>
   rw[agr2 i hc] at hi;rcases hx.fresh i R hi with⟨j,S,hj,e⟩|hb
   ·exact .inl ⟨j,S,(sub j S hj).2,e⟩
   ·exact .inr hb
  |false=>rw[oth i hc] at hi;exact .inl ⟨i,R,hi,rfl⟩
 ·cases hrun
theorem pieces_ok (hmix:P.follows .mixedOrders=true) {g:FuncId} {fn:Func} {cf0:za} (hfn:P.funcs[g]? =some fn) (hcf:z6 P fn=some (zfd cf0))
 {l:List zcY} (hl: ∀p∈l,p.good=true∧ ∃F n,(∀g cf,F g=some cf→FnOk P g cf)∧p.runs F n g=true):FnOk P g (zkV (zeU l) cf0):=by
 refine .inr (.inr (.inr ⟨_,fn,cf0,rfl,⟨fun args w=> ?_,fun args h v h' hp ρ args' w ra hr=> ?_⟩,hfn,hcf⟩))
 ·obtain⟨hname,c,hbody,-⟩:=zbL hcf;have hne: ¬fn.name= "runtime.NumGoroutine" :=by simpa using hname
  simp[callFunc,hfn,hne,hbody]
 ·induction l with
  |nil=>cases hp
  |cons p l ih=>
   have hp:(match p.fits args h with|true=>some (p.out h)|false=>zeU l args h)=some (v,h'):=hp
   split at hp
   ·rename_i hfit;obtain⟨q1,F,n,hF,q2⟩:=hl p (by simp);have e:p.out h=(v,h'):=qu hp;have:=piece_calls hmix hF q1 q2 hfit ra hr;rw[e] at this;exact this
   ·exact ih (fun p hp=>hl p (by simp[hp])) hp
def lookE (l:List (Nat×za)) (g:Nat):Option za:=List.rec (motive:=fun _=>Option za) none (fun p _ ih=>match qm p.1 g with|true=>some p.2|false=>ih) l
theorem zhm: ∀{t:List (Nat×za)} {g:Nat} {cf:za},lookE t g=some cf→ ∃p∈t,p.1=g∧p.2=cf
 | [],g,x,h=>by cases h
 |p::t,g,x,h=>by
  have h:(match qm p.1 g with|true=>some p.2|false=>lookE t g)=some x:=h
  split at h
  ·rename_i e;cases h;exact⟨p,by simp,qe e,rfl⟩
  ·obtain⟨q,hq,e⟩:=zhm h;exact⟨q,by simp[hq],e⟩
def overF (l:List (Nat×za)) (F:FuncId→Option za):FuncId→Option za:=fun g=>match lookE l g with
 |some cf=>some cf
 |none=>F g
theorem over_ok {l:List (Nat×za)} {F:FuncId→Option za} (hl: ∀p∈l,FnOk P p.1 p.2) (hF: ∀g cf,F g=some cf→FnOk P g cf): ∀g cf,overF l F g=some cf→FnOk P g cf:=by
 intro g cf h;unfold overF at h
 split at h
 ·rename_i c hc;cases h;obtain⟨p,hp,rfl,rfl⟩:=zhm hc;exact hl p hp
 ·exact hF g cf h
theorem look_ok {l:List (Nat×za)} (hl: ∀p∈l,FnOk P p.1 p.2): ∀g cf,lookE l g=some cf→FnOk P g cf:=fun g cf h=>by
 obtain⟨p,hp,rfl,rfl⟩:=zhm h;exact hl p hp
def endsTrue:Option Out→Bool
 |some (.val (.bool true) _)=>true
 |_=>false
theorem endsTrue_some {o:Option Out} (h:endsTrue o=true): ∃h',o=some (.val (.bool true) h'):=by
 unfold endsTrue at h
 split at h
 ·exact⟨_,rfl⟩
 ·cases h
end
end Go.Ideal
namespace Go.Ideal
open Go
variable {P:Program}
def AllC (P:Program) (l:List (Nat×za)):Prop:=l.map (fun x=>(P.funcs[x.1]?).bind (z6 P))=l.map fun x=>some (zfd x.2)
theorem AllC.mem {l:List (Nat×za)} (h:AllC P l): ∀p∈l,∃fn,P.funcs[p.1]? =some fn∧z6 P fn=some (zfd p.2):=by
 unfold AllC at h
 induction l with
 |nil=>intro p hp;cases hp
 |cons x l ih=>
  rw[List.map_cons,List.map_cons,List.cons.injEq] at h;intro p hp;rcases qt.1 hp with rfl|hp
  ·cases e:P.funcs[p.1]? with
   |none=>rw[e] at h;cases h.1
   |some fn=>rw[e] at h;exact⟨fn,rfl,h.1⟩
  ·exact ih h.2 p hp
theorem AllC.at {l:List (Nat×za)} (h:AllC P l) {g:Nat} {cf:za} (hg:lookE l g=some cf): ∃fn,P.funcs[g]? =some fn∧z6 P fn=some (zfd cf):=by
 obtain⟨p,hp,rfl,rfl⟩:=zhm hg;exact h.mem p hp
theorem AllC.ok {l:List (Nat×za)} (h:AllC P l): ∀p∈l,FnOk P p.1 p.2:=fun p hp=>.inl (h.mem p hp)
theorem AllC.app {l m:List (Nat×za)} (h:AllC P l) (h2:AllC P m):AllC P (l++m):=by
 unfold AllC at*;rw[qP,qP,h,h2]
theorem AllC.pieces (hmix:P.follows .mixedOrders=true) {l:List (Nat×za)} (h:AllC P l) {g:Nat} {cf:za} (hg:lookE l g=some cf) {ps:List zcY}
 (hl: ∀p∈ps,p.good=true∧ ∃F n,(∀g cf,F g=some cf→FnOk P g cf)∧p.runs F n g=true):FnOk P g (zkV (zeU ps) cf):=by
 obtain⟨fn,h1,h2⟩:=h.at hg;exact pieces_ok hmix h1 h2 hl
end Go.Ideal
set_option maxRecDepth 100000
namespace Go.Ideal.Q
noncomputable section
def tab0:List (Nat×za):=[(8,f_a),(9,f_h),(11,f_V),(13,f_E),(16,f_W),(19,f_L),(22,f_7),(24,f_m),(27,f_y),(28,f_b),(29,f_v),(36,f_X),(37,f_p),(38,f_k),(41,f_I),(42,f_bp),(43,f_D),(44,f_c),(49,f_9),(50,f_2),(53,f_bk),(54,f_G),(55,f_q),(59,f_M),(60,f_Z),(61,f_j),(62,f_5),(63,f_8),(64,f_T),(68,f_i)]
def tab1:List (Nat×za):=[(69,f_be),(70,f_A),(76,f_3),(79,f_J),(84,f_O),(85,f_4),(86,f_bo),(87,f_l),(88,f_bm),(89,f_bn),(90,f_U),(91,f_6),(92,f_bg),(93,f_Q),(94,f_ba),(95,f_N),(96,f_P),(97,f_bb),(98,f_K),(99,f_0),(100,f_Y),(101,f_u),(102,f_1),(113,f_bh),(114,f_F),(115,f_C),(116,f_o),(119,f_R),(120,f_S),(140,f_t)]
def tab2:List (Nat×za):=[(151,f_H),(152,f_bl),(153,f_x),(154,f_bi),(155,f_w),(156,f_bj),(157,f_r),(158,f_bc),(159,f_s),(160,f_bd),(161,f_z),(172,f_n),(173,f_g),(174,f_f),(175,f_d),(176,f_e)]
def tabC:List (Nat×za):=tab0++tab1++tab2
def tabF:List (Nat×za):=(10,zh6 true)::tabC
def F:FuncId→Option za:=lookE tabF
theorem zd7:F n_a=some f_a:=by kernel_rfl
theorem zfG:F n_h=some f_h:=by kernel_rfl
theorem zfE:F n_bf=some (zh6 true):=by kernel_rfl
theorem h_wire_Bytes:F n_V=some f_V:=by kernel_rfl
theorem h_wire_Parcel:F n_E=some f_E:=by kernel_rfl
theorem zgg:F n_W=some f_W:=by kernel_rfl
theorem h_wire_Open:F n_L=some f_L:=by kernel_rfl
theorem h_wire_Names:F n_7=some f_7:=by kernel_rfl
theorem h_wire_Rename:F n_m=some f_m:=by kernel_rfl
theorem zbZ:F n_y=some f_y:=by kernel_rfl
theorem ze1:F n_b=some f_b:=by kernel_rfl
theorem zfF:F n_v=some f_v:=by kernel_rfl
theorem zgf:F n_X=some f_X:=by kernel_rfl
theorem h_wire_fine:F n_p=some f_p:=by kernel_rfl
theorem h_wire_bytes:F n_k=some f_k:=by kernel_rfl
theorem zk0:F n_I=some f_I:=by kernel_rfl
theorem zki:F n_bp=some f_bp:=by kernel_rfl
theorem h_wire_start:F n_D=some f_D:=by kernel_rfl
theorem zfI:F n_c=some f_c:=by kernel_rfl
theorem h_wire_proper:F n_9=some f_9:=by kernel_rfl
theorem h_wire_letter:F n_2=some f_2:=by kernel_rfl
theorem h_wire_Open_1:F n_bk=some f_bk:=by kernel_rfl
theorem zgJ:F n_G=some f_G:=by kernel_rfl
theorem zgI:F n_q=some f_q:=by kernel_rfl
theorem h_wire_known:F n_M=some f_M:=by kernel_rfl
theorem h_wire_name:F n_Z=some f_Z:=by kernel_rfl
theorem zcl:F n_j=some f_j:=by kernel_rfl
theorem zkh:F n_5=some f_5:=by kernel_rfl
theorem h_wire_sealed:F n_8=some f_8:=by kernel_rfl
theorem h_wire_head:F n_T=some f_T:=by kernel_rfl
theorem zb7:F n_i=some f_i:=by kernel_rfl
theorem zd6:F n_be=some f_be:=by kernel_rfl
theorem zd5:F n_A=some f_A:=by kernel_rfl
theorem h_wire_below:F n_3=some f_3:=by kernel_rfl
theorem zdC:F n_J=some f_J:=by kernel_rfl
theorem h_wire_once:F n_O=some f_O:=by kernel_rfl
theorem zkg:F n_4=some f_4:=by kernel_rfl
theorem h_wire_fine_1:F n_bo=some f_bo:=by kernel_rfl
theorem zcS:F n_l=some f_l:=by kernel_rfl
theorem h_wire_fine_2:F n_bm=some f_bm:=by kernel_rfl
theorem h_wire_fine_3:F n_bn=some f_bn:=by kernel_rfl
theorem zfj:F n_U=some f_U:=by kernel_rfl
theorem zkZ:F n_6=some f_6:=by kernel_rfl
theorem h_wire_fine_4:F n_bg=some f_bg:=by kernel_rfl
theorem zfi:F n_Q=some f_Q:=by kernel_rfl
theorem h_wire_value:F n_ba=some f_ba:=by kernel_rfl
theorem zd4:F n_N=some f_N:=by kernel_rfl
theorem zeo:F n_P=some f_P:=by kernel_rfl
theorem h_wire_write:F n_bb=some f_bb:=by kernel_rfl
theorem zhs:F n_K=some f_K:=by kernel_rfl
theorem zgh:F n_0=some f_0:=by kernel_rfl
theorem zfk:F n_Y=some f_Y:=by kernel_rfl
theorem zgH:F n_u=some f_u:=by kernel_rfl
theorem zht:F n_1=some f_1:=by kernel_rfl
theorem ziS:F n_bh=some f_bh:=by kernel_rfl
theorem h_wire_sum:F n_F=some f_F:=by kernel_rfl
theorem zgK:F n_C=some f_C:=by kernel_rfl
theorem zhu:F n_o=some f_o:=by kernel_rfl
theorem zii:F n_R=some f_R:=by kernel_rfl
theorem h_wire_number:F n_S=some f_S:=by kernel_rfl
theorem ze0:F n_t=some f_t:=by kernel_rfl
theorem zcT:F n_H=some f_H:=by kernel_rfl
theorem ziT:F n_bl=some f_bl:=by kernel_rfl
theorem zbD:F n_x=some f_x:=by kernel_rfl
theorem zeZ:F n_bi=some f_bi:=by kernel_rfl
theorem zbC:F n_w=some f_w:=by kernel_rfl
theorem zeY:F n_bj=some f_bj:=by kernel_rfl
theorem zbk:F n_r=some f_r:=by kernel_rfl
theorem zdB:F n_bc=some f_bc:=by kernel_rfl
theorem zbo:F n_s=some f_s:=by kernel_rfl
theorem zd3:F n_bd=some f_bd:=by kernel_rfl
theorem zfH:F n_z=some f_z:=by kernel_rfl
theorem zdp:F n_n=some f_n:=by kernel_rfl
theorem zbV:F n_g=some f_g:=by kernel_rfl
theorem zbU:F n_f=some f_f:=by kernel_rfl
theorem zbr:F n_d=some f_d:=by kernel_rfl
theorem zbx:F n_e=some f_e:=by kernel_rfl
end
end Go.Ideal.Q
namespace Go.Ideal
noncomputable section
@[simp] theorem openCap_le {n:Nat} (h:n<1000000):(n<zc)=True:=eq_true (by unfold zc;omega)
def upS (s:DS):List (Nat×DV)→DS
 | []=>s
 | (q,d)::r=>upS ((bits q,d)::s) r
@[simp] theorem upS_nil (s:DS):upS s []=s:=id rfl
@[simp] theorem upS_cons (s:DS) (q:Nat) (d:DV) (r:List (Nat×DV)):upS s ((q,d)::r)=upS ((bits q,d)::s) r:=id rfl
section
variable {F:FuncId→Option za} {n0:Nat}
theorem zcf.for {σ:Type} {L:List (List Bool)} {b b':CC} {K:KD} {s:DS} {M:VM} (hb:b=b') (U:Nat→σ→List (Nat×DV)) (G:σ→VM) (P:Nat→σ→Prop) (N:Nat) (x0:σ) (hs:s=zbH L (upS s (U 0 x0))) (hM:M=G x0) (h0:P 0 x0)
 (step: ∀i x,i<N→P i x→(∀x',P (i+1) x'→zcf F n0 L b K (zbH L (upS s (U (i+1) x'))) (G x'))→ @Cd (rD F n0) (.base (LoK F n0 L b K)) b' (zbH L (zbH L (upS s (U i x)))) (G x))
 (last: ∀x,P N x→ @Cd (rD F n0) (.base (LoK F n0 L b K)) b' (zbH L (zbH L (upS s (U N x)))) (G x)):zcf F n0 L b K s M:=by
 have main: ∀m i x,i+m=N→P i x→zcf F n0 L b K (zbH L (upS s (U i x))) (G x):=by
  intro m
  induction m with
  |zero=>intro i x hi hp;obtain rfl:i=N:=by omega
         exact .go hb (last x hp)
  |succ m ih=>intro i x hi hp;exact .go hb (step i x (by omega) hp fun x' hp'=>ih (i+1) x' (by omega) hp')
 have:=main N 0 x0 (by omega) h0;rw[←hs,←hM] at this;exact this
theorem zcf.while {σ:Type} {L:List (List Bool)} {b b':CC} {K:KD} {s:DS} {M:VM} (hb:b=b') (U:σ→List (Nat×DV)) (G:σ→VM) (P:σ→Prop) (m:σ→Nat) (x0:σ) (hs:s=zbH L (upS s (U x0))) (hM:M=G x0) (h0:P x0)
 (step: ∀x,P x→(∀x',m x'<m x→P x'→zcf F n0 L b K (zbH L (upS s (U x'))) (G x'))→ @Cd (rD F n0) (.base (LoK F n0 L b K)) b' (zbH L (zbH L (upS s (U x)))) (G x)):zcf F n0 L b K s M:=by
 have main: ∀n x,m x<n→P x→zcf F n0 L b K (zbH L (upS s (U x))) (G x):=by
  intro n
  induction n with
  |zero=>intro x hx;omega
  |succ n ih=>intro x hx hp;exact .go hb (step x hp fun x' hx' hp'=>ih x' (by omega) hp')
 have:=main (m x0+1) x0 (by omega) h0;rw[←hs,←hM] at this;exact this
end
section
variable {F:FuncId→Option za} {n0:Nat} {M:VM}
end
section
variable {B M:VM} {j:Nat} {o:MO}
end
section
variable {B M:VM} {d:DV} {s:Nat} {rows:List (List DV)}
end
section
variable {B M:VM} {d:DV} {s:Nat} {rows:List (List DV)} {X:RnD} {fr:FrC}
end
end
end Go.Ideal
namespace Go.Ideal.S
structure Sv where
 k:Int
 n:Int
 deriving DecidableEq
def numB (n:Nat):List UInt8:=if n<128 then[qh n] else qh (n%128+128)::numB (n / 128)
termination_by n
decreasing_by omega
def zF (l:List Nat):List UInt8:=l.flatMap numB
theorem zcq:zF []=[]:=rfl
theorem zR (n:Nat) (l:List Nat):zF (n::l)=numB n++zF l:=by simp[zF]
theorem zcb (l m:List Nat):zF (l++m)=zF l++zF m:=by simp[zF]
theorem numsB_one (l:List Nat) (n:Nat):zF (l++[n])=zF l++numB n:=by simp[zF]
theorem zbn (n:Nat) (h:n<128^10):(numB n).length≤10:=by
 have key: ∀k n,n<128^(k+1)→(numB n).length≤k+1:=by
  intro k
  induction k with
  |zero=>intro n h;rw[numB,if_pos (by omega)];simp
  |succ k ih=>
   intro n h;rw[numB]
   split
   ·simp
   ·have:=ih (n / 128) (by rw[Nat.div_lt_iff_lt_mul (by omega)];rw[qT] at h;exact h);simp;omega
 exact key 9 n h
theorem numB_pos (n:Nat):0<(numB n).length:=by
 rw[numB];split<;>simp
def crcB (r:Nat) (top:Bool):Nat:=if top=true then(r*2%65536) ^^^ 4129 else r*2%65536
def crcY (x:Nat):Nat→Nat→Nat
 |0,r=>r
 |k+1,r=>crcY x k (crcB r (decide (r / 32768≠x / 2^k%2)))
def crcN (l:List UInt8):Nat:=l.foldl (fun r x=>crcY x.toNat 8 r) 65535
theorem crcB_lt (r:Nat) (t:Bool):crcB r t<65536:=by
 unfold crcB
 split
 ·exact qU (n:=16) (qbd _ (by omega)) (by omega)
 ·exact qbd _ (by omega)
theorem crcY_lt (x:Nat): ∀k r,r<65536→crcY x k r<65536
 |0,r,h=>h
 |k+1,r,_=>crcY_lt x k _ (crcB_lt _ _)
theorem crcF_lt (l:List UInt8): ∀r,r<65536→l.foldl (fun r x=>crcY x.toNat 8 r) r<65536:=by
 induction l with
 |nil=>intro r h;exact h
 |cons x l ih=>intro r h;exact ih _ (crcY_lt _ _ _ h)
theorem crcN_lt (l:List UInt8):crcN l<65536:=crcF_lt l _ (by omega)
theorem crcN_app (l:List UInt8) (x:UInt8):crcN (l++[x])=crcY x.toNat 8 (crcN l):=by simp[crcN]
def crc (l:List UInt8):List UInt8:=[qh (crcN l / 256),qh (crcN l%256)]
def zfu (l:List UInt8):List UInt8:=l++crc l
structure WS where
 t:List Sv
 b:List Nat
def WS.num (w:WS) (n:Nat):WS:=⟨w.t,w.b++[n]⟩
def WS.ment (w:WS) (v:Sv):WS:=if v∈w.t then w else⟨w.t++[v],w.b⟩
def WS.ref (w:WS) (v:Sv):WS:=(w.ment v).num (w.t.idxOf v)
def WS.val (w:WS) (v:Sv):WS:=if v.k≠1 then(w.ment v).num (2*w.t.idxOf v+1) else if 0≤v.n then w.num (4*v.n.toNat) else w.num (4*(-v.n - 1).toNat+2)
def WS.vals (w:WS) (l:List Sv):WS:=l.foldl WS.val (w.num l.length)
def zge (t:List Sv):List Nat:=t.length::t.flatMap fun v=>[v.k.toNat,v.n.toNat]
def WS.fin (w:WS) (first:UInt8):List UInt8:=zfu (first::zF (zge w.t)++zF w.b)
def plc (n:Int):Sv:=⟨4,n⟩
def chn (n:Int):Sv:=⟨3,n⟩
structure Lt where
 ch:Int
 vs:List Sv
def zb0 (v:Sv):Prop:=(v.k=2∧0≤v.n∧v.n<12)∨(v.k=3∧0≤v.n∧v.n<60)∨(v.k=4∧0≤v.n∧v.n<24)
def ValV (v:Sv):Prop:=zb0 v∨(v.k=1∧ -1000000000≤v.n∧v.n≤1000000000)
def zir (l:Lt):Prop:=(0≤l.ch∧l.ch<60)∧l.vs.length≤3∧ ∀v∈l.vs,ValV v
def encLt (l:Lt):List UInt8:=(((⟨[],[]⟩:WS).ref (chn l.ch)).vals l.vs).fin 77
def getA:Nat→Nat→Nat→List UInt8→Option (Nat×List UInt8)
 |0,_,_,_=>none
 |_+1,_,_,[]=>none
 |f+1,u,a,x::r=>if x.toNat<128 then some (a+x.toNat*u,r) else getA f (u*128) (a+x.toNat%128*u) r
def getN (l:List UInt8):Option (Nat×List UInt8):=getA 5 1 0 l
def zej (l:List UInt8):Option (Nat×List UInt8):=(getN l).bind fun x=>if x.1≤x.2.length then some x else none
def zcR (t:List Sv) (k:Int) (l:List UInt8):Option (Int×List UInt8):=(getN l).bind fun x=>(t[x.1]?).bind fun v=>if v.k=k then some (v.n,x.2) else none
def valN (t:List Sv) (l:List UInt8):Option (Sv×List UInt8):=(getN l).bind fun x=>if x.1%2=1 then(t[x.1 / 2]?).map fun v=>(v,x.2) else if x.1%4=0 then some (⟨1,((x.1 / 4:Nat):Int)⟩,x.2) else some (⟨1,-((x.1 / 4:Nat):Int) - 1⟩,x.2)
def repN {α:Type} (f:List UInt8→Option (α×List UInt8)):Nat→List α→List UInt8→Option (List α×List UInt8)
 |0,a,l=>some (a,l)
 |n+1,a,l=>(f l).bind fun x=>repN f n (a++[x.1]) x.2
def zcB (t:List Sv) (l:List UInt8):Option (List Sv×List UInt8):=(zej l).bind fun x=>repN (valN t) x.1 [] x.2
def zhc (l:List UInt8):Option (Sv×List UInt8):=(getN l).bind fun x=>(getN x.2).map fun y=>(⟨x.1,y.1⟩,y.2)
def tabN (l:List UInt8):Option (List Sv×List UInt8):=(zej l).bind fun x=>repN zhc x.1 [] x.2
def SealOk (b:List UInt8) (first:UInt8):Prop:=3≤b.length∧b.head? =some first∧crc (b.take (b.length - 2))=b.drop (b.length - 2)
open Classical in
noncomputable def z7 (b:List UInt8) (first:UInt8):Option (List Sv×List UInt8):=if SealOk b first then tabN ((b.take (b.length - 2)).drop 1) else none
def ltN (x:List Sv×List UInt8):Option Lt:=(zcR x.1 3 x.2).bind fun y=>(zcB x.1 y.2).map fun z=>⟨y.1,z.1⟩
open Classical in
noncomputable def zjY (b:List UInt8):Lt×Int:=if 80000<b.length then(⟨0,[]⟩,3) else match(z7 b 77).bind ltN with
 |some x=>if zir x∧encLt x=b then(x,0) else(⟨0,[]⟩,4)
 |none=>(⟨0,[]⟩,4)
theorem getA_lt: ∀(f u a:Nat) (l:List UInt8) (n:Nat) (r:List UInt8),getA f u a l=some (n,r)→a<u→n<u*128^f∧ ∃p,l=p++r∧0<p.length
 |0,_,_,_,_,_,h,_=>by cases h
 |_+1,_,_,[],_,_,h,_=>by cases h
 |f+1,u,a,x::l,n,r,h,ha=>by
  unfold getA at h;have hx:=x.toNat_lt
  split at h
  ·rename_i hlt;cases h;refine⟨?_,[x],rfl,by simp⟩;have h1:a+x.toNat*u<u*128:=by
    have:x.toNat*u≤127*u:=qy _ (by omega);omega
   refine ql h1 ?_;rw[qT];have:1≤128^f:=Nat.pow_pos (by omega)
   calc u*128=u*(1*128):=by omega
    _≤u*(128^f*128):=Nat.mul_le_mul_left _ (qy _ this)
  ·have h1:a+x.toNat%128*u<u*128:=by
    have:x.toNat%128*u≤127*u:=qy _ (by omega);omega
   obtain⟨h2,p,h3,h4⟩:=getA_lt f (u*128) _ l n r h h1;refine⟨?_,x::p,by rw[h3];rfl,by simp⟩;rw[qT,Nat.mul_comm (128^f),←Nat.mul_assoc];exact h2
theorem zkk {l:List UInt8} {n:Nat} {r:List UInt8} (h:getN l=some (n,r)):n<34359738368∧ ∃p,l=p++r∧0<p.length:=getA_lt 5 1 0 l n r h (by omega)
theorem zg6 {α:Type} {f:List UInt8→Option (α×List UInt8)}: ∀(n:Nat) (a:List α) (l:List UInt8) (b:List α) (r:List UInt8),repN f n a l=some (b,r)→b.length=a.length+n
 |0,a,l,b,r,h=>by cases h;rfl
 |n+1,a,l,b,r,h=>by
  unfold repN at h;cases hf:f l with
  |none=>rw[hf] at h;cases h
  |some x=>rw[hf] at h;have:=zg6 n _ _ b r h;simp at this;omega
theorem zg5 {α:Type} {f:List UInt8→Option (α×List UInt8)} (n:Nat) (a:List α) (l:List UInt8):repN f (n+1) a l=(f l).bind fun x=>repN f n (a++[x.1]) x.2:=rfl
theorem zb9 {α:Type} {f:List UInt8→Option (α×List UInt8)} {n:Nat} {a:List α} {l:List UInt8} (h:f l=none):repN f (n+1) a l=none:=by rw[zg5,h];rfl
theorem zcQ {α:Type} {f:List UInt8→Option (α×List UInt8)} {n:Nat} {a:List α} {l:List UInt8} {x:α} {r:List UInt8} (h:f l=some (x,r)):repN f (n+1) a l=repN f n (a++[x]) r:=by rw[zg5,h];rfl
end Go.Ideal.S
set_option maxRecDepth 10000
set_option maxHeartbeats 1000000
namespace Go.Ideal.S
open Go Go.Ideal Q
theorem nx3:(∀(M:VM) (o:MO),(M.new o).next=M.next+1)∧(∀(M:VM) (j:Nat) (o:MO),(M.put j o).next=M.next+1)∧ ∀(M:VM) (j:Nat),(M.del j).next=M.next:=⟨fun _ _=>new_next ..,fun _ _ _=>put_next ..,fun _ _=>del_next ..⟩
theorem bpl {k:DV→VM→Prop} {M M':VM} {d:DV} (hk:k d M) (hb:zG M.next d:=by simp) (h:SM M.next M M':=by repeat' (first|assumption|exact zbj _ _|apply zC|apply zT|apply zck| ((try simp only[nx3]);omega))):Back k M d M':=Back.plain hb h hk
def eSv (v:Sv):List DV:=[I v.k,I v.n]
def eB (b:UInt8):List DV:=[zdE b]
def mkS (l:List UInt8):ByteArray:=⟨⟨l⟩⟩
abbrev St (l:List UInt8):DV:=.str (mkS l)
@[simp] theorem mkS_nil:(⟨#[]⟩:ByteArray)=mkS []:=id rfl
@[simp] theorem mkS_size (l:List UInt8):(mkS l).size=l.length:=id rfl
@[simp] theorem mkS_list (l:List UInt8):(mkS l).data.toList=l:=id rfl
@[simp] theorem cells_byte (b:UInt8):zr (zdE b)=[zdE b]:=id rfl
@[simp] theorem isCell_byte (b:UInt8):zj (zdE b)=true:=id rfl
@[simp] theorem t_Sv (v:Sv):zcZ 2 (eSv v)=some (eSv v):=by simp[eSv]
@[simp] theorem all_Sv (v:Sv):(∀x,x∈eSv v→zj x=true)=True:=eq_true (by simp[eSv])
@[simp] theorem n_Sv (v:Sv):(eSv v).length=2:=by simp[eSv]
@[simp] theorem n_B (v:UInt8):(eB v).length=1:=by simp[eB]
theorem eq_bytes (l m:List UInt8):zZ l m=decide (l=m):=by
 induction l generalizing m with
 |nil=>cases m<;>simp[zZ]
 |cons a l ih=>
  cases m with
  |nil=>simp[zZ]
  |cons b m=>
   have e:qm a.toNat b.toNat=decide (a=b):=by
    by_cases h:a=b
    ·subst h;simp
    ·have:a.toNat≠b.toNat:=fun e=>h (UInt8.toNat_inj.1 e);rw[decide_eq_false h];cases e2:Nat.beq a.toNat b.toNat with
     |true=>exact absurd (qe e2) this
     |false=>rfl
   simp[zZ,ih,e]
section
variable {ek:EK}
@[simp] theorem bin_seq (l m:List UInt8):binD .eql ek (St l) (St m)=some (.bool (decide (l=m))):=by
  show some (DV.bool (zZ l m))=_;rw[eq_bytes]
@[simp] theorem bin_sne (l m:List UInt8):binD .neq ek (St l) (St m)=some (.bool (!decide (l=m))):=by
  show some (DV.bool (!zZ l m))=_;rw[eq_bytes]
theorem zkD (k:IntKind) (a b:Int):binD .neq ek (.int k a) (.int k b)=some (.bool (!decide (a=b))):=by
 show(if k=k then some (Value.bool (!eqI a b)) else none).bind dOf1=_;rw[if_pos rfl,zfN];rfl
theorem bin_ltK (k:IntKind) (a b:Int):binD .lss ek (.int k a) (.int k b)=some (.bool (decide (a<b))):=by
 show(if k=k then some (Value.bool (ltI a b)) else none).bind dOf1=_;rw[if_pos rfl,zff];rfl
end
@[simp] theorem strIdx_0 (l:List UInt8) (k:IntKind):strIdxD (St l) (.int k 0)=(l[0]?).map zdE:=id rfl
theorem zf0 {α:Type}: ∀(n:Nat) (l:List α),n≤l.length→zeH n l=some (l.take n)
 |0,l,_=>by cases l<;>rfl
 |n+1,[],h=>by simp at h
 |n+1,a::l,h=>by
  show((zeH n l).map (a:: ·))=_;rw[zf0 n l (by simpa using h)];rfl
theorem zf9 {α:Type}: ∀(n:Nat) (l:List α),zcW n l=l.drop n
 |0,l=>by cases l<;>rfl
 |n+1,[]=>rfl
 |n+1,a::l=>zf9 n l
theorem zjz (l:List UInt8) (k:IntKind) (a:Nat) (h:a≤l.length):zcn (some (.int k (a:Int))) none (St l)=some (St (l.drop a)):=by
 show((zl (mkS l).size (mkS l).size none).bind fun hi=>(zl 0 hi (some (.int k (a:Int)))).bind fun lo=>(zeH (hi - lo) (zcW lo l)).map fun l=>DV.str ⟨⟨l⟩⟩)=_;show((if a≤l.length then some a else none).bind fun lo=>(zeH (l.length - lo) (zcW lo l)).map fun l=>DV.str ⟨⟨l⟩⟩)=_;rw[if_pos h,qd,zf9,zf0 _ _ (by simp),List.take_of_length_le (by simp)];rfl
theorem strSlice_hi (l:List UInt8) (k:IntKind) (a:Nat) (h:a≤l.length):zcn none (some (.int k (a:Int))) (St l)=some (St (l.take a)):=by
 show((if a≤l.length then some a else none).bind fun hi=>(zeH (hi - 0) (zcW 0 l)).map fun l=>DV.str ⟨⟨l⟩⟩)=_;rw[if_pos h,qd,zf9,zf0 _ _ (by simpa using h)];rfl
theorem strSlice_both (l:List UInt8) (k k':IntKind) (a b:Nat) (h:a≤b) (hb:b≤l.length):zcn (some (.int k (a:Int))) (some (.int k' (b:Int))) (St l)=some (St ((l.take b).drop a)):=by
 show((if b≤l.length then some b else none).bind fun hi=>(if a≤hi then some a else none).bind fun lo=>(zeH (hi - lo) (zcW lo l)).map fun l=>DV.str ⟨⟨l⟩⟩)=_;rw[if_pos hb,qd,if_pos h,qd,zf9,zf0 _ _ (by simp;omega),List.drop_take];rfl
theorem zlL: ∀l:List UInt8,allO zgO (l.map eB)=some l
 | []=>rfl
 |b::l=>by
  have hb:zgO (eB b)=some b:=by
   show some (qh b.toNat)=some b;rw[UInt8.ofNat_toNat]
  show((zgO (eB b)).bind fun x=>(allO zgO (l.map eB)).map (x:: ·))=_;rw[hb,zlL l];rfl
theorem b2sD_of {M:VM} {d:DV} {l:List UInt8} (h:zew M 1 d=some (l.map eB)):b2sD M d=some (St l):=by
 unfold b2sD;rw[h,qd,zlL];rfl
theorem wrap_u8 (n:Int):IntKind.u8.wrap n=n%256:=by
 show(if(false&&decide (n%(2^8:Int)≥(2^7:Int)))=true then n%(2^8:Int) - (2^8:Int) else n%(2^8:Int))=_;simp
theorem wrap_u16 (n:Int):IntKind.u16.wrap n=n%65536:=by
 show(if(false&&decide (n%(2^16:Int)≥(2^15:Int)))=true then n%(2^16:Int) - (2^16:Int) else n%(2^16:Int))=_;simp
theorem wrap_u64 (n:Int):IntKind.u64.wrap n=n%18446744073709551616:=by
 show(if(false&&decide (n%(2^64:Int)≥(2^63:Int)))=true then n%(2^64:Int) - (2^64:Int) else n%(2^64:Int))=_;simp
theorem wrap_i64 {n:Int} (h1: -9223372036854775808≤n) (h2:n<9223372036854775808):IntKind.i64.wrap n=n:=by rw[←ziX];exact zP h1 h2
@[simp] theorem un_neg (n:Int):unD .neg (I n)=some (I (ziO .i64 (0 - n))):=by
  show some (DV.int .i64 (IntKind.i64.wrap (0 - n)))=_;rw[ziX]
theorem zhD (k:IntKind) (n:Nat):zkw .u8 (.int k (n:Int))=some (zdE (qh n)):=by
 show some (DV.int .u8 (IntKind.u8.wrap n))=some (DV.int .u8 ((qh n).toNat:Int));rw[wrap_u8,qH]
 congr 2
theorem conv_i64 (k:IntKind) (n:Nat) (h:n<9223372036854775808):zkw .i64 (.int k (n:Int))=some (I n):=by
 show some (DV.int .i64 (IntKind.i64.wrap n))=_;rw[wrap_i64 (by omega) (by omega)]
theorem conv_u64 (k:IntKind) (n:Nat) (h:n<9223372036854775808):zkw .u64 (.int k (n:Int))=some (.int .u64 (n:Int)):=by
 show some (DV.int .u64 (IntKind.u64.wrap n))=_;rw[wrap_u64,qZ (by omega) (by omega)]
theorem conv_u16 (k:IntKind) (n:Nat) (h:n<65536):zkw .u16 (.int k (n:Int))=some (.int .u16 (n:Int)):=by
 show some (DV.int .u16 (IntKind.u16.wrap n))=_;rw[wrap_u16,qZ (by omega) (by omega)]
section
variable {ek:EK}
theorem zgc (k k':IntKind) (n m:Nat) (hm:m≤k.bits):binD .shr ek (.int k (n:Int)) (.int k' (m:Int))=some (.int k ((n / 2^m:Nat):Int)):=by
 show Option.bind (if ltI (m:Int) 0=true then none else some (Value.int k ((n:Int).fdiv (2^(min (m:Int).toNat k.bits))))) dOf1=_;rw[zff];simp only[show¬((m:Int)<0) by omega,decide_false,qV,if_false,qd];rw[qba,Nat.min_eq_left hm];show some (DV.int k _)=_
 congr 2
 rw[Int.fdiv_eq_ediv_of_nonneg _ (by exact_mod_cast Nat.zero_le (2^m))]
 norm_cast
theorem bin_shlN (k k':IntKind) (n m:Nat) (hm:m≤k.bits):binD .shl ek (.int k (n:Int)) (.int k' (m:Int))=some (.int k (k.wrap ((n*2^m:Nat):Int))):=by
 show Option.bind (if ltI (m:Int) 0=true then none else some (Value.int k (k.wrap ((n:Int)*2^(min (m:Int).toNat k.bits))))) dOf1=_;rw[zff];simp only[show¬((m:Int)<0) by omega,decide_false,qV,if_false,qd];rw[qba,Nat.min_eq_left hm];show some (DV.int k _)=_
 congr 3
 all_goals norm_cast
theorem bvN {w m:Nat} (h:m<2^w):(qx w (m:Int)).toNat=m:=by
 rw[BitVec.ofInt_natCast,BitVec.toNat_ofNat,qL h]
theorem zhI (k:IntKind) (a b:Nat) (ha:a<2^k.bits) (hb:b<2^k.bits):binD .and ek (.int k (a:Int)) (.int k (b:Int))=some (.int k (k.wrap ((a &&& b:Nat):Int))):=by
 show((if k=k then some (Value.int k (k.wrap (((qx k.bits (a:Int) &&& qx k.bits (b:Int)).toNat:Nat):Int))) else none).bind dOf1)=_;rw[if_pos rfl,BitVec.toNat_and,bvN ha,bvN hb];rfl
theorem bin_orN (k:IntKind) (a b:Nat) (ha:a<2^k.bits) (hb:b<2^k.bits):binD .or ek (.int k (a:Int)) (.int k (b:Int))=some (.int k (k.wrap ((a ||| b:Nat):Int))):=by
 show((if k=k then some (Value.int k (k.wrap (((qx k.bits (a:Int) ||| qx k.bits (b:Int)).toNat:Nat):Int))) else none).bind dOf1)=_;rw[if_pos rfl,BitVec.toNat_or,bvN ha,bvN hb];rfl
theorem bin_xorN (k:IntKind) (a b:Nat) (ha:a<2^k.bits) (hb:b<2^k.bits):binD .xor ek (.int k (a:Int)) (.int k (b:Int))=some (.int k (k.wrap ((a ^^^ b:Nat):Int))):=by
 show((if k=k then some (Value.int k (k.wrap (((qx k.bits (a:Int) ^^^ qx k.bits (b:Int)).toNat:Nat):Int))) else none).bind dOf1)=_;rw[if_pos rfl,BitVec.toNat_xor,bvN ha,bvN hb];rfl
theorem and127 (n:Nat):n &&& 127=n%128:=qG n 7
theorem and1 (n:Nat):n &&& 1=n%2:=qG n 1
theorem and2 (n:Nat):n &&& 2=2*(n / 2%2):=by
 have h:=Nat.and_mod_two_pow (a:=n) (b:=2) (n:=2);have hle:n &&& 2≤2:=Nat.and_le_right;rw[qL (by omega)] at h;rw[h];have h4:n%4=0∨n%4=1∨n%4=2∨n%4=3:=by omega
 show(n%4) &&& 2=_;rcases h4 with e|e|e|e<;>rw[e]<;>(have:n / 2%2=0∨n / 2%2=1:=by omega)<;>rcases this with q|q<;>rw[q]<;>first|rfl| (exfalso;omega)
theorem or128 {n:Nat} (h:n<128):n ||| 128=n+128:=by
 have:=qI (i:=7) (b:=n) h 1;rw[Nat.or_comm];simp at this;omega
theorem or_add {n a:Nat} (m:Nat) (h:n<2^m):n ||| a*2^m=n+a*2^m:=by
 have:=qI (i:=m) (b:=n) h a;rw[Nat.or_comm,Nat.mul_comm a,←this,Nat.add_comm]
end
def Off (d:DV) (i:Nat):Prop:=match d with
 |.ms j _ _ _=>i≠j
 |_=>True
structure Lb (M:VM) (d:DV) (s:Nat) (rows:List (List DV)):Prop where
 row: ∀r∈rows,r.length=s
 v:(rows=[]∧d=.nilS)∨ ∃j op cap,j<M.next∧d=.ms j 0 rows.length cap∧M.obj j=some (.rows op s rows)∧(op=true∧cap=zc∨op=false∧cap=rows.length∧cap<zc)
structure Gro (M:VM) (d:DV) (M':VM) (d':DV):Prop where
 nx:M.next≤M'.next
 kp: ∀i,i<M.next→Off d i→M'.get i=M.get i
 of: ∀i,i<M.next→Off d i→Off d' i
section
variable {M M' M2:VM} {d d' d2:DV} {s:Nat} {rows:List (List DV)}
theorem Gro.refl (M:VM) (d:DV):Gro M d M d:=⟨qj _,fun _ _ _=>rfl,fun _ _ h=>h⟩
theorem Gro.trans (h:Gro M d M' d') (h2:Gro M' d' M2 d2):Gro M d M2 d2:=⟨qM h.nx h2.nx,fun i hi ho=>(h2.kp i (ql hi h.nx) (h.of i hi ho)).trans (h.kp i hi ho),fun i hi ho=>h2.of i (ql hi h.nx) (h.of i hi ho)⟩
theorem Gro.pre (o:MO) (h:Gro (M.new o) d M' d'):Gro M d M' d':=⟨qM (qB _) h.nx,fun i hi ho=>(h.kp i (qv hi) ho).trans (by rw[get_new,if_neg (by omega)]),fun i hi ho=>h.of i (qv hi) ho⟩
theorem Gro.obj (h:Gro M d M' d') {i:Nat} (hi:i<M.next) (ho:Off d i):M'.obj i=M.obj i:=by
 show(M'.get i).map _=(M.get i).map _;rw[h.kp i hi ho]
theorem Lb.nil (M:VM) (s:Nat):Lb M .nilS s []:=⟨by simp,.inl ⟨rfl,rfl⟩⟩
theorem Lb.keep (h:Lb M d s rows) (hn:M.next≤M2.next) (hk: ∀i,i<M.next→ ¬Off d i→M2.get i=M.get i):Lb M2 d s rows:=⟨h.row,by
 rcases h.v with h1| ⟨j,op,cap,h2,rfl,h4,h5⟩
 ·exact .inl h1
 ·refine .inr ⟨j,op,cap,ql h2 hn,rfl,?_,h5⟩;rw[←h4];show(M2.get j).map _=(M.get j).map _;rw[hk j h2 (fun q=>q rfl)]⟩
theorem Lb.new (h:Lb M d s rows) (o:MO):Lb (M.new o) d s rows:=h.keep (qB _) fun i hi _=>by rw[get_new,if_neg (by omega)]
theorem Lb.put (h:Lb M d s rows) {i:Nat} (hi:Off d i) (o:MO):Lb (M.put i o) d s rows:=h.keep (qB _) fun j hj hn=>by
 rw[get_put,if_neg (fun e=>hn (by rw[e];exact hi))]
theorem Lb.off (h:Lb M d s rows) {i:Nat} {o:MO} (ho:M.obj i=some o) (hne: ∀op,o≠ .rows op s rows):Off d i:=by
 rcases h.v with⟨_,rfl⟩| ⟨j,op,cap,h2,rfl,h4,h5⟩
 ·trivial
 ·intro e;subst e;rw[h4] at ho;cases ho;exact hne op rfl
theorem Lb.cells (h:Lb M d s rows):zr d=[d]:=by
 rcases h.v with⟨_,rfl⟩| ⟨j,_,_,h2,rfl,_⟩<;>rfl
theorem Lb.cell (h:Lb M d s rows):zj d=true:=by
 rcases h.v with⟨_,rfl⟩| ⟨j,_,_,h2,rfl,_⟩<;>rfl
theorem Lb.self (h:Lb M d s rows):zc8 d=true:=by
 rcases h.v with⟨_,rfl⟩| ⟨j,_,_,h2,rfl,_⟩<;>rfl
theorem Lb.below (h:Lb M d s rows):zG M.next d:=by
 rcases h.v with⟨_,rfl⟩| ⟨j,_,_,h2,rfl,_⟩
 ·exact .nilS
 ·exact .ms h2
theorem Lb.offN (h:Lb M d s rows) {i:Nat} (hi:M.next≤i):Off d i:=by
 rcases h.v with⟨_,rfl⟩| ⟨j,_,_,h2,rfl,_⟩
 ·trivial
 ·show i≠j;omega
theorem Lb.len (h:Lb M d s rows):lenD M2 d=some rows.length:=by
 rcases h.v with⟨rfl,rfl⟩| ⟨j,_,_,h2,rfl,_⟩<;>rfl
theorem Lb.elems (h:Lb M d s rows) (hs:s≠0):zew M s d=some rows:=by
 rcases h.v with⟨rfl,rfl⟩| ⟨j,op,cap,h2,rfl,h4,_⟩
 ·rfl
 ·unfold zew;simp[h4]
theorem Lb.appended (h:Lb M d s rows) (hs:s≠0):zbA M s d=some rows:=by
 have:=h.elems hs;rcases h.v with⟨rfl,rfl⟩| ⟨j,op,cap,h2,rfl,h4,_⟩<;>exact this
theorem Lb.app (h:Lb M d s rows) {new:List (List DV)} {bytes:Nat} (hr: ∀r∈new,r.length=s) (hb:(rows.length+new.length)*bytes≤1073741824): ∃d' M',zcL s bytes M new d=some (d',M')∧Lb M' d' s (rows++new)∧Gro M d M' d':=by
 by_cases hn:new=[]
 ·subst hn;refine⟨d,M,?_,by rw[List.append_nil];exact h,.refl _ _⟩;rcases h.v with⟨_,rfl⟩| ⟨j,_,_,h2,rfl,_⟩<;>(unfold zcL;rw[if_pos rfl])
 have hrow: ∀r∈rows++new,r.length=s:=fun r hm=>by
  rcases List.mem_append.1 hm with hm|hm
  ·exact h.row r hm
  ·exact hr r hm
 have hnl:0<new.length:=by cases new with|nil=>exact absurd rfl hn|cons=>simp
 rcases h.v with⟨rfl,rfl⟩| ⟨j,op,cap,h2,rfl,h4,h5⟩
 ·refine⟨_,_,by unfold zcL;rw[if_neg hn];dsimp only;rw[if_pos (by simpa using hb)],⟨hrow,.inr ⟨M.next,true,zc,qN _,by simp[zgD],by simp[zgD],.inl ⟨rfl,rfl⟩⟩⟩,qB _,fun i hi _=>by show(M.new _).get i=_;rw[get_new,if_neg (by omega)],fun i hi _=>by show i≠M.next;omega⟩
 ·rcases h5 with⟨rfl,rfl⟩| ⟨rfl,rfl,hc⟩
  ·have e:zcL s bytes M new (.ms j 0 rows.length zc)=some (zgD (M.del j) s (rows++new)):=by
    unfold zcL;rw[if_neg hn];dsimp only;rw[if_pos hb,h4];show zhJ s M new j 0 rows.length zc (.rows true s rows)=_;unfold zhJ;dsimp only;rw[if_pos ⟨rfl,by omega⟩,if_pos rfl,if_neg (by omega),List.drop_zero,qo]
   refine⟨_,_,e,⟨hrow,.inr ⟨M.next,true,zc,qN _,by simp[zgD,VM.del],by simp[zgD,VM.del],.inl ⟨rfl,rfl⟩⟩⟩,qB _,fun i hi ho=> ?_,fun i hi _=>by show i≠M.next;omega⟩;show((M.del j).new _).get i=_;rw[get_new,if_neg (by show i≠M.next;omega),get_del,if_neg ho]
  ·have e:zcL s bytes M new (.ms j 0 rows.length rows.length)=some (zgD M s (rows++new)):=by
    unfold zcL;rw[if_neg hn];dsimp only;rw[if_pos hb,h4];show zhJ s M new j 0 rows.length rows.length (.rows false s rows)=_;unfold zhJ;dsimp only;rw[if_pos ⟨rfl,by omega⟩,if_pos hc,if_neg (by omega),List.drop_zero,qo]
   refine⟨_,_,e,⟨hrow,.inr ⟨M.next,true,zc,qN _,by simp[zgD],by simp[zgD],.inl ⟨rfl,rfl⟩⟩⟩,qB _,fun i hi _=>by show(M.new _).get i=_;rw[get_new,if_neg (by omega)],fun i hi _=>by show i≠M.next;omega⟩
theorem Lb.blt (h:Lb M d s rows) {x:DV} {new:List (List DV)} {bytes:Nat} (hx:zbA M s x=some new) (hs:0<s∧s<roE) (hc: ∀r∈new,∀c∈r,zj c=true) (hr: ∀r∈new,r.length=s) (hb:(rows.length+new.length)*bytes≤1073741824):
 ∃d' M',bltD M (.append s bytes) [d,x]=some (d',M')∧Lb M' d' s (rows++new)∧Gro M d M' d':=by
 obtain⟨d',M',e,h'⟩:=h.app hr hb;exact⟨d',M',by rw[bltD_append,if_pos hs,hx,apN_some,if_pos (by simpa[qg] using hc),e],h'⟩
end
section
variable {M:VM} {d:DV} {s:Nat} {rows:List (List DV)} {X:RnD} {fr:FrC}
theorem zgV {bytes:Nat} {new:List (List DV)} {x:DV} {dst:Option (List Bool)} {r:List CI} {sl:DS} (h:Lb M d s rows) (hx:zbA M s x=some new) (hs:0<s∧s<roE) (hc: ∀r∈new,∀c∈r,zj c=true) (hr: ∀r∈new,r.length=s) (hb:(rows.length+new.length)*bytes≤1073741824) (k: ∀d' M',Lb M' d' s (rows++new)→Gro M d M' d'→ @Op X fr r (zY dst d' sl) M'): @Rs X fr (bltD M (.append s bytes) [d,x]) dst r sl:=by
 obtain⟨d',M',e,h1,h2⟩:=h.blt hx hs hc hr hb;rw[e];exact k d' M' h1 h2
theorem zkQ {bytes:Nat} {new:List (List DV)} {x:DV} {dst:Option (List Bool)} {l:List CI} {bs:List Mo} {sl:DS} (h:Lb M d s rows) (hx:zbA M s x=some new) (hs:0<s∧s<roE) (hc: ∀r∈new,∀c∈r,zj c=true) (hr: ∀r∈new,r.length=s) (hb:(rows.length+new.length)*bytes≤1073741824) (k: ∀d' M',Lb M' d' s (rows++new)→Gro M d M' d'→ @Dr X fr l (⟨zj3 bs,M',[]⟩::bs.map (zcz dst)) (zY dst d' sl) M'): @DrW X fr (bltD M (.append s bytes) [d,x]) dst l bs sl:=by
 obtain⟨d',M',e,h1,h2⟩:=h.blt hx hs hc hr hb;rw[e];exact k d' M' h1 h2
end
theorem c_B (v:UInt8): ∀c∈eB v,zj c=true:=by simp[eB,zdE]
theorem b_Sv {n:Nat} (v:Sv): ∀d∈eSv v,zG n d:=by simp[eSv]
theorem mapc {α:Type} {f:α→List DV} (h: ∀a,∀c∈f a,zj c=true) (l:List α): ∀r∈l.map f,∀c∈r,zj c=true:=fun r hr c hc=>by
 obtain⟨a,_,rfl⟩:=qW.1 hr;exact h a c hc
theorem mapl {α:Type} {f:α→List DV} {s:Nat} (h: ∀a,(f a).length=s) (l:List α): ∀r∈l.map f,r.length=s:=fun r hr=>by
 obtain⟨a,_,rfl⟩:=qW.1 hr;exact h a
theorem mapb {α:Type} {n:Nat} {f:α→List DV} (h: ∀a,∀d∈f a,zG n d) (l:List α): ∀r∈l.map f,∀d∈r,zG n d:=fun r hr=>by
 obtain⟨a,-,rfl⟩:=qW.1 hr;exact h a
end Go.Ideal.S
namespace Go.Ideal.S
open Go Go.Ideal Q Classical
attribute [local simp] decide_eq_true decide_eq_false zP
section
attribute [local simp] c_S f_S r_S_1 r_S_2 r_S_3 r_S_4 r_S_6
variable {M:VM} {k kp:DV→VM→Prop} {n0:Nat}
theorem num_step {q:Nat} (h:q<2^62): ∃r s t:Nat,(∀ek,binD .and ek (I q) (I 127)=some (I r))∧(∀ek,binD .or ek (I r) (I 128)=some (I s))∧zkw .u8 (I s)=some (zdE (qh (q%128+128)))∧(∀ek,binD .shr ek (I q) (.int .u64 7)=some (I t))∧t=q / 128:=by
 refine⟨q%128,q%128+128,q / 128,fun ek=> ?_,fun ek=> ?_,zhD _ _,fun ek=>zgc (ek:=ek) .i64 .u64 q 7 (by decide),rfl⟩
 ·have h1:=zhI (ek:=ek) .i64 q 127 (by show q<2^64;omega) (by show 127<2^64;omega);rw[and127,wrap_i64 (by omega) (by omega)] at h1;exact h1
 ·have h2:=bin_orN (ek:=ek) .i64 (q%128) 128 (by show q%128<2^64;omega) (by show 128<2^64;omega);rw[or128 (by omega),wrap_i64 (by omega) (by omega)] at h2;exact h2
theorem zhf {d:DV} {l:List UInt8} {n:Nat} (h:Lb M d 1 (l.map eB)) (hn:n<2^62) (hl:l.length+(numB n).length≤1000000000) (hk: ∀d' M',Lb M' d' 1 ((l++numB n).map eB)→Gro M d M' d'→k d' M'):zg F (.fn n_S [] []) [d,I n] M k kp:=by
 refine .fn h_wire_number rfl (by simp[f_S]) ?_;simp;refine .while (σ:=VM×DV×List UInt8×Nat) c_S_5.eq_1 (fun z=>[(0,z.2.1),(1,I z.2.2.2)]) (fun z=>z.1) (fun z=>Lb z.1 z.2.1 1 (z.2.2.1.map eB)∧Gro M d z.1 z.2.1∧z.2.2.1++numB z.2.2.2=l++numB n∧z.2.2.2≤n) (fun z=>z.2.2.2) (M,d,l,n) (by simp) rfl ⟨h,.refl _ _,rfl,qj _⟩ (fun z hP again=> ?_);obtain⟨y,e,m,q⟩:=z;obtain⟨p1,p2,p3,p4⟩:=hP;dsimp only at*;have hlen:=congrArg qD p3;simp only[qi] at hlen;by_cases hq:127<q
 ·obtain⟨r,s,t,c1,c2,c3,c4,ht⟩:=num_step (q:=q) (by omega);have e1:numB q=UInt8.ofNat (q%128+128)::numB (q / 128):=by rw[numB,if_neg (by omega)]
  generalize qh (q%128+128)=b at*;have hqi:(127:Int)<q:=by omega
  simp[hqi,c1,c2,c3];rw[e1] at hlen;simp only[qp] at hlen;refine zgV (p1.new _) (new:=[[zdE b]]) (by simp) (by decide) (by simp) (by simp) (by simp;omega) fun d' M' hL hG=> ?_;have again:=again (M',d',m++[b],t) (by dsimp only;omega) ⟨by simpa[eB] using hL,p2.trans hG.pre,by rw[←p3,e1,ht];simp,by dsimp only;omega⟩;simp at again;simp[c4];exact again
 ·have e1:numB q=[UInt8.ofNat q]:=by rw[numB,if_pos (by omega)]
  have hqi: ¬(127:Int)<q:=by omega
  have c3:=zhD .i64 q;generalize qh q=b at*;simp[hqi,c3];refine zgV (p1.new _) (new:=[[zdE b]]) (by simp) (by decide) (by simp) (by simp) (by simp;omega) fun d' M' hL hG=> ?_;simp;exact hk d' M' (by rw[←p3,e1];simpa[eB] using hL) (p2.trans hG.pre)
def entF:List Sv→Nat→List (DV×DV)
 | [],_=>[]
 |v::l,n=>(.agg (eSv v),I n)::entF l (n+1)
theorem entF_app: ∀(l m:List Sv) (n:Nat),entF (l++m) n=entF l n++entF m (n+l.length)
 | [],m,n=>by simp[entF]
 |v::l,m,n=>by simp[entF,entF_app l m (n+1),Nat.add_assoc,Nat.add_comm 1]
theorem zcD (v w:Sv):zD (.leaves [0,1]) (.agg (eSv v)) (.agg (eSv w))=some (decide (v=w)):=by
 show(some (eqI v.k w.k)).bind (fun b=>((some (eqI v.n w.n)).bind fun b=>(some true).map fun c=>b&&c).map fun c=>b&&c)=_;rw[zfN,zfN];show some (decide (v.k=w.k)&&(decide (v.n=w.n)&&true))=_;rw[Bool.and_true]
 congr 1
 by_cases h:v=w
 ·subst h;simp
 ·rw[decide_eq_false h];by_cases h1:v.k=w.k
  ·have:v.n≠w.n:=fun h2=>h (by cases v;cases w;simp at h1 h2;simp[h1,h2]);simp[this]
  ·simp[h1]
theorem find_ent (v:Sv): ∀(l:List Sv) (n:Nat),zes (.leaves [0,1]) (.agg (eSv v)) (entF l n)=some (if v∈l then some (I ((n+l.idxOf v:Nat):Int)) else none)
 | [],n=>by simp[entF,zes]
 |w::l,n=>by
  show((zD (.leaves [0,1]) (.agg (eSv v)) (.agg (eSv w))).bind fun b=>match b with|true=>some (some (I n))|false=>zes (.leaves [0,1]) (.agg (eSv v)) (entF l (n+1)))=_;rw[zcD,qd];by_cases h:v=w
  ·subst h;rw[decide_eq_true rfl];simp
  ·rw[decide_eq_false h];dsimp only;rw[find_ent v l (n+1),List.idxOf_cons,show(w==v)=false from beq_eq_false_iff_ne.2 (fun e=>h e.symm)];by_cases hm:v∈l
   ·rw[if_pos hm,if_pos (qA _ hm)];simp only[cond_false];rw[show n+1+l.idxOf v=n+(l.idxOf v+1) by omega]
   ·rw[if_neg hm,if_neg (by simp;exact⟨h,hm⟩)]
theorem set_ent (v:Sv) (x:DV): ∀(l:List Sv) (n:Nat),v∉l→setD (.leaves [0,1]) (.agg (eSv v)) x (entF l n)=some (entF l n++[(.agg (eSv v),x)])
 | [],n,_=>rfl
 |w::l,n,h=>by
  have h1:v≠w:=fun e=>h (by rw[e];exact qJ);show((zD (.leaves [0,1]) (.agg (eSv v)) (.agg (eSv w))).bind fun s=>match s with
   |true=>if zb1 (zr (.agg (eSv v))) (zr (.agg (eSv w)))=true then some ((.agg (eSv v),x)::entF l (n+1)) else none
   |false=>(setD (.leaves [0,1]) (.agg (eSv v)) x (entF l (n+1))).map fun y=>(.agg (eSv w),I n)::y)=_
  rw[zcD,qd,decide_eq_false h1];dsimp only;rw[set_ent v x l (n+1) (fun q=>h (qA _ q))];rfl
structure Base where
 m:VM
 fr:Nat→Prop
abbrev bas (M:VM):Base:=⟨M,fun i=>i<M.next⟩
structure WrE (B:Base) (M:VM) (j:Nat) (t:List Sv) (b:List UInt8) (dn:DV) (jm:Nat) (db:DV):Prop where
 sm: ∀i,B.fr i→M.get i=B.m.get i
 nx: ∀i,B.fr i→i<M.next
 j1: ¬B.fr j
 j2:j<M.next
 m1: ¬B.fr jm
 m2:jm<M.next
 oj:M.obj j=some (.rows false 3 [[dn,.map jm,db]])
 om:M.obj jm=some (.map (entF t 0))
 ln:Lb M dn 2 (t.map eSv)
 lb:Lb M db 1 (b.map eB)
 fn: ∀i,B.fr i→Off dn i∧Off db i
def WrM (B:Base) (M:VM) (j:Nat) (t:List Sv) (b:List UInt8):Prop:= ∃dn jm db,WrE B M j t b dn jm db
section
variable {B:Base} {M':VM} {j jm:Nat} {t:List Sv} {b:List UInt8} {dn db:DV}
theorem WrE.new (h:WrE B M j t b dn jm db) (o:MO):WrE B (M.new o) j t b dn jm db:=
 ⟨fun i hi=>by rw[get_new,if_neg (by have:=h.nx i hi;omega)];exact h.sm i hi,fun i hi=>qv (h.nx i hi),h.j1,qv h.j2,h.m1,qv h.m2,by rw[zK _ h.j2];exact h.oj,by rw[zK _ h.m2];exact h.om,h.ln.new o,h.lb.new o,h.fn⟩
theorem WrE.jm_ne (h:WrE B M j t b dn jm db):jm≠j:=fun e=>by have:=h.om;rw[e,h.oj] at this;cases this
theorem WrE.nj (h:WrE B M j t b dn jm db):Off dn j:=h.ln.off h.oj (fun op e=>by cases e)
theorem WrE.nm (h:WrE B M j t b dn jm db):Off dn jm:=h.ln.off h.om (fun op e=>by cases e)
theorem WrE.bj (h:WrE B M j t b dn jm db):Off db j:=h.lb.off h.oj (fun op e=>by cases e)
theorem WrE.bm (h:WrE B M j t b dn jm db):Off db jm:=h.lb.off h.om (fun op e=>by cases e)
theorem WrE.fj (h:WrE B M j t b dn jm db) {i:Nat} (hi:B.fr i):i≠j:=fun e=>h.j1 (by rw[←e];exact hi)
theorem WrE.fm (h:WrE B M j t b dn jm db) {i:Nat} (hi:B.fr i):i≠jm:=fun e=>h.m1 (by rw[←e];exact hi)
theorem WrE.body (h:WrE B M j t b dn jm db) {db':DV} {b':List UInt8} (hL:Lb M' db' 1 (b'.map eB)) (hG:Gro M db M' db'):WrE B (M'.put j (.rows false 3 [[dn,.map jm,db']])) j t b' dn jm db':=by
 have hnx:=hG.nx;have c:=h.j2;have f:=h.m2;have hbj:=h.bj;have hbm:=h.bm;refine⟨fun i hi=>by rw[get_put,if_neg (h.fj hi)];exact(hG.kp i (h.nx i hi) (h.fn i hi).2).trans (h.sm i hi),fun i hi=>by have:=h.nx i hi;simp;omega,h.j1,by simp;omega,h.m1,by simp;omega,by simp,?_,?_,?_,fun i hi=>⟨(h.fn i hi).1,hG.of i (h.nx i hi) (h.fn i hi).2⟩⟩
 ·rw[zO,if_neg h.jm_ne,hG.obj f hbm];exact h.om
 ·refine(h.ln.keep (M2:=M') hnx fun i hi hn=>hG.kp i hi ?_).put h.nj _;rcases h.lb.v with⟨_,e2⟩| ⟨q,op,cap,q1,e2,q2,_⟩
  ·rw[e2];trivial
  ·rw[e2];intro e3;subst e3;refine hn (h.ln.off q2 fun op e=> ?_);injection e with _ e4;cases e4
 ·exact hL.put (hG.of j c hbj) _
theorem WrE.table (h:WrE B M j t b dn jm db) {dn':DV} {v:Sv} (hv:v∉t) (hL:Lb M' dn' 2 ((t++[v]).map eSv)) (hG:Gro M dn M' dn'):WrE B ((M'.put j (.rows false 3 [[dn',.map jm,db]])).put jm (.map (entF (t++[v]) 0))) j (t++[v]) b dn' jm db:=by
 have hnx:=hG.nx;have c:=h.j2;have f:=h.m2;have hne:=h.jm_ne;refine⟨fun i hi=>by rw[get_put,if_neg (h.fm hi),get_put,if_neg (h.fj hi)];exact(hG.kp i (h.nx i hi) (h.fn i hi).1).trans (h.sm i hi),fun i hi=>by have:=h.nx i hi;simp;omega,h.j1,by simp;omega,h.m1,by simp;omega,?_,by simp,?_,?_,fun i hi=>⟨hG.of i (h.nx i hi) (h.fn i hi).1,(h.fn i hi).2⟩⟩
 ·rw[zO,if_neg (fun e=>hne e.symm),zO,if_pos rfl]
 ·exact(hL.put (hG.of j c h.nj) _).put (hG.of jm f h.nm) _
 ·refine((h.lb.keep (M2:=M') hnx fun i hi hn=>hG.kp i hi ?_).put h.bj _).put h.bm _;rcases h.ln.v with⟨_,e2⟩| ⟨q,op,cap,q1,e2,q2,_⟩
  ·rw[e2];trivial
  ·rw[e2];intro e3;subst e3;refine hn (h.lb.off q2 fun op e=> ?_);injection e with _ e4;cases e4
def zcE (t:List Sv) (v:Sv):List Sv:=if v∈t then t else t++[v]
attribute [local simp] c_z f_z r_z_1 r_z_2 r_z_3 r_z_4 r_z_5 r_z_6 r_z_7
theorem zia (h:WrM B M j t b) (v:Sv) (ht:t.length≤10000000) (hk: ∀M',WrM B M' j (zcE t v) b→k (I ((t.idxOf v:Nat):Int)) M'):zg F (.fn n_z [] []) [.ptr j 0 0,.agg (eSv v)] M k kp:=by
 obtain⟨dn,jm,db,h⟩:=h;have a:=h.j2;have c:=h.m2;have o1:=h.oj;have o2:=h.om;have hf:=find_ent v t 0;rw[Nat.zero_add] at hf;have hl:lkE (.leaves [0,1]) (I 0) true (.agg (eSv v)) (some (entF t 0))=some (zbw (I 0) true (if v∈t then some (I ((t.idxOf v:Nat):Int)) else none)):=by
  show(match zD (.leaves [0,1]) (.agg (eSv v)) (.agg (eSv v)) with|some _=>(zes (.leaves [0,1]) (.agg (eSv v)) (entF t 0)).map (zbw (I 0) true)|none=>none)=_;rw[zcD,hf];rfl
 refine .fn zfH rfl (by simp[f_z]) ?_;by_cases hv:v∈t
 ·rw[if_pos hv] at hl;have hk:=hk (M.new (.rows false 2 [eSv v])) ⟨dn,jm,db,by unfold zcE;rw[if_pos hv];exact h.new _⟩;generalize ((t.idxOf v:Nat):Int)=ix at*;simp(disch:=((try simp only[nx3]);omega)) [o1,o2,hl,zbw];exact hk
 ·rw[if_neg hv] at hl;have e0:t.idxOf v=t.length:=List.idxOf_eq_length hv;rw[e0] at hk;have hs:=set_ent v (I (t.length:Int)) t 0 hv;simp(disch:=((try simp only[nx3]);omega)) [o1,o2,hl,zbw,h.ln.len];refine zkQ ((h.ln.new _).new _) (new:=[eSv v]) (by simp) (by decide) (by simp) (by simp) (by simp;omega) fun d' M' hL hG=> ?_;have hG2:=hG.pre.pre;have nx:=hG2.nx;have p1:M'.obj j=some (.rows false 3 [[dn,.map jm,db]]):=by rw[hG2.obj a h.nj];exact o1
  have p2:M'.obj jm=some (.map (entF t 0)):=by rw[hG2.obj c h.nm];exact o2
  have p3:M'.obj M.next=some (.rows false 2 [eSv v]):=by rw[hG.pre.obj (by simp) (by rcases h.ln.v with⟨_,e⟩| ⟨q,_,_,q1,e,_⟩<;>rw[e]<;>first|trivial| (show M.next≠q;omega))];simp
  have hne:=h.jm_ne;have hk:=hk _ ⟨_,_,_,by unfold zcE;rw[if_neg hv];exact h.table hv (by simpa using hL) hG2⟩;have a2:j<M'.next:=by omega
  have a3:M.next≠j:=by omega
  have a4:j≠jm:=fun e=>hne e.symm;rw[entF_app] at hk;simp[entF] at hk;have a5:M.next≠jm:=by omega
  have c1:=hL.cells;have c2:=hL.cell;have hu: ∀y:VM,y.obj jm=some (.map (entF t 0))→updD (.leaves [0,1]) y (.agg (eSv v)) (I (t.length:Int)) (.map jm)=some (y.put jm (.map (entF t 0++[(.agg (eSv v),I (t.length:Int))]))):=fun y hy=>by
   show(y.obj jm).bind _=_;rw[hy];show(zD (.leaves [0,1]) (.agg (eSv v)) (.agg (eSv v))).bind (fun _=>(setD (.leaves [0,1]) (.agg (eSv v)) (I (t.length:Int)) (entF t 0)).map fun es=>y.put jm (.map es))=_;rw[zcD,hs];rfl
  have hu:=hu (M'.put j (.rows false 3 [[d',.map jm,db]])) (by rw[zO,if_neg hne];exact p2);simp(disch:=((try simp only[nx3]);omega)) [p1,p2,p3,a2,a3,a4,a5,hne,hu,c1,c2];exact hk
attribute [local simp] c_K f_K r_K_1
theorem wnum_ok (h:WrM B M j t b) (n:Nat) (hn:n<2^62) (hl:b.length+(numB n).length≤1000000000) (hk: ∀M',WrM B M' j t (b++numB n)→k (.tup []) M'):zg F (.fn n_K [] []) [.ptr j 0 0,I n] M k kp:=by
 obtain⟨dn,jm,db,h⟩:=h;have a:=h.j2;have c:=h.m2;have o1:=h.oj;have o2:=h.om;refine .fn zhs rfl (by simp[f_K]) ?_;simp(disch:=((try simp only[nx3]);omega)) [o1];refine zhf h.lb hn hl fun d' M' hL hG=> ?_;have p1:M'.obj j=some (.rows false 3 [[dn,.map jm,db]]):=by rw[hG.obj a h.bj];exact o1
 have hk:=hk _ ⟨_,_,_,h.body hL hG⟩;have c1:=hL.cells;have c2:=hL.cell;simp(disch:=((try simp only[nx3]);omega)) [p1,c1,c2];exact hk
attribute [local simp] c_Y f_Y r_Y_1 c_0 f_0 r_0_1
theorem wchan_ok (h:WrM B M j t b) (n:Int) (ht:t.length≤10000000) (hl:b.length≤900000000) (hk: ∀M',WrM B M' j (zcE t (chn n)) (b++numB (t.idxOf (chn n)))→k (.tup []) M'):zg F (.fn n_Y [] []) [.ptr j 0 0,I n] M k kp:=by
 have hi:t.idxOf (chn n)≤t.length:=qn;have hp:(2:Nat)^62=4611686018427387904:=by decide
 have hq:=zbn (t.idxOf (chn n)) (by omega);refine .fn zfk rfl (by simp[f_Y]) ?_;simp(disch:=((try simp only[nx3]);omega));refine zia h (chn n) ht fun M' h'=> ?_;simp(disch:=((try simp only[nx3]);omega));refine wnum_ok h' _ (by omega) (by omega) fun M2 h2=> ?_;simp(disch:=((try simp only[nx3]);omega));exact hk M2 h2
theorem wplace_ok (h:WrM B M j t b) (n:Int) (ht:t.length≤10000000) (hl:b.length≤900000000) (hk: ∀M',WrM B M' j (zcE t (plc n)) (b++numB (t.idxOf (plc n)))→k (.tup []) M'):zg F (.fn n_0 [] []) [.ptr j 0 0,I n] M k kp:=by
 have hi:t.idxOf (plc n)≤t.length:=qn;have hp:(2:Nat)^62=4611686018427387904:=by decide
 have hq:=zbn (t.idxOf (plc n)) (by omega);refine .fn zgh rfl (by simp[f_0]) ?_;simp(disch:=((try simp only[nx3]);omega));refine zia h (plc n) ht fun M' h'=> ?_;simp(disch:=((try simp only[nx3]);omega));refine wnum_ok h' _ (by omega) (by omega) fun M2 h2=> ?_;simp(disch:=((try simp only[nx3]);omega));exact hk M2 h2
end
end
section
variable {B:Base} {M M':VM} {k kp:DV→VM→Prop} {n0 j:Nat}
theorem Lb.keepA {M M2:VM} {d:DV} {s:Nat} {rows:List (List DV)} (h:Lb M d s rows) (hn:M.next≤M2.next) (hk: ∀i,i<M.next→M2.get i=M.get i):Lb M2 d s rows:=h.keep hn fun i hi _=>hk i hi
theorem WrE.keep {t:List Sv} {b:List UInt8} {dn db:DV} {jm:Nat} (h:WrE B M j t b dn jm db) (hn:M.next≤M'.next) (hk: ∀i,i<M.next→M'.get i=M.get i):WrE B M' j t b dn jm db:=by
 have a:=h.j2;have c:=h.m2;refine⟨fun i hi=>(hk i (h.nx i hi)).trans (h.sm i hi),fun i hi=>by have:=h.nx i hi;omega,h.j1,by omega,h.m1,by omega,?_,?_,h.ln.keepA hn hk,h.lb.keepA hn hk,h.fn⟩
 ·rw[←h.oj];show(M'.get j).map _=(M.get j).map _;rw[hk j a]
 ·rw[←h.om];show(M'.get jm).map _=(M.get jm).map _;rw[hk jm c]
def WrS (B:Base) (M:VM) (j:Nat) (w:WS):Prop:=WrM B M j w.t (zF w.b)
theorem WrS.add {w:WS} (h:WrS B M j w) (o o':MO):WrS ⟨(M.new o).put M.next o',fun i=>B.fr i∨i=M.next⟩ ((M.new o).put M.next o') j w:=by
 obtain⟨dn,jm,db,h⟩:=h;have h2:=h.keep (M':=(M.new o).put M.next o') (by simp;omega) fun q hq=>by rw[get_put,if_neg (by omega),get_new,if_neg (by omega)]
 have a:=h.j2;have c:=h.m2;refine⟨dn,jm,db,fun _ _=>rfl,fun i hi=> ?_,fun hi=> ?_,h2.j2,fun hi=> ?_,h2.m2,h2.oj,h2.om,h2.ln,h2.lb,fun i hi=> ?_⟩
 ·rcases hi with hi|hi
  ·have:=h.nx i hi;simp;omega
  ·simp;omega
 ·rcases hi with hi|hi
  ·exact h.j1 hi
  ·omega
 ·rcases hi with hi|hi
  ·exact h.m1 hi
  ·omega
 ·rcases hi with hi|hi
  ·exact h.fn i hi
  ·rw[hi];exact⟨h.ln.offN (qj _),h.lb.offN (qj _)⟩
theorem WrS.rebase {B2:Base} {w:WS} (h:WrS B2 M j w) (hf: ∀i,B.fr i→B2.fr i∧B2.m.get i=B.m.get i):WrS B M j w:=by
 obtain⟨dn,jm,db,h⟩:=h;exact⟨dn,jm,db,fun i hi=>(h.sm i (hf i hi).1).trans (hf i hi).2,fun i hi=>h.nx i (hf i hi).1,fun hi=>h.j1 (hf _ hi).1,h.j2,fun hi=>h.m1 (hf _ hi).1,h.m2,h.oj,h.om,h.ln,h.lb,fun i hi=>h.fn i (hf i hi).1⟩
theorem WrS.sm {w:WS} (h:WrS B M j w) {i:Nat} (hi:B.fr i):M.get i=B.m.get i:=by
 obtain⟨_,_,_,h⟩:=h;exact h.sm i hi
theorem WrS.obj {w:WS} (h:WrS B M j w) {i:Nat} (hi:B.fr i):M.obj i=B.m.obj i:=by
 show(M.get i).map _=(B.m.get i).map _;rw[h.sm hi]
theorem WrS.keep {w:WS} (h:WrS B M j w) (hn:M.next≤M'.next) (hk: ∀i,i<M.next→M'.get i=M.get i):WrS B M' j w:=by
 obtain⟨dn,jm,db,h⟩:=h;exact⟨dn,jm,db,h.keep hn hk⟩
theorem ment_t (w:WS) (v:Sv):(w.ment v).t=zcE w.t v:=by unfold WS.ment zcE;split<;>rfl
theorem ment_b (w:WS) (v:Sv):(w.ment v).b=w.b:=by unfold WS.ment;split<;>rfl
theorem zj7 (t:List Sv) (v:Sv):(zcE t v).length≤t.length+1:=by unfold zcE;split<;>simp
theorem num_t (w:WS) (n:Nat):(w.num n).t=w.t:=rfl
theorem num_b (w:WS) (n:Nat):zF (w.num n).b=zF w.b++numB n:=numsB_one _ _
theorem ref_t (w:WS) (v:Sv):(w.ref v).t=zcE w.t v:=ment_t w v
theorem ref_b (w:WS) (v:Sv):zF (w.ref v).b=zF w.b++numB (w.t.idxOf v):=by
 show zF ((w.ment v).b++[_])=_;rw[numsB_one,ment_b]
theorem zd1 {w:WS} (h:WrS B M j w) (n:Nat) (hn:n<2^62) (hl:(zF w.b).length≤900000000) (hk: ∀M',WrS B M' j (w.num n)→k (.tup []) M'):zg F (.fn n_K [] []) [.ptr j 0 0,I n] M k kp:=by
 have hp:(2:Nat)^62=4611686018427387904:=by decide
 have hq:=zbn n (by omega);refine wnum_ok h n hn (by omega) fun M' h'=>hk M' ?_;unfold WrS;rw[num_b,num_t];exact h'
theorem schan_ok {w:WS} (h:WrS B M j w) (n:Int) (ht:w.t.length≤10000000) (hl:(zF w.b).length≤900000000) (hk: ∀M',WrS B M' j (w.ref (chn n))→k (.tup []) M'):zg F (.fn n_Y [] []) [.ptr j 0 0,I n] M k kp:=
 wchan_ok h n ht hl fun M' h'=>hk M' (by unfold WrS;rw[ref_b,ref_t];exact h')
theorem splace_ok {w:WS} (h:WrS B M j w) (n:Int) (ht:w.t.length≤10000000) (hl:(zF w.b).length≤900000000) (hk: ∀M',WrS B M' j (w.ref (plc n))→k (.tup []) M'):zg F (.fn n_0 [] []) [.ptr j 0 0,I n] M k kp:=
 wplace_ok h n ht hl fun M' h'=>hk M' (by unfold WrS;rw[ref_b,ref_t];exact h')
theorem big62:(2:Nat)^62=4611686018427387904:=by decide
theorem big1:(128:Nat)^10=1180591620717411303424:=by decide
theorem val_len {w:WS} {v:Sv} (hv:ValV v) (ht:w.t.length≤10000000):(w.val v).t.length≤w.t.length+1∧(zF (w.val v).b).length≤(zF w.b).length+10:=by
 have hi:w.t.idxOf v≤w.t.length:=qn;have b1:=big1;have hr: -1000000000≤v.n∧v.n≤1000000000:=by
  rcases hv with(h|h|h)|h<;>omega
 unfold WS.val
 split
 ·have:=zbn (2*w.t.idxOf v+1) (by omega);rw[num_t,num_b,ment_t,ment_b,qi];have:=zj7 w.t v;exact⟨by omega,by omega⟩
 ·split
  ·have:=zbn (4*v.n.toNat) (by omega);rw[num_t,num_b,qi];exact⟨by omega,by omega⟩
  ·have:=zbn (4*(-v.n - 1).toNat+2) (by omega);rw[num_t,num_b,qi];exact⟨by omega,by omega⟩
attribute [local simp] c_u f_u r_u_1 r_u_2 r_u_3 r_u_4 r_u_5 r_u_6 r_u_7 r_u_8 r_u_9 r_u_10
theorem svals_ok {w:WS} (h:WrS B M j w) (l:List Sv) (hv: ∀v∈l,ValV v) (ht:w.t.length+l.length≤10000000) (hb:(zF w.b).length+10*(l.length+1)≤900000000) (hk: ∀M',WrS B M' j (w.vals l)→k (.tup []) M'):zg F (.fn n_u [] []) [.ptr j 0 0,.lst 2 (l.map eSv)] M k kp:=by
 have b0:=big62;have b1:=big1;refine .fn zgH rfl (by simp[f_u]) ?_;simp(disch:=((try simp only[nx3]);omega));refine zd1 h l.length (by omega) (by omega) fun M1 h1=> ?_;have hn1:=zbn l.length (by omega);simp(disch:=((try simp only[nx3]);omega));refine .for (σ:=VM) c_u_11.eq_1 (fun i _=>[(12,I i)]) (fun z=>z) (fun i z=>WrS B z j ((l.take i).foldl WS.val (w.num l.length))∧((l.take i).foldl WS.val (w.num l.length)).t.length≤w.t.length+i∧(zF ((l.take i).foldl WS.val (w.num l.length)).b).length≤(zF w.b).length+10+10*i) l.length M1 (by simp) rfl ⟨h1,by rw[List.take_zero];exact qj _,by rw[List.take_zero];show(zF (w.num l.length).b).length≤_;rw[num_b,qi];omega⟩ (fun i y hi hP again=> ?_) (fun y hP=> ?_)
 ·obtain⟨p1,p2,p3⟩:=hP;have hvi:=hv _ (qE hi);rw[qk hi,List.foldl_append] at again;simp only[List.foldl_cons,List.foldl_nil] at again;have hle:=val_len (w:=(l.take i).foldl WS.val (w.num l.length)) hvi (by omega);generalize (l.take i).foldl WS.val (w.num l.length)=u at*;generalize hx:l[i]=v at*;have hr: -1000000000≤v.n∧v.n≤1000000000:=by
   rcases hvi with(h|h|h)|h<;>omega
  have p1': ∀o,WrS B ((y.new (.rows false 2 [[.int .i64 0,.int .i64 0]])).put y.next o) j u:=fun o=>p1.keep (by simp;omega) fun q hq=>by rw[get_put,if_neg (by omega),get_new,if_neg (by omega)]
  by_cases hk1:v.k=1
  ·by_cases hn0:0≤v.n
   ·obtain⟨n,hn⟩:=Int.eq_ofNat_of_zero_le hn0;have e:u.val v=u.num (4*n):=by unfold WS.val;rw[if_neg (fun x=>x hk1),if_pos hn0,hn];rfl
    rw[e] at again hle;simp(disch:=((try simp only[nx3]);omega)) [hi,hx,eSv,hk1,hn0];have e4:4*v.n=((4*n:Nat):Int):=by omega
    rw[e4];refine zd1 (p1' _) (4*n) (by omega) (by omega) fun M2 h2=> ?_;have again:=again M2 ⟨h2,by omega,by omega⟩;simp at again;simp(disch:=((try simp only[nx3]);omega));exact again
   ·obtain⟨n,hn⟩:=Int.eq_ofNat_of_zero_le (show 0≤ -v.n - 1 by omega);have e:u.val v=u.num (4*n+2):=by unfold WS.val;rw[if_neg (fun x=>x hk1),if_neg hn0,hn];rfl
    rw[e] at again hle;simp(disch:=((try simp only[nx3]);omega)) [hi,hx,eSv,hk1,hn0];have e4:4*(-v.n - 1)+2=((4*n+2:Nat):Int):=by omega
    rw[e4];refine zd1 (p1' _) (4*n+2) (by omega) (by omega) fun M2 h2=> ?_;have again:=again M2 ⟨h2,by omega,by omega⟩;simp at again;simp(disch:=((try simp only[nx3]);omega));exact again
  ·have e:u.val v=(u.ment v).num (2*u.t.idxOf v+1):=by unfold WS.val;rw[if_pos hk1]
   have hix:u.t.idxOf v≤u.t.length:=qn;have hml:=zj7 u.t v;have hmt:=ment_t u v;have hmb:=ment_b u v;rw[e] at again hle;simp(disch:=((try simp only[nx3]);omega)) [hi,hx,eSv,hk1];refine zia (p1' _) v (by omega) fun M1 h1=> ?_;have h1:WrS B M1 j (u.ment v):=by unfold WrS;rw[hmt,hmb];exact h1
   generalize u.t.idxOf v=ix at*;simp(disch:=((try simp only[nx3]);omega));have e4:2*(ix:Int)+1=((2*ix+1:Nat):Int):=by omega
   rw[e4];refine zd1 h1 (2*ix+1) (by omega) (by rw[hmb];omega) fun M2 h2=> ?_;have again:=again M2 ⟨h2,by omega,by omega⟩;simp at again;simp(disch:=((try simp only[nx3]);omega));exact again
 ·skip
  rw[qo] at hP;simp(disch:=((try simp only[nx3]);omega));exact hk y hP.1
end
section
variable {M M' B:VM} {k kp:DV→VM→Prop} {n0 j:Nat}
structure BV (M:VM) (d:DV) (l:List UInt8):Prop where
 len:lenD M d=some l.length
 at_: ∀i (hi:i<l.length),∃p,ziV 1 M (I (i:Int)) d=some p∧ld1 (zcP M p)=some (zdE l[i])
theorem BV.bs (M:VM) (l:List UInt8):BV M (.bs (mkS l)) l:=⟨rfl,fun i hi=>⟨.pl 1 (l.map eB) i 0,by rw[addrD_bsN,if_pos (by simpa using hi)];rfl,by simp[hi,eB]⟩⟩
theorem BV.lb {d:DV} {l:List UInt8} (h:Lb M d 1 (l.map eB)):BV M d l:=⟨by rw[h.len,List.length_map],fun i hi=>by
 rcases h.v with⟨e,_⟩| ⟨q,op,cap,h2,e,h4,_⟩
 ·have:=congrArg qD e;simp at this;subst this;simp at hi
 ·subst e;refine⟨.ptr q (0+i) 0,?_,?_⟩
  ·simp[h4,hi]
  ·simp[h4,hi,eB]⟩
theorem bit_step {r x m:Nat} (hr:r<65536) (hx:x<256) (hm:m<8): ∃a b c e f:Nat,(∀ek,binD .shr ek (.int .u16 (r:Int)) (.int .u64 15)=some (.int .u16 (a:Int)))∧(∀ek,binD .shr ek (.int .u8 (x:Int)) (I (7 - (m:Int)))=some (.int .u8 (b:Int)))∧(∀ek,binD .and ek (.int .u8 (b:Int)) (.int .u8 1)=some (.int .u8 (c:Int)))∧zkw .u16 (.int .u8 (c:Int))=some (.int .u16 (c:Int))∧(∀ek,binD .shl ek (.int .u16 (r:Int)) (.int .u64 1)=some (.int .u16 (e:Int)))∧(∀ek,binD .xor ek (.int .u16 (e:Int)) (.int .u16 4129)=some (.int .u16 (f:Int)))∧a=r / 32768∧c=x / 2^(7 - m)%2∧e=r*2%65536∧f=e ^^^ 4129:=by
 have hb:x / 2^(7 - m)<256:=Nat.lt_of_le_of_lt (Nat.div_le_self _ _) hx;have hf:(r*2%65536) ^^^ 4129<65536:=qU (n:=16) (qbd _ (by omega)) (by omega);refine⟨r / 32768,x / 2^(7 - m),x / 2^(7 - m)%2,r*2%65536,(r*2%65536) ^^^ 4129,fun ek=>zgc .u16 .u64 r 15 (by decide),fun ek=> ?_,fun ek=> ?_,conv_u16 _ _ (by omega),fun ek=> ?_,fun ek=> ?_,rfl,rfl,rfl,rfl⟩
 ·rw[show(7 - (m:Int))=((7 - m:Nat):Int) by omega];exact zgc .u8 .i64 x (7 - m) (by show 7 - m≤8;omega)
 ·generalize x / 2^(7 - m)=b at*;have:=zhI (ek:=ek) .u8 b 1 (by show b<2^8;omega) (by show 1<2^8;omega);rw[and1,wrap_u8] at this;rw[show(1:Int)=((1:Nat):Int) from rfl,this]
  congr 2;omega
 ·have:=bin_shlN (ek:=ek) .u16 .u64 r 1 (by decide);rw[wrap_u16] at this;rw[show(1:Int)=((1:Nat):Int) from rfl,this]
  congr 2
 ·have:=bin_xorN (ek:=ek) .u16 (r*2%65536) 4129 (by show _<2^16;omega) (by show 4129<2^16;omega);rw[wrap_u16] at this;rw[show(4129:Int)=((4129:Nat):Int) from rfl,this];generalize (r*2%65536) ^^^ 4129=f at*
  congr 2;omega
attribute [local simp] c_F f_F r_F_1 r_F_2 r_F_3 r_F_4 r_F_5 r_F_6 r_F_7 r_F_8 r_F_9 r_F_10 r_F_11 r_F_12 r_F_13 r_F_15 r_F_17
theorem sum_ok {d:DV} {l:List UInt8} (h:BV M d l) (hl:l.length<4611686018427387904) (hk:k (.ms M.next 0 2 2) (M.new (.rows false 1 ((crc l).map eB)))):zg F (.fn n_F [] []) [d] M k kp:=by
 refine .fn h_wire_sum rfl (by simp[f_F]) ?_;simp(disch:=((try simp only[nx3]);omega)) [h.len];refine .for (σ:=Nat) c_F_16.eq_1 (fun i r=>[(3,.int .u16 (r:Int)),(10,I i)]) (fun _=>M) (fun i r=>r=crcN (l.take i)) l.length 65535 (by simp) rfl rfl (fun i r hi hP again=> ?_) (fun r hP=> ?_)
 ·obtain⟨p,hp1,hp2⟩:=h.at_ i hi;have hr:r<65536:=by rw[hP];exact crcN_lt _
  have again:=again (crcY l[i].toNat 8 r) (by rw[qk hi,crcN_app,hP]);have hx:l[i].toNat<256:=l[i].toNat_lt;have hb:zdE l[i]=.int .u8 (l[i].toNat:Int):=rfl;generalize l[i].toNat=x at*;simp at again;simp(disch:=((try simp only[nx3]);omega)) [hi,hp1,hp2];rw[hb];refine .for (σ:=Nat) c_F_14.eq_1 (fun q r=>[(3,.int .u16 (r:Int)),(14,I q)]) (fun _=>M) (fun q s=>s<65536∧crcY x (8 - q) s=crcY x 8 r) 8 r (by simp) rfl ⟨hr,rfl⟩ (fun q s hq hP2 again2=> ?_) (fun s hP2=> ?_)
  ·obtain⟨q1,q2⟩:=hP2;obtain⟨a,b,c,e,f,s1,s2,s3,s4,s5,s6,s7,s8,s9,s10⟩:=bit_step q1 hx hq;have e8:8 - q=(7 - q)+1:=by omega
   rw[e8,crcY] at q2;have hcl:=crcB_lt s (decide (s / 32768≠x / 2^(7 - q)%2));have again2:=again2 (crcB s (decide (s / 32768≠x / 2^(7 - q)%2))) ⟨hcl,by rw[show 8 - (q+1)=7 - q by omega];exact q2⟩;rw[←s7,←s8] at again2;have s11:=fun ek=>zkD (ek:=ek) .u16 (a:Int) (c:Int);have hqi:(q:Int)<8:=by omega
   by_cases hac:a=c
   ·have e1:crcB s (decide (a≠c))=e:=by unfold crcB;rw[if_neg (by simp[hac]),s9]
    rw[e1] at again2;have hac2:(a:Int)=c:=by omega
    simp at again2;simp(disch:=((try simp only[nx3]);omega)) [hqi,s1,s2,s3,s4,s5,s6,zkD,hac2];exact again2
   ·have e1:crcB s (decide (a≠c))=f:=by unfold crcB;rw[if_pos (by simp[hac]),s10,s9]
    rw[e1] at again2;have hac2: ¬(a:Int)=c:=by omega
    simp at again2;simp(disch:=((try simp only[nx3]);omega)) [hqi,s1,s2,s3,s4,s5,s6,zkD,hac2];exact again2
  ·obtain⟨q1,q2⟩:=hP2;have q2:s=crcY x 8 r:=q2;subst q2;simp(disch:=((try simp only[nx3]);omega));exact again
 ·rw[List.take_length] at hP;have hr:r<65536:=by rw[hP];exact crcN_lt _
  have s1: ∀ek,binD .shr ek (.int .u16 (r:Int)) (.int .u64 8)=some (.int .u16 ((r / 2^8:Nat):Int)):=fun ek=>zgc (ek:=ek) .u16 .u64 r 8 (by decide);have s2:=zhD .u16 (r / 2^8);have s3:=zhD .u16 r;have e2:crc l=[qh (r / 2^8),qh r]:=by
   unfold crc;rw[←hP]
   congr 2
   refine qQ.1 ?_;rw[qH,qH];omega
  rw[e2] at hk;generalize r / 2^8=a at*;generalize qh a=b1 at*;generalize qh r=b2 at*;simp(disch:=((try simp only[nx3]);omega)) [s1,s2,s3];exact hk
end
section
variable {B:Base} {M M':VM} {k kp:DV→VM→Prop} {n0 j:Nat}
theorem crc_len (l:List UInt8):(crc l).length=2:=rfl
attribute [local simp] c_8 f_8 r_8_1 r_8_2
theorem sealed_ok {d:DV} {l:List UInt8} (h:Lb M d 1 (l.map eB)) (hl:l.length≤1000000000) (hk: ∀M',M.next≤M'.next→(∀i,i<M.next→Off d i→M'.get i=M.get i)→k (St (zfu l)) M'):zg F (.fn n_8 [] []) [d] M k kp:=by
 refine .fn h_wire_sealed rfl (by simp[f_8]) ?_;simp(disch:=((try simp only[nx3]);omega));refine sum_ok (BV.lb h) (by omega) ?_;simp(disch:=((try simp only[nx3]);omega));refine zgV (h.new _) (new:=(crc l).map eB) (by simp[crc]) (by decide) (mapc c_B _) (mapl n_B _) (by simp[crc_len];omega) fun d' M' hL hG=> ?_;have hb:=b2sD_of (l:=zfu l) (M:=M') (d:=d') (by rw[hL.elems (by decide)];simp[zfu]);simp(disch:=((try simp only[nx3]);omega)) [hb];exact hk M' hG.pre.nx hG.pre.kp
def tabB (t:List Sv):List UInt8:=zF (t.flatMap fun v=>[v.k.toNat,v.n.toNat])
theorem tabB_one (t:List Sv) (v:Sv):tabB (t++[v])=tabB t++numB v.k.toNat++numB v.n.toNat:=by
 unfold tabB;rw[List.flatMap_append,zcb];simp[zF]
def zfX (v:Sv):Prop:=(0≤v.k∧v.k<4000000000000000000)∧0≤v.n∧v.n<4000000000000000000
theorem tabB_len (t:List Sv) (h: ∀v∈t,zfX v):(tabB t).length≤20*t.length:=by
 have b1:=big1
 induction t with
 |nil=>simp[tabB,zF]
 |cons v t ih=>
  have h1:=ih fun x hx=>h x (qA _ hx);obtain⟨⟨a,b⟩,c,d⟩:=h v qJ;have e:tabB (v::t)=numB v.k.toNat++numB v.n.toNat++tabB t:=by simp[tabB,zF]
  have h2:=zbn v.k.toNat (by omega);have h3:=zbn v.n.toNat (by omega);rw[e];simp;omega
attribute [local simp] c_T f_T r_T_1 r_T_2 r_T_3 r_T_4 r_T_5 r_T_6 r_T_7 r_T_9
theorem head_ok (first:UInt8) {t:List Sv} {dn:DV} (hd:Lb M dn 2 (t.map eSv)) (hs: ∀v∈t,zfX v) (ht:t.length≤10000000) (hk: ∀d' M',Lb M' d' 1 ((first::zF (zge t)).map eB)→M.next≤M'.next→(∀i,i<M.next→M'.get i=M.get i)→(∀i,i<M.next→Off d' i)→k d' M'):zg F (.fn n_T [] []) [zdE first,dn] M k kp:=by
 have b0:=big62;have b1:=big1;have hn1:=zbn t.length (by omega);have hlit:Lb (M.new (.rows false 1 [[zdE first]])) (.ms M.next 0 1 1) 1 ([first].map eB):=⟨by simp[eB],.inr ⟨M.next,false,1,by simp,rfl,by simp[eB],.inr ⟨rfl,rfl,by decide⟩⟩⟩;refine .fn h_wire_head rfl (by simp[f_T]) ?_;simp(disch:=((try simp only[nx3]);omega)) [hd.len];refine zhf hlit (by omega) (by simp;omega) fun d1 M1 h1 g1=> ?_;have o1: ∀i,i<M.next→M1.get i=M.get i:=fun i hi=>by rw[g1.kp i (by simp;omega) (by show i≠M.next;omega),get_new,if_neg (by omega)]
 have f1: ∀i,i<M.next→Off d1 i:=fun i hi=>g1.of i (by simp;omega) (by show i≠M.next;omega);have n1:=g1.nx;simp at n1;simp(disch:=((try simp only[nx3]);omega)) [hd.len];refine .for (σ:=VM×DV) c_T_8.eq_1 (fun i z=>[(5,z.2),(15,I i)]) (fun z=>z.1) (fun i z=>Lb z.1 z.2 1 (([first]++numB t.length++tabB (t.take i)).map eB)∧(∀i,i<M.next→z.1.get i=M.get i)∧(∀i,i<M.next→Off z.2 i)∧M.next≤z.1.next) t.length (M1,d1) (by simp) rfl ⟨by simpa[tabB,zF] using h1,o1,f1,by show M.next≤M1.next;omega⟩ (fun i z hi hP again=> ?_) (fun z hP=> ?_)
 ·obtain⟨y,d⟩:=z;obtain⟨p1,p2,p3,p4⟩:=hP;dsimp only at*;have hdy:Lb y dn 2 (t.map eSv):=hd.keepA p4 p2;have hv:=hs _ (qE hi);rw[qk hi] at again;have hat: ∃p,ziV 2 y (I (i:Int)) dn=some p∧ldN 2 (zcP y p)=some (.agg (eSv t[i])):=by
   rcases hdy.v with⟨e,_⟩| ⟨q,op,cap,h2,e,h4,_⟩
   ·have:=congrArg qD e;simp at this;subst this;simp at hi
   ·subst e;exact⟨.ptr q (0+i) 0,by simp[h4,hi],by simp[h4,hi]⟩
  obtain⟨p,hp1,hp2⟩:=hat;have htk: ∀v∈t.take i,zfX v:=fun v hv=>hs v (List.mem_of_mem_take hv);have hl1:=tabB_len (t.take i) htk;have hl2:(t.take i).length≤t.length:=by rw[qO];omega
  rw[tabB_one] at again;generalize t[i]=v at*;generalize tabB (t.take i)=tb at*;obtain⟨⟨a,b⟩,c,dd⟩:=hv;obtain⟨kn,hkn⟩:=qr a;obtain⟨nn,hnn⟩:=qr c;have h2:=zbn kn (by omega);have h3:=zbn nn (by omega);have ek:v.k.toNat=kn:=by omega
  have en:v.n.toNat=nn:=by omega
  rw[ek,en] at again;simp(disch:=((try simp only[nx3]);omega)) [hi,hp1,hp2,eSv,hkn,hnn];have k1: ∀q,q<y.next→(((y.new (.rows false 2 [[.int .i64 0,.int .i64 0]])).put y.next (.rows false 2 [[I kn,I nn]])).get q=y.get q):=fun q hq=>by rw[get_put,if_neg (by omega),get_new,if_neg (by omega)]
  have p1y:=p1.keepA (M2:=(y.new (.rows false 2 [[.int .i64 0,.int .i64 0]])).put y.next (.rows false 2 [[I kn,I nn]])) (by simp;omega) k1;have hlen:([first]++numB t.length++tb).length≤300000000:=by simp;omega
  refine zhf p1y (by omega) (by omega) fun d3 M3 h3' g3=> ?_;have n3:=g3.nx;simp at n3;have o3:M3.obj y.next=some (.rows false 2 [[I kn,I nn]]):=by rw[g3.obj (by simp;omega) (p1.offN (qj _))];simp
  have hlen3:([first]++numB t.length++tb++numB kn).length≤300000100:=by rw[qi];omega
  have hnn2:nn<2^62:=by omega
  simp(disch:=((try simp only[nx3]);omega)) [o3];refine⟨by rw[g3.kp y.next (by simp;omega) (p1.offN (qj _)),get_put,if_pos rfl];simp,?_⟩;refine zhf h3' (by omega) (by omega) fun d4 M4 h4 g4=> ?_;have n4:=g4.nx;have again:=again (M4,d4) ⟨by simpa using h4,fun q hq=>by
   rw[g4.kp q (by omega) (g3.of q (by simp;omega) (p3 q hq)),g3.kp q (by simp;omega) (p3 q hq),k1 q (by omega)];exact p2 q hq,fun q hq=>g4.of q (by omega) (g3.of q (by simp;omega) (p3 q hq)),by show M.next≤M4.next;omega⟩
  simp at again;simp(disch:=((try simp only[nx3]);omega));exact again
 ·obtain⟨y,d⟩:=z;obtain⟨p1,p2,p3,p4⟩:=hP;dsimp only at*;rw[List.take_length] at p1;simp(disch:=((try simp only[nx3]);omega));refine hk d y ?_ p4 p2 p3;have:first::zF (zge t)=[first]++numB t.length++tabB t:=by unfold zge tabB;rw[zR];simp
  rw[this];exact p1
attribute [local simp] c_1 f_1 r_1_1 r_1_2
theorem send_ok {w:WS} (h:WrS B M j w) (first:UInt8) (hs: ∀v∈w.t,zfX v) (ht:w.t.length≤10000000) (hb:(zF w.b).length≤700000000) (hk: ∀M',M.next≤M'.next→(∀i,B.fr i→M'.get i=B.m.get i)→k (St (w.fin first)) M'):zg F (.fn n_1 [] []) [.ptr j 0 0,zdE first] M k kp:=by
 obtain⟨dn,jm,db,h⟩:=h;have o1:=h.oj;have b0:=big62;have b1:=big1;have hn1:=zbn w.t.length (by omega);have htl:=tabB_len w.t hs;have hhl:(first::zF (zge w.t)).length≤20+20*w.t.length:=by
  have:first::zF (zge w.t)=[first]++numB w.t.length++tabB w.t:=by unfold zge tabB;rw[zR];simp
  rw[this];simp;omega
 have a:=h.j2;refine .fn zht rfl (by simp[f_1]) ?_;simp(disch:=((try simp only[nx3]);omega)) [o1];refine head_ok first h.ln hs ht fun d1 M1 h1 n1 k1 f1=> ?_
 have o2:M1.obj j=some (.rows false 3 [[dn,.map jm,db]]):=by show(M1.get j).map _=_;rw[k1 j a];exact o1
 have hbody:=h.lb.keepA n1 k1;simp(disch:=((try simp only[nx3]);omega)) [o2];refine⟨.inl (k1 j a),h.lb.self,?_⟩;refine zkQ h1 (hbody.appended (by decide)) (by decide) (mapc c_B _) (mapl n_B _) (by simp at hhl⊢;omega) fun d2 M2 h2 g2=> ?_;have n2:=g2.nx;rw[←qP] at h2;simp(disch:=((try simp only[nx3]);omega));refine sealed_ok h2 (by rw[qi];omega) fun M3 n3 k3=> ?_;simp(disch:=((try simp only[nx3]);omega));exact hk M3 (by omega) fun i hi=>by
  have hi2:=h.nx i hi;rw[k3 i (by omega) (g2.of i (by omega) (f1 i (by omega))),g2.kp i (by omega) (f1 i (by omega)),k1 i (by omega)];exact h.sm i hi
attribute [local simp] c_bb f_bb r_bb_1 r_bb_2 c_2 f_2 r_2_1 r_2_2 r_2_3 r_2_4 r_2_5
theorem write_ok (hk: ∀j M',WrS (bas M) M' j ⟨[],[]⟩→k (.ptr j 0 0) M'):zg F (.fn n_bb [] []) [] M k kp:=by
 refine .fn h_wire_write rfl (by simp[f_bb]) ?_;simp(disch:=((try simp only[nx3]);omega));refine hk _ _ ⟨.nilS,M.next,.nilS,fun i hi=> ?_,fun i hi=> ?_,?_,?_,?_,?_,?_,?_,.nil _ _,.nil _ _,fun _ _=>⟨trivial,trivial⟩⟩
 ·have hi:i<M.next:=hi;rw[get_new,if_neg (by simp;omega),get_new,if_neg (by omega)]
 ·have hi:i<M.next:=hi;simp;omega
 ·simp
 ·simp
 ·simp
 ·simp;omega
 ·simp
 ·rw[zK _ (by simp)];simp[entF]
def zeD (t:List Sv):Prop:= ∀x∈t,zb0 x
theorem zb0.small {v:Sv} (h:zb0 v):zfX v:=by
 unfold zfX;rcases h with h|h|h<;>omega
theorem zeD.ment {t:List Sv} (h:zeD t) {v:Sv} (hv:zb0 v):zeD (zcE t v):=by
 unfold zcE
 split
 ·exact h
 ·intro x hx;rcases List.mem_append.1 hx with hx|hx
  ·exact h x hx
  ·rw[qX.1 hx];exact hv
theorem val_names {w:WS} (h:zeD w.t) {v:Sv} (hv:ValV v):zeD (w.val v).t:=by
 unfold WS.val
 split
 ·rename_i hk;rw[num_t,ment_t];exact h.ment (hv.resolve_right fun q=>hk q.1)
 ·split<;>exact h
theorem vals_len: ∀(l:List Sv) (w:WS),(∀v∈l,ValV v)→zeD w.t→w.t.length+l.length≤10000000→zeD (l.foldl WS.val w).t∧(l.foldl WS.val w).t.length≤w.t.length+l.length∧(zF (l.foldl WS.val w).b).length≤(zF w.b).length+10*l.length
 | [],w,_,h,_=>⟨h,qj _,qj _⟩
 |v::l,w,hv,h,ht=>by
  have hv1:=hv v qJ;simp only[qp] at ht⊢;have h1:=val_len hv1 (w:=w) (by omega);obtain⟨a,b,c⟩:=vals_len l (w.val v) (fun x hx=>hv x (qA _ hx)) (val_names h hv1) (by omega);exact⟨a,by show(l.foldl WS.val (w.val v)).t.length≤_;omega,by show(zF (l.foldl WS.val (w.val v)).b).length≤_;omega⟩
theorem svals_len {w:WS} {l:List Sv} (hv: ∀v∈l,ValV v) (h:zeD w.t) (ht:w.t.length+l.length≤10000000):zeD (w.vals l).t∧(w.vals l).t.length≤w.t.length+l.length∧(zF (w.vals l).b).length≤(zF w.b).length+10+10*l.length:=by
 have b1:=big1;have hn:=zbn l.length (by omega);obtain⟨a,b,c⟩:=vals_len l (w.num l.length) hv h ht;rw[num_b,qi] at c;exact⟨a,b,by unfold WS.vals;omega⟩
theorem ref_len {w:WS} {v:Sv} (hv:zb0 v) (h:zeD w.t) (ht:w.t.length≤10000000):zeD (w.ref v).t∧(w.ref v).t.length≤w.t.length+1∧(zF (w.ref v).b).length≤(zF w.b).length+10:=by
 have b1:=big1;have hi:w.t.idxOf v≤w.t.length:=qn;have hn:=zbn (w.t.idxOf v) (by omega);rw[ref_t,ref_b,qi];exact⟨h.ment hv,zj7 _ _,by omega⟩
def eLt (l:Lt):List DV:=[I l.ch,.lst 2 (l.vs.map eSv)]
@[simp] theorem t_Lt (v:Lt):zcZ 2 (eLt v)=some (eLt v):=by simp[eLt]
@[simp] theorem n_Lt (v:Lt):(eLt v).length=2:=by simp[eLt]
@[simp] theorem all_Lt (v:Lt):(∀x,x∈eLt v→zj x=true)=True:=eq_true (by simp[eLt,zj])
theorem b_Lt {n:Nat} (v:Lt): ∀d∈eLt v,zG n d:=by
 intro d hd;simp only[eLt,qt,qq,or_false] at hd;rcases hd with rfl|rfl
 ·simp
 ·exact .lst (mapb b_Sv _)
theorem letter_ok {l:Lt} (hp:zir l) (hk:k (St (encLt l)) M):zg F (.fn n_2 [] []) [.agg (eLt l)] M k kp:=by
 obtain⟨hc,hl,hv⟩:=hp;have hch:zb0 (chn l.ch):=.inr (.inl ⟨rfl,hc⟩);have h0:zeD (⟨[],[]⟩:WS).t:=fun x hx=>by cases hx
 obtain⟨r1,r2,r3⟩:=ref_len (w:=⟨[],[]⟩) hch h0 (by decide);have r2:((⟨[],[]⟩:WS).ref (chn l.ch)).t.length≤1:=r2;have r3:(zF ((⟨[],[]⟩:WS).ref (chn l.ch)).b).length≤10:=r3;obtain⟨s1,s2,s3⟩:=svals_len hv r1 (by omega);apply zg.back;refine .fn h_wire_letter rfl (by simp[f_2]) ?_;simp(disch:=((try simp only[nx3]);omega));refine write_ok fun j M1 h1=> ?_;have sm1:M1.obj M.next=some (.rows false 2 [eLt l]):=by rw[h1.obj (by simp)];simp
 simp(disch:=((try simp only[nx3]);omega)) [sm1,eLt];refine schan_ok h1 l.ch (by decide) (by decide) fun M2 h2=> ?_;have sm2:M2.obj M.next=some (.rows false 2 [eLt l]):=by rw[h2.obj (by simp)];simp
 simp(disch:=((try simp only[nx3]);omega)) [sm2,eLt];refine svals_ok h2 l.vs hv (by omega) (by omega) fun M3 h3=> ?_;simp(disch:=((try simp only[nx3]);omega));refine send_ok h3 77 (fun v hv=>(s1 v hv).small) (by omega) (by omega) fun M4 n4 k4=> ?_;simp(disch:=((try simp only[nx3]);omega));exact Back.plain (by simp) (fun i hi=>by rw[k4 i (by simp;omega),get_new,if_neg (by omega)]) hk
end
section
variable {M M' B:VM} {k kp:DV→VM→Prop} {n0 j:Nat}
attribute [local simp] c_3 f_3 r_3_1 r_3_2 c_Z f_Z r_Z_1 r_Z_2 r_Z_3 r_Z_4 r_Z_5 r_Z_6 r_Z_7 c_ba f_ba r_ba_1 r_ba_2
theorem ze7 (n m:Int) (hk:k (.bool (decide (0≤n∧n<m))) M):zg F (.fn n_3 [] []) [I n,I m] M k kp:=by
 apply zg.back;refine .fn h_wire_below rfl (by simp[f_3]) ?_;by_cases h1:0≤n
 ·by_cases h2:n<m
  ·rw[decide_eq_true ⟨h1,h2⟩] at hk;simp(disch:=((try simp only[nx3]);omega)) [h1,h2];exact bpl hk
  ·rw[decide_eq_false (fun h=>h2 h.2)] at hk;simp(disch:=((try simp only[nx3]);omega)) [h1,h2];exact bpl hk
 ·rw[decide_eq_false (fun h=>h1 h.1)] at hk;simp(disch:=((try simp only[nx3]);omega)) [h1];exact bpl hk
theorem name_ok (v:Sv) (hk:k (.bool (decide (zb0 v))) M):zg F (.fn n_Z [] []) [.agg (eSv v)] M k kp:=by
 apply zg.back;refine .fn h_wire_name rfl (by simp[f_Z]) ?_;by_cases h2:v.k=2
 ·simp(disch:=((try simp only[nx3]);omega)) [eSv,h2];refine ze7 _ _ ?_;rw[decide_eq_decide.2 (show(0≤v.n∧v.n<12)↔zb0 v by unfold zb0;omega)];simp(disch:=((try simp only[nx3]);omega));exact bpl hk
 ·by_cases h3:v.k=3
  ·simp(disch:=((try simp only[nx3]);omega)) [eSv,h3];refine ze7 _ _ ?_;rw[decide_eq_decide.2 (show(0≤v.n∧v.n<60)↔zb0 v by unfold zb0;omega)];simp(disch:=((try simp only[nx3]);omega));exact bpl hk
  ·by_cases h4:v.k=4
   ·simp(disch:=((try simp only[nx3]);omega)) [eSv,h4];refine ze7 _ _ ?_;rw[decide_eq_decide.2 (show(0≤v.n∧v.n<24)↔zb0 v by unfold zb0;omega)];simp(disch:=((try simp only[nx3]);omega));exact bpl hk
   ·rw[decide_eq_false (by unfold zb0;omega)] at hk;simp(disch:=((try simp only[nx3]);omega)) [eSv,h2,h3,h4];exact bpl hk
theorem value_ok (v:Sv) (hk:k (.bool (decide (ValV v))) M):zg F (.fn n_ba [] []) [.agg (eSv v)] M k kp:=by
 apply zg.back;refine .fn h_wire_value rfl (by simp[f_ba]) ?_;simp(disch:=((try simp only[nx3]);omega));refine name_ok v ?_;by_cases h1:zb0 v
 ·rw[decide_eq_true h1];rw[decide_eq_true (show ValV v from .inl h1)] at hk;simp(disch:=((try simp only[nx3]);omega));exact bpl hk
 ·rw[decide_eq_false h1];by_cases h2:v.k=1
  ·by_cases h3: -1000000000≤v.n
   ·by_cases h4:v.n≤1000000000
    ·rw[decide_eq_true (show ValV v from .inr ⟨h2,h3,h4⟩)] at hk;simp(disch:=((try simp only[nx3]);omega)) [eSv,h2,h3,h4];exact bpl hk
    ·rw[decide_eq_false (show¬ValV v from fun h=>h4 (h.resolve_left h1).2.2)] at hk;simp(disch:=((try simp only[nx3]);omega)) [eSv,h2,h3,h4];exact bpl hk
   ·rw[decide_eq_false (show¬ValV v from fun h=>h3 (h.resolve_left h1).2.1)] at hk;simp(disch:=((try simp only[nx3]);omega)) [eSv,h2,h3];exact bpl hk
  ·rw[decide_eq_false (show¬ValV v from fun h=>h2 (h.resolve_left h1).1)] at hk;simp(disch:=((try simp only[nx3]);omega)) [eSv,h2];exact bpl hk
attribute [local simp] c_f f_f r_f_1 r_f_2 r_f_3 r_f_4 r_f_5 r_f_6 r_f_7 r_f_9 c_w f_w r_w_1 r_w_2 c_Q f_Q r_Q_1 r_Q_2 c_bj f_bj r_bj_1 r_bj_2
theorem indexV_ok {f:DV} {l:List Sv} (p:Sv→Bool) (hl:l.length<4000000000000000000) (hf: ∀v∈l,∀{k:DV→VM→Prop},k (.bool (p v)) M→zg F f [.agg (eSv v)] M k kp) (hk: ∀r:Int,decide (0≤r)=l.any p→k (I r) M):zg F (.fn n_f [] []) [.lst 2 (l.map eSv),f] M k kp:=by
 refine .fn zbU rfl (by simp[f_f]) ?_;simp(disch:=((try simp only[nx3]);omega));refine .for (σ:=Unit) c_f_8.eq_1 (fun i _=>[(8,I i)]) (fun _=>M) (fun i _=>(l.take i).any p=false) l.length () (by simp) rfl rfl (fun i _ hi hP again=> ?_) (fun _ hP=> ?_)
 ·rw[List.take_succ_eq_append_getElem hi,List.any_append] at again;have hf:= @hf l[i] (List.getElem_mem hi);have hin:=List.getElem_mem hi;generalize hx:l[i]=v at*;simp(disch:=((try simp only[nx3]);omega)) [hi,hx];refine hf ?_;cases hp:p v with
  |true=>
   have hk:=hk i (by rw[decide_eq_true (by omega)];exact(qbc.2 ⟨v,hin,hp⟩).symm);clear again;simp(disch:=((try simp only[nx3]);omega));exact hk
  |false=>
   have again:=again () (by rw[hP];simp[hp]);simp at again;simp(disch:=((try simp only[nx3]);omega));exact again
 ·rw[qo] at hP;have hk:=hk (-1) (by rw[hP];decide);simp(disch:=((try simp only[nx3]);omega));exact hk
theorem containsV_ok {f:DV} {l:List Sv} (p:Sv→Bool) (hl:l.length<4000000000000000000) (hf: ∀v∈l,∀{k:DV→VM→Prop},k (.bool (p v)) M→zg F f [.agg (eSv v)] M k kp) (hk:k (.bool (l.any p)) M):zg F (.fn n_w [] []) [.lst 2 (l.map eSv),f] M k kp:=by
 refine .fn zbC rfl (by simp[f_w]) ?_;simp(disch:=((try simp only[nx3]);omega));refine indexV_ok p hl hf fun r hr=> ?_;simp(disch:=((try simp only[nx3]);omega)) [hr];exact hk
theorem allV_ok {g:Nat} {l:List Sv} (q:Sv→Bool) (hl:l.length<4000000000000000000) (hf: ∀v∈l,∀{M:VM} {k:DV→VM→Prop},k (.bool (q v)) M→zg F (.fn g [] []) [.agg (eSv v)] M k kp) (hk:k (.bool (l.all q)) M):zg F (.fn n_Q [] []) [.lst 2 (l.map eSv),.fn g [] []] M k kp:=by
 apply zg.back;refine .fn zfi rfl (by simp[f_Q]) ?_;simp(disch:=((try simp only[nx3]);omega));refine containsV_ok (fun v=> !q v) hl (fun v hv {k} hk=> ?_) ?_
 ·apply zg.back;refine .fn zeY rfl (by simp[f_bj]) ?_;simp(disch:=((try simp only[nx3]);omega));refine hf v hv ?_;simp(disch:=((try simp only[nx3]);omega));exact bpl hk
 ·have e:(!(l.any fun v=> !q v))=l.all q:=by rw[List.not_any_eq_all_not];simp
  generalize (l.any fun v=> !q v)=b at*;simp(disch:=((try simp only[nx3]);omega));rw[e];exact bpl hk
def MsgV (m:List Sv):Prop:=m.length≤3∧ ∀v∈m,ValV v
attribute [local simp] c_6 f_6 r_6_1 r_6_2 c_9 f_9 r_9_1 r_9_2
theorem zlp (m:List Sv) (hl:m.length<4000000000000000000) (hk:k (.bool (decide (MsgV m))) M):zg F (.fn n_6 [] []) [.agg [.lst 2 (m.map eSv)]] M k kp:=by
 apply zg.back;refine .fn zkZ rfl (by simp[f_6]) ?_;by_cases h1:m.length≤3
 ·have h1i:(m.length:Int)≤3:=by omega
  simp(disch:=((try simp only[nx3]);omega)) [h1i];refine allV_ok (fun v=>decide (ValV v)) hl (fun v hv {M k} hk=>value_ok v hk) ?_;have e:m.all (fun v=>decide (ValV v))=decide (MsgV m):=by
   rw[Bool.eq_iff_iff,qg,decide_eq_true_iff];exact⟨fun h=>⟨h1,fun v hv=>of_decide_eq_true (h v hv)⟩,fun h v hv=>decide_eq_true (h.2 v hv)⟩
  rw[e];simp(disch:=((try simp only[nx3]);omega));exact bpl hk
 ·have h1i: ¬(m.length:Int)≤3:=by omega
  rw[decide_eq_false (fun h=>h1 h.1)] at hk;simp(disch:=((try simp only[nx3]);omega)) [h1i];exact bpl hk
theorem proper_ok (l:Lt) (hl:l.vs.length<4000000000000000000) (hk:k (.bool (decide (zir l))) M):zg F (.fn n_9 [] []) [.agg (eLt l)] M k kp:=by
 apply zg.back;refine .fn h_wire_proper rfl (by simp[f_9]) ?_;simp(disch:=((try simp only[nx3]);omega)) [eLt];refine ze7 _ _ ?_;by_cases h1:0≤l.ch∧l.ch<60
 ·rw[decide_eq_true h1];simp(disch:=((try simp only[nx3]);omega)) [eLt];refine zlp l.vs hl ?_;rw[decide_eq_decide.2 (show MsgV l.vs↔zir l from⟨fun h=>⟨h1,h⟩,fun h=>h.2⟩)];simp(disch:=((try simp only[nx3]);omega));exact bpl hk
 ·rw[decide_eq_false h1];rw[decide_eq_false (fun h=>h1 h.1)] at hk;simp(disch:=((try simp only[nx3]);omega));exact bpl hk
end
section
variable {M M' B:VM} {k kp:DV→VM→Prop} {n0 j:Nat}
def eN (n:Nat):List DV:=[I (n:Int)]
end
section
variable {M M':VM} {B:Base} {k kp:DV→VM→Prop} {n0 j:Nat}
section
variable {w:WS} {dt db:DV}
end
theorem zj9 (v w:Sv):binD .eql (.leaves [0,1]) (.agg (eSv v)) (.agg (eSv w))=some (.bool (decide (v=w))):=by
 have h:=zcD v w;show(zh0 (eSv v) (eSv w) [0,1]).map DV.bool=_;rw[show zh0 (eSv v) (eSv w) [0,1]=some (decide (v=w)) from h];rfl
end
section
variable {M M':VM} {B:Base} {k kp:DV→VM→Prop} {n0 j:Nat}
end
section
variable {M M' B:VM} {k kp:DV→VM→Prop} {n0 j:Nat}
end
section
variable {M M' B:VM} {k kp:DV→VM→Prop} {n0 j:Nat}
abbrev zfc:DV:=.ifc 192 (.agg [])
structure RdE (B M:VM) (j:Nat) (t:List Sv) (l:List UInt8) (dn:DV):Prop where
 sm:SM B.next B M
 nx:B.next≤M.next
 j1:B.next≤j
 j2:j<M.next
 oj:M.obj j=some (.rows false 3 [[dn,.nilM,St l]])
 ln:Lb M dn 2 (t.map eSv)
 fn: ∀i,i<B.next→Off dn i
section
variable {t:List Sv} {l:List UInt8} {dn:DV}
theorem RdE.nj (h:RdE B M j t l dn):Off dn j:=h.ln.off h.oj (fun op e=>by cases e)
theorem RdE.keep (h:RdE B M j t l dn) (hn:M.next≤M'.next) (hk: ∀i,i<M.next→M'.get i=M.get i):RdE B M' j t l dn:=by
 have a:=h.j2;have g:=h.nx;refine⟨fun i hi=>(hk i (by omega)).trans (h.sm i hi),by omega,h.j1,by omega,?_,h.ln.keepA hn hk,h.fn⟩;rw[←h.oj];show(M'.get j).map _=(M.get j).map _;rw[hk j a]
theorem RdE.rest (h:RdE B M j t l dn) (r:List UInt8):RdE B (M.put j (.rows false 3 [[dn,.nilM,St r]])) j t r dn:=by
 have a:=h.j1;have c:=h.j2;have g:=h.nx;exact⟨zC h.sm h.j1,by simp;omega,h.j1,by simp;omega,by simp,h.ln.put h.nj _,h.fn⟩
end
theorem get_step {x a q i:Nat} (hx:x<256) (hq:q<5) (ha:a<2^(7*q)) (hi:i=7*q): ∃y z:Nat,(∀ek,binD .and ek (.int .u8 (x:Int)) (.int .u8 127)=some (.int .u8 (y:Int)))∧zkw .u64 (.int .u8 (y:Int))=some (.int .u64 (y:Int))∧(∀ek,binD .shl ek (.int .u64 (y:Int)) (I (i:Int))=some (.int .u64 (z:Int)))∧(∀ek,binD .or ek (.int .u64 (a:Int)) (.int .u64 (z:Int))=some (.int .u64 ((a+z:Nat):Int)))∧z=x%128*2^(7*q)∧a+z<2^(7*(q+1))∧a+z<34359738368:=by
 have hp:(2:Nat)^(7*(q+1))=2^(7*q)*128:=by rw[show 7*(q+1)=7*q+7 by omega,Nat.pow_add]
 have hm:x%128*2^(7*q)≤127*2^(7*q):=qy _ (by omega);have h35:(2:Nat)^(7*(q+1))≤2^35:=Nat.pow_le_pow_right (by omega) (by omega);have h35':(2:Nat)^35=34359738368:=by decide
 have hlt:a+x%128*2^(7*q)<2^(7*(q+1)):=by rw[hp];omega
 refine⟨x%128,x%128*2^(7*q),fun ek=> ?_,conv_u64 _ _ (by omega),fun ek=> ?_,fun ek=> ?_,rfl,hlt,by omega⟩
 ·have:=zhI (ek:=ek) .u8 x 127 (by show x<2^8;omega) (by show 127<2^8;omega);rw[and127,wrap_u8] at this;rw[show(127:Int)=((127:Nat):Int) from rfl,this]
  congr 2;omega
 ·have:=bin_shlN (ek:=ek) .u64 .i64 (x%128) i (by show i≤64;omega);rw[wrap_u64,hi] at this;rw[hi,this];generalize x%128*2^(7*q)=z at*
  congr 2;omega
 ·have:=bin_orN (ek:=ek) .u64 a (x%128*2^(7*q)) (by show a<2^64;omega) (by show _<2^64;omega);rw[or_add _ ha,wrap_u64] at this;rw[this];generalize x%128*2^(7*q)=z at*
  congr 2;omega
attribute [local simp] c_o f_o r_o_1 r_o_2 r_o_3 r_o_4 r_o_5 r_o_6 r_o_7 r_o_8 r_o_9 r_o_10 r_o_11 r_o_12 r_o_14
theorem getA_pow (q:Nat):(2:Nat)^(7*(q+1))=2^(7*q)*128:=by rw[show 7*(q+1)=7*q+7 by omega,Nat.pow_add]
def Kj (j:Nat) (M M':VM):Prop:=M.next≤M'.next∧ ∀i,i<M.next→i≠j→M'.get i=M.get i
theorem Kj.refl (j:Nat) (M:VM):Kj j M M:=⟨qj _,fun _ _ _=>rfl⟩
theorem Kj.trans {M2:VM} (h:Kj j M M') (h2:Kj j M' M2):Kj j M M2:=⟨qM h.1 h2.1,fun i hi hj=>(h2.2 i (ql hi h.1) hj).trans (h.2 i hi hj)⟩
theorem Kj.put (j:Nat) (M:VM) (o:MO):Kj j M (M.put j o):=⟨qB _,fun i hi hj=>by rw[get_put,if_neg hj]⟩
theorem Kj.all (hn:M.next≤M'.next) (h: ∀i,i<M.next→M'.get i=M.get i):Kj j M M':=⟨hn,fun i hi _=>h i hi⟩
def Kept (B M':VM):Prop:=SM B.next B M'∧B.next≤M'.next
theorem Lb.kj {d:DV} {s:Nat} {rows:List (List DV)} (h:Lb M d s rows) (hj:Off d j) (hk:Kj j M M'):Lb M' d s rows:=h.keep hk.1 fun i hi hn=>hk.2 i hi fun e=>hn (by rw[e];exact hj)
section
variable {t:List Sv} {l:List UInt8} {dn:DV}
theorem RdE.kept (h:RdE B M j t l dn):Kept B M:=⟨h.sm,h.nx⟩
theorem zeT (h:RdE B M j t l dn) (hk: ∀M' n r,getN l=some (n,r)→RdE B M' j t r dn→Kj j M M'→k (I (n:Int)) M') (hp: ∀M',getN l=none→Kept B M'→kp zfc M'):zg F (.fn n_o [] []) [.ptr j 0 0] M k kp:=by
 refine .fn zhu rfl (by simp[f_o]) ?_;simp(disch:=((try simp only[nx3]);omega));refine .for (σ:=VM×Nat×List UInt8×Nat) c_o_13.eq_1 (fun q z=>[(3,.int .u64 (z.2.1:Int)),(4,I (z.2.2.2:Int))]) (fun z=>z.1) (fun q z=>RdE B z.1 j t z.2.2.1 dn∧z.2.1<2^(7*q)∧z.2.2.2=7*q∧getA (5 - q) (2^(7*q)) z.2.1 z.2.2.1=getN l∧Kj j M z.1) 5 (M,0,l,0) (by simp) rfl ⟨h,by show 0<2^(7*0);decide,rfl,rfl,.refl _ _⟩ (fun q z hq hP again=> ?_) (fun z hP=> ?_)
 ·obtain⟨y,a,r,i⟩:=z;obtain⟨p1,p2,p3,p4,p5⟩:=hP;dsimp only at*;have o1:=p1.oj;have hii:(i:Int)<35:=by omega
  have e5:5 - q=(5 - (q+1))+1:=by omega
  rw[e5] at p4
  match r,p1,o1,p4 with
  | [],p1,o1,p4=>
    have hp:=hp y p4.symm p1.kept;clear again;simp(disch:=((try simp only[nx3]);omega)) [hii,o1];exact hp
  |x::r,p1,o1,p4=>
   have hx:=x.toNat_lt;obtain⟨b,c,s1,s2,s3,s4,hc,hlt,h35⟩:=get_step (x:=x.toNat) hx hq p2 p3;have s0:zcn (some (I 1)) none (St (x::r))=some (St r):=zjz (x::r) .i64 1 (by simp);have hb:zdE x=.int .u8 (x.toNat:Int):=rfl;have p1':=p1.rest r;unfold getA at p4;by_cases hlow:x.toNat<128
   ·rw[if_pos hlow] at p4;have hm:x.toNat%128=x.toNat:=Nat.mod_eq_of_lt hlow;rw[hm] at hc;rw[←hc] at p4;have hk:=hk _ _ _ p4.symm p1' (p5.trans (.put _ _ _));have s5:=conv_i64 .u64 (a+c) (by omega);have hli:(x.toNat:Int)<128:=by omega
    clear again;generalize a+c=n at*;simp(disch:=((try simp only[nx3]);omega)) [hii,o1,s0,hb,s1,s2,s3,s4,s5,bin_ltK,hli];exact hk
   ·rw[if_neg hlow] at p4;have again:=again (y.put j (.rows false 3 [[dn,.nilM,St r]]),a+c,r,i+7) ⟨p1',hlt,by dsimp only;omega,by rw[getA_pow,hc];exact p4,p5.trans (.put _ _ _)⟩;have hli: ¬(x.toNat:Int)<128:=by omega
    generalize a+c=n at*;simp at again;simp(disch:=((try simp only[nx3]);omega)) [hii,o1,s0,hb,s1,s2,s3,s4,bin_ltK,hli];exact again
 ·obtain⟨y,a,r,i⟩:=z;obtain⟨p1,p2,p3,p4,p5⟩:=hP;dsimp only at*;have hii: ¬(i:Int)<35:=by omega
  have hp:=hp y p4.symm p1.kept;simp(disch:=((try simp only[nx3]);omega)) [hii];exact hp
attribute [local simp] c_C f_C r_C_1 r_C_2 r_C_3 r_C_4 r_C_5 c_R f_R r_R_1 r_R_2 r_R_3 r_R_4 c_G f_G r_G_1 r_G_2 r_G_3 r_G_4 r_G_5
theorem zed (h:RdE B M j t l dn) (hk: ∀M' n r,zej l=some (n,r)→RdE B M' j t r dn→Kj j M M'→k (I (n:Int)) M') (hp: ∀M',zej l=none→Kept B M'→kp zfc M'):zg F (.fn n_C [] []) [.ptr j 0 0] M k kp:=by
 refine .fn zgK rfl (by simp[f_C]) ?_;simp(disch:=((try simp only[nx3]);omega));refine zeT h (fun M' n r e h' kj=> ?_) (fun M' e h'=> ?_)
 ·have o1:=h'.oj;by_cases hn:n≤r.length
  ·have hk:=hk M' n r (by unfold zej;rw[e,Option.bind_some,if_pos hn]) h' kj;have hni: ¬(r.length:Int)<n:=by omega
   simp(disch:=((try simp only[nx3]);omega)) [o1,hni];exact hk
  ·have hp:=hp M' (by unfold zej;rw[e,Option.bind_some,if_neg hn]) h'.kept;have hni:(r.length:Int)<n:=by omega
   simp(disch:=((try simp only[nx3]);omega)) [o1,hni];exact hp
 ·have hp:=hp M' (by unfold zej;rw[e];rfl) h';simp(disch:=((try simp only[nx3]);omega));exact hp
theorem rdat_ok (h:RdE B M j t l dn) (i:Nat) (hk: ∀M' v,t[i]? =some v→RdE B M' j t l dn→M.next≤M'.next→(∀q,q<M.next→M'.get q=M.get q)→k (.agg (eSv v)) M') (hp: ∀M',t[i]? =none→Kept B M'→kp zfc M'):zg F (.fn n_R [] []) [.ptr j 0 0,I (i:Int)] M k kp:=by
 have a:=h.j2;have o1:=h.oj;have hln:=h.ln;have hnx:=h.nx;refine .fn zii rfl (by simp[f_R]) ?_;by_cases hi:i<t.length
 ·have hni: ¬(t.length:Int)≤i:=by omega
  rcases hln.v with⟨e,_⟩| ⟨q,op,cap,h2,e,h4,_⟩
  ·have:=congrArg qD e;simp at this;rw[this] at hi;simp at hi
  subst e;have wS:zp [.int .i64 0,.int .i64 0] 0 (eSv t[i])=some (eSv t[i]):=rfl;have kq: ∀q,q<M.next→((M.new (.rows false 2 [[.int .i64 0,.int .i64 0]])).put M.next (.rows false 2 [eSv t[i]])).get q=M.get q:=fun q hq=>by rw[get_put,if_neg (by omega),get_new,if_neg (by omega)]
  have hk:=hk _ t[i] (List.getElem?_eq_getElem hi) (h.keep (M':=(M.new (.rows false 2 [[.int .i64 0,.int .i64 0]])).put M.next (.rows false 2 [eSv t[i]])) (by simp;omega) kq) (by simp;omega) kq;have hqn:q≠M.next:=by omega
  have hjn:j≠M.next:=by omega
  simp(disch:=((try simp only[nx3]);omega)) [o1,hni,hi,h4,hqn,hjn,wS];exact hk
 ·have hni:(t.length:Int)≤i:=by omega
  have hp:=hp (M.new (.rows false 2 [[.int .i64 0,.int .i64 0]])) (List.getElem?_eq_none (by omega)) ⟨zT h.sm hnx,by simp;omega⟩;simp(disch:=((try simp only[nx3]);omega)) [o1,h.ln.len,hni];exact hp
theorem zg8 (h:RdE B M j t l dn) (kd:Int) (hk: ∀M' n r,zcR t kd l=some (n,r)→RdE B M' j t r dn→Kj j M M'→k (I n) M') (hp: ∀M',zcR t kd l=none→Kept B M'→kp zfc M'):zg F (.fn n_G [] []) [.ptr j 0 0,I kd] M k kp:=by
 refine .fn zgJ rfl (by simp[f_G]) ?_;simp(disch:=((try simp only[nx3]);omega));refine zeT h (fun M' n r e h' kj=> ?_) (fun M' e h'=> ?_)
 ·simp(disch:=((try simp only[nx3]);omega));refine rdat_ok h' n (fun M2 v e2 h2 n2 k2=> ?_) (fun M2 e2 h2=> ?_)
  ·have kq: ∀q,q<M2.next→((M2.new (.rows false 2 [[.int .i64 0,.int .i64 0]])).put M2.next (.rows false 2 [eSv v])).get q=M2.get q:=fun q hq=>by rw[get_put,if_neg (by omega),get_new,if_neg (by omega)]
   have h3:=h2.keep (M':=(M2.new (.rows false 2 [[.int .i64 0,.int .i64 0]])).put M2.next (.rows false 2 [eSv v])) (by simp;omega) kq;have kj3:=(kj.trans (.all n2 k2)).trans (Kj.all (j:=j) (by simp;omega) kq);by_cases hkd:v.k=kd
   ·have hk:=hk _ _ _ (by unfold zcR;rw[e,qd,e2,qd,if_pos hkd]) h3 kj3;unfold eSv at*;simp(disch:=((try simp only[nx3]);omega)) [hkd];rw[hkd] at hk;exact hk
   ·have hp:=hp _ (by unfold zcR;rw[e,qd,e2,qd,if_neg hkd]) h3.kept;unfold eSv at*;simp(disch:=((try simp only[nx3]);omega)) [hkd];exact hp
  ·have hp:=hp M2 (by unfold zcR;rw[e,qd,e2];rfl) h2;simp(disch:=((try simp only[nx3]);omega));exact hp
 ·have hp:=hp M' (by unfold zcR;rw[e];rfl) h';simp(disch:=((try simp only[nx3]);omega));exact hp
end
end
section
variable {M M' B:VM} {k kp:DV→VM→Prop} {n0 j:Nat}
section
variable {X:RnD} {p:Option DV} {s:DS} {l:List CI} {d:Option (List Bool)} {lo:Nat} {K:Option DV→DS→VM→Prop}
@[simp] theorem handD_nil:zih [] p s M K=K p s M:=id rfl
@[simp] theorem handD_recov:zih (⟨d,.recov,none,lo⟩::l) p s M K=zih l none (zY d (p.getD .nilI) s) M K:=id rfl
@[simp] theorem handD_mv (x:CO):zih (⟨d,.mv x,none,lo⟩::l) p s M K=okD (opD (.mv x) s M) fun v M=>zih l p (zY d v s) M K:=id rfl
@[simp] theorem okD_some (v:DV) (k:DV→VM→Prop):okD (some (v,M)) k=k v M:=id rfl
@[simp] theorem doneKD_ret (f:DV) (l:List DV) (rs:List CR) (k:DV→VM→Prop):(doneKD X f l rs k).ret s M=X.hand f l none M fun M=>endD rs k s M:=id rfl
@[simp] theorem doneKD_pan (f v:DV) (l:List DV) (rs:List CR) (k:DV→VM→Prop):(doneKD X f l rs k).pan v s M=X.hand f l (some v) M fun M=>endD rs k s M:=id rfl
theorem dfr_go {X:Nat→RnD} {d:Dfr} {rs:List CR} {g:Nat} {a c:List DV} (h1:evD s d.f=some (.fn g a c)) (h2:evDL s d.args=some []) (h: @Cd (X M.next) (.base (doneKD (X M.next) (.fn g a c) [] rs k)) d.rest (zbH d.L s) M):(bodyKD X rs k kp (some d)).nrm s M:=by
 show ofD (evD s d.f) _;rw[h1];show ofD (evDL s d.args) _;rw[h2];exact h
end
@[simp] theorem ne_nilI (t:TypeId) (u:DV):binD .neq (.iface true) (.ifc t u) .nilI=some (.bool true):=id rfl
@[simp] theorem ne_nilI2:binD .neq (.iface true) .nilI .nilI=some (.bool false):=id rfl
attribute [local simp] c_I zgs f_I r_I_2 r_I_3 r_I_4 r_bh c_bh f_bh r_bh_1 r_bh_2 r_bh_3
theorem zkJ {v:Option DV} {b:Bool} {k:VM→Prop} {q:Nat} (hq:M.obj q=some (.rows false 1 [[.bool b]])) (h0:v=none→k M) (h1: ∀t u,v=some (.ifc t u)→k (M.put q (.rows false 1 [[.bool false]]))) (hv:v=none∨ ∃t u,v=some (.ifc t u)):HandD F (.fn n_bh [] [.ptr q 0 0]) [] v M k:=by
 refine HandD.func ziS rfl ⟨by show 1≤5;decide,?_⟩;rcases hv with rfl| ⟨t,u,rfl⟩
 ·have h0:=h0 rfl;show zih _ _ _ _ _;simp;rw[wp_Cd];simp(disch:=((try simp only[nx3]);omega)) [hq];exact h0
 ·have h1:=h1 t u rfl;show zih _ _ _ _ _;simp;rw[wp_Cd];simp(disch:=((try simp only[nx3]);omega)) [hq];exact h1
theorem zlJ {g:Nat} {a c:List DV} (h:zg F (.fn g a c) [] (M.new (.rows false 1 [[.bool false]])) (fun _ M'=>M'.obj M.next=some (.rows false 1 [[.bool false]])∧k (.bool true) (M'.put M.next (.rows false 1 [[.bool true]]))) (fun v M'=>(∃t u,v=.ifc t u)∧M'.obj M.next=some (.rows false 1 [[.bool false]])∧k (.bool false) (M'.put M.next (.rows false 1 [[.bool false]])))):zg F (.fn n_I [] []) [.fn g a c] M k kp:=by
 refine .fn zk0 rfl (by simp[f_I]) ?_;simp(disch:=((try simp only[nx3]);omega));refine dfr_go (g:=n_bh) (a:=[]) (c:=[.ptr M.next 0 0]) (by simp) rfl ?_;simp(disch:=((try simp only[nx3]);omega));refine h.mono (fun d M' hd=> ?_) (fun v M' hv=> ?_)
 ·obtain⟨h1,h2⟩:=hd;simp(disch:=((try simp only[nx3]);omega)) [h1];refine zkJ (b:=true) (by simp) (fun _=> ?_) (fun t u e=>by cases e) (.inl rfl);simp(disch:=((try simp only[nx3]);omega));exact h2
 ·obtain⟨⟨t,u,rfl⟩,h1,h2⟩:=hv;simp(disch:=((try simp only[nx3]);omega)) [h1];refine zkJ (b:=false) h1 (fun e=>by cases e) (fun t' u' e=> ?_) (.inr ⟨t,u,rfl⟩);simp(disch:=((try simp only[nx3]);omega));exact h2
section
variable {t:List Sv} {l:List UInt8} {dn:DV}
theorem Lb.ltN {d:DV} {s:Nat} {rows:List (List DV)} (h:Lb M d s rows) {i:Nat} (hi: ¬Off d i):i<M.next:=by
 rcases h.v with⟨_,rfl⟩| ⟨q,_,_,h2,rfl,_⟩
 ·exact absurd trivial hi
 ·have:i=q:=Classical.byContradiction fun e=>hi e;omega
theorem RdE.gro (h:RdE B M j t l dn) {d d':DV} (g:Gro M d M' d') (hf: ∀q,q<B.next→Off d q) (hj:Off d j) (hn: ∀q,¬Off dn q→Off d q):RdE B M' j t l dn:=by
 have a:=h.j2;have c:=h.nx;have e:=g.nx;refine⟨fun i hi=>(g.kp i (by omega) (hf i hi)).trans (h.sm i hi),by omega,h.j1,by omega,?_,h.ln.keep e fun i hi hn'=>g.kp i hi (hn i hn'),h.fn⟩;rw[g.obj a hj];exact h.oj
theorem Kj.gro {M3 M4:VM} {d d':DV} (h:Kj j M M3) (g:Gro M3 d M4 d') (hf: ∀q,q<M.next→Off d q):Kj j M M4:=⟨qM h.1 g.nx,fun q hq hj=>(g.kp q (ql hq h.1) (hf q hq)).trans (h.2 q hq hj)⟩
theorem val_step {x:Nat} (hx:x<34359738368): ∃a b c e:Nat,(∀ek,binD .and ek (I (x:Int)) (I 1)=some (I (a:Int)))∧(∀ek,binD .shr ek (I (x:Int)) (.int .u64 1)=some (I (b:Int)))∧(∀ek,binD .and ek (I (x:Int)) (I 2)=some (I (c:Int)))∧(∀ek,binD .shr ek (I (x:Int)) (.int .u64 2)=some (I (e:Int)))∧a=x%2∧b=x / 2∧c=2*(x / 2%2)∧e=x / 4:=by
 refine⟨x%2,x / 2,2*(x / 2%2),x / 4,fun ek=> ?_,fun ek=>zgc .i64 .u64 x 1 (by decide),fun ek=> ?_,fun ek=>zgc .i64 .u64 x 2 (by decide),rfl,rfl,rfl,rfl⟩
 ·have:=zhI (ek:=ek) .i64 x 1 (by show x<2^64;omega) (by show 1<2^64;omega);rw[and1,wrap_i64 (by omega) (by omega)] at this;exact this
 ·have:=zhI (ek:=ek) .i64 x 2 (by show x<2^64;omega) (by show 2<2^64;omega);rw[and2,wrap_i64 (by omega) (by omega)] at this;exact this
attribute [local simp] c_q f_q r_q_1 r_q_2 r_q_3 r_q_4 r_q_5 r_q_6 r_q_7 r_q_8 r_q_9 r_q_10 r_q_11 r_q_13
theorem zcs {l:List UInt8} {n:Nat} {r:List UInt8} (h:zej l=some (n,r)):n≤r.length∧r.length≤l.length∧n<34359738368:=by
 unfold zej at h;cases hg:getN l with
 |none=>rw[hg] at h;cases h
 |some x=>
  obtain⟨m,q⟩:=x;rw[hg,qd] at h
  split at h
  ·cases h;obtain⟨h1,p,h2,h3⟩:=zkk hg;have:=congrArg qD h2;simp at this;exact⟨by assumption,by omega,h1⟩
  ·cases h
theorem rdvals_ok (h:RdE B M j t l dn) (hl:l.length≤1000000) (hk: ∀M' d vs r,zcB t l=some (vs,r)→RdE B M' j t r dn→Kj j M M'→Lb M' d 2 (vs.map eSv)→(∀q,q<M.next→Off d q)→k d M') (hp: ∀M',zcB t l=none→Kept B M'→kp zfc M'):zg F (.fn n_q [] []) [.ptr j 0 0] M k kp:=by
 have a:=h.j2;have c:=h.nx;refine .fn zgI rfl (by simp[f_q]) ?_;simp(disch:=((try simp only[nx3]);omega));refine zed h (fun M1 N r1 e1 h1 k1=> ?_) (fun M' e h'=> ?_)
 ·obtain⟨w1,w2,w3⟩:=zcs e1;have n1:=k1.1;have hv:zcB t l=repN (valN t) N [] r1:=by unfold zcB;rw[e1];rfl
  simp(disch:=((try simp only[nx3]);omega));refine .for (σ:=VM×DV×List Sv×List UInt8) c_q_12.eq_1 (fun i z=>[(3,z.2.1),(7,I i)]) (fun z=>z.1) (fun i z=>RdE B z.1 j t z.2.2.2 dn∧Kj j M z.1∧Lb z.1 z.2.1 2 (z.2.2.1.map eSv)∧(∀q,q<M.next→Off z.2.1 q)∧repN (valN t) (N - i) z.2.2.1 z.2.2.2=zcB t l∧z.2.2.1.length=i) N (M1,.nilS,[],r1) (by simp) rfl ⟨h1,k1,.nil _ _,fun _ _=>trivial,hv.symm,rfl⟩ (fun i z hi hP again=> ?_) (fun z hP=> ?_)
  ·obtain⟨y,d,acc,r⟩:=z;obtain⟨p1,p2,p3,p4,p5,p6⟩:=hP;dsimp only at*;have eN:N - i=(N - (i+1))+1:=by omega
   rw[eN] at p5;have hdj:=p4 j a;have hdn: ∀q,¬Off dn q→Off d q:=fun q hq=>p4 q (h.ln.ltN hq);simp(disch:=((try simp only[nx3]);omega)) [hi];refine zeT p1 (fun M2 x r2 e2 h2 k2=> ?_) (fun M' e h'=> ?_)
   ·have p3':=p3.kj hdj k2;obtain⟨hx,-⟩:=zkk e2;have n2:=k2.1;have ny:=p2.1;obtain⟨b1,b2,b3,b4,s1,s2,s3,s4,q1,q2,q3,q4⟩:=val_step hx;have pk: ∀{v:Sv} {M3 M4:VM} {d':DV},valN t r=some (v,r2)→RdE B M3 j t r2 dn→Kj j M M3→Gro M3 d M4 d'→Lb M4 d' 2 ((acc++[v]).map eSv)→RdE B M4 j t r2 dn∧Kj j M M4∧Lb M4 d' 2 ((acc++[v]).map eSv)∧(∀q,q<M.next→Off d' q)∧repN (valN t) (N - (i+1)) (acc++[v]) r2=zcB t l∧(acc++[v]).length=i+1:=fun{v M3 M4 d'} g1 g2 g3 g4 g5=>
     ⟨g2.gro g4 (fun q hq=>p4 q (by omega)) hdj hdn,g3.gro g4 p4,g5,fun q hq=>g4.of q (by have:=g3.1;omega) (p4 q hq),by rw[←p5,zcQ g1],by simp[p6]⟩
    by_cases hodd:x%2=1
    ·have hai:(b1:Int)=1:=by omega
     simp(disch:=((try simp only[nx3]);omega)) [s1,hai,s2];refine rdat_ok h2 b2 (fun M3 v e3 h3 n3 k3=> ?_) (fun M' e h'=> ?_)
     ·have g1:valN t r=some (v,r2):=by unfold valN;rw[e2,Option.bind_some,if_pos hodd,←q2,e3];rfl
      simp(disch:=((try simp only[nx3]);omega));refine zgV ((p3'.keepA n3 k3).new _) (new:=[eSv v]) (by simp) (by decide) (by simp) (by simp) (by simp;omega) fun d' M' hL hG=> ?_;have again:=again (M',d',acc++[v],r2) (pk g1 h3 ((p2.trans k2).trans (.all n3 k3)) hG.pre (by simpa using hL));simp at again;simp(disch:=((try simp only[nx3]);omega));exact again
     ·have hp:=hp M' (by rw[←p5];exact zb9 (by unfold valN;rw[e2,qd,if_pos hodd,←q2,e];rfl)) h';clear again;simp(disch:=((try simp only[nx3]);omega));exact hp
    ·have hai: ¬(b1:Int)=1:=by omega
     by_cases hf:x%4=0
     ·have hci:(b3:Int)=0:=by omega
      have g1:valN t r=some (⟨1,(b4:Int)⟩,r2):=by unfold valN;rw[e2,qd,if_neg hodd,if_pos hf,←q4]
      simp(disch:=((try simp only[nx3]);omega)) [s1,hai,s3,hci,s4];refine zgV (p3'.new _) (new:=[eSv ⟨1,(b4:Int)⟩]) (by simp[eSv]) (by decide) (by simp) (by simp) (by simp;omega) fun d' M' hL hG=> ?_;have again:=again (M',d',acc++[⟨1,(b4:Int)⟩],r2) (pk g1 h2 (p2.trans k2) hG.pre (by simpa using hL));simp at again;simp(disch:=((try simp only[nx3]);omega));exact again
     ·have hci: ¬(b3:Int)=0:=by omega
      have g1:valN t r=some (⟨1,-(b4:Int) - 1⟩,r2):=by unfold valN;rw[e2,qd,if_neg hodd,if_neg hf,←q4]
      simp(disch:=((try simp only[nx3]);omega)) [s1,hai,s3,hci,s4];refine zgV (p3'.new _) (new:=[eSv ⟨1,-(b4:Int) - 1⟩]) (by simp[eSv]) (by decide) (by simp) (by simp) (by simp;omega) fun d' M' hL hG=> ?_;have again:=again (M',d',acc++[⟨1,-(b4:Int) - 1⟩],r2) (pk g1 h2 (p2.trans k2) hG.pre (by simpa using hL));simp at again;simp(disch:=((try simp only[nx3]);omega));exact again
   ·have hp:=hp M' (by rw[←p5];exact zb9 (by unfold valN;rw[e];rfl)) h';clear again;simp(disch:=((try simp only[nx3]);omega));exact hp
  ·obtain⟨y,d,acc,r⟩:=z;obtain⟨p1,p2,p3,p4,p5,p6⟩:=hP;dsimp only at*;rw[Nat.sub_self] at p5;have hk:=hk y d acc r p5.symm p1 p2 p3 p4;simp(disch:=((try simp only[nx3]);omega));exact hk
 ·have hp:=hp M' (by unfold zcB;rw[e];rfl) h';simp(disch:=((try simp only[nx3]);omega));exact hp
end
end
section
variable {M M' B:VM} {k kp:DV→VM→Prop} {n0 j:Nat}
theorem RdE.names {t:List Sv} {l:List UInt8} {dn dn':DV} {v:Sv} (h:RdE B M j t l dn) (hL:Lb M' dn' 2 ((t++[v]).map eSv)) (hG:Gro M dn M' dn'):RdE B (M'.put j (.rows false 3 [[dn',.nilM,St l]])) j (t++[v]) l dn':=by
 have a:=h.j1;have c:=h.j2;have g:=h.nx;have e:=hG.nx;exact⟨zC (fun i hi=>(hG.kp i (by omega) (h.fn i hi)).trans (h.sm i hi)) h.j1,by simp;omega,h.j1,by simp;omega,by simp,hL.put (hG.of j c h.nj) _,fun i hi=>hG.of i (by omega) (h.fn i hi)⟩
theorem pairN_lt {l:List UInt8} {v:Sv} {r:List UInt8} (h:zhc l=some (v,r)):0≤v.k∧v.k<34359738368∧0≤v.n∧v.n<34359738368:=by
 unfold zhc at h;cases h1:getN l with
 |none=>rw[h1] at h;cases h
 |some x=>
  rw[h1,qd] at h;cases h2:getN x.2 with
  |none=>rw[h2] at h;cases h
  |some y=>
   rw[h2] at h;cases h;have a:=(zkk h1).1;have b:=(zkk h2).1;exact⟨by show(0:Int)≤(x.1:Int);omega,by show((x.1:Nat):Int)<_;omega,by show(0:Int)≤(y.1:Int);omega,by show((y.1:Nat):Int)<_;omega⟩
attribute [local simp] c_D f_D r_D_1 r_D_2 r_D_3 r_D_4 r_D_5 r_D_6 r_D_7 r_D_8 r_D_9 r_D_10 r_D_11 r_D_13
theorem ziZ (l:List UInt8) (first:UInt8) (hl:l.length≤1000000) (hk: ∀M' j t r dn,z7 l first=some (t,r)→RdE M M' j t r dn→k (.ptr j 0 0) M') (hp: ∀M',z7 l first=none→Kept M M'→kp zfc M'):zg F (.fn n_D [] []) [St l,zdE first] M k kp:=by
 refine .fn h_wire_start rfl (by simp[f_D]) ?_;by_cases h3:3≤l.length
 ·obtain⟨n,hn⟩: ∃n,l.length=n+2:=⟨l.length - 2,by omega⟩;have hn2:l.length - 2=n:=by omega
  have e1:(l.length:Int) - 2=(n:Int):=by omega
  have c1: ¬(n:Int)<1:=by omega
  match l,h3,hl,hn,hn2,e1,hk,hp with
  |x::l',h3,hl,hn,hn2,e1,hk,hp=>
   have hb:zdE x=.int .u8 (x.toNat:Int):=rfl;have hb2:zdE first=.int .u8 (first.toNat:Int):=rfl
   by_cases hf:x=first
   ·have s1:=strSlice_hi (x::l') .i64 n (by omega);have s2:=zjz (x::l') .i64 n (by omega);have s3:zcn (some (I 1)) (some (I (n:Int))) (St (x::l'))=some (St (((x::l').take n).drop 1)):=strSlice_both (x::l') .i64 .i64 1 n (by omega) (by omega);have hxf:(x.toNat:Int)=first.toNat:=by rw[hf]
    simp only[qp] at e1 hn hn2;have e1:((l'.length:Int)+1) - 2=n:=by omega
    simp(disch:=((try simp only[nx3]);omega)) [e1,c1,hb,hb2,zkD,hxf,s1,s2,s3];refine sum_ok (BV.bs _ _) (by rw[qO];simp only[qp];omega) ?_;have c5:b2sD (M.new (.rows false 1 ((crc ((x::l').take n)).map eB))) (.ms M.next 0 2 2)=some (St (crc ((x::l').take n))):=b2sD_of (by simp[crc]);have c6: ∀ek,binD .neq ek (St (crc ((x::l').take n))) (St ((x::l').drop n))=some (.bool (!decide (crc ((x::l').take n)=(x::l').drop n))):=fun ek=>bin_sne _ _;have e2:(x::l').length - 2=n:=by simp only[qp];omega
    have hst: ∀o,z7 (x::l') first=o↔(if crc ((x::l').take n)=(x::l').drop n then tabN (((x::l').take n).drop 1) else none)=o:=fun o=>by
     unfold z7 SealOk;rw[e2];by_cases hc:crc ((x::l').take n)=(x::l').drop n
     ·rw[if_pos hc,if_pos ⟨h3,by rw[hf];rfl,hc⟩]
     ·rw[if_neg hc,if_neg (fun h=>hc h.2.2)]
    have hlr:(((x::l').take n).drop 1).length≤1000000:=by rw[List.length_drop,qO];omega
    generalize hrest:((x::l').take n).drop 1=rest at*;generalize hcr:crc ((x::l').take n)=cr at*;generalize hdr:(x::l').drop n=dr at*;by_cases hc:cr=dr
    ·simp only[if_pos hc] at hst;subst hc;simp(disch:=((try simp only[nx3]);omega)) [c5,c6,s1,s2,s3,e1];have h0:RdE M ((M.new (.rows false 1 (cr.map eB))).new (.rows false 3 [[.nilS,.nilM,St rest]])) (M.next+1) [] rest .nilS:=⟨(by repeat' (first|assumption|exact zbj _ _|apply zC|apply zT|apply zck| ((try simp only[nx3]);omega))),by simp;omega,by omega,by simp,by simp,.nil _ _,fun _ _=>trivial⟩;refine zed h0 (fun M1 N r1 e1 h1 k1=> ?_) (fun M' e h'=> ?_)
     ·obtain⟨w1,w2,w3⟩:=zcs e1;have hv:tabN rest=repN zhc N [] r1:=by unfold tabN;rw[e1];rfl
      simp(disch:=((try simp only[nx3]);omega));refine .for (σ:=VM×DV×List Sv×List UInt8) c_D_12.eq_1 (fun i z=>[(41,I i)]) (fun z=>z.1) (fun i z=>RdE M z.1 (M.next+1) z.2.2.1 z.2.2.2 z.2.1∧repN zhc (N - i) z.2.2.1 z.2.2.2=tabN rest∧z.2.2.1.length=i) N (M1,.nilS,[],r1) (by simp) rfl ⟨h1,hv.symm,rfl⟩ (fun i z hi hP again=> ?_) (fun z hP=> ?_)
      ·obtain⟨y,d,acc,r⟩:=z;obtain⟨p1,p2,p3⟩:=hP;dsimp only at*;have eN:N - i=(N - (i+1))+1:=by omega
       rw[eN] at p2;simp(disch:=((try simp only[nx3]);omega)) [hi];refine zeT p1 (fun M2 kn r2 e2 h2 k2=> ?_) (fun M' e h'=> ?_)
       ·simp(disch:=((try simp only[nx3]);omega));refine zeT h2 (fun M3 nn r3 e3 h3' k3=> ?_) (fun M' e h'=> ?_)
        ·have g1:zhc r=some (⟨(kn:Int),(nn:Int)⟩,r3):=by unfold zhc;rw[e2,Option.bind_some,e3];rfl
         have o3:=h3'.oj;have j3:=h3'.j2;simp(disch:=((try simp only[nx3]);omega)) [o3];refine zgV (h3'.ln.new _) (new:=[eSv ⟨(kn:Int),(nn:Int)⟩]) (by simp[eSv]) (by decide) (by simp) (by simp) (by simp;omega) fun d' M' hL hG=> ?_;have hR:=h3'.names (v:=⟨(kn:Int),(nn:Int)⟩) (by simpa using hL) hG.pre;have o4:M'.obj (M.next+1)=some (.rows false 3 [[d,.nilM,St r3]]):=by rw[hG.pre.obj j3 h3'.nj];exact o3
         have c1:=hL.cells;have c2:=hL.cell;have again:=again (_,d',acc++[⟨(kn:Int),(nn:Int)⟩],r3) ⟨hR,by rw[←p2,zcQ g1],by simp[p3]⟩;simp at again;simp(disch:=((try simp only[nx3]);omega)) [o4,c1,c2];exact again
        ·have hp:=hp M' ((hst none).2 (by rw[←p2];exact zb9 (by unfold zhc;rw[e2,qd,e];rfl))) h';clear again;simp(disch:=((try simp only[nx3]);omega));exact hp
       ·have hp:=hp M' ((hst none).2 (by rw[←p2];exact zb9 (by unfold zhc;rw[e];rfl))) h';clear again;simp(disch:=((try simp only[nx3]);omega));exact hp
      ·obtain⟨y,d,acc,r⟩:=z;obtain⟨p1,p2,p3⟩:=hP;dsimp only at*;rw[Nat.sub_self] at p2;have hk:=hk y (M.next+1) acc r d ((hst _).2 p2.symm) p1;simp(disch:=((try simp only[nx3]);omega));exact hk
     ·have hp:=hp M' ((hst none).2 (by unfold tabN;rw[e];rfl)) h';simp(disch:=((try simp only[nx3]);omega));exact hp
    ·simp only[if_neg hc] at hst;have hp:=hp (M.new (.rows false 1 (cr.map eB))) ((hst none).2 rfl) ⟨(by repeat' (first|assumption|exact zbj _ _|apply zC|apply zT|apply zck| ((try simp only[nx3]);omega))),by simp⟩;simp(disch:=((try simp only[nx3]);omega)) [c5,c6,s1,s2,s3,e1,hc];exact hp
   ·have hxf: ¬(x.toNat:Int)=first.toNat:=fun h=>hf (UInt8.toNat_inj.1 (by omega));have hp:=hp M (by unfold z7 SealOk;rw[if_neg (fun h=>hf (by have:=h.2.1;simpa using this))]) ⟨zbj _ _,Nat.le_refl _⟩;simp only[List.length_cons] at e1 hn hn2;have e1:((l'.length:Int)+1) - 2=n:=by omega
    simp(disch:=((try simp only[nx3]);omega)) [e1,c1,hb,hb2,zkD,hxf];exact hp
 ·have hp:=hp M (by unfold z7 SealOk;rw[if_neg (fun h=>h3 h.1)]) ⟨zbj _ _,Nat.le_refl _⟩;have c1:(l.length:Int) - 2<1:=by omega
  simp(disch:=((try simp only[nx3]);omega)) [c1];exact hp
end
section
variable {M M' B:VM} {k kp:DV→VM→Prop} {n0 j:Nat}
section
variable {t:List Sv} {l:List UInt8} {dn:DV}
def rdM (M M':VM) (j:Nat) (o:MO):VM:=⟨M'.next+1,fun i=>if i=j then some (o,M'.next) else if i<M.next then M.get i else none⟩
theorem rdM_kj {o:MO} (hn:M.next≤M'.next):Kj j M (rdM M M' j o):=⟨by show M.next≤M'.next+1;omega,fun i hi hj=>by
 show(if i=j then _ else if i<M.next then M.get i else none)=_;rw[if_neg hj,if_pos hi]⟩
theorem rdM_rd {r:List UInt8} (h0:RdE B M j t l dn) (h:RdE B M' j t r dn) (hn:M.next≤M'.next):RdE B (rdM M M' j (.rows false 3 [[dn,.nilM,St r]])) j t r dn:=by
 have a:=h0.j2;have c:=h0.nx;have e:=h0.j1;have kj:=rdM_kj (M:=M) (M':=M') (j:=j) (o:=.rows false 3 [[dn,.nilM,St r]]) hn;refine⟨fun i hi=>(kj.2 i (by omega) (by omega)).trans (h0.sm i hi),by have:=kj.1;omega,e,by have:=kj.1;omega,?_,h0.ln.kj h0.nj kj,h0.fn⟩;show((if j=j then some (MO.rows false 3 [[dn,.nilM,St r]],M'.next) else _)).map _=_;rw[if_pos rfl];rfl
theorem rdM_conv {r:List UInt8} (h0:RdE B M j t l dn) (kj:Kj j M M') (h:RdE B M' j t r dn):Conv M M' (rdM M M' j (.rows false 3 [[dn,.nilM,St r]])):=by
 have a:=h0.j2;have hb:zG (M'.next+1) dn:=by
  have:=h.ln.below;rcases h.ln.v with⟨_,e⟩| ⟨q,_,_,h2,e,_⟩<;>rw[e]
  ·exact .nilS
  ·exact .ms (by omega)
 refine⟨by have:=kj.1;show M.next≤M'.next+1;omega,fun i=> ?_⟩;by_cases hi:i=j
 ·subst hi;refine .inr (.inr ⟨.rows false 3 [[dn,.nilM,St r]],M'.next,.rows false 3 [[dn,.nilM,St r]],by show(if i=i then _ else _)=_;rw[if_pos rfl],by show i<M'.next+1;have:=kj.1;omega,kj.1,by show M'.next<M'.next+1;omega,h.oj,.refl _,.rows fun x hx y hy=> ?_⟩);simp only[List.mem_singleton] at hx;subst hx;simp only[List.mem_cons,List.not_mem_nil,or_false] at hy;rcases hy with rfl|rfl|rfl
  ·exact hb
  ·exact .nilM
  ·exact .str _
 ·by_cases hl:i<M.next
  ·exact .inl ⟨by show(if i=j then _ else _)=_;rw[if_neg hi,if_pos hl],fun _=>kj.2 i hl hi⟩
  ·exact .inr (.inl (by show(if i=j then _ else _)=_;rw[if_neg hi,if_neg hl]))
theorem rdM_frz {d:DV} {s:Nat} {rows:List (List DV)} {o:MO} (hL:Lb M' d s rows) (hf: ∀q,q<M.next→Off d q) (hj:j<M.next):Frz M' (rdM M M' j o) d (.lst s rows):=by
 rcases hL.v with⟨rfl,e⟩| ⟨q,op,cap,h2,e,h4,_⟩
 ·rw[e];exact .nilS s
 ·rw[e] at hf⊢;have hq:M.next≤q:=Classical.byContradiction fun h=>hf q (by omega) rfl;exact .ms0 h4 (by show(if q=j then _ else _)=_;rw[if_neg (by omega),if_neg (by omega)]) rfl hL.row
theorem rdvals_f (h:RdE B M j t l dn) (hl:l.length≤1000000) (hk: ∀M' vs r,zcB t l=some (vs,r)→RdE B M' j t r dn→Kj j M M'→k (.lst 2 (vs.map eSv)) M') (hp: ∀M',zcB t l=none→Kept B M'→kp zfc M'):zg F (.fn n_q [] []) [.ptr j 0 0] M k kp:=by
 refine zg.conv (rdvals_ok h hl (fun M' d vs r e h' kj hL hf=> ?_) hp);exact⟨.lst 2 (vs.map eSv),_,rdM_conv h kj h',rdM_frz hL hf h.j2,.lst (mapb b_Sv _),hk _ vs r e (rdM_rd h h' kj.1) (rdM_kj kj.1)⟩
def setM (M:VM) (q:Nat) (x:Option (MO×Nat)):VM:=⟨M.next,fun i=>if i=q then x else M.get i⟩
theorem RdE.set (h:RdE B M j t l dn) {q:Nat} (hq:q<B.next) (o:MO):RdE (setM B q (some (o,M.next))) (M.put q o) j t l dn:=by
 have a:=h.j1;have c:=h.j2;have g:=h.nx;refine⟨fun i hi=> ?_,by show B.next≤_;simp;omega,h.j1,by simp;omega,?_,h.ln.put (h.fn q hq) o,h.fn⟩
 ·rw[get_put];show _=(if i=q then _ else B.get i)
  split
  ·rfl
  ·exact h.sm i hi
 ·rw[zO,if_neg (by omega)];exact h.oj
end
theorem ze2 {l:List UInt8} {n:Nat} {r:List UInt8} (h:getN l=some (n,r)):r.length+1≤l.length:=by
 obtain⟨_,p,h2,h3⟩:=zkk h;have:=congrArg qD h2;simp at this;omega
theorem zdN {t:List Sv} {k:Int} {l:List UInt8} {n:Int} {r:List UInt8} (h:zcR t k l=some (n,r)):r.length+1≤l.length:=by
 unfold zcR at h;cases h1:getN l with
 |none=>rw[h1] at h;cases h
 |some x=>
  rw[h1,qd] at h;cases h2:t[x.1]? with
  |none=>rw[h2] at h;cases h
  |some v=>
   rw[h2,qd] at h
   split at h
   ·cases h;exact ze2 h1
   ·cases h
theorem valN_le {t:List Sv} {l:List UInt8} {v:Sv} {r:List UInt8} (h:valN t l=some (v,r)):r.length+1≤l.length:=by
 unfold valN at h;cases h1:getN l with
 |none=>rw[h1] at h;cases h
 |some x=>
  rw[h1,qd] at h;have:=ze2 h1
  split at h
  ·cases h2:t[x.1 / 2]? with
   |none=>rw[h2] at h;cases h
   |some v=>rw[h2] at h;cases h;exact this
  ·split at h<;>(cases h;exact this)
theorem pairN_le {l:List UInt8} {v:Sv} {r:List UInt8} (h:zhc l=some (v,r)):r.length+1≤l.length:=by
 unfold zhc at h;cases h1:getN l with
 |none=>rw[h1] at h;cases h
 |some x=>
  rw[h1,qd] at h;cases h2:getN x.2 with
  |none=>rw[h2] at h;cases h
  |some y=>
   rw[h2] at h;cases h;have a:=ze2 h1;have b:=ze2 h2;omega
theorem zh2 {α:Type} {f:List UInt8→Option (α×List UInt8)} (hf: ∀l x r,f l=some (x,r)→r.length+1≤l.length): ∀(n:Nat) (a:List α) (l:List UInt8) (b:List α) (r:List UInt8),repN f n a l=some (b,r)→r.length+n≤l.length
 |0,a,l,b,r,h=>by cases h;simp
 |n+1,a,l,b,r,h=>by
  rw[zg5] at h;cases h1:f l with
  |none=>rw[h1] at h;cases h
  |some x=>
   rw[h1,qd] at h;have:=zh2 hf n _ _ _ _ h;have:=hf l x.1 x.2 h1;omega
theorem tabN_le {l:List UInt8} {t:List Sv} {r:List UInt8} (h:tabN l=some (t,r)):r.length≤l.length∧t.length≤l.length:=by
 unfold tabN at h;cases h1:zej l with
 |none=>rw[h1] at h;cases h
 |some x=>
  rw[h1,qd] at h;have a:=zcs (n:=x.1) (r:=x.2) h1;have b:=zh2 (fun l x r h=>pairN_le h) _ _ _ _ _ h;have c:=zg6 _ _ _ _ _ h;simp at c;exact⟨by omega,by omega⟩
theorem zeG {t:List Sv} {l:List UInt8} {vs:List Sv} {r:List UInt8} (h:zcB t l=some (vs,r)):r.length+vs.length≤l.length:=by
 unfold zcB at h;cases h1:zej l with
 |none=>rw[h1] at h;cases h
 |some x=>
  rw[h1,qd] at h;have a:=zcs (n:=x.1) (r:=x.2) h1;have b:=zh2 (fun l x r h=>valN_le h) _ _ _ _ _ h;have c:=zg6 _ _ _ _ _ h;simp at c;omega
theorem zft {b:List UInt8} {f:UInt8} {t:List Sv} {r:List UInt8} (h:z7 b f=some (t,r)):r.length≤b.length∧t.length≤b.length:=by
 unfold z7 at h
 split at h
 ·have:=tabN_le h;simp at this;omega
 ·cases h
attribute [local simp] r_bk c_bk f_bk r_bk_1 r_bk_2 r_bk_3
theorem open1_ok {b:List UInt8} {q1 q2:Nat} (hl:b.length≤1000000) (h1:M.obj q1=some (.rows false 1 [[St b]])) (h2:M.obj q2=some (.rows false 2 [[I 0,.nilS]])) (hq1:q1<M.next) (hq2:q2<M.next) (hne:q1≠q2)
 (hk: ∀M' x,(z7 b 77).bind ltN=some x→M.next≤M'.next→(∀i,i<M.next→i≠q2→M'.get i=M.get i)→M'.obj q2=some (.rows false 2 [eLt x])→k (.tup []) M')
 (hp: ∀M',(z7 b 77).bind ltN=none→M.next≤M'.next→(∀i,i<M.next→i≠q2→M'.get i=M.get i)→kp zfc M'):zg F (.fn n_bk [] [.ptr q1 0 0,.ptr q2 0 0]) [] M k kp:=by
 refine .fn h_wire_Open_1 rfl (by simp[f_bk]) ?_;simp(disch:=((try simp only[nx3]);omega)) [h1];refine ziZ b 77 hl (fun M1 j t r dn e1 r1=> ?_) (fun M1 e1 r1=> ?_)
 ·obtain⟨le1,le2⟩:=zft e1;simp(disch:=((try simp only[nx3]);omega));refine zg8 r1 3 (fun M2 n r2 e2 h2' kj2=> ?_) (fun M2 e2 h2'=> ?_)
  ·have le3:=zdN e2;have o2:M2.obj q2=some (.rows false 2 [[I 0,.nilS]]):=by show(M2.get q2).map _=_;rw[h2'.sm q2 hq2];exact h2
   have r3:=h2'.set hq2 (.rows false 2 [[I n,.nilS]]);simp(disch:=((try simp only[nx3]);omega)) [o2];refine rdvals_f r3 (by omega) (fun M4 vs r4 e4 h4 kj4=> ?_) (fun M4 e4 h4=> ?_)
   ·have s4: ∀i,i<M.next→M4.get i=(setM M q2 (some (.rows false 2 [[I n,.nilS]],M2.next))).get i:=h4.sm;have n4:M.next≤M4.next:=h4.nx;have o4:M4.obj q2=some (.rows false 2 [[I n,.nilS]]):=by
     show(M4.get q2).map _=_;rw[s4 q2 hq2];show Option.map Prod.fst (if q2=q2 then _ else _)=_;rw[if_pos rfl];rfl
    have hk:=hk (M4.put q2 (.rows false 2 [eLt ⟨n,vs⟩])) ⟨n,vs⟩ (by rw[e1,qd];unfold ltN;rw[e2,qd,e4];rfl) (by simp;omega) (fun i hi hn=>by
     rw[get_put,if_neg hn,s4 i hi];show(if i=q2 then _ else M.get i)=_;rw[if_neg hn]) (by simp)
    simp(disch:=((try simp only[nx3]);omega)) [o4];exact hk
   ·have s4: ∀i,i<M.next→M4.get i=(setM M q2 (some (.rows false 2 [[I n,.nilS]],M2.next))).get i:=h4.1;have hp:=hp M4 (by rw[e1,qd];unfold ltN;rw[e2,qd,e4];rfl) h4.2 (fun i hi hn=>by
     rw[s4 i hi];show(if i=q2 then _ else M.get i)=_;rw[if_neg hn])
    simp(disch:=((try simp only[nx3]);omega));exact hp
  ·have hp:=hp M2 (by rw[e1,qd];unfold ltN;rw[e2];rfl) h2'.2 fun i hi _=>h2'.1 i hi;simp(disch:=((try simp only[nx3]);omega));exact hp
 ·have hp:=hp M1 (by rw[e1];rfl) r1.2 fun i hi _=>r1.1 i hi;simp(disch:=((try simp only[nx3]);omega));exact hp
attribute [local simp] c_L f_L r_L_2 r_L_3 r_L_4 r_L_5 r_L_6 r_L_7 r_L_8
theorem ltN_len {b:List UInt8} {x:Lt} (h:(z7 b 77).bind ltN=some x):x.vs.length≤b.length:=by
 cases h1:z7 b 77 with
 |none=>rw[h1] at h;cases h
 |some y=>
  rw[h1,qd] at h;have a:=zft (t:=y.1) (r:=y.2) h1;unfold ltN at h;cases h2:zcR y.1 3 y.2 with
  |none=>rw[h2] at h;cases h
  |some z=>
   rw[h2,qd] at h;have c:=zdN (n:=z.1) (r:=z.2) h2;cases h3:zcB y.1 z.2 with
   |none=>rw[h3] at h;cases h
   |some w=>
    rw[h3] at h;cases h;have d:=zeG (vs:=w.1) (r:=w.2) h3;show w.1.length≤_;omega
theorem zjg {e:Int} (h:SM M.next M M') (hk:k (.tup [.agg (eLt ⟨0,[]⟩),I e]) M):Back k M (.tup [.agg [I 0,.nilS],I e]) M':=fun _=>by
 refine⟨_,?_,?_,h,hk⟩
 ·refine .tup rfl fun i d e a b=> ?_
  match i with
  |0=>
   cases a;cases b;refine .agg rfl fun i d e a b=> ?_
   match i with
   |0=>cases a;cases b;exact .refl _
   |1=>cases a;cases b;exact .nilS 2
   |i+2=>simp at a
  |1=>cases a;cases b;exact .refl _
  |i+2=>simp at a
 ·refine .tup fun d hd=> ?_;simp only[List.mem_cons,List.not_mem_nil,or_false] at hd;rcases hd with rfl|rfl
  ·exact .agg (b_Lt _)
  ·exact .int _ _
theorem Open_ok (b:List UInt8) (hk:k (.tup [.agg (eLt (zjY b).1),I (zjY b).2]) M):zg F (.fn n_L [] []) [St b] M k kp:=by
 unfold zjY at hk;apply zg.back;refine .fn h_wire_Open rfl (by simp[f_L]) ?_;by_cases hl:80000<b.length
 ·rw[if_pos hl] at hk;have hli:(80000:Int)<b.length:=by omega
  simp(disch:=((try simp only[nx3]);omega)) [hli];exact zjg (by repeat' (first|assumption|exact zbj _ _|apply zC|apply zT|apply zck| ((try simp only[nx3]);omega))) hk
 ·rw[if_neg hl] at hk;have hli: ¬(80000:Int)<b.length:=by omega
  simp(disch:=((try simp only[nx3]);omega)) [hli];obtain⟨Y,hY⟩: ∃Y,Y=((M.new (.rows false 1 [[St b]])).new (.rows false 2 [[I 0,.nilS]])).new (.rows false 2 [[I 0,.nilS]]):=⟨_,rfl⟩;have y0:Y.next=M.next+1+1+1:=by rw[hY];simp
  have y1:Y.obj M.next=some (.rows false 1 [[St b]]):=by rw[hY,zK _ (by simp;omega),zK _ (by simp)];simp
  have y2:Y.obj (M.next+1)=some (.rows false 2 [[I 0,.nilS]]):=by rw[hY,zK _ (by simp),zdm,if_pos (by simp)]
  have y3:Y.obj (M.next+1+1)=some (.rows false 2 [[I 0,.nilS]]):=by rw[hY,zdm,if_pos (by simp)]
  have y4: ∀i,i<M.next→Y.get i=M.get i:=fun i hi=>by rw[hY,get_new,if_neg (by simp;omega),get_new,if_neg (by simp;omega),get_new,if_neg (by omega)]
  rw[←hY];refine zlJ ?_;have z1:(Y.new (.rows false 1 [[.bool false]])).obj M.next=some (.rows false 1 [[St b]]):=by rw[zK _ (by omega)];exact y1
  have z3:(Y.new (.rows false 1 [[.bool false]])).obj (M.next+1+1)=some (.rows false 2 [[I 0,.nilS]]):=by rw[zK _ (by omega)];exact y3
  refine open1_ok (by omega) z1 z3 (by simp;omega) (by simp;omega) (by omega) (fun M' x ex n1 k1 o1=> ?_) (fun M' ex n1 k1=> ?_)
  ·have g1:M'.obj Y.next=some (.rows false 1 [[.bool false]]):=by
    show(M'.get Y.next).map _=_;rw[k1 _ (by simp) (by omega),get_new,if_pos rfl];rfl
   refine⟨g1,?_⟩;rw[ex] at hk;dsimp only at hk;have hxl:=ltN_len ex;have a1:M.next≠Y.next:=by omega
   have a2:M.next+1≠Y.next:=by omega
   have a3:M.next+1+1≠Y.next:=by omega
   have g2:M'.obj M.next=some (.rows false 1 [[St b]]):=by
    show(M'.get _).map _=_;rw[k1 _ (by simp;omega) (by omega)];exact z1
   have g3:M'.obj (M.next+1)=some (.rows false 2 [[I 0,.nilS]]):=by
    show(M'.get _).map _=_;rw[k1 _ (by simp;omega) (by omega),get_new,if_neg (by omega)];exact y2
   have g4:SM M.next M (M'.put Y.next (.rows false 1 [[.bool true]])):=fun i hi=>by
    rw[get_put,if_neg (by omega),k1 i (by simp;omega) (by omega),get_new,if_neg (by omega)];exact y4 i hi
   have nM:M.next+1+1+1+1≤M'.next:=by simp at n1;omega
   have wL:zp [I 0,.nilS] 0 (eLt x)=some (eLt x):=rfl;simp(disch:=((try simp only[nx3]);omega)) [o1,a1,a2,a3];refine⟨(by intro y hy;simp only[eLt,qt,qq,or_false] at hy;rcases hy with rfl|rfl<;>rfl),?_⟩;refine proper_ok x (by omega) ?_;by_cases hpr:zir x
   ·rw[decide_eq_true hpr];simp(disch:=((try simp only[nx3]);omega)) [o1,a1,a2,a3];refine⟨(by intro y hy;simp only[eLt,List.mem_cons,List.not_mem_nil,or_false] at hy;rcases hy with rfl|rfl<;>rfl),?_⟩;refine letter_ok hpr ?_;by_cases he:encLt x=b
    ·rw[if_pos ⟨hpr,he⟩] at hk;simp(disch:=((try simp only[nx3]);omega)) [o1,g2,g3,a1,a2,a3,he,wL];refine Back.plain (.tup fun d hd=> ?_) (zC g4 (by omega)) hk;simp only[List.mem_cons,List.not_mem_nil,or_false] at hd;rcases hd with rfl|rfl
     ·exact .agg (b_Lt _)
     ·exact .int _ _
    ·rw[if_neg (fun h=>he h.2)] at hk;simp(disch:=((try simp only[nx3]);omega)) [o1,g2,g3,a1,a2,a3,he];exact zjg (zC g4 (by omega)) hk
   ·rw[decide_eq_false hpr];rw[if_neg (fun h=>hpr h.1)] at hk;simp(disch:=((try simp only[nx3]);omega)) [o1,g2,g3,a1,a2,a3];exact zjg (zC g4 (by omega)) hk
  ·have g1:M'.obj Y.next=some (.rows false 1 [[.bool false]]):=by
    show(M'.get Y.next).map _=_;rw[k1 _ (by simp) (by omega),get_new,if_pos rfl];rfl
   refine⟨⟨_,_,rfl⟩,g1,?_⟩;rw[ex] at hk;dsimp only at hk;have a2:M.next+1≠Y.next:=by omega
   have g3:M'.obj (M.next+1)=some (.rows false 2 [[I 0,.nilS]]):=by
    show(M'.get _).map _=_;rw[k1 _ (by simp;omega) (by omega),get_new,if_neg (by omega)];exact y2
   have g4:SM M.next M (M'.put Y.next (.rows false 1 [[.bool false]])):=fun i hi=>by
    rw[get_put,if_neg (by omega),k1 i (by simp;omega) (by omega),get_new,if_neg (by omega)];exact y4 i hi
   simp(disch:=((try simp only[nx3]);omega)) [g3,a2];exact zjg (zC g4 (by omega)) hk
end
section
variable {M M':VM} {B:Base} {k kp:DV→VM→Prop} {n0 j:Nat}
def sx (b:List UInt8) (a:Nat) (q:Bool):Option (List UInt8):=if q=true then none else some (b.drop a)
section
variable {b:List UInt8} {t:List Sv} {dn:DV} {a:Nat} {q:Bool} {S:Option (List UInt8)}
end
end
section
variable {M M':VM} {B:Base} {k kp:DV→VM→Prop} {n0 j:Nat}
section
variable {b:List UInt8} {t:List Sv} {dn:DV} {a:Nat} {q:Bool} {S:Option (List UInt8)}
end
end
section
variable {M M':VM} {B:Base} {k kp:DV→VM→Prop} {n0 j:Nat}
variable {b:List UInt8} {t:List Sv} {dn:DV} {a:Nat} {q:Bool} {S:Option (List UInt8)}
end
section
variable {M M':VM} {B:Base} {k kp:DV→VM→Prop} {n0 j:Nat}
section
variable {b:List UInt8} {t:List Sv} {dn:DV} {a:Nat} {q:Bool} {S:Option (List UInt8)}
end
end
section
variable {M M' B:VM} {k kp:DV→VM→Prop} {n0 j:Nat}
attribute [local simp] c_W f_W r_W_1 r_W_2
theorem many_ok (l:List Sv) (hk:k (.bool (decide (1000<l.length))) M):zg F (.fn n_W [] []) [.lst 2 (l.map eSv)] M k kp:=by
 apply zg.back;refine .fn zgg rfl (by simp[f_W]) ?_;by_cases h:1000<l.length
 ·have hi:(1000:Int)<l.length:=by omega
  rw[decide_eq_true h] at hk;simp(disch:=((try simp only[nx3]);omega)) [hi];exact bpl hk
 ·have hi: ¬(1000:Int)<l.length:=by omega
  rw[decide_eq_false h] at hk;simp(disch:=((try simp only[nx3]);omega)) [hi];exact bpl hk
theorem zgY (hk:k (.bool true) M):zg F (.fn n_bf [] []) [] M k kp:=by
 apply zg.back;refine .fn zfE rfl (by simp[zh6]) ?_;simp(disch:=((try simp only[nx3]);omega)) [zh6];exact bpl hk
end
end Go.Ideal.S
