/- A part of the proof: the ideal machine, and what the functions of the program answer over it. -/
import Derived.Test.YtjkoholloclgeaaGreatDoorD
set_option linter.unusedSimpArgs false
set_option linter.unusedVariables false
set_option linter.unusedSectionVars false
namespace Go.Ideal
noncomputable section
variable {P:Program}
def allEq {α:Type} (f:α→α→Bool):List α→List α→Bool
 | [],[]=>true
 |a::l,b::m=>f a b&&allEq f l m
 |_,_=>false
theorem zfe {α:Type} {f:α→α→Bool} (hf: ∀a b,f a b=true→a=b): ∀{l m:List α},allEq f l m=true→l=m
 | [],[],_=>rfl
 | [],_::_,h=>by cases h
 |_::_,[],h=>by cases h
 |a::l,b::m,h=>by
  simp only[allEq,Bool.and_eq_true] at h
  rw[hf _ _ h.1,zfe hf h.2]
def eqX:Nat→Value→Value→Bool
 |n+1,.agg a,.agg b=>allEq (eqX n) a.toList b.toList
 |n+1,.tuple a,.tuple b=>allEq (eqX n) a.toList b.toList
 |n+1,.iface t a,.iface u b=>Nat.beq t u&&eqX n a b
 |_,.nilIface,.nilIface=>true
 |_,.func (.func f) a b,.func (.func g) c d=>Nat.beq f g&&(a.isEmpty&&b.isEmpty&&(c.isEmpty&&d.isEmpty))
 |_,a,b=>zfq a b
theorem zj6: ∀(n:Nat) (a b:Value),eqX n a b=true→a=b:=by
 intro n
 induction n with
 |zero=>
  intro a b h
  unfold eqX at h
  split at h
  ·rename_i e;exact absurd e (by simp)
  ·rename_i e;exact absurd e (by simp)
  ·rename_i e;exact absurd e (by simp)
  ·rfl
  ·simp only[Bool.and_eq_true,Array.isEmpty_iff] at h
   obtain⟨h1,⟨h2,h3⟩,h4,h5⟩:=h
   rw[Nat.eq_of_beq_eq_true h1,h2,h3,h4,h5]
  ·exact zgl h
 |succ n ih=>
  intro a b h
  unfold eqX at h
  split at h
  ·rename_i e;cases e;rw[Array.toList_inj.1 (zfe ih h)]
  ·rename_i e;cases e;rw[Array.toList_inj.1 (zfe ih h)]
  ·rename_i e;cases e;rw[Bool.and_eq_true] at h;rw[Nat.eq_of_beq_eq_true h.1,ih _ _ h.2]
  ·rfl
  ·simp only[Bool.and_eq_true,Array.isEmpty_iff] at h
   obtain⟨h1,⟨h2,h3⟩,h4,h5⟩:=h
   rw[Nat.eq_of_beq_eq_true h1,h2,h3,h4,h5]
  ·exact zgl h
def eqEnt (a b:Value×Value×Nat):Bool:=eqX 4 a.1 b.1&&(eqX 4 a.2.1 b.2.1&&Nat.beq a.2.2 b.2.2)
theorem eqEnt_eq (a b:Value×Value×Nat) (h:eqEnt a b=true):a=b:=by
 simp only[eqEnt,Bool.and_eq_true] at h
 obtain⟨a1,a2,a3⟩:=a
 obtain⟨b1,b2,b3⟩:=b
 have h1:=zj6 _ _ _ h.1
 have h2:=zj6 _ _ _ h.2.1
 have h3:=Nat.eq_of_beq_eq_true h.2.2
 simp only at h1 h2 h3
 rw[h1,h2,h3]
def eqObj:IObj→IObj→Bool
 |.cells a e,.cells b f=>Nat.beq e f&&allEq (eqX 4) a b
 |.map a c,.map b d=>Nat.beq c d&&allEq eqEnt a b
 |.glob b x,.glob c y=>Nat.beq b c&&eqX 4 x y
 |.dead,.dead=>true
 |_,_=>false
theorem eqObj_eq {a b:IObj} (h:eqObj a b=true):a=b:=by
 unfold eqObj at h
 split at h
 ·rw[Bool.and_eq_true] at h;rw[Nat.eq_of_beq_eq_true h.1,zfe (zj6 4) h.2]
 ·rw[Bool.and_eq_true] at h;rw[Nat.eq_of_beq_eq_true h.1,zfe eqEnt_eq h.2]
 ·rw[Bool.and_eq_true] at h;rw[Nat.eq_of_beq_eq_true h.1,zj6 _ _ _ h.2]
 ·rfl
 ·cases h
def liveO:IObj→Bool
 |.dead=>false
 |_=>true
def refF (S:Nat→Bool):Nat→Value→Bool
 |n+1,.agg a=>a.toList.all (refF S n)
 |n+1,.tuple a=>a.toList.all (refF S n)
 |n+1,.iface _ v=>refF S n v
 |_,.pointer (some a)=>S a.block
 |_,.slice (some a) _ _=>S a.block
 |_,.map (some i)=>S i
 |_,.func (.func _) a b=>a.isEmpty&&b.isEmpty
 |_,.bool _=>true
 |_,.int _ _=>true
 |_,.string _=>true
 |_,.pointer none=>true
 |_,.slice none _ _=>true
 |_,.map none=>true
 |_,.nilFunc=>true
 |_,.nilIface=>true
 |_,.complex _ _ _=>true
 |_,_=>false
theorem VR.agree {ρ σ:Rho} {S:Nat→Bool} (hS: ∀i,S i=true→σ i=ρ i): ∀(n:Nat) {v v':Value},VR ρ v v'→refF S n v=true→VR σ v v':=by
 intro n
 induction n with
 |zero=>
  intro v v' h hv
  cases h with
  |bool b=>exact .bool b
  |int k n=>exact .int k n
  |str s=>exact .str s
  |ptrNil=>exact .ptrNil
  |ptr h=>exact .ptr ((hS _ hv).trans h)
  |sliceNil=>exact .sliceNil
  |slice h hc hl=>exact .slice ((hS _ hv).trans h) hc hl
  |sliceO h he hl hs hb=>exact .sliceO ((hS _ hv).trans h) he hl hs hb
  |sliceE h he hb=>exact .sliceE ((hS _ hv).trans h) he hb
  |sliceD h hm=>exact .sliceD ((hS _ hv).trans h) hm
  |sliceR h he hl=>exact .sliceR ((hS _ hv).trans h) he hl
  |mapNil=>exact .mapNil
  |map h=>exact .map ((hS _ hv).trans h)
  |func f ha hb ra rb=>
   have hv:(Array.isEmpty _&&Array.isEmpty _)=true:=hv
   simp only[Bool.and_eq_true,Array.isEmpty_iff] at hv
   obtain⟨rfl,rfl⟩:=hv
   exact .func f ha hb (fun j x y hx=>by simp at hx) (fun j x y hx=>by simp at hx)
  |yield h=>cases hv
  |nilFunc=>exact .nilFunc
  |nilIface=>exact .nilIface
  |iface t h=>cases hv
  |agg ha ra=>cases hv
  |tuple ha ra=>cases hv
 |succ n ih=>
  intro v v' h hv
  cases h with
  |bool b=>exact .bool b
  |int k n=>exact .int k n
  |str s=>exact .str s
  |ptrNil=>exact .ptrNil
  |ptr h=>exact .ptr ((hS _ hv).trans h)
  |sliceNil=>exact .sliceNil
  |slice h hc hl=>exact .slice ((hS _ hv).trans h) hc hl
  |sliceO h he hl hs hb=>exact .sliceO ((hS _ hv).trans h) he hl hs hb
  |sliceE h he hb=>exact .sliceE ((hS _ hv).trans h) he hb
  |sliceD h hm=>exact .sliceD ((hS _ hv).trans h) hm
  |sliceR h he hl=>exact .sliceR ((hS _ hv).trans h) he hl
  |mapNil=>exact .mapNil
  |map h=>exact .map ((hS _ hv).trans h)
  |func f ha hb ra rb=>
   have hv:(Array.isEmpty _&&Array.isEmpty _)=true:=hv
   simp only[Bool.and_eq_true,Array.isEmpty_iff] at hv
   obtain⟨rfl,rfl⟩:=hv
   exact .func f ha hb (fun j x y hx=>by simp at hx) (fun j x y hx=>by simp at hx)
  |yield h=>cases hv
  |nilFunc=>exact .nilFunc
  |nilIface=>exact .nilIface
  |iface t h=>exact .iface t (ih h hv)
  |agg ha ra=>
   exact .agg ha (fun j x y hx hy=>ih (ra j x y hx hy) (List.all_eq_true.1 (show(Array.toList _).all (refF S n)=true from hv) x (Array.mem_toList_iff.2 (Array.mem_of_getElem? hx))))
  |tuple ha ra=>
   exact .tuple ha (fun j x y hx hy=>ih (ra j x y hx hy) (List.all_eq_true.1 (show(Array.toList _).all (refF S n)=true from hv) x (Array.mem_toList_iff.2 (Array.mem_of_getElem? hx))))
def refO (S:Nat→Bool):IObj→Bool
 |.cells cs _=>cs.all (refF S 4)
 |.map es _=>es.all fun e=>refF S 4 e.1&&refF S 4 e.2.1
 |.glob _ _=>true
 |.dead=>true
 |.loop _ _ _ _=>false
theorem OR.agree {ρ σ:Rho} {S:Nat→Bool} (hS: ∀i,S i=true→σ i=ρ i) {w:World} {R:RB} {o:IObj} (h:OR P ρ w R o) (ho:refO S o=true):OR P σ w R o:=by
 cases o with
 |cells cs esz=>
  obtain⟨h1,h2,c,t,fr,h3,h7,h4,h5,h6⟩:=h
  exact⟨h1,h2,c,t,fr,h3,h7,h4,h5,fun j v hj=>let⟨v',a,b⟩:=h6 j v hj;⟨v',a,b.imp id (fun b=>b.agree hS 4 (List.all_eq_true.1 ho v (List.mem_of_getElem? hj)))⟩⟩
 |map es clock=>
  obtain⟨es',h1,h2,h3⟩:=h
  refine⟨es',h1,h2,fun j e hj=> ?_⟩
  obtain⟨e',a,b,c,d⟩:=h3 j e hj
  have:=List.all_eq_true.1 ho e (List.mem_of_getElem? hj)
  rw[Bool.and_eq_true] at this
  exact⟨e',a,b.agree hS 4 this.1,c.agree hS 4 this.2,d⟩
 |glob b x=>exact h
 |loop _ _ _ _=>cases ho
 |dead=>trivial
theorem VRL.agree {ρ σ:Rho} {S:Nat→Bool} (hS: ∀i,S i=true→σ i=ρ i) {xs ys:List Value} (h:VRL ρ xs ys) (hx:xs.all (refF S 4)=true):VRL σ xs ys:=
 ⟨h.1,fun j x y h1 h2=>(h.2 j x y h1 h2).agree hS 4 (List.all_eq_true.1 hx x (List.mem_of_getElem? h1))⟩
structure zcA where
 args:List Value
 next:Nat
 pre:List (Nat×IObj)
 val:Value
 next':Nat
 post:List (Nat×IObj)
def zh7 (l:List (Nat×IObj)) (t:PT IObj):PT IObj:=List.rec (motive:=fun _=>PT IObj) t (fun x _ ih=>ih.set (bits x.1) x.2) l
def matchH (h:H) (l:List (Nat×IObj)):Bool:=l.all fun x=>match h.get x.1 with
 |some o=>eqObj o x.2
 |none=>false
def zbf (l:List (Nat×IObj)) (i:Nat):Bool:=l.any fun x=>Nat.beq x.1 i
def zcA.fits (p:zcA) (args:List Value) (h:H):Bool:=Nat.beq h.next p.next&&(allEq (eqX 4) args p.args&&matchH h p.pre)
def zcA.out (p:zcA) (h:H):Value×H:=(p.val,⟨p.next',zh7 p.post h.mem⟩)
def zfF (l:List zcA) (args:List Value) (h:H):Option (Value×H):=
 List.rec (motive:=fun _=>Option (Value×H)) none (fun p _ ih=>match p.fits args h with|true=>some (p.out h)|false=>ih) l
def zcA.start (p:zcA):H:=⟨p.next,zh7 p.pre .nil⟩
def zcA.ends (p:zcA):Option Out→Bool
 |some (.val v h)=>eqX 4 v p.val&&(Nat.beq h.next p.next'&&matchH h p.post)
 |_=>false
def zcA.runs (F:FuncId→Option zm) (n:Nat) (g:FuncId) (p:zcA):Bool:=p.ends (E F n (.call (.func (.func g) #[] #[]) p.args p.start))
def zcA.good (p:zcA):Bool:=
 Nat.ble p.next p.next'&&(p.pre.all (fun x=>Nat.blt x.1 p.next&&zbf p.post x.1)&&(p.post.all (fun x=>zbf p.pre x.1||(Nat.ble p.next x.1&&Nat.blt x.1 p.next'))&&
 (p.args.all (refF (zbf p.pre) 4)&&(p.pre.all (fun x=>liveO x.2&&refO (zbf p.pre) x.2)&&(refF (zbf p.post) 4 p.val&&p.post.all (fun x=>refO (zbf p.post) x.2))))))
theorem hasId_iff {l:List (Nat×IObj)} {i:Nat}:zbf l i=true↔ ∃o,(i,o)∈l:=by
 unfold zbf
 rw[List.any_eq_true]
 constructor
 ·rintro⟨⟨j,o⟩,h1,h2⟩;exact⟨o,by rw[←Nat.eq_of_beq_eq_true h2];exact h1⟩
 ·rintro⟨o,h⟩;exact⟨(i,o),h,Nat.beq_refl i⟩
theorem zjM {l:List (Nat×IObj)} {t:PT IObj} {i:Nat} (h:zbf l i=false):(zh7 l t).get (bits i)=t.get (bits i):=by
 induction l with
 |nil=>rfl
 |cons x l ih=>
  have h':(Nat.beq x.1 i||zbf l i)=false:=h
  rw[Bool.or_eq_false_iff] at h'
  show((zh7 l t).set (bits x.1) x.2).get (bits i)=_
  rw[PT.get_set_bits,if_neg (by rintro rfl;rw[Nat.beq_refl] at h';cases h'.1),ih h'.2]
theorem setAll_in {l:List (Nat×IObj)} {t:PT IObj} {i:Nat} (h:zbf l i=true): ∃o,(i,o)∈l∧(zh7 l t).get (bits i)=some o:=by
 induction l with
 |nil=>cases h
 |cons x l ih=>
  have e:(zh7 (x::l) t).get (bits i)=if x.1=i then some x.2 else(zh7 l t).get (bits i):=PT.get_set_bits _ _ _ _
  rw[e]
  by_cases hi:x.1=i
  ·rw[if_pos hi];exact⟨x.2,by subst hi;simp,rfl⟩
  ·rw[if_neg hi]
   have h':(Nat.beq x.1 i||zbf l i)=true:=h
   rw[Bool.or_eq_true] at h'
   obtain⟨o,h1,h2⟩:=ih (h'.resolve_left fun e=>hi (Nat.eq_of_beq_eq_true e))
   exact⟨o,by simp[h1],h2⟩
theorem zjY {h:H} {l:List (Nat×IObj)} (hm:matchH h l=true) {i:Nat} {o:IObj} (hi:(i,o)∈l):h.get i=some o:=by
 have:=List.all_eq_true.1 hm _ hi
 dsimp only at this
 split at this
 ·rename_i o' ho;have e:=eqObj_eq this;subst e;exact ho
 ·cases this
theorem piece_calls {F:FuncId→Option zm} (hmix:P.follows .mixedOrders=true) (hF: ∀g cf,F g=some cf→FnOk P g cf) {n:Nat} {g:FuncId} {p:zcA} (hg:p.good=true) (hrun:p.runs F n g=true)
 {args:List Value} {h:H} (hfit:p.fits args h=true) {ρ:Rho} {args':Array Value} {w:World} (ra:VRL ρ args args'.toList) (hr:HR P ρ h w):
 Calls P g args' w (zhw P ρ w (.val (p.out h).1 (p.out h).2)):=by
 simp only[zcA.good,Bool.and_eq_true] at hg
 obtain⟨g1,g2,g3,g4,g5,g6,g7⟩:=hg
 simp only[zcA.fits,Bool.and_eq_true] at hfit
 obtain⟨f1,f2,f3⟩:=hfit
 have f2:=zfe (zj6 4) f2
 subst f2
 have f1:=Nat.eq_of_beq_eq_true f1
 have g1:=Nat.le_of_ble_eq_true g1
 have preLt: ∀i,zbf p.pre i=true→i<p.next∧zbf p.post i=true:=fun i hi=>by
  obtain⟨o,ho⟩:=hasId_iff.1 hi
  have:=List.all_eq_true.1 g2 _ ho
  rw[Bool.and_eq_true] at this
  exact⟨Nat.le_of_ble_eq_true this.1,this.2⟩
 have postIn: ∀i,zbf p.post i=true→zbf p.pre i=true∨(p.next≤i∧i<p.next'):=fun i hi=>by
  obtain⟨o,ho⟩:=hasId_iff.1 hi
  have:=List.all_eq_true.1 g3 _ ho
  rw[Bool.or_eq_true,Bool.and_eq_true] at this
  exact this.imp id fun h=>⟨Nat.le_of_ble_eq_true h.1,Nat.le_of_ble_eq_true h.2⟩
 have preGet: ∀i,zbf p.pre i=true→ ∃o,h.get i=some o∧o≠ .dead∧p.start.get i=some o∧refO (zbf p.pre) o=true:=fun i hi=>by
  obtain⟨o,h1,h2⟩:=setAll_in (t:=.nil) hi
  have q1:=zjY f3 h1
  have q4:=List.all_eq_true.1 g5 _ h1
  rw[Bool.and_eq_true] at q4
  exact⟨o,q1,by rintro rfl;exact Bool.false_ne_true q4.1,h2,q4.2⟩
 have preNo: ∀i,zbf p.pre i=false→p.start.get i=none:=fun i hi=>(zjM hi).trans (PT.get_nil _)
 obtain⟨ρ',hρ'⟩: ∃ρ':Rho,∀i,ρ' i=if zbf p.pre i=true then ρ i else none:=⟨_,fun _=>rfl⟩
 have agr: ∀i,zbf p.pre i=true→ρ' i=ρ i:=fun i hi=>by rw[hρ',if_pos hi]
 have sub: ∀i R,ρ' i=some R→zbf p.pre i=true∧ρ i=some R:=fun i R hi=>by
  rw[hρ'] at hi
  split at hi
  ·rename_i hc;exact⟨hc,hi⟩
  ·cases hi
 have hr':HR P ρ' p.start w:={
  obj:=fun i R o hi ho=>by
   obtain⟨hc,hi⟩:=sub i R hi
   obtain⟨o',q1,q2,q3,q4⟩:=preGet i hc
   have e:o'=o:=Option.some.inj (q3.symm.trans ho)
   subst e
   exact(hr.obj i R o' hi q1).agree agr q4
  nxt:=fun i hi=>by
   have hi:p.next≤i:=hi
   have hc:zbf p.pre i=false:=by
    rw[Bool.eq_false_iff];intro hc;have:=(preLt i hc).1;omega
   exact⟨by rw[hρ',if_neg (by rw[hc];simp)],preNo i hc⟩
  sep:=fun i j R S hi hj _ _ e=>by
   obtain⟨hc,hi⟩:=sub i R hi
   obtain⟨hd,hj⟩:=sub j S hj
   obtain⟨o,q1,q2,-,-⟩:=preGet i hc
   obtain⟨o',r1,r2,-,-⟩:=preGet j hd
   exact hr.sep i j R S hi hj ⟨o,q1,q2⟩ ⟨o',r1,r2⟩ e
  blk:=fun i R hi=>hr.blk i R (sub i R hi).2
  glb:=fun i b x hi=>by
   cases hc:zbf p.pre i with
   |false=>rw[preNo i hc] at hi;cases hi
   |true=>
    obtain⟨o',q1,-,q3,-⟩:=preGet i hc
    have e:o'=.glob b x:=Option.some.inj (q3.symm.trans hi)
    subst e
    obtain⟨R,hR⟩:=hr.glb i b x q1
    exact⟨R,(agr i hc).trans hR⟩}
 have ra':VRL ρ' p.args args'.toList:=ra.agree agr g4
 unfold zcA.runs at hrun
 generalize he:E F n (.call (.func (.func g) #[] #[]) p.args p.start)=out at hrun
 unfold zcA.ends at hrun
 split at hrun
 ·rename_i v h2
  simp only[Bool.and_eq_true] at hrun
  obtain⟨e1,e2,e3⟩:=hrun
  obtain rfl:=zj6 _ _ _ e1
  have e2:=Nat.eq_of_beq_eq_true e2
  refine(zdU hmix hF he ra' hr').mono ?_
  rintro e w' ⟨v',σ2,rfl,hv,hr2,hx⟩
  obtain⟨σ,hσ⟩: ∃σ:Rho,∀i,σ i=if zbf p.post i=true then σ2 i else ρ i:=⟨_,fun _=>rfl⟩
  have agr2: ∀i,zbf p.post i=true→σ i=σ2 i:=fun i hi=>by rw[hσ,if_pos hi]
  have oth: ∀i,zbf p.post i=false→σ i=ρ i:=fun i hi=>by rw[hσ,if_neg (by rw[hi];simp)]
  have le:zgt ρ σ:=fun i R hi=>by
   cases hc:zbf p.post i with
   |false=>rw[oth i hc];exact hi
   |true=>
    rw[agr2 i hc]
    rcases postIn i hc with hp| ⟨hp,-⟩
    ·exact hx.le i R ((agr i hp).trans hi)
    ·have:=(hr.nxt i (by omega)).1;rw[hi] at this;cases this
  have postGet: ∀i,zbf p.post i=true→ ∃o,h2.get i=some o∧(p.out h).2.get i=some o∧refO (zbf p.post) o=true:=fun i hi=>by
   obtain⟨o,h1,h3⟩:=setAll_in (t:=h.mem) hi
   have q1:=zjY e3 h1
   exact⟨o,q1,h3,List.all_eq_true.1 g7 _ h1⟩
  have postNo: ∀i,zbf p.post i=false→(p.out h).2.get i=h.get i:=fun i hi=>zjM hi
  have apart: ∀i R j S,zbf p.post i=true→σ2 i=some R→zbf p.post j=false→ρ j=some S→zdY h j→R.blk≠S.blk:=fun i R j S hi hiR hj hjS aj e=>by
   rcases hx.fresh i R hiR with⟨k,T,hk,hT⟩|hb
   ·obtain⟨hc,hk⟩:=sub k T hk
    obtain⟨o,q1,q2,-,-⟩:=preGet k hc
    have:=hr.sep k j T S hk hjS ⟨o,q1,q2⟩ aj (hT.trans e)
    subst this
    rw[(preLt k hc).2] at hj;cases hj
   ·have:=hr.blk j S hjS;omega
  have hrN:HR P σ (p.out h).2 w':={
   obj:=fun i R o hi ho=>by
    cases hc:zbf p.post i with
    |true=>
     rw[agr2 i hc] at hi
     obtain⟨o',q1,q3,q4⟩:=postGet i hc
     have e:o'=o:=Option.some.inj (q3.symm.trans ho)
     subst e
     exact(hr2.obj i R o' hi q1).agree agr2 q4
    |false=>
     rw[oth i hc] at hi
     rw[postNo i hc] at ho
     by_cases hd:o=.dead
     ·subst hd;trivial
     ·refine(hr.obj i R o hi ho).mono le (hx.frame _ (hr.blk i R hi) fun j S hj e=> ?_)
      obtain⟨hp,hj⟩:=sub j S hj
      obtain⟨o',q1,q2,-,-⟩:=preGet j hp
      have:=hr.sep j i S R hj hi ⟨o',q1,q2⟩ ⟨o,ho,hd⟩ e
      subst this
      rw[(preLt j hp).2] at hc;cases hc
   nxt:=fun i hi=>by
    have hi:p.next'≤i:=hi
    have hc:zbf p.post i=false:=by
     rw[Bool.eq_false_iff];intro hc
     rcases postIn i hc with hp|hp
     ·have:=(preLt i hp).1;omega
     ·omega
    rw[oth i hc,postNo i hc]
    exact hr.nxt i (by omega)
   sep:=fun i j R S hi hj ai aj e=>by
    have al: ∀k,zbf p.post k=true→zdY (p.out h).2 k→zdY h2 k:=fun k hk ⟨o,h1,h3⟩=>by
     obtain⟨o',q1,q2,-⟩:=postGet k hk
     have e:o'=o:=Option.some.inj (q2.symm.trans h1)
     subst e;exact⟨o',q1,h3⟩
    have al': ∀k,zbf p.post k=false→zdY (p.out h).2 k→zdY h k:=fun k hk ⟨o,h1,h3⟩=>⟨o,(postNo k hk).symm.trans h1,h3⟩
    cases hc:zbf p.post i with
    |true=>
     rw[agr2 i hc] at hi
     cases hd:zbf p.post j with
     |true=>rw[agr2 j hd] at hj;exact hr2.sep i j R S hi hj (al i hc ai) (al j hd aj) e
     |false=>rw[oth j hd] at hj;exact absurd e (apart i R j S hc hi hd hj (al' j hd aj))
    |false=>
     rw[oth i hc] at hi
     cases hd:zbf p.post j with
     |true=>rw[agr2 j hd] at hj;exact absurd e.symm (apart j S i R hd hj hc hi (al' i hc ai))
     |false=>rw[oth j hd] at hj;exact hr.sep i j R S hi hj (al' i hc ai) (al' j hd aj) e
   blk:=fun i R hi=>by
    cases hc:zbf p.post i with
    |true=>rw[agr2 i hc] at hi;exact hr2.blk i R hi
    |false=>rw[oth i hc] at hi;exact Nat.lt_of_lt_of_le (hr.blk i R hi) hx.size
   glb:=fun i b x hi=>by
    cases hc:zbf p.post i with
    |true=>
     obtain⟨o',q1,q3,-⟩:=postGet i hc
     have e:o'=.glob b x:=Option.some.inj (q3.symm.trans hi)
     subst e
     obtain⟨R,hR⟩:=hr2.glb i b x q1
     exact⟨R,(agr2 i hc).trans hR⟩
    |false=>
     rw[postNo i hc] at hi
     obtain⟨R,hR⟩:=hr.glb i b x hi
     exact⟨R,(oth i hc).trans hR⟩}
  refine⟨_,_,v',σ,rfl,rfl,hv.agree agr2 4 g6,hrN,le,hx.size,fun i R hi=> ?_,fun B hB hn=>hx.frame B hB fun i R hi=>hn i R (sub i R hi).2,hx.loops,hx.os,hx.out,hx.froz,hx.td⟩
  cases hc:zbf p.post i with
  |true=>
   rw[agr2 i hc] at hi
   rcases hx.fresh i R hi with⟨j,S,hj,e⟩|hb
   ·exact .inl ⟨j,S,(sub j S hj).2,e⟩
   ·exact .inr hb
  |false=>rw[oth i hc] at hi;exact .inl ⟨i,R,hi,rfl⟩
 ·cases hrun
theorem zeA (hmix:P.follows .mixedOrders=true) {g:FuncId} {fn:Func} {cf0:zm} (hfn:P.funcs[g]? =some fn) (hcf:zc P fn=some (zn cf0))
 {l:List zcA} (hl: ∀p∈l,p.good=true∧ ∃F n,(∀g cf,F g=some cf→FnOk P g cf)∧p.runs F n g=true):FnOk P g (primW (zfF l) cf0):=by
 refine .inr (.inr (.inr ⟨_,fn,cf0,rfl,⟨fun args w=> ?_,fun args h v h' hp ρ args' w ra hr=> ?_⟩,hfn,hcf⟩))
 ·obtain⟨hname,c,hbody,-⟩:=zbD hcf
  have hne: ¬fn.name= "runtime.NumGoroutine" :=by simpa using hname
  simp[callFunc,hfn,hne,hbody]
 ·induction l with
  |nil=>cases hp
  |cons p l ih=>
   have hp:(match p.fits args h with|true=>some (p.out h)|false=>zfF l args h)=some (v,h'):=hp
   split at hp
   ·rename_i hfit
    obtain⟨q1,F,n,hF,q2⟩:=hl p (by simp)
    have e:p.out h=(v,h'):=Option.some.inj hp
    have:=piece_calls hmix hF q1 q2 hfit ra hr
    rw[e] at this;exact this
   ·exact ih (fun p hp=>hl p (by simp[hp])) hp
def lookE (l:List (Nat×zm)) (g:Nat):Option zm:=List.rec (motive:=fun _=>Option zm) none (fun p _ ih=>match Nat.beq p.1 g with|true=>some p.2|false=>ih) l
theorem zix: ∀{t:List (Nat×zm)} {g:Nat} {cf:zm},lookE t g=some cf→ ∃p∈t,p.1=g∧p.2=cf
 | [],g,x,h=>by cases h
 |p::t,g,x,h=>by
  have h:(match Nat.beq p.1 g with|true=>some p.2|false=>lookE t g)=some x:=h
  split at h
  ·rename_i e;cases h;exact⟨p,by simp,Nat.eq_of_beq_eq_true e,rfl⟩
  ·obtain⟨q,hq,e⟩:=zix h;exact⟨q,by simp[hq],e⟩
def overF (l:List (Nat×zm)) (F:FuncId→Option zm):FuncId→Option zm:=fun g=>match lookE l g with
 |some cf=>some cf
 |none=>F g
theorem over_ok {l:List (Nat×zm)} {F:FuncId→Option zm} (hl: ∀p∈l,FnOk P p.1 p.2) (hF: ∀g cf,F g=some cf→FnOk P g cf): ∀g cf,overF l F g=some cf→FnOk P g cf:=by
 intro g cf h
 unfold overF at h
 split at h
 ·rename_i c hc;cases h;obtain⟨p,hp,rfl,rfl⟩:=zix hc;exact hl p hp
 ·exact hF g cf h
theorem look_ok {l:List (Nat×zm)} (hl: ∀p∈l,FnOk P p.1 p.2): ∀g cf,lookE l g=some cf→FnOk P g cf:=fun g cf h=>by
 obtain⟨p,hp,rfl,rfl⟩:=zix h;exact hl p hp
def endsT (x:Value):Option Out→Bool
 |some (.val (.bool true) h)=>(match h.get 0 with|some o=>eqObj o (.glob 0 x)|none=>false)
 |_=>false
theorem endsT_some {x:Value} {o:Option Out} (h:endsT x o=true): ∃h',o=some (.val (.bool true) h')∧h'.get 0=some (.glob 0 x):=by
 unfold endsT at h
 split at h
 ·rename_i h'
  split at h
  ·rename_i o ho;exact⟨_,rfl,by rw[ho,eqObj_eq h]⟩
  ·cases h
 ·cases h
def endsTrue:Option Out→Bool
 |some (.val (.bool true) _)=>true
 |_=>false
theorem zgn {o:Option Out} (h:endsTrue o=true): ∃h',o=some (.val (.bool true) h'):=by
 unfold endsTrue at h
 split at h
 ·exact⟨_,rfl⟩
 ·cases h
end
end Go.Ideal
set_option maxRecDepth 100000
namespace Go.Ideal.Q
noncomputable section
def tabF:List (Nat×zm):=[(12,zgK true),(7,f_j),(11,f_z),(16,f_a),(20,f_c),(22,f_q),(25,f_D),(26,f_v),(28,f_o),(35,f_r),(37,f_i),(49,f_A),(55,f_h),(60,f_x),(61,f_l),(62,f_k),(63,f_e),(64,f_n),(67,f_w),(68,f_E),(69,f_m),(70,f_f),(71,f_d),(72,f_s),(73,f_y),(76,f_b),(80,f_g),(93,f_J),(94,f_F),(95,f_u),(103,f_p),(108,f_H),(109,f_G),(135,f_C),(139,f_t)]
def F:FuncId→Option zm:=lookE tabF
theorem zdr:F n_j=some f_j:=by kernel_rfl
theorem zeM:F n_z=some f_z:=by kernel_rfl
theorem zeL:F n_I=some (zgK true):=by kernel_rfl
theorem zeg:F n_a=some f_a:=by kernel_rfl
theorem zdH:F n_c=some f_c:=by kernel_rfl
theorem h_jam_Starves:F n_q=some f_q:=by kernel_rfl
theorem h_jam_Check:F n_D=some f_D:=by kernel_rfl
theorem zeK:F n_v=some f_v:=by kernel_rfl
theorem zjp:F n_o=some f_o:=by kernel_rfl
theorem zcr:F n_r=some f_r:=by kernel_rfl
theorem zbj:F n_i=some f_i:=by kernel_rfl
theorem h_jam_known:F n_A=some f_A:=by kernel_rfl
theorem zfi:F n_h=some f_h:=by kernel_rfl
theorem zeI:F n_x=some f_x:=by kernel_rfl
theorem zeJ:F n_l=some f_l:=by kernel_rfl
theorem zff:F n_k=some f_k:=by kernel_rfl
theorem zfh:F n_e=some f_e:=by kernel_rfl
theorem zfg:F n_n=some f_n:=by kernel_rfl
theorem zhu:F n_w=some f_w:=by kernel_rfl
theorem h_jam_set_has:F n_E=some f_E:=by kernel_rfl
theorem zep:F n_m=some f_m:=by kernel_rfl
theorem zfJ:F n_f=some f_f:=by kernel_rfl
theorem zht:F n_d=some f_d:=by kernel_rfl
theorem zhr:F n_s=some f_s:=by kernel_rfl
theorem h_jam_fine:F n_y=some f_y:=by kernel_rfl
theorem zby:F n_b=some f_b:=by kernel_rfl
theorem zcV:F n_g=some f_g:=by kernel_rfl
theorem h_jam_known_1:F n_J=some f_J:=by kernel_rfl
theorem zjq:F n_F=some f_F:=by kernel_rfl
theorem zhs:F n_u=some f_u:=by kernel_rfl
theorem zeq:F n_p=some f_p:=by kernel_rfl
theorem zgf:F n_H=some f_H:=by kernel_rfl
theorem h_jam_order:F n_G=some f_G:=by kernel_rfl
theorem zgg:F n_C=some f_C:=by kernel_rfl
theorem h_cmp_Or_int_:F n_t=some f_t:=by kernel_rfl
end
end Go.Ideal.Q
namespace Go.Ideal
noncomputable section
@[simp] theorem openCap_le {n:Nat} (h:n<1000000):(n<zp)=True:=eq_true (by unfold zp;omega)
def upS (s:DS):List (Nat×DV)→DS
 | []=>s
 | (q,d)::r=>upS ((bits q,d)::s) r
@[simp] theorem upS_nil (s:DS):upS s []=s:=id rfl
@[simp] theorem upS_cons (s:DS) (q:Nat) (d:DV) (r:List (Nat×DV)):upS s ((q,d)::r)=upS ((bits q,d)::s) r:=id rfl
section
variable {F:FuncId→Option zm} {n0:Nat}
theorem zbB.for {σ:Type} {L:List (List Bool)} {b b':CC} {K:KD} {s:DS} {M:VM} (hb:b=b') (U:Nat→σ→List (Nat×DV)) (G:σ→VM) (P:Nat→σ→Prop) (N:Nat) (x0:σ) (hs:s=zbu L (upS s (U 0 x0))) (hM:M=G x0) (h0:P 0 x0)
 (step: ∀i x,i<N→P i x→(∀x',P (i+1) x'→zbB F n0 L b K (zbu L (upS s (U (i+1) x'))) (G x'))→ @Cd (rD F n0) (.base (LoK F n0 L b K)) b' (zbu L (zbu L (upS s (U i x)))) (G x))
 (last: ∀x,P N x→ @Cd (rD F n0) (.base (LoK F n0 L b K)) b' (zbu L (zbu L (upS s (U N x)))) (G x)):zbB F n0 L b K s M:=by
 have main: ∀m i x,i+m=N→P i x→zbB F n0 L b K (zbu L (upS s (U i x))) (G x):=by
  intro m
  induction m with
  |zero=>intro i x hi hp;obtain rfl:i=N:=by omega
         exact .go hb (last x hp)
  |succ m ih=>intro i x hi hp;exact .go hb (step i x (by omega) hp fun x' hp'=>ih (i+1) x' (by omega) hp')
 have:=main N 0 x0 (by omega) h0
 rw[←hs,←hM] at this
 exact this
theorem zbB.while {σ:Type} {L:List (List Bool)} {b b':CC} {K:KD} {s:DS} {M:VM} (hb:b=b') (U:σ→List (Nat×DV)) (G:σ→VM) (P:σ→Prop) (m:σ→Nat) (x0:σ) (hs:s=zbu L (upS s (U x0))) (hM:M=G x0) (h0:P x0)
 (step: ∀x,P x→(∀x',m x'<m x→P x'→zbB F n0 L b K (zbu L (upS s (U x'))) (G x'))→ @Cd (rD F n0) (.base (LoK F n0 L b K)) b' (zbu L (zbu L (upS s (U x)))) (G x)):zbB F n0 L b K s M:=by
 have main: ∀n x,m x<n→P x→zbB F n0 L b K (zbu L (upS s (U x))) (G x):=by
  intro n
  induction n with
  |zero=>intro x hx;omega
  |succ n ih=>intro x hx hp;exact .go hb (step x hp fun x' hx' hp'=>ih x' (by omega) hp')
 have:=main (m x0+1) x0 (by omega) h0
 rw[←hs,←hM] at this
 exact this
end
section
variable {F:FuncId→Option zm} {n0:Nat} {M:VM}
theorem zt.gen {f:DV} {args:List DV} {k kp:DV→VM→Prop} {Q:VM→Prop} (hQ:Q M) (h: ∀M1,Q M1→zt F f args M1 k kp):zt F f args M k kp:=h M hQ
theorem zbB.gen {L:List (List Bool)} {b:CC} {K:KD} {s:DS} {Q:VM→Prop} (hQ:Q M) (h: ∀M1,Q M1→zbB F n0 L b K s M1):zbB F n0 L b K s M:=h M hQ
end
def zfT {α:Type} (i:Nat) (l:List α) (ok:α→Prop):Prop:= ∀x∈l.take i,ok x
theorem zfT.zero {α:Type} {l:List α} {ok:α→Prop}:zfT 0 l ok:=by simp[zfT]
theorem zfT.succ {α:Type} {i:Nat} {l:List α} {ok:α→Prop} (h:zfT i l ok) (hi:i<l.length) (h2:ok l[i]):zfT (i+1) l ok:=by
 intro x hx
 rw[List.take_succ_eq_append_getElem hi] at hx
 rcases List.mem_append.1 hx with hx|hx
 ·exact h x hx
 ·simp at hx;subst hx;exact h2
theorem zfT.all {α:Type} {l:List α} {ok:α→Prop} (h:zfT l.length l ok): ∀x∈l,ok x:=by
 intro x hx;exact h x (by simpa using hx)
structure Own (B M:VM) (j:Nat) (o:MO):Prop where
 sm:SM B.next B M
 lo:B.next≤j
 hi:j<M.next
 ob:M.obj j=some o
section
variable {B M:VM} {j:Nat} {o:MO}
theorem Own.obj (h:Own B M j o) {i:Nat} (hj:i<B.next):M.obj i=B.obj i:=by
 show(M.get i).map _=(B.get i).map _;rw[h.sm i hj]
theorem Own.fresh (B:VM) (o:MO):Own B (B.new o) B.next o:=⟨SM_new (SM_refl _ _) (Nat.le_refl _),Nat.le_refl _,Nat.lt_succ_self _,by simp⟩
theorem Own.new (h:Own B M j o) (o2:MO):Own B (M.new o2) j o:=⟨SM_new h.sm (by have:=h.lo;have:=h.hi;omega),h.lo,Nat.lt_succ_of_lt h.hi,by rw[obj_old _ h.hi];exact h.ob⟩
theorem Own.put (h:Own B M j o) (o2:MO):Own B (M.put j o2) j o2:=⟨SM_put h.sm h.lo,h.lo,Nat.lt_succ_of_lt h.hi,by simp⟩
theorem Own.put2 {j2:Nat} {o2:MO} (h:Own B M j o) (hne:j2≠j) (hlo:B.next≤j2):Own B (M.put j2 o2) j o:=⟨SM_put h.sm hlo,h.lo,Nat.lt_succ_of_lt h.hi,by rw[obj_put,if_neg (fun e=>hne e.symm)];exact h.ob⟩
theorem Own.nx (h:Own B M j o):B.next<M.next:=Nat.lt_of_le_of_lt h.lo h.hi
end
structure Acc (B M:VM) (d:DV) (s:Nat) (rows:List (List DV)):Prop where
 sm:SM B.next B M
 nx:B.next≤M.next
 row: ∀r∈rows,r.length=s
 v:(rows=[]∧d=.nilS)∨ ∃j op cap,B.next≤j∧j<M.next∧d=.ms j 0 rows.length cap∧M.obj j=some (.rows op s rows)∧(op=true∧cap=zp∨op=false∧cap=rows.length∧cap<zp)
theorem Acc.nil (B:VM) (s:Nat):Acc B B .nilS s []:=⟨SM_refl _ _,Nat.le_refl _,by simp,.inl ⟨rfl,rfl⟩⟩
section
variable {B M:VM} {d:DV} {s:Nat} {rows:List (List DV)}
theorem Acc.obj (h:Acc B M d s rows) {j:Nat} (hj:j<B.next):M.obj j=B.obj j:=by
 show(M.get j).map _=(B.get j).map _;rw[h.sm j hj]
theorem Acc.frame {M2:VM} (h:Acc B M d s rows) (hs:SM M.next M M2) (hn:M.next≤M2.next):Acc B M2 d s rows:=⟨fun i hi=>(hs i (Nat.lt_of_lt_of_le hi h.nx)).trans (h.sm i hi),Nat.le_trans h.nx hn,h.row,by
 rcases h.v with h1| ⟨j,op,cap,h1,h2,h3,h4,h5⟩
 ·exact .inl h1
 ·refine .inr ⟨j,op,cap,h1,Nat.lt_of_lt_of_le h2 hn,h3,?_,h5⟩
  rw[←h4];show(M2.get j).map _=(M.get j).map _;rw[hs j h2]⟩
theorem Acc.new (h:Acc B M d s rows) (o:MO):Acc B (M.new o) d s rows:=h.frame (SM_new (SM_refl _ _) (Nat.le_refl _)) (Nat.le_succ _)
theorem Acc.lit (B:VM) {s:Nat} {rows:List (List DV)} (hr: ∀r∈rows,r.length=s) (hl:rows.length<zp):Acc B (B.new (.rows false s rows)) (.ms B.next 0 rows.length rows.length) s rows:=
 ⟨SM_new (SM_refl _ _) (Nat.le_refl _),Nat.le_succ _,hr,.inr ⟨B.next,false,rows.length,Nat.le_refl _,Nat.lt_succ_self _,rfl,by simp,.inr ⟨rfl,rfl,hl⟩⟩⟩
theorem Acc.below (h:Acc B M d s rows):zw M.next d:=by
 rcases h.v with⟨_,rfl⟩| ⟨j,_,_,_,h2,rfl,_⟩
 ·exact .nilS
 ·exact .ms h2
theorem Acc.len (h:Acc B M d s rows):lenD M d=some rows.length:=by
 rcases h.v with⟨rfl,rfl⟩| ⟨j,_,_,_,h2,rfl,_⟩<;>rfl
theorem Acc.elems (h:Acc B M d s rows) (hs:s≠0):zgo M s d=some rows:=by
 rcases h.v with⟨rfl,rfl⟩| ⟨j,op,cap,_,h2,rfl,h4,_⟩
 ·rfl
 ·unfold zgo;simp[h4]
theorem Acc.app (h:Acc B M d s rows) {new:List (List DV)} {bytes:Nat} (hr: ∀r∈new,r.length=s) (hb:(rows.length+new.length)*bytes≤1073741824): ∃d' M',zbR s bytes M new d=some (d',M')∧Acc B M' d' s (rows++new):=by
 by_cases hn:new=[]
 ·subst hn
  refine⟨d,M,?_,by rw[List.append_nil];exact h⟩
  rcases h.v with⟨_,rfl⟩| ⟨j,_,_,_,h2,rfl,_⟩<;>(unfold zbR;rw[if_pos rfl])
 have hrow: ∀r∈rows++new,r.length=s:=fun r hm=>by
  rcases List.mem_append.1 hm with hm|hm
  ·exact h.row r hm
  ·exact hr r hm
 have hnl:0<new.length:=by cases new with|nil=>exact absurd rfl hn|cons=>simp
 rcases h.v with⟨rfl,rfl⟩| ⟨j,op,cap,h1,h2,rfl,h4,h5⟩
 ·refine⟨_,_,by unfold zbR;rw[if_neg hn];dsimp only;rw[if_pos (by simpa using hb)],?_⟩
  exact⟨SM_new h.sm h.nx,Nat.le_succ_of_le h.nx,hrow,.inr ⟨M.next,true,zp,h.nx,Nat.lt_succ_self _,by simp[zfH],by simp[zfH],.inl ⟨rfl,rfl⟩⟩⟩
 ·rcases h5 with⟨rfl,rfl⟩| ⟨rfl,rfl,hc⟩
  ·have e:zbR s bytes M new (.ms j 0 rows.length zp)=some (zfH (M.del j) s (rows++new)):=by
    unfold zbR;rw[if_neg hn];dsimp only;rw[if_pos hb,h4]
    show zdn s M new j 0 rows.length zp (.rows true s rows)=_
    unfold zdn;dsimp only
    rw[if_pos ⟨rfl,by omega⟩,if_pos rfl,if_neg (by omega),List.drop_zero,List.take_length]
   refine⟨_,_,e,?_⟩
   exact⟨SM_new (SM_del h.sm h1) (by exact h.nx),Nat.le_succ_of_le h.nx,hrow,.inr ⟨M.next,true,zp,h.nx,Nat.lt_succ_self _,by simp[zfH,VM.del],by simp[zfH,VM.del],.inl ⟨rfl,rfl⟩⟩⟩
  ·have e:zbR s bytes M new (.ms j 0 rows.length rows.length)=some (zfH M s (rows++new)):=by
    unfold zbR;rw[if_neg hn];dsimp only;rw[if_pos hb,h4]
    show zdn s M new j 0 rows.length rows.length (.rows false s rows)=_
    unfold zdn;dsimp only
    rw[if_pos ⟨rfl,by omega⟩,if_pos hc,if_neg (by omega),List.drop_zero,List.take_length]
   refine⟨_,_,e,?_⟩
   exact⟨SM_new h.sm h.nx,Nat.le_succ_of_le h.nx,hrow,.inr ⟨M.next,true,zp,h.nx,Nat.lt_succ_self _,by simp[zfH],by simp[zfH],.inl ⟨rfl,rfl⟩⟩⟩
end
section
variable {B M:VM} {d:DV} {s:Nat} {rows:List (List DV)} {X:RnD} {fr:FrC}
theorem Acc.appended (h:Acc B M d s rows) (hs:s≠0):zbF M s d=some rows:=by
 have:=h.elems hs
 rcases h.v with⟨rfl,rfl⟩| ⟨j,op,cap,_,h2,rfl,h4,_⟩<;>exact this
theorem Rs_app {bytes:Nat} {new:List (List DV)} {x:DV} {dst:Option (List Bool)} {r:List CI} {sl:DS} (h:Acc B M d s rows) (hx:zbF M s x=some new) (hs:0<s∧s<roE) (hc: ∀r∈new,∀c∈r,zF c=true) (hr: ∀r∈new,r.length=s) (hb:(rows.length+new.length)*bytes≤1073741824) (k: ∀d' M',Acc B M' d' s (rows++new)→ @Op X fr r (zY dst d' sl) M'): @Rs X fr (bltD M (.append s bytes) [d,x]) dst r sl:=by
 obtain⟨d',M',e,h'⟩:=h.app hr hb
 rw[bltD_append,if_pos hs,hx,apN_some,if_pos (by simpa[List.all_eq_true] using hc),e];exact k d' M' h'
theorem Frz.list {F:FuncId→Option zm} {M M2:VM} {f:DV} {l r:List DV} {d e:DV} {k kp:DV→VM→Prop} (hc:Conv M M M2) (hf:zw M2.next f) (hb: ∀x∈l++e::r,zw M2.next x) (hd:Frz M M2 d e) (h:zt F f (l++e::r) M2 k kp):zt F f (l++d::r) M k kp:=by
 refine zt.pre hc hf (by simp) (fun i x y hx hy=>⟨?_,hb y (List.mem_of_getElem? hy)⟩) h
 rcases Nat.lt_trichotomy i l.length with hi|hi|hi
 ·rw[List.getElem?_append_left hi] at hx hy
  rw[hx] at hy;cases hy;exact .refl _
 ·subst hi
  simp at hx hy
  subst hx;subst hy;exact hd
 ·rw[List.getElem?_append_right (by omega)] at hx hy
  obtain⟨m,hm⟩: ∃m,i - l.length=m+1:=⟨i - l.length - 1,by omega⟩
  rw[hm] at hx hy
  simp only[List.getElem?_cons_succ] at hx hy
  rw[hx] at hy;cases hy;exact .refl _
theorem Conv.del (M:VM) (j:Nat):Conv M M (M.del j):=⟨Nat.le_refl _,fun i=>by
 by_cases e:i=j
 ·subst e;exact .inr (.inl (by simp))
 ·exact .inl ⟨by simp[e],fun _=>rfl⟩⟩
theorem zt.frz {F:FuncId→Option zm} {f:DV} (l r:List DV) {j n cap sz:Nat} {op:Bool} {rs:List (List DV)} {k kp:DV→VM→Prop} (ho:M.obj j=some (.rows op sz rs)) (hn:n=rs.length) (hs: ∀r∈rs,r.length=sz) (hf:zw M.next f) (hb: ∀x∈l++ .lst sz rs::r,zw M.next x) (h:zt F f (l++ .lst sz rs::r) (M.del j) k kp):zt F f (l++ .ms j 0 n cap::r) M k kp:=
 Frz.list (.del M j) hf hb (.ms0 ho (by simp) hn hs) h
theorem zt.acc {F:FuncId→Option zm} {f:DV} (h:Acc B M d s rows) (l r:List DV) {k kp:DV→VM→Prop} (hf:zw M.next f) (hb: ∀x∈l++ .lst s rows::r,zw M.next x) (hk: ∀M2,SM B.next B M2→B.next≤M2.next→zt F f (l++ .lst s rows::r) M2 k kp):zt F f (l++d::r) M k kp:=by
 rcases h.v with⟨rfl,rfl⟩| ⟨j,op,cap,h1,h2,rfl,h4,_⟩
 ·exact Frz.list (M2:=M) ⟨Nat.le_refl _,fun i=>.inl ⟨rfl,fun _=>rfl⟩⟩ hf hb (.nilS s) (hk M h.sm h.nx)
 ·exact zt.frz l r h4 rfl h.row hf hb (hk _ (SM_del h.sm h1) h.nx)
theorem zt.nil {F:FuncId→Option zm} {f:DV} (l r:List DV) (s:Nat) {k kp:DV→VM→Prop} (hf:zw M.next f) (hb: ∀x∈l++ .lst s []::r,zw M.next x) (h:zt F f (l++ .lst s []::r) M k kp):zt F f (l++ .nilS::r) M k kp:=
 Frz.list (M2:=M) ⟨Nat.le_refl _,fun i=>.inl ⟨rfl,fun _=>rfl⟩⟩ hf hb (.nilS s) h
theorem Back.acc {k:DV→VM→Prop} {M0:VM} (h:Acc B M d s rows) (hB:SM M0.next M0 B) (hn:M0.next≤B.next) (hb: ∀r∈rows,∀x∈r,zw M0.next x) (hk:k (.lst s rows) M0):Back k M0 d M:=fun hw=>by
 refine⟨.lst s rows,?_,.lst hb,fun j hj=>(h.sm j (by omega)).trans (hB j hj),hk⟩
 rcases h.v with⟨rfl,rfl⟩| ⟨j,op,cap,h1,h2,rfl,h4,_⟩
 ·exact .nilS s
 ·exact .ms0 h4 (hw j (by omega)) rfl h.row
end
end
end Go.Ideal
namespace Go.Ideal.S
open Go Go.Ideal
structure Edge where
 f:Int
 a:Int
 t:Int
structure Gr where
 st:Int
 ac:Int
 es:List Edge
def eInt (n:Int):List DV:=[I n]
abbrev ints (l:List Int):DV:=.lst 1 (l.map eInt)
def zJ (e:Edge):List DV:=[I e.f,I e.a,I e.t]
def eGr (g:Gr):List DV:=[I g.st,I g.ac,.lst 3 (g.es.map zJ)]
@[simp] theorem t_Edge (e:Edge):zdZ 3 (zJ e)=some (zJ e):=by simp[zJ]
@[simp] theorem t_Gr (g:Gr):zdZ 3 (eGr g)=some (eGr g):=by simp[eGr]
@[simp] theorem n_Edge (e:Edge):(zJ e).length=3:=by simp[zJ]
@[simp] theorem n_Gr (g:Gr):(eGr g).length=3:=by simp[eGr]
variable {n:Nat}
theorem b_map {α:Type} {f:α→List DV} (h: ∀a,∀d∈f a,zw n d) (l:List α): ∀r∈l.map f,∀d∈r,zw n d:=by
 intro r hr
 obtain⟨a,-,rfl⟩:=List.mem_map.1 hr
 exact h a
theorem b_Int (a:Int): ∀d∈eInt a,zw n d:=by simp[eInt]
theorem b_Edge (a:Edge): ∀d∈zJ a,zw n d:=by simp[zJ]
theorem b_lst {s:Nat} {α:Type} {f:α→List DV} (h: ∀a,∀d∈f a,zw n d) (l:List α):zw n (.lst s (l.map f)):=.lst (b_map h l)
theorem b_Gr (g:Gr): ∀d∈eGr g,zw n d:=by
 intro d hd
 simp only[eGr,List.mem_cons,List.not_mem_nil,or_false] at hd
 rcases hd with rfl|rfl|rfl
 ·simp
 ·simp
 ·exact b_lst b_Edge _
theorem c_map {α:Type} {f:α→List DV} (h: ∀a,∀c∈f a,zF c=true) (l:List α): ∀r∈l.map f,∀c∈r,zF c=true:=fun r hr c hc=>by
 obtain⟨a,_,rfl⟩:=List.mem_map.1 hr;exact h a c hc
theorem l_map {α:Type} {f:α→List DV} {s:Nat} (h: ∀a,(f a).length=s) (l:List α): ∀r∈l.map f,r.length=s:=fun r hr=>by
 obtain⟨a,_,rfl⟩:=List.mem_map.1 hr;exact h a
theorem c_Int (a:Int): ∀c∈eInt a,zF c=true:=by simp[eInt]
theorem l_Int (a:Int):(eInt a).length=1:=by simp[eInt]
theorem take1 {α β:Type} {f:α→β} {l:List α} {i:Nat} (hi:i<l.length):(l.take (i+1)).map f=(l.take i).map f++[f l[i]]:=by rw[List.take_succ_eq_append_getElem hi,List.map_append];rfl
section
variable {ek:EK}
theorem wrapU {n:Int} (h0:0≤n) (h1:n<18446744073709551616):IntKind.u64.wrap n=n:=by
 show(if(false&&decide (n%(2^64:Int)≥(2^63:Int)))=true then n%(2^64:Int) - (2^64:Int) else n%(2^64:Int))=n
 simp only[Bool.false_and,Bool.false_eq_true,if_false]
 exact Int.emod_eq_of_lt h0 h1
theorem bin_shr_u (m n:Nat) (hn:n<64):binD .shr ek (.int .u64 (m:Int)) (.int .i64 (n:Int))=some (.int .u64 ((m >>> n:Nat):Int)):=by
 show Option.bind (if ltI (n:Int) 0 then none else some (Value.int .u64 ((m:Int).fdiv (2^(min (n:Int).toNat 64))))) dOf1=_
 rw[zdC]
 simp only[show¬((n:Int)<0) by omega,decide_false,Bool.false_eq_true,if_false,Option.bind_some]
 rw[Int.toNat_natCast,Nat.min_eq_left (by omega)]
 show some (DV.int .u64 _)=_
 congr 2
 rw[Nat.shiftRight_eq_div_pow,Int.fdiv_eq_ediv_of_nonneg _ (by exact_mod_cast Nat.zero_le (2^n))]
 norm_cast
theorem bv_nat {m:Nat} (h:m<2^64):(BitVec.ofInt 64 (m:Int)).toNat=m:=by
 rw[BitVec.ofInt_natCast,BitVec.toNat_ofNat,Nat.mod_eq_of_lt h]
theorem bin_and_u {a b:Nat} (ha:a<2^64) (hb:b<2^64):binD .and ek (.int .u64 (a:Int)) (.int .u64 (b:Int))=some (.int .u64 ((a &&& b:Nat):Int)):=by
 show some (DV.int .u64 (IntKind.u64.wrap (((BitVec.ofInt 64 (a:Int) &&& BitVec.ofInt 64 (b:Int)).toNat:Nat):Int)))=_
 rw[BitVec.toNat_and,bv_nat ha,bv_nat hb,wrapU (by omega) (by have:=Nat.and_le_left (n:=a) (m:=b);omega)]
theorem bin_or_u {a b:Nat} (ha:a<2^64) (hb:b<2^64):binD .or ek (.int .u64 (a:Int)) (.int .u64 (b:Int))=some (.int .u64 ((a ||| b:Nat):Int)):=by
 show some (DV.int .u64 (IntKind.u64.wrap (((BitVec.ofInt 64 (a:Int) ||| BitVec.ofInt 64 (b:Int)).toNat:Nat):Int)))=_
 rw[BitVec.toNat_or,bv_nat ha,bv_nat hb,wrapU (by omega) (by have:=Nat.or_lt_two_pow ha hb;omega)]
theorem bin_eql_u (a b:Int):binD .eql ek (.int .u64 a) (.int .u64 b)=some (.bool (decide (a=b))):=by show some (DV.bool (eqI a b))=_;rw[eqI_dec]
theorem bin_shl_u (n:Nat) (hn:n<64):binD .shl ek (.int .u64 1) (.int .i64 (n:Int))=some (.int .u64 ((2^n:Nat):Int)):=by
 show Option.bind (if ltI (n:Int) 0 then none else some (Value.int .u64 (IntKind.u64.wrap (1*2^(min (n:Int).toNat 64))))) dOf1=_
 rw[zdC]
 simp only[show¬((n:Int)<0) by omega,decide_false,Bool.false_eq_true,if_false,Option.bind_some]
 rw[Int.toNat_natCast,Nat.min_eq_left (by omega),Int.one_mul]
 have:(2^n:Nat)<2^64:=Nat.pow_lt_pow_right (by omega) hn
 have e:((2:Int)^n)=((2^n:Nat):Int):=by norm_cast
 rw[e]
 generalize (2^n:Nat)=q at*
 rw[wrapU (by omega) (by omega)]
 rfl
theorem bin_quo64 {n:Int} (h0:0≤n) (h1:n<64):binD .quo ek (.int .i64 n) (.int .i64 64)=some (.int .i64 0):=by
 show some (DV.int .i64 (zhp .i64 (n.tdiv 64)))=_
 rw[Int.tdiv_eq_ediv_of_nonneg h0,Int.ediv_eq_zero_of_lt h0 h1];rfl
theorem bin_rem64 {n:Int} (h0:0≤n) (h1:n<64):binD .rem ek (.int .i64 n) (.int .i64 64)=some (.int .i64 n):=by
 show some (DV.int .i64 (n.tmod 64))=_
 rw[Int.tmod_eq_emod_of_nonneg h0,Int.emod_eq_of_lt h0 h1]
end
end Go.Ideal.S
namespace Go.Ideal
section
variable {X:RnD} {fr:FrC} {s:DS} {M:VM} {d:Option (List Bool)} {r:List CI} {lo:Nat} {p:Prop} [Decidable p]
@[simp] theorem arrD_n (n sz:Nat) (k:IntKind) (i:Nat) (x:DV):arrD n sz (.int k (i:Int)) x=if i<n then offD (i*sz) x else none:=rfl
@[simp] theorem arrD_0 (n sz:Nat) (k:IntKind) (x:DV):arrD n sz (.int k 0) x=if 0<n then offD 0 x else none:=by
  show(if 0<n then offD (0*sz) x else none)=_;rw[Nat.zero_mul]
theorem zk (a c:CC): @Br X fr (some (.bool (decide p))) a c s M=if p then @Cd X fr a s M else @Cd X fr c s M:=by rw[zf];simp only[decide_eq_true_eq]
theorem zi (a c:CC): @Br X fr (some (.bool (!decide p))) a c s M=if p then @Cd X fr c s M else @Cd X fr a s M:=by
 rw[zf];by_cases h:p<;>simp[h]
theorem zj (op:COp): @Gd X fr (some (decide p)) d op lo r s M=if p then @Op X fr (⟨d,op,none,lo⟩::r) s M else @Op X fr r (zY d (.tup []) s) M:=by rw[ze];simp only[decide_eq_true_eq]
theorem zg (op:COp): @Gd X fr (some (!decide p)) d op lo r s M=if p then @Op X fr r (zY d (.tup []) s) M else @Op X fr (⟨d,op,none,lo⟩::r) s M:=by
 rw[ze];by_cases h:p<;>simp[h]
theorem zh {l:List CI} {bs:List Mo} (o:CI): @DrG X fr (some (decide p)) o l bs s M=if p then @DrG X fr (some true) o l bs s M else @DrG X fr (some false) o l bs s M:=by rw[za];simp only[decide_eq_true_eq]
theorem zb {l:List CI} {bs:List Mo} (o:CI): @DrG X fr (some (!decide p)) o l bs s M=if p then @DrG X fr (some false) o l bs s M else @DrG X fr (some true) o l bs s M:=by
 rw[za];by_cases h:p<;>simp[h]
end
section
variable {n0:Nat} {F:FuncId→Option zm}
theorem zfS.pre {c:CC} {K:KD} {s s2:DS} {M M2:VM} (hc:Conv M M M2) (hf:SFrz M M2 s s2) (h:zfS F n0 c K s2 M2):zfS F n0 c K s M:=by
 intro w0 M0 h0 w hp t hst hs
 exact h w0 M0 h0 _ hp t (hst.conv hst.r (.refl _ _ _) hst.r hc) (hf.rel hst.r hs)
theorem zbB.pre {L:List (List Bool)} {b:CC} {K:KD} {s s2:DS} {M M2:VM} (hc:Conv M M M2) (hf:SFrz M M2 s s2) (h:zbB F n0 L b K s2 M2):zbB F n0 L b K s M:=zfS.pre hc hf h
theorem SFrz.nil {M M2:VM} {s:DS}:SFrz M M2 s []:=fun p e h=>by cases h
theorem SFrz.cons {M M2:VM} {s s2:DS} {p:List Bool} {d e:DV} (hd:getS s p=some d) (h1:Frz M M2 d e) (h2:zw M2.next e) (h:SFrz M M2 s s2):SFrz M M2 s ((p,e)::s2):=fun q x hx=>by
 by_cases hq:q=p
 ·subst hq
  have:x=e:=by
   have hb:beqP q q=true:=by
    clear hx hd
    induction q with
    |nil=>rfl
    |cons a r ih=>simp[beqP,ih]
   simp[getS,hb] at hx;exact hx.symm
  subst this;exact⟨d,hd,h1,h2⟩
 ·refine h q x ?_
  cases hb:beqP p q with
  |false=>simpa[getS,hb] using hx
  |true=>
   exfalso;apply hq
   clear hx hd
   induction q generalizing p with
   |nil=>cases p with
    |nil=>rfl
    |cons=>cases hb
   |cons a r ih=>cases p with
    |nil=>cases hb
    |cons b l=>
     simp[beqP] at hb
     rw[hb.1,ih (p:=l) (fun h=>by subst h;exact hq (by rw[hb.1])) hb.2]
theorem Conv.del2 (M:VM) (i j:Nat):Conv M M ((M.del i).del j):=⟨Nat.le_refl _,fun q=>by
 by_cases e:q=j
 ·subst e;exact .inr (.inl (by simp))
 ·by_cases e2:q=i
  ·subst e2;exact .inr (.inl (by simp[e]))
  ·exact .inl ⟨by simp[e,e2],fun _=>rfl⟩⟩
end
end Go.Ideal
set_option maxRecDepth 10000
set_option maxHeartbeats 4000000
namespace Go.Ideal.S
open Go Go.Ideal Q Classical
attribute [local simp] decide_eq_true decide_eq_false
variable {M:VM} {k kp:DV→VM→Prop} {n0:Nat}
theorem dT {p:Prop} {inst:Decidable p} (h:p): @decide p inst=true:=decide_eq_true h
theorem dF {p:Prop} {inst:Decidable p} (h: ¬p): @decide p inst=false:=decide_eq_false h
def bef (a b:Edge):Prop:=if a.f=b.f then(if a.a=b.a then a.t<b.t else a.a<b.a) else a.f<b.f
structure EdgeOk (g:Gr) (e:Edge):Prop where
 f0:0≤e.f
 f1:e.f<g.st
 t0:0≤e.t
 t1:e.t<g.st
 a0:0≤e.a
 a1:e.a<g.ac
def SrtTo (i:Nat) (l:List Edge):Prop:= ∀q (h:q+1<l.length),q+1<i→bef (l[q]'(by omega)) l[q+1]
structure zhx (g:Gr):Prop where
 s1:1≤g.st
 s2:g.st≤60
 a1:0≤g.ac
 a2:g.ac≤40
 el:g.es.length≤400
 ok: ∀e∈g.es,EdgeOk g e
 srt:SrtTo g.es.length g.es
theorem SrtTo.succ {i:Nat} {l:List Edge} (h:SrtTo i l) (hi:i<l.length) (h2: ∀(h0:0<i),bef (l[i - 1]'(by omega)) l[i]):SrtTo (i+1) l:=by
 intro q hq hqi
 rcases Nat.lt_or_ge (q+1) i with h1|h1
 ·exact h q hq h1
 ·obtain rfl:i=q+1:=by omega
  exact h2 (by omega)
theorem zbr {B M:VM} {j:Nat} {o:MO} (h:SM B.next B M) (hj:j<B.next) (ho:B.obj j=some o):M.obj j=some o:=by
 show(M.get j).map _=_;rw[h j hj];exact ho
attribute [local simp] c_p f_p r_p_1 r_p_2 r_p_3 r_p_4 r_p_5 r_p_6 c_h f_h r_h_1 r_h_2 r_h_3 r_h_4 r_h_5 r_h_6 r_h_7 r_h_8 r_h_9 r_h_10 r_h_11 r_h_13
theorem before_ok (a b:Edge) (hk:k (.bool (decide (bef a b))) M):zt F (.fn n_p [] []) [.agg (zJ a),.agg (zJ b)] M k kp:=by
 apply zt.back
 refine .fn zeq rfl (by simp[f_p]) ?_
 unfold bef at hk
 repeat' (first| (simp(disch:=((try simp only[new_next,put_next,del_next]);omega)) [zJ];first|done| ((first|simp only[zk,zi,zj,zg,zh,zb]|simp only[zf,ze]|rw[za]);split)|skip)| ((first|simp only[zk,zi,zj,zg,zh,zb]|simp only[zf,ze]|rw[za]);split))
 all_goals (refine Back.plain (by simp) (by repeat' (first|assumption|exact SM_refl _ _|apply SM_put|apply SM_new|apply SM_del| ((try simp only[new_next,put_next,del_next]);omega))) ?_;simp_all)
theorem good_ok (g:Gr) (hk: ∀b:Bool,(b=true↔zhx g)→k (.bool b) M):zt F (.fn n_h [] []) [.agg (eGr g)] M k kp:=by
 apply zt.back
 refine .fn zfi rfl (by simp[f_h]) ?_
 by_cases hc:g.st<1∨60<g.st∨g.ac<0∨40<g.ac∨400<(g.es.length:Int)
 ·have hk:=hk false ⟨fun h=>by(cases h),fun h=>by(have:=h.s1;have:=h.s2;have:=h.a1;have:=h.a2;have:=h.el;omega)⟩
  repeat' (first| (simp(disch:=((try simp only[new_next,put_next,del_next]);omega)) [eGr];first|done| ((first|simp only[zk,zi,zj,zg,zh,zb]|simp only[zf,ze]|rw[za]);split)|skip)| ((first|simp only[zk,zi,zj,zg,zh,zb]|simp only[zf,ze]|rw[za]);split))
  all_goals first|omega|exact Back.plain (by simp) (by repeat' (first|assumption|exact SM_refl _ _|apply SM_put|apply SM_new|apply SM_del| ((try simp only[new_next,put_next,del_next]);omega))) hk
 have h1: ¬g.st<1:=by omega
 have h2: ¬60<g.st:=by omega
 have h3: ¬g.ac<0:=by omega
 have h4: ¬40<g.ac:=by omega
 have h5: ¬400<(g.es.length:Int):=by omega
 clear hc
 obtain⟨M1,hM1⟩: ∃M1,M1=M.new (.rows false 3 [[I g.st,I g.ac,.lst 3 (g.es.map zJ)]]):=⟨_,rfl⟩
 have ho:M1.obj M.next=some (.rows false 3 [[I g.st,I g.ac,.lst 3 (g.es.map zJ)]]):=by simp[hM1]
 have hs:SM M.next M M1:=by simp[hM1]
 have hn:M.next<M1.next:=by simp[hM1]
 have hM:=hM1.symm
 clear hM1
 repeat' (first| (simp(disch:=((try simp only[new_next,put_next,del_next]);omega)) [eGr,h1,h2,h3,h4,h5,hM,ho];first|done| ((first|simp only[zk,zi,zj,zg,zh,zb]|simp only[zf,ze]|rw[za]);split)|skip)| ((first|simp only[zk,zi,zj,zg,zh,zb]|simp only[zf,ze]|rw[za]);split))
 clear hM
 refine .for (σ:=VM) c_h_12.eq_1 (fun i _=>[(3,I i)]) (fun y=>y) (fun i y=>(SM M1.next M1 y∧M1.next≤y.next)∧zfT i g.es (EdgeOk g)∧SrtTo i g.es) g.es.length M1 (by simp) rfl ⟨⟨SM_refl _ _,Nat.le_refl _⟩,.zero,fun q h hq=>by omega⟩ (fun i y hi hP again=> ?_) (fun y hP=> ?_)
 ·obtain⟨⟨hy,hyn⟩,hA,hS⟩:=hP
  have ho':=zbr hy hn ho
  have hsy:SM M.next M y:=fun j hj=>(hy j (by omega)).trans (hs j hj)
  by_cases hc:EdgeOk g g.es[i]
  ·have q1:=hc.f0;have q2:=hc.f1;have q3:=hc.t0;have q4:=hc.t1;have q5:=hc.a0;have q6:=hc.a1
   have hA2:=hA.succ hi hc
   rcases Nat.eq_zero_or_pos i with rfl|h0
   ·have again:=fun M' h=>again M' ⟨h,hA2,hS.succ hi (by omega)⟩
    simp at again
    clear hk
    repeat' (first| (simp(disch:=((try simp only[new_next,put_next,del_next]);omega)) [ho',hi,zJ,zcJ];first|done| ((first|simp only[zk,zi,zj,zg,zh,zb]|simp only[zf,ze]|rw[za]);split)|skip)| ((first|simp only[zk,zi,zj,zg,zh,zb]|simp only[zf,ze]|rw[za]);split))
    exact again _ (by repeat' (first|assumption|exact SM_refl _ _|apply SM_put|apply SM_new|apply SM_del| ((try simp only[new_next,put_next,del_next]);omega))) (by simp;omega)
   ·obtain⟨m,hm1⟩: ∃m,i - 1=m:=⟨_,rfl⟩
    have hm:m<g.es.length:=by omega
    have em:(i:Int) - 1=(m:Int):=by omega
    by_cases hb:bef g.es[m] g.es[i]
    ·have again:=fun M' h=>again M' ⟨h,hA2,hS.succ hi (fun _=>by simpa only[hm1] using hb)⟩
     simp at again
     clear hk
     repeat' (first| (simp(disch:=((try simp only[new_next,put_next,del_next]);omega)) [ho',hi,hm,em,zJ,zcJ];first|done| ((first|simp only[zk,zi,zj,zg,zh,zb]|simp only[zf,ze]|rw[za]);split)|skip)| ((first|simp only[zk,zi,zj,zg,zh,zb]|simp only[zf,ze]|rw[za]);split))
     refine before_ok g.es[m] g.es[i] ?_
     repeat' (first| (simp(disch:=((try simp only[new_next,put_next,del_next]);omega)) [hb,zcJ];first|done| ((first|simp only[zk,zi,zj,zg,zh,zb]|simp only[zf,ze]|rw[za]);split)|skip)| ((first|simp only[zk,zi,zj,zg,zh,zb]|simp only[zf,ze]|rw[za]);split))
     exact again _ (by repeat' (first|assumption|exact SM_refl _ _|apply SM_put|apply SM_new|apply SM_del| ((try simp only[new_next,put_next,del_next]);omega))) (by simp;omega)
    ·have hk:=hk false ⟨fun h=>by(cases h),fun h=>absurd (h.srt m (by omega) (by omega)) (fun q=>hb (by simpa only[show m+1=i by omega] using q))⟩
     clear again
     repeat' (first| (simp(disch:=((try simp only[new_next,put_next,del_next]);omega)) [ho',hi,hm,em,zJ,zcJ];first|done| ((first|simp only[zk,zi,zj,zg,zh,zb]|simp only[zf,ze]|rw[za]);split)|skip)| ((first|simp only[zk,zi,zj,zg,zh,zb]|simp only[zf,ze]|rw[za]);split))
     refine before_ok g.es[m] g.es[i] ?_
     repeat' (first| (simp(disch:=((try simp only[new_next,put_next,del_next]);omega)) [hb,zcJ];first|done| ((first|simp only[zk,zi,zj,zg,zh,zb]|simp only[zf,ze]|rw[za]);split)|skip)| ((first|simp only[zk,zi,zj,zg,zh,zb]|simp only[zf,ze]|rw[za]);split))
     exact Back.plain (by simp) (by repeat' (first|assumption|exact SM_refl _ _|apply SM_put|apply SM_new|apply SM_del| ((try simp only[new_next,put_next,del_next]);omega))) hk
  ·have hk:=hk false ⟨fun h=>by(cases h),fun h=>absurd (h.ok _ (List.getElem_mem hi)) hc⟩
   have hc':g.es[i].f<0∨g.st≤g.es[i].f∨g.es[i].t<0∨g.st≤g.es[i].t∨g.es[i].a<0∨g.ac≤g.es[i].a:=Classical.byContradiction fun h=>hc ⟨by omega,by omega,by omega,by omega,by omega,by omega⟩
   clear again hc
   repeat' (first| (simp(disch:=((try simp only[new_next,put_next,del_next]);omega)) [ho',hi,zJ];first|done| ((first|simp only[zk,zi,zj,zg,zh,zb]|simp only[zf,ze]|rw[za]);split)|skip)| ((first|simp only[zk,zi,zj,zg,zh,zb]|simp only[zf,ze]|rw[za]);split))
   all_goals first|omega|exact Back.plain (by simp) (by repeat' (first|assumption|exact SM_refl _ _|apply SM_put|apply SM_new|apply SM_del| ((try simp only[new_next,put_next,del_next]);omega))) hk
 ·obtain⟨⟨hy,hyn⟩,hA,hS⟩:=hP
  have ho':=zbr hy hn ho
  have hsy:SM M.next M y:=fun j hj=>(hy j (by omega)).trans (hs j hj)
  have hk:=hk true ⟨fun _=>⟨by omega,by omega,by omega,by omega,by omega,hA.all,hS⟩,fun _=>rfl⟩
  repeat' (first| (simp(disch:=((try simp only[new_next,put_next,del_next]);omega)) [ho'];first|done| ((first|simp only[zk,zi,zj,zg,zh,zb]|simp only[zf,ze]|rw[za]);split)|skip)| ((first|simp only[zk,zi,zj,zg,zh,zb]|simp only[zf,ze]|rw[za]);split))
  exact Back.plain (by simp) (by repeat' (first|assumption|exact SM_refl _ _|apply SM_put|apply SM_new|apply SM_del| ((try simp only[new_next,put_next,del_next]);omega))) hk
end Go.Ideal.S
namespace Go.Ideal.S
open Go Go.Ideal Q Classical
attribute [local simp] decide_eq_true decide_eq_false zcJ
variable {M:VM} {k kp:DV→VM→Prop} {n0:Nat}
attribute [local simp] c_x f_x r_x_1 r_x_2 c_l f_l r_l_1 r_l_2 r_l_3 r_l_4 r_l_5 r_l_6 r_l_8 c_k f_k r_k_1 r_k_2 r_k_3 r_k_4 r_k_5 r_k_6 r_k_7 r_k_8 r_k_10 c_n f_n r_n_1 r_n_2 r_n_3 r_n_4 r_n_5 r_n_6 r_n_8 c_m f_m r_m_1 r_m_2 r_m_3 r_m_4 r_m_5 r_m_6 r_m_8
def zfv (g:Gr) (a:Int):Prop:=zhx g∧0≤a∧a<g.ac
theorem known_ok (g:Gr) (a:Int) (hl:g.es.length≤1000000) (hk:k (.bool (decide (zfv g a))) M):zt F (.fn n_x [] []) [.agg (eGr g),I a] M k kp:=by
 apply zt.back
 refine .fn zeI rfl (by simp[f_x]) ?_
 repeat' (first| (simp(disch:=((try simp only[new_next,put_next,del_next]);omega)) [eGr];first|done| ((first|simp only[zk,zi,zj,zg,zh,zb]|simp only[zf,ze]|rw[za]);split)|skip)| ((first|simp only[zk,zi,zj,zg,zh,zb]|simp only[zf,ze]|rw[za]);split))
 refine good_ok g fun b hb=> ?_
 cases b with
 |false=>
  rw[decide_eq_false (fun h=>by have:=hb.2 h.1;cases this)] at hk
  repeat' (first| (simp(disch:=((try simp only[new_next,put_next,del_next]);omega)) [eGr];first|done| ((first|simp only[zk,zi,zj,zg,zh,zb]|simp only[zf,ze]|rw[za]);split)|skip)| ((first|simp only[zk,zi,zj,zg,zh,zb]|simp only[zf,ze]|rw[za]);split))
  exact Back.plain (by simp) (by repeat' (first|assumption|exact SM_refl _ _|apply SM_put|apply SM_new|apply SM_del| ((try simp only[new_next,put_next,del_next]);omega))) hk
 |true=>
  have hg:=hb.1 rfl
  by_cases h1:0≤a
  ·by_cases h2:a<g.ac
   ·rw[decide_eq_true ⟨hg,h1,h2⟩] at hk
    repeat' (first| (simp(disch:=((try simp only[new_next,put_next,del_next]);omega)) [eGr,h1,h2];first|done| ((first|simp only[zk,zi,zj,zg,zh,zb]|simp only[zf,ze]|rw[za]);split)|skip)| ((first|simp only[zk,zi,zj,zg,zh,zb]|simp only[zf,ze]|rw[za]);split))
    exact Back.plain (by simp) (by repeat' (first|assumption|exact SM_refl _ _|apply SM_put|apply SM_new|apply SM_del| ((try simp only[new_next,put_next,del_next]);omega))) hk
   ·rw[decide_eq_false (fun h=>h2 h.2.2)] at hk
    repeat' (first| (simp(disch:=((try simp only[new_next,put_next,del_next]);omega)) [eGr,h1,h2];first|done| ((first|simp only[zk,zi,zj,zg,zh,zb]|simp only[zf,ze]|rw[za]);split)|skip)| ((first|simp only[zk,zi,zj,zg,zh,zb]|simp only[zf,ze]|rw[za]);split))
    exact Back.plain (by simp) (by repeat' (first|assumption|exact SM_refl _ _|apply SM_put|apply SM_new|apply SM_del| ((try simp only[new_next,put_next,del_next]);omega))) hk
  ·rw[decide_eq_false (fun h=>h1 h.2.1)] at hk
   repeat' (first| (simp(disch:=((try simp only[new_next,put_next,del_next]);omega)) [eGr,h1];first|done| ((first|simp only[zk,zi,zj,zg,zh,zb]|simp only[zf,ze]|rw[za]);split)|skip)| ((first|simp only[zk,zi,zj,zg,zh,zb]|simp only[zf,ze]|rw[za]);split))
   exact Back.plain (by simp) (by repeat' (first|assumption|exact SM_refl _ _|apply SM_put|apply SM_new|apply SM_del| ((try simp only[new_next,put_next,del_next]);omega))) hk
def zba (es:List Edge) (l:List Int):Prop:= ∀x∈l,0≤x∧x<es.length
theorem edges_ok (g:Gr) (l:List Int) (hl:g.es.length≤1000000) (h2:l.length≤1000000) (hk:k (.bool (decide (zba g.es l))) M):zt F (.fn n_l [] []) [.agg (eGr g),ints l] M k kp:=by
 apply zt.back
 refine .fn zeJ rfl (by simp[f_l]) ?_
 repeat' (first| (simp(disch:=((try simp only[new_next,put_next,del_next]);omega)) [eGr];first|done| ((first|simp only[zk,zi,zj,zg,zh,zb]|simp only[zf,ze]|rw[za]);split)|skip)| ((first|simp only[zk,zi,zj,zg,zh,zb]|simp only[zf,ze]|rw[za]);split))
 refine .for (σ:=Unit) c_l_7.eq_1 (fun i _=>[(5,I i)]) (fun _=>M.new (.rows false 3 [eGr g])) (fun i _=>zfT i l (fun x=>0≤x∧x<g.es.length)) l.length () (by simp) (by simp[eGr]) .zero (fun i _ hi hP again=> ?_) (fun _ hP=> ?_)
 ·by_cases hc:0≤l[i]∧l[i]<g.es.length
  ·have again:=again () (hP.succ hi hc)
   simp[eGr] at again
   repeat' (first| (simp(disch:=((try simp only[new_next,put_next,del_next]);omega)) [eGr,eInt,hi];first|done| ((first|simp only[zk,zi,zj,zg,zh,zb]|simp only[zf,ze]|rw[za]);split)|skip)| ((first|simp only[zk,zi,zj,zg,zh,zb]|simp only[zf,ze]|rw[za]);split))
   exact again
  ·rw[decide_eq_false (fun h=>hc (h _ (List.getElem_mem hi)))] at hk
   have hc':l[i]<0∨(g.es.length:Int)≤l[i]:=by omega
   clear again hc
   repeat' (first| (simp(disch:=((try simp only[new_next,put_next,del_next]);omega)) [eGr,eInt,hi];first|done| ((first|simp only[zk,zi,zj,zg,zh,zb]|simp only[zf,ze]|rw[za]);split)|skip)| ((first|simp only[zk,zi,zj,zg,zh,zb]|simp only[zf,ze]|rw[za]);split))
   all_goals first|omega|exact Back.plain (by simp) (by repeat' (first|assumption|exact SM_refl _ _|apply SM_put|apply SM_new|apply SM_del| ((try simp only[new_next,put_next,del_next]);omega))) hk
 ·rw[decide_eq_true (show zba g.es l from fun x hx=>hP.all x hx)] at hk
  repeat' (first| (simp(disch:=((try simp only[new_next,put_next,del_next]);omega)) [eGr];first|done| ((first|simp only[zk,zi,zj,zg,zh,zb]|simp only[zf,ze]|rw[za]);split)|skip)| ((first|simp only[zk,zi,zj,zg,zh,zb]|simp only[zf,ze]|rw[za]);split))
  exact Back.plain (by simp) (by repeat' (first|assumption|exact SM_refl _ _|apply SM_put|apply SM_new|apply SM_del| ((try simp only[new_next,put_next,del_next]);omega))) hk
def eAt (es:List Edge) (x:Int):Edge:=es[x.toNat]?.getD ⟨0,0,0⟩
theorem zeT {es:List Edge} {n:Nat} (h:n<es.length):eAt es (n:Int)=es[n]:=by simp[eAt,h]
def zcf (es:List Edge) (w:Int):Int→List Int→Int
 |f,[]=>f
 |f,x::r=>if(eAt es x).f=f∧(eAt es x).a≠w then zcf es w (eAt es x).t r else -1
theorem path_ok (g:Gr) (f w:Int) (l:List Int) (hl:g.es.length≤1000000) (h2:l.length≤1000000) (hE:zba g.es l) (hk:k (I (zcf g.es w f l)) M):zt F (.fn n_k [] []) [.agg (eGr g),I f,ints l,I w] M k kp:=by
 apply zt.back
 refine .fn zff rfl (by simp[f_k]) ?_
 repeat' (first| (simp(disch:=((try simp only[new_next,put_next,del_next]);omega)) [eGr];first|done| ((first|simp only[zk,zi,zj,zg,zh,zb]|simp only[zf,ze]|rw[za]);split)|skip)| ((first|simp only[zk,zi,zj,zg,zh,zb]|simp only[zf,ze]|rw[za]);split))
 obtain⟨M1,hM1⟩: ∃M1,M1=M.new (.rows false 3 [[I g.st,I g.ac,.lst 3 (g.es.map zJ)]]):=⟨_,rfl⟩
 have ho:M1.obj M.next=some (.rows false 3 [[I g.st,I g.ac,.lst 3 (g.es.map zJ)]]):=by simp[hM1]
 have hs:SM M.next M M1:=by simp[hM1]
 have hn:M.next<M1.next:=by simp[hM1]
 rw[←hM1]
 clear hM1
 refine .for (σ:=Int×VM) c_k_9.eq_1 (fun i y=>[(1,I y.1),(9,I i)]) (fun y=>y.2) (fun i y=>(SM M1.next M1 y.2∧M1.next≤y.2.next)∧zcf g.es w y.1 (l.drop i)=zcf g.es w f l) l.length (f,M1) (by simp) rfl ⟨⟨SM_refl _ _,Nat.le_refl _⟩,by simp⟩ (fun i y hi hP again=> ?_) (fun y hP=> ?_)
 ·obtain⟨at_,y⟩:=y
  obtain⟨⟨hy,hyn⟩,hR⟩:=hP
  dsimp only at hy hyn hR again⊢
  have ho':=zbr hy hn ho
  have hsy:SM M.next M y:=fun j hj=>(hy j (by omega)).trans (hs j hj)
  obtain⟨x0,x1⟩:=hE _ (List.getElem_mem hi)
  obtain⟨c,hc⟩:=Int.eq_ofNat_of_zero_le x0
  have hcl:c<g.es.length:=by omega
  rw[List.drop_eq_getElem_cons hi,zcf,hc,zeT hcl] at hR
  by_cases hq:g.es[c].f=at_∧g.es[c].a≠w
  ·rw[if_pos hq] at hR
   obtain⟨q1,q2⟩:=hq
   have again:=fun M' (h:SM M1.next M1 M'∧M1.next≤M'.next)=>again (g.es[c].t,M') ⟨h,hR⟩
   simp at again
   repeat' (first| (simp(disch:=((try simp only[new_next,put_next,del_next]);omega)) [eGr,eInt,zJ,hi,hc,hcl,ho',q1,q2];first|done| ((first|simp only[zk,zi,zj,zg,zh,zb]|simp only[zf,ze]|rw[za]);split)|skip)| ((first|simp only[zk,zi,zj,zg,zh,zb]|simp only[zf,ze]|rw[za]);split))
   exact again _ (by repeat' (first|assumption|exact SM_refl _ _|apply SM_put|apply SM_new|apply SM_del| ((try simp only[new_next,put_next,del_next]);omega))) (by simp;omega)
  ·rw[if_neg hq] at hR
   rw[←hR] at hk
   have hq':g.es[c].f=at_→g.es[c].a=w:=fun h=>Classical.byContradiction fun h2=>hq ⟨h,h2⟩
   clear again hR
   by_cases q1:g.es[c].f=at_
   ·have q2:=hq' q1
    repeat' (first| (simp(disch:=((try simp only[new_next,put_next,del_next]);omega)) [eGr,eInt,zJ,hi,hc,hcl,ho',q1,q2];first|done| ((first|simp only[zk,zi,zj,zg,zh,zb]|simp only[zf,ze]|rw[za]);split)|skip)| ((first|simp only[zk,zi,zj,zg,zh,zb]|simp only[zf,ze]|rw[za]);split))
    exact Back.plain (by simp) (by repeat' (first|assumption|exact SM_refl _ _|apply SM_put|apply SM_new|apply SM_del| ((try simp only[new_next,put_next,del_next]);omega))) hk
   ·repeat' (first| (simp(disch:=((try simp only[new_next,put_next,del_next]);omega)) [eGr,eInt,zJ,hi,hc,hcl,ho',q1];first|done| ((first|simp only[zk,zi,zj,zg,zh,zb]|simp only[zf,ze]|rw[za]);split)|skip)| ((first|simp only[zk,zi,zj,zg,zh,zb]|simp only[zf,ze]|rw[za]);split))
    exact Back.plain (by simp) (by repeat' (first|assumption|exact SM_refl _ _|apply SM_put|apply SM_new|apply SM_del| ((try simp only[new_next,put_next,del_next]);omega))) hk
 ·obtain⟨at_,y⟩:=y
  obtain⟨⟨hy,hyn⟩,hR⟩:=hP
  dsimp only at hy hyn hR⊢
  have hsy:SM M.next M y:=fun j hj=>(hy j (by omega)).trans (hs j hj)
  rw[List.drop_length,zcf] at hR
  rw[←hR] at hk
  repeat' (first| (simp(disch:=((try simp only[new_next,put_next,del_next]);omega));first|done| ((first|simp only[zk,zi,zj,zg,zh,zb]|simp only[zf,ze]|rw[za]);split)|skip)| ((first|simp only[zk,zi,zj,zg,zh,zb]|simp only[zf,ze]|rw[za]);split))
  exact Back.plain (by simp) (by repeat' (first|assumption|exact SM_refl _ _|apply SM_put|apply SM_new|apply SM_del| ((try simp only[new_next,put_next,del_next]);omega))) hk
def eB (b:Bool):List DV:=[.bool b]
abbrev bools (l:List Bool):DV:=.lst 1 (l.map eB)
def On (bs:List Bool) (x:Int):Prop:=bs[x.toNat]? =some true
def zgw (es:List Edge) (bs:List Bool) (a:Int):Prop:= ∃e∈es,On bs e.f∧e.a=a
theorem open_ok (g:Gr) (bs:List Bool) (a:Int) (hl:g.es.length≤1000000) (hE: ∀e∈g.es,0≤e.f∧e.f<bs.length) (hk:k (.bool (decide (zgw g.es bs a))) M):zt F (.fn n_n [] []) [.agg (eGr g),bools bs,I a] M k kp:=by
 apply zt.back
 refine .fn zfg rfl (by simp[f_n]) ?_
 repeat' (first| (simp(disch:=((try simp only[new_next,put_next,del_next]);omega)) [eGr];first|done| ((first|simp only[zk,zi,zj,zg,zh,zb]|simp only[zf,ze]|rw[za]);split)|skip)| ((first|simp only[zk,zi,zj,zg,zh,zb]|simp only[zf,ze]|rw[za]);split))
 refine .for (σ:=Unit) c_n_7.eq_1 (fun i _=>[(7,I i)]) (fun _=>M.new (.rows false 3 [eGr g])) (fun i _=>zfT i g.es (fun e=> ¬(On bs e.f∧e.a=a))) g.es.length () (by simp) (by simp[eGr]) .zero (fun i _ hi hP again=> ?_) (fun _ hP=> ?_)
 ·obtain⟨x0,x1⟩:=hE _ (List.getElem_mem hi)
  obtain⟨c,hc⟩:=Int.eq_ofNat_of_zero_le x0
  have hcl:c<bs.length:=by omega
  have hOn:On bs g.es[i].f↔bs[c]=true:=by unfold On;rw[hc,Int.toNat_natCast,List.getElem?_eq_getElem hcl];simp
  by_cases hq:bs[c]=true
  ·by_cases q2:g.es[i].a=a
   ·rw[decide_eq_true ⟨_,List.getElem_mem hi,hOn.2 hq,q2⟩] at hk
    clear again
    repeat' (first| (simp(disch:=((try simp only[new_next,put_next,del_next]);omega)) [eGr,zJ,eB,hi,hc,hcl,hq,q2];first|done| ((first|simp only[zk,zi,zj,zg,zh,zb]|simp only[zf,ze]|rw[za]);split)|skip)| ((first|simp only[zk,zi,zj,zg,zh,zb]|simp only[zf,ze]|rw[za]);split))
    exact Back.plain (by simp) (by repeat' (first|assumption|exact SM_refl _ _|apply SM_put|apply SM_new|apply SM_del| ((try simp only[new_next,put_next,del_next]);omega))) hk
   ·have again:=again () (hP.succ hi (fun h=>q2 h.2))
    simp[eGr] at again
    repeat' (first| (simp(disch:=((try simp only[new_next,put_next,del_next]);omega)) [eGr,zJ,eB,hi,hc,hcl,hq,q2];first|done| ((first|simp only[zk,zi,zj,zg,zh,zb]|simp only[zf,ze]|rw[za]);split)|skip)| ((first|simp only[zk,zi,zj,zg,zh,zb]|simp only[zf,ze]|rw[za]);split))
    exact again
  ·have again:=again () (hP.succ hi (fun h=>hq (hOn.1 h.1)))
   simp[eGr] at again
   simp at hq
   repeat' (first| (simp(disch:=((try simp only[new_next,put_next,del_next]);omega)) [eGr,zJ,eB,hi,hc,hcl,hq];first|done| ((first|simp only[zk,zi,zj,zg,zh,zb]|simp only[zf,ze]|rw[za]);split)|skip)| ((first|simp only[zk,zi,zj,zg,zh,zb]|simp only[zf,ze]|rw[za]);split))
   exact again
 ·rw[decide_eq_false (fun⟨e,he,h1,h2⟩=>hP.all e he ⟨h1,h2⟩)] at hk
  repeat' (first| (simp(disch:=((try simp only[new_next,put_next,del_next]);omega)) [eGr];first|done| ((first|simp only[zk,zi,zj,zg,zh,zb]|simp only[zf,ze]|rw[za]);split)|skip)| ((first|simp only[zk,zi,zj,zg,zh,zb]|simp only[zf,ze]|rw[za]);split))
  exact Back.plain (by simp) (by repeat' (first|assumption|exact SM_refl _ _|apply SM_put|apply SM_new|apply SM_del| ((try simp only[new_next,put_next,del_next]);omega))) hk
def zg0 (es:List Edge) (f:Int):Prop:= ∃e∈es,e.f=f
theorem starts_ok (g:Gr) (f:Int) (hl:g.es.length≤1000000) (hk:k (.bool (decide (zg0 g.es f))) M):zt F (.fn n_m [] []) [.agg (eGr g),I f] M k kp:=by
 apply zt.back
 refine .fn zep rfl (by simp[f_m]) ?_
 repeat' (first| (simp(disch:=((try simp only[new_next,put_next,del_next]);omega)) [eGr];first|done| ((first|simp only[zk,zi,zj,zg,zh,zb]|simp only[zf,ze]|rw[za]);split)|skip)| ((first|simp only[zk,zi,zj,zg,zh,zb]|simp only[zf,ze]|rw[za]);split))
 refine .for (σ:=Unit) c_m_7.eq_1 (fun i _=>[(5,I i)]) (fun _=>M.new (.rows false 3 [eGr g])) (fun i _=>zfT i g.es (fun e=>e.f≠f)) g.es.length () (by simp) (by simp[eGr]) .zero (fun i _ hi hP again=> ?_) (fun _ hP=> ?_)
 ·by_cases hq:g.es[i].f=f
  ·rw[decide_eq_true ⟨_,List.getElem_mem hi,hq⟩] at hk
   clear again
   repeat' (first| (simp(disch:=((try simp only[new_next,put_next,del_next]);omega)) [eGr,zJ,hi,hq];first|done| ((first|simp only[zk,zi,zj,zg,zh,zb]|simp only[zf,ze]|rw[za]);split)|skip)| ((first|simp only[zk,zi,zj,zg,zh,zb]|simp only[zf,ze]|rw[za]);split))
   exact Back.plain (by simp) (by repeat' (first|assumption|exact SM_refl _ _|apply SM_put|apply SM_new|apply SM_del| ((try simp only[new_next,put_next,del_next]);omega))) hk
  ·have again:=again () (hP.succ hi hq)
   simp[eGr] at again
   repeat' (first| (simp(disch:=((try simp only[new_next,put_next,del_next]);omega)) [eGr,zJ,hi,hq];first|done| ((first|simp only[zk,zi,zj,zg,zh,zb]|simp only[zf,ze]|rw[za]);split)|skip)| ((first|simp only[zk,zi,zj,zg,zh,zb]|simp only[zf,ze]|rw[za]);split))
   exact again
 ·rw[decide_eq_false (fun⟨e,he,h1⟩=>hP.all e he h1)] at hk
  repeat' (first| (simp(disch:=((try simp only[new_next,put_next,del_next]);omega)) [eGr];first|done| ((first|simp only[zk,zi,zj,zg,zh,zb]|simp only[zf,ze]|rw[za]);split)|skip)| ((first|simp only[zk,zi,zj,zg,zh,zb]|simp only[zf,ze]|rw[za]);split))
  exact Back.plain (by simp) (by repeat' (first|assumption|exact SM_refl _ _|apply SM_put|apply SM_new|apply SM_del| ((try simp only[new_next,put_next,del_next]);omega))) hk
end Go.Ideal.S
namespace Go.Ideal.S
open Go Go.Ideal Q Classical
attribute [local simp] decide_eq_true decide_eq_false zcJ
variable {M:VM} {k kp:DV→VM→Prop} {n0:Nat}
def zbS (f:Int→Int) (l:List Int) (bs:List Bool):List Bool:=l.foldl (fun b x=>b.set (f x).toNat true) bs
@[simp] theorem markL_len (f:Int→Int): ∀(l:List Int) (bs:List Bool),(zbS f l bs).length=bs.length
  | [],_=>rfl
  |x::r,bs=>by show(zbS f r _).length=_;rw[markL_len f r];simp
theorem zfa (f:Int→Int) {l:List Int} {bs:List Bool} {i:Nat} (hi:i<l.length):zbS f (l.take (i+1)) bs=(zbS f (l.take i) bs).set (f l[i]).toNat true:=by
 unfold zbS;rw[List.take_succ_eq_append_getElem hi,List.foldl_append];rfl
theorem zhD (f:Int→Int): ∀(l:List Int) (bs:List Bool) (n:Nat),(zbS f l bs)[n]? =some true↔bs[n]? =some true∨(n<bs.length∧ ∃x∈l,(f x).toNat=n)
 | [],bs,n=>by simp[zbS]
 |y::r,bs,n=>by
  show(zbS f r (bs.set (f y).toNat true))[n]? =some true↔_
  rw[zhD f r,List.getElem?_set]
  simp only[List.length_set,List.mem_cons,exists_eq_or_imp]
  by_cases h:(f y).toNat=n
  ·subst h
   by_cases hl:(f y).toNat<bs.length
   ·simp[hl]
   ·simp[hl]
  ·simp[h]
theorem rep_on (n m:Nat): ¬(List.replicate n false)[m]? =some true:=by
 rw[List.getElem?_replicate];split<;>simp
def onF (g:Gr) (l:List Int):List Bool:=zbS (fun x=>(eAt g.es x).f) l (List.replicate g.st.toNat false)
def onA (g:Gr) (l:List Int):List Bool:=zbS (fun x=>(eAt g.es x).a) l (List.replicate g.ac.toNat false)
theorem zeU {es:List Edge} {x:Int} (h:0≤x∧x<es.length):eAt es x∈es:=by
 obtain⟨n,rfl⟩:=Int.eq_ofNat_of_zero_le h.1
 rw[zeT (by omega)];exact List.getElem_mem _
theorem onF_iff {g:Gr} (hg:zhx g) {l:List Int} (hE:zba g.es l) {s:Int} (h0:0≤s):On (onF g l) s↔ ∃x∈l,(eAt g.es x).f=s:=by
 unfold On onF
 rw[zhD]
 constructor
 ·rintro(h| ⟨_,x,hx,e⟩)
  ·exact absurd h (rep_on _ _)
  ·refine⟨x,hx,?_⟩
   have:=(hg.ok _ (zeU (hE x hx))).f0
   omega
 ·rintro⟨x,hx,e⟩
  have h1:=hg.ok _ (zeU (hE x hx))
  have:=h1.f0;have:=h1.f1
  exact .inr ⟨by simp;omega,x,hx,by omega⟩
theorem onA_iff {g:Gr} (hg:zhx g) {l:List Int} (hE:zba g.es l) {a:Nat}:(onA g l)[a]? =some true↔ ∃x∈l,(eAt g.es x).a=a:=by
 unfold onA
 rw[zhD]
 constructor
 ·rintro(h| ⟨_,x,hx,e⟩)
  ·exact absurd h (rep_on _ _)
  ·refine⟨x,hx,?_⟩
   have:=(hg.ok _ (zeU (hE x hx))).a0
   omega
 ·rintro⟨x,hx,e⟩
  have h1:=hg.ok _ (zeU (hE x hx))
  have:=h1.a0;have:=h1.a1
  exact .inr ⟨by simp;omega,x,hx,by omega⟩
def zja (g:Gr) (l:List Int) (but:Int):Prop:= ∀e∈g.es,(∃x∈l,(eAt g.es x).f=e.f)→e.a≠but→ ∃x∈l,(eAt g.es x).a=e.a
attribute [local simp] c_e f_e r_e_1 r_e_2 r_e_3 r_e_4 r_e_5 r_e_6 r_e_7 r_e_8 r_e_10 r_e_11 r_e_12 r_e_13 r_e_14 r_e_16 c_a f_a r_a_1 r_a_2 r_a_3 r_a_4 r_a_5 r_a_6 r_a_7 r_a_8 r_a_9 r_a_10 r_a_11 r_a_12 r_a_13 r_a_14 r_a_15 r_a_17 c_c f_c r_c_1 r_c_2 r_c_3 r_c_4 r_c_5 r_c_6 r_c_7 r_c_8 r_c_9 r_c_10 r_c_11
theorem b_B {n:Nat} (b:Bool): ∀d∈eB b,zw n d:=by simp[eB]
theorem l_B (b:Bool):(eB b).length=1:=by simp[eB]
theorem c_B (b:Bool): ∀c∈eB b,zF c=true:=by simp[eB]
structure FairM (B y:VM) (g:Gr) (j3 j7 j8:Nat) (b7 b8:List Bool):Prop where
 sm:SM B.next B y
 nx:B.next≤j3∧j3<y.next∧B.next≤j7∧j7<y.next∧B.next≤j8∧j8<y.next
 o3:y.obj j3=some (.rows false 3 [[I g.st,I g.ac,.lst 3 (g.es.map zJ)]])
 o7:y.obj j7=some (.rows false 1 (b7.map eB))
 o8:y.obj j8=some (.rows false 1 (b8.map eB))
theorem fair_ok (g:Gr) (hg:zhx g) (l:List Int) (but:Int) (h2:l.length≤1000000) (hE:zba g.es l) (hk:k (.bool (decide (zja g l but))) M):zt F (.fn n_e [] []) [.agg (eGr g),ints l,I but] M k kp:=by
 apply zt.back
 refine .fn zfh rfl (by simp[f_e]) ?_
 have g1:=hg.s1;have g2:=hg.s2;have g3:=hg.a1;have g4:=hg.a2;have g5:=hg.el
 obtain⟨sn,hsn⟩:=Int.eq_ofNat_of_zero_le (show 0≤g.st by omega)
 obtain⟨an,han⟩:=Int.eq_ofNat_of_zero_le (show 0≤g.ac by omega)
 have hz1:sn≤1073741824:=by omega
 have hz2:an≤1073741824:=by omega
 repeat' (first| (simp(disch:=((try simp only[new_next,put_next,del_next]);omega)) [eGr,hsn,han,hz1,hz2];first|done| ((first|simp only[zk,zi,zj,zg,zh,zb]|simp only[zf,ze]|rw[za]);split)|skip)| ((first|simp only[zk,zi,zj,zg,zh,zb]|simp only[zf,ze]|rw[za]);split))
 have hrep: ∀n:Nat,List.replicate n [DV.bool false]=(List.replicate n false).map eB:=fun n=>by simp[eB]
 refine .gen (Q:=fun y=>FairM M y g M.next (M.next+1) (M.next+1+1) (zbS (fun x=>(eAt g.es x).f) (l.take 0) (List.replicate sn false)) (zbS (fun x=>(eAt g.es x).a) (l.take 0) (List.replicate an false))) ⟨(by repeat' (first|assumption|exact SM_refl _ _|apply SM_put|apply SM_new|apply SM_del| ((try simp only[new_next,put_next,del_next]);omega))),by simp;omega,by simp[hsn,han];omega,by simp[hrep,zbS],by simp[hrep,zbS]⟩ fun y0 hy0=> ?_
 have hne1:M.next≠M.next+1:=by omega
 have hne2:M.next≠M.next+1+1:=by omega
 have hne3:M.next+1≠M.next+1+1:=by omega
 generalize M.next+1+1=j8 at*
 generalize M.next+1=j7 at*
 refine .for (σ:=VM) c_e_9.eq_1 (fun i _=>[(9,I i)]) (fun y=>y) (fun i y=>FairM M y g M.next j7 j8 (zbS (fun x=>(eAt g.es x).f) (l.take i) (List.replicate sn false)) (zbS (fun x=>(eAt g.es x).a) (l.take i) (List.replicate an false))) l.length y0 (by simp) rfl hy0 (fun i y hi hP again=> ?_) (fun y hP=> ?_)
 ·obtain⟨hsm,hnx,o3,o7,o8⟩:=hP
  rw[hsn,han] at o3
  obtain⟨x0,x1⟩:=hE _ (List.getElem_mem hi)
  obtain⟨c,hc⟩:=Int.eq_ofNat_of_zero_le x0
  have hcl:c<g.es.length:=by omega
  obtain⟨q1,q2,-,-,q5,q6⟩:=hg.ok _ (List.getElem_mem hcl)
  obtain⟨u,hu⟩:=Int.eq_ofNat_of_zero_le q1
  obtain⟨v,hv⟩:=Int.eq_ofNat_of_zero_le q5
  have hus:u<sn:=by omega
  have hva:v<an:=by omega
  have again:=fun M' (h:FairM M M' g M.next j7 j8 _ _)=>again M' h
  rw[zfa _ hi,zfa _ hi,hc,zeT hcl,hu,hv] at again
  simp at again
  generalize hb7:zbS (fun x=>(eAt g.es x).f) (l.take i) (List.replicate sn false)=b7 at*
  generalize hb8:zbS (fun x=>(eAt g.es x).a) (l.take i) (List.replicate an false)=b8 at*
  have l7:b7.length=sn:=by rw[←hb7];simp
  have l8:b8.length=an:=by rw[←hb8];simp
  repeat' (first| (simp(disch:=((try simp only[new_next,put_next,del_next]);omega)) [o3,o7,o8,hi,hc,hcl,hu,hv,eInt,zJ,eB,hus,hva,l7,l8,hne1,hne2,hne3,Ne.symm hne3];first|done| ((first|simp only[zk,zi,zj,zg,zh,zb]|simp only[zf,ze]|rw[za]);split)|skip)| ((first|simp only[zk,zi,zj,zg,zh,zb]|simp only[zf,ze]|rw[za]);split))
  refine again _ ⟨(by repeat' (first|assumption|exact SM_refl _ _|apply SM_put|apply SM_new|apply SM_del| ((try simp only[new_next,put_next,del_next]);omega))),by simp;omega,by simp[hne1,hne2,o3,hsn,han],by simp[hne3,List.map_set,eB],by simp[List.map_set,eB]⟩
 ·rw[List.take_length] at hP
  have e7:zbS (fun x=>(eAt g.es x).f) l (List.replicate sn false)=onF g l:=by unfold onF;rw[hsn];rfl
  have e8:zbS (fun x=>(eAt g.es x).a) l (List.replicate an false)=onA g l:=by unfold onA;rw[han];rfl
  rw[e7,e8] at hP
  obtain⟨hsm,hnx,o3,o7,o8⟩:=hP
  have l7:(onF g l).length=sn:=by simp[onF,hsn]
  have l8:(onA g l).length=an:=by simp[onA,han]
  repeat' (first| (simp(disch:=((try simp only[new_next,put_next,del_next]);omega)) [o3];first|done| ((first|simp only[zk,zi,zj,zg,zh,zb]|simp only[zf,ze]|rw[za]);split)|skip)| ((first|simp only[zk,zi,zj,zg,zh,zb]|simp only[zf,ze]|rw[za]);split))
  have o3':((y.del j7).del j8).obj M.next=some (.rows false 3 [[I g.st,I g.ac,.lst 3 (g.es.map zJ)]]):=by simp[o3,hne1,hne2]
  have hsm2:SM M.next M ((y.del j7).del j8):=(by repeat' (first|assumption|exact SM_refl _ _|apply SM_put|apply SM_new|apply SM_del| ((try simp only[new_next,put_next,del_next]);omega)))
  refine zbB.pre (s2:=[(bits 2,I but),(bits 3,.ptr M.next 0 0),(bits 7,bools (onF g l)),(bits 8,bools (onA g l)),(bits 10,.int .i64 0)]) (Conv.del2 y j7 j8) ?_ ?_
  ·refine .cons (by simp) (.refl _) (by simp) (.cons (by simp) (.refl _) (by simp;omega) (.cons (d:=.ms j7 0 sn sn) (by simp) (.ms0 o7 (by simp[hne3]) (by simp[l7]) (l_map l_B _)) (b_lst b_B _) (.cons (d:=.ms j8 0 an an) (by simp) (.ms0 o8 (by simp) (by simp[l8]) (l_map l_B _)) (b_lst b_B _) (.cons (by simp) (.refl _) (by simp) .nil))))
  generalize (y.del j7).del j8=y2 at*
  clear hsm o3 o7 o8
  have hOn: ∀e∈g.es,0≤e.f∧e.f<(onF g l).length:=fun e he=>by
   have h:=hg.ok e he;have:=h.f0;have:=h.f1;rw[l7];omega
  refine .for (σ:=Unit) c_e_15.eq_1 (fun i _=>[(10,I i)]) (fun _=>y2) (fun i _=> ∀a:Nat,a<i→(a:Int)≠but→(onA g l)[a]?≠some true→ ¬zgw g.es (onF g l) a) an () (by simp) rfl (by omega) (fun i _ hi hP again=> ?_) (fun _ hP=> ?_)
  ·have step:((i:Int)≠but→(onA g l)[i]?≠some true→ ¬zgw g.es (onF g l) i)→ ∀a:Nat,a<i+1→(a:Int)≠but→(onA g l)[a]?≠some true→ ¬zgw g.es (onF g l) a:=fun h a ha=>by
    rcases Nat.lt_or_ge a i with h1|h1
    ·exact hP a h1
    ·obtain rfl:a=i:=by omega
     exact h
   have again:=fun h=>again () (step h)
   simp at again
   have hil:i<(onA g l).length:=by omega
   have hia:(i:Int)<g.ac:=by omega
   by_cases h1:(i:Int)=but
   ·have again:=again (fun h=>absurd h1 h)
    clear hk
    subst h1
    repeat' (first| (simp(disch:=((try simp only[new_next,put_next,del_next]);omega)) [o3',hia];first|done| ((first|simp only[zk,zi,zj,zg,zh,zb]|simp only[zf,ze]|rw[za]);split)|skip)| ((first|simp only[zk,zi,zj,zg,zh,zb]|simp only[zf,ze]|rw[za]);split))
    exact again
   ·by_cases ht:(onA g l)[i]=true
    ·have again:=again (fun _ h=>absurd (by rw[List.getElem?_eq_getElem hil,ht]) h)
     clear hk
     repeat' (first| (simp(disch:=((try simp only[new_next,put_next,del_next]);omega)) [h1,o3',hia,hil,ht,eB];first|done| ((first|simp only[zk,zi,zj,zg,zh,zb]|simp only[zf,ze]|rw[za]);split)|skip)| ((first|simp only[zk,zi,zj,zg,zh,zb]|simp only[zf,ze]|rw[za]);split))
     exact again
    ·have ht2:(onA g l)[i]=false:=by simpa using ht
     repeat' (first| (simp(disch:=((try simp only[new_next,put_next,del_next]);omega)) [h1,o3',hia,hil,ht2,eB];first|done| ((first|simp only[zk,zi,zj,zg,zh,zb]|simp only[zf,ze]|rw[za]);split)|skip)| ((first|simp only[zk,zi,zj,zg,zh,zb]|simp only[zf,ze]|rw[za]);split))
     refine open_ok g (onF g l) i (by omega) hOn ?_
     by_cases ho:zgw g.es (onF g l) i
     ·rw[decide_eq_false] at hk
      ·clear again
       repeat' (first| (simp(disch:=((try simp only[new_next,put_next,del_next]);omega)) [ho];first|done| ((first|simp only[zk,zi,zj,zg,zh,zb]|simp only[zf,ze]|rw[za]);split)|skip)| ((first|simp only[zk,zi,zj,zg,zh,zb]|simp only[zf,ze]|rw[za]);split))
       exact Back.plain (by simp) (by repeat' (first|assumption|exact SM_refl _ _|apply SM_put|apply SM_new|apply SM_del| ((try simp only[new_next,put_next,del_next]);omega))) hk
      ·intro hf
       obtain⟨e,he,p1,p2⟩:=ho
       obtain⟨x,hx,ex⟩:=hf e he ((onF_iff hg hE (hg.ok e he).f0).1 p1) (by rw[p2];exact h1)
       exact ht (by have:=(onA_iff hg hE (a:=i)).2 ⟨x,hx,by rw[ex,p2]⟩;rw[List.getElem?_eq_getElem hil] at this;simpa using this)
     ·have again:=again (fun _ _=>ho)
      clear hk
      repeat' (first| (simp(disch:=((try simp only[new_next,put_next,del_next]);omega)) [ho];first|done| ((first|simp only[zk,zi,zj,zg,zh,zb]|simp only[zf,ze]|rw[za]);split)|skip)| ((first|simp only[zk,zi,zj,zg,zh,zb]|simp only[zf,ze]|rw[za]);split))
      exact again
  ·rw[decide_eq_true] at hk
   ·repeat' (first| (simp(disch:=((try simp only[new_next,put_next,del_next]);omega)) [o3',han];first|done| ((first|simp only[zk,zi,zj,zg,zh,zb]|simp only[zf,ze]|rw[za]);split)|skip)| ((first|simp only[zk,zi,zj,zg,zh,zb]|simp only[zf,ze]|rw[za]);split))
    exact Back.plain (by simp) (by repeat' (first|assumption|exact SM_refl _ _|apply SM_put|apply SM_new|apply SM_del| ((try simp only[new_next,put_next,del_next]);omega))) hk
   ·intro e he hx hb
    have h1:=hg.ok e he
    have g0:=h1.a0;have g1:=h1.a1
    obtain⟨a,ha⟩:=Int.eq_ofNat_of_zero_le g0
    refine Classical.byContradiction fun hn=>hP a (by omega) (by rw[←ha];exact hb) (fun h=>hn ?_) ⟨e,he,(onF_iff hg hE h1.f0).2 hx,ha⟩
    obtain⟨x,hx,ex⟩:=(onA_iff hg hE).1 h
    exact⟨x,hx,by rw[ex,ha]⟩
end Go.Ideal.S
namespace Go.Ideal.S
open Go Go.Ideal Q Classical
attribute [local simp] decide_eq_true decide_eq_false zcJ
variable {M:VM} {k kp:DV→VM→Prop} {n0:Nat}
attribute [local simp] c_a f_a r_a_1 r_a_2 r_a_3 r_a_4 r_a_5 r_a_6 r_a_7 r_a_8 r_a_9 r_a_10 r_a_11 r_a_12 r_a_13 r_a_14 r_a_15 r_a_17 c_c f_c r_c_1 r_c_2 r_c_3 r_c_4 r_c_5 r_c_6 r_c_7 r_c_8 r_c_9 r_c_10 r_c_11
def headF (es:List Edge) (l:List Int):Int:=(eAt es (l.headD 0)).f
def zkf (g:Gr) (l:List Int) (a:Int):Prop:=l≠[]∧zcf g.es a (headF g.es l) l=headF g.es l∧zja g l a∧zgw g.es (onF g l) a
noncomputable def zjI (g:Gr) (l:List Int) (a:Int):Bool×Int:=if 4000<l.length then(false,3) else if zfv g a∧zba g.es l then(decide (zkf g l a),0) else(false,2)
def AroundP (g:Gr) (way ring:List Int) (a:Int):Prop:=0≤zcf g.es a 0 way∧if ring=[] then¬zg0 g.es (zcf g.es a 0 way) else zcf g.es a (zcf g.es a 0 way) ring=zcf g.es a 0 way∧zja g ring (-1)
noncomputable def zgY (g:Gr) (way ring:List Int) (a:Int):Bool×Int:=if 4000<way.length∨4000<ring.length then(false,3) else if zfv g a∧zba g.es way∧zba g.es ring then(decide (AroundP g way ring a),0) else(false,2)
theorem starves_ok (g:Gr) (hl:g.es.length≤1000000) (l:List Int) (a:Int) (h2:l.length≤1000000) (hk:k (.tup [.bool (zjI g l a).1,I (zjI g l a).2]) M):zt F (.fn n_a [] []) [.agg (eGr g),ints l,I a] M k kp:=by
 apply zt.back
 refine .fn zeg rfl (by simp[f_a]) ?_
 unfold zjI at hk
 by_cases h4:4000<l.length
 ·rw[if_pos h4] at hk
  repeat' (first| (simp(disch:=((try simp only[new_next,put_next,del_next]);omega)) [eGr,h4];first|done| ((first|simp only[zk,zi,zj,zg,zh,zb]|simp only[zf,ze]|rw[za]);split)|skip)| ((first|simp only[zk,zi,zj,zg,zh,zb]|simp only[zf,ze]|rw[za]);split))
  exact Back.plain (by simp) (by repeat' (first|assumption|exact SM_refl _ _|apply SM_put|apply SM_new|apply SM_del| ((try simp only[new_next,put_next,del_next]);omega))) hk
 rw[if_neg h4] at hk
 repeat' (first| (simp(disch:=((try simp only[new_next,put_next,del_next]);omega)) [eGr];first|done| ((first|simp only[zk,zi,zj,zg,zh,zb]|simp only[zf,ze]|rw[za]);split)|skip)| ((first|simp only[zk,zi,zj,zg,zh,zb]|simp only[zf,ze]|rw[za]);split))
 refine known_ok g a hl ?_
 by_cases hK:zfv g a
 ·repeat' (first| (simp(disch:=((try simp only[new_next,put_next,del_next]);omega)) [hK,eGr];first|done| ((first|simp only[zk,zi,zj,zg,zh,zb]|simp only[zf,ze]|rw[za]);split)|skip)| ((first|simp only[zk,zi,zj,zg,zh,zb]|simp only[zf,ze]|rw[za]);split))
  refine edges_ok g l hl h2 ?_
  by_cases hE:zba g.es l
  ·rw[if_pos ⟨hK,hE⟩] at hk
   cases l with
   |nil=>
    rw[decide_eq_false (fun h=>h.1 rfl)] at hk
    repeat' (first| (simp(disch:=((try simp only[new_next,put_next,del_next]);omega)) [hE,eGr];first|done| ((first|simp only[zk,zi,zj,zg,zh,zb]|simp only[zf,ze]|rw[za]);split)|skip)| ((first|simp only[zk,zi,zj,zg,zh,zb]|simp only[zf,ze]|rw[za]);split))
    exact Back.plain (by simp) (by repeat' (first|assumption|exact SM_refl _ _|apply SM_put|apply SM_new|apply SM_del| ((try simp only[new_next,put_next,del_next]);omega))) hk
   |cons x0 l0=>
    obtain⟨z0,z1⟩:=hE x0 (by simp)
    obtain⟨c,rfl⟩:=Int.eq_ofNat_of_zero_le z0
    have hcl:c<g.es.length:=by omega
    have hh:headF g.es ((c:Int)::l0)=g.es[c].f:=by simp[headF,zeT hcl]
    repeat' (first| (simp(disch:=((try simp only[new_next,put_next,del_next]);omega)) [hE,eGr,eInt,zJ,hcl];first|done| ((first|simp only[zk,zi,zj,zg,zh,zb]|simp only[zf,ze]|rw[za]);split)|skip)| ((first|simp only[zk,zi,zj,zg,zh,zb]|simp only[zf,ze]|rw[za]);split))
    have hf0:=(hK.1.ok _ (List.getElem_mem hcl)).f0
    refine path_ok g _ a _ hl h2 hE ?_
    by_cases hp:zcf g.es a g.es[c].f ((c:Int)::l0)=g.es[c].f
    ·repeat' (first| (simp(disch:=((try simp only[new_next,put_next,del_next]);omega)) [hp,eGr];first|done| ((first|simp only[zk,zi,zj,zg,zh,zb]|simp only[zf,ze]|rw[za]);split)|skip)| ((first|simp only[zk,zi,zj,zg,zh,zb]|simp only[zf,ze]|rw[za]);split))
     refine fair_ok g hK.1 _ a h2 hE ?_
     by_cases hF:zja g ((c:Int)::l0) a
     ·have hS:zkf g ((c:Int)::l0) a↔zgw g.es (onF g ((c:Int)::l0)) a:=⟨fun h=>h.2.2.2,fun h=>⟨by simp,by rw[hh];exact hp,hF,h⟩⟩
      have e:decide (zgw g.es (onF g ((c:Int)::l0)) a)=decide (zkf g ((c:Int)::l0) a):=decide_eq_decide.2 hS.symm
      have hk2:k (.tup [.bool (decide (zgw g.es (onF g ((c:Int)::l0)) a)),I 0]) M:=by rw[e];exact hk
      clear e hk hS
      have hg:=hK.1
      have g1:=hg.s1;have g2:=hg.s2
      obtain⟨sn,hsn⟩:=Int.eq_ofNat_of_zero_le (show 0≤g.st by omega)
      have hz1:sn≤1073741824:=by omega
      repeat' (first| (simp(disch:=((try simp only[new_next,put_next,del_next]);omega)) [hF,eGr,hsn,hz1];first|done| ((first|simp only[zk,zi,zj,zg,zh,zb]|simp only[zf,ze]|rw[za]);split)|skip)| ((first|simp only[zk,zi,zj,zg,zh,zb]|simp only[zf,ze]|rw[za]);split))
      generalize hl1:(c:Int)::l0=l at*
      have hrep: ∀n:Nat,List.replicate n [DV.bool false]=(List.replicate n false).map eB:=fun n=>by simp[eB]
      refine .gen (Q:=fun y=>FairM M y g M.next (M.next+1) (M.next+1) (zbS (fun x=>(eAt g.es x).f) (l.take 0) (List.replicate sn false)) (zbS (fun x=>(eAt g.es x).f) (l.take 0) (List.replicate sn false))) ⟨(by repeat' (first|assumption|exact SM_refl _ _|apply SM_put|apply SM_new|apply SM_del| ((try simp only[new_next,put_next,del_next]);omega))),by simp;omega,by simp[hsn]<;>omega,by simp[hrep,zbS],by simp[hrep,zbS]⟩ fun y0 hy0=> ?_
      have hne1:M.next≠M.next+1:=by omega
      generalize M.next+1=j7 at*
      refine .for (σ:=VM) c_a_16.eq_1 (fun i _=>[(10,I i)]) (fun y=>y) (fun i y=>FairM M y g M.next j7 j7 (zbS (fun x=>(eAt g.es x).f) (l.take i) (List.replicate sn false)) (zbS (fun x=>(eAt g.es x).f) (l.take i) (List.replicate sn false))) l.length y0 (by simp[←hl1]) rfl hy0 (fun i y hi hP again=> ?_) (fun y hP=> ?_)
      ·obtain⟨hsm,hnx,o3,o7,o8⟩:=hP
       obtain⟨x0,x1⟩:=hE _ (List.getElem_mem hi)
       obtain⟨c,hc⟩:=Int.eq_ofNat_of_zero_le x0
       have hcl:c<g.es.length:=by omega
       obtain⟨q1,q2,-,-,q5,q6⟩:=hg.ok _ (List.getElem_mem hcl)
       obtain⟨u,hu⟩:=Int.eq_ofNat_of_zero_le q1
       have hus:u<sn:=by omega
       have again:=fun M' (h:FairM M M' g M.next j7 j7 _ _)=>again M' h
       rw[zfa _ hi,hc,zeT hcl,hu] at again
       simp at again
       generalize hb7:zbS (fun x=>(eAt g.es x).f) (l.take i) (List.replicate sn false)=b7 at*
       have l7:b7.length=sn:=by rw[←hb7];simp
       clear hk2
       repeat' (first| (simp(disch:=((try simp only[new_next,put_next,del_next]);omega)) [o3,o7,hi,hc,hcl,hu,eInt,zJ,eB,hus,l7,hne1];first|done| ((first|simp only[zk,zi,zj,zg,zh,zb]|simp only[zf,ze]|rw[za]);split)|skip)| ((first|simp only[zk,zi,zj,zg,zh,zb]|simp only[zf,ze]|rw[za]);split))
       exact again _ ⟨(by repeat' (first|assumption|exact SM_refl _ _|apply SM_put|apply SM_new|apply SM_del| ((try simp only[new_next,put_next,del_next]);omega))),by simp;omega,by simp[hne1,o3,hsn],by simp[List.map_set,eB],by simp[List.map_set,eB]⟩
      ·rw[List.take_length] at hP
       have e7:zbS (fun x=>(eAt g.es x).f) l (List.replicate sn false)=onF g l:=by unfold onF;rw[hsn];rfl
       rw[e7] at hP
       obtain⟨hsm,hnx,o3,o7,o8⟩:=hP
       have l7:(onF g l).length=sn:=by simp[onF,hsn]
       repeat' (first| (simp(disch:=((try simp only[new_next,put_next,del_next]);omega)) [o3];first|done| ((first|simp only[zk,zi,zj,zg,zh,zb]|simp only[zf,ze]|rw[za]);split)|skip)| ((first|simp only[zk,zi,zj,zg,zh,zb]|simp only[zf,ze]|rw[za]);split))
       refine .frz [.agg (eGr g)] [I a] o7 (by simp[l7]) (l_map l_B _) (by simp) (fun x hx=> ?_) ?_
       ·simp at hx
        rcases hx with rfl|rfl|rfl
        ·exact .agg (b_Gr g)
        ·exact b_lst b_B _
        ·simp
       refine open_ok g _ a hl (fun e he=> ?_) ?_
       ·have h:=hg.ok e he;have:=h.f0;have:=h.f1;rw[l7];omega
       repeat' (first| (simp(disch:=((try simp only[new_next,put_next,del_next]);omega));first|done| ((first|simp only[zk,zi,zj,zg,zh,zb]|simp only[zf,ze]|rw[za]);split)|skip)| ((first|simp only[zk,zi,zj,zg,zh,zb]|simp only[zf,ze]|rw[za]);split))
       exact Back.plain (by simp) (by repeat' (first|assumption|exact SM_refl _ _|apply SM_put|apply SM_new|apply SM_del| ((try simp only[new_next,put_next,del_next]);omega))) hk2
     ·rw[decide_eq_false (fun h=>hF h.2.2.1)] at hk
      repeat' (first| (simp(disch:=((try simp only[new_next,put_next,del_next]);omega)) [hF,eGr];first|done| ((first|simp only[zk,zi,zj,zg,zh,zb]|simp only[zf,ze]|rw[za]);split)|skip)| ((first|simp only[zk,zi,zj,zg,zh,zb]|simp only[zf,ze]|rw[za]);split))
      exact Back.plain (by simp) (by repeat' (first|assumption|exact SM_refl _ _|apply SM_put|apply SM_new|apply SM_del| ((try simp only[new_next,put_next,del_next]);omega))) hk
    ·rw[decide_eq_false (fun h=>hp (by rw[←hh];exact h.2.1))] at hk
     repeat' (first| (simp(disch:=((try simp only[new_next,put_next,del_next]);omega)) [hp,eGr];first|done| ((first|simp only[zk,zi,zj,zg,zh,zb]|simp only[zf,ze]|rw[za]);split)|skip)| ((first|simp only[zk,zi,zj,zg,zh,zb]|simp only[zf,ze]|rw[za]);split))
     exact Back.plain (by simp) (by repeat' (first|assumption|exact SM_refl _ _|apply SM_put|apply SM_new|apply SM_del| ((try simp only[new_next,put_next,del_next]);omega))) hk
  ·rw[if_neg (fun h=>hE h.2)] at hk
   repeat' (first| (simp(disch:=((try simp only[new_next,put_next,del_next]);omega)) [hE,eGr];first|done| ((first|simp only[zk,zi,zj,zg,zh,zb]|simp only[zf,ze]|rw[za]);split)|skip)| ((first|simp only[zk,zi,zj,zg,zh,zb]|simp only[zf,ze]|rw[za]);split))
   exact Back.plain (by simp) (by repeat' (first|assumption|exact SM_refl _ _|apply SM_put|apply SM_new|apply SM_del| ((try simp only[new_next,put_next,del_next]);omega))) hk
 ·rw[if_neg (fun h=>hK h.1)] at hk
  repeat' (first| (simp(disch:=((try simp only[new_next,put_next,del_next]);omega)) [hK,eGr];first|done| ((first|simp only[zk,zi,zj,zg,zh,zb]|simp only[zf,ze]|rw[za]);split)|skip)| ((first|simp only[zk,zi,zj,zg,zh,zb]|simp only[zf,ze]|rw[za]);split))
  exact Back.plain (by simp) (by repeat' (first|assumption|exact SM_refl _ _|apply SM_put|apply SM_new|apply SM_del| ((try simp only[new_next,put_next,del_next]);omega))) hk
theorem isAround_ok (g:Gr) (hl:g.es.length≤1000000) (way ring:List Int) (a:Int) (h1:way.length≤1000000) (h2:ring.length≤1000000) (hk:k (.tup [.bool (zgY g way ring a).1,I (zgY g way ring a).2]) M):zt F (.fn n_c [] []) [.agg (eGr g),ints way,ints ring,I a] M k kp:=by
 apply zt.back
 refine .fn zdH rfl (by simp[f_c]) ?_
 unfold zgY at hk
 by_cases h4:4000<way.length∨4000<ring.length
 ·rw[if_pos h4] at hk
  repeat' (first| (simp(disch:=((try simp only[new_next,put_next,del_next]);omega)) [eGr];first|done| ((first|simp only[zk,zi,zj,zg,zh,zb]|simp only[zf,ze]|rw[za]);split)|skip)| ((first|simp only[zk,zi,zj,zg,zh,zb]|simp only[zf,ze]|rw[za]);split))
  all_goals first|omega|exact Back.plain (by simp) (by repeat' (first|assumption|exact SM_refl _ _|apply SM_put|apply SM_new|apply SM_del| ((try simp only[new_next,put_next,del_next]);omega))) hk
 rw[if_neg h4] at hk
 have h5: ¬4000<(way.length:Int):=by omega
 have h6: ¬4000<(ring.length:Int):=by omega
 repeat' (first| (simp(disch:=((try simp only[new_next,put_next,del_next]);omega)) [eGr,h5,h6];first|done| ((first|simp only[zk,zi,zj,zg,zh,zb]|simp only[zf,ze]|rw[za]);split)|skip)| ((first|simp only[zk,zi,zj,zg,zh,zb]|simp only[zf,ze]|rw[za]);split))
 refine known_ok g a hl ?_
 by_cases hK:zfv g a
 ·repeat' (first| (simp(disch:=((try simp only[new_next,put_next,del_next]);omega)) [hK,eGr];first|done| ((first|simp only[zk,zi,zj,zg,zh,zb]|simp only[zf,ze]|rw[za]);split)|skip)| ((first|simp only[zk,zi,zj,zg,zh,zb]|simp only[zf,ze]|rw[za]);split))
  refine edges_ok g way hl h1 ?_
  by_cases hE:zba g.es way
  ·repeat' (first| (simp(disch:=((try simp only[new_next,put_next,del_next]);omega)) [hE,eGr];first|done| ((first|simp only[zk,zi,zj,zg,zh,zb]|simp only[zf,ze]|rw[za]);split)|skip)| ((first|simp only[zk,zi,zj,zg,zh,zb]|simp only[zf,ze]|rw[za]);split))
   refine edges_ok g ring hl h2 ?_
   by_cases hE2:zba g.es ring
   ·rw[if_pos ⟨hK,hE,hE2⟩] at hk
    repeat' (first| (simp(disch:=((try simp only[new_next,put_next,del_next]);omega)) [hE2,eGr];first|done| ((first|simp only[zk,zi,zj,zg,zh,zb]|simp only[zf,ze]|rw[za]);split)|skip)| ((first|simp only[zk,zi,zj,zg,zh,zb]|simp only[zf,ze]|rw[za]);split))
    refine path_ok g 0 a way hl h1 hE ?_
    unfold AroundP at hk
    generalize zcf g.es a 0 way=e at*
    by_cases he:0≤e
    ·cases ring with
     |nil=>
      rw[if_pos rfl] at hk
      repeat' (first| (simp(disch:=((try simp only[new_next,put_next,del_next]);omega)) [eGr];first|done| ((first|simp only[zk,zi,zj,zg,zh,zb]|simp only[zf,ze]|rw[za]);split)|skip)| ((first|simp only[zk,zi,zj,zg,zh,zb]|simp only[zf,ze]|rw[za]);split))
      refine starts_ok g e hl ?_
      by_cases hs:zg0 g.es e
      ·rw[dF (fun h=>h.2 hs)] at hk
       repeat' (first| (simp(disch:=((try simp only[new_next,put_next,del_next]);omega)) [hs];first|done| ((first|simp only[zk,zi,zj,zg,zh,zb]|simp only[zf,ze]|rw[za]);split)|skip)| ((first|simp only[zk,zi,zj,zg,zh,zb]|simp only[zf,ze]|rw[za]);split))
       exact Back.plain (by simp) (by repeat' (first|assumption|exact SM_refl _ _|apply SM_put|apply SM_new|apply SM_del| ((try simp only[new_next,put_next,del_next]);omega))) hk
      ·rw[dT ⟨he,hs⟩] at hk
       repeat' (first| (simp(disch:=((try simp only[new_next,put_next,del_next]);omega)) [hs];first|done| ((first|simp only[zk,zi,zj,zg,zh,zb]|simp only[zf,ze]|rw[za]);split)|skip)| ((first|simp only[zk,zi,zj,zg,zh,zb]|simp only[zf,ze]|rw[za]);split))
       exact Back.plain (by simp) (by repeat' (first|assumption|exact SM_refl _ _|apply SM_put|apply SM_new|apply SM_del| ((try simp only[new_next,put_next,del_next]);omega))) hk
     |cons x0 l0=>
      rw[if_neg (by simp)] at hk
      generalize hl1:x0::l0=l at*
      have hll:l≠[]:=by rw[←hl1];simp
      repeat' (first| (simp(disch:=((try simp only[new_next,put_next,del_next]);omega)) [eGr,hll];first|done| ((first|simp only[zk,zi,zj,zg,zh,zb]|simp only[zf,ze]|rw[za]);split)|skip)| ((first|simp only[zk,zi,zj,zg,zh,zb]|simp only[zf,ze]|rw[za]);split))
      refine path_ok g e a l hl h2 hE2 ?_
      by_cases hp:zcf g.es a e l=e
      ·repeat' (first| (simp(disch:=((try simp only[new_next,put_next,del_next]);omega)) [hp,eGr];first|done| ((first|simp only[zk,zi,zj,zg,zh,zb]|simp only[zf,ze]|rw[za]);split)|skip)| ((first|simp only[zk,zi,zj,zg,zh,zb]|simp only[zf,ze]|rw[za]);split))
       refine fair_ok g hK.1 l (-1) h2 hE2 ?_
       by_cases hF:zja g l (-1)
       ·rw[dT ⟨he,hp,hF⟩] at hk
        repeat' (first| (simp(disch:=((try simp only[new_next,put_next,del_next]);omega)) [hF];first|done| ((first|simp only[zk,zi,zj,zg,zh,zb]|simp only[zf,ze]|rw[za]);split)|skip)| ((first|simp only[zk,zi,zj,zg,zh,zb]|simp only[zf,ze]|rw[za]);split))
        exact Back.plain (by simp) (by repeat' (first|assumption|exact SM_refl _ _|apply SM_put|apply SM_new|apply SM_del| ((try simp only[new_next,put_next,del_next]);omega))) hk
       ·rw[dF (fun h=>hF h.2.2)] at hk
        repeat' (first| (simp(disch:=((try simp only[new_next,put_next,del_next]);omega)) [hF];first|done| ((first|simp only[zk,zi,zj,zg,zh,zb]|simp only[zf,ze]|rw[za]);split)|skip)| ((first|simp only[zk,zi,zj,zg,zh,zb]|simp only[zf,ze]|rw[za]);split))
        exact Back.plain (by simp) (by repeat' (first|assumption|exact SM_refl _ _|apply SM_put|apply SM_new|apply SM_del| ((try simp only[new_next,put_next,del_next]);omega))) hk
      ·rw[dF (fun h=>hp h.2.1)] at hk
       repeat' (first| (simp(disch:=((try simp only[new_next,put_next,del_next]);omega)) [hp,eGr];first|done| ((first|simp only[zk,zi,zj,zg,zh,zb]|simp only[zf,ze]|rw[za]);split)|skip)| ((first|simp only[zk,zi,zj,zg,zh,zb]|simp only[zf,ze]|rw[za]);split))
       exact Back.plain (by simp) (by repeat' (first|assumption|exact SM_refl _ _|apply SM_put|apply SM_new|apply SM_del| ((try simp only[new_next,put_next,del_next]);omega))) hk
    ·rw[dF (fun h=>he h.1)] at hk
     repeat' (first| (simp(disch:=((try simp only[new_next,put_next,del_next]);omega)) [eGr];first|done| ((first|simp only[zk,zi,zj,zg,zh,zb]|simp only[zf,ze]|rw[za]);split)|skip)| ((first|simp only[zk,zi,zj,zg,zh,zb]|simp only[zf,ze]|rw[za]);split))
     exact Back.plain (by simp) (by repeat' (first|assumption|exact SM_refl _ _|apply SM_put|apply SM_new|apply SM_del| ((try simp only[new_next,put_next,del_next]);omega))) hk
   ·rw[if_neg (fun h=>hE2 h.2.2)] at hk
    repeat' (first| (simp(disch:=((try simp only[new_next,put_next,del_next]);omega)) [hE2,eGr];first|done| ((first|simp only[zk,zi,zj,zg,zh,zb]|simp only[zf,ze]|rw[za]);split)|skip)| ((first|simp only[zk,zi,zj,zg,zh,zb]|simp only[zf,ze]|rw[za]);split))
    exact Back.plain (by simp) (by repeat' (first|assumption|exact SM_refl _ _|apply SM_put|apply SM_new|apply SM_del| ((try simp only[new_next,put_next,del_next]);omega))) hk
  ·rw[if_neg (fun h=>hE h.2.1)] at hk
   repeat' (first| (simp(disch:=((try simp only[new_next,put_next,del_next]);omega)) [hE,eGr];first|done| ((first|simp only[zk,zi,zj,zg,zh,zb]|simp only[zf,ze]|rw[za]);split)|skip)| ((first|simp only[zk,zi,zj,zg,zh,zb]|simp only[zf,ze]|rw[za]);split))
   exact Back.plain (by simp) (by repeat' (first|assumption|exact SM_refl _ _|apply SM_put|apply SM_new|apply SM_del| ((try simp only[new_next,put_next,del_next]);omega))) hk
 ·rw[if_neg (fun h=>hK h.1)] at hk
  repeat' (first| (simp(disch:=((try simp only[new_next,put_next,del_next]);omega)) [hK,eGr];first|done| ((first|simp only[zk,zi,zj,zg,zh,zb]|simp only[zf,ze]|rw[za]);split)|skip)| ((first|simp only[zk,zi,zj,zg,zh,zb]|simp only[zf,ze]|rw[za]);split))
  exact Back.plain (by simp) (by repeat' (first|assumption|exact SM_refl _ _|apply SM_put|apply SM_new|apply SM_del| ((try simp only[new_next,put_next,del_next]);omega))) hk
end Go.Ideal.S
namespace Go.Ideal.S
open Go Go.Ideal Q Classical
attribute [local simp] decide_eq_true decide_eq_false zcJ
variable {M:VM} {k kp:DV→VM→Prop} {n0:Nat}
attribute [local simp] c_t f_t r_t_1 r_t_2 r_t_3 r_t_4 r_t_5 r_t_6 r_t_7 r_t_8 r_t_10 c_G f_G r_G_1 r_G_2 c_y f_y r_y_1 r_y_2 r_y_3 r_y_4 r_y_5 r_y_6 r_y_7 r_y_8 r_y_9 r_y_11 c_D f_D r_D_1 r_D_2 r_D_3 r_D_4 c_E f_E r_E_1 r_E_2 c_F f_F r_F_1
def orR:List Int→Int
 | []=>0
 |x::r=>if x=0 then orR r else x
theorem or_ok (l:List Int) (h2:l.length≤1000000) (hk:k (I (orR l)) M):zt F (.fn n_t [] []) [ints l] M k kp:=by
 apply zt.back
 refine .fn h_cmp_Or_int_ rfl (by simp[f_t]) ?_
 repeat' (first| (simp(disch:=((try simp only[new_next,put_next,del_next]);omega));first|done| ((first|simp only[zk,zi,zj,zg,zh,zb]|simp only[zf,ze]|rw[za]);split)|skip)| ((first|simp only[zk,zi,zj,zg,zh,zb]|simp only[zf,ze]|rw[za]);split))
 refine .for (σ:=Unit) c_t_9.eq_1 (fun i _=>[(8,I i)]) (fun _=>M) (fun i _=>orR (l.drop i)=orR l) l.length () (by simp) rfl (by simp) (fun i _ hi hP again=> ?_) (fun _ hP=> ?_)
 ·rw[List.drop_eq_getElem_cons hi,orR] at hP
  by_cases h0:l[i]=0
  ·rw[if_pos h0] at hP
   have again:=again () hP
   simp at again
   clear hk
   repeat' (first| (simp(disch:=((try simp only[new_next,put_next,del_next]);omega)) [hi,eInt,h0];first|done| ((first|simp only[zk,zi,zj,zg,zh,zb]|simp only[zf,ze]|rw[za]);split)|skip)| ((first|simp only[zk,zi,zj,zg,zh,zb]|simp only[zf,ze]|rw[za]);split))
   exact again
  ·rw[if_neg h0] at hP
   rw[←hP] at hk
   clear again hP
   repeat' (first| (simp(disch:=((try simp only[new_next,put_next,del_next]);omega)) [hi,eInt,h0];first|done| ((first|simp only[zk,zi,zj,zg,zh,zb]|simp only[zf,ze]|rw[za]);split)|skip)| ((first|simp only[zk,zi,zj,zg,zh,zb]|simp only[zf,ze]|rw[za]);split))
   exact Back.plain (by simp) (by repeat' (first|assumption|exact SM_refl _ _|apply SM_put|apply SM_new|apply SM_del| ((try simp only[new_next,put_next,del_next]);omega))) hk
 ·rw[List.drop_length,orR] at hP
  rw[←hP] at hk
  repeat' (first| (simp(disch:=((try simp only[new_next,put_next,del_next]);omega));first|done| ((first|simp only[zk,zi,zj,zg,zh,zb]|simp only[zf,ze]|rw[za]);split)|skip)| ((first|simp only[zk,zi,zj,zg,zh,zb]|simp only[zf,ze]|rw[za]);split))
  exact Back.plain (by simp) (by repeat' (first|assumption|exact SM_refl _ _|apply SM_put|apply SM_new|apply SM_del| ((try simp only[new_next,put_next,del_next]);omega))) hk
def ordR (a b:Edge):Int:=orR [a.f - b.f,a.a - b.a,a.t - b.t]
theorem ordR_bef (a b:Edge):0≤ordR a b↔ ¬bef a b:=by
 have e1:(a.f - b.f=0)↔a.f=b.f:=by omega
 have e2:(a.a - b.a=0)↔a.a=b.a:=by omega
 have e3:(a.t - b.t=0)↔a.t=b.t:=by omega
 unfold ordR bef
 simp only[orR,e1,e2,e3]
 repeat' split
 all_goals omega
structure Small (e:Edge):Prop where
 f0: -1000≤e.f
 f1:e.f≤1000
 a0: -1000≤e.a
 a1:e.a≤1000
 t0: -1000≤e.t
 t1:e.t≤1000
theorem order_ok (a b:Edge) (ha:Small a) (hb:Small b) (hk:k (I (ordR a b)) M):zt F (.fn n_G [] []) [.agg (zJ a),.agg (zJ b)] M k kp:=by
 obtain⟨p1,p2,p3,p4,p5,p6⟩:=ha
 obtain⟨q1,q2,q3,q4,q5,q6⟩:=hb
 apply zt.back
 refine .fn h_jam_order rfl (by simp[f_G]) ?_
 repeat' (first| (simp(disch:=((try simp only[new_next,put_next,del_next]);omega)) [zJ,zch];first|done| ((first|simp only[zk,zi,zj,zg,zh,zb]|simp only[zf,ze]|rw[za]);split)|skip)| ((first|simp only[zk,zi,zj,zg,zh,zb]|simp only[zf,ze]|rw[za]);split))
 refine .frz [] [] (rs:=[a.f - b.f,a.a - b.a,a.t - b.t].map eInt) (by simp[eInt];rfl) (by simp) (l_map l_Int _) (by simp) (fun x hx=> ?_) ?_
 ·simp at hx;subst hx;exact .lst (by simp[eInt])
 refine or_ok _ (by simp) ?_
 repeat' (first| (simp(disch:=((try simp only[new_next,put_next,del_next]);omega));first|done| ((first|simp only[zk,zi,zj,zg,zh,zb]|simp only[zf,ze]|rw[za]);split)|skip)| ((first|simp only[zk,zi,zj,zg,zh,zb]|simp only[zf,ze]|rw[za]);split))
 exact Back.plain (by simp) (by repeat' (first|assumption|exact SM_refl _ _|apply SM_put|apply SM_new|apply SM_del| ((try simp only[new_next,put_next,del_next]);omega))) hk
theorem fine_ok (g:Gr) (hl:g.es.length≤1000000) (hk: ∀b:Bool,(b=true↔zhx g)→k (.bool b) M):zt F (.fn n_y [] []) [.agg (eGr g)] M k kp:=by
 apply zt.back
 refine .fn h_jam_fine rfl (by simp[f_y]) ?_
 by_cases hc:g.st<1∨60<g.st∨g.ac<0∨40<g.ac∨400<(g.es.length:Int)
 ·have hk:=hk false ⟨fun h=>by(cases h),fun h=>by(have:=h.s1;have:=h.s2;have:=h.a1;have:=h.a2;have:=h.el;omega)⟩
  repeat' (first| (simp(disch:=((try simp only[new_next,put_next,del_next]);omega)) [eGr];first|done| ((first|simp only[zk,zi,zj,zg,zh,zb]|simp only[zf,ze]|rw[za]);split)|skip)| ((first|simp only[zk,zi,zj,zg,zh,zb]|simp only[zf,ze]|rw[za]);split))
  all_goals first|omega|exact Back.plain (by simp) (by repeat' (first|assumption|exact SM_refl _ _|apply SM_put|apply SM_new|apply SM_del| ((try simp only[new_next,put_next,del_next]);omega))) hk
 have h1: ¬g.st<1:=by omega
 have h2: ¬60<g.st:=by omega
 have h3: ¬g.ac<0:=by omega
 have h4: ¬40<g.ac:=by omega
 have h5: ¬400<(g.es.length:Int):=by omega
 clear hc
 obtain⟨M1,hM1⟩: ∃M1,M1=M.new (.rows false 3 [[I g.st,I g.ac,.lst 3 (g.es.map zJ)]]):=⟨_,rfl⟩
 have ho:M1.obj M.next=some (.rows false 3 [[I g.st,I g.ac,.lst 3 (g.es.map zJ)]]):=by simp[hM1]
 have hs:SM M.next M M1:=by simp[hM1]
 have hn:M.next<M1.next:=by simp[hM1]
 have hM:=hM1.symm
 clear hM1
 repeat' (first| (simp(disch:=((try simp only[new_next,put_next,del_next]);omega)) [eGr,h1,h2,h3,h4,h5,hM,ho];first|done| ((first|simp only[zk,zi,zj,zg,zh,zb]|simp only[zf,ze]|rw[za]);split)|skip)| ((first|simp only[zk,zi,zj,zg,zh,zb]|simp only[zf,ze]|rw[za]);split))
 clear hM
 refine .for (σ:=VM) c_y_10.eq_1 (fun i _=>[(32,I i)]) (fun y=>y) (fun i y=>(SM M1.next M1 y∧M1.next≤y.next)∧zfT i g.es (EdgeOk g)∧SrtTo i g.es) g.es.length M1 (by simp) rfl ⟨⟨SM_refl _ _,Nat.le_refl _⟩,.zero,fun q h hq=>by omega⟩ (fun i y hi hP again=> ?_) (fun y hP=> ?_)
 ·obtain⟨⟨hy,hyn⟩,hA,hS⟩:=hP
  have ho':=zbr hy hn ho
  have hsy:SM M.next M y:=fun j hj=>(hy j (by omega)).trans (hs j hj)
  by_cases hc:EdgeOk g g.es[i]
  ·have q1:=hc.f0;have q2:=hc.f1;have q3:=hc.t0;have q4:=hc.t1;have q5:=hc.a0;have q6:=hc.a1
   have hA2:=hA.succ hi hc
   rcases Nat.eq_zero_or_pos i with rfl|h0
   ·have again:=fun M' h=>again M' ⟨h,hA2,hS.succ hi (by omega)⟩
    simp at again
    clear hk
    repeat' (first| (simp(disch:=((try simp only[new_next,put_next,del_next]);omega)) [ho',hi,zJ];first|done| ((first|simp only[zk,zi,zj,zg,zh,zb]|simp only[zf,ze]|rw[za]);split)|skip)| ((first|simp only[zk,zi,zj,zg,zh,zb]|simp only[zf,ze]|rw[za]);split))
    exact again _ (by repeat' (first|assumption|exact SM_refl _ _|apply SM_put|apply SM_new|apply SM_del| ((try simp only[new_next,put_next,del_next]);omega))) (by simp;omega)
   ·obtain⟨m,hm1⟩: ∃m,i - 1=m:=⟨_,rfl⟩
    have hm:m<g.es.length:=by omega
    have em:(i:Int) - 1=(m:Int):=by omega
    have hme:=hA g.es[m] (List.mem_take_iff_getElem.2 ⟨m,by omega,rfl⟩)
    have hsm1:Small g.es[m]:=by obtain⟨_,_,_,_,_,_⟩:=hme;constructor<;>omega
    have hsm2:Small g.es[i]:=by constructor<;>omega
    have hob:=ordR_bef g.es[m] g.es[i]
    by_cases hb:bef g.es[m] g.es[i]
    ·have again:=fun M' h=>again M' ⟨h,hA2,hS.succ hi (fun _=>by simpa only[hm1] using hb)⟩
     have hob2:ordR g.es[m] g.es[i]<0:=Int.not_le.1 fun h=>hob.1 h hb
     simp at again
     clear hk
     repeat' (first| (simp(disch:=((try simp only[new_next,put_next,del_next]);omega)) [ho',hi,hm,em,zJ];first|done| ((first|simp only[zk,zi,zj,zg,zh,zb]|simp only[zf,ze]|rw[za]);split)|skip)| ((first|simp only[zk,zi,zj,zg,zh,zb]|simp only[zf,ze]|rw[za]);split))
     refine order_ok g.es[m] g.es[i] hsm1 hsm2 ?_
     repeat' (first| (simp(disch:=((try simp only[new_next,put_next,del_next]);omega));first|done| ((first|simp only[zk,zi,zj,zg,zh,zb]|simp only[zf,ze]|rw[za]);split)|skip)| ((first|simp only[zk,zi,zj,zg,zh,zb]|simp only[zf,ze]|rw[za]);split))
     exact again _ (by repeat' (first|assumption|exact SM_refl _ _|apply SM_put|apply SM_new|apply SM_del| ((try simp only[new_next,put_next,del_next]);omega))) (by simp;omega)
    ·have hk:=hk false ⟨fun h=>by(cases h),fun h=>absurd (h.srt m (by omega) (by omega)) (fun q=>hb (by simpa only[show m+1=i by omega] using q))⟩
     have hob2:=hob.2 hb
     clear again
     repeat' (first| (simp(disch:=((try simp only[new_next,put_next,del_next]);omega)) [ho',hi,hm,em,zJ];first|done| ((first|simp only[zk,zi,zj,zg,zh,zb]|simp only[zf,ze]|rw[za]);split)|skip)| ((first|simp only[zk,zi,zj,zg,zh,zb]|simp only[zf,ze]|rw[za]);split))
     refine order_ok g.es[m] g.es[i] hsm1 hsm2 ?_
     repeat' (first| (simp(disch:=((try simp only[new_next,put_next,del_next]);omega));first|done| ((first|simp only[zk,zi,zj,zg,zh,zb]|simp only[zf,ze]|rw[za]);split)|skip)| ((first|simp only[zk,zi,zj,zg,zh,zb]|simp only[zf,ze]|rw[za]);split))
     exact Back.plain (by simp) (by repeat' (first|assumption|exact SM_refl _ _|apply SM_put|apply SM_new|apply SM_del| ((try simp only[new_next,put_next,del_next]);omega))) hk
  ·have hk:=hk false ⟨fun h=>by(cases h),fun h=>absurd (h.ok _ (List.getElem_mem hi)) hc⟩
   have hc':g.es[i].f<0∨g.st≤g.es[i].f∨g.es[i].t<0∨g.st≤g.es[i].t∨g.es[i].a<0∨g.ac≤g.es[i].a:=Classical.byContradiction fun h=>hc ⟨by omega,by omega,by omega,by omega,by omega,by omega⟩
   clear again hc
   repeat' (first| (simp(disch:=((try simp only[new_next,put_next,del_next]);omega)) [ho',hi,zJ];first|done| ((first|simp only[zk,zi,zj,zg,zh,zb]|simp only[zf,ze]|rw[za]);split)|skip)| ((first|simp only[zk,zi,zj,zg,zh,zb]|simp only[zf,ze]|rw[za]);split))
   all_goals first|omega|exact Back.plain (by simp) (by repeat' (first|assumption|exact SM_refl _ _|apply SM_put|apply SM_new|apply SM_del| ((try simp only[new_next,put_next,del_next]);omega))) hk
 ·obtain⟨⟨hy,hyn⟩,hA,hS⟩:=hP
  have ho':=zbr hy hn ho
  have hsy:SM M.next M y:=fun j hj=>(hy j (by omega)).trans (hs j hj)
  have hk:=hk true ⟨fun _=>⟨by omega,by omega,by omega,by omega,by omega,hA.all,hS⟩,fun _=>rfl⟩
  repeat' (first| (simp(disch:=((try simp only[new_next,put_next,del_next]);omega)) [ho'];first|done| ((first|simp only[zk,zi,zj,zg,zh,zb]|simp only[zf,ze]|rw[za]);split)|skip)| ((first|simp only[zk,zi,zj,zg,zh,zb]|simp only[zf,ze]|rw[za]);split))
  exact Back.plain (by simp) (by repeat' (first|assumption|exact SM_refl _ _|apply SM_put|apply SM_new|apply SM_del| ((try simp only[new_next,put_next,del_next]);omega))) hk
abbrev setD (m:Nat):DV:=.agg [.int .u64 (m:Int)]
abbrev setO (m:Nat):MO:=.rows false 1 [[.int .u64 (m:Int)]]
theorem has_ok (m n:Nat) (hm:m<2^64) (hn:n<64) (hk:k (.bool (m.testBit n)) M):zt F (.fn n_E [] []) [setD m,I n] M k kp:=by
 apply zt.back
 refine .fn h_jam_set_has rfl (by simp[f_E]) ?_
 have h1:=bin_quo64 (ek:=.other) (n:=(n:Int)) (by omega) (by omega)
 have h2:=bin_rem64 (ek:=.other) (n:=(n:Int)) (by omega) (by omega)
 have h3:=bin_shr_u (ek:=.other) m n hn
 have hb:m >>> n<2^64:=Nat.lt_of_le_of_lt (Nat.shiftRight_le m n) hm
 have h4:binD .and .other (.int .u64 ((m >>> n:Nat):Int)) (.int .u64 1)=some (.int .u64 ((m >>> n &&& 1:Nat):Int)):=bin_and_u hb (show 1<2^64 by omega)
 have h5:=bin_eql_u (ek:=.other) ((m >>> n &&& 1:Nat):Int) 1
 have e:decide ((((m >>> n) &&& 1:Nat):Int)=1)=m.testBit n:=by
  rw[Nat.testBit_eq_decide_div_mod_eq,Nat.and_one_is_mod,Nat.shiftRight_eq_div_pow]
  generalize m / 2^n=q
  exact decide_eq_decide.2 (by omega)
 rw[e] at h5
 clear e
 generalize m >>> n &&& 1=q2 at*
 generalize m >>> n=q1 at*
 repeat' (first| (simp(disch:=((try simp only[new_next,put_next,del_next]);omega)) [h1,h2,h3,h4,h5];first|done| ((first|simp only[zk,zi,zj,zg,zh,zb]|simp only[zf,ze]|rw[za]);split)|skip)| ((first|simp only[zk,zi,zj,zg,zh,zb]|simp only[zf,ze]|rw[za]);split))
 exact Back.plain (by simp) (by repeat' (first|assumption|exact SM_refl _ _|apply SM_put|apply SM_new|apply SM_del| ((try simp only[new_next,put_next,del_next]);omega))) hk
theorem put_ok (m n j:Nat) (hm:m<2^64) (hn:n<64) (ho:M.obj j=some (setO m)) (hk:k (.tup []) (M.put j (setO (m ||| 2^n)))):zt F (.fn n_F [] []) [.ptr j 0 0,I n] M k kp:=by
 refine .fn zjq rfl (by simp[f_F]) ?_
 have h1:=bin_quo64 (ek:=.other) (n:=(n:Int)) (by omega) (by omega)
 have h2:=bin_rem64 (ek:=.other) (n:=(n:Int)) (by omega) (by omega)
 have h3:=bin_shl_u (ek:=.other) n hn
 have hb:2^n<2^64:=Nat.pow_lt_pow_right (by omega) hn
 have h4:=bin_or_u (ek:=.other) hm hb
 generalize m ||| 2^n=q2 at*
 generalize 2^n=q1 at*
 repeat' (first| (simp(disch:=((try simp only[new_next,put_next,del_next]);omega)) [h1,h2,h3,h4,ho];first|done| ((first|simp only[zk,zi,zj,zg,zh,zb]|simp only[zf,ze]|rw[za]);split)|skip)| ((first|simp only[zk,zi,zj,zg,zh,zb]|simp only[zf,ze]|rw[za]);split))
 exact hk
end Go.Ideal.S
namespace Go.Ideal.S
open Go Go.Ideal Q Classical
attribute [local simp] decide_eq_true decide_eq_false zcJ
variable {M:VM} {k kp:DV→VM→Prop} {n0:Nat}
attribute [local simp] c_g f_g r_g_1 r_g_2 r_g_3 r_g_4 r_g_5 r_g_6 r_g_7 r_g_9 c_r f_r r_r_1 r_r_2 c_b f_b r_b_1 r_b_2 r_b_3 r_b_4 r_b_5 r_b_6 r_b_7 r_b_9 c_i f_i r_i_1 r_i_2 c_A f_A r_A_2 r_J c_J f_J r_J_1 r_J_2 c_f f_f r_f_1 r_f_2 r_f_3 r_f_4 r_f_5 r_f_6 r_f_7 r_f_8 r_f_9 r_f_11 c_s f_s r_s_2 r_H c_H f_H r_H_1 r_H_2 c_D f_D r_D_1 r_D_2 r_D_3 r_D_4 c_v f_v r_v_1 r_v_2 r_v_3 r_v_4
def idxR {α:Type} (p:α→Bool):List α→Nat→Int
 | [],_=> -1
 |x::r,n=>if p x=true then n else idxR p r (n+1)
theorem idxR_any {α:Type} (p:α→Bool): ∀(l:List α) (n:Nat),decide (0≤idxR p l n)=l.any p
 | [],n=>by simp[idxR]
 |x::r,n=>by
  unfold idxR
  cases h:p x with
  |true=>simp[h]
  |false=>simp[h];rw[←idxR_any p r (n+1)]
theorem indexI_ok (l:List Int) (f:DV) (p:Int→Bool) (h2:l.length≤1000000) (hc: ∀x∈l,∀{k kp:DV→VM→Prop},k (.bool (p x)) M→zt F f [I x] M k kp) (hk:k (I (idxR p l 0)) M):zt F (.fn n_g [] []) [ints l,f] M k kp:=by
 apply zt.back
 refine .fn zcV rfl (by simp[f_g]) ?_
 repeat' (first| (simp(disch:=((try simp only[new_next,put_next,del_next]);omega));first|done| ((first|simp only[zk,zi,zj,zg,zh,zb]|simp only[zf,ze]|rw[za]);split)|skip)| ((first|simp only[zk,zi,zj,zg,zh,zb]|simp only[zf,ze]|rw[za]);split))
 refine .for (σ:=Unit) c_g_8.eq_1 (fun i _=>[(8,I i)]) (fun _=>M) (fun i _=>idxR p (l.drop i) i=idxR p l 0) l.length () (by simp) rfl (by simp) (fun i _ hi hP again=> ?_) (fun _ hP=> ?_)
 ·rw[List.drop_eq_getElem_cons hi,idxR] at hP
  repeat' (first| (simp(disch:=((try simp only[new_next,put_next,del_next]);omega)) [hi,eInt];first|done| ((first|simp only[zk,zi,zj,zg,zh,zb]|simp only[zf,ze]|rw[za]);split)|skip)| ((first|simp only[zk,zi,zj,zg,zh,zb]|simp only[zf,ze]|rw[za]);split))
  refine hc _ (List.getElem_mem hi) ?_
  cases h:p l[i] with
  |true=>
   rw[if_pos h] at hP
   rw[←hP] at hk
   clear again
   repeat' (first| (simp(disch:=((try simp only[new_next,put_next,del_next]);omega)) [h];first|done| ((first|simp only[zk,zi,zj,zg,zh,zb]|simp only[zf,ze]|rw[za]);split)|skip)| ((first|simp only[zk,zi,zj,zg,zh,zb]|simp only[zf,ze]|rw[za]);split))
   exact Back.plain (by simp) (by repeat' (first|assumption|exact SM_refl _ _|apply SM_put|apply SM_new|apply SM_del| ((try simp only[new_next,put_next,del_next]);omega))) hk
  |false=>
   rw[if_neg (by simp[h])] at hP
   have again:=again () hP
   simp at again
   clear hk
   repeat' (first| (simp(disch:=((try simp only[new_next,put_next,del_next]);omega)) [h];first|done| ((first|simp only[zk,zi,zj,zg,zh,zb]|simp only[zf,ze]|rw[za]);split)|skip)| ((first|simp only[zk,zi,zj,zg,zh,zb]|simp only[zf,ze]|rw[za]);split))
   exact again
 ·rw[List.drop_length,idxR] at hP
  rw[←hP] at hk
  repeat' (first| (simp(disch:=((try simp only[new_next,put_next,del_next]);omega));first|done| ((first|simp only[zk,zi,zj,zg,zh,zb]|simp only[zf,ze]|rw[za]);split)|skip)| ((first|simp only[zk,zi,zj,zg,zh,zb]|simp only[zf,ze]|rw[za]);split))
  exact Back.plain (by simp) (by repeat' (first|assumption|exact SM_refl _ _|apply SM_put|apply SM_new|apply SM_del| ((try simp only[new_next,put_next,del_next]);omega))) hk
theorem containsI_ok (l:List Int) (f:DV) (p:Int→Bool) (h2:l.length≤1000000) (hc: ∀x∈l,∀{k kp:DV→VM→Prop},k (.bool (p x)) M→zt F f [I x] M k kp) (hk:k (.bool (l.any p)) M):zt F (.fn n_r [] []) [ints l,f] M k kp:=by
 apply zt.back
 refine .fn zcr rfl (by simp[f_r]) ?_
 repeat' (first| (simp(disch:=((try simp only[new_next,put_next,del_next]);omega));first|done| ((first|simp only[zk,zi,zj,zg,zh,zb]|simp only[zf,ze]|rw[za]);split)|skip)| ((first|simp only[zk,zi,zj,zg,zh,zb]|simp only[zf,ze]|rw[za]);split))
 refine indexI_ok l f p h2 hc ?_
 rw[←idxR_any p l 0] at hk
 generalize idxR p l 0=r at*
 simp
 exact Back.plain (by simp) (by repeat' (first|assumption|exact SM_refl _ _|apply SM_put|apply SM_new|apply SM_del| ((try simp only[new_next,put_next,del_next]);omega))) hk
theorem indexE_ok (l:List Edge) (f:DV) (p:Edge→Bool) (h2:l.length≤1000000) (hc: ∀x∈l,∀{k kp:DV→VM→Prop},k (.bool (p x)) M→zt F f [.agg (zJ x)] M k kp) (hk:k (I (idxR p l 0)) M):zt F (.fn n_b [] []) [.lst 3 (l.map zJ),f] M k kp:=by
 apply zt.back
 refine .fn zby rfl (by simp[f_b]) ?_
 repeat' (first| (simp(disch:=((try simp only[new_next,put_next,del_next]);omega));first|done| ((first|simp only[zk,zi,zj,zg,zh,zb]|simp only[zf,ze]|rw[za]);split)|skip)| ((first|simp only[zk,zi,zj,zg,zh,zb]|simp only[zf,ze]|rw[za]);split))
 refine .for (σ:=Unit) c_b_8.eq_1 (fun i _=>[(8,I i)]) (fun _=>M) (fun i _=>idxR p (l.drop i) i=idxR p l 0) l.length () (by simp) rfl (by simp) (fun i _ hi hP again=> ?_) (fun _ hP=> ?_)
 ·rw[List.drop_eq_getElem_cons hi,idxR] at hP
  repeat' (first| (simp(disch:=((try simp only[new_next,put_next,del_next]);omega)) [hi];first|done| ((first|simp only[zk,zi,zj,zg,zh,zb]|simp only[zf,ze]|rw[za]);split)|skip)| ((first|simp only[zk,zi,zj,zg,zh,zb]|simp only[zf,ze]|rw[za]);split))
  refine hc _ (List.getElem_mem hi) ?_
  cases h:p l[i] with
  |true=>
   rw[if_pos h] at hP
   rw[←hP] at hk
   clear again
   repeat' (first| (simp(disch:=((try simp only[new_next,put_next,del_next]);omega)) [h];first|done| ((first|simp only[zk,zi,zj,zg,zh,zb]|simp only[zf,ze]|rw[za]);split)|skip)| ((first|simp only[zk,zi,zj,zg,zh,zb]|simp only[zf,ze]|rw[za]);split))
   exact Back.plain (by simp) (by repeat' (first|assumption|exact SM_refl _ _|apply SM_put|apply SM_new|apply SM_del| ((try simp only[new_next,put_next,del_next]);omega))) hk
  |false=>
   rw[if_neg (by simp[h])] at hP
   have again:=again () hP
   simp at again
   clear hk
   repeat' (first| (simp(disch:=((try simp only[new_next,put_next,del_next]);omega)) [h];first|done| ((first|simp only[zk,zi,zj,zg,zh,zb]|simp only[zf,ze]|rw[za]);split)|skip)| ((first|simp only[zk,zi,zj,zg,zh,zb]|simp only[zf,ze]|rw[za]);split))
   exact again
 ·rw[List.drop_length,idxR] at hP
  rw[←hP] at hk
  repeat' (first| (simp(disch:=((try simp only[new_next,put_next,del_next]);omega));first|done| ((first|simp only[zk,zi,zj,zg,zh,zb]|simp only[zf,ze]|rw[za]);split)|skip)| ((first|simp only[zk,zi,zj,zg,zh,zb]|simp only[zf,ze]|rw[za]);split))
  exact Back.plain (by simp) (by repeat' (first|assumption|exact SM_refl _ _|apply SM_put|apply SM_new|apply SM_del| ((try simp only[new_next,put_next,del_next]);omega))) hk
theorem containsE_ok (l:List Edge) (f:DV) (p:Edge→Bool) (h2:l.length≤1000000) (hc: ∀x∈l,∀{k kp:DV→VM→Prop},k (.bool (p x)) M→zt F f [.agg (zJ x)] M k kp) (hk:k (.bool (l.any p)) M):zt F (.fn n_i [] []) [.lst 3 (l.map zJ),f] M k kp:=by
 apply zt.back
 refine .fn zbj rfl (by simp[f_i]) ?_
 repeat' (first| (simp(disch:=((try simp only[new_next,put_next,del_next]);omega));first|done| ((first|simp only[zk,zi,zj,zg,zh,zb]|simp only[zf,ze]|rw[za]);split)|skip)| ((first|simp only[zk,zi,zj,zg,zh,zb]|simp only[zf,ze]|rw[za]);split))
 refine indexE_ok l f p h2 hc ?_
 rw[←idxR_any p l 0] at hk
 generalize idxR p l 0=r at*
 simp
 exact Back.plain (by simp) (by repeat' (first|assumption|exact SM_refl _ _|apply SM_put|apply SM_new|apply SM_del| ((try simp only[new_next,put_next,del_next]);omega))) hk
theorem ziB (g:Gr) (hl:g.es.length≤1000000) (a:Int) (l:List Int) (h2:l.length≤1000000) (hk:k (.bool (decide (zfv g a∧zba g.es l))) M):zt F (.fn n_A [] []) [.agg (eGr g),I a,ints l] M k kp:=by
 apply zt.back
 refine .fn h_jam_known rfl (by simp[f_A]) ?_
 repeat' (first| (simp(disch:=((try simp only[new_next,put_next,del_next]);omega)) [eGr];first|done| ((first|simp only[zk,zi,zj,zg,zh,zb]|simp only[zf,ze]|rw[za]);split)|skip)| ((first|simp only[zk,zi,zj,zg,zh,zb]|simp only[zf,ze]|rw[za]);split))
 refine fine_ok g hl fun b hb=> ?_
 cases b with
 |false=>
  rw[dF (fun h=>by have:=hb.2 h.1.1;cases this)] at hk
  repeat' (first| (simp(disch:=((try simp only[new_next,put_next,del_next]);omega)) [eGr];first|done| ((first|simp only[zk,zi,zj,zg,zh,zb]|simp only[zf,ze]|rw[za]);split)|skip)| ((first|simp only[zk,zi,zj,zg,zh,zb]|simp only[zf,ze]|rw[za]);split))
  exact Back.plain (by simp) (by repeat' (first|assumption|exact SM_refl _ _|apply SM_put|apply SM_new|apply SM_del| ((try simp only[new_next,put_next,del_next]);omega))) hk
 |true=>
  have hg:=hb.1 rfl
  by_cases h1:0≤a
  ·by_cases h2':a<g.ac
   ·have e:(!(l.any fun x=>decide (x<0)||decide ((g.es.length:Int)≤x)))=decide (zfv g a∧zba g.es l):=by
     rw[Bool.eq_iff_iff]
     simp only[Bool.not_eq_true',List.any_eq_false,Bool.or_eq_true,decide_eq_true_eq,not_or,zfv,hg,h1,h2',true_and,zba]
     exact⟨fun h x hx=>by have:=h x hx;omega,fun h x hx=>by have:=h x hx;omega⟩
    rw[←e] at hk
    repeat' (first| (simp(disch:=((try simp only[new_next,put_next,del_next]);omega)) [eGr,h1,h2'];first|done| ((first|simp only[zk,zi,zj,zg,zh,zb]|simp only[zf,ze]|rw[za]);split)|skip)| ((first|simp only[zk,zi,zj,zg,zh,zb]|simp only[zf,ze]|rw[za]);split))
    refine containsI_ok l _ (fun x=>decide (x<0)||decide ((g.es.length:Int)≤x)) h2 (fun x hx {k kp} hk=> ?_) ?_
    ·apply zt.back
     refine .fn h_jam_known_1 rfl (by simp[f_J]) ?_
     repeat' (first| (simp(disch:=((try simp only[new_next,put_next,del_next]);omega)) [eGr];first|done| ((first|simp only[zk,zi,zj,zg,zh,zb]|simp only[zf,ze]|rw[za]);split)|skip)| ((first|simp only[zk,zi,zj,zg,zh,zb]|simp only[zf,ze]|rw[za]);split))
     all_goals exact Back.plain (by simp) (by repeat' (first|assumption|exact SM_refl _ _|apply SM_put|apply SM_new|apply SM_del| ((try simp only[new_next,put_next,del_next]);omega))) (by simp_all)
    generalize (l.any fun x=>decide (x<0)||decide ((g.es.length:Int)≤x))=b at*
    simp
    exact Back.plain (by simp) (by repeat' (first|assumption|exact SM_refl _ _|apply SM_put|apply SM_new|apply SM_del| ((try simp only[new_next,put_next,del_next]);omega))) hk
   ·rw[dF (fun h=>h2' h.1.2.2)] at hk
    repeat' (first| (simp(disch:=((try simp only[new_next,put_next,del_next]);omega)) [eGr,h1,h2'];first|done| ((first|simp only[zk,zi,zj,zg,zh,zb]|simp only[zf,ze]|rw[za]);split)|skip)| ((first|simp only[zk,zi,zj,zg,zh,zb]|simp only[zf,ze]|rw[za]);split))
    exact Back.plain (by simp) (by repeat' (first|assumption|exact SM_refl _ _|apply SM_put|apply SM_new|apply SM_del| ((try simp only[new_next,put_next,del_next]);omega))) hk
  ·rw[dF (fun h=>h1 h.1.2.1)] at hk
   repeat' (first| (simp(disch:=((try simp only[new_next,put_next,del_next]);omega)) [eGr,h1];first|done| ((first|simp only[zk,zi,zj,zg,zh,zb]|simp only[zf,ze]|rw[za]);split)|skip)| ((first|simp only[zk,zi,zj,zg,zh,zb]|simp only[zf,ze]|rw[za]);split))
   exact Back.plain (by simp) (by repeat' (first|assumption|exact SM_refl _ _|apply SM_put|apply SM_new|apply SM_del| ((try simp only[new_next,put_next,del_next]);omega))) hk
theorem jcheck_ok (g:Gr) (hl:g.es.length≤1000000) (hk:k (I (if zhx g then 0 else 2)) M):zt F (.fn n_D [] []) [.agg (eGr g)] M k kp:=by
 apply zt.back
 refine .fn h_jam_Check rfl (by simp[f_D]) ?_
 repeat' (first| (simp(disch:=((try simp only[new_next,put_next,del_next]);omega)) [eGr];first|done| ((first|simp only[zk,zi,zj,zg,zh,zb]|simp only[zf,ze]|rw[za]);split)|skip)| ((first|simp only[zk,zi,zj,zg,zh,zb]|simp only[zf,ze]|rw[za]);split))
 refine fine_ok g hl fun b hb=> ?_
 cases b with
 |false=>
  rw[if_neg (fun h=>by have:=hb.2 h;cases this)] at hk
  repeat' (first| (simp(disch:=((try simp only[new_next,put_next,del_next]);omega)) [eGr];first|done| ((first|simp only[zk,zi,zj,zg,zh,zb]|simp only[zf,ze]|rw[za]);split)|skip)| ((first|simp only[zk,zi,zj,zg,zh,zb]|simp only[zf,ze]|rw[za]);split))
  exact Back.plain (by simp) (by repeat' (first|assumption|exact SM_refl _ _|apply SM_put|apply SM_new|apply SM_del| ((try simp only[new_next,put_next,del_next]);omega))) hk
 |true=>
  rw[if_pos (hb.1 rfl)] at hk
  repeat' (first| (simp(disch:=((try simp only[new_next,put_next,del_next]);omega)) [eGr];first|done| ((first|simp only[zk,zi,zj,zg,zh,zb]|simp only[zf,ze]|rw[za]);split)|skip)| ((first|simp only[zk,zi,zj,zg,zh,zb]|simp only[zf,ze]|rw[za]);split))
  exact Back.plain (by simp) (by repeat' (first|assumption|exact SM_refl _ _|apply SM_put|apply SM_new|apply SM_del| ((try simp only[new_next,put_next,del_next]);omega))) hk
theorem rcheck_ok (g:Gr) (hk:k (I (if zhx g then 0 else 2)) M):zt F (.fn n_v [] []) [.agg (eGr g)] M k kp:=by
 apply zt.back
 refine .fn zeK rfl (by simp[f_v]) ?_
 repeat' (first| (simp(disch:=((try simp only[new_next,put_next,del_next]);omega)) [eGr];first|done| ((first|simp only[zk,zi,zj,zg,zh,zb]|simp only[zf,ze]|rw[za]);split)|skip)| ((first|simp only[zk,zi,zj,zg,zh,zb]|simp only[zf,ze]|rw[za]);split))
 refine good_ok g fun b hb=> ?_
 cases b with
 |false=>
  rw[if_neg (fun h=>by have:=hb.2 h;cases this)] at hk
  repeat' (first| (simp(disch:=((try simp only[new_next,put_next,del_next]);omega)) [eGr];first|done| ((first|simp only[zk,zi,zj,zg,zh,zb]|simp only[zf,ze]|rw[za]);split)|skip)| ((first|simp only[zk,zi,zj,zg,zh,zb]|simp only[zf,ze]|rw[za]);split))
  exact Back.plain (by simp) (by repeat' (first|assumption|exact SM_refl _ _|apply SM_put|apply SM_new|apply SM_del| ((try simp only[new_next,put_next,del_next]);omega))) hk
 |true=>
  rw[if_pos (hb.1 rfl)] at hk
  repeat' (first| (simp(disch:=((try simp only[new_next,put_next,del_next]);omega)) [eGr];first|done| ((first|simp only[zk,zi,zj,zg,zh,zb]|simp only[zf,ze]|rw[za]);split)|skip)| ((first|simp only[zk,zi,zj,zg,zh,zb]|simp only[zf,ze]|rw[za]);split))
  exact Back.plain (by simp) (by repeat' (first|assumption|exact SM_refl _ _|apply SM_put|apply SM_new|apply SM_del| ((try simp only[new_next,put_next,del_next]);omega))) hk
end Go.Ideal.S
namespace Go.Ideal.S
open Go Go.Ideal Q Classical
attribute [local simp] decide_eq_true decide_eq_false zcJ
variable {M:VM} {k kp:DV→VM→Prop} {n0:Nat}
theorem zjB: ∀(l:List DV) (n:Nat) (v:DV),n<l.length→zR l n [v]=some (l.set n v)
 |a::r,0,v,_=>by simp[zR]
 |a::r,n+1,v,h=>by simp[zR,zjB r n v (by simpa using h)]
attribute [local simp] c_f f_f r_f_1 r_f_2 r_f_3 r_f_4 r_f_5 r_f_6 r_f_7 r_f_8 r_f_9 r_f_11 c_s f_s r_s_2 r_H c_H f_H r_H_1 r_H_2 c_d f_d r_d_1 r_d_2 r_d_3 r_d_4 r_d_5 r_d_6 r_d_7 r_d_8 r_d_9 r_d_11 r_d_12 r_d_13 r_d_14 r_d_15 r_d_16 r_d_18
theorem zgU (g:Gr) (f w:Int) (l:List Int) (h2:l.length≤1000000) (hE:zba g.es l) (h0:0≤f) (ht: ∀e∈g.es,0≤e.t)
 (hk:k (.tup [I (if 0≤zcf g.es w f l then zcf g.es w f l else 0),.bool (decide (0≤zcf g.es w f l))]) M):zt F (.fn n_f [] []) [.agg (eGr g),I f,ints l,I w] M k kp:=by
 apply zt.back
 refine .fn zfJ rfl (by simp[f_f]) ?_
 repeat' (first| (simp(disch:=((try simp only[new_next,put_next,del_next]);omega)) [eGr];first|done| ((first|simp only[zk,zi,zj,zg,zh,zb]|simp only[zf,ze]|rw[za]);split)|skip)| ((first|simp only[zk,zi,zj,zg,zh,zb]|simp only[zf,ze]|rw[za]);split))
 obtain⟨M1,hM1⟩: ∃M1,M1=M.new (.rows false 3 [[I g.st,I g.ac,.lst 3 (g.es.map zJ)]]):=⟨_,rfl⟩
 have ho:M1.obj M.next=some (.rows false 3 [[I g.st,I g.ac,.lst 3 (g.es.map zJ)]]):=by simp[hM1]
 have hs:SM M.next M M1:=by simp[hM1]
 have hn:M.next<M1.next:=by simp[hM1]
 rw[←hM1]
 clear hM1
 refine .for (σ:=Int×VM) c_f_10.eq_1 (fun i y=>[(1,I y.1),(15,I i)]) (fun y=>y.2) (fun i y=>((SM M1.next M1 y.2∧M1.next≤y.2.next)∧0≤y.1)∧zcf g.es w y.1 (l.drop i)=zcf g.es w f l) l.length (f,M1) (by simp) rfl ⟨⟨⟨SM_refl _ _,Nat.le_refl _⟩,h0⟩,by simp⟩ (fun i y hi hP again=> ?_) (fun y hP=> ?_)
 ·obtain⟨at_,y⟩:=y
  obtain⟨⟨⟨hy,hyn⟩,hat⟩,hR⟩:=hP
  dsimp only at hy hyn hat hR again⊢
  have ho':=zbr hy hn ho
  have hsy:SM M.next M y:=fun j hj=>(hy j (by omega)).trans (hs j hj)
  obtain⟨x0,x1⟩:=hE _ (List.getElem_mem hi)
  obtain⟨c,hc⟩:=Int.eq_ofNat_of_zero_le x0
  have hcl:c<g.es.length:=by omega
  rw[List.drop_eq_getElem_cons hi,zcf,hc,zeT hcl] at hR
  by_cases hq:g.es[c].f=at_∧g.es[c].a≠w
  ·rw[if_pos hq] at hR
   obtain⟨q1,q2⟩:=hq
   have hta:=ht _ (List.getElem_mem hcl)
   have again:=fun M' (h:SM M1.next M1 M'∧M1.next≤M'.next)=>again (g.es[c].t,M') ⟨⟨h,hta⟩,hR⟩
   simp at again
   clear hk
   repeat' (first| (simp(disch:=((try simp only[new_next,put_next,del_next]);omega)) [eInt,zJ,hi,hc,hcl,ho',q1,q2];first|done| ((first|simp only[zk,zi,zj,zg,zh,zb]|simp only[zf,ze]|rw[za]);split)|skip)| ((first|simp only[zk,zi,zj,zg,zh,zb]|simp only[zf,ze]|rw[za]);split))
   exact again _ (by repeat' (first|assumption|exact SM_refl _ _|apply SM_put|apply SM_new|apply SM_del| ((try simp only[new_next,put_next,del_next]);omega))) (by simp;omega)
  ·rw[if_neg hq] at hR
   rw[←hR] at hk
   have hk:k (.tup [I 0,.bool false]) M:=by simpa using hk
   have hq':g.es[c].f=at_→g.es[c].a=w:=fun h=>Classical.byContradiction fun h2=>hq ⟨h,h2⟩
   clear again hR
   by_cases q1:g.es[c].f=at_
   ·have q2:=hq' q1
    repeat' (first| (simp(disch:=((try simp only[new_next,put_next,del_next]);omega)) [eInt,zJ,hi,hc,hcl,ho',q1,q2];first|done| ((first|simp only[zk,zi,zj,zg,zh,zb]|simp only[zf,ze]|rw[za]);split)|skip)| ((first|simp only[zk,zi,zj,zg,zh,zb]|simp only[zf,ze]|rw[za]);split))
    exact Back.plain (by simp) (by repeat' (first|assumption|exact SM_refl _ _|apply SM_put|apply SM_new|apply SM_del| ((try simp only[new_next,put_next,del_next]);omega))) hk
   ·repeat' (first| (simp(disch:=((try simp only[new_next,put_next,del_next]);omega)) [eInt,zJ,hi,hc,hcl,ho',q1];first|done| ((first|simp only[zk,zi,zj,zg,zh,zb]|simp only[zf,ze]|rw[za]);split)|skip)| ((first|simp only[zk,zi,zj,zg,zh,zb]|simp only[zf,ze]|rw[za]);split))
    exact Back.plain (by simp) (by repeat' (first|assumption|exact SM_refl _ _|apply SM_put|apply SM_new|apply SM_del| ((try simp only[new_next,put_next,del_next]);omega))) hk
 ·obtain⟨at_,y⟩:=y
  obtain⟨⟨⟨hy,hyn⟩,hat⟩,hR⟩:=hP
  dsimp only at hy hyn hat hR⊢
  have hsy:SM M.next M y:=fun j hj=>(hy j (by omega)).trans (hs j hj)
  rw[List.drop_length,zcf] at hR
  rw[←hR] at hk
  have hk:k (.tup [I at_,.bool true]) M:=by simpa[hat] using hk
  repeat' (first| (simp(disch:=((try simp only[new_next,put_next,del_next]);omega));first|done| ((first|simp only[zk,zi,zj,zg,zh,zb]|simp only[zf,ze]|rw[za]);split)|skip)| ((first|simp only[zk,zi,zj,zg,zh,zb]|simp only[zf,ze]|rw[za]);split))
  exact Back.plain (by simp) (by repeat' (first|assumption|exact SM_refl _ _|apply SM_put|apply SM_new|apply SM_del| ((try simp only[new_next,put_next,del_next]);omega))) hk
theorem jopen_ok (g:Gr) (m:Nat) (a:Int) (hl:g.es.length≤1000000) (hm:m<2^64) (hE: ∀e∈g.es,0≤e.f∧e.f<64) (hk:k (.bool (g.es.any fun e=>m.testBit e.f.toNat&&decide (e.a=a))) M):zt F (.fn n_s [] []) [.agg (eGr g),setD m,I a] M k kp:=by
 apply zt.back
 refine .fn zhr rfl (by simp[f_s]) ?_
 repeat' (first| (simp(disch:=((try simp only[new_next,put_next,del_next]);omega)) [eGr];first|done| ((first|simp only[zk,zi,zj,zg,zh,zb]|simp only[zf,ze]|rw[za]);split)|skip)| ((first|simp only[zk,zi,zj,zg,zh,zb]|simp only[zf,ze]|rw[za]);split))
 refine containsE_ok g.es _ (fun e=>m.testBit e.f.toNat&&decide (e.a=a)) hl (fun x hx {k kp} hk=> ?_) ?_
 ·obtain⟨x0,x1⟩:=hE x hx
  obtain⟨c,hc⟩:=Int.eq_ofNat_of_zero_le x0
  rw[hc,Int.toNat_natCast] at hk
  apply zt.back
  refine .fn zgf rfl (by simp[f_H]) ?_
  repeat' (first| (simp(disch:=((try simp only[new_next,put_next,del_next]);omega)) [zJ,hc];first|done| ((first|simp only[zk,zi,zj,zg,zh,zb]|simp only[zf,ze]|rw[za]);split)|skip)| ((first|simp only[zk,zi,zj,zg,zh,zb]|simp only[zf,ze]|rw[za]);split))
  refine has_ok m c hm (by omega) ?_
  cases hb:m.testBit c with
  |true=>
   rw[hb] at hk
   repeat' (first| (simp(disch:=((try simp only[new_next,put_next,del_next]);omega)) [zJ,hc];first|done| ((first|simp only[zk,zi,zj,zg,zh,zb]|simp only[zf,ze]|rw[za]);split)|skip)| ((first|simp only[zk,zi,zj,zg,zh,zb]|simp only[zf,ze]|rw[za]);split))
   exact Back.plain (by simp) (by repeat' (first|assumption|exact SM_refl _ _|apply SM_put|apply SM_new|apply SM_del| ((try simp only[new_next,put_next,del_next]);omega))) (by simpa using hk)
  |false=>
   rw[hb] at hk
   repeat' (first| (simp(disch:=((try simp only[new_next,put_next,del_next]);omega)) [zJ,hc];first|done| ((first|simp only[zk,zi,zj,zg,zh,zb]|simp only[zf,ze]|rw[za]);split)|skip)| ((first|simp only[zk,zi,zj,zg,zh,zb]|simp only[zf,ze]|rw[za]);split))
   exact Back.plain (by simp) (by repeat' (first|assumption|exact SM_refl _ _|apply SM_put|apply SM_new|apply SM_del| ((try simp only[new_next,put_next,del_next]);omega))) (by simpa using hk)
 generalize (g.es.any fun e=>m.testBit e.f.toNat&&decide (e.a=a))=b at*
 simp
 exact Back.plain (by simp) (by repeat' (first|assumption|exact SM_refl _ _|apply SM_put|apply SM_new|apply SM_del| ((try simp only[new_next,put_next,del_next]);omega))) hk
def zgs (f:Int→Int) (l:List Int) (m:Nat):Nat:=l.foldl (fun m x=>m ||| 2^(f x).toNat) m
theorem bitsL_succ (f:Int→Int) {l:List Int} {m:Nat} {i:Nat} (hi:i<l.length):zgs f (l.take (i+1)) m=zgs f (l.take i) m ||| 2^(f l[i]).toNat:=by
 unfold zgs;rw[List.take_succ_eq_append_getElem hi,List.foldl_append];rfl
theorem bitsL_on (f:Int→Int): ∀(l:List Int) (m n:Nat),(zgs f l m).testBit n=true↔m.testBit n=true∨ ∃x∈l,(f x).toNat=n
 | [],m,n=>by simp[zgs]
 |y::r,m,n=>by
  show(zgs f r (m ||| 2^(f y).toNat)).testBit n=true↔_
  rw[bitsL_on f r,Nat.testBit_or,Nat.testBit_two_pow]
  simp[or_assoc]
theorem bitsL_lt (f:Int→Int): ∀(l:List Int) (m:Nat),m<2^64→(∀x∈l,(f x).toNat<64)→zgs f l m<2^64
 | [],m,h,_=>h
 |y::r,m,h,hx=>bitsL_lt f r _ (Nat.or_lt_two_pow h (Nat.pow_lt_pow_right (by omega) (hx y (by simp)))) (fun x h=>hx x (by simp[h]))
def ze0 (g:Gr) (l:List Int):Nat:=zgs (fun x=>(eAt g.es x).f) l 0
theorem ziZ {g:Gr} (hg:zhx g) {l:List Int} (hE:zba g.es l) {s:Int} (h0:0≤s):(ze0 g l).testBit s.toNat=true↔ ∃x∈l,(eAt g.es x).f=s:=by
 unfold ze0
 rw[bitsL_on]
 simp only[Nat.zero_testBit,Bool.false_eq_true,false_or]
 constructor
 ·rintro⟨x,hx,e⟩
  have:=(hg.ok _ (zeU (hE x hx))).f0
  exact⟨x,hx,by omega⟩
 ·rintro⟨x,hx,e⟩
  exact⟨x,hx,by omega⟩
theorem bitsF_lt {g:Gr} (hg:zhx g) {l:List Int} (hE:zba g.es l):ze0 g l<2^64:=bitsL_lt _ _ _ (by omega) fun x hx=>by
 have h:=hg.ok _ (zeU (hE x hx));have:=h.f1;have:=hg.s2;omega
end Go.Ideal.S
namespace Go.Ideal.S
open Go Go.Ideal Q Classical
attribute [local simp] decide_eq_true decide_eq_false zcJ
variable {M:VM} {k kp:DV→VM→Prop} {n0:Nat}
attribute [local simp] c_d f_d r_d_1 r_d_2 r_d_3 r_d_4 r_d_5 r_d_6 r_d_7 r_d_8 r_d_9 r_d_11 r_d_12 r_d_13 r_d_14 r_d_15 r_d_16 r_d_18
def no40:List Bool:=List.replicate 40 false
theorem no40_len:no40.length=40:=by simp[no40]
structure JFairM (B y:VM) (g:Gr) (j3 j6 j8 j9 m:Nat) (b9:List Bool):Prop where
 sm:SM B.next B y
 nx:B.next≤j3∧j3<j6∧j6<j8∧j8<j9∧j9<y.next
 o3:y.obj j3=some (.rows false 3 [[I g.st,I g.ac,.lst 3 (g.es.map zJ)]])
 o6:y.obj j6=some (setO 0)
 o8:y.obj j8=some (setO m)
 o9:y.obj j9=some (.rows false 40 [b9.map .bool])
 l9:b9.length=40
theorem jfair_ok (g:Gr) (hg:zhx g) (l:List Int) (but:Int) (h2:l.length≤1000000) (hE:zba g.es l) (hk:k (.tup [setD (ze0 g l),.bool (decide (zja g l but))]) M):zt F (.fn n_d [] []) [.agg (eGr g),ints l,I but] M k kp:=by
 apply zt.back
 refine .fn zht rfl (by simp[f_d]) ?_
 have g1:=hg.s1;have g2:=hg.s2;have g3:=hg.a1;have g4:=hg.a2;have g5:=hg.el
 repeat' (first| (simp(disch:=((try simp only[new_next,put_next,del_next]);omega)) [eGr];first|done| ((first|simp only[zk,zi,zj,zg,zh,zb]|simp only[zf,ze]|rw[za]);split)|skip)| ((first|simp only[zk,zi,zj,zg,zh,zb]|simp only[zf,ze]|rw[za]);split))
 refine .gen (Q:=fun y=>JFairM M y g M.next (M.next+1) (M.next+1+1) (M.next+1+1+1) (zgs (fun x=>(eAt g.es x).f) (l.take 0) 0) (zbS (fun x=>(eAt g.es x).a) (l.take 0) no40)) ⟨(by repeat' (first|assumption|exact SM_refl _ _|apply SM_put|apply SM_new|apply SM_del| ((try simp only[new_next,put_next,del_next]);omega))),by simp,?_,?_,?_,?_,by simp[no40_len]⟩ fun y0 hy0=> ?_
 ·simp(disch:=((try simp only[new_next,put_next]);omega))
 ·simp(disch:=((try simp only[new_next,put_next]);omega))
 ·simp(disch:=((try simp only[new_next,put_next]);omega)) [zgs]
 ·simp(disch:=((try simp only[new_next,put_next]);omega)) [zbS,no40]
 generalize M.next+1+1+1=j9 at*
 generalize M.next+1+1=j8 at*
 generalize M.next+1=j6 at*
 refine .for (σ:=VM) c_d_10.eq_1 (fun i _=>[(16,I i)]) (fun y=>y) (fun i y=>JFairM M y g M.next j6 j8 j9 (zgs (fun x=>(eAt g.es x).f) (l.take i) 0) (zbS (fun x=>(eAt g.es x).a) (l.take i) no40)) l.length y0 (by simp) rfl hy0 (fun i y hi hP again=> ?_) (fun y hP=> ?_)
 ·obtain⟨hsm,hnx,o3,o6,o8,o9,l9⟩:=hP
  obtain⟨x0,x1⟩:=hE _ (List.getElem_mem hi)
  obtain⟨c,hc⟩:=Int.eq_ofNat_of_zero_le x0
  have hcl:c<g.es.length:=by omega
  obtain⟨q1,q2,-,-,q5,q6⟩:=hg.ok _ (List.getElem_mem hcl)
  obtain⟨u,hu⟩:=Int.eq_ofNat_of_zero_le q1
  obtain⟨v,hv⟩:=Int.eq_ofNat_of_zero_le q5
  have hus:u<64:=by omega
  have hva:v<40:=by omega
  have again:=fun M' (h:JFairM M M' g M.next j6 j8 j9 _ _)=>again M' h
  rw[bitsL_succ _ hi,zfa _ hi,hc,zeT hcl,hu,hv] at again
  simp at again
  have hm:zgs (fun x=>(eAt g.es x).f) (l.take i) 0<2^64:=bitsL_lt _ _ _ (by omega) fun x hx=>by
   have h:=hg.ok _ (zeU (hE x (List.mem_of_mem_take hx)));have:=h.f1;omega
  generalize zgs (fun x=>(eAt g.es x).f) (l.take i) 0=m at*
  generalize zbS (fun x=>(eAt g.es x).a) (l.take i) no40=b9 at*
  have hw:zR (b9.map DV.bool) v [.bool true]=some ((b9.set v true).map DV.bool):=by rw[zjB _ _ _ (by simp[l9,hva]),List.map_set]
  clear hk
  repeat' (first| (simp(disch:=((try simp only[new_next,put_next,del_next]);omega)) [o3,hi,hc,hcl,hu,hv,eInt,zJ,hus];first|done| ((first|simp only[zk,zi,zj,zg,zh,zb]|simp only[zf,ze]|rw[za]);split)|skip)| ((first|simp only[zk,zi,zj,zg,zh,zb]|simp only[zf,ze]|rw[za]);split))
  refine put_ok m u j8 hm hus o8 ?_
  have o9':(y.put j8 (setO (m ||| 2^u))).obj j9=some (.rows false 40 [b9.map .bool]):=by simp(disch:=omega) [o9]
  have o3':(y.put j8 (setO (m ||| 2^u))).obj M.next=some (.rows false 3 [[I g.st,I g.ac,.lst 3 (g.es.map zJ)]]):=by simp(disch:=omega) [o3]
  have o6':(y.put j8 (setO (m ||| 2^u))).obj j6=some (setO 0):=by simp(disch:=omega) [o6]
  have o8':(y.put j8 (setO (m ||| 2^u))).obj j8=some (setO (m ||| 2^u)):=by simp
  have hn':(y.put j8 (setO (m ||| 2^u))).next=y.next+1:=by simp
  have hs':SM M.next M (y.put j8 (setO (m ||| 2^u))):=(by repeat' (first|assumption|exact SM_refl _ _|apply SM_put|apply SM_new|apply SM_del| ((try simp only[new_next,put_next,del_next]);omega)))
  generalize y.put j8 (setO (m ||| 2^u))=y2 at*
  repeat' (first| (simp(disch:=((try simp only[new_next,put_next,del_next]);omega)) [o3',o9',hi,hc,hcl,hu,hv,eInt,zJ,hva,hw];first|done| ((first|simp only[zk,zi,zj,zg,zh,zb]|simp only[zf,ze]|rw[za]);split)|skip)| ((first|simp only[zk,zi,zj,zg,zh,zb]|simp only[zf,ze]|rw[za]);split))
  refine again _ ⟨(by repeat' (first|assumption|exact SM_refl _ _|apply SM_put|apply SM_new|apply SM_del| ((try simp only[new_next,put_next,del_next]);omega))),by simp;omega,by simp(disch:=omega) [o3'],by simp(disch:=omega) [o6'],by simp(disch:=omega) [o8'],by simp[List.map_set],by simp[l9]⟩
 ·simp only[List.take_length] at hP
  obtain⟨hsm,hnx,o3,o6,o8,o9,l9⟩:=hP
  have hm:ze0 g l<2^64:=bitsF_lt hg hE
  have hbt: ∀{s:Int},0≤s→((ze0 g l).testBit s.toNat=true↔ ∃x∈l,(eAt g.es x).f=s):=fun h=>ziZ hg hE h
  have htk: ∀a:Nat,a<40→((zbS (fun x=>(eAt g.es x).a) l no40)[a]? =some true↔ ∃x∈l,(eAt g.es x).a=a):=fun a ha=>by
   rw[zhD]
   constructor
   ·rintro(h| ⟨_,x,hx,e⟩)
    ·exact absurd h (rep_on _ _)
    ·have:=(hg.ok _ (zeU (hE x hx))).a0
     exact⟨x,hx,by omega⟩
   ·rintro⟨x,hx,e⟩
    exact .inr ⟨by simpa[no40_len] using ha,x,hx,by omega⟩
  have em:zgs (fun x=>(eAt g.es x).f) l 0=ze0 g l:=rfl
  rw[em] at o8
  generalize zbS (fun x=>(eAt g.es x).a) l no40=b9 at*
  generalize ze0 g l=m at*
  repeat' (first| (simp(disch:=((try simp only[new_next,put_next,del_next]);omega)) [o3];first|done| ((first|simp only[zk,zi,zj,zg,zh,zb]|simp only[zf,ze]|rw[za]);split)|skip)| ((first|simp only[zk,zi,zj,zg,zh,zb]|simp only[zf,ze]|rw[za]);split))
  refine .for (σ:=VM) c_d_17.eq_1 (fun i _=>[(41,I i)]) (fun y=>y) (fun i y=>JFairM M y g M.next j6 j8 j9 m b9∧zfT i g.es (fun e=>(∃x∈l,(eAt g.es x).f=e.f)→e.a≠but→ ∃x∈l,(eAt g.es x).a=e.a)) g.es.length y (by simp) rfl ⟨⟨hsm,hnx,o3,o6,o8,o9,l9⟩,.zero⟩ (fun i y hi hP again=> ?_) (fun y hP=> ?_)
  ·clear hsm hnx o3 o6 o8 o9 l9
   obtain⟨⟨hsm,hnx,o3,o6,o8,o9,l9⟩,hA⟩:=hP
   obtain⟨q1,q2,-,-,q5,q6⟩:=hg.ok _ (List.getElem_mem hi)
   obtain⟨u,hu⟩:=Int.eq_ofNat_of_zero_le q1
   obtain⟨v,hv⟩:=Int.eq_ofNat_of_zero_le q5
   have hus:u<64:=by omega
   have hva:v<40:=by omega
   have hvl:v<b9.length:=by omega
   have hbu:=hbt q1
   have htv:=htk v hva
   rw[List.getElem?_eq_getElem hvl] at htv
   rw[hu,Int.toNat_natCast] at hbu
   have again:=fun h M' (h2:JFairM M M' g M.next j6 j8 j9 m b9)=>again M' ⟨h2,hA.succ hi h⟩
   rw[hu,hv] at again
   have hrd:oneD ((b9.map DV.bool).drop v)=some (.bool b9[v]):=by rw[List.drop_eq_getElem_cons (by simpa using hvl)];simp[oneD]
   have unfair:m.testBit u=true→ ¬g.es[i].a=but→b9[v]=false→ ¬zja g l but:=fun h1 h2 h3 hF=>by
    have h4:=hF g.es[i] (List.getElem_mem hi) (by have:=hbu.1 h1;rwa [←hu] at this) h2
    rw[hv] at h4
    have:=htv.2 h4
    rw[h3] at this;simp at this
   rw[hv] at unfair
   repeat' (first| (simp(disch:=((try simp only[new_next,put_next,del_next]);omega)) [hi,hu,zJ,o8];first|done| ((first|simp only[zk,zi,zj,zg,zh,zb]|simp only[zf,ze]|rw[za]);split)|skip)| ((first|simp only[zk,zi,zj,zg,zh,zb]|simp only[zf,ze]|rw[za]);split))
   refine has_ok m u hm hus ?_
   cases hb:m.testBit u with
   |false=>
    have again:=again (fun h=>absurd (hbu.2 h) (by simp[hb]))
    simp at again
    clear hk
    repeat' (first| (simp(disch:=((try simp only[new_next,put_next,del_next]);omega)) [hu,hv];first|done| ((first|simp only[zk,zi,zj,zg,zh,zb]|simp only[zf,ze]|rw[za]);split)|skip)| ((first|simp only[zk,zi,zj,zg,zh,zb]|simp only[zf,ze]|rw[za]);split))
    exact again _ ⟨(by repeat' (first|assumption|exact SM_refl _ _|apply SM_put|apply SM_new|apply SM_del| ((try simp only[new_next,put_next,del_next]);omega))),by simp;omega,by simp(disch:=omega) [o3],by simp(disch:=omega) [o6],by simp(disch:=omega) [o8],by simp(disch:=omega) [o9],l9⟩
   |true=>
    by_cases h1:(v:Int)=but
    ·have again:=again (fun _ h=>absurd h1 h)
     simp at again
     clear hk
     repeat' (first| (simp(disch:=((try simp only[new_next,put_next,del_next]);omega)) [hu,hv,h1];first|done| ((first|simp only[zk,zi,zj,zg,zh,zb]|simp only[zf,ze]|rw[za]);split)|skip)| ((first|simp only[zk,zi,zj,zg,zh,zb]|simp only[zf,ze]|rw[za]);split))
     exact again _ ⟨(by repeat' (first|assumption|exact SM_refl _ _|apply SM_put|apply SM_new|apply SM_del| ((try simp only[new_next,put_next,del_next]);omega))),by simp;omega,by simp(disch:=omega) [o3],by simp(disch:=omega) [o6],by simp(disch:=omega) [o8],by simp(disch:=omega) [o9],l9⟩
    ·cases h2:b9[v] with
     |true=>
      rw[h2] at htv hrd
      have again:=again (fun _ _=>by simpa using htv)
      simp at again
      clear hk
      repeat' (first| (simp(disch:=((try simp only[new_next,put_next,del_next]);omega)) [hu,hv,h1,o9,hva,hrd];first|done| ((first|simp only[zk,zi,zj,zg,zh,zb]|simp only[zf,ze]|rw[za]);split)|skip)| ((first|simp only[zk,zi,zj,zg,zh,zb]|simp only[zf,ze]|rw[za]);split))
      exact again _ ⟨(by repeat' (first|assumption|exact SM_refl _ _|apply SM_put|apply SM_new|apply SM_del| ((try simp only[new_next,put_next,del_next]);omega))),by simp;omega,by simp(disch:=omega) [o3],by simp(disch:=omega) [o6],by simp(disch:=omega) [o8],by simp(disch:=omega) [o9],l9⟩
     |false=>
      rw[h2] at hrd
      rw[dF (unfair hb h1 h2)] at hk
      clear again
      repeat' (first| (simp(disch:=((try simp only[new_next,put_next,del_next]);omega)) [hu,hv,h1,o9,o8,o6,hva,hrd];first|done| ((first|simp only[zk,zi,zj,zg,zh,zb]|simp only[zf,ze]|rw[za]);split)|skip)| ((first|simp only[zk,zi,zj,zg,zh,zb]|simp only[zf,ze]|rw[za]);split))
      exact Back.plain (by simp) (by repeat' (first|assumption|exact SM_refl _ _|apply SM_put|apply SM_new|apply SM_del| ((try simp only[new_next,put_next,del_next]);omega))) hk
  ·clear hsm hnx o3 o6 o8 o9 l9
   obtain⟨⟨hsm,hnx,o3,o6,o8,o9,l9⟩,hA⟩:=hP
   rw[dT (show zja g l but from hA.all)] at hk
   repeat' (first| (simp(disch:=((try simp only[new_next,put_next,del_next]);omega)) [o8,o6];first|done| ((first|simp only[zk,zi,zj,zg,zh,zb]|simp only[zf,ze]|rw[za]);split)|skip)| ((first|simp only[zk,zi,zj,zg,zh,zb]|simp only[zf,ze]|rw[za]);split))
   exact Back.plain (by simp) (by repeat' (first|assumption|exact SM_refl _ _|apply SM_put|apply SM_new|apply SM_del| ((try simp only[new_next,put_next,del_next]);omega))) hk
end Go.Ideal.S
namespace Go.Ideal
noncomputable section
variable {F:FuncId→Option zm} {n0:Nat}
def AsK (F:FuncId→Option zm) (n l:Nat) (rc:RC) (k:DV→VM→Prop):KD:=⟨fun s M=>ofD (M.obj l) fun o=>match o with
    |.loop .ready pend sl rc'=>wp (rD F n) rc.b (finKD l k) s (M.put l (.loop .busy pend sl rc'))
    |_=>False,fun _ _ _=>False,fun _ _=>False,fun _ _ _=>False⟩
theorem zt.round {l:Nat} {args:List DV} {M:VM} {k kp:DV→VM→Prop} {st:LoopState} {pend:Option CC} {sl:DS} {rc:RC} {s:DS} (ho:M.obj l=some (.loop st pend sl rc)) (hs:setSD rc.ps args (zbu rc.L sl)=some s) (h: @Cd (rD F M.next) (.base (AsK F M.next l rc k)) rc.as s M):zt F (.yld l) args M k kp:=
 .yield ho (by unfold wRound;rw[hs];exact h)
theorem AsK_nrm {n l:Nat} {rc rc':RC} {k:DV→VM→Prop} {s sl:DS} {M:VM} {pend:Option CC} (ho:M.obj l=some (.loop .ready pend sl rc')) (h: @Cd (rD F n) (.base (finKD l k)) rc.b s (M.put l (.loop .busy pend sl rc'))):(AsK F n l rc k).nrm s M:=by
 show ofD (M.obj l) _
 rw[ho];exact h
theorem ziL {l:Nat} {k:DV→VM→Prop} {p:Option CC} {M:VM} {st:LoopState} {pd:Option CC} {sl:DS} {rc:RC} (ho:M.obj l=some (.loop st pd sl rc)) (h:k (.bool p.isNone) (M.put l (.loop (stOf p) p sl rc))):finD l k p M:=by
 unfold finD;rw[ho];exact h
@[simp] theorem finKD_nrm {l:Nat} {k:DV→VM→Prop} {s:DS} {M:VM}:(finKD l k).nrm s M=finD l k none M:=id rfl
@[simp] theorem finKD_ext {l i:Nat} {k:DV→VM→Prop} {s:DS} {M:VM}:(finKD l k).ext i s M=finD l k (some (.exit i)) M:=id rfl
@[simp] theorem finKD_ret {l:Nat} {k:DV→VM→Prop} {s:DS} {M:VM}:(finKD l k).ret s M=finD l k (some .ret) M:=id rfl
theorem rgEnd_nrm {K:KD} {s:DS} {l:Nat} {M:VM} {sl:DS} {rc:RC} (ho:M.obj l=some (.loop .ready none sl rc)) (h:K.nrm s (M.put l (.loop .exhausted none sl rc))):zf4 K s l M:=by
 unfold zf4;rw[ho];exact h
theorem rgEnd_ret {K:KD} {s:DS} {l:Nat} {M:VM} {sl:DS} {rc:RC} (ho:M.obj l=some (.loop .done (some .ret) sl rc)) (h:K.ret s (M.put l (.loop .exhausted (some .ret) sl rc))):zf4 K s l M:=by
 unfold zf4;rw[ho];exact h
theorem rgEnd_ext {K:KD} {s:DS} {l i:Nat} {M:VM} {sl:DS} {rc:RC} (ho:M.obj l=some (.loop .done (some (.exit i)) sl rc)) (h:K.ext i s (M.put l (.loop .exhausted (some (.exit i)) sl rc))):zf4 K s l M:=by
 unfold zf4;rw[ho];exact h
end
end Go.Ideal
namespace Go.Ideal.S
open Go Go.Ideal Q Classical
attribute [local simp] decide_eq_true decide_eq_false zcJ
variable {M:VM} {k kp:DV→VM→Prop} {n0:Nat}
attribute [local simp] c_u f_u r_u_2 r_C c_C f_C r_C_1 r_C_2 r_C_3 r_C_4 r_C_5 c_w f_w r_w_1 r_w_2 r_w_3 r_w_5
abbrev grO (g:Gr):MO:=.rows false 3 [[I g.st,I g.ac,.lst 3 (g.es.map zJ)]]
abbrev intO (n:Int):MO:=.rows false 1 [[I n]]
theorem from_ok (g:Gr) (n:Int) (hk: ∀M' j2 j3,SM M.next M M'→M.next≤j2→j2<j3→j3<M'.next→M'.obj j2=some (grO g)→M'.obj j3=some (intO n)→k (.fn n_C [] [.ptr j2 0 0,.ptr j3 0 0]) M'):zt F (.fn n_u [] []) [.agg (eGr g),I n] M k kp:=by
 refine .fn zhs rfl (by simp[f_u]) ?_
 repeat' (first| (simp(disch:=((try simp only[new_next,put_next,del_next]);omega)) [eGr];first|done| ((first|simp only[zk,zi,zj,zg,zh,zb]|simp only[zf,ze]|rw[za]);split)|skip)| ((first|simp only[zk,zi,zj,zg,zh,zb]|simp only[zf,ze]|rw[za]);split))
 exact hk _ _ _ (by repeat' (first|assumption|exact SM_refl _ _|apply SM_put|apply SM_new|apply SM_del| ((try simp only[new_next,put_next,del_next]);omega))) (Nat.le_refl _) (Nat.lt_succ_self _) (by simp) (by simp<;>omega) (by simp)
theorem from1_ok (g:Gr) (hl:g.es.length≤1000000) (n:Int) (l j2 j3:Nat) (Inv:Nat→VM→Prop) (R:VM→Prop) (h0:Inv 0 M)
 (hob: ∀i y,Inv i y→y.obj j2=some (grO g)∧y.obj j3=some (intO n)∧j2<y.next∧j3<y.next)
 (skip: ∀(i:Nat) (y y':VM) (hi:i<g.es.length),Inv i y→SM y.next y y'→y.next≤y'.next→g.es[i].f≠n→Inv (i+1) y')
 (yld: ∀(i:Nat) (y y':VM) (hi:i<g.es.length),Inv i y→SM y.next y y'→y.next≤y'.next→g.es[i].f=n→ ∀{k kp:DV→VM→Prop},(∀M',Inv (i+1) M'→k (.bool true) M')→(∀M',R M'→k (.bool false) M')→zt F (.yld l) [I i,.agg (zJ g.es[i])] y' k kp)
 (done: ∀y,Inv g.es.length y→k (.tup []) y) (stop: ∀y,R y→k (.tup []) y):zt F (.fn n_C [] [.ptr j2 0 0,.ptr j3 0 0]) [.yld l] M k kp:=by
 refine .fn zgg rfl (by simp[f_C]) ?_
 obtain⟨o2,o3,-,-⟩:=hob _ _ h0
 repeat' (first| (simp(disch:=((try simp only[new_next,put_next,del_next]);omega)) [o2,o3];first|done| ((first|simp only[zk,zi,zj,zg,zh,zb]|simp only[zf,ze]|rw[za]);split)|skip)| ((first|simp only[zk,zi,zj,zg,zh,zb]|simp only[zf,ze]|rw[za]);split))
 refine .for (σ:=VM) c_C_6.eq_1 (fun i _=>[(10,I i)]) (fun y=>y) (fun i y=>Inv i y) g.es.length M (by simp) rfl h0 (fun i y hi hP again=> ?_) (fun y hP=> ?_)
 ·obtain⟨p2,p3,l2,l3⟩:=hob _ _ hP
  by_cases hq:g.es[i].f=n
  ·subst hq
   repeat' (first| (simp(disch:=((try simp only[new_next,put_next,del_next]);omega)) [hi,p2,p3,zJ];first|done| ((first|simp only[zk,zi,zj,zg,zh,zb]|simp only[zf,ze]|rw[za]);split)|skip)| ((first|simp only[zk,zi,zj,zg,zh,zb]|simp only[zf,ze]|rw[za]);split))
   refine yld i y _ hi hP (by repeat' (first|assumption|exact SM_refl _ _|apply SM_put|apply SM_new|apply SM_del| ((try simp only[new_next,put_next,del_next]);omega))) (by simp;omega) rfl (fun M' hI=> ?_) (fun M' hR=> ?_)
   ·have again:=again M' hI
    simp at again
    repeat' (first| (simp(disch:=((try simp only[new_next,put_next,del_next]);omega));first|done| ((first|simp only[zk,zi,zj,zg,zh,zb]|simp only[zf,ze]|rw[za]);split)|skip)| ((first|simp only[zk,zi,zj,zg,zh,zb]|simp only[zf,ze]|rw[za]);split))
    exact again
   ·repeat' (first| (simp(disch:=((try simp only[new_next,put_next,del_next]);omega));first|done| ((first|simp only[zk,zi,zj,zg,zh,zb]|simp only[zf,ze]|rw[za]);split)|skip)| ((first|simp only[zk,zi,zj,zg,zh,zb]|simp only[zf,ze]|rw[za]);split))
    exact stop _ hR
  ·have again:=fun y' h1 h2=>again y' (skip i y y' hi hP h1 h2 hq)
   simp at again
   repeat' (first| (simp(disch:=((try simp only[new_next,put_next,del_next]);omega)) [hi,p2,p3,zJ,hq];first|done| ((first|simp only[zk,zi,zj,zg,zh,zb]|simp only[zf,ze]|rw[za]);split)|skip)| ((first|simp only[zk,zi,zj,zg,zh,zb]|simp only[zf,ze]|rw[za]);split))
   exact again _ (by repeat' (first|assumption|exact SM_refl _ _|apply SM_put|apply SM_new|apply SM_del| ((try simp only[new_next,put_next,del_next]);omega))) (by simp;omega)
 ·repeat' (first| (simp(disch:=((try simp only[new_next,put_next,del_next]);omega));first|done| ((first|simp only[zk,zi,zj,zg,zh,zb]|simp only[zf,ze]|rw[za]);split)|skip)| ((first|simp only[zk,zi,zj,zg,zh,zb]|simp only[zf,ze]|rw[za]);split))
  exact done _ hP
theorem ends_ok (g:Gr) (hl:g.es.length≤1000000) (n:Int) (hk:k (.bool (!decide (zg0 g.es n))) M):zt F (.fn n_w [] []) [.agg (eGr g),I n] M k kp:=by
 apply zt.back
 refine .fn zhu rfl (by simp[f_w]) ?_
 repeat' (first| (simp(disch:=((try simp only[new_next,put_next,del_next]);omega)) [eGr];first|done| ((first|simp only[zk,zi,zj,zg,zh,zb]|simp only[zf,ze]|rw[za]);split)|skip)| ((first|simp only[zk,zi,zj,zg,zh,zb]|simp only[zf,ze]|rw[za]);split))
 refine from_ok g n fun M' j2 j3 hs h2 h3 h4 o2 o3=> ?_
 have o4:M'.obj (M.next+1)=some (.rows false 1 [[.bool false]]):=zbr hs (by simp) (by simp)
 have hs0:SM M.next M M':=fun j hj=>(hs j (by simp;omega)).trans ((show SM M.next M ((M.new _).new _) from(by repeat' (first|assumption|exact SM_refl _ _|apply SM_put|apply SM_new|apply SM_del| ((try simp only[new_next,put_next,del_next]);omega)))) j hj)
 simp at hs h2
 repeat' (first| (simp(disch:=((try simp only[new_next,put_next,del_next]);omega));first|done| ((first|simp only[zk,zi,zj,zg,zh,zb]|simp only[zf,ze]|rw[za]);split)|skip)| ((first|simp only[zk,zi,zj,zg,zh,zb]|simp only[zf,ze]|rw[za]);split))
 have hl0:M'.next<(M'.new (.loop .ready none [(bits 4,.ptr (M.next+1) 0 0)] ⟨0,[bits 4],[bits 8,bits 9],c_w_4,zbc⟩)).next:=by simp
 generalize hrc:RC.mk 0 [bits 4] [bits 8,bits 9] c_w_4 zbc=rc at*
 have has:rc.as=c_w_4:=by rw[←hrc]
 have hb:rc.b=zbc:=by rw[←hrc]
 have hps:rc.ps=[bits 8,bits 9]:=by rw[←hrc]
 have hL:rc.L=[bits 4]:=by rw[←hrc]
 clear hrc
 generalize hsl:[(bits 4,DV.ptr (M.next+1) 0 0)]=sl at*
 have ol:(M'.new (.loop .ready none sl rc)).obj M'.next=some (.loop .ready none sl rc):=by simp
 have p2:(M'.new (.loop .ready none sl rc)).obj j2=some (grO g):=by simp(disch:=omega) [o2]
 have p3:(M'.new (.loop .ready none sl rc)).obj j3=some (intO n):=by simp(disch:=omega) [o3]
 have p4:(M'.new (.loop .ready none sl rc)).obj (M.next+1)=some (.rows false 1 [[.bool false]]):=by simp(disch:=omega) [o4]
 have hs1:SM M.next M (M'.new (.loop .ready none sl rc)):=(by repeat' (first|assumption|exact SM_refl _ _|apply SM_put|apply SM_new|apply SM_del| ((try simp only[new_next,put_next,del_next]);omega)))
 generalize M'.next=l at*
 generalize M'.new (.loop .ready none sl rc)=y0 at*
 refine from1_ok g hl n l j2 j3 (fun i y=>SM y0.next y0 y∧y0.next≤y.next∧zfT i g.es (fun e=>e.f≠n)) (fun y=>SM M.next M y∧y.obj (M.next+1)=some (.rows false 1 [[.bool false]])∧y.obj l=some (.loop .done (some .ret) sl rc)∧zg0 g.es n∧M.next≤l) ⟨SM_refl _ _,Nat.le_refl _,.zero⟩ (fun i y hP=> ?_) (fun i y y' hi hP s1 s2 hne=> ?_) (fun i y y' hi hP s1 s2 he {k kp} a1 a2=> ?_) (fun y hP=> ?_) (fun y hR=> ?_)
 ·obtain⟨q1,q2,q3⟩:=hP
  exact⟨zbr q1 (by omega) p2,zbr q1 (by omega) p3,by omega,by omega⟩
 ·obtain⟨q1,q2,q3⟩:=hP
  exact⟨fun j hj=>(s1 j (by omega)).trans (q1 j hj),by omega,q3.succ hi hne⟩
 ·obtain⟨q1,q2,q3⟩:=hP
  have q1':SM y0.next y0 y':=fun j hj=>(s1 j (by omega)).trans (q1 j hj)
  have r4:=zbr q1' (by omega) p4
  have hsy:SM M.next M y':=fun j hj=>(q1' j (by omega)).trans (hs1 j hj)
  have rl:=zbr q1' hl0 ol
  refine .round rl (s:=[(bits 9,.agg (zJ g.es[i])),(bits 8,I i),(bits 4,.ptr (M.next+1) 0 0)]) (by rw[hps,hL,←hsl];rfl) ?_
  rw[has]
  repeat' (first| (simp(disch:=((try simp only[new_next,put_next,del_next]);omega)) [c_w_4];first|done| ((first|simp only[zk,zi,zj,zg,zh,zb]|simp only[zf,ze]|rw[za]);split)|skip)| ((first|simp only[zk,zi,zj,zg,zh,zb]|simp only[zf,ze]|rw[za]);split))
  refine AsK_nrm rl ?_
  have e4:(y'.put l (.loop .busy none sl rc)).obj (M.next+1)=some (.rows false 1 [[.bool false]]):=by simp(disch:=omega) [r4]
  rw[hb]
  repeat' (first| (simp(disch:=((try simp only[new_next,put_next,del_next]);omega)) [zbc,e4,r4];first|done| ((first|simp only[zk,zi,zj,zg,zh,zb]|simp only[zf,ze]|rw[za]);split)|skip)| ((first|simp only[zk,zi,zj,zg,zh,zb]|simp only[zf,ze]|rw[za]);split))
  refine ziL (st:=.busy) (pd:=none) (sl:=sl) (rc:=rc) (by simp(disch:=omega)) ?_
  exact a2 _ ⟨(by repeat' (first|assumption|exact SM_refl _ _|apply SM_put|apply SM_new|apply SM_del| ((try simp only[new_next,put_next,del_next]);omega))),by simp(disch:=omega),by simp[stOf],⟨_,List.getElem_mem hi,he⟩,by omega⟩
 ·obtain⟨q1,q2,q3⟩:=hP
  have rl:=zbr q1 hl0 ol
  have r4:=zbr q1 (by omega) p4
  have hsy:SM M.next M y:=fun j hj=>(q1 j (by omega)).trans (hs1 j hj)
  rw[dF (fun⟨e,h1,h2⟩=>q3.all e h1 h2)] at hk
  refine rgEnd_nrm rl ?_
  repeat' (first| (simp(disch:=((try simp only[new_next,put_next,del_next]);omega)) [r4];first|done| ((first|simp only[zk,zi,zj,zg,zh,zb]|simp only[zf,ze]|rw[za]);split)|skip)| ((first|simp only[zk,zi,zj,zg,zh,zb]|simp only[zf,ze]|rw[za]);split))
  exact Back.plain (by simp) (by repeat' (first|assumption|exact SM_refl _ _|apply SM_put|apply SM_new|apply SM_del| ((try simp only[new_next,put_next,del_next]);omega))) hk
 ·obtain⟨q1,q2,q3,q4,q5⟩:=hR
  rw[dT q4] at hk
  refine rgEnd_ret q3 ?_
  repeat' (first| (simp(disch:=((try simp only[new_next,put_next,del_next]);omega)) [q2];first|done| ((first|simp only[zk,zi,zj,zg,zh,zb]|simp only[zf,ze]|rw[za]);split)|skip)| ((first|simp only[zk,zi,zj,zg,zh,zb]|simp only[zf,ze]|rw[za]);split))
  exact Back.plain (by simp) (by repeat' (first|assumption|exact SM_refl _ _|apply SM_put|apply SM_new|apply SM_del| ((try simp only[new_next,put_next,del_next]);omega))) hk
end Go.Ideal.S
namespace Go.Ideal.S
open Go Go.Ideal Q Classical
attribute [local simp] decide_eq_true decide_eq_false zcJ
variable {M:VM} {k kp:DV→VM→Prop} {n0:Nat}
attribute [local simp] c_q f_q r_q_1 r_q_2 r_q_3 r_q_4 r_q_5 r_q_6 r_q_7 r_q_8 r_q_9 r_q_10 r_q_11 r_q_12 c_o f_o r_o_1 r_o_2 r_o_3 r_o_4 r_o_5 r_o_6 r_o_7 r_o_8 r_o_9 r_o_10 r_o_11 r_o_12 r_o_13 r_o_14
theorem openB_any {g:Gr} (hg:zhx g) {l:List Int} (hE:zba g.es l) (a:Int):(g.es.any fun e=>(ze0 g l).testBit e.f.toNat&&decide (e.a=a))=decide (zgw g.es (onF g l) a):=by
 rw[Bool.eq_iff_iff]
 simp only[List.any_eq_true,Bool.and_eq_true,decide_eq_true_eq]
 constructor
 ·rintro⟨e,he,h1,h2⟩
  have h0:=(hg.ok e he).f0
  exact⟨e,he,(onF_iff hg hE h0).2 ((ziZ hg hE h0).1 h1),h2⟩
 ·rintro⟨e,he,h1,h2⟩
  have h0:=(hg.ok e he).f0
  exact⟨e,he,(ziZ hg hE h0).2 ((onF_iff hg hE h0).1 h1),h2⟩
theorem jstarves_ok (g:Gr) (hl:g.es.length≤1000000) (l:List Int) (a:Int) (h2:l.length≤1000000) (hk:k (.tup [.bool (zjI g l a).1,I (zjI g l a).2]) M):zt F (.fn n_q [] []) [.agg (eGr g),ints l,I a] M k kp:=by
 apply zt.back
 refine .fn h_jam_Starves rfl (by simp[f_q]) ?_
 unfold zjI at hk
 by_cases h4:4000<l.length
 ·rw[if_pos h4] at hk
  repeat' (first| (simp(disch:=((try simp only[new_next,put_next,del_next]);omega)) [eGr,h4];first|done| ((first|simp only[zk,zi,zj,zg,zh,zb]|simp only[zf,ze]|rw[za]);split)|skip)| ((first|simp only[zk,zi,zj,zg,zh,zb]|simp only[zf,ze]|rw[za]);split))
  exact Back.plain (by simp) (by repeat' (first|assumption|exact SM_refl _ _|apply SM_put|apply SM_new|apply SM_del| ((try simp only[new_next,put_next,del_next]);omega))) hk
 rw[if_neg h4] at hk
 repeat' (first| (simp(disch:=((try simp only[new_next,put_next,del_next]);omega)) [eGr];first|done| ((first|simp only[zk,zi,zj,zg,zh,zb]|simp only[zf,ze]|rw[za]);split)|skip)| ((first|simp only[zk,zi,zj,zg,zh,zb]|simp only[zf,ze]|rw[za]);split))
 refine ziB g hl a l h2 ?_
 by_cases hKE:zfv g a∧zba g.es l
 ·rw[if_pos hKE] at hk
  obtain⟨hK,hE⟩:=hKE
  cases l with
  |nil=>
   rw[dF (fun h=>h.1 rfl)] at hk
   repeat' (first| (simp(disch:=((try simp only[new_next,put_next,del_next]);omega)) [hK,hE,eGr];first|done| ((first|simp only[zk,zi,zj,zg,zh,zb]|simp only[zf,ze]|rw[za]);split)|skip)| ((first|simp only[zk,zi,zj,zg,zh,zb]|simp only[zf,ze]|rw[za]);split))
   exact Back.plain (by simp) (by repeat' (first|assumption|exact SM_refl _ _|apply SM_put|apply SM_new|apply SM_del| ((try simp only[new_next,put_next,del_next]);omega))) hk
  |cons x0 l0=>
   obtain⟨z0,z1⟩:=hE x0 (by simp)
   obtain⟨c,rfl⟩:=Int.eq_ofNat_of_zero_le z0
   have hcl:c<g.es.length:=by omega
   have hh:headF g.es ((c:Int)::l0)=g.es[c].f:=by simp[headF,zeT hcl]
   have hf0:=(hK.1.ok _ (List.getElem_mem hcl)).f0
   have htt: ∀e∈g.es,0≤e.t:=fun e he=>(hK.1.ok e he).t0
   have hS:zkf g ((c:Int)::l0) a↔zcf g.es a g.es[c].f ((c:Int)::l0)=g.es[c].f∧zja g ((c:Int)::l0) a∧zgw g.es (onF g ((c:Int)::l0)) a:=by
    unfold zkf;rw[hh];simp
   repeat' (first| (simp(disch:=((try simp only[new_next,put_next,del_next]);omega)) [hK,hE,eGr,eInt,zJ,hcl];first|done| ((first|simp only[zk,zi,zj,zg,zh,zb]|simp only[zf,ze]|rw[za]);split)|skip)| ((first|simp only[zk,zi,zj,zg,zh,zb]|simp only[zf,ze]|rw[za]);split))
   refine zgU g _ a _ h2 hE hf0 htt ?_
   generalize hl1:(c:Int)::l0=l at*
   clear hl1
   generalize g.es[c].f=f at*
   repeat' (first| (simp(disch:=((try simp only[new_next,put_next,del_next]);omega)) [eGr];first|done| ((first|simp only[zk,zi,zj,zg,zh,zb]|simp only[zf,ze]|rw[za]);split)|skip)| ((first|simp only[zk,zi,zj,zg,zh,zb]|simp only[zf,ze]|rw[za]);split))
   refine jfair_ok g hK.1 l a h2 hE ?_
   by_cases hp:zcf g.es a f l=f
   ·by_cases hF:zja g l a
    ·repeat' (first| (simp(disch:=((try simp only[new_next,put_next,del_next]);omega)) [hp,hF,hf0,eGr];first|done| ((first|simp only[zk,zi,zj,zg,zh,zb]|simp only[zf,ze]|rw[za]);split)|skip)| ((first|simp only[zk,zi,zj,zg,zh,zb]|simp only[zf,ze]|rw[za]);split))
     refine jopen_ok g _ a hl (bitsF_lt hK.1 hE) (fun e he=> ?_) ?_
     ·have h:=hK.1.ok e he;have:=h.f0;have:=h.f1;have:=hK.1.s2;omega
     rw[openB_any hK.1 hE]
     have e:decide (zgw g.es (onF g l) a)=decide (zkf g l a):=decide_eq_decide.2 ⟨fun h=>hS.2 ⟨hp,hF,h⟩,fun h=>(hS.1 h).2.2⟩
     have hk2:k (.tup [.bool (decide (zgw g.es (onF g l) a)),I 0]) M:=by rw[e];exact hk
     clear hk e
     generalize decide (zgw g.es (onF g l) a)=b at*
     repeat' (first| (simp(disch:=((try simp only[new_next,put_next,del_next]);omega));first|done| ((first|simp only[zk,zi,zj,zg,zh,zb]|simp only[zf,ze]|rw[za]);split)|skip)| ((first|simp only[zk,zi,zj,zg,zh,zb]|simp only[zf,ze]|rw[za]);split))
     exact Back.plain (by simp) (by repeat' (first|assumption|exact SM_refl _ _|apply SM_put|apply SM_new|apply SM_del| ((try simp only[new_next,put_next,del_next]);omega))) hk2
    ·rw[dF (fun h=>hF (hS.1 h).2.1)] at hk
     repeat' (first| (simp(disch:=((try simp only[new_next,put_next,del_next]);omega)) [hp,hF,hf0,eGr];first|done| ((first|simp only[zk,zi,zj,zg,zh,zb]|simp only[zf,ze]|rw[za]);split)|skip)| ((first|simp only[zk,zi,zj,zg,zh,zb]|simp only[zf,ze]|rw[za]);split))
     exact Back.plain (by simp) (by repeat' (first|assumption|exact SM_refl _ _|apply SM_put|apply SM_new|apply SM_del| ((try simp only[new_next,put_next,del_next]);omega))) hk
   ·rw[dF (fun h=>hp (hS.1 h).1)] at hk
    by_cases h0:0≤zcf g.es a f l
    ·repeat' (first| (simp(disch:=((try simp only[new_next,put_next,del_next]);omega)) [hp,h0,eGr];first|done| ((first|simp only[zk,zi,zj,zg,zh,zb]|simp only[zf,ze]|rw[za]);split)|skip)| ((first|simp only[zk,zi,zj,zg,zh,zb]|simp only[zf,ze]|rw[za]);split))
     exact Back.plain (by simp) (by repeat' (first|assumption|exact SM_refl _ _|apply SM_put|apply SM_new|apply SM_del| ((try simp only[new_next,put_next,del_next]);omega))) hk
    ·repeat' (first| (simp(disch:=((try simp only[new_next,put_next,del_next]);omega)) [hp,h0,eGr];first|done| ((first|simp only[zk,zi,zj,zg,zh,zb]|simp only[zf,ze]|rw[za]);split)|skip)| ((first|simp only[zk,zi,zj,zg,zh,zb]|simp only[zf,ze]|rw[za]);split))
     exact Back.plain (by simp) (by repeat' (first|assumption|exact SM_refl _ _|apply SM_put|apply SM_new|apply SM_del| ((try simp only[new_next,put_next,del_next]);omega))) hk
 ·rw[if_neg hKE] at hk
  repeat' (first| (simp(disch:=((try simp only[new_next,put_next,del_next]);omega)) [hKE,eGr];first|done| ((first|simp only[zk,zi,zj,zg,zh,zb]|simp only[zf,ze]|rw[za]);split)|skip)| ((first|simp only[zk,zi,zj,zg,zh,zb]|simp only[zf,ze]|rw[za]);split))
  exact Back.plain (by simp) (by repeat' (first|assumption|exact SM_refl _ _|apply SM_put|apply SM_new|apply SM_del| ((try simp only[new_next,put_next,del_next]);omega))) hk
theorem jisAround_ok (g:Gr) (hl:g.es.length≤1000000) (way ring:List Int) (a:Int) (h1:way.length≤1000000) (h2:ring.length≤1000000) (hk:k (.tup [.bool (zgY g way ring a).1,I (zgY g way ring a).2]) M):zt F (.fn n_o [] []) [.agg (eGr g),ints way,ints ring,I a] M k kp:=by
 apply zt.back
 refine .fn zjp rfl (by simp[f_o]) ?_
 unfold zgY at hk
 by_cases h4:4000<way.length∨4000<ring.length
 ·rw[if_pos h4] at hk
  repeat' (first| (simp(disch:=((try simp only[new_next,put_next,del_next]);omega)) [eGr];first|done| ((first|simp only[zk,zi,zj,zg,zh,zb]|simp only[zf,ze]|rw[za]);split)|skip)| ((first|simp only[zk,zi,zj,zg,zh,zb]|simp only[zf,ze]|rw[za]);split))
  all_goals first|omega|exact Back.plain (by simp) (by repeat' (first|assumption|exact SM_refl _ _|apply SM_put|apply SM_new|apply SM_del| ((try simp only[new_next,put_next,del_next]);omega))) hk
 rw[if_neg h4] at hk
 have h5: ¬4000<(way.length:Int):=by omega
 have h6: ¬4000<(ring.length:Int):=by omega
 repeat' (first| (simp(disch:=((try simp only[new_next,put_next,del_next]);omega)) [eGr,h5,h6];first|done| ((first|simp only[zk,zi,zj,zg,zh,zb]|simp only[zf,ze]|rw[za]);split)|skip)| ((first|simp only[zk,zi,zj,zg,zh,zb]|simp only[zf,ze]|rw[za]);split))
 refine ziB g hl a way h1 ?_
 by_cases hKE:zfv g a∧zba g.es way
 ·obtain⟨hK,hE⟩:=hKE
  repeat' (first| (simp(disch:=((try simp only[new_next,put_next,del_next]);omega)) [hK,hE,eGr];first|done| ((first|simp only[zk,zi,zj,zg,zh,zb]|simp only[zf,ze]|rw[za]);split)|skip)| ((first|simp only[zk,zi,zj,zg,zh,zb]|simp only[zf,ze]|rw[za]);split))
  refine ziB g hl a ring h2 ?_
  by_cases hE2:zba g.es ring
  ·rw[if_pos ⟨hK,hE,hE2⟩] at hk
   have htt: ∀e∈g.es,0≤e.t:=fun e he=>(hK.1.ok e he).t0
   repeat' (first| (simp(disch:=((try simp only[new_next,put_next,del_next]);omega)) [hK,hE2,eGr];first|done| ((first|simp only[zk,zi,zj,zg,zh,zb]|simp only[zf,ze]|rw[za]);split)|skip)| ((first|simp only[zk,zi,zj,zg,zh,zb]|simp only[zf,ze]|rw[za]);split))
   refine zgU g 0 a way h1 hE (by omega) htt ?_
   unfold AroundP at hk
   generalize zcf g.es a 0 way=e at*
   by_cases he:0≤e
   ·cases ring with
    |nil=>
     rw[if_pos rfl] at hk
     repeat' (first| (simp(disch:=((try simp only[new_next,put_next,del_next]);omega)) [eGr,he];first|done| ((first|simp only[zk,zi,zj,zg,zh,zb]|simp only[zf,ze]|rw[za]);split)|skip)| ((first|simp only[zk,zi,zj,zg,zh,zb]|simp only[zf,ze]|rw[za]);split))
     refine ends_ok g hl e ?_
     by_cases hs:zg0 g.es e
     ·rw[dF (fun h=>h.2 hs)] at hk
      repeat' (first| (simp(disch:=((try simp only[new_next,put_next,del_next]);omega)) [hs];first|done| ((first|simp only[zk,zi,zj,zg,zh,zb]|simp only[zf,ze]|rw[za]);split)|skip)| ((first|simp only[zk,zi,zj,zg,zh,zb]|simp only[zf,ze]|rw[za]);split))
      exact Back.plain (by simp) (by repeat' (first|assumption|exact SM_refl _ _|apply SM_put|apply SM_new|apply SM_del| ((try simp only[new_next,put_next,del_next]);omega))) hk
     ·rw[dT ⟨he,hs⟩] at hk
      repeat' (first| (simp(disch:=((try simp only[new_next,put_next,del_next]);omega)) [hs];first|done| ((first|simp only[zk,zi,zj,zg,zh,zb]|simp only[zf,ze]|rw[za]);split)|skip)| ((first|simp only[zk,zi,zj,zg,zh,zb]|simp only[zf,ze]|rw[za]);split))
      exact Back.plain (by simp) (by repeat' (first|assumption|exact SM_refl _ _|apply SM_put|apply SM_new|apply SM_del| ((try simp only[new_next,put_next,del_next]);omega))) hk
    |cons x0 l0=>
     rw[if_neg (by simp)] at hk
     generalize hl1:x0::l0=l at*
     have hll:l≠[]:=by rw[←hl1];simp
     repeat' (first| (simp(disch:=((try simp only[new_next,put_next,del_next]);omega)) [eGr,hll,he];first|done| ((first|simp only[zk,zi,zj,zg,zh,zb]|simp only[zf,ze]|rw[za]);split)|skip)| ((first|simp only[zk,zi,zj,zg,zh,zb]|simp only[zf,ze]|rw[za]);split))
     refine zgU g e a l h2 hE2 he htt ?_
     repeat' (first| (simp(disch:=((try simp only[new_next,put_next,del_next]);omega)) [eGr];first|done| ((first|simp only[zk,zi,zj,zg,zh,zb]|simp only[zf,ze]|rw[za]);split)|skip)| ((first|simp only[zk,zi,zj,zg,zh,zb]|simp only[zf,ze]|rw[za]);split))
     refine jfair_ok g hK.1 l (-1) h2 hE2 ?_
     by_cases hp:zcf g.es a e l=e
     ·by_cases hF:zja g l (-1)
      ·rw[dT ⟨he,hp,hF⟩] at hk
       repeat' (first| (simp(disch:=((try simp only[new_next,put_next,del_next]);omega)) [hp,he,hF];first|done| ((first|simp only[zk,zi,zj,zg,zh,zb]|simp only[zf,ze]|rw[za]);split)|skip)| ((first|simp only[zk,zi,zj,zg,zh,zb]|simp only[zf,ze]|rw[za]);split))
       exact Back.plain (by simp) (by repeat' (first|assumption|exact SM_refl _ _|apply SM_put|apply SM_new|apply SM_del| ((try simp only[new_next,put_next,del_next]);omega))) hk
      ·rw[dF (fun h=>hF h.2.2)] at hk
       repeat' (first| (simp(disch:=((try simp only[new_next,put_next,del_next]);omega)) [hp,he,hF];first|done| ((first|simp only[zk,zi,zj,zg,zh,zb]|simp only[zf,ze]|rw[za]);split)|skip)| ((first|simp only[zk,zi,zj,zg,zh,zb]|simp only[zf,ze]|rw[za]);split))
       exact Back.plain (by simp) (by repeat' (first|assumption|exact SM_refl _ _|apply SM_put|apply SM_new|apply SM_del| ((try simp only[new_next,put_next,del_next]);omega))) hk
     ·rw[dF (fun h=>hp h.2.1)] at hk
      by_cases h0:0≤zcf g.es a e l
      ·repeat' (first| (simp(disch:=((try simp only[new_next,put_next,del_next]);omega)) [hp,h0];first|done| ((first|simp only[zk,zi,zj,zg,zh,zb]|simp only[zf,ze]|rw[za]);split)|skip)| ((first|simp only[zk,zi,zj,zg,zh,zb]|simp only[zf,ze]|rw[za]);split))
       exact Back.plain (by simp) (by repeat' (first|assumption|exact SM_refl _ _|apply SM_put|apply SM_new|apply SM_del| ((try simp only[new_next,put_next,del_next]);omega))) hk
      ·repeat' (first| (simp(disch:=((try simp only[new_next,put_next,del_next]);omega)) [hp,h0];first|done| ((first|simp only[zk,zi,zj,zg,zh,zb]|simp only[zf,ze]|rw[za]);split)|skip)| ((first|simp only[zk,zi,zj,zg,zh,zb]|simp only[zf,ze]|rw[za]);split))
       exact Back.plain (by simp) (by repeat' (first|assumption|exact SM_refl _ _|apply SM_put|apply SM_new|apply SM_del| ((try simp only[new_next,put_next,del_next]);omega))) hk
   ·rw[dF (fun h=>he h.1)] at hk
    repeat' (first| (simp(disch:=((try simp only[new_next,put_next,del_next]);omega)) [eGr,he];first|done| ((first|simp only[zk,zi,zj,zg,zh,zb]|simp only[zf,ze]|rw[za]);split)|skip)| ((first|simp only[zk,zi,zj,zg,zh,zb]|simp only[zf,ze]|rw[za]);split))
    exact Back.plain (by simp) (by repeat' (first|assumption|exact SM_refl _ _|apply SM_put|apply SM_new|apply SM_del| ((try simp only[new_next,put_next,del_next]);omega))) hk
  ·rw[if_neg (fun h=>hE2 h.2.2)] at hk
   repeat' (first| (simp(disch:=((try simp only[new_next,put_next,del_next]);omega)) [hK,hE2,eGr];first|done| ((first|simp only[zk,zi,zj,zg,zh,zb]|simp only[zf,ze]|rw[za]);split)|skip)| ((first|simp only[zk,zi,zj,zg,zh,zb]|simp only[zf,ze]|rw[za]);split))
   exact Back.plain (by simp) (by repeat' (first|assumption|exact SM_refl _ _|apply SM_put|apply SM_new|apply SM_del| ((try simp only[new_next,put_next,del_next]);omega))) hk
 ·rw[if_neg (fun h=>hKE ⟨h.1,h.2.1⟩)] at hk
  repeat' (first| (simp(disch:=((try simp only[new_next,put_next,del_next]);omega)) [hKE,eGr];first|done| ((first|simp only[zk,zi,zj,zg,zh,zb]|simp only[zf,ze]|rw[za]);split)|skip)| ((first|simp only[zk,zi,zj,zg,zh,zb]|simp only[zf,ze]|rw[za]);split))
  exact Back.plain (by simp) (by repeat' (first|assumption|exact SM_refl _ _|apply SM_put|apply SM_new|apply SM_del| ((try simp only[new_next,put_next,del_next]);omega))) hk
end Go.Ideal.S
