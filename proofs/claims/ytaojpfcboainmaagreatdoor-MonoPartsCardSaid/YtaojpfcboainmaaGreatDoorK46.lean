/- A part of the proof: contracts of functions and plain laws (QlU, TuD, MnF, AlvM). -/
import Derived.Test.YtaojpfcboainmaaGreatDoorK41
import Derived.Test.YtaojpfcboainmaaGreatDoorK45
import Derived.Laws.StructEq
import Derived.Test.YtaojpfcboainmaaGreatDoorK44
set_option linter.unusedVariables false
set_option linter.unusedSimpArgs false
set_option maxHeartbeats 25600000
set_option maxRecDepth 100000
namespace Go.Proofs.YtaojpfcboainmaaGreatDoor
section
open Go.RowKit Go.Maps
open Re (rat ofI ofN)
open Nat renaming le_trans->atJ
section
variable{wa wb wc P0 P1 Q0 Q1:Nat}{A B C a1 a2 b1 b2:Int}(ha:Iw wa A)(hb:Iw wb B)(hc:Iw wc C)(h1:Iw P0 a1)(h2:Iw P1 a2)(h3:Iw Q0 b1)(h4:Iw Q1 b2)(c1:A.natAbs<=6)(c2:B.natAbs<=6)(c3:C.natAbs<=36)(d1:a1.natAbs<=22)(d2:a2.natAbs<=22)(d3:b1.natAbs<=22)(d4:b2.natAbs<=22)
include ha hb hc h1 h2 h3 h4 c1 c2 c3 d1 d2 d3 d4
end
def arX(X Y U V I Kk:Int)(r:Bool)(p0 p1 q0 q1 wx wy wa wb wc:Nat)(kd A B C a1 a2 b1 b2:Int):Prop:=
 arC X Y U V I Kk wx wy r kd wa wb wc p0 p1 q0 q1/\(kd=1\/kd=2/\wc=4627730092099895296/\C=25)/\(Iw wa A/\Iw wb B/\Iw wc C/\Iw p0 a1/\Iw p1 a2/\Iw q0 b1/\Iw q1 b2)/\A.natAbs<=6/\B.natAbs<=6/\C.natAbs<=36/\a1.natAbs<=21/\a2.natAbs<=21/\b1.natAbs<=21/\b2.natAbs<=21
theorem aqU(r:Bool)(X Y U V I Kk:Int):∃p0 p1 q0 q1 wx wy wa wb wc kd A B C a1 a2 b1 b2,arX X Y U V I Kk r p0 p1 q0 q1 wx wy wa wb wc kd A B C a1 a2 b1 b2:=by
 cases r
 . have bx:(X.tmod 7).natAbs<=6:=tmb X 7 (by decide);have b_y:(Y.tmod 7).natAbs<=6:=tmb Y 7 (by decide)
   have bu:(U.tmod 4).natAbs<=3:=tmb U 4 (by decide);have bv:(V.tmod 4).natAbs<=3:=tmb V 4 (by decide);have bs:(I.tmod 6).natAbs<=5:=tmb I 6 (by decide);have bt:(Kk.tmod 6).natAbs<=5:=tmb Kk 6 (by decide);have wx:=flw bx;have wy:=flw b_y;have wu:=flw (atJ bu (by decide));have wv:=flw (atJ bv (by decide));have ws:=flw (atJ bs (by decide));have wt:=flw (atJ bt (by decide));have p1:=nab bv bx;have p2:=nab bu b_y;have p3:=nab bs bu;have p4:=nab bs bv;have p5:=nab bt bu;have p6:=nab bt bv;have z0:=nsub p1 p2;have z1:=nadd bx p3;have z2:=nadd b_y p4;have z3:=nadd bx p5;have z4:=nadd b_y p6;obtain⟨m1,n1,i1⟩:=ap8 wv wx (nlt p1);obtain⟨m2,n2,i2⟩:=ap8 wu wy (nlt p2);obtain⟨wc,n3,i3⟩:=arR i1 i2 (nlt z0);obtain⟨a1,o1,j1⟩:=ap8 ws wu (nlt p3);obtain⟨q1,o2,k1⟩:=alC wx j1 (nlt z1);obtain⟨a2,o3,j2⟩:=ap8 ws wv (nlt p4);obtain⟨q2,o4,k2⟩:=alC wy j2 (nlt z2);obtain⟨a3,o5,j3⟩:=ap8 wt wu (nlt p5);obtain⟨q3,o6,k3⟩:=alC wx j3 (nlt z3);obtain⟨a4,o7,j4⟩:=ap8 wt wv (nlt p6);obtain⟨q4,o8,k4⟩:=alC wy j4 (nlt z4)
   exact⟨q1,q2,q3,q4,_,_,_,_,wc,1,_,_,_,_,_,_,_,⟨rfl,rfl,Or.inr ⟨rfl,rfl,_,_,_,m1,m2,a1,a2,a3,a4,rfl,rfl,rfl,n1,n2,n3,rfl,rfl,o1,o2,o3,o4,o5,o6,o7,o8⟩⟩,Or.inl rfl,⟨wv,arJ wu,i3,k1,k2,k3,k4⟩,atJ bv (by decide),by rw[Int.natAbs_neg];exact atJ bu (by decide),z0,z1,z2,z3,z4⟩
 . obtain⟨J,hJ,hI⟩:=alQ I;obtain⟨L,hL,hK⟩:=alQ Kk
   obtain⟨hx,bx,⟨p0,a1,i1,b1⟩,-⟩:=rY X hJ rfl;obtain⟨hy,b_y,-,p1,a2,i2,b2⟩:=rY Y hJ rfl;obtain⟨-,-,⟨q0,a3,i3,b3⟩,-⟩:=rY X hL rfl;obtain⟨-,-,-,q1,a4,i4,b4⟩:=rY Y hL rfl;exact⟨p0,p1,q0,q1,_,_,_,_,_,_,_,_,_,_,_,_,_,⟨rfl,rfl,Or.inl ⟨rfl,rfl,rfl,rfl,rfl,J,L,hJ,hI,hL,hK,a1,a2,a3,a4⟩⟩,Or.inr ⟨rfl,rfl,rfl⟩,⟨hx,hy,arS,i1,i2,i3,i4⟩,by omega,by omega,by omega,by omega,by omega,by omega,by omega⟩
end
section
open Go.RowKit Go.Maps Go.Stop Go.Extern
theorem aqD{a:Nat}(h:FlOk a):(FloatKind.f64.format.order a a==some Ordering.eq)=true:=by
 rw[rM h.2.num h.2.num];exact decide_eq_true rfl
theorem arT(d a b:Nat)(w:World):(Op.equalIn (d+1) 31 (.float .f64 a) (.float .f64 b)).run Tryz.prog w=.ok (FloatKind.f64.format.order a b==some Ordering.eq) w:=by
 simp[Op.equalIn,run_underlying Tryz.underlying31];rfl
theorem arU(d:Nat)(a:Addr)(w:World):(Op.equalIn (d+1) 25 (.pointer (some a)) (.pointer (some a))).run Tryz.prog w=.ok true w:=by
 simp[Op.equalIn,run_underlying amL];exact run_sameAddr_same _ _
theorem arN{g wa wb wc i j k m:Nat}{kd:Int}(h1:FlOk wa)(h2:FlOk wb)(h3:FlOk wc)(w:World):(binOp .neq 39 (arcW g kd wa wb wc i j k m) (arcW g kd wa wb wc i j k m)).run Tryz.prog w=.ok (.bool false) w:=by
 have e1:=aqD h1;have e2:=aqD h2;have e3:=aqD h3;simp only[run_neq_struct];rw[run_equalIn_agg w 9999 39 _ _ (by kernel_rfl) (by kernel_rfl)];simp[go_sem,Program.fieldsOf,Tryz.underlying39,arT 9997,arU 9996,e1,e2,e3]
end
section
open Go.RowKit Go.Maps
open List renaming mem_cons->atK,getElem?_cons_succ->atL,mem_cons_of_mem->atM,mem_cons_self->atN
variable{av:Array Value}{K0:List (Ex×Nat)}{d d' g:Nat}
theorem FnOk.more {f:FuncId}{V:List Nat->Value}{es:List Ex}(h:FnOk f g d av K0 V es)(hd:d<=d'):FnOk f g d' av K0 V es:=fun s N K l W hR hN hK=>(h s N K l W hR (by omega) hK).mono fun _ _ ⟨ks,h1,h2,h3⟩=>⟨ks,h1,h2,h3.more (by omega)⟩
theorem FnAny.more {f:FuncId}{P:List (Ex×Nat)->List (Nat×Obj)->Ending->Prop}(h:FnAny f g d av K0 P)(hd:d<=d'):FnAny f g d' av K0 P:=fun s N K l W hR hN hK=>(h s N K l W hR (by omega) hK).mono fun _ _ ⟨ks,l1,h1,h2⟩=>⟨ks,l1,h1,h2.more (by omega)⟩
def aqO(kd:Int)(wa wb wc:Nat)(es:List (Ex×Ex))(E F:Ex×Ex):Prop:=
 (∀g i j k l,FnOk 13 g 20 #[.pointer (some ⟨g,0,none⟩),alM g kd wa wb wc i j k l] [(E.1,i),(E.2,j),(F.1,k),(F.2,l)] (fun _=>.nilIface) [])/\
 ∀g i j k l,FnAny 23 g 107 #[.pointer (some ⟨g,0,none⟩),alM g kd wa wb wc i j k l] [(E.1,i),(E.2,j),(F.1,k),(F.2,l)] (pO g es)
def arD(kd:Int)(wa wb wc:Nat)(A B:Ex×Ex)(es:List (Ex×Ex)):Prop:=
 es.length<=2/\aqO kd wa wb wc es A B/\(∀p∈chain A (es++[B]),aqO kd wa wb wc [] p.1 p.2)/\∀e∈A::(es++[B]),iK PT e.1 e.2 e.1 e.2 0
section
variable{x y:Int}{wx wy:Nat}{A B:Ex×Ex}{a b:Nat}
theorem arE(hC:Cen wx wy x y)(h:Pv x y A a)(g:Pv x y B b)(ha:a<12)(hb:b<12):aqO 2 wx wy w25 (mR wx wy w25 (tF a b)) A B:=by
 have hT:=anL hC h g ha hb;exact⟨fun _ _ _ _ _=>(xD hT.1.1 hT.1.2 hT.2.1.1 hT.2.1.2.1).more (by omega),fun _ _ _ _ _=>xF hT⟩
theorem aqZ(h:Pv x y A a):iK PT A.1 A.2 A.1 A.2 0:=by
 obtain⟨z,h1,h2⟩:=pM h.1 h.2 h.1 h.2;obtain rfl:z=0:=by simpa using h2
 exact h1
def PvL(x y:Int):List (Ex×Ex)->List Nat->Prop
 |[],[]=>True
 |e::es,j::js=>(Pv x y e j/\j<12)/\PvL x y es js
 |_,_=>False
theorem arF(hC:Cen wx wy x y)(h:Pv x y B b)(hb:b<12):∀{l:List Nat},(∀j∈l,j=6\/j=0)->PvL x y (mR wx wy w25 l++[B]) (l++[b])
 |[],_=>⟨⟨h,hb⟩,trivial⟩
 |j::l,hl=>by
  refine⟨?_,arF hC h hb (fun i hi=>hl i (atM _ hi))⟩;obtain⟨e1,e2⟩:=afR hC;rcases hl j (atN ..)with rfl|rfl
  . exact⟨e1,by decide⟩
  . exact⟨e2,by decide⟩
theorem aqI:∀{A:Ex×Ex} {a:Nat} {es:List (Ex×Ex)} {js:List Nat},Pv x y A a->a<12->PvL x y es js->∀p∈chain A es,∃c d,(c,d)∈chain a js/\Pv x y p.1 c/\c<12/\Pv x y p.2 d/\d<12
 |_,_,[],_,_,_,_,p,hp=>by simp[chain]at hp
 |_,_,_::_,[],_,_,h,_,_=>h.elim
 |A,a,e::es,j::js,h,ha,hl,p,hp=>by
  rcases atK.1 hp with rfl|hp
  . exact⟨a,j,atN ..,h,ha,hl.1.1,hl.1.2⟩
  . obtain⟨c,d,h1,h2⟩:=aqI hl.1.1 hl.1.2 hl.2 p hp
    exact⟨c,d,atM _ h1,h2⟩
theorem aqP:∀{es:List (Ex×Ex)} {js:List Nat},PvL x y es js->∀e∈es,iK PT e.1 e.2 e.1 e.2 0
 |[],_,_,_,he=>by cases he
 |_::_,[],h,_,_=>h.elim
 |e::es,j::js,h,f,he=>by
  rcases atK.1 he with rfl|he
  . exact aqZ h.1.1
  . exact aqP h.2 f he
theorem aqV(hC:Cen wx wy x y)(h:Pv x y A a)(g:Pv x y B b)(ha:a<12)(hb:b<12):arD 2 wx wy w25 A B (mR wx wy w25 (tF a b)):=by
 have hl:=arF hC g hb (alT a b);refine⟨by unfold mR;rw[List.length_map];exact ac0 a b,arE hC h g ha hb,fun p hp=> ?_,fun e he=> ?_⟩
 . obtain⟨c,d,h1,h2,h3,h4,h5⟩:=aqI h ha hl p hp
   have e:=List.all_eq_true.1 (aq1 ⟨a,ha⟩ ⟨b,hb⟩) (c,d) h1;have e2:tF c d=[]:=by simpa using e
   have:=arE hC h2 h4 h3 h5;rw[e2]at this;exact this
 . rcases atK.1 he with rfl|he
   . exact aqZ h
   . exact aqP hl e he
end
def arV(kd:Int)(wa wb wc p0 p1 q0 q1:Nat):Prop:=(∀g i j k m,aqT g (arcW g kd wa wb wc i j k m) [(.leaf p0,i),(.leaf p1,j),(.leaf q0,k),(.leaf q1,m)] false)\/∃es,arD kd wa wb wc (.leaf p0,.leaf p1) (.leaf q0,.leaf q1) es
theorem aqQ(r:Bool)(X Y U V I Kk:Int):∃(kd:Int) (wa wb wc p0 p1 q0 q1 wx wy:Nat),arC X Y U V I Kk wx wy r kd wa wb wc p0 p1 q0 q1/\(FlOk p0/\FlOk p1/\FlOk q0/\FlOk q1)/\(FlOk wa/\FlOk wb/\FlOk wc)/\arV kd wa wb wc p0 p1 q0 q1:=by
 cases r
 . obtain⟨p0,p1,q0,q1,wx,wy,wa,wb,wc,kd,A,B,C,a1,a2,b1,b2,hM,hk,⟨ha,hb,hc,h1,h2,h3,h4⟩,c1,c2,c3,d1,d2,d3,d4⟩:=aqU false X Y U V I Kk
   obtain rfl:kd=1:=by
    rcases hM.2.2 with ⟨e,-⟩|⟨-,e,-⟩
    . cases e
    . exact e
   refine⟨1,wa,wb,wc,p0,p1,q0,q1,wx,wy,hM,⟨h1.1,h2.1,h3.1,h4.1⟩,⟨ha.1,hb.1,hc.1⟩,?_⟩;replace d1:a1.natAbs<=22:=by omega
   replace d2:a2.natAbs<=22:=by omega
   replace d3:b1.natAbs<=22:=by omega
   replace d4:b2.natAbs<=22:=by omega
   by_cases hl:ap7 wa wb wc
   . have h:=arB h1 h2 h3 h4 d1 d2 d3 d4
     have z1:iK PT (.leaf p0) (.leaf p1) (.leaf p0) (.leaf p1) 0:=aqH a1 a2▸arB h1 h2 h1 h2 d1 d2 d1 d2;have z2:iK PT (.leaf q0) (.leaf q1) (.leaf q0) (.leaf q1) 0:=aqH b1 b2▸arB h3 h4 h3 h4 d3 d4 d3 d4;have F:=fun g i j k m=>arK (g:=g) (i:=i) (j:=j) (k:=k) (l:=m) hl (aqX ha hb hc h1 h2 c1 c2 c3 d1 d2) (aqX ha hb hc h3 h4 c1 c2 c3 d3 d4) h
     cases e:((A*a1+B*a2-C).sign==0&&(A*b1+B*b2-C).sign==0&& !(cmpP a1 a2 b1 b2==0))
     . rw[e]at F
       exact Or.inl fun g i j k m=>arA (F g i j k m) (by omega)
     . rw[e]at F
       have P:aqO 1 wa wb wc [] (.leaf p0,.leaf p1) (.leaf q0,.leaf q1):=⟨F,fun _ _ _ _ _=>turns_line.more (by omega)⟩;refine Or.inr ⟨[],by decide,P,fun p hp=> ?_,fun f hf=> ?_⟩
       . obtain rfl:p=((.leaf p0,.leaf p1),(.leaf q0,.leaf q1)):=by simpa[chain]using hp
         exact P
       . rcases atK.1 hf with rfl|hf
         . exact z1
         . obtain rfl:=List.mem_singleton.1 hf
           exact z2
   . exact Or.inl fun g i j k m=>arM ha.1.1 hb.1.1 hc.1.1 hl
 . obtain⟨J,hJ,hI⟩:=alQ I;obtain⟨L,hL,hK⟩:=alQ Kk
   obtain⟨hx,bx,⟨p0,a1,i1,b1⟩,-⟩:=rY X hJ rfl;obtain⟨hy,b_y,-,p1,a2,i2,b2⟩:=rY Y hJ rfl;obtain⟨-,-,⟨q0,a3,i3,b3⟩,-⟩:=rY X hL rfl;obtain⟨-,-,-,q1,a4,i4,b4⟩:=rY Y hL rfl;exact⟨2,_,_,w25,p0,p1,q0,q1,_,_,⟨rfl,rfl,Or.inl ⟨rfl,rfl,rfl,rfl,rfl,J,L,hJ,hI,hL,hK,a1,a2,a3,a4⟩⟩,⟨i1.1,i2.1,i3.1,i4.1⟩,⟨hx.1,hy.1,afO.1⟩,Or.inr ⟨_,aqV ⟨hx,hy,bx,b_y⟩ (aaS i1 i2 b1 b2) (aaS i3 i4 b3 b4) hJ hL⟩⟩
theorem aq2(p0 q1:Nat):arP 0 p0 q1 p0 q1:=⟨0,by decide,Or.inr (Or.inr ⟨by decide,by decide,rfl,rfl⟩)⟩
theorem KnP.at {K:List (Ex×Nat)}{f q:Nat×Nat}:∀{p:Nat×Nat} {A:Ex×Ex} {m:Nat} {ps:List (Nat×Nat)} {es:List (Ex×Ex)},(A.1,p.1)∈K/\(A.2,p.2)∈K->KnP K es ps->(chain p ps)[m]? =some (f,q)->∃E F,(chain A es)[m]? =some (E,F)/\((E.1,f.1)∈K/\(E.2,f.2)∈K)/\(F.1,q.1)∈K/\(F.2,q.2)∈K
 |_,_,_,[],_,_,_,h=>by simp[chain]at h
 |_,_,_,_::_,[],_,h,_=>h.elim
 |p,A,0,r::ps,e::es,h1,h2,h3=>by
  simp only[chain,List.getElem?_cons_zero,Option.some.injEq,Prod.mk.injEq]at h3;obtain⟨rfl,rfl⟩:=h3;exact⟨A,e,rfl,h1,h2.1⟩
 |p,A,m+1,r::ps,e::es,h1,h2,h3=>by
  rw[chain,atL];exact KnP.at h2.1 h2.2 (by rwa[chain,atL]at h3)
theorem KnP.snoc {K:List (Ex×Nat)}{p:Nat×Nat}{e:Ex×Ex}(h:(e.1,p.1)∈K/\(e.2,p.2)∈K):∀{es:List (Ex×Ex)} {ps:List (Nat×Nat)},KnP K es ps->KnP K (es++[e]) (ps++[p])
 |[],[],_=>⟨h,trivial⟩
 |_::_,_::_,h1=>⟨h1.1,KnP.snoc h h1.2⟩
 |[],_::_,h=>h.elim
 |_::_,[],h=>h.elim
end
section
open Go.RowKit Go.Maps Go.Stop Go.Extern
open List renaming mem_cons_of_mem->atO,mem_append_left->atP
theorem KnP.two {K:List (Ex×Nat)}{e1 e2:Ex×Ex}:∀{ps:List (Nat×Nat)},KnP K [e1,e2] ps->∃p q:Nat×Nat,ps=[p,q]/\((e1.1,p.1)∈K/\(e1.2,p.2)∈K)/\(e2.1,q.1)∈K/\(e2.2,q.2)∈K
 |[p,q],⟨h1,h2,_⟩=>⟨p,q,rfl,h1,h2⟩
 |[],h=>h.elim
 |[_],h=>h.2.elim
 |_::_::_::_,h=>h.2.2.elim
theorem afS:Iw 0 0:=⟨ak8,apX⟩
theorem ap0:Iw 13830554455654793216 (-1):=⟨⟨by decide,by decide⟩,by kernel_rfl⟩
theorem xI:ad9 0 0 4607182418800017408 (.leaf 0) (.leaf 4607182418800017408) (.leaf 0) (.leaf 4607182418800017408) true true true/\iK PT (lfE 0 0 4607182418800017408).1 (lfE 0 0 4607182418800017408).2 (.leaf 13830554455654793216) (.leaf 0) 0/\iK PT (rtE 0 0 4607182418800017408).1 (rtE 0 0 4607182418800017408).2 (.leaf 4607182418800017408) (.leaf 0) 0:=by
 have z0:=oQ (c:=4607182418800017408) afS (by decide);have z1:=oQ (c:=4607182418800017408) iw_1 (by decide);have zm:=oQ (c:=4607182418800017408) ap0 (by decide);obtain⟨e1,e2⟩:=afQ (c:=4607182418800017408) (r:=1) afS (by decide) iw_1 (by decide) (by decide) (by decide);have C:∀{X Y:Ex} {a b:Int},Iv 4607182418800017408 X a->Iv 4607182418800017408 Y b->a*a+b*b=1->dQ PT (fQ 0 0 4607182418800017408 X Y) 0:=fun hx hy e=>alI afS afS iw_1 (by decide) (by decide) (by decide) hx hy (by simpa using e);refine⟨⟨⟨⟨ak8,ak8,iw_1.1,by rw[anZ];exact Int.mul_nonneg (by decide) (Int.natCast_nonneg _)⟩,by decide⟩,⟨C z0 z1 (by decide),C z0 z1 (by decide),C e1 z0 (by decide),C e2 z0 (by decide)⟩,alJ z0 z1 z0 z1 e1 z0,alJ z0 z1 z0 z1 e2 z0,aaR z0 z1 e2 z0 e1 z0⟩,?_,?_⟩
 . obtain⟨z,h1,h2⟩:=pM e1 z0 zm z0
   obtain rfl:z=0:=by simpa using h2
   exact h1
 . obtain⟨z,h1,h2⟩:=pM e2 z0 z1 z0
   obtain rfl:z=0:=by simpa using h2
   exact h1
theorem anM{w:World}(hT:Tab w)(htb:1<w.heap.size):
 Calls Tryz.prog 8 #[] w (RetV w (.bool true)):=by
 have HN:=hdd (aeV (l:=[]) (Below.refl w.heap.size w) (fun p hp=>by cases hp) (by simp) hT htb);clear hT htb;have HX:=hdd xI.2;go_enter Tryz.func8,Tryz.ntmps8
 go_wp2_with fail
 refine HN.out.mono ?_;rintro e W1⟨g,rfl,hR⟩;have HA:=hdd (hR.spot (by omega) (v:=0) (u:=4607182418800017408) (by decide) (by decide) (by decide) (by decide));clear hR HN;dsimp only;go_wp2_with fail
 refine HA.out.mono ?_;rintro e W2⟨i,j,rfl,hR2⟩;obtain⟨w3,hw3,hb3,hs3,b3⟩:=pro1 W2 (aQ g i j);have R3:=hw3▸hR2.alloc (aQ g i j);obtain⟨x0,x1,x2,x3⟩:=aW b3;have hH:=xI.1;have HC:=hdd (acZ (kd:=2) (i:=i) (j:=j) (k:=i) (l:=j) (by decide) (xD hH.1.1 hH.1.2 hH.2.1.1 hH.2.1.2.1) (xF hH) _ _ _ _ w3 R3 (by omega) (by
  intro p hp;simp only[List.mem_cons,List.not_mem_nil,or_false]at hp|-;rcases hp with rfl|rfl|rfl|rfl<;>simp))
 clear hR2 hb3 hs3 b3 R3 hH HA;go_wp2_with fail
 refine HC.out.mono ?_;rintro e W4⟨K1,l1,⟨v,ps,rfl,ho,hk⟩,hR4⟩;obtain⟨p6,p0,rfl,h6,h0⟩:=KnP.two (show KnP K1 [lfE 0 0 4607182418800017408,rtE 0 0 4607182418800017408] ps from hk);obtain⟨pp,cp,rfl⟩:=ho.slice;have R4:=hdd hR4;have HK:=hdd (And.intro h6 h0);have HO:Hid (OwnR 39 12 (.slice pp 3 cp) 3 (arL g 2 0 0 4607182418800017408 [((i,j),p6),(p6,p0),(p0,(i,j))]) l1):=hdd ho;clear hR4 ho hk HC x0 x1 x2 x3 h6 h0;obtain⟨p6a,p6b⟩:=p6;obtain⟨p0a,p0b⟩:=p0;have HU:Hid (∃r,pp=some ⟨r,0,none⟩/\∀(M:Nat) (K:List (Ex×Nat)) (W:World) (L:List (Nat×Obj)),Run (bs w) g M K (l1++L) W->∀k u,[.int .i64 2,.float .f64 0,.float .f64 0,.float .f64 4607182418800017408,.pointer (some ⟨g,0,none⟩),.int .i64 (p6a:Int),.pointer (some ⟨g,0,none⟩),.int .i64 (p6b:Int),.pointer (some ⟨g,0,none⟩),.int .i64 (p0a:Int),.pointer (some ⟨g,0,none⟩),.int .i64 (p0b:Int)][k]? =some u->W.cell? ⟨r,12+k,none⟩=some u):=hdd (by
  obtain⟨r,e,-⟩:=HO.out.cellW R4.out (xG (j:=1) (q:=((p6a,p6b),(p0a,p0b))) rfl 0 _ rfl);refine⟨r,e,fun M K W L hR k u hu=> ?_⟩;obtain⟨r2,e2,h⟩:=HO.out.cellW hR (xG (j:=1) (q:=((p6a,p6b),(p0a,p0b))) rfl k u hu);rw[e]at e2;obtain rfl:r=r2:=by simpa using e2
  exact h)
 clear HO;obtain⟨r,rfl,HU2⟩:=HU.out;have HU:=hdd HU2;clear HU2
 go_upto_region 8 with fail
 have RD:=hdd R4.out.drew;have d0:=HU.out _ _ _ _ RD.out 4 _ rfl;have d1:=HU.out _ _ _ _ RD.out 5 _ rfl;have d2:=HU.out _ _ _ _ RD.out 6 _ rfl;have d3:=HU.out _ _ _ _ RD.out 7 _ rfl;have HA:=hdd (RD.out.spot (by omega) (v:=13830554455654793216) (u:=0) (by decide) (by decide) (by decide) (by decide));clear R4
 go_region_held3 (fun w'=>w'.cell? ⟨r,16,none⟩=some (.pointer (some ⟨g,0,none⟩))/\w'.cell? ⟨r,17,none⟩=some (.int .i64 (p6a:Int))/\w'.cell? ⟨r,18,none⟩=some (.pointer (some ⟨g,0,none⟩))/\w'.cell? ⟨r,19,none⟩=some (.int .i64 (p6b:Int))) (go_keep)
  (first
  |(go_at_call 17
    with_reducible refine HA.out.mono ?_
    rintro e wm⟨k1,k2,rfl,hR5⟩;have RS:=hdd hR5;have d0:=HU.out _ _ _ _ RS.out 4 _ rfl;have d1:=HU.out _ _ _ _ RS.out 5 _ rfl;have d2:=HU.out _ _ _ _ RS.out 6 _ rfl;have d3:=HU.out _ _ _ _ RS.out 7 _ rfl;clear hR5)
  |(go_at_call 14
    with_reducible refine(RS.out.same (by omega) (atO _ (atO _ (atP _ HK.out.1.1))) (atO _ (atO _ (atP _ HK.out.1.2))) m0 m1 HX.out.1).mono ?_
    rintro e wm2⟨rfl,hR6⟩;have R6:=hdd (hR6.few (fun p hp=>atO _ (atO _ hp)));have d0:=HU.out _ _ _ _ R6.out 4 _ rfl;have d1:=HU.out _ _ _ _ R6.out 5 _ rfl;have d2:=HU.out _ _ _ _ R6.out 6 _ rfl;have d3:=HU.out _ _ _ _ R6.out 7 _ rfl;clear hR6 RS))
 clear d0 d1 d2 d3 HA RD
 go_upto_region 9 with fail
 have RD:=hdd R6.out.drew;have d0:=HU.out _ _ _ _ RD.out 8 _ rfl;have d1:=HU.out _ _ _ _ RD.out 9 _ rfl;have d2:=HU.out _ _ _ _ RD.out 10 _ rfl;have d3:=HU.out _ _ _ _ RD.out 11 _ rfl;have HA:=hdd (RD.out.spot (by omega) (v:=4607182418800017408) (u:=0) (by decide) (by decide) (by decide) (by decide));clear R6
 go_region_held3 (fun w'=>w'.cell? ⟨r,20,none⟩=some (.pointer (some ⟨g,0,none⟩))/\w'.cell? ⟨r,21,none⟩=some (.int .i64 (p0a:Int))/\w'.cell? ⟨r,22,none⟩=some (.pointer (some ⟨g,0,none⟩))/\w'.cell? ⟨r,23,none⟩=some (.int .i64 (p0b:Int))) (go_keep)
  (first
  |(go_at_call 17
    with_reducible refine HA.out.mono ?_
    rintro e wm⟨k1,k2,rfl,hR5⟩;have RS:=hdd hR5;have d0:=HU.out _ _ _ _ RS.out 8 _ rfl;have d1:=HU.out _ _ _ _ RS.out 9 _ rfl;have d2:=HU.out _ _ _ _ RS.out 10 _ rfl;have d3:=HU.out _ _ _ _ RS.out 11 _ rfl;clear hR5)
  |(go_at_call 14
    with_reducible refine(RS.out.same (by omega) (atO _ (atO _ (atP _ HK.out.2.1))) (atO _ (atO _ (atP _ HK.out.2.2))) m0 m1 HX.out.2).mono ?_
    rintro e wm2⟨rfl,hR6⟩;have R7:=hdd (hR6.few (fun p hp=>atO _ (atO _ hp)));have d0:=HU.out _ _ _ _ R7.out 8 _ rfl;have d1:=HU.out _ _ _ _ R7.out 9 _ rfl;have d2:=HU.out _ _ _ _ R7.out 10 _ rfl;have d3:=HU.out _ _ _ _ R7.out 11 _ rfl;clear hR6 RS))
 clear d0 d1 d2 d3 HA RD;have HB:=hdd R7.out.below;clear R7 HX HK HU;go_wp2;go_ret;exact⟨rfl,HB.out⟩
end
end Go.Proofs.YtaojpfcboainmaaGreatDoor
