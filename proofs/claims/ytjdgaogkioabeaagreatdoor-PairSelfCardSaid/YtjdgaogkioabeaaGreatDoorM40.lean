/- A part of the proof: contracts of functions and plain laws (QlXxClmV, MkDxClmV, QlUxClmV). -/
import Derived.Test.YtjdgaogkioabeaaGreatDoorM32
import Derived.Test.YtjdgaogkioabeaaGreatDoorM39
import Derived.Test.YtjdgaogkioabeaaGreatDoorM18
import Derived.Test.YtjdgaogkioabeaaGreatDoorM38
import Derived.Test.YtjdgaogkioabeaaGreatDoorM19
import Derived.Test.YtjdgaogkioabeaaGreatDoorM16
import Derived.Test.YtjdgaogkioabeaaGreatDoorM20
import Derived.Test.YtjdgaogkioabeaaGreatDoorM01
import Derived.Test.YtjdgaogkioabeaaGreatDoorM12
import Derived.Test.YtjdgaogkioabeaaGreatDoorM07
import Derived.Test.YtjdgaogkioabeaaGreatDoorM06
import Derived.Test.YtjdgaogkioabeaaGreatDoorM05
import Derived.Test.YtjdgaogkioabeaaGreatDoorM04
import Derived.Test.YtjdgaogkioabeaaGreatDoorM03
import Derived.Test.YtjdgaogkioabeaaGreatDoorM02
import Derived.Test.YtjdgaogkioabeaaGreatDoorM11
import Derived.Test.YtjdgaogkioabeaaGreatDoorM10
import Derived.Test.YtjdgaogkioabeaaGreatDoorM08
import Derived.Test.YtjdgaogkioabeaaGreatDoorM09
import Derived.Test.YtjdgaogkioabeaaGreatDoorM15
import Derived.Test.YtjdgaogkioabeaaGreatDoorM14
import Derived.Test.YtjdgaogkioabeaaGreatDoorM13
import Derived.Test.YtjdgaogkioabeaaGreatDoorM31
import Derived.Test.YtjdgaogkioabeaaGreatDoorM30
import Derived.Test.YtjdgaogkioabeaaGreatDoorM29
import Derived.Test.YtjdgaogkioabeaaGreatDoorM28
import Derived.Test.YtjdgaogkioabeaaGreatDoorM27
import Derived.Test.YtjdgaogkioabeaaGreatDoorM24
import Derived.Test.YtjdgaogkioabeaaGreatDoorM23
import Derived.Test.YtjdgaogkioabeaaGreatDoorM21
import Derived.Test.YtjdgaogkioabeaaGreatDoorM22
import Derived.Test.YtjdgaogkioabeaaGreatDoorM26
import Derived.Test.YtjdgaogkioabeaaGreatDoorM25
set_option linter.unusedVariables false
set_option linter.unusedSimpArgs false
set_option maxHeartbeats 25600000
set_option maxRecDepth 100000
namespace Go.Proofs.YtjdgaogkioabeaaGreatDoor
open Go.RowKit Go.Maps
open Re (rat ofI ofN)
theorem sS(a b:Int):cmpP a b a b=0:=by unfold cmpP;rw[Int.sub_self,Int.sub_self];rfl
theorem sU(a1 a2 b1 b2:Int):cmpP b1 b2 a1 a2=-cmpP a1 a2 b1 b2:=by
 have e:∀x y:Int,(y-x).sign=-(x-y).sign:=fun x y=>by rw[<-Int.sign_neg];congr 1;omega
 unfold cmpP;rw[e a1 b1,e a2 b2];by_cases h:(a1-b1).sign=0
 . rw[if_pos h,if_pos (by omega)]
 . rw[if_neg h,if_neg (by omega)]
end Go.Proofs.YtjdgaogkioabeaaGreatDoor
namespace Go.Proofs.YtjdgaogkioabeaaGreatDoor
open Go.RowKit Go.Maps Go.Stop Go.Extern
abbrev ahJ(r:Bool)(x y u v i k o:Int):Value:=.agg #[.bool r,.int .i64 x,.int .i64 y,.int .i64 u,.int .i64 v,.int .i64 i,.int .i64 k,.int .i64 o]
abbrev aeB(r:Bool)(x y u v i k o:Int):Obj:=.cells #[.bool r,.int .i64 x,.int .i64 y,.int .i64 u,.int .i64 v,.int .i64 i,.int .i64 k,.int .i64 o] 45
abbrev refW(kd:Int)(wa wb wc n:Nat):Value:=.agg #[.int .i64 kd,.float .f64 wa,.float .f64 wb,.float .f64 wc,.int .i64 (n:Int),.int .i64 ((n:Int)+1),.int .i64 ((n:Int)+2),.int .i64 ((n:Int)+2+1)]
def aeC(X Y U V I Kk:Int)(wx wy:Nat)(r:Bool)(kd:Int)(wa wb wc p0 p1 q0 q1:Nat):Prop:=
 fl (X.tmod 7)=wx/\fl (Y.tmod 7)=wy/\
 ((r=true/\kd=2/\wa=wx/\wb=wy/\wc=4627730092099895296/\∃J L:Nat,J<12/\(I.tmod 12+12).tmod 12=(J:Int)/\L<12/\(Kk.tmod 12+12).tmod 12=(L:Int)/\Op2 .add wx (kX J) p0/\Op2 .add wy (kY J) p1/\Op2 .add wx (kX L) q0/\Op2 .add wy (kY L) q1)\/
  (r=false/\kd=1/\∃wu ws wt m1 m2 a1 a2 b1 b2:Nat,fl (U.tmod 4)=wu/\fl (V.tmod 4)=wa/\wb=wu ^^^ 2^63/\Op2 .mul wa wx m1/\Op2 .mul wu wy m2/\Op2 .sub m1 m2 wc/\fl (I.tmod 6)=ws/\fl (Kk.tmod 6)=wt/\Op2 .mul ws wu a1/\Op2 .add wx a1 p0/\Op2 .mul ws wa a2/\Op2 .add wy a2 p1/\Op2 .mul wt wu b1/\Op2 .add wx b1 q0/\Op2 .mul wt wa b2/\Op2 .add wy b2 q1))
def aeD(oo:Int)(p0 q1 P0 Q1:Nat):Prop:=∃o,Go.bits BinOp.and IntKind.i64 oo 15=o/\
 (((o==1)=true/\(o==2)=false/\Op2 .add p0 4607182418800017408 P0/\Q1=q1)\/((o==1)=false/\(o==2)=true/\P0=p0/\Op2 .add q1 4607182418800017408 Q1)\/((o==1)=false/\(o==2)=false/\P0=p0/\Q1=q1))
theorem vI{B:Nat}{w0 w1:World}{g k:Nat}{T:TypeId}{cs:List Value}{a:Value}(hb:Below B w0 w1)(hg:B<=g)(h:w1.heap[g]? =some (.cells cs.toArray T (0,0))):
 ∃w2,w1.setCell ⟨g,k,none⟩ a=w2/\Below B w0 w2/\w2.heap[g]? =some (.cells (cs.set k a).toArray T (0,0))/\∀i,g≠i->w2.heap[i]? =w1.heap[i]? :=
 ⟨_,rfl,hb.setCell hg _,lJ h,fun i hi=>by rw[Below.heap_setCell _ _ _ _ (by simp;omega)]⟩
end Go.Proofs.YtjdgaogkioabeaaGreatDoor
namespace Go.Proofs.YtjdgaogkioabeaaGreatDoor
open Go.RowKit Go.Maps
open Re (rat ofI ofN)
open Nat renaming le_trans->bkT
section
variable{wa wb wc P0 P1 Q0 Q1:Nat}{A B C a1 a2 b1 b2:Int}(ha:Iw wa A)(hb:Iw wb B)(hc:Iw wc C)(h1:Iw P0 a1)(h2:Iw P1 a2)(h3:Iw Q0 b1)(h4:Iw Q1 b2)(c1:A.natAbs<=6)(c2:B.natAbs<=6)(c3:C.natAbs<=36)(d1:a1.natAbs<=22)(d2:a2.natAbs<=22)(d3:b1.natAbs<=22)(d4:b2.natAbs<=22)
include ha hb hc h1 h2 h3 h4 c1 c2 c3 d1 d2 d3 d4
end
def arV(X Y U V I Kk:Int)(r:Bool)(p0 p1 q0 q1 wx wy wa wb wc:Nat)(kd A B C a1 a2 b1 b2:Int):Prop:=
 aeC X Y U V I Kk wx wy r kd wa wb wc p0 p1 q0 q1/\(kd=1\/kd=2/\wc=4627730092099895296/\C=25)/\(Iw wa A/\Iw wb B/\Iw wc C/\Iw p0 a1/\Iw p1 a2/\Iw q0 b1/\Iw q1 b2)/\A.natAbs<=6/\B.natAbs<=6/\C.natAbs<=36/\a1.natAbs<=21/\a2.natAbs<=21/\b1.natAbs<=21/\b2.natAbs<=21
theorem afU(r:Bool)(X Y U V I Kk:Int):∃p0 p1 q0 q1 wx wy wa wb wc kd A B C a1 a2 b1 b2,arV X Y U V I Kk r p0 p1 q0 q1 wx wy wa wb wc kd A B C a1 a2 b1 b2:=by
 cases r
 . have bx:(X.tmod 7).natAbs<=6:=tmb X 7 (by decide);have b_y:(Y.tmod 7).natAbs<=6:=tmb Y 7 (by decide)
   have bu:(U.tmod 4).natAbs<=3:=tmb U 4 (by decide);have bv:(V.tmod 4).natAbs<=3:=tmb V 4 (by decide);have bs:(I.tmod 6).natAbs<=5:=tmb I 6 (by decide);have bt:(Kk.tmod 6).natAbs<=5:=tmb Kk 6 (by decide);have wx:=flw bx;have wy:=flw b_y;have wu:=flw (bkT bu (by decide));have wv:=flw (bkT bv (by decide));have ws:=flw (bkT bs (by decide));have wt:=flw (bkT bt (by decide));have p1:=nab bv bx;have p2:=nab bu b_y;have p3:=nab bs bu;have p4:=nab bs bv;have p5:=nab bt bu;have p6:=nab bt bv;have z0:=nsub p1 p2;have z1:=nadd bx p3;have z2:=nadd b_y p4;have z3:=nadd bx p5;have z4:=nadd b_y p6;obtain⟨m1,n1,i1⟩:=oW wv wx (nlt p1);obtain⟨m2,n2,i2⟩:=oW wu wy (nlt p2);obtain⟨wc,n3,i3⟩:=aq3 i1 i2 (nlt z0);obtain⟨a1,o1,j1⟩:=oW ws wu (nlt p3);obtain⟨q1,o2,k1⟩:=nW wx j1 (nlt z1);obtain⟨a2,o3,j2⟩:=oW ws wv (nlt p4);obtain⟨q2,o4,k2⟩:=nW wy j2 (nlt z2);obtain⟨a3,o5,j3⟩:=oW wt wu (nlt p5);obtain⟨q3,o6,k3⟩:=nW wx j3 (nlt z3);obtain⟨a4,o7,j4⟩:=oW wt wv (nlt p6);obtain⟨q4,o8,k4⟩:=nW wy j4 (nlt z4)
   exact⟨q1,q2,q3,q4,_,_,_,_,wc,1,_,_,_,_,_,_,_,⟨rfl,rfl,Or.inr ⟨rfl,rfl,_,_,_,m1,m2,a1,a2,a3,a4,rfl,rfl,rfl,n1,n2,n3,rfl,rfl,o1,o2,o3,o4,o5,o6,o7,o8⟩⟩,Or.inl rfl,⟨wv,apF wu,i3,k1,k2,k3,k4⟩,bkT bv (by decide),by rw[Int.natAbs_neg];exact bkT bu (by decide),z0,z1,z2,z3,z4⟩
 . obtain⟨J,hJ,hI⟩:=am2 I;obtain⟨L,hL,hK⟩:=am2 Kk
   obtain⟨hx,bx,⟨p0,a1,i1,b1⟩,-⟩:=sM X hJ rfl;obtain⟨hy,b_y,-,p1,a2,i2,b2⟩:=sM Y hJ rfl;obtain⟨-,-,⟨q0,a3,i3,b3⟩,-⟩:=sM X hL rfl;obtain⟨-,-,-,q1,a4,i4,b4⟩:=sM Y hL rfl;exact⟨p0,p1,q0,q1,_,_,_,_,_,_,_,_,_,_,_,_,_,⟨rfl,rfl,Or.inl ⟨rfl,rfl,rfl,rfl,rfl,J,L,hJ,hI,hL,hK,a1,a2,a3,a4⟩⟩,Or.inr ⟨rfl,rfl,rfl⟩,⟨hx,hy,aq4,i1,i2,i3,i4⟩,by omega,by omega,by omega,by omega,by omega,by omega,by omega⟩
theorem ajI{oo:Int}{p0 q1:Nat}{a b:Int}(i1:Iw p0 a)(i4:Iw q1 b)(b1:a.natAbs<=21)(b4:b.natAbs<=21):∃P0 Q1 a' b',aeD oo p0 q1 P0 Q1/\Iw P0 a'/\Iw Q1 b'/\a'.natAbs<=22/\b'.natAbs<=22:=by
 cases h1:(Go.bits BinOp.and IntKind.i64 oo 15==1)
 . cases h2:(Go.bits BinOp.and IntKind.i64 oo 15==2)
   . exact⟨p0,q1,_,_,⟨_,rfl,Or.inr (Or.inr ⟨h1,h2,rfl,rfl⟩)⟩,i1,i4,by omega,by omega⟩
   . obtain⟨r,o,i⟩:=nW i4 iw_1 (by omega)
     exact⟨p0,r,_,_,⟨_,rfl,Or.inr (Or.inl ⟨h1,h2,rfl,o⟩)⟩,i1,i,by omega,by omega⟩
 . obtain⟨r,o,i⟩:=nW i1 iw_1 (by omega)
   exact⟨r,q1,_,_,⟨_,rfl,Or.inl ⟨h1,by rw[beq_iff_eq.1 h1];rfl,o,rfl⟩⟩,i,i4,by omega,by omega⟩
end Go.Proofs.YtjdgaogkioabeaaGreatDoor
