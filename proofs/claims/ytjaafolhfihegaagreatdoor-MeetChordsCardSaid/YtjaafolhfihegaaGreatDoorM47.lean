/- A part of the proof: contracts of functions and plain laws (MdWxClmL). -/
import Derived.Test.YtjaafolhfihegaaGreatDoorM45
import Derived.Test.YtjaafolhfihegaaGreatDoorM44
import Derived.Test.YtjaafolhfihegaaGreatDoorM34
import Derived.Test.YtjaafolhfihegaaGreatDoorM46
import Derived.Test.YtjaafolhfihegaaGreatDoorM33
import Derived.Test.YtjaafolhfihegaaGreatDoorM16
import Derived.Test.YtjaafolhfihegaaGreatDoorM15
import Derived.Test.YtjaafolhfihegaaGreatDoorM14
import Derived.Test.YtjaafolhfihegaaGreatDoorM13
import Derived.Test.YtjaafolhfihegaaGreatDoorM12
import Derived.Test.YtjaafolhfihegaaGreatDoorM08
import Derived.Test.YtjaafolhfihegaaGreatDoorM07
import Derived.Test.YtjaafolhfihegaaGreatDoorM06
import Derived.Test.YtjaafolhfihegaaGreatDoorM05
import Derived.Test.YtjaafolhfihegaaGreatDoorM04
import Derived.Test.YtjaafolhfihegaaGreatDoorM03
import Derived.Test.YtjaafolhfihegaaGreatDoorM02
import Derived.Test.YtjaafolhfihegaaGreatDoorM01
import Derived.Test.YtjaafolhfihegaaGreatDoorM11
import Derived.Test.YtjaafolhfihegaaGreatDoorM10
import Derived.Test.YtjaafolhfihegaaGreatDoorM09
import Derived.Test.YtjaafolhfihegaaGreatDoorM32
import Derived.Test.YtjaafolhfihegaaGreatDoorM31
import Derived.Test.YtjaafolhfihegaaGreatDoorM30
import Derived.Test.YtjaafolhfihegaaGreatDoorM29
import Derived.Test.YtjaafolhfihegaaGreatDoorM28
import Derived.Test.YtjaafolhfihegaaGreatDoorM24
import Derived.Test.YtjaafolhfihegaaGreatDoorM23
import Derived.Test.YtjaafolhfihegaaGreatDoorM21
import Derived.Test.YtjaafolhfihegaaGreatDoorM20
import Derived.Test.YtjaafolhfihegaaGreatDoorM19
import Derived.Test.YtjaafolhfihegaaGreatDoorM22
import Derived.Test.YtjaafolhfihegaaGreatDoorM27
import Derived.Test.YtjaafolhfihegaaGreatDoorM26
import Derived.Test.YtjaafolhfihegaaGreatDoorM25
import Derived.Test.YtjaafolhfihegaaGreatDoorM43
import Derived.Test.YtjaafolhfihegaaGreatDoorM18
import Derived.Deep.Cut
import Derived.Deep.DeepCutAuto
set_option linter.unusedVariables false
set_option linter.unusedSimpArgs false
set_option maxHeartbeats 25600000
set_option maxRecDepth 100000
namespace Go.Proofs.YtjaafolhfihegaaGreatDoor
open Go.RowKit Go.Maps Go.Stop Go.Extern
open List renaming setIfInBounds_toArray->bj5,map_cons->bj6,map_nil->bj7,set->bj8
variable{c r:Int}
abbrev md0(p:Nat×Nat×Nat×Nat×Nat×Nat×Nat):Ex:=cutX (.leaf p.1) (.leaf p.2.1) (.leaf p.2.2.1) 0 0
abbrev md1(p:Nat×Nat×Nat×Nat×Nat×Nat×Nat):Ex:=cutY (.leaf p.1) (.leaf p.2.1) (.leaf p.2.2.1) 0 0
theorem adR{a b:Int}{A B C R:Nat}(hA:Iw A a)(hB:Iw B b)(hC:Iw C c)(hR:Iw R r)(ba:a.natAbs<=9)(bb:b.natAbs<=8)(bc:c.natAbs<=19)(br:r.natAbs<=49):∃u1 u2 u3 u5 AC BC NN:Nat,Iw AC (a*c)/\Iw BC (b*c)/\Iw NN (a*a+b*b)/\
 (Op2 .mul A A u2/\Op2 .mul B B u3/\Op2 .add u2 u3 NN/\Op2 .mul A C AC/\Op2 .mul B C BC/\Op2 .mul C C u1/\Op2 .mul R NN u5/\((r*(a*a+b*b)-c*c).sign<=0->(FloatKind.f64.format.order u1 u5==some Ordering.gt||FloatKind.f64.format.order u1 u5==some Ordering.eq)=true)):=by
 obtain⟨u1,o1,i1⟩:=qH hC hC (b53 (nab bc bc));obtain⟨u2,o2,i2⟩:=qH hA hA (b53 (nab ba ba));obtain⟨u3,o3,i3⟩:=qH hB hB (b53 (nab bb bb));obtain⟨n,o4,i4⟩:=amB i2 i3 (b53 (nadd (nab ba ba) (nab bb bb)));obtain⟨u5,o5,i5⟩:=qH hR i4 (b53 (nab br (nadd (nab ba ba) (nab bb bb))));obtain⟨p,o6,i6⟩:=qH hA hC (b53 (nab ba bc));obtain⟨q,o7,i7⟩:=qH hB hC (b53 (nab bb bc));refine⟨u1,u2,u3,u5,p,q,n,i6,i7,i4,o2,o3,o4,o6,o7,o1,o5,fun h=> ?_⟩;rw[wU i1.1.2.num i5.1.2.num];refine decide_eq_true (Int.not_lt.1 fun k=> ?_);replace k:=nI.1 k;rw[i1.2,i5.2]at k;replace k:=Int.lt_of_mul_lt_mul_right k (Int.natCast_nonneg _);clear ba bb bc br i1 i2 i3 i4 i5 i6 i7 o1 o2 o3 o4 o5 o6 o7;rw[Int.sign_eq_one_iff_pos.2 (show 0<r*(a*a+b*b)-c*c by omega)]at h;omega
theorem afC(v:Int):v.sign=-1\/v.sign=0\/v.sign=1:=by
 rcases Int.lt_trichotomy v 0 with h|h|h
 . exact Or.inl (sgn' h)
 . exact Or.inr (Or.inl (sgz h))
 . exact Or.inr (Or.inr (sgp h))
theorem uW{w:World}{x y:Int}(hT:Tab w)(htb:1<w.heap.size):
 Calls Tryz.prog 11 #[.int .i64 x,.int .i64 y,.int .i64 c,.int .i64 r] w (RetV w (.bool true)):=by
 have HA:=hdd (amW hT htb);have HT:=hdd (And.intro hT htb);obtain⟨x1,x2,x3,a,m1,m2,m3,m4,a1,a9⟩:=mod_one (n:=9) x (by omega);obtain⟨b,m5,b1,b2⟩:=amV (n:=9) y (by omega);obtain⟨c0,m6,c1,c2⟩:=amV (n:=20) c (by omega);obtain⟨r1,r2,r0,m7,m8,m9,r3,r4⟩:=agK (n:=50) r (by omega);have ba:a.natAbs<=9:=by omega
 have bb:b.natAbs<=8:=by omega
 have bc:c0.natAbs<=19:=by omega
 have br:r0.natAbs<=49:=by omega
 obtain⟨wa,va,hA⟩:=sO a (b53 ba);obtain⟨wb,vb,hB⟩:=sO b (b53 bb);obtain⟨wc,vc,hC⟩:=sO c0 (b53 bc);obtain⟨wr,vr,hR0⟩:=sO r0 (b53 br);obtain⟨u1,u2,u3,u5,ac,bc',nn,iAC,iBC,iN,hMO⟩:=adR hA hB hC hR0 ba bb bc br;obtain⟨p,g1,g2,g3,g4,g5,g6,g7⟩:∃p:Nat×Nat×Nat×Nat×Nat×Nat×Nat,wa=p.1/\wb=p.2.1/\wc=p.2.2.1/\wr=p.2.2.2.1/\ac=p.2.2.2.2.1/\bc'=p.2.2.2.2.2.1/\nn=p.2.2.2.2.2.2:=⟨(wa,wb,wc,wr,ac,bc',nn),rfl,rfl,rfl,rfl,rfl,rfl,rfl⟩;subst g1 g2 g3 g4 g5 g6 g7;have hS:=aiW hA hB hC hR0 ba bb bc br;have TT:Hid ((r0*(a*a+b*b)-c0*c0).sign=1->_):=hdd fun h=>am1 hA hB hC hR0 iAC iBC iN a1 ba bb bc br (Int.sign_eq_one_iff_pos.1 h);have MO:=hdd hMO;have FX:=hdd (And.intro hR0.1 (And.intro iAC.1 (And.intro iBC.1 iN.1)));obtain⟨sv,hsv,y2⟩:∃sv:Int,(sv=1\/SwOk 1 sv)/\∀w,Calls Tryz.prog 108 #[.float .f64 p.2.1,.float .f64 0] w (RetV w (.int .i64 sv)):=by
  rcases Int.lt_trichotomy (fv p.2.1) (fv 0)with h|h|h
  . exact⟨-1,Or.inr ⟨by decide,Or.inl (by decide)⟩,fun _=>aoY hB.1 mX h⟩
  . exact⟨0,Or.inr ⟨by decide,Or.inr ⟨by decide,by decide⟩⟩,fun _=>afX hB.1 mX h⟩
  . exact⟨1,Or.inl rfl,fun _=>aaU hB.1 mX h⟩
 have y1:∀w,Calls Tryz.prog 108 #[.float .f64 p.1,.float .f64 0] w (RetV w (.int .i64 1)):=fun _=>aaU hA.1 mX (by
  rw[agI,hA.2];exact Int.mul_lt_mul_of_pos_right (by clear ba bb bc br;omega) nO)
 have HX:=hdd (And.intro (show dJ 0 0 p.2.2.2.1 from⟨mX,mX,hR0.1,amC hR0 (by clear ba bb bc br;omega)⟩) (And.intro (show dC p.1 p.2.1 p.2.2.1 from⟨hA.1,hB.1,hC.1,Or.inl (adK hA (by clear ba bb bc br;omega))⟩) (And.intro y1 y2)));have hq:=(afC (r0*(a*a+b*b)-c0*c0)).imp_right fun h=>h.imp_right fun h=>And.intro h hsv;have MX:=hdd (And.intro m1 (And.intro m2 (And.intro m3 (And.intro m4 va))));have MY:=hdd (And.intro m5 (And.intro vb (And.intro m6 vc)));have MR:=hdd (And.intro m7 (And.intro m8 (And.intro m9 vr)));generalize (r0*(a*a+b*b)-c0*c0).sign=q at hS hq TT MO;clear hT htb m1 m2 m3 m4 m5 m6 m7 m8 m9 va vb vc vr a1 a9 b1 b2 c1 c2 r3 r4 ba bb bc br hA hB hC hR0 iAC iBC iN hMO hsv y1 y2;go_enter Tryz.func11,Tryz.ntmps11
 go_wp2_with fail
 refine HA.out.mono ?_;rintro e w3⟨rfl,hb3⟩;have HN:=hdd (aaY (w0:=w) (l:=[]) hb3 (fun p hp=>by cases hp) (by simp) HT.out.1 HT.out.2);clear hb3 HA;go_wp2_with fail
 refine HN.out.mono ?_;rintro e W1⟨g,rfl,hR⟩;have R1:=hdd hR;clear hR HN HT;dsimp only
 go_upto_region 6 with fail
 refine Spec.go [.w (.c (.v (.int .i64 x))),.w (.c (.v (.int .i64 x1))),.w (.c (.v (.int .i64 x2))),.w (.c (.v (.int .i64 x3))),.w (.c (.v (.int .i64 a))),.w (.c (.v (.float .f64 p.1))),.w (.c (.v (.int .i64 y))),.w (.c (.v (.int .i64 b))),.w (.c (.v (.float .f64 p.2.1))),.w (.c (.v (.int .i64 c))),.w (.c (.v (.int .i64 c0))),.w (.c (.v (.float .f64 p.2.2.1))),.w (.agg ([.v (Value.int IntKind.i64 1),.v (.float .f64 p.1),.v (.float .f64 p.2.1),.v (.float .f64 p.2.2.1)])),.w (.c (.ptr 0 0)),noS] [13]
  [] [⟨0,29,curC 0 0 0 0,some (14,[.v (Value.int IntKind.i64 1),.v (.float .f64 p.1),.v (.float .f64 p.2.1),.v (.float .f64 p.2.2.1)])⟩]
  [0,0,0,0,0,0,0,0,0,0,0,0,0,0,0] [[],[0],[0,1],[0,1,2],rgn 4,rgn 5,[],[6],[6,7],[],[9],[9,10],rgn 12,[],rgn 14] [(0,.w (.c (.v (.int .i64 x)))),(1,.w (.c (.v (.int .i64 y)))),(2,.w (.c (.v (.int .i64 c))))]
  [31,32,33,34,35,36,37,38,39,40,41,42,43,11,0] [] 15 0 [] [] R1.out
  (fun b hM=>aA (aA (aA (aA (aA (aA (aA (aA (aA (aA (aA (aA (aA (aA (aA aH
    (aB b))
    (aB b (hv:=fun ν w=>dV rfl rfl rfl rfl (MX.out.1 w))))
    (aB b (hv:=fun ν w=>dV rfl rfl rfl rfl (MX.out.2.1 w))))
    (aB b (hv:=fun ν w=>dV rfl rfl rfl rfl (MX.out.2.2.1 w))))
    (aB b (hv:=fun ν w=>dV rfl rfl rfl rfl (MX.out.2.2.2.1 w))))
    (aB b (hv:=fun ν w=>qF rfl rfl (MX.out.2.2.2.2 w))))
    (aB b))
    (aB b (hv:=fun ν w=>dV rfl rfl rfl rfl (MY.out.1 w))))
    (aB b (hv:=fun ν w=>qF rfl rfl (MY.out.2.1 w))))
    (aB b))
    (aB b (hv:=fun ν w=>dV rfl rfl rfl rfl (MY.out.2.2.1 w))))
    (aB b (hv:=fun ν w=>qF rfl rfl (MY.out.2.2.2 w))))
    (aB b))
    (aI b m0))
    (aV b 4 m0)) ?_
 intro b1 ν W2 hR;have R2:=hdd hR;clear hR R1;simp only[putL,bj5,bj8,fs0,fs1,fsn,dSw,dSt,dWc,dWa,dv,di,dp,ds',bj6,bj7,nuTn,nuT0,nuT1,nuU0,nuU1]
 go_upto_region 7 with fail
 refine Spec.go [.w (.c (.v (.int .i64 r))),.w (.c (.v (.int .i64 r1))),.w (.c (.v (.int .i64 r2))),.w (.c (.v (.int .i64 r0))),.w (.c (.v (.float .f64 p.2.2.2.1))),.w (.agg ([.v (Value.int IntKind.i64 2),.v (.float .f64 0),.v (.float .f64 0),.v (.float .f64 p.2.2.2.1)])),.w (.c (.ptr 1 0)),noS] [6]
  [] [⟨0,29,[.v (Value.int IntKind.i64 1),.v (.float .f64 p.1),.v (.float .f64 p.2.1),.v (.float .f64 p.2.2.1)],none⟩,⟨1,29,curC 0 0 0 0,some (7,[.v (Value.int IntKind.i64 2),.v (.float .f64 0),.v (.float .f64 0),.v (.float .f64 p.2.2.2.1)])⟩]
  [0,0,0,0,0,0,0,0] [[],[0],[0,1],[0,1,2],rgn 4,rgn 5,[],rgn 7] [(3,.w (.c (.v (.int .i64 r))))]
  [44,45,46,47,48,49,12,0] [b1] 8 0 [] [] R2.out
  (fun b hM=>aA (aA (aA (aA (aA (aA (aA (aA aH
    (aB b))
    (aB b (hv:=fun ν w=>dV rfl rfl rfl rfl (MR.out.1 w))))
    (aB b (hv:=fun ν w=>dV rfl rfl rfl rfl (MR.out.2.1 w))))
    (aB b (hv:=fun ν w=>dV rfl rfl rfl rfl (MR.out.2.2.1 w))))
    (aB b (hv:=fun ν w=>qF rfl rfl (MR.out.2.2.2 w))))
    (aB b))
    (aI b m1))
    (aV b 4 m1)) ?_
 intro b2 ν W3 hR;have R3:=hdd hR;clear hR R2;simp only[putL,bj5,bj8,fs0,fs1,fsn,dSw,dSt,dWc,dWa,dv,di,dp,ds',bj6,bj7,nuTn,nuT0,nuT1,nuU0,nuU1]
 go_upto_region 8 with fail
 rcases hq with rfl|rfl|⟨rfl,hw⟩
 . refine Spec.go [.w (.c (.v (.pointer (some ⟨g,0,none⟩)))),.w (.agg ([.v (Value.int IntKind.i64 1),.v (.float .f64 p.1),.v (.float .f64 p.2.1),.v (.float .f64 p.2.2.1)])),.w (.agg ([.v (Value.int IntKind.i64 2),.v (.float .f64 0),.v (.float .f64 0),.v (.float .f64 p.2.2.2.1)])),.tup [.c (.v (.slice none 0 0)),.c (.v (.bool false)),.c (.v .nilIface)],.tup [.c (.v (.slice none 0 0)),.c (.v (.bool false)),.c (.v .nilIface)],.w (.c (.v (.slice none 0 0))),.w (.c (.v (.bool false))),.w (.c (.v .nilIface)),.w (.c (.v (.slice none 0 0))),.w (.c (.v (.bool false))),.w (.c (.v .nilIface))] []
    [] [⟨0,29,[.v (Value.int IntKind.i64 1),.v (.float .f64 p.1),.v (.float .f64 p.2.1),.v (.float .f64 p.2.2.1)],none⟩,⟨1,29,[.v (Value.int IntKind.i64 2),.v (.float .f64 0),.v (.float .f64 0),.v (.float .f64 p.2.2.2.1)],none⟩]
    [0,0,0,33,0,0,0,0,0,0,0] [[],[],[],[0,1,2],rgn 4,rgn 5,rgn 5,rgn 5,rgn 6,[0,1,2,3,4,6],[0,1,2,3,4,7]] [(9,.w (.c (.v (.pointer (some ⟨g,0,none⟩))))),(10,.w (.c (.ptr 0 0))),(11,.w (.c (.ptr 1 0)))]
    [51,52,53,54,50,55,56,57,13,14,15] [b1,b2] 11 33 [] [] R3.out
    (fun b hM=>aA (aA (aA (aA (aA (aA (aA (aA (aA (aA (aA aH
      (aB b))
      (aD b 4 m0))
      (aD b 4 m1))
      (aG b (c_fn (ix:=[]) (ts:=[]) hM (fun ν=>ao1 (p:=(0,0,p.2.2.2.1,p.1,p.2.1,p.2.2.1)) HX.out.1 HX.out.2.1 HX.out.2.2.1 HX.out.2.2.2 hS))))
      (aB b))
      (aB b))
      (aB b))
      (aB b))
      (aB b))
      (aB b))
      (aB b)) ?_
   intro ν W4 hR;replace hR:Run (bs w) g 33 [] [(b1,.cells #[(Value.int IntKind.i64 1),(.float .f64 p.1),(.float .f64 p.2.1),(.float .f64 p.2.2.1)] 29),(b2,.cells #[(Value.int IntKind.i64 2),.float .f64 0,.float .f64 0,(.float .f64 p.2.2.2.1)] 29)] W4:=hR;have R4:=hdd hR;clear hR R3;simp only[putL,bj5,bj8,fs0,fs1,fsn,dSw,dSt,dWc,dWa,dv,di,dp,ds',bj6,bj7,nuTn,nuT0,nuT1,nuU0,nuU1];obtain⟨c0,c1,c2,c3⟩:=aL (R4.out.at m0);obtain⟨d0,d1,d2,d3⟩:=aL (R4.out.at m1);have HB:=hdd R4.out.below;clear R4 MX MY MR HX TT;obtain⟨o2,o3,o4,-,-,o1,o5,oge⟩:=MO.out;replace oge:=oge (by omega);clear MO;go_wp2_with (simp only[o1,o2,o3,o4,o5])
   go_ret;exact⟨rfl,HB.out⟩
 . refine Spec.go [.w (.c (.v (.pointer (some ⟨g,0,none⟩)))),.w (.agg ([.v (Value.int IntKind.i64 1),.v (.float .f64 p.1),.v (.float .f64 p.2.1),.v (.float .f64 p.2.2.1)])),.w (.agg ([.v (Value.int IntKind.i64 2),.v (.float .f64 0),.v (.float .f64 0),.v (.float .f64 p.2.2.2.1)])),.tup [.c (.sl 4 1),.c (.v (.bool false)),.c (.v .nilIface)],.tup [.c (.sl 4 1),.c (.v (.bool false)),.c (.v .nilIface)],.w (.c (.sl 4 1)),.w (.c (.v (.bool false))),.w (.c (.v .nilIface)),.w (.c (.sl 4 1)),.w (.c (.v (.bool false))),.w (.c (.v .nilIface))] [3,3,3]
    [(2,(md0 p)),(3,(md1 p))] [⟨0,29,[.v (Value.int IntKind.i64 1),.v (.float .f64 p.1),.v (.float .f64 p.2.1),.v (.float .f64 p.2.2.1)],none⟩,⟨1,29,[.v (Value.int IntKind.i64 2),.v (.float .f64 0),.v (.float .f64 0),.v (.float .f64 p.2.2.2.1)],none⟩,⟨4,33,aY g 2 3,none⟩]
    [0,0,0,33,0,0,0,0,0,0,0] [[],[],[],[0,1,2],rgn 4,rgn 5,rgn 5,rgn 5,rgn 6,[0,1,2,3,4,6],[0,1,2,3,4,7]] [(9,.w (.c (.v (.pointer (some ⟨g,0,none⟩))))),(10,.w (.c (.ptr 0 0))),(11,.w (.c (.ptr 1 0)))]
    [51,52,53,54,50,55,56,57,13,14,15] [b1,b2] 11 33 [] [] R3.out
    (fun b hM=>aA (aA (aA (aA (aA (aA (aA (aA (aA (aA (aA aH
      (aB b))
      (aD b 4 m0))
      (aD b 4 m1))
      (kR b m2 (c_fb (ix:=[]) (ts:=[2,3]) hM (fun ν=>amX (p:=(0,0,p.2.2.2.1,p.1,p.2.1,p.2.2.1)) HX.out.1 HX.out.2.1 HX.out.2.2.1 HX.out.2.2.2 hS))))
      (aB b))
      (aB b))
      (aB b))
      (aB b))
      (aB b))
      (aB b))
      (aB b)) ?_
   intro n3 n4 b5 ν W4 hR;replace hR:Run (bs w) g 33 [((md0 p),n3),((md1 p),n4)] [(b1,.cells #[(Value.int IntKind.i64 1),(.float .f64 p.1),(.float .f64 p.2.1),(.float .f64 p.2.2.1)] 29),(b2,.cells #[(Value.int IntKind.i64 2),.float .f64 0,.float .f64 0,(.float .f64 p.2.2.2.1)] 29),(b5,dX g n3 n4)] W4:=hR;have R4:=hdd hR;clear hR R3;simp only[putL,bj5,bj8,fs0,fs1,fsn,dSw,dSt,dWc,dWa,dv,di,dp,ds',bj6,bj7,nuTn,nuT0,nuT1,nuU0,nuU1];obtain⟨c0,c1,c2,c3⟩:=aL (R4.out.at m0);obtain⟨d0,d1,d2,d3⟩:=aL (R4.out.at m1);have HB:=hdd R4.out.below;clear R4 MX MY MR HX TT;obtain⟨o2,o3,o4,-,-,o1,o5,oge⟩:=MO.out;replace oge:=oge (by omega);clear MO;go_wp2_with (simp only[o1,o2,o3,o4,o5])
   go_ret;exact⟨rfl,HB.out⟩
 . obtain⟨E1,E2,E3,E4,hP,t1,t2,t3⟩:∃E1 E2 E3 E4:Ex,(∀g,FnBk 45 g 33 #[.pointer (some ⟨g,0,none⟩),curV 1 p.1 p.2.1 p.2.2.1,curV 2 0 0 p.2.2.2.1] [] (fun ks b=>.tuple #[.slice (some ⟨b,0,none⟩) 2 2,.bool false,.nilIface]) [E1,E2,E3,E4] (fun ks=>.cells #[.pointer (some ⟨g,0,none⟩),.int .i64 ((ks.getD 0 0:Nat):Int),.pointer (some ⟨g,0,none⟩),.int .i64 ((ks.getD 1 0:Nat):Int),.pointer (some ⟨g,0,none⟩),.int .i64 ((ks.getD 2 0:Nat):Int),.pointer (some ⟨g,0,none⟩),.int .i64 ((ks.getD 3 0:Nat):Int)] 33))/\bD PT (.sub (sqrX (.leaf 0) (.leaf 0) E1 E2) (.leaf p.2.2.2.1)) 0/\bD PT (.sub (sqrX (.leaf 0) (.leaf 0) E3 E4) (.leaf p.2.2.2.1)) 0/\nP PT (midE E1 E3) (midE E2 E4) (.div (.leaf p.2.2.2.2.1) (.leaf p.2.2.2.2.2.2)) (.div (.leaf p.2.2.2.2.2.1) (.leaf p.2.2.2.2.2.2)) 0:=by
    have tt:=TT.out rfl;rcases hw with rfl|hw
    . exact⟨_,_,_,_,fun g=>amY (p:=(0,0,p.2.2.2.1,p.1,p.2.1,p.2.2.1)) HX.out.1 HX.out.2.1 HX.out.2.2.1 HX.out.2.2.2 hS,tt.1,tt.2.1,tt.2.2.1⟩
    . exact⟨_,_,_,_,fun g=>amZ hw (p:=(0,0,p.2.2.2.1,p.1,p.2.1,p.2.2.1)) HX.out.1 HX.out.2.1 HX.out.2.2.1 HX.out.2.2.2 hS,tt.2.1,tt.1,tt.2.2.2⟩
   have HP:=hdd hP;have T1:=hdd t1;have T2:=hdd t2;have T3:=hdd t3;clear hP t1 t2 t3 TT HX hS hw;refine Spec.go [.w (.c (.v (.pointer (some ⟨g,0,none⟩)))),.w (.agg ([.v (Value.int IntKind.i64 1),.v (.float .f64 p.1),.v (.float .f64 p.2.1),.v (.float .f64 p.2.2.1)])),.w (.agg ([.v (Value.int IntKind.i64 2),.v (.float .f64 0),.v (.float .f64 0),.v (.float .f64 p.2.2.2.1)])),.tup [.c (.sl 6 2),.c (.v (.bool false)),.c (.v .nilIface)],.tup [.c (.sl 6 2),.c (.v (.bool false)),.c (.v .nilIface)],.w (.c (.sl 6 2)),.w (.c (.v (.bool false))),.w (.c (.v .nilIface)),.w (.c (.sl 6 2)),.w (.c (.v (.bool false))),.w (.c (.v .nilIface))] [3,3,3,3,3]
    [(2,E1),(3,E2),(4,E3),(5,E4)] [⟨0,29,[.v (Value.int IntKind.i64 1),.v (.float .f64 p.1),.v (.float .f64 p.2.1),.v (.float .f64 p.2.2.1)],none⟩,⟨1,29,[.v (Value.int IntKind.i64 2),.v (.float .f64 0),.v (.float .f64 0),.v (.float .f64 p.2.2.2.1)],none⟩,⟨6,33,[.v (.pointer (some ⟨g,0,none⟩)),.id 2,.v (.pointer (some ⟨g,0,none⟩)),.id 3,.v (.pointer (some ⟨g,0,none⟩)),.id 4,.v (.pointer (some ⟨g,0,none⟩)),.id 5],none⟩]
    [0,0,0,33,0,0,0,0,0,0,0] [[],[],[],[0,1,2],rgn 4,rgn 5,rgn 5,rgn 5,rgn 6,[0,1,2,3,4,6],[0,1,2,3,4,7]] [(9,.w (.c (.v (.pointer (some ⟨g,0,none⟩))))),(10,.w (.c (.ptr 0 0))),(11,.w (.c (.ptr 1 0)))]
    [51,52,53,54,50,55,56,57,13,14,15] [b1,b2] 11 33 [] [] R3.out
    (fun b hM=>aA (aA (aA (aA (aA (aA (aA (aA (aA (aA (aA aH
      (aB b))
      (aD b 4 m0))
      (aD b 4 m1))
      (kR b m2 (c_fb (ix:=[]) (ts:=[2,3,4,5]) hM (fun ν=>HP.out _))))
      (aB b))
      (aB b))
      (aB b))
      (aB b))
      (aB b))
      (aB b))
      (aB b)) ?_
   intro n3 n4 n5 n6 b7 ν W4 hR;have R4:=hdd hR;clear hR R3;simp only[putL,bj5,bj8,fs0,fs1,fsn,dSw,dSt,dWc,dWa,dv,di,dp,ds',bj6,bj7,nuTn,nuT0,nuT1,nuU0,nuU1]
   go_upto_region 13 with fail
   refine Spec.go [.w (.c (.v (.pointer (some ⟨g,0,none⟩)))),dH g 7 8,.w (.c (.ptr 9 0)),noS] [1,1,2]
    [(2,E1),(3,E2),(4,E3),(5,E4),(7,(.leaf 0)),(8,(.leaf 0))] [⟨0,29,[.v (Value.int IntKind.i64 1),.v (.float .f64 p.1),.v (.float .f64 p.2.1),.v (.float .f64 p.2.2.1)],none⟩,⟨1,29,[.v (Value.int IntKind.i64 2),.v (.float .f64 0),.v (.float .f64 0),.v (.float .f64 p.2.2.2.1)],none⟩,⟨6,33,[.v (.pointer (some ⟨g,0,none⟩)),.id 2,.v (.pointer (some ⟨g,0,none⟩)),.id 3,.v (.pointer (some ⟨g,0,none⟩)),.id 4,.v (.pointer (some ⟨g,0,none⟩)),.id 5],none⟩,⟨9,33,[.v (.pointer none),.v (.int .i64 0),.v (.pointer none),.v (.int .i64 0)],some (3,aY g 7 8)⟩]
    [0,2,0,0] [[],[0],[],[0,1,2]] [(9,.w (.c (.v (.pointer (some ⟨g,0,none⟩)))))]
    [91,92,16,0] [b1,b2,n3,n4,n5,n6,b7] 4 35 [] [] R4.out
    (fun b hM=>aA (aA (aA (aA aH
      (aB b))
      (aG b (c_at hM (by decide) (by decide) (by decide) (by decide) rfl rfl rfl rfl (by decide) rfl)))
      (aI b m3))
      (aV b 4 m3)) ?_
   intro n8 n9 b10 ν W5 hR;have R5:=hdd hR;clear hR R4;simp only[putL,bj5,bj8,fs0,fs1,fsn,dSw,dSt,dWc,dWa,dv,di,dp,ds',bj6,bj7,nuTn,nuT0,nuT1,nuU0,nuU1]
   go_upto_region 14 with fail
   refine Spec.go [.w (.c (.sl 6 2)),.w (.c (.ptr 6 0)),dH g 2 3,.w (.c (.sl 6 2)),.w (.c (.ptr 6 4)),dH g 4 5,dH g 10 11,.w (.c (.ptr 12 0)),noS] [6,6,7]
    [(2,E1),(3,E2),(4,E3),(5,E4),(7,(.leaf 0)),(8,(.leaf 0)),(10,(midE E1 E3)),(11,(midE E2 E4))] [⟨0,29,[.v (Value.int IntKind.i64 1),.v (.float .f64 p.1),.v (.float .f64 p.2.1),.v (.float .f64 p.2.2.1)],none⟩,⟨1,29,[.v (Value.int IntKind.i64 2),.v (.float .f64 0),.v (.float .f64 0),.v (.float .f64 p.2.2.2.1)],none⟩,⟨6,33,[.v (.pointer (some ⟨g,0,none⟩)),.id 2,.v (.pointer (some ⟨g,0,none⟩)),.id 3,.v (.pointer (some ⟨g,0,none⟩)),.id 4,.v (.pointer (some ⟨g,0,none⟩)),.id 5],none⟩,⟨9,33,aY g 7 8,none⟩,⟨12,33,[.v (.pointer none),.v (.int .i64 0),.v (.pointer none),.v (.int .i64 0)],some (8,aY g 10 11)⟩]
    [0,0,0,0,0,0,6,0,0] [[],[0],[0,1],[],[3],[3,4],rgn 6,[],rgn 8] [(12,.w (.c (.sl 6 2)))]
    [93,94,95,96,97,98,99,17,0] [b1,b2,n3,n4,n5,n6,b7,n8,n9,b10] 9 41 [] [] R5.out
    (fun b hM=>aA (aA (aA (aA (aA (aA (aA (aA (aA aH
      (aB b))
      (aB b))
      (aD b 4 m2))
      (aB b))
      (aB b))
      (aD b 4 m2))
      (aG b (am2 hM m0 m1 rfl rfl m2 m3 rfl rfl rfl rfl rfl rfl (by decide) rfl)))
      (aI b m4))
      (aV b 4 m4)) ?_
   intro n11 n12 b13 ν W6 hR;have R6:=hdd hR;clear hR R5;simp only[putL,bj5,bj8,fs0,fs1,fsn,dSw,dSt,dWc,dWa,dv,di,dp,ds',bj6,bj7,nuTn,nuT0,nuT1,nuU0,nuU1]
   go_upto_region 15 with fail
   refine Spec.go [dH g 7 8,.w (.c (.sl 6 2)),.w (.c (.ptr 6 0)),dH g 2 3,numS g 13,.w (.c (.v (.pointer (some ⟨g,0,none⟩)))),.w (.c (.ptr 1 3)),.w (.c (.v (.float .f64 p.2.2.2.1))),numS g 14,.tup [.c (.v (.int .i64 0)),.c (.v .nilIface)],.tup [.c (.v (.int .i64 0)),.c (.v .nilIface)],.w (.c (.v (.int .i64 0))),.w (.c (.v .nilIface)),.w (.c (.v (.int .i64 0))),.w (.c (.v .nilIface))] [4,8]
    [(2,E1),(3,E2),(4,E3),(5,E4),(7,(.leaf 0)),(8,(.leaf 0)),(10,(midE E1 E3)),(11,(midE E2 E4)),(13,(sqrX (.leaf 0) (.leaf 0) E1 E2)),(14,(.leaf p.2.2.2.1))] [⟨0,29,[.v (Value.int IntKind.i64 1),.v (.float .f64 p.1),.v (.float .f64 p.2.1),.v (.float .f64 p.2.2.1)],none⟩,⟨1,29,[.v (Value.int IntKind.i64 2),.v (.float .f64 0),.v (.float .f64 0),.v (.float .f64 p.2.2.2.1)],none⟩,⟨6,33,[.v (.pointer (some ⟨g,0,none⟩)),.id 2,.v (.pointer (some ⟨g,0,none⟩)),.id 3,.v (.pointer (some ⟨g,0,none⟩)),.id 4,.v (.pointer (some ⟨g,0,none⟩)),.id 5],none⟩,⟨9,33,aY g 7 8,none⟩,⟨12,33,aY g 10 11,none⟩]
    [0,0,0,0,5,0,0,0,1,1,0,0,0,0,0] [[],[],[1],[1,2],rgn 4,[],[],[6],[5,6,7],rgn 9,rgn 10,rgn 11,rgn 11,rgn 12,[0,1,2,3,4,5,6,7,8,9,10,12]] [(15,.w (.c (.ptr 9 0))),(12,.w (.c (.sl 6 2))),(9,.w (.c (.v (.pointer (some ⟨g,0,none⟩))))),(11,.w (.c (.ptr 1 0)))]
    [101,102,103,104,105,106,107,108,109,110,100,111,112,18,19] [b1,b2,n3,n4,n5,n6,b7,n8,n9,b10,n11,n12,b13] 15 48 [] [] R6.out
    (fun b hM=>aA (aA (aA (aA (aA (aA (aA (aA (aA (aA (aA (aA (aA (aA (aA aH
      (aD b 4 m3))
      (aB b))
      (aB b))
      (aD b 4 m2))
      (aG b (adO hM m4 m5 rfl rfl m0 m1 rfl rfl rfl rfl rfl rfl)))
      (aB b))
      (aB b))
      (aZ b m1))
      (aG b (c_of hM FX.out.1.1 FX.out.1.2 rfl rfl rfl rfl)))
      (aG b (apM hM m8 m9 rfl rfl rfl rfl rfl T1.out)))
      (aB b))
      (aB b))
      (aB b))
      (aB b))
      (aB b)) ?_
   intro n14 n15 ν W7 hR;have R7:=hdd hR;clear hR R6;simp only[putL,bj5,bj8,fs0,fs1,fsn,dSw,dSt,dWc,dWa,dv,di,dp,ds',bj6,bj7,nuTn,nuT0,nuT1,nuU0,nuU1]
   go_upto_region 16 with fail
   refine Spec.go [dH g 7 8,.w (.c (.sl 6 2)),.w (.c (.ptr 6 4)),dH g 4 5,numS g 13,.w (.c (.v (.pointer (some ⟨g,0,none⟩)))),.w (.c (.ptr 1 3)),.w (.c (.v (.float .f64 p.2.2.2.1))),numS g 14,.tup [.c (.v (.int .i64 0)),.c (.v .nilIface)],.tup [.c (.v (.int .i64 0)),.c (.v .nilIface)],.w (.c (.v (.int .i64 0))),.w (.c (.v .nilIface)),.w (.c (.v (.int .i64 0))),.w (.c (.v .nilIface))] [4,8]
    [(2,E1),(3,E2),(4,E3),(5,E4),(7,(.leaf 0)),(8,(.leaf 0)),(10,(midE E1 E3)),(11,(midE E2 E4)),(13,(sqrX (.leaf 0) (.leaf 0) E3 E4)),(14,(.leaf p.2.2.2.1))] [⟨0,29,[.v (Value.int IntKind.i64 1),.v (.float .f64 p.1),.v (.float .f64 p.2.1),.v (.float .f64 p.2.2.1)],none⟩,⟨1,29,[.v (Value.int IntKind.i64 2),.v (.float .f64 0),.v (.float .f64 0),.v (.float .f64 p.2.2.2.1)],none⟩,⟨6,33,[.v (.pointer (some ⟨g,0,none⟩)),.id 2,.v (.pointer (some ⟨g,0,none⟩)),.id 3,.v (.pointer (some ⟨g,0,none⟩)),.id 4,.v (.pointer (some ⟨g,0,none⟩)),.id 5],none⟩,⟨9,33,aY g 7 8,none⟩,⟨12,33,aY g 10 11,none⟩]
    [0,0,0,0,5,0,0,0,1,1,0,0,0,0,0] [[],[],[1],[1,2],rgn 4,[],[],[6],[5,6,7],rgn 9,rgn 10,rgn 11,rgn 11,rgn 12,[0,1,2,3,4,5,6,7,8,9,10,12]] [(15,.w (.c (.ptr 9 0))),(12,.w (.c (.sl 6 2))),(9,.w (.c (.v (.pointer (some ⟨g,0,none⟩))))),(11,.w (.c (.ptr 1 0)))]
    [114,115,116,117,118,119,120,121,122,123,113,124,125,20,21] [b1,b2,n3,n4,n5,n6,b7,n8,n9,b10,n11,n12,b13] 15 55 [true,true,true,true,true,true,true,true,false,false] [] R7.out
    (fun b hM=>aA (aA (aA (aA (aA (aA (aA (aA (aA (aA (aA (aA (aA (aA (aA aH
      (aD b 4 m3))
      (aB b))
      (aB b))
      (aD b 4 m2))
      (aG b (adO hM m4 m5 rfl rfl m2 m3 rfl rfl rfl rfl rfl rfl)))
      (aB b))
      (aB b))
      (aZ b m1))
      (aG b (c_of hM FX.out.1.1 FX.out.1.2 rfl rfl rfl rfl)))
      (aG b (apM hM m8 m9 rfl rfl rfl rfl rfl T2.out)))
      (aB b))
      (aB b))
      (aB b))
      (aB b))
      (aB b)) ?_
   intro n16 n17 ν W8 hR;have R8:=hdd hR;clear hR R7;simp only[putL,bj5,bj8,fs0,fs1,fsn,dSw,dSt,dWc,dWa,dv,di,dp,ds',bj6,bj7,nuTn,nuT0,nuT1,nuU0,nuU1]
   go_upto_region 17 with fail
   refine Spec.go [.w (.c (.ptr 0 1)),.w (.c (.v (.float .f64 p.1))),.w (.c (.ptr 0 1)),.w (.c (.v (.float .f64 p.1))),.w (.c (.v (.float .f64 u2))),.w (.c (.ptr 0 2)),.w (.c (.v (.float .f64 p.2.1))),.w (.c (.ptr 0 2)),.w (.c (.v (.float .f64 p.2.1))),.w (.c (.v (.float .f64 u3))),.w (.c (.v (.float .f64 p.2.2.2.2.2.2))),.w (.c (.v (.float .f64 p.2.2.2.2.2.2)))] []
    [(1,(midE E1 E3)),(2,(midE E2 E4))] [⟨0,29,[.v (Value.int IntKind.i64 1),.v (.float .f64 p.1),.v (.float .f64 p.2.1),.v (.float .f64 p.2.2.1)],none⟩,⟨3,33,aY g 1 2,none⟩]
    [0,0,0,0,0,0,0,0,0,0,0,0] [[],[0],[],[2],rgn 4,[],[5],[],[7],[5,6,7,8],rgn 10,rgn 11] [(10,.w (.c (.ptr 0 0)))]
    [126,127,128,129,130,131,132,133,134,135,136,22] [b1,n11,n12,b13] 12 55 [false,false,false,false,false,false,true,true,false,false] [true,false,false,false] R8.out
    (fun b hM=>aA (aA (aA (aA (aA (aA (aA (aA (aA (aA (aA (aA aH
      (aB b))
      (aZ b m0))
      (aB b))
      (aZ b m0))
      (aB b (hv:=fun ν w=>dV rfl rfl rfl rfl (MO.out.1 w))))
      (aB b))
      (aZ b m0))
      (aB b))
      (aZ b m0))
      (aB b (hv:=fun ν w=>dV rfl rfl rfl rfl (MO.out.2.1 w))))
      (aB b (hv:=fun ν w=>dV rfl rfl rfl rfl (MO.out.2.2.1 w))))
      (aB b)) ?_
   intro ν W9 hR;have R9:=hdd hR;clear hR R8;simp only[putL,bj5,bj8,fs0,fs1,fsn,dSw,dSt,dWc,dWa,dv,di,dp,ds',bj6,bj7,nuTn,nuT0,nuT1,nuU0,nuU1]
   go_upto_region 18 with fail
   refine Spec.go [.w (.c (.v (.pointer (some ⟨g,0,none⟩)))),.w (.c (.ptr 0 1)),.w (.c (.v (.float .f64 p.1))),.w (.c (.ptr 0 3)),.w (.c (.v (.float .f64 p.2.2.1))),.w (.c (.v (.float .f64 p.2.2.2.2.1))),numS g 4,.w (.c (.v (.pointer (some ⟨g,0,none⟩)))),.w (.c (.v (.float .f64 p.2.2.2.2.2.2))),numS g 5,numS g 6,.w (.c (.v (.pointer (some ⟨g,0,none⟩)))),.w (.c (.ptr 0 2)),.w (.c (.v (.float .f64 p.2.1))),.w (.c (.ptr 0 3)),.w (.c (.v (.float .f64 p.2.2.1))),.w (.c (.v (.float .f64 p.2.2.2.2.2.1))),numS g 7,.w (.c (.v (.pointer (some ⟨g,0,none⟩)))),.w (.c (.v (.float .f64 p.2.2.2.2.2.2))),numS g 8,numS g 9,dH g 6 9,.w (.c (.ptr 10 0)),noS] [6,9,10,17,20,21,23]
    [(1,(midE E1 E3)),(2,(midE E2 E4)),(4,(.leaf p.2.2.2.2.1)),(5,(.leaf p.2.2.2.2.2.2)),(6,(.div (.leaf p.2.2.2.2.1) (.leaf p.2.2.2.2.2.2))),(7,(.leaf p.2.2.2.2.2.1)),(8,(.leaf p.2.2.2.2.2.2)),(9,(.div (.leaf p.2.2.2.2.2.1) (.leaf p.2.2.2.2.2.2)))] [⟨0,29,[.v (Value.int IntKind.i64 1),.v (.float .f64 p.1),.v (.float .f64 p.2.1),.v (.float .f64 p.2.2.1)],none⟩,⟨3,33,aY g 1 2,none⟩,⟨10,33,[.v (.pointer none),.v (.int .i64 0),.v (.pointer none),.v (.int .i64 0)],some (24,aY g 6 9)⟩]
    [0,0,0,0,0,0,1,0,0,1,1,0,0,0,0,0,0,1,0,0,1,1,0,0,0] [[],[],[1],[],[3],[1,2,3,4],rgn 6,[],[],[7,8],rgn 10,[],[],[12],[],[14],[12,13,14,15],[11,12,13,14,15,16],[],[],[18,19],[11,12,13,14,15,16,17,18,19,20],rgn 22,[],rgn 24] [(9,.w (.c (.v (.pointer (some ⟨g,0,none⟩))))),(10,.w (.c (.ptr 0 0))),(21,.w (.c (.v (.float .f64 p.2.2.2.2.2.2))))]
    [137,138,139,140,141,142,143,144,145,146,147,148,149,150,151,152,153,154,155,156,157,158,159,23,0] [b1,n11,n12,b13] 25 61 [] [] R9.out
    (fun b hM=>aA (aA (aA (aA (aA (aA (aA (aA (aA (aA (aA (aA (aA (aA (aA (aA (aA (aA (aA (aA (aA (aA (aA (aA (aA aH
      (aB b))
      (aB b))
      (aZ b m0))
      (aB b))
      (aZ b m0))
      (aB b (hv:=fun ν w=>dV rfl rfl rfl rfl (MO.out.2.2.2.1 w))))
      (aG b (c_of hM FX.out.2.1.1 FX.out.2.1.2 rfl rfl rfl rfl)))
      (aB b))
      (aB b))
      (aG b (c_of hM FX.out.2.2.2.1 FX.out.2.2.2.2 rfl rfl rfl rfl)))
      (aG b (mO hM m2 m3 rfl rfl rfl rfl rfl rfl)))
      (aB b))
      (aB b))
      (aZ b m0))
      (aB b))
      (aZ b m0))
      (aB b (hv:=fun ν w=>dV rfl rfl rfl rfl (MO.out.2.2.2.2.1 w))))
      (aG b (c_of hM FX.out.2.2.1.1 FX.out.2.2.1.2 rfl rfl rfl rfl)))
      (aB b))
      (aB b))
      (aG b (c_of hM FX.out.2.2.2.1 FX.out.2.2.2.2 rfl rfl rfl rfl)))
      (aG b (mO hM m5 m6 rfl rfl rfl rfl rfl rfl)))
      (aB b))
      (aI b m2))
      (aV b 4 m2)) ?_
   intro n18 n19 n20 n21 n22 n23 b24 ν W10 hR;have R10:=hdd hR;clear hR R9;simp only[putL,bj5,bj8,fs0,fs1,fsn,dSw,dSt,dWc,dWa,dv,di,dp,ds',bj6,bj7,nuTn,nuT0,nuT1,nuU0,nuU1]
   go_upto_region 19 with fail
   refine Spec.go [dH g 0 1,dH g 3 4,.tup [.c (.v (.bool true)),.c (.v .nilIface)],.tup [.c (.v (.bool true)),.c (.v .nilIface)],.w (.c (.v (.bool true))),.w (.c (.v .nilIface)),.w (.c (.v (.bool true))),.w (.c (.v .nilIface))] []
    [(0,(midE E1 E3)),(1,(midE E2 E4)),(3,(.div (.leaf p.2.2.2.2.1) (.leaf p.2.2.2.2.2.2))),(4,(.div (.leaf p.2.2.2.2.2.1) (.leaf p.2.2.2.2.2.2)))] [⟨2,33,aY g 0 1,none⟩,⟨5,33,aY g 3 4,none⟩]
    [0,0,2,0,0,0,0,0] [[],[],[0,1],[0,1,2],rgn 4,rgn 4,rgn 5,[0,1,2,3,5]] [(16,.w (.c (.ptr 2 0))),(22,.w (.c (.ptr 5 0)))]
    [161,162,163,160,164,165,24,25] [n11,n12,b13,n20,n23,b24] 8 63 [true,true,false,false,true,false,false] [false] R10.out
    (fun b hM=>aA (aA (aA (aA (aA (aA (aA (aA aH
      (aD b 4 m0))
      (aD b 4 m1))
      (aG b (aeN hM m0 m1 rfl rfl m2 m3 rfl rfl rfl rfl rfl T3.out)))
      (aB b))
      (aB b))
      (aB b))
      (aB b))
      (aB b)) ?_
   intro ν W11 hR;replace hR:Run (bs w) g 63 [((midE E1 E3),n11),((midE E2 E4),n12),((.div (.leaf p.2.2.2.2.1) (.leaf p.2.2.2.2.2.2)),n20),((.div (.leaf p.2.2.2.2.2.1) (.leaf p.2.2.2.2.2.2)),n23)] [(b13,dX g n11 n12),(b24,dX g n20 n23)] W11:=hR;have R11:=hdd hR;clear hR R10;simp only[putL,bj5,bj8,fs0,fs1,fsn,dSw,dSt,dWc,dWa,dv,di,dp,ds',bj6,bj7,nuTn,nuT0,nuT1,nuU0,nuU1];have HB:=hdd R11.out.below;clear R11 MX MY MR MO FX HP T1 T2 T3;go_wp2;go_ret;exact⟨rfl,HB.out⟩
end Go.Proofs.YtjaafolhfihegaaGreatDoor
