/- A part of the proof: contracts of functions and plain laws (MwW). -/
import Derived.Test.YtjaafolhfihegaaGreatDoorK39
set_option linter.unusedVariables false
set_option linter.unusedSimpArgs false
set_option maxHeartbeats 25600000
set_option maxRecDepth 100000
namespace Go.Proofs.YtjaafolhfihegaaGreatDoor
open Go.RowKit Go.Maps Go.Stop Go.Extern
open Int renaming mul_nonneg->bhS,mul_ne_zero->bhT
open List renaming setIfInBounds_toArray->bhO,map_cons->bhP,map_nil->bhQ,set->bhR
theorem uB{w:World}{x y r k:Int}(hT:Tab w)(htb:1<w.heap.size):
 Calls Tryz.prog 9 #[.int .i64 x,.int .i64 y,.int .i64 r,.int .i64 k] w (RetV w (.bool true)):=by
 have HA:=hdd (anQ hT htb);have HT:=hdd (And.intro hT htb);obtain⟨r0,rw1,rw2,r1,r2⟩:=alQ (n:=9) (d:=1) r (by omega) (by omega);obtain⟨xa,mx1,mx2,mx3⟩:=alR (n:=20) x (by omega);obtain⟨yb,my1,my2,my3⟩:=alR (n:=20) y (by omega);obtain⟨k1,k2,s0,k3,ms1,ms2,ms3,ms4,ms5,ms6⟩:=anR k;obtain⟨u,v,wu,wv,hcase,hU,hV,huv,hu0,hv0,bu,bv⟩:=legs (Go.bits BinOp.and IntKind.i64 k 1==1) r1 (by omega);have br:r0.natAbs<=9:=by clear bu bv;omega
 have ba:xa.natAbs<=19:=by clear bu bv br;omega
 have bb:yb.natAbs<=19:=by clear bu bv br ba;omega
 have bs:s0.natAbs<=4:=by clear bu bv br ba bb;omega
 obtain⟨wa,cwa,hA⟩:=sI xa (b53 ba);obtain⟨wb,cwb,hB⟩:=sI yb (b53 bb);obtain⟨wc,cwc,hC⟩:=sI (25*r0*r0) (b53 (nab (nab (show(25:Int).natAbs<=25 by decide) br) br));obtain⟨wr,cwr,hR⟩:=sI (r0*r0) (b53 (nab br br));obtain⟨ws,cws,hS⟩:=sI s0 (b53 bs);obtain⟨wp,wq,wl,t1,t2,l1,l2,l3,l4,l5,hP,hQ,hL⟩:=aeK hA hB hU hV ba bb bu bv;obtain⟨u1,u2,oa,ob,wk,d0,mm,oc,n0,ia,ib,n1,n2,q1,ic,o1,o2,o3,o4,o5,o6,o7,o8,o9,p1,p2,p3,p4,p5,p6,iOA,iOB,iOC,iIA,iIB,iIC⟩:=ah0 hA hB hU hV hS hR ba bb bu bv bs (nab br br);have kk:25*r0*r0=25*(r0*r0):=Int.mul_assoc _ _ _;have k0:0<25*r0*r0:=Int.mul_pos (by clear bu bv br ba bb bs;omega) (by clear bu bv br ba bb bs;omega);have kb:25*r0*r0<=2025:=by
  have:=Int.mul_le_mul (show r0<=9 by clear bu bv br ba bb bs;omega) (show r0<=9 by clear bu bv br ba bb bs;omega) (by clear bu bv br ba bb bs;omega) (by clear bu bv br ba bb bs;omega);clear bu bv br ba bb bs;omega
 rw[<-kk]at iOC iIC;have TT:=hdd (alM hA hB hU hV hC hL hP hQ iOA iOB iOC iIA iIB iIC huv k0 kb ba bb bu bv ms5 ms6);have su0:s0*u≠0:=bhT (by clear bu bv br ba bb bs;omega) hu0;have s1u:(1-s0)*u≠0:=bhT (by clear bu bv br ba bb bs;omega) hu0;have HO:Hid (dI wa wb wc/\nI wu wv wl/\dI oa ob oc/\dI ia ib ic):=hdd ⟨⟨hA.1,hB.1,hC.1,alT hC (by omega)⟩,⟨hU.1,hV.1,hL.1,Or.inl (apT hU hu0)⟩,⟨iOA.1,iOB.1,iOC.1,alT iOC (bhS (bhS (by omega) (by omega)) (by omega))⟩,⟨iIA.1,iIB.1,iIC.1,alT iIC (bhS (bhS (by omega) (by omega)) (by omega))⟩⟩;obtain⟨c1,y1⟩:=uA hU.1 uU;obtain⟨c2,y2⟩:=uA hV.1 uU;obtain⟨c3,y3⟩:=uA iOA.1 hA.1;obtain⟨c4,y4⟩:=uA iOB.1 hB.1;obtain⟨c5,y5⟩:=uA hA.1 iIA.1;obtain⟨c6,y6⟩:=uA hB.1 iIB.1;have z1:=alS hA iOA (show xa≠xa+s0*u from fun e=>su0 (by clear bu bv br ba bb bs;omega));have z2:=alS iIA hA (show xa+(1-s0)*u≠xa from fun e=>s1u (by clear bu bv br ba bb bs;omega))
 have HX:=hdd (And.intro y1 (And.intro y2 (And.intro z1 (And.intro y3 (And.intro y4 (And.intro z2 (And.intro y5 y6)))))));have FF:=hdd (And.intro hP.1 hQ.1);have MX:=hdd (And.intro mx1 (And.intro cwa (And.intro my1 cwb)));have ML:=hdd (And.intro l1 (And.intro l2 (And.intro l3 (And.intro l4 l5))));have MS:=hdd (And.intro ms1 (And.intro ms2 (And.intro ms3 (And.intro ms4 cws))));have MO:=hdd (And.intro o1 (And.intro o2 (And.intro o3 (And.intro o4 (And.intro o5 (And.intro o6 (And.intro o7 (And.intro o8 (And.intro o9 (And.intro p1 (And.intro p2 (And.intro p3 (And.intro p4 (And.intro p5 p6))))))))))))));have MR:=hdd (alU r1 (show r0<=9 by clear bu bv br ba bb bs;omega) cwc cwr);have HC:=hdd hcase;clear hT htb r1 r2 mx1 mx2 mx3 my1 my2 my3 ms1 ms2 ms3 ms4 ms5 ms6 hcase huv hu0 hv0 bu bv br ba bb bs cwa cwb cwc cwr cws l1 l2 l3 l4 l5 hP hQ hL o1 o2 o3 o4 o5 o6 o7 o8 o9 p1 p2 p3 p4 p5 p6 iOA iOB iOC iIA iIB iIC hA hB hC hR hS hU hV kk k0 kb su0 s1u y1 y2 y3 y4 y5 y6 z1 z2;have hst:=aX
 go_enter Tryz.func9,Tryz.ntmps9
 go_wp2_with fail
 refine HA.out.mono ?_;rintro e w3⟨rfl,hb3⟩;have HN:=hdd (afP (w0:=w) (l:=[]) hb3 (fun p hp=>by cases hp) (by simp) HT.out.1 HT.out.2);clear hb3 HA;go_wp2_with fail
 refine HN.out.mono ?_;rintro e W1⟨g,rfl,hR⟩;have R1:=hdd hR;clear hR HN HT hst;dsimp only
 go_upto_region 7 with fail
 clear rw1 rw2;refine Spec.go [.w (.c (.v (.int .i64 x))),.w (.c (.v (.int .i64 xa))),.w (.c (.v (.float .f64 wa))),.w (.c (.v (.int .i64 y))),.w (.c (.v (.int .i64 yb))),.w (.c (.v (.float .f64 wb))),.w (.c (.v (.float .f64 wa))),.w (.c (.v (.float .f64 wb)))] []
  [] []
  [0,0,0,0,0,0,0,0] [[],[0],[0,1],[],[3],[3,4],[0,1,2],[3,4,5]] [(0,.w (.c (.v (.int .i64 x)))),(1,.w (.c (.v (.int .i64 y))))]
  [45,46,47,48,49,50,11,12] [] 8 0 [] [] R1.out
  (fun b hM=>aA (aA (aA (aA (aA (aA (aA (aA aK
    (aB b))
    (aB b (hv:=fun ν w=>bP rfl rfl rfl rfl (MX.out.1 w))))
    (aB b (hv:=fun ν w=>lL rfl rfl (MX.out.2.1 w))))
    (aB b))
    (aB b (hv:=fun ν w=>bP rfl rfl rfl rfl (MX.out.2.2.1 w))))
    (aB b (hv:=fun ν w=>lL rfl rfl (MX.out.2.2.2 w))))
    (aB b))
    (aB b)) ?_
 intro ν W2 hR;have R2:=hdd hR;clear hR R1;simp only[putL,bhO,bhR,fs0,fs1,fsn,dSw,dSt,dWc,dWa,dv,di,dp,ds',bhP,bhQ,nuTn,nuT0,nuT1,nuU0,nuU1]
 go_upto_region 8 with fail
 refine Spec.go [.w (.c (.v (.float .f64 wa))),.w (.c (.v (.float .f64 wb))),.w (.c (.v (.int .i64 r0))),.w (.c (.v (.int .i64 (25*r0)))),.w (.c (.v (.int .i64 r0))),.w (.c (.v (.int .i64 (25*r0*r0)))),.w (.c (.v (.float .f64 wc))),.w (.agg ([.v (Value.int IntKind.i64 2),.v (.float .f64 wa),.v (.float .f64 wb),.v (.float .f64 wc)])),.w (.c (.ptr 0 0)),noS] [8]
  [] [⟨0,29,curC 0 0 0 0,some (9,[.v (Value.int IntKind.i64 2),.v (.float .f64 wa),.v (.float .f64 wb),.v (.float .f64 wc)])⟩]
  [0,0,0,0,0,0,0,0,0,0] [[],[],[],[2],[],[2,3,4],[2,3,4,5],rgn 7,[],rgn 9] [(10,.w (.c (.v (.float .f64 wa)))),(11,.w (.c (.v (.float .f64 wb)))),(2,.w (.c (.v (.int .i64 r0))))]
  [51,52,53,54,55,56,57,58,13,0] [] 10 0 [] [] R2.out
  (fun b hM=>aA (aA (aA (aA (aA (aA (aA (aA (aA (aA aK
    (aB b))
    (aB b))
    (aB b))
    (aB b (hv:=fun ν w=>bP rfl rfl rfl rfl (MR.out.1 w))))
    (aB b))
    (aB b (hv:=fun ν w=>bP rfl rfl rfl rfl (MR.out.2.1 w))))
    (aB b (hv:=fun ν w=>lL rfl rfl (MR.out.2.2.1 w))))
    (aB b))
    (aT b m0))
    (bT b 4 m0)) ?_
 intro b1 ν W3 hR;have R3:=hdd hR;clear hR R2;simp only[putL,bhO,bhR,fs0,fs1,fsn,dSw,dSt,dWc,dWa,dv,di,dp,ds',bhP,bhQ,nuTn,nuT0,nuT1,nuU0,nuU1]
 go_upto_region 9 with fail
 refine Spec.go [.w (.c (.v (.int .i64 r0))),.w (.c (.v (.int .i64 (3*r0)))),.w (.c (.v (.float .f64 (fl (3*r0))))),.w (.c (.v (.int .i64 r0))),.w (.c (.v (.int .i64 (4*r0)))),.w (.c (.v (.float .f64 (fl (4*r0))))),.w (.c (.v (.float .f64 (fl (3*r0))))),.w (.c (.v (.float .f64 (fl (4*r0)))))] []
  [] [⟨0,29,[.v (Value.int IntKind.i64 2),.v (.float .f64 wa),.v (.float .f64 wb),.v (.float .f64 wc)],none⟩]
  [0,0,0,0,0,0,0,0] [[],[0],[0,1],[],[3],[3,4],[0,1,2],[3,4,5]] [(2,.w (.c (.v (.int .i64 r0))))]
  [59,60,61,62,63,64,14,15] [b1] 8 0 [] [] R3.out
  (fun b hM=>aA (aA (aA (aA (aA (aA (aA (aA aK
    (aB b))
    (aB b (hv:=fun ν w=>bP rfl rfl rfl rfl (MR.out.2.2.2.1 w))))
    (aB b (hv:=fun ν w=>lL rfl rfl (MR.out.2.2.2.2.1 w))))
    (aB b))
    (aB b (hv:=fun ν w=>bP rfl rfl rfl rfl (MR.out.2.2.2.2.2.1 w))))
    (aB b (hv:=fun ν w=>lL rfl rfl (MR.out.2.2.2.2.2.2.1 w))))
    (aB b))
    (aB b)) ?_
 intro ν W4 hR;have R4:=hdd hR;clear hR R3;simp only[putL,bhO,bhR,fs0,fs1,fsn,dSw,dSt,dWc,dWa,dv,di,dp,ds',bhP,bhQ,nuTn,nuT0,nuT1,nuU0,nuU1];have hng:=alV;rcases HC.out with ⟨hc,e1,e2⟩|⟨hc,e1,e2⟩<;>
 (go_upto_region 12 with fail
  simp only[e1,e2];clear e1 e2 hc HC hng;refine Spec.go [.w (.c (.v (.float .f64 wu))),.w (.c (.v (.float .f64 wv))),.w (.c (.v (.float .f64 wu))),.w (.c (.v (.float .f64 wa))),.w (.c (.v (.float .f64 wu))),.w (.c (.v (.float .f64 wp))),.w (.c (.v (.float .f64 t1))),.w (.c (.v (.float .f64 wv))),.w (.c (.v (.float .f64 wb))),.w (.c (.v (.float .f64 wv))),.w (.c (.v (.float .f64 wq))),.w (.c (.v (.float .f64 t2))),.w (.c (.v (.float .f64 wl))),.w (.agg ([.v (Value.int IntKind.i64 1),.v (.float .f64 wu),.v (.float .f64 wv),.v (.float .f64 wl)])),.w (.c (.ptr 1 0)),noS] [14]
   [] [⟨0,29,[.v (Value.int IntKind.i64 2),.v (.float .f64 wa),.v (.float .f64 wb),.v (.float .f64 wc)],none⟩,⟨1,29,curC 0 0 0 0,some (15,[.v (Value.int IntKind.i64 1),.v (.float .f64 wu),.v (.float .f64 wv),.v (.float .f64 wl)])⟩]
   [0,0,0,0,0,0,0,0,0,0,0,0,0,0,0,0] [[],[],[],[],[],[3,4],[2,3,4,5],[],[],[],[8,9],[7,8,9,10],[2,3,4,5,6,7,8,9,10,11],rgn 13,[],rgn 15] [(13,.w (.c (.v (.float .f64 wu)))),(14,.w (.c (.v (.float .f64 wv)))),(10,.w (.c (.v (.float .f64 wa)))),(11,.w (.c (.v (.float .f64 wb))))]
   [71,72,73,74,75,76,77,78,79,80,81,82,83,84,16,0] [b1] 16 0 [] [] R4.out
   (fun b hM=>aA (aA (aA (aA (aA (aA (aA (aA (aA (aA (aA (aA (aA (aA (aA (aA aK
     (aB b))
     (aB b))
     (aB b))
     (aB b))
     (aB b))
     (aB b (hv:=fun ν w=>bP rfl rfl rfl rfl (ML.out.1 w))))
     (aB b (hv:=fun ν w=>bP rfl rfl rfl rfl (ML.out.2.2.1 w))))
     (aB b))
     (aB b))
     (aB b))
     (aB b (hv:=fun ν w=>bP rfl rfl rfl rfl (ML.out.2.1 w))))
     (aB b (hv:=fun ν w=>bP rfl rfl rfl rfl (ML.out.2.2.2.1 w))))
     (aB b (hv:=fun ν w=>bP rfl rfl rfl rfl (ML.out.2.2.2.2 w))))
     (aB b))
     (aT b m1))
     (bT b 4 m1)) ?_
  intro b2 ν W5 hR;have R5:=hdd hR;clear hR R4;simp only[putL,bhO,bhR,fs0,fs1,fsn,dSw,dSt,dWc,dWa,dv,di,dp,ds',bhP,bhQ,nuTn,nuT0,nuT1,nuU0,nuU1]
  go_upto_region 13 with fail
  refine Spec.go [.w (.c (.v (.pointer (some ⟨g,0,none⟩)))),.w (.agg ([.v (Value.int IntKind.i64 2),.v (.float .f64 wa),.v (.float .f64 wb),.v (.float .f64 wc)])),.w (.agg ([.v (Value.int IntKind.i64 1),.v (.float .f64 wu),.v (.float .f64 wv),.v (.float .f64 wl)])),.tup [.c (.sl 4 1),.c (.v (.bool false)),.c (.v .nilIface)],.tup [.c (.sl 4 1),.c (.v (.bool false)),.c (.v .nilIface)],.w (.c (.sl 4 1)),.w (.c (.v (.bool false))),.w (.c (.v .nilIface)),.w (.c (.sl 4 1)),.w (.c (.v (.bool false))),.w (.c (.v .nilIface))] [3,3,3]
   [(2,(cutX (.leaf wu) (.leaf wv) (.leaf wl) wa wb)),(3,(cutY (.leaf wu) (.leaf wv) (.leaf wl) wa wb))] [⟨0,29,[.v (Value.int IntKind.i64 2),.v (.float .f64 wa),.v (.float .f64 wb),.v (.float .f64 wc)],none⟩,⟨1,29,[.v (Value.int IntKind.i64 1),.v (.float .f64 wu),.v (.float .f64 wv),.v (.float .f64 wl)],none⟩,⟨4,33,bY g 2 3,none⟩]
   [0,0,0,33,0,0,0,0,0,0,0] [[],[],[],[0,1,2],rgn 4,rgn 5,rgn 5,rgn 5,rgn 6,[0,1,2,3,4,6],[0,1,2,3,4,7]] [(9,.w (.c (.v (.pointer (some ⟨g,0,none⟩))))),(12,.w (.c (.ptr 0 0))),(15,.w (.c (.ptr 1 0)))]
   [86,87,88,89,85,90,91,92,17,18,19] [b1,b2] 11 33 [] [] R5.out
   (fun b hM=>aA (aA (aA (aA (aA (aA (aA (aA (aA (aA (aA aK
     (aB b))
     (aF b 4 m0))
     (aF b 4 m1))
     (iY b m2 (c_fb (ix:=[]) (ts:=[2,3]) hM (fun ν=>alN (p:=(wa,wb,wc,wu,wv,wl)) HO.out.1 HO.out.2.1 HX.out.1 HX.out.2.1 TT.out.1))))
     (aB b))
     (aB b))
     (aB b))
     (aB b))
     (aB b))
     (aB b))
     (aB b)) ?_
  intro n3 n4 b5 ν W6 hR;have R6:=hdd hR;clear hR R5;simp only[putL,bhO,bhR,fs0,fs1,fsn,dSw,dSt,dWc,dWa,dv,di,dp,ds',bhP,bhQ,nuTn,nuT0,nuT1,nuU0,nuU1]
  go_upto_region 16 with fail
  refine Spec.go [.w (.c (.sl 3 1)),.w (.c (.ptr 3 0)),fT g 1 2,.w (.c (.v (.pointer (some ⟨g,0,none⟩)))),.w (.c (.v (.float .f64 wa))),.w (.c (.v (.float .f64 wu))),.w (.c (.v (.float .f64 wp))),.w (.c (.v (.float .f64 wb))),.w (.c (.v (.float .f64 wv))),.w (.c (.v (.float .f64 wq))),fT g 4 5,.tup [.c (.v (.bool true)),.c (.v .nilIface)],.tup [.c (.v (.bool true)),.c (.v .nilIface)],.w (.c (.v (.bool true))),.w (.c (.v .nilIface)),.w (.c (.v (.bool true))),.w (.c (.v .nilIface))] [10,10]
   [(1,(cutX (.leaf wu) (.leaf wv) (.leaf wl) wa wb)),(2,(cutY (.leaf wu) (.leaf wv) (.leaf wl) wa wb)),(4,(.leaf wp)),(5,(.leaf wq))] [⟨0,29,[.v (Value.int IntKind.i64 2),.v (.float .f64 wa),.v (.float .f64 wb),.v (.float .f64 wc)],none⟩,⟨3,33,bY g 1 2,none⟩]
   [0,0,0,0,0,0,0,0,0,0,2,2,0,0,0,0,0] [[],[0],[0,1],[],[],[],[4,5],[],[],[7,8],[3,4,5,6,7,8,9],rgn 11,rgn 12,rgn 13,rgn 13,rgn 14,[0,1,2,3,4,5,6,7,8,9,10,11,12,14]] [(16,.w (.c (.sl 3 1))),(9,.w (.c (.v (.pointer (some ⟨g,0,none⟩))))),(10,.w (.c (.v (.float .f64 wa)))),(13,.w (.c (.v (.float .f64 wu)))),(11,.w (.c (.v (.float .f64 wb)))),(14,.w (.c (.v (.float .f64 wv))))]
   [104,105,106,107,108,109,110,111,112,113,114,115,103,116,117,20,21] [b1,n3,n4,b5] 17 37 [] [true,false] R6.out
   (fun b hM=>aA (aA (aA (aA (aA (aA (aA (aA (aA (aA (aA (aA (aA (aA (aA (aA (aA aK
     (aB b))
     (aB b))
     (aF b 4 m1))
     (aB b))
     (aB b))
     (aB b))
     (aB b (hv:=fun ν w=>bP rfl rfl rfl rfl (ML.out.1 w))))
     (aB b))
     (aB b))
     (aB b (hv:=fun ν w=>bP rfl rfl rfl rfl (ML.out.2.1 w))))
     (aJ b (c_at hM FF.out.1.1 FF.out.2.1 FF.out.1.2 FF.out.2.2 rfl rfl rfl rfl (by decide) rfl)))
     (aJ b (xZ hM m0 m1 rfl rfl m2 m3 rfl rfl rfl rfl rfl TT.out.2.1)))
     (aB b))
     (aB b))
     (aB b))
     (aB b))
     (aB b)) ?_
  intro n6 n7 ν W7 hR;have R7:=hdd hR;clear hR R6;simp only[putL,bhO,bhR,fs0,fs1,fsn,dSw,dSt,dWc,dWa,dv,di,dp,ds',bhP,bhQ,nuTn,nuT0,nuT1,nuU0,nuU1]
  go_upto_region 19 with fail
  refine Spec.go [.w (.c (.v (.int .i64 k))),.w (.c (.v (.int .i64 k1))),.w (.c (.v (.int .i64 k2))),.w (.c (.v (.int .i64 k3))),.w (.c (.v (.int .i64 s0))),.w (.c (.v (.float .f64 ws))),.w (.c (.v (.float .f64 ws)))] []
   [(1,(cutX (.leaf wu) (.leaf wv) (.leaf wl) wa wb)),(2,(cutY (.leaf wu) (.leaf wv) (.leaf wl) wa wb))] [⟨0,29,[.v (Value.int IntKind.i64 2),.v (.float .f64 wa),.v (.float .f64 wb),.v (.float .f64 wc)],none⟩,⟨3,33,bY g 1 2,none⟩]
   [0,0,0,0,0,0,0] [[],[0],[0,1],[0,1,2],rgn 4,rgn 5,rgn 6] [(3,.w (.c (.v (.int .i64 k))))]
   [124,125,126,127,128,129,22] [b1,n3,n4,b5] 7 37 [true,true,false,false] [] R7.out
   (fun b hM=>aA (aA (aA (aA (aA (aA (aA aK
     (aB b))
     (aB b (hv:=fun ν w=>bP rfl rfl rfl rfl (MS.out.1 w))))
     (aB b (hv:=fun ν w=>bP rfl rfl rfl rfl (MS.out.2.1 w))))
     (aB b (hv:=fun ν w=>bP rfl rfl rfl rfl (MS.out.2.2.1 w))))
     (aB b (hv:=fun ν w=>bP rfl rfl rfl rfl (MS.out.2.2.2.1 w))))
     (aB b (hv:=fun ν w=>lL rfl rfl (MS.out.2.2.2.2 w))))
     (aB b)) ?_
  intro ν W8 hR;have R8:=hdd hR;clear hR R7;simp only[putL,bhO,bhR,fs0,fs1,fsn,dSw,dSt,dWc,dWa,dv,di,dp,ds',bhP,bhQ,nuTn,nuT0,nuT1,nuU0,nuU1]
  go_upto_region 20 with fail
  refine Spec.go [.w (.c (.v (.float .f64 wa))),.w (.c (.v (.float .f64 ws))),.w (.c (.v (.float .f64 wu))),.w (.c (.v (.float .f64 u1))),.w (.c (.v (.float .f64 oa))),.w (.c (.v (.float .f64 wb))),.w (.c (.v (.float .f64 ws))),.w (.c (.v (.float .f64 wv))),.w (.c (.v (.float .f64 u2))),.w (.c (.v (.float .f64 ob))),.w (.c (.v (.int .i64 r0))),.w (.c (.v (.int .i64 r0))),.w (.c (.v (.int .i64 (r0*r0)))),.w (.c (.v (.float .f64 wr))),.w (.c (.v (.float .f64 wk))),.w (.c (.v (.float .f64 ws))),.w (.c (.v (.float .f64 d0))),.w (.c (.v (.float .f64 mm))),.w (.c (.v (.float .f64 ws))),.w (.c (.v (.float .f64 d0))),.w (.c (.v (.float .f64 oc))),.w (.agg ([.v (Value.int IntKind.i64 2),.v (.float .f64 oa),.v (.float .f64 ob),.v (.float .f64 oc)])),.w (.c (.ptr 4 0)),noS] [22]
   [(1,(cutX (.leaf wu) (.leaf wv) (.leaf wl) wa wb)),(2,(cutY (.leaf wu) (.leaf wv) (.leaf wl) wa wb))] [⟨0,29,[.v (Value.int IntKind.i64 2),.v (.float .f64 wa),.v (.float .f64 wb),.v (.float .f64 wc)],none⟩,⟨3,33,bY g 1 2,none⟩,⟨4,29,curC 0 0 0 0,some (23,[.v (Value.int IntKind.i64 2),.v (.float .f64 oa),.v (.float .f64 ob),.v (.float .f64 oc)])⟩]
   [0,0,0,0,0,0,0,0,0,0,0,0,0,0,0,0,0,0,0,0,0,0,0,0] [[],[],[],[1,2],rgn 4,[],[],[],[6,7],[5,6,7,8],[],[],[10,11],[10,11,12],[10,11,12,13],[],[15],[10,11,12,13,14,15,16],[],[18],[10,11,12,13,14,15,16,17,18,19],rgn 21,[],rgn 23] [(10,.w (.c (.v (.float .f64 wa)))),(21,.w (.c (.v (.float .f64 ws)))),(13,.w (.c (.v (.float .f64 wu)))),(11,.w (.c (.v (.float .f64 wb)))),(14,.w (.c (.v (.float .f64 wv)))),(2,.w (.c (.v (.int .i64 r0))))]
   [130,131,132,133,134,135,136,137,138,139,140,141,142,143,144,145,146,147,148,149,150,151,23,0] [b1,n3,n4,b5] 24 37 [] [] R8.out
   (fun b hM=>aA (aA (aA (aA (aA (aA (aA (aA (aA (aA (aA (aA (aA (aA (aA (aA (aA (aA (aA (aA (aA (aA (aA (aA aK
     (aB b))
     (aB b))
     (aB b))
     (aB b (hv:=fun ν w=>bP rfl rfl rfl rfl (MO.out.1 w))))
     (aB b (hv:=fun ν w=>bP rfl rfl rfl rfl (MO.out.2.1 w))))
     (aB b))
     (aB b))
     (aB b))
     (aB b (hv:=fun ν w=>bP rfl rfl rfl rfl (MO.out.2.2.1 w))))
     (aB b (hv:=fun ν w=>bP rfl rfl rfl rfl (MO.out.2.2.2.1 w))))
     (aB b))
     (aB b))
     (aB b (hv:=fun ν w=>bP rfl rfl rfl rfl (MR.out.2.2.2.2.2.2.2.1 w))))
     (aB b (hv:=fun ν w=>lL rfl rfl (MR.out.2.2.2.2.2.2.2.2 w))))
     (aB b (hv:=fun ν w=>bP rfl rfl rfl rfl (MO.out.2.2.2.2.1 w))))
     (aB b))
     (aB b (hv:=fun ν w=>bP rfl rfl rfl rfl (MO.out.2.2.2.2.2.1 w))))
     (aB b (hv:=fun ν w=>bP rfl rfl rfl rfl (MO.out.2.2.2.2.2.2.1 w))))
     (aB b))
     (aB b (hv:=fun ν w=>bP rfl rfl rfl rfl (MO.out.2.2.2.2.2.1 w))))
     (aB b (hv:=fun ν w=>bP rfl rfl rfl rfl (MO.out.2.2.2.2.2.2.2.1 w))))
     (aB b))
     (aT b m2))
     (bT b 4 m2)) ?_
  intro b8 ν W9 hR;have R9:=hdd hR;clear hR R8;simp only[putL,bhO,bhR,fs0,fs1,fsn,dSw,dSt,dWc,dWa,dv,di,dp,ds',bhP,bhQ,nuTn,nuT0,nuT1,nuU0,nuU1]
  go_upto_region 21 with fail
  refine Spec.go [.w (.c (.v (.float .f64 wa))),.w (.c (.v (.float .f64 ws))),.w (.c (.v (.float .f64 n0))),.w (.c (.v (.float .f64 wu))),.w (.c (.v (.float .f64 n1))),.w (.c (.v (.float .f64 ia))),.w (.c (.v (.float .f64 wb))),.w (.c (.v (.float .f64 ws))),.w (.c (.v (.float .f64 n0))),.w (.c (.v (.float .f64 wv))),.w (.c (.v (.float .f64 n2))),.w (.c (.v (.float .f64 ib))),.w (.c (.v (.int .i64 r0))),.w (.c (.v (.int .i64 r0))),.w (.c (.v (.int .i64 (r0*r0)))),.w (.c (.v (.float .f64 wr))),.w (.c (.v (.float .f64 wk))),.w (.c (.v (.float .f64 ws))),.w (.c (.v (.float .f64 q1))),.w (.c (.v (.float .f64 ws))),.w (.c (.v (.float .f64 ic))),.w (.agg ([.v (Value.int IntKind.i64 2),.v (.float .f64 ia),.v (.float .f64 ib),.v (.float .f64 ic)])),.w (.c (.ptr 5 0)),noS] [22]
   [(1,(cutX (.leaf wu) (.leaf wv) (.leaf wl) wa wb)),(2,(cutY (.leaf wu) (.leaf wv) (.leaf wl) wa wb))] [⟨0,29,[.v (Value.int IntKind.i64 2),.v (.float .f64 wa),.v (.float .f64 wb),.v (.float .f64 wc)],none⟩,⟨3,33,bY g 1 2,none⟩,⟨4,29,[.v (Value.int IntKind.i64 2),.v (.float .f64 oa),.v (.float .f64 ob),.v (.float .f64 oc)],none⟩,⟨5,29,curC 0 0 0 0,some (23,[.v (Value.int IntKind.i64 2),.v (.float .f64 ia),.v (.float .f64 ib),.v (.float .f64 ic)])⟩]
   [0,0,0,0,0,0,0,0,0,0,0,0,0,0,0,0,0,0,0,0,0,0,0,0] [[],[],[1],[],[1,2,3],rgn 5,[],[],[7],[],[7,8,9],[6,7,8,9,10],[],[],[12,13],[12,13,14],[12,13,14,15],[],[12,13,14,15,16,17],[],[12,13,14,15,16,17,18,19],rgn 21,[],rgn 23] [(10,.w (.c (.v (.float .f64 wa)))),(21,.w (.c (.v (.float .f64 ws)))),(13,.w (.c (.v (.float .f64 wu)))),(11,.w (.c (.v (.float .f64 wb)))),(14,.w (.c (.v (.float .f64 wv)))),(2,.w (.c (.v (.int .i64 r0))))]
   [152,153,154,155,156,157,158,159,160,161,162,163,164,165,166,167,168,169,170,171,172,173,24,0] [b1,n3,n4,b5,b8] 24 37 [] [] R9.out
   (fun b hM=>aA (aA (aA (aA (aA (aA (aA (aA (aA (aA (aA (aA (aA (aA (aA (aA (aA (aA (aA (aA (aA (aA (aA (aA aK
     (aB b))
     (aB b))
     (aB b (hv:=fun ν w=>bP rfl rfl rfl rfl (MO.out.2.2.2.2.2.2.2.2.1 w))))
     (aB b))
     (aB b (hv:=fun ν w=>bP rfl rfl rfl rfl (MO.out.2.2.2.2.2.2.2.2.2.1 w))))
     (aB b (hv:=fun ν w=>bP rfl rfl rfl rfl (MO.out.2.2.2.2.2.2.2.2.2.2.1 w))))
     (aB b))
     (aB b))
     (aB b (hv:=fun ν w=>bP rfl rfl rfl rfl (MO.out.2.2.2.2.2.2.2.2.1 w))))
     (aB b))
     (aB b (hv:=fun ν w=>bP rfl rfl rfl rfl (MO.out.2.2.2.2.2.2.2.2.2.2.2.1 w))))
     (aB b (hv:=fun ν w=>bP rfl rfl rfl rfl (MO.out.2.2.2.2.2.2.2.2.2.2.2.2.1 w))))
     (aB b))
     (aB b))
     (aB b (hv:=fun ν w=>bP rfl rfl rfl rfl (MR.out.2.2.2.2.2.2.2.1 w))))
     (aB b (hv:=fun ν w=>lL rfl rfl (MR.out.2.2.2.2.2.2.2.2 w))))
     (aB b (hv:=fun ν w=>bP rfl rfl rfl rfl (MO.out.2.2.2.2.1 w))))
     (aB b))
     (aB b (hv:=fun ν w=>bP rfl rfl rfl rfl (MO.out.2.2.2.2.2.2.2.2.2.2.2.2.2.1 w))))
     (aB b))
     (aB b (hv:=fun ν w=>bP rfl rfl rfl rfl (MO.out.2.2.2.2.2.2.2.2.2.2.2.2.2.2 w))))
     (aB b))
     (aT b m3))
     (bT b 4 m3)) ?_
  intro b9 ν W10 hR;have R10:=hdd hR;clear hR R9;simp only[putL,bhO,bhR,fs0,fs1,fsn,dSw,dSt,dWc,dWa,dv,di,dp,ds',bhP,bhQ,nuTn,nuT0,nuT1,nuU0,nuU1]
  go_upto_region 22 with fail
  refine Spec.go [.w (.c (.v (.pointer (some ⟨g,0,none⟩)))),.w (.agg ([.v (Value.int IntKind.i64 2),.v (.float .f64 wa),.v (.float .f64 wb),.v (.float .f64 wc)])),.w (.agg ([.v (Value.int IntKind.i64 2),.v (.float .f64 oa),.v (.float .f64 ob),.v (.float .f64 oc)])),.tup [.c (.sl 8 1),.c (.v (.bool false)),.c (.v .nilIface)],.tup [.c (.sl 8 1),.c (.v (.bool false)),.c (.v .nilIface)],.w (.c (.sl 8 1)),.w (.c (.v (.bool false))),.w (.c (.v .nilIface)),.w (.c (.sl 8 1)),.w (.c (.v (.bool false))),.w (.c (.v .nilIface))] [3,3,3]
   [(1,(cutX (.leaf wu) (.leaf wv) (.leaf wl) wa wb)),(2,(cutY (.leaf wu) (.leaf wv) (.leaf wl) wa wb)),(6,(cutX (axU wa oa) (axU wb ob) (axW wa wb wc oa ob oc) wa wb)),(7,(cutY (axU wa oa) (axU wb ob) (axW wa wb wc oa ob oc) wa wb))] [⟨0,29,[.v (Value.int IntKind.i64 2),.v (.float .f64 wa),.v (.float .f64 wb),.v (.float .f64 wc)],none⟩,⟨3,33,bY g 1 2,none⟩,⟨4,29,[.v (Value.int IntKind.i64 2),.v (.float .f64 oa),.v (.float .f64 ob),.v (.float .f64 oc)],none⟩,⟨5,29,[.v (Value.int IntKind.i64 2),.v (.float .f64 ia),.v (.float .f64 ib),.v (.float .f64 ic)],none⟩,⟨8,33,bY g 6 7,none⟩]
   [0,0,0,54,0,0,0,0,0,0,0] [[],[],[],[0,1,2],rgn 4,rgn 5,rgn 5,rgn 5,rgn 6,[0,1,2,3,4,6],[0,1,2,3,4,7]] [(9,.w (.c (.v (.pointer (some ⟨g,0,none⟩))))),(12,.w (.c (.ptr 0 0))),(22,.w (.c (.ptr 4 0)))]
   [175,176,177,178,174,179,180,181,25,26,27] [b1,n3,n4,b5,b8,b9] 11 91 [] [] R10.out
   (fun b hM=>aA (aA (aA (aA (aA (aA (aA (aA (aA (aA (aA aK
     (aB b))
     (aF b 4 m0))
     (aF b 4 m2))
     (iY b m4 (c_fb (ix:=[]) (ts:=[6,7]) hM (fun ν=>adB (p:=(wa,wb,wc,oa,ob,oc)) HO.out.1 HO.out.2.2.1 HX.out.2.2.1 HX.out.2.2.2.1 HX.out.2.2.2.2.1 TT.out.2.2.1))))
     (aB b))
     (aB b))
     (aB b))
     (aB b))
     (aB b))
     (aB b))
     (aB b)) ?_
  intro n10 n11 b12 ν W11 hR;have R11:=hdd hR;clear hR R10;simp only[putL,bhO,bhR,fs0,fs1,fsn,dSw,dSt,dWc,dWa,dv,di,dp,ds',bhP,bhQ,nuTn,nuT0,nuT1,nuU0,nuU1]
  go_upto_region 23 with fail
  refine Spec.go [.w (.c (.v (.pointer (some ⟨g,0,none⟩)))),.w (.agg ([.v (Value.int IntKind.i64 2),.v (.float .f64 ia),.v (.float .f64 ib),.v (.float .f64 ic)])),.w (.agg ([.v (Value.int IntKind.i64 2),.v (.float .f64 wa),.v (.float .f64 wb),.v (.float .f64 wc)])),.tup [.c (.sl 10 1),.c (.v (.bool false)),.c (.v .nilIface)],.tup [.c (.sl 10 1),.c (.v (.bool false)),.c (.v .nilIface)],.w (.c (.sl 10 1)),.w (.c (.v (.bool false))),.w (.c (.v .nilIface)),.w (.c (.sl 10 1)),.w (.c (.v (.bool false))),.w (.c (.v .nilIface))] [3,3,3]
   [(1,(cutX (.leaf wu) (.leaf wv) (.leaf wl) wa wb)),(2,(cutY (.leaf wu) (.leaf wv) (.leaf wl) wa wb)),(5,(cutX (axU wa oa) (axU wb ob) (axW wa wb wc oa ob oc) wa wb)),(6,(cutY (axU wa oa) (axU wb ob) (axW wa wb wc oa ob oc) wa wb)),(8,(cutX (axU ia wa) (axU ib wb) (axW ia ib ic wa wb wc) ia ib)),(9,(cutY (axU ia wa) (axU ib wb) (axW ia ib ic wa wb wc) ia ib))] [⟨0,29,[.v (Value.int IntKind.i64 2),.v (.float .f64 wa),.v (.float .f64 wb),.v (.float .f64 wc)],none⟩,⟨3,33,bY g 1 2,none⟩,⟨4,29,[.v (Value.int IntKind.i64 2),.v (.float .f64 ia),.v (.float .f64 ib),.v (.float .f64 ic)],none⟩,⟨7,33,bY g 5 6,none⟩,⟨10,33,bY g 8 9,none⟩]
   [0,0,0,54,0,0,0,0,0,0,0] [[],[],[],[0,1,2],rgn 4,rgn 5,rgn 5,rgn 5,rgn 6,[0,1,2,3,4,6],[0,1,2,3,4,7]] [(9,.w (.c (.v (.pointer (some ⟨g,0,none⟩))))),(23,.w (.c (.ptr 4 0))),(12,.w (.c (.ptr 0 0)))]
   [183,184,185,186,182,187,188,189,28,29,30] [b1,n3,n4,b5,b9,n10,n11,b12] 11 145 [] [true,true,false] R11.out
   (fun b hM=>aA (aA (aA (aA (aA (aA (aA (aA (aA (aA (aA aK
     (aB b))
     (aF b 4 m2))
     (aF b 4 m0))
     (iY b m4 (c_fb (ix:=[]) (ts:=[8,9]) hM (fun ν=>adB (p:=(ia,ib,ic,wa,wb,wc)) HO.out.2.2.2 HO.out.1 HX.out.2.2.2.2.2.1 HX.out.2.2.2.2.2.2.1 HX.out.2.2.2.2.2.2.2 TT.out.2.2.2.1))))
     (aB b))
     (aB b))
     (aB b))
     (aB b))
     (aB b))
     (aB b))
     (aB b)) ?_
  intro n13 n14 b15 ν W12 hR;have R12:=hdd hR;clear hR R11;simp only[putL,bhO,bhR,fs0,fs1,fsn,dSw,dSt,dWc,dWa,dv,di,dp,ds',bhP,bhQ,nuTn,nuT0,nuT1,nuU0,nuU1]
  go_upto_region 26 with fail
  refine Spec.go [.w (.c (.sl 5 1)),.w (.c (.ptr 5 0)),fT g 3 4,.w (.c (.sl 2 1)),.w (.c (.ptr 2 0)),fT g 0 1,.tup [.c (.v (.bool true)),.c (.v .nilIface)],.tup [.c (.v (.bool true)),.c (.v .nilIface)],.w (.c (.v (.bool true))),.w (.c (.v .nilIface)),.w (.c (.v (.bool true))),.w (.c (.v .nilIface))] []
   [(0,(cutX (.leaf wu) (.leaf wv) (.leaf wl) wa wb)),(1,(cutY (.leaf wu) (.leaf wv) (.leaf wl) wa wb)),(3,(cutX (axU wa oa) (axU wb ob) (axW wa wb wc oa ob oc) wa wb)),(4,(cutY (axU wa oa) (axU wb ob) (axW wa wb wc oa ob oc) wa wb)),(6,(cutX (axU ia wa) (axU ib wb) (axW ia ib ic wa wb wc) ia ib)),(7,(cutY (axU ia wa) (axU ib wb) (axW ia ib ic wa wb wc) ia ib))] [⟨2,33,bY g 0 1,none⟩,⟨5,33,bY g 3 4,none⟩,⟨8,33,bY g 6 7,none⟩]
   [0,0,0,0,0,0,2,0,0,0,0,0] [[],[0],[0,1],[],[3],[3,4],rgn 6,rgn 7,rgn 8,rgn 8,rgn 9,[0,1,2,3,4,5,6,7,9]] [(24,.w (.c (.sl 5 1))),(16,.w (.c (.sl 2 1)))]
   [213,214,215,216,217,218,219,212,220,221,31,32] [n3,n4,b5,n10,n11,b12,n13,n14,b15] 12 147 [] [false,true,false] R12.out
   (fun b hM=>aA (aA (aA (aA (aA (aA (aA (aA (aA (aA (aA (aA aK
     (aB b))
     (aB b))
     (aF b 4 m1))
     (aB b))
     (aB b))
     (aF b 4 m0))
     (aJ b (xZ hM m2 m3 rfl rfl m0 m1 rfl rfl rfl rfl rfl TT.out.2.2.2.2.1)))
     (aB b))
     (aB b))
     (aB b))
     (aB b))
     (aB b)) ?_
  intro ν W13 hR;have R13:=hdd hR;clear hR R12;simp only[putL,bhO,bhR,fs0,fs1,fsn,dSw,dSt,dWc,dWa,dv,di,dp,ds',bhP,bhQ,nuTn,nuT0,nuT1,nuU0,nuU1]
  go_upto_region 27 with fail
  refine Spec.go [.w (.c (.sl 5 1)),.w (.c (.ptr 5 0)),fT g 3 4,.w (.c (.sl 2 1)),.w (.c (.ptr 2 0)),fT g 0 1,.tup [.c (.v (.bool true)),.c (.v .nilIface)],.tup [.c (.v (.bool true)),.c (.v .nilIface)],.w (.c (.v (.bool true))),.w (.c (.v .nilIface)),.w (.c (.v (.bool true))),.w (.c (.v .nilIface))] []
   [(0,(cutX (.leaf wu) (.leaf wv) (.leaf wl) wa wb)),(1,(cutY (.leaf wu) (.leaf wv) (.leaf wl) wa wb)),(3,(cutX (axU ia wa) (axU ib wb) (axW ia ib ic wa wb wc) ia ib)),(4,(cutY (axU ia wa) (axU ib wb) (axW ia ib ic wa wb wc) ia ib))] [⟨2,33,bY g 0 1,none⟩,⟨5,33,bY g 3 4,none⟩]
   [0,0,0,0,0,0,2,0,0,0,0,0] [[],[0],[0,1],[],[3],[3,4],rgn 6,rgn 7,rgn 8,rgn 8,rgn 9,[0,1,2,3,4,5,6,7,9]] [(27,.w (.c (.sl 5 1))),(16,.w (.c (.sl 2 1)))]
   [223,224,225,226,227,228,229,222,230,231,33,34] [n3,n4,b5,n13,n14,b15] 12 149 [true,true,false,false] [true,false] R13.out
   (fun b hM=>aA (aA (aA (aA (aA (aA (aA (aA (aA (aA (aA (aA aK
     (aB b))
     (aB b))
     (aF b 4 m1))
     (aB b))
     (aB b))
     (aF b 4 m0))
     (aJ b (xZ hM m2 m3 rfl rfl m0 m1 rfl rfl rfl rfl rfl TT.out.2.2.2.2.2)))
     (aB b))
     (aB b))
     (aB b))
     (aB b))
     (aB b)) ?_
  intro ν W14 hR;replace hR:Run (bs w) g 149 [((cutX (.leaf wu) (.leaf wv) (.leaf wl) wa wb),n3),((cutY (.leaf wu) (.leaf wv) (.leaf wl) wa wb),n4),((cutX (axU ia wa) (axU ib wb) (axW ia ib ic wa wb wc) ia ib),n13),((cutY (axU ia wa) (axU ib wb) (axW ia ib ic wa wb wc) ia ib),n14)] [(b5,kD g n3 n4),(b15,kD g n13 n14)] W14:=hR;have R14:=hdd hR;clear hR R13;simp only[putL,bhO,bhR,fs0,fs1,fsn,dSw,dSt,dWc,dWa,dv,di,dp,ds',bhP,bhQ,nuTn,nuT0,nuT1,nuU0,nuU1];have HB:=hdd R14.out.below;clear R14 MX MR ML MS MO HO HX FF TT;go_wp2;go_ret;exact⟨rfl,HB.out⟩)
end Go.Proofs.YtjaafolhfihegaaGreatDoor
