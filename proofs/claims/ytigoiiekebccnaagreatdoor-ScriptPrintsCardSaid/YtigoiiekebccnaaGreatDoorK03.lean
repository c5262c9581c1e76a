/- A part of the proof: contracts of functions and plain laws (NatJ, NatL). -/
import Derived.Test.YtigoiiekebccnaaGreatDoorK02
set_option linter.unusedVariables false
set_option linter.unusedSimpArgs false
set_option linter.unnecessarySimpa false
set_option maxHeartbeats 25600000
set_option maxRecDepth 100000
namespace Go.Proofs.YtigoiiekebccnaaGreatDoor
open Go.RowKit
open Int renaming natCast_add->ar1,natCast_one->ar2
open Nat renaming add_sub_cancel->ar3,mul_le_mul_right->ar4,add_mul->ar5,le_of_not_lt->ar6,mul_le_mul->ar7,le_of_lt->ar8
theorem bC(xs:List Nat)(ht:Tr xs)(L:Nat)(h:val xs<B64^L):xs.length<=L:=by
 rcases Nat.lt_or_ge L xs.length with h1|h1
 . exfalso
   have hn:xs≠[]:=by rintro rfl;simp at h1
   have h2:=jX xs ht hn;have h3:B64^L<=B64^(xs.length-1):=Nat.pow_le_pow_right bF (by omega);omega
 . exact h1
theorem dK(xs ys:List Nat)(hx:Tr xs)(hy:OkL ys)(h:val xs<=val ys):xs.length<=ys.length:=
 bC xs hx _ (Nat.lt_of_le_of_lt h (bH ys hy))
def aaU(B:Nat)(w0:World)(n:Nat)(b:Bool)(e:Ending)(w':World):Prop:=
 Below B w0 w'/\∃v ys,e=.returned (.tuple #[v,.bool b])/\NatP (fun b=>B<=b) w' v ys/\Tr ys/\val ys=n
def fD(a b:Nat):Nat:=if a<b then b-a else a-b
theorem below_drewN(w:World)(n:Nat):Below w.heap.size w (w.drewN n):=⟨rfl,rfl,rfl,Nat.le_refl _,fun _ _=>rfl⟩
theorem aeH{p q:Nat->Prop}{va vb:Value}{xs ys:List Nat}{w:World}(hx:NatP p w va xs)(hy:NatP q w vb ys):
 Calls Tryz.prog 382 #[va,vb] w (aaU w.heap.size w (fD (val xs) (val ys)) (decide (val xs<val ys))):=by
 go_enter Tryz.func382,Tryz.ntmps382
 go_wp2_with fail
 refine(aI hx).mono ?_;rintro e w1⟨rfl,v1,xs1,rfl,hv1,ht1,hval1,-⟩;go_wp2_with fail
 refine(aI hy).mono ?_;rintro e w1⟨rfl,v2,ys1,rfl,hv2,ht2,hval2,-⟩;have HV1:=hdd hval1;have HV2:=hdd hval2;have HT1:=hdd ht1;have HT2:=hdd ht2;have H1:=hdd hv1;have H2:=hdd hv2;have hlt0:=hdd (show(val xs<val ys)↔(val xs1<val ys1) by rw[hval1,hval2]);clear hval1 hval2 hx hy ht1 ht2 hv1 hv2;go_wp2_with fail
 refine(mY H1.out H2.out).mono ?_;rintro e w1⟨rfl,k,rfl⟩;by_cases h:val xs1<val ys1
 . have hc:cmpN (val xs1) (val ys1)=-1:=by unfold cmpN;rw[if_pos h]
   rw[hc];have h':=hdd h;clear h hc;go_wp2_with fail
   refine(oQ (w:=w.drewN k) (H2.out.below (below_drewN w k)) (H1.out.below (below_drewN w k)) (dK _ _ HT1.out H2.out.ok (ar8 h'.out)) (ar8 h'.out)).mono ?_;rintro e w2⟨hb,v,zs,rfl,hz,htz,hvz⟩;have hfin:aaU w.heap.size w (fD (val xs) (val ys)) (decide (val xs<val ys)) (.returned (.tuple #[v,.bool true])) w2:=by
    refine⟨(below_drewN w k).trans hb,v,zs,?_,hz,htz,?_⟩
    . rw[decide_eq_true (hlt0.out.2 h'.out)]
    . rw[hvz];unfold fD;rw[if_pos (hlt0.out.2 h'.out),HV1.out,HV2.out]
   have HF:=hdd hfin;clear hb hz htz hvz hfin;go_wp2
   go_ret2
   exact HF.out
 . have hc:¬cmpN (val xs1) (val ys1)<0:=by unfold cmpN;rw[if_neg h];split<;>omega
   obtain⟨u,hu⟩:∃u,u=cmpN (val xs1) (val ys1):=⟨_,rfl⟩;rw[<-hu]at hc|-;clear hu;have h':=hdd h;clear h;go_wp2_with fail
   refine(oQ (w:=w.drewN k) (H1.out.below (below_drewN w k)) (H2.out.below (below_drewN w k)) (dK _ _ HT2.out H1.out.ok (ar6 h'.out)) (ar6 h'.out)).mono ?_;rintro e w2⟨hb,v,zs,rfl,hz,htz,hvz⟩;have hfin:aaU w.heap.size w (fD (val xs) (val ys)) (decide (val xs<val ys)) (.returned (.tuple #[v,.bool false])) w2:=by
    refine⟨(below_drewN w k).trans hb,v,zs,?_,hz,htz,?_⟩
    . rw[decide_eq_false (fun h=>h'.out (hlt0.out.1 h))]
    . rw[hvz];unfold fD;rw[if_neg (fun h=>h'.out (hlt0.out.1 h)),HV1.out,HV2.out]
   have HF:=hdd hfin;clear hb hz htz hvz hfin;go_wp2
   go_ret2
   exact HF.out
theorem fK{a b q r:Int}(h:(q,r)=(a,b)):Ending.returned (.tuple #[.int .u64 a,.int .u64 b])=.returned (.tuple #[.int .u64 q,.int .u64 r]):=by
 injection h with h1 h2;rw[h1,h2]
theorem fM(a b:Nat)(h:a*b<18446744073709551616):IntKind.u64.wrap ((a:Int)*b)=(a*b:Nat):=by
 rw[IntKind.wrap_u64,<-Int.natCast_mul];omega
theorem nA(a b:Nat)(h:(a+1)*b<18446744073709551616):IntKind.u64.wrap (((a:Int)+1)*b)=((a+1)*b:Nat):=by
 have:=fM (a+1) b h;rwa[ar1,ar2]at this
theorem dJ(q n:Nat)(hq:q<4294967296)(hn:n<4294967296):q*n<18446744073709551616:=by
 have:q*n<=4294967295*4294967295:=ar7 (by omega) (by omega);omega
theorem lK(QT Q R N1 N0 U L Y:Nat)(hY:Y=N1*4294967296+N0/\0<N1)(hT:QT=(U*4294967296+L)/Y)(hU:U=Q*N1+R)(hge:QT<=Q)(h:Q*N0<=4294967296*R+L):Q=QT:=by
 have h1:Q*Y<=U*4294967296+L:=by rw[hY.1,hU];grind
 have h2:Q<=QT:=by rw[hT,Nat.le_div_iff_mul_le (by omega)];exact h1
 omega
theorem uK(QT U L Y:Nat)(hL:L<4294967296)(hT:QT=(U*4294967296+L)/Y)(hUY:U<Y):QT<4294967296:=by
 rw[hT,Nat.div_lt_iff_lt_mul (by omega)];have:(U+1)*4294967296<=Y*4294967296:=ar4 _ hUY;omega
theorem sV(QT Q R N1 N0 U L Y:Nat)(hY:Y=N1*4294967296+N0/\0<N1)(hT:QT=(U*4294967296+L)/Y)(hU:U=Q*N1+R)(hge:QT<=Q)(hUY:U<Y/\L<4294967296)(hN0:N0<4294967296)(h:¬(Q<4294967296/\Q*N0<=4294967296*R+L)):QT<Q:=by
 by_cases hq:Q<4294967296
 . have h1:4294967296*R+L<Q*N0:=by omega
   apply Nat.lt_of_not_le;intro hle;have h2:Q*Y<=QT*Y:=ar4 _ hle;have h3:QT*Y<=U*4294967296+L:=by rw[hT];exact Nat.div_mul_le_self _ _
   have h4:Q*Y=Q*N1*4294967296+Q*N0:=by rw[hY.1];grind
   rw[hU]at h3;generalize Q*N1=a at*;generalize Q*N0=b at*;generalize QT*Y=d at*;omega
 . have:=uK QT U L Y hUY.2 hT hUY.1
   omega
theorem nC(QT Q R N1 N0 U L Y:Nat)(hY:Y=N1*4294967296+N0/\0<N1)(hT:QT=(U*4294967296+L)/Y)(hU:U=Q*N1+R)(hge:QT<=Q)(hUY:U<Y/\L<4294967296)(hN0:N0<4294967296)(h:4294967296<=R):Q=QT:=by
 have hq:Q<4294967296:=by
  have h1:Q*N1<N1*4294967296:=by
   have:=hY.1;generalize Q*N1=a at*;omega
  rw[Nat.mul_comm N1]at h1;exact Nat.lt_of_mul_lt_mul_right h1
 refine lK QT Q R N1 N0 U L Y hY hT hU hge ?_;have h2:Q*N0<=4294967295*4294967295:=ar7 (by omega) (by omega);omega
theorem adA(hi lo y s:Nat)(w:World)(hy:y<18446744073709551616)(hlt:hi<y)(hlo:lo<18446744073709551616)(h0:0<hi)(hs:Lib.bitLen y=64-s)(hs':s<64)
 (Y N1 N0 U L L1 L0 Q1 V Q2 W g1 p1 r1 g2 p2 r2 A1 B1 A2 B2:Nat)
 (eY:IntKind.u64.wrap ((y:Int)*2^s)=(Y:Int)) (eN1:(Y:Int)/4294967296=(N1:Int)) (eN0:Go.bits BinOp.and IntKind.u64 (Y:Int) 4294967295=(N0:Int)) (pN1:2147483648<=N1) (pN1':N1<4294967296) (hN0:N0<4294967296)
 (eU:Go.bits BinOp.or IntKind.u64 (IntKind.u64.wrap ((hi:Int)*2^s)) ((lo:Int)/2^(64-s))=(U:Int)) (eL:IntKind.u64.wrap ((lo:Int)*2^s)=(L:Int)) (eL1:(L:Int)/4294967296=(L1:Int)) (eL0:Go.bits BinOp.and IntKind.u64 (L:Int) 4294967295=(L0:Int))
 (pU:U<18446744073709551616) (HY:Hid (Y=N1*4294967296+N0/\0<N1)) (HQ1:Hid (Q1=(U*4294967296+L1)/Y)) (hUY:Hid (U<Y/\L1<4294967296)) (HQ2:Hid (Q2=(V*4294967296+L0)/Y)) (hVY:Hid (V<Y/\L0<4294967296))
 (eg1:(U:Int)/N1=(g1:Int)) (ep1:IntKind.u64.wrap ((g1:Int)*N1)=(p1:Int)) (er1:U=p1+r1) (hr1:r1<4294967296) (hg1':g1<17179869184) (hg1:Hid (U=g1*N1+r1)) (ht1:Hid (Q1<=g1))
 (eA1:IntKind.u64.wrap ((U:Int)*4294967296)=(A1:Int)) (hA1:A1+L1<18446744073709551616) (eB1:IntKind.u64.wrap ((Q1:Int)*Y)=(B1:Int)) (eV:IntKind.u64.wrap ((A1:Int)+L1-B1)=(V:Int)) (pV:V<18446744073709551616)
 (eg2:(V:Int)/N1=(g2:Int)) (ep2:IntKind.u64.wrap ((g2:Int)*N1)=(p2:Int)) (er2:V=p2+r2) (hr2:r2<4294967296) (hg2':g2<17179869184) (hg2:Hid (V=g2*N1+r2)) (ht2:Hid (Q2<=g2))
 (eA2:IntKind.u64.wrap ((V:Int)*4294967296)=(A2:Int)) (hA2:A2+L0<18446744073709551616) (eB2:IntKind.u64.wrap ((Q2:Int)*Y)=(B2:Int)) (eW:IntKind.u64.wrap ((A2:Int)+L0-B2)=(W:Int))
 (pQ1:Q1<4294967296) (pQ2:Q2<4294967296) (pL1:L1<4294967296) (pL0:L0<4294967296) (q r:Int) (hfin:Hid ((q,r)=((Q1:Int)*4294967296+Q2,(W:Int)/2^s))):
 Calls Tryz.prog 273 #[.int .u64 hi,.int .u64 lo,.int .u64 y] w fun e w'=>e=.returned (.tuple #[.int .u64 q,.int .u64 r])/\w'=w:=by
 have b0:((y:Int)==0)=false:=beq_eq_false_iff_ne.2 (by omega);have b1:((hi:Int)==0)=false:=beq_eq_false_iff_ne.2 (by omega);have es:(64:Int)-(Lib.bitLen y:Int)=s:=by omega
 have ES:=hdd es;clear es hs;have hr1e:(U:Int)-(p1:Int)=(r1:Int):=by omega
 have hr2e:(V:Int)-(p2:Int)=(r2:Int):=by omega
 clear er1 er2;go_enter Tryz.func273,Tryz.ntmps273
 go_wp2_with (go_at_call 314;refine(Tryz.bits_LeadingZeros64 (y:Int) _ (by omega) (by omega)).mono ?_;rintro e w'⟨rfl,rfl⟩;rw[Int.toNat_natCast,ES.out])
 go_loop [15,16] (fun q r=>∃Q R:Nat,q=.int .u64 Q/\r=.int .u64 R/\R<4294967296/\Q<17179869184/\Hid (U=Q*N1+R)/\Hid (Q1<=Q)) (fun q _=>(intOf q).toNat)
 case atStart=>exact⟨g1,r1,rfl,by go_num,by omega,by omega,hg1,ht1⟩
 case round=>
  obtain⟨Q,R,rfl,rfl,hR,hQ,hU,hT⟩:=hrel;by_cases hex:Q<4294967296/\Q*N0<=4294967296*R+L1
  . obtain⟨hq1,hq2⟩:=hex
    obtain rfl:Q1=Q:=(lK Q1 Q R N1 N0 U L1 Y HY.out HQ1.out hU.out hT.out hq2).symm;have eM:IntKind.u64.wrap ((Q1:Int)*N0)=(Q1*N0:Nat):=fM _ _ (dJ _ _ hq1 hN0);obtain⟨M,hM⟩:∃M,M=Q1*N0:=⟨_,rfl⟩;rw[<-hM]at eM hq2;have hq3:(M:Int)<=4294967296*(R:Int)+L1:=by omega
    have hd2:decide ((4294967296:Int)*(R:Int)+L1<(M:Int))=false:=decide_eq_false (by omega);have hq4:(Q1:Int)<4294967296:=by omega
    have hd1:decide ((4294967296:Int)<=(Q1:Int))=false:=decide_eq_false (by omega);clear hq1;clear hM hT hq2;go_wp2_with fail
    go_loop [18,16] (fun q r=>∃Q R:Nat,q=.int .u64 Q/\r=.int .u64 R/\R<4294967296/\Q<17179869184/\Hid (V=Q*N1+R)/\Hid (Q2<=Q)) (fun q _=>(intOf q).toNat)
    case atStart=>exact⟨g2,r2,rfl,by go_num,by omega,by omega,hg2,ht2⟩
    case round=>
     obtain⟨Q,R,rfl,rfl,hR,hQ,hU,hT⟩:=hrel;by_cases hex:Q<4294967296/\Q*N0<=4294967296*R+L0
     . obtain⟨hq1,hq2⟩:=hex
       obtain rfl:Q2=Q:=(lK Q2 Q R N1 N0 V L0 Y HY.out HQ2.out hU.out hT.out hq2).symm;have eM:IntKind.u64.wrap ((Q2:Int)*N0)=(Q2*N0:Nat):=fM _ _ (dJ _ _ hq1 hN0);obtain⟨M,hM⟩:∃M,M=Q2*N0:=⟨_,rfl⟩;rw[<-hM]at eM hq2;have hq3:(M:Int)<=4294967296*(R:Int)+L0:=by omega
       have hd2:decide ((4294967296:Int)*(R:Int)+L0<(M:Int))=false:=decide_eq_false (by omega);have hq4:(Q2:Int)<4294967296:=by omega
       have hd1:decide ((4294967296:Int)<=(Q2:Int))=false:=decide_eq_false (by omega);clear hq1;clear hM hT hq2;go_wp2_with fail
       go_wp2
       go_ret2
       exact⟨fK hfin.out,rfl⟩
     . have hdec:=sV Q2 Q R N1 N0 V L0 Y HY.out HQ2.out hU.out hT.out hVY.out hN0 hex
       have hQ0:0<Q:=by omega
       have HU2:Hid (V=(Q-1)*N1+(R+N1)):=hdd (by rw[hU.out];obtain⟨k,rfl⟩:∃k,Q=k+1:=⟨Q-1,by omega⟩;rw[ar3,ar5];omega);by_cases hbr:4294967296<=R+N1
       . obtain rfl:Q=Q2+1:=by
          have:=nC Q2 (Q-1) (R+N1) N1 N0 V L0 Y HY.out HQ2.out HU2.out (by omega) hVY.out hN0 hbr;omega
         by_cases hq1:Q2+1<4294967296
         . have eM:IntKind.u64.wrap (((Q2:Int)+1)*N0)=((Q2+1)*N0:Nat):=nA _ _ (dJ _ _ hq1 hN0)
           have hq4:((Q2+1:Nat):Int)<4294967296:=by omega
           rw[ar1,ar2]at hq4;have hd1:decide ((4294967296:Int)<=(Q2:Int)+1)=false:=decide_eq_false (by omega);have hb4:(4294967296:Int)<=(R:Int)+N1:=by omega
           have hd3:decide ((4294967296:Int)<=(R:Int)+N1)=true:=decide_eq_true hb4;obtain⟨M,hM⟩:∃M,M=(Q2+1)*N0:=⟨_,rfl⟩;have hm1:4294967296*R+L0<M:=by rw[hM];omega
           have hm2:4294967296*(R:Int)+L0<(M:Int):=by omega
           clear hm1;have hd2:decide ((4294967296:Int)*(R:Int)+L0<(M:Int))=true:=decide_eq_true hm2;rw[<-hM]at eM;clear hM hT hU HU2 hex hdec;go_wp2_with fail
           go_wp2
           go_ret2
           exact⟨fK hfin.out,rfl⟩
         . have hq4:(4294967296:Int)<=((Q2+1:Nat):Int):=by omega
           rw[ar1,ar2]at hq4;have hd1:decide ((4294967296:Int)<=(Q2:Int)+1)=true:=decide_eq_true hq4;have hb4:(4294967296:Int)<=(R:Int)+N1:=by omega
           have hd3:decide ((4294967296:Int)<=(R:Int)+N1)=true:=decide_eq_true hb4;clear hT hU HU2 hex hdec;go_wp2_with fail
           go_wp2
           go_ret2
           exact⟨fK hfin.out,rfl⟩
       . have HT2:Hid (Q2<=Q-1):=hdd (by omega)
         by_cases hq1:Q<4294967296
         . have eM:IntKind.u64.wrap ((Q:Int)*N0)=(Q*N0:Nat):=fM _ _ (dJ _ _ hq1 hN0)
           have hq4:((Q:Nat):Int)<4294967296:=by omega
           have hd1:decide ((4294967296:Int)<=(Q:Int))=false:=decide_eq_false (by omega);have hb4:(R:Int)+N1<4294967296:=by omega
           have hd3:decide ((4294967296:Int)<=(R:Int)+N1)=false:=decide_eq_false (by omega);obtain⟨M,hM⟩:∃M,M=Q*N0:=⟨_,rfl⟩;have hm1:4294967296*R+L0<M:=by rw[hM];omega
           have hm2:4294967296*(R:Int)+L0<(M:Int):=by omega
           clear hm1;have hd2:decide ((4294967296:Int)*(R:Int)+L0<(M:Int))=true:=decide_eq_true hm2;rw[<-hM]at eM;clear hM hT hU hex;go_wp2
           go_round
           case rel=>exact⟨Q-1,R+N1,by go_num,by go_num,by omega,by omega,HU2,HT2⟩
           case measure=>simp[intOf];omega
         . have hq4:(4294967296:Int)<=((Q:Nat):Int):=by omega
           have hd1:decide ((4294967296:Int)<=(Q:Int))=true:=decide_eq_true hq4;have hb4:(R:Int)+N1<4294967296:=by omega
           have hd3:decide ((4294967296:Int)<=(R:Int)+N1)=false:=decide_eq_false (by omega);clear hT hU hex;go_wp2
           go_round
           case rel=>exact⟨Q-1,R+N1,by go_num,by go_num,by omega,by omega,HU2,HT2⟩
           case measure=>simp[intOf];omega
  . have hdec:=sV Q1 Q R N1 N0 U L1 Y HY.out HQ1.out hU.out hT.out hUY.out hN0 hex
    have hQ0:0<Q:=by omega
    have HU2:Hid (U=(Q-1)*N1+(R+N1)):=hdd (by rw[hU.out];obtain⟨k,rfl⟩:∃k,Q=k+1:=⟨Q-1,by omega⟩;rw[ar3,ar5];omega);by_cases hbr:4294967296<=R+N1
    . obtain rfl:Q=Q1+1:=by
       have:=nC Q1 (Q-1) (R+N1) N1 N0 U L1 Y HY.out HQ1.out HU2.out (by omega) hUY.out hN0 hbr;omega
      by_cases hq1:Q1+1<4294967296
      . have eM:IntKind.u64.wrap (((Q1:Int)+1)*N0)=((Q1+1)*N0:Nat):=nA _ _ (dJ _ _ hq1 hN0)
        have hq4:((Q1+1:Nat):Int)<4294967296:=by omega
        rw[ar1,ar2]at hq4;have hd1:decide ((4294967296:Int)<=(Q1:Int)+1)=false:=decide_eq_false (by omega);have hb4:(4294967296:Int)<=(R:Int)+N1:=by omega
        have hd3:decide ((4294967296:Int)<=(R:Int)+N1)=true:=decide_eq_true hb4;obtain⟨M,hM⟩:∃M,M=(Q1+1)*N0:=⟨_,rfl⟩;have hm1:4294967296*R+L1<M:=by rw[hM];omega
        have hm2:4294967296*(R:Int)+L1<(M:Int):=by omega
        clear hm1;have hd2:decide ((4294967296:Int)*(R:Int)+L1<(M:Int))=true:=decide_eq_true hm2;rw[<-hM]at eM;clear hM hT hU HU2 hex hdec;go_wp2_with fail
        go_loop [18,16] (fun q r=>∃Q R:Nat,q=.int .u64 Q/\r=.int .u64 R/\R<4294967296/\Q<17179869184/\Hid (V=Q*N1+R)/\Hid (Q2<=Q)) (fun q _=>(intOf q).toNat)
        case atStart=>exact⟨g2,r2,rfl,by go_num,by omega,by omega,hg2,ht2⟩
        case round=>
         obtain⟨Q,R,rfl,rfl,hR,hQ,hU,hT⟩:=hrel;by_cases hex:Q<4294967296/\Q*N0<=4294967296*R+L0
         . obtain⟨hq1,hq2⟩:=hex
           obtain rfl:Q2=Q:=(lK Q2 Q R N1 N0 V L0 Y HY.out HQ2.out hU.out hT.out hq2).symm;have eM:IntKind.u64.wrap ((Q2:Int)*N0)=(Q2*N0:Nat):=fM _ _ (dJ _ _ hq1 hN0);obtain⟨M,hM⟩:∃M,M=Q2*N0:=⟨_,rfl⟩;rw[<-hM]at eM hq2;have hq3:(M:Int)<=4294967296*(R:Int)+L0:=by omega
           have hd2:decide ((4294967296:Int)*(R:Int)+L0<(M:Int))=false:=decide_eq_false (by omega);have hq4:(Q2:Int)<4294967296:=by omega
           have hd1:decide ((4294967296:Int)<=(Q2:Int))=false:=decide_eq_false (by omega);clear hq1;clear hM hT hq2;go_wp2_with fail
           go_wp2
           go_ret2
           exact⟨fK hfin.out,rfl⟩
         . have hdec:=sV Q2 Q R N1 N0 V L0 Y HY.out HQ2.out hU.out hT.out hVY.out hN0 hex
           have hQ0:0<Q:=by omega
           have HU2:Hid (V=(Q-1)*N1+(R+N1)):=hdd (by rw[hU.out];obtain⟨k,rfl⟩:∃k,Q=k+1:=⟨Q-1,by omega⟩;rw[ar3,ar5];omega);by_cases hbr:4294967296<=R+N1
           . obtain rfl:Q=Q2+1:=by
              have:=nC Q2 (Q-1) (R+N1) N1 N0 V L0 Y HY.out HQ2.out HU2.out (by omega) hVY.out hN0 hbr;omega
             by_cases hq1:Q2+1<4294967296
             . have eM:IntKind.u64.wrap (((Q2:Int)+1)*N0)=((Q2+1)*N0:Nat):=nA _ _ (dJ _ _ hq1 hN0)
               have hq4:((Q2+1:Nat):Int)<4294967296:=by omega
               rw[ar1,ar2]at hq4;have hd1:decide ((4294967296:Int)<=(Q2:Int)+1)=false:=decide_eq_false (by omega);have hb4:(4294967296:Int)<=(R:Int)+N1:=by omega
               have hd3:decide ((4294967296:Int)<=(R:Int)+N1)=true:=decide_eq_true hb4;obtain⟨M,hM⟩:∃M,M=(Q2+1)*N0:=⟨_,rfl⟩;have hm1:4294967296*R+L0<M:=by rw[hM];omega
               have hm2:4294967296*(R:Int)+L0<(M:Int):=by omega
               clear hm1;have hd2:decide ((4294967296:Int)*(R:Int)+L0<(M:Int))=true:=decide_eq_true hm2;rw[<-hM]at eM;clear hM hT hU HU2 hex hdec;go_wp2_with fail
               go_wp2
               go_ret2
               exact⟨fK hfin.out,rfl⟩
             . have hq4:(4294967296:Int)<=((Q2+1:Nat):Int):=by omega
               rw[ar1,ar2]at hq4;have hd1:decide ((4294967296:Int)<=(Q2:Int)+1)=true:=decide_eq_true hq4;have hb4:(4294967296:Int)<=(R:Int)+N1:=by omega
               have hd3:decide ((4294967296:Int)<=(R:Int)+N1)=true:=decide_eq_true hb4;clear hT hU HU2 hex hdec;go_wp2_with fail
               go_wp2
               go_ret2
               exact⟨fK hfin.out,rfl⟩
           . have HT2:Hid (Q2<=Q-1):=hdd (by omega)
             by_cases hq1:Q<4294967296
             . have eM:IntKind.u64.wrap ((Q:Int)*N0)=(Q*N0:Nat):=fM _ _ (dJ _ _ hq1 hN0)
               have hq4:((Q:Nat):Int)<4294967296:=by omega
               have hd1:decide ((4294967296:Int)<=(Q:Int))=false:=decide_eq_false (by omega);have hb4:(R:Int)+N1<4294967296:=by omega
               have hd3:decide ((4294967296:Int)<=(R:Int)+N1)=false:=decide_eq_false (by omega);obtain⟨M,hM⟩:∃M,M=Q*N0:=⟨_,rfl⟩;have hm1:4294967296*R+L0<M:=by rw[hM];omega
               have hm2:4294967296*(R:Int)+L0<(M:Int):=by omega
               clear hm1;have hd2:decide ((4294967296:Int)*(R:Int)+L0<(M:Int))=true:=decide_eq_true hm2;rw[<-hM]at eM;clear hM hT hU hex;go_wp2
               go_round
               case rel=>exact⟨Q-1,R+N1,by go_num,by go_num,by omega,by omega,HU2,HT2⟩
               case measure=>simp[intOf];omega
             . have hq4:(4294967296:Int)<=((Q:Nat):Int):=by omega
               have hd1:decide ((4294967296:Int)<=(Q:Int))=true:=decide_eq_true hq4;have hb4:(R:Int)+N1<4294967296:=by omega
               have hd3:decide ((4294967296:Int)<=(R:Int)+N1)=false:=decide_eq_false (by omega);clear hT hU hex;go_wp2
               go_round
               case rel=>exact⟨Q-1,R+N1,by go_num,by go_num,by omega,by omega,HU2,HT2⟩
               case measure=>simp[intOf];omega
      . have hq4:(4294967296:Int)<=((Q1+1:Nat):Int):=by omega
        rw[ar1,ar2]at hq4;have hd1:decide ((4294967296:Int)<=(Q1:Int)+1)=true:=decide_eq_true hq4;have hb4:(4294967296:Int)<=(R:Int)+N1:=by omega
        have hd3:decide ((4294967296:Int)<=(R:Int)+N1)=true:=decide_eq_true hb4;clear hT hU HU2 hex hdec;go_wp2_with fail
        go_loop [18,16] (fun q r=>∃Q R:Nat,q=.int .u64 Q/\r=.int .u64 R/\R<4294967296/\Q<17179869184/\Hid (V=Q*N1+R)/\Hid (Q2<=Q)) (fun q _=>(intOf q).toNat)
        case atStart=>exact⟨g2,r2,rfl,by go_num,by omega,by omega,hg2,ht2⟩
        case round=>
         obtain⟨Q,R,rfl,rfl,hR,hQ,hU,hT⟩:=hrel;by_cases hex:Q<4294967296/\Q*N0<=4294967296*R+L0
         . obtain⟨hq1,hq2⟩:=hex
           obtain rfl:Q2=Q:=(lK Q2 Q R N1 N0 V L0 Y HY.out HQ2.out hU.out hT.out hq2).symm;have eM:IntKind.u64.wrap ((Q2:Int)*N0)=(Q2*N0:Nat):=fM _ _ (dJ _ _ hq1 hN0);obtain⟨M,hM⟩:∃M,M=Q2*N0:=⟨_,rfl⟩;rw[<-hM]at eM hq2;have hq3:(M:Int)<=4294967296*(R:Int)+L0:=by omega
           have hd2:decide ((4294967296:Int)*(R:Int)+L0<(M:Int))=false:=decide_eq_false (by omega);have hq4:(Q2:Int)<4294967296:=by omega
           have hd1:decide ((4294967296:Int)<=(Q2:Int))=false:=decide_eq_false (by omega);clear hq1;clear hM hT hq2;go_wp2_with fail
           go_wp2
           go_ret2
           exact⟨fK hfin.out,rfl⟩
         . have hdec:=sV Q2 Q R N1 N0 V L0 Y HY.out HQ2.out hU.out hT.out hVY.out hN0 hex
           have hQ0:0<Q:=by omega
           have HU2:Hid (V=(Q-1)*N1+(R+N1)):=hdd (by rw[hU.out];obtain⟨k,rfl⟩:∃k,Q=k+1:=⟨Q-1,by omega⟩;rw[ar3,ar5];omega);by_cases hbr:4294967296<=R+N1
           . obtain rfl:Q=Q2+1:=by
              have:=nC Q2 (Q-1) (R+N1) N1 N0 V L0 Y HY.out HQ2.out HU2.out (by omega) hVY.out hN0 hbr;omega
             by_cases hq1:Q2+1<4294967296
             . have eM:IntKind.u64.wrap (((Q2:Int)+1)*N0)=((Q2+1)*N0:Nat):=nA _ _ (dJ _ _ hq1 hN0)
               have hq4:((Q2+1:Nat):Int)<4294967296:=by omega
               rw[ar1,ar2]at hq4;have hd1:decide ((4294967296:Int)<=(Q2:Int)+1)=false:=decide_eq_false (by omega);have hb4:(4294967296:Int)<=(R:Int)+N1:=by omega
               have hd3:decide ((4294967296:Int)<=(R:Int)+N1)=true:=decide_eq_true hb4;obtain⟨M,hM⟩:∃M,M=(Q2+1)*N0:=⟨_,rfl⟩;have hm1:4294967296*R+L0<M:=by rw[hM];omega
               have hm2:4294967296*(R:Int)+L0<(M:Int):=by omega
               clear hm1;have hd2:decide ((4294967296:Int)*(R:Int)+L0<(M:Int))=true:=decide_eq_true hm2;rw[<-hM]at eM;clear hM hT hU HU2 hex hdec;go_wp2_with fail
               go_wp2
               go_ret2
               exact⟨fK hfin.out,rfl⟩
             . have hq4:(4294967296:Int)<=((Q2+1:Nat):Int):=by omega
               rw[ar1,ar2]at hq4;have hd1:decide ((4294967296:Int)<=(Q2:Int)+1)=true:=decide_eq_true hq4;have hb4:(4294967296:Int)<=(R:Int)+N1:=by omega
               have hd3:decide ((4294967296:Int)<=(R:Int)+N1)=true:=decide_eq_true hb4;clear hT hU HU2 hex hdec;go_wp2_with fail
               go_wp2
               go_ret2
               exact⟨fK hfin.out,rfl⟩
           . have HT2:Hid (Q2<=Q-1):=hdd (by omega)
             by_cases hq1:Q<4294967296
             . have eM:IntKind.u64.wrap ((Q:Int)*N0)=(Q*N0:Nat):=fM _ _ (dJ _ _ hq1 hN0)
               have hq4:((Q:Nat):Int)<4294967296:=by omega
               have hd1:decide ((4294967296:Int)<=(Q:Int))=false:=decide_eq_false (by omega);have hb4:(R:Int)+N1<4294967296:=by omega
               have hd3:decide ((4294967296:Int)<=(R:Int)+N1)=false:=decide_eq_false (by omega);obtain⟨M,hM⟩:∃M,M=Q*N0:=⟨_,rfl⟩;have hm1:4294967296*R+L0<M:=by rw[hM];omega
               have hm2:4294967296*(R:Int)+L0<(M:Int):=by omega
               clear hm1;have hd2:decide ((4294967296:Int)*(R:Int)+L0<(M:Int))=true:=decide_eq_true hm2;rw[<-hM]at eM;clear hM hT hU hex;go_wp2
               go_round
               case rel=>exact⟨Q-1,R+N1,by go_num,by go_num,by omega,by omega,HU2,HT2⟩
               case measure=>simp[intOf];omega
             . have hq4:(4294967296:Int)<=((Q:Nat):Int):=by omega
               have hd1:decide ((4294967296:Int)<=(Q:Int))=true:=decide_eq_true hq4;have hb4:(R:Int)+N1<4294967296:=by omega
               have hd3:decide ((4294967296:Int)<=(R:Int)+N1)=false:=decide_eq_false (by omega);clear hT hU hex;go_wp2
               go_round
               case rel=>exact⟨Q-1,R+N1,by go_num,by go_num,by omega,by omega,HU2,HT2⟩
               case measure=>simp[intOf];omega
    . have HT2:Hid (Q1<=Q-1):=hdd (by omega)
      by_cases hq1:Q<4294967296
      . have eM:IntKind.u64.wrap ((Q:Int)*N0)=(Q*N0:Nat):=fM _ _ (dJ _ _ hq1 hN0)
        have hq4:((Q:Nat):Int)<4294967296:=by omega
        have hd1:decide ((4294967296:Int)<=(Q:Int))=false:=decide_eq_false (by omega);have hb4:(R:Int)+N1<4294967296:=by omega
        have hd3:decide ((4294967296:Int)<=(R:Int)+N1)=false:=decide_eq_false (by omega);obtain⟨M,hM⟩:∃M,M=Q*N0:=⟨_,rfl⟩;have hm1:4294967296*R+L1<M:=by rw[hM];omega
        have hm2:4294967296*(R:Int)+L1<(M:Int):=by omega
        clear hm1;have hd2:decide ((4294967296:Int)*(R:Int)+L1<(M:Int))=true:=decide_eq_true hm2;rw[<-hM]at eM;clear hM hT hU hex;go_wp2
        go_round
        case rel=>exact⟨Q-1,R+N1,by go_num,by go_num,by omega,by omega,HU2,HT2⟩
        case measure=>simp[intOf];omega
      . have hq4:(4294967296:Int)<=((Q:Nat):Int):=by omega
        have hd1:decide ((4294967296:Int)<=(Q:Int))=true:=decide_eq_true hq4;have hb4:(R:Int)+N1<4294967296:=by omega
        have hd3:decide ((4294967296:Int)<=(R:Int)+N1)=false:=decide_eq_false (by omega);clear hT hU hex;go_wp2
        go_round
        case rel=>exact⟨Q-1,R+N1,by go_num,by go_num,by omega,by omega,HU2,HT2⟩
        case measure=>simp[intOf];omega
end Go.Proofs.YtigoiiekebccnaaGreatDoor
