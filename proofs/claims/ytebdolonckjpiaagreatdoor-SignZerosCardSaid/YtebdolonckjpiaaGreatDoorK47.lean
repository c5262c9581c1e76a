/- A part of the proof: contracts of functions and plain laws (SrZ, ShC, ShD, ShE, FlH, FlI). -/
import Derived.Test.YtebdolonckjpiaaGreatDoorK45
import Derived.Test.YtebdolonckjpiaaGreatDoorK32
import Derived.Test.YtebdolonckjpiaaGreatDoorK46
import Derived.Test.YtebdolonckjpiaaGreatDoorK34
import Derived.Test.YtebdolonckjpiaaGreatDoorK19
import Derived.Test.YtebdolonckjpiaaGreatDoorK18
import Derived.Deep.DeepCutAuto
set_option linter.unusedVariables false
set_option linter.unusedSimpArgs false
set_option maxHeartbeats 25600000
set_option maxRecDepth 100000
namespace Go.Proofs.YtebdolonckjpiaaGreatDoor
open Go.RowKit Go.Maps
open Re (rat)
open Nat renaming le_refl->apW,pow_le_pow_right->apX,lt_or_ge->apY
variable{p:Int}{j k:Nat}
def Sq(j:Nat)(p:Int)(k:Nat):Prop:=1<=p/\p<=32*2^j/\((2^k:Nat):Int)<=p/\(p=((32*2^k:Nat):Int)\/j=11)
theorem aoI(j:Nat):(32*2^j:Int)=((32*2^j:Nat):Int):=by simp
theorem Sq.few (h:Sq j p k)(hj:j<=11):k<=16:=by
 have h1:=(aa9 (apW j) hj).2.2;have h2:2^k<=2^16:=by have:=h.2.1;have:=h.2.2.1;have:(2:Nat)^16=65536:=(by decide);omega
 exact(Nat.pow_le_pow_iff_right (by decide)).1 h2
theorem Sq.any (h:1<=p/\p<=65536):Sq 11 p 0:=by
 have e:(32*2^11:Int)=65536:=by decide
 exact⟨h.1,by omega,by simpa using h.1,Or.inr rfl⟩
theorem Sq.next (h:Sq j p k)(hn:p≠32*2^j)(hj:j<=11):p<65536/\Sq j (min (2*p) 65536) (k+1):=by
 have h3:=(aa9 (apW j) hj).2.2;have hk:=h.few hj;obtain⟨h0,h1,h2,h4⟩:=h;have hlt:p<65536:=by omega
 refine⟨hlt,?_⟩;have e2:(2:Nat)^(k+1)=2*2^k:=by rw[Nat.pow_succ,Nat.mul_comm]
 have hk2:k+1<=16:=by
  rcases apY k 16 with h|h
  . exact h
  . obtain rfl:k=16:=by omega
    have:(2:Nat)^16=65536:=by decide
    omega
 have h5:2^(k+1)<=2^16:=apX (by decide) hk2;have e16:(2:Nat)^16=65536:=by decide
 rcases h4 with h4|rfl
 . rw[aoI]at hn h1 h3
   have hkj:k<j:=by
    rcases apY k j with h|h
    . exact h
    . have:2^j<=2^k:=apX (by decide) h
      omega
   have h6:2^(k+1)<=2^j:=apX (by decide) hkj;have hm:min (2*p) 65536=2*p:=by omega
   rw[hm];exact⟨by omega,by rw[aoI];omega,by omega,Or.inl (by omega)⟩
 . have e11:(32*2^11:Int)=65536:=by decide
   exact⟨by omega,by omega,by omega,Or.inr rfl⟩
theorem aoA{w:World}{g root:Nat}{sep:Int}{ns:List Nd}{e:Ex}{v:Re}(hd:DagP w g ns)(ok:OkNs ns)(hlf:iH ns)(hro:iI ns)(hI:Is ns e root)(hF:Fnd e v sep j)(hT:Tab w)(hsp:0<=sep/\sep<=1099511627776){st:Int}(hst:Sq j st 0):
 Calls Tryz.prog 78 #[.pointer (some ⟨g,0,none⟩),.int .i64 (root:Int),.int .i64 st,.int .i64 sep,.bool true] w (alQ w (Re.sgn v)):=by
 obtain⟨w1,hw1,hb1,hs1,b1⟩:=pro1 w (.cells #[.int .i64 0,.int .i64 0,.int .i64 0] 53);obtain⟨w2,hw2,hb2,hs2,b2⟩:=pro1 w1 (.cells #[.int .i64 0,.int .i64 0,.int .i64 0] 53);obtain⟨a0,a1,a2,a3,a4,a5⟩:=cells3 b2;have g1:=set3 b2 (.int .i64 0) (.int .i64 0) (.int .i64 sep);have h12:=(bJ (w:=w2) (g:=w1.heap.size) (i:=w.heap.size) (by omega) (.int .i64 0) (.int .i64 0) (.int .i64 sep)).trans (hbl b1 hb2);have hbb:=(((aB hb1 hb2).setCell (p:=⟨w1.heap.size,0,none⟩) (by simp;omega) (.int .i64 0)).setCell (p:=⟨w1.heap.size,1,none⟩) (by simp;omega) (.int .i64 0)).setCell (p:=⟨w1.heap.size,2,none⟩) (by simp;omega) (.int .i64 sep);have HREC:Rec w (((w2.setCell ⟨w1.heap.size,0,none⟩ (.int .i64 0)).setCell ⟨w1.heap.size,1,none⟩ (.int .i64 0)).setCell ⟨w1.heap.size,2,none⟩ (.int .i64 sep)) w.heap.size w1.heap.size sep 0:=⟨hbb,apW _,by omega,by omega,h12,0,g1⟩;generalize hw3:((w2.setCell ⟨w1.heap.size,0,none⟩ (.int .i64 0)).setCell ⟨w1.heap.size,1,none⟩ (.int .i64 0)).setCell ⟨w1.heap.size,2,none⟩ (.int .i64 sep)=w3 at HREC
 have HR3:=hdd HREC;have HD:=hdd hd;have HOK:=hdd ok;have HLF:=hdd hlf;have HRO:=hdd hro;have HI:=hdd hI;have HF:=hdd hF;have HT:=hdd hT;have HSP:=hdd hsp;have HST:=hdd hst;clear HREC hbb h12 g1 b1 b2 hb1 hb2 hs1 hs2 hd ok hlf hro hI hF hT hsp hst;go_enter Tryz.func78,Tryz.ntmps78
 go_wp2_with fail
 clear a0 a1 a2 a3 a4 a5 hw1 hw2 hw3
 go_loopw [14] (fun i wr=>∃(p:Int) (k:Nat),i=.int .i64 p/\Hid (Sq j p k)/\Hid (Rec w wr w.heap.size w1.heap.size sep (k:Int))) (fun i _=>(65536-intOf i).toNat)
 case atStart=>exact⟨st,0,rfl,HST,HR3⟩
 case round=>
  obtain⟨p,k,rfl,HSQ,HR⟩:=hrel;clear HR3 HST;obtain⟨q1,q2,q3,q4,q5,b,q6⟩:=HR.out;obtain⟨n,hn⟩:∃n:Int,(k:Int)=n:=⟨_,rfl⟩;rw[hn]at q6;have hn9:0<=n/\n<=1000:=by have:=HSQ.out.few HF.out.hj;omega
  have hp1:=HSQ.out.1;have hp2:=HSQ.out.2.1;have hp3:=(aa9 (apW j) HF.out.hj).2.2;obtain⟨c0,c1,c2,c3,c4,c5⟩:=cells3 q6;have hwn:IntKind.i64.wrap (n+1)=n+1:=wrap_i64 (by omega);obtain⟨w4,hw4⟩:∃w4,wr.setCell ⟨w1.heap.size,0,none⟩ (.int .i64 (n+1))=w4:=⟨_,rfl⟩;have r1:w4.heap[w1.heap.size]? =some (.cells #[.int .i64 (n+1),.int .i64 b,.int .i64 sep] 53 (0,0)):=by rw[<-hw4];exact(alP q6 _ (.int .i64 0)).1
  obtain⟨d0,d1,d2,d3,d4,d5⟩:=cells3 r1;obtain⟨w5,hw5⟩:∃w5,w4.setCell ⟨w1.heap.size,1,none⟩ (.int .i64 p)=w5:=⟨_,rfl⟩;have r2:w5.heap[w1.heap.size]? =some (.cells #[.int .i64 (n+1),.int .i64 p,.int .i64 sep] 53 (0,0)):=by rw[<-hw5];exact(alP r1 (.int .i64 0) _).2
  have r3:w5.heap[w.heap.size]? =some (.cells #[.int .i64 0,.int .i64 0,.int .i64 0] 53 (0,0)):=by
   rw[<-hw5,<-hw4,Below.heap_setCell _ _ _ _ (by simp;omega),Below.heap_setCell _ _ _ _ (by simp;omega)];exact q5
  have r4:Below w.heap.size w w5:=by rw[<-hw5,<-hw4];exact(q1.setCell (by simp;omega) _).setCell (by simp;omega) _
  have hpq:(1:Int)<=p/\p<=65536:=by omega
  have hgb:=anG (ns:=ns) (P:=p) HF.out.fin HF.out.den (Int.le_trans (xF (by omega) hp2 e) HF.out.size) hpq;have HNE:=hdd (afS (HD.out.below r4) HOK.out HLF.out HRO.out hgb ⟨e,SubE.refl e,HI.out⟩ HI.out.lt (HT.out.below r4) hpq);rw[fP HI.out]at HNE;have HA:=hdd r3;have HBK:=hdd r2;have HB5:=hdd r4;have HNN:=hdd hn;have HPP:=hdd hpq;have HQ4:=hdd q4;have HQ3:=hdd q3;clear q1 q2 q3 q4 q5 q6 r1 r2 r3 r4 hgb HR hn hp1 hp2 hp3 hn9;go_wp2_with fail
  refine HNE.out.mono ?_;rintro e' w6 hret
  cases hnear:gH e p with
  |none=>
   rw[hnear]at hret;obtain⟨hb6,rfl⟩:=hret;have HLT:Hid (p≠32*2^j):=hdd (fun h=>by
    obtain⟨b',M,W,z1,-,-⟩:=HF.out.hit;rw[<-h,hnear]at z1;cases z1)
   obtain⟨w7,hw7,⟨u0,u1,u2,u3,u4,u5⟩,⟨s0,s1,s2,s3,s4,s5⟩,w8,hw8,hb8,hs8⟩:=new6 w6 163 (.bool false) (.slice none 0 0) (.int .i64 0) (.bool false) (.slice none 0 0) (.int .i64 0) (.bool false) (.slice none 0 0) (.int .i64 0) (.bool false) (.slice none 0 0) (.int .i64 0);have HB8:=hdd (aB hb6 hb8);clear hb6 hb8 hs8 hnear c0 c1 c2 c3 c4 c5 d0 d1 d2 d3 d4 d5;have hnx:=HSQ.out.next HLT.out HF.out.hj;have hge:¬((65536:Int)<=p):=by have:=hnx.1;omega
   have hw2p:IntKind.i64.wrap (2*p)=2*p:=wrap_i64 (by have:=HPP.out;omega);obtain⟨q,hmin⟩:∃q,min (2*p) 65536=q:=⟨_,rfl⟩;rw[hmin]at hnx;have hqp:p<q/\q<=65536:=by have:=HPP.out;omega
   have HQP:=hdd hqp;have HNX:=hdd hnx;have HRN:Hid (Rec w w8 w.heap.size w1.heap.size sep ((k+1:Nat):Int)):=hdd ⟨HB5.out.trans (HB8.out.mono HB5.out.size),apW _,HQ3.out,HQ4.out,hbl HA.out HB8.out,p,by have h9:=hbl HBK.out HB8.out;rw[show((k+1:Nat):Int)=n+1 from by have:=HNN.out;omega];exact h9⟩;clear hnx hqp;go_wp2
   go_roundw
   case rel=>exact⟨q,k+1,rfl,hdd HNX.out.2,HRN⟩
   case measure=>have:=HQP.out;have:=HPP.out;simp[intOf];omega
  |some bb=>
   rw[hnear]at hret;obtain⟨hb6,vb,rfl,hbal⟩:=hret;obtain⟨e1,A1,n1,k1,e2,A2,n2,k2,rfl,i1,i2⟩:=id hbal;obtain⟨w7,hw7,⟨u0,u1,u2,u3,u4,u5⟩,⟨s0,s1,s2,s3,s4,s5⟩,w8,hw8,hb8,hs8⟩:=new6 w6 163 (.bool false) (.slice none 0 0) (.int .i64 0) (.bool false) (.slice none 0 0) (.int .i64 0) (.bool e1) (.slice A1 n1 k1) (.int .i64 bb.lo.exp) (.bool e2) (.slice A2 n2 k2) (.int .i64 bb.hi.exp);obtain⟨x0,x1,x2,x3,x4,x5⟩:=aI hs8;have HX8:=hdd hs8;have HSG:=hdd (nU (w:=w8) (hbal.below hb8));have HB8:=hdd (aB hb6 hb8);have HI1:=hdd (i1.below hb8);have HI2:=hdd (i2.below hb8);have HIN:=hdd (mI HPP.out.1 HF.out.den hnear);have hsz:=ajB (by have:=HPP.out;omega) (Int.le_trans (xF HPP.out.1 HSQ.out.2.1 e) HF.out.size) (vI HPP.out.1 HF.out.fin hnear);have HSZ:=hdd hsz;have HNR:=hdd hnear;clear hb6 hb8 hs8 hbal i1 i2 hnear hsz c0 c1 c2 c3 c4 c5 d0 d1 d2 d3 d4 d5;go_wp2_with fail
   refine HSG.out.mono ?_;rintro e' w9⟨rfl,hb9⟩;have HB9:=hdd (aB HB8.out hb9);have HX9:=hdd (hbl HX8.out hb9);replace HI1:=hdd (HI1.out.below hb9);replace HI2:=hdd (HI2.out.below hb9);clear hb9 x0 x1 x2 x3 x4 x5 u0 u1 u2 u3 u4 u5 s0 s1 s2 s3 s4 s5 hw7 hw8 HSG
   cases hok:sgOk bb
   . obtain⟨x0,x1,x2,x3,x4,x5⟩:=aI HX9.out
     have HNT:=hdd (uU (d:=bb.lo) ⟨_,_,_,_,rfl,HI1.out⟩ (HT.out.below (HB5.out.trans (HB9.out.mono HB5.out.size))) (by have:=HSZ.out.1.1.1.1;omega) (by have:=HSZ.out.1.1.1.2;omega));generalize sgB bb=sg0 at*;go_wp2_with fail
     refine HNT.out.mono ?_;rintro e' w10⟨hb10,vn,rfl,hnz⟩;obtain⟨e3,A3,n3,k3,rfl,hnz⟩:=hnz;have HB10:=hdd (aB HB9.out hb10);have HX10:=hdd (hbl HX9.out hb10);replace HI2:=hdd (HI2.out.below hb10);have HTY:=hdd (aa8 (d:=notD bb.lo) (sep:=sep) ⟨_,_,_,_,rfl,hnz⟩ (pM HSZ.out.1.2.1 HSZ.out.1.1.1) HSP.out);clear hb10 hnz HNT x0 x1 x2 x3 x4 x5;by_cases ht1:iD (notD bb.lo) sep
     . rw[decide_eq_true ht1]at HTY
       go_wp2_with fail
       refine HTY.out.mono ?_;rintro e' w11⟨rfl,hb11⟩;have HB11:=hdd (aB HB10.out hb11);have HX11:=hdd (hbl HX10.out hb11);obtain⟨x0,x1,x2,x3,x4,x5⟩:=aI HX11.out;have HTZ:=hdd (aa8 (d:=bb.hi) (sep:=sep) ⟨_,_,_,_,rfl,HI2.out.below hb11⟩ HSZ.out.1.1.2 HSP.out);clear hb11 HTY;by_cases ht2:iD bb.hi sep
       . rw[decide_eq_true ht2]at HTZ
         have HZERO:Hid (v=0):=hdd (afT HIN.out ht1 ht2 HF.out.far);go_wp2_with fail
         refine HTZ.out.mono ?_;rintro e' w12⟨rfl,hb12⟩;have HB12:=hdd (aB HB11.out hb12);clear hb12 HTZ ht1 ht2 x0 x1 x2 x3 x4 x5;have hB9:=hbl HBK.out HB12.out;have hA9:=hbl HA.out HB12.out;obtain⟨y0,y1,y2,-,-,-⟩:=cells3 hB9;obtain⟨z0,z1,z2,z3,z4,z5⟩:=cells3 hA9;have g3:=set3 hA9 (.int .i64 (n+1)) (.int .i64 p) (.int .i64 sep);have hbw:=HB5.out.trans (HB12.out.mono HB5.out.size);have HFF:=hdd g3;have HRR:=hdd (((hbw.setCell (p:=⟨w.heap.size,0,none⟩) nlr (.int .i64 (n+1))).setCell (p:=⟨w.heap.size,1,none⟩) nlr (.int .i64 p)).setCell (p:=⟨w.heap.size,2,none⟩) nlr (.int .i64 sep)).drew;clear hB9 hA9 g3 hbw;go_wp2
         go_region
         all_goals
          go_wp2;obtain⟨f0,f1,f2,-,-,-⟩:=cells3 HFF.out;refine bodyPost_ret (v:=.tuple #[_,.agg #[_,_,_],_]) (by simp[results,Tryz.results78,go_sem,f0,f1,f2];first|exact⟨rfl,⟨rfl,rfl,rfl⟩,rfl⟩|rfl) rfl ?_;rw[HZERO.out,Re.sgn_zero];exact⟨HRR.out,_,rfl⟩
       . rw[decide_eq_false ht2]at HTZ
         have HLT:Hid (p≠32*2^j):=hdd (fun h=>by
          obtain⟨b',M,W,z1,z2,z3⟩:=HF.out.hit;rw[<-h,HNR.out]at z1;cases z1
          rcases vL HIN.out z2 z3 HF.out.far with z|z
          . unfold sgOk at hok;rw[decide_eq_true z]at hok;cases hok
          . exact ht2 z.2)
         go_wp2_with fail
         refine HTZ.out.mono ?_;rintro e' w12⟨rfl,hb12⟩;have HB12:=hdd (aB HB11.out hb12);clear hb12 HTZ ht1 ht2 x0 x1 x2 x3 x4 x5;have hnx:=HSQ.out.next HLT.out HF.out.hj;have hge:¬((65536:Int)<=p):=by have:=hnx.1;omega
         have hw2p:IntKind.i64.wrap (2*p)=2*p:=wrap_i64 (by have:=HPP.out;omega);obtain⟨q,hmin⟩:∃q,min (2*p) 65536=q:=⟨_,rfl⟩;rw[hmin]at hnx;have hqp:p<q/\q<=65536:=by have:=HPP.out;omega
         have HQP:=hdd hqp;have HNX:=hdd hnx;have HRN:Hid (Rec w w12 w.heap.size w1.heap.size sep ((k+1:Nat):Int)):=hdd ⟨HB5.out.trans (HB12.out.mono HB5.out.size),apW _,HQ3.out,HQ4.out,hbl HA.out HB12.out,p,by have h9:=hbl HBK.out HB12.out;rw[show((k+1:Nat):Int)=n+1 from by have:=HNN.out;omega];exact h9⟩;clear hnx hqp;go_wp2
         go_roundw
         case rel=>exact⟨q,k+1,rfl,hdd HNX.out.2,HRN⟩
         case measure=>have:=HQP.out;have:=HPP.out;simp[intOf];omega
     . rw[decide_eq_false ht1]at HTY
       have HLT:Hid (p≠32*2^j):=hdd (fun h=>by
        obtain⟨b',M,W,z1,z2,z3⟩:=HF.out.hit;rw[<-h,HNR.out]at z1;cases z1
        rcases vL HIN.out z2 z3 HF.out.far with z|z
        . unfold sgOk at hok;rw[decide_eq_true z]at hok;cases hok
        . exact ht1 z.1)
       go_wp2_with fail
       refine HTY.out.mono ?_;rintro e' w11⟨rfl,hb11⟩;have HB11:=hdd (aB HB10.out hb11);clear hb11 HTY ht1;have hnx:=HSQ.out.next HLT.out HF.out.hj;have hge:¬((65536:Int)<=p):=by have:=hnx.1;omega
       have hw2p:IntKind.i64.wrap (2*p)=2*p:=wrap_i64 (by have:=HPP.out;omega);obtain⟨q,hmin⟩:∃q,min (2*p) 65536=q:=⟨_,rfl⟩;rw[hmin]at hnx;have hqp:p<q/\q<=65536:=by have:=HPP.out;omega
       have HQP:=hdd hqp;have HNX:=hdd hnx;have HRN:Hid (Rec w w11 w.heap.size w1.heap.size sep ((k+1:Nat):Int)):=hdd ⟨HB5.out.trans (HB11.out.mono HB5.out.size),apW _,HQ3.out,HQ4.out,hbl HA.out HB11.out,p,by have h9:=hbl HBK.out HB11.out;rw[show((k+1:Nat):Int)=n+1 from by have:=HNN.out;omega];exact h9⟩;clear hnx hqp;go_wp2
       go_roundw
       case rel=>exact⟨q,k+1,rfl,hdd HNX.out.2,HRN⟩
       case measure=>have:=HQP.out;have:=HPP.out;simp[intOf];omega
   . have HSIG:Hid (sgB bb=Re.sgn v):=hdd (by
      have hs:bb.lo.man.sign=bb.hi.man.sign:=of_decide_eq_true hok;unfold sgB;rw[if_pos hs];exact(ak4 HIN.out hs).symm)
     generalize sgB bb=sg0 at*;have hB9:=hbl HBK.out HB9.out;have hA9:=hbl HA.out HB9.out;obtain⟨y0,y1,y2,-,-,-⟩:=cells3 hB9;obtain⟨z0,z1,z2,z3,z4,z5⟩:=cells3 hA9;have g3:=set3 hA9 (.int .i64 (n+1)) (.int .i64 p) (.int .i64 sep);have hbw:=HB5.out.trans (HB9.out.mono HB5.out.size);have HFF:=hdd g3;have HRR:=hdd (((hbw.setCell (p:=⟨w.heap.size,0,none⟩) nlr (.int .i64 (n+1))).setCell (p:=⟨w.heap.size,1,none⟩) nlr (.int .i64 p)).setCell (p:=⟨w.heap.size,2,none⟩) nlr (.int .i64 sep)).drew;clear hB9 hA9 g3 hbw;go_wp2
     go_region
     all_goals
      go_wp2;obtain⟨f0,f1,f2,-,-,-⟩:=cells3 HFF.out;refine bodyPost_ret (v:=.tuple #[_,.agg #[_,_,_],_]) (by simp[results,Tryz.results78,go_sem,f0,f1,f2];first|exact⟨rfl,⟨rfl,rfl,rfl⟩,rfl⟩|rfl) rfl ?_;rw[<-HSIG.out];exact⟨HRR.out,_,rfl⟩
end Go.Proofs.YtebdolonckjpiaaGreatDoor
namespace Go.Proofs.YtebdolonckjpiaaGreatDoor
open Go.RowKit Go.Maps
open Go.RowKit.Below renaming refl->apZ,setCell->ap2
open List renaming getElem?_eq_getElem->ap0,mem_of_getElem?->ap3
open Option.some renaming inj->ap1
variable{f:Bool}{a b e e0:Ex}{s st:Int}{ns:List Nd}{K g h q:Nat}{o:Obj}{v v0:Re}{w:World}
theorem anQ{j ms id jj:Nat}{l:List Nat}(hst:Sq jj st 0)(hj:JH w f st j ms g ns l)(hl:id∈l)(hd:DagP w g ns)(ok:OkNs ns)(hlf:iH ns)(hro:iI ns)(hI:Is ns a id)(hG:Gd K jj a v)(hT:Tab w):
 Calls Tryz.prog 75 #[.pointer (some ⟨j,0,none⟩),.int .i64 (id:Int)] w (fun e w'=>e=.returned (.tuple #[.int .i64 (sgT ns id),.nilIface])/\Fr (fun b=>b=ms) w w'/\JH w' f st j ms g ns l):=by
 have hue:=anH (ns:=ns) hG.fin hG.cost;have hpt:Part ns a id:=⟨a,.refl a,hI⟩;have hsg:=yT hI hG.den;have HSE:Hid (∀w',Below w.heap.size w w'->Calls Tryz.prog 77 #[.pointer (some ⟨g,0,none⟩),.int .i64 (id:Int)] w' (abD w' ns (ulT ns id) id)):=hdd fun w' h=>rM (hd.below h) ok hlf hro hue hpt (hT.below h) hI.lt (hG.sepOk hd.uniq hI);have HSR:Hid (∀w' (s:Int) l,Below w.heap.size w w'->IsB ns id l->s=((max (ulT ns id).1 (ulT ns id).2*2^nRt ns l+1:Nat):Int)->s<=32768->Calls Tryz.prog 78 #[.pointer (some ⟨g,0,none⟩),.int .i64 (id:Int),.int .i64 st,.int .i64 s,.bool true] w' (alQ w' (sgT ns id))):=hdd fun w' s l h hB hs hle=>by
  rw[hsg];have hf:=hG.fnd ok hd.uniq hI hB;rw[<-hs]at hf;exact aoA (hd.below h) ok hlf hro hI hf (hT.below h) (by omega) hst
 have HK:=hdd (jG (i:=id) (by have:=hd.len;have:=hI.lt;omega));have HJ0:=hdd hj;have HAO:Hid (∀w',Below w.heap.size w w'->Calls Tryz.prog 130 #[.pointer (some ⟨j,0,none⟩),.int .i64 (id:Int)] w' (aoY w')):=hdd fun w' h=>aoE (hj.below h) (by have:=hd.len;have:=hI.lt;omega);obtain⟨mg,m,s,fo,b1,hm,hmg,hms,hsm,-,-,-⟩:=hj;obtain⟨lo,hi,hmr,hg⟩:=hmg.1 id hl;have B1:=hdd b1;have HM:=hdd hm;have HMS:=hdd hms;have HSM:=hdd hsm;have HG1:=hdd (aeM (w:=w) hg.1 hg.2.1);obtain⟨s',hu⟩:=kN s (.int .i64 (id:Int)) (some (.int .i64 (sgT ns id)));have HU:=hdd hu;have HGD:Hid ((m (.int .i64 (id:Int))).getD (.agg #[.float .f64 0,.float .f64 0])=gv lo hi):=hdd (by rw[hmr];rfl);have hok:(eB lo hi).2=true->(eB lo hi).1=sgT ns id:=fun h=>by
  rw[hsg,<-ajF];exact ab5 hg (x:=v*Re.ofN U74) ⟨a,v,hI,hG.den,rfl⟩ h
 obtain⟨c0,c1,c2,c3,c4,c5⟩:=aI b1;have hcase:=hsm id;clear hd ok hlf hro hT hm hms hu b1 hmr hg hue hpt hsg hI hG hl hmg hsm hst;obtain⟨S,hS⟩:∃S,sgT ns id=S:=⟨_,rfl⟩;rw[hS]at hok HU HSR hcase|-;have HSS:=hdd hS;clear hS;generalize eB lo hi=G at*;obtain⟨gs,gk⟩:=G;replace hok:gk=true->gs=S:=hok;replace HG1:Hid (Calls Tryz.prog 129 #[gv lo hi] w (qU w gs gk)):=HG1;rcases hcase with hcase|hcase
 . have HSN:Hid ((s (.int .i64 (id:Int))).getD (.int .i64 0)=.int .i64 0):=hdd (by rw[hcase];rfl)
   have HSB:Hid ((s (.int .i64 (id:Int))).isSome=false):=hdd (by rw[hcase];rfl);clear hcase
   cases gk
   . clear hok
     go_enter Tryz.func75,Tryz.ntmps75
     go_wp2_with (first
      |(at_lookup
        refine jF _ rfl _ _ _ rfl _ _ aM bZ (eP _) _ s rfl HMS.out (.int .i64 (id:Int)) _ rfl HK.out (.int .i64 0) HSN.out false HSB.out ?_)
      |(at_lookup
        refine aZ _ rfl _ _ _ rfl _ _ aM lY (o7 _) _ m rfl HM.out (.int .i64 (id:Int)) _ rfl HK.out (gv lo hi) HGD.out ?_))
     refine HG1.out.mono ?_;rintro e w1⟨rfl,hb1⟩;replace c0:=cbl c0 hb1;replace c1:=cbl c1 hb1;replace c2:=cbl c2 hb1;replace c3:=cbl c3 hb1;replace c4:=cbl c4 hb1;replace c5:=cbl c5 hb1;have HB1:=hdd hb1;clear hb1;go_wp2_with fail
     refine(HSE.out _ HB1.out).mono ?_;rintro e w2⟨hb2,sp,l',rfl,hIB,hsp,hspl⟩;have HSC:=hdd (HSR.out _ sp l' (aB (aB HB1.out hb2) (apZ _ _).drew) hIB hsp hspl);clear hIB hsp hspl;replace c0:=cbl c0 hb2;replace c1:=cbl c1 hb2;replace c2:=cbl c2 hb2;replace c3:=cbl c3 hb2;replace c4:=cbl c4 hb2;replace c5:=cbl c5 hb2;have HB2:=hdd (aB HB1.out hb2);have HB3:=hdd (aB (aB HB1.out hb2) (apZ _ _).drew);clear hb2;go_wp2_with fail
     have hdr:Below w2.heap.size w2 w2.drew:=(apZ _ _).drew;replace c0:=cbl c0 hdr;replace c1:=cbl c1 hdr;replace c2:=cbl c2 hdr;replace c3:=cbl c3 hdr;replace c4:=cbl c4 hdr;replace c5:=cbl c5 hdr;clear hdr
     go_region_held3 (fun w'=>w'.cell? ⟨j,0,none⟩=some (.pointer (some ⟨g,0,none⟩))/\w'.cell? ⟨j,2,none⟩=some (.int .i64 st)/\w'.cell? ⟨j,5,none⟩=some (.map (some ms))) (go_keep)
      (first
      |(go_at_call 78
        refine HSC.out.mono ?_;rintro e w4⟨hb4,vw,rfl⟩;have c0:=cbl c0 hb4;have c1:=cbl c1 hb4;have c2:=cbl c2 hb4;have c3:=cbl c3 hb4;have c4:=cbl c4 hb4;have c5:=cbl c5 hb4;have HBF:=hdd (aB HB3.out hb4);have HMF:=hdd (HMS.out.below (aB HB3.out hb4) HMS.out.lt);clear hb4))
     go_wp2_with (first
      |(at_mapUpdate
        refine dY _ rfl _ _ _ _ rfl _ _ aM bZ _ s s' rfl HMF.out (.int .i64 (id:Int)) (.int .i64 S) _ rfl rfl HK.out HU.out ?_;intro w9 HM9 hgr hsz;have HF9:=hdd ((Fr.of_below HBF.out).trans (Fr.of_grown hgr (fun i e=>(ap1 e).symm)));have HJ9:=hdd (HJ0.out.put HBF.out HSM.out HSS.out HU.out HM9.out hgr);clear hgr hsz))
     go_ret2
     exact⟨rfl,HF9.out,HJ9.out⟩
   . have hgs:S=gs:=(hok rfl).symm
     subst hgs;clear hok;go_enter Tryz.func75,Tryz.ntmps75
     go_wp2_with (first
      |(at_lookup
        refine jF _ rfl _ _ _ rfl _ _ aM bZ (eP _) _ s rfl HMS.out (.int .i64 (id:Int)) _ rfl HK.out (.int .i64 0) HSN.out false HSB.out ?_)
      |(at_lookup
        refine aZ _ rfl _ _ _ rfl _ _ aM lY (o7 _) _ m rfl HM.out (.int .i64 (id:Int)) _ rfl HK.out (gv lo hi) HGD.out ?_))
     refine HG1.out.mono ?_;rintro e w1⟨rfl,hb1⟩;replace c0:=cbl c0 hb1;replace c1:=cbl c1 hb1;replace c2:=cbl c2 hb1;replace c3:=cbl c3 hb1;replace c4:=cbl c4 hb1;replace c5:=cbl c5 hb1;have HB1:=hdd hb1;clear hb1
     cases f
     . go_wp2_with fail
       refine(HAO.out _ HB1.out).mono ?_;rintro e wz⟨⟨bq,rfl⟩,hbz⟩;replace c0:=cbl c0 hbz;replace c1:=cbl c1 hbz;replace c2:=cbl c2 hbz;replace c3:=cbl c3 hbz;replace c4:=cbl c4 hbz;replace c5:=cbl c5 hbz;replace HB1:=hdd (aB HB1.out hbz);clear hbz
       cases bq
       . go_wp2_with fail
         refine(HSE.out _ HB1.out).mono ?_;rintro e w2⟨hb2,sp,l',rfl,hIB,hsp,hspl⟩;have HSC:=hdd (HSR.out _ sp l' (aB (aB HB1.out hb2) (apZ _ _).drew) hIB hsp hspl);clear hIB hsp hspl;replace c0:=cbl c0 hb2;replace c1:=cbl c1 hb2;replace c2:=cbl c2 hb2;replace c3:=cbl c3 hb2;replace c4:=cbl c4 hb2;replace c5:=cbl c5 hb2;have HB2:=hdd (aB HB1.out hb2);have HB3:=hdd (aB (aB HB1.out hb2) (apZ _ _).drew);clear hb2;go_wp2_with fail
         have hdr:Below w2.heap.size w2 w2.drew:=(apZ _ _).drew;replace c0:=cbl c0 hdr;replace c1:=cbl c1 hdr;replace c2:=cbl c2 hdr;replace c3:=cbl c3 hdr;replace c4:=cbl c4 hdr;replace c5:=cbl c5 hdr;clear hdr
         go_region_held3 (fun w'=>w'.cell? ⟨j,0,none⟩=some (.pointer (some ⟨g,0,none⟩))/\w'.cell? ⟨j,2,none⟩=some (.int .i64 st)/\w'.cell? ⟨j,5,none⟩=some (.map (some ms))) (go_keep)
          (first
          |(go_at_call 78
            refine HSC.out.mono ?_;rintro e w4⟨hb4,vw,rfl⟩;have c0:=cbl c0 hb4;have c1:=cbl c1 hb4;have c2:=cbl c2 hb4;have c3:=cbl c3 hb4;have c4:=cbl c4 hb4;have c5:=cbl c5 hb4;have HBF:=hdd (aB HB3.out hb4);have HMF:=hdd (HMS.out.below (aB HB3.out hb4) HMS.out.lt);clear hb4))
         go_wp2_with (first
          |(at_mapUpdate
            refine dY _ rfl _ _ _ _ rfl _ _ aM bZ _ s s' rfl HMF.out (.int .i64 (id:Int)) (.int .i64 S) _ rfl rfl HK.out HU.out ?_;intro w9 HM9 hgr hsz;have HF9:=hdd ((Fr.of_below HBF.out).trans (Fr.of_grown hgr (fun i e=>(ap1 e).symm)));have HJ9:=hdd (HJ0.out.put HBF.out HSM.out HSS.out HU.out HM9.out hgr);clear hgr hsz))
         go_ret2
         exact⟨rfl,HF9.out,HJ9.out⟩
       . have HBF:=HB1
         have HMF:=hdd (HMS.out.below HB1.out HMS.out.lt);go_wp2_with (first
          |(at_mapUpdate
            refine dY _ rfl _ _ _ _ rfl _ _ aM bZ _ s s' rfl HMF.out (.int .i64 (id:Int)) (.int .i64 S) _ rfl rfl HK.out HU.out ?_;intro w9 HM9 hgr hsz;have HF9:=hdd ((Fr.of_below HBF.out).trans (Fr.of_grown hgr (fun i e=>(ap1 e).symm)));have HJ9:=hdd (HJ0.out.put HBF.out HSM.out HSS.out HU.out HM9.out hgr);clear hgr hsz))
         go_ret2
         exact⟨rfl,HF9.out,HJ9.out⟩
     . have HBF:=HB1
       have HMF:=hdd (HMS.out.below HB1.out HMS.out.lt);go_wp2_with (first
        |(at_mapUpdate
          refine dY _ rfl _ _ _ _ rfl _ _ aM bZ _ s s' rfl HMF.out (.int .i64 (id:Int)) (.int .i64 S) _ rfl rfl HK.out HU.out ?_;intro w9 HM9 hgr hsz;have HF9:=hdd ((Fr.of_below HBF.out).trans (Fr.of_grown hgr (fun i e=>(ap1 e).symm)));have HJ9:=hdd (HJ0.out.put HBF.out HSM.out HSS.out HU.out HM9.out hgr);clear hgr hsz))
       go_ret2
       exact⟨rfl,HF9.out,HJ9.out⟩
 . have HSN:Hid ((s (.int .i64 (id:Int))).getD (.int .i64 0)=.int .i64 S):=hdd (by rw[hcase];rfl)
   have HSB:Hid ((s (.int .i64 (id:Int))).isSome=true):=hdd (by rw[hcase];rfl);clear hcase hok;go_enter Tryz.func75,Tryz.ntmps75
   go_wp2_with (first
    |(at_lookup
      refine jF _ rfl _ _ _ rfl _ _ aM bZ (eP _) _ s rfl HMS.out (.int .i64 (id:Int)) _ rfl HK.out (.int .i64 S) HSN.out true HSB.out ?_))
   go_ret2
   exact⟨rfl,Fr.of_below (apZ _ _),HJ0.out⟩
def AllG11(e:Ex):Prop:=(∀a b,SubE (.div a b) e->∃K v,Gd K 11 b v)/\∀a,SubE (.root a) e->∃K v,Gd K 11 a v
theorem AllG11.gd (h:AllG11 e):AllGd e:=⟨fun a b hs=>by obtain⟨K,v,hg⟩:=h.1 a b hs;exact⟨K,11,v,hg⟩,fun a hs=>by obtain⟨K,v,hg⟩:=h.2 a hs;exact⟨K,11,v,hg⟩⟩
def aoF(ns:List Nd)(i:Nat):Prop:=∃a K v,Is ns a i/\Gd K 11 a v
theorem aoP(hd:DenR e v)(hg:AllG11 e)(hs:SubE (.div a b) e)(hi:Is ns b q):aoF ns q/\sgT ns q≠0:=by
 obtain⟨K,u,hu⟩:=hg.1 a b hs;exact⟨⟨b,K,u,hi,hu⟩,(ak8 hd hg.gd hs hi).2⟩
theorem aoG(hd:DenR e v)(hg:AllG11 e)(hs:SubE (.root a) e)(hi:Is ns a q):aoF ns q/\¬sgT ns q<0:=by
 obtain⟨K,u,hu⟩:=hg.2 a hs;exact⟨⟨a,K,u,hi,hu⟩,(ajG hd hg.gd hs hi).2⟩
def aoZ(w:World)(f:Bool)(st:Int)(g root:Nat)(ns:List Nd)(e:Ending)(w':World):Prop:=Below w.heap.size w w'/\∃j ms l,e=.returned (.tuple #[.pointer (some ⟨j,0,none⟩),.nilIface])/\w.heap.size<=ms/\IsB ns root l/\JH w' f st j ms g ns l
theorem an4{root:Nat}(hd:DagP w g ns)(ok:OkNs ns)(hlf:iH ns)(hro:iI ns)(hI:Is ns e0 root)(hde:DenR e0 v0)(hgd:AllG11 e0)(hT:Tab w)(hst:Sq 11 st 0)(hN:f=false->∀w',Below w.heap.size w w'->Calls Tryz.prog 183 #[.pointer (some ⟨g,0,none⟩),.int .i64 (root:Int),.int .i64 st] w' (anT w')):
 Calls Tryz.prog 73 #[.pointer (some ⟨g,0,none⟩),.int .i64 (root:Int),.agg #[.bool f,.int .i64 st]] w (aoZ w f st g root ns):=by
 obtain⟨w1,hw1,hb1,hs1,b1⟩:=pro1 w (.cells #[.bool f,.int .i64 st] 65);obtain⟨c0,c1,-,-⟩:=aC b1;have hr:=hI.lt;obtain⟨nr,hnr⟩:∃n,ns[root]? =some n:=⟨_,ap0 hr⟩;have HB1:=hdd hb1;have HN1:=hdd (fB (hd.below hb1) hnr);have HDW:=hdd hd;have HDE:=hdd hde;have HGD:=hdd hgd;have HI0:=hdd hI;have HLN:=hdd hd.len;have HNJ:Hid (∀w',Below w.heap.size w w'->Calls Tryz.prog 125 #[.pointer (some ⟨g,0,none⟩),.int .i64 (root:Int),.agg #[.bool f,.int .i64 st]] w' (RetH w' f st g root ns)):=hdd fun w' h=>an0 (hd.below h) ok hlf hro hr (fun e w2 h2=>hN e w2 (aB h h2));have HJS:Hid (∀w' j ms l (p:Nat),Below w.heap.size w w'->JH w' f st j ms g ns l->p∈l->aoF ns p->Calls Tryz.prog 75 #[.pointer (some ⟨j,0,none⟩),.int .i64 (p:Int)] w' (fun e w''=>e=.returned (.tuple #[.int .i64 (sgT ns p),.nilIface])/\Fr (fun b=>b=ms) w' w''/\JH w'' f st j ms g ns l)):=hdd fun w' j ms l p h hj hl ⟨a,K,v,hi,hg⟩=>anQ hst hj hl (hd.below h) ok hlf hro hi hg (hT.below h)
 have HBE:Hid (∀w' b0,Below w.heap.size w w'->w'.heap[b0]? =some (.cells #[.int .i64 (root:Int)] 3 (0,0))->Calls Tryz.prog 126 #[.pointer (some ⟨g,0,none⟩),.slice (some ⟨b0,0,none⟩) 1 1] w' (o6 w' ns root)):=hdd fun w' b0 h hb=>jJ (hd.below h) ok hr hb;clear hd ok hlf hro hr hb1 b1 hs1 hnr hI hde hgd hT hst hN;have hst:=aX;go_enter Tryz.func73,Tryz.ntmps73
 go_wp2_with fail
 refine HN1.out.mono ?_;rintro e w2⟨rfl,hb2⟩;obtain⟨w3,hw3,z0,z1,z2,z3,y0,y1,y2,y3,w4,hw4,hb4,hs4⟩:=new4 w2 144 (.int .i64 0) (.float .f64 0) (.int .i64 0) (.int .i64 0) (.int .i64 nr.kind) (.float .f64 nr.val) (.int .i64 nr.a) (.int .i64 nr.b);have h14:=aB hb2 hb4;replace c0:=cbl c0 h14;replace c1:=cbl c1 h14;have HB4:=hdd (HB1.out.trans (h14.mono HB1.out.size));clear hb2 hb4 hs4 h14;go_wp2_with fail
 refine(HNJ.out _ HB4.out).mono ?_;rintro e w5⟨hb5,j,ms,l0,rfl,hms,hms5,hI0,hjp⟩;obtain⟨w6,hw6,hb6,hs6,b6⟩:=pro1 w5 (.cells #[.int .i64 (root:Int)] 3);have h46:=aB hb5 hb6;have HB6:=hdd (HB4.out.trans (h46.mono HB4.out.size));have HJ6:=hdd (hjp.below hb6);have HIL:=hdd hI0;have HM6:Hid (ms<w6.heap.size):=hdd (by have:=hb6.size;omega);have HMS:=hdd (Nat.le_trans HB4.out.size hms);have HBE6:=hdd (HBE.out w6 _ HB6.out b6);clear hb5 hb6 hs6 b6 h46 hjp hms hms5 hI0 c0 c1 z0 z1 z2 z3 y0 y1 y2 y3 hw3 hw4;go_wp2_with fail
 refine HBE6.out.mono ?_;rintro e w7⟨hb7,v7,l,rfl,hl,hI⟩;obtain⟨bl,cl,rfl,hlc,hcm,-⟩:=id hl;have HL:=hdd hl;have HI:=hdd hI;have HB7:=hdd (HB6.out.trans (hb7.mono HB6.out.size));have HJ7:=hdd (HJ6.out.below hb7);have HMS7:Hid (w.heap.size<=ms):=HMS;have HLL:=hdd (mJ hI HLN.out);clear hb7 hl hI hlc hcm hw6;go_wp2_with fail
 go_loopw [37] (fun i wr=>∃k:Nat,k<=l.length/\i=.int .i64 (k:Int)/\Hid (Fr (fun b=>b=ms) w7 wr)/\Hid (JH wr f st j ms g ns l0)) (fun i _=>((l.length:Int)-intOf i).toNat)
 case atStart=>exact⟨0,Nat.zero_le _,rfl,hdd (Fr.of_below (apZ _ _)),HJ7⟩
 case round=>
  obtain⟨k,hk,rfl,HF,HJR⟩:=hrel;have HBR:Hid (Below w.heap.size w wr):=hdd (HB7.out.trans (HF.out.below HB7.out.size (fun b hb=>by have:=HMS.out;omega)));rcases Nat.lt_or_ge k l.length with hlt|hge
  . obtain⟨x,hx⟩:∃x,l[k]? =some x:=⟨_,ap0 hlt⟩
    have hxl:x<ns.length:=HI.out.lt x (ap3 hx);obtain⟨n,hn⟩:∃n,ns[x]? =some n:=⟨_,ap0 hxl⟩;have cx:=(HL.out.fr HF.out (fun b hb=>by have:=HM6.out;omega)).cell hx;have HN:=hdd (fB (HDW.out.below HBR.out) hn);have hkI:(k:Int)<(l.length:Int):=by omega
    have hk0:(0:Int)<=(k:Int):=by omega
    have hlI:(l.length:Int)<=20000:=by have:=HLL.out;omega
    have HKL:=hdd hlt;have hx0:x∈l0:=ak9 HI.out HIL.out x (ap3 hx);have hkc:=acQ (yS HIL.out HI0.out x hx0) hn;have HCL:Hid (∀o∈opsN n,∃y∈l0,(y:Int)=o):=hdd (HIL.out.cl x hx0 n hn);clear hx hn hxl hlt hx0;rcases hkc with ⟨hk4,hk5⟩|⟨a,b,p,q,rfl,hs,hi⟩|⟨a,p,rfl,hs,hi⟩
    . go_wp2_with fail
      refine HN.out.mono ?_;rintro e w8⟨rfl,hb8⟩;obtain⟨w9,hw9,z0,z1,z2,z3,y0,y1,y2,y3,wa,hwa,hba,hsa⟩:=new4 w8 144 (.int .i64 0) (.float .f64 0) (.int .i64 0) (.int .i64 0) (.int .i64 n.kind) (.float .f64 n.val) (.int .i64 n.a) (.int .i64 n.b);obtain⟨x0,x1,x2,x3⟩:=aU hsa;have HFa:=hdd (HF.out.trans (Fr.of_below (aB hb8 hba)));have HJa:=hdd (HJR.out.below (aB hb8 hba));clear hb8 hba hsa cx;go_wp2_with fail
      go_roundw
      case rel=>exact⟨k+1,by have:=HKL.out;omega,by go_num,HFa,HJa⟩
      case measure=>have:=HKL.out;simp[intOf];omega
    . obtain⟨hga,hsg⟩:=aoP HDE.out HGD.out hs hi
      have hq0:q∈l0:=by
       obtain⟨y,hy,e⟩:=HCL.out (q:Int) (by simp[opsN]);have:y=q:=by omega
       rw[<-this];exact hy
      have HGA:=hdd hga;have HQ0:=hdd hq0;clear hga hq0 hs hi;dsimp only at HN;go_wp2_with fail
      refine HN.out.mono ?_;rintro e w8⟨rfl,hb8⟩;obtain⟨w9,hw9,z0,z1,z2,z3,y0,y1,y2,y3,wa,hwa,hba,hsa⟩:=new4 w8 144 (.int .i64 0) (.float .f64 0) (.int .i64 0) (.int .i64 0) (.int .i64 4) (.float .f64 0) (.int .i64 (p:Int)) (.int .i64 (q:Int));obtain⟨x0,x1,x2,x3⟩:=aU hsa;have HFa:=hdd (HF.out.trans (Fr.of_below (aB hb8 hba)));have HJa:=hdd (HJR.out.below (aB hb8 hba));have HBa:=hdd (HBR.out.trans ((aB hb8 hba).mono HBR.out.size));clear hb8 hba hsa cx;go_wp2_with fail
      refine(HJS.out _ _ _ _ q HBa.out HJa.out HQ0.out HGA.out).mono ?_;rintro e wb⟨rfl,hfb,hjb⟩;have HFb:=hdd (HFa.out.trans hfb);have HJb:=hdd hjb;clear hfb hjb x0 x1 x2 x3 z0 z1 z2 z3 y0 y1 y2 y3 hw9 hwa;generalize sgT ns q=S at*;go_wp2_with fail
      go_roundw
      case rel=>exact⟨k+1,by have:=HKL.out;omega,by go_num,HFb,HJb⟩
      case measure=>have:=HKL.out;simp[intOf];omega
    . obtain⟨hga,hsg⟩:=aoG HDE.out HGD.out hs hi
      have hq0:p∈l0:=by
       obtain⟨y,hy,e⟩:=HCL.out (p:Int) (by simp[opsN]);have:y=p:=by omega
       rw[<-this];exact hy
      have HGA:=hdd hga;have HQ0:=hdd hq0;clear hga hq0 hs hi;dsimp only at HN;go_wp2_with fail
      refine HN.out.mono ?_;rintro e w8⟨rfl,hb8⟩;obtain⟨w9,hw9,z0,z1,z2,z3,y0,y1,y2,y3,wa,hwa,hba,hsa⟩:=new4 w8 144 (.int .i64 0) (.float .f64 0) (.int .i64 0) (.int .i64 0) (.int .i64 5) (.float .f64 0) (.int .i64 (p:Int)) (.int .i64 0);obtain⟨x0,x1,x2,x3⟩:=aU hsa;have HFa:=hdd (HF.out.trans (Fr.of_below (aB hb8 hba)));have HJa:=hdd (HJR.out.below (aB hb8 hba));have HBa:=hdd (HBR.out.trans ((aB hb8 hba).mono HBR.out.size));clear hb8 hba hsa cx;go_wp2_with fail
      refine(HJS.out _ _ _ _ p HBa.out HJa.out HQ0.out HGA.out).mono ?_;rintro e wb⟨rfl,hfb,hjb⟩;have HFb:=hdd (HFa.out.trans hfb);have HJb:=hdd hjb;clear hfb hjb x0 x1 x2 x3 z0 z1 z2 z3 y0 y1 y2 y3 hw9 hwa;generalize sgT ns p=S at*;go_wp2_with fail
      go_roundw
      case rel=>exact⟨k+1,by have:=HKL.out;omega,by go_num,HFb,HJb⟩
      case measure=>have:=HKL.out;simp[intOf];omega
  . have hke:k=l.length:=by omega
    subst hke;have HRES:Hid (aoZ w f st g root ns (.returned (.tuple #[.pointer (some ⟨j,0,none⟩),.nilIface])) wr):=hdd ⟨HBR.out,j,ms,l0,rfl,HMS.out,HIL.out,HJR.out⟩;clear hk hge;go_wp2
    go_ret2
    exact HRES.out
theorem aoB{root:Nat}(hd:DagP w g ns)(ok:OkNs ns)(hlf:iH ns)(hro:iI ns)(hI:Is ns e0 root)(hG:Gd K 11 e0 v0)(hgd:AllG11 e0)(hT:Tab w)(hst:1<=st/\st<=65536)(hN:f=false->∀w',Below w.heap.size w w'->Calls Tryz.prog 183 #[.pointer (some ⟨g,0,none⟩),.int .i64 (root:Int),.int .i64 st] w' (anT w')){vw:Value}(hC:∀w',Below w.heap.size w w'->Calls Tryz.prog 74 #[vw] w' (fun e w''=>e=.returned (.agg #[.bool f,.int .i64 st])/\Below w'.heap.size w' w'')):
 Calls Tryz.prog 27 #[.pointer (some ⟨g,0,none⟩),.int .i64 (root:Int),vw] w (fun e w'=>e=.returned (.tuple #[.int .i64 (Re.sgn v0),.nilIface])/\Below w.heap.size w w'):=by
 have HEX:Hid (∀w',Below w.heap.size w w'->Calls Tryz.prog 73 #[.pointer (some ⟨g,0,none⟩),.int .i64 (root:Int),.agg #[.bool f,.int .i64 st]] w' (aoZ w' f st g root ns)):=hdd fun w' h=>an4 (hd.below h) ok hlf hro hI hG.den hgd (hT.below h) (Sq.any hst) (fun e w2 h2=>hN e w2 (aB h h2));have HJS:Hid (∀w' j ms l,Below w.heap.size w w'->JH w' f st j ms g ns l->root∈l->Calls Tryz.prog 75 #[.pointer (some ⟨j,0,none⟩),.int .i64 (root:Int)] w' (fun e w''=>e=.returned (.tuple #[.int .i64 (Re.sgn v0),.nilIface])/\Fr (fun b=>b=ms) w' w''/\JH w'' f st j ms g ns l)):=hdd fun w' j ms l h hj hl=>by
  have:=anQ (Sq.any hst) hj hl (hd.below h) ok hlf hro hI hG (hT.below h);rwa[yT hI hG.den]at this
 have HC:=hdd (hC w (apZ _ _));clear hd ok hlf hro hI hG hgd hT hC hst hN;go_enter Tryz.func27,Tryz.ntmps27
 go_wp2_with fail
 refine HC.out.mono ?_;rintro e w1⟨rfl,hb1⟩;have HB1:=hdd hb1;clear hb1;go_wp2_with fail
 refine(HEX.out _ HB1.out).mono ?_;rintro e w2⟨hb2,j,ms,l,rfl,hms,hIB,hjp⟩;have HB2:=hdd (HB1.out.trans (hb2.mono HB1.out.size));have HMS:=hdd (Nat.le_trans HB1.out.size hms);have HJC:=hdd (HJS.out _ j ms l HB2.out hjp hIB.rt);clear hb2 hms hjp hIB HJS HEX;go_wp2_with fail
 refine HJC.out.mono ?_;rintro e w3⟨rfl,hf,-⟩;have HB3:=hdd (HB2.out.trans (hf.below HB2.out.size (fun b hb=>by have:=HMS.out;omega)));clear hf;go_wp2
 go_ret2
 exact⟨rfl,HB3.out⟩
theorem AllG11.leaf (v:Nat):AllG11 (.leaf v):=⟨fun a b h=>(by cases h),fun a h=>(by cases h)⟩
theorem AllG11.add (h:AllG11 a)(k:AllG11 b):AllG11 (.add a b):=
 ⟨fun x y s=>by cases s with|addL s=>exact h.1 x y s|addR s=>exact k.1 x y s,fun x s=>by cases s with|addL s=>exact h.2 x s|addR s=>exact k.2 x s⟩
theorem AllG11.sub (h:AllG11 a)(k:AllG11 b):AllG11 (.sub a b):=
 ⟨fun x y s=>by cases s with|subL s=>exact h.1 x y s|subR s=>exact k.1 x y s,fun x s=>by cases s with|subL s=>exact h.2 x s|subR s=>exact k.2 x s⟩
theorem AllG11.mul (h:AllG11 a)(k:AllG11 b):AllG11 (.mul a b):=
 ⟨fun x y s=>by cases s with|mulL s=>exact h.1 x y s|mulR s=>exact k.1 x y s,fun x s=>by cases s with|mulL s=>exact h.2 x s|mulR s=>exact k.2 x s⟩
theorem AllG11.div (h:AllG11 a)(k:AllG11 b)(hG:Gd K 11 b v):AllG11 (.div a b):=
 ⟨fun x y s=>by cases s with|refl=>exact⟨_,_,hG⟩|divL s=>exact h.1 x y s|divR s=>exact k.1 x y s,fun x s=>by cases s with|divL s=>exact h.2 x s|divR s=>exact k.2 x s⟩
theorem AllG11.root (h:AllG11 a)(hG:Gd K 11 a v):AllG11 (.root a):=
 ⟨fun x y s=>by cases s with|root s=>exact h.1 x y s,fun x s=>by cases s with|refl=>exact⟨_,_,hG⟩|root s=>exact h.2 x s⟩
def stB(s:Int):Int:=min (if s<1 then 32 else s) 65536
theorem ao5(s:Int):1<=stB s/\stB s<=65536:=by unfold stB;split<;>omega
def C2(w:World)(g:Nat)(a b:Value):Prop:=w.cell? ⟨g,0,none⟩=some a/\w.cell? ⟨g,1,none⟩=some b/\w.frozen? ⟨g,0,none⟩=false/\w.frozen? ⟨g,1,none⟩=false
theorem oth1(hg:w.heap[g]? =some o)(hne:g≠h)(k:Nat)(c:Value):(w.setCell ⟨h,k,none⟩ c).heap[g]? =some o:=by
 rw[Below.heap_setCell _ _ _ _ (by simp;omega)];exact hg
theorem oth2(hg:w.heap[g]? =some o)(hne:g≠h)(c d:Value):((w.setCell ⟨h,0,none⟩ c).setCell ⟨h,1,none⟩ d).heap[g]? =some o:=oth1 (oth1 hg hne 0 c) hne 1 d
theorem apI(w:World)(T:TypeId){b:Nat}(hb:w.heap[b]? =some (.cells #[.bool f,.int .i64 s] T (0,0))):∃w1,w.alloc (.cells #[.bool false,.int .i64 0] T)=w1/\w1.heap.size=w.heap.size+1/\∃w2,w1.alloc (.cells #[.bool false,.int .i64 0] T)=w2/\C2 w2 w1.heap.size (.bool false) (.int .i64 0)/\
 ∃w3,(w2.setCell ⟨w1.heap.size,0,none⟩ (.bool true)).setCell ⟨w1.heap.size,1,none⟩ (.int .i64 32)=w3/\C2 w3 w1.heap.size (.bool true) (.int .i64 32)/\C2 w3 b (.bool f) (.int .i64 s)/\
 ∃w4,(w3.setCell ⟨w1.heap.size,0,none⟩ (.bool f)).setCell ⟨w1.heap.size,1,none⟩ (.int .i64 s)=w4/\w4.heap[w1.heap.size]? =some (.cells #[.bool f,.int .i64 s] T (0,0))/\w4.heap[w.heap.size]? =some (.cells #[.bool false,.int .i64 0] T (0,0))/\Below w.heap.size w w4:=by
 obtain⟨w1,hw1,hb1,hs1,b1⟩:=pro1 w (.cells #[.bool false,.int .i64 0] T);obtain⟨w2,hw2,hb2,hs2,b2⟩:=pro1 w1 (.cells #[.bool false,.int .i64 0] T);have h12:=hbl b1 hb2;have hl:=aH hb;have hB:=aF (aF hb hb1 hl) hb2 (by omega);have hbb:=aB hb1 hb2;have hk:w.heap.size<=w1.heap.size:=hb1.size;have g1:=set2 b2 (.bool true) (.int .i64 32);have g2:=set2 g1 (.bool f) (.int .i64 s);exact⟨w1,hw1,hs1,w2,hw2,aC b2,_,rfl,aC g1,aC (oth2 hB (by omega) _ _),_,rfl,g2,oth2 (oth2 h12 (by omega) _ _) (by omega) _ _,(((hbb.setCell hk _).setCell hk _).setCell hk _).setCell hk _⟩
theorem apB(n:Nat)(w5:World)(T:TypeId){m:Nat}(hm:w5.heap[m]? =some (.cells #[.bool f,.int .i64 s] T (0,0)))(hn:w5.heap[n]? =some (.cells #[.bool false,.int .i64 0] T (0,0)))(hne:n<m):
 ∃w6,w5.setCell ⟨m,1,none⟩ (.int .i64 (min s 65536))=w6/\C2 w6 m (.bool f) (.int .i64 (min s 65536))/\C2 w6 n (.bool false) (.int .i64 0)/\
 ∃w7,(w6.setCell ⟨n,0,none⟩ (.bool f)).setCell ⟨n,1,none⟩ (.int .i64 (min s 65536))=w7/\C2 w7 n (.bool f) (.int .i64 (min s 65536))/\Below n w5 w7:=by
 have g1:=setB hm (.int .i64 (min s 65536));have g2:=oth1 (k:=1) (c:=.int .i64 (min s 65536)) hn (by omega:n≠m);have g3:=set2 g2 (.bool f) (.int .i64 (min s 65536));exact⟨_,rfl,aC g1,aC g2,_,rfl,aC g3,ap2 (ap2 (ap2 (apZ n w5) (p:=(⟨m,1,none⟩:Addr)) (Nat.le_of_lt hne) _) (p:=(⟨n,0,none⟩:Addr)) nlr _) (p:=(⟨n,1,none⟩:Addr)) nlr _⟩
theorem aoH{b:Nat}(hb:w.heap[b]? =some (.cells #[.bool f,.int .i64 s] 65 (0,0))):
 Calls Tryz.prog 74 #[.slice (some ⟨b,0,none⟩) 1 1] w (fun e w'=>e=.returned (.agg #[.bool f,.int .i64 (stB s)])/\Below w.heap.size w w'):=by
 obtain⟨w1,hw1,hs1,w2,hw2,⟨a0,a1,a2,a3⟩,w3,hw3,⟨c0,c1,c2,c3⟩,⟨b0,b1,b2,b3⟩,w4,hw4,g4,n4,hb4⟩:=apI w 65 hb;obtain⟨d0,d1,d2,d3⟩:=aC g4;by_cases h1:s<1
 . have g5:=setB g4 (.int .i64 32)
   have n5:=oth1 (k:=1) (c:=.int .i64 32) n4 (by omega:w.heap.size≠w1.heap.size);have hb5:=ap2 hb4 (p:=(⟨w1.heap.size,1,none⟩:Addr)) (show w.heap.size<=w1.heap.size by omega) (.int .i64 32);obtain⟨w5,hw5⟩:∃w5,w4.setCell ⟨w1.heap.size,1,none⟩ (.int .i64 32)=w5:=⟨_,rfl⟩;rw[hw5]at g5 n5 hb5;obtain⟨e0,e1,e2,e3⟩:=aC g5;obtain⟨w6,hw6,⟨f0,f1,f2,f3⟩,⟨k0,k1,k2,k3⟩,w7,hw7,⟨l0,l1,l2,l3⟩,hb7⟩:=apB w.heap.size w5 65 g5 n5 (by omega);have HB:=hdd (hb5.trans hb7);have HS:Hid (stB s=min 32 65536):=hdd (by unfold stB;rw[if_pos h1]);clear hb hb4 hb5 hb7 g4 g5 n4 n5 hs1;go_enter Tryz.func74,Tryz.ntmps74
   go_wp2;refine bodyPost_ret (v:=.agg #[_,_]) (by simp[results,Tryz.results74,go_sem,l0,l1];first|exact⟨rfl,rfl⟩|rfl) rfl ?_;exact⟨by rw[HS.out],HB.out⟩
 . obtain⟨w6,hw6,⟨f0,f1,f2,f3⟩,⟨k0,k1,k2,k3⟩,w7,hw7,⟨l0,l1,l2,l3⟩,hb7⟩:=apB w.heap.size w4 65 g4 n4 (by omega)
   have HB:=hdd (hb4.trans hb7);have HS:Hid (stB s=min s 65536):=hdd (by unfold stB;rw[if_neg h1]);clear hb hb4 hb7 g4 n4 hs1;go_enter Tryz.func74,Tryz.ntmps74
   go_wp2;refine bodyPost_ret (v:=.agg #[_,_]) (by simp[results,Tryz.results74,go_sem,l0,l1];first|exact⟨rfl,rfl⟩|rfl) rfl ?_;exact⟨by rw[HS.out],HB.out⟩
end Go.Proofs.YtebdolonckjpiaaGreatDoor
namespace Go.Proofs.YtebdolonckjpiaaGreatDoor
open Go.RowKit Go.Maps Go.Stop Go.Extern
section
variable{P:Ex->Prop}{B N:Nat}{w W:World}{g:Nat}{ns ns':List Nd}{l:List (Nat×Obj)}
end
theorem aoC{w:World}{k i:Int}(h1:1<=k)(h2:k<=7):
 Calls Tryz.prog 69 #[.int .i64 i,.iface 140 (.int .i64 k)] w (apH w k):=by
 have hb:Below w.heap.size w (w.alloc (.cells #[.int .i64 i,.iface 140 (.int .i64 k)] 190)):=Below.alloc (Below.refl _ _) nlr _;have HE:Hid (ErK (an1 w (w.alloc (.cells #[.int .i64 i,.iface 140 (.int .i64 k)] 190))) (w.alloc (.cells #[.int .i64 i,.iface 140 (.int .i64 k)] 190)) (0+1) (.iface 188 (.pointer (some ⟨w.heap.size,0,none⟩))) k):=hdd (.att ⟨Nat.le_refl _,by simp⟩ (by simp) (.kind h1 h2));have HB:=hdd hb;clear h1 h2 hb;go_enter Tryz.func69,Tryz.ntmps69
 go_wp2;go_ret;exact⟨_,_,rfl,by omega,HE.out,HB.out⟩
end Go.Proofs.YtebdolonckjpiaaGreatDoor
