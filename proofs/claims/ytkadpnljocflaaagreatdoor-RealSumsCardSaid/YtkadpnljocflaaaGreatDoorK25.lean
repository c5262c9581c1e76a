/- A part of the proof: contracts of functions and plain laws (SrA, SrB, FlrD, DagB, FrD). -/
import Derived.Test.YtkadpnljocflaaaGreatDoorK24
import Derived.Test.YtkadpnljocflaaaGreatDoorK21
import Derived.Test.YtkadpnljocflaaaGreatDoorK08
import Derived.Test.YtkadpnljocflaaaGreatDoorK22
import Derived.DeepKeys4
set_option linter.unusedVariables false
set_option linter.unusedSimpArgs false
set_option linter.unnecessarySimpa false
set_option maxHeartbeats 25600000
set_option maxRecDepth 100000
namespace Go.Proofs.YtkadpnljocflaaaGreatDoor
section
open Go.RowKit Go.Maps
instance(x:Dy)(sep:Int):Decidable (gF x sep):=by unfold gF;infer_instance
theorem zI{p:Nat->Prop}{v:Value}{d:Dy}{sep:Int}{w:World}(hx:DyP p w v d)(hs:SmQ d)(hsp:0<=sep/\sep<=1099511627776):Calls Tryz.prog 154 #[v,.int .i64 sep] w (RetW w (decide (gF d sep))):=by
 obtain⟨b,A,n,c,rfl,h⟩:=hx;obtain⟨w1,hw1,hb1,hs1,b1⟩:=pro1 w (.cells #[Value.bool b,.slice A n c,.int .i64 d.exp] 90);have HB:=hdd hb1;obtain⟨c0,c1,c2,-,-,-⟩:=cells3 b1;have D1:Hid (DyP p w1 (.agg #[.bool b,.slice A n c,.int .i64 d.exp]) d):=hdd ⟨_,_,_,_,rfl,h.below hb1⟩;have HSM:=hdd hs;have hwr:IntKind.i64.wrap (-sep)=-sep:=wrap_i64 (by omega);clear h hb1 b1 hs1 hs;go_enter Tryz.func154,Tryz.ntmps154
 go_wp2_with fail
 refine(bY D1.out).mono ?_;rintro r w3⟨rfl,hb⟩;replace c0:=cbl c0 hb;replace c1:=cbl c1 hb;replace c2:=cbl c2 hb;replace D1:=hdd (D1.out.below hb);replace HB:=hdd (HB.out.trans (hb.mono HB.out.size));clear hb hw1;by_cases hz:d.man<=0
 . have HF:Hid (RetW w (decide (gF d sep)) (.returned (.bool true)) w3):=hdd ⟨by rw[show decide (gF d sep)=true from decide_eq_true (Or.inl hz)],HB.out⟩
   have hsg:d.man.sign<=0:=by
    rcases Int.lt_or_eq_of_le hz with h|h
    . rw[Int.sign_eq_neg_one_iff_neg.2 h];decide
    . rw[h];decide
   generalize decide (gF d sep)=res at*;go_wp2;go_ret;exact HF.out
 . have hsg:¬(d.man.sign<=0):=by
    rw[Int.sign_eq_one_iff_pos.2 (by omega)];decide
   have hsg2:0<d.man:=by omega
   go_wp2_with fail
   refine(nP D1.out (by have:=HSM.out.2;omega)).mono ?_;rintro r w4⟨rfl,hb⟩;have HF:Hid (RetW w (decide (gF d sep)) (.returned (.bool (decide (d.man<=0)||decide (topD d<=-sep)))) w4):=hdd ⟨by
    rw[show decide (gF d sep)=(decide (d.man<=0)||decide (topD d<=-sep)) from by
     by_cases h1:d.man<=0<;>by_cases h2:topD d<=-sep<;>simp[gF,h1,h2]],HB.out.trans (hb.mono HB.out.size)⟩
   generalize decide (gF d sep)=res at*;clear hb;generalize topD d=T at*;go_wp2;go_ret;exact HF.out
end
section
open Go.RowKit Go.Maps
open Re (rat)
open Int renaming le_trans->ayF,pow_succ->ayH
open Nat renaming pow_le_pow_right->ayC,le_refl->ayD,lt_or_ge->ayE,le_antisymm->ayG,zero_le->ayI
variable{e:Ex}{p:Int}{ns:List Nd}{g j k:Nat}{v:Re}{w:World}
theorem ai6{T:TypeId}{a b c:Value}(h:w.heap[g]? =some (.cells #[a,b,c] T (0,0)))(d e:Value):
 (w.setCell ⟨g,0,none⟩ d).heap[g]? =some (.cells #[d,b,c] T (0,0))/\(w.setCell ⟨g,1,none⟩ e).heap[g]? =some (.cells #[a,e,c] T (0,0)):=by
 have hg:g<w.heap.size:=(Array.getElem?_eq_some_iff.1 h).1;have h':w.heap[g]=.cells #[a,b,c] T (0,0):=(Array.getElem?_eq_some_iff.1 h).2;constructor<;>simp[World.setCell,hg,Array.getElem_modify,h']
def ai7(w:World)(s:Int)(e:Ending)(w':World):Prop:=Below w.heap.size w w'/\∃v,e=.returned (.tuple #[.int .i64 s,v,.bool true])
def Rec(w0 w:World)(A B:Nat)(sep n:Int):Prop:=Below w0.heap.size w0 w/\w0.heap.size<=A/\w0.heap.size<=B/\A≠B/\w.heap[A]? =some (.cells #[.int .i64 0,.int .i64 0,.int .i64 0] 171 (0,0))/\
 ∃b:Int,w.heap[B]? =some (.cells #[.int .i64 n,.int .i64 b,.int .i64 sep] 171 (0,0))
structure Fnd(e:Ex)(v:Re)(sep:Int)(j:Nat):Prop where
 den:DenR e v
 fin:FinE e
 size:bN (32*2^j) e<=4000000
 hj:j<=11
 hit:∃b M W,dB e (32*2^j)=some b/\Acc M W b/\sep+1<=W
 far:v≠0->rat (p2 (-sep+1))<=Re.ab v
theorem qG(h:k<=j)(hj:j<=11):(1:Int)<=32*2^k/\(32*2^k:Int)<=32*2^j/\(32*2^j:Int)<=65536:=by
 have h1:2^k<=2^j:=ayC (by omega) h;have h2:2^j<=2^11:=ayC (by omega) hj;have h3:=Nat.two_pow_pos k;have e1:((2:Int)^k)=((2^k:Nat):Int):=by simp
 have e2:((2:Int)^j)=((2^j:Nat):Int):=by simp
 rw[e1,e2];have:(2:Nat)^11=2048:=by decide
 omega
def Sq(j:Nat)(p:Int)(k:Nat):Prop:=1<=p/\p<=32*2^j/\((2^k:Nat):Int)<=p/\(p=((32*2^k:Nat):Int)\/j=11)
theorem ab6(j:Nat):(32*2^j:Int)=((32*2^j:Nat):Int):=by simp
theorem Sq.few (h:Sq j p k)(hj:j<=11):k<=16:=by
 have h1:=(qG (ayD j) hj).2.2;have h2:2^k<=2^16:=by have:=h.2.1;have:=h.2.2.1;have:(2:Nat)^16=65536:=(by decide);omega
 exact(Nat.pow_le_pow_iff_right (by decide)).1 h2
theorem Sq.start (hj:j<=11):Sq j 32 0:=by
 have h:=(qG (ayI j) hj).2.1;exact⟨by decide,by simpa using h,by decide,Or.inl rfl⟩
theorem Sq.next (h:Sq j p k)(hn:p≠32*2^j)(hj:j<=11):p<65536/\Sq j (min (2*p) 65536) (k+1):=by
 have h3:=(qG (ayD j) hj).2.2;have hk:=h.few hj;obtain⟨h0,h1,h2,h4⟩:=h;have hlt:p<65536:=by omega
 refine⟨hlt,?_⟩;have e2:(2:Nat)^(k+1)=2*2^k:=by rw[Nat.pow_succ,Nat.mul_comm]
 have hk2:k+1<=16:=by
  rcases ayE k 16 with h|h
  . exact h
  . obtain rfl:k=16:=by omega
    have:(2:Nat)^16=65536:=by decide
    omega
 have h5:2^(k+1)<=2^16:=ayC (by decide) hk2;have e16:(2:Nat)^16=65536:=by decide
 rcases h4 with h4|rfl
 . rw[ab6]at hn h1 h3
   have hkj:k<j:=by
    rcases ayE k j with h|h
    . exact h
    . have:2^j<=2^k:=ayC (by decide) h
      omega
   have h6:2^(k+1)<=2^j:=ayC (by decide) hkj;have hm:min (2*p) 65536=2*p:=by omega
   rw[hm];exact⟨by omega,by rw[ab6];omega,by omega,Or.inl (by omega)⟩
 . have e11:(32*2^11:Int)=65536:=by decide
   exact⟨by omega,by omega,by omega,Or.inr rfl⟩
theorem zJ{root:Nat}{sep:Int}(hd:DagP w g ns)(ok:OkNs ns)(hlf:gB ns)(hro:gD ns)(hI:Is ns e root)(hF:Fnd e v sep j)(hT:Tab w)(hsp:0<=sep/\sep<=1099511627776){st:Int}(hst:Sq j st 0):
 Calls Tryz.prog 109 #[.pointer (some ⟨g,0,none⟩),.int .i64 (root:Int),.int .i64 st,.int .i64 sep,.bool true] w (ai7 w (Re.sgn v)):=by
 obtain⟨w1,hw1,hb1,hs1,b1⟩:=pro1 w (.cells #[.int .i64 0,.int .i64 0,.int .i64 0] 171);obtain⟨w2,hw2,hb2,hs2,b2⟩:=pro1 w1 (.cells #[.int .i64 0,.int .i64 0,.int .i64 0] 171);obtain⟨a0,a1,a2,a3,a4,a5⟩:=cells3 b2;have g1:=set3 b2 (.int .i64 0) (.int .i64 0) (.int .i64 sep);have h12:=(bW (w:=w2) (g:=w1.heap.size) (i:=w.heap.size) (by omega) (.int .i64 0) (.int .i64 0) (.int .i64 sep)).trans (hbl b1 hb2);have hbb:=(((aA hb1 hb2).setCell (p:=⟨w1.heap.size,0,none⟩) (by simp;omega) (.int .i64 0)).setCell (p:=⟨w1.heap.size,1,none⟩) (by simp;omega) (.int .i64 0)).setCell (p:=⟨w1.heap.size,2,none⟩) (by simp;omega) (.int .i64 sep);have HREC:Rec w (((w2.setCell ⟨w1.heap.size,0,none⟩ (.int .i64 0)).setCell ⟨w1.heap.size,1,none⟩ (.int .i64 0)).setCell ⟨w1.heap.size,2,none⟩ (.int .i64 sep)) w.heap.size w1.heap.size sep 0:=⟨hbb,ayD _,by omega,by omega,h12,0,g1⟩;generalize hw3:((w2.setCell ⟨w1.heap.size,0,none⟩ (.int .i64 0)).setCell ⟨w1.heap.size,1,none⟩ (.int .i64 0)).setCell ⟨w1.heap.size,2,none⟩ (.int .i64 sep)=w3 at HREC
 have HR3:=hdd HREC;have HD:=hdd hd;have HOK:=hdd ok;have HLF:=hdd hlf;have HRO:=hdd hro;have HI:=hdd hI;have HF:=hdd hF;have HT:=hdd hT;have HSP:=hdd hsp;have HST:=hdd hst;clear HREC hbb h12 g1 b1 b2 hb1 hb2 hs1 hs2 hd ok hlf hro hI hF hT hsp hst;go_enter Tryz.func109,Tryz.ntmps109
 go_wp2_with fail
 clear a0 a1 a2 a3 a4 a5 hw1 hw2 hw3
 go_loopw [14] (fun i wr=>∃(p:Int) (k:Nat),i=.int .i64 p/\Hid (Sq j p k)/\Hid (Rec w wr w.heap.size w1.heap.size sep (k:Int))) (fun i _=>(65536-intOf i).toNat)
 case atStart=>exact⟨st,0,rfl,HST,HR3⟩
 case round=>
  obtain⟨p,k,rfl,HSQ,HR⟩:=hrel;clear HR3 HST;obtain⟨q1,q2,q3,q4,q5,b,q6⟩:=HR.out;obtain⟨n,hn⟩:∃n:Int,(k:Int)=n:=⟨_,rfl⟩;rw[hn]at q6;have hn9:0<=n/\n<=1000:=by have:=HSQ.out.few HF.out.hj;omega
  have hp1:=HSQ.out.1;have hp2:=HSQ.out.2.1;have hp3:=(qG (ayD j) HF.out.hj).2.2;obtain⟨c0,c1,c2,c3,c4,c5⟩:=cells3 q6;have hwn:IntKind.i64.wrap (n+1)=n+1:=wrap_i64 (by omega);obtain⟨w4,hw4⟩:∃w4,wr.setCell ⟨w1.heap.size,0,none⟩ (.int .i64 (n+1))=w4:=⟨_,rfl⟩;have r1:w4.heap[w1.heap.size]? =some (.cells #[.int .i64 (n+1),.int .i64 b,.int .i64 sep] 171 (0,0)):=by rw[<-hw4];exact(ai6 q6 _ (.int .i64 0)).1
  obtain⟨d0,d1,d2,d3,d4,d5⟩:=cells3 r1;obtain⟨w5,hw5⟩:∃w5,w4.setCell ⟨w1.heap.size,1,none⟩ (.int .i64 p)=w5:=⟨_,rfl⟩;have r2:w5.heap[w1.heap.size]? =some (.cells #[.int .i64 (n+1),.int .i64 p,.int .i64 sep] 171 (0,0)):=by rw[<-hw5];exact(ai6 r1 (.int .i64 0) _).2
  have r3:w5.heap[w.heap.size]? =some (.cells #[.int .i64 0,.int .i64 0,.int .i64 0] 171 (0,0)):=by
   rw[<-hw5,<-hw4,Below.heap_setCell _ _ _ _ (by simp;omega),Below.heap_setCell _ _ _ _ (by simp;omega)];exact q5
  have r4:Below w.heap.size w w5:=by rw[<-hw5,<-hw4];exact(q1.setCell (by simp;omega) _).setCell (by simp;omega) _
  have hpq:(1:Int)<=p/\p<=65536:=by omega
  have hgb:=ai5 (ns:=ns) (P:=p) HF.out.fin HF.out.den (ayF (jX (by omega) hp2 e) HF.out.size) hpq;have HNE:=hdd (vJ (HD.out.below r4) HOK.out HLF.out HRO.out hgb ⟨e,SubE.refl e,HI.out⟩ HI.out.lt (HT.out.below r4) hpq);rw[eP HI.out]at HNE;have HA:=hdd r3;have HBK:=hdd r2;have HB5:=hdd r4;have HNN:=hdd hn;have HPP:=hdd hpq;have HQ4:=hdd q4;have HQ3:=hdd q3;clear q1 q2 q3 q4 q5 q6 r1 r2 r3 r4 hgb HR hn hp1 hp2 hp3 hn9;go_wp2_with fail
  refine HNE.out.mono ?_;rintro e' w6 hret
  cases hnear:dB e p with
  |none=>
   rw[hnear]at hret;obtain⟨hb6,rfl⟩:=hret;have HLT:Hid (p≠32*2^j):=hdd (fun h=>by
    obtain⟨b',M,W,z1,-,-⟩:=HF.out.hit;rw[<-h,hnear]at z1;cases z1)
   obtain⟨w7,hw7,⟨u0,u1,u2,u3,u4,u5⟩,⟨s0,s1,s2,s3,s4,s5⟩,w8,hw8,hb8,hs8⟩:=new6 w6 92 (.bool false) (.slice none 0 0) (.int .i64 0) (.bool false) (.slice none 0 0) (.int .i64 0) (.bool false) (.slice none 0 0) (.int .i64 0) (.bool false) (.slice none 0 0) (.int .i64 0);have HB8:=hdd (aA hb6 hb8);clear hb6 hb8 hs8 hnear c0 c1 c2 c3 c4 c5 d0 d1 d2 d3 d4 d5;have hnx:=HSQ.out.next HLT.out HF.out.hj;have hge:¬((65536:Int)<=p):=by have:=hnx.1;omega
   have hw2p:IntKind.i64.wrap (2*p)=2*p:=wrap_i64 (by have:=HPP.out;omega);obtain⟨q,hmin⟩:∃q,min (2*p) 65536=q:=⟨_,rfl⟩;rw[hmin]at hnx;have hqp:p<q/\q<=65536:=by have:=HPP.out;omega
   have HQP:=hdd hqp;have HNX:=hdd hnx;have HRN:Hid (Rec w w8 w.heap.size w1.heap.size sep ((k+1:Nat):Int)):=hdd ⟨HB5.out.trans (HB8.out.mono HB5.out.size),ayD _,HQ3.out,HQ4.out,hbl HA.out HB8.out,p,by have h9:=hbl HBK.out HB8.out;rw[show((k+1:Nat):Int)=n+1 from by have:=HNN.out;omega];exact h9⟩;clear hnx hqp;go_wp2
   go_roundw
   case rel=>exact⟨q,k+1,rfl,hdd HNX.out.2,HRN⟩
   case measure=>have:=HQP.out;have:=HPP.out;simp[intOf];omega
  |some bb=>
   rw[hnear]at hret;obtain⟨hb6,vb,rfl,hbal⟩:=hret;obtain⟨e1,A1,n1,k1,e2,A2,n2,k2,rfl,i1,i2⟩:=id hbal;obtain⟨w7,hw7,⟨u0,u1,u2,u3,u4,u5⟩,⟨s0,s1,s2,s3,s4,s5⟩,w8,hw8,hb8,hs8⟩:=new6 w6 92 (.bool false) (.slice none 0 0) (.int .i64 0) (.bool false) (.slice none 0 0) (.int .i64 0) (.bool e1) (.slice A1 n1 k1) (.int .i64 bb.lo.exp) (.bool e2) (.slice A2 n2 k2) (.int .i64 bb.hi.exp);obtain⟨x0,x1,x2,x3,x4,x5⟩:=aG hs8;have HX8:=hdd hs8;have HSG:=hdd (mY (w:=w8) (hbal.below hb8));have HB8:=hdd (aA hb6 hb8);have HI1:=hdd (i1.below hb8);have HI2:=hdd (i2.below hb8);have HIN:=hdd (lD HPP.out.1 HF.out.den hnear);have hsz:=xD (by have:=HPP.out;omega) (ayF (jX HPP.out.1 HSQ.out.2.1 e) HF.out.size) (kN HPP.out.1 HF.out.fin hnear);have HSZ:=hdd hsz;have HNR:=hdd hnear;clear hb6 hb8 hs8 hbal i1 i2 hnear hsz c0 c1 c2 c3 c4 c5 d0 d1 d2 d3 d4 d5;go_wp2_with fail
   refine HSG.out.mono ?_;rintro e' w9⟨rfl,hb9⟩;have HB9:=hdd (aA HB8.out hb9);have HX9:=hdd (hbl HX8.out hb9);replace HI1:=hdd (HI1.out.below hb9);replace HI2:=hdd (HI2.out.below hb9);clear hb9 x0 x1 x2 x3 x4 x5 u0 u1 u2 u3 u4 u5 s0 s1 s2 s3 s4 s5 hw7 hw8 HSG
   cases hok:sgOk bb
   . obtain⟨x0,x1,x2,x3,x4,x5⟩:=aG HX9.out
     have HNT:=hdd (nQ (d:=bb.lo) ⟨_,_,_,_,rfl,HI1.out⟩ (HT.out.below (HB5.out.trans (HB9.out.mono HB5.out.size))) (by have:=HSZ.out.1.1.1.1;omega) (by have:=HSZ.out.1.1.1.2;omega));generalize sgB bb=sg0 at*;go_wp2_with fail
     refine HNT.out.mono ?_;rintro e' w10⟨hb10,vn,rfl,hnz⟩;obtain⟨e3,A3,n3,k3,rfl,hnz⟩:=hnz;have HB10:=hdd (aA HB9.out hb10);have HX10:=hdd (hbl HX9.out hb10);replace HI2:=hdd (HI2.out.below hb10);have HTY:=hdd (zI (d:=notD bb.lo) (sep:=sep) ⟨_,_,_,_,rfl,hnz⟩ (kP HSZ.out.1.2.1 HSZ.out.1.1.1) HSP.out);clear hb10 hnz HNT x0 x1 x2 x3 x4 x5;by_cases ht1:gF (notD bb.lo) sep
     . rw[decide_eq_true ht1]at HTY
       go_wp2_with fail
       refine HTY.out.mono ?_;rintro e' w11⟨rfl,hb11⟩;have HB11:=hdd (aA HB10.out hb11);have HX11:=hdd (hbl HX10.out hb11);obtain⟨x0,x1,x2,x3,x4,x5⟩:=aG HX11.out;have HTZ:=hdd (zI (d:=bb.hi) (sep:=sep) ⟨_,_,_,_,rfl,HI2.out.below hb11⟩ HSZ.out.1.1.2 HSP.out);clear hb11 HTY;by_cases ht2:gF bb.hi sep
       . rw[decide_eq_true ht2]at HTZ
         have HZERO:Hid (v=0):=hdd (adR HIN.out ht1 ht2 HF.out.far);go_wp2_with fail
         refine HTZ.out.mono ?_;rintro e' w12⟨rfl,hb12⟩;have HB12:=hdd (aA HB11.out hb12);clear hb12 HTZ ht1 ht2 x0 x1 x2 x3 x4 x5;have hB9:=hbl HBK.out HB12.out;have hA9:=hbl HA.out HB12.out;obtain⟨y0,y1,y2,-,-,-⟩:=cells3 hB9;obtain⟨z0,z1,z2,z3,z4,z5⟩:=cells3 hA9;have g3:=set3 hA9 (.int .i64 (n+1)) (.int .i64 p) (.int .i64 sep);have hbw:=HB5.out.trans (HB12.out.mono HB5.out.size);have HFF:=hdd g3;have HRR:=hdd (((hbw.setCell (p:=⟨w.heap.size,0,none⟩) nlr (.int .i64 (n+1))).setCell (p:=⟨w.heap.size,1,none⟩) nlr (.int .i64 p)).setCell (p:=⟨w.heap.size,2,none⟩) nlr (.int .i64 sep)).drew;clear hB9 hA9 g3 hbw;go_wp2
         go_region
         all_goals
          go_wp2;obtain⟨f0,f1,f2,-,-,-⟩:=cells3 HFF.out;refine bodyPost_ret (v:=.tuple #[_,.agg #[_,_,_],_]) (by simp[results,Tryz.results109,go_sem,f0,f1,f2];first|exact⟨rfl,⟨rfl,rfl,rfl⟩,rfl⟩|rfl) rfl ?_;rw[HZERO.out,Re.sgn_zero];exact⟨HRR.out,_,rfl⟩
       . rw[decide_eq_false ht2]at HTZ
         have HLT:Hid (p≠32*2^j):=hdd (fun h=>by
          obtain⟨b',M,W,z1,z2,z3⟩:=HF.out.hit;rw[<-h,HNR.out]at z1;cases z1
          rcases tT HIN.out z2 z3 HF.out.far with z|z
          . unfold sgOk at hok;rw[decide_eq_true z]at hok;cases hok
          . exact ht2 z.2)
         go_wp2_with fail
         refine HTZ.out.mono ?_;rintro e' w12⟨rfl,hb12⟩;have HB12:=hdd (aA HB11.out hb12);clear hb12 HTZ ht1 ht2 x0 x1 x2 x3 x4 x5;have hnx:=HSQ.out.next HLT.out HF.out.hj;have hge:¬((65536:Int)<=p):=by have:=hnx.1;omega
         have hw2p:IntKind.i64.wrap (2*p)=2*p:=wrap_i64 (by have:=HPP.out;omega);obtain⟨q,hmin⟩:∃q,min (2*p) 65536=q:=⟨_,rfl⟩;rw[hmin]at hnx;have hqp:p<q/\q<=65536:=by have:=HPP.out;omega
         have HQP:=hdd hqp;have HNX:=hdd hnx;have HRN:Hid (Rec w w12 w.heap.size w1.heap.size sep ((k+1:Nat):Int)):=hdd ⟨HB5.out.trans (HB12.out.mono HB5.out.size),ayD _,HQ3.out,HQ4.out,hbl HA.out HB12.out,p,by have h9:=hbl HBK.out HB12.out;rw[show((k+1:Nat):Int)=n+1 from by have:=HNN.out;omega];exact h9⟩;clear hnx hqp;go_wp2
         go_roundw
         case rel=>exact⟨q,k+1,rfl,hdd HNX.out.2,HRN⟩
         case measure=>have:=HQP.out;have:=HPP.out;simp[intOf];omega
     . rw[decide_eq_false ht1]at HTY
       have HLT:Hid (p≠32*2^j):=hdd (fun h=>by
        obtain⟨b',M,W,z1,z2,z3⟩:=HF.out.hit;rw[<-h,HNR.out]at z1;cases z1
        rcases tT HIN.out z2 z3 HF.out.far with z|z
        . unfold sgOk at hok;rw[decide_eq_true z]at hok;cases hok
        . exact ht1 z.1)
       go_wp2_with fail
       refine HTY.out.mono ?_;rintro e' w11⟨rfl,hb11⟩;have HB11:=hdd (aA HB10.out hb11);clear hb11 HTY ht1;have hnx:=HSQ.out.next HLT.out HF.out.hj;have hge:¬((65536:Int)<=p):=by have:=hnx.1;omega
       have hw2p:IntKind.i64.wrap (2*p)=2*p:=wrap_i64 (by have:=HPP.out;omega);obtain⟨q,hmin⟩:∃q,min (2*p) 65536=q:=⟨_,rfl⟩;rw[hmin]at hnx;have hqp:p<q/\q<=65536:=by have:=HPP.out;omega
       have HQP:=hdd hqp;have HNX:=hdd hnx;have HRN:Hid (Rec w w11 w.heap.size w1.heap.size sep ((k+1:Nat):Int)):=hdd ⟨HB5.out.trans (HB11.out.mono HB5.out.size),ayD _,HQ3.out,HQ4.out,hbl HA.out HB11.out,p,by have h9:=hbl HBK.out HB11.out;rw[show((k+1:Nat):Int)=n+1 from by have:=HNN.out;omega];exact h9⟩;clear hnx hqp;go_wp2
       go_roundw
       case rel=>exact⟨q,k+1,rfl,hdd HNX.out.2,HRN⟩
       case measure=>have:=HQP.out;have:=HPP.out;simp[intOf];omega
   . have HSIG:Hid (sgB bb=Re.sgn v):=hdd (by
      have hs:bb.lo.man.sign=bb.hi.man.sign:=of_decide_eq_true hok;unfold sgB;rw[if_pos hs];exact(ah5 HIN.out hs).symm)
     generalize sgB bb=sg0 at*;have hB9:=hbl HBK.out HB9.out;have hA9:=hbl HA.out HB9.out;obtain⟨y0,y1,y2,-,-,-⟩:=cells3 hB9;obtain⟨z0,z1,z2,z3,z4,z5⟩:=cells3 hA9;have g3:=set3 hA9 (.int .i64 (n+1)) (.int .i64 p) (.int .i64 sep);have hbw:=HB5.out.trans (HB9.out.mono HB5.out.size);have HFF:=hdd g3;have HRR:=hdd (((hbw.setCell (p:=⟨w.heap.size,0,none⟩) nlr (.int .i64 (n+1))).setCell (p:=⟨w.heap.size,1,none⟩) nlr (.int .i64 p)).setCell (p:=⟨w.heap.size,2,none⟩) nlr (.int .i64 sep)).drew;clear hB9 hA9 g3 hbw;go_wp2
     go_region
     all_goals
      go_wp2;obtain⟨f0,f1,f2,-,-,-⟩:=cells3 HFF.out;refine bodyPost_ret (v:=.tuple #[_,.agg #[_,_,_],_]) (by simp[results,Tryz.results109,go_sem,f0,f1,f2];first|exact⟨rfl,⟨rfl,rfl,rfl⟩,rfl⟩|rfl) rfl ?_;rw[<-HSIG.out];exact⟨HRR.out,_,rfl⟩
abbrev pw(k:Nat):Int:=32*2^k
def agE(w:World)(e:Ex)(bits:Int)(j:Nat)(en:Ending)(w':World):Prop:=∃k b,k<=j/\dB e (pw k)=some b/\fK b.lo b.hi bits=true/\fJ w.heap.size w b true en w'
theorem aa5{root:Nat}{bits:Int}(hd:DagP w g ns)(ok:OkNs ns)(hlf:gB ns)(hro:gD ns)(hI:Is ns e root)(hden:DenR e v)(hfin:FinE e)(hsz:bN (pw j) e<=4000000)(hj:j<=11)
 (hit:∃b,dB e (pw j)=some b/\fK b.lo b.hi bits=true) (hT:Tab w) (hb:0<=bits/\bits<=1000000):
 Calls Tryz.prog 71 #[.pointer (some ⟨g,0,none⟩),.int .i64 (root:Int),.int .i64 bits,.int .i64 65536] w (agE w e bits j):=by
 obtain⟨w1,hw1,hb1,hs1,b1⟩:=pro1 w (.cells #[.bool false,.slice none 0 0,.int .i64 0,.bool false,.slice none 0 0,.int .i64 0] 92);have HD:=hdd hd;have HOK:=hdd ok;have HLF:=hdd hlf;have HRO:=hdd hro;have HI:=hdd hI;have HDEN:=hdd hden;have HFIN:=hdd hfin;have HSZ:=hdd hsz;have HJ:=hdd hj;have HIT:=hdd hit;have HT:=hdd hT;have HBT:=hdd hb;have HB1:=hdd hb1;have B1:=hdd b1;have HS1:=hdd hs1;have hmm:min (65536:Int) 65536=65536:=rfl;clear hd ok hlf hro hI hden hfin hsz hj hit hT hb hb1 b1 hs1;go_enter Tryz.func71,Tryz.ntmps71
 go_wp2_with fail
 go_loopw [10] (fun i wr=>∃k:Nat,k<=j/\i=.int .i64 (pw k)/\Hid (Below w1.heap.size w1 wr)) (fun i _=>(200000-intOf i).toNat)
 case atStart=>exact⟨0,ayI _,rfl,hdd (Below.refl _ _)⟩
 case round=>
  obtain⟨k,hkj,rfl,HBR⟩:=hrel;obtain⟨p,hpk⟩:∃p,pw k=p:=⟨_,rfl⟩;have hpw:=qG hkj HJ.out;have hpq:(1:Int)<=p/\p<=65536:=by rw[<-hpk];have:=qG (ayD k) (Nat.le_trans hkj HJ.out);exact⟨this.1,this.2.2⟩
  have hp2:p<=pw j:=by rw[<-hpk];exact hpw.2.1
  have HPK:=hdd hpk;rw[hpk];have hbw:Below w.heap.size w wr:=HB1.out.trans (HBR.out.mono HB1.out.size);have hgb:=ai5 (ns:=ns) (P:=p) HFIN.out HDEN.out (ayF (jX (by omega) hp2 e) HSZ.out) hpq;have HNE:=hdd (vJ (HD.out.below hbw) HOK.out HLF.out HRO.out hgb ⟨e,SubE.refl e,HI.out⟩ HI.out.lt (HT.out.below hbw) hpq);rw[eP HI.out]at HNE;have hle:p<=65536:=hpq.2;have HPP:=hdd hpq;have HP2:=hdd hp2;have HBW:=hdd hbw;have HKJ:=hdd hkj;have BR:=hdd (hbl B1.out HBR.out);clear hgb hpw hpk hpq hp2 hbw hkj;go_wp2_with fail
  refine HNE.out.mono ?_;rintro e' w6 hret
  cases hnear:dB e p with
  |none=>
   rw[hnear]at hret;obtain⟨hb6,rfl⟩:=hret;have hkk:k+1<=j:=by
    rcases ayE k j with h|h
    . exact h
    . obtain rfl:k=j:=ayG HKJ.out h
      obtain⟨b',z1,-⟩:=HIT.out;rw[HPK.out,hnear]at z1;cases z1
   have HB7:=hdd (HBR.out.trans ((hb6.trans ((aI w6 (.cells #[.bool false,.slice none 0 0,.int .i64 0,.bool false,.slice none 0 0,.int .i64 0] 92)).mono hb6.size)).mono HBR.out.size));have HKK:=hdd hkk;clear hb6 hkk;clear hnear;obtain⟨q,hq⟩:∃q,p*2=q:=⟨_,rfl⟩;have hqk:pw (k+1)=q:=by rw[<-hq,<-HPK.out];show(32*2^(k+1):Int)=32*2^k*2;rw[ayH];omega
   have hwq:wrap64 (p*2)=q:=by rw[hq];unfold wrap64;have:=HPP.out;omega
   have hwq':IntKind.i64.wrap (p*2)=q:=by rw[hq];exact wrap_i64 (by have:=HPP.out;omega)
   have HQK:=hdd hqk;have HQ:=hdd hq;clear hq hqk;go_wp2
   go_roundw
   case rel=>exact⟨k+1,HKK.out,by rw[HQK.out],HB7⟩
   case measure=>have:=HQ.out;have:=HPP.out;simp[intOf];omega
  |some bb=>
   rw[hnear]at hret;obtain⟨hb6,vb,rfl,hbal⟩:=hret;obtain⟨e1,A1,n1,k1,e2,A2,n2,k2,rfl,i1,i2⟩:=id hbal;have hokb:=xD (by have:=HPP.out;omega) (ayF (jX HPP.out.1 HP2.out e) HSZ.out) (kN HPP.out.1 HFIN.out hnear);obtain⟨w7,hw7,hb7,hs7,b7⟩:=pro1 w6 (.cells #[.bool e1,.slice A1 n1 k1,.int .i64 bb.lo.exp,.bool e2,.slice A2 n2 k2,.int .i64 bb.hi.exp] 92);have HNW:=hdd (aa0 (hbal.below hb7) ((HT.out.below (HBW.out.trans (hb6.mono HBW.out.size))).below hb7) hokb.1 HBT.out);have HB6:=hdd hb6;have HB67:=hdd (hb6.trans (hb7.mono hb6.size));have HX7:=hdd b7;have HI1:=hdd (i1.below hb7);have HI2:=hdd (i2.below hb7);obtain⟨x0,x1,x2,x3,x4,x5⟩:=aG b7;have HNR:=hdd hnear;clear hb6 hb7 hs7 b7 hbal i1 i2 hokb;go_wp2_with fail
   refine HNW.out.mono ?_;rintro e' w8⟨rfl,hb8⟩;replace x0:=cbl x0 hb8;replace x1:=cbl x1 hb8;replace x2:=cbl x2 hb8;replace x3:=cbl x3 hb8;replace x4:=cbl x4 hb8;replace x5:=cbl x5 hb8;have HB8:=hdd (HB67.out.trans (hb8.mono HB67.out.size));have HJ1:=hdd (HI1.out.below hb8);have HJ2:=hdd (HI2.out.below hb8);clear hb8 HNW HB67 HI1 HI2 HX7
   cases hnb:fK bb.lo bb.hi bits
   case' true=>
    have B8:=hbl BR.out HB8.out;have HN8:=hdd hnb;obtain⟨hR,hF⟩:=aV (x:=bb) (HBW.out.trans (HB8.out.mono HBW.out.size)) (g:=w.heap.size) nlr B8 HJ1.out HJ2.out (fun b hb=>by have:=HB6.out.size;have:=HBR.out.size;have:=HS1.out;omega);have HR:=hdd (dZ (t:=true) hR.out);have hFF:=hdd hF;obtain⟨p0,p1,p2,p3,p4,p5⟩:=aG B8;obtain⟨q0,q1,q2,q3,q4,q5⟩:=fC B8;clear hR hF B8 HB8 hnb hnear;go_wp2;obtain⟨f0,f1,f2,f3,f4,f5⟩:=aG hFF.out;unfold put6 at f0 f1 f2 f3 f4 f5;refine bodyPost_ret (v:=.tuple #[.agg #[_,_,_,_,_,_],_]) (by simp[results,Tryz.results71,go_sem,f0,f1,f2,f3,f4,f5];first|exact⟨⟨rfl,rfl,rfl,rfl,rfl,rfl⟩,rfl⟩|rfl) rfl ?_;exact⟨k,bb,HKJ.out,by rw[HPK.out];exact HNR.out,HN8.out,HR.out⟩
   have hkk:k+1<=j:=by
    rcases ayE k j with h|h
    . exact h
    . obtain rfl:k=j:=ayG HKJ.out h
      obtain⟨b',z1,z2⟩:=HIT.out;rw[HPK.out,hnear]at z1;cases z1;rw[hnb]at z2;cases z2
   have HB9:=hdd (HBR.out.trans (HB8.out.mono HBR.out.size));have HKK:=hdd hkk;clear hkk HJ1 HJ2 hnb x0 x1 x2 x3 x4 x5;clear hnear;obtain⟨q,hq⟩:∃q,p*2=q:=⟨_,rfl⟩;have hqk:pw (k+1)=q:=by rw[<-hq,<-HPK.out];show(32*2^(k+1):Int)=32*2^k*2;rw[ayH];omega
   have hwq:wrap64 (p*2)=q:=by rw[hq];unfold wrap64;have:=HPP.out;omega
   have hwq':IntKind.i64.wrap (p*2)=q:=by rw[hq];exact wrap_i64 (by have:=HPP.out;omega)
   have HQK:=hdd hqk;have HQ:=hdd hq;clear hq hqk;go_wp2
   go_roundw
   case rel=>exact⟨k+1,HKK.out,by rw[HQK.out],HB9⟩
   case measure=>have:=HQ.out;have:=HPP.out;simp[intOf];omega
end
section
open Go.RowKit Go.Maps
variable{i:Int}{ns:List Nd}{B b g:Nat}{n:Nd}{w':World}
def RetV(w:World)(v:Value)(e:Ending)(w':World):Prop:=e=.returned v/\Below w.heap.size w w'
theorem vK{w:World}:Calls Tryz.prog 147 #[.agg #[.int .i64 n.kind,.float .f64 n.val,.int .i64 n.a,.int .i64 n.b]] w (RetV w (keyV n)):=by
 obtain⟨kind,val,na,nb⟩:=n;unfold keyV;obtain⟨w1,hw1,hb1,hs1,b1⟩:=pro1 w (.cells #[.int .i64 kind,.float .f64 val,.int .i64 na,.int .i64 nb] 87);obtain⟨w2,hw2,hb2,hs2,b2⟩:=pro1 w1 (.cells #[.int .i64 0,.int .i64 0,.int .i64 0,.int .u64 0] 218);obtain⟨c0,c1,c2,c3⟩:=bM (hbl b1 hb2);obtain⟨d0,d1,d2,d3⟩:=bM b2;obtain⟨f0,f1,f2,f3⟩:=af7 b2;have HFF:=hdd (set4 b2 (.int .i64 kind) (.int .i64 na) (.int .i64 nb) (.int .u64 (val:Int)));have hk:w.heap.size<=w1.heap.size:=hb1.size;have HB:=hdd ((((((aA hb1 hb2).setCell (p:=⟨w1.heap.size,0,none⟩) hk (.int .i64 kind)).setCell (p:=⟨w1.heap.size,1,none⟩) hk (.int .i64 na)).setCell (p:=⟨w1.heap.size,2,none⟩) hk (.int .i64 nb)).setCell (p:=⟨w1.heap.size,3,none⟩) hk (.int .u64 (val:Int))).drew);have hne:w.heap.size≠w1.heap.size:=by omega
 have hbits:=dY val;clear hb1 hb2 hs1 hs2 b1 b2 hk;go_enter Tryz.func147,Tryz.ntmps147
 go_wp2
 go_region
 all_goals
  go_wp2;obtain⟨x0,x1,x2,x3⟩:=bM HFF.out;refine bodyPost_ret (v:=.agg #[_,_,_,_]) (by simp[results,Tryz.results147,go_sem,x0,x1,x2,x3];first|exact⟨rfl,rfl,rfl,rfl⟩|rfl) rfl ?_;exact⟨rfl,HB.out⟩
theorem rC{w:World}{v:Int}(h:0<=v/\v<=65535):Calls Tryz.prog 227 #[.int .i64 v] w (RetV w (.bool true)):=by
 have h1:=h.1;have h2:=h.2;go_enter Tryz.func227,Tryz.ntmps227
 go_wp2;go_ret;exact⟨rfl,Below.refl _ _⟩
def NdOk(n:Nd):Prop:=n.kind=0/\n.a=0/\n.b=0\/(n.kind=1\/n.kind=2\/n.kind=3\/n.kind=4)/\n.val=0/\(0<=n.a/\n.a<=65535)/\(0<=n.b/\n.b<=65535)\/n.kind=5/\n.val=0/\(0<=n.a/\n.a<=65535)/\n.b=0
theorem adT{w:World}(h:NdOk n):Calls Tryz.prog 195 #[.agg #[.int .i64 n.kind,.float .f64 n.val,.int .i64 n.a,.int .i64 n.b]] w (RetV w (.bool true)):=by
 obtain⟨kind,val,na,nb⟩:=n;obtain⟨w1,hw1,hb1,hs1,b1⟩:=pro1 w (.cells #[.int .i64 kind,.float .f64 val,.int .i64 na,.int .i64 nb] 87);obtain⟨c0,c1,c2,c3⟩:=bM b1;have HB:=hdd hb1;have hbits:=dY;clear hb1 hs1 b1;rcases h with ⟨h1,h2,h3⟩|⟨h1,h2,h3,h4⟩|⟨h1,h2,h3,h4⟩
 . simp only at h1 h2 h3
   subst h1;subst h2;subst h3;go_enter Tryz.func195,Tryz.ntmps195
   go_wp2;go_ret;exact⟨rfl,HB.out⟩
 . simp only at h1 h2 h3 h4
   subst h2;have HA:Hid (∀w',Calls Tryz.prog 227 #[.int .i64 na] w' (RetV w' (.bool true))):=hdd fun w'=>rC h3;have HB2:Hid (∀w',Calls Tryz.prog 227 #[.int .i64 nb] w' (RetV w' (.bool true))):=hdd fun w'=>rC h4;clear h3 h4;rcases h1 with rfl|rfl|rfl|rfl
   all_goals
    go_enter Tryz.func195,Tryz.ntmps195
    go_wp2_with fail
    refine(HA.out _).mono ?_;rintro e w3⟨rfl,hb3⟩;replace c0:=cbl c0 hb3;replace c1:=cbl c1 hb3;replace c2:=cbl c2 hb3;replace c3:=cbl c3 hb3;have HB3:=hdd (aA HB.out hb3);clear hb3;go_wp2_with fail
    refine(HB2.out _).mono ?_;rintro e w4⟨rfl,hb4⟩;have HB4:=hdd (aA HB3.out hb4);clear hb4;go_wp2;go_ret;exact⟨rfl,HB4.out⟩
 . simp only at h1 h2 h3 h4
   subst h2;subst h1;subst h4;have HA:Hid (∀w',Calls Tryz.prog 227 #[.int .i64 na] w' (RetV w' (.bool true))):=hdd fun w'=>rC h3;have HB2:Hid (∀w',Calls Tryz.prog 227 #[.int .i64 0] w' (RetV w' (.bool true))):=hdd fun w'=>rC (by omega);clear h3;go_enter Tryz.func195,Tryz.ntmps195
   go_wp2_with fail
   refine(HA.out _).mono ?_;rintro e w3⟨rfl,hb3⟩;replace c0:=cbl c0 hb3;replace c1:=cbl c1 hb3;replace c2:=cbl c2 hb3;replace c3:=cbl c3 hb3;have HB3:=hdd (aA HB.out hb3);clear hb3;go_wp2_with fail
   refine(HB2.out _).mono ?_;rintro e w4⟨rfl,hb4⟩;have HB4:=hdd (aA HB3.out hb4);clear hb4;go_wp2;go_ret;exact⟨rfl,HB4.out⟩
theorem ab7{w:World}(hd:DagP w g ns)(h0:0<=i)(hi:i<ns.length):
 Calls Tryz.prog 99 #[.pointer (some ⟨g,0,none⟩),.int .i64 i] w (RetV w (.bool true)):=by
 have:=wZ (i:=i.toNat) hd (by omega);rw[Int.toNat_of_nonneg h0]at this;exact this.mono fun e w' h=>⟨h.1,h.2▸Below.refl _ _⟩
def NdIn(n:Nd)(len:Nat):Prop:=NdOk n/\(n.kind=0->fin n.val)/\(n.kind≠0->(0<=n.a/\n.a<len))/\(n.kind≠0->n.kind≠5->(0<=n.b/\n.b<len))
theorem vL{w:World}(hd:DagP w g ns)(hn:NdIn n ns.length)(hv:n.val<18446744073709551616):
 Calls Tryz.prog 146 #[.pointer (some ⟨g,0,none⟩),.agg #[.int .i64 n.kind,.float .f64 n.val,.int .i64 n.a,.int .i64 n.b]] w (RetV w (.bool true)):=by
 obtain⟨kind,val,na,nb⟩:=n;obtain⟨ok,hf,ha,hb⟩:=hn;simp only at hf ha hb hv;obtain⟨w1,hw1,hb1,hs1,b1⟩:=pro1 w (.cells #[.int .i64 kind,.float .f64 val,.int .i64 na,.int .i64 nb] 87);obtain⟨c0,c1,c2,c3⟩:=bM b1;have HV:=hdd (adT (w:=w1) ok);have HB:=hdd hb1;have hk:kind=0\/kind=5\/(kind=1\/kind=2\/kind=3\/kind=4):=by
  rcases ok with h|h|h
  . exact Or.inl h.1
  . exact Or.inr (Or.inr h.1)
  . exact Or.inr (Or.inl h.1)
 have HD:=hdd hd;have HHA:Hid (kind≠0->∀w',Below w.heap.size w w'->Calls Tryz.prog 99 #[.pointer (some ⟨g,0,none⟩),.int .i64 na] w' (RetV w' (.bool true))):=hdd fun h w' hb=>ab7 (hd.below hb) (ha h).1 (ha h).2;have HHB:Hid (kind≠0->kind≠5->∀w',Below w.heap.size w w'->Calls Tryz.prog 99 #[.pointer (some ⟨g,0,none⟩),.int .i64 nb] w' (RetV w' (.bool true))):=hdd fun h h5 w' hk=>ab7 (hd.below hk) (hb h h5).1 (hb h h5).2;have HF:Hid (kind=0->∀w',Calls Tryz.prog 172 #[.float .f64 val] w' (RetB w' true)):=hdd fun h w'=>by have:=iY (w:=w') hv;rwa[decide_eq_true (hf h)]at this
 clear hd ha hb hf hb1 hs1 b1 ok hv;rcases hk with rfl|rfl|rfl|rfl|rfl|rfl
 all_goals
  go_enter Tryz.func146,Tryz.ntmps146
  go_wp2_with fail
  refine HV.out.mono ?_;rintro e w3⟨rfl,hb3⟩;replace c0:=cbl c0 hb3;replace c1:=cbl c1 hb3;replace c2:=cbl c2 hb3;replace c3:=cbl c3 hb3;have HB3:=hdd (aA HB.out hb3);clear hb3;go_wp2_with fail
 . refine(HF.out trivial _).mono ?_
   rintro e w4⟨rfl,hw⟩;obtain rfl:=hw;go_wp2;go_ret;exact⟨rfl,HB3.out⟩
 . refine(HHA.out (by decide) _ HB3.out).mono ?_
   rintro e w4⟨rfl,hb4⟩;have HB4:=hdd (aA HB3.out hb4);clear hb4;go_wp2;go_ret;exact⟨rfl,HB4.out⟩
 all_goals
  refine(HHA.out (by decide) _ HB3.out).mono ?_;rintro e w4⟨rfl,hb4⟩;replace c0:=cbl c0 hb4;replace c1:=cbl c1 hb4;replace c2:=cbl c2 hb4;replace c3:=cbl c3 hb4;have HB4:=hdd (aA HB3.out hb4);clear hb4;go_wp2_with fail
  refine(HHB.out (by decide) (by decide) _ HB4.out).mono ?_;rintro e w5⟨rfl,hb5⟩;have HB5:=hdd (aA HB4.out hb5);clear hb5;go_wp2;go_ret;exact⟨rfl,HB5.out⟩
def DagB(w:World)(g b:Nat):Prop:=b=g\/∃v mo T,w.heap[g]? =some (.cells #[v,.map mo] T (0,0))/\(v.ownBlock=some b\/mo=some b)
def DS(g:Nat)(w w':World):Prop:=Fr (DagB w g) w w'/\∀b,b<w.heap.size->¬DagB w g b->¬DagB w' g b
theorem DS.refl (g:Nat)(w:World):DS g w w:=⟨Fr.of_below (Below.refl _ _),fun _ _ h=>h⟩
theorem DS.size {w:World}(h:DS g w w'):w.heap.size<=w'.heap.size:=h.1.size
theorem DS.trans {a b c:World}(h:DS g a b)(k:DS g b c):DS g a c:=
 ⟨⟨k.1.os.trans h.1.os,k.1.tape.trans h.1.tape,k.1.output.trans h.1.output,Nat.le_trans h.1.size k.1.size,fun i hi hn=>(k.1.block i (Nat.lt_of_lt_of_le hi h.1.size) (h.2 i hi hn)).trans (h.1.block i hi hn)⟩,
   fun i hi hn=>k.2 i (Nat.lt_of_lt_of_le hi h.1.size) (h.2 i hi hn)⟩
theorem DagB.congr {w:World}(e:w'.heap[g]? =w.heap[g]?):DagB w' g b↔DagB w g b:=by unfold DagB;rw[e]
theorem DS.of_below {w:World}(hg:g<w.heap.size)(h:Below w.heap.size w w'):DS g w w':=
 ⟨Fr.of_below h,fun b _ hn hd=>hn ((DagB.congr (h.block g hg)).1 hd)⟩
theorem DS.heap {w:World}(h:DS g w w')(hb:b<w.heap.size)(hn:¬DagB w g b):w'.heap[b]? =w.heap[b]? :=h.1.block b hb hn
theorem DS.cell {w:World}{a:Addr}{v:Value}(h:DS g w w')(hc:w.cell? a=some v)(hn:¬DagB w g a.block):w'.cell? a=some v:=
 (World.cell?_of_block (h.1.block a.block (World.block_lt_of_cell? w a hc) hn)).trans hc
theorem DagP.dagB {w:World}(h:DagP w g ns)(hb:DagB w g b):b<w.heap.size:=by
 have hm:∃v mo,w.heap[g]? =some (.cells #[v,.map mo] 65 (0,0))/\w.ownsRow 0 87 4 v ns.length (bS ns)/\∀mb,mo=some mb->mb<w.heap.size:=by
  rcases h with ⟨v,mb,m,h1,h2,h3,-⟩|⟨v,h1,h2,-⟩
  . exact⟨v,_,h1,h2,fun b hb=>by cases hb;exact h3.lt⟩
  . exact⟨v,_,h1,h2,fun b hb=>by cases hb⟩
 obtain⟨v,mo,h1,h2,h3⟩:=hm;rcases hb with rfl|⟨v',mo',T,e,hb⟩
 . exact aC h1
 . rw[h1]at e
   simp only[Option.some.injEq,Obj.cells.injEq,Array.mk.injEq,List.cons.injEq,Value.map.injEq,and_true]at e;obtain⟨⟨rfl,rfl⟩,-⟩:=e;rcases hb with hb|hb
   . exact iF h2 b hb
   . exact h3 b hb
def ab8(B g:Nat)(w:World):Prop:=∀b,DagB w g b->B<=b
theorem DS.hi {w:World}(h:DS g w w')(hB:B<=w.heap.size)(hh:ab8 B g w):ab8 B g w':=fun b hb=>by
 rcases Nat.lt_or_ge b B with hlt|hge
 . exact absurd hb (h.2 b (by omega) (fun hd=>by have:=hh b hd;omega))
 . exact hge
theorem DS.below {w:World}(h:DS g w w')(hB:B<=w.heap.size)(hh:ab8 B g w):Below B w w':=
 h.1.below hB hh
section
variable{P:Program}(w:World){ops:Array Oper}{o:Oper}{a:Act}{K:Act->World->Prop}{Q:Exit->Act->World->Prop}{E:Prop}
theorem agF(hg:o.guard=none)(mo x v:Operand)(t:TypeId)(hop:o.op=Op.mapUpdate t mo x v)
 (k e:TypeId) (K':Keyed P k) (ht:P.underlying t=some (.map k e)) (b:Nat) (m m':Value->Option Value)
 (hm:a.eval mo=.map (some b)) (hown:MapP P k w b m) (key val:Value) (kl:Lit) (hx:a.eval x=key) (hv:a.eval v=val) (hkey:keyOf P k key=some kl) (hu:Upd m key (some val) m')
 (hK:∀w',Hid (MapP P k w' b m')->w.grownBy w' (some b)->w'.heap.size=w.heap.size->K (a.put o.dst undef) w'):if Region.wanted o (yielded ops a.tmps)=true then Oper.wp P o a w K Q else E:=by
 have hw:Region.wanted o (yielded ops a.tmps)=true:=by simp[Region.wanted,hg]
 rw[if_pos hw];obtain⟨w',hrun,r1,r2,r3⟩:=hown.store K' ht hkey hu;unfold Oper.wp;simp[execOp,hop,hm,hx,hv,hrun,Result.andThen];exact hK w' (hdd r1) r2 r3
end
theorem xF:laidOutB Tryz.prog=true:=by kernel_rfl
theorem ah6:(218:TypeId)<Tryz.prog.types.size:=of_decide_eq_true (by kernel_rfl)
theorem agG:(match Tryz.prog.underlying 218 with|some (.array _ _)|some (.struct _)=>true|_=>false)=true:=by kernel_rfl
theorem mJ:Keyed Tryz.prog 218:=Keyed.of_law (deep_law_laid xF (m:=3) (by omega) ah6 (by kernel_rfl) agG)
theorem mK:Tryz.prog.underlying 63=some (.map 218 3):=by kernel_rfl
theorem vM:Tryz.prog.underlying 27=some (.slice 87):=by kernel_rfl
theorem vN:(Tryz.prog.info? 87).map (fun i=>(i.zero,i.size,i.bytes))=some (some (.agg #[.int .i64 0,.float .f64 0,.int .i64 0,.int .i64 0]),4,32):=by kernel_rfl
theorem zK:Tryz.prog.keyType 218=true:=by kernel_rfl
theorem vO:Tryz.prog.cellsOf 218=4:=by kernel_rfl
theorem adU:Tryz.prog.cellsOf 3=1:=by kernel_rfl
theorem adV:Tryz.prog.cellsOf 149=1:=by kernel_rfl
theorem ah7:Tryz.prog.underlying 149=some (.int .u64):=by kernel_rfl
theorem aa6:∃d,Tryz.prog.types.size=d+2:=⟨Tryz.prog.types.size-2,by
 have h:decide (2<=Tryz.prog.types.size)=true:=by kernel_rfl
 have:=of_decide_eq_true h;omega⟩
def Sm64(i:Int):Prop:=-9223372036854775808<=i/\i<9223372036854775808
theorem wf_i64(h:Sm64 i):(Lit.int .i64 i).wf=true:=by
 have e1:IntKind.i64.min=-9223372036854775808:=rfl;have e2:IntKind.i64.max=9223372036854775807:=rfl;unfold Sm64 at h;simp[Lit.wf,e1,e2];omega
theorem wf_u64{n:Nat}(h:n<18446744073709551616):(Lit.int .u64 (n:Int)).wf=true:=by
 have e1:IntKind.u64.min=0:=rfl;have e2:IntKind.u64.max=18446744073709551615:=rfl;simp[Lit.wf,e1,e2];omega
theorem zL(hk:Sm64 n.kind)(ha:Sm64 n.a)(hb:Sm64 n.b)(hv:n.val<18446744073709551616):∃kl,keyOf Tryz.prog 218 (keyV n)=some kl:=by
 obtain⟨d,hd⟩:=aa6;have hu:=Tryz.underlying218;have hf:(keyV n).formed Tryz.prog 218=true:=by simp[Value.formed,hu,vO,keyV]
 have hl:∃ls,Tryz.prog.keyLits (Tryz.prog.types.size+1) 218 (keyV n).cells.toList=some ls:=by
  rw[hd];exact⟨_,by simp[Program.keyLits,hu,keyV,Value.cells,vO,adU,adV,xA,ah7,wf_i64 hk,wf_i64 ha,wf_i64 hb,wf_u64 hv];rfl⟩
 obtain⟨ls,hl⟩:=hl;exact⟨.string (keyBytes ls),by rw[keyOf,hu];simp only[zK,hf,hl,Bool.and_self,if_true,Option.map_some]⟩
theorem agH{n':Nd}(h:keyV n=keyV n'):n=n':=by
 obtain⟨k,v,a,b⟩:=n;obtain⟨k',v',a',b'⟩:=n';simp only[keyV,Value.agg.injEq,Array.mk.injEq,List.cons.injEq,Value.int.injEq,true_and,and_true]at h;obtain⟨rfl,rfl,rfl,hv⟩:=h;have:v=v':=by omega
 rw[this]
end
end Go.Proofs.YtkadpnljocflaaaGreatDoor
