/- A part of the proof: contracts of functions and plain laws (SrA, SrB, BdA, BdB, BdC). -/
import Derived.Test.YtigoiiekebccnaaGreatDoorK30
set_option linter.unusedVariables false
set_option linter.unusedSimpArgs false
set_option linter.unnecessarySimpa false
set_option maxHeartbeats 25600000
set_option maxRecDepth 100000
namespace Go.Proofs.YtigoiiekebccnaaGreatDoor
section
open Go.RowKit Go.Maps
instance(x:Dy)(sep:Int):Decidable (gK x sep):=by unfold gK;infer_instance
theorem acJ{p:Nat->Prop}{v:Value}{d:Dy}{sep:Int}{w:World}(hx:DyP p w v d)(hs:SmQ d)(hsp:0<=sep/\sep<=1099511627776):Calls Tryz.prog 298 #[v,.int .i64 sep] w (RetW w (decide (gK d sep))):=by
 obtain⟨b,A,n,c,rfl,h⟩:=hx;obtain⟨w1,hw1,hb1,hs1,b1⟩:=pro1 w (.cells #[Value.bool b,.slice A n c,.int .i64 d.exp] 233);have HB:=hdd hb1;obtain⟨c0,c1,c2,-,-,-⟩:=cells3 b1;have D1:Hid (DyP p w1 (.agg #[.bool b,.slice A n c,.int .i64 d.exp]) d):=hdd ⟨_,_,_,_,rfl,h.below hb1⟩;have HSM:=hdd hs;have hwr:IntKind.i64.wrap (-sep)=-sep:=wrap_i64 (by omega);clear h hb1 b1 hs1 hs;go_enter Tryz.func298,Tryz.ntmps298
 go_wp2_with fail
 refine(cO D1.out).mono ?_;rintro r w3⟨rfl,hb⟩;replace c0:=cbl c0 hb;replace c1:=cbl c1 hb;replace c2:=cbl c2 hb;replace D1:=hdd (D1.out.below hb);replace HB:=hdd (HB.out.trans (hb.mono HB.out.size));clear hb hw1;by_cases hz:d.man<=0
 . have HF:Hid (RetW w (decide (gK d sep)) (.returned (.bool true)) w3):=hdd ⟨by rw[show decide (gK d sep)=true from decide_eq_true (Or.inl hz)],HB.out⟩
   have hsg:d.man.sign<=0:=by
    rcases Int.lt_or_eq_of_le hz with h|h
    . rw[Int.sign_eq_neg_one_iff_neg.2 h];decide
    . rw[h];decide
   generalize decide (gK d sep)=res at*;go_wp2;go_ret;exact HF.out
 . have hsg:¬(d.man.sign<=0):=by
    rw[Int.sign_eq_one_iff_pos.2 (by omega)];decide
   have hsg2:0<d.man:=by omega
   go_wp2_with fail
   refine(qD D1.out (by have:=HSM.out.2;omega)).mono ?_;rintro r w4⟨rfl,hb⟩;have HF:Hid (RetW w (decide (gK d sep)) (.returned (.bool (decide (d.man<=0)||decide (topD d<=-sep)))) w4):=hdd ⟨by
    rw[show decide (gK d sep)=(decide (d.man<=0)||decide (topD d<=-sep)) from by
     by_cases h1:d.man<=0<;>by_cases h2:topD d<=-sep<;>simp[gK,h1,h2]],HB.out.trans (hb.mono HB.out.size)⟩
   generalize decide (gK d sep)=res at*;clear hb;generalize topD d=T at*;go_wp2;go_ret;exact HF.out
end
section
open Go.RowKit Go.Maps
open Re (rat)
open Nat renaming pow_le_pow_right->bhH,le_refl->bhI,lt_or_ge->bhJ
variable{p:Int}{g j k:Nat}{w:World}
theorem an1{T:TypeId}{a b c:Value}(h:w.heap[g]? =some (.cells #[a,b,c] T (0,0)))(d e:Value):
 (w.setCell ⟨g,0,none⟩ d).heap[g]? =some (.cells #[d,b,c] T (0,0))/\(w.setCell ⟨g,1,none⟩ e).heap[g]? =some (.cells #[a,e,c] T (0,0)):=by
 have hg:g<w.heap.size:=(Array.getElem?_eq_some_iff.1 h).1;have h':w.heap[g]=.cells #[a,b,c] T (0,0):=(Array.getElem?_eq_some_iff.1 h).2;constructor<;>simp[World.setCell,hg,Array.getElem_modify,h']
def an2(w:World)(s:Int)(e:Ending)(w':World):Prop:=Below w.heap.size w w'/\∃v,e=.returned (.tuple #[.int .i64 s,v,.bool true])
def Rec(w0 w:World)(A B:Nat)(sep n:Int):Prop:=Below w0.heap.size w0 w/\w0.heap.size<=A/\w0.heap.size<=B/\A≠B/\w.heap[A]? =some (.cells #[.int .i64 0,.int .i64 0,.int .i64 0] 349 (0,0))/\
 ∃b:Int,w.heap[B]? =some (.cells #[.int .i64 n,.int .i64 b,.int .i64 sep] 349 (0,0))
structure Fnd(e:Ex)(v:Re)(sep:Int)(j:Nat):Prop where
 den:DenR e v
 fin:FinE e
 size:bR (32*2^j) e<=4000000
 hj:j<=11
 hit:∃b M W,fH e (32*2^j)=some b/\Acc M W b/\sep+1<=W
 far:v≠0->rat (p2 (-sep+1))<=Re.ab v
theorem afK(h:k<=j)(hj:j<=11):(1:Int)<=32*2^k/\(32*2^k:Int)<=32*2^j/\(32*2^j:Int)<=65536:=by
 have h1:2^k<=2^j:=bhH (by omega) h;have h2:2^j<=2^11:=bhH (by omega) hj;have h3:=Nat.two_pow_pos k;have e1:((2:Int)^k)=((2^k:Nat):Int):=by simp
 have e2:((2:Int)^j)=((2^j:Nat):Int):=by simp
 rw[e1,e2];have:(2:Nat)^11=2048:=by decide
 omega
def Sq(j:Nat)(p:Int)(k:Nat):Prop:=1<=p/\p<=32*2^j/\((2^k:Nat):Int)<=p/\(p=((32*2^k:Nat):Int)\/j=11)
theorem afL(j:Nat):(32*2^j:Int)=((32*2^j:Nat):Int):=by simp
theorem Sq.few (h:Sq j p k)(hj:j<=11):k<=16:=by
 have h1:=(afK (bhI j) hj).2.2;have h2:2^k<=2^16:=by have:=h.2.1;have:=h.2.2.1;have:(2:Nat)^16=65536:=(by decide);omega
 exact(Nat.pow_le_pow_iff_right (by decide)).1 h2
theorem Sq.start (hj:j<=11):Sq j 32 0:=by
 have h:=(afK (Nat.zero_le j) hj).2.1;exact⟨by decide,by simpa using h,by decide,Or.inl rfl⟩
theorem Sq.next (h:Sq j p k)(hn:p≠32*2^j)(hj:j<=11):p<65536/\Sq j (min (2*p) 65536) (k+1):=by
 have h3:=(afK (bhI j) hj).2.2;have hk:=h.few hj;obtain⟨h0,h1,h2,h4⟩:=h;have hlt:p<65536:=by omega
 refine⟨hlt,?_⟩;have e2:(2:Nat)^(k+1)=2*2^k:=by rw[Nat.pow_succ,Nat.mul_comm]
 have hk2:k+1<=16:=by
  rcases bhJ k 16 with h|h
  . exact h
  . obtain rfl:k=16:=by omega
    have:(2:Nat)^16=65536:=by decide
    omega
 have h5:2^(k+1)<=2^16:=bhH (by decide) hk2;have e16:(2:Nat)^16=65536:=by decide
 rcases h4 with h4|rfl
 . rw[afL]at hn h1 h3
   have hkj:k<j:=by
    rcases bhJ k j with h|h
    . exact h
    . have:2^j<=2^k:=bhH (by decide) h
      omega
   have h6:2^(k+1)<=2^j:=bhH (by decide) hkj;have hm:min (2*p) 65536=2*p:=by omega
   rw[hm];exact⟨by omega,by rw[afL];omega,by omega,Or.inl (by omega)⟩
 . have e11:(32*2^11:Int)=65536:=by decide
   exact⟨by omega,by omega,by omega,Or.inr rfl⟩
theorem acK{root:Nat}{sep:Int}{ns:List Nd}{e:Ex}{v:Re}(hd:DagP w g ns)(ok:OkNs ns)(hlf:gT ns)(hro:gW ns)(hI:Is ns e root)(hF:Fnd e v sep j)(hT:Tab w)(hsp:0<=sep/\sep<=1099511627776){st:Int}(hst:Sq j st 0):
 Calls Tryz.prog 254 #[.pointer (some ⟨g,0,none⟩),.int .i64 (root:Int),.int .i64 st,.int .i64 sep,.bool true] w (an2 w (Re.sgn v)):=by
 obtain⟨w1,hw1,hb1,hs1,b1⟩:=pro1 w (.cells #[.int .i64 0,.int .i64 0,.int .i64 0] 349);obtain⟨w2,hw2,hb2,hs2,b2⟩:=pro1 w1 (.cells #[.int .i64 0,.int .i64 0,.int .i64 0] 349);obtain⟨a0,a1,a2,a3,a4,a5⟩:=cells3 b2;have g1:=set3 b2 (.int .i64 0) (.int .i64 0) (.int .i64 sep);have h12:=(bX (w:=w2) (g:=w1.heap.size) (i:=w.heap.size) (by omega) (.int .i64 0) (.int .i64 0) (.int .i64 sep)).trans (hbl b1 hb2);have hbb:=(((aA hb1 hb2).setCell (p:=⟨w1.heap.size,0,none⟩) (by simp;omega) (.int .i64 0)).setCell (p:=⟨w1.heap.size,1,none⟩) (by simp;omega) (.int .i64 0)).setCell (p:=⟨w1.heap.size,2,none⟩) (by simp;omega) (.int .i64 sep);have HREC:Rec w (((w2.setCell ⟨w1.heap.size,0,none⟩ (.int .i64 0)).setCell ⟨w1.heap.size,1,none⟩ (.int .i64 0)).setCell ⟨w1.heap.size,2,none⟩ (.int .i64 sep)) w.heap.size w1.heap.size sep 0:=⟨hbb,bhI _,by omega,by omega,h12,0,g1⟩;generalize hw3:((w2.setCell ⟨w1.heap.size,0,none⟩ (.int .i64 0)).setCell ⟨w1.heap.size,1,none⟩ (.int .i64 0)).setCell ⟨w1.heap.size,2,none⟩ (.int .i64 sep)=w3 at HREC
 have HR3:=hdd HREC;have HD:=hdd hd;have HOK:=hdd ok;have HLF:=hdd hlf;have HRO:=hdd hro;have HI:=hdd hI;have HF:=hdd hF;have HT:=hdd hT;have HSP:=hdd hsp;have HST:=hdd hst;clear HREC hbb h12 g1 b1 b2 hb1 hb2 hs1 hs2 hd ok hlf hro hI hF hT hsp hst;go_enter Tryz.func254,Tryz.ntmps254
 go_wp2_with fail
 clear a0 a1 a2 a3 a4 a5 hw1 hw2 hw3
 go_loopw [14] (fun i wr=>∃(p:Int) (k:Nat),i=.int .i64 p/\Hid (Sq j p k)/\Hid (Rec w wr w.heap.size w1.heap.size sep (k:Int))) (fun i _=>(65536-intOf i).toNat)
 case atStart=>exact⟨st,0,rfl,HST,HR3⟩
 case round=>
  obtain⟨p,k,rfl,HSQ,HR⟩:=hrel;clear HR3 HST;obtain⟨q1,q2,q3,q4,q5,b,q6⟩:=HR.out;obtain⟨n,hn⟩:∃n:Int,(k:Int)=n:=⟨_,rfl⟩;rw[hn]at q6;have hn9:0<=n/\n<=1000:=by have:=HSQ.out.few HF.out.hj;omega
  have hp1:=HSQ.out.1;have hp2:=HSQ.out.2.1;have hp3:=(afK (bhI j) HF.out.hj).2.2;obtain⟨c0,c1,c2,c3,c4,c5⟩:=cells3 q6;have hwn:IntKind.i64.wrap (n+1)=n+1:=wrap_i64 (by omega);obtain⟨w4,hw4⟩:∃w4,wr.setCell ⟨w1.heap.size,0,none⟩ (.int .i64 (n+1))=w4:=⟨_,rfl⟩;have r1:w4.heap[w1.heap.size]? =some (.cells #[.int .i64 (n+1),.int .i64 b,.int .i64 sep] 349 (0,0)):=by rw[<-hw4];exact(an1 q6 _ (.int .i64 0)).1
  obtain⟨d0,d1,d2,d3,d4,d5⟩:=cells3 r1;obtain⟨w5,hw5⟩:∃w5,w4.setCell ⟨w1.heap.size,1,none⟩ (.int .i64 p)=w5:=⟨_,rfl⟩;have r2:w5.heap[w1.heap.size]? =some (.cells #[.int .i64 (n+1),.int .i64 p,.int .i64 sep] 349 (0,0)):=by rw[<-hw5];exact(an1 r1 (.int .i64 0) _).2
  have r3:w5.heap[w.heap.size]? =some (.cells #[.int .i64 0,.int .i64 0,.int .i64 0] 349 (0,0)):=by
   rw[<-hw5,<-hw4,Below.heap_setCell _ _ _ _ (by simp;omega),Below.heap_setCell _ _ _ _ (by simp;omega)];exact q5
  have r4:Below w.heap.size w w5:=by rw[<-hw5,<-hw4];exact(q1.setCell (by simp;omega) _).setCell (by simp;omega) _
  have hpq:(1:Int)<=p/\p<=65536:=by omega
  have hgb:=apL (ns:=ns) (P:=p) HF.out.fin HF.out.den (Int.le_trans (yL (by omega) hp2 e) HF.out.size) hpq;have HNE:=hdd (ahO (HD.out.below r4) HOK.out HLF.out HRO.out hgb ⟨e,SubE.refl e,HI.out⟩ HI.out.lt (HT.out.below r4) hpq);rw[fF HI.out]at HNE;have HA:=hdd r3;have HBK:=hdd r2;have HB5:=hdd r4;have HNN:=hdd hn;have HPP:=hdd hpq;have HQ4:=hdd q4;have HQ3:=hdd q3;clear q1 q2 q3 q4 q5 q6 r1 r2 r3 r4 hgb HR hn hp1 hp2 hp3 hn9;go_wp2_with fail
  refine HNE.out.mono ?_;rintro e' w6 hret
  cases hnear:fH e p with
  |none=>
   rw[hnear]at hret;obtain⟨hb6,rfl⟩:=hret;have HLT:Hid (p≠32*2^j):=hdd (fun h=>by
    obtain⟨b',M,W,z1,-,-⟩:=HF.out.hit;rw[<-h,hnear]at z1;cases z1)
   obtain⟨w7,hw7,⟨u0,u1,u2,u3,u4,u5⟩,⟨s0,s1,s2,s3,s4,s5⟩,w8,hw8,hb8,hs8⟩:=new6 w6 235 (.bool false) (.slice none 0 0) (.int .i64 0) (.bool false) (.slice none 0 0) (.int .i64 0) (.bool false) (.slice none 0 0) (.int .i64 0) (.bool false) (.slice none 0 0) (.int .i64 0);have HB8:=hdd (aA hb6 hb8);clear hb6 hb8 hs8 hnear c0 c1 c2 c3 c4 c5 d0 d1 d2 d3 d4 d5;have hnx:=HSQ.out.next HLT.out HF.out.hj;have hge:¬((65536:Int)<=p):=by have:=hnx.1;omega
   have hw2p:IntKind.i64.wrap (2*p)=2*p:=wrap_i64 (by have:=HPP.out;omega);obtain⟨q,hmin⟩:∃q,min (2*p) 65536=q:=⟨_,rfl⟩;rw[hmin]at hnx;have hqp:p<q/\q<=65536:=by have:=HPP.out;omega
   have HQP:=hdd hqp;have HNX:=hdd hnx;have HRN:Hid (Rec w w8 w.heap.size w1.heap.size sep ((k+1:Nat):Int)):=hdd ⟨HB5.out.trans (HB8.out.mono HB5.out.size),bhI _,HQ3.out,HQ4.out,hbl HA.out HB8.out,p,by have h9:=hbl HBK.out HB8.out;rw[show((k+1:Nat):Int)=n+1 from by have:=HNN.out;omega];exact h9⟩;clear hnx hqp;go_wp2
   go_roundw
   case rel=>exact⟨q,k+1,rfl,hdd HNX.out.2,HRN⟩
   case measure=>have:=HQP.out;have:=HPP.out;simp[intOf];omega
  |some bb=>
   rw[hnear]at hret;obtain⟨hb6,vb,rfl,hbal⟩:=hret;obtain⟨e1,A1,n1,k1,e2,A2,n2,k2,rfl,i1,i2⟩:=id hbal;obtain⟨w7,hw7,⟨u0,u1,u2,u3,u4,u5⟩,⟨s0,s1,s2,s3,s4,s5⟩,w8,hw8,hb8,hs8⟩:=new6 w6 235 (.bool false) (.slice none 0 0) (.int .i64 0) (.bool false) (.slice none 0 0) (.int .i64 0) (.bool e1) (.slice A1 n1 k1) (.int .i64 bb.lo.exp) (.bool e2) (.slice A2 n2 k2) (.int .i64 bb.hi.exp);obtain⟨x0,x1,x2,x3,x4,x5⟩:=aG hs8;have HX8:=hdd hs8;have HSG:=hdd (oI (w:=w8) (hbal.below hb8));have HB8:=hdd (aA hb6 hb8);have HI1:=hdd (i1.below hb8);have HI2:=hdd (i2.below hb8);have HIN:=hdd (mJ HPP.out.1 HF.out.den hnear);have hsz:=alB (by have:=HPP.out;omega) (Int.le_trans (yL HPP.out.1 HSQ.out.2.1 e) HF.out.size) (wM HPP.out.1 HF.out.fin hnear);have HSZ:=hdd hsz;have HNR:=hdd hnear;clear hb6 hb8 hs8 hbal i1 i2 hnear hsz c0 c1 c2 c3 c4 c5 d0 d1 d2 d3 d4 d5;go_wp2_with fail
   refine HSG.out.mono ?_;rintro e' w9⟨rfl,hb9⟩;have HB9:=hdd (aA HB8.out hb9);have HX9:=hdd (hbl HX8.out hb9);replace HI1:=hdd (HI1.out.below hb9);replace HI2:=hdd (HI2.out.below hb9);clear hb9 x0 x1 x2 x3 x4 x5 u0 u1 u2 u3 u4 u5 s0 s1 s2 s3 s4 s5 hw7 hw8 HSG
   cases hok:sgOk bb
   . obtain⟨x0,x1,x2,x3,x4,x5⟩:=aG HX9.out
     have HNT:=hdd (vT (d:=bb.lo) ⟨_,_,_,_,rfl,HI1.out⟩ (HT.out.below (HB5.out.trans (HB9.out.mono HB5.out.size))) (by have:=HSZ.out.1.1.1.1;omega) (by have:=HSZ.out.1.1.1.2;omega));generalize sgB bb=sg0 at*;go_wp2_with fail
     refine HNT.out.mono ?_;rintro e' w10⟨hb10,vn,rfl,hnz⟩;obtain⟨e3,A3,n3,k3,rfl,hnz⟩:=hnz;have HB10:=hdd (aA HB9.out hb10);have HX10:=hdd (hbl HX9.out hb10);replace HI2:=hdd (HI2.out.below hb10);have HTY:=hdd (acJ (d:=notD bb.lo) (sep:=sep) ⟨_,_,_,_,rfl,hnz⟩ (qJ HSZ.out.1.2.1 HSZ.out.1.1.1) HSP.out);clear hb10 hnz HNT x0 x1 x2 x3 x4 x5;by_cases ht1:gK (notD bb.lo) sep
     . rw[decide_eq_true ht1]at HTY
       go_wp2_with fail
       refine HTY.out.mono ?_;rintro e' w11⟨rfl,hb11⟩;have HB11:=hdd (aA HB10.out hb11);have HX11:=hdd (hbl HX10.out hb11);obtain⟨x0,x1,x2,x3,x4,x5⟩:=aG HX11.out;have HTZ:=hdd (acJ (d:=bb.hi) (sep:=sep) ⟨_,_,_,_,rfl,HI2.out.below hb11⟩ HSZ.out.1.1.2 HSP.out);clear hb11 HTY;by_cases ht2:gK bb.hi sep
       . rw[decide_eq_true ht2]at HTZ
         have HZERO:Hid (v=0):=hdd (ahP HIN.out ht1 ht2 HF.out.far);go_wp2_with fail
         refine HTZ.out.mono ?_;rintro e' w12⟨rfl,hb12⟩;have HB12:=hdd (aA HB11.out hb12);clear hb12 HTZ ht1 ht2 x0 x1 x2 x3 x4 x5;have hB9:=hbl HBK.out HB12.out;have hA9:=hbl HA.out HB12.out;obtain⟨y0,y1,y2,-,-,-⟩:=cells3 hB9;obtain⟨z0,z1,z2,z3,z4,z5⟩:=cells3 hA9;have g3:=set3 hA9 (.int .i64 (n+1)) (.int .i64 p) (.int .i64 sep);have hbw:=HB5.out.trans (HB12.out.mono HB5.out.size);have HFF:=hdd g3;have HRR:=hdd (((hbw.setCell (p:=⟨w.heap.size,0,none⟩) nlr (.int .i64 (n+1))).setCell (p:=⟨w.heap.size,1,none⟩) nlr (.int .i64 p)).setCell (p:=⟨w.heap.size,2,none⟩) nlr (.int .i64 sep)).drew;clear hB9 hA9 g3 hbw;go_wp2
         go_region
         all_goals
          go_wp2;obtain⟨f0,f1,f2,-,-,-⟩:=cells3 HFF.out;refine bodyPost_ret (v:=.tuple #[_,.agg #[_,_,_],_]) (by simp[results,Tryz.results254,go_sem,f0,f1,f2];first|exact⟨rfl,⟨rfl,rfl,rfl⟩,rfl⟩|rfl) rfl ?_;rw[HZERO.out,Re.sgn_zero];exact⟨HRR.out,_,rfl⟩
       . rw[decide_eq_false ht2]at HTZ
         have HLT:Hid (p≠32*2^j):=hdd (fun h=>by
          obtain⟨b',M,W,z1,z2,z3⟩:=HF.out.hit;rw[<-h,HNR.out]at z1;cases z1
          rcases wP HIN.out z2 z3 HF.out.far with z|z
          . unfold sgOk at hok;rw[decide_eq_true z]at hok;cases hok
          . exact ht2 z.2)
         go_wp2_with fail
         refine HTZ.out.mono ?_;rintro e' w12⟨rfl,hb12⟩;have HB12:=hdd (aA HB11.out hb12);clear hb12 HTZ ht1 ht2 x0 x1 x2 x3 x4 x5;have hnx:=HSQ.out.next HLT.out HF.out.hj;have hge:¬((65536:Int)<=p):=by have:=hnx.1;omega
         have hw2p:IntKind.i64.wrap (2*p)=2*p:=wrap_i64 (by have:=HPP.out;omega);obtain⟨q,hmin⟩:∃q,min (2*p) 65536=q:=⟨_,rfl⟩;rw[hmin]at hnx;have hqp:p<q/\q<=65536:=by have:=HPP.out;omega
         have HQP:=hdd hqp;have HNX:=hdd hnx;have HRN:Hid (Rec w w12 w.heap.size w1.heap.size sep ((k+1:Nat):Int)):=hdd ⟨HB5.out.trans (HB12.out.mono HB5.out.size),bhI _,HQ3.out,HQ4.out,hbl HA.out HB12.out,p,by have h9:=hbl HBK.out HB12.out;rw[show((k+1:Nat):Int)=n+1 from by have:=HNN.out;omega];exact h9⟩;clear hnx hqp;go_wp2
         go_roundw
         case rel=>exact⟨q,k+1,rfl,hdd HNX.out.2,HRN⟩
         case measure=>have:=HQP.out;have:=HPP.out;simp[intOf];omega
     . rw[decide_eq_false ht1]at HTY
       have HLT:Hid (p≠32*2^j):=hdd (fun h=>by
        obtain⟨b',M,W,z1,z2,z3⟩:=HF.out.hit;rw[<-h,HNR.out]at z1;cases z1
        rcases wP HIN.out z2 z3 HF.out.far with z|z
        . unfold sgOk at hok;rw[decide_eq_true z]at hok;cases hok
        . exact ht1 z.1)
       go_wp2_with fail
       refine HTY.out.mono ?_;rintro e' w11⟨rfl,hb11⟩;have HB11:=hdd (aA HB10.out hb11);clear hb11 HTY ht1;have hnx:=HSQ.out.next HLT.out HF.out.hj;have hge:¬((65536:Int)<=p):=by have:=hnx.1;omega
       have hw2p:IntKind.i64.wrap (2*p)=2*p:=wrap_i64 (by have:=HPP.out;omega);obtain⟨q,hmin⟩:∃q,min (2*p) 65536=q:=⟨_,rfl⟩;rw[hmin]at hnx;have hqp:p<q/\q<=65536:=by have:=HPP.out;omega
       have HQP:=hdd hqp;have HNX:=hdd hnx;have HRN:Hid (Rec w w11 w.heap.size w1.heap.size sep ((k+1:Nat):Int)):=hdd ⟨HB5.out.trans (HB11.out.mono HB5.out.size),bhI _,HQ3.out,HQ4.out,hbl HA.out HB11.out,p,by have h9:=hbl HBK.out HB11.out;rw[show((k+1:Nat):Int)=n+1 from by have:=HNN.out;omega];exact h9⟩;clear hnx hqp;go_wp2
       go_roundw
       case rel=>exact⟨q,k+1,rfl,hdd HNX.out.2,HRN⟩
       case measure=>have:=HQP.out;have:=HPP.out;simp[intOf];omega
   . have HSIG:Hid (sgB bb=Re.sgn v):=hdd (by
      have hs:bb.lo.man.sign=bb.hi.man.sign:=of_decide_eq_true hok;unfold sgB;rw[if_pos hs];exact(anD HIN.out hs).symm)
     generalize sgB bb=sg0 at*;have hB9:=hbl HBK.out HB9.out;have hA9:=hbl HA.out HB9.out;obtain⟨y0,y1,y2,-,-,-⟩:=cells3 hB9;obtain⟨z0,z1,z2,z3,z4,z5⟩:=cells3 hA9;have g3:=set3 hA9 (.int .i64 (n+1)) (.int .i64 p) (.int .i64 sep);have hbw:=HB5.out.trans (HB9.out.mono HB5.out.size);have HFF:=hdd g3;have HRR:=hdd (((hbw.setCell (p:=⟨w.heap.size,0,none⟩) nlr (.int .i64 (n+1))).setCell (p:=⟨w.heap.size,1,none⟩) nlr (.int .i64 p)).setCell (p:=⟨w.heap.size,2,none⟩) nlr (.int .i64 sep)).drew;clear hB9 hA9 g3 hbw;go_wp2
     go_region
     all_goals
      go_wp2;obtain⟨f0,f1,f2,-,-,-⟩:=cells3 HFF.out;refine bodyPost_ret (v:=.tuple #[_,.agg #[_,_,_],_]) (by simp[results,Tryz.results254,go_sem,f0,f1,f2];first|exact⟨rfl,⟨rfl,rfl,rfl⟩,rfl⟩|rfl) rfl ?_;rw[<-HSIG.out];exact⟨HRR.out,_,rfl⟩
end
section
open Go.RowKit Go.Maps
open Go.RowKit.Below renaming refl->bhL
open List renaming getElem?_eq_getElem->bhK,mem_of_getElem?->bhM,take_add_one->bhN,take_length->bhO,mem_append->bhP
variable{l:List Nat}{ns:List Nd}{g:Nat}{ul:Nat->Nat×Nat}{n:Nd}{m:Value->Option Value}{w:World}
def acL(w:World)(ul:Nat×Nat)(e:Ending)(w':World):Prop:=Below w.heap.size w w'/\e=.returned (.agg #[.int .i64 (ul.1:Int),.int .i64 (ul.2:Int),.bool true])
def EnX(need:Prop)(ul:Nat×Nat)(v:Value):Prop:=∃(u l:Int) (t:Bool),v=.agg #[.int .i64 u,.int .i64 l,.bool t]/\(0<=u/\u<=1000000)/\(0<=l/\l<=1000000)/\(need->t=true/\u=(ul.1:Int)/\l=(ul.2:Int))
def uN(n:Nd)(a b:Nat×Nat):Nat×Nat:=
 if n.kind=0 then(jL n.val,jM n.val)else if n.kind=1\/n.kind=2 then(1+max (a.1+b.2) (a.2+b.1),a.2+b.2)else if n.kind=3 then(a.1+b.1,a.2+b.2)else if n.kind=4 then(a.1+b.2,a.2+b.1)
 else if a.1>=a.2 then((a.1+a.2+1)/2,a.2)else(a.1,(a.1+a.2+1)/2)
theorem mO{w0 w1:World}{T:TypeId}{a b c:Value}{ul:Nat×Nat}{u l:Int}(hb:Below w0.heap.size w0 w1)(hg:w0.heap.size<=g)(hw:w1.heap[g]? =some (.cells #[a,b,c] T (0,0)))(hu:u=(ul.1:Int))(hl:l=(ul.2:Int)):
 Hid (acL w0 ul (.returned (.agg #[.int .i64 u,.int .i64 l,.bool true])) (((w1.setCell ⟨g,0,none⟩ (.int .i64 u)).setCell ⟨g,1,none⟩ (.int .i64 l)).setCell ⟨g,2,none⟩ (.bool true)))/\
 (((w1.setCell ⟨g,0,none⟩ (.int .i64 u)).setCell ⟨g,1,none⟩ (.int .i64 l)).setCell ⟨g,2,none⟩ (.bool true)).heap[g]? =some (.cells #[.int .i64 u,.int .i64 l,.bool true] T (0,0)):=by
 subst hu hl;exact⟨hdd ⟨((hb.setCell hg _).setCell hg _).setCell hg _,rfl⟩,set3 hw _ _ _⟩
theorem ad3{b:Nat}(hb:b<18446744073709551616)(hf:fin b)(hs:Sz 53 1100 (aX b))(hT:Tab w):Calls Tryz.prog 339 #[.float .f64 b] w (acL w (jL b,jM b)):=by
 obtain⟨w1,hw1,hb1,hs1,b1⟩:=pro1 w (.cells #[.int .i64 0,.int .i64 0,.bool false] 362);have HD:=hdd (sG hb hf (hT.below hb1));replace HD:Hid (Calls Tryz.prog 340 #[.float .f64 b] w1 (sF w1.heap.size w1 (aX b) true)):=HD;have HB:=hdd hb1;have B1:=hdd b1;have HSM:=hdd hs;clear hb hf hs hT hb1 b1;go_enter Tryz.func339,Tryz.ntmps339
 go_wp2_with fail
 refine HD.out.mono ?_;rintro e w5⟨hb5,v5,rfl,hz⟩;obtain⟨b5,A5,n5,c5,rfl,hz⟩:=hz;have HB5S:=hdd hb5.size;obtain⟨w6,hw6,hb6,hs6,q1⟩:=pro1 w5 (.cells #[Value.bool false,Value.slice none 0 0,.int .i64 0] 233);obtain⟨e0,e1,e2,e3,e4,e5⟩:=cells3 q1;have S1:=set3 q1 (.bool b5) (.slice A5 n5 c5) (.int .i64 (aX b).exp);have g1:=hb6.setCell (p:=⟨w5.heap.size,0,none⟩) nlr (.bool b5);have g2:=g1.setCell (p:=⟨w5.heap.size,1,none⟩) nlr (.slice A5 n5 c5);have g3:=g2.setCell (p:=⟨w5.heap.size,2,none⟩) nlr (.int .i64 (aX b).exp);have F:=And.intro S1 g3;clear S1 g1 g2 g3 hb6 hs6 q1;generalize hW:((w6.setCell ⟨w5.heap.size,0,none⟩ (.bool b5)).setCell ⟨w5.heap.size,1,none⟩ (.slice A5 n5 c5)).setCell ⟨w5.heap.size,2,none⟩ (.int .i64 (aX b).exp)=w7 at F;obtain⟨S1,g3⟩:=F;obtain⟨x0,x1,x2,-,-,-⟩:=cells3 S1;have HB7:=hdd (aA hb5 g3);have HI:=hdd ((hz.any).below g3);have HSG:=hdd (cO (p:=AnyB) (w:=w7) ⟨b5,A5,n5,c5,rfl,(hz.any).below g3⟩);clear S1 g3 hb5 hz;go_wp2_with fail
 refine HSG.out.mono ?_;rintro r w8⟨rfl,hb8⟩;replace x0:=cbl x0 hb8;replace x1:=cbl x1 hb8;replace x2:=cbl x2 hb8;have HB8:=hdd (aA HB7.out hb8);have HI8:=hdd (HI.out.below hb8);clear hb8 e0 e1 e2 e3 e4 e5 hw6 hW;by_cases hz:(aX b).man=0
 . have hs0:((aX b).man.sign==0)=true:=by rw[hz];rfl
   have b8:=aC B1.out HB8.out (aD B1.out);obtain⟨e0,e1,e2,e3,e4,e5⟩:=cells3 b8;obtain⟨HR,hR⟩:=mO (ul:=(jL b,jM b)) (u:=0) (l:=0) (HB.out.trans (HB8.out.mono HB.out.size)) nlr b8 (by simp only[jL];rw[if_pos hz];rfl) (by simp only[jM];rw[if_pos hz];rfl);have HFF:=hdd hR;clear hz b8 hR x0 x1 x2;go_wp2;obtain⟨f0,f1,f2,-,-,-⟩:=cells3 HFF.out;refine bodyPost_ret (v:=.agg #[_,_,_]) (by simp[results,Tryz.results339,go_sem,f0,f1,f2];first|exact⟨rfl,rfl,rfl⟩|rfl) rfl ?_;exact HR.out
 . have hs0:((aX b).man.sign==0)=false:=beq_eq_false_iff_ne.2 (fun h=>hz (Int.sign_eq_zero_iff_zero.1 h))
   obtain⟨xs,hx1,-,hx3,-⟩:=HI8.out.get;have HBT:=hdd (cZ hx1);have HX1:=hdd hx1;have hbl:bits (val xs)<=53:=by rw[hx3];have:=HSM.out.2.1;omega
   have hel:-1100<=(aX b).exp/\(aX b).exp<=1100:=by have h1:=HSM.out.2.2 hz;have:=lF hz;omega
   have HLU:Hid (jL b=bits (val xs)+(aX b).exp.toNat/\jM b=(-(aX b).exp).toNat):=hdd (by unfold jL jM;rw[if_neg hz,if_neg hz,hx3];exact⟨rfl,rfl⟩);clear HSM;generalize (aX b).exp=E at*;have hw1:IntKind.i64.wrap (-E)=-E:=wrap_i64 (by omega);have hw2:IntKind.i64.wrap (0-E)=-E:=by rw[wrap_i64 (by omega)];omega
   have HBLI:Hid ((0:Int)<=(bits (val xs):Int)/\(bits (val xs):Int)<=53):=hdd (by omega);have hw3:IntKind.i64.wrap ((bits (val xs):Int)+max E 0)=(bits (val xs):Int)+max E 0:=wrap_i64 (by omega);clear hx1 hx3 hz hbl;have n1:w.heap.size≠w5.heap.size:=by have:=aD B1.out;have:=HB5S.out;omega
   replace HBT:=hdd (cZ (HX1.out.below ((bhL _ _).drew (w:=w8))));go_wp2_with fail
   have hdr:Below w8.heap.size w8 w8.drew:=(bhL _ _).drew;replace x0:=cbl x0 hdr;replace x1:=cbl x1 hdr;replace x2:=cbl x2 hdr
   go_region_held3 (fun w'=>w'.cell? ⟨w5.heap.size,0,none⟩=some (.bool b5)/\w'.cell? ⟨w5.heap.size,1,none⟩=some (.slice A5 n5 c5)/\w'.cell? ⟨w5.heap.size,2,none⟩=some (.int .i64 E)) (go_keep)
    (first
    |(go_at_call 206
      refine HBT.out.mono ?_;rintro r w9⟨rfl,k,hk⟩;have hd:Below w8.heap.size w8 w9:=by rw[hk];exact(bhL _ _).drew.trans (below_drewN w8.drew k)
      have hd2:Below w8.drew.heap.size w8.drew w9:=by rw[hk];exact below_drewN w8.drew k
      have x0:=cbl x0 hd2;have x1:=cbl x1 hd2;have x2:=cbl x2 hd2;have HB9:=hdd (aA HB8.out hd);have b8:=aC B1.out HB9.out (aD B1.out);obtain⟨e0,e1,e2,e3,e4,e5⟩:=cells3 b8;have HB8N:=hdd b8;clear hd hd2 hk b8))
   all_goals
    obtain⟨HR,hR⟩:=mO (ul:=(jL b,jM b)) (u:=(bits (val xs):Int)+max E 0) (l:=max (-E) 0) (HB.out.trans (HB9.out.mono HB.out.size)) nlr HB8N.out (by simp only[];rw[HLU.out.1];omega) (by simp only[];rw[HLU.out.2];omega);have HFF:=hdd hR;clear hR;go_wp2;obtain⟨f0,f1,f2,-,-,-⟩:=cells3 HFF.out;refine bodyPost_ret (v:=.agg #[_,_,_]) (by simp[results,Tryz.results339,go_sem,f0,f1,f2];first|exact⟨rfl,rfl,rfl⟩|rfl) rfl ?_;exact HR.out
theorem ad4{va vb:Value}{a b:Nat×Nat}(hk:n.kind=0\/n.kind=1\/n.kind=2\/n.kind=3\/n.kind=4\/n.kind=5)(hlf:n.kind=0->n.val<18446744073709551616/\fin n.val/\Sz 53 1100 (aX n.val))
 (ha:EnX (n.kind≠0) a va) (hb:EnX (n.kind≠0/\n.kind≠5) b vb) (hT:Tab w):
 Calls Tryz.prog 307 #[iL n,va,vb] w (acL w (uN n a b)):=by
 obtain⟨kind,val,na,nb⟩:=n;simp only at hk hlf ha hb;unfold iL;obtain⟨u,l,t,rfl,hu,hl,ht⟩:=ha;obtain⟨u',l',t',rfl,hu',hl',ht'⟩:=hb;obtain⟨w4,hw4,hb4,hs4,b1,b2,b3,b4⟩:=pro4 w (.cells #[.int .i64 kind,.float .f64 val,.int .i64 na,.int .i64 nb] 206) (.cells #[.int .i64 u,.int .i64 l,.bool t] 362) (.cells #[.int .i64 u',.int .i64 l',.bool t'] 362) (.cells #[.int .i64 0,.int .i64 0,.bool false] 362);obtain⟨k0,k1,k2,k3⟩:=bP b1;obtain⟨c0,c1,c2,-,-,-⟩:=cells3 b2;obtain⟨d0,d1,d2,-,-,-⟩:=cells3 b3;obtain⟨e0,e1,e2,e3,e4,e5⟩:=cells3 b4;have HB:=hdd hb4;have B4:=hdd b4;have HT:=hdd (hT.below hb4);have HST:Hid (∀(ul:Nat×Nat) (w5:World),Below w4.heap.size w4 w5->∀(u l:Int),u=(ul.1:Int)->l=(ul.2:Int)->
  acL w ul (.returned (.agg #[.int .i64 u,.int .i64 l,.bool true])) (((w5.setCell ⟨w.heap.size+3,0,none⟩ (.int .i64 u)).setCell ⟨w.heap.size+3,1,none⟩ (.int .i64 l)).setCell ⟨w.heap.size+3,2,none⟩ (.bool true))/\
  (((w5.setCell ⟨w.heap.size+3,0,none⟩ (.int .i64 u)).setCell ⟨w.heap.size+3,1,none⟩ (.int .i64 l)).setCell ⟨w.heap.size+3,2,none⟩ (.bool true)).heap[w.heap.size+3]? =some (.cells #[.int .i64 u,.int .i64 l,.bool true] 362 (0,0))):=hdd (by
  intro ul w5 h5 u l hu hl;obtain⟨r1,r2⟩:=mO (ul:=ul) (u:=u) (l:=l) (HB.out.trans (h5.mono HB.out.size)) (by omega) (aC B4.out h5 (aD B4.out)) hu hl;exact⟨r1.out,r2⟩)
 rcases hk with rfl|rfl|rfl|rfl|rfl|rfl
 . obtain⟨q1,q2,q3⟩:=hlf rfl
   have HL:=hdd (ad3 q1 q2 q3 HT.out);clear hb4 b1 b2 b3 b4 hs4 hT hlf q1 q2 q3 ht ht'
   cases t
   all_goals
    go_enter Tryz.func307,Tryz.ntmps307
    go_wp2_with fail
    refine HL.out.mono ?_;rintro r w5⟨hb5,rfl⟩;obtain⟨hR,hF⟩:=HST.out (jL val,jM val) w5 hb5 _ _ rfl rfl;have HR:=hdd hR;have HFF:=hdd hF;obtain⟨e0,e1,e2,e3,e4,e5⟩:=cells3 (aC B4.out hb5 (aD B4.out));clear hb5 hR hF c0 c1 c2 d0 d1 d2 k0 k1 k2 k3 hw4;go_wp2;obtain⟨f0,f1,f2,-,-,-⟩:=cells3 HFF.out;refine bodyPost_ret (v:=.agg #[_,_,_]) (by simp[results,Tryz.results307,go_sem,f0,f1,f2];first|exact⟨rfl,rfl,rfl⟩|rfl) rfl ?_;exact HR.out
 . clear hb4 b1 b2 b3 b4 hs4 hT hlf
   obtain⟨rfl,hua,hla⟩:=ht (by decide);obtain⟨rfl,hub,hlb⟩:=ht' (by decide);obtain⟨hR,hF⟩:=HST.out (1+max (a.1+b.2) (a.2+b.1),a.2+b.2) w4 (bhL _ _) (1+max (u+l') (l+u')) (l+l') (show _=((1+max (a.1+b.2) (a.2+b.1):Nat):Int) by omega) (show _=((a.2+b.2:Nat):Int) by omega);have HR:=hdd hR;have HFF:=hdd hF;clear hR hF hua hla hub hlb ht ht';go_enter Tryz.func307,Tryz.ntmps307
   go_wp2;obtain⟨f0,f1,f2,-,-,-⟩:=cells3 HFF.out;refine bodyPost_ret (v:=.agg #[_,_,_]) (by simp[results,Tryz.results307,go_sem,f0,f1,f2];first|exact⟨rfl,rfl,rfl⟩|rfl) rfl ?_;exact HR.out
 . clear hb4 b1 b2 b3 b4 hs4 hT hlf
   obtain⟨rfl,hua,hla⟩:=ht (by decide);obtain⟨rfl,hub,hlb⟩:=ht' (by decide);obtain⟨hR,hF⟩:=HST.out (1+max (a.1+b.2) (a.2+b.1),a.2+b.2) w4 (bhL _ _) (1+max (u+l') (l+u')) (l+l') (show _=((1+max (a.1+b.2) (a.2+b.1):Nat):Int) by omega) (show _=((a.2+b.2:Nat):Int) by omega);have HR:=hdd hR;have HFF:=hdd hF;clear hR hF hua hla hub hlb ht ht';go_enter Tryz.func307,Tryz.ntmps307
   go_wp2;obtain⟨f0,f1,f2,-,-,-⟩:=cells3 HFF.out;refine bodyPost_ret (v:=.agg #[_,_,_]) (by simp[results,Tryz.results307,go_sem,f0,f1,f2];first|exact⟨rfl,rfl,rfl⟩|rfl) rfl ?_;exact HR.out
 . clear hb4 b1 b2 b3 b4 hs4 hT hlf
   obtain⟨rfl,hua,hla⟩:=ht (by decide);obtain⟨rfl,hub,hlb⟩:=ht' (by decide);obtain⟨hR,hF⟩:=HST.out (a.1+b.1,a.2+b.2) w4 (bhL _ _) (u+u') (l+l') (show _=((a.1+b.1:Nat):Int) by omega) (show _=((a.2+b.2:Nat):Int) by omega);have HR:=hdd hR;have HFF:=hdd hF;clear hR hF hua hla hub hlb ht ht';go_enter Tryz.func307,Tryz.ntmps307
   go_wp2;obtain⟨f0,f1,f2,-,-,-⟩:=cells3 HFF.out;refine bodyPost_ret (v:=.agg #[_,_,_]) (by simp[results,Tryz.results307,go_sem,f0,f1,f2];first|exact⟨rfl,rfl,rfl⟩|rfl) rfl ?_;exact HR.out
 . clear hb4 b1 b2 b3 b4 hs4 hT hlf
   obtain⟨rfl,hua,hla⟩:=ht (by decide);obtain⟨rfl,hub,hlb⟩:=ht' (by decide);obtain⟨hR,hF⟩:=HST.out (a.1+b.2,a.2+b.1) w4 (bhL _ _) (u+l') (l+u') (show _=((a.1+b.2:Nat):Int) by omega) (show _=((a.2+b.1:Nat):Int) by omega);have HR:=hdd hR;have HFF:=hdd hF;clear hR hF hua hla hub hlb ht ht';go_enter Tryz.func307,Tryz.ntmps307
   go_wp2;obtain⟨f0,f1,f2,-,-,-⟩:=cells3 HFF.out;refine bodyPost_ret (v:=.agg #[_,_,_]) (by simp[results,Tryz.results307,go_sem,f0,f1,f2];first|exact⟨rfl,rfl,rfl⟩|rfl) rfl ?_;exact HR.out
 . clear hb4 b1 b2 b3 b4 hs4 hT hlf
   obtain⟨rfl,hua,hla⟩:=ht (by decide);have hun:uN ⟨5,val,na,nb⟩ a b=if a.1>=a.2 then((a.1+a.2+1)/2,a.2)else(a.1,(a.1+a.2+1)/2):=rfl;rw[hun];have hw1:IntKind.i64.wrap (u+l)=u+l:=wrap_i64 (by omega);have hw2:IntKind.i64.wrap (u+l+1)=u+l+1:=wrap_i64 (by omega);obtain⟨hv,hhv⟩:∃hv:Int,(u+l+1).tdiv 2=hv:=⟨_,rfl⟩;have hv2:hv=(u+l+1)/2:=by rw[<-hhv,Int.tdiv_eq_ediv_of_nonneg (by omega)]
   have hw3:IntKind.i64.wrap hv=hv:=wrap_i64 (by omega);by_cases hge:l<=u
   . rw[if_pos (by omega)]
     obtain⟨hR,hF⟩:=HST.out ((a.1+a.2+1)/2,a.2) w4 (bhL _ _) hv l (show _=(((a.1+a.2+1)/2:Nat):Int) by omega) hla;have HR:=hdd hR;have HFF:=hdd hF;clear hR hF hua hla ht ht' hv2;go_enter Tryz.func307,Tryz.ntmps307
     go_wp2;obtain⟨f0,f1,f2,-,-,-⟩:=cells3 HFF.out;refine bodyPost_ret (v:=.agg #[_,_,_]) (by simp[results,Tryz.results307,go_sem,f0,f1,f2];first|exact⟨rfl,rfl,rfl⟩|rfl) rfl ?_;exact HR.out
   . rw[if_neg (by omega)]
     obtain⟨hR,hF⟩:=HST.out (a.1,(a.1+a.2+1)/2) w4 (bhL _ _) u hv hua (show _=(((a.1+a.2+1)/2:Nat):Int) by omega);have HR:=hdd hR;have HFF:=hdd hF;clear hR hF hua hla ht ht' hv2;go_enter Tryz.func307,Tryz.ntmps307
     go_wp2;obtain⟨f0,f1,f2,-,-,-⟩:=cells3 HFF.out;refine bodyPost_ret (v:=.agg #[_,_,_]) (by simp[results,Tryz.results307,go_sem,f0,f1,f2];first|exact⟨rfl,rfl,rfl⟩|rfl) rfl ?_;exact HR.out
theorem jW:Tryz.prog.underlying 364=some (.map 3 362):=by kernel_rfl
theorem oK(w:World):(zeroValue 362).run Tryz.prog w=.ok (.agg #[.int .i64 0,.int .i64 0,.bool false]) w:=by kernel_rfl
theorem new3(w:World)(T:TypeId)(z0 z1 z2 a b c:Value):∃w1,w.alloc (.cells #[z0,z1,z2] T)=w1/\(w1.cell? ⟨w.heap.size,0,none⟩=some z0/\w1.cell? ⟨w.heap.size,1,none⟩=some z1/\w1.cell? ⟨w.heap.size,2,none⟩=some z2/\
 w1.frozen? ⟨w.heap.size,0,none⟩=false/\w1.frozen? ⟨w.heap.size,1,none⟩=false/\w1.frozen? ⟨w.heap.size,2,none⟩=false)/\
 ∃w2,((w1.setCell ⟨w.heap.size,0,none⟩ a).setCell ⟨w.heap.size,1,none⟩ b).setCell ⟨w.heap.size,2,none⟩ c=w2/\Below w.heap.size w w2/\w2.heap[w.heap.size]? =some (.cells #[a,b,c] T (0,0)):=by
 obtain⟨w1,h,hb,hs,b1⟩:=pro1 w (.cells #[z0,z1,z2] T);have g1:=hb.setCell (p:=⟨w.heap.size,0,none⟩) nlr a;have g2:=g1.setCell (p:=⟨w.heap.size,1,none⟩) nlr b;have g3:=g2.setCell (p:=⟨w.heap.size,2,none⟩) nlr c;exact⟨w1,h,cells3 b1,_,rfl,g3,set3 b1 a b c⟩
structure UE(ns:List Nd)(S:Nat->Prop)(ul:Nat->Nat×Nat):Prop where
 cl:ClS ns S
 step:∀(i:Nat) n,S i->ns[i]? =some n->ul i=uN n (ul n.a.toNat) (ul n.b.toNat)
 bd:∀i,S i->(ul i).1<=1000000/\(ul i).2<=1000000
 leaf:∀(i:Nat) n,S i->ns[i]? =some n->n.kind=0->n.val<18446744073709551616/\fin n.val/\Sz 53 1100 (aX n.val)
def eV(ul:Nat×Nat):Value:=.agg #[.int .i64 (ul.1:Int),.int .i64 (ul.2:Int),.bool true]
def MX(ul:Nat->Nat×Nat)(m:Value->Option Value)(done:List Nat):Prop:=
 (∀i∈done,m (.int .i64 ((i:Nat):Int))=some (eV (ul i))/\(ul i).1<=1000000/\(ul i).2<=1000000)/\∀i:Nat,i∉done->m (.int .i64 (i:Int))=none
theorem MX.get {done:List Nat}(h:MX ul m done)(i:Nat):∃u l t,(m (.int .i64 (i:Int))).getD (.agg #[.int .i64 0,.int .i64 0,.bool false])=.agg #[.int .i64 u,.int .i64 l,.bool t]/\(0<=u/\u<=1000000)/\(0<=l/\l<=1000000)/\(i∈done->t=true/\u=((ul i).1:Int)/\l=((ul i).2:Int)):=by
 by_cases hi:i∈done
 . obtain⟨e,g1,g2⟩:=h.1 i hi
   exact⟨_,_,true,by rw[e];rfl,by omega,by omega,fun _=>⟨rfl,rfl,rfl⟩⟩
 . exact⟨0,0,false,by rw[h.2 i hi];rfl,by omega,by omega,fun h'=>absurd h' hi⟩
theorem MX.put {m':Value->Option Value}{done:List Nat}{i:Nat}(h:MX ul m done)(hb:(ul i).1<=1000000/\(ul i).2<=1000000)(hu:Upd m (.int .i64 (i:Int)) (some (eV (ul i))) m'):MX ul m' (done++[i]):=by
 refine⟨fun j hj=> ?_,fun j hj=> ?_⟩
 . by_cases hji:j=i
   . subst hji;exact⟨hu.1,hb⟩
   . rw[hu.2 _ (fun e=>hji (by injection e with _ e;omega))]
     rcases bhP.1 hj with h1|h1
     . exact h.1 j h1
     . simp at h1;exact absurd h1 hji
 . have h1:j≠i:=fun e=>hj (by rw[e];simp)
   rw[hu.2 _ (fun e=>h1 (by injection e with _ e;omega))];exact h.2 j (fun h'=>hj (bhP.2 (Or.inl h')))
def alC(w:World)(ul:Nat×Nat)(root:Nat)(e:Ending)(w':World):Prop:=
 Below w.heap.size w w'/\∃mb m,e=.returned (.map (some mb))/\MapP Tryz.prog 3 w' mb m/\m (.int .i64 (root:Int))=some (eV ul)
theorem aaA{p:Nat->Prop}{root:Nat}{S:Nat->Prop}{vl:Value}(hd:DagP w g ns)(ok:OkNs ns)(hlf:gT ns)(hro:gW ns)(hue:UE ns S ul)(hS:S root)(hT:Tab w)(hl:IntsP p w vl l)(hI:IsB ns root l):
 Calls Tryz.prog 268 #[.pointer (some ⟨g,0,none⟩),vl] w (alC w (ul root) root):=by
 obtain⟨bl,cl,rfl,hlc,hcm,-,hbl,-⟩:=id hl;obtain⟨w1,hw1,hb1,hs1,b1⟩:=pro1 w (.map #[] 0);have HL:=hdd (hl.below hb1);have HOK:=hdd ok;have HUE:=hdd hue;have HSR:=hdd hS;have HRO:=hdd hro;have HDW:=hdd hd;have HLEAF:=hdd hlf;have HT:=hdd hT;have HI:=hdd hI;have HLN:=hdd hd.len;have HB1:=hdd hb1;have HM1:=hdd (MapP.made (P:=Tryz.prog) (k:=3) (es:=#[]) b1);have HBL:=hdd hbl;have HS1:=hdd hs1;have HLL:=hdd (mM hI hd.len);clear hd ok hue hS hro hlf hT hl hI hb1 b1 hs1 hlc hcm hbl;have hmm:=@run_makeMap Tryz.prog;have hst:=aU;go_enter Tryz.func268,Tryz.ntmps268
 go_wp2_with fail
 go_loopw [14] (fun i wr=>∃k:Nat,k<=l.length/\i=.int .i64 (k:Int)/\Hid (Fr (fun b=>b=w.heap.size) w1 wr)/\∃m,Hid (MapP Tryz.prog 3 wr w.heap.size m)/\Hid (MX ul m (l.take k))) (fun i _=>((l.length:Int)-intOf i).toNat)
 case atStart=>exact⟨0,Nat.zero_le _,rfl,hdd (Fr.of_below (bhL _ _)),_,HM1,hdd ⟨by simp,by simp⟩⟩
 case round=>
  obtain⟨k,hk,rfl,HF,m,HM,HME⟩:=hrel;have HBR:Hid (Below w.heap.size w wr):=hdd (HB1.out.trans (HF.out.below HB1.out.size (fun b hb=>by omega)));rcases Nat.lt_or_ge k l.length with hlt|hge
  . obtain⟨x,hx⟩:∃x,l[k]? =some x:=⟨_,bhK hlt⟩
    have hxl:x<ns.length:=HI.out.lt x (bhM hx);obtain⟨n,hn⟩:∃n,ns[x]? =some n:=⟨_,bhK hxl⟩;have HDR:=hdd (HDW.out.below HBR.out);have cx:wr.cell? ⟨bl,k,none⟩=some (.int .i64 (x:Int)):=(World.cell?_of_block (HF.out.block bl (by have:=HBL.out;have:=HB1.out.size;omega) (by have:=HBL.out;omega))).trans (HL.out.cell hx);have HN:=hdd (eP HDR.out hn);have hkI:(k:Int)<(l.length:Int):=by omega
    have hk0:(0:Int)<=(k:Int):=by omega
    have hlI:(l.length:Int)<=20000:=by have:=HLL.out;omega
    have HX:=hdd hx;have HNN:=hdd hn;have HXL:=hdd hxl;have HKL:=hdd hlt;have hxl2:=bhM hx;have hSx:S x:=HI.out.mn S HUE.out.cl HSR.out x hxl2;have hkind:n.kind=0\/n.kind=1\/n.kind=2\/n.kind=3\/n.kind=4\/n.kind=5:=by have:=(HOK.out x n hn).1;omega
    obtain⟨hopA,hopB⟩:=afH HOK.out HI.out.srt HI.out.cl hx hn;have hab:(0<=n.a/\n.a<=x)/\(0<=n.b/\n.b<=x):=by
     by_cases h0:n.kind=0
     . obtain⟨h1,h2⟩:=HLEAF.out x n hn h0
       rw[h1,h2];omega
     . obtain⟨-,h3⟩:=hopA h0
       by_cases h5:n.kind=5
       . have:=HRO.out x n hn h5;omega
       . obtain⟨-,h4⟩:=hopB h0 h5
         omega
    have hbx:=HUE.out.bd x hSx;obtain⟨ua,la,ta,ea,ha1,ha2,ha3⟩:=HME.out.get n.a.toNat;obtain⟨ub,lb,tb,eb,hb1,hb2,hb3⟩:=HME.out.get n.b.toNat;rw[show((n.a.toNat:Nat):Int)=n.a from by omega]at ea;rw[show((n.b.toNat:Nat):Int)=n.b from by omega]at eb;have HKX:=hdd (iY (i:=x) (by have:=HLN.out;omega));have HCO:Hid (∀w',Below wr.heap.size wr w'->Calls Tryz.prog 307 #[.agg #[.int .i64 n.kind,.float .f64 n.val,.int .i64 n.a,.int .i64 n.b],.agg #[.int .i64 ua,.int .i64 la,.bool ta],.agg #[.int .i64 ub,.int .i64 lb,.bool tb]] w' (acL w' (ul x))):=hdd fun w' h=>by
     rw[HUE.out.step x n hSx hn];exact ad4 (n:=n) hkind (fun h0=>HUE.out.leaf x n hSx hn h0) ⟨ua,la,ta,rfl,ha1,ha2,fun h0=>ha3 (hopA h0).1⟩ ⟨ub,lb,tb,rfl,hb1,hb2,fun h0=>hb3 (hopB h0.1 h0.2).1⟩ (HT.out.below (HBR.out.trans (h.mono HBR.out.size)))
    have HEA:=hdd ea;have HEB:=hdd eb;have HCX:=hdd hbx;have HAB:Hid ((0<=n.a/\n.a<=1000000)/\(0<=n.b/\n.b<=1000000)):=hdd (by have:=HLN.out;omega);have HKA:=hdd (jQ (i:=n.a) (by have:=HAB.out;omega));have HKB:=hdd (jQ (i:=n.b) (by have:=HAB.out;omega));clear hx hn hxl hlt hxl2 hSx hkind ea eb ha1 ha2 hb1 hb2 ha3 hb3 hbx hab hopA hopB HDR;obtain⟨u,hu0⟩:∃u:Int,((ul x).1:Int)=u:=⟨_,rfl⟩;obtain⟨lw,hl0⟩:∃u:Int,((ul x).2:Int)=u:=⟨_,rfl⟩;have HUL:Hid (eV (ul x)=.agg #[.int .i64 u,.int .i64 lw,.bool true]):=hdd (by unfold eV;rw[hu0,hl0]);have hu40:u<=1099511627776:=by have:=HCX.out;omega
    have hl40:lw<=1099511627776:=by have:=HCX.out;omega
    go_wp2_with fail
    refine HN.out.mono ?_;rintro e w5⟨rfl,hb5⟩;obtain⟨w6,hw6,z0,z1,z2,z3,y0,y1,y2,y3,w7,hw7,hb7,hs7⟩:=new4 w5 206 (.int .i64 0) (.float .f64 0) (.int .i64 0) (.int .i64 0) (.int .i64 n.kind) (.float .f64 n.val) (.int .i64 n.a) (.int .i64 n.b);obtain⟨x0,x1,x2,x3⟩:=bP hs7;have HM7:=hdd (HM.out.below (aA hb5 hb7) HM.out.lt);have HB57:=hdd (aA hb5 hb7);have HC7:=hdd (HCO.out w7 (aA hb5 hb7));have M1:True:=trivial;clear hb5 hb7 hs7 cx;go_wp2_with (first
     |(at_lookup
       clear M1;refine aV _ rfl _ _ _ rfl _ _ aJ jW (oK _) _ m rfl HM7.out (.int .i64 n.a) _ rfl HKA.out (.agg #[.int .i64 ua,.int .i64 la,.bool ta]) HEA.out ?_)
     |(at_lookup
       refine aV _ rfl _ _ _ rfl _ _ aJ jW (oK _) _ m rfl HM7.out (.int .i64 n.b) _ rfl HKB.out (.agg #[.int .i64 ub,.int .i64 lb,.bool tb]) HEB.out ?_))
    refine HC7.out.mono ?_;rintro e w8⟨hb8,rfl⟩;rw[hu0,hl0];clear hu0 hl0;obtain⟨w9,hw9,⟨p0,p1,p2,q0,q1,q2⟩,w10,hw10,hb10,hs10⟩:=new3 w8 362 (.int .i64 0) (.int .i64 0) (.bool false) (.int .i64 u) (.int .i64 lw) (.bool true);obtain⟨r0,r1,r2,-,-,-⟩:=cells3 hs10;have HM10:=hdd ((HM7.out.below hb8 HM7.out.lt).below hb10 (Nat.lt_of_lt_of_le HM7.out.lt hb8.size));have HB10:=hdd (aA (aA HB57.out hb8) hb10);obtain⟨m',hup⟩:=kF m (.int .i64 (x:Int)) (some (.agg #[.int .i64 u,.int .i64 lw,.bool true]));have HU:=hdd hup;clear hup hb8 hb10 hs10 z0 z1 z2 z3 y0 y1 y2 y3 x0 x1 x2 x3 hw6 hw7 HCO HM7 HC7;go_wp2_with (first
     |(at_mapUpdate
       refine dR _ rfl _ _ _ _ rfl _ _ aJ jW _ m m' rfl HM10.out (.int .i64 (x:Int)) (.agg #[.int .i64 u,.int .i64 lw,.bool true]) _ rfl rfl HKX.out HU.out ?_;intro w11 HM11 hgr hsz;have HF11:=hdd ((HF.out.trans (Fr.of_below HB10.out)).trans (Fr.of_grown hgr (fun i e=>(Option.some.inj e).symm)));clear hgr hsz))
    go_roundw
    case rel=>
     refine⟨k+1,by have:=HKL.out;omega,by go_num,HF11,m',HM11,hdd ?_⟩;rw[bhN,HX.out];exact HME.out.put HCX.out (by rw[HUL.out];exact HU.out)
    case measure=>have:=HKL.out;simp[intOf];omega
  . have hke:k=l.length:=by omega
    subst hke;obtain⟨h1,h2,h3⟩:=HME.out.1 root (by rw[bhO];exact HI.out.rt);have HRES:Hid (alC w (ul root) root (.returned (.map (some w.heap.size))) wr):=hdd ⟨HBR.out,_,m,rfl,HM.out,h1⟩;clear h1 h2 h3 hk hge;go_wp2;go_ret;exact HRES.out
def isRt(ns:List Nd)(i:Nat):Bool:=match ns[i]? with|some n=>decide (n.kind=5)|none=>false
def nRt(ns:List Nd)(l:List Nat):Nat:=(l.filter (isRt ns)).length
theorem alD{k x:Nat}(hx:l[k]? =some x)(hn:ns[x]? =some n):nRt ns (l.take (k+1))=nRt ns (l.take k)+if n.kind=5 then 1 else 0:=by
 unfold nRt;rw[bhN,hx,List.filter_append,List.length_append]
 congr 1
 have:isRt ns x=decide (n.kind=5):=by unfold isRt;rw[hn]
 simp only[Option.toList,List.filter_cons,this,List.filter_nil];by_cases h:n.kind=5
 . simp[h]
 . simp[h]
theorem aoX(ns:List Nd)(l:List Nat)(k:Nat):nRt ns (l.take k)<=l.length:=by
 unfold nRt;refine Nat.le_trans (List.length_filter_le _ _) ?_;rw[List.length_take];omega
theorem ad5{root:Nat}(hd:DagP w g ns)(ok:OkNs ns)(hr:root<ns.length):
 Calls Tryz.prog 269 #[.pointer (some ⟨g,0,none⟩),.int .i64 (root:Int)] w (fun e w'=>∃l,e=.returned (.int .i64 (nRt ns l:Int))/\IsB ns root l/\Below w.heap.size w w'):=by
 obtain⟨w2,hw2,hb2,hs2,b2⟩:=pro1 w (.cells #[.int .i64 (root:Int)] 3);have HDW:=hdd hd;have HD2:=hdd (hd.below hb2);have HBE:=hdd (jC HD2.out ok hr b2);have HB2:=hdd hb2;have HOK:=hdd ok;have HLN:=hdd hd.len;clear hd ok hr hb2 b2 hs2;go_enter Tryz.func269,Tryz.ntmps269
 go_wp2_with fail
 refine HBE.out.mono ?_;rintro e w3⟨hb3,v3,l,rfl,hl,hI⟩;obtain⟨bl,cl,rfl,hlc,hcm,-⟩:=id hl;have HL:=hdd hl;have HI:=hdd hI;have HB3:=hdd (HB2.out.trans (hb3.mono HB2.out.size));have HLL:=hdd (mM hI HLN.out);clear hb3 hl hI HBE hcm hlc hw2;go_wp2_with fail
 go_loopw [15,5] (fun i c wr=>∃k:Nat,k<=l.length/\i=.int .i64 (k:Int)/\c=.int .i64 (nRt ns (l.take k):Int)/\Hid (Below w3.heap.size w3 wr)) (fun i _ _=>((l.length:Int)-intOf i).toNat)
 case atStart=>exact⟨0,Nat.zero_le _,rfl,rfl,hdd (bhL _ _)⟩
 case round=>
  obtain⟨k,hk,rfl,rfl,HF⟩:=hrel;have HBR:Hid (Below w.heap.size w wr):=hdd (HB3.out.trans (HF.out.mono HB3.out.size));rcases Nat.lt_or_ge k l.length with hlt|hge
  . obtain⟨x,hx⟩:∃x,l[k]? =some x:=⟨_,bhK hlt⟩
    have hxl:x<ns.length:=HI.out.lt x (bhM hx);obtain⟨n,hn⟩:∃n,ns[x]? =some n:=⟨_,bhK hxl⟩;have cx:=(HL.out.below HF.out).cell hx;have HN:=hdd (eP (HDW.out.below HBR.out) hn);have HST:=hdd (alD hx hn);have hst:=aU;have hkI:(k:Int)<(l.length:Int):=by omega
    have hk0:(0:Int)<=(k:Int):=by omega
    have hlI:(l.length:Int)<=20000:=by have:=HLL.out;omega
    have HKL:=hdd hlt;have hcB:=aoX ns l k;obtain⟨c,hc⟩:∃c:Int,(nRt ns (l.take k):Int)=c:=⟨_,rfl⟩;have HC:=hdd hc;have hcB0:0<=c/\c<=20000:=by omega
    have hcw:IntKind.i64.wrap (c+1)=c+1:=wrap_i64 (by omega);rw[hc];clear hx hn hxl hlt hc hcB;by_cases hk5:n.kind=5
    . go_wp2_with fail
      refine HN.out.mono ?_;rintro e w5⟨rfl,hb5⟩;obtain⟨w6,hw6,z0,z1,z2,z3,y0,y1,y2,y3,w7,hw7,hb7,hs7⟩:=new4 w5 206 (.int .i64 0) (.float .f64 0) (.int .i64 0) (.int .i64 0) (.int .i64 n.kind) (.float .f64 n.val) (.int .i64 n.a) (.int .i64 n.b);obtain⟨x0,x1,x2,x3⟩:=bP hs7;have HF7:=hdd (aA HF.out (aA hb5 hb7));have hkd:(n.kind==5)=true:=by simp[hk5]
      have HK5:=hdd hk5;clear hb5 hb7 hs7 cx hk5;go_wp2_with fail
      go_roundw
      case rel=>exact⟨k+1,by have:=HKL.out;omega,by go_num,by rw[HST.out,if_pos HK5.out];have:=HC.out;go_num,HF7⟩
      case measure=>have:=HKL.out;simp[intOf];omega
    . go_wp2_with fail
      refine HN.out.mono ?_;rintro e w5⟨rfl,hb5⟩;obtain⟨w6,hw6,z0,z1,z2,z3,y0,y1,y2,y3,w7,hw7,hb7,hs7⟩:=new4 w5 206 (.int .i64 0) (.float .f64 0) (.int .i64 0) (.int .i64 0) (.int .i64 n.kind) (.float .f64 n.val) (.int .i64 n.a) (.int .i64 n.b);obtain⟨x0,x1,x2,x3⟩:=bP hs7;have HF7:=hdd (aA HF.out (aA hb5 hb7));have HK5:=hdd hk5;clear hb5 hb7 hs7 cx;go_wp2_with fail
      go_roundw
      case rel=>exact⟨k+1,by have:=HKL.out;omega,by go_num,by rw[HST.out,if_neg HK5.out,<-HC.out];rfl,HF7⟩
      case measure=>have:=HKL.out;simp[intOf];omega
  . have hke:k=l.length:=by omega
    subst hke;rw[bhO];clear hk hge;go_wp2;go_ret;exact⟨l,rfl,HI.out,HBR.out⟩
end
end Go.Proofs.YtigoiiekebccnaaGreatDoor
