/- A part of the proof: contracts of functions and plain laws (DyZ). -/
import Derived.Test.YtjaafolhfihegaaGreatDoorU30
import Derived.Laws.Bits128
set_option linter.unusedVariables false
set_option linter.unusedSimpArgs false
set_option maxHeartbeats 25600000
set_option maxRecDepth 100000
namespace Go.Proofs.YtjaafolhfihegaaGreatDoor
open Go.RowKit
open BitVec renaming ofInt->bhA
open Int renaming tdiv_eq_ediv_of_dvd->bg9,toNat_natCast->bhB
open Nat renaming le_trans->bg8,pow_one->bhC
variable{x:Dy}{P:Int}
theorem uY(n:Int):Go.bits BinOp.and IntKind.i64 n 1=n%2:=by
 have h1:(bhA 64 1).toNat=2^1-1:=by decide
 have key:(bhA 64 n &&& bhA 64 1).toNat=(n%((2^64:Nat):Int)).toNat%2^1:=by
  rw[BitVec.toNat_and,BitVec.toNat_ofInt,h1,Nat.and_two_pow_sub_one_eq_mod]
 show IntKind.i64.wrap ((bhA 64 n &&& bhA 64 1).toNat:Nat)=n%2;rw[key,IntKind.wrap_i64];omega
theorem xN(h:bits x.man.natAbs<=400000):bits (sqM x)<=400001:=by
 unfold sqM;split
 . omega
 . have:=eB x.man.natAbs 1;rw[bhC]at this;omega
theorem acW(h:bits x.man.natAbs<=400000)(hP:1<=P/\P<=65536):bits (sqX x P)<=900000:=by
 have h1:=xN h;unfold sqX
 split
 . refine bg8 (eB _ _) ?_
   unfold sqN at*;omega
 . refine bg8 (dE (Nat.div_le_self _ _)) (by omega)
theorem o9{p:Nat->Prop}{va:Value}{dir:Int}{w:World}(hx:DyP p w va x)(hT:Tab w)(sx:SmQ x)(hP:1<=P/\P<=65536)(h0:0<=x.man):
 Calls Tryz.prog 213 #[va,.int .i64 P,.int .i64 dir] w (tL w.heap.size w (aU x P dir) true):=by
 obtain⟨ba,A,n,c,rfl,h⟩:=hx;obtain⟨w2,hw2,hb2,hs2,b1,b2⟩:=pro2 w (.cells #[Value.bool ba,.slice A n c,.int .i64 x.exp] 225) (.cells #[Value.bool false,Value.slice none 0 0,.int .i64 0] 225);have HB:=hdd hb2;have HT:=hdd (hT.below hb2);have HS:Hid (w.heap.size+2<=w2.heap.size):=hdd (by omega);have B2:=hdd b2;obtain⟨c0,c1,c2,-,-,-⟩:=cells3 b1;have HDX:Hid (DyP p w2 (.agg #[.bool ba,.slice A n c,.int .i64 x.exp]) x):=hdd ⟨_,_,_,_,rfl,h.below hb2⟩;obtain⟨xs,hx1,hx2,hx3,hx4⟩:=(h.below hb2).get;have HX:=hdd hx1;have HTX:=hdd hx2;have HXV:=hdd hx3;have HSX:=hdd sx;have HPP:=hdd hP;have HSG:=hdd (dH HDX.out);have hsm:(x.man.sign==-1)=false:=beq_eq_false_iff_ne.2 (fun h=>by have:=Int.sign_eq_neg_one_iff_neg.1 h;omega);clear h hb2 b1 b2 hs2 hT sx hx1 hx2 hx3 hx4 hP HDX;go_enter Tryz.func213,Tryz.ntmps213
 go_wp2_with fail
 refine HSG.out.mono ?_;rintro r w5⟨rfl,hb⟩;replace c0:=cbl c0 hb;replace c1:=cbl c1 hb;replace c2:=cbl c2 hb;replace HX:=hdd (HX.out.below hb);replace HT:=hdd (HT.out.below hb);replace B2:=hdd (hbl B2.out hb);replace HB:=hdd (HB.out.trans (hb.mono HB.out.size));replace HS:Hid (w.heap.size+2<=w5.heap.size):=hdd (by have:=HS.out;have:=hb.size;omega);clear hb HSG;by_cases hz:x.man=0
 . have hsx:(x.man.sign==0)=true:=by rw[hz];rfl
   obtain⟨e0,e1,e2,e3,e4,e5⟩:=cells3 B2.out;have hq:aU x P dir=⟨0,0⟩:=by unfold aU;rw[if_pos hz]
   have hdy:DyP (fun b=>w5.heap.size<=b) w5 (.agg #[.bool false,.slice none 0 0,.int .i64 0]) ⟨0,0⟩:=⟨_,_,_,_,rfl,_,[],rfl,NatP.nil _,Tr.nil,rfl⟩;obtain⟨HFF,hFF⟩:=aT HB.out (g:=w.heap.size+1) (by omega) B2.out hdy (fun b hb=>by have:=HS.out;omega);replace hFF:=hdd hFF;have HQ:=hdd hq;clear hdy hq;go_wp2;obtain⟨f0,f1,f2,-,-,-⟩:=cells3 hFF.out;refine bodyPost_ret (v:=.tuple #[.agg #[_,_,_],_]) (by simp[results,Tryz.results213,go_sem,f0,f1,f2];first|exact⟨⟨rfl,rfl,rfl⟩,rfl⟩|rfl) rfl ?_;rw[HQ.out];exact eX HFF.out
 . have hsx:(x.man.sign==0)=false:=beq_eq_false_iff_ne.2 (fun h=>hz (Int.sign_eq_zero_iff_zero.1 h))
   have HZ:=hdd hz;go_wp2_with fail
   have HOF:=hdd (lS (HX.out.below ((Below.refl _ _).drew (w:=w5))));have M1:True:=trivial
   go_region_held3 (fun w'=>w'.cell? ⟨w.heap.size,0,none⟩=some (.bool ba)/\w'.cell? ⟨w.heap.size,1,none⟩=some (.slice A n c)/\w'.cell? ⟨w.heap.size,2,none⟩=some (.int .i64 x.exp)) (go_keep)
    (first
    |(go_at_call 202
      refine HOF.out.mono ?_;rintro r w6⟨hb,v6,zs,hz6⟩;obtain⟨rfl,hz6,tz6,hvz6⟩:=hz6;have HB6:Hid (Below w5.heap.size w5 w6):=hdd ((Below.refl _ _).drew.trans hb);have c0:=cbl c0 HB6.out;have c1:=cbl c1 HB6.out;have c2:=cbl c2 HB6.out;have HZ6:=hdd hz6;have HTZ6:=hdd tz6;have HVZ6:=hdd hvz6;clear hb hz6 tz6 hvz6))
   replace HT:=hdd (HT.out.below HB6.out);replace B2:=hdd (hbl B2.out HB6.out);replace HB:=hdd (HB.out.trans (HB6.out.mono HB.out.size));replace HS:Hid (w.heap.size+2<=w6.heap.size):=hdd (by have:=HS.out;have:=HB6.out.size;omega);have HV:Hid (val zs=x.man.natAbs):=hdd (by rw[HVZ6.out,HXV.out]);have HP2:Hid (0<x.man):=hdd (by have:=HZ.out;omega);obtain⟨A6,k6,rfl,-⟩:=id HZ6.out;clear c0 c1 c2 HOF HX HB6 HVZ6;rcases(by omega:x.exp%2=0\/x.exp%2=1)with hpar|hpar
   . have hand:Go.bits BinOp.and IntKind.i64 x.exp 1=0:=(uY x.exp).trans hpar
     have HE:Hid (sqE x=x.exp):=hdd (by unfold sqE;rw[if_pos hpar]);have HVM:Hid (val zs=sqM x):=hdd (by unfold sqM;rw[if_pos hpar,HV.out]);have HTZA:=HTZ6;have HWD:=hdd (xM HPP.out w6);have HBX:=hdd (dK HZ6.out);have HMB:Hid (bits (val zs)<=400001):=hdd (by rw[HVM.out];exact xN HSX.out.1);have hw1:IntKind.i64.wrap (P+2)=P+2:=wrap_i64 (by have:=HPP.out;omega);have hw2:IntKind.i64.wrap (2*(P+2))=2*(P+2):=wrap_i64 (by have:=HPP.out;omega);obtain⟨n0,hn0⟩:∃n0:Int,2*(P+2)-bits (val zs)=n0:=⟨_,rfl⟩;obtain⟨r0,hr0⟩:∃r0:Int,n0%2=r0:=⟨_,rfl⟩;have hw3:IntKind.i64.wrap (2*(P+2)-bits (val zs))=n0:=(wrap_i64 (by have:=HPP.out;have:=HMB.out;omega)).trans hn0;have hnn:sqN x P=n0+r0:=by unfold sqN;rw[<-HVM.out,hn0,hr0]
     have hand2:Go.bits BinOp.and IntKind.i64 n0 1=r0:=(uY n0).trans hr0;have hw4:IntKind.i64.wrap (n0+r0)=sqN x P:=(wrap_i64 (by have:=HPP.out;have:=HMB.out;omega)).trans hnn.symm;have HNB:Hid (-1000000<=sqN x P/\sqN x P<=1000000/\sqN x P%2=0):=hdd (by have:=HPP.out;have:=HMB.out;omega);clear hn0 hr0;have HXB:Hid (bits (sqX x P)<=900000):=hdd (acW HSX.out.1 HPP.out);clear hnn;go_wp2_with fail
     refine HWD.out.mono ?_;rintro r wq⟨rfl,hw⟩;obtain rfl:=hw;go_wp2_with fail
     refine HBX.out.mono ?_;rintro r w7⟨rfl,k7,rfl⟩;have hd:=below_drewN w6 k7;have HA7:=hdd (HZ6.out.below hd);replace HT:=hdd (HT.out.below hd);replace B2:=hdd (hbl B2.out hd);replace HB:=hdd (HB.out.trans (hd.mono HB.out.size));replace HS:Hid (w.heap.size+2<=(w6.drewN k7).heap.size):=hdd (by have:=HS.out;have:=hd.size;omega);clear hd HWD HBX;generalize w6.drewN k7=w7 at*;by_cases hN:0<=sqN x P
     . obtain⟨k,hk⟩:∃k:Nat,sqN x P=k:=⟨(sqN x P).toNat,by omega⟩
       have hkl:k<=1000000:=by have:=HNB.out;omega
       have HKA:=hdd hk;obtain⟨ev,hev⟩:∃ev:Int,(x.exp-(k:Int))/2=ev:=⟨_,rfl⟩;have HEV:Hid (-40000000<=ev/\ev<=40000000):=hdd (by have:=HSX.out.2;omega);have HEE:Hid ((sqE x-sqN x P)/2=ev):=hdd (by rw[HE.out,hk,hev]);have hwe:IntKind.i64.wrap (x.exp-(k:Int))=x.exp-(k:Int):=wrap_i64 (by have:=HSX.out.2;omega);have hq:(x.exp-(k:Int)).tdiv 2=ev:=by rw[bg9 (by have:=HNB.out;have h8:sqE x%2=0:=(by unfold sqE;split<;>omega);rw[HE.out]at h8;omega)];exact hev
       have hwq:IntKind.i64.wrap ev=ev:=wrap_i64 (by have:=HEV.out;omega);have HLF:=hdd (iW (n:=k) HA7.out (by omega) (iB HA7.out.ok HTZA.out (by have:=HMB.out;omega)));have hxk:val zs*2^k=sqX x P:=by unfold sqX;rw[if_pos hN,hk,bhB,HVM.out]
       rw[hxk]at HLF;have HMM:Hid (∀r:Nat,decide (0<bits r)=((decide (sqN x P<0)&&decide ((ctz (sqM x):Int)< -sqN x P))||decide (0<bits r))):=hdd (fun r=>by rw[decide_eq_false (by omega:¬sqN x P<0)];simp);clear hkl hxk hev;rw[hk]at hw4 hN;go_wp2_with fail
       refine HLF.out.mono ?_;rintro r w8⟨hb,v8,ts,rfl,hz8,tz8,hvz8⟩;obtain⟨A7,c7,rfl,-⟩:=id hz8;have HB8:=hdd hb;have HZ8:=hdd hz8;have HTZ8:=hdd tz8;have HVZ8:=hdd hvz8;clear hb hz8 tz8 hvz8 HLF;have HSQ:=hdd (qJ (w:=w8) HZ8.out (by have h9:=bP ts HZ8.out.ok HTZ8.out;rw[HVZ8.out]at h9;have:=HXB.out;omega));rw[HVZ8.out]at HSQ;go_wp2_with fail
       refine HSQ.out.mono ?_;rintro r w9⟨hb,v1,v2,qs,rs,rfl,hq1,hq2,hq3,hr1,hr2,hr3⟩;obtain⟨A8,c8,rfl,-⟩:=id hq1;obtain⟨A9,c9,rfl,-⟩:=id hr1;have HQ1:=hdd hq1;have HQ2:=hdd hq2;have HQ3:=hdd hq3;have HR3:=hdd hr3;have HBR:=hdd (dK hr1);have hbw:=HB8.out.trans (hb.mono HB8.out.size);have HT9:=hdd (HT.out.below hbw);have B29:=hdd (hbl B2.out hbw);have HB9:=hdd (HB.out.trans (hbw.mono HB.out.size));have HS9:Hid (w.heap.size+2<=w9.heap.size):=hdd (by have:=HS.out;have:=hbw.size;omega);clear hb hq1 hq2 hq3 hr1 hr2 hr3 HSQ hbw;go_wp2_with fail
       refine HBR.out.mono ?_;rintro r w10⟨rfl,k10,rfl⟩;have hd:=below_drewN w9 k10;replace HT9:=hdd (HT9.out.below hd);replace B29:=hdd (hbl B29.out hd);replace HB9:=hdd (HB9.out.trans (hd.mono HB9.out.size));replace HS9:Hid (w.heap.size+2<=(w9.drewN k10).heap.size):=hdd (by have:=HS9.out;have:=hd.size;omega);replace HQ1:=hdd (HQ1.out.below hd);clear hd HBR;generalize w9.drewN k10=w10 at*;have HM1:Hid (sqR x P=decide (0<bits (val rs))):=hdd (by
        unfold sqR;rw[<-HR3.out,<-HMM.out])
       have HBT:=hdd (eD (neg:=false) (more:=(decide (0<bits (val rs)))) (e:=ev) (P:=P) (dir:=dir) HQ1.out HQ2.out HT9.out (by rw[HQ3.out];exact bg8 (dE (fO _)) (bg8 HXB.out (by omega))) (by have:=HEV.out;omega) HPP.out);go_wp2_with fail
       refine HBT.out.mono ?_;rintro r w11⟨hb,v11,hz⟩;obtain⟨rfl,hz⟩:=hz;obtain⟨b9',A9',n9',c9',rfl,-⟩:=id hz;have B11:=hbl B29.out hb;obtain⟨e0,e1,e2,e3,e4,e5⟩:=cells3 B11;obtain⟨HFF,hFF⟩:=aT (HB9.out.trans (hb.mono HB9.out.size)) (g:=w.heap.size+1) (by omega) B11 hz (fun b hb=>by have:=HS9.out;omega);replace hFF:=hdd hFF;have HEQ:Hid (bE false (val qs) (ev) (decide (0<bits (val rs))) P dir=aU x P dir):=hdd (by
        have hm:=(HM1.out.symm:decide (0<bits (val rs))=sqR x P);unfold aU;rw[if_neg HZ.out,HQ3.out,hm,HEE.out])
       clear hb hz B11 HBT;go_wp2;obtain⟨f0,f1,f2,-,-,-⟩:=cells3 hFF.out;refine bodyPost_ret (v:=.tuple #[.agg #[_,_,_],_]) (by simp[results,Tryz.results213,go_sem,f0,f1,f2];first|exact⟨⟨rfl,rfl,rfl⟩,rfl⟩|rfl) rfl ?_;rw[<-HEQ.out];exact eX HFF.out
     . obtain⟨k,hk⟩:∃k:Nat,sqN x P=-(k:Int):=⟨(-sqN x P).toNat,by omega⟩
       have hkl:k<=1000000:=by have:=HNB.out;omega
       have hk1:1<=k:=by omega
       have HKA:=hdd hk;obtain⟨ev,hev⟩:∃ev:Int,(x.exp+(k:Int))/2=ev:=⟨_,rfl⟩;have HEV:Hid (-40000000<=ev/\ev<=40000000):=hdd (by have:=HSX.out.2;omega);have HEE:Hid ((sqE x-sqN x P)/2=ev):=hdd (by rw[HE.out,hk,show x.exp- -(k:Int)=x.exp+(k:Int) from by omega,hev]);have hwe:IntKind.i64.wrap (x.exp+(k:Int))=x.exp+(k:Int):=wrap_i64 (by have:=HSX.out.2;omega);have hq:(x.exp+(k:Int)).tdiv 2=ev:=by rw[bg9 (by have:=HNB.out;have h8:sqE x%2=0:=(by unfold sqE;split<;>omega);rw[HE.out]at h8;omega)];exact hev
       have hwq:IntKind.i64.wrap ev=ev:=wrap_i64 (by have:=HEV.out;omega);have hwn:IntKind.i64.wrap (- -(k:Int))=(k:Int):=(wrap_i64 (by omega)).trans (by omega);have hwk:IntKind.i64.wrap (k:Int)=(k:Int):=wrap_i64 (by omega);have HLO:=hdd (uD HA7.out HT.out);have hxk:val zs/2^k=sqX x P:=by unfold sqX;rw[if_neg hN,hk,show(- -(k:Int)).toNat=k from by omega,HVM.out]
       have HXK:=hdd hxk;have HMM:Hid (∀r:Nat,(decide (ctz (val zs)<k)||decide (0<bits r))=((decide (sqN x P<0)&&decide ((ctz (sqM x):Int)< -sqN x P))||decide (0<bits r))):=hdd (fun r=>by
        rw[decide_eq_true (by omega:sqN x P<0),hk,show- -(k:Int)=(k:Int) from by omega,HVM.out,Bool.true_and];congr 1;exact decide_eq_decide.2 (by omega))
       have hN':¬(0<=-(k:Int)):=by omega
       have hk0:¬(k=0):=by omega
       have hk0':¬((k:Int)<=0):=by omega
       clear hkl hxk hev;rw[hk]at hw4;go_wp2_with fail
       refine HLO.out.mono ?_;rintro r w8⟨rfl,k8,rfl⟩;have HB8:=hdd (below_drewN w7 k8);have HX8:=hdd (HA7.out.below HB8.out);have HRT:=hdd (kC (n:=k) HX8.out (by have:=HNB.out;omega));rw[HXK.out]at HRT;clear HLO;go_wp2_with fail
       refine HRT.out.mono ?_;rintro r w8⟨hb,v8,ts,rfl,hz8,tz8,hvz8⟩;obtain⟨A7,c7,rfl,-⟩:=id hz8;replace HB8:=hdd (HB8.out.trans (hb.mono HB8.out.size));have HZ8:=hdd hz8;have HTZ8:=hdd tz8;have HVZ8:=hdd hvz8;clear hb hz8 tz8 hvz8 HRT HX8;have HSQ:=hdd (qJ (w:=w8) HZ8.out (by have h9:=bP ts HZ8.out.ok HTZ8.out;rw[HVZ8.out]at h9;have:=HXB.out;omega));rw[HVZ8.out]at HSQ;go_wp2_with fail
       refine HSQ.out.mono ?_;rintro r w9⟨hb,v1,v2,qs,rs,rfl,hq1,hq2,hq3,hr1,hr2,hr3⟩;obtain⟨A8,c8,rfl,-⟩:=id hq1;obtain⟨A9,c9,rfl,-⟩:=id hr1;have HQ1:=hdd hq1;have HQ2:=hdd hq2;have HQ3:=hdd hq3;have HR3:=hdd hr3;have HBR:=hdd (dK hr1);have hbw:=HB8.out.trans (hb.mono HB8.out.size);have HT9:=hdd (HT.out.below hbw);have B29:=hdd (hbl B2.out hbw);have HB9:=hdd (HB.out.trans (hbw.mono HB.out.size));have HS9:Hid (w.heap.size+2<=w9.heap.size):=hdd (by have:=HS.out;have:=hbw.size;omega);clear hb hq1 hq2 hq3 hr1 hr2 hr3 HSQ hbw;have HM1:Hid (sqR x P=(decide (ctz (val zs)<k)||decide (0<bits (val rs)))):=hdd (by
        unfold sqR;rw[<-HR3.out,<-HMM.out])
       by_cases hlo:ctz (val zs)<k
       . have HM2:Hid (sqR x P=true):=hdd (by rw[HM1.out,decide_eq_true hlo];rfl)
         have HBT:=hdd (eD (neg:=false) (more:=true) (e:=ev) (P:=P) (dir:=dir) HQ1.out HQ2.out HT9.out (by rw[HQ3.out];exact bg8 (dE (fO _)) (bg8 HXB.out (by omega))) (by have:=HEV.out;omega) HPP.out);go_wp2_with fail
         refine HBT.out.mono ?_;rintro r w11⟨hb,v11,hz⟩;obtain⟨rfl,hz⟩:=hz;obtain⟨b9',A9',n9',c9',rfl,-⟩:=id hz;have B11:=hbl B29.out hb;obtain⟨e0,e1,e2,e3,e4,e5⟩:=cells3 B11;obtain⟨HFF,hFF⟩:=aT (HB9.out.trans (hb.mono HB9.out.size)) (g:=w.heap.size+1) (by omega) B11 hz (fun b hb=>by have:=HS9.out;omega);replace hFF:=hdd hFF;have HEQ:Hid (bE false (val qs) (ev) true P dir=aU x P dir):=hdd (by
          have hm:=(HM2.out.symm:true=sqR x P);unfold aU;rw[if_neg HZ.out,HQ3.out,hm,HEE.out])
         clear hb hz B11 HBT;go_wp2;obtain⟨f0,f1,f2,-,-,-⟩:=cells3 hFF.out;refine bodyPost_ret (v:=.tuple #[.agg #[_,_,_],_]) (by simp[results,Tryz.results213,go_sem,f0,f1,f2];first|exact⟨⟨rfl,rfl,rfl⟩,rfl⟩|rfl) rfl ?_;rw[<-HEQ.out];exact eX HFF.out
       . have HM2:Hid (sqR x P=decide (0<bits (val rs))):=hdd (by rw[HM1.out,decide_eq_false hlo];rfl)
         go_wp2_with fail
         refine HBR.out.mono ?_;rintro r w10⟨rfl,k10,rfl⟩;have hd:=below_drewN w9 k10;replace HT9:=hdd (HT9.out.below hd);replace B29:=hdd (hbl B29.out hd);replace HB9:=hdd (HB9.out.trans (hd.mono HB9.out.size));replace HS9:Hid (w.heap.size+2<=(w9.drewN k10).heap.size):=hdd (by have:=HS9.out;have:=hd.size;omega);replace HQ1:=hdd (HQ1.out.below hd);clear hd HBR;generalize w9.drewN k10=w10 at*;have HBT:=hdd (eD (neg:=false) (more:=(decide (0<bits (val rs)))) (e:=ev) (P:=P) (dir:=dir) HQ1.out HQ2.out HT9.out (by rw[HQ3.out];exact bg8 (dE (fO _)) (bg8 HXB.out (by omega))) (by have:=HEV.out;omega) HPP.out);go_wp2_with fail
         refine HBT.out.mono ?_;rintro r w11⟨hb,v11,hz⟩;obtain⟨rfl,hz⟩:=hz;obtain⟨b9',A9',n9',c9',rfl,-⟩:=id hz;have B11:=hbl B29.out hb;obtain⟨e0,e1,e2,e3,e4,e5⟩:=cells3 B11;obtain⟨HFF,hFF⟩:=aT (HB9.out.trans (hb.mono HB9.out.size)) (g:=w.heap.size+1) (by omega) B11 hz (fun b hb=>by have:=HS9.out;omega);replace hFF:=hdd hFF;have HEQ:Hid (bE false (val qs) (ev) (decide (0<bits (val rs))) P dir=aU x P dir):=hdd (by
          have hm:=(HM2.out.symm:decide (0<bits (val rs))=sqR x P);unfold aU;rw[if_neg HZ.out,HQ3.out,hm,HEE.out])
         clear hb hz B11 HBT;go_wp2;obtain⟨f0,f1,f2,-,-,-⟩:=cells3 hFF.out;refine bodyPost_ret (v:=.tuple #[.agg #[_,_,_],_]) (by simp[results,Tryz.results213,go_sem,f0,f1,f2];first|exact⟨⟨rfl,rfl,rfl⟩,rfl⟩|rfl) rfl ?_;rw[<-HEQ.out];exact eX HFF.out
   . have hand:Go.bits BinOp.and IntKind.i64 x.exp 1=1:=(uY x.exp).trans hpar
     have HE:Hid (sqE x=x.exp-1):=hdd (by unfold sqE;rw[if_neg (by omega)]);have hwx:IntKind.i64.wrap (x.exp-1)=x.exp-1:=wrap_i64 (by have:=HSX.out.2;omega);have HLA:=hdd (iW (n:=1) HZ6.out (by omega) (iB HZ6.out.ok HTZ6.out (by have:=HSX.out.1;rw[HV.out];omega)));go_wp2_with fail
     refine HLA.out.mono ?_;rintro r wl⟨hb,vl,us,rfl,hzl,tzl,hvzl⟩;obtain⟨AL,cL,rfl,-⟩:=id hzl;have HVM:Hid (val us=sqM x):=hdd (by unfold sqM;rw[if_neg (by omega),hvzl,HV.out,bhC]);have HZL:=hdd hzl;have HTZA:=hdd tzl;replace HT:=hdd (HT.out.below hb);replace B2:=hdd (hbl B2.out hb);replace HB:=hdd (HB.out.trans (hb.mono HB.out.size));replace HS:Hid (w.heap.size+2<=wl.heap.size):=hdd (by have:=HS.out;have:=hb.size;omega);clear hb hzl tzl hvzl HLA;have HWD:=hdd (xM HPP.out wl);have HBX:=hdd (dK HZL.out);have HMB:Hid (bits (val us)<=400001):=hdd (by rw[HVM.out];exact xN HSX.out.1);have hw1:IntKind.i64.wrap (P+2)=P+2:=wrap_i64 (by have:=HPP.out;omega);have hw2:IntKind.i64.wrap (2*(P+2))=2*(P+2):=wrap_i64 (by have:=HPP.out;omega);obtain⟨n0,hn0⟩:∃n0:Int,2*(P+2)-bits (val us)=n0:=⟨_,rfl⟩;obtain⟨r0,hr0⟩:∃r0:Int,n0%2=r0:=⟨_,rfl⟩;have hw3:IntKind.i64.wrap (2*(P+2)-bits (val us))=n0:=(wrap_i64 (by have:=HPP.out;have:=HMB.out;omega)).trans hn0;have hnn:sqN x P=n0+r0:=by unfold sqN;rw[<-HVM.out,hn0,hr0]
     have hand2:Go.bits BinOp.and IntKind.i64 n0 1=r0:=(uY n0).trans hr0;have hw4:IntKind.i64.wrap (n0+r0)=sqN x P:=(wrap_i64 (by have:=HPP.out;have:=HMB.out;omega)).trans hnn.symm;have HNB:Hid (-1000000<=sqN x P/\sqN x P<=1000000/\sqN x P%2=0):=hdd (by have:=HPP.out;have:=HMB.out;omega);clear hn0 hr0;have HXB:Hid (bits (sqX x P)<=900000):=hdd (acW HSX.out.1 HPP.out);clear hnn;go_wp2_with fail
     refine HWD.out.mono ?_;rintro r wq⟨rfl,hw⟩;obtain rfl:=hw;go_wp2_with fail
     refine HBX.out.mono ?_;rintro r w7⟨rfl,k7,rfl⟩;have hd:=below_drewN wl k7;have HA7:=hdd (HZL.out.below hd);replace HT:=hdd (HT.out.below hd);replace B2:=hdd (hbl B2.out hd);replace HB:=hdd (HB.out.trans (hd.mono HB.out.size));replace HS:Hid (w.heap.size+2<=(wl.drewN k7).heap.size):=hdd (by have:=HS.out;have:=hd.size;omega);clear hd HWD HBX;generalize wl.drewN k7=w7 at*;by_cases hN:0<=sqN x P
     . obtain⟨k,hk⟩:∃k:Nat,sqN x P=k:=⟨(sqN x P).toNat,by omega⟩
       have hkl:k<=1000000:=by have:=HNB.out;omega
       have HKA:=hdd hk;obtain⟨ev,hev⟩:∃ev:Int,(x.exp-1-(k:Int))/2=ev:=⟨_,rfl⟩;have HEV:Hid (-40000000<=ev/\ev<=40000000):=hdd (by have:=HSX.out.2;omega);have HEE:Hid ((sqE x-sqN x P)/2=ev):=hdd (by rw[HE.out,hk,hev]);have hwe:IntKind.i64.wrap (x.exp-1-(k:Int))=x.exp-1-(k:Int):=wrap_i64 (by have:=HSX.out.2;omega);have hq:(x.exp-1-(k:Int)).tdiv 2=ev:=by rw[bg9 (by have:=HNB.out;have h8:sqE x%2=0:=(by unfold sqE;split<;>omega);rw[HE.out]at h8;omega)];exact hev
       have hwq:IntKind.i64.wrap ev=ev:=wrap_i64 (by have:=HEV.out;omega);have HLF:=hdd (iW (n:=k) HA7.out (by omega) (iB HA7.out.ok HTZA.out (by have:=HMB.out;omega)));have hxk:val us*2^k=sqX x P:=by unfold sqX;rw[if_pos hN,hk,bhB,HVM.out]
       rw[hxk]at HLF;have HMM:Hid (∀r:Nat,decide (0<bits r)=((decide (sqN x P<0)&&decide ((ctz (sqM x):Int)< -sqN x P))||decide (0<bits r))):=hdd (fun r=>by rw[decide_eq_false (by omega:¬sqN x P<0)];simp);clear hkl hxk hev;rw[hk]at hw4 hN;go_wp2_with fail
       refine HLF.out.mono ?_;rintro r w8⟨hb,v8,ts,rfl,hz8,tz8,hvz8⟩;obtain⟨A7,c7,rfl,-⟩:=id hz8;have HB8:=hdd hb;have HZ8:=hdd hz8;have HTZ8:=hdd tz8;have HVZ8:=hdd hvz8;clear hb hz8 tz8 hvz8 HLF;have HSQ:=hdd (qJ (w:=w8) HZ8.out (by have h9:=bP ts HZ8.out.ok HTZ8.out;rw[HVZ8.out]at h9;have:=HXB.out;omega));rw[HVZ8.out]at HSQ;go_wp2_with fail
       refine HSQ.out.mono ?_;rintro r w9⟨hb,v1,v2,qs,rs,rfl,hq1,hq2,hq3,hr1,hr2,hr3⟩;obtain⟨A8,c8,rfl,-⟩:=id hq1;obtain⟨A9,c9,rfl,-⟩:=id hr1;have HQ1:=hdd hq1;have HQ2:=hdd hq2;have HQ3:=hdd hq3;have HR3:=hdd hr3;have HBR:=hdd (dK hr1);have hbw:=HB8.out.trans (hb.mono HB8.out.size);have HT9:=hdd (HT.out.below hbw);have B29:=hdd (hbl B2.out hbw);have HB9:=hdd (HB.out.trans (hbw.mono HB.out.size));have HS9:Hid (w.heap.size+2<=w9.heap.size):=hdd (by have:=HS.out;have:=hbw.size;omega);clear hb hq1 hq2 hq3 hr1 hr2 hr3 HSQ hbw;go_wp2_with fail
       refine HBR.out.mono ?_;rintro r w10⟨rfl,k10,rfl⟩;have hd:=below_drewN w9 k10;replace HT9:=hdd (HT9.out.below hd);replace B29:=hdd (hbl B29.out hd);replace HB9:=hdd (HB9.out.trans (hd.mono HB9.out.size));replace HS9:Hid (w.heap.size+2<=(w9.drewN k10).heap.size):=hdd (by have:=HS9.out;have:=hd.size;omega);replace HQ1:=hdd (HQ1.out.below hd);clear hd HBR;generalize w9.drewN k10=w10 at*;have HM1:Hid (sqR x P=decide (0<bits (val rs))):=hdd (by
        unfold sqR;rw[<-HR3.out,<-HMM.out])
       have HBT:=hdd (eD (neg:=false) (more:=(decide (0<bits (val rs)))) (e:=ev) (P:=P) (dir:=dir) HQ1.out HQ2.out HT9.out (by rw[HQ3.out];exact bg8 (dE (fO _)) (bg8 HXB.out (by omega))) (by have:=HEV.out;omega) HPP.out);go_wp2_with fail
       refine HBT.out.mono ?_;rintro r w11⟨hb,v11,hz⟩;obtain⟨rfl,hz⟩:=hz;obtain⟨b9',A9',n9',c9',rfl,-⟩:=id hz;have B11:=hbl B29.out hb;obtain⟨e0,e1,e2,e3,e4,e5⟩:=cells3 B11;obtain⟨HFF,hFF⟩:=aT (HB9.out.trans (hb.mono HB9.out.size)) (g:=w.heap.size+1) (by omega) B11 hz (fun b hb=>by have:=HS9.out;omega);replace hFF:=hdd hFF;have HEQ:Hid (bE false (val qs) (ev) (decide (0<bits (val rs))) P dir=aU x P dir):=hdd (by
        have hm:=(HM1.out.symm:decide (0<bits (val rs))=sqR x P);unfold aU;rw[if_neg HZ.out,HQ3.out,hm,HEE.out])
       clear hb hz B11 HBT;go_wp2;obtain⟨f0,f1,f2,-,-,-⟩:=cells3 hFF.out;refine bodyPost_ret (v:=.tuple #[.agg #[_,_,_],_]) (by simp[results,Tryz.results213,go_sem,f0,f1,f2];first|exact⟨⟨rfl,rfl,rfl⟩,rfl⟩|rfl) rfl ?_;rw[<-HEQ.out];exact eX HFF.out
     . obtain⟨k,hk⟩:∃k:Nat,sqN x P=-(k:Int):=⟨(-sqN x P).toNat,by omega⟩
       have hkl:k<=1000000:=by have:=HNB.out;omega
       have hk1:1<=k:=by omega
       have HKA:=hdd hk;obtain⟨ev,hev⟩:∃ev:Int,(x.exp-1+(k:Int))/2=ev:=⟨_,rfl⟩;have HEV:Hid (-40000000<=ev/\ev<=40000000):=hdd (by have:=HSX.out.2;omega);have HEE:Hid ((sqE x-sqN x P)/2=ev):=hdd (by rw[HE.out,hk,show x.exp-1- -(k:Int)=x.exp-1+(k:Int) from by omega,hev]);have hwe:IntKind.i64.wrap (x.exp-1+(k:Int))=x.exp-1+(k:Int):=wrap_i64 (by have:=HSX.out.2;omega);have hq:(x.exp-1+(k:Int)).tdiv 2=ev:=by rw[bg9 (by have:=HNB.out;have h8:sqE x%2=0:=(by unfold sqE;split<;>omega);rw[HE.out]at h8;omega)];exact hev
       have hwq:IntKind.i64.wrap ev=ev:=wrap_i64 (by have:=HEV.out;omega);have hwn:IntKind.i64.wrap (- -(k:Int))=(k:Int):=(wrap_i64 (by omega)).trans (by omega);have hwk:IntKind.i64.wrap (k:Int)=(k:Int):=wrap_i64 (by omega);have HLO:=hdd (uD HA7.out HT.out);have hxk:val us/2^k=sqX x P:=by unfold sqX;rw[if_neg hN,hk,show(- -(k:Int)).toNat=k from by omega,HVM.out]
       have HXK:=hdd hxk;have HMM:Hid (∀r:Nat,(decide (ctz (val us)<k)||decide (0<bits r))=((decide (sqN x P<0)&&decide ((ctz (sqM x):Int)< -sqN x P))||decide (0<bits r))):=hdd (fun r=>by
        rw[decide_eq_true (by omega:sqN x P<0),hk,show- -(k:Int)=(k:Int) from by omega,HVM.out,Bool.true_and];congr 1;exact decide_eq_decide.2 (by omega))
       have hN':¬(0<=-(k:Int)):=by omega
       have hk0:¬(k=0):=by omega
       have hk0':¬((k:Int)<=0):=by omega
       clear hkl hxk hev;rw[hk]at hw4;go_wp2_with fail
       refine HLO.out.mono ?_;rintro r w8⟨rfl,k8,rfl⟩;have HB8:=hdd (below_drewN w7 k8);have HX8:=hdd (HA7.out.below HB8.out);have HRT:=hdd (kC (n:=k) HX8.out (by have:=HNB.out;omega));rw[HXK.out]at HRT;clear HLO;go_wp2_with fail
       refine HRT.out.mono ?_;rintro r w8⟨hb,v8,ts,rfl,hz8,tz8,hvz8⟩;obtain⟨A7,c7,rfl,-⟩:=id hz8;replace HB8:=hdd (HB8.out.trans (hb.mono HB8.out.size));have HZ8:=hdd hz8;have HTZ8:=hdd tz8;have HVZ8:=hdd hvz8;clear hb hz8 tz8 hvz8 HRT HX8;have HSQ:=hdd (qJ (w:=w8) HZ8.out (by have h9:=bP ts HZ8.out.ok HTZ8.out;rw[HVZ8.out]at h9;have:=HXB.out;omega));rw[HVZ8.out]at HSQ;go_wp2_with fail
       refine HSQ.out.mono ?_;rintro r w9⟨hb,v1,v2,qs,rs,rfl,hq1,hq2,hq3,hr1,hr2,hr3⟩;obtain⟨A8,c8,rfl,-⟩:=id hq1;obtain⟨A9,c9,rfl,-⟩:=id hr1;have HQ1:=hdd hq1;have HQ2:=hdd hq2;have HQ3:=hdd hq3;have HR3:=hdd hr3;have HBR:=hdd (dK hr1);have hbw:=HB8.out.trans (hb.mono HB8.out.size);have HT9:=hdd (HT.out.below hbw);have B29:=hdd (hbl B2.out hbw);have HB9:=hdd (HB.out.trans (hbw.mono HB.out.size));have HS9:Hid (w.heap.size+2<=w9.heap.size):=hdd (by have:=HS.out;have:=hbw.size;omega);clear hb hq1 hq2 hq3 hr1 hr2 hr3 HSQ hbw;have HM1:Hid (sqR x P=(decide (ctz (val us)<k)||decide (0<bits (val rs)))):=hdd (by
        unfold sqR;rw[<-HR3.out,<-HMM.out])
       by_cases hlo:ctz (val us)<k
       . have HM2:Hid (sqR x P=true):=hdd (by rw[HM1.out,decide_eq_true hlo];rfl)
         have HBT:=hdd (eD (neg:=false) (more:=true) (e:=ev) (P:=P) (dir:=dir) HQ1.out HQ2.out HT9.out (by rw[HQ3.out];exact bg8 (dE (fO _)) (bg8 HXB.out (by omega))) (by have:=HEV.out;omega) HPP.out);go_wp2_with fail
         refine HBT.out.mono ?_;rintro r w11⟨hb,v11,hz⟩;obtain⟨rfl,hz⟩:=hz;obtain⟨b9',A9',n9',c9',rfl,-⟩:=id hz;have B11:=hbl B29.out hb;obtain⟨e0,e1,e2,e3,e4,e5⟩:=cells3 B11;obtain⟨HFF,hFF⟩:=aT (HB9.out.trans (hb.mono HB9.out.size)) (g:=w.heap.size+1) (by omega) B11 hz (fun b hb=>by have:=HS9.out;omega);replace hFF:=hdd hFF;have HEQ:Hid (bE false (val qs) (ev) true P dir=aU x P dir):=hdd (by
          have hm:=(HM2.out.symm:true=sqR x P);unfold aU;rw[if_neg HZ.out,HQ3.out,hm,HEE.out])
         clear hb hz B11 HBT;go_wp2;obtain⟨f0,f1,f2,-,-,-⟩:=cells3 hFF.out;refine bodyPost_ret (v:=.tuple #[.agg #[_,_,_],_]) (by simp[results,Tryz.results213,go_sem,f0,f1,f2];first|exact⟨⟨rfl,rfl,rfl⟩,rfl⟩|rfl) rfl ?_;rw[<-HEQ.out];exact eX HFF.out
       . have HM2:Hid (sqR x P=decide (0<bits (val rs))):=hdd (by rw[HM1.out,decide_eq_false hlo];rfl)
         go_wp2_with fail
         refine HBR.out.mono ?_;rintro r w10⟨rfl,k10,rfl⟩;have hd:=below_drewN w9 k10;replace HT9:=hdd (HT9.out.below hd);replace B29:=hdd (hbl B29.out hd);replace HB9:=hdd (HB9.out.trans (hd.mono HB9.out.size));replace HS9:Hid (w.heap.size+2<=(w9.drewN k10).heap.size):=hdd (by have:=HS9.out;have:=hd.size;omega);replace HQ1:=hdd (HQ1.out.below hd);clear hd HBR;generalize w9.drewN k10=w10 at*;have HBT:=hdd (eD (neg:=false) (more:=(decide (0<bits (val rs)))) (e:=ev) (P:=P) (dir:=dir) HQ1.out HQ2.out HT9.out (by rw[HQ3.out];exact bg8 (dE (fO _)) (bg8 HXB.out (by omega))) (by have:=HEV.out;omega) HPP.out);go_wp2_with fail
         refine HBT.out.mono ?_;rintro r w11⟨hb,v11,hz⟩;obtain⟨rfl,hz⟩:=hz;obtain⟨b9',A9',n9',c9',rfl,-⟩:=id hz;have B11:=hbl B29.out hb;obtain⟨e0,e1,e2,e3,e4,e5⟩:=cells3 B11;obtain⟨HFF,hFF⟩:=aT (HB9.out.trans (hb.mono HB9.out.size)) (g:=w.heap.size+1) (by omega) B11 hz (fun b hb=>by have:=HS9.out;omega);replace hFF:=hdd hFF;have HEQ:Hid (bE false (val qs) (ev) (decide (0<bits (val rs))) P dir=aU x P dir):=hdd (by
          have hm:=(HM2.out.symm:decide (0<bits (val rs))=sqR x P);unfold aU;rw[if_neg HZ.out,HQ3.out,hm,HEE.out])
         clear hb hz B11 HBT;go_wp2;obtain⟨f0,f1,f2,-,-,-⟩:=cells3 hFF.out;refine bodyPost_ret (v:=.tuple #[.agg #[_,_,_],_]) (by simp[results,Tryz.results213,go_sem,f0,f1,f2];first|exact⟨⟨rfl,rfl,rfl⟩,rfl⟩|rfl) rfl ?_;rw[<-HEQ.out];exact eX HFF.out
end Go.Proofs.YtjaafolhfihegaaGreatDoor
