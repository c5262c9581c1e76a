/- A part of the proof: contracts of functions and plain laws (BaD, BaE, BlT). -/
import Derived.Test.YtigoiiekebccnaaGreatDoorK24
import Derived.Test.YtigoiiekebccnaaGreatDoorK26
import Derived.Test.YtigoiiekebccnaaGreatDoorK23
set_option linter.unusedVariables false
set_option linter.unusedSimpArgs false
set_option linter.unnecessarySimpa false
set_option maxHeartbeats 25600000
set_option maxRecDepth 100000
namespace Go.Proofs.YtigoiiekebccnaaGreatDoor
section
open Go.RowKit
open Go.Instr renaming index->bgL
open Int renaming sign_neg_iff->bgM
open Nat renaming le_trans->bgN
variable{x y:Bl}{P:Int}{B:Nat}{p q:Nat->Prop}{va vb:Value}
def fZ(B:Nat)(w0:World)(d:Bl)(t:Bool)(e:Ending)(w':World):Prop:=Below B w0 w'/\∃v,e=.returned (.tuple #[v,.bool t])/\BlP (fun b=>B<=b) w' v d
theorem fB{w0 w':World}{d:Bl}{v:Value}{t:Bool}(h:mH B w0 d (.returned v) w'):fZ B w0 d t (.returned (.tuple #[v,.bool t])) w':=by
 obtain⟨h1,v',e,h2⟩:=h;injection e with e;exact⟨h1,v,rfl,by rw[e];exact h2⟩
def anY(B:Nat)(w0:World)(e:Ending)(w':World):Prop:=Below B w0 w'/\∃(b1:Bool) (A1:Option Addr) (n1 c1:Nat) (e1:Int) (b2:Bool) (A2:Option Addr) (n2 c2:Nat) (e2:Int),e=.returned (.tuple #[.agg #[.bool b1,.slice A1 n1 c1,.int .i64 e1,.bool b2,.slice A2 n2 c2,.int .i64 e2],.bool false])
def SmQB(b:Bl):Prop:=SmQ b.lo/\SmQ b.hi
theorem ad1{w:World}(hx:BlP p w va x)(hT:Tab w)(sx:SmQB x)(hP:1<=P/\P<=65536)(h0:0<=x.hi.man):
 Calls Tryz.prog 346 #[va,.int .i64 P] w (fZ w.heap.size w ⟨aL (aS x) P (-1),aL x.hi P 1⟩ true):=by
 obtain⟨ba,A,n,c,bb,A',n',c',rfl,h,h'⟩:=hx;obtain⟨w2,hw2,hb2,hs2,b1,b2⟩:=pro2 w (.cells #[Value.bool ba,.slice A n c,.int .i64 x.lo.exp,Value.bool bb,.slice A' n' c',.int .i64 x.hi.exp] 235) (.cells #[Value.bool false,Value.slice none 0 0,.int .i64 0,Value.bool false,Value.slice none 0 0,.int .i64 0] 235);have HB:=hdd hb2;have HS:Hid (w.heap.size+2<=w2.heap.size):=hdd (by omega);have B2:=hdd b2;have B1:=hdd b1;obtain⟨c0,c1,c2,c3,c4,c5⟩:=aG b1;have D1:Hid (IntP p w2 (.agg #[.bool ba,.slice A n c]) x.lo.man):=hdd (h.below hb2);have D2:Hid (IntP p w2 (.agg #[.bool bb,.slice A' n' c']) x.hi.man):=hdd (h'.below hb2);have HT:=hdd (hT.below hb2);have HT0:=hdd hT;have HSX:=hdd sx;have HPP:=hdd hP;have HH0:=hdd h0;have hsg:¬(x.hi.man.sign<0):=by
  intro h;have:=bgM.1 h;omega
 have HSG:=hdd (cO (d:=x.hi) ⟨_,_,_,_,rfl,D2.out⟩);have hnn:¬(x.hi.man<0):=by omega
 clear h h' hb2 b1 b2 hs2 hT sx hP;go_enter Tryz.func346,Tryz.ntmps346
 go_wp2_with fail
 refine HSG.out.mono ?_;rintro r w3⟨rfl,hb⟩;replace D1:=hdd (D1.out.below hb);replace D2:=hdd (D2.out.below hb);replace HT:=hdd (HT.out.below hb);replace B1:=hdd (hbl B1.out hb);replace B2:=hdd (hbl B2.out hb);replace HB:=hdd (HB.out.trans (hb.mono HB.out.size));replace HS:Hid (w.heap.size+2<=w3.heap.size):=hdd (by have:=HS.out;have:=hb.size;omega);clear hb HSG c0 c1 c2 c3 c4 c5;obtain⟨c0,c1,c2,c3,c4,c5⟩:=aG B1.out
 -- the variable least, at w3's end
 obtain⟨wa,hwa,hba,hsa,q1⟩:=pro1 w3 (.cells #[Value.bool false,Value.slice none 0 0,.int .i64 0] 233);obtain⟨e0,e1,e2,e3,e4,e5⟩:=cells3 q1;have F:(((wa.setCell ⟨w3.heap.size,0,none⟩ (.bool ba)).setCell ⟨w3.heap.size,1,none⟩ (.slice A n c)).setCell ⟨w3.heap.size,2,none⟩ (.int .i64 x.lo.exp)).heap[w3.heap.size]? =some (.cells #[.bool ba,.slice A n c,.int .i64 x.lo.exp] 233 (0,0))/\Below w3.heap.size w3 (((wa.setCell ⟨w3.heap.size,0,none⟩ (.bool ba)).setCell ⟨w3.heap.size,1,none⟩ (.slice A n c)).setCell ⟨w3.heap.size,2,none⟩ (.int .i64 x.lo.exp)):=⟨set3 q1 _ _ _,bM hba nlr ba A n c x.lo.exp⟩;clear q1 hba hsa;generalize hW:((wa.setCell ⟨w3.heap.size,0,none⟩ (.bool ba)).setCell ⟨w3.heap.size,1,none⟩ (.slice A n c)).setCell ⟨w3.heap.size,2,none⟩ (.int .i64 x.lo.exp)=wb at F;obtain⟨q1,hb⟩:=F;obtain⟨x0,x1,x2,-,-,-⟩:=cells3 q1;replace D1:=hdd (D1.out.weak (q:=fun b=>b<w3.heap.size) fun b _ h=>h);replace D2:=hdd (D2.out.weak (q:=fun b=>b<w3.heap.size) fun b _ h=>h);replace D1:=hdd (D1.out.below hb);replace D2:=hdd (D2.out.below hb);replace HT:=hdd (HT.out.below hb)
 replace B1:=hdd (hbl B1.out hb);replace B2:=hdd (hbl B2.out hb);have HBb:=hdd (HB.out.trans (hb.mono HB.out.size));have HX:=hdd q1;have HSG:=hdd (cO (d:=x.lo) ⟨_,_,_,_,rfl,D1.out⟩);clear q1 hb;go_wp2_with fail
 refine HSG.out.mono ?_;rintro r w4⟨rfl,hb⟩;replace D1:=hdd (D1.out.below hb);replace D2:=hdd (D2.out.below hb);replace HT:=hdd (HT.out.below hb);replace B1:=hdd (hbl B1.out hb);replace B2:=hdd (hbl B2.out hb);replace HBb:=hdd (HBb.out.trans (hb.mono HBb.out.size));replace HX:=hdd (hbl HX.out hb);clear hb HSG x0 x1 x2 c0 c1 c2 c3 c4 c5;have HBB:=hdd HBb.out;have HS4:Hid (w.heap.size+2<=w4.heap.size):=hdd (by have h1:=HBb.out.size;have:=HS.out;have:=aD HX.out;omega);by_cases hlt:x.lo.man<0
 . have hsl:x.lo.man.sign<0:=bgM.2 hlt
   have hle:aS x=⟨0,0⟩:=by unfold aS;rw[if_pos hlt]
   obtain⟨x0,x1,x2,x3,x4,x5⟩:=cells3 HX.out;have F:(((w4.setCell ⟨w3.heap.size,0,none⟩ (.bool false)).setCell ⟨w3.heap.size,1,none⟩ (.slice none 0 0)).setCell ⟨w3.heap.size,2,none⟩ (.int .i64 0)).heap[w3.heap.size]? =some (.cells #[.bool false,.slice none 0 0,.int .i64 0] 233 (0,0))/\Below w3.heap.size w4 (((w4.setCell ⟨w3.heap.size,0,none⟩ (.bool false)).setCell ⟨w3.heap.size,1,none⟩ (.slice none 0 0)).setCell ⟨w3.heap.size,2,none⟩ (.int .i64 0))/\IntP (fun b=>b<w3.heap.size) (((w4.setCell ⟨w3.heap.size,0,none⟩ (.bool false)).setCell ⟨w3.heap.size,1,none⟩ (.slice none 0 0)).setCell ⟨w3.heap.size,2,none⟩ (.int .i64 0)) (.agg #[.bool bb,.slice A' n' c']) x.hi.man/\Tab (((w4.setCell ⟨w3.heap.size,0,none⟩ (.bool false)).setCell ⟨w3.heap.size,1,none⟩ (.slice none 0 0)).setCell ⟨w3.heap.size,2,none⟩ (.int .i64 0))/\(((w4.setCell ⟨w3.heap.size,0,none⟩ (.bool false)).setCell ⟨w3.heap.size,1,none⟩ (.slice none 0 0)).setCell ⟨w3.heap.size,2,none⟩ (.int .i64 0)).heap.size=w4.heap.size:=
    ⟨set3 HX.out _ _ _,bM (Below.refl _ _) nlr false none 0 0 0,dO D2.out (fun b hb=>by have:b<w3.heap.size:=hb;omega) false none 0 0 0,HT0.out.below (bM (HBB.out) (by have:=HS.out;omega) false none 0 0 0),ag8 (b:=false) (A:=none) (n:=0) (c:=0) (e:=0)⟩
   generalize hWl:(((w4.setCell ⟨w3.heap.size,0,none⟩ (.bool false)).setCell ⟨w3.heap.size,1,none⟩ (.slice none 0 0)).setCell ⟨w3.heap.size,2,none⟩ (.int .i64 0))=wl at F;obtain⟨F1,F2,F3,F4,F5⟩:=F;replace D2:=hdd F3;replace HT:=hdd F4;replace B1:=hdd (aC B1.out F2 (by have:=HS.out;omega));replace B2:=hdd (aC B2.out F2 (by have:=HS.out;omega));replace HBb:=hdd (HBb.out.trans (F2.mono (by have:=HS.out;omega)));replace HS4:Hid (w.heap.size+2<=wl.heap.size):=hdd (by have:=HS4.out;omega);have DZ:Hid (IntP AnyB wl (.agg #[.bool false,.slice none 0 0]) (aS x).man):=hdd (by rw[hle];exact⟨_,[],rfl,NatP.nil _,Tr.nil,rfl⟩);have HLE:=hdd hle;have hex:(aS x).exp=0:=by rw[hle]
   obtain⟨z0,z1,z2,-,-,-⟩:=cells3 F1;clear F1 F2 F3 F4 F5 hle;have HQ1:Hid (Calls Tryz.prog 362 #[.agg #[.bool false,.slice none 0 0,.int .i64 0],.int .i64 P,.int .i64 (-1)] wl (sF wl.heap.size wl (aL (aS x) P (-1)) true)):=hdd (nT (dir:=-1) (x:=aS x) ⟨_,_,_,_,by rw[hex],DZ.out⟩ HT.out (by rw[HLE.out];exact⟨by show bits 0<=400000;have:bits 0=0:=rfl;omega,by decide,by decide⟩) HPP.out (kM x).1);go_wp2_with fail
   refine HQ1.out.mono ?_;rintro r w5⟨hb,v5,rfl,hz5⟩;obtain⟨b5,A5,n5,k5,rfl,hz5⟩:=hz5;have D5:=hdd (hz5.weak (q:=fun b=>w.heap.size+2<=b) fun b hb' _=>bgN (by have:=HS4.out;omega) hb');replace D2:=hdd (D2.out.below hb);replace HT:=hdd (HT.out.below hb);replace B1:=hdd (hbl B1.out hb);replace B2:=hdd (hbl B2.out hb);replace HBb:=hdd (HBb.out.trans (hb.mono HBb.out.size));have HS5:Hid (w.heap.size+2<=w5.heap.size):=hdd (by have:=HS4.out;have:=hb.size;omega);clear hb HQ1 hz5;obtain⟨ta6,hta6,hba,hsa,q1⟩:=pro1 w5 (.cells #[Value.bool false,Value.slice none 0 0,.int .i64 0] 233);obtain⟨e0,e1,e2,e3,e4,e5⟩:=cells3 q1;have F:(((ta6.setCell ⟨w5.heap.size,0,none⟩ (.bool b5)).setCell ⟨w5.heap.size,1,none⟩ (.slice A5 n5 k5)).setCell ⟨w5.heap.size,2,none⟩ (.int .i64 (aL (aS x) P (-1)).exp)).heap[w5.heap.size]? =some (.cells #[.bool b5,.slice A5 n5 k5,.int .i64 (aL (aS x) P (-1)).exp] 233 (0,0))/\Below w5.heap.size w5 (((ta6.setCell ⟨w5.heap.size,0,none⟩ (.bool b5)).setCell ⟨w5.heap.size,1,none⟩ (.slice A5 n5 k5)).setCell ⟨w5.heap.size,2,none⟩ (.int .i64 (aL (aS x) P (-1)).exp)):=⟨set3 q1 _ _ _,bM hba nlr b5 A5 n5 k5 (aL (aS x) P (-1)).exp⟩
   clear q1 hba hsa;generalize hWw6:(((ta6.setCell ⟨w5.heap.size,0,none⟩ (.bool b5)).setCell ⟨w5.heap.size,1,none⟩ (.slice A5 n5 k5)).setCell ⟨w5.heap.size,2,none⟩ (.int .i64 (aL (aS x) P (-1)).exp))=w6 at F;obtain⟨q6,hbw6⟩:=F;have Q6:=hdd q6;replace D5:=hdd (D5.out.below hbw6);replace D2:=hdd (D2.out.below hbw6);replace HT:=hdd (HT.out.below hbw6);replace B1:=hdd (hbl B1.out hbw6);replace B2:=hdd (hbl B2.out hbw6);replace HBb:=hdd (HBb.out.trans (hbw6.mono HBb.out.size));clear q6 hbw6;obtain⟨c0,c1,c2,c3,c4,c5⟩:=aG B1.out;have HQ2:=hdd (nT (dir:=1) (x:=x.hi) ⟨_,_,_,_,rfl,D2.out⟩ HT.out HSX.out.2 HPP.out HH0.out);go_wp2_with fail
   refine HQ2.out.mono ?_;rintro r w7⟨hb,v7,rfl,hz7⟩;obtain⟨b7,A7,n7,k7,rfl,hz7⟩:=hz7;have D7:=hdd (hz7.weak (q:=fun b=>w.heap.size+2<=b) fun b hb' _=>bgN (by have h1:=HBb.out.size;have h2:=HS5.out;have h3:=aD Q6.out;omega) hb');replace D5:=hdd (D5.out.below hb);replace Q6:=hdd (hbl Q6.out hb);replace B2:=hdd (hbl B2.out hb);replace HBb:=hdd (HBb.out.trans (hb.mono HBb.out.size));clear hb HQ2 hz7 c0 c1 c2 c3 c4 c5;obtain⟨ta8,hta8,hba,hsa,q1⟩:=pro1 w7 (.cells #[Value.bool false,Value.slice none 0 0,.int .i64 0] 233);obtain⟨e0,e1,e2,e3,e4,e5⟩:=cells3 q1;have F:(((ta8.setCell ⟨w7.heap.size,0,none⟩ (.bool b7)).setCell ⟨w7.heap.size,1,none⟩ (.slice A7 n7 k7)).setCell ⟨w7.heap.size,2,none⟩ (.int .i64 (aL x.hi P 1).exp)).heap[w7.heap.size]? =some (.cells #[.bool b7,.slice A7 n7 k7,.int .i64 (aL x.hi P 1).exp] 233 (0,0))/\Below w7.heap.size w7 (((ta8.setCell ⟨w7.heap.size,0,none⟩ (.bool b7)).setCell ⟨w7.heap.size,1,none⟩ (.slice A7 n7 k7)).setCell ⟨w7.heap.size,2,none⟩ (.int .i64 (aL x.hi P 1).exp)):=⟨set3 q1 _ _ _,bM hba nlr b7 A7 n7 k7 (aL x.hi P 1).exp⟩
   clear q1 hba hsa;generalize hWw8:(((ta8.setCell ⟨w7.heap.size,0,none⟩ (.bool b7)).setCell ⟨w7.heap.size,1,none⟩ (.slice A7 n7 k7)).setCell ⟨w7.heap.size,2,none⟩ (.int .i64 (aL x.hi P 1).exp))=w8 at F;obtain⟨q8,hbw8⟩:=F;replace D5:=hdd (D5.out.below hbw8);replace D7:=hdd (D7.out.below hbw8);replace Q6:=hdd (hbl Q6.out hbw8);replace B2:=hdd (hbl B2.out hbw8);replace HBb:=hdd (HBb.out.trans (hbw8.mono HBb.out.size));obtain⟨x0,x1,x2,-,-,-⟩:=cells3 Q6.out;obtain⟨y0,y1,y2,-,-,-⟩:=cells3 q8;obtain⟨e0,e1,e2,e3,e4,e5⟩:=aG B2.out;obtain⟨f0,f1,f2,f3,f4,f5⟩:=fV B2.out;obtain⟨HFF,hFF⟩:=bK (x:=⟨aL (aS x) P (-1),aL x.hi P 1⟩) HBb.out (g:=w.heap.size+1) (by omega) B2.out D5.out D7.out (fun b hb=>by omega);dsimp only at HFF hFF;replace hFF:=hdd hFF;clear q8 hbw8;go_wp2;obtain⟨f0,f1,f2,f3,f4,f5⟩:=aG hFF.out;unfold put6 at f0 f1 f2 f3 f4 f5;refine bodyPost_ret (v:=.tuple #[.agg #[_,_,_,_,_,_],_]) (by simp[results,Tryz.results346,go_sem,f0,f1,f2,f3,f4,f5];first|exact⟨⟨rfl,rfl,rfl,rfl,rfl,rfl⟩,rfl⟩|rfl) rfl ?_
   exact fB HFF.out
 . have hsl:¬(x.lo.man.sign<0):=fun h=>hlt (bgM.1 h)
   have hle:aS x=x.lo:=by unfold aS;rw[if_neg hlt]
   obtain⟨x0,x1,x2,x3,x4,x5⟩:=cells3 HX.out;have HLE:=hdd hle;have D1':Hid (IntP (fun b=>b<w3.heap.size) w4 (.agg #[.bool ba,.slice A n c]) (aS x).man):=hdd (by rw[hle];exact D1.out);have hex:(aS x).exp=x.lo.exp:=by rw[hle]
   clear hle;have HQ1:Hid (Calls Tryz.prog 362 #[.agg #[.bool ba,.slice A n c,.int .i64 x.lo.exp],.int .i64 P,.int .i64 (-1)] w4 (sF w4.heap.size w4 (aL (aS x) P (-1)) true)):=hdd (nT (dir:=-1) (x:=aS x) ⟨_,_,_,_,by rw[hex],D1'.out⟩ HT.out (by rw[HLE.out];exact HSX.out.1) HPP.out (kM x).1);go_wp2_with fail
   refine HQ1.out.mono ?_;rintro r w5⟨hb,v5,rfl,hz5⟩;obtain⟨b5,A5,n5,k5,rfl,hz5⟩:=hz5;have D5:=hdd (hz5.weak (q:=fun b=>w.heap.size+2<=b) fun b hb' _=>bgN (by have:=HS4.out;omega) hb');replace D2:=hdd (D2.out.below hb);replace HT:=hdd (HT.out.below hb);replace B1:=hdd (hbl B1.out hb);replace B2:=hdd (hbl B2.out hb);replace HBb:=hdd (HBb.out.trans (hb.mono HBb.out.size));have HS5:Hid (w.heap.size+2<=w5.heap.size):=hdd (by have:=HS4.out;have:=hb.size;omega);clear hb HQ1 hz5;obtain⟨ta6,hta6,hba,hsa,q1⟩:=pro1 w5 (.cells #[Value.bool false,Value.slice none 0 0,.int .i64 0] 233);obtain⟨e0,e1,e2,e3,e4,e5⟩:=cells3 q1;have F:(((ta6.setCell ⟨w5.heap.size,0,none⟩ (.bool b5)).setCell ⟨w5.heap.size,1,none⟩ (.slice A5 n5 k5)).setCell ⟨w5.heap.size,2,none⟩ (.int .i64 (aL (aS x) P (-1)).exp)).heap[w5.heap.size]? =some (.cells #[.bool b5,.slice A5 n5 k5,.int .i64 (aL (aS x) P (-1)).exp] 233 (0,0))/\Below w5.heap.size w5 (((ta6.setCell ⟨w5.heap.size,0,none⟩ (.bool b5)).setCell ⟨w5.heap.size,1,none⟩ (.slice A5 n5 k5)).setCell ⟨w5.heap.size,2,none⟩ (.int .i64 (aL (aS x) P (-1)).exp)):=⟨set3 q1 _ _ _,bM hba nlr b5 A5 n5 k5 (aL (aS x) P (-1)).exp⟩
   clear q1 hba hsa;generalize hWw6:(((ta6.setCell ⟨w5.heap.size,0,none⟩ (.bool b5)).setCell ⟨w5.heap.size,1,none⟩ (.slice A5 n5 k5)).setCell ⟨w5.heap.size,2,none⟩ (.int .i64 (aL (aS x) P (-1)).exp))=w6 at F;obtain⟨q6,hbw6⟩:=F;have Q6:=hdd q6;replace D5:=hdd (D5.out.below hbw6);replace D2:=hdd (D2.out.below hbw6);replace HT:=hdd (HT.out.below hbw6);replace B1:=hdd (hbl B1.out hbw6);replace B2:=hdd (hbl B2.out hbw6);replace HBb:=hdd (HBb.out.trans (hbw6.mono HBb.out.size));clear q6 hbw6;obtain⟨c0,c1,c2,c3,c4,c5⟩:=aG B1.out;have HQ2:=hdd (nT (dir:=1) (x:=x.hi) ⟨_,_,_,_,rfl,D2.out⟩ HT.out HSX.out.2 HPP.out HH0.out);go_wp2_with fail
   refine HQ2.out.mono ?_;rintro r w7⟨hb,v7,rfl,hz7⟩;obtain⟨b7,A7,n7,k7,rfl,hz7⟩:=hz7;have D7:=hdd (hz7.weak (q:=fun b=>w.heap.size+2<=b) fun b hb' _=>bgN (by have h1:=HBb.out.size;have h2:=HS5.out;have h3:=aD Q6.out;omega) hb');replace D5:=hdd (D5.out.below hb);replace Q6:=hdd (hbl Q6.out hb);replace B2:=hdd (hbl B2.out hb);replace HBb:=hdd (HBb.out.trans (hb.mono HBb.out.size));clear hb HQ2 hz7 c0 c1 c2 c3 c4 c5;obtain⟨ta8,hta8,hba,hsa,q1⟩:=pro1 w7 (.cells #[Value.bool false,Value.slice none 0 0,.int .i64 0] 233);obtain⟨e0,e1,e2,e3,e4,e5⟩:=cells3 q1;have F:(((ta8.setCell ⟨w7.heap.size,0,none⟩ (.bool b7)).setCell ⟨w7.heap.size,1,none⟩ (.slice A7 n7 k7)).setCell ⟨w7.heap.size,2,none⟩ (.int .i64 (aL x.hi P 1).exp)).heap[w7.heap.size]? =some (.cells #[.bool b7,.slice A7 n7 k7,.int .i64 (aL x.hi P 1).exp] 233 (0,0))/\Below w7.heap.size w7 (((ta8.setCell ⟨w7.heap.size,0,none⟩ (.bool b7)).setCell ⟨w7.heap.size,1,none⟩ (.slice A7 n7 k7)).setCell ⟨w7.heap.size,2,none⟩ (.int .i64 (aL x.hi P 1).exp)):=⟨set3 q1 _ _ _,bM hba nlr b7 A7 n7 k7 (aL x.hi P 1).exp⟩
   clear q1 hba hsa;generalize hWw8:(((ta8.setCell ⟨w7.heap.size,0,none⟩ (.bool b7)).setCell ⟨w7.heap.size,1,none⟩ (.slice A7 n7 k7)).setCell ⟨w7.heap.size,2,none⟩ (.int .i64 (aL x.hi P 1).exp))=w8 at F;obtain⟨q8,hbw8⟩:=F;replace D5:=hdd (D5.out.below hbw8);replace D7:=hdd (D7.out.below hbw8);replace Q6:=hdd (hbl Q6.out hbw8);replace B2:=hdd (hbl B2.out hbw8);replace HBb:=hdd (HBb.out.trans (hbw8.mono HBb.out.size));obtain⟨x0,x1,x2,-,-,-⟩:=cells3 Q6.out;obtain⟨y0,y1,y2,-,-,-⟩:=cells3 q8;obtain⟨e0,e1,e2,e3,e4,e5⟩:=aG B2.out;obtain⟨f0,f1,f2,f3,f4,f5⟩:=fV B2.out;obtain⟨HFF,hFF⟩:=bK (x:=⟨aL (aS x) P (-1),aL x.hi P 1⟩) HBb.out (g:=w.heap.size+1) (by omega) B2.out D5.out D7.out (fun b hb=>by omega);dsimp only at HFF hFF;replace hFF:=hdd hFF;clear q8 hbw8;go_wp2;obtain⟨f0,f1,f2,f3,f4,f5⟩:=aG hFF.out;unfold put6 at f0 f1 f2 f3 f4 f5;refine bodyPost_ret (v:=.tuple #[.agg #[_,_,_,_,_,_],_]) (by simp[results,Tryz.results346,go_sem,f0,f1,f2,f3,f4,f5];first|exact⟨⟨rfl,rfl,rfl,rfl,rfl,rfl⟩,rfl⟩|rfl) rfl ?_
   exact fB HFF.out
theorem apF(a0 a1 a2 a3 a4 a5 a6 a7 a8 a9 a10 a11:Value)(w:World):(bgL 445 (.agg #[a0,a1,a2,a3,a4,a5,a6,a7,a8,a9,a10,a11]) (.int .i64 0)).run Tryz.prog w=.ok (.agg #[a0,a1,a2]) w:=by kernel_rfl
theorem apG(a0 a1 a2 a3 a4 a5 a6 a7 a8 a9 a10 a11:Value)(w:World):(bgL 445 (.agg #[a0,a1,a2,a3,a4,a5,a6,a7,a8,a9,a10,a11]) (.int .i64 1)).run Tryz.prog w=.ok (.agg #[a3,a4,a5]) w:=by kernel_rfl
theorem apH(a0 a1 a2 a3 a4 a5 a6 a7 a8 a9 a10 a11:Value)(w:World):(bgL 445 (.agg #[a0,a1,a2,a3,a4,a5,a6,a7,a8,a9,a10,a11]) (.int .i64 2)).run Tryz.prog w=.ok (.agg #[a6,a7,a8]) w:=by kernel_rfl
theorem apI(a0 a1 a2 a3 a4 a5 a6 a7 a8 a9 a10 a11:Value)(w:World):(bgL 445 (.agg #[a0,a1,a2,a3,a4,a5,a6,a7,a8,a9,a10,a11]) (.int .i64 3)).run Tryz.prog w=.ok (.agg #[a9,a10,a11]) w:=by kernel_rfl
theorem ak6{w:World}(hx:BlP p w va x)(hy:BlP q w vb y)(hn:¬(y.lo.man.sign=y.hi.man.sign/\y.lo.man.sign≠0)):
 Calls Tryz.prog 345 #[va,vb,.int .i64 P] w (anY w.heap.size w):=by
 obtain⟨ba,A,n,c,bb,A',n',c',rfl,h1,h2⟩:=hx;have hyy:=hy;obtain⟨bd,E,m,k,be,E',m',k',rfl,h3,h4⟩:=hy;obtain⟨w3,hw3,hb3,hs3,b1,b2,b3⟩:=pro3 w (.cells #[Value.bool ba,.slice A n c,.int .i64 x.lo.exp,Value.bool bb,.slice A' n' c',.int .i64 x.hi.exp] 235) (.cells #[Value.bool bd,.slice E m k,.int .i64 y.lo.exp,Value.bool be,.slice E' m' k',.int .i64 y.hi.exp] 235) (.cells #[Value.bool false,Value.slice none 0 0,.int .i64 0,Value.bool false,Value.slice none 0 0,.int .i64 0] 235);have HB:=hdd hb3;have HS:=hdd hs3;have B3:=hdd b3;obtain⟨d0,d1,d2,d3,d4,d5⟩:=aG b2;have HSG:=hdd (oI (hyy.below hb3));have hsg:(sgOk y=false)\/(sgOk y=true/\sgB y=0):=by
  unfold sgOk sgB;by_cases he:y.lo.man.sign=y.hi.man.sign
  . right;refine⟨decide_eq_true he,?_⟩
    rw[if_pos he];apply Classical.byContradiction;intro h0;exact hn ⟨he,h0⟩
  . left;exact decide_eq_false he
 clear h1 h2 h3 h4 hyy hb3 b1 b2 b3 hn;generalize sgOk y=s1 at*;generalize sgB y=s2 at*;go_enter Tryz.func345,Tryz.ntmps345
 go_wp2_with fail
 refine HSG.out.mono ?_;rintro r w4⟨rfl,hb⟩;have B4:=hbl B3.out hb;obtain⟨e0,e1,e2,e3,e4,e5⟩:=aG B4;obtain⟨f0,f1,f2,f3,f4,f5⟩:=fV B4;have HBF:=hdd (eZ (HB.out.trans (hb.mono HB.out.size)) (g:=w.heap.size+2) (by omega) (.bool false) (.slice none 0 0) (.int .i64 0) (.bool false) (.slice none 0 0) (.int .i64 0));have hFF:=hdd (iD B4 (.bool false) (.slice none 0 0) (.int .i64 0) (.bool false) (.slice none 0 0) (.int .i64 0));clear hb B4 HSG;rcases hsg with rfl|⟨rfl,rfl⟩
 . go_wp2
   obtain⟨f0,f1,f2,f3,f4,f5⟩:=aG hFF.out;unfold put6 at f0 f1 f2 f3 f4 f5;refine bodyPost_ret (v:=.tuple #[.agg #[_,_,_,_,_,_],_]) (by simp[results,Tryz.results345,go_sem,f0,f1,f2,f3,f4,f5];first|exact⟨⟨rfl,rfl,rfl,rfl,rfl,rfl⟩,rfl⟩|rfl) rfl ?_;exact⟨HBF.out,_,_,_,_,_,_,_,_,_,_,rfl⟩
 . go_wp2
   obtain⟨f0,f1,f2,f3,f4,f5⟩:=aG hFF.out;unfold put6 at f0 f1 f2 f3 f4 f5;refine bodyPost_ret (v:=.tuple #[.agg #[_,_,_,_,_,_],_]) (by simp[results,Tryz.results345,go_sem,f0,f1,f2,f3,f4,f5];first|exact⟨⟨rfl,rfl,rfl,rfl,rfl,rfl⟩,rfl⟩|rfl) rfl ?_;exact⟨HBF.out,_,_,_,_,_,_,_,_,_,_,rfl⟩
abbrev NF(w0:World)(gl gh:Nat):Nat->Prop:=fun b=>w0.heap.size<=b/\b≠gl/\b≠gh
structure LQ(w0 w:World)(gl gh:Nat)(zl zh:Dy):Prop where
 below:Below w0.heap.size w0 w
 lo:HasQ (NF w0 gl gh) w gl zl
 hi:HasQ (NF w0 gl gh) w gh zh
 ne:gl≠gh
 bl:w0.heap.size<=gl
 bh:w0.heap.size<=gh
section
variable{w0 w w':World}{gl gh:Nat}{zl zh z:Dy}{b:Bool}{A:Option Addr}{n c:Nat}
theorem LQ.step (h:LQ w0 w gl gh zl zh)(hb:Below w.heap.size w w'):LQ w0 w' gl gh zl zh:=
 ⟨aA h.below hb,h.lo.below hb,h.hi.below hb,h.ne,h.bl,h.bh⟩
theorem LQ.setLo (h:LQ w0 w gl gh zl zh)(hx:IntP (NF w0 gl gh) w (.agg #[.bool b,.slice A n c]) z.man):LQ w0 (put3 w gl b A n c z.exp) gl gh z zh:=by
 obtain⟨b',A',n',c',h1,-⟩:=h.lo;obtain⟨b2,A2,n2,c2,k1,k2⟩:=h.hi;exact⟨bM h.below h.bl b A n c z.exp,⟨b,A,n,c,set3 h1 _ _ _,dO hx (fun b hb=>hb.2.1) b A n c z.exp⟩,⟨b2,A2,n2,c2,(bX h.ne _ _ _).trans k1,dO k2 (fun b hb=>hb.2.1) b A n c z.exp⟩,h.ne,h.bl,h.bh⟩
theorem LQ.setHi (h:LQ w0 w gl gh zl zh)(hx:IntP (NF w0 gl gh) w (.agg #[.bool b,.slice A n c]) z.man):LQ w0 (put3 w gh b A n c z.exp) gl gh zl z:=by
 obtain⟨b',A',n',c',h1,-⟩:=h.hi;obtain⟨b2,A2,n2,c2,k1,k2⟩:=h.lo;exact⟨bM h.below h.bh b A n c z.exp,⟨b2,A2,n2,c2,(bX (Ne.symm h.ne) _ _ _).trans k1,dO k2 (fun b hb=>hb.2.2) b A n c z.exp⟩,⟨b,A,n,c,set3 h1 _ _ _,dO hx (fun b hb=>hb.2.2) b A n c z.exp⟩,h.ne,h.bl,h.bh⟩
theorem LQ.ng (h:LQ w0 w gl gh zl zh)(hB:w.heap.size<=B):∀b,B<=b->NF w0 gl gh b:=fun b hb=>by
 have:=h.lo.lt;have:=h.hi.lt;exact⟨by have:=h.below.size;omega,by omega,by omega⟩
end
section
variable{w0 w:World}{gl gh:Nat}{zl zh z:Dy}{b:Bool}{A:Option Addr}{n c:Nat}
theorem LQ.lo1 (h:LQ w0 w gl gh zl zh)(hx:IntP (NF w0 gl gh) w (.agg #[.bool b,.slice A n c]) z.man):∃(u:Bool) (v:Option Addr) (t p:Nat) (q:Int) (w':World),(w.cell? ⟨gl,0,none⟩=some (.bool u)/\w.cell? ⟨gl,1,none⟩=some (.slice v t p)/\w.cell? ⟨gl,2,none⟩=some (.int .i64 q)/\w.frozen? ⟨gl,0,none⟩=false/\w.frozen? ⟨gl,1,none⟩=false/\w.frozen? ⟨gl,2,none⟩=false)/\((w.setCell ⟨gl,0,none⟩ (.bool b)).setCell ⟨gl,1,none⟩ (.slice A n c)).setCell ⟨gl,2,none⟩ (.int .i64 z.exp)=w'/\Hid (LQ w0 w' gl gh z zh)/\(∀v k,IntP (NF w0 gl gh) w v k->IntP (NF w0 gl gh) w' v k)/\∀g,gl≠g->w'.heap[g]? =w.heap[g]? :=by
 obtain⟨b',A',n',c',h1,-⟩:=h.lo;exact⟨_,_,_,_,_,_,cells3 h1,rfl,hdd (h.setLo hx),fun v k hv=>dO hv (fun b hb=>hb.2.1) _ _ _ _ _,fun g hg=>bX hg _ _ _⟩
theorem LQ.hi1 (h:LQ w0 w gl gh zl zh)(hx:IntP (NF w0 gl gh) w (.agg #[.bool b,.slice A n c]) z.man):∃(u:Bool) (v:Option Addr) (t p:Nat) (q:Int) (w':World),(w.cell? ⟨gh,0,none⟩=some (.bool u)/\w.cell? ⟨gh,1,none⟩=some (.slice v t p)/\w.cell? ⟨gh,2,none⟩=some (.int .i64 q)/\w.frozen? ⟨gh,0,none⟩=false/\w.frozen? ⟨gh,1,none⟩=false/\w.frozen? ⟨gh,2,none⟩=false)/\((w.setCell ⟨gh,0,none⟩ (.bool b)).setCell ⟨gh,1,none⟩ (.slice A n c)).setCell ⟨gh,2,none⟩ (.int .i64 z.exp)=w'/\Hid (LQ w0 w' gl gh zl z):=by
 obtain⟨b',A',n',c',h1,-⟩:=h.hi;exact⟨_,_,_,_,_,_,cells3 h1,rfl,hdd (h.setHi hx)⟩
end
def lkQ(f:Dy->Dy->Dy)(z0 z1 z2 z3:Dy)(k:Int):Dy:=if k=0 then⟨0,0⟩else if k=1 then z0 else if k=2 then f z1 z0 else if k=3 then f z2 (f z1 z0)else f z3 (f z2 (f z1 z0))
theorem ahB{w:World}(hx:BlP p w va x)(hy:BlP q w vb y)(hT:Tab w)(sx:SmQB x)(sy:SmQB y)(hP:1<=P/\P<=65536)(hs:y.lo.man.sign=y.hi.man.sign/\y.lo.man.sign≠0)
 (sq:∀dir:Int,SmD (quoD x.lo y.lo P dir)/\SmD (quoD x.lo y.hi P dir)/\SmD (quoD x.hi y.lo P dir)/\SmD (quoD x.hi y.hi P dir)):
 Calls Tryz.prog 345 #[va,vb,.int .i64 P] w (fZ w.heap.size w ⟨jU x y P,jV x y P⟩ true):=by
 obtain⟨ba,A,n,c,bb,A',n',c',rfl,h1,h2⟩:=hx;have hyy:=hy;obtain⟨bd,E,m,k,be,E',m',k',rfl,h3,h4⟩:=hy;obtain⟨w3,hw3,hb3,hs3,b1,b2,b3⟩:=pro3 w (.cells #[Value.bool ba,.slice A n c,.int .i64 x.lo.exp,Value.bool bb,.slice A' n' c',.int .i64 x.hi.exp] 235) (.cells #[Value.bool bd,.slice E m k,.int .i64 y.lo.exp,Value.bool be,.slice E' m' k',.int .i64 y.hi.exp] 235) (.cells #[Value.bool false,Value.slice none 0 0,.int .i64 0,Value.bool false,Value.slice none 0 0,.int .i64 0] 235);have HB:=hdd hb3;have HS:=hdd hs3;have B3:=hdd b3;obtain⟨d0,d1,d2,d3,d4,d5⟩:=aG b2;have HSG:=hdd (oI (hyy.below hb3));have hs1:sgOk y=true:=decide_eq_true hs.1;have hs2:(sgB y==0)=false:=by unfold sgB;rw[if_pos hs.1];exact beq_eq_false_iff_ne.2 hs.2
 have hs3':¬(sgB y=0):=by unfold sgB;rw[if_pos hs.1];exact hs.2
 have HN1:Hid (y.lo.man≠0):=hdd (fun h=>hs.2 (by rw[h];rfl));have HN2:Hid (y.hi.man≠0):=hdd (fun h=>hs.2 (by rw[hs.1,h];rfl));have HX1:Hid (IntP p w3 (.agg #[.bool ba,.slice A n c]) x.lo.man):=hdd (h1.below hb3);have HX2:Hid (IntP p w3 (.agg #[.bool bb,.slice A' n' c']) x.hi.man):=hdd (h2.below hb3);have HY1:Hid (IntP q w3 (.agg #[.bool bd,.slice E m k]) y.lo.man):=hdd (h3.below hb3);have HY2:Hid (IntP q w3 (.agg #[.bool be,.slice E' m' k']) y.hi.man):=hdd (h4.below hb3);have HT3:=hdd (hT.below hb3);have HSX:=hdd sx;have HSY:=hdd sy;have HPP:=hdd hP;have HSQ:=hdd sq;have B1:=hdd b1;have B2:=hdd b2;have HEQ1:Hid (jU x y P=lkQ minD (quoD x.lo y.lo P (-1)) (quoD x.lo y.hi P (-1)) (quoD x.hi y.lo P (-1)) (quoD x.hi y.hi P (-1)) 4):=hdd rfl;have HEQ2:Hid (jV x y P=lkQ maxD (quoD x.lo y.lo P 1) (quoD x.lo y.hi P 1) (quoD x.hi y.lo P 1) (quoD x.hi y.hi P 1) 4):=hdd rfl;clear h1 h2 h3 h4 hyy hb3 b1 b2 b3 hs3 hs sx sy hP sq hT;generalize sgOk y=s1 at*;generalize sgB y=s2 at*;subst hs1;go_enter Tryz.func345,Tryz.ntmps345
 go_wp2_with fail
 refine HSG.out.mono ?_;rintro r w4⟨rfl,hb⟩;clear d0 d1 d2 d3 d4 d5;have B14:=hdd (hbl B1.out hb);obtain⟨c0,c1,c2,c3,c4,c5⟩:=aG B14.out;obtain⟨w5,hw5,hb5,hs5,t1⟩:=pro1 w4 (.cells #[Value.bool false,Value.slice none 0 0,.int .i64 0] 233);obtain⟨w6,hw6,hb6,hs6,t2⟩:=pro1 w5 (.cells #[Value.bool false,Value.slice none 0 0,.int .i64 0] 233);rw[hs5]at t2;have t1':=hbl t1 hb6;have HLS:Hid (LQ w3 w6 w4.heap.size (w4.heap.size+1) ⟨0,0⟩ ⟨0,0⟩):=hdd ⟨aA hb (aA hb5 hb6),⟨_,_,_,_,t1',_,[],rfl,NatP.nil _,Tr.nil,rfl⟩,⟨_,_,_,_,t2,_,[],rfl,NatP.nil _,Tr.nil,rfl⟩,by omega,hb.size,by have:=hb.size;omega⟩;replace c0:=cell_below (cbl c0 hb5) hb6 nlr;replace c1:=cell_below (cbl c1 hb5) hb6 nlr;replace c2:=cell_below (cbl c2 hb5) hb6 nlr;replace c3:=cell_below (cbl c3 hb5) hb6 nlr;replace c4:=cell_below (cbl c4 hb5) hb6 nlr;replace c5:=cell_below (cbl c5 hb5) hb6 nlr;have HSM0:Hid (SmD ⟨0,0⟩/\SmD ⟨0,0⟩):=hdd ⟨⟨by show bits 0<=134217728;have:bits 0=0:=rfl;omega,by decide,by decide⟩,⟨by show bits 0<=134217728;have:bits 0=0:=rfl;omega,by decide,by decide⟩⟩
 clear hb hb5 hb6 t1 t1' t2 HSG B14;go_wp2_with fail
 have HQD:Hid (∀kk:Int,0<=kk->kk<4->∃(od:Bool) (bx:Bool) (Ax:Option Addr) (nx cx:Nat) (xv yv:Dy),(∀w,(bgL 445 (.agg #[.bool ba,.slice A n c,.int .i64 x.lo.exp,.bool ba,.slice A n c,.int .i64 x.lo.exp,.bool bb,.slice A' n' c',.int .i64 x.hi.exp,.bool bb,.slice A' n' c',.int .i64 x.hi.exp]) (.int .i64 kk)).run Tryz.prog w=.ok (.agg #[.bool bx,.slice Ax nx cx,.int .i64 xv.exp]) w)/\(kk%2==1)=od/\
  (IntP p w3 (.agg #[.bool bx,.slice Ax nx cx]) xv.man/\SmQ xv)/\yv=(if od then y.hi else y.lo)/\(∀dir,SmD (quoD xv yv P dir))/\lkQ minD (quoD x.lo y.lo P (-1)) (quoD x.lo y.hi P (-1)) (quoD x.hi y.lo P (-1)) (quoD x.hi y.hi P (-1)) (kk+1)=(if kk=0 then(quoD xv yv P (-1))else minD (quoD xv yv P (-1)) (lkQ minD (quoD x.lo y.lo P (-1)) (quoD x.lo y.hi P (-1)) (quoD x.hi y.lo P (-1)) (quoD x.hi y.hi P (-1)) kk))/\lkQ maxD (quoD x.lo y.lo P 1) (quoD x.lo y.hi P 1) (quoD x.hi y.lo P 1) (quoD x.hi y.hi P 1) (kk+1)=(if kk=0 then(quoD xv yv P 1)else maxD (quoD xv yv P 1) (lkQ maxD (quoD x.lo y.lo P 1) (quoD x.lo y.hi P 1) (quoD x.hi y.lo P 1) (quoD x.hi y.hi P 1) kk))):=hdd (fun kk h0 h4=>by
  rcases(show kk=0\/kk=1\/kk=2\/kk=3 by omega)with rfl|rfl|rfl|rfl
  . exact⟨false,ba,A,n,c,x.lo,y.lo,apF _ _ _ _ _ _ _ _ _ _ _ _,rfl,⟨HX1.out,HSX.out.1⟩,rfl,fun dir=>(HSQ.out dir).1,rfl,rfl⟩
  . exact⟨true,ba,A,n,c,x.lo,y.hi,apG _ _ _ _ _ _ _ _ _ _ _ _,rfl,⟨HX1.out,HSX.out.1⟩,rfl,fun dir=>(HSQ.out dir).2.1,rfl,rfl⟩
  . exact⟨false,bb,A',n',c',x.hi,y.lo,apH _ _ _ _ _ _ _ _ _ _ _ _,rfl,⟨HX2.out,HSX.out.2⟩,rfl,fun dir=>(HSQ.out dir).2.2.1,rfl,rfl⟩
  . exact⟨true,bb,A',n',c',x.hi,y.hi,apI _ _ _ _ _ _ _ _ _ _ _ _,rfl,⟨HX2.out,HSX.out.2⟩,rfl,fun dir=>(HSQ.out dir).2.2.2,rfl,rfl⟩)
 go_loopw [40] (fun i wr=>∃(kk:Int) (zl zh:Dy),(0<=kk/\kk<=4)/\i=.int .i64 kk/\Hid (LQ w3 wr w4.heap.size (w4.heap.size+1) zl zh)/\Hid (SmD zl/\SmD zh)/\Hid (zl=lkQ minD (quoD x.lo y.lo P (-1)) (quoD x.lo y.hi P (-1)) (quoD x.hi y.lo P (-1)) (quoD x.hi y.hi P (-1)) kk/\zh=lkQ maxD (quoD x.lo y.lo P 1) (quoD x.lo y.hi P 1) (quoD x.hi y.lo P 1) (quoD x.hi y.hi P 1) kk)) (fun i _=>(4-intOf i).toNat)
 case atStart=>exact⟨0,⟨0,0⟩,⟨0,0⟩,by omega,rfl,HLS,HSM0,hdd ⟨rfl,rfl⟩⟩
 case round=>
  clear HLS c0 c1 c2 c3 c4 c5;obtain⟨kk,zl,zh,hkk,rfl,HLS,HSM,HZZ⟩:=hrel;have hk0:=hkk.1;rcases(show kk<4\/kk=4 by omega)with hlt|rfl
  . obtain⟨od,bx,Ax,nx,cx,xv,yv,hix,hod,hIX,hyv,hSQ,hl,hh⟩:=HQD.out kk hk0 hlt
    have HIX:=hdd hIX;have HYV:=hdd hyv;have HS1:=hdd hSQ;have HL1:=hdd hl;have HH1:=hdd hh;have HLT:=hdd hkk;clear hIX hyv hSQ hl hh hkk;have B2r:=hdd (hbl B2.out HLS.out.below);obtain⟨ta,wa,hta,⟨e0,e1,e2,e3,e4,e5⟩,hwa,QX,hb⟩:=newv wr bx Ax nx cx xv.exp;have HLa:=hdd (HLS.out.step hb);replace B2r:=hdd (hbl B2r.out hb);obtain⟨d0,d1,d2,d3,d4,d5⟩:=aG B2r.out;clear hb;obtain⟨tb,wb,htb,⟨f0,f1,f2,f3,f4,f5⟩,hwb,QY0,hb⟩:=newv wa bd E m k y.lo.exp
    cases od
    case' false=>
     obtain⟨yb,yA,yn,yc,IY,QY⟩:∃yb yA yn yc,Hid (IntP q w3 (.agg #[.bool yb,.slice yA yn yc]) yv.man/\SmQ yv/\yv.man≠0)/\Hid (wb.heap[wa.heap.size]? =some (.cells #[.bool yb,.slice yA yn yc,.int .i64 yv.exp] 233 (0,0))):=by rw[HYV.out];exact⟨bd,E,m,k,hdd ⟨HY1.out,HSY.out.1,HN1.out⟩,QY0⟩
    case' true=>
     replace B2r:=hdd (hbl B2r.out hb);obtain⟨s0,s1,s2,s3,s4,s5⟩:=aG B2r.out;obtain⟨y0,y1,y2,y3,y4,y5⟩:=cells3 QY0.out;obtain⟨wc,hwc⟩:∃v,((wb.setCell ⟨wa.heap.size,0,none⟩ (.bool be)).setCell ⟨wa.heap.size,1,none⟩ (.slice E' m' k')).setCell ⟨wa.heap.size,2,none⟩ (.int .i64 y.hi.exp)=v:=⟨_,rfl⟩;obtain⟨yb,yA,yn,yc,IY,QY⟩:∃yb yA yn yc,Hid (IntP q w3 (.agg #[.bool yb,.slice yA yn yc]) yv.man/\SmQ yv/\yv.man≠0)/\Hid (wc.heap[wa.heap.size]? =some (.cells #[.bool yb,.slice yA yn yc,.int .i64 yv.exp] 233 (0,0))):=by rw[HYV.out,<-hwc];exact⟨be,E',m',k',hdd ⟨HY2.out,HSY.out.2,HN2.out⟩,hdd (set3 QY0.out _ _ _)⟩
     replace hb:Below wa.heap.size wa wc:=by rw[<-hwc];exact hb.trans (bM (Below.refl _ _) nlr be E' m' k' y.hi.exp)
    all_goals
     have HLb:=hdd (HLa.out.step hb);replace QX:=hdd (hbl QX.out hb);clear hb HLa QY0 HYV;obtain⟨x0,x1,x2,-,-,-⟩:=cells3 QX.out;obtain⟨r0,r1,r2,-,-,-⟩:=cells3 QY.out;have HQA:=hdd (ab9 (dir:=-1) (x:=xv) (y:=yv) ⟨_,_,_,_,rfl,HIX.out.1.below HLb.out.below⟩ ⟨_,_,_,_,rfl,IY.out.1.below HLb.out.below⟩ (HT3.out.below HLb.out.below) HIX.out.2 IY.out.2.1 HPP.out IY.out.2.2);go_wp2_with fail
     refine HQA.out.mono ?_;rintro r wd⟨hb,v,rfl,hz⟩;obtain⟨b5,A5,n5,k5,rfl,hz⟩:=hz;have ID:=hdd (hz.weak (q:=NF w3 w4.heap.size (w4.heap.size+1)) fun b hb _=>HLb.out.ng nlr b hb);replace HLb:=hdd (HLb.out.step hb);replace QX:=hdd (hbl QX.out hb);replace QY:=hdd (hbl QY.out hb);clear hb HQA hz x0 x1 x2 r0 r1 r2;obtain⟨te,we,hte,⟨g0,g1,g2,g3,g4,g5⟩,hwe,QD,hb⟩:=newv wd b5 A5 n5 k5 (quoD xv yv P (-1)).exp;have HND:=hdd (And.intro HLb.out.lo.lt HLb.out.hi.lt);replace HLb:=hdd (HLb.out.step hb);replace QX:=hdd (hbl QX.out hb);replace QY:=hdd (hbl QY.out hb);replace ID:=hdd (ID.out.below hb);clear hb;obtain⟨x0,x1,x2,-,-,-⟩:=cells3 QX.out;obtain⟨r0,r1,r2,-,-,-⟩:=cells3 QY.out;have HQA:=hdd (ab9 (dir:=1) (x:=xv) (y:=yv) ⟨_,_,_,_,rfl,HIX.out.1.below HLb.out.below⟩ ⟨_,_,_,_,rfl,IY.out.1.below HLb.out.below⟩ (HT3.out.below HLb.out.below) HIX.out.2 IY.out.2.1 HPP.out IY.out.2.2);go_wp2_with fail
     refine HQA.out.mono ?_;rintro r wf⟨hb,v,rfl,hz⟩;obtain⟨b6,A6,n6,k6,rfl,hz⟩:=hz;have IU:=hdd (hz.weak (q:=NF w3 w4.heap.size (w4.heap.size+1)) fun b hb _=>HLb.out.ng nlr b hb);replace HLb:=hdd (HLb.out.step hb);replace QD:=hdd (hbl QD.out hb);replace ID:=hdd (ID.out.below hb);clear hb HQA hz x0 x1 x2 r0 r1 r2 QX QY;obtain⟨tg,wg,htg,⟨v0,v1,v2,v3,v4,v5⟩,hwg,QU,hb⟩:=newv wf b6 A6 n6 k6 (quoD xv yv P 1).exp;have HNF:=hdd (And.intro HLb.out.lo.lt HLb.out.hi.lt);replace HLb:=hdd (HLb.out.step hb);replace QD:=hdd (hbl QD.out hb);replace ID:=hdd (ID.out.below hb);replace IU:=hdd (IU.out.below hb);clear hb;obtain⟨x0,x1,x2,-,-,-⟩:=cells3 QD.out;rcases Decidable.em (kk=0)with hkz|hkn
     all_goals try have hkt:(kk==0)=true:=beq_iff_eq.2 hkz
     all_goals try
      have hkf:(kk==0)=false:=beq_eq_false_iff_ne.2 hkn;obtain⟨bl,Al,nl,kl,l1,l2⟩:=HLb.out.lo;obtain⟨y0,y1,y2,-,-,-⟩:=cells3 l1;have HCA:=hdd (zW (x:=(quoD xv yv P (-1))) (y:=zl) ID.out l2 (HS1.out (-1)) HSM.out.1);clear l1 l2;go_wp2_with fail
      refine HCA.out.mono ?_;rintro r wh⟨rfl,hb⟩;replace HLb:=hdd (HLb.out.step hb);replace QD:=hdd (hbl QD.out hb);replace QU:=hdd (hbl QU.out hb);replace ID:=hdd (ID.out.below hb);replace IU:=hdd (IU.out.below hb);clear hb HCA x0 x1 x2 y0 y1 y2;obtain⟨x0,x1,x2,-,-,-⟩:=cells3 QD.out;rcases Decidable.em (cmpD (quoD xv yv P (-1)) zl<0)with hcl|hge
     all_goals first
      |(have hg:=hge
        have HZ1:Hid (zl=lkQ minD (quoD x.lo y.lo P (-1)) (quoD x.lo y.hi P (-1)) (quoD x.hi y.lo P (-1)) (quoD x.hi y.hi P (-1)) (kk+1)/\SmD zl):=hdd ⟨by rw[HL1.out,if_neg hkn,<-HZZ.out.1];unfold minD;rw[if_neg hg],HSM.out.1⟩;obtain⟨zm,hzm⟩:∃z,zl=z:=⟨_,rfl⟩;rw[hzm]at HZ1 HLb;clear hzm)
      |(obtain⟨u,v,t,p5,q5,wm,⟨i0,i1,i2,i3,i4,i5⟩,hwm,HLm,hI,hQ⟩:=HLb.out.lo1 (z:=(quoD xv yv P (-1))) ID.out
        replace IU:=hdd (hI _ _ IU.out);replace QU:=hdd ((hQ wf.heap.size (by have:=HNF.out.1;omega)).trans QU.out);replace HLb:=HLm;have HZ1:Hid ((quoD xv yv P (-1))=lkQ minD (quoD x.lo y.lo P (-1)) (quoD x.lo y.hi P (-1)) (quoD x.hi y.lo P (-1)) (quoD x.hi y.hi P (-1)) (kk+1)/\SmD (quoD xv yv P (-1))):=hdd ⟨by rw[HL1.out];first|rw[if_pos hkz]|(rw[if_neg hkn,<-HZZ.out.1];unfold minD;rw[if_pos hcl]),HS1.out (-1)⟩;clear hI hQ HLm;obtain⟨zm,hzm⟩:∃z,(quoD xv yv P (-1))=z:=⟨_,rfl⟩;rw[hzm]at HZ1 HLb;clear hzm)
     all_goals
      obtain⟨u0,u1,u2,-,-,-⟩:=cells3 QU.out;obtain⟨bh,Ah,nh,kh,m1,m2⟩:=HLb.out.hi;obtain⟨y0,y1,y2,-,-,-⟩:=cells3 m1
     all_goals try
      have hkf2:=hkf;have HCB:=hdd (zW (x:=(quoD xv yv P 1)) (y:=zh) IU.out m2 (HS1.out 1) HSM.out.2);clear m1 m2;go_wp2_with fail
      refine HCB.out.mono ?_;rintro r wy⟨rfl,hb⟩;replace HLb:=hdd (HLb.out.step hb);replace QU:=hdd (hbl QU.out hb);replace IU:=hdd (IU.out.below hb);clear hb HCB u0 u1 u2 y0 y1 y2;obtain⟨u0,u1,u2,-,-,-⟩:=cells3 QU.out;rcases Decidable.em (0<cmpD (quoD xv yv P 1) zh)with hch|hgh
     all_goals first
      |(have hg:=hgh
        have HZ2:Hid (zh=lkQ maxD (quoD x.lo y.lo P 1) (quoD x.lo y.hi P 1) (quoD x.hi y.lo P 1) (quoD x.hi y.hi P 1) (kk+1)/\SmD zh):=hdd ⟨by rw[HH1.out,if_neg hkn,<-HZZ.out.2];unfold maxD;rw[if_neg hg],HSM.out.2⟩;obtain⟨zn,hzm⟩:∃z,zh=z:=⟨_,rfl⟩;rw[hzm]at HZ2 HLb;clear hzm)
      |(obtain⟨u,v,t,p5,q5,wn,⟨i0,i1,i2,i3,i4,i5⟩,hwn,HLm⟩:=HLb.out.hi1 (z:=(quoD xv yv P 1)) IU.out
        replace HLb:=HLm;have HZ2:Hid ((quoD xv yv P 1)=lkQ maxD (quoD x.lo y.lo P 1) (quoD x.lo y.hi P 1) (quoD x.hi y.lo P 1) (quoD x.hi y.hi P 1) (kk+1)/\SmD (quoD xv yv P 1)):=hdd ⟨by rw[HH1.out];first|rw[if_pos hkz]|(rw[if_neg hkn,<-HZZ.out.2];unfold maxD;rw[if_pos hch]),HS1.out 1⟩;clear HLm;obtain⟨zn,hzm⟩:∃z,(quoD xv yv P 1)=z:=⟨_,rfl⟩;rw[hzm]at HZ2 HLb;clear hzm)
     all_goals
      go_wp2
      go_roundw
      case rel=>exact⟨kk+1,zm,zn,by have:=HLT.out;omega,by go_num,HLb,hdd ⟨HZ1.out.2,HZ2.out.2⟩,hdd ⟨HZ1.out.1,HZ2.out.1⟩⟩
      case measure=>have:=HLT.out;simp[intOf];omega
  . have HW13:=hdd HLS.out.below
    obtain⟨bl,Al,nl,kl,p1,p2⟩:=HLS.out.lo;obtain⟨bh,Ah,nh,kh,p3,p4⟩:=HLS.out.hi;obtain⟨l0,l1,l2,-,-,-⟩:=cells3 p1;obtain⟨o0,o1,o2,-,-,-⟩:=cells3 p3;have HB13:=hdd (HB.out.trans (HW13.out.mono HB.out.size));have B39:=hdd (hbl B3.out HW13.out);obtain⟨e0,e1,e2,e3,e4,e5⟩:=aG B39.out;obtain⟨f0,f1,f2,f3,f4,f5⟩:=fV B39.out;have HFIN:Hid ((⟨jU x y P,jV x y P⟩:Bl)=⟨zl,zh⟩):=hdd (by rw[HEQ1.out,HEQ2.out,HZZ.out.1,HZZ.out.2]);have HBF:=hdd (eZ HB13.out (g:=w.heap.size+2) (by omega) (.bool bl) (.slice Al nl kl) (.int .i64 zl.exp) (.bool bh) (.slice Ah nh kh) (.int .i64 zh.exp));have hFF:=hdd (iD B39.out (.bool bl) (.slice Al nl kl) (.int .i64 zl.exp) (.bool bh) (.slice Ah nh kh) (.int .i64 zh.exp));have HFB:=hdd (show BlP (fun b=>w.heap.size<=b) (put6 wr (w.heap.size+2) (.bool bl) (.slice Al nl kl) (.int .i64 zl.exp) (.bool bh) (.slice Ah nh kh) (.int .i64 zh.exp)) (.agg #[.bool bl,.slice Al nl kl,.int .i64 zl.exp,.bool bh,.slice Ah nh kh,.int .i64 zh.exp]) ⟨zl,zh⟩ from
     ⟨bl,Al,nl,kl,bh,Ah,nh,kh,rfl,(iN p2 (fun b hb=>by have h1:=hb.1;have:=HS.out;omega) _ _ _ _ _ _).weak fun b hb _=>by have h1:=hb.1;have:=HS.out;omega,(iN p4 (fun b hb=>by have h1:=hb.1;have:=HS.out;omega) _ _ _ _ _ _).weak fun b hb _=>by have h1:=hb.1;have:=HS.out;omega⟩)
    clear p1 p2 p3 p4;go_wp2;obtain⟨f0,f1,f2,f3,f4,f5⟩:=aG hFF.out;unfold put6 at f0 f1 f2 f3 f4 f5;refine bodyPost_ret (v:=.tuple #[.agg #[_,_,_,_,_,_],_]) (by simp[results,Tryz.results345,go_sem,f0,f1,f2,f3,f4,f5];first|exact⟨⟨rfl,rfl,rfl,rfl,rfl,rfl⟩,rfl⟩|rfl) rfl ?_;rw[HFIN.out];exact⟨HBF.out,_,rfl,HFB.out⟩
end
section
open Rat renaming mul_nonneg->bgO
variable{a b:Bl}{M Ma Mb N P V W Wa Wb:Int}{r t x y:Rat}
def Am(M:Int)(x:Rat):Prop:=-p2 M<=x/\x<=p2 M
def Acc(M W:Int)(b:Bl):Prop:=Am M (rv b.lo)/\Am M (rv b.hi)/\rv b.hi-rv b.lo<=p2 (-W)
theorem Am.mono (h:Am M x)(k:M<=N):Am N x:=by
 have:=iO k;exact⟨by have:=h.1;grind,by have:=h.2;grind⟩
theorem Am.mul (h:Am M x)(k:Am N y):Am (M+N) (x*y):=by
 obtain⟨h1,h2⟩:=h;obtain⟨k1,k2⟩:=k;unfold Am;rw[bY];have a1:=bgO (a:=p2 M-x) (b:=p2 N+y) (by grind) (by grind);have a2:=bgO (a:=p2 M+x) (b:=p2 N-y) (by grind) (by grind);have a3:=bgO (a:=p2 M-x) (b:=p2 N-y) (by grind) (by grind);have a4:=bgO (a:=p2 M+x) (b:=p2 N+y) (by grind) (by grind);constructor<;>grind
theorem Am.add (h:Am M x)(k:Am M y):Am (M+1) (x+y):=by
 obtain⟨h1,h2⟩:=h;obtain⟨k1,k2⟩:=k;unfold Am;rw[gI];constructor<;>grind
theorem Err.bd (h:Err P r t)(k:Am M t):r-t<=p2 (M+1-P)/\t-r<=p2 (M+1-P):=by
 have:=h (p2 M) k.1 k.2;have e:p2 (M+1-P)=2*p2 M*p2 (-P):=by rw[show M+1-P=(M+1)+-P from by omega,bY,gI]
 rw[e];exact this
theorem Err.am (hP:1<=P)(h:Err P r t)(k:Am M t):Am (M+1) r:=by
 have h1:=h.bd k;have h2:=iO (show M+1-P<=M by omega);obtain⟨k1,k2⟩:=k;unfold Am;rw[gI];constructor<;>grind
theorem half{a b:Int}(h:a<=b-1):2*p2 a<=p2 b:=by
 have:=iO h;have h2:=gI (b-1);rw[show b-1+1=b from by omega]at h2;grind
theorem quarter{a b:Int}(h:a<=b-2):4*p2 a<=p2 b:=by
 have h1:=half (a:=a) (b:=b-1) (by omega);have h2:=half (a:=b-1) (b:=b) (by omega);grind
theorem am8(h:Acc M W b):Acc M W (notB b):=by
 obtain⟨h1,h2,h3⟩:=h;unfold Acc notB Am at*;rw[nQ,nQ];refine⟨⟨by grind,by grind⟩,⟨by grind,by grind⟩,by grind⟩
theorem afD(hP:1<=P)(h:Acc Ma Wa a)(k:Acc Mb Wb b)(h1:Ma<=M)(h2:Mb<=M)(w1:W<=Wa-2)(w2:W<=Wb-2)(w3:W<=P-M-4):Acc (M+2) W (addB a b P):=by
 have m1:=(h.1.mono h1).add (k.1.mono h2);have m2:=(h.2.1.mono h1).add (k.2.1.mono h2);have e1:=nR (addD a.lo b.lo) (-1) hP;have e2:=nR (addD a.hi b.hi) 1 hP;rw[zR]at e1 e2;refine⟨?_,?_,?_⟩
 . have:=e1.am hP m1;rw[show M+1+1=M+2 from by omega]at this;exact this
 . have:=e2.am hP m2;rw[show M+1+1=M+2 from by omega]at this;exact this
 . have b1:=(e1.bd m1).2
   have b2:=(e2.bd m2).1;show rv (aM (addD a.hi b.hi) P 1)-rv (aM (addD a.lo b.lo) P (-1))<=p2 (-W);have q1:=quarter (a:=-Wa) (b:=-W) (by omega);have q2:=quarter (a:=-Wb) (b:=-W) (by omega);have q3:=quarter (a:=M+1+1-P) (b:=-W) (by omega);have g1:=h.2.2;have g2:=k.2.2;grind
theorem afE{p:Rat->Prop}{m a b c d:Dy}(h:m=a\/m=b\/m=c\/m=d)(pa:p (rv a))(pb:p (rv b))(pc:p (rv c))(pd:p (rv d)):p (rv m):=by
 rcases h with h|h|h|h<;>rw[h]<;>assumption
theorem ahC{x' y':Rat}(hx:Am M x)(hy:Am N y')(h1:-p2 (-W)<=x-x')(h2:x-x'<=p2 (-W))(k1:-p2 (-V)<=y-y')(k2:y-y'<=p2 (-V)):x*y-x'*y'<=p2 (M-V)+p2 (N-W):=by
 have a:=(Am.mul hx (N:=-V) (y:=y-y') ⟨k1,k2⟩).2;have b:=(Am.mul hy (N:=-W) (y:=x-x') ⟨h1,h2⟩).2;rw[show M+-V=M-V from by omega]at a;rw[show N+-W=N-W from by omega]at b;have:x*y-x'*y'=x*(y-y')+y'*(x-x'):=by grind
 rw[this];grind
theorem wL(h:Acc M W b)(hle:rv b.lo<=rv b.hi):∀x y:Rat,(x=rv b.lo\/x=rv b.hi)->(y=rv b.lo\/y=rv b.hi)->-p2 (-W)<=x-y/\x-y<=p2 (-W):=by
 have:=h.2.2;have:=aZ (-W);intro x y hx hy;rcases hx with hx|hx<;>rcases hy with hy|hy<;>rw[hx,hy]<;>constructor<;>grind
theorem am9(hP:1<=P)(h:Acc Ma Wa a)(k:Acc Mb Wb b)(ha:rv a.lo<=rv a.hi)(hb:rv b.lo<=rv b.hi)(w1:W<=Wa-Mb-2)(w2:W<=Wb-Ma-2)(w3:W<=P-Ma-Mb-3):Acc (Ma+Mb+1) W (mulB a b P):=by
 have m1:=h.1.mul k.1;have m2:=h.1.mul k.2.1;have m3:=h.2.1.mul k.1;have m4:=h.2.1.mul k.2.1;have hl:=(mD (mulD a.hi b.hi) (mulD a.hi b.lo) (mulD a.lo b.hi) (mulD a.lo b.lo)).2.2.2.2;have hh:=(mF (mulD a.hi b.hi) (mulD a.hi b.lo) (mulD a.lo b.hi) (mulD a.lo b.lo)).2.2.2.2;have ml:Am (Ma+Mb) (rv (vZ a b)):=afE (p:=Am (Ma+Mb)) hl (by rw[fP];exact m4) (by rw[fP];exact m3) (by rw[fP];exact m2) (by rw[fP];exact m1);have mh:Am (Ma+Mb) (rv (yI a b)):=afE (p:=Am (Ma+Mb)) hh (by rw[fP];exact m4) (by rw[fP];exact m3) (by rw[fP];exact m2) (by rw[fP];exact m1);have e1:=nR (vZ a b) (-1) hP;have e2:=nR (yI a b) 1 hP;refine⟨e1.am hP ml,e2.am hP mh,?_⟩;have b1:=(e1.bd ml).2;have b2:=(e2.bd mh).1;show rv (aM (yI a b) P 1)-rv (aM (vZ a b) P (-1))<=p2 (-W);have hd:rv (yI a b)-rv (vZ a b)<=p2 (Ma-Wb)+p2 (Mb-Wa):=by
  have wa:=wL h ha;have wb:=wL k hb;have key:∀x x' y y':Rat,(x=rv a.lo\/x=rv a.hi)->(x'=rv a.lo\/x'=rv a.hi)->(y=rv b.lo\/y=rv b.hi)->(y'=rv b.lo\/y'=rv b.hi)->x*y-x'*y'<=p2 (Ma-Wb)+p2 (Mb-Wa):=by
   intro x x' y y' hx hx' hy hy';have ax:Am Ma x:=by rcases hx with g|g<;>rw[g]<;>first|exact h.1|exact h.2.1
   have ay:Am Mb y':=by rcases hy' with g|g<;>rw[g]<;>first|exact k.1|exact k.2.1
   exact ahC ax ay (wa x x' hx hx').1 (wa x x' hx hx').2 (wb y y' hy hy').1 (wb y y' hy hy').2
  refine afE (p:=fun v=>v-rv (vZ a b)<=_) hh ?_ ?_ ?_ ?_<;>refine afE (p:=fun v=>_-v<=_) hl ?_ ?_ ?_ ?_<;>simp only[fP]<;>
   exact key _ _ _ _ (by first|exact Or.inl rfl|exact Or.inr rfl) (by first|exact Or.inl rfl|exact Or.inr rfl) (by first|exact Or.inl rfl|exact Or.inr rfl) (by first|exact Or.inl rfl|exact Or.inr rfl)
 have q1:=quarter (a:=Ma-Wb) (b:=-W) (by omega);have q2:=quarter (a:=Mb-Wa) (b:=-W) (by omega);have q3:=quarter (a:=Ma+Mb+1-P) (b:=-W) (by omega);grind
theorem anZ{u v e:Rat}(hu:0<=u)(hv:0<=v)(he:0<=e)(h:u*u-v*v<=e*e):u-v<=e:=by
 apply Classical.byContradiction;intro hc;have h1:0<(u-v-e)*(u+v+e):=Rat.mul_pos (by grind) (by grind);have h2:0<=v*e:=bgO hv he;grind
theorem ak7{H T:Int}{r:Bl}(hP:1<=P)(h:Acc M W a)(hM:M<=2*H)(hV:2*V<=W)(w1:T<=V-1)(w2:T<=P-H-4)(hr:nW a P=some r):Acc (H+2) T r:=by
 unfold nW at hr
 split at hr
 . cases hr
 . rename_i hs
   injection hr with hr;subst hr;obtain⟨k1,k2,k3⟩:=kM a;obtain⟨q,q',q1,q2,q3,q4,q5,q6,-,q8,q9,q10⟩:=qI (aS a) (-1) hP k1;obtain⟨u,u',u1,u2,u3,u4,u5,-,u7,u8,u9,u10⟩:=qI a.hi 1 hP (by omega);have hp1:=iO (show-P<=0 by omega);rw[lC]at hp1;have hH:=aZ H;have eH:p2 (2*H)=p2 H*p2 H:=by rw[<-bY];congr 1;omega
   have root_am:∀x y:Rat,0<=x->x*x<=y->y<=p2 M->x<=p2 H:=by
    intro x y h1 h2 h3;have:=iO hM;have:=anZ (u:=x) (v:=0) (e:=p2 H) h1 Rat.le_refl (by grind) (by grind);grind
   have hlo:rv (aS a)<=p2 M:=by rcases k3 with g|g<;>rw[g]<;>first|exact h.1.2|(have:=aZ M;grind)
   have lq:=root_am q _ q1 q3 hlo;have lu:=root_am u _ u1 u3 h.2.1.2;have step:∀x x':Rat,0<=x->x<=p2 H->x'-x<=x*p2 (-P)->x'<=p2 (H+1):=by
    intro x x' h1 h2 h3;have:=bgO (a:=x) (b:=1-p2 (-P)) h1 (by grind);rw[gI];grind
   have lq':=step q q' q1 lq q8;have lu':=step u u' u1 lu u8;have hH1:=aZ (H+1);have aq:Am (H+1) q:=⟨by grind,by have:=iO (show H<=H+1 by omega);grind⟩;have aq':Am (H+1) q':=⟨by grind,lq'⟩;have au:Am (H+1) u:=⟨by grind,by have:=iO (show H<=H+1 by omega);grind⟩;have au':Am (H+1) u':=⟨by grind,lu'⟩;have e2:H+1+1=H+2:=by omega
   have m1:=q9.am hP aq;have m2:=u10.am hP au';rw[e2]at m1 m2;refine⟨m1,m2,?_⟩;show rv (aL a.hi P 1)-rv (aL (aS a) P (-1))<=p2 (-T);have b1:=(q10.bd aq').2;have b2:=(u9.bd au).1;have hw:rv a.hi-rv (aS a)<=p2 (-W):=by have:=h.2.2;grind
   have hV2:=iO (show-W<=-V+-V by omega);rw[bY]at hV2;have hpV:=aZ (-V);have hd:=anZ (u:=u) (v:=q') (e:=p2 (-V)) u1 (by grind) (by grind) (by grind);have g1:=half (a:=-V) (b:=-T) (by omega);have g2:=quarter (a:=H+1+1-P) (b:=-T) (by omega);grind
end
end Go.Proofs.YtigoiiekebccnaaGreatDoor
