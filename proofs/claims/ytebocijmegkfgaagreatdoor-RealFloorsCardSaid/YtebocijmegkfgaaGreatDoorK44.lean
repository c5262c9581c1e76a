/- A part of the proof: contracts of functions and plain laws (FlrO, FeB, FnA, FlA, FlB, FlC, FlD, FlE, FlF, FlG, CkA, CkB, LiA, QlL, NrL, FlrP, FlrQ, CnA, CnB, CnC, CnD). -/
import Derived.Test.YtebocijmegkfgaaGreatDoorK41
import Derived.Test.YtebocijmegkfgaaGreatDoorK42
import Derived.Test.YtebocijmegkfgaaGreatDoorK43
import Derived.Test.YtebocijmegkfgaaGreatDoorK30
import Derived.Test.YtebocijmegkfgaaGreatDoorK10
import Derived.Test.YtebocijmegkfgaaGreatDoorK22
import Derived.LaidEql
import Derived.Lib.IfaceEq
import Derived.Stop.Asserts
import Derived.Recover
import Derived.Defers
import Derived.Test.YtebocijmegkfgaaGreatDoorK27
import Derived.Test.YtebocijmegkfgaaGreatDoorK32
import Derived.Test.YtebocijmegkfgaaGreatDoorK01
import Derived.Test.YtebocijmegkfgaaGreatDoorK02
import Derived.WalkSmall
set_option linter.unusedVariables false
set_option linter.unusedSimpArgs false
set_option linter.unnecessarySimpa false
set_option maxHeartbeats 25600000
set_option maxRecDepth 100000
namespace Go.Proofs.YtebocijmegkfgaaGreatDoor
section
open Go.RowKit Go.Maps
open Re (rat)
open Nat renaming le_trans->aqT
variable{x:Ex}{z:Int}{K:Nat}{v:Re}
def apG(w:World)(v:Re)(e:Ending)(w':World):Prop:=Below w.heap.size w w'/\∃z V,e=.returned (.tuple #[V,.nilIface])/\IntP (fun q=>w.heap.size<=q) w' V z/\IsFl z v
abbrev sepF(x:Ex)(k:Nat):Nat:=max ((uE x).1+1) ((uE x).2+46)*2^k+1
theorem aoW(h:bits z.natAbs<=45):sepZ x z K<=sepF x K:=by
 unfold sepZ sepF;exact Nat.add_le_add_right (Nat.mul_le_mul_right _ (by omega)) 1
theorem apR{b:Bl}(h:In v b)(hn:fM b.lo b.hi 1=true)(hv:rat (-4398046511104:Rat)<=v/\v<=rat (4398046511104:Rat)):bits (flrD b.hi).natAbs<=45:=by
 have h2:=alZ b.hi;have h3:=am7 hn;have h4:=Re.rat_le.1 (Re.le_trans h.1 hv.2);have h5:=Re.rat_le.1 (Re.le_trans hv.1 h.2);generalize flrD b.hi=z at*;have h6:((-4398046511106:Int):Rat)<(z:Rat):=by
  rw[show((-4398046511106:Int):Rat)=-4398046511106 from rfl];grind
 have h7:(z:Rat)<((4398046511106:Int):Rat):=by
  rw[show((4398046511106:Int):Rat)=4398046511106 from rfl];grind
 have h8:=Rat.intCast_lt_intCast.1 h6;have h9:=Rat.intCast_lt_intCast.1 h7;rw[aD];have:(2:Nat)^45=35184372088832:=by decide
 omega
theorem anJ(h:bits z.natAbs<=45):bits z.natAbs+bits ((1:Nat):Int).natAbs<=1073741824:=by
 have:bits ((1:Nat):Int).natAbs=1:=by decide
 omega
theorem am2{P:Ex->Prop}{B N:Nat}{w:World}{g i j:Nat}{ns:List Nd}{q:Int}(hs:St P B N w g ns)(hx:Is ns x i)(hS:lJ P x q)(hc:CloE x 1 j)(hG:Gd K 11 x v)
 (hv:rat (-4398046511104:Rat)<=v/\v<=rat (4398046511104:Rat)) (hsp:sepF x K<=32768) (hW:∃b M W,dA x (32*2^11)=some b/\Acc M W b/\((sepF x K+1:Nat):Int)<=W):
 Calls Tryz.prog 30 #[numV g i] w (apG w v):=by
 obtain⟨w2,hw2,hb2,hs2,b1,b2⟩:=pro2 w (.cells #[.pointer (some ⟨g,0,none⟩),.int .i64 (i:Int)] 32) (.cells #[Value.bool false,.slice none 0 0] 80);have B1:=hdd b1;have HN:=hdd (agZ (hs.below hb2) hx hS hc (by decide));have HB:=hdd hb2;have B2:=hdd b2;have HS2:=hdd hs2;have HT2:=hdd (hs.tab.below hb2);have HF:=hdd hv;have HC:=hdd hc;have HST:=hdd (And.intro hs.dag (And.intro (ab5 hs.all) (And.intro (vJ hs.all) (And.intro (vK hs.all) hx))));have HG:=hdd hG;have HSP:=hdd (And.intro hsp hW);obtain⟨c0,c1,-,-⟩:=aB B1.out;clear hs hx hS hc hG hv hsp hW hb2 b1 b2 hs2;go_enter Tryz.func30,Tryz.ntmps30
 go_wp2_with fail
 refine HN.out.mono ?_;rintro e w3⟨k,bb,V,⟨hk,hne,hnw⟩,rfl,hb3,hbal⟩;have hok:=aiK HC.out hk hne;have hin:=lD (qD (Nat.le_refl k) (aqT hk HC.out.2.2.2.1)).1 HG.out.den hne;obtain⟨z,hz⟩:∃z,flrD bb.hi=z:=⟨_,rfl⟩;have HFC:Hid ((cmpD (mkDy z 0) bb.lo<0->IsFl z v)/\∀c,CmpR c v (rat (z:Rat))->(c<0->IsFl (z-1) v)/\(¬c<0->IsFl z v)):=hdd ⟨fun h=>by subst hz;exact apQ hin h,fun c h=>by subst hz;exact apF hin hnw h⟩;have HZ:Hid (bits z.natAbs<=45):=hdd (by subst hz;exact apR hin hnw HF.out);obtain⟨e1,A1,n1,k1,e2,A2,n2,k2,rfl,i1,i2⟩:=id hbal;obtain⟨w4,hw4,hb4,hs4,b4⟩:=pro1 w3 (.cells #[.bool e1,.slice A1 n1 k1,.int .i64 bb.lo.exp,.bool e2,.slice A2 n2 k2,.int .i64 bb.hi.exp] 123);obtain⟨x0,x1,x2,x3,x4,x5⟩:=aG b4;have hb24:=hb3.trans (hb4.mono hb3.size);have HB4:=hdd (HB.out.trans (hb24.mono HB.out.size));have HT4:=hdd (HT2.out.below hb24);have B4:=hdd (hbl B2.out hb24);have B14:=hdd (hbl B1.out hb24);have HS4:Hid (w.heap.size+2<=w3.heap.size):=hdd (by have:=HS2.out;have:=hb3.size;omega)
 have HB24:=hdd hb24;have HBL:=hdd (am0 (show DyP _ w4 (.agg #[.bool e2,.slice A2 n2 k2,.int .i64 bb.hi.exp]) bb.hi from⟨_,_,_,_,rfl,i2.below hb4⟩) HT4.out hok.1.2);rw[hz]at HBL;have HLO:=hdd (show DyP _ w4 (.agg #[.bool e1,.slice A1 n1 k1,.int .i64 bb.lo.exp]) bb.lo from⟨_,_,_,_,rfl,i1.below hb4⟩);have HSM:Hid (SmD bb.lo):=hdd hok.1.1.smD;have HSZ:Hid (w3.heap.size<w4.heap.size):=hdd (by omega);clear hb3 hb4 hs4 b4 hb24 hbal i1 i2 hok hk hne hnw hin hz HN B2 HT2 HF HC hw2 c0 c1;go_wp2_with fail
 refine HBL.out.mono ?_;rintro e w5⟨hb5,v5,rfl,hz5⟩;obtain⟨bz,Az,nz,kz,rfl⟩:=hz5.shape;obtain⟨w6,hw6,hb6,hsR,b6⟩:=pro1 w5 (.cells #[.bool bz,.slice Az nz kz] 80);obtain⟨y0,y1,-,-⟩:=aB b6;have hb46:=hb5.trans (hb6.mono hb5.size);replace x0:=cbl x0 hb46;replace x1:=cbl x1 hb46;replace x2:=cbl x2 hb46;have HZ6:=hdd (hz5.below hb6);have HL6:=hdd (HLO.out.below hb46);have HT6:=hdd (HT4.out.below hb46);have HB6:=hdd (HB4.out.trans (hb46.mono HB4.out.size));have B6:=hdd (hbl B4.out hb46);have B16:=hdd (hbl B14.out hb46);have HB26:=hdd (HB24.out.trans (hb46.mono HB24.out.size));have HS5:Hid (w4.heap.size<=w5.heap.size):=hdd hb5.size;have hbd:Below w6.heap.size w6 w6.drew:=(Below.refl _ _).drew;have HBD:=hdd hbd;have HMK:=hdd (bW (e:=0) (HZ6.out.below hbd) (HT6.out.below hbd) (aqT HZ.out (by decide)) (by decide));clear hb5 hb6 hb46 b6 hz5 HBL HB4 B4 B14 HB24 HT4 HLO x3 x4 x5 hbd hw4;go_wp2_with fail
 clear hw6;replace x0:=cbl x0 HBD.out;replace x1:=cbl x1 HBD.out;replace x2:=cbl x2 HBD.out;replace y0:=cbl y0 HBD.out;replace y1:=cbl y1 HBD.out;have hne:w5.heap.size≠w3.heap.size:=by have:=HSZ.out;have:=HS5.out;omega
 generalize hp:w3.heap.size=p at*;generalize hr:w5.heap.size=r at*
 go_region_held3 (fun w'=>w'.cell? ⟨p,0,none⟩=some (.bool e1)/\w'.cell? ⟨p,1,none⟩=some (.slice A1 n1 k1)/\w'.cell? ⟨p,2,none⟩=some (.int .i64 bb.lo.exp)/\w'.cell? ⟨r,0,none⟩=some (.bool bz)/\w'.cell? ⟨r,1,none⟩=some (.slice Az nz kz)) (go_keep)
  (first
  |(go_at_call 69
    refine HMK.out.mono ?_;rintro e w7⟨hb7,v7,hz7⟩;obtain⟨rfl,hz7⟩:=hz7;have HB7:=hdd (HBD.out.trans hb7);have x0:=cbl x0 hb7;have x1:=cbl x1 hb7;have x2:=cbl x2 hb7;have y0:=cbl y0 hb7;have y1:=cbl y1 hb7;have HCP:=hdd (sJ (w:=w7) (hz7.weak (q:=(· <w7.heap.size)) fun _ _ h=>h) ((HL6.out.below HB7.out).weak (q:=(· <w7.heap.size)) fun _ _ h=>h) (fun _ h=>h) (fun _ h=>h) (ajV (aqT HZ.out (by decide))) HSM.out);obtain⟨b7,A7,n7,c7,rfl,-⟩:=id hz7;clear hb7 hz7)
  |(go_at_call 70
    refine HCP.out.mono ?_;rintro e w8⟨rfl,hb8⟩;have HB8:=hdd (HB7.out.trans (hb8.mono HB7.out.size));have x0:=cbl x0 hb8;have x1:=cbl x1 hb8;have x2:=cbl x2 hb8;have y0:=cbl y0 hb8;have y1:=cbl y1 hb8;clear hb8))
 obtain⟨Cc,hCc⟩:∃c,cmpD (mkDy z 0) bb.lo=c:=⟨_,rfl⟩;rw[hCc]at HFC|-;by_cases hlt:Cc<0
 . have HFL:=hdd (HFC.out.1 hlt)
   have B8:=hbl B6.out HB8.out;obtain⟨HFF,hF⟩:=dB (HB6.out.trans (HB8.out.mono HB6.out.size)) (by omega) B8 (HZ6.out.below HB8.out) (g:=w.heap.size+1) (fun b hb=>by have:=HS4.out;have:=HSZ.out;have:=HS5.out;omega);obtain⟨d0,d1,d2,d3⟩:=aB B8;replace hF:=hdd hF;clear B8;go_wp2;obtain⟨f0,f1,-,-⟩:=aB hF.out;obtain⟨h1,V,h2,h3⟩:=HFF.out;refine bodyPost_ret (v:=.tuple #[.agg #[_,_],_]) (by simp[results,Tryz.results30,go_sem,f0,f1];first|exact⟨⟨rfl,rfl⟩,rfl⟩|rfl) rfl ?_;injection h2 with h2;exact⟨h1,z,V,by rw[<-h2],h3,HFL.out⟩
 . have HB28:=hdd (HB26.out.trans (HB8.out.mono HB26.out.size))
   have HB08:=hdd (HB6.out.trans (HB8.out.mono HB6.out.size));have B18:=hbl B16.out HB8.out;have B28:=hdd (hbl B6.out HB8.out);obtain⟨c0,c1,-,-⟩:=aB B18;have HZ8:=hdd (HZ6.out.below HB8.out);have HT8:=hdd (HT6.out.below HB8.out);have hsz:=HB8.out.size;have HR:Hid (w.heap.size+2<=r/\r<w6.heap.size/\w.heap.size+2<=w4.heap.size/\w.heap.size+2<=w8.heap.size):=hdd (by have:=HS4.out;have:=HSZ.out;have:=HS5.out;have:=hsR;omega);clear HMK HL6 HSM HBD HB7 HB8 B6 B16 HB6 HB26 HT6 HS4 HS5 HSZ hsz x0 x1 x2 B18 hr hp;generalize w8=W at*;have HCM:Hid (∀w',Below W.heap.size W w'->Calls Tryz.prog 71 #[numV g i,.agg #[.bool bz,.slice Az nz kz]] w' (al9 w' v z)):=hdd fun w' h=>by
    obtain⟨s1,s2,s3,s4,s5⟩:=HST.out;have hb:=HB28.out.trans (h.mono HB28.out.size);have hb0:=HB.out.trans (hb.mono HB.out.size);have hle:=aoW (K:=K) (x:=x) HZ.out;obtain⟨h1,b,M,W',h2,h3,h4⟩:=HSP.out;exact amL (s1.below hb0) s2 s3 s4 s5 HG.out (HZ8.out.below h) (HT8.out.below h) HZ.out (aqT hle h1) ⟨b,M,W',h2,h3,by omega⟩
   go_wp2_with fail
   refine(HCM.out _ (Below.refl _ _)).mono ?_;rintro e w9⟨hb9,cc,rfl,hcc⟩;have HB9:=hdd hb9;have HCC:=hdd hcc;have y0:=cbl y0 hb9;have y1:=cbl y1 hb9;clear hb9 hcc;have HFL:=hdd (HFC.out.2 cc HCC.out);have HB09:=hdd (HB08.out.trans (HB9.out.mono HB08.out.size));have HZ9:=hdd (HZ8.out.below HB9.out);have HT9:=hdd (HT8.out.below HB9.out);have B9:=hdd (hbl B28.out HB9.out);have HR9:=hdd (And.intro HB08.out.size HB9.out.size);clear HCM HB9 HB08 HB28 HZ8 HT8 B28 HCC HFC hCc HG HST HSP c0 c1 HB B1;by_cases hcc:cc<0
   . have HFL:=hdd (HFL.out.1 hcc)
     go_wp2_with fail
     have hbd:Below w9.heap.size w9 w9.drew:=(Below.refl _ _).drew;replace y0:=cbl y0 hbd;replace y1:=cbl y1 hbd;have HOF:Hid (∀w',Calls Tryz.prog 32 #[.int .i64 (1:Nat)] w' (RetZ w'.heap.size w' (1:Nat))):=hdd fun w'=>ahU (by decide);have HBD:=hdd hbd;have hn1:r≠w.heap.size+1:=by have:=HR.out;omega
     have hn2:w.heap.size+1≠r:=fun h=>hn1 h.symm;clear hbd
     go_region_held3 (fun w'=>w'.cell? ⟨r,0,none⟩=some (.bool bz)/\w'.cell? ⟨r,1,none⟩=some (.slice Az nz kz)) (go_keep)
      (first
      |(go_at_call 32
        refine(HOF.out _).mono ?_;rintro e w10⟨hb,v10,rfl,hz10⟩;have HB10:=hdd (HBD.out.trans hb);have y0:=cbl y0 hb;have y1:=cbl y1 hb;have HSB:=hdd (anZ (w:=w10) (HZ9.out.below HB10.out) hz10 (anJ HZ.out));obtain⟨b10,A10,n10,k10,rfl⟩:=hz10.shape;clear hb hz10)
      |(go_at_call 73
        refine HSB.out.mono ?_;rintro e w11⟨hb,v11,rfl,hz11⟩;have HB11:=hdd (HB10.out.trans (hb.mono HB10.out.size));have HS10:=hdd HB10.out.size;have HZ11:=hdd hz11;obtain⟨b11,A11,n11,k11,rfl⟩:=hz11.shape;have y0:=cbl y0 hb;have y1:=cbl y1 hb;have D11:=aB (hbl B9.out HB11.out);obtain⟨d0,d1,d2,d3⟩:=D11;clear hb hz11))
     have B11:=hbl B9.out HB11.out;obtain⟨HFF,hF⟩:=dB (HB09.out.trans (HB11.out.mono HB09.out.size)) (by omega) B11 HZ11.out (g:=w.heap.size+1) (fun b hb=>by have:=HS10.out;have:=HR9.out;have:=HR.out;omega);replace hF:=hdd hF;clear B11;go_wp2;obtain⟨f0,f1,-,-⟩:=aB hF.out;obtain⟨h1,V,h2,h3⟩:=HFF.out;refine bodyPost_ret (v:=.tuple #[.agg #[_,_],_]) (by simp[results,Tryz.results30,go_sem,f0,f1];first|exact⟨⟨rfl,rfl⟩,rfl⟩|rfl) rfl ?_;injection h2 with h2;exact⟨h1,z-1,V,by rw[<-h2],h3,HFL.out⟩
   . have HFL:=hdd (HFL.out.2 (by omega))
     obtain⟨HFF,hF⟩:=dB HB09.out (by omega) B9.out HZ9.out (g:=w.heap.size+1) (fun b hb=>by have:=HR.out;omega);obtain⟨d0,d1,d2,d3⟩:=aB B9.out;replace hF:=hdd hF;go_wp2;obtain⟨f0,f1,-,-⟩:=aB hF.out;obtain⟨h1,V,h2,h3⟩:=HFF.out;refine bodyPost_ret (v:=.tuple #[.agg #[_,_],_]) (by simp[results,Tryz.results30,go_sem,f0,f1];first|exact⟨⟨rfl,rfl⟩,rfl⟩|rfl) rfl ?_;injection h2 with h2;exact⟨h1,z,V,by rw[<-h2],h3,HFL.out⟩
end
section
open Ieee
open Re (rat ofI ofN)

end
section
open Go.RowKit Go.Maps
section
variable{f:FuncId}{g d:Nat}{av:Array Value}{K0:List (Ex×Nat)}{V:List Nat->Value}{es:List Ex}
end
section
variable{S:Spec Ex}{w0:Bs}{g c0 i d:Nat}{f:FuncId}{args:(Nat->Nat)->Array Value}{ix ts:List Nat}{V:List Nat->Value}{es:List Ex}
end
end
section
open Go.RowKit Go.Maps Go.Stop Go.Extern

end
section
open Go.RowKit Go.Maps

end
section
open Go.RowKit Go.Maps
open Re (rat ofI ofN)

end
section
open Go.RowKit Go.Maps
open Re (rat)
open List renaming mem_append_left->aqU,mem_singleton->aqV,mem_append_right->aqW
variable{a b k n:Int}{p:Nat->Prop}{y:Re}
theorem anK{lo hi:Dy}{bits:Int}(h:rv hi-rv lo<=p2 (-bits)):cmpD (u6 hi lo) (mkDy 1 (-bits))<=0:=by
 have h1:=(afN (u6 hi lo) (mkDy 1 (-bits))).2;have e1:rv (u6 hi lo)=rv hi-rv lo:=by unfold u6;rw[wI,lZ];grind
 have e2:rv (mkDy 1 (-bits))=p2 (-bits):=by rw[jW];grind
 rw[e1,e2]at h1;rcases Int.lt_or_le 0 (cmpD (u6 hi lo) (mkDy 1 (-bits)))with h2|h2
 . have:=h1.1 h2;grind
 . exact h2
def alH(x:Ex)(v:Re):Prop:=∃(q:Int) (K:Nat),lJ PT x q/\CloE x 1 11/\Gd K 11 x v/\(rat (-4398046511104:Rat)<=v/\v<=rat (4398046511104:Rat))/\sepF x K<=32768/\∃b M W,dA x (32*2^11)=some b/\Acc M W b/\((sepF x K+1:Nat):Int)<=W
theorem Fit.fl {L:List Ex}{s:Sh}{e:Ex}{v:Re}(h:Fit L s e v)(hs:(s.ok L.length&&s.top L.length)=true)(hk:max ((s.ct L.length).u+1) ((s.ct L.length).l+46)*2^L.length+1<=32000)(hw:(32002:Int)<=(s.ct L.length).W)
 (hv:rat (-4398046511104:Rat)<=v/\v<=rat (4398046511104:Rat)):alH e v:=by
 have hS:=h.sgn (P:=PT) hs;rw[Bool.and_eq_true]at hs;have hF:=h hs.1;have hG:=hF.good hs.2;obtain⟨b,hb,ha⟩:=hF.vl.near;have hsp:sepF e L.length<=32000:=by
  refine Nat.le_trans ?_ hk;unfold sepF;have:=hF.vl.hu;have:=hF.vl.hl;exact Nat.add_le_add_right (Nat.mul_le_mul_right _ (by omega)) 1
 have hp:pw 11=65536:=by decide
 refine⟨_,L.length,hS,⟨⟨v,hG.den⟩,hG.fin,?_,by decide,b,by rw[hp];exact hb,?_⟩,hG,hv,by omega,b,_,_,by rw[show(32*2^11:Int)=65536 from ajW];exact hb,ha,by omega⟩
 . have:=hG.size;rw[show(32*2^11:Int)=65536 from ajW]at this;rw[hp];exact this
 . have h2:rv b.hi-rv b.lo<=p2 (-1):=Rat.le_trans ha.2.2 (iB (by omega))
   unfold fM;rw[decide_eq_true (anK h2),Bool.or_true]
theorem am9{x:Re}(h0:0<=x)(h:x<=y):x*x<=y*y:=Re.mul_le_mul h0 h h0 h
theorem amM{x:Re}(hy:0<=y)(h:x*x<=y*y):x<=y:=Re.not_lt.1 fun k=>by
 have h1:=am9 hy (Re.le_of_lt k);have:=Re.sq_inj (Re.le_trans hy (Re.le_of_lt k)) hy (Re.le_antisymm h h1);rw[this]at k;exact Re.lt_irrefl _ k
theorem apS{x:Re}(h0:0<=x)(h:x<y):x*x<y*y:=Re.not_le.1 fun k=>by
 have:=amM h0 k;exact Re.not_le.2 h this
theorem amN:rat (a:Rat)<rat (b:Rat)↔a<b:=by rw[Re.rat_lt];exact Rat.intCast_lt_intCast
theorem ak7:rat (a:Rat)<=rat (b:Rat)↔a<=b:=by rw[Re.rat_le];exact Rat.intCast_le_intCast
theorem al0{z:Int}{v:Re}(h:IsFl z v):rat (z:Rat)<=v/\v<rat ((z+1:Int):Rat):=by
 refine⟨h.1,?_⟩;have e:((z+1:Int):Rat)=(z:Rat)+1:=by rw[Rat.intCast_add];rfl
 rw[e];exact h.2
theorem aoX{z:Int}(h:IsFl z (rat (n:Rat))):z=n:=by
 obtain⟨h1,h2⟩:=al0 h;have:=ak7.1 h1;have:=amN.1 h2;omega
theorem aoY{m:Int}{v:Re}(h0:0<=v)(hv:v*v=rat (n:Rat))(hk:IsFl k v)(hm:IsFl m (0-v)):0<=k/\k*k<=n/\n<(k+1)*(k+1)/\(k*k=n->m=-k)/\(k*k≠n->m=-(k+1)):=by
 obtain⟨k1,k2⟩:=al0 hk;obtain⟨m1,m2⟩:=al0 hm;have r:∀a b:Int,rat ((a*b:Int):Rat)=rat (a:Rat)*rat (b:Rat):=fun a b=>by rw[Rat.intCast_mul,Re.rat_mul]
 have g0:0<=k:=by
  have:rat ((0:Int):Rat)<rat ((k+1:Int):Rat):=by
   refine Re.lt_of_le_of_lt ?_ k2;rw[show rat ((0:Int):Rat)=0 from(Re.zero_rat).symm];exact h0
  have:=amN.1 this;omega
 have gk:(0:Re)<=rat (k:Rat):=by rw[Re.zero_rat];exact ak7.2 g0
 have a1:k*k<=n:=by rw[<-ak7,r,<-hv];exact am9 gk k1
 have a2:n<(k+1)*(k+1):=by rw[<-amN,r,<-hv];exact apS h0 k2
 rw[Re.zero_sub]at m1 m2;have b1:v<=rat ((-m:Int):Rat):=by
  have:=Re.neg_le_neg m1;rwa[Re.neg_neg,<-Re.rat_neg,<-Rat.intCast_neg]at this
 have b2:rat ((-(m+1):Int):Rat)<v:=by
  have:=Re.neg_lt_neg m2;rwa[Re.neg_neg,<-Re.rat_neg,<-Rat.intCast_neg]at this
 have c1:k<=-m:=ak7.1 (Re.le_trans k1 b1);have c2:-(m+1)<k+1:=amN.1 (Re.lt_of_lt_of_le b2 (Re.le_of_lt k2));refine⟨g0,a1,a2,fun h=> ?_,fun h=> ?_⟩
 . have e:v=rat (k:Rat):=Re.sq_inj h0 gk (by rw[hv,<-h,r])
   rw[e]at b2;have:=amN.1 b2;omega
 . rcases Int.lt_or_eq_of_le c1 with g|g
   . omega
   . exfalso
     rw[<-g]at b1;have e:v=rat (k:Rat):=Re.le_antisymm b1 k1;rw[e,<-r]at hv;exact h (by have:=Re.rat_inj.1 hv;exact Rat.intCast_inj.1 this)
theorem am3(hn:0<=n/\n<=1099511627776):∃v:Re,0<=v/\v*v=rat (n:Rat)/\alH (.root (li n)) v/\alH (.sub (.leaf 0) (.root (li n))) (0-v)/\alH (li n) (rat (n:Rat)):=by
 obtain⟨x,hx,ex⟩:=Re.exists_sqrt (show(0:Re)<=rat ((n:Int):Rat) by rw[Re.zero_rat];exact ak7.2 hn.1);have hC:((4398046511104:Int):Rat)=4398046511104:=rfl;have hC':((-4398046511104:Int):Rat)=-4398046511104:=rfl;have hxu:x<=rat (4398046511104:Rat):=by
  rw[<-hC];refine amM (by rw[Re.zero_rat];exact ak7.2 (by decide)) ?_;rw[ex,<-Re.rat_mul,<-Rat.intCast_mul];exact ak7.2 (by omega)
 have hneg:rat (-4398046511104:Rat)=-rat (4398046511104:Rat):=Re.rat_neg _;have hn0:rat (-4398046511104:Rat)<=0:=by rw[Re.zero_rat,<-hC'];exact ak7.2 (by decide)
 obtain⟨L,hL⟩:∃L:List Ex,L=[.root (li n)]:=⟨_,rfl⟩;have l1:L.length=1:=by rw[hL];rfl
 have f1:=xF (L:=L) (k:=n) 41 (by omega) (by decide);have f0:Fit L (.leaf 1 0) (.leaf 0) 0:=by
  have:=xF (L:=L) (k:=0) 1 (by decide) (by decide);rw[Re.zero_rat];exact this
 have X:=Fit.root f1 hx ex (by rw[hL];exact aqV.2 rfl);refine⟨x,hx,ex,?_,?_,?_⟩
 . exact X.fl (by rw[l1];decide+kernel) (by rw[l1];decide+kernel) (by rw[l1];decide+kernel) ⟨Re.le_trans hn0 hx,hxu⟩
 . refine(Fit.sub f0 X).fl (by rw[l1];decide+kernel) (by rw[l1];decide+kernel) (by rw[l1];decide+kernel) ?_
   rw[Re.zero_sub];refine⟨by rw[hneg];exact Re.neg_le_neg hxu,?_⟩;refine Re.le_trans (Re.neg_le_neg hx) ?_;rw[Re.neg_zero,Re.zero_rat,<-hC];exact ak7.2 (by decide)
 . exact f1.fl (by rw[l1];decide+kernel) (by rw[l1];decide+kernel) (by rw[l1];decide+kernel) ⟨by rw[<-hC'];exact ak7.2 (by omega),by rw[<-hC];exact ak7.2 (by omega)⟩
def KpI(l:List (Nat×Obj))(v:Value)(z:Int):Prop:=∀W:World,(∀p∈l,W.heap[p.1]? =some p.2)->IntP AnyB W v z
theorem KpI.mono {l l':List (Nat×Obj)}{v:Value}{z:Int}(h:KpI l v z)(hs:∀p∈l,p∈l'):KpI l' v z:=fun W hk=>h W fun p hp=>hk p (hs p hp)
theorem IntP.zeroB {W:World}{V:Value}(h:IntP p W V 0)(W':World):IntP AnyB W' V 0:=by
 obtain⟨vm,xs,rfl,⟨A,c,rfl,h2,h3,h4,h5⟩,ht,hv⟩:=h;have hx:xs=[]:=by
  by_cases hn:xs=[]
  . exact hn
  . have h6:=fD xs ht hn
    have:0<B64^(xs.length-1):=Nat.pow_pos (by decide);have h7:val xs=0:=hv;omega
 subst hx;exact⟨_,[],rfl,⟨_,c,rfl,h2,h3,h4,fun hl=>absurd hl (by simp)⟩,ht,hv⟩
theorem IntP.keepL {W:World}{V:Value}{z:Int}(h:IntP p W V z):∃l:List (Nat×Obj),(∀x∈l,p x.1/\W.heap[x.1]? =some x.2)/\(l.map (·.1)).Nodup/\KpI l V z:=by
 by_cases h0:z=0
 . subst h0
   exact⟨[],⟨fun x hx=>absurd hx List.not_mem_nil,List.nodup_nil,fun W' _=>h.zeroB W'⟩⟩
 . obtain⟨b,o,hp,ho,hk⟩:=h.keepB h0
   refine⟨[(b,o)],fun x hx=> ?_,by simp,fun W' hW=>hk W' (hW _ (aqV.2 rfl))⟩;rw[aqV.1 hx];exact⟨hp,ho⟩
section
variable{s:Bs}{g N i q:Nat}{K:List (Ex×Nat)}{l:List (Nat×Obj)}{W W':World}{x:Ex}{v:Re}{z:Int}{V:Value}{o:Obj}
theorem Run.keepI (h:Run s g N K l W)(hb:Below W.heap.size W W')(hI:IntP (fun b=>W.heap.size<=b) W' V z):∃L',Run s g N K L' W'/\(∀p∈l,p∈L')/\KpI L' V z:=by
 obtain⟨lb,h1,h2,h3⟩:=hI.keepL;exact⟨lb++l,h.keeps hb lb (fun p hp=>⟨(h1 p hp).2,(h1 p hp).1⟩) h2,fun p hp=>aqW _ hp,h3.mono fun p hp=>aqU _ hp⟩
theorem Run.keepI2 (h:Run s g N K l W)(hb:Below W.heap.size W W')(ho:W'.heap[q]? =some o)(hq:W.heap.size<=q)(hI:IntP (fun b=>W.heap.size<=b/\b≠q) W' V z):∃L',Run s g N K L' W'/\(∀p∈l,p∈L')/\(q,o)∈L'/\KpI L' V z:=by
 obtain⟨lb,h1,h2,h3⟩:=hI.keepL;refine⟨((q,o)::lb)++l,h.keeps hb ((q,o)::lb) (fun p hp=> ?_) ?_,fun p hp=>aqW _ hp,aqU _ (List.mem_cons_self),h3.mono fun p hp=>aqU _ (List.mem_cons_of_mem _ hp)⟩
 . rcases List.mem_cons.1 hp with rfl|hp
   . exact⟨ho,hq⟩
   . exact⟨(h1 p hp).2,(h1 p hp).1.1⟩
 . rw[List.map_cons,List.nodup_cons]
   refine⟨fun hm=> ?_,h2⟩;obtain⟨p,hp,e⟩:=List.mem_map.1 hm;exact(h1 p hp).1.2 e
theorem Run.floorR (h:Run s g N K l W)(hx:(x,i)∈K)(hF:alH x v):Calls Tryz.prog 30 #[numV g i] W (fun e W'=>∃u A n c z L',e=.returned (.tuple #[.agg #[.bool u,.slice A n c],.nilIface])/\Run s g N K L' W'/\(∀p∈l,p∈L')/\KpI L' (.agg #[.bool u,.slice A n c]) z/\IsFl z v):=by
 obtain⟨ns,hs,hK⟩:=id h;obtain⟨q,k,h1,h2,h3,h4,h5,h6⟩:=hF;refine(am2 hs.st (hK _ hx) h1 h2 h3 h4 h5 h6).mono ?_;rintro e W'⟨hb,z,V,rfl,hI,hz⟩;obtain⟨u,A,n,c,rfl⟩:=hI.shape;obtain⟨L',g1,g2,g3⟩:=h.keepI hb hI;exact⟨u,A,n,c,z,L',rfl,g1,g2,g3,hz⟩
end
theorem aoZ(h0:0<=k)(h:k*k<=n)(hn:n<=1099511627776):k<=1048576:=by
 rcases Int.lt_or_le 1048576 k with g|g
 . have h1:(1048577:Int)<=k:=g
   have h2:=Int.mul_le_mul h1 h1 (by decide) h0;omega
 . exact g
theorem am4(h:0<=k/\k<=1048577):bits k.natAbs<=21:=by
 rw[aD];have:(2:Nat)^21=2097152:=by decide
 omega
theorem an2{N:Nat}(h:N<=1099511627776):bits ((N:Int)).natAbs<=41:=by
 rw[Int.natAbs_natCast,aD];have:(2:Nat)^41=2199023255552:=by decide
 omega
theorem anA{x y:Int}(h:x<=y):cmpI x y<=0:=by
 unfold cmpI
 split
 . decide
 . rw[if_neg (by omega)];decide
theorem anB{x y:Int}(h:y<x):cmpI x y=1:=by
 unfold cmpI;rw[if_neg (by omega),if_pos h]
theorem alI(x:Int):cmpI x x=0:=by
 unfold cmpI;rw[if_neg (by omega),if_neg (by omega)]
theorem ao0{x y:Int}(h:x≠y):cmpI x y≠0:=by
 unfold cmpI
 split
 . decide
 . rw[if_pos (by omega)];decide
end
section
open List renaming dropLast_concat_getLast->aqY,length_take->aq1,length_cons->aq5
open Nat renaming mul_le_mul_left->aqX,mul_comm->aqZ,mul_add->aq0,min_eq_left->aq2,mul_assoc->aq3,pow_succ->aq4,pow_add->aq6
variable{xs:List Nat}
def B32:Nat:=4294967296
theorem alS:0<B32:=by unfold B32;omega
def val2:List Nat->Nat
 |[]=>0
 |x::xs=>x+B32*val2 xs
def OkS(xs:List Nat):Prop:=∀x∈xs,x<B32
theorem akP(xs ys:List Nat):val2 (xs++ys)=val2 xs+B32^xs.length*val2 ys:=by
 induction xs with
 |nil=>simp[val2]
 |cons x xs ih=>
  simp only[List.cons_append,val2,ih,aq5,aq4];rw[aq0,<-aq3,aqZ B32 (B32^xs.length)];omega
theorem ak3(xs:List Nat)(h:OkS xs):val2 xs<B32^xs.length:=by
 induction xs with
 |nil=>simp[val2]
 |cons x xs ih=>
  have h1:x<B32:=h x (by simp);have h2:=ih (fun y hy=>h y (by simp[hy]));simp only[val2,aq5,aq4];have:B32*(val2 xs+1)<=B32*B32^xs.length:=aqX _ h2;rw[aqZ (B32^xs.length)];rw[aq0]at this;omega
theorem alF(n:Nat):val2 (List.replicate n 0)=0:=by
 induction n with
 |zero=>rfl
 |succ n ih=>simp[List.replicate_succ,val2,ih]
theorem akN(xs:List Nat)(k:Nat)(h:k<=xs.length):val2 xs=val2 (xs.take k)+B32^k*val2 (xs.drop k):=by
 have:=akP (xs.take k) (xs.drop k);rw[List.take_append_drop,aq1,aq2 h]at this;exact this
theorem an3(xs:List Nat)(i:Nat)(x:Nat)(h:i<xs.length):val2 (xs.set i x)+xs[i]*B32^i=val2 xs+x*B32^i:=by
 induction xs generalizing i with
 |nil=>simp at h
 |cons y ys ih=>
  cases i with
  |zero=>simp[val2];omega
  |succ i=>
   have h':i<ys.length:=by simpa using h
   have:=ih i h';simp only[List.set_cons_succ,val2,List.getElem_cons_succ,aq4];have e:B32*val2 (ys.set i x)+B32*(ys[i]*B32^i)=B32*val2 ys+B32*(x*B32^i):=by
    rw[<-aq0,<-aq0,this]
   have e1:ys[i]*(B32^i*B32)=B32*(ys[i]*B32^i):=by
    rw[<-aq3,aqZ (ys[i]*B32^i)]
   have e2:x*(B32^i*B32)=B32*(x*B32^i):=by
    rw[<-aq3,aqZ (x*B32^i)]
   omega
theorem OkS.set (h:OkS xs)(i:Nat){x:Nat}(hx:x<B32):OkS (xs.set i x):=by
 intro y hy;rcases List.mem_or_eq_of_mem_set hy with h1|h1
 . exact h y h1
 . omega
theorem OkS.take (h:OkS xs)(k:Nat):OkS (xs.take k):=fun y hy=>h y (List.mem_of_mem_take hy)
theorem OkS.drop (h:OkS xs)(k:Nat):OkS (xs.drop k):=fun y hy=>h y (List.mem_of_mem_drop hy)
theorem ak0(xs:List Nat)(k:Nat)(h:k<xs.length):val2 (xs.take (k+1))=val2 (xs.take k)+xs[k]*B32^k:=by
 have e:xs.take (k+1)=xs.take k++[xs[k]]:=by simp
 rw[e,akP,aq1,aq2 (by omega)];simp[val2,aqZ]
theorem ak8(xs:List Nat)(ht:Tr xs)(hn:xs≠[]):B32^(xs.length-1)<=val2 xs:=by
 have e:=aqY hn;have h1:val2 xs=val2 xs.dropLast+B32^(xs.length-1)*xs.getLast hn:=by
  conv=>lhs;rw[<-e]
  rw[akP];simp[val2]
 rw[h1];have:=ht hn;have:B32^(xs.length-1)*1<=B32^(xs.length-1)*xs.getLast hn:=aqX _ (by omega);omega
theorem akT(xs:List Nat)(ht:Tr xs):val2 xs=0↔xs=[]:=by
 constructor
 . intro h
   rcases xs with _|⟨x,xs⟩
   . rfl
   . exfalso
     have:=ak8 _ ht (by simp);have:=Nat.pow_pos (n:=(x::xs).length-1) alS;omega
 . rintro rfl;rfl
theorem ak1(xs ys:List Nat)(hx:OkS xs)(hy:Tr ys)(h:xs.length<ys.length):val2 xs<val2 ys:=by
 have h1:=ak3 xs hx;have hn:ys≠[]:=by rintro rfl;simp at h
 have h2:=ak8 ys hy hn;have:B32^xs.length<=B32^(ys.length-1):=Nat.pow_le_pow_right alS (by omega);omega
theorem alN(xs ys:List Nat)(i:Nat)(hx:OkS xs)(hl:xs.length=ys.length)(hi:i<xs.length)(htop:xs.drop (i+1)=ys.drop (i+1))(h:xs[i]<ys[i]):val2 xs<val2 ys:=by
 rw[akN xs (i+1) (by omega),akN ys (i+1) (by omega),htop,ak0 xs i hi,ak0 ys i (by omega)];have h1:=ak3 (xs.take i) (hx.take i);rw[aq1,aq2 (by omega)]at h1;have h2:(xs[i]+1)*B32^i<=ys[i]*B32^i:=Nat.mul_le_mul_right _ h;rw[Nat.add_mul]at h2;omega
theorem ak9:B32=2^32:=by unfold B32;rfl
theorem alJ(xs:List Nat)(hx:OkS xs)(ht:Tr xs)(hn:xs≠[]):bits (val2 xs)=32*(xs.length-1)+bits (xs.getLast hn):=by
 have hne:val2 xs≠0:=fun h=>hn ((akT xs ht).1 h);have e:=aqY hn;have h1:val2 xs=val2 xs.dropLast+B32^(xs.length-1)*xs.getLast hn:=by
  conv=>lhs;rw[<-e]
  rw[akP];simp[val2]
 have hd:val2 xs.dropLast<B32^(xs.length-1):=by
  have:=ak3 xs.dropLast (fun y hy=>hx y ((List.dropLast_sublist _).subset hy));rwa[List.length_dropLast]at this
 generalize hg:xs.getLast hn=g at*;have hg0:g≠0:=by rw[<-hg];exact ht hn
 generalize xs.length-1=m at*;rw[ak9,<-Nat.pow_mul]at*;apply Nat.le_antisymm
 . rw[aD,h1,aq6]
   have:=bI g;have h2:2^(32*m)*(g+1)<=2^(32*m)*2^bits g:=aqX _ this;rw[aq0]at h2;omega
 . have h2:=dU g hg0
   have h3:2^(32*m+(bits g-1))<=val2 xs:=by
    rw[h1,aq6];have:=aqX (2^(32*m)) h2;omega
   have h4:¬bits (val2 xs)<=32*m+(bits g-1):=by
    rw[aD];omega
   have:1<=bits g:=by unfold bits;rw[if_neg hg0];omega
   omega
end
section
open Go.RowKit
open List renaming drop_eq_getElem_cons->aq7,length_take->aq8,getLast_eq_getElem->aq9,drop_of_length_le->arA,length_pos_iff->arB,drop_zero->arC
variable{xs:List Nat}{c m n:Nat}{p:Nat->Prop}{A:Option Addr}{va:Value}{w:World}
theorem NatP.take3 (h:NatP p w (.slice A n c) xs)(hm:m<=xs.length):NatP p w (.slice A m m) (xs.take m):=by
 obtain⟨A',c',h1,h2,h3,h4,h5⟩:=h;injection h1 with h1 h1n h1c;subst h1 h1n h1c;have hl:(xs.take m).length=m:=by rw[aq8];omega
 refine⟨A,m,by rw[hl],by omega,⟨by have:=h3.1;omega,by have:=h3.2;have:=h3.1;omega⟩,h4.take m,fun hp=> ?_⟩;obtain⟨b,off,e,hp,hb,hc⟩:=h5 (by omega);exact⟨b,off,e,hp,hb,fun k hk=>by rw[hl]at hk;rw[ad3 hk];exact hc k (by omega)⟩
def ao5(p:Nat->Prop)(w:World)(xs:List Nat)(e:Ending)(w':World):Prop:=
 w=w'/\∃v' xs',e=.returned v'/\NatP p w v' xs'/\Tr xs'/\val2 xs'=val2 xs/\xs'.length<=xs.length/\(OkS xs->OkS xs')
theorem ak6(xs:List Nat)(m:Nat)(hm:m<=xs.length)(hz:∀j,m<=j->j<xs.length->lim xs j=0):val2 (xs.take m)=val2 xs:=by
 have e:=akN xs m hm;have:∀ys:List Nat,(∀y∈ys,y=0)->val2 ys=0:=by
  intro ys
  induction ys with
  |nil=>intro _;rfl
  |cons y ys ih=>intro h;simp only[val2];rw[h y (by simp),ih (fun z hz=>h z (by simp[hz]))];simp
 rw[this (xs.drop m)]at e
 . omega
 . intro y hy
   obtain⟨j,hj,rfl⟩:=List.getElem_of_mem hy;rw[List.length_drop]at hj;have:=hz (m+j) (by omega) (by omega);rw[bZ (by omega)]at this;rw[List.getElem_drop];omega
theorem amA(h:NatP p w (.slice A n c) xs)(hm:m<=xs.length)(hz:∀j,m<=j->j<xs.length->lim xs j=0)(ht:0<m->lim xs (m-1)≠0):
 ao5 p w xs (.returned (.slice A m m)) w:=by
 refine⟨rfl,_,xs.take m,rfl,h.take3 hm,?_,ak6 xs m hm hz,by rw[aq8];omega,fun h=>h.take m⟩;intro hne;have hl:(xs.take m).length=m:=by rw[aq8];omega
 have h0:0<m:=by rw[<-hl];exact arB.2 hne
 have:=ht h0;rw[bZ (by omega)]at this;rw[aq9];simp only[hl,List.getElem_take];omega
theorem akV{v:Value}(hv:NatP p w v xs):
 Calls Tryz.prog 128 #[v] w (ao5 p w xs):=by
 have hv':=hdd hv;obtain⟨A,c,rfl,h2,h3,h4,h5⟩:=hv;obtain⟨h3,h3b⟩:=h3;go_enter Tryz.func128,Tryz.ntmps128
 go_wp2
 go_loop [3] (fun n=>∃k:Nat,k<=xs.length/\n=.int .i64 k/\Hid (∀j,k<=j->j<xs.length->lim xs j=0)) (fun n=>(intOf n).toNat)
 case atStart=>exact⟨xs.length,by omega,rfl,hdd fun j _ _=>by omega⟩
 case round=>
  obtain⟨k,hk,rfl,hz⟩:=hrel;by_cases hk0:0<k
  . obtain⟨b,off,rfl,hp,hb,hc⟩:=h5 (by omega)
    have hc':=hc (k-1) (by omega);clear hc hp;go_wp2
    . rename_i hx
      refine⟨⟨k-1,by omega,by go_num,hdd fun j h1 h2=> ?_⟩,by simp[intOf];omega⟩;rcases Nat.eq_or_lt_of_le h1 with h|h
      . subst h;exact eq_of_beq hx
      . exact hz.out j (by omega) h2
    . rename_i hx _
      go_ret;exact amA hv'.out hk hz.out (fun _=>by simpa using hx)
  . go_wp2
    go_ret;have:k=0:=by omega
    subst this;exact amA hv'.out hk hz.out (fun h=>absurd h (by omega))
def RetC(B:Nat)(w0:World)(n:Nat)(e:Ending)(w':World):Prop:=
 ∃v ys,e=.returned v/\NatP (fun b=>B<=b) w' v ys/\OkS ys/\Tr ys/\val2 ys=n/\Below B w0 w'
theorem OkS.okL (h:OkS xs):OkL xs:=fun x hx=>Nat.lt_trans (h x hx) (by unfold B32 B64;omega)
theorem al1{x:Nat}(hx:x<18446744073709551616):Calls Tryz.prog 84 #[.int .u64 (x:Int)] w (RetC w.heap.size w x):=by
 have oS:OkS [x%4294967296,x/4294967296]:=fun y hy=>by
  unfold B32;rcases List.mem_cons.1 hy with rfl|hy
  . omega
  . rw[List.mem_singleton.1 hy];omega
 have ho:OwnN (w.alloc (.cells #[.int .u64 ((x:Int)%4294967296),.int .u64 ((x:Int)/4294967296)] 134)) w.heap.size [x%4294967296,x/4294967296]:=by
  refine⟨?_,oS.okL⟩;rw[heap_alloc_new];simp[rG]
 have HT:=hdd (akV (ho.natP (n:=2) (c:=2) rfl (by omega) (by omega) (p:=fun b=>w.heap.size<=b) nlr));have hb:Below w.heap.size w (w.alloc (.cells #[.int .u64 ((x:Int)%4294967296),.int .u64 ((x:Int)/4294967296)] 134)):=Below.alloc (Below.refl _ _) nlr _;have HB:=hdd hb;have HS:=hdd oS;have HX:Hid (val2 [x%4294967296,x/4294967296]=x):=hdd (by simp only[val2,B32];omega);clear ho hb oS;go_enter Tryz.func84,Tryz.ntmps84
 go_wp2_with fail
 refine HT.out.mono ?_;rintro e w2⟨rfl,v,ys,rfl,hv,ht,he,-,hs⟩;have HV:=hdd (show RetC w.heap.size w x (.returned v) _ from⟨v,ys,rfl,hv,hs HS.out,ht,he.trans HX.out,HB.out⟩);clear hv ht he hs HT;go_wp2;go_ret;exact HV.out
theorem an4{q:Nat->Prop}{vb:Value}{ys:List Nat}(hx:NatP p w va xs)(hy:NatP q w vb ys)(ox:OkS xs)(oy:OkS ys)(tx:Tr xs)(ty:Tr ys):
 Calls Tryz.prog 227 #[va,vb] w (RetI w (cmpN (val2 xs) (val2 ys))):=by
 have HT1:=hdd tx;have HT2:=hdd ty;have HO1:=hdd ox;have HO2:=hdd oy;clear tx ty ox oy;obtain⟨A1,c1,rfl,l1,l1',-,hc1⟩:=hx;obtain⟨A2,c2,rfl,l2,l2',-,hc2⟩:=hy;obtain⟨l1',l1b⟩:=l1';obtain⟨l2',l2b⟩:=l2';have HC1:=hdd hc1;have HC2:=hdd hc2;clear hc1 hc2;go_enter Tryz.func227,Tryz.ntmps227
 rcases Nat.lt_trichotomy xs.length ys.length with h|h|h
 . have hb:((xs.length:Int) != (ys.length:Int))=true:=by simp;omega
   go_wp2;go_ret;have:=ak1 xs ys HO1.out HT2.out h;exact RetI.of0 (by unfold cmpN;rw[if_pos this])
 . have hb:((xs.length:Int) != (ys.length:Int))=false:=by simp;omega
   have HL:=hdd h;clear h;have hlx:xs.length<=1099511627776:=by omega
   go_wp2
   go_loopw [5] (fun i wr=>∃k n:Nat,k<=xs.length/\i=.int .i64 ((k:Int)-1)/\wr=w.drewN n/\Hid (xs.drop k=ys.drop k)) (fun i _=>(intOf i+1).toNat)
   case atStart=>exact⟨xs.length,0,Nat.le_refl _,rfl,rfl,hdd (by rw[arA nlr,arA (by rw[HL.out];exact Nat.le_refl _)])⟩
   case round=>
    obtain⟨k,n,hk,rfl,rfl,hd⟩:=hrel;rcases Nat.eq_zero_or_pos k with h0|h0
    . subst h0
      go_wp2;go_ret;have:=hd.out;rw[arC,arC]at this;exact RetI.of (by rw[this];unfold cmpN;rw[if_neg (by omega),if_neg (by omega)])
    . obtain⟨j,rfl⟩:∃j,k=j+1:=⟨k-1,by omega⟩
      obtain⟨b1,o1,rfl,-,-,hcell1⟩:=HC1.out (by omega);obtain⟨b2,o2,rfl,-,-,hcell2⟩:=HC2.out (by rw[<-HL.out];omega);have g1:=hcell1 j (by omega);have g2:=hcell2 j (by rw[<-HL.out];omega);have hjy:j<ys.length:=by rw[<-HL.out];omega
      clear hcell1 hcell2;have e1:lim xs j=(xs[j]:Int):=bZ (by omega);have e2:lim ys j=(ys[j]:Int):=bZ hjy;have E1:=hdd e1;have E2:=hdd e2;clear e1 e2;have hlxy:=HL.out;rcases Int.lt_trichotomy (lim xs j) (lim ys j)with hlt|heq|hgt
      . go_wp2
        go_quiet (fail)
        go_wp2;go_ret;have:=alN xs ys j HO1.out HL.out (by omega) hd.out (by have:=E1.out;have:=E2.out;omega);exact RetI.ofw (hw:=⟨_,by simp only[World.drewN_drewN];rfl⟩) (by unfold cmpN;rw[if_pos this])
      . have hd':Hid (xs.drop j=ys.drop j):=by
         refine hdd ?_;rw[aq7 (by omega:j<xs.length),aq7 hjy,hd.out]
         congr 1
         have:=E1.out;have:=E2.out;omega
        have q1:¬lim xs j<lim ys j:=by omega
        have q2:¬lim ys j<lim xs j:=by omega
        clear heq hlxy;go_wp2
        go_quiet (fail)
        go_wp2
        go_quiet (fail)
        go_wp2
        go_roundw
        case rel=>exact⟨j,_,by omega,by go_num,rfl,hd'⟩
        case measure=>simp[intOf]
      . have q1:¬lim xs j<lim ys j:=by omega
        go_wp2
        go_quiet (fail)
        go_wp2
        go_quiet (fail)
        go_wp2;go_ret;have:=alN ys xs j HO2.out HL.out.symm hjy hd.out.symm (by have:=E1.out;have:=E2.out;omega);exact RetI.ofw (hw:=⟨_,by simp only[World.drewN_drewN];rfl⟩) (by unfold cmpN;rw[if_neg (by omega),if_pos this])
 . have hb:((xs.length:Int) != (ys.length:Int))=true:=by simp;omega
   go_wp2;go_ret;have:=ak1 ys xs HO2.out HT1.out h;exact RetI.of0 (by unfold cmpN;rw[if_neg (by omega),if_pos this])
theorem anL(hx:NatP p w va xs)(ox:OkS xs)(tx:Tr xs):
 Calls Tryz.prog 189 #[va] w (RetI w (bits (val2 xs):Nat)):=by
 rcases Decidable.em (xs=[])with rfl|hn
 . obtain⟨A,c,rfl,-,-,-,-⟩:=hx
   go_enter Tryz.func189,Tryz.ntmps189
   go_wp2;go_ret;exact RetI.of0 (by simp[val2,bits])
 . have hb:=alJ xs ox tx hn
   have hl0:0<xs.length:=arB.2 hn;have hok:=hx.ok;obtain⟨A,c,rfl,l1,⟨l2,l3⟩,-,hc⟩:=hx;obtain⟨b,off,rfl,-,-,hcell⟩:=hc hl0;have g:=hcell (xs.length-1) (by omega);have e:lim xs (xs.length-1)=((xs.getLast hn:Nat):Int):=by rw[bZ (by omega),aq9]
   have hL:xs.getLast hn<4294967296:=ox _ (List.getLast_mem hn);rw[e]at g;generalize xs.getLast hn=L at*;have HB:=hdd hb;have hne:((xs.length:Int)==0)=false:=by simp;omega
   clear hb hc hcell e hok tx ox;go_enter Tryz.func189,Tryz.ntmps189
   go_wp2
   go_loop [3,4] (fun n v=>∃m k:Nat,n=.int .i64 (32*((xs.length:Int)-1)+(k:Int))/\v=.int .u64 (m:Int)/\m<=L/\k<=32/\Hid (k+bits m=bits L)) (fun _ v=>(intOf v).toNat)
   case atStart=>exact⟨L,0,by go_num,rfl,Nat.le_refl _,by omega,hdd (by omega)⟩
   case round=>
    obtain⟨m,k,rfl,rfl,hm,hk,hI⟩:=hrel;rcases Nat.eq_zero_or_pos m with rfl|h0
    . go_wp2
      go_ret;have:=hI.out;exact RetI.of0 (by rw[HB.out,<-hI.out];simp[bits];omega)
    . have hk2:k<32:=by
       have h1:=hI.out;have h2:bits L<=32:=(aD _ _).2 (by omega);have h3:=uH m (by omega);omega
      go_wp2;exact⟨⟨m/2,k+1,by go_num,by go_num,by omega,by omega,hdd (by have:=hI.out;have:=uH m (by omega);omega)⟩,by simp[intOf];omega⟩
theorem al2(xs:List Nat)(hz:∀j,j<xs.length->lim xs j=0):val2 xs=0:=by
 have:=ak6 xs 0 (Nat.zero_le _) (fun j _ h=>hz j h);rw[<-this];rfl
theorem apH(xs:List Nat)(j q:Nat)(hj:j<xs.length)(hz:∀t,t<j->lim xs t=0)(hq:q<32)(hd:xs[j]%2^q=0)(h1:xs[j]/2^q%2=1):ctz (val2 xs)=32*j+q:=by
 have e0:=akN xs j (by omega);have e1:val2 (xs.take j)=0:=al2 _ fun t ht=>by
  rw[aq8]at ht;rw[ad3 (by omega)];exact hz t (by omega)
 rw[e1,aq7 hj]at e0;simp only[val2]at e0;have e2:xs[j]=2^q*(2*(xs[j]/2^q/2)+1):=by
  have h2:=Nat.div_add_mod xs[j] (2^q);have h3:=Nat.div_add_mod (xs[j]/2^q) 2;rw[h1]at h3;rw[h3];omega
 have e3:B32=2^q*(2*2^(31-q)):=by
  rw[ak9,<-Nat.pow_succ',<-Nat.pow_add];congr 1;omega
 have e4:B32^j=2^(32*j):=by rw[ak9,<-Nat.pow_mul]
 generalize xs[j]/2^q/2=m at*;generalize val2 (List.drop (j+1) xs)=R at*;have:val2 xs=2^(32*j+q)*(2*(m+2^(31-q)*R)+1):=by
  rw[e0,e2,e4,Nat.pow_add];rw[show B32*R=2^q*(2*2^(31-q))*R by rw[<-e3]];grind
 rw[this,vM]
theorem an5(hx:NatP p w va xs)(ox:OkS xs):
 Calls Tryz.prog 126 #[va] w (RetI w (ctz (val2 xs):Nat)):=by
 have HO:=hdd ox;obtain⟨A,c,rfl,l1,⟨l2,l3⟩,-,hc⟩:=hx;clear ox;go_enter Tryz.func126,Tryz.ntmps126
 go_wp2
 go_loop [3,4,5] (fun n i _=>∃j:Nat,j<=xs.length/\n=.int .i64 (32*(j:Int))/\i=.int .i64 (j:Int)/\Hid (∀t,t<j->lim xs t=0)) (fun _ i _=>(xs.length-(intOf i)).toNat)
 case atStart=>exact⟨0,by omega,rfl,rfl,hdd fun t h=>by omega⟩
 case round=>
  obtain⟨j,hj,rfl,rfl,hz⟩:=hrel;rcases Nat.lt_or_ge j xs.length with h|h
  . obtain⟨b,off,rfl,-,-,hcell⟩:=hc (by omega)
    have g:=hcell j h;have hd0:xs[j]<4294967296:=HO.out _ (List.getElem_mem h);rw[bZ h]at g;have HE:Hid (lim xs j=((xs[j]:Nat):Int)):=hdd (bZ h);clear hcell;have HL:Hid (∀q,q<32->xs[j]%2^q=0->xs[j]/2^q%2=1->ctz (val2 xs)=32*j+q):=hdd fun q a b c=>apH xs j q h hz.out a b c;generalize xs[j]=d at*;go_wp2
    go_loop [3,5] (fun n k=>∃q:Nat,q<=32/\n=.int .i64 (32*(j:Int)+(q:Int))/\k=.int .i64 (q:Int)/\Hid (d%2^q=0)) (fun _ k=>(32-(intOf k)).toNat)
    case atStart=>exact⟨0,by omega,by go_num,rfl,hdd (by simp[Nat.mod_one])⟩
    case round=>
     obtain⟨q,hq,rfl,rfl,hd⟩:=hrel;rcases Nat.lt_or_ge q 32 with h2|h2
     . have hle:(d:Int)/2^q<=18446744073709551615:=by
        have:=Nat.div_le_self d (2^q);have h3:((d/2^q:Nat):Int)=(d:Int)/2^q:=by push_cast;rfl
        omega
       have hge:0<=(d:Int)/2^q:=Int.ediv_nonneg (by omega) (Int.le_of_lt (by exact_mod_cast Nat.two_pow_pos q));have ha:=Go.and_one_u64 ((d:Int)/2^q) hge hle;have h3:(d:Int)/2^q%2=((d/2^q%2:Nat):Int):=by push_cast;rfl
       rw[h3]at ha;rcases Nat.mod_two_eq_zero_or_one (d/2^q)with h4|h4
       . rw[h4]at ha
         have HA:=hdd h4;clear hle hge h3 h4;go_wp2;exact⟨⟨q+1,by omega,by go_num,by go_num,hdd (by rw[Nat.mod_pow_succ,hd.out,HA.out,Nat.mul_zero])⟩,by simp[intOf];omega⟩
       . rw[h4]at ha
         have HA:=hdd h4;clear hle hge h3 h4;go_wp2;go_ret;exact RetI.of0 (by rw[HL.out q h2 hd.out HA.out];push_cast;rfl)
     . have hd1:d=0:=by
        have:=hd.out;have:q=32:=by omega
        subst this;have e:=hd.out;rw[Nat.mod_eq_of_lt (by omega)]at e;exact e
       have HD:=hdd hd1;clear hd1;go_wp2;exact⟨⟨j+1,by omega,by go_num,by go_num,hdd fun t ht=>by
        rcases Nat.lt_or_ge t j with h5|h5
        . exact hz.out t h5
        . obtain rfl:t=j:=by omega
          rw[HE.out,HD.out];rfl⟩,by simp[intOf];omega⟩
  . go_wp2
    go_ret;exact RetI.of0 (by rw[al2 xs fun t ht=>hz.out t (by omega)];rfl)
end
end Go.Proofs.YtebocijmegkfgaaGreatDoor
