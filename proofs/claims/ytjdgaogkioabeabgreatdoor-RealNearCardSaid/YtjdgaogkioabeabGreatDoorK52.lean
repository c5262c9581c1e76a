/- A part of the proof: contracts of functions and plain laws (NrW). -/
import Derived.Test.YtjdgaogkioabeabGreatDoorK51
set_option linter.unusedVariables false
set_option linter.unusedSimpArgs false
set_option maxHeartbeats 25600000
set_option maxRecDepth 100000
namespace Go.Proofs.YtjdgaogkioabeabGreatDoor
open Go.RowKit Go.Maps Go.Stop Go.Extern
variable{w:World}
theorem akV{o:Obj}{b k:Nat}(h:b<w.heap.size):(w.alloc o).cell? ⟨b,k,none⟩=w.cell? ⟨b,k,none⟩:=by
 unfold World.cell?;rw[Lib.alloc_old w o b h]
theorem alU{b:Int}(h:0<=b/\b<=400):wrap64 (-b)=-b:=by unfold wrap64;omega
theorem alK{z:Int}(h:0<=z):0<=z.sign:=by
 rcases Int.lt_or_eq_of_le h with h|h
 . rw[Int.sign_eq_one_of_pos h];decide
 . rw[<-h];decide
theorem akQ{N:Nat}(h:N<=1000000):bits N<=1000:=Nat.le_trans (bP h) (by decide)
theorem akW{n bits:Int}(hT:Tab w)(htb:0<w.heap.size):
 Calls Tryz.prog 5 #[.int .i64 n,.int .i64 bits] w (RetV w (.bool true)):=by
 have HA:=hdd (alive15 hT htb);by_cases g1:n<0
 . clear hT htb
   go_enter Tryz.func5,Tryz.ntmps5
   go_wp2_with fail
   refine HA.out.mono ?_;rintro e w2⟨rfl,hb⟩;have HB:=hdd hb;clear hb;go_wp2;go_ret;exact⟨rfl,HB.out⟩
 by_cases g2:1000000<n
 . clear hT htb
   go_enter Tryz.func5,Tryz.ntmps5
   go_wp2_with fail
   refine HA.out.mono ?_;rintro e w2⟨rfl,hb⟩;have HB:=hdd hb;clear hb;go_wp2;go_ret;exact⟨rfl,HB.out⟩
 by_cases g3:400<bits
 . clear hT htb
   go_enter Tryz.func5,Tryz.ntmps5
   go_wp2_with fail
   refine HA.out.mono ?_;rintro e w2⟨rfl,hb⟩;have HB:=hdd hb;clear hb;go_wp2;go_ret;exact⟨rfl,HB.out⟩
 have hn:0<=n/\n<=1000000:=by omega
 have hb400:bits<=400:=by omega
 have HN0:=hdd (And.intro hn hb400);have HT:=hdd (And.intro hT htb);obtain⟨f1,f2,f3⟩:=ajZ (k:=n) (by omega);have HFL:=hdd (And.intro f1 f2);have hcv:=fun w=>alT n w;clear hT htb hn hb400 f1 f2 f3;go_enter Tryz.func5,Tryz.ntmps5
 go_wp2_with fail
 refine HA.out.mono ?_;rintro e w2⟨rfl,hb⟩;have HN:=hdd (aiI (w0:=w) (l:=[]) hb (fun p hp=>by cases hp) (by simp) HT.out.1 HT.out.2);clear hb HA;go_wp2_with fail
 refine HN.out.mono ?_;rintro e W1⟨g,rfl,hR⟩;dsimp only;have HC:=hdd (hR.of (v:=fl n) (by omega) HFL.out.1 HFL.out.2);clear hR HN;go_wp2_with fail
 refine HC.out.mono ?_;rintro e W2⟨i,rfl,hR⟩;have HC:=hdd (hR.sqrt (by omega) m0);clear hR;go_wp2_with fail
 refine HC.out.mono ?_;rintro e W3⟨j,rfl,hR⟩;have HB3:=hdd hR.below;obtain⟨ns,hs,hK⟩:=hR;have HS3:=hdd hs.st;have HI3:=hdd (hK _ m0);clear hs hK HC;by_cases hneg:bits<0
 . have HC:Hid (∀q,lJ PT (.root (li n)) q->Calls Tryz.prog 22 #[numV g j,.int .i64 bits] W3 (fun e w'=>∃er,e=.returned (.tuple #[.agg #[.bool false,.slice none 0 0,.int .i64 0,.bool false,.slice none 0 0,.int .i64 0],er])/\ErK (fun _=>True) w' 1 er 7/\Below W3.heap.size W3 w')):=hdd fun q hq=>alS HS3.out HI3.out hq hneg
   obtain⟨-,⟨q0,hq0⟩,-⟩:=alA (n:=n) (bits:=0) HN0.out.1 (by decide);have HC2:=hdd (HC.out q0 hq0);clear HC hq0 HS3 HI3 HFL;go_wp2_with fail
   refine HC2.out.mono ?_;rintro e w4⟨er,rfl,he,hb4⟩;obtain⟨t,vx,rfl⟩:∃t vx,er=.iface t vx:=by cases he<;>exact⟨_,_,rfl⟩
   have HE:=hdd (alQ (w:=w4.alloc (.cells #[.bool false,.slice none 0 0,.int .i64 0,.bool false,.slice none 0 0,.int .i64 0] 57)) (he.keep (w':=w4.alloc (.cells #[.bool false,.slice none 0 0,.int .i64 0,.bool false,.slice none 0 0,.int .i64 0] 57)) fun b _ hlt=>akV hlt) (by decide));have HB4:=hdd ((HB3.out.trans (hb4.mono HB3.out.size)).alloc (Nat.le_trans HB3.out.size hb4.size) (.cells #[.bool false,.slice none 0 0,.int .i64 0,.bool false,.slice none 0 0,.int .i64 0] 57));clear he hb4 HC2;go_wp2_with fail
   refine HE.out.mono ?_;rintro e w5⟨rfl,hb5⟩;have HB5:=hdd (HB4.out.trans (hb5.mono HB4.out.size));clear hb5;go_wp2;go_ret;exact⟨rfl,HB5.out⟩
 have hb0:0<=bits/\bits<=400:=by have:=HN0.out.2;omega
 obtain⟨hc,⟨q0,hq0⟩,hG⟩:=alA HN0.out.1 hb0;have HC:=hdd (agZ HS3.out HI3.out hq0 hc (by omega));have HG:=hdd hG;have HTB:=hdd HS3.out.tab;have HBT:=hdd hb0;clear hc hq0 hG HS3 HI3 HFL hb0;go_wp2_with fail
 refine HC.out.mono ?_;rintro e w4⟨k,bb,V,⟨hk,hne,hnw⟩,rfl,hb4,hbal⟩;have HGG:=hdd (HG.out k bb hk hne hnw);obtain⟨e1,A1,n1,k1,e2,A2,n2,k2,rfl,i1,i2⟩:=id hbal;obtain⟨w5,hw5,hb5,hs5,b5⟩:=pro1 w4 (.cells #[.bool e1,.slice A1 n1 k1,.int .i64 bb.lo.exp,.bool e2,.slice A2 n2 k2,.int .i64 bb.hi.exp] 57);obtain⟨x0,x1,x2,x3,x4,x5⟩:=aG b5;have hb45:=hb4.trans (hb5.mono hb4.size);have HB5:=hdd (HB3.out.trans (hb45.mono HB3.out.size));have HT5:=hdd (HTB.out.below hb45);have HLO:=hdd (show DyP (· <w5.heap.size) w5 (.agg #[.bool e1,.slice A1 n1 k1,.int .i64 bb.lo.exp]) bb.lo from⟨_,_,_,_,rfl,(i1.below hb5).weak fun _ _ h=>h⟩);have HHI:=hdd (show DyP (· <w5.heap.size) w5 (.agg #[.bool e2,.slice A2 n2 k2,.int .i64 bb.hi.exp]) bb.hi from⟨_,_,_,_,rfl,(i2.below hb5).weak fun _ _ h=>h⟩);obtain⟨N,hN⟩:∃N:Nat,n=(N:Int):=⟨n.toNat,by have:=HN0.out.1;omega⟩;subst hN;have HOF:=hdd (alR (n:=N) HT5.out (by have:=HN0.out.1;omega) (akQ (by have:=HN0.out.1;omega)));clear hb4 hb5 hs5 b5 hb45 hbal i1 i2 hk hne hnw HC HG HTB HB3
 go_wp2_with fail
 refine HOF.out.mono ?_;rintro e w6⟨hb6,v6,rfl,hz6⟩;obtain⟨e3,A3,n3,k3,rfl,-⟩:=id hz6;obtain⟨w7,hw7,hb7,hs7,b7⟩:=pro1 w6 (.cells #[.bool e3,.slice A3 n3 k3,.int .i64 (mkDy (N:Int) 0).exp] 55);obtain⟨y0,y1,y2,-,-,-⟩:=cells3 b7;have hb57:=hb6.trans (hb7.mono hb6.size);replace x0:=cbl x0 hb57;replace x1:=cbl x1 hb57;replace x2:=cbl x2 hb57;replace x3:=cbl x3 hb57;replace x4:=cbl x4 hb57;replace x5:=cbl x5 hb57;have HX7:=hdd (show DyP (· <w7.heap.size) w7 (.agg #[.bool e3,.slice A3 n3 k3,.int .i64 (mkDy (N:Int) 0).exp]) (mkDy N 0) from(hz6.below hb7).weak fun _ _ h=>h);have HB57:=hdd hb57;have HT7:=hdd (HT5.out.below hb57);have HO1:=hdd (ahU (w:=w7) (n:=1) (by decide));have hwb:wrap64 (-bits)=-bits:=alU HBT.out;have hwb':IntKind.i64.wrap (-bits)=-bits:=wrap_i64 (by have:=HBT.out;omega);clear hb6 hb7 hs7 b7 hb57 hz6 HOF;go_wp2_with fail
 refine HO1.out.mono ?_;rintro e w8⟨hb8,v8,rfl,hz8⟩;replace x0:=cbl x0 hb8;replace x1:=cbl x1 hb8;replace x2:=cbl x2 hb8;replace x3:=cbl x3 hb8;replace x4:=cbl x4 hb8;replace x5:=cbl x5 hb8;replace y0:=cbl y0 hb8;replace y1:=cbl y1 hb8;replace y2:=cbl y2 hb8;have HMK:=hdd (bW (e:=-bits) hz8 (HT7.out.below hb8) (by decide) (by have:=HBT.out;omega));have HB8:=hdd hb8;clear hb8 hz8 HO1;go_wp2_with fail
 refine HMK.out.mono ?_;rintro e w9⟨hb9,v9,rfl,hz9⟩;obtain⟨e4,A4,n4,k4,rfl,-⟩:=id hz9;obtain⟨w10,hw10,hb10,hs10,b10⟩:=pro1 w9 (.cells #[.bool e4,.slice A4 n4 k4,.int .i64 (mkDy 1 (-bits)).exp] 55);obtain⟨z0,z1,z2,-,-,-⟩:=cells3 b10;have hb8A:=hb9.trans (hb10.mono hb9.size);replace x0:=cbl x0 hb8A;replace x1:=cbl x1 hb8A;replace x2:=cbl x2 hb8A;replace x3:=cbl x3 hb8A;replace x4:=cbl x4 hb8A;replace x5:=cbl x5 hb8A;replace y0:=cbl y0 hb8A;replace y1:=cbl y1 hb8A;replace y2:=cbl y2 hb8A;have h7A:=HB8.out.trans (hb8A.mono HB8.out.size);have h5A:=HB57.out.trans (h7A.mono HB57.out.size);have HY:=hdd (show DyP (· <w10.heap.size) w10 (.agg #[.bool e4,.slice A4 n4 k4,.int .i64 (mkDy 1 (-bits)).exp]) (mkDy 1 (-bits)) from(hz9.below hb10).weak fun _ _ h=>h);have HX:=hdd ((HX7.out.below h7A).weak (q:=(· <w10.heap.size)) fun _ _ h=>h);have HL:=hdd ((HLO.out.below h5A).weak (q:=(· <w10.heap.size)) fun _ _ h=>h);have HH:=hdd ((HHI.out.below h5A).weak (q:=(· <w10.heap.size)) fun _ _ h=>h);have HT10:=hdd (HT5.out.below h5A);have HB10:=hdd (HB5.out.trans (h5A.mono HB5.out.size))
 have hbd:Below w10.heap.size w10 w10.drew:=(Below.refl _ _).drew;have HBD:=hdd hbd;have HSU:=hdd (ac9 (HH.out.below hbd) (HL.out.below hbd) (HT10.out.below hbd) HGG.out.1.1.2 HGG.out.1.1.1 HGG.out.1.2.1);have HQ1:=hdd HGG.out.2.1;have HQ2:=hdd HGG.out.2.2.1;have HQ3:=hdd HGG.out.2.2.2.1;have HQ4:=hdd (alK HGG.out.2.2.2.2);have HX1:Hid (∀w',Below w10.heap.size w10 w'->∀v,DyP (· <w'.heap.size) w' v (u6 bb.hi bb.lo)->Calls Tryz.prog 26 #[v,.agg #[.bool e4,.slice A4 n4 k4,.int .i64 (mkDy 1 (-bits)).exp]] w' (RetK w' (cmpD (u6 bb.hi bb.lo) (mkDy 1 (-bits))))):=hdd fun w' h v hv=>sJ hv ((HY.out.below h).weak (q:=(· <w'.heap.size)) fun _ _ h=>h) (fun _ h=>h) (fun _ h=>h) (oC HGG.out.1.1.2 (kP HGG.out.1.2.1 HGG.out.1.1.1)) (ajQ (by have:=HBT.out;omega));have HX2:Hid (∀w',Below w10.heap.size w10 w'->∀v,DyP (· <w'.heap.size) w' v (mulD bb.lo bb.lo)->Calls Tryz.prog 26 #[v,.agg #[.bool e3,.slice A3 n3 k3,.int .i64 (mkDy (N:Int) 0).exp]] w' (RetK w' (cmpD (mulD bb.lo bb.lo) (mkDy N 0)))):=hdd fun w' h v hv=>sJ hv ((HX.out.below h).weak (q:=(· <w'.heap.size)) fun _ _ h=>h) (fun _ h=>h) (fun _ h=>h) (qV HGG.out.1.1.1 HGG.out.1.1.1) (ajV (akQ (by have:=HN0.out.1;omega)))
 have HX3:Hid (∀w',Below w10.heap.size w10 w'->∀v,DyP (· <w'.heap.size) w' v (mulD bb.hi bb.hi)->Calls Tryz.prog 26 #[v,.agg #[.bool e3,.slice A3 n3 k3,.int .i64 (mkDy (N:Int) 0).exp]] w' (RetK w' (cmpD (mulD bb.hi bb.hi) (mkDy N 0)))):=hdd fun w' h v hv=>sJ hv ((HX.out.below h).weak (q:=(· <w'.heap.size)) fun _ _ h=>h) (fun _ h=>h) (fun _ h=>h) (qV HGG.out.1.1.2 HGG.out.1.1.2) (ajV (akQ (by have:=HN0.out.1;omega)));have HM2:Hid (∀w',Below w10.heap.size w10 w'->Calls Tryz.prog 27 #[.agg #[.bool e1,.slice A1 n1 k1,.int .i64 bb.lo.exp],.agg #[.bool e1,.slice A1 n1 k1,.int .i64 bb.lo.exp]] w' (RetD w'.heap.size w' (mulD bb.lo bb.lo))):=hdd fun w' h=>aeV (HL.out.below h) (HL.out.below h) (HT10.out.below h) (by have:=HGG.out.1.1.1.1;omega) (by have:=HGG.out.1.1.1.2;omega) (by have:=HGG.out.1.1.1.2;omega);have HM3:Hid (∀w',Below w10.heap.size w10 w'->Calls Tryz.prog 27 #[.agg #[.bool e2,.slice A2 n2 k2,.int .i64 bb.hi.exp],.agg #[.bool e2,.slice A2 n2 k2,.int .i64 bb.hi.exp]] w' (RetD w'.heap.size w' (mulD bb.hi bb.hi))):=hdd fun w' h=>aeV (HH.out.below h) (HH.out.below h) (HT10.out.below h) (by have:=HGG.out.1.1.2.1;omega) (by have:=HGG.out.1.1.2.2;omega) (by have:=HGG.out.1.1.2.2;omega)
 have HSG:Hid (∀w',Below w10.heap.size w10 w'->Calls Tryz.prog 28 #[.agg #[.bool e1,.slice A1 n1 k1,.int .i64 bb.lo.exp]] w' (RetK w' bb.lo.man.sign)):=hdd fun w' h=>bX (HL.out.below h);clear hb9 hb10 hs10 b10 hb8A hz9 h7A h5A HMK hbd HB57 HB8 HX7 HLO HHI HT5 HT7 HT10 HB5 HN0 HBT HGG
 go_upto_region 11 with fail
 clear hw5 hw7 hw10;replace x0:=cbl x0 HBD.out;replace x1:=cbl x1 HBD.out;replace x2:=cbl x2 HBD.out;replace x3:=cbl x3 HBD.out;replace x4:=cbl x4 HBD.out;replace x5:=cbl x5 HBD.out;replace y0:=cbl y0 HBD.out;replace y1:=cbl y1 HBD.out;replace y2:=cbl y2 HBD.out;replace z0:=cbl z0 HBD.out;replace z1:=cbl z1 HBD.out;replace z2:=cbl z2 HBD.out;have q1:=HQ1.out;have q2:=HQ2.out;have q3:=HQ3.out;have q4:=HQ4.out;obtain⟨c1,hc1⟩:∃c,cmpD (u6 bb.hi bb.lo) (mkDy 1 (-bits))=c:=⟨_,rfl⟩;obtain⟨c2,hc2⟩:∃c,cmpD (mulD bb.lo bb.lo) (mkDy N 0)=c:=⟨_,rfl⟩;obtain⟨c3,hc3⟩:∃c,cmpD (mulD bb.hi bb.hi) (mkDy N 0)=c:=⟨_,rfl⟩;obtain⟨c4,hc4⟩:∃c,bb.lo.man.sign=c:=⟨_,rfl⟩;rw[hc1]at HX1 q1;rw[hc2]at HX2 q2;rw[hc3]at HX3 q3;rw[hc4]at HSG q4;clear hc1 hc2 hc3 hc4 HQ1 HQ2 HQ3 HQ4;generalize w4.heap.size=p at*;generalize w6.heap.size=q at*;generalize w9.heap.size=r at*;have L2:True:=trivial;have L3:True:=trivial;have K1:True:=trivial;have K2:True:=trivial;have K3:True:=trivial
 go_region_held3 (fun w'=>w'.cell? ⟨p,0,none⟩=some (.bool e1)/\w'.cell? ⟨p,1,none⟩=some (.slice A1 n1 k1)/\w'.cell? ⟨p,2,none⟩=some (.int .i64 bb.lo.exp)/\w'.cell? ⟨p,3,none⟩=some (.bool e2)/\w'.cell? ⟨p,4,none⟩=some (.slice A2 n2 k2)/\w'.cell? ⟨p,5,none⟩=some (.int .i64 bb.hi.exp)/\w'.cell? ⟨q,0,none⟩=some (.bool e3)/\w'.cell? ⟨q,1,none⟩=some (.slice A3 n3 k3)/\w'.cell? ⟨q,2,none⟩=some (.int .i64 (mkDy (N:Int) 0).exp)/\w'.cell? ⟨r,0,none⟩=some (.bool e4)/\w'.cell? ⟨r,1,none⟩=some (.slice A4 n4 k4)/\w'.cell? ⟨r,2,none⟩=some (.int .i64 (mkDy 1 (-bits)).exp)) (go_keep)
  (first
  |(go_at_call 25
    refine HSU.out.mono ?_;rintro r' wm1⟨hb,v,hz⟩;obtain⟨rfl,hz⟩:=hz;have HBm1:=hdd (HBD.out.trans hb);have x0:=cbl x0 hb;have x1:=cbl x1 hb;have x2:=cbl x2 hb;have x3:=cbl x3 hb;have x4:=cbl x4 hb;have x5:=cbl x5 hb;have y0:=cbl y0 hb;have y1:=cbl y1 hb;have y2:=cbl y2 hb;have z0:=cbl z0 hb;have z1:=cbl z1 hb;have z2:=cbl z2 hb;have HCm1:=hdd (HX1.out _ HBm1.out _ (hz.weak (q:=(· <wm1.heap.size)) fun _ _ h=>h));obtain⟨bm1,Am1,nm1,km1,rfl,-⟩:=id hz;clear hb hz)
  |(go_at_call 26
    clear K1;refine HCm1.out.mono ?_;rintro r' wc1⟨rfl,hb⟩;have HBc1:=hdd (HBm1.out.trans (hb.mono HBm1.out.size));have x0:=cbl x0 hb;have x1:=cbl x1 hb;have x2:=cbl x2 hb;have x3:=cbl x3 hb;have x4:=cbl x4 hb;have x5:=cbl x5 hb;have y0:=cbl y0 hb;have y1:=cbl y1 hb;have y2:=cbl y2 hb;have z0:=cbl z0 hb;have z1:=cbl z1 hb;have z2:=cbl z2 hb;clear hb)
  |(go_at_call 27
    clear L2;refine(HM2.out _ HBc1.out).mono ?_;rintro r' wm2⟨hb,v,hz⟩;obtain⟨rfl,hz⟩:=hz;have HBm2:=hdd (HBc1.out.trans (hb.mono HBc1.out.size));have x0:=cbl x0 hb;have x1:=cbl x1 hb;have x2:=cbl x2 hb;have x3:=cbl x3 hb;have x4:=cbl x4 hb;have x5:=cbl x5 hb;have y0:=cbl y0 hb;have y1:=cbl y1 hb;have y2:=cbl y2 hb;have z0:=cbl z0 hb;have z1:=cbl z1 hb;have z2:=cbl z2 hb;have HCm2:=hdd (HX2.out _ HBm2.out _ (hz.weak (q:=(· <wm2.heap.size)) fun _ _ h=>h));obtain⟨bm2,Am2,nm2,km2,rfl,-⟩:=id hz;clear hb hz)
  |(go_at_call 26
    clear K2;refine HCm2.out.mono ?_;rintro r' wc2⟨rfl,hb⟩;have HBc2:=hdd (HBm2.out.trans (hb.mono HBm2.out.size));have x0:=cbl x0 hb;have x1:=cbl x1 hb;have x2:=cbl x2 hb;have x3:=cbl x3 hb;have x4:=cbl x4 hb;have x5:=cbl x5 hb;have y0:=cbl y0 hb;have y1:=cbl y1 hb;have y2:=cbl y2 hb;have z0:=cbl z0 hb;have z1:=cbl z1 hb;have z2:=cbl z2 hb;clear hb)
  |(go_at_call 27
    clear L3;refine(HM3.out _ HBc2.out).mono ?_;rintro r' wm3⟨hb,v,hz⟩;obtain⟨rfl,hz⟩:=hz;have HBm3:=hdd (HBc2.out.trans (hb.mono HBc2.out.size));have x0:=cbl x0 hb;have x1:=cbl x1 hb;have x2:=cbl x2 hb;have x3:=cbl x3 hb;have x4:=cbl x4 hb;have x5:=cbl x5 hb;have y0:=cbl y0 hb;have y1:=cbl y1 hb;have y2:=cbl y2 hb;have z0:=cbl z0 hb;have z1:=cbl z1 hb;have z2:=cbl z2 hb;have HCm3:=hdd (HX3.out _ HBm3.out _ (hz.weak (q:=(· <wm3.heap.size)) fun _ _ h=>h));obtain⟨bm3,Am3,nm3,km3,rfl,-⟩:=id hz;clear hb hz)
  |(go_at_call 26
    clear K3;refine HCm3.out.mono ?_;rintro r' wc3⟨rfl,hb⟩;have HBc3:=hdd (HBm3.out.trans (hb.mono HBm3.out.size));have x0:=cbl x0 hb;have x1:=cbl x1 hb;have x2:=cbl x2 hb;have x3:=cbl x3 hb;have x4:=cbl x4 hb;have x5:=cbl x5 hb;have y0:=cbl y0 hb;have y1:=cbl y1 hb;have y2:=cbl y2 hb;have z0:=cbl z0 hb;have z1:=cbl z1 hb;have z2:=cbl z2 hb;clear hb)
  |(go_at_call 28
    refine(HSG.out _ HBc3.out).mono ?_;rintro r' ws⟨rfl,hb⟩;have HBs:=hdd (HBc3.out.trans (hb.mono HBc3.out.size));have x0:=cbl x0 hb;have x1:=cbl x1 hb;have x2:=cbl x2 hb;have x3:=cbl x3 hb;have x4:=cbl x4 hb;have x5:=cbl x5 hb;have y0:=cbl y0 hb;have y1:=cbl y1 hb;have y2:=cbl y2 hb;have z0:=cbl z0 hb;have z1:=cbl z1 hb;have z2:=cbl z2 hb;clear hb))
 have HBF:=hdd (HB10.out.trans (HBs.out.mono HB10.out.size));go_wp2;go_ret;exact⟨rfl,HBF.out⟩
end Go.Proofs.YtjdgaogkioabeabGreatDoor
