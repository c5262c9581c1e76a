/- A part of the proof: contracts of functions and plain laws (FlrC, NrB, Map, DagA, WalkA). -/
import Derived.Test.YtkadpnljocflaaaGreatDoorK20
import Derived.Test.YtkadpnljocflaaaGreatDoorK01
import Derived.Maps.OwnSet
import Derived.Test.YtkadpnljocflaaaGreatDoorK12
set_option linter.unusedVariables false
set_option linter.unusedSimpArgs false
set_option linter.unnecessarySimpa false
set_option maxHeartbeats 25600000
set_option maxRecDepth 100000
namespace Go.Proofs.YtkadpnljocflaaaGreatDoor
section
open Go.RowKit
variable{x y:Bl}{P na nb:Int}{p q:Nat->Prop}{va vb:Value}{w:World}
theorem ajV{k:Int}(h:0<=k/\k<=1000000):SmD (mkDy 1 (-k)):=pJ (by decide) (by omega)
theorem aa0{v:Value}{b:Bl}{bits:Int}(hx:BlP p w v b)(hT:Tab w)(ok:Okb b)(hb:0<=bits/\bits<=1000000):
 Calls Tryz.prog 119 #[v,.int .i64 bits] w (RetW w (fK b.lo b.hi bits)):=by
 obtain⟨ba,A,n,c,bb,A',n',c',rfl,h,h'⟩:=hx;obtain⟨w1,hw1,hb1,hs1,b1⟩:=pro1 w (.cells #[.bool ba,.slice A n c,.int .i64 b.lo.exp,.bool bb,.slice A' n' c',.int .i64 b.hi.exp] 92);have HB:=hdd hb1;obtain⟨c0,c1,c2,c3,c4,c5⟩:=aG b1;have hmin:min bits 1099511627776=bits:=by omega
 have hmax:max (-1099511627776) bits=bits:=by omega
 have hwr:IntKind.i64.wrap (-bits)=-bits:=wrap_i64 (by omega);have HSU:=hdd (adH (show DyP p w1 (.agg #[.bool bb,.slice A' n' c',.int .i64 b.hi.exp]) b.hi from⟨_,_,_,_,rfl,h'.below hb1⟩) (show DyP p w1 (.agg #[.bool ba,.slice A n c,.int .i64 b.lo.exp]) b.lo from⟨_,_,_,_,rfl,h.below hb1⟩) (hT.below hb1) ok.1.2 ok.1.1 ok.2.1);have HSM:Hid (SmD (vD b.hi b.lo)):=hdd (oI ok.1.2 (kP ok.2.1 ok.1.1));have HT:=hdd (hT.below hb1);have HBT:=hdd hb;obtain⟨W,hW⟩:∃W,vD b.hi b.lo=W:=⟨_,rfl⟩;obtain⟨R,hR⟩:∃R,fK b.lo b.hi bits=R:=⟨_,rfl⟩;have HR:Hid ((W.man.sign==0||decide (cmpD W (mkDy 1 (-bits))<=0))=R):=hdd (by rw[<-hR,<-hW];rfl);rw[hW]at HSU HSM;rw[hR];clear h h' hb1 b1 hs1 hT ok hb hR hW;go_enter Tryz.func119,Tryz.ntmps119
 go_wp2_with fail
 refine HSU.out.mono ?_;rintro e w2⟨hb2,v2,rfl,hz⟩;obtain⟨b2,A2,n2,k2,rfl,hz⟩:=hz;obtain⟨w3,hw3,hb3,hs3,b3⟩:=pro1 w2 (.cells #[.bool b2,.slice A2 n2 k2,.int .i64 W.exp] 90);obtain⟨k0,k1,k2',-,-,-⟩:=cells3 b3;have HW:=hdd (show DyP (· <w3.heap.size) w3 (.agg #[.bool b2,.slice A2 n2 k2,.int .i64 W.exp]) W from⟨_,_,_,_,rfl,(hz.below hb3).weak fun _ _ h=>h⟩);have HB3:=hdd (HB.out.trans ((hb2.trans (hb3.mono hb2.size)).mono HB.out.size));have HT3:=hdd ((HT.out.below hb2).below hb3);have HSG:=hdd (bY HW.out);clear hb2 hb3 hs3 b3 hz HSU HB HT c0 c1 c2 c3 c4 c5 hw1;go_wp2_with fail
 refine HSG.out.mono ?_;rintro e w4⟨rfl,hb4⟩;have HB4:=hdd (HB3.out.trans (hb4.mono HB3.out.size));replace k0:=cbl k0 hb4;replace k1:=cbl k1 hb4;replace k2':=cell_below k2' hb4 nlr;have HW4:=hdd ((HW.out.below hb4).weak (q:=(· <w4.heap.size)) fun _ _ h=>h);have HT4:=hdd (HT3.out.below hb4);clear hb4 HSG HB3 HW HT3 hw3
 cases hq:(W.man.sign==0)
 case' true=>
  have HF:Hid (RetW w R (.returned (.bool true)) w4):=hdd ⟨by have h:=HR.out;rw[hq,Bool.true_or]at h;rw[h],HB4.out⟩;clear HR;go_wp2;go_ret;exact HF.out
 have HRR:Hid (decide (cmpD W (mkDy 1 (-bits))<=0)=R):=hdd (by have:=HR.out;rwa[hq,Bool.false_or]at this);have HO:=hdd (ahY (w:=w4.drew) (n:=1) (by decide));have hbd:Below w4.heap.size w4 w4.drew:=(Below.refl _ _).drew;have HBD:=hdd hbd;clear HR hbd
 go_upto_region 5 with fail
 replace k0:=cbl k0 HBD.out;replace k1:=cbl k1 HBD.out;replace k2':=cell_below k2' HBD.out nlr;generalize w2.heap.size=g at*
 go_region_held3 (fun w'=>w'.cell? ⟨g,0,none⟩=some (.bool b2)/\w'.cell? ⟨g,1,none⟩=some (.slice A2 n2 k2)/\w'.cell? ⟨g,2,none⟩=some (.int .i64 W.exp)) (go_keep)
  (first
  |(go_at_call 58
    refine HO.out.mono ?_;rintro r w5⟨hb5,v5,rfl,hz5⟩;have HB5:=hdd (HBD.out.trans hb5);have k0:=cbl k0 hb5;have k1:=cbl k1 hb5;have k2':=cell_below k2' hb5 nlr;have HMK:=hdd (bX (e:=-bits) hz5 (HT4.out.below HB5.out) (by decide) (by have:=HBT.out;omega));clear hb5 hz5)
  |(go_at_call 53
    refine HMK.out.mono ?_;rintro r w6⟨hb6,v6,hz6⟩;obtain⟨rfl,hz6⟩:=hz6;have HB6:=hdd (HB5.out.trans (hb6.mono HB5.out.size));have k0:=cbl k0 hb6;have k1:=cbl k1 hb6;have k2':=cell_below k2' hb6 nlr;have HCM:=hdd (sM (w:=w6) ((HW4.out.below HB6.out).weak (q:=(· <w6.heap.size)) fun _ _ h=>h) (hz6.weak (q:=(· <w6.heap.size)) fun _ _ h=>h) (fun _ h=>h) (fun _ h=>h) HSM.out (ajV HBT.out));obtain⟨b6,A6,n6,c6,rfl,-⟩:=id hz6;clear hb6 hz6)
  |(go_at_call 54
    refine HCM.out.mono ?_;rintro r w7⟨rfl,hb7⟩;have HB7:=hdd (HB4.out.trans ((HB6.out.trans (hb7.mono HB6.out.size)).mono HB4.out.size));have k0:=cbl k0 hb7;have k1:=cbl k1 hb7;have k2':=cell_below k2' hb7 nlr;clear hb7))
 have HF:Hid (RetW w R (.returned (.bool (decide (cmpD W (mkDy 1 (-bits))<=0)))) _):=hdd ⟨by rw[HRR.out],HB7.out⟩;clear HRR;go_wp2;go_ret;exact HF.out
def ab0(w:World)(o:Option Bl)(e:Ending)(w':World):Prop:=match o with
 |some b=>fJ w.heap.size w b true e w'
 |none=>Below w.heap.size w w'/\∃(b1:Bool) (A1:Option Addr) (n1 c1:Nat) (e1:Int) (b2:Bool) (A2:Option Addr) (n2 c2:Nat) (e2:Int),e=.returned (.tuple #[.agg #[.bool b1,.slice A1 n1 c1,.int .i64 e1,.bool b2,.slice A2 n2 c2,.int .i64 e2],.bool false])
theorem adI{val:Nat}(s1:SixB va)(s2:SixB vb)(hx:BlP p w va x)(hy:BlP q w vb y)(ox:Okb x)(oy:Okb y)(hs:y.lo.man.sign=y.hi.man.sign/\y.lo.man.sign≠0)(hT:Tab w)(hP:1<=P/\P<=65536):
 Calls Tryz.prog 180 #[.agg #[.int .i64 4,.float .f64 val,.int .i64 na,.int .i64 nb],va,vb,.int .i64 P] w (fJ w.heap.size w ⟨jH x y P,jI x y P⟩ true):=by
 obtain⟨a0,a1,a2,a3,a4,a5,rfl⟩:=s1;obtain⟨z0,z1,z2,z3,z4,z5,rfl⟩:=s2;obtain⟨w4,hw4,hb4,hs4,b1,b2,b3,b4⟩:=pro4 w (.cells #[.int .i64 4,.float .f64 val,.int .i64 na,.int .i64 nb] 87) (.cells #[a0,a1,a2,a3,a4,a5] 92) (.cells #[z0,z1,z2,z3,z4,z5] 92) (.cells #[Value.bool false,Value.slice none 0 0,.int .i64 0,Value.bool false,Value.slice none 0 0,.int .i64 0] 92);have HB:=hdd hb4;have B2:=hdd b2;have B3:=hdd b3;have B4:=hdd b4;have HS:=hdd hs4;have HT:=hdd (hT.below hb4);have HTAB0:=hdd hT;obtain⟨k0,k1,k2,k3⟩:=bM b1;have FIN:Hid (∀(Z:Bl) (t:Bool) (w5:World),Below w4.heap.size w4 w5->∀(v:Value),BlP (fun b=>w4.heap.size<=b) w5 v Z->∃u0 u1 u2 u3 u4 u5,v=.agg #[u0,u1,u2,u3,u4,u5]/\(∃b1 A1 n1 c1 b2 A2 n2 c2,u0=.bool b1/\u1=.slice A1 n1 c1/\u2=.int .i64 Z.lo.exp/\u3=.bool b2/\u4=.slice A2 n2 c2/\u5=.int .i64 Z.hi.exp)/\
  fJ w.heap.size w Z t (.returned (.tuple #[.agg #[u0,u1,u2,u3,u4,u5],.bool t])) (put6 w5 (w.heap.size+3) u0 u1 u2 u3 u4 u5)/\(put6 w5 (w.heap.size+3) u0 u1 u2 u3 u4 u5).heap[w.heap.size+3]? =some (.cells #[u0,u1,u2,u3,u4,u5] 92 (0,0))):=hdd (by
  intro Z t w5 h5 v hv;obtain⟨b,A,n,c,b',A',n',c',rfl,g1,g2⟩:=hv;obtain⟨r1,r2⟩:=aV (x:=Z) (HB.out.trans (h5.mono HB.out.size)) (g:=w.heap.size+3) (by omega) (hbl B4.out h5) g1 g2 (fun b hb=>by have:=HS.out;omega);exact⟨_,_,_,_,_,_,rfl,⟨_,_,_,_,_,_,_,_,rfl,rfl,rfl,rfl,rfl,rfl⟩,dZ r1.out,r2⟩)
 have n1:y.lo.man≠0:=fun h=>hs.2 (by rw[h];rfl);have n2:y.hi.man≠0:=fun h=>hs.2 (by rw[hs.1,h];rfl);have HA:Hid (Calls Tryz.prog 219 #[.agg #[a0,a1,a2,a3,a4,a5],.agg #[z0,z1,z2,z3,z4,z5],.int .i64 P] w4 (fJ w4.heap.size w4 ⟨jH x y P,jI x y P⟩ true)):=hdd (adB (w:=w4) (hx.below hb4) (hy.below hb4) HT.out ox.1 oy.1 hP hs (fun dir=>⟨qZ ox.1.1 oy.1.1 hP n1 dir,qZ ox.1.1 oy.1.2 hP n2 dir,qZ ox.1.2 oy.1.1 hP n1 dir,qZ ox.1.2 oy.1.2 hP n2 dir⟩));obtain⟨c0,c1,c2,c3,c4,c5⟩:=aG b2;obtain⟨d0,d1,d2,d3,d4,d5⟩:=aG b3;clear hx hy hP hb4 b1 b2 b3 b4 hs4 hT ox oy hs n1 n2;go_enter Tryz.func180,Tryz.ntmps180
 go_wp2_with fail
 refine HA.out.mono ?_;rintro e w8⟨hb8,v8,rfl,hz⟩;have hb48:=hb8;have B48:=hbl B4.out hb48;clear c0 c1 c2 c3 c4 c5 d0 d1 d2 d3 d4 d5 k0 k1 k2 k3 hw4;obtain⟨r0,r1,r2,r3,r4,r5⟩:=aG B48;obtain⟨t0,t1,t2,t3,t4,t5⟩:=fC B48;obtain⟨u0,u1,u2,u3,u4,u5,rfl,⟨_,_,_,_,_,_,_,_,rfl,rfl,rfl,rfl,rfl,rfl⟩,hR,hF⟩:=FIN.out ⟨jH x y P,jI x y P⟩ true w8 hb48 _ hz;have HR:=hdd hR;have hFF:=hdd hF;clear hb8 hz hb48 B48 hR hF;go_wp2;obtain⟨f0,f1,f2,f3,f4,f5⟩:=aG hFF.out;unfold put6 at f0 f1 f2 f3 f4 f5;refine bodyPost_ret (v:=.tuple #[.agg #[_,_,_,_,_,_],_]) (by simp[results,Tryz.results180,go_sem,f0,f1,f2,f3,f4,f5];first|exact⟨⟨rfl,rfl,rfl,rfl,rfl,rfl⟩,rfl⟩|rfl) rfl ?_;exact HR.out
theorem yX{val:Nat}(s1:SixB va)(s2:SixB vb)(hx:BlP p w va x)(hy:BlP q w vb y)(hs:¬(y.lo.man.sign=y.hi.man.sign/\y.lo.man.sign≠0))(hT:Tab w)(hP:1<=P/\P<=65536):
 Calls Tryz.prog 180 #[.agg #[.int .i64 4,.float .f64 val,.int .i64 na,.int .i64 nb],va,vb,.int .i64 P] w (ab0 w none):=by
 obtain⟨a0,a1,a2,a3,a4,a5,rfl⟩:=s1;obtain⟨z0,z1,z2,z3,z4,z5,rfl⟩:=s2;obtain⟨w4,hw4,hb4,hs4,b1,b2,b3,b4⟩:=pro4 w (.cells #[.int .i64 4,.float .f64 val,.int .i64 na,.int .i64 nb] 87) (.cells #[a0,a1,a2,a3,a4,a5] 92) (.cells #[z0,z1,z2,z3,z4,z5] 92) (.cells #[Value.bool false,Value.slice none 0 0,.int .i64 0,Value.bool false,Value.slice none 0 0,.int .i64 0] 92);have HB:=hdd hb4;have B2:=hdd b2;have B3:=hdd b3;have B4:=hdd b4;have HS:=hdd hs4;have HT:=hdd (hT.below hb4);have HTAB0:=hdd hT;obtain⟨k0,k1,k2,k3⟩:=bM b1;have FIN:Hid (∀(Z:Bl) (t:Bool) (w5:World),Below w4.heap.size w4 w5->∀(v:Value),BlP (fun b=>w4.heap.size<=b) w5 v Z->∃u0 u1 u2 u3 u4 u5,v=.agg #[u0,u1,u2,u3,u4,u5]/\(∃b1 A1 n1 c1 b2 A2 n2 c2,u0=.bool b1/\u1=.slice A1 n1 c1/\u2=.int .i64 Z.lo.exp/\u3=.bool b2/\u4=.slice A2 n2 c2/\u5=.int .i64 Z.hi.exp)/\
  fJ w.heap.size w Z t (.returned (.tuple #[.agg #[u0,u1,u2,u3,u4,u5],.bool t])) (put6 w5 (w.heap.size+3) u0 u1 u2 u3 u4 u5)/\(put6 w5 (w.heap.size+3) u0 u1 u2 u3 u4 u5).heap[w.heap.size+3]? =some (.cells #[u0,u1,u2,u3,u4,u5] 92 (0,0))):=hdd (by
  intro Z t w5 h5 v hv;obtain⟨b,A,n,c,b',A',n',c',rfl,g1,g2⟩:=hv;obtain⟨r1,r2⟩:=aV (x:=Z) (HB.out.trans (h5.mono HB.out.size)) (g:=w.heap.size+3) (by omega) (hbl B4.out h5) g1 g2 (fun b hb=>by have:=HS.out;omega);exact⟨_,_,_,_,_,_,rfl,⟨_,_,_,_,_,_,_,_,rfl,rfl,rfl,rfl,rfl,rfl⟩,dZ r1.out,r2⟩)
 have HA:Hid (Calls Tryz.prog 219 #[.agg #[a0,a1,a2,a3,a4,a5],.agg #[z0,z1,z2,z3,z4,z5],.int .i64 P] w4 (ai1 w4.heap.size w4)):=hdd (af2 (w:=w4) (hx.below hb4) (hy.below hb4) hs);obtain⟨c0,c1,c2,c3,c4,c5⟩:=aG b2;obtain⟨d0,d1,d2,d3,d4,d5⟩:=aG b3;clear hx hy hP hb4 b1 b2 b3 b4 hs4 hT hs;go_enter Tryz.func180,Tryz.ntmps180
 go_wp2_with fail
 refine HA.out.mono ?_;rintro e w8⟨hb8,b5,A5,n5,c5',e5,b6,A6,n6,c6',e6,rfl⟩;have B48:=hbl B4.out hb8;clear c0 c1 c2 c3 c4 c5 d0 d1 d2 d3 d4 d5 k0 k1 k2 k3 hw4;obtain⟨r0,r1,r2,r3,r4,r5⟩:=aG B48;obtain⟨t0,t1,t2,t3,t4,t5⟩:=fC B48;have HR:Hid (ab0 w none (.returned (.tuple #[.agg #[.bool b5,.slice A5 n5 c5',.int .i64 e5,.bool b6,.slice A6 n6 c6',.int .i64 e6],.bool false])) (put6 w8 (w.heap.size+3) (.bool b5) (.slice A5 n5 c5') (.int .i64 e5) (.bool b6) (.slice A6 n6 c6') (.int .i64 e6))):=hdd ⟨eZ (HB.out.trans (hb8.mono HB.out.size)) (by omega) _ _ _ _ _ _,_,_,_,_,_,_,_,_,_,_,rfl⟩;have hFF:=hdd (gP B48 (.bool b5) (.slice A5 n5 c5') (.int .i64 e5) (.bool b6) (.slice A6 n6 c6') (.int .i64 e6));clear hb8 B48;go_wp2;obtain⟨f0,f1,f2,f3,f4,f5⟩:=aG hFF.out;unfold put6 at f0 f1 f2 f3 f4 f5;refine bodyPost_ret (v:=.tuple #[.agg #[_,_,_,_,_,_],_]) (by simp[results,Tryz.results180,go_sem,f0,f1,f2,f3,f4,f5];first|exact⟨⟨rfl,rfl,rfl,rfl,rfl,rfl⟩,rfl⟩|rfl) rfl ?_;exact HR.out
theorem adJ{q:Nat->Prop}{val:Nat}{y:Bl}(s1:SixB va)(s2:SixB vb)(hx:BlP p w va x)(ox:Okb x)(h0:0<=x.hi.man)(hT:Tab w)(hP:1<=P/\P<=65536):
 Calls Tryz.prog 180 #[.agg #[.int .i64 5,.float .f64 val,.int .i64 na,.int .i64 nb],va,vb,.int .i64 P] w (fJ w.heap.size w ⟨aL (aR x) P (-1),aL x.hi P 1⟩ true):=by
 obtain⟨a0,a1,a2,a3,a4,a5,rfl⟩:=s1;obtain⟨z0,z1,z2,z3,z4,z5,rfl⟩:=s2;obtain⟨w4,hw4,hb4,hs4,b1,b2,b3,b4⟩:=pro4 w (.cells #[.int .i64 5,.float .f64 val,.int .i64 na,.int .i64 nb] 87) (.cells #[a0,a1,a2,a3,a4,a5] 92) (.cells #[z0,z1,z2,z3,z4,z5] 92) (.cells #[Value.bool false,Value.slice none 0 0,.int .i64 0,Value.bool false,Value.slice none 0 0,.int .i64 0] 92);have HB:=hdd hb4;have B2:=hdd b2;have B3:=hdd b3;have B4:=hdd b4;have HS:=hdd hs4;have HT:=hdd (hT.below hb4);have HTAB0:=hdd hT;obtain⟨k0,k1,k2,k3⟩:=bM b1;have FIN:Hid (∀(Z:Bl) (t:Bool) (w5:World),Below w4.heap.size w4 w5->∀(v:Value),BlP (fun b=>w4.heap.size<=b) w5 v Z->∃u0 u1 u2 u3 u4 u5,v=.agg #[u0,u1,u2,u3,u4,u5]/\(∃b1 A1 n1 c1 b2 A2 n2 c2,u0=.bool b1/\u1=.slice A1 n1 c1/\u2=.int .i64 Z.lo.exp/\u3=.bool b2/\u4=.slice A2 n2 c2/\u5=.int .i64 Z.hi.exp)/\
  fJ w.heap.size w Z t (.returned (.tuple #[.agg #[u0,u1,u2,u3,u4,u5],.bool t])) (put6 w5 (w.heap.size+3) u0 u1 u2 u3 u4 u5)/\(put6 w5 (w.heap.size+3) u0 u1 u2 u3 u4 u5).heap[w.heap.size+3]? =some (.cells #[u0,u1,u2,u3,u4,u5] 92 (0,0))):=hdd (by
  intro Z t w5 h5 v hv;obtain⟨b,A,n,c,b',A',n',c',rfl,g1,g2⟩:=hv;obtain⟨r1,r2⟩:=aV (x:=Z) (HB.out.trans (h5.mono HB.out.size)) (g:=w.heap.size+3) (by omega) (hbl B4.out h5) g1 g2 (fun b hb=>by have:=HS.out;omega);exact⟨_,_,_,_,_,_,rfl,⟨_,_,_,_,_,_,_,_,rfl,rfl,rfl,rfl,rfl,rfl⟩,dZ r1.out,r2⟩)
 have HA:Hid (Calls Tryz.prog 220 #[.agg #[a0,a1,a2,a3,a4,a5],.int .i64 P] w4 (fJ w4.heap.size w4 ⟨aL (aR x) P (-1),aL x.hi P 1⟩ true)):=hdd (aaY (w:=w4) (hx.below hb4) HT.out ox.1 hP h0);obtain⟨c0,c1,c2,c3,c4,c5⟩:=aG b2;clear hx hP hb4 b1 b2 b3 b4 hs4 hT ox h0;go_enter Tryz.func180,Tryz.ntmps180
 go_wp2_with fail
 refine HA.out.mono ?_;rintro e w8⟨hb8,v8,rfl,hz⟩;have hb48:=hb8;have B48:=hbl B4.out hb48;clear c0 c1 c2 c3 c4 c5 k0 k1 k2 k3 hw4;obtain⟨r0,r1,r2,r3,r4,r5⟩:=aG B48;obtain⟨t0,t1,t2,t3,t4,t5⟩:=fC B48;obtain⟨u0,u1,u2,u3,u4,u5,rfl,⟨_,_,_,_,_,_,_,_,rfl,rfl,rfl,rfl,rfl,rfl⟩,hR,hF⟩:=FIN.out ⟨aL (aR x) P (-1),aL x.hi P 1⟩ true w8 hb48 _ hz;have HR:=hdd hR;have hFF:=hdd hF;clear hb8 hz hb48 B48 hR hF;go_wp2;obtain⟨f0,f1,f2,f3,f4,f5⟩:=aG hFF.out;unfold put6 at f0 f1 f2 f3 f4 f5;refine bodyPost_ret (v:=.tuple #[.agg #[_,_,_,_,_,_],_]) (by simp[results,Tryz.results180,go_sem,f0,f1,f2,f3,f4,f5];first|exact⟨⟨rfl,rfl,rfl,rfl,rfl,rfl⟩,rfl⟩|rfl) rfl ?_;exact HR.out
theorem adK{n:Nd}(s1:SixB va)(s2:SixB vb)(hk:n.kind=0\/n.kind=1\/n.kind=2\/n.kind=3\/n.kind=4\/n.kind=5)
 (h0:n.kind=0->n.val<18446744073709551616/\fin n.val/\SmD (leafD n.val)) (hx:n.kind≠0->BlP p w va x/\Okb x) (hy:n.kind≠0->n.kind≠5->BlP q w vb y/\Okb y) (hp:∀b,p b->b<w.heap.size) (hq:∀b,q b->b<w.heap.size)
 (h5:n.kind=5->0<=x.hi.man) (hT:Tab w) (hP:1<=P/\P<=65536):
 Calls Tryz.prog 180 #[iA n,va,vb,.int .i64 P] w (ab0 w (mQ n x y P)):=by
 obtain⟨kind,val,na,nb⟩:=n;simp only at hk h0 hx hy h5;unfold iA mQ;rcases hk with rfl|rfl|rfl|rfl|rfl|rfl
 . obtain⟨g1,g2,g3⟩:=h0 rfl
   exact adD (p:=p) (q:=q) (x:=x) (y:=y) s1 s2 g1 g2 g3 hT hP
 . exact adE s1 s2 (hx (by decide)).1 (hy (by decide) (by decide)).1 (hx (by decide)).2 (hy (by decide) (by decide)).2 hp hq hT hP
 . exact adG s1 s2 (hx (by decide)).1 (hy (by decide) (by decide)).1 (hx (by decide)).2 (hy (by decide) (by decide)).2 hp hq hT hP
 . exact adF s1 s2 (hx (by decide)).1 (hy (by decide) (by decide)).1 (hx (by decide)).2 (hy (by decide) (by decide)).2 hp hq hT hP
 . have hX:=hx (by decide)
   have hY:=hy (by decide) (by decide);by_cases hs:y.lo.man.sign=y.hi.man.sign/\y.lo.man.sign≠0
   . have e:quoB x y P=some ⟨jH x y P,jI x y P⟩:=by unfold quoB;rw[if_pos hs]
     simp only[show¬((4:Int)=0) from by decide,show¬((4:Int)=1) from by decide,show¬((4:Int)=2) from by decide,show¬((4:Int)=3) from by decide,if_false,if_true,e];exact adI s1 s2 hX.1 hY.1 hX.2 hY.2 hs hT hP
   . have e:quoB x y P=none:=by unfold quoB;rw[if_neg hs]
     simp only[show¬((4:Int)=0) from by decide,show¬((4:Int)=1) from by decide,show¬((4:Int)=2) from by decide,show¬((4:Int)=3) from by decide,if_false,if_true,e];exact yX s1 s2 hX.1 hY.1 hs hT hP
 . have hX:=hx (by decide)
   have e:mP x P=some ⟨aL (aR x) P (-1),aL x.hi P 1⟩:=by unfold mP;rw[if_neg (by have:=h5 rfl;omega)]
   simp only[show¬((5:Int)=0) from by decide,show¬((5:Int)=1) from by decide,show¬((5:Int)=2) from by decide,show¬((5:Int)=3) from by decide,show¬((5:Int)=4) from by decide,if_false,e];exact adJ (q:=q) (y:=y) s1 s2 hX.1 hX.2 (h5 rfl) hT hP
end
section
open Go.RowKit Go.Maps Go.ChangeMaps
open _root_.Array renaming toList_push->awI
open Go.MapKept renaming run_getObj_map->awC,run_setObj_map->awG
open Go.Result renaming andThen->awD
open List renaming mem_iff_getElem?->awE,getElem?_eq_some_iff->awF,mem_singleton->awH,mem_eraseIdx_iff_getElem?->awJ,mem_of_getElem?->awK,getElem?_set->awL,mem_append->awM,eraseIdx_sublist->awN
variable{m':Value->Option Value}
def MapP(P:Program)(k:TypeId)(w:World)(b:Nat)(m:Value->Option Value):Prop:=
 ∃es clock,w.heap[b]? =some (.map es clock)/\(∀e∈es.toList,∃l,keyOf P k e.key=some l)/\(es.toList.map (·.key)).Nodup/\(∀e∈es.toList,m e.key=some e.val)/\∀key,(∀e∈es.toList,e.key≠key)->m key=none
def Upd(m:Value->Option Value)(key:Value)(o:Option Value)(m':Value->Option Value):Prop:=m' key=o/\∀x,x≠key->m' x=m x
theorem jQ(m:Value->Option Value)(key:Value)(o:Option Value):∃m',Upd m key o m':=by
 classical
 exact⟨fun x=>if x=key then o else m x,by simp,fun x hx=>by simp[hx]⟩
section
variable{P:Program}{k e t:TypeId}{w w':World}{b:Nat}{m:Value->Option Value}
theorem MapP.lt (h:MapP P k w b m):b<w.heap.size:=by obtain⟨es,clock,hb,-⟩:=h;exact(Array.getElem?_eq_some_iff.1 hb).1
theorem MapP.keep (h:MapP P k w b m)(hb:w'.heap[b]? =w.heap[b]?):MapP P k w' b m:=by
 obtain⟨es,clock,h1,h2⟩:=h;exact⟨es,clock,hb.trans h1,h2⟩
theorem MapP.below {B:Nat}(h:MapP P k w b m)(hb:Below B w w')(hB:b<B):MapP P k w' b m:=h.keep (hb.block b hB)
theorem MapP.made {es:Array MapEntry}(h:w.heap[b]? =some (.map #[] 0)):MapP P k w b (fun _=>none):=
 ⟨#[],0,h,by simp,by simp,by simp,by simp⟩
theorem MapP.look (h:MapP P k w b m)(K:Keyed P k)(ht:P.underlying t=some (.map k e)){z:Value}(hz:(zeroValue e).run P w=.ok z w){key:Value}{kl:Lit}(hkey:keyOf P k key=some kl)(c:Bool):
 (Instr.lookup t (.map (some b)) key c).run P w=.ok (if c then .tuple #[(m key).getD z,.bool (m key).isSome]else(m key).getD z) w:=by
 obtain⟨es,clock,hb,hk,hn,hm,h0⟩:=h;rcases K.find w hkey es.toList hk with ⟨h1,h2⟩|⟨j,e0,h1,h2,h3⟩
 . rw[h0 key h2]
   simp[Instr.lookup,run_underlying ht,awC hb,K.check w _ hkey,h1,hz,awD]
 . have:=hm e0 (awK h2)
   rw[h3]at this;rw[this];simp[Instr.lookup,run_underlying ht,awC hb,K.check w _ hkey,h1,awD]
theorem yY{es:List MapEntry}(hn:(es.map (·.key)).Nodup){j i:Nat}{a c:MapEntry}(hj:es[j]? =some a)(hi:es[i]? =some c)(h:a.key=c.key):j=i:=by
 obtain⟨j1,j2⟩:=awF.1 hj;obtain⟨i1,i2⟩:=awF.1 hi;have hp:=List.pairwise_iff_getElem.1 hn;rcases Nat.lt_trichotomy j i with hji|hji|hji
 . exact(hp j i (by simpa using j1) (by simpa using i1) hji (by simp[j2,i2,h])).elim
 . exact hji
 . exact(hp i j (by simpa using i1) (by simpa using j1) hji (by simp[j2,i2,h])).elim
theorem MapP.store (h:MapP P k w b m)(K:Keyed P k)(ht:P.underlying t=some (.map k e)){key val:Value}{kl:Lit}(hkey:keyOf P k key=some kl)(hu:Upd m key (some val) m'):
 ∃w',(Instr.mapUpdate t (.map (some b)) key val).run P w=.ok () w'/\MapP P k w' b m'/\w.grownBy w' (some b)/\w'.heap.size=w.heap.size:=by
 obtain⟨es,clock,hb,hk,hn,hm,h0⟩:=h;obtain⟨u1,u2⟩:=hu;have grown:∀o,w.grownBy (setBlock w b o) (some b):=fun o=>⟨rfl,rfl,rfl,by simp[setBlock],fun i _ hi=>heap_setBlock_other hb _ (fun e=>hi (by rw[e]))⟩;rcases K.find w hkey es.toList hk with ⟨h1,h2⟩|⟨j,e0,h1,h2,h3⟩
 . refine⟨setBlock w b (.map (es.push ⟨key,val,clock⟩) (clock+1)),?_,⟨_,_,heap_setBlock_same hb _,?_,?_,?_,?_⟩,grown _,by simp[setBlock]⟩
   . simp[Instr.mapUpdate,run_underlying ht,awC hb,K.check w false hkey,h1,awG _ hb,awD,setBlock]
   . intro x hx
     simp only[awI,awM,awH]at hx;rcases hx with hx|rfl
     . exact hk x hx
     . exact⟨kl,hkey⟩
   . simp only[awI,List.map_append,List.map_cons,List.map_nil]
     refine List.nodup_append.2 ⟨hn,by simp,?_⟩;intro a ha c hc;obtain⟨x,hx,rfl⟩:=List.mem_map.1 ha;simp only[awH]at hc;subst hc;exact h2 x hx
   . intro x hx
     simp only[awI,awM,awH]at hx;rcases hx with hx|rfl
     . rw[u2 _ (h2 x hx)];exact hm x hx
     . exact u1
   . intro x hx
     simp only[awI,awM,awH]at hx;have hxk:x≠key:=fun hh=>hx ⟨key,val,clock⟩ (Or.inr rfl) hh.symm;rw[u2 _ hxk];exact h0 x fun y hy=>hx y (Or.inl hy)
 . have hj:es[j]? =some e0:=by simpa using h2
   have hlist:(es.modify j (fun e'=>{e' with key:=key,val:=val})).toList=es.toList.set j {e0 with key:=key,val:=val}:=by rw[Array.toList_modify,modify_eq_set _ _ _ _ h2]
   refine⟨setBlock w b (.map (es.modify j (fun e'=>{e' with key:=key,val:=val})) clock),?_,⟨_,_,heap_setBlock_same hb _,?_,?_,?_,?_⟩,grown _,by simp[setBlock]⟩
   . simp[Instr.mapUpdate,run_underlying ht,awC hb,K.check w false hkey,h1,hj,h3,K.stays w hkey,awG _ hb,awD,setBlock]
   . intro x hx
     rw[hlist]at hx;rcases List.mem_or_eq_of_mem_set hx with hx|rfl
     . exact hk x hx
     . exact⟨kl,hkey⟩
   . rw[hlist,List.map_set]
     have:(es.toList.map (·.key)).set j key=es.toList.map (·.key):=by
      apply List.ext_getElem?;intro i;rw[awL]
      split
      . rename_i hij
        subst hij
        split
        . rw[List.getElem?_map,h2,<-h3];rfl
        . rename_i hlt;rw[List.getElem?_eq_none (by omega)]
      . rfl
     rw[this];exact hn
   . intro x hx
     rw[hlist]at hx;obtain⟨i,hi⟩:=awE.1 hx;rw[awL]at hi
     split at hi
     . split at hi
       . cases hi;exact u1
       . cases hi
     . rename_i hij
       rw[u2]
       . exact hm x (awK hi)
       . intro hh
         exact hij (yY hn h2 hi (by rw[h3,hh]))
   . intro x hx
     rw[hlist]at hx;have hxk:x≠key:=fun hh=>hx {e0 with key:=key,val:=val} (awE.2 ⟨j,List.getElem?_set_self (awF.1 h2).1⟩) hh.symm;rw[u2 _ hxk];refine h0 x fun y hy=> ?_;obtain⟨i,hi⟩:=awE.1 hy;by_cases hij:j=i
     . subst hij;rw[h2]at hi;cases hi;rw[h3];exact fun hh=>hxk hh.symm
     . exact hx y (awE.2 ⟨i,by rw[awL,if_neg hij];exact hi⟩)
theorem MapP.drop (h:MapP P k w b m)(K:Keyed P k)(ht:P.underlying t=some (.map k e)){key:Value}{kl:Lit}(hkey:keyOf P k key=some kl)(ty:TypeId)(hu:Upd m key none m'):
 ∃w',(Builtin.delete_ #[t,k] ty #[.map (some b),key]).run P w=.ok (.tuple #[]) w'/\MapP P k w' b m'/\w.grownBy w' (some b)/\w'.heap.size=w.heap.size:=by
 obtain⟨es,clock,hb,hk,hn,hm,h0⟩:=h;obtain⟨u1,u2⟩:=hu;have grown:∀o,w.grownBy (setBlock w b o) (some b):=fun o=>⟨rfl,rfl,rfl,by simp[setBlock],fun i _ hi=>heap_setBlock_other hb _ (fun e=>hi (by rw[e]))⟩;rcases K.find w hkey es.toList hk with ⟨h1,h2⟩|⟨j,e0,h1,h2,h3⟩
 . refine⟨setBlock w b (.map es clock),?_,⟨_,_,heap_setBlock_same hb _,hk,hn,?_,?_⟩,grown _,by simp[setBlock]⟩
   . simp[Builtin.delete_,run_underlying ht,awC hb,K.check w _ hkey,h1,awG _ hb,awD,setBlock]
   . intro x hx;rw[u2 _ (h2 x hx)];exact hm x hx
   . intro x hx
     by_cases hxk:x=key
     . rw[hxk];exact u1
     . rw[u2 _ hxk];exact h0 x hx
 . have hjl:j<es.toList.length:=(awF.1 h2).1
   have hjs:j<es.size:=by simpa using hjl
   have hsub:(es.eraseIdxIfInBounds j).toList=es.toList.eraseIdx j:=by
    unfold Array.eraseIdxIfInBounds;rw[dif_pos hjs];simp
   refine⟨setBlock w b (.map (es.eraseIdxIfInBounds j) clock),?_,⟨_,_,heap_setBlock_same hb _,?_,?_,?_,?_⟩,grown _,by simp[setBlock]⟩
   . simp[Builtin.delete_,run_underlying ht,awC hb,K.check w _ hkey,h1,awG _ hb,awD,setBlock]
   . intro x hx
     rw[hsub]at hx;exact hk x ((awN _ _).subset hx)
   . rw[hsub]
     exact hn.sublist ((awN _ _).map _)
   . intro x hx
     rw[hsub]at hx;obtain⟨i,hne,hi⟩:=awJ.1 hx;rw[u2]
     . exact hm x (awK hi)
     . intro hh
       exact hne (yY hn hi h2 (by rw[h3,hh]))
   . intro x hx
     rw[hsub]at hx;by_cases hxk:x=key
     . rw[hxk];exact u1
     . rw[u2 _ hxk]
       refine h0 x fun y hy=> ?_;obtain⟨i,hi⟩:=awE.1 hy;by_cases hij:i=j
       . subst hij;rw[h2]at hi;cases hi;rw[h3];exact fun hh=>hxk hh.symm
       . exact hx y (awJ.2 ⟨i,hij,hi⟩)
end
section
variable{P:Program}(w:World){ops:Array Oper}{rest:List Oper}{o:Oper}{a:Act}{Q:Exit->Act->World->Prop}
theorem qF(hg:o.guard=none)(mo x:Operand)(t:TypeId)(c:Bool)(hop:o.op=Op.lookup t mo x c)
 (k e:TypeId) (K:Keyed P k) (ht:P.underlying t=some (.map k e)) {z:Value} (hz:(zeroValue e).run P w=.ok z w) (b:Nat) (m:Value->Option Value)
 (hm:a.eval mo=.map (some b)) (hown:MapP P k w b m) (key:Value) (kl:Lit) (hx:a.eval x=key) (hkey:keyOf P k key=some kl)
 (hK:wpList P ops Q rest (a.put o.dst (if c then .tuple #[(m key).getD z,.bool (m key).isSome]else(m key).getD z)) w):
 wpList P ops Q (o::rest) a w:=by
 refine wpList_plain hg fun K' hK'=> ?_;have hrun:=hown.look K ht hz hkey c;generalize (if c then Value.tuple #[(m key).getD z,.bool (m key).isSome]else(m key).getD z)=R at hrun hK;unfold Oper.wp;simp[execOp,hop,hm,hx,hrun,awD];exact hK' _ _ hK
theorem aU(hg:o.guard=none)(mo x:Operand)(t:TypeId)(hop:o.op=Op.lookup t mo x false)
 (k e:TypeId) (K:Keyed P k) (ht:P.underlying t=some (.map k e)) {z:Value} (hz:(zeroValue e).run P w=.ok z w) (b:Nat) (m:Value->Option Value)
 (hm:a.eval mo=.map (some b)) (hown:MapP P k w b m) (key:Value) (kl:Lit) (hx:a.eval x=key) (hkey:keyOf P k key=some kl) (v:Value) (hv:(m key).getD z=v)
 (hK:wpList P ops Q rest (a.put o.dst v) w):
 wpList P ops Q (o::rest) a w:=
 qF w hg mo x t false hop k e K ht hz b m hm hown key kl hx hkey (by rw[hv];exact hK)
theorem iM(hg:o.guard=none)(mo x:Operand)(t:TypeId)(hop:o.op=Op.lookup t mo x true)
 (k e:TypeId) (K:Keyed P k) (ht:P.underlying t=some (.map k e)) {z:Value} (hz:(zeroValue e).run P w=.ok z w) (b:Nat) (m:Value->Option Value)
 (hm:a.eval mo=.map (some b)) (hown:MapP P k w b m) (key:Value) (kl:Lit) (hx:a.eval x=key) (hkey:keyOf P k key=some kl) (v:Value) (hv:(m key).getD z=v) (c:Bool) (hc:(m key).isSome=c)
 (hK:wpList P ops Q rest (a.put o.dst (.tuple #[v,.bool c])) w):
 wpList P ops Q (o::rest) a w:=
 qF w hg mo x t true hop k e K ht hz b m hm hown key kl hx hkey (by rw[hv,hc];exact hK)
theorem dP(hg:o.guard=none)(mo x v:Operand)(t:TypeId)(hop:o.op=Op.mapUpdate t mo x v)
 (k e:TypeId) (K:Keyed P k) (ht:P.underlying t=some (.map k e)) (b:Nat) (m m':Value->Option Value)
 (hm:a.eval mo=.map (some b)) (hown:MapP P k w b m) (key val:Value) (kl:Lit) (hx:a.eval x=key) (hv:a.eval v=val) (hkey:keyOf P k key=some kl) (hu:Upd m key (some val) m')
 (hK:∀w',Hid (MapP P k w' b m')->w.grownBy w' (some b)->w'.heap.size=w.heap.size->wpList P ops Q rest (a.put o.dst undef) w'):
 wpList P ops Q (o::rest) a w:=by
 refine wpList_plain hg fun K' hK'=> ?_;obtain⟨w',hrun,r1,r2,r3⟩:=hown.store K ht hkey hu;unfold Oper.wp;simp[execOp,hop,hm,hx,hv,hrun,awD];exact hK' _ _ (hK w' (hdd r1) r2 r3)
theorem yZ(hg:o.guard=none)(mo x:Operand)(t k:TypeId)(hop:o.op=Op.call {callee:=Callee.builtin Builtin.delete,args:=#[mo,x],argTypes:=#[t,k]})
 (e:TypeId) (K:Keyed P k) (ht:P.underlying t=some (.map k e)) (b:Nat) (m m':Value->Option Value)
 (hm:a.eval mo=.map (some b)) (hown:MapP P k w b m) (key:Value) (kl:Lit) (hx:a.eval x=key) (hkey:keyOf P k key=some kl) (hu:Upd m key none m')
 (hK:∀w',Hid (MapP P k w' b m')->w.grownBy w' (some b)->w'.heap.size=w.heap.size->wpList P ops Q rest (a.put o.dst (.tuple #[])) w'):
 wpList P ops Q (o::rest) a w:=by
 refine wpList_plain hg fun K' hK'=> ?_;obtain⟨w',hrun,r1,r2,r3⟩:=hown.drop K ht hkey o.type hu;unfold Oper.wp;simp[execOp,hop,resolve,invoke,builtin,hm,hx,hrun,awD];exact hK' _ _ (hK w' (hdd r1) r2 r3)
end
end
section
open Go.RowKit Go.Maps
open List renaming getElem?_eq_some_iff->awO
variable{ns:List Nd}{xs:List Value}{base g i:Nat}{n:Nd}{T e:TypeId}{a b c d v:Value}{w w':World}
def dS(n:Nd):List Value:=[.int .i64 n.kind,.float .f64 n.val,.int .i64 n.a,.int .i64 n.b]
def bS(ns:List Nd):List Value:=ns.flatMap dS
def keyV(n:Nd):Value:=.agg #[.int .i64 n.kind,.int .i64 n.a,.int .i64 n.b,.int .u64 (n.val:Int)]
theorem wY(h:ns[i]? =some n)(j:Nat)(hj:j<4):(bS ns)[i*4+j]? =(dS n)[j]? :=by
 induction ns generalizing i with
 |nil=>simp at h
 |cons m ns ih=>
  have e:bS (m::ns)=dS m++bS ns:=by simp[bS]
  rw[e]
  cases i with
  |zero=>
   simp at h;subst h;rw[List.getElem?_append_left (by simp[dS];omega)];simp
  |succ i=>
   rw[List.getElem?_append_right (by simp[dS];omega)];have:(i+1)*4+j-(dS m).length=i*4+j:=by simp[dS];omega
   rw[this];exact ih (by simpa using h)
def ai4(ns:List Nd)(m:Value->Option Value):Prop:=
 (∀key val,m key=some val->∃(i:Nat) (n:Nd),ns[i]? =some n/\val=.int .i64 (i:Int)/\keyV n=key)/\∀(i:Nat) (n:Nd),ns[i]? =some n->m (keyV n)=some (.int .i64 (i:Int))
def DagM(w:World)(g:Nat)(ns:List Nd):Prop:=
 ∃v mb m,w.heap[g]? =some (.cells #[v,.map (some mb)] 65 (0,0))/\w.ownsRow 0 87 4 v ns.length (bS ns)/\MapP Tryz.prog 218 w mb m/\
  ai4 ns m/\v.ownBlock≠some g/\mb≠g/\v.ownBlock≠some mb/\ns.length<=20000/\∀n∈ns,n.val<18446744073709551616
def DagN(w:World)(g:Nat)(ns:List Nd):Prop:=
 ∃v,w.heap[g]? =some (.cells #[v,.map none] 65 (0,0))/\w.ownsRow 0 87 4 v ns.length (bS ns)/\v.ownBlock≠some g/\ns.length<=20000/\∀n∈ns,n.val<18446744073709551616
def DagP(w:World)(g:Nat)(ns:List Nd):Prop:=DagM w g ns\/DagN w g ns
theorem iF{size:Nat}{n:Nat}(h:w.ownsRow base e size v n xs):∀k,v.ownBlock=some k->k<w.heap.size:=fun k hk=>(h.lt k hk).2
theorem tK{size:Nat}{n:Nat}(h:w.ownsRow base e size v n xs)(hb:Below w.heap.size w w'):w'.ownsRow base e size v n xs:=by
 refine h.kept (aY (row:=none) hb) ?_
 cases hv:v.ownBlock
 . exact Or.inl rfl
 . exact Or.inr (by simp)
theorem DagP.below (h:DagP w g ns)(hb:Below w.heap.size w w'):DagP w' g ns:=by
 rcases h with ⟨v,mb,m,h1,h2,h3,h4,h5,h6,h7,h8,h9⟩|⟨v,h1,h2,h3⟩
 . exact Or.inl ⟨v,mb,m,hbl h1 hb,tK h2 hb,h3.below hb h3.lt,h4,h5,h6,h7,h8,h9⟩
 . exact Or.inr ⟨v,hbl h1 hb,tK h2 hb,h3⟩
theorem DagP.row (h:DagP w g ns):∃v mo,w.heap[g]? =some (.cells #[v,.map mo] 65 (0,0))/\w.ownsRow 0 87 4 v ns.length (bS ns)/\v.ownBlock≠some g/\ns.length<=20000/\∀n∈ns,n.val<18446744073709551616:=by
 rcases h with ⟨v,mb,m,h1,h2,h3,h4,h5,h6,h7,h8,h9⟩|⟨v,h1,h2,h3⟩
 . exact⟨v,_,h1,h2,h5,h8,h9⟩
 . exact⟨v,_,h1,h2,h3⟩
theorem DagP.len (h:DagP w g ns):ns.length<=20000:=by obtain⟨v,mo,h1,h2,h3,h4,h5⟩:=h.row;exact h4
theorem DagP.val (h:DagP w g ns)(hi:ns[i]? =some n):n.val<18446744073709551616:=by obtain⟨v,mo,h1,h2,h3,h4,h5⟩:=h.row;exact h5 n (List.mem_of_getElem? hi)
theorem DagP.glt (h:DagP w g ns):g<w.heap.size:=by obtain⟨v,mo,h1,-⟩:=h.row;exact aC h1
theorem DagP.slice (h:DagP w g ns):∃A c,w.cell? ⟨g,0,none⟩=some (.slice A ns.length c)/\ns.length<=c/\c<=maxLen/\
 ∀i n,ns[i]? =some n->∃r,A=some ⟨r,0,none⟩/\∀j u,(dS n)[j]? =some u->w.cell? ⟨r,i*4+j,none⟩=some u:=by
 obtain⟨v,mo,h1,h2,-⟩:=h.row;obtain⟨c0,-,-,-⟩:=aB h1;rcases id h2.2 with ⟨rfl,hn⟩|⟨r,cap,cur,rfl,hr,hh,hcap,hmax,hsz,hcur⟩
 . refine⟨none,0,by rw[hn];exact c0,by omega,by unfold maxLen;omega,fun i n hi=> ?_⟩
   have:=(awO.1 hi).1;omega
 . refine⟨some ⟨r,0,none⟩,cap,c0,hcap,hmax,fun i n hi=>⟨r,rfl,fun j u hu=> ?_⟩⟩
   have hj:j<4:=by have:=(awO.1 hu).1;simpa[dS]using this
   have hi':=(awO.1 hi).1;rw[h2.cellAt (i*4+j) (by omega),wY hi j hj];exact hu
theorem wZ(hd:DagP w g ns)(hi:i<ns.length):
 Calls Tryz.prog 99 #[.pointer (some ⟨g,0,none⟩),.int .i64 i] w (fun e w'=>e=.returned (.bool true)/\w=w'):=by
 obtain⟨A,c,c0,-,-,-⟩:=hd.slice;have h0:(0:Int)<=(i:Int):=by omega
 have h1:(i:Int)<(ns.length:Int):=by omega
 clear hd;go_enter Tryz.func99,Tryz.ntmps99
 go_wp2;go_ret;exact⟨rfl,rfl⟩
theorem af7(h:w.heap[g]? =some (.cells #[a,b,c,d] T (0,0))):
 w.frozen? ⟨g,0,none⟩=false/\w.frozen? ⟨g,1,none⟩=false/\w.frozen? ⟨g,2,none⟩=false/\w.frozen? ⟨g,3,none⟩=false:=by
 refine⟨?_,?_,?_,?_⟩<;>simp[World.frozen?,h]
theorem set4(h:w.heap[g]? =some (.cells #[a,b,c,d] T (0,0)))(u v x y:Value):
 ((((w.setCell ⟨g,0,none⟩ u).setCell ⟨g,1,none⟩ v).setCell ⟨g,2,none⟩ x).setCell ⟨g,3,none⟩ y).heap[g]? =some (.cells #[u,v,x,y] T (0,0)):=by
 have hg:g<w.heap.size:=(Array.getElem?_eq_some_iff.1 h).1;have h':w.heap[g]=.cells #[a,b,c,d] T (0,0):=(Array.getElem?_eq_some_iff.1 h).2;simp[World.setCell,hg,Array.getElem_modify,h']
theorem y7(hd:DagP w g ns)(hi:ns[i]? =some n):
 Calls Tryz.prog 61 #[.pointer (some ⟨g,0,none⟩),.int .i64 i] w (fun e w'=>e=.returned (.tuple #[iA n,.bool true])/\Below w.heap.size w w'):=by
 obtain⟨w1,hw1,hb1,hs1,b1⟩:=pro1 w (.cells #[.int .i64 0,.float .f64 0,.int .i64 0,.int .i64 0] 87);have hlt:=(awO.1 hi).1;have HD1:=hdd (hd.below hb1);obtain⟨A,c,c0,hc1,hc2,hel⟩:=HD1.out.slice;obtain⟨r,rfl,hcell⟩:=hel i n hi;have HH:=hdd (wZ (w:=w1) (i:=i) HD1.out hlt);have HB:=hdd hb1;have B1:=hdd b1;obtain⟨d0,d1,d2,d3⟩:=bM b1;obtain⟨f0,f1,f2,f3⟩:=af7 b1;obtain⟨kind,val,na,nb⟩:=n;have e0:w1.cell? ⟨r,i*4,none⟩=some (.int .i64 kind):=hcell 0 _ rfl;have e1:=hcell 1 _ rfl;have e2:=hcell 2 _ rfl;have e3:=hcell 3 _ rfl;have h0:(0:Int)<=(i:Int):=by omega
 have h1:(i:Int)<(ns.length:Int):=by omega
 have hst:=aT;have S1:=hdd (set4 b1 (.int .i64 kind) (.float .f64 val) (.int .i64 na) (.int .i64 nb));clear hd hel hcell hb1 hs1 hi hc1 hc2 b1;unfold iA;dsimp only at e0 e1 e2 e3|-;go_enter Tryz.func61,Tryz.ntmps61
 go_wp2_with fail
 refine HH.out.mono ?_;rintro e w2⟨rfl,hw⟩;obtain rfl:=hw;go_wp2_with fail
 go_wp2;obtain⟨x0,x1,x2,x3⟩:=bM S1.out;refine bodyPost_ret (v:=.tuple #[.agg #[_,_,_,_],_]) (by simp[results,Tryz.results61,go_sem,x0,x1,x2,x3];first|exact⟨⟨rfl,rfl,rfl,rfl⟩,rfl⟩|rfl) rfl ?_;exact⟨rfl,(((HB.out.setCell (by simp) _).setCell (by simp) _).setCell (by simp) _).setCell (by simp) _⟩
def opsN(n:Nd):List Int:=if n.kind=0 then[]else if n.kind=5 then[n.a]else[n.a,n.b]
def ops2(n:Nd):Int×Int:=if n.kind=0 then(0,0)else if n.kind=5 then(n.a,0)else(n.a,n.b)
theorem vG:Calls Tryz.prog 150 #[iA n] w (fun e w'=>e=.returned (.tuple #[.agg #[.int .i64 (ops2 n).1,.int .i64 (ops2 n).2],.int .i64 ((opsN n).length:Nat)])/\Below w.heap.size w w'):=by
 obtain⟨kind,val,na,nb⟩:=n;unfold iA;obtain⟨w2,hw2,hb2,hs2,b1,b2⟩:=pro2 w (.cells #[.int .i64 kind,.float .f64 val,.int .i64 na,.int .i64 nb] 87) (.cells #[.int .i64 0,.int .i64 0] 221);obtain⟨c0,c1,c2,c3⟩:=bM b1;obtain⟨d0,d1,d2,d3⟩:=aB b2;have HB:=hdd hb2;have S:=fun u v=>hdd (set2 b2 u v);clear hb2 b1 b2 hs2;by_cases h0:kind=0
 . subst h0
   simp only[ops2,opsN,if_true,List.length_nil];go_enter Tryz.func150,Tryz.ntmps150
   go_wp2;obtain⟨x0,x1,-,-⟩:=aB (S (.int .i64 0) (.int .i64 0)).out;refine bodyPost_ret (v:=.tuple #[.agg #[_,_],_]) (by simp[results,Tryz.results150,go_sem,x0,x1];first|exact⟨⟨rfl,rfl⟩,rfl⟩|rfl) rfl ?_;exact⟨rfl,(HB.out.setCell (by simp) _).setCell (by simp) _⟩
 . by_cases h5:kind=5
   . subst h5
     have e1:ops2 ⟨5,val,na,nb⟩=(na,0):=by simp[ops2]
     have e2:(opsN ⟨5,val,na,nb⟩).length=1:=by simp[opsN]
     rw[e1,e2];clear e1 e2 h0;go_enter Tryz.func150,Tryz.ntmps150
     go_wp2;obtain⟨x0,x1,-,-⟩:=aB (S (.int .i64 na) (.int .i64 0)).out;refine bodyPost_ret (v:=.tuple #[.agg #[_,_],_]) (by simp[results,Tryz.results150,go_sem,x0,x1];first|exact⟨⟨rfl,rfl⟩,rfl⟩|rfl) rfl ?_;exact⟨rfl,(HB.out.setCell (by simp) _).setCell (by simp) _⟩
   . have e1:ops2 ⟨kind,val,na,nb⟩=(na,nb):=by simp[ops2,h0,h5]
     have e2:(opsN ⟨kind,val,na,nb⟩).length=2:=by simp[opsN,h0,h5]
     rw[e1,e2];have t0:(kind==0)=false:=beq_eq_false_iff_ne.2 h0;have t5:(kind==5)=false:=beq_eq_false_iff_ne.2 h5;clear e1 e2 h0 h5;go_enter Tryz.func150,Tryz.ntmps150
     go_wp2;obtain⟨x0,x1,-,-⟩:=aB (S (.int .i64 na) (.int .i64 nb)).out;refine bodyPost_ret (v:=.tuple #[.agg #[_,_],_]) (by simp[results,Tryz.results150,go_sem,x0,x1];first|exact⟨⟨rfl,rfl⟩,rfl⟩|rfl) rfl ?_;exact⟨rfl,(HB.out.setCell (by simp) _).setCell (by simp) _⟩
theorem bT:Tryz.prog.underlying 166=some (.map 3 3):=by kernel_rfl
theorem xA:Tryz.prog.underlying 3=some (.int .i64):=by kernel_rfl
theorem lF:Tryz.prog.underlying 42=some (.slice 3):=by kernel_rfl
theorem aK:Keyed Tryz.prog 3:=int_keyed xA
theorem tL:(Tryz.prog.info? 3).map (fun i=>(i.zero,i.size,i.bytes))=some (some (.int .i64 0),1,8):=by kernel_rfl
theorem dV(w:World):(zeroValue 3).run Tryz.prog w=.ok (.int .i64 0) w:=by kernel_rfl
theorem jJ{i:Int}(h:-9223372036854775808<=i/\i<9223372036854775808):keyOf Tryz.prog 3 (.int .i64 i)=some (.int .i64 i):=keyOf_int_mk xA (by
 have e1:IntKind.i64.min=-9223372036854775808:=rfl;have e2:IntKind.i64.max=9223372036854775807:=rfl;simp[Lit.wf,e1,e2];omega)
def bD(l:List Nat):List Value:=l.map fun(x:Nat)=>Value.int .i64 (x:Int)
def VS(w:World)(gv gs mb:Nat)(sv:Value)(vis st:List Nat):Prop:=
 ∃m,w.heap[gv]? =some (.cells #[.map (some mb)] 166 (0,0))/\w.heap[gs]? =some (.cells #[sv] 42 (0,0))/\MapP Tryz.prog 3 w mb m/\
  (∀i:Nat,m (.int .i64 (i:Int))=if i∈vis then some (.int .i64 1)else none)/\w.ownsRow 0 3 1 sv st.length (bD st)/\gv≠gs/\mb≠gs/\mb≠gv/\sv.ownBlock≠some gs/\sv.ownBlock≠some gv/\sv.ownBlock≠some mb
end
end Go.Proofs.YtkadpnljocflaaaGreatDoor
