/- A part of the proof: contracts of functions and plain laws (NatK, NatM, NatN). -/
import Derived.Test.YtkadpnljocflaaaGreatDoorK03
import Derived.Deep.DeepCutAuto
set_option linter.unusedVariables false
set_option linter.unusedSimpArgs false
set_option linter.unnecessarySimpa false
set_option maxHeartbeats 25600000
set_option maxRecDepth 100000
namespace Go.Proofs.YtkadpnljocflaaaGreatDoor
open Go.RowKit
open Go.RowKit.Below renaming refl->anG
open Int renaming natCast_mul->anL,natCast_nonneg->anM,natCast_ediv->anX,natCast_pow->anZ
open List renaming length_replicate->am8,getD_eq_getElem?_getD->anH,drop_eq_getElem_cons->anU,length_drop->an4,length_set->aoC,take_take->aoD,drop_zero->aoE
open Nat renaming add_sub_cancel_left->am9,mul_comm->anA,pow_le_pow_right->anB,lt_of_lt_of_le->anC,zero_add->anD,mod_eq_of_lt->anE,lt_of_le_of_lt->anF,mul_le_mul_right->anI,pow_add->anJ,pow_zero->anN,div_lt_iff_lt_mul->anO,le_of_not_lt->anP,mul_one->anQ,div_add_mod->anR,eq_zero_or_pos->anS,le_of_lt->anT,add_mul->anV,le_add_right->anW,two_pow_pos->anY,mod_lt->an0,mul_le_mul_left->an1,two_mul->an2,div_mul_le_self->an3,div_eq_of_lt->an5,pow_pos->an6,min_eq_left->an7,le_add_left->an8,div_le_self->an9,mul_add_div->aoA,mul_add_mod->aoB,add_assoc->aoF,ne_of_gt->aoG,add_zero->aoH
open Nat.le renaming dest->anK
variable{xs:List Nat}{L a b c g n:Nat}{p:Nat->Prop}{w:World}
theorem NatP.drop {off:Nat}(h:NatP p w (.slice (some ⟨b,off,none⟩) n c) xs){m:Nat}(hm:m<=n):NatP p w (.slice (some ⟨b,off+m,none⟩) (n-m) (c-m)) (xs.drop m):=by
 obtain⟨A,c',h1,h2,h3,h4,h5⟩:=h;injection h1 with h1 h1n h1c;subst h1n h1c;have hl:(xs.drop m).length=xs.length-m:=an4;refine⟨some ⟨b,off+m,none⟩,c-m,by rw[hl],by omega,⟨by have:=h3.1;omega,by have:=h3.2;omega⟩,h4.drop m,fun hp=> ?_⟩;obtain⟨b',off',e,hp,hb,hc⟩:=h5 (by omega);rw[<-h1]at e;obtain⟨rfl,rfl⟩:b=b'/\off=off':=by have:=Option.some.inj e;exact⟨congrArg Addr.block this,congrArg Addr.off this⟩
 refine⟨_,_,rfl,hp,hb,fun k hk=> ?_⟩;have:=hc (m+k) (by omega);rw[<-aoF]at this;rw[this]
 congr 2
 unfold lim;rw[anH,anH,List.getElem?_drop]
theorem NatP.addr {v:Value}(h:NatP p w v xs)(hp:0<xs.length):∃b off c,v=.slice (some ⟨b,off,none⟩) xs.length c/\xs.length<=c/\xs.length<=1099511627776/\c<=9223372036854775807:=by
 obtain⟨A,c',h1,h2,h3,h4,h5⟩:=h;obtain⟨b',off',e,hp,hb,hc⟩:=h5 hp;subst e;exact⟨b',off',c',h1,h2,h3.1,h3.2⟩
theorem kD{la lb:Nat}(ha:a<B64^la)(hb:b<B64^lb):a*b<B64^(la+lb):=by
 rw[anJ];rcases anS b with h|h
 . subst h;rw[Nat.mul_zero];exact Nat.mul_pos (an6 bE) (an6 bE)
 . exact Nat.mul_lt_mul_of_lt_of_le ha (anT hb) (an6 bE)
theorem abI(xs:List Nat)(m:Nat)(hm:m<=xs.length)(hx:OkL xs):val xs=val (xs.take m)+B64^m*val (xs.drop m)/\val (xs.take m)<B64^m/\val (xs.drop m)<B64^(xs.length-m):=by
 refine⟨aX xs m hm,?_,?_⟩
 . have:=bF (xs.take m) (hx.take m)
   rwa[List.length_take,an7 hm]at this
 . have:=bF (xs.drop m) (hx.drop m)
   rwa[an4]at this
def iW(a0 a1 b0 b1:Nat):Nat:=a0*b1+a1*b0
theorem acL(a0 a1 b0 b1:Nat)(h:decide (a0<a1)=decide (b1<b0)):a0*b0+a1*b1+fB a0 a1*fB b1 b0=iW a0 a1 b0 b1:=by
 unfold fB iW;by_cases h1:a0<a1
 . have h2:b1<b0:=by simpa[h1]using h.symm
   rw[if_pos h1,if_pos h2];obtain⟨d,rfl⟩:=anK (anT h1);obtain⟨e,rfl⟩:=anK (anT h2);rw[am9,am9];grind
 . have h2:¬b1<b0:=by simpa[h1]using h.symm
   rw[if_neg h1,if_neg h2];obtain⟨d,rfl⟩:=anK (anP h1);obtain⟨e,rfl⟩:=anK (anP h2);rw[am9,am9];grind
theorem acM(a0 a1 b0 b1:Nat)(h:¬decide (a0<a1)=decide (b1<b0)):a0*b0+a1*b1=iW a0 a1 b0 b1+fB a0 a1*fB b1 b0:=by
 unfold fB iW;by_cases h1:a0<a1
 . have h2:¬b1<b0:=by simpa[h1]using h
   rw[if_pos h1,if_neg h2];obtain⟨d,rfl⟩:=anK (anT h1);obtain⟨e,rfl⟩:=anK (anP h2);rw[am9,am9];grind
 . have h2:b1<b0:=by simpa[h1]using h
   rw[if_neg h1,if_pos h2];obtain⟨d,rfl⟩:=anK (anP h1);obtain⟨e,rfl⟩:=anK (anT h2);rw[am9,am9];grind
theorem aaH(a0 a1 b0 b1 P:Nat):a0*b0+a1*b1*(P*P)+iW a0 a1 b0 b1*P=(a0+P*a1)*(b0+P*b1):=by unfold iW;grind
theorem aeD{d:Nat}(h1:a<B64^c)(h2:b<B64^d)(hc:c<=L)(hd:d<=L):a+b<B64^(L+1):=by
 have e1:B64^c<=B64^L:=anB bE hc;have e2:B64^d<=B64^L:=anB bE hd;have e3:B64^L*2<=B64^L*B64:=an1 _ (by unfold B64;omega);rw[Nat.pow_succ];omega
theorem rP(ha:a<L)(hb:b<L):fB a b<L:=by unfold fB;split<;>omega
theorem xV(N:Nat)(ih:∀(cut:Nat) (p q:Nat->Prop) (va vb:Value) (xs ys:List Nat) (w:World),2<=cut->cut<=1099511627776->NatP p w va xs->NatP q w vb ys->xs.length+ys.length<N->
 Calls Tryz.prog 274 #[.int .i64 cut,va,vb] w (RetN w.heap.size w (val xs*val ys)))
 (cut:Nat) (p q:Nat->Prop) (va vb:Value) (xs ys:List Nat) (w:World) (hc2:2<=cut) (hcM:cut<=1099511627776) (hx:NatP p w va xs) (hy:NatP q w vb ys) (hN:xs.length+ys.length<=N) (hNM:N<=549755813888):
 Calls Tryz.prog 274 #[.int .i64 cut,va,vb] w (RetN w.heap.size w (val xs*val ys)):=by
 have IH:=hdd ih;clear ih;go_enter Tryz.func274,Tryz.ntmps274
 go_wp2_with fail
 refine(aH hx).mono ?_;rintro e w1⟨rfl,v1,xs1,rfl,hv1,ht1,hval1,hl1⟩;go_wp2_with fail
 refine(aH hy).mono ?_;rintro e w1⟨rfl,v2,ys1,rfl,hv2,ht2,hval2,hl2⟩;have HV1:=hdd hval1;have HV2:=hdd hval2;have HT1:=hdd ht1;have HT2:=hdd ht2;have H1:=hdd (hv1.any.weak (q:=fun b=>b≠w.heap.size) fun b _ h=>by omega);have H2:=hdd (hv2.any.weak (q:=fun b=>b≠w.heap.size) fun b _ h=>by omega);clear hval1 hval2 hx hy ht1 ht2 hv1 hv2;by_cases hlt:xs1.length<ys1.length;obtain⟨zs1,e⟩:∃z,z=xs1:=⟨_,rfl⟩;subst e;obtain⟨xs1,e⟩:∃z,z=ys1:=⟨_,rfl⟩;subst e;obtain⟨ys1,e⟩:∃z,z=zs1:=⟨_,rfl⟩;subst e;have H3:=H1;clear H1;have H1:=H2;clear H2;have H2:=H3;clear H3
 all_goals
  obtain⟨A1,c1,e1,a1,⟨a1',a1''⟩,-,-⟩:=H1.out;obtain⟨A2,c2,e2,a2,⟨a2',a2''⟩,-,-⟩:=H2.out;subst e1 e2;by_cases hcut:ys1.length<cut
  . go_wp2_with fail
    refine(aaF H1.out H2.out (by omega)).mono ?_;rintro e w2⟨hb,v,zs,rfl,hz,htz,hvz⟩;have HF:=hdd (RetN.of (n:=val xs*val ys) hb hz htz (by first|(rw[hvz,HV1.out,HV2.out];done)|rw[hvz,HV2.out,HV1.out,anA]));clear hb hz htz hvz;go_wp2;go_ret;exact HF.out
  . obtain⟨b1,o1,c1,e1,-,-,-⟩:=H1.out.addr (by omega)
    injection e1 with e1 _ e1c;subst e1 e1c;obtain⟨b2,o2,c2,e2,-,-,-⟩:=H2.out.addr (by omega);injection e2 with e2 _ e2c;subst e2 e2c;have OX:=hdd H1.out.ok;have OY:=hdd H2.out.ok;have hm1:(xs1.length+1)/2<=xs1.length:=by omega
    have k0:0<=((xs1.length:Int)+1)/2:=by omega
    have k1:((xs1.length:Int)+1)/2<=(c1:Int):=by omega
    have k3:((xs1.length:Int)+1)/2<=(xs1.length:Int):=by omega
    have k5:(((xs1.length:Int)+1)/2).toNat=(xs1.length+1)/2:=by omega
    have k6:¬c1=(xs1.length+1)/2:=by omega
    obtain⟨m,em⟩:∃m,m=(xs1.length+1)/2:=⟨_,rfl⟩;have hmX:m<=xs1.length:=by omega
    have CX:=hdd (abI xs1 m hmX OX.out);have EM:=hdd em;clear em;by_cases hm:ys1.length<=(xs1.length+1)/2
    . go_wp2_with (at_make;refine bU _ rfl (.tmp 43) (.tmp 43) rfl .i64 .i64 _ (xs1.length+ys1.length) rfl rfl (by omega) (by omega) w.heap.size w (anG _ _) nlr ?_;intro w1 HZ hb1 hb hs1)
      have HB:=hdd hb1;clear hb1;replace H1:=hdd (NatP.below H1.out hb);replace H2:=hdd (NatP.below H2.out hb);clear hb;have F1:Hid (val (xs1.take m)*val ys1<B64^(xs1.length+ys1.length)):=hdd (anC (kD CX.out.2.1 (bF ys1 OY.out)) (anB bE (by omega)));have F2:Hid (val (xs1.drop m)*val ys1<B64^(xs1.length-m+ys1.length)):=hdd (kD CX.out.2.2 (bF ys1 OY.out));have F3:Hid (val xs1*val ys1<B64^(xs1.length+ys1.length)):=hdd (kD (bF xs1 OX.out) (bF ys1 OY.out));have F4:Hid (val xs1*val ys1=val (xs1.take m)*val ys1+val (xs1.drop m)*val ys1*B64^m):=by refine hdd ?_;rw[CX.out.1];grind
      rw[EM.out]at F1 F2 F4;refine(IH.out cut _ _ _ _ _ _ _ hc2 hcM (H1.out.take hm1) H2.out (by simp;omega)).mono ?_;rintro e w2⟨hb,vl,zl,rfl,hzl,htl,hvl⟩;have LO:=hdd (hzl.weak (q:=fun b=>b≠w.heap.size) fun b h _=>by omega);have VL:=hdd hvl;have TL:=hdd htl;clear hvl htl hzl;replace H1:=hdd (NatP.below H1.out hb);replace H2:=hdd (NatP.below H2.out hb);replace HZ:=hdd (OwnN.below HZ.out hb);replace HB:=hdd (HB.out.trans (hb.mono HB.out.size));clear hb;go_wp2_with fail
      refine(eF (at_:=0) (by simp) HZ.out LO.out (fun b h=>h) (by rw[am8,anD];exact aZ zl TL.out _ (by rw[VL.out];exact F1.out)) (by simp;omega) (by rw[aQ,am8,VL.out,anN,anQ,anD];exact F1.out)).mono ?_;rintro e w3⟨rfl,hg,z3,hO3,hl3,hv3⟩;replace H1:=hdd (NatP.grown H1.out hg (fun b hb e=>hb (by injection e)));replace H2:=hdd (NatP.grown H2.out hg (fun b hb e=>hb (by injection e)));replace HB:=hdd (HB.out.trans (Below.of_grown hg HB.out.size nlr));have HZ3:=hdd hO3;have HL3:=hdd hl3;have HV3:=hdd hv3;clear hO3 hl3 hv3 hg HZ;rw[am8]at HL3;rw[aQ,VL.out,anN,anQ,anD]at HV3;go_wp2_with fail
      refine(IH.out cut _ _ _ _ _ _ _ hc2 hcM (H1.out.drop hm1) H2.out (by simp;omega)).mono ?_;rintro e w4⟨hb,vh,zh,rfl,hzh,hth,hvh⟩;have HI:=hdd (hzh.weak (q:=fun b=>b≠w.heap.size) fun b h _=>by have:=HZ3.out.lt;omega);have VH:=hdd hvh;have TH:=hdd hth;clear hvh hth hzh;replace HZ3:=hdd (OwnN.below HZ3.out hb);replace HB:=hdd (HB.out.trans (hb.mono HB.out.size));clear hb;go_wp2_with fail
      refine(eF (at_:=(xs1.length+1)/2) HL3.out HZ3.out HI.out (fun b h=>h) ?_ (by rw[HL3.out];omega) ?_).mono ?_
      . rw[HL3.out];have:=aZ zh TH.out _ (by rw[VH.out];exact F2.out);omega
      . rw[HV3.out,VH.out,HL3.out,<-F4.out];exact F3.out
      rintro e w5⟨rfl,hg,z5,hO5,hl5,hv5⟩;replace HB:=hdd (HB.out.trans (Below.of_grown hg HB.out.size nlr));have HZ5:=hdd hO5;have HL5:=hdd hl5;have HV5:=hdd hv5;clear hO5 hl5 hv5 hg HZ3;rw[HL3.out]at HL5;rw[HV3.out,VH.out,<-F4.out]at HV5;go_wp2_with fail
      refine(aH (HZ5.out.natP (p:=fun b=>w.heap.size<=b) HL5.out nlr (by omega) nlr)).mono ?_;rintro e w6⟨rfl,v,ys',rfl,hv4,ht4,hval,-⟩;have HF:=hdd (RetN.of (n:=val xs*val ys) HB.out hv4 ht4 (by first|(rw[hval,HV5.out,HV1.out,HV2.out];done)|rw[hval,HV5.out,HV2.out,HV1.out,anA]));clear hv4 ht4 hval;go_wp2;go_ret;exact HF.out
    . have hm2:(xs1.length+1)/2<=ys1.length:=by omega
      have k2:((xs1.length:Int)+1)/2<=(c2:Int):=by omega
      have k4:((xs1.length:Int)+1)/2<=(ys1.length:Int):=by omega
      have k7:¬c2=(xs1.length+1)/2:=by omega
      have hmY:m<=ys1.length:=by have:=EM.out;omega
      have CY:=hdd (abI ys1 m hmY OY.out);have ha1L:val (xs1.drop m)<B64^m:=anC CX.out.2.2 (anB bE (by have:=EM.out;omega));have hb1L:val (ys1.drop m)<B64^m:=anC CY.out.2.2 (anB bE (by have:=EM.out;omega));have AX:=hdd (rP CX.out.2.1 ha1L);have AY:=hdd (rP hb1L CY.out.2.1);have F1:=hdd (kD CX.out.2.1 CY.out.2.1);have F2:=hdd (kD CX.out.2.2 CY.out.2.2);have F3:Hid (val xs1*val ys1<B64^(xs1.length+ys1.length)):=hdd (kD (bF xs1 OX.out) (bF ys1 OY.out));have F4:Hid (val (xs1.take m)*val (ys1.take m)+val (xs1.drop m)*val (ys1.drop m)*(B64^m*B64^m)+iW (val (xs1.take m)) (val (xs1.drop m)) (val (ys1.take m)) (val (ys1.drop m))*B64^m=val xs1*val ys1):=by
       refine hdd ?_;rw[aaH,<-CX.out.1,<-CY.out.1]
      clear ha1L hb1L;rw[EM.out]at AX AY F1 F2 F4;go_wp2_with (at_make;refine bU _ rfl (.tmp 43) (.tmp 43) rfl .i64 .i64 _ (xs1.length+ys1.length) rfl rfl (by omega) (by omega) w.heap.size w (anG _ _) nlr ?_;intro w1 HZ hb1 hb hs1)
      have HB:=hdd hb1;clear hb1;replace H1:=hdd (NatP.below H1.out hb);replace H2:=hdd (NatP.below H2.out hb);clear hb
      go_still_tail 7,(by kernel_rfl)
      change wpList _ _ _ _ _ w1.drew;have hb:Below w1.heap.size w1 w1.drew:=(anG _ _).drew;generalize w1.drew=w1d at hb|-;replace H1:=hdd (NatP.below H1.out hb);replace H2:=hdd (NatP.below H2.out hb);replace HZ:=hdd (OwnN.below HZ.out hb);replace HB:=hdd (HB.out.trans (hb.mono HB.out.size));clear hb hs1;go_wp2_with fail
      refine(IH.out cut _ _ _ _ _ _ _ hc2 hcM (H1.out.take hm1) (H2.out.take hm2) (by simp;omega)).mono ?_;rintro e w2⟨hb,vl,zl,rfl,hzl,htl,hvl⟩;have LO:=hdd (hzl.weak (q:=fun b=>b≠w.heap.size) fun b h _=>by have:=HZ.out.lt;omega);have VL:=hdd hvl;have TL:=hdd htl;clear hvl htl hzl;replace H1:=hdd (NatP.below H1.out hb);replace H2:=hdd (NatP.below H2.out hb);replace HZ:=hdd (OwnN.below HZ.out hb);replace HB:=hdd (HB.out.trans (hb.mono HB.out.size));clear hb;go_wp2_with fail
      go_still_tail 7,(by kernel_rfl)
      change wpList _ _ _ _ _ w2.drew;have hb:Below w2.heap.size w2 w2.drew:=(anG _ _).drew;generalize w2.drew=w2d at hb|-;replace H1:=hdd (NatP.below H1.out hb);replace H2:=hdd (NatP.below H2.out hb);replace HZ:=hdd (OwnN.below HZ.out hb);replace LO:=hdd (NatP.below LO.out hb);replace HB:=hdd (HB.out.trans (hb.mono HB.out.size));clear hb;go_wp2_with fail
      refine(IH.out cut _ _ _ _ _ _ _ hc2 hcM (H1.out.drop hm1) (H2.out.drop hm2) (by simp;omega)).mono ?_;rintro e w3⟨hb,vh,zh,rfl,hzh,hth,hvh⟩;have HI:=hdd (hzh.weak (q:=fun b=>b≠w.heap.size) fun b h _=>by have:=HZ.out.lt;omega);have VH:=hdd hvh;have TH:=hdd hth;clear hvh hth hzh;replace H1:=hdd (NatP.below H1.out hb);replace H2:=hdd (NatP.below H2.out hb);replace HZ:=hdd (OwnN.below HZ.out hb);replace LO:=hdd (NatP.below LO.out hb);replace HB:=hdd (HB.out.trans (hb.mono HB.out.size));clear hb;go_wp2_with fail
      go_region_with ((go_at_call 281;refine(abH (NatP.below (H1.out.take hm1) (anG _ _).drew) (NatP.below (H1.out.drop hm1) (anG _ _).drew)).mono ?_;rintro e w4⟨hb,vx,zx,rfl,hzz,htz,hvz⟩))
      have XD:=hdd (hzz.weak (q:=fun b=>b≠w.heap.size) fun b h _=>aoG (anC HZ.out.lt h));have TX:=hdd htz;have VXD:=hdd hvz;clear hzz htz hvz;replace hb:Below w3.heap.size w3 w4:=(anG _ _).drew.trans hb;replace H1:=hdd (NatP.below H1.out hb);replace H2:=hdd (NatP.below H2.out hb);replace LO:=hdd (NatP.below LO.out hb);replace HI:=hdd (NatP.below HI.out hb);replace HZ:=hdd (OwnN.below HZ.out hb);replace HB:=hdd (HB.out.trans (hb.mono HB.out.size));clear hb;generalize hxb:decide (val (xs1.take ((xs1.length+1)/2))<val (xs1.drop ((xs1.length+1)/2)))=xb;have XB:=hdd hxb;clear hxb;go_wp2_with fail
      go_region_with ((go_at_call 281;refine(abH (NatP.below (H2.out.drop hm2) (anG _ _).drew) (NatP.below (H2.out.take hm2) (anG _ _).drew)).mono ?_;rintro e w5⟨hb,vy,zy,rfl,hzz,htz,hvz⟩))
      have YD:=hdd (hzz.weak (q:=fun b=>b≠w.heap.size) fun b h _=>aoG (anC HZ.out.lt h));have TY:=hdd htz;have VYD:=hdd hvz;clear hzz htz hvz;replace hb:Below w4.heap.size w4 w5:=(anG _ _).drew.trans hb;replace LO:=hdd (NatP.below LO.out hb);replace HI:=hdd (NatP.below HI.out hb);replace XD:=hdd (NatP.below XD.out hb);replace HZ:=hdd (OwnN.below HZ.out hb);replace HB:=hdd (HB.out.trans (hb.mono HB.out.size));clear hb;generalize hyb:decide (val (ys1.drop ((xs1.length+1)/2))<val (ys1.take ((xs1.length+1)/2)))=yb;have YB:=hdd hyb;clear hyb;have LX:=hdd (aZ zx TX.out _ (by rw[VXD.out];exact AX.out));have LY:=hdd (aZ zy TY.out _ (by rw[VYD.out];exact AY.out));go_wp2_with fail
      refine(IH.out cut _ _ _ _ _ _ _ hc2 hcM XD.out YD.out (by have:=LX.out;have:=LY.out;omega)).mono ?_;rintro e w6⟨hb,vm,zm,rfl,hzm,htm,hvm⟩;have MI:=hdd (hzm.weak (q:=fun b=>b≠w.heap.size) fun b h _=>by have:=HZ.out.lt;omega);have VM:=hdd hvm;have TM:=hdd htm;clear hvm htm hzm;replace HZ:=hdd (OwnN.below HZ.out hb);replace LO:=hdd (NatP.below LO.out hb);replace HI:=hdd (NatP.below HI.out hb);replace HB:=hdd (HB.out.trans (hb.mono HB.out.size));clear hb;rw[VXD.out,VYD.out]at VM;have LL:=hdd (aZ zl TL.out _ (by rw[VL.out];exact F1.out));have LH:=hdd (aZ zh TH.out _ (by rw[VH.out];exact F2.out));have em:=EM.out;have ll:=LL.out;have lh:=LH.out;go_wp2_with fail
      refine(jE LO.out HI.out (by omega) (by omega)).mono ?_;rintro e w7⟨hb,vc,zc,rfl,hzc,htc,hvc⟩;have CR:=hdd (hzc.weak (q:=fun b=>b≠w.heap.size) fun b h _=>by have:=HZ.out.lt;omega);have VC:=hdd hvc;have TC:=hdd htc;clear hvc htc hzc;replace HZ:=hdd (OwnN.below HZ.out hb);replace LO:=hdd (NatP.below LO.out hb);replace HI:=hdd (NatP.below HI.out hb);replace MI:=hdd (NatP.below MI.out hb);replace HB:=hdd (HB.out.trans (hb.mono HB.out.size));clear hb;rw[VL.out,VH.out]at VC;have hcross:∀(ee:Ending) (ww:World),RetN w7.heap.size w7 (iW (val (xs1.take ((xs1.length+1)/2))) (val (xs1.drop ((xs1.length+1)/2))) (val (ys1.take ((xs1.length+1)/2))) (val (ys1.drop ((xs1.length+1)/2)))) ee ww->
       ∃vk zk,ee=.returned vk/\NatP (fun b=>b≠w.heap.size) ww vk zk/\Tr zk/\val zk=iW (val (xs1.take ((xs1.length+1)/2))) (val (xs1.drop ((xs1.length+1)/2))) (val (ys1.take ((xs1.length+1)/2))) (val (ys1.drop ((xs1.length+1)/2)))/\Below w7.heap.size w7 ww:=by
       rintro ee ww⟨hb,vk,zk,rfl,hzk,htk,hvk⟩;exact⟨vk,zk,rfl,hzk.weak (fun b h _=>by have:=HZ.out.lt;omega),htk,hvk,hb⟩
      have HCR:=hdd hcross;clear hcross;have F5:Hid (iW (val (xs1.take ((xs1.length+1)/2))) (val (xs1.drop ((xs1.length+1)/2))) (val (ys1.take ((xs1.length+1)/2))) (val (ys1.drop ((xs1.length+1)/2)))<B64^(xs1.length+ys1.length-m)):=by
       refine hdd ?_;have h1:=F3.out;rw[<-F4.out]at h1;have h2:xs1.length+ys1.length=(xs1.length+ys1.length-m)+m:=by omega
       rw[h2,anJ,em]at h1;have h3:iW (val (xs1.take ((xs1.length+1)/2))) (val (xs1.drop ((xs1.length+1)/2))) (val (ys1.take ((xs1.length+1)/2))) (val (ys1.drop ((xs1.length+1)/2)))*B64^((xs1.length+1)/2)<B64^(xs1.length+ys1.length-(xs1.length+1)/2)*B64^((xs1.length+1)/2):=by omega
       rw[em];exact Nat.lt_of_mul_lt_mul_right h3
      clear em ll lh;by_cases hxy:xb=yb
      . have hbe:(xb==yb)=true:=beq_iff_eq.2 hxy
        have VK:=hdd (acL (val (xs1.take ((xs1.length+1)/2))) (val (xs1.drop ((xs1.length+1)/2))) (val (ys1.take ((xs1.length+1)/2))) (val (ys1.drop ((xs1.length+1)/2))) (by rw[XB.out,YB.out];exact hxy));clear hxy;go_wp2_with fail
        have lc:=aZ zc TC.out (xs1.length+ys1.length+1) (by rw[VC.out];exact aeD F1.out F2.out (by have:=EM.out;omega) (by have:=EM.out;omega));have lm:=aZ zm TM.out _ (by rw[VM.out];exact kD AX.out AY.out);have em:=EM.out;refine(jE CR.out MI.out (by omega) (by omega)).mono ?_;rw[VC.out,VM.out,VK.out];intro e w8 hr;obtain⟨vk,zk,rfl,hzk,htk,hvk,hb⟩:=HCR.out _ _ hr;clear hr lc lm em;have KR:=hdd hzk;have VKK:=hdd hvk;have TK:=hdd htk;clear hvk htk hzk;replace HZ:=hdd (OwnN.below HZ.out hb);replace LO:=hdd (NatP.below LO.out hb);replace HI:=hdd (NatP.below HI.out hb);replace HB:=hdd (HB.out.trans (hb.mono HB.out.size));clear hb;have F6:Hid (val zl<B64^(xs1.length+ys1.length)):=hdd (by rw[VL.out];exact anC F1.out (anB bE (by have:=EM.out;omega)));go_wp2_with fail
        refine(eF (at_:=0) (by simp) HZ.out LO.out (fun b h=>h) (by rw[am8,anD];exact aZ zl TL.out _ F6.out) (by simp;omega) (by rw[aQ,am8,anN,anQ,anD];exact F6.out)).mono ?_;rintro e w9⟨rfl,hg,z3,hO3,hl3,hv3⟩;replace HI:=hdd (NatP.grown HI.out hg (fun b hb e=>hb (by injection e)));replace KR:=hdd (NatP.grown KR.out hg (fun b hb e=>hb (by injection e)));replace HB:=hdd (HB.out.trans (Below.of_grown hg HB.out.size nlr));have HZ3:=hdd hO3;have HL3:=hdd hl3;have HV3:=hdd hv3;clear hO3 hl3 hv3 hg HZ;rw[am8]at HL3;rw[aQ,VL.out,anN,anQ,anD]at HV3;go_wp2_with fail
        refine(eF (at_:=2*((xs1.length+1)/2)) HL3.out HZ3.out HI.out (fun b h=>h) ?_ (by rw[HL3.out];omega) ?_).mono ?_
        . rw[HL3.out];have:=LH.out;have:=EM.out;omega
        . rw[HV3.out,VH.out,HL3.out,an2,anJ];have:=F3.out;rw[<-F4.out]at this;exact anF (anW _ _) this
        rintro e w10⟨rfl,hg,z5,hO5,hl5,hv5⟩;replace KR:=hdd (NatP.grown KR.out hg (fun b hb e=>hb (by injection e)));replace HB:=hdd (HB.out.trans (Below.of_grown hg HB.out.size nlr));have HZ5:=hdd hO5;have HL5:=hdd hl5;have HV5:=hdd hv5;clear hO5 hl5 hv5 hg HZ3;rw[HL3.out]at HL5;rw[HV3.out,VH.out,an2,anJ]at HV5;go_wp2_with fail
        refine(eF (at_:=(xs1.length+1)/2) HL5.out HZ5.out KR.out (fun b h=>h) ?_ (by rw[HL5.out];omega) ?_).mono ?_
        . rw[HL5.out];have:=aZ zk TK.out _ (by rw[VKK.out];exact F5.out);have:=EM.out;omega
        . rw[HV5.out,VKK.out,HL5.out,F4.out];exact F3.out
        rintro e w11⟨rfl,hg,z7,hO7,hl7,hv7⟩;replace HB:=hdd (HB.out.trans (Below.of_grown hg HB.out.size nlr));have HZ7:=hdd hO7;have HL7:=hdd hl7;have HV7:=hdd hv7;clear hO7 hl7 hv7 hg HZ5;rw[HL5.out]at HL7;rw[HV5.out,VKK.out,F4.out]at HV7;go_wp2_with fail
        refine(aH (HZ7.out.natP (p:=fun b=>w.heap.size<=b) HL7.out nlr (by omega) nlr)).mono ?_;rintro e w12⟨rfl,v,ys',rfl,hv4,ht4,hval,-⟩;have HF:=hdd (RetN.of (n:=val xs*val ys) HB.out hv4 ht4 (by first|(rw[hval,HV7.out,HV1.out,HV2.out];done)|rw[hval,HV7.out,HV2.out,HV1.out,anA]));clear hv4 ht4 hval;go_wp2;go_ret;exact HF.out
      . have hbe:(xb==yb)=false:=beq_eq_false_iff_ne.2 hxy
        have VK:=hdd (acM (val (xs1.take ((xs1.length+1)/2))) (val (xs1.drop ((xs1.length+1)/2))) (val (ys1.take ((xs1.length+1)/2))) (val (ys1.drop ((xs1.length+1)/2))) (by rw[XB.out,YB.out];exact hxy));clear hxy;go_wp2_with fail
        refine(nH CR.out MI.out (dJ _ _ TM.out CR.out.ok (by rw[VC.out,VM.out,VK.out];exact an8 _ _)) (by rw[VC.out,VM.out,VK.out];exact an8 _ _)).mono ?_;rw[VC.out,VM.out,VK.out,Nat.add_sub_cancel];intro e w8 hr;obtain⟨vk,zk,rfl,hzk,htk,hvk,hb⟩:=HCR.out _ _ hr;clear hr;have KR:=hdd hzk;have VKK:=hdd hvk;have TK:=hdd htk;clear hvk htk hzk;replace HZ:=hdd (OwnN.below HZ.out hb);replace LO:=hdd (NatP.below LO.out hb);replace HI:=hdd (NatP.below HI.out hb);replace HB:=hdd (HB.out.trans (hb.mono HB.out.size));clear hb;have F6:Hid (val zl<B64^(xs1.length+ys1.length)):=hdd (by rw[VL.out];exact anC F1.out (anB bE (by have:=EM.out;omega)));go_wp2_with fail
        refine(eF (at_:=0) (by simp) HZ.out LO.out (fun b h=>h) (by rw[am8,anD];exact aZ zl TL.out _ F6.out) (by simp;omega) (by rw[aQ,am8,anN,anQ,anD];exact F6.out)).mono ?_;rintro e w9⟨rfl,hg,z3,hO3,hl3,hv3⟩;replace HI:=hdd (NatP.grown HI.out hg (fun b hb e=>hb (by injection e)));replace KR:=hdd (NatP.grown KR.out hg (fun b hb e=>hb (by injection e)));replace HB:=hdd (HB.out.trans (Below.of_grown hg HB.out.size nlr));have HZ3:=hdd hO3;have HL3:=hdd hl3;have HV3:=hdd hv3;clear hO3 hl3 hv3 hg HZ;rw[am8]at HL3;rw[aQ,VL.out,anN,anQ,anD]at HV3;go_wp2_with fail
        refine(eF (at_:=2*((xs1.length+1)/2)) HL3.out HZ3.out HI.out (fun b h=>h) ?_ (by rw[HL3.out];omega) ?_).mono ?_
        . rw[HL3.out];have:=LH.out;have:=EM.out;omega
        . rw[HV3.out,VH.out,HL3.out,an2,anJ];have:=F3.out;rw[<-F4.out]at this;exact anF (anW _ _) this
        rintro e w10⟨rfl,hg,z5,hO5,hl5,hv5⟩;replace KR:=hdd (NatP.grown KR.out hg (fun b hb e=>hb (by injection e)));replace HB:=hdd (HB.out.trans (Below.of_grown hg HB.out.size nlr));have HZ5:=hdd hO5;have HL5:=hdd hl5;have HV5:=hdd hv5;clear hO5 hl5 hv5 hg HZ3;rw[HL3.out]at HL5;rw[HV3.out,VH.out,an2,anJ]at HV5;go_wp2_with fail
        refine(eF (at_:=(xs1.length+1)/2) HL5.out HZ5.out KR.out (fun b h=>h) ?_ (by rw[HL5.out];omega) ?_).mono ?_
        . rw[HL5.out];have:=aZ zk TK.out _ (by rw[VKK.out];exact F5.out);have:=EM.out;omega
        . rw[HV5.out,VKK.out,HL5.out,F4.out];exact F3.out
        rintro e w11⟨rfl,hg,z7,hO7,hl7,hv7⟩;replace HB:=hdd (HB.out.trans (Below.of_grown hg HB.out.size nlr));have HZ7:=hdd hO7;have HL7:=hdd hl7;have HV7:=hdd hv7;clear hO7 hl7 hv7 hg HZ5;rw[HL5.out]at HL7;rw[HV5.out,VKK.out,F4.out]at HV7;go_wp2_with fail
        refine(aH (HZ7.out.natP (p:=fun b=>w.heap.size<=b) HL7.out nlr (by omega) nlr)).mono ?_;rintro e w12⟨rfl,v,ys',rfl,hv4,ht4,hval,-⟩;have HF:=hdd (RetN.of (n:=val xs*val ys) HB.out hv4 ht4 (by first|(rw[hval,HV7.out,HV1.out,HV2.out];done)|rw[hval,HV7.out,HV2.out,HV1.out,anA]));clear hv4 ht4 hval;go_wp2;go_ret;exact HF.out
theorem ahB(N:Nat)(hNM:N<=549755813888):∀(cut:Nat) (p q:Nat->Prop) (va vb:Value) (xs ys:List Nat) (w:World),2<=cut->cut<=1099511627776->NatP p w va xs->NatP q w vb ys->xs.length+ys.length<=N->
 Calls Tryz.prog 274 #[.int .i64 cut,va,vb] w (RetN w.heap.size w (val xs*val ys)):=by
 induction N with
 |zero=>
  intro cut p q va vb xs ys w h1 h2 hx hy hl;exact xV 0 (fun _ _ _ _ _ _ _ _ _ _ _ _ h=>absurd h (by omega)) cut p q va vb xs ys w h1 h2 hx hy hl hNM
 |succ N ih=>
  intro cut p q va vb xs ys w h1 h2 hx hy hl;exact xV (N+1) (fun cut p q va vb xs ys w h1 h2 hx hy h=>ih (by omega) cut p q va vb xs ys w h1 h2 hx hy (by omega)) cut p q va vb xs ys w h1 h2 hx hy hl hNM
theorem abJ{q:Nat->Prop}{cut:Nat}{va vb:Value}{ys:List Nat}(hc2:2<=cut)(hcM:cut<=1099511627776)(hx:NatP p w va xs)(hy:NatP q w vb ys)(hl:xs.length+ys.length<=549755813888):
 Calls Tryz.prog 274 #[.int .i64 cut,va,vb] w (RetN w.heap.size w (val xs*val ys)):=
 ahB 549755813888 nlr cut p q va vb xs ys w hc2 hcM hx hy hl
theorem rQ(x:Nat)(hx:x<18446744073709551616):Go.bits BinOp.and IntKind.u64 (x:Int) 4294967295=((x%4294967296:Nat):Int):=by
 have h:=bits_and_u64_nat x 4294967295 hx (by omega);have e:x &&& 4294967295=x%4294967296:=by
  have:=Nat.and_two_pow_sub_one_eq_mod x 32;exact this
 rw[e]at h;exact h
theorem xW(QT U L Y N1 N0:Nat)(hY:Y=N1*4294967296+N0)(hN:0<N1)(hL:L<4294967296)(hT:QT=(U*4294967296+L)/Y):QT<=U/N1:=by
 rw[Nat.le_div_iff_mul_le hN];have h1:QT*Y<=U*4294967296+L:=by rw[hT];exact an3 _ _
 have h2:QT*N1*4294967296<=QT*Y:=by rw[hY,Nat.mul_add,<-Nat.mul_assoc];omega
 generalize QT*N1=a at*;omega
theorem uO(U L1 Q1 Y V:Nat)(hV:U*4294967296+L1=Q1*Y+V)(hVl:V<18446744073709551616):
 IntKind.u64.wrap (((U*4294967296%18446744073709551616:Nat):Int)+L1-((Q1*Y%18446744073709551616:Nat):Int))=(V:Int):=by
 rw[IntKind.wrap_u64];generalize Q1*Y=q at*;omega
theorem gY(x:Nat):IntKind.u64.wrap (x:Int)=((x%18446744073709551616:Nat):Int):=by rw[IntKind.wrap_u64];omega
theorem nK(U:Nat):IntKind.u64.wrap ((U:Int)*4294967296)=((U*4294967296%18446744073709551616:Nat):Int):=by rw[IntKind.wrap_u64];omega
theorem uP(U L1:Nat)(h:L1<4294967296):U*4294967296%18446744073709551616+L1<18446744073709551616:=by omega
theorem oU(hi lo y:Nat)(w:World)(hy:y<B64)(hlt:hi<y)(hlo:lo<B64):
 Calls Tryz.prog 139 #[.int .u64 hi,.int .u64 lo,.int .u64 y] w fun e w'=>e=.returned (.tuple #[.int .u64 ((hi*B64+lo)/y:Nat),.int .u64 ((hi*B64+lo)%y:Nat)])/\∃k,w'=w.drewN k:=by
 have hB:B64=18446744073709551616:=rfl;have hy0:y≠0:=by omega
 rcases anS hi with h0|h0
 . subst h0
   rw[Nat.zero_mul,anD];have b0:((y:Int)==0)=false:=beq_eq_false_iff_ne.2 (by omega);have hyi:(1:Int)<=(y:Int):=by omega
   have e1:((lo/y:Nat):Int)=(lo:Int)/y:=anX ..;have e2:((lo%y:Nat):Int)=(lo:Int)%y:=Int.natCast_emod ..;have q1:IntKind.u64.wrap ((lo:Int)/y)=(lo/y:Nat):=by
    rw[<-e1,gY,anE (anF (an9 _ _) (by omega))]
   obtain⟨A,hA⟩:∃A,A=lo/y:=⟨_,rfl⟩;obtain⟨C,hC⟩:∃C,C=lo%y:=⟨_,rfl⟩;rw[<-hA]at q1|-;rw[<-hC]at e2|-;clear hA hC e1 hB;have e3:(lo:Int)%(y:Int)=(C:Int):=e2.symm;clear e2;rw[show((0:Nat):Int)=0 from rfl];go_enter Tryz.func139,Tryz.ntmps139
   go_wp2
   go_quiet (fail)
   go_wp2
   go_ret2
   exact⟨fG (by rw[e3]),_,rfl⟩
 . have hbl:Lib.bitLen y=bits y:=kC y (by omega)
   have hb1:1<=bits y:=by unfold bits;rw[if_neg hy0];omega
   have hb2:bits y<=64:=by rw[aF];omega
   obtain⟨s,hs⟩:∃s,s=64-bits y:=⟨_,rfl⟩;have hYlt:y*2^s<18446744073709551616:=by
    have h1:=bJ y;have h2:y*2^s<2^bits y*2^s:=Nat.mul_lt_mul_of_pos_right h1 (anY s);rw[<-anJ,show bits y+s=64 by omega]at h2;omega
   have hYge:9223372036854775808<=y*2^s:=by
    have h1:=dX y hy0;have h2:2^(bits y-1)*2^s<=y*2^s:=anI _ h1;rw[<-anJ,show bits y-1+s=63 by omega]at h2;omega
   have hUlow:lo/2^(64-s)<2^s:=rF lo s hlo (by omega);have hhis:hi*2^s+2^s<=y*2^s:=by
    have:(hi+1)*2^s<=y*2^s:=anI _ hlt;rw[anV]at this;omega
   obtain⟨Y,hYd⟩:∃Y,Y=y*2^s:=⟨_,rfl⟩;obtain⟨U,hUd⟩:∃U,U=hi*2^s+lo/2^(64-s):=⟨_,rfl⟩;obtain⟨L,hLd⟩:∃L,L=(lo*2^s)%B64:=⟨_,rfl⟩;have hUY:U<Y:=by rw[hUd,hYd];omega
   have hLlt:L<18446744073709551616:=by rw[hLd];exact an0 _ bE
   have hsplit:=pQ lo s (by omega);have hTS:(hi*B64+lo)*2^s=U*B64+L:=by
    rw[hUd,hLd,anV,hsplit];grind
   have eY:IntKind.u64.wrap ((y:Int)*2^s)=(Y:Int):=by
    have:((y:Int)*2^s)=((y*2^s:Nat):Int):=by rw[anL,anZ];rfl
    rw[this,gY,anE hYlt,hYd]
   have eL:IntKind.u64.wrap ((lo:Int)*2^s)=(L:Int):=by
    have:((lo:Int)*2^s)=((lo*2^s:Nat):Int):=by rw[anL,anZ];rfl
    rw[this,gY,hLd];rfl
   have eU:Go.bits BinOp.or IntKind.u64 (IntKind.u64.wrap ((hi:Int)*2^s)) ((lo:Int)/2^(64-s))=(U:Int):=by
    have h1:((hi:Int)*2^s)=((hi*2^s:Nat):Int):=by rw[anL,anZ];rfl
    have h2:((lo:Int)/2^(64-s))=((lo/2^(64-s):Nat):Int):=by rw[qL (anM _)];simp
    have h3:hi*2^s<18446744073709551616:=anF (Nat.le_trans (anW _ _) hhis) hYlt;have h4:lo/2^(64-s)<18446744073709551616:=anF (an9 _ _) hlo;rw[h1,gY,anE h3,h2,bits_or_u64_nat _ _ h3 h4,Nat.or_comm];have h5:=z8 (lo/2^(64-s)) hi s hUlow (by omega);rw[anE h3]at h5;rw[h5,hUd,Nat.add_comm]
   clear hUlow hhis hsplit;have hQ1:=anR (U*4294967296+L/4294967296) Y;have hV:=an0 (U*4294967296+L/4294967296) (show Y>0 by omega);obtain⟨Q1,hQ1d⟩:∃Q1,Q1=(U*4294967296+L/4294967296)/Y:=⟨_,rfl⟩;obtain⟨V,hVd⟩:∃V,V=(U*4294967296+L/4294967296)%Y:=⟨_,rfl⟩;rw[<-hQ1d,<-hVd]at hQ1;rw[<-hVd]at hV;have hQ2:=anR (V*4294967296+L%4294967296) Y;have hW:=an0 (V*4294967296+L%4294967296) (show Y>0 by omega);obtain⟨Q2,hQ2d⟩:∃Q2,Q2=(V*4294967296+L%4294967296)/Y:=⟨_,rfl⟩;obtain⟨W,hWd⟩:∃W,W=(V*4294967296+L%4294967296)%Y:=⟨_,rfl⟩;rw[<-hQ2d,<-hWd]at hQ2;rw[<-hWd]at hW;have hYN:Y=Y/4294967296*4294967296+Y%4294967296:=by omega
   have hN1:2147483648<=Y/4294967296:=by omega
   have hN1':Y/4294967296<4294967296:=by omega
   have pQ1:=rO Q1 U (L/4294967296) Y (by omega) hQ1d hUY;have pQ2:=rO Q2 V (L%4294967296) Y (by omega) hQ2d hV;have gU:=xW Q1 U (L/4294967296) Y _ _ hYN (by omega) (by omega) hQ1d;have gV:=xW Q2 V (L%4294967296) Y _ _ hYN (by omega) (by omega) hQ2d;have hmulTS:(hi*B64+lo)*2^s=(Q1*4294967296+Q2)*Y+W:=by
    rw[hTS,hB];clear hTS;have e0:L=L/4294967296*4294967296+L%4294967296:=by omega
    have e1:U*18446744073709551616+L=(U*4294967296+L/4294967296)*4294967296+L%4294967296:=by omega
    rw[e1,<-hQ1];have e2:(Y*Q1+V)*4294967296+L%4294967296=Y*Q1*4294967296+(V*4294967296+L%4294967296):=by rw[anV,aoF]
    rw[e2,<-hQ2];grind
   have hfin1:(hi*B64+lo)/y=Q1*4294967296+Q2:=by
    have h1:(hi*B64+lo)*2^s/(y*2^s)=(hi*B64+lo)/y:=Nat.mul_div_mul_right _ _ (anY s);rw[<-h1,<-hYd,hmulTS,anA,aoA (by omega),an5 hW,aoH]
   have hfin2:(hi*B64+lo)%y=W/2^s:=by
    have h1:(hi*B64+lo)*2^s%(y*2^s)=(hi*B64+lo)%y*2^s:=Nat.mul_mod_mul_right _ _ _;rw[<-hYd,hmulTS,anA,aoB,anE hW]at h1;rw[h1,Nat.mul_div_cancel _ (anY s)]
   rw[hfin1,hfin2];have hr (X:Nat):X=X/(Y/4294967296)*(Y/4294967296)+X%(Y/4294967296):=by
    have:=anR X (Y/4294967296);rw[anA]at this;exact this.symm
   have hrl (X:Nat):X%(Y/4294967296)<Y/4294967296:=an0 _ (by omega);have hgl (X:Nat) (hX:X<18446744073709551616):X/(Y/4294967296)<17179869184:=by
    rw[anO (by omega)];have:17179869184*2147483648<=17179869184*(Y/4294967296):=an1 _ hN1;omega
   have hgm (X:Nat) (hX:X<18446744073709551616):IntKind.u64.wrap (((X/(Y/4294967296):Nat):Int)*((Y/4294967296:Nat):Int))=((X/(Y/4294967296)*(Y/4294967296):Nat):Int):=by
    refine fH _ _ ?_;have:=an3 X (Y/4294967296);omega
   refine(aaG hi lo y s w (by omega) hlt (by omega) h0 (by omega) (by omega) Y (Y/4294967296) (Y%4294967296) U L (L/4294967296) (L%4294967296) Q1 V Q2 W
    (U/(Y/4294967296)) (U/(Y/4294967296)*(Y/4294967296)) (U%(Y/4294967296)) (V/(Y/4294967296)) (V/(Y/4294967296)*(Y/4294967296)) (V%(Y/4294967296))
    (U*4294967296%18446744073709551616) (Q1*Y%18446744073709551616) (V*4294967296%18446744073709551616) (Q2*Y%18446744073709551616)
    eY (by omega) (rQ Y (by omega)) hN1 hN1' (by omega) eU eL (by omega) (rQ L hLlt) (by omega) ⟨hYN,by omega⟩ hQ1d ⟨hUY,by omega⟩ hQ2d ⟨hV,by omega⟩
    (anX _ _).symm (hgm U (by omega)) (hr U) (by have:=hrl U;omega) (hgl U (by omega)) (hr U) gU
    (by rw[nK]) (uP _ _ (by omega)) (by rw[<-anL,gY]) (uO U _ Q1 Y V (by rw[<-hQ1,anA]) (by omega)) (by omega)
    (anX _ _).symm (hgm V (by omega)) (hr V) (by have:=hrl V;omega) (hgl V (by omega)) (hr V) gV
    (by rw[nK]) (uP _ _ (by omega)) (by rw[<-anL,gY]) (uO V _ Q2 Y W (by rw[<-hQ2,anA]) (by omega))
    pQ1 pQ2 (by omega) (by omega) _ _ ?_).mono (fun e w' h=>⟨h.1,0,h.2⟩)
   show(_,_)=(_,_);rw[qL (anM _)];simp
theorem qN{a b:Int}(h:a=b):Ending.returned (.int .u64 a)=.returned (.int .u64 b):=by rw[h]
theorem OwnN.drewN {zs:List Nat}(h:OwnN w g zs)(k:Nat):OwnN (w.drewN k) g zs:=h
theorem uF{w1:World}{row:Option Nat}(h:w.grownBy w1 row)(k:Nat):w.grownBy (w1.drewN k) row:=⟨h.os,h.tape,h.output,h.size,h.block⟩
theorem aaI(ys xs:List Nat)(j by_ rest q r:Nat)(hj:j<ys.length)(hl:ys.length=xs.length)(hq:q*by_+r=rest*B64+lx xs j)(ht:ys.take (j+1)=xs.take (j+1))
 (h:val (ys.drop (j+1))*by_+rest=val (xs.drop (j+1))):val ((ys.set j q).drop j)*by_+r=val (xs.drop j)/\(ys.set j q).take j=xs.take j:=by
 constructor
 . have e1:(ys.set j q).drop j=q::ys.drop (j+1):=by
    rw[anU (by rw[aoC];exact hj),List.getElem_set_self,List.drop_set_of_lt (by omega)]
   have e2:xs.drop j=lx xs j::xs.drop (j+1):=by rw[cZ (by omega)];exact anU (by omega)
   rw[e1,e2];simp only[val];rw[<-h];generalize val (ys.drop (j+1))=a at*;generalize lx xs j=x at*;generalize B64=B at*;clear ht h e1 e2;grind
 . rw[List.take_set_of_le (by omega)]
   have:=congrArg (List.take j) ht;rwa[aoD,aoD,an7 (by omega)]at this
theorem acN{by_:Nat}(hn:xs.length=n)(hz:OwnN w g xs)(hl:n<=1099511627776)(hb0:0<by_)(hb1:by_<B64):
 Calls Tryz.prog 93 #[.slice (some ⟨g,0,none⟩) n c,.int .u64 by_] w fun e w'=>
  e=.returned (.int .u64 (val xs%by_:Nat))/\w.grownBy w' (some g)/\∃ys,OwnN w' g ys/\ys.length=n/\val ys=val xs/by_:=by
 subst hn;have hox:=hdd hz.2;have HB1:=hdd hb1;clear hb1;go_enter Tryz.func93,Tryz.ntmps93
 go_wp2_with fail
 go_loopw [5,6] (fun r i wr=>∃(k rest:Nat) (ys:List Nat),k<=xs.length/\i=.int .i64 ((k:Int)-1)/\r=.int .u64 (rest:Nat)/\Hid (rest<by_)/\Hid (OwnN wr g ys)/\Hid (ys.length=xs.length)/\Hid (w.grownBy wr (some g))/\
  Hid (val (ys.drop k)*by_+rest=val (xs.drop k))/\Hid (ys.take k=xs.take k)) (fun _ i _=>(intOf i+1).toNat)
 case atStart=>exact⟨xs.length,0,xs,Nat.le_refl _,rfl,rfl,hdd hb0,hdd hz,hdd rfl,hdd (World.grownBy.refl _ _),hdd (by simp[val]),hdd rfl⟩
 case round=>
  obtain⟨k,rest,ys,hk,rfl,rfl,hr,hO,hL,hG,hV,hT⟩:=hrel;rcases anS k with h0|h0
  . have hk0:(k:Int)-1<0:=by omega
    have H0:=hdd h0;clear h0;go_wp2;go_ret;have e:=hV.out;rw[H0.out]at e;rw[aoE,aoE]at e;have h1:val xs%by_=rest:=by rw[<-e,anA,aoB,anE hr.out]
    have h2:val xs/by_=val ys:=by rw[<-e,anA,aoA hb0,an5 hr.out,aoH]
    exact⟨qN (by rw[h1]),hG.out,ys,hO.out,hL.out,h2.symm⟩
  . obtain⟨j,rfl⟩:∃j,k=j+1:=⟨k-1,by omega⟩
    have hjl:j<ys.length:=by rw[hL.out];omega
    have hyx:lx ys j=lx xs j:=by
     have:=congrArg (fun l=>lx l j) hT.out;simpa[lx,anH,List.getElem?_take]using this
    have hcz:wr.cell? ⟨g,j,none⟩=some (.int .u64 (lx xs j:Nat)):=by rw[<-hyx];exact hO.out.cell hjl
    have hfz:wr.frozen? ⟨g,j,none⟩=false:=hO.out.frozen _;have hxl:=gH hox.out j;obtain⟨q,hq⟩:∃q,q=(rest*B64+lx xs j)/by_:=⟨_,rfl⟩;obtain⟨r,hr'⟩:∃r,r=(rest*B64+lx xs j)%by_:=⟨_,rfl⟩;have hqr:q*by_+r=rest*B64+lx xs j:=by rw[hq,hr',anA];exact anR _ _
    have hqB:q<B64:=by
     rw[hq,anO hb0];have:(rest+1)*B64<=by_*B64:=anI _ hr.out;rw[anA by_,anV]at this;omega
    have hrl:r<by_:=by rw[hr'];exact an0 _ hb0
    have S:=aaI ys xs j by_ rest q r hjl hL.out hqr hT.out hV.out;have HV:=hdd S.1;have HT:=hdd S.2;clear S;have hO':=hO.out.set_ j (x:=((q:Nat):Int)) (anM _) (dH hqB);have HR:=hdd hrl;have hq':=hdd hq;have hr'':=hdd hr';have hlt:=hr.out;clear hqr hrl hq hr' hyx hqB hO';go_wp2_with (go_at_call 139;refine(oU rest (lx xs j) by_ _ HB1.out hlt hxl).mono ?_;rintro e w'⟨rfl,kd,rfl⟩;rw[<-hq'.out,<-hr''.out])
    have hqB:q<B64:=by
     have h:=HB1.out;rw[hq'.out,anO hb0];have:(rest+1)*B64<=by_*B64:=anI _ hlt;rw[anA by_,anV]at this;omega
    go_roundw
    case rel=>exact⟨j,r,ys.set j q,by omega,by go_num,rfl,HR,hdd (by have:=(hO.out.drewN kd).set_ j (x:=((q:Nat):Int)) (anM _) (dH hqB);rwa[Int.toNat_natCast]at this),hdd (by rw[aoC];exact hL.out),hdd (grownBy_set (i:=j) (uF hG.out kd) (.int .u64 q)),HV,HT⟩
    case measure=>simp[intOf]
end Go.Proofs.YtkadpnljocflaaaGreatDoor
