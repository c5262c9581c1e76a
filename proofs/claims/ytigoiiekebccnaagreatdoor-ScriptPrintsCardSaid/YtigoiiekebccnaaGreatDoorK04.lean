/- A part of the proof: contracts of functions and plain laws (NatK, NatM, NatN). -/
import Derived.Test.YtigoiiekebccnaaGreatDoorK03
import Derived.Deep.DeepCutAuto
set_option linter.unusedVariables false
set_option linter.unusedSimpArgs false
set_option linter.unnecessarySimpa false
set_option maxHeartbeats 25600000
set_option maxRecDepth 100000
namespace Go.Proofs.YtigoiiekebccnaaGreatDoor
open Go.RowKit
open Go.RowKit.Below renaming refl->asH
open Int renaming natCast_mul->asM,natCast_nonneg->asN,natCast_ediv->asY,natCast_pow->as0
open List renaming length_replicate->ar9,getD_eq_getElem?_getD->asI,drop_eq_getElem_cons->asV,length_drop->as5,length_set->atE,take_take->atF,drop_zero->atG
open Nat renaming add_sub_cancel_left->asA,mul_comm->asB,pow_le_pow_right->asC,lt_of_lt_of_le->asD,zero_add->asE,mod_eq_of_lt->asF,lt_of_le_of_lt->asG,mul_le_mul_right->asJ,pow_add->asK,pow_zero->asO,div_lt_iff_lt_mul->asP,le_of_not_lt->asQ,mul_one->asR,div_add_mod->asS,eq_zero_or_pos->asT,le_of_lt->asU,add_mul->asW,le_add_right->asX,two_pow_pos->asZ,mod_lt->as1,mul_le_mul_left->as2,two_mul->as3,div_mul_le_self->as4,div_eq_of_lt->as6,pow_pos->as7,min_eq_left->as8,le_add_left->as9,div_le_self->atA,mul_add_div->atC,mul_add_mod->atD,add_assoc->atH,ne_of_gt->atI,add_zero->atJ
open Nat.le renaming dest->asL
variable{xs:List Nat}{L a b c g n:Nat}{p:Nat->Prop}{w:World}
theorem NatP.drop {off:Nat}(h:NatP p w (.slice (some ⟨b,off,none⟩) n c) xs){m:Nat}(hm:m<=n):NatP p w (.slice (some ⟨b,off+m,none⟩) (n-m) (c-m)) (xs.drop m):=by
 obtain⟨A,c',h1,h2,h3,h4,h5⟩:=h;injection h1 with h1 h1n h1c;subst h1n h1c;have hl:(xs.drop m).length=xs.length-m:=as5;refine⟨some ⟨b,off+m,none⟩,c-m,by rw[hl],by omega,⟨by have:=h3.1;omega,by have:=h3.2;omega⟩,h4.drop m,fun hp=> ?_⟩;obtain⟨b',off',e,hp,hb,hc⟩:=h5 (by omega);rw[<-h1]at e;obtain⟨rfl,rfl⟩:b=b'/\off=off':=by have:=Option.some.inj e;exact⟨congrArg Addr.block this,congrArg Addr.off this⟩
 refine⟨_,_,rfl,hp,hb,fun k hk=> ?_⟩;have:=hc (m+k) (by omega);rw[<-atH]at this;rw[this]
 congr 2
 unfold lim;rw[asI,asI,List.getElem?_drop]
theorem NatP.addr {v:Value}(h:NatP p w v xs)(hp:0<xs.length):∃b off c,v=.slice (some ⟨b,off,none⟩) xs.length c/\xs.length<=c/\xs.length<=1099511627776/\c<=9223372036854775807:=by
 obtain⟨A,c',h1,h2,h3,h4,h5⟩:=h;obtain⟨b',off',e,hp,hb,hc⟩:=h5 hp;subst e;exact⟨b',off',c',h1,h2,h3.1,h3.2⟩
theorem kR{la lb:Nat}(ha:a<B64^la)(hb:b<B64^lb):a*b<B64^(la+lb):=by
 rw[asK];rcases asT b with h|h
 . subst h;rw[Nat.mul_zero];exact Nat.mul_pos (as7 bF) (as7 bF)
 . exact Nat.mul_lt_mul_of_lt_of_le ha (asU hb) (as7 bF)
theorem aeI(xs:List Nat)(m:Nat)(hm:m<=xs.length)(hx:OkL xs):val xs=val (xs.take m)+B64^m*val (xs.drop m)/\val (xs.take m)<B64^m/\val (xs.drop m)<B64^(xs.length-m):=by
 refine⟨bA xs m hm,?_,?_⟩
 . have:=bH (xs.take m) (hx.take m)
   rwa[List.length_take,as8 hm]at this
 . have:=bH (xs.drop m) (hx.drop m)
   rwa[as5]at this
def jF(a0 a1 b0 b1:Nat):Nat:=a0*b1+a1*b0
theorem afU(a0 a1 b0 b1:Nat)(h:decide (a0<a1)=decide (b1<b0)):a0*b0+a1*b1+fD a0 a1*fD b1 b0=jF a0 a1 b0 b1:=by
 unfold fD jF;by_cases h1:a0<a1
 . have h2:b1<b0:=by simpa[h1]using h.symm
   rw[if_pos h1,if_pos h2];obtain⟨d,rfl⟩:=asL (asU h1);obtain⟨e,rfl⟩:=asL (asU h2);rw[asA,asA];grind
 . have h2:¬b1<b0:=by simpa[h1]using h.symm
   rw[if_neg h1,if_neg h2];obtain⟨d,rfl⟩:=asL (asQ h1);obtain⟨e,rfl⟩:=asL (asQ h2);rw[asA,asA];grind
theorem afV(a0 a1 b0 b1:Nat)(h:¬decide (a0<a1)=decide (b1<b0)):a0*b0+a1*b1=jF a0 a1 b0 b1+fD a0 a1*fD b1 b0:=by
 unfold fD jF;by_cases h1:a0<a1
 . have h2:¬b1<b0:=by simpa[h1]using h
   rw[if_pos h1,if_neg h2];obtain⟨d,rfl⟩:=asL (asU h1);obtain⟨e,rfl⟩:=asL (asQ h2);rw[asA,asA];grind
 . have h2:b1<b0:=by simpa[h1]using h
   rw[if_neg h1,if_pos h2];obtain⟨d,rfl⟩:=asL (asQ h1);obtain⟨e,rfl⟩:=asL (asU h2);rw[asA,asA];grind
theorem adB(a0 a1 b0 b1 P:Nat):a0*b0+a1*b1*(P*P)+jF a0 a1 b0 b1*P=(a0+P*a1)*(b0+P*b1):=by unfold jF;grind
theorem aiD{d:Nat}(h1:a<B64^c)(h2:b<B64^d)(hc:c<=L)(hd:d<=L):a+b<B64^(L+1):=by
 have e1:B64^c<=B64^L:=asC bF hc;have e2:B64^d<=B64^L:=asC bF hd;have e3:B64^L*2<=B64^L*B64:=as2 _ (by unfold B64;omega);rw[Nat.pow_succ];omega
theorem uL(ha:a<L)(hb:b<L):fD a b<L:=by unfold fD;split<;>omega
theorem aaV(N:Nat)(ih:∀(cut:Nat) (p q:Nat->Prop) (va vb:Value) (xs ys:List Nat) (w:World),2<=cut->cut<=1099511627776->NatP p w va xs->NatP q w vb ys->xs.length+ys.length<N->
 Calls Tryz.prog 375 #[.int .i64 cut,va,vb] w (RetN w.heap.size w (val xs*val ys)))
 (cut:Nat) (p q:Nat->Prop) (va vb:Value) (xs ys:List Nat) (w:World) (hc2:2<=cut) (hcM:cut<=1099511627776) (hx:NatP p w va xs) (hy:NatP q w vb ys) (hN:xs.length+ys.length<=N) (hNM:N<=549755813888):
 Calls Tryz.prog 375 #[.int .i64 cut,va,vb] w (RetN w.heap.size w (val xs*val ys)):=by
 have IH:=hdd ih;clear ih;go_enter Tryz.func375,Tryz.ntmps375
 go_wp2_with fail
 refine(aI hx).mono ?_;rintro e w1⟨rfl,v1,xs1,rfl,hv1,ht1,hval1,hl1⟩;go_wp2_with fail
 refine(aI hy).mono ?_;rintro e w1⟨rfl,v2,ys1,rfl,hv2,ht2,hval2,hl2⟩;have HV1:=hdd hval1;have HV2:=hdd hval2;have HT1:=hdd ht1;have HT2:=hdd ht2;have H1:=hdd (hv1.any.weak (q:=fun b=>b≠w.heap.size) fun b _ h=>by omega);have H2:=hdd (hv2.any.weak (q:=fun b=>b≠w.heap.size) fun b _ h=>by omega);clear hval1 hval2 hx hy ht1 ht2 hv1 hv2;by_cases hlt:xs1.length<ys1.length;obtain⟨zs1,e⟩:∃z,z=xs1:=⟨_,rfl⟩;subst e;obtain⟨xs1,e⟩:∃z,z=ys1:=⟨_,rfl⟩;subst e;obtain⟨ys1,e⟩:∃z,z=zs1:=⟨_,rfl⟩;subst e;have H3:=H1;clear H1;have H1:=H2;clear H2;have H2:=H3;clear H3
 all_goals
  obtain⟨A1,c1,e1,a1,⟨a1',a1''⟩,-,-⟩:=H1.out;obtain⟨A2,c2,e2,a2,⟨a2',a2''⟩,-,-⟩:=H2.out;subst e1 e2;by_cases hcut:ys1.length<cut
  . go_wp2_with fail
    refine(ac9 H1.out H2.out (by omega)).mono ?_;rintro e w2⟨hb,v,zs,rfl,hz,htz,hvz⟩;have HF:=hdd (RetN.of (n:=val xs*val ys) hb hz htz (by first|(rw[hvz,HV1.out,HV2.out];done)|rw[hvz,HV2.out,HV1.out,asB]));clear hb hz htz hvz;go_wp2;go_ret;exact HF.out
  . obtain⟨b1,o1,c1,e1,-,-,-⟩:=H1.out.addr (by omega)
    injection e1 with e1 _ e1c;subst e1 e1c;obtain⟨b2,o2,c2,e2,-,-,-⟩:=H2.out.addr (by omega);injection e2 with e2 _ e2c;subst e2 e2c;have OX:=hdd H1.out.ok;have OY:=hdd H2.out.ok;have hm1:(xs1.length+1)/2<=xs1.length:=by omega
    have k0:0<=((xs1.length:Int)+1)/2:=by omega
    have k1:((xs1.length:Int)+1)/2<=(c1:Int):=by omega
    have k3:((xs1.length:Int)+1)/2<=(xs1.length:Int):=by omega
    have k5:(((xs1.length:Int)+1)/2).toNat=(xs1.length+1)/2:=by omega
    have k6:¬c1=(xs1.length+1)/2:=by omega
    obtain⟨m,em⟩:∃m,m=(xs1.length+1)/2:=⟨_,rfl⟩;have hmX:m<=xs1.length:=by omega
    have CX:=hdd (aeI xs1 m hmX OX.out);have EM:=hdd em;clear em;by_cases hm:ys1.length<=(xs1.length+1)/2
    . go_wp2_with (at_make;refine bV _ rfl (.tmp 43) (.tmp 43) rfl .i64 .i64 _ (xs1.length+ys1.length) rfl rfl (by omega) (by omega) w.heap.size w (asH _ _) nlr ?_;intro w1 HZ hb1 hb hs1)
      have HB:=hdd hb1;clear hb1;replace H1:=hdd (NatP.below H1.out hb);replace H2:=hdd (NatP.below H2.out hb);clear hb;have F1:Hid (val (xs1.take m)*val ys1<B64^(xs1.length+ys1.length)):=hdd (asD (kR CX.out.2.1 (bH ys1 OY.out)) (asC bF (by omega)));have F2:Hid (val (xs1.drop m)*val ys1<B64^(xs1.length-m+ys1.length)):=hdd (kR CX.out.2.2 (bH ys1 OY.out));have F3:Hid (val xs1*val ys1<B64^(xs1.length+ys1.length)):=hdd (kR (bH xs1 OX.out) (bH ys1 OY.out));have F4:Hid (val xs1*val ys1=val (xs1.take m)*val ys1+val (xs1.drop m)*val ys1*B64^m):=by refine hdd ?_;rw[CX.out.1];grind
      rw[EM.out]at F1 F2 F4;refine(IH.out cut _ _ _ _ _ _ _ hc2 hcM (H1.out.take hm1) H2.out (by simp;omega)).mono ?_;rintro e w2⟨hb,vl,zl,rfl,hzl,htl,hvl⟩;have LO:=hdd (hzl.weak (q:=fun b=>b≠w.heap.size) fun b h _=>by omega);have VL:=hdd hvl;have TL:=hdd htl;clear hvl htl hzl;replace H1:=hdd (NatP.below H1.out hb);replace H2:=hdd (NatP.below H2.out hb);replace HZ:=hdd (OwnN.below HZ.out hb);replace HB:=hdd (HB.out.trans (hb.mono HB.out.size));clear hb;go_wp2_with fail
      refine(eG (at_:=0) (by simp) HZ.out LO.out (fun b h=>h) (by rw[ar9,asE];exact bC zl TL.out _ (by rw[VL.out];exact F1.out)) (by simp;omega) (by rw[aR,ar9,VL.out,asO,asR,asE];exact F1.out)).mono ?_;rintro e w3⟨rfl,hg,z3,hO3,hl3,hv3⟩;replace H1:=hdd (NatP.grown H1.out hg (fun b hb e=>hb (by injection e)));replace H2:=hdd (NatP.grown H2.out hg (fun b hb e=>hb (by injection e)));replace HB:=hdd (HB.out.trans (Below.of_grown hg HB.out.size nlr));have HZ3:=hdd hO3;have HL3:=hdd hl3;have HV3:=hdd hv3;clear hO3 hl3 hv3 hg HZ;rw[ar9]at HL3;rw[aR,VL.out,asO,asR,asE]at HV3;go_wp2_with fail
      refine(IH.out cut _ _ _ _ _ _ _ hc2 hcM (H1.out.drop hm1) H2.out (by simp;omega)).mono ?_;rintro e w4⟨hb,vh,zh,rfl,hzh,hth,hvh⟩;have HI:=hdd (hzh.weak (q:=fun b=>b≠w.heap.size) fun b h _=>by have:=HZ3.out.lt;omega);have VH:=hdd hvh;have TH:=hdd hth;clear hvh hth hzh;replace HZ3:=hdd (OwnN.below HZ3.out hb);replace HB:=hdd (HB.out.trans (hb.mono HB.out.size));clear hb;go_wp2_with fail
      refine(eG (at_:=(xs1.length+1)/2) HL3.out HZ3.out HI.out (fun b h=>h) ?_ (by rw[HL3.out];omega) ?_).mono ?_
      . rw[HL3.out];have:=bC zh TH.out _ (by rw[VH.out];exact F2.out);omega
      . rw[HV3.out,VH.out,HL3.out,<-F4.out];exact F3.out
      rintro e w5⟨rfl,hg,z5,hO5,hl5,hv5⟩;replace HB:=hdd (HB.out.trans (Below.of_grown hg HB.out.size nlr));have HZ5:=hdd hO5;have HL5:=hdd hl5;have HV5:=hdd hv5;clear hO5 hl5 hv5 hg HZ3;rw[HL3.out]at HL5;rw[HV3.out,VH.out,<-F4.out]at HV5;go_wp2_with fail
      refine(aI (HZ5.out.natP (p:=fun b=>w.heap.size<=b) HL5.out nlr (by omega) nlr)).mono ?_;rintro e w6⟨rfl,v,ys',rfl,hv4,ht4,hval,-⟩;have HF:=hdd (RetN.of (n:=val xs*val ys) HB.out hv4 ht4 (by first|(rw[hval,HV5.out,HV1.out,HV2.out];done)|rw[hval,HV5.out,HV2.out,HV1.out,asB]));clear hv4 ht4 hval;go_wp2;go_ret;exact HF.out
    . have hm2:(xs1.length+1)/2<=ys1.length:=by omega
      have k2:((xs1.length:Int)+1)/2<=(c2:Int):=by omega
      have k4:((xs1.length:Int)+1)/2<=(ys1.length:Int):=by omega
      have k7:¬c2=(xs1.length+1)/2:=by omega
      have hmY:m<=ys1.length:=by have:=EM.out;omega
      have CY:=hdd (aeI ys1 m hmY OY.out);have ha1L:val (xs1.drop m)<B64^m:=asD CX.out.2.2 (asC bF (by have:=EM.out;omega));have hb1L:val (ys1.drop m)<B64^m:=asD CY.out.2.2 (asC bF (by have:=EM.out;omega));have AX:=hdd (uL CX.out.2.1 ha1L);have AY:=hdd (uL hb1L CY.out.2.1);have F1:=hdd (kR CX.out.2.1 CY.out.2.1);have F2:=hdd (kR CX.out.2.2 CY.out.2.2);have F3:Hid (val xs1*val ys1<B64^(xs1.length+ys1.length)):=hdd (kR (bH xs1 OX.out) (bH ys1 OY.out));have F4:Hid (val (xs1.take m)*val (ys1.take m)+val (xs1.drop m)*val (ys1.drop m)*(B64^m*B64^m)+jF (val (xs1.take m)) (val (xs1.drop m)) (val (ys1.take m)) (val (ys1.drop m))*B64^m=val xs1*val ys1):=by
       refine hdd ?_;rw[adB,<-CX.out.1,<-CY.out.1]
      clear ha1L hb1L;rw[EM.out]at AX AY F1 F2 F4;go_wp2_with (at_make;refine bV _ rfl (.tmp 43) (.tmp 43) rfl .i64 .i64 _ (xs1.length+ys1.length) rfl rfl (by omega) (by omega) w.heap.size w (asH _ _) nlr ?_;intro w1 HZ hb1 hb hs1)
      have HB:=hdd hb1;clear hb1;replace H1:=hdd (NatP.below H1.out hb);replace H2:=hdd (NatP.below H2.out hb);clear hb
      go_still_tail 7,(by kernel_rfl)
      change wpList _ _ _ _ _ w1.drew;have hb:Below w1.heap.size w1 w1.drew:=(asH _ _).drew;generalize w1.drew=w1d at hb|-;replace H1:=hdd (NatP.below H1.out hb);replace H2:=hdd (NatP.below H2.out hb);replace HZ:=hdd (OwnN.below HZ.out hb);replace HB:=hdd (HB.out.trans (hb.mono HB.out.size));clear hb hs1;go_wp2_with fail
      refine(IH.out cut _ _ _ _ _ _ _ hc2 hcM (H1.out.take hm1) (H2.out.take hm2) (by simp;omega)).mono ?_;rintro e w2⟨hb,vl,zl,rfl,hzl,htl,hvl⟩;have LO:=hdd (hzl.weak (q:=fun b=>b≠w.heap.size) fun b h _=>by have:=HZ.out.lt;omega);have VL:=hdd hvl;have TL:=hdd htl;clear hvl htl hzl;replace H1:=hdd (NatP.below H1.out hb);replace H2:=hdd (NatP.below H2.out hb);replace HZ:=hdd (OwnN.below HZ.out hb);replace HB:=hdd (HB.out.trans (hb.mono HB.out.size));clear hb;go_wp2_with fail
      go_still_tail 7,(by kernel_rfl)
      change wpList _ _ _ _ _ w2.drew;have hb:Below w2.heap.size w2 w2.drew:=(asH _ _).drew;generalize w2.drew=w2d at hb|-;replace H1:=hdd (NatP.below H1.out hb);replace H2:=hdd (NatP.below H2.out hb);replace HZ:=hdd (OwnN.below HZ.out hb);replace LO:=hdd (NatP.below LO.out hb);replace HB:=hdd (HB.out.trans (hb.mono HB.out.size));clear hb;go_wp2_with fail
      refine(IH.out cut _ _ _ _ _ _ _ hc2 hcM (H1.out.drop hm1) (H2.out.drop hm2) (by simp;omega)).mono ?_;rintro e w3⟨hb,vh,zh,rfl,hzh,hth,hvh⟩;have HI:=hdd (hzh.weak (q:=fun b=>b≠w.heap.size) fun b h _=>by have:=HZ.out.lt;omega);have VH:=hdd hvh;have TH:=hdd hth;clear hvh hth hzh;replace H1:=hdd (NatP.below H1.out hb);replace H2:=hdd (NatP.below H2.out hb);replace HZ:=hdd (OwnN.below HZ.out hb);replace LO:=hdd (NatP.below LO.out hb);replace HB:=hdd (HB.out.trans (hb.mono HB.out.size));clear hb;go_wp2_with fail
      go_region_with ((go_at_call 382;refine(aeH (NatP.below (H1.out.take hm1) (asH _ _).drew) (NatP.below (H1.out.drop hm1) (asH _ _).drew)).mono ?_;rintro e w4⟨hb,vx,zx,rfl,hzz,htz,hvz⟩))
      have XD:=hdd (hzz.weak (q:=fun b=>b≠w.heap.size) fun b h _=>atI (asD HZ.out.lt h));have TX:=hdd htz;have VXD:=hdd hvz;clear hzz htz hvz;replace hb:Below w3.heap.size w3 w4:=(asH _ _).drew.trans hb;replace H1:=hdd (NatP.below H1.out hb);replace H2:=hdd (NatP.below H2.out hb);replace LO:=hdd (NatP.below LO.out hb);replace HI:=hdd (NatP.below HI.out hb);replace HZ:=hdd (OwnN.below HZ.out hb);replace HB:=hdd (HB.out.trans (hb.mono HB.out.size));clear hb;generalize hxb:decide (val (xs1.take ((xs1.length+1)/2))<val (xs1.drop ((xs1.length+1)/2)))=xb;have XB:=hdd hxb;clear hxb;go_wp2_with fail
      go_region_with ((go_at_call 382;refine(aeH (NatP.below (H2.out.drop hm2) (asH _ _).drew) (NatP.below (H2.out.take hm2) (asH _ _).drew)).mono ?_;rintro e w5⟨hb,vy,zy,rfl,hzz,htz,hvz⟩))
      have YD:=hdd (hzz.weak (q:=fun b=>b≠w.heap.size) fun b h _=>atI (asD HZ.out.lt h));have TY:=hdd htz;have VYD:=hdd hvz;clear hzz htz hvz;replace hb:Below w4.heap.size w4 w5:=(asH _ _).drew.trans hb;replace LO:=hdd (NatP.below LO.out hb);replace HI:=hdd (NatP.below HI.out hb);replace XD:=hdd (NatP.below XD.out hb);replace HZ:=hdd (OwnN.below HZ.out hb);replace HB:=hdd (HB.out.trans (hb.mono HB.out.size));clear hb;generalize hyb:decide (val (ys1.drop ((xs1.length+1)/2))<val (ys1.take ((xs1.length+1)/2)))=yb;have YB:=hdd hyb;clear hyb;have LX:=hdd (bC zx TX.out _ (by rw[VXD.out];exact AX.out));have LY:=hdd (bC zy TY.out _ (by rw[VYD.out];exact AY.out));go_wp2_with fail
      refine(IH.out cut _ _ _ _ _ _ _ hc2 hcM XD.out YD.out (by have:=LX.out;have:=LY.out;omega)).mono ?_;rintro e w6⟨hb,vm,zm,rfl,hzm,htm,hvm⟩;have MI:=hdd (hzm.weak (q:=fun b=>b≠w.heap.size) fun b h _=>by have:=HZ.out.lt;omega);have VM:=hdd hvm;have TM:=hdd htm;clear hvm htm hzm;replace HZ:=hdd (OwnN.below HZ.out hb);replace LO:=hdd (NatP.below LO.out hb);replace HI:=hdd (NatP.below HI.out hb);replace HB:=hdd (HB.out.trans (hb.mono HB.out.size));clear hb;rw[VXD.out,VYD.out]at VM;have LL:=hdd (bC zl TL.out _ (by rw[VL.out];exact F1.out));have LH:=hdd (bC zh TH.out _ (by rw[VH.out];exact F2.out));have em:=EM.out;have ll:=LL.out;have lh:=LH.out;go_wp2_with fail
      refine(jP LO.out HI.out (by omega) (by omega)).mono ?_;rintro e w7⟨hb,vc,zc,rfl,hzc,htc,hvc⟩;have CR:=hdd (hzc.weak (q:=fun b=>b≠w.heap.size) fun b h _=>by have:=HZ.out.lt;omega);have VC:=hdd hvc;have TC:=hdd htc;clear hvc htc hzc;replace HZ:=hdd (OwnN.below HZ.out hb);replace LO:=hdd (NatP.below LO.out hb);replace HI:=hdd (NatP.below HI.out hb);replace MI:=hdd (NatP.below MI.out hb);replace HB:=hdd (HB.out.trans (hb.mono HB.out.size));clear hb;rw[VL.out,VH.out]at VC;have hcross:∀(ee:Ending) (ww:World),RetN w7.heap.size w7 (jF (val (xs1.take ((xs1.length+1)/2))) (val (xs1.drop ((xs1.length+1)/2))) (val (ys1.take ((xs1.length+1)/2))) (val (ys1.drop ((xs1.length+1)/2)))) ee ww->
       ∃vk zk,ee=.returned vk/\NatP (fun b=>b≠w.heap.size) ww vk zk/\Tr zk/\val zk=jF (val (xs1.take ((xs1.length+1)/2))) (val (xs1.drop ((xs1.length+1)/2))) (val (ys1.take ((xs1.length+1)/2))) (val (ys1.drop ((xs1.length+1)/2)))/\Below w7.heap.size w7 ww:=by
       rintro ee ww⟨hb,vk,zk,rfl,hzk,htk,hvk⟩;exact⟨vk,zk,rfl,hzk.weak (fun b h _=>by have:=HZ.out.lt;omega),htk,hvk,hb⟩
      have HCR:=hdd hcross;clear hcross;have F5:Hid (jF (val (xs1.take ((xs1.length+1)/2))) (val (xs1.drop ((xs1.length+1)/2))) (val (ys1.take ((xs1.length+1)/2))) (val (ys1.drop ((xs1.length+1)/2)))<B64^(xs1.length+ys1.length-m)):=by
       refine hdd ?_;have h1:=F3.out;rw[<-F4.out]at h1;have h2:xs1.length+ys1.length=(xs1.length+ys1.length-m)+m:=by omega
       rw[h2,asK,em]at h1;have h3:jF (val (xs1.take ((xs1.length+1)/2))) (val (xs1.drop ((xs1.length+1)/2))) (val (ys1.take ((xs1.length+1)/2))) (val (ys1.drop ((xs1.length+1)/2)))*B64^((xs1.length+1)/2)<B64^(xs1.length+ys1.length-(xs1.length+1)/2)*B64^((xs1.length+1)/2):=by omega
       rw[em];exact Nat.lt_of_mul_lt_mul_right h3
      clear em ll lh;by_cases hxy:xb=yb
      . have hbe:(xb==yb)=true:=beq_iff_eq.2 hxy
        have VK:=hdd (afU (val (xs1.take ((xs1.length+1)/2))) (val (xs1.drop ((xs1.length+1)/2))) (val (ys1.take ((xs1.length+1)/2))) (val (ys1.drop ((xs1.length+1)/2))) (by rw[XB.out,YB.out];exact hxy));clear hxy;go_wp2_with fail
        have lc:=bC zc TC.out (xs1.length+ys1.length+1) (by rw[VC.out];exact aiD F1.out F2.out (by have:=EM.out;omega) (by have:=EM.out;omega));have lm:=bC zm TM.out _ (by rw[VM.out];exact kR AX.out AY.out);have em:=EM.out;refine(jP CR.out MI.out (by omega) (by omega)).mono ?_;rw[VC.out,VM.out,VK.out];intro e w8 hr;obtain⟨vk,zk,rfl,hzk,htk,hvk,hb⟩:=HCR.out _ _ hr;clear hr lc lm em;have KR:=hdd hzk;have VKK:=hdd hvk;have TK:=hdd htk;clear hvk htk hzk;replace HZ:=hdd (OwnN.below HZ.out hb);replace LO:=hdd (NatP.below LO.out hb);replace HI:=hdd (NatP.below HI.out hb);replace HB:=hdd (HB.out.trans (hb.mono HB.out.size));clear hb;have F6:Hid (val zl<B64^(xs1.length+ys1.length)):=hdd (by rw[VL.out];exact asD F1.out (asC bF (by have:=EM.out;omega)));go_wp2_with fail
        refine(eG (at_:=0) (by simp) HZ.out LO.out (fun b h=>h) (by rw[ar9,asE];exact bC zl TL.out _ F6.out) (by simp;omega) (by rw[aR,ar9,asO,asR,asE];exact F6.out)).mono ?_;rintro e w9⟨rfl,hg,z3,hO3,hl3,hv3⟩;replace HI:=hdd (NatP.grown HI.out hg (fun b hb e=>hb (by injection e)));replace KR:=hdd (NatP.grown KR.out hg (fun b hb e=>hb (by injection e)));replace HB:=hdd (HB.out.trans (Below.of_grown hg HB.out.size nlr));have HZ3:=hdd hO3;have HL3:=hdd hl3;have HV3:=hdd hv3;clear hO3 hl3 hv3 hg HZ;rw[ar9]at HL3;rw[aR,VL.out,asO,asR,asE]at HV3;go_wp2_with fail
        refine(eG (at_:=2*((xs1.length+1)/2)) HL3.out HZ3.out HI.out (fun b h=>h) ?_ (by rw[HL3.out];omega) ?_).mono ?_
        . rw[HL3.out];have:=LH.out;have:=EM.out;omega
        . rw[HV3.out,VH.out,HL3.out,as3,asK];have:=F3.out;rw[<-F4.out]at this;exact asG (asX _ _) this
        rintro e w10⟨rfl,hg,z5,hO5,hl5,hv5⟩;replace KR:=hdd (NatP.grown KR.out hg (fun b hb e=>hb (by injection e)));replace HB:=hdd (HB.out.trans (Below.of_grown hg HB.out.size nlr));have HZ5:=hdd hO5;have HL5:=hdd hl5;have HV5:=hdd hv5;clear hO5 hl5 hv5 hg HZ3;rw[HL3.out]at HL5;rw[HV3.out,VH.out,as3,asK]at HV5;go_wp2_with fail
        refine(eG (at_:=(xs1.length+1)/2) HL5.out HZ5.out KR.out (fun b h=>h) ?_ (by rw[HL5.out];omega) ?_).mono ?_
        . rw[HL5.out];have:=bC zk TK.out _ (by rw[VKK.out];exact F5.out);have:=EM.out;omega
        . rw[HV5.out,VKK.out,HL5.out,F4.out];exact F3.out
        rintro e w11⟨rfl,hg,z7,hO7,hl7,hv7⟩;replace HB:=hdd (HB.out.trans (Below.of_grown hg HB.out.size nlr));have HZ7:=hdd hO7;have HL7:=hdd hl7;have HV7:=hdd hv7;clear hO7 hl7 hv7 hg HZ5;rw[HL5.out]at HL7;rw[HV5.out,VKK.out,F4.out]at HV7;go_wp2_with fail
        refine(aI (HZ7.out.natP (p:=fun b=>w.heap.size<=b) HL7.out nlr (by omega) nlr)).mono ?_;rintro e w12⟨rfl,v,ys',rfl,hv4,ht4,hval,-⟩;have HF:=hdd (RetN.of (n:=val xs*val ys) HB.out hv4 ht4 (by first|(rw[hval,HV7.out,HV1.out,HV2.out];done)|rw[hval,HV7.out,HV2.out,HV1.out,asB]));clear hv4 ht4 hval;go_wp2;go_ret;exact HF.out
      . have hbe:(xb==yb)=false:=beq_eq_false_iff_ne.2 hxy
        have VK:=hdd (afV (val (xs1.take ((xs1.length+1)/2))) (val (xs1.drop ((xs1.length+1)/2))) (val (ys1.take ((xs1.length+1)/2))) (val (ys1.drop ((xs1.length+1)/2))) (by rw[XB.out,YB.out];exact hxy));clear hxy;go_wp2_with fail
        refine(oQ CR.out MI.out (dK _ _ TM.out CR.out.ok (by rw[VC.out,VM.out,VK.out];exact as9 _ _)) (by rw[VC.out,VM.out,VK.out];exact as9 _ _)).mono ?_;rw[VC.out,VM.out,VK.out,Nat.add_sub_cancel];intro e w8 hr;obtain⟨vk,zk,rfl,hzk,htk,hvk,hb⟩:=HCR.out _ _ hr;clear hr;have KR:=hdd hzk;have VKK:=hdd hvk;have TK:=hdd htk;clear hvk htk hzk;replace HZ:=hdd (OwnN.below HZ.out hb);replace LO:=hdd (NatP.below LO.out hb);replace HI:=hdd (NatP.below HI.out hb);replace HB:=hdd (HB.out.trans (hb.mono HB.out.size));clear hb;have F6:Hid (val zl<B64^(xs1.length+ys1.length)):=hdd (by rw[VL.out];exact asD F1.out (asC bF (by have:=EM.out;omega)));go_wp2_with fail
        refine(eG (at_:=0) (by simp) HZ.out LO.out (fun b h=>h) (by rw[ar9,asE];exact bC zl TL.out _ F6.out) (by simp;omega) (by rw[aR,ar9,asO,asR,asE];exact F6.out)).mono ?_;rintro e w9⟨rfl,hg,z3,hO3,hl3,hv3⟩;replace HI:=hdd (NatP.grown HI.out hg (fun b hb e=>hb (by injection e)));replace KR:=hdd (NatP.grown KR.out hg (fun b hb e=>hb (by injection e)));replace HB:=hdd (HB.out.trans (Below.of_grown hg HB.out.size nlr));have HZ3:=hdd hO3;have HL3:=hdd hl3;have HV3:=hdd hv3;clear hO3 hl3 hv3 hg HZ;rw[ar9]at HL3;rw[aR,VL.out,asO,asR,asE]at HV3;go_wp2_with fail
        refine(eG (at_:=2*((xs1.length+1)/2)) HL3.out HZ3.out HI.out (fun b h=>h) ?_ (by rw[HL3.out];omega) ?_).mono ?_
        . rw[HL3.out];have:=LH.out;have:=EM.out;omega
        . rw[HV3.out,VH.out,HL3.out,as3,asK];have:=F3.out;rw[<-F4.out]at this;exact asG (asX _ _) this
        rintro e w10⟨rfl,hg,z5,hO5,hl5,hv5⟩;replace KR:=hdd (NatP.grown KR.out hg (fun b hb e=>hb (by injection e)));replace HB:=hdd (HB.out.trans (Below.of_grown hg HB.out.size nlr));have HZ5:=hdd hO5;have HL5:=hdd hl5;have HV5:=hdd hv5;clear hO5 hl5 hv5 hg HZ3;rw[HL3.out]at HL5;rw[HV3.out,VH.out,as3,asK]at HV5;go_wp2_with fail
        refine(eG (at_:=(xs1.length+1)/2) HL5.out HZ5.out KR.out (fun b h=>h) ?_ (by rw[HL5.out];omega) ?_).mono ?_
        . rw[HL5.out];have:=bC zk TK.out _ (by rw[VKK.out];exact F5.out);have:=EM.out;omega
        . rw[HV5.out,VKK.out,HL5.out,F4.out];exact F3.out
        rintro e w11⟨rfl,hg,z7,hO7,hl7,hv7⟩;replace HB:=hdd (HB.out.trans (Below.of_grown hg HB.out.size nlr));have HZ7:=hdd hO7;have HL7:=hdd hl7;have HV7:=hdd hv7;clear hO7 hl7 hv7 hg HZ5;rw[HL5.out]at HL7;rw[HV5.out,VKK.out,F4.out]at HV7;go_wp2_with fail
        refine(aI (HZ7.out.natP (p:=fun b=>w.heap.size<=b) HL7.out nlr (by omega) nlr)).mono ?_;rintro e w12⟨rfl,v,ys',rfl,hv4,ht4,hval,-⟩;have HF:=hdd (RetN.of (n:=val xs*val ys) HB.out hv4 ht4 (by first|(rw[hval,HV7.out,HV1.out,HV2.out];done)|rw[hval,HV7.out,HV2.out,HV1.out,asB]));clear hv4 ht4 hval;go_wp2;go_ret;exact HF.out
theorem al1(N:Nat)(hNM:N<=549755813888):∀(cut:Nat) (p q:Nat->Prop) (va vb:Value) (xs ys:List Nat) (w:World),2<=cut->cut<=1099511627776->NatP p w va xs->NatP q w vb ys->xs.length+ys.length<=N->
 Calls Tryz.prog 375 #[.int .i64 cut,va,vb] w (RetN w.heap.size w (val xs*val ys)):=by
 induction N with
 |zero=>
  intro cut p q va vb xs ys w h1 h2 hx hy hl;exact aaV 0 (fun _ _ _ _ _ _ _ _ _ _ _ _ h=>absurd h (by omega)) cut p q va vb xs ys w h1 h2 hx hy hl hNM
 |succ N ih=>
  intro cut p q va vb xs ys w h1 h2 hx hy hl;exact aaV (N+1) (fun cut p q va vb xs ys w h1 h2 hx hy h=>ih (by omega) cut p q va vb xs ys w h1 h2 hx hy (by omega)) cut p q va vb xs ys w h1 h2 hx hy hl hNM
theorem aeJ{q:Nat->Prop}{cut:Nat}{va vb:Value}{ys:List Nat}(hc2:2<=cut)(hcM:cut<=1099511627776)(hx:NatP p w va xs)(hy:NatP q w vb ys)(hl:xs.length+ys.length<=549755813888):
 Calls Tryz.prog 375 #[.int .i64 cut,va,vb] w (RetN w.heap.size w (val xs*val ys)):=
 al1 549755813888 nlr cut p q va vb xs ys w hc2 hcM hx hy hl
theorem uM(x:Nat)(hx:x<18446744073709551616):Go.bits BinOp.and IntKind.u64 (x:Int) 4294967295=((x%4294967296:Nat):Int):=by
 have h:=bits_and_u64_nat x 4294967295 hx (by omega);have e:x &&& 4294967295=x%4294967296:=by
  have:=Nat.and_two_pow_sub_one_eq_mod x 32;exact this
 rw[e]at h;exact h
theorem aaW(QT U L Y N1 N0:Nat)(hY:Y=N1*4294967296+N0)(hN:0<N1)(hL:L<4294967296)(hT:QT=(U*4294967296+L)/Y):QT<=U/N1:=by
 rw[Nat.le_div_iff_mul_le hN];have h1:QT*Y<=U*4294967296+L:=by rw[hT];exact as4 _ _
 have h2:QT*N1*4294967296<=QT*Y:=by rw[hY,Nat.mul_add,<-Nat.mul_assoc];omega
 generalize QT*N1=a at*;omega
theorem xI(U L1 Q1 Y V:Nat)(hV:U*4294967296+L1=Q1*Y+V)(hVl:V<18446744073709551616):
 IntKind.u64.wrap (((U*4294967296%18446744073709551616:Nat):Int)+L1-((Q1*Y%18446744073709551616:Nat):Int))=(V:Int):=by
 rw[IntKind.wrap_u64];generalize Q1*Y=q at*;omega
theorem iH(x:Nat):IntKind.u64.wrap (x:Int)=((x%18446744073709551616:Nat):Int):=by rw[IntKind.wrap_u64];omega
theorem oV(U:Nat):IntKind.u64.wrap ((U:Int)*4294967296)=((U*4294967296%18446744073709551616:Nat):Int):=by rw[IntKind.wrap_u64];omega
theorem xJ(U L1:Nat)(h:L1<4294967296):U*4294967296%18446744073709551616+L1<18446744073709551616:=by omega
theorem xK(hi lo y:Nat)(w:World)(hy:y<B64)(hlt:hi<y)(hlo:lo<B64):
 Calls Tryz.prog 273 #[.int .u64 hi,.int .u64 lo,.int .u64 y] w fun e w'=>e=.returned (.tuple #[.int .u64 ((hi*B64+lo)/y:Nat),.int .u64 ((hi*B64+lo)%y:Nat)])/\∃k,w'=w.drewN k:=by
 have hB:B64=18446744073709551616:=rfl;have hy0:y≠0:=by omega
 rcases asT hi with h0|h0
 . subst h0
   rw[Nat.zero_mul,asE];have b0:((y:Int)==0)=false:=beq_eq_false_iff_ne.2 (by omega);have hyi:(1:Int)<=(y:Int):=by omega
   have e1:((lo/y:Nat):Int)=(lo:Int)/y:=asY ..;have e2:((lo%y:Nat):Int)=(lo:Int)%y:=Int.natCast_emod ..;have q1:IntKind.u64.wrap ((lo:Int)/y)=(lo/y:Nat):=by
    rw[<-e1,iH,asF (asG (atA _ _) (by omega))]
   obtain⟨A,hA⟩:∃A,A=lo/y:=⟨_,rfl⟩;obtain⟨C,hC⟩:∃C,C=lo%y:=⟨_,rfl⟩;rw[<-hA]at q1|-;rw[<-hC]at e2|-;clear hA hC e1 hB;have e3:(lo:Int)%(y:Int)=(C:Int):=e2.symm;clear e2;rw[show((0:Nat):Int)=0 from rfl];go_enter Tryz.func273,Tryz.ntmps273
   go_wp2
   go_quiet (fail)
   go_wp2
   go_ret2
   exact⟨fK (by rw[e3]),_,rfl⟩
 . have hbl:Lib.bitLen y=bits y:=kP y (by omega)
   have hb1:1<=bits y:=by unfold bits;rw[if_neg hy0];omega
   have hb2:bits y<=64:=by rw[aF];omega
   obtain⟨s,hs⟩:∃s,s=64-bits y:=⟨_,rfl⟩;have hYlt:y*2^s<18446744073709551616:=by
    have h1:=bN y;have h2:y*2^s<2^bits y*2^s:=Nat.mul_lt_mul_of_pos_right h1 (asZ s);rw[<-asK,show bits y+s=64 by omega]at h2;omega
   have hYge:9223372036854775808<=y*2^s:=by
    have h1:=dZ y hy0;have h2:2^(bits y-1)*2^s<=y*2^s:=asJ _ h1;rw[<-asK,show bits y-1+s=63 by omega]at h2;omega
   have hUlow:lo/2^(64-s)<2^s:=uD lo s hlo (by omega);have hhis:hi*2^s+2^s<=y*2^s:=by
    have:(hi+1)*2^s<=y*2^s:=asJ _ hlt;rw[asW]at this;omega
   obtain⟨Y,hYd⟩:∃Y,Y=y*2^s:=⟨_,rfl⟩;obtain⟨U,hUd⟩:∃U,U=hi*2^s+lo/2^(64-s):=⟨_,rfl⟩;obtain⟨L,hLd⟩:∃L,L=(lo*2^s)%B64:=⟨_,rfl⟩;have hUY:U<Y:=by rw[hUd,hYd];omega
   have hLlt:L<18446744073709551616:=by rw[hLd];exact as1 _ bF
   have hsplit:=rP lo s (by omega);have hTS:(hi*B64+lo)*2^s=U*B64+L:=by
    rw[hUd,hLd,asW,hsplit];grind
   have eY:IntKind.u64.wrap ((y:Int)*2^s)=(Y:Int):=by
    have:((y:Int)*2^s)=((y*2^s:Nat):Int):=by rw[asM,as0];rfl
    rw[this,iH,asF hYlt,hYd]
   have eL:IntKind.u64.wrap ((lo:Int)*2^s)=(L:Int):=by
    have:((lo:Int)*2^s)=((lo*2^s:Nat):Int):=by rw[asM,as0];rfl
    rw[this,iH,hLd];rfl
   have eU:Go.bits BinOp.or IntKind.u64 (IntKind.u64.wrap ((hi:Int)*2^s)) ((lo:Int)/2^(64-s))=(U:Int):=by
    have h1:((hi:Int)*2^s)=((hi*2^s:Nat):Int):=by rw[asM,as0];rfl
    have h2:((lo:Int)/2^(64-s))=((lo/2^(64-s):Nat):Int):=by rw[sS (asN _)];simp
    have h3:hi*2^s<18446744073709551616:=asG (Nat.le_trans (asX _ _) hhis) hYlt;have h4:lo/2^(64-s)<18446744073709551616:=asG (atA _ _) hlo;rw[h1,iH,asF h3,h2,bits_or_u64_nat _ _ h3 h4,Nat.or_comm];have h5:=ac3 (lo/2^(64-s)) hi s hUlow (by omega);rw[asF h3]at h5;rw[h5,hUd,Nat.add_comm]
   clear hUlow hhis hsplit;have hQ1:=asS (U*4294967296+L/4294967296) Y;have hV:=as1 (U*4294967296+L/4294967296) (show Y>0 by omega);obtain⟨Q1,hQ1d⟩:∃Q1,Q1=(U*4294967296+L/4294967296)/Y:=⟨_,rfl⟩;obtain⟨V,hVd⟩:∃V,V=(U*4294967296+L/4294967296)%Y:=⟨_,rfl⟩;rw[<-hQ1d,<-hVd]at hQ1;rw[<-hVd]at hV;have hQ2:=asS (V*4294967296+L%4294967296) Y;have hW:=as1 (V*4294967296+L%4294967296) (show Y>0 by omega);obtain⟨Q2,hQ2d⟩:∃Q2,Q2=(V*4294967296+L%4294967296)/Y:=⟨_,rfl⟩;obtain⟨W,hWd⟩:∃W,W=(V*4294967296+L%4294967296)%Y:=⟨_,rfl⟩;rw[<-hQ2d,<-hWd]at hQ2;rw[<-hWd]at hW;have hYN:Y=Y/4294967296*4294967296+Y%4294967296:=by omega
   have hN1:2147483648<=Y/4294967296:=by omega
   have hN1':Y/4294967296<4294967296:=by omega
   have pQ1:=uK Q1 U (L/4294967296) Y (by omega) hQ1d hUY;have pQ2:=uK Q2 V (L%4294967296) Y (by omega) hQ2d hV;have gU:=aaW Q1 U (L/4294967296) Y _ _ hYN (by omega) (by omega) hQ1d;have gV:=aaW Q2 V (L%4294967296) Y _ _ hYN (by omega) (by omega) hQ2d;have hmulTS:(hi*B64+lo)*2^s=(Q1*4294967296+Q2)*Y+W:=by
    rw[hTS,hB];clear hTS;have e0:L=L/4294967296*4294967296+L%4294967296:=by omega
    have e1:U*18446744073709551616+L=(U*4294967296+L/4294967296)*4294967296+L%4294967296:=by omega
    rw[e1,<-hQ1];have e2:(Y*Q1+V)*4294967296+L%4294967296=Y*Q1*4294967296+(V*4294967296+L%4294967296):=by rw[asW,atH]
    rw[e2,<-hQ2];grind
   have hfin1:(hi*B64+lo)/y=Q1*4294967296+Q2:=by
    have h1:(hi*B64+lo)*2^s/(y*2^s)=(hi*B64+lo)/y:=Nat.mul_div_mul_right _ _ (asZ s);rw[<-h1,<-hYd,hmulTS,asB,atC (by omega),as6 hW,atJ]
   have hfin2:(hi*B64+lo)%y=W/2^s:=by
    have h1:(hi*B64+lo)*2^s%(y*2^s)=(hi*B64+lo)%y*2^s:=Nat.mul_mod_mul_right _ _ _;rw[<-hYd,hmulTS,asB,atD,asF hW]at h1;rw[h1,Nat.mul_div_cancel _ (asZ s)]
   rw[hfin1,hfin2];have hr (X:Nat):X=X/(Y/4294967296)*(Y/4294967296)+X%(Y/4294967296):=by
    have:=asS X (Y/4294967296);rw[asB]at this;exact this.symm
   have hrl (X:Nat):X%(Y/4294967296)<Y/4294967296:=as1 _ (by omega);have hgl (X:Nat) (hX:X<18446744073709551616):X/(Y/4294967296)<17179869184:=by
    rw[asP (by omega)];have:17179869184*2147483648<=17179869184*(Y/4294967296):=as2 _ hN1;omega
   have hgm (X:Nat) (hX:X<18446744073709551616):IntKind.u64.wrap (((X/(Y/4294967296):Nat):Int)*((Y/4294967296:Nat):Int))=((X/(Y/4294967296)*(Y/4294967296):Nat):Int):=by
    refine fM _ _ ?_;have:=as4 X (Y/4294967296);omega
   refine(adA hi lo y s w (by omega) hlt (by omega) h0 (by omega) (by omega) Y (Y/4294967296) (Y%4294967296) U L (L/4294967296) (L%4294967296) Q1 V Q2 W
    (U/(Y/4294967296)) (U/(Y/4294967296)*(Y/4294967296)) (U%(Y/4294967296)) (V/(Y/4294967296)) (V/(Y/4294967296)*(Y/4294967296)) (V%(Y/4294967296))
    (U*4294967296%18446744073709551616) (Q1*Y%18446744073709551616) (V*4294967296%18446744073709551616) (Q2*Y%18446744073709551616)
    eY (by omega) (uM Y (by omega)) hN1 hN1' (by omega) eU eL (by omega) (uM L hLlt) (by omega) ⟨hYN,by omega⟩ hQ1d ⟨hUY,by omega⟩ hQ2d ⟨hV,by omega⟩
    (asY _ _).symm (hgm U (by omega)) (hr U) (by have:=hrl U;omega) (hgl U (by omega)) (hr U) gU
    (by rw[oV]) (xJ _ _ (by omega)) (by rw[<-asM,iH]) (xI U _ Q1 Y V (by rw[<-hQ1,asB]) (by omega)) (by omega)
    (asY _ _).symm (hgm V (by omega)) (hr V) (by have:=hrl V;omega) (hgl V (by omega)) (hr V) gV
    (by rw[oV]) (xJ _ _ (by omega)) (by rw[<-asM,iH]) (xI V _ Q2 Y W (by rw[<-hQ2,asB]) (by omega))
    pQ1 pQ2 (by omega) (by omega) _ _ ?_).mono (fun e w' h=>⟨h.1,0,h.2⟩)
   show(_,_)=(_,_);rw[sS (asN _)];simp
theorem sW{a b:Int}(h:a=b):Ending.returned (.int .u64 a)=.returned (.int .u64 b):=by rw[h]
theorem OwnN.drewN {zs:List Nat}(h:OwnN w g zs)(k:Nat):OwnN (w.drewN k) g zs:=h
theorem wY{w1:World}{row:Option Nat}(h:w.grownBy w1 row)(k:Nat):w.grownBy (w1.drewN k) row:=⟨h.os,h.tape,h.output,h.size,h.block⟩
theorem adC(ys xs:List Nat)(j by_ rest q r:Nat)(hj:j<ys.length)(hl:ys.length=xs.length)(hq:q*by_+r=rest*B64+lx xs j)(ht:ys.take (j+1)=xs.take (j+1))
 (h:val (ys.drop (j+1))*by_+rest=val (xs.drop (j+1))):val ((ys.set j q).drop j)*by_+r=val (xs.drop j)/\(ys.set j q).take j=xs.take j:=by
 constructor
 . have e1:(ys.set j q).drop j=q::ys.drop (j+1):=by
    rw[asV (by rw[atE];exact hj),List.getElem_set_self,List.drop_set_of_lt (by omega)]
   have e2:xs.drop j=lx xs j::xs.drop (j+1):=by rw[dA (by omega)];exact asV (by omega)
   rw[e1,e2];simp only[val];rw[<-h];generalize val (ys.drop (j+1))=a at*;generalize lx xs j=x at*;generalize B64=B at*;clear ht h e1 e2;grind
 . rw[List.take_set_of_le (by omega)]
   have:=congrArg (List.take j) ht;rwa[atF,atF,as8 (by omega)]at this
theorem afW{by_:Nat}(hn:xs.length=n)(hz:OwnN w g xs)(hl:n<=1099511627776)(hb0:0<by_)(hb1:by_<B64):
 Calls Tryz.prog 218 #[.slice (some ⟨g,0,none⟩) n c,.int .u64 by_] w fun e w'=>
  e=.returned (.int .u64 (val xs%by_:Nat))/\w.grownBy w' (some g)/\∃ys,OwnN w' g ys/\ys.length=n/\val ys=val xs/by_:=by
 subst hn;have hox:=hdd hz.2;have HB1:=hdd hb1;clear hb1;go_enter Tryz.func218,Tryz.ntmps218
 go_wp2_with fail
 go_loopw [5,6] (fun r i wr=>∃(k rest:Nat) (ys:List Nat),k<=xs.length/\i=.int .i64 ((k:Int)-1)/\r=.int .u64 (rest:Nat)/\Hid (rest<by_)/\Hid (OwnN wr g ys)/\Hid (ys.length=xs.length)/\Hid (w.grownBy wr (some g))/\
  Hid (val (ys.drop k)*by_+rest=val (xs.drop k))/\Hid (ys.take k=xs.take k)) (fun _ i _=>(intOf i+1).toNat)
 case atStart=>exact⟨xs.length,0,xs,Nat.le_refl _,rfl,rfl,hdd hb0,hdd hz,hdd rfl,hdd (World.grownBy.refl _ _),hdd (by simp[val]),hdd rfl⟩
 case round=>
  obtain⟨k,rest,ys,hk,rfl,rfl,hr,hO,hL,hG,hV,hT⟩:=hrel;rcases asT k with h0|h0
  . have hk0:(k:Int)-1<0:=by omega
    have H0:=hdd h0;clear h0;go_wp2;go_ret;have e:=hV.out;rw[H0.out]at e;rw[atG,atG]at e;have h1:val xs%by_=rest:=by rw[<-e,asB,atD,asF hr.out]
    have h2:val xs/by_=val ys:=by rw[<-e,asB,atC hb0,as6 hr.out,atJ]
    exact⟨sW (by rw[h1]),hG.out,ys,hO.out,hL.out,h2.symm⟩
  . obtain⟨j,rfl⟩:∃j,k=j+1:=⟨k-1,by omega⟩
    have hjl:j<ys.length:=by rw[hL.out];omega
    have hyx:lx ys j=lx xs j:=by
     have:=congrArg (fun l=>lx l j) hT.out;simpa[lx,asI,List.getElem?_take]using this
    have hcz:wr.cell? ⟨g,j,none⟩=some (.int .u64 (lx xs j:Nat)):=by rw[<-hyx];exact hO.out.cell hjl
    have hfz:wr.frozen? ⟨g,j,none⟩=false:=hO.out.frozen _;have hxl:=gM hox.out j;obtain⟨q,hq⟩:∃q,q=(rest*B64+lx xs j)/by_:=⟨_,rfl⟩;obtain⟨r,hr'⟩:∃r,r=(rest*B64+lx xs j)%by_:=⟨_,rfl⟩;have hqr:q*by_+r=rest*B64+lx xs j:=by rw[hq,hr',asB];exact asS _ _
    have hqB:q<B64:=by
     rw[hq,asP hb0];have:(rest+1)*B64<=by_*B64:=asJ _ hr.out;rw[asB by_,asW]at this;omega
    have hrl:r<by_:=by rw[hr'];exact as1 _ hb0
    have S:=adC ys xs j by_ rest q r hjl hL.out hqr hT.out hV.out;have HV:=hdd S.1;have HT:=hdd S.2;clear S;have hO':=hO.out.set_ j (x:=((q:Nat):Int)) (asN _) (dI hqB);have HR:=hdd hrl;have hq':=hdd hq;have hr'':=hdd hr';have hlt:=hr.out;clear hqr hrl hq hr' hyx hqB hO';go_wp2_with (go_at_call 273;refine(xK rest (lx xs j) by_ _ HB1.out hlt hxl).mono ?_;rintro e w'⟨rfl,kd,rfl⟩;rw[<-hq'.out,<-hr''.out])
    have hqB:q<B64:=by
     have h:=HB1.out;rw[hq'.out,asP hb0];have:(rest+1)*B64<=by_*B64:=asJ _ hlt;rw[asB by_,asW]at this;omega
    go_roundw
    case rel=>exact⟨j,r,ys.set j q,by omega,by go_num,rfl,HR,hdd (by have:=(hO.out.drewN kd).set_ j (x:=((q:Nat):Int)) (asN _) (dI hqB);rwa[Int.toNat_natCast]at this),hdd (by rw[atE];exact hL.out),hdd (grownBy_set (i:=j) (wY hG.out kd) (.int .u64 q)),HV,HT⟩
    case measure=>simp[intOf]
end Go.Proofs.YtigoiiekebccnaaGreatDoor
