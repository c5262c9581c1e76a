/- A part of the proof: contracts of functions and plain laws (NatR, NatS, NatT, NatU). -/
import Derived.Test.YtigoiiekebccnaaGreatDoorK05
set_option linter.unusedVariables false
set_option linter.unusedSimpArgs false
set_option linter.unnecessarySimpa false
set_option maxHeartbeats 25600000
set_option maxRecDepth 100000
namespace Go.Proofs.YtigoiiekebccnaaGreatDoor
open Go.RowKit
open Go.IntWalk renaming i64_in->auN
open Go.RowKit.Below renaming refl->auV,heap_setCell->au1
open Int renaming toNat_natCast->auU
open List renaming eq_nil_of_length_eq_zero->auO,replicate->auZ,length_set->au5
open Nat renaming eq_zero_or_pos->auL,ne_of_lt->auM,pow_le_pow_right->auP,mul_le_mul_left->auQ,mul_lt_mul_of_pos_right->auR,lt_of_le_of_lt->auS,le_trans->auT,mod_eq_of_lt->auW,two_pow_pos->auX,mul_le_mul_right->auY,pos_of_ne_zero->au0,add_zero->au2,le_of_not_lt->au3,mul_pos->au4,pow_add->au6,le_refl->au7,pow_pos->au8
variable{xs ys:List Nat}{b c g n:Nat}{p q:Nat->Prop}{va vb:Value}{w:World}
theorem NatP.cell {off:Nat}(h:NatP p w (.slice (some ⟨b,off,none⟩) n c) xs){k:Nat}(hk:k<n):w.cell? ⟨b,off+k,none⟩=some (.int .u64 (lx xs k:Nat)):=by
 obtain⟨A,c',h1,h2,h3,h4,h5⟩:=h;injection h1 with h1 h1n h1c;subst h1n h1c;obtain⟨b',off',e,hp,hb,hc⟩:=h5 (by omega);rw[<-h1]at e;obtain⟨rfl,rfl⟩:b=b'/\off=off':=by have:=Option.some.inj e;exact⟨congrArg Addr.block this,congrArg Addr.off this⟩
 exact hc k hk
theorem NatP.blk {off:Nat}(h:NatP p w (.slice (some ⟨b,off,none⟩) n c) xs)(hn:0<n):p b:=by
 obtain⟨A,c',h1,h2,h3,h4,h5⟩:=h;injection h1 with h1 h1n h1c;subst h1n h1c;obtain⟨b',off',e,hp,hb,hc⟩:=h5 hn;rw[<-h1]at e;obtain⟨rfl,rfl⟩:b=b'/\off=off':=by have:=Option.some.inj e;exact⟨congrArg Addr.block this,congrArg Addr.off this⟩
 exact hp
def anT(B:Nat)(w0:World)(m n:Nat)(e:Ending)(w':World):Prop:=
 Below B w0 w'/\∃v1 v2 xs ys,e=.returned (.tuple #[v1,v2])/\NatP (fun b=>B<=b) w' v1 xs/\Tr xs/\val xs=m/\NatP (fun b=>B<=b) w' v2 ys/\Tr ys/\val ys=n
theorem aiI(hx:NatP p w va xs)(hy:NatP q w vb ys)(tx:Tr xs)(ty:Tr ys)(hn:2<=ys.length)(hle:val ys<=val xs)(hL:xs.length<1073741824):
 Calls Tryz.prog 373 #[va,vb] w (anT w.heap.size w (val xs/val ys) (val xs%val ys)):=by
 have hlxy:=dK ys xs ty hx.ok hle;have HX:=hdd hx;have HY:=hdd hy;have OX:=hdd hx.ok;have OY:=hdd hy.ok;have TX:=hdd tx;have TY:=hdd ty;have HLE:=hdd hle;clear tx ty hle;obtain⟨A,c,rfl,h2,h3,-,-⟩:=hx;obtain⟨h3,h3b⟩:=h3;obtain⟨A',c',rfl,h2',h3',-,h5'⟩:=hy;obtain⟨h3',h3b'⟩:=h3';obtain⟨b,off,rfl,-,hblt,hcell⟩:=h5' (by omega);have hcy:w.cell? ⟨b,off+(ys.length-1),none⟩=some (.int .u64 (lx ys (ys.length-1):Nat)):=hcell _ (by omega);clear hcell h5';have htl:=gM OY.out (ys.length-1);obtain⟨tl,htl'⟩:∃tl,tl=lx ys (ys.length-1):=⟨_,rfl⟩;have hne:ys≠[]:=by rintro rfl;simp at hn
 have htl0:tl≠0:=by
  have:=TY.out hne;rwa[List.getLast_eq_getElem,<-dA,<-htl']at this
 obtain⟨s,hs⟩:∃s,s=64-bits tl:=⟨_,rfl⟩;have hb1:1<=bits tl:=by unfold bits;rw[if_neg htl0];omega
 have hb2:bits tl<=64:=by rw[aF];rw[<-htl']at htl;exact htl
 rw[<-htl']at hcy htl;have es:(64:Int)-(Lib.bitLen tl:Int)=(s:Int):=by rw[kP tl htl];omega
 have ES:=hdd es;have HS:=hdd (show bits (lx ys (ys.length-1))+s=64 by rw[<-htl'];omega);have hs63:s<=63:=by omega
 have htlI:(tl:Int)<=18446744073709551615:=by have:=dI htl;omega
 clear es hs htl hb1 hb2 htl' htl0 hne;go_enter Tryz.func373,Tryz.ntmps373
 go_wp2_with (go_at_call 314;refine(Tryz.bits_LeadingZeros64 (tl:Int) _ (by omega) htlI).mono ?_;rintro e w'⟨rfl,hw⟩;obtain rfl:=hw.symm;rw[auU,ES.out])
 clear hcy htlI;refine(oP HY.out (by omega)).mono ?_;rintro e w1⟨hb,vv,vs,rfl,hv,tv,hvv⟩;obtain⟨hvl,hvt⟩:=aiF ys vs s OY.out TY.out hv.ok tv hn HS.out hvv;have HV:=hdd (hv.weak (q:=fun b=>w.heap.size<=b/\b<w1.heap.size) fun b h h2=>⟨h,h2⟩);have OV:=hdd hv.ok;have VV:=hdd hvv;have HVT:=hdd hvt;have HVL:=hdd hvl;have HB:=hdd hb;replace HX:=hdd (NatP.below HX.out hb);obtain⟨bv,ov,cv,e1,-,-,-⟩:=HV.out.addr (by omega);subst e1;rw[hvl]at HV|-;clear hv tv hvv hvt hvl hb hblt;have hs1:=hdd HB.out.size;go_wp2_with (at_make;refine bV _ rfl (.tmp 28) (.tmp 28) rfl .i64 .i64 _ (xs.length+1) rfl rfl (by omega) (by omega) w1.heap.size w1 (auV _ _) nlr ?_;intro w2 HU hb2 hb hsz)
 clear hb2;obtain⟨gu,hgu⟩:∃gu,gu=w1.heap.size:=⟨_,rfl⟩;rw[<-hgu]at HU HV hb hsz|-;have hgw:w.heap.size<=gu:=by have:=hs1.out;omega
 replace HX:=hdd (NatP.below HX.out (by rw[<-hgu];exact hb));replace HB:=hdd (HB.out.trans (hb.mono hgw));replace HV:=hdd (NatP.below HV.out (by rw[<-hgu];exact hb));clear hb hgu hs1;refine(oP HX.out (by omega)).mono ?_;rintro e w3⟨hb,vl,ls,rfl,hl,tl',hvl⟩;have HLS:=hdd hl;have VLS:=hdd hvl;have hlsl:ls.length<=xs.length+1:=bC ls tl' _ (by
  rw[hvl,Nat.pow_succ];have h1:=bH xs OX.out;have h2:2^s<=B64:=by rw[dY];exact auP (by omega) (by omega)
  have h3:val xs*2^s<=val xs*B64:=auQ _ h2;have h4:val xs*B64<B64^xs.length*B64:=auR h1 bF;omega)
 replace HU:=hdd (OwnN.below HU.out hb);replace HB:=hdd (HB.out.trans (hb.mono HB.out.size));replace HV:=hdd (NatP.below HV.out hb);clear hl tl' hvl hb hsz HX;go_wp2_with (first
  |(with_reducible refine gB (w:=w3) rfl (.tmp 30) (.tmp 33) rfl gu _ _ _ _ ls rfl rfl HU.out (by simp) HLS.out (by rw[List.length_replicate];exact hlsl) gu w3 (auV _ _) nlr ?_;intro w4 HU4 hb4)
  |(at_make;refine bV _ rfl (.tmp 39) (.tmp 39) rfl .i64 .i64 _ (xs.length-ys.length+1) rfl rfl (by omega) (by omega) w4.heap.size w4 (auV _ _) nlr ?_;intro w5 HQ5 hb5' hb5 hsz5)
  |fail)
 clear hb5' HLS;have hgu3:=HU.out.lt;have hgu4:gu<w4.heap.size:=HU4.out.lt;replace HV:=hdd ((HV.out.keep hb4.size (fun b hp _=>hb4.block b hp.2)).below hb5);replace HU4:=hdd (OwnN.below HU4.out hb5);replace HB:=hdd ((HB.out.trans (hb4.mono hgw)).trans (hb5.mono (by omega)));obtain⟨gq,hgq⟩:∃gq,gq=w4.heap.size:=⟨_,rfl⟩;rw[<-hgq]at HQ5 hgu4|-;clear hgq hb4 hb5 hsz5 hgu3 HU
 -- the dividend, shifted
 have hlu:(ls++(auZ (xs.length+1) 0).drop ls.length).length=xs.length+1:=by simp;omega
 have hvu:val (ls++(auZ (xs.length+1) 0).drop ls.length)=val xs*2^s:=by rw[jE,fJ,VLS.out]
 obtain⟨us0,hus0⟩:∃us0,us0=ls++(auZ (xs.length+1) 0).drop ls.length:=⟨_,rfl⟩;rw[<-hus0]at hlu hvu HU4;have hV0:0<val vs:=by rw[VV.out];exact au4 (au0 (fun h=>by have:=(dF ys TY.out).1 h;rw[this]at hn;simp at hn)) (auX s)
 have hA:val us0<val vs*B64^(xs.length-ys.length+1):=by
  have h1:=uO vs (ys.length-1) (by rw[HVL.out];omega);have h2:=HVT.out;have h3:B64^(ys.length-1)*9223372036854775808<=val vs:=by
   have:B64^(ys.length-1)*9223372036854775808<=B64^(ys.length-1)*lx vs (ys.length-1):=auQ _ h2;omega
  have h4:=bH xs OX.out;have h5:2^s<=2^63:=auP (by omega) hs63;have h6:val xs*2^s<B64^xs.length*9223372036854775808:=auS (auQ _ h5) (auR h4 (by omega));have h7:B64^(ys.length-1)*9223372036854775808*B64^(xs.length-ys.length+1)<=val vs*B64^(xs.length-ys.length+1):=auY _ h3;have h8:B64^(ys.length-1)*9223372036854775808*B64^(xs.length-ys.length+1)=B64^xs.length*9223372036854775808:=by
   have:xs.length=(ys.length-1)+(xs.length-ys.length+1):=by omega
   rw[show B64^xs.length=B64^((ys.length-1)+(xs.length-ys.length+1)) from congrArg (B64^ ·) this,au6 B64 (ys.length-1) (xs.length-ys.length+1)];generalize B64^(ys.length-1)=P;generalize B64^(xs.length-ys.length+1)=Q;rw[Nat.mul_right_comm]
  rw[hvu];omega
 have HA:=hdd hA;have HVU:=hdd hvu;have HLU:=hdd hlu;have HV0:=hdd hV0;clear hA hvu hlu hus0 hlsl hV0;go_wp2_with fail
 go_loopw [11] (fun i wr=>∃(k:Nat) (us qs:List Nat),k<=xs.length-ys.length+1/\i=.int .i64 ((k:Int)-1)/\Hid (OwnN wr gu us)/\Hid (OwnN wr gq qs)/\Hid (us.length=xs.length+1)/\Hid (qs.length=xs.length-ys.length+1)/\
  Hid (NatP (fun b=>w.heap.size<=b/\b<gu) wr (.slice (some ⟨bv,ov,none⟩) ys.length cv) vs)/\Hid (Below w.heap.size w wr)/\
  Hid (val qs*val vs+val us=val xs*2^s)/\Hid (val us<val vs*B64^k)/\Hid (∀j,j<k->lx qs j=0)) (fun i _=>(intOf i+1).toNat)
 case atStart=>exact⟨xs.length-ys.length+1,us0,_,au7 _,by go_num,HU4,HQ5,HLU,hdd (by simp),HV,HB,hdd (by rw[aR,HVU.out];simp),HA,hdd (fun j hj=>by rw[dA (by simp;omega)];simp)⟩
 case round=>
  clear HU4 HQ5 HB HV HA HVU HLU;obtain⟨k,us,qs,hk,rfl,HU,HQ,HLU,HLQ,HV,HB,HE,HLT,HZ⟩:=hrel;rcases auL k with h0|h0
  . have hk0:(k:Int)-1<0:=by omega
    have H0:=hdd h0;clear h0;have hfin:=aiH (val qs) (val us) (val xs) (val ys) (2^s) (auX s) (by rw[<-VV.out];exact HE.out) (by have:=HLT.out;rw[H0.out,Nat.pow_zero,Nat.mul_one,VV.out]at this;exact this);have HF:=hdd hfin;clear hfin;go_wp2_with fail
    refine(aI (HQ.out.natP (p:=fun b=>w.heap.size<=b) HLQ.out nlr (by omega) (by omega))).mono ?_;rintro e w9⟨rfl,v1,q',rfl,hq,tq,hvq,-⟩;have Q1:=hdd hq;have Q2:=hdd tq;have Q3:=hdd hvq;clear hq tq hvq;go_wp2_with fail
    refine(aI (HU.out.natP (p:=fun b=>w.heap.size<=b) HLU.out nlr (by omega) hgw)).mono ?_;rintro e w9⟨rfl,v2,u',rfl,hu,tu,hvu,-⟩;have U1:=hdd hu;have U3:=hdd hvu;clear hu tu hvu;go_wp2_with fail
    refine(mZ U1.out (by omega)).mono ?_;rintro e w10⟨hb,v3,r',rfl,hr,tr,hvr⟩;have HFF:Hid (anT w.heap.size w (val xs/val ys) (val xs%val ys) (.returned (.tuple #[v1,v3])) w10):=by
     refine hdd ⟨HB.out.trans (hb.mono HB.out.size),v1,v3,q',r',rfl,Q1.out.below hb,Q2.out,by rw[Q3.out,HF.out.1],hr.weak (fun b h _=>auT HB.out.size h),tr,by rw[hvr,U3.out,HF.out.2]⟩
    clear hb hr tr hvr;go_wp2
    go_ret2
    exact HFF.out
  . obtain⟨j,rfl⟩:∃j,k=j+1:=⟨k-1,by omega⟩
    have hB:∀i,i<xs.length+1->wr.cell? ⟨gu,i,none⟩=some (.int .u64 (lx us i:Nat)):=fun i hi=>HU.out.cell (by rw[HLU.out];exact hi);have c1:=hB (j+ys.length) (by omega);have c2:=hB (j+ys.length-1) (by omega);have c3:=hB (j+ys.length-2) (by omega);clear hB;have c4:=HV.out.cell (k:=ys.length-1) (by omega);have c5:=HV.out.cell (k:=ys.length-2) (by omega);have OU:=hdd HU.out.2;have hjn:j+ys.length<us.length:=by rw[HLU.out];omega
    have t0:=aiG us vs j ys.length HVL.out hn hjn OU.out OV.out HLT.out;have t1:=gM OU.out (j+ys.length-1);have t2:=gM OU.out (j+ys.length-2);have t3:=gM OV.out (ys.length-1);have t4:0<lx vs (ys.length-1):=by have:=HVT.out;omega
    have t5:=gM OV.out (ys.length-2);have T0:=hdd t0;have T1:=hdd t1;have T2:=hdd t2;have T3:=hdd t3;have T4:=hdd t4;have T5:=hdd t5;clear t0 t1 t2 t3 t4 t5;have HQT:Hid (val us/(val vs*B64^j)<B64):=hdd (q_lt _ _ _ HV0.out HLT.out);have HQD:Hid ((val us/(val vs*B64^j))*(lx vs (ys.length-1)*B64+lx vs (ys.length-2))<=lx us (j+ys.length)*B64*B64+lx us (j+ys.length-1)*B64+lx us (j+ys.length-2)):=
     hdd (adE us vs j ys.length _ HVL.out hn hjn OU.out OV.out HLT.out (Nat.div_mul_le_self _ _))
    have HJN:=hdd hjn;clear hjn;have ej:((j+1:Nat):Int)-1=(j:Int):=by omega
    rw[ej];clear ej;go_wp2_with fail
    have s1:IntKind.i64.wrap ((j:Int)+(ys.length:Int))=(j:Int)+(ys.length:Int):=auN _ (by omega);have s2:IntKind.i64.wrap ((j:Int)+(ys.length:Int)-1)=(j:Int)+(ys.length:Int)-1:=auN _ (by omega);have s3:IntKind.i64.wrap ((j:Int)+(ys.length:Int)-2)=(j:Int)+(ys.length:Int)-2:=auN _ (by omega);have s4:IntKind.i64.wrap ((ys.length:Int)-1)=(ys.length:Int)-1:=auN _ (by omega);have s5:IntKind.i64.wrap ((ys.length:Int)-2)=(ys.length:Int)-2:=auN _ (by omega);have i1:((j:Int)+(ys.length:Int)).toNat=j+ys.length:=by omega
    have i2:((j:Int)+(ys.length:Int)-1).toNat=j+ys.length-1:=by omega
    have i3:((j:Int)+(ys.length:Int)-2).toNat=j+ys.length-2:=by omega
    have i4:((ys.length:Int)-1).toNat=ys.length-1:=by omega
    have i5:((ys.length:Int)-2).toNat=ys.length-2:=by omega
    have l1:0<=(j:Int)+(ys.length:Int):=by omega
    have l2:0<=(j:Int)+(ys.length:Int)-1:=by omega
    have l3:0<=(j:Int)+(ys.length:Int)-2:=by omega
    have l4:0<=(ys.length:Int)-1:=by omega
    have l5:0<=(ys.length:Int)-2:=by omega
    have l6:1<=(j:Int)+(ys.length:Int):=by omega
    have l7:2<=(j:Int)+(ys.length:Int):=by omega
    have l8:1<=(ys.length:Int):=by omega
    have l9:2<=(ys.length:Int):=by omega
    have la:1<=ys.length:=by omega
    have u1:(j:Int)+(ys.length:Int)<(xs.length:Int)+1:=by omega
    have u2:(j:Int)+(ys.length:Int)-1<(xs.length:Int)+1:=by omega
    have u3:(j:Int)+(ys.length:Int)-2<(xs.length:Int)+1:=by omega
    have u4:(ys.length:Int)-1<(ys.length:Int):=by omega
    have u5:(ys.length:Int)-2<(ys.length:Int):=by omega
    go_still_tail 30,(by kernel_rfl)
    change wpList _ _ _ _ _ wr.drew;clear s1 s2 s3 s4 s5 i1 i2 i3 i4 i5 l1 l2 l3 l4 l5 l6 l7 l8 l9 la u1 u2 u3 u4 u5;go_wp2_with fail
    refine(yU _ _ _ _ _ _ T0.out T1.out T2.out T3.out T4.out T5.out).mono ?_;rintro e w6⟨d,rfl,hd,hdq,kd,rfl⟩;have HD:=hdd hd;have HDQ:=hdd (hdq _ HQT.out HQD.out);clear hd hdq c1 c2 c3 c4 c5;go_wp2_with fail
    have hjl:j+vs.length<us.length:=by have:=HVL.out;have:=HJN.out;omega
    refine(aiE (zs:=us) (xs:=vs) (by rw[HVL.out];omega) (HU.out.drewN _) (HV.out.below (below_drewN wr _)) (fun b h=>auM h.2) hjl (by rw[HLU.out];omega) HD.out).mono ?_;rintro e w7⟨bo,rfl,hbo,hg,us1,hO1,hl1,hv1,hdr1⟩;have HU1:=hdd hO1;have HL1:=hdd (hl1.trans HLU.out);have HV1:=hdd hv1;replace HV:=hdd ((HV.out.below (below_drewN wr (1+kd))).grown hg (fun b h e=>auM h.2 (by injection e)));have HQ1:=hdd ((HQ.out.drewN (1+kd)).keep (hg.block gq HQ.out.lt (fun e=>auM hgu4 (by injection e with e;exact e.symm))));replace HB:=hdd ((HB.out.trans ((below_drewN wr (1+kd)).mono HB.out.size)).trans (Below.of_grown hg HB.out.size hgw));have hen:j+(j+ys.length+1-j)=j+ys.length+1:=by omega
    rw[hen]at HV1 hdr1;have HDR:=hdd hdr1;clear hdr1;clear hO1 hl1 hv1 hg HU HQ hjl hen;go_wp2_with fail
    go_loopw [12,13] (fun dd bb wx=>∃(d bo:Nat) (us1:List Nat),dd=.int .u64 (d:Nat)/\bb=.int .u64 (bo:Nat)/\bo<=1/\Hid (d<B64)/\Hid (val us/(val vs*B64^j)<=d)/\Hid (OwnN wx gu us1)/\Hid (OwnN wx gq qs)/\Hid (us1.length=xs.length+1)/\
     Hid (NatP (fun b=>w.heap.size<=b/\b<gu) wx (.slice (some ⟨bv,ov,none⟩) ys.length cv) vs)/\Hid (Below w.heap.size w wx)/\
     Hid (val us1+d*val vs*B64^j=val us+bo*B64^(j+ys.length+1))/\Hid (us1.drop (j+ys.length+1)=us.drop (j+ys.length+1))) (fun dd _ _=>(intOf dd).toNat)
    case atStart=>exact⟨d,bo,us1,rfl,rfl,hbo,HD,HDQ,HU1,HQ1,HL1,HV,HB,HV1,HDR⟩
    case round=>
     clear HD HDQ HU1 HQ1 HL1 HV HB HV1 HDR hbo;obtain⟨d,bo,us1,rfl,rfl,hbo,HD,HDQ,HU1,HQ1,HL1,HV,HB,HV1,HDR⟩:=hrel;rcases auL bo with h0|h0
     . have hbi:(((bo:Nat):Int) != 0)=false:=by rw[h0];rfl
       have hvJ:0<val vs*B64^j:=au4 HV0.out (au8 bF);have hex:=afZ (val us) (val us1) (val vs) (B64^j) d hvJ HDQ.out (by have:=HV1.out;rw[h0]at this;omega);have hjq:j<qs.length:=by rw[HLQ.out];omega
       have hcq:wr.cell? ⟨gq,j,none⟩=some (.int .u64 (lx qs j:Nat)):=HQ1.out.cell hjq;have hfq:wr.frozen? ⟨gq,j,none⟩=false:=HQ1.out.frozen _;have hO':=HQ1.out.set_ j (x:=((d:Nat):Int)) (Int.natCast_nonneg _) (dI HD.out);rw[auU]at hO';have HQ2:=hdd hO';have HU2:Hid (OwnN (wr.setCell ⟨gq,j,none⟩ (.int .u64 (d:Nat))) gu us1):=hdd (HU1.out.keep (au1 wr ⟨gq,j,none⟩ _ gu (auM hgu4)));have HV2:Hid (NatP (fun b=>w.heap.size<=b/\b<gu) (wr.setCell ⟨gq,j,none⟩ (.int .u64 (d:Nat))) (.slice (some ⟨bv,ov,none⟩) ys.length cv) vs):=hdd (HV.out.keep (by simp[World.setCell]) (fun b h _=>au1 wr ⟨gq,j,none⟩ _ b (by have:=h.2;show b≠gq;omega)));have HB2:=hdd (HB.out.setCell (p:=⟨gq,j,none⟩) (by show w.heap.size<=gq;omega) (.int .u64 (d:Nat)));have HE2:Hid (val (qs.set j d)*val vs+val us1=val xs*2^s):=by
        refine hdd ?_;have e1:=fC qs j d hjq;rw[<-dA hjq,HZ.out j (by omega),Nat.zero_mul,au2]at e1;have e2:=HV1.out;rw[h0]at e2;exact al2 _ _ _ _ _ _ _ _ _ e1 e2 HE.out
       have HLT2:=hdd hex.2;have HZ2:Hid (∀i,i<j->lx (qs.set j d) i=0):=hdd (fun i hi=>by rw[dA (by rw[au5];omega),List.getElem_set_ne (by omega),<-dA];exact HZ.out i (by omega));clear hvJ hex hO' h0;go_wp2
       go_roundw
       case rel=>exact⟨j,us1,qs.set j d,by omega,by go_num,HU2,HQ2,HL1,hdd (by rw[au5];exact HLQ.out),HV2,HB2,HE2,HLT2,HZ2⟩
       case measure=>simp[intOf]
     . have hbi:(((bo:Nat):Int) != 0)=true:=by rw[bne_iff_ne];omega
       obtain rfl:bo=1:=by omega
       have hvJ:0<val vs*B64^j:=au4 HV0.out (au8 bF);have hub:val us<B64^(j+ys.length+1):=by
        have h1:=bH vs OV.out;have h2:val vs*B64^(j+1)<=B64^vs.length*B64^(j+1):=auY _ (Nat.le_of_lt h1);rw[<-au6,HVL.out,show ys.length+(j+1)=j+ys.length+1 by omega]at h2;have:=HLT.out;omega
       have hu1:=uP us1 us (j+ys.length+1) (by rw[HL1.out];omega) (by rw[HLU.out];omega) HU1.out.2 HDR.out hub;have hqd:=af0 (val us) (val us1) (val vs) (B64^j) d _ hvJ HV1.out hu1;have hd1:1<=d:=auS (Nat.zero_le _) hqd;have HW:=hdd (qO d hd1 HD.out);have HD2:Hid (d-1<B64):=hdd (by have:=HD.out;omega);have HDQ2:Hid (val us/(val vs*B64^j)<=d-1):=hdd (Nat.le_sub_one_of_lt hqd);have HD1:=hdd hd1;clear hvJ hub hu1 hqd h0;go_wp2_with fail
       refine(yV (zs:=us1) (xs:=vs) (by rw[HVL.out];omega) HU1.out HV.out (fun b h=>auM h.2) (by rw[HVL.out,HL1.out];omega) (by rw[HL1.out];omega)).mono ?_;rintro e w8⟨cy,rfl,hcy,hg,us2,hO2,hl2,hv2,hdr2⟩;have hen:j+(j+ys.length+1-j)=j+ys.length+1:=by omega
       rw[hen]at hv2 hdr2;have HU2:=hdd hO2;have HL2:=hdd (hl2.trans HL1.out);have HV2:=hdd (HV.out.grown hg (fun b h e=>auM h.2 (by injection e)));have HQ2:=hdd (HQ1.out.keep (hg.block gq HQ1.out.lt (fun e=>auM hgu4 (by injection e with e;exact e.symm))));have HB2:=hdd (HB.out.trans (Below.of_grown hg HB.out.size hgw));have HE2:Hid (val us2+(d-1)*val vs*B64^j=val us+(1-cy)*B64^(j+ys.length+1)):=hdd (al3 _ _ _ _ _ _ _ _ HD1.out hcy HV1.out hv2);have HDR2:=hdd (hdr2.trans HDR.out);have HC:Hid ((1:Int)-(cy:Int)=((1-cy:Nat):Int)):=hdd (by omega);clear hO2 hl2 hv2 hdr2 hg hen;go_wp2
       go_roundw
       case rel=>exact⟨d-1,1-cy,us2,by rw[HW.out],by rw[<-HC.out],by omega,HD2,HDQ2,HU2,HQ2,HL2,HV2,HB2,HE2,HDR2⟩
       case measure=>simp only[intOf];rw[HW.out];have:=HD1.out;omega
def yX(B:Nat)(w0:World)(m n:Nat)(e:Ending)(w':World):Prop:=
 Below B w0 w'/\∃v1 v2 xs ys,e=.returned (.tuple #[v1,v2,.bool true])/\NatP (fun b=>B<=b) w' v1 xs/\Tr xs/\val xs=m/\NatP (fun b=>B<=b) w' v2 ys/\Tr ys/\val ys=n
theorem NatP.one {x:Nat}(hx:x<B64){T:TypeId}(h:w.heap[g]? =some (.cells #[.int .u64 (x:Nat)] T (0,0)))(hp:p g):NatP p w (.slice (some ⟨g,0,none⟩) 1 1) [x]:=by
 refine⟨_,1,rfl,au7 _,⟨by simp,by omega⟩,fun y hy=>by simp at hy;subst hy;exact hx,fun _=>⟨g,0,rfl,hp,(Array.getElem?_eq_some_iff.1 h).1,fun k hk=> ?_⟩⟩;obtain rfl:k=0:=by simpa using hk
 rw[cell_of_row w g (0+0) _ _ _ h];rfl
theorem sZ(x:Nat):val [x]=x:=by simp[val]
theorem divmod_zero(hx:NatP p w va xs)(hy:NatP q w vb ys)(h0:val ys=0):
 Calls Tryz.prog 367 #[va,vb] w fun e w'=>e=.returned (.tuple #[.slice none 0 0,.slice none 0 0,.bool false])/\w=w':=by
 go_enter Tryz.func367,Tryz.ntmps367
 go_wp2_with fail
 refine(aI hx).mono ?_;rintro e w1⟨rfl,v1,xs1,rfl,hv1,-,-,-⟩;clear hx;obtain⟨A1,c1,rfl,a1,⟨a1',a1''⟩,-,-⟩:=hv1;go_wp2_with fail
 refine(aI hy).mono ?_;rintro e w1⟨rfl,v2,ys1,rfl,hv2,ht2,hval2,-⟩;have hn:ys1=[]:=(dF ys1 ht2).1 (by rw[hval2,h0]);subst hn;obtain⟨A2,c2,rfl,a2,⟨a2',a2''⟩,-,-⟩:=hv2;clear hy h0 ht2 hval2;go_wp2
 go_ret3
 exact⟨rfl,rfl⟩
theorem oC(hx:NatP p w va xs)(hy:NatP q w vb ys)(h0:val ys≠0)(hL:xs.length<1073741824):
 Calls Tryz.prog 367 #[va,vb] w (yX w.heap.size w (val xs/val ys) (val xs%val ys)):=by
 go_enter Tryz.func367,Tryz.ntmps367
 go_wp2_with fail
 refine(aI hx).mono ?_;rintro e w1⟨rfl,v1,xs1,rfl,hv1,ht1,hval1,hl1⟩;go_wp2_with fail
 refine(aI hy).mono ?_;rintro e w1⟨rfl,v2,ys1,rfl,hv2,ht2,hval2,-⟩;have HV1:=hdd hval1;have HV2:=hdd hval2;have HT1:=hdd ht1;have HT2:=hdd ht2;have H1:=hdd hv1;have H2:=hdd hv2;have hpos:0<ys1.length:=by
  rcases auL ys1.length with h|h
  . exact absurd (by rw[<-hval2,auO h];rfl) h0
  . exact h
 clear hval1 hval2 hx hy ht1 ht2 hv1 hv2;have hb0:((ys1.length:Int)==0)=false:=beq_eq_false_iff_ne.2 (by omega);have H0:=hdd h0;clear h0;obtain⟨A1,c1,e1,a1,⟨a1',a1''⟩,-,-⟩:=H1.out;obtain⟨A2,c2,e2,a2,⟨a2',a2''⟩,-,-⟩:=H2.out;subst e1 e2;go_wp2_with fail
 refine(mY H1.out H2.out).mono ?_;rintro e w1⟨rfl,kd,rfl⟩;have hbd:=below_drewN w kd;by_cases hlt:val xs1<val ys1
 . have hc:cmpN (val xs1) (val ys1)=-1:=by unfold cmpN;rw[if_pos hlt]
   rw[hc];have HLT:=hdd hlt;clear hlt hc;go_wp2_with fail
   refine(kQ (H1.out.below hbd)).mono ?_;rintro e w2⟨hb,v,zs,rfl,hz,tz,hvz⟩;have HF:Hid (yX w.heap.size w (val xs/val ys) (val xs%val ys) (.returned (.tuple #[.slice none 0 0,v,.bool true])) w2):=
    hdd ⟨hbd.trans hb,_,_,[],zs,rfl,NatP.nil _,Tr.nil,by rw[<-HV1.out,<-HV2.out,Nat.div_eq_of_lt HLT.out];rfl,hz,tz,by rw[hvz,<-HV1.out,<-HV2.out,auW HLT.out]⟩
   clear hb hz tz hvz hbd;go_wp2
   go_ret3
   exact HF.out
 . have hc:¬cmpN (val xs1) (val ys1)<0:=by unfold cmpN;rw[if_neg hlt];split<;>omega
   obtain⟨u,hu⟩:∃u,u=cmpN (val xs1) (val ys1):=⟨_,rfl⟩;rw[<-hu]at hc|-;clear hu;have HLE:=hdd (au3 hlt);clear hlt;by_cases h1:ys1.length=1
   . obtain⟨b2,o2,c2,e2,-,-,-⟩:=H2.out.addr (by omega)
     injection e2 with e2 _ e2c;subst e2 e2c;have hb1:((ys1.length:Int)==1)=true:=by rw[h1];rfl
     replace H1:=hdd (H1.out.below hbd);replace H2:=hdd (H2.out.below hbd);generalize w.drewN kd=wd at H1 H2 hbd|-;have hcy:=H2.out.cell (k:=0) (by omega);rw[au2]at hcy;have O2:=hdd H2.out.ok;have hv1:val ys1=lx ys1 0:=by
      match ys1,h1 with
      |[y],_=>simp[val,lx]
     have HY1:=hdd hv1;have HN1:=hdd h1;have hby:=gM O2.out 0;have hby0:0<lx ys1 0:=au0 (by rw[<-hv1,HV2.out];exact H0.out);have HBY:=hdd hby;obtain⟨y0,hy0⟩:∃y0,y0=lx ys1 0:=⟨_,rfl⟩;rw[<-hy0]at hcy hby0 HBY HY1;clear h1 hv1 hby hy0;have hbw:=hdd hbd;have hsw:=hdd hbd.size;have h2b:=H2.out.weak (q:=fun b=>b<wd.heap.size) (fun b _ h=>h);have hb2b:=h2b.blk (by omega);clear h2b hbd;go_wp2_with (first
      |(at_make;refine bV _ rfl (.tmp 31) (.tmp 31) rfl .i64 .i64 _ xs1.length rfl rfl (by omega) (by omega) wd.heap.size wd (auV _ _) nlr ?_;intro w1 hO1 hb1' hbb1 hs1)
      |(with_reducible refine gB (w:=w1) rfl (.tmp 33) (.tmp 34) rfl wd.heap.size _ _ _ _ xs1 rfl rfl hO1.out (by simp) (H1.out.below hbb1) (by simp) wd.heap.size wd hb1' nlr ?_;intro w2 hO2 hb2;have hcy2:=(hb2.cell (p:=⟨b2,o2,none⟩) hb2b).trans hcy)
      |fail)
     have hO2':OwnN w2 wd.heap.size xs1:=by have:=hO2.out;rw[jE,Nat.sub_self]at this;simpa using this
     refine(afW (xs:=xs1) rfl hO2' (by omega) hby0 HBY.out).mono ?_;rintro e w3⟨rfl,hg,qs,hO3,hl3,hv3⟩;have HO3:=hdd hO3;have HL3:=hdd hl3;have HV3:=hdd hv3;have HB3:Hid (Below w.heap.size w w3):=hdd ((hbw.out.trans (hb2.mono hsw.out)).trans (Below.of_grown hg (by have:=hb2.size;have:=hsw.out;omega) hsw.out));have hrl:val xs1%y0<B64:=Nat.lt_trans (Nat.mod_lt _ hby0) HBY.out;have HRL:=hdd hrl;obtain⟨r0,hr0⟩:∃r0,r0=val xs1%y0:=⟨_,rfl⟩;rw[<-hr0]at HRL|-;have HR0:=hdd hr0;clear hO3 hl3 hv3 hg hO2 hO2' hO1 hb2 hb1' hbb1 hs1 hrl hr0 hcy hcy2;go_wp2_with fail
     refine(aI (HO3.out.natP (p:=fun b=>w.heap.size<=b) HL3.out nlr (by omega) hsw.out)).mono ?_;rintro e w4⟨rfl,v1,q',rfl,hq,tq,hvq,-⟩;have Q1:=hdd hq;have Q2:=hdd tq;have Q3:=hdd hvq;clear hq tq hvq;go_wp2_with fail
     have hbn:Below w3.heap.size w3 (w3.alloc (Obj.cells #[Value.int .u64 (r0:Nat)] 198)):=(auV _ _).alloc nlr _;have hone:NatP AnyB (w3.alloc (Obj.cells #[Value.int .u64 (r0:Nat)] 198)) (.slice (some ⟨w3.heap.size,0,none⟩) 1 1) [r0]:=NatP.one HRL.out (heap_alloc_new w3 _) trivial;refine(kQ hone).mono ?_;rintro e w5⟨hb,v2,r',rfl,hr,tr,hvr⟩;have hb5:Below w3.heap.size w3 w5:=hbn.trans (hb.mono hbn.size);have HF:Hid (yX w.heap.size w (val xs/val ys) (val xs%val ys) (.returned (.tuple #[v1,v2,.bool true])) w5):=
      hdd ⟨HB3.out.trans (hb5.mono HB3.out.size),_,_,q',r',rfl,Q1.out.below hb5,Q2.out,by rw[Q3.out,HV3.out,<-HV1.out,<-HV2.out,HY1.out],
       hr.weak (fun b h _=>auT HB3.out.size (auT hbn.size h)),tr,by rw[hvr,sZ,HR0.out,<-HV1.out,<-HV2.out,HY1.out]⟩
     clear hb hr tr hvr hbn hone hb5;go_wp2
     go_ret3
     exact HF.out
   . have hb1:((ys1.length:Int)==1)=false:=beq_eq_false_iff_ne.2 (by omega)
     go_wp2_with fail
     refine(aiI (H1.out.below hbd) (H2.out.below hbd) HT1.out HT2.out (by omega) HLE.out (by omega)).mono ?_;rintro e w2⟨hb,v1,v2,qs,rs,rfl,hq,tq,hvq,hr,tr,hvr⟩;have HF:Hid (yX w.heap.size w (val xs/val ys) (val xs%val ys) (.returned (.tuple #[v1,v2,.bool true])) w2):=
      hdd ⟨hbd.trans hb,_,_,qs,rs,rfl,hq,tq,by rw[hvq,HV1.out,HV2.out],hr,tr,by rw[hvr,HV1.out,HV2.out]⟩
     clear hb hq tq hvq hr tr hvr hbd;go_wp2
     go_ret3
     exact HF.out
theorem aeK(hx:NatP p w va xs)(hy:NatP q w vb ys)(hle:val ys<=val xs):
 Calls Tryz.prog 272 #[va,vb] w (aaU w.heap.size w (val xs-val ys) true):=by
 go_enter Tryz.func272,Tryz.ntmps272
 go_wp2_with fail
 refine(aI hx).mono ?_;rintro e w1⟨rfl,v1,xs1,rfl,hv1,ht1,hval1,-⟩;go_wp2_with fail
 refine(aI hy).mono ?_;rintro e w1⟨rfl,v2,ys1,rfl,hv2,ht2,hval2,-⟩;have HV1:=hdd hval1;have HV2:=hdd hval2;have HT2:=hdd ht2;have H1:=hdd hv1;have H2:=hdd hv2;have HLE:=hdd (show val ys1<=val xs1 by rw[hval1,hval2];exact hle);clear hval1 hval2 hx hy ht1 ht2 hv1 hv2 hle;go_wp2_with fail
 refine(mY H1.out H2.out).mono ?_;rintro e w1⟨rfl,k,rfl⟩;have hc:¬cmpN (val xs1) (val ys1)<0:=by have:=HLE.out;unfold cmpN;rw[if_neg (by omega)];split<;>omega
 obtain⟨u,hu⟩:∃u,u=cmpN (val xs1) (val ys1):=⟨_,rfl⟩;rw[<-hu]at hc|-;clear hu;go_wp2_with fail
 refine(oQ (w:=w.drewN k) (H1.out.below (below_drewN w k)) (H2.out.below (below_drewN w k)) (dK _ _ HT2.out H1.out.ok HLE.out) HLE.out).mono ?_;rintro e w2⟨hb,v,zs,rfl,hz,htz,hvz⟩;have HF:Hid (aaU w.heap.size w (val xs-val ys) true (.returned (.tuple #[v,.bool true])) w2):=hdd ⟨(below_drewN w k).trans hb,v,zs,rfl,hz,htz,by rw[hvz,HV1.out,HV2.out]⟩;clear hb hz htz hvz;go_wp2
 go_ret2
 exact HF.out
theorem al4(hx:NatP p w va xs)(hy:NatP q w vb ys)(hlt:val xs<val ys):
 Calls Tryz.prog 272 #[va,vb] w fun e w'=>e=.returned (.tuple #[.slice none 0 0,.bool false])/\∃k,w'=w.drewN k:=by
 go_enter Tryz.func272,Tryz.ntmps272
 go_wp2_with fail
 refine(aI hx).mono ?_;rintro e w1⟨rfl,v1,xs1,rfl,hv1,ht1,hval1,-⟩;go_wp2_with fail
 refine(aI hy).mono ?_;rintro e w1⟨rfl,v2,ys1,rfl,hv2,ht2,hval2,-⟩;have H1:=hdd hv1;have H2:=hdd hv2;have hc:cmpN (val xs1) (val ys1)=-1:=by unfold cmpN;rw[hval1,hval2,if_pos hlt]
 clear hval1 hval2 hx hy ht1 ht2 hv1 hv2 hlt;have HC:=hdd hc;clear hc;go_wp2_with fail
 refine(mY H1.out H2.out).mono ?_;rintro e w1⟨rfl,k,rfl⟩;rw[HC.out];go_wp2
 go_ret2
 exact⟨rfl,k,rfl⟩
theorem aeL(hx:NatP p w va xs)(hn:n<=16777216)(hL:xs.length<1073741824):
 Calls Tryz.prog 256 #[va,.int .i64 n] w (RetN w.heap.size w (val xs*2^n)):=by
 have hni:(n:Int)<=16777216:=by omega
 have HN:=hdd hn;clear hn;go_enter Tryz.func256,Tryz.ntmps256
 go_wp2_with fail
 refine(aI hx).mono ?_;rintro e w1⟨rfl,v1,xs1,rfl,hv1,ht1,hval1,hl1⟩;have HV1:=hdd hval1;have H1:=hdd hv1;clear hx hval1 hv1 ht1;go_wp2_with fail
 refine(oP H1.out (by have:=HN.out;omega)).mono ?_;rintro e w2⟨hb,v,zs,rfl,hz,htz,hvz⟩;have HF:=hdd (RetN.of (n:=val xs*2^n) hb hz htz (by rw[hvz,HV1.out]));clear hb hz htz hvz;go_wp2;go_ret;exact HF.out
theorem aeM(hx:NatP p w va xs)(hn:n<=16777216):
 Calls Tryz.prog 257 #[va,.int .i64 n] w (RetN w.heap.size w (val xs/2^n)):=by
 have hni:(n:Int)<=16777216:=by omega
 have HN:=hdd hn;clear hn;go_enter Tryz.func257,Tryz.ntmps257
 go_wp2_with fail
 refine(aI hx).mono ?_;rintro e w1⟨rfl,v1,xs1,rfl,hv1,ht1,hval1,hl1⟩;have HV1:=hdd hval1;have H1:=hdd hv1;clear hx hval1 hv1 ht1;go_wp2_with fail
 refine(mZ H1.out (by have:=HN.out;omega)).mono ?_;rintro e w2⟨hb,v,zs,rfl,hz,htz,hvz⟩;have HF:=hdd (RetN.of (n:=val xs/2^n) hb hz htz (by rw[hvz,HV1.out]));clear hb hz htz hvz;go_wp2;go_ret;exact HF.out
theorem aiJ{cut:Nat}(hc2:2<=cut)(hcM:cut<=1099511627776)(hx:NatP p w va xs)(hy:NatP q w vb ys)(hl:xs.length+ys.length<=549755813888):
 Calls Tryz.prog 372 #[.int .i64 cut,va,vb] w (RetN w.heap.size w (val xs*val ys)):=by
 have hci:(2:Int)<=(cut:Int):=by omega
 go_enter Tryz.func372,Tryz.ntmps372
 go_wp2_with fail
 refine(aeJ hc2 hcM hx hy hl).mono ?_;rintro e w2⟨hb,v,zs,rfl,hz,htz,hvz⟩;have HF:=hdd (RetN.of hb hz htz hvz);clear hb hz htz hvz;go_wp2;go_ret;exact HF.out
theorem aiK{off:Nat}(ha:w.cell? ⟨g,off,none⟩=some va)(hb':w.cell? ⟨g,off+1,none⟩=some vb)(hx:NatP p w va xs)(hy:NatP q w vb ys)(hL:xs.length+ys.length<1073741824)(hc:2<=c):
 Calls Tryz.prog 258 #[.slice (some ⟨g,off,none⟩) 2 c] w (RetN w.heap.size w (val xs+val ys)):=by
 have hgl:g<w.heap.size:=World.block_lt_of_cell? w _ ha;have HX:=hdd hx;have HY:=hdd hy;have HA:=hdd ha;have HBb:=hdd hb';clear hx hy ha hb';go_enter Tryz.func258,Tryz.ntmps258
 go_wp2_with fail
 go_loopw [3,8] (fun sv i wr=>∃(k:Nat) (ss:List Nat),k<=2/\i=.int .i64 k/\Hid (NatP (fun b=>w.heap.size<=b) wr sv ss)/\Hid (Below w.heap.size w wr)/\Hid (Tr ss)/\Hid (val ss=if k=0 then 0 else if k=1 then val xs else val xs+val ys)) (fun _ i _=>2-(intOf i).toNat)
 case atStart=>exact⟨0,[],by omega,rfl,hdd (NatP.nil w),hdd (auV _ _),hdd Tr.nil,hdd rfl⟩
 case round=>
  obtain⟨k,ss,hk,rfl,HS,HB,HT,HV⟩:=hrel;have hk3:k=0\/k=1\/k=2:=by omega
  rcases hk3 with rfl|rfl|rfl
  . have hca:wr.cell? ⟨g,off,none⟩=some va:=(HB.out.cell (p:=⟨g,off,none⟩) hgl).trans HA.out
    go_wp2_with fail
    refine(aI (HX.out.below HB.out)).mono ?_;rintro e w1⟨rfl,v1,xs1,rfl,hv1,ht1,hval1,hl1⟩;have H1:=hdd hv1;have HV1:=hdd hval1;clear hv1 hval1 ht1;have hss:ss.length<=0:=bC ss HT.out 0 (by rw[HV.out];simp);go_wp2_with fail
    refine(jP HS.out H1.out (by omega) (by omega)).mono ?_;rintro e w2⟨hb,v,zs,rfl,hz,htz,hvz⟩;have HS2:=hdd (hz.weak (q:=fun b=>w.heap.size<=b) fun b h _=>auT HB.out.size h);have HB2:=hdd (HB.out.trans (hb.mono HB.out.size));have HT2:=hdd htz;have HV2:Hid (val zs=if 1=0 then 0 else if 1=1 then val xs else val xs+val ys):=hdd (by rw[hvz,HV.out,HV1.out];simp);clear hb hz htz hvz hss;go_wp2
    go_roundw
    case rel=>exact⟨1,zs,by omega,by go_num,HS2,HB2,HT2,HV2⟩
    case measure=>simp[intOf]
  . have hca:wr.cell? ⟨g,off+1,none⟩=some vb:=(HB.out.cell (p:=⟨g,off+1,none⟩) hgl).trans HBb.out
    go_wp2_with fail
    refine(aI (HY.out.below HB.out)).mono ?_;rintro e w1⟨rfl,v1,xs1,rfl,hv1,ht1,hval1,hl1⟩;have H1:=hdd hv1;have HV1:=hdd hval1;clear hv1 hval1 ht1;have hss:ss.length<=xs.length:=bC ss HT.out _ (by rw[HV.out];exact bH xs HX.out.ok);go_wp2_with fail
    refine(jP HS.out H1.out (by omega) (by omega)).mono ?_;rintro e w2⟨hb,v,zs,rfl,hz,htz,hvz⟩;have HS2:=hdd (hz.weak (q:=fun b=>w.heap.size<=b) fun b h _=>auT HB.out.size h);have HB2:=hdd (HB.out.trans (hb.mono HB.out.size));have HT2:=hdd htz;have HV2:Hid (val zs=if 2=0 then 0 else if 2=1 then val xs else val xs+val ys):=hdd (by rw[hvz,HV.out,HV1.out];simp);clear hb hz htz hvz hss;go_wp2
    go_roundw
    case rel=>exact⟨2,zs,by omega,by go_num,HS2,HB2,HT2,HV2⟩
    case measure=>simp[intOf]
  . go_wp2_with fail
    refine(aI HS.out).mono ?_;rintro e w1⟨rfl,v1,ss1,rfl,hv1,ht1,hval1,-⟩;have HF:=hdd (RetN.of (n:=val xs+val ys) HB.out hv1 ht1 (by rw[hval1,HV.out];simp));clear hv1 hval1 ht1;go_wp2;go_ret;exact HF.out
theorem aiL(x r:Nat)(hx:x<B64):IntKind.u64.wrap ((x:Int)/(r:Int))=((x/r:Nat):Int):=by
 have h:=auS (Nat.div_le_self x r) hx;unfold B64 at h;rw[<-Int.natCast_ediv,iH,auW h]
theorem af1(k:Nat)(h:k<=32):2^k<=4294967296:=auP (n:=2) (by omega) h
theorem yY(hx:NatP p w va xs)(tx:Tr xs)(hl:xs.length<=1):
 Calls Tryz.prog 380 #[va] w fun e w'=>e=.returned (.int .u64 (bS (val xs):Nat))/\w=w':=by
 have hok:=hdd hx.ok;rcases auL xs.length with h|h
 . have hn:=auO h
   subst hn;obtain⟨A,c,rfl,h2,h3,-,-⟩:=hx;clear h hl h2 h3 hok tx;go_enter Tryz.func380,Tryz.ntmps380
   go_wp2;go_ret;exact⟨rfl,rfl⟩
 . obtain⟨b,off,c,rfl,-,-,-⟩:=hx.addr h
   have hcell:=hx.cell (k:=0) h;rw[au2]at hcell;have hb0:((xs.length:Int)==0)=false:=beq_eq_false_iff_ne.2 (by omega);have hxlt:=gM hok.out 0;have hv:val xs=lx xs 0:=by
    match xs,h,hl with
    |[y],_,_=>simp[val,lx]
   have hlen:(0:Int)<(xs.length:Int):=by omega
   obtain⟨x,hx'⟩:∃x,x=lx xs 0:=⟨_,rfl⟩;rw[<-hx']at hcell hxlt hv;have HV:=hdd hv;have HX:=hdd hxlt;have hbb:bits x<=64:=by rw[aF];exact hxlt
   have hlb:=kP x (by rw[<-dY];exact hxlt);have hxI:(x:Int)<=18446744073709551615:=by have:=dI hxlt;omega
   have HLB:=hdd hlb;have hx0:x≠0:=by
    rw[<-hv];intro h0;have:=(dF xs tx).1 h0;rw[this]at h;simp at h
   obtain⟨s,hs⟩:=xE x;have hs1:0<s:=by
    rcases auL s with h5|h5
    . subst h5;have:=hs.2;simp at this;omega
    . exact h5
   have HS:=hdd hs;have hr0:((2:Int)^((bits x+1)/2))=((2^((bits x+1)/2):Nat):Int):=by rw[Int.natCast_pow];rfl
   have hr1:=af1 ((bits x+1)/2) (by omega);obtain⟨r0,hr0'⟩:∃r0,r0=2^((bits x+1)/2):=⟨_,rfl⟩;have hsr:s<=r0:=by rw[hr0'];exact uG x s hs
   have hr0p:0<r0:=by rw[hr0'];exact auX _
   rw[<-hr0']at hr0 hr1;have hwr:IntKind.u64.wrap ((2:Int)^((bits x+1)/2))=(r0:Int):=by rw[hr0,iH,auW (by omega)]
   have HSR:=hdd hsr;obtain⟨k,hk⟩:∃k,k=bits x:=⟨_,rfl⟩;rw[<-hk]at hwr hbb HLB;clear tx hx0 hx hv hxlt hlb hs hr0 hr0' hsr hx' hok hl hk;go_enter Tryz.func380,Tryz.ntmps380
   go_wp2_with (go_at_call 167;refine(Tryz.bits_Len64 (x:Int) _ (by omega) hxI).mono ?_;rintro e w'⟨rfl,hw⟩;obtain rfl:=hw.symm;rw[auU,HLB.out])
   go_loop [3] (fun rr=>∃r:Nat,rr=.int .u64 r/\0<r/\r<=4294967296/\Hid (s<=r)) (fun rr=>(intOf rr).toNat)
   case atStart=>exact⟨r0,by rw[hwr],hr0p,hr1,HSR⟩
   case round=>
    obtain⟨r,rfl,hrp,hrl,hsr⟩:=hrel;have hrI:(1:Int)<=(r:Int):=by omega
    have hq:=aiL x r HX.out;obtain⟨q,hq'⟩:∃q,q=x/r:=⟨_,rfl⟩;rw[<-hq']at hq;have HQ:=hdd hq';by_cases hlt:r<=q
    . have hge:((r:Nat):Int)<=(q:Int):=by omega
      have hd:decide (((r:Nat):Int)<=(q:Int))=true:=decide_eq_true hge;have hrs:s=r:=by
       have h1:=nZ x r hrp (by rw[<-hq'];exact hlt);refine Nat.le_antisymm hsr.out ?_;apply au3;intro h4;have:(s+1)*(s+1)<=r*r:=Nat.mul_le_mul h4 h4;have:=HS.out.2;omega
      have HRS:=hdd hrs;clear hq' hlt hrs;go_wp2;go_ret;exact⟨sW (by rw[HV.out,ah4 HS.out,HRS.out]),rfl⟩
    . have hge:(q:Int)<((r:Nat):Int):=by omega
      have hd:decide (((r:Nat):Int)<=(q:Int))=false:=decide_eq_false (by omega);have hnw:=qM x r s hrp HS.out.1;rw[<-hq']at hnw;have HN:=hdd hnw;have hr'0:0<(r+q)/2:=Nat.lt_of_lt_of_le hs1 hnw;have hr'1:(r+q)/2<r:=by omega
      have hcast:((r:Int)+(q:Int))/2=(((r+q)/2:Nat):Int):=by omega
      have HC:=hdd hcast;have HR1:=hdd hr'1;clear hq' hlt hnw hcast hr'1;go_wp2
      go_round
      case rel=>exact⟨(r+q)/2,by rw[HC.out],hr'0,by have:=HR1.out;omega,HN⟩
      case measure=>simp only[intOf];rw[HC.out];have:=HR1.out;omega
end Go.Proofs.YtigoiiekebccnaaGreatDoor
