/- A part of the proof: contracts of functions and plain laws (NatO, NatP, NatQ). -/
import Derived.Test.YtigoiiekebccnaaGreatDoorK04
set_option linter.unusedVariables false
set_option linter.unusedSimpArgs false
set_option linter.unnecessarySimpa false
set_option maxHeartbeats 25600000
set_option maxRecDepth 100000
namespace Go.Proofs.YtigoiiekebccnaaGreatDoor
open Go.RowKit
open Int renaming natCast_nonneg->atK,eq_ofNat_of_zero_le->atM,toNat_of_nonneg->atY
open List renaming drop_eq_getElem_cons->atL,length_take->atQ,drop_set_of_lt->atT,length_set->atX,drop_of_length_le->at7,take_length->auD
open Nat renaming mul_le_mul_left->atN,eq_zero_or_pos->atO,mul_le_mul_right->atP,pow_add->atS,min_eq_left->atU,mul_comm->atV,div_lt_iff_lt_mul->atW,add_sub_cancel->atZ,pow_succ->at0,mul_add->at1,add_assoc->at5,le_of_not_lt->at6,add_mul->auA,mul_assoc->auB,lt_trichotomy->auC,div_add_mod->auE,pow_mul->auF,le_antisymm->auG,add_zero->auH,one_mul->auI,zero_le->auJ,mod_lt->auK
variable{xs zs:List Nat}{c g j n:Nat}{p:Nat->Prop}{vx:Value}{w:World}
theorem oW(d v r u:Nat)(h:B64*mulH d v+mulL d v<=r*B64+u)(hl:mulL d v<B64)(hu:u<B64):mulH d v<r\/(mulH d v=r/\mulL d v<=u):=by
 generalize mulH d v=a at*;generalize mulL d v=b at*;rw[atV r]at h;rcases auC a r with h1|h1|h1
 . exact .inl h1
 . subst h1;exact .inr ⟨rfl,by omega⟩
 . exfalso
   have:B64*(r+1)<=B64*a:=atN _ h1;rw[at1]at this;omega
theorem oZ(d v r u:Nat)(h:r*B64+u<B64*mulH d v+mulL d v)(hu:u<B64):r<mulH d v\/(mulH d v=r/\u<mulL d v):=by
 have hl:=oU d v;generalize mulH d v=a at*;generalize mulL d v=b at*;rw[atV r]at h;rcases auC r a with h1|h1|h1
 . exact .inl h1
 . subst h1;exact .inr ⟨rfl,by omega⟩
 . exfalso
   have:B64*(a+1)<=B64*r:=atN _ h1;rw[at1]at this;omega
theorem qO(d:Nat)(h:1<=d)(hd:d<B64):IntKind.u64.wrap ((d:Int)-1)=((d-1:Nat):Int):=by
 rw[IntKind.wrap_u64];unfold B64 at hd;omega
theorem yU(u2 u1 u0 v1 v0:Nat)(w:World)(hu2:u2<=v1)(hu1:u1<B64)(hu0:u0<B64)(hv1:v1<B64)(hv1p:0<v1)(hv0:v0<B64):
 Calls Tryz.prog 377 #[.int .u64 u2,.int .u64 u1,.int .u64 u0,.int .u64 v1,.int .u64 v0] w fun e w'=>
  ∃d:Nat,e=.returned (.int .u64 d)/\d<B64/\(∀q,q<B64->q*(v1*B64+v0)<=u2*B64*B64+u1*B64+u0->q<=d)/\∃k,w'=w.drewN k:=by
 have HU1:=hdd hu1;have HU0:=hdd hu0;have HV1:=hdd hv1;have HV0:=hdd hv0;by_cases hlt:u2<v1
 . have HD:Hid ((u2*B64+u1)/v1<B64/\(u2*B64+u1)%v1<B64):=hdd ⟨by
    rw[atW hv1p];have:(u2+1)*B64<=v1*B64:=atP _ hlt;rw[atV v1,auA]at this;omega,Nat.lt_trans (auK _ hv1p) hv1⟩
   clear hu1 hu0 hv1 hv0;go_enter Tryz.func377,Tryz.ntmps377
   go_wp2_with (go_at_call 273;refine(xK u2 u1 v1 _ HV1.out hlt HU1.out).mono ?_;rintro e w'⟨rfl,kd,rfl⟩)
   go_loopw [11,12,13] (fun dd rr oo wr=>∃(d r o:Nat) (m:Nat),dd=.int .u64 (d:Nat)/\rr=.int .u64 (r:Nat)/\oo=.int .u64 (o:Nat)/\o<=1/\wr=w.drewN m/\Hid (d<B64/\r<B64)/\Hid (r+o*B64+d*v1=u2*B64+u1)/\
    Hid (∀q,q<B64->q*(v1*B64+v0)<=u2*B64*B64+u1*B64+u0->q<=d)) (fun dd _ _ _=>(intOf dd).toNat)
   case atStart=>exact⟨(u2*B64+u1)/v1,(u2*B64+u1)%v1,0,kd,rfl,rfl,rfl,by omega,rfl,hdd HD.out,hdd (by rw[Nat.zero_mul,auH,Nat.add_comm,atV];exact auE _ _),hdd (fun q _ hq=>afO u2 u1 v1 q v0 u0 HU0.out hv1p hq)⟩
   case round=>
    obtain⟨d,r,o,m,rfl,rfl,rfl,ho,rfl,hb,hE,hQ⟩:=hrel;rcases atO o with h0|h0
    . have hoi:(((o:Nat):Int)==0)=true:=by rw[h0];rfl
      have hE0:Hid (r+d*v1=u2*B64+u1):=hdd (by have:=hE.out;rw[h0]at this;omega);clear h0 hE;have bd:=hb.out.1;have br:=hb.out.2;have hml:=yS d v0;have hmL:=oU d v0;have BD:=hdd bd;have BR:=hdd br;by_cases hbrk:d*v0<=r*B64+u0
      . have hcase:mulH d v0<r\/(mulH d v0=r/\mulL d v0<=u0):=oW d v0 r u0 (by rw[hml];exact hbrk) hmL HU0.out
        clear hml hbrk;rcases hcase with h1|⟨h1,h2⟩
        . have k1:((mulH d v0:Nat):Int)<(r:Int):=by omega
          clear bd br h1 hmL;go_wp2_with (go_at_call 316;refine(fQ d v0 BD.out HV0.out _).mono ?_;rintro e w'⟨rfl,rfl⟩)
          go_ret;exact⟨d,rfl,BD.out,hQ.out,_,rfl⟩
        . have k1:¬((mulH d v0:Nat):Int)<(r:Int):=by omega
          have k2:(((mulH d v0:Nat):Int)==(r:Int))=true:=by rw[h1];exact beq_self_eq_true _
          have k3:((mulL d v0:Nat):Int)<=(u0:Int):=by omega
          clear bd br h1 h2 hmL;go_wp2_with (go_at_call 316;refine(fQ d v0 BD.out HV0.out _).mono ?_;rintro e w'⟨rfl,rfl⟩)
          go_ret;exact⟨d,rfl,BD.out,hQ.out,_,rfl⟩
      . have hcase:r<mulH d v0\/(mulH d v0=r/\u0<mulL d v0):=oZ d v0 r u0 (by rw[hml];omega) HU0.out
        have hdec:∀q,q<B64->q*(v1*B64+v0)<=u2*B64*B64+u1*B64+u0->q<=d-1:=by
         intro q _ hq;have:=uC d u2 u1 u0 v1 v0 r q hE0.out (by omega) hq;omega
        have hd1:1<=d:=by
         rcases atO d with h|h
         . subst h;simp at hbrk
         . exact h
        have HW:=hdd (qO d hd1 bd);have HQ:=hdd hdec;have hadd:=fun w=>eF (x:=((r:Nat):Int)) (y:=((v1:Nat):Int)) (c:=0) (atK _) (atK _) (by omega) w;have al:=iF (r:Nat) (v1:Nat) 0;have as_:=gD (r:Nat) (v1:Nat) 0;have hrI:0<=((r:Nat):Int)/\((r:Nat):Int)<18446744073709551616:=⟨atK _,dI br⟩;have hvI:0<=((v1:Nat):Int)/\((v1:Nat):Int)<18446744073709551616:=⟨atK _,dI HV1.out⟩;have ac:=gF hrI hvI (c:=0) (by omega);obtain⟨r',hr'⟩:=atM as_.1;obtain⟨o',ho'⟩:=atM ac.1;rw[hr',ho']at hadd al;rw[hr']at as_;rw[ho']at ac;have HE:Hid (r'+o'*B64+(d-1)*v1=u2*B64+u1):=hdd (by
         rw[<-hE0.out];obtain⟨k,rfl⟩:∃k,d=k+1:=⟨d-1,by omega⟩;rw[atZ,auA,auI];have hB:B64=18446744073709551616:=rfl;rw[hB];omega)
        have HB:Hid (d-1<B64/\r'<B64):=hdd ⟨by omega,by have hB:B64=18446744073709551616:=rfl;rw[hB];omega⟩;have ho1:o'<=1:=by omega
        clear hml hbrk hdec al as_ ac hrI hvI hr' ho';have K1:(¬((mulH d v0:Nat):Int)<(r:Int)/\(((mulH d v0:Nat):Int)==(r:Int))=false)\/((¬((mulH d v0:Nat):Int)<(r:Int)/\(((mulH d v0:Nat):Int)==(r:Int))=true)/\(u0:Int)<((mulL d v0:Nat):Int)):=by
         rcases hcase with h|⟨h,h2⟩
         . exact .inl ⟨by omega,beq_eq_false_iff_ne.2 (by omega)⟩
         . exact .inr ⟨⟨by omega,by rw[h];exact beq_self_eq_true _⟩,by omega⟩
        clear hcase hmL bd br;rcases K1 with ⟨k1,k2⟩|⟨⟨k1,k2⟩,k3⟩
        all_goals
         go_wp2_with (go_at_call 316;refine(fQ d v0 BD.out HV0.out _).mono ?_;rintro e w'⟨rfl,rfl⟩)
         go_roundw
         case rel=>exact⟨d-1,r',o',m,by rw[HW.out],rfl,rfl,ho1,rfl,HB,HE,HQ⟩
         case measure=>simp only[intOf];rw[HW.out];omega
    . have hoi:(((o:Nat):Int)==0)=false:=beq_eq_false_iff_ne.2 (by omega)
      go_wp2;go_ret;exact⟨d,rfl,hb.out.1,hQ.out,_,rfl⟩
 . have hu2':u2=v1:=by omega
   have hadd:=fun w=>eF (x:=((u1:Nat):Int)) (y:=((v1:Nat):Int)) (c:=0) (atK _) (atK _) (by omega) w;have al:=iF (u1:Nat) (v1:Nat) 0;have as_:=gD (u1:Nat) (v1:Nat) 0;have ac:=gF (x:=((u1:Nat):Int)) (y:=((v1:Nat):Int)) (c:=0) ⟨atK _,dI hu1⟩ ⟨atK _,dI hv1⟩ (by omega);obtain⟨r',hr'⟩:=atM as_.1;obtain⟨o',ho'⟩:=atM ac.1;rw[hr',ho']at hadd al;rw[hr']at as_;rw[ho']at ac;have HE:Hid (r'+o'*B64+(B64-1)*v1=u2*B64+u1):=hdd (by
    have hB:B64=18446744073709551616:=rfl;rw[hB,hu2'];omega)
   have HB:Hid (B64-1<B64/\r'<B64):=hdd ⟨by have:=bF;omega,by have hB:B64=18446744073709551616:=rfl;rw[hB];omega⟩;have ho1:o'<=1:=by omega
   have hnl:¬(u2:Int)<(v1:Int):=by omega
   clear al as_ ac hr' ho' hu2' hu1 hu0 hv1 hv0;go_enter Tryz.func377,Tryz.ntmps377
   go_wp2_with fail
   go_loopw [11,12,13] (fun dd rr oo wr=>∃(d r o:Nat) (m:Nat),dd=.int .u64 (d:Nat)/\rr=.int .u64 (r:Nat)/\oo=.int .u64 (o:Nat)/\o<=1/\wr=w.drewN m/\Hid (d<B64/\r<B64)/\Hid (r+o*B64+d*v1=u2*B64+u1)/\
    Hid (∀q,q<B64->q*(v1*B64+v0)<=u2*B64*B64+u1*B64+u0->q<=d)) (fun dd _ _ _=>(intOf dd).toNat)
   case atStart=>exact⟨B64-1,r',o',0,rfl,rfl,rfl,ho1,rfl,HB,HE,hdd (fun q hq _=>by omega)⟩
   case round=>
    obtain⟨d,r,o,m,rfl,rfl,rfl,ho,rfl,hb,hE,hQ⟩:=hrel;rcases atO o with h0|h0
    . have hoi:(((o:Nat):Int)==0)=true:=by rw[h0];rfl
      have hE0:Hid (r+d*v1=u2*B64+u1):=hdd (by have:=hE.out;rw[h0]at this;omega);clear h0 hE;have bd:=hb.out.1;have br:=hb.out.2;have hml:=yS d v0;have hmL:=oU d v0;have BD:=hdd bd;have BR:=hdd br;by_cases hbrk:d*v0<=r*B64+u0
      . have hcase:mulH d v0<r\/(mulH d v0=r/\mulL d v0<=u0):=oW d v0 r u0 (by rw[hml];exact hbrk) hmL HU0.out
        clear hml hbrk;rcases hcase with h1|⟨h1,h2⟩
        . have k1:((mulH d v0:Nat):Int)<(r:Int):=by omega
          clear bd br h1 hmL;go_wp2_with (go_at_call 316;refine(fQ d v0 BD.out HV0.out _).mono ?_;rintro e w'⟨rfl,rfl⟩)
          go_ret;exact⟨d,rfl,BD.out,hQ.out,_,rfl⟩
        . have k1:¬((mulH d v0:Nat):Int)<(r:Int):=by omega
          have k2:(((mulH d v0:Nat):Int)==(r:Int))=true:=by rw[h1];exact beq_self_eq_true _
          have k3:((mulL d v0:Nat):Int)<=(u0:Int):=by omega
          clear bd br h1 h2 hmL;go_wp2_with (go_at_call 316;refine(fQ d v0 BD.out HV0.out _).mono ?_;rintro e w'⟨rfl,rfl⟩)
          go_ret;exact⟨d,rfl,BD.out,hQ.out,_,rfl⟩
      . have hcase:r<mulH d v0\/(mulH d v0=r/\u0<mulL d v0):=oZ d v0 r u0 (by rw[hml];omega) HU0.out
        have hdec:∀q,q<B64->q*(v1*B64+v0)<=u2*B64*B64+u1*B64+u0->q<=d-1:=by
         intro q _ hq;have:=uC d u2 u1 u0 v1 v0 r q hE0.out (by omega) hq;omega
        have hd1:1<=d:=by
         rcases atO d with h|h
         . subst h;simp at hbrk
         . exact h
        have HW:=hdd (qO d hd1 bd);have HQ:=hdd hdec;have hadd:=fun w=>eF (x:=((r:Nat):Int)) (y:=((v1:Nat):Int)) (c:=0) (atK _) (atK _) (by omega) w;have al:=iF (r:Nat) (v1:Nat) 0;have as_:=gD (r:Nat) (v1:Nat) 0;have hrI:0<=((r:Nat):Int)/\((r:Nat):Int)<18446744073709551616:=⟨atK _,dI br⟩;have hvI:0<=((v1:Nat):Int)/\((v1:Nat):Int)<18446744073709551616:=⟨atK _,dI HV1.out⟩;have ac:=gF hrI hvI (c:=0) (by omega);obtain⟨r',hr'⟩:=atM as_.1;obtain⟨o',ho'⟩:=atM ac.1;rw[hr',ho']at hadd al;rw[hr']at as_;rw[ho']at ac;have HE:Hid (r'+o'*B64+(d-1)*v1=u2*B64+u1):=hdd (by
         rw[<-hE0.out];obtain⟨k,rfl⟩:∃k,d=k+1:=⟨d-1,by omega⟩;rw[atZ,auA,auI];have hB:B64=18446744073709551616:=rfl;rw[hB];omega)
        have HB:Hid (d-1<B64/\r'<B64):=hdd ⟨by omega,by have hB:B64=18446744073709551616:=rfl;rw[hB];omega⟩;have ho1:o'<=1:=by omega
        clear hml hbrk hdec al as_ ac hrI hvI hr' ho';have K1:(¬((mulH d v0:Nat):Int)<(r:Int)/\(((mulH d v0:Nat):Int)==(r:Int))=false)\/((¬((mulH d v0:Nat):Int)<(r:Int)/\(((mulH d v0:Nat):Int)==(r:Int))=true)/\(u0:Int)<((mulL d v0:Nat):Int)):=by
         rcases hcase with h|⟨h,h2⟩
         . exact .inl ⟨by omega,beq_eq_false_iff_ne.2 (by omega)⟩
         . exact .inr ⟨⟨by omega,by rw[h];exact beq_self_eq_true _⟩,by omega⟩
        clear hcase hmL bd br;rcases K1 with ⟨k1,k2⟩|⟨⟨k1,k2⟩,k3⟩
        all_goals
         go_wp2_with (go_at_call 316;refine(fQ d v0 BD.out HV0.out _).mono ?_;rintro e w'⟨rfl,rfl⟩)
         go_roundw
         case rel=>exact⟨d-1,r',o',m,by rw[HW.out],rfl,rfl,ho1,rfl,HB,HE,HQ⟩
         case measure=>simp only[intOf];rw[HW.out];omega
    . have hoi:(((o:Nat):Int)==0)=false:=beq_eq_false_iff_ne.2 (by omega)
      go_wp2;go_ret;exact⟨d,rfl,hb.out.1,hQ.out,_,rfl⟩
theorem afX(ys zs xs:List Nat)(j k:Nat)(s:Int)(c c':Int)(hi:j+k<ys.length)(hk:k<xs.length)(h0:0<=c)(hs0:0<=s)(hc':0<=c')
 (hs:s+18446744073709551616*c'=lim ys (j+k)+lim xs k+c) (h:val ys+c.toNat*B64^(j+k)=val zs+val (xs.take k)*B64^j):
 val (ys.set (j+k) s.toNat)+c'.toNat*B64^(j+(k+1))=val zs+val (xs.take (k+1))*B64^j:=by
 have h1:=fC ys (j+k) s.toNat hi;rw[bQ xs k hk];rw[cK hi,cK hk]at hs;have e:s.toNat+B64*c'.toNat=ys[j+k]+xs[k]+c.toNat:=by unfold B64;omega
 have e2:B64^(j+(k+1))=B64^(j+k)*B64:=by rw[<-at5,at0]
 have e3:xs[k]*B64^k*B64^j=xs[k]*B64^(j+k):=by rw[atS];grind
 rw[e2,auA,e3];exact alg1 _ _ _ _ _ _ _ _ _ _ _ _ h1 h e
theorem yV(hn:xs.length+1=n)(hz:OwnN w g zs)(hx:NatP p w vx xs)(hp:∀b,p b->b≠g)(hl:j+xs.length<zs.length)(hzl:zs.length<=1099511627776):
 Calls Tryz.prog 379 #[.slice (some ⟨g,j,none⟩) n c,vx] w fun e w'=>
  ∃cy:Nat,e=.returned (.int .u64 cy)/\cy<=1/\w.grownBy w' (some g)/\∃ys,OwnN w' g ys/\ys.length=zs.length/\val ys+cy*B64^(j+n)=val zs+val xs*B64^j/\ys.drop (j+n)=zs.drop (j+n):=by
 subst hn;have hok:=hx.ok;obtain⟨A,cx,rfl,h2,h3,h4,h5⟩:=hx;obtain⟨h3,h3b⟩:=h3;have h5':=hdd h5;clear h5;have hp':=hdd hp;clear hp;go_enter Tryz.func379,Tryz.ntmps379
 go_wp2_with fail
 go_loopw [5,10] (fun c k wr=>∃(kk:Nat) (cy:Int) (ys:List Nat),kk<=xs.length/\k=.int .i64 kk/\c=.int .u64 cy/\0<=cy/\cy<=1/\Hid (OwnN wr g ys)/\Hid (ys.length=zs.length)/\Hid (w.grownBy wr (some g))/\
  Hid (val ys+cy.toNat*B64^(j+kk)=val zs+val (xs.take kk)*B64^j)/\Hid (ys.drop (j+(xs.length+1))=zs.drop (j+(xs.length+1)))) (fun _ k _=>xs.length-(intOf k).toNat)
 case atStart=>exact⟨0,0,zs,auJ _,rfl,rfl,by omega,by omega,hdd hz,hdd rfl,hdd (World.grownBy.refl _ _),hdd (by simp[val]),hdd rfl⟩
 case round=>
  obtain⟨kk,cy,ys,hkk,rfl,rfl,hc0,hc1,hO,hL,hG,hV,hDr⟩:=hrel;have bz:=fI hO.out.2 (j+kk);have hLL:=hL.out;have hcz:wr.cell? ⟨g,j+kk,none⟩=some (.int .u64 (lim ys (j+kk))):=hO.out.cell (by omega);have hfz:wr.frozen? ⟨g,j+kk,none⟩=false:=hO.out.frozen _;have hi:j+kk<ys.length:=by omega
  have HLL:=hdd hLL;clear hLL;by_cases hlt:kk<xs.length
  . obtain⟨b,off,rfl,hpb,hb,hcell⟩:=h5'.out (by omega)
    have hbg:=hp'.out b hpb;have hcx:wr.cell? ⟨b,off+kk,none⟩=some (.int .u64 (lim xs kk)):=(World.cell?_of_block (hG.out.block b hb (fun e=>hbg (by injection e)))).trans (hcell kk hlt);have bx:=fI hok kk;have hadd:=fun w=>eF bz.1 bx.1 ⟨hc0,hc1⟩ w;clear hcell hpb;have bs:=gD (lim ys (j+kk)) (lim xs kk) cy;have bc:=gF bz bx ⟨hc0,hc1⟩;have HR:=hdd (afX ys zs xs j kk _ cy _ hi hlt hc0 bs.1 bc.1 (iF (lim ys (j+kk)) (lim xs kk) cy) hV.out);have HO:=hdd (hO.out.set_ (j+kk) bs.1 bs.2);have HG:=hdd (grownBy_set (i:=j+kk) hG.out (.int .u64 (addS (lim ys (j+kk)) (lim xs kk) cy)));go_wp2
    go_roundw
    case rel=>exact⟨kk+1,_,_,by omega,by go_num,rfl,bc.1,bc.2,HO,hdd (by rw[atX];exact HLL.out),HG,HR,hdd (by rw[atT (by omega)];exact hDr.out)⟩
    case measure=>simp[intOf];omega
  . obtain rfl:kk=xs.length:=by omega
    have hadd:=fun w=>eF (x:=lim ys (j+xs.length)) (y:=0) (c:=cy) bz.1 (by omega) ⟨hc0,hc1⟩ w;have bs:=gD (lim ys (j+xs.length)) 0 cy;have bc:=gF (x:=lim ys (j+xs.length)) (y:=0) (c:=cy) bz (by omega) ⟨hc0,hc1⟩;have al:=iF (lim ys (j+xs.length)) 0 cy;have HR:Hid (val (ys.set (j+xs.length) (addS (lim ys (j+xs.length)) 0 cy).toNat)+(addC (lim ys (j+xs.length)) 0 cy).toNat*B64^(j+(xs.length+1))=val zs+val xs*B64^j):=by
     refine hdd ?_;have h1:=fC ys (j+xs.length) (addS (lim ys (j+xs.length)) 0 cy).toNat hi;have e2:B64^(j+(xs.length+1))=B64^(j+xs.length)*B64:=by rw[<-at5,at0]
     rw[cK hi]at*;have e:(addS (ys[j+xs.length]:Int) 0 cy).toNat+B64*(addC (ys[j+xs.length]:Int) 0 cy).toNat=ys[j+xs.length]+0+cy.toNat:=by unfold B64;omega
     have hv:=hV.out;rw[auD]at hv;rw[e2];have:=alg1 _ _ _ _ _ 0 _ _ _ _ _ _ h1 hv e;omega
    have HO:=hdd (hO.out.set_ (j+xs.length) bs.1 bs.2);have HG:=hdd (grownBy_set (i:=j+xs.length) hG.out (.int .u64 (addS (lim ys (j+xs.length)) 0 cy)));clear al;go_wp2;go_ret;exact⟨(addC (lim ys (j+xs.length)) 0 cy).toNat,sW (atY bc.1).symm,by omega,HG.out,_,HO.out,by rw[atX];exact HLL.out,HR.out,by rw[atT (by omega)];exact hDr.out⟩
theorem adD(x d cy z:Nat)(hx:x<B64)(hd:d<B64)(hc:cy<B64)(hz:z<B64):
 let lo:=addS (mulL x d:Nat) (cy:Nat) 0;let c1:=addC (mulL x d:Nat) (cy:Nat) 0
 let s:=subD (z:Nat) lo 0;let b:=subB (z:Nat) lo 0
 s+(x*d+cy:Nat)=(z:Nat)+18446744073709551616*((mulH x d:Nat)+c1+b)/\(mulH x d:Nat)+c1+b<18446744073709551616/\(mulH x d:Nat)+c1<18446744073709551616/\0<=c1/\0<=b/\0<=s/\s<18446744073709551616/\0<=lo/\lo<18446744073709551616:=by
 intro lo c1 s b;have h1:=yS x d;have h2:=oU x d;have h3:x*d<=(B64-1)*(B64-1):=Nat.mul_le_mul (by omega) (by omega);have hB:B64=18446744073709551616:=rfl;have e1:=iF (mulL x d:Nat) (cy:Nat) 0;have b1:=gD (mulL x d:Nat) (cy:Nat) 0;have c1b:=gF (x:=((mulL x d:Nat):Int)) (y:=((cy:Nat):Int)) (c:=0) (by omega) (by omega) (by omega);have hs1:lo=addS (mulL x d:Nat) (cy:Nat) 0:=rfl;have hc1:c1=addC (mulL x d:Nat) (cy:Nat) 0:=rfl;rw[<-hs1]at e1 b1;rw[<-hc1]at e1 c1b;have e2:=sQ (x:=((z:Nat):Int)) (y:=lo) (b:=0) (by omega) b1 (by omega);have b2:=oN (z:Nat) lo 0;have c2b:=oO (z:Nat) lo 0;have hs2:s=subD (z:Nat) lo 0:=rfl;have hb2:b=subB (z:Nat) lo 0:=rfl;have hb0:lo=0->b=0:=by intro h;rw[hb2];unfold subB;rw[if_neg (by omega)]
 rw[<-hs2]at e2 b2;rw[<-hb2]at e2 c2b
 clear_value lo c1 s b
 rw[hB]at h1;generalize x*d=xd at*;have h3':xd<=18446744073709551615*18446744073709551615:=h3
 push_cast
 have hbb:b=0\/0<lo:=by
  by_cases h:lo=0
  . exact .inl (hb0 h)
  . exact .inr (by omega)
 refine⟨by omega,?_,by omega,c1b.1,c2b.1,b2.1,b2.2,b1.1,b1.2⟩;rcases hbb with h|h<;>omega
theorem afY(ys zs xs:List Nat)(j k d cy:Nat)(s cc:Int)(hi:j+k<ys.length)(hk:k<xs.length)(hs0:0<=s)(hc0:0<=cc)
 (hs:s+(lx xs k*d+cy:Nat)=(lx ys (j+k):Nat)+18446744073709551616*cc) (h:val ys+d*val (xs.take k)*B64^j=val zs+cy*B64^(j+k)):
 val (ys.set (j+k) s.toNat)+d*val (xs.take (k+1))*B64^j=val zs+cc.toNat*B64^(j+(k+1)):=by
 have h1:=fC ys (j+k) s.toNat hi;rw[<-dA hi]at h1;rw[bQ xs k hk,<-dA hk];have e:s.toNat+(lx xs k*d+cy)=lx ys (j+k)+B64*cc.toNat:=by unfold B64;omega
 have e2:B64^(j+(k+1))=B64^(j+k)*B64:=by rw[<-at5,at0]
 have e3:lx xs k*B64^k*d*B64^j=lx xs k*d*B64^(j+k):=by rw[atS];grind
 have e4:(s.toNat+(lx xs k*d+cy))*B64^(j+k)=(lx ys (j+k)+B64*cc.toNat)*B64^(j+k):=by rw[e]
 rw[e2];clear hs e hs0 hc0 hi hk;generalize B64^(j+k)=P at*;generalize B64^j=J at*;generalize B64^k=K at*;generalize val (ys.set (j+k) s.toNat)=a1 at*;generalize val ys=a2 at*;generalize val zs=a3 at*;generalize val (xs.take k)=a4 at*;generalize lx ys (j+k)=a5 at*;generalize lx xs k=a6 at*;generalize s.toNat=a7 at*;generalize cc.toNat=a8 at*;generalize B64=B at*;clear e2;grind
theorem aiE{d:Nat}(hn:xs.length+1=n)(hz:OwnN w g zs)(hx:NatP p w vx xs)(hp:∀b,p b->b≠g)(hl:j+xs.length<zs.length)(hzl:zs.length<=1099511627776)(hd:d<B64):
 Calls Tryz.prog 378 #[.slice (some ⟨g,j,none⟩) n c,vx,.int .u64 d] w fun e w'=>
  ∃bo:Nat,e=.returned (.int .u64 bo)/\bo<=1/\w.grownBy w' (some g)/\∃ys,OwnN w' g ys/\ys.length=zs.length/\val ys+d*val xs*B64^j=val zs+bo*B64^(j+n)/\ys.drop (j+n)=zs.drop (j+n):=by
 subst hn;have hok:=hx.ok;obtain⟨A,cx,rfl,h2,h3,h4,h5⟩:=hx;obtain⟨h3,h3b⟩:=h3;have h5':=hdd h5;clear h5;have hp':=hdd hp;clear hp;have HD:=hdd hd;clear hd;go_enter Tryz.func378,Tryz.ntmps378
 go_wp2_with fail
 go_loopw [7,16] (fun c k wr=>∃(kk cy:Nat) (ys:List Nat),kk<=xs.length/\k=.int .i64 kk/\c=.int .u64 cy/\Hid (cy<B64)/\Hid (OwnN wr g ys)/\Hid (ys.length=zs.length)/\Hid (w.grownBy wr (some g))/\
  Hid (val ys+d*val (xs.take kk)*B64^j=val zs+cy*B64^(j+kk))/\Hid (ys.drop (j+(xs.length+1))=zs.drop (j+(xs.length+1)))) (fun _ k _=>xs.length-(intOf k).toNat)
 case atStart=>exact⟨0,0,zs,auJ _,rfl,rfl,hdd bF,hdd hz,hdd rfl,hdd (World.grownBy.refl _ _),hdd (by simp[val]),hdd rfl⟩
 case round=>
  obtain⟨kk,cy,ys,hkk,rfl,rfl,hcy,hO,hL,hG,hV,hDr⟩:=hrel;have bz:=gM hO.out.2 (j+kk);have hLL:=hL.out;have hcz:wr.cell? ⟨g,j+kk,none⟩=some (.int .u64 (lx ys (j+kk):Nat)):=hO.out.cell (by omega);have hfz:wr.frozen? ⟨g,j+kk,none⟩=false:=hO.out.frozen _;have hi:j+kk<ys.length:=by omega
  have HLL:=hdd hLL;clear hLL;have BZ:=hdd bz;clear bz;by_cases hlt:kk<xs.length
  . obtain⟨b,off,rfl,hpb,hb,hcell⟩:=h5'.out (by omega)
    have hbg:=hp'.out b hpb;have hcx:wr.cell? ⟨b,off+kk,none⟩=some (.int .u64 (lx xs kk:Nat)):=(World.cell?_of_block (hG.out.block b hb (fun e=>hbg (by injection e)))).trans (hcell kk hlt);have BX:=hdd (gM hok kk);clear hcell hpb;have hdg:=adD (lx xs kk) d cy (lx ys (j+kk)) BX.out HD.out hcy.out BZ.out;obtain⟨d1,d2,d3,d4,d5,d6,d7,d8,d9⟩:=hdg;have hadd:=fun w=>eF (x:=((mulL (lx xs kk) d:Nat):Int)) (y:=((cy:Nat):Int)) (c:=0) (atK _) (atK _) (by omega) w;have hsub:=fun w=>mX (x:=((lx ys (j+kk):Nat):Int)) (y:=addS (mulL (lx xs kk) d:Nat) (cy:Nat) 0) (b:=0) ⟨atK _,dI BZ.out⟩ ⟨d8,d9⟩ (by omega) w;have HR:=hdd (afY ys zs xs j kk d cy _ _ hi hlt d6 (by omega) d1 hV.out);have HO:=hdd (hO.out.set_ (j+kk) d6 d7);have HG:=hdd (grownBy_set (i:=j+kk) hG.out (.int .u64 (subD (lx ys (j+kk):Nat) (addS (mulL (lx xs kk) d:Nat) (cy:Nat) 0) 0)));have hc0:0<=((mulH (lx xs kk) d:Nat):Int)+addC (mulL (lx xs kk) d:Nat) (cy:Nat) 0+subB (lx ys (j+kk):Nat) (addS (mulL (lx xs kk) d:Nat) (cy:Nat) 0) 0:=by omega
    clear d1;go_wp2_with (go_at_call 316;refine(fQ (lx xs kk) d BX.out HD.out _).mono ?_;rintro e w'⟨rfl,rfl⟩)
    go_roundw
    case rel=>exact⟨kk+1,_,_,by omega,by go_num,by rw[atY hc0],hdd (by unfold B64;omega),HO,hdd (by rw[atX];exact HLL.out),HG,HR,hdd (by rw[atT (by omega)];exact hDr.out)⟩
    case measure=>simp[intOf];omega
  . obtain rfl:kk=xs.length:=by omega
    have hsub:=fun w=>mX (x:=((lx ys (j+xs.length):Nat):Int)) (y:=((cy:Nat):Int)) (b:=0) ⟨atK _,dI BZ.out⟩ ⟨atK _,dI hcy.out⟩ (by omega) w;have bs:=oN (lx ys (j+xs.length):Nat) (cy:Nat) 0;have bc:=oO (lx ys (j+xs.length):Nat) (cy:Nat) 0;have sl:=sQ (x:=((lx ys (j+xs.length):Nat):Int)) (y:=((cy:Nat):Int)) (b:=0) ⟨atK _,dI BZ.out⟩ ⟨atK _,dI hcy.out⟩ (by omega);have HR:Hid (val (ys.set (j+xs.length) (subD (lx ys (j+xs.length):Nat) (cy:Nat) 0).toNat)+d*val xs*B64^j=val zs+(subB (lx ys (j+xs.length):Nat) (cy:Nat) 0).toNat*B64^(j+(xs.length+1))):=by
     refine hdd ?_;have h1:=fC ys (j+xs.length) (subD (lx ys (j+xs.length):Nat) (cy:Nat) 0).toNat hi;rw[<-dA hi]at h1;have e2:B64^(j+(xs.length+1))=B64^(j+xs.length)*B64:=by rw[<-at5,at0]
     have e:(subD (lx ys (j+xs.length):Nat) (cy:Nat) 0).toNat+cy=lx ys (j+xs.length)+B64*(subB (lx ys (j+xs.length):Nat) (cy:Nat) 0).toNat:=by unfold B64;omega
     have hv:=hV.out;rw[auD]at hv;rw[e2];have e4:((subD (lx ys (j+xs.length):Nat) (cy:Nat) 0).toNat+cy)*B64^(j+xs.length)=(lx ys (j+xs.length)+B64*(subB (lx ys (j+xs.length):Nat) (cy:Nat) 0).toNat)*B64^(j+xs.length):=by rw[e]
     clear e sl bs bc e2;generalize B64^(j+xs.length)=P at*;generalize B64^j=J at*;generalize (subD (lx ys (j+xs.length):Nat) (cy:Nat) 0).toNat=a1 at*;generalize (subB (lx ys (j+xs.length):Nat) (cy:Nat) 0).toNat=a2 at*;generalize val (ys.set (j+xs.length) a1)=a3 at*;generalize lx ys (j+xs.length)=a4 at*;generalize B64=B at*;grind
    have HO:=hdd (hO.out.set_ (j+xs.length) bs.1 bs.2);have HG:=hdd (grownBy_set (i:=j+xs.length) hG.out (.int .u64 (subD (lx ys (j+xs.length):Nat) (cy:Nat) 0)));clear sl;go_wp2;go_ret;exact⟨(subB (lx ys (j+xs.length):Nat) (cy:Nat) 0).toNat,sW (atY bc.1).symm,by omega,HG.out,_,HO.out,by rw[atX];exact HLL.out,HR.out,by rw[atT (by omega)];exact hDr.out⟩
theorem uO(xs:List Nat)(n:Nat)(hn:xs.length=n+1):val xs=val (xs.take n)+B64^n*lx xs n:=by
 have e:=bA xs n (by omega);have hd:xs.drop n=[lx xs n]:=by
  rw[dA (by omega),atL (by omega),at7 (by omega)]
 rw[hd]at e;simpa[val]using e
theorem aiF(ys vs:List Nat)(s:Nat)(hy:OkL ys)(ty:Tr ys)(hv:OkL vs)(tv:Tr vs)(hn:2<=ys.length)(hs:bits (lx ys (ys.length-1))+s=64)(he:val vs=val ys*2^s):
 vs.length=ys.length/\9223372036854775808<=lx vs (ys.length-1):=by
 have hne:ys≠[]:=by rintro rfl;simp at hn
 have hb:=jO ys hy ty hne;have hlast:ys.getLast hne=lx ys (ys.length-1):=by rw[dA (by omega),List.getLast_eq_getElem]
 rw[hlast]at hb;have hy0:val ys≠0:=fun h=>hne ((dF ys ty).1 h);have h1:=dZ (val ys) hy0;have h2:=bN (val ys);have hb1:1<=bits (lx ys (ys.length-1)):=by
  have:=ty hne;rw[hlast]at this;unfold bits;rw[if_neg this];omega
 have hup:val vs<B64^ys.length:=by
  rw[he,dY,<-auF];have:val ys*2^s<2^bits (val ys)*2^s:=Nat.mul_lt_mul_of_pos_right h2 (Nat.two_pow_pos s);rw[<-atS,hb,show 64*(ys.length-1)+bits (lx ys (ys.length-1))+s=64*ys.length by omega]at this;exact this
 have hlo:2^(64*ys.length-1)<=val vs:=by
  rw[he];have:2^(bits (val ys)-1)*2^s<=val ys*2^s:=atP _ h1;rw[<-atS,hb,show 64*(ys.length-1)+bits (lx ys (ys.length-1))-1+s=64*ys.length-1 by omega]at this;exact this
 have hlen:vs.length=ys.length:=by
  apply auG (bC vs tv _ hup);apply at6;intro h;have h3:=bH vs hv;have h4:B64^vs.length<=2^(64*ys.length-1):=by
   rw[dY,<-auF];exact Nat.pow_le_pow_right (by omega) (by omega)
  omega
 refine⟨hlen,?_⟩;have ht:=uO vs (ys.length-1) (by omega);have hl:=bH (vs.take (ys.length-1)) (hv.take _);rw[atQ,atU (by omega)]at hl;apply at6;intro h;have h5:B64^(ys.length-1)*(lx vs (ys.length-1)+1)<=B64^(ys.length-1)*9223372036854775808:=atN _ h;rw[at1]at h5;have h6:B64^(ys.length-1)*9223372036854775808=2^(64*ys.length-1):=by
  rw[dY,<-auF,show(9223372036854775808:Nat)=2^63 from rfl,<-atS]
  congr 1;omega
 omega
theorem top3(us:List Nat)(m:Nat)(hm:m+3<=us.length)(hu:OkL us)(h:val us<B64^(m+3)):
 ∃lo,val us=lo+B64^m*(lx us (m+2)*B64*B64+lx us (m+1)*B64+lx us m)/\lo<B64^m:=by
 have e:=bA us m (by omega);have e3:=bA us (m+3) hm;have hz:val (us.drop (m+3))=0:=by
  rcases atO (val (us.drop (m+3)))with h0|h0
  . exact h0
  . exfalso
    have:B64^(m+3)*1<=B64^(m+3)*val (us.drop (m+3)):=atN _ h0;omega
 have hl:=bH (us.take m) (hu.take m);rw[atQ,atU (by omega)]at hl;refine⟨val (us.take m),?_,hl⟩;rw[e]
 congr 2
 rw[atL (by omega:m<us.length),atL (by omega:m+1<us.length),atL (by omega:m+1+1<us.length)];simp only[val];have:m+1+1+1=m+3:=rfl;rw[this,hz,dA (by omega:m<us.length),dA (by omega:m+1<us.length),dA (by omega:m+2<us.length)];have e4:us[m+1+1]=us[m+2]:=rfl;rw[e4];grind
theorem top2(vs:List Nat)(m:Nat)(hm:vs.length=m+2)(hv:OkL vs):∃lo,val vs=lo+B64^m*(lx vs (m+1)*B64+lx vs m)/\lo<B64^m:=by
 have e:=bA vs m (by omega);have hl:=bH (vs.take m) (hv.take m);rw[atQ,atU (by omega)]at hl;refine⟨val (vs.take m),?_,hl⟩;rw[e]
 congr 2
 rw[atL (by omega:m<vs.length),atL (by omega:m+1<vs.length),at7 (by omega)];simp only[val];rw[dA (by omega:m<vs.length),dA (by omega:m+1<vs.length)];grind
theorem adE(us vs:List Nat)(j n q:Nat)(hn:vs.length=n)(hn2:2<=n)(hj:j+n<us.length)(hu:OkL us)(hv:OkL vs)(hlt:val us<val vs*B64^(j+1))(hq:q*(val vs*B64^j)<=val us):
 q*(lx vs (n-1)*B64+lx vs (n-2))<=lx us (j+n)*B64*B64+lx us (j+n-1)*B64+lx us (j+n-2):=by
 have hvl:=bH vs hv;rw[hn]at hvl;have hub:val us<B64^(j+n-2+3):=by
  have:val vs*B64^(j+1)<=B64^n*B64^(j+1):=atP _ (Nat.le_of_lt hvl);rw[<-atS,show n+(j+1)=j+n-2+3 by omega]at this;omega
 obtain⟨lo,hlo,hlo'⟩:=top3 us (j+n-2) (by omega) hu hub;obtain⟨lv,hlv,hlv'⟩:=top2 vs (n-2) (by omega) hv;rw[show j+n-2+2=j+n by omega,show j+n-2+1=j+n-1 by omega]at hlo;rw[show n-2+1=n-1 by omega]at hlv;refine aaN (val us) (val vs*B64^j) _ _ (B64^(j+n-2)) q lo (lv*B64^j) hlo hlo' ?_ hq;rw[hlv,show j+n-2=(n-2)+j by omega,atS];generalize B64^(n-2)=P;generalize B64^j=J;grind
theorem aiG(us vs:List Nat)(j n:Nat)(hn:vs.length=n)(hn2:2<=n)(hj:j+n<us.length)(hu:OkL us)(hv:OkL vs)(hlt:val us<val vs*B64^(j+1)):lx us (j+n)<=lx vs (n-1):=by
 have hvl:=bH vs hv;rw[hn]at hvl;have ht:=uO vs (n-1) (by omega);have htl:=bH (vs.take (n-1)) (hv.take _);rw[atQ,atU (by omega)]at htl;have e:=bA us (j+n) (by omega);have hd:us.drop (j+n)=lx us (j+n)::us.drop (j+n+1):=by rw[dA hj];exact atL hj
 rw[hd]at e;simp only[val]at e;apply at6;intro h;have h1:B64^(j+n)*(lx vs (n-1)+1)<=B64^(j+n)*lx us (j+n):=atN _ h;have h2:B64^(j+n)*lx us (j+n)<=val us:=by rw[e,at1];omega
 have h3:val vs*B64^(j+1)<=B64^(n-1)*(lx vs (n-1)+1)*B64^(j+1):=atP _ (by rw[at1];omega);have h4:B64^(n-1)*(lx vs (n-1)+1)*B64^(j+1)=B64^(j+n)*(lx vs (n-1)+1):=by
  rw[show j+n=(n-1)+(j+1) by omega,atS];grind
 omega
theorem q_lt(u v j:Nat)(hv:0<v)(h:u<v*B64^(j+1)):u/(v*B64^j)<B64:=by
 rw[atW (Nat.mul_pos hv (Nat.pow_pos bF))];rw[at0]at h;have:v*(B64^j*B64)=B64*(v*B64^j):=by grind
 omega
theorem uP(ys zs:List Nat)(m:Nat)(hm:m<=ys.length)(hm':m<=zs.length)(hy:OkL ys)(hd:ys.drop m=zs.drop m)(hz:val zs<B64^m):val ys<B64^m:=by
 have e1:=bA ys m hm;have e2:=bA zs m hm';have h0:val (zs.drop m)=0:=by
  rcases atO (val (zs.drop m))with h0|h0
  . exact h0
  . exfalso
    have:B64^m*1<=B64^m*val (zs.drop m):=atN _ h0;omega
 have hl:=bH (ys.take m) (hy.take m);rw[atQ,atU hm]at hl;rw[e1,hd,h0];omega
theorem afZ(u u1 v J d:Nat)(hvJ:0<v*J)(hq:u/(v*J)<=d)(h:u1+d*v*J=u+0*0):d=u/(v*J)/\u1<v*J:=by
 have h1:d*(v*J)<=u:=by rw[<-auB];omega
 have h2:d<=u/(v*J):=(Nat.le_div_iff_mul_le hvJ).2 h1;have h3:d=u/(v*J):=auG h2 hq;refine⟨h3,?_⟩;have h4:=auE u (v*J);have h5:=auK u hvJ;rw[<-h3,atV (v*J) d,<-auB]at h4;omega
theorem af0(u u1 v J d M:Nat)(hvJ:0<v*J)(h:u1+d*v*J=u+1*M)(hu1:u1<M):u/(v*J)<d:=by
 rw[atW hvJ,<-auB];omega
theorem al2(q' q v u u1 d J T M:Nat)(e1:q'=q+d*J)(e2:u1+d*v*J=u+0*M)(e3:q*v+u=T):q'*v+u1=T:=by
 subst e1 e3;grind
theorem al3(u2 u1 u v J d cy M:Nat)(hd:1<=d)(hc:cy<=1)(e1:u1+d*v*J=u+1*M)(e2:u2+cy*M=u1+v*J):u2+(d-1)*v*J=u+(1-cy)*M:=by
 obtain⟨d',rfl⟩:∃d',d=d'+1:=⟨d-1,by omega⟩;rw[atZ];have hcc:cy=0\/cy=1:=by omega
 rcases hcc with rfl|rfl<;>grind
theorem aiH(q u x y P:Nat)(hP:0<P)(h:q*(y*P)+u=x*P)(hu:u<y*P):q=x/y/\u/P=x%y:=by
 have h1:x*P/(y*P)=x/y:=Nat.mul_div_mul_right _ _ hP;have h2:x*P%(y*P)=x%y*P:=Nat.mul_mod_mul_right _ _ _;rw[<-h,atV q]at h1 h2;rw[Nat.mul_add_div (by omega),Nat.div_eq_of_lt hu,auH]at h1;rw[Nat.mul_add_mod,Nat.mod_eq_of_lt hu]at h2;exact⟨h1,by rw[h2,Nat.mul_div_cancel _ hP]⟩
end Go.Proofs.YtigoiiekebccnaaGreatDoor
