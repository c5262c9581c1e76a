/- A part of the proof: contracts of functions and plain laws (NatI, NatJ, NatL). -/
import Derived.Test.YtjaafolhfihegaaGreatDoorU02
set_option linter.unusedVariables false
set_option linter.unusedSimpArgs false
set_option maxHeartbeats 25600000
set_option maxRecDepth 100000
namespace Go.Proofs.YtjaafolhfihegaaGreatDoor
open Go.RowKit
open Int renaming natCast_add->asW,natCast_one->asX,natCast_nonneg->asY,toNat_natCast->as4
open List renaming length_set->as0,take_length->as5
open Nat renaming add_sub_cancel->asZ,mul_le_mul_right->as1,mul_le_mul->as2,add_mul->as3,le_of_not_lt->as6,le_of_lt->as7,zero_le->as8
variable{xs ys:List Nat}{p q:Nat->Prop}{va vb:Value}{w:World}
def mulH(x y:Nat):Nat:=x*y/B64
def mulL(x y:Nat):Nat:=x*y%B64
theorem gZ(x y:Nat)(hx:x<B64)(hy:y<B64)(w:World):
 Calls Tryz.prog 255 #[.int .u64 x,.int .u64 y] w fun e w'=>e=.returned (.tuple #[.int .u64 (mulH x y:Nat),.int .u64 (mulL x y:Nat)])/\w'=w:=
 Tryz.bits_Mul64 x y hx hy w
theorem zX(x y:Nat):B64*mulH x y+mulL x y=x*y:=Nat.div_add_mod _ _
theorem qF(x y:Nat):mulL x y<B64:=Nat.mod_lt _ bS
theorem zY(x y z cy:Nat)(hx:x<B64)(hy:y<B64)(hz:z<B64)(hc:cy<B64):
 let s1:=addS (mulL x y:Nat) (z:Nat) 0;let c1:=addC (mulL x y:Nat) (z:Nat) 0
 let s2:=addS s1 (cy:Nat) 0;let c2:=addC s1 (cy:Nat) 0
 s2+18446744073709551616*((mulH x y:Nat)+c1+c2)=(x*y+z+cy:Nat)/\(mulH x y:Nat)+c1<=18446744073709551615/\(mulH x y:Nat)+c1+c2<=18446744073709551615/\0<=c1/\0<=c2/\0<=s2/\s2<18446744073709551616/\0<=s1/\s1<18446744073709551616:=by
 intro s1 c1 s2 c2;have h1:=zX x y;have h2:=qF x y;have h3:x*y<=(B64-1)*(B64-1):=as2 (by omega) (by omega);have h4:(B64-1)*(B64-1)+2*(B64-1)+1=B64*B64:=by decide
 have hB:B64=18446744073709551616:=rfl;have e1:=jC (mulL x y:Nat) (z:Nat) 0;have e2:=jC s1 (cy:Nat) 0;have b1:=iF (mulL x y:Nat) (z:Nat) 0;have b2:=iF s1 (cy:Nat) 0;have c1b:=iG (x:=((mulL x y:Nat):Int)) (y:=((z:Nat):Int)) (c:=0) (by omega) (by omega) (by omega);have c2b:=iG (x:=s1) (y:=((cy:Nat):Int)) (c:=0) b1 (by omega) (by omega);have hs1:s1=addS (mulL x y:Nat) (z:Nat) 0:=rfl;have hc1:c1=addC (mulL x y:Nat) (z:Nat) 0:=rfl;have hs2:s2=addS s1 (cy:Nat) 0:=rfl;have hc2:c2=addC s1 (cy:Nat) 0:=rfl;rw[<-hs1]at e1 b1;rw[<-hc1]at e1 c1b;rw[<-hs2]at e2 b2;rw[<-hc2]at e2 c2b
 clear_value s1 c1 s2 c2
 rw[hB]at h1 h4;generalize x*y=xy at*;have h3':xy<=18446744073709551615*18446744073709551615:=h3
 push_cast
 refine⟨by omega,by omega,by omega,c1b.1,c2b.1,b2.1,b2.2,b1.1,b1.2⟩
theorem adU(z' z0 z P s B hi T xv t a:Nat)(h1:z'+z0*P=z+s*P)(h2:s+B*hi=T+z0+a)(h:z+a*P=t):z'+hi*(P*B)=t+T*P:=by
 have:(s+B*hi)*P=(T+z0+a)*P:=by rw[h2]
 grind
theorem abH(zs xs ys:List Nat)(i j cy:Nat)(s:Int)(hi:Int)(hij:i+j<zs.length)(hj:j<ys.length)(h0:0<=s)(h0':0<=hi)
 (hs:s+18446744073709551616*hi=(lx xs i*lx ys j+lx zs (i+j)+cy:Nat))
 (h:val zs+cy*B64^(i+j)=val (xs.take i)*val ys+lx xs i*val (ys.take j)*B64^i):
 val (zs.set (i+j) s.toNat)+hi.toNat*B64^(i+(j+1))=val (xs.take i)*val ys+lx xs i*val (ys.take (j+1))*B64^i:=by
 have h1:=fZ zs (i+j) s.toNat hij;rw[<-dL hij]at h1;rw[cB ys j hj,<-dL hj];have e:s.toNat+B64*hi.toNat=lx xs i*lx ys j+lx zs (i+j)+cy:=by unfold B64;omega
 have e2:B64^(i+(j+1))=B64^(i+j)*B64:=by rw[<-Nat.add_assoc,Nat.pow_succ]
 rw[e2,adU _ _ _ _ _ _ _ _ 0 _ _ h1 e h,Nat.pow_add];grind
theorem yK(zs:List Nat)(i m x:Nat)(him:i<m)(hz:∀j,m<=j->j<zs.length->lx zs j=0):∀j,m<=j->j<(zs.set i x).length->lx (zs.set i x) j=0:=by
 intro j h1 h2;rw[as0]at h2;have:=hz j h1 h2;rw[dL (by rw[as0];exact h2),List.getElem_set_ne (by omega)];rwa[dL h2]at this
theorem adV(hx:NatP p w va xs)(hy:NatP q w vb ys)(hL:xs.length+ys.length<=1099511627776):
 Calls Tryz.prog 252 #[va,vb] w (RetN w.heap.size w (val xs*val ys)):=by
 have hox:=hdd hx.ok;have hoy:=hdd hy.ok;obtain⟨A,c,rfl,h2,h3,-,h5⟩:=hx;obtain⟨h3,h3b⟩:=h3;obtain⟨A',c',rfl,h2',h3',-,h5'⟩:=hy;obtain⟨h3',h3b'⟩:=h3';have H5:=hdd h5;clear h5;have H5':=hdd h5';clear h5';go_enter Tryz.func252,Tryz.ntmps252
 go_wp2_with (first
  |(at_make;refine dB _ rfl (.tmp 18) (.tmp 18) rfl .i64 .i64 _ (xs.length+ys.length) rfl rfl (by omega) (by omega) w.heap.size w (Below.refl _ _) nlr ?_;intro w1 hO1 hb1 hbb1 hs1)
  |fail)
 go_loopw [22] (fun i wr=>∃(k:Nat) (zs:List Nat),k<=xs.length/\i=.int .i64 k/\Hid (OwnN wr w.heap.size zs)/\Hid (zs.length=xs.length+ys.length)/\Hid (Below w.heap.size w wr)/\
  Hid (val zs=val (xs.take k)*val ys)/\Hid (∀j,k+ys.length<=j->j<zs.length->lx zs j=0)) (fun i _=>xs.length-(intOf i).toNat)
 case atStart=>
  exact⟨0,_,as8 _,rfl,hO1,hdd (by simp),hdd hb1,hdd (by rw[bG];simp[val]),hdd (fun j _ hj=>by rw[dL hj];simp)⟩
 case round=>
  obtain⟨k,zs,hk,rfl,hO,hLz,hB,hV,hZ⟩:=hrel;by_cases hlt:k<xs.length
  . obtain⟨b,off,rfl,-,hblt,hcell⟩:=H5.out (by omega)
    have hcx:wr.cell? ⟨b,off+k,none⟩=some (.int .u64 (lx xs k:Nat)):=(hB.out.cell (p:=⟨b,off+k,none⟩) hblt).trans (hcell k hlt);clear hcell;obtain⟨wo,rfl⟩:∃wo:World,wo=wr:=⟨_,rfl⟩;go_wp2_with fail
    go_loopw [8,29] (fun cc i wr=>∃(j cy:Nat) (zs:List Nat),j<=ys.length/\i=.int .i64 j/\cc=.int .u64 (cy:Nat)/\Hid (cy<B64)/\Hid (OwnN wr w.heap.size zs)/\Hid (zs.length=xs.length+ys.length)/\Hid (Below w.heap.size w wr)/\
     Hid (val zs+cy*B64^(k+j)=val (xs.take k)*val ys+lx xs k*val (ys.take j)*B64^k)/\Hid (∀j,k+ys.length<=j->j<zs.length->lx zs j=0)) (fun _ i _=>ys.length-(intOf i).toNat)
    case atStart=>exact⟨0,0,zs,as8 _,rfl,rfl,hdd bS,hO,hLz,hB,hdd (by have:=hV.out;simp[val,this]),hZ⟩
    case round=>
     clear hO hLz hB hV hZ hcx;obtain⟨j,cy,zs,hj,rfl,rfl,hcy,hO,hLz,hB,hV,hZ⟩:=hrel;by_cases hjt:j<ys.length
     . obtain⟨b2,off2,rfl,-,hblt2,hcell2⟩:=H5'.out (by omega)
       have hcy2:wr.cell? ⟨b2,off2+j,none⟩=some (.int .u64 (lx ys j:Nat)):=(hB.out.cell (p:=⟨b2,off2+j,none⟩) hblt2).trans (hcell2 j hjt);clear hcell2;have hcz:wr.cell? ⟨w.heap.size,k+j,none⟩=some (.int .u64 (lx zs (k+j):Nat)):=hO.out.cell (by rw[hLz.out];omega);have hfz:wr.frozen? ⟨w.heap.size,k+j,none⟩=false:=hO.out.frozen _;have bx:=iP hox.out k;have by_:=iP hoy.out j;have bz:=iP hO.out.2 (k+j);have hd:=zY (lx xs k) (lx ys j) (lx zs (k+j)) cy bx by_ bz hcy.out;obtain⟨d1,d2,d3,d4,d5,d6,d7,d8,d9⟩:=hd;have HV:=hdd (abH zs xs ys k j cy _ _ (by rw[hLz.out];omega) hjt d6 (by omega) d1 hV.out);have HO:=hdd (hO.out.set_ (k+j) d6 d7);have HB:=hdd (hB.out.setCell (p:=⟨w.heap.size,k+j,none⟩) nlr (.int .u64 (addS (addS (mulL (lx xs k) (lx ys j):Nat) (lx zs (k+j):Nat) 0) (cy:Nat) 0)));have HZ:=hdd (yK zs (k+j) (k+ys.length) (addS (addS (mulL (lx xs k) (lx ys j):Nat) (lx zs (k+j):Nat) 0) (cy:Nat) 0).toNat (by omega) hZ.out);clear d1;have hadd1:=fun w=>fG (x:=((mulL (lx xs k) (lx ys j):Nat):Int)) (y:=((lx zs (k+j):Nat):Int)) (c:=0) (asY _) (asY _) (by omega) w
       have hadd2:=fun w=>fG (x:=addS (mulL (lx xs k) (lx ys j):Nat) (lx zs (k+j):Nat) 0) (y:=((cy:Nat):Int)) (c:=0) d8 (asY _) (by omega) w;go_wp2_with (go_at_call 255;refine(gZ (lx xs k) (lx ys j) bx by_ _).mono ?_;rintro e w'⟨rfl,rfl⟩)
       go_roundw
       case rel=>exact⟨j+1,_,_,by omega,by go_num,by rw[Int.toNat_of_nonneg (by omega)],hdd (by unfold B64;omega),HO,hdd (by rw[as0];exact hLz.out),HB,HV,HZ⟩
       case measure=>simp[intOf];omega
     . obtain rfl:j=ys.length:=by omega
       have hzl:=hLz.out;have hcz:wr.cell? ⟨w.heap.size,k+ys.length,none⟩=some (.int .u64 (lx zs (k+ys.length):Nat)):=hO.out.cell (by omega);have hfz:wr.frozen? ⟨w.heap.size,k+ys.length,none⟩=false:=hO.out.frozen _;have hcy':=dW hcy.out;have hz0:=hZ.out (k+ys.length) nlr (by omega);have h1:=fZ zs (k+ys.length) cy (by omega);rw[<-dL (by omega),hz0]at h1;have hVs:val (zs.set (k+ys.length) cy)=val (xs.take (k+1))*val ys:=by
        have:=hV.out;rw[as5]at this;rw[cB xs k hlt,<-dL hlt];grind
       have HV:=hdd hVs;have hO':=hO.out.set_ (k+ys.length) (x:=((cy:Nat):Int)) (asY _) hcy';rw[as4]at hO';have HO:=hdd hO';have HB:=hdd (hB.out.setCell (p:=⟨w.heap.size,k+ys.length,none⟩) nlr (.int .u64 (cy:Nat)));have HZ:Hid (∀j,k+1+ys.length<=j->j<(zs.set (k+ys.length) cy).length->lx (zs.set (k+ys.length) cy) j=0):=
        hdd (yK zs (k+ys.length) (k+1+ys.length) cy (by omega) (fun j h1 h2=>hZ.out j (by omega) h2))
       clear h1 hVs hO' hz0 hzl hcy';go_wp2
       go_roundw
       case rel=>exact⟨k+1,_,by omega,by go_num,HO,hdd (by rw[as0];exact hLz.out),HB,HV,HZ⟩
       case measure=>simp[intOf];omega
  . obtain rfl:k=xs.length:=by omega
    go_wp2_with fail
    refine(aO (hO.out.natP (p:=fun b=>w.heap.size<=b) hLz.out nlr (by omega) nlr)).mono ?_;rintro e w4⟨rfl,v,ys',rfl,hv4,ht4,hval,-⟩;go_wp2;go_ret;exact RetN.of hB.out hv4 ht4 (by rw[hval,hV.out,as5])
theorem bO(xs:List Nat)(ht:Tr xs)(L:Nat)(h:val xs<B64^L):xs.length<=L:=by
 rcases Nat.lt_or_ge L xs.length with h1|h1
 . exfalso
   have hn:xs≠[]:=by rintro rfl;simp at h1
   have h2:=kW xs ht hn;have h3:B64^L<=B64^(xs.length-1):=Nat.pow_le_pow_right bS (by omega);omega
 . exact h1
theorem dY(xs ys:List Nat)(hx:Tr xs)(hy:OkL ys)(h:val xs<=val ys):xs.length<=ys.length:=
 bO xs hx _ (Nat.lt_of_le_of_lt h (bT ys hy))
def abI(B:Nat)(w0:World)(n:Nat)(b:Bool)(e:Ending)(w':World):Prop:=
 Below B w0 w'/\∃v ys,e=.returned (.tuple #[v,.bool b])/\NatP (fun b=>B<=b) w' v ys/\Tr ys/\val ys=n
def gB(a b:Nat):Nat:=if a<b then b-a else a-b
theorem below_drewN(w:World)(n:Nat):Below w.heap.size w (w.drewN n):=⟨rfl,rfl,rfl,Nat.le_refl _,fun _ _=>rfl⟩
theorem ae1(hx:NatP p w va xs)(hy:NatP q w vb ys):
 Calls Tryz.prog 253 #[va,vb] w (abI w.heap.size w (gB (val xs) (val ys)) (decide (val xs<val ys))):=by
 go_enter Tryz.func253,Tryz.ntmps253
 go_wp2_with fail
 refine(aO hx).mono ?_;rintro e w1⟨rfl,v1,xs1,rfl,hv1,ht1,hval1,-⟩;go_wp2_with fail
 refine(aO hy).mono ?_;rintro e w1⟨rfl,v2,ys1,rfl,hv2,ht2,hval2,-⟩;have HV1:=hdd hval1;have HV2:=hdd hval2;have HT1:=hdd ht1;have HT2:=hdd ht2;have H1:=hdd hv1;have H2:=hdd hv2;have hlt0:=hdd (show(val xs<val ys)↔(val xs1<val ys1) by rw[hval1,hval2]);clear hval1 hval2 hx hy ht1 ht2 hv1 hv2;go_wp2_with fail
 refine(nY H1.out H2.out).mono ?_;rintro e w1⟨rfl,k,rfl⟩;by_cases h:val xs1<val ys1
 . have hc:cmpN (val xs1) (val ys1)=-1:=by unfold cmpN;rw[if_pos h]
   rw[hc];have h':=hdd h;clear h hc;go_wp2_with fail
   refine(qE (w:=w.drewN k) (H2.out.below (below_drewN w k)) (H1.out.below (below_drewN w k)) (dY _ _ HT1.out H2.out.ok (as7 h'.out)) (as7 h'.out)).mono ?_;rintro e w2⟨hb,v,zs,rfl,hz,htz,hvz⟩;have hfin:abI w.heap.size w (gB (val xs) (val ys)) (decide (val xs<val ys)) (.returned (.tuple #[v,.bool true])) w2:=by
    refine⟨(below_drewN w k).trans hb,v,zs,?_,hz,htz,?_⟩
    . rw[decide_eq_true (hlt0.out.2 h'.out)]
    . rw[hvz];unfold gB;rw[if_pos (hlt0.out.2 h'.out),HV1.out,HV2.out]
   have HF:=hdd hfin;clear hb hz htz hvz hfin;go_wp2
   go_ret2
   exact HF.out
 . have hc:¬cmpN (val xs1) (val ys1)<0:=by unfold cmpN;rw[if_neg h];split<;>omega
   obtain⟨u,hu⟩:∃u,u=cmpN (val xs1) (val ys1):=⟨_,rfl⟩;rw[<-hu]at hc|-;clear hu;have h':=hdd h;clear h;go_wp2_with fail
   refine(qE (w:=w.drewN k) (H1.out.below (below_drewN w k)) (H2.out.below (below_drewN w k)) (dY _ _ HT2.out H1.out.ok (as6 h'.out)) (as6 h'.out)).mono ?_;rintro e w2⟨hb,v,zs,rfl,hz,htz,hvz⟩;have hfin:abI w.heap.size w (gB (val xs) (val ys)) (decide (val xs<val ys)) (.returned (.tuple #[v,.bool false])) w2:=by
    refine⟨(below_drewN w k).trans hb,v,zs,?_,hz,htz,?_⟩
    . rw[decide_eq_false (fun h=>h'.out (hlt0.out.1 h))]
    . rw[hvz];unfold gB;rw[if_neg (fun h=>h'.out (hlt0.out.1 h)),HV1.out,HV2.out]
   have HF:=hdd hfin;clear hb hz htz hvz hfin;go_wp2
   go_ret2
   exact HF.out
theorem gN{a b q r:Int}(h:(q,r)=(a,b)):Ending.returned (.tuple #[.int .u64 a,.int .u64 b])=.returned (.tuple #[.int .u64 q,.int .u64 r]):=by
 injection h with h1 h2;rw[h1,h2]
theorem gP(a b:Nat)(h:a*b<18446744073709551616):IntKind.u64.wrap ((a:Int)*b)=(a*b:Nat):=by
 rw[IntKind.wrap_u64,<-Int.natCast_mul];omega
theorem oC(a b:Nat)(h:(a+1)*b<18446744073709551616):IntKind.u64.wrap (((a:Int)+1)*b)=((a+1)*b:Nat):=by
 have:=gP (a+1) b h;rwa[asW,asX]at this
theorem dX(q n:Nat)(hq:q<4294967296)(hn:n<4294967296):q*n<18446744073709551616:=by
 have:q*n<=4294967295*4294967295:=as2 (by omega) (by omega);omega
theorem mU(QT Q R N1 N0 U L Y:Nat)(hY:Y=N1*4294967296+N0/\0<N1)(hT:QT=(U*4294967296+L)/Y)(hU:U=Q*N1+R)(hge:QT<=Q)(h:Q*N0<=4294967296*R+L):Q=QT:=by
 have h1:Q*Y<=U*4294967296+L:=by rw[hY.1,hU];grind
 have h2:Q<=QT:=by rw[hT,Nat.le_div_iff_mul_le (by omega)];exact h1
 omega
theorem vL(QT U L Y:Nat)(hL:L<4294967296)(hT:QT=(U*4294967296+L)/Y)(hUY:U<Y):QT<4294967296:=by
 rw[hT,Nat.div_lt_iff_lt_mul (by omega)];have:(U+1)*4294967296<=Y*4294967296:=as1 _ hUY;omega
theorem uF(QT Q R N1 N0 U L Y:Nat)(hY:Y=N1*4294967296+N0/\0<N1)(hT:QT=(U*4294967296+L)/Y)(hU:U=Q*N1+R)(hge:QT<=Q)(hUY:U<Y/\L<4294967296)(hN0:N0<4294967296)(h:¬(Q<4294967296/\Q*N0<=4294967296*R+L)):QT<Q:=by
 by_cases hq:Q<4294967296
 . have h1:4294967296*R+L<Q*N0:=by omega
   apply Nat.lt_of_not_le;intro hle;have h2:Q*Y<=QT*Y:=as1 _ hle;have h3:QT*Y<=U*4294967296+L:=by rw[hT];exact Nat.div_mul_le_self _ _
   have h4:Q*Y=Q*N1*4294967296+Q*N0:=by rw[hY.1];grind
   rw[hU]at h3;generalize Q*N1=a at*;generalize Q*N0=b at*;generalize QT*Y=d at*;omega
 . have:=vL QT U L Y hUY.2 hT hUY.1
   omega
theorem oD(QT Q R N1 N0 U L Y:Nat)(hY:Y=N1*4294967296+N0/\0<N1)(hT:QT=(U*4294967296+L)/Y)(hU:U=Q*N1+R)(hge:QT<=Q)(hUY:U<Y/\L<4294967296)(hN0:N0<4294967296)(h:4294967296<=R):Q=QT:=by
 have hq:Q<4294967296:=by
  have h1:Q*N1<N1*4294967296:=by
   have:=hY.1;generalize Q*N1=a at*;omega
  rw[Nat.mul_comm N1]at h1;exact Nat.lt_of_mul_lt_mul_right h1
 refine mU QT Q R N1 N0 U L Y hY hT hU hge ?_;have h2:Q*N0<=4294967295*4294967295:=as2 (by omega) (by omega);omega
theorem adW(hi lo y s:Nat)(w:World)(hy:y<18446744073709551616)(hlt:hi<y)(hlo:lo<18446744073709551616)(h0:0<hi)(hs:Lib.bitLen y=64-s)(hs':s<64)
 (Y N1 N0 U L L1 L0 Q1 V Q2 W g1 p1 r1 g2 p2 r2 A1 B1 A2 B2:Nat)
 (eY:IntKind.u64.wrap ((y:Int)*2^s)=(Y:Int)) (eN1:(Y:Int)/4294967296=(N1:Int)) (eN0:Go.bits BinOp.and IntKind.u64 (Y:Int) 4294967295=(N0:Int)) (pN1:2147483648<=N1) (pN1':N1<4294967296) (hN0:N0<4294967296)
 (eU:Go.bits BinOp.or IntKind.u64 (IntKind.u64.wrap ((hi:Int)*2^s)) ((lo:Int)/2^(64-s))=(U:Int)) (eL:IntKind.u64.wrap ((lo:Int)*2^s)=(L:Int)) (eL1:(L:Int)/4294967296=(L1:Int)) (eL0:Go.bits BinOp.and IntKind.u64 (L:Int) 4294967295=(L0:Int))
 (pU:U<18446744073709551616) (HY:Hid (Y=N1*4294967296+N0/\0<N1)) (HQ1:Hid (Q1=(U*4294967296+L1)/Y)) (hUY:Hid (U<Y/\L1<4294967296)) (HQ2:Hid (Q2=(V*4294967296+L0)/Y)) (hVY:Hid (V<Y/\L0<4294967296))
 (eg1:(U:Int)/N1=(g1:Int)) (ep1:IntKind.u64.wrap ((g1:Int)*N1)=(p1:Int)) (er1:U=p1+r1) (hr1:r1<4294967296) (hg1':g1<17179869184) (hg1:Hid (U=g1*N1+r1)) (ht1:Hid (Q1<=g1))
 (eA1:IntKind.u64.wrap ((U:Int)*4294967296)=(A1:Int)) (hA1:A1+L1<18446744073709551616) (eB1:IntKind.u64.wrap ((Q1:Int)*Y)=(B1:Int)) (eV:IntKind.u64.wrap ((A1:Int)+L1-B1)=(V:Int)) (pV:V<18446744073709551616)
 (eg2:(V:Int)/N1=(g2:Int)) (ep2:IntKind.u64.wrap ((g2:Int)*N1)=(p2:Int)) (er2:V=p2+r2) (hr2:r2<4294967296) (hg2':g2<17179869184) (hg2:Hid (V=g2*N1+r2)) (ht2:Hid (Q2<=g2))
 (eA2:IntKind.u64.wrap ((V:Int)*4294967296)=(A2:Int)) (hA2:A2+L0<18446744073709551616) (eB2:IntKind.u64.wrap ((Q2:Int)*Y)=(B2:Int)) (eW:IntKind.u64.wrap ((A2:Int)+L0-B2)=(W:Int))
 (pQ1:Q1<4294967296) (pQ2:Q2<4294967296) (pL1:L1<4294967296) (pL0:L0<4294967296) (q r:Int) (hfin:Hid ((q,r)=((Q1:Int)*4294967296+Q2,(W:Int)/2^s))):
 Calls Tryz.prog 245 #[.int .u64 hi,.int .u64 lo,.int .u64 y] w fun e w'=>e=.returned (.tuple #[.int .u64 q,.int .u64 r])/\w'=w:=by
 have b0:((y:Int)==0)=false:=beq_eq_false_iff_ne.2 (by omega);have b1:((hi:Int)==0)=false:=beq_eq_false_iff_ne.2 (by omega);have es:(64:Int)-(Lib.bitLen y:Int)=s:=by omega
 have ES:=hdd es;clear es hs;have hr1e:(U:Int)-(p1:Int)=(r1:Int):=by omega
 have hr2e:(V:Int)-(p2:Int)=(r2:Int):=by omega
 clear er1 er2;go_enter Tryz.func245,Tryz.ntmps245
 go_wp2_with (go_at_call 246;refine(Tryz.bits_LeadingZeros64 (y:Int) _ (by omega) (by omega)).mono ?_;rintro e w'⟨rfl,rfl⟩;rw[as4,ES.out])
 go_loop [15,16] (fun q r=>∃Q R:Nat,q=.int .u64 Q/\r=.int .u64 R/\R<4294967296/\Q<17179869184/\Hid (U=Q*N1+R)/\Hid (Q1<=Q)) (fun q _=>(intOf q).toNat)
 case atStart=>exact⟨g1,r1,rfl,by go_num,by omega,by omega,hg1,ht1⟩
 case round=>
  obtain⟨Q,R,rfl,rfl,hR,hQ,hU,hT⟩:=hrel;by_cases hex:Q<4294967296/\Q*N0<=4294967296*R+L1
  . obtain⟨hq1,hq2⟩:=hex
    obtain rfl:Q1=Q:=(mU Q1 Q R N1 N0 U L1 Y HY.out HQ1.out hU.out hT.out hq2).symm;have eM:IntKind.u64.wrap ((Q1:Int)*N0)=(Q1*N0:Nat):=gP _ _ (dX _ _ hq1 hN0);obtain⟨M,hM⟩:∃M,M=Q1*N0:=⟨_,rfl⟩;rw[<-hM]at eM hq2;have hq3:(M:Int)<=4294967296*(R:Int)+L1:=by omega
    have hd2:decide ((4294967296:Int)*(R:Int)+L1<(M:Int))=false:=decide_eq_false (by omega);have hq4:(Q1:Int)<4294967296:=by omega
    have hd1:decide ((4294967296:Int)<=(Q1:Int))=false:=decide_eq_false (by omega);clear hq1;clear hM hT hq2;go_wp2_with fail
    go_loop [18,16] (fun q r=>∃Q R:Nat,q=.int .u64 Q/\r=.int .u64 R/\R<4294967296/\Q<17179869184/\Hid (V=Q*N1+R)/\Hid (Q2<=Q)) (fun q _=>(intOf q).toNat)
    case atStart=>exact⟨g2,r2,rfl,by go_num,by omega,by omega,hg2,ht2⟩
    case round=>
     obtain⟨Q,R,rfl,rfl,hR,hQ,hU,hT⟩:=hrel;by_cases hex:Q<4294967296/\Q*N0<=4294967296*R+L0
     . obtain⟨hq1,hq2⟩:=hex
       obtain rfl:Q2=Q:=(mU Q2 Q R N1 N0 V L0 Y HY.out HQ2.out hU.out hT.out hq2).symm;have eM:IntKind.u64.wrap ((Q2:Int)*N0)=(Q2*N0:Nat):=gP _ _ (dX _ _ hq1 hN0);obtain⟨M,hM⟩:∃M,M=Q2*N0:=⟨_,rfl⟩;rw[<-hM]at eM hq2;have hq3:(M:Int)<=4294967296*(R:Int)+L0:=by omega
       have hd2:decide ((4294967296:Int)*(R:Int)+L0<(M:Int))=false:=decide_eq_false (by omega);have hq4:(Q2:Int)<4294967296:=by omega
       have hd1:decide ((4294967296:Int)<=(Q2:Int))=false:=decide_eq_false (by omega);clear hq1;clear hM hT hq2;go_wp2_with fail
       go_wp2
       go_ret2
       exact⟨gN hfin.out,rfl⟩
     . have hdec:=uF Q2 Q R N1 N0 V L0 Y HY.out HQ2.out hU.out hT.out hVY.out hN0 hex
       have hQ0:0<Q:=by omega
       have HU2:Hid (V=(Q-1)*N1+(R+N1)):=hdd (by rw[hU.out];obtain⟨k,rfl⟩:∃k,Q=k+1:=⟨Q-1,by omega⟩;rw[asZ,as3];omega);by_cases hbr:4294967296<=R+N1
       . obtain rfl:Q=Q2+1:=by
          have:=oD Q2 (Q-1) (R+N1) N1 N0 V L0 Y HY.out HQ2.out HU2.out (by omega) hVY.out hN0 hbr;omega
         by_cases hq1:Q2+1<4294967296
         . have eM:IntKind.u64.wrap (((Q2:Int)+1)*N0)=((Q2+1)*N0:Nat):=oC _ _ (dX _ _ hq1 hN0)
           have hq4:((Q2+1:Nat):Int)<4294967296:=by omega
           rw[asW,asX]at hq4;have hd1:decide ((4294967296:Int)<=(Q2:Int)+1)=false:=decide_eq_false (by omega);have hb4:(4294967296:Int)<=(R:Int)+N1:=by omega
           have hd3:decide ((4294967296:Int)<=(R:Int)+N1)=true:=decide_eq_true hb4;obtain⟨M,hM⟩:∃M,M=(Q2+1)*N0:=⟨_,rfl⟩;have hm1:4294967296*R+L0<M:=by rw[hM];omega
           have hm2:4294967296*(R:Int)+L0<(M:Int):=by omega
           clear hm1;have hd2:decide ((4294967296:Int)*(R:Int)+L0<(M:Int))=true:=decide_eq_true hm2;rw[<-hM]at eM;clear hM hT hU HU2 hex hdec;go_wp2_with fail
           go_wp2
           go_ret2
           exact⟨gN hfin.out,rfl⟩
         . have hq4:(4294967296:Int)<=((Q2+1:Nat):Int):=by omega
           rw[asW,asX]at hq4;have hd1:decide ((4294967296:Int)<=(Q2:Int)+1)=true:=decide_eq_true hq4;have hb4:(4294967296:Int)<=(R:Int)+N1:=by omega
           have hd3:decide ((4294967296:Int)<=(R:Int)+N1)=true:=decide_eq_true hb4;clear hT hU HU2 hex hdec;go_wp2_with fail
           go_wp2
           go_ret2
           exact⟨gN hfin.out,rfl⟩
       . have HT2:Hid (Q2<=Q-1):=hdd (by omega)
         by_cases hq1:Q<4294967296
         . have eM:IntKind.u64.wrap ((Q:Int)*N0)=(Q*N0:Nat):=gP _ _ (dX _ _ hq1 hN0)
           have hq4:((Q:Nat):Int)<4294967296:=by omega
           have hd1:decide ((4294967296:Int)<=(Q:Int))=false:=decide_eq_false (by omega);have hb4:(R:Int)+N1<4294967296:=by omega
           have hd3:decide ((4294967296:Int)<=(R:Int)+N1)=false:=decide_eq_false (by omega);obtain⟨M,hM⟩:∃M,M=Q*N0:=⟨_,rfl⟩;have hm1:4294967296*R+L0<M:=by rw[hM];omega
           have hm2:4294967296*(R:Int)+L0<(M:Int):=by omega
           clear hm1;have hd2:decide ((4294967296:Int)*(R:Int)+L0<(M:Int))=true:=decide_eq_true hm2;rw[<-hM]at eM;clear hM hT hU hex;go_wp2
           go_round
           case rel=>exact⟨Q-1,R+N1,by go_num,by go_num,by omega,by omega,HU2,HT2⟩
           case measure=>simp[intOf];omega
         . have hq4:(4294967296:Int)<=((Q:Nat):Int):=by omega
           have hd1:decide ((4294967296:Int)<=(Q:Int))=true:=decide_eq_true hq4;have hb4:(R:Int)+N1<4294967296:=by omega
           have hd3:decide ((4294967296:Int)<=(R:Int)+N1)=false:=decide_eq_false (by omega);clear hT hU hex;go_wp2
           go_round
           case rel=>exact⟨Q-1,R+N1,by go_num,by go_num,by omega,by omega,HU2,HT2⟩
           case measure=>simp[intOf];omega
  . have hdec:=uF Q1 Q R N1 N0 U L1 Y HY.out HQ1.out hU.out hT.out hUY.out hN0 hex
    have hQ0:0<Q:=by omega
    have HU2:Hid (U=(Q-1)*N1+(R+N1)):=hdd (by rw[hU.out];obtain⟨k,rfl⟩:∃k,Q=k+1:=⟨Q-1,by omega⟩;rw[asZ,as3];omega);by_cases hbr:4294967296<=R+N1
    . obtain rfl:Q=Q1+1:=by
       have:=oD Q1 (Q-1) (R+N1) N1 N0 U L1 Y HY.out HQ1.out HU2.out (by omega) hUY.out hN0 hbr;omega
      by_cases hq1:Q1+1<4294967296
      . have eM:IntKind.u64.wrap (((Q1:Int)+1)*N0)=((Q1+1)*N0:Nat):=oC _ _ (dX _ _ hq1 hN0)
        have hq4:((Q1+1:Nat):Int)<4294967296:=by omega
        rw[asW,asX]at hq4;have hd1:decide ((4294967296:Int)<=(Q1:Int)+1)=false:=decide_eq_false (by omega);have hb4:(4294967296:Int)<=(R:Int)+N1:=by omega
        have hd3:decide ((4294967296:Int)<=(R:Int)+N1)=true:=decide_eq_true hb4;obtain⟨M,hM⟩:∃M,M=(Q1+1)*N0:=⟨_,rfl⟩;have hm1:4294967296*R+L1<M:=by rw[hM];omega
        have hm2:4294967296*(R:Int)+L1<(M:Int):=by omega
        clear hm1;have hd2:decide ((4294967296:Int)*(R:Int)+L1<(M:Int))=true:=decide_eq_true hm2;rw[<-hM]at eM;clear hM hT hU HU2 hex hdec;go_wp2_with fail
        go_loop [18,16] (fun q r=>∃Q R:Nat,q=.int .u64 Q/\r=.int .u64 R/\R<4294967296/\Q<17179869184/\Hid (V=Q*N1+R)/\Hid (Q2<=Q)) (fun q _=>(intOf q).toNat)
        case atStart=>exact⟨g2,r2,rfl,by go_num,by omega,by omega,hg2,ht2⟩
        case round=>
         obtain⟨Q,R,rfl,rfl,hR,hQ,hU,hT⟩:=hrel;by_cases hex:Q<4294967296/\Q*N0<=4294967296*R+L0
         . obtain⟨hq1,hq2⟩:=hex
           obtain rfl:Q2=Q:=(mU Q2 Q R N1 N0 V L0 Y HY.out HQ2.out hU.out hT.out hq2).symm;have eM:IntKind.u64.wrap ((Q2:Int)*N0)=(Q2*N0:Nat):=gP _ _ (dX _ _ hq1 hN0);obtain⟨M,hM⟩:∃M,M=Q2*N0:=⟨_,rfl⟩;rw[<-hM]at eM hq2;have hq3:(M:Int)<=4294967296*(R:Int)+L0:=by omega
           have hd2:decide ((4294967296:Int)*(R:Int)+L0<(M:Int))=false:=decide_eq_false (by omega);have hq4:(Q2:Int)<4294967296:=by omega
           have hd1:decide ((4294967296:Int)<=(Q2:Int))=false:=decide_eq_false (by omega);clear hq1;clear hM hT hq2;go_wp2_with fail
           go_wp2
           go_ret2
           exact⟨gN hfin.out,rfl⟩
         . have hdec:=uF Q2 Q R N1 N0 V L0 Y HY.out HQ2.out hU.out hT.out hVY.out hN0 hex
           have hQ0:0<Q:=by omega
           have HU2:Hid (V=(Q-1)*N1+(R+N1)):=hdd (by rw[hU.out];obtain⟨k,rfl⟩:∃k,Q=k+1:=⟨Q-1,by omega⟩;rw[asZ,as3];omega);by_cases hbr:4294967296<=R+N1
           . obtain rfl:Q=Q2+1:=by
              have:=oD Q2 (Q-1) (R+N1) N1 N0 V L0 Y HY.out HQ2.out HU2.out (by omega) hVY.out hN0 hbr;omega
             by_cases hq1:Q2+1<4294967296
             . have eM:IntKind.u64.wrap (((Q2:Int)+1)*N0)=((Q2+1)*N0:Nat):=oC _ _ (dX _ _ hq1 hN0)
               have hq4:((Q2+1:Nat):Int)<4294967296:=by omega
               rw[asW,asX]at hq4;have hd1:decide ((4294967296:Int)<=(Q2:Int)+1)=false:=decide_eq_false (by omega);have hb4:(4294967296:Int)<=(R:Int)+N1:=by omega
               have hd3:decide ((4294967296:Int)<=(R:Int)+N1)=true:=decide_eq_true hb4;obtain⟨M,hM⟩:∃M,M=(Q2+1)*N0:=⟨_,rfl⟩;have hm1:4294967296*R+L0<M:=by rw[hM];omega
               have hm2:4294967296*(R:Int)+L0<(M:Int):=by omega
               clear hm1;have hd2:decide ((4294967296:Int)*(R:Int)+L0<(M:Int))=true:=decide_eq_true hm2;rw[<-hM]at eM;clear hM hT hU HU2 hex hdec;go_wp2_with fail
               go_wp2
               go_ret2
               exact⟨gN hfin.out,rfl⟩
             . have hq4:(4294967296:Int)<=((Q2+1:Nat):Int):=by omega
               rw[asW,asX]at hq4;have hd1:decide ((4294967296:Int)<=(Q2:Int)+1)=true:=decide_eq_true hq4;have hb4:(4294967296:Int)<=(R:Int)+N1:=by omega
               have hd3:decide ((4294967296:Int)<=(R:Int)+N1)=true:=decide_eq_true hb4;clear hT hU HU2 hex hdec;go_wp2_with fail
               go_wp2
               go_ret2
               exact⟨gN hfin.out,rfl⟩
           . have HT2:Hid (Q2<=Q-1):=hdd (by omega)
             by_cases hq1:Q<4294967296
             . have eM:IntKind.u64.wrap ((Q:Int)*N0)=(Q*N0:Nat):=gP _ _ (dX _ _ hq1 hN0)
               have hq4:((Q:Nat):Int)<4294967296:=by omega
               have hd1:decide ((4294967296:Int)<=(Q:Int))=false:=decide_eq_false (by omega);have hb4:(R:Int)+N1<4294967296:=by omega
               have hd3:decide ((4294967296:Int)<=(R:Int)+N1)=false:=decide_eq_false (by omega);obtain⟨M,hM⟩:∃M,M=Q*N0:=⟨_,rfl⟩;have hm1:4294967296*R+L0<M:=by rw[hM];omega
               have hm2:4294967296*(R:Int)+L0<(M:Int):=by omega
               clear hm1;have hd2:decide ((4294967296:Int)*(R:Int)+L0<(M:Int))=true:=decide_eq_true hm2;rw[<-hM]at eM;clear hM hT hU hex;go_wp2
               go_round
               case rel=>exact⟨Q-1,R+N1,by go_num,by go_num,by omega,by omega,HU2,HT2⟩
               case measure=>simp[intOf];omega
             . have hq4:(4294967296:Int)<=((Q:Nat):Int):=by omega
               have hd1:decide ((4294967296:Int)<=(Q:Int))=true:=decide_eq_true hq4;have hb4:(R:Int)+N1<4294967296:=by omega
               have hd3:decide ((4294967296:Int)<=(R:Int)+N1)=false:=decide_eq_false (by omega);clear hT hU hex;go_wp2
               go_round
               case rel=>exact⟨Q-1,R+N1,by go_num,by go_num,by omega,by omega,HU2,HT2⟩
               case measure=>simp[intOf];omega
      . have hq4:(4294967296:Int)<=((Q1+1:Nat):Int):=by omega
        rw[asW,asX]at hq4;have hd1:decide ((4294967296:Int)<=(Q1:Int)+1)=true:=decide_eq_true hq4;have hb4:(4294967296:Int)<=(R:Int)+N1:=by omega
        have hd3:decide ((4294967296:Int)<=(R:Int)+N1)=true:=decide_eq_true hb4;clear hT hU HU2 hex hdec;go_wp2_with fail
        go_loop [18,16] (fun q r=>∃Q R:Nat,q=.int .u64 Q/\r=.int .u64 R/\R<4294967296/\Q<17179869184/\Hid (V=Q*N1+R)/\Hid (Q2<=Q)) (fun q _=>(intOf q).toNat)
        case atStart=>exact⟨g2,r2,rfl,by go_num,by omega,by omega,hg2,ht2⟩
        case round=>
         obtain⟨Q,R,rfl,rfl,hR,hQ,hU,hT⟩:=hrel;by_cases hex:Q<4294967296/\Q*N0<=4294967296*R+L0
         . obtain⟨hq1,hq2⟩:=hex
           obtain rfl:Q2=Q:=(mU Q2 Q R N1 N0 V L0 Y HY.out HQ2.out hU.out hT.out hq2).symm;have eM:IntKind.u64.wrap ((Q2:Int)*N0)=(Q2*N0:Nat):=gP _ _ (dX _ _ hq1 hN0);obtain⟨M,hM⟩:∃M,M=Q2*N0:=⟨_,rfl⟩;rw[<-hM]at eM hq2;have hq3:(M:Int)<=4294967296*(R:Int)+L0:=by omega
           have hd2:decide ((4294967296:Int)*(R:Int)+L0<(M:Int))=false:=decide_eq_false (by omega);have hq4:(Q2:Int)<4294967296:=by omega
           have hd1:decide ((4294967296:Int)<=(Q2:Int))=false:=decide_eq_false (by omega);clear hq1;clear hM hT hq2;go_wp2_with fail
           go_wp2
           go_ret2
           exact⟨gN hfin.out,rfl⟩
         . have hdec:=uF Q2 Q R N1 N0 V L0 Y HY.out HQ2.out hU.out hT.out hVY.out hN0 hex
           have hQ0:0<Q:=by omega
           have HU2:Hid (V=(Q-1)*N1+(R+N1)):=hdd (by rw[hU.out];obtain⟨k,rfl⟩:∃k,Q=k+1:=⟨Q-1,by omega⟩;rw[asZ,as3];omega);by_cases hbr:4294967296<=R+N1
           . obtain rfl:Q=Q2+1:=by
              have:=oD Q2 (Q-1) (R+N1) N1 N0 V L0 Y HY.out HQ2.out HU2.out (by omega) hVY.out hN0 hbr;omega
             by_cases hq1:Q2+1<4294967296
             . have eM:IntKind.u64.wrap (((Q2:Int)+1)*N0)=((Q2+1)*N0:Nat):=oC _ _ (dX _ _ hq1 hN0)
               have hq4:((Q2+1:Nat):Int)<4294967296:=by omega
               rw[asW,asX]at hq4;have hd1:decide ((4294967296:Int)<=(Q2:Int)+1)=false:=decide_eq_false (by omega);have hb4:(4294967296:Int)<=(R:Int)+N1:=by omega
               have hd3:decide ((4294967296:Int)<=(R:Int)+N1)=true:=decide_eq_true hb4;obtain⟨M,hM⟩:∃M,M=(Q2+1)*N0:=⟨_,rfl⟩;have hm1:4294967296*R+L0<M:=by rw[hM];omega
               have hm2:4294967296*(R:Int)+L0<(M:Int):=by omega
               clear hm1;have hd2:decide ((4294967296:Int)*(R:Int)+L0<(M:Int))=true:=decide_eq_true hm2;rw[<-hM]at eM;clear hM hT hU HU2 hex hdec;go_wp2_with fail
               go_wp2
               go_ret2
               exact⟨gN hfin.out,rfl⟩
             . have hq4:(4294967296:Int)<=((Q2+1:Nat):Int):=by omega
               rw[asW,asX]at hq4;have hd1:decide ((4294967296:Int)<=(Q2:Int)+1)=true:=decide_eq_true hq4;have hb4:(4294967296:Int)<=(R:Int)+N1:=by omega
               have hd3:decide ((4294967296:Int)<=(R:Int)+N1)=true:=decide_eq_true hb4;clear hT hU HU2 hex hdec;go_wp2_with fail
               go_wp2
               go_ret2
               exact⟨gN hfin.out,rfl⟩
           . have HT2:Hid (Q2<=Q-1):=hdd (by omega)
             by_cases hq1:Q<4294967296
             . have eM:IntKind.u64.wrap ((Q:Int)*N0)=(Q*N0:Nat):=gP _ _ (dX _ _ hq1 hN0)
               have hq4:((Q:Nat):Int)<4294967296:=by omega
               have hd1:decide ((4294967296:Int)<=(Q:Int))=false:=decide_eq_false (by omega);have hb4:(R:Int)+N1<4294967296:=by omega
               have hd3:decide ((4294967296:Int)<=(R:Int)+N1)=false:=decide_eq_false (by omega);obtain⟨M,hM⟩:∃M,M=Q*N0:=⟨_,rfl⟩;have hm1:4294967296*R+L0<M:=by rw[hM];omega
               have hm2:4294967296*(R:Int)+L0<(M:Int):=by omega
               clear hm1;have hd2:decide ((4294967296:Int)*(R:Int)+L0<(M:Int))=true:=decide_eq_true hm2;rw[<-hM]at eM;clear hM hT hU hex;go_wp2
               go_round
               case rel=>exact⟨Q-1,R+N1,by go_num,by go_num,by omega,by omega,HU2,HT2⟩
               case measure=>simp[intOf];omega
             . have hq4:(4294967296:Int)<=((Q:Nat):Int):=by omega
               have hd1:decide ((4294967296:Int)<=(Q:Int))=true:=decide_eq_true hq4;have hb4:(R:Int)+N1<4294967296:=by omega
               have hd3:decide ((4294967296:Int)<=(R:Int)+N1)=false:=decide_eq_false (by omega);clear hT hU hex;go_wp2
               go_round
               case rel=>exact⟨Q-1,R+N1,by go_num,by go_num,by omega,by omega,HU2,HT2⟩
               case measure=>simp[intOf];omega
    . have HT2:Hid (Q1<=Q-1):=hdd (by omega)
      by_cases hq1:Q<4294967296
      . have eM:IntKind.u64.wrap ((Q:Int)*N0)=(Q*N0:Nat):=gP _ _ (dX _ _ hq1 hN0)
        have hq4:((Q:Nat):Int)<4294967296:=by omega
        have hd1:decide ((4294967296:Int)<=(Q:Int))=false:=decide_eq_false (by omega);have hb4:(R:Int)+N1<4294967296:=by omega
        have hd3:decide ((4294967296:Int)<=(R:Int)+N1)=false:=decide_eq_false (by omega);obtain⟨M,hM⟩:∃M,M=Q*N0:=⟨_,rfl⟩;have hm1:4294967296*R+L1<M:=by rw[hM];omega
        have hm2:4294967296*(R:Int)+L1<(M:Int):=by omega
        clear hm1;have hd2:decide ((4294967296:Int)*(R:Int)+L1<(M:Int))=true:=decide_eq_true hm2;rw[<-hM]at eM;clear hM hT hU hex;go_wp2
        go_round
        case rel=>exact⟨Q-1,R+N1,by go_num,by go_num,by omega,by omega,HU2,HT2⟩
        case measure=>simp[intOf];omega
      . have hq4:(4294967296:Int)<=((Q:Nat):Int):=by omega
        have hd1:decide ((4294967296:Int)<=(Q:Int))=true:=decide_eq_true hq4;have hb4:(R:Int)+N1<4294967296:=by omega
        have hd3:decide ((4294967296:Int)<=(R:Int)+N1)=false:=decide_eq_false (by omega);clear hT hU hex;go_wp2
        go_round
        case rel=>exact⟨Q-1,R+N1,by go_num,by go_num,by omega,by omega,HU2,HT2⟩
        case measure=>simp[intOf];omega
end Go.Proofs.YtjaafolhfihegaaGreatDoor
