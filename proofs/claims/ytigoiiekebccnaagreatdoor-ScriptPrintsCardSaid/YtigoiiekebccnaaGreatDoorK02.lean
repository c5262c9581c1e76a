/- A part of the proof: contracts of functions and plain laws (NatD, NatE, NatF, NatG, NatH, NatI). -/
import Derived.Test.YtigoiiekebccnaaGreatDoorK01
import Derived.Test.YtigoiiekebccnaaGreatDoorShelf
import Derived.Shelf.Spec.TrailingZeros
import Derived.Laws.Bits64b
set_option linter.unusedVariables false
set_option linter.unusedSimpArgs false
set_option linter.unnecessarySimpa false
set_option maxHeartbeats 25600000
set_option maxRecDepth 100000
namespace Go.Proofs.YtigoiiekebccnaaGreatDoor
open Go.RowKit
open Go.RowKit.Below renaming refl->aq9
open Int renaming natCast_nonneg->aq2,toNat_natCast->aq3,eq_ofNat_of_zero_le->aq8,toNat_one->arX
open List renaming length_set->aq1,eq_nil_of_length_eq_zero->aq4,getD_eq_getElem?_getD->aq5,drop_eq_getElem_cons->aq6,take_length->arB,getElem_set_ne->arC,getElem?_eq_getElem->arE,drop_of_length_le->arG,take_of_length_le->arH,getElem_set_self->arI,getElem?_eq_none->arJ,length_drop->arQ,length_take->arR,drop_zero->arW
open Nat renaming eq_zero_or_pos->aq7,zero_le->arA,pow_add->arD,div_eq_of_lt->arF,pow_succ->arK,two_pow_pos->arL,lt_or_ge->arM,lt_of_le_of_lt->arN,mod_lt->arO,add_zero->arP,div_le_self->arS,pow_mul->arT,mul_add_div->arU,div_add_mod->arV,add_comm->arY,le_refl->arZ,one_mul->ar0
variable{m v:Int}{xs ys:List Nat}{i n r:Nat}{p q:Nat->Prop}{va vb:Value}{w w':World}
def Tab(w:World):Prop:=TabAt 6 Lib.deBruijn64tab w
theorem Tab.keep (h:Tab w)(hb:∀b,b<w.heap.size->w'.heap[b]? =w.heap[b]?):Tab w':=by
 intro j hj;have h1:=h j hj;exact(World.cell?_of_block (w:=w) (w':=w') (hb _ (World.block_lt_of_cell? w _ h1))).trans h1
theorem Tab.below (h:Tab w)(hb:Below w.heap.size w w'):Tab w':=h.keep hb.block
theorem tz64_core(x k idx:Nat)(w:World)(hx0:((x:Int)==0)=false)
 (key:IntKind.u64.wrap (Go.bits BinOp.and IntKind.u64 (x:Int) (IntKind.u64.wrap (-(x:Int)))*285870213051353865)/288230376151711744=(idx:Int))
 (hi:idx<64) (hk:k<64) (hcell:w.cell? ⟨6,idx,none⟩=some (.int .u8 k)):
 Calls Tryz.prog 225 #[.int .u64 x] w fun e w'=>e=.returned (.int .i64 k)/\w'=w:=by
 go_enter Tryz.func225,Tryz.ntmps225
 go_wp2_with (simp only[key])
 go_ret;exact⟨rfl,rfl⟩
theorem ah9(x:Nat)(hx:x<18446744073709551616)(hx0:x≠0)(w:World)(hT:Tab w):
 Calls Tryz.prog 225 #[.int .u64 x] w fun e w'=>e=.returned (.int .i64 (Lib.ctz 64 x))/\w'=w:=by
 obtain⟨hlow,hk⟩:=Lib.lowest_bit 64 x hx0 hx;obtain⟨hi,htab⟩:=Lib.deBruijn64_at _ hk;have hcell:=hT _ hi;rw[htab]at hcell;exact tz64_core x _ _ w (by simp;omega) (tz64_key x _ hx hx0 hlow) hi hk hcell
def cmpN(a b:Nat):Int:=if a<b then-1 else if b<a then 1 else 0
def RetI(w:World)(n:Int)(e:Ending)(w':World):Prop:=e=.returned (.int .i64 n)/\∃k,w'=w.drewN k
theorem RetI.of {n:Int}{k:Nat}(h:m=n):RetI w n (.returned (.int .i64 m)) (w.drewN k):=by subst h;exact⟨rfl,k,rfl⟩
theorem RetI.ofw {n:Int}(h:m=n)(hw:∃k,w'=w.drewN k):RetI w n (.returned (.int .i64 m)) w':=by subst h;exact⟨rfl,hw⟩
theorem RetI.of0 {n:Int}(h:m=n):RetI w n (.returned (.int .i64 m)) w:=by subst h;exact⟨rfl,0,rfl⟩
theorem mY(hx:NatP p w va xs)(hy:NatP q w vb ys):
 Calls Tryz.prog 260 #[va,vb] w (RetI w (cmpN (val xs) (val ys))):=by
 go_enter Tryz.func260,Tryz.ntmps260
 go_wp2_with fail
 refine(aI hx).mono ?_;rintro e w1⟨rfl,v1,xs1,rfl,hv1,ht1,hval1,-⟩;go_wp2_with fail
 refine(aI hy).mono ?_;rintro e w1⟨rfl,v2,ys1,rfl,hv2,ht2,hval2,-⟩;have HV1:=hdd hval1;have HV2:=hdd hval2;clear hval1 hval2 hx hy;have ho1:=hv1.ok;have ho2:=hv2.ok;obtain⟨A1,c1,rfl,l1,l1',-,hc1⟩:=hv1;obtain⟨A2,c2,rfl,l2,l2',-,hc2⟩:=hv2;obtain⟨l1',l1b⟩:=l1';obtain⟨l2',l2b⟩:=l2';have HT1:=hdd ht1;have HT2:=hdd ht2;have HO1:=hdd ho1;have HO2:=hdd ho2;have HC1:=hdd hc1;have HC2:=hdd hc2;clear ht1 ht2 ho1 ho2 hc1 hc2;rcases Nat.lt_trichotomy xs1.length ys1.length with h|h|h
 . have hb:((xs1.length:Int) != (ys1.length:Int))=true:=by simp;omega
   go_wp2;go_ret;have:=nU xs1 ys1 HO1.out HT2.out h;exact RetI.of0 (by rw[<-HV1.out,<-HV2.out];unfold cmpN;rw[if_pos this])
 . have hb:((xs1.length:Int) != (ys1.length:Int))=false:=by simp;omega
   have HL:=hdd h;clear h;have hlx:xs1.length<=1099511627776:=by omega
   go_wp2
   go_loopw [5] (fun i wr=>∃k n:Nat,k<=xs1.length/\i=.int .i64 ((k:Int)-1)/\wr=w.drewN n/\Hid (xs1.drop k=ys1.drop k)) (fun i _=>(intOf i+1).toNat)
   case atStart=>exact⟨xs1.length,0,arZ _,rfl,rfl,hdd (by rw[arG nlr,arG (by rw[HL.out];exact arZ _)])⟩
   case round=>
    obtain⟨k,n,hk,rfl,rfl,hd⟩:=hrel;rcases aq7 k with h0|h0
    . subst h0
      go_wp2;go_ret;have:=hd.out;rw[arW,arW]at this;exact RetI.of (by rw[<-HV1.out,<-HV2.out,this];unfold cmpN;rw[if_neg (by omega),if_neg (by omega)])
    . obtain⟨j,rfl⟩:∃j,k=j+1:=⟨k-1,by omega⟩
      obtain⟨b1,o1,rfl,-,-,hcell1⟩:=HC1.out (by omega);obtain⟨b2,o2,rfl,-,-,hcell2⟩:=HC2.out (by rw[<-HL.out];omega);have g1:=hcell1 j (by omega);have g2:=hcell2 j (by rw[<-HL.out];omega);have hjy:j<ys1.length:=by rw[<-HL.out];omega
      clear hcell1 hcell2;have e1:lim xs1 j=(xs1[j]:Int):=cK (by omega);have e2:lim ys1 j=(ys1[j]:Int):=cK hjy;have E1:=hdd e1;have E2:=hdd e2;clear e1 e2;have hlxy:=HL.out;rcases Int.lt_trichotomy (lim xs1 j) (lim ys1 j)with hlt|heq|hgt
      . go_wp2
        go_quiet (fail)
        go_wp2;go_ret;have:=uB xs1 ys1 j HO1.out HL.out (by omega) hd.out (by have:=E1.out;have:=E2.out;omega);exact RetI.ofw (hw:=⟨_,by simp only[World.drewN_drewN];rfl⟩) (by rw[<-HV1.out,<-HV2.out];unfold cmpN;rw[if_pos this])
      . have hd':Hid (xs1.drop j=ys1.drop j):=by
         refine hdd ?_;rw[aq6 (by omega:j<xs1.length),aq6 hjy,hd.out]
         congr 1
         have:=E1.out;have:=E2.out;omega
        have q1:¬lim xs1 j<lim ys1 j:=by omega
        have q2:¬lim ys1 j<lim xs1 j:=by omega
        clear heq hlxy;go_wp2
        go_quiet (fail)
        go_wp2
        go_quiet (fail)
        go_wp2
        go_roundw
        case rel=>exact⟨j,_,by omega,by go_num,rfl,hd'⟩
        case measure=>simp[intOf]
      . have q1:¬lim xs1 j<lim ys1 j:=by omega
        go_wp2
        go_quiet (fail)
        go_wp2
        go_quiet (fail)
        go_wp2;go_ret;have:=uB ys1 xs1 j HO2.out HL.out.symm hjy hd.out.symm (by have:=E1.out;have:=E2.out;omega);exact RetI.ofw (hw:=⟨_,by simp only[World.drewN_drewN];rfl⟩) (by rw[<-HV1.out,<-HV2.out];unfold cmpN;rw[if_neg (by omega),if_pos this])
 . have hb:((xs1.length:Int) != (ys1.length:Int))=true:=by simp;omega
   go_wp2;go_ret;have:=nU ys1 xs1 HO2.out HT1.out h;exact RetI.of0 (by rw[<-HV1.out,<-HV2.out];unfold cmpN;rw[if_neg (by omega),if_pos this])
theorem xF(x:Nat)(h:x≠0):bits x=1+bits (x/2):=by
 unfold bits;rw[if_neg h,Nat.log2_def x]
 split
 . rename_i h2
   rw[if_neg (by omega)];omega
 . rw[if_pos (by omega)]
theorem kP(n:Nat)(hn:n<2^64):Lib.bitLen n=bits n:=by
 induction n using Nat.strongRecOn with
 |ind n ih=>
  by_cases h:n=0
  . subst h;rfl
  . rw[Lib.bitLen_half n h hn,xF n h,ih (n/2) (by omega) (by omega)]
theorem cZ(hx:NatP p w va xs):
 Calls Tryz.prog 206 #[va] w (RetI w (bits (val xs))):=by
 go_enter Tryz.func206,Tryz.ntmps206
 go_wp2_with fail
 refine(aI hx).mono ?_;rintro e w1⟨rfl,v1,xs1,rfl,hv1,ht1,hval1,-⟩;have HV1:=hdd hval1;clear hval1 hx;have ho1:=hv1.ok;obtain⟨A1,c1,rfl,l1,l1',-,hc1⟩:=hv1;obtain⟨l1',l1b⟩:=l1';have HT1:=hdd ht1;have HO1:=hdd ho1;clear ht1 ho1;rcases aq7 xs1.length with h|h
 . have hn:=aq4 h
   subst hn;clear h;go_wp2;go_ret;exact RetI.of0 (by rw[<-HV1.out];rfl)
 . have hb:((xs1.length:Int)==0)=false:=beq_eq_false_iff_ne.2 (by omega)
   obtain⟨b1,o1,rfl,-,-,hcell1⟩:=hc1 h;have g1:=hcell1 (xs1.length-1) (by omega);clear hcell1 hc1;have hne:xs1≠[]:=List.length_pos_iff.1 h;obtain⟨u,hu⟩:∃u:Nat,u=xs1.getLast hne:=⟨_,rfl⟩;have hul:lim xs1 (xs1.length-1)=(u:Int):=by
    rw[cK (by omega),hu,List.getLast_eq_getElem]
   have hub:=(fI HO1.out (xs1.length-1)).2;rw[hul]at g1 hub;have hub':u<2^64:=by omega
   have hbb:bits u<=64:=by rw[aF];exact hub'
   have hlb:=kP u hub';have HB:=hdd (jO xs1 HO1.out HT1.out hne);rw[<-hu]at HB;clear hul hub';have hlen:=hdd hlb;clear hlb hu hne;go_wp2_with (go_at_call 167;refine(Tryz.bits_Len64 (u:Int) _ (by omega) (by omega)).mono ?_;rintro e w'⟨rfl,rfl⟩;rw[aq3,hlen.out])
   go_ret;refine RetI.of0 ?_;rw[<-HV1.out,HB.out];omega
theorem aiA{u:Int}(hu:0<=u/\u<18446744073709551616)(hv:0<=v):
 Go.bits BinOp.or IntKind.u64 u (IntKind.u64.wrap (v*2^r))=((u.toNat ||| (v.toNat*2^r)%B64:Nat):Int):=by
 obtain⟨U,rfl⟩:=aq8 hu.1;obtain⟨V,rfl⟩:=aq8 hv;have e:IntKind.u64.wrap ((V:Int)*2^r)=((V*2^r%B64:Nat):Int):=by
  rw[IntKind.wrap_u64,Int.natCast_emod,Int.natCast_mul,Int.natCast_pow];rfl
 rw[e,show B64=18446744073709551616 from rfl,bits_or_u64_nat _ _ (by omega) (arO _ (by omega))];simp only[aq3]
theorem sS(hv:0<=v):v/2^r=((v.toNat/2^r:Nat):Int):=by
 obtain⟨V,rfl⟩:=aq8 hv;simp
theorem ao7(a b:Nat)(ha:a<B64):0<=((a ||| b%B64:Nat):Int)/\((a ||| b%B64:Nat):Int)<18446744073709551616:=by
 have h:=xD a (b%B64) ha (arO _ bF);unfold B64 at h;unfold B64;omega
theorem dI{x:Nat}(h:x<B64):(x:Int)<18446744073709551616:=by unfold B64 at h;omega
theorem afR(ys:List Nat)(i a b:Nat)(hz:∀j,i<j->j<ys.length->lim ys j=0):∀j,i+1<j->j<((ys.set i a).set (i+1) b).length->lim ((ys.set i a).set (i+1) b) j=0:=by
 intro j h1 h2;rw[aq1,aq1]at h2;have:=hz j (by omega) h2;rw[cK (by rw[aq1,aq1];exact h2),arC (by omega),arC (by omega)];rwa[cK h2]at this
theorem aiB(hx:NatP p w va xs)(hn:xs.length+n/64<1099511627776)(hpos:0<xs.length):
 Calls Tryz.prog 300 #[va,.int .i64 n] w (RetN w.heap.size w (val xs*2^n)):=by
 have hok:=hdd hx.ok;obtain⟨A,c,rfl,h2,h3,-,h5⟩:=hx;obtain⟨h3,h3b⟩:=h3;have hb:((xs.length:Int)==0)=false:=beq_eq_false_iff_ne.2 (by omega);obtain⟨b,off,rfl,-,hblt,hcell⟩:=h5 hpos;have HC:=hdd hcell;clear hcell h5;go_enter Tryz.func300,Tryz.ntmps300
 go_wp2_with (at_make;refine bV _ rfl (.tmp 22) (.tmp 22) rfl .i64 .i64 _ (xs.length+n/64+1) rfl rfl (by omega) (by omega) w.heap.size w (aq9 _ _) nlr ?_;intro w1 hO1 hb1 hbb1 hs1)
 go_loopw [26] (fun i wr=>∃(k:Nat) (ys:List Nat),k<=xs.length/\i=.int .i64 k/\Hid (OwnN wr w.heap.size ys)/\Hid (ys.length=xs.length+n/64+1)/\Hid (Below w.heap.size w wr)/\
  Hid (val ys=val (xs.take k)*2^(n%64)*B64^(n/64))/\Hid (lim ys (k+n/64)<2^(n%64))/\Hid (∀j,k+n/64<j->j<ys.length->lim ys j=0)) (fun i _=>xs.length-(intOf i).toNat)
 case atStart=>
  have e:∀j,lim (List.replicate (xs.length+n/64+1) 0) j=0:=fun j=>by unfold lim;rw[aq5,List.getElem?_replicate];split<;>rfl
  exact⟨0,_,arA _,rfl,hO1,hdd (by simp),hdd hb1,hdd (by rw[aR];simp[val]),hdd (by rw[e];exact Int.pow_pos (by omega)),hdd (fun j _ _=>e j)⟩
 case round=>
  obtain⟨k,ys,hk,rfl,hO,hL,hB,hV,hS,hZ⟩:=hrel;by_cases hlt:k<xs.length
  . have hcx:wr.cell? ⟨b,off+k,none⟩=some (.int .u64 (lim xs k)):=(hB.out.cell (p:=⟨b,off+k,none⟩) hblt).trans (HC.out k hlt)
    have hL':=hL.out;have hcz:wr.cell? ⟨w.heap.size,k+n/64,none⟩=some (.int .u64 (lim ys (k+n/64))):=hO.out.cell (by omega);have hcz2:wr.cell? ⟨w.heap.size,k+n/64+1,none⟩=some (.int .u64 (lim ys (k+n/64+1))):=hO.out.cell (by omega);have hfz:=fun i=>hO.out.frozen i;have bx:=fI hok.out k;have bz:=fI hO.out.2 (k+n/64);have hi1:k+n/64+1<ys.length:=by omega
    have hr:n%64<=64:=by omega
    have ex:=cK hlt;have ez:=cK (xs:=ys) (k:=k+n/64) (by omega);have hv64:xs[k]<B64:=hok.out.get k hlt;have hst:=left_step ys (k+n/64) xs[k] (n%64) hi1 hr (by have:=hS.out;rw[ez]at this;exact_mod_cast this) (by have:=hZ.out (k+n/64+1) (by omega) hi1;rw[cK hi1]at this;omega);have e1:Go.bits BinOp.or IntKind.u64 (lim ys (k+n/64)) (IntKind.u64.wrap (lim xs k*2^(n%64)))=((ys[k+n/64] ||| (xs[k]*2^(n%64))%B64:Nat):Int):=by
     rw[aiA bz bx.1,ex,ez];simp
    have e2:lim xs k/2^(64-n%64)=((xs[k]/2^(64-n%64):Nat):Int):=by rw[sS bx.1,ex];simp
    have hhs:=uD xs[k] (n%64) hv64 hr;have hb1':=ao7 ys[k+n/64] (xs[k]*2^(n%64)) (hO.out.2.get _ _);have hb2':xs[k]/2^(64-n%64)<B64:=arN (arS _ _) hv64;have hO':=(hO.out.set_ (k+n/64) hb1'.1 hb1'.2).set_ (k+n/64+1) (x:=((xs[k]/2^(64-n%64):Nat):Int)) (aq2 _) (dI hb2');rw[aq3,aq3,<-e1,<-e2]at hO';have HO:=hdd hO';have HB:=hdd ((hB.out.setCell (p:=⟨w.heap.size,k+n/64,none⟩) nlr (.int .u64 (Go.bits BinOp.or IntKind.u64 (lim ys (k+n/64)) (IntKind.u64.wrap (lim xs k*2^(n%64)))))).setCell (p:=⟨w.heap.size,k+n/64+1,none⟩) nlr (.int .u64 (lim xs k/2^(64-n%64))));have HV:Hid (val ((ys.set (k+n/64) (ys[k+n/64] ||| (xs[k]*2^(n%64))%B64)).set (k+n/64+1) (xs[k]/2^(64-n%64)))=val (xs.take (k+1))*2^(n%64)*B64^(n/64)):=by
     refine hdd ?_;rw[hst,hV.out,bQ xs k hlt,arD];grind
    have HS:Hid (lim ((ys.set (k+n/64) (ys[k+n/64] ||| (xs[k]*2^(n%64))%B64)).set (k+n/64+1) (xs[k]/2^(64-n%64))) (k+1+n/64)<2^(n%64)):=by
     refine hdd ?_;have e3:k+1+n/64=k+n/64+1:=by omega
     rw[e3,cK (by rw[aq1,aq1];exact hi1),arI]
     exact_mod_cast hhs
    have HZ:=hdd (afR ys (k+n/64) (ys[k+n/64] ||| (xs[k]*2^(n%64))%B64) (xs[k]/2^(64-n%64)) hZ.out);clear ex ez hv64 hst e1 e2 hhs hb1' hb2' hO';go_wp2
    go_roundw
    case rel=>exact⟨k+1,_,by omega,by go_num,HO,hdd (by rw[aq1,aq1];exact hL.out),HB,HV,HS,hdd (fun j h1 h2=>HZ.out j (by omega) h2)⟩
    case measure=>simp[intOf];omega
  . have:k=xs.length:=by omega
    subst this;go_wp2_with fail
    refine(aI (hO.out.natP (p:=fun b=>w.heap.size<=b) hL.out nlr (by omega) nlr)).mono ?_;rintro e w4⟨rfl,v,ys',rfl,hv4,ht4,hval,-⟩;go_wp2;go_ret;refine RetN.of hB.out hv4 ht4 ?_;rw[hval,hV.out,arB,Nat.mul_assoc,dY,<-arT,<-arD,Nat.mod_add_div]
theorem oP(hx:NatP p w va xs)(hn:xs.length+n/64<1099511627776):
 Calls Tryz.prog 300 #[va,.int .i64 n] w (RetN w.heap.size w (val xs*2^n)):=by
 rcases aq7 xs.length with h|h
 . have hn:=aq4 h
   subst hn;obtain⟨A,c,rfl,h2,h3,-,h5⟩:=hx;clear h h2 h3 h5;go_enter Tryz.func300,Tryz.ntmps300
   go_wp2;go_ret;exact RetN.of (aq9 _ _) (NatP.nil w) Tr.nil (by simp[val])
 . exact aiB hx hn h
def lx(xs:List Nat)(i:Nat):Nat:=xs.getD i 0
theorem yR(xs:List Nat)(i:Nat):lim xs i=(lx xs i:Int):=rfl
theorem gM(h:OkL xs)(i:Nat):lx xs i<B64:=by
 have:=fI h i;rw[yR]at this;unfold B64;omega
theorem aeG(h:xs.length<=i):lx xs i=0:=by unfold lx;rw[aq5,arJ h];rfl
theorem dA(h:i<xs.length):lx xs i=xs[i]:=by unfold lx;rw[aq5,arE h];rfl
theorem right_step(ys xs:List Nat)(k s r:Nat)(hk:k<ys.length)(hks:k+s<xs.length)(hx:OkL xs)(hr:r<=64)
 (h:val (ys.take k)*2^r+lx xs s%2^r=val ((xs.drop s).take k)+(lx xs (k+s)%2^r)*B64^k):
 val ((ys.set k (rQ (lx xs (k+s)) (lx xs (k+s+1)) r)).take (k+1))*2^r+lx xs s%2^r=val ((xs.drop s).take (k+1))+(lx xs (k+1+s)%2^r)*B64^(k+1):=by
 rw[bQ _ k (by rw[aq1];exact hk),bQ (xs.drop s) k (by rw[arQ];omega),arI,List.take_set_of_le (by omega:k<=k),List.getElem_drop];have e:s+k=k+s:=arY _ _;have e2:k+1+s=k+s+1:=by omega
 have hk2:=ah2 (lx xs (k+s)) (lx xs (k+s+1)) r (gM hx _) hr;rw[e2,arK];have e3:xs[s+k]=lx xs (k+s):=by rw[dA hks];congr 1
 rw[e3];exact afP _ _ _ _ _ _ _ _ 0 _ _ h hk2
theorem afS(ys xs:List Nat)(s r:Nat)(hl:ys.length=xs.length-s)(hs:s<xs.length)(hx:OkL xs)
 (h:val (ys.take (xs.length-s))*2^r+lx xs s%2^r=val ((xs.drop s).take (xs.length-s))+(lx xs (xs.length-s+s)%2^r)*B64^(xs.length-s)):
 val ys=val xs/(B64^s*2^r):=by
 have e0:xs.length-s+s=xs.length:=by omega
 rw[e0,aeG nlr,Nat.zero_mod,Nat.zero_mul,arP,arH (by omega),arH (by rw[arQ];omega)]at h;have hm:=arO (lx xs s) (arL r);have h1:val (xs.drop s)/2^r=val ys:=by
  rw[<-h,Nat.mul_comm,arU (arL r),arF hm,arP]
 have h2:val xs/B64^s=val (xs.drop s):=by
  rw[bA xs s (by omega),arY,arU (Nat.pow_pos bF)];have:=bH (xs.take s) (hx.take s);rw[arR,Nat.min_eq_left (by omega)]at this;rw[arF this,arP]
 rw[<-Nat.div_div_eq_div_mul,h2,h1]
theorem xG(n:Nat):B64^(n/64)*2^(n%64)=2^n:=by
 rw[dY,<-arT,<-arD,arV]
theorem ac7(hx:NatP p w va xs)(hn:n/64<xs.length):
 Calls Tryz.prog 299 #[va,.int .i64 n] w (RetN w.heap.size w (val xs/2^n)):=by
 have hok:=hdd hx.ok;obtain⟨A,c,rfl,h2,h3,-,h5⟩:=hx;obtain⟨h3,h3b⟩:=h3;obtain⟨b,off,rfl,-,hblt,hcell⟩:=h5 (by omega);have HC:=hdd hcell;clear hcell h5;go_enter Tryz.func299,Tryz.ntmps299
 go_wp2_with (at_make;refine bV _ rfl (.tmp 21) (.tmp 21) rfl .i64 .i64 _ (xs.length-n/64) rfl rfl (by omega) (by omega) w.heap.size w (aq9 _ _) nlr ?_;intro w1 hO1 hb1 hbb1 hs1)
 go_loopw [25] (fun i wr=>∃(k:Nat) (ys:List Nat),k<=xs.length-n/64/\i=.int .i64 k/\Hid (OwnN wr w.heap.size ys)/\Hid (ys.length=xs.length-n/64)/\Hid (Below w.heap.size w wr)/\
  Hid (val (ys.take k)*2^(n%64)+lx xs (n/64)%2^(n%64)=val ((xs.drop (n/64)).take k)+(lx xs (k+n/64)%2^(n%64))*B64^k)) (fun i _=>xs.length-n/64-(intOf i).toNat)
 case atStart=>exact⟨0,_,arA _,rfl,hO1,hdd (by simp),hdd hb1,hdd (by simp[val])⟩
 case round=>
  obtain⟨k,ys,hk,rfl,hO,hL,hB,hV⟩:=hrel;by_cases hlt:k<xs.length-n/64
  . have hcx:wr.cell? ⟨b,off+(k+n/64),none⟩=some (.int .u64 (lim xs (k+n/64))):=(hB.out.cell (p:=⟨b,off+(k+n/64),none⟩) hblt).trans (HC.out _ (by omega))
    have hL':=hL.out;have hcz:wr.cell? ⟨w.heap.size,k,none⟩=some (.int .u64 (lim ys k)):=hO.out.cell (by omega);have hfz:=fun i=>hO.out.frozen i;have bx:=fI hok.out (k+n/64);have hst:=right_step ys xs k (n/64) (n%64) (by omega) (by omega) hok.out (by omega) hV.out;have e1:lim xs (k+n/64)/2^(n%64)=((lx xs (k+n/64)/2^(n%64):Nat):Int):=by rw[sS bx.1,yR];simp
    have hq:lx xs (k+n/64)/2^(n%64)<B64:=arN (arS _ _) (gM hok.out _);by_cases hlt2:k+n/64+1<xs.length
    . have hcx2:wr.cell? ⟨b,off+(k+n/64+1),none⟩=some (.int .u64 (lim xs (k+n/64+1))):=(hB.out.cell (p:=⟨b,off+(k+n/64+1),none⟩) hblt).trans (HC.out _ hlt2)
      have bx2:=fI hok.out (k+n/64+1);have e2:Go.bits BinOp.or IntKind.u64 (lim xs (k+n/64)/2^(n%64)) (IntKind.u64.wrap (lim xs (k+n/64+1)*2^(64-n%64)))=((rQ (lx xs (k+n/64)) (lx xs (k+n/64+1)) (n%64):Nat):Int):=by
       rw[e1,aiA ⟨aq2 _,dI hq⟩ bx2.1];rfl
      have hO':=(hO.out.set_ k (x:=((lx xs (k+n/64)/2^(n%64):Nat):Int)) (aq2 _) (dI hq)).set_ k (x:=((rQ (lx xs (k+n/64)) (lx xs (k+n/64+1)) (n%64):Nat):Int)) (aq2 _) (dI (ah3 _ _ _ (gM hok.out _)));rw[aq3,aq3,<-e1,<-e2,List.set_set]at hO';have HO:=hdd hO';have HB:=hdd ((hB.out.setCell (p:=⟨w.heap.size,k,none⟩) nlr (.int .u64 (lim xs (k+n/64)/2^(n%64)))).setCell (p:=⟨w.heap.size,k,none⟩) nlr (.int .u64 (Go.bits BinOp.or IntKind.u64 (lim xs (k+n/64)/2^(n%64)) (IntKind.u64.wrap (lim xs (k+n/64+1)*2^(64-n%64))))));have HV:=hdd hst;clear hL' hst e1 e2 hq hO';go_wp2
      go_region
      all_goals go_wp2
      go_roundw
      case rel=>exact⟨k+1,_,by omega,by go_num,HO,hdd (by rw[aq1];exact hL.out),hdd HB.out.drew,HV⟩
      case measure=>simp[intOf];omega
    . have e3:rQ (lx xs (k+n/64)) (lx xs (k+n/64+1)) (n%64)=lx xs (k+n/64)/2^(n%64):=by
       rw[aeG (i:=k+n/64+1) (by omega)];unfold rQ;simp
      rw[e3]at hst;have hO':=hO.out.set_ k (x:=((lx xs (k+n/64)/2^(n%64):Nat):Int)) (aq2 _) (dI hq);rw[aq3,<-e1]at hO';have HO:=hdd hO';have HB:=hdd (hB.out.setCell (p:=⟨w.heap.size,k,none⟩) nlr (.int .u64 (lim xs (k+n/64)/2^(n%64))));have HV:=hdd hst;clear hL' hst e1 e3 hq hO';go_wp2
      go_roundw
      case rel=>exact⟨k+1,_,by omega,by go_num,HO,hdd (by rw[aq1];exact hL.out),HB,HV⟩
      case measure=>simp[intOf];omega
  . obtain rfl:k=xs.length-n/64:=by omega
    go_wp2_with fail
    refine(aI (hO.out.natP (p:=fun b=>w.heap.size<=b) hL.out nlr (by omega) nlr)).mono ?_;rintro e w4⟨rfl,v,ys',rfl,hv4,ht4,hval,-⟩;go_wp2;go_ret;refine RetN.of hB.out hv4 ht4 ?_;rw[hval,afS ys xs _ _ hL.out hn hok.out hV.out,xG]
theorem mZ(hx:NatP p w va xs)(hn:n<=9223372036854775807):
 Calls Tryz.prog 299 #[va,.int .i64 n] w (RetN w.heap.size w (val xs/2^n)):=by
 rcases arM (n/64) xs.length with h|h
 . exact ac7 hx h
 . have hv:val xs/2^n=0:=by
    have h1:=bH xs hx.ok;have h2:B64^xs.length<=B64^(n/64):=Nat.pow_le_pow_right bF h;have h3:B64^(n/64)*1<=B64^(n/64)*2^(n%64):=Nat.mul_le_mul_left _ (arL _);rw[xG]at h3;exact arF (by omega)
   rw[hv];clear hv;obtain⟨A,c,rfl,h2,h3,-,h5⟩:=hx;obtain⟨h3,h3b⟩:=h3;clear h5;go_enter Tryz.func299,Tryz.ntmps299
   go_wp2;go_ret;exact RetN.of (aq9 _ _) (NatP.nil w) Tr.nil rfl
theorem aiC(zs xs ys:List Nat)(k:Nat)(d:Int)(b b':Int)(hk:k<zs.length)(hky:k<ys.length)(h0:0<=b)(h0':0<=b')(hd0:0<=d)
 (hs:d+lim ys k+b=lim zs k+18446744073709551616*b') (h:val zs+val (ys.take k)=val xs+b.toNat*B64^k):
 val (zs.set k d.toNat)+val (ys.take (k+1))=val xs+b'.toNat*B64^(k+1):=by
 have h1:=fC zs k d.toNat hk;rw[bQ ys k hky,arK];rw[cK hk,cK hky]at hs;have e:d.toNat+ys[k]+b.toNat=zs[k]+B64*b'.toNat:=by unfold B64;omega
 generalize B64^k=P at*;generalize val (zs.set k d.toNat)=a1 at*;generalize val zs=a2 at*;generalize val xs=a3 at*;generalize val (ys.take k)=a4 at*;generalize ys[k]=a5 at*;generalize zs[k]=a6 at*;generalize d.toNat=a7 at*;generalize b.toNat=a8 at*;generalize b'.toNat=a9 at*;generalize B64=B at*;clear hs h0 h0' hd0 hk hky;have e2:(a7+a5+a8)*P=(a6+B*a9)*P:=by rw[e]
 grind
theorem afT(zs xs ys:List Nat)(k:Nat)(hk:k<zs.length)(hz:OkL zs)(h:val zs+val ys=val xs+(1:Int).toNat*B64^k):
 val (zs.set k (subD (lim zs k) 0 1).toNat)+val ys=val xs+(subB (lim zs k) 0 1).toNat*B64^(k+1):=by
 have h1:=fC zs k (subD (lim zs k) 0 1).toNat hk;have hl:=fI hz k;have hs:=sQ (x:=lim zs k) (y:=0) (b:=1) hl (by omega) (by omega);have hd:=oN (lim zs k) 0 1;have hb:=oO (lim zs k) 0 1;rw[arK];rw[cK hk]at*;have e:(subD (zs[k]:Int) 0 1).toNat+1=zs[k]+B64*(subB (zs[k]:Int) 0 1).toNat:=by unfold B64;omega
 simp only[arX,ar0]at h;generalize (subD (zs[k]:Int) 0 1).toNat=d at*;generalize (subB (zs[k]:Int) 0 1).toNat=b' at*;generalize B64^k=P at*;generalize val (zs.set k d)=a1 at*;generalize val zs=a2 at*;generalize val xs=a3 at*;generalize val ys=a4 at*;generalize zs[k]=a6 at*;generalize B64=B at*;clear hs hd hb hl hk hz;have e2:(d+1)*P=(a6+B*b')*P:=by rw[e]
 grind
theorem oQ(hx:NatP p w va xs)(hy:NatP q w vb ys)(hl:ys.length<=xs.length)(hle:val ys<=val xs):
 Calls Tryz.prog 313 #[va,vb] w (RetN w.heap.size w (val xs-val ys)):=by
 have hx':=hdd hx;have hoy:=hy.ok;have hle':=hdd hle;clear hle;obtain⟨A,c,rfl,h2,h3,-,-⟩:=hx;obtain⟨h3,h3b⟩:=h3;obtain⟨A',c',rfl,h2',h3',-,h5'⟩:=hy;obtain⟨h3',h3b'⟩:=h3';have H5:=hdd h5';clear h5';go_enter Tryz.func313,Tryz.ntmps313
 go_wp2_with (first
  |(at_make;refine bV _ rfl (.tmp 11) (.tmp 11) rfl .i64 .i64 _ xs.length rfl rfl (by omega) (by omega) w.heap.size w (aq9 _ _) nlr ?_;intro w1 hO1 hb1 hbb1 hs1)
  |(with_reducible refine gB (w:=w1) rfl (.tmp 13) (.tmp 14) rfl w.heap.size _ _ _ _ xs rfl rfl hO1.out (by simp) (hx'.out.below hb1) (by simp) w.heap.size w hb1 nlr ?_;intro w2 hO2 hb2)
  |fail)
 have hO2':Hid (OwnN w2 w.heap.size xs):=by have:=hO2.out;rw[jE,Nat.sub_self]at this;simpa using hdd this
 clear hO2 hO1 hb1 hbb1 hs1
 go_loopw [6,18] (fun b i wr=>∃(k:Nat) (bo:Int) (zs:List Nat),k<=ys.length/\i=.int .i64 k/\b=.int .u64 bo/\0<=bo/\bo<=1/\Hid (OwnN wr w.heap.size zs)/\Hid (zs.length=xs.length)/\Hid (Below w.heap.size w wr)/\
  Hid (val zs+val (ys.take k)=val xs+bo.toNat*B64^k)) (fun _ i _=>ys.length-(intOf i).toNat)
 case atStart=>exact⟨0,0,xs,arA _,rfl,rfl,by omega,by omega,hO2',hdd rfl,hdd hb2,hdd (by simp[val])⟩
 case round=>
  obtain⟨k,bo,zs,hk,rfl,rfl,hb0,hb1,hO,hL,hB,hV⟩:=hrel;by_cases hlt:k<ys.length
  . obtain⟨b,off,rfl,-,hblt,hcell⟩:=H5.out (by omega)
    have hcx:wr.cell? ⟨b,off+k,none⟩=some (.int .u64 (lim ys k)):=(hB.out.cell (p:=⟨b,off+k,none⟩) hblt).trans (hcell k hlt);clear hcell;have hcz:wr.cell? ⟨w.heap.size,k,none⟩=some (.int .u64 (lim zs k)):=hO.out.cell (by rw[hL.out];omega);have hfz:wr.frozen? ⟨w.heap.size,k,none⟩=false:=hO.out.frozen _;have bx:=fI hoy k;have bz:=fI hO.out.2 k;have hsub:=fun w=>mX bz bx ⟨hb0,hb1⟩ w;have bs:=oN (lim zs k) (lim ys k) bo;have bc:=oO (lim zs k) (lim ys k) bo;have HV:=hdd (aiC zs xs ys k _ bo _ (by rw[hL.out];omega) hlt hb0 bc.1 bs.1 (sQ bz bx ⟨hb0,hb1⟩) hV.out);have HO:=hdd (hO.out.set_ k bs.1 bs.2);have HB:=hdd (hB.out.setCell (p:=⟨w.heap.size,k,none⟩) nlr (.int .u64 (subD (lim zs k) (lim ys k) bo)));go_wp2
    go_roundw
    case rel=>exact⟨k+1,_,_,by omega,by go_num,rfl,bc.1,bc.2,HO,hdd (by rw[aq1];exact hL.out),HB,HV⟩
    case measure=>simp[intOf];omega
  . obtain rfl:k=ys.length:=by omega
    clear H5 hoy hb2 hO2';go_wp2_with fail
    go_loopw [6,9] (fun b i wr=>∃(j:Nat) (bo:Int) (zs:List Nat),j<=xs.length/\i=.int .i64 j/\b=.int .u64 bo/\0<=bo/\bo<=1/\Hid (OwnN wr w.heap.size zs)/\Hid (zs.length=xs.length)/\Hid (Below w.heap.size w wr)/\
     Hid (val zs+val ys=val xs+bo.toNat*B64^j)) (fun _ i _=>xs.length-(intOf i).toNat)
    case atStart=>exact⟨ys.length,bo,zs,hl,rfl,rfl,hb0,hb1,hO,hL,hB,hdd (by have:=hV.out;rwa[arB]at this)⟩
    case round=>
     clear hO hL hB hV hb0 hb1;obtain⟨j,bo,zs,hj,rfl,rfl,hb0,hb1,hO,hL,hB,hV⟩:=hrel;have hcy:bo=0\/bo=1:=by omega
     rcases hcy with rfl|rfl
     . go_wp2_with fail
       refine(aI (hO.out.natP (p:=fun b=>w.heap.size<=b) hL.out nlr (by omega) nlr)).mono ?_;rintro e w4⟨rfl,v,ys',rfl,hv4,ht4,hval,-⟩;go_wp2;go_ret;refine RetN.of hB.out hv4 ht4 ?_;have:=hV.out;simp at this;omega
     . have hlt:j<xs.length:=by
        rcases arM j xs.length with h|h
        . exact h
        . exfalso
          have e1:j=xs.length:=by omega
          have e2:=hV.out;have e3:=bH zs hO.out.2;have e4:=hle'.out;rw[hL.out]at e3;rw[e1]at e2;simp only[arX,ar0]at e2;omega
       have hcz:wr.cell? ⟨w.heap.size,j,none⟩=some (.int .u64 (lim zs j)):=hO.out.cell (by rw[hL.out];exact hlt);have hfz:wr.frozen? ⟨w.heap.size,j,none⟩=false:=hO.out.frozen _;have bz:=fI hO.out.2 j;have hsub:=fun w=>mX (y:=0) bz (by omega) ⟨hb0,hb1⟩ w;have bs:=oN (lim zs j) 0 1;have bc:=oO (lim zs j) 0 1;have HV:=hdd (afT zs xs ys j (by rw[hL.out];exact hlt) hO.out.2 hV.out);have HO:=hdd (hO.out.set_ j bs.1 bs.2);have HB:=hdd (hB.out.setCell (p:=⟨w.heap.size,j,none⟩) nlr (.int .u64 (subD (lim zs j) 0 1)));go_wp2
       go_roundw
       case rel=>exact⟨j+1,_,_,by omega,by go_num,rfl,bc.1,bc.2,HO,hdd (by rw[aq1];exact hL.out),HB,HV⟩
       case measure=>simp[intOf];omega
theorem al0(xs:List Nat)(k:Nat)(hk:k<xs.length)(hx:OkL xs)(hz:∀j,j<k->lim xs j=0)(hv:lx xs k≠0):ctz (val xs)=64*k+Lib.ctz 64 (lx xs k):=by
 have hlt:=gM hx k;obtain⟨m,hm,hc⟩:=Lib.ctzFrom_spec 64 (lx xs k) (by omega) (by rw[<-dY];exact hlt);have e0:Lib.ctz 64 (lx xs k)=Lib.ctzFrom 64 (lx xs k):=by unfold Lib.ctz;rw[if_neg hv]
 rw[e0];generalize Lib.ctzFrom 64 (lx xs k)=c at*;have ht:val (xs.take k)=0:=by
  have:∀ys:List Nat,(∀y∈ys,y=0)->val ys=0:=by
   intro ys
   induction ys with
   |nil=>intro _;rfl
   |cons y ys ih=>intro h;simp only[val];rw[h y (by simp),ih (fun z hz=>h z (by simp[hz]))];simp
  apply this;intro y hy;obtain⟨j,hj,rfl⟩:=List.getElem_of_mem hy;rw[arR]at hj;have:=hz j (by omega);rw[cK (by omega)]at this;rw[List.getElem_take];omega
 have hd:xs.drop k=lx xs k::xs.drop (k+1):=by rw[dA hk];exact aq6 hk
 have e:val xs=2^(64*k+c)*(2*(m+2^(63-c)*val (xs.drop (k+1)))+1):=by
  rw[bA xs k (by omega),ht,hd];simp only[val];have e2:B64=2^c*(2*2^(63-c)):=by
   rw[dY,<-Nat.pow_succ',<-arD];congr 1;omega
  have e3:B64^k=2^(64*k):=by rw[dY,<-arT]
  rw[e3,arD]
  conv=>lhs;rw[hm]
  rw[e2];generalize 2^(64*k)=P;generalize 2^c=C;generalize 2^(63-c)=D;generalize val (xs.drop (k+1))=R;grind
 rw[e,yQ]
theorem sU(hx:NatP p w va xs)(hT:Tab w):
 Calls Tryz.prog 199 #[va] w (RetI w (ctz (val xs))):=by
 have hok:=hdd hx.ok;have HT:=hdd hT;clear hT;obtain⟨A,c,rfl,h2,h3,-,h5⟩:=hx;obtain⟨h3,h3b⟩:=h3;have H5:=hdd h5;clear h5;go_enter Tryz.func199,Tryz.ntmps199
 go_wp2_with fail
 go_loop [7] (fun i=>∃k:Nat,k<=xs.length/\i=.int .i64 k/\Hid (∀j,j<k->lim xs j=0)) (fun i=>xs.length-(intOf i).toNat)
 case atStart=>exact⟨0,arA _,rfl,hdd (fun j hj=>absurd hj (by omega))⟩
 case round=>
  obtain⟨k,hk,rfl,hZ⟩:=hrel;by_cases hlt:k<xs.length
  . obtain⟨b,off,rfl,-,hblt,hcell⟩:=H5.out (by omega)
    have hcx:=hcell k hlt;rw[yR]at hcx;clear hcell;have bx:=gM hok.out k;by_cases h0:lx xs k=0
    . have hb:(((lx xs k:Nat):Int) != 0)=false:=by rw[h0];rfl
      rw[h0]at hcx;have hZ':Hid (∀j,j<k+1->lim xs j=0):=hdd fun j hj=>by
       rcases arM j k with h|h
       . exact hZ.out j h
       . have:j=k:=by omega
         subst this;rw[yR,h0];rfl
      clear hb h0 bx;go_wp2
      go_round
      case rel=>exact⟨k+1,by omega,by go_num,hZ'⟩
      case measure=>simp[intOf];omega
    . have hb:(((lx xs k:Nat):Int) != 0)=true:=by rw[bne_iff_ne];omega
      have hv:=hdd (al0 xs k hlt hok.out hZ.out h0);obtain⟨u,hu⟩:∃u:Nat,u=lx xs k:=⟨_,rfl⟩;rw[<-hu]at hcx hb bx h0 hv;clear hu;have hc64:Lib.ctz 64 u<=64:=by
       unfold Lib.ctz;rw[if_neg h0];obtain⟨m,hm,hc⟩:=Lib.ctzFrom_spec 64 u (by omega) (by rw[<-dY];exact bx);omega
      go_wp2_with (go_at_call 225;refine(ah9 u bx h0 _ HT.out).mono ?_;rintro e w'⟨rfl,rfl⟩)
      go_ret;refine RetI.of0 ?_;rw[hv.out];omega
  . go_wp2
    go_ret;refine RetI.of0 ?_;have e:val xs=0:=by
     have:=lJ xs 0 (arA _) (fun j _ hj=>hZ.out j (by omega));rw[<-this];rfl
    rw[e];rfl
theorem uJ{ops:Array Oper}{rest:List Oper}{o:Oper}{a:Act}{Q:Exit->Act->World->Prop}(hgd:o.guard=none)(s x:Operand)
 (ho:o.op=.call {callee:=.builtin .append,args:=#[s,x],argTypes:=#[184,184]}) (v:Value) (xs:List Nat)
 (hs:a.eval s=.slice none 0 0) (hv:a.eval x=v) (hx:NatP p w v xs)
 (h:∀v' w',NatP (fun b=>w.heap.size<=b) w' v' xs->Below w.heap.size w w'->wpList Tryz.prog ops Q rest (a.put o.dst v') w'):wpList Tryz.prog ops Q (o::rest) a w:=by
 obtain⟨i0,hi,hz0,hz1,hz2⟩:=info_parts aaP;have hlen:=hx.len;have hok:=hx.ok;obtain⟨A,c,rfl,h2,h3,-,h5⟩:=hx;refine wpList_plain hgd fun K hK=> ?_;have key:∃v' w',(Builtin.append_ #[184,184] o.type #[.slice none 0 0,.slice A xs.length c]).run Tryz.prog w=.ok v' w'/\NatP (fun b=>w.heap.size<=b) w' v' xs/\Below w.heap.size w w':=by
  rcases A with _|ad
  . have hn:xs=[]:=by
     rcases aq7 xs.length with h0|h0
     . exact aq4 h0
     . obtain⟨b,off,e,_⟩:=h5 h0;cases e
    subst hn;refine⟨.slice none 0 0,w,?_,NatP.nil w,aq9 _ _⟩;simp[Builtin.append_,run_underlying sP,sizeOf,typeInfo,hi,Builtin.lenOf,Builtin.firstCells]
  . have hnews:∀j u,(xs.map fun(x:Nat)=>Value.int .u64 (x:Int))[j]? =some u->w.cell? (ad.add j)=some u:=by
     intro j u hu;have hj:j<xs.length:=by
      rcases arM j xs.length with h|h
      . exact h
      . rw[arJ (by simpa using h)]at hu;cases hu
     obtain⟨b,off,e,_,_,hc⟩:=h5 (by omega);obtain rfl:ad=⟨b,off,none⟩:=Option.some.inj e;rw[Addr.add_lit,hc j hj,cK hj];rw[List.getElem?_map,arE hj]at hu;simpa using hu
    obtain⟨v',w',hrun,hown,hg,_,_⟩:=run_append_own_at (P:=Tryz.prog) w w.heap.size _ o.type 198 i0 (.int .u64 0) 1 8 sP hi hz0 hz1 hz2 rfl (by omega) (.slice none 0 0) 0 []
     (World.ownsRow_nil w _ _ _) ad xs.length c (xs.map fun(x:Nat)=>Value.int .u64 (x:Int)) (by simp) hnews (by intro u hu;obtain⟨x,_,rfl⟩:=List.mem_map.1 hu;rfl) (by simp only[maxLen];omega) (by omega) nlr
    refine⟨v',w',hrun,?_,(aq9 _ _).grown hg nlr (by simp[Value.ownBlock])⟩;simp only[Nat.zero_add,List.nil_append]at hown;rcases hown.2 with ⟨rfl,h0⟩|⟨g,cap,cur,rfl,hbg,hh,hnc,hcm,hcs,htake⟩
    . have hn:=aq4 h0
      subst hn;exact NatP.nil w'
    . refine⟨_,cap,rfl,hnc,⟨hlen,by simp only[maxLen]at hcm;omega⟩,hok,fun hpos=>⟨g,0,rfl,hbg,(Array.getElem?_eq_some_iff.1 hh).1,fun k hk=> ?_⟩⟩
      have:=hown.cells (g:=g) rfl k (.int .u64 (lim xs k)) (by rw[cK hk];simp[hk]);rwa[Addr.add_lit]at this
 obtain⟨v',w',hrun,hN,hB⟩:=key;unfold Oper.wp execOp;simp only[ho,resolve,invoke,builtin,Sem.run_bind,Sem.run_pure,Result.andThen_ok,List.map_toArray,List.map_cons,List.map_nil,hs,hv,hrun];exact hK _ _ (h v' w' hN hB)
theorem kQ(hx:NatP p w va xs):
 Calls Tryz.prog 217 #[va] w (RetN w.heap.size w (val xs)):=by
 go_enter Tryz.func217,Tryz.ntmps217
 go_wp2_with fail
 refine(aI hx).mono ?_;rintro e w1⟨rfl,v1,xs1,rfl,hv1,ht1,hval1,-⟩;have HV:=hdd hval1;clear hval1 hx;have HN:=hdd hv1;clear hv1;go_wp2_with (at_builtin;refine uJ rfl _ _ rfl v1 xs1 rfl rfl HN.out ?_;intro v2 w2 hn2 hb2)
 go_ret;exact RetN.of hb2 hn2 ht1 HV.out
def mulH(x y:Nat):Nat:=x*y/B64
def mulL(x y:Nat):Nat:=x*y%B64
theorem fQ(x y:Nat)(hx:x<B64)(hy:y<B64)(w:World):
 Calls Tryz.prog 316 #[.int .u64 x,.int .u64 y] w fun e w'=>e=.returned (.tuple #[.int .u64 (mulH x y:Nat),.int .u64 (mulL x y:Nat)])/\w'=w:=
 Tryz.bits_Mul64 x y hx hy w
theorem yS(x y:Nat):B64*mulH x y+mulL x y=x*y:=arV _ _
theorem oU(x y:Nat):mulL x y<B64:=arO _ bF
theorem yT(x y z cy:Nat)(hx:x<B64)(hy:y<B64)(hz:z<B64)(hc:cy<B64):
 let s1:=addS (mulL x y:Nat) (z:Nat) 0;let c1:=addC (mulL x y:Nat) (z:Nat) 0
 let s2:=addS s1 (cy:Nat) 0;let c2:=addC s1 (cy:Nat) 0
 s2+18446744073709551616*((mulH x y:Nat)+c1+c2)=(x*y+z+cy:Nat)/\(mulH x y:Nat)+c1<=18446744073709551615/\(mulH x y:Nat)+c1+c2<=18446744073709551615/\0<=c1/\0<=c2/\0<=s2/\s2<18446744073709551616/\0<=s1/\s1<18446744073709551616:=by
 intro s1 c1 s2 c2;have h1:=yS x y;have h2:=oU x y;have h3:x*y<=(B64-1)*(B64-1):=Nat.mul_le_mul (by omega) (by omega);have h4:(B64-1)*(B64-1)+2*(B64-1)+1=B64*B64:=by decide
 have hB:B64=18446744073709551616:=rfl;have e1:=iF (mulL x y:Nat) (z:Nat) 0;have e2:=iF s1 (cy:Nat) 0;have b1:=gD (mulL x y:Nat) (z:Nat) 0;have b2:=gD s1 (cy:Nat) 0;have c1b:=gF (x:=((mulL x y:Nat):Int)) (y:=((z:Nat):Int)) (c:=0) (by omega) (by omega) (by omega);have c2b:=gF (x:=s1) (y:=((cy:Nat):Int)) (c:=0) b1 (by omega) (by omega);have hs1:s1=addS (mulL x y:Nat) (z:Nat) 0:=rfl;have hc1:c1=addC (mulL x y:Nat) (z:Nat) 0:=rfl;have hs2:s2=addS s1 (cy:Nat) 0:=rfl;have hc2:c2=addC s1 (cy:Nat) 0:=rfl;rw[<-hs1]at e1 b1;rw[<-hc1]at e1 c1b;rw[<-hs2]at e2 b2;rw[<-hc2]at e2 c2b
 clear_value s1 c1 s2 c2
 rw[hB]at h1 h4;generalize x*y=xy at*;have h3':xy<=18446744073709551615*18446744073709551615:=h3
 push_cast
 refine⟨by omega,by omega,by omega,c1b.1,c2b.1,b2.1,b2.2,b1.1,b1.2⟩
theorem ac8(z' z0 z P s B hi T xv t a:Nat)(h1:z'+z0*P=z+s*P)(h2:s+B*hi=T+z0+a)(h:z+a*P=t):z'+hi*(P*B)=t+T*P:=by
 have:(s+B*hi)*P=(T+z0+a)*P:=by rw[h2]
 grind
theorem aaT(zs xs ys:List Nat)(i j cy:Nat)(s:Int)(hi:Int)(hij:i+j<zs.length)(hj:j<ys.length)(h0:0<=s)(h0':0<=hi)
 (hs:s+18446744073709551616*hi=(lx xs i*lx ys j+lx zs (i+j)+cy:Nat))
 (h:val zs+cy*B64^(i+j)=val (xs.take i)*val ys+lx xs i*val (ys.take j)*B64^i):
 val (zs.set (i+j) s.toNat)+hi.toNat*B64^(i+(j+1))=val (xs.take i)*val ys+lx xs i*val (ys.take (j+1))*B64^i:=by
 have h1:=fC zs (i+j) s.toNat hij;rw[<-dA hij]at h1;rw[bQ ys j hj,<-dA hj];have e:s.toNat+B64*hi.toNat=lx xs i*lx ys j+lx zs (i+j)+cy:=by unfold B64;omega
 have e2:B64^(i+(j+1))=B64^(i+j)*B64:=by rw[<-Nat.add_assoc,arK]
 rw[e2,ac8 _ _ _ _ _ _ _ _ 0 _ _ h1 e h,arD];grind
theorem xH(zs:List Nat)(i m x:Nat)(him:i<m)(hz:∀j,m<=j->j<zs.length->lx zs j=0):∀j,m<=j->j<(zs.set i x).length->lx (zs.set i x) j=0:=by
 intro j h1 h2;rw[aq1]at h2;have:=hz j h1 h2;rw[dA (by rw[aq1];exact h2),arC (by omega)];rwa[dA h2]at this
theorem ac9(hx:NatP p w va xs)(hy:NatP q w vb ys)(hL:xs.length+ys.length<=1099511627776):
 Calls Tryz.prog 381 #[va,vb] w (RetN w.heap.size w (val xs*val ys)):=by
 have hox:=hdd hx.ok;have hoy:=hdd hy.ok;obtain⟨A,c,rfl,h2,h3,-,h5⟩:=hx;obtain⟨h3,h3b⟩:=h3;obtain⟨A',c',rfl,h2',h3',-,h5'⟩:=hy;obtain⟨h3',h3b'⟩:=h3';have H5:=hdd h5;clear h5;have H5':=hdd h5';clear h5';go_enter Tryz.func381,Tryz.ntmps381
 go_wp2_with (first
  |(at_make;refine bV _ rfl (.tmp 18) (.tmp 18) rfl .i64 .i64 _ (xs.length+ys.length) rfl rfl (by omega) (by omega) w.heap.size w (aq9 _ _) nlr ?_;intro w1 hO1 hb1 hbb1 hs1)
  |fail)
 go_loopw [22] (fun i wr=>∃(k:Nat) (zs:List Nat),k<=xs.length/\i=.int .i64 k/\Hid (OwnN wr w.heap.size zs)/\Hid (zs.length=xs.length+ys.length)/\Hid (Below w.heap.size w wr)/\
  Hid (val zs=val (xs.take k)*val ys)/\Hid (∀j,k+ys.length<=j->j<zs.length->lx zs j=0)) (fun i _=>xs.length-(intOf i).toNat)
 case atStart=>
  exact⟨0,_,arA _,rfl,hO1,hdd (by simp),hdd hb1,hdd (by rw[aR];simp[val]),hdd (fun j _ hj=>by rw[dA hj];simp)⟩
 case round=>
  obtain⟨k,zs,hk,rfl,hO,hLz,hB,hV,hZ⟩:=hrel;by_cases hlt:k<xs.length
  . obtain⟨b,off,rfl,-,hblt,hcell⟩:=H5.out (by omega)
    have hcx:wr.cell? ⟨b,off+k,none⟩=some (.int .u64 (lx xs k:Nat)):=(hB.out.cell (p:=⟨b,off+k,none⟩) hblt).trans (hcell k hlt);clear hcell;obtain⟨wo,rfl⟩:∃wo:World,wo=wr:=⟨_,rfl⟩;go_wp2_with fail
    go_loopw [8,29] (fun cc i wr=>∃(j cy:Nat) (zs:List Nat),j<=ys.length/\i=.int .i64 j/\cc=.int .u64 (cy:Nat)/\Hid (cy<B64)/\Hid (OwnN wr w.heap.size zs)/\Hid (zs.length=xs.length+ys.length)/\Hid (Below w.heap.size w wr)/\
     Hid (val zs+cy*B64^(k+j)=val (xs.take k)*val ys+lx xs k*val (ys.take j)*B64^k)/\Hid (∀j,k+ys.length<=j->j<zs.length->lx zs j=0)) (fun _ i _=>ys.length-(intOf i).toNat)
    case atStart=>exact⟨0,0,zs,arA _,rfl,rfl,hdd bF,hO,hLz,hB,hdd (by have:=hV.out;simp[val,this]),hZ⟩
    case round=>
     clear hO hLz hB hV hZ hcx;obtain⟨j,cy,zs,hj,rfl,rfl,hcy,hO,hLz,hB,hV,hZ⟩:=hrel;by_cases hjt:j<ys.length
     . obtain⟨b2,off2,rfl,-,hblt2,hcell2⟩:=H5'.out (by omega)
       have hcy2:wr.cell? ⟨b2,off2+j,none⟩=some (.int .u64 (lx ys j:Nat)):=(hB.out.cell (p:=⟨b2,off2+j,none⟩) hblt2).trans (hcell2 j hjt);clear hcell2;have hcz:wr.cell? ⟨w.heap.size,k+j,none⟩=some (.int .u64 (lx zs (k+j):Nat)):=hO.out.cell (by rw[hLz.out];omega);have hfz:wr.frozen? ⟨w.heap.size,k+j,none⟩=false:=hO.out.frozen _;have bx:=gM hox.out k;have by_:=gM hoy.out j;have bz:=gM hO.out.2 (k+j);have hd:=yT (lx xs k) (lx ys j) (lx zs (k+j)) cy bx by_ bz hcy.out;obtain⟨d1,d2,d3,d4,d5,d6,d7,d8,d9⟩:=hd;have HV:=hdd (aaT zs xs ys k j cy _ _ (by rw[hLz.out];omega) hjt d6 (by omega) d1 hV.out);have HO:=hdd (hO.out.set_ (k+j) d6 d7);have HB:=hdd (hB.out.setCell (p:=⟨w.heap.size,k+j,none⟩) nlr (.int .u64 (addS (addS (mulL (lx xs k) (lx ys j):Nat) (lx zs (k+j):Nat) 0) (cy:Nat) 0)));have HZ:=hdd (xH zs (k+j) (k+ys.length) (addS (addS (mulL (lx xs k) (lx ys j):Nat) (lx zs (k+j):Nat) 0) (cy:Nat) 0).toNat (by omega) hZ.out);clear d1;have hadd1:=fun w=>eF (x:=((mulL (lx xs k) (lx ys j):Nat):Int)) (y:=((lx zs (k+j):Nat):Int)) (c:=0) (aq2 _) (aq2 _) (by omega) w
       have hadd2:=fun w=>eF (x:=addS (mulL (lx xs k) (lx ys j):Nat) (lx zs (k+j):Nat) 0) (y:=((cy:Nat):Int)) (c:=0) d8 (aq2 _) (by omega) w;go_wp2_with (go_at_call 316;refine(fQ (lx xs k) (lx ys j) bx by_ _).mono ?_;rintro e w'⟨rfl,rfl⟩)
       go_roundw
       case rel=>exact⟨j+1,_,_,by omega,by go_num,by rw[Int.toNat_of_nonneg (by omega)],hdd (by unfold B64;omega),HO,hdd (by rw[aq1];exact hLz.out),HB,HV,HZ⟩
       case measure=>simp[intOf];omega
     . obtain rfl:j=ys.length:=by omega
       have hzl:=hLz.out;have hcz:wr.cell? ⟨w.heap.size,k+ys.length,none⟩=some (.int .u64 (lx zs (k+ys.length):Nat)):=hO.out.cell (by omega);have hfz:wr.frozen? ⟨w.heap.size,k+ys.length,none⟩=false:=hO.out.frozen _;have hcy':=dI hcy.out;have hz0:=hZ.out (k+ys.length) nlr (by omega);have h1:=fC zs (k+ys.length) cy (by omega);rw[<-dA (by omega),hz0]at h1;have hVs:val (zs.set (k+ys.length) cy)=val (xs.take (k+1))*val ys:=by
        have:=hV.out;rw[arB]at this;rw[bQ xs k hlt,<-dA hlt];grind
       have HV:=hdd hVs;have hO':=hO.out.set_ (k+ys.length) (x:=((cy:Nat):Int)) (aq2 _) hcy';rw[aq3]at hO';have HO:=hdd hO';have HB:=hdd (hB.out.setCell (p:=⟨w.heap.size,k+ys.length,none⟩) nlr (.int .u64 (cy:Nat)));have HZ:Hid (∀j,k+1+ys.length<=j->j<(zs.set (k+ys.length) cy).length->lx (zs.set (k+ys.length) cy) j=0):=
        hdd (xH zs (k+ys.length) (k+1+ys.length) cy (by omega) (fun j h1 h2=>hZ.out j (by omega) h2))
       clear h1 hVs hO' hz0 hzl hcy';go_wp2
       go_roundw
       case rel=>exact⟨k+1,_,by omega,by go_num,HO,hdd (by rw[aq1];exact hLz.out),HB,HV,HZ⟩
       case measure=>simp[intOf];omega
  . obtain rfl:k=xs.length:=by omega
    go_wp2_with fail
    refine(aI (hO.out.natP (p:=fun b=>w.heap.size<=b) hLz.out nlr (by omega) nlr)).mono ?_;rintro e w4⟨rfl,v,ys',rfl,hv4,ht4,hval,-⟩;go_wp2;go_ret;exact RetN.of hB.out hv4 ht4 (by rw[hval,hV.out,arB])
end Go.Proofs.YtigoiiekebccnaaGreatDoor
