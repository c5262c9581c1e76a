/- A part of the proof: contracts of functions and plain laws (NatD, NatE, NatF, NatG, NatH, NatI). -/
import Derived.Test.YtkadpnljocflaaaGreatDoorK01
import Derived.Test.YtkadpnljocflaaaGreatDoorShelf
import Derived.Shelf.Spec.TrailingZeros
import Derived.Laws.Bits64b
set_option linter.unusedVariables false
set_option linter.unusedSimpArgs false
set_option linter.unnecessarySimpa false
set_option maxHeartbeats 25600000
set_option maxRecDepth 100000
namespace Go.Proofs.YtkadpnljocflaaaGreatDoor
open Go.RowKit
open Go.RowKit.Below renaming refl->al8
open Int renaming natCast_nonneg->al1,toNat_natCast->al2,eq_ofNat_of_zero_le->al7,toNat_one->amW
open List renaming length_set->al0,eq_nil_of_length_eq_zero->al3,getD_eq_getElem?_getD->al4,drop_eq_getElem_cons->al5,take_length->amA,getElem_set_ne->amB,getElem?_eq_getElem->amD,drop_of_length_le->amF,take_of_length_le->amG,getElem_set_self->amH,getElem?_eq_none->amI,length_drop->amP,length_take->amQ,drop_zero->amV
open Nat renaming eq_zero_or_pos->al6,zero_le->al9,pow_add->amC,div_eq_of_lt->amE,pow_succ->amJ,two_pow_pos->amK,lt_or_ge->amL,lt_of_le_of_lt->amM,mod_lt->amN,add_zero->amO,div_le_self->amR,pow_mul->amS,mul_add_div->amT,div_add_mod->amU,add_comm->amX,le_refl->amY,one_mul->amZ
variable{m v:Int}{xs ys:List Nat}{i n r:Nat}{p q:Nat->Prop}{va vb:Value}{w w':World}
def Tab(w:World):Prop:=TabAt 0 Lib.deBruijn64tab w
theorem Tab.keep (h:Tab w)(hb:∀b,b<w.heap.size->w'.heap[b]? =w.heap[b]?):Tab w':=by
 intro j hj;have h1:=h j hj;exact(World.cell?_of_block (w:=w) (w':=w') (hb _ (World.block_lt_of_cell? w _ h1))).trans h1
theorem Tab.below (h:Tab w)(hb:Below w.heap.size w w'):Tab w':=h.keep hb.block
theorem tz64_core(x k idx:Nat)(w:World)(hx0:((x:Int)==0)=false)
 (key:IntKind.u64.wrap (Go.bits BinOp.and IntKind.u64 (x:Int) (IntKind.u64.wrap (-(x:Int)))*285870213051353865)/288230376151711744=(idx:Int))
 (hi:idx<64) (hk:k<64) (hcell:w.cell? ⟨0,idx,none⟩=some (.int .u8 k)):
 Calls Tryz.prog 123 #[.int .u64 x] w fun e w'=>e=.returned (.int .i64 k)/\w'=w:=by
 go_enter Tryz.func123,Tryz.ntmps123
 go_wp2_with (simp only[key])
 go_ret;exact⟨rfl,rfl⟩
theorem ad9(x:Nat)(hx:x<18446744073709551616)(hx0:x≠0)(w:World)(hT:Tab w):
 Calls Tryz.prog 123 #[.int .u64 x] w fun e w'=>e=.returned (.int .i64 (Lib.ctz 64 x))/\w'=w:=by
 obtain⟨hlow,hk⟩:=Lib.lowest_bit 64 x hx0 hx;obtain⟨hi,htab⟩:=Lib.deBruijn64_at _ hk;have hcell:=hT _ hi;rw[htab]at hcell;exact tz64_core x _ _ w (by simp;omega) (tz64_key x _ hx hx0 hlow) hi hk hcell
def cmpN(a b:Nat):Int:=if a<b then-1 else if b<a then 1 else 0
def RetI(w:World)(n:Int)(e:Ending)(w':World):Prop:=e=.returned (.int .i64 n)/\∃k,w'=w.drewN k
theorem RetI.of {n:Int}{k:Nat}(h:m=n):RetI w n (.returned (.int .i64 m)) (w.drewN k):=by subst h;exact⟨rfl,k,rfl⟩
theorem RetI.ofw {n:Int}(h:m=n)(hw:∃k,w'=w.drewN k):RetI w n (.returned (.int .i64 m)) w':=by subst h;exact⟨rfl,hw⟩
theorem RetI.of0 {n:Int}(h:m=n):RetI w n (.returned (.int .i64 m)) w:=by subst h;exact⟨rfl,0,rfl⟩
theorem lS(hx:NatP p w va xs)(hy:NatP q w vb ys):
 Calls Tryz.prog 125 #[va,vb] w (RetI w (cmpN (val xs) (val ys))):=by
 go_enter Tryz.func125,Tryz.ntmps125
 go_wp2_with fail
 refine(aH hx).mono ?_;rintro e w1⟨rfl,v1,xs1,rfl,hv1,ht1,hval1,-⟩;go_wp2_with fail
 refine(aH hy).mono ?_;rintro e w1⟨rfl,v2,ys1,rfl,hv2,ht2,hval2,-⟩;have HV1:=hdd hval1;have HV2:=hdd hval2;clear hval1 hval2 hx hy;have ho1:=hv1.ok;have ho2:=hv2.ok;obtain⟨A1,c1,rfl,l1,l1',-,hc1⟩:=hv1;obtain⟨A2,c2,rfl,l2,l2',-,hc2⟩:=hv2;obtain⟨l1',l1b⟩:=l1';obtain⟨l2',l2b⟩:=l2';have HT1:=hdd ht1;have HT2:=hdd ht2;have HO1:=hdd ho1;have HO2:=hdd ho2;have HC1:=hdd hc1;have HC2:=hdd hc2;clear ht1 ht2 ho1 ho2 hc1 hc2;rcases Nat.lt_trichotomy xs1.length ys1.length with h|h|h
 . have hb:((xs1.length:Int) != (ys1.length:Int))=true:=by simp;omega
   go_wp2;go_ret;have:=mO xs1 ys1 HO1.out HT2.out h;exact RetI.of0 (by rw[<-HV1.out,<-HV2.out];unfold cmpN;rw[if_pos this])
 . have hb:((xs1.length:Int) != (ys1.length:Int))=false:=by simp;omega
   have HL:=hdd h;clear h;have hlx:xs1.length<=1099511627776:=by omega
   go_wp2
   go_loopw [5] (fun i wr=>∃k n:Nat,k<=xs1.length/\i=.int .i64 ((k:Int)-1)/\wr=w.drewN n/\Hid (xs1.drop k=ys1.drop k)) (fun i _=>(intOf i+1).toNat)
   case atStart=>exact⟨xs1.length,0,amY _,rfl,rfl,hdd (by rw[amF nlr,amF (by rw[HL.out];exact amY _)])⟩
   case round=>
    obtain⟨k,n,hk,rfl,rfl,hd⟩:=hrel;rcases al6 k with h0|h0
    . subst h0
      go_wp2;go_ret;have:=hd.out;rw[amV,amV]at this;exact RetI.of (by rw[<-HV1.out,<-HV2.out,this];unfold cmpN;rw[if_neg (by omega),if_neg (by omega)])
    . obtain⟨j,rfl⟩:∃j,k=j+1:=⟨k-1,by omega⟩
      obtain⟨b1,o1,rfl,-,-,hcell1⟩:=HC1.out (by omega);obtain⟨b2,o2,rfl,-,-,hcell2⟩:=HC2.out (by rw[<-HL.out];omega);have g1:=hcell1 j (by omega);have g2:=hcell2 j (by rw[<-HL.out];omega);have hjy:j<ys1.length:=by rw[<-HL.out];omega
      clear hcell1 hcell2;have e1:lim xs1 j=(xs1[j]:Int):=cB (by omega);have e2:lim ys1 j=(ys1[j]:Int):=cB hjy;have E1:=hdd e1;have E2:=hdd e2;clear e1 e2;have hlxy:=HL.out;rcases Int.lt_trichotomy (lim xs1 j) (lim ys1 j)with hlt|heq|hgt
      . go_wp2
        go_quiet (fail)
        go_wp2;go_ret;have:=rD xs1 ys1 j HO1.out HL.out (by omega) hd.out (by have:=E1.out;have:=E2.out;omega);exact RetI.ofw (hw:=⟨_,by simp only[World.drewN_drewN];rfl⟩) (by rw[<-HV1.out,<-HV2.out];unfold cmpN;rw[if_pos this])
      . have hd':Hid (xs1.drop j=ys1.drop j):=by
         refine hdd ?_;rw[al5 (by omega:j<xs1.length),al5 hjy,hd.out]
         congr 1
         have:=E1.out;have:=E2.out;omega
        have q1:¬lim xs1 j<lim ys1 j:=by omega
        have q2:¬lim ys1 j<lim xs1 j:=by omega
        clear heq hlxy;go_wp2
        go_quiet (fail)
        go_wp2
        go_quiet (fail)
        go_wp2
        go_roundw
        case rel=>exact⟨j,_,by omega,by go_num,rfl,hd'⟩
        case measure=>simp[intOf]
      . have q1:¬lim xs1 j<lim ys1 j:=by omega
        go_wp2
        go_quiet (fail)
        go_wp2
        go_quiet (fail)
        go_wp2;go_ret;have:=rD ys1 xs1 j HO2.out HL.out.symm hjy hd.out.symm (by have:=E1.out;have:=E2.out;omega);exact RetI.ofw (hw:=⟨_,by simp only[World.drewN_drewN];rfl⟩) (by rw[<-HV1.out,<-HV2.out];unfold cmpN;rw[if_neg (by omega),if_pos this])
 . have hb:((xs1.length:Int) != (ys1.length:Int))=true:=by simp;omega
   go_wp2;go_ret;have:=mO ys1 xs1 HO2.out HT1.out h;exact RetI.of0 (by rw[<-HV1.out,<-HV2.out];unfold cmpN;rw[if_neg (by omega),if_pos this])
theorem uK(x:Nat)(h:x≠0):bits x=1+bits (x/2):=by
 unfold bits;rw[if_neg h,Nat.log2_def x]
 split
 . rename_i h2
   rw[if_neg (by omega)];omega
 . rw[if_pos (by omega)]
theorem kC(n:Nat)(hn:n<2^64):Lib.bitLen n=bits n:=by
 induction n using Nat.strongRecOn with
 |ind n ih=>
  by_cases h:n=0
  . subst h;rfl
  . rw[Lib.bitLen_half n h hn,uK n h,ih (n/2) (by omega) (by omega)]
theorem cO(hx:NatP p w va xs):
 Calls Tryz.prog 81 #[va] w (RetI w (bits (val xs))):=by
 go_enter Tryz.func81,Tryz.ntmps81
 go_wp2_with fail
 refine(aH hx).mono ?_;rintro e w1⟨rfl,v1,xs1,rfl,hv1,ht1,hval1,-⟩;have HV1:=hdd hval1;clear hval1 hx;have ho1:=hv1.ok;obtain⟨A1,c1,rfl,l1,l1',-,hc1⟩:=hv1;obtain⟨l1',l1b⟩:=l1';have HT1:=hdd ht1;have HO1:=hdd ho1;clear ht1 ho1;rcases al6 xs1.length with h|h
 . have hn:=al3 h
   subst hn;clear h;go_wp2;go_ret;exact RetI.of0 (by rw[<-HV1.out];rfl)
 . have hb:((xs1.length:Int)==0)=false:=beq_eq_false_iff_ne.2 (by omega)
   obtain⟨b1,o1,rfl,-,-,hcell1⟩:=hc1 h;have g1:=hcell1 (xs1.length-1) (by omega);clear hcell1 hc1;have hne:xs1≠[]:=List.length_pos_iff.1 h;obtain⟨u,hu⟩:∃u:Nat,u=xs1.getLast hne:=⟨_,rfl⟩;have hul:lim xs1 (xs1.length-1)=(u:Int):=by
    rw[cB (by omega),hu,List.getLast_eq_getElem]
   have hub:=(fD HO1.out (xs1.length-1)).2;rw[hul]at g1 hub;have hub':u<2^64:=by omega
   have hbb:bits u<=64:=by rw[aF];exact hub'
   have hlb:=kC u hub';have HB:=hdd (jD xs1 HO1.out HT1.out hne);rw[<-hu]at HB;clear hul hub';have hlen:=hdd hlb;clear hlb hu hne;go_wp2_with (go_at_call 126;refine(Tryz.bits_Len64 (u:Int) _ (by omega) (by omega)).mono ?_;rintro e w'⟨rfl,rfl⟩;rw[al2,hlen.out])
   go_ret;refine RetI.of0 ?_;rw[<-HV1.out,HB.out];omega
theorem aeA{u:Int}(hu:0<=u/\u<18446744073709551616)(hv:0<=v):
 Go.bits BinOp.or IntKind.u64 u (IntKind.u64.wrap (v*2^r))=((u.toNat ||| (v.toNat*2^r)%B64:Nat):Int):=by
 obtain⟨U,rfl⟩:=al7 hu.1;obtain⟨V,rfl⟩:=al7 hv;have e:IntKind.u64.wrap ((V:Int)*2^r)=((V*2^r%B64:Nat):Int):=by
  rw[IntKind.wrap_u64,Int.natCast_emod,Int.natCast_mul,Int.natCast_pow];rfl
 rw[e,show B64=18446744073709551616 from rfl,bits_or_u64_nat _ _ (by omega) (amN _ (by omega))];simp only[al2]
theorem qL(hv:0<=v):v/2^r=((v.toNat/2^r:Nat):Int):=by
 obtain⟨V,rfl⟩:=al7 hv;simp
theorem aj6(a b:Nat)(ha:a<B64):0<=((a ||| b%B64:Nat):Int)/\((a ||| b%B64:Nat):Int)<18446744073709551616:=by
 have h:=uI a (b%B64) ha (amN _ bE);unfold B64 at h;unfold B64;omega
theorem dH{x:Nat}(h:x<B64):(x:Int)<18446744073709551616:=by unfold B64 at h;omega
theorem acI(ys:List Nat)(i a b:Nat)(hz:∀j,i<j->j<ys.length->lim ys j=0):∀j,i+1<j->j<((ys.set i a).set (i+1) b).length->lim ((ys.set i a).set (i+1) b) j=0:=by
 intro j h1 h2;rw[al0,al0]at h2;have:=hz j (by omega) h2;rw[cB (by rw[al0,al0];exact h2),amB (by omega),amB (by omega)];rwa[cB h2]at this
theorem aeB(hx:NatP p w va xs)(hn:xs.length+n/64<1099511627776)(hpos:0<xs.length):
 Calls Tryz.prog 170 #[va,.int .i64 n] w (RetN w.heap.size w (val xs*2^n)):=by
 have hok:=hdd hx.ok;obtain⟨A,c,rfl,h2,h3,-,h5⟩:=hx;obtain⟨h3,h3b⟩:=h3;have hb:((xs.length:Int)==0)=false:=beq_eq_false_iff_ne.2 (by omega);obtain⟨b,off,rfl,-,hblt,hcell⟩:=h5 hpos;have HC:=hdd hcell;clear hcell h5;go_enter Tryz.func170,Tryz.ntmps170
 go_wp2_with (at_make;refine bU _ rfl (.tmp 22) (.tmp 22) rfl .i64 .i64 _ (xs.length+n/64+1) rfl rfl (by omega) (by omega) w.heap.size w (al8 _ _) nlr ?_;intro w1 hO1 hb1 hbb1 hs1)
 go_loopw [26] (fun i wr=>∃(k:Nat) (ys:List Nat),k<=xs.length/\i=.int .i64 k/\Hid (OwnN wr w.heap.size ys)/\Hid (ys.length=xs.length+n/64+1)/\Hid (Below w.heap.size w wr)/\
  Hid (val ys=val (xs.take k)*2^(n%64)*B64^(n/64))/\Hid (lim ys (k+n/64)<2^(n%64))/\Hid (∀j,k+n/64<j->j<ys.length->lim ys j=0)) (fun i _=>xs.length-(intOf i).toNat)
 case atStart=>
  have e:∀j,lim (List.replicate (xs.length+n/64+1) 0) j=0:=fun j=>by unfold lim;rw[al4,List.getElem?_replicate];split<;>rfl
  exact⟨0,_,al9 _,rfl,hO1,hdd (by simp),hdd hb1,hdd (by rw[aQ];simp[val]),hdd (by rw[e];exact Int.pow_pos (by omega)),hdd (fun j _ _=>e j)⟩
 case round=>
  obtain⟨k,ys,hk,rfl,hO,hL,hB,hV,hS,hZ⟩:=hrel;by_cases hlt:k<xs.length
  . have hcx:wr.cell? ⟨b,off+k,none⟩=some (.int .u64 (lim xs k)):=(hB.out.cell (p:=⟨b,off+k,none⟩) hblt).trans (HC.out k hlt)
    have hL':=hL.out;have hcz:wr.cell? ⟨w.heap.size,k+n/64,none⟩=some (.int .u64 (lim ys (k+n/64))):=hO.out.cell (by omega);have hcz2:wr.cell? ⟨w.heap.size,k+n/64+1,none⟩=some (.int .u64 (lim ys (k+n/64+1))):=hO.out.cell (by omega);have hfz:=fun i=>hO.out.frozen i;have bx:=fD hok.out k;have bz:=fD hO.out.2 (k+n/64);have hi1:k+n/64+1<ys.length:=by omega
    have hr:n%64<=64:=by omega
    have ex:=cB hlt;have ez:=cB (xs:=ys) (k:=k+n/64) (by omega);have hv64:xs[k]<B64:=hok.out.get k hlt;have hst:=left_step ys (k+n/64) xs[k] (n%64) hi1 hr (by have:=hS.out;rw[ez]at this;exact_mod_cast this) (by have:=hZ.out (k+n/64+1) (by omega) hi1;rw[cB hi1]at this;omega);have e1:Go.bits BinOp.or IntKind.u64 (lim ys (k+n/64)) (IntKind.u64.wrap (lim xs k*2^(n%64)))=((ys[k+n/64] ||| (xs[k]*2^(n%64))%B64:Nat):Int):=by
     rw[aeA bz bx.1,ex,ez];simp
    have e2:lim xs k/2^(64-n%64)=((xs[k]/2^(64-n%64):Nat):Int):=by rw[qL bx.1,ex];simp
    have hhs:=rF xs[k] (n%64) hv64 hr;have hb1':=aj6 ys[k+n/64] (xs[k]*2^(n%64)) (hO.out.2.get _ _);have hb2':xs[k]/2^(64-n%64)<B64:=amM (amR _ _) hv64;have hO':=(hO.out.set_ (k+n/64) hb1'.1 hb1'.2).set_ (k+n/64+1) (x:=((xs[k]/2^(64-n%64):Nat):Int)) (al1 _) (dH hb2');rw[al2,al2,<-e1,<-e2]at hO';have HO:=hdd hO';have HB:=hdd ((hB.out.setCell (p:=⟨w.heap.size,k+n/64,none⟩) nlr (.int .u64 (Go.bits BinOp.or IntKind.u64 (lim ys (k+n/64)) (IntKind.u64.wrap (lim xs k*2^(n%64)))))).setCell (p:=⟨w.heap.size,k+n/64+1,none⟩) nlr (.int .u64 (lim xs k/2^(64-n%64))));have HV:Hid (val ((ys.set (k+n/64) (ys[k+n/64] ||| (xs[k]*2^(n%64))%B64)).set (k+n/64+1) (xs[k]/2^(64-n%64)))=val (xs.take (k+1))*2^(n%64)*B64^(n/64)):=by
     refine hdd ?_;rw[hst,hV.out,bO xs k hlt,amC];grind
    have HS:Hid (lim ((ys.set (k+n/64) (ys[k+n/64] ||| (xs[k]*2^(n%64))%B64)).set (k+n/64+1) (xs[k]/2^(64-n%64))) (k+1+n/64)<2^(n%64)):=by
     refine hdd ?_;have e3:k+1+n/64=k+n/64+1:=by omega
     rw[e3,cB (by rw[al0,al0];exact hi1),amH]
     exact_mod_cast hhs
    have HZ:=hdd (acI ys (k+n/64) (ys[k+n/64] ||| (xs[k]*2^(n%64))%B64) (xs[k]/2^(64-n%64)) hZ.out);clear ex ez hv64 hst e1 e2 hhs hb1' hb2' hO';go_wp2
    go_roundw
    case rel=>exact⟨k+1,_,by omega,by go_num,HO,hdd (by rw[al0,al0];exact hL.out),HB,HV,HS,hdd (fun j h1 h2=>HZ.out j (by omega) h2)⟩
    case measure=>simp[intOf];omega
  . have:k=xs.length:=by omega
    subst this;go_wp2_with fail
    refine(aH (hO.out.natP (p:=fun b=>w.heap.size<=b) hL.out nlr (by omega) nlr)).mono ?_;rintro e w4⟨rfl,v,ys',rfl,hv4,ht4,hval,-⟩;go_wp2;go_ret;refine RetN.of hB.out hv4 ht4 ?_;rw[hval,hV.out,amA,Nat.mul_assoc,dW,<-amS,<-amC,Nat.mod_add_div]
theorem nG(hx:NatP p w va xs)(hn:xs.length+n/64<1099511627776):
 Calls Tryz.prog 170 #[va,.int .i64 n] w (RetN w.heap.size w (val xs*2^n)):=by
 rcases al6 xs.length with h|h
 . have hn:=al3 h
   subst hn;obtain⟨A,c,rfl,h2,h3,-,h5⟩:=hx;clear h h2 h3 h5;go_enter Tryz.func170,Tryz.ntmps170
   go_wp2;go_ret;exact RetN.of (al8 _ _) (NatP.nil w) Tr.nil (by simp[val])
 . exact aeB hx hn h
def lx(xs:List Nat)(i:Nat):Nat:=xs.getD i 0
theorem vU(xs:List Nat)(i:Nat):lim xs i=(lx xs i:Int):=rfl
theorem gH(h:OkL xs)(i:Nat):lx xs i<B64:=by
 have:=fD h i;rw[vU]at this;unfold B64;omega
theorem abG(h:xs.length<=i):lx xs i=0:=by unfold lx;rw[al4,amI h];rfl
theorem cZ(h:i<xs.length):lx xs i=xs[i]:=by unfold lx;rw[al4,amD h];rfl
theorem right_step(ys xs:List Nat)(k s r:Nat)(hk:k<ys.length)(hks:k+s<xs.length)(hx:OkL xs)(hr:r<=64)
 (h:val (ys.take k)*2^r+lx xs s%2^r=val ((xs.drop s).take k)+(lx xs (k+s)%2^r)*B64^k):
 val ((ys.set k (pR (lx xs (k+s)) (lx xs (k+s+1)) r)).take (k+1))*2^r+lx xs s%2^r=val ((xs.drop s).take (k+1))+(lx xs (k+1+s)%2^r)*B64^(k+1):=by
 rw[bO _ k (by rw[al0];exact hk),bO (xs.drop s) k (by rw[amP];omega),amH,List.take_set_of_le (by omega:k<=k),List.getElem_drop];have e:s+k=k+s:=amX _ _;have e2:k+1+s=k+s+1:=by omega
 have hk2:=ad2 (lx xs (k+s)) (lx xs (k+s+1)) r (gH hx _) hr;rw[e2,amJ];have e3:xs[s+k]=lx xs (k+s):=by rw[cZ hks];congr 1
 rw[e3];exact acG _ _ _ _ _ _ _ _ 0 _ _ h hk2
theorem acJ(ys xs:List Nat)(s r:Nat)(hl:ys.length=xs.length-s)(hs:s<xs.length)(hx:OkL xs)
 (h:val (ys.take (xs.length-s))*2^r+lx xs s%2^r=val ((xs.drop s).take (xs.length-s))+(lx xs (xs.length-s+s)%2^r)*B64^(xs.length-s)):
 val ys=val xs/(B64^s*2^r):=by
 have e0:xs.length-s+s=xs.length:=by omega
 rw[e0,abG nlr,Nat.zero_mod,Nat.zero_mul,amO,amG (by omega),amG (by rw[amP];omega)]at h;have hm:=amN (lx xs s) (amK r);have h1:val (xs.drop s)/2^r=val ys:=by
  rw[<-h,Nat.mul_comm,amT (amK r),amE hm,amO]
 have h2:val xs/B64^s=val (xs.drop s):=by
  rw[aX xs s (by omega),amX,amT (Nat.pow_pos bE)];have:=bF (xs.take s) (hx.take s);rw[amQ,Nat.min_eq_left (by omega)]at this;rw[amE this,amO]
 rw[<-Nat.div_div_eq_div_mul,h2,h1]
theorem uL(n:Nat):B64^(n/64)*2^(n%64)=2^n:=by
 rw[dW,<-amS,<-amC,amU]
theorem aaD(hx:NatP p w va xs)(hn:n/64<xs.length):
 Calls Tryz.prog 169 #[va,.int .i64 n] w (RetN w.heap.size w (val xs/2^n)):=by
 have hok:=hdd hx.ok;obtain⟨A,c,rfl,h2,h3,-,h5⟩:=hx;obtain⟨h3,h3b⟩:=h3;obtain⟨b,off,rfl,-,hblt,hcell⟩:=h5 (by omega);have HC:=hdd hcell;clear hcell h5;go_enter Tryz.func169,Tryz.ntmps169
 go_wp2_with (at_make;refine bU _ rfl (.tmp 21) (.tmp 21) rfl .i64 .i64 _ (xs.length-n/64) rfl rfl (by omega) (by omega) w.heap.size w (al8 _ _) nlr ?_;intro w1 hO1 hb1 hbb1 hs1)
 go_loopw [25] (fun i wr=>∃(k:Nat) (ys:List Nat),k<=xs.length-n/64/\i=.int .i64 k/\Hid (OwnN wr w.heap.size ys)/\Hid (ys.length=xs.length-n/64)/\Hid (Below w.heap.size w wr)/\
  Hid (val (ys.take k)*2^(n%64)+lx xs (n/64)%2^(n%64)=val ((xs.drop (n/64)).take k)+(lx xs (k+n/64)%2^(n%64))*B64^k)) (fun i _=>xs.length-n/64-(intOf i).toNat)
 case atStart=>exact⟨0,_,al9 _,rfl,hO1,hdd (by simp),hdd hb1,hdd (by simp[val])⟩
 case round=>
  obtain⟨k,ys,hk,rfl,hO,hL,hB,hV⟩:=hrel;by_cases hlt:k<xs.length-n/64
  . have hcx:wr.cell? ⟨b,off+(k+n/64),none⟩=some (.int .u64 (lim xs (k+n/64))):=(hB.out.cell (p:=⟨b,off+(k+n/64),none⟩) hblt).trans (HC.out _ (by omega))
    have hL':=hL.out;have hcz:wr.cell? ⟨w.heap.size,k,none⟩=some (.int .u64 (lim ys k)):=hO.out.cell (by omega);have hfz:=fun i=>hO.out.frozen i;have bx:=fD hok.out (k+n/64);have hst:=right_step ys xs k (n/64) (n%64) (by omega) (by omega) hok.out (by omega) hV.out;have e1:lim xs (k+n/64)/2^(n%64)=((lx xs (k+n/64)/2^(n%64):Nat):Int):=by rw[qL bx.1,vU];simp
    have hq:lx xs (k+n/64)/2^(n%64)<B64:=amM (amR _ _) (gH hok.out _);by_cases hlt2:k+n/64+1<xs.length
    . have hcx2:wr.cell? ⟨b,off+(k+n/64+1),none⟩=some (.int .u64 (lim xs (k+n/64+1))):=(hB.out.cell (p:=⟨b,off+(k+n/64+1),none⟩) hblt).trans (HC.out _ hlt2)
      have bx2:=fD hok.out (k+n/64+1);have e2:Go.bits BinOp.or IntKind.u64 (lim xs (k+n/64)/2^(n%64)) (IntKind.u64.wrap (lim xs (k+n/64+1)*2^(64-n%64)))=((pR (lx xs (k+n/64)) (lx xs (k+n/64+1)) (n%64):Nat):Int):=by
       rw[e1,aeA ⟨al1 _,dH hq⟩ bx2.1];rfl
      have hO':=(hO.out.set_ k (x:=((lx xs (k+n/64)/2^(n%64):Nat):Int)) (al1 _) (dH hq)).set_ k (x:=((pR (lx xs (k+n/64)) (lx xs (k+n/64+1)) (n%64):Nat):Int)) (al1 _) (dH (ad3 _ _ _ (gH hok.out _)));rw[al2,al2,<-e1,<-e2,List.set_set]at hO';have HO:=hdd hO';have HB:=hdd ((hB.out.setCell (p:=⟨w.heap.size,k,none⟩) nlr (.int .u64 (lim xs (k+n/64)/2^(n%64)))).setCell (p:=⟨w.heap.size,k,none⟩) nlr (.int .u64 (Go.bits BinOp.or IntKind.u64 (lim xs (k+n/64)/2^(n%64)) (IntKind.u64.wrap (lim xs (k+n/64+1)*2^(64-n%64))))));have HV:=hdd hst;clear hL' hst e1 e2 hq hO';go_wp2
      go_region
      all_goals go_wp2
      go_roundw
      case rel=>exact⟨k+1,_,by omega,by go_num,HO,hdd (by rw[al0];exact hL.out),hdd HB.out.drew,HV⟩
      case measure=>simp[intOf];omega
    . have e3:pR (lx xs (k+n/64)) (lx xs (k+n/64+1)) (n%64)=lx xs (k+n/64)/2^(n%64):=by
       rw[abG (i:=k+n/64+1) (by omega)];unfold pR;simp
      rw[e3]at hst;have hO':=hO.out.set_ k (x:=((lx xs (k+n/64)/2^(n%64):Nat):Int)) (al1 _) (dH hq);rw[al2,<-e1]at hO';have HO:=hdd hO';have HB:=hdd (hB.out.setCell (p:=⟨w.heap.size,k,none⟩) nlr (.int .u64 (lim xs (k+n/64)/2^(n%64))));have HV:=hdd hst;clear hL' hst e1 e3 hq hO';go_wp2
      go_roundw
      case rel=>exact⟨k+1,_,by omega,by go_num,HO,hdd (by rw[al0];exact hL.out),HB,HV⟩
      case measure=>simp[intOf];omega
  . obtain rfl:k=xs.length-n/64:=by omega
    go_wp2_with fail
    refine(aH (hO.out.natP (p:=fun b=>w.heap.size<=b) hL.out nlr (by omega) nlr)).mono ?_;rintro e w4⟨rfl,v,ys',rfl,hv4,ht4,hval,-⟩;go_wp2;go_ret;refine RetN.of hB.out hv4 ht4 ?_;rw[hval,acJ ys xs _ _ hL.out hn hok.out hV.out,uL]
theorem lT(hx:NatP p w va xs)(hn:n<=9223372036854775807):
 Calls Tryz.prog 169 #[va,.int .i64 n] w (RetN w.heap.size w (val xs/2^n)):=by
 rcases amL (n/64) xs.length with h|h
 . exact aaD hx h
 . have hv:val xs/2^n=0:=by
    have h1:=bF xs hx.ok;have h2:B64^xs.length<=B64^(n/64):=Nat.pow_le_pow_right bE h;have h3:B64^(n/64)*1<=B64^(n/64)*2^(n%64):=Nat.mul_le_mul_left _ (amK _);rw[uL]at h3;exact amE (by omega)
   rw[hv];clear hv;obtain⟨A,c,rfl,h2,h3,-,h5⟩:=hx;obtain⟨h3,h3b⟩:=h3;clear h5;go_enter Tryz.func169,Tryz.ntmps169
   go_wp2;go_ret;exact RetN.of (al8 _ _) (NatP.nil w) Tr.nil rfl
theorem aeC(zs xs ys:List Nat)(k:Nat)(d:Int)(b b':Int)(hk:k<zs.length)(hky:k<ys.length)(h0:0<=b)(h0':0<=b')(hd0:0<=d)
 (hs:d+lim ys k+b=lim zs k+18446744073709551616*b') (h:val zs+val (ys.take k)=val xs+b.toNat*B64^k):
 val (zs.set k d.toNat)+val (ys.take (k+1))=val xs+b'.toNat*B64^(k+1):=by
 have h1:=fA zs k d.toNat hk;rw[bO ys k hky,amJ];rw[cB hk,cB hky]at hs;have e:d.toNat+ys[k]+b.toNat=zs[k]+B64*b'.toNat:=by unfold B64;omega
 generalize B64^k=P at*;generalize val (zs.set k d.toNat)=a1 at*;generalize val zs=a2 at*;generalize val xs=a3 at*;generalize val (ys.take k)=a4 at*;generalize ys[k]=a5 at*;generalize zs[k]=a6 at*;generalize d.toNat=a7 at*;generalize b.toNat=a8 at*;generalize b'.toNat=a9 at*;generalize B64=B at*;clear hs h0 h0' hd0 hk hky;have e2:(a7+a5+a8)*P=(a6+B*a9)*P:=by rw[e]
 grind
theorem acK(zs xs ys:List Nat)(k:Nat)(hk:k<zs.length)(hz:OkL zs)(h:val zs+val ys=val xs+(1:Int).toNat*B64^k):
 val (zs.set k (subD (lim zs k) 0 1).toNat)+val ys=val xs+(subB (lim zs k) 0 1).toNat*B64^(k+1):=by
 have h1:=fA zs k (subD (lim zs k) 0 1).toNat hk;have hl:=fD hz k;have hs:=qK (x:=lim zs k) (y:=0) (b:=1) hl (by omega) (by omega);have hd:=nD (lim zs k) 0 1;have hb:=nE (lim zs k) 0 1;rw[amJ];rw[cB hk]at*;have e:(subD (zs[k]:Int) 0 1).toNat+1=zs[k]+B64*(subB (zs[k]:Int) 0 1).toNat:=by unfold B64;omega
 simp only[amW,amZ]at h;generalize (subD (zs[k]:Int) 0 1).toNat=d at*;generalize (subB (zs[k]:Int) 0 1).toNat=b' at*;generalize B64^k=P at*;generalize val (zs.set k d)=a1 at*;generalize val zs=a2 at*;generalize val xs=a3 at*;generalize val ys=a4 at*;generalize zs[k]=a6 at*;generalize B64=B at*;clear hs hd hb hl hk hz;have e2:(d+1)*P=(a6+B*b')*P:=by rw[e]
 grind
theorem nH(hx:NatP p w va xs)(hy:NatP q w vb ys)(hl:ys.length<=xs.length)(hle:val ys<=val xs):
 Calls Tryz.prog 184 #[va,vb] w (RetN w.heap.size w (val xs-val ys)):=by
 have hx':=hdd hx;have hoy:=hy.ok;have hle':=hdd hle;clear hle;obtain⟨A,c,rfl,h2,h3,-,-⟩:=hx;obtain⟨h3,h3b⟩:=h3;obtain⟨A',c',rfl,h2',h3',-,h5'⟩:=hy;obtain⟨h3',h3b'⟩:=h3';have H5:=hdd h5';clear h5';go_enter Tryz.func184,Tryz.ntmps184
 go_wp2_with (first
  |(at_make;refine bU _ rfl (.tmp 11) (.tmp 11) rfl .i64 .i64 _ xs.length rfl rfl (by omega) (by omega) w.heap.size w (al8 _ _) nlr ?_;intro w1 hO1 hb1 hbb1 hs1)
  |(with_reducible refine fP (w:=w1) rfl (.tmp 13) (.tmp 14) rfl w.heap.size _ _ _ _ xs rfl rfl hO1.out (by simp) (hx'.out.below hb1) (by simp) w.heap.size w hb1 nlr ?_;intro w2 hO2 hb2)
  |fail)
 have hO2':Hid (OwnN w2 w.heap.size xs):=by have:=hO2.out;rw[iU,Nat.sub_self]at this;simpa using hdd this
 clear hO2 hO1 hb1 hbb1 hs1
 go_loopw [6,18] (fun b i wr=>∃(k:Nat) (bo:Int) (zs:List Nat),k<=ys.length/\i=.int .i64 k/\b=.int .u64 bo/\0<=bo/\bo<=1/\Hid (OwnN wr w.heap.size zs)/\Hid (zs.length=xs.length)/\Hid (Below w.heap.size w wr)/\
  Hid (val zs+val (ys.take k)=val xs+bo.toNat*B64^k)) (fun _ i _=>ys.length-(intOf i).toNat)
 case atStart=>exact⟨0,0,xs,al9 _,rfl,rfl,by omega,by omega,hO2',hdd rfl,hdd hb2,hdd (by simp[val])⟩
 case round=>
  obtain⟨k,bo,zs,hk,rfl,rfl,hb0,hb1,hO,hL,hB,hV⟩:=hrel;by_cases hlt:k<ys.length
  . obtain⟨b,off,rfl,-,hblt,hcell⟩:=H5.out (by omega)
    have hcx:wr.cell? ⟨b,off+k,none⟩=some (.int .u64 (lim ys k)):=(hB.out.cell (p:=⟨b,off+k,none⟩) hblt).trans (hcell k hlt);clear hcell;have hcz:wr.cell? ⟨w.heap.size,k,none⟩=some (.int .u64 (lim zs k)):=hO.out.cell (by rw[hL.out];omega);have hfz:wr.frozen? ⟨w.heap.size,k,none⟩=false:=hO.out.frozen _;have bx:=fD hoy k;have bz:=fD hO.out.2 k;have hsub:=fun w=>lQ bz bx ⟨hb0,hb1⟩ w;have bs:=nD (lim zs k) (lim ys k) bo;have bc:=nE (lim zs k) (lim ys k) bo;have HV:=hdd (aeC zs xs ys k _ bo _ (by rw[hL.out];omega) hlt hb0 bc.1 bs.1 (qK bz bx ⟨hb0,hb1⟩) hV.out);have HO:=hdd (hO.out.set_ k bs.1 bs.2);have HB:=hdd (hB.out.setCell (p:=⟨w.heap.size,k,none⟩) nlr (.int .u64 (subD (lim zs k) (lim ys k) bo)));go_wp2
    go_roundw
    case rel=>exact⟨k+1,_,_,by omega,by go_num,rfl,bc.1,bc.2,HO,hdd (by rw[al0];exact hL.out),HB,HV⟩
    case measure=>simp[intOf];omega
  . obtain rfl:k=ys.length:=by omega
    clear H5 hoy hb2 hO2';go_wp2_with fail
    go_loopw [6,9] (fun b i wr=>∃(j:Nat) (bo:Int) (zs:List Nat),j<=xs.length/\i=.int .i64 j/\b=.int .u64 bo/\0<=bo/\bo<=1/\Hid (OwnN wr w.heap.size zs)/\Hid (zs.length=xs.length)/\Hid (Below w.heap.size w wr)/\
     Hid (val zs+val ys=val xs+bo.toNat*B64^j)) (fun _ i _=>xs.length-(intOf i).toNat)
    case atStart=>exact⟨ys.length,bo,zs,hl,rfl,rfl,hb0,hb1,hO,hL,hB,hdd (by have:=hV.out;rwa[amA]at this)⟩
    case round=>
     clear hO hL hB hV hb0 hb1;obtain⟨j,bo,zs,hj,rfl,rfl,hb0,hb1,hO,hL,hB,hV⟩:=hrel;have hcy:bo=0\/bo=1:=by omega
     rcases hcy with rfl|rfl
     . go_wp2_with fail
       refine(aH (hO.out.natP (p:=fun b=>w.heap.size<=b) hL.out nlr (by omega) nlr)).mono ?_;rintro e w4⟨rfl,v,ys',rfl,hv4,ht4,hval,-⟩;go_wp2;go_ret;refine RetN.of hB.out hv4 ht4 ?_;have:=hV.out;simp at this;omega
     . have hlt:j<xs.length:=by
        rcases amL j xs.length with h|h
        . exact h
        . exfalso
          have e1:j=xs.length:=by omega
          have e2:=hV.out;have e3:=bF zs hO.out.2;have e4:=hle'.out;rw[hL.out]at e3;rw[e1]at e2;simp only[amW,amZ]at e2;omega
       have hcz:wr.cell? ⟨w.heap.size,j,none⟩=some (.int .u64 (lim zs j)):=hO.out.cell (by rw[hL.out];exact hlt);have hfz:wr.frozen? ⟨w.heap.size,j,none⟩=false:=hO.out.frozen _;have bz:=fD hO.out.2 j;have hsub:=fun w=>lQ (y:=0) bz (by omega) ⟨hb0,hb1⟩ w;have bs:=nD (lim zs j) 0 1;have bc:=nE (lim zs j) 0 1;have HV:=hdd (acK zs xs ys j (by rw[hL.out];exact hlt) hO.out.2 hV.out);have HO:=hdd (hO.out.set_ j bs.1 bs.2);have HB:=hdd (hB.out.setCell (p:=⟨w.heap.size,j,none⟩) nlr (.int .u64 (subD (lim zs j) 0 1)));go_wp2
       go_roundw
       case rel=>exact⟨j+1,_,_,by omega,by go_num,rfl,bc.1,bc.2,HO,hdd (by rw[al0];exact hL.out),HB,HV⟩
       case measure=>simp[intOf];omega
theorem ahA(xs:List Nat)(k:Nat)(hk:k<xs.length)(hx:OkL xs)(hz:∀j,j<k->lim xs j=0)(hv:lx xs k≠0):ctz (val xs)=64*k+Lib.ctz 64 (lx xs k):=by
 have hlt:=gH hx k;obtain⟨m,hm,hc⟩:=Lib.ctzFrom_spec 64 (lx xs k) (by omega) (by rw[<-dW];exact hlt);have e0:Lib.ctz 64 (lx xs k)=Lib.ctzFrom 64 (lx xs k):=by unfold Lib.ctz;rw[if_neg hv]
 rw[e0];generalize Lib.ctzFrom 64 (lx xs k)=c at*;have ht:val (xs.take k)=0:=by
  have:∀ys:List Nat,(∀y∈ys,y=0)->val ys=0:=by
   intro ys
   induction ys with
   |nil=>intro _;rfl
   |cons y ys ih=>intro h;simp only[val];rw[h y (by simp),ih (fun z hz=>h z (by simp[hz]))];simp
  apply this;intro y hy;obtain⟨j,hj,rfl⟩:=List.getElem_of_mem hy;rw[amQ]at hj;have:=hz j (by omega);rw[cB (by omega)]at this;rw[List.getElem_take];omega
 have hd:xs.drop k=lx xs k::xs.drop (k+1):=by rw[cZ hk];exact al5 hk
 have e:val xs=2^(64*k+c)*(2*(m+2^(63-c)*val (xs.drop (k+1)))+1):=by
  rw[aX xs k (by omega),ht,hd];simp only[val];have e2:B64=2^c*(2*2^(63-c)):=by
   rw[dW,<-Nat.pow_succ',<-amC];congr 1;omega
  have e3:B64^k=2^(64*k):=by rw[dW,<-amS]
  rw[e3,amC]
  conv=>lhs;rw[hm]
  rw[e2];generalize 2^(64*k)=P;generalize 2^c=C;generalize 2^(63-c)=D;generalize val (xs.drop (k+1))=R;grind
 rw[e,vT]
theorem nI(hx:NatP p w va xs)(hT:Tab w):
 Calls Tryz.prog 74 #[va] w (RetI w (ctz (val xs))):=by
 have hok:=hdd hx.ok;have HT:=hdd hT;clear hT;obtain⟨A,c,rfl,h2,h3,-,h5⟩:=hx;obtain⟨h3,h3b⟩:=h3;have H5:=hdd h5;clear h5;go_enter Tryz.func74,Tryz.ntmps74
 go_wp2_with fail
 go_loop [7] (fun i=>∃k:Nat,k<=xs.length/\i=.int .i64 k/\Hid (∀j,j<k->lim xs j=0)) (fun i=>xs.length-(intOf i).toNat)
 case atStart=>exact⟨0,al9 _,rfl,hdd (fun j hj=>absurd hj (by omega))⟩
 case round=>
  obtain⟨k,hk,rfl,hZ⟩:=hrel;by_cases hlt:k<xs.length
  . obtain⟨b,off,rfl,-,hblt,hcell⟩:=H5.out (by omega)
    have hcx:=hcell k hlt;rw[vU]at hcx;clear hcell;have bx:=gH hok.out k;by_cases h0:lx xs k=0
    . have hb:(((lx xs k:Nat):Int) != 0)=false:=by rw[h0];rfl
      rw[h0]at hcx;have hZ':Hid (∀j,j<k+1->lim xs j=0):=hdd fun j hj=>by
       rcases amL j k with h|h
       . exact hZ.out j h
       . have:j=k:=by omega
         subst this;rw[vU,h0];rfl
      clear hb h0 bx;go_wp2
      go_round
      case rel=>exact⟨k+1,by omega,by go_num,hZ'⟩
      case measure=>simp[intOf];omega
    . have hb:(((lx xs k:Nat):Int) != 0)=true:=by rw[bne_iff_ne];omega
      have hv:=hdd (ahA xs k hlt hok.out hZ.out h0);obtain⟨u,hu⟩:∃u:Nat,u=lx xs k:=⟨_,rfl⟩;rw[<-hu]at hcx hb bx h0 hv;clear hu;have hc64:Lib.ctz 64 u<=64:=by
       unfold Lib.ctz;rw[if_neg h0];obtain⟨m,hm,hc⟩:=Lib.ctzFrom_spec 64 u (by omega) (by rw[<-dW];exact bx);omega
      go_wp2_with (go_at_call 123;refine(ad9 u bx h0 _ HT.out).mono ?_;rintro e w'⟨rfl,rfl⟩)
      go_ret;refine RetI.of0 ?_;rw[hv.out];omega
  . go_wp2
    go_ret;refine RetI.of0 ?_;have e:val xs=0:=by
     have:=kR xs 0 (al9 _) (fun j _ hj=>hZ.out j (by omega));rw[<-this];rfl
    rw[e];rfl
theorem rM{ops:Array Oper}{rest:List Oper}{o:Oper}{a:Act}{Q:Exit->Act->World->Prop}(hgd:o.guard=none)(s x:Operand)
 (ho:o.op=.call {callee:=.builtin .append,args:=#[s,x],argTypes:=#[73,73]}) (v:Value) (xs:List Nat)
 (hs:a.eval s=.slice none 0 0) (hv:a.eval x=v) (hx:NatP p w v xs)
 (h:∀v' w',NatP (fun b=>w.heap.size<=b) w' v' xs->Below w.heap.size w w'->wpList Tryz.prog ops Q rest (a.put o.dst v') w'):wpList Tryz.prog ops Q (o::rest) a w:=by
 obtain⟨i0,hi,hz0,hz1,hz2⟩:=info_parts nC;have hlen:=hx.len;have hok:=hx.ok;obtain⟨A,c,rfl,h2,h3,-,h5⟩:=hx;refine wpList_plain hgd fun K hK=> ?_;have key:∃v' w',(Builtin.append_ #[73,73] o.type #[.slice none 0 0,.slice A xs.length c]).run Tryz.prog w=.ok v' w'/\NatP (fun b=>w.heap.size<=b) w' v' xs/\Below w.heap.size w w':=by
  rcases A with _|ad
  . have hn:xs=[]:=by
     rcases al6 xs.length with h0|h0
     . exact al3 h0
     . obtain⟨b,off,e,_⟩:=h5 h0;cases e
    subst hn;refine⟨.slice none 0 0,w,?_,NatP.nil w,al8 _ _⟩;simp[Builtin.append_,run_underlying qJ,sizeOf,typeInfo,hi,Builtin.lenOf,Builtin.firstCells]
  . have hnews:∀j u,(xs.map fun(x:Nat)=>Value.int .u64 (x:Int))[j]? =some u->w.cell? (ad.add j)=some u:=by
     intro j u hu;have hj:j<xs.length:=by
      rcases amL j xs.length with h|h
      . exact h
      . rw[amI (by simpa using h)]at hu;cases hu
     obtain⟨b,off,e,_,_,hc⟩:=h5 (by omega);obtain rfl:ad=⟨b,off,none⟩:=Option.some.inj e;rw[Addr.add_lit,hc j hj,cB hj];rw[List.getElem?_map,amD hj]at hu;simpa using hu
    obtain⟨v',w',hrun,hown,hg,_,_⟩:=run_append_own_at (P:=Tryz.prog) w w.heap.size _ o.type 149 i0 (.int .u64 0) 1 8 qJ hi hz0 hz1 hz2 rfl (by omega) (.slice none 0 0) 0 []
     (World.ownsRow_nil w _ _ _) ad xs.length c (xs.map fun(x:Nat)=>Value.int .u64 (x:Int)) (by simp) hnews (by intro u hu;obtain⟨x,_,rfl⟩:=List.mem_map.1 hu;rfl) (by simp only[maxLen];omega) (by omega) nlr
    refine⟨v',w',hrun,?_,(al8 _ _).grown hg nlr (by simp[Value.ownBlock])⟩;simp only[Nat.zero_add,List.nil_append]at hown;rcases hown.2 with ⟨rfl,h0⟩|⟨g,cap,cur,rfl,hbg,hh,hnc,hcm,hcs,htake⟩
    . have hn:=al3 h0
      subst hn;exact NatP.nil w'
    . refine⟨_,cap,rfl,hnc,⟨hlen,by simp only[maxLen]at hcm;omega⟩,hok,fun hpos=>⟨g,0,rfl,hbg,(Array.getElem?_eq_some_iff.1 hh).1,fun k hk=> ?_⟩⟩
      have:=hown.cells (g:=g) rfl k (.int .u64 (lim xs k)) (by rw[cB hk];simp[hk]);rwa[Addr.add_lit]at this
 obtain⟨v',w',hrun,hN,hB⟩:=key;unfold Oper.wp execOp;simp only[ho,resolve,invoke,builtin,Sem.run_bind,Sem.run_pure,Result.andThen_ok,List.map_toArray,List.map_cons,List.map_nil,hs,hv,hrun];exact hK _ _ (h v' w' hN hB)
theorem iV(hx:NatP p w va xs):
 Calls Tryz.prog 92 #[va] w (RetN w.heap.size w (val xs)):=by
 go_enter Tryz.func92,Tryz.ntmps92
 go_wp2_with fail
 refine(aH hx).mono ?_;rintro e w1⟨rfl,v1,xs1,rfl,hv1,ht1,hval1,-⟩;have HV:=hdd hval1;clear hval1 hx;have HN:=hdd hv1;clear hv1;go_wp2_with (at_builtin;refine rM rfl _ _ rfl v1 xs1 rfl rfl HN.out ?_;intro v2 w2 hn2 hb2)
 go_ret;exact RetN.of hb2 hn2 ht1 HV.out
def mulH(x y:Nat):Nat:=x*y/B64
def mulL(x y:Nat):Nat:=x*y%B64
theorem fM(x y:Nat)(hx:x<B64)(hy:y<B64)(w:World):
 Calls Tryz.prog 192 #[.int .u64 x,.int .u64 y] w fun e w'=>e=.returned (.tuple #[.int .u64 (mulH x y:Nat),.int .u64 (mulL x y:Nat)])/\w'=w:=
 Tryz.bits_Mul64 x y hx hy w
theorem vV(x y:Nat):B64*mulH x y+mulL x y=x*y:=amU _ _
theorem nJ(x y:Nat):mulL x y<B64:=amN _ bE
theorem vW(x y z cy:Nat)(hx:x<B64)(hy:y<B64)(hz:z<B64)(hc:cy<B64):
 let s1:=addS (mulL x y:Nat) (z:Nat) 0;let c1:=addC (mulL x y:Nat) (z:Nat) 0
 let s2:=addS s1 (cy:Nat) 0;let c2:=addC s1 (cy:Nat) 0
 s2+18446744073709551616*((mulH x y:Nat)+c1+c2)=(x*y+z+cy:Nat)/\(mulH x y:Nat)+c1<=18446744073709551615/\(mulH x y:Nat)+c1+c2<=18446744073709551615/\0<=c1/\0<=c2/\0<=s2/\s2<18446744073709551616/\0<=s1/\s1<18446744073709551616:=by
 intro s1 c1 s2 c2;have h1:=vV x y;have h2:=nJ x y;have h3:x*y<=(B64-1)*(B64-1):=Nat.mul_le_mul (by omega) (by omega);have h4:(B64-1)*(B64-1)+2*(B64-1)+1=B64*B64:=by decide
 have hB:B64=18446744073709551616:=rfl;have e1:=gT (mulL x y:Nat) (z:Nat) 0;have e2:=gT s1 (cy:Nat) 0;have b1:=fQ (mulL x y:Nat) (z:Nat) 0;have b2:=fQ s1 (cy:Nat) 0;have c1b:=fT (x:=((mulL x y:Nat):Int)) (y:=((z:Nat):Int)) (c:=0) (by omega) (by omega) (by omega);have c2b:=fT (x:=s1) (y:=((cy:Nat):Int)) (c:=0) b1 (by omega) (by omega);have hs1:s1=addS (mulL x y:Nat) (z:Nat) 0:=rfl;have hc1:c1=addC (mulL x y:Nat) (z:Nat) 0:=rfl;have hs2:s2=addS s1 (cy:Nat) 0:=rfl;have hc2:c2=addC s1 (cy:Nat) 0:=rfl;rw[<-hs1]at e1 b1;rw[<-hc1]at e1 c1b;rw[<-hs2]at e2 b2;rw[<-hc2]at e2 c2b
 clear_value s1 c1 s2 c2
 rw[hB]at h1 h4;generalize x*y=xy at*;have h3':xy<=18446744073709551615*18446744073709551615:=h3
 push_cast
 refine⟨by omega,by omega,by omega,c1b.1,c2b.1,b2.1,b2.2,b1.1,b1.2⟩
theorem aaE(z' z0 z P s B hi T xv t a:Nat)(h1:z'+z0*P=z+s*P)(h2:s+B*hi=T+z0+a)(h:z+a*P=t):z'+hi*(P*B)=t+T*P:=by
 have:(s+B*hi)*P=(T+z0+a)*P:=by rw[h2]
 grind
theorem xS(zs xs ys:List Nat)(i j cy:Nat)(s:Int)(hi:Int)(hij:i+j<zs.length)(hj:j<ys.length)(h0:0<=s)(h0':0<=hi)
 (hs:s+18446744073709551616*hi=(lx xs i*lx ys j+lx zs (i+j)+cy:Nat))
 (h:val zs+cy*B64^(i+j)=val (xs.take i)*val ys+lx xs i*val (ys.take j)*B64^i):
 val (zs.set (i+j) s.toNat)+hi.toNat*B64^(i+(j+1))=val (xs.take i)*val ys+lx xs i*val (ys.take (j+1))*B64^i:=by
 have h1:=fA zs (i+j) s.toNat hij;rw[<-cZ hij]at h1;rw[bO ys j hj,<-cZ hj];have e:s.toNat+B64*hi.toNat=lx xs i*lx ys j+lx zs (i+j)+cy:=by unfold B64;omega
 have e2:B64^(i+(j+1))=B64^(i+j)*B64:=by rw[<-Nat.add_assoc,amJ]
 rw[e2,aaE _ _ _ _ _ _ _ _ 0 _ _ h1 e h,amC];grind
theorem uM(zs:List Nat)(i m x:Nat)(him:i<m)(hz:∀j,m<=j->j<zs.length->lx zs j=0):∀j,m<=j->j<(zs.set i x).length->lx (zs.set i x) j=0:=by
 intro j h1 h2;rw[al0]at h2;have:=hz j h1 h2;rw[cZ (by rw[al0];exact h2),amB (by omega)];rwa[cZ h2]at this
theorem aaF(hx:NatP p w va xs)(hy:NatP q w vb ys)(hL:xs.length+ys.length<=1099511627776):
 Calls Tryz.prog 280 #[va,vb] w (RetN w.heap.size w (val xs*val ys)):=by
 have hox:=hdd hx.ok;have hoy:=hdd hy.ok;obtain⟨A,c,rfl,h2,h3,-,h5⟩:=hx;obtain⟨h3,h3b⟩:=h3;obtain⟨A',c',rfl,h2',h3',-,h5'⟩:=hy;obtain⟨h3',h3b'⟩:=h3';have H5:=hdd h5;clear h5;have H5':=hdd h5';clear h5';go_enter Tryz.func280,Tryz.ntmps280
 go_wp2_with (first
  |(at_make;refine bU _ rfl (.tmp 18) (.tmp 18) rfl .i64 .i64 _ (xs.length+ys.length) rfl rfl (by omega) (by omega) w.heap.size w (al8 _ _) nlr ?_;intro w1 hO1 hb1 hbb1 hs1)
  |fail)
 go_loopw [22] (fun i wr=>∃(k:Nat) (zs:List Nat),k<=xs.length/\i=.int .i64 k/\Hid (OwnN wr w.heap.size zs)/\Hid (zs.length=xs.length+ys.length)/\Hid (Below w.heap.size w wr)/\
  Hid (val zs=val (xs.take k)*val ys)/\Hid (∀j,k+ys.length<=j->j<zs.length->lx zs j=0)) (fun i _=>xs.length-(intOf i).toNat)
 case atStart=>
  exact⟨0,_,al9 _,rfl,hO1,hdd (by simp),hdd hb1,hdd (by rw[aQ];simp[val]),hdd (fun j _ hj=>by rw[cZ hj];simp)⟩
 case round=>
  obtain⟨k,zs,hk,rfl,hO,hLz,hB,hV,hZ⟩:=hrel;by_cases hlt:k<xs.length
  . obtain⟨b,off,rfl,-,hblt,hcell⟩:=H5.out (by omega)
    have hcx:wr.cell? ⟨b,off+k,none⟩=some (.int .u64 (lx xs k:Nat)):=(hB.out.cell (p:=⟨b,off+k,none⟩) hblt).trans (hcell k hlt);clear hcell;obtain⟨wo,rfl⟩:∃wo:World,wo=wr:=⟨_,rfl⟩;go_wp2_with fail
    go_loopw [8,29] (fun cc i wr=>∃(j cy:Nat) (zs:List Nat),j<=ys.length/\i=.int .i64 j/\cc=.int .u64 (cy:Nat)/\Hid (cy<B64)/\Hid (OwnN wr w.heap.size zs)/\Hid (zs.length=xs.length+ys.length)/\Hid (Below w.heap.size w wr)/\
     Hid (val zs+cy*B64^(k+j)=val (xs.take k)*val ys+lx xs k*val (ys.take j)*B64^k)/\Hid (∀j,k+ys.length<=j->j<zs.length->lx zs j=0)) (fun _ i _=>ys.length-(intOf i).toNat)
    case atStart=>exact⟨0,0,zs,al9 _,rfl,rfl,hdd bE,hO,hLz,hB,hdd (by have:=hV.out;simp[val,this]),hZ⟩
    case round=>
     clear hO hLz hB hV hZ hcx;obtain⟨j,cy,zs,hj,rfl,rfl,hcy,hO,hLz,hB,hV,hZ⟩:=hrel;by_cases hjt:j<ys.length
     . obtain⟨b2,off2,rfl,-,hblt2,hcell2⟩:=H5'.out (by omega)
       have hcy2:wr.cell? ⟨b2,off2+j,none⟩=some (.int .u64 (lx ys j:Nat)):=(hB.out.cell (p:=⟨b2,off2+j,none⟩) hblt2).trans (hcell2 j hjt);clear hcell2;have hcz:wr.cell? ⟨w.heap.size,k+j,none⟩=some (.int .u64 (lx zs (k+j):Nat)):=hO.out.cell (by rw[hLz.out];omega);have hfz:wr.frozen? ⟨w.heap.size,k+j,none⟩=false:=hO.out.frozen _;have bx:=gH hox.out k;have by_:=gH hoy.out j;have bz:=gH hO.out.2 (k+j);have hd:=vW (lx xs k) (lx ys j) (lx zs (k+j)) cy bx by_ bz hcy.out;obtain⟨d1,d2,d3,d4,d5,d6,d7,d8,d9⟩:=hd;have HV:=hdd (xS zs xs ys k j cy _ _ (by rw[hLz.out];omega) hjt d6 (by omega) d1 hV.out);have HO:=hdd (hO.out.set_ (k+j) d6 d7);have HB:=hdd (hB.out.setCell (p:=⟨w.heap.size,k+j,none⟩) nlr (.int .u64 (addS (addS (mulL (lx xs k) (lx ys j):Nat) (lx zs (k+j):Nat) 0) (cy:Nat) 0)));have HZ:=hdd (uM zs (k+j) (k+ys.length) (addS (addS (mulL (lx xs k) (lx ys j):Nat) (lx zs (k+j):Nat) 0) (cy:Nat) 0).toNat (by omega) hZ.out);clear d1;have hadd1:=fun w=>eD (x:=((mulL (lx xs k) (lx ys j):Nat):Int)) (y:=((lx zs (k+j):Nat):Int)) (c:=0) (al1 _) (al1 _) (by omega) w
       have hadd2:=fun w=>eD (x:=addS (mulL (lx xs k) (lx ys j):Nat) (lx zs (k+j):Nat) 0) (y:=((cy:Nat):Int)) (c:=0) d8 (al1 _) (by omega) w;go_wp2_with (go_at_call 192;refine(fM (lx xs k) (lx ys j) bx by_ _).mono ?_;rintro e w'⟨rfl,rfl⟩)
       go_roundw
       case rel=>exact⟨j+1,_,_,by omega,by go_num,by rw[Int.toNat_of_nonneg (by omega)],hdd (by unfold B64;omega),HO,hdd (by rw[al0];exact hLz.out),HB,HV,HZ⟩
       case measure=>simp[intOf];omega
     . obtain rfl:j=ys.length:=by omega
       have hzl:=hLz.out;have hcz:wr.cell? ⟨w.heap.size,k+ys.length,none⟩=some (.int .u64 (lx zs (k+ys.length):Nat)):=hO.out.cell (by omega);have hfz:wr.frozen? ⟨w.heap.size,k+ys.length,none⟩=false:=hO.out.frozen _;have hcy':=dH hcy.out;have hz0:=hZ.out (k+ys.length) nlr (by omega);have h1:=fA zs (k+ys.length) cy (by omega);rw[<-cZ (by omega),hz0]at h1;have hVs:val (zs.set (k+ys.length) cy)=val (xs.take (k+1))*val ys:=by
        have:=hV.out;rw[amA]at this;rw[bO xs k hlt,<-cZ hlt];grind
       have HV:=hdd hVs;have hO':=hO.out.set_ (k+ys.length) (x:=((cy:Nat):Int)) (al1 _) hcy';rw[al2]at hO';have HO:=hdd hO';have HB:=hdd (hB.out.setCell (p:=⟨w.heap.size,k+ys.length,none⟩) nlr (.int .u64 (cy:Nat)));have HZ:Hid (∀j,k+1+ys.length<=j->j<(zs.set (k+ys.length) cy).length->lx (zs.set (k+ys.length) cy) j=0):=
        hdd (uM zs (k+ys.length) (k+1+ys.length) cy (by omega) (fun j h1 h2=>hZ.out j (by omega) h2))
       clear h1 hVs hO' hz0 hzl hcy';go_wp2
       go_roundw
       case rel=>exact⟨k+1,_,by omega,by go_num,HO,hdd (by rw[al0];exact hLz.out),HB,HV,HZ⟩
       case measure=>simp[intOf];omega
  . obtain rfl:k=xs.length:=by omega
    go_wp2_with fail
    refine(aH (hO.out.natP (p:=fun b=>w.heap.size<=b) hLz.out nlr (by omega) nlr)).mono ?_;rintro e w4⟨rfl,v,ys',rfl,hv4,ht4,hval,-⟩;go_wp2;go_ret;exact RetN.of hB.out hv4 ht4 (by rw[hval,hV.out,amA])
end Go.Proofs.YtkadpnljocflaaaGreatDoor
