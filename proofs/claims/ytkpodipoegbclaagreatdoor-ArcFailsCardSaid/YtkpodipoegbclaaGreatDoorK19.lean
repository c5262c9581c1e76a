/- A part of the proof: contracts of functions and plain laws (DyA, DyB, DyC, DyE, DyD, DyF, DyG, DyH). -/
import Derived.Test.YtkpodipoegbclaaGreatDoorK08
import Derived.Test.YtkpodipoegbclaaGreatDoorK11
set_option linter.unusedVariables false
set_option linter.unusedSimpArgs false
set_option maxHeartbeats 25600000
set_option maxRecDepth 100000
namespace Go.Proofs.YtkpodipoegbclaaGreatDoor
section
open Go.RowKit
variable{xs:List Nat}{g n:Nat}{p:Nat->Prop}{T:TypeId}{a b c va:Value}{w:World}
theorem ajF(a K m:Nat)(h:K<=m):a/2^K/2^(m-K)=a/2^m:=by
 rw[Nat.div_div_eq_div_mul,<-Nat.pow_add,Nat.add_sub_cancel' h]
theorem alJ(hx:NatP p w va xs):
 Calls Tryz.prog 141 #[va,.int .i64 16777216] w (fun e w'=>∃K:Nat,(K:Int)=16777216/\RetN w.heap.size w (val xs/2^K) e w'):=
 (adZ (n:=16777216) hx nlr).mono fun _ _ h=>⟨16777216,rfl,h⟩
theorem jF(hx:NatP p w va xs)(hn:n<=9223372036854775807):
 Calls Tryz.prog 92 #[va,.int .i64 n] w (RetN w.heap.size w (val xs/2^n)):=by
 have HX:=hdd hx.any;clear hx;go_enter Tryz.func92,Tryz.ntmps92
 go_wp2_with fail
 go_loopw [0,1] (fun sv i wr=>∃(m:Nat) (ys:List Nat),m<=n/\i=.int .i64 m/\Hid (NatP AnyB wr sv ys)/\Hid (Below w.heap.size w wr)/\Hid (val ys/2^m=val xs/2^n)) (fun _ i _=>(intOf i).toNat)
 case atStart=>exact⟨n,xs,Nat.le_refl _,rfl,HX,hdd (Below.refl _ _),hdd rfl⟩
 case round=>
  obtain⟨m,ys,hm,rfl,HY,HB,HV⟩:=hrel;rcases Nat.lt_or_ge 16777216 m with h|h
  . have hi:(16777216:Int)<(m:Int):=by omega
    go_wp2_with fail
    refine(alJ HY.out).mono ?_;rintro e w1⟨K,hK,hb,v1,zs,rfl,hz,tz,hvz⟩;have HZ:=hdd hz.any;have HB2:=hdd (HB.out.trans (hb.mono HB.out.size));have HV2:Hid (val zs/2^(m-K)=val xs/2^n):=hdd (by
     rw[hvz,<-HV.out];exact ajF _ _ _ (by omega))
    have hsub:(m:Int)-16777216=((m-K:Nat):Int):=by omega
    clear hb hz tz hvz;go_wp2
    go_roundw
    case rel=>exact⟨m-K,zs,by omega,by go_num,HZ,HB2,HV2⟩
    case measure=>simp[intOf];omega
  . have hi:¬(16777216:Int)<(m:Int):=by omega
    go_wp2_with fail
    refine(adZ HY.out h).mono ?_;rintro e w1⟨hb,v1,zs,rfl,hz,tz,hvz⟩;have HF:=hdd (RetN.of (n:=val xs/2^n) (HB.out.trans (hb.mono HB.out.size)) (hz.weak fun b h _=>Nat.le_trans HB.out.size h) tz (by rw[hvz,HV.out]));clear hb hz tz hvz;go_wp2;go_ret;exact HF.out
theorem alK(hx:NatP p w va xs)(hL:xs.length<1073741824):
 Calls Tryz.prog 140 #[va,.int .i64 16777216] w (fun e w'=>∃K:Nat,(K:Int)=16777216/\RetN w.heap.size w (val xs*2^K) e w'):=
 (adY (n:=16777216) hx nlr hL).mono fun _ _ h=>⟨16777216,rfl,h⟩
theorem ajG(a K m:Nat)(h:K<=m):a*2^K*2^(m-K)=a*2^m:=by
 rw[Nat.mul_assoc,<-Nat.pow_add,Nat.add_sub_cancel' h]
theorem ajH(xs zs:List Nat)(m n:Nat)(hx:OkL xs)(hz:OkL zs)(tz:Tr zs)(h:val zs*2^m=val xs*2^n):64*zs.length<=64*xs.length+n+63:=by
 have h1:=bC zs hz tz;have h2:bits (val zs)<=64*xs.length+n:=by
  rw[aD];have h3:val zs<=val zs*2^m:=Nat.le_mul_of_pos_right _ (Nat.two_pow_pos m);have h4:val xs<2^(64*xs.length):=by
   have:=bF xs hx;rwa[show B64=2^64 from rfl,<-Nat.pow_mul]at this
  have h5:val xs*2^n<2^(64*xs.length)*2^n:=Nat.mul_lt_mul_of_pos_right h4 (Nat.two_pow_pos n);rw[Nat.pow_add];omega
 omega
theorem gT(hx:NatP p w va xs)(hn:n<=134217728)(hL:xs.length<=1000000000):
 Calls Tryz.prog 143 #[va,.int .i64 n] w (RetN w.heap.size w (val xs*2^n)):=by
 have HX:=hdd hx.any;have HO:=hdd hx.ok;clear hx;have h0:¬(n:Int)<0:=by omega
 have h1:¬(134217728:Int)<(n:Int):=by omega
 go_enter Tryz.func143,Tryz.ntmps143
 go_wp2_with fail
 go_loopw [0,1] (fun sv i wr=>∃(m:Nat) (ys:List Nat),m<=n/\64*ys.length<=64*xs.length+n+63/\i=.int .i64 m/\Hid (NatP AnyB wr sv ys)/\Hid (Below w.heap.size w wr)/\Hid (val ys*2^m=val xs*2^n)) (fun _ i _=>(intOf i).toNat)
 case atStart=>exact⟨n,xs,Nat.le_refl _,by omega,rfl,HX,hdd (Below.refl _ _),hdd rfl⟩
 case round=>
  obtain⟨m,ys,hm,hl,rfl,HY,HB,HV⟩:=hrel;rcases Nat.lt_or_ge 16777216 m with h|h
  . have hi:(16777216:Int)<(m:Int):=by omega
    go_wp2_with fail
    refine(alK HY.out (by omega)).mono ?_;rintro e w1⟨K,hK,hb,v1,zs,rfl,hz,tz,hvz⟩;have HZ:=hdd hz.any;have HB2:=hdd (HB.out.trans (hb.mono HB.out.size));have HV2:Hid (val zs*2^(m-K)=val xs*2^n):=hdd (by rw[hvz,<-HV.out];exact ajG _ _ _ (by omega));have hl2:=ajH xs zs _ n HO.out hz.ok tz HV2.out;have hsub:(m:Int)-16777216=((m-K:Nat):Int):=by omega
    clear hb hz tz hvz;go_wp2
    go_roundw
    case rel=>exact⟨m-K,zs,by omega,hl2,by go_num,HZ,HB2,HV2⟩
    case measure=>simp[intOf];omega
  . have hi:¬(16777216:Int)<(m:Int):=by omega
    go_wp2_with fail
    refine(adY HY.out h (by omega)).mono ?_;rintro e w1⟨hb,v1,zs,rfl,hz,tz,hvz⟩;have HF:=hdd (RetN.of (n:=val xs*2^n) (HB.out.trans (hb.mono HB.out.size)) (hz.weak fun b h _=>Nat.le_trans HB.out.size h) tz (by rw[hvz,HV.out]));clear hb hz tz hvz;go_wp2;go_ret;exact HF.out
structure Dy where
 man:Int
 exp:Int
deriving DecidableEq
def DyP(p:Nat->Prop)(w:World)(v:Value)(d:Dy):Prop:=
 ∃b A n c,v=.agg #[.bool b,.slice A n c,.int .i64 d.exp]/\IntP p w (.agg #[.bool b,.slice A n c]) d.man
def RetD(B:Nat)(w0:World)(d:Dy)(e:Ending)(w':World):Prop:=
 Below B w0 w'/\∃v,e=.returned v/\DyP (fun b=>B<=b) w' v d
def mkDy(man exp:Int):Dy:=if man=0 then⟨0,0⟩else⟨sg (decide (man<0)) (man.natAbs/2^ctz man.natAbs),exp+ctz man.natAbs⟩
theorem DyP.below {w':World}{v:Value}{d:Dy}(h:DyP p w v d)(hb:Below w.heap.size w w'):DyP p w' v d:=by
 obtain⟨b,A,n,c,e,h⟩:=h;exact⟨b,A,n,c,e,h.below hb⟩
theorem cells3(h:w.heap[g]? =some (.cells #[a,b,c] T (0,0))):
 w.cell? ⟨g,0,none⟩=some a/\w.cell? ⟨g,1,none⟩=some b/\w.cell? ⟨g,2,none⟩=some c/\w.frozen? ⟨g,0,none⟩=false/\w.frozen? ⟨g,1,none⟩=false/\w.frozen? ⟨g,2,none⟩=false:=by
 refine⟨?_,?_,?_,?_,?_,?_⟩<;>simp[World.cell?,World.frozen?,h]
theorem set3(h:w.heap[g]? =some (.cells #[a,b,c] T (0,0)))(u v x:Value):
 (((w.setCell ⟨g,0,none⟩ u).setCell ⟨g,1,none⟩ v).setCell ⟨g,2,none⟩ x).heap[g]? =some (.cells #[u,v,x] T (0,0)):=by
 have hg:g<w.heap.size:=(Array.getElem?_eq_some_iff.1 h).1;have h':w.heap[g]=.cells #[a,b,c] T (0,0):=(Array.getElem?_eq_some_iff.1 h).2;simp[World.setCell,hg,Array.getElem_modify,h']
theorem aK{B:Nat}{w0 w1:World}{u vm:Value}{z:Int}{d:Dy}{q:Nat->Prop}(hb:Below B w0 w1)(hg:B<=g)(hw:w1.heap[g]? =some (.cells #[a,b,c] T (0,0)))
 (h:DyP q w1 (.agg #[u,vm,.int .i64 z]) d) (hq:∀b,q b->B<=b/\b≠g):
 Hid (RetD B w0 d (.returned (.agg #[u,vm,.int .i64 z])) (((w1.setCell ⟨g,0,none⟩ u).setCell ⟨g,1,none⟩ vm).setCell ⟨g,2,none⟩ (.int .i64 z)))/\
 (((w1.setCell ⟨g,0,none⟩ u).setCell ⟨g,1,none⟩ vm).setCell ⟨g,2,none⟩ (.int .i64 z)).heap[g]? =some (.cells #[u,vm,.int .i64 z] T (0,0)):=by
 obtain⟨b',A,n,c',e,h⟩:=h;refine⟨hdd ⟨((hb.setCell hg _).setCell hg _).setCell hg _,_,rfl,b',A,n,c',e,?_⟩,set3 hw u vm _⟩;exact(((h.setCell (fun b hb=>(hq b hb).2) _).setCell (fun b hb=>(hq b hb).2) _).setCell (fun b hb=>(hq b hb).2) _).weak fun b hb _=>(hq b hb).1
end
section
open Int renaming natCast_mul->baR,mul_assoc->baT,mul_eq_zero->baW,zero_mul->baY,neg_mul->baZ
open Nat renaming two_pow_pos->baQ,le_mul_of_pos_right->baS,pow_succ->baU,pow_add->baV,mul_comm->baX
variable{j k:Nat}
theorem qQ(n:Nat)(h:n≠0):∃k m,n=2^k*(2*m+1)/\ctz n=k:=by
 suffices∀b n,n<2^b->n≠0->∃k m,n=2^k*(2*m+1) by
  obtain⟨k,m,e⟩:=this n n Nat.lt_two_pow_self h;exact⟨k,m,e,by rw[e];exact yJ k m⟩
 intro b
 induction b with
 |zero=>intro n h1 h2;omega
 |succ b ih=>
  intro n h1 h2;rcases Nat.mod_two_eq_zero_or_one n with h3|h3
  . obtain⟨k,m,e⟩:=ih (n/2) (by rw[baU]at h1;omega) (by omega)
    refine⟨k+1,m,?_⟩;rw[baU,baX (2^k) 2,Nat.mul_assoc,<-e];omega
  . exact⟨0,n/2,by simp;omega⟩
theorem rQ(n:Nat)(h:n≠0):ctz n<=bits n:=by
 obtain⟨k,m,e,hk⟩:=qQ n h;rw[hk];rcases Nat.lt_or_ge (bits n) k with h1|h1
 . have h2:=(aD n (bits n)).1 nlr
   have h3:2^bits n<=2^k:=Nat.pow_le_pow_right (by omega) (by omega);have h4:2^k<=n:=by rw[e];exact baS _ (by omega)
   omega
 . exact h1
theorem lC(b:Bool)(m n:Nat):sg b (m*n)=sg b m*(n:Int):=by cases b<;>simp[sg,baZ]
theorem gW(x e:Int)(hx:x≠0):∃k:Nat,x=(mkDy x e).man*(2^k:Nat)/\(mkDy x e).exp=e+k/\(mkDy x e).man%2=1/\k<=bits x.natAbs:=by
 obtain⟨k,m,e1,hk⟩:=qQ x.natAbs (by omega);have hm:(mkDy x e).man=sg (decide (x<0)) (2*m+1):=by
  unfold mkDy;rw[if_neg hx,hk];show sg _ (x.natAbs/2^k)=_;rw[e1,Nat.mul_div_cancel_left _ (baQ k)]
 refine⟨k,?_,?_,?_,?_⟩
 . rw[hm,<-lC,baX,<-e1]
   exact(lK x).symm
 . unfold mkDy;rw[if_neg hx,hk]
 . rw[hm];cases decide (x<0)<;>simp[sg]<;>omega
 . have:=rQ x.natAbs (by omega);omega
theorem aU(e:Int):mkDy 0 e=⟨0,0⟩:=by unfold mkDy;simp
theorem vK{a b:Int}(ha:a%2=1)(hb:b%2=1)(h:a*(2^j:Nat)=b*(2^k:Nat)):a=b/\j=k:=by
 suffices∀j k:Nat,∀a b:Int,a%2=1->b%2=1->j<=k->a*(2^j:Nat)=b*(2^k:Nat)->a=b/\j=k by
  rcases Nat.le_total j k with hjk|hjk
  . exact this j k a b ha hb hjk h
  . obtain⟨e1,e2⟩:=this k j b a hb ha hjk h.symm
    exact⟨e1.symm,e2.symm⟩
 intro j k a b ha hb hjk h;obtain⟨d,rfl⟩:∃d,k=j+d:=⟨k-j,by omega⟩;rw[baV,baR,Int.mul_comm ((2^j:Nat):Int),<-baT]at h;have hp:((2^j:Nat):Int)≠0:=by have:=baQ j;omega
 have h2:=Int.eq_of_mul_eq_mul_right hp h;rcases d with _|d
 . exact⟨by simpa using h2,rfl⟩
 . exfalso
   rw[baU,baR,<-baT]at h2;omega
theorem sS{x y e f:Int}(h:x*(2^j:Nat)=y*(2^k:Nat))(he:e-j=f-k):mkDy x e=mkDy y f:=by
 have pj:=baQ j;have pk:=baQ k;by_cases hx:x=0
 . have hy:y=0:=by
    rw[hx,baY]at h;rcases baW.1 h.symm with h|h
    . exact h
    . omega
   rw[hx,hy,aU,aU]
 . have hy:y≠0:=by
    intro hy;rw[hy,baY]at h;rcases baW.1 h with h|h
    . exact hx h
    . omega
   obtain⟨a,a1,a2,a3,-⟩:=gW x e hx;obtain⟨b,b1,b2,b3,-⟩:=gW y f hy;have h2:(mkDy x e).man*(2^(a+j):Nat)=(mkDy y f).man*(2^(b+k):Nat):=by
    rw[baV,baV,baR,baR,<-baT,<-baT,<-a1,<-b1];exact h
   obtain⟨h3,h4⟩:=vK a3 b3 h2;have h5:(mkDy x e).exp=(mkDy y f).exp:=by rw[a2,b2];omega
   cases hd:mkDy x e;cases hd2:mkDy y f
   rw[hd,hd2]at h3 h5;simp at h3 h5;rw[h3,h5]
theorem ajI(x e:Int)(k:Nat):mkDy (x*(2^k:Nat)) (e-k)=mkDy x e:=
 sS (j:=0) (k:=k) (by simp) (by omega)
theorem nE(x e:Int):mkDy (mkDy x e).man (mkDy x e).exp=mkDy x e:=by
 by_cases hx:x=0
 . rw[hx,aU,aU]
 . obtain⟨k,k1,k2,k3,-⟩:=gW x e hx
   exact sS (j:=k) (k:=0) (by simpa using k1.symm) (by omega)
def dG(a b:Dy):Int:=if a.exp<=b.exp then a.man else a.man*(2^(a.exp-b.exp).toNat:Nat)
def dH(a b:Dy):Int:=if a.exp<=b.exp then b.man*(2^(b.exp-a.exp).toNat:Nat)else b.man
def addD(a b:Dy):Dy:=if a.man=0 then mkDy b.man b.exp else if b.man=0 then mkDy a.man a.exp else mkDy (dG a b+dH a b) (min a.exp b.exp)
def mulD(a b:Dy):Dy:=mkDy (a.man*b.man) (a.exp+b.exp)
def notD(a:Dy):Dy:=mkDy (-a.man) a.exp
def topD(a:Dy):Int:=if a.man=0 then 0 else bits a.man.natAbs+a.exp
def cmpD(a b:Dy):Int:=cmpI (dG a b) (dH a b)
theorem gX(a b:Dy):dG a b=a.man*(2^(a.exp-min a.exp b.exp).toNat:Nat):=by
 unfold dG;split
 . have:(a.exp-min a.exp b.exp).toNat=0:=by omega
   rw[this];simp
 . have:min a.exp b.exp=b.exp:=by omega
   rw[this]
theorem gY(a b:Dy):dH a b=b.man*(2^(b.exp-min a.exp b.exp).toNat:Nat):=by
 unfold dH;split
 . have:min a.exp b.exp=a.exp:=by omega
   rw[this]
 . have:(b.exp-min a.exp b.exp).toNat=0:=by omega
   rw[this];simp
theorem iD(x e:Int):mkDy x e=⟨0,0⟩/\x=0\/x≠0/\(mkDy x e).man≠0/\e<=(mkDy x e).exp/\x=(mkDy x e).man*(2^((mkDy x e).exp-e).toNat:Nat):=by
 by_cases hx:x=0
 . exact Or.inl ⟨by rw[hx,aU],hx⟩
 . obtain⟨k,k1,k2,k3,-⟩:=gW x e hx
   refine Or.inr ⟨hx,by omega,by omega,?_⟩;have:((mkDy x e).exp-e).toNat=k:=by omega
   rw[this];exact k1
theorem aeG(x e:Int):notD (mkDy x e)=mkDy (-x) e:=by
 unfold notD;rcases iD x e with ⟨h1,h2⟩|⟨h1,h2,h3,h4⟩
 . rw[h1,h2];simp[aU]
 . generalize mkDy x e=a at*
   refine sS (j:=(a.exp-e).toNat) (k:=0) ?_ (by omega);rw[baZ,<-h4];simp
theorem alL(x e:Int):(mkDy x e).man.sign=x.sign:=by
 rcases iD x e with ⟨h1,h2⟩|⟨h1,h2,h3,h4⟩
 . rw[h1,h2]
 . generalize mkDy x e=a at*
   have:=baQ (a.exp-e).toNat;rw[h4,Int.sign_mul,Int.sign_eq_one_of_pos (a:=((2^(a.exp-e).toNat:Nat):Int)) (by omega),Int.mul_one]
theorem pJ(x e:Int):bits (mkDy x e).man.natAbs<=bits x.natAbs:=by
 rcases iD x e with ⟨h1,h2⟩|⟨h1,h2,h3,h4⟩
 . rw[h1];exact Nat.zero_le _
 . generalize mkDy x e=a at*
   refine bX ?_
   conv=>rhs;rw[h4]
   rw[Int.natAbs_mul,Int.natAbs_natCast];exact baS _ (baQ _)
end
section
open Go.RowKit
open Go.RowKit.Below renaming refl->ba0,heap_setCell->ba1
variable{E X Y x:Int}{xs:List Nat}{p q:Nat->Prop}{v va vb:Value}{w w0:World}
theorem wrap_i64(h:-9223372036854775808<=x/\x<9223372036854775808):IntKind.i64.wrap x=x:=by
 have hb64:(2:Int)^IntKind.i64.bits=18446744073709551616:=rfl;have hb63:(2:Int)^(IntKind.i64.bits-1)=9223372036854775808:=rfl;simp only[IntKind.wrap,show IntKind.i64.signed=true from rfl,Bool.true_and,decide_eq_true_eq,hb64,hb63]
 split<;>omega
theorem dD{e:Int}(hx:IntP p w va x)(hT:Tab w)(hL:bits x.natAbs<=1073741824)(he:-1000000000000<=e/\e<=1000000000000):
 Calls Tryz.prog 48 #[va,.int .i64 e] w (RetD w.heap.size w (mkDy x e)):=by
 obtain⟨ba,A,n,c,rfl⟩:=hx.shape;obtain⟨w2,hw2,hb2,hs2,b1,b2⟩:=pro2 w (.cells #[Value.bool ba,.slice A n c] 33) (.cells #[Value.bool false,Value.slice none 0 0,.int .i64 0] 87);have HB:=hdd hb2;have H1:=hdd (hx.below hb2);have HS:=hdd hs2;have B1:=hdd b1;have B2:=hdd b2;have HT:=hdd (hT.below hb2);have HL:=hdd hL;obtain⟨c0,c1,-,-⟩:=aB b1;clear hx hb2 b1 b2 hs2 hT hL;go_enter Tryz.func48,Tryz.ntmps48
 go_wp2_with fail
 refine(oN H1.out).mono ?_;rintro r w3⟨rfl,hb⟩;replace H1:=hdd (H1.out.below hb);replace HT:=hdd (HT.out.below hb);replace c0:=cbl c0 hb;replace c1:=cbl c1 hb;replace B2:=hdd (aC B2.out hb (by have:=HS.out;omega));have HS3:=hdd hb.size;replace HB:=hdd (HB.out.trans (hb.mono HB.out.size));clear hb hw2;by_cases hz:x=0
 . have hs:(x.sign==0)=true:=by rw[hz];rfl
   obtain⟨e0,e1,e2,e3,e4,e5⟩:=cells3 B2.out;have hsz:=HS3.out;have hs2:=HS.out;have h:DyP (fun b=>w3.heap.size<=b) w3 (.agg #[.bool false,.slice none 0 0,.int .i64 0]) (mkDy x e):=by
    rw[hz];exact⟨_,_,_,_,rfl,_,[],rfl,NatP.nil _,Tr.nil,rfl⟩
   obtain⟨HFF,hFF⟩:=aK HB.out (g:=w.heap.size+1) (by omega) B2.out h (fun b hb=>by omega);replace hFF:=hdd hFF;clear h hsz hs2;go_wp2;obtain⟨f0,f1,f2,-,-,-⟩:=cells3 hFF.out;refine bodyPost_ret (v:=.agg #[_,_,_]) (by simp[results,Tryz.results48,go_sem,f0,f1,f2];first|exact⟨rfl,rfl,rfl⟩|rfl) rfl ?_;exact HFF.out
 . have hs:(x.sign==0)=false:=beq_eq_false_iff_ne.2 (fun h=>hz (Int.sign_eq_zero_iff_zero.1 h))
   obtain⟨xs,hx1,hx2,hx3,hx4⟩:=H1.out.get;have HX:=hdd hx1;have HV:=hdd hx3;have HBA:=hdd hx4;have hlow:ctz (val xs)<=1073741824:=by
    have h1:=rQ (val xs) (by rw[hx3];omega);have:=HL.out;rw[hx3]at h1|-;omega
   clear hx1 hx2 hx3 hx4;go_wp2_with fail
   refine(sF HX.out HT.out).mono ?_;rintro r w4⟨rfl,k,rfl⟩;have hb:=below_drewN w3 k;replace HX:=hdd (HX.out.below hb);replace c0:=cbl c0 hb;replace c1:=cbl c1 hb;replace B2:=hdd (hbl B2.out hb);replace HB:=hdd (HB.out.trans (hb.mono HB.out.size));replace HS3:Hid (w2.heap.size<=(w3.drewN k).heap.size):=hdd (Nat.le_trans HS3.out hb.size);clear hb H1 HT;generalize w3.drewN k=w4 at*;go_wp2_with fail
   have hwr:IntKind.i64.wrap (e+(ctz (val xs):Int))=e+(ctz (val xs):Int):=wrap_i64 (by omega);have HRG:=hdd (jF (n:=ctz (val xs)) (HX.out.below ((ba0 _ _).drew (w:=w4))) (by omega))
   go_region_held3 (fun w'=>w'.cell? ⟨w.heap.size,0,none⟩=some (.bool ba)/\w'.cell? ⟨w.heap.size,1,none⟩=some (.slice A n c)) (go_keep)
    (first
    |(go_at_call 92
      refine HRG.out.mono ?_;rintro r w5⟨hb,v5,zs,rfl,hz,tz,hvz⟩;have HB5:Hid (Below w4.heap.size w4 w5):=hdd ((ba0 _ _).drew.trans hb);have g0:=cbl c0 HB5.out;have g1:=cbl c1 HB5.out;have HMK:=hdd (dE (b:=ba) hz);have HVZ:=hdd hvz;clear hb hz tz hvz)
    |(go_at_call 55
      refine HMK.out.mono ?_;rintro r w6⟨hb,v6,hz⟩;obtain⟨rfl,hz⟩:=hz;obtain⟨b6,A6,n6,c6,rfl⟩:=hz.shape;have g0':=cbl g0 hb;have g1':=cbl g1 hb;have HSZ:=hdd HB5.out.size;replace HB5:=hdd (HB5.out.trans (hb.mono HB5.out.size));have HF:=hdd hz;have B25:=hdd (hbl B2.out HB5.out);obtain⟨e0',e1',e2',e3',e4',e5'⟩:=cells3 B25.out;clear hb hz))
   have hm:mkDy x e=⟨sg ba (val zs),e+ctz (val xs)⟩:=by
    unfold mkDy;rw[if_neg hz,HVZ.out,HV.out,HBA.out]
   have HDD:Hid (DyP (fun b=>w4.heap.size<=b) _ (.agg #[.bool b6,.slice A6 n6 c6,.int .i64 (e+ctz (val xs))]) (mkDy x e)):=hdd (by
    rw[hm];exact⟨b6,A6,n6,c6,rfl,HF.out.weak fun b h _=>by have:=HSZ.out;omega⟩)
   obtain⟨HFF,hFF⟩:=aK (HB.out.trans (HB5.out.mono HB.out.size)) (g:=w.heap.size+1) (by omega) B25.out HDD.out (fun b hb=>by have:=HS3.out;have:=HS.out;omega);replace hFF:=hdd hFF;clear hm HDD;go_wp2;obtain⟨f0,f1,f2,-,-,-⟩:=cells3 hFF.out;refine bodyPost_ret (v:=.agg #[_,_,_]) (by simp[results,Tryz.results48,go_sem,f0,f1,f2];first|exact⟨rfl,rfl,rfl⟩|rfl) rfl ?_;exact HFF.out
theorem cK{d:Dy}(hx:DyP p w v d):
 Calls Tryz.prog 93 #[v] w (RetK w d.man.sign):=by
 obtain⟨b,A,n,c,rfl,h⟩:=hx;obtain⟨w1,hw1,hb1,hs1,b1⟩:=pro1 w (.cells #[Value.bool b,.slice A n c,.int .i64 d.exp] 87);have HB:=hdd hb1;have H1:=hdd (h.below hb1);obtain⟨c0,c1,c2,-,-,-⟩:=cells3 b1;clear h hb1 b1 hs1;go_enter Tryz.func93,Tryz.ntmps93
 go_wp2_with fail
 refine(oN H1.out).mono ?_;rintro r w3⟨rfl,hb⟩;have HF:Hid (RetK w d.man.sign (.returned (.int .i64 d.man.sign)) w3):=hdd ⟨rfl,HB.out.trans (hb.mono HB.out.size)⟩;clear hb;go_wp2;go_ret;exact HF.out
theorem abI(h:OkL xs):bits (val xs)<=64*xs.length:=by
 rw[aD];have:=bF xs h;rwa[dZ,<-Nat.pow_mul]at this
theorem pK{d:Dy}(hx:DyP p w v d)(he:-1000000000000<=d.exp/\d.exp<=1000000000000):
 Calls Tryz.prog 94 #[v] w (RetK w (topD d)):=by
 obtain⟨b,A,n,c,rfl,h⟩:=hx;obtain⟨w1,hw1,hb1,hs1,b1⟩:=pro1 w (.cells #[Value.bool b,.slice A n c,.int .i64 d.exp] 87);have HB:=hdd hb1;have H1:=hdd (h.below hb1);obtain⟨c0,c1,c2,-,-,-⟩:=cells3 b1;clear h hb1 b1 hs1;have HDP:Hid (DyP p w1 (.agg #[.bool b,.slice A n c,.int .i64 d.exp]) d):=hdd ⟨b,A,n,c,rfl,H1.out⟩;go_enter Tryz.func94,Tryz.ntmps94
 go_wp2_with fail
 refine(cK HDP.out).mono ?_;rintro r w3⟨rfl,hb⟩;replace H1:=hdd (H1.out.below hb);replace c0:=cbl c0 hb;replace c1:=cbl c1 hb;replace c2:=cbl c2 hb;replace HB:=hdd (HB.out.trans (hb.mono HB.out.size));clear hb HDP hw1;by_cases hz:d.man=0
 . have hs:(d.man.sign==0)=true:=by rw[hz];rfl
   have HF:Hid (RetK w (topD d) (.returned (.int .i64 0)) w3):=hdd ⟨by unfold topD;rw[if_pos hz],HB.out⟩;clear hz;go_wp2;go_ret;exact HF.out
 . have hs:(d.man.sign==0)=false:=beq_eq_false_iff_ne.2 (fun h=>hz (Int.sign_eq_zero_iff_zero.1 h))
   obtain⟨xs,hx1,-,hx3,-⟩:=H1.out.get;have HBT:=hdd (cZ (hx1.below ((ba0 _ _).drew (w:=w3))));have hbl:bits (val xs)<=64*1099511627776:=Nat.le_trans (abI hx1.ok) (Nat.mul_le_mul_left _ hx1.len);have hwr:IntKind.i64.wrap ((bits (val xs):Int)+d.exp)=(bits (val xs):Int)+d.exp:=wrap_i64 (by omega);have HT:Hid (topD d=bits (val xs)+d.exp):=hdd (by unfold topD;rw[if_neg hz,hx3]);clear hx1 hx3 hz;go_wp2_with fail
   go_region_held3 (fun w'=>w'.cell? ⟨w.heap.size,0,none⟩=some (.bool b)/\w'.cell? ⟨w.heap.size,1,none⟩=some (.slice A n c)/\w'.cell? ⟨w.heap.size,2,none⟩=some (.int .i64 d.exp)) (go_keep)
    (first
    |(go_at_call 96
      refine HBT.out.mono ?_;rintro e w5⟨rfl,k,hk⟩;have hb5:Below w3.heap.size w3 w5:=by rw[hk];exact(ba0 _ _).drew.trans (below_drewN w3.drew k)
      have c0:=cbl c0 hb5;have c1:=cbl c1 hb5;have c2:=cbl c2 hb5;have HB5:=hdd (HB.out.trans (hb5.mono HB.out.size));clear hk hb5))
   have HF:Hid (RetK w (topD d) (.returned (.int .i64 (bits (val xs)+d.exp))) _):=hdd ⟨by rw[HT.out],HB5.out⟩;go_wp2;go_ret;exact HF.out
theorem vL{d:Dy}(hx:DyP p w v d)(hT:Tab w)(hL:bits d.man.natAbs<=1073741824)(he:-1000000000000<=d.exp/\d.exp<=1000000000000):
 Calls Tryz.prog 104 #[v] w (RetD w.heap.size w (notD d)):=by
 obtain⟨b,A,n,c,rfl,h⟩:=hx;obtain⟨w2,hw2,hb2,hs2,b1,b2⟩:=pro2 w (.cells #[Value.bool b,.slice A n c,.int .i64 d.exp] 87) (.cells #[Value.bool false,Value.slice none 0 0,.int .i64 0] 87);have HB:=hdd hb2;have H1:=hdd (h.below hb2);have HT:=hdd (hT.below hb2);have HS:=hdd hs2;have B2:=hdd b2;have HL:=hdd hL;obtain⟨c0,c1,c2,-,-,-⟩:=cells3 b1;clear h hb2 b1 hs2 b2 hT hL;go_enter Tryz.func104,Tryz.ntmps104
 go_wp2_with fail
 have HN:=hdd (akN (H1.out.below ((ba0 _ _).drew (w:=w2))));have n1:w.heap.size+1≠w.heap.size:=by omega
 go_region_held3 (fun w'=>w'.cell? ⟨w.heap.size,0,none⟩=some (.bool b)/\w'.cell? ⟨w.heap.size,1,none⟩=some (.slice A n c)/\w'.cell? ⟨w.heap.size,2,none⟩=some (.int .i64 d.exp)) (go_keep)
  (first
  |(go_at_call 17
    refine HN.out.mono ?_;rintro r w5⟨hb,v5,rfl,hz⟩;have HB5:Hid (Below w2.heap.size w2 w5):=hdd ((ba0 _ _).drew.trans hb);have c0:=cbl c0 HB5.out;have c1:=cbl c1 HB5.out;have c2:=cbl c2 HB5.out;have HMK:=hdd (dD (e:=d.exp) hz (HT.out.below HB5.out) (by rw[Int.natAbs_neg];exact HL.out) he);clear hb hz)
  |(go_at_call 48
    refine HMK.out.mono ?_;rintro r w6⟨hb,v6,hz⟩;obtain⟨rfl,hz⟩:=hz;obtain⟨b6,A6,n6,c6,rfl,-⟩:=id hz;have c0:=cbl c0 hb;have c1:=cbl c1 hb;have c2:=cbl c2 hb;have HSZ:=hdd HB5.out.size;have HB5:=hdd (HB5.out.trans (hb.mono HB5.out.size));have HF:=hdd hz;have B25:=hdd (hbl B2.out HB5.out);obtain⟨e0,e1,e2,e3,e4,e5⟩:=cells3 B25.out;clear hb hz))
 obtain⟨HFF,hFF⟩:=aK (HB.out.trans (HB5.out.mono HB.out.size)) (g:=w.heap.size+1) (by omega) B25.out HF.out (fun b hb=>by have:=HS.out;have:=HSZ.out;omega);replace hFF:=hdd hFF;replace HFF:Hid (RetD w.heap.size w (notD d) _ _):=HFF;go_wp2;obtain⟨f0,f1,f2,-,-,-⟩:=cells3 hFF.out;refine bodyPost_ret (v:=.agg #[_,_,_]) (by simp[results,Tryz.results104,go_sem,f0,f1,f2];first|exact⟨rfl,rfl,rfl⟩|rfl) rfl ?_;exact HFF.out
theorem rR(a b:Nat):bits (a*b)<=bits a+bits b:=by
 rw[aD];have e3:=Nat.mul_lt_mul'' (bK a) (bK b);rwa[<-Nat.pow_add]at e3
theorem ajJ{x y:Dy}(hx:DyP p w va x)(hy:DyP q w vb y)(hT:Tab w)
 (hL:bits x.man.natAbs+bits y.man.natAbs<=1073741823) (he:-100000000000<=x.exp/\x.exp<=100000000000) (he':-100000000000<=y.exp/\y.exp<=100000000000):
 Calls Tryz.prog 261 #[va,vb] w (RetD w.heap.size w (mulD x y)):=by
 obtain⟨ba,A,n,c,rfl,h⟩:=hx;obtain⟨bb,A',n',c',rfl,h'⟩:=hy;obtain⟨w3,hw3,hb3,hs3,b1,b2,b3⟩:=pro3 w (.cells #[Value.bool ba,.slice A n c,.int .i64 x.exp] 87) (.cells #[Value.bool bb,.slice A' n' c',.int .i64 y.exp] 87) (.cells #[Value.bool false,Value.slice none 0 0,.int .i64 0] 87);have HB:=hdd hb3;have H1:=hdd (h.below hb3);have H2:=hdd (h'.below hb3);have HT:=hdd (hT.below hb3);have HS:=hdd hs3;have B3:=hdd b3;obtain⟨c0,c1,c2,-,-,-⟩:=cells3 b1;obtain⟨d0,d1,d2,-,-,-⟩:=cells3 b2;have hwr:IntKind.i64.wrap (x.exp+y.exp)=x.exp+y.exp:=wrap_i64 (by omega);have HLM:Hid (bits (x.man*y.man).natAbs<=1073741824):=hdd (by
  rw[Int.natAbs_mul];have:=rR x.man.natAbs y.man.natAbs;omega)
 have HL:=hdd hL;have HE:Hid (-1000000000000<=x.exp+y.exp/\x.exp+y.exp<=1000000000000):=hdd (by omega);clear h h' hb3 b1 b2 b3 hs3 hT hL he he';go_enter Tryz.func261,Tryz.ntmps261
 go_wp2_with fail
 have HBA:Hid (Below w3.heap.size w3 (w3.alloc (.cells #[Value.bool bb,.slice A' n' c'] 33)).drew):=hdd ((ba0 _ _).alloc nlr _).drew;have HBA2:Hid ((w3.alloc (.cells #[Value.bool bb,.slice A' n' c'] 33)).drew.heap[w3.heap.size]? =some (.cells #[Value.bool bb,.slice A' n' c'] 33 (0,0))):=hdd (heap_alloc_new w3 _);have HMU:=hdd (ahU (H1.out.below HBA.out) HBA2.out (H2.out.below HBA.out) (by have:=HL.out;omega));have n1:w.heap.size+1+1≠w.heap.size:=by omega
 have n2:w.heap.size+1+1≠w.heap.size+1:=by omega
 go_region_held3 (fun w'=>w'.cell? ⟨w.heap.size,0,none⟩=some (.bool ba)/\w'.cell? ⟨w.heap.size,1,none⟩=some (.slice A n c)/\w'.cell? ⟨w.heap.size,2,none⟩=some (.int .i64 x.exp)/\w'.cell? ⟨w.heap.size+1,0,none⟩=some (.bool bb)/\w'.cell? ⟨w.heap.size+1,1,none⟩=some (.slice A' n' c')/\w'.cell? ⟨w.heap.size+1,2,none⟩=some (.int .i64 y.exp)) (go_keep)
  (first
  |(go_at_call 15
    refine HMU.out.mono ?_;rintro r w5⟨hb,v5,rfl,hz⟩;have HB5:Hid (Below w3.heap.size w3 w5):=hdd (HBA.out.trans (hb.mono HBA.out.size));have c0:=cbl c0 HB5.out;have c1:=cbl c1 HB5.out;have c2:=cbl c2 HB5.out;have d0:=cbl d0 HB5.out;have d1:=cbl d1 HB5.out;have d2:=cbl d2 HB5.out;have HMK:=hdd (dD (e:=x.exp+y.exp) hz (HT.out.below HB5.out) HLM.out HE.out);clear hb hz)
  |(go_at_call 48
    refine HMK.out.mono ?_;rintro r w6⟨hb,v6,hz⟩;obtain⟨rfl,hz⟩:=hz;obtain⟨b6,A6,n6,c6,rfl,-⟩:=id hz;have c0:=cbl c0 hb;have c1:=cbl c1 hb;have c2:=cbl c2 hb;have d0:=cbl d0 hb;have d1:=cbl d1 hb;have d2:=cbl d2 hb;have HSZ:=hdd HB5.out.size;have HB5:=hdd (HB5.out.trans (hb.mono HB5.out.size));have HF:=hdd hz;have B35:=hdd (hbl B3.out HB5.out);obtain⟨e0,e1,e2,e3,e4,e5⟩:=cells3 B35.out;clear hb hz))
 obtain⟨HFF,hFF⟩:=aK (HB.out.trans (HB5.out.mono HB.out.size)) (g:=w.heap.size+2) (by omega) B35.out HF.out (fun b hb=>by have:=HS.out;have:=HSZ.out;omega);replace hFF:=hdd hFF;replace HFF:Hid (RetD w.heap.size w (mulD x y) _ _):=HFF;go_wp2;obtain⟨f0,f1,f2,-,-,-⟩:=cells3 hFF.out;refine bodyPost_ret (v:=.agg #[_,_,_]) (by simp[results,Tryz.results261,go_sem,f0,f1,f2];first|exact⟨rfl,rfl,rfl⟩|rfl) rfl ?_;exact HFF.out
def RetA(w0:World)(X Y E:Int)(e:Ending)(w':World):Prop:=
 Below w0.heap.size w0 w'/\∃b1 A1 n1 c1 b2 A2 n2 c2,e=.returned (.tuple #[.agg #[.bool b1,.slice A1 n1 c1],.agg #[.bool b2,.slice A2 n2 c2],.int .i64 E])/\
  IntP AnyB w' (.agg #[.bool b1,.slice A1 n1 c1]) X/\IntP AnyB w' (.agg #[.bool b2,.slice A2 n2 c2]) Y
theorem IntP.any {z:Int}(h:IntP p w v z):IntP AnyB w v z:=h.weak fun _ _ _=>trivial
theorem vM{g:Nat}{w1:World}{T T':TypeId}{a b c d u1 m1 u2 m2:Value}{b1 b2:Bool}{A1 A2:Option Addr}{n1 n2 c1 c2:Nat}(hb:Below w0.heap.size w0 w1)(hg:w0.heap.size<=g)
 (hw:w1.heap[g]? =some (.cells #[a,b] T (0,0))) (hw':w1.heap[g+1]? =some (.cells #[c,d] T' (0,0)))
 (e1:u1=.bool b1) (e2:m1=.slice A1 n1 c1) (e3:u2=.bool b2) (e4:m2=.slice A2 n2 c2) {q:Nat->Prop} (hq:∀b,q b->b≠g/\b≠g+1)
 (h1:IntP q w1 (.agg #[.bool b1,.slice A1 n1 c1]) X) (h2:IntP q w1 (.agg #[.bool b2,.slice A2 n2 c2]) Y):
 Hid (RetA w0 X Y E (.returned (.tuple #[.agg #[u1,m1],.agg #[u2,m2],.int .i64 E])) ((((w1.setCell ⟨g,0,none⟩ u1).setCell ⟨g,1,none⟩ m1).setCell ⟨g+1,0,none⟩ u2).setCell ⟨g+1,1,none⟩ m2))/\
 ((((w1.setCell ⟨g,0,none⟩ u1).setCell ⟨g,1,none⟩ m1).setCell ⟨g+1,0,none⟩ u2).setCell ⟨g+1,1,none⟩ m2).heap[g]? =some (.cells #[u1,m1] T (0,0))/\
 ((((w1.setCell ⟨g,0,none⟩ u1).setCell ⟨g,1,none⟩ m1).setCell ⟨g+1,0,none⟩ u2).setCell ⟨g+1,1,none⟩ m2).heap[g+1]? =some (.cells #[u2,m2] T' (0,0)):=by
 subst e1 e2 e3 e4;have f1:((w1.setCell ⟨g,0,none⟩ (.bool b1)).setCell ⟨g,1,none⟩ (.slice A1 n1 c1)).heap[g+1]? =some (.cells #[c,d] T' (0,0)):=by
  rw[ba1 _ _ _ _ (by simp),ba1 _ _ _ _ (by simp)];exact hw'
 refine⟨hdd ⟨(((hb.setCell hg _).setCell hg _).setCell (by simp;omega) _).setCell (by simp;omega) _,b1,A1,n1,c1,b2,A2,n2,c2,rfl,?_,?_⟩,?_,set2 f1 _ _⟩
 . exact((((h1.setCell (fun b hb=>(hq b hb).1) _).setCell (fun b hb=>(hq b hb).1) _).setCell (fun b hb=>(hq b hb).2) _).setCell (fun b hb=>(hq b hb).2) _).any
 . exact((((h2.setCell (fun b hb=>(hq b hb).1) _).setCell (fun b hb=>(hq b hb).1) _).setCell (fun b hb=>(hq b hb).2) _).setCell (fun b hb=>(hq b hb).2) _).any
 . rw[ba1 _ _ _ _ (by simp),ba1 _ _ _ _ (by simp)];exact set2 hw _ _
theorem xX{w':World}{X' Y' E':Int}{e:Ending}(h:RetA w0 X Y E e w')(hX:X=X')(hY:Y=Y')(hE:E=E'):RetA w0 X' Y' E' e w':=by subst hX hY hE;exact h
theorem fU(hx:OkL xs)(ht:Tr xs)(h:bits (val xs)<=134217728):xs.length<=1000000000:=by
 have:=bC xs hx ht;omega
theorem xY{x y:Dy}(hx:DyP p w va x)(hy:DyP q w vb y)(hp:∀b,p b->b<w.heap.size)(hq:∀b,q b->b<w.heap.size)
 (hLx:bits x.man.natAbs<=134217728) (hLy:bits y.man.natAbs<=134217728) (he:-67108864<=x.exp/\x.exp<=67108864) (he':-67108864<=y.exp/\y.exp<=67108864):
 Calls Tryz.prog 95 #[va,vb] w (RetA w (dG x y) (dH x y) (min x.exp y.exp)):=by
 obtain⟨ba,A,n,c,rfl,h⟩:=hx;obtain⟨bb,A',n',c',rfl,h'⟩:=hy;obtain⟨w4,hw4,hb4,hs4,b1,b2,b3,b4⟩:=pro4 w (.cells #[Value.bool ba,.slice A n c,.int .i64 x.exp] 87) (.cells #[Value.bool bb,.slice A' n' c',.int .i64 y.exp] 87) (.cells #[Value.bool false,Value.slice none 0 0] 33) (.cells #[Value.bool false,Value.slice none 0 0] 33);have HB:=hdd hb4;have H1:=hdd (h.below hb4);have H2:=hdd (h'.below hb4);have HS:=hdd hs4;have B3:=hdd b3;have B4:=hdd b4;have HP:=hdd hp;have HQ:=hdd hq;obtain⟨c0,c1,c2,-,-,-⟩:=cells3 b1;obtain⟨d0,d1,d2,-,-,-⟩:=cells3 b2;clear h h' hb4 b1 b2 b3 b4 hs4 hp hq;by_cases hle:x.exp<=y.exp
 . obtain⟨d,hd⟩:∃d:Nat,(d:Int)=y.exp-x.exp:=⟨(y.exp-x.exp).toNat,by omega⟩
   have hwr:IntKind.i64.wrap (y.exp-x.exp)=(d:Int):=by rw[wrap_i64 (by omega)];omega
   obtain⟨ys,hy1,hy2,hy3,hy4⟩:=H2.out.get;have HRG:=hdd (gT (n:=d) (hy1.below ((ba0 _ _).drew (w:=w4))) (by omega) (fU hy1.ok hy2 (by rw[hy3];exact hLy)));have HFX:Hid (dG x y=x.man):=hdd (by unfold dG;rw[if_pos hle]);have HFY:Hid (dH x y=sg bb (val ys*2^d)):=hdd (by
    unfold dH;rw[if_pos hle,hy3,lC,hy4,lK];have:(y.exp-x.exp).toNat=d:=by omega
    rw[this])
   have HM:Hid (min x.exp y.exp=x.exp):=hdd (by omega);have hled:=hle;clear hy1 hy2 hy3 hy4 hLx hLy he he' hd;go_enter Tryz.func95,Tryz.ntmps95
   go_wp2_with fail
   have n1:w.heap.size+1+1≠w.heap.size:=by omega
   have n2:w.heap.size+1+1≠w.heap.size+1:=by omega
   have n3:w.heap.size+1+1+1≠w.heap.size:=by omega
   have n4:w.heap.size+1+1+1≠w.heap.size+1:=by omega
   go_region_held3 (fun w'=>w'.cell? ⟨w.heap.size,0,none⟩=some (.bool ba)/\w'.cell? ⟨w.heap.size,1,none⟩=some (.slice A n c)/\w'.cell? ⟨w.heap.size,2,none⟩=some (.int .i64 x.exp)/\w'.cell? ⟨w.heap.size+1,0,none⟩=some (.bool bb)/\w'.cell? ⟨w.heap.size+1,1,none⟩=some (.slice A' n' c')/\w'.cell? ⟨w.heap.size+1,2,none⟩=some (.int .i64 y.exp)) (go_keep)
    (first
    |(go_at_call 143
      refine HRG.out.mono ?_;rintro r w5⟨hb,v5,zs,rfl,hz,tz,hvz⟩;have HB5:Hid (Below w4.heap.size w4 w5):=hdd ((ba0 _ _).drew.trans hb);have c0:=cbl c0 HB5.out;have c1:=cbl c1 HB5.out;have c2:=cbl c2 HB5.out;have d0:=cbl d0 HB5.out;have d1:=cbl d1 HB5.out;have d2:=cbl d2 HB5.out;have HMK:=hdd (dE (b:=bb) hz);have HVZ:=hdd hvz;clear hb hz tz hvz)
    |(go_at_call 55
      refine HMK.out.mono ?_;rintro r w6⟨hb,v6,hz⟩;obtain⟨rfl,hz⟩:=hz;obtain⟨b6,A6,n6,c6,rfl⟩:=hz.shape;have c0:=cbl c0 hb;have c1:=cbl c1 hb;have c2:=cbl c2 hb;have d0:=cbl d0 hb;have d1:=cbl d1 hb;have d2:=cbl d2 hb;have HSZ:=hdd HB5.out.size;have HB5:=hdd (HB5.out.trans (hb.mono HB5.out.size));have HF:=hdd hz;have B35:=hdd (hbl B3.out HB5.out);have B45:=hdd (hbl B4.out HB5.out);obtain⟨e0,e1,e2,e3⟩:=aB B35.out;obtain⟨f0,f1,f2,f3⟩:=aB B45.out;clear hb hz))
   have HSS:=HS.out;have hszz:=HSZ.out;have hX:IntP (fun b=>b≠w.heap.size+2/\b≠w.heap.size+2+1) _ (.agg #[.bool ba,.slice A n c]) x.man:=(H1.out.below HB5.out).weak fun b hb _=>by have:=HP.out b hb;omega
   have hY:IntP (fun b=>b≠w.heap.size+2/\b≠w.heap.size+2+1) _ (.agg #[.bool b6,.slice A6 n6 c6]) (sg bb (val zs)):=HF.out.weak fun b hb _=>by omega
   obtain⟨HFF,hF1,hF2⟩:=vM (E:=x.exp) (HB.out.trans (HB5.out.mono HB.out.size)) (g:=w.heap.size+2) (by omega) B35.out B45.out rfl rfl rfl rfl (fun b hb=>hb) hX hY;replace hF1:=hdd hF1;replace hF2:=hdd hF2;clear hX hY HSS hszz n1 n2 n3 n4;go_wp2;obtain⟨r0,r1,-,-⟩:=aB hF1.out;obtain⟨r2,r3,-,-⟩:=aB hF2.out;refine bodyPost_ret (v:=.tuple #[.agg #[_,_],.agg #[_,_],_]) (by simp[results,Tryz.results95,go_sem,r0,r1,r2,r3];first|exact⟨⟨rfl,rfl⟩,⟨rfl,rfl⟩,rfl⟩|rfl) rfl ?_;exact xX HFF.out HFX.out.symm (by rw[HVZ.out,HFY.out]) HM.out.symm
 . obtain⟨d,hd⟩:∃d:Nat,(d:Int)=x.exp-y.exp:=⟨(x.exp-y.exp).toNat,by omega⟩
   have hwr:IntKind.i64.wrap (x.exp-y.exp)=(d:Int):=by rw[wrap_i64 (by omega)];omega
   obtain⟨ys,hy1,hy2,hy3,hy4⟩:=H1.out.get;have HRG:=hdd (gT (n:=d) (hy1.below ((ba0 _ _).drew (w:=w4))) (by omega) (fU hy1.ok hy2 (by rw[hy3];exact hLx)));have HFY:Hid (dH x y=y.man):=hdd (by unfold dH;rw[if_neg hle]);have HFX:Hid (dG x y=sg ba (val ys*2^d)):=hdd (by
    unfold dG;rw[if_neg hle,hy3,lC,hy4,lK];have:(x.exp-y.exp).toNat=d:=by omega
    rw[this])
   have HM:Hid (min x.exp y.exp=y.exp):=hdd (by omega);have hled:=hle;clear hy1 hy2 hy3 hy4 hLx hLy he he' hd;go_enter Tryz.func95,Tryz.ntmps95
   go_wp2_with fail
   have n1:w.heap.size+1+1≠w.heap.size:=by omega
   have n2:w.heap.size+1+1≠w.heap.size+1:=by omega
   have n3:w.heap.size+1+1+1≠w.heap.size:=by omega
   have n4:w.heap.size+1+1+1≠w.heap.size+1:=by omega
   go_region_held3 (fun w'=>w'.cell? ⟨w.heap.size,0,none⟩=some (.bool ba)/\w'.cell? ⟨w.heap.size,1,none⟩=some (.slice A n c)/\w'.cell? ⟨w.heap.size,2,none⟩=some (.int .i64 x.exp)/\w'.cell? ⟨w.heap.size+1,0,none⟩=some (.bool bb)/\w'.cell? ⟨w.heap.size+1,1,none⟩=some (.slice A' n' c')/\w'.cell? ⟨w.heap.size+1,2,none⟩=some (.int .i64 y.exp)) (go_keep)
    (first
    |(go_at_call 143
      refine HRG.out.mono ?_;rintro r w5⟨hb,v5,zs,rfl,hz,tz,hvz⟩;have HB5:Hid (Below w4.heap.size w4 w5):=hdd ((ba0 _ _).drew.trans hb);have c0:=cbl c0 HB5.out;have c1:=cbl c1 HB5.out;have c2:=cbl c2 HB5.out;have d0:=cbl d0 HB5.out;have d1:=cbl d1 HB5.out;have d2:=cbl d2 HB5.out;have HMK:=hdd (dE (b:=ba) hz);have HVZ:=hdd hvz;clear hb hz tz hvz)
    |(go_at_call 55
      refine HMK.out.mono ?_;rintro r w6⟨hb,v6,hz⟩;obtain⟨rfl,hz⟩:=hz;obtain⟨b6,A6,n6,c6,rfl⟩:=hz.shape;have c0:=cbl c0 hb;have c1:=cbl c1 hb;have c2:=cbl c2 hb;have d0:=cbl d0 hb;have d1:=cbl d1 hb;have d2:=cbl d2 hb;have HSZ:=hdd HB5.out.size;have HB5:=hdd (HB5.out.trans (hb.mono HB5.out.size));have HF:=hdd hz;have B35:=hdd (hbl B3.out HB5.out);have B45:=hdd (hbl B4.out HB5.out);obtain⟨e0,e1,e2,e3⟩:=aB B35.out;obtain⟨f0,f1,f2,f3⟩:=aB B45.out;clear hb hz))
   have HSS:=HS.out;have hszz:=HSZ.out;have hX:IntP (fun b=>b≠w.heap.size+2/\b≠w.heap.size+2+1) _ (.agg #[.bool b6,.slice A6 n6 c6]) (sg ba (val zs)):=HF.out.weak fun b hb _=>by omega
   have hY:IntP (fun b=>b≠w.heap.size+2/\b≠w.heap.size+2+1) _ (.agg #[.bool bb,.slice A' n' c']) y.man:=(H2.out.below HB5.out).weak fun b hb _=>by have:=HQ.out b hb;omega
   obtain⟨HFF,hF1,hF2⟩:=vM (E:=y.exp) (HB.out.trans (HB5.out.mono HB.out.size)) (g:=w.heap.size+2) (by omega) B35.out B45.out rfl rfl rfl rfl (fun b hb=>hb) hX hY;replace hF1:=hdd hF1;replace hF2:=hdd hF2;clear hX hY HSS hszz n1 n2 n3 n4;go_wp2;obtain⟨r0,r1,-,-⟩:=aB hF1.out;obtain⟨r2,r3,-,-⟩:=aB hF2.out;refine bodyPost_ret (v:=.tuple #[.agg #[_,_],.agg #[_,_],_]) (by simp[results,Tryz.results95,go_sem,r0,r1,r2,r3];first|exact⟨⟨rfl,rfl⟩,⟨rfl,rfl⟩,rfl⟩|rfl) rfl ?_;exact xX HFF.out (by rw[HVZ.out,HFX.out]) HFY.out.symm HM.out.symm
end
end Go.Proofs.YtkpodipoegbclaaGreatDoor
