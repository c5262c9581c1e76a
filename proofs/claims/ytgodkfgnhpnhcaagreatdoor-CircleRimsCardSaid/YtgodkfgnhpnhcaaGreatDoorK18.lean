/- A part of the proof: contracts of functions and plain laws (BalA, DyR, DyS, DyT, DyU). -/
import Derived.Test.YtgodkfgnhpnhcaaGreatDoorK17
import Derived.Test.YtgodkfgnhpnhcaaGreatDoorK09
set_option linter.unusedVariables false
set_option linter.unusedSimpArgs false
set_option maxHeartbeats 25600000
set_option maxRecDepth 100000
namespace Go.Proofs.YtgodkfgnhpnhcaaGreatDoor
open Go.RowKit
open Go.RowKit.Below renaming heap_setCell->azC
variable{g:Nat}{p:Nat->Prop}{T:TypeId}{a b c d e f va:Value}{w:World}
theorem aG(h:w.heap[g]? =some (.cells #[a,b,c,d,e,f] T (0,0))):
 w.cell? ⟨g,0,none⟩=some a/\w.cell? ⟨g,1,none⟩=some b/\w.cell? ⟨g,2,none⟩=some c/\w.cell? ⟨g,3,none⟩=some d/\w.cell? ⟨g,4,none⟩=some e/\w.cell? ⟨g,5,none⟩=some f:=by
 refine⟨?_,?_,?_,?_,?_,?_⟩<;>simp[World.cell?,h]
theorem gW(h:w.heap[g]? =some (.cells #[a,b,c,d,e,f] T (0,0))):
 w.frozen? ⟨g,0,none⟩=false/\w.frozen? ⟨g,1,none⟩=false/\w.frozen? ⟨g,2,none⟩=false/\w.frozen? ⟨g,3,none⟩=false/\w.frozen? ⟨g,4,none⟩=false/\w.frozen? ⟨g,5,none⟩=false:=by
 refine⟨?_,?_,?_,?_,?_,?_⟩<;>simp[World.frozen?,h]
def put6(w:World)(g:Nat)(a b c d e f:Value):World:=
 (((((w.setCell ⟨g,0,none⟩ a).setCell ⟨g,1,none⟩ b).setCell ⟨g,2,none⟩ c).setCell ⟨g,3,none⟩ d).setCell ⟨g,4,none⟩ e).setCell ⟨g,5,none⟩ f
theorem iR(h:w.heap[g]? =some (.cells #[a,b,c,d,e,f] T (0,0)))(u v x y z t:Value):
 (put6 w g u v x y z t).heap[g]? =some (.cells #[u,v,x,y,z,t] T (0,0)):=by
 have hg:g<w.heap.size:=(Array.getElem?_eq_some_iff.1 h).1;have h':w.heap[g]=.cells #[a,b,c,d,e,f] T (0,0):=(Array.getElem?_eq_some_iff.1 h).2;simp[put6,World.setCell,hg,Array.getElem_modify,h']
theorem fO{B:Nat}{w0:World}(hb:Below B w0 w)(hg:B<=g)(u v x y z t:Value):Below B w0 (put6 w g u v x y z t):=
 (((((hb.setCell hg _).setCell hg _).setCell hg _).setCell hg _).setCell hg _).setCell hg _
theorem vB{i:Nat}(h:g≠i)(u v x y z t:Value):(put6 w g u v x y z t).heap[i]? =w.heap[i]? :=by
 unfold put6;rw[azC _ _ _ _ (by simp;omega),azC _ _ _ _ (by simp;omega),azC _ _ _ _ (by simp;omega),azC _ _ _ _ (by simp;omega),azC _ _ _ _ (by simp;omega),azC _ _ _ _ (by simp;omega)]
theorem iZ{z0:Int}(h:IntP p w va z0)(ha:∀b,p b->b≠g)(u v x y z t:Value):IntP p (put6 w g u v x y z t) va z0:=
 (((((h.setCell (a:=⟨g,0,none⟩) ha u).setCell (a:=⟨g,1,none⟩) ha v).setCell (a:=⟨g,2,none⟩) ha x).setCell (a:=⟨g,3,none⟩) ha y).setCell (a:=⟨g,4,none⟩) ha z).setCell (a:=⟨g,5,none⟩) ha t
theorem aiN{x:Dy}(hx:DyP p w va x)(hT:Tab w)(sx:SmD x):
 Calls Tryz.prog 240 #[va] w (RetD w.heap.size w (mkDy x.man x.exp)):=by
 obtain⟨ba,A,n,c,rfl,h⟩:=hx;obtain⟨w2,hw2,hb2,hs2,b1,b2⟩:=pro2 w (.cells #[Value.bool ba,.slice A n c,.int .i64 x.exp] 172) (.cells #[Value.bool false,Value.slice none 0 0,.int .i64 0] 172);have HB:=hdd hb2;have HS:=hdd hs2;have B2:=hdd b2;obtain⟨c0,c1,c2,-,-,-⟩:=cells3 b1;have HMK:=hdd (dN (e:=x.exp) (h.below hb2) (hT.below hb2) (by have:=sx.1;omega) (by have:=sx.2;omega));clear h hb2 b1 b2 hs2 hT sx;go_enter Tryz.func240,Tryz.ntmps240
 go_wp2_with fail
 refine HMK.out.mono ?_;rintro r w3⟨hb,v5,rfl,hz⟩;obtain⟨b6,A6,n6,c6,rfl,-⟩:=id hz;have B23:=hbl B2.out hb;obtain⟨e0,e1,e2,e3,e4,e5⟩:=cells3 B23;obtain⟨HFF,hFF⟩:=aQ (HB.out.trans (hb.mono HB.out.size)) (g:=w.heap.size+1) (by omega) B23 hz (fun b hb=>by have:=HS.out;omega);replace hFF:=hdd hFF;clear hz hb B23 c0 c1 c2;go_wp2;obtain⟨f0,f1,f2,-,-,-⟩:=cells3 hFF.out;refine bodyPost_ret (v:=.agg #[_,_,_]) (by simp[results,Tryz.results240,go_sem,f0,f1,f2];first|exact⟨rfl,rfl,rfl⟩|rfl) rfl ?_;exact HFF.out
end Go.Proofs.YtgodkfgnhpnhcaaGreatDoor
namespace Go.Proofs.YtgodkfgnhpnhcaaGreatDoor
open Bool renaming false_eq_true->azQ,toNat->baE,and_eq_true->baF,or_eq_true->baG
open Classical renaming byContradiction->azV
open Int renaming toNat_natCast->azU,lt_or_le->azX,sign_eq_neg_one_iff_neg->az0,lt_trichotomy->baD
open Nat renaming two_pow_pos->azG,pow_add->azH,le_trans->azJ,mul_le_mul_left->azM,lt_of_lt_of_le->azN,pow_le_pow_right->azP,div_lt_iff_lt_mul->azS,le_of_eq->azT,le_div_iff_mul_le->azY,mul_assoc->azZ,div_add_mod->az3,mul_comm->az4,pow_succ->az5,le_of_lt->az6,mul_le_mul_right->az7,mul_lt_mul_right->az8,eq_zero_or_pos->baB,mul_le_mul->baH,succ_mul->baI,lt_or_ge->baJ,mul_pos->baK,mod_lt->baL
open Rat renaming mul_nonneg->azD,natCast_le_natCast->azE,natCast_mul->azF,intCast_natCast->azI,le_refl->azK,natCast_add->azL,mul_pos->azO,intCast_mul->azR,mul_eq_zero->azW,natCast_pos->az1,intCast_neg->az2,intCast_neg_iff->az9,intCast_nonneg->baA,natCast_nonneg->baC
variable{P a b e x:Int}{m:Nat}{t z:Rat}
def p2(e:Int):Rat:=if 0<=e then((2^e.toNat:Nat):Rat)else 1/((2^(-e).toNat:Nat):Rat)
theorem vC(k:Nat):(0:Rat)<((2^k:Nat):Rat):=az1.2 (azG k)
theorem fP(k:Nat):p2 k=((2^k:Nat):Rat):=by unfold p2;rw[if_pos (by omega)];rfl
theorem p9(e:Int)(k:Nat)(h:0<=e+k):p2 e*((2^k:Nat):Rat)=((2^(e+k).toNat:Nat):Rat):=by
 unfold p2
 split
 . rw[<-azF,<-azH];congr 2;omega
 . have e1:k=(-e).toNat+(e+k).toNat:=by omega
   have h2:=vC (-e).toNat
   conv=>lhs;rw[e1]
   rw[azH,azF];generalize ((2^(-e).toNat:Nat):Rat)=a at*;generalize ((2^(e+k).toNat:Nat):Rat)=b at*;grind
theorem bI(e:Int):0<p2 e:=by
 unfold p2;split
 . exact vC _
 . exact dM (by decide) (vC _)
theorem dC(a b:Int):p2 (a+b)=p2 a*p2 b:=by
 have h1:=p9 a a.natAbs (by omega);have h2:=p9 b b.natAbs (by omega);have h3:=p9 (a+b) (a.natAbs+b.natAbs) (by omega);have e1:(a+b+((a.natAbs+b.natAbs:Nat):Int)).toNat=(a+(a.natAbs:Nat)).toNat+(b+(b.natAbs:Nat)).toNat:=by omega
 rw[e1,azH,azH,azF,azF,<-h1,<-h2]at h3;have k1:=vC a.natAbs;have k2:=vC b.natAbs;generalize ((2^a.natAbs:Nat):Rat)=x at*;generalize ((2^b.natAbs:Nat):Rat)=y at*;have k3:=azO k1 k2;have h4:(p2 (a+b)-p2 a*p2 b)*(x*y)=0:=by grind
 rcases azW.1 h4 with h5|h5<;>grind
theorem nV:p2 0=1:=by decide
theorem amR:p2 1=2:=by decide
theorem iB(e:Int):p2 (e+1)=2*p2 e:=by rw[dC,amR];grind
theorem iC(h:a<=b):p2 a<=p2 b:=by
 have e:b=a+((b-a).toNat:Nat):=by omega
 rw[e,dC,fP];have h1:(1:Rat)<=((2^(b-a).toNat:Nat):Rat):=by
  have:=azE.2 (azG (b-a).toNat);simpa using this
 have:=azD (a:=p2 a) (b:=((2^(b-a).toNat:Nat):Rat)-1) (by have:=bI a;grind) (by grind);grind
theorem al2(h:a<b):p2 a<p2 b:=by
 have h1:=iC (show a+1<=b by omega);rw[iB]at h1;have:=bI a;grind
theorem afG:p2 a<p2 b↔a<b:=by
 constructor
 . intro h
   rcases azX a b with h1|h1
   . exact h1
   . have:=iC h1;grind
 . exact al2
def rv(d:Dy):Rat:=(d.man:Rat)*p2 d.exp
theorem lY(e:Int):rv ⟨0,e⟩=0:=by unfold rv;simp
theorem lF(x e:Int):rv (mkDy x e)=(x:Rat)*p2 e:=by
 rcases iV x e with ⟨h1,h2⟩|⟨h1,h2,h3,h4⟩
 . rw[h1,h2,lY];simp
 . unfold rv
   generalize mkDy x e=d at*;have e1:d.exp=e+((d.exp-e).toNat:Nat):=by omega
   conv=>rhs;rw[h4]
   conv=>lhs;rw[e1]
   rw[dC,fP,azR,azI];grind
def Canon(d:Dy):Prop:=mkDy d.man d.exp=d
theorem Canon.mk (x e:Int):Canon (mkDy x e):=nU x e
theorem yS(a b:Dy):rv (addD a b)=rv a+rv b:=by
 unfold addD
 split
 . rename_i h;rw[lF];unfold rv;rw[h];simp[Rat.zero_add]
 . split
   . rename_i h;rw[lF];unfold rv;rw[h];simp[Rat.add_zero]
   . rw[lF,iP,iQ,Rat.intCast_add,azR,azR,azI,azI,<-fP,<-fP]
     unfold rv;have e1:p2 a.exp=p2 ((a.exp-min a.exp b.exp).toNat:Nat)*p2 (min a.exp b.exp):=by rw[<-dC];congr 1;omega
     have e2:p2 b.exp=p2 ((b.exp-min a.exp b.exp).toNat:Nat)*p2 (min a.exp b.exp):=by rw[<-dC];congr 1;omega
     rw[e1,e2];grind
theorem gM(a b:Dy):rv (mulD a b)=rv a*rv b:=by
 unfold mulD rv;have:=lF (a.man*b.man) (a.exp+b.exp);unfold rv at this;rw[this,azR,dC];grind
theorem nW(a:Dy):rv (notD a)=-rv a:=by
 unfold notD;rw[lF];unfold rv;rw[az2];grind
theorem bG(d:Dy):(0<rv d↔0<d.man)/\(rv d<0↔d.man<0)/\(rv d=0↔d.man=0):=by
 have hp:=bI d.exp;unfold rv;rcases baD d.man 0 with h|h|h
 . have h1:(d.man:Rat)<0:=az9.2 h
   have h2:=azO (a:=-(d.man:Rat)) (b:=p2 d.exp) (by grind) hp;refine⟨⟨fun _=>by grind,fun _=>by omega⟩,⟨fun _=>h,fun _=>by grind⟩,⟨fun _=>by grind,fun _=>by omega⟩⟩
 . rw[h]
   have h0:((0:Int):Rat)=0:=rfl;refine⟨⟨fun _=>by grind,fun _=>by omega⟩,⟨fun _=>by grind,fun _=>by omega⟩,⟨fun _=>rfl,fun _=>by grind⟩⟩
 . have h1:0<(d.man:Rat):=Rat.intCast_pos.2 h
   have h2:=azO (a:=(d.man:Rat)) (b:=p2 d.exp) h1 hp;refine⟨⟨fun _=>h,fun _=>h2⟩,⟨fun _=>by grind,fun _=>by omega⟩,⟨fun _=>by grind,fun _=>by omega⟩⟩
theorem aiO(a b:Dy):(cmpD a b<0↔rv a<rv b)/\(0<cmpD a b↔rv b<rv a):=by
 have e1:rv a=(dQ a b:Rat)*p2 (min a.exp b.exp):=by
  rw[iP,azR,azI,<-fP];have:p2 a.exp=p2 ((a.exp-min a.exp b.exp).toNat:Nat)*p2 (min a.exp b.exp):=by rw[<-dC];congr 1;omega
  unfold rv;rw[this];grind
 have e2:rv b=(dR a b:Rat)*p2 (min a.exp b.exp):=by
  rw[iQ,azR,azI,<-fP];have:p2 b.exp=p2 ((b.exp-min a.exp b.exp).toNat:Nat)*p2 (min a.exp b.exp):=by rw[<-dC];congr 1;omega
  unfold rv;rw[this];grind
 have hp:=bI (min a.exp b.exp);rw[e1,e2];unfold cmpD cmpI;generalize dQ a b=x at*;generalize dR a b=y at*;generalize p2 (min a.exp b.exp)=p at*;have key:∀u v:Int,u<v->(u:Rat)*p<(v:Rat)*p:=fun u v h=>by
  have h1:=Rat.intCast_lt_intCast.2 h;have:=azO (a:=(v:Rat)-u) (b:=p) (by grind) hp;grind
 rcases baD x y with h|h|h
 . have:=key x y h
   rw[if_pos h];exact⟨⟨fun _=>this,fun _=>by decide⟩,⟨fun h=>absurd h (by decide),fun _=>by grind⟩⟩
 . rw[h,if_neg (by omega),if_neg (by omega)]
   exact⟨⟨fun h=>absurd h (by decide),fun _=>by grind⟩,⟨fun h=>absurd h (by decide),fun _=>by grind⟩⟩
 . have:=key y x h
   rw[if_neg (by omega),if_pos h];exact⟨⟨fun h=>absurd h (by decide),fun _=>by grind⟩,⟨fun _=>this,fun _=>by decide⟩⟩
theorem jA(x:Int):((x.natAbs:Nat):Rat)=x/\0<=x\/((x.natAbs:Nat):Rat)=-x/\x<0:=by
 rcases azX x 0 with h|h
 . right;refine⟨?_,h⟩
   rw[<-azI,<-az2];congr 1;omega
 . left;refine⟨?_,h⟩
   rw[<-azI];congr 1;omega
theorem qA(h:m≠0):p2 ((bits m:Int)-1)<=(m:Rat)/\(m:Rat)<p2 (bits m):=by
 have h1:=(aF m (bits m)).1 nlr;have h2:¬bits m<=bits m-1:=by
  have:=(not_congr (cB m)).2 h;omega
 rw[aF]at h2;have e:(bits m:Int)-1=((bits m-1:Nat):Int):=by have:=(not_congr (cB m)).2 h;omega
 rw[e,fP,fP];exact⟨azE.2 (by omega),Rat.natCast_lt_natCast.2 h1⟩
theorem aiP(d:Dy):-p2 (topD d)<rv d/\rv d<p2 (topD d):=by
 unfold topD
 split
 . rename_i h
   have:rv d=0:=(bG d).2.2.2 h;rw[this,nV];constructor<;>decide
 . rename_i h
   have h1:=(qA (m:=d.man.natAbs) (by omega)).2;have hp:=bI d.exp;rw[dC];have h2:=azO (a:=p2 (bits d.man.natAbs)-(d.man.natAbs:Rat)) (b:=p2 d.exp) (by grind) hp;have h3:=azO (bI (bits d.man.natAbs)) hp;unfold rv;rcases jA d.man with ⟨h4,h5⟩|⟨h4,h5⟩
   . have h6:=azD (a:=(d.man:Rat)) (b:=p2 d.exp) (baA.2 h5) (by grind)
     rw[h4]at h2;constructor<;>grind
   . have h6:=azO (a:=-(d.man:Rat)) (b:=p2 d.exp) (by have:=az9.2 h5;grind) hp
     rw[h4]at h2;constructor<;>grind
theorem qX(d:Dy)(h:d.man≠0):p2 (topD d-1)<=rv d\/rv d<=-p2 (topD d-1):=by
 unfold topD;rw[if_neg h,show(bits d.man.natAbs:Int)+d.exp-1=((bits d.man.natAbs:Int)-1)+d.exp from by omega,dC];have h1:=(qA (m:=d.man.natAbs) (by omega)).1;have hp:=bI d.exp;have h2:=azD (a:=(d.man.natAbs:Rat)-p2 ((bits d.man.natAbs:Int)-1)) (b:=p2 d.exp) (by grind) (by grind);unfold rv;rcases jA d.man with ⟨h4,h5⟩|⟨h4,h5⟩<;>rw[h4]at h2
 . left;grind
 . right;grind
def outw(neg:Bool)(dir:Int):Bool:=if 0<=dir then !neg else neg
def aS(a:Dy)(P dir:Int):Dy:=
 if (bits (mkDy a.man a.exp).man.natAbs:Int)<=P then mkDy a.man a.exp else
  mkDy (sg (decide ((mkDy a.man a.exp).man<0)) ((mkDy a.man a.exp).man.natAbs/2^((bits (mkDy a.man a.exp).man.natAbs:Int)-P).toNat+(outw (decide ((mkDy a.man a.exp).man<0)) dir).toNat))
   ((mkDy a.man a.exp).exp+((bits (mkDy a.man a.exp).man.natAbs:Int)-P))
def aY(neg:Bool)(m:Nat)(exp:Int)(more:Bool)(P dir:Int):Dy:=
 aS (mkDy (sg neg (if more then 2*m+1 else m)) (if more then exp-1 else exp)) P dir
def sgq(neg:Bool)(z:Rat):Rat:=if neg then-z else z
theorem yT(neg:Bool)(n:Nat):((sg neg n:Int):Rat)=sgq neg n:=by
 unfold sg sgq;cases neg
 . simp only[azQ,if_false];exact azI n
 . simp only[if_true];rw[az2,azI]
theorem adQ{q:Nat}{p:Rat}(hp:0<p)(h1:(q:Rat)*p<=z)(h2:z<=((q:Rat)+1)*p)(neg:Bool)(dir:Int):
 (dir<0->sgq neg (q+(outw neg dir).toNat:Nat)*p<=sgq neg z)/\(0<=dir->sgq neg z<=sgq neg (q+(outw neg dir).toNat:Nat)*p)/\
 sgq neg (q+(outw neg dir).toNat:Nat)*p-sgq neg z<=p/\sgq neg z-sgq neg (q+(outw neg dir).toNat:Nat)*p<=p:=by
 have e1:((q+1:Nat):Rat)=(q:Rat)+1:=by rw[azL];rfl
 have e2:((q+0:Nat):Rat)=(q:Rat):=rfl;rcases azX dir 0 with h|h
 . cases neg
   . have ho:outw false dir=false:=by unfold outw;rw[if_neg (by omega)]
     rw[ho];unfold sgq;simp only[baE,cond_false,e2,azQ,if_false];refine⟨fun _=>h1,fun h'=>by omega,?_,?_⟩<;>grind
   . have ho:outw true dir=true:=by unfold outw;rw[if_neg (by omega)]
     rw[ho];unfold sgq;simp only[baE,cond_true,e1,if_true];refine⟨fun _=> ?_,fun h'=>by omega,?_,?_⟩<;>grind
 . cases neg
   . have ho:outw false dir=true:=by unfold outw;rw[if_pos h];rfl
     rw[ho];unfold sgq;simp only[baE,cond_true,e1,azQ,if_false];refine⟨fun h'=>by omega,fun _=>h2,?_,?_⟩<;>grind
   . have ho:outw true dir=false:=by unfold outw;rw[if_pos h];rfl
     rw[ho];unfold sgq;simp only[baE,cond_false,e2,if_true];refine⟨fun h'=>by omega,fun _=> ?_,?_,?_⟩<;>grind
theorem yU(hx:x≠0)(e:Int):topD (mkDy x e)=bits x.natAbs+e:=by
 rcases iV x e with ⟨h1,h2⟩|⟨h1,h2,h3,h4⟩
 . exact absurd h2 hx
 . unfold topD
   rw[if_neg h2];generalize mkDy x e=d at*;have:x.natAbs=d.man.natAbs*2^(d.exp-e).toNat:=by
    conv=>lhs;rw[h4]
    rw[Int.natAbs_mul,Int.natAbs_natCast]
   rw[this,kM (by omega)];omega
theorem aaW{P:Nat}(e:Int)(hP:1<=P)(hx:x.natAbs<=2^P):bits (mkDy x e).man.natAbs<=P:=by
 rcases Nat.lt_or_eq_of_le hx with h|h
 . exact azJ (pY x e) ((aF _ _).2 h)
 . unfold mkDy
   have h0:x≠0:=by have:=azG P;omega
   rw[if_neg h0,h];have:ctz (2^P)=P:=by have:=xW P 0;simpa using this
   rw[this,Nat.div_self (azG P),bV];have:bits 1<=P:=(aF 1 P).2 (azN (by decide) (azP (n:=2) (by omega) hP));exact this
theorem oM(m n:Nat):(m/2^n)*2^n<=m/\m<(m/2^n+1)*2^n:=by
 have h1:=az3 m (2^n);have h2:=baL m (azG n);rw[az4]at h1;rw[baI];omega
theorem aiQ{n P:Nat}(h:bits m=n+P):m/2^n<2^P:=by
 rw[azS (azG n),<-azH];refine(aF m _).1 (by omega)
theorem vD{a:Dy}(dir:Int)(hP:1<=P):Canon (aS a P dir)/\(bits (aS a P dir).man.natAbs:Int)<=P/\
 ((aS a P dir).man≠0->(mkDy a.man a.exp).exp<=(aS a P dir).exp/\topD (aS a P dir)<=topD (mkDy a.man a.exp)+1):=by
 unfold aS
 split
 . rename_i h
   exact⟨Canon.mk _ _,h,fun _=>⟨Int.le_refl _,by omega⟩⟩
 . rename_i h
   generalize hd:mkDy a.man a.exp=d at*;have hm0:d.man≠0:=by
    intro h0;rw[h0]at h;apply h;show((bits 0:Nat):Int)<=P;have:bits 0=0:=rfl;omega
   obtain⟨n,hn⟩:∃n:Nat,(bits d.man.natAbs:Int)-P=n:=⟨((bits d.man.natAbs:Int)-P).toNat,by omega⟩;obtain⟨Q,hQ⟩:∃Q:Nat,P=Q:=⟨P.toNat,by omega⟩;subst hQ;rw[hn,azU];have hb:bits d.man.natAbs=n+Q:=by omega
   have hq:=aiQ hb;generalize hx:sg (decide (d.man<0)) (d.man.natAbs/2^n+(outw (decide (d.man<0)) dir).toNat)=x;have hxn:x.natAbs<=2^Q:=by
    rw[<-hx,bV];have:=Bool.toNat_le (outw (decide (d.man<0)) dir);omega
   refine⟨Canon.mk _ _,by have:=aaW (e:=d.exp+(n:Int)) (by omega) hxn;omega,fun hne=> ?_⟩;rcases iV x (d.exp+n)with ⟨h1,h2⟩|⟨h1,h2,h3,h4⟩
   . rw[h1]at hne;exact absurd rfl hne
   . refine⟨by omega,?_⟩
     rw[yU h1];have h5:topD d=bits d.man.natAbs+d.exp:=by unfold topD;rw[if_neg hm0]
     rw[h5,hb];have:bits x.natAbs<=Q+1:=(aF _ _).2 (by rw[az5];have:=azG Q;omega);omega
theorem jV(a:Dy)(dir:Int)(hP:1<=P):(dir<0->rv (aS a P dir)<=rv a)/\(0<=dir->rv a<=rv (aS a P dir))/\
 rv (aS a P dir)-rv a<=p2 (topD (mkDy a.man a.exp)-P)/\rv a-rv (aS a P dir)<=p2 (topD (mkDy a.man a.exp)-P):=by
 have hv:rv (mkDy a.man a.exp)=rv a:=lF _ _;rw[<-hv];unfold aS
 split
 . have:=bI (topD (mkDy a.man a.exp)-P)
   exact⟨fun _=>azK,fun _=>azK,by grind,by grind⟩
 . rename_i h
   generalize mkDy a.man a.exp=d at*;clear hv;have hm0:d.man≠0:=by
    intro h0;rw[h0]at h;apply h;show((bits 0:Nat):Int)<=P;have:bits 0=0:=rfl;omega
   obtain⟨n,hn⟩:∃n:Nat,(bits d.man.natAbs:Int)-P=n:=⟨((bits d.man.natAbs:Int)-P).toNat,by omega⟩;rw[hn,azU,lF,yT];have hb:=oM d.man.natAbs n;have hp:=bI (d.exp+n);have hz:rv d=sgq (decide (d.man<0)) ((d.man.natAbs:Rat)*p2 d.exp):=by
    unfold rv sgq;rcases jA d.man with ⟨h4,h5⟩|⟨h4,h5⟩<;>rw[h4]
    . rw[if_neg (by simp;omega)]
    . rw[if_pos (by simpa using h5)];grind
   have e1:p2 (d.exp+n)=((2^n:Nat):Rat)*p2 d.exp:=by rw[dC,fP];grind
   have c1:=azE.2 hb.1;have c2:=azE.2 (az6 hb.2);rw[azF]at c1 c2;have hpe:=bI d.exp;have k:=adQ (q:=d.man.natAbs/2^n) (p:=p2 (d.exp+n)) (z:=(d.man.natAbs:Rat)*p2 d.exp) hp (by
    rw[e1];have:=azD (a:=(d.man.natAbs:Rat)-((d.man.natAbs/2^n:Nat):Rat)*((2^n:Nat):Rat)) (b:=p2 d.exp) (by grind) (by grind);grind) (by
    rw[e1];rw[azL]at c2;have:=azD (a:=(((d.man.natAbs/2^n:Nat):Rat)+((1:Nat):Rat))*((2^n:Nat):Rat)-(d.man.natAbs:Rat)) (b:=p2 d.exp) (by grind) (by grind);have e2:((1:Nat):Rat)=1:=rfl;grind) (decide (d.man<0)) dir
   rw[<-hz]at k;have e3:topD d-P=d.exp+n:=by unfold topD;rw[if_neg hm0];omega
   rw[e3];exact k
theorem aaX(h:m≠0):bits (2*m+1)=bits m+1:=by
 have h1:=wO (2*m+1) (by omega);rw[h1,show(2*m+1)/2=m from by omega];omega
theorem aaY(neg:Bool)(m:Nat)(e:Int):mkDy (sg neg (2*m+1)) e=⟨sg neg (2*m+1),e⟩:=by
 unfold mkDy;have h0:sg neg (2*m+1)≠0:=by cases neg<;>simp[sg]<;>omega
 have hc:ctz (sg neg (2*m+1)).natAbs=0:=by
  rw[bV];have:=xW 0 m;simpa using this
 have hn:decide (sg neg (2*m+1)<0)=neg:=by
  rw[uH];cases neg<;>simp
 rw[if_neg h0,hc,hn,bV];simp
theorem mZ{neg:Bool}{more:Bool}(dir:Int)(hP:1<=P)(h1:(m:Rat)*p2 e<=z)(h2:z<=((m:Rat)+1)*p2 e)(h3:more=false->z=(m:Rat)*p2 e)(h4:more=true->P+2<=bits m):
 (dir<0->rv (aY neg m e more P dir)<=sgq neg z)/\(0<=dir->sgq neg z<=rv (aY neg m e more P dir))/\
 rv (aY neg m e more P dir)-sgq neg z<=p2 (bits m+e-P)/\sgq neg z-rv (aY neg m e more P dir)<=p2 (bits m+e-P):=by
 unfold aY
 cases more
 . simp only[azQ,if_false]
   have hz:=h3 rfl;have hr:rv (mkDy (sg neg m) e)=sgq neg z:=by rw[lF,yT,hz];unfold sgq;cases neg<;>grind
   have k:=jV (mkDy (sg neg m) e) (P:=P) dir hP;rw[hr,nU]at k;by_cases hm:m=0
   . subst hm
     have e0:mkDy (sg neg 0) e=⟨0,0⟩:=by cases neg<;>exact bD e
     have e1:aS (mkDy (sg neg 0) e) P dir=⟨0,0⟩:=by
      rw[e0];unfold aS;rw[bD,if_pos (by show((bits 0:Nat):Int)<=P;have:bits 0=0:=rfl;omega)]
     rw[e1,lY]at k|-;have hz0:z=0:=by rw[hz];simp
     have:=bI ((bits 0:Int)+e-P);rw[hz0]at k|-;have:sgq neg 0=0:=by unfold sgq;cases neg<;>simp
     rw[this]at k|-;exact⟨k.1,k.2.1,by grind,by grind⟩
   . have ht:topD (mkDy (sg neg m) e)=bits m+e:=by
      rw[yU (by cases neg<;>simp[sg]<;>omega),bV]
     rw[ht]at k;exact k
 . simp only[if_true]
   have hb:=h4 rfl;have hm:m≠0:=by intro h;rw[h]at hb;have:bits 0=0:=rfl;omega
   unfold aS;rw[aaY,aaY,bV,aaX hm];simp only;obtain⟨n,hn⟩:∃n:Nat,((bits m+1:Nat):Int)-P=n:=⟨(((bits m+1:Nat):Int)-P).toNat,by omega⟩;have hng:decide (sg neg (2*m+1)<0)=neg:=by
    rw[uH];cases neg<;>simp
   rw[if_neg (by omega),hn,azU,hng,lF,yT];obtain⟨j,hj⟩:∃j,n=j+1:=⟨n-1,by omega⟩;have hd:=oM (2*m+1) n;rw[hj,az5]at hd;have hd1:((2*m+1)/(2^j*2))*2^j<=m:=by
    have:=hd.1;rw[<-azZ]at this;omega
   have hd2:m+1<=((2*m+1)/(2^j*2)+1)*2^j:=by
    have:=hd.2;rw[<-azZ]at this;omega
   rw[hj,az5];have c1:=azE.2 hd1;have c2:=azE.2 hd2;rw[azF]at c1 c2;rw[azL,azL]at c2;have e5:((1:Nat):Rat)=1:=rfl;rw[e5]at c2;have e1:p2 (e-1+((j+1:Nat):Int))=((2^j:Nat):Rat)*p2 e:=by
    rw[show e-1+((j+1:Nat):Int)=(j:Int)+e from by omega,dC,fP]
   have hpe:=bI e;have k:=adQ (q:=(2*m+1)/(2^j*2)) (p:=p2 (e-1+((j+1:Nat):Int))) (z:=z) (bI _) (by
    rw[e1];have:=azD (a:=(m:Rat)-((((2*m+1)/(2^j*2)):Nat):Rat)*((2^j:Nat):Rat)) (b:=p2 e) (by grind) (by grind);grind) (by
    rw[e1];have:=azD (a:=(((((2*m+1)/(2^j*2)):Nat):Rat)+1)*((2^j:Nat):Rat)-((m:Rat)+1)) (b:=p2 e) (by grind) (by grind);grind) neg dir
   have e3:(bits m:Int)+e-P=e-1+((j+1:Nat):Int):=by omega
   rw[e3];exact k
theorem qB{neg:Bool}{more:Bool}(dir:Int)(hP:1<=P):Canon (aY neg m e more P dir)/\(bits (aY neg m e more P dir).man.natAbs:Int)<=P/\
 ((aY neg m e more P dir).man≠0->e-1<=(aY neg m e more P dir).exp/\topD (aY neg m e more P dir)<=bits m+e+1):=by
 unfold aY;obtain⟨k1,k2,k3⟩:=vD (a:=mkDy (sg neg (if more then 2*m+1 else m)) (if more then e-1 else e)) (P:=P) dir hP;refine⟨k1,k2,fun h=> ?_⟩;obtain⟨j1,j2⟩:=k3 h;rw[nU]at j1 j2;rcases iV (sg neg (if more then 2*m+1 else m)) (if more then e-1 else e)with ⟨h1,h2⟩|⟨h1,h2,h3,h4⟩
 . exfalso;apply h
   rw[h1];unfold aS;rw[bD,if_pos (by show((bits 0:Nat):Int)<=P;have:bits 0=0:=rfl;omega)]
 . have ht:=yU h1 (if more then e-1 else e)
   rw[ht,bV]at j2
   cases more
   . simp only[azQ,if_false]at*
     exact⟨by omega,by omega⟩
   . simp only[if_true]at*
     by_cases hm:m=0
     . subst hm
       have:bits (2*0+1)=1:=by decide
       have:bits 0=0:=rfl;exact⟨by omega,by omega⟩
     . rw[aaX hm]at j2
       exact⟨by omega,by omega⟩
def quoA(a b:Nat)(P:Int):Int:=P+2-bits a+bits b
def quoX(a b:Nat)(P:Int):Nat:=if 0<=quoA a b P then a*2^(quoA a b P).toNat else a/2^(-quoA a b P).toNat
def quoM(a b:Nat)(P:Int):Bool:=(decide (quoA a b P<0)&&decide ((ctz a:Int)< -quoA a b P))||decide (0<bits (quoX a b P%b))
def quoD(x y:Dy)(P dir:Int):Dy:=if x.man=0 then⟨0,0⟩else
 aY (decide (x.man<0) != decide (y.man<0)) (quoX x.man.natAbs y.man.natAbs P/y.man.natAbs) (x.exp-y.exp-quoA x.man.natAbs y.man.natAbs P) (quoM x.man.natAbs y.man.natAbs P) P dir
theorem ak2{A B:Nat}(hB:0<B):((A/B:Nat):Rat)*(B:Rat)<=A/\(A:Rat)<=(((A/B:Nat):Rat)+1)*(B:Rat)/\(A%B=0->(A:Rat)=((A/B:Nat):Rat)*(B:Rat)):=by
 have h1:=az3 A B;have h2:=baL A hB;have e5:((1:Nat):Rat)=1:=rfl;refine⟨?_,?_,fun h=> ?_⟩
 . rw[<-azF];exact azE.2 (by rw[az4]at h1;omega)
 . rw[<-e5,<-azL,<-azF];exact azE.2 (by rw[az4]at h1;rw[baI];omega)
 . rw[<-azF];congr 1;rw[az4]at h1;omega
theorem adR{a k:Nat}(h0:a≠0):k<=ctz a↔a%2^k=0:=by
 obtain⟨j,m,e,hj⟩:=qV a h0;rw[hj];constructor
 . intro h
   obtain⟨d,rfl⟩:∃d,j=k+d:=⟨j-k,by omega⟩;rw[e,azH,azZ];exact Nat.mul_mod_right _ _
 . intro h
   rcases baJ j k with h1|h1
   . exfalso
     obtain⟨d,rfl⟩:∃d,k=j+1+d:=⟨k-j-1,by omega⟩;obtain⟨c,hc⟩:=Nat.dvd_of_mod_eq_zero h;rw[e,azH,az5,azZ,azZ]at hc;have:=Nat.eq_of_mul_eq_mul_left (azG j) hc;omega
   . exact h1
theorem aaZ{a b:Nat}(ha:a≠0)(hb:b≠0)(hP:1<=P):∃A B:Nat,0<B/\quoX a b P/b=A/B/\(quoM a b P=true↔A%B≠0)/\(A:Rat)*(b:Rat)=(a:Rat)*(B:Rat)*p2 (quoA a b P)/\P+2<=bits (A/B)/\(bits (A/B):Int)<=P+3:=by
 have hba:=(not_congr (cB a)).2 ha;have hbb:=(not_congr (cB b)).2 hb;have a1:=(aF a (bits a)).1 nlr;have a2:2^(bits a-1)<=a:=by
  have:¬bits a<=bits a-1:=by omega
  rw[aF]at this;omega
 have b1:=(aF b (bits b)).1 nlr;have b2:2^(bits b-1)<=b:=by
  have:¬bits b<=bits b-1:=by omega
  rw[aF]at this;omega
 obtain⟨Q,hQ⟩:∃Q:Nat,P=Q:=⟨P.toNat,by omega⟩;subst hQ;have hn:quoA a b Q=(Q:Int)+2-bits a+bits b:=rfl;unfold quoX quoM;unfold quoX;rcases azX (quoA a b Q) 0 with h|h
 . obtain⟨k,hk⟩:∃k:Nat,quoA a b Q=-(k:Int):=⟨(-quoA a b Q).toNat,by omega⟩
   rw[if_neg (by omega),hk,show(-(-(k:Int))).toNat=k from by omega];have hpb:0<2^k*b:=baK (azG k) (by omega);refine⟨a,2^k*b,hpb,Nat.div_div_eq_div_mul _ _ _,?_,?_,?_,?_⟩
   . have e1:=Nat.mod_mul (x:=a) (a:=2^k) (b:=b)
     have e2:=adR (k:=k) ha;have e3:=cB (a/2^k%b);have hp:=azG k;rw[e1];simp only[baG,baF,decide_eq_true_eq];constructor
     . rintro(⟨g1,g2⟩|g)
       . have:¬k<=ctz a:=by omega
         rw[e2]at this;omega
       . have g3:a/2^k%b≠0:=fun g3=>by have:=e3.2 g3;omega
         have:=baK hp (show 0<a/2^k%b by omega);omega
     . intro g
       by_cases g1:a%2^k=0
       . right
         rcases baB (bits (a/2^k%b))with g2|g2
         . rw[e3.1 g2,g1]at g;simp at g
         . exact g2
       . left
         have:¬k<=ctz a:=by rw[e2];exact g1
         omega
   . have e1:=p9 (-(k:Int)) k (by omega)
     rw[show(-(k:Int)+(k:Int)).toNat=0 from by omega]at e1;rw[azF];have e4:((2^0:Nat):Rat)=1:=rfl;rw[e4]at e1;have:(a:Rat)*(((2^k:Nat):Rat)*(b:Rat))*p2 (-(k:Int))=(a:Rat)*(b:Rat)*(p2 (-(k:Int))*((2^k:Nat):Rat)):=by grind
     rw[this,e1];grind
   . have:2^(Q+1)<=a/(2^k*b):=by
      rw[azY hpb];refine azJ (azM _ (azM _ (az6 b1))) (azJ (azT ?_) a2);rw[<-azH,<-azH];congr 1;omega
     have h5:¬bits (a/(2^k*b))<=Q+1:=by rw[aF];omega
     omega
   . have:a/(2^k*b)<2^(Q+3):=by
      rw[azS hpb];refine azN a1 (azJ (azT ?_) (azM _ (azM _ b2)));rw[<-azH,<-azH];congr 1;omega
     have h5:=(aF _ _).2 this;omega
 . obtain⟨k,hk⟩:∃k:Nat,quoA a b Q=(k:Int):=⟨(quoA a b Q).toNat,by omega⟩
   rw[if_pos h,hk,azU];refine⟨a*2^k,b,by omega,rfl,?_,?_,?_,?_⟩
   . have e3:=cB (a*2^k%b)
     simp only[baG,baF,decide_eq_true_eq];constructor
     . rintro(⟨g1,g2⟩|g)
       . omega
       . intro g3;have:=e3.2 g3;omega
     . intro g;right
       rcases baB (bits (a*2^k%b))with g2|g2
       . exact absurd (e3.1 g2) g
       . exact g2
   . rw[fP,azF];grind
   . have:2^(Q+1)<=a*2^k/b:=by
      rw[azY (by omega)];refine azJ (azM _ (az6 b1)) (azJ (azT ?_) (az7 _ a2));rw[<-azH,<-azH];congr 1;omega
     have h5:¬bits (a*2^k/b)<=Q+1:=by rw[aF];omega
     omega
   . have:a*2^k/b<2^(Q+3):=by
      rw[azS (by omega)];refine azN ((az8 (azG k)).2 a1) (azJ (azT ?_) (azM _ b2));rw[<-azH,<-azH];congr 1;omega
     have h5:=(aF _ _).2 this;omega
def Err(P:Int)(r t:Rat):Prop:=∀b:Rat,-b<=t->t<=b->r-t<=2*b*p2 (-P)/\t-r<=2*b*p2 (-P)
theorem qY{T:Int}{r:Rat}(h1:r-t<=p2 (T-P))(h2:t-r<=p2 (T-P))(hz:p2 (T-1)<=z)(ht:t=z\/t=-z):Err P r t:=by
 intro b hb1 hb2;have h3:z<=b:=by rcases ht with h|h<;>grind
 have e:p2 (T-P)=2*p2 (T-1)*p2 (-P):=by
  rw[show T-P=(T-1+1)+-P from by omega,dC,iB]
 have hp:=bI (-P);have:=azD (a:=2*(b-p2 (T-1))) (b:=p2 (-P)) (by grind) (by grind);constructor<;>grind
theorem qC:Err P 0 0:=by
 intro b h1 h2;have:=azD (a:=2*b) (b:=p2 (-P)) (by grind) (by have:=bI (-P);grind);constructor<;>grind
theorem nX(a:Dy)(dir:Int)(hP:1<=P):Err P (rv (aS a P dir)) (rv a):=by
 obtain⟨-,-,h1,h2⟩:=jV a dir hP;by_cases h0:a.man=0
 . have e0:rv a=0:=(bG a).2.2.2 h0
   have e1:aS a P dir=⟨0,0⟩:=by
    unfold aS;rw[h0,bD,if_pos (by show((bits 0:Nat):Int)<=P;have:bits 0=0:=rfl;omega)]
   rw[e0,e1,lY];exact qC
 . have hv:rv (mkDy a.man a.exp)=rv a:=lF _ _
   rcases qX (mkDy a.man a.exp) (by rcases iV a.man a.exp with ⟨g1,g2⟩|⟨g1,g2,-⟩<;>first|exact absurd g2 h0|exact g2)with h3|h3<;>rw[hv]at h3
   . exact qY h1 h2 h3 (Or.inl rfl)
   . exact qY h1 h2 (z:=-rv a) (by grind) (Or.inr (by grind))
theorem vE(e:Int)(h:0<=x):0<=(mkDy x e).man:=by
 rcases azX (mkDy x e).man 0 with g|g
 . have h1:=akZ x e
   rw[az0.2 g]at h1;have:=az0.1 h1.symm;omega
 . exact g
theorem yV{a:Dy}(dir:Int)(h:0<=a.man):0<=rv (aS a P dir):=by
 have hm:=vE a.exp h;unfold aS
 split
 . unfold rv
   exact azD (baA.2 hm) (by have:=bI (mkDy a.man a.exp).exp;grind)
 . rw[lF,show decide ((mkDy a.man a.exp).man<0)=false from by simpa using hm]
   refine azD ?_ (by have:=bI ((mkDy a.man a.exp).exp+((bits (mkDy a.man a.exp).man.natAbs:Int)-P));grind);rw[yT];exact baC
theorem aiR(d:Dy):rv d=sgq (decide (d.man<0)) ((d.man.natAbs:Rat)*p2 d.exp):=by
 unfold rv sgq;rcases jA d.man with ⟨h4,h5⟩|⟨h4,h5⟩<;>rw[h4]
 . rw[if_neg (by simp;omega)]
 . rw[if_pos (by simpa using h5)];grind
theorem ak3(b c:Bool)(x y:Rat):sgq (b != c) x*sgq c y=sgq b (x*y):=by cases b<;>cases c<;>simp[sgq]<;>grind
theorem gN(x y:Dy)(dir:Int)(hP:1<=P)(hy:y.man≠0)(ht:t*rv y=rv x):
 (dir<0->rv (quoD x y P dir)<=t)/\(0<=dir->t<=rv (quoD x y P dir))/\Err P (rv (quoD x y P dir)) t:=by
 have hy0:rv y≠0:=fun h=>hy ((bG y).2.2.1 h);unfold quoD;by_cases hx:x.man=0
 . rw[if_pos hx,lY]
   have e0:rv x=0:=(bG x).2.2.2 hx;rw[e0]at ht;have:t=0:=by rcases azW.1 ht with h|h<;>first|exact absurd h hy0|exact h
   rw[this];exact⟨fun _=>azK,fun _=>azK,qC⟩
 . rw[if_neg hx]
   obtain⟨A,B,hB,e1,e2,e3,e4,e5⟩:=aaZ (a:=x.man.natAbs) (b:=y.man.natAbs) (P:=P) (by omega) (by omega) hP;rw[e1];obtain⟨q1,q2,q3⟩:=ak2 (A:=A) hB;have hBr:(0:Rat)<(B:Rat):=az1.2 hB;have hbr:(0:Rat)<(y.man.natAbs:Rat):=az1.2 (by omega);obtain⟨e,he⟩:∃e,e=x.exp-y.exp-quoA x.man.natAbs y.man.natAbs P:=⟨_,rfl⟩;rw[<-he];have hpe:=bI e;generalize hneg:(decide (x.man<0) != decide (y.man<0))=neg at*;generalize quoM x.man.natAbs y.man.natAbs P=more at*
   -- the amount of the quotient
   obtain⟨z,hz⟩:∃z:Rat,z=(A:Rat)/B*p2 e:=⟨_,rfl⟩;have hAB:(A:Rat)/B*B=A:=by grind
   have htz:t=sgq neg z:=by
    have k1:z*((y.man.natAbs:Rat)*p2 y.exp)=(x.man.natAbs:Rat)*p2 x.exp:=by
     rw[hz];have k2:p2 x.exp=p2 (quoA x.man.natAbs y.man.natAbs P)*p2 e*p2 y.exp:=by rw[<-dC,<-dC];congr 1;omega
     rw[k2];generalize p2 (quoA x.man.natAbs y.man.natAbs P)=u at*;generalize p2 e=v at*;generalize p2 y.exp=w at*;have k3:(A:Rat)/B*(y.man.natAbs:Rat)=(x.man.natAbs:Rat)*u:=by
      have:((A:Rat)/B*(y.man.natAbs:Rat)-(x.man.natAbs:Rat)*u)*B=0:=by grind
      rcases azW.1 this with h|h<;>grind
     grind
    have k4:sgq neg z*rv y=rv x:=by
     rw[aiR x,aiR y,<-hneg,ak3,k1]
    have k5:(t-sgq neg z)*rv y=0:=by grind
    rcases azW.1 k5 with h|h
    . grind
    . exact absurd h hy0
   have l1:((A/B:Nat):Rat)*p2 e<=z:=by
    rw[hz];have:((A/B:Nat):Rat)<=(A:Rat)/B:=by
     apply azV;intro hc;have:=azO (a:=((A/B:Nat):Rat)-(A:Rat)/B) (b:=(B:Rat)) (by grind) hBr;grind
    have:=azD (a:=(A:Rat)/B-((A/B:Nat):Rat)) (b:=p2 e) (by grind) (by grind);grind
   have l2:z<=(((A/B:Nat):Rat)+1)*p2 e:=by
    rw[hz];have:(A:Rat)/B<=((A/B:Nat):Rat)+1:=by
     apply azV;intro hc;have:=azO (a:=(A:Rat)/B-(((A/B:Nat):Rat)+1)) (b:=(B:Rat)) (by grind) hBr;grind
    have:=azD (a:=((A/B:Nat):Rat)+1-(A:Rat)/B) (b:=p2 e) (by grind) (by grind);grind
   have l3:more=false->z=((A/B:Nat):Rat)*p2 e:=by
    intro h;have h6:A%B=0:=by
     apply azV;intro hc;have:=e2.2 hc;rw[h]at this;cases this
    have h7:=q3 h6;rw[hz];have:(A:Rat)/B=((A/B:Nat):Rat):=by
     have:((A:Rat)/B-((A/B:Nat):Rat))*B=0:=by grind
     rcases azW.1 this with h|h<;>grind
    rw[this]
   obtain⟨r1,r2,r3,r4⟩:=mZ (neg:=neg) (P:=P) dir hP l1 l2 l3 (fun _=>e4);rw[htz];refine⟨r1,r2,?_⟩;have hbm:=(qA (m:=A/B) (by intro h;rw[h]at e4;have:bits 0=0:=rfl;omega)).1;refine qY r3 r4 (z:=z) ?_ (by unfold sgq;cases neg<;>simp);rw[show(bits (A/B):Int)+e-1=((bits (A/B):Int)-1)+e from by omega,dC];have:=azD (a:=((A/B:Nat):Rat)-p2 ((bits (A/B):Int)-1)) (b:=p2 e) (by grind) (by grind);grind
theorem aa0(x y:Dy)(dir:Int)(hP:1<=P)(hy:y.man≠0):Canon (quoD x y P dir)/\(bits (quoD x y P dir).man.natAbs:Int)<=P/\
 ((quoD x y P dir).man≠0->topD x-topD y-P-4<=(quoD x y P dir).exp/\topD (quoD x y P dir)<=topD x-topD y+2):=by
 unfold quoD;by_cases hx:x.man=0
 . rw[if_pos hx]
   exact⟨bD 0,by show((bits 0:Nat):Int)<=P;have:bits 0=0:=rfl;omega,fun h=>absurd rfl h⟩
 . rw[if_neg hx]
   obtain⟨A,B,hB,e1,e2,e3,e4,e5⟩:=aaZ (a:=x.man.natAbs) (b:=y.man.natAbs) (P:=P) (by omega) (by omega) hP;rw[e1];obtain⟨k1,k2,k3⟩:=qB (neg:=(decide (x.man<0) != decide (y.man<0))) (m:=A/B) (e:=x.exp-y.exp-quoA x.man.natAbs y.man.natAbs P) (more:=quoM x.man.natAbs y.man.natAbs P) (P:=P) dir hP;refine⟨k1,k2,fun h=> ?_⟩;obtain⟨k4,k5⟩:=k3 h;have t1:topD x=bits x.man.natAbs+x.exp:=by unfold topD;rw[if_neg hx]
   have t2:topD y=bits y.man.natAbs+y.exp:=by unfold topD;rw[if_neg hy]
   have t3:quoA x.man.natAbs y.man.natAbs P=P+2-bits x.man.natAbs+bits y.man.natAbs:=rfl;omega
def sqM(x:Dy):Nat:=if x.exp%2=0 then x.man.natAbs else x.man.natAbs*2
def sqE(x:Dy):Int:=if x.exp%2=0 then x.exp else x.exp-1
def sqN(x:Dy)(P:Int):Int:=(2*(P+2)-bits (sqM x))+(2*(P+2)-bits (sqM x))%2
def sqX(x:Dy)(P:Int):Nat:=if 0<=sqN x P then sqM x*2^(sqN x P).toNat else sqM x/2^(-sqN x P).toNat
def sqR(x:Dy)(P:Int):Bool:=(decide (sqN x P<0)&&decide ((ctz (sqM x):Int)< -sqN x P))||decide (0<bits (sqX x P-dA (sqX x P)*dA (sqX x P)))
def aR(x:Dy)(P dir:Int):Dy:=if x.man=0 then⟨0,0⟩else aY false (dA (sqX x P)) ((sqE x-sqN x P)/2) (sqR x P) P dir
theorem adS{x:Dy}(hx:0<x.man)(hP:1<=P):∃(m:Nat) (f:Int),dA (sqX x P)=m/\(sqE x-sqN x P)/2=f/\
 ((m:Rat)*p2 f)*((m:Rat)*p2 f)<=rv x/\rv x<=(((m:Rat)+1)*p2 f)*(((m:Rat)+1)*p2 f)/\(sqR x P=false->rv x=((m:Rat)*p2 f)*((m:Rat)*p2 f))/\
 P+2<=bits m/\(bits m:Int)<=P+3/\topD x-2*P-8<=2*f/\2*f<=topD x-2*P-3:=by
 have hM0:sqM x≠0:=by unfold sqM;split<;>omega
 have hv:rv x=(sqM x:Rat)*p2 (sqE x):=by
  unfold rv sqM sqE;rcases jA x.man with ⟨h4,h5⟩|⟨h4,h5⟩
  . split
    . rw[h4]
    . rw[azF,h4,show p2 x.exp=p2 (x.exp-1+1) from by congr 1;omega,iB]
      have:((2:Nat):Rat)=2:=rfl;grind
  . omega
 have hE:sqE x%2=0:=by unfold sqE;split<;>omega
 have hT:topD x=bits (sqM x)+sqE x:=by
  unfold topD sqM sqE;rw[if_neg (by omega)]
  split
  . rfl
  . have:=kM (n:=x.man.natAbs) (by omega) 1
    rw[Nat.pow_one]at this;omega
 have hN:sqN x P=(2*(P+2)-bits (sqM x))+(2*(P+2)-bits (sqM x))%2:=rfl;have hr:=dZ (sqX x P);unfold sqR;generalize hX:sqX x P=X at*;unfold sqX at hX;generalize sqM x=a at*;generalize sqE x=E at*;generalize hn:sqN x P=n at*;obtain⟨f,hf⟩:∃f,(E-n)/2=f:=⟨_,rfl⟩;have hfE:E=n+2*f:=by omega
 obtain⟨h1,h2⟩:=hr;generalize hm:dA X=m at*;have a1:=(aF a (bits a)).1 nlr;have hba:=(not_congr (cB a)).2 hM0;have a2:2^(bits a-1)<=a:=by
  have:¬bits a<=bits a-1:=by omega
  rw[aF]at this;omega
 obtain⟨Q,hQ⟩:∃Q:Nat,P=Q:=⟨P.toNat,by omega⟩;subst hQ
 -- v = y * p2 (2 f), X <= y < X + 1
 obtain⟨y,hy1,hy2,hy3,hy4,hy5,hy6⟩:∃y:Rat,rv x=y*p2 (2*f)/\(X:Rat)<=y/\y<=(X:Rat)+1/\((decide (n<0)&&decide ((ctz a:Int)< -n))=false->y=X)/\2^(2*Q+2)<=X/\X<2^(2*Q+6):=by
  rcases azX n 0 with h|h
  . obtain⟨k,hk⟩:∃k:Nat,n=-(k:Int):=⟨(-n).toNat,by omega⟩
    rw[if_neg (by omega),hk,show(-(-(k:Int))).toNat=k from by omega]at hX;have e1:=p9 (-(k:Int)) k (by omega);rw[show(-(k:Int)+(k:Int)).toNat=0 from by omega]at e1;have e4:((2^0:Nat):Rat)=1:=rfl;rw[e4]at e1;obtain⟨d1,d2⟩:=oM a k;rw[hX]at d1 d2;have c1:=azE.2 d1;have c2:=azE.2 (az6 d2);rw[azF]at c1 c2;rw[azL]at c2;have e5:((1:Nat):Rat)=1:=rfl;rw[e5]at c2;have hpk:=bI (-(k:Int));refine⟨(a:Rat)*p2 (-(k:Int)),?_,?_,?_,?_,?_,?_⟩
    . rw[hv,hfE,hk,dC];grind
    . have:=azD (a:=(a:Rat)-(X:Rat)*((2^k:Nat):Rat)) (b:=p2 (-(k:Int))) (by grind) (by grind)
      have:(X:Rat)*((2^k:Nat):Rat)*p2 (-(k:Int))=X:=by
       have:(X:Rat)*((2^k:Nat):Rat)*p2 (-(k:Int))=X*(p2 (-(k:Int))*((2^k:Nat):Rat)):=by grind
       rw[this,e1];grind
      grind
    . have:=azD (a:=((X:Rat)+1)*((2^k:Nat):Rat)-(a:Rat)) (b:=p2 (-(k:Int))) (by grind) (by grind)
      have:((X:Rat)+1)*((2^k:Nat):Rat)*p2 (-(k:Int))=X+1:=by
       have:((X:Rat)+1)*((2^k:Nat):Rat)*p2 (-(k:Int))=(X+1)*(p2 (-(k:Int))*((2^k:Nat):Rat)):=by grind
       rw[this,e1];grind
      grind
    . intro hh
      rw[hk]at hh;have hc:k<=ctz a:=by
       simp only[Bool.and_eq_false_iff,decide_eq_false_iff_not]at hh;omega
      have h7:=(adR hM0).1 hc;have h8:=az3 a (2^k);rw[h7,hX,Nat.add_zero]at h8;rw[<-h8,azF];have:((2^k:Nat):Rat)*(X:Rat)*p2 (-(k:Int))=X*(p2 (-(k:Int))*((2^k:Nat):Rat)):=by grind
      rw[this,e1];grind
    . rw[<-hX,azY (azG k)]
      refine azJ (azT ?_) (azJ (azP (by omega) (show 2*Q+2+k<=bits a-1 by omega)) a2);rw[<-azH]
    . rw[<-hX,azS (azG k)]
      refine azN a1 (azJ (azP (by omega) (show bits a<=2*Q+6+k by omega)) (azT ?_));rw[<-azH]
  . obtain⟨k,hk⟩:∃k:Nat,n=(k:Int):=⟨n.toNat,by omega⟩
    rw[if_pos h,hk,azU]at hX;refine⟨(X:Rat),?_,azK,by grind,fun _=>rfl,?_,?_⟩
    . rw[hv,hfE,hk,dC,fP,<-hX,azF];grind
    . rw[<-hX]
      refine azJ (azJ (azP (by omega) (show 2*Q+2<=bits a-1+k by omega)) (azT (azH 2 (bits a-1) k))) (az7 _ a2)
    . rw[<-hX]
      refine azN ((az8 (azG k)).2 a1) (azJ (azT (azH 2 (bits a) k).symm) (azP (by omega) (by omega)))
 have c1:=azE.2 h1;have c2:=azE.2 (show X+1<=(m+1)*(m+1) from h2);rw[azF]at c1 c2;rw[azL,azL]at c2;have e5:((1:Nat):Rat)=1:=rfl;rw[e5]at c2;have e6:p2 (2*f)=p2 f*p2 f:=by rw[<-dC];congr 1;omega
 rw[e6]at hy1;have hpf:=bI f;have hpp:=azO hpf hpf;refine⟨m,f,rfl,hf,?_,?_,?_,?_,?_,?_,?_⟩
 . rw[hy1]
   have:=azD (a:=y-(m:Rat)*m) (b:=p2 f*p2 f) (by grind) (by grind);grind
 . rw[hy1]
   have:=azD (a:=((m:Rat)+1)*((m:Rat)+1)-y) (b:=p2 f*p2 f) (by grind) (by grind);grind
 . intro hh
   simp only[Bool.or_eq_false_iff]at hh;have h8:=hy4 hh.1;have h9:X=m*m:=by
    have:=hh.2;simp only[decide_eq_false_iff_not]at this;have:=(cB (X-m*m)).1 (by omega);omega
   rw[hy1,h8,h9,azF];grind
 . have h8:¬bits m<=Q+1:=by
    rw[aF];intro h9;have h10:(m+1)*(m+1)<=2^(Q+1)*2^(Q+1):=baH h9 h9;rw[<-azH]at h10;have h11:X<2^(Q+1+(Q+1)):=azN h2 h10;rw[show Q+1+(Q+1)=2*Q+2 from by omega]at h11;omega
   omega
 . have h8:bits m<=Q+3:=by
    rw[aF];rcases baJ m (2^(Q+3))with h9|h9
    . exact h9
    . exfalso
      have h10:2^(Q+3)*2^(Q+3)<=m*m:=baH h9 h9;rw[<-azH,show Q+3+(Q+3)=2*Q+6 from by omega]at h10;omega
   omega
 . omega
 . omega
theorem qD(x:Dy)(dir:Int)(hP:1<=P)(hx:0<=x.man):∃q q':Rat,0<=q/\q<=q'/\q*q<=rv x/\rv x<=q'*q'/\
 0<=rv (aR x P dir)/\(dir<0->rv (aR x P dir)<=q)/\(0<=dir->q'<=rv (aR x P dir))/\q'-q<=q*p2 (-P)/\Err P (rv (aR x P dir)) q/\Err P (rv (aR x P dir)) q':=by
 unfold aR;by_cases h0:x.man=0
 . rw[if_pos h0,lY]
   have e0:rv x=0:=(bG x).2.2.2 h0;rw[e0];exact⟨0,0,azK,azK,by grind,by grind,azK,fun _=>azK,fun _=>azK,by grind,qC,qC⟩
 . rw[if_neg h0]
   obtain⟨m,f,e1,e2,h1,h2,h3,h4,h5,-,-⟩:=adS (x:=x) (P:=P) (by omega) hP;rw[e1,e2];have hpf:=bI f;have hm0:(0:Rat)<=(m:Rat):=baC;have hq0:=azD hm0 (show 0<=p2 f by grind);have hbm:=(qA (m:=m) (by intro h;rw[h]at h4;have:bits 0=0:=rfl;omega)).1;have hnn:0<=rv (aY false m f (sqR x P) P dir):=by
    unfold aY;refine yV dir ?_;exact vE _ (by show(0:Int)<=((_:Nat):Int);omega)
   have hE:p2 ((bits m:Int)+f-1)<=(m:Rat)*p2 f:=by
    rw[show(bits m:Int)+f-1=((bits m:Int)-1)+f from by omega,dC];have:=azD (a:=(m:Rat)-p2 ((bits m:Int)-1)) (b:=p2 f) (by grind) (by grind);grind
   have b1:=mZ (neg:=false) (more:=sqR x P) (P:=P) (z:=(m:Rat)*p2 f) (m:=m) (e:=f) dir hP azK (by grind) (fun _=>rfl) (fun _=>h4);have sf:∀z,sgq false z=z:=fun z=>by unfold sgq;simp
   rw[sf]at b1
   cases hr:sqR x P
   . rw[hr]at b1 hnn
     have h6:=h3 hr;have hz0:0<=(m:Rat)*p2 f*p2 (-P):=azD hq0 (by have:=bI (-P);grind);have er:=qY b1.2.2.1 b1.2.2.2 hE (Or.inl rfl);exact⟨(m:Rat)*p2 f,(m:Rat)*p2 f,hq0,azK,h1,by rw[h6];exact azK,hnn,b1.1,b1.2.1,by grind,er,er⟩
   . rw[hr]at b1 hnn
     have b2:=mZ (neg:=false) (more:=true) (P:=P) (z:=((m:Rat)+1)*p2 f) (m:=m) (e:=f) dir hP (by grind) azK (fun h=>by cases h) (fun _=>h4);rw[sf]at b2;refine⟨(m:Rat)*p2 f,((m:Rat)+1)*p2 f,hq0,by grind,h1,h2,hnn,b1.1,b2.2.1,?_,qY b1.2.2.1 b1.2.2.2 hE (Or.inl rfl),qY b2.2.2.1 b2.2.2.2 (z:=((m:Rat)+1)*p2 f) (by grind) (Or.inl rfl)⟩
     -- p2 f <= m * p2 f * p2 (-P)
     have h7:p2 P<=(m:Rat):=by
      have:=iC (show P<=(bits m:Int)-1 by omega);grind
     have h8:p2 P*p2 (-P)=1:=by rw[<-dC,show P+-P=0 from by omega,nV]
     have h9:=azD (a:=(m:Rat)-p2 P) (b:=p2 f*p2 (-P)) (by grind) (by have:=azO hpf (bI (-P));grind);have h10:p2 P*(p2 f*p2 (-P))=p2 f:=by
      have:p2 P*(p2 f*p2 (-P))=p2 P*p2 (-P)*p2 f:=by grind
      rw[this,h8];grind
     have h11:((m:Rat)-p2 P)*(p2 f*p2 (-P))=(m:Rat)*p2 f*p2 (-P)-p2 P*(p2 f*p2 (-P)):=by grind
     rw[h11,h10]at h9;have h12:((m:Rat)+1)*p2 f=(m:Rat)*p2 f+p2 f:=by grind
     rw[h12];generalize (m:Rat)*p2 f*p2 (-P)=u at*;generalize (m:Rat)*p2 f=v at*;grind
theorem afH(x:Dy)(dir:Int)(hP:1<=P)(hx:0<=x.man):Canon (aR x P dir)/\(bits (aR x P dir).man.natAbs:Int)<=P/\
 ((aR x P dir).man≠0->topD x-2*P-10<=2*(aR x P dir).exp/\2*topD (aR x P dir)<=topD x+5):=by
 unfold aR;by_cases h0:x.man=0
 . rw[if_pos h0]
   exact⟨bD 0,by show((bits 0:Nat):Int)<=P;have:bits 0=0:=rfl;omega,fun h=>absurd rfl h⟩
 . rw[if_neg h0]
   obtain⟨m,f,e1,e2,-,-,-,h4,h5,h6,h7⟩:=adS (x:=x) (P:=P) (by omega) hP;rw[e1,e2];obtain⟨k1,k2,k3⟩:=qB (neg:=false) (m:=m) (e:=f) (more:=sqR x P) (P:=P) dir hP;refine⟨k1,k2,fun h=> ?_⟩;obtain⟨k4,k5⟩:=k3 h;omega
end Go.Proofs.YtgodkfgnhpnhcaaGreatDoor
