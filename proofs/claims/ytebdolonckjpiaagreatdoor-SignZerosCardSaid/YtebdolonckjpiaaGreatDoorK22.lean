/- A part of the proof: contracts of functions and plain laws (BalA, DyR, DyS, DyT, DyU). -/
import Derived.Test.YtebdolonckjpiaaGreatDoorK21
import Derived.Test.YtebdolonckjpiaaGreatDoorK09
set_option linter.unusedVariables false
set_option linter.unusedSimpArgs false
set_option maxHeartbeats 25600000
set_option maxRecDepth 100000
namespace Go.Proofs.YtebdolonckjpiaaGreatDoor
open Go.RowKit
open Go.RowKit.Below renaming heap_setCell->bbT
variable{g:Nat}{p:Nat->Prop}{T:TypeId}{a b c d e f va:Value}{w:World}
theorem aI(h:w.heap[g]? =some (.cells #[a,b,c,d,e,f] T (0,0))):
 w.cell? ⟨g,0,none⟩=some a/\w.cell? ⟨g,1,none⟩=some b/\w.cell? ⟨g,2,none⟩=some c/\w.cell? ⟨g,3,none⟩=some d/\w.cell? ⟨g,4,none⟩=some e/\w.cell? ⟨g,5,none⟩=some f:=by
 refine⟨?_,?_,?_,?_,?_,?_⟩<;>simp[World.cell?,h]
theorem gN(h:w.heap[g]? =some (.cells #[a,b,c,d,e,f] T (0,0))):
 w.frozen? ⟨g,0,none⟩=false/\w.frozen? ⟨g,1,none⟩=false/\w.frozen? ⟨g,2,none⟩=false/\w.frozen? ⟨g,3,none⟩=false/\w.frozen? ⟨g,4,none⟩=false/\w.frozen? ⟨g,5,none⟩=false:=by
 refine⟨?_,?_,?_,?_,?_,?_⟩<;>simp[World.frozen?,h]
def put6(w:World)(g:Nat)(a b c d e f:Value):World:=
 (((((w.setCell ⟨g,0,none⟩ a).setCell ⟨g,1,none⟩ b).setCell ⟨g,2,none⟩ c).setCell ⟨g,3,none⟩ d).setCell ⟨g,4,none⟩ e).setCell ⟨g,5,none⟩ f
theorem iN(h:w.heap[g]? =some (.cells #[a,b,c,d,e,f] T (0,0)))(u v x y z t:Value):
 (put6 w g u v x y z t).heap[g]? =some (.cells #[u,v,x,y,z,t] T (0,0)):=by
 have hg:g<w.heap.size:=(Array.getElem?_eq_some_iff.1 h).1;have h':w.heap[g]=.cells #[a,b,c,d,e,f] T (0,0):=(Array.getElem?_eq_some_iff.1 h).2;simp[put6,World.setCell,hg,Array.getElem_modify,h']
theorem fI{B:Nat}{w0:World}(hb:Below B w0 w)(hg:B<=g)(u v x y z t:Value):Below B w0 (put6 w g u v x y z t):=
 (((((hb.setCell hg _).setCell hg _).setCell hg _).setCell hg _).setCell hg _).setCell hg _
theorem uW{i:Nat}(h:g≠i)(u v x y z t:Value):(put6 w g u v x y z t).heap[i]? =w.heap[i]? :=by
 unfold put6;rw[bbT _ _ _ _ (by simp;omega),bbT _ _ _ _ (by simp;omega),bbT _ _ _ _ (by simp;omega),bbT _ _ _ _ (by simp;omega),bbT _ _ _ _ (by simp;omega),bbT _ _ _ _ (by simp;omega)]
theorem iX{z0:Int}(h:IntP p w va z0)(ha:∀b,p b->b≠g)(u v x y z t:Value):IntP p (put6 w g u v x y z t) va z0:=
 (((((h.setCell (a:=⟨g,0,none⟩) ha u).setCell (a:=⟨g,1,none⟩) ha v).setCell (a:=⟨g,2,none⟩) ha x).setCell (a:=⟨g,3,none⟩) ha y).setCell (a:=⟨g,4,none⟩) ha z).setCell (a:=⟨g,5,none⟩) ha t
theorem aiZ{x:Dy}(hx:DyP p w va x)(hT:Tab w)(sx:SmD x):
 Calls Tryz.prog 315 #[va] w (RetD w.heap.size w (mkDy x.man x.exp)):=by
 obtain⟨ba,A,n,c,rfl,h⟩:=hx;obtain⟨w2,hw2,hb2,hs2,b1,b2⟩:=pro2 w (.cells #[Value.bool ba,.slice A n c,.int .i64 x.exp] 161) (.cells #[Value.bool false,Value.slice none 0 0,.int .i64 0] 161);have HB:=hdd hb2;have HS:=hdd hs2;have B2:=hdd b2;obtain⟨c0,c1,c2,-,-,-⟩:=cells3 b1;have HMK:=hdd (dJ (e:=x.exp) (h.below hb2) (hT.below hb2) (by have:=sx.1;omega) (by have:=sx.2;omega));clear h hb2 b1 b2 hs2 hT sx;go_enter Tryz.func315,Tryz.ntmps315
 go_wp2_with fail
 refine HMK.out.mono ?_;rintro r w3⟨hb,v5,rfl,hz⟩;obtain⟨b6,A6,n6,c6,rfl,-⟩:=id hz;have B23:=hbl B2.out hb;obtain⟨e0,e1,e2,e3,e4,e5⟩:=cells3 B23;obtain⟨HFF,hFF⟩:=aN (HB.out.trans (hb.mono HB.out.size)) (g:=w.heap.size+1) (by omega) B23 hz (fun b hb=>by have:=HS.out;omega);replace hFF:=hdd hFF;clear hz hb B23 c0 c1 c2;go_wp2;obtain⟨f0,f1,f2,-,-,-⟩:=cells3 hFF.out;refine bodyPost_ret (v:=.agg #[_,_,_]) (by simp[results,Tryz.results315,go_sem,f0,f1,f2];first|exact⟨rfl,rfl,rfl⟩|rfl) rfl ?_;exact HFF.out
end Go.Proofs.YtebdolonckjpiaaGreatDoor
namespace Go.Proofs.YtebdolonckjpiaaGreatDoor
open Bool renaming false_eq_true->bcB,toNat->bcZ,and_eq_true->bc4,or_eq_true->bc5
open Classical renaming byContradiction->bcG
open Int renaming toNat_natCast->bcF,lt_or_le->bcI,sign_eq_neg_one_iff_neg->bcL,lt_trichotomy->bcY
open Nat renaming two_pow_pos->bbX,pow_add->bbY,le_trans->bb4,mul_le_mul_left->bb7,lt_of_lt_of_le->bb8,pow_le_pow_right->bcA,div_lt_iff_lt_mul->bcD,le_of_eq->bcE,le_div_iff_mul_le->bcJ,mul_assoc->bcK,div_add_mod->bcO,mul_comm->bcP,pow_succ->bcQ,le_of_lt->bcR,mul_le_mul_right->bcS,mul_lt_mul_right->bcT,eq_zero_or_pos->bcW,mul_le_mul->bc6,succ_mul->bc7,lt_or_ge->bc8,mul_pos->bc9,mod_lt->bdA
open Rat renaming mul_nonneg->bbU,natCast_le_natCast->bbV,natCast_mul->bbW,intCast_natCast->bbZ,le_refl->bb5,natCast_add->bb6,mul_pos->bb9,intCast_mul->bcC,mul_eq_zero->bcH,natCast_pos->bcM,intCast_neg->bcN,intCast_neg_iff->bcU,intCast_nonneg->bcV,natCast_nonneg->bcX
variable{P a b e x:Int}{m:Nat}{t z:Rat}
def p2(e:Int):Rat:=if 0<=e then((2^e.toNat:Nat):Rat)else 1/((2^(-e).toNat:Nat):Rat)
theorem uX(k:Nat):(0:Rat)<((2^k:Nat):Rat):=bcM.2 (bbX k)
theorem fC(k:Nat):p2 k=((2^k:Nat):Rat):=by unfold p2;rw[if_pos (by omega)];rfl
theorem pG(e:Int)(k:Nat)(h:0<=e+k):p2 e*((2^k:Nat):Rat)=((2^(e+k).toNat:Nat):Rat):=by
 unfold p2
 split
 . rw[<-bbW,<-bbY];congr 2;omega
 . have e1:k=(-e).toNat+(e+k).toNat:=by omega
   have h2:=uX (-e).toNat
   conv=>lhs;rw[e1]
   rw[bbY,bbW];generalize ((2^(-e).toNat:Nat):Rat)=a at*;generalize ((2^(e+k).toNat:Nat):Rat)=b at*;grind
theorem bU(e:Int):0<p2 e:=by
 unfold p2;split
 . exact uX _
 . exact dI (by decide) (uX _)
theorem dD(a b:Int):p2 (a+b)=p2 a*p2 b:=by
 have h1:=pG a a.natAbs (by omega);have h2:=pG b b.natAbs (by omega);have h3:=pG (a+b) (a.natAbs+b.natAbs) (by omega);have e1:(a+b+((a.natAbs+b.natAbs:Nat):Int)).toNat=(a+(a.natAbs:Nat)).toNat+(b+(b.natAbs:Nat)).toNat:=by omega
 rw[e1,bbY,bbY,bbW,bbW,<-h1,<-h2]at h3;have k1:=uX a.natAbs;have k2:=uX b.natAbs;generalize ((2^a.natAbs:Nat):Rat)=x at*;generalize ((2^b.natAbs:Nat):Rat)=y at*;have k3:=bb9 k1 k2;have h4:(p2 (a+b)-p2 a*p2 b)*(x*y)=0:=by grind
 rcases bcH.1 h4 with h5|h5<;>grind
theorem lI:p2 0=1:=by decide
theorem amL:p2 1=2:=by decide
theorem iT(e:Int):p2 (e+1)=2*p2 e:=by rw[dD,amL];grind
theorem jZ(h:a<=b):p2 a<=p2 b:=by
 have e:b=a+((b-a).toNat:Nat):=by omega
 rw[e,dD,fC];have h1:(1:Rat)<=((2^(b-a).toNat:Nat):Rat):=by
  have:=bbV.2 (bbX (b-a).toNat);simpa using this
 have:=bbU (a:=p2 a) (b:=((2^(b-a).toNat:Nat):Rat)-1) (by have:=bU a;grind) (by grind);grind
theorem alM(h:a<b):p2 a<p2 b:=by
 have h1:=jZ (show a+1<=b by omega);rw[iT]at h1;have:=bU a;grind
theorem ae9:p2 a<p2 b↔a<b:=by
 constructor
 . intro h
   rcases bcI a b with h1|h1
   . exact h1
   . have:=jZ h1;grind
 . exact alM
def rv(d:Dy):Rat:=(d.man:Rat)*p2 d.exp
theorem lJ(e:Int):rv ⟨0,e⟩=0:=by unfold rv;simp
theorem kC(x e:Int):rv (mkDy x e)=(x:Rat)*p2 e:=by
 rcases iR x e with ⟨h1,h2⟩|⟨h1,h2,h3,h4⟩
 . rw[h1,h2,lJ];simp
 . unfold rv
   generalize mkDy x e=d at*;have e1:d.exp=e+((d.exp-e).toNat:Nat):=by omega
   conv=>rhs;rw[h4]
   conv=>lhs;rw[e1]
   rw[dD,fC,bcC,bbZ];grind
def Canon(d:Dy):Prop:=mkDy d.man d.exp=d
theorem Canon.mk (x e:Int):Canon (mkDy x e):=nD x e
theorem yH(a b:Dy):rv (addD a b)=rv a+rv b:=by
 unfold addD
 split
 . rename_i h;rw[kC];unfold rv;rw[h];simp[Rat.zero_add]
 . split
   . rename_i h;rw[kC];unfold rv;rw[h];simp[Rat.add_zero]
   . rw[kC,iL,iM,Rat.intCast_add,bcC,bcC,bbZ,bbZ,<-fC,<-fC]
     unfold rv;have e1:p2 a.exp=p2 ((a.exp-min a.exp b.exp).toNat:Nat)*p2 (min a.exp b.exp):=by rw[<-dD];congr 1;omega
     have e2:p2 b.exp=p2 ((b.exp-min a.exp b.exp).toNat:Nat)*p2 (min a.exp b.exp):=by rw[<-dD];congr 1;omega
     rw[e1,e2];grind
theorem gJ(a b:Dy):rv (mulD a b)=rv a*rv b:=by
 unfold mulD rv;have:=kC (a.man*b.man) (a.exp+b.exp);unfold rv at this;rw[this,bcC,dD];grind
theorem nG(a:Dy):rv (notD a)=-rv a:=by
 unfold notD;rw[kC];unfold rv;rw[bcN];grind
theorem bC(d:Dy):(0<rv d↔0<d.man)/\(rv d<0↔d.man<0)/\(rv d=0↔d.man=0):=by
 have hp:=bU d.exp;unfold rv;rcases bcY d.man 0 with h|h|h
 . have h1:(d.man:Rat)<0:=bcU.2 h
   have h2:=bb9 (a:=-(d.man:Rat)) (b:=p2 d.exp) (by grind) hp;refine⟨⟨fun _=>by grind,fun _=>by omega⟩,⟨fun _=>h,fun _=>by grind⟩,⟨fun _=>by grind,fun _=>by omega⟩⟩
 . rw[h]
   have h0:((0:Int):Rat)=0:=rfl;refine⟨⟨fun _=>by grind,fun _=>by omega⟩,⟨fun _=>by grind,fun _=>by omega⟩,⟨fun _=>rfl,fun _=>by grind⟩⟩
 . have h1:0<(d.man:Rat):=Rat.intCast_pos.2 h
   have h2:=bb9 (a:=(d.man:Rat)) (b:=p2 d.exp) h1 hp;refine⟨⟨fun _=>h,fun _=>h2⟩,⟨fun _=>by grind,fun _=>by omega⟩,⟨fun _=>by grind,fun _=>by omega⟩⟩
theorem ai0(a b:Dy):(cmpD a b<0↔rv a<rv b)/\(0<cmpD a b↔rv b<rv a):=by
 have e1:rv a=(dO a b:Rat)*p2 (min a.exp b.exp):=by
  rw[iL,bcC,bbZ,<-fC];have:p2 a.exp=p2 ((a.exp-min a.exp b.exp).toNat:Nat)*p2 (min a.exp b.exp):=by rw[<-dD];congr 1;omega
  unfold rv;rw[this];grind
 have e2:rv b=(dP a b:Rat)*p2 (min a.exp b.exp):=by
  rw[iM,bcC,bbZ,<-fC];have:p2 b.exp=p2 ((b.exp-min a.exp b.exp).toNat:Nat)*p2 (min a.exp b.exp):=by rw[<-dD];congr 1;omega
  unfold rv;rw[this];grind
 have hp:=bU (min a.exp b.exp);rw[e1,e2];unfold cmpD cmpI;generalize dO a b=x at*;generalize dP a b=y at*;generalize p2 (min a.exp b.exp)=p at*;have key:∀u v:Int,u<v->(u:Rat)*p<(v:Rat)*p:=fun u v h=>by
  have h1:=Rat.intCast_lt_intCast.2 h;have:=bb9 (a:=(v:Rat)-u) (b:=p) (by grind) hp;grind
 rcases bcY x y with h|h|h
 . have:=key x y h
   rw[if_pos h];exact⟨⟨fun _=>this,fun _=>by decide⟩,⟨fun h=>absurd h (by decide),fun _=>by grind⟩⟩
 . rw[h,if_neg (by omega),if_neg (by omega)]
   exact⟨⟨fun h=>absurd h (by decide),fun _=>by grind⟩,⟨fun h=>absurd h (by decide),fun _=>by grind⟩⟩
 . have:=key y x h
   rw[if_neg (by omega),if_pos h];exact⟨⟨fun h=>absurd h (by decide),fun _=>by grind⟩,⟨fun _=>this,fun _=>by decide⟩⟩
theorem iY(x:Int):((x.natAbs:Nat):Rat)=x/\0<=x\/((x.natAbs:Nat):Rat)=-x/\x<0:=by
 rcases bcI x 0 with h|h
 . right;refine⟨?_,h⟩
   rw[<-bbZ,<-bcN];congr 1;omega
 . left;refine⟨?_,h⟩
   rw[<-bbZ];congr 1;omega
theorem pI(h:m≠0):p2 ((bits m:Int)-1)<=(m:Rat)/\(m:Rat)<p2 (bits m):=by
 have h1:=(aG m (bits m)).1 nlr;have h2:¬bits m<=bits m-1:=by
  have:=(not_congr (bT m)).2 h;omega
 rw[aG]at h2;have e:(bits m:Int)-1=((bits m-1:Nat):Int):=by have:=(not_congr (bT m)).2 h;omega
 rw[e,fC,fC];exact⟨bbV.2 (by omega),Rat.natCast_lt_natCast.2 h1⟩
theorem ai1(d:Dy):-p2 (topD d)<rv d/\rv d<p2 (topD d):=by
 unfold topD
 split
 . rename_i h
   have:rv d=0:=(bC d).2.2.2 h;rw[this,lI];constructor<;>decide
 . rename_i h
   have h1:=(pI (m:=d.man.natAbs) (by omega)).2;have hp:=bU d.exp;rw[dD];have h2:=bb9 (a:=p2 (bits d.man.natAbs)-(d.man.natAbs:Rat)) (b:=p2 d.exp) (by grind) hp;have h3:=bb9 (bU (bits d.man.natAbs)) hp;unfold rv;rcases iY d.man with ⟨h4,h5⟩|⟨h4,h5⟩
   . have h6:=bbU (a:=(d.man:Rat)) (b:=p2 d.exp) (bcV.2 h5) (by grind)
     rw[h4]at h2;constructor<;>grind
   . have h6:=bb9 (a:=-(d.man:Rat)) (b:=p2 d.exp) (by have:=bcU.2 h5;grind) hp
     rw[h4]at h2;constructor<;>grind
theorem qI(d:Dy)(h:d.man≠0):p2 (topD d-1)<=rv d\/rv d<=-p2 (topD d-1):=by
 unfold topD;rw[if_neg h,show(bits d.man.natAbs:Int)+d.exp-1=((bits d.man.natAbs:Int)-1)+d.exp from by omega,dD];have h1:=(pI (m:=d.man.natAbs) (by omega)).1;have hp:=bU d.exp;have h2:=bbU (a:=(d.man.natAbs:Rat)-p2 ((bits d.man.natAbs:Int)-1)) (b:=p2 d.exp) (by grind) (by grind);unfold rv;rcases iY d.man with ⟨h4,h5⟩|⟨h4,h5⟩<;>rw[h4]at h2
 . left;grind
 . right;grind
def outw(neg:Bool)(dir:Int):Bool:=if 0<=dir then !neg else neg
def aP(a:Dy)(P dir:Int):Dy:=
 if (bits (mkDy a.man a.exp).man.natAbs:Int)<=P then mkDy a.man a.exp else
  mkDy (sg (decide ((mkDy a.man a.exp).man<0)) ((mkDy a.man a.exp).man.natAbs/2^((bits (mkDy a.man a.exp).man.natAbs:Int)-P).toNat+(outw (decide ((mkDy a.man a.exp).man<0)) dir).toNat))
   ((mkDy a.man a.exp).exp+((bits (mkDy a.man a.exp).man.natAbs:Int)-P))
def aS(neg:Bool)(m:Nat)(exp:Int)(more:Bool)(P dir:Int):Dy:=
 aP (mkDy (sg neg (if more then 2*m+1 else m)) (if more then exp-1 else exp)) P dir
def sgq(neg:Bool)(z:Rat):Rat:=if neg then-z else z
theorem yI(neg:Bool)(n:Nat):((sg neg n:Int):Rat)=sgq neg n:=by
 unfold sg sgq;cases neg
 . simp only[bcB,if_false];exact bbZ n
 . simp only[if_true];rw[bcN,bbZ]
theorem adN{q:Nat}{p:Rat}(hp:0<p)(h1:(q:Rat)*p<=z)(h2:z<=((q:Rat)+1)*p)(neg:Bool)(dir:Int):
 (dir<0->sgq neg (q+(outw neg dir).toNat:Nat)*p<=sgq neg z)/\(0<=dir->sgq neg z<=sgq neg (q+(outw neg dir).toNat:Nat)*p)/\
 sgq neg (q+(outw neg dir).toNat:Nat)*p-sgq neg z<=p/\sgq neg z-sgq neg (q+(outw neg dir).toNat:Nat)*p<=p:=by
 have e1:((q+1:Nat):Rat)=(q:Rat)+1:=by rw[bb6];rfl
 have e2:((q+0:Nat):Rat)=(q:Rat):=rfl;rcases bcI dir 0 with h|h
 . cases neg
   . have ho:outw false dir=false:=by unfold outw;rw[if_neg (by omega)]
     rw[ho];unfold sgq;simp only[bcZ,cond_false,e2,bcB,if_false];refine⟨fun _=>h1,fun h'=>by omega,?_,?_⟩<;>grind
   . have ho:outw true dir=true:=by unfold outw;rw[if_neg (by omega)]
     rw[ho];unfold sgq;simp only[bcZ,cond_true,e1,if_true];refine⟨fun _=> ?_,fun h'=>by omega,?_,?_⟩<;>grind
 . cases neg
   . have ho:outw false dir=true:=by unfold outw;rw[if_pos h];rfl
     rw[ho];unfold sgq;simp only[bcZ,cond_true,e1,bcB,if_false];refine⟨fun h'=>by omega,fun _=>h2,?_,?_⟩<;>grind
   . have ho:outw true dir=false:=by unfold outw;rw[if_pos h];rfl
     rw[ho];unfold sgq;simp only[bcZ,cond_false,e2,if_true];refine⟨fun h'=>by omega,fun _=> ?_,?_,?_⟩<;>grind
theorem yJ(hx:x≠0)(e:Int):topD (mkDy x e)=bits x.natAbs+e:=by
 rcases iR x e with ⟨h1,h2⟩|⟨h1,h2,h3,h4⟩
 . exact absurd h2 hx
 . unfold topD
   rw[if_neg h2];generalize mkDy x e=d at*;have:x.natAbs=d.man.natAbs*2^(d.exp-e).toNat:=by
    conv=>lhs;rw[h4]
    rw[Int.natAbs_mul,Int.natAbs_natCast]
   rw[this,jY (by omega)];omega
theorem aaR{P:Nat}(e:Int)(hP:1<=P)(hx:x.natAbs<=2^P):bits (mkDy x e).man.natAbs<=P:=by
 rcases Nat.lt_or_eq_of_le hx with h|h
 . exact bb4 (nE x e) ((aG _ _).2 h)
 . unfold mkDy
   have h0:x≠0:=by have:=bbX P;omega
   rw[if_neg h0,h];have:ctz (2^P)=P:=by have:=xI P 0;simpa using this
   rw[this,Nat.div_self (bbX P),bN];have:bits 1<=P:=(aG 1 P).2 (bb8 (by decide) (bcA (n:=2) (by omega) hP));exact this
theorem nT(m n:Nat):(m/2^n)*2^n<=m/\m<(m/2^n+1)*2^n:=by
 have h1:=bcO m (2^n);have h2:=bdA m (bbX n);rw[bcP]at h1;rw[bc7];omega
theorem ai2{n P:Nat}(h:bits m=n+P):m/2^n<2^P:=by
 rw[bcD (bbX n),<-bbY];refine(aG m _).1 (by omega)
theorem uY{a:Dy}(dir:Int)(hP:1<=P):Canon (aP a P dir)/\(bits (aP a P dir).man.natAbs:Int)<=P/\
 ((aP a P dir).man≠0->(mkDy a.man a.exp).exp<=(aP a P dir).exp/\topD (aP a P dir)<=topD (mkDy a.man a.exp)+1):=by
 unfold aP
 split
 . rename_i h
   exact⟨Canon.mk _ _,h,fun _=>⟨Int.le_refl _,by omega⟩⟩
 . rename_i h
   generalize hd:mkDy a.man a.exp=d at*;have hm0:d.man≠0:=by
    intro h0;rw[h0]at h;apply h;show((bits 0:Nat):Int)<=P;have:bits 0=0:=rfl;omega
   obtain⟨n,hn⟩:∃n:Nat,(bits d.man.natAbs:Int)-P=n:=⟨((bits d.man.natAbs:Int)-P).toNat,by omega⟩;obtain⟨Q,hQ⟩:∃Q:Nat,P=Q:=⟨P.toNat,by omega⟩;subst hQ;rw[hn,bcF];have hb:bits d.man.natAbs=n+Q:=by omega
   have hq:=ai2 hb;generalize hx:sg (decide (d.man<0)) (d.man.natAbs/2^n+(outw (decide (d.man<0)) dir).toNat)=x;have hxn:x.natAbs<=2^Q:=by
    rw[<-hx,bN];have:=Bool.toNat_le (outw (decide (d.man<0)) dir);omega
   refine⟨Canon.mk _ _,by have:=aaR (e:=d.exp+(n:Int)) (by omega) hxn;omega,fun hne=> ?_⟩;rcases iR x (d.exp+n)with ⟨h1,h2⟩|⟨h1,h2,h3,h4⟩
   . rw[h1]at hne;exact absurd rfl hne
   . refine⟨by omega,?_⟩
     rw[yJ h1];have h5:topD d=bits d.man.natAbs+d.exp:=by unfold topD;rw[if_neg hm0]
     rw[h5,hb];have:bits x.natAbs<=Q+1:=(aG _ _).2 (by rw[bcQ];have:=bbX Q;omega);omega
theorem jK(a:Dy)(dir:Int)(hP:1<=P):(dir<0->rv (aP a P dir)<=rv a)/\(0<=dir->rv a<=rv (aP a P dir))/\
 rv (aP a P dir)-rv a<=p2 (topD (mkDy a.man a.exp)-P)/\rv a-rv (aP a P dir)<=p2 (topD (mkDy a.man a.exp)-P):=by
 have hv:rv (mkDy a.man a.exp)=rv a:=kC _ _;rw[<-hv];unfold aP
 split
 . have:=bU (topD (mkDy a.man a.exp)-P)
   exact⟨fun _=>bb5,fun _=>bb5,by grind,by grind⟩
 . rename_i h
   generalize mkDy a.man a.exp=d at*;clear hv;have hm0:d.man≠0:=by
    intro h0;rw[h0]at h;apply h;show((bits 0:Nat):Int)<=P;have:bits 0=0:=rfl;omega
   obtain⟨n,hn⟩:∃n:Nat,(bits d.man.natAbs:Int)-P=n:=⟨((bits d.man.natAbs:Int)-P).toNat,by omega⟩;rw[hn,bcF,kC,yI];have hb:=nT d.man.natAbs n;have hp:=bU (d.exp+n);have hz:rv d=sgq (decide (d.man<0)) ((d.man.natAbs:Rat)*p2 d.exp):=by
    unfold rv sgq;rcases iY d.man with ⟨h4,h5⟩|⟨h4,h5⟩<;>rw[h4]
    . rw[if_neg (by simp;omega)]
    . rw[if_pos (by simpa using h5)];grind
   have e1:p2 (d.exp+n)=((2^n:Nat):Rat)*p2 d.exp:=by rw[dD,fC];grind
   have c1:=bbV.2 hb.1;have c2:=bbV.2 (bcR hb.2);rw[bbW]at c1 c2;have hpe:=bU d.exp;have k:=adN (q:=d.man.natAbs/2^n) (p:=p2 (d.exp+n)) (z:=(d.man.natAbs:Rat)*p2 d.exp) hp (by
    rw[e1];have:=bbU (a:=(d.man.natAbs:Rat)-((d.man.natAbs/2^n:Nat):Rat)*((2^n:Nat):Rat)) (b:=p2 d.exp) (by grind) (by grind);grind) (by
    rw[e1];rw[bb6]at c2;have:=bbU (a:=(((d.man.natAbs/2^n:Nat):Rat)+((1:Nat):Rat))*((2^n:Nat):Rat)-(d.man.natAbs:Rat)) (b:=p2 d.exp) (by grind) (by grind);have e2:((1:Nat):Rat)=1:=rfl;grind) (decide (d.man<0)) dir
   rw[<-hz]at k;have e3:topD d-P=d.exp+n:=by unfold topD;rw[if_neg hm0];omega
   rw[e3];exact k
theorem aaS(h:m≠0):bits (2*m+1)=bits m+1:=by
 have h1:=vW (2*m+1) (by omega);rw[h1,show(2*m+1)/2=m from by omega];omega
theorem aaT(neg:Bool)(m:Nat)(e:Int):mkDy (sg neg (2*m+1)) e=⟨sg neg (2*m+1),e⟩:=by
 unfold mkDy;have h0:sg neg (2*m+1)≠0:=by cases neg<;>simp[sg]<;>omega
 have hc:ctz (sg neg (2*m+1)).natAbs=0:=by
  rw[bN];have:=xI 0 m;simpa using this
 have hn:decide (sg neg (2*m+1)<0)=neg:=by
  rw[tN];cases neg<;>simp
 rw[if_neg h0,hc,hn,bN];simp
theorem mE{neg:Bool}{more:Bool}(dir:Int)(hP:1<=P)(h1:(m:Rat)*p2 e<=z)(h2:z<=((m:Rat)+1)*p2 e)(h3:more=false->z=(m:Rat)*p2 e)(h4:more=true->P+2<=bits m):
 (dir<0->rv (aS neg m e more P dir)<=sgq neg z)/\(0<=dir->sgq neg z<=rv (aS neg m e more P dir))/\
 rv (aS neg m e more P dir)-sgq neg z<=p2 (bits m+e-P)/\sgq neg z-rv (aS neg m e more P dir)<=p2 (bits m+e-P):=by
 unfold aS
 cases more
 . simp only[bcB,if_false]
   have hz:=h3 rfl;have hr:rv (mkDy (sg neg m) e)=sgq neg z:=by rw[kC,yI,hz];unfold sgq;cases neg<;>grind
   have k:=jK (mkDy (sg neg m) e) (P:=P) dir hP;rw[hr,nD]at k;by_cases hm:m=0
   . subst hm
     have e0:mkDy (sg neg 0) e=⟨0,0⟩:=by cases neg<;>exact aV e
     have e1:aP (mkDy (sg neg 0) e) P dir=⟨0,0⟩:=by
      rw[e0];unfold aP;rw[aV,if_pos (by show((bits 0:Nat):Int)<=P;have:bits 0=0:=rfl;omega)]
     rw[e1,lJ]at k|-;have hz0:z=0:=by rw[hz];simp
     have:=bU ((bits 0:Int)+e-P);rw[hz0]at k|-;have:sgq neg 0=0:=by unfold sgq;cases neg<;>simp
     rw[this]at k|-;exact⟨k.1,k.2.1,by grind,by grind⟩
   . have ht:topD (mkDy (sg neg m) e)=bits m+e:=by
      rw[yJ (by cases neg<;>simp[sg]<;>omega),bN]
     rw[ht]at k;exact k
 . simp only[if_true]
   have hb:=h4 rfl;have hm:m≠0:=by intro h;rw[h]at hb;have:bits 0=0:=rfl;omega
   unfold aP;rw[aaT,aaT,bN,aaS hm];simp only;obtain⟨n,hn⟩:∃n:Nat,((bits m+1:Nat):Int)-P=n:=⟨(((bits m+1:Nat):Int)-P).toNat,by omega⟩;have hng:decide (sg neg (2*m+1)<0)=neg:=by
    rw[tN];cases neg<;>simp
   rw[if_neg (by omega),hn,bcF,hng,kC,yI];obtain⟨j,hj⟩:∃j,n=j+1:=⟨n-1,by omega⟩;have hd:=nT (2*m+1) n;rw[hj,bcQ]at hd;have hd1:((2*m+1)/(2^j*2))*2^j<=m:=by
    have:=hd.1;rw[<-bcK]at this;omega
   have hd2:m+1<=((2*m+1)/(2^j*2)+1)*2^j:=by
    have:=hd.2;rw[<-bcK]at this;omega
   rw[hj,bcQ];have c1:=bbV.2 hd1;have c2:=bbV.2 hd2;rw[bbW]at c1 c2;rw[bb6,bb6]at c2;have e5:((1:Nat):Rat)=1:=rfl;rw[e5]at c2;have e1:p2 (e-1+((j+1:Nat):Int))=((2^j:Nat):Rat)*p2 e:=by
    rw[show e-1+((j+1:Nat):Int)=(j:Int)+e from by omega,dD,fC]
   have hpe:=bU e;have k:=adN (q:=(2*m+1)/(2^j*2)) (p:=p2 (e-1+((j+1:Nat):Int))) (z:=z) (bU _) (by
    rw[e1];have:=bbU (a:=(m:Rat)-((((2*m+1)/(2^j*2)):Nat):Rat)*((2^j:Nat):Rat)) (b:=p2 e) (by grind) (by grind);grind) (by
    rw[e1];have:=bbU (a:=(((((2*m+1)/(2^j*2)):Nat):Rat)+1)*((2^j:Nat):Rat)-((m:Rat)+1)) (b:=p2 e) (by grind) (by grind);grind) neg dir
   have e3:(bits m:Int)+e-P=e-1+((j+1:Nat):Int):=by omega
   rw[e3];exact k
theorem pJ{neg:Bool}{more:Bool}(dir:Int)(hP:1<=P):Canon (aS neg m e more P dir)/\(bits (aS neg m e more P dir).man.natAbs:Int)<=P/\
 ((aS neg m e more P dir).man≠0->e-1<=(aS neg m e more P dir).exp/\topD (aS neg m e more P dir)<=bits m+e+1):=by
 unfold aS;obtain⟨k1,k2,k3⟩:=uY (a:=mkDy (sg neg (if more then 2*m+1 else m)) (if more then e-1 else e)) (P:=P) dir hP;refine⟨k1,k2,fun h=> ?_⟩;obtain⟨j1,j2⟩:=k3 h;rw[nD]at j1 j2;rcases iR (sg neg (if more then 2*m+1 else m)) (if more then e-1 else e)with ⟨h1,h2⟩|⟨h1,h2,h3,h4⟩
 . exfalso;apply h
   rw[h1];unfold aP;rw[aV,if_pos (by show((bits 0:Nat):Int)<=P;have:bits 0=0:=rfl;omega)]
 . have ht:=yJ h1 (if more then e-1 else e)
   rw[ht,bN]at j2
   cases more
   . simp only[bcB,if_false]at*
     exact⟨by omega,by omega⟩
   . simp only[if_true]at*
     by_cases hm:m=0
     . subst hm
       have:bits (2*0+1)=1:=by decide
       have:bits 0=0:=rfl;exact⟨by omega,by omega⟩
     . rw[aaS hm]at j2
       exact⟨by omega,by omega⟩
def quoA(a b:Nat)(P:Int):Int:=P+2-bits a+bits b
def quoX(a b:Nat)(P:Int):Nat:=if 0<=quoA a b P then a*2^(quoA a b P).toNat else a/2^(-quoA a b P).toNat
def quoM(a b:Nat)(P:Int):Bool:=(decide (quoA a b P<0)&&decide ((ctz a:Int)< -quoA a b P))||decide (0<bits (quoX a b P%b))
def quoD(x y:Dy)(P dir:Int):Dy:=if x.man=0 then⟨0,0⟩else
 aS (decide (x.man<0) != decide (y.man<0)) (quoX x.man.natAbs y.man.natAbs P/y.man.natAbs) (x.exp-y.exp-quoA x.man.natAbs y.man.natAbs P) (quoM x.man.natAbs y.man.natAbs P) P dir
theorem akU{A B:Nat}(hB:0<B):((A/B:Nat):Rat)*(B:Rat)<=A/\(A:Rat)<=(((A/B:Nat):Rat)+1)*(B:Rat)/\(A%B=0->(A:Rat)=((A/B:Nat):Rat)*(B:Rat)):=by
 have h1:=bcO A B;have h2:=bdA A hB;have e5:((1:Nat):Rat)=1:=rfl;refine⟨?_,?_,fun h=> ?_⟩
 . rw[<-bbW];exact bbV.2 (by rw[bcP]at h1;omega)
 . rw[<-e5,<-bb6,<-bbW];exact bbV.2 (by rw[bcP]at h1;rw[bc7];omega)
 . rw[<-bbW];congr 1;rw[bcP]at h1;omega
theorem adO{a k:Nat}(h0:a≠0):k<=ctz a↔a%2^k=0:=by
 obtain⟨j,m,e,hj⟩:=qG a h0;rw[hj];constructor
 . intro h
   obtain⟨d,rfl⟩:∃d,j=k+d:=⟨j-k,by omega⟩;rw[e,bbY,bcK];exact Nat.mul_mod_right _ _
 . intro h
   rcases bc8 j k with h1|h1
   . exfalso
     obtain⟨d,rfl⟩:∃d,k=j+1+d:=⟨k-j-1,by omega⟩;obtain⟨c,hc⟩:=Nat.dvd_of_mod_eq_zero h;rw[e,bbY,bcQ,bcK,bcK]at hc;have:=Nat.eq_of_mul_eq_mul_left (bbX j) hc;omega
   . exact h1
theorem aaU{a b:Nat}(ha:a≠0)(hb:b≠0)(hP:1<=P):∃A B:Nat,0<B/\quoX a b P/b=A/B/\(quoM a b P=true↔A%B≠0)/\(A:Rat)*(b:Rat)=(a:Rat)*(B:Rat)*p2 (quoA a b P)/\P+2<=bits (A/B)/\(bits (A/B):Int)<=P+3:=by
 have hba:=(not_congr (bT a)).2 ha;have hbb:=(not_congr (bT b)).2 hb;have a1:=(aG a (bits a)).1 nlr;have a2:2^(bits a-1)<=a:=by
  have:¬bits a<=bits a-1:=by omega
  rw[aG]at this;omega
 have b1:=(aG b (bits b)).1 nlr;have b2:2^(bits b-1)<=b:=by
  have:¬bits b<=bits b-1:=by omega
  rw[aG]at this;omega
 obtain⟨Q,hQ⟩:∃Q:Nat,P=Q:=⟨P.toNat,by omega⟩;subst hQ;have hn:quoA a b Q=(Q:Int)+2-bits a+bits b:=rfl;unfold quoX quoM;unfold quoX;rcases bcI (quoA a b Q) 0 with h|h
 . obtain⟨k,hk⟩:∃k:Nat,quoA a b Q=-(k:Int):=⟨(-quoA a b Q).toNat,by omega⟩
   rw[if_neg (by omega),hk,show(-(-(k:Int))).toNat=k from by omega];have hpb:0<2^k*b:=bc9 (bbX k) (by omega);refine⟨a,2^k*b,hpb,Nat.div_div_eq_div_mul _ _ _,?_,?_,?_,?_⟩
   . have e1:=Nat.mod_mul (x:=a) (a:=2^k) (b:=b)
     have e2:=adO (k:=k) ha;have e3:=bT (a/2^k%b);have hp:=bbX k;rw[e1];simp only[bc5,bc4,decide_eq_true_eq];constructor
     . rintro(⟨g1,g2⟩|g)
       . have:¬k<=ctz a:=by omega
         rw[e2]at this;omega
       . have g3:a/2^k%b≠0:=fun g3=>by have:=e3.2 g3;omega
         have:=bc9 hp (show 0<a/2^k%b by omega);omega
     . intro g
       by_cases g1:a%2^k=0
       . right
         rcases bcW (bits (a/2^k%b))with g2|g2
         . rw[e3.1 g2,g1]at g;simp at g
         . exact g2
       . left
         have:¬k<=ctz a:=by rw[e2];exact g1
         omega
   . have e1:=pG (-(k:Int)) k (by omega)
     rw[show(-(k:Int)+(k:Int)).toNat=0 from by omega]at e1;rw[bbW];have e4:((2^0:Nat):Rat)=1:=rfl;rw[e4]at e1;have:(a:Rat)*(((2^k:Nat):Rat)*(b:Rat))*p2 (-(k:Int))=(a:Rat)*(b:Rat)*(p2 (-(k:Int))*((2^k:Nat):Rat)):=by grind
     rw[this,e1];grind
   . have:2^(Q+1)<=a/(2^k*b):=by
      rw[bcJ hpb];refine bb4 (bb7 _ (bb7 _ (bcR b1))) (bb4 (bcE ?_) a2);rw[<-bbY,<-bbY];congr 1;omega
     have h5:¬bits (a/(2^k*b))<=Q+1:=by rw[aG];omega
     omega
   . have:a/(2^k*b)<2^(Q+3):=by
      rw[bcD hpb];refine bb8 a1 (bb4 (bcE ?_) (bb7 _ (bb7 _ b2)));rw[<-bbY,<-bbY];congr 1;omega
     have h5:=(aG _ _).2 this;omega
 . obtain⟨k,hk⟩:∃k:Nat,quoA a b Q=(k:Int):=⟨(quoA a b Q).toNat,by omega⟩
   rw[if_pos h,hk,bcF];refine⟨a*2^k,b,by omega,rfl,?_,?_,?_,?_⟩
   . have e3:=bT (a*2^k%b)
     simp only[bc5,bc4,decide_eq_true_eq];constructor
     . rintro(⟨g1,g2⟩|g)
       . omega
       . intro g3;have:=e3.2 g3;omega
     . intro g;right
       rcases bcW (bits (a*2^k%b))with g2|g2
       . exact absurd (e3.1 g2) g
       . exact g2
   . rw[fC,bbW];grind
   . have:2^(Q+1)<=a*2^k/b:=by
      rw[bcJ (by omega)];refine bb4 (bb7 _ (bcR b1)) (bb4 (bcE ?_) (bcS _ a2));rw[<-bbY,<-bbY];congr 1;omega
     have h5:¬bits (a*2^k/b)<=Q+1:=by rw[aG];omega
     omega
   . have:a*2^k/b<2^(Q+3):=by
      rw[bcD (by omega)];refine bb8 ((bcT (bbX k)).2 a1) (bb4 (bcE ?_) (bb7 _ b2));rw[<-bbY,<-bbY];congr 1;omega
     have h5:=(aG _ _).2 this;omega
def Err(P:Int)(r t:Rat):Prop:=∀b:Rat,-b<=t->t<=b->r-t<=2*b*p2 (-P)/\t-r<=2*b*p2 (-P)
theorem qJ{T:Int}{r:Rat}(h1:r-t<=p2 (T-P))(h2:t-r<=p2 (T-P))(hz:p2 (T-1)<=z)(ht:t=z\/t=-z):Err P r t:=by
 intro b hb1 hb2;have h3:z<=b:=by rcases ht with h|h<;>grind
 have e:p2 (T-P)=2*p2 (T-1)*p2 (-P):=by
  rw[show T-P=(T-1+1)+-P from by omega,dD,iT]
 have hp:=bU (-P);have:=bbU (a:=2*(b-p2 (T-1))) (b:=p2 (-P)) (by grind) (by grind);constructor<;>grind
theorem pK:Err P 0 0:=by
 intro b h1 h2;have:=bbU (a:=2*b) (b:=p2 (-P)) (by grind) (by have:=bU (-P);grind);constructor<;>grind
theorem nH(a:Dy)(dir:Int)(hP:1<=P):Err P (rv (aP a P dir)) (rv a):=by
 obtain⟨-,-,h1,h2⟩:=jK a dir hP;by_cases h0:a.man=0
 . have e0:rv a=0:=(bC a).2.2.2 h0
   have e1:aP a P dir=⟨0,0⟩:=by
    unfold aP;rw[h0,aV,if_pos (by show((bits 0:Nat):Int)<=P;have:bits 0=0:=rfl;omega)]
   rw[e0,e1,lJ];exact pK
 . have hv:rv (mkDy a.man a.exp)=rv a:=kC _ _
   rcases qI (mkDy a.man a.exp) (by rcases iR a.man a.exp with ⟨g1,g2⟩|⟨g1,g2,-⟩<;>first|exact absurd g2 h0|exact g2)with h3|h3<;>rw[hv]at h3
   . exact qJ h1 h2 h3 (Or.inl rfl)
   . exact qJ h1 h2 (z:=-rv a) (by grind) (Or.inr (by grind))
theorem uZ(e:Int)(h:0<=x):0<=(mkDy x e).man:=by
 rcases bcI (mkDy x e).man 0 with g|g
 . have h1:=akR x e
   rw[bcL.2 g]at h1;have:=bcL.1 h1.symm;omega
 . exact g
theorem yK{a:Dy}(dir:Int)(h:0<=a.man):0<=rv (aP a P dir):=by
 have hm:=uZ a.exp h;unfold aP
 split
 . unfold rv
   exact bbU (bcV.2 hm) (by have:=bU (mkDy a.man a.exp).exp;grind)
 . rw[kC,show decide ((mkDy a.man a.exp).man<0)=false from by simpa using hm]
   refine bbU ?_ (by have:=bU ((mkDy a.man a.exp).exp+((bits (mkDy a.man a.exp).man.natAbs:Int)-P));grind);rw[yI];exact bcX
theorem ai3(d:Dy):rv d=sgq (decide (d.man<0)) ((d.man.natAbs:Rat)*p2 d.exp):=by
 unfold rv sgq;rcases iY d.man with ⟨h4,h5⟩|⟨h4,h5⟩<;>rw[h4]
 . rw[if_neg (by simp;omega)]
 . rw[if_pos (by simpa using h5)];grind
theorem akV(b c:Bool)(x y:Rat):sgq (b != c) x*sgq c y=sgq b (x*y):=by cases b<;>cases c<;>simp[sgq]<;>grind
theorem kD(x y:Dy)(dir:Int)(hP:1<=P)(hy:y.man≠0)(ht:t*rv y=rv x):
 (dir<0->rv (quoD x y P dir)<=t)/\(0<=dir->t<=rv (quoD x y P dir))/\Err P (rv (quoD x y P dir)) t:=by
 have hy0:rv y≠0:=fun h=>hy ((bC y).2.2.1 h);unfold quoD;by_cases hx:x.man=0
 . rw[if_pos hx,lJ]
   have e0:rv x=0:=(bC x).2.2.2 hx;rw[e0]at ht;have:t=0:=by rcases bcH.1 ht with h|h<;>first|exact absurd h hy0|exact h
   rw[this];exact⟨fun _=>bb5,fun _=>bb5,pK⟩
 . rw[if_neg hx]
   obtain⟨A,B,hB,e1,e2,e3,e4,e5⟩:=aaU (a:=x.man.natAbs) (b:=y.man.natAbs) (P:=P) (by omega) (by omega) hP;rw[e1];obtain⟨q1,q2,q3⟩:=akU (A:=A) hB;have hBr:(0:Rat)<(B:Rat):=bcM.2 hB;have hbr:(0:Rat)<(y.man.natAbs:Rat):=bcM.2 (by omega);obtain⟨e,he⟩:∃e,e=x.exp-y.exp-quoA x.man.natAbs y.man.natAbs P:=⟨_,rfl⟩;rw[<-he];have hpe:=bU e;generalize hneg:(decide (x.man<0) != decide (y.man<0))=neg at*;generalize quoM x.man.natAbs y.man.natAbs P=more at*
   -- the amount of the quotient
   obtain⟨z,hz⟩:∃z:Rat,z=(A:Rat)/B*p2 e:=⟨_,rfl⟩;have hAB:(A:Rat)/B*B=A:=by grind
   have htz:t=sgq neg z:=by
    have k1:z*((y.man.natAbs:Rat)*p2 y.exp)=(x.man.natAbs:Rat)*p2 x.exp:=by
     rw[hz];have k2:p2 x.exp=p2 (quoA x.man.natAbs y.man.natAbs P)*p2 e*p2 y.exp:=by rw[<-dD,<-dD];congr 1;omega
     rw[k2];generalize p2 (quoA x.man.natAbs y.man.natAbs P)=u at*;generalize p2 e=v at*;generalize p2 y.exp=w at*;have k3:(A:Rat)/B*(y.man.natAbs:Rat)=(x.man.natAbs:Rat)*u:=by
      have:((A:Rat)/B*(y.man.natAbs:Rat)-(x.man.natAbs:Rat)*u)*B=0:=by grind
      rcases bcH.1 this with h|h<;>grind
     grind
    have k4:sgq neg z*rv y=rv x:=by
     rw[ai3 x,ai3 y,<-hneg,akV,k1]
    have k5:(t-sgq neg z)*rv y=0:=by grind
    rcases bcH.1 k5 with h|h
    . grind
    . exact absurd h hy0
   have l1:((A/B:Nat):Rat)*p2 e<=z:=by
    rw[hz];have:((A/B:Nat):Rat)<=(A:Rat)/B:=by
     apply bcG;intro hc;have:=bb9 (a:=((A/B:Nat):Rat)-(A:Rat)/B) (b:=(B:Rat)) (by grind) hBr;grind
    have:=bbU (a:=(A:Rat)/B-((A/B:Nat):Rat)) (b:=p2 e) (by grind) (by grind);grind
   have l2:z<=(((A/B:Nat):Rat)+1)*p2 e:=by
    rw[hz];have:(A:Rat)/B<=((A/B:Nat):Rat)+1:=by
     apply bcG;intro hc;have:=bb9 (a:=(A:Rat)/B-(((A/B:Nat):Rat)+1)) (b:=(B:Rat)) (by grind) hBr;grind
    have:=bbU (a:=((A/B:Nat):Rat)+1-(A:Rat)/B) (b:=p2 e) (by grind) (by grind);grind
   have l3:more=false->z=((A/B:Nat):Rat)*p2 e:=by
    intro h;have h6:A%B=0:=by
     apply bcG;intro hc;have:=e2.2 hc;rw[h]at this;cases this
    have h7:=q3 h6;rw[hz];have:(A:Rat)/B=((A/B:Nat):Rat):=by
     have:((A:Rat)/B-((A/B:Nat):Rat))*B=0:=by grind
     rcases bcH.1 this with h|h<;>grind
    rw[this]
   obtain⟨r1,r2,r3,r4⟩:=mE (neg:=neg) (P:=P) dir hP l1 l2 l3 (fun _=>e4);rw[htz];refine⟨r1,r2,?_⟩;have hbm:=(pI (m:=A/B) (by intro h;rw[h]at e4;have:bits 0=0:=rfl;omega)).1;refine qJ r3 r4 (z:=z) ?_ (by unfold sgq;cases neg<;>simp);rw[show(bits (A/B):Int)+e-1=((bits (A/B):Int)-1)+e from by omega,dD];have:=bbU (a:=((A/B:Nat):Rat)-p2 ((bits (A/B):Int)-1)) (b:=p2 e) (by grind) (by grind);grind
theorem aaV(x y:Dy)(dir:Int)(hP:1<=P)(hy:y.man≠0):Canon (quoD x y P dir)/\(bits (quoD x y P dir).man.natAbs:Int)<=P/\
 ((quoD x y P dir).man≠0->topD x-topD y-P-4<=(quoD x y P dir).exp/\topD (quoD x y P dir)<=topD x-topD y+2):=by
 unfold quoD;by_cases hx:x.man=0
 . rw[if_pos hx]
   exact⟨aV 0,by show((bits 0:Nat):Int)<=P;have:bits 0=0:=rfl;omega,fun h=>absurd rfl h⟩
 . rw[if_neg hx]
   obtain⟨A,B,hB,e1,e2,e3,e4,e5⟩:=aaU (a:=x.man.natAbs) (b:=y.man.natAbs) (P:=P) (by omega) (by omega) hP;rw[e1];obtain⟨k1,k2,k3⟩:=pJ (neg:=(decide (x.man<0) != decide (y.man<0))) (m:=A/B) (e:=x.exp-y.exp-quoA x.man.natAbs y.man.natAbs P) (more:=quoM x.man.natAbs y.man.natAbs P) (P:=P) dir hP;refine⟨k1,k2,fun h=> ?_⟩;obtain⟨k4,k5⟩:=k3 h;have t1:topD x=bits x.man.natAbs+x.exp:=by unfold topD;rw[if_neg hx]
   have t2:topD y=bits y.man.natAbs+y.exp:=by unfold topD;rw[if_neg hy]
   have t3:quoA x.man.natAbs y.man.natAbs P=P+2-bits x.man.natAbs+bits y.man.natAbs:=rfl;omega
def sqM(x:Dy):Nat:=if x.exp%2=0 then x.man.natAbs else x.man.natAbs*2
def sqE(x:Dy):Int:=if x.exp%2=0 then x.exp else x.exp-1
def sqN(x:Dy)(P:Int):Int:=(2*(P+2)-bits (sqM x))+(2*(P+2)-bits (sqM x))%2
def sqX(x:Dy)(P:Int):Nat:=if 0<=sqN x P then sqM x*2^(sqN x P).toNat else sqM x/2^(-sqN x P).toNat
def sqR(x:Dy)(P:Int):Bool:=(decide (sqN x P<0)&&decide ((ctz (sqM x):Int)< -sqN x P))||decide (0<bits (sqX x P-bY (sqX x P)*bY (sqX x P)))
def aO(x:Dy)(P dir:Int):Dy:=if x.man=0 then⟨0,0⟩else aS false (bY (sqX x P)) ((sqE x-sqN x P)/2) (sqR x P) P dir
theorem adP{x:Dy}(hx:0<x.man)(hP:1<=P):∃(m:Nat) (f:Int),bY (sqX x P)=m/\(sqE x-sqN x P)/2=f/\
 ((m:Rat)*p2 f)*((m:Rat)*p2 f)<=rv x/\rv x<=(((m:Rat)+1)*p2 f)*(((m:Rat)+1)*p2 f)/\(sqR x P=false->rv x=((m:Rat)*p2 f)*((m:Rat)*p2 f))/\
 P+2<=bits m/\(bits m:Int)<=P+3/\topD x-2*P-8<=2*f/\2*f<=topD x-2*P-3:=by
 have hM0:sqM x≠0:=by unfold sqM;split<;>omega
 have hv:rv x=(sqM x:Rat)*p2 (sqE x):=by
  unfold rv sqM sqE;rcases iY x.man with ⟨h4,h5⟩|⟨h4,h5⟩
  . split
    . rw[h4]
    . rw[bbW,h4,show p2 x.exp=p2 (x.exp-1+1) from by congr 1;omega,iT]
      have:((2:Nat):Rat)=2:=rfl;grind
  . omega
 have hE:sqE x%2=0:=by unfold sqE;split<;>omega
 have hT:topD x=bits (sqM x)+sqE x:=by
  unfold topD sqM sqE;rw[if_neg (by omega)]
  split
  . rfl
  . have:=jY (n:=x.man.natAbs) (by omega) 1
    rw[Nat.pow_one]at this;omega
 have hN:sqN x P=(2*(P+2)-bits (sqM x))+(2*(P+2)-bits (sqM x))%2:=rfl;have hr:=dX (sqX x P);unfold sqR;generalize hX:sqX x P=X at*;unfold sqX at hX;generalize sqM x=a at*;generalize sqE x=E at*;generalize hn:sqN x P=n at*;obtain⟨f,hf⟩:∃f,(E-n)/2=f:=⟨_,rfl⟩;have hfE:E=n+2*f:=by omega
 obtain⟨h1,h2⟩:=hr;generalize hm:bY X=m at*;have a1:=(aG a (bits a)).1 nlr;have hba:=(not_congr (bT a)).2 hM0;have a2:2^(bits a-1)<=a:=by
  have:¬bits a<=bits a-1:=by omega
  rw[aG]at this;omega
 obtain⟨Q,hQ⟩:∃Q:Nat,P=Q:=⟨P.toNat,by omega⟩;subst hQ
 -- v = y * p2 (2 f), X <= y < X + 1
 obtain⟨y,hy1,hy2,hy3,hy4,hy5,hy6⟩:∃y:Rat,rv x=y*p2 (2*f)/\(X:Rat)<=y/\y<=(X:Rat)+1/\((decide (n<0)&&decide ((ctz a:Int)< -n))=false->y=X)/\2^(2*Q+2)<=X/\X<2^(2*Q+6):=by
  rcases bcI n 0 with h|h
  . obtain⟨k,hk⟩:∃k:Nat,n=-(k:Int):=⟨(-n).toNat,by omega⟩
    rw[if_neg (by omega),hk,show(-(-(k:Int))).toNat=k from by omega]at hX;have e1:=pG (-(k:Int)) k (by omega);rw[show(-(k:Int)+(k:Int)).toNat=0 from by omega]at e1;have e4:((2^0:Nat):Rat)=1:=rfl;rw[e4]at e1;obtain⟨d1,d2⟩:=nT a k;rw[hX]at d1 d2;have c1:=bbV.2 d1;have c2:=bbV.2 (bcR d2);rw[bbW]at c1 c2;rw[bb6]at c2;have e5:((1:Nat):Rat)=1:=rfl;rw[e5]at c2;have hpk:=bU (-(k:Int));refine⟨(a:Rat)*p2 (-(k:Int)),?_,?_,?_,?_,?_,?_⟩
    . rw[hv,hfE,hk,dD];grind
    . have:=bbU (a:=(a:Rat)-(X:Rat)*((2^k:Nat):Rat)) (b:=p2 (-(k:Int))) (by grind) (by grind)
      have:(X:Rat)*((2^k:Nat):Rat)*p2 (-(k:Int))=X:=by
       have:(X:Rat)*((2^k:Nat):Rat)*p2 (-(k:Int))=X*(p2 (-(k:Int))*((2^k:Nat):Rat)):=by grind
       rw[this,e1];grind
      grind
    . have:=bbU (a:=((X:Rat)+1)*((2^k:Nat):Rat)-(a:Rat)) (b:=p2 (-(k:Int))) (by grind) (by grind)
      have:((X:Rat)+1)*((2^k:Nat):Rat)*p2 (-(k:Int))=X+1:=by
       have:((X:Rat)+1)*((2^k:Nat):Rat)*p2 (-(k:Int))=(X+1)*(p2 (-(k:Int))*((2^k:Nat):Rat)):=by grind
       rw[this,e1];grind
      grind
    . intro hh
      rw[hk]at hh;have hc:k<=ctz a:=by
       simp only[Bool.and_eq_false_iff,decide_eq_false_iff_not]at hh;omega
      have h7:=(adO hM0).1 hc;have h8:=bcO a (2^k);rw[h7,hX,Nat.add_zero]at h8;rw[<-h8,bbW];have:((2^k:Nat):Rat)*(X:Rat)*p2 (-(k:Int))=X*(p2 (-(k:Int))*((2^k:Nat):Rat)):=by grind
      rw[this,e1];grind
    . rw[<-hX,bcJ (bbX k)]
      refine bb4 (bcE ?_) (bb4 (bcA (by omega) (show 2*Q+2+k<=bits a-1 by omega)) a2);rw[<-bbY]
    . rw[<-hX,bcD (bbX k)]
      refine bb8 a1 (bb4 (bcA (by omega) (show bits a<=2*Q+6+k by omega)) (bcE ?_));rw[<-bbY]
  . obtain⟨k,hk⟩:∃k:Nat,n=(k:Int):=⟨n.toNat,by omega⟩
    rw[if_pos h,hk,bcF]at hX;refine⟨(X:Rat),?_,bb5,by grind,fun _=>rfl,?_,?_⟩
    . rw[hv,hfE,hk,dD,fC,<-hX,bbW];grind
    . rw[<-hX]
      refine bb4 (bb4 (bcA (by omega) (show 2*Q+2<=bits a-1+k by omega)) (bcE (bbY 2 (bits a-1) k))) (bcS _ a2)
    . rw[<-hX]
      refine bb8 ((bcT (bbX k)).2 a1) (bb4 (bcE (bbY 2 (bits a) k).symm) (bcA (by omega) (by omega)))
 have c1:=bbV.2 h1;have c2:=bbV.2 (show X+1<=(m+1)*(m+1) from h2);rw[bbW]at c1 c2;rw[bb6,bb6]at c2;have e5:((1:Nat):Rat)=1:=rfl;rw[e5]at c2;have e6:p2 (2*f)=p2 f*p2 f:=by rw[<-dD];congr 1;omega
 rw[e6]at hy1;have hpf:=bU f;have hpp:=bb9 hpf hpf;refine⟨m,f,rfl,hf,?_,?_,?_,?_,?_,?_,?_⟩
 . rw[hy1]
   have:=bbU (a:=y-(m:Rat)*m) (b:=p2 f*p2 f) (by grind) (by grind);grind
 . rw[hy1]
   have:=bbU (a:=((m:Rat)+1)*((m:Rat)+1)-y) (b:=p2 f*p2 f) (by grind) (by grind);grind
 . intro hh
   simp only[Bool.or_eq_false_iff]at hh;have h8:=hy4 hh.1;have h9:X=m*m:=by
    have:=hh.2;simp only[decide_eq_false_iff_not]at this;have:=(bT (X-m*m)).1 (by omega);omega
   rw[hy1,h8,h9,bbW];grind
 . have h8:¬bits m<=Q+1:=by
    rw[aG];intro h9;have h10:(m+1)*(m+1)<=2^(Q+1)*2^(Q+1):=bc6 h9 h9;rw[<-bbY]at h10;have h11:X<2^(Q+1+(Q+1)):=bb8 h2 h10;rw[show Q+1+(Q+1)=2*Q+2 from by omega]at h11;omega
   omega
 . have h8:bits m<=Q+3:=by
    rw[aG];rcases bc8 m (2^(Q+3))with h9|h9
    . exact h9
    . exfalso
      have h10:2^(Q+3)*2^(Q+3)<=m*m:=bc6 h9 h9;rw[<-bbY,show Q+3+(Q+3)=2*Q+6 from by omega]at h10;omega
   omega
 . omega
 . omega
theorem aaW(x:Dy)(dir:Int)(hP:1<=P)(hx:0<=x.man):∃q q':Rat,0<=q/\q<=q'/\q*q<=rv x/\rv x<=q'*q'/\
 0<=rv (aO x P dir)/\(dir<0->rv (aO x P dir)<=q)/\(0<=dir->q'<=rv (aO x P dir))/\q'-q<=q*p2 (-P)/\Err P (rv (aO x P dir)) q/\Err P (rv (aO x P dir)) q':=by
 unfold aO;by_cases h0:x.man=0
 . rw[if_pos h0,lJ]
   have e0:rv x=0:=(bC x).2.2.2 h0;rw[e0];exact⟨0,0,bb5,bb5,by grind,by grind,bb5,fun _=>bb5,fun _=>bb5,by grind,pK,pK⟩
 . rw[if_neg h0]
   obtain⟨m,f,e1,e2,h1,h2,h3,h4,h5,-,-⟩:=adP (x:=x) (P:=P) (by omega) hP;rw[e1,e2];have hpf:=bU f;have hm0:(0:Rat)<=(m:Rat):=bcX;have hq0:=bbU hm0 (show 0<=p2 f by grind);have hbm:=(pI (m:=m) (by intro h;rw[h]at h4;have:bits 0=0:=rfl;omega)).1;have hnn:0<=rv (aS false m f (sqR x P) P dir):=by
    unfold aS;refine yK dir ?_;exact uZ _ (by show(0:Int)<=((_:Nat):Int);omega)
   have hE:p2 ((bits m:Int)+f-1)<=(m:Rat)*p2 f:=by
    rw[show(bits m:Int)+f-1=((bits m:Int)-1)+f from by omega,dD];have:=bbU (a:=(m:Rat)-p2 ((bits m:Int)-1)) (b:=p2 f) (by grind) (by grind);grind
   have b1:=mE (neg:=false) (more:=sqR x P) (P:=P) (z:=(m:Rat)*p2 f) (m:=m) (e:=f) dir hP bb5 (by grind) (fun _=>rfl) (fun _=>h4);have sf:∀z,sgq false z=z:=fun z=>by unfold sgq;simp
   rw[sf]at b1
   cases hr:sqR x P
   . rw[hr]at b1 hnn
     have h6:=h3 hr;have hz0:0<=(m:Rat)*p2 f*p2 (-P):=bbU hq0 (by have:=bU (-P);grind);have er:=qJ b1.2.2.1 b1.2.2.2 hE (Or.inl rfl);exact⟨(m:Rat)*p2 f,(m:Rat)*p2 f,hq0,bb5,h1,by rw[h6];exact bb5,hnn,b1.1,b1.2.1,by grind,er,er⟩
   . rw[hr]at b1 hnn
     have b2:=mE (neg:=false) (more:=true) (P:=P) (z:=((m:Rat)+1)*p2 f) (m:=m) (e:=f) dir hP (by grind) bb5 (fun h=>by cases h) (fun _=>h4);rw[sf]at b2;refine⟨(m:Rat)*p2 f,((m:Rat)+1)*p2 f,hq0,by grind,h1,h2,hnn,b1.1,b2.2.1,?_,qJ b1.2.2.1 b1.2.2.2 hE (Or.inl rfl),qJ b2.2.2.1 b2.2.2.2 (z:=((m:Rat)+1)*p2 f) (by grind) (Or.inl rfl)⟩
     -- p2 f <= m * p2 f * p2 (-P)
     have h7:p2 P<=(m:Rat):=by
      have:=jZ (show P<=(bits m:Int)-1 by omega);grind
     have h8:p2 P*p2 (-P)=1:=by rw[<-dD,show P+-P=0 from by omega,lI]
     have h9:=bbU (a:=(m:Rat)-p2 P) (b:=p2 f*p2 (-P)) (by grind) (by have:=bb9 hpf (bU (-P));grind);have h10:p2 P*(p2 f*p2 (-P))=p2 f:=by
      have:p2 P*(p2 f*p2 (-P))=p2 P*p2 (-P)*p2 f:=by grind
      rw[this,h8];grind
     have h11:((m:Rat)-p2 P)*(p2 f*p2 (-P))=(m:Rat)*p2 f*p2 (-P)-p2 P*(p2 f*p2 (-P)):=by grind
     rw[h11,h10]at h9;have h12:((m:Rat)+1)*p2 f=(m:Rat)*p2 f+p2 f:=by grind
     rw[h12];generalize (m:Rat)*p2 f*p2 (-P)=u at*;generalize (m:Rat)*p2 f=v at*;grind
theorem afA(x:Dy)(dir:Int)(hP:1<=P)(hx:0<=x.man):Canon (aO x P dir)/\(bits (aO x P dir).man.natAbs:Int)<=P/\
 ((aO x P dir).man≠0->topD x-2*P-10<=2*(aO x P dir).exp/\2*topD (aO x P dir)<=topD x+5):=by
 unfold aO;by_cases h0:x.man=0
 . rw[if_pos h0]
   exact⟨aV 0,by show((bits 0:Nat):Int)<=P;have:bits 0=0:=rfl;omega,fun h=>absurd rfl h⟩
 . rw[if_neg h0]
   obtain⟨m,f,e1,e2,-,-,-,h4,h5,h6,h7⟩:=adP (x:=x) (P:=P) (by omega) hP;rw[e1,e2];obtain⟨k1,k2,k3⟩:=pJ (neg:=false) (m:=m) (e:=f) (more:=sqR x P) (P:=P) dir hP;refine⟨k1,k2,fun h=> ?_⟩;obtain⟨k4,k5⟩:=k3 h;omega
end Go.Proofs.YtebdolonckjpiaaGreatDoor
