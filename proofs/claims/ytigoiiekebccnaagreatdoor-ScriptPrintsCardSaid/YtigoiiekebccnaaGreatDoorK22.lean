/- A part of the proof: contracts of functions and plain laws (DyL, DyM, BalA, DyR, DyS, DyT). -/
import Derived.Test.YtigoiiekebccnaaGreatDoorK21
import Derived.Test.YtigoiiekebccnaaGreatDoorK09
set_option linter.unusedVariables false
set_option linter.unusedSimpArgs false
set_option linter.unnecessarySimpa false
set_option maxHeartbeats 25600000
set_option maxRecDepth 100000
namespace Go.Proofs.YtigoiiekebccnaaGreatDoor
section
open Go.RowKit
open Go.RowKit.Below renaming heap_setCell->beK
open Nat renaming le_trans->beL,le_of_eq->beM,mod_lt->beN
variable{x:Dy}{B b g i:Nat}{p:Nat->Prop}{T:TypeId}{a c d e f va:Value}{w w0:World}
theorem rC{p:Int}(hp:1<=p/\p<=65536):Calls Tryz.prog 304 #[.int .i64 p] w (fun e w'=>e=.returned (.int .i64 p)/\w=w'):=by
 go_enter Tryz.func304,Tryz.ntmps304
 go_wp2;go_ret;exact⟨by show Ending.returned (.int .i64 (max 1 (min p 65536)))=_;rw[show max 1 (min p 65536)=p from by omega],rfl⟩
theorem bX(h:g≠i)(u v x:Value):(((w.setCell ⟨g,0,none⟩ u).setCell ⟨g,1,none⟩ v).setCell ⟨g,2,none⟩ x).heap[i]? =w.heap[i]? :=by
 rw[beK _ _ _ _ (by simp;omega),beK _ _ _ _ (by simp;omega),beK _ _ _ _ (by simp;omega)]
theorem adX{P dir:Int}(hx:DyP p w va x)(hT:Tab w)(sx:SmD x)(hP:1<=P/\P<=65536)(hb:(bits (mkDy x.man x.exp).man.natAbs:Int)<=P):
 Calls Tryz.prog 266 #[va,.int .i64 P,.int .i64 dir] w (RetD w.heap.size w (mkDy x.man x.exp)):=by
 obtain⟨ba,A,n,c,rfl,h⟩:=hx;obtain⟨w2,hw2,hb2,hs2,b1,b2⟩:=pro2 w (.cells #[Value.bool ba,.slice A n c,.int .i64 x.exp] 233) (.cells #[Value.bool false,Value.slice none 0 0,.int .i64 0] 233);have HB:=hdd hb2;have HS:=hdd hs2;have B1:=hdd b1;have B2:=hdd b2;have HBI:=hdd hb;have HPP:=hdd hP;obtain⟨c0,c1,c2,-,-,-⟩:=cells3 b1;have HMK:=hdd (dC (e:=x.exp) (h.below hb2) (hT.below hb2) (by have:=sx.1;omega) (by have:=sx.2;omega));have HSX:=hdd sx;clear h hb2 b1 b2 hs2 hT sx hb;go_enter Tryz.func266,Tryz.ntmps266
 go_wp2_with fail
 refine HMK.out.mono ?_;rintro r w3⟨hb,v5,rfl,hz⟩;obtain⟨b6,A6,n6,c6,rfl,hz2⟩:=id hz;have B13:=hbl B1.out hb;have B23:=hdd (hbl B2.out hb);obtain⟨e0,e1,e2,e3,e4,e5⟩:=cells3 B13;have S1:=set3 B13 (.bool b6) (.slice A6 n6 c6) (.int .i64 (mkDy x.man x.exp).exp);have hI:IntP (fun b=>w2.heap.size<=b) (((w3.setCell ⟨w.heap.size,0,none⟩ (.bool b6)).setCell ⟨w.heap.size,1,none⟩ (.slice A6 n6 c6)).setCell ⟨w.heap.size,2,none⟩ (.int .i64 (mkDy x.man x.exp).exp)) (.agg #[.bool b6,.slice A6 n6 c6]) (mkDy x.man x.exp).man:=
  ((hz2.setCell (fun b hb=>by have:=HS.out;simp;omega) _).setCell (fun b hb=>by have:=HS.out;simp;omega) _).setCell (fun b hb=>by have:=HS.out;simp;omega) _
 have S2:=(bX (w:=w3) (g:=w.heap.size) (i:=w.heap.size+1) (by omega) (.bool b6) (.slice A6 n6 c6) (.int .i64 (mkDy x.man x.exp).exp)).trans B23.out;have hbb:Below w.heap.size w (((w3.setCell ⟨w.heap.size,0,none⟩ (.bool b6)).setCell ⟨w.heap.size,1,none⟩ (.slice A6 n6 c6)).setCell ⟨w.heap.size,2,none⟩ (.int .i64 (mkDy x.man x.exp).exp)):=(((HB.out.trans (hb.mono HB.out.size)).setCell (by simp) _).setCell (by simp) _).setCell (by simp) _;generalize hE:(mkDy x.man x.exp).exp=E at*;generalize hW:((w3.setCell ⟨w.heap.size,0,none⟩ (.bool b6)).setCell ⟨w.heap.size,1,none⟩ (.slice A6 n6 c6)).setCell ⟨w.heap.size,2,none⟩ (.int .i64 E)=w4 at*;obtain⟨c0,c1,c2,-,-,-⟩:=cells3 S1;obtain⟨xs,hx1,-,hx3,-⟩:=hI.get;have HBT:=hdd (cZ hx1);have HI:=hdd hI;have HS1:=hdd S1;have HS2:=hdd S2;have HBB:=hdd hbb;have hle:¬(0:Int)<(bits (val xs):Int)-P:=by have:=HBI.out;rw[hx3];omega
 have hle2:(bits (val xs):Int)-P<=0:=by omega
 have hwr:IntKind.i64.wrap ((bits (val xs):Int)-P)=(bits (val xs):Int)-P:=wrap_i64 (by have:=HPP.out;omega);have HWD:=fun w'=>rC (w:=w') HPP.out;clear hx1 hx3 hI S1 S2 hbb hz hz2 hb B13 hP;go_wp2_with fail
 refine HBT.out.mono ?_;rintro r w5⟨rfl,k,rfl⟩;have hd:=below_drewN w4 k;replace c0:=cbl c0 hd;replace c1:=cbl c1 hd;replace c2:=cbl c2 hd;replace HI:=hdd (HI.out.below hd);replace HS2:=hdd (hbl HS2.out hd);replace HBB:=hdd (HBB.out.trans (hd.mono HBB.out.size));clear hd HS1;generalize w4.drewN k=w5 at*;have HWD5:=hdd (HWD w5);clear HWD;go_wp2_with fail
 refine HWD5.out.mono ?_;rintro r w6⟨rfl,hw⟩;obtain rfl:=hw;obtain⟨f0,f1,f2,f3,f4,f5⟩:=cells3 HS2.out;have hD:DyP (fun b=>w2.heap.size<=b) w5 (.agg #[.bool b6,.slice A6 n6 c6,.int .i64 E]) (mkDy x.man x.exp):=⟨b6,A6,n6,c6,by rw[hE],HI.out⟩;obtain⟨HFF,hFF⟩:=aK HBB.out (g:=w.heap.size+1) (by omega) HS2.out hD (fun b hb=>by have:=HS.out;omega);replace hFF:=hdd hFF;clear hD;go_wp2;obtain⟨f0,f1,f2,-,-,-⟩:=cells3 hFF.out;refine bodyPost_ret (v:=.agg #[_,_,_]) (by simp[results,Tryz.results266,go_sem,f0,f1,f2];first|exact⟨rfl,rfl,rfl⟩|rfl) rfl ?_;exact HFF.out
theorem akW(hb:b<2^64)(hf:fin b):
 (b/2^52%2048=0->fv b=sg (fneg b) (b%2^52))/\(b/2^52%2048≠0->fv b=sg (fneg b) (b%2^52+2^52)*(2^(b/2^52%2048-1):Nat)):=by
 have hr:rung b=b%2^63:=rfl;have key:fv b=sg (fneg b) (mg (rung b)):=by
  unfold fv sr fvr sg
  cases fneg b
  . simp only[Bool.false_eq_true,if_false];rw[if_neg (by omega),Int.natAbs_natCast]
  . simp only[if_true]
    rw[Int.natAbs_neg,Int.natAbs_natCast];rcases Nat.eq_zero_or_pos (rung b)with h0|h0
    . rw[h0,o8];simp
    . rw[if_pos (by omega)]
 refine⟨fun h=> ?_,fun h=> ?_⟩
 . rw[key,jZ _ (by omega)]
   congr 1;omega
 . rw[key,iT _ (by omega),<-kZ]
   congr 1
   have e1:rung b/2^52=b/2^52%2048:=by omega
   have e2:rung b%2^52=b%2^52:=by omega
   rw[e1,e2,Nat.add_comm]
theorem akX(hb:b<18446744073709551616):(Go.bits BinOp.and IntKind.u64 (b:Int) 9223372036854775808 != 0)=fneg b:=by
 have h:=u64_and_nat b 9223372036854775808 hb (by omega);rw[show((9223372036854775808:Int))=((9223372036854775808:Nat):Int) from rfl,h,show(9223372036854775808:Nat)=2^63 from rfl];have e1:(b &&& 2^63)/2^63=b/2^63%2:=by rw[Nat.and_div_two_pow,Nat.div_self (by omega),Nat.and_one_is_mod]
 have e2:(b &&& 2^63)%2^63=0:=by rw[Nat.and_mod_two_pow,Nat.mod_self,Nat.and_zero]
 have e3:=Nat.div_add_mod (b &&& 2^63) (2^63);rw[e1,e2]at e3;unfold fneg;by_cases hc:b/2^63%2=1
 . rw[beq_iff_eq.2 hc,<-e3,hc];decide
 . rw[beq_eq_false_iff_ne.2 hc,<-e3,show b/2^63%2=0 from by omega];decide
theorem apA{m:Nat}(hm:m<4503599627370496):Go.bits BinOp.or IntKind.u64 (m:Int) 4503599627370496=((m+4503599627370496:Nat):Int):=by
 have h:=u64_or_nat m 4503599627370496 (by omega) (by omega);rw[show((4503599627370496:Int))=((4503599627370496:Nat):Int) from rfl,h]
 congr 1
 have:=Nat.two_pow_add_eq_or_of_lt (i:=52) (b:=m) hm 1;rw[Nat.or_comm,show(4503599627370496:Nat)=2^52*1 from rfl,<-this];omega
theorem adY(hb:b<2^64)(hf:fin b):(b/2^52%2048=0->mkDy (sg (fneg b) (b%2^52)) (-1074)=mkDy (fv b) (-1074))/\
 (b/2^52%2048≠0->mkDy (sg (fneg b) (b%2^52+2^52)) ((b/2^52%2048:Nat)-1+-1074)=mkDy (fv b) (-1074)):=by
 obtain⟨h1,h2⟩:=akW hb hf;refine⟨fun h=>by rw[h1 h],fun h=> ?_⟩;rw[h2 h];refine tK (j:=b/2^52%2048-1) (k:=0) (by simp) (by omega)
def sF(B:Nat)(w0:World)(d:Dy)(t:Bool)(e:Ending)(w':World):Prop:=
 Below B w0 w'/\∃v,e=.returned (.tuple #[v,.bool t])/\DyP (fun b=>B<=b) w' v d
theorem dX{w':World}{d:Dy}{t:Bool}{v:Value}(h:RetD B w0 d (.returned v) w'):sF B w0 d t (.returned (.tuple #[v,.bool t])) w':=by
 obtain⟨h1,v',e,h2⟩:=h;injection e with e;subst e;exact⟨h1,v,rfl,h2⟩
theorem sG(hb:b<18446744073709551616)(hf:fin b)(hT:Tab w):
 Calls Tryz.prog 340 #[.float .f64 b] w (sF w.heap.size w (mkDy (fv b) (-1074)) true):=by
 obtain⟨w1,hw1,hb1,hs1,b1⟩:=pro1 w (.cells #[Value.bool false,Value.slice none 0 0,.int .i64 0] 233);have F1:=hdd (jG (b:=b) (w:=w1) hb);rw[decide_eq_true hf]at F1;have hbits:=eB b;have hS:=akX hb;have hA:=zC b 52 hb (by omega);rw[show(((2^52-1:Nat)):Int)=4503599627370495 from rfl]at hA;have hX:=zC (b/4503599627370496) 11 (by omega) (by omega);rw[show(((2^11-1:Nat)):Int)=2047 from rfl,show((b/4503599627370496:Nat):Int)=(b:Int)/4503599627370496 from by omega]at hX;have hO:=apA (m:=b%2^52) (by omega);obtain⟨M1,M2⟩:=adY hb hf;rw[show b/4503599627370496%2^11=b/2^52%2048 from rfl]at hX;have hm:=beN b (show 2^52>0 by omega);have hx:=beN (b/2^52) (show 2048>0 by omega);generalize b/2^52%2048=x at*;generalize b%2^52=m at*;have hcv:IntKind.i64.wrap (x:Int)=(x:Int):=wrap_i64 (by omega);have HB:=hdd hb1;have HS:=hdd hs1;have B1:=hdd b1;have HT:=hdd (hT.below hb1);clear hb1 b1 hT hb hf;by_cases h0:x=0
 . subst h0
   have HM:=hdd (M1 rfl);obtain⟨w2,hw2,hb2,hs2,q2⟩:=pro1 w1 (.cells #[.int .u64 ((m:Nat):Int)] 198);have HN:=hdd (kQ (NatP.one (x:=m) (by unfold B64;omega) q2 (p:=AnyB) trivial));rw[hs1]at HN;have HB2:=hdd (HB.out.trans (hb2.mono HB.out.size));have B12:=hdd (aC B1.out hb2 (aD B1.out));have HT2:=hdd (HT.out.below hb2);have HS2:=hdd hs2;clear hb2 hs2 q2 HB HT;go_enter Tryz.func340,Tryz.ntmps340
   go_wp2_with fail
   refine F1.out.mono ?_;rintro e w3⟨rfl,hw⟩;obtain rfl:=hw;go_wp2_with fail
   refine HN.out.mono ?_;rintro r w3⟨hb,v3,zs,rfl,hz,tz,hvz⟩;have HMK:=hdd (dD (b:=fneg b) hz);replace HB2:=hdd (HB2.out.trans (hb.mono HB2.out.size));replace B12:=hdd (aC B12.out hb (aD B12.out));replace HT2:=hdd (HT2.out.below hb);replace HS2:=hdd (beL (beM HS2.out.symm) hb.size);have hv1:val zs=m:=by rw[hvz];simp[val]
   rw[hv1]at HMK;have hbl:bits (m)<=53:=by rw[aF];omega
   clear hb hz tz hvz hw1 hw2;go_wp2_with fail
   refine HMK.out.mono ?_;rintro r w4⟨hb,v4,rfl,hz⟩;have HMD:=hdd (dC (e:=-1074) hz (HT2.out.below hb) (by rw[bI];omega) (by omega));rw[HM.out]at HMD;replace HB2:=hdd (HB2.out.trans (hb.mono HB2.out.size));replace B12:=hdd (aC B12.out hb (aD B12.out));replace HS2:=hdd (beL HS2.out hb.size);have hw1:True:=trivial;clear hb hz;go_wp2_with fail
   refine HMD.out.mono ?_;rintro r w5⟨hb,v5,rfl,hz⟩;obtain⟨b6,A6,n6,c6,rfl,-⟩:=id hz;have B15:=aC B12.out hb (aD B12.out);obtain⟨e0,e1,e2,e3,e4,e5⟩:=cells3 B15;obtain⟨HFF,hFF⟩:=aK (HB2.out.trans (hb.mono HB2.out.size)) (g:=w.heap.size) (by omega) B15 hz (fun b hb=>by have:=HS.out;have:=HS2.out;omega);replace hFF:=hdd hFF;have HFB:=hdd (dX (t:=true) HFF.out);clear hz hb B15 HFF;go_wp2;obtain⟨f0,f1,f2,-,-,-⟩:=cells3 hFF.out;refine bodyPost_ret (v:=.tuple #[.agg #[_,_,_],_]) (by simp[results,Tryz.results340,go_sem,f0,f1,f2];first|exact⟨⟨rfl,rfl,rfl⟩,rfl⟩|rfl) rfl ?_;exact HFB.out
 . have hx0:((x:Int)==0)=false:=beq_eq_false_iff_ne.2 (by omega)
   obtain⟨M,hM⟩:∃M,M=m+2^52:=⟨_,rfl⟩;have hO2:Go.bits BinOp.or IntKind.u64 (m:Int) 4503599627370496=(M:Int):=by rw[hM];exact hO
   rw[<-hM]at M2;have hm2:M<2^53:=by omega
   clear hO hM;have HM:=hdd (M2 h0);obtain⟨w2,hw2,hb2,hs2,q2⟩:=pro1 w1 (.cells #[.int .u64 ((M:Nat):Int)] 198);have HN:=hdd (kQ (NatP.one (x:=M) (by unfold B64;omega) q2 (p:=AnyB) trivial));rw[hs1]at HN;have HB2:=hdd (HB.out.trans (hb2.mono HB.out.size));have B12:=hdd (aC B1.out hb2 (aD B1.out));have HT2:=hdd (HT.out.below hb2);have HS2:=hdd hs2;clear hb2 hs2 q2 HB HT;go_enter Tryz.func340,Tryz.ntmps340
   go_wp2_with fail
   refine F1.out.mono ?_;rintro e w3⟨rfl,hw⟩;obtain rfl:=hw;go_wp2_with fail
   refine HN.out.mono ?_;rintro r w3⟨hb,v3,zs,rfl,hz,tz,hvz⟩;have HMK:=hdd (dD (b:=fneg b) hz);replace HB2:=hdd (HB2.out.trans (hb.mono HB2.out.size));replace B12:=hdd (aC B12.out hb (aD B12.out));replace HT2:=hdd (HT2.out.below hb);replace HS2:=hdd (beL (beM HS2.out.symm) hb.size);have hv1:val zs=M:=by rw[hvz];simp[val]
   rw[hv1]at HMK;have hbl:bits M<=53:=by rw[aF];omega
   clear hb hz tz hvz hw1 hw2;go_wp2_with fail
   refine HMK.out.mono ?_;rintro r w4⟨hb,v4,rfl,hz⟩;have HMD:=hdd (dC (e:=(x:Nat)-1+-1074) hz (HT2.out.below hb) (by rw[bI];omega) (by omega));rw[HM.out]at HMD;replace HB2:=hdd (HB2.out.trans (hb.mono HB2.out.size));replace B12:=hdd (aC B12.out hb (aD B12.out));replace HS2:=hdd (beL HS2.out hb.size);have hw1:True:=trivial;clear hb hz;go_wp2_with fail
   refine HMD.out.mono ?_;rintro r w5⟨hb,v5,rfl,hz⟩;obtain⟨b6,A6,n6,c6,rfl,-⟩:=id hz;have B15:=aC B12.out hb (aD B12.out);obtain⟨e0,e1,e2,e3,e4,e5⟩:=cells3 B15;obtain⟨HFF,hFF⟩:=aK (HB2.out.trans (hb.mono HB2.out.size)) (g:=w.heap.size) (by omega) B15 hz (fun b hb=>by have:=HS.out;have:=HS2.out;omega);replace hFF:=hdd hFF;have HFB:=hdd (dX (t:=true) HFF.out);clear hz hb B15 HFF;go_wp2;obtain⟨f0,f1,f2,-,-,-⟩:=cells3 hFF.out;refine bodyPost_ret (v:=.tuple #[.agg #[_,_,_],_]) (by simp[results,Tryz.results340,go_sem,f0,f1,f2];first|exact⟨⟨rfl,rfl,rfl⟩,rfl⟩|rfl) rfl ?_;exact HFB.out
theorem aG{b:Value}(h:w.heap[g]? =some (.cells #[a,b,c,d,e,f] T (0,0))):
 w.cell? ⟨g,0,none⟩=some a/\w.cell? ⟨g,1,none⟩=some b/\w.cell? ⟨g,2,none⟩=some c/\w.cell? ⟨g,3,none⟩=some d/\w.cell? ⟨g,4,none⟩=some e/\w.cell? ⟨g,5,none⟩=some f:=by
 refine⟨?_,?_,?_,?_,?_,?_⟩<;>simp[World.cell?,h]
theorem fV{b:Value}(h:w.heap[g]? =some (.cells #[a,b,c,d,e,f] T (0,0))):
 w.frozen? ⟨g,0,none⟩=false/\w.frozen? ⟨g,1,none⟩=false/\w.frozen? ⟨g,2,none⟩=false/\w.frozen? ⟨g,3,none⟩=false/\w.frozen? ⟨g,4,none⟩=false/\w.frozen? ⟨g,5,none⟩=false:=by
 refine⟨?_,?_,?_,?_,?_,?_⟩<;>simp[World.frozen?,h]
def put6(w:World)(g:Nat)(a b c d e f:Value):World:=
 (((((w.setCell ⟨g,0,none⟩ a).setCell ⟨g,1,none⟩ b).setCell ⟨g,2,none⟩ c).setCell ⟨g,3,none⟩ d).setCell ⟨g,4,none⟩ e).setCell ⟨g,5,none⟩ f
theorem iD{b:Value}(h:w.heap[g]? =some (.cells #[a,b,c,d,e,f] T (0,0)))(u v x y z t:Value):
 (put6 w g u v x y z t).heap[g]? =some (.cells #[u,v,x,y,z,t] T (0,0)):=by
 have hg:g<w.heap.size:=(Array.getElem?_eq_some_iff.1 h).1;have h':w.heap[g]=.cells #[a,b,c,d,e,f] T (0,0):=(Array.getElem?_eq_some_iff.1 h).2;simp[put6,World.setCell,hg,Array.getElem_modify,h']
theorem eZ(hb:Below B w0 w)(hg:B<=g)(u v x y z t:Value):Below B w0 (put6 w g u v x y z t):=
 (((((hb.setCell hg _).setCell hg _).setCell hg _).setCell hg _).setCell hg _).setCell hg _
theorem vV(h:g≠i)(u v x y z t:Value):(put6 w g u v x y z t).heap[i]? =w.heap[i]? :=by
 unfold put6;rw[beK _ _ _ _ (by simp;omega),beK _ _ _ _ (by simp;omega),beK _ _ _ _ (by simp;omega),beK _ _ _ _ (by simp;omega),beK _ _ _ _ (by simp;omega),beK _ _ _ _ (by simp;omega)]
theorem iN{z0:Int}(h:IntP p w va z0)(ha:∀b,p b->b≠g)(u v x y z t:Value):IntP p (put6 w g u v x y z t) va z0:=
 (((((h.setCell (a:=⟨g,0,none⟩) ha u).setCell (a:=⟨g,1,none⟩) ha v).setCell (a:=⟨g,2,none⟩) ha x).setCell (a:=⟨g,3,none⟩) ha y).setCell (a:=⟨g,4,none⟩) ha z).setCell (a:=⟨g,5,none⟩) ha t
theorem akY(hx:DyP p w va x)(hT:Tab w)(sx:SmD x):
 Calls Tryz.prog 359 #[va] w (RetD w.heap.size w (mkDy x.man x.exp)):=by
 obtain⟨ba,A,n,c,rfl,h⟩:=hx;obtain⟨w2,hw2,hb2,hs2,b1,b2⟩:=pro2 w (.cells #[Value.bool ba,.slice A n c,.int .i64 x.exp] 233) (.cells #[Value.bool false,Value.slice none 0 0,.int .i64 0] 233);have HB:=hdd hb2;have HS:=hdd hs2;have B2:=hdd b2;obtain⟨c0,c1,c2,-,-,-⟩:=cells3 b1;have HMK:=hdd (dC (e:=x.exp) (h.below hb2) (hT.below hb2) (by have:=sx.1;omega) (by have:=sx.2;omega));clear h hb2 b1 b2 hs2 hT sx;go_enter Tryz.func359,Tryz.ntmps359
 go_wp2_with fail
 refine HMK.out.mono ?_;rintro r w3⟨hb,v5,rfl,hz⟩;obtain⟨b6,A6,n6,c6,rfl,-⟩:=id hz;have B23:=hbl B2.out hb;obtain⟨e0,e1,e2,e3,e4,e5⟩:=cells3 B23;obtain⟨HFF,hFF⟩:=aK (HB.out.trans (hb.mono HB.out.size)) (g:=w.heap.size+1) (by omega) B23 hz (fun b hb=>by have:=HS.out;omega);replace hFF:=hdd hFF;clear hz hb B23 c0 c1 c2;go_wp2;obtain⟨f0,f1,f2,-,-,-⟩:=cells3 hFF.out;refine bodyPost_ret (v:=.agg #[_,_,_]) (by simp[results,Tryz.results359,go_sem,f0,f1,f2];first|exact⟨rfl,rfl,rfl⟩|rfl) rfl ?_;exact HFF.out
end
section
open Bool renaming false_eq_true->beV,toNat->bfE,and_eq_true->bfG,or_eq_true->bfI
open Int renaming toNat_natCast->be1,lt_or_le->be5,lt_trichotomy->bfD
open Nat renaming two_pow_pos->beQ,pow_add->beS,mul_le_mul_left->beT,le_trans->beX,div_lt_iff_lt_mul->be2,mul_assoc->be3,lt_of_lt_of_le->be4,mul_comm->be7,pow_succ->be8,le_div_iff_mul_le->be9,le_of_eq->bfA,eq_zero_or_pos->bfC,le_of_lt->bfF,div_add_mod->bfH,succ_mul->bfJ,mul_pos->bfL,mod_lt->bfM
open Rat renaming natCast_le_natCast->beO,intCast_natCast->beP,natCast_mul->beR,mul_nonneg->beU,intCast_mul->beW,natCast_add->beY,mul_pos->be0,intCast_neg->be6,intCast_neg_iff->bfB,le_refl->bfK
variable{P a b e x:Int}{m:Nat}{z:Rat}
def p2(e:Int):Rat:=if 0<=e then((2^e.toNat:Nat):Rat)else 1/((2^(-e).toNat:Nat):Rat)
theorem vW(k:Nat):(0:Rat)<((2^k:Nat):Rat):=Rat.natCast_pos.2 (beQ k)
theorem fA(k:Nat):p2 k=((2^k:Nat):Rat):=by unfold p2;rw[if_pos (by omega)];rfl
theorem qE(e:Int)(k:Nat)(h:0<=e+k):p2 e*((2^k:Nat):Rat)=((2^(e+k).toNat:Nat):Rat):=by
 unfold p2
 split
 . rw[<-beR,<-beS];congr 2;omega
 . have e1:k=(-e).toNat+(e+k).toNat:=by omega
   have h2:=vW (-e).toNat
   conv=>lhs;rw[e1]
   rw[beS,beR];generalize ((2^(-e).toNat:Nat):Rat)=a at*;generalize ((2^(e+k).toNat:Nat):Rat)=b at*;grind
theorem aZ(e:Int):0<p2 e:=by
 unfold p2;split
 . exact vW _
 . exact dB (by decide) (vW _)
theorem bY(a b:Int):p2 (a+b)=p2 a*p2 b:=by
 have h1:=qE a a.natAbs (by omega);have h2:=qE b b.natAbs (by omega);have h3:=qE (a+b) (a.natAbs+b.natAbs) (by omega);have e1:(a+b+((a.natAbs+b.natAbs:Nat):Int)).toNat=(a+(a.natAbs:Nat)).toNat+(b+(b.natAbs:Nat)).toNat:=by omega
 rw[e1,beS,beS,beR,beR,<-h1,<-h2]at h3;have k1:=vW a.natAbs;have k2:=vW b.natAbs;generalize ((2^a.natAbs:Nat):Rat)=x at*;generalize ((2^b.natAbs:Nat):Rat)=y at*;have k3:=be0 k1 k2;have h4:(p2 (a+b)-p2 a*p2 b)*(x*y)=0:=by grind
 rcases Rat.mul_eq_zero.1 h4 with h5|h5<;>grind
theorem lC:p2 0=1:=by decide
theorem aoQ:p2 1=2:=by decide
theorem gI(e:Int):p2 (e+1)=2*p2 e:=by rw[bY,aoQ];grind
theorem iO(h:a<=b):p2 a<=p2 b:=by
 have e:b=a+((b-a).toNat:Nat):=by omega
 rw[e,bY,fA];have h1:(1:Rat)<=((2^(b-a).toNat:Nat):Rat):=by
  have:=beO.2 (beQ (b-a).toNat);simpa using this
 have:=beU (a:=p2 a) (b:=((2^(b-a).toNat:Nat):Rat)-1) (by have:=aZ a;grind) (by grind);grind
theorem anX(h:a<b):p2 a<p2 b:=by
 have h1:=iO (show a+1<=b by omega);rw[gI]at h1;have:=aZ a;grind
theorem ag5:p2 a<p2 b↔a<b:=by
 constructor
 . intro h
   rcases be5 a b with h1|h1
   . exact h1
   . have:=iO h1;grind
 . exact anX
def rv(d:Dy):Rat:=(d.man:Rat)*p2 d.exp
theorem lD(e:Int):rv ⟨0,e⟩=0:=by unfold rv;simp
theorem kL(x e:Int):rv (mkDy x e)=(x:Rat)*p2 e:=by
 rcases iG x e with ⟨h1,h2⟩|⟨h1,h2,h3,h4⟩
 . rw[h1,h2,lD];simp
 . unfold rv
   generalize mkDy x e=d at*;have e1:d.exp=e+((d.exp-e).toNat:Nat):=by omega
   conv=>rhs;rw[h4]
   conv=>lhs;rw[e1]
   rw[bY,fA,beW,beP];grind
def Canon(d:Dy):Prop:=mkDy d.man d.exp=d
theorem Canon.mk (x e:Int):Canon (mkDy x e):=nP x e
theorem zR(a b:Dy):rv (addD a b)=rv a+rv b:=by
 unfold addD
 split
 . rename_i h;rw[kL];unfold rv;rw[h];simp[Rat.zero_add]
 . split
   . rename_i h;rw[kL];unfold rv;rw[h];simp[Rat.add_zero]
   . rw[kL,iB,iC,Rat.intCast_add,beW,beW,beP,beP,<-fA,<-fA]
     unfold rv;have e1:p2 a.exp=p2 ((a.exp-min a.exp b.exp).toNat:Nat)*p2 (min a.exp b.exp):=by rw[<-bY];congr 1;omega
     have e2:p2 b.exp=p2 ((b.exp-min a.exp b.exp).toNat:Nat)*p2 (min a.exp b.exp):=by rw[<-bY];congr 1;omega
     rw[e1,e2];grind
theorem fP(a b:Dy):rv (mulD a b)=rv a*rv b:=by
 unfold mulD rv;have:=kL (a.man*b.man) (a.exp+b.exp);unfold rv at this;rw[this,beW,bY];grind
theorem nQ(a:Dy):rv (notD a)=-rv a:=by
 unfold notD;rw[kL];unfold rv;rw[be6];grind
theorem aY(d:Dy):(0<rv d↔0<d.man)/\(rv d<0↔d.man<0)/\(rv d=0↔d.man=0):=by
 have hp:=aZ d.exp;unfold rv;rcases bfD d.man 0 with h|h|h
 . have h1:(d.man:Rat)<0:=bfB.2 h
   have h2:=be0 (a:=-(d.man:Rat)) (b:=p2 d.exp) (by grind) hp;refine⟨⟨fun _=>by grind,fun _=>by omega⟩,⟨fun _=>h,fun _=>by grind⟩,⟨fun _=>by grind,fun _=>by omega⟩⟩
 . rw[h]
   have h0:((0:Int):Rat)=0:=rfl;refine⟨⟨fun _=>by grind,fun _=>by omega⟩,⟨fun _=>by grind,fun _=>by omega⟩,⟨fun _=>rfl,fun _=>by grind⟩⟩
 . have h1:0<(d.man:Rat):=Rat.intCast_pos.2 h
   have h2:=be0 (a:=(d.man:Rat)) (b:=p2 d.exp) h1 hp;refine⟨⟨fun _=>h,fun _=>h2⟩,⟨fun _=>by grind,fun _=>by omega⟩,⟨fun _=>by grind,fun _=>by omega⟩⟩
theorem akZ(a b:Dy):(cmpD a b<0↔rv a<rv b)/\(0<cmpD a b↔rv b<rv a):=by
 have e1:rv a=(dG a b:Rat)*p2 (min a.exp b.exp):=by
  rw[iB,beW,beP,<-fA];have:p2 a.exp=p2 ((a.exp-min a.exp b.exp).toNat:Nat)*p2 (min a.exp b.exp):=by rw[<-bY];congr 1;omega
  unfold rv;rw[this];grind
 have e2:rv b=(dH a b:Rat)*p2 (min a.exp b.exp):=by
  rw[iC,beW,beP,<-fA];have:p2 b.exp=p2 ((b.exp-min a.exp b.exp).toNat:Nat)*p2 (min a.exp b.exp):=by rw[<-bY];congr 1;omega
  unfold rv;rw[this];grind
 have hp:=aZ (min a.exp b.exp);rw[e1,e2];unfold cmpD cmpI;generalize dG a b=x at*;generalize dH a b=y at*;generalize p2 (min a.exp b.exp)=p at*;have key:∀u v:Int,u<v->(u:Rat)*p<(v:Rat)*p:=fun u v h=>by
  have h1:=Rat.intCast_lt_intCast.2 h;have:=be0 (a:=(v:Rat)-u) (b:=p) (by grind) hp;grind
 rcases bfD x y with h|h|h
 . have:=key x y h
   rw[if_pos h];exact⟨⟨fun _=>this,fun _=>by decide⟩,⟨fun h=>absurd h (by decide),fun _=>by grind⟩⟩
 . rw[h,if_neg (by omega),if_neg (by omega)]
   exact⟨⟨fun h=>absurd h (by decide),fun _=>by grind⟩,⟨fun h=>absurd h (by decide),fun _=>by grind⟩⟩
 . have:=key y x h
   rw[if_neg (by omega),if_pos h];exact⟨⟨fun h=>absurd h (by decide),fun _=>by grind⟩,⟨fun _=>this,fun _=>by decide⟩⟩
theorem iP(x:Int):((x.natAbs:Nat):Rat)=x/\0<=x\/((x.natAbs:Nat):Rat)=-x/\x<0:=by
 rcases be5 x 0 with h|h
 . right;refine⟨?_,h⟩
   rw[<-beP,<-be6];congr 1;omega
 . left;refine⟨?_,h⟩
   rw[<-beP];congr 1;omega
theorem qF(h:m≠0):p2 ((bits m:Int)-1)<=(m:Rat)/\(m:Rat)<p2 (bits m):=by
 have h1:=(aF m (bits m)).1 nlr;have h2:¬bits m<=bits m-1:=by
  have:=(not_congr (bO m)).2 h;omega
 rw[aF]at h2;have e:(bits m:Int)-1=((bits m-1:Nat):Int):=by have:=(not_congr (bO m)).2 h;omega
 rw[e,fA,fA];exact⟨beO.2 (by omega),Rat.natCast_lt_natCast.2 h1⟩
theorem ak0(d:Dy):-p2 (topD d)<rv d/\rv d<p2 (topD d):=by
 unfold topD
 split
 . rename_i h
   have:rv d=0:=(aY d).2.2.2 h;rw[this,lC];constructor<;>decide
 . rename_i h
   have h1:=(qF (m:=d.man.natAbs) (by omega)).2;have hp:=aZ d.exp;rw[bY];have h2:=be0 (a:=p2 (bits d.man.natAbs)-(d.man.natAbs:Rat)) (b:=p2 d.exp) (by grind) hp;have h3:=be0 (aZ (bits d.man.natAbs)) hp;unfold rv;rcases iP d.man with ⟨h4,h5⟩|⟨h4,h5⟩
   . have h6:=beU (a:=(d.man:Rat)) (b:=p2 d.exp) (Rat.intCast_nonneg.2 h5) (by grind)
     rw[h4]at h2;constructor<;>grind
   . have h6:=be0 (a:=-(d.man:Rat)) (b:=p2 d.exp) (by have:=bfB.2 h5;grind) hp
     rw[h4]at h2;constructor<;>grind
theorem rD(d:Dy)(h:d.man≠0):p2 (topD d-1)<=rv d\/rv d<=-p2 (topD d-1):=by
 unfold topD;rw[if_neg h,show(bits d.man.natAbs:Int)+d.exp-1=((bits d.man.natAbs:Int)-1)+d.exp from by omega,bY];have h1:=(qF (m:=d.man.natAbs) (by omega)).1;have hp:=aZ d.exp;have h2:=beU (a:=(d.man.natAbs:Rat)-p2 ((bits d.man.natAbs:Int)-1)) (b:=p2 d.exp) (by grind) (by grind);unfold rv;rcases iP d.man with ⟨h4,h5⟩|⟨h4,h5⟩<;>rw[h4]at h2
 . left;grind
 . right;grind
def outw(neg:Bool)(dir:Int):Bool:=if 0<=dir then !neg else neg
def aM(a:Dy)(P dir:Int):Dy:=
 if (bits (mkDy a.man a.exp).man.natAbs:Int)<=P then mkDy a.man a.exp else
  mkDy (sg (decide ((mkDy a.man a.exp).man<0)) ((mkDy a.man a.exp).man.natAbs/2^((bits (mkDy a.man a.exp).man.natAbs:Int)-P).toNat+(outw (decide ((mkDy a.man a.exp).man<0)) dir).toNat))
   ((mkDy a.man a.exp).exp+((bits (mkDy a.man a.exp).man.natAbs:Int)-P))
def aQ(neg:Bool)(m:Nat)(exp:Int)(more:Bool)(P dir:Int):Dy:=
 aM (mkDy (sg neg (if more then 2*m+1 else m)) (if more then exp-1 else exp)) P dir
def sgq(neg:Bool)(z:Rat):Rat:=if neg then-z else z
theorem zS(neg:Bool)(n:Nat):((sg neg n:Int):Rat)=sgq neg n:=by
 unfold sg sgq;cases neg
 . simp only[beV,if_false];exact beP n
 . simp only[if_true];rw[be6,beP]
theorem ae7{q:Nat}{p:Rat}(hp:0<p)(h1:(q:Rat)*p<=z)(h2:z<=((q:Rat)+1)*p)(neg:Bool)(dir:Int):
 (dir<0->sgq neg (q+(outw neg dir).toNat:Nat)*p<=sgq neg z)/\(0<=dir->sgq neg z<=sgq neg (q+(outw neg dir).toNat:Nat)*p)/\
 sgq neg (q+(outw neg dir).toNat:Nat)*p-sgq neg z<=p/\sgq neg z-sgq neg (q+(outw neg dir).toNat:Nat)*p<=p:=by
 have e1:((q+1:Nat):Rat)=(q:Rat)+1:=by rw[beY];rfl
 have e2:((q+0:Nat):Rat)=(q:Rat):=rfl;rcases be5 dir 0 with h|h
 . cases neg
   . have ho:outw false dir=false:=by unfold outw;rw[if_neg (by omega)]
     rw[ho];unfold sgq;simp only[bfE,cond_false,e2,beV,if_false];refine⟨fun _=>h1,fun h'=>by omega,?_,?_⟩<;>grind
   . have ho:outw true dir=true:=by unfold outw;rw[if_neg (by omega)]
     rw[ho];unfold sgq;simp only[bfE,cond_true,e1,if_true];refine⟨fun _=> ?_,fun h'=>by omega,?_,?_⟩<;>grind
 . cases neg
   . have ho:outw false dir=true:=by unfold outw;rw[if_pos h];rfl
     rw[ho];unfold sgq;simp only[bfE,cond_true,e1,beV,if_false];refine⟨fun h'=>by omega,fun _=>h2,?_,?_⟩<;>grind
   . have ho:outw true dir=false:=by unfold outw;rw[if_pos h];rfl
     rw[ho];unfold sgq;simp only[bfE,cond_false,e2,if_true];refine⟨fun h'=>by omega,fun _=> ?_,?_,?_⟩<;>grind
theorem zT(hx:x≠0)(e:Int):topD (mkDy x e)=bits x.natAbs+e:=by
 rcases iG x e with ⟨h1,h2⟩|⟨h1,h2,h3,h4⟩
 . exact absurd h2 hx
 . unfold topD
   rw[if_neg h2];generalize mkDy x e=d at*;have:x.natAbs=d.man.natAbs*2^(d.exp-e).toNat:=by
    conv=>lhs;rw[h4]
    rw[Int.natAbs_mul,Int.natAbs_natCast]
   rw[this,jS (by omega)];omega
theorem ab2{P:Nat}(e:Int)(hP:1<=P)(hx:x.natAbs<=2^P):bits (mkDy x e).man.natAbs<=P:=by
 rcases Nat.lt_or_eq_of_le hx with h|h
 . exact beX (qC x e) ((aF _ _).2 h)
 . unfold mkDy
   have h0:x≠0:=by have:=beQ P;omega
   rw[if_neg h0,h];have:ctz (2^P)=P:=by have:=yQ P 0;simpa using this
   rw[this,Nat.div_self (beQ P),bI];have:bits 1<=P:=(aF 1 P).2 (be4 (by decide) (Nat.pow_le_pow_right (n:=2) (by omega) hP));exact this
theorem oH(m n:Nat):(m/2^n)*2^n<=m/\m<(m/2^n+1)*2^n:=by
 have h1:=bfH m (2^n);have h2:=bfM m (beQ n);rw[be7]at h1;rw[bfJ];omega
theorem ak1{n P:Nat}(h:bits m=n+P):m/2^n<2^P:=by
 rw[be2 (beQ n),<-beS];refine(aF m _).1 (by omega)
theorem vX{a:Dy}(dir:Int)(hP:1<=P):Canon (aM a P dir)/\(bits (aM a P dir).man.natAbs:Int)<=P/\
 ((aM a P dir).man≠0->(mkDy a.man a.exp).exp<=(aM a P dir).exp/\topD (aM a P dir)<=topD (mkDy a.man a.exp)+1):=by
 unfold aM
 split
 . rename_i h
   exact⟨Canon.mk _ _,h,fun _=>⟨Int.le_refl _,by omega⟩⟩
 . rename_i h
   generalize hd:mkDy a.man a.exp=d at*;have hm0:d.man≠0:=by
    intro h0;rw[h0]at h;apply h;show((bits 0:Nat):Int)<=P;have:bits 0=0:=rfl;omega
   obtain⟨n,hn⟩:∃n:Nat,(bits d.man.natAbs:Int)-P=n:=⟨((bits d.man.natAbs:Int)-P).toNat,by omega⟩;obtain⟨Q,hQ⟩:∃Q:Nat,P=Q:=⟨P.toNat,by omega⟩;subst hQ;rw[hn,be1];have hb:bits d.man.natAbs=n+Q:=by omega
   have hq:=ak1 hb;generalize hx:sg (decide (d.man<0)) (d.man.natAbs/2^n+(outw (decide (d.man<0)) dir).toNat)=x;have hxn:x.natAbs<=2^Q:=by
    rw[<-hx,bI];have:=Bool.toNat_le (outw (decide (d.man<0)) dir);omega
   refine⟨Canon.mk _ _,by have:=ab2 (e:=d.exp+(n:Int)) (by omega) hxn;omega,fun hne=> ?_⟩;rcases iG x (d.exp+n)with ⟨h1,h2⟩|⟨h1,h2,h3,h4⟩
   . rw[h1]at hne;exact absurd rfl hne
   . refine⟨by omega,?_⟩
     rw[zT h1];have h5:topD d=bits d.man.natAbs+d.exp:=by unfold topD;rw[if_neg hm0]
     rw[h5,hb];have:bits x.natAbs<=Q+1:=(aF _ _).2 (by rw[be8];have:=beQ Q;omega);omega
theorem jD(a:Dy)(dir:Int)(hP:1<=P):(dir<0->rv (aM a P dir)<=rv a)/\(0<=dir->rv a<=rv (aM a P dir))/\
 rv (aM a P dir)-rv a<=p2 (topD (mkDy a.man a.exp)-P)/\rv a-rv (aM a P dir)<=p2 (topD (mkDy a.man a.exp)-P):=by
 have hv:rv (mkDy a.man a.exp)=rv a:=kL _ _;rw[<-hv];unfold aM
 split
 . have:=aZ (topD (mkDy a.man a.exp)-P)
   exact⟨fun _=>bfK,fun _=>bfK,by grind,by grind⟩
 . rename_i h
   generalize mkDy a.man a.exp=d at*;clear hv;have hm0:d.man≠0:=by
    intro h0;rw[h0]at h;apply h;show((bits 0:Nat):Int)<=P;have:bits 0=0:=rfl;omega
   obtain⟨n,hn⟩:∃n:Nat,(bits d.man.natAbs:Int)-P=n:=⟨((bits d.man.natAbs:Int)-P).toNat,by omega⟩;rw[hn,be1,kL,zS];have hb:=oH d.man.natAbs n;have hp:=aZ (d.exp+n);have hz:rv d=sgq (decide (d.man<0)) ((d.man.natAbs:Rat)*p2 d.exp):=by
    unfold rv sgq;rcases iP d.man with ⟨h4,h5⟩|⟨h4,h5⟩<;>rw[h4]
    . rw[if_neg (by simp;omega)]
    . rw[if_pos (by simpa using h5)];grind
   have e1:p2 (d.exp+n)=((2^n:Nat):Rat)*p2 d.exp:=by rw[bY,fA];grind
   have c1:=beO.2 hb.1;have c2:=beO.2 (bfF hb.2);rw[beR]at c1 c2;have hpe:=aZ d.exp;have k:=ae7 (q:=d.man.natAbs/2^n) (p:=p2 (d.exp+n)) (z:=(d.man.natAbs:Rat)*p2 d.exp) hp (by
    rw[e1];have:=beU (a:=(d.man.natAbs:Rat)-((d.man.natAbs/2^n:Nat):Rat)*((2^n:Nat):Rat)) (b:=p2 d.exp) (by grind) (by grind);grind) (by
    rw[e1];rw[beY]at c2;have:=beU (a:=(((d.man.natAbs/2^n:Nat):Rat)+((1:Nat):Rat))*((2^n:Nat):Rat)-(d.man.natAbs:Rat)) (b:=p2 d.exp) (by grind) (by grind);have e2:((1:Nat):Rat)=1:=rfl;grind) (decide (d.man<0)) dir
   rw[<-hz]at k;have e3:topD d-P=d.exp+n:=by unfold topD;rw[if_neg hm0];omega
   rw[e3];exact k
theorem ab3(h:m≠0):bits (2*m+1)=bits m+1:=by
 have h1:=xF (2*m+1) (by omega);rw[h1,show(2*m+1)/2=m from by omega];omega
theorem ab4(neg:Bool)(m:Nat)(e:Int):mkDy (sg neg (2*m+1)) e=⟨sg neg (2*m+1),e⟩:=by
 unfold mkDy;have h0:sg neg (2*m+1)≠0:=by cases neg<;>simp[sg]<;>omega
 have hc:ctz (sg neg (2*m+1)).natAbs=0:=by
  rw[bI];have:=yQ 0 m;simpa using this
 have hn:decide (sg neg (2*m+1)<0)=neg:=by
  rw[uQ];cases neg<;>simp
 rw[if_neg h0,hc,hn,bI];simp
theorem lZ{neg:Bool}{more:Bool}(dir:Int)(hP:1<=P)(h1:(m:Rat)*p2 e<=z)(h2:z<=((m:Rat)+1)*p2 e)(h3:more=false->z=(m:Rat)*p2 e)(h4:more=true->P+2<=bits m):
 (dir<0->rv (aQ neg m e more P dir)<=sgq neg z)/\(0<=dir->sgq neg z<=rv (aQ neg m e more P dir))/\
 rv (aQ neg m e more P dir)-sgq neg z<=p2 (bits m+e-P)/\sgq neg z-rv (aQ neg m e more P dir)<=p2 (bits m+e-P):=by
 unfold aQ
 cases more
 . simp only[beV,if_false]
   have hz:=h3 rfl;have hr:rv (mkDy (sg neg m) e)=sgq neg z:=by rw[kL,zS,hz];unfold sgq;cases neg<;>grind
   have k:=jD (mkDy (sg neg m) e) (P:=P) dir hP;rw[hr,nP]at k;by_cases hm:m=0
   . subst hm
     have e0:mkDy (sg neg 0) e=⟨0,0⟩:=by cases neg<;>exact aT e
     have e1:aM (mkDy (sg neg 0) e) P dir=⟨0,0⟩:=by
      rw[e0];unfold aM;rw[aT,if_pos (by show((bits 0:Nat):Int)<=P;have:bits 0=0:=rfl;omega)]
     rw[e1,lD]at k|-;have hz0:z=0:=by rw[hz];simp
     have:=aZ ((bits 0:Int)+e-P);rw[hz0]at k|-;have:sgq neg 0=0:=by unfold sgq;cases neg<;>simp
     rw[this]at k|-;exact⟨k.1,k.2.1,by grind,by grind⟩
   . have ht:topD (mkDy (sg neg m) e)=bits m+e:=by
      rw[zT (by cases neg<;>simp[sg]<;>omega),bI]
     rw[ht]at k;exact k
 . simp only[if_true]
   have hb:=h4 rfl;have hm:m≠0:=by intro h;rw[h]at hb;have:bits 0=0:=rfl;omega
   unfold aM;rw[ab4,ab4,bI,ab3 hm];simp only;obtain⟨n,hn⟩:∃n:Nat,((bits m+1:Nat):Int)-P=n:=⟨(((bits m+1:Nat):Int)-P).toNat,by omega⟩;have hng:decide (sg neg (2*m+1)<0)=neg:=by
    rw[uQ];cases neg<;>simp
   rw[if_neg (by omega),hn,be1,hng,kL,zS];obtain⟨j,hj⟩:∃j,n=j+1:=⟨n-1,by omega⟩;have hd:=oH (2*m+1) n;rw[hj,be8]at hd;have hd1:((2*m+1)/(2^j*2))*2^j<=m:=by
    have:=hd.1;rw[<-be3]at this;omega
   have hd2:m+1<=((2*m+1)/(2^j*2)+1)*2^j:=by
    have:=hd.2;rw[<-be3]at this;omega
   rw[hj,be8];have c1:=beO.2 hd1;have c2:=beO.2 hd2;rw[beR]at c1 c2;rw[beY,beY]at c2;have e5:((1:Nat):Rat)=1:=rfl;rw[e5]at c2;have e1:p2 (e-1+((j+1:Nat):Int))=((2^j:Nat):Rat)*p2 e:=by
    rw[show e-1+((j+1:Nat):Int)=(j:Int)+e from by omega,bY,fA]
   have hpe:=aZ e;have k:=ae7 (q:=(2*m+1)/(2^j*2)) (p:=p2 (e-1+((j+1:Nat):Int))) (z:=z) (aZ _) (by
    rw[e1];have:=beU (a:=(m:Rat)-((((2*m+1)/(2^j*2)):Nat):Rat)*((2^j:Nat):Rat)) (b:=p2 e) (by grind) (by grind);grind) (by
    rw[e1];have:=beU (a:=(((((2*m+1)/(2^j*2)):Nat):Rat)+1)*((2^j:Nat):Rat)-((m:Rat)+1)) (b:=p2 e) (by grind) (by grind);grind) neg dir
   have e3:(bits m:Int)+e-P=e-1+((j+1:Nat):Int):=by omega
   rw[e3];exact k
theorem qG{neg:Bool}{more:Bool}(dir:Int)(hP:1<=P):Canon (aQ neg m e more P dir)/\(bits (aQ neg m e more P dir).man.natAbs:Int)<=P/\
 ((aQ neg m e more P dir).man≠0->e-1<=(aQ neg m e more P dir).exp/\topD (aQ neg m e more P dir)<=bits m+e+1):=by
 unfold aQ;obtain⟨k1,k2,k3⟩:=vX (a:=mkDy (sg neg (if more then 2*m+1 else m)) (if more then e-1 else e)) (P:=P) dir hP;refine⟨k1,k2,fun h=> ?_⟩;obtain⟨j1,j2⟩:=k3 h;rw[nP]at j1 j2;rcases iG (sg neg (if more then 2*m+1 else m)) (if more then e-1 else e)with ⟨h1,h2⟩|⟨h1,h2,h3,h4⟩
 . exfalso;apply h
   rw[h1];unfold aM;rw[aT,if_pos (by show((bits 0:Nat):Int)<=P;have:bits 0=0:=rfl;omega)]
 . have ht:=zT h1 (if more then e-1 else e)
   rw[ht,bI]at j2
   cases more
   . simp only[beV,if_false]at*
     exact⟨by omega,by omega⟩
   . simp only[if_true]at*
     by_cases hm:m=0
     . subst hm
       have:bits (2*0+1)=1:=by decide
       have:bits 0=0:=rfl;exact⟨by omega,by omega⟩
     . rw[ab3 hm]at j2
       exact⟨by omega,by omega⟩
def quoA(a b:Nat)(P:Int):Int:=P+2-bits a+bits b
def quoX(a b:Nat)(P:Int):Nat:=if 0<=quoA a b P then a*2^(quoA a b P).toNat else a/2^(-quoA a b P).toNat
def quoM(a b:Nat)(P:Int):Bool:=(decide (quoA a b P<0)&&decide ((ctz a:Int)< -quoA a b P))||decide (0<bits (quoX a b P%b))
def quoD(x y:Dy)(P dir:Int):Dy:=if x.man=0 then⟨0,0⟩else
 aQ (decide (x.man<0) != decide (y.man<0)) (quoX x.man.natAbs y.man.natAbs P/y.man.natAbs) (x.exp-y.exp-quoA x.man.natAbs y.man.natAbs P) (quoM x.man.natAbs y.man.natAbs P) P dir
theorem am4{A B:Nat}(hB:0<B):((A/B:Nat):Rat)*(B:Rat)<=A/\(A:Rat)<=(((A/B:Nat):Rat)+1)*(B:Rat)/\(A%B=0->(A:Rat)=((A/B:Nat):Rat)*(B:Rat)):=by
 have h1:=bfH A B;have h2:=bfM A hB;have e5:((1:Nat):Rat)=1:=rfl;refine⟨?_,?_,fun h=> ?_⟩
 . rw[<-beR];exact beO.2 (by rw[be7]at h1;omega)
 . rw[<-e5,<-beY,<-beR];exact beO.2 (by rw[be7]at h1;rw[bfJ];omega)
 . rw[<-beR];congr 1;rw[be7]at h1;omega
theorem ae8{a k:Nat}(h0:a≠0):k<=ctz a↔a%2^k=0:=by
 obtain⟨j,m,e,hj⟩:=rA a h0;rw[hj];constructor
 . intro h
   obtain⟨d,rfl⟩:∃d,j=k+d:=⟨j-k,by omega⟩;rw[e,beS,be3];exact Nat.mul_mod_right _ _
 . intro h
   rcases Nat.lt_or_ge j k with h1|h1
   . exfalso
     obtain⟨d,rfl⟩:∃d,k=j+1+d:=⟨k-j-1,by omega⟩;obtain⟨c,hc⟩:=Nat.dvd_of_mod_eq_zero h;rw[e,beS,be8,be3,be3]at hc;have:=Nat.eq_of_mul_eq_mul_left (beQ j) hc;omega
   . exact h1
theorem ab5{a b:Nat}(ha:a≠0)(hb:b≠0)(hP:1<=P):∃A B:Nat,0<B/\quoX a b P/b=A/B/\(quoM a b P=true↔A%B≠0)/\(A:Rat)*(b:Rat)=(a:Rat)*(B:Rat)*p2 (quoA a b P)/\P+2<=bits (A/B)/\(bits (A/B):Int)<=P+3:=by
 have hba:=(not_congr (bO a)).2 ha;have hbb:=(not_congr (bO b)).2 hb;have a1:=(aF a (bits a)).1 nlr;have a2:2^(bits a-1)<=a:=by
  have:¬bits a<=bits a-1:=by omega
  rw[aF]at this;omega
 have b1:=(aF b (bits b)).1 nlr;have b2:2^(bits b-1)<=b:=by
  have:¬bits b<=bits b-1:=by omega
  rw[aF]at this;omega
 obtain⟨Q,hQ⟩:∃Q:Nat,P=Q:=⟨P.toNat,by omega⟩;subst hQ;have hn:quoA a b Q=(Q:Int)+2-bits a+bits b:=rfl;unfold quoX quoM;unfold quoX;rcases be5 (quoA a b Q) 0 with h|h
 . obtain⟨k,hk⟩:∃k:Nat,quoA a b Q=-(k:Int):=⟨(-quoA a b Q).toNat,by omega⟩
   rw[if_neg (by omega),hk,show(-(-(k:Int))).toNat=k from by omega];have hpb:0<2^k*b:=bfL (beQ k) (by omega);refine⟨a,2^k*b,hpb,Nat.div_div_eq_div_mul _ _ _,?_,?_,?_,?_⟩
   . have e1:=Nat.mod_mul (x:=a) (a:=2^k) (b:=b)
     have e2:=ae8 (k:=k) ha;have e3:=bO (a/2^k%b);have hp:=beQ k;rw[e1];simp only[bfI,bfG,decide_eq_true_eq];constructor
     . rintro(⟨g1,g2⟩|g)
       . have:¬k<=ctz a:=by omega
         rw[e2]at this;omega
       . have g3:a/2^k%b≠0:=fun g3=>by have:=e3.2 g3;omega
         have:=bfL hp (show 0<a/2^k%b by omega);omega
     . intro g
       by_cases g1:a%2^k=0
       . right
         rcases bfC (bits (a/2^k%b))with g2|g2
         . rw[e3.1 g2,g1]at g;simp at g
         . exact g2
       . left
         have:¬k<=ctz a:=by rw[e2];exact g1
         omega
   . have e1:=qE (-(k:Int)) k (by omega)
     rw[show(-(k:Int)+(k:Int)).toNat=0 from by omega]at e1;rw[beR];have e4:((2^0:Nat):Rat)=1:=rfl;rw[e4]at e1;have:(a:Rat)*(((2^k:Nat):Rat)*(b:Rat))*p2 (-(k:Int))=(a:Rat)*(b:Rat)*(p2 (-(k:Int))*((2^k:Nat):Rat)):=by grind
     rw[this,e1];grind
   . have:2^(Q+1)<=a/(2^k*b):=by
      rw[be9 hpb];refine beX (beT _ (beT _ (bfF b1))) (beX (bfA ?_) a2);rw[<-beS,<-beS];congr 1;omega
     have h5:¬bits (a/(2^k*b))<=Q+1:=by rw[aF];omega
     omega
   . have:a/(2^k*b)<2^(Q+3):=by
      rw[be2 hpb];refine be4 a1 (beX (bfA ?_) (beT _ (beT _ b2)));rw[<-beS,<-beS];congr 1;omega
     have h5:=(aF _ _).2 this;omega
 . obtain⟨k,hk⟩:∃k:Nat,quoA a b Q=(k:Int):=⟨(quoA a b Q).toNat,by omega⟩
   rw[if_pos h,hk,be1];refine⟨a*2^k,b,by omega,rfl,?_,?_,?_,?_⟩
   . have e3:=bO (a*2^k%b)
     simp only[bfI,bfG,decide_eq_true_eq];constructor
     . rintro(⟨g1,g2⟩|g)
       . omega
       . intro g3;have:=e3.2 g3;omega
     . intro g;right
       rcases bfC (bits (a*2^k%b))with g2|g2
       . exact absurd (e3.1 g2) g
       . exact g2
   . rw[fA,beR];grind
   . have:2^(Q+1)<=a*2^k/b:=by
      rw[be9 (by omega)];refine beX (beT _ (bfF b1)) (beX (bfA ?_) (Nat.mul_le_mul_right _ a2));rw[<-beS,<-beS];congr 1;omega
     have h5:¬bits (a*2^k/b)<=Q+1:=by rw[aF];omega
     omega
   . have:a*2^k/b<2^(Q+3):=by
      rw[be2 (by omega)];refine be4 ((Nat.mul_lt_mul_right (beQ k)).2 a1) (beX (bfA ?_) (beT _ b2));rw[<-beS,<-beS];congr 1;omega
     have h5:=(aF _ _).2 this;omega
end
end Go.Proofs.YtigoiiekebccnaaGreatDoor
