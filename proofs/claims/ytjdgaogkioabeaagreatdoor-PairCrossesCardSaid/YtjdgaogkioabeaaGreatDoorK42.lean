/- A part of the proof: contracts of functions and plain laws (PrG, PrH, ArX, ArY, PrT, PrX, PrY, AlvP). -/
import Derived.Test.YtjdgaogkioabeaaGreatDoorK41
import Derived.Test.YtjdgaogkioabeaaGreatDoorK36
import Derived.Test.YtjdgaogkioabeaaGreatDoorK33
set_option linter.unusedVariables false
set_option linter.unusedSimpArgs false
set_option maxHeartbeats 25600000
set_option maxRecDepth 100000
namespace Go.Proofs.YtjdgaogkioabeaaGreatDoor
section
open Go.RowKit Go.Maps
open Re (rat ofI ofN)
open Int renaming sub_zero->arN,sign_mul->arO
variable{z:Int}
structure Mark where
 n0:Nat
 n1:Nat
 p0:Nat
 p1:Nat
 t:Int
def lexs(u v:Int):Int:=cmpP u v 0 0
theorem al2(x y u v s t:Int):cmpP (x+s*u) (y+s*v) (x+t*u) (y+t*v)=(s-t).sign*lexs u v:=by
 unfold lexs cmpP;rw[show x+s*u-(x+t*u)=(s-t)*u by grind,show y+s*v-(y+t*v)=(s-t)*v by grind,arO,arO,arN,arN];by_cases h:(s-t).sign=0
 . rw[h];simp
 . by_cases h2:u.sign=0
   . rw[h2];simp
   . rw[if_neg (by simp[h,h2]),if_neg h2]
section
variable{g wa wb wc:Nat}{A B C x y u v:Int}{K0:List (Ex×Nat)}{a b c d:Mark}
theorem af4(h:u≠0\/v≠0):lexs u v=1\/lexs u v=-1:=by
 unfold lexs;rcases al1 u v 0 0 with e|e|e
 . exact Or.inr e
 . unfold cmpP at e
   rw[arN,arN]at e
   split at e
   . rename_i h0
     have:=Int.sign_eq_zero_iff_zero.1 h0;have:=Int.sign_eq_zero_iff_zero.1 e;omega
   . rename_i h0;exact(h0 e).elim
 . exact Or.inl e
end
theorem wrap_small(h:z.natAbs<=1000):wrap64 z=z:=by unfold wrap64;omega
theorem aqN(h:z.natAbs<=1000):IntKind.i64.wrap z=z:=IntWalk.i64_in _ (by omega)
theorem flw'{a:Int}{n:Nat}(h:a.natAbs<=n)(hn:n<=1000:=by decide):Iw (fl a) a:=⟨⟨(rO (by omega)).1,(rO (by omega)).2.1⟩,(rO (by omega)).2.2⟩
end
section
open Go.RowKit Go.Maps Go.Stop Go.Extern
open List renaming sublist_append_right->arQ,mem_cons_of_mem->arR,mem_append_right->arS,mem_append_left->arT,mem_append->arU,mem_cons->arV,map_cons->arW
open Nat renaming le_trans->arP
variable{Q:List (Ex×Nat)->List (Nat×Nat)->Prop}
section
variable{g i j k l m n ca cb cc i' j' k' l' ca' cb' cc':Nat}{kd kd':Int}{A1 A2 B1 B2 C1 C2 D1 D2 X1 X2 L1 L2 H1 H2:Ex}{K0 KA KB:List (Ex×Nat)}
theorem aq6(h:FnOk 53 g 7 #[.pointer (some ⟨g,0,none⟩),curV 1 ca cb cc,curV 1 ca' cb' cc'] [] (fun _=>.tuple #[.bool false,.nilIface]) []):
 FnOk 35 g 7 #[.pointer (some ⟨g,0,none⟩),curV 1 ca cb cc,curV 1 ca' cb' cc'] [] (fun _=>.tuple #[.bool false,.nilIface]) []:=fun s N K L W hR hN hK=>by
 obtain⟨w1,hw1,b1,b2,hR⟩:=hR.box2 (curO 1 ca cb cc) (curO 1 ca' cb' cc');obtain⟨x0,x1,x2,x3⟩:=aD b1;obtain⟨z0,z1,z2,z3⟩:=aD b2;have HC:=hdd (h.use hR hN (fun p hp=>by cases hp));clear b1 b2 hR h hN hK;go_enter Tryz.func35,Tryz.ntmps35
 go_wp2_with fail
 refine HC.out.mono ?_;rintro e w2⟨rfl,hR⟩;have HF:Hid (RtN s g (N+7) K L (fun _=>.tuple #[.bool false,.nilIface]) [] (.returned (.tuple #[.bool false,.nilIface])) w2):=hdd (by exact RtN.fin (L1:=[_,_]) hR (by omega));clear hR;go_wp2
 go_ret2
 exact HF.out
theorem aqX(hS:FnOk 35 g 7 #[.pointer (some ⟨g,0,none⟩),curV 1 ca cb cc,curV 1 ca' cb' cc'] [] (fun _=>.tuple #[.bool false,.nilIface]) [])(hA:FnOk 53 g 7 #[.pointer (some ⟨g,0,none⟩),curV 1 ca cb cc,curV 1 ca' cb' cc'] [] (fun _=>.tuple #[.bool false,.nilIface]) [])
 (hX:FnOk 72 g 30 #[.pointer (some ⟨g,0,none⟩),curV 1 ca cb cc,curV 1 ca' cb' cc'] [] (fun ks=>.tuple #[bD g (ks.getD 0 0) (ks.getD 1 0),.nilIface]) [X1,X2]):
 sZ 56 g 44 #[.pointer (some ⟨g,0,none⟩),curV 1 ca cb cc,curV 1 ca' cb' cc'] [] (qO g false (fun K1 ps=>∃n0 n1,ps=[(n0,n1)]/\(X1,n0)∈K1/\(X2,n1)∈K1)):=fun s N K L W hR hN hK=>by
 obtain⟨w1,hw1,b1,b2,hR⟩:=hR.box2 (curO 1 ca cb cc) (curO 1 ca' cb' cc');obtain⟨x0,x1,x2,x3⟩:=aD b1;obtain⟨z0,z1,z2,z3⟩:=aD b2;have HC:=hdd (hS.use hR (by omega) (fun p hp=>by cases hp));have HA:=hdd hA;have HX:=hdd hX;have HN:=hdd hN;clear b1 b2 hR hS hA hX hN hK;go_enter Tryz.func56,Tryz.ntmps56
 go_wp2_with fail
 refine HC.out.mono ?_;rintro e w2⟨rfl,hR⟩;obtain⟨x0,x1,x2,x3⟩:=aD (hR.at m1);obtain⟨z0,z1,z2,z3⟩:=aD (hR.at m0);have HC:=hdd (HA.out.use hR (by have:=HN.out;omega) (fun p hp=>by cases hp));clear hR;go_wp2_with fail
 refine HC.out.mono ?_;rintro e w3⟨rfl,hR⟩;obtain⟨x0,x1,x2,x3⟩:=aD (hR.at m1);obtain⟨z0,z1,z2,z3⟩:=aD (hR.at m0);have HC:=hdd (HX.out _ _ _ _ _ hR (by have:=HN.out;omega) (fun p hp=>by cases hp));clear hR;go_wp2_with fail
 refine HC.out.mono ?_;rintro e w4⟨ks,hl,rfl,hR⟩;obtain⟨n0,n1,rfl⟩:∃a b,ks=[a,b]:=by
  match ks,hl with
  |[a,b],_=>exact⟨a,b,rfl⟩
 replace hR:Run s g (N+7+7+30) ([(X1,n0),(X2,n1)]++K) _ w4:=hR;obtain⟨w5,hw5,b1,hR⟩:=hR.box1 (dN g n0 n1);obtain⟨y0,y1,y2,y3⟩:=aD b1;obtain⟨w6,hw6,-,hR⟩:=hR.box1 (dN g n0 n1);have HF:Hid (∃K1 l1,qO g false (fun K1 ps=>∃n0 n1,ps=[(n0,n1)]/\(X1,n0)∈K1/\(X2,n1)∈K1) K1 l1 (.returned (.tuple #[.slice (some ⟨w5.heap.size,0,none⟩) 1 1,.bool false,.nilIface]))/\Run s g (N+44) (K1++K) (l1++L) w6):=hdd ⟨[(X1,n0),(X2,n1)],[(w5.heap.size,dN g n0 n1)],⟨_,[(n0,n1)],⟨n0,n1,rfl,m0,m1⟩,rfl,⟨rfl,Or.inr ⟨_,1,_,rfl,rfl,Nat.le_refl _,by decide,rfl,rfl⟩⟩⟩,(hR.subl (List.Sublist.cons_cons _ (arQ [_,_,_] _)))⟩;clear hR b1;go_wp2;exact bodyPost_ret (v:=.tuple #[.slice (some ⟨w5.heap.size,0,none⟩) 1 1,.bool false,.nilIface]) (by simp[results,Tryz.results56,go_sem]) rfl HF.out
theorem aqV(h1:kS ca cb cc)(h2:kS ca' cb' cc')(h:sZ 56 g 44 #[.pointer (some ⟨g,0,none⟩),curV 1 ca cb cc,curV 1 ca' cb' cc'] [] (qO g false Q)):
 sZ 38 g 44 #[.pointer (some ⟨g,0,none⟩),curV 1 ca cb cc,curV 1 ca' cb' cc'] [] (qO g false Q):=fun s N K L W hR hN hK=>by
 obtain⟨w1,hw1,b1,b2,hR⟩:=hR.box2 (curO 1 ca cb cc) (curO 1 ca' cb' cc');obtain⟨x0,x1,x2,x3⟩:=aD b1;obtain⟨z0,z1,z2,z3⟩:=aD b2;have HC:=hdd (RetV.run (c:=fun _=>True) hR (aq7 (w:=w1) (fun w=>yR h1) (fun w=>yR h2)));have HX:=hdd h;have HN:=hdd hN;clear b1 b2 hR h h1 h2 hN hK;go_enter Tryz.func38,Tryz.ntmps38
 go_wp2_with fail
 refine HC.out.mono ?_;rintro e w2⟨rfl,hR⟩;obtain⟨x0,x1,x2,x3⟩:=aD (hR.at m1);obtain⟨z0,z1,z2,z3⟩:=aD (hR.at m0);have HC:=hdd (HX.out _ _ _ _ _ hR HN.out (fun p hp=>by cases hp));clear hR;go_wp2_with fail
 refine HC.out.mono ?_;rintro e w4⟨K1,l1,⟨v,ps,hq,rfl,ho⟩,hR⟩;obtain⟨pp,cp,rfl⟩:=ho.slice;have HF:Hid (∃K1 l1,qO g false Q K1 l1 (.returned (.tuple #[.slice pp ps.length cp,.bool false,.nilIface]))/\Run s g (N+44) (K1++K) (l1++L) w4):=hdd ⟨K1,l1,⟨_,ps,hq,rfl,ho⟩,hR.subl (List.Sublist.append (List.Sublist.refl l1) (arQ [_,_] L))⟩;clear hR hq ho HC;go_wp2;exact bodyPost_ret (v:=.tuple #[.slice pp ps.length cp,.bool false,.nilIface]) (by simp[results,Tryz.results38,go_sem]) rfl HF.out
theorem aqQ{c1 c2 c3:Int}{l0 l1 h0 h1:Nat}(q1:gQ PT A1 A2 B1 B2 c1)(q2:gQ PT X1 X2 L1 L2 c2)(q3:gQ PT X1 X2 H1 H2 c3)
 (hs:decide (0<c1)=true/\((l0=k/\l1=l)/\h0=i/\h1=j)\/decide (0<c1)=false/\((l0=i/\l1=j)/\h0=k/\h1=l)) (hm:∀p∈[(L1,l0),(L2,l1),(H1,h0),(H2,h1)],p∈[(A1,i),(A2,j),(B1,k),(B2,l),(X1,m),(X2,n)]):
 FnOk 78 g 6 #[bD g i j,bD g k l,bD g m n] [(A1,i),(A2,j),(B1,k),(B2,l),(X1,m),(X2,n)] (fun _=>.tuple #[.bool (!decide (c2<0)&&decide (c3<=0)),.nilIface]) []:=fun s N K L W hR hN hK=>by
 obtain⟨w1,hw1,-,-,hR⟩:=hR.box2 (dN g i j) (dN g k l);obtain⟨w2,hw2,-,hR⟩:=hR.box1 (dN g m n);obtain⟨x0,x1,x2,x3⟩:=aD (hR.at m2);obtain⟨y0,y1,y2,y3⟩:=aD (hR.at m1);obtain⟨z0,z1,z2,z3⟩:=aD (hR.at m0);have HC:=hdd (hR.cmpS (by omega) (hK _ m0) (hK _ m1) (hK _ m2) (hK _ m3) q1);have Q2:=hdd q2;have Q3:=hdd q3;have HS:=hdd hs;have HM:=hdd hm;have HN:=hdd hN;have HK:=hdd hK;clear hR q1 q2 q3 hs hm hN hK;go_enter Tryz.func78,Tryz.ntmps78
 go_wp2_with fail
 refine HC.out.mono ?_;rintro e w3⟨rfl,hR⟩;obtain⟨x0,x1,x2,x3⟩:=aD (hR.at m2);obtain⟨y0,y1,y2,y3⟩:=aD (hR.at m1);obtain⟨z0,z1,z2,z3⟩:=aD (hR.at m0);have f1:=frzI (hR.at m2);have f2:=frzI (hR.at m1);have hne:W.heap.size≠W.heap.size+1:=by omega
 have hne':=Ne.symm hne;have HR:=hdd hR;clear hR
 cases e1:decide (0<c1)
 case' true=>
  obtain⟨⟨rfl,rfl⟩,rfl,rfl⟩:=aoL e1 HS.out
  go_upto_region 6 with fail
  obtain⟨w4,hw4,hR⟩:=HR.out.put4 (L1:=[_,_]) (.pointer (some ⟨g,0,none⟩)) (.int .i64 (l0:Int)) (.pointer (some ⟨g,0,none⟩)) (.int .i64 (l1:Int));obtain⟨w5,hw5,hR⟩:=hR.put4 (L1:=[_]) (.pointer (some ⟨g,0,none⟩)) (.int .i64 (h0:Int)) (.pointer (some ⟨g,0,none⟩)) (.int .i64 (h1:Int));simp only[hw4,hw5];clear hw4 hw5;have R5:=hdd hR;clear hR
 case' false=>
  obtain⟨⟨rfl,rfl⟩,rfl,rfl⟩:=aoM e1 HS.out
  go_upto_region 6 with fail
  have R5:=hdd HR.out;generalize w3=w5 at*
 all_goals
  clear HR x0 x1 x2 x3 y0 y1 y2 y3 z0 z1 z2 z3 f1 f2 hne hne';have hR:=R5.out;clear R5;obtain⟨x0,x1,x2,x3⟩:=aD (hR.at m2);obtain⟨z0,z1,z2,z3⟩:=aD (hR.at m0);have HC:=hdd (hR.cmpS (by have:=HN.out;omega) (HK.out _ m4) (HK.out _ m5) (HK.out _ (HM.out _ m0)) (HK.out _ (HM.out _ m1)) Q2.out);clear hR;go_wp2_with fail
  refine HC.out.mono ?_;rintro e w6⟨rfl,hR⟩
  cases e2:decide (c2<0)
  case' true=>
   have HF:Hid (RtN s g (N+6) K L (fun _=>.tuple #[.bool (!decide (c2<0)&&decide (c3<=0)),.nilIface]) [] (.returned (.tuple #[.bool false,.nilIface])) w6):=hdd (by rw[e2];exact RtN.fin (L1:=[_,_,_]) hR (by omega));clear hR;go_wp2
   go_ret2
   exact HF.out
  obtain⟨y0,y1,y2,y3⟩:=aD (hR.at m1);obtain⟨z0,z1,z2,z3⟩:=aD (hR.at m0);have HC:=hdd (hR.cmpS (by have:=HN.out;omega) (HK.out _ m4) (HK.out _ m5) (HK.out _ (HM.out _ m2)) (HK.out _ (HM.out _ m3)) Q3.out);clear hR;go_wp2_with fail
  refine HC.out.mono ?_;rintro e w7⟨rfl,hR⟩;have HF:Hid (RtN s g (N+6) K L (fun _=>.tuple #[.bool (!decide (c2<0)&&decide (c3<=0)),.nilIface]) [] (.returned (.tuple #[.bool (decide (c3<=0)),.nilIface])) w7):=hdd (by rw[e2];exact RtN.fin (L1:=[_,_,_]) hR (by omega));clear hR;go_wp2
  go_ret2
  exact HF.out
end
section
variable{g i j k l ca cb cc i' j' k' l' ca' cb' cc':Nat}{X1 X2:Ex}{K0 KA KB:List (Ex×Nat)}
theorem aq3{b1 b2 sm:Bool}(hP:sZ 38 g 44 #[.pointer (some ⟨g,0,none⟩),curV 1 ca cb cc,curV 1 ca' cb' cc'] [] (qO g sm (fun K1 ps=>∃n0 n1,ps=[(n0,n1)]/\(X1,n0)∈K1/\(X2,n1)∈K1)))
 (h1:∀n0 n1,FnOk 39 g 42 #[.pointer (some ⟨g,0,none⟩),aT g 1 ca cb cc i j k l,bD g n0 n1] (KA++[(X1,n0),(X2,n1)]) (fun _=>.tuple #[.bool b1,.nilIface]) []) (h2:∀n0 n1,FnOk 39 g 42 #[.pointer (some ⟨g,0,none⟩),aT g 1 ca' cb' cc' i' j' k' l',bD g n0 n1] (KB++[(X1,n0),(X2,n1)]) (fun _=>.tuple #[.bool b2,.nilIface]) [])
 (hA:∀p∈KA,p∈K0) (hB:∀p∈KB,p∈K0) (hq1:(b1&&b2)=true->∀K1 n0 n1,(X1,n0)∈K1->(X2,n1)∈K1->Q K1 [(n0,n1)]) (hq0:(b1&&b2)=false->∀K1,Q K1 []):
 sZ 22 g 130 #[.pointer (some ⟨g,0,none⟩),aT g 1 ca cb cc i j k l,aT g 1 ca' cb' cc' i' j' k' l'] K0 (RowQ g Q):=fun s N K L W hR hN hK=>by
 obtain⟨w1,hw1,b1',b2',hR⟩:=hR.box2 (eD g 1 ca cb cc i j k l) (eD g 1 ca' cb' cc' i' j' k' l');obtain⟨x0,x1,x2,x3,x4,x5,x6,x7,x8,x9,x10,x11⟩:=aF b1';obtain⟨z0,z1,z2,z3,z4,z5,z6,z7,z8,z9,z10,z11⟩:=aF b2';have HC:=hdd (hP _ _ _ _ _ hR (by omega) (fun p hp=>by cases hp));have H1:=hdd h1;have H2:=hdd h2;have HA:=hdd hA;have HB:=hdd hB;have HQ1:=hdd hq1;have HQ0:=hdd hq0;have HN:=hdd hN;have HK:=hdd hK;clear b1' b2' hR hP h1 h2 hA hB hq1 hq0 hN hK;go_enter Tryz.func22,Tryz.ntmps22
 go_wp2_with fail
 refine HC.out.mono ?_;rintro e w2⟨K1,l1,⟨v,ps,⟨n0,n1,rfl,hx,hy⟩,rfl,ho⟩,hR⟩;obtain⟨pp,cp,rfl⟩:=ho.slice;have HXY:Hid (∀p∈[(X1,n0),(X2,n1)],p∈K1++K):=hdd fun p hp=>by
  simp only[arV,List.not_mem_nil,or_false]at hp;rcases hp with rfl|rfl
  . exact arT _ hx
  . exact arT _ hy
 have HX:=hdd (And.intro hx hy);have HO:=hdd ho;have HR:=hdd hR;clear hx hy ho hR HC;go_wp2_with fail
 refine wp_loop_rounds 2 ?_;have hR:=HR.out;clear HR;obtain⟨rr,rfl,d0,d1,d2,d3⟩:=HO.out.spot (q:=(n0,n1)) (j:=0) hR rfl;simp only[Nat.zero_mul,Nat.zero_add]at d0 d1 d2 d3;replace hR:=hR.subl (arQ l1 _);obtain⟨w3,hw3,c1,hR⟩:=hR.box1 (dN g n0 n1);obtain⟨y0,y1,y2,y3⟩:=aD c1;obtain⟨x0,x1,x2,x3,x4,x5,x6,x7,x8,x9,x10,x11⟩:=aF (hR.at m2);have HC:=hdd ((H1.out n0 n1).use hR (by have:=HN.out;omega) (fun p hp=>(arU.1 hp).elim (fun h=>arS _ (HK.out p (HA.out p h))) (fun h=>HXY.out p h)));clear hR c1;rw[rounds_succ];go_wp2_with fail
 refine HC.out.mono ?_;rintro e w4⟨rfl,hR⟩
 cases b1
 case' false=>
  have hz:=OwnR.nil 36 4;replace hR:Run s g (N+44+42) (K1++K) ([]++L) w4:=Run.rest (L1:=[_,_,_]) hR;have HF:Hid (∃K1 l1,RowQ g Q K1 l1 (.returned (.tuple #[.slice none 0 0,.nilIface]))/\Run s g (N+130) (K1++K) (l1++L) w4):=hdd ⟨K1,_,⟨_,[],HQ0.out rfl K1,rfl,hz⟩,hR.more (by omega)⟩;clear hR hz;go_wp2_with fail
  rw[rounds_succ];go_wp2
  go_ret2
  exact HF.out
 obtain⟨y0,y1,y2,y3⟩:=aD (hR.at m0);obtain⟨z0,z1,z2,z3,z4,z5,z6,z7,z8,z9,z10,z11⟩:=aF (hR.at m1);have HC:=hdd ((H2.out n0 n1).use hR (by have:=HN.out;omega) (fun p hp=>(arU.1 hp).elim (fun h=>arS _ (HK.out p (HB.out p h))) (fun h=>HXY.out p h)));clear hR;go_wp2_with fail
 refine HC.out.mono ?_;rintro e w5⟨rfl,hR⟩
 cases b2
 case' false=>
  have hz:=OwnR.nil 36 4;replace hR:Run s g (N+44+42+42) (K1++K) ([]++L) w5:=Run.rest (L1:=[_,_,_]) hR;have HF:Hid (∃K1 l1,RowQ g Q K1 l1 (.returned (.tuple #[.slice none 0 0,.nilIface]))/\Run s g (N+130) (K1++K) (l1++L) w5):=hdd ⟨K1,_,⟨_,[],HQ0.out rfl K1,rfl,hz⟩,hR.more (by omega)⟩;clear hR hz;go_wp2_with fail
  rw[rounds_succ];go_wp2
  go_ret2
  exact HF.out
 obtain⟨y0,y1,y2,y3⟩:=aD (hR.at m0);obtain⟨w6,hw6,c1,hR⟩:=hR.box1 (dN g n0 n1);have HY:=hdd c1;have RA:=hdd (show Run s g (N+44+42+42) (K1++K) ([]++L) w6 from Run.rest (L1:=[_,_,_,_]) hR);have HZ:=hdd (OwnR.nil 36 4);clear c1 hR;go_wp2_with (first
  |(at_builtin
    go_loud (
    refine af2 af3 ac9 rfl (by decide) HZ.out RA.out HY.out rfl (by simp[Value.oneCell']) (by decide) (by decide) rfl _ _ rfl rfl 1 rfl ?_;intro r2 cap2 lr2 w7 hz hR)))
 have HF:Hid (∃K1 l1,RowQ g Q K1 l1 (.returned (.tuple #[.slice (some ⟨r2,0,none⟩) 1 cap2,.nilIface]))/\Run s g (N+130) (K1++K) (l1++L) w7):=hdd ⟨K1,_,⟨_,[(n0,n1)],HQ1.out rfl K1 n0 n1 HX.out.1 HX.out.2,rfl,hz⟩,hR.more (by omega)⟩;clear hR hz;rw[rounds_succ];go_wp2
 go_ret2
 exact HF.out
theorem aq1(h1:FnOk 14 g 20 #[.pointer (some ⟨g,0,none⟩),aT g 1 ca cb cc i j k l] KA (fun _=>.nilIface) [])(h2:FnOk 14 g 20 #[.pointer (some ⟨g,0,none⟩),aT g 1 ca' cb' cc' i' j' k' l'] KB (fun _=>.nilIface) [])(hA:∀p∈KA,p∈K0)(hB:∀p∈KB,p∈K0)
 (hL:FnOk 20 g 21 #[.pointer (some ⟨g,0,none⟩),curV 1 ca cb cc,curV 1 ca' cb' cc'] [] (fun _=>.tuple #[.bool false,.nilIface]) []):
 FnOk 19 g 61 #[.pointer (some ⟨g,0,none⟩),aT g 1 ca cb cc i j k l,aT g 1 ca' cb' cc' i' j' k' l'] K0 (fun _=>.tuple #[.bool false,.nilIface]) []:=fun s N K L W hR hN hK=>by
 obtain⟨w1,hw1,b1,b2,hR⟩:=hR.box2 (eD g 1 ca cb cc i j k l) (eD g 1 ca' cb' cc' i' j' k' l');obtain⟨x0,x1,x2,x3,x4,x5,x6,x7,x8,x9,x10,x11⟩:=aF b1;obtain⟨z0,z1,z2,z3,z4,z5,z6,z7,z8,z9,z10,z11⟩:=aF b2;obtain⟨w2,hw2,b3,hR⟩:=hR.box1 (alZ g 1 ca cb cc i j k l 1 ca' cb' cc' i' j' k' l');have HC:=hdd (zC h1 h2 hR m0 (by omega) (fun p hp=>hK p (hA p hp)) (fun p hp=>hK p (hB p hp)));have HL:=hdd hL;have HN:=hdd hN;have hst:=aN;clear b1 b2 b3 hR h1 h2 hA hB hL hN hK;go_enter Tryz.func19,Tryz.ntmps19
 go_wp2_with fail
 refine HC.out.mono ?_;rintro e w3⟨rfl,hR⟩;obtain⟨x0,x1,x2,x3,x4,x5,x6,x7,x8,x9,x10,x11⟩:=aF (hR.at m2);obtain⟨z0,z1,z2,z3,z4,z5,z6,z7,z8,z9,z10,z11⟩:=aF (hR.at m1);have HC:=hdd (HL.out.use hR (by have:=HN.out;omega) (fun p hp=>by cases hp));clear hR;go_wp2_with fail
 refine HC.out.mono ?_;rintro e w4⟨rfl,hR⟩;have HF:Hid (RtN s g (N+61) K L (fun _=>.tuple #[.bool false,.nilIface]) [] (.returned (.tuple #[.bool false,.nilIface])) w4):=hdd (by exact RtN.fin (L1:=[_,_,_]) hR (by omega));clear hR;go_wp2
 go_ret2
 exact HF.out
theorem aqW(hO:FnOk 19 g 61 #[.pointer (some ⟨g,0,none⟩),aT g 1 ca cb cc i j k l,aT g 1 ca' cb' cc' i' j' k' l'] K0 (fun _=>.tuple #[.bool false,.nilIface]) [])(hL:FnOk 20 g 21 #[.pointer (some ⟨g,0,none⟩),curV 1 ca cb cc,curV 1 ca' cb' cc'] [] (fun _=>.tuple #[.bool false,.nilIface]) [])(hJ:sZ 22 g 130 #[.pointer (some ⟨g,0,none⟩),aT g 1 ca cb cc i j k l,aT g 1 ca' cb' cc' i' j' k' l'] K0 (RowQ g Q)):
 sZ 10 g 212 #[.pointer (some ⟨g,0,none⟩),aT g 1 ca cb cc i j k l,aT g 1 ca' cb' cc' i' j' k' l'] K0 (qO g false Q):=fun s N K L W hR hN hK=>by
 obtain⟨w1,hw1,b1,b2,hR⟩:=hR.box2 (eD g 1 ca cb cc i j k l) (eD g 1 ca' cb' cc' i' j' k' l');obtain⟨x0,x1,x2,x3,x4,x5,x6,x7,x8,x9,x10,x11⟩:=aF b1;obtain⟨z0,z1,z2,z3,z4,z5,z6,z7,z8,z9,z10,z11⟩:=aF b2;have HC:=hdd (hO.use hR (by omega) hK);have HL:=hdd hL;have HJ:=hdd hJ;have HN:=hdd hN;have HK:=hdd hK;clear b1 b2 hR hO hL hJ hN hK;go_enter Tryz.func10,Tryz.ntmps10
 go_wp2_with fail
 refine HC.out.mono ?_;rintro e w2⟨rfl,hR⟩;obtain⟨x0,x1,x2,x3,x4,x5,x6,x7,x8,x9,x10,x11⟩:=aF (hR.at m1);obtain⟨z0,z1,z2,z3,z4,z5,z6,z7,z8,z9,z10,z11⟩:=aF (hR.at m0);have HC:=hdd (HL.out.use hR (by have:=HN.out;omega) (fun p hp=>by cases hp));clear hR;go_wp2_with fail
 refine HC.out.mono ?_;rintro e w3⟨rfl,hR⟩;obtain⟨x0,x1,x2,x3,x4,x5,x6,x7,x8,x9,x10,x11⟩:=aF (hR.at m1);obtain⟨z0,z1,z2,z3,z4,z5,z6,z7,z8,z9,z10,z11⟩:=aF (hR.at m0);have HC:=hdd (HJ.out _ _ _ _ _ hR (by have:=HN.out;omega) HK.out);clear hR;go_wp2_with fail
 refine HC.out.mono ?_;rintro e w5⟨K1,l1,⟨v,ps,hq,rfl,ho⟩,hR⟩;obtain⟨pp,cp,rfl⟩:=ho.slice;have HF:Hid (∃K1 l1,qO g false Q K1 l1 (.returned (.tuple #[.slice pp ps.length cp,.bool false,.nilIface]))/\Run s g (N+212) (K1++K) (l1++L) w5):=hdd ⟨K1,l1,⟨_,ps,hq,rfl,ho⟩,(hR.subl (List.Sublist.append (List.Sublist.refl l1) (arQ [_,_] L))).more (by omega)⟩;clear hR hq ho HC;go_wp2;exact bodyPost_ret (v:=.tuple #[.slice pp ps.length cp,.bool false,.nilIface]) (by simp[results,Tryz.results10,go_sem]) rfl HF.out
end
theorem aqO{g:Nat}{x y u v f t:Int}(bx:x.natAbs<=8)(b_y:y.natAbs<=8)(bu:u.natAbs<=4)(bv:v.natAbs<=4)(bf:f.natAbs<=3)(bt:t.natAbs<=3):
 FnOk 13 g 4 #[.pointer (some ⟨g,0,none⟩),.int .i64 x,.int .i64 y,.int .i64 u,.int .i64 v,.int .i64 f,.int .i64 t] [] (fun ks=>aT g 1 (fl v) (fl (-u)) (fl (v*x-u*y)) (ks.getD 0 0) (ks.getD 1 0) (ks.getD 2 0) (ks.getD 3 0)) [.leaf (fl (x+f*u)),.leaf (fl (y+f*v)),.leaf (fl (x+t*u)),.leaf (fl (y+t*v))]:=fun s N K L W hR hN hK=>by
 have p1:=nab bv bx;have p2:=nab bu b_y;have p3:=nab bf bu;have p4:=nab bf bv;have p5:=nab bt bu;have p6:=nab bt bv;have z0:=nsub p1 p2;have z1:=nadd bx p3;have z2:=nadd b_y p4;have z3:=nadd bx p5;have z4:=nadd b_y p6;have e0:wrap64 (-u)=-u:=wrap_small (by rw[Int.natAbs_neg];omega);have e1:wrap64 (v*x)=v*x:=wrap_small (arP p1 (by decide));have e2:wrap64 (u*y)=u*y:=wrap_small (arP p2 (by decide));have e3:wrap64 (v*x-u*y)=v*x-u*y:=wrap_small (arP z0 (by decide));have e4:IntKind.i64.wrap (f*u)=f*u:=aqN (arP p3 (by decide));have e5:IntKind.i64.wrap (x+f*u)=x+f*u:=aqN (arP z1 (by decide));have e6:IntKind.i64.wrap (f*v)=f*v:=aqN (arP p4 (by decide));have e7:IntKind.i64.wrap (y+f*v)=y+f*v:=aqN (arP z2 (by decide));have e8:IntKind.i64.wrap (t*u)=t*u:=aqN (arP p5 (by decide));have e9:IntKind.i64.wrap (x+t*u)=x+t*u:=aqN (arP z3 (by decide));have e10:IntKind.i64.wrap (t*v)=t*v:=aqN (arP p6 (by decide))
 have e11:IntKind.i64.wrap (y+t*v)=y+t*v:=aqN (arP z4 (by decide));have i1:=flw' z1;have i2:=flw' z2;have i3:=flw' z3;have i4:=flw' z4;have hcv:=fun(T:Int) w=>ac3 T w;have hst:=aN;obtain⟨w1,hw1,-,hR⟩:=hR.box1 (.cells #[.int .i64 0,.float .f64 0,.float .f64 0,.float .f64 0,.pointer none,.int .i64 0,.pointer none,.int .i64 0,.pointer none,.int .i64 0,.pointer none,.int .i64 0] 38);obtain⟨w2,hw2,-,hR⟩:=hR.box1 (curO 1 (fl v) (fl (-u)) (fl (v*x-u*y)));have HP:Hid (∀(M:Nat) (K':List (Ex×Nat)) (W':World),M+2<=20000->Run s g M K' ((w1.heap.size,curO 1 (fl v) (fl (-u)) (fl (v*x-u*y)))::(W.heap.size,(.cells #[.int .i64 0,.float .f64 0,.float .f64 0,.float .f64 0,.pointer none,.int .i64 0,.pointer none,.int .i64 0,.pointer none,.int .i64 0,.pointer none,.int .i64 0] 38))::L) W'->Calls Tryz.prog 11 #[.pointer (some ⟨g,0,none⟩),.float .f64 (fl (x+f*u)),.float .f64 (fl (y+f*v))] W' (RtP s g (M+2) K' ((w1.heap.size,curO 1 (fl v) (fl (-u)) (fl (v*x-u*y)))::(W.heap.size,(.cells #[.int .i64 0,.float .f64 0,.float .f64 0,.float .f64 0,.pointer none,.int .i64 0,.pointer none,.int .i64 0,.pointer none,.int .i64 0,.pointer none,.int .i64 0] 38))::L) (.leaf (fl (x+f*u))) (.leaf (fl (y+f*v))))):=hdd fun M K' W' h hR=>hR.spot (by omega) i1.1.1 i2.1.1 i1.1.2 i2.1.2
 have HQ:Hid (∀(M:Nat) (K':List (Ex×Nat)) (W':World),M+2<=20000->Run s g M K' ((w1.heap.size,curO 1 (fl v) (fl (-u)) (fl (v*x-u*y)))::(W.heap.size,(.cells #[.int .i64 0,.float .f64 0,.float .f64 0,.float .f64 0,.pointer none,.int .i64 0,.pointer none,.int .i64 0,.pointer none,.int .i64 0,.pointer none,.int .i64 0] 38))::L) W'->Calls Tryz.prog 11 #[.pointer (some ⟨g,0,none⟩),.float .f64 (fl (x+t*u)),.float .f64 (fl (y+t*v))] W' (RtP s g (M+2) K' ((w1.heap.size,curO 1 (fl v) (fl (-u)) (fl (v*x-u*y)))::(W.heap.size,(.cells #[.int .i64 0,.float .f64 0,.float .f64 0,.float .f64 0,.pointer none,.int .i64 0,.pointer none,.int .i64 0,.pointer none,.int .i64 0,.pointer none,.int .i64 0] 38))::L) (.leaf (fl (x+t*u))) (.leaf (fl (y+t*v))))):=hdd fun M K' W' h hR=>hR.spot (by omega) i3.1.1 i4.1.1 i3.1.2 i4.1.2;have hne:w1.heap.size≠W.heap.size:=by
  have:=hR.nodup;rw[arW,arW,List.nodup_cons]at this;exact fun e=>this.1 (by rw[e];exact List.mem_cons_self ..)
 have hne':=Ne.symm hne;have HR:=hdd hR;have N2:N+2<=20000:=by omega
 have N4:N+2+2<=20000:=hN;clear p1 p2 p3 p4 p5 p6 z0 z1 z2 z3 z4 i1 i2 i3 i4 hR hN hK bx b_y bu bv bf bt;go_enter Tryz.func13,Tryz.ntmps13
 go_upto_region 2 with fail
 have RD:=hdd HR.out.drew;obtain⟨d0,d1,d2,d3⟩:=aD (RD.out.at m0)
 go_region_held3 (fun w'=>w'.cell? ⟨w1.heap.size,0,none⟩=some (.int .i64 1)/\w'.cell? ⟨w1.heap.size,1,none⟩=some (.float .f64 (fl v))/\w'.cell? ⟨w1.heap.size,2,none⟩=some (.float .f64 (fl (-u)))/\w'.cell? ⟨w1.heap.size,3,none⟩=some (.float .f64 (fl (v*x-u*y)))) (go_keep)
  (first
  |(go_at_call 11
    with_reducible refine(HP.out _ _ _ N2 RD.out).mono ?_
    rintro e RPw⟨a0,a1,rfl,hRm⟩;have RP:=hdd hRm;obtain⟨d0,d1,d2,d3⟩:=aD (RP.out.at m0);obtain⟨x0,x1,x2,x3,x4,x5,x6,x7,x8,x9,x10,x11⟩:=aF (RP.out.at m1);have f3:=frzI (RP.out.at m1);clear hRm)
  |(go_at_call 11
    with_reducible refine(HQ.out _ _ _ N4 RP.out).mono ?_
    rintro e RPQw⟨c0,c1,rfl,hRm⟩;have RPQ:=hdd hRm;obtain⟨d0,d1,d2,d3⟩:=aD (RPQ.out.at m0);obtain⟨x0,x1,x2,x3,x4,x5,x6,x7,x8,x9,x10,x11⟩:=aF (RPQ.out.at m1);have f3:=frzI (RPQ.out.at m1);clear hRm)
  )
 . have hS:=Run.perm (Run.write (Run.mid (L1:=[_]) RPQ.out) (jV [.int .i64 1,.float .f64 (fl v),.float .f64 (fl (-u)),.float .f64 (fl (v*x-u*y)),.pointer (some ⟨g,0,none⟩),.int .i64 (a0:Int),.pointer (some ⟨g,0,none⟩),.int .i64 (a1:Int),.pointer (some ⟨g,0,none⟩),.int .i64 (c0:Int),.pointer (some ⟨g,0,none⟩),.int .i64 (c1:Int)] 0 RPQw) (xD (vs:=[.int .i64 1,.float .f64 (fl v),.float .f64 (fl (-u)),.float .f64 (fl (v*x-u*y)),.pointer (some ⟨g,0,none⟩),.int .i64 (a0:Int),.pointer (some ⟨g,0,none⟩),.int .i64 (a1:Int),.pointer (some ⟨g,0,none⟩),.int .i64 (c0:Int),.pointer (some ⟨g,0,none⟩),.int .i64 (c1:Int)]) (Run.at (Run.mid (L1:=[_]) RPQ.out) m0) rfl)) (List.perm_middle (l₁:=[_]))
   simp only[mG]at hS;obtain⟨x0,x1,x2,x3,x4,x5,x6,x7,x8,x9,x10,x11⟩:=aF (hS.at m1);have HS:=hdd (Run.rest (L1:=[_,_]) (hS.few (K':=[(.leaf (fl (x+f*u)),a0),(.leaf (fl (y+f*v)),a1),(.leaf (fl (x+t*u)),c0),(.leaf (fl (y+t*v)),c1)]++K) fun p hp=>by
    simp only[List.cons_append,List.nil_append,arV]at hp;rcases hp with rfl|rfl|rfl|rfl|hp
    . exact m2
    . exact m3
    . exact m0
    . exact m1
    . exact arR _ (arR _ (arR _ (arR _ hp)))))
   clear hS;go_wp2;exact bodyPost_ret (v:=aT g 1 (fl v) (fl (-u)) (fl (v*x-u*y)) a0 a1 c0 c1) (by simp[results,Tryz.results13,go_sem,x0,x1,x2,x3,x4,x5,x6,x7,x8,x9,x10,x11]) rfl ⟨[a0,a1,c0,c1],rfl,rfl,HS.out⟩
end
section
open Go.RowKit Go.Maps
open Re (rat ofI ofN)
theorem arF{a b c p q:Nat}{A B C X Y:Int}(ha:Iw a A)(hb:Iw b B)(hc:Iw c C)(hx:Iw p X)(hy:Iw q Y)(b1:A.natAbs<=4)(b2:B.natAbs<=4)(b3:C.natAbs<=64)(b4:X.natAbs<=22)(b5:Y.natAbs<=22):fK PT (aoA (.leaf p) (.leaf q) a b c) (A*X+B*Y-C).sign:=by
 have f1:=ha.fit (L:=[]) 3 (nlt b1) (by decide);have f2:=hb.fit (L:=[]) 3 (nlt b2) (by decide);have f3:=hc.fit (L:=[]) 7 (nlt b3) (by decide);have f4:=hx.fit (L:=[]) 5 (nlt b4) (by decide);have f5:=hy.fit (L:=[]) 5 (nlt b5) (by decide);exact(((f1.rmul f4).radd (f2.rmul f5)).rsub f3).sign 1 (by decide) (by push_cast;grind) (by kernel_rfl)
section
variable{g i j k l x y u v s t f e:Int}
abbrev Bd(x y u v:Int):Prop:=x.natAbs<=8/\y.natAbs<=8/\u.natAbs<=4/\v.natAbs<=4
theorem Bd.iw (h:Bd x y u v):Iw (fl v) v/\Iw (fl (-u)) (-u)/\Iw (fl (v*x-u*y)) (v*x-u*y)/\(-u).natAbs<=4/\(v*x-u*y).natAbs<=64:=by
 have z:=nsub (nab h.2.2.2 h.1) (nab h.2.2.1 h.2.1);have hu:(-u).natAbs<=4:=by rw[Int.natAbs_neg];exact h.2.2.1
 exact⟨flw' h.2.2.2,flw' hu,flw' z,hu,z⟩
theorem Bd.ok (h:Bd x y u v)(huv:u≠0\/v≠0):kS (fl v) (fl (-u)) (fl (v*x-u*y)):=by
 obtain⟨h1,h2,h3,-⟩:=h.iw;exact⟨h1.1,h2.1,h3.1,huv.symm.imp (fun e=>aoH h1 e) (fun e=>aoH h2 (by omega))⟩
theorem Bd.pt (h:Bd x y u v)(hf:f.natAbs<=3):Wp (fl (x+f*u)) (fl (y+f*v)) (x+f*u) (y+f*v):=by
 have z1:=nadd h.1 (nab hf h.2.2.1);have z2:=nadd h.2.1 (nab hf h.2.2.2);exact⟨flw' z1,flw' z2,Nat.le_trans z1 (by decide),Nat.le_trans z2 (by decide)⟩
end
section
variable{g i j k l:Nat}{x y u v s t f e:Int}
theorem Bd.on (h:Bd x y u v)(huv:u≠0\/v≠0)(hf:f.natAbs<=3):FnOk 29 g 9 #[.pointer (some ⟨g,0,none⟩),curV 1 (fl v) (fl (-u)) (fl (v*x-u*y)),bD g i j] [(.leaf (fl (x+f*u)),i),(.leaf (fl (y+f*v)),j)] (fun _=>.tuple #[.int .i64 0,.nilIface]) []:=by
 obtain⟨h1,h2,h3,h4,h5⟩:=h.iw;have hp:=h.pt hf;have hl:=h.ok huv;have hs:=arF h1 h2 h3 hp.1 hp.2.1 h.2.2.2 h4 h5 hp.2.2.1 hp.2.2.2;rw[show v*(x+f*u)+-u*(y+f*v)-(v*x-u*y)=0 by grind]at hs;exact af1 (li:=true) rfl (fun w=>yR hl) ((ad7 hl.1 hl.2.1 hl.2.2.1).upto (by omega)) hs
theorem Bd.check (h:Bd x y u v)(huv:u≠0\/v≠0)(hf:f.natAbs<=3)(he:e.natAbs<=3)(hfe:f≠e):FnOk 14 g 20 #[.pointer (some ⟨g,0,none⟩),aT g 1 (fl v) (fl (-u)) (fl (v*x-u*y)) i j k l] [(.leaf (fl (x+f*u)),i),(.leaf (fl (y+f*v)),j),(.leaf (fl (x+e*u)),k),(.leaf (fl (y+e*v)),l)] (fun _=>.nilIface) []:=by
 have hc:(cmpP (x+f*u) (y+f*v) (x+e*u) (y+e*v)==0)= !true:=by
  rw[al2];show _=false;rw[beq_eq_false_iff_ne];have h1:(f-e).sign≠0:=fun e=>hfe (by have:=Int.sign_eq_zero_iff_zero.1 e;omega);rcases af4 huv with e|e<;>rw[e]<;>omega
 exact aeM (s1:=0) (s2:=0) (t:=true) (fun w=>yR (h.ok huv)) (h.on huv hf) (h.on huv he) (Or.inr ⟨rfl,_,wcmp (h.pt hf) (h.pt he),hc⟩)
abbrev crX(x y u v s t:Int):Ex:=.div (kU (fl (v*x-u*y)) (fl (-s)) (fl (t*x-s*y)) (fl (-u))) (kU (fl v) (fl (-s)) (fl (-u)) (fl t))
abbrev crY(x y u v s t:Int):Ex:=.div (kU (fl v) (fl (t*x-s*y)) (fl t) (fl (v*x-u*y))) (kU (fl v) (fl (-s)) (fl (-u)) (fl t))
theorem aqS(h:Bd x y u v)(h':Bd x y s t)(hn:u*t-v*s≠0):
 fK PT (kU (fl v) (fl (-s)) (fl (-u)) (fl t)) (u*t-v*s).sign/\fK PT (aoA (crX x y u v s t) (crY x y u v s t) (fl v) (fl (-u)) (fl (v*x-u*y))) 0/\fK PT (aoA (crX x y u v s t) (crY x y u v s t) (fl t) (fl (-s)) (fl (t*x-s*y))) 0/\
 ∀{p0 p1:Nat} {a1 a2:Int},Wp p0 p1 a1 a2->gQ PT (crX x y u v s t) (crY x y u v s t) (.leaf p0) (.leaf p1) (cmpP x y a1 a2):=by
 obtain⟨h1,h2,h3,h4,h5⟩:=h.iw;obtain⟨k1,k2,k3,k4,k5⟩:=h'.iw;have fa:=h1.fit (L:=[]) 3 (nlt h.2.2.2) (by decide);have fb:=h2.fit (L:=[]) 3 (nlt h4) (by decide);have fc:=h3.fit (L:=[]) 7 (nlt h5) (by decide);have ga:=k1.fit (L:=[]) 3 (nlt h'.2.2.2) (by decide);have gb:=k2.fit (L:=[]) 3 (nlt k4) (by decide);have gc:=k3.fit (L:=[]) 7 (nlt k5) (by decide);have fn:=(fa.rmul gb).rsub (fb.rmul ga);have n0:((v:Int):Rat)*((-s:Int):Rat)-((-u:Int):Rat)*((t:Int):Rat)≠0:=fun e=>hn (Rat.intCast_inj.1 (by push_cast at e|-;grind));have X:=Fit.rdiv Lok.nil ((fc.rmul gb).rsub (gc.rmul fb)) fn n0 (z:=(x:Rat)) (by push_cast;grind);have Y:=Fit.rdiv Lok.nil ((fa.rmul gc).rsub (ga.rmul fc)) fn n0 (z:=(y:Rat)) (by push_cast;grind);refine⟨fn.sign 1 (by decide) (by push_cast;grind) (by kernel_rfl),(((fa.rmul X).radd (fb.rmul Y)).rsub fc).zero (by push_cast;grind) (by kernel_rfl),(((ga.rmul X).radd (gb.rmul Y)).rsub gc).zero (by push_cast;grind) (by kernel_rfl),fun{p0 p1 a1 a2} hp=> ?_⟩;have f4:=hp.1.fit (L:=[]) 5 (nlt hp.2.2.1) (by decide);have f5:=hp.2.1.fit (L:=[]) 5 (nlt hp.2.2.2) (by decide)
 exact⟨(x-a1).sign,(y-a2).sign,trivial,(X.rsub f4).sign 1 (by decide) (by push_cast;grind) (by kernel_rfl),fun _=>⟨trivial,(Y.rsub f5).sign 1 (by decide) (by push_cast;grind) (by kernel_rfl)⟩,rfl⟩
end
end
section
open Go.RowKit Go.Maps
open Decidable renaming or_iff_not_imp_left->arZ,not_not->ar0
open List renaming exists_cons_of_length_eq_add_one->arX
open Nat.succ renaming inj->arY
variable{K0:List (Ex×Nat)}
section
variable{g i j k l i' j' k' l':Nat}{x y u v s t f e:Int}{X1 X2:Ex}
theorem aq4{r:Bool}(h:Bd x y u v)(huv:u≠0\/v≠0)(hf:f.natAbs<=3)(he:e.natAbs<=3)(hfe:f≠e)
 (hs:fK PT (aoA X1 X2 (fl v) (fl (-u)) (fl (v*x-u*y))) 0) (hc:∀{p0 p1:Nat} {a1 a2:Int},Wp p0 p1 a1 a2->gQ PT X1 X2 (.leaf p0) (.leaf p1) (cmpP x y a1 a2))
 (hr:∀z,z=1\/z=-1->(cond (decide (0<(f-e).sign*z)) (!decide ((0-e).sign*z<0)&&decide ((0-f).sign*z<=0)) (!decide ((0-f).sign*z<0)&&decide ((0-e).sign*z<=0)))=r) (n0 n1:Nat):
 FnOk 39 g 42 #[.pointer (some ⟨g,0,none⟩),aT g 1 (fl v) (fl (-u)) (fl (v*x-u*y)) i j k l,bD g n0 n1] ([(.leaf (fl (x+f*u)),i),(.leaf (fl (y+f*v)),j),(.leaf (fl (x+e*u)),k),(.leaf (fl (y+e*v)),l)]++[(X1,n0),(X2,n1)]) (fun _=>.tuple #[.bool r,.nilIface]) []:=by
 have hl:=h.ok huv;have hO:FnOk 29 g 9 #[.pointer (some ⟨g,0,none⟩),curV 1 (fl v) (fl (-u)) (fl (v*x-u*y)),bD g n0 n1] [(X1,n0),(X2,n1)] (fun _=>.tuple #[.int .i64 0,.nilIface]) []:=
  af1 (li:=true) rfl (fun w=>yR hl) ((ad7 hl.1 hl.2.1 hl.2.2.1).upto (by omega)) hs
 have q1:=wcmp (h.pt hf) (h.pt he);have q2:=hc (h.pt hf);have q3:=hc (h.pt he);rw[al2]at q1;have z0:∀n:Int,cmpP x y (x+n*u) (y+n*v)=(0-n).sign*lexs u v:=fun n=>by
  rw[<-al2 x y u v 0 n,Int.zero_mul,Int.zero_mul,Int.add_zero,Int.add_zero]
 rw[z0]at q2 q3;have hz:=hr (lexs u v) (af4 huv);refine ah7 (h.check huv hf he hfe) ?_
 cases d:decide (0<(f-e).sign*lexs u v)
 . rw[d]at hz
   subst hz;exact alY (q:=0) (li:=true) rfl hO ((aqQ (l0:=i) (l1:=j) (h0:=k) (h1:=l) q1 q2 q3 (Or.inr ⟨d,⟨rfl,rfl⟩,rfl,rfl⟩) (eQ [0,1,2,3])).upto (by omega))
 . rw[d]at hz
   subst hz;exact alY (q:=0) (li:=true) rfl hO ((aqQ (l0:=k) (l1:=l) (h0:=i) (h1:=j) q1 q3 q2 (Or.inl ⟨d,⟨rfl,rfl⟩,rfl,rfl⟩) (eQ [2,3,0,1])).upto (by omega))
def arE(sh:Bool)(X1 X2:Ex)(K1:List (Ex×Nat))(ps:List (Nat×Nat)):Prop:=sh=true/\ps=[]\/sh=false/\∃n0 n1,ps=[(n0,n1)]/\(X1,n0)∈K1/\(X2,n1)∈K1
theorem aqU{sh:Bool}(h:Bd x y u v)(h':Bd x y s t)(hn:u*t-v*s≠0)(he:sh=true/\f=1\/sh=false/\f=-3)
 (hA:∀p∈[(.leaf (fl (x+-2*u)),i),(.leaf (fl (y+-2*v)),j),(.leaf (fl (x+2*u)),k),(.leaf (fl (y+2*v)),l)],p∈K0) (hB:∀p∈[(.leaf (fl (x+f*s)),i'),(.leaf (fl (y+f*t)),j'),(.leaf (fl (x+3*s)),k'),(.leaf (fl (y+3*t)),l')],p∈K0):
 sZ 10 g 212 #[.pointer (some ⟨g,0,none⟩),aT g 1 (fl v) (fl (-u)) (fl (v*x-u*y)) i j k l,aT g 1 (fl t) (fl (-s)) (fl (t*x-s*y)) i' j' k' l'] K0 (qO g false (arE sh (crX x y u v s t) (crY x y u v s t))):=by
 have huv:u≠0\/v≠0:=by
  refine arZ.2 fun e1 e2=>hn ?_;rw[ar0.1 e1,e2];simp
 have hst:s≠0\/t≠0:=by
  refine arZ.2 fun e1 e2=>hn ?_;rw[ar0.1 e1,e2];simp
 obtain⟨f1,f2,f3,f4⟩:=aqS h h' hn;have q0:((u*t-v*s).sign==0)=false:=beq_eq_false_iff_ne.2 fun e=>hn (Int.sign_eq_zero_iff_zero.1 e);have hk:=h.ok huv;have hk':=h'.ok hst;have hA1:=aq0 (g:=g) hk hk' f1 q0;have hS1:=aq6 hA1;have hL:=ac6 (hS1.upto (show 7<=21 by decide));have hP:=aqV hk hk' (aqX hS1 hA1 (aq2 hk hk' f1 q0));have bf:f.natAbs<=3:=by rcases he with ⟨-,rfl⟩|⟨-,rfl⟩<;>decide
 have bn:f≠3:=by rcases he with ⟨-,rfl⟩|⟨-,rfl⟩<;>decide
 have c1:=h.check (g:=g) (i:=i) (j:=j) (k:=k) (l:=l) (f:=-2) (e:=2) huv (by decide) (by decide) (by decide);have c2:=h'.check (g:=g) (i:=i') (j:=j') (k:=k') (l:=l') (f:=f) (e:=3) hst bf (by decide) bn;have H1:=aq4 (g:=g) (i:=i) (j:=j) (k:=k) (l:=l) (f:=-2) (e:=2) (r:=true) h huv (by decide) (by decide) (by decide) f2 (fun hp=>f4 hp) (fun z hz=>by rcases hz with rfl|rfl<;>decide);have H2:=aq4 (g:=g) (i:=i') (j:=j') (k:=k') (l:=l') (f:=f) (e:=3) (r:= !sh) h' hst bf (by decide) bn f3 (fun hp=>f4 hp) (fun z hz=>by rcases he with ⟨rfl,rfl⟩|⟨rfl,rfl⟩<;>rcases hz with rfl|rfl<;>decide);refine aqW (aq1 c1 c2 hA hB hL) hL (aq3 hP H1 H2 hA hB ?_ ?_)
 . intro hb K1 n0 n1 h0 h1
   exact Or.inr ⟨by simpa using hb,n0,n1,rfl,h0,h1⟩
 . intro hb K1
   exact Or.inl ⟨by simpa using hb,rfl⟩
end
theorem FnOk.use4 {s:Bs}{f:FuncId}{g d N:Nat}{av:Array Value}{K:List (Ex×Nat)}{V:List Nat->Value}{e0 e1 e2 e3:Ex}{L:List (Nat×Obj)}{W:World}(F:FnOk f g d av K0 V [e0,e1,e2,e3])(hR:Run s g N K L W)(hN:N+d<=20000)(hK:∀p∈K0,p∈K):
 Calls Tryz.prog f av W (fun e W'=>∃a0 a1 a2 a3,e=.returned (V [a0,a1,a2,a3])/\Run s g (N+d) ((e0,a0)::(e1,a1)::(e2,a2)::(e3,a3)::K) L W'):=by
 refine(F s N K L W hR hN hK).mono ?_;rintro e W'⟨ks,hl,rfl,hR'⟩;obtain⟨a0,ks,rfl⟩:=arX hl;obtain⟨a1,ks,rfl⟩:=arX (arY hl);obtain⟨a2,ks,rfl⟩:=arX (arY (arY hl));obtain⟨a3,ks,rfl⟩:=arX (arY (arY (arY hl)));obtain rfl:=List.eq_nil_of_length_eq_zero (arY (arY (arY (arY hl))));exact⟨a0,a1,a2,a3,rfl,hR'⟩
end
section
open Go.RowKit Go.Maps Go.Stop Go.Extern
theorem an1:Crv 2 0 0 4607182418800017408 0 0 1:=⟨⟨yQ,afY⟩,⟨yQ,afY⟩,iw_1,by decide,by decide,by decide,Or.inr ⟨rfl,⟨yQ,yQ,iw_1.1,aqD iw_1 (by decide)⟩,by decide⟩⟩
theorem al7:Wp 4607182418800017408 0 1 0:=⟨iw_1,⟨yQ,afY⟩,by decide,by decide⟩
theorem af5:Wp 13830554455654793216 0 (-1) 0:=⟨⟨⟨by decide,by decide⟩,by kernel_rfl⟩,⟨yQ,afY⟩,by decide,by decide⟩
theorem an2{w:World}(hT:Tab w)(htb:1<w.heap.size):
 Calls Tryz.prog 7 #[] w (RetV w (.bool true)):=by
 have HN:=hdd (afD (l:=[]) (Below.refl w.heap.size w) (fun p hp=>by cases hp) (by simp) hT htb);clear hT htb;have hst:=aN;go_enter Tryz.func7,Tryz.ntmps7
 go_wp2_with fail
 refine HN.out.mono ?_;rintro e W1⟨g,rfl,hR⟩;dsimp only;obtain⟨w2,hw2,b1,hR⟩:=hR.box1 (curO 2 0 0 4607182418800017408);have HA:=hdd (hR.spot (by omega) (v:=4607182418800017408) (u:=0) (by decide) (by decide) (by decide) (by decide));clear b1 hR HN;go_wp2_with fail
 refine HA.out.mono ?_;rintro e w3⟨i,j,rfl,hR⟩;have HA:=hdd (hR.spot (by omega) (v:=13830554455654793216) (u:=0) (by decide) (by decide) (by decide) (by decide));clear hR;go_wp2_with fail
 refine HA.out.mono ?_;rintro e w4⟨k,l,rfl,hR⟩;obtain⟨w5,hw5,b1,b2,hR⟩:=hR.box2 (dN g i j) (dN g k l);obtain⟨x0,x1,x2,x3⟩:=aD (hR.at m2);obtain⟨y0,y1,y2,y3⟩:=aD b1;obtain⟨z0,z1,z2,z3⟩:=aD b2;have HC:=hdd (aiC (g:=g) (i:=i) (j:=j) (k:=k) (l:=l) (i':=k) (j':=l) (k':=i) (l':=j) an1 al7 af5 af5 al7 (by decide) (by decide) _ _ _ _ w5 hR (by omega) (fun p hp=>(eQ [2,3,0,1,0,1,2,3]) p hp));clear b1 b2 hR;go_wp2_with fail
 refine HC.out.mono ?_;rintro e w6⟨K1,l1,⟨v,ps,hq,rfl,ho⟩,hR⟩;obtain⟨pp,cp,rfl⟩:=ho.slice;replace hq:ps.length=2:=hq;rw[hq];have HB:=hdd hR.below;clear hR ho hq HC;go_wp2;go_ret;exact⟨rfl,HB.out⟩
end
end Go.Proofs.YtjdgaogkioabeaaGreatDoor
