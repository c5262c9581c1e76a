/- A part of the proof: contracts of functions and plain laws (GrB, AfI, AfW). -/
import Derived.Test.YtkpodipoegbclaaGreatDoorK41
import Derived.Test.YtkpodipoegbclaaGreatDoorK46
set_option linter.unusedVariables false
set_option linter.unusedSimpArgs false
set_option maxHeartbeats 25600000
set_option maxRecDepth 100000
namespace Go.Proofs.YtkpodipoegbclaaGreatDoor
section
open Go.RowKit Go.Maps Ieee
variable{n:Int}{r s t:Nat}
def apW(n:Int)(r s t:Nat)(b:Bool):Prop:=∀w,Calls Tryz.prog 38 #[curV n r s t] w (RetV w (.bool b))
theorem arS{a b c d e f:Bool}(h1:Sub0 r)(h2:Sub0 s)(h3:Sub0 t)(oa:(FloatKind.f64.format.order r 0 != some Ordering.eq)=a)(ob:(FloatKind.f64.format.order s 0 != some Ordering.eq)=b)(oc:(FloatKind.f64.format.order t 0==some Ordering.gt||FloatKind.f64.format.order t 0==some Ordering.eq)=c)(e1:(n==1)=d)(e2:(n==2)=e)(hf:(d&&(a||b)||e&&c)=f):apW n r s t f:=by
 intro w;subst hf;have hz:=ne00;obtain⟨w1,hw1,hb1,hs1,b1⟩:=pro1 w (curO n r s t);obtain⟨c0,c1,c2,c3⟩:=aY b1;have HB:=hdd hb1;clear hb1 hs1 b1
 cases d<;>cases e<;>cases a<;>cases b<;>cases c<;>(
  simp only[Bool.false_eq_true,Bool.true_and,Bool.false_and,Bool.or_true,Bool.or_false,Bool.true_or,Bool.false_or];go_enter Tryz.func38,Tryz.ntmps38
  go_wp2_with (simp only[h1,h2,h3])
  go_ret;exact⟨rfl,HB.out⟩)
theorem arT(h:¬fin r\/Sub0 r/\¬fin s\/Sub0 r/\Sub0 s/\¬fin t):apW n r s t false:=by
 intro w;have hz:=ne00;obtain⟨w1,hw1,hb1,hs1,b1⟩:=pro1 w (curO n r s t);obtain⟨c0,c1,c2,c3⟩:=aY b1;have HB:=hdd (hb1.trans ((Below.refl w1.heap.size w1).drew.mono hb1.size));clear hb1 hs1 b1;rcases h with h1|⟨h1,h2⟩|⟨h1,h2,h3⟩
 . obtain⟨v,m1,m2⟩:=ap7 h1 w1
   go_enter Tryz.func38,Tryz.ntmps38
   go_wp2_with (simp only[m1])
   go_ret;exact⟨rfl,HB.out⟩
 . obtain⟨v,m1,m2⟩:=ap7 h2 w1
   go_enter Tryz.func38,Tryz.ntmps38
   go_wp2_with (simp only[h1,m1])
   go_ret;exact⟨rfl,HB.out⟩
 . obtain⟨v,m1,m2⟩:=ap7 h3 w1
   go_enter Tryz.func38,Tryz.ntmps38
   go_wp2_with (simp only[h1,h2,m1])
   go_ret;exact⟨rfl,HB.out⟩
end
section
open Go.RowKit Go.Maps Go.Stop Go.Extern
open Go.Lib renaming hid->awJ
open List renaming setIfInBounds_toArray->awK,map_cons->awL,cons_append->awM,map_nil->awN,nil_append->awO,mem_append->awP,set->awQ,mem_map->awR
variable{kd:Int}{ca cb cc x y:Nat}{v:Value}{w:World}
theorem asT(ha:ca<18446744073709551616)(hb:cb<18446744073709551616)(hc:cc<18446744073709551616):∃b,apW kd ca cb cc b/\(apB kd ca cb cc->b=true):=by
 have sub:∀{x:Nat},fin x->Sub0 x:=fun hf w=>aoO (P:=Tryz.prog) hf 28 w;have no:(¬fin ca\/Sub0 ca/\¬fin cb\/Sub0 ca/\Sub0 cb/\¬fin cc)->¬(fin ca/\fin cb/\fin cc)->∃b,apW kd ca cb cc b/\(apB kd ca cb cc->b=true):=fun h k=>⟨false,arT h,fun q=>by
  rcases q with ⟨-,h1,h2,h3,-⟩|⟨-,h1,h2,h3,-⟩<;>exact absurd ⟨h1.2,h2.2,h3.2⟩ k⟩
 by_cases fa:fin ca
 . by_cases fb:fin cb
   . by_cases fc:fin cc
     . have z:∀{x:Nat},fin x->(FloatKind.f64.format.order x 0 != some Ordering.eq)= !decide (fv x=0):=fun{x} hx=>by
        have e:=qJ hx.num num0;rw[sr0]at e;rw[aoZ e]
        congr 1
        exact decide_eq_decide.2 ao8
       have q:(FloatKind.f64.format.order cc 0==some Ordering.gt||FloatKind.f64.format.order cc 0==some Ordering.eq)=decide (0<=fv cc):=by
        rw[amZ fc.num num0,sr0];exact decide_eq_decide.2 apL
       refine⟨_,arS (n:=kd) (sub fa) (sub fb) (sub fc) (z fa) (z fb) q rfl rfl rfl,fun k=> ?_⟩;rcases k with ⟨rfl,-,-,-,h|h⟩|⟨rfl,-,-,-,h⟩
       . simp[h]
       . simp[h]
       . simp[h]
     . exact no (Or.inr (Or.inr ⟨sub fa,sub fb,fc⟩)) fun h=>fc h.2.2
   . exact no (Or.inr (Or.inl ⟨sub fa,fb⟩)) fun h=>fb h.2.1
 . exact no (Or.inl fa) fun h=>fa h.1
theorem aoQ{k:Int}(h:aqF w v 4 k):Calls Tryz.prog 35 #[v,.iface 124 (.int .i64 4)] w (fun e w'=>e=.returned (.bool true)/\w'=w):=by
 have:=aqK (j:=4) h;exact this
theorem aoW(h:aqF w v 4 1):Calls Tryz.prog 35 #[v,.iface 124 (.int .i64 1)] w (fun e w'=>e=.returned (.bool true)/\w'=w):=by
 have:=aqK (j:=1) h;exact this
theorem apJ(h:aqF w v 4 5):Calls Tryz.prog 35 #[v,.iface 124 (.int .i64 5)] w (fun e w'=>e=.returned (.bool true)/\w'=w):=by
 have:=aqK (j:=5) h;exact this
section
variable{s:Bs}{g N M:Nat}{K K0:List (Ex×Nat)}{L:List (Nat×Obj)}{W:World}
theorem Run.own2 (h:Run s g N K L W)(hK:∀p∈K0,p∈K):∃ns,Run ⟨W,s.B,ns⟩ g N K0 [] W/\∀(M:Nat) (K1:List (Ex×Nat)) (l1:List (Nat×Obj)) (W':World),Run ⟨W,s.B,ns⟩ g M K1 l1 W'->Run s g M (K1++K) (l1++L) W'/\DS g W W':=by
 obtain⟨ns,hs,hI⟩:=h;refine⟨ns,Run.enter hs.st (fun p hp=>hI p (hK p hp)),fun M K1 l1 W' hR=> ?_⟩;obtain⟨ns2,hs2,hI2⟩:=hR;have h2:=hs.step hs2.st hs2.pre hs2.grew.2.2;refine⟨⟨ns2,⟨h2.grew,fun p hp=> ?_,h2.hw,?_⟩,fun p hp=> ?_⟩,hs2.grew.2.2⟩
 . rcases awP.1 hp with hp|hp
   . obtain⟨a,b,c⟩:=hs2.kept p hp
     exact⟨a,b,Nat.le_trans hs.grew.2.2.size c⟩
   . exact h2.kept p hp
 . rw[List.map_append,List.nodup_append]
   refine⟨hs2.nodup,h2.nodup,fun a ha b hb e=> ?_⟩;obtain⟨p,hp,rfl⟩:=awR.1 ha;obtain⟨q,hq,rfl⟩:=awR.1 hb;have h3:=(hs2.kept p hp).2.2;have h4:=hs.lt hq;have h5:W.heap.size<=p.1:=h3;omega
 . rcases awP.1 hp with hp|hp
   . exact hI2 p hp
   . exact(hI p hp).mono hs2.pre
end
theorem aqR(ha:ca<18446744073709551616)(hb:cb<18446744073709551616)(hc:cc<18446744073709551616)(hx:x<18446744073709551616)(hy:y<18446744073709551616)(hT:Tab w)(htb:1<w.heap.size):
 Calls Tryz.prog 6 #[curV kd ca cb cc,.float .f64 x,.float .f64 y] w (RetV w (.bool true)):=by
 obtain⟨w1,hw1,hb1,hs1,b1⟩:=pro1 w (curO kd ca cb cc);have HA:=awJ (atD (hT.below hb1) (Nat.lt_of_lt_of_le htb hb1.size));have HT:=awJ (And.intro hT htb);have HB1:=awJ hb1;have HC1:=awJ b1;have HC:=awJ (And.intro ha (And.intro hb hc));have HX:Hid (x<18446744073709551616/\y<18446744073709551616/\True):=awJ ⟨hx,hy,trivial⟩;obtain⟨br,hr1,hr2⟩:=asT (kd:=kd) ha hb hc;have HRI:=awJ hr1;have HRB:=awJ hr2;have hz:=ne00;have HINV:Hid (∀w',Calls Tryz.prog 36 #[] w' (fun e w2=>e=.returned (.iface 124 (.int .i64 4))/\w'=w2)):=awJ fun w'=>ao2;clear hT htb hb1 hs1 b1 ha hb hc hx hy hr1 hr2;go_enter Tryz.func6,Tryz.ntmps6
 go_wp2_with fail
 refine HA.out.mono ?_;rintro e w2⟨rfl,hb2⟩;have HN:=awJ (aeD (w0:=w) (w1:=w2) (l:=[(w.heap.size,curO kd ca cb cc)]) (aA HB1.out hb2) (fun p hp=>by
  rw[List.mem_singleton.1 hp];exact⟨hbl HC1.out hb2,Nat.le_refl _⟩) (by simp) HT.out.1 HT.out.2)
 clear hb2 HA HB1 HC1 HT;go_wp2_with fail
 refine HN.out.mono ?_;rintro e W1⟨g,rfl,hR⟩;have R1:=awJ hR;clear hR HN;dsimp only
 go_upto_region 6 with fail
 refine Spec.go [.w (.c (.v (.pointer (some ⟨g,0,none⟩)))),ap1 g 1 2,.w (.c (.ptr 3 0)),noS] [1,1,2]
  [(1,(.leaf 0)),(2,(.leaf 0))] [⟨0,67,curC kd ca cb cc,none⟩,⟨3,69,[.v (.pointer none),.v (.int .i64 0),.v (.pointer none),.v (.int .i64 0)],some (3,aoU g 1 2)⟩]
  [0,2,0,0] [[],[0],[],[0,1,2]] [(7,.w (.c (.v (.pointer (some ⟨g,0,none⟩)))))]
  [20,21,9,0] [w.heap.size] 4 2 [] [] R1.out
  (fun b hM=>aoB (aoB (aoB (aoB aoF
    (aoC b))
    (aoD b (c_at hM (by decide) (by decide) (by decide) (by decide) rfl rfl rfl rfl (by decide) rfl)))
    (aoE b m1))
    (aoH b 4 m1)) ?_
 intro n1 n2 b3 ν W2 hR;replace hR:Run (bs w) g 2 [((.leaf 0),n1),((.leaf 0),n2)] [(w.heap.size,.cells #[.int .i64 kd,.float .f64 ca,.float .f64 cb,.float .f64 cc] 67),(b3,apD g n1 n2)] W2:=hR;have R2:=awJ hR;clear hR R1;simp only[putL,awK,awQ,fs0,fs1,fsn,dSw,dSt,dWc,dWa,dv,di,dp,ds',awL,awN,nuTn,nuT0,nuT1,nuU0,nuU1,dA12,dP8,dP24];obtain⟨c0,c1,c2,c3⟩:=aY (R2.out.at m0);obtain⟨d0,d1,d2,d3⟩:=aY (R2.out.at m1);go_wp2_with fail
 refine(at1 HC.out.1 HC.out.2.1 HC.out.2.2 _ _ _ _ _ R2.out (by omega) (aoM [0,1,0,1])).mono ?_;rintro e w3⟨ve,rfl,hE,hR,hD⟩;have R3:=awJ hR;have E3:=awJ hE;clear hR hE hD c0 c1 c2 c3 d0 d1 d2 d3 R2 HC;obtain⟨c0,c1,c2,c3⟩:=aY (R3.out.at m0);obtain⟨d0,d1,d2,d3⟩:=aY (R3.out.at m1);go_wp2_with fail
 refine(at0 _ _ _ _ _ R3.out (by omega) (aoM [0,1])).mono ?_;rintro e w4⟨vf,rfl,hF,hR,hD⟩;have R4:=awJ hR;have E4:=awJ (E3.out.imp id (fun h=>h.ds hD));have F4:=awJ hF;clear hR hF hD c0 c1 c2 c3 d0 d1 d2 d3 R3 E3;obtain⟨c0,c1,c2,c3⟩:=aY (R4.out.at m0);obtain⟨d0,d1,d2,d3⟩:=aY (R4.out.at m1);go_wp2_with fail
 refine(chk_g.useD R4.out (by omega) (aoM [0,1,0,1])).mono ?_;rintro e w5⟨rfl,hR,hD⟩;have R5:=awJ hR;have E5:=awJ (E4.out.imp id (fun h=>h.ds hD));have F5:=awJ (F4.out.ds hD);clear hR hD c0 c1 c2 c3 d0 d1 d2 d3 R4 E4 F4;by_cases fx:fin x
 . by_cases fy:fin y
   . have sx:Sub0 x:=fun w'=>aoO (P:=Tryz.prog) fx 28 w'
     have sy:Sub0 y:=fun w'=>aoO (P:=Tryz.prog) fy 28 w';obtain⟨c0,c1,c2,c3⟩:=aY (R5.out.at m0);go_wp2_with (simp only[sx,sy])
     refine(HRI.out _).mono ?_;rintro e wr⟨rfl,hb⟩;have FR:=awJ (F5.out.ds (R5.out.ds hb));have BR:=awJ (aA (Run.below R5.out) hb);have ER:=awJ (E5.out.imp id (fun h=>h.ds (R5.out.ds hb)));have J1:=awJ (aoQ FR.out.join);have J2:=awJ (aoW FR.out.join);clear hb c0 c1 c2 c3 R5 E5 F5 FR HRI
     cases br
     case' false=>
      have hJ:=ER.out.resolve_left (fun k=>by have:=HRB.out k;cases this);have J3:=awJ (aoQ hJ.join);have J4:=awJ (apJ hJ.join);clear hJ;go_wp2_with fail
      refine(HINV.out _).mono ?_;rintro e wa⟨rfl,rfl⟩;go_wp2_with fail
      refine J3.out.mono ?_;rintro e wa'⟨rfl,rfl⟩;go_wp2_with fail
      refine degen_any.mono ?_;rintro e wb⟨rfl,rfl⟩;go_wp2_with fail
      refine J4.out.mono ?_;rintro e wb'⟨rfl,rfl⟩
     all_goals
      go_wp2_with fail
      refine(HINV.out _).mono ?_;rintro e wc⟨rfl,rfl⟩;go_wp2_with fail
      refine J1.out.mono ?_;rintro e wc'⟨rfl,rfl⟩;go_wp2_with fail
      refine wU.mono ?_;rintro e wd⟨rfl,rfl⟩;go_wp2_with fail
      refine J2.out.mono ?_;rintro e wd'⟨rfl,rfl⟩;go_wp2_with fail
      refine(HINV.out _).mono ?_;rintro e we⟨rfl,rfl⟩;go_wp2_with fail
      refine alive_is.mono ?_;rintro e wf⟨rfl,rfl⟩;go_wp2;go_ret;exact⟨rfl,BR.out⟩
   . have sx:Sub0 x:=fun w'=>aoO (P:=Tryz.prog) fx 28 w'
     obtain⟨v,n1,n2⟩:=ap7 fy w5;have FX:=awJ (And.intro fx fy);have HD0:=Below.refl w5.heap.size w5;have hdd:=R5.out.ds HD0.drew;have R6:=awJ R5.out.drew;have E6:=awJ (E5.out.imp id (fun h=>h.ds hdd));have F6:=awJ (F5.out.ds hdd);clear hdd HD0
     go_upto_region 11 with (simp only[sx,n1])
     obtain⟨ns,h0,back⟩:=R6.out.own2 (K0:=[]) (fun p hp=>by cases hp);have HBK:=awJ back;have RI:=awJ h0;clear h0 back R5 E5 F5;refine Spec.go [.w (.c (.v (.pointer (some ⟨g,0,none⟩)))),.w (.c (.v (.float .f64 x))),.w (.c (.v (.float .f64 y))),.w (.agg ([.v (.pointer (some ⟨g,0,none⟩)),.id 0,.v (.pointer (some ⟨g,0,none⟩)),.v (.int .i64 (-1))])),.w (.c (.ptr 1 0)),noS] [3,4]
      [(0,(.leaf x))] [⟨1,69,[.v (.pointer none),.v (.int .i64 0),.v (.pointer none),.v (.int .i64 0)],some (5,[.v (.pointer (some ⟨g,0,none⟩)),.id 0,.v (.pointer (some ⟨g,0,none⟩)),.v (.int .i64 (-1))])⟩]
      [0,0,0,2,0,0] [[],[],[],[0,1,2],[],rgn 5] [(7,.w (.c (.v (.pointer (some ⟨g,0,none⟩))))),(1,.w (.c (.v (.float .f64 x)))),(2,.w (.c (.v (.float .f64 y))))]
      [49,50,51,52,13,0] [] 6 64 [] [] RI.out
      (fun b hM=>aoB (aoB (aoB (aoB (aoB (aoB aoF
        (aoC b))
        (aoC b))
        (aoC b))
        (aoD b (c_fn (ix:=[]) (ts:=[0]) hM (fun ν=>atW HX.out.1 HX.out.2.1 FX.out.1 FX.out.2))))
        (aoE b m0))
        (aoH b 4 m0)) ?_
     intro n1 b2 ν W7 hR;replace hR:Run ⟨_,_,ns⟩ g 64 [((.leaf x),n1)] [(b2,.cells #[.pointer (some ⟨g,0,none⟩),.int .i64 ((n1:Nat):Int),.pointer (some ⟨g,0,none⟩),.int .i64 (-1)] 69)] W7:=hR;have R7:=awJ hR;clear hR RI;simp only[putL,awK,awQ,fs0,fs1,fsn,dSw,dSt,dWc,dWa,dv,di,dp,ds',awL,awN,nuTn,nuT0,nuT1,nuU0,nuU1,dA12,dP8,dP24];obtain⟨hR8,hD⟩:=HBK.out _ _ _ _ R7.out;simp only[awM,awO]at hR8;have R8:=awJ hR8;have E8:=awJ (E6.out.imp id (fun h=>h.ds hD));have F8:=awJ (F6.out.ds hD);clear hR8 hD HBK R7 R6 E6 F6;obtain⟨c0,c1,c2,c3⟩:=aY (R8.out.at m0);go_wp2_with fail
     refine(asS (asK aoV.1 aoV.2.1 aoV.2.2.1) _ _ _ _ _ R8.out (by omega) (aoM [0])).mono ?_;rintro e w9⟨vh,rfl,hH,hR,hD⟩;have R9:=awJ hR;have E9:=awJ (E8.out.imp id (fun h=>h.ds hD));have F9:=awJ (F8.out.ds hD);have H1:=awJ (aoQ hH.join);have H2:=awJ (aoW hH.join);clear hR hH hD R8 E8 F8 c0 c1 c2 c3;go_wp2_with fail
     refine(HINV.out _).mono ?_;rintro e wg⟨rfl,rfl⟩;go_wp2_with fail
     refine H1.out.mono ?_;rintro e wg'⟨rfl,rfl⟩;go_wp2_with fail
     refine wU.mono ?_;rintro e wh⟨rfl,rfl⟩;go_wp2_with fail
     refine H2.out.mono ?_;rintro e wh'⟨rfl,rfl⟩;obtain⟨c0,c1,c2,c3⟩:=aY (R9.out.at m1);go_wp2_with fail
     refine(HRI.out _).mono ?_;rintro e wr⟨rfl,hb⟩;have FR:=awJ (F9.out.ds (R9.out.ds hb));have BR:=awJ (aA (Run.below R9.out) hb);have ER:=awJ (E9.out.imp id (fun h=>h.ds (R9.out.ds hb)));have J1:=awJ (aoQ FR.out.join);have J2:=awJ (aoW FR.out.join);clear hb c0 c1 c2 c3 R9 E9 F9 FR HRI
     cases br
     case' false=>
      have hJ:=ER.out.resolve_left (fun k=>by have:=HRB.out k;cases this);have J3:=awJ (aoQ hJ.join);have J4:=awJ (apJ hJ.join);clear hJ;go_wp2_with fail
      refine(HINV.out _).mono ?_;rintro e wa⟨rfl,rfl⟩;go_wp2_with fail
      refine J3.out.mono ?_;rintro e wa'⟨rfl,rfl⟩;go_wp2_with fail
      refine degen_any.mono ?_;rintro e wb⟨rfl,rfl⟩;go_wp2_with fail
      refine J4.out.mono ?_;rintro e wb'⟨rfl,rfl⟩
     all_goals
      go_wp2_with fail
      refine(HINV.out _).mono ?_;rintro e wc⟨rfl,rfl⟩;go_wp2_with fail
      refine J1.out.mono ?_;rintro e wc'⟨rfl,rfl⟩;go_wp2_with fail
      refine wU.mono ?_;rintro e wd⟨rfl,rfl⟩;go_wp2_with fail
      refine J2.out.mono ?_;rintro e wd'⟨rfl,rfl⟩;go_wp2_with fail
      refine(HINV.out _).mono ?_;rintro e we⟨rfl,rfl⟩;go_wp2_with fail
      refine alive_is.mono ?_;rintro e wf⟨rfl,rfl⟩;go_wp2;go_ret;exact⟨rfl,BR.out⟩
 . obtain⟨v,n1,n2⟩:=ap7 fx w5
   by_cases fy:fin y
   . have FX:=awJ (And.intro fx fy)
     have HD0:=Below.refl w5.heap.size w5;have hdd:=R5.out.ds HD0.drew;have R6:=awJ R5.out.drew;have E6:=awJ (E5.out.imp id (fun h=>h.ds hdd));have F6:=awJ (F5.out.ds hdd);clear hdd HD0
     go_upto_region 11 with (simp only[n1])
     obtain⟨ns,h0,back⟩:=R6.out.own2 (K0:=[]) (fun p hp=>by cases hp);have HBK:=awJ back;have RI:=awJ h0;clear h0 back R5 E5 F5;refine Spec.go [.w (.c (.v (.pointer (some ⟨g,0,none⟩)))),.w (.c (.v (.float .f64 x))),.w (.c (.v (.float .f64 y))),.w (.agg ([.v (.pointer (some ⟨g,0,none⟩)),.v (.int .i64 (-1)),.v (.pointer (some ⟨g,0,none⟩)),.id 0])),.w (.c (.ptr 1 0)),noS] [3,4]
      [(0,(.leaf y))] [⟨1,69,[.v (.pointer none),.v (.int .i64 0),.v (.pointer none),.v (.int .i64 0)],some (5,[.v (.pointer (some ⟨g,0,none⟩)),.v (.int .i64 (-1)),.v (.pointer (some ⟨g,0,none⟩)),.id 0])⟩]
      [0,0,0,2,0,0] [[],[],[],[0,1,2],[],rgn 5] [(7,.w (.c (.v (.pointer (some ⟨g,0,none⟩))))),(1,.w (.c (.v (.float .f64 x)))),(2,.w (.c (.v (.float .f64 y))))]
      [49,50,51,52,13,0] [] 6 64 [] [] RI.out
      (fun b hM=>aoB (aoB (aoB (aoB (aoB (aoB aoF
        (aoC b))
        (aoC b))
        (aoC b))
        (aoD b (c_fn (ix:=[]) (ts:=[0]) hM (fun ν=>atV HX.out.1 HX.out.2.1 FX.out.1 FX.out.2))))
        (aoE b m0))
        (aoH b 4 m0)) ?_
     intro n1 b2 ν W7 hR;replace hR:Run ⟨_,_,ns⟩ g 64 [((.leaf y),n1)] [(b2,.cells #[.pointer (some ⟨g,0,none⟩),.int .i64 (-1),.pointer (some ⟨g,0,none⟩),.int .i64 ((n1:Nat):Int)] 69)] W7:=hR;have R7:=awJ hR;clear hR RI;simp only[putL,awK,awQ,fs0,fs1,fsn,dSw,dSt,dWc,dWa,dv,di,dp,ds',awL,awN,nuTn,nuT0,nuT1,nuU0,nuU1,dA12,dP8,dP24];obtain⟨hR8,hD⟩:=HBK.out _ _ _ _ R7.out;simp only[awM,awO]at hR8;have R8:=awJ hR8;have E8:=awJ (E6.out.imp id (fun h=>h.ds hD));have F8:=awJ (F6.out.ds hD);clear hR8 hD HBK R7 R6 E6 F6;obtain⟨c0,c1,c2,c3⟩:=aY (R8.out.at m0);go_wp2_with fail
     refine(asS (asJ aoV.1 aoV.2.1 aoV.2.2.1) _ _ _ _ _ R8.out (by omega) (aoM [0])).mono ?_;rintro e w9⟨vh,rfl,hH,hR,hD⟩;have R9:=awJ hR;have E9:=awJ (E8.out.imp id (fun h=>h.ds hD));have F9:=awJ (F8.out.ds hD);have H1:=awJ (aoQ hH.join);have H2:=awJ (aoW hH.join);clear hR hH hD R8 E8 F8 c0 c1 c2 c3;go_wp2_with fail
     refine(HINV.out _).mono ?_;rintro e wg⟨rfl,rfl⟩;go_wp2_with fail
     refine H1.out.mono ?_;rintro e wg'⟨rfl,rfl⟩;go_wp2_with fail
     refine wU.mono ?_;rintro e wh⟨rfl,rfl⟩;go_wp2_with fail
     refine H2.out.mono ?_;rintro e wh'⟨rfl,rfl⟩;obtain⟨c0,c1,c2,c3⟩:=aY (R9.out.at m1);go_wp2_with fail
     refine(HRI.out _).mono ?_;rintro e wr⟨rfl,hb⟩;have FR:=awJ (F9.out.ds (R9.out.ds hb));have BR:=awJ (aA (Run.below R9.out) hb);have ER:=awJ (E9.out.imp id (fun h=>h.ds (R9.out.ds hb)));have J1:=awJ (aoQ FR.out.join);have J2:=awJ (aoW FR.out.join);clear hb c0 c1 c2 c3 R9 E9 F9 FR HRI
     cases br
     case' false=>
      have hJ:=ER.out.resolve_left (fun k=>by have:=HRB.out k;cases this);have J3:=awJ (aoQ hJ.join);have J4:=awJ (apJ hJ.join);clear hJ;go_wp2_with fail
      refine(HINV.out _).mono ?_;rintro e wa⟨rfl,rfl⟩;go_wp2_with fail
      refine J3.out.mono ?_;rintro e wa'⟨rfl,rfl⟩;go_wp2_with fail
      refine degen_any.mono ?_;rintro e wb⟨rfl,rfl⟩;go_wp2_with fail
      refine J4.out.mono ?_;rintro e wb'⟨rfl,rfl⟩
     all_goals
      go_wp2_with fail
      refine(HINV.out _).mono ?_;rintro e wc⟨rfl,rfl⟩;go_wp2_with fail
      refine J1.out.mono ?_;rintro e wc'⟨rfl,rfl⟩;go_wp2_with fail
      refine wU.mono ?_;rintro e wd⟨rfl,rfl⟩;go_wp2_with fail
      refine J2.out.mono ?_;rintro e wd'⟨rfl,rfl⟩;go_wp2_with fail
      refine(HINV.out _).mono ?_;rintro e we⟨rfl,rfl⟩;go_wp2_with fail
      refine alive_is.mono ?_;rintro e wf⟨rfl,rfl⟩;go_wp2;go_ret;exact⟨rfl,BR.out⟩
   . have FX:=awJ (And.intro fx fy)
     have HD0:=Below.refl w5.heap.size w5;have hdd:=R5.out.ds HD0.drew;have R6:=awJ R5.out.drew;have E6:=awJ (E5.out.imp id (fun h=>h.ds hdd));have F6:=awJ (F5.out.ds hdd);clear hdd HD0
     go_upto_region 11 with (simp only[n1])
     obtain⟨ns,h0,back⟩:=R6.out.own2 (K0:=[]) (fun p hp=>by cases hp);have HBK:=awJ back;have RI:=awJ h0;clear h0 back R5 E5 F5;refine Spec.go [.w (.c (.v (.pointer (some ⟨g,0,none⟩)))),.w (.c (.v (.float .f64 x))),.w (.c (.v (.float .f64 y))),.w (.agg ([.v (.pointer (some ⟨g,0,none⟩)),.v (.int .i64 (-1)),.v (.pointer (some ⟨g,0,none⟩)),.v (.int .i64 (-1))])),.w (.c (.ptr 0 0)),noS] [4]
      [] [⟨0,69,[.v (.pointer none),.v (.int .i64 0),.v (.pointer none),.v (.int .i64 0)],some (5,[.v (.pointer (some ⟨g,0,none⟩)),.v (.int .i64 (-1)),.v (.pointer (some ⟨g,0,none⟩)),.v (.int .i64 (-1))])⟩]
      [0,0,0,2,0,0] [[],[],[],[0,1,2],[],rgn 5] [(7,.w (.c (.v (.pointer (some ⟨g,0,none⟩))))),(1,.w (.c (.v (.float .f64 x)))),(2,.w (.c (.v (.float .f64 y))))]
      [49,50,51,52,13,0] [] 6 64 [] [] RI.out
      (fun b hM=>aoB (aoB (aoB (aoB (aoB (aoB aoF
        (aoC b))
        (aoC b))
        (aoC b))
        (aoD b (c_fn (ix:=[]) (ts:=[]) hM (fun ν=>atX HX.out.1 HX.out.2.1 FX.out.1 FX.out.2))))
        (aoE b m0))
        (aoH b 4 m0)) ?_
     intro b1 ν W7 hR;replace hR:Run ⟨_,_,ns⟩ g 64 [] [(b1,.cells #[.pointer (some ⟨g,0,none⟩),.int .i64 (-1),.pointer (some ⟨g,0,none⟩),.int .i64 (-1)] 69)] W7:=hR;have R7:=awJ hR;clear hR RI;simp only[putL,awK,awQ,fs0,fs1,fsn,dSw,dSt,dWc,dWa,dv,di,dp,ds',awL,awN,nuTn,nuT0,nuT1,nuU0,nuU1,dA12,dP8,dP24];obtain⟨hR8,hD⟩:=HBK.out _ _ _ _ R7.out;simp only[awM,awO]at hR8;have R8:=awJ hR8;have E8:=awJ (E6.out.imp id (fun h=>h.ds hD));have F8:=awJ (F6.out.ds hD);clear hR8 hD HBK R7 R6 E6 F6;obtain⟨c0,c1,c2,c3⟩:=aY (R8.out.at m0);go_wp2_with fail
     refine(asS (asL aoV.1 aoV.2.1 aoV.2.2.1) _ _ _ _ _ R8.out (by omega) (aoM [])).mono ?_;rintro e w9⟨vh,rfl,hH,hR,hD⟩;have R9:=awJ hR;have E9:=awJ (E8.out.imp id (fun h=>h.ds hD));have F9:=awJ (F8.out.ds hD);have H1:=awJ (aoQ hH.join);have H2:=awJ (aoW hH.join);clear hR hH hD R8 E8 F8 c0 c1 c2 c3;go_wp2_with fail
     refine(HINV.out _).mono ?_;rintro e wg⟨rfl,rfl⟩;go_wp2_with fail
     refine H1.out.mono ?_;rintro e wg'⟨rfl,rfl⟩;go_wp2_with fail
     refine wU.mono ?_;rintro e wh⟨rfl,rfl⟩;go_wp2_with fail
     refine H2.out.mono ?_;rintro e wh'⟨rfl,rfl⟩;obtain⟨c0,c1,c2,c3⟩:=aY (R9.out.at m1);go_wp2_with fail
     refine(HRI.out _).mono ?_;rintro e wr⟨rfl,hb⟩;have FR:=awJ (F9.out.ds (R9.out.ds hb));have BR:=awJ (aA (Run.below R9.out) hb);have ER:=awJ (E9.out.imp id (fun h=>h.ds (R9.out.ds hb)));have J1:=awJ (aoQ FR.out.join);have J2:=awJ (aoW FR.out.join);clear hb c0 c1 c2 c3 R9 E9 F9 FR HRI
     cases br
     case' false=>
      have hJ:=ER.out.resolve_left (fun k=>by have:=HRB.out k;cases this);have J3:=awJ (aoQ hJ.join);have J4:=awJ (apJ hJ.join);clear hJ;go_wp2_with fail
      refine(HINV.out _).mono ?_;rintro e wa⟨rfl,rfl⟩;go_wp2_with fail
      refine J3.out.mono ?_;rintro e wa'⟨rfl,rfl⟩;go_wp2_with fail
      refine degen_any.mono ?_;rintro e wb⟨rfl,rfl⟩;go_wp2_with fail
      refine J4.out.mono ?_;rintro e wb'⟨rfl,rfl⟩
     all_goals
      go_wp2_with fail
      refine(HINV.out _).mono ?_;rintro e wc⟨rfl,rfl⟩;go_wp2_with fail
      refine J1.out.mono ?_;rintro e wc'⟨rfl,rfl⟩;go_wp2_with fail
      refine wU.mono ?_;rintro e wd⟨rfl,rfl⟩;go_wp2_with fail
      refine J2.out.mono ?_;rintro e wd'⟨rfl,rfl⟩;go_wp2_with fail
      refine(HINV.out _).mono ?_;rintro e we⟨rfl,rfl⟩;go_wp2_with fail
      refine alive_is.mono ?_;rintro e wf⟨rfl,rfl⟩;go_wp2;go_ret;exact⟨rfl,BR.out⟩
theorem aqA(hT:Tab w)(htb:1<w.heap.size)(ha:ca<18446744073709551616)(hb:cb<18446744073709551616)(hc:cc<18446744073709551616)(hx:x<18446744073709551616)(hy:y<18446744073709551616):Calls Tryz.prog 6 #[curV kd ca cb cc,.float .f64 x,.float .f64 y] w (RetV w (.bool true)):=aqR ha hb hc hx hy hT htb
end
end Go.Proofs.YtkpodipoegbclaaGreatDoor
