/- A part of the proof: contracts of functions and plain laws (MsWxClmK). -/
import Derived.Test.YtjaafolhfihegaaGreatDoorM38
import Derived.Test.YtjaafolhfihegaaGreatDoorM19
import Derived.Test.YtjaafolhfihegaaGreatDoorM16
import Derived.Test.YtjaafolhfihegaaGreatDoorM15
import Derived.Test.YtjaafolhfihegaaGreatDoorM14
import Derived.Test.YtjaafolhfihegaaGreatDoorM13
import Derived.Test.YtjaafolhfihegaaGreatDoorM12
import Derived.Test.YtjaafolhfihegaaGreatDoorM08
import Derived.Test.YtjaafolhfihegaaGreatDoorM07
import Derived.Test.YtjaafolhfihegaaGreatDoorM06
import Derived.Test.YtjaafolhfihegaaGreatDoorM05
import Derived.Test.YtjaafolhfihegaaGreatDoorM04
import Derived.Test.YtjaafolhfihegaaGreatDoorM03
import Derived.Test.YtjaafolhfihegaaGreatDoorM02
import Derived.Test.YtjaafolhfihegaaGreatDoorM01
import Derived.Test.YtjaafolhfihegaaGreatDoorM11
import Derived.Test.YtjaafolhfihegaaGreatDoorM10
import Derived.Test.YtjaafolhfihegaaGreatDoorM09
import Derived.Test.YtjaafolhfihegaaGreatDoorM18
import Derived.Test.YtjaafolhfihegaaGreatDoorM17
import Derived.Test.YtjaafolhfihegaaGreatDoorM37
import Derived.Test.YtjaafolhfihegaaGreatDoorM36
import Derived.Test.YtjaafolhfihegaaGreatDoorM35
import Derived.Test.YtjaafolhfihegaaGreatDoorM33
import Derived.Test.YtjaafolhfihegaaGreatDoorM34
import Derived.Test.YtjaafolhfihegaaGreatDoorM32
import Derived.Test.YtjaafolhfihegaaGreatDoorM31
import Derived.Test.YtjaafolhfihegaaGreatDoorM30
import Derived.Test.YtjaafolhfihegaaGreatDoorM29
import Derived.Test.YtjaafolhfihegaaGreatDoorM28
import Derived.Test.YtjaafolhfihegaaGreatDoorM24
import Derived.Test.YtjaafolhfihegaaGreatDoorM23
import Derived.Test.YtjaafolhfihegaaGreatDoorM21
import Derived.Test.YtjaafolhfihegaaGreatDoorM20
import Derived.Test.YtjaafolhfihegaaGreatDoorM22
import Derived.Test.YtjaafolhfihegaaGreatDoorM27
import Derived.Test.YtjaafolhfihegaaGreatDoorM26
import Derived.Test.YtjaafolhfihegaaGreatDoorM25
import Derived.Test.YtjaafolhfihegaaGreatDoorM39
import Derived.Test.YtjaafolhfihegaaGreatDoorM40
import Derived.WalkKit
import Derived.Laws.NewFold
set_option linter.unusedVariables false
set_option linter.unusedSimpArgs false
set_option maxHeartbeats 25600000
set_option maxRecDepth 100000
namespace Go.Proofs.YtjaafolhfihegaaGreatDoor
open Go.RowKit Go.Maps Go.Stop Go.Extern
open List renaming setIfInBounds_toArray->bjP,map_cons->bjQ,map_nil->bjR,set->bjS
theorem yK{w:World}{n k:Int}{a b c:Nat}(hT:Tab w)(htb:1<w.heap.size)(ha:a<18446744073709551616)(hb:b<18446744073709551616)(hc:c<18446744073709551616):
 Calls Tryz.prog 8 #[curV n a b c,.int .i64 k] w (RetV w (.bool true)):=by
 obtain⟨w2,hw2,hb2,hs2,b1⟩:=pro1 w (curO n a b c);have HA:=hdd (amQ (hT.below hb2) (Nat.lt_of_lt_of_le htb hb2.size));have HT:=hdd (And.intro hT htb);have HB2:=hdd hb2;have B1:=hdd b1;obtain⟨r,s,t,hG,hgr⟩:=aoW (n:=n) ha hb hc;have HG:=hdd hgr;have RX:=hdd (amR (n:=n) hG);obtain⟨k1,k2,k3,k0,o1,o2,o3,o4,l1,l9⟩:=mod_one (n:=9) k (by omega);obtain⟨wk,cwk,hK⟩:=sO k0 (by omega);obtain⟨c0,c1,c2,c3⟩:=aL b1;obtain⟨d0,d1,d2,d3⟩:=rT b1;clear hT htb hb2 hs2 b1 hgr ha hb hc hG;have hst:=aX;go_enter Tryz.func8,Tryz.ntmps8
 go_wp2_with fail
 refine HA.out.mono ?_;rintro e w3⟨rfl,hb3⟩;have HB3:=hdd (aC HB2.out hb3);have B13:=hdd (hbl B1.out hb3);clear c0 c1 c2 c3 d0 d1 d2 d3;obtain⟨c0,c1,c2,c3⟩:=aL B13.out;clear hb3 HA B1 HB2 hw2;go_wp2_with fail
 refine(HG.out _).mono ?_;rintro e w4⟨rfl,hb4⟩;have HB4:=hdd (HB3.out.trans (hb4.mono HB3.out.size));have B14:=hdd (hbl B13.out hb4);clear c0 c1 c2 c3 hb4 B13 HB3 HG;obtain⟨c0,c1,c2,c3⟩:=aL B14.out;obtain⟨d0,d1,d2,d3⟩:=rT B14.out;obtain⟨w5,hw5,hb5,q1,q2⟩:=adM (a:=.int .i64 n) (b:=.float .f64 r) (c:=.float .f64 s) (d:=.float .f64 t) HB4.out nlr B14.out;have HB5:=hdd hb5;have Q1:=hdd q1;clear q2 hb5 B14 HB4;obtain⟨e0,e1,e2,e3⟩:=aL q1;clear q1;go_wp2_with fail
 rcases RX.out with hr|⟨hr,R,S,T,b0,b1,b2,hR0,hS0,hT0,hcase⟩
 . refine(hr _).mono ?_
   rintro e w6⟨rfl,hb6⟩;have HB6:=hdd (HB5.out.trans (hb6.mono HB5.out.size));clear hb6;go_wp2;go_ret;exact⟨rfl,HB6.out⟩
 refine(hr _).mono ?_;rintro e w6⟨rfl,hb6⟩;clear hr RX;have HB6:=hdd (HB5.out.trans (hb6.mono HB5.out.size));have HK6:Hid (∀q∈[(w.heap.size,curO n r s t)],w6.heap[q.1]? =some q.2/\w.heap.size<=q.1):=hdd fun q hp=>by
  simp only[List.mem_cons,List.not_mem_nil,or_false]at hp;subst hp;exact⟨hbl Q1.out hb6,Nat.le_refl _⟩
 have HN:=hdd (aaY (w0:=w) HB6.out HK6.out (by simp) HT.out.1 HT.out.2);clear hb6 hw5 e0 e1 e2 e3 c0 c1 c2 c3 d0 d1 d2 d3;obtain⟨wc,ac,hC0⟩:=amB hT0 hK (by omega);have MX:=hdd (And.intro o1 (And.intro o2 (And.intro o3 (And.intro o4 (And.intro cwk ac)))));clear o1 o2 o3 o4 cwk ac;go_wp2_with fail
 refine HN.out.mono ?_;rintro e W1⟨g,rfl,hR⟩;have R1:=hdd hR;clear hst hR HN HK6 Q1 HB5 HB6 HT;dsimp only;have z1:dJ r s t\/¬0<=T:=(Classical.em (0<=T)).imp_left fun h=>⟨hR0.1,hS0.1,hT0.1,amC hT0 h⟩;have z2:0<=T->dJ r s wc:=fun h=>⟨hR0.1,hS0.1,hC0.1,amC hC0 (by omega)⟩;have y1:=agO hR0 hR0 rfl;have y2:=agO hS0 hS0 rfl;have y3:(FloatKind.f64.format.order t wc != some Ordering.eq)=true:=iY (ae9 hT0 hC0 (by omega));have y4:(FloatKind.f64.format.order t t != some Ordering.eq)=false:=iY (agO hT0 hT0 rfl);have hw:(n=2/\T=0)\/((∀g,FnOk 45 g 28 #[.pointer (some ⟨g,0,none⟩),curV n r s t,curV n r s t] [] (fun _=>.tuple #[.slice none 0 0,.bool true,.nilIface]) [])/\(∀g,FnOk 45 g 28 #[.pointer (some ⟨g,0,none⟩),curV n r s t,curV n r s wc] [] (fun _=>.tuple #[.slice none 0 0,.bool false,.nilIface]) []))/\((n==2)=false\/(n==2)=true/\(FloatKind.f64.format.order t 0==some Ordering.eq)=false):=by
  rcases hcase with ⟨rfl,hne⟩|⟨rfl,h0⟩|⟨rfl,h0⟩
  . have hL:=aoX hR0 hS0 hT0 hC0 b0 b1 b2 l1 l9 hne
    obtain⟨g1,g2,g3,q,q',g4,g5,g6⟩:=hL;have f1:dC r s t:=⟨hR0.1,hS0.1,hT0.1,hne.imp (fun h=>adK hR0 h) (fun h=>adK hS0 h)⟩;have f2:dC r s wc:=⟨hR0.1,hS0.1,hC0.1,hne.imp (fun h=>adK hR0 h) (fun h=>adK hS0 h)⟩;exact Or.inr ⟨⟨fun g=>apL f1 f1 (ae6 f1 f1 g1 g2 g3),fun g=>apL f1 f2 (abI f1 f2 g1 g4 g5 g6)⟩,Or.inl (by decide)⟩
  . exact Or.inl ⟨rfl,h0⟩
  . have f1:=z1.resolve_right (by omega);have f2:=z2 (by omega)
    exact Or.inr ⟨⟨fun g=>(amP f1 f1 (amO f1 f1 y1 y2 y4 (iY (ae9 hT0 abJ (by omega))))).up (by omega),fun g=>(amP f1 f2 (adL f1 f2 y1 y2 y3)).up (by omega)⟩,Or.inr ⟨by decide,ae9 hT0 abJ (by omega)⟩⟩
 clear hcase;rcases hw with ⟨rfl,h0⟩|⟨hp,oe⟩
 . have oe:=agO hT0 abJ h0
   have HX:=hdd (And.intro (z1.resolve_right (by omega)) (And.intro (z2 (by omega)) (And.intro y1 (And.intro y2 (And.intro y3 (And.intro y4 (show(FloatKind.f64.format.order t 0 != some Ordering.eq)=false from iY oe)))))));clear h0 hR0 hS0 hT0 hC0 hK b0 b1 b2 l1 l9 z1 z2 y1 y2 y3 y4
   go_upto_region 9 with fail
   refine Spec.go [.w (.c (.v (.pointer (some ⟨g,0,none⟩)))),.w (.agg ([.v (.int .i64 2),.v (.float .f64 r),.v (.float .f64 s),.v (.float .f64 t)])),.w (.agg ([.v (.int .i64 2),.v (.float .f64 r),.v (.float .f64 s),.v (.float .f64 t)])),.tup [.c (.sl 3 1),.c (.v (.bool false)),.c (.v .nilIface)],.tup [.c (.sl 3 1),.c (.v (.bool false)),.c (.v .nilIface)],.w (.c (.sl 3 1)),.w (.c (.v (.bool false))),.w (.c (.v .nilIface)),.w (.c (.sl 3 1)),.w (.c (.v (.bool false))),.w (.c (.v .nilIface))] [3,3,3]
    [(1,(.leaf r)),(2,(.leaf s))] [⟨0,29,curC 2 r s t,none⟩,⟨3,33,aY g 1 2,none⟩]
    [0,0,0,2,0,0,0,0,0,0,0] [[],[],[],[0,1,2],rgn 4,rgn 5,rgn 5,rgn 5,rgn 6,[0,1,2,3,4,6],[0,1,2,3,4,7]] [(5,.w (.c (.v (.pointer (some ⟨g,0,none⟩))))),(2,.w (.c (.ptr 0 0)))]
    [27,28,29,30,26,31,32,33,7,8,9] [w.heap.size] 11 2 [] [] R1.out
    (fun b hM=>aA (aA (aA (aA (aA (aA (aA (aA (aA (aA (aA aH
      (aB b))
      (aD b 4 m0))
      (aD b 4 m0))
      (kR b m1 (c_fb (ix:=[]) (ts:=[1,2]) hM (fun ν=>aoU HX.out.1 HX.out.1 HX.out.2.2.1 HX.out.2.2.2.1 HX.out.2.2.2.2.2.1 HX.out.2.2.2.2.2.2))))
      (aB b))
      (aB b))
      (aB b))
      (aB b))
      (aB b))
      (aB b))
      (aB b)) ?_
   intro n1 n2 b3 ν W2 hR;replace hR:Run (bs w) g 2 [((.leaf r),n1),((.leaf s),n2)] [(w.heap.size,.cells #[(.int .i64 2),(.float .f64 r),(.float .f64 s),(.float .f64 t)] 29),(b3,dX g n1 n2)] W2:=hR;have R2:=hdd hR;clear hR R1;simp only[putL,bjP,bjS,fs0,fs1,fsn,dSw,dSt,dWc,dWa,dv,di,dp,ds',bjQ,bjR,nuTn,nuT0,nuT1,nuU0,nuU1];obtain⟨c0,c1,c2,c3⟩:=aL (R2.out.at m0)
   go_upto_region 11 with fail
   clear c0 c1 c2 c3 oe;refine Spec.go [.w (.agg ([.v (.int .i64 2),.v (.float .f64 r),.v (.float .f64 s),.v (.float .f64 t)])),.w (.c (.ptr 4 0)),noS] [1]
    [(1,(.leaf r)),(2,(.leaf s))] [⟨0,29,curC 2 r s t,none⟩,⟨3,33,aY g 1 2,none⟩,⟨4,29,curC 0 0 0 0,some (2,[.v (.int .i64 2),.v (.float .f64 r),.v (.float .f64 s),.v (.float .f64 t)])⟩]
    [0,0,0] [[],[],[0,1]] [(2,.w (.c (.ptr 0 0)))]
    [42,11,0] [w.heap.size,n1,n2,b3] 3 2 [] [] R2.out
    (fun b hM=>aA (aA (aA aH
      (aD b 4 m0))
      (aI b m2))
      (aV b 4 m2)) ?_
   intro b4 ν W3 hR;have R3:=hdd hR;clear hR R2;simp only[putL,bjP,bjS,fs0,fs1,fsn,dSw,dSt,dWc,dWa,dv,di,dp,ds',bjQ,bjR,nuTn,nuT0,nuT1,nuU0,nuU1]
   go_upto_region 12 with fail
   refine Spec.go [.w (.c (.ptr 0 3)),.w (.c (.v (.float .f64 t))),.w (.c (.v (.int .i64 k))),.w (.c (.v (.int .i64 k1))),.w (.c (.v (.int .i64 k2))),.w (.c (.v (.int .i64 k3))),.w (.c (.v (.int .i64 k0))),.w (.c (.v (.float .f64 wk))),.w (.c (.v (.float .f64 wc))),.w (.c (.ptr 4 3)),noS] []
    [(1,(.leaf r)),(2,(.leaf s))] [⟨0,29,curC 2 r s t,none⟩,⟨3,33,aY g 1 2,none⟩,⟨4,29,curC 2 r s t,some (10,[.v (.int .i64 2),.v (.float .f64 r),.v (.float .f64 s),.v (.float .f64 wc)])⟩]
    [0,0,0,0,0,0,0,0,0,0,0] [[],[0],[],[2],[2,3],[2,3,4],[2,3,4,5],[2,3,4,5,6],rgn 8,[],rgn 10] [(2,.w (.c (.ptr 0 0))),(1,.w (.c (.v (.int .i64 k)))),(10,.w (.c (.ptr 4 0)))]
    [43,44,45,46,47,48,49,50,51,52,0] [w.heap.size,n1,n2,b3,b4] 11 2 [] [] R3.out
    (fun b hM=>aA (aA (aA (aA (aA (aA (aA (aA (aA (aA (aA aH
      (aB b))
      (aZ b m0))
      (aB b))
      (aB b (hv:=fun ν w=>dV rfl rfl rfl rfl (MX.out.1 w))))
      (aB b (hv:=fun ν w=>dV rfl rfl rfl rfl (MX.out.2.1 w))))
      (aB b (hv:=fun ν w=>dV rfl rfl rfl rfl (MX.out.2.2.1 w))))
      (aB b (hv:=fun ν w=>dV rfl rfl rfl rfl (MX.out.2.2.2.1 w))))
      (aB b (hv:=fun ν w=>qF rfl rfl (MX.out.2.2.2.2.1 w))))
      (aB b (hv:=fun ν w=>dV rfl rfl rfl rfl (MX.out.2.2.2.2.2 w))))
      (aB b))
      (adN b 3 m2)) ?_
   intro ν W4 hR;have R4:=hdd hR;clear hR R3;simp only[putL,bjP,bjS,fs0,fs1,fsn,dSw,dSt,dWc,dWa,dv,di,dp,ds',bjQ,bjR,nuTn,nuT0,nuT1,nuU0,nuU1]
   go_upto_region 13 with fail
   refine Spec.go [.w (.c (.v (.pointer (some ⟨g,0,none⟩)))),.w (.agg ([.v (.int .i64 2),.v (.float .f64 r),.v (.float .f64 s),.v (.float .f64 t)])),.w (.agg ([.v (.int .i64 2),.v (.float .f64 r),.v (.float .f64 s),.v (.float .f64 wc)])),.tup [.c (.v (.slice none 0 0)),.c (.v (.bool false)),.c (.v .nilIface)],.tup [.c (.v (.slice none 0 0)),.c (.v (.bool false)),.c (.v .nilIface)],.w (.c (.v (.slice none 0 0))),.w (.c (.v (.bool false))),.w (.c (.v .nilIface)),.w (.c (.v (.slice none 0 0))),.w (.c (.v (.bool false))),.w (.c (.v .nilIface))] []
    [(1,(.leaf r)),(2,(.leaf s))] [⟨0,29,curC 2 r s t,none⟩,⟨3,33,aY g 1 2,none⟩,⟨4,29,curC 2 r s wc,none⟩]
    [0,0,0,2,0,0,0,0,0,0,0] [[],[],[],[0,1,2],rgn 4,rgn 5,rgn 5,rgn 5,rgn 6,[0,1,2,3,4,6],[0,1,2,3,4,7]] [(5,.w (.c (.v (.pointer (some ⟨g,0,none⟩))))),(2,.w (.c (.ptr 0 0))),(10,.w (.c (.ptr 4 0)))]
    [54,55,56,57,53,58,59,60,12,13,14] [w.heap.size,n1,n2,b3,b4] 11 4 [] [] R4.out
    (fun b hM=>aA (aA (aA (aA (aA (aA (aA (aA (aA (aA (aA aH
      (aB b))
      (aD b 4 m0))
      (aD b 4 m2))
      (aG b (c_fn (ix:=[]) (ts:=[]) hM (fun ν=>amP HX.out.1 HX.out.2.1 (adL HX.out.1 HX.out.2.1 HX.out.2.2.1 HX.out.2.2.2.1 HX.out.2.2.2.2.1)))))
      (aB b))
      (aB b))
      (aB b))
      (aB b))
      (aB b))
      (aB b))
      (aB b)) ?_
   intro ν W5 hR;replace hR:Run (bs w) g 4 [((.leaf r),n1),((.leaf s),n2)] [(w.heap.size,.cells #[(.int .i64 2),(.float .f64 r),(.float .f64 s),(.float .f64 t)] 29),(b3,dX g n1 n2),(b4,.cells #[(.int .i64 2),(.float .f64 r),(.float .f64 s),(.float .f64 wc)] 29)] W5:=hR;have R5:=hdd hR;clear hR R4;simp only[putL,bjP,bjS,fs0,fs1,fsn,dSw,dSt,dWc,dWa,dv,di,dp,ds',bjQ,bjR,nuTn,nuT0,nuT1,nuU0,nuU1];have HB:=hdd R5.out.below;clear R5 MX HX;go_wp2;go_ret;exact⟨rfl,HB.out⟩
 . have HP:=hdd hp
   clear hp hR0 hS0 hT0 hC0 hK b0 b1 b2 l1 l9 z1 z2 y1 y2 y3 y4
   go_upto_region 9 with fail
   refine Spec.go [.w (.c (.v (.pointer (some ⟨g,0,none⟩)))),.w (.agg ([.v (.int .i64 n),.v (.float .f64 r),.v (.float .f64 s),.v (.float .f64 t)])),.w (.agg ([.v (.int .i64 n),.v (.float .f64 r),.v (.float .f64 s),.v (.float .f64 t)])),.tup [.c (.v (.slice none 0 0)),.c (.v (.bool true)),.c (.v .nilIface)],.tup [.c (.v (.slice none 0 0)),.c (.v (.bool true)),.c (.v .nilIface)],.w (.c (.v (.slice none 0 0))),.w (.c (.v (.bool true))),.w (.c (.v .nilIface)),.w (.c (.v (.slice none 0 0))),.w (.c (.v (.bool true))),.w (.c (.v .nilIface))] []
    [] [⟨0,29,curC n r s t,none⟩]
    [0,0,0,28,0,0,0,0,0,0,0] [[],[],[],[0,1,2],rgn 4,rgn 5,rgn 5,rgn 5,rgn 6,[0,1,2,3,4,6],[0,1,2,3,4,7]] [(5,.w (.c (.v (.pointer (some ⟨g,0,none⟩))))),(2,.w (.c (.ptr 0 0)))]
    [27,28,29,30,26,31,32,33,7,8,9] [w.heap.size] 11 28 [] [] R1.out
    (fun b hM=>aA (aA (aA (aA (aA (aA (aA (aA (aA (aA (aA aH
      (aB b))
      (aD b 4 m0))
      (aD b 4 m0))
      (aG b (c_fn (ix:=[]) (ts:=[]) hM (fun ν=>HP.out.1 _))))
      (aB b))
      (aB b))
      (aB b))
      (aB b))
      (aB b))
      (aB b))
      (aB b)) ?_
   intro ν W2 hR;replace hR:Run (bs w) g 28 [] [(w.heap.size,.cells #[(.int .i64 n),(.float .f64 r),(.float .f64 s),(.float .f64 t)] 29)] W2:=hR;have R2:=hdd hR;clear hR R1;simp only[putL,bjP,bjS,fs0,fs1,fsn,dSw,dSt,dWc,dWa,dv,di,dp,ds',bjQ,bjR,nuTn,nuT0,nuT1,nuU0,nuU1];obtain⟨c0,c1,c2,c3⟩:=aL (R2.out.at m0);rcases oe with ek|⟨ek,oe⟩<;>
   (go_upto_region 11 with fail
    clear c0 c1 c2 c3;refine Spec.go [.w (.agg ([.v (.int .i64 n),.v (.float .f64 r),.v (.float .f64 s),.v (.float .f64 t)])),.w (.c (.ptr 1 0)),noS] [1]
     [] [⟨0,29,curC n r s t,none⟩,⟨1,29,curC 0 0 0 0,some (2,[.v (.int .i64 n),.v (.float .f64 r),.v (.float .f64 s),.v (.float .f64 t)])⟩]
     [0,0,0] [[],[],[0,1]] [(2,.w (.c (.ptr 0 0)))]
     [42,11,0] [w.heap.size] 3 28 [] [] R2.out
     (fun b hM=>aA (aA (aA aH
       (aD b 4 m0))
       (aI b m1))
       (aV b 4 m1)) ?_
    intro b1 ν W3 hR;have R3:=hdd hR;clear hR R2;simp only[putL,bjP,bjS,fs0,fs1,fsn,dSw,dSt,dWc,dWa,dv,di,dp,ds',bjQ,bjR,nuTn,nuT0,nuT1,nuU0,nuU1]
    go_upto_region 12 with fail
    refine Spec.go [.w (.c (.ptr 0 3)),.w (.c (.v (.float .f64 t))),.w (.c (.v (.int .i64 k))),.w (.c (.v (.int .i64 k1))),.w (.c (.v (.int .i64 k2))),.w (.c (.v (.int .i64 k3))),.w (.c (.v (.int .i64 k0))),.w (.c (.v (.float .f64 wk))),.w (.c (.v (.float .f64 wc))),.w (.c (.ptr 1 3)),noS] []
     [] [⟨0,29,curC n r s t,none⟩,⟨1,29,curC n r s t,some (10,[.v (.int .i64 n),.v (.float .f64 r),.v (.float .f64 s),.v (.float .f64 wc)])⟩]
     [0,0,0,0,0,0,0,0,0,0,0] [[],[0],[],[2],[2,3],[2,3,4],[2,3,4,5],[2,3,4,5,6],rgn 8,[],rgn 10] [(2,.w (.c (.ptr 0 0))),(1,.w (.c (.v (.int .i64 k)))),(10,.w (.c (.ptr 1 0)))]
     [43,44,45,46,47,48,49,50,51,52,0] [w.heap.size,b1] 11 28 [] [] R3.out
     (fun b hM=>aA (aA (aA (aA (aA (aA (aA (aA (aA (aA (aA aH
       (aB b))
       (aZ b m0))
       (aB b))
       (aB b (hv:=fun ν w=>dV rfl rfl rfl rfl (MX.out.1 w))))
       (aB b (hv:=fun ν w=>dV rfl rfl rfl rfl (MX.out.2.1 w))))
       (aB b (hv:=fun ν w=>dV rfl rfl rfl rfl (MX.out.2.2.1 w))))
       (aB b (hv:=fun ν w=>dV rfl rfl rfl rfl (MX.out.2.2.2.1 w))))
       (aB b (hv:=fun ν w=>qF rfl rfl (MX.out.2.2.2.2.1 w))))
       (aB b (hv:=fun ν w=>dV rfl rfl rfl rfl (MX.out.2.2.2.2.2 w))))
       (aB b))
       (adN b 3 m1)) ?_
    intro ν W4 hR;have R4:=hdd hR;clear hR R3;simp only[putL,bjP,bjS,fs0,fs1,fsn,dSw,dSt,dWc,dWa,dv,di,dp,ds',bjQ,bjR,nuTn,nuT0,nuT1,nuU0,nuU1]
    go_upto_region 13 with fail
    refine Spec.go [.w (.c (.v (.pointer (some ⟨g,0,none⟩)))),.w (.agg ([.v (.int .i64 n),.v (.float .f64 r),.v (.float .f64 s),.v (.float .f64 t)])),.w (.agg ([.v (.int .i64 n),.v (.float .f64 r),.v (.float .f64 s),.v (.float .f64 wc)])),.tup [.c (.v (.slice none 0 0)),.c (.v (.bool false)),.c (.v .nilIface)],.tup [.c (.v (.slice none 0 0)),.c (.v (.bool false)),.c (.v .nilIface)],.w (.c (.v (.slice none 0 0))),.w (.c (.v (.bool false))),.w (.c (.v .nilIface)),.w (.c (.v (.slice none 0 0))),.w (.c (.v (.bool false))),.w (.c (.v .nilIface))] []
     [] [⟨0,29,curC n r s t,none⟩,⟨1,29,curC n r s wc,none⟩]
     [0,0,0,28,0,0,0,0,0,0,0] [[],[],[],[0,1,2],rgn 4,rgn 5,rgn 5,rgn 5,rgn 6,[0,1,2,3,4,6],[0,1,2,3,4,7]] [(5,.w (.c (.v (.pointer (some ⟨g,0,none⟩))))),(2,.w (.c (.ptr 0 0))),(10,.w (.c (.ptr 1 0)))]
     [54,55,56,57,53,58,59,60,12,13,14] [w.heap.size,b1] 11 56 [] [] R4.out
     (fun b hM=>aA (aA (aA (aA (aA (aA (aA (aA (aA (aA (aA aH
       (aB b))
       (aD b 4 m0))
       (aD b 4 m1))
       (aG b (c_fn (ix:=[]) (ts:=[]) hM (fun ν=>HP.out.2 _))))
       (aB b))
       (aB b))
       (aB b))
       (aB b))
       (aB b))
       (aB b))
       (aB b)) ?_
    intro ν W5 hR;replace hR:Run (bs w) g 56 [] [(w.heap.size,.cells #[(.int .i64 n),(.float .f64 r),(.float .f64 s),(.float .f64 t)] 29),(b1,.cells #[(.int .i64 n),(.float .f64 r),(.float .f64 s),(.float .f64 wc)] 29)] W5:=hR;have R5:=hdd hR;clear hR R4;simp only[putL,bjP,bjS,fs0,fs1,fsn,dSw,dSt,dWc,dWa,dv,di,dp,ds',bjQ,bjR,nuTn,nuT0,nuT1,nuU0,nuU1];have HB:=hdd R5.out.below;clear R5 MX HP;go_wp2;go_ret;exact⟨rfl,HB.out⟩)
end Go.Proofs.YtjaafolhfihegaaGreatDoor
