/- A part of the proof: contracts of functions and plain laws (MtSxClmK, QlMxClmK, AlvFxClmK). -/
import Derived.Test.YtjaafolhfihegaaGreatDoorM34
import Derived.Test.YtjaafolhfihegaaGreatDoorM19
import Derived.Test.YtjaafolhfihegaaGreatDoorM16
import Derived.Test.YtjaafolhfihegaaGreatDoorM15
import Derived.Test.YtjaafolhfihegaaGreatDoorM14
import Derived.Test.YtjaafolhfihegaaGreatDoorM13
import Derived.Test.YtjaafolhfihegaaGreatDoorM12
import Derived.Test.YtjaafolhfihegaaGreatDoorM08
import Derived.Test.YtjaafolhfihegaaGreatDoorM07
import Derived.Test.YtjaafolhfihegaaGreatDoorM06
import Derived.Test.YtjaafolhfihegaaGreatDoorM05
import Derived.Test.YtjaafolhfihegaaGreatDoorM04
import Derived.Test.YtjaafolhfihegaaGreatDoorM03
import Derived.Test.YtjaafolhfihegaaGreatDoorM02
import Derived.Test.YtjaafolhfihegaaGreatDoorM01
import Derived.Test.YtjaafolhfihegaaGreatDoorM11
import Derived.Test.YtjaafolhfihegaaGreatDoorM10
import Derived.Test.YtjaafolhfihegaaGreatDoorM09
import Derived.Test.YtjaafolhfihegaaGreatDoorM18
import Derived.Test.YtjaafolhfihegaaGreatDoorM17
import Derived.Test.YtjaafolhfihegaaGreatDoorM33
import Derived.Test.YtjaafolhfihegaaGreatDoorM35
set_option linter.unusedVariables false
set_option linter.unusedSimpArgs false
set_option maxHeartbeats 25600000
set_option maxRecDepth 100000
namespace Go.Proofs.YtjaafolhfihegaaGreatDoor
open Go.RowKit Go.Maps
open List renaming setIfInBounds_toArray->bjJ,map_cons->bjK,map_nil->bjL,set->bjM
abbrev ce0(p:Ex×Ex×Ex×Nat×Nat×Nat):Ex:=.leaf p.2.2.2.1
abbrev ce1(p:Ex×Ex×Ex×Nat×Nat×Nat):Ex:=.leaf p.2.2.2.2.1
abbrev ce2(p:Ex×Ex×Ex×Nat×Nat×Nat):Ex:=.mul p.2.1 p.2.1
abbrev ce3(p:Ex×Ex×Ex×Nat×Nat×Nat):Ex:=.add (.mul p.1 p.1) (ce2 p)
abbrev ce4(p:Ex×Ex×Ex×Nat×Nat×Nat):Ex:=.mul p.1 (ce0 p)
abbrev ce5(p:Ex×Ex×Ex×Nat×Nat×Nat):Ex:=.sub p.2.2.1 (ce4 p)
abbrev ce6(p:Ex×Ex×Ex×Nat×Nat×Nat):Ex:=.mul p.2.1 (ce1 p)
abbrev ce7(p:Ex×Ex×Ex×Nat×Nat×Nat):Ex:=.sub (ce5 p) (ce6 p)
abbrev ce8(p:Ex×Ex×Ex×Nat×Nat×Nat):Ex:=.leaf p.2.2.2.2.2
abbrev ce9(p:Ex×Ex×Ex×Nat×Nat×Nat):Ex:=.mul (ce8 p) (ce3 p)
abbrev ce10(p:Ex×Ex×Ex×Nat×Nat×Nat):Ex:=.mul (ce7 p) (ce7 p)
abbrev ce11(p:Ex×Ex×Ex×Nat×Nat×Nat):Ex:=.sub (ce9 p) (ce10 p)
abbrev ce12(p:Ex×Ex×Ex×Nat×Nat×Nat):Ex:=.mul p.1 (ce7 p)
abbrev ce13(p:Ex×Ex×Ex×Nat×Nat×Nat):Ex:=.mul p.2.1 (ce7 p)
abbrev ce14(p:Ex×Ex×Ex×Nat×Nat×Nat):Ex:=.root (ce11 p)
abbrev ce15(p:Ex×Ex×Ex×Nat×Nat×Nat):Ex:=.mul p.1 (ce14 p)
abbrev ce16(p:Ex×Ex×Ex×Nat×Nat×Nat):Ex:=.mul p.2.1 (ce14 p)
abbrev ce17(p:Ex×Ex×Ex×Nat×Nat×Nat):Ex:=.sub (ce12 p) (ce16 p)
abbrev ce18(p:Ex×Ex×Ex×Nat×Nat×Nat):Ex:=.div (ce17 p) (ce3 p)
abbrev ce19(p:Ex×Ex×Ex×Nat×Nat×Nat):Ex:=.add (ce0 p) (ce18 p)
abbrev ce20(p:Ex×Ex×Ex×Nat×Nat×Nat):Ex:=.add (ce13 p) (ce15 p)
abbrev ce21(p:Ex×Ex×Ex×Nat×Nat×Nat):Ex:=.div (ce20 p) (ce3 p)
abbrev ce22(p:Ex×Ex×Ex×Nat×Nat×Nat):Ex:=.add (ce1 p) (ce21 p)
abbrev ce23(p:Ex×Ex×Ex×Nat×Nat×Nat):Ex:=.add (ce12 p) (ce16 p)
abbrev ce24(p:Ex×Ex×Ex×Nat×Nat×Nat):Ex:=.div (ce23 p) (ce3 p)
abbrev ce25(p:Ex×Ex×Ex×Nat×Nat×Nat):Ex:=.add (ce0 p) (ce24 p)
abbrev ce26(p:Ex×Ex×Ex×Nat×Nat×Nat):Ex:=.sub (ce13 p) (ce15 p)
abbrev ce27(p:Ex×Ex×Ex×Nat×Nat×Nat):Ex:=.div (ce26 p) (ce3 p)
abbrev ce28(p:Ex×Ex×Ex×Nat×Nat×Nat):Ex:=.add (ce1 p) (ce27 p)
theorem aoV{g i j k:Nat}{p:Ex×Ex×Ex×Nat×Nat×Nat}(h1:dJ p.2.2.2.1 p.2.2.2.2.1 p.2.2.2.2.2)(hS:bD PT (cutF p.1 p.2.1 p.2.2.1 p.2.2.2.1 p.2.2.2.2.1 p.2.2.2.2.2) 1):FnBk 82 g 30 #[.pointer (some ⟨g,0,none⟩),curV 2 p.2.2.2.1 p.2.2.2.2.1 p.2.2.2.2.2,.agg #[.pointer (some ⟨g,0,none⟩),.int .i64 ((i:Nat):Int),.pointer (some ⟨g,0,none⟩),.int .i64 ((j:Nat):Int),.pointer (some ⟨g,0,none⟩),.int .i64 ((k:Nat):Int),.int .i64 1,.int .i64 0]] [(p.1,i),(p.2.1,j),(p.2.2.1,k)] (fun ks b=>.tuple #[.slice (some ⟨b,0,none⟩) 2 2,.nilIface]) [gK p.1 p.2.1 p.2.2.1 p.2.2.2.1 p.2.2.2.2.1 p.2.2.2.2.2,gL p.1 p.2.1 p.2.2.1 p.2.2.2.1 p.2.2.2.2.1 p.2.2.2.2.2,gI p.1 p.2.1 p.2.2.1 p.2.2.2.1 p.2.2.2.2.1 p.2.2.2.2.2,gJ p.1 p.2.1 p.2.2.1 p.2.2.2.1 p.2.2.2.2.1 p.2.2.2.2.2] (fun ks=>.cells #[.pointer (some ⟨g,0,none⟩),.int .i64 ((ks.getD 0 0:Nat):Int),.pointer (some ⟨g,0,none⟩),.int .i64 ((ks.getD 1 0:Nat):Int),.pointer (some ⟨g,0,none⟩),.int .i64 ((ks.getD 2 0:Nat):Int),.pointer (some ⟨g,0,none⟩),.int .i64 ((ks.getD 3 0:Nat):Int)] 33):=FnBk.of fun w B ns N hR hN=>by
 have R1:=hdd hR;clear hR;go_enter Tryz.func82,Tryz.ntmps82
 go_upto_region 0 with fail
 refine Spec.go [.w (.c (.ptr 3 0)),.w (.c (.ptr 4 0)),.w (.c (.v (Value.slice none 0 0))),.w (.c (.v Value.nilIface))] [0,1]
  [(0,p.1),(1,p.2.1),(2,p.2.2.1)] [⟨3,29,curC 2 p.2.2.2.1 p.2.2.2.2.1 p.2.2.2.2.2,none⟩,⟨4,129,[.v (.pointer (some ⟨g,0,none⟩)),.id 0,.v (.pointer (some ⟨g,0,none⟩)),.id 1,.v (.pointer (some ⟨g,0,none⟩)),.id 2,.v (.int .i64 1),.v (.int .i64 0)],none⟩]
  [0,0,0,0] [[],[],[],[]] [(1,.w (.agg ([.v (.int .i64 2),.v (.float .f64 p.2.2.2.1),.v (.float .f64 p.2.2.2.2.1),.v (.float .f64 p.2.2.2.2.2)]))),(2,.w (.agg ([.v (.pointer (some ⟨g,0,none⟩)),.id 0,.v (.pointer (some ⟨g,0,none⟩)),.id 1,.v (.pointer (some ⟨g,0,none⟩)),.id 2,.v (.int .i64 1),.v (.int .i64 0)])))]
  [5,6,7,8] [i,j,k] 4 N [] [] R1.out
  (fun b hM=>aA (aA (aA (aA aH
    (aI b m0))
    (aI b m1))
    (aB b))
    (aB b)) ?_
 intro b1 b2 ν W2 hR;have R2:=hdd hR;clear hR R1;simp only[putL,bjJ,bjM,fs0,fs1,fsn,dSw,dSt,dWc,dWa,dv,di,dp,ds',bjK,bjL,nuTn,nuT0,nuT1,nuU0,nuU1]
 go_upto_region 1 with fail
 refine Spec.go [.w (.c (.v (.pointer (some ⟨g,0,none⟩)))),.w (.agg ([.v (.int .i64 2),.v (.float .f64 p.2.2.2.1),.v (.float .f64 p.2.2.2.2.1),.v (.float .f64 p.2.2.2.2.2)])),dH g 5 6,.w (.c (.ptr 7 0)),noS] [2,2,3]
  [(0,p.1),(1,p.2.1),(2,p.2.2.1),(5,(ce0 p)),(6,(ce1 p))] [⟨3,29,curC 2 p.2.2.2.1 p.2.2.2.2.1 p.2.2.2.2.2,none⟩,⟨4,129,[.v (.pointer (some ⟨g,0,none⟩)),.id 0,.v (.pointer (some ⟨g,0,none⟩)),.id 1,.v (.pointer (some ⟨g,0,none⟩)),.id 2,.v (.int .i64 1),.v (.int .i64 0)],none⟩,⟨7,33,[.v (.pointer none),.v (.int .i64 0),.v (.pointer none),.v (.int .i64 0)],some (4,aY g 5 6)⟩]
  [0,0,2,0,0] [[],[],[0,1],[],rgn 4] [(0,.w (.c (.v (.pointer (some ⟨g,0,none⟩))))),(4,.w (.c (.ptr 3 0)))]
  [22,23,24,9,0] [i,j,k,b1,b2] 5 (N+2) [] [] R2.out
  (fun b hM=>aA (aA (aA (aA (aA aH
    (aB b))
    (aD b 4 m0))
    (aG b (c_fn (ix:=[]) (ts:=[5,6]) hM (fun ν=>oP (ca:=p.2.2.2.1) (cb:=p.2.2.2.2.1) (cc:=p.2.2.2.2.2) ⟨h1.1.1,h1.1.2⟩ ⟨h1.2.1.1,h1.2.1.2⟩))))
    (aI b m2))
    (aV b 4 m2)) ?_
 intro n3 n4 b5 ν W3 hR;have R3:=hdd hR;clear hR R2;simp only[putL,bjJ,bjM,fs0,fs1,fsn,dSw,dSt,dWc,dWa,dv,di,dp,ds',bjK,bjL,nuTn,nuT0,nuT1,nuU0,nuU1]
 go_upto_region 2 with fail
 refine Spec.go [.w (.c (.ptr 4 0)),numS g 0,.w (.c (.ptr 4 0)),numS g 0,.w (.c (.sl 8 1)),numS g 9,.w (.c (.ptr 4 2)),numS g 1,.w (.c (.ptr 4 2)),numS g 1,.w (.c (.sl 10 1)),numS g 11,.w (.c (.sl 12 1)),numS g 13,.w (.c (.ptr 14 0)),noS] [4,5,10,11,12,13,14]
  [(0,p.1),(1,p.2.1),(2,p.2.2.1),(5,(ce0 p)),(6,(ce1 p)),(9,(.mul p.1 p.1)),(11,(ce2 p)),(13,(ce3 p))] [⟨3,29,curC 2 p.2.2.2.1 p.2.2.2.2.1 p.2.2.2.2.2,none⟩,⟨4,129,[.v (.pointer (some ⟨g,0,none⟩)),.id 0,.v (.pointer (some ⟨g,0,none⟩)),.id 1,.v (.pointer (some ⟨g,0,none⟩)),.id 2,.v (.int .i64 1),.v (.int .i64 0)],none⟩,⟨7,33,aY g 5 6,none⟩,⟨8,31,numC g 0,none⟩,⟨10,31,numC g 1,none⟩,⟨12,31,numC g 11,none⟩,⟨14,31,[.v (.pointer none),.v (.int .i64 0)],some (15,numC g 13)⟩]
  [0,0,0,0,0,1,0,0,0,0,0,1,0,1,0,0] [[],[0],[],[2],[2,3],rgn 5,[],[6],[],[8],[8,9],[6,7,8,9,10],[6,7,8,9,10,11],rgn 13,[],rgn 15] [(5,.w (.c (.ptr 4 0)))]
  [25,26,27,28,29,30,31,32,33,34,35,36,37,38,10,0] [i,j,k,b1,b2,n3,n4,b5] 16 (N+5) [] [] R3.out
  (fun b hM=>aA (aA (aA (aA (aA (aA (aA (aA (aA (aA (aA (aA (aA (aA (aA (aA aH
    (aB b))
    (aD b 2 m1))
    (aB b))
    (aD b 2 m1))
    (aQ b m3))
    (aG b (fK hM m0 m0 rfl rfl m3 rfl rfl rfl rfl rfl rfl rfl rfl)))
    (aB b))
    (aD b 2 m1))
    (aB b))
    (aD b 2 m1))
    (aQ b m4))
    (aG b (fK hM m1 m1 rfl rfl m4 rfl rfl rfl rfl rfl rfl rfl rfl)))
    (aQ b m5))
    (aG b (jB hM m5 m6 rfl rfl m5 rfl rfl rfl rfl rfl rfl rfl rfl)))
    (aI b m6))
    (aV b 2 m6)) ?_
 intro b6 n7 b8 n9 b10 n11 b12 ν W4 hR;have R4:=hdd hR;clear hR R3;simp only[putL,bjJ,bjM,fs0,fs1,fsn,dSw,dSt,dWc,dWa,dv,di,dp,ds',bjK,bjL,nuTn,nuT0,nuT1,nuU0,nuU1]
 go_upto_region 3 with fail
 refine Spec.go [.w (.c (.ptr 4 4)),numS g 2,.w (.c (.ptr 4 0)),numS g 0,.w (.c (.ptr 7 0)),numS g 5,.w (.c (.sl 10 1)),numS g 11,numS g 12,.w (.c (.ptr 4 2)),numS g 1,.w (.c (.ptr 7 2)),numS g 6,.w (.c (.sl 13 1)),numS g 14,numS g 15,.w (.c (.ptr 16 0)),noS] [6,7,8,13,14,15,16]
  [(0,p.1),(1,p.2.1),(2,p.2.2.1),(5,(ce0 p)),(6,(ce1 p)),(8,(ce3 p)),(11,(ce4 p)),(12,(ce5 p)),(14,(ce6 p)),(15,(ce7 p))] [⟨3,29,curC 2 p.2.2.2.1 p.2.2.2.2.1 p.2.2.2.2.2,none⟩,⟨4,129,[.v (.pointer (some ⟨g,0,none⟩)),.id 0,.v (.pointer (some ⟨g,0,none⟩)),.id 1,.v (.pointer (some ⟨g,0,none⟩)),.id 2,.v (.int .i64 1),.v (.int .i64 0)],none⟩,⟨7,33,aY g 5 6,none⟩,⟨9,31,numC g 8,none⟩,⟨10,31,numC g 5,none⟩,⟨13,31,numC g 6,none⟩,⟨16,31,[.v (.pointer none),.v (.int .i64 0)],some (17,numC g 15)⟩]
  [0,0,0,0,0,0,0,1,1,0,0,0,0,0,1,1,0,0] [[],[0],[],[2],[],[4],[4,5],[2,3,4,5,6],rgn 8,[],[9],[],[11],[11,12],[9,10,11,12,13],rgn 15,[],rgn 17] [(5,.w (.c (.ptr 4 0))),(8,.w (.c (.ptr 7 0)))]
  [39,40,41,42,43,44,45,46,47,48,49,50,51,52,53,54,11,0] [i,j,k,b1,b2,n3,n4,b5,n11,b12] 18 (N+9) [true,true,true,true,true,false,false] [true,true,true,false,false,false] R4.out
  (fun b hM=>aA (aA (aA (aA (aA (aA (aA (aA (aA (aA (aA (aA (aA (aA (aA (aA (aA (aA aH
    (aB b))
    (aD b 2 m1))
    (aB b))
    (aD b 2 m1))
    (aB b))
    (aD b 2 m2))
    (aQ b m4))
    (aG b (fK hM m0 m3 rfl rfl m4 rfl rfl rfl rfl rfl rfl rfl rfl)))
    (aG b (mM hM m2 m6 rfl rfl rfl rfl rfl rfl)))
    (aB b))
    (aD b 2 m1))
    (aB b))
    (aD b 2 m2))
    (aQ b m5))
    (aG b (fK hM m1 m4 rfl rfl m5 rfl rfl rfl rfl rfl rfl rfl rfl)))
    (aG b (mM hM m7 m8 rfl rfl rfl rfl rfl rfl)))
    (aI b m6))
    (aV b 2 m6)) ?_
 intro b13 n14 n15 b16 n17 n18 b19 ν W5 hR;have R5:=hdd hR;clear hR R4;simp only[putL,bjJ,bjM,fs0,fs1,fsn,dSw,dSt,dWc,dWa,dv,di,dp,ds',bjK,bjL,nuTn,nuT0,nuT1,nuU0,nuU1]
 go_upto_region 4 with fail
 refine Spec.go [.w (.c (.v (.pointer (some ⟨g,0,none⟩)))),.w (.c (.ptr 3 3)),.w (.c (.v (.float .f64 p.2.2.2.2.2))),numS g 12,numS g 8,.w (.c (.sl 13 1)),numS g 14,numS g 10,numS g 10,.w (.c (.sl 15 1)),numS g 16,numS g 17,.w (.c (.ptr 18 0)),noS] [3,5,6,9,10,11,12]
  [(0,p.1),(1,p.2.1),(2,p.2.2.1),(5,(ce0 p)),(6,(ce1 p)),(8,(ce3 p)),(10,(ce7 p)),(12,(ce8 p)),(14,(ce9 p)),(16,(ce10 p)),(17,(ce11 p))] [⟨3,29,curC 2 p.2.2.2.1 p.2.2.2.2.1 p.2.2.2.2.2,none⟩,⟨4,129,[.v (.pointer (some ⟨g,0,none⟩)),.id 0,.v (.pointer (some ⟨g,0,none⟩)),.id 1,.v (.pointer (some ⟨g,0,none⟩)),.id 2,.v (.int .i64 1),.v (.int .i64 0)],none⟩,⟨7,33,aY g 5 6,none⟩,⟨9,31,numC g 8,none⟩,⟨11,31,numC g 10,none⟩,⟨13,31,numC g 8,none⟩,⟨15,31,numC g 10,none⟩,⟨18,31,[.v (.pointer none),.v (.int .i64 0)],some (13,numC g 17)⟩]
  [0,0,0,1,0,0,1,0,0,0,1,1,0,0] [[],[],[1],[0,1,2],[],[4],rgn 6,[],[],[8],[7,8,9],rgn 11,[],rgn 13] [(0,.w (.c (.v (.pointer (some ⟨g,0,none⟩))))),(4,.w (.c (.ptr 3 0))),(9,.w (.c (.ptr 9 0))),(10,.w (.c (.ptr 11 0)))]
  [55,56,57,58,59,60,61,62,63,64,65,66,12,0] [i,j,k,b1,b2,n3,n4,b5,n11,b12,n18,b19] 14 (N+13) [true,true,true,true,true,true,false,false,false] [true,true,true,true,false,false] R5.out
  (fun b hM=>aA (aA (aA (aA (aA (aA (aA (aA (aA (aA (aA (aA (aA (aA aH
    (aB b))
    (aB b))
    (aZ b m0))
    (aG b (c_of hM h1.2.2.1.1 h1.2.2.1.2 rfl rfl rfl rfl)))
    (aD b 2 m3))
    (aQ b m5))
    (aG b (fK hM m7 m5 rfl rfl m5 rfl rfl rfl rfl rfl rfl rfl rfl)))
    (aD b 2 m4))
    (aD b 2 m4))
    (aQ b m6))
    (aG b (fK hM m6 m6 rfl rfl m6 rfl rfl rfl rfl rfl rfl rfl rfl)))
    (aG b (mM hM m8 m9 rfl rfl rfl rfl rfl rfl)))
    (aI b m7))
    (aV b 2 m7)) ?_
 intro n20 b21 n22 b23 n24 n25 b26 ν W6 hR;have R6:=hdd hR;clear hR R5;simp only[putL,bjJ,bjM,fs0,fs1,fsn,dSw,dSt,dWc,dWa,dv,di,dp,ds',bjK,bjL,nuTn,nuT0,nuT1,nuU0,nuU1]
 go_upto_region 5 with fail
 refine Spec.go [numS g 11,.tup [.c (.v (.int .i64 1)),.c (.v .nilIface)],.tup [.c (.v (.int .i64 1)),.c (.v .nilIface)],.w (.c (.v (.int .i64 1))),.w (.c (.v .nilIface)),.w (.c (.v (.int .i64 1))),.w (.c (.v .nilIface))] []
  [(0,p.1),(1,p.2.1),(2,p.2.2.1),(4,(ce0 p)),(5,(ce1 p)),(7,(ce3 p)),(9,(ce7 p)),(11,(ce11 p))] [⟨3,129,[.v (.pointer (some ⟨g,0,none⟩)),.id 0,.v (.pointer (some ⟨g,0,none⟩)),.id 1,.v (.pointer (some ⟨g,0,none⟩)),.id 2,.v (.int .i64 1),.v (.int .i64 0)],none⟩,⟨6,33,aY g 4 5,none⟩,⟨8,31,numC g 7,none⟩,⟨10,31,numC g 9,none⟩,⟨12,31,numC g 11,none⟩]
  [0,0,0,0,0,0,0] [[],[0],[0,1],[0,1,2],[0,1,2],rgn 4,[0,1,2,4]] [(11,.w (.c (.ptr 12 0)))]
  [68,69,67,70,71,13,14] [i,j,k,b2,n3,n4,b5,n11,b12,n18,b19,n25,b26] 7 (N+13) [true,true,true,true,true,true,true,false,false,false] [false,true,true,true,true,false,false] R6.out
  (fun b hM=>aA (aA (aA (aA (aA (aA (aA aH
    (aD b 2 m4))
    (aG b (aeM hM m7 rfl rfl rfl rfl hS)))
    (aB b))
    (aB b))
    (aB b))
    (aB b))
    (aB b)) ?_
 intro ν W7 hR;have R7:=hdd hR;clear hR R6;simp only[putL,bjJ,bjM,fs0,fs1,fsn,dSw,dSt,dWc,dWa,dv,di,dp,ds',bjK,bjL,nuTn,nuT0,nuT1,nuU0,nuU1]
 go_upto_region 8 with fail
 refine Spec.go [.w (.c (.ptr 3 0)),numS g 0,numS g 9,.w (.c (.sl 13 1)),numS g 14,.w (.c (.ptr 3 2)),numS g 1,numS g 9,.w (.c (.sl 15 1)),numS g 16,.w (.c (.ptr 17 0)),.w (.c (.ptr 18 0)),noS,noS] [3,4,8,9,10,11]
  [(0,p.1),(1,p.2.1),(2,p.2.2.1),(4,(ce0 p)),(5,(ce1 p)),(7,(ce3 p)),(9,(ce7 p)),(11,(ce11 p)),(14,(ce12 p)),(16,(ce13 p))] [⟨3,129,[.v (.pointer (some ⟨g,0,none⟩)),.id 0,.v (.pointer (some ⟨g,0,none⟩)),.id 1,.v (.pointer (some ⟨g,0,none⟩)),.id 2,.v (.int .i64 1),.v (.int .i64 0)],none⟩,⟨6,33,aY g 4 5,none⟩,⟨8,31,numC g 7,none⟩,⟨10,31,numC g 9,none⟩,⟨12,31,numC g 11,none⟩,⟨13,31,numC g 9,none⟩,⟨15,31,numC g 9,none⟩,⟨17,31,[.v (.pointer none),.v (.int .i64 0)],some (12,numC g 14)⟩,⟨18,31,[.v (.pointer none),.v (.int .i64 0)],some (13,numC g 16)⟩]
  [0,0,0,0,1,0,0,0,0,1,0,0,0,0] [[],[0],[],[2],rgn 4,[],[5],[],[7],[5,6,7,8],[],[],rgn 12,rgn 13] [(5,.w (.c (.ptr 3 0))),(10,.w (.c (.ptr 10 0)))]
  [79,80,81,82,83,84,85,86,87,88,15,16,0,0] [i,j,k,b2,n3,n4,b5,n11,b12,n18,b19,n25,b26] 14 (N+15) [] [] R7.out
  (fun b hM=>aA (aA (aA (aA (aA (aA (aA (aA (aA (aA (aA (aA (aA (aA aH
    (aB b))
    (aD b 2 m0))
    (aD b 2 m3))
    (aQ b m5))
    (aG b (fK hM m0 m6 rfl rfl m5 rfl rfl rfl rfl rfl rfl rfl rfl)))
    (aB b))
    (aD b 2 m0))
    (aD b 2 m3))
    (aQ b m6))
    (aG b (fK hM m1 m6 rfl rfl m6 rfl rfl rfl rfl rfl rfl rfl rfl)))
    (aI b m7))
    (aI b m8))
    (aV b 2 m7))
    (aV b 2 m8)) ?_
 intro b27 n28 b29 n30 b31 b32 ν W8 hR;have R8:=hdd hR;clear hR R7;simp only[putL,bjJ,bjM,fs0,fs1,fsn,dSw,dSt,dWc,dWa,dv,di,dp,ds',bjK,bjL,nuTn,nuT0,nuT1,nuU0,nuU1]
 go_upto_region 11 with fail
 refine Spec.go [numS g 9,numS g 15,.w (.c (.ptr 16 0)),noS] [1,2]
  [(0,p.1),(1,p.2.1),(2,p.2.2.1),(4,(ce0 p)),(5,(ce1 p)),(7,(ce3 p)),(9,(ce11 p)),(11,(ce12 p)),(12,(ce13 p)),(15,(ce14 p))] [⟨3,129,[.v (.pointer (some ⟨g,0,none⟩)),.id 0,.v (.pointer (some ⟨g,0,none⟩)),.id 1,.v (.pointer (some ⟨g,0,none⟩)),.id 2,.v (.int .i64 1),.v (.int .i64 0)],none⟩,⟨6,33,aY g 4 5,none⟩,⟨8,31,numC g 7,none⟩,⟨10,31,numC g 9,none⟩,⟨13,31,numC g 11,none⟩,⟨14,31,numC g 12,none⟩,⟨16,31,[.v (.pointer none),.v (.int .i64 0)],some (3,numC g 15)⟩]
  [0,1,0,0] [[],[0],[],[0,1,2]] [(11,.w (.c (.ptr 10 0)))]
  [107,108,17,0] [i,j,k,b2,n3,n4,b5,n11,b12,n25,b26,n28,n30,b31,b32] 4 (N+16) [true,true,true,true,true,true,false] [true,true,true,false,true,false,false] R8.out
  (fun b hM=>aA (aA (aA (aA aH
    (aD b 2 m3))
    (aG b (ak8 hM m6 rfl rfl rfl rfl rfl)))
    (aI b m6))
    (aV b 2 m6)) ?_
 intro n33 b34 ν W9 hR;have R9:=hdd hR;clear hR R8;simp only[putL,bjJ,bjM,fs0,fs1,fsn,dSw,dSt,dWc,dWa,dv,di,dp,ds',bjK,bjL,nuTn,nuT0,nuT1,nuU0,nuU1]
 go_upto_region 12 with fail
 refine Spec.go [.w (.c (.ptr 3 0)),numS g 0,numS g 13,.w (.c (.sl 15 1)),numS g 16,.w (.c (.ptr 3 2)),numS g 1,numS g 13,.w (.c (.sl 17 1)),numS g 18,.w (.c (.ptr 19 0)),.w (.c (.ptr 20 0)),noS,noS] [3,4,8,9,10,11]
  [(0,p.1),(1,p.2.1),(2,p.2.2.1),(4,(ce0 p)),(5,(ce1 p)),(7,(ce3 p)),(9,(ce12 p)),(10,(ce13 p)),(13,(ce14 p)),(16,(ce15 p)),(18,(ce16 p))] [⟨3,129,[.v (.pointer (some ⟨g,0,none⟩)),.id 0,.v (.pointer (some ⟨g,0,none⟩)),.id 1,.v (.pointer (some ⟨g,0,none⟩)),.id 2,.v (.int .i64 1),.v (.int .i64 0)],none⟩,⟨6,33,aY g 4 5,none⟩,⟨8,31,numC g 7,none⟩,⟨11,31,numC g 9,none⟩,⟨12,31,numC g 10,none⟩,⟨14,31,numC g 13,none⟩,⟨15,31,numC g 13,none⟩,⟨17,31,numC g 13,none⟩,⟨19,31,[.v (.pointer none),.v (.int .i64 0)],some (12,numC g 16)⟩,⟨20,31,[.v (.pointer none),.v (.int .i64 0)],some (13,numC g 18)⟩]
  [0,0,0,0,1,0,0,0,0,1,0,0,0,0] [[],[0],[],[2],rgn 4,[],[5],[],[7],[5,6,7,8],[],[],rgn 12,rgn 13] [(5,.w (.c (.ptr 3 0))),(16,.w (.c (.ptr 14 0)))]
  [109,110,111,112,113,114,115,116,117,118,18,19,0,0] [i,j,k,b2,n3,n4,b5,n11,b12,n28,n30,b31,b32,n33,b34] 14 (N+18) [true,true,true,true,true,true,false] [true,true,true,false] R9.out
  (fun b hM=>aA (aA (aA (aA (aA (aA (aA (aA (aA (aA (aA (aA (aA (aA aH
    (aB b))
    (aD b 2 m0))
    (aD b 2 m5))
    (aQ b m6))
    (aG b (fK hM m0 m8 rfl rfl m6 rfl rfl rfl rfl rfl rfl rfl rfl)))
    (aB b))
    (aD b 2 m0))
    (aD b 2 m5))
    (aQ b m7))
    (aG b (fK hM m1 m8 rfl rfl m7 rfl rfl rfl rfl rfl rfl rfl rfl)))
    (aI b m8))
    (aI b m9))
    (aV b 2 m8))
    (aV b 2 m9)) ?_
 intro b35 n36 b37 n38 b39 b40 ν W10 hR;have R10:=hdd hR;clear hR R9;simp only[putL,bjJ,bjM,fs0,fs1,fsn,dSw,dSt,dWc,dWa,dv,di,dp,ds',bjK,bjL,nuTn,nuT0,nuT1,nuU0,nuU1]
 go_upto_region 13 with fail
 refine Spec.go [.w (.c (.ptr 6 0)),numS g 4,numS g 9,numS g 14,numS g 17,numS g 7,numS g 18,.w (.c (.sl 19 1)),numS g 20,.w (.c (.ptr 6 2)),numS g 5,numS g 10,numS g 13,.w (.c (.sl 21 1)),numS g 22,numS g 7,numS g 23,.w (.c (.sl 24 1)),numS g 25,dH g 20 25,.w (.c (.ptr 26 0)),noS] [4,6,7,8,13,14,16,17,18,20]
  [(0,p.1),(1,p.2.1),(2,p.2.2.1),(4,(ce0 p)),(5,(ce1 p)),(7,(ce3 p)),(9,(ce12 p)),(10,(ce13 p)),(13,(ce15 p)),(14,(ce16 p)),(17,(ce17 p)),(18,(ce18 p)),(20,(ce19 p)),(22,(ce20 p)),(23,(ce21 p)),(25,(ce22 p))] [⟨3,129,[.v (.pointer (some ⟨g,0,none⟩)),.id 0,.v (.pointer (some ⟨g,0,none⟩)),.id 1,.v (.pointer (some ⟨g,0,none⟩)),.id 2,.v (.int .i64 1),.v (.int .i64 0)],none⟩,⟨6,33,aY g 4 5,none⟩,⟨8,31,numC g 7,none⟩,⟨11,31,numC g 9,none⟩,⟨12,31,numC g 10,none⟩,⟨15,31,numC g 13,none⟩,⟨16,31,numC g 14,none⟩,⟨19,31,numC g 18,none⟩,⟨21,31,numC g 13,none⟩,⟨24,31,numC g 23,none⟩,⟨26,33,[.v (.pointer none),.v (.int .i64 0),.v (.pointer none),.v (.int .i64 0)],some (21,aY g 20 25)⟩]
  [0,0,0,0,1,0,1,0,1,0,0,0,0,0,1,0,1,0,1,0,0,0] [[],[0],[],[],[2,3],[],[2,3,4,5],[2,3,4,5,6],rgn 8,[],[9],[],[],[12],[11,12,13],[],[11,12,13,14,15],[11,12,13,14,15,16],[9,10,11,12,13,14,15,16,17],rgn 19,[],rgn 21] [(8,.w (.c (.ptr 6 0))),(14,.w (.c (.ptr 11 0))),(18,.w (.c (.ptr 16 0))),(9,.w (.c (.ptr 8 0))),(15,.w (.c (.ptr 12 0))),(17,.w (.c (.ptr 15 0)))]
  [119,120,121,122,123,124,125,126,127,128,129,130,131,132,133,134,135,136,137,138,20,0] [i,j,k,b2,n3,n4,b5,n11,b12,n28,n30,b31,b32,n36,n38,b39,b40] 22 (N+24) [true,true,true,true,true,true,true,true,false] [true,true,true,true,true,false,false,false] R10.out
  (fun b hM=>aA (aA (aA (aA (aA (aA (aA (aA (aA (aA (aA (aA (aA (aA (aA (aA (aA (aA (aA (aA (aA (aA aH
    (aB b))
    (aD b 2 m1))
    (aD b 2 m3))
    (aD b 2 m6))
    (aG b (mM hM m6 m9 rfl rfl rfl rfl rfl rfl)))
    (aD b 2 m2))
    (aG b (mO hM m10 m5 rfl rfl rfl rfl rfl rfl)))
    (aQ b m7))
    (aG b (jB hM m3 m11 rfl rfl m7 rfl rfl rfl rfl rfl rfl rfl rfl)))
    (aB b))
    (aD b 2 m1))
    (aD b 2 m4))
    (aD b 2 m5))
    (aQ b m8))
    (aG b (jB hM m7 m8 rfl rfl m8 rfl rfl rfl rfl rfl rfl rfl rfl)))
    (aD b 2 m2))
    (aG b (mO hM m13 m5 rfl rfl rfl rfl rfl rfl)))
    (aQ b m9))
    (aG b (jB hM m4 m14 rfl rfl m9 rfl rfl rfl rfl rfl rfl rfl rfl)))
    (aB b))
    (aI b m10))
    (aV b 4 m10)) ?_
 intro n41 n42 b43 n44 b45 n46 n47 b48 n49 b50 ν W11 hR;have R11:=hdd hR;clear hR R10;simp only[putL,bjJ,bjM,fs0,fs1,fsn,dSw,dSt,dWc,dWa,dv,di,dp,ds',bjK,bjL,nuTn,nuT0,nuT1,nuU0,nuU1]
 go_upto_region 14 with fail
 refine Spec.go [.w (.c (.ptr 6 0)),numS g 4,numS g 9,numS g 14,.w (.c (.sl 20 1)),numS g 21,numS g 7,numS g 22,.w (.c (.sl 23 1)),numS g 24,.w (.c (.ptr 6 2)),numS g 5,numS g 10,numS g 13,numS g 25,numS g 7,numS g 26,.w (.c (.sl 27 1)),numS g 28,dH g 24 28,.w (.c (.ptr 29 0)),noS] [4,5,7,8,9,14,16,17,18,20]
  [(0,p.1),(1,p.2.1),(2,p.2.2.1),(4,(ce0 p)),(5,(ce1 p)),(7,(ce3 p)),(9,(ce12 p)),(10,(ce13 p)),(13,(ce15 p)),(14,(ce16 p)),(17,(ce19 p)),(18,(ce22 p)),(21,(ce23 p)),(22,(ce24 p)),(24,(ce25 p)),(25,(ce26 p)),(26,(ce27 p)),(28,(ce28 p))] [⟨3,129,[.v (.pointer (some ⟨g,0,none⟩)),.id 0,.v (.pointer (some ⟨g,0,none⟩)),.id 1,.v (.pointer (some ⟨g,0,none⟩)),.id 2,.v (.int .i64 1),.v (.int .i64 0)],none⟩,⟨6,33,aY g 4 5,none⟩,⟨8,31,numC g 7,none⟩,⟨11,31,numC g 9,none⟩,⟨12,31,numC g 10,none⟩,⟨15,31,numC g 13,none⟩,⟨16,31,numC g 14,none⟩,⟨19,33,aY g 17 18,none⟩,⟨20,31,numC g 14,none⟩,⟨23,31,numC g 22,none⟩,⟨27,31,numC g 26,none⟩,⟨29,33,[.v (.pointer none),.v (.int .i64 0),.v (.pointer none),.v (.int .i64 0)],some (21,aY g 24 28)⟩]
  [0,0,0,0,0,1,0,1,0,1,0,0,0,0,1,0,1,0,1,0,0,0] [[],[0],[],[],[3],[2,3,4],[],[2,3,4,5,6],[2,3,4,5,6,7],rgn 9,[],[10],[],[],[12,13],[],[12,13,14,15],[12,13,14,15,16],[10,11,12,13,14,15,16,17],rgn 19,[],rgn 21] [(8,.w (.c (.ptr 6 0))),(14,.w (.c (.ptr 11 0))),(18,.w (.c (.ptr 16 0))),(9,.w (.c (.ptr 8 0))),(15,.w (.c (.ptr 12 0))),(17,.w (.c (.ptr 15 0)))]
  [139,140,141,142,143,144,145,146,147,148,149,150,151,152,153,154,155,156,157,158,21,0] [i,j,k,b2,n3,n4,b5,n11,b12,n28,n30,b31,b32,n36,n38,b39,b40,n44,n49,b50] 22 (N+30) [true,true,true,true,true,true,true,true,true,true,false,false,true,false,false] [true,true,true,true,true,true,true,false,false,false] R11.out
  (fun b hM=>aA (aA (aA (aA (aA (aA (aA (aA (aA (aA (aA (aA (aA (aA (aA (aA (aA (aA (aA (aA (aA (aA aH
    (aB b))
    (aD b 2 m1))
    (aD b 2 m3))
    (aD b 2 m6))
    (aQ b m8))
    (aG b (jB hM m6 m9 rfl rfl m8 rfl rfl rfl rfl rfl rfl rfl rfl)))
    (aD b 2 m2))
    (aG b (mO hM m12 m5 rfl rfl rfl rfl rfl rfl)))
    (aQ b m9))
    (aG b (jB hM m3 m13 rfl rfl m9 rfl rfl rfl rfl rfl rfl rfl rfl)))
    (aB b))
    (aD b 2 m1))
    (aD b 2 m4))
    (aD b 2 m5))
    (aG b (mM hM m7 m8 rfl rfl rfl rfl rfl rfl)))
    (aD b 2 m2))
    (aG b (mO hM m15 m5 rfl rfl rfl rfl rfl rfl)))
    (aQ b m10))
    (aG b (jB hM m4 m16 rfl rfl m10 rfl rfl rfl rfl rfl rfl rfl rfl)))
    (aB b))
    (aI b m11))
    (aV b 4 m11)) ?_
 intro b51 n52 n53 b54 n55 n56 n57 b58 n59 b60 ν W12 hR;replace hR:Run ⟨w,B,ns⟩ g (N+30) [(p.1,i),(p.2.1,j),(p.2.2.1,k),((ce0 p),n3),((ce1 p),n4),((ce3 p),n11),((ce12 p),n28),((ce13 p),n30),((ce15 p),n36),((ce16 p),n38),((ce19 p),n44),((ce22 p),n49),((ce23 p),n52),((ce24 p),n53),((ce25 p),n55),((ce26 p),n56),((ce27 p),n57),((ce28 p),n59)] [(b2,.cells #[.pointer (some ⟨g,0,none⟩),.int .i64 ((i:Nat):Int),.pointer (some ⟨g,0,none⟩),.int .i64 ((j:Nat):Int),.pointer (some ⟨g,0,none⟩),.int .i64 ((k:Nat):Int),(.int .i64 1),(.int .i64 0)] 129),(b5,dX g n3 n4),(b12,numO g n11),(b31,numO g n28),(b32,numO g n30),(b39,numO g n36),(b40,numO g n38),(b50,dX g n44 n49),(b51,numO g n38),(b54,numO g n53),(b58,numO g n57),(b60,dX g n55 n59)] W12:=hR;have R12:=hdd hR;clear hR R11;simp only[putL,bjJ,bjM,fs0,fs1,fsn,dSw,dSt,dWc,dWa,dv,di,dp,ds',bjK,bjL,nuTn,nuT0,nuT1,nuU0,nuU1];obtain⟨-,-,-,-,-,-,z3,z4⟩:=aeO (R12.out.at m0)
 go_upto_region 17 with fail
 clear z3 z4;refine Spec.go [dH g 3 4,dH g 0 1,.w (.c (.sl 6 2)),.w (.c (.sl 6 2)),.w (.c (.v Value.nilIface))] [2]
  [(0,(ce19 p)),(1,(ce22 p)),(3,(ce25 p)),(4,(ce28 p))] [⟨2,33,aY g 0 1,none⟩,⟨5,33,aY g 3 4,none⟩,⟨6,33,[.v (.pointer (some ⟨g,0,none⟩)),.id 3,.v (.pointer (some ⟨g,0,none⟩)),.id 4,.v (.pointer (some ⟨g,0,none⟩)),.id 0,.v (.pointer (some ⟨g,0,none⟩)),.id 1],none⟩]
  [0,0,0,0,0] [[],[],[0,1],[0,1,2],[]] [(20,.w (.c (.ptr 5 0))),(19,.w (.c (.ptr 2 0)))]
  [175,176,177,7,8] [n44,n49,b50,n55,n59,b60] 5 (N+30) [false,false,false,false,false,false,false,false,false,false,true,true,false,false,true,false,false] [false,false,false,false,false,false,false,true,false,false,false] R12.out
  (fun b hM=>aA (aA (aA (aA (aA aH
    (aD b 4 m1))
    (aD b 4 m0))
    (aQ b m2))
    (aB b))
    (aB b)) ?_
 intro b61 ν W13 hR;replace hR:Run ⟨w,B,ns⟩ g (N+30) [((ce19 p),n44),((ce22 p),n49),((ce25 p),n55),((ce28 p),n59)] [(b50,dX g n44 n49),(b60,dX g n55 n59),(b61,.cells #[.pointer (some ⟨g,0,none⟩),.int .i64 ((n55:Nat):Int),.pointer (some ⟨g,0,none⟩),.int .i64 ((n59:Nat):Int),.pointer (some ⟨g,0,none⟩),.int .i64 ((n44:Nat):Int),.pointer (some ⟨g,0,none⟩),.int .i64 ((n49:Nat):Int)] 33)] W13:=hR;have R13:=hdd hR;clear hR R12;simp only[putL,bjJ,bjM,fs0,fs1,fsn,dSw,dSt,dWc,dWa,dv,di,dp,ds',bjK,bjL,nuTn,nuT0,nuT1,nuU0,nuU1];have HF:Hid (oO w B ns g (N+30) (fun ks b=>.tuple #[.slice (some ⟨b,0,none⟩) 2 2,.nilIface]) [gK p.1 p.2.1 p.2.2.1 p.2.2.2.1 p.2.2.2.2.1 p.2.2.2.2.2,gL p.1 p.2.1 p.2.2.1 p.2.2.2.1 p.2.2.2.2.1 p.2.2.2.2.2,gI p.1 p.2.1 p.2.2.1 p.2.2.2.1 p.2.2.2.2.1 p.2.2.2.2.2,gJ p.1 p.2.1 p.2.2.1 p.2.2.2.1 p.2.2.2.2.1 p.2.2.2.2.2] (fun ks=>.cells #[.pointer (some ⟨g,0,none⟩),.int .i64 ((ks.getD 0 0:Nat):Int),.pointer (some ⟨g,0,none⟩),.int .i64 ((ks.getD 1 0:Nat):Int),.pointer (some ⟨g,0,none⟩),.int .i64 ((ks.getD 2 0:Nat):Int),.pointer (some ⟨g,0,none⟩),.int .i64 ((ks.getD 3 0:Nat):Int)] 33) (.returned (.tuple #[.slice (some ⟨b61,0,none⟩) 2 2,.nilIface])) W13):=hdd ⟨[n55,n59,n44,n49],b61,rfl,rfl,_,((R13.out.more (by omega)).sub (bX [2]) (by simp)).few (bX [2,3,0,1])⟩
 clear R13;go_wp2
 go_ret2
 exact HF.out
end Go.Proofs.YtjaafolhfihegaaGreatDoor
namespace Go.Proofs.YtjaafolhfihegaaGreatDoor
open Go.RowKit Go.Maps
open Re (rat ofI ofN)
def CB(r s D q:Int)(b1 b2 b3 b4 b5 b6:Bool)(m m':Int):Prop:=(r+s-D).sign*((D-(r-s)).sign*(D-(s-r)).sign)=q/\decide (D<r+s)=b1/\decide (D>r-s)=b2/\decide (D>s-r)=b3/\(D==r+s)=b4/\(D==r-s)=b5/\(D==s-r)=b6/\m=m'
end Go.Proofs.YtjaafolhfihegaaGreatDoor
namespace Go.Proofs.YtjaafolhfihegaaGreatDoor
open Go.RowKit Go.Maps Go.Stop Go.Extern
theorem amQ{w:World}(hT:Tab w)(htb:1<w.heap.size):Calls Tryz.prog 42 #[] w (RetV w (.bool true)):=
 yC (fun _=>agL (p:=(0,0,4611686018427387904,4607182418800017408,0,4607182418800017408)) eG.1 eG.2.1 eG.2.2.1 eG.2.2.2.1 fun _ _ _=>aoV (p:=(.leaf 4607182418800017408,.leaf 0,.leaf 4607182418800017408,0,0,4611686018427387904)) eG.1 eG.2.2.2.2) hT htb
end Go.Proofs.YtjaafolhfihegaaGreatDoor
