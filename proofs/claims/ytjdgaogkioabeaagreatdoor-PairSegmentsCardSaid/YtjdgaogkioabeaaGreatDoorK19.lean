/- A part of the proof: contracts of functions and plain laws (SpE, SnA, SnB, LiA, TuB). -/
import Derived.Test.YtjdgaogkioabeaaGreatDoorK18
import Derived.Deep.Cut
import Derived.Deep.DeepCutAuto
import Derived.Test.YtjdgaogkioabeaaGreatDoorK16
set_option linter.unusedVariables false
set_option linter.unusedSimpArgs false
set_option maxHeartbeats 25600000
set_option maxRecDepth 100000
namespace Go.Proofs.YtjdgaogkioabeaaGreatDoor
open Go.RowKit Go.Maps
open List renaming setIfInBounds_toArray->bdW,set->bdX,map_cons->bdY,map_nil->bdZ
variable{X Y:Ex}{ca cb cc:Nat}
abbrev apW(ax ay bx ey cx cy:Ex):Ex:=.sub (.mul (.sub bx ax) (.sub cy ay)) (.mul (.sub ey ay) (.sub cx ax))
abbrev aaE(P:Ex->Prop)(ax ay bx ey cx cy:Ex)(s:Int):Prop:=fK P (apW ax ay bx ey cx cy) s
theorem akS{B N:Nat}{w:World}{g ax ay bx ey cx cy:Nat}{ns:List Nd}{AX AY BX EY CX CY:Ex}{q:Int}(hs:St PT B N w g ns)(hN:N+7<=20000)(hax:Is ns AX ax)(hay:Is ns AY ay)(hbx:Is ns BX bx)(hey:Is ns EY ey)(hcx:Is ns CX cx)(hcy:Is ns CY cy)(HQ:Hid (aaE PT AX AY BX EY CX CY q)):
 Calls Tryz.prog 96 #[bD g ax ay,bD g bx ey,bD g cx cy] w (RetQ PT B (N+7) w g ns (.tuple #[.int .i64 q,.nilIface])):=by
 have R1:=hdd (Run.enter (K:=[(AX,ax),(AY,ay),(BX,bx),(EY,ey),(CX,cx),(CY,cy)]) hs (by
  intro p hp;simp only[List.mem_cons,List.not_mem_nil,or_false]at hp;rcases hp with rfl|rfl|rfl|rfl|rfl|rfl<;>assumption))
 clear hs hax hay hbx hey hcx hcy;go_enter Tryz.func96,Tryz.ntmps96
 go_upto_region 0 with fail
 refine Spec.run (S:=⟨_,fun i=>([.w (.c (.ptr 6 0)),.w (.c (.ptr 7 0)),.w (.c (.ptr 8 0)),.w (.c (.v (Value.int IntKind.i64 0))),.w (.c (.v Value.nilIface))]:List SV).getD i noS,fun n=>([none,none,none,none,none,none,some 0,some 1,some 2]:List (Option Nat)).getD n none,
  [(0,AX),(1,AY),(2,BX),(3,EY),(4,CX),(5,CY)],[⟨6,36,jP g 0 1,none⟩,⟨7,36,jP g 2 3,none⟩,⟨8,36,jP g 4 5,none⟩],
  fun i=>([0,0,0,0,0]:List Nat).getD i 0,fun i=>([[],[],[],[],[]]:List (List Nat)).getD i [],[(0,ab5 g 0 1),(1,ab5 g 2 3),(2,ab5 g 4 5)]⟩)
  (W:=runW ⟨w,B,ns⟩ g) (ν0:=fun n=>([ax,ay,bx,ey,cx,cy]:List Nat).getD n 0) (c0:=N)
  (fs:=fun ν=>[(3,.pointer (some ⟨(ν 6),0,none⟩)),(4,.pointer (some ⟨(ν 7),0,none⟩)),(5,.pointer (some ⟨(ν 8),0,none⟩)),(6,(Value.int IntKind.i64 0)),(7,Value.nilIface)]) 5 N [] []
  ⟨Spec.wf_of (by kernel_rfl),lU (by kernel_rfl),iU ⟨rfl,rfl,rfl,trivial⟩⟩ R1.out (Run.nodup R1.out) (by omega)
  (fun b hM=>aA (aA (aA (aA (aA cO
    (dI b m0))
    (dI b m1))
    (dI b m2))
    (aJ b))
    (aJ b)) ?_
 intro ν W2 hν hR;replace hR:Run ⟨w,B,ns⟩ g N [(AX,ν 0),(AY,ν 1),(BX,ν 2),(EY,ν 3),(CX,ν 4),(CY,ν 5)] [((ν 6),dN g (ν 0) (ν 1)),((ν 7),dN g (ν 2) (ν 3)),((ν 8),dN g (ν 4) (ν 5))] W2:=hR;have e0:ν 0=ax:=hν 0 rfl;have e1:ν 1=ay:=hν 1 rfl;have e2:ν 2=bx:=hν 2 rfl;have e3:ν 3=ey:=hν 3 rfl;have e4:ν 4=cx:=hν 4 rfl;have e5:ν 5=cy:=hν 5 rfl;simp only[e0,e1,e2,e3,e4,e5]at hR|-;clear hν e0 e1 e2 e3 e4 e5;generalize ν 6=b1 at hR|-;generalize ν 7=b2 at hR|-;generalize ν 8=b3 at hR|-;have R2:=hdd hR;clear hR R1;simp only[putL,bdW,bdX]
 go_upto_region 1 with fail
 refine Spec.run (S:=⟨_,fun i=>([.w (.c (.ptr 7 0)),numS g 2,.w (.c (.ptr 6 0)),numS g 0,numS g 9,.w (.c (.ptr 8 2)),numS g 5,.w (.c (.ptr 6 2)),numS g 1,numS g 10,.w (.c (.sl 11 1)),numS g 12,.w (.c (.ptr 13 0)),noS]:List SV).getD i noS,fun n=>([none,none,none,none,none,none,none,none,none,some 4,some 9,some 10,some 11,some 12]:List (Option Nat)).getD n none,
  [(0,AX),(1,AY),(2,BX),(3,EY),(4,CX),(5,CY),(9,(.sub BX AX)),(10,(.sub CY AY)),(12,(.mul (.sub BX AX) (.sub CY AY)))],[⟨6,36,jP g 0 1,none⟩,⟨7,36,jP g 2 3,none⟩,⟨8,36,jP g 4 5,none⟩,⟨11,34,numC g 10,none⟩,⟨13,34,[.v (.pointer none),.v (.int .i64 0)],some (13,numC g 12)⟩],
  fun i=>([0,0,0,0,1,0,0,0,0,1,0,1,0,0]:List Nat).getD i 0,fun i=>([[],[0],[],[2],[0,1,2,3],[],[5],[],[7],[5,6,7,8],[5,6,7,8,9],[0,1,2,3,4,5,6,7,8,9,10],[],[0,1,2,3,4,5,6,7,8,9,10,11,12]]:List (List Nat)).getD i [],[(4,.w (.c (.ptr 7 0))),(3,.w (.c (.ptr 6 0))),(5,.w (.c (.ptr 8 0)))]⟩)
  (W:=runW ⟨w,B,ns⟩ g) (ν0:=fun n=>([ax,ay,bx,ey,cx,cy,b1,b2,b3]:List Nat).getD n 0) (c0:=N)
  (fs:=fun ν=>[(10,.pointer (some ⟨(ν 7),0,none⟩)),(11,numV g (ν 2)),(12,.pointer (some ⟨(ν 6),0,none⟩)),(13,numV g (ν 0)),(14,numV g (ν 9)),(15,.pointer (some ⟨(ν 8),2,none⟩)),(16,numV g (ν 5)),(17,.pointer (some ⟨(ν 6),2,none⟩)),(18,numV g (ν 1)),(19,numV g (ν 10)),(20,.slice (some ⟨(ν 11),0,none⟩) 1 1),(21,numV g (ν 12)),(8,.pointer (some ⟨(ν 13),0,none⟩))]) 14 (N+3) [] []
  ⟨Spec.wf_of (by kernel_rfl),lU (by kernel_rfl),iU ⟨rfl,rfl,rfl,trivial⟩⟩ R2.out (Run.nodup R2.out) (by omega)
  (fun b hM=>aA (aA (aA (aA (aA (aA (aA (aA (aA (aA (aA (aA (aA (aA cO
    (aJ b))
    (dO b 2 m1))
    (aJ b))
    (dO b 2 m0))
    (bG b (oK hM m2 m0 rfl rfl rfl rfl rfl rfl)))
    (aJ b))
    (dO b 2 m2))
    (aJ b))
    (dO b 2 m0))
    (bG b (oK hM m5 m1 rfl rfl rfl rfl rfl rfl)))
    (iT b m3))
    (bG b (sG hM m6 m7 rfl rfl m3 rfl rfl rfl rfl rfl rfl rfl rfl)))
    (dI b m4))
    (jI b 2 m4)) ?_
 intro ν W3 hν hR;replace hR:Run ⟨w,B,ns⟩ g (N+3) [(AX,ν 0),(AY,ν 1),(BX,ν 2),(EY,ν 3),(CX,ν 4),(CY,ν 5),((.sub BX AX),ν 9),((.sub CY AY),ν 10),((.mul (.sub BX AX) (.sub CY AY)),ν 12)] [((ν 6),dN g (ν 0) (ν 1)),((ν 7),dN g (ν 2) (ν 3)),((ν 8),dN g (ν 4) (ν 5)),((ν 11),numO g (ν 10)),((ν 13),numO g (ν 12))] W3:=hR;have e0:ν 0=ax:=hν 0 rfl;have e1:ν 1=ay:=hν 1 rfl;have e2:ν 2=bx:=hν 2 rfl;have e3:ν 3=ey:=hν 3 rfl;have e4:ν 4=cx:=hν 4 rfl;have e5:ν 5=cy:=hν 5 rfl;have e6:ν 6=b1:=hν 6 rfl;have e7:ν 7=b2:=hν 7 rfl;have e8:ν 8=b3:=hν 8 rfl;simp only[e0,e1,e2,e3,e4,e5,e6,e7,e8]at hR|-;clear hν e0 e1 e2 e3 e4 e5 e6 e7 e8;generalize ν 9=n4 at hR|-;generalize ν 10=n5 at hR|-;generalize ν 11=b6 at hR|-;generalize ν 12=n7 at hR|-;generalize ν 13=b8 at hR|-;have R3:=hdd hR;clear hR R2;simp only[putL,bdW,bdX]
 go_upto_region 2 with fail
 refine Spec.run (S:=⟨_,fun i=>([.w (.c (.ptr 7 2)),numS g 3,.w (.c (.ptr 6 2)),numS g 1,numS g 11,.w (.c (.ptr 8 0)),numS g 4,.w (.c (.ptr 6 0)),numS g 0,numS g 12,.w (.c (.sl 13 1)),numS g 14,.w (.c (.ptr 15 0)),noS]:List SV).getD i noS,fun n=>([none,none,none,none,none,none,none,none,none,none,none,some 4,some 9,some 10,some 11,some 12]:List (Option Nat)).getD n none,
  [(0,AX),(1,AY),(2,BX),(3,EY),(4,CX),(5,CY),(9,(.mul (.sub BX AX) (.sub CY AY))),(11,(.sub EY AY)),(12,(.sub CX AX)),(14,(.mul (.sub EY AY) (.sub CX AX)))],[⟨6,36,jP g 0 1,none⟩,⟨7,36,jP g 2 3,none⟩,⟨8,36,jP g 4 5,none⟩,⟨10,34,numC g 9,none⟩,⟨13,34,numC g 12,none⟩,⟨15,34,[.v (.pointer none),.v (.int .i64 0)],some (13,numC g 14)⟩],
  fun i=>([0,0,0,0,1,0,0,0,0,1,0,1,0,0]:List Nat).getD i 0,fun i=>([[],[0],[],[2],[0,1,2,3],[],[5],[],[7],[5,6,7,8],[5,6,7,8,9],[0,1,2,3,4,5,6,7,8,9,10],[],[0,1,2,3,4,5,6,7,8,9,10,11,12]]:List (List Nat)).getD i [],[(4,.w (.c (.ptr 7 0))),(3,.w (.c (.ptr 6 0))),(5,.w (.c (.ptr 8 0)))]⟩)
  (W:=runW ⟨w,B,ns⟩ g) (ν0:=fun n=>([ax,ay,bx,ey,cx,cy,b1,b2,b3,n7,b8]:List Nat).getD n 0) (c0:=(N+3))
  (fs:=fun ν=>[(22,.pointer (some ⟨(ν 7),2,none⟩)),(23,numV g (ν 3)),(24,.pointer (some ⟨(ν 6),2,none⟩)),(25,numV g (ν 1)),(26,numV g (ν 11)),(27,.pointer (some ⟨(ν 8),0,none⟩)),(28,numV g (ν 4)),(29,.pointer (some ⟨(ν 6),0,none⟩)),(30,numV g (ν 0)),(31,numV g (ν 12)),(32,.slice (some ⟨(ν 13),0,none⟩) 1 1),(33,numV g (ν 14)),(9,.pointer (some ⟨(ν 15),0,none⟩))]) 14 (N+6) [true,true,true,true,true,true,false,false] [true,true,true,false]
  ⟨Spec.wf_of (by kernel_rfl),lU (by kernel_rfl),iU ⟨rfl,rfl,rfl,trivial⟩⟩ R3.out (Run.nodup R3.out) (by omega)
  (fun b hM=>aA (aA (aA (aA (aA (aA (aA (aA (aA (aA (aA (aA (aA (aA cO
    (aJ b))
    (dO b 2 m1))
    (aJ b))
    (dO b 2 m0))
    (bG b (oK hM m3 m1 rfl rfl rfl rfl rfl rfl)))
    (aJ b))
    (dO b 2 m2))
    (aJ b))
    (dO b 2 m0))
    (bG b (oK hM m4 m0 rfl rfl rfl rfl rfl rfl)))
    (iT b m4))
    (bG b (sG hM m7 m8 rfl rfl m4 rfl rfl rfl rfl rfl rfl rfl rfl)))
    (dI b m5))
    (jI b 2 m5)) ?_
 intro ν W4 hν hR;replace hR:Run ⟨w,B,ns⟩ g (N+6) [(AX,ν 0),(AY,ν 1),(BX,ν 2),(EY,ν 3),(CX,ν 4),(CY,ν 5),((.mul (.sub BX AX) (.sub CY AY)),ν 9),((.sub EY AY),ν 11),((.sub CX AX),ν 12),((.mul (.sub EY AY) (.sub CX AX)),ν 14)] [((ν 6),dN g (ν 0) (ν 1)),((ν 7),dN g (ν 2) (ν 3)),((ν 8),dN g (ν 4) (ν 5)),((ν 10),numO g (ν 9)),((ν 13),numO g (ν 12)),((ν 15),numO g (ν 14))] W4:=hR;have e0:ν 0=ax:=hν 0 rfl;have e1:ν 1=ay:=hν 1 rfl;have e2:ν 2=bx:=hν 2 rfl;have e3:ν 3=ey:=hν 3 rfl;have e4:ν 4=cx:=hν 4 rfl;have e5:ν 5=cy:=hν 5 rfl;have e6:ν 6=b1:=hν 6 rfl;have e7:ν 7=b2:=hν 7 rfl;have e8:ν 8=b3:=hν 8 rfl;have e9:ν 9=n7:=hν 9 rfl;have e10:ν 10=b8:=hν 10 rfl;simp only[e0,e1,e2,e3,e4,e5,e6,e7,e8,e9,e10]at hR|-;clear hν e0 e1 e2 e3 e4 e5 e6 e7 e8 e9 e10;generalize ν 11=n9 at hR|-;generalize ν 12=n10 at hR|-;generalize ν 13=b11 at hR|-;generalize ν 14=n12 at hR|-;generalize ν 15=b13 at hR|-;have R4:=hdd hR;clear hR R3;simp only[putL,bdW,bdX]
 go_upto_region 3 with fail
 refine Spec.run (S:=⟨_,fun i=>([numS g 0,numS g 2,numS g 4,.tup [.c (.v (.int .i64 q)),.c (.v .nilIface)],.w (.c (.v (.int .i64 q))),.w (.c (.v .nilIface)),.w (.c (.v (.int .i64 q))),.w (.c (.v .nilIface))]:List SV).getD i noS,fun n=>([none,none,none,none,some 2]:List (Option Nat)).getD n none,
  [(0,(.mul (.sub BX AX) (.sub CY AY))),(2,(.mul (.sub EY AY) (.sub CX AX))),(4,(.sub (.mul (.sub BX AX) (.sub CY AY)) (.mul (.sub EY AY) (.sub CX AX))))],[⟨1,34,numC g 0,none⟩,⟨3,34,numC g 2,none⟩],
  fun i=>([0,0,1,0,0,0,0,0]:List Nat).getD i 0,fun i=>([[],[],[0,1],[0,1,2],[0,1,2,3],[0,1,2,3],[0,1,2,3,4],[0,1,2,3,5]]:List (List Nat)).getD i [],[(8,.w (.c (.ptr 1 0))),(9,.w (.c (.ptr 3 0)))]⟩)
  (W:=runW ⟨w,B,ns⟩ g) (ν0:=fun n=>([n7,b8,n12,b13]:List Nat).getD n 0) (c0:=(N+6))
  (fs:=fun ν=>[(34,numV g (ν 0)),(35,numV g (ν 2)),(36,numV g (ν 4)),(37,.tuple #[(.int .i64 q),.nilIface]),(38,(.int .i64 q)),(39,.nilIface),(6,(.int .i64 q)),(7,.nilIface)]) 8 (N+7) [false,false,false,false,false,false,true,false,false] [false,false,false,true,false]
  ⟨Spec.wf_of (by kernel_rfl),lU (by kernel_rfl),iU ⟨rfl,rfl,trivial⟩⟩ R4.out (Run.nodup R4.out) (by omega)
  (fun b hM=>aA (aA (aA (aA (aA (aA (aA (aA cO
    (dO b 2 m0))
    (dO b 2 m1))
    (bG b (oK hM m0 m1 rfl rfl rfl rfl rfl rfl)))
    (bG b (akP hM m2 rfl rfl rfl rfl HQ.out)))
    (aJ b))
    (aJ b))
    (aJ b))
    (aJ b)) ?_
 intro ν W5 hν hR;replace hR:Run ⟨w,B,ns⟩ g (N+7) [((.mul (.sub BX AX) (.sub CY AY)),ν 0),((.mul (.sub EY AY) (.sub CX AX)),ν 2),((.sub (.mul (.sub BX AX) (.sub CY AY)) (.mul (.sub EY AY) (.sub CX AX))),ν 4)] [((ν 1),numO g (ν 0)),((ν 3),numO g (ν 2))] W5:=hR;have e0:ν 0=n7:=hν 0 rfl;have e1:ν 1=b8:=hν 1 rfl;have e2:ν 2=n12:=hν 2 rfl;have e3:ν 3=b13:=hν 3 rfl;simp only[e0,e1,e2,e3]at hR|-;clear hν e0 e1 e2 e3;generalize ν 4=n14 at hR|-;have R5:=hdd hR;clear hR R4;simp only[putL,bdW,bdX];go_wp2;have HB:=hdd (R5.out.ans (v:=.tuple #[.int .i64 q,.nilIface]));clear R5
 go_ret2
 exact HB.out
section
variable{s:Bs}{W:World}{g N i j k i' j' k':Nat}{K:List (Ex×Nat)}{l:List (Nat×Obj)}{x px py qx qy rx ry:Ex}{q:Int}
theorem Run.turn (h:Run s g N K l W)(hN:N+7<=20000)(h1:(px,i)∈K)(h2:(py,i')∈K)(h3:(qx,j)∈K)(h4:(qy,j')∈K)(h5:(rx,k)∈K)(h6:(ry,k')∈K)(hc:aaE PT px py qx qy rx ry q):
 Calls Tryz.prog 96 #[bD g i i',bD g j j',bD g k k'] W (RtA s g (N+7) K l (.tuple #[.int .i64 q,.nilIface])):=by
 obtain⟨ns,hs,hK⟩:=h;exact(akS hs.st hN (hK _ h1) (hK _ h2) (hK _ h3) (hK _ h4) (hK _ h5) (hK _ h6) (hdd hc)).mono fun _ _ hr=>wC hs hK hr
end
section
variable{S:Spec Ex}{w0:Bs}{g c0:Nat}{i:Nat}(hM:c0+S.total<=20000){m n m' n' m2 n2 t:Nat}{x y x' y' x2 y2:Ex}{q:Int}(hx:(m,x)∈S.know)(hy:(n,y)∈S.know)(px:S.pre i m=true)(py:S.pre i n=true)
include hM hx px
include hy py
variable(hx':(m',x')∈S.know)(hy':(n',y')∈S.know)(px':S.pre i m'=true)(py':S.pre i n'=true)
include hx' hy' px' py'
end
section
variable{g a b c i j k l i' j' k' l' i'' j'' k'' l'':Nat}{ν:Nat->Nat}
end
abbrev an9(a b c:Nat)(x y:Ex):Ex:=.sub (.add (.mul (.sub x (.leaf a)) (.sub x (.leaf a))) (.mul (.sub y (.leaf b)) (.sub y (.leaf b)))) (.leaf c)
theorem akT{g i j:Nat}(h1:vV ca cb cc):FnOk 49 g 9 #[.pointer (some ⟨g,0,none⟩),curV 2 ca cb cc,bD g i j] [(X,i),(Y,j)] (fun ks=>numV g (ks.getD 0 0)) [an9 ca cb cc X Y]:=FnOk.of fun w B ns N hR hN=>by
 have R1:=hdd hR;clear hR;go_enter Tryz.func49,Tryz.ntmps49
 go_upto_region 0 with fail
 refine Spec.go [.w (.c (.ptr 2 0)),.w (.c (.ptr 3 0)),.w (.c (.ptr 4 0))] [0,1,2]
  [(0,X),(1,Y)] [⟨2,32,curC 2 ca cb cc,none⟩,⟨3,36,jP g 0 1,none⟩,⟨4,34,[.v (.pointer none),.v (.int .i64 0)],none⟩]
  [0,0,0] [[],[],[]] [(1,.w (.agg ([.v (.int .i64 2),.v (.float .f64 ca),.v (.float .f64 cb),.v (.float .f64 cc)]))),(2,ab5 g 0 1)]
  [5,6,7] [i,j] 3 N [] [] R1.out
  (fun b hM=>aA (aA (aA cO
    (dI b m0))
    (dI b m1))
    (dI b m2)) ?_
 intro b1 b2 b3 ν W2 hR;have R2:=hdd hR;clear hR R1;simp only[putL,bdW,bdX,fs0,fs1,fsn,dSw,dSt,dWc,dWa,dv,di,dp,ds',bdY,bdZ,nuTn,nuT0,nuT1,nuU0,nuU1]
 go_upto_region 1 with fail
 refine Spec.go [.w (.c (.ptr 3 0)),numS g 0,.w (.c (.v (.pointer (some ⟨g,0,none⟩)))),.w (.c (.ptr 2 1)),.w (.c (.v (.float .f64 ca))),numS g 5,numS g 6,.w (.c (.ptr 7 0)),noS] [5,6,7]
  [(0,X),(1,Y),(5,(.leaf ca)),(6,(.sub X (.leaf ca)))] [⟨2,32,curC 2 ca cb cc,none⟩,⟨3,36,jP g 0 1,none⟩,⟨4,34,[.v (.pointer none),.v (.int .i64 0)],none⟩,⟨7,34,[.v (.pointer none),.v (.int .i64 0)],some (8,numC g 6)⟩]
  [0,0,0,0,0,1,1,0,0] [[],[0],[],[],[3],[2,3,4],rgn 6,[],rgn 8] [(5,.w (.c (.ptr 3 0))),(0,.w (.c (.v (.pointer (some ⟨g,0,none⟩))))),(4,.w (.c (.ptr 2 0)))]
  [10,11,12,13,14,15,16,8,0] [i,j,b1,b2,b3] 9 (N+2) [] [] R2.out
  (fun b hM=>aA (aA (aA (aA (aA (aA (aA (aA (aA cO
    (aJ b))
    (dO b 2 m1))
    (aJ b))
    (aJ b))
    (dS b m0))
    (bG b (c_of hM h1.1.1 h1.1.2 rfl rfl rfl rfl)))
    (bG b (oK hM m0 m2 rfl rfl rfl rfl rfl rfl)))
    (dI b m3))
    (jI b 2 m3)) ?_
 intro n4 n5 b6 ν W3 hR;have R3:=hdd hR;clear hR R2;simp only[putL,bdW,bdX,fs0,fs1,fsn,dSw,dSt,dWc,dWa,dv,di,dp,ds',bdY,bdZ,nuTn,nuT0,nuT1,nuU0,nuU1]
 go_upto_region 2 with fail
 refine Spec.go [.w (.c (.ptr 3 2)),numS g 1,.w (.c (.v (.pointer (some ⟨g,0,none⟩)))),.w (.c (.ptr 2 2)),.w (.c (.v (.float .f64 cb))),numS g 7,numS g 8,.w (.c (.ptr 9 0)),noS] [5,6,7]
  [(0,X),(1,Y),(5,(.sub X (.leaf ca))),(7,(.leaf cb)),(8,(.sub Y (.leaf cb)))] [⟨2,32,curC 2 ca cb cc,none⟩,⟨3,36,jP g 0 1,none⟩,⟨4,34,[.v (.pointer none),.v (.int .i64 0)],none⟩,⟨6,34,numC g 5,none⟩,⟨9,34,[.v (.pointer none),.v (.int .i64 0)],some (8,numC g 8)⟩]
  [0,0,0,0,0,1,1,0,0] [[],[0],[],[],[3],[2,3,4],rgn 6,[],rgn 8] [(5,.w (.c (.ptr 3 0))),(0,.w (.c (.v (.pointer (some ⟨g,0,none⟩))))),(4,.w (.c (.ptr 2 0)))]
  [17,18,19,20,21,22,23,9,0] [i,j,b1,b2,b3,n5,b6] 9 (N+4) [true,true,false] [] R3.out
  (fun b hM=>aA (aA (aA (aA (aA (aA (aA (aA (aA cO
    (aJ b))
    (dO b 2 m1))
    (aJ b))
    (aJ b))
    (dS b m0))
    (bG b (c_of hM h1.2.1.1 h1.2.1.2 rfl rfl rfl rfl)))
    (bG b (oK hM m1 m3 rfl rfl rfl rfl rfl rfl)))
    (dI b m4))
    (jI b 2 m4)) ?_
 intro n7 n8 b9 ν W4 hR;have R4:=hdd hR;clear hR R3;simp only[putL,bdW,bdX,fs0,fs1,fsn,dSw,dSt,dWc,dWa,dv,di,dp,ds',bdY,bdZ,nuTn,nuT0,nuT1,nuU0,nuU1]
 go_upto_region 3 with fail
 refine Spec.go [numS g 2,numS g 2,.w (.c (.sl 6 1)),numS g 7,numS g 4,numS g 4,.w (.c (.sl 8 1)),numS g 9,.w (.c (.sl 10 1)),numS g 11,.w (.c (.v (.pointer (some ⟨g,0,none⟩)))),.w (.c (.ptr 0 3)),.w (.c (.v (.float .f64 cc))),numS g 12,numS g 13,noS] [2,3,6,7,8,9,13,14]
  [(2,(.sub X (.leaf ca))),(4,(.sub Y (.leaf cb))),(7,(.mul (.sub X (.leaf ca)) (.sub X (.leaf ca)))),(9,(.mul (.sub Y (.leaf cb)) (.sub Y (.leaf cb)))),(11,(.add (.mul (.sub X (.leaf ca)) (.sub X (.leaf ca))) (.mul (.sub Y (.leaf cb)) (.sub Y (.leaf cb))))),(12,(.leaf cc)),(13,(.sub (.add (.mul (.sub X (.leaf ca)) (.sub X (.leaf ca))) (.mul (.sub Y (.leaf cb)) (.sub Y (.leaf cb)))) (.leaf cc)))] [⟨0,32,curC 2 ca cb cc,none⟩,⟨1,34,[.v (.pointer none),.v (.int .i64 0)],some (15,numC g 13)⟩,⟨3,34,numC g 2,none⟩,⟨5,34,numC g 4,none⟩,⟨6,34,numC g 2,none⟩,⟨8,34,numC g 4,none⟩,⟨10,34,numC g 9,none⟩]
  [0,0,0,1,0,0,0,1,0,1,0,0,0,1,1,0] [[],[],[1],[0,1,2],[],[],[5],[4,5,6],[4,5,6,7],rgn 9,[],[],[11],[10,11,12],rgn 14,rgn 15] [(7,.w (.c (.ptr 3 0))),(8,.w (.c (.ptr 5 0))),(0,.w (.c (.v (.pointer (some ⟨g,0,none⟩))))),(4,.w (.c (.ptr 0 0))),(6,.w (.c (.ptr 1 0)))]
  [24,25,26,27,28,29,30,31,32,33,34,35,36,37,38,0] [b1,b3,n5,b6,n8,b9] 16 (N+9) [false,false,true,false] [true,false] R4.out
  (fun b hM=>aA (aA (aA (aA (aA (aA (aA (aA (aA (aA (aA (aA (aA (aA (aA (aA cO
    (dO b 2 m2))
    (dO b 2 m2))
    (iT b m4))
    (bG b (sG hM m0 m0 rfl rfl m4 rfl rfl rfl rfl rfl rfl rfl rfl)))
    (dO b 2 m3))
    (dO b 2 m3))
    (iT b m5))
    (bG b (sG hM m1 m1 rfl rfl m5 rfl rfl rfl rfl rfl rfl rfl rfl)))
    (iT b m6))
    (bG b (an8 hM m2 m3 rfl rfl m6 rfl rfl rfl rfl rfl rfl rfl rfl)))
    (aJ b))
    (aJ b))
    (dS b m0))
    (bG b (c_of hM h1.2.2.1.1 h1.2.2.1.2 rfl rfl rfl rfl)))
    (bG b (oK hM m4 m5 rfl rfl rfl rfl rfl rfl)))
    (jI b 2 m1)) ?_
 intro b10 n11 b12 n13 b14 n15 n16 n17 ν W5 hR;replace hR:Run ⟨w,B,ns⟩ g (N+9) [((.sub X (.leaf ca)),n5),((.sub Y (.leaf cb)),n8),((.mul (.sub X (.leaf ca)) (.sub X (.leaf ca))),n11),((.mul (.sub Y (.leaf cb)) (.sub Y (.leaf cb))),n13),((.add (.mul (.sub X (.leaf ca)) (.sub X (.leaf ca))) (.mul (.sub Y (.leaf cb)) (.sub Y (.leaf cb)))),n15),((.leaf cc),n16),((.sub (.add (.mul (.sub X (.leaf ca)) (.sub X (.leaf ca))) (.mul (.sub Y (.leaf cb)) (.sub Y (.leaf cb)))) (.leaf cc)),n17)] [(b1,.cells #[(.int .i64 2),(.float .f64 ca),(.float .f64 cb),(.float .f64 cc)] 32),(b3,numO g n17),(b6,numO g n5),(b9,numO g n8),(b10,numO g n5),(b12,numO g n8),(b14,numO g n13)] W5:=hR;have R5:=hdd hR;clear hR R4;simp only[putL,bdW,bdX,fs0,fs1,fsn,dSw,dSt,dWc,dWa,dv,di,dp,ds',bdY,bdZ,nuTn,nuT0,nuT1,nuU0,nuU1];go_wp2;obtain⟨x0,x1,-,-⟩:=aC (R5.out.at m1);refine bodyPost_ret (v:=.agg #[_,_]) (by simp[results,Tryz.results49,go_sem,x0,x1];first|exact⟨rfl,rfl⟩|rfl) rfl ?_
 exact⟨[n17],rfl,rfl,_,R5.out.few (eQ [6])⟩
abbrev aoA(x y:Ex)(a b c:Nat):Ex:=.sub (.add (.mul (.leaf a) x) (.mul (.leaf b) y)) (.leaf c)
theorem ad7{g i j:Nat}(hca:FlOk ca)(hcb:FlOk cb)(hcc:FlOk cc):FnOk 47 g 7 #[.pointer (some ⟨g,0,none⟩),curV 1 ca cb cc,bD g i j] [(X,i),(Y,j)] (fun ks=>numV g (ks.getD 0 0)) [aoA X Y ca cb cc]:=FnOk.of fun w B ns N hR hN=>by
 have R1:=hdd hR;clear hR;go_enter Tryz.func47,Tryz.ntmps47
 go_upto_region 0 with fail
 refine Spec.run (S:=⟨_,fun i=>([.w (.c (.ptr 2 0)),.w (.c (.ptr 3 0)),.w (.c (.ptr 4 0))]:List SV).getD i noS,fun n=>([none,none,some 0,some 1,some 2]:List (Option Nat)).getD n none,
  [(0,X),(1,Y)],[⟨2,32,[.v (.int .i64 1),.v (.float .f64 ca),.v (.float .f64 cb),.v (.float .f64 cc)],none⟩,⟨3,36,jP g 0 1,none⟩,⟨4,34,[.v (.pointer none),.v (.int .i64 0)],none⟩],
  fun i=>([0,0,0]:List Nat).getD i 0,fun i=>([[],[],[]]:List (List Nat)).getD i [],[(1,.w (.agg ([.v (.int .i64 1),.v (.float .f64 ca),.v (.float .f64 cb),.v (.float .f64 cc)]))),(2,ab5 g 0 1)]⟩)
  (W:=runW ⟨w,B,ns⟩ g) (ν0:=fun n=>([i,j]:List Nat).getD n 0) (c0:=N)
  (fs:=fun ν=>[(4,.pointer (some ⟨(ν 2),0,none⟩)),(5,.pointer (some ⟨(ν 3),0,none⟩)),(6,.pointer (some ⟨(ν 4),0,none⟩))]) 3 N [] []
  ⟨Spec.wf_of (by kernel_rfl),lU (by kernel_rfl),iU ⟨rfl,rfl,trivial⟩⟩ R1.out (Run.nodup R1.out) (by omega)
  (fun b hM=>aA (aA (aA cO
    (dI b m0))
    (dI b m1))
    (dI b m2)) ?_
 intro ν W2 hν hR;replace hR:Run ⟨w,B,ns⟩ g N [(X,ν 0),(Y,ν 1)] [((ν 2),.cells #[(.int .i64 1),(.float .f64 ca),(.float .f64 cb),(.float .f64 cc)] 32),((ν 3),dN g (ν 0) (ν 1)),((ν 4),.cells #[.pointer none,.int .i64 0] 34)] W2:=hR;have e0:ν 0=i:=hν 0 rfl;have e1:ν 1=j:=hν 1 rfl;simp only[e0,e1]at hR|-;clear hν e0 e1;generalize ν 2=b1 at hR|-;generalize ν 3=b2 at hR|-;generalize ν 4=b3 at hR|-;have R2:=hdd hR;clear hR R1;simp only[putL,bdW,bdX]
 go_upto_region 1 with fail
 refine Spec.run (S:=⟨_,fun i=>([.w (.c (.v (.pointer (some ⟨g,0,none⟩)))),.w (.c (.ptr 2 1)),.w (.c (.v (.float .f64 ca))),numS g 5,.w (.c (.ptr 3 0)),numS g 0,.w (.c (.sl 6 1)),numS g 7,.w (.c (.ptr 8 0)),noS]:List SV).getD i noS,fun n=>([none,none,none,none,none,some 3,some 6,some 7,some 8]:List (Option Nat)).getD n none,
  [(0,X),(1,Y),(5,(.leaf ca)),(7,(.mul (.leaf ca) X))],[⟨2,32,[.v (.int .i64 1),.v (.float .f64 ca),.v (.float .f64 cb),.v (.float .f64 cc)],none⟩,⟨3,36,jP g 0 1,none⟩,⟨4,34,[.v (.pointer none),.v (.int .i64 0)],none⟩,⟨6,34,numC g 0,none⟩,⟨8,34,[.v (.pointer none),.v (.int .i64 0)],some (9,numC g 7)⟩],
  fun i=>([0,0,0,1,0,0,0,1,0,0]:List Nat).getD i 0,fun i=>([[],[],[1],[0,1,2],[],[4],[4,5],[0,1,2,3,4,5,6],[],[0,1,2,3,4,5,6,7,8]]:List (List Nat)).getD i [],[(0,.w (.c (.v (.pointer (some ⟨g,0,none⟩))))),(4,.w (.c (.ptr 2 0))),(5,.w (.c (.ptr 3 0)))]⟩)
  (W:=runW ⟨w,B,ns⟩ g) (ν0:=fun n=>([i,j,b1,b2,b3]:List Nat).getD n 0) (c0:=N)
  (fs:=fun ν=>[(9,.pointer (some ⟨g,0,none⟩)),(10,.pointer (some ⟨(ν 2),1,none⟩)),(11,(.float .f64 ca)),(12,numV g (ν 5)),(13,.pointer (some ⟨(ν 3),0,none⟩)),(14,numV g (ν 0)),(15,.slice (some ⟨(ν 6),0,none⟩) 1 1),(16,numV g (ν 7)),(7,.pointer (some ⟨(ν 8),0,none⟩))]) 10 (N+2) [] []
  ⟨Spec.wf_of (by kernel_rfl),lU (by kernel_rfl),iU ⟨rfl,rfl,rfl,trivial⟩⟩ R2.out (Run.nodup R2.out) (by omega)
  (fun b hM=>aA (aA (aA (aA (aA (aA (aA (aA (aA (aA cO
    (aJ b))
    (aJ b))
    (dS b m0))
    (bG b (c_of hM hca.1 hca.2 rfl rfl rfl rfl)))
    (aJ b))
    (dO b 2 m1))
    (iT b m3))
    (bG b (sG hM m2 m0 rfl rfl m3 rfl rfl rfl rfl rfl rfl rfl rfl)))
    (dI b m4))
    (jI b 2 m4)) ?_
 intro ν W3 hν hR;replace hR:Run ⟨w,B,ns⟩ g (N+2) [(X,ν 0),(Y,ν 1),((.leaf ca),ν 5),((.mul (.leaf ca) X),ν 7)] [((ν 2),.cells #[(.int .i64 1),(.float .f64 ca),(.float .f64 cb),(.float .f64 cc)] 32),((ν 3),dN g (ν 0) (ν 1)),((ν 4),.cells #[.pointer none,.int .i64 0] 34),((ν 6),numO g (ν 0)),((ν 8),numO g (ν 7))] W3:=hR;have e0:ν 0=i:=hν 0 rfl;have e1:ν 1=j:=hν 1 rfl;have e2:ν 2=b1:=hν 2 rfl;have e3:ν 3=b2:=hν 3 rfl;have e4:ν 4=b3:=hν 4 rfl;simp only[e0,e1,e2,e3,e4]at hR|-;clear hν e0 e1 e2 e3 e4;generalize ν 5=n4 at hR|-;generalize ν 6=b5 at hR|-;generalize ν 7=n6 at hR|-;generalize ν 8=b7 at hR|-;have R3:=hdd hR;clear hR R2;simp only[putL,bdW,bdX]
 go_upto_region 2 with fail
 refine Spec.run (S:=⟨_,fun i=>([.w (.c (.v (.pointer (some ⟨g,0,none⟩)))),.w (.c (.ptr 2 2)),.w (.c (.v (.float .f64 cb))),numS g 7,.w (.c (.ptr 3 2)),numS g 1,.w (.c (.sl 8 1)),numS g 9,.w (.c (.ptr 10 0)),noS]:List SV).getD i noS,fun n=>([none,none,none,none,none,none,none,some 3,some 6,some 7,some 8]:List (Option Nat)).getD n none,
  [(0,X),(1,Y),(5,(.mul (.leaf ca) X)),(7,(.leaf cb)),(9,(.mul (.leaf cb) Y))],[⟨2,32,[.v (.int .i64 1),.v (.float .f64 ca),.v (.float .f64 cb),.v (.float .f64 cc)],none⟩,⟨3,36,jP g 0 1,none⟩,⟨4,34,[.v (.pointer none),.v (.int .i64 0)],none⟩,⟨6,34,numC g 5,none⟩,⟨8,34,numC g 1,none⟩,⟨10,34,[.v (.pointer none),.v (.int .i64 0)],some (9,numC g 9)⟩],
  fun i=>([0,0,0,1,0,0,0,1,0,0]:List Nat).getD i 0,fun i=>([[],[],[1],[0,1,2],[],[4],[4,5],[0,1,2,3,4,5,6],[],[0,1,2,3,4,5,6,7,8]]:List (List Nat)).getD i [],[(0,.w (.c (.v (.pointer (some ⟨g,0,none⟩))))),(4,.w (.c (.ptr 2 0))),(5,.w (.c (.ptr 3 0)))]⟩)
  (W:=runW ⟨w,B,ns⟩ g) (ν0:=fun n=>([i,j,b1,b2,b3,n6,b7]:List Nat).getD n 0) (c0:=(N+2))
  (fs:=fun ν=>[(17,.pointer (some ⟨g,0,none⟩)),(18,.pointer (some ⟨(ν 2),2,none⟩)),(19,(.float .f64 cb)),(20,numV g (ν 7)),(21,.pointer (some ⟨(ν 3),2,none⟩)),(22,numV g (ν 1)),(23,.slice (some ⟨(ν 8),0,none⟩) 1 1),(24,numV g (ν 9)),(8,.pointer (some ⟨(ν 10),0,none⟩))]) 10 (N+4) [true,true,false] [true,true,true,false]
  ⟨Spec.wf_of (by kernel_rfl),lU (by kernel_rfl),iU ⟨rfl,rfl,rfl,trivial⟩⟩ R3.out (Run.nodup R3.out) (by omega)
  (fun b hM=>aA (aA (aA (aA (aA (aA (aA (aA (aA (aA cO
    (aJ b))
    (aJ b))
    (dS b m0))
    (bG b (c_of hM hcb.1 hcb.2 rfl rfl rfl rfl)))
    (aJ b))
    (dO b 2 m1))
    (iT b m4))
    (bG b (sG hM m3 m1 rfl rfl m4 rfl rfl rfl rfl rfl rfl rfl rfl)))
    (dI b m5))
    (jI b 2 m5)) ?_
 intro ν W4 hν hR;replace hR:Run ⟨w,B,ns⟩ g (N+4) [(X,ν 0),(Y,ν 1),((.mul (.leaf ca) X),ν 5),((.leaf cb),ν 7),((.mul (.leaf cb) Y),ν 9)] [((ν 2),.cells #[(.int .i64 1),(.float .f64 ca),(.float .f64 cb),(.float .f64 cc)] 32),((ν 3),dN g (ν 0) (ν 1)),((ν 4),.cells #[.pointer none,.int .i64 0] 34),((ν 6),numO g (ν 5)),((ν 8),numO g (ν 1)),((ν 10),numO g (ν 9))] W4:=hR;have e0:ν 0=i:=hν 0 rfl;have e1:ν 1=j:=hν 1 rfl;have e2:ν 2=b1:=hν 2 rfl;have e3:ν 3=b2:=hν 3 rfl;have e4:ν 4=b3:=hν 4 rfl;have e5:ν 5=n6:=hν 5 rfl;have e6:ν 6=b7:=hν 6 rfl;simp only[e0,e1,e2,e3,e4,e5,e6]at hR|-;clear hν e0 e1 e2 e3 e4 e5 e6;generalize ν 7=n8 at hR|-;generalize ν 8=b9 at hR|-;generalize ν 9=n10 at hR|-;generalize ν 10=b11 at hR|-;have R4:=hdd hR;clear hR R3;simp only[putL,bdW,bdX]
 go_upto_region 3 with fail
 refine Spec.run (S:=⟨_,fun i=>([numS g 2,numS g 4,.w (.c (.sl 6 1)),numS g 7,.w (.c (.v (.pointer (some ⟨g,0,none⟩)))),.w (.c (.ptr 0 3)),.w (.c (.v (.float .f64 cc))),numS g 8,numS g 9,noS]:List SV).getD i noS,fun n=>([none,none,none,none,none,none,some 2,some 3,some 7,some 8]:List (Option Nat)).getD n none,
  [(2,(.mul (.leaf ca) X)),(4,(.mul (.leaf cb) Y)),(7,(.add (.mul (.leaf ca) X) (.mul (.leaf cb) Y))),(8,(.leaf cc)),(9,(.sub (.add (.mul (.leaf ca) X) (.mul (.leaf cb) Y)) (.leaf cc)))],[⟨0,32,[.v (.int .i64 1),.v (.float .f64 ca),.v (.float .f64 cb),.v (.float .f64 cc)],none⟩,⟨1,34,[.v (.pointer none),.v (.int .i64 0)],some (9,numC g 9)⟩,⟨3,34,numC g 2,none⟩,⟨5,34,numC g 4,none⟩,⟨6,34,numC g 4,none⟩],
  fun i=>([0,0,0,1,0,0,0,1,1,0]:List Nat).getD i 0,fun i=>([[],[],[1],[0,1,2],[],[],[5],[4,5,6],[0,1,2,3,4,5,6,7],[0,1,2,3,4,5,6,7,8]]:List (List Nat)).getD i [],[(7,.w (.c (.ptr 3 0))),(8,.w (.c (.ptr 5 0))),(0,.w (.c (.v (.pointer (some ⟨g,0,none⟩))))),(4,.w (.c (.ptr 0 0))),(6,.w (.c (.ptr 1 0)))]⟩)
  (W:=runW ⟨w,B,ns⟩ g) (ν0:=fun n=>([b1,b3,n6,b7,n10,b11]:List Nat).getD n 0) (c0:=(N+4))
  (fs:=fun ν=>[(25,numV g (ν 2)),(26,numV g (ν 4)),(27,.slice (some ⟨(ν 6),0,none⟩) 1 1),(28,numV g (ν 7)),(29,.pointer (some ⟨g,0,none⟩)),(30,.pointer (some ⟨(ν 0),3,none⟩)),(31,(.float .f64 cc)),(32,numV g (ν 8)),(33,numV g (ν 9))]) 10 (N+7) [false,false,true,false] [true,false,true,true,false]
  ⟨Spec.wf_of (by kernel_rfl),lU (by kernel_rfl),iU ⟨rfl,rfl,rfl,rfl,rfl,trivial⟩⟩ R4.out (Run.nodup R4.out) (by omega)
  (fun b hM=>aA (aA (aA (aA (aA (aA (aA (aA (aA (aA cO
    (dO b 2 m2))
    (dO b 2 m3))
    (iT b m4))
    (bG b (an8 hM m0 m1 rfl rfl m4 rfl rfl rfl rfl rfl rfl rfl rfl)))
    (aJ b))
    (aJ b))
    (dS b m0))
    (bG b (c_of hM hcc.1 hcc.2 rfl rfl rfl rfl)))
    (bG b (oK hM m2 m3 rfl rfl rfl rfl rfl rfl)))
    (jI b 2 m1)) ?_
 intro ν W5 hν hR;replace hR:Run ⟨w,B,ns⟩ g (N+7) [((.mul (.leaf ca) X),ν 2),((.mul (.leaf cb) Y),ν 4),((.add (.mul (.leaf ca) X) (.mul (.leaf cb) Y)),ν 7),((.leaf cc),ν 8),((.sub (.add (.mul (.leaf ca) X) (.mul (.leaf cb) Y)) (.leaf cc)),ν 9)] [((ν 0),.cells #[(.int .i64 1),(.float .f64 ca),(.float .f64 cb),(.float .f64 cc)] 32),((ν 1),numO g (ν 9)),((ν 3),numO g (ν 2)),((ν 5),numO g (ν 4)),((ν 6),numO g (ν 4))] W5:=hR;have e0:ν 0=b1:=hν 0 rfl;have e1:ν 1=b3:=hν 1 rfl;have e2:ν 2=n6:=hν 2 rfl;have e3:ν 3=b7:=hν 3 rfl;have e4:ν 4=n10:=hν 4 rfl;have e5:ν 5=b11:=hν 5 rfl;simp only[e0,e1,e2,e3,e4,e5]at hR|-;clear hν e0 e1 e2 e3 e4 e5;generalize ν 6=b12 at hR|-;generalize ν 7=n13 at hR|-;generalize ν 8=n14 at hR|-;generalize ν 9=n15 at hR|-;have R5:=hdd hR;clear hR R4;simp only[putL,bdW,bdX];go_wp2;obtain⟨x0,x1,-,-⟩:=aC (R5.out.at m1);refine bodyPost_ret (v:=.agg #[_,_]) (by simp[results,Tryz.results47,go_sem,x0,x1];first|exact⟨rfl,rfl⟩|rfl) rfl ?_;exact⟨[n15],rfl,rfl,_,R5.out.few (eQ [4])⟩
end Go.Proofs.YtjdgaogkioabeaaGreatDoor
