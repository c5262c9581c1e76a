/- A part of the proof: contracts of functions and plain laws (QlF, LiD, LfW). -/
import Derived.Test.YtjaafolhfihegaaGreatDoorK34
import Derived.Test.YtjaafolhfihegaaGreatDoorK19
import Derived.Test.YtjaafolhfihegaaGreatDoorK36
set_option linter.unusedVariables false
set_option linter.unusedSimpArgs false
set_option maxHeartbeats 25600000
set_option maxRecDepth 100000
namespace Go.Proofs.YtjaafolhfihegaaGreatDoor
open Go.RowKit Go.Maps
open Re (rat ofI ofN)
open Int renaming mul_nonneg_of_nonpos_of_nonpos->bh9,mul_ne_zero->biA,mul_nonneg->biB,le_total->biC
abbrev ac8(X Y:Ex)(a b c:Nat):Ex:=.div (fB X Y a b c) (.add (.mul (.leaf a) (.leaf a)) (.mul (.leaf b) (.leaf b)))
theorem anN{x0 x1 x2 X0 Y0 S:Int}{A B C:Nat}(qA:Qw A x0)(qB:Qw B x1)(qC:Qw C x2)(h0:x0.natAbs<=256)(h1:x1.natAbs<=256)(h2:x2.natAbs<=256)(hX:X0.natAbs<2^5)(hY:Y0.natAbs<2^5)(hS:S.natAbs<2^5)(hne:x0≠0\/x1≠0):
 ∀X Y t T FX FY OX OY:Ex,X=li X0->Y=li Y0->t=li S->T=ac8 X Y A B C->FX=.sub X (.mul (.leaf A) T)->FY=.sub Y (.mul (.leaf B) T)->OX=.add FX (.mul (.leaf B) t)->OY=.sub FY (.mul (.leaf A) t)->
  dG PT (fB OX OY A B C) 0/\dG PT (.sub (sqrX X Y OX OY) (.add (sqrX X Y FX FY) (sqrX FX FY OX OY))) 0:=by
 rintro X Y t T FX FY OX OY rfl rfl rfl rfl rfl rfl rfl rfl;have X:=rM (L:=[]) 5 hX (by omega);have Y:=rM (L:=[]) 5 hY (by omega);have t:=rM (L:=[]) 5 hS (by omega);have a:=qA.fit (L:=[]) 12 (by omega);have b:=qB.fit (L:=[]) 12 (by omega);have c:=qC.fit (L:=[]) 12 (by omega);have hn:((x0:Rat)/4)*((x0:Rat)/4)+((x1:Rat)/4)*((x1:Rat)/4)≠0:=by
  have e:((x0:Rat)/4)*((x0:Rat)/4)+((x1:Rat)/4)*((x1:Rat)/4)=((x0*x0+x1*x1:Int):Rat)/16:=by push_cast;grind
  have hp:0<x0*x0+x1*x1:=by
   have p0:0<=x0*x0:=by rcases biC 0 x0 with h|h;exact biB h h;exact bh9 h h
   have p1:0<=x1*x1:=by rcases biC 0 x1 with h|h;exact biB h h;exact bh9 h h
   rcases hne with h|h
   . have:x0*x0≠0:=biA h h
     omega
   . have:x1*x1≠0:=biA h h
     omega
  have hq:(0:Rat)<((x0*x0+x1*x1:Int):Rat):=Rat.intCast_pos.2 hp;rw[e];grind
 obtain⟨z,hz⟩:∃z:Rat,z*(((x0:Rat)/4)*((x0:Rat)/4)+((x1:Rat)/4)*((x1:Rat)/4))=(((x0:Rat)/4)*X0+((x1:Rat)/4)*Y0)-(x2:Rat)/4:=⟨_,Rat.div_mul_cancel hn⟩;have T:=Fit.rdiv Lok.nil (((a.rmul X).radd (b.rmul Y)).rsub c) ((a.rmul a).radd (b.rmul b)) hn hz;have fx:=X.rsub (a.rmul T);have fy:=Y.rsub (b.rmul T);have ox:=fx.radd (b.rmul t);have oy:=fy.rsub (a.rmul t);refine⟨(((a.rmul ox).radd (b.rmul oy)).rsub c).zero (by grind) (by kernel_rfl),?_⟩;have sq:∀{p q r s:Ex} {u v x y:Rat} {h1 h2 h3 h4:Sh},Fit [] h1 p (rat u)->Fit [] h2 q (rat v)->Fit [] h3 r (rat x)->Fit [] h4 s (rat y)->Fit [] (.add (.mul (.add h1 h3) (.add h1 h3)) (.mul (.add h2 h4) (.add h2 h4))) (sqrX p q r s) (rat ((u-x)*(u-x)+(v-y)*(v-y))):=fun f1 f2 f3 f4=>((f1.rsub f3).rmul (f1.rsub f3)).radd ((f2.rsub f4).rmul (f2.rsub f4));exact((sq X Y ox oy).rsub ((sq X Y fx fy).radd (sq fx fy ox oy))).zero (by grind) (by kernel_rfl)
end Go.Proofs.YtjaafolhfihegaaGreatDoor
namespace Go.Proofs.YtjaafolhfihegaaGreatDoor
open Go.RowKit Go.Maps
open List renaming setIfInBounds_toArray->biD,set->biE
theorem ahV{g i j ca cb cc:Nat}{X Y:Ex}(h1:dH ca cb cc):FnOk 38 g 17 #[.pointer (some ⟨g,0,none⟩),curV 1 ca cb cc,bP g i j] [(X,i),(Y,j)] (fun ks=>.tuple #[bP g (ks.getD 0 0) (ks.getD 1 0),.nilIface]) [.sub X (.mul (.leaf ca) (ac8 X Y ca cb cc)),.sub Y (.mul (.leaf cb) (ac8 X Y ca cb cc))]:=FnOk.of fun w B ns N hR hN=>by
 have R1:=hdd hR;clear hR;go_enter Tryz.func38,Tryz.ntmps38
 go_upto_region 0 with fail
 refine Spec.run (S:=⟨_,fun i=>([.w (.c (.ptr 2 0)),.w (.c (.ptr 3 0)),.w (.c (.ptr 4 0)),.w (.c (.v Value.nilIface))]:List SV).getD i noS,fun n=>([none,none,some 0,some 1,some 2]:List (Option Nat)).getD n none,
  [(0,X),(1,Y)],[⟨2,29,[.v (.int .i64 1),.v (.float .f64 ca),.v (.float .f64 cb),.v (.float .f64 cc)],none⟩,⟨3,33,dL g 0 1,none⟩,⟨4,33,[.v (.pointer none),.v (.int .i64 0),.v (.pointer none),.v (.int .i64 0)],none⟩],
  fun i=>([0,0,0,0]:List Nat).getD i 0,fun i=>([[],[],[],[]]:List (List Nat)).getD i [],[(1,.w (.agg ([.v (.int .i64 1),.v (.float .f64 ca),.v (.float .f64 cb),.v (.float .f64 cc)]))),(2,fA g 0 1)]⟩)
  (W:=runW ⟨w,B,ns⟩ g) (ν0:=fun n=>([i,j]:List Nat).getD n 0) (c0:=N)
  (fs:=fun ν=>[(4,.pointer (some ⟨(ν 2),0,none⟩)),(5,.pointer (some ⟨(ν 3),0,none⟩)),(6,.pointer (some ⟨(ν 4),0,none⟩)),(7,Value.nilIface)]) 4 N [] []
  ⟨Spec.wf_of (by kernel_rfl),aU (by kernel_rfl),aM ⟨rfl,rfl,trivial⟩⟩ R1.out (Run.nodup R1.out) (by omega)
  (fun b hM=>aA (aA (aA (aA aO
    (aW b m0))
    (aW b m1))
    (aW b m2))
    (aB b)) ?_
 intro ν W2 hν hR;replace hR:Run ⟨w,B,ns⟩ g N [(X,ν 0),(Y,ν 1)] [((ν 2),.cells #[(.int .i64 1),(.float .f64 ca),(.float .f64 cb),(.float .f64 cc)] 29),((ν 3),dS g (ν 0) (ν 1)),((ν 4),.cells #[.pointer none,.int .i64 0,.pointer none,.int .i64 0] 33)] W2:=hR;have e0:ν 0=i:=hν 0 rfl;have e1:ν 1=j:=hν 1 rfl;simp only[e0,e1]at hR|-;clear hν e0 e1;generalize ν 2=b1 at hR|-;generalize ν 3=b2 at hR|-;generalize ν 4=b3 at hR|-;have R2:=hdd hR;clear hR R1;simp only[putL,biD,biE]
 go_upto_region 1 with fail
 refine Spec.run (S:=⟨_,fun i=>([.w (.agg ([.v (.int .i64 1),.v (.float .f64 ca),.v (.float .f64 cb),.v (.float .f64 cc)])),.w (.c (.v .nilIface)),.w (.c (.v .nilIface))]:List SV).getD i noS,fun n=>([none,none,none,none,none]:List (Option Nat)).getD n none,
  [(0,X),(1,Y)],[⟨2,29,[.v (.int .i64 1),.v (.float .f64 ca),.v (.float .f64 cb),.v (.float .f64 cc)],none⟩,⟨3,33,dL g 0 1,none⟩,⟨4,33,[.v (.pointer none),.v (.int .i64 0),.v (.pointer none),.v (.int .i64 0)],none⟩],
  fun i=>([0,0,0]:List Nat).getD i 0,fun i=>([[],[0],[0,1]]:List (List Nat)).getD i [],[(4,.w (.c (.ptr 2 0)))]⟩)
  (W:=runW ⟨w,B,ns⟩ g) (ν0:=fun n=>([i,j,b1,b2,b3]:List Nat).getD n 0) (c0:=N)
  (fs:=fun ν=>[(12,.agg #[(.int .i64 1),(.float .f64 ca),(.float .f64 cb),(.float .f64 cc)]),(13,.nilIface),(8,.nilIface)]) 3 N [] []
  ⟨Spec.wf_of (by kernel_rfl),aU (by kernel_rfl),aM ⟨rfl,trivial⟩⟩ R2.out (Run.nodup R2.out) (by omega)
  (fun b hM=>aA (aA (aA aO
    (aP b 4 m0))
    (aI b (aj8 hM rfl rfl rfl (fun w=>oO h1))))
    (aB b)) ?_
 intro ν W3 hν hR;replace hR:Run ⟨w,B,ns⟩ g N [(X,ν 0),(Y,ν 1)] [((ν 2),.cells #[(.int .i64 1),(.float .f64 ca),(.float .f64 cb),(.float .f64 cc)] 29),((ν 3),dS g (ν 0) (ν 1)),((ν 4),.cells #[.pointer none,.int .i64 0,.pointer none,.int .i64 0] 33)] W3:=hR;have e0:ν 0=i:=hν 0 rfl;have e1:ν 1=j:=hν 1 rfl;have e2:ν 2=b1:=hν 2 rfl;have e3:ν 3=b2:=hν 3 rfl;have e4:ν 4=b3:=hν 4 rfl;simp only[e0,e1,e2,e3,e4]at hR|-;clear hν e0 e1 e2 e3 e4;have R3:=hdd hR;clear hR R2;simp only[putL,biD,biE]
 go_upto_region 6 with fail
 refine Spec.run (S:=⟨_,fun i=>([.w (.c (.v (.pointer (some ⟨g,0,none⟩)))),.w (.c (.ptr 2 1)),.w (.c (.v (.float .f64 ca))),numS g 5,.w (.c (.v (.pointer (some ⟨g,0,none⟩)))),.w (.c (.ptr 2 2)),.w (.c (.v (.float .f64 cb))),numS g 6,.w (.c (.ptr 7 0)),.w (.c (.ptr 8 0)),noS,noS]:List SV).getD i noS,fun n=>([none,none,none,none,none,some 3,some 7,some 8,some 9]:List (Option Nat)).getD n none,
  [(0,X),(1,Y),(5,(.leaf ca)),(6,(.leaf cb))],[⟨2,29,[.v (.int .i64 1),.v (.float .f64 ca),.v (.float .f64 cb),.v (.float .f64 cc)],none⟩,⟨3,33,dL g 0 1,none⟩,⟨4,33,[.v (.pointer none),.v (.int .i64 0),.v (.pointer none),.v (.int .i64 0)],none⟩,⟨7,31,[.v (.pointer none),.v (.int .i64 0)],some (10,numC g 5)⟩,⟨8,31,[.v (.pointer none),.v (.int .i64 0)],some (11,numC g 6)⟩],
  fun i=>([0,0,0,1,0,0,0,1,0,0,0,0]:List Nat).getD i 0,fun i=>([[],[],[1],[0,1,2],[],[],[5],[4,5,6],[],[],[0,1,2,3,4,5,6,7,8,9],[0,1,2,3,4,5,6,7,8,9,10]]:List (List Nat)).getD i [],[(0,.w (.c (.v (.pointer (some ⟨g,0,none⟩))))),(4,.w (.c (.ptr 2 0)))]⟩)
  (W:=runW ⟨w,B,ns⟩ g) (ν0:=fun n=>([i,j,b1,b2,b3]:List Nat).getD n 0) (c0:=N)
  (fs:=fun ν=>[(21,.pointer (some ⟨g,0,none⟩)),(22,.pointer (some ⟨(ν 2),1,none⟩)),(23,(.float .f64 ca)),(24,numV g (ν 5)),(25,.pointer (some ⟨g,0,none⟩)),(26,.pointer (some ⟨(ν 2),2,none⟩)),(27,(.float .f64 cb)),(28,numV g (ν 6)),(9,.pointer (some ⟨(ν 7),0,none⟩)),(10,.pointer (some ⟨(ν 8),0,none⟩))]) 12 (N+2) [] []
  ⟨Spec.wf_of (by kernel_rfl),aU (by kernel_rfl),aM ⟨rfl,rfl,trivial⟩⟩ R3.out (Run.nodup R3.out) (by omega)
  (fun b hM=>aA (aA (aA (aA (aA (aA (aA (aA (aA (aA (aA (aA aO
    (aB b))
    (aB b))
    (aN b m0))
    (aI b (c_of hM h1.1.1 h1.1.2 rfl rfl rfl rfl)))
    (aB b))
    (aB b))
    (aN b m0))
    (aI b (c_of hM h1.2.1.1 h1.2.1.2 rfl rfl rfl rfl)))
    (aW b m3))
    (aW b m4))
    (dB b 2 m3))
    (dB b 2 m4)) ?_
 intro ν W4 hν hR;replace hR:Run ⟨w,B,ns⟩ g (N+2) [(X,ν 0),(Y,ν 1),((.leaf ca),ν 5),((.leaf cb),ν 6)] [((ν 2),.cells #[(.int .i64 1),(.float .f64 ca),(.float .f64 cb),(.float .f64 cc)] 29),((ν 3),dS g (ν 0) (ν 1)),((ν 4),.cells #[.pointer none,.int .i64 0,.pointer none,.int .i64 0] 33),((ν 7),numO g (ν 5)),((ν 8),numO g (ν 6))] W4:=hR;have e0:ν 0=i:=hν 0 rfl;have e1:ν 1=j:=hν 1 rfl;have e2:ν 2=b1:=hν 2 rfl;have e3:ν 3=b2:=hν 3 rfl;have e4:ν 4=b3:=hν 4 rfl;simp only[e0,e1,e2,e3,e4]at hR|-;clear hν e0 e1 e2 e3 e4;generalize ν 5=n4 at hR|-;generalize ν 6=n5 at hR|-;generalize ν 7=b6 at hR|-;generalize ν 8=b7 at hR|-;have R4:=hdd hR;clear hR R3;simp only[putL,biD,biE]
 go_upto_region 7 with fail
 refine Spec.run (S:=⟨_,fun i=>([.w (.c (.v (.pointer (some ⟨g,0,none⟩)))),.w (.agg ([.v (.int .i64 1),.v (.float .f64 ca),.v (.float .f64 cb),.v (.float .f64 cc)])),fA g 0 1,numS g 9,numS g 5,numS g 5,.w (.c (.sl 10 1)),numS g 11,numS g 6,numS g 6,.w (.c (.sl 12 1)),numS g 13,.w (.c (.sl 14 1)),numS g 15,numS g 16,.w (.c (.ptr 17 0)),noS]:List SV).getD i noS,fun n=>([none,none,none,none,none,none,none,none,none,some 3,some 6,some 7,some 10,some 11,some 12,some 13,some 14,some 15]:List (Option Nat)).getD n none,
  [(0,X),(1,Y),(5,(.leaf ca)),(6,(.leaf cb)),(9,(fB X Y ca cb cc)),(11,(.mul (.leaf ca) (.leaf ca))),(13,(.mul (.leaf cb) (.leaf cb))),(15,(.add (.mul (.leaf ca) (.leaf ca)) (.mul (.leaf cb) (.leaf cb)))),(16,(.div (fB X Y ca cb cc) (.add (.mul (.leaf ca) (.leaf ca)) (.mul (.leaf cb) (.leaf cb)))))],[⟨2,29,[.v (.int .i64 1),.v (.float .f64 ca),.v (.float .f64 cb),.v (.float .f64 cc)],none⟩,⟨3,33,dL g 0 1,none⟩,⟨4,33,[.v (.pointer none),.v (.int .i64 0),.v (.pointer none),.v (.int .i64 0)],none⟩,⟨7,31,numC g 5,none⟩,⟨8,31,numC g 6,none⟩,⟨10,31,numC g 5,none⟩,⟨12,31,numC g 6,none⟩,⟨14,31,numC g 13,none⟩,⟨17,31,[.v (.pointer none),.v (.int .i64 0)],some (16,numC g 16)⟩],
  fun i=>([0,0,0,7,0,0,0,1,0,0,0,1,0,1,1,0,0]:List Nat).getD i 0,fun i=>([[],[],[],[0,1,2],[],[],[5],[4,5,6],[],[],[9],[8,9,10],[8,9,10,11],[4,5,6,7,8,9,10,11,12],[0,1,2,3,4,5,6,7,8,9,10,11,12,13],[],[0,1,2,3,4,5,6,7,8,9,10,11,12,13,14,15]]:List (List Nat)).getD i [],[(0,.w (.c (.v (.pointer (some ⟨g,0,none⟩))))),(4,.w (.c (.ptr 2 0))),(5,.w (.c (.ptr 3 0))),(9,.w (.c (.ptr 7 0))),(10,.w (.c (.ptr 8 0)))]⟩)
  (W:=runW ⟨w,B,ns⟩ g) (ν0:=fun n=>([i,j,b1,b2,b3,n4,n5,b6,b7]:List Nat).getD n 0) (c0:=(N+2))
  (fs:=fun ν=>[(29,.pointer (some ⟨g,0,none⟩)),(30,.agg #[(.int .i64 1),(.float .f64 ca),(.float .f64 cb),(.float .f64 cc)]),(31,bP g (ν 0) (ν 1)),(32,numV g (ν 9)),(33,numV g (ν 5)),(34,numV g (ν 5)),(35,.slice (some ⟨(ν 10),0,none⟩) 1 1),(36,numV g (ν 11)),(37,numV g (ν 6)),(38,numV g (ν 6)),(39,.slice (some ⟨(ν 12),0,none⟩) 1 1),(40,numV g (ν 13)),(41,.slice (some ⟨(ν 14),0,none⟩) 1 1),(42,numV g (ν 15)),(43,numV g (ν 16)),(11,.pointer (some ⟨(ν 17),0,none⟩))]) 17 (N+13) [] []
  ⟨Spec.wf_of (by kernel_rfl),aU (by kernel_rfl),aM ⟨rfl,rfl,rfl,rfl,rfl,trivial⟩⟩ R4.out (Run.nodup R4.out) (by omega)
  (fun b hM=>aA (aA (aA (aA (aA (aA (aA (aA (aA (aA (aA (aA (aA (aA (aA (aA (aA aO
    (aB b))
    (aP b 4 m0))
    (aP b 4 m1))
    (aI b (c_fn (ix:=[0,1]) (ts:=[9]) hM (fun ν=>mM (ca:=ca) (cb:=cb) (cc:=cc) ⟨h1.1.1,h1.1.2⟩ ⟨h1.2.1.1,h1.2.1.2⟩ ⟨h1.2.2.1.1,h1.2.2.1.2⟩))))
    (aP b 2 m3))
    (aP b 2 m3))
    (dY b m5))
    (aI b (lM hM m2 m2 rfl rfl m5 rfl rfl rfl rfl rfl rfl rfl rfl)))
    (aP b 2 m4))
    (aP b 2 m4))
    (dY b m6))
    (aI b (lM hM m3 m3 rfl rfl m6 rfl rfl rfl rfl rfl rfl rfl rfl)))
    (dY b m7))
    (aI b (ab6 hM m5 m6 rfl rfl m7 rfl rfl rfl rfl rfl rfl rfl rfl)))
    (aI b (ae8 hM m4 m7 rfl rfl rfl rfl rfl rfl)))
    (aW b m8))
    (dB b 2 m8)) ?_
 intro ν W5 hν hR;replace hR:Run ⟨w,B,ns⟩ g (N+13) [(X,ν 0),(Y,ν 1),((.leaf ca),ν 5),((.leaf cb),ν 6),((fB X Y ca cb cc),ν 9),((.mul (.leaf ca) (.leaf ca)),ν 11),((.mul (.leaf cb) (.leaf cb)),ν 13),((.add (.mul (.leaf ca) (.leaf ca)) (.mul (.leaf cb) (.leaf cb))),ν 15),((.div (fB X Y ca cb cc) (.add (.mul (.leaf ca) (.leaf ca)) (.mul (.leaf cb) (.leaf cb)))),ν 16)] [((ν 2),.cells #[(.int .i64 1),(.float .f64 ca),(.float .f64 cb),(.float .f64 cc)] 29),((ν 3),dS g (ν 0) (ν 1)),((ν 4),.cells #[.pointer none,.int .i64 0,.pointer none,.int .i64 0] 33),((ν 7),numO g (ν 5)),((ν 8),numO g (ν 6)),((ν 10),numO g (ν 5)),((ν 12),numO g (ν 6)),((ν 14),numO g (ν 13)),((ν 17),numO g (ν 16))] W5:=hR;have e0:ν 0=i:=hν 0 rfl;have e1:ν 1=j:=hν 1 rfl;have e2:ν 2=b1:=hν 2 rfl;have e3:ν 3=b2:=hν 3 rfl;have e4:ν 4=b3:=hν 4 rfl;have e5:ν 5=n4:=hν 5 rfl;have e6:ν 6=n5:=hν 6 rfl;have e7:ν 7=b6:=hν 7 rfl;have e8:ν 8=b7:=hν 8 rfl;simp only[e0,e1,e2,e3,e4,e5,e6,e7,e8]at hR|-;clear hν e0 e1 e2 e3 e4 e5 e6 e7 e8
 generalize ν 9=n8 at hR|-;generalize ν 10=b9 at hR|-;generalize ν 11=n10 at hR|-;generalize ν 12=b11 at hR|-;generalize ν 13=n12 at hR|-;generalize ν 14=b13 at hR|-;generalize ν 15=n14 at hR|-;generalize ν 16=n15 at hR|-;generalize ν 17=b16 at hR|-;have R5:=hdd hR;clear hR R4;simp only[putL,biD,biE]
 go_upto_region 8 with fail
 refine Spec.run (S:=⟨_,fun i=>([.w (.c (.ptr 2 0)),numS g 0,numS g 4,numS g 8,.w (.c (.sl 10 1)),numS g 11,numS g 12,.w (.c (.ptr 2 2)),numS g 1,numS g 5,numS g 8,.w (.c (.sl 13 1)),numS g 14,numS g 15,fA g 12 15,noS,.w (.c (.v Value.nilIface))]:List SV).getD i noS,fun n=>([none,none,none,none,none,none,none,none,none,none,some 4,some 5,some 6,some 11,some 12,some 13]:List (Option Nat)).getD n none,
  [(0,X),(1,Y),(4,(.leaf ca)),(5,(.leaf cb)),(8,(.div (fB X Y ca cb cc) (.add (.mul (.leaf ca) (.leaf ca)) (.mul (.leaf cb) (.leaf cb))))),(11,(.mul (.leaf ca) (.div (fB X Y ca cb cc) (.add (.mul (.leaf ca) (.leaf ca)) (.mul (.leaf cb) (.leaf cb)))))),(12,(.sub X (.mul (.leaf ca) (.div (fB X Y ca cb cc) (.add (.mul (.leaf ca) (.leaf ca)) (.mul (.leaf cb) (.leaf cb))))))),(14,(.mul (.leaf cb) (.div (fB X Y ca cb cc) (.add (.mul (.leaf ca) (.leaf ca)) (.mul (.leaf cb) (.leaf cb)))))),(15,(.sub Y (.mul (.leaf cb) (.div (fB X Y ca cb cc) (.add (.mul (.leaf ca) (.leaf ca)) (.mul (.leaf cb) (.leaf cb)))))))],[⟨2,33,dL g 0 1,none⟩,⟨3,33,[.v (.pointer none),.v (.int .i64 0),.v (.pointer none),.v (.int .i64 0)],some (15,dL g 12 15)⟩,⟨6,31,numC g 4,none⟩,⟨7,31,numC g 5,none⟩,⟨9,31,numC g 8,none⟩,⟨10,31,numC g 8,none⟩,⟨13,31,numC g 8,none⟩],
  fun i=>([0,0,0,0,0,1,1,0,0,0,0,0,1,1,0,0,0]:List Nat).getD i 0,fun i=>([[],[0],[],[],[3],[2,3,4],[0,1,2,3,4,5],[],[7],[],[],[10],[9,10,11],[7,8,9,10,11,12],[0,1,2,3,4,5,6,7,8,9,10,11,12,13],[0,1,2,3,4,5,6,7,8,9,10,11,12,13,14],[]]:List (List Nat)).getD i [],[(5,.w (.c (.ptr 2 0))),(9,.w (.c (.ptr 6 0))),(11,.w (.c (.ptr 9 0))),(10,.w (.c (.ptr 7 0))),(6,.w (.c (.ptr 3 0)))]⟩)
  (W:=runW ⟨w,B,ns⟩ g) (ν0:=fun n=>([i,j,b2,b3,n4,n5,b6,b7,n15,b16]:List Nat).getD n 0) (c0:=(N+13))
  (fs:=fun ν=>[(44,.pointer (some ⟨(ν 2),0,none⟩)),(45,numV g (ν 0)),(46,numV g (ν 4)),(47,numV g (ν 8)),(48,.slice (some ⟨(ν 10),0,none⟩) 1 1),(49,numV g (ν 11)),(50,numV g (ν 12)),(51,.pointer (some ⟨(ν 2),2,none⟩)),(52,numV g (ν 1)),(53,numV g (ν 5)),(54,numV g (ν 8)),(55,.slice (some ⟨(ν 13),0,none⟩) 1 1),(56,numV g (ν 14)),(57,numV g (ν 15)),(58,bP g (ν 12) (ν 15)),(7,Value.nilIface)]) 17 (N+17) [true,true,true,true,false,false,false,false] [false,true,true,true,true,false,false,false]
  ⟨Spec.wf_of (by kernel_rfl),aU (by kernel_rfl),aM ⟨rfl,rfl,rfl,rfl,rfl,trivial⟩⟩ R5.out (Run.nodup R5.out) (by omega)
  (fun b hM=>aA (aA (aA (aA (aA (aA (aA (aA (aA (aA (aA (aA (aA (aA (aA (aA (aA aO
    (aB b))
    (aP b 2 m0))
    (aP b 2 m2))
    (aP b 2 m4))
    (dY b m5))
    (aI b (lM hM m2 m4 rfl rfl m5 rfl rfl rfl rfl rfl rfl rfl rfl)))
    (aI b (wP hM m0 m5 rfl rfl rfl rfl rfl rfl)))
    (aB b))
    (aP b 2 m0))
    (aP b 2 m3))
    (aP b 2 m4))
    (dY b m6))
    (aI b (lM hM m3 m4 rfl rfl m6 rfl rfl rfl rfl rfl rfl rfl rfl)))
    (aI b (wP hM m1 m7 rfl rfl rfl rfl rfl rfl)))
    (aB b))
    (dB b 4 m1))
    (aB b)) ?_
 intro ν W6 hν hR;replace hR:Run ⟨w,B,ns⟩ g (N+17) [(X,ν 0),(Y,ν 1),((.leaf ca),ν 4),((.leaf cb),ν 5),((.div (fB X Y ca cb cc) (.add (.mul (.leaf ca) (.leaf ca)) (.mul (.leaf cb) (.leaf cb)))),ν 8),((.mul (.leaf ca) (.div (fB X Y ca cb cc) (.add (.mul (.leaf ca) (.leaf ca)) (.mul (.leaf cb) (.leaf cb))))),ν 11),((.sub X (.mul (.leaf ca) (.div (fB X Y ca cb cc) (.add (.mul (.leaf ca) (.leaf ca)) (.mul (.leaf cb) (.leaf cb)))))),ν 12),((.mul (.leaf cb) (.div (fB X Y ca cb cc) (.add (.mul (.leaf ca) (.leaf ca)) (.mul (.leaf cb) (.leaf cb))))),ν 14),((.sub Y (.mul (.leaf cb) (.div (fB X Y ca cb cc) (.add (.mul (.leaf ca) (.leaf ca)) (.mul (.leaf cb) (.leaf cb)))))),ν 15)] [((ν 2),dS g (ν 0) (ν 1)),((ν 3),dS g (ν 12) (ν 15)),((ν 6),numO g (ν 4)),((ν 7),numO g (ν 5)),((ν 9),numO g (ν 8)),((ν 10),numO g (ν 8)),((ν 13),numO g (ν 8))] W6:=hR;have e0:ν 0=i:=hν 0 rfl;have e1:ν 1=j:=hν 1 rfl;have e2:ν 2=b2:=hν 2 rfl;have e3:ν 3=b3:=hν 3 rfl;have e4:ν 4=n4:=hν 4 rfl;have e5:ν 5=n5:=hν 5 rfl
 have e6:ν 6=b6:=hν 6 rfl;have e7:ν 7=b7:=hν 7 rfl;have e8:ν 8=n15:=hν 8 rfl;have e9:ν 9=b16:=hν 9 rfl;simp only[e0,e1,e2,e3,e4,e5,e6,e7,e8,e9]at hR|-;clear hν e0 e1 e2 e3 e4 e5 e6 e7 e8 e9;generalize ν 10=b17 at hR|-;generalize ν 11=n18 at hR|-;generalize ν 12=n19 at hR|-;generalize ν 13=b20 at hR|-;generalize ν 14=n21 at hR|-;generalize ν 15=n22 at hR|-;have R6:=hdd hR;clear hR R5;simp only[putL,biD,biE];go_wp2;obtain⟨x0,x1,x2,x3⟩:=aR (R6.out.at m1);refine bodyPost_ret (v:=.tuple #[.agg #[_,_,_,_],.nilIface]) (by simp[results,Tryz.results38,go_sem,x0,x1,x2,x3];first|exact⟨rfl,rfl,rfl,rfl⟩|rfl) rfl ?_;exact⟨[n19,n22],rfl,rfl,_,R6.out.few (mJ [6,8])⟩
abbrev lf0(p:Nat×Nat×Nat×Int×Int×Int):Ex:=.leaf (fl p.2.2.2.1)
abbrev lf1(p:Nat×Nat×Nat×Int×Int×Int):Ex:=.leaf (fl p.2.2.2.2.1)
abbrev lf2(p:Nat×Nat×Nat×Int×Int×Int):Ex:=.sub (lf0 p) (.mul (.leaf p.1) (ac8 (lf0 p) (lf1 p) p.1 p.2.1 p.2.2.1))
abbrev lf3(p:Nat×Nat×Nat×Int×Int×Int):Ex:=.sub (lf1 p) (.mul (.leaf p.2.1) (ac8 (lf0 p) (lf1 p) p.1 p.2.1 p.2.2.1))
abbrev lf4(p:Nat×Nat×Nat×Int×Int×Int):Ex:=.leaf (fl p.2.2.2.2.2)
abbrev lf5(p:Nat×Nat×Nat×Int×Int×Int):Ex:=.mul (.leaf p.2.1) (lf4 p)
abbrev lf6(p:Nat×Nat×Nat×Int×Int×Int):Ex:=.add (lf2 p) (lf5 p)
abbrev lf7(p:Nat×Nat×Nat×Int×Int×Int):Ex:=.mul (.leaf p.1) (lf4 p)
abbrev lf8(p:Nat×Nat×Nat×Int×Int×Int):Ex:=.sub (lf3 p) (lf7 p)
abbrev lf9(p:Nat×Nat×Nat×Int×Int×Int):Ex:=fB (lf6 p) (lf8 p) p.1 p.2.1 p.2.2.1
abbrev lf10(p:Nat×Nat×Nat×Int×Int×Int):Ex:=sqrX (lf0 p) (lf1 p) (lf6 p) (lf8 p)
abbrev lf11(p:Nat×Nat×Nat×Int×Int×Int):Ex:=sqrX (lf0 p) (lf1 p) (lf2 p) (lf3 p)
abbrev lf12(p:Nat×Nat×Nat×Int×Int×Int):Ex:=sqrX (lf2 p) (lf3 p) (lf6 p) (lf8 p)
abbrev lf13(p:Nat×Nat×Nat×Int×Int×Int):Ex:=.add (lf11 p) (lf12 p)
theorem x8{w:World}{n p0 p1 k:Int}{a b c:Nat}(hT:Tab w)(htb:1<w.heap.size)(ha:a<18446744073709551616)(hb:b<18446744073709551616)(hc:c<18446744073709551616):
 Calls Tryz.prog 7 #[curV n a b c,.agg #[.int .i64 p0,.int .i64 p1],.int .i64 k] w (RetV w (.bool true)):=by
 obtain⟨w2,hw2,hb2,hs2,b1,b2⟩:=pro2 w (curO n a b c) (.cells #[.int .i64 p0,.int .i64 p1] 77);have HA:=hdd (afS (hT.below hb2) (Nat.lt_of_lt_of_le htb hb2.size));have HT:=hdd (And.intro hT htb);have HB2:=hdd hb2;have B1:=hdd b1;have B2:=hdd b2;obtain⟨r0,r1,r2,f0,f1,f2,hsm⟩:=ac7 (n:=n) ha hb hc;have HSM:=hdd hsm;obtain⟨c0,c1,c2,c3⟩:=aR b1;obtain⟨d0,d1,d2,d3⟩:=qN b1;clear hT htb hb2 hs2 b1 b2 hsm ha hb hc;have hst:=aZ;go_enter Tryz.func7,Tryz.ntmps7
 go_wp2_with fail
 refine HA.out.mono ?_;rintro e w3⟨rfl,hb3⟩;have HB3:=hdd (aC HB2.out hb3);have B13:=hdd (hbl B1.out hb3);have B23:=hdd (hbl B2.out hb3);clear c0 c1 c2 c3 d0 d1 d2 d3;obtain⟨c0,c1,c2,c3⟩:=aR B13.out;clear hb3 HA B1 B2 HB2 hw2;go_wp2_with fail
 refine(HSM.out _).mono ?_;rintro e w4⟨rfl,hb4⟩;have HB4:=hdd (HB3.out.trans (hb4.mono HB3.out.size));have B14:=hdd (hbl B13.out hb4);have B24:=hdd (hbl B23.out hb4);clear c0 c1 c2 c3 hb4 B13 B23 HB3;obtain⟨c0,c1,c2,c3⟩:=aR B14.out;obtain⟨d0,d1,d2,d3⟩:=qN B14.out;obtain⟨w5,hw5,hb5,hs5,q1,q2⟩:=zF (a:=.int .i64 n) (b:=.float .f64 r0) (c:=.float .f64 r1) (d:=.float .f64 r2) (k:=.int .i64 1) HB4.out nlr B14.out;have HB5:=hdd hb5;have Q1:=hdd q1;have Q2:Hid (w5.heap[w.heap.size+1]? =some (.cells #[.int .i64 p0,.int .i64 p1] 77)):=hdd ((q2 _ (by omega)).trans B24.out);by_cases hline:dH r0 r1 r2
 rotate_left
 . have HBAD:=hdd (wQ (w:=w5) f0.1 f1.1 f2.1 hline)
   clear f0 f1 f2 hline hb5 hs5 q2;obtain⟨e0,e1,e2,e3⟩:=aR q1;clear q1;go_wp2_with fail
   refine HBAD.out.mono ?_;rintro e w6⟨er,m,rfl,hm,he,hb6⟩;have HB6:=hdd (HB5.out.trans (hb6.mono HB5.out.size));obtain⟨et,ev,rfl⟩:∃t x,er=.iface t x:=by cases he<;>exact⟨_,_,rfl⟩
   clear he hm hb6;go_wp2;go_ret;exact⟨rfl,HB6.out⟩
 obtain⟨x0,hx0,y0⟩:=sO f0 hline.1.2;obtain⟨x1,hx1,y1⟩:=sO f1 hline.2.1.2;obtain⟨x2,hx2,y2⟩:=sO f2 hline.2.2.1.2;have hne:=afR hline y0 y1 y2;obtain⟨X0,mx,mx2,mx3⟩:=xQ (n:=20) p0 (by omega);obtain⟨Y0,my,my2,my3⟩:=xQ (n:=20) p1 (by omega);obtain⟨S0,ms,ms2,ms3⟩:=xQ (n:=9) k (by omega);obtain⟨p,g1,g2,g3,g4,g5,g6⟩:∃p:Nat×Nat×Nat×Int×Int×Int,r0=p.1/\r1=p.2.1/\r2=p.2.2.1/\X0=p.2.2.2.1/\Y0=p.2.2.2.2.1/\S0=p.2.2.2.2.2:=⟨(r0,r1,r2,X0,Y0,S0),rfl,rfl,rfl,rfl,rfl,rfl⟩;subst g1 g2 g3 g4 g5 g6;have MX:=hdd mx;have MY:=hdd my;have MS:=hdd ms;have FX:Hid (FlOk (fl p.2.2.2.1)/\FlOk (fl p.2.2.2.2.1)/\FlOk (fl p.2.2.2.2.2)):=hdd ⟨xR (by omega),xR (by omega),xR (by omega)⟩;have LK:=hdd hline;have LKC:=hdd (oO (w:=w5) hline);have TT:=hdd (anN y0 y1 y2 hx0 hx1 hx2 (X0:=p.2.2.2.1) (Y0:=p.2.2.2.2.1) (S:=p.2.2.2.2.2) (by omega) (by omega) (by omega) hne _ _ _ _ _ _ _ _ rfl rfl rfl rfl rfl rfl rfl rfl);obtain⟨e0,e1,e2,e3⟩:=aR q1;clear f0 f1 f2 hline hb5 hs5 q1 q2 hx0 hx1 hx2 hne y0 y1 y2 mx mx2 mx3 my my2 my3 ms ms2 ms3
 go_wp2_with fail
 refine LKC.out.mono ?_;rintro e w6⟨rfl,hb6⟩;have HB6:=hdd (HB5.out.trans (hb6.mono HB5.out.size));have HK6:Hid (∀q∈[(w.heap.size,curO 1 p.1 p.2.1 p.2.2.1),(w.heap.size+1,(.cells #[.int .i64 p0,.int .i64 p1] 77))],w6.heap[q.1]? =some q.2/\w.heap.size<=q.1):=hdd fun q hp=>by
  simp only[List.mem_cons,List.not_mem_nil,or_false]at hp;rcases hp with rfl|rfl
  . exact⟨hbl Q1.out hb6,Nat.le_refl _⟩
  . exact⟨hbl Q2.out hb6,Nat.le_add_right _ _⟩
 have HN:=hdd (aaG (w0:=w) HB6.out HK6.out (by simp) HT.out.1 HT.out.2);clear hb6 hw5 e0 e1 e2 e3 c0 c1 c2 c3 d0 d1 d2 d3;go_wp2_with fail
 refine HN.out.mono ?_;rintro e W1⟨g,rfl,hR⟩;have R1:=hdd hR;clear hst hR HN HK6 Q1 Q2 HB5 HB6 B14 B24 HB4 LKC;dsimp only;generalize w.heap.size+1=bp at R1|-
 go_upto_region 10 with fail
 refine Spec.run (S:=⟨_,fun i=>([.w (.c (.v (.pointer (some ⟨g,0,none⟩)))),.w (.c (.ptr 1 0)),.w (.c (.v (.int .i64 p0))),.w (.c (.v (.int .i64 p.2.2.2.1))),.w (.c (.v (.float .f64 (fl p.2.2.2.1)))),.w (.c (.ptr 1 1)),.w (.c (.v (.int .i64 p1))),.w (.c (.v (.int .i64 p.2.2.2.2.1))),.w (.c (.v (.float .f64 (fl p.2.2.2.2.1)))),fA g 2 3,.w (.c (.ptr 4 0)),noS]:List SV).getD i noS,fun n=>([none,none,some 9,some 9,some 10]:List (Option Nat)).getD n none,
  [(2,(lf0 p)),(3,(lf1 p))],[⟨0,29,[.v (.int .i64 1),.v (.float .f64 p.1),.v (.float .f64 p.2.1),.v (.float .f64 p.2.2.1)],none⟩,⟨1,77,[.v (.int .i64 p0),.v (.int .i64 p1)],none⟩,⟨4,33,[.v (.pointer none),.v (.int .i64 0),.v (.pointer none),.v (.int .i64 0)],some (11,dL g 2 3)⟩],
  fun i=>([0,0,0,0,0,0,0,0,0,2,0,0]:List Nat).getD i 0,fun i=>([[],[],[1],[1,2],[1,2,3],[],[5],[5,6],[5,6,7],[0,1,2,3,4,5,6,7,8],[],[0,1,2,3,4,5,6,7,8,9,10]]:List (List Nat)).getD i [],[(7,.w (.c (.v (.pointer (some ⟨g,0,none⟩))))),(4,.w (.c (.ptr 1 0)))]⟩)
  (W:=runW (bs w) g) (ν0:=fun n=>([w.heap.size,bp]:List Nat).getD n 0) (c0:=0)
  (fs:=fun ν=>[(28,.pointer (some ⟨g,0,none⟩)),(29,.pointer (some ⟨(ν 1),0,none⟩)),(30,(.int .i64 p0)),(31,(.int .i64 p.2.2.2.1)),(32,(.float .f64 (fl p.2.2.2.1))),(33,.pointer (some ⟨(ν 1),1,none⟩)),(34,(.int .i64 p1)),(35,(.int .i64 p.2.2.2.2.1)),(36,(.float .f64 (fl p.2.2.2.2.1))),(37,bP g (ν 2) (ν 3)),(8,.pointer (some ⟨(ν 4),0,none⟩))]) 12 2 [] []
  ⟨Spec.wf_of (by kernel_rfl),aU (by kernel_rfl),aM ⟨rfl,rfl,trivial⟩⟩ R1.out (Run.nodup R1.out) (by decide)
  (fun b hM=>aA (aA (aA (aA (aA (aA (aA (aA (aA (aA (aA (aA aO
    (aB b))
    (aB b))
    (aN b m1))
    (aB b (hv:=fun ν w=>gL rfl rfl rfl rfl (MX.out w))))
    (aB b (hv:=fun ν w=>o6 rfl rfl (kM p.2.2.2.1 w))))
    (aB b))
    (aN b m1))
    (aB b (hv:=fun ν w=>gL rfl rfl rfl rfl (MY.out w))))
    (aB b (hv:=fun ν w=>o6 rfl rfl (kM p.2.2.2.2.1 w))))
    (aI b (c_at hM FX.out.1.1 FX.out.2.1.1 FX.out.1.2 FX.out.2.1.2 rfl rfl rfl rfl (by decide) rfl)))
    (aW b m2))
    (dB b 4 m2)) ?_
 intro ν W2 hν hR;replace hR:Run (bs w) g 2 [((lf0 p),ν 2),((lf1 p),ν 3)] [((ν 0),.cells #[(.int .i64 1),(.float .f64 p.1),(.float .f64 p.2.1),(.float .f64 p.2.2.1)] 29),((ν 1),.cells #[(.int .i64 p0),(.int .i64 p1)] 77),((ν 4),dS g (ν 2) (ν 3))] W2:=hR;have e0:ν 0=w.heap.size:=hν 0 rfl;have e1:ν 1=bp:=hν 1 rfl;simp only[e0,e1]at hR|-;clear hν e0 e1;generalize ν 2=n1 at hR|-;generalize ν 3=n2 at hR|-;generalize ν 4=b3 at hR|-;have R2:=hdd hR;clear hR R1;simp only[putL,biD,biE]
 go_upto_region 11 with fail
 refine Spec.run (S:=⟨_,fun i=>([.w (.c (.v (.pointer (some ⟨g,0,none⟩)))),.w (.agg ([.v (.int .i64 1),.v (.float .f64 p.1),.v (.float .f64 p.2.1),.v (.float .f64 p.2.2.1)])),fA g 1 2,.tup [.agg (dL g 4 5),.c (.v .nilIface)],.tup [.agg (dL g 4 5),.c (.v .nilIface)],fA g 4 5,.w (.c (.v .nilIface)),.w (.c (.ptr 6 0)),noS,.w (.c (.v .nilIface))]:List SV).getD i noS,fun n=>([none,none,none,none,some 3,some 3,some 7]:List (Option Nat)).getD n none,
  [(1,(lf0 p)),(2,(lf1 p)),(4,(lf2 p)),(5,(lf3 p))],[⟨0,29,[.v (.int .i64 1),.v (.float .f64 p.1),.v (.float .f64 p.2.1),.v (.float .f64 p.2.2.1)],none⟩,⟨3,33,dL g 1 2,none⟩,⟨6,33,[.v (.pointer none),.v (.int .i64 0),.v (.pointer none),.v (.int .i64 0)],some (8,dL g 4 5)⟩],
  fun i=>([0,0,0,17,0,0,0,0,0,0]:List Nat).getD i 0,fun i=>([[],[],[],[0,1,2],[0,1,2,3],[0,1,2,3,4],[0,1,2,3,4],[],[0,1,2,3,4,5,7],[0,1,2,3,4,6]]:List (List Nat)).getD i [],[(7,.w (.c (.v (.pointer (some ⟨g,0,none⟩))))),(3,.w (.c (.ptr 0 0))),(8,.w (.c (.ptr 3 0)))]⟩)
  (W:=runW (bs w) g) (ν0:=fun n=>([w.heap.size,n1,n2,b3]:List Nat).getD n 0) (c0:=2)
  (fs:=fun ν=>[(39,.pointer (some ⟨g,0,none⟩)),(40,.agg #[(.int .i64 1),(.float .f64 p.1),(.float .f64 p.2.1),(.float .f64 p.2.2.1)]),(41,bP g (ν 1) (ν 2)),(42,.tuple #[bP g (ν 4) (ν 5),.nilIface]),(38,.tuple #[bP g (ν 4) (ν 5),.nilIface]),(43,bP g (ν 4) (ν 5)),(44,.nilIface),(9,.pointer (some ⟨(ν 6),0,none⟩)),(10,.nilIface)]) 10 19 [] [true,false]
  ⟨Spec.wf_of (by kernel_rfl),aU (by kernel_rfl),aM ⟨rfl,rfl,rfl,trivial⟩⟩ R2.out (Run.nodup R2.out) (by decide)
  (fun b hM=>aA (aA (aA (aA (aA (aA (aA (aA (aA (aA aO
    (aB b))
    (aP b 4 m0))
    (aP b 4 m1))
    (aI b (c_fn (ix:=[0,1]) (ts:=[4,5]) hM (fun ν=>ahV LK.out))))
    (aB b))
    (aB b))
    (aB b))
    (aW b m2))
    (dB b 4 m2))
    (aB b)) ?_
 intro ν W3 hν hR;replace hR:Run (bs w) g 19 [((lf0 p),ν 1),((lf1 p),ν 2),((lf2 p),ν 4),((lf3 p),ν 5)] [((ν 0),.cells #[(.int .i64 1),(.float .f64 p.1),(.float .f64 p.2.1),(.float .f64 p.2.2.1)] 29),((ν 3),dS g (ν 1) (ν 2)),((ν 6),dS g (ν 4) (ν 5))] W3:=hR;have e0:ν 0=w.heap.size:=hν 0 rfl;have e1:ν 1=n1:=hν 1 rfl;have e2:ν 2=n2:=hν 2 rfl;have e3:ν 3=b3:=hν 3 rfl;simp only[e0,e1,e2,e3]at hR|-;clear hν e0 e1 e2 e3;generalize ν 4=n4 at hR|-;generalize ν 5=n5 at hR|-;generalize ν 6=b6 at hR|-;have R3:=hdd hR;clear hR R2;simp only[putL,biD,biE]
 go_upto_region 12 with fail
 refine Spec.run (S:=⟨_,fun i=>([.w (.c (.v (.pointer (some ⟨g,0,none⟩)))),.w (.c (.v (.int .i64 k))),.w (.c (.v (.int .i64 p.2.2.2.2.2))),.w (.c (.v (.float .f64 (fl p.2.2.2.2.2)))),numS g 7,.w (.c (.ptr 8 0)),noS]:List SV).getD i noS,fun n=>([none,none,none,none,none,none,none,some 4,some 5]:List (Option Nat)).getD n none,
  [(1,(lf0 p)),(2,(lf1 p)),(4,(lf2 p)),(5,(lf3 p)),(7,(lf4 p))],[⟨0,29,[.v (.int .i64 1),.v (.float .f64 p.1),.v (.float .f64 p.2.1),.v (.float .f64 p.2.2.1)],none⟩,⟨3,33,dL g 1 2,none⟩,⟨6,33,dL g 4 5,none⟩,⟨8,31,[.v (.pointer none),.v (.int .i64 0)],some (6,numC g 7)⟩],
  fun i=>([0,0,0,0,1,0,0]:List Nat).getD i 0,fun i=>([[],[],[1],[1,2],[0,1,2,3],[],[0,1,2,3,4,5]]:List (List Nat)).getD i [],[(7,.w (.c (.v (.pointer (some ⟨g,0,none⟩))))),(2,.w (.c (.v (.int .i64 k))))]⟩)
  (W:=runW (bs w) g) (ν0:=fun n=>([w.heap.size,n1,n2,b3,n4,n5,b6]:List Nat).getD n 0) (c0:=19)
  (fs:=fun ν=>[(45,.pointer (some ⟨g,0,none⟩)),(46,(.int .i64 k)),(47,(.int .i64 p.2.2.2.2.2)),(48,(.float .f64 (fl p.2.2.2.2.2))),(49,numV g (ν 7)),(11,.pointer (some ⟨(ν 8),0,none⟩))]) 7 20 [] []
  ⟨Spec.wf_of (by kernel_rfl),aU (by kernel_rfl),aM ⟨rfl,rfl,trivial⟩⟩ R3.out (Run.nodup R3.out) (by decide)
  (fun b hM=>aA (aA (aA (aA (aA (aA (aA aO
    (aB b))
    (aB b))
    (aB b (hv:=fun ν w=>gL rfl rfl rfl rfl (MS.out w))))
    (aB b (hv:=fun ν w=>o6 rfl rfl (kM p.2.2.2.2.2 w))))
    (aI b (c_of hM FX.out.2.2.1 FX.out.2.2.2 rfl rfl rfl rfl)))
    (aW b m3))
    (dB b 2 m3)) ?_
 intro ν W4 hν hR;replace hR:Run (bs w) g 20 [((lf0 p),ν 1),((lf1 p),ν 2),((lf2 p),ν 4),((lf3 p),ν 5),((lf4 p),ν 7)] [((ν 0),.cells #[(.int .i64 1),(.float .f64 p.1),(.float .f64 p.2.1),(.float .f64 p.2.2.1)] 29),((ν 3),dS g (ν 1) (ν 2)),((ν 6),dS g (ν 4) (ν 5)),((ν 8),numO g (ν 7))] W4:=hR;have e0:ν 0=w.heap.size:=hν 0 rfl;have e1:ν 1=n1:=hν 1 rfl;have e2:ν 2=n2:=hν 2 rfl;have e3:ν 3=b3:=hν 3 rfl;have e4:ν 4=n4:=hν 4 rfl;have e5:ν 5=n5:=hν 5 rfl;have e6:ν 6=b6:=hν 6 rfl;simp only[e0,e1,e2,e3,e4,e5,e6]at hR|-;clear hν e0 e1 e2 e3 e4 e5 e6;generalize ν 7=n7 at hR|-;generalize ν 8=b8 at hR|-;have R4:=hdd hR;clear hR R3;simp only[putL,biD,biE]
 go_upto_region 13 with fail
 refine Spec.run (S:=⟨_,fun i=>([.w (.c (.ptr 6 0)),numS g 4,.w (.c (.v (.pointer (some ⟨g,0,none⟩)))),.w (.c (.ptr 0 2)),.w (.c (.v (.float .f64 p.2.1))),numS g 9,numS g 7,.w (.c (.sl 10 1)),numS g 11,.w (.c (.sl 12 1)),numS g 13,.w (.c (.ptr 6 2)),numS g 5,.w (.c (.v (.pointer (some ⟨g,0,none⟩)))),.w (.c (.ptr 0 1)),.w (.c (.v (.float .f64 p.1))),numS g 14,numS g 7,.w (.c (.sl 15 1)),numS g 16,numS g 17,fA g 13 17,.w (.c (.ptr 18 0)),noS]:List SV).getD i noS,fun n=>([none,none,none,none,none,none,none,none,none,some 5,some 7,some 8,some 9,some 10,some 16,some 18,some 19,some 20,some 22]:List (Option Nat)).getD n none,
  [(1,(lf0 p)),(2,(lf1 p)),(4,(lf2 p)),(5,(lf3 p)),(7,(lf4 p)),(9,(.leaf p.2.1)),(11,(lf5 p)),(13,(lf6 p)),(14,(.leaf p.1)),(16,(lf7 p)),(17,(lf8 p))],[⟨0,29,[.v (.int .i64 1),.v (.float .f64 p.1),.v (.float .f64 p.2.1),.v (.float .f64 p.2.2.1)],none⟩,⟨3,33,dL g 1 2,none⟩,⟨6,33,dL g 4 5,none⟩,⟨8,31,numC g 7,none⟩,⟨10,31,numC g 7,none⟩,⟨12,31,numC g 11,none⟩,⟨15,31,numC g 7,none⟩,⟨18,33,[.v (.pointer none),.v (.int .i64 0),.v (.pointer none),.v (.int .i64 0)],some (23,dL g 13 17)⟩],
  fun i=>([0,0,0,0,0,1,0,0,1,0,1,0,0,0,0,0,1,0,0,1,1,0,0,0]:List Nat).getD i 0,fun i=>([[],[0],[],[],[3],[2,3,4],[],[6],[2,3,4,5,6,7],[2,3,4,5,6,7,8],[0,1,2,3,4,5,6,7,8,9],[],[11],[],[],[14],[13,14,15],[],[17],[13,14,15,16,17,18],[11,12,13,14,15,16,17,18,19],[0,1,2,3,4,5,6,7,8,9,10,11,12,13,14,15,16,17,18,19,20],[],[0,1,2,3,4,5,6,7,8,9,10,11,12,13,14,15,16,17,18,19,20,21,22]]:List (List Nat)).getD i [],[(9,.w (.c (.ptr 6 0))),(7,.w (.c (.v (.pointer (some ⟨g,0,none⟩))))),(3,.w (.c (.ptr 0 0))),(11,.w (.c (.ptr 8 0)))]⟩)
  (W:=runW (bs w) g) (ν0:=fun n=>([w.heap.size,n1,n2,b3,n4,n5,b6,n7,b8]:List Nat).getD n 0) (c0:=20)
  (fs:=fun ν=>[(50,.pointer (some ⟨(ν 6),0,none⟩)),(51,numV g (ν 4)),(52,.pointer (some ⟨g,0,none⟩)),(53,.pointer (some ⟨(ν 0),2,none⟩)),(54,(.float .f64 p.2.1)),(55,numV g (ν 9)),(56,numV g (ν 7)),(57,.slice (some ⟨(ν 10),0,none⟩) 1 1),(58,numV g (ν 11)),(59,.slice (some ⟨(ν 12),0,none⟩) 1 1),(60,numV g (ν 13)),(61,.pointer (some ⟨(ν 6),2,none⟩)),(62,numV g (ν 5)),(63,.pointer (some ⟨g,0,none⟩)),(64,.pointer (some ⟨(ν 0),1,none⟩)),(65,(.float .f64 p.1)),(66,numV g (ν 14)),(67,numV g (ν 7)),(68,.slice (some ⟨(ν 15),0,none⟩) 1 1),(69,numV g (ν 16)),(70,numV g (ν 17)),(71,bP g (ν 13) (ν 17)),(12,.pointer (some ⟨(ν 18),0,none⟩))]) 24 26 [] []
  ⟨Spec.wf_of (by kernel_rfl),aU (by kernel_rfl),aM ⟨rfl,rfl,rfl,rfl,trivial⟩⟩ R4.out (Run.nodup R4.out) (by decide)
  (fun b hM=>aA (aA (aA (aA (aA (aA (aA (aA (aA (aA (aA (aA (aA (aA (aA (aA (aA (aA (aA (aA (aA (aA (aA (aA aO
    (aB b))
    (aP b 2 m2))
    (aB b))
    (aB b))
    (aN b m0))
    (aI b (c_of hM LK.out.2.1.1 LK.out.2.1.2 rfl rfl rfl rfl)))
    (aP b 2 m3))
    (dY b m4))
    (aI b (lM hM m5 m4 rfl rfl m4 rfl rfl rfl rfl rfl rfl rfl rfl)))
    (dY b m5))
    (aI b (ab6 hM m2 m6 rfl rfl m5 rfl rfl rfl rfl rfl rfl rfl rfl)))
    (aB b))
    (aP b 2 m2))
    (aB b))
    (aB b))
    (aN b m0))
    (aI b (c_of hM LK.out.1.1 LK.out.1.2 rfl rfl rfl rfl)))
    (aP b 2 m3))
    (dY b m6))
    (aI b (lM hM m8 m4 rfl rfl m6 rfl rfl rfl rfl rfl rfl rfl rfl)))
    (aI b (wP hM m3 m9 rfl rfl rfl rfl rfl rfl)))
    (aB b))
    (aW b m7))
    (dB b 4 m7)) ?_
 intro ν W5 hν hR;replace hR:Run (bs w) g 26 [((lf0 p),ν 1),((lf1 p),ν 2),((lf2 p),ν 4),((lf3 p),ν 5),((lf4 p),ν 7),((.leaf p.2.1),ν 9),((lf5 p),ν 11),((lf6 p),ν 13),((.leaf p.1),ν 14),((lf7 p),ν 16),((lf8 p),ν 17)] [((ν 0),.cells #[(.int .i64 1),(.float .f64 p.1),(.float .f64 p.2.1),(.float .f64 p.2.2.1)] 29),((ν 3),dS g (ν 1) (ν 2)),((ν 6),dS g (ν 4) (ν 5)),((ν 8),numO g (ν 7)),((ν 10),numO g (ν 7)),((ν 12),numO g (ν 11)),((ν 15),numO g (ν 7)),((ν 18),dS g (ν 13) (ν 17))] W5:=hR;have e0:ν 0=w.heap.size:=hν 0 rfl;have e1:ν 1=n1:=hν 1 rfl;have e2:ν 2=n2:=hν 2 rfl;have e3:ν 3=b3:=hν 3 rfl;have e4:ν 4=n4:=hν 4 rfl;have e5:ν 5=n5:=hν 5 rfl;have e6:ν 6=b6:=hν 6 rfl;have e7:ν 7=n7:=hν 7 rfl;have e8:ν 8=b8:=hν 8 rfl;simp only[e0,e1,e2,e3,e4,e5,e6,e7,e8]at hR|-;clear hν e0 e1 e2 e3 e4 e5 e6 e7 e8;generalize ν 9=n9 at hR|-;generalize ν 10=b10 at hR|-;generalize ν 11=n11 at hR|-;generalize ν 12=b12 at hR|-;generalize ν 13=n13 at hR|-;generalize ν 14=n14 at hR|-;generalize ν 15=b15 at hR|-
 generalize ν 16=n16 at hR|-;generalize ν 17=n17 at hR|-;generalize ν 18=b18 at hR|-;have R5:=hdd hR;clear hR R4;simp only[putL,biD,biE]
 go_upto_region 14 with fail
 refine Spec.run (S:=⟨_,fun i=>([.w (.c (.v (.pointer (some ⟨g,0,none⟩)))),.w (.agg ([.v (.int .i64 1),.v (.float .f64 p.1),.v (.float .f64 p.2.1),.v (.float .f64 p.2.2.1)])),fA g 7 8,numS g 10,.tup [.c (.v (.int .i64 0)),.c (.v .nilIface)],.tup [.c (.v (.int .i64 0)),.c (.v .nilIface)],.w (.c (.v (.int .i64 0))),.w (.c (.v .nilIface)),.w (.c (.v (.int .i64 0))),.w (.c (.v .nilIface))]:List SV).getD i noS,fun n=>([none,none,none,none,none,none,none,none,none,none,some 3]:List (Option Nat)).getD n none,
  [(1,(lf0 p)),(2,(lf1 p)),(4,(lf2 p)),(5,(lf3 p)),(7,(lf6 p)),(8,(lf8 p)),(10,(lf9 p))],[⟨0,29,[.v (.int .i64 1),.v (.float .f64 p.1),.v (.float .f64 p.2.1),.v (.float .f64 p.2.2.1)],none⟩,⟨3,33,dL g 1 2,none⟩,⟨6,33,dL g 4 5,none⟩,⟨9,33,dL g 7 8,none⟩],
  fun i=>([0,0,0,7,0,0,0,0,0,0]:List Nat).getD i 0,fun i=>([[],[],[],[0,1,2],[0,1,2,3],[0,1,2,3,4],[0,1,2,3,4,5],[0,1,2,3,4,5],[0,1,2,3,4,5,6],[0,1,2,3,4,5,7]]:List (List Nat)).getD i [],[(7,.w (.c (.v (.pointer (some ⟨g,0,none⟩))))),(3,.w (.c (.ptr 0 0))),(12,.w (.c (.ptr 9 0)))]⟩)
  (W:=runW (bs w) g) (ν0:=fun n=>([w.heap.size,n1,n2,b3,n4,n5,b6,n13,n17,b18]:List Nat).getD n 0) (c0:=26)
  (fs:=fun ν=>[(73,.pointer (some ⟨g,0,none⟩)),(74,.agg #[(.int .i64 1),(.float .f64 p.1),(.float .f64 p.2.1),(.float .f64 p.2.2.1)]),(75,bP g (ν 7) (ν 8)),(76,numV g (ν 10)),(77,.tuple #[(.int .i64 0),.nilIface]),(72,.tuple #[(.int .i64 0),.nilIface]),(78,(.int .i64 0)),(79,.nilIface),(13,(.int .i64 0)),(14,.nilIface)]) 10 33 [true,true,true,true,false,false,false,true,false,false] [true,true,true,false,false,false,false]
  ⟨Spec.wf_of (by kernel_rfl),aU (by kernel_rfl),aM ⟨rfl,rfl,rfl,trivial⟩⟩ R5.out (Run.nodup R5.out) (by decide)
  (fun b hM=>aA (aA (aA (aA (aA (aA (aA (aA (aA (aA aO
    (aB b))
    (aP b 4 m0))
    (aP b 4 m3))
    (aI b (c_fn (ix:=[4,5]) (ts:=[10]) hM (fun ν=>mM (ca:=p.1) (cb:=p.2.1) (cc:=p.2.2.1) ⟨LK.out.1.1,LK.out.1.2⟩ ⟨LK.out.2.1.1,LK.out.2.1.2⟩ ⟨LK.out.2.2.1.1,LK.out.2.2.1.2⟩))))
    (aI b (aj7 hM m6 rfl rfl rfl rfl TT.out.1)))
    (aB b))
    (aB b))
    (aB b))
    (aB b))
    (aB b)) ?_
 intro ν W6 hν hR;replace hR:Run (bs w) g 33 [((lf0 p),ν 1),((lf1 p),ν 2),((lf2 p),ν 4),((lf3 p),ν 5),((lf6 p),ν 7),((lf8 p),ν 8),((lf9 p),ν 10)] [((ν 0),.cells #[(.int .i64 1),(.float .f64 p.1),(.float .f64 p.2.1),(.float .f64 p.2.2.1)] 29),((ν 3),dS g (ν 1) (ν 2)),((ν 6),dS g (ν 4) (ν 5)),((ν 9),dS g (ν 7) (ν 8))] W6:=hR;have e0:ν 0=w.heap.size:=hν 0 rfl;have e1:ν 1=n1:=hν 1 rfl;have e2:ν 2=n2:=hν 2 rfl;have e3:ν 3=b3:=hν 3 rfl;have e4:ν 4=n4:=hν 4 rfl;have e5:ν 5=n5:=hν 5 rfl;have e6:ν 6=b6:=hν 6 rfl;have e7:ν 7=n13:=hν 7 rfl;have e8:ν 8=n17:=hν 8 rfl;have e9:ν 9=b18:=hν 9 rfl;simp only[e0,e1,e2,e3,e4,e5,e6,e7,e8,e9]at hR|-;clear hν e0 e1 e2 e3 e4 e5 e6 e7 e8 e9;generalize ν 10=n19 at hR|-;have R6:=hdd hR;clear hR R5;simp only[putL,biD,biE]
 go_upto_region 15 with fail
 refine Spec.run (S:=⟨_,fun i=>([fA g 0 1,fA g 6 7,numS g 9,fA g 0 1,fA g 3 4,numS g 10,fA g 3 4,fA g 6 7,numS g 11,.w (.c (.sl 12 1)),numS g 13,.tup [.c (.v (.int .i64 0)),.c (.v .nilIface)],.tup [.c (.v (.int .i64 0)),.c (.v .nilIface)],.w (.c (.v (.int .i64 0))),.w (.c (.v .nilIface)),.w (.c (.v (.int .i64 0))),.w (.c (.v .nilIface))]:List SV).getD i noS,fun n=>([none,none,none,none,none,none,none,none,none,some 2,some 5,some 8,some 9,some 10]:List (Option Nat)).getD n none,
  [(0,(lf0 p)),(1,(lf1 p)),(3,(lf2 p)),(4,(lf3 p)),(6,(lf6 p)),(7,(lf8 p)),(9,(lf10 p)),(10,(lf11 p)),(11,(lf12 p)),(13,(lf13 p))],[⟨2,33,dL g 0 1,none⟩,⟨5,33,dL g 3 4,none⟩,⟨8,33,dL g 6 7,none⟩,⟨12,31,numC g 11,none⟩],
  fun i=>([0,0,5,0,0,5,0,0,5,0,1,1,0,0,0,0,0]:List Nat).getD i 0,fun i=>([[],[],[0,1],[],[],[3,4],[],[],[6,7],[6,7,8],[3,4,5,6,7,8,9],[0,1,2,3,4,5,6,7,8,9,10],[0,1,2,3,4,5,6,7,8,9,10,11],[0,1,2,3,4,5,6,7,8,9,10,11,12],[0,1,2,3,4,5,6,7,8,9,10,11,12],[0,1,2,3,4,5,6,7,8,9,10,11,12,13],[0,1,2,3,4,5,6,7,8,9,10,11,12,14]]:List (List Nat)).getD i [],[(8,.w (.c (.ptr 2 0))),(12,.w (.c (.ptr 8 0))),(9,.w (.c (.ptr 5 0)))]⟩)
  (W:=runW (bs w) g) (ν0:=fun n=>([n1,n2,b3,n4,n5,b6,n13,n17,b18]:List Nat).getD n 0) (c0:=33)
  (fs:=fun ν=>[(81,bP g (ν 0) (ν 1)),(82,bP g (ν 6) (ν 7)),(83,numV g (ν 9)),(84,bP g (ν 0) (ν 1)),(85,bP g (ν 3) (ν 4)),(86,numV g (ν 10)),(87,bP g (ν 3) (ν 4)),(88,bP g (ν 6) (ν 7)),(89,numV g (ν 11)),(90,.slice (some ⟨(ν 12),0,none⟩) 1 1),(91,numV g (ν 13)),(92,.tuple #[(.int .i64 0),.nilIface]),(80,.tuple #[(.int .i64 0),.nilIface]),(93,(.int .i64 0)),(94,.nilIface),(15,(.int .i64 0)),(16,.nilIface)]) 17 50 [true,true,true,true,true,true,false] [false]
  ⟨Spec.wf_of (by kernel_rfl),aU (by kernel_rfl),aM ⟨rfl,rfl,rfl,trivial⟩⟩ R6.out (Run.nodup R6.out) (by decide)
  (fun b hM=>aA (aA (aA (aA (aA (aA (aA (aA (aA (aA (aA (aA (aA (aA (aA (aA (aA aO
    (aP b 4 m0))
    (aP b 4 m2))
    (aI b (xO hM m0 m1 rfl rfl m4 m5 rfl rfl rfl rfl rfl rfl)))
    (aP b 4 m0))
    (aP b 4 m1))
    (aI b (xO hM m0 m1 rfl rfl m2 m3 rfl rfl rfl rfl rfl rfl)))
    (aP b 4 m1))
    (aP b 4 m2))
    (aI b (xO hM m2 m3 rfl rfl m4 m5 rfl rfl rfl rfl rfl rfl)))
    (dY b m3))
    (aI b (ab6 hM m7 m8 rfl rfl m3 rfl rfl rfl rfl rfl rfl rfl rfl)))
    (aI b (anT hM m6 m9 rfl rfl rfl rfl rfl TT.out.2)))
    (aB b))
    (aB b))
    (aB b))
    (aB b))
    (aB b)) ?_
 intro ν W7 hν hR;replace hR:Run (bs w) g 50 [((lf0 p),ν 0),((lf1 p),ν 1),((lf2 p),ν 3),((lf3 p),ν 4),((lf6 p),ν 6),((lf8 p),ν 7),((lf10 p),ν 9),((lf11 p),ν 10),((lf12 p),ν 11),((lf13 p),ν 13)] [((ν 2),dS g (ν 0) (ν 1)),((ν 5),dS g (ν 3) (ν 4)),((ν 8),dS g (ν 6) (ν 7)),((ν 12),numO g (ν 11))] W7:=hR;have e0:ν 0=n1:=hν 0 rfl;have e1:ν 1=n2:=hν 1 rfl;have e2:ν 2=b3:=hν 2 rfl;have e3:ν 3=n4:=hν 3 rfl;have e4:ν 4=n5:=hν 4 rfl;have e5:ν 5=b6:=hν 5 rfl;have e6:ν 6=n13:=hν 6 rfl;have e7:ν 7=n17:=hν 7 rfl;have e8:ν 8=b18:=hν 8 rfl;simp only[e0,e1,e2,e3,e4,e5,e6,e7,e8]at hR|-;clear hν e0 e1 e2 e3 e4 e5 e6 e7 e8;generalize ν 9=n20 at hR|-;generalize ν 10=n21 at hR|-;generalize ν 11=n22 at hR|-;generalize ν 12=b23 at hR|-;generalize ν 13=n24 at hR|-;have R7:=hdd hR;clear hR R6;simp only[putL,biD,biE];have HB:=hdd R7.out.below;clear R7;go_wp2;go_ret;exact⟨rfl,HB.out⟩
end Go.Proofs.YtjaafolhfihegaaGreatDoor
