/- A part of the proof: contracts of functions and plain laws (QlL, FltC, FeC, SnB, MtB, MtC, QlM, QlN, OpA, TwD, MwA, AfC, FlH, FlI, AfG, AfH, LiB, LiC, FwA, FwB, LtA, GrA, MtD, AlvE). -/
import Derived.Test.YtkpodipoegbclaaGreatDoorK41
import Derived.Test.YtkpodipoegbclaaGreatDoorK45
import Derived.Test.YtkpodipoegbclaaGreatDoorK08
import Derived.WalkKit
import Derived.Laws.NewFold
import Derived.Test.YtkpodipoegbclaaGreatDoorK42
import Derived.Test.YtkpodipoegbclaaGreatDoorK17
import Derived.IntWalk
import Derived.Deep.DeepCutAuto
import Derived.Test.YtkpodipoegbclaaGreatDoorK13
import Derived.Test.YtkpodipoegbclaaGreatDoorK11
set_option linter.unusedVariables false
set_option linter.unusedSimpArgs false
set_option maxHeartbeats 25600000
set_option maxRecDepth 100000
namespace Go.Proofs.YtkpodipoegbclaaGreatDoor
section
open Go.RowKit Go.Maps
open Re (rat ofI ofN)
theorem Fit.sign {P:Ex->Prop}{L:List Ex}{s:Sh}{a:Ex}{q:Rat}{v:Int}(h:Fit L s a (rat q))(c:Nat)(hc:0<c)(hq:q*(c:Rat)=(v:Rat))(hs:(s.ok L.length&&s.top L.length)=true):gM P a v.sign:=by
 have hc':(0:Rat)<(c:Rat):=by rw[<-Rat.intCast_natCast];exact Rat.intCast_pos.2 (by omega)
 rcases Int.lt_trichotomy v 0 with g|g|g
 . rw[Int.sign_eq_neg_one_iff_neg.2 g]
   refine h.neg ?_ hs;apply Classical.byContradiction;intro k;have h1:0<=q*(c:Rat):=Rat.mul_nonneg (by grind) (by grind);rw[hq]at h1;have h2:(v:Rat)<((0:Int):Rat):=Rat.intCast_lt_intCast.2 g;have h3:((0:Int):Rat)=0:=rfl;grind
 . rw[g]
   refine h.zero ?_ hs;rw[g]at hq;rcases Rat.mul_eq_zero.1 (hq.trans (show((0:Int):Rat)=0 from rfl))with k|k
   . exact k
   . grind
 . rw[Int.sign_eq_one_iff_pos.2 g]
   refine h.pos ?_ hs;apply Classical.byContradiction;intro k;have h1:0<=-q*(c:Rat):=Rat.mul_nonneg (by grind) (by grind);have h2:((0:Int):Rat)<(v:Rat):=Rat.intCast_lt_intCast.2 g;have h3:((0:Int):Rat)=0:=rfl;grind
def Iw(b:Nat)(T:Int):Prop:=FlOk b/\fv b=T*(U74:Int)
end
section
open Ieee
variable{x:Nat}
theorem aqM(h:fin x):double.sub x x=some 0:=by
 obtain⟨m,p,e,-,-⟩:=fK h;unfold Format.sub;rw[e];have h1:(Datum.number (fneg x) m p).sum (Datum.number (fneg x) m p).opposite=some (.number false 0 p):=by
  cases fneg x<;>simp[Datum.opposite,Datum.sum,signed]<;>omega
 rw[h1];show some (double.nearest false 0 p)=some 0;rw[kV];rfl
theorem aqN(h:¬fin x):double.sub x x=none:=by
 unfold Format.sub
 cases e:double.read x with
 |nan s f=>rfl
 |infinity s=>cases s<;>rfl
 |number s m p=>
  exfalso;have h':¬x%2^63<2047*2^52:=h;unfold Format.read at e;simp only[qG,jY,nT,kU]at e;rw[if_neg (by omega),if_neg (by omega)]at e
  split at e<;>cases e
theorem arO{r:Nat}(h:infR<rung r):double.order r 0=none:=by
 have h':2047*2^52<r%2^63:=h;have:∃s f,double.read r=.nan s f:=by
  unfold Format.read;simp only[qG,jY,nT,kU];rw[if_neg (by omega),if_neg (by omega),if_neg (by omega)];exact⟨_,_,rfl⟩
 obtain⟨s,f,e⟩:=this;unfold Format.order;rw[e];rfl
theorem aoO{P:Program}(h:fin x)(t:TypeId)(w:World):(binOp .sub t (.float .f64 x) (.float .f64 x)).run P w=.ok (.float .f64 0) w:=
 run_float_arith w .sub t .f64 x x 0 (aqM h)
theorem apO{P:Program}(h:¬fin x)(t:TypeId)(w:World):∃r,(binOp .sub t (.float .f64 x) (.float .f64 x)).run P w=.ok (.float .f64 r) w.drew/\double.order r 0=none:=by
 have hs:FloatKind.f64.format.sub x x=none:=aqN h;refine⟨(Question.nanBits .f64 x x).cut (w.tape w.drawn (Question.nanBits .f64 x x)),?_,arO ?_⟩
 . simp[binOp,Op.floatArith,hs,Question.forced]
 . unfold rung infR
   simp only[Question.cut];generalize w.tape w.drawn (Question.nanBits .f64 x x)=t;have hu:t%2<2:=Nat.mod_lt _ (by decide);have hv:t/2%(2^52-1)<2^52-1:=Nat.mod_lt _ (by decide);generalize t%2=u at hu;generalize t/2%(2^52-1)=v at hv;have:u=0\/u=1:=by omega
   rcases this with rfl|rfl<;>omega
end
section
open Go.RowKit Go.Maps Ieee
section
variable{x y:Nat}{a b:Int}
end
theorem Iw.fit {b:Nat}{T:Int}{L:List Ex}(h:Iw b T)(n:Nat)(hT:T.natAbs<2^n)(hn:n<=53):Fit L (.leaf n 0) (.leaf b) (Re.rat (T:Rat)):=Fit.leaf n h.1.1 h.1.2 h.2 hT
end
section
open Go.RowKit Go.Maps
open List renaming setIfInBounds_toArray->av8,map_cons->av9,map_nil->awC,set->awD
abbrev arE(a b c:Nat)(x y:Ex):Ex:=.sub (.add (.mul (.sub x (.leaf a)) (.sub x (.leaf a))) (.mul (.sub y (.leaf b)) (.sub y (.leaf b)))) (.leaf c)
theorem asO{g i j ca cb cc:Nat}{X Y:Ex}(h1:ao4 ca cb cc):FnOk 130 g 9 #[.pointer (some ⟨g,0,none⟩),curV 2 ca cb cc,aoP g i j] [(X,i),(Y,j)] (fun ks=>numV g (ks.getD 0 0)) [arE ca cb cc X Y]:=FnOk.of fun w B ns N hR hN=>by
 have R1:=hdd hR;clear hR;go_enter Tryz.func130,Tryz.ntmps130
 go_upto_region 0 with fail
 refine Spec.go [.w (.c (.ptr 2 0)),.w (.c (.ptr 3 0)),.w (.c (.ptr 4 0))] [0,1,2]
  [(0,X),(1,Y)] [⟨2,67,curC 2 ca cb cc,none⟩,⟨3,69,aoU g 0 1,none⟩,⟨4,26,[.v (.pointer none),.v (.int .i64 0)],none⟩]
  [0,0,0] [[],[],[]] [(1,.w (.agg ([.v (.int .i64 2),.v (.float .f64 ca),.v (.float .f64 cb),.v (.float .f64 cc)]))),(2,ap1 g 0 1)]
  [5,6,7] [i,j] 3 N [] [] R1.out
  (fun b hM=>aoB (aoB (aoB aoF
    (aoE b m0))
    (aoE b m1))
    (aoE b m2)) ?_
 intro b1 b2 b3 ν W2 hR;have R2:=hdd hR;clear hR R1;simp only[putL,av8,awD,fs0,fs1,fsn,dSw,dSt,dWc,dWa,dv,di,dp,ds',av9,awC,nuTn,nuT0,nuT1,nuU0,nuU1]
 go_upto_region 1 with fail
 refine Spec.go [.w (.c (.ptr 3 0)),numS g 0,.w (.c (.v (.pointer (some ⟨g,0,none⟩)))),.w (.c (.ptr 2 1)),.w (.c (.v (.float .f64 ca))),numS g 5,numS g 6,.w (.c (.ptr 7 0)),noS] [5,6,7]
  [(0,X),(1,Y),(5,(.leaf ca)),(6,(.sub X (.leaf ca)))] [⟨2,67,curC 2 ca cb cc,none⟩,⟨3,69,aoU g 0 1,none⟩,⟨4,26,[.v (.pointer none),.v (.int .i64 0)],none⟩,⟨7,26,[.v (.pointer none),.v (.int .i64 0)],some (8,numC g 6)⟩]
  [0,0,0,0,0,1,1,0,0] [[],[0],[],[],[3],[2,3,4],rgn 6,[],rgn 8] [(5,.w (.c (.ptr 3 0))),(0,.w (.c (.v (.pointer (some ⟨g,0,none⟩))))),(4,.w (.c (.ptr 2 0)))]
  [10,11,12,13,14,15,16,8,0] [i,j,b1,b2,b3] 9 (N+2) [] [] R2.out
  (fun b hM=>aoB (aoB (aoB (aoB (aoB (aoB (aoB (aoB (aoB aoF
    (aoC b))
    (aoG b 2 m1))
    (aoC b))
    (aoC b))
    (aoJ b m0))
    (aoD b (c_of hM h1.1.1 h1.1.2 rfl rfl rfl rfl)))
    (aoD b (aqC hM m0 m2 rfl rfl rfl rfl rfl rfl)))
    (aoE b m3))
    (aoH b 2 m3)) ?_
 intro n4 n5 b6 ν W3 hR;have R3:=hdd hR;clear hR R2;simp only[putL,av8,awD,fs0,fs1,fsn,dSw,dSt,dWc,dWa,dv,di,dp,ds',av9,awC,nuTn,nuT0,nuT1,nuU0,nuU1]
 go_upto_region 2 with fail
 refine Spec.go [.w (.c (.ptr 3 2)),numS g 1,.w (.c (.v (.pointer (some ⟨g,0,none⟩)))),.w (.c (.ptr 2 2)),.w (.c (.v (.float .f64 cb))),numS g 7,numS g 8,.w (.c (.ptr 9 0)),noS] [5,6,7]
  [(0,X),(1,Y),(5,(.sub X (.leaf ca))),(7,(.leaf cb)),(8,(.sub Y (.leaf cb)))] [⟨2,67,curC 2 ca cb cc,none⟩,⟨3,69,aoU g 0 1,none⟩,⟨4,26,[.v (.pointer none),.v (.int .i64 0)],none⟩,⟨6,26,numC g 5,none⟩,⟨9,26,[.v (.pointer none),.v (.int .i64 0)],some (8,numC g 8)⟩]
  [0,0,0,0,0,1,1,0,0] [[],[0],[],[],[3],[2,3,4],rgn 6,[],rgn 8] [(5,.w (.c (.ptr 3 0))),(0,.w (.c (.v (.pointer (some ⟨g,0,none⟩))))),(4,.w (.c (.ptr 2 0)))]
  [17,18,19,20,21,22,23,9,0] [i,j,b1,b2,b3,n5,b6] 9 (N+4) [true,true,false] [] R3.out
  (fun b hM=>aoB (aoB (aoB (aoB (aoB (aoB (aoB (aoB (aoB aoF
    (aoC b))
    (aoG b 2 m1))
    (aoC b))
    (aoC b))
    (aoJ b m0))
    (aoD b (c_of hM h1.2.1.1 h1.2.1.2 rfl rfl rfl rfl)))
    (aoD b (aqC hM m1 m3 rfl rfl rfl rfl rfl rfl)))
    (aoE b m4))
    (aoH b 2 m4)) ?_
 intro n7 n8 b9 ν W4 hR;have R4:=hdd hR;clear hR R3;simp only[putL,av8,awD,fs0,fs1,fsn,dSw,dSt,dWc,dWa,dv,di,dp,ds',av9,awC,nuTn,nuT0,nuT1,nuU0,nuU1]
 go_upto_region 3 with fail
 refine Spec.go [numS g 2,numS g 2,.w (.c (.sl 6 1)),numS g 7,numS g 4,numS g 4,.w (.c (.sl 8 1)),numS g 9,.w (.c (.sl 10 1)),numS g 11,.w (.c (.v (.pointer (some ⟨g,0,none⟩)))),.w (.c (.ptr 0 3)),.w (.c (.v (.float .f64 cc))),numS g 12,numS g 13,noS] [2,3,6,7,8,9,13,14]
  [(2,(.sub X (.leaf ca))),(4,(.sub Y (.leaf cb))),(7,(.mul (.sub X (.leaf ca)) (.sub X (.leaf ca)))),(9,(.mul (.sub Y (.leaf cb)) (.sub Y (.leaf cb)))),(11,(.add (.mul (.sub X (.leaf ca)) (.sub X (.leaf ca))) (.mul (.sub Y (.leaf cb)) (.sub Y (.leaf cb))))),(12,(.leaf cc)),(13,(.sub (.add (.mul (.sub X (.leaf ca)) (.sub X (.leaf ca))) (.mul (.sub Y (.leaf cb)) (.sub Y (.leaf cb)))) (.leaf cc)))] [⟨0,67,curC 2 ca cb cc,none⟩,⟨1,26,[.v (.pointer none),.v (.int .i64 0)],some (15,numC g 13)⟩,⟨3,26,numC g 2,none⟩,⟨5,26,numC g 4,none⟩,⟨6,26,numC g 2,none⟩,⟨8,26,numC g 4,none⟩,⟨10,26,numC g 9,none⟩]
  [0,0,0,1,0,0,0,1,0,1,0,0,0,1,1,0] [[],[],[1],[0,1,2],[],[],[5],[4,5,6],[4,5,6,7],rgn 9,[],[],[11],[10,11,12],rgn 14,rgn 15] [(7,.w (.c (.ptr 3 0))),(8,.w (.c (.ptr 5 0))),(0,.w (.c (.v (.pointer (some ⟨g,0,none⟩))))),(4,.w (.c (.ptr 0 0))),(6,.w (.c (.ptr 1 0)))]
  [24,25,26,27,28,29,30,31,32,33,34,35,36,37,38,0] [b1,b3,n5,b6,n8,b9] 16 (N+9) [false,false,true,false] [true,false] R4.out
  (fun b hM=>aoB (aoB (aoB (aoB (aoB (aoB (aoB (aoB (aoB (aoB (aoB (aoB (aoB (aoB (aoB (aoB aoF
    (aoG b 2 m2))
    (aoG b 2 m2))
    (aoK b m4))
    (aoD b (aqD hM m0 m0 rfl rfl m4 rfl rfl rfl rfl rfl rfl rfl rfl)))
    (aoG b 2 m3))
    (aoG b 2 m3))
    (aoK b m5))
    (aoD b (aqD hM m1 m1 rfl rfl m5 rfl rfl rfl rfl rfl rfl rfl rfl)))
    (aoK b m6))
    (aoD b (atE hM m2 m3 rfl rfl m6 rfl rfl rfl rfl rfl rfl rfl rfl)))
    (aoC b))
    (aoC b))
    (aoJ b m0))
    (aoD b (c_of hM h1.2.2.1.1 h1.2.2.1.2 rfl rfl rfl rfl)))
    (aoD b (aqC hM m4 m5 rfl rfl rfl rfl rfl rfl)))
    (aoH b 2 m1)) ?_
 intro b10 n11 b12 n13 b14 n15 n16 n17 ν W5 hR;replace hR:Run ⟨w,B,ns⟩ g (N+9) [((.sub X (.leaf ca)),n5),((.sub Y (.leaf cb)),n8),((.mul (.sub X (.leaf ca)) (.sub X (.leaf ca))),n11),((.mul (.sub Y (.leaf cb)) (.sub Y (.leaf cb))),n13),((.add (.mul (.sub X (.leaf ca)) (.sub X (.leaf ca))) (.mul (.sub Y (.leaf cb)) (.sub Y (.leaf cb)))),n15),((.leaf cc),n16),((.sub (.add (.mul (.sub X (.leaf ca)) (.sub X (.leaf ca))) (.mul (.sub Y (.leaf cb)) (.sub Y (.leaf cb)))) (.leaf cc)),n17)] [(b1,.cells #[(.int .i64 2),(.float .f64 ca),(.float .f64 cb),(.float .f64 cc)] 67),(b3,numO g n17),(b6,numO g n5),(b9,numO g n8),(b10,numO g n5),(b12,numO g n8),(b14,numO g n13)] W5:=hR;have R5:=hdd hR;clear hR R4;simp only[putL,av8,awD,fs0,fs1,fsn,dSw,dSt,dWc,dWa,dv,di,dp,ds',av9,awC,nuTn,nuT0,nuT1,nuU0,nuU1];go_wp2;obtain⟨x0,x1,-,-⟩:=aB (R5.out.at m1);refine bodyPost_ret (v:=.agg #[_,_]) (by simp[results,Tryz.results130,go_sem,x0,x1];first|exact⟨rfl,rfl⟩|rfl) rfl ?_
 exact⟨[n17],rfl,rfl,_,R5.out.few (aoM [6])⟩
section
variable(U V W:Ex)(a b c:Nat)
end
end
section
open Go.RowKit Go.Maps
open Re (rat ofI ofN)
abbrev w3:Nat:=4613937818241073152
abbrev w4:Nat:=4616189618054758400
section
variable{u v w a b c se sn:Sh}{U V W:Ex}{A B C:Nat}{p q r x y e n z:Rat}
end
abbrev cL:Ct:=⟨40,65464,21,13,71051⟩
section
variable(a b u v s:Rat)
end
end
section
open Go.RowKit Go.Maps
section
variable{P:Program}{ρ:Operand->Value}{o:Oper}{t t2:TypeId}{x y:Operand}{a b v:Value}{w:World}
end
end
section
open Go.RowKit Go.Maps Go.Stop Go.Extern
abbrev w1:Nat:=4607182418800017408
theorem iw_1:Iw w1 1:=⟨⟨by decide,by decide⟩,atT⟩
theorem atU{b:Nat}{T:Int}(h:Iw b T)(h0:T≠0):fv b≠0:=by
 rw[h.2];exact Int.mul_ne_zero h0 (by have:=as4;omega)
end
section
open Go.RowKit Go.Maps Ieee
open Re (rat ofI ofN)
variable{L:List Ex}{a b c v:Nat}
theorem as9(hf:fin v):∃(x:Int) (e:Nat),x.natAbs<2^53/\fv v=x*(2^e:Nat)/\e<=2046:=by
 have hr:(sr v).natAbs<infR:=by
  have h:rung v<infR:=hf;have:(sr v).natAbs=rung v:=by unfold sr;split<;>omega
  omega
 obtain⟨m,e,h1,h2,h3⟩:∃m e,m<2^53/\mg (sr v).natAbs=m*2^e/\e<=2046:=by
  rcases Nat.lt_or_ge (sr v).natAbs (2^52)with h|h
  . exact⟨_,0,Nat.lt_trans h (by decide),by rw[jZ _ (by omega),Nat.pow_zero,Nat.mul_one],by omega⟩
  . exact⟨_,_,by omega,iQ _ h,by unfold infR at hr;omega⟩
 unfold fv fvr;rw[h2]
 split
 . exact⟨-(m:Int),e,by omega,by rw[Int.natCast_mul,Int.neg_mul],h3⟩
 . exact⟨(m:Int),e,by omega,by rw[Int.natCast_mul],h3⟩
theorem atA(hf:fin v):Sz 53 1100 (aW v)/\jH v<=1100/\jI v<=1100/\Am 1100 (rv (aW v)):=by
 obtain⟨x,e,h1,h2,h3⟩:=as9 hf;have hD:aW v=mkDy x ((e:Int)-1074):=by
  unfold aW;rw[h2];have:=ajI x ((e:Int)-1074) e;rwa[show(e:Int)-1074-(e:Int)=-1074 by omega]at this
 have hb:bits (aW v).man.natAbs<=53:=by rw[hD];exact Nat.le_trans (pJ x _) ((aD _ _).2 h1)
 have ht:(aW v).man≠0->-1074<=(aW v).exp/\topD (aW v)<=1100:=fun hn=>by
  have hx:x≠0:=by
   rintro rfl;rw[hD]at hn;exact hn (by rw[aU])
  refine⟨by rw[hD]at hn|-;have:=mF hn;omega,?_⟩;rw[hD,zQ hx];have:bits x.natAbs<=53:=(aD _ _).2 h1;omega
 refine⟨⟨by rw[hD];exact Canon.mk _ _,by omega,fun hn=>by have:=ht hn;omega⟩,?_,?_,?_⟩
 . unfold jH;split
   . omega
   . rename_i hn
     have h4:=ht hn;unfold topD at h4;rw[if_neg hn]at h4;omega
 . unfold jI;split
   . omega
   . rename_i hn;have:=ht hn;omega
 . obtain⟨r1,r2⟩:=ajR (aW v)
   have h5:topD (aW v)<=1100:=by
    by_cases hn:(aW v).man=0
    . unfold topD;rw[if_pos hn];omega
    . exact(ht hn).2
   have:=iL h5;exact⟨by grind,by grind⟩
abbrev ctG1:Ct:=⟨1100,65536,1100,1100,1100⟩
theorem Fit.gleaf (h:FlOk b):Fit L (.lit ctG1 1100) (.leaf b) (rat (rv (aW b))):=fun _=>by
 obtain⟨h1,h2,h3,h4⟩:=atA h.2;exact⟨Vl.leaf h.2 h.1 h1 h4 h2 h3,by simp only[cO,Sh.cost];omega,AllGd.leaf b⟩
theorem aq0:Fit L (.leaf 1 0) (.leaf 0) (rat ((0:Int):Rat)):=Iw.fit (b:=0) (T:=0) ⟨⟨by decide,by decide⟩,asN⟩ 1 (by decide) (by decide)
theorem asP(ha:FlOk a)(hb:FlOk b)(hc:FlOk c):∃q,gM PT (aqZ (.leaf 0) (.leaf 0) a b c) q:=
 ⟨_,((((Fit.gleaf (L:=[]) ha).rmul aq0).radd ((Fit.gleaf hb).rmul aq0)).rsub (Fit.gleaf hc)).sgn (by kernel_rfl)⟩
theorem asQ(ha:FlOk a)(hb:FlOk b)(hc:FlOk c):∃q,gM PT (arE a b c (.leaf 0) (.leaf 0)) q:=
 ⟨_,(((((aq0 (L:=[])).rsub (Fit.gleaf ha)).rmul (aq0.rsub (Fit.gleaf ha))).radd ((aq0.rsub (Fit.gleaf hb)).rmul (aq0.rsub (Fit.gleaf hb)))).rsub (Fit.gleaf hc)).sgn (by kernel_rfl)⟩
theorem arF:aqB PT (.leaf 0) (.leaf 0) (.leaf 0) (.leaf 0) 0:=by
 have h:gM PT (.sub (.leaf 0) (.leaf 0)) 0:=by
  have:=((aq0 (L:=[])).rsub aq0).sign (P:=PT) (v:=0) 1 (by decide) (by push_cast;grind) (by kernel_rfl);exact this
 exact⟨0,0,trivial,h,fun _=>⟨trivial,h⟩,rfl⟩
end
section
open Go.RowKit Go.Maps Go.Stop Go.Extern
open List renaming mem_cons_self->awE,setIfInBounds_toArray->awF,map_cons->awG,map_nil->awH,set->awI
variable{q:Int}{K:List (Ex×Nat)}{L:List (Nat×Obj)}{x y:Nat}
section
variable{P:Ex->Prop}{B N:Nat}{w W:World}{g:Nat}{ns ns':List Nd}{l:List (Nat×Obj)}
end
theorem acD{w:World}{k i:Int}(h1:1<=k)(h2:k<=7):
 Calls Tryz.prog 72 #[.int .i64 i,.iface 124 (.int .i64 k)] w (an9 w k):=by
 have hb:Below w.heap.size w (w.alloc (.cells #[.int .i64 i,.iface 124 (.int .i64 k)] 123)):=Below.alloc (Below.refl _ _) nlr _;have HE:Hid (ErK (jW w (w.alloc (.cells #[.int .i64 i,.iface 124 (.int .i64 k)] 123))) (w.alloc (.cells #[.int .i64 i,.iface 124 (.int .i64 k)] 123)) (0+1) (.iface 117 (.pointer (some ⟨w.heap.size,0,none⟩))) k):=hdd (.att ⟨Nat.le_refl _,by simp⟩ (by simp) (.kind h1 h2));have HB:=hdd hb;clear h1 h2 hb;go_enter Tryz.func72,Tryz.ntmps72
 go_wp2;go_ret;exact⟨_,_,rfl,by omega,HE.out,HB.out⟩
theorem arP{w:World}{g val:Nat}(hv:val<18446744073709551616)(hf:¬fin val):
 Calls Tryz.prog 183 #[.pointer (some ⟨g,0,none⟩),.agg #[.int .i64 0,.float .f64 val,.int .i64 0,.int .i64 0]] w (RetV w (.bool false)):=by
 obtain⟨w1,hw1,hb1,hs1,b1⟩:=pro1 w (.cells #[.int .i64 0,.float .f64 val,.int .i64 0,.int .i64 0] 137);obtain⟨c0,c1,c2,c3⟩:=aY b1;have HV:=hdd (afU (w:=w1) (n:=⟨0,val,0,0⟩) (Or.inl ⟨rfl,rfl,rfl⟩));have HB:=hdd hb1;have HF:Hid (∀w',Calls Tryz.prog 175 #[.float .f64 val] w' (RetB w' false)):=hdd fun w'=>by have:=jD (w:=w') hv;rwa[decide_eq_false hf]at this
 clear hb1 hs1 b1 hv hf;dsimp only at HV;go_enter Tryz.func183,Tryz.ntmps183
 go_wp2_with fail
 refine HV.out.mono ?_;rintro e w3⟨rfl,hb3⟩;replace c0:=cbl c0 hb3;replace c1:=cbl c1 hb3;have HB3:=hdd (aA HB.out hb3);clear hb3;go_wp2_with fail
 refine(HF.out _).mono ?_;rintro e w4⟨rfl,hw⟩;obtain rfl:=hw;go_wp2;go_ret;exact⟨rfl,HB3.out⟩
theorem atC{w:World}{g val:Nat}{ns:List Nd}(hd:DagP w g ns)(hv:val<18446744073709551616)(hf:¬fin val):
 Calls Tryz.prog 138 #[.pointer (some ⟨g,0,none⟩),.agg #[.int .i64 0,.float .f64 val,.int .i64 0,.int .i64 0]] w (wJ w (.int .i64 (-1)) 1):=by
 obtain⟨w1,hw1,hb1,hs1,b1⟩:=pro1 w (.cells #[.int .i64 0,.float .f64 val,.int .i64 0,.int .i64 0] 137);obtain⟨c0,c1,c2,c3⟩:=aY b1;have HT:=hdd (arP (w:=w1) (g:=g) hv hf);obtain⟨A,c,g0,-,-,-⟩:=(hd.below hb1).slice;have HB:=hdd hb1;have HLN:=hdd hd.len;have hlI:(ns.length:Int)<=20000:=by have:=hd.len;omega
 have hl0:(0:Int)<=(ns.length:Int):=by omega
 have HNE:Hid (∀w' (i:Int),Calls Tryz.prog 72 #[.int .i64 i,.iface 124 (.int .i64 1)] w' (an9 w' 1)):=hdd fun w' i=>acD (by omega) (by omega);clear hd hb1 hs1 b1 hv hf;go_enter Tryz.func138,Tryz.ntmps138
 go_wp2_with fail
 refine HT.out.mono ?_;rintro e w2⟨rfl,hb2⟩;have hbd:=aA hb2 (Below.refl _ _).drew;replace g0:=cbl g0 hbd;have HB2:=hdd (aA HB.out hbd);clear hb2 hbd c0 c1 c2 c3;go_wp2_with fail
 go_region_held3 (fun w'=>w'.cell? ⟨g,0,none⟩=some (.slice A ns.length c)) (go_keep)
  (first
  |(go_at_call 37
    refine wU.mono ?_;rintro e w3⟨rfl,rfl⟩)
  |(go_at_call 72
    refine(HNE.out _ _).mono ?_;rintro e w4⟨er,n,rfl,hn,he,hb4⟩;have g0:=cbl g0 hb4;have HE:=hdd (And.intro hn (he.mono (T:=jW w w4) fun b hb _=>⟨Nat.le_trans HB2.out.size hb.1,hb.2⟩));have HB4:=hdd (aA HB2.out hb4);clear hn he hb4))
 all_goals go_wp2_with fail
 all_goals go_ret2
 all_goals exact⟨_,_,rfl,HE.out.1,HE.out.2,HB4.out⟩
theorem arQ{w:World}{g val:Nat}{ns:List Nd}(hd:DagP w g ns)(hv:val<18446744073709551616)(hf:¬fin val):
 Calls Tryz.prog 87 #[.pointer (some ⟨g,0,none⟩),.agg #[.int .i64 0,.float .f64 val,.int .i64 0,.int .i64 0]] w (RetV w (.int .i64 (-1))):=by
 obtain⟨w1,hw1,hb1,hs1,b1⟩:=pro1 w (.cells #[.int .i64 0,.float .f64 val,.int .i64 0,.int .i64 0] 137);obtain⟨c0,c1,c2,c3⟩:=aY b1;have HP:=hdd (atC (hd.below hb1) hv hf);have HB:=hdd hb1;clear hd hb1 hs1 b1 hv hf;go_enter Tryz.func87,Tryz.ntmps87
 go_wp2_with fail
 refine HP.out.mono ?_;rintro e w2⟨er,n,rfl,-,-,hb2⟩;have HB2:=hdd (aA HB.out hb2);clear hb2;go_wp2;go_ret;exact⟨rfl,HB2.out⟩
theorem asR{w:World}{g val:Nat}{ns:List Nd}(hd:DagP w g ns)(hv:val<18446744073709551616)(hf:¬fin val):
 Calls Tryz.prog 42 #[.pointer (some ⟨g,0,none⟩),.float .f64 val] w (RetV w (.int .i64 (-1))):=by
 have HP:=hdd (arQ hd hv hf);clear hd hv hf;go_enter Tryz.func42,Tryz.ntmps42
 go_wp2_with fail
 refine HP.out.mono ?_;rintro e w2⟨rfl,hb2⟩;have HB2:=hdd hb2;clear hb2;go_wp2;go_ret;exact⟨rfl,HB2.out⟩
theorem aqO{w:World}{g val:Nat}{ns:List Nd}(hd:DagP w g ns)(hv:val<18446744073709551616)(hf:¬fin val):
 Calls Tryz.prog 9 #[.pointer (some ⟨g,0,none⟩),.float .f64 val] w (RetV w (.agg #[.pointer (some ⟨g,0,none⟩),.int .i64 (-1)])):=by
 obtain⟨w1,hw1,hb1,hs1,b1⟩:=pro1 w (.cells #[.pointer none,.int .i64 0] 26);have HP:=hdd (asR (hd.below hb1) hv hf);have HB:=hdd hb1;have HB1:=hdd b1;clear hd hv hf hb1 hs1 b1;go_enter Tryz.func9,Tryz.ntmps9
 go_wp2_with fail
 refine HP.out.mono ?_;rintro e w2⟨rfl,hb2⟩;have b2:=hbl HB1.out hb2;obtain⟨c0,c1,f0,f1⟩:=aB b2;have HG:=hdd (set2 b2 (.pointer (some ⟨g,0,none⟩)) (.int .i64 (-1)));have HF:Hid (∀u v,Below w.heap.size w ((w2.setCell ⟨w.heap.size,0,none⟩ u).setCell ⟨w.heap.size,1,none⟩ v)):=hdd fun u v=>((aA HB.out hb2).setCell nlr u).setCell nlr v;clear hb2 b2;go_wp2;obtain⟨x0,x1,-,-⟩:=aB HG.out;refine bodyPost_ret (v:=.agg #[_,_]) (by simp[results,Tryz.results9,go_sem,x0,x1];first|exact⟨rfl,rfl⟩|rfl) rfl ?_;exact⟨rfl,HF.out _ _⟩
theorem Run.dagp {s:Bs}{g N:Nat}{W:World}(h:Run s g N K L W):∃ns,DagP W g ns:=by obtain⟨ns,hs,-⟩:=h;exact⟨ns,hs.st.dag⟩
theorem Run.sput {s:Bs}{g N b:Nat}{W:World}{T:TypeId}{a c d e:Value}(h:Run s g N K ((b,.cells #[a,c,d,e] T)::L) W)(x y z u:Value):Run s g N K ((b,.cells #[x,y,z,u] T)::L) ((((W.setCell ⟨b,0,none⟩ x).setCell ⟨b,1,none⟩ y).setCell ⟨b,2,none⟩ z).setCell ⟨b,3,none⟩ u):=
 h.write (grownBy_set (grownBy_set (grownBy_set (grownBy_set (sN W (some b)) x) y) z) u) (set4 (h.at (awE ..)) x y z u)
theorem FnOk.wide {f:FuncId}{g d d':Nat}{av:Array Value}{K0 K1:List (Ex×Nat)}{V:List Nat->Value}{es:List Ex}(F:FnOk f g d av K0 V es)(h:d<=d')(hk:∀p∈K0,p∈K1):FnOk f g d' av K1 V es:=fun s N K l W hR hN hK=>
 (F s N K l W hR (by omega) (fun p hp=>hK p (hk p hp))).mono fun _ _ ⟨ks,h1,h2,h3⟩=>⟨ks,h1,h2,h3.more (by omega)⟩
theorem atV{g:Nat}(hx:x<18446744073709551616)(hy:y<18446744073709551616)(fx:¬fin x)(fy:fin y):FnOk 33 g 2 #[.pointer (some ⟨g,0,none⟩),.float .f64 x,.float .f64 y] [] (fun ks=>.agg #[.pointer (some ⟨g,0,none⟩),.int .i64 (-1),.pointer (some ⟨g,0,none⟩),.int .i64 ((ks.getD 0 0:Nat):Int)]) [.leaf y]:=FnOk.of fun w B ns N hR hN=>by
 obtain⟨w1,hw1,b1,h1⟩:=hR.box1 (.cells #[.pointer none,.int .i64 0,.pointer none,.int .i64 0] 69);have R1:=hdd h1;have HX:=hdd (And.intro hx hy);have HFx:=hdd fx;have HFy:=hdd fy;have HN:=hdd hN;clear hx hy fx fy hN h1 b1 hR;obtain⟨ns0,hd0⟩:=R1.out.dagp;have HO:=hdd (aqO hd0 HX.out.1 HFx.out);clear hd0;go_enter Tryz.func33,Tryz.ntmps33
 go_wp2_with fail
 refine HO.out.mono ?_;rintro e w2⟨rfl,hb⟩;have R2:=hdd (R1.out.step hb);clear hb HO;have HO:=hdd (R2.out.of (by have:=HN.out;omega) HX.out.2 HFy.out);go_wp2_with fail
 refine HO.out.mono ?_;rintro e w3⟨k,rfl,hR⟩;have R3:=hdd hR;clear hR HO;obtain⟨c0,c1,c2,c3⟩:=aY (R3.out.at (awE ..));obtain⟨f0,f1,f2,f3⟩:=ad8 (R3.out.at (awE ..));have HP:=hdd (R3.out.sput (.pointer (some ⟨g,0,none⟩)) (.int .i64 (-1)) (.pointer (some ⟨g,0,none⟩)) (.int .i64 (k:Int)));clear R3 R2 R1;go_wp2;obtain⟨x0,x1,x2,x3⟩:=aY (HP.out.at (awE ..));refine bodyPost_ret (v:=.agg #[_,_,_,_]) (by simp[results,Tryz.results33,go_sem,x0,x1,x2,x3];first|exact⟨rfl,rfl,rfl,rfl⟩|rfl) rfl ?_;exact⟨[k],rfl,rfl,_,(HP.out.more (by omega)).few (aoM [0])⟩
theorem atW{g:Nat}(hx:x<18446744073709551616)(hy:y<18446744073709551616)(fx:fin x)(fy:¬fin y):FnOk 33 g 2 #[.pointer (some ⟨g,0,none⟩),.float .f64 x,.float .f64 y] [] (fun ks=>.agg #[.pointer (some ⟨g,0,none⟩),.int .i64 ((ks.getD 0 0:Nat):Int),.pointer (some ⟨g,0,none⟩),.int .i64 (-1)]) [.leaf x]:=FnOk.of fun w B ns N hR hN=>by
 obtain⟨w1,hw1,b1,h1⟩:=hR.box1 (.cells #[.pointer none,.int .i64 0,.pointer none,.int .i64 0] 69);have R1:=hdd h1;have HX:=hdd (And.intro hx hy);have HFx:=hdd fx;have HFy:=hdd fy;have HN:=hdd hN;clear hx hy fx fy hN h1 b1 hR;have HO:=hdd (R1.out.of (by have:=HN.out;omega) HX.out.1 HFx.out);go_enter Tryz.func33,Tryz.ntmps33
 go_wp2_with fail
 refine HO.out.mono ?_;rintro e w2⟨k,rfl,hR⟩;have R2:=hdd hR;clear hR HO;obtain⟨ns1,hd1⟩:=R2.out.dagp;have HO:=hdd (aqO hd1 HX.out.2 HFy.out);clear hd1;go_wp2_with fail
 refine HO.out.mono ?_;rintro e w3⟨rfl,hb⟩;have R3:=hdd (R2.out.step hb);clear hb HO;obtain⟨c0,c1,c2,c3⟩:=aY (R3.out.at (awE ..));obtain⟨f0,f1,f2,f3⟩:=ad8 (R3.out.at (awE ..));have HP:=hdd (R3.out.sput (.pointer (some ⟨g,0,none⟩)) (.int .i64 (k:Int)) (.pointer (some ⟨g,0,none⟩)) (.int .i64 (-1)));clear R3 R2 R1;go_wp2;obtain⟨x0,x1,x2,x3⟩:=aY (HP.out.at (awE ..));refine bodyPost_ret (v:=.agg #[_,_,_,_]) (by simp[results,Tryz.results33,go_sem,x0,x1,x2,x3];first|exact⟨rfl,rfl,rfl,rfl⟩|rfl) rfl ?_;exact⟨[k],rfl,rfl,_,(HP.out.more (by omega)).few (aoM [0])⟩
theorem atX{g:Nat}(hx:x<18446744073709551616)(hy:y<18446744073709551616)(fx:¬fin x)(fy:¬fin y):FnOk 33 g 2 #[.pointer (some ⟨g,0,none⟩),.float .f64 x,.float .f64 y] [] (fun ks=>.agg #[.pointer (some ⟨g,0,none⟩),.int .i64 (-1),.pointer (some ⟨g,0,none⟩),.int .i64 (-1)]) []:=FnOk.of fun w B ns N hR hN=>by
 obtain⟨w1,hw1,b1,h1⟩:=hR.box1 (.cells #[.pointer none,.int .i64 0,.pointer none,.int .i64 0] 69);have R1:=hdd h1;have HX:=hdd (And.intro hx hy);have HFx:=hdd fx;have HFy:=hdd fy;have HN:=hdd hN;clear hx hy fx fy hN h1 b1 hR;obtain⟨ns0,hd0⟩:=R1.out.dagp;have HO:=hdd (aqO hd0 HX.out.1 HFx.out);clear hd0;go_enter Tryz.func33,Tryz.ntmps33
 go_wp2_with fail
 refine HO.out.mono ?_;rintro e w2⟨rfl,hb⟩;have R2:=hdd (R1.out.step hb);clear hb HO;obtain⟨ns1,hd1⟩:=R2.out.dagp;have HO:=hdd (aqO hd1 HX.out.2 HFy.out);clear hd1;go_wp2_with fail
 refine HO.out.mono ?_;rintro e w3⟨rfl,hb⟩;have R3:=hdd (R2.out.step hb);clear hb HO;obtain⟨c0,c1,c2,c3⟩:=aY (R3.out.at (awE ..));obtain⟨f0,f1,f2,f3⟩:=ad8 (R3.out.at (awE ..));have HP:=hdd (R3.out.sput (.pointer (some ⟨g,0,none⟩)) (.int .i64 (-1)) (.pointer (some ⟨g,0,none⟩)) (.int .i64 (-1)));clear R3 R2 R1;go_wp2;obtain⟨x0,x1,x2,x3⟩:=aY (HP.out.at (awE ..));refine bodyPost_ret (v:=.agg #[_,_,_,_]) (by simp[results,Tryz.results33,go_sem,x0,x1,x2,x3];first|exact⟨rfl,rfl,rfl,rfl⟩|rfl) rfl ?_;exact⟨[],rfl,rfl,_,(HP.out.more (by omega)).few (aoM [])⟩
theorem iv_2:Iw 4611686018427387904 2:=⟨⟨by decide,by decide⟩,by kernel_rfl⟩
theorem iv_0:Iw 0 0:=⟨apT,asN⟩
theorem aoI:apA 0 4607182418800017408 0:=⟨apT,iw_1.1,apT,Or.inr (atU iw_1 (by decide))⟩
theorem arG:gM PT (aqZ (.leaf 0) (.leaf 0) 0 4607182418800017408 0) 0:=by
 have f:=iv_0.fit (L:=[]) 1 (by decide) (by decide);have h:=iw_1.fit (L:=[]) 1 (by decide) (by decide);have:=(((f.rmul f).radd (h.rmul f)).rsub f).sign (P:=PT) (v:=0) 1 (by decide) (by push_cast;grind) (by kernel_rfl);exact this
theorem atY:gM PT (aqZ (.leaf 4611686018427387904) (.leaf 0) 0 4607182418800017408 0) 0:=by
 have f:=iv_0.fit (L:=[]) 1 (by decide) (by decide);have h:=iw_1.fit (L:=[]) 1 (by decide) (by decide);have t:=iv_2.fit (L:=[]) 2 (by decide) (by decide);have:=(((f.rmul t).radd (h.rmul f)).rsub f).sign (P:=PT) (v:=0) 1 (by decide) (by push_cast;grind) (by kernel_rfl);exact this
theorem atG:gM PT (arE 0 0 0 (.leaf 0) (.leaf 0)) 0:=by
 have f:=iv_0.fit (L:=[]) 1 (by decide) (by decide);have:=((((f.rsub f).rmul (f.rsub f)).radd ((f.rsub f).rmul (f.rsub f))).rsub f).sign (P:=PT) (v:=0) 1 (by decide) (by push_cast;grind) (by kernel_rfl);exact this
theorem atZ:aqB PT (.leaf 0) (.leaf 0) (.leaf 4611686018427387904) (.leaf 0) (-1):=by
 have f:=iv_0.fit (L:=[]) 1 (by decide) (by decide);have t:=iv_2.fit (L:=[]) 2 (by decide) (by decide);have h1:gM PT (.sub (.leaf 0) (.leaf 4611686018427387904)) (-1):=by
  have:=(f.rsub t).sign (P:=PT) (v:=-2) 1 (by decide) (by push_cast;grind) (by kernel_rfl);exact this
 have h2:gM PT (.sub (.leaf 0) (.leaf 0)) 0:=by
  have:=(f.rsub f).sign (P:=PT) (v:=0) 1 (by decide) (by push_cast;grind) (by kernel_rfl);exact this
 exact⟨-1,0,trivial,h1,fun _=>⟨trivial,h2⟩,rfl⟩
theorem ap6{g i j ca cb cc:Nat}(hl:apA ca cb cc)(h:gM PT (aqZ (.leaf x) (.leaf y) ca cb cc) q):FnOk 81 g 9 #[.pointer (some ⟨g,0,none⟩),curV 1 ca cb cc,aoP g i j] [(.leaf x,i),(.leaf y,j)] (fun _=>.tuple #[.int .i64 q,.nilIface]) []:=
 arD (li:=true) rfl (fun w=>aoS hl) ((aq7 hl.1 hl.2.1 hl.2.2.1).wide (by omega) (fun _ hp=>hp)) h
theorem aqP{g i j ca cb cc:Nat}(hl:ao4 ca cb cc)(h:gM PT (arE ca cb cc (.leaf x) (.leaf y)) q):FnOk 81 g 9 #[.pointer (some ⟨g,0,none⟩),curV 2 ca cb cc,aoP g i j] [(.leaf x,i),(.leaf y,j)] (fun _=>.tuple #[.int .i64 q,.nilIface]) []:=
 arD (li:=false) rfl (fun w=>ao0 hl) (asO hl) h
theorem alive_c1{g i j k l:Nat}:FnOk 34 g 20 #[.pointer (some ⟨g,0,none⟩),apU g 1 0 4607182418800017408 0 i j k l] [(.leaf 0,i),(.leaf 0,j),(.leaf 4611686018427387904,k),(.leaf 0,l)] (fun _=>.nilIface) []:=
 ao6 (s1:=0) (s2:=0) (t:=true) (fun w=>aoS aoI) (ap6 aoI arG) (ap6 aoI atY) (Or.inr ⟨rfl,-1,atZ,rfl⟩)
theorem alive_c2{g i j k l:Nat}:FnOk 34 g 20 #[.pointer (some ⟨g,0,none⟩),apU g 1 0 4607182418800017408 0 i j k l] [(.leaf 0,i),(.leaf 0,j),(.leaf 0,k),(.leaf 0,l)] (fun _=>.iface 124 (.int .i64 4)) []:=
 ao6 (s1:=0) (s2:=0) (t:=false) (fun w=>aoS aoI) (ap6 aoI arG) (ap6 aoI arG) (Or.inr ⟨rfl,0,arF,rfl⟩)
theorem aqQ:ao4 0 0 0:=⟨apT,apT,apT,by rw[asN];decide⟩
theorem aoV:ao4 0 0 4607182418800017408:=⟨apT,apT,iw_1.1,by rw[iw_1.2];decide⟩
theorem chk_g{g i j:Nat}:FnOk 34 g 20 #[.pointer (some ⟨g,0,none⟩),apU g 2 0 0 0 i j i j] [(.leaf 0,i),(.leaf 0,j),(.leaf 0,i),(.leaf 0,j)] (fun _=>.iface 124 (.int .i64 4)) []:=
 ao6 (s1:=0) (s2:=0) (t:=false) (fun w=>ao0 aqQ) (aqP aqQ atG) (aqP aqQ atG) (Or.inl ⟨rfl,by kernel_rfl⟩)
theorem at0{g i j:Nat}:ChkNo g (.agg #[.int .i64 1,.float .f64 0,.float .f64 4607182418800017408,.float .f64 0,.pointer (some ⟨g,0,none⟩),.int .i64 (i:Int),.pointer (some ⟨g,0,none⟩),.int .i64 (j:Int),.pointer none,.int .i64 0,.pointer none,.int .i64 0]) [(.leaf 0,i),(.leaf 0,j)] 1:=
 as8 (fun w=>aoS aoI) (ap6 aoI arG) (asM (li:=true) rfl (fun w=>aoS aoI) ((arN aoI.1 aoI.2.1 aoI.2.2.1).wide nlr (fun p hp=>by cases hp)))
theorem asS{g:Nat}{K0:List (Ex×Nat)}{I J:Int}(hV:FnOk 130 g 9 #[.pointer (some ⟨g,0,none⟩),curV 2 0 0 4607182418800017408,.agg #[.pointer (some ⟨g,0,none⟩),.int .i64 I,.pointer (some ⟨g,0,none⟩),.int .i64 J]] K0 (fun _=>numM g) []):ChkNo g (.agg #[.int .i64 2,.float .f64 0,.float .f64 0,.float .f64 4607182418800017408,.pointer (some ⟨g,0,none⟩),.int .i64 I,.pointer (some ⟨g,0,none⟩),.int .i64 J,.pointer (some ⟨g,0,none⟩),.int .i64 I,.pointer (some ⟨g,0,none⟩),.int .i64 J]) K0 1:=
 as7 (fun w=>ao0 aoV) (asM (li:=false) rfl (fun w=>ao0 aoV) hV)
section
variable{g i j k l ca cb cc:Nat}{kd:Int}{K0:List (Ex×Nat)}
theorem arR(ha:ca<18446744073709551616)(hb:cb<18446744073709551616)(hc:cc<18446744073709551616)(h:¬apB kd ca cb cc):ChkNo g (apU g kd ca cb cc i j k l) K0 5:=ChkNo.of fun s N W hR hN=>by
 obtain⟨w1,hw1,b1,R1⟩:=hR.box1 (atF g kd ca cb cc i j k l);obtain⟨x0,x1,x2,x3,x4,x5,x6,x7,x8,x9,x10,x11⟩:=aoL b1;have HC:=hdd (asG (w:=w1) ha hb hc h);have RR:=hdd R1;have HN:=hdd hN;clear b1 R1 hR ha hb hc h hN;go_enter Tryz.func34,Tryz.ntmps34
 go_wp2_with fail
 refine HC.out.mono ?_;rintro e w4⟨er,n,rfl,-,he0,hb⟩;obtain⟨t,x,rfl⟩:=he0.shp;have he:=RR.out.erk hb he0;have hR:=RR.out.step hb;clear he0 hb RR;have HI:=hdd (apM (w:=w4) (t:=t) (x:=x));have HE:=hdd he;have HR:=hdd hR;clear he hR;go_wp2_with fail
 refine HI.out.mono ?_;rintro e w5 hr;obtain⟨v,rfl,hj,hR,-⟩:=hr.joins HR.out HE.out;obtain⟨vt,vx,rfl⟩:=hj.shp;have HJ:=hdd hj;have HF:=hdd (hR.more (show _<=N+20 by omega));clear hr hj hR HE HR HI;go_wp2;go_ret;exact⟨_,rfl,HJ.out,_,HF.out⟩
end
theorem at1{g i j ca cb cc:Nat}{kd:Int}(ha:ca<18446744073709551616)(hb:cb<18446744073709551616)(hc:cc<18446744073709551616)(s:Bs)(N:Nat)(K:List (Ex×Nat))(L:List (Nat×Obj))(W:World)(hR:Run s g N K L W)(hN:N+20<=20000)(hK:∀p∈[(Ex.leaf 0,i),(Ex.leaf 0,j),(Ex.leaf 0,i),(Ex.leaf 0,j)],p∈K):
 Calls Tryz.prog 34 #[.pointer (some ⟨g,0,none⟩),apU g kd ca cb cc i j i j] W (fun e W'=>∃v,e=.returned v/\(apB kd ca cb cc\/JoinG g W' v 4 5)/\Run s g (N+20) K L W'/\DS g W W'):=by
 by_cases h:apB kd ca cb cc
 . have fin1:∀{v:Value},FnOk 34 g 20 #[.pointer (some ⟨g,0,none⟩),apU g kd ca cb cc i j i j] [(Ex.leaf 0,i),(Ex.leaf 0,j),(Ex.leaf 0,i),(Ex.leaf 0,j)] (fun _=>v) []->Calls Tryz.prog 34 #[.pointer (some ⟨g,0,none⟩),apU g kd ca cb cc i j i j] W (fun e W'=>∃v,e=.returned v/\(apB kd ca cb cc\/JoinG g W' v 4 5)/\Run s g (N+20) K L W'/\DS g W W'):=fun F=>
    (F.useD hR hN hK).mono fun _ _ ⟨h1,h2,h3⟩=>⟨_,h1,Or.inl h,h2,h3⟩
   rcases h with ⟨rfl,hl⟩|⟨rfl,hl⟩
   . obtain⟨q,hq⟩:=asP hl.1 hl.2.1 hl.2.2.1
     exact fin1 (ao6 (t:=false) (fun w=>aoS hl) (ap6 hl hq) (ap6 hl hq) (Or.inr ⟨rfl,0,arF,rfl⟩))
   . obtain⟨q,hq⟩:=asQ hl.1 hl.2.1 hl.2.2.1
     exact fin1 (ao6 (t:= !(FloatKind.f64.format.order cc 0==some Ordering.eq)) (fun w=>ao0 hl) (aqP hl hq) (aqP hl hq) (Or.inl ⟨rfl,by rw[Bool.not_not]⟩))
 . exact(arR (K0:=[]) ha hb hc h s N K L W hR hN (fun p hp=>by cases hp)).mono fun _ _ ⟨v,h1,h2,h3,h4⟩=>⟨v,h1,Or.inr h2,h3,h4⟩
theorem alive_is{w:World}:Calls Tryz.prog 35 #[.iface 124 (.int .i64 4),.iface 124 (.int .i64 4)] w (fun e w'=>e=.returned (.bool true)/\w'=w):=by
 have h:=am5 (w:=w) (S:=fun _=>False) (n:=0) (k:=4) (j:=4) (ErK.kind (by decide) (by decide));exact h
theorem atD{w:World}(hT:Tab w)(htb:1<w.heap.size):
 Calls Tryz.prog 32 #[] w (RetV w (.bool true)):=by
 have HN:=hdd (aeD (l:=[]) (Below.refl w.heap.size w) (fun p hp=>by cases hp) (by simp) hT htb);clear hT htb;go_enter Tryz.func32,Tryz.ntmps32
 go_wp2_with fail
 refine HN.out.mono ?_;rintro e W1⟨g,rfl,hR⟩;have R1:=hdd hR;clear hR HN;dsimp only
 go_upto_region 4 with fail
 refine Spec.go [.w (.c (.v (.pointer (some ⟨g,0,none⟩)))),ap1 g 0 1,.w (.c (.v (.pointer (some ⟨g,0,none⟩)))),ap1 g 2 3,.w (.c (.ptr 4 0)),.w (.c (.ptr 5 0)),noS,noS] [1,1,3,3,4,5]
  [(0,(.leaf 0)),(1,(.leaf 0)),(2,(.leaf 4611686018427387904)),(3,(.leaf 0))] [⟨4,69,[.v (.pointer none),.v (.int .i64 0),.v (.pointer none),.v (.int .i64 0)],some (6,aoU g 0 1)⟩,⟨5,69,[.v (.pointer none),.v (.int .i64 0),.v (.pointer none),.v (.int .i64 0)],some (7,aoU g 2 3)⟩]
  [0,2,0,2,0,0,0,0] [[],[0],[],[2],[],[],rgn 6,rgn 7] [(1,.w (.c (.v (.pointer (some ⟨g,0,none⟩)))))]
  [9,10,11,12,3,4,0,0] [] 8 4 [] [] R1.out
  (fun b hM=>aoB (aoB (aoB (aoB (aoB (aoB (aoB (aoB aoF
    (aoC b))
    (aoD b (c_at hM (by decide) (by decide) (by decide) (by decide) rfl rfl rfl rfl (by decide) rfl)))
    (aoC b))
    (aoD b (c_at hM (by decide) (by decide) (by decide) (by decide) rfl rfl rfl rfl (by decide) rfl)))
    (aoE b m0))
    (aoE b m1))
    (aoH b 4 m0))
    (aoH b 4 m1)) ?_
 intro n1 n2 n3 n4 b5 b6 ν W2 hR;have R2:=hdd hR;clear hR R1;simp only[putL,awF,awI,fs0,fs1,fsn,dSw,dSt,dWc,dWa,dv,di,dp,ds',awG,awH,nuTn,nuT0,nuT1,nuU0,nuU1,dA12,dP8,dP24]
 go_upto_region 5 with fail
 refine Spec.go [.w (.agg ([.v (Value.int IntKind.i64 1),.v (.float .f64 0),.v (Value.float FloatKind.f64 4607182418800017408),.v (.float .f64 0)])),.w (.c (.ptr 6 0)),noS] [1]
  [(0,(.leaf 0)),(1,(.leaf 0)),(2,(.leaf 4611686018427387904)),(3,(.leaf 0))] [⟨4,69,aoU g 0 1,none⟩,⟨5,69,aoU g 2 3,none⟩,⟨6,67,curC 0 0 0 0,some (2,[.v (Value.int IntKind.i64 1),.v (.float .f64 0),.v (Value.float FloatKind.f64 4607182418800017408),.v (.float .f64 0)])⟩]
  [0,0,0] [[],[],[0,1]] []
  [13,5,0] [n1,n2,n3,n4,b5,b6] 3 4 [] [] R2.out
  (fun b hM=>aoB (aoB (aoB aoF
    (aoC b))
    (aoE b m2))
    (aoH b 4 m2)) ?_
 intro b7 ν W3 hR;replace hR:Run (bs w) g 4 [((.leaf 0),n1),((.leaf 0),n2),((.leaf 4611686018427387904),n3),((.leaf 0),n4)] [(b5,apD g n1 n2),(b6,apD g n3 n4),(b7,.cells #[(Value.int IntKind.i64 1),.float .f64 0,(Value.float FloatKind.f64 4607182418800017408),.float .f64 0] 67)] W3:=hR;have R3:=hdd hR;clear hR R2;simp only[putL,awF,awI,fs0,fs1,fsn,dSw,dSt,dWc,dWa,dv,di,dp,ds',awG,awH,nuTn,nuT0,nuT1,nuU0,nuU1,dA12,dP8,dP24];obtain⟨c0,c1,c2,c3⟩:=aY (R3.out.at m2);obtain⟨d0,d1,d2,d3⟩:=aY (R3.out.at m0);obtain⟨e0,e1,e2,e3⟩:=aY (R3.out.at m1)
 go_upto_region 6 with fail
 go_wp2_with fail
 refine(alive_c1.use R3.out (by omega) (aoM [0,1,2,3])).mono ?_;rintro e w4⟨rfl,hR4⟩;have R4:=hdd hR4;clear c0 c1 c2 c3 d0 d1 d2 d3 e0 e1 e2 e3;obtain⟨c0,c1,c2,c3⟩:=aY (R4.out.at m2);obtain⟨d0,d1,d2,d3⟩:=aY (R4.out.at m0);obtain⟨e0,e1,e2,e3⟩:=aY (R4.out.at m1);clear hR4 R3;go_wp2_with fail
 refine(alive_c2.use R4.out (by omega) (aoM [0,1,0,1])).mono ?_;rintro e w5⟨rfl,hR5⟩;have HB:=hdd (Run.below hR5);have HI:Hid (∀w',Calls Tryz.prog 36 #[] w' (fun e w2=>e=.returned (.iface 124 (.int .i64 4))/\w'=w2)):=hdd fun w'=>ao2;clear hR5 R4;go_wp2_with fail
 refine(HI.out _).mono ?_;rintro e w6⟨rfl,rfl⟩;go_wp2_with fail
 refine alive_is.mono ?_;rintro e w7⟨rfl,rfl⟩;go_wp2;go_ret;exact⟨rfl,HB.out⟩
end
section
open Go.RowKit Go.Maps

end
section
open Go.RowKit Go.Maps
open Ieee

end
section
open Go.RowKit Go.Maps Ieee
abbrev Sub0(x:Nat):Prop:=∀w,(binOp .sub 28 (.float .f64 x) (.float .f64 x)).run Tryz.prog w=.ok (.float .f64 0) w
theorem ap7{x:Nat}(h:¬fin x)(w:World):∃r,(binOp .sub 28 (.float .f64 x) (.float .f64 x)).run Tryz.prog w=.ok (.float .f64 r) w.drew/\(FloatKind.f64.format.order r 0 != some Ordering.eq)=true:=by
 obtain⟨r,h1,h2⟩:=apO (P:=Tryz.prog) h 28 w;exact⟨r,h1,by rw[show FloatKind.f64.format.order r 0=none from h2];rfl⟩
theorem ne00:(FloatKind.f64.format.order 0 0 != some Ordering.eq)=false:=by decide
end
section
open Go.RowKit Go.Maps

end
section
open Go.RowKit Go.Maps Go.Stop Go.Extern
open Re (rat ofI ofN)

end
end Go.Proofs.YtkpodipoegbclaaGreatDoor
