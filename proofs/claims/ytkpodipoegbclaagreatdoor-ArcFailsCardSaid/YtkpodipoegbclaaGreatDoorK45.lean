/- A part of the proof: contracts of functions and plain laws (AfF, SgC, SgD, FtA, FeA, QlA, FtB, FeB, LiA). -/
import Derived.Test.YtkpodipoegbclaaGreatDoorK41
import Derived.Test.YtkpodipoegbclaaGreatDoorK44
import Derived.Test.YtkpodipoegbclaaGreatDoorK30
import Derived.Test.YtkpodipoegbclaaGreatDoorK17
import Derived.Test.YtkpodipoegbclaaGreatDoorK08
import Derived.Test.YtkpodipoegbclaaGreatDoorK42
import Derived.Test.YtkpodipoegbclaaGreatDoorK10
set_option linter.unusedVariables false
set_option linter.unusedSimpArgs false
set_option maxHeartbeats 25600000
set_option maxRecDepth 100000
namespace Go.Proofs.YtkpodipoegbclaaGreatDoor
section
open Go.RowKit Go.Maps Go.Stop Go.Extern
open List renaming sublist_cons_self->av2
section
variable{g i j k l m n ca cb cc:Nat}{kd:Int}{A1 A2 B1 B2 X1 X2 E:Ex}
theorem ao6{s1 s2:Int}{t:Bool}(hM:∀w,Calls Tryz.prog 79 #[curV kd ca cb cc] w (RetV w .nilIface))
 (h1:FnOk 81 g 9 #[.pointer (some ⟨g,0,none⟩),curV kd ca cb cc,aoP g i j] [(A1,i),(A2,j)] (fun _=>.tuple #[.int .i64 s1,.nilIface]) []) (h2:FnOk 81 g 9 #[.pointer (some ⟨g,0,none⟩),curV kd ca cb cc,aoP g k l] [(B1,k),(B2,l)] (fun _=>.tuple #[.int .i64 s2,.nilIface]) [])
 (hT:(kd==2)=true/\(FloatKind.f64.format.order cc 0==some Ordering.eq)= !t\/(kd==2)=false/\∃c,aqB PT A1 A2 B1 B2 c/\(c==0)= !t):
 FnOk 34 g 20 #[.pointer (some ⟨g,0,none⟩),apU g kd ca cb cc i j k l] [(A1,i),(A2,j),(B1,k),(B2,l)] (fun _=>chkA (s1==0&&s2==0&&t)) []:=fun s N K L W hR hN hK=>by
 obtain⟨w1,hw1,b1,R1⟩:=hR.box1 (atF g kd ca cb cc i j k l);obtain⟨x0,x1,x2,x3,x4,x5,x6,x7,x8,x9,x10,x11⟩:=aoL b1;have HC:=hdd (RetV.run (c:=fun _=>True) R1 (hM w1));have O1:=hdd h1;have O2:=hdd h2;have HT:=hdd hT;have HN:=hdd hN;have HK:=hdd hK;clear b1 R1 hR hM h1 h2 hT hN hK;go_enter Tryz.func34,Tryz.ntmps34
 go_wp2_with fail
 refine HC.out.mono ?_;rintro e w2⟨rfl,hR⟩;obtain⟨x0,x1,x2,x3,x4,x5,x6,x7,x8,x9,x10,x11⟩:=aoL (hR.at m0);have HR:=hdd hR;have ix0:=ixs0;have ix1:=ixs1;clear hR;go_wp2_with fail
 refine wp_loop_rounds 3 ?_;have hR:=HR.out;clear HR;obtain⟨w3,hw3,b1,hR⟩:=hR.box1 (apD g i j);obtain⟨x0,x1,x2,x3,x4,x5,x6,x7,x8,x9,x10,x11⟩:=aoL (hR.at m1);obtain⟨y0,y1,y2,y3⟩:=aY b1;have HC:=hdd (O1.out.use hR (by have:=HN.out;omega) (fun p hp=>HK.out p ((aoM [0,1]) p hp)));clear hR b1;rw[rounds_succ];go_wp2_with fail
 refine HC.out.mono ?_;rintro e w4⟨rfl,hR⟩
 cases e1:(s1==0)
 . have HC:=hdd (RetV.run (c:=fun _=>True) hR (aoY (w:=_)))
   clear hR;go_wp2_with fail
   refine HC.out.mono ?_;rintro e wz⟨rfl,hR⟩;have HF:Hid (RtN s g (N+20) K L (fun _=>chkA (s1==0&&s2==0&&t)) [] (.returned (.iface 124 (.int .i64 4))) wz):=hdd (by rw[e1,Bool.false_and,Bool.false_and];exact RtN.out (v:=.iface 124 (.int .i64 4)) ((hR.subl ((av2 _ _).trans (av2 _ _))).more (by omega)));clear hR;go_wp2;go_ret;exact HF.out
 go_wp2_with fail
 obtain⟨w5,hw5,b1,hR⟩:=hR.box1 (apD g k l);obtain⟨x0,x1,x2,x3,x4,x5,x6,x7,x8,x9,x10,x11⟩:=aoL (hR.at m2);obtain⟨y0,y1,y2,y3⟩:=aY b1;have HC:=hdd (O2.out.use hR (by have:=HN.out;omega) (fun p hp=>HK.out p ((aoM [2,3]) p hp)));clear hR b1;rw[rounds_succ];go_wp2_with fail
 refine HC.out.mono ?_;rintro e w6⟨rfl,hR⟩
 cases e2:(s2==0)
 . have HC:=hdd (RetV.run (c:=fun _=>True) hR (aoY (w:=_)))
   clear hR;go_wp2_with fail
   refine HC.out.mono ?_;rintro e wz⟨rfl,hR⟩;have HF:Hid (RtN s g (N+20) K L (fun _=>chkA (s1==0&&s2==0&&t)) [] (.returned (.iface 124 (.int .i64 4))) wz):=hdd (by rw[e1,e2,Bool.true_and,Bool.false_and];exact RtN.out (v:=.iface 124 (.int .i64 4)) ((hR.subl ((av2 _ _).trans ((av2 _ _).trans (av2 _ _)))).more (by omega)));clear hR;go_wp2;go_ret;exact HF.out
 obtain⟨x0,x1,x2,x3,x4,x5,x6,x7,x8,x9,x10,x11⟩:=aoL (hR.at m2);rcases HT.out with ⟨t1,t2⟩|⟨t1,c,hc,hct⟩
 . cases t
   . rw[Bool.not_false]at t2
     have HC:=hdd (RetV.run (c:=fun _=>True) hR (aoY (w:=_)));clear HT;go_wp2_with fail
     rw[rounds_succ];go_wp2_with fail
     refine HC.out.mono ?_;rintro e wz⟨rfl,hR⟩;have HF:Hid (RtN s g (N+20) K L (fun _=>chkA (s1==0&&s2==0&&false)) [] (.returned (.iface 124 (.int .i64 4))) wz):=hdd (by rw[e1,e2];exact RtN.out (v:=.iface 124 (.int .i64 4)) ((hR.subl ((av2 _ _).trans ((av2 _ _).trans (av2 _ _)))).more (by omega)));clear hR;go_wp2;go_ret;exact HF.out
   . rw[Bool.not_true]at t2
     have HF:Hid (RtN s g (N+20) K L (fun _=>chkA (s1==0&&s2==0&&true)) [] (.returned (.nilIface)) w6):=hdd (by rw[e1,e2];exact RtN.out (v:=.nilIface) ((hR.subl ((av2 _ _).trans ((av2 _ _).trans (av2 _ _)))).more (by omega)));clear hR HT;go_wp2_with fail
     rw[rounds_succ];go_wp2;go_ret;exact HF.out
 . have HC:=hdd (hR.same (by have:=HN.out;omega) (HK.out _ m0) (HK.out _ m1) (HK.out _ m2) (HK.out _ m3) hc)
   clear hR HT hc;go_wp2_with fail
   rw[rounds_succ];go_wp2_with fail
   refine HC.out.mono ?_;rintro e w7⟨rfl,hR⟩
   cases t
   . have HC:=hdd (RetV.run (c:=fun _=>True) hR (aoY (w:=_)))
     clear hR;go_wp2_with fail
     refine HC.out.mono ?_;rintro e wz⟨rfl,hR⟩;have HF:Hid (RtN s g (N+20) K L (fun _=>chkA (s1==0&&s2==0&&false)) [] (.returned (.iface 124 (.int .i64 4))) wz):=hdd (by rw[e1,e2];exact RtN.out (v:=.iface 124 (.int .i64 4)) ((hR.subl ((av2 _ _).trans ((av2 _ _).trans (av2 _ _)))).more (by omega)));clear hR;go_wp2;go_ret;exact HF.out
   . have HF:Hid (RtN s g (N+20) K L (fun _=>chkA (s1==0&&s2==0&&true)) [] (.returned (.nilIface)) w7):=hdd (by rw[e1,e2];exact RtN.out (v:=.nilIface) ((hR.subl ((av2 _ _).trans ((av2 _ _).trans (av2 _ _)))).more (by omega)))
     clear hR;go_wp2;go_ret;exact HF.out
variable{fp0 fp1 tp0 tp1:Option Addr}{fi0 fi1 ti0 ti1:Int}{K0:List (Ex×Nat)}
def OnNo(g:Nat)(kd:Int)(ca cb cc:Nat)(p:Value)(K0:List (Ex×Nat)):Prop:=∀(s:Bs) (N:Nat) (K:List (Ex×Nat)) (L:List (Nat×Obj)) (W:World),Run s g N K L W->N+9<=20000->(∀p∈K0,p∈K)->Calls Tryz.prog 81 #[.pointer (some ⟨g,0,none⟩),curV kd ca cb cc,p] W (fun e W'=>∃t x n,e=.returned (.tuple #[.int .i64 0,.iface t x])/\ErK (fun b=>¬DagB W' g b) W' n (.iface t x) 1/\Run s g (N+9) K L W')
theorem asM{li:Bool}(hk:(kd==1)=li)(hM:∀w,Calls Tryz.prog 79 #[curV kd ca cb cc] w (RetV w .nilIface))(hV:FnOk (cond li 129 130) g 9 #[.pointer (some ⟨g,0,none⟩),curV kd ca cb cc,.agg #[.pointer fp0,.int .i64 fi0,.pointer fp1,.int .i64 fi1]] K0 (fun _=>numM g) []):
 OnNo g kd ca cb cc (.agg #[.pointer fp0,.int .i64 fi0,.pointer fp1,.int .i64 fi1]) K0:=fun s N K L W hR hN hK=>by
 obtain⟨w1,hw1,b1,b2,R1⟩:=hR.box2 (curO kd ca cb cc) (.cells #[.pointer fp0,.int .i64 fi0,.pointer fp1,.int .i64 fi1] 69);obtain⟨x0,x1,x2,x3⟩:=aY b1;have HC:=hdd (RetV.run (c:=fun _=>True) R1 (hM w1));have HV:=hdd hV;have HN:=hdd hN;have HK:=hdd hK;clear b1 b2 R1 hR hM hV hN hK;go_enter Tryz.func81,Tryz.ntmps81
 go_wp2_with fail
 refine HC.out.mono ?_;rintro e w2⟨rfl,hR⟩;obtain⟨x0,x1,x2,x3⟩:=aY (hR.at m1);obtain⟨y0,y1,y2,y3⟩:=aY (hR.at m0);have HC:=hdd (HV.out.use hR HN.out HK.out);clear hR HV
 cases li
 all_goals
  go_wp2_with fail
  refine HC.out.mono ?_;rintro e w3⟨rfl,hR⟩;have HC:=hdd (akA hR.badM);have HR:=hdd hR;clear hR;go_wp2_with fail
  refine HC.out.mono ?_;rintro e w4⟨er,n,rfl,-,he,hb⟩;obtain⟨t,x,rfl⟩:=he.shp;have HE:=hdd (HR.out.erk hb he);have HF:=hdd ((HR.out.step hb).subl ((av2 _ _).trans (av2 _ _)));clear he hb HR;go_wp2
  go_ret2
  exact⟨_,_,_,rfl,HE.out,HF.out⟩
def ChkNo(g:Nat)(av:Value)(K0:List (Ex×Nat))(k:Int):Prop:=∀(s:Bs) (N:Nat) (K:List (Ex×Nat)) (L:List (Nat×Obj)) (W:World),Run s g N K L W->N+20<=20000->(∀p∈K0,p∈K)->Calls Tryz.prog 34 #[.pointer (some ⟨g,0,none⟩),av] W (fun e W'=>∃v,e=.returned v/\JoinG g W' v 4 k/\Run s g (N+20) K L W'/\DS g W W')
theorem ChkNo.of {av:Value}{kk:Int}(h:∀(s:Bs) (N:Nat) (W:World),Run s g N K0 [] W->N+20<=20000->Calls Tryz.prog 34 #[.pointer (some ⟨g,0,none⟩),av] W (fun e W'=>∃v,e=.returned v/\JoinG g W' v 4 kk/\∃l',Run s g (N+20) K0 l' W')):ChkNo g av K0 kk:=fun s N K L W hR hN hK=>by
 obtain⟨ns,h1,h2⟩:=hR.own hK;refine(h _ N W h1 hN).mono ?_;rintro e W'⟨v,rfl,hj,l',hR'⟩;obtain⟨h3,h4⟩:=h2 _ _ _ _ hR';exact⟨v,rfl,hj,h3.few fun p hp=>List.mem_append_right _ hp,h4⟩
theorem as7(hM:∀w,Calls Tryz.prog 79 #[curV kd ca cb cc] w (RetV w .nilIface))(h1:OnNo g kd ca cb cc (.agg #[.pointer fp0,.int .i64 fi0,.pointer fp1,.int .i64 fi1]) K0):ChkNo g (.agg #[.int .i64 kd,.float .f64 ca,.float .f64 cb,.float .f64 cc,.pointer fp0,.int .i64 fi0,.pointer fp1,.int .i64 fi1,.pointer tp0,.int .i64 ti0,.pointer tp1,.int .i64 ti1]) K0 1:=ChkNo.of fun s N W hR hN=>by
 obtain⟨w1,hw1,b1,R1⟩:=hR.box1 (.cells #[.int .i64 kd,.float .f64 ca,.float .f64 cb,.float .f64 cc,.pointer fp0,.int .i64 fi0,.pointer fp1,.int .i64 fi1,.pointer tp0,.int .i64 ti0,.pointer tp1,.int .i64 ti1] 73);obtain⟨x0,x1,x2,x3,x4,x5,x6,x7,x8,x9,x10,x11⟩:=aoL b1;have HC:=hdd (RetV.run (c:=fun _=>True) R1 (hM w1));have O1:=hdd h1;have HN:=hdd hN;clear b1 R1 hR hM h1 hN;go_enter Tryz.func34,Tryz.ntmps34
 go_wp2_with fail
 refine HC.out.mono ?_;rintro e w2⟨rfl,hR⟩;obtain⟨x0,x1,x2,x3,x4,x5,x6,x7,x8,x9,x10,x11⟩:=aoL (hR.at m0);have HR:=hdd hR;have ix0:=ixs0;have ix1:=ixs1;clear hR;go_wp2_with fail
 refine wp_loop_rounds 3 ?_;have hR:=HR.out;clear HR;obtain⟨w3,hw3,b1,hR⟩:=hR.box1 (.cells #[.pointer fp0,.int .i64 fi0,.pointer fp1,.int .i64 fi1] 69);obtain⟨x0,x1,x2,x3,x4,x5,x6,x7,x8,x9,x10,x11⟩:=aoL (hR.at m1);obtain⟨y0,y1,y2,y3⟩:=aY b1;have HC:=hdd (O1.out _ _ _ _ _ hR (by have:=HN.out;omega) (fun p hp=>hp));clear hR b1;rw[rounds_succ];go_wp2_with fail
 refine HC.out.mono ?_;rintro e w4⟨t,x,n,rfl,he,hR⟩;have HI:=hdd (apM (w:=w4) (t:=t) (x:=x));have HE:=hdd he;have HR:=hdd hR;clear he hR;go_wp2_with fail
 refine HI.out.mono ?_;rintro e w5 hr;obtain⟨v,rfl,hj,hR,-⟩:=hr.joins HR.out HE.out;obtain⟨vt,vx,rfl⟩:=hj.shp;have HJ:=hdd hj;have HF:=hdd (hR.more (show _<=N+20 by omega));clear hr hj hR HE HR HI;go_wp2;go_ret;exact⟨_,rfl,HJ.out,_,HF.out⟩
theorem as8(hM:∀w,Calls Tryz.prog 79 #[curV kd ca cb cc] w (RetV w .nilIface))(h1:FnOk 81 g 9 #[.pointer (some ⟨g,0,none⟩),curV kd ca cb cc,aoP g i j] K0 (fun _=>.tuple #[.int .i64 0,.nilIface]) [])(h2:OnNo g kd ca cb cc (.agg #[.pointer tp0,.int .i64 ti0,.pointer tp1,.int .i64 ti1]) K0):ChkNo g (.agg #[.int .i64 kd,.float .f64 ca,.float .f64 cb,.float .f64 cc,.pointer (some ⟨g,0,none⟩),.int .i64 (i:Int),.pointer (some ⟨g,0,none⟩),.int .i64 (j:Int),.pointer tp0,.int .i64 ti0,.pointer tp1,.int .i64 ti1]) K0 1:=ChkNo.of fun s N W hR hN=>by
 obtain⟨w1,hw1,b1,R1⟩:=hR.box1 (.cells #[.int .i64 kd,.float .f64 ca,.float .f64 cb,.float .f64 cc,.pointer (some ⟨g,0,none⟩),.int .i64 (i:Int),.pointer (some ⟨g,0,none⟩),.int .i64 (j:Int),.pointer tp0,.int .i64 ti0,.pointer tp1,.int .i64 ti1] 73);obtain⟨x0,x1,x2,x3,x4,x5,x6,x7,x8,x9,x10,x11⟩:=aoL b1;have HC:=hdd (RetV.run (c:=fun _=>True) R1 (hM w1));have O1:=hdd h1;have O2:=hdd h2;have HN:=hdd hN;clear b1 R1 hR hM h1 h2 hN;go_enter Tryz.func34,Tryz.ntmps34
 go_wp2_with fail
 refine HC.out.mono ?_;rintro e w2⟨rfl,hR⟩;obtain⟨x0,x1,x2,x3,x4,x5,x6,x7,x8,x9,x10,x11⟩:=aoL (hR.at m0);have HR:=hdd hR;have ix0:=ixs0;have ix1:=ixs1;clear hR;go_wp2_with fail
 refine wp_loop_rounds 3 ?_;have hR:=HR.out;clear HR;obtain⟨w3,hw3,b1,hR⟩:=hR.box1 (.cells #[.pointer (some ⟨g,0,none⟩),.int .i64 (i:Int),.pointer (some ⟨g,0,none⟩),.int .i64 (j:Int)] 69);obtain⟨x0,x1,x2,x3,x4,x5,x6,x7,x8,x9,x10,x11⟩:=aoL (hR.at m1);obtain⟨y0,y1,y2,y3⟩:=aY b1;have HC:=hdd (O1.out.use hR (by have:=HN.out;omega) (fun p hp=>hp));clear hR b1;rw[rounds_succ];go_wp2_with fail
 refine HC.out.mono ?_;rintro e w4⟨rfl,hR⟩;go_wp2_with fail
 obtain⟨w5,hw5,b1,hR⟩:=hR.box1 (.cells #[.pointer tp0,.int .i64 ti0,.pointer tp1,.int .i64 ti1] 69);obtain⟨x0,x1,x2,x3,x4,x5,x6,x7,x8,x9,x10,x11⟩:=aoL (hR.at m2);obtain⟨y0,y1,y2,y3⟩:=aY b1;have HC:=hdd (O2.out _ _ _ _ _ hR (by have:=HN.out;omega) (fun p hp=>hp));clear hR b1;rw[rounds_succ];go_wp2_with fail
 refine HC.out.mono ?_;rintro e w6⟨t,x,n,rfl,he,hR⟩;have HI:=hdd (apM (w:=w6) (t:=t) (x:=x));have HE:=hdd he;have HR:=hdd hR;clear he hR;go_wp2_with fail
 refine HI.out.mono ?_;rintro e w7 hr;obtain⟨v,rfl,hj,hR,-⟩:=hr.joins HR.out HE.out;obtain⟨vt,vx,rfl⟩:=hj.shp;have HJ:=hdd hj;have HF:=hdd (hR.more (show _<=N+20 by omega));clear hr hj hR HE HR HI;go_wp2;go_ret;exact⟨_,rfl,HJ.out,_,HF.out⟩
end
end
section
open Go.RowKit Go.Maps
open List renaming getElem?_eq_getElem->av3,mem_of_getElem?->av4
variable{a e e0:Ex}{ns:List Nd}{g q:Nat}{v v0:Re}{w:World}
def GdAt(ns:List Nd)(i:Nat):Prop:=∃a K j v,Is ns a i/\Gd K j a v
theorem wI{x:Nat}{n:Nd}(hp:Part ns e x)(hn:ns[x]? =some n):
 (n.kind≠4/\n.kind≠5)\/(∃a b,∃p q:Nat,n=⟨4,0,p,q⟩/\SubE (.div a b) e/\Is ns b q)\/(∃a,∃p:Nat,n=⟨5,0,p,0⟩/\SubE (.root a) e/\Is ns a p):=by
 obtain⟨a',hs,hi⟩:=hp
 cases a' with
 |leaf v=>have hi:ns[x]? =some ⟨0,v,0,0⟩:=hi;rw[hn]at hi;cases hi;exact Or.inl ⟨show(0:Int)≠4 by decide,show(0:Int)≠5 by decide⟩
 |add a b=>obtain⟨p,q,h,-⟩:=hi;rw[hn]at h;cases h;exact Or.inl ⟨show(1:Int)≠4 by decide,show(1:Int)≠5 by decide⟩
 |sub a b=>obtain⟨p,q,h,-⟩:=hi;rw[hn]at h;cases h;exact Or.inl ⟨show(2:Int)≠4 by decide,show(2:Int)≠5 by decide⟩
 |mul a b=>obtain⟨p,q,h,-⟩:=hi;rw[hn]at h;cases h;exact Or.inl ⟨show(3:Int)≠4 by decide,show(3:Int)≠5 by decide⟩
 |div a b=>obtain⟨p,q,h,-,-,-,h5⟩:=hi;rw[hn]at h;cases h;exact Or.inr (Or.inl ⟨a,b,p,q,rfl,hs,h5⟩)
 |root a=>obtain⟨p,h,-,h3⟩:=hi;rw[hn]at h;cases h;exact Or.inr (Or.inr ⟨a,p,rfl,hs,h3⟩)
theorem aeX{b:Ex}(hd:DenR e v)(hg:AllGd e)(hs:SubE (.div a b) e)(hi:Is ns b q):GdAt ns q/\sgT ns q≠0:=by
 obtain⟨K,j,u,hu⟩:=hg.1 a b hs;refine⟨⟨b,K,j,u,hi,hu⟩,?_⟩;rw[mM hi hu.den];obtain⟨t,ht⟩:=hs.den hd
 cases ht with
 |div h1 h2 h0 hz=>rw[hu.den.uniq h2];exact fun h=>h0 (Re.sgn_eq_zero.1 h)
theorem acB(hd:DenR e v)(hg:AllGd e)(hs:SubE (.root a) e)(hi:Is ns a q):GdAt ns q/\¬sgT ns q<0:=by
 obtain⟨K,j,u,hu⟩:=hg.2 a hs;refine⟨⟨a,K,j,u,hi,hu⟩,?_⟩;rw[mM hi hu.den];obtain⟨t,ht⟩:=hs.den hd
 cases ht with
 |root h1 h0 hz=>
  rw[hu.den.uniq h1];have:(0:Re)<=_:=Re.mul_nonneg h0 h0;rw[hz]at this;rcases Re.sgn_cases _ with ⟨-,h⟩|⟨-,h⟩|⟨h,-⟩
  . rw[h];decide
  . rw[h];decide
  . exact absurd h (Re.not_lt.2 this)
theorem aeY{root:Nat}{l m:List Nat}(hl:IsB ns root l)(hm:IsB ns root m):∀x∈l,x∈m:=by
 refine hl.mn (fun x=>x∈m) ?_ hm.rt;intro x n hx hn o ho;obtain⟨y,hy,e⟩:=hm.cl x hx n hn o ho;rw[<-e,Int.toNat_natCast];exact hy
def aj7(w:World)(g root:Nat)(ns:List Nd)(e:Ending)(w':World):Prop:=Below w.heap.size w w'/\∃j ms l,e=.returned (.tuple #[.pointer (some ⟨j,0,none⟩),.nilIface])/\w.heap.size<=ms/\IsB ns root l/\JG w' j ms g ns l
theorem z8{root:Nat}(hd:DagP w g ns)(ok:OkNs ns)(hlf:fP ns)(hro:fQ ns)(hI:Is ns e0 root)(hde:DenR e0 v0)(hgd:AllGd e0)(hT:Tab w):
 Calls Tryz.prog 115 #[.pointer (some ⟨g,0,none⟩),.int .i64 (root:Int),.agg #[.bool true,.int .i64 32]] w (aj7 w g root ns):=by
 obtain⟨w1,hw1,hb1,hs1,b1⟩:=pro1 w (.cells #[.bool true,.int .i64 32] 178);obtain⟨c0,c1,-,-⟩:=aB b1;have hr:=hI.lt;obtain⟨nr,hnr⟩:∃n,ns[root]? =some n:=⟨_,av3 hr⟩;have HB1:=hdd hb1;have HN1:=hdd (dK (hd.below hb1) hnr);have HDW:=hdd hd;have HDE:=hdd hde;have HGD:=hdd hgd;have HI0:=hdd hI;have HLN:=hdd hd.len;have HNJ:Hid (∀w',Below w.heap.size w w'->Calls Tryz.prog 165 #[.pointer (some ⟨g,0,none⟩),.int .i64 (root:Int),.agg #[.bool true,.int .i64 32]] w' (RetJ w' g root ns)):=hdd fun w' h=>qA (hd.below h) ok hlf hro hr;have HJS:Hid (∀w' j ms l (p:Nat),Below w.heap.size w w'->JG w' j ms g ns l->p∈l->GdAt ns p->Calls Tryz.prog 117 #[.pointer (some ⟨j,0,none⟩),.int .i64 (p:Int)] w' (fun e w''=>e=.returned (.tuple #[.int .i64 (sgT ns p),.nilIface])/\Fr (fun b=>b=ms) w' w''/\JG w'' j ms g ns l)):=hdd fun w' j ms l p h hj hl ⟨a,K,jj,v,hi,hg⟩=>jK hj hl (hd.below h) ok hlf hro hi hg (hT.below h);have HBE:Hid (∀w' b0,Below w.heap.size w w'->w'.heap[b0]? =some (.cells #[.int .i64 (root:Int)] 3 (0,0))->Calls Tryz.prog 153 #[.pointer (some ⟨g,0,none⟩),.slice (some ⟨b0,0,none⟩) 1 1] w' (lV w' ns root)):=hdd fun w' b0 h hb=>gP (hd.below h) ok hr hb
 clear hd ok hlf hro hr hb1 b1 hs1 hnr hI hde hgd hT;have hst:=aN;go_enter Tryz.func115,Tryz.ntmps115
 go_wp2_with fail
 refine HN1.out.mono ?_;rintro e w2⟨rfl,hb2⟩;obtain⟨w3,hw3,z0,z1,z2,z3,y0,y1,y2,y3,w4,hw4,hb4,hs4⟩:=new4 w2 137 (.int .i64 0) (.float .f64 0) (.int .i64 0) (.int .i64 0) (.int .i64 nr.kind) (.float .f64 nr.val) (.int .i64 nr.a) (.int .i64 nr.b);have h14:=aA hb2 hb4;replace c0:=cbl c0 h14;replace c1:=cbl c1 h14;have HB4:=hdd (HB1.out.trans (h14.mono HB1.out.size));clear hb2 hb4 hs4 h14;go_wp2_with fail
 refine(HNJ.out _ HB4.out).mono ?_;rintro e w5⟨hb5,j,ms,l0,rfl,hms,hms5,hI0,hjp⟩;obtain⟨w6,hw6,hb6,hs6,b6⟩:=pro1 w5 (.cells #[.int .i64 (root:Int)] 3);have h46:=aA hb5 hb6;have HB6:=hdd (HB4.out.trans (h46.mono HB4.out.size));have HJ6:=hdd (hjp.below hb6);have HIL:=hdd hI0;have HM6:Hid (ms<w6.heap.size):=hdd (by have:=hb6.size;omega);have HMS:=hdd (Nat.le_trans HB4.out.size hms);have HBE6:=hdd (HBE.out w6 _ HB6.out b6);clear hb5 hb6 hs6 b6 h46 hjp hms hms5 hI0 c0 c1 z0 z1 z2 z3 y0 y1 y2 y3 hw3 hw4;go_wp2_with fail
 refine HBE6.out.mono ?_;rintro e w7⟨hb7,v7,l,rfl,hl,hI⟩;obtain⟨bl,cl,rfl,hlc,hcm,-⟩:=id hl;have HL:=hdd hl;have HI:=hdd hI;have HB7:=hdd (HB6.out.trans (hb7.mono HB6.out.size));have HJ7:=hdd (HJ6.out.below hb7);have HMS7:Hid (w.heap.size<=ms):=HMS;have HLL:=hdd (kN hI HLN.out);clear hb7 hl hI hlc hcm hw6;go_wp2_with fail
 go_loopw [37] (fun i wr=>∃k:Nat,k<=l.length/\i=.int .i64 (k:Int)/\Hid (Fr (fun b=>b=ms) w7 wr)/\Hid (JG wr j ms g ns l0)) (fun i _=>((l.length:Int)-intOf i).toNat)
 case atStart=>exact⟨0,Nat.zero_le _,rfl,hdd (Fr.of_below (Below.refl _ _)),HJ7⟩
 case round=>
  obtain⟨k,hk,rfl,HF,HJR⟩:=hrel;have HBR:Hid (Below w.heap.size w wr):=hdd (HB7.out.trans (HF.out.below HB7.out.size (fun b hb=>by have:=HMS.out;omega)));rcases Nat.lt_or_ge k l.length with hlt|hge
  . obtain⟨x,hx⟩:∃x,l[k]? =some x:=⟨_,av3 hlt⟩
    have hxl:x<ns.length:=HI.out.lt x (av4 hx);obtain⟨n,hn⟩:∃n,ns[x]? =some n:=⟨_,av3 hxl⟩;have cx:=(HL.out.fr HF.out (fun b hb=>by have:=HM6.out;omega)).cell hx;have HN:=hdd (dK (HDW.out.below HBR.out) hn);have hkI:(k:Int)<(l.length:Int):=by omega
    have hk0:(0:Int)<=(k:Int):=by omega
    have hlI:(l.length:Int)<=20000:=by have:=HLL.out;omega
    have HKL:=hdd hlt;have hx0:x∈l0:=aeY HI.out HIL.out x (av4 hx);have hkc:=wI (tJ HIL.out HI0.out x hx0) hn;have HCL:Hid (∀o∈opsN n,∃y∈l0,(y:Int)=o):=hdd (HIL.out.cl x hx0 n hn);clear hx hn hxl hlt hx0;rcases hkc with ⟨hk4,hk5⟩|⟨a,b,p,q,rfl,hs,hi⟩|⟨a,p,rfl,hs,hi⟩
    . go_wp2_with fail
      refine HN.out.mono ?_;rintro e w8⟨rfl,hb8⟩;obtain⟨w9,hw9,z0,z1,z2,z3,y0,y1,y2,y3,wa,hwa,hba,hsa⟩:=new4 w8 137 (.int .i64 0) (.float .f64 0) (.int .i64 0) (.int .i64 0) (.int .i64 n.kind) (.float .f64 n.val) (.int .i64 n.a) (.int .i64 n.b);obtain⟨x0,x1,x2,x3⟩:=aY hsa;have HFa:=hdd (HF.out.trans (Fr.of_below (aA hb8 hba)));have HJa:=hdd (HJR.out.below (aA hb8 hba));clear hb8 hba hsa cx;go_wp2_with fail
      go_roundw
      case rel=>exact⟨k+1,by have:=HKL.out;omega,by go_num,HFa,HJa⟩
      case measure=>have:=HKL.out;simp[intOf];omega
    . obtain⟨hga,hsg⟩:=aeX HDE.out HGD.out hs hi
      have hq0:q∈l0:=by
       obtain⟨y,hy,e⟩:=HCL.out (q:Int) (by simp[opsN]);have:y=q:=by omega
       rw[<-this];exact hy
      have HGA:=hdd hga;have HQ0:=hdd hq0;clear hga hq0 hs hi;dsimp only at HN;go_wp2_with fail
      refine HN.out.mono ?_;rintro e w8⟨rfl,hb8⟩;obtain⟨w9,hw9,z0,z1,z2,z3,y0,y1,y2,y3,wa,hwa,hba,hsa⟩:=new4 w8 137 (.int .i64 0) (.float .f64 0) (.int .i64 0) (.int .i64 0) (.int .i64 4) (.float .f64 0) (.int .i64 (p:Int)) (.int .i64 (q:Int));obtain⟨x0,x1,x2,x3⟩:=aY hsa;have HFa:=hdd (HF.out.trans (Fr.of_below (aA hb8 hba)));have HJa:=hdd (HJR.out.below (aA hb8 hba));have HBa:=hdd (HBR.out.trans ((aA hb8 hba).mono HBR.out.size));clear hb8 hba hsa cx;go_wp2_with fail
      refine(HJS.out _ _ _ _ q HBa.out HJa.out HQ0.out HGA.out).mono ?_;rintro e wb⟨rfl,hfb,hjb⟩;have HFb:=hdd (HFa.out.trans hfb);have HJb:=hdd hjb;clear hfb hjb x0 x1 x2 x3 z0 z1 z2 z3 y0 y1 y2 y3 hw9 hwa;generalize sgT ns q=S at*;go_wp2_with fail
      go_roundw
      case rel=>exact⟨k+1,by have:=HKL.out;omega,by go_num,HFb,HJb⟩
      case measure=>have:=HKL.out;simp[intOf];omega
    . obtain⟨hga,hsg⟩:=acB HDE.out HGD.out hs hi
      have hq0:p∈l0:=by
       obtain⟨y,hy,e⟩:=HCL.out (p:Int) (by simp[opsN]);have:y=p:=by omega
       rw[<-this];exact hy
      have HGA:=hdd hga;have HQ0:=hdd hq0;clear hga hq0 hs hi;dsimp only at HN;go_wp2_with fail
      refine HN.out.mono ?_;rintro e w8⟨rfl,hb8⟩;obtain⟨w9,hw9,z0,z1,z2,z3,y0,y1,y2,y3,wa,hwa,hba,hsa⟩:=new4 w8 137 (.int .i64 0) (.float .f64 0) (.int .i64 0) (.int .i64 0) (.int .i64 5) (.float .f64 0) (.int .i64 (p:Int)) (.int .i64 0);obtain⟨x0,x1,x2,x3⟩:=aY hsa;have HFa:=hdd (HF.out.trans (Fr.of_below (aA hb8 hba)));have HJa:=hdd (HJR.out.below (aA hb8 hba));have HBa:=hdd (HBR.out.trans ((aA hb8 hba).mono HBR.out.size));clear hb8 hba hsa cx;go_wp2_with fail
      refine(HJS.out _ _ _ _ p HBa.out HJa.out HQ0.out HGA.out).mono ?_;rintro e wb⟨rfl,hfb,hjb⟩;have HFb:=hdd (HFa.out.trans hfb);have HJb:=hdd hjb;clear hfb hjb x0 x1 x2 x3 z0 z1 z2 z3 y0 y1 y2 y3 hw9 hwa;generalize sgT ns p=S at*;go_wp2_with fail
      go_roundw
      case rel=>exact⟨k+1,by have:=HKL.out;omega,by go_num,HFb,HJb⟩
      case measure=>have:=HKL.out;simp[intOf];omega
  . have hke:k=l.length:=by omega
    subst hke;have HRES:Hid (aj7 w g root ns (.returned (.tuple #[.pointer (some ⟨j,0,none⟩),.nilIface])) wr):=hdd ⟨HBR.out,j,ms,l0,rfl,HMS.out,HIL.out,HJR.out⟩;clear hk hge;go_wp2
    go_ret2
    exact HRES.out
theorem acC{root K jj:Nat}(hd:DagP w g ns)(ok:OkNs ns)(hlf:fP ns)(hro:fQ ns)(hI:Is ns e0 root)(hG:Gd K jj e0 v0)(hgd:AllGd e0)(hT:Tab w):
 Calls Tryz.prog 68 #[.pointer (some ⟨g,0,none⟩),.int .i64 (root:Int),.slice none 0 0] w (fun e w'=>e=.returned (.tuple #[.int .i64 (Re.sgn v0),.nilIface])/\Below w.heap.size w w'):=by
 have HEX:Hid (∀w',Below w.heap.size w w'->Calls Tryz.prog 115 #[.pointer (some ⟨g,0,none⟩),.int .i64 (root:Int),.agg #[.bool true,.int .i64 32]] w' (aj7 w' g root ns)):=hdd fun w' h=>z8 (hd.below h) ok hlf hro hI hG.den hgd (hT.below h);have HJS:Hid (∀w' j ms l,Below w.heap.size w w'->JG w' j ms g ns l->root∈l->Calls Tryz.prog 117 #[.pointer (some ⟨j,0,none⟩),.int .i64 (root:Int)] w' (fun e w''=>e=.returned (.tuple #[.int .i64 (Re.sgn v0),.nilIface])/\Fr (fun b=>b=ms) w' w''/\JG w'' j ms g ns l)):=hdd fun w' j ms l h hj hl=>by
  have:=jK hj hl (hd.below h) ok hlf hro hI hG (hT.below h);rwa[mM hI hG.den]at this
 clear hd ok hlf hro hI hG hgd hT;go_enter Tryz.func68,Tryz.ntmps68
 go_wp2_with fail
 refine chosen_any.mono ?_;rintro e w1⟨rfl,hb1⟩;have HB1:=hdd hb1;clear hb1;go_wp2_with fail
 refine(HEX.out _ HB1.out).mono ?_;rintro e w2⟨hb2,j,ms,l,rfl,hms,hIB,hjp⟩;have HB2:=hdd (HB1.out.trans (hb2.mono HB1.out.size));have HMS:=hdd (Nat.le_trans HB1.out.size hms);have HJC:=hdd (HJS.out _ j ms l HB2.out hjp hIB.rt);clear hb2 hms hjp hIB HJS HEX;go_wp2_with fail
 refine HJC.out.mono ?_;rintro e w3⟨rfl,hf,-⟩;have HB3:=hdd (HB2.out.trans (hf.below HB2.out.size (fun b hb=>by have:=HMS.out;omega)));clear hf;go_wp2
 go_ret2
 exact⟨rfl,HB3.out⟩
end
section
open Go.RowKit Go.Maps
open Re (rat ofI ofN)
open Bool renaming and_eq_true->av5
variable{P:Ex->Prop}{ns:List Nd}{l:Nat}
theorem aeZ(h:AllIs P ns):OkNs ns:=by
 intro i n hn;rcases h.before hn with ⟨h0,-⟩|⟨hk,-,a,b,h1,h2,h3,h4⟩|⟨h5,-,-,a,h1,h2⟩
 . exact⟨Or.inl h0,fun o ho=>by simp[opsN,h0]at ho⟩
 . refine⟨Or.inr (Or.inr (by rcases hk with h|h|h|h<;>omega)),fun o ho=> ?_⟩
   have:n.kind≠0/\n.kind≠5:=by rcases hk with h|h|h|h<;>omega
   simp only[opsN,this.1,this.2,if_false,List.mem_cons,List.not_mem_nil,or_false]at ho;rcases ho with rfl|rfl<;>omega
 . refine⟨Or.inr (Or.inl h5),fun o ho=> ?_⟩
   have:n.kind≠0:=by omega
   rw[show opsN n=[n.a] from by unfold opsN;rw[if_neg this,if_pos h5]]at ho;simp only[List.mem_cons,List.not_mem_nil,or_false]at ho;omega
theorem yE(h:AllIs P ns):fP ns:=by
 intro i n hn h0;rcases h.before hn with ⟨-,h1,h2⟩|⟨hk,-⟩|⟨h5,-⟩
 . exact⟨h1,h2⟩
 . rcases hk with h|h|h|h<;>omega
 . omega
theorem yF(h:AllIs P ns):fQ ns:=by
 intro i n hn h0;rcases h.before hn with ⟨h1,-⟩|⟨hk,-⟩|⟨-,-,h2,-⟩
 . omega
 . rcases hk with h|h|h|h<;>omega
 . exact h2
theorem akB{x:Ex}{K j:Nat}{v:Re}(hG:Gd K j x v)(hA:AllGd x):gM P x (Re.sgn v):=
 fun B N w g k ns hs hi=>acC hs.dag (aeZ hs.all) (yE hs.all) (yF hs.all) hi hG hA hs.tab
theorem AllGd.leaf (v:Nat):AllGd (.leaf v):=⟨fun a b h=>(by cases h),fun a h=>(by cases h)⟩
theorem AllGd.add {a b:Ex}(h:AllGd a)(k:AllGd b):AllGd (.add a b):=
 ⟨fun x y s=>by cases s with|addL s=>exact h.1 x y s|addR s=>exact k.1 x y s,fun x s=>by cases s with|addL s=>exact h.2 x s|addR s=>exact k.2 x s⟩
theorem AllGd.sub {a b:Ex}(h:AllGd a)(k:AllGd b):AllGd (.sub a b):=
 ⟨fun x y s=>by cases s with|subL s=>exact h.1 x y s|subR s=>exact k.1 x y s,fun x s=>by cases s with|subL s=>exact h.2 x s|subR s=>exact k.2 x s⟩
theorem AllGd.mul {a b:Ex}(h:AllGd a)(k:AllGd b):AllGd (.mul a b):=
 ⟨fun x y s=>by cases s with|mulL s=>exact h.1 x y s|mulR s=>exact k.1 x y s,fun x s=>by cases s with|mulL s=>exact h.2 x s|mulR s=>exact k.2 x s⟩
section
variable{L:List Ex}{a b:Ex}{x y z:Re}{k m n:Nat}
end
section
variable{L:List Ex}{b:Nat}{x:Int}
end
inductive Sh where
 |leaf (n l:Nat)
 |add (a b:Sh)
 |mul (a b:Sh)
 |div (a b:Sh)
 |root (a:Sh)
 |lit (c:Ct) (k:Nat)
def Sh.ct (K:Nat):Sh->Ct
 | .leaf n l=>⟨n,65536,n,l,1100⟩
 | .add a b=>jJ 65536 (a.ct K) (b.ct K)
 | .mul a b=>an4 65536 (a.ct K) (b.ct K)
 | .div a b=>an5 65536 K (a.ct K) (b.ct K)
 | .root a=>nZ 65536 (a.ct K)
 | .lit c _=>c
def Sh.cost:Sh->Nat
 | .leaf n l=>n+l
 | .add a b=>1+a.cost+b.cost
 | .mul a b=>a.cost+b.cost
 | .div a b=>a.cost+b.cost
 | .root a=>a.cost
 | .lit _ k=>k
def Sh.top (K:Nat)(s:Sh):Bool:=decide (K<=15/\s.cost<=1000000/\(s.ct K).s<=4000000/\max (s.ct K).u (s.ct K).l*2^K+1<=32768/\((max (s.ct K).u (s.ct K).l*2^K+2:Nat):Int)<=(s.ct K).W)
def Sh.ok (K:Nat):Sh->Bool
 | .leaf n l=>decide (n<=53/\l<=1000)
 | .add a b=>a.ok K&&b.ok K
 | .mul a b=>a.ok K&&b.ok K
 | .div a b=>a.ok K&&(b.ok K&&(b.top K&&decide (ctG K (b.ct K)<=(b.ct K).W)))
 | .root a=>a.ok K&&a.top K
 | .lit ..=>true
structure FitC(L:List Ex)(s:Sh)(e:Ex)(v:Re):Prop where
 vl:Vl L 65536 e v (s.ct L.length)
 cost:cO e<=s.cost
 gd:AllGd e
def Fit(L:List Ex)(s:Sh)(e:Ex)(v:Re):Prop:=s.ok L.length=true->FitC L s e v
theorem anK:(32*2^11:Int)=65536:=by decide
section
variable{L:List Ex}{s t:Sh}{a b:Ex}{x y z:Re}
theorem FitC.good (h:FitC L s a x)(ht:s.top L.length=true):Gd L.length 11 a x:=by
 obtain⟨h1,h2,h3,h4,h5⟩:=of_decide_eq_true ht;have hv:=h.vl;rw[<-anK]at hv;exact Gd.of hv nlr (by omega) h1 (Nat.le_trans h.cost h2) h3 h4 h5
theorem Fit.add (h:Fit L s a x)(g:Fit L t b y):Fit L (.add s t) (.add a b) (x+y):=fun k=>by
 simp only[Sh.ok,av5]at k;have h:=h k.1;have g:=g k.2;exact⟨Vl.add (by omega) h.vl g.vl,by have:=h.cost;have:=g.cost;simp only[cO,Sh.cost];omega,h.gd.add g.gd⟩
theorem Fit.sub (h:Fit L s a x)(g:Fit L t b y):Fit L (.add s t) (.sub a b) (x-y):=fun k=>by
 simp only[Sh.ok,av5]at k;have h:=h k.1;have g:=g k.2;exact⟨Vl.sub (by omega) h.vl g.vl,by have:=h.cost;have:=g.cost;simp only[cO,Sh.cost];omega,h.gd.sub g.gd⟩
theorem Fit.mul (h:Fit L s a x)(g:Fit L t b y):Fit L (.mul s t) (.mul a b) (x*y):=fun k=>by
 simp only[Sh.ok,av5]at k;have h:=h k.1;have g:=g k.2;exact⟨Vl.mul (by omega) h.vl g.vl,by have:=h.cost;have:=g.cost;simp only[cO,Sh.cost];omega,h.gd.mul g.gd⟩
theorem Fit.sgn (h:Fit L s a x)(hs:(s.ok L.length&&s.top L.length)=true):gM P a (Re.sgn x):=by
 rw[av5]at hs;exact akB ((h hs.1).good hs.2) (h hs.1).gd
end
theorem akC{b m:Nat}{x:Int}(hl:l+m=1074)(hv:fv b=x*((2^m:Nat):Int)):aW b=mkDy x (-(l:Int)):=by
 unfold aW;rw[hv];have:=ajI x (-(l:Int)) m;rwa[show-(l:Int)-(m:Int)=-1074 by omega]at this
theorem aoA{x:Int}{n:Nat}(h:x.natAbs<2^n):-p2 n<(x:Rat)*p2 (-(l:Int))/\(x:Rat)*p2 (-(l:Int))<p2 n:=by
 have e:=fA n;have h1:p2 (-(l:Int))<=1:=by rw[<-lD];exact iL (by omega)
 have h0:=bD (-(l:Int));have h2:(x:Rat)<p2 n/\-p2 n<(x:Rat):=by
  rw[e,<-Rat.intCast_natCast,<-Rat.intCast_neg];exact⟨Rat.intCast_lt_intCast.2 (by omega),Rat.intCast_lt_intCast.2 (by omega)⟩
 generalize p2 (-(l:Int))=u at*;generalize (x:Rat)=q at*;generalize p2 (n:Int)=m at*;have hm:0<m:=by grind
 have a1:0<=(m-q)*u:=Rat.mul_nonneg (by grind) (by grind);have a2:0<=(m+q)*u:=Rat.mul_nonneg (by grind) (by grind);have a3:0<=m*(1-u):=Rat.mul_nonneg (by grind) (by grind);have a4:0<(m-q)*u:=Rat.mul_pos (by grind) h0;have a5:0<(m+q)*u:=Rat.mul_pos (by grind) h0;constructor<;>grind
theorem Fit.dleaf {L:List Ex}{b n m:Nat}{x:Int}(hb:b<18446744073709551616)(hf:fin b)(hl:l+m=1074)(hv:fv b=x*((2^m:Nat):Int))(h:x.natAbs<2^n):Fit L (.leaf n l) (.leaf b) (rat ((x:Rat)*p2 (-(l:Int)))):=fun k=>by
 have k:=of_decide_eq_true k;have e:=akC hl hv;have er:rv (aW b)=(x:Rat)*p2 (-(l:Int)):=by rw[e,kL]
 obtain⟨r1,r2⟩:=aoA (l:=l) h;have h3:(aW b).man≠0->-(l:Int)<=(aW b).exp/\topD (aW b)<=n:=fun hn=>⟨by rw[e]at hn|-;exact mF hn,qW hn (by rw[er];exact r1) (by rw[er];exact r2)⟩;have h4:bits (aW b).man.natAbs<=n:=by
  rw[e];exact Nat.le_trans (pJ x _) ((aD _ _).2 h)
 have hu:jH b<=n:=by
  unfold jH;split
  . omega
  . rename_i hn
    have:=h3 hn;unfold topD at this;rw[if_neg hn]at this;omega
 have hl:jI b<=l:=by
  unfold jI;split
  . omega
  . rename_i hn;have:=h3 hn;omega
 have hv:=Vl.leaf (L:=L) (P:=65536) (M:=n) hf hb ⟨by rw[e];exact Canon.mk _ _,by omega,fun hn=>by have:=h3 hn;omega⟩ ⟨by rw[er];grind,by rw[er];grind⟩ hu hl;rw[er]at hv;exact⟨hv,by simp only[cO,Sh.cost];omega,AllGd.leaf b⟩
theorem Fit.leaf {L:List Ex}{b:Nat}{x:Int}(n:Nat)(hb:b<18446744073709551616)(hf:fin b)(hv:fv b=x*(U74:Int))(h:x.natAbs<2^n):Fit L (.leaf n 0) (.leaf b) (ofI x):=by
 obtain⟨u,hu,hU⟩:=iU;have:=Fit.dleaf (L:=L) (n:=n) (l:=0) (x:=x) hb hf (m:=u) (by omega) (by rw[hv,hU]) h;rwa[show-((0:Nat):Int)=0 by rfl,lD,Rat.mul_one]at this
end
section
open Ieee

end
section
open Go.RowKit Go.Maps
open Re (rat ofI ofN)
variable{P:Ex->Prop}
section
variable{L:List Ex}{A B C D A' B' C':Ex}{a b c d a' b' c':Re}{i j k l i' j' k':Nat}
end
theorem asN:fv 0=(0:Int)*(U74:Int):=by kernel_rfl
theorem atT:fv 4607182418800017408=(1:Int)*(U74:Int):=by kernel_rfl
def fl(k:Int):Nat:=FloatKind.f64.nearest k
abbrev li(k:Int):Ex:=.leaf (fl k)
section
variable{L:List Ex}{s t:Sh}{a b:Ex}{p q:Rat}
theorem Fit.radd (h:Fit L s a (rat p))(g:Fit L t b (rat q)):Fit L (.add s t) (.add a b) (rat (p+q)):=by rw[Re.rat_add];exact h.add g
theorem Fit.rsub (h:Fit L s a (rat p))(g:Fit L t b (rat q)):Fit L (.add s t) (.sub a b) (rat (p-q)):=by rw[Re.rat_sub];exact h.sub g
theorem Fit.rmul (h:Fit L s a (rat p))(g:Fit L t b (rat q)):Fit L (.mul s t) (.mul a b) (rat (p*q)):=by rw[Re.rat_mul];exact h.mul g
theorem Fit.pos (h:Fit L s a (rat p))(hp:0<p)(hs:(s.ok L.length&&s.top L.length)=true):gM P a 1:=by
 have:=h.sgn (P:=P) hs;rwa[Re.sgn_pos (by rw[Re.zero_rat];exact Re.rat_lt.2 hp)]at this
theorem Fit.neg (h:Fit L s a (rat p))(hp:p<0)(hs:(s.ok L.length&&s.top L.length)=true):gM P a (-1):=by
 have:=h.sgn (P:=P) hs;rwa[Re.sgn_neg (by rw[Re.zero_rat];exact Re.rat_lt.2 hp)]at this
theorem Fit.zero (h:Fit L s a (rat p))(hp:p=0)(hs:(s.ok L.length&&s.top L.length)=true):gM P a 0:=by
 have:=h.sgn (P:=P) hs;rwa[hp,<-Re.zero_rat,Re.sgn_zero]at this
end
end
section
open Ieee
open Re (rat ofI ofN)

end
section
open Go.RowKit Go.Maps
open List renaming setIfInBounds_toArray->av6,set->av7
abbrev aqZ(x y:Ex)(a b c:Nat):Ex:=.sub (.add (.mul (.leaf a) x) (.mul (.leaf b) y)) (.leaf c)
theorem aq7{g i j ca cb cc:Nat}{X Y:Ex}(hca:FlOk ca)(hcb:FlOk cb)(hcc:FlOk cc):FnOk 129 g 7 #[.pointer (some ⟨g,0,none⟩),curV 1 ca cb cc,aoP g i j] [(X,i),(Y,j)] (fun ks=>numV g (ks.getD 0 0)) [aqZ X Y ca cb cc]:=FnOk.of fun w B ns N hR hN=>by
 have R1:=hdd hR;clear hR;go_enter Tryz.func129,Tryz.ntmps129
 go_upto_region 0 with fail
 refine Spec.run (S:=⟨_,fun i=>([.w (.c (.ptr 2 0)),.w (.c (.ptr 3 0)),.w (.c (.ptr 4 0))]:List SV).getD i noS,fun n=>([none,none,some 0,some 1,some 2]:List (Option Nat)).getD n none,
  [(0,X),(1,Y)],[⟨2,67,[.v (.int .i64 1),.v (.float .f64 ca),.v (.float .f64 cb),.v (.float .f64 cc)],none⟩,⟨3,69,aoU g 0 1,none⟩,⟨4,26,[.v (.pointer none),.v (.int .i64 0)],none⟩],
  fun i=>([0,0,0]:List Nat).getD i 0,fun i=>([[],[],[]]:List (List Nat)).getD i [],[(1,.w (.agg ([.v (.int .i64 1),.v (.float .f64 ca),.v (.float .f64 cb),.v (.float .f64 cc)]))),(2,ap1 g 0 1)]⟩)
  (W:=runW ⟨w,B,ns⟩ g) (ν0:=fun n=>([i,j]:List Nat).getD n 0) (c0:=N)
  (fs:=fun ν=>[(4,.pointer (some ⟨(ν 2),0,none⟩)),(5,.pointer (some ⟨(ν 3),0,none⟩)),(6,.pointer (some ⟨(ν 4),0,none⟩))]) 3 N [] []
  ⟨Spec.wf_of (by kernel_rfl),ap0 (by kernel_rfl),ao7 ⟨rfl,rfl,trivial⟩⟩ R1.out (Run.nodup R1.out) (by omega)
  (fun b hM=>aoB (aoB (aoB aoF
    (aoE b m0))
    (aoE b m1))
    (aoE b m2)) ?_
 intro ν W2 hν hR;replace hR:Run ⟨w,B,ns⟩ g N [(X,ν 0),(Y,ν 1)] [((ν 2),.cells #[(.int .i64 1),(.float .f64 ca),(.float .f64 cb),(.float .f64 cc)] 67),((ν 3),apD g (ν 0) (ν 1)),((ν 4),.cells #[.pointer none,.int .i64 0] 26)] W2:=hR;have e0:ν 0=i:=hν 0 rfl;have e1:ν 1=j:=hν 1 rfl;simp only[e0,e1]at hR|-;clear hν e0 e1;generalize ν 2=b1 at hR|-;generalize ν 3=b2 at hR|-;generalize ν 4=b3 at hR|-;have R2:=hdd hR;clear hR R1;simp only[putL,av6,av7]
 go_upto_region 1 with fail
 refine Spec.run (S:=⟨_,fun i=>([.w (.c (.v (.pointer (some ⟨g,0,none⟩)))),.w (.c (.ptr 2 1)),.w (.c (.v (.float .f64 ca))),numS g 5,.w (.c (.ptr 3 0)),numS g 0,.w (.c (.sl 6 1)),numS g 7,.w (.c (.ptr 8 0)),noS]:List SV).getD i noS,fun n=>([none,none,none,none,none,some 3,some 6,some 7,some 8]:List (Option Nat)).getD n none,
  [(0,X),(1,Y),(5,(.leaf ca)),(7,(.mul (.leaf ca) X))],[⟨2,67,[.v (.int .i64 1),.v (.float .f64 ca),.v (.float .f64 cb),.v (.float .f64 cc)],none⟩,⟨3,69,aoU g 0 1,none⟩,⟨4,26,[.v (.pointer none),.v (.int .i64 0)],none⟩,⟨6,26,numC g 0,none⟩,⟨8,26,[.v (.pointer none),.v (.int .i64 0)],some (9,numC g 7)⟩],
  fun i=>([0,0,0,1,0,0,0,1,0,0]:List Nat).getD i 0,fun i=>([[],[],[1],[0,1,2],[],[4],[4,5],[0,1,2,3,4,5,6],[],[0,1,2,3,4,5,6,7,8]]:List (List Nat)).getD i [],[(0,.w (.c (.v (.pointer (some ⟨g,0,none⟩))))),(4,.w (.c (.ptr 2 0))),(5,.w (.c (.ptr 3 0)))]⟩)
  (W:=runW ⟨w,B,ns⟩ g) (ν0:=fun n=>([i,j,b1,b2,b3]:List Nat).getD n 0) (c0:=N)
  (fs:=fun ν=>[(9,.pointer (some ⟨g,0,none⟩)),(10,.pointer (some ⟨(ν 2),1,none⟩)),(11,(.float .f64 ca)),(12,numV g (ν 5)),(13,.pointer (some ⟨(ν 3),0,none⟩)),(14,numV g (ν 0)),(15,.slice (some ⟨(ν 6),0,none⟩) 1 1),(16,numV g (ν 7)),(7,.pointer (some ⟨(ν 8),0,none⟩))]) 10 (N+2) [] []
  ⟨Spec.wf_of (by kernel_rfl),ap0 (by kernel_rfl),ao7 ⟨rfl,rfl,rfl,trivial⟩⟩ R2.out (Run.nodup R2.out) (by omega)
  (fun b hM=>aoB (aoB (aoB (aoB (aoB (aoB (aoB (aoB (aoB (aoB aoF
    (aoC b))
    (aoC b))
    (aoJ b m0))
    (aoD b (c_of hM hca.1 hca.2 rfl rfl rfl rfl)))
    (aoC b))
    (aoG b 2 m1))
    (aoK b m3))
    (aoD b (aqD hM m2 m0 rfl rfl m3 rfl rfl rfl rfl rfl rfl rfl rfl)))
    (aoE b m4))
    (aoH b 2 m4)) ?_
 intro ν W3 hν hR;replace hR:Run ⟨w,B,ns⟩ g (N+2) [(X,ν 0),(Y,ν 1),((.leaf ca),ν 5),((.mul (.leaf ca) X),ν 7)] [((ν 2),.cells #[(.int .i64 1),(.float .f64 ca),(.float .f64 cb),(.float .f64 cc)] 67),((ν 3),apD g (ν 0) (ν 1)),((ν 4),.cells #[.pointer none,.int .i64 0] 26),((ν 6),numO g (ν 0)),((ν 8),numO g (ν 7))] W3:=hR;have e0:ν 0=i:=hν 0 rfl;have e1:ν 1=j:=hν 1 rfl;have e2:ν 2=b1:=hν 2 rfl;have e3:ν 3=b2:=hν 3 rfl;have e4:ν 4=b3:=hν 4 rfl;simp only[e0,e1,e2,e3,e4]at hR|-;clear hν e0 e1 e2 e3 e4;generalize ν 5=n4 at hR|-;generalize ν 6=b5 at hR|-;generalize ν 7=n6 at hR|-;generalize ν 8=b7 at hR|-;have R3:=hdd hR;clear hR R2;simp only[putL,av6,av7]
 go_upto_region 2 with fail
 refine Spec.run (S:=⟨_,fun i=>([.w (.c (.v (.pointer (some ⟨g,0,none⟩)))),.w (.c (.ptr 2 2)),.w (.c (.v (.float .f64 cb))),numS g 7,.w (.c (.ptr 3 2)),numS g 1,.w (.c (.sl 8 1)),numS g 9,.w (.c (.ptr 10 0)),noS]:List SV).getD i noS,fun n=>([none,none,none,none,none,none,none,some 3,some 6,some 7,some 8]:List (Option Nat)).getD n none,
  [(0,X),(1,Y),(5,(.mul (.leaf ca) X)),(7,(.leaf cb)),(9,(.mul (.leaf cb) Y))],[⟨2,67,[.v (.int .i64 1),.v (.float .f64 ca),.v (.float .f64 cb),.v (.float .f64 cc)],none⟩,⟨3,69,aoU g 0 1,none⟩,⟨4,26,[.v (.pointer none),.v (.int .i64 0)],none⟩,⟨6,26,numC g 5,none⟩,⟨8,26,numC g 1,none⟩,⟨10,26,[.v (.pointer none),.v (.int .i64 0)],some (9,numC g 9)⟩],
  fun i=>([0,0,0,1,0,0,0,1,0,0]:List Nat).getD i 0,fun i=>([[],[],[1],[0,1,2],[],[4],[4,5],[0,1,2,3,4,5,6],[],[0,1,2,3,4,5,6,7,8]]:List (List Nat)).getD i [],[(0,.w (.c (.v (.pointer (some ⟨g,0,none⟩))))),(4,.w (.c (.ptr 2 0))),(5,.w (.c (.ptr 3 0)))]⟩)
  (W:=runW ⟨w,B,ns⟩ g) (ν0:=fun n=>([i,j,b1,b2,b3,n6,b7]:List Nat).getD n 0) (c0:=(N+2))
  (fs:=fun ν=>[(17,.pointer (some ⟨g,0,none⟩)),(18,.pointer (some ⟨(ν 2),2,none⟩)),(19,(.float .f64 cb)),(20,numV g (ν 7)),(21,.pointer (some ⟨(ν 3),2,none⟩)),(22,numV g (ν 1)),(23,.slice (some ⟨(ν 8),0,none⟩) 1 1),(24,numV g (ν 9)),(8,.pointer (some ⟨(ν 10),0,none⟩))]) 10 (N+4) [true,true,false] [true,true,true,false]
  ⟨Spec.wf_of (by kernel_rfl),ap0 (by kernel_rfl),ao7 ⟨rfl,rfl,rfl,trivial⟩⟩ R3.out (Run.nodup R3.out) (by omega)
  (fun b hM=>aoB (aoB (aoB (aoB (aoB (aoB (aoB (aoB (aoB (aoB aoF
    (aoC b))
    (aoC b))
    (aoJ b m0))
    (aoD b (c_of hM hcb.1 hcb.2 rfl rfl rfl rfl)))
    (aoC b))
    (aoG b 2 m1))
    (aoK b m4))
    (aoD b (aqD hM m3 m1 rfl rfl m4 rfl rfl rfl rfl rfl rfl rfl rfl)))
    (aoE b m5))
    (aoH b 2 m5)) ?_
 intro ν W4 hν hR;replace hR:Run ⟨w,B,ns⟩ g (N+4) [(X,ν 0),(Y,ν 1),((.mul (.leaf ca) X),ν 5),((.leaf cb),ν 7),((.mul (.leaf cb) Y),ν 9)] [((ν 2),.cells #[(.int .i64 1),(.float .f64 ca),(.float .f64 cb),(.float .f64 cc)] 67),((ν 3),apD g (ν 0) (ν 1)),((ν 4),.cells #[.pointer none,.int .i64 0] 26),((ν 6),numO g (ν 5)),((ν 8),numO g (ν 1)),((ν 10),numO g (ν 9))] W4:=hR;have e0:ν 0=i:=hν 0 rfl;have e1:ν 1=j:=hν 1 rfl;have e2:ν 2=b1:=hν 2 rfl;have e3:ν 3=b2:=hν 3 rfl;have e4:ν 4=b3:=hν 4 rfl;have e5:ν 5=n6:=hν 5 rfl;have e6:ν 6=b7:=hν 6 rfl;simp only[e0,e1,e2,e3,e4,e5,e6]at hR|-;clear hν e0 e1 e2 e3 e4 e5 e6;generalize ν 7=n8 at hR|-;generalize ν 8=b9 at hR|-;generalize ν 9=n10 at hR|-;generalize ν 10=b11 at hR|-;have R4:=hdd hR;clear hR R3;simp only[putL,av6,av7]
 go_upto_region 3 with fail
 refine Spec.run (S:=⟨_,fun i=>([numS g 2,numS g 4,.w (.c (.sl 6 1)),numS g 7,.w (.c (.v (.pointer (some ⟨g,0,none⟩)))),.w (.c (.ptr 0 3)),.w (.c (.v (.float .f64 cc))),numS g 8,numS g 9,noS]:List SV).getD i noS,fun n=>([none,none,none,none,none,none,some 2,some 3,some 7,some 8]:List (Option Nat)).getD n none,
  [(2,(.mul (.leaf ca) X)),(4,(.mul (.leaf cb) Y)),(7,(.add (.mul (.leaf ca) X) (.mul (.leaf cb) Y))),(8,(.leaf cc)),(9,(.sub (.add (.mul (.leaf ca) X) (.mul (.leaf cb) Y)) (.leaf cc)))],[⟨0,67,[.v (.int .i64 1),.v (.float .f64 ca),.v (.float .f64 cb),.v (.float .f64 cc)],none⟩,⟨1,26,[.v (.pointer none),.v (.int .i64 0)],some (9,numC g 9)⟩,⟨3,26,numC g 2,none⟩,⟨5,26,numC g 4,none⟩,⟨6,26,numC g 4,none⟩],
  fun i=>([0,0,0,1,0,0,0,1,1,0]:List Nat).getD i 0,fun i=>([[],[],[1],[0,1,2],[],[],[5],[4,5,6],[0,1,2,3,4,5,6,7],[0,1,2,3,4,5,6,7,8]]:List (List Nat)).getD i [],[(7,.w (.c (.ptr 3 0))),(8,.w (.c (.ptr 5 0))),(0,.w (.c (.v (.pointer (some ⟨g,0,none⟩))))),(4,.w (.c (.ptr 0 0))),(6,.w (.c (.ptr 1 0)))]⟩)
  (W:=runW ⟨w,B,ns⟩ g) (ν0:=fun n=>([b1,b3,n6,b7,n10,b11]:List Nat).getD n 0) (c0:=(N+4))
  (fs:=fun ν=>[(25,numV g (ν 2)),(26,numV g (ν 4)),(27,.slice (some ⟨(ν 6),0,none⟩) 1 1),(28,numV g (ν 7)),(29,.pointer (some ⟨g,0,none⟩)),(30,.pointer (some ⟨(ν 0),3,none⟩)),(31,(.float .f64 cc)),(32,numV g (ν 8)),(33,numV g (ν 9))]) 10 (N+7) [false,false,true,false] [true,false,true,true,false]
  ⟨Spec.wf_of (by kernel_rfl),ap0 (by kernel_rfl),ao7 ⟨rfl,rfl,rfl,rfl,rfl,trivial⟩⟩ R4.out (Run.nodup R4.out) (by omega)
  (fun b hM=>aoB (aoB (aoB (aoB (aoB (aoB (aoB (aoB (aoB (aoB aoF
    (aoG b 2 m2))
    (aoG b 2 m3))
    (aoK b m4))
    (aoD b (atE hM m0 m1 rfl rfl m4 rfl rfl rfl rfl rfl rfl rfl rfl)))
    (aoC b))
    (aoC b))
    (aoJ b m0))
    (aoD b (c_of hM hcc.1 hcc.2 rfl rfl rfl rfl)))
    (aoD b (aqC hM m2 m3 rfl rfl rfl rfl rfl rfl)))
    (aoH b 2 m1)) ?_
 intro ν W5 hν hR;replace hR:Run ⟨w,B,ns⟩ g (N+7) [((.mul (.leaf ca) X),ν 2),((.mul (.leaf cb) Y),ν 4),((.add (.mul (.leaf ca) X) (.mul (.leaf cb) Y)),ν 7),((.leaf cc),ν 8),((.sub (.add (.mul (.leaf ca) X) (.mul (.leaf cb) Y)) (.leaf cc)),ν 9)] [((ν 0),.cells #[(.int .i64 1),(.float .f64 ca),(.float .f64 cb),(.float .f64 cc)] 67),((ν 1),numO g (ν 9)),((ν 3),numO g (ν 2)),((ν 5),numO g (ν 4)),((ν 6),numO g (ν 4))] W5:=hR;have e0:ν 0=b1:=hν 0 rfl;have e1:ν 1=b3:=hν 1 rfl;have e2:ν 2=n6:=hν 2 rfl;have e3:ν 3=b7:=hν 3 rfl;have e4:ν 4=n10:=hν 4 rfl;have e5:ν 5=b11:=hν 5 rfl;simp only[e0,e1,e2,e3,e4,e5]at hR|-;clear hν e0 e1 e2 e3 e4 e5;generalize ν 6=b12 at hR|-;generalize ν 7=n13 at hR|-;generalize ν 8=n14 at hR|-;generalize ν 9=n15 at hR|-;have R5:=hdd hR;clear hR R4;simp only[putL,av6,av7];go_wp2;obtain⟨x0,x1,-,-⟩:=aB (R5.out.at m1);refine bodyPost_ret (v:=.agg #[_,_]) (by simp[results,Tryz.results129,go_sem,x0,x1];first|exact⟨rfl,rfl⟩|rfl) rfl ?_;exact⟨[n15],rfl,rfl,_,R5.out.few (aoM [4])⟩
end
end Go.Proofs.YtkpodipoegbclaaGreatDoor
