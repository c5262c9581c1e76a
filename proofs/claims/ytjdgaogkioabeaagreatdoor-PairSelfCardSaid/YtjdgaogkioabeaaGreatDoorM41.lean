/- A part of the proof: contracts of functions and plain laws (ArExClmV, ArFxClmV). -/
import Derived.Test.YtjdgaogkioabeaaGreatDoorM33
import Derived.Test.YtjdgaogkioabeaaGreatDoorM18
import Derived.Test.YtjdgaogkioabeaaGreatDoorM38
import Derived.Test.YtjdgaogkioabeaaGreatDoorM19
import Derived.Test.YtjdgaogkioabeaaGreatDoorM20
import Derived.Test.YtjdgaogkioabeaaGreatDoorM16
import Derived.Test.YtjdgaogkioabeaaGreatDoorM01
import Derived.Test.YtjdgaogkioabeaaGreatDoorM12
import Derived.Test.YtjdgaogkioabeaaGreatDoorM07
import Derived.Test.YtjdgaogkioabeaaGreatDoorM06
import Derived.Test.YtjdgaogkioabeaaGreatDoorM05
import Derived.Test.YtjdgaogkioabeaaGreatDoorM04
import Derived.Test.YtjdgaogkioabeaaGreatDoorM03
import Derived.Test.YtjdgaogkioabeaaGreatDoorM02
import Derived.Test.YtjdgaogkioabeaaGreatDoorM32
import Derived.Test.YtjdgaogkioabeaaGreatDoorM39
import Derived.Test.YtjdgaogkioabeaaGreatDoorM11
import Derived.Test.YtjdgaogkioabeaaGreatDoorM10
import Derived.Test.YtjdgaogkioabeaaGreatDoorM08
import Derived.Test.YtjdgaogkioabeaaGreatDoorM09
import Derived.Test.YtjdgaogkioabeaaGreatDoorM15
import Derived.Test.YtjdgaogkioabeaaGreatDoorM14
import Derived.Test.YtjdgaogkioabeaaGreatDoorM13
import Derived.Test.YtjdgaogkioabeaaGreatDoorM31
import Derived.Test.YtjdgaogkioabeaaGreatDoorM30
import Derived.Test.YtjdgaogkioabeaaGreatDoorM29
import Derived.Test.YtjdgaogkioabeaaGreatDoorM28
import Derived.Test.YtjdgaogkioabeaaGreatDoorM27
import Derived.Test.YtjdgaogkioabeaaGreatDoorM24
import Derived.Test.YtjdgaogkioabeaaGreatDoorM23
import Derived.Test.YtjdgaogkioabeaaGreatDoorM21
import Derived.Test.YtjdgaogkioabeaaGreatDoorM22
import Derived.Test.YtjdgaogkioabeaaGreatDoorM26
import Derived.Test.YtjdgaogkioabeaaGreatDoorM25
import Derived.Test.YtjdgaogkioabeaaGreatDoorM34
set_option linter.unusedVariables false
set_option linter.unusedSimpArgs false
set_option maxHeartbeats 25600000
set_option maxRecDepth 100000
namespace Go.Proofs.YtjdgaogkioabeaaGreatDoor
open Go.RowKit Go.Maps Go.Stop Go.Extern
open Go.Act renaming put->bkX
open List renaming setIfInBounds_toArray->bkU,set_cons_zero->bkV,set_cons_succ->bkW,perm_middle->bkY
variable{c:Int}{b f0 f1:Nat}{P Q:Prop}
section
variable{s:Bs}{g N M:Nat}{K:List (Ex×Nat)}{L L1:List (Nat×Obj)}{W:World}{v:Value}
theorem Run.mid {o:Obj}(hR:Run s g N K (L1++(b,o)::L) W):Run s g N K ((b,o)::(L1++L)) W:=hR.perm bkY.symm
theorem Run.put4 {T:TypeId}{u0 u1 u2 u3:Value}(v0 v1 v2 v3:Value)(hR:Run s g N K (L1++(b,.cells #[u0,u1,u2,u3] T)::L) W):∃w',(((W.setCell ⟨b,0,none⟩ v0).setCell ⟨b,1,none⟩ v1).setCell ⟨b,2,none⟩ v2).setCell ⟨b,3,none⟩ v3=w'/\Run s g N K (L1++(b,.cells #[v0,v1,v2,v3] T)::L) w':=
 ⟨_,rfl,(Run.write hR.mid (dQ [v0,v1,v2,v3] 0 W) (iN (vs:=[v0,v1,v2,v3]) (hR.mid.at (List.mem_cons_self ..)) rfl)).perm bkY⟩
end
section
variable{g i j k l ca cb cc i' j' k' l' ca' cb' cc':Nat}{kd kd':Int}{A1 A2 B1 B2 C1 C2 D1 D2:Ex}{K0 KA KB:List (Ex×Nat)}
theorem aeE{r:Bool}(h:FnOk 35 g 21 #[.pointer (some ⟨g,0,none⟩),curV 1 ca cb cc,curV 1 ca' cb' cc'] [] (fun _=>.tuple #[.bool r,.nilIface]) []):
 FnOk 20 g 21 #[.pointer (some ⟨g,0,none⟩),curV 1 ca cb cc,curV 1 ca' cb' cc'] [] (fun _=>.tuple #[.bool r,.nilIface]) []:=fun s N K L W hR hN hK=>by
 obtain⟨w1,hw1,b1,b2,hR⟩:=hR.box2 (curO 1 ca cb cc) (curO 1 ca' cb' cc');obtain⟨x0,x1,x2,x3⟩:=aG b1;obtain⟨z0,z1,z2,z3⟩:=aG b2;have HC:=hdd (h.use hR hN (fun p hp=>by cases hp));clear b1 b2 hR h hN hK;go_enter Tryz.func20,Tryz.ntmps20
 go_wp2_with fail
 refine HC.out.mono ?_;rintro e w2⟨rfl,hR⟩;have HF:Hid (RtN s g (N+21) K L (fun _=>.tuple #[.bool r,.nilIface]) [] (.returned (.tuple #[.bool r,.nilIface])) w2):=hdd (by exact RtN.fin (L1:=[_,_]) hR (by omega));clear hR;go_wp2
 go_ret2
 exact HF.out
theorem aaF(h:iK PT A1 A2 B1 B2 c):
 FnOk 52 g 2 #[aN g kd ca cb cc i j k l] [(A1,i),(A2,j),(B1,k),(B2,l)] (fun _=>bif decide (0<c)then .tuple #[bE g k l,bE g i j,.nilIface]else .tuple #[bE g i j,bE g k l,.nilIface]) []:=fun s N K L W hR hN hK=>by
 obtain⟨w1,hw1,b1,hR⟩:=hR.box1 (dD g kd ca cb cc i j k l);obtain⟨x0,x1,x2,x3,x4,x5,x6,x7,x8,x9,x10,x11⟩:=aF b1;obtain⟨w2,hw2,b2,b3,hR⟩:=hR.box2 (.cells #[.pointer none,.int .i64 0,.pointer none,.int .i64 0] 36) (.cells #[.pointer none,.int .i64 0,.pointer none,.int .i64 0] 36);obtain⟨x0,x1,x2,x3,x4,x5,x6,x7,x8,x9,x10,x11⟩:=aF (hR.at m2);have HC:=hdd (hR.cmpS hN (hK _ m0) (hK _ m1) (hK _ m2) (hK _ m3) h);clear b1 b2 b3 hR h hN hK;go_enter Tryz.func52,Tryz.ntmps52
 go_wp2_with fail
 refine HC.out.mono ?_;rintro e w3⟨rfl,hR⟩;obtain⟨x0,x1,x2,x3,x4,x5,x6,x7,x8,x9,x10,x11⟩:=aF (hR.at m2);obtain⟨y0,y1,y2,y3⟩:=aG (hR.at m1);obtain⟨z0,z1,z2,z3⟩:=aG (hR.at m0);have HR:=hdd hR;clear hR
 cases e1:decide (0<c)
 . go_upto_region 6 with fail
   refine wp_region_noPanic ?_;refine pW (fun w'=>w'.cell? ⟨W.heap.size,4,none⟩=some (.pointer (some ⟨g,0,none⟩))/\w'.cell? ⟨W.heap.size,5,none⟩=some (.int .i64 (i:Int))/\w'.cell? ⟨W.heap.size,6,none⟩=some (.pointer (some ⟨g,0,none⟩))/\w'.cell? ⟨W.heap.size,7,none⟩=some (.int .i64 (j:Int))/\w'.cell? ⟨W.heap.size,8,none⟩=some (.pointer (some ⟨g,0,none⟩))/\w'.cell? ⟨W.heap.size,9,none⟩=some (.int .i64 (k:Int))/\w'.cell? ⟨W.heap.size,10,none⟩=some (.pointer (some ⟨g,0,none⟩))/\w'.cell? ⟨W.heap.size,11,none⟩=some (.int .i64 (l:Int))) (fun _=>true) (by kernel_rfl) ?_;have b2:=HR.out.at m1;have b3:=HR.out.at m0;have hS:(fun w'=>w'.cell? ⟨W.heap.size,4,none⟩=some (.pointer (some ⟨g,0,none⟩))/\w'.cell? ⟨W.heap.size,5,none⟩=some (.int .i64 (i:Int))/\w'.cell? ⟨W.heap.size,6,none⟩=some (.pointer (some ⟨g,0,none⟩))/\w'.cell? ⟨W.heap.size,7,none⟩=some (.int .i64 (j:Int))/\w'.cell? ⟨W.heap.size,8,none⟩=some (.pointer (some ⟨g,0,none⟩))/\w'.cell? ⟨W.heap.size,9,none⟩=some (.int .i64 (k:Int))/\w'.cell? ⟨W.heap.size,10,none⟩=some (.pointer (some ⟨g,0,none⟩))/\w'.cell? ⟨W.heap.size,11,none⟩=some (.int .i64 (l:Int))) w3.drew:=⟨x4,x5,x6,x7,x8,x9,x10,x11⟩
   have f2:=frzI b2;have f3:=frzI b3;clear x0 x1 x2 x3 x4 x5 x6 x7 x8 x9 x10 x11 b2 b3;refine dO 0 (.pointer (some ⟨W.heap.size,4,none⟩)) ?_ ?_ hS
   . intro w' hw;(try dsimp only at hw);go_split_ands;go_simp;all_goals rfl
   simp only[bkX,bkU,bkV,bkW];refine dO 1 (.agg #[.pointer (some ⟨g,0,none⟩),.int .i64 (i:Int),.pointer (some ⟨g,0,none⟩),.int .i64 (j:Int)]) ?_ ?_ hS
   . intro w' hw;(try dsimp only at hw);go_split_ands;go_simp;all_goals rfl
   simp only[bkX,bkU,bkV,bkW];refine dO 2 (.pointer (some ⟨W.heap.size,8,none⟩)) ?_ ?_ hS
   . intro w' hw;(try dsimp only at hw);go_split_ands;go_simp;all_goals rfl
   simp only[bkX,bkU,bkV,bkW];refine dO 3 (.agg #[.pointer (some ⟨g,0,none⟩),.int .i64 (k:Int),.pointer (some ⟨g,0,none⟩),.int .i64 (l:Int)]) ?_ ?_ hS
   . intro w' hw;(try dsimp only at hw);go_split_ands;go_simp;all_goals rfl
   simp only[bkX,bkU,bkV,bkW];refine iO 4 (by kernel_rfl) rfl fun K' hK=> ?_;go_simp;obtain⟨w4,hw4,hR⟩:=HR.out.put4 (L1:=[_]) (.pointer (some ⟨g,0,none⟩)) (.int .i64 (i:Int)) (.pointer (some ⟨g,0,none⟩)) (.int .i64 (j:Int));simp only[hw4];obtain⟨-,-,-,-,hS⟩:=aF (hR.at m2);refine hK.out _ _ (fun _=>hS) ?_;clear hw4 hK hS HR y0 y1 y2 y3 z0 z1 z2 z3 f2 f3;have b3:=hR.at m0;have f3:=frzI b3;obtain⟨z0,z1,z2,z3⟩:=aG b3;refine iO 5 (by kernel_rfl) rfl fun K' hK=> ?_;go_simp;obtain⟨w5,hw5,hR⟩:=hR.put4 (L1:=[]) (.pointer (some ⟨g,0,none⟩)) (.int .i64 (k:Int)) (.pointer (some ⟨g,0,none⟩)) (.int .i64 (l:Int));simp only[hw5];obtain⟨-,-,-,-,hS⟩:=aF (hR.at m2);refine hK.out _ _ (fun _=>hS) ?_;clear hw5 hK z0 z1 z2 z3 f3 b3;refine iO 6 (by kernel_rfl) rfl fun K' hK=> ?_;go_simp;refine hK.out _ _ (fun _=>hS) ?_;refine sO (by kernel_rfl) ?_;refine NoPanic.normal ?_;have hR:=hR.drew;clear hK;generalize w5.drew=w6 at hR|-
   obtain⟨y0,y1,y2,y3⟩:=aG (hR.at m1);obtain⟨z0,z1,z2,z3⟩:=aG (hR.at m0);have HF:=hdd (RtN.fin (L1:=[_,_,_]) (N:=N+2) (v:=.tuple #[(.agg #[.pointer (some ⟨g,0,none⟩),.int .i64 (i:Int),.pointer (some ⟨g,0,none⟩),.int .i64 (j:Int)]),(.agg #[.pointer (some ⟨g,0,none⟩),.int .i64 (k:Int),.pointer (some ⟨g,0,none⟩),.int .i64 (l:Int)]),.nilIface]) hR (by omega));clear hR;go_wp2;exact bodyPost_ret (v:=.tuple #[(.agg #[.pointer (some ⟨g,0,none⟩),.int .i64 (i:Int),.pointer (some ⟨g,0,none⟩),.int .i64 (j:Int)]),(.agg #[.pointer (some ⟨g,0,none⟩),.int .i64 (k:Int),.pointer (some ⟨g,0,none⟩),.int .i64 (l:Int)]),.nilIface]) (by simp[results,Tryz.results52,go_sem,y0,y1,y2,y3,z0,z1,z2,z3]) rfl HF.out
 . go_upto_region 5 with fail
   refine wp_region_noPanic ?_;refine pW (fun w'=>w'.cell? ⟨W.heap.size,4,none⟩=some (.pointer (some ⟨g,0,none⟩))/\w'.cell? ⟨W.heap.size,5,none⟩=some (.int .i64 (i:Int))/\w'.cell? ⟨W.heap.size,6,none⟩=some (.pointer (some ⟨g,0,none⟩))/\w'.cell? ⟨W.heap.size,7,none⟩=some (.int .i64 (j:Int))/\w'.cell? ⟨W.heap.size,8,none⟩=some (.pointer (some ⟨g,0,none⟩))/\w'.cell? ⟨W.heap.size,9,none⟩=some (.int .i64 (k:Int))/\w'.cell? ⟨W.heap.size,10,none⟩=some (.pointer (some ⟨g,0,none⟩))/\w'.cell? ⟨W.heap.size,11,none⟩=some (.int .i64 (l:Int))) (fun _=>true) (by kernel_rfl) ?_;have b2:=HR.out.at m1;have b3:=HR.out.at m0;have hS:(fun w'=>w'.cell? ⟨W.heap.size,4,none⟩=some (.pointer (some ⟨g,0,none⟩))/\w'.cell? ⟨W.heap.size,5,none⟩=some (.int .i64 (i:Int))/\w'.cell? ⟨W.heap.size,6,none⟩=some (.pointer (some ⟨g,0,none⟩))/\w'.cell? ⟨W.heap.size,7,none⟩=some (.int .i64 (j:Int))/\w'.cell? ⟨W.heap.size,8,none⟩=some (.pointer (some ⟨g,0,none⟩))/\w'.cell? ⟨W.heap.size,9,none⟩=some (.int .i64 (k:Int))/\w'.cell? ⟨W.heap.size,10,none⟩=some (.pointer (some ⟨g,0,none⟩))/\w'.cell? ⟨W.heap.size,11,none⟩=some (.int .i64 (l:Int))) w3.drew:=⟨x4,x5,x6,x7,x8,x9,x10,x11⟩
   have f2:=frzI b2;have f3:=frzI b3;clear x0 x1 x2 x3 x4 x5 x6 x7 x8 x9 x10 x11 b2 b3;refine dO 0 (.pointer (some ⟨W.heap.size,8,none⟩)) ?_ ?_ hS
   . intro w' hw;(try dsimp only at hw);go_split_ands;go_simp;all_goals rfl
   simp only[bkX,bkU,bkV,bkW];refine dO 1 (.agg #[.pointer (some ⟨g,0,none⟩),.int .i64 (k:Int),.pointer (some ⟨g,0,none⟩),.int .i64 (l:Int)]) ?_ ?_ hS
   . intro w' hw;(try dsimp only at hw);go_split_ands;go_simp;all_goals rfl
   simp only[bkX,bkU,bkV,bkW];refine dO 2 (.pointer (some ⟨W.heap.size,4,none⟩)) ?_ ?_ hS
   . intro w' hw;(try dsimp only at hw);go_split_ands;go_simp;all_goals rfl
   simp only[bkX,bkU,bkV,bkW];refine dO 3 (.agg #[.pointer (some ⟨g,0,none⟩),.int .i64 (i:Int),.pointer (some ⟨g,0,none⟩),.int .i64 (j:Int)]) ?_ ?_ hS
   . intro w' hw;(try dsimp only at hw);go_split_ands;go_simp;all_goals rfl
   simp only[bkX,bkU,bkV,bkW];refine iO 4 (by kernel_rfl) rfl fun K' hK=> ?_;go_simp;obtain⟨w4,hw4,hR⟩:=HR.out.put4 (L1:=[_]) (.pointer (some ⟨g,0,none⟩)) (.int .i64 (k:Int)) (.pointer (some ⟨g,0,none⟩)) (.int .i64 (l:Int));simp only[hw4];obtain⟨-,-,-,-,hS⟩:=aF (hR.at m2);refine hK.out _ _ (fun _=>hS) ?_;clear hw4 hK hS HR y0 y1 y2 y3 z0 z1 z2 z3 f2 f3;have b3:=hR.at m0;have f3:=frzI b3;obtain⟨z0,z1,z2,z3⟩:=aG b3;refine iO 5 (by kernel_rfl) rfl fun K' hK=> ?_;go_simp;obtain⟨w5,hw5,hR⟩:=hR.put4 (L1:=[]) (.pointer (some ⟨g,0,none⟩)) (.int .i64 (i:Int)) (.pointer (some ⟨g,0,none⟩)) (.int .i64 (j:Int));simp only[hw5];obtain⟨-,-,-,-,hS⟩:=aF (hR.at m2);refine hK.out _ _ (fun _=>hS) ?_;clear hw5 hK z0 z1 z2 z3 f3 b3;refine iO 6 (by kernel_rfl) rfl fun K' hK=> ?_;go_simp;refine hK.out _ _ (fun _=>hS) ?_;refine sO (by kernel_rfl) ?_;refine NoPanic.normal ?_;have hR:=hR.drew;clear hK;generalize w5.drew=w6 at hR|-
   obtain⟨y0,y1,y2,y3⟩:=aG (hR.at m1);obtain⟨z0,z1,z2,z3⟩:=aG (hR.at m0);have HF:=hdd (RtN.fin (L1:=[_,_,_]) (N:=N+2) (v:=.tuple #[(.agg #[.pointer (some ⟨g,0,none⟩),.int .i64 (k:Int),.pointer (some ⟨g,0,none⟩),.int .i64 (l:Int)]),(.agg #[.pointer (some ⟨g,0,none⟩),.int .i64 (i:Int),.pointer (some ⟨g,0,none⟩),.int .i64 (j:Int)]),.nilIface]) hR (by omega));clear hR;go_wp2;exact bodyPost_ret (v:=.tuple #[(.agg #[.pointer (some ⟨g,0,none⟩),.int .i64 (k:Int),.pointer (some ⟨g,0,none⟩),.int .i64 (l:Int)]),(.agg #[.pointer (some ⟨g,0,none⟩),.int .i64 (i:Int),.pointer (some ⟨g,0,none⟩),.int .i64 (j:Int)]),.nilIface]) (by simp[results,Tryz.results52,go_sem,y0,y1,y2,y3,z0,z1,z2,z3]) rfl HF.out
theorem apX{b:Bool}(h:b=true)(s:b=true/\P\/b=false/\Q):P:=s.elim (·.2) fun x=>by rw[h]at x;cases x.1
theorem apY{b:Bool}(h:b=false)(s:b=true/\P\/b=false/\Q):Q:=s.elim (fun x=>by rw[h]at x;cases x.1) (·.2)
theorem abV{p0 p1 q0 q1 u0 u1 v0 v1 t0 t1:Nat}{P1 P2 Q1 Q2 U1 U2 V1 V2 F1 F2 T1 T2:Ex}{c1 c2 c3:Int}
 (hE:FnOk 52 g 2 #[aN g kd ca cb cc i j k l] KA (fun _=>.tuple #[bE g p0 p1,bE g q0 q1,.nilIface]) []) (hE':FnOk 52 g 2 #[aN g kd' ca' cb' cc' i' j' k' l'] KB (fun _=>.tuple #[bE g u0 u1,bE g v0 v1,.nilIface]) [])
 (hA:∀p∈KA,p∈K0) (hB:∀p∈KB,p∈K0) (hC:∀p∈[(P1,p0),(P2,p1),(Q1,q0),(Q2,q1),(U1,u0),(U2,u1),(V1,v0),(V2,v1),(F1,f0),(F2,f1),(T1,t0),(T2,t1)],p∈K0)
 (h1:iK PT P1 P2 U1 U2 c1) (h2:iK PT Q1 Q2 V1 V2 c2) (h3:iK PT F1 F2 T1 T2 c3)
 (hf:decide (c1<0)=true/\f0=u0/\f1=u1\/decide (c1<0)=false/\f0=p0/\f1=p1) (ht:decide (0<c2)=true/\t0=v0/\t1=v1\/decide (0<c2)=false/\t0=q0/\t1=q1):
 FnOk 33 g 10 #[aN g kd ca cb cc i j k l,aN g kd' ca' cb' cc' i' j' k' l'] K0 (fun _=>.tuple #[bE g f0 f1,.int .i64 c3,.nilIface]) []:=fun s N K L W hR hN hK=>by
 obtain⟨w1,hw1,b1,b2,hR⟩:=hR.box2 (dD g kd ca cb cc i j k l) (dD g kd' ca' cb' cc' i' j' k' l');obtain⟨x0,x1,x2,x3,x4,x5,x6,x7,x8,x9,x10,x11⟩:=aF b1;obtain⟨w2,hw2,-,hR⟩:=hR.box1 (.cells #[.pointer none,.int .i64 0,.pointer none,.int .i64 0] 36);obtain⟨x0,x1,x2,x3,x4,x5,x6,x7,x8,x9,x10,x11⟩:=aF (hR.at m2);have HC:=hdd (hE.use hR (by omega) fun p hp=>hK p (hA p hp));have HE:=hdd hE';have HB:=hdd hB;have HN:=hdd hN;have HK:=hdd hK;have HM:=hdd hC;have H1:=hdd h1;have H2:=hdd h2;have H3:=hdd h3;have HF:=hdd hf;have HT:=hdd ht;clear b1 b2 hR hE hE' hA hB hC h1 h2 h3 hf ht hN hK;go_enter Tryz.func33,Tryz.ntmps33
 go_wp2_with fail
 refine HC.out.mono ?_;rintro e w3⟨rfl,hR⟩;obtain⟨w4,hw4,-,-,hR⟩:=hR.box2 (eG g p0 p1) (eG g q0 q1);obtain⟨z0,z1,z2,z3,z4,z5,z6,z7,z8,z9,z10,z11⟩:=aF (hR.at m3);have HC:=hdd (HE.out.use hR (by have:=HN.out;omega) fun p hp=>HK.out p (HB.out p hp));clear hR;go_wp2_with fail
 refine HC.out.mono ?_;rintro e w5⟨rfl,hR⟩;obtain⟨w6,hw6,-,-,hR⟩:=hR.box2 (eG g u0 u1) (eG g v0 v1);obtain⟨x0,x1,x2,x3⟩:=aG (hR.at m3);obtain⟨z0,z1,z2,z3⟩:=aG (hR.at m1);have HC:=hdd (hR.cmpS (by have:=HN.out;omega) (HK.out _ (HM.out _ m0)) (HK.out _ (HM.out _ m1)) (HK.out _ (HM.out _ m4)) (HK.out _ (HM.out _ m5)) H1.out);clear hR;go_wp2_with fail
 refine HC.out.mono ?_;rintro e w7⟨rfl,hR⟩
 cases h1:decide (c1<0)
 case' true=>
  obtain⟨rfl,rfl⟩:f0=u0/\f1=u1:=apX h1 HF.out;obtain⟨x0,x1,x2,x3⟩:=aG (hR.at m1);obtain⟨z0,z1,z2,z3⟩:=aG (hR.at m3);have f3:=frzI (hR.at m3);have HR:=hdd hR;clear hR
  go_upto_region 12 with fail
  obtain⟨w8,hw8,hR⟩:=HR.out.put4 (L1:=[_,_,_]) (.pointer (some ⟨g,0,none⟩)) (.int .i64 (f0:Int)) (.pointer (some ⟨g,0,none⟩)) (.int .i64 (f1:Int));simp only[hw8];clear hw8 HR f3 x0 x1 x2 x3 z0 z1 z2 z3;have R8:=hdd hR;clear hR
 case' false=>
  obtain⟨rfl,rfl⟩:f0=p0/\f1=p1:=apY h1 HF.out
  go_upto_region 12 with fail
  have R8:=hdd hR;clear hR;generalize w7=w8 at*
 all_goals
  obtain⟨x0,x1,x2,x3⟩:=aG (R8.out.at m2);obtain⟨z0,z1,z2,z3⟩:=aG (R8.out.at m0);have HC:=hdd (R8.out.cmpS (by have:=HN.out;omega) (HK.out _ (HM.out _ m2)) (HK.out _ (HM.out _ m3)) (HK.out _ (HM.out _ m6)) (HK.out _ (HM.out _ m7)) H2.out);clear R8;go_wp2_with fail
  refine HC.out.mono ?_;rintro e w9⟨rfl,hR⟩
  cases h2:decide (0<c2)
  case' true=>
   obtain⟨rfl,rfl⟩:t0=v0/\t1=v1:=apX h2 HT.out;obtain⟨x0,x1,x2,x3⟩:=aG (hR.at m0);obtain⟨z0,z1,z2,z3⟩:=aG (hR.at m2);have f3:=frzI (hR.at m2);have HR:=hdd hR;clear hR
   go_upto_region 17 with fail
   obtain⟨w10,hw10,hR⟩:=HR.out.put4 (L1:=[_,_]) (.pointer (some ⟨g,0,none⟩)) (.int .i64 (t0:Int)) (.pointer (some ⟨g,0,none⟩)) (.int .i64 (t1:Int));simp only[hw10];clear hw10 HR f3 x0 x1 x2 x3 z0 z1 z2 z3;have R10:=hdd hR;clear hR
  case' false=>
   obtain⟨rfl,rfl⟩:t0=q0/\t1=q1:=apY h2 HT.out
   go_upto_region 17 with fail
   have R10:=hdd hR;clear hR;generalize w9=w10 at*
  all_goals
   obtain⟨x0,x1,x2,x3⟩:=aG (R10.out.at m3);obtain⟨z0,z1,z2,z3⟩:=aG (R10.out.at m2);have HC:=hdd (R10.out.cmpS (by have:=HN.out;omega) (HK.out _ (HM.out _ m8)) (HK.out _ (HM.out _ m9)) (HK.out _ (HM.out _ m10)) (HK.out _ (HM.out _ m11)) H3.out);clear R10;go_wp2_with fail
   refine HC.out.mono ?_;rintro e w11⟨rfl,hR⟩;obtain⟨x0,x1,x2,x3⟩:=aG (hR.at m3);obtain⟨z0,z1,z2,z3⟩:=aG (hR.at m4);have f4:=frzI (hR.at m4);have HF:=hdd hR;clear hR;go_wp2;obtain⟨w12,hw12,hR⟩:=HF.out.put4 (L1:=[_,_,_,_]) (.pointer (some ⟨g,0,none⟩)) (.int .i64 (f0:Int)) (.pointer (some ⟨g,0,none⟩)) (.int .i64 (f1:Int));simp only[hw12];clear hw12 HF f4 x0 x1 x2 x3 z0 z1 z2 z3;obtain⟨x0,x1,x2,x3⟩:=aG (hR.at m4);exact bodyPost_ret (v:=.tuple #[(.agg #[.pointer (some ⟨g,0,none⟩),.int .i64 (f0:Int),.pointer (some ⟨g,0,none⟩),.int .i64 (f1:Int)]),.int .i64 c3,.nilIface]) (by simp[results,Tryz.results33,go_sem,x0,x1,x2,x3]) rfl (RtN.fin (L1:=[_,_,_,_,_,_,_]) hR (by omega))
end
section
variable{g i j k l ca cb cc i' j' k' l' ca' cb' cc':Nat}{kd kd':Int}{A1 A2 B1 B2 C1 C2 D1 D2:Ex}{K0 KA KB:List (Ex×Nat)}
theorem yN(hS:FnOk 33 g 10 #[aN g 1 ca cb cc i j k l,aN g 1 ca' cb' cc' i' j' k' l'] K0 (fun _=>.tuple #[bE g f0 f1,.int .i64 c,.nilIface]) [])(h1:FnOk 14 g 20 #[.pointer (some ⟨g,0,none⟩),aN g 1 ca cb cc i j k l] KA (fun _=>.nilIface) [])(h2:FnOk 14 g 20 #[.pointer (some ⟨g,0,none⟩),aN g 1 ca' cb' cc' i' j' k' l'] KB (fun _=>.nilIface) [])(hA:∀p∈KA,p∈K0)(hB:∀p∈KB,p∈K0)
 (hL:FnOk 20 g 21 #[.pointer (some ⟨g,0,none⟩),curV 1 ca cb cc,curV 1 ca' cb' cc'] [] (fun _=>.tuple #[.bool true,.nilIface]) []):
 FnOk 19 g 75 #[.pointer (some ⟨g,0,none⟩),aN g 1 ca cb cc i j k l,aN g 1 ca' cb' cc' i' j' k' l'] K0 (fun _=>.tuple #[.bool (decide (c<0)),.nilIface]) []:=fun s N K L W hR hN hK=>by
 obtain⟨w1,hw1,b1,b2,hR⟩:=hR.box2 (dD g 1 ca cb cc i j k l) (dD g 1 ca' cb' cc' i' j' k' l');obtain⟨x0,x1,x2,x3,x4,x5,x6,x7,x8,x9,x10,x11⟩:=aF b1;obtain⟨z0,z1,z2,z3,z4,z5,z6,z7,z8,z9,z10,z11⟩:=aF b2;obtain⟨w2,hw2,b3,hR⟩:=hR.box1 (ad1 g 1 ca cb cc i j k l 1 ca' cb' cc' i' j' k' l');have HC:=hdd (aaD h1 h2 hR m0 (by omega) (fun p hp=>hK p (hA p hp)) (fun p hp=>hK p (hB p hp)));have HL:=hdd hL;have HN:=hdd hN;have HK:=hdd hK;have HS:=hdd hS;clear hS;have hst:=aL;clear b1 b2 b3 hR h1 h2 hA hB hL hN hK;go_enter Tryz.func19,Tryz.ntmps19
 go_wp2_with fail
 refine HC.out.mono ?_;rintro e w3⟨rfl,hR⟩;obtain⟨x0,x1,x2,x3,x4,x5,x6,x7,x8,x9,x10,x11⟩:=aF (hR.at m2);obtain⟨z0,z1,z2,z3,z4,z5,z6,z7,z8,z9,z10,z11⟩:=aF (hR.at m1);have HC:=hdd (HL.out.use hR (by have:=HN.out;omega) (fun p hp=>by cases hp));clear hR;go_wp2_with fail
 refine HC.out.mono ?_;rintro e w4⟨rfl,hR⟩;obtain⟨x0,x1,x2,x3,x4,x5,x6,x7,x8,x9,x10,x11⟩:=aF (hR.at m2);obtain⟨z0,z1,z2,z3,z4,z5,z6,z7,z8,z9,z10,z11⟩:=aF (hR.at m1);have HC:=hdd (HS.out.use hR (by have:=HN.out;omega) HK.out);clear hR;go_wp2_with fail
 refine HC.out.mono ?_;rintro e w5⟨rfl,hR⟩;obtain⟨w6,hw6,b1,hR⟩:=hR.box1 (eG g f0 f1);clear b1;have HF:Hid (RtN s g (N+75) K L (fun _=>.tuple #[.bool (decide (c<0)),.nilIface]) [] (.returned (.tuple #[.bool (decide (c<0)),.nilIface])) w6):=hdd (by exact RtN.fin (L1:=[_,_,_,_]) hR (by omega));clear hR;go_wp2
 go_ret2
 exact HF.out
theorem abW{ov:Bool}{Q:List (Ex×Nat)->List (Nat×Nat)->Prop}(hO:FnOk 19 g 75 #[.pointer (some ⟨g,0,none⟩),aN g 1 ca cb cc i j k l,aN g 1 ca' cb' cc' i' j' k' l'] K0 (fun _=>.tuple #[.bool ov,.nilIface]) [])
 (hL:FnOk 20 g 21 #[.pointer (some ⟨g,0,none⟩),curV 1 ca cb cc,curV 1 ca' cb' cc'] [] (fun _=>.tuple #[.bool true,.nilIface]) []) (hW:FnOk 21 g 8 #[aN g 1 ca cb cc i j k l,aN g 1 ca' cb' cc' i' j' k' l'] K0 (fun _=>.tuple #[.bool false,.nilIface]) [])
 (h0:ov=true->∀K1,Q K1 []) (hJ:ov=false->rH 23 g 10 #[aN g 1 ca cb cc i j k l,aN g 1 ca' cb' cc' i' j' k' l'] K0 (RowQ g Q)):
 rH 10 g 200 #[.pointer (some ⟨g,0,none⟩),aN g 1 ca cb cc i j k l,aN g 1 ca' cb' cc' i' j' k' l'] K0 (mU g ov Q):=fun s N K L W hR hN hK=>by
 obtain⟨w1,hw1,b1,b2,hR⟩:=hR.box2 (dD g 1 ca cb cc i j k l) (dD g 1 ca' cb' cc' i' j' k' l');obtain⟨x0,x1,x2,x3,x4,x5,x6,x7,x8,x9,x10,x11⟩:=aF b1;obtain⟨z0,z1,z2,z3,z4,z5,z6,z7,z8,z9,z10,z11⟩:=aF b2;have HC:=hdd (hO.use hR (by omega) hK);have HL:=hdd hL;have HW:=hdd hW;have H0:=hdd h0;have HJ:=hdd hJ;have HN:=hdd hN;have HK:=hdd hK;clear b1 b2 hR hO hL hW h0 hJ hN hK;go_enter Tryz.func10,Tryz.ntmps10
 go_wp2_with fail
 refine HC.out.mono ?_;rintro e w2⟨rfl,hR⟩;obtain⟨x0,x1,x2,x3,x4,x5,x6,x7,x8,x9,x10,x11⟩:=aF (hR.at m1);obtain⟨z0,z1,z2,z3,z4,z5,z6,z7,z8,z9,z10,z11⟩:=aF (hR.at m0);have HC:=hdd (HL.out.use hR (by have:=HN.out;omega) (fun p hp=>by cases hp));clear hR;go_wp2_with fail
 refine HC.out.mono ?_;rintro e w3⟨rfl,hR⟩;obtain⟨x0,x1,x2,x3,x4,x5,x6,x7,x8,x9,x10,x11⟩:=aF (hR.at m1);obtain⟨z0,z1,z2,z3,z4,z5,z6,z7,z8,z9,z10,z11⟩:=aF (hR.at m0);have HC:=hdd (HW.out.use hR (by have:=HN.out;omega) HK.out);clear hR;go_wp2_with fail
 refine HC.out.mono ?_;rintro e w4⟨rfl,hR⟩;obtain⟨x0,x1,x2,x3,x4,x5,x6,x7,x8,x9,x10,x11⟩:=aF (hR.at m1)
 cases ov
 case' true=>
  have HF:Hid (∃K1 l1,mU g true Q K1 l1 (.returned (.tuple #[.slice none 0 0,.bool true,.nilIface]))/\Run s g (N+200) (K1++K) (l1++L) w4):=hdd ⟨[],[],⟨_,[],H0.out rfl [],rfl,OwnR.nil _ _⟩,(Run.rest (L1:=[_,_]) hR).more (by omega)⟩;clear hR;go_wp2;exact bodyPost_ret (v:=.tuple #[.slice none 0 0,.bool true,.nilIface]) (by simp[results,Tryz.results10,go_sem]) rfl HF.out
 obtain⟨x0,x1,x2,x3,x4,x5,x6,x7,x8,x9,x10,x11⟩:=aF (hR.at m1);obtain⟨z0,z1,z2,z3,z4,z5,z6,z7,z8,z9,z10,z11⟩:=aF (hR.at m0);have HC:=hdd (HJ.out rfl _ _ _ _ _ hR (by have:=HN.out;omega) HK.out);clear hR;go_wp2_with fail
 refine HC.out.mono ?_;rintro e w5⟨K1,l1,⟨v,ps,hq,rfl,ho⟩,hR⟩;obtain⟨pp,cp,rfl⟩:=ho.slice;have HF:Hid (∃K1 l1,mU g false Q K1 l1 (.returned (.tuple #[.slice pp ps.length cp,.bool false,.nilIface]))/\Run s g (N+200) (K1++K) (l1++L) w5):=hdd ⟨K1,l1,⟨_,ps,hq,rfl,ho⟩,(hR.subl (List.Sublist.append (List.Sublist.refl l1) (List.sublist_append_right [_,_] L))).more (by omega)⟩;clear hR hq ho HC;go_wp2;exact bodyPost_ret (v:=.tuple #[.slice pp ps.length cp,.bool false,.nilIface]) (by simp[results,Tryz.results10,go_sem]) rfl HF.out
end
end Go.Proofs.YtjdgaogkioabeaaGreatDoor
