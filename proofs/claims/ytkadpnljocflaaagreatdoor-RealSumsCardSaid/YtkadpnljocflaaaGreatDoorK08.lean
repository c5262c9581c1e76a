/- A part of the proof: contracts of functions and plain laws (IntE, IntF, DyA, DyB, DyC, DyE, DyD, DyF, DyG). -/
import Derived.Test.YtkadpnljocflaaaGreatDoorK07
set_option linter.unusedVariables false
set_option linter.unusedSimpArgs false
set_option linter.unnecessarySimpa false
set_option maxHeartbeats 25600000
set_option maxRecDepth 100000
namespace Go.Proofs.YtkadpnljocflaaaGreatDoor
section
open Go.RowKit
open Go.Act renaming put->aqN
open Go.RowKit.Below renaming refl->aqO,heap_setCell->aqP
open Int renaming lt_trichotomy->aqK,sign_eq_neg_one_of_neg->aqL,sign_eq_one_of_pos->aqM
open List renaming setIfInBounds_toArray->aqH,set_cons_zero->aqI,set_cons_succ->aqJ
variable{x y z:Int}{xs:List Nat}{g n:Nat}{p q:Nat->Prop}{T:TypeId}{a b c v va:Value}{w:World}
theorem IntP.get {b:Bool}(h:IntP p w (.agg #[.bool b,v]) z):∃xs,NatP p w v xs/\Tr xs/\val xs=z.natAbs/\b=decide (z<0):=by
 obtain⟨vm,xs,e,h1,h2,h3⟩:=h;injection e with e;have e1:Value.bool b=.bool (decide (z<0)):=congrArg (fun a:Array Value=>a.getD 0 undef) e;have e2:v=vm:=congrArg (fun a:Array Value=>a.getD 1 undef) e;subst e2;injection e1 with e1;exact⟨xs,h1,h2,h3,e1⟩
theorem ajC(b c:Bool)(m n:Nat):sg (b != c) (m*n)=sg b m*sg c n:=by cases b<;>cases c<;>simp[sg,Int.neg_mul,Int.mul_neg]
theorem acV(x y:Int):sg (decide (x<0) != decide (y<0)) (x.natAbs*y.natAbs)=x*y:=by rw[ajC,kT,kT]
theorem aeS{c:Nat}{b:Bool}{A:Option Addr}(hx:IntP p w va x)(hg:w.heap[g]? =some (.cells #[.bool b,.slice A n c] T (0,0)))(hy:IntP q w (.agg #[.bool b,.slice A n c]) y)
 (hL:bits x.natAbs+bits y.natAbs<=1073741824):
 Calls Tryz.prog 264 #[va,.slice (some ⟨g,0,none⟩) 1 1] w (RetZ w.heap.size w (x*y)):=by
 obtain⟨vm,xs,rfl,h1,h2,h3⟩:=hx;obtain⟨A0,c0',rfl,-⟩:=id h1;obtain⟨w2,hw2,hb2,hs2,b1,b2⟩:=pro2 w (.cells #[Value.bool (decide (x<0)),.slice A0 xs.length c0'] 75) (.cells #[Value.bool false,Value.slice none 0 0] 75);have X0:=hdd (kT x);rw[<-h3]at X0;have HB:=hdd hb2;have H1:=hdd (h1.below hb2);have HS:=hdd hs2;have B2:=hdd b2;have HG:=hdd hg;have HY:=hdd hy;obtain⟨c0,c1,-,-⟩:=aB b1;generalize decide (x<0)=ba at*;clear h1 h2 h3 hb2 b1 b2 hs2 hg hy;go_enter Tryz.func264,Tryz.ntmps264
 go_wp2_with fail
 refine(bR H1.out).mono ?_;rintro e w3⟨hb,v,rfl,h⟩;rw[X0.out]at h;obtain⟨b',A1,n1,c1',rfl⟩:=h.shape;replace B2:=hdd (aD B2.out hb (by have:=HS.out;omega));have HS3:=hdd (Nat.le_trans (Nat.le_of_eq HS.out.symm) hb.size);replace HB:=hdd (HB.out.trans (hb.mono HB.out.size));have HX:=hdd h;clear h hb hw2 c0 c1;go_wp2_with fail
 go_loopw [15] (fun i wr=>∃k:Nat,k<=1/\i=.int .i64 k/\Hid (Below w.heap.size w wr)/\Hid (∃bs As ns cs,wr.heap[w3.heap.size]? =some (.cells #[.bool bs,.slice As ns cs] 75 (0,0))/\IntP (fun b=>w.heap.size<=b/\b≠w3.heap.size/\b≠w.heap.size+1) wr (.agg #[.bool bs,.slice As ns cs]) (if k=0 then x else x*y))/\
  Hid (wr.heap[w.heap.size+1]? =some (.cells #[Value.bool false,Value.slice none 0 0] 75 (0,0)))) (fun i _=>1-(intOf i).toNat)
 case atStart=>
  have hs:=HS.out;have hs3:=HS3.out;refine⟨0,by omega,rfl,hdd (HB.out.alloc (by omega) _),hdd ⟨_,_,_,_,heap_alloc_new w3 _,?_⟩,hdd (aD B2.out (aI w3 _) (aC B2.out))⟩;exact(HX.out.weak fun b h1 h2=>by omega).below (aI w3 _)
 case round=>
  clear HB HX B2;obtain⟨k,hk,rfl,HB,HR,B2⟩:=hrel;obtain⟨bs,As,ns,cs,hR,hX⟩:=HR.out;have HR0:=hdd hR;have HX:=hdd hX;obtain⟨r0,r1,r2,r3⟩:=aB hR;clear hR hX;have hkk:k=0\/k=1:=by omega
  rcases hkk with rfl|rfl
  . obtain⟨y0,y1,-,-⟩:=aB (hbl HG.out HB.out)
    obtain⟨w4,hw4,hba,hs4,q4⟩:=pro1 wr (.cells #[Value.bool b,.slice A n c] 75);obtain⟨q0,q1,-,-⟩:=aB (hbl HR0.out hba);obtain⟨q2,q3,-,-⟩:=aB q4;go_wp2_with fail
    obtain⟨xs',hx1,hx2,hx3,hx4⟩:=HX.out.get;replace hx3:val xs'=x.natAbs:=hx3;replace hx4:bs=decide (x<0):=hx4;obtain⟨ys',hy1,hy2,hy3,hy4⟩:=HY.out.get;have hlen:xs'.length+ys'.length<=549755813888:=by
     have e1:=bA xs' hx1.ok hx2;have e2:=bA ys' hy1.ok hy2;rw[hx3]at e1;rw[hy3]at e2;omega
    have HMUL:=hdd (aeJ (cut:=40) (by omega) (by omega) ((hx1.below hba).below (aqO _ _).drew) (((hy1.below HB.out).below hba).below (aqO _ _).drew) hlen);have HP:=hdd (acV x y);rw[<-hx3,<-hy3,<-hx4,<-hy4]at HP;have HR4:=hdd (hbl HR0.out hba);clear hx1 hx2 hx3 hx4 hy1 hy2 hy3 hy4 hlen;refine wp_region_noPanic ?_;refine kE (fun w'=>w'.cell? ⟨w3.heap.size,0,none⟩=some (.bool bs)/\w'.cell? ⟨w3.heap.size,1,none⟩=some (.slice As ns cs)/\w'.cell? ⟨wr.heap.size,0,none⟩=some (.bool b)/\w'.cell? ⟨wr.heap.size,1,none⟩=some (.slice A n c)) 11 (by kernel_rfl) ?_;have hSd:(fun w':World=>w'.cell? ⟨w3.heap.size,0,none⟩=some (.bool bs)/\w'.cell? ⟨w3.heap.size,1,none⟩=some (.slice As ns cs)/\w'.cell? ⟨wr.heap.size,0,none⟩=some (.bool b)/\w'.cell? ⟨wr.heap.size,1,none⟩=some (.slice A n c)) w4.drew:=⟨q0,q1,q2,q3⟩;refine aN 0 (.pointer (some ⟨w3.heap.size,0,none⟩)) rfl (by kernel_rfl) (by kernel_rfl) (by kernel_rfl) (by kernel_rfl) (fun _ _ _ h=>h) (by rfl) ?_ (by assumption) ?_
    . intro w' hSw;(try dsimp only at hSw);go_split_ands;go_simp;all_goals first|rfl|(cases bs<;>cases b<;>rfl)
    simp only[aqN,aqH,aqI,aqJ];refine aN 1 (.bool bs) rfl (by kernel_rfl) (by kernel_rfl) (by kernel_rfl) (by kernel_rfl) (fun _ _ _ h=>h) (by rfl) ?_ (by assumption) ?_
    . intro w' hSw;(try dsimp only at hSw);go_split_ands;go_simp;all_goals first|rfl|(cases bs<;>cases b<;>rfl)
    simp only[aqN,aqH,aqI,aqJ];refine aN 2 (.pointer (some ⟨wr.heap.size,0,none⟩)) rfl (by kernel_rfl) (by kernel_rfl) (by kernel_rfl) (by kernel_rfl) (fun _ _ _ h=>h) (by rfl) ?_ (by assumption) ?_
    . intro w' hSw;(try dsimp only at hSw);go_split_ands;go_simp;all_goals first|rfl|(cases bs<;>cases b<;>rfl)
    simp only[aqN,aqH,aqI,aqJ];refine aN 3 (.bool b) rfl (by kernel_rfl) (by kernel_rfl) (by kernel_rfl) (by kernel_rfl) (fun _ _ _ h=>h) (by rfl) ?_ (by assumption) ?_
    . intro w' hSw;(try dsimp only at hSw);go_split_ands;go_simp;all_goals first|rfl|(cases bs<;>cases b<;>rfl)
    simp only[aqN,aqH,aqI,aqJ];refine aN 4 (.bool (bs != b)) rfl (by kernel_rfl) (by kernel_rfl) (by kernel_rfl) (by kernel_rfl) (fun _ _ _ h=>h) (by rfl) ?_ (by assumption) ?_
    . intro w' hSw;(try dsimp only at hSw);go_split_ands;go_simp;all_goals first|rfl|(cases bs<;>cases b<;>rfl)
    simp only[aqN,aqH,aqI,aqJ];refine aN 5 (.pointer (some ⟨w3.heap.size,1,none⟩)) rfl (by kernel_rfl) (by kernel_rfl) (by kernel_rfl) (by kernel_rfl) (fun _ _ _ h=>h) (by rfl) ?_ (by assumption) ?_
    . intro w' hSw;(try dsimp only at hSw);go_split_ands;go_simp;all_goals first|rfl|(cases bs<;>cases b<;>rfl)
    simp only[aqN,aqH,aqI,aqJ];refine aN 6 (.slice As ns cs) rfl (by kernel_rfl) (by kernel_rfl) (by kernel_rfl) (by kernel_rfl) (fun _ _ _ h=>h) (by rfl) ?_ (by assumption) ?_
    . intro w' hSw;(try dsimp only at hSw);go_split_ands;go_simp;all_goals first|rfl|(cases bs<;>cases b<;>rfl)
    simp only[aqN,aqH,aqI,aqJ];refine aN 7 (.pointer (some ⟨wr.heap.size,1,none⟩)) rfl (by kernel_rfl) (by kernel_rfl) (by kernel_rfl) (by kernel_rfl) (fun _ _ _ h=>h) (by rfl) ?_ (by assumption) ?_
    . intro w' hSw;(try dsimp only at hSw);go_split_ands;go_simp;all_goals first|rfl|(cases bs<;>cases b<;>rfl)
    simp only[aqN,aqH,aqI,aqJ];refine aN 8 (.slice A n c) rfl (by kernel_rfl) (by kernel_rfl) (by kernel_rfl) (by kernel_rfl) (fun _ _ _ h=>h) (by rfl) ?_ (by assumption) ?_
    . intro w' hSw;(try dsimp only at hSw);go_split_ands;go_simp;all_goals first|rfl|(cases bs<;>cases b<;>rfl)
    try simp only[aqN,aqH,aqI,aqJ]
    refine dE 9 (by kernel_rfl) rfl fun K hK=> ?_;go_simp;refine HMUL.out.mono ?_;rintro e w6⟨hb,v6,zs,rfl,hz,tz,hvz⟩;have HB6:Hid (Below w4.heap.size w4 w6):=hdd ((aqO _ _).drew.trans hb);have q0':=cbl q0 HB6.out;have q1':=cbl q1 HB6.out;have q2':=cbl q2 HB6.out;have q3':=cbl q3 HB6.out;have HMK:=hdd (bR (b:=bs != b) hz);have HVZ:=hdd hvz;clear hb hz tz hvz;refine hK.out _ _ (fun _=>⟨q0',q1',q2',q3'⟩) ?_;clear hK
    try simp only[aqN,aqH,aqI,aqJ]
    refine dE 10 (by kernel_rfl) rfl fun K hK=> ?_;go_simp;refine HMK.out.mono ?_;rintro e w5⟨hb,v5,hz⟩;obtain⟨rfl,hz⟩:=hz;obtain⟨b5,A5,n5,c5,rfl⟩:=hz.shape;have q0'':=cell_below q0' hb nlr;have q1'':=cell_below q1' hb nlr;have q2'':=cell_below q2' hb nlr;have q3'':=cell_below q3' hb nlr;have HSZ:=hdd HB6.out.size;replace HB6:=hdd (HB6.out.trans (hb.mono HB6.out.size));have HF:=hdd hz;obtain⟨f0',f1',f2',f3'⟩:=aB (hbl HR4.out HB6.out);clear hb hz;refine hK.out _ _ (fun _=>⟨q0'',q1'',q2'',q3''⟩) ?_;clear hK
    try simp only[aqN,aqH,aqI,aqJ]
    refine dE 11 (by kernel_rfl) rfl fun K hK=> ?_;go_simp;refine hK.out _ _ (fun h=>absurd rfl h) ?_;clear hK;refine lW (by kernel_rfl) ?_;refine NoPanic.normal ?_;have h:=HF.out;rw[HVZ.out,HP.out]at h;have hb:=HB6.out;have hsz6:=HSZ.out;have hbb:=hba.trans (hb.mono hba.size);have R5:=hbl HR0.out hbb;have HR5:=hdd R5;obtain⟨r0,r1,r2,r3⟩:=aB R5;have hs:=HS.out;have hs3:=HS3.out;have hrs:=aC HR0.out;have hsz:=HB.out.size;have B25:=hbl B2.out hbb;have HB2:=hdd (((HB.out.trans (hbb.mono HB.out.size)).setCell (p:=⟨w3.heap.size,0,none⟩) (by simp;omega) (.bool b5)).setCell (p:=⟨w3.heap.size,1,none⟩) (by simp;omega) (.slice A5 n5 c5));have HR2:Hid (∃bs As ns cs,((w5.setCell ⟨w3.heap.size,0,none⟩ (.bool b5)).setCell ⟨w3.heap.size,1,none⟩ (.slice A5 n5 c5)).heap[w3.heap.size]? =some (.cells #[.bool bs,.slice As ns cs] 75 (0,0))/\IntP (fun b=>w.heap.size<=b/\b≠w3.heap.size/\b≠w.heap.size+1) ((w5.setCell ⟨w3.heap.size,0,none⟩ (.bool b5)).setCell ⟨w3.heap.size,1,none⟩ (.slice A5 n5 c5)) (.agg #[.bool bs,.slice As ns cs]) (if 1=0 then x else x*y)):=by
     refine hdd ⟨_,_,_,_,set2 R5 _ _,?_⟩;have h':=h.weak (q:=fun b=>w.heap.size<=b/\b≠w3.heap.size/\b≠w.heap.size+1) fun b h1 h2=>by have:=hba.size;omega
     exact(h'.setCell (fun b hb=>hb.2.1) _).setCell (fun b hb=>hb.2.1) _
    have HB22:Hid (((w5.setCell ⟨w3.heap.size,0,none⟩ (.bool b5)).setCell ⟨w3.heap.size,1,none⟩ (.slice A5 n5 c5)).heap[w.heap.size+1]? =some (.cells #[Value.bool false,Value.slice none 0 0] 75 (0,0))):=by
     refine hdd ?_;rw[aqP _ _ _ _ (by simp;omega),aqP _ _ _ _ (by simp;omega)];exact B25
    clear hsz6 hSd q0' q1' q2' q3' q0'' q1'' q2'' q3'';clear h hb hbb hba R5 B25 hs hs3 hrs hsz y0 y1 q0 q1 q2 q3 q4 hw4 hs4;go_wp2
    go_roundw
    case rel=>exact⟨1,by omega,by go_num,HB2,HR2,HB22⟩
    case measure=>simp[intOf]
  . obtain⟨e0,e1,e2,e3⟩:=aB B2.out
    have hs:=HS.out;have hs3:=HS3.out;obtain⟨HFF,hFF⟩:=dC HB.out (g:=w.heap.size+1) (by omega) B2.out HX.out (fun b hb=>by omega);replace hFF:=hdd hFF;replace HFF:Hid (RetZ w.heap.size w (x*y) (.returned (.agg #[.bool bs,.slice As ns cs])) ((wr.setCell ⟨w.heap.size+1,0,none⟩ (.bool bs)).setCell ⟨w.heap.size+1,1,none⟩ (.slice As ns cs))):=HFF;clear hs hs3;go_wp2;obtain⟨f0,f1,-,-⟩:=aB hFF.out;refine bodyPost_ret (v:=.agg #[_,_]) (by simp[results,Tryz.results264,go_sem,f0,f1];first|exact⟨rfl,rfl⟩|rfl) rfl ?_;exact HFF.out
def cmpI(x y:Int):Int:=if x<y then-1 else if y<x then 1 else 0
theorem pW{x y:Int}(h:x.sign<y.sign):cmpI x y=-1:=by
 have:x<y:=by
  rcases aqK x 0 with hx|hx|hx<;>rcases aqK y 0 with hy|hy|hy<;>simp_all[aqL,aqM]<;>omega
 unfold cmpI;rw[if_pos this]
theorem pX{x y:Int}(h:y.sign<x.sign):cmpI x y=1:=by
 have:y<x:=by
  rcases aqK x 0 with hx|hx|hx<;>rcases aqK y 0 with hy|hy|hy<;>simp_all[aqL,aqM]<;>omega
 unfold cmpI;rw[if_neg (by omega),if_pos this]
theorem kU{x y:Int}(h:x.sign=y.sign):cmpI x y=x.sign*cmpN x.natAbs y.natAbs:=by
 rcases aqK x 0 with hx|hx|hx<;>rcases aqK y 0 with hy|hy|hy<;>
  simp_all[aqL,aqM]<;>simp only[cmpI,cmpN]<;>(repeat' split)<;>omega
theorem aA{a b c:World}(h:Below a.heap.size a b)(k:Below b.heap.size b c):Below a.heap.size a c:=h.trans (k.mono h.size)
theorem aeT{vb:Value}(hx:IntP p w va x)(hy:IntP q w vb y):
 Calls Tryz.prog 80 #[va,vb] w (RetK w (cmpI x y)):=by
 obtain⟨ba,A,n,c,rfl⟩:=hx.shape;obtain⟨bb,A',n',c',rfl⟩:=hy.shape;obtain⟨w2,hw2,hb2,hs2,b1,b2⟩:=pro2 w (.cells #[Value.bool ba,.slice A n c] 75) (.cells #[Value.bool bb,.slice A' n' c'] 75);have HB:=hdd hb2;have H1:=hdd (hx.below hb2);have H2:=hdd (hy.below hb2);have HS:=hdd hs2;have B1:=hdd b1;have B2:=hdd b2;obtain⟨c0,c1,-,-⟩:=aB b1;obtain⟨d0,d1,-,-⟩:=aB b2;clear hx hy hb2 b1 b2 hs2;go_enter Tryz.func80,Tryz.ntmps80
 go_wp2_with fail
 have HSA:Hid (∀w',Below w2.heap.size w2 w'->Calls Tryz.prog 59 #[.agg #[.bool ba,.slice A n c]] w' (RetK w' x.sign)):=hdd fun w' h=>jS (H1.out.below h);have HSB:Hid (∀w',Below w2.heap.size w2 w'->Calls Tryz.prog 59 #[.agg #[.bool bb,.slice A' n' c']] w' (RetK w' y.sign)):=hdd fun w' h=>jS (H2.out.below h);have HBW:Below w2.heap.size w2 w2.drew:=(aqO _ _).drew;replace c0:w2.drew.cell? ⟨w.heap.size,0,none⟩=some (.bool ba):=c0;replace c1:w2.drew.cell? ⟨w.heap.size,1,none⟩=some (.slice A n c):=c1;replace d0:w2.drew.cell? ⟨w.heap.size+1,0,none⟩=some (.bool bb):=d0;replace d1:w2.drew.cell? ⟨w.heap.size+1,1,none⟩=some (.slice A' n' c'):=d1
 go_region_held3 (fun w'=>w'.cell? ⟨w.heap.size,0,none⟩=some (.bool ba)/\w'.cell? ⟨w.heap.size,1,none⟩=some (.slice A n c)/\w'.cell? ⟨w.heap.size+1,0,none⟩=some (.bool bb)/\w'.cell? ⟨w.heap.size+1,1,none⟩=some (.slice A' n' c')) (go_keep)
  (first
  |(go_at_call 59
    with_reducible refine(HSA.out _ (by assumption)).mono ?_
    rintro e w3⟨rfl,hb⟩;have c0:=cbl c0 hb;have c1:=cbl c1 hb;have d0:=cbl d0 hb;have d1:=cbl d1 hb;have HBW:=aA HBW hb)
  |(go_at_call 59
    with_reducible refine(HSB.out _ (by assumption)).mono ?_
    rintro e w3⟨rfl,hb⟩;have c0:=cbl c0 hb;have c1:=cbl c1 hb;have d0:=cbl d0 hb;have d1:=cbl d1 hb;have HBW:=aA HBW hb))
 have HBF:=hdd (HB.out.trans (HBW.mono HB.out.size));obtain⟨xs,hx1,hx2,hx3,-⟩:=(H1.out.below HBW).get;obtain⟨ys,hy1,hy2,hy3,-⟩:=(H2.out.below HBW).get;have HX1:=hdd hx1;have HY1:=hdd hy1;have HX3:=hdd hx3;have HY3:=hdd hy3;clear hx1 hx2 hx3 hy1 hy2 hy3 HBW;have HLT:=hdd (@pW x y);have HGT:=hdd (@pX x y);have HEQ:=hdd (@kU x y);generalize x.sign=s at*;generalize y.sign=t at*;rcases aqK s t with h|h|h
 . have h2:=HLT.out h
   have HF:Hid (RetK w (cmpI x y) (.returned (.int .i64 (-1))) _):=hdd ⟨by rw[h2],HBF.out⟩;clear h2;go_wp2;go_ret;exact HF.out
 . subst h
   have h2:=HEQ.out rfl;rw[<-HX3.out,<-HY3.out]at h2;have hb:-1<=cmpI x y/\cmpI x y<=1:=by unfold cmpI;(repeat' split)<;>omega
   have HF0:=hdd h2;have HBB:=hdd hb;clear h2 hb;go_wp2_with fail
   refine(lS HX1.out HY1.out).mono ?_;rintro e w7⟨rfl,k,rfl⟩;have HF:=hdd (HBF.out.trans ((below_drewN _ k).mono HBF.out.size));have hm:=HF0.out;have hb1:=HBB.out.1;have hb2:=HBB.out.2;generalize cmpN (val xs) (val ys)=m at*;rw[hm]at hb1 hb2;have HR:Hid (RetK w (cmpI x y) (.returned (.int .i64 (s*m))) _):=hdd ⟨by rw[hm],HF.out⟩;go_wp2;go_ret;exact HR.out
 . have h2:=HGT.out h
   have HF:Hid (RetK w (cmpI x y) (.returned (.int .i64 1)) _):=hdd ⟨by rw[h2],HBF.out⟩;have h3:¬s<t:=by omega
   clear h2;go_wp2;go_ret;exact HF.out
theorem aeU(a K m:Nat)(h:K<=m):a/2^K/2^(m-K)=a/2^m:=by
 rw[Nat.div_div_eq_div_mul,<-Nat.pow_add,Nat.add_sub_cancel' h]
theorem ahG(hx:NatP p w va xs):
 Calls Tryz.prog 121 #[va,.int .i64 16777216] w (fun e w'=>∃K:Nat,(K:Int)=16777216/\RetN w.heap.size w (val xs/2^K) e w'):=
 (wF (n:=16777216) hx nlr).mono fun _ _ h=>⟨16777216,rfl,h⟩
theorem iX(hx:NatP p w va xs)(hn:n<=9223372036854775807):
 Calls Tryz.prog 76 #[va,.int .i64 n] w (RetN w.heap.size w (val xs/2^n)):=by
 have HX:=hdd hx.any;clear hx;go_enter Tryz.func76,Tryz.ntmps76
 go_wp2_with fail
 go_loopw [0,1] (fun sv i wr=>∃(m:Nat) (ys:List Nat),m<=n/\i=.int .i64 m/\Hid (NatP AnyB wr sv ys)/\Hid (Below w.heap.size w wr)/\Hid (val ys/2^m=val xs/2^n)) (fun _ i _=>(intOf i).toNat)
 case atStart=>exact⟨n,xs,Nat.le_refl _,rfl,HX,hdd (aqO _ _),hdd rfl⟩
 case round=>
  obtain⟨m,ys,hm,rfl,HY,HB,HV⟩:=hrel;rcases Nat.lt_or_ge 16777216 m with h|h
  . have hi:(16777216:Int)<(m:Int):=by omega
    go_wp2_with fail
    refine(ahG HY.out).mono ?_;rintro e w1⟨K,hK,hb,v1,zs,rfl,hz,tz,hvz⟩;have HZ:=hdd hz.any;have HB2:=hdd (HB.out.trans (hb.mono HB.out.size));have HV2:Hid (val zs/2^(m-K)=val xs/2^n):=hdd (by
     rw[hvz,<-HV.out];exact aeU _ _ _ (by omega))
    have hsub:(m:Int)-16777216=((m-K:Nat):Int):=by omega
    clear hb hz tz hvz;go_wp2
    go_roundw
    case rel=>exact⟨m-K,zs,by omega,by go_num,HZ,HB2,HV2⟩
    case measure=>simp[intOf];omega
  . have hi:¬(16777216:Int)<(m:Int):=by omega
    go_wp2_with fail
    refine(wF HY.out h).mono ?_;rintro e w1⟨hb,v1,zs,rfl,hz,tz,hvz⟩;have HF:=hdd (RetN.of (n:=val xs/2^n) (HB.out.trans (hb.mono HB.out.size)) (hz.weak fun b h _=>Nat.le_trans HB.out.size h) tz (by rw[hvz,HV.out]));clear hb hz tz hvz;go_wp2;go_ret;exact HF.out
theorem ahH(hx:NatP p w va xs)(hL:xs.length<1073741824):
 Calls Tryz.prog 120 #[va,.int .i64 16777216] w (fun e w'=>∃K:Nat,(K:Int)=16777216/\RetN w.heap.size w (val xs*2^K) e w'):=
 (abL (n:=16777216) hx nlr hL).mono fun _ _ h=>⟨16777216,rfl,h⟩
theorem aeV(a K m:Nat)(h:K<=m):a*2^K*2^(m-K)=a*2^m:=by
 rw[Nat.mul_assoc,<-Nat.pow_add,Nat.add_sub_cancel' h]
theorem aeW(xs zs:List Nat)(m n:Nat)(hx:OkL xs)(hz:OkL zs)(tz:Tr zs)(h:val zs*2^m=val xs*2^n):64*zs.length<=64*xs.length+n+63:=by
 have h1:=bA zs hz tz;have h2:bits (val zs)<=64*xs.length+n:=by
  rw[aF];have h3:val zs<=val zs*2^m:=Nat.le_mul_of_pos_right _ (Nat.two_pow_pos m);have h4:val xs<2^(64*xs.length):=by
   have:=bF xs hx;rwa[show B64=2^64 from rfl,<-Nat.pow_mul]at this
  have h5:val xs*2^n<2^(64*xs.length)*2^n:=Nat.mul_lt_mul_of_pos_right h4 (Nat.two_pow_pos n);rw[Nat.pow_add];omega
 omega
theorem gJ(hx:NatP p w va xs)(hn:n<=134217728)(hL:xs.length<=1000000000):
 Calls Tryz.prog 124 #[va,.int .i64 n] w (RetN w.heap.size w (val xs*2^n)):=by
 have HX:=hdd hx.any;have HO:=hdd hx.ok;clear hx;have h0:¬(n:Int)<0:=by omega
 have h1:¬(134217728:Int)<(n:Int):=by omega
 go_enter Tryz.func124,Tryz.ntmps124
 go_wp2_with fail
 go_loopw [0,1] (fun sv i wr=>∃(m:Nat) (ys:List Nat),m<=n/\64*ys.length<=64*xs.length+n+63/\i=.int .i64 m/\Hid (NatP AnyB wr sv ys)/\Hid (Below w.heap.size w wr)/\Hid (val ys*2^m=val xs*2^n)) (fun _ i _=>(intOf i).toNat)
 case atStart=>exact⟨n,xs,Nat.le_refl _,by omega,rfl,HX,hdd (aqO _ _),hdd rfl⟩
 case round=>
  obtain⟨m,ys,hm,hl,rfl,HY,HB,HV⟩:=hrel;rcases Nat.lt_or_ge 16777216 m with h|h
  . have hi:(16777216:Int)<(m:Int):=by omega
    go_wp2_with fail
    refine(ahH HY.out (by omega)).mono ?_;rintro e w1⟨K,hK,hb,v1,zs,rfl,hz,tz,hvz⟩;have HZ:=hdd hz.any;have HB2:=hdd (HB.out.trans (hb.mono HB.out.size));have HV2:Hid (val zs*2^(m-K)=val xs*2^n):=hdd (by rw[hvz,<-HV.out];exact aeV _ _ _ (by omega));have hl2:=aeW xs zs _ n HO.out hz.ok tz HV2.out;have hsub:(m:Int)-16777216=((m-K:Nat):Int):=by omega
    clear hb hz tz hvz;go_wp2
    go_roundw
    case rel=>exact⟨m-K,zs,by omega,hl2,by go_num,HZ,HB2,HV2⟩
    case measure=>simp[intOf];omega
  . have hi:¬(16777216:Int)<(m:Int):=by omega
    go_wp2_with fail
    refine(abL HY.out h (by omega)).mono ?_;rintro e w1⟨hb,v1,zs,rfl,hz,tz,hvz⟩;have HF:=hdd (RetN.of (n:=val xs*2^n) (HB.out.trans (hb.mono HB.out.size)) (hz.weak fun b h _=>Nat.le_trans HB.out.size h) tz (by rw[hvz,HV.out]));clear hb hz tz hvz;go_wp2;go_ret;exact HF.out
structure Dy where
 man:Int
 exp:Int
deriving DecidableEq
def DyP(p:Nat->Prop)(w:World)(v:Value)(d:Dy):Prop:=
 ∃b A n c,v=.agg #[.bool b,.slice A n c,.int .i64 d.exp]/\IntP p w (.agg #[.bool b,.slice A n c]) d.man
def RetD(B:Nat)(w0:World)(d:Dy)(e:Ending)(w':World):Prop:=
 Below B w0 w'/\∃v,e=.returned v/\DyP (fun b=>B<=b) w' v d
def mkDy(man exp:Int):Dy:=if man=0 then⟨0,0⟩else⟨sg (decide (man<0)) (man.natAbs/2^ctz man.natAbs),exp+ctz man.natAbs⟩
theorem DyP.below {w':World}{d:Dy}(h:DyP p w v d)(hb:Below w.heap.size w w'):DyP p w' v d:=by
 obtain⟨b,A,n,c,e,h⟩:=h;exact⟨b,A,n,c,e,h.below hb⟩
theorem DyP.weak {d:Dy}(h:DyP p w v d)(hq:∀b,p b->b<w.heap.size->q b):DyP q w v d:=by
 obtain⟨b,A,n,c,e,h⟩:=h;exact⟨b,A,n,c,e,h.weak hq⟩
theorem cells3(h:w.heap[g]? =some (.cells #[a,b,c] T (0,0))):
 w.cell? ⟨g,0,none⟩=some a/\w.cell? ⟨g,1,none⟩=some b/\w.cell? ⟨g,2,none⟩=some c/\w.frozen? ⟨g,0,none⟩=false/\w.frozen? ⟨g,1,none⟩=false/\w.frozen? ⟨g,2,none⟩=false:=by
 refine⟨?_,?_,?_,?_,?_,?_⟩<;>simp[World.cell?,World.frozen?,h]
theorem set3(h:w.heap[g]? =some (.cells #[a,b,c] T (0,0)))(u v x:Value):
 (((w.setCell ⟨g,0,none⟩ u).setCell ⟨g,1,none⟩ v).setCell ⟨g,2,none⟩ x).heap[g]? =some (.cells #[u,v,x] T (0,0)):=by
 have hg:g<w.heap.size:=(Array.getElem?_eq_some_iff.1 h).1;have h':w.heap[g]=.cells #[a,b,c] T (0,0):=(Array.getElem?_eq_some_iff.1 h).2;simp[World.setCell,hg,Array.getElem_modify,h']
theorem aJ{B:Nat}{w0 w1:World}{u vm:Value}{d:Dy}(hb:Below B w0 w1)(hg:B<=g)(hw:w1.heap[g]? =some (.cells #[a,b,c] T (0,0)))
 (h:DyP q w1 (.agg #[u,vm,.int .i64 z]) d) (hq:∀b,q b->B<=b/\b≠g):
 Hid (RetD B w0 d (.returned (.agg #[u,vm,.int .i64 z])) (((w1.setCell ⟨g,0,none⟩ u).setCell ⟨g,1,none⟩ vm).setCell ⟨g,2,none⟩ (.int .i64 z)))/\
 (((w1.setCell ⟨g,0,none⟩ u).setCell ⟨g,1,none⟩ vm).setCell ⟨g,2,none⟩ (.int .i64 z)).heap[g]? =some (.cells #[u,vm,.int .i64 z] T (0,0)):=by
 obtain⟨b',A,n,c',e,h⟩:=h;refine⟨hdd ⟨((hb.setCell hg _).setCell hg _).setCell hg _,_,rfl,b',A,n,c',e,?_⟩,set3 hw u vm _⟩;exact(((h.setCell (fun b hb=>(hq b hb).2) _).setCell (fun b hb=>(hq b hb).2) _).setCell (fun b hb=>(hq b hb).2) _).weak fun b hb _=>(hq b hb).1
end
section
open Int renaming natCast_mul->aqR,mul_assoc->aqT,mul_eq_zero->aqW,zero_mul->aqY,neg_mul->aqZ
open Nat renaming two_pow_pos->aqQ,le_mul_of_pos_right->aqS,pow_succ->aqU,pow_add->aqV,mul_comm->aqX
variable{j k:Nat}
theorem oW(n:Nat)(h:n≠0):∃k m,n=2^k*(2*m+1)/\ctz n=k:=by
 suffices∀b n,n<2^b->n≠0->∃k m,n=2^k*(2*m+1) by
  obtain⟨k,m,e⟩:=this n n Nat.lt_two_pow_self h;exact⟨k,m,e,by rw[e];exact vT k m⟩
 intro b
 induction b with
 |zero=>intro n h1 h2;omega
 |succ b ih=>
  intro n h1 h2;rcases Nat.mod_two_eq_zero_or_one n with h3|h3
  . obtain⟨k,m,e⟩:=ih (n/2) (by rw[aqU]at h1;omega) (by omega)
    refine⟨k+1,m,?_⟩;rw[aqU,aqX (2^k) 2,Nat.mul_assoc,<-e];omega
  . exact⟨0,n/2,by simp;omega⟩
theorem pY(n:Nat)(h:n≠0):ctz n<=bits n:=by
 obtain⟨k,m,e,hk⟩:=oW n h;rw[hk];rcases Nat.lt_or_ge (bits n) k with h1|h1
 . have h2:=(aF n (bits n)).1 nlr
   have h3:2^bits n<=2^k:=Nat.pow_le_pow_right (by omega) (by omega);have h4:2^k<=n:=by rw[e];exact aqS _ (by omega)
   omega
 . exact h1
theorem kF(b:Bool)(m n:Nat):sg b (m*n)=sg b m*(n:Int):=by cases b<;>simp[sg,aqZ]
theorem gK(x e:Int)(hx:x≠0):∃k:Nat,x=(mkDy x e).man*(2^k:Nat)/\(mkDy x e).exp=e+k/\(mkDy x e).man%2=1/\k<=bits x.natAbs:=by
 obtain⟨k,m,e1,hk⟩:=oW x.natAbs (by omega);have hm:(mkDy x e).man=sg (decide (x<0)) (2*m+1):=by
  unfold mkDy;rw[if_neg hx,hk];show sg _ (x.natAbs/2^k)=_;rw[e1,Nat.mul_div_cancel_left _ (aqQ k)]
 refine⟨k,?_,?_,?_,?_⟩
 . rw[hm,<-kF,aqX,<-e1]
   exact(kT x).symm
 . unfold mkDy;rw[if_neg hx,hk]
 . rw[hm];cases decide (x<0)<;>simp[sg]<;>omega
 . have:=pY x.natAbs (by omega);omega
theorem aS(e:Int):mkDy 0 e=⟨0,0⟩:=by unfold mkDy;simp
theorem rV{a b:Int}(ha:a%2=1)(hb:b%2=1)(h:a*(2^j:Nat)=b*(2^k:Nat)):a=b/\j=k:=by
 suffices∀j k:Nat,∀a b:Int,a%2=1->b%2=1->j<=k->a*(2^j:Nat)=b*(2^k:Nat)->a=b/\j=k by
  rcases Nat.le_total j k with hjk|hjk
  . exact this j k a b ha hb hjk h
  . obtain⟨e1,e2⟩:=this k j b a hb ha hjk h.symm
    exact⟨e1.symm,e2.symm⟩
 intro j k a b ha hb hjk h;obtain⟨d,rfl⟩:∃d,k=j+d:=⟨k-j,by omega⟩;rw[aqV,aqR,Int.mul_comm ((2^j:Nat):Int),<-aqT]at h;have hp:((2^j:Nat):Int)≠0:=by have:=aqQ j;omega
 have h2:=Int.eq_of_mul_eq_mul_right hp h;rcases d with _|d
 . exact⟨by simpa using h2,rfl⟩
 . exfalso
   rw[aqU,aqR,<-aqT]at h2;omega
theorem qP{x y e f:Int}(h:x*(2^j:Nat)=y*(2^k:Nat))(he:e-j=f-k):mkDy x e=mkDy y f:=by
 have pj:=aqQ j;have pk:=aqQ k;by_cases hx:x=0
 . have hy:y=0:=by
    rw[hx,aqY]at h;rcases aqW.1 h.symm with h|h
    . exact h
    . omega
   rw[hx,hy,aS,aS]
 . have hy:y≠0:=by
    intro hy;rw[hy,aqY]at h;rcases aqW.1 h with h|h
    . exact hx h
    . omega
   obtain⟨a,a1,a2,a3,-⟩:=gK x e hx;obtain⟨b,b1,b2,b3,-⟩:=gK y f hy;have h2:(mkDy x e).man*(2^(a+j):Nat)=(mkDy y f).man*(2^(b+k):Nat):=by
    rw[aqV,aqV,aqR,aqR,<-aqT,<-aqT,<-a1,<-b1];exact h
   obtain⟨h3,h4⟩:=rV a3 b3 h2;have h5:(mkDy x e).exp=(mkDy y f).exp:=by rw[a2,b2];omega
   cases hd:mkDy x e;cases hd2:mkDy y f
   rw[hd,hd2]at h3 h5;simp at h3 h5;rw[h3,h5]
theorem aeX(x e:Int)(k:Nat):mkDy (x*(2^k:Nat)) (e-k)=mkDy x e:=
 qP (j:=0) (k:=k) (by simp) (by omega)
theorem lX(x e:Int):mkDy (mkDy x e).man (mkDy x e).exp=mkDy x e:=by
 by_cases hx:x=0
 . rw[hx,aS,aS]
 . obtain⟨k,k1,k2,k3,-⟩:=gK x e hx
   exact qP (j:=k) (k:=0) (by simpa using k1.symm) (by omega)
def dF(a b:Dy):Int:=if a.exp<=b.exp then a.man else a.man*(2^(a.exp-b.exp).toNat:Nat)
def dG(a b:Dy):Int:=if a.exp<=b.exp then b.man*(2^(b.exp-a.exp).toNat:Nat)else b.man
def addD(a b:Dy):Dy:=if a.man=0 then mkDy b.man b.exp else if b.man=0 then mkDy a.man a.exp else mkDy (dF a b+dG a b) (min a.exp b.exp)
def mulD(a b:Dy):Dy:=mkDy (a.man*b.man) (a.exp+b.exp)
def notD(a:Dy):Dy:=mkDy (-a.man) a.exp
def topD(a:Dy):Int:=if a.man=0 then 0 else bits a.man.natAbs+a.exp
def cmpD(a b:Dy):Int:=cmpI (dF a b) (dG a b)
theorem gL(a b:Dy):dF a b=a.man*(2^(a.exp-min a.exp b.exp).toNat:Nat):=by
 unfold dF;split
 . have:(a.exp-min a.exp b.exp).toNat=0:=by omega
   rw[this];simp
 . have:min a.exp b.exp=b.exp:=by omega
   rw[this]
theorem gM(a b:Dy):dG a b=b.man*(2^(b.exp-min a.exp b.exp).toNat:Nat):=by
 unfold dG;split
 . have:min a.exp b.exp=a.exp:=by omega
   rw[this]
 . have:(b.exp-min a.exp b.exp).toNat=0:=by omega
   rw[this];simp
theorem gW(x e:Int):mkDy x e=⟨0,0⟩/\x=0\/x≠0/\(mkDy x e).man≠0/\e<=(mkDy x e).exp/\x=(mkDy x e).man*(2^((mkDy x e).exp-e).toNat:Nat):=by
 by_cases hx:x=0
 . exact Or.inl ⟨by rw[hx,aS],hx⟩
 . obtain⟨k,k1,k2,k3,-⟩:=gK x e hx
   refine Or.inr ⟨hx,by omega,by omega,?_⟩;have:((mkDy x e).exp-e).toNat=k:=by omega
   rw[this];exact k1
theorem abN(x e:Int):notD (mkDy x e)=mkDy (-x) e:=by
 unfold notD;rcases gW x e with ⟨h1,h2⟩|⟨h1,h2,h3,h4⟩
 . rw[h1,h2];simp[aS]
 . generalize mkDy x e=a at*
   refine qP (j:=(a.exp-e).toNat) (k:=0) ?_ (by omega);rw[aqZ,<-h4];simp
theorem ahI(x e:Int):(mkDy x e).man.sign=x.sign:=by
 rcases gW x e with ⟨h1,h2⟩|⟨h1,h2,h3,h4⟩
 . rw[h1,h2]
 . generalize mkDy x e=a at*
   have:=aqQ (a.exp-e).toNat;rw[h4,Int.sign_mul,Int.sign_eq_one_of_pos (a:=((2^(a.exp-e).toNat:Nat):Int)) (by omega),Int.mul_one]
theorem nO(x e:Int):bits (mkDy x e).man.natAbs<=bits x.natAbs:=by
 rcases gW x e with ⟨h1,h2⟩|⟨h1,h2,h3,h4⟩
 . rw[h1];exact Nat.zero_le _
 . generalize mkDy x e=a at*
   refine bP ?_
   conv=>rhs;rw[h4]
   rw[Int.natAbs_mul,Int.natAbs_natCast];exact aqS _ (aqQ _)
end
section
open Go.RowKit
open Go.RowKit.Below renaming refl->aq0
variable{x:Int}{p:Nat->Prop}{v va:Value}{w:World}
theorem wrap_i64(h:-9223372036854775808<=x/\x<9223372036854775808):IntKind.i64.wrap x=x:=by
 have hb64:(2:Int)^IntKind.i64.bits=18446744073709551616:=rfl;have hb63:(2:Int)^(IntKind.i64.bits-1)=9223372036854775808:=rfl;simp only[IntKind.wrap,show IntKind.i64.signed=true from rfl,Bool.true_and,decide_eq_true_eq,hb64,hb63]
 split<;>omega
theorem bX{e:Int}(hx:IntP p w va x)(hT:Tab w)(hL:bits x.natAbs<=1073741824)(he:-1000000000000<=e/\e<=1000000000000):
 Calls Tryz.prog 53 #[va,.int .i64 e] w (RetD w.heap.size w (mkDy x e)):=by
 obtain⟨ba,A,n,c,rfl⟩:=hx.shape;obtain⟨w2,hw2,hb2,hs2,b1,b2⟩:=pro2 w (.cells #[Value.bool ba,.slice A n c] 75) (.cells #[Value.bool false,Value.slice none 0 0,.int .i64 0] 90);have HB:=hdd hb2;have H1:=hdd (hx.below hb2);have HS:=hdd hs2;have B1:=hdd b1;have B2:=hdd b2;have HT:=hdd (hT.below hb2);have HL:=hdd hL;obtain⟨c0,c1,-,-⟩:=aB b1;clear hx hb2 b1 b2 hs2 hT hL;go_enter Tryz.func53,Tryz.ntmps53
 go_wp2_with fail
 refine(jS H1.out).mono ?_;rintro r w3⟨rfl,hb⟩;replace H1:=hdd (H1.out.below hb);replace HT:=hdd (HT.out.below hb);replace c0:=cbl c0 hb;replace c1:=cbl c1 hb;replace B2:=hdd (aD B2.out hb (by have:=HS.out;omega));have HS3:=hdd hb.size;replace HB:=hdd (HB.out.trans (hb.mono HB.out.size));clear hb hw2;by_cases hz:x=0
 . have hs:(x.sign==0)=true:=by rw[hz];rfl
   obtain⟨e0,e1,e2,e3,e4,e5⟩:=cells3 B2.out;have hsz:=HS3.out;have hs2:=HS.out;have h:DyP (fun b=>w3.heap.size<=b) w3 (.agg #[.bool false,.slice none 0 0,.int .i64 0]) (mkDy x e):=by
    rw[hz];exact⟨_,_,_,_,rfl,_,[],rfl,NatP.nil _,Tr.nil,rfl⟩
   obtain⟨HFF,hFF⟩:=aJ HB.out (g:=w.heap.size+1) (by omega) B2.out h (fun b hb=>by omega);replace hFF:=hdd hFF;clear h hsz hs2;go_wp2;obtain⟨f0,f1,f2,-,-,-⟩:=cells3 hFF.out;refine bodyPost_ret (v:=.agg #[_,_,_]) (by simp[results,Tryz.results53,go_sem,f0,f1,f2];first|exact⟨rfl,rfl,rfl⟩|rfl) rfl ?_;exact HFF.out
 . have hs:(x.sign==0)=false:=beq_eq_false_iff_ne.2 (fun h=>hz (Int.sign_eq_zero_iff_zero.1 h))
   obtain⟨xs,hx1,hx2,hx3,hx4⟩:=H1.out.get;have HX:=hdd hx1;have HV:=hdd hx3;have HBA:=hdd hx4;have hlow:ctz (val xs)<=1073741824:=by
    have h1:=pY (val xs) (by rw[hx3];omega);have:=HL.out;rw[hx3]at h1|-;omega
   clear hx1 hx2 hx3 hx4;go_wp2_with fail
   refine(nI HX.out HT.out).mono ?_;rintro r w4⟨rfl,k,rfl⟩;have hb:=below_drewN w3 k;replace HX:=hdd (HX.out.below hb);replace c0:=cbl c0 hb;replace c1:=cbl c1 hb;replace B2:=hdd (hbl B2.out hb);replace HB:=hdd (HB.out.trans (hb.mono HB.out.size));replace HS3:Hid (w2.heap.size<=(w3.drewN k).heap.size):=hdd (Nat.le_trans HS3.out hb.size);clear hb H1 HT;generalize w3.drewN k=w4 at*;go_wp2_with fail
   have hwr:IntKind.i64.wrap (e+(ctz (val xs):Int))=e+(ctz (val xs):Int):=wrap_i64 (by omega);have HRG:=hdd (iX (n:=ctz (val xs)) (HX.out.below ((aq0 _ _).drew (w:=w4))) (by omega))
   go_region_held3 (fun w'=>w'.cell? ⟨w.heap.size,0,none⟩=some (.bool ba)/\w'.cell? ⟨w.heap.size,1,none⟩=some (.slice A n c)) (go_keep)
    (first
    |(go_at_call 76
      refine HRG.out.mono ?_;rintro r w5⟨hb,v5,zs,rfl,hz,tz,hvz⟩;have HB5:Hid (Below w4.heap.size w4 w5):=hdd ((aq0 _ _).drew.trans hb);have g0:=cbl c0 HB5.out;have g1:=cbl c1 HB5.out;have HMK:=hdd (bR (b:=ba) hz);have HVZ:=hdd hvz;clear hb hz tz hvz)
    |(go_at_call 75
      refine HMK.out.mono ?_;rintro r w6⟨hb,v6,hz⟩;obtain⟨rfl,hz⟩:=hz;obtain⟨b6,A6,n6,c6,rfl⟩:=hz.shape;have g0':=cbl g0 hb;have g1':=cbl g1 hb;have HSZ:=hdd HB5.out.size;replace HB5:=hdd (HB5.out.trans (hb.mono HB5.out.size));have HF:=hdd hz;have B25:=hdd (hbl B2.out HB5.out);obtain⟨e0',e1',e2',e3',e4',e5'⟩:=cells3 B25.out;clear hb hz))
   have hm:mkDy x e=⟨sg ba (val zs),e+ctz (val xs)⟩:=by
    unfold mkDy;rw[if_neg hz,HVZ.out,HV.out,HBA.out]
   have HDD:Hid (DyP (fun b=>w4.heap.size<=b) _ (.agg #[.bool b6,.slice A6 n6 c6,.int .i64 (e+ctz (val xs))]) (mkDy x e)):=hdd (by
    rw[hm];exact⟨b6,A6,n6,c6,rfl,HF.out.weak fun b h _=>by have:=HSZ.out;omega⟩)
   obtain⟨HFF,hFF⟩:=aJ (HB.out.trans (HB5.out.mono HB.out.size)) (g:=w.heap.size+1) (by omega) B25.out HDD.out (fun b hb=>by have:=HS3.out;have:=HS.out;omega);replace hFF:=hdd hFF;clear hm HDD;go_wp2;obtain⟨f0,f1,f2,-,-,-⟩:=cells3 hFF.out;refine bodyPost_ret (v:=.agg #[_,_,_]) (by simp[results,Tryz.results53,go_sem,f0,f1,f2];first|exact⟨rfl,rfl,rfl⟩|rfl) rfl ?_;exact HFF.out
theorem bY{d:Dy}(hx:DyP p w v d):
 Calls Tryz.prog 77 #[v] w (RetK w d.man.sign):=by
 obtain⟨b,A,n,c,rfl,h⟩:=hx;obtain⟨w1,hw1,hb1,hs1,b1⟩:=pro1 w (.cells #[Value.bool b,.slice A n c,.int .i64 d.exp] 90);have HB:=hdd hb1;have H1:=hdd (h.below hb1);obtain⟨c0,c1,c2,-,-,-⟩:=cells3 b1;clear h hb1 b1 hs1;go_enter Tryz.func77,Tryz.ntmps77
 go_wp2_with fail
 refine(jS H1.out).mono ?_;rintro r w3⟨rfl,hb⟩;have HF:Hid (RetK w d.man.sign (.returned (.int .i64 d.man.sign)) w3):=hdd ⟨rfl,HB.out.trans (hb.mono HB.out.size)⟩;clear hb;go_wp2;go_ret;exact HF.out
theorem xZ{xs:List Nat}(h:OkL xs):bits (val xs)<=64*xs.length:=by
 rw[aF];have:=bF xs h;rwa[dW,<-Nat.pow_mul]at this
theorem nP{d:Dy}(hx:DyP p w v d)(he:-1000000000000<=d.exp/\d.exp<=1000000000000):
 Calls Tryz.prog 78 #[v] w (RetK w (topD d)):=by
 obtain⟨b,A,n,c,rfl,h⟩:=hx;obtain⟨w1,hw1,hb1,hs1,b1⟩:=pro1 w (.cells #[Value.bool b,.slice A n c,.int .i64 d.exp] 90);have HB:=hdd hb1;have H1:=hdd (h.below hb1);obtain⟨c0,c1,c2,-,-,-⟩:=cells3 b1;clear h hb1 b1 hs1;have HDP:Hid (DyP p w1 (.agg #[.bool b,.slice A n c,.int .i64 d.exp]) d):=hdd ⟨b,A,n,c,rfl,H1.out⟩;go_enter Tryz.func78,Tryz.ntmps78
 go_wp2_with fail
 refine(bY HDP.out).mono ?_;rintro r w3⟨rfl,hb⟩;replace H1:=hdd (H1.out.below hb);replace c0:=cbl c0 hb;replace c1:=cbl c1 hb;replace c2:=cbl c2 hb;replace HB:=hdd (HB.out.trans (hb.mono HB.out.size));clear hb HDP hw1;by_cases hz:d.man=0
 . have hs:(d.man.sign==0)=true:=by rw[hz];rfl
   have HF:Hid (RetK w (topD d) (.returned (.int .i64 0)) w3):=hdd ⟨by unfold topD;rw[if_pos hz],HB.out⟩;clear hz;go_wp2;go_ret;exact HF.out
 . have hs:(d.man.sign==0)=false:=beq_eq_false_iff_ne.2 (fun h=>hz (Int.sign_eq_zero_iff_zero.1 h))
   obtain⟨xs,hx1,-,hx3,-⟩:=H1.out.get;have HBT:=hdd (cO (hx1.below ((aq0 _ _).drew (w:=w3))));have hbl:bits (val xs)<=64*1099511627776:=Nat.le_trans (xZ hx1.ok) (Nat.mul_le_mul_left _ hx1.len);have hwr:IntKind.i64.wrap ((bits (val xs):Int)+d.exp)=(bits (val xs):Int)+d.exp:=wrap_i64 (by omega);have HT:Hid (topD d=bits (val xs)+d.exp):=hdd (by unfold topD;rw[if_neg hz,hx3]);clear hx1 hx3 hz;go_wp2_with fail
   go_region_held3 (fun w'=>w'.cell? ⟨w.heap.size,0,none⟩=some (.bool b)/\w'.cell? ⟨w.heap.size,1,none⟩=some (.slice A n c)/\w'.cell? ⟨w.heap.size,2,none⟩=some (.int .i64 d.exp)) (go_keep)
    (first
    |(go_at_call 81
      refine HBT.out.mono ?_;rintro e w5⟨rfl,k,hk⟩;have hb5:Below w3.heap.size w3 w5:=by rw[hk];exact(aq0 _ _).drew.trans (below_drewN w3.drew k)
      have c0:=cbl c0 hb5;have c1:=cbl c1 hb5;have c2:=cbl c2 hb5;have HB5:=hdd (HB.out.trans (hb5.mono HB.out.size));clear hk hb5))
   have HF:Hid (RetK w (topD d) (.returned (.int .i64 (bits (val xs)+d.exp))) _):=hdd ⟨by rw[HT.out],HB5.out⟩;go_wp2;go_ret;exact HF.out
theorem nQ{d:Dy}(hx:DyP p w v d)(hT:Tab w)(hL:bits d.man.natAbs<=1073741824)(he:-1000000000000<=d.exp/\d.exp<=1000000000000):
 Calls Tryz.prog 89 #[v] w (RetD w.heap.size w (notD d)):=by
 obtain⟨b,A,n,c,rfl,h⟩:=hx;obtain⟨w2,hw2,hb2,hs2,b1,b2⟩:=pro2 w (.cells #[Value.bool b,.slice A n c,.int .i64 d.exp] 90) (.cells #[Value.bool false,Value.slice none 0 0,.int .i64 0] 90);have HB:=hdd hb2;have H1:=hdd (h.below hb2);have HT:=hdd (hT.below hb2);have HS:=hdd hs2;have B2:=hdd b2;have HL:=hdd hL;obtain⟨c0,c1,c2,-,-,-⟩:=cells3 b1;clear h hb2 b1 hs2 b2 hT hL;go_enter Tryz.func89,Tryz.ntmps89
 go_wp2_with fail
 have HN:=hdd (ahF (H1.out.below ((aq0 _ _).drew (w:=w2))));have n1:w.heap.size+1≠w.heap.size:=by omega
 go_region_held3 (fun w'=>w'.cell? ⟨w.heap.size,0,none⟩=some (.bool b)/\w'.cell? ⟨w.heap.size,1,none⟩=some (.slice A n c)/\w'.cell? ⟨w.heap.size,2,none⟩=some (.int .i64 d.exp)) (go_keep)
  (first
  |(go_at_call 91
    refine HN.out.mono ?_;rintro r w5⟨hb,v5,rfl,hz⟩;have HB5:Hid (Below w2.heap.size w2 w5):=hdd ((aq0 _ _).drew.trans hb);have c0:=cbl c0 HB5.out;have c1:=cbl c1 HB5.out;have c2:=cbl c2 HB5.out;have HMK:=hdd (bX (e:=d.exp) hz (HT.out.below HB5.out) (by rw[Int.natAbs_neg];exact HL.out) he);clear hb hz)
  |(go_at_call 53
    refine HMK.out.mono ?_;rintro r w6⟨hb,v6,hz⟩;obtain⟨rfl,hz⟩:=hz;obtain⟨b6,A6,n6,c6,rfl,-⟩:=id hz;have c0:=cbl c0 hb;have c1:=cbl c1 hb;have c2:=cbl c2 hb;have HSZ:=hdd HB5.out.size;have HB5:=hdd (HB5.out.trans (hb.mono HB5.out.size));have HF:=hdd hz;have B25:=hdd (hbl B2.out HB5.out);obtain⟨e0,e1,e2,e3,e4,e5⟩:=cells3 B25.out;clear hb hz))
 obtain⟨HFF,hFF⟩:=aJ (HB.out.trans (HB5.out.mono HB.out.size)) (g:=w.heap.size+1) (by omega) B25.out HF.out (fun b hb=>by have:=HS.out;have:=HSZ.out;omega);replace hFF:=hdd hFF;replace HFF:Hid (RetD w.heap.size w (notD d) _ _):=HFF;go_wp2;obtain⟨f0,f1,f2,-,-,-⟩:=cells3 hFF.out;refine bodyPost_ret (v:=.agg #[_,_,_]) (by simp[results,Tryz.results89,go_sem,f0,f1,f2];first|exact⟨rfl,rfl,rfl⟩|rfl) rfl ?_;exact HFF.out
theorem p8(a b:Nat):bits (a*b)<=bits a+bits b:=by
 rw[aF];have e3:=Nat.mul_lt_mul'' (bJ a) (bJ b);rwa[<-Nat.pow_add]at e3
theorem aeY{q:Nat->Prop}{vb:Value}{x y:Dy}(hx:DyP p w va x)(hy:DyP q w vb y)(hT:Tab w)
 (hL:bits x.man.natAbs+bits y.man.natAbs<=1073741823) (he:-100000000000<=x.exp/\x.exp<=100000000000) (he':-100000000000<=y.exp/\y.exp<=100000000000):
 Calls Tryz.prog 252 #[va,vb] w (RetD w.heap.size w (mulD x y)):=by
 obtain⟨ba,A,n,c,rfl,h⟩:=hx;obtain⟨bb,A',n',c',rfl,h'⟩:=hy;obtain⟨w3,hw3,hb3,hs3,b1,b2,b3⟩:=pro3 w (.cells #[Value.bool ba,.slice A n c,.int .i64 x.exp] 90) (.cells #[Value.bool bb,.slice A' n' c',.int .i64 y.exp] 90) (.cells #[Value.bool false,Value.slice none 0 0,.int .i64 0] 90);have HB:=hdd hb3;have H1:=hdd (h.below hb3);have H2:=hdd (h'.below hb3);have HT:=hdd (hT.below hb3);have HS:=hdd hs3;have B3:=hdd b3;obtain⟨c0,c1,c2,-,-,-⟩:=cells3 b1;obtain⟨d0,d1,d2,-,-,-⟩:=cells3 b2;have hwr:IntKind.i64.wrap (x.exp+y.exp)=x.exp+y.exp:=wrap_i64 (by omega);have HLM:Hid (bits (x.man*y.man).natAbs<=1073741824):=hdd (by
  rw[Int.natAbs_mul];have:=p8 x.man.natAbs y.man.natAbs;omega)
 have HL:=hdd hL;have HE:Hid (-1000000000000<=x.exp+y.exp/\x.exp+y.exp<=1000000000000):=hdd (by omega);clear h h' hb3 b1 b2 b3 hs3 hT hL he he';go_enter Tryz.func252,Tryz.ntmps252
 go_wp2_with fail
 have HBA:Hid (Below w3.heap.size w3 (w3.alloc (.cells #[Value.bool bb,.slice A' n' c'] 75)).drew):=hdd ((aq0 _ _).alloc nlr _).drew;have HBA2:Hid ((w3.alloc (.cells #[Value.bool bb,.slice A' n' c'] 75)).drew.heap[w3.heap.size]? =some (.cells #[Value.bool bb,.slice A' n' c'] 75 (0,0))):=hdd (heap_alloc_new w3 _);have HMU:=hdd (aeS (H1.out.below HBA.out) HBA2.out (H2.out.below HBA.out) (by have:=HL.out;omega));have n1:w.heap.size+1+1≠w.heap.size:=by omega
 have n2:w.heap.size+1+1≠w.heap.size+1:=by omega
 go_region_held3 (fun w'=>w'.cell? ⟨w.heap.size,0,none⟩=some (.bool ba)/\w'.cell? ⟨w.heap.size,1,none⟩=some (.slice A n c)/\w'.cell? ⟨w.heap.size,2,none⟩=some (.int .i64 x.exp)/\w'.cell? ⟨w.heap.size+1,0,none⟩=some (.bool bb)/\w'.cell? ⟨w.heap.size+1,1,none⟩=some (.slice A' n' c')/\w'.cell? ⟨w.heap.size+1,2,none⟩=some (.int .i64 y.exp)) (go_keep)
  (first
  |(go_at_call 264
    refine HMU.out.mono ?_;rintro r w5⟨hb,v5,rfl,hz⟩;have HB5:Hid (Below w3.heap.size w3 w5):=hdd (HBA.out.trans (hb.mono HBA.out.size));have c0:=cbl c0 HB5.out;have c1:=cbl c1 HB5.out;have c2:=cbl c2 HB5.out;have d0:=cbl d0 HB5.out;have d1:=cbl d1 HB5.out;have d2:=cbl d2 HB5.out;have HMK:=hdd (bX (e:=x.exp+y.exp) hz (HT.out.below HB5.out) HLM.out HE.out);clear hb hz)
  |(go_at_call 53
    refine HMK.out.mono ?_;rintro r w6⟨hb,v6,hz⟩;obtain⟨rfl,hz⟩:=hz;obtain⟨b6,A6,n6,c6,rfl,-⟩:=id hz;have c0:=cbl c0 hb;have c1:=cbl c1 hb;have c2:=cbl c2 hb;have d0:=cbl d0 hb;have d1:=cbl d1 hb;have d2:=cbl d2 hb;have HSZ:=hdd HB5.out.size;have HB5:=hdd (HB5.out.trans (hb.mono HB5.out.size));have HF:=hdd hz;have B35:=hdd (hbl B3.out HB5.out);obtain⟨e0,e1,e2,e3,e4,e5⟩:=cells3 B35.out;clear hb hz))
 obtain⟨HFF,hFF⟩:=aJ (HB.out.trans (HB5.out.mono HB.out.size)) (g:=w.heap.size+2) (by omega) B35.out HF.out (fun b hb=>by have:=HS.out;have:=HSZ.out;omega);replace hFF:=hdd hFF;replace HFF:Hid (RetD w.heap.size w (mulD x y) _ _):=HFF;go_wp2;obtain⟨f0,f1,f2,-,-,-⟩:=cells3 hFF.out;refine bodyPost_ret (v:=.agg #[_,_,_]) (by simp[results,Tryz.results252,go_sem,f0,f1,f2];first|exact⟨rfl,rfl,rfl⟩|rfl) rfl ?_;exact HFF.out
end
end Go.Proofs.YtkadpnljocflaaaGreatDoor
