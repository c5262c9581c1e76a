/- A part of the proof: contracts of functions and plain laws (IntE, IntF, Flt, FltA). -/
import Derived.Test.YtigoiiekebccnaaGreatDoorK07
import Derived.Laws.FloatArith
set_option linter.unusedVariables false
set_option linter.unusedSimpArgs false
set_option linter.unnecessarySimpa false
set_option maxHeartbeats 25600000
set_option maxRecDepth 100000
namespace Go.Proofs.YtigoiiekebccnaaGreatDoor
section
open Go.RowKit
open Go.Act renaming put->avW
open Int renaming lt_trichotomy->avT,sign_eq_neg_one_of_neg->avU,sign_eq_one_of_pos->avV
open List renaming setIfInBounds_toArray->avQ,set_cons_zero->avR,set_cons_succ->avS
variable{b:Bool}{x y:Int}{p q:Nat->Prop}{va:Value}{w:World}
theorem IntP.get {v:Value}{z:Int}(h:IntP p w (.agg #[.bool b,v]) z):∃xs,NatP p w v xs/\Tr xs/\val xs=z.natAbs/\b=decide (z<0):=by
 obtain⟨vm,xs,e,h1,h2,h3⟩:=h;injection e with e;have e1:Value.bool b=.bool (decide (z<0)):=congrArg (fun a:Array Value=>a.getD 0 undef) e;have e2:v=vm:=congrArg (fun a:Array Value=>a.getD 1 undef) e;subst e2;injection e1 with e1;exact⟨xs,h1,h2,h3,e1⟩
theorem an7(b c:Bool)(m n:Nat):sg (b != c) (m*n)=sg b m*sg c n:=by cases b<;>cases c<;>simp[sg,Int.neg_mul,Int.mul_neg]
theorem af4(x y:Int):sg (decide (x<0) != decide (y<0)) (x.natAbs*y.natAbs)=x*y:=by rw[an7,lL,lL]
theorem aiS{g n c:Nat}{T:TypeId}{A:Option Addr}(hx:IntP p w va x)(hg:w.heap[g]? =some (.cells #[.bool b,.slice A n c] T (0,0)))(hy:IntP q w (.agg #[.bool b,.slice A n c]) y)
 (hL:bits x.natAbs+bits y.natAbs<=1073741824):
 Calls Tryz.prog 366 #[va,.slice (some ⟨g,0,none⟩) 1 1] w (RetZ w.heap.size w (x*y)):=by
 obtain⟨vm,xs,rfl,h1,h2,h3⟩:=hx;obtain⟨A0,c0',rfl,-⟩:=id h1;obtain⟨w2,hw2,hb2,hs2,b1,b2⟩:=pro2 w (.cells #[Value.bool (decide (x<0)),.slice A0 xs.length c0'] 186) (.cells #[Value.bool false,Value.slice none 0 0] 186);have X0:=hdd (lL x);rw[<-h3]at X0;have HB:=hdd hb2;have H1:=hdd (h1.below hb2);have HS:=hdd hs2;have B2:=hdd b2;have HG:=hdd hg;have HY:=hdd hy;obtain⟨c0,c1,-,-⟩:=aB b1;generalize decide (x<0)=ba at*;clear h1 h2 h3 hb2 b1 b2 hs2 hg hy;go_enter Tryz.func366,Tryz.ntmps366
 go_wp2_with fail
 refine(dD H1.out).mono ?_;rintro e w3⟨hb,v,rfl,h⟩;rw[X0.out]at h;obtain⟨b',A1,n1,c1',rfl⟩:=h.shape;replace B2:=hdd (aC B2.out hb (by have:=HS.out;omega));have HS3:=hdd (Nat.le_trans (Nat.le_of_eq HS.out.symm) hb.size);replace HB:=hdd (HB.out.trans (hb.mono HB.out.size));have HX:=hdd h;clear h hb hw2 c0 c1;go_wp2_with fail
 go_loopw [15] (fun i wr=>∃k:Nat,k<=1/\i=.int .i64 k/\Hid (Below w.heap.size w wr)/\Hid (∃bs As ns cs,wr.heap[w3.heap.size]? =some (.cells #[.bool bs,.slice As ns cs] 186 (0,0))/\IntP (fun b=>w.heap.size<=b/\b≠w3.heap.size/\b≠w.heap.size+1) wr (.agg #[.bool bs,.slice As ns cs]) (if k=0 then x else x*y))/\
  Hid (wr.heap[w.heap.size+1]? =some (.cells #[Value.bool false,Value.slice none 0 0] 186 (0,0)))) (fun i _=>1-(intOf i).toNat)
 case atStart=>
  have hs:=HS.out;have hs3:=HS3.out;refine⟨0,by omega,rfl,hdd (HB.out.alloc (by omega) _),hdd ⟨_,_,_,_,heap_alloc_new w3 _,?_⟩,hdd (aC B2.out (aN w3 _) (aD B2.out))⟩;exact(HX.out.weak fun b h1 h2=>by omega).below (aN w3 _)
 case round=>
  clear HB HX B2;obtain⟨k,hk,rfl,HB,HR,B2⟩:=hrel;obtain⟨bs,As,ns,cs,hR,hX⟩:=HR.out;have HR0:=hdd hR;have HX:=hdd hX;obtain⟨r0,r1,r2,r3⟩:=aB hR;clear hR hX;have hkk:k=0\/k=1:=by omega
  rcases hkk with rfl|rfl
  . obtain⟨y0,y1,-,-⟩:=aB (hbl HG.out HB.out)
    obtain⟨w4,hw4,hba,hs4,q4⟩:=pro1 wr (.cells #[Value.bool b,.slice A n c] 186);obtain⟨q0,q1,-,-⟩:=aB (hbl HR0.out hba);obtain⟨q2,q3,-,-⟩:=aB q4;go_wp2_with fail
    obtain⟨xs',hx1,hx2,hx3,hx4⟩:=HX.out.get;replace hx3:val xs'=x.natAbs:=hx3;replace hx4:bs=decide (x<0):=hx4;obtain⟨ys',hy1,hy2,hy3,hy4⟩:=HY.out.get;have hlen:xs'.length+ys'.length<=549755813888:=by
     have e1:=bD xs' hx1.ok hx2;have e2:=bD ys' hy1.ok hy2;rw[hx3]at e1;rw[hy3]at e2;omega
    have HMUL:=hdd (aiJ (cut:=40) (by omega) (by omega) ((hx1.below hba).below (Below.refl _ _).drew) (((hy1.below HB.out).below hba).below (Below.refl _ _).drew) hlen);have HP:=hdd (af4 x y);rw[<-hx3,<-hy3,<-hx4,<-hy4]at HP;have HR4:=hdd (hbl HR0.out hba);clear hx1 hx2 hx3 hx4 hy1 hy2 hy3 hy4 hlen;refine wp_region_noPanic ?_;refine gQ (fun w'=>w'.cell? ⟨w3.heap.size,0,none⟩=some (.bool bs)/\w'.cell? ⟨w3.heap.size,1,none⟩=some (.slice As ns cs)/\w'.cell? ⟨wr.heap.size,0,none⟩=some (.bool b)/\w'.cell? ⟨wr.heap.size,1,none⟩=some (.slice A n c)) 11 (by kernel_rfl) ?_;have hSd:(fun w':World=>w'.cell? ⟨w3.heap.size,0,none⟩=some (.bool bs)/\w'.cell? ⟨w3.heap.size,1,none⟩=some (.slice As ns cs)/\w'.cell? ⟨wr.heap.size,0,none⟩=some (.bool b)/\w'.cell? ⟨wr.heap.size,1,none⟩=some (.slice A n c)) w4.drew:=⟨q0,q1,q2,q3⟩;refine aO 0 (.pointer (some ⟨w3.heap.size,0,none⟩)) rfl (by kernel_rfl) (by kernel_rfl) (by kernel_rfl) (by kernel_rfl) (fun _ _ _ h=>h) (by rfl) ?_ (by assumption) ?_
    . intro w' hSw;(try dsimp only at hSw);go_split_ands;go_simp;all_goals first|rfl|(cases bs<;>cases b<;>rfl)
    simp only[avW,avQ,avR,avS];refine aO 1 (.bool bs) rfl (by kernel_rfl) (by kernel_rfl) (by kernel_rfl) (by kernel_rfl) (fun _ _ _ h=>h) (by rfl) ?_ (by assumption) ?_
    . intro w' hSw;(try dsimp only at hSw);go_split_ands;go_simp;all_goals first|rfl|(cases bs<;>cases b<;>rfl)
    simp only[avW,avQ,avR,avS];refine aO 2 (.pointer (some ⟨wr.heap.size,0,none⟩)) rfl (by kernel_rfl) (by kernel_rfl) (by kernel_rfl) (by kernel_rfl) (fun _ _ _ h=>h) (by rfl) ?_ (by assumption) ?_
    . intro w' hSw;(try dsimp only at hSw);go_split_ands;go_simp;all_goals first|rfl|(cases bs<;>cases b<;>rfl)
    simp only[avW,avQ,avR,avS];refine aO 3 (.bool b) rfl (by kernel_rfl) (by kernel_rfl) (by kernel_rfl) (by kernel_rfl) (fun _ _ _ h=>h) (by rfl) ?_ (by assumption) ?_
    . intro w' hSw;(try dsimp only at hSw);go_split_ands;go_simp;all_goals first|rfl|(cases bs<;>cases b<;>rfl)
    simp only[avW,avQ,avR,avS];refine aO 4 (.bool (bs != b)) rfl (by kernel_rfl) (by kernel_rfl) (by kernel_rfl) (by kernel_rfl) (fun _ _ _ h=>h) (by rfl) ?_ (by assumption) ?_
    . intro w' hSw;(try dsimp only at hSw);go_split_ands;go_simp;all_goals first|rfl|(cases bs<;>cases b<;>rfl)
    simp only[avW,avQ,avR,avS];refine aO 5 (.pointer (some ⟨w3.heap.size,1,none⟩)) rfl (by kernel_rfl) (by kernel_rfl) (by kernel_rfl) (by kernel_rfl) (fun _ _ _ h=>h) (by rfl) ?_ (by assumption) ?_
    . intro w' hSw;(try dsimp only at hSw);go_split_ands;go_simp;all_goals first|rfl|(cases bs<;>cases b<;>rfl)
    simp only[avW,avQ,avR,avS];refine aO 6 (.slice As ns cs) rfl (by kernel_rfl) (by kernel_rfl) (by kernel_rfl) (by kernel_rfl) (fun _ _ _ h=>h) (by rfl) ?_ (by assumption) ?_
    . intro w' hSw;(try dsimp only at hSw);go_split_ands;go_simp;all_goals first|rfl|(cases bs<;>cases b<;>rfl)
    simp only[avW,avQ,avR,avS];refine aO 7 (.pointer (some ⟨wr.heap.size,1,none⟩)) rfl (by kernel_rfl) (by kernel_rfl) (by kernel_rfl) (by kernel_rfl) (fun _ _ _ h=>h) (by rfl) ?_ (by assumption) ?_
    . intro w' hSw;(try dsimp only at hSw);go_split_ands;go_simp;all_goals first|rfl|(cases bs<;>cases b<;>rfl)
    simp only[avW,avQ,avR,avS];refine aO 8 (.slice A n c) rfl (by kernel_rfl) (by kernel_rfl) (by kernel_rfl) (by kernel_rfl) (fun _ _ _ h=>h) (by rfl) ?_ (by assumption) ?_
    . intro w' hSw;(try dsimp only at hSw);go_split_ands;go_simp;all_goals first|rfl|(cases bs<;>cases b<;>rfl)
    try simp only[avW,avQ,avR,avS]
    refine bG 9 (by kernel_rfl) rfl fun K hK=> ?_;go_simp;refine HMUL.out.mono ?_;rintro e w6⟨hb,v6,zs,rfl,hz,tz,hvz⟩;have HB6:Hid (Below w4.heap.size w4 w6):=hdd ((Below.refl _ _).drew.trans hb);have q0':=cbl q0 HB6.out;have q1':=cbl q1 HB6.out;have q2':=cbl q2 HB6.out;have q3':=cbl q3 HB6.out;have HMK:=hdd (dD (b:=bs != b) hz);have HVZ:=hdd hvz;clear hb hz tz hvz;refine hK.out _ _ (fun _=>⟨q0',q1',q2',q3'⟩) ?_;clear hK
    try simp only[avW,avQ,avR,avS]
    refine bG 10 (by kernel_rfl) rfl fun K hK=> ?_;go_simp;refine HMK.out.mono ?_;rintro e w5⟨hb,v5,hz⟩;obtain⟨rfl,hz⟩:=hz;obtain⟨b5,A5,n5,c5,rfl⟩:=hz.shape;have q0'':=cell_below q0' hb nlr;have q1'':=cell_below q1' hb nlr;have q2'':=cell_below q2' hb nlr;have q3'':=cell_below q3' hb nlr;have HSZ:=hdd HB6.out.size;replace HB6:=hdd (HB6.out.trans (hb.mono HB6.out.size));have HF:=hdd hz;obtain⟨f0',f1',f2',f3'⟩:=aB (hbl HR4.out HB6.out);clear hb hz;refine hK.out _ _ (fun _=>⟨q0'',q1'',q2'',q3''⟩) ?_;clear hK
    try simp only[avW,avQ,avR,avS]
    refine bG 11 (by kernel_rfl) rfl fun K hK=> ?_;go_simp;refine hK.out _ _ (fun h=>absurd rfl h) ?_;clear hK;refine iZ (by kernel_rfl) ?_;refine NoPanic.normal ?_;have h:=HF.out;rw[HVZ.out,HP.out]at h;have hb:=HB6.out;have hsz6:=HSZ.out;have hbb:=hba.trans (hb.mono hba.size);have R5:=hbl HR0.out hbb;have HR5:=hdd R5;obtain⟨r0,r1,r2,r3⟩:=aB R5;have hs:=HS.out;have hs3:=HS3.out;have hrs:=aD HR0.out;have hsz:=HB.out.size;have B25:=hbl B2.out hbb;have HB2:=hdd (((HB.out.trans (hbb.mono HB.out.size)).setCell (p:=⟨w3.heap.size,0,none⟩) (by simp;omega) (.bool b5)).setCell (p:=⟨w3.heap.size,1,none⟩) (by simp;omega) (.slice A5 n5 c5));have HR2:Hid (∃bs As ns cs,((w5.setCell ⟨w3.heap.size,0,none⟩ (.bool b5)).setCell ⟨w3.heap.size,1,none⟩ (.slice A5 n5 c5)).heap[w3.heap.size]? =some (.cells #[.bool bs,.slice As ns cs] 186 (0,0))/\IntP (fun b=>w.heap.size<=b/\b≠w3.heap.size/\b≠w.heap.size+1) ((w5.setCell ⟨w3.heap.size,0,none⟩ (.bool b5)).setCell ⟨w3.heap.size,1,none⟩ (.slice A5 n5 c5)) (.agg #[.bool bs,.slice As ns cs]) (if 1=0 then x else x*y)):=by
     refine hdd ⟨_,_,_,_,set2 R5 _ _,?_⟩;have h':=h.weak (q:=fun b=>w.heap.size<=b/\b≠w3.heap.size/\b≠w.heap.size+1) fun b h1 h2=>by have:=hba.size;omega
     exact(h'.setCell (fun b hb=>hb.2.1) _).setCell (fun b hb=>hb.2.1) _
    have HB22:Hid (((w5.setCell ⟨w3.heap.size,0,none⟩ (.bool b5)).setCell ⟨w3.heap.size,1,none⟩ (.slice A5 n5 c5)).heap[w.heap.size+1]? =some (.cells #[Value.bool false,Value.slice none 0 0] 186 (0,0))):=by
     refine hdd ?_;rw[Below.heap_setCell _ _ _ _ (by simp;omega),Below.heap_setCell _ _ _ _ (by simp;omega)];exact B25
    clear hsz6 hSd q0' q1' q2' q3' q0'' q1'' q2'' q3'';clear h hb hbb hba R5 B25 hs hs3 hrs hsz y0 y1 q0 q1 q2 q3 q4 hw4 hs4;go_wp2
    go_roundw
    case rel=>exact⟨1,by omega,by go_num,HB2,HR2,HB22⟩
    case measure=>simp[intOf]
  . obtain⟨e0,e1,e2,e3⟩:=aB B2.out
    have hs:=HS.out;have hs3:=HS3.out;obtain⟨HFF,hFF⟩:=gP HB.out (g:=w.heap.size+1) (by omega) B2.out HX.out (fun b hb=>by omega);replace hFF:=hdd hFF;replace HFF:Hid (RetZ w.heap.size w (x*y) (.returned (.agg #[.bool bs,.slice As ns cs])) ((wr.setCell ⟨w.heap.size+1,0,none⟩ (.bool bs)).setCell ⟨w.heap.size+1,1,none⟩ (.slice As ns cs))):=HFF;clear hs hs3;go_wp2;obtain⟨f0,f1,-,-⟩:=aB hFF.out;refine bodyPost_ret (v:=.agg #[_,_]) (by simp[results,Tryz.results366,go_sem,f0,f1];first|exact⟨rfl,rfl⟩|rfl) rfl ?_;exact HFF.out
def cmpI(x y:Int):Int:=if x<y then-1 else if y<x then 1 else 0
theorem rR{x y:Int}(h:x.sign<y.sign):cmpI x y=-1:=by
 have:x<y:=by
  rcases avT x 0 with hx|hx|hx<;>rcases avT y 0 with hy|hy|hy<;>simp_all[avU,avV]<;>omega
 unfold cmpI;rw[if_pos this]
theorem rT{x y:Int}(h:y.sign<x.sign):cmpI x y=1:=by
 have:y<x:=by
  rcases avT x 0 with hx|hx|hx<;>rcases avT y 0 with hy|hy|hy<;>simp_all[avU,avV]<;>omega
 unfold cmpI;rw[if_neg (by omega),if_pos this]
theorem lM{x y:Int}(h:x.sign=y.sign):cmpI x y=x.sign*cmpN x.natAbs y.natAbs:=by
 rcases avT x 0 with hx|hx|hx<;>rcases avT y 0 with hy|hy|hy<;>
  simp_all[avU,avV]<;>simp only[cmpI,cmpN]<;>(repeat' split)<;>omega
theorem aA{a b c:World}(h:Below a.heap.size a b)(k:Below b.heap.size b c):Below a.heap.size a c:=h.trans (k.mono h.size)
theorem aiT{vb:Value}(hx:IntP p w va x)(hy:IntP q w vb y):
 Calls Tryz.prog 205 #[va,vb] w (RetK w (cmpI x y)):=by
 obtain⟨ba,A,n,c,rfl⟩:=hx.shape;obtain⟨bb,A',n',c',rfl⟩:=hy.shape;obtain⟨w2,hw2,hb2,hs2,b1,b2⟩:=pro2 w (.cells #[Value.bool ba,.slice A n c] 186) (.cells #[Value.bool bb,.slice A' n' c'] 186);have HB:=hdd hb2;have H1:=hdd (hx.below hb2);have H2:=hdd (hy.below hb2);have HS:=hdd hs2;have B1:=hdd b1;have B2:=hdd b2;obtain⟨c0,c1,-,-⟩:=aB b1;obtain⟨d0,d1,-,-⟩:=aB b2;clear hx hy hb2 b1 b2 hs2;go_enter Tryz.func205,Tryz.ntmps205
 go_wp2_with fail
 have HSA:Hid (∀w',Below w2.heap.size w2 w'->Calls Tryz.prog 157 #[.agg #[.bool ba,.slice A n c]] w' (RetK w' x.sign)):=hdd fun w' h=>o7 (H1.out.below h);have HSB:Hid (∀w',Below w2.heap.size w2 w'->Calls Tryz.prog 157 #[.agg #[.bool bb,.slice A' n' c']] w' (RetK w' y.sign)):=hdd fun w' h=>o7 (H2.out.below h);have HBW:Below w2.heap.size w2 w2.drew:=(Below.refl _ _).drew;replace c0:w2.drew.cell? ⟨w.heap.size,0,none⟩=some (.bool ba):=c0;replace c1:w2.drew.cell? ⟨w.heap.size,1,none⟩=some (.slice A n c):=c1;replace d0:w2.drew.cell? ⟨w.heap.size+1,0,none⟩=some (.bool bb):=d0;replace d1:w2.drew.cell? ⟨w.heap.size+1,1,none⟩=some (.slice A' n' c'):=d1
 go_region_held3 (fun w'=>w'.cell? ⟨w.heap.size,0,none⟩=some (.bool ba)/\w'.cell? ⟨w.heap.size,1,none⟩=some (.slice A n c)/\w'.cell? ⟨w.heap.size+1,0,none⟩=some (.bool bb)/\w'.cell? ⟨w.heap.size+1,1,none⟩=some (.slice A' n' c')) (go_keep)
  (first
  |(go_at_call 157
    with_reducible refine(HSA.out _ (by assumption)).mono ?_
    rintro e w3⟨rfl,hb⟩;have c0:=cbl c0 hb;have c1:=cbl c1 hb;have d0:=cbl d0 hb;have d1:=cbl d1 hb;have HBW:=aA HBW hb)
  |(go_at_call 157
    with_reducible refine(HSB.out _ (by assumption)).mono ?_
    rintro e w3⟨rfl,hb⟩;have c0:=cbl c0 hb;have c1:=cbl c1 hb;have d0:=cbl d0 hb;have d1:=cbl d1 hb;have HBW:=aA HBW hb))
 have HBF:=hdd (HB.out.trans (HBW.mono HB.out.size));obtain⟨xs,hx1,hx2,hx3,-⟩:=(H1.out.below HBW).get;obtain⟨ys,hy1,hy2,hy3,-⟩:=(H2.out.below HBW).get;have HX1:=hdd hx1;have HY1:=hdd hy1;have HX3:=hdd hx3;have HY3:=hdd hy3;clear hx1 hx2 hx3 hy1 hy2 hy3 HBW;have HLT:=hdd (@rR x y);have HGT:=hdd (@rT x y);have HEQ:=hdd (@lM x y);generalize x.sign=s at*;generalize y.sign=t at*;rcases avT s t with h|h|h
 . have h2:=HLT.out h
   have HF:Hid (RetK w (cmpI x y) (.returned (.int .i64 (-1))) _):=hdd ⟨by rw[h2],HBF.out⟩;clear h2;go_wp2;go_ret;exact HF.out
 . subst h
   have h2:=HEQ.out rfl;rw[<-HX3.out,<-HY3.out]at h2;have hb:-1<=cmpI x y/\cmpI x y<=1:=by unfold cmpI;(repeat' split)<;>omega
   have HF0:=hdd h2;have HBB:=hdd hb;clear h2 hb;go_wp2_with fail
   refine(mY HX1.out HY1.out).mono ?_;rintro e w7⟨rfl,k,rfl⟩;have HF:=hdd (HBF.out.trans ((below_drewN _ k).mono HBF.out.size));have hm:=HF0.out;have hb1:=HBB.out.1;have hb2:=HBB.out.2;generalize cmpN (val xs) (val ys)=m at*;rw[hm]at hb1 hb2;have HR:Hid (RetK w (cmpI x y) (.returned (.int .i64 (s*m))) _):=hdd ⟨by rw[hm],HF.out⟩;go_wp2;go_ret;exact HR.out
 . have h2:=HGT.out h
   have HF:Hid (RetK w (cmpI x y) (.returned (.int .i64 1)) _):=hdd ⟨by rw[h2],HBF.out⟩;have h3:¬s<t:=by omega
   clear h2;go_wp2;go_ret;exact HF.out
end
section
open Ieee
open Bool renaming false_eq_true->av5
open Int renaming lt_or_le->av9,neg_mul->awD,natCast_mul->awI,mul_lt_mul_right->awJ,lt_or_eq_of_le->awM,natAbs_natCast->awN,neg_le_neg_iff->awO,compare_eq_lt->awQ,compare_eq_gt->awR,natCast_pos->awT,natAbs_neg->awV,le_total->awY
open Nat renaming two_pow_pos->avX,le_of_mul_le_mul_right->avY,pow_add->avZ,pow_le_pow_right->av0,le_trans->av1,mul_lt_mul_of_pos_right->av2,lt_or_ge->av3,mul_assoc->av4,eq_zero_or_pos->av6,add_sub_cancel->av7,le_of_eq->av8,mul_le_mul_left->awC,lt_log2_self->awE,shiftLeft_eq->awF,pow_succ->awG,pow_zero->awH,mul_one->awK,lt_of_lt_of_le->awL,one_shiftLeft->awP,min_eq_left->awS,mul_le_mul->awU,le_total->awW,mul_comm->awX,le_of_lt->awZ,zero_le->aw0,mul_pos->aw1
variable{a:Int}{b x y:Nat}
def mg(r:Nat):Nat:=if r<2^52 then r else(2^52+r%2^52)*2^(r/2^52-1)
theorem an8(neg:Bool)(n d k:Nat)(h:k*2^d<=n):k<=Toward.even.cut neg n d:=by
 unfold Toward.cut;simp only[awP];rcases awW d (n.log2+2)with hd|hd
 . rw[awS hd]
   have:k<=n/2^d:=(Nat.le_div_iff_mul_le (avX d)).2 h;omega
 . have hn:n<2^d:=awL (awE (n:=n)) (av0 (by omega) (by omega))
   rcases av6 k with rfl|hk
   . exact aw0 _
   . have:2^d<=k*2^d:=Nat.le_mul_of_pos_left _ hk
     omega
theorem an9(neg:Bool)(n d k:Nat)(h:n<=k*2^d):Toward.even.cut neg n d<=k:=by
 unfold Toward.cut;simp only[awP];have base:∀g low rest:Nat,n=g*low+rest->rest<g->n<=k*g->low+(decide (g<2*rest)||(g==2*rest&&low%2==1)).toNat<=k:=by
  intro g low rest h1 h2 h3;have hlow:low<=k:=by
   refine Nat.le_of_mul_le_mul_left (c:=g) ?_ (by omega);rw[awX g k];omega
  rcases av3 low k with hlt|hge
  . have:(decide (g<2*rest)||(g==2*rest&&low%2==1)).toNat<=1:=Bool.toNat_le _
    omega
  . have hk:low=k:=by omega
    subst hk;have hr:rest=0:=by rw[awX low g]at h3;omega
    subst hr;have h0:0<g:=h2;have e1:decide (g<2*0)=false:=by simp
    have e2:(g==2*0)=false:=by simp;omega
    rw[e1,e2];simp
 rcases awW d (n.log2+2)with hd|hd
 . rw[awS hd]
   exact base (2^d) (n/2^d) (n%2^d) (Nat.div_add_mod n _).symm (Nat.mod_lt _ (avX d)) h
 . rw[Nat.min_eq_right hd]
   have hn:n<2^(n.log2+1):=awE (n:=n);have hp:2^(n.log2+2)=2*2^(n.log2+1):=by rw[awG];omega
   have e0:n/2^(n.log2+2)=0:=Nat.div_eq_of_lt (by omega);have e1:n%2^(n.log2+2)=n:=Nat.mod_eq_of_lt (by omega);rw[e0,e1];have f1:decide (2^(n.log2+2)<2*n)=false:=by simp;omega
   have f2:(2^(n.log2+2)==2*n)=false:=by simp;omega
   rw[f1,f2];simp
def rg(mag:Nat)(place:Int):Nat:=if mag=0 then 0 else min ((max (place+mag.log2-52) (-1074)+1074).toNat*2^52+Toward.even.cut false (mag <<< (place-max (place+mag.log2-52) (-1074)).toNat) (max (place+mag.log2-52) (-1074)-place).toNat) (2047*2^52)
theorem kS:double.leastPlace=-1074:=by decide
theorem jY:double.binade=2^52:=by decide
theorem oD:double.infRung=2047*2^52:=by decide
theorem qP:double.signWeight=2^63:=by decide
theorem kT(neg:Bool)(mag:Nat)(place:Int):double.nearest neg mag place=double.word neg (rg mag place):=by
 unfold Format.nearest rg
 split
 . rfl
 . simp only[kS,jY,oD]
   rfl
theorem nD(k:Nat){a:Nat}(h:a=b):k*2^a=k*2^b:=by rw[h]
theorem aeO(mag:Nat)(place:Int)(h0:mag≠0)(t:Nat)(ht:0<=place+t)(ht2:1074<=t):∃E K:Nat,
 rg mag place=min (E*2^52+K) (2047*2^52)/\
 (∀k,k*2^E*2^(t-1074)<=mag*2^(place+t).toNat->k<=K)/\
 (∀k,mag*2^(place+t).toNat<=k*2^E*2^(t-1074)->K<=k)/\
 mag*2^(place+t).toNat<2^53*2^E*2^(t-1074)/\
 (0<E->2^52*2^E*2^(t-1074)<=mag*2^(place+t).toNat):=by
 unfold rg;rw[if_neg h0];generalize hl:max (place+mag.log2-52) (-1074)=last;have hl1:-1074<=last:=by omega
 have hl2:place+mag.log2-52<=last:=by omega
 have hlog1:2^mag.log2<=mag:=Nat.log2_self_le h0;have hlog2:mag<2^(mag.log2+1):=awE;generalize mag.log2=L at*;refine⟨(last+1074).toNat,_,rfl,?_,?_,?_,?_⟩
 all_goals
  obtain⟨E,hE⟩:∃E:Nat,(last+1074).toNat=E:=⟨_,rfl⟩;rw[hE];obtain⟨A,hA⟩:∃A:Nat,(place+t).toNat=A:=⟨_,rfl⟩;rw[hA]
 . intro k hk
   refine an8 _ _ _ _ ?_;rw[awF];rcases awY place last with hp|hp
   . have e1:(place-last).toNat=0:=by omega
     rw[e1,awH,awK];refine avY (c:=2^A) ?_ (avX A);refine av1 (av8 ?_) hk;rw[av4,av4,<-avZ,<-avZ];exact nD _ (by omega)
   . have e1:(last-place).toNat=0:=by omega
     rw[e1,awH,awK];refine avY (c:=2^(E+(t-1074))) ?_ (avX _);refine av1 (av8 ?_) (av1 hk (av8 ?_))
     . rw[av4,<-avZ]
     . rw[av4,<-avZ];exact nD _ (by omega)
 . intro k hk
   refine an9 _ _ _ _ ?_;rw[awF];rcases awY place last with hp|hp
   . have e1:(place-last).toNat=0:=by omega
     rw[e1,awH,awK];refine avY (c:=2^A) ?_ (avX A);refine av1 hk (av8 ?_);rw[av4,av4,<-avZ,<-avZ];exact nD _ (by omega)
   . have e1:(last-place).toNat=0:=by omega
     rw[e1,awH,awK];refine avY (c:=2^(E+(t-1074))) ?_ (avX _);refine av1 (av8 ?_) (av1 hk (av8 ?_))
     . rw[av4,<-avZ];exact nD _ (by omega)
     . rw[av4,<-avZ]
 . refine awL (av2 hlog2 (avX A)) ?_
   rw[<-avZ,<-avZ,<-avZ];exact av0 (by omega) (by omega)
 . intro hpos
   refine av1 ?_ (Nat.mul_le_mul_right _ hlog1);rw[<-avZ,<-avZ,<-avZ];exact av0 (by omega) (by omega)
theorem jZ(r:Nat)(h:r<2^53):mg r=r:=by
 unfold mg
 split
 . rfl
 . have:r/2^52=1:=by omega
   rw[this];simp;omega
theorem iT(r:Nat)(h:2^52<=r):mg r=(2^52+r%2^52)*2^(r/2^52-1):=by
 unfold mg;rw[if_neg (by omega)]
theorem anU(mag:Nat)(place:Int)(t:Nat)(ht:0<=place+t)(ht2:1074<=t)(c:Nat)(hc:c<=2047*2^52)(h:mg c*2^(t-1074)<=mag*2^(place+t).toNat):c<=rg mag place:=by
 by_cases h0:mag=0
 . have:mg c=0:=by
    subst h0;rcases av6 (mg c)with h1|h1
    . exact h1
    . have:=aw1 h1 (avX (t-1074));omega
   have hc0:c=0:=by
    rcases av3 c (2^53)with h1|h1
    . rwa[jZ c h1]at this
    . rw[iT c (by omega)]at this
      have h9:0<2^52+c%2^52:=by omega
      have:=aw1 h9 (avX (c/2^52-1));omega
   omega
 obtain⟨E,K,e,h1,h2,h3,h4⟩:=aeO mag place h0 t ht ht2;rw[e];refine Nat.le_min.2 ⟨?_,hc⟩;rcases av3 c (E*2^52)with hlt|hge
 . omega
 have hT:=avX (t-1074);have hmg:mg c<2^53*2^E:=Nat.lt_of_mul_lt_mul_right (Nat.lt_of_le_of_lt h h3);rcases av3 c (2^52)with hs|hs
 . -- subnormal
   have hE:E=0:=by omega
   subst hE;have hck:=h1 c (by rw[jZ c (by omega)]at h;simpa using h);exact av1 hck (Nat.le_add_left _ _)
 . rw[iT c hs]at hmg h
   obtain⟨q,hq⟩:∃q,c/2^52=q+1:=⟨c/2^52-1,by omega⟩;rw[hq,av7]at hmg h;have hqE:q<=E:=by
    rcases av3 E q with hlt|hge
    . exfalso
      have:2^(E+1)<=2^q:=av0 (by omega) hlt;rw[awG]at this;have h5:(2^52)*(2^E*2)<=(2^52+c%2^52)*2^q:=awU (by omega) this;omega
    . exact hge
   rcases av3 q E with hlt|hge'
   . have:=h1 (2^52) (h4 (by omega))
     omega
   . have hqe:q=E:=by omega
     subst hqe;have:=h1 _ h;omega
theorem aiU(mag:Nat)(place:Int)(t:Nat)(ht:0<=place+t)(ht2:1074<=t)(c:Nat)(h:mag*2^(place+t).toNat<=mg c*2^(t-1074)):rg mag place<=c:=by
 by_cases h0:mag=0
 . subst h0;unfold rg;simp
 obtain⟨E,K,e,h1,h2,h3,h4⟩:=aeO mag place h0 t ht ht2;rw[e];refine av1 (Nat.min_le_left _ _) ?_;have hT:=avX (t-1074);have hK:=h2 (2^53) (awZ h3);rcases av3 c (2^52)with hs|hs
 . rcases av6 E with rfl|hE
   . have:=h2 c (by rw[jZ c (by omega)]at h;simpa using h)
     omega
   . exfalso
     have h5:=avY (av1 (h4 hE) h) hT;rw[jZ c (by omega)]at h5;have:1<=2^E:=avX E;have:=awC (2^52) this;omega
 . rw[iT c hs]at h
   obtain⟨q,hq⟩:∃q,c/2^52=q+1:=⟨c/2^52-1,by omega⟩;rw[hq,av7]at h;rcases Nat.lt_trichotomy q E with hlt|heq|hgt
   . exfalso
     have h5:=avY (av1 (h4 (by omega)) h) hT;have:2^(q+1)<=2^E:=av0 (by omega) hlt;rw[awG]at this;have h6:(2^52+c%2^52)*2^q<(2^52*2)*2^q:=av2 (by omega) (avX q);have h7:2^52*(2^q*2)<=2^52*2^E:=awC _ this;omega
   . subst heq
     have:=h2 _ h;omega
   . have:(E+2)*2^52<=c:=by omega
     omega
def infR:Nat:=2047*2^52
def fneg(b:Nat):Bool:=b/2^63%2==1
def rung(b:Nat):Nat:=b%2^63
def sr(b:Nat):Int:=if fneg b then-(rung b:Int)else(rung b:Int)
def fvr(s:Int):Int:=if s<0 then-(mg s.natAbs:Int)else(mg s.natAbs:Int)
def fv(b:Nat):Int:=fvr (sr b)
def fin(b:Nat):Prop:=rung b<infR
def num(b:Nat):Prop:=rung b<=infR
theorem fin.num (h:fin b):num b:=awZ h
instance(b:Nat):Decidable (fin b):=inferInstanceAs (Decidable (_<_))
instance(b:Nat):Decidable (num b):=inferInstanceAs (Decidable (_<=_))
theorem aiV{a:Nat}(h:a<b):mg a<mg b:=by
 rcases av3 b (2^53)with hb|hb
 . rw[jZ a (by omega),jZ b hb];exact h
 . rw[iT b (by omega)]
   obtain⟨q,hq⟩:∃q,b/2^52=q+1:=⟨b/2^52-1,by omega⟩;rw[hq,av7];have hp:=avX q;rcases av3 a (2^52)with ha|ha
   . rw[jZ a (by omega)]
     have:(2^52+b%2^52)*1<=(2^52+b%2^52)*2^q:=awC _ hp;omega
   . rw[iT a ha]
     obtain⟨r,hr⟩:∃r,a/2^52=r+1:=⟨a/2^52-1,by omega⟩;rw[hr,av7];rcases av3 r q with hrq|hrq
     . have h1:2^(r+1)<=2^q:=av0 (by omega) hrq
       rw[awG]at h1;have h2:(2^52+a%2^52)*2^r<(2^52*2)*2^r:=av2 (by omega) (avX r);have h3:2^52*(2^r*2)<=(2^52+b%2^52)*2^q:=awU (by omega) h1;omega
     . have:r=q:=by omega
       subst this;exact av2 (by omega) hp
theorem o8:mg 0=0:=by decide
theorem aoA{a:Nat}(h:0<a):0<mg a:=by have:=aiV h;rwa[o8]at this
theorem kC{b:Int}(h:a<b):fvr a<fvr b:=by
 unfold fvr
 split<;>split
 . have:=aiV (a:=b.natAbs) (b:=a.natAbs) (by omega);omega
 . have:=aoA (a:=a.natAbs) (by omega);omega
 . omega
 . have:=aiV (a:=a.natAbs) (b:=b.natAbs) (by omega);omega
theorem lN{b:Int}(h:a<=b):fvr a<=fvr b:=by
 rcases awM h with h|rfl
 . exact Int.le_of_lt (kC h)
 . exact Int.le_refl _
theorem dL:fvr 0=0:=by decide
theorem uR{b:Int}:fvr a<fvr b↔a<b:=⟨fun h=>by
 rcases av9 a b with h1|h1
 . exact h1
 . have:=lN h1;omega,kC⟩
theorem adI{b:Int}:fvr a<=fvr b↔a<=b:=⟨fun h=>by
 rcases av9 b a with h1|h1
 . have:=kC h1;omega
 . exact h1,lN⟩
theorem yZ(a:Int):fvr (-a)=-fvr a:=by
 unfold fvr;rw[awV];rcases Int.lt_trichotomy a 0 with h|h|h
 . rw[if_neg (by omega),if_pos h];omega
 . subst h;simp[o8]
 . rw[if_pos (by omega),if_neg (by omega)]
theorem cmp_eq{b c d:Int}(h1:a<b↔c<d)(h2:b<a↔d<c):compare a b=compare c d:=by
 simp only[compare,compareOfLessAndEq];by_cases h:a<b
 . rw[if_pos h,if_pos (h1.1 h)]
 . rw[if_neg h,if_neg (fun h'=>h (h1.2 h'))]
   by_cases e:a=b
   . have:c=d:=by
      have a1:¬c<d:=fun h'=>by have:=h1.2 h';omega
      have a2:¬d<c:=fun h'=>by have:=h2.2 h';omega
      omega
     rw[if_pos e,if_pos this]
   . have:¬c=d:=by
      have:b<a:=by omega
      have:=h2.1 this;omega
     rw[if_neg e,if_neg this]
theorem fO(h:fin b):∃m p,double.read b=.number (fneg b) m p/\-1074<=p/\m*2^(p+1074).toNat=mg (rung b):=by
 have h':b%2^63<2047*2^52:=h;unfold Format.read;simp only[qP,jY,oD,kS]
 split
 . rename_i hs
   refine⟨_,_,rfl,by omega,?_⟩;have:rung b=b%2^63:=rfl;rw[this,jZ _ (by omega)];simp
 . rename_i hs
   refine⟨_,_,rfl,by omega,?_⟩;have:rung b=b%2^63:=rfl;rw[this,iT _ (by omega)]
   congr 2;omega
theorem uS(h:rung b=infR):double.read b=.infinity (fneg b):=by
 have h':b%2^63=2047*2^52:=h;unfold Format.read;simp only[qP,jY,oD,kS];rw[if_neg (by omega),if_neg (by omega),if_pos h'];rfl
theorem jA(s:Bool)(m k:Nat):signed s m k=(if s then-((m*2^k:Nat):Int)else((m*2^k:Nat):Int)):=by
 unfold signed;rw[awF]
theorem iU{m:Nat}{p:Int}(h:m*2^(p+1074).toNat=mg (rung b)):fv b=(if fneg b then-((m*2^(p+1074).toNat:Nat):Int)else((m*2^(p+1074).toNat:Nat):Int)):=by
 rw[h];unfold fv sr fvr
 cases fneg b
 . simp only[av5,if_false]
   rw[if_neg (by omega),awN]
 . simp only[if_true]
   rw[awV,awN];rcases av6 (rung b)with h0|h0
   . rw[h0,o8];simp
   . rw[if_pos (by omega)]
theorem iV(s:Bool)(m k j:Nat):signed s m k*(2^j:Nat)=signed s m (k+j):=by
 rw[jA,jA,avZ]
 cases s<;>simp[Int.mul_assoc,awD]
theorem af5(hx:num x)(hy:num y):double.order x y=some (compare (sr x) (sr y)):=by
 have srx:-(infR:Int)<=sr x/\sr x<=infR:=by unfold num at hx;unfold sr;split<;>omega
 have sry:-(infR:Int)<=sr y/\sr y<=infR:=by unfold num at hy;unfold sr;split<;>omega
 unfold Format.order;by_cases fx:fin x
 . obtain⟨m,p,e1,p1,v1⟩:=fO fx
   have x1:-(infR:Int)<sr x/\sr x<infR:=by unfold fin at fx;unfold sr;split<;>omega
   by_cases fy:fin y
   . obtain⟨n,q,e2,q1,v2⟩:=fO fy
     rw[e1,e2];simp only[Datum.order,Option.some.injEq];have hp:=iU v1;have hq:=iU v2;have s1:signed (fneg x) m (p-min p q).toNat*(2^(min p q+1074).toNat:Nat)=fv x:=by
      rw[iV,jA,hp];have:(p-min p q).toNat+(min p q+1074).toNat=(p+1074).toNat:=by omega
      rw[this]
     have s2:signed (fneg y) n (q-min p q).toNat*(2^(min p q+1074).toNat:Nat)=fv y:=by
      rw[iV,jA,hq];have:(q-min p q).toNat+(min p q+1074).toNat=(q+1074).toNat:=by omega
      rw[this]
     have hpos:(0:Int)<(2^(min p q+1074).toNat:Nat):=awT.2 (avX _);refine cmp_eq ?_ ?_
     . exact((awJ hpos).symm).trans (by rw[s1,s2];exact uR)
     . exact((awJ hpos).symm).trans (by rw[s1,s2];exact uR)
   . have ry:rung y=infR:=by unfold num fin at*;omega
     rw[e1,uS ry];simp only[Datum.order];unfold sr at*;rw[ry]at*
     cases fneg y
     . simp only[av5,if_false]at*
       rw[show compare (if fneg x=true then-(rung x:Int)else(rung x:Int)) (infR:Int)=.lt from by rw[awQ];exact x1.2]
     . simp only[if_true]at*
       rw[show compare (if fneg x=true then-(rung x:Int)else(rung x:Int)) (-(infR:Int))=.gt from by rw[awR];exact x1.1]
 . have rx:rung x=infR:=by unfold num fin at*;omega
   rw[uS rx];by_cases fy:fin y
   . obtain⟨n,q,e2,q1,v2⟩:=fO fy
     have y1:-(infR:Int)<sr y/\sr y<infR:=by unfold fin at fy;unfold sr;split<;>omega
     rw[e2];simp only[Datum.order];unfold sr at*;rw[rx]at*
     cases fneg x
     . simp only[av5,if_false]at*
       rw[show compare (infR:Int) (if fneg y=true then-(rung y:Int)else(rung y:Int))=.gt from by rw[awR];exact y1.2]
     . simp only[if_true]at*
       rw[show compare (-(infR:Int)) (if fneg y=true then-(rung y:Int)else(rung y:Int))=.lt from by rw[awQ];exact y1.1]
   . have ry:rung y=infR:=by unfold num fin at*;omega
     rw[uS ry];simp only[Datum.order];unfold sr;rw[rx,ry]
     cases fneg x<;>cases fneg y<;>decide
def Near(r:Nat)(N:Int)(t:Nat):Prop:=num r/\
 (∀c:Int,-(infR:Int)<=c->c<=infR->fvr c*(2^(t-1074):Nat)<=N->c<=sr r)/\
 (∀c:Int,-(infR:Int)<=c->c<=infR->N<=fvr c*(2^(t-1074):Nat)->sr r<=c)
theorem tC{neg:Bool}{r:Nat}(h:r<=infR):sr (double.word neg r)=(if neg then-(r:Int)else(r:Int))/\rung (double.word neg r)=r:=by
 have h':r<=2047*2^52:=h;unfold sr fneg rung Format.word;simp only[qP]
 cases neg
 . simp only[av5,if_false]
   have e1:r/2^63%2=0:=by omega
   have e2:r%2^63=r:=by omega
   rw[e1,e2];simp
 . simp only[if_true]
   have e1:(2^63+r)/2^63%2=1:=by omega
   have e2:(2^63+r)%2^63=r:=by omega
   rw[e1,e2];simp
theorem qQ(mag:Nat)(place:Int):rg mag place<=infR:=by
 unfold rg;split
 . unfold infR;omega
 . exact Nat.min_le_right _ _
theorem gG(neg:Bool)(mag:Nat)(place:Int)(t:Nat)(ht:0<=place+t)(ht2:1074<=t)(N:Int)(hN:N=(if neg then-((mag*2^(place+t).toNat:Nat):Int)else((mag*2^(place+t).toNat:Nat):Int))):
 Near (double.nearest neg mag place) N t:=by
 rw[kT];obtain⟨e1,e2⟩:=tC (neg:=neg) (qQ mag place);have hpos:(0:Int)<(2^(t-1074):Nat):=awT.2 (avX _);refine⟨by unfold num;rw[e2];exact qQ _ _,fun c c1 c2 h=> ?_,fun c c1 c2 h=> ?_⟩
 . rw[e1]
   cases neg
   . simp only[av5,if_false]at hN|-
     rcases av9 c 0 with hc|hc
     . omega
     . have:c.toNat<=rg mag place:=by
        refine anU mag place t ht ht2 _ (by unfold infR at c2;omega) ?_;unfold fvr at h;rw[if_neg (by omega),hN]at h;have:c.natAbs=c.toNat:=by omega
        rw[this]at h
        exact_mod_cast h
       omega
   . simp only[if_true]at hN|-
     rcases av9 c 0 with hc|hc
     . have:rg mag place<=c.natAbs:=by
        refine aiU mag place t ht ht2 _ ?_;unfold fvr at h;rw[if_pos hc,hN,awD]at h;have h2:=awO.1 h
        exact_mod_cast h2
       omega
     . have h1:0<=fvr c:=by have:=lN hc;rwa[dL]at this
       have h2:0<=fvr c*(2^(t-1074):Nat):=Int.mul_nonneg h1 (by omega);have h3:mag*2^(place+t).toNat=0:=by omega
       have h5:rg mag place=0:=by
        have:=aiU mag place t ht ht2 0 (by rw[h3];exact aw0 _);omega
       have h6:fvr c=0:=by
        rcases awM h1 with h7|h7
        . have:=Int.mul_pos h7 hpos;omega
        . exact h7.symm
       have h8:c<=0:=by rw[<-adI,h6,dL];omega
       omega
 . rw[e1]
   cases neg
   . simp only[av5,if_false]at hN|-
     rcases av9 c 0 with hc|hc
     . have h1:fvr c<0:=by have:=kC hc;rwa[dL]at this
       have h2:fvr c*(2^(t-1074):Nat)<0:=Int.mul_neg_of_neg_of_pos h1 hpos;omega
     . have:rg mag place<=c.natAbs:=by
        refine aiU mag place t ht ht2 _ ?_;unfold fvr at h;rw[if_neg (by omega),hN]at h
        exact_mod_cast h
       omega
   . simp only[if_true]at hN|-
     rcases av9 c 0 with hc|hc
     . have:c.natAbs<=rg mag place:=by
        refine anU mag place t ht ht2 _ (by unfold infR at c1;omega) ?_;unfold fvr at h;rw[if_pos hc,hN,awD]at h;have h2:=awO.1 h
        exact_mod_cast h2
       omega
     . omega
theorem aaZ(hx:fin x)(hy:fin y):∃r,double.add x y=some r/\r<2^64/\Near r (fv x+fv y) 1074:=by
 obtain⟨m,p,e1,p1,v1⟩:=fO hx;obtain⟨n,q,e2,q1,v2⟩:=fO hy;have hp:=iU v1;have hq:=iU v2;have h:double.add x y=some (double.nearest (if signed (fneg x) m (p-min p q).toNat+signed (fneg y) n (q-min p q).toNat=0 then fneg x&&fneg y else signed (fneg x) m (p-min p q).toNat+signed (fneg y) n (q-min p q).toNat<0) (signed (fneg x) m (p-min p q).toNat+signed (fneg y) n (q-min p q).toNat).natAbs (min p q)):=by
  unfold Format.add;rw[e1,e2];rfl
 refine⟨_,h,double.add_lt h,?_⟩;refine gG _ _ _ 1074 (by omega) (by omega) _ ?_;have s1:signed (fneg x) m (p-min p q).toNat*(2^(min p q+1074).toNat:Nat)=fv x:=by
  rw[iV,jA,hp];have:(p-min p q).toNat+(min p q+1074).toNat=(p+1074).toNat:=by omega
  rw[this]
 have s2:signed (fneg y) n (q-min p q).toNat*(2^(min p q+1074).toNat:Nat)=fv y:=by
  rw[iV,jA,hq];have:(q-min p q).toNat+(min p q+1074).toNat=(q+1074).toNat:=by omega
  rw[this]
 rw[<-s1,<-s2,<-Int.add_mul];generalize signed (fneg x) m (p-min p q).toNat+signed (fneg y) n (q-min p q).toNat=T;have e:(min p q+(1074:Nat):Int).toNat=(min p q+1074).toNat:=rfl;rw[e];generalize (2^(min p q+1074).toNat:Nat)=M;by_cases h0:T=0
 . subst h0;simp
 . rw[if_neg h0]
   by_cases h1:T<0
   . rw[if_pos (by simpa using h1)]
     rw[awI,<-awD];congr 1;omega
   . rw[if_neg (by simpa using h1)]
     rw[awI];congr 1;omega
theorem o9(hx:fin x)(hy:fin y):∃r,double.mul x y=some r/\r<2^64/\Near r (fv x*fv y) 2148:=by
 obtain⟨m,p,e1,p1,v1⟩:=fO hx;obtain⟨n,q,e2,q1,v2⟩:=fO hy;have hp:=iU v1;have hq:=iU v2;have h:double.mul x y=some (double.nearest (fneg x^^fneg y) (m*n) (p+q)):=by
  unfold Format.mul;rw[e1,e2];rfl
 refine⟨_,h,double.mul_lt h,?_⟩;refine gG _ _ _ 2148 (by omega) (by omega) _ ?_;rw[hp,hq];have e:m*n*2^(p+q+(2148:Nat):Int).toNat=(m*2^(p+1074).toNat)*(n*2^(q+1074).toNat):=by
  have:(p+q+(2148:Nat):Int).toNat=(p+1074).toNat+(q+1074).toNat:=by omega
  rw[this,avZ];simp only[av4,Nat.mul_left_comm]
 rw[e]
 cases fneg x<;>cases fneg y<;>simp[awI,awD,Int.mul_neg]
end
end Go.Proofs.YtigoiiekebccnaaGreatDoor
