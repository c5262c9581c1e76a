/- A part of the proof: contracts of functions and plain laws (CnJ, CnK, CnL, CnM, CnN, CnO, CnP). -/
import Derived.Test.YtebocijmegkfgaaGreatDoorK41
import Derived.Test.YtebocijmegkfgaaGreatDoorK45
import Derived.Test.YtebocijmegkfgaaGreatDoorK07
import Derived.IntWalk
import Derived.Test.YtebocijmegkfgaaGreatDoorK08
import Derived.Test.YtebocijmegkfgaaGreatDoorK13
set_option linter.unusedVariables false
set_option linter.unusedSimpArgs false
set_option linter.unnecessarySimpa false
set_option maxHeartbeats 25600000
set_option maxRecDepth 100000
namespace Go.Proofs.YtebocijmegkfgaaGreatDoor
open Go.RowKit
open Go.Act renaming put->asQ
open Go.RowKit.Below renaming heap_setCell->asN,refl->asT
open Go.World renaming setCell->asR
open List renaming setIfInBounds_toArray->asM,set_cons_zero->asO,set_cons_succ->asP,length_pos_iff->asS
variable{b:Bool}{d:Dy}{e:Int}{xs:List Nat}{p:Nat->Prop}{v va:Value}{w:World}
theorem anO{ys:List Nat}{m x:Nat}(hl:ys.length=2*m)(hm:m<xs.length)(hx:xs[m]=x)(h:val2 ys=val (xs.take m)):val2 (ys++[x%4294967296,x/4294967296])=val (xs.take (m+1)):=by
 rw[bO xs m hm,hx,akP,h,hl];simp only[val2,B32];have e:B64^m=4294967296^(2*m):=by rw[Nat.pow_mul];rfl
 rw[e];have e2:=Nat.div_add_mod x 4294967296;generalize 4294967296^(2*m)=P;have e3:x*P=P*(x%4294967296+4294967296*(x/4294967296)):=by rw[Nat.mul_comm];congr 1;omega
 rw[e3,Nat.mul_zero,Nat.add_zero]
theorem anP(hx:NatP p w va xs)(lx:xs.length<=549755813888):
 Calls Tryz.prog 125 #[va] w (RetC w.heap.size w (val xs)):=by
 have HO:=hdd hx.ok;obtain⟨A,c,rfl,l1,⟨l2,l3⟩,-,hc⟩:=hx;have HC:=hdd hc;clear hc;go_enter Tryz.func125,Tryz.ntmps125
 go_wp2
 go_loopw [3,4] (fun out i wr=>∃(m:Nat) (ys:List Nat),i=.int .i64 (m:Int)/\m<=xs.length/\Hid (ys.length=2*m/\val2 ys=val (xs.take m))/\Hid (RowC w.heap.size wr out ys)/\Hid (Below w.heap.size w wr)) (fun _ i _=>((xs.length:Int)-(intOf i)).toNat)
 case atStart=>exact⟨0,[],rfl,by omega,hdd ⟨rfl,by simp[val2,val]⟩,hdd RowC.nil,hdd (asT _ _)⟩
 case round=>
  obtain⟨m,ys,rfl,hm,hy,hR,hB⟩:=hrel;have hs:=hR.out.slice;obtain⟨p0,c0,rfl⟩:=hs;obtain⟨N,hN⟩:∃N,ys.length=N:=⟨_,rfl⟩;have HNl:Hid (ys.length=N/\N<=1099511627776):=hdd ⟨hN,by have:=hy.out.1;omega⟩;rw[hN]at hR;rw[hN];clear hN;rcases Nat.lt_or_ge m xs.length with h|h
  . obtain⟨b,off,rfl,-,-,q1⟩:=HC.out (by omega)
    have g1:=cbl (q1 m h) hB.out;rw[bZ h]at g1;have g0:=q1 m h;rw[bZ h]at g0;obtain⟨x,HX,hcw,g1,x0⟩:∃x:Nat,Hid (xs[m]=x)/\w.cell? ⟨b,off+m,none⟩=some (.int .u64 (x:Int))/\wr.cell? ⟨b,off+m,none⟩=some (.int .u64 (x:Int))/\x<18446744073709551616:=⟨_,hdd rfl,g0,g1,HO.out _ (List.getElem_mem h)⟩;clear g0;have HE:=hdd (anO hy.out.1 h HX.out hy.out.2);clear q1 HX;obtain⟨w2,hw2,hb2,hs2,b2⟩:=pro1 wr.drew (.cells #[.int .u64 ((x:Int)%4294967296),.int .u64 ((x:Int)/4294967296)] 134);have HR2:=hdd (RowC.keep (w:=wr.drew) (hR.out.keep (asT _ _).drew) hb2);have HB2:=hdd (aA (b:=wr.drew) hB.out.drew hb2);have HX2:Hid (∀k (h:k<[x%4294967296,x/4294967296].length),w2.cell? ((⟨wr.drew.heap.size,0,none⟩:Addr).add k)=some (u64V [x%4294967296,x/4294967296][k])):=hdd fun k h=>by
     rw[Addr.add_lit,Nat.zero_add]
     match k,h with
     |0,_=>exact alQ (k:=0) (cs:=[.int .u64 ((x:Int)%4294967296),.int .u64 ((x:Int)/4294967296)]) b2 (by simp[u64V])
     |1,_=>exact alQ (k:=1) (cs:=[.int .u64 ((x:Int)%4294967296),.int .u64 ((x:Int)/4294967296)]) b2 (by simp[u64V])
    have HB3:=hdd hb2;have hcl:w.cell? ⟨b,off+m,none⟩=some (.int .u64 (x:Int)):=hcw;clear hR hB hb2 hs2 b2
    go_upto_region 5 with fail
    refine wp_region_noPanic ?_;refine mO (fun w':World=>w'.cell? ⟨b,off+m,none⟩=some (.int .u64 (x:Int))) 13 (by kernel_rfl) ?_;have hwq:IntKind.u64.wrap ((x:Int)/4294967296)=(x:Int)/4294967296:=by rw[IntWalk.u64_in _ (by omega)]
    have hSd:(fun w':World=>w'.cell? ⟨b,off+m,none⟩=some (.int .u64 (x:Int))) wr.drew:=g1;refine aY 0 (.slice p0 N c0) rfl (by kernel_rfl) (by kernel_rfl) (by kernel_rfl) (by kernel_rfl) (fun _ _ _ h=>h) (by rfl) ?_ (by assumption) ?_
    . intro w' hSw;(try dsimp only at hSw);go_split_ands;go_simp;all_goals rfl
    simp only[asQ,asM,asO,asP];refine aY 1 (.slice (some ⟨b,off,none⟩) xs.length c) rfl (by kernel_rfl) (by kernel_rfl) (by kernel_rfl) (by kernel_rfl) (fun _ _ _ h=>h) (by rfl) ?_ (by assumption) ?_
    . intro w' hSw;(try dsimp only at hSw);go_split_ands;go_simp;all_goals rfl
    simp only[asQ,asM,asO,asP];refine aY 2 (.int .i64 (m:Int)) rfl (by kernel_rfl) (by kernel_rfl) (by kernel_rfl) (by kernel_rfl) (fun _ _ _ h=>h) (by rfl) ?_ (by assumption) ?_
    . intro w' hSw;(try dsimp only at hSw);go_split_ands;go_simp;all_goals rfl
    simp only[asQ,asM,asO,asP];refine aY 3 (.pointer (some ⟨b,off+m,none⟩)) rfl (by kernel_rfl) (by kernel_rfl) (by kernel_rfl) (by kernel_rfl) (fun _ _ _ h=>h) (by rfl) ?_ (by assumption) ?_
    . intro w' hSw;(try dsimp only at hSw);go_split_ands;go_simp;all_goals rfl
    simp only[asQ,asM,asO,asP];refine aY 4 (.int .u64 (x:Int)) rfl (by kernel_rfl) (by kernel_rfl) (by kernel_rfl) (by kernel_rfl) (fun _ _ _ h=>h) (by rfl) ?_ (by assumption) ?_
    . intro w' hSw;(try dsimp only at hSw);go_split_ands;go_simp;all_goals rfl
    simp only[asQ,asM,asO,asP];refine aY 5 (.int .u64 ((x:Int)%4294967296)) rfl (by kernel_rfl) (by kernel_rfl) (by kernel_rfl) (by kernel_rfl) (fun _ _ _ h=>h) (by rfl) ?_ (by assumption) ?_
    . intro w' hSw;(try dsimp only at hSw);go_split_ands;go_simp;all_goals rfl
    simp only[asQ,asM,asO,asP];refine aY 6 (.slice (some ⟨b,off,none⟩) xs.length c) rfl (by kernel_rfl) (by kernel_rfl) (by kernel_rfl) (by kernel_rfl) (fun _ _ _ h=>h) (by rfl) ?_ (by assumption) ?_
    . intro w' hSw;(try dsimp only at hSw);go_split_ands;go_simp;all_goals rfl
    simp only[asQ,asM,asO,asP];refine aY 7 (.int .i64 (m:Int)) rfl (by kernel_rfl) (by kernel_rfl) (by kernel_rfl) (by kernel_rfl) (fun _ _ _ h=>h) (by rfl) ?_ (by assumption) ?_
    . intro w' hSw;(try dsimp only at hSw);go_split_ands;go_simp;all_goals rfl
    simp only[asQ,asM,asO,asP];refine aY 8 (.pointer (some ⟨b,off+m,none⟩)) rfl (by kernel_rfl) (by kernel_rfl) (by kernel_rfl) (by kernel_rfl) (fun _ _ _ h=>h) (by rfl) ?_ (by assumption) ?_
    . intro w' hSw;(try dsimp only at hSw);go_split_ands;go_simp;all_goals rfl
    simp only[asQ,asM,asO,asP];refine aY 9 (.int .u64 (x:Int)) rfl (by kernel_rfl) (by kernel_rfl) (by kernel_rfl) (by kernel_rfl) (fun _ _ _ h=>h) (by rfl) ?_ (by assumption) ?_
    . intro w' hSw;(try dsimp only at hSw);go_split_ands;go_simp;all_goals rfl
    simp only[asQ,asM,asO,asP];refine aY 10 (.int .u64 ((x:Int)/4294967296)) rfl (by kernel_rfl) (by kernel_rfl) (by kernel_rfl) (by kernel_rfl) (fun _ _ _ h=>h) (by rfl) ?_ (by assumption) ?_
    . intro w' hSw;(try dsimp only at hSw);go_split_ands;go_simp;all_goals rfl
    simp only[asQ,asM,asO,asP];have HG2:=hdd (cell_below (w:=wr.drew) (w':=w2) (B:=wr.drew.heap.size) g1 HB3.out nlr);refine fH 11 (by kernel_rfl) rfl fun K' hK=> ?_;go_simp;refine hK.out _ _ (fun _=>HG2.out) ?_;clear hK hSd
    try simp only[asQ,asM,asO,asP]
    refine fH 12 (by kernel_rfl) rfl fun K' hK=> ?_;refine apN (m:=2) (us:=[x%4294967296,x/4294967296]) HR2.out HNl.out.1 rfl HX2.out (by decide) (fun z hz=>by
     unfold B32;rcases List.mem_cons.1 hz with rfl|hz
     . omega
     . rw[List.mem_singleton.1 hz];omega) (by have:=HNl.out.2;omega) HB2.out HB2.out.size rfl _ _ rfl rfl rfl ?_
    intro p2 c2 w3 hr3 hb3 hs3;refine hK.out _ _ (fun _=>cbl hcl hb3.out) ?_;clear hK
    try simp only[asQ,asM,asO,asP]
    refine fH 13 (by kernel_rfl) rfl fun K' hK=> ?_;go_simp;refine hK.out _ _ (fun h=>absurd rfl h) ?_;clear hK;refine oO (by kernel_rfl) ?_;refine NoPanic.normal ?_
    try simp only[asQ,asM,asO,asP]
    go_wp2
    go_roundw
    case rel=>exact⟨m+1,ys++[x%4294967296,x/4294967296],by go_num,by omega,hdd ⟨by rw[List.length_append,hy.out.1];show 2*m+2=_;omega,HE.out⟩,hr3,hb3⟩
    case measure=>simp[intOf];omega
  . have HV:Hid (val2 ys=val xs):=hdd (by rw[hy.out.2,List.take_of_length_le h])
    have hl3:ys.length=N:=HNl.out.1;have hle3:=HNl.out.2;clear HNl;subst hl3;have hP:=hR.out.natP hle3;go_wp2_with fail
    refine(akV hP).mono ?_;rintro e w4⟨rfl,v,us,rfl,hv,ht,he,-,hs⟩;have HF:=hdd (show RetC w.heap.size w (val xs) (.returned v) _ from⟨v,us,rfl,hv,hs hR.out.2,ht,he.trans HV.out,hB.out⟩);clear hv ht he hs hR hB HV hP;go_wp2;go_ret;exact HF.out
def DyC(p:Nat->Prop)(w:World)(v:Value)(d:Dy):Prop:=
 ∃b A n c ys,v=.agg #[.bool b,.slice A n c,.int .i64 d.exp]/\NatP p w (.slice A n c) ys/\OkS ys/\Tr ys/\d.man=sg b (val2 ys)/\(d.man=0->b=false)
def amQ(B:Nat)(w0:World)(d:Dy)(e:Ending)(w':World):Prop:=Below B w0 w'/\∃v,e=.returned v/\DyC (fun b=>B<=b) w' v d
theorem DyC.below {w':World}(h:DyC p w v d)(hb:Below w.heap.size w w'):DyC p w' v d:=by
 obtain⟨b,A,n,c,ys,e,h1,h2⟩:=h;exact⟨b,A,n,c,ys,e,h1.below hb,h2⟩
theorem apO(b:Bool)(n:Nat)(h:n≠0)(e:Int):mkDy (sg b n) e=⟨sg b (n/2^ctz n),e+ctz n⟩:=by
 unfold mkDy;have h1:sg b n≠0:=by unfold sg;cases b<;>simp<;>omega
 have h2:(sg b n).natAbs=n:=by unfold sg;cases b<;>simp
 have h3:decide (sg b n<0)=b:=by unfold sg;cases b<;>simp<;>omega
 rw[if_neg h1,h2,h3]
theorem amR(n:Nat)(h:n≠0):n/2^ctz n≠0:=by
 obtain⟨k,m,e,hk⟩:=oP n h;rw[hk]
 conv=>lhs;rw[e]
 rw[Nat.mul_div_cancel_left _ (Nat.two_pow_pos k)];omega
theorem akS(hx:NatP p w va xs)(ox:OkS xs)(tx:Tr xs)(he:-1152921504606846976<=e/\e<=1152921504606846976):
 Calls Tryz.prog 83 #[.bool b,va,.int .i64 e] w (amQ w.heap.size w (mkDy (sg b (val2 xs)) e)):=by
 obtain⟨w1,hw1,hb1,hs1,b1⟩:=pro1 w (.cells #[.bool false,.slice none 0 0,.int .i64 0] 90);obtain⟨c0,c1,c2,f0,f1,f2⟩:=cells3 b1;have HB1:=hdd hb1;obtain⟨he1,he2⟩:=he;have hx1:=hx.below hb1;rcases Decidable.em (xs=[])with rfl|hn
 . obtain⟨A,c,rfl,-,-,-,-⟩:=hx
   have HG:=hdd (set3 b1 (.bool false) (.slice none 0 0) (.int .i64 0));have HF:Hid (∀u v y,Below w.heap.size w (((w1.setCell ⟨w.heap.size,0,none⟩ u).setCell ⟨w.heap.size,1,none⟩ v).setCell ⟨w.heap.size,2,none⟩ y)):=hdd fun u v y=>((HB1.out.setCell nlr u).setCell nlr v).setCell nlr y;clear hb1 hs1 b1 hx1;go_enter Tryz.func83,Tryz.ntmps83
   go_wp2;obtain⟨x0,x1,x2,-⟩:=cells3 HG.out;refine bodyPost_ret (v:=.agg #[_,_,_]) (by simp[results,Tryz.results83,go_sem,x0,x1,x2];first|exact⟨rfl,rfl,rfl⟩|rfl) rfl ?_;exact⟨HF.out _ _ _,_,rfl,false,none,0,0,[],by simp[mkDy,sg,val2],NatP.nil _,(fun x h=>by cases h),Tr.nil,by simp[mkDy,sg,val2],fun _=>rfl⟩
 . have hv0:val2 xs≠0:=fun h=>hn ((akT xs tx).1 h)
   have hl0:0<xs.length:=asS.2 hn;have hlen:=hx.len;have hne:((xs.length:Int)==0)=false:=by rw[beq_eq_false_iff_ne];omega
   have hL:ctz (val2 xs)<=35184372088832:=by
    have h1:=pR _ hv0;have h2:bits (val2 xs)<=32*xs.length:=(aD _ _).2 (by have:=ak3 xs ox;rwa[ak9,<-Nat.pow_mul]at this);omega
   have HLow:=hdd (an5 hx1 ox);have HShr:=hdd (fun w' (hb:Below w1.heap.size w1 w')=>an8 (n:=ctz (val2 xs)) (hx1.below hb) ox (by omega));have HMk:=hdd (apO b (val2 xs) hv0 e);have HPos:=hdd (amR (val2 xs) hv0);obtain⟨A,c,rfl,-,-,-,-⟩:=hx;have HB:=hdd b1;generalize hLL:ctz (val2 xs)=L at*;clear hb1 hs1 b1 hx1 hn hv0 ox tx hLL;go_enter Tryz.func83,Tryz.ntmps83
   go_wp2_with fail
   refine HLow.out.mono ?_;rintro e2 w2⟨rfl,k,rfl⟩;have HS:=hdd (HShr.out _ (below_drewN w1 k));have hbk:=below_drewN w1 k;go_wp2_with fail
   refine HS.out.mono ?_;rintro e3 w3⟨v,ys,rfl,hv,ho,ht,hval,hb3⟩;obtain⟨A2,n2,rfl,k1,-,-,-⟩:=id hv;have hb13:=hbk.trans (hb3.mono hbk.size);have b3:=hbl HB.out hb13;obtain⟨d0,d1,d2,g0,g1,g2⟩:=cells3 b3;have HG:=hdd (set3 b3 (.bool b) (.slice A2 ys.length n2) (.int .i64 (e+(L:Int))));have HB13:=hdd (aA HB1.out hb13);have HF:Hid (∀u v y,Below w.heap.size w (((w3.setCell ⟨w.heap.size,0,none⟩ u).setCell ⟨w.heap.size,1,none⟩ v).setCell ⟨w.heap.size,2,none⟩ y)):=hdd fun u v y=>((HB13.out.setCell nlr u).setCell nlr v).setCell nlr y;have HV:=hdd (And.intro hv (And.intro ho (And.intro ht hval)));have HW:=hdd (show w.heap.size<w1.heap.size from aF HB.out);clear hv ho ht hval hb3 hb13 b3 hbk;go_wp2;obtain⟨x0,x1,x2,-⟩:=cells3 HG.out;refine bodyPost_ret (v:=.agg #[_,_,_]) (by simp[results,Tryz.results83,go_sem,x0,x1,x2];first|exact⟨rfl,rfl,rfl⟩|rfl) rfl ?_;refine⟨HF.out _ _ _,_,rfl,?_⟩;rw[HMk.out];obtain⟨hv,ho,ht,hval⟩:=HV.out;have hsz:=(below_drewN w1 k).size;have hw:=HW.out;refine⟨b,A2,ys.length,n2,ys,rfl,?_,ho,ht,by rw[hval],fun h=> ?_⟩
   . refine NatP.weak (NatP.keep hv (by simp[asR]) fun c hc hl=> ?_) (fun c hc hl=> ?_)
     . have hne:c≠w.heap.size:=by
        have hc':(w1.drewN k).heap.size<=c:=hc;omega
       exact((asN _ ⟨w.heap.size,2,none⟩ _ c hne).trans (asN _ ⟨w.heap.size,1,none⟩ _ c hne)).trans (asN _ ⟨w.heap.size,0,none⟩ _ c hne)
     . have hc':(w1.drewN k).heap.size<=c:=hc
       show w.heap.size<=c;omega
   . exfalso
     have h1:=HPos.out;have h2:sg b (val2 xs/2^L)=0:=h;generalize val2 xs/2^L=q at h1 h2;unfold sg at h2
     cases b
     . rw[if_neg (by decide)]at h2;omega
     . rw[if_pos rfl]at h2;omega
theorem DyC.weak {q:Nat->Prop}(h:DyC p w v d)(hq:∀b,p b->b<w.heap.size->q b):DyC q w v d:=by
 obtain⟨b,A,n,c,ys,e,h1,h2⟩:=h;exact⟨b,A,n,c,ys,e,h1.weak hq,h2⟩
theorem ao2(b:Bool)(n:Nat):(sg b n).sign=if n=0 then 0 else if b then-1 else 1:=by
 rcases Nat.eq_zero_or_pos n with rfl|h
 . cases b<;>rfl
 . rw[if_neg (show¬n=0 by omega)]
   cases b
   . exact Int.sign_eq_one_of_pos (show(0:Int)<(n:Int) by omega)
   . exact Int.sign_eq_neg_one_of_neg (show-(n:Int)<0 by omega)
theorem akQ(h:DyC p w v d):
 Calls Tryz.prog 150 #[v] w (fun e w'=>e=.returned (.int .i64 d.man.sign)/\Below w.heap.size w w'):=by
 obtain⟨b,A,n,c,ys,rfl,hn,-,ht,hm,-⟩:=h;obtain⟨A',c',e,-,-,-,-⟩:=id hn;simp only[Value.slice.injEq]at e;obtain⟨rfl,hlen,rfl⟩:=e;have HLN:=hdd hlen;clear hlen;obtain⟨w1,hw1,hb1,hs1,b1⟩:=pro1 w (.cells #[.bool b,.slice A n c,.int .i64 d.exp] 90);obtain⟨c0,c1,c2,-⟩:=cells3 b1;have HB:=hdd hb1;have HM:Hid (d.man.sign=if ys=[]then 0 else if b then-1 else 1):=hdd (by
  rw[hm,ao2];have:=akT ys ht;by_cases h0:ys=[]
  . rw[if_pos (this.2 h0),if_pos h0]
  . rw[if_neg (fun h=>h0 (this.1 h)),if_neg h0])
 clear hn ht hm hb1 hs1 b1;by_cases h0:ys=[]
 . have hne:((n:Int)==0)=true:=by rw[HLN.out,h0];rfl
   have HM2:=hdd (HM.out.trans (if_pos h0));clear HM h0 HLN;go_enter Tryz.func150,Tryz.ntmps150
   go_wp2;go_ret;exact⟨by rw[HM2.out];rfl,HB.out⟩
 . have hl0:0<ys.length:=asS.2 h0
   have hne:((n:Int)==0)=false:=by rw[beq_eq_false_iff_ne,HLN.out];omega
   have HM2:=hdd (HM.out.trans (if_neg h0));clear HM h0 HLN hl0
   cases b
   all_goals
    go_enter Tryz.func150,Tryz.ntmps150
    go_wp2;go_ret;exact⟨by rw[HM2.out];rfl,HB.out⟩
theorem aoD(h:DyC p w v d)(he:-1152921504606846976<=d.exp/\d.exp<=1152921504606846976):
 Calls Tryz.prog 101 #[v] w (amQ w.heap.size w (mkDy (-d.man) d.exp)):=by
 obtain⟨b,A,n,c,ys,rfl,hn,ho,ht,hm,-⟩:=h;have hneg:sg (!b) (val2 ys)=-d.man:=by rw[hm];unfold sg;cases b<;>simp
 obtain⟨w2,hw2,hb2,hs2,b1,b2⟩:=pro2 w (.cells #[.bool b,.slice A n c,.int .i64 d.exp] 90) (.cells #[.bool false,.slice none 0 0,.int .i64 0] 90);have HM:=hdd (akS (b:= !b) (e:=d.exp) (hn.below hb2) ho ht he);rw[hneg]at HM;obtain⟨c0,c1,c2,-⟩:=cells3 b1;have HB:=hdd hb2;have HS:=hdd b2;clear hn ho ht hm hneg hb2 b1 b2;go_enter Tryz.func101,Tryz.ntmps101
 go_wp2_with fail
 refine HM.out.mono ?_;rintro e w3⟨hb3,v,rfl,hv⟩;obtain⟨b',A',n',c',ys',rfl,hrest⟩:=id hv;have b3:=hbl HS.out hb3;obtain⟨d0,d1,d2,g0,g1,g2⟩:=cells3 b3;have HG:=hdd (set3 b3 (.bool b') (.slice A' n' c') (.int .i64 (mkDy (-d.man) d.exp).exp));have HB3:=hdd (aA HB.out hb3);have HV:=hdd hrest;have HW:Hid (w.heap.size+1<w2.heap.size):=hdd (aF HS.out);have HF:Hid (∀u v y,Below w.heap.size w (((w3.setCell ⟨w.heap.size+1,0,none⟩ u).setCell ⟨w.heap.size+1,1,none⟩ v).setCell ⟨w.heap.size+1,2,none⟩ y)):=hdd fun u v y=>((HB3.out.setCell (by simp) u).setCell (by simp) v).setCell (by simp) y;clear hv hrest hb3 b3 HM;generalize (mkDy (-d.man) d.exp)=r at*;go_wp2;obtain⟨x0,x1,x2,-⟩:=cells3 HG.out;refine bodyPost_ret (v:=.agg #[_,_,_]) (by simp[results,Tryz.results101,go_sem,x0,x1,x2];first|exact⟨rfl,rfl,rfl⟩|rfl) rfl ?_;obtain⟨hn,ho,ht,hm,h0⟩:=HV.out;have hw:=HW.out;refine⟨HF.out _ _ _,_,rfl,b',A',n',c',ys',rfl,?_,ho,ht,hm,h0⟩;refine NatP.weak (NatP.keep hn (by simp[asR]) fun c hc hl=> ?_) (fun c hc hl=> ?_)
 . have hne:c≠w.heap.size+1:=by
    have hc':w2.heap.size<=c:=hc;omega
   exact((asN _ ⟨w.heap.size+1,2,none⟩ _ c hne).trans (asN _ ⟨w.heap.size+1,1,none⟩ _ c hne)).trans (asN _ ⟨w.heap.size+1,0,none⟩ _ c hne)
 . have hc':w2.heap.size<=c:=hc
   show w.heap.size<=c;omega
theorem amS{z:Int}(h1:-9223372036854775808<=z)(h2:z<=9223372036854775807):
 Calls Tryz.prog 38 #[.int .i64 z] w (amQ w.heap.size w (mkDy z 0)):=by
 obtain⟨w1,hw1,hb1,hs1,b1⟩:=pro1 w (.cells #[.bool false,.slice none 0 0,.int .i64 0] 90);have HB:=hdd hb1;have HS:=hdd b1;clear hb1 hs1 b1;rcases Int.lt_or_le z 0 with hz|hz
 . have e1:IntKind.u64.wrap z=z+18446744073709551616:=by rw[IntKind.wrap_u64];omega
   have e2:IntKind.u64.wrap (-(z+18446744073709551616))=(z.natAbs:Int):=by rw[IntKind.wrap_u64];omega
   go_enter Tryz.func38,Tryz.ntmps38
   go_wp2_with fail
   refine(al1 (x:=z.natAbs) (by omega)).mono ?_;rintro e w2⟨v,ys,rfl,hv,ho,ht,hval,hb2⟩;obtain⟨A',c',rfl,-,-,-,-⟩:=id hv;have HM:=hdd (akS (b:=true) (e:=0) hv ho ht (by omega));rw[hval,show sg true z.natAbs=z by unfold sg;simp;omega]at HM;have HB2:=hdd (aA HB.out hb2);have HS2:=hdd (hbl HS.out hb2);clear hv ho ht hval hb2;go_wp2_with fail
   refine HM.out.mono ?_;rintro e w3⟨hb3,v,rfl,hv⟩;obtain⟨b',A2,n2,c2,ys2,rfl,hrest⟩:=id hv;have b3:=hbl HS2.out hb3;obtain⟨d0,d1,d2,g0,g1,g2⟩:=cells3 b3;have HG:=hdd (set3 b3 (.bool b') (.slice A2 n2 c2) (.int .i64 (mkDy z 0).exp));have HB3:=hdd (aA HB2.out hb3);have HV:=hdd hrest;have HW:Hid (w.heap.size<w2.heap.size):=hdd (aF HS2.out);have HF:Hid (∀u v y,Below w.heap.size w (((w3.setCell ⟨w.heap.size,0,none⟩ u).setCell ⟨w.heap.size,1,none⟩ v).setCell ⟨w.heap.size,2,none⟩ y)):=hdd fun u v y=>((HB3.out.setCell nlr u).setCell nlr v).setCell nlr y;clear hv hrest hb3 b3 HM;generalize (mkDy z 0)=r at*;go_wp2;obtain⟨x0,x1,x2,-⟩:=cells3 HG.out;refine bodyPost_ret (v:=.agg #[_,_,_]) (by simp[results,Tryz.results38,go_sem,x0,x1,x2];first|exact⟨rfl,rfl,rfl⟩|rfl) rfl ?_;obtain⟨hn,ho,ht,hm,h0⟩:=HV.out;have hw:=HW.out;refine⟨HF.out _ _ _,_,rfl,b',A2,n2,c2,ys2,rfl,?_,ho,ht,hm,h0⟩;refine NatP.weak (NatP.keep hn (by simp[asR]) fun c hc hl=> ?_) (fun c hc hl=> ?_)
   . have hne:c≠w.heap.size:=by
      have hc':w2.heap.size<=c:=hc;omega
     exact((asN _ ⟨w.heap.size,2,none⟩ _ c hne).trans (asN _ ⟨w.heap.size,1,none⟩ _ c hne)).trans (asN _ ⟨w.heap.size,0,none⟩ _ c hne)
   . have hc':w2.heap.size<=c:=hc
     show w.heap.size<=c;omega
 . obtain⟨k,rfl⟩:∃k:Nat,z=k:=⟨z.toNat,by omega⟩
   have e1:IntKind.u64.wrap (k:Int)=(k:Int):=by rw[IntKind.wrap_u64];omega
   go_enter Tryz.func38,Tryz.ntmps38
   go_wp2_with fail
   refine(al1 (x:=k) (by omega)).mono ?_;rintro e w2⟨v,ys,rfl,hv,ho,ht,hval,hb2⟩;obtain⟨A',c',rfl,-,-,-,-⟩:=id hv;have HM:=hdd (akS (b:=false) (e:=0) hv ho ht (by omega));rw[hval,show sg false k=(k:Int) by unfold sg;simp]at HM;have HB2:=hdd (aA HB.out hb2);have HS2:=hdd (hbl HS.out hb2);clear hv ho ht hval hb2;go_wp2_with fail
   refine HM.out.mono ?_;rintro e w3⟨hb3,v,rfl,hv⟩;obtain⟨b',A2,n2,c2,ys2,rfl,hrest⟩:=id hv;have b3:=hbl HS2.out hb3;obtain⟨d0,d1,d2,g0,g1,g2⟩:=cells3 b3;have HG:=hdd (set3 b3 (.bool b') (.slice A2 n2 c2) (.int .i64 (mkDy (k:Int) 0).exp));have HB3:=hdd (aA HB2.out hb3);have HV:=hdd hrest;have HW:Hid (w.heap.size<w2.heap.size):=hdd (aF HS2.out);have HF:Hid (∀u v y,Below w.heap.size w (((w3.setCell ⟨w.heap.size,0,none⟩ u).setCell ⟨w.heap.size,1,none⟩ v).setCell ⟨w.heap.size,2,none⟩ y)):=hdd fun u v y=>((HB3.out.setCell nlr u).setCell nlr v).setCell nlr y;clear hv hrest hb3 b3 HM;generalize (mkDy (k:Int) 0)=r at*;go_wp2;obtain⟨x0,x1,x2,-⟩:=cells3 HG.out;refine bodyPost_ret (v:=.agg #[_,_,_]) (by simp[results,Tryz.results38,go_sem,x0,x1,x2];first|exact⟨rfl,rfl,rfl⟩|rfl) rfl ?_;obtain⟨hn,ho,ht,hm,h0⟩:=HV.out;have hw:=HW.out;refine⟨HF.out _ _ _,_,rfl,b',A2,n2,c2,ys2,rfl,?_,ho,ht,hm,h0⟩;refine NatP.weak (NatP.keep hn (by simp[asR]) fun c hc hl=> ?_) (fun c hc hl=> ?_)
   . have hne:c≠w.heap.size:=by
      have hc':w2.heap.size<=c:=hc;omega
     exact((asN _ ⟨w.heap.size,2,none⟩ _ c hne).trans (asN _ ⟨w.heap.size,1,none⟩ _ c hne)).trans (asN _ ⟨w.heap.size,0,none⟩ _ c hne)
   . have hc':w2.heap.size<=c:=hc
     show w.heap.size<=c;omega
theorem amH(h:OkS xs):bits (val2 xs)<=32*xs.length:=by
 rw[aD];have:=ak3 xs h;rwa[ak9,<-Nat.pow_mul]at this
theorem al3(b:Bool)(n:Nat):(sg b n).natAbs=n:=by unfold sg;cases b<;>simp
theorem amT(hx:DyC p w v d)(he:-1000000000000<=d.exp/\d.exp<=1000000000000):
 Calls Tryz.prog 151 #[v] w (RetK w (topD d)):=by
 obtain⟨b,A,n,c,ys,rfl,h⟩:=hx;obtain⟨w1,hw1,hb1,hs1,b1⟩:=pro1 w (.cells #[Value.bool b,.slice A n c,.int .i64 d.exp] 90);have HB:=hdd hb1;have H1:=hdd (And.intro (h.1.below hb1) h.2);obtain⟨c0,c1,c2,-,-,-⟩:=cells3 b1;clear h hb1 b1 hs1;have HDP:Hid (DyC p w1 (.agg #[.bool b,.slice A n c,.int .i64 d.exp]) d):=hdd ⟨b,A,n,c,ys,rfl,H1.out⟩;go_enter Tryz.func151,Tryz.ntmps151
 go_wp2_with fail
 refine(akQ HDP.out).mono ?_;rintro r w3⟨rfl,hb⟩;replace H1:=hdd (And.intro (H1.out.1.below hb) H1.out.2);replace c0:=cbl c0 hb;replace c1:=cbl c1 hb;replace c2:=cbl c2 hb;replace HB:=hdd (HB.out.trans (hb.mono HB.out.size));clear hb HDP hw1;by_cases hz:d.man=0
 . have hs:(d.man.sign==0)=true:=by rw[hz];rfl
   have HF:Hid (RetK w (topD d) (.returned (.int .i64 0)) w3):=hdd ⟨by unfold topD;rw[if_pos hz],HB.out⟩;clear hz;go_wp2;go_ret;exact HF.out
 . have hs:(d.man.sign==0)=false:=beq_eq_false_iff_ne.2 (fun h=>hz (Int.sign_eq_zero_iff_zero.1 h))
   obtain⟨hx1,ho,ht,hx3,-⟩:=H1.out;have HBT:=hdd (anL (hx1.below ((asT _ _).drew (w:=w3))) ho ht);have hbl:bits (val2 ys)<=32*1099511627776:=Nat.le_trans (amH ho) (Nat.mul_le_mul_left _ hx1.len);have hwr:IntKind.i64.wrap ((bits (val2 ys):Int)+d.exp)=(bits (val2 ys):Int)+d.exp:=wrap_i64 (by omega);have HT:Hid (topD d=bits (val2 ys)+d.exp):=hdd (by unfold topD;rw[if_neg hz,hx3,al3]);clear hx1 hx3 hz ho ht;go_wp2_with fail
   go_region_held3 (fun w'=>w'.cell? ⟨w.heap.size,0,none⟩=some (.bool b)/\w'.cell? ⟨w.heap.size,1,none⟩=some (.slice A n c)/\w'.cell? ⟨w.heap.size,2,none⟩=some (.int .i64 d.exp)) (go_keep)
    (first
    |(go_at_call 189
      refine HBT.out.mono ?_;rintro e w5⟨rfl,k,hk⟩;have hb5:Below w3.heap.size w3 w5:=by rw[hk];exact(asT _ _).drew.trans (below_drewN w3.drew k)
      have c0:=cbl c0 hb5;have c1:=cbl c1 hb5;have c2:=cbl c2 hb5;have HB5:=hdd (HB.out.trans (hb5.mono HB.out.size));clear hk hb5))
   have HF:Hid (RetK w (topD d) (.returned (.int .i64 (bits (val2 ys)+d.exp))) _):=hdd ⟨by rw[HT.out],HB5.out⟩;go_wp2;go_ret;exact HF.out
def al4(w0:World)(d:Dy)(e:Ending)(w':World):Prop:=Below w0.heap.size w0 w'/\∃v,e=.returned v/\DyC AnyB w' v d
theorem DyC.any (h:DyC p w v d):DyC AnyB w v d:=h.weak fun _ _ _=>trivial
theorem DyC.old (h:DyC p w v d):DyC (fun b=>b<w.heap.size) w v d:=h.weak fun _ _ h=>h
theorem alA{B g:Nat}{w0:World}{A:Option Addr}{n c:Nat}(hB:Below B w0 w)(hg:B<=g)(h:DyC p w (.agg #[.bool b,.slice A n c,.int .i64 e]) d)(hp:∀c,p c->c≠g):
 Below B w0 (((w.setCell ⟨g,0,none⟩ (.bool b)).setCell ⟨g,1,none⟩ (.slice A n c)).setCell ⟨g,2,none⟩ (.int .i64 e))/\DyC p (((w.setCell ⟨g,0,none⟩ (.bool b)).setCell ⟨g,1,none⟩ (.slice A n c)).setCell ⟨g,2,none⟩ (.int .i64 e)) (.agg #[.bool b,.slice A n c,.int .i64 e]) d:=by
 refine⟨((hB.setCell hg _).setCell hg _).setCell hg _,?_⟩;obtain⟨b',A',n',c',ys,e1,hn,hr⟩:=h;refine⟨b',A',n',c',ys,e1,NatP.keep hn (by simp[asR]) fun c hc hl=> ?_,hr⟩;have hne:=hp c hc;exact((asN _ ⟨g,2,none⟩ _ c hne).trans (asN _ ⟨g,1,none⟩ _ c hne)).trans (asN _ ⟨g,0,none⟩ _ c hne)
theorem alM(h:OkS xs)(t:Tr xs){T:Nat}(hb:bits (val2 xs)<=T):xs.length<=T/32+1:=by
 rcases Decidable.em (xs=[])with rfl|hn
 . exact Nat.zero_le _
 . have:=alJ xs h t hn
   have h0:0<xs.length:=asS.2 hn;omega
theorem amU{vb:Value}{a b:Dy}(ha:DyC AnyB w va a)(hb:DyC AnyB w vb b)(ca:Canon a)(cb:Canon b)(hz:a.man=0\/b.man=0):
 Calls Tryz.prog 192 #[va,vb] w (al4 w (addD a b)):=by
 replace ha:=ha.old;replace hb:=hb.old;obtain⟨ba,A,n,c,xs,rfl,ha⟩:=ha;obtain⟨bb,A',n',c',zs,rfl,hb⟩:=hb;obtain⟨w3,hw3,hb3,hs3,b1,b2,b3⟩:=pro3 w (.cells #[.bool ba,.slice A n c,.int .i64 a.exp] 90) (.cells #[.bool bb,.slice A' n' c',.int .i64 b.exp] 90) (.cells #[.bool false,.slice none 0 0,.int .i64 0] 90);have HA:Hid (DyC (fun b=>b<w.heap.size) w3 (.agg #[.bool ba,.slice A n c,.int .i64 a.exp]) a):=hdd (DyC.below ⟨ba,A,n,c,xs,rfl,ha⟩ hb3);have HB:Hid (DyC (fun b=>b<w.heap.size) w3 (.agg #[.bool bb,.slice A' n' c',.int .i64 b.exp]) b):=hdd (DyC.below ⟨bb,A',n',c',zs,rfl,hb⟩ hb3);have HW:=hdd hb3;have HSA:=hdd (akQ HA.out);obtain⟨c0,c1,c2,-⟩:=cells3 b1;obtain⟨d0,d1,d2,-⟩:=cells3 b2;have HG:=hdd b3;clear ha hb hb3 hs3 b1 b2 b3;go_enter Tryz.func192,Tryz.ntmps192
 go_wp2_with fail
 refine HSA.out.mono ?_;rintro e w4⟨rfl,hb4⟩;replace HA:=hdd (HA.out.below hb4);replace HB:=hdd (HB.out.below hb4);replace c0:=cbl c0 hb4;replace c1:=cbl c1 hb4;replace c2:=cbl c2 hb4;replace d0:=cbl d0 hb4;replace d1:=cbl d1 hb4;replace d2:=cbl d2 hb4;replace HG:=hdd (hbl HG.out hb4);replace HW:=hdd (aA HW.out hb4);clear hb4 HSA hw3;by_cases h0:a.man=0
 . have hs:(a.man.sign==0)=true:=by rw[h0];rfl
   obtain⟨HF,HD⟩:=alA (g:=w.heap.size+2) HW.out (by omega) HB.out (fun c (hc:c<w.heap.size)=>by omega);have HR:Hid (al4 w (addD a b) (.returned (.agg #[.bool bb,.slice A' n' c',.int .i64 b.exp])) _):=hdd ⟨HF,_,rfl,by rw[show addD a b=b by unfold addD;rw[if_pos h0];exact cb];exact HD.any⟩;have HX:=hdd (set3 HG.out (.bool bb) (.slice A' n' c') (.int .i64 b.exp));obtain⟨g0,g1,g2,f0,f1,f2⟩:=cells3 HG.out;clear HF HD h0;go_wp2;obtain⟨x0,x1,x2,-⟩:=cells3 HX.out;refine bodyPost_ret (v:=.agg #[_,_,_]) (by simp[results,Tryz.results192,go_sem,x0,x1,x2];first|exact⟨rfl,rfl,rfl⟩|rfl) rfl ?_;exact HR.out
 . have hs:(a.man.sign==0)=false:=beq_eq_false_iff_ne.2 (fun h=>h0 (Int.sign_eq_zero_iff_zero.1 h))
   have hb0:b.man=0:=hz.resolve_left h0;have HSB:=hdd (akQ HB.out);have hs2:(b.man.sign==0)=true:=by rw[hb0];rfl
   go_wp2_with fail
   refine HSB.out.mono ?_;rintro e w5⟨rfl,hb5⟩;replace HA:=hdd (HA.out.below hb5);replace c0:=cbl c0 hb5;replace c1:=cbl c1 hb5;replace c2:=cbl c2 hb5;replace HG:=hdd (hbl HG.out hb5);replace HW:=hdd (aA HW.out hb5);clear hb5 HSB d0 d1 d2 HB;obtain⟨HF,HD⟩:=alA (g:=w.heap.size+2) HW.out (by omega) HA.out (fun c (hc:c<w.heap.size)=>by omega);have HR:Hid (al4 w (addD a b) (.returned (.agg #[.bool ba,.slice A n c,.int .i64 a.exp])) _):=hdd ⟨HF,_,rfl,by rw[show addD a b=a by unfold addD;rw[if_neg h0,if_pos hb0];exact ca];exact HD.any⟩;have HX:=hdd (set3 HG.out (.bool ba) (.slice A n c) (.int .i64 a.exp));obtain⟨g0,g1,g2,f0,f1,f2⟩:=cells3 HG.out;clear HF HD h0 hb0;go_wp2;obtain⟨x0,x1,x2,-⟩:=cells3 HX.out;refine bodyPost_ret (v:=.agg #[_,_,_]) (by simp[results,Tryz.results192,go_sem,x0,x1,x2];first|exact⟨rfl,rfl,rfl⟩|rfl) rfl ?_;exact HR.out
end Go.Proofs.YtebocijmegkfgaaGreatDoor
