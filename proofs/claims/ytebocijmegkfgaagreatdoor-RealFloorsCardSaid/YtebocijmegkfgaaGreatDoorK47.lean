/- A part of the proof: contracts of functions and plain laws (CnQ, CnS, CnR, CnT, CnU). -/
import Derived.Test.YtebocijmegkfgaaGreatDoorK41
import Derived.Test.YtebocijmegkfgaaGreatDoorK46
import Derived.Test.YtebocijmegkfgaaGreatDoorK13
import Derived.Test.YtebocijmegkfgaaGreatDoorK45
import Derived.Test.YtebocijmegkfgaaGreatDoorK02
import Derived.Test.YtebocijmegkfgaaGreatDoorK20
set_option linter.unusedVariables false
set_option linter.unusedSimpArgs false
set_option linter.unnecessarySimpa false
set_option maxHeartbeats 25600000
set_option maxRecDepth 100000
namespace Go.Proofs.YtebocijmegkfgaaGreatDoor
open Go.RowKit
open Go.RowKit.Below renaming refl->asY
open Int renaming lt_trichotomy->asX,sign_eq_neg_one_of_neg->asZ,sign_eq_zero_iff_zero->as0,sign_eq_one_of_pos->as4,toNat_natCast->as6
open List renaming setIfInBounds_toArray->asU,set_cons_zero->asV,set_cons_succ->asW,getElem?_cons_zero->as1,getElem?_cons_succ->as2,length_eq_zero_iff->as3,getElem?_toArray->as5
variable{b c u:Bool}{a d x:Dy}{e0:Int}{ys:List Nat}{X Y c0 g n0:Nat}{p:Nat->Prop}{A0:Option Addr}{T:TypeId}{va vb:Value}{w:World}
theorem NatP.off {v:Value}(hw:w.heap[g]? =some (.cells #[.bool u,.slice A0 n0 c0,.int .i64 e0] T (0,0)))(h:NatP p w v ys):NatP (fun c=>c≠g) w v ys:=by
 obtain⟨A,c,rfl,h2,h3,h4,h5⟩:=h;refine⟨A,c,rfl,h2,h3,h4,fun hp=> ?_⟩;obtain⟨b,off,e,-,hb,hc⟩:=h5 hp;refine⟨b,off,e,?_,hb,hc⟩;rintro rfl;have h0:=hc 0 hp;rcases off with _|_|_|off<;>simp[World.cell?,hw]at h0
theorem akR{B:Nat}{w0:World}{A:Option Addr}{n c:Nat}{e:Int}(hB:Below B w0 w)(hg:B<=g)(hw:w.heap[g]? =some (.cells #[.bool u,.slice A0 n0 c0,.int .i64 e0] T (0,0)))(h:DyC p w (.agg #[.bool b,.slice A n c,.int .i64 e]) d):
 Below B w0 (((w.setCell ⟨g,0,none⟩ (.bool b)).setCell ⟨g,1,none⟩ (.slice A n c)).setCell ⟨g,2,none⟩ (.int .i64 e))/\DyC AnyB (((w.setCell ⟨g,0,none⟩ (.bool b)).setCell ⟨g,1,none⟩ (.slice A n c)).setCell ⟨g,2,none⟩ (.int .i64 e)) (.agg #[.bool b,.slice A n c,.int .i64 e]) d:=by
 obtain⟨b',A',n',c',ys,e1,hn,hr⟩:=h;obtain⟨h1,h2⟩:=alA hB hg (p:=fun c=>c≠g) ⟨b',A',n',c',ys,e1,hn.off hw,hr⟩ (fun _ h=>h);exact⟨h1,h2.any⟩
theorem am5(b:Bool)(X Y:Nat):sg b X+sg b Y=sg b (X+Y):=by unfold sg;cases b<;>simp<;>omega
theorem aoE(h:b≠c)(hl:Y<=X):sg b X+sg c Y=sg b (X-Y):=by unfold sg;cases b<;>cases c<;>simp at h|-<;>omega
theorem aoF(h:b≠c)(hl:X<=Y):sg b X+sg c Y=sg c (Y-X):=by unfold sg;cases b<;>cases c<;>simp at h|-<;>omega
theorem amV{k:Nat}(h:OkS ys)(t:Tr ys)(e:val2 ys=X*2^k)(hb:bits X<=1000000000000)(hk:k<=2000000000000):ys.length<1099511627776:=by
 have h1:=dJ X k;rw[<-e]at h1;have:=alM h t (T:=3000000000000) (by omega);omega
theorem aoG{b:Dy}(ha:DyC AnyB w va a)(hb:DyC AnyB w vb b)(h1:a.man≠0)(h2:b.man≠0)(ea:-1000000000000<=a.exp/\a.exp<=1000000000000)(eb:-1000000000000<=b.exp/\b.exp<=1000000000000)(la:bits a.man.natAbs<=1000000000000)(lb:bits b.man.natAbs<=1000000000000):
 Calls Tryz.prog 192 #[va,vb] w (al4 w (addD a b)):=by
 replace ha:=ha.old;replace hb:=hb.old;obtain⟨ba,A,n,c,xs,rfl,ha⟩:=ha;obtain⟨bb,A',n',c',zs,rfl,hb⟩:=hb;obtain⟨w3,hw3,hb3,hs3,b1,b2,b3⟩:=pro3 w (.cells #[.bool ba,.slice A n c,.int .i64 a.exp] 90) (.cells #[.bool bb,.slice A' n' c',.int .i64 b.exp] 90) (.cells #[.bool false,.slice none 0 0,.int .i64 0] 90);have HA:Hid (DyC (fun b=>b<w.heap.size) w3 (.agg #[.bool ba,.slice A n c,.int .i64 a.exp]) a):=hdd (DyC.below ⟨ba,A,n,c,xs,rfl,ha⟩ hb3);have HB:Hid (DyC (fun b=>b<w.heap.size) w3 (.agg #[.bool bb,.slice A' n' c',.int .i64 b.exp]) b):=hdd (DyC.below ⟨bb,A',n',c',zs,rfl,hb⟩ hb3);have HW:=hdd hb3;have HSA:=hdd (akQ HA.out);obtain⟨c0,c1,c2,-⟩:=cells3 b1;obtain⟨d0,d1,d2,-⟩:=cells3 b2;have HG:=hdd b3;have HXA:=hdd ha;have HXB:=hdd hb;clear ha hb hb3 hs3 b1 b2 b3;go_enter Tryz.func192,Tryz.ntmps192
 go_wp2_with fail
 refine HSA.out.mono ?_;rintro e w4⟨rfl,hb4⟩;replace HA:=hdd (HA.out.below hb4);replace HB:=hdd (HB.out.below hb4);replace c0:=cbl c0 hb4;replace c1:=cbl c1 hb4;replace c2:=cbl c2 hb4;replace d0:=cbl d0 hb4;replace d1:=cbl d1 hb4;replace d2:=cbl d2 hb4;replace HG:=hdd (hbl HG.out hb4);replace HW:=hdd (aA HW.out hb4);clear hb4 HSA hw3;have hs:(a.man.sign==0)=false:=beq_eq_false_iff_ne.2 (fun h=>h1 (as0.1 h));have hs2:(b.man.sign==0)=false:=beq_eq_false_iff_ne.2 (fun h=>h2 (as0.1 h));have HSB:=hdd (akQ HB.out);have HN:=hdd (And.intro h1 (And.intro h2 (And.intro la lb)));obtain⟨ea1,ea2⟩:=ea;obtain⟨eb1,eb2⟩:=eb;clear h1 h2 la lb;go_wp2_with fail
 refine HSB.out.mono ?_;rintro e w5⟨rfl,hb5⟩;replace HA:=hdd (HA.out.below hb5);replace HB:=hdd (HB.out.below hb5);replace c0:=cbl c0 hb5;replace c1:=cbl c1 hb5;replace c2:=cbl c2 hb5;replace d0:=cbl d0 hb5;replace d1:=cbl d1 hb5;replace d2:=cbl d2 hb5;replace HG:=hdd (hbl HG.out hb5);replace HW:=hdd (aA HW.out hb5);clear hb5 HSB;obtain⟨k1,hk1⟩:∃k:Nat,a.exp-min a.exp b.exp=(k:Int):=⟨(a.exp-min a.exp b.exp).toNat,by omega⟩;obtain⟨k2,hk2⟩:∃k:Nat,b.exp-min a.exp b.exp=(k:Int):=⟨(b.exp-min a.exp b.exp).toNat,by omega⟩;have LA:xs.length<=549755813888:=by
  have h:=HN.out.2.2.1;rw[HXA.out.2.2.2.1,al3]at h;have:=alM HXA.out.2.1 HXA.out.2.2.1 h;omega
 have LB:zs.length<=549755813888:=by
  have h:=HN.out.2.2.2;rw[HXB.out.2.2.2.1,al3]at h;have:=alM HXB.out.2.1 HXB.out.2.2.1 h;omega
 have S1:=hdd (amO (n:=k1) (HXA.out.1.below HW.out.drew) HXA.out.2.1 (by omega) LA);have HLB:=hdd LB;have HK2:Hid (k2<8796093022208):=hdd (by omega);clear LA LB;have hw1:IntKind.i64.wrap (k1:Int)=(k1:Int):=wrap_i64 (by omega);have hw2:IntKind.i64.wrap (k2:Int)=(k2:Int):=wrap_i64 (by omega)
 go_upto_region 6 with fail
 refine wp_region_noPanic ?_;refine mO (fun w':World=>w'.cell? ⟨w.heap.size,1,none⟩=some (.slice A n c)/\w'.cell? ⟨w.heap.size,2,none⟩=some (.int .i64 a.exp)/\w'.cell? ⟨w.heap.size+1,1,none⟩=some (.slice A' n' c')/\w'.cell? ⟨w.heap.size+1,2,none⟩=some (.int .i64 b.exp)) 15 (by kernel_rfl) ?_;have hSd:(fun w':World=>w'.cell? ⟨w.heap.size,1,none⟩=some (.slice A n c)/\w'.cell? ⟨w.heap.size,2,none⟩=some (.int .i64 a.exp)/\w'.cell? ⟨w.heap.size+1,1,none⟩=some (.slice A' n' c')/\w'.cell? ⟨w.heap.size+1,2,none⟩=some (.int .i64 b.exp)) w5.drew:=⟨c1,c2,d1,d2⟩;refine akM [(0,.pointer (some ⟨w.heap.size,1,none⟩)),(1,.slice A n c),(2,.pointer (some ⟨w.heap.size,2,none⟩)),(3,.int .i64 a.exp),(4,.int .i64 (min a.exp b.exp)),(5,.int .i64 (k1:Int)),(7,.pointer (some ⟨w.heap.size+1,1,none⟩)),(8,.slice A' n' c'),(9,.pointer (some ⟨w.heap.size+1,2,none⟩)),(10,.int .i64 b.exp),(11,.int .i64 (min a.exp b.exp)),(12,.int .i64 (k2:Int))] (by kernel_rfl) (by kernel_rfl) (by kernel_rfl) ?_ hSd ?_
 . intro w' hSw;(try dsimp only at hSw);go_split_ands
   simp only[akY,as5,as1,as2,Option.bind_some,Act.put,asU,asV,asW];refine⟨?_,?_,?_,?_,?_,?_,?_,?_,?_,?_,?_,?_,trivial⟩<;>(go_simp;all_goals rfl)
 simp only[akW,akX,as5,as1,as2,Option.bind_some,Act.put,asU,asV,asW];refine fH 6 (by kernel_rfl) rfl fun K' hK=> ?_;go_simp;refine S1.out.mono ?_;rintro e6 w6⟨v6,ys1,rfl,y1,o1,t1,e1,hb6⟩;have HB6:Hid (Below w.heap.size w w6):=hdd (aA HW.out.drew hb6);have hb56:Below w5.heap.size w5 w6:=(asY _ _).drew.trans hb6;replace c0:=cbl c0 hb56;replace c1:=cbl c1 hb56;replace c2:=cbl c2 hb56;replace d0:=cbl d0 hb56;replace d1:=cbl d1 hb56;replace d2:=cbl d2 hb56;have HG6:=hdd (hbl HG.out hb56);have S2:=hdd (amO (n:=k2) (HXB.out.1.below HB6.out) HXB.out.2.1 HK2.out HLB.out);have HY1:=hdd (And.intro y1 (And.intro o1 (And.intro t1 e1)));obtain⟨A1,m1,rfl,-,-,-,-⟩:=id y1;refine hK.out _ _ (fun _=>⟨c1,c2,d1,d2⟩) ?_;clear hK hSd y1 o1 t1 e1 hb6 hb56 S1
 try simp only[Act.put,asU,asV,asW]
 refine fH 13 (by kernel_rfl) rfl fun K' hK=> ?_;go_simp;refine S2.out.mono ?_;rintro e7 w7⟨v7,ys2,rfl,y2,o2,t2,e2,hb7⟩;have HB7:Hid (Below w.heap.size w w7):=hdd (aA HB6.out hb7);replace c0:=cbl c0 hb7;replace c1:=cbl c1 hb7;replace c2:=cbl c2 hb7;replace d0:=cbl d0 hb7;replace d1:=cbl d1 hb7;replace d2:=cbl d2 hb7;have HG7:=hdd (hbl HG6.out hb7);have HY2:=hdd (And.intro y2 (And.intro o2 (And.intro t2 e2)));have HY1':=hdd (And.intro (HY1.out.1.below hb7) HY1.out.2);obtain⟨A2,m2,rfl,-,-,-,-⟩:=id y2;refine hK.out _ _ (fun _=>⟨c1,c2,d1,d2⟩) ?_;clear hK y2 o2 t2 e2 hb7 S2
 try simp only[Act.put,asU,asV,asW]
 have hSd7:(fun w':World=>w'.cell? ⟨w.heap.size,1,none⟩=some (.slice A n c)/\w'.cell? ⟨w.heap.size,2,none⟩=some (.int .i64 a.exp)/\w'.cell? ⟨w.heap.size+1,1,none⟩=some (.slice A' n' c')/\w'.cell? ⟨w.heap.size+1,2,none⟩=some (.int .i64 b.exp)) w7:=⟨c1,c2,d1,d2⟩;refine aY 14 (.slice A1 ys1.length m1) rfl (by kernel_rfl) (by kernel_rfl) (by kernel_rfl) (by kernel_rfl) (fun _ _ _ h=>h) (by rfl) ?_ (by assumption) ?_
 . intro w' hSw;(try dsimp only at hSw);go_split_ands;go_simp;all_goals rfl
 simp only[Act.put,asU,asV,asW];refine fH 15 (by kernel_rfl) rfl fun K' hK=> ?_;go_simp;refine hK.out _ _ (fun h=>absurd rfl h) ?_;clear hK hSd7;refine oO (by kernel_rfl) ?_;refine NoPanic.normal ?_
 try simp only[Act.put,asU,asV,asW]
 have HADD:Hid (addD a b=mkDy (sg ba (val2 ys1)+sg bb (val2 ys2)) (min a.exp b.exp)):=hdd (by
  rw[addD,if_neg HN.out.1,if_neg HN.out.2.1,gL,gM,hk1,hk2,as6,as6,HXA.out.2.2.2.1,HXB.out.2.2.2.1,<-kF,<-kF,HY1'.out.2.2.2,HY2.out.2.2.2])
 have L1:Hid (ys1.length<1099511627776):=hdd (amV HY1'.out.2.1 HY1'.out.2.2.1 HY1'.out.2.2.2 (by have h:=HN.out.2.2.1;rwa[HXA.out.2.2.2.1,al3]at h) (by omega));have L2:Hid (ys2.length<1099511627776):=hdd (amV HY2.out.2.1 HY2.out.2.2.1 HY2.out.2.2.2 (by have h:=HN.out.2.2.2;rwa[HXB.out.2.2.2.1,al3]at h) (by omega));have HP1:Hid (val2 ys1≠0):=hdd (by
  have h1:=HN.out.1;rw[HXA.out.2.2.2.1]at h1;rw[HY1'.out.2.2.2];intro h2;rcases Nat.mul_eq_zero.1 h2 with h3|h3
  . rw[h3]at h1;exact h1 (by cases ba<;>rfl)
  . have:=Nat.two_pow_pos k1;omega)
 have HD7:Hid (Below w7.heap.size w7 w7.drew):=hdd (asY _ _).drew;clear HXA HXB HN hk1 hk2 hw1 hw2 hs hs2 HA HB HG6 HY1 HLB HK2 HB6 HW HG;by_cases hbb:ba=bb
 . subst hbb
   have hc:(ba==ba)=true:=by simp
   have HS8:=hdd (aoA (HY1'.out.1.below HD7.out) (HY2.out.1.below HD7.out) HY1'.out.2.1 HY2.out.2.1 L1.out L2.out);have n1:w.heap.size+2≠w.heap.size:=by omega
   have n2:w.heap.size+2≠w.heap.size+1:=by omega
   have HBW:Below w7.heap.size w7 w7.drew:=(asY _ _).drew;go_wp2_with fail
   replace c0:=cbl c0 HBW
   go_region_held3 (fun w'=>w'.cell? ⟨w.heap.size,0,none⟩=some (.bool ba)) (go_keep)
    (first
    |(go_at_call 226
      refine HS8.out.mono ?_;rintro r w8⟨v8,us,rfl,hv8,o8,t8,e8,hb8⟩;have HB8:=hdd (aA HBW hb8);have c0:=cbl c0 hb8;have HMK:=hdd (akS (b:=ba) (e:=min a.exp b.exp) hv8 o8 t8 (by omega));have HE8:=hdd e8;clear hv8 o8 t8 e8 hb8)
    |(go_at_call 83
      refine HMK.out.mono ?_;rintro r w9⟨hb9,v9,rfl,hz⟩;obtain⟨b9,A9,n9,c9,ts,rfl,hz⟩:=hz;have c0:=cbl c0 hb9;have HF:=hdd hz;have HB9:=hdd (HB8.out.trans (hb9.mono HB8.out.size));have B9:=hdd (hbl HG7.out HB9.out);obtain⟨e0,e1,e2,e3,e4,e5⟩:=cells3 B9.out;clear hb9 hz))
   have HQ:addD a b=mkDy (sg ba (val2 us)) (min a.exp b.exp):=by rw[HADD.out,HE8.out,am5]
   obtain⟨HFF,hFF⟩:=akR (g:=w.heap.size+2) (aA HB7.out HB9.out) (by omega) B9.out ⟨_,_,_,_,_,rfl,HF.out⟩;rw[<-HQ]at hFF HFF;replace hFF:=hdd hFF;replace HFF:=hdd HFF;have HX:=hdd (set3 B9.out (.bool b9) (.slice A9 n9 c9) (.int .i64 (addD a b).exp));rw[<-HQ];clear HQ HADD;generalize hq:(addD a b)=q at*;go_wp2;obtain⟨f0,f1,f2,-⟩:=cells3 HX.out;refine bodyPost_ret (v:=.agg #[_,_,_]) (by simp[results,Tryz.results192,go_sem,f0,f1,f2];first|exact⟨rfl,rfl,rfl⟩|rfl) rfl ?_;exact⟨HFF.out,_,rfl,hFF.out⟩
 . have hc:(ba==bb)=false:=by simpa using hbb
   have HCM:=hdd (an4 HY1'.out.1 HY2.out.1 HY1'.out.2.1 HY2.out.2.1 HY1'.out.2.2.1 HY2.out.2.2.1);go_wp2_with fail
   refine HCM.out.mono ?_;rintro e w8x⟨rfl,kk,rfl⟩;have hb8:=below_drewN w7 kk;generalize w7.drewN kk=wc at*;replace c0:=cbl c0 hb8;replace d0:=cbl d0 hb8;replace HG7:=hdd (hbl HG7.out hb8);replace HB7:=hdd (aA HB7.out hb8);replace HY1':=hdd (And.intro (HY1'.out.1.below hb8) HY1'.out.2);replace HY2:=hdd (And.intro (HY2.out.1.below hb8) HY2.out.2);replace HD7:Hid (Below wc.heap.size wc wc.drew):=hdd (asY _ _).drew;clear hb8 HCM;by_cases hle:val2 ys2<=val2 ys1
   . have hcm:0<=cmpN (val2 ys1) (val2 ys2):=by unfold cmpN;split; · omega
                                                . split<;>omega
     have h0:0<ys1.length:=by
      rcases Nat.eq_zero_or_pos ys1.length with h|h
      . exfalso
        have h1:=HP1.out;rw[as3.1 h]at h1;exact h1 rfl
      . exact h
     generalize cmpN (val2 ys1) (val2 ys2)=cm at*;have HS8:=hdd (amP (HY1'.out.1.below HD7.out) (HY2.out.1.below HD7.out) HY1'.out.2.1 HY2.out.2.1 HY2.out.2.2.1 hle h0);have n1:w.heap.size+2≠w.heap.size:=by omega
     have n2:w.heap.size+2≠w.heap.size+1:=by omega
     have HBW:Below wc.heap.size wc wc.drew:=(asY _ _).drew;go_wp2_with fail
     replace c0:=cbl c0 HBW
     go_region_held3 (fun w'=>w'.cell? ⟨w.heap.size,0,none⟩=some (.bool ba)) (go_keep)
      (first
      |(go_at_call 228
        refine HS8.out.mono ?_;rintro r w8⟨v8,us,rfl,hv8,o8,t8,e8,hb8⟩;have HB8:=hdd (aA HBW hb8);have c0:=cbl c0 hb8;have HMK:=hdd (akS (b:=ba) (e:=min a.exp b.exp) hv8 o8 t8 (by omega));have HE8:=hdd e8;clear hv8 o8 t8 e8 hb8)
      |(go_at_call 83
        refine HMK.out.mono ?_;rintro r w9⟨hb9,v9,rfl,hz⟩;obtain⟨b9,A9,n9,c9,ts,rfl,hz⟩:=hz;have c0:=cbl c0 hb9;have HF:=hdd hz;have HB9:=hdd (HB8.out.trans (hb9.mono HB8.out.size));have B9:=hdd (hbl HG7.out HB9.out);obtain⟨e0,e1,e2,e3,e4,e5⟩:=cells3 B9.out;clear hb9 hz))
     have HQ:addD a b=mkDy (sg ba (val2 us)) (min a.exp b.exp):=by rw[HADD.out,HE8.out,aoE hbb hle]
     obtain⟨HFF,hFF⟩:=akR (g:=w.heap.size+2) (aA HB7.out HB9.out) (by omega) B9.out ⟨_,_,_,_,_,rfl,HF.out⟩;rw[<-HQ]at hFF HFF;replace hFF:=hdd hFF;replace HFF:=hdd HFF;have HX:=hdd (set3 B9.out (.bool b9) (.slice A9 n9 c9) (.int .i64 (addD a b).exp));rw[<-HQ];clear HQ HADD;generalize hq:(addD a b)=q at*;go_wp2;obtain⟨f0,f1,f2,-⟩:=cells3 HX.out;refine bodyPost_ret (v:=.agg #[_,_,_]) (by simp[results,Tryz.results192,go_sem,f0,f1,f2];first|exact⟨rfl,rfl,rfl⟩|rfl) rfl ?_;exact⟨HFF.out,_,rfl,hFF.out⟩
   . have hcm:¬0<=cmpN (val2 ys1) (val2 ys2):=by unfold cmpN;rw[if_pos (by omega)];omega
     have h0:0<ys2.length:=by
      rcases Nat.eq_zero_or_pos ys2.length with h|h
      . exfalso
        rw[as3.1 h]at hle;simp[val2]at hle
      . exact h
     generalize cmpN (val2 ys1) (val2 ys2)=cm at*;have HS8:=hdd (amP (HY2.out.1.below HD7.out) (HY1'.out.1.below HD7.out) HY2.out.2.1 HY1'.out.2.1 HY1'.out.2.2.1 (by omega) h0);have n1:w.heap.size+2≠w.heap.size:=by omega
     have n2:w.heap.size+2≠w.heap.size+1:=by omega
     have HBW:Below wc.heap.size wc wc.drew:=(asY _ _).drew;go_wp2_with fail
     replace d0:=cbl d0 HBW
     go_region_held3 (fun w'=>w'.cell? ⟨w.heap.size+1,0,none⟩=some (.bool bb)) (go_keep)
      (first
      |(go_at_call 228
        refine HS8.out.mono ?_;rintro r w8⟨v8,us,rfl,hv8,o8,t8,e8,hb8⟩;have HB8:=hdd (aA HBW hb8);have d0:=cbl d0 hb8;have HMK:=hdd (akS (b:=bb) (e:=min a.exp b.exp) hv8 o8 t8 (by omega));have HE8:=hdd e8;clear hv8 o8 t8 e8 hb8)
      |(go_at_call 83
        refine HMK.out.mono ?_;rintro r w9⟨hb9,v9,rfl,hz⟩;obtain⟨b9,A9,n9,c9,ts,rfl,hz⟩:=hz;have d0:=cbl d0 hb9;have HF:=hdd hz;have HB9:=hdd (HB8.out.trans (hb9.mono HB8.out.size));have B9:=hdd (hbl HG7.out HB9.out);obtain⟨e0,e1,e2,e3,e4,e5⟩:=cells3 B9.out;clear hb9 hz))
     have HQ:addD a b=mkDy (sg bb (val2 us)) (min a.exp b.exp):=by rw[HADD.out,HE8.out,aoF hbb (by omega)]
     obtain⟨HFF,hFF⟩:=akR (g:=w.heap.size+2) (aA HB7.out HB9.out) (by omega) B9.out ⟨_,_,_,_,_,rfl,HF.out⟩;rw[<-HQ]at hFF HFF;replace hFF:=hdd hFF;replace HFF:=hdd HFF;have HX:=hdd (set3 B9.out (.bool b9) (.slice A9 n9 c9) (.int .i64 (addD a b).exp));rw[<-HQ];clear HQ HADD;generalize hq:(addD a b)=q at*;go_wp2;obtain⟨f0,f1,f2,-⟩:=cells3 HX.out;refine bodyPost_ret (v:=.agg #[_,_,_]) (by simp[results,Tryz.results192,go_sem,f0,f1,f2];first|exact⟨rfl,rfl,rfl⟩|rfl) rfl ?_;exact⟨HFF.out,_,rfl,hFF.out⟩
theorem aoH(x y:Dy):(addD x (notD y)).man.sign=cmpD x y:=by
 have h1:=wI x (notD y);rw[lZ]at h1;have h2:=afN x y;have h3:=aV (addD x (notD y));have h4:cmpD x y=-1\/cmpD x y=0\/cmpD x y=1:=by
  unfold cmpD cmpI
  split
  . exact Or.inl rfl
  . split
    . exact Or.inr (Or.inr rfl)
    . exact Or.inr (Or.inl rfl)
 rw[h1]at h3;rcases asX (addD x (notD y)).man 0 with h|h|h
 . rw[asZ h]
   have:=h2.1.2 (by have:=h3.2.1.2 h;grind);omega
 . rw[h]
   have:=h3.2.2.2 h;have n1:¬cmpD x y<0:=fun k=>by have:=h2.1.1 k;grind
   have n2:¬0<cmpD x y:=fun k=>by have:=h2.2.1 k;grind
   show 0=_;omega
 . rw[as4 h]
   have:=h2.2.2 (by have:=h3.1.2 h;grind);omega
theorem am6(hc:Canon x):notD x=⟨-x.man,x.exp⟩:=by
 have hc':=hc;unfold Canon at hc';by_cases h0:x.man=0
 . have:x.exp=0:=by rw[<-hc',h0,aR]
   unfold notD;rw[h0,this];rfl
 . unfold notD
   unfold mkDy at hc'|-;rw[if_neg h0]at hc';rw[if_neg (by omega)];have e1:(-x.man).natAbs=x.man.natAbs:=by omega
   rw[e1];have hc1:sg (decide (x.man<0)) (x.man.natAbs/2^ctz x.man.natAbs)=x.man:=congrArg Dy.man hc';have hc2:x.exp+ctz x.man.natAbs=x.exp:=congrArg Dy.exp hc';have:decide (-x.man<0)= !decide (x.man<0):=by
    by_cases g:x.man<0
    . rw[decide_eq_true g,decide_eq_false (by omega)];rfl
    . rw[decide_eq_false g,decide_eq_true (by omega)];rfl
   rw[this,hc2]
   congr 1
   conv=>rhs;rw[<-hc1]
   cases decide (x.man<0)<;>simp[sg]
theorem aoI(hc:Canon d)(h:SmD d):SmD (notD d):=by
 rw[am6 hc];exact⟨by show bits (-d.man).natAbs<=_;rw[show(-d.man).natAbs=d.man.natAbs from by omega];exact h.1,h.2⟩
theorem anQ{b:Dy}(ha:DyC AnyB w va a)(hb:DyC AnyB w vb b)(ca:Canon a)(cb:Canon b)(sa:SmD a)(sb:SmD b):
 Calls Tryz.prog 192 #[va,vb] w (al4 w (addD a b)):=by
 by_cases h1:a.man=0
 . exact amU ha hb ca cb (Or.inl h1)
 . by_cases h2:b.man=0
   . exact amU ha hb ca cb (Or.inr h2)
   . obtain⟨a1,a2,a3⟩:=sa
     obtain⟨b1,b2,b3⟩:=sb;exact aoG ha hb h1 h2 ⟨by omega,by omega⟩ ⟨by omega,by omega⟩ (by omega) (by omega)
theorem ao3(d:Dy):Canon (notD d):=Canon.mk _ _
theorem anR{b:Dy}(ha:DyC AnyB w va a)(hb:DyC AnyB w vb b)(ca:Canon a)(cb:Canon b)(sa:SmD a)(sb:SmD b):
 Calls Tryz.prog 152 #[va,vb] w (al4 w (addD a (notD b))):=by
 obtain⟨ba,A,n,c,xs,rfl,h⟩:=ha;obtain⟨bb,A',n',c',zs,rfl,h'⟩:=hb;obtain⟨w3,hw3,hb3,hs3,b1,b2,b3⟩:=pro3 w (.cells #[.bool ba,.slice A n c,.int .i64 a.exp] 90) (.cells #[.bool bb,.slice A' n' c',.int .i64 b.exp] 90) (.cells #[.bool false,.slice none 0 0,.int .i64 0] 90);have HB:=hdd hb3;have B3:=hdd b3;have HS:=hdd hs3;have HBW:Below w3.heap.size w3 w3.drew:=(asY _ _).drew;have HA:Hid (DyC AnyB w3 (.agg #[.bool ba,.slice A n c,.int .i64 a.exp]) a):=hdd (DyC.below ⟨_,_,_,_,_,rfl,h⟩ hb3);have HN:=hdd (aoD (w:=w3.drew) (DyC.below (DyC.below ⟨_,_,_,_,_,rfl,h'⟩ hb3) HBW) (by have:=sb.2;omega));have HM:=hdd (And.intro ca (And.intro (ao3 b) (And.intro sa (aoI cb sb))));obtain⟨c0,c1,c2,-,-,-⟩:=cells3 b1;obtain⟨d0,d1,d2,-,-,-⟩:=cells3 b2;replace c0:=cbl c0 HBW;replace c1:=cbl c1 HBW;replace c2:=cbl c2 HBW;replace d0:=cbl d0 HBW;replace d1:=cbl d1 HBW;replace d2:=cbl d2 HBW;clear h h' hb3 b1 b2 b3 hs3 ca cb sa sb;go_enter Tryz.func152,Tryz.ntmps152
 go_wp2_with fail
 have n1:w.heap.size+2≠w.heap.size:=by omega
 have n2:w.heap.size+2≠w.heap.size+1:=by omega
 go_region_held3 (fun w'=>w'.cell? ⟨w.heap.size,0,none⟩=some (.bool ba)/\w'.cell? ⟨w.heap.size,1,none⟩=some (.slice A n c)/\w'.cell? ⟨w.heap.size,2,none⟩=some (.int .i64 a.exp)/\w'.cell? ⟨w.heap.size+1,0,none⟩=some (.bool bb)/\w'.cell? ⟨w.heap.size+1,1,none⟩=some (.slice A' n' c')/\w'.cell? ⟨w.heap.size+1,2,none⟩=some (.int .i64 b.exp)) (go_keep)
  (first
  |(go_at_call 101
    refine HN.out.mono ?_;rintro r w5⟨hb,v5,rfl,hz⟩;have HB5:=hdd (aA HBW hb);have c0:=cbl c0 hb;have c1:=cbl c1 hb;have c2:=cbl c2 hb;have d0:=cbl d0 hb;have d1:=cbl d1 hb;have d2:=cbl d2 hb;have HAD:=hdd (anQ (b:=notD b) (HA.out.below HB5.out) hz.any HM.out.1 HM.out.2.1 HM.out.2.2.1 HM.out.2.2.2);clear hb hz)
  |(go_at_call 192
    refine HAD.out.mono ?_;rintro r w6⟨hb,v6,rfl,hz⟩;obtain⟨b6,A6,n6,c6,us,rfl,hz⟩:=hz;have c0:=cbl c0 hb;have c1:=cbl c1 hb;have c2:=cbl c2 hb;have d0:=cbl d0 hb;have d1:=cbl d1 hb;have d2:=cbl d2 hb;have HF:=hdd hz;have B6:=hdd (aC B3.out (HB5.out.trans (hb.mono HB5.out.size)) (aF B3.out));have HB6:=hdd (aA HB.out (HB5.out.trans (hb.mono HB5.out.size)));obtain⟨e0,e1,e2,e3,e4,e5⟩:=cells3 B6.out;clear hb hz))
 obtain⟨HFF,hFF⟩:=akR (g:=w.heap.size+2) HB6.out (by omega) B6.out ⟨_,_,_,_,_,rfl,HF.out⟩;replace hFF:=hdd hFF;replace HFF:=hdd HFF;have HX:=hdd (set3 B6.out (.bool b6) (.slice A6 n6 c6) (.int .i64 (addD a (notD b)).exp));generalize hq:(addD a (notD b))=q at*;go_wp2;obtain⟨f0,f1,f2,-⟩:=cells3 HX.out;refine bodyPost_ret (v:=.agg #[_,_,_]) (by simp[results,Tryz.results152,go_sem,f0,f1,f2];first|exact⟨rfl,rfl,rfl⟩|rfl) rfl ?_;exact⟨HFF.out,_,rfl,hFF.out⟩
theorem anS{q:Nat->Prop}{y:Dy}(hx:DyC p w va x)(hy:DyC q w vb y)(cx:Canon x)(cy:Canon y)(sx:SmD x)(sy:SmD y):
 Calls Tryz.prog 100 #[va,vb] w (RetK w (cmpD x y)):=by
 obtain⟨ba,A,n,c,us,rfl,h⟩:=hx;obtain⟨bb,A',n',c',vs,rfl,h'⟩:=hy;obtain⟨w2,hw2,hb2,hs2,b1,b2⟩:=pro2 w (.cells #[Value.bool ba,.slice A n c,.int .i64 x.exp] 90) (.cells #[Value.bool bb,.slice A' n' c',.int .i64 y.exp] 90);have HB:=hdd hb2;have HS:=hdd hs2;have HP:=hdd cx;have HQ:=hdd cy;have SX:=hdd sx;have SY:=hdd sy;obtain⟨c0,c1,c2,-,-,-⟩:=cells3 b1;obtain⟨d0,d1,d2,-,-,-⟩:=cells3 b2;have D1:Hid (DyC p w2 (.agg #[.bool ba,.slice A n c,.int .i64 x.exp]) x):=hdd (DyC.below ⟨_,_,_,_,_,rfl,h⟩ hb2);have D2:Hid (DyC q w2 (.agg #[.bool bb,.slice A' n' c',.int .i64 y.exp]) y):=hdd (DyC.below ⟨_,_,_,_,_,rfl,h'⟩ hb2);clear h h' hb2 b1 b2 hs2 cx cy sx sy;go_enter Tryz.func100,Tryz.ntmps100
 go_wp2_with fail
 have HSA:Hid (∀w',Below w2.heap.size w2 w'->Calls Tryz.prog 150 #[.agg #[.bool ba,.slice A n c,.int .i64 x.exp]] w' (RetK w' x.man.sign)):=hdd fun w' h=>akQ (D1.out.below h);have HSB:Hid (∀w',Below w2.heap.size w2 w'->Calls Tryz.prog 150 #[.agg #[.bool bb,.slice A' n' c',.int .i64 y.exp]] w' (RetK w' y.man.sign)):=hdd fun w' h=>akQ (D2.out.below h);have HTA:Hid (∀w',Below w2.heap.size w2 w'->Calls Tryz.prog 151 #[.agg #[.bool ba,.slice A n c,.int .i64 x.exp]] w' (RetK w' (topD x))):=hdd fun w' h=>amT (D1.out.below h) (by have:=SX.out.2;omega);have HTB:Hid (∀w',Below w2.heap.size w2 w'->Calls Tryz.prog 151 #[.agg #[.bool bb,.slice A' n' c',.int .i64 y.exp]] w' (RetK w' (topD y))):=hdd fun w' h=>amT (D2.out.below h) (by have:=SY.out.2;omega);have HBW:Below w2.heap.size w2 w2.drew:=(asY _ _).drew;replace c0:=cbl c0 HBW;replace c1:=cbl c1 HBW;replace c2:=cbl c2 HBW;replace d0:=cbl d0 HBW;replace d1:=cbl d1 HBW;replace d2:=cbl d2 HBW
 go_region_held3 (fun w'=>w'.cell? ⟨w.heap.size,0,none⟩=some (.bool ba)/\w'.cell? ⟨w.heap.size,1,none⟩=some (.slice A n c)/\w'.cell? ⟨w.heap.size,2,none⟩=some (.int .i64 x.exp)/\w'.cell? ⟨w.heap.size+1,0,none⟩=some (.bool bb)/\w'.cell? ⟨w.heap.size+1,1,none⟩=some (.slice A' n' c')/\w'.cell? ⟨w.heap.size+1,2,none⟩=some (.int .i64 y.exp)) (go_keep)
  (first
  |(go_at_call 150
    with_reducible refine(HSA.out _ (by assumption)).mono ?_
    rintro e w3⟨rfl,hb⟩;have c0:=cbl c0 hb;have c1:=cbl c1 hb;have c2:=cbl c2 hb;have d0:=cbl d0 hb;have d1:=cbl d1 hb;have d2:=cbl d2 hb;have HBW:=aA HBW hb)
  |(go_at_call 150
    with_reducible refine(HSB.out _ (by assumption)).mono ?_
    rintro e w4⟨rfl,hb⟩;have c0:=cbl c0 hb;have c1:=cbl c1 hb;have c2:=cbl c2 hb;have d0:=cbl d0 hb;have d1:=cbl d1 hb;have d2:=cbl d2 hb;have HBW:=aA HBW hb))
 have HB3:=hdd (HB.out.trans (HBW.mono HB.out.size));have HW3:=hdd HBW;have HLT:=hdd (@ahQ x y);have HGT:=hdd (@ahR x y);have HEQ:=hdd (@acV x y);have HTL:=hdd (@afM x y);have HTG:=hdd (@acW x y);clear HBW HSA HSB hw2;have hsb:-1<=x.man.sign/\x.man.sign<=1:=by
  rcases asX x.man 0 with h|h|h
  . rw[asZ h];omega
  . rw[h];decide
  . rw[as4 h];omega
 generalize x.man.sign=s at*;generalize y.man.sign=t at*;rcases asX s t with h|h|h
 . have h2:=HLT.out h
   have hne:(s != t)=true:=by simp;omega
   have HF:Hid (RetK w (cmpD x y) (.returned (.int .i64 (-1))) _):=hdd ⟨by rw[h2],HB3.out⟩;clear h2;go_wp2;go_ret;exact HF.out
 . subst h
   have hne:(s != s)=false:=by simp
   by_cases hz:s=0
   . have h2:=HEQ.out rfl hz
     have hz2:(s==0)=true:=by rw[hz];rfl
     have HF:Hid (RetK w (cmpD x y) (.returned (.int .i64 0)) _):=hdd ⟨by rw[h2],HB3.out⟩;clear h2 hz;go_wp2;go_ret;exact HF.out
   . have hz2:(s==0)=false:=beq_eq_false_iff_ne.2 hz
     have HTL2:=hdd (HTL.out rfl hz);have HTG2:=hdd (HTG.out rfl hz);have hsb2:=hsb;clear HLT HGT HEQ HTL HTG;go_wp2_with fail
     have HBW:Below w2.heap.size w2 w4.drew:=HW3.out.drew;have hdr:Below w4.heap.size w4 w4.drew:=(asY _ _).drew;replace c0:=cbl c0 hdr;replace c1:=cbl c1 hdr;replace c2:=cbl c2 hdr;replace d0:=cbl d0 hdr;replace d1:=cbl d1 hdr;replace d2:=cbl d2 hdr;clear hdr
     go_region_held3 (fun w'=>w'.cell? ⟨w.heap.size,0,none⟩=some (.bool ba)/\w'.cell? ⟨w.heap.size,1,none⟩=some (.slice A n c)/\w'.cell? ⟨w.heap.size,2,none⟩=some (.int .i64 x.exp)/\w'.cell? ⟨w.heap.size+1,0,none⟩=some (.bool bb)/\w'.cell? ⟨w.heap.size+1,1,none⟩=some (.slice A' n' c')/\w'.cell? ⟨w.heap.size+1,2,none⟩=some (.int .i64 y.exp)) (go_keep)
      (first
      |(go_at_call 151
        with_reducible refine(HTA.out _ (by assumption)).mono ?_
        rintro e w5⟨rfl,hb⟩;have c0:=cbl c0 hb;have c1:=cbl c1 hb;have c2:=cbl c2 hb;have d0:=cbl d0 hb;have d1:=cbl d1 hb;have d2:=cbl d2 hb;have HBW:=aA HBW hb)
      |(go_at_call 151
        with_reducible refine(HTB.out _ (by assumption)).mono ?_
        rintro e w6⟨rfl,hb⟩;have c0:=cbl c0 hb;have c1:=cbl c1 hb;have c2:=cbl c2 hb;have d0:=cbl d0 hb;have d1:=cbl d1 hb;have d2:=cbl d2 hb;have HBW:=aA HBW hb))
     have HB6:=hdd (HB.out.trans (HBW.mono HB.out.size));replace D1:=hdd (D1.out.below HBW);replace D2:=hdd (D2.out.below HBW);have HW6:=hdd HBW;clear HBW HB3 HW3;generalize topD x=tm at*;generalize topD y=tn at*;rcases asX tm tn with h|h|h
     . have h2:=HTL2.out h
       have hnm:(tm != tn)=true:=by simp;omega
       clear HB6;go_wp2_with fail
       have HBW:Below w2.heap.size w2 w6.drew:=HW6.out.drew;have hdr:Below w6.heap.size w6 w6.drew:=(asY _ _).drew;replace c0:=cbl c0 hdr;replace c1:=cbl c1 hdr;replace c2:=cbl c2 hdr;replace d0:=cbl d0 hdr;replace d1:=cbl d1 hdr;replace d2:=cbl d2 hdr;clear hdr
       go_region_held3 (fun w'=>w'.cell? ⟨w.heap.size,0,none⟩=some (.bool ba)/\w'.cell? ⟨w.heap.size,1,none⟩=some (.slice A n c)/\w'.cell? ⟨w.heap.size,2,none⟩=some (.int .i64 x.exp)/\w'.cell? ⟨w.heap.size+1,0,none⟩=some (.bool bb)/\w'.cell? ⟨w.heap.size+1,1,none⟩=some (.slice A' n' c')/\w'.cell? ⟨w.heap.size+1,2,none⟩=some (.int .i64 y.exp)) (go_keep)
        (first
        |(go_at_call 151
          with_reducible refine(HTA.out _ (by assumption)).mono ?_
          rintro e w7⟨rfl,hb⟩;have c0:=cbl c0 hb;have c1:=cbl c1 hb;have c2:=cbl c2 hb;have d0:=cbl d0 hb;have d1:=cbl d1 hb;have d2:=cbl d2 hb;have HBW:=aA HBW hb)
        |(go_at_call 151
          with_reducible refine(HTB.out _ (by assumption)).mono ?_
          rintro e w8⟨rfl,hb⟩;have c0:=cbl c0 hb;have c1:=cbl c1 hb;have c2:=cbl c2 hb;have d0:=cbl d0 hb;have d1:=cbl d1 hb;have d2:=cbl d2 hb;have HBW:=aA HBW hb))
       have HB8:=hdd (HB.out.trans (HBW.mono HB.out.size));clear HBW HTA HTB HW6 D1 D2;rcases asX s 0 with hs0|hs0|hs0
       . have HF:Hid (RetK w (cmpD x y) (.returned (.int .i64 1)) _):=hdd ⟨by rw[h2];congr 2;omega,HB8.out⟩
         have hd1:(decide (tm<tn)==decide (0<s))=false:=by simp[h];omega
         clear h2;go_wp2;go_ret;exact HF.out
       . exact absurd hs0 hz
       . have HF:Hid (RetK w (cmpD x y) (.returned (.int .i64 (-1))) _):=hdd ⟨by rw[h2];congr 2;omega,HB8.out⟩
         have hd1:(decide (tm<tn)==decide (0<s))=true:=by simp[h];omega
         clear h2;go_wp2;go_ret;exact HF.out
     . subst h
       have hnm:(tm != tm)=false:=by simp
       clear HTL2 HTG2 HTA HTB;have HSB:=hdd (anR D1.out.any D2.out.any HP.out HQ.out SX.out SY.out);go_wp2_with fail
       refine HSB.out.mono ?_;rintro e w7⟨hb,v,rfl,hv⟩;have HB7:=hdd (HB6.out.trans (hb.mono HB6.out.size));have HSG:=hdd (akQ hv);have hsg:(addD x (notD y)).man.sign=cmpD x y:=aoH x y;rw[hsg]at HSG;obtain⟨b',A2,n2,c2',us',rfl,-⟩:=id hv;clear hb hv hsg;go_wp2_with fail
       refine HSG.out.mono ?_;rintro r w9⟨rfl,hb⟩;have HF:Hid (RetK w (cmpD x y) (.returned (.int .i64 (cmpD x y))) _):=hdd ⟨rfl,HB7.out.trans (hb.mono HB7.out.size)⟩;clear hb;go_wp2;go_ret;exact HF.out
     . have h2:=HTG2.out h
       have hnm:(tm != tn)=true:=by simp;omega
       clear HB6;go_wp2_with fail
       have HBW:Below w2.heap.size w2 w6.drew:=HW6.out.drew;have hdr:Below w6.heap.size w6 w6.drew:=(asY _ _).drew;replace c0:=cbl c0 hdr;replace c1:=cbl c1 hdr;replace c2:=cbl c2 hdr;replace d0:=cbl d0 hdr;replace d1:=cbl d1 hdr;replace d2:=cbl d2 hdr;clear hdr
       go_region_held3 (fun w'=>w'.cell? ⟨w.heap.size,0,none⟩=some (.bool ba)/\w'.cell? ⟨w.heap.size,1,none⟩=some (.slice A n c)/\w'.cell? ⟨w.heap.size,2,none⟩=some (.int .i64 x.exp)/\w'.cell? ⟨w.heap.size+1,0,none⟩=some (.bool bb)/\w'.cell? ⟨w.heap.size+1,1,none⟩=some (.slice A' n' c')/\w'.cell? ⟨w.heap.size+1,2,none⟩=some (.int .i64 y.exp)) (go_keep)
        (first
        |(go_at_call 151
          with_reducible refine(HTA.out _ (by assumption)).mono ?_
          rintro e w7⟨rfl,hb⟩;have c0:=cbl c0 hb;have c1:=cbl c1 hb;have c2:=cbl c2 hb;have d0:=cbl d0 hb;have d1:=cbl d1 hb;have d2:=cbl d2 hb;have HBW:=aA HBW hb)
        |(go_at_call 151
          with_reducible refine(HTB.out _ (by assumption)).mono ?_
          rintro e w8⟨rfl,hb⟩;have c0:=cbl c0 hb;have c1:=cbl c1 hb;have c2:=cbl c2 hb;have d0:=cbl d0 hb;have d1:=cbl d1 hb;have d2:=cbl d2 hb;have HBW:=aA HBW hb))
       have HB8:=hdd (HB.out.trans (HBW.mono HB.out.size));clear HBW HTA HTB HW6 D1 D2;rcases asX s 0 with hs0|hs0|hs0
       . have HF:Hid (RetK w (cmpD x y) (.returned (.int .i64 (-1))) _):=hdd ⟨by rw[h2];congr 2;omega,HB8.out⟩
         have hdA:decide (tm<tn)=false:=decide_eq_false (by omega);have hdB:decide (0<s)=false:=decide_eq_false (by omega);have hd1:(decide (tm<tn)==decide (0<s))=true:=by rw[hdA,hdB];rfl
         clear hdA hdB;clear h2;go_wp2
         all_goals first|(rename_i hq;rw[hd1]at hq;exact absurd hq (by decide))|(go_ret;exact HF.out)
       . exact absurd hs0 hz
       . have HF:Hid (RetK w (cmpD x y) (.returned (.int .i64 1)) _):=hdd ⟨by rw[h2];congr 2;omega,HB8.out⟩
         have hdA:decide (tm<tn)=false:=decide_eq_false (by omega);have hdB:decide (0<s)=true:=decide_eq_true hs0;have hd1:(decide (tm<tn)==decide (0<s))=false:=by rw[hdA,hdB];rfl
         clear hdA hdB;clear h2;go_wp2
         all_goals first|(rename_i hq;rw[hd1]at hq;exact absurd hq (by decide))|(go_ret;exact HF.out)
 . have h2:=HGT.out h
   have hne:(s != t)=true:=by simp;omega
   have HF:Hid (RetK w (cmpD x y) (.returned (.int .i64 1)) _):=hdd ⟨by rw[h2],HB3.out⟩;have h3:¬s<t:=by omega
   clear h2;go_wp2;go_ret;exact HF.out
end Go.Proofs.YtebocijmegkfgaaGreatDoor
