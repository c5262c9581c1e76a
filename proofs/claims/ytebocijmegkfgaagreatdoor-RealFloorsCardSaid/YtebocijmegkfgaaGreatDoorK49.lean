/- A part of the proof: contracts of functions and plain laws (FlrR). -/
import Derived.Test.YtebocijmegkfgaaGreatDoorK41
import Derived.Test.YtebocijmegkfgaaGreatDoorK44
import Derived.Test.YtebocijmegkfgaaGreatDoorK46
import Derived.Test.YtebocijmegkfgaaGreatDoorK48
set_option linter.unusedVariables false
set_option linter.unusedSimpArgs false
set_option linter.unnecessarySimpa false
set_option maxHeartbeats 25600000
set_option maxRecDepth 100000
namespace Go.Proofs.YtebocijmegkfgaaGreatDoor
open Go.RowKit Go.Maps Go.Stop Go.Extern
open Re (rat)
open Go.Act renaming put->atN
open Go.NoPanic renaming normal->atQ
open Go.RowKit.Below renaming refl->atO
open List renaming setIfInBounds_toArray->atJ,mem_cons_of_mem->atK,set_cons_zero->atL,set_cons_succ->atM,getElem?_cons_zero->atS,getElem?_cons_succ->atT,getElem?_toArray->atU
open Nat renaming le_trans->atP
theorem alP{w:World}{n:Int}(hT:Tab w)(htb:0<w.heap.size):
 Calls Tryz.prog 6 #[.int .i64 n] w (RetV w (.bool true)):=by
 have HA:=hdd (alive15 hT htb);by_cases g1:n<0
 . clear hT htb
   go_enter Tryz.func6,Tryz.ntmps6
   go_wp2_with fail
   refine HA.out.mono ?_;rintro e w2⟨rfl,hb⟩;have HB:=hdd hb;clear hb;go_wp2;go_ret;exact⟨rfl,HB.out⟩
 by_cases g2:1099511627776<n
 . clear hT htb
   go_enter Tryz.func6,Tryz.ntmps6
   go_wp2_with fail
   refine HA.out.mono ?_;rintro e w2⟨rfl,hb⟩;have HB:=hdd hb;clear hb;go_wp2;go_ret;exact⟨rfl,HB.out⟩
 obtain⟨N,hN⟩:∃N:Nat,n=(N:Int):=⟨n.toNat,by omega⟩;subst hN;have hn:N<=1099511627776:=by omega
 obtain⟨v,v0,vv,F1,F2,F3⟩:=am3 (n:=(N:Int)) (by omega);obtain⟨f1,f2,f3⟩:=ajZ (k:=(N:Int)) (by omega);have HFL:=hdd (And.intro f1 f2);have HN0:=hdd hn;have HF:=hdd (And.intro F1 (And.intro F2 F3));have HV:=hdd (And.intro v0 vv);have HT:=hdd (And.intro hT htb);have hcv:=fun w=>aoL (N:Int) w;clear hT htb hn f1 f2 f3 F1 F2 F3 v0 vv;go_enter Tryz.func6,Tryz.ntmps6
 go_wp2_with fail
 refine HA.out.mono ?_;rintro e w2⟨rfl,hb⟩;have HN:=hdd (aiI (w0:=w) (l:=[]) hb (fun p hp=>by cases hp) (by simp) HT.out.1 HT.out.2);clear hb HA;go_wp2_with fail
 refine HN.out.mono ?_;rintro e W1⟨g,rfl,hR⟩;dsimp only;have HC:=hdd (hR.of (v:=fl N) (by omega) HFL.out.1 HFL.out.2);clear hR HN;go_wp2_with fail
 refine HC.out.mono ?_;rintro e W2⟨i,rfl,hR⟩;have HC:=hdd (hR.sqrt (by omega) m0);clear hR;go_wp2_with fail
 refine HC.out.mono ?_;rintro e W3⟨j,rfl,hR⟩;obtain⟨w4,hw4,b4,hR⟩:=hR.boxA (numO g j);obtain⟨x0,x1,-,-⟩:=aB b4;have HC:=hdd (hR.floorR m0 HF.out.1);clear hR b4;go_wp2_with fail
 refine HC.out.mono ?_;rintro e w5⟨u5,A5,n5,c5,k,L5,rfl,hR,s5,hI5,hk⟩;obtain⟨w6,hw6,-,hR⟩:=hR.boxA (.cells #[.bool u5,.slice A5 n5 c5] 80);obtain⟨x0,x1,-,-⟩:=aB (hR.at (atK _ (s5 _ m0)));have HI5:=hdd hI5;have HK:=hdd hk;have S5:=hdd s5;have HC:=hdd (hR.neg (by omega) m0);clear hR hI5 hk s5;go_wp2_with fail
 refine HC.out.mono ?_;rintro e w7⟨m1',rfl,hR⟩;have HC:=hdd (hR.floorR m0 HF.out.2.1);clear hR;go_wp2_with fail
 refine HC.out.mono ?_;rintro e w8⟨u7,A7,n7,c7,m,L7,rfl,hR,s7,hI7,hm⟩;obtain⟨w9,hw9,-,hR⟩:=hR.boxA (.cells #[.bool u7,.slice A7 n7 c7] 80);have HOF:=hdd (ahU (w:=w9) (n:=N) (by have:=HN0.out;omega));have HI7:=hdd hI7;have HM:=hdd hm;have S7:=hdd s7;have HR9:=hdd hR;clear hR hI7 hm s7 HC x0 x1;go_wp2_with fail
 refine HOF.out.mono ?_;rintro e w10⟨hb10,v10,rfl,hz10⟩;obtain⟨u9,A9,n9,c9,rfl⟩:=hz10.shape;obtain⟨L9,hR,s9,hI9⟩:=HR9.out.keepI hb10 hz10;obtain⟨w11,hw11,-,hR⟩:=hR.boxA (.cells #[.bool u9,.slice A9 n9 c9] 80);obtain⟨LL,hR,M5,M7,M9,K5,K7,K9⟩:∃LL,Run (bs w) g 100 [] LL w11/\(w5.heap.size,.cells #[.bool u5,.slice A5 n5 c5] 80)∈LL/\(w8.heap.size,.cells #[.bool u7,.slice A7 n7 c7] 80)∈LL/\(w10.heap.size,.cells #[.bool u9,.slice A9 n9 c9] 80)∈LL/\KpI LL (.agg #[.bool u5,.slice A5 n5 c5]) k/\KpI LL (.agg #[.bool u7,.slice A7 n7 c7]) m/\KpI LL (.agg #[.bool u9,.slice A9 n9 c9]) (N:Int):=
  ⟨_,(hR.few (K':=[]) (fun p hp=>by cases hp)).more (by omega),atK _ (s9 _ (atK _ (S7.out _ m0))),atK _ (s9 _ m0),m0,HI5.out.mono fun p hp=>atK _ (s9 _ (atK _ (S7.out _ (atK _ hp)))),HI7.out.mono fun p hp=>atK _ (s9 _ (atK _ hp)),hI9.mono fun p hp=>atK _ hp⟩
 have HRN:=hdd hR;have HM5:=hdd M5;have HM7:=hdd M7;have HM9:=hdd M9;have HK5:=hdd K5;have HK7:=hdd K7;have HK9:=hdd K9;obtain⟨G0,G1,G2,G3,G4⟩:=aoY HV.out.1 HV.out.2 HK.out HM.out;have HG:=hdd (And.intro G0 (And.intro G1 (And.intro G2 (And.intro G3 G4))));have HKB:Hid (0<=k/\k<=1048576):=hdd ⟨G0,aoZ G0 G1 (by have:=HN0.out;omega)⟩;have HB11:=hdd hR.below;clear hR M5 M7 M9 K5 K7 K9 s9 hI9 S5 S7 HI5 HI7 HR9 hz10 hb10 HOF G0 G1 G2 G3 G4 HK HM HV
 go_upto_region 10 with fail
 obtain⟨p5,hp5⟩:∃p,w5.heap.size=p:=⟨_,rfl⟩;obtain⟨p7,hp7⟩:∃p,w8.heap.size=p:=⟨_,rfl⟩;obtain⟨p9,hp9⟩:∃p,w10.heap.size=p:=⟨_,rfl⟩;rw[hp5]at HM5|-;rw[hp7]at HM7|-;rw[hp9]at HM9|-;clear hp5 hp7 hp9 hw4 hw6 hw9 hw11
 go_cut [10] (fun qq wr=>∃(q:Nat) (u3:Bool) (A3:Option Addr) (n3 c3:Nat) (L3:List (Nat×Obj)),qq=.pointer (some ⟨q,0,none⟩)/\Hid (Run (bs w) g 100 [] L3 wr/\(∀p∈LL,p∈L3)/\(q,.cells #[.bool u3,.slice A3 n3 c3] 80)∈L3/\KpI L3 (.agg #[.bool u3,.slice A3 n3 c3]) (k+1)))
 case first=>
  rename_i J1 K1 hJ1 hK1;have HOF1:Hid (∀w',Calls Tryz.prog 32 #[.int .i64 (1:Nat)] w' (RetZ w'.heap.size w' (1:Nat))):=hdd fun w'=>ahU (by decide);have HADD:Hid (∀w' (r:Nat) (u1:Bool) (A1:Option Addr) (n1 c1:Nat) (Q:Nat->Prop),Below w11.heap.size w11 w'->w'.heap[r]? =some (.cells #[.bool u1,.slice A1 n1 c1] 80)->IntP Q w' (.agg #[.bool u1,.slice A1 n1 c1]) (1:Nat)->Calls Tryz.prog 33 #[.agg #[.bool u5,.slice A5 n5 c5],.slice (some ⟨r,0,none⟩) 1 1] w' (RetZ w'.heap.size w' (k+1))):=hdd fun w' r u1 A1 n1 c1 Q hb hr hv=>aeO ((HK5.out w11 HRN.out.kept).below hb) hr hv (by
   have h1:bits k.natAbs<=21:=am4 (by have:=HKB.out;omega);have h2:bits ((1:Nat):Int).natAbs=1:=by decide
   exact atP (Nat.add_le_add h1 (Nat.le_of_eq h2)) (by decide))
  have hbw:Below w11.heap.size w11 w11.drew:=(atO _ _).drew;have HS:Two p5 p5 (.cells #[.bool u5,.slice A5 n5 c5] 80) (.cells #[.bool u5,.slice A5 n5 c5] 80) w11.drew:=⟨aC (HRN.out.at HM5.out) hbw (aF (HRN.out.at HM5.out)),aC (HRN.out.at HM5.out) hbw (aF (HRN.out.at HM5.out))⟩;refine wp_region_noPanic ?_;refine mO (Two p5 p5 (.cells #[.bool u5,.slice A5 n5 c5] 80) (.cells #[.bool u5,.slice A5 n5 c5] 80)) 5 (by kernel_rfl) ?_;refine akM [(0,.agg #[.bool u5,.slice A5 n5 c5])] (by kernel_rfl) (by kernel_rfl) (by kernel_rfl) ?_ HS ?_
  . intro w' hSw
    obtain⟨q1,-⟩:=hSw;obtain⟨x0,x1,-,-⟩:=aB q1;simp only[akY,atU,atS,atT,Option.bind_some,atN,atJ,atL,atM];refine⟨?_,trivial⟩<;>(go_simp;all_goals rfl)
  simp only[akW,akX,atU,atS,atT,Option.bind_some,atN,atJ,atL,atM];generalize w11.drew=W at*;refine akO 1 4 (by kernel_rfl) ?_ ?_
  . refine⟨_,rfl,fun K' hK=> ?_⟩
    go_simp;refine(HOF1.out _).mono ?_;rintro r wn⟨hb,v1,rfl,hv1⟩;obtain⟨u1,A1,n1,c1,rfl⟩:=hv1.shape;replace HS:=HS.below hb;replace hbw:=aA hbw hb;have HV1:=hdd hv1;clear hb hv1;refine hK.out _ _ (fun _=>HS) ?_;clear hK
    try simp only[atN,atJ,atL,atM]
    generalize wn=W at*;refine akO 2 4 (by kernel_rfl) ?_ ?_
    . refine⟨_,rfl,fun K' hK=> ?_⟩
      obtain⟨wn,hwn,hb,hsn,on⟩:=pro1 W (.cells #[.bool u1,.slice A1 n1 c1] 80);go_simp
      try simp only[hwn]
      clear hwn;replace HV1:=hdd (HV1.out.below hb);replace HS:=HS.below hb;replace hbw:=aA hbw hb;have HR1:=hdd on;clear hb hsn on;refine hK.out _ _ (fun _=>HS) ?_;clear hK
      try simp only[atN,atJ,atL,atM]
      generalize W.heap.size=r1 at*;generalize wn=W at*;refine akO 3 4 (by kernel_rfl) ?_ ?_
      . refine⟨_,rfl,fun K' hK=> ?_⟩
        go_simp;refine(HADD.out _ _ _ _ _ _ _ hbw HR1.out HV1.out).mono ?_;rintro r wn⟨hb,v3,rfl,hz⟩;obtain⟨u3,A3,n3,c3,rfl⟩:=hz.shape;have HZ:=hdd (hz.weak (q:=fun b=>w11.heap.size<=b/\b<wn.heap.size) (fun b h1 h2=>⟨atP hbw.size h1,h2⟩));replace HV1:=hdd (HV1.out.below hb);replace HR1:=hdd (hbl HR1.out hb);replace HS:=HS.below hb;replace hbw:=aA hbw hb;clear hb hz;refine hK.out _ _ (fun _=>HS) ?_;clear hK
        try simp only[atN,atJ,atL,atM]
        generalize wn=W at*;refine fH 4 (by kernel_rfl) rfl fun K' hK=> ?_;obtain⟨wn,hwn,hb,hsn,on⟩:=pro1 W (.cells #[.bool false,.slice none 0 0] 80);go_simp
        try simp only[hwn]
        clear hwn;replace HZ:=hdd (HZ.out.weak (q:=fun b=>w11.heap.size<=b/\b≠W.heap.size) (fun b h1 _=>⟨h1.1,Nat.ne_of_lt h1.2⟩));have hqq:w11.heap.size<=W.heap.size:=hbw.size;replace HV1:=hdd (HV1.out.below hb);replace HR1:=hdd (hbl HR1.out hb);replace HZ:=hdd (HZ.out.below hb);replace HS:=HS.below hb;replace hbw:=aA hbw hb;have HQ:=hdd on;clear hb hsn on;refine hK.out _ _ (fun _=>HS) ?_;clear hK
        try simp only[atN,atJ,atL,atM]
        generalize W.heap.size=q at*;generalize wn=W at*;refine fH 5 (by kernel_rfl) rfl fun K' hK=> ?_;have hbE:Below w11.heap.size w11 ((W.setCell ⟨q,0,none⟩ (.bool u3)).setCell ⟨q,1,none⟩ (.slice A3 n3 c3)):=(hbw.setCell hqq _).setCell hqq _;have HX:=set2 HQ.out (.bool u3) (.slice A3 n3 c3);have HDE:IntP (fun b=>w11.heap.size<=b/\b≠q) ((W.setCell ⟨q,0,none⟩ (.bool u3)).setCell ⟨q,1,none⟩ (.slice A3 n3 c3)) (.agg #[.bool u3,.slice A3 n3 c3]) (k+1):=(HZ.out.setCell (fun b h=>h.2) _).setCell (fun b h=>h.2) _;obtain⟨e0,e1,e2,e3⟩:=aB HQ.out;obtain⟨wE,hwE⟩:∃u,((W.setCell ⟨q,0,none⟩ (.bool u3)).setCell ⟨q,1,none⟩ (.slice A3 n3 c3))=u:=⟨_,rfl⟩;rw[hwE]at hbE HX HDE;go_simp
        try simp only[hwE]
        clear hwE e0 e1 e2 e3;refine hK.out _ _ (fun h=>absurd rfl h) ?_;clear hK;refine oO (by kernel_rfl) ?_;refine atQ ?_
        try simp only[atN,atJ,atL,atM]
        obtain⟨L3,y1,y2,y3,y4⟩:=HRN.out.keepI2 hbE HX hqq HDE;have HREL:=hdd (And.intro y1 (And.intro y2 (And.intro y3 y4)));clear hbE HX HDE HZ HQ HS hbw y1 y2 y3 y4;refine hK1 _ _ (Met.intro (hJ1 _ _ ?_))
        (repeat apply Exists.intro)
        refine⟨?rel,rfl⟩
        case rel=>exact⟨q,u3,A3,n3,c3,L3,rfl,HREL⟩
      . refine⟨_,rfl,fun K' hK=> ?_⟩
        obtain⟨wn,hwn,hb,hsn,on⟩:=pro1 W (.cells #[.bool false,.slice none 0 0] 80);go_simp
        try simp only[hwn]
        clear hwn;have hqq:w11.heap.size<=W.heap.size:=hbw.size;replace HV1:=hdd (HV1.out.below hb);replace HR1:=hdd (hbl HR1.out hb);replace HS:=HS.below hb;replace hbw:=aA hbw hb;have HQ:=hdd on;clear hb hsn on;refine hK.out _ _ (fun _=>HS) ?_;clear hK
        try simp only[atN,atJ,atL,atM]
        generalize W.heap.size=q at*;generalize wn=W at*;refine fH 3 (by kernel_rfl) rfl fun K' hK=> ?_;go_simp;refine(HADD.out _ _ _ _ _ _ _ hbw HR1.out HV1.out).mono ?_;rintro r wn⟨hb,v3,rfl,hz⟩;obtain⟨u3,A3,n3,c3,rfl⟩:=hz.shape;have HZ:=hdd (hz.weak (q:=fun b=>w11.heap.size<=b/\b≠q) (fun b h1 _=>⟨atP hbw.size h1,fun e=>by have:=aF HQ.out;omega⟩));replace HV1:=hdd (HV1.out.below hb);replace HR1:=hdd (hbl HR1.out hb);replace HQ:=hdd (hbl HQ.out hb);replace HS:=HS.below hb;replace hbw:=aA hbw hb;clear hb hz;refine hK.out _ _ (fun _=>HS) ?_;clear hK
        try simp only[atN,atJ,atL,atM]
        generalize wn=W at*;refine fH 5 (by kernel_rfl) rfl fun K' hK=> ?_;have hbE:Below w11.heap.size w11 ((W.setCell ⟨q,0,none⟩ (.bool u3)).setCell ⟨q,1,none⟩ (.slice A3 n3 c3)):=(hbw.setCell hqq _).setCell hqq _;have HX:=set2 HQ.out (.bool u3) (.slice A3 n3 c3);have HDE:IntP (fun b=>w11.heap.size<=b/\b≠q) ((W.setCell ⟨q,0,none⟩ (.bool u3)).setCell ⟨q,1,none⟩ (.slice A3 n3 c3)) (.agg #[.bool u3,.slice A3 n3 c3]) (k+1):=(HZ.out.setCell (fun b h=>h.2) _).setCell (fun b h=>h.2) _;obtain⟨e0,e1,e2,e3⟩:=aB HQ.out;obtain⟨wE,hwE⟩:∃u,((W.setCell ⟨q,0,none⟩ (.bool u3)).setCell ⟨q,1,none⟩ (.slice A3 n3 c3))=u:=⟨_,rfl⟩;rw[hwE]at hbE HX HDE;go_simp
        try simp only[hwE]
        clear hwE e0 e1 e2 e3;refine hK.out _ _ (fun h=>absurd rfl h) ?_;clear hK;refine oO (by kernel_rfl) ?_;refine atQ ?_
        try simp only[atN,atJ,atL,atM]
        obtain⟨L3,y1,y2,y3,y4⟩:=HRN.out.keepI2 hbE HX hqq HDE;have HREL:=hdd (And.intro y1 (And.intro y2 (And.intro y3 y4)));clear hbE HX HDE HZ HQ HS hbw y1 y2 y3 y4;refine hK1 _ _ (Met.intro (hJ1 _ _ ?_))
        (repeat apply Exists.intro)
        refine⟨?rel,rfl⟩
        case rel=>exact⟨q,u3,A3,n3,c3,L3,rfl,HREL⟩
    . refine⟨_,rfl,fun K' hK=> ?_⟩
      obtain⟨wn,hwn,hb,hsn,on⟩:=pro1 W (.cells #[.bool false,.slice none 0 0] 80);go_simp
      try simp only[hwn]
      clear hwn;have hqq:w11.heap.size<=W.heap.size:=hbw.size;replace HV1:=hdd (HV1.out.below hb);replace HS:=HS.below hb;replace hbw:=aA hbw hb;have HQ:=hdd on;clear hb hsn on;refine hK.out _ _ (fun _=>HS) ?_;clear hK
      try simp only[atN,atJ,atL,atM]
      generalize W.heap.size=q at*;generalize wn=W at*;refine fH 2 (by kernel_rfl) rfl fun K' hK=> ?_;obtain⟨wn,hwn,hb,hsn,on⟩:=pro1 W (.cells #[.bool u1,.slice A1 n1 c1] 80);go_simp
      try simp only[hwn]
      clear hwn;replace HV1:=hdd (HV1.out.below hb);replace HQ:=hdd (hbl HQ.out hb);replace HS:=HS.below hb;replace hbw:=aA hbw hb;have HR1:=hdd on;clear hb hsn on;refine hK.out _ _ (fun _=>HS) ?_;clear hK
      try simp only[atN,atJ,atL,atM]
      generalize W.heap.size=r1 at*;generalize wn=W at*;refine fH 3 (by kernel_rfl) rfl fun K' hK=> ?_;go_simp;refine(HADD.out _ _ _ _ _ _ _ hbw HR1.out HV1.out).mono ?_;rintro r wn⟨hb,v3,rfl,hz⟩;obtain⟨u3,A3,n3,c3,rfl⟩:=hz.shape;have HZ:=hdd (hz.weak (q:=fun b=>w11.heap.size<=b/\b≠q) (fun b h1 _=>⟨atP hbw.size h1,fun e=>by have:=aF HQ.out;omega⟩));replace HV1:=hdd (HV1.out.below hb);replace HR1:=hdd (hbl HR1.out hb);replace HQ:=hdd (hbl HQ.out hb);replace HS:=HS.below hb;replace hbw:=aA hbw hb;clear hb hz;refine hK.out _ _ (fun _=>HS) ?_;clear hK
      try simp only[atN,atJ,atL,atM]
      generalize wn=W at*;refine fH 5 (by kernel_rfl) rfl fun K' hK=> ?_;have hbE:Below w11.heap.size w11 ((W.setCell ⟨q,0,none⟩ (.bool u3)).setCell ⟨q,1,none⟩ (.slice A3 n3 c3)):=(hbw.setCell hqq _).setCell hqq _;have HX:=set2 HQ.out (.bool u3) (.slice A3 n3 c3);have HDE:IntP (fun b=>w11.heap.size<=b/\b≠q) ((W.setCell ⟨q,0,none⟩ (.bool u3)).setCell ⟨q,1,none⟩ (.slice A3 n3 c3)) (.agg #[.bool u3,.slice A3 n3 c3]) (k+1):=(HZ.out.setCell (fun b h=>h.2) _).setCell (fun b h=>h.2) _;obtain⟨e0,e1,e2,e3⟩:=aB HQ.out;obtain⟨wE,hwE⟩:∃u,((W.setCell ⟨q,0,none⟩ (.bool u3)).setCell ⟨q,1,none⟩ (.slice A3 n3 c3))=u:=⟨_,rfl⟩;rw[hwE]at hbE HX HDE;go_simp
      try simp only[hwE]
      clear hwE e0 e1 e2 e3;refine hK.out _ _ (fun h=>absurd rfl h) ?_;clear hK;refine oO (by kernel_rfl) ?_;refine atQ ?_
      try simp only[atN,atJ,atL,atM]
      obtain⟨L3,y1,y2,y3,y4⟩:=HRN.out.keepI2 hbE HX hqq HDE;have HREL:=hdd (And.intro y1 (And.intro y2 (And.intro y3 y4)));clear hbE HX HDE HZ HQ HS hbw y1 y2 y3 y4;refine hK1 _ _ (Met.intro (hJ1 _ _ ?_))
      (repeat apply Exists.intro)
      refine⟨?rel,rfl⟩
      case rel=>exact⟨q,u3,A3,n3,c3,L3,rfl,HREL⟩
  . refine⟨_,rfl,fun K' hK=> ?_⟩
    obtain⟨wn,hwn,hb,hsn,on⟩:=pro1 W (.cells #[.bool false,.slice none 0 0] 80);go_simp
    try simp only[hwn]
    clear hwn;have hqq:w11.heap.size<=W.heap.size:=hbw.size;replace HS:=HS.below hb;replace hbw:=aA hbw hb;have HQ:=hdd on;clear hb hsn on;refine hK.out _ _ (fun _=>HS) ?_;clear hK
    try simp only[atN,atJ,atL,atM]
    generalize W.heap.size=q at*;generalize wn=W at*;refine fH 1 (by kernel_rfl) rfl fun K' hK=> ?_;go_simp;refine(HOF1.out _).mono ?_;rintro r wn⟨hb,v1,rfl,hv1⟩;obtain⟨u1,A1,n1,c1,rfl⟩:=hv1.shape;replace HQ:=hdd (hbl HQ.out hb);replace HS:=HS.below hb;replace hbw:=aA hbw hb;have HV1:=hdd hv1;clear hb hv1;refine hK.out _ _ (fun _=>HS) ?_;clear hK
    try simp only[atN,atJ,atL,atM]
    generalize wn=W at*;refine fH 2 (by kernel_rfl) rfl fun K' hK=> ?_;obtain⟨wn,hwn,hb,hsn,on⟩:=pro1 W (.cells #[.bool u1,.slice A1 n1 c1] 80);go_simp
    try simp only[hwn]
    clear hwn;replace HV1:=hdd (HV1.out.below hb);replace HQ:=hdd (hbl HQ.out hb);replace HS:=HS.below hb;replace hbw:=aA hbw hb;have HR1:=hdd on;clear hb hsn on;refine hK.out _ _ (fun _=>HS) ?_;clear hK
    try simp only[atN,atJ,atL,atM]
    generalize W.heap.size=r1 at*;generalize wn=W at*;refine fH 3 (by kernel_rfl) rfl fun K' hK=> ?_;go_simp;refine(HADD.out _ _ _ _ _ _ _ hbw HR1.out HV1.out).mono ?_;rintro r wn⟨hb,v3,rfl,hz⟩;obtain⟨u3,A3,n3,c3,rfl⟩:=hz.shape;have HZ:=hdd (hz.weak (q:=fun b=>w11.heap.size<=b/\b≠q) (fun b h1 _=>⟨atP hbw.size h1,fun e=>by have:=aF HQ.out;omega⟩));replace HV1:=hdd (HV1.out.below hb);replace HR1:=hdd (hbl HR1.out hb);replace HQ:=hdd (hbl HQ.out hb);replace HS:=HS.below hb;replace hbw:=aA hbw hb;clear hb hz;refine hK.out _ _ (fun _=>HS) ?_;clear hK
    try simp only[atN,atJ,atL,atM]
    generalize wn=W at*;refine fH 5 (by kernel_rfl) rfl fun K' hK=> ?_;have hbE:Below w11.heap.size w11 ((W.setCell ⟨q,0,none⟩ (.bool u3)).setCell ⟨q,1,none⟩ (.slice A3 n3 c3)):=(hbw.setCell hqq _).setCell hqq _;have HX:=set2 HQ.out (.bool u3) (.slice A3 n3 c3);have HDE:IntP (fun b=>w11.heap.size<=b/\b≠q) ((W.setCell ⟨q,0,none⟩ (.bool u3)).setCell ⟨q,1,none⟩ (.slice A3 n3 c3)) (.agg #[.bool u3,.slice A3 n3 c3]) (k+1):=(HZ.out.setCell (fun b h=>h.2) _).setCell (fun b h=>h.2) _;obtain⟨e0,e1,e2,e3⟩:=aB HQ.out;obtain⟨wE,hwE⟩:∃u,((W.setCell ⟨q,0,none⟩ (.bool u3)).setCell ⟨q,1,none⟩ (.slice A3 n3 c3))=u:=⟨_,rfl⟩;rw[hwE]at hbE HX HDE;go_simp
    try simp only[hwE]
    clear hwE e0 e1 e2 e3;refine hK.out _ _ (fun h=>absurd rfl h) ?_;clear hK;refine oO (by kernel_rfl) ?_;refine atQ ?_
    try simp only[atN,atJ,atL,atM]
    obtain⟨L3,y1,y2,y3,y4⟩:=HRN.out.keepI2 hbE HX hqq HDE;have HREL:=hdd (And.intro y1 (And.intro y2 (And.intro y3 y4)));clear hbE HX HDE HZ HQ HS hbw y1 y2 y3 y4;refine hK1 _ _ (Met.intro (hJ1 _ _ ?_))
    (repeat apply Exists.intro)
    refine⟨?rel,rfl⟩
    case rel=>exact⟨q,u3,A3,n3,c3,L3,rfl,HREL⟩
 case rest=>
 obtain⟨q,u3,A3,n3,c3,L3,rfl,HR⟩:=hcut;have HC:=hdd (HR.out.1.of (v:=fl N) (by omega) HFL.out.1 HFL.out.2);go_wp2_with fail
 refine HC.out.mono ?_;rintro e w13⟨i2,rfl,hR⟩;have HC:=hdd (hR.floorR m0 HF.out.2.2);clear hR;go_wp2_with fail
 refine HC.out.mono ?_;rintro e w14⟨u6,A6,n6,c6,z,L6,rfl,hR,s6,hI6,hz⟩;obtain rfl:=aoX hz;obtain⟨w15,hw15,B6,hR⟩:=hR.boxA (.cells #[.bool u6,.slice A6 n6 c6] 80);have B5:=hR.at (atK _ (s6 _ (HR.out.2.1 _ HM5.out)));have B7:=hR.at (atK _ (s6 _ (HR.out.2.1 _ HM7.out)));have B9:=hR.at (atK _ (s6 _ (HR.out.2.1 _ HM9.out)));have B3:=hR.at (atK _ (s6 _ HR.out.2.2.1));have I5:=hdd ((HK5.out.mono fun p hp=>atK (w14.heap.size,.cells #[.bool u6,.slice A6 n6 c6] 80) (s6 _ (HR.out.2.1 _ hp))) w15 hR.kept);have I7:=hdd ((HK7.out.mono fun p hp=>atK (w14.heap.size,.cells #[.bool u6,.slice A6 n6 c6] 80) (s6 _ (HR.out.2.1 _ hp))) w15 hR.kept);have I9:=hdd ((HK9.out.mono fun p hp=>atK (w14.heap.size,.cells #[.bool u6,.slice A6 n6 c6] 80) (s6 _ (HR.out.2.1 _ hp))) w15 hR.kept);have I3:=hdd ((HR.out.2.2.2.mono fun p hp=>atK (w14.heap.size,.cells #[.bool u6,.slice A6 n6 c6] 80) (s6 _ hp)) w15 hR.kept);have I6:=hdd ((hI6.mono fun p hp=>atK (w14.heap.size,.cells #[.bool u6,.slice A6 n6 c6] 80) hp) w15 hR.kept)
 have HB:=hdd hR.below;have B3:=hdd B3;have B5:=hdd B5;have B6:=hdd B6;have B7:=hdd B7;have B9:=hdd B9;clear hR hI6 s6 hz HC HR HM5 HM7 HM9 HK5 HK7 HK9 HRN HB11 HF HFL HT
 go_upto_region 12 with fail
 generalize w14.heap.size=p6 at*;clear hw15;have hbd:Below w15.heap.size w15 w15.drew:=(atO _ _).drew;have HBA:Hid (Below w15.heap.size w15 (w15.alloc (.cells #[.bool u5,.slice A5 n5 c5] 80)).drew):=hdd ((atO _ _).alloc nlr _).drew;have HBA2:Hid ((w15.alloc (.cells #[.bool u5,.slice A5 n5 c5] 80)).drew.heap[w15.heap.size]? =some (.cells #[.bool u5,.slice A5 n5 c5] 80 (0,0))):=hdd (heap_alloc_new w15 _);have HK21:Hid (bits k.natAbs<=21/\bits (k+1).natAbs<=21):=hdd ⟨am4 (by have:=HKB.out;omega),am4 (by have:=HKB.out;omega)⟩;have HMU:=hdd (aeP (I5.out.below HBA.out) HBA2.out (I5.out.below HBA.out) (by have:=HK21.out;omega));obtain⟨x50,x51,-,-⟩:=aB B5.out;have L5:=aF B5.out;have N5:w15.heap.size≠p5:=by omega
 have M5:p5≠w15.heap.size:=by omega
 obtain⟨x90,x91,-,-⟩:=aB B9.out;have L9:=aF B9.out;have N9:w15.heap.size≠p9:=by omega
 have M9:p9≠w15.heap.size:=by omega
 clear hbd
 go_region_held3 (fun w'=>w'.cell? ⟨p5,0,none⟩=some (.bool u5)/\w'.cell? ⟨p5,1,none⟩=some (.slice A5 n5 c5)/\w'.cell? ⟨p9,0,none⟩=some (.bool u9)/\w'.cell? ⟨p9,1,none⟩=some (.slice A9 n9 c9)) (go_keep)
  (first
  |(go_at_call 34
    refine HMU.out.mono ?_;rintro r w16⟨hb,v16,rfl,hz⟩;have HB16:Hid (Below w15.heap.size w15 w16):=hdd (HBA.out.trans (hb.mono HBA.out.size));have x50:=cbl x50 HB16.out;have x51:=cbl x51 HB16.out;have x90:=cbl x90 HB16.out;have x91:=cbl x91 HB16.out;have HCM:=hdd (aeQ hz (I9.out.below HB16.out));obtain⟨u16,A16,n16,c16,rfl⟩:=hz.shape;clear hb hz)
  |(go_at_call 35
    refine HCM.out.mono ?_;rintro r w17⟨rfl,hb⟩;have HB17:=hdd (HB16.out.trans (hb.mono HB16.out.size));have x50:=cbl x50 hb;have x51:=cbl x51 hb;have x90:=cbl x90 hb;have x91:=cbl x91 hb;clear hb))
 have HB:=hdd (HB.out.trans (HB17.out.mono HB.out.size));have I3:=hdd (I3.out.below HB17.out);have I5:=hdd (I5.out.below HB17.out);have I6:=hdd (I6.out.below HB17.out);have I7:=hdd (I7.out.below HB17.out);have I9:=hdd (I9.out.below HB17.out);have B3:=hdd (hbl B3.out HB17.out);have B5:=hdd (hbl B5.out HB17.out);have B6:=hdd (hbl B6.out HB17.out);have B7:=hdd (hbl B7.out HB17.out);have B9:=hdd (hbl B9.out HB17.out);clear HMU HCM HBA HBA2 HB16 HB17 L5 N5 M5 L9 N9 M9 x50 x51 x90 x91;obtain⟨cE,hcE⟩:∃c,cmpI (k*k) N=c:=⟨_,rfl⟩;rw[hcE];have HNT:=hdd (ahB I3.out);obtain⟨x30,x31,-,-⟩:=aB B3.out;go_wp2_with fail
 refine HNT.out.mono ?_;rintro e w18⟨hb18,v18,rfl,hz18⟩;obtain⟨u4,A4,n4,c4,rfl⟩:=hz18.shape;obtain⟨w19,hw19,hb19,hs19,B4⟩:=pro1 w18 (.cells #[.bool u4,.slice A4 n4 c4] 80);have hb1:=hb18.trans (hb19.mono hb18.size);have HP4:Hid (w17.heap.size<=w18.heap.size):=hdd hb18.size;have I4:=hdd (hz18.below hb19);have B4:=hdd B4;have HB19:=hdd hb1;clear hz18 hb18 hb19 hb1 hs19 HNT x30 x31;rcases Decidable.em (k*k=(N:Int))with hkk|hkk
 . have hc0:cE=0:=by rw[<-hcE,hkk];exact alI _
   clear hcE;subst hc0;have HNK:=hdd (ahB (I5.out.below HB19.out));have B5x:=hbl B5.out HB19.out;obtain⟨x50,x51,-,-⟩:=aB B5x;clear B5x;go_wp2_with fail
   refine HNK.out.mono ?_;rintro e w20⟨hb20,v20,rfl,hz20⟩;obtain⟨u4,A4,n4,c4,rfl⟩:=hz20.shape;have B20:=hbl B4.out hb20;have HB20:=HB19.out.trans (hb20.mono HB19.out.size);obtain⟨HFF,hF⟩:=dB HB20 HP4.out B20 hz20 (fun b hb=>by have:=aF B4.out;have:=HP4.out;omega);obtain⟨d0,d1,d2,d3⟩:=aB B20;obtain⟨HB21,v21,hv21,hz21⟩:=HFF.out;injection hv21 with hv21;subst hv21;rw[<-HG.out.2.2.2.1 hkk]at hz21;replace hF:=hdd hF;replace HB21:=hdd HB21;replace hz21:=hdd (hz21.weak (q:=AnyB) fun _ _ _=>trivial);clear B20 HB20 HFF hb20 hz20 I4 HNK B4 x50 x51 HB19 hw19
   go_upto_region 16 with fail
   clear d0 d1 d2 d3;generalize ((w20.setCell ⟨w18.heap.size,0,none⟩ (.bool u4)).setCell ⟨w18.heap.size,1,none⟩ (.slice A4 n4 c4))=W at*;generalize w18.heap.size=p4 at*;have HB:=hdd (HB.out.trans (HB21.out.mono HB.out.size));have I3:=hdd (I3.out.below HB21.out);have I5:=hdd (I5.out.below HB21.out);have I6:=hdd (I6.out.below HB21.out);have I7:=hdd (I7.out.below HB21.out);have I9:=hdd (I9.out.below HB21.out);have B3:=hdd (hbl B3.out HB21.out);have B5:=hdd (hbl B5.out HB21.out);have B6:=hdd (hbl B6.out HB21.out);have B7:=hdd (hbl B7.out HB21.out);have B9:=hdd (hbl B9.out HB21.out);have B4:=hF;have I4:=hz21;have HC1:Hid (cmpI (k*k) N<=0):=hdd (anA HG.out.2.1);have HC2:Hid (cmpI ((k+1)*(k+1)) N=1):=hdd (anB HG.out.2.2.1);have HC3:Hid (∀w',Below W.heap.size W w'->Calls Tryz.prog 35 #[.agg #[.bool u7,.slice A7 n7 c7],.agg #[.bool u4,.slice A4 n4 c4]] w' (RetK w' 0)):=hdd fun w' h=>by
    have:=aeQ (w:=w') (I7.out.below h) (I4.out.below h);rwa[alI]at this
   have HC4:Hid (∀w',Below W.heap.size W w'->Calls Tryz.prog 35 #[.agg #[.bool u6,.slice A6 n6 c6],.agg #[.bool u9,.slice A9 n9 c9]] w' (RetK w' 0)):=hdd fun w' h=>by
    have:=aeQ (w:=w') (I6.out.below h) (I9.out.below h);rwa[alI]at this
   have HIN:Hid (∀w',Calls Tryz.prog 38 #[.int .i64 (N:Int)] w' (amQ w'.heap.size w' (mkDy N 0))):=hdd fun w'=>amS (by omega) (by have:=HN0.out;omega);have HIS:Hid (∀w' v,Below W.heap.size W w'->DyC (fun _=>True) w' v (mkDy N 0)->Calls Tryz.prog 37 #[.agg #[.bool u6,.slice A6 n6 c6],v] w' (RetW w' true)):=hdd fun w' v h hv=>anC (I6.out.below h) hv (by have:=an2 HN0.out;omega);obtain⟨c1,hc1⟩:∃c,cmpI (k*k) (N:Int)=c:=⟨_,rfl⟩;obtain⟨c2,hc2⟩:∃c,cmpI ((k+1)*(k+1)) (N:Int)=c:=⟨_,rfl⟩;have hq1:c1<=0:=by rw[<-hc1];exact HC1.out
   have hq2:c2=1:=by rw[<-hc2];exact HC2.out
   have HE1:=hdd hc1;have HE2:=hdd hc2;clear hc1 hc2 HC1 HC2 hkk HG HB21 hF hz21;have HBA:Hid (Below W.heap.size W (W.alloc (.cells #[.bool u5,.slice A5 n5 c5] 80)).drew):=hdd ((atO _ _).alloc nlr _).drew;have HMU:Hid (Calls Tryz.prog 34 #[.agg #[.bool u5,.slice A5 n5 c5],.slice (some ⟨W.heap.size,0,none⟩) 1 1] (W.alloc (.cells #[.bool u5,.slice A5 n5 c5] 80)).drew (RetZ (W.alloc (.cells #[.bool u5,.slice A5 n5 c5] 80)).drew.heap.size (W.alloc (.cells #[.bool u5,.slice A5 n5 c5] 80)).drew (k*k))):=hdd (aeP (I5.out.below HBA.out) (heap_alloc_new W _) (I5.out.below HBA.out) (by have:=HK21.out;omega));obtain⟨x30,x31,-,-⟩:=aB B3.out;have L3:=aF B3.out;have N3:W.heap.size≠q:=by omega
   have M3:q≠W.heap.size:=by omega
   obtain⟨x40,x41,-,-⟩:=aB B4.out;have L4:=aF B4.out;have N4:W.heap.size≠p4:=by omega
   have M4:p4≠W.heap.size:=by omega
   obtain⟨x50,x51,-,-⟩:=aB B5.out;have L5:=aF B5.out;have N5:W.heap.size≠p5:=by omega
   have M5:p5≠W.heap.size:=by omega
   obtain⟨x60,x61,-,-⟩:=aB B6.out;have L6:=aF B6.out;have N6:W.heap.size≠p6:=by omega
   have M6:p6≠W.heap.size:=by omega
   obtain⟨x70,x71,-,-⟩:=aB B7.out;have L7:=aF B7.out;have N7:W.heap.size≠p7:=by omega
   have M7:p7≠W.heap.size:=by omega
   obtain⟨x90,x91,-,-⟩:=aB B9.out;have L9:=aF B9.out;have N9:W.heap.size≠p9:=by omega
   have M9:p9≠W.heap.size:=by omega
   have K1:True:=trivial;have K2:True:=trivial;have K3:True:=trivial;have K5:True:=trivial
   go_region_held3 (fun w'=>w'.cell? ⟨q,0,none⟩=some (.bool u3)/\w'.cell? ⟨q,1,none⟩=some (.slice A3 n3 c3)/\w'.cell? ⟨p4,0,none⟩=some (.bool u4)/\w'.cell? ⟨p4,1,none⟩=some (.slice A4 n4 c4)/\w'.cell? ⟨p5,0,none⟩=some (.bool u5)/\w'.cell? ⟨p5,1,none⟩=some (.slice A5 n5 c5)/\w'.cell? ⟨p6,0,none⟩=some (.bool u6)/\w'.cell? ⟨p6,1,none⟩=some (.slice A6 n6 c6)/\w'.cell? ⟨p7,0,none⟩=some (.bool u7)/\w'.cell? ⟨p7,1,none⟩=some (.slice A7 n7 c7)/\w'.cell? ⟨p9,0,none⟩=some (.bool u9)/\w'.cell? ⟨p9,1,none⟩=some (.slice A9 n9 c9)) (go_keep)
    (first
    |(go_at_call 34
      clear K5;refine HMU.out.mono ?_;rintro e' wm1⟨hb,v',hz⟩;obtain⟨rfl,hz⟩:=hz;have HBm1:Hid (Below W.heap.size W wm1):=hdd (HBA.out.trans (hb.mono HBA.out.size));have x30:=cbl x30 HBm1.out;have x31:=cbl x31 HBm1.out;have x40:=cbl x40 HBm1.out;have x41:=cbl x41 HBm1.out;have x50:=cbl x50 HBm1.out;have x51:=cbl x51 HBm1.out;have x60:=cbl x60 HBm1.out;have x61:=cbl x61 HBm1.out;have x70:=cbl x70 HBm1.out;have x71:=cbl x71 HBm1.out;have x90:=cbl x90 HBm1.out;have x91:=cbl x91 HBm1.out;have HCm1:=hdd (aeQ hz (I9.out.below HBm1.out));rw[HE1.out]at HCm1;obtain⟨ua,Aa,na,ca,rfl⟩:=hz.shape;clear hb hz)
    |(go_at_call 35
      clear K1;refine HCm1.out.mono ?_;rintro e' wc1⟨rfl,hb⟩;have HBc1:=hdd (HBm1.out.trans (hb.mono HBm1.out.size));have x30:=cbl x30 hb;have x31:=cbl x31 hb;have x40:=cbl x40 hb;have x41:=cbl x41 hb;have x50:=cbl x50 hb;have x51:=cbl x51 hb;have x60:=cbl x60 hb;have x61:=cbl x61 hb;have x70:=cbl x70 hb;have x71:=cbl x71 hb;have x90:=cbl x90 hb;have x91:=cbl x91 hb;have hsz':=HBc1.out.size;have Q3:wc1.heap.size≠q:=by omega
      have R3:q≠wc1.heap.size:=by omega
      have Q4:wc1.heap.size≠p4:=by omega
      have R4:p4≠wc1.heap.size:=by omega
      have Q5:wc1.heap.size≠p5:=by omega
      have R5:p5≠wc1.heap.size:=by omega
      have Q6:wc1.heap.size≠p6:=by omega
      have R6:p6≠wc1.heap.size:=by omega
      have Q7:wc1.heap.size≠p7:=by omega
      have R7:p7≠wc1.heap.size:=by omega
      have Q9:wc1.heap.size≠p9:=by omega
      have R9:p9≠wc1.heap.size:=by omega
      have HBA2:Hid (Below W.heap.size W (wc1.alloc (.cells #[.bool u3,.slice A3 n3 c3] 80))):=hdd (HBc1.out.alloc HBc1.out.size _);have HMU3:Hid (Calls Tryz.prog 34 #[.agg #[.bool u3,.slice A3 n3 c3],.slice (some ⟨wc1.heap.size,0,none⟩) 1 1] (wc1.alloc (.cells #[.bool u3,.slice A3 n3 c3] 80)) (RetZ (wc1.alloc (.cells #[.bool u3,.slice A3 n3 c3] 80)).heap.size (wc1.alloc (.cells #[.bool u3,.slice A3 n3 c3] 80)) ((k+1)*(k+1)))):=hdd (aeP (I3.out.below HBA2.out) (heap_alloc_new wc1 _) (I3.out.below HBA2.out) (by have:=HK21.out;omega));clear hb hsz')
    |(go_at_call 34
      refine HMU3.out.mono ?_;rintro e' wm2⟨hb,v',hz⟩;obtain⟨rfl,hz⟩:=hz;have HBm2:Hid (Below W.heap.size W wm2):=hdd (HBA2.out.trans (hb.mono HBA2.out.size));have hA0:Below wc1.heap.size wc1 (wc1.alloc (.cells #[.bool u3,.slice A3 n3 c3] 80)):=(atO _ _).alloc nlr _;have hbc:Below wc1.heap.size wc1 wm2:=hA0.trans (hb.mono hA0.size);have x30:=cbl x30 hbc;have x31:=cbl x31 hbc;have x40:=cbl x40 hbc;have x41:=cbl x41 hbc;have x50:=cbl x50 hbc;have x51:=cbl x51 hbc;have x60:=cbl x60 hbc;have x61:=cbl x61 hbc;have x70:=cbl x70 hbc;have x71:=cbl x71 hbc;have x90:=cbl x90 hbc;have x91:=cbl x91 hbc;have HCm2:=hdd (aeQ hz (I9.out.below HBm2.out));rw[HE2.out]at HCm2;obtain⟨ub,Ab,nb,cb,rfl⟩:=hz.shape;clear hb hz hbc hA0)
    |(go_at_call 35
      clear K2;refine HCm2.out.mono ?_;rintro e' wc2⟨rfl,hb⟩;have HBc2:=hdd (HBm2.out.trans (hb.mono HBm2.out.size));have x30:=cbl x30 hb;have x31:=cbl x31 hb;have x40:=cbl x40 hb;have x41:=cbl x41 hb;have x50:=cbl x50 hb;have x51:=cbl x51 hb;have x60:=cbl x60 hb;have x61:=cbl x61 hb;have x70:=cbl x70 hb;have x71:=cbl x71 hb;have x90:=cbl x90 hb;have x91:=cbl x91 hb;clear hb)
    |(go_at_call 35
      clear K3;refine(HC3.out _ HBc2.out).mono ?_;rintro e' wc3⟨rfl,hb⟩;have HBc3:=hdd (HBc2.out.trans (hb.mono HBc2.out.size));have x30:=cbl x30 hb;have x31:=cbl x31 hb;have x40:=cbl x40 hb;have x41:=cbl x41 hb;have x50:=cbl x50 hb;have x51:=cbl x51 hb;have x60:=cbl x60 hb;have x61:=cbl x61 hb;have x70:=cbl x70 hb;have x71:=cbl x71 hb;have x90:=cbl x90 hb;have x91:=cbl x91 hb;clear hb)
    |(go_at_call 35
      refine(HC4.out _ HBc3.out).mono ?_;rintro e' wc4⟨rfl,hb⟩;have HBc4:=hdd (HBc3.out.trans (hb.mono HBc3.out.size));have x30:=cbl x30 hb;have x31:=cbl x31 hb;have x40:=cbl x40 hb;have x41:=cbl x41 hb;have x50:=cbl x50 hb;have x51:=cbl x51 hb;have x60:=cbl x60 hb;have x61:=cbl x61 hb;have x70:=cbl x70 hb;have x71:=cbl x71 hb;have x90:=cbl x90 hb;have x91:=cbl x91 hb;clear hb)
    |(go_at_call 38
      refine(HIN.out _).mono ?_;rintro e' wi⟨hb,v',rfl,hz⟩;have HBi:=hdd (HBc4.out.trans (hb.mono HBc4.out.size));have x30:=cbl x30 hb;have x31:=cbl x31 hb;have x40:=cbl x40 hb;have x41:=cbl x41 hb;have x50:=cbl x50 hb;have x51:=cbl x51 hb;have x60:=cbl x60 hb;have x61:=cbl x61 hb;have x70:=cbl x70 hb;have x71:=cbl x71 hb;have x90:=cbl x90 hb;have x91:=cbl x91 hb;have HIi:=hdd (HIS.out _ _ HBi.out (hz.weak (q:=fun _=>True) fun _ _ _=>trivial));obtain⟨ui,Ai,ni,ci,yi,rfl,-⟩:=id hz;clear hb hz)
    |(go_at_call 37
      refine HIi.out.mono ?_;rintro e' ws⟨rfl,hb⟩;have HBs:=hdd (HBi.out.trans (hb.mono HBi.out.size));have x30:=cbl x30 hb;have x31:=cbl x31 hb;have x40:=cbl x40 hb;have x41:=cbl x41 hb;have x50:=cbl x50 hb;have x51:=cbl x51 hb;have x60:=cbl x60 hb;have x61:=cbl x61 hb;have x70:=cbl x70 hb;have x71:=cbl x71 hb;have x90:=cbl x90 hb;have x91:=cbl x91 hb;clear hb))
   have HBF:=hdd (HB.out.trans (HBs.out.mono HB.out.size));go_wp2;go_ret;exact⟨rfl,HBF.out⟩
 . have hc0:cE≠0:=by rw[<-hcE];exact ao0 hkk
   clear hcE;have hz21:=hdd (I4.out.weak (q:=AnyB) fun _ _ _=>trivial);rw[<-HG.out.2.2.2.2 hkk]at hz21;have hF:=B4;have HB21:=HB19;clear I4 B4 HB19
   go_upto_region 16 with fail
   clear hw19;generalize w19=W at*;generalize w18.heap.size=p4 at*;have HB:=hdd (HB.out.trans (HB21.out.mono HB.out.size));have I3:=hdd (I3.out.below HB21.out);have I5:=hdd (I5.out.below HB21.out);have I6:=hdd (I6.out.below HB21.out);have I7:=hdd (I7.out.below HB21.out);have I9:=hdd (I9.out.below HB21.out);have B3:=hdd (hbl B3.out HB21.out);have B5:=hdd (hbl B5.out HB21.out);have B6:=hdd (hbl B6.out HB21.out);have B7:=hdd (hbl B7.out HB21.out);have B9:=hdd (hbl B9.out HB21.out);have B4:=hF;have I4:=hz21;have HC1:Hid (cmpI (k*k) N<=0):=hdd (anA HG.out.2.1);have HC2:Hid (cmpI ((k+1)*(k+1)) N=1):=hdd (anB HG.out.2.2.1);have HC3:Hid (∀w',Below W.heap.size W w'->Calls Tryz.prog 35 #[.agg #[.bool u7,.slice A7 n7 c7],.agg #[.bool u4,.slice A4 n4 c4]] w' (RetK w' 0)):=hdd fun w' h=>by
    have:=aeQ (w:=w') (I7.out.below h) (I4.out.below h);rwa[alI]at this
   have HC4:Hid (∀w',Below W.heap.size W w'->Calls Tryz.prog 35 #[.agg #[.bool u6,.slice A6 n6 c6],.agg #[.bool u9,.slice A9 n9 c9]] w' (RetK w' 0)):=hdd fun w' h=>by
    have:=aeQ (w:=w') (I6.out.below h) (I9.out.below h);rwa[alI]at this
   have HIN:Hid (∀w',Calls Tryz.prog 38 #[.int .i64 (N:Int)] w' (amQ w'.heap.size w' (mkDy N 0))):=hdd fun w'=>amS (by omega) (by have:=HN0.out;omega);have HIS:Hid (∀w' v,Below W.heap.size W w'->DyC (fun _=>True) w' v (mkDy N 0)->Calls Tryz.prog 37 #[.agg #[.bool u6,.slice A6 n6 c6],v] w' (RetW w' true)):=hdd fun w' v h hv=>anC (I6.out.below h) hv (by have:=an2 HN0.out;omega);obtain⟨c1,hc1⟩:∃c,cmpI (k*k) (N:Int)=c:=⟨_,rfl⟩;obtain⟨c2,hc2⟩:∃c,cmpI ((k+1)*(k+1)) (N:Int)=c:=⟨_,rfl⟩;have hq1:c1<=0:=by rw[<-hc1];exact HC1.out
   have hq2:c2=1:=by rw[<-hc2];exact HC2.out
   have HE1:=hdd hc1;have HE2:=hdd hc2;clear hc1 hc2 HC1 HC2 hkk HG HB21 hF hz21;have HBA:Hid (Below W.heap.size W (W.alloc (.cells #[.bool u5,.slice A5 n5 c5] 80)).drew):=hdd ((atO _ _).alloc nlr _).drew;have HMU:Hid (Calls Tryz.prog 34 #[.agg #[.bool u5,.slice A5 n5 c5],.slice (some ⟨W.heap.size,0,none⟩) 1 1] (W.alloc (.cells #[.bool u5,.slice A5 n5 c5] 80)).drew (RetZ (W.alloc (.cells #[.bool u5,.slice A5 n5 c5] 80)).drew.heap.size (W.alloc (.cells #[.bool u5,.slice A5 n5 c5] 80)).drew (k*k))):=hdd (aeP (I5.out.below HBA.out) (heap_alloc_new W _) (I5.out.below HBA.out) (by have:=HK21.out;omega));obtain⟨x30,x31,-,-⟩:=aB B3.out;have L3:=aF B3.out;have N3:W.heap.size≠q:=by omega
   have M3:q≠W.heap.size:=by omega
   obtain⟨x40,x41,-,-⟩:=aB B4.out;have L4:=aF B4.out;have N4:W.heap.size≠p4:=by omega
   have M4:p4≠W.heap.size:=by omega
   obtain⟨x50,x51,-,-⟩:=aB B5.out;have L5:=aF B5.out;have N5:W.heap.size≠p5:=by omega
   have M5:p5≠W.heap.size:=by omega
   obtain⟨x60,x61,-,-⟩:=aB B6.out;have L6:=aF B6.out;have N6:W.heap.size≠p6:=by omega
   have M6:p6≠W.heap.size:=by omega
   obtain⟨x70,x71,-,-⟩:=aB B7.out;have L7:=aF B7.out;have N7:W.heap.size≠p7:=by omega
   have M7:p7≠W.heap.size:=by omega
   obtain⟨x90,x91,-,-⟩:=aB B9.out;have L9:=aF B9.out;have N9:W.heap.size≠p9:=by omega
   have M9:p9≠W.heap.size:=by omega
   have K1:True:=trivial;have K2:True:=trivial;have K3:True:=trivial;have K5:True:=trivial
   go_region_held3 (fun w'=>w'.cell? ⟨q,0,none⟩=some (.bool u3)/\w'.cell? ⟨q,1,none⟩=some (.slice A3 n3 c3)/\w'.cell? ⟨p4,0,none⟩=some (.bool u4)/\w'.cell? ⟨p4,1,none⟩=some (.slice A4 n4 c4)/\w'.cell? ⟨p5,0,none⟩=some (.bool u5)/\w'.cell? ⟨p5,1,none⟩=some (.slice A5 n5 c5)/\w'.cell? ⟨p6,0,none⟩=some (.bool u6)/\w'.cell? ⟨p6,1,none⟩=some (.slice A6 n6 c6)/\w'.cell? ⟨p7,0,none⟩=some (.bool u7)/\w'.cell? ⟨p7,1,none⟩=some (.slice A7 n7 c7)/\w'.cell? ⟨p9,0,none⟩=some (.bool u9)/\w'.cell? ⟨p9,1,none⟩=some (.slice A9 n9 c9)) (go_keep)
    (first
    |(go_at_call 34
      clear K5;refine HMU.out.mono ?_;rintro e' wm1⟨hb,v',hz⟩;obtain⟨rfl,hz⟩:=hz;have HBm1:Hid (Below W.heap.size W wm1):=hdd (HBA.out.trans (hb.mono HBA.out.size));have x30:=cbl x30 HBm1.out;have x31:=cbl x31 HBm1.out;have x40:=cbl x40 HBm1.out;have x41:=cbl x41 HBm1.out;have x50:=cbl x50 HBm1.out;have x51:=cbl x51 HBm1.out;have x60:=cbl x60 HBm1.out;have x61:=cbl x61 HBm1.out;have x70:=cbl x70 HBm1.out;have x71:=cbl x71 HBm1.out;have x90:=cbl x90 HBm1.out;have x91:=cbl x91 HBm1.out;have HCm1:=hdd (aeQ hz (I9.out.below HBm1.out));rw[HE1.out]at HCm1;obtain⟨ua,Aa,na,ca,rfl⟩:=hz.shape;clear hb hz)
    |(go_at_call 35
      clear K1;refine HCm1.out.mono ?_;rintro e' wc1⟨rfl,hb⟩;have HBc1:=hdd (HBm1.out.trans (hb.mono HBm1.out.size));have x30:=cbl x30 hb;have x31:=cbl x31 hb;have x40:=cbl x40 hb;have x41:=cbl x41 hb;have x50:=cbl x50 hb;have x51:=cbl x51 hb;have x60:=cbl x60 hb;have x61:=cbl x61 hb;have x70:=cbl x70 hb;have x71:=cbl x71 hb;have x90:=cbl x90 hb;have x91:=cbl x91 hb;have hsz':=HBc1.out.size;have Q3:wc1.heap.size≠q:=by omega
      have R3:q≠wc1.heap.size:=by omega
      have Q4:wc1.heap.size≠p4:=by omega
      have R4:p4≠wc1.heap.size:=by omega
      have Q5:wc1.heap.size≠p5:=by omega
      have R5:p5≠wc1.heap.size:=by omega
      have Q6:wc1.heap.size≠p6:=by omega
      have R6:p6≠wc1.heap.size:=by omega
      have Q7:wc1.heap.size≠p7:=by omega
      have R7:p7≠wc1.heap.size:=by omega
      have Q9:wc1.heap.size≠p9:=by omega
      have R9:p9≠wc1.heap.size:=by omega
      have HBA2:Hid (Below W.heap.size W (wc1.alloc (.cells #[.bool u3,.slice A3 n3 c3] 80))):=hdd (HBc1.out.alloc HBc1.out.size _);have HMU3:Hid (Calls Tryz.prog 34 #[.agg #[.bool u3,.slice A3 n3 c3],.slice (some ⟨wc1.heap.size,0,none⟩) 1 1] (wc1.alloc (.cells #[.bool u3,.slice A3 n3 c3] 80)) (RetZ (wc1.alloc (.cells #[.bool u3,.slice A3 n3 c3] 80)).heap.size (wc1.alloc (.cells #[.bool u3,.slice A3 n3 c3] 80)) ((k+1)*(k+1)))):=hdd (aeP (I3.out.below HBA2.out) (heap_alloc_new wc1 _) (I3.out.below HBA2.out) (by have:=HK21.out;omega));clear hb hsz')
    |(go_at_call 34
      refine HMU3.out.mono ?_;rintro e' wm2⟨hb,v',hz⟩;obtain⟨rfl,hz⟩:=hz;have HBm2:Hid (Below W.heap.size W wm2):=hdd (HBA2.out.trans (hb.mono HBA2.out.size));have hA0:Below wc1.heap.size wc1 (wc1.alloc (.cells #[.bool u3,.slice A3 n3 c3] 80)):=(atO _ _).alloc nlr _;have hbc:Below wc1.heap.size wc1 wm2:=hA0.trans (hb.mono hA0.size);have x30:=cbl x30 hbc;have x31:=cbl x31 hbc;have x40:=cbl x40 hbc;have x41:=cbl x41 hbc;have x50:=cbl x50 hbc;have x51:=cbl x51 hbc;have x60:=cbl x60 hbc;have x61:=cbl x61 hbc;have x70:=cbl x70 hbc;have x71:=cbl x71 hbc;have x90:=cbl x90 hbc;have x91:=cbl x91 hbc;have HCm2:=hdd (aeQ hz (I9.out.below HBm2.out));rw[HE2.out]at HCm2;obtain⟨ub,Ab,nb,cb,rfl⟩:=hz.shape;clear hb hz hbc hA0)
    |(go_at_call 35
      clear K2;refine HCm2.out.mono ?_;rintro e' wc2⟨rfl,hb⟩;have HBc2:=hdd (HBm2.out.trans (hb.mono HBm2.out.size));have x30:=cbl x30 hb;have x31:=cbl x31 hb;have x40:=cbl x40 hb;have x41:=cbl x41 hb;have x50:=cbl x50 hb;have x51:=cbl x51 hb;have x60:=cbl x60 hb;have x61:=cbl x61 hb;have x70:=cbl x70 hb;have x71:=cbl x71 hb;have x90:=cbl x90 hb;have x91:=cbl x91 hb;clear hb)
    |(go_at_call 35
      clear K3;refine(HC3.out _ HBc2.out).mono ?_;rintro e' wc3⟨rfl,hb⟩;have HBc3:=hdd (HBc2.out.trans (hb.mono HBc2.out.size));have x30:=cbl x30 hb;have x31:=cbl x31 hb;have x40:=cbl x40 hb;have x41:=cbl x41 hb;have x50:=cbl x50 hb;have x51:=cbl x51 hb;have x60:=cbl x60 hb;have x61:=cbl x61 hb;have x70:=cbl x70 hb;have x71:=cbl x71 hb;have x90:=cbl x90 hb;have x91:=cbl x91 hb;clear hb)
    |(go_at_call 35
      refine(HC4.out _ HBc3.out).mono ?_;rintro e' wc4⟨rfl,hb⟩;have HBc4:=hdd (HBc3.out.trans (hb.mono HBc3.out.size));have x30:=cbl x30 hb;have x31:=cbl x31 hb;have x40:=cbl x40 hb;have x41:=cbl x41 hb;have x50:=cbl x50 hb;have x51:=cbl x51 hb;have x60:=cbl x60 hb;have x61:=cbl x61 hb;have x70:=cbl x70 hb;have x71:=cbl x71 hb;have x90:=cbl x90 hb;have x91:=cbl x91 hb;clear hb)
    |(go_at_call 38
      refine(HIN.out _).mono ?_;rintro e' wi⟨hb,v',rfl,hz⟩;have HBi:=hdd (HBc4.out.trans (hb.mono HBc4.out.size));have x30:=cbl x30 hb;have x31:=cbl x31 hb;have x40:=cbl x40 hb;have x41:=cbl x41 hb;have x50:=cbl x50 hb;have x51:=cbl x51 hb;have x60:=cbl x60 hb;have x61:=cbl x61 hb;have x70:=cbl x70 hb;have x71:=cbl x71 hb;have x90:=cbl x90 hb;have x91:=cbl x91 hb;have HIi:=hdd (HIS.out _ _ HBi.out (hz.weak (q:=fun _=>True) fun _ _ _=>trivial));obtain⟨ui,Ai,ni,ci,yi,rfl,-⟩:=id hz;clear hb hz)
    |(go_at_call 37
      refine HIi.out.mono ?_;rintro e' ws⟨rfl,hb⟩;have HBs:=hdd (HBi.out.trans (hb.mono HBi.out.size));have x30:=cbl x30 hb;have x31:=cbl x31 hb;have x40:=cbl x40 hb;have x41:=cbl x41 hb;have x50:=cbl x50 hb;have x51:=cbl x51 hb;have x60:=cbl x60 hb;have x61:=cbl x61 hb;have x70:=cbl x70 hb;have x71:=cbl x71 hb;have x90:=cbl x90 hb;have x91:=cbl x91 hb;clear hb))
   have HBF:=hdd (HB.out.trans (HBs.out.mono HB.out.size));go_wp2;go_ret;exact⟨rfl,HBF.out⟩
end Go.Proofs.YtebocijmegkfgaaGreatDoor
