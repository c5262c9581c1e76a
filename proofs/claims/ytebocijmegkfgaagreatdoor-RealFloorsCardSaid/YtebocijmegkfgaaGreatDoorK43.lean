/- A part of the proof: contracts of functions and plain laws (FlrJ). -/
import Derived.Test.YtebocijmegkfgaaGreatDoorK41
import Derived.Test.YtebocijmegkfgaaGreatDoorK42
import Derived.Test.YtebocijmegkfgaaGreatDoorK29
set_option linter.unusedVariables false
set_option linter.unusedSimpArgs false
set_option linter.unnecessarySimpa false
set_option maxHeartbeats 25600000
set_option maxRecDepth 100000
namespace Go.Proofs.YtebocijmegkfgaaGreatDoor
open Go.RowKit Go.Maps
open Re (rat)
open Go.Act renaming put->aqL
open Go.NoPanic renaming normal->aqO
open Go.RowKit.Below renaming refl->aqN
open List renaming setIfInBounds_toArray->aqE,set_cons_zero->aqF,set_cons_succ->aqG,getElem?_cons_zero->aqI,getElem?_cons_succ->aqJ,getElem?_toArray->aqK
open Nat renaming lt_of_lt_of_le->aqH,le_trans->aqP,le_antisymm->aqQ,lt_or_ge->aqR,ne_of_lt->aqS
open Option renaming bind_some->aqM
variable{d:Dy}{z:Int}{g:Nat}{p:Nat->Prop}{v:Re}{w:World}
theorem akZ{q:Nat->Prop}{v:Value}(h:DyP p w v d)(hp:∀b,p b->b≠g)(x0 x1 x2:Value)(hq:∀b,p b->q b):DyP q (((w.setCell ⟨g,0,none⟩ x0).setCell ⟨g,1,none⟩ x1).setCell ⟨g,2,none⟩ x2) v d:=by
 obtain⟨b,A,n,c,rfl,h⟩:=h;exact⟨b,A,n,c,rfl,(((h.setCell hp _).setCell hp _).setCell hp _).weak fun b h _=>hq b h⟩
def al9(w:World)(v:Re)(z:Int)(e:Ending)(w':World):Prop:=Below w.heap.size w w'/\∃c,e=.returned (.tuple #[.int .i64 c,.bool true])/\CmpR c v (rat (z:Rat))
theorem am1{c:Int}{T:Nat}(hU:U74=2^T)(h:CmpR c (v*Re.ofN U74) (Re.ofI (z*((2^T:Nat):Int)))):CmpR c v (rat (z:Rat)):=by
 have hp:=Re.le_of_lt kW;have e:Re.ofI (z*((2^T:Nat):Int))=rat (z:Rat)*Re.ofN U74:=by rw[Re.ofI_mul,hU];rfl
 rw[e]at h;rcases h with ⟨rfl,h⟩|⟨rfl,h⟩|⟨rfl,h⟩
 . exact Or.inl ⟨rfl,Re.not_le.1 fun k=>Re.not_le.2 h (Re.mul_le_mul_right hp k)⟩
 . exact Or.inr (Or.inl ⟨rfl,Re.not_le.1 fun k=>Re.not_le.2 h (Re.mul_le_mul_right hp k)⟩)
 . exact Or.inr (Or.inr ⟨rfl,Re.le_antisymm (Re.le_of_mul_pos kW (by rw[h];exact Re.le_refl _)) (Re.le_of_mul_pos kW (by rw[h];exact Re.le_refl _))⟩)
theorem aoV(h:bits z.natAbs<=45):SmQ (mkDy z 0):=by
 by_cases h0:z=0
 . rw[h0,aR];exact⟨by decide,by decide,by decide⟩
 . obtain⟨q1,q2,q3,-,-⟩:=alB h0 (by omega)
   exact⟨by omega,by omega,by omega⟩
theorem anI(hc:Canon d)(h:SmD d):SmD (notD d):=by
 have hm:(notD d).man.natAbs=d.man.natAbs/\(notD d).exp=d.exp:=by
  have hc':=hc;unfold Canon at hc';by_cases h0:d.man=0
  . have:d.exp=0:=by rw[<-hc',h0,aR]
    unfold notD;rw[h0,this];exact⟨rfl,rfl⟩
  . obtain⟨j,j1,j2,j3,-⟩:=gK d.man d.exp h0
    obtain⟨i,i1,i2,i3,-⟩:=gK (-d.man) d.exp (by omega);rw[hc']at j1 j2 j3;have hj:j=0:=by omega
    have hi:=rT (a:=-d.man) (b:=(mkDy (-d.man) d.exp).man) (j:=0) (k:=i) (by omega) i3 (by simpa using i1);unfold notD;exact⟨by rw[<-hi.1];omega,by rw[i2,<-hi.2];omega⟩
 exact⟨by rw[hm.1];exact h.1,by rw[hm.2];exact h.2⟩
theorem amL{i j K:Nat}{ns:List Nd}{x:Ex}{vz:Value}(hd:DagP w g ns)(ok:OkNs ns)(hlf:gD ns)(hro:gF ns)(hI:Is ns x i)(hG:Gd K j x v)(hz:IntP p w vz z)(hT:Tab w)(hb:bits z.natAbs<=45)
 (hsp:sepZ x z K<=32768) (hW:∃b M W,dA x (32*2^j)=some b/\Acc M W b/\((sepZ x z K+1:Nat):Int)<=W):
 Calls Tryz.prog 71 #[numV g i,vz] w (al9 w v z):=by
 obtain⟨vm,xs,rfl,z1,z2,z3⟩:=hz;obtain⟨A,c,rfl,-,-,-,-⟩:=id z1;obtain⟨w2,hw2,hb2,hs2,o1,o2⟩:=pro2 w (.cells #[.pointer (some ⟨g,0,none⟩),.int .i64 (i:Int)] 32) (.cells #[.bool (decide (z<0)),.slice A xs.length c] 80);have HDG:=hdd (And.intro hd (And.intro ok (And.intro hlf (And.intro hro hI))));have HG:=hdd hG;have HT:=hdd hT;have HB0:=hdd hb;have HSP:=hdd hsp;have HW:=hdd hW;have HB:=hdd hb2;have HZ:Hid (IntP p w2 (.agg #[.bool (decide (z<0)),.slice A xs.length c]) z/\NatP p w2 (.slice A xs.length c) xs/\val xs=z.natAbs):=hdd ⟨⟨_,xs,rfl,z1.below hb2,z2,z3⟩,z1.below hb2,z3⟩;obtain⟨n,hn⟩:∃n,xs.length=n:=⟨_,rfl⟩;obtain⟨B0,hB0⟩:∃b,decide (z<0)=b:=⟨_,rfl⟩;rw[hn,hB0]at o2 hw2 HZ|-;have O1:=hdd o1;have O2:=hdd o2;have HS2:=hdd hs2;clear hd ok hlf hro hI hG z1 z2 z3 hT hb hsp hW hb2 hs2 hn hB0 o1 o2;go_enter Tryz.func71,Tryz.ntmps71
 go_upto_region 1 with fail
 go_cut [6,7] (fun pp bb wr=>∃(q:Nat) (b6:Bool) (A6:Option Addr) (n6 c6:Nat),pp=.pointer (some ⟨q,0,none⟩)/\bb=.int .i64 (bits z.natAbs:Nat)/\Hid (Below w2.heap.size w2 wr/\wr.heap[q]? =some (.cells #[.bool b6,.slice A6 n6 c6,.int .i64 (mkDy z 0).exp] 121)/\w2.heap.size<=q/\DyP (fun b=>w2.heap.size<=b) wr (.agg #[.bool b6,.slice A6 n6 c6,.int .i64 (mkDy z 0).exp]) (mkDy z 0)))
 case first=>
  have HMK:Hid (∀w',Below w2.heap.size w2 w'->Calls Tryz.prog 69 #[.agg #[.bool B0,.slice A n c],.int .i64 0] w' (RetD w'.heap.size w' (mkDy z 0))):=hdd fun w' h=>bW (HZ.out.1.below h) ((HT.out.below HB.out).below h) (by have:=HB0.out;omega) (by decide);have HBI:Hid (∀w',Below w2.heap.size w2 w'->Calls Tryz.prog 112 #[.slice A n c] w' (RetI w' (bits z.natAbs:Nat))):=hdd fun w' h=>by
   have:=cK (HZ.out.2.1.below h);rwa[HZ.out.2.2]at this
  rename_i J1 K1 hJ1 hK1;have hbd:Below w2.heap.size w2 w2.drew:=(aqN _ _).drew;have HS:Two (w.heap.size+1) (w.heap.size+1) (.cells #[.bool B0,.slice A n c] 80) (.cells #[.bool B0,.slice A n c] 80) w2.drew:=⟨hbl O2.out hbd,hbl O2.out hbd⟩;refine wp_region_noPanic ?_;refine mO (Two (w.heap.size+1) (w.heap.size+1) (.cells #[.bool B0,.slice A n c] 80) (.cells #[.bool B0,.slice A n c] 80)) 7 (by kernel_rfl) ?_;refine akM [(0,.agg #[.bool B0,.slice A n c]),(2,.pointer (some ⟨w.heap.size+1,1,none⟩)),(3,.slice A n c)] (by kernel_rfl) (by kernel_rfl) (by kernel_rfl) ?_ HS ?_
  . intro w' hSw
    obtain⟨q1,-⟩:=hSw;obtain⟨x0,x1,-,-⟩:=aB q1;simp only[akY,aqK,aqI,aqJ,aqM,aqL,aqE,aqF,aqG];refine⟨?_,?_,?_,trivial⟩<;>(go_simp;all_goals rfl)
  simp only[akW,akX,aqK,aqI,aqJ,aqM,aqL,aqE,aqF,aqG];have hbw:=hbd;clear hbd;generalize w2.drew=W at*;refine akO 1 5 (by kernel_rfl) ?_ ?_
  . refine⟨_,rfl,fun K' hK=> ?_⟩
    go_simp;refine(HMK.out _ hbw).mono ?_;rintro r wn⟨hb,v6,rfl,hv6⟩;have HDN:=hv6.weak (q:=fun b=>w2.heap.size<=b/\b<wn.heap.size) (fun b h1 h2=>⟨aqP hbw.size h1,h2⟩);obtain⟨b6,A6,n6,c6,rfl,-⟩:=id hv6;have HD:=hdd HDN;replace HS:=HS.below hb;replace hbw:=aA hbw hb;clear hb hv6 HDN;refine hK.out _ _ (fun _=>HS) ?_;clear hK
    try simp only[aqL,aqE,aqF,aqG]
    generalize wn=W at*;refine akO 4 5 (by kernel_rfl) ?_ ?_
    . refine⟨_,rfl,fun K' hK=> ?_⟩
      go_simp;refine(HBI.out _ hbw).mono ?_;rintro r wn⟨rfl,kd,hkd⟩;have hb:=below_drewN W kd;rw[<-hkd]at hb;clear hkd;replace HD:=hdd (DyP.weak (HD.out.below hb) (q:=fun b=>w2.heap.size<=b/\b<wn.heap.size) (fun b h1 _=>⟨h1.1,aqH h1.2 hb.size⟩));replace HS:=HS.below hb;replace hbw:=aA hbw hb;clear hb;refine hK.out _ _ (fun _=>HS) ?_;clear hK
      try simp only[aqL,aqE,aqF,aqG]
      generalize wn=W at*;refine fH 5 (by kernel_rfl) rfl fun K' hK=> ?_;obtain⟨wn,hwn,hb,hsn,on⟩:=pro1 W (.cells #[.bool false,.slice none 0 0,.int .i64 0] 121);go_simp
      try simp only[hwn]
      clear hwn;replace HD:=hdd (DyP.weak (HD.out.below hb) (q:=fun b=>w2.heap.size<=b/\b≠W.heap.size) (fun b h1 _=>⟨h1.1,aqS h1.2⟩));have HQ:=hdd on;have hqq:w2.heap.size<=W.heap.size:=hbw.size;replace HS:=HS.below hb;replace hbw:=aA hbw hb;clear hb hsn on;refine hK.out _ _ (fun _=>HS) ?_;clear hK
      try simp only[aqL,aqE,aqF,aqG]
      generalize W.heap.size=q at*;generalize wn=W at*;refine fH 6 (by kernel_rfl) rfl fun K' hK=> ?_;have hbE:Below w2.heap.size w2 (((W.setCell ⟨q,0,none⟩ (.bool b6)).setCell ⟨q,1,none⟩ (.slice A6 n6 c6)).setCell ⟨q,2,none⟩ (.int .i64 (mkDy z 0).exp)):=((hbw.setCell hqq _).setCell hqq _).setCell hqq _;have hbE2:Below (w.heap.size+2) W (((W.setCell ⟨q,0,none⟩ (.bool b6)).setCell ⟨q,1,none⟩ (.slice A6 n6 c6)).setCell ⟨q,2,none⟩ (.int .i64 (mkDy z 0).exp)):=(((aqN _ _).setCell (by have:=HS2.out;show _<=q;omega) _).setCell (by have:=HS2.out;show _<=q;omega) _).setCell (by have:=HS2.out;show _<=q;omega) _;have HX:=set3 HQ.out (.bool b6) (.slice A6 n6 c6) (.int .i64 (mkDy z 0).exp);have HDE:DyP (fun b=>w2.heap.size<=b) (((W.setCell ⟨q,0,none⟩ (.bool b6)).setCell ⟨q,1,none⟩ (.slice A6 n6 c6)).setCell ⟨q,2,none⟩ (.int .i64 (mkDy z 0).exp)) (.agg #[.bool b6,.slice A6 n6 c6,.int .i64 (mkDy z 0).exp]) (mkDy z 0):=akZ HD.out (fun b h=>h.2) _ _ _ (fun b h=>h.1);obtain⟨e0,e1,e2,e3,e4,e5⟩:=cells3 HQ.out
      obtain⟨wE,hwE⟩:∃u,(((W.setCell ⟨q,0,none⟩ (.bool b6)).setCell ⟨q,1,none⟩ (.slice A6 n6 c6)).setCell ⟨q,2,none⟩ (.int .i64 (mkDy z 0).exp))=u:=⟨_,rfl⟩;rw[hwE]at hbE hbE2 HX HDE;go_simp
      try simp only[hwE]
      replace HS:Two (w.heap.size+1) (w.heap.size+1) (.cells #[.bool B0,.slice A n c] 80) (.cells #[.bool B0,.slice A n c] 80) wE:=⟨(hbE2.block _ (by omega)).trans HS.1,(hbE2.block _ (by omega)).trans HS.2⟩;clear hwE e0 e1 e2 e3 e4 e5 hbE2;refine hK.out _ _ (fun _=>HS) ?_;clear hK
      try simp only[aqL,aqE,aqF,aqG]
      refine fH 7 (by kernel_rfl) rfl fun K' hK=> ?_;go_simp;refine hK.out _ _ (fun h=>absurd rfl h) ?_;clear hK;refine oO (by kernel_rfl) ?_;refine aqO ?_
      try simp only[aqL,aqE,aqF,aqG]
      have HREL:=hdd (And.intro hbE (And.intro HX (And.intro hqq HDE)));clear hbE HX HDE HD HQ HS hbw;refine hK1 _ _ (Met.intro (hJ1 _ _ ?_))
      (repeat apply Exists.intro)
      refine⟨?rel,rfl⟩
      case rel=>exact⟨q,b6,A6,n6,c6,rfl,rfl,HREL⟩
    . refine⟨_,rfl,fun K' hK=> ?_⟩
      obtain⟨wn,hwn,hb,hsn,on⟩:=pro1 W (.cells #[.bool false,.slice none 0 0,.int .i64 0] 121);go_simp
      try simp only[hwn]
      clear hwn;replace HD:=hdd (DyP.weak (HD.out.below hb) (q:=fun b=>w2.heap.size<=b/\b≠W.heap.size) (fun b h1 _=>⟨h1.1,aqS h1.2⟩));have HQ:=hdd on;have hqq:w2.heap.size<=W.heap.size:=hbw.size;replace HS:=HS.below hb;replace hbw:=aA hbw hb;clear hb hsn on;refine hK.out _ _ (fun _=>HS) ?_;clear hK
      try simp only[aqL,aqE,aqF,aqG]
      generalize W.heap.size=q at*;generalize wn=W at*;refine fH 4 (by kernel_rfl) rfl fun K' hK=> ?_;go_simp;refine(HBI.out _ hbw).mono ?_;rintro r wn⟨rfl,kd,hkd⟩;have hb:=below_drewN W kd;rw[<-hkd]at hb;clear hkd;replace HD:=hdd (DyP.weak (HD.out.below hb) (q:=fun b=>w2.heap.size<=b/\b≠q) (fun b h1 _=>⟨h1.1,h1.2⟩));replace HQ:=hdd (hbl HQ.out hb);replace HS:=HS.below hb;replace hbw:=aA hbw hb;clear hb;refine hK.out _ _ (fun _=>HS) ?_;clear hK
      try simp only[aqL,aqE,aqF,aqG]
      generalize wn=W at*;refine fH 6 (by kernel_rfl) rfl fun K' hK=> ?_;have hbE:Below w2.heap.size w2 (((W.setCell ⟨q,0,none⟩ (.bool b6)).setCell ⟨q,1,none⟩ (.slice A6 n6 c6)).setCell ⟨q,2,none⟩ (.int .i64 (mkDy z 0).exp)):=((hbw.setCell hqq _).setCell hqq _).setCell hqq _;have hbE2:Below (w.heap.size+2) W (((W.setCell ⟨q,0,none⟩ (.bool b6)).setCell ⟨q,1,none⟩ (.slice A6 n6 c6)).setCell ⟨q,2,none⟩ (.int .i64 (mkDy z 0).exp)):=(((aqN _ _).setCell (by have:=HS2.out;show _<=q;omega) _).setCell (by have:=HS2.out;show _<=q;omega) _).setCell (by have:=HS2.out;show _<=q;omega) _;have HX:=set3 HQ.out (.bool b6) (.slice A6 n6 c6) (.int .i64 (mkDy z 0).exp);have HDE:DyP (fun b=>w2.heap.size<=b) (((W.setCell ⟨q,0,none⟩ (.bool b6)).setCell ⟨q,1,none⟩ (.slice A6 n6 c6)).setCell ⟨q,2,none⟩ (.int .i64 (mkDy z 0).exp)) (.agg #[.bool b6,.slice A6 n6 c6,.int .i64 (mkDy z 0).exp]) (mkDy z 0):=akZ HD.out (fun b h=>h.2) _ _ _ (fun b h=>h.1);obtain⟨e0,e1,e2,e3,e4,e5⟩:=cells3 HQ.out;obtain⟨wE,hwE⟩:∃u,(((W.setCell ⟨q,0,none⟩ (.bool b6)).setCell ⟨q,1,none⟩ (.slice A6 n6 c6)).setCell ⟨q,2,none⟩ (.int .i64 (mkDy z 0).exp))=u:=⟨_,rfl⟩
      rw[hwE]at hbE hbE2 HX HDE;go_simp
      try simp only[hwE]
      replace HS:Two (w.heap.size+1) (w.heap.size+1) (.cells #[.bool B0,.slice A n c] 80) (.cells #[.bool B0,.slice A n c] 80) wE:=⟨(hbE2.block _ (by omega)).trans HS.1,(hbE2.block _ (by omega)).trans HS.2⟩;clear hwE e0 e1 e2 e3 e4 e5 hbE2;refine hK.out _ _ (fun _=>HS) ?_;clear hK
      try simp only[aqL,aqE,aqF,aqG]
      refine fH 7 (by kernel_rfl) rfl fun K' hK=> ?_;go_simp;refine hK.out _ _ (fun h=>absurd rfl h) ?_;clear hK;refine oO (by kernel_rfl) ?_;refine aqO ?_
      try simp only[aqL,aqE,aqF,aqG]
      have HREL:=hdd (And.intro hbE (And.intro HX (And.intro hqq HDE)));clear hbE HX HDE HD HQ HS hbw;refine hK1 _ _ (Met.intro (hJ1 _ _ ?_))
      (repeat apply Exists.intro)
      refine⟨?rel,rfl⟩
      case rel=>exact⟨q,b6,A6,n6,c6,rfl,rfl,HREL⟩
  . refine⟨_,rfl,fun K' hK=> ?_⟩
    obtain⟨wn,hwn,hb,hsn,on⟩:=pro1 W (.cells #[.bool false,.slice none 0 0,.int .i64 0] 121);go_simp
    try simp only[hwn]
    clear hwn;have HQ:=hdd on;have hqq:w2.heap.size<=W.heap.size:=hbw.size;replace HS:=HS.below hb;replace hbw:=aA hbw hb;clear hb hsn on;refine hK.out _ _ (fun _=>HS) ?_;clear hK
    try simp only[aqL,aqE,aqF,aqG]
    generalize W.heap.size=q at*;generalize wn=W at*;refine fH 1 (by kernel_rfl) rfl fun K' hK=> ?_;go_simp;refine(HMK.out _ hbw).mono ?_;rintro r wn⟨hb,v6,rfl,hv6⟩;have HDN:=hv6.weak (q:=fun b=>w2.heap.size<=b/\b≠q) (fun b h1 h2=>⟨aqP hbw.size h1,by have:=aF HQ.out;omega⟩);obtain⟨b6,A6,n6,c6,rfl,-⟩:=id hv6;have HD:=hdd HDN;replace HQ:=hdd (hbl HQ.out hb);replace HS:=HS.below hb;replace hbw:=aA hbw hb;clear hb hv6 HDN;refine hK.out _ _ (fun _=>HS) ?_;clear hK
    try simp only[aqL,aqE,aqF,aqG]
    generalize wn=W at*;refine fH 4 (by kernel_rfl) rfl fun K' hK=> ?_;go_simp;refine(HBI.out _ hbw).mono ?_;rintro r wn⟨rfl,kd,hkd⟩;have hb:=below_drewN W kd;rw[<-hkd]at hb;clear hkd;replace HD:=hdd (DyP.weak (HD.out.below hb) (q:=fun b=>w2.heap.size<=b/\b≠q) (fun b h1 _=>⟨h1.1,h1.2⟩));replace HQ:=hdd (hbl HQ.out hb);replace HS:=HS.below hb;replace hbw:=aA hbw hb;clear hb;refine hK.out _ _ (fun _=>HS) ?_;clear hK
    try simp only[aqL,aqE,aqF,aqG]
    generalize wn=W at*;refine fH 6 (by kernel_rfl) rfl fun K' hK=> ?_;have hbE:Below w2.heap.size w2 (((W.setCell ⟨q,0,none⟩ (.bool b6)).setCell ⟨q,1,none⟩ (.slice A6 n6 c6)).setCell ⟨q,2,none⟩ (.int .i64 (mkDy z 0).exp)):=((hbw.setCell hqq _).setCell hqq _).setCell hqq _;have hbE2:Below (w.heap.size+2) W (((W.setCell ⟨q,0,none⟩ (.bool b6)).setCell ⟨q,1,none⟩ (.slice A6 n6 c6)).setCell ⟨q,2,none⟩ (.int .i64 (mkDy z 0).exp)):=(((aqN _ _).setCell (by have:=HS2.out;show _<=q;omega) _).setCell (by have:=HS2.out;show _<=q;omega) _).setCell (by have:=HS2.out;show _<=q;omega) _;have HX:=set3 HQ.out (.bool b6) (.slice A6 n6 c6) (.int .i64 (mkDy z 0).exp);have HDE:DyP (fun b=>w2.heap.size<=b) (((W.setCell ⟨q,0,none⟩ (.bool b6)).setCell ⟨q,1,none⟩ (.slice A6 n6 c6)).setCell ⟨q,2,none⟩ (.int .i64 (mkDy z 0).exp)) (.agg #[.bool b6,.slice A6 n6 c6,.int .i64 (mkDy z 0).exp]) (mkDy z 0):=akZ HD.out (fun b h=>h.2) _ _ _ (fun b h=>h.1);obtain⟨e0,e1,e2,e3,e4,e5⟩:=cells3 HQ.out;obtain⟨wE,hwE⟩:∃u,(((W.setCell ⟨q,0,none⟩ (.bool b6)).setCell ⟨q,1,none⟩ (.slice A6 n6 c6)).setCell ⟨q,2,none⟩ (.int .i64 (mkDy z 0).exp))=u:=⟨_,rfl⟩
    rw[hwE]at hbE hbE2 HX HDE;go_simp
    try simp only[hwE]
    replace HS:Two (w.heap.size+1) (w.heap.size+1) (.cells #[.bool B0,.slice A n c] 80) (.cells #[.bool B0,.slice A n c] 80) wE:=⟨(hbE2.block _ (by omega)).trans HS.1,(hbE2.block _ (by omega)).trans HS.2⟩;clear hwE e0 e1 e2 e3 e4 e5 hbE2;refine hK.out _ _ (fun _=>HS) ?_;clear hK
    try simp only[aqL,aqE,aqF,aqG]
    refine fH 7 (by kernel_rfl) rfl fun K' hK=> ?_;go_simp;refine hK.out _ _ (fun h=>absurd rfl h) ?_;clear hK;refine oO (by kernel_rfl) ?_;refine aqO ?_
    try simp only[aqL,aqE,aqF,aqG]
    have HREL:=hdd (And.intro hbE (And.intro HX (And.intro hqq HDE)));clear hbE HX HDE HD HQ HS hbw;refine hK1 _ _ (Met.intro (hJ1 _ _ ?_))
    (repeat apply Exists.intro)
    refine⟨?rel,rfl⟩
    case rel=>exact⟨q,b6,A6,n6,c6,rfl,rfl,HREL⟩
 case rest=>
 obtain⟨q,b6,A6,n6,c6,rfl,rfl,HR⟩:=hcut;obtain⟨T,hT1,hU⟩:=iK;have HBC:=hdd (HB.out.trans (HR.out.1.mono HB.out.size));have hbd:Below wc.heap.size wc wc.drew:=(aqN _ _).drew;have HBD:=hdd (aA HBC.out hbd);have HS:Two w.heap.size q (.cells #[.pointer (some ⟨g,0,none⟩),.int .i64 (i:Int)] 32) (.cells #[.bool b6,.slice A6 n6 c6,.int .i64 (mkDy z 0).exp] 121) wc.drew:=⟨aC (hbl O1.out HR.out.1) hbd (aqH (aF O1.out) HR.out.1.size),hbl HR.out.2.1 hbd⟩;have HGO:=hdd (amK (HDG.out.1.below HBD.out) HDG.out.2.1 HDG.out.2.2.1 HDG.out.2.2.2.1 HDG.out.2.2.2.2.lt);have HFL:Hid (∀w',Below wc.drew.heap.size wc.drew w'->Calls Tryz.prog 115 #[.agg #[.bool b6,.slice A6 n6 c6,.int .i64 (mkDy z 0).exp],.int .i64 (-1)] w' (alY T w' z)):=hdd fun w' h=>amX ((HR.out.2.2.2.below hbd).below h) (HT.out.below (aA HBD.out h)) (by have:=HB0.out;omega) hT1;have HBN:=hdd HB0.out;obtain⟨nb,hnb⟩:∃n,bits z.natAbs=n:=⟨_,rfl⟩;have HNB:=hdd hnb;have hnb2:nb<=45:=by rw[<-hnb];exact HB0.out
 rw[hnb];have HU:=hdd (And.intro hT1 hU);have HD0:=hdd (HR.out.2.2.2.below hbd);clear hT1 hU hbd hnb HBC O1 O2 HS2
 go_upto_region 3 with fail
 refine wp_region_noPanic ?_;refine mO (Two w.heap.size q (.cells #[.pointer (some ⟨g,0,none⟩),.int .i64 (i:Int)] 32) (.cells #[.bool b6,.slice A6 n6 c6,.int .i64 (mkDy z 0).exp] 121)) 12 (by kernel_rfl) ?_;refine akM [(0,.pointer (some ⟨w.heap.size,0,none⟩)),(1,.pointer (some ⟨g,0,none⟩)),(2,.pointer (some ⟨w.heap.size,1,none⟩)),(3,.int .i64 (i:Int)),(5,.agg #[.bool b6,.slice A6 n6 c6,.int .i64 (mkDy z 0).exp])] (by kernel_rfl) (by kernel_rfl) (by kernel_rfl) ?_ HS ?_
 . intro w' hSw
   obtain⟨q1,q2⟩:=hSw;obtain⟨x0,x1,-,-⟩:=aB q1;obtain⟨y0,y1,y2,-⟩:=cells3 q2;simp only[akY,aqK,aqI,aqJ,aqM,aqL,aqE,aqF,aqG];refine⟨?_,?_,?_,?_,?_,trivial⟩<;>(go_simp;all_goals rfl)
 simp only[akW,akX,aqK,aqI,aqJ,aqM,aqL,aqE,aqF,aqG];refine fH 4 (by kernel_rfl) rfl fun K' hK=> ?_;go_simp;refine HGO.out.mono ?_;rintro r w4⟨hb,lo,hi,rfl,hg⟩;unfold gv;have HG4:=hdd hg;have hbw:=hb;replace HS:=HS.below hb;clear hb hg HGO;refine hK.out _ _ (fun _=>HS) ?_;clear hK
 try simp only[aqL,aqE,aqF,aqG]
 refine fH 6 (by kernel_rfl) rfl fun K' hK=> ?_;go_simp;refine(HFL.out _ hbw).mono ?_;rintro r w5⟨fl,rfl,k1,k2,k3,hb⟩;replace hbw:=aA hbw hb;replace HS:=HS.below hb;have HBE:=hdd (amY (w:=w5) k2.num HG4.out.1 HG4.out.2.1);unfold gv at HBE;have HOK:Hid ((akU lo hi fl).2=true->CmpR (akU lo hi fl).1 v (rat (z:Rat))):=hdd fun h=>by
  have h1:=anY HG4.out (x:=v*Re.ofN U74) ⟨x,v,HDG.out.2.2.2.2,HG.out.den,rfl⟩ h;rw[k3]at h1;exact am1 HU.out.2 h1
 clear hb k1 k2 k3 HFL HG4;generalize hbs:akU lo hi fl=bs at*;obtain⟨gc,gk⟩:=bs;dsimp only at HOK HBE;clear hbs;refine hK.out _ _ (fun _=>HS) ?_;clear hK
 try simp only[aqL,aqE,aqF,aqG]
 refine fH 7 (by kernel_rfl) rfl fun K' hK=> ?_;go_simp;refine HBE.out.mono ?_;rintro r w6⟨rfl,hb⟩;replace hbw:=aA hbw hb;replace HS:=HS.below hb;clear hb HBE;refine hK.out _ _ (fun _=>HS) ?_;clear hK
 try simp only[aqL,aqE,aqF,aqG]
 refine akM [(8,.tuple #[.int .i64 gc,.bool gk]),(9,.int .i64 gc),(10,.bool gk),(11,.int .i64 gc)] (by kernel_rfl) (by kernel_rfl) (by kernel_rfl) ?_ HS ?_
 . intro w' hSw
   clear hSw;simp only[akY,aqK,aqI,aqJ,aqM,aqL,aqE,aqF,aqG];refine⟨?_,?_,?_,?_,trivial⟩<;>(go_simp;all_goals rfl)
 simp only[akW,akX,aqK,aqI,aqJ,aqM,aqL,aqE,aqF,aqG];refine fH 12 (by kernel_rfl) rfl fun K' hK=> ?_;go_simp;refine hK.out _ _ (fun h=>absurd rfl h) ?_;clear hK;refine oO (by kernel_rfl) ?_;refine aqO ?_
 try simp only[aqL,aqE,aqF,aqG]
 have HB6:=hdd (aA HBD.out hbw);have HR6:=hdd (And.intro HR.out.2.1 HR.out.2.2);have HDY6:=hdd (HD0.out.below hbw);clear hbw HBD HD0
 cases gk
 case' true=>
  have HF:Hid (al9 w v z (.returned (.tuple #[.int .i64 gc,.bool true])) w6):=hdd ⟨HB6.out,gc,rfl,HOK.out rfl⟩;clear HOK HS HR6 HB6;go_wp2
  go_ret2
  exact HF.out
 clear HOK;have hue:=akF (ns:=ns) HG.out.fin HG.out.cost;have hpt:Part ns x i:=⟨x,.refl x,HDG.out.2.2.2.2⟩;have HBO:=hdd (xA (HDG.out.1.below HB6.out) HDG.out.2.1 HDG.out.2.2.1 HDG.out.2.2.2.1 hue hpt (HT.out.below HB6.out) HDG.out.2.2.2.2.lt);rw[gQ HDG.out.2.2.2.2]at HBO;clear hue hpt;obtain⟨v0,v1,-,-⟩:=aB HS.1;go_wp2_with fail
 refine HBO.out.mono ?_;rintro e w7⟨hb7,u,lw,kk,l,rfl,hu,hl,hIB,hk⟩;have hfar:=an0 HDG.out.2.1 HDG.out.2.2.2.2 hIB HG.out.den (z:=z) HB0.out;have hnk:=HG.out.nRt HDG.out.1.uniq HDG.out.2.2.2.2 hIB;obtain⟨nr,hnr⟩:∃n,Go.Proofs.YtebocijmegkfgaaGreatDoor.nRt ns l=n:=⟨_,rfl⟩;rw[hnr]at hk hfar hnk;have hsp2:sepZ x z nr<=sepZ x z K:=Nat.succ_le_succ (Nat.mul_le_mul_left _ (Nat.pow_le_pow_right (by omega) hnk));have HFAR:=hdd hfar;obtain⟨w8,hw8,⟨p0,p1,p2,q0,q1,q2⟩,w9,hw9,hb9,hs9⟩:=new3 w7 187 (.int .i64 0) (.int .i64 0) (.int .i64 0) (.int .i64 u) (.int .i64 lw) (.int .i64 kk);obtain⟨r0,r1,r2,-,-,-⟩:=cells3 hs9;clear v0 v1;have HB9:=hdd (aA HB6.out (aA hb7 hb9));have HS9:=hdd (HS.below (aA hb7 hb9));have HDY9:=hdd (HDY6.out.below (aA hb7 hb9));obtain⟨m,hm⟩:∃m:Nat,max ((uE x).1+1) ((uE x).2+nb+1)=m:=⟨_,rfl⟩;have hmi:max (u+1) (lw+(nb:Int)+1)=(m:Int):=by rw[hu,hl];omega
 have hsz:sepZ x z nr=m*2^nr+1:=by unfold sepZ;rw[HNB.out,hm]
 have hsK:=HSP.out;have hp2:=Nat.two_pow_pos nr;have hm1:m<=m*2^nr:=Nat.le_mul_of_pos_right _ hp2;obtain⟨s,hs⟩:∃s:Nat,m*2^nr=s:=⟨_,rfl⟩;rw[hs]at hsz hm1;have hs1:s<=32767:=by omega
 have hub:0<=u/\u<=40000:=by omega
 have hlb:0<=lw/\lw<=40000:=by omega
 have e1:(m:Int)*2^nr=(s:Int):=by rw[<-hs];simp
 have hw1:IntKind.i64.wrap ((m:Int)*2^nr)=(s:Int):=by rw[e1];exact wrap_i64 (by omega)
 have HSEP:Hid (sepZ x z nr=s+1):=hdd hsz;have HZQ:Hid (SmQ (mkDy z 0)):=hdd (aoV (by rw[HNB.out];exact hnb2));have HSK:Hid ((s:Int)+2<=((sepZ x z K+1:Nat):Int)):=hdd (by omega);have hk15:nr<=15:=aqP hnk HG.out.hK;subst hk;obtain⟨t,ht⟩:∃t:Int,(s:Int)=t:=⟨_,rfl⟩;rw[ht]at hw1 HSK;have hw2:IntKind.i64.wrap (t+1)=t+1:=wrap_i64 (by omega);have hbig:¬(32768<t+1):=by omega
 have ht2:0<=t/\t<=32767:=by omega
 have hk20:¬(20<(nr:Int)):=by omega
 have HTS:=hdd ht;clear ht hs1 hk15 hnb2;clear HBO HB6 HS hb7 hb9 hs9 hIB hu hl hfar hnk hnr hsp2 hm hsz hsK hp2 hm1 hs e1 HB0;go_wp2_with fail
 go_loopw [13] (fun pp wr=>∃k:Nat,k<=j/\pp=.int .i64 (pw k)/\Hid (Below w9.heap.size w9 wr)) (fun pp _=>(200000-intOf pp).toNat)
 case atStart=>exact⟨0,Nat.zero_le _,rfl,hdd (aqN _ _)⟩
 case round=>
  obtain⟨k,hkj,rfl,HBR⟩:=hrel;obtain⟨P,hpk⟩:∃P,pw k=P:=⟨_,rfl⟩;have hpw:=qD hkj HG.out.hj;have hpq:(1:Int)<=P/\P<=65536:=by rw[<-hpk];have:=qD (Nat.le_refl k) (aqP hkj HG.out.hj);exact⟨this.1,this.2.2⟩
  have hp2:P<=pw j:=by rw[<-hpk];exact hpw.2.1
  have HPK:=hdd hpk;rw[hpk];have hbw:Below w.heap.size w wr:=HB9.out.trans (HBR.out.mono HB9.out.size);have hgb:=ai0 (ns:=ns) (P:=P) HG.out.fin HG.out.den (Int.le_trans (jY (by omega) hp2 x) HG.out.size) hpq;have HNE:=hdd (vG (HDG.out.1.below hbw) HDG.out.2.1 HDG.out.2.2.1 HDG.out.2.2.2.1 hgb ⟨x,SubE.refl x,HDG.out.2.2.2.2⟩ HDG.out.2.2.2.2.lt (HT.out.below hbw) hpq);rw[eG HDG.out.2.2.2.2]at HNE;have hle:P<=65536:=hpq.2;have HPP:=hdd hpq;have HP2:=hdd hp2;have HBW:=hdd hbw;have HKJ:=hdd hkj;have HSR:=hdd (HS9.out.below HBR.out);obtain⟨v0,v1,-,-⟩:=aB HSR.out.1;clear hgb hpw hpk hpq hp2 hbw hkj;go_wp2_with fail
  refine HNE.out.mono ?_;rintro e' w10 hret
  cases hnear:dA x P with
  |none=>
   rw[hnear]at hret;obtain⟨hb,rfl⟩:=hret;have hkk:k+1<=j:=by
    rcases aqR k j with h|h
    . exact h
    . obtain rfl:k=j:=aqQ HKJ.out h
      obtain⟨b',M',W',z1,-⟩:=HW.out;rw[show(32*2^k:Int)=P from HPK.out,hnear]at z1;cases z1
   have HB11:=hdd (HBR.out.trans ((hb.trans ((aI w10 (.cells #[.bool false,.slice none 0 0,.int .i64 0,.bool false,.slice none 0 0,.int .i64 0] 123)).mono hb.size)).mono HBR.out.size));have HKK:=hdd hkk;clear hb hkk hnear HNE;obtain⟨Q,hq⟩:∃Q,P*2=Q:=⟨_,rfl⟩;have hqk:pw (k+1)=Q:=by rw[<-hq,<-HPK.out];show(32*2^(k+1):Int)=32*2^k*2;rw[Int.pow_succ];omega
   have hwq:wrap64 (P*2)=Q:=by rw[hq];unfold wrap64;have:=HPP.out;omega
   have hwq':IntKind.i64.wrap (P*2)=Q:=by rw[hq];exact wrap_i64 (by have:=HPP.out;omega)
   have HQK:=hdd hqk;have HQ:=hdd hq;clear hq hqk;go_wp2
   go_roundw
   case rel=>exact⟨k+1,HKK.out,by rw[HQK.out],HB11⟩
   case measure=>have:=HQ.out;have:=HPP.out;simp[intOf];omega
  |some bb=>
   rw[hnear]at hret;obtain⟨hb,vb,rfl,hbal⟩:=hret;obtain⟨e1,A1,n1,k1,e2,A2,n2,k2,rfl,i1,i2⟩:=id hbal;have hokb:=wW (by have:=HPP.out;omega) (Int.le_trans (jY HPP.out.1 HP2.out x) HG.out.size) (kN HPP.out.1 HG.out.fin hnear);have hin:=lD HPP.out.1 HG.out.den hnear;obtain⟨w11,hw11,hb11,hs11,o11⟩:=pro1 w10 (.cells #[.bool e1,.slice A1 n1 k1,.int .i64 bb.lo.exp,.bool e2,.slice A2 n2 k2,.int .i64 bb.hi.exp] 123);have HOK:=hdd hokb;have HIN:=hdd hin;have HNR:=hdd hnear;have HI1:=hdd ((i1.below hb11).any);have HI2:=hdd ((i2.below hb11).any);have O11:=hdd o11;have HBT:=hdd (aA hb hb11);have HS11:=hdd (HSR.out.below HBT.out);have HB11:=hdd (HBR.out.trans (HBT.out.mono HBR.out.size));have HW11:=hdd (HBW.out.trans (HBT.out.mono HBW.out.size));have HDY:Hid (DyP (fun b=>w2.heap.size<=b) w11 (.agg #[.bool b6,.slice A6 n6 c6,.int .i64 (mkDy z 0).exp]) (mkDy z 0)):=hdd ((HDY9.out.below HBR.out).below HBT.out);clear hb hbal hb11 hs11 o11 i1 i2 hokb hin hnear HNE hle v0 v1
   go_upto_region 17 with fail
   go_cut [16,17] (fun uu vv wr=>∃(qa qb:Nat) (ba:Bool) (Aa:Option Addr) (na ca:Nat) (bb2:Bool) (Ab:Option Addr) (nb2 cb:Nat),uu=.pointer (some ⟨qa,0,none⟩)/\vv=.pointer (some ⟨qb,0,none⟩)/\Hid (Below w11.heap.size w11 wr/\wr.heap[qa]? =some (.cells #[.bool ba,.slice Aa na ca,.int .i64 (u6 bb.lo (mkDy z 0)).exp] 121)/\wr.heap[qb]? =some (.cells #[.bool bb2,.slice Ab nb2 cb,.int .i64 (u6 bb.hi (mkDy z 0)).exp] 121)/\DyP AnyB wr (.agg #[.bool ba,.slice Aa na ca,.int .i64 (u6 bb.lo (mkDy z 0)).exp]) (u6 bb.lo (mkDy z 0))/\DyP AnyB wr (.agg #[.bool bb2,.slice Ab nb2 cb,.int .i64 (u6 bb.hi (mkDy z 0)).exp]) (u6 bb.hi (mkDy z 0))))
   case first=>
    rename_i J1 K1 hJ1 hK1;have hbd:Below w11.heap.size w11 w11.drew:=(aqN _ _).drew;have HS:Two w10.heap.size q (.cells #[.bool e1,.slice A1 n1 k1,.int .i64 bb.lo.exp,.bool e2,.slice A2 n2 k2,.int .i64 bb.hi.exp] 123) (.cells #[.bool b6,.slice A6 n6 c6,.int .i64 (mkDy z 0).exp] 121) w11.drew:=⟨hbl O11.out hbd,hbl HS11.out.2 hbd⟩;have HSL:Hid (∀w',Below w11.heap.size w11 w'->Calls Tryz.prog 118 #[.agg #[.bool e1,.slice A1 n1 k1,.int .i64 bb.lo.exp],.agg #[.bool b6,.slice A6 n6 c6,.int .i64 (mkDy z 0).exp]] w' (RetD w'.heap.size w' (u6 bb.lo (mkDy z 0)))):=hdd fun w' h=>ac9 (DyP.below (p:=AnyB) ⟨_,_,_,_,rfl,HI1.out⟩ h) (HDY.out.below h) ((HT.out.below HW11.out).below h) HOK.out.1.1.1 HZQ.out (Canon.mk _ _);have HSH:Hid (∀w',Below w11.heap.size w11 w'->Calls Tryz.prog 118 #[.agg #[.bool e2,.slice A2 n2 k2,.int .i64 bb.hi.exp],.agg #[.bool b6,.slice A6 n6 c6,.int .i64 (mkDy z 0).exp]] w' (RetD w'.heap.size w' (u6 bb.hi (mkDy z 0)))):=hdd fun w' h=>ac9 (DyP.below (p:=AnyB) ⟨_,_,_,_,rfl,HI2.out⟩ h) (HDY.out.below h) ((HT.out.below HW11.out).below h) HOK.out.1.1.2 HZQ.out (Canon.mk _ _)
    refine wp_region_noPanic ?_;refine mO (Two w10.heap.size q (.cells #[.bool e1,.slice A1 n1 k1,.int .i64 bb.lo.exp,.bool e2,.slice A2 n2 k2,.int .i64 bb.hi.exp] 123) (.cells #[.bool b6,.slice A6 n6 c6,.int .i64 (mkDy z 0).exp] 121)) 11 (by kernel_rfl) ?_;refine akM [(0,.pointer (some ⟨w10.heap.size,0,none⟩)),(1,.agg #[.bool e1,.slice A1 n1 k1,.int .i64 bb.lo.exp]),(2,.agg #[.bool b6,.slice A6 n6 c6,.int .i64 (mkDy z 0).exp]),(4,.pointer (some ⟨w10.heap.size,3,none⟩)),(5,.agg #[.bool e2,.slice A2 n2 k2,.int .i64 bb.hi.exp]),(6,.agg #[.bool b6,.slice A6 n6 c6,.int .i64 (mkDy z 0).exp])] (by kernel_rfl) (by kernel_rfl) (by kernel_rfl) ?_ HS ?_
    . intro w' hSw
      obtain⟨q1,q2⟩:=hSw;obtain⟨x0,x1,x2,x3,x4,x5⟩:=aG q1;obtain⟨y0,y1,y2,-⟩:=cells3 q2;simp only[akY,aqK,aqI,aqJ,aqM,aqL,aqE,aqF,aqG];refine⟨?_,?_,?_,?_,?_,?_,trivial⟩<;>(go_simp;all_goals rfl)
    simp only[akW,akX,aqK,aqI,aqJ,aqM,aqL,aqE,aqF,aqG];have hbw:=hbd;clear hbd;generalize w11.drew=W at*;obtain⟨V,hV0⟩:∃V:Nat->Prop,∀b,¬V b:=⟨fun _=>False,fun _ h=>h⟩;have HV:Hid (∀b,V b->w11.heap.size<=b/\b<W.heap.size):=hdd fun b h=>absurd h (hV0 b);clear hV0;generalize hlo:u6 bb.lo (mkDy z 0)=dl at*;generalize hhi:u6 bb.hi (mkDy z 0)=dh at*
    iterate 4
     all_goals first
      |refine alX 3 8 9 (by decide+kernel) ?_ ?_ ?_
      |refine alX 7 8 9 (by decide+kernel) ?_ ?_ ?_
      |refine akO 3 9 (by decide+kernel) ?_ ?_
      |refine akO 3 8 (by decide+kernel) ?_ ?_
      |refine akO 8 9 (by decide+kernel) ?_ ?_
      |refine akO 7 9 (by decide+kernel) ?_ ?_
      |refine akO 7 8 (by decide+kernel) ?_ ?_
      |refine ak2 3 (by decide+kernel) ?_
      |refine ak2 9 (by decide+kernel) ?_
      |refine ak2 8 (by decide+kernel) ?_
      |refine ak2 7 (by decide+kernel) ?_
     all_goals first
      |(show GStep _ _ _ _ _ _ _ _ _ _ 3
        refine⟨_,rfl,fun K' hK=> ?_⟩;go_simp;refine(HSL.out _ hbw).mono ?_;rintro r wn⟨hb,v1,rfl,hv1⟩;obtain⟨b3,A3,n3,c3,rfl,-⟩:=id hv1
        try (replace HD2:=hdd (DyP.weak (HD2.out.below hb) (q:=fun b=>w11.heap.size<=b/\b<wn.heap.size/\¬V b) (fun b h1 _=>⟨h1.1,aqH h1.2.1 hb.size,h1.2.2⟩)))
        try (replace HQ8:=hdd (hbl HQ8.out hb))
        try (replace HQ9:=hdd (hbl HQ9.out hb))
        have HD1:=hdd (hv1.weak (q:=fun b=>w11.heap.size<=b/\b<wn.heap.size/\¬V b) (fun b h1 h2=>⟨aqP hbw.size h1,h2,fun hv=>by have:=(HV.out b hv).2;omega⟩));replace HV:Hid (∀b,V b->w11.heap.size<=b/\b<wn.heap.size):=hdd (fun b h=>⟨(HV.out b h).1,aqH (HV.out b h).2 hb.size⟩);replace HS:=HS.below hb;replace hbw:=aA hbw hb;clear hb hv1;refine hK.out _ _ (fun _=>HS) ?_;clear hK
        try simp only[aqL,aqE,aqF,aqG]
        generalize wn=W at*)
      |(show GStep _ _ _ _ _ _ _ _ _ _ 7
        refine⟨_,rfl,fun K' hK=> ?_⟩;go_simp;refine(HSH.out _ hbw).mono ?_;rintro r wn⟨hb,v1,rfl,hv1⟩;obtain⟨b4,A4,n4,c4,rfl,-⟩:=id hv1
        try (replace HD1:=hdd (DyP.weak (HD1.out.below hb) (q:=fun b=>w11.heap.size<=b/\b<wn.heap.size/\¬V b) (fun b h1 _=>⟨h1.1,aqH h1.2.1 hb.size,h1.2.2⟩)))
        try (replace HD2:=hdd (DyP.weak (HD2.out.below hb) (q:=fun b=>w11.heap.size<=b/\b<wn.heap.size/\¬V b) (fun b h1 _=>⟨h1.1,aqH h1.2.1 hb.size,h1.2.2⟩)))
        try (replace HQ8:=hdd (hbl HQ8.out hb))
        try (replace HQ9:=hdd (hbl HQ9.out hb))
        have HD2:=hdd (hv1.weak (q:=fun b=>w11.heap.size<=b/\b<wn.heap.size/\¬V b) (fun b h1 h2=>⟨aqP hbw.size h1,h2,fun hv=>by have:=(HV.out b hv).2;omega⟩));replace HV:Hid (∀b,V b->w11.heap.size<=b/\b<wn.heap.size):=hdd (fun b h=>⟨(HV.out b h).1,aqH (HV.out b h).2 hb.size⟩);replace HS:=HS.below hb;replace hbw:=aA hbw hb;clear hb hv1;refine hK.out _ _ (fun _=>HS) ?_;clear hK
        try simp only[aqL,aqE,aqF,aqG]
        generalize wn=W at*)
      |(show GStep _ _ _ _ _ _ _ _ _ _ 8
        refine⟨_,rfl,fun K' hK=> ?_⟩;obtain⟨wn,hwn,hb,hsn,on⟩:=pro1 W (.cells #[.bool false,.slice none 0 0,.int .i64 0] 121);go_simp
        try simp only[hwn]
        clear hwn
        try (have HN89:Hid (q9≠W.heap.size):=hdd (by have:=aF HQ9.out;omega))
        try (replace HQ8:=hdd (hbl HQ8.out hb))
        try (replace HQ9:=hdd (hbl HQ9.out hb))
        obtain⟨V',hV'⟩:∃V2:Nat->Prop,∀b,V2 b↔(V b\/b=W.heap.size):=⟨_,fun _=>Iff.rfl⟩
        try (replace HD1:=hdd (DyP.weak (HD1.out.below hb) (q:=fun b=>w11.heap.size<=b/\b<wn.heap.size/\¬V' b) (fun b h1 _=>⟨h1.1,aqH h1.2.1 hb.size,fun hv=>((hV' b).1 hv).elim h1.2.2 (fun e=>by have:=h1.2.1;omega)⟩)))
        try (replace HD2:=hdd (DyP.weak (HD2.out.below hb) (q:=fun b=>w11.heap.size<=b/\b<wn.heap.size/\¬V' b) (fun b h1 _=>⟨h1.1,aqH h1.2.1 hb.size,fun hv=>((hV' b).1 hv).elim h1.2.2 (fun e=>by have:=h1.2.1;omega)⟩)))
        try (replace HV9:=hdd ((hV' _).2 (Or.inl HV9.out)))
        have HV8:Hid (V' W.heap.size):=hdd ((hV' _).2 (Or.inr rfl));have HQ8:=hdd on;replace HV:Hid (∀b,V' b->w11.heap.size<=b/\b<wn.heap.size):=hdd (fun b h=>((hV' b).1 h).elim (fun h=>⟨(HV.out b h).1,aqH (HV.out b h).2 hb.size⟩) (fun e=>by have:=hbw.size;omega));replace HS:=HS.below hb;replace hbw:=aA hbw hb;clear hb hsn on hV';refine hK.out _ _ (fun _=>HS) ?_;clear hK
        try simp only[aqL,aqE,aqF,aqG]
        generalize W.heap.size=q8 at*;clear V;generalize V'=V at*;generalize wn=W at*)
      |(show GStep _ _ _ _ _ _ _ _ _ _ 9
        refine⟨_,rfl,fun K' hK=> ?_⟩;obtain⟨wn,hwn,hb,hsn,on⟩:=pro1 W (.cells #[.bool false,.slice none 0 0,.int .i64 0] 121);go_simp
        try simp only[hwn]
        clear hwn
        try (have HN89:Hid (q8≠W.heap.size):=hdd (by have:=aF HQ8.out;omega))
        try (replace HQ8:=hdd (hbl HQ8.out hb))
        try (replace HQ9:=hdd (hbl HQ9.out hb))
        obtain⟨V',hV'⟩:∃V2:Nat->Prop,∀b,V2 b↔(V b\/b=W.heap.size):=⟨_,fun _=>Iff.rfl⟩
        try (replace HD1:=hdd (DyP.weak (HD1.out.below hb) (q:=fun b=>w11.heap.size<=b/\b<wn.heap.size/\¬V' b) (fun b h1 _=>⟨h1.1,aqH h1.2.1 hb.size,fun hv=>((hV' b).1 hv).elim h1.2.2 (fun e=>by have:=h1.2.1;omega)⟩)))
        try (replace HD2:=hdd (DyP.weak (HD2.out.below hb) (q:=fun b=>w11.heap.size<=b/\b<wn.heap.size/\¬V' b) (fun b h1 _=>⟨h1.1,aqH h1.2.1 hb.size,fun hv=>((hV' b).1 hv).elim h1.2.2 (fun e=>by have:=h1.2.1;omega)⟩)))
        try (replace HV8:=hdd ((hV' _).2 (Or.inl HV8.out)))
        have HV9:Hid (V' W.heap.size):=hdd ((hV' _).2 (Or.inr rfl));have HQ9:=hdd on;replace HV:Hid (∀b,V' b->w11.heap.size<=b/\b<wn.heap.size):=hdd (fun b h=>((hV' b).1 h).elim (fun h=>⟨(HV.out b h).1,aqH (HV.out b h).2 hb.size⟩) (fun e=>by have:=hbw.size;omega));replace HS:=HS.below hb;replace hbw:=aA hbw hb;clear hb hsn on hV';refine hK.out _ _ (fun _=>HS) ?_;clear hK
        try simp only[aqL,aqE,aqF,aqG]
        generalize W.heap.size=q9 at*;clear V;generalize V'=V at*;generalize wn=W at*)
    all_goals
     refine fH 10 (by kernel_rfl) rfl fun K' hK=> ?_;have hxq8:=HV.out _ HV8.out;have hbE:=((hbw.setCell (p:=⟨q8,0,none⟩) hxq8.1 (.bool b3)).setCell (p:=⟨q8,1,none⟩) hxq8.1 (.slice A3 n3 c3)).setCell (p:=⟨q8,2,none⟩) hxq8.1 (.int .i64 dl.exp);have HXq8:=set3 HQ8.out (.bool b3) (.slice A3 n3 c3) (.int .i64 dl.exp);have HDA:=akZ HD1.out (g:=q8) (fun b h e=>h.2.2 (e▸HV8.out)) (.bool b3) (.slice A3 n3 c3) (.int .i64 dl.exp) (q:=fun b=>w11.heap.size<=b/\b<W.heap.size/\¬V b) (fun _ h=>h);have HDB:=akZ HD2.out (g:=q8) (fun b h e=>h.2.2 (e▸HV8.out)) (.bool b3) (.slice A3 n3 c3) (.int .i64 dl.exp) (q:=fun b=>w11.heap.size<=b/\b<W.heap.size/\¬V b) (fun _ h=>h);have HQB:=(bV (show q8≠q9 by first|exact HN89.out|exact Ne.symm HN89.out) _ _ _:(((W.setCell ⟨q8,0,none⟩ (.bool b3)).setCell ⟨q8,1,none⟩ (.slice A3 n3 c3)).setCell ⟨q8,2,none⟩ (.int .i64 dl.exp)).heap[q9]? =_).trans HQ9.out;obtain⟨z0,z1,z2,z3,z4,z5⟩:=cells3 HQ8.out;obtain⟨WA,hwE⟩:∃u,(((W.setCell ⟨q8,0,none⟩ (.bool b3)).setCell ⟨q8,1,none⟩ (.slice A3 n3 c3)).setCell ⟨q8,2,none⟩ (.int .i64 dl.exp))=u:=⟨_,rfl⟩
     have hbS:=(((aqN w11.heap.size W).setCell (p:=⟨q8,0,none⟩) hxq8.1 (.bool b3)).setCell (p:=⟨q8,1,none⟩) hxq8.1 (.slice A3 n3 c3)).setCell (p:=⟨q8,2,none⟩) hxq8.1 (.int .i64 dl.exp);rw[hwE]at hbE HXq8 HDA HDB HQB hbS;go_simp
     try simp only[hwE]
     clear hwE z0 z1 z2 z3 z4 z5 hbw;have hbw:=hbE;clear hbE;have HS2:Two w10.heap.size q (.cells #[.bool e1,.slice A1 n1 k1,.int .i64 bb.lo.exp,.bool e2,.slice A2 n2 k2,.int .i64 bb.hi.exp] 123) (.cells #[.bool b6,.slice A6 n6 c6,.int .i64 (mkDy z 0).exp] 121) WA:=⟨(hbS.block _ (aF O11.out)).trans HS.1,(hbS.block _ (aF HS11.out.2)).trans HS.2⟩;clear hbS HS;refine hK.out _ _ (fun _=>HS2) ?_;clear hK
     try simp only[aqL,aqE,aqF,aqG]
     refine fH 11 (by kernel_rfl) rfl fun K' hK=> ?_;have hxq9:=HV.out _ HV9.out;have hbE:=((hbw.setCell (p:=⟨q9,0,none⟩) hxq9.1 (.bool b4)).setCell (p:=⟨q9,1,none⟩) hxq9.1 (.slice A4 n4 c4)).setCell (p:=⟨q9,2,none⟩) hxq9.1 (.int .i64 dh.exp);have HXq9:=set3 HQB (.bool b4) (.slice A4 n4 c4) (.int .i64 dh.exp);have HDA2:=akZ HDA (g:=q9) (fun b h e=>h.2.2 (e▸HV9.out)) (.bool b4) (.slice A4 n4 c4) (.int .i64 dh.exp) (q:=AnyB) (fun _ _=>trivial);have HDB2:=akZ HDB (g:=q9) (fun b h e=>h.2.2 (e▸HV9.out)) (.bool b4) (.slice A4 n4 c4) (.int .i64 dh.exp) (q:=AnyB) (fun _ _=>trivial);have HQA2:=(bV (show q9≠q8 by first|exact HN89.out|exact Ne.symm HN89.out) _ _ _:(((WA.setCell ⟨q9,0,none⟩ (.bool b4)).setCell ⟨q9,1,none⟩ (.slice A4 n4 c4)).setCell ⟨q9,2,none⟩ (.int .i64 dh.exp)).heap[q8]? =_).trans HXq8;obtain⟨z0,z1,z2,z3,z4,z5⟩:=cells3 HQB;obtain⟨WB,hwE⟩:∃u,(((WA.setCell ⟨q9,0,none⟩ (.bool b4)).setCell ⟨q9,1,none⟩ (.slice A4 n4 c4)).setCell ⟨q9,2,none⟩ (.int .i64 dh.exp))=u:=⟨_,rfl⟩
     rw[hwE]at hbE HXq9 HDA2 HDB2 HQA2;go_simp
     try simp only[hwE]
     clear hwE;refine hK.out _ _ (fun h=>absurd rfl h) ?_;clear hK;refine oO (by kernel_rfl) ?_;refine aqO ?_
     try simp only[aqL,aqE,aqF,aqG]
     have HREL:=hdd (And.intro hbE (And.intro HQA2 (And.intro HXq9 (And.intro HDA2 HDB2))));refine hK1 _ _ (Met.intro (hJ1 _ _ ?_))
     (repeat apply Exists.intro)
     refine⟨?rel,rfl⟩
     case rel=>exact⟨q8,q9,b3,A3,n3,c3,b4,A4,n4,c4,rfl,rfl,HREL⟩
   case rest=>
    obtain⟨qa,qb,ba,Aa,na,ca,bb2,Ab,nb2,cb,rfl,rfl,HRR⟩:=hcut;have HSMS:Hid (SmD (u6 bb.lo (mkDy z 0))/\SmD (u6 bb.hi (mkDy z 0))):=hdd (And.intro (oC HOK.out.1.1.1 (kP (Canon.mk z 0) HZQ.out)) (oC HOK.out.1.1.2 (kP (Canon.mk z 0) HZQ.out)));have HSP1:Hid (v≠rat (z:Rat)->rat (Go.Proofs.YtebocijmegkfgaaGreatDoor.p2 (-(t+1)+1))<=Re.ab (v-rat (z:Rat))):=hdd (by
     have:=HFAR.out;rwa[HSEP.out,show((s+1:Nat):Int)=t+1 from by rw[<-HTS.out];omega]at this)
    have HCP:=hdd (fun k=>aoT (z:=z) HIN.out k);have HCN:=hdd (fun k=>aoU (z:=z) HIN.out k);have HCZ:=hdd (fun k1 k2=>an1 (z:=z) (sep:=t+1) HIN.out k1 k2 HSP1.out);have HCF:Hid (k=j->0<(u6 bb.lo (mkDy z 0)).man\/(u6 bb.hi (mkDy z 0)).man<0\/(gG (notD (u6 bb.lo (mkDy z 0))) (t+1)/\gG (u6 bb.hi (mkDy z 0)) (t+1))):=hdd (fun hkj=>by
     obtain⟨b',M',W',z1,z2,z3⟩:=HW.out;rw[<-hkj,show(32*2^k:Int)=P from HPK.out,HNR.out]at z1
     cases z1
     refine anH HIN.out z2 ?_ HSP1.out;have:=HSK.out;omega)
    have HWC:=hdd (HW11.out.trans (HRR.out.1.mono HW11.out.size));have HBC:=hdd (HB11.out.trans (HRR.out.1.mono HB11.out.size));have HRR2:=hdd HRR.out.2;have HCAN:Hid (Canon (u6 bb.lo (mkDy z 0))):=hdd (aaP bb.lo (notD (mkDy z 0)));obtain⟨a0,a1,a2,-,-,-⟩:=cells3 HRR.out.2.1;obtain⟨b0,b1,b2,-,-,-⟩:=cells3 HRR.out.2.2.1;have HTC:=hdd (HT.out.below HWC.out);clear HRR HB11 HW11 HS11 HDY HI1 HI2 O11 HBT;generalize u6 bb.lo (mkDy z 0)=dl at*;generalize u6 bb.hi (mkDy z 0)=dh at*;go_wp2_with fail
    refine(bX HRR2.out.2.2.1).mono ?_;rintro r w12⟨rfl,hb1⟩;replace a0:=cbl a0 hb1;replace a1:=cbl a1 hb1;replace a2:=cbl a2 hb1;replace b0:=cbl b0 hb1;replace b1:=cbl b1 hb1;replace b2:=cbl b2 hb1;have HDL:=hdd (HRR2.out.2.2.1.below hb1);have HDH:=hdd (HRR2.out.2.2.2.below hb1);replace HWC:=hdd (aA HWC.out hb1);replace HBC:=hdd (aA HBC.out hb1);replace HTC:=hdd (HTC.out.below hb1);clear hb1 HRR2;by_cases hp:0<dl.man
    . rw[Int.sign_eq_one_of_pos hp]
      have HF:Hid (al9 w v z (.returned (.tuple #[.int .i64 1,.bool true])) w12):=hdd ⟨HWC.out,1,rfl,HCP.out hp⟩;clear hp;go_wp2
      go_ret2
      exact HF.out
    . have HP0:=hdd hp
      go_wp2_with fail
      refine(bX HDH.out).mono ?_;rintro r w13⟨rfl,hb1⟩;replace a0:=cbl a0 hb1;replace a1:=cbl a1 hb1;replace a2:=cbl a2 hb1;replace b0:=cbl b0 hb1;replace b1:=cbl b1 hb1;replace b2:=cbl b2 hb1;replace HDL:=hdd (HDL.out.below hb1);replace HDH:=hdd (HDH.out.below hb1);replace HWC:=hdd (aA HWC.out hb1);replace HBC:=hdd (aA HBC.out hb1);replace HTC:=hdd (HTC.out.below hb1);clear hb1 hp;by_cases hn:dh.man<0
      . rw[Int.sign_eq_neg_one_of_neg hn]
        have HF:Hid (al9 w v z (.returned (.tuple #[.int .i64 (-1),.bool true])) w13):=hdd ⟨HWC.out,-1,rfl,HCN.out hn⟩;clear hn;go_wp2
        go_ret2
        exact HF.out
      . have HN0:=hdd hn
        go_wp2_with fail
        refine(nL HDL.out HTC.out (by have:=HSMS.out.1.1;omega) (by have:=HSMS.out.1.2;omega)).mono ?_;rintro r w14⟨hb1,v14,rfl,hv14⟩;replace b0:=cbl b0 hb1;replace b1:=cbl b1 hb1;replace b2:=cbl b2 hb1;replace HDH:=hdd (HDH.out.below hb1);replace HWC:=hdd (aA HWC.out hb1);replace HBC:=hdd (aA HBC.out hb1);have HTN:=hdd (al7 (sep:=t+1) hv14 (anI HCAN.out HSMS.out.1) (by omega));obtain⟨b14,A14,n14,c14,rfl,-⟩:=id hv14;clear hb1 hv14 hn a0 a1 a2;go_wp2_with fail
        refine HTN.out.mono ?_;rintro r w15⟨rfl,hb1⟩;replace b0:=cbl b0 hb1;replace b1:=cbl b1 hb1;replace b2:=cbl b2 hb1;replace HDH:=hdd (HDH.out.below hb1);replace HWC:=hdd (aA HWC.out hb1);replace HBC:=hdd (aA HBC.out hb1);clear hb1 HTN;by_cases ht1:gG (notD dl) (t+1)
        . rw[decide_eq_true ht1]
          have HTN:=hdd (al7 (sep:=t+1) HDH.out HSMS.out.2 (by omega));have HT1:=hdd ht1;clear ht1;go_wp2_with fail
          refine HTN.out.mono ?_;rintro r w16⟨rfl,hb1⟩;replace HWC:=hdd (aA HWC.out hb1);replace HBC:=hdd (aA HBC.out hb1);clear hb1 HTN;by_cases ht3:gG dh (t+1)
          . rw[decide_eq_true ht3]
            have HF:Hid (al9 w v z (.returned (.tuple #[.int .i64 0,.bool true])) w16):=hdd ⟨HWC.out,0,rfl,HCZ.out HT1.out ht3⟩;clear ht3;go_wp2
            go_ret2
            exact HF.out
          . rw[decide_eq_false ht3]
            have hkk:k+1<=j:=by
             rcases aqR k j with h|h
             . exact h
             . rcases HCF.out (aqQ HKJ.out h)with h1|h1|h1
               . exact absurd h1 (by have:=HP0.out;omega)
               . exact absurd h1 (by have:=HN0.out;omega)
               . exact absurd h1.2 ht3
            have HKK:=hdd hkk;have HB11:=HBC;clear hkk ht3;obtain⟨Q,hq⟩:∃Q,P*2=Q:=⟨_,rfl⟩;have hqk:pw (k+1)=Q:=by rw[<-hq,<-HPK.out];show(32*2^(k+1):Int)=32*2^k*2;rw[Int.pow_succ];omega
            have hwq:wrap64 (P*2)=Q:=by rw[hq];unfold wrap64;have:=HPP.out;omega
            have hwq':IntKind.i64.wrap (P*2)=Q:=by rw[hq];exact wrap_i64 (by have:=HPP.out;omega)
            have HQK:=hdd hqk;have HQ:=hdd hq;clear hq hqk;go_wp2
            go_roundw
            case rel=>exact⟨k+1,HKK.out,by rw[HQK.out],HB11⟩
            case measure=>have:=HQ.out;have:=HPP.out;simp[intOf];omega
        . rw[decide_eq_false ht1]
          have hkk:k+1<=j:=by
           rcases aqR k j with h|h
           . exact h
           . rcases HCF.out (aqQ HKJ.out h)with h1|h1|h1
             . exact absurd h1 (by have:=HP0.out;omega)
             . exact absurd h1 (by have:=HN0.out;omega)
             . exact absurd h1.1 ht1
          have HKK:=hdd hkk;have HB11:=HBC;clear hkk ht1;obtain⟨Q,hq⟩:∃Q,P*2=Q:=⟨_,rfl⟩;have hqk:pw (k+1)=Q:=by rw[<-hq,<-HPK.out];show(32*2^(k+1):Int)=32*2^k*2;rw[Int.pow_succ];omega
          have hwq:wrap64 (P*2)=Q:=by rw[hq];unfold wrap64;have:=HPP.out;omega
          have hwq':IntKind.i64.wrap (P*2)=Q:=by rw[hq];exact wrap_i64 (by have:=HPP.out;omega)
          have HQK:=hdd hqk;have HQ:=hdd hq;clear hq hqk;go_wp2
          go_roundw
          case rel=>exact⟨k+1,HKK.out,by rw[HQK.out],HB11⟩
          case measure=>have:=HQ.out;have:=HPP.out;simp[intOf];omega
end Go.Proofs.YtebocijmegkfgaaGreatDoor
