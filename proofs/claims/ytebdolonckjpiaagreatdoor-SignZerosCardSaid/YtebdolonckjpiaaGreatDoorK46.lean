/- A part of the proof: contracts of functions and plain laws (NrK, ShA, ShB). -/
import Derived.Test.YtebdolonckjpiaaGreatDoorK45
import Derived.Test.YtebdolonckjpiaaGreatDoorK31
import Derived.Test.YtebdolonckjpiaaGreatDoorK34
set_option linter.unusedVariables false
set_option linter.unusedSimpArgs false
set_option maxHeartbeats 25600000
set_option maxRecDepth 100000
namespace Go.Proofs.YtebdolonckjpiaaGreatDoor
open Go.RowKit Go.Maps
open Go.RowKit.Below renaming refl->apS,heap_setCell->apU
open List renaming getElem?_eq_getElem->apR,mem_of_getElem?->apT,mem_append->apV
open Option.some renaming inj->apQ
variable{P:Int}{bF:Nat}{bl:Nat->Bl}{bal:Nat->Option Bl}{S p:Nat->Prop}{m mB:Value->Option Value}{w3 w5 wa:World}
def MapF(p:Nat->Prop)(w:World)(bF:Nat)(m:Value->Option Value):Prop:=MapP Tryz.prog 3 w bF m/\∀key v,m key=some v->∃b,BlP p w v b
def anT(w:World)(e:Ending)(w':World):Prop:=Below w.heap.size w w'/\(e=.returned (.tuple #[.map none,.bool false])\/∃bF m,e=.returned (.tuple #[.map (some bF),.bool true])/\w.heap.size<=bF/\MapF (fun b=>w.heap.size<=b) w' bF m)
def KB(p:Nat->Prop)(w:World)(bl:Nat->Bl)(done:List Nat)(mB:Value->Option Value):Prop:=(∀i∈done,∃v,mB (.int .i64 (i:Int))=some v/\BlP p w v (bl i))/\∀key v,mB key=some v->∃b,BlP p w v b
theorem KB.fr {w w':World}{done:List Nat}(h:KB p w bl done mB)(hf:Fr S w w')(hS:∀b,p b->¬S b):KB p w' bl done mB:=
 ⟨fun i hi=>by obtain⟨v,h1,h2⟩:=h.1 i hi;exact⟨v,h1,h2.fr hf hS⟩,fun key v hk=>by obtain⟨b,h2⟩:=h.2 key v hk;exact⟨b,h2.fr hf hS⟩⟩
theorem KB.put {w:World}{x:Nat}{done:List Nat}{mB':Value->Option Value}{v:Value}(h:KB p w bl done mB)(hv:BlP p w v (bl x))(hu:Upd mB (.int .i64 (x:Int)) (some v) mB'):KB p w bl (done++[x]) mB':=by
 refine⟨fun i hi=> ?_,fun key u hk=> ?_⟩
 . by_cases e:i=x
   . subst e;exact⟨v,hu.1,hv⟩
   . rcases apV.1 hi with hi|hi
     . obtain⟨u,h1,h2⟩:=h.1 i hi
       exact⟨u,by rw[hu.2 _ (fun e2=>e (by simp only[Value.int.injEq,true_and]at e2;omega))];exact h1,h2⟩
     . exact absurd (List.mem_singleton.1 hi) e
 . by_cases e:key=.int .i64 (x:Int)
   . subst e;rw[hu.1]at hk;obtain rfl:=apQ hk;exact⟨_,hv⟩
   . rw[hu.2 _ e]at hk;exact h.2 key u hk
theorem aoO{w:World}{g root:Nat}{ns:List Nd}(hd:DagP w g ns)(ok:OkNs ns)(hlf:iH ns)(hro:iI ns)(hg:GB ns S bal P)(hS:S root)(hr:root<ns.length)(hT:Tab w)(hP:1<=P/\P<=65536):
 Calls Tryz.prog 189 #[.pointer (some ⟨g,0,none⟩),.int .i64 (root:Int),.int .i64 P,.bool true] w (anT w):=by
 obtain⟨bl,hblE⟩:∃bl:Nat->Bl,∀i b,bal i=some b->bl i=b:=⟨fun i=>(bal i).getD (atB ⟨0,0⟩),fun i b h=>by show(bal i).getD (atB ⟨0,0⟩)=b;rw[h];rfl⟩;have HG:=hdd hg;have HSR:=hdd hS;have HRO:=hdd hro;have HBLE:=hdd hblE;have HDW:=hdd hd;have HOK:=hdd ok;have HLEAF:=hdd hlf;have HT:=hdd hT;have HP:=hdd hP;have HRL:=hdd hr;have HLN:=hdd hd.len;obtain⟨nr,hnr⟩:∃n,ns[root]? =some n:=⟨_,apR hr⟩;have HN0:=hdd (fB hd hnr);have hp1:¬P<1:=by omega
 have hp2:¬(65536:Int)<P:=by omega
 clear hd ok hlf hr hT hP hnr hg hS hro hblE;have hmm:=@run_makeMap Tryz.prog;have hst:=aX;go_enter Tryz.func189,Tryz.ntmps189
 go_wp2_with fail
 refine HN0.out.mono ?_;rintro e w1⟨rfl,hb1⟩;obtain⟨w2,hw2,z0,z1,z2,z3,y0,y1,y2,y3,w3,hw3,hb3,hs3⟩:=new4 w1 144 (.int .i64 0) (.float .f64 0) (.int .i64 0) (.int .i64 0) (.int .i64 nr.kind) (.float .f64 nr.val) (.int .i64 nr.a) (.int .i64 nr.b);have HB3:=hdd (aB hb1 hb3);have HUS:=hdd (ai9 (HDW.out.below (aB hb1 hb3)) HOK.out HRL.out);clear hb1 hb3 hs3;go_wp2_with fail
 refine HUS.out.mono ?_;rintro e w4⟨hb4,bL,mL0,l,rfl,hbL,hML,hI,hMU⟩;obtain⟨w5,hw5,hb5,hs5,q5⟩:=pro1 w4 (.map #[] 0);obtain⟨w6,hw6,hb6,hs6,q6⟩:=pro1 w5 (.cells #[.int .i64 (root:Int)] 3);have HB6:=hdd (HB3.out.trans ((aB (aB hb4 hb5) hb6).mono HB3.out.size));have HBE:=hdd (jJ (HDW.out.below HB6.out) HOK.out HRL.out q6);rw[hs5]at HBE;have HMB6:=hdd (MapP.made (P:=Tryz.prog) (k:=3) (es:=#[]) (hbl q5 hb6));have HML6:=hdd ((hML.below hb5 hML.lt).below hb6 (by have:=hML.lt;have:=hb5.size;omega));have HI:=hdd hI;have HMU:=hdd hMU;have HNE:Hid (bL≠w4.heap.size):=hdd (by have:=hML.lt;omega);have HBL:Hid (w.heap.size<=bL/\w.heap.size<=w4.heap.size):=hdd (by have:=HB3.out.size;have:=hb4.size;omega);have HSZ6:Hid (w6.heap.size=w4.heap.size+2/\bL<w4.heap.size):=hdd ⟨by rw[hs6,hs5],hML.lt⟩;have HLL:=hdd (mJ hI HLN.out);clear hb4 hb5 hb6 hs6 q5 q6 hML hI hMU hbL z0 z1 z2 z3 y0 y1 y2 y3 hw2 hw3;go_wp2_with fail
 refine HBE.out.mono ?_;rintro e w7⟨hb7,v7,l2,rfl,hl,hI2⟩;obtain rfl:=HI.out.unique hI2;obtain⟨blk,cl,rfl,hlc,hcm,-⟩:=id hl;have HL:=hdd hl;have HB7:=hdd (HB6.out.trans (hb7.mono HB6.out.size));have HM7:=hdd (HMB6.out.below hb7 HMB6.out.lt);have HL7:=hdd (HML6.out.below hb7 HML6.out.lt);have HSZ7:Hid (w4.heap.size+2<=w7.heap.size):=hdd (by have:=hb7.size;have:=HSZ6.out;omega);clear hb7 hl hI2 HBE hcm hlc hw5 hw6;go_wp2_with fail
 go_loopw [45] (fun i wr=>∃k:Nat,k<=l.length/\i=.int .i64 (k:Int)/\Hid (Fr (fun b=>b=bL\/b=w4.heap.size) w7 wr)/\Hid (∀i∈l.take k,bal i=some (bl i))/\∃mB,Hid (MapP Tryz.prog 3 wr w4.heap.size mB)/\Hid (KB (fun b=>w.heap.size<=b/\b≠bL/\b≠w4.heap.size) wr bl (l.take k) mB)) (fun i _=>((l.length:Int)-intOf i).toNat)
 case atStart=>exact⟨0,Nat.zero_le _,rfl,hdd (Fr.of_below (apS _ _)),hdd (by simp),_,HM7,hdd ⟨by simp,by simp⟩⟩
 case round=>
  obtain⟨k,hk,rfl,HF,HDN,mB,HMB,HBB⟩:=hrel;have HBR:Hid (Below w.heap.size w wr):=hdd (HB7.out.trans (HF.out.below HB7.out.size (fun b hb=>by have:=HBL.out;omega)));rcases Nat.lt_or_ge k l.length with hlt|hge
  . obtain⟨x,hx⟩:∃x,l[k]? =some x:=⟨_,apR hlt⟩
    have hxl:x<ns.length:=HI.out.lt x (apT hx);obtain⟨n,hn⟩:∃n,ns[x]? =some n:=⟨_,apR hxl⟩;have HDR:=hdd (HDW.out.below HBR.out);have cx:=(HL.out.fr HF.out (fun b hb=>by have:=HSZ6.out;omega)).cell hx;have HN:=hdd (fB HDR.out hn);have hkI:(k:Int)<(l.length:Int):=by omega
    have hk0:(0:Int)<=(k:Int):=by omega
    have hlI:(l.length:Int)<=20000:=by have:=HLL.out;omega
    have HX:=hdd hx;have HNN:=hdd hn;have HXL:=hdd hxl;have HKL:=hdd hlt;obtain⟨hopA,hopB⟩:=adW HOK.out HI.out.srt HI.out.cl hx hn;have hSx:=HG.out.inS HI.out HSR.out x (apT hx);have hkind:=(HOK.out x n hn).1;have hab:(0<=n.a/\n.a<=1000000)/\(0<=n.b/\n.b<=1000000):=by
     by_cases h0:n.kind=0
     . have:=aaG (HLEAF.out x n hn h0);omega
     . obtain⟨-,h3⟩:=hopA h0
       by_cases h5:n.kind=5
       . have:=HRO.out x n hn h5;have:=HLN.out;omega
       . obtain⟨-,h4⟩:=hopB h0 h5
         have:=HLN.out;omega
    have HKA:=hdd (jX (i:=n.a) (by omega));have HKB:=hdd (jX (i:=n.b) (by omega));have HKX:=hdd (jG (i:=x) (by have:=HLN.out;omega));obtain⟨va,hva⟩:∃va,(mB (.int .i64 n.a)).getD (.agg #[.bool false,.slice none 0 0,.int .i64 0,.bool false,.slice none 0 0,.int .i64 0])=va:=⟨_,rfl⟩;obtain⟨vb,hvb⟩:∃vb,(mB (.int .i64 n.b)).getD (.agg #[.bool false,.slice none 0 0,.int .i64 0,.bool false,.slice none 0 0,.int .i64 0])=vb:=⟨_,rfl⟩;have hsix:∀(key v:Value),(mB key).getD (.agg #[.bool false,.slice none 0 0,.int .i64 0,.bool false,.slice none 0 0,.int .i64 0])=v->SixB v:=fun key v h=>by
     cases hm:mB key with
     |none=>rw[hm]at h;subst h;exact⟨_,_,_,_,_,_,rfl⟩
     |some u=>rw[hm]at h;subst h;obtain⟨_,hB⟩:=HBB.out.2 key u hm;exact BlP.six hB
    have hopsA:n.kind≠0->n.a∈opsN n:=fun h0=>by unfold opsN;rw[if_neg h0];split<;>simp
    have hopsB:n.kind≠0->n.kind≠5->n.b∈opsN n:=fun h0 h5=>by unfold opsN;rw[if_neg h0,if_neg h5];simp
    have hbal:∀(o:Int) (v:Value),o∈opsN n->0<=o->o.toNat∈l.take k->(mB (.int .i64 o)).getD (.agg #[.bool false,.slice none 0 0,.int .i64 0,.bool false,.slice none 0 0,.int .i64 0])=v->BlP (fun b=>w.heap.size<=b/\b≠bL/\b≠w4.heap.size) wr v (bl o.toNat):=fun o v ho h1 hm h=>by
     have e1:((o.toNat:Nat):Int)=o:=by omega
     obtain⟨u,h1,h2⟩:=HBB.out.1 o.toNat hm;rw[e1]at h1;rw[h1]at h;subst h;exact h2
    have hstep:=HG.out.step x n hSx hn;have hcn:nN n (bl n.a.toNat) (bl n.b.toNat) P=bal x:=by
     rw[hstep];exact ak2 (fun h0=>HDN.out _ (hopA h0).1) (fun h0 h5=>HDN.out _ (hopB h0 h5).1)
    have hSo:∀o,o∈opsN n->S o.toNat:=fun o ho=>HG.out.cl x n hSx hn o ho;have HCO:Hid (∀w',Below wr.heap.size wr w'->Calls Tryz.prog 236 #[.agg #[.int .i64 n.kind,.float .f64 n.val,.int .i64 n.a,.int .i64 n.b],va,vb,.int .i64 P] w' (adU w' (bal x))):=hdd fun w' h=>by
     rw[<-hcn];refine afO (p:=fun b=>b<wr.heap.size) (q:=fun b=>b<wr.heap.size) (n:=n) (x:=bl n.a.toNat) (y:=bl n.b.toNat) (hsix _ _ hva) (hsix _ _ hvb) (by omega) (fun h0=>HG.out.leaf x n hSx hn h0) (fun h0=> ?_) (fun h0 h5=> ?_) (fun b hb=>by have:=h.size;omega) (fun b hb=>by have:=h.size;omega) (fun h5=> ?_) (HT.out.below (HBR.out.trans (h.mono HBR.out.size))) HP.out
     . have hm:=hopA h0
       exact⟨((hbal n.a va (hopsA h0) hm.2.1 hm.1 hva).weak fun b _ h=>h).below h,(HG.out.ok _ _ (hSo n.a (hopsA h0)) (HDN.out _ hm.1)).1⟩
     . have hm:=hopB h0 h5
       exact⟨((hbal n.b vb (hopsB h0 h5) hm.2.1 hm.1 hvb).weak fun b _ h=>h).below h,(HG.out.ok _ _ (hSo n.b (hopsB h0 h5)) (HDN.out _ hm.1)).1⟩
     . exact HG.out.root x n hSx hn h5 _ (HDN.out _ (hopA (by omega)).1)
    have HOK2:Hid (∀r,bal x=some r->FitD r.lo/\FitD r.hi):=hdd fun r hr=>(HG.out.ok x r hSx hr).2;have HVA:=hdd hva;have HVB:=hdd hvb;have HOPA:=hdd hopA;have HOPB:=hdd hopB;have HKIND:Hid (n.kind=0\/n.kind=5\/n.kind=1\/n.kind=2\/n.kind=3\/n.kind=4):=hdd (by omega);clear hx hn hxl hlt hab hva hvb hsix hopsA hopsB hbal HDR hopA hopB hSx hkind hstep hcn hSo;go_wp2_with fail
    refine HN.out.mono ?_;rintro e w8⟨rfl,hb8⟩;obtain⟨w9,hw9,z0,z1,z2,z3,y0,y1,y2,y3,w10,hw10,hb10,hs10⟩:=new4 w8 144 (.int .i64 0) (.float .f64 0) (.int .i64 0) (.int .i64 0) (.int .i64 n.kind) (.float .f64 n.val) (.int .i64 n.a) (.int .i64 n.b);obtain⟨x0,x1,x2,x3⟩:=aU hs10;have HB10:=hdd (aB hb8 hb10);have HB8S:=hdd hb8.size;have HM10:=hdd (HMB.out.below HB10.out HMB.out.lt);have HS10:=hdd hs10;have HC10:=hdd (HCO.out w10 HB10.out);clear hb8 hb10 hs10 cx;have M1:True:=trivial;go_wp2_with (first
     |(at_lookup
       clear M1;refine aZ _ rfl _ _ _ rfl _ _ aM kT (qK _) _ mB rfl HM10.out (.int .i64 n.a) _ rfl HKA.out va HVA.out ?_)
     |(at_lookup
       refine aZ _ rfl _ _ _ rfl _ _ aM kT (qK _) _ mB rfl HM10.out (.int .i64 n.b) _ rfl HKB.out vb HVB.out ?_))
    refine HC10.out.mono ?_;rintro e w11 hret
    cases hbx0:bal x with
    |none=>
     rw[hbx0]at hret;obtain⟨hb11,e1,A1,n1,c1,x1',e2,A2,n2,c2,x2',rfl⟩:=hret;obtain⟨w12,hw12,⟨p0,p1,p2,p3,p4,p5⟩,⟨q0,q1,q2,q3,q4,q5⟩,w13,hw13,hb13,hs13⟩:=new6 w11 163 (.bool false) (.slice none 0 0) (.int .i64 0) (.bool false) (.slice none 0 0) (.int .i64 0) (.bool e1) (.slice A1 n1 c1) (.int .i64 x1') (.bool e2) (.slice A2 n2 c2) (.int .i64 x2');have HRES:Hid (anT w (.returned (.tuple #[.map none,.bool false])) w13):=hdd ⟨HBR.out.trans ((aB (aB HB10.out hb11) hb13).mono HBR.out.size),Or.inl rfl⟩;clear hb11 hb13 hs13 hbx0 z0 z1 z2 z3 y0 y1 y2 y3 hw9 hw10 x0 x1 x2 x3;go_wp2
     go_ret2
     exact HRES.out
    |some rr=>
    rw[hbx0]at hret;obtain⟨hb11,vx,rfl,hbx⟩:=hret;have hble:=HBLE.out x rr hbx0;have HFIT:=hdd (HOK2.out rr hbx0);have HBX0:=hdd hbx0;obtain⟨e1,A1,n1,c1,e2,A2,n2,c2,rfl,i1,i2⟩:=id hbx;obtain⟨w12,hw12,⟨p0,p1,p2,p3,p4,p5⟩,⟨q0,q1,q2,q3,q4,q5⟩,w13,hw13,hb13,hs13⟩:=new6 w11 163 (.bool false) (.slice none 0 0) (.int .i64 0) (.bool false) (.slice none 0 0) (.int .i64 0) (.bool e1) (.slice A1 n1 c1) (.int .i64 rr.lo.exp) (.bool e2) (.slice A2 n2 c2) (.int .i64 rr.hi.exp);obtain⟨t0,t1,t2,t3,t4,t5⟩:=aI hs13;have HB13:=hdd (aB (aB HB10.out hb11) hb13);have HB1013:=hdd (aB hb11 hb13);have HF1:=hdd (aa6 (d:=rr.lo) (w:=w13) (p:=AnyB) (v:=.agg #[.bool e1,.slice A1 n1 c1,.int .i64 rr.lo.exp]) ⟨_,_,_,_,rfl,(i1.below hb13).any⟩ HFIT.out.1);have HF2:Hid (∀w',Below w13.heap.size w13 w'->Calls Tryz.prog 237 #[.agg #[.bool e2,.slice A2 n2 c2,.int .i64 rr.hi.exp]] w' (RetW w' true)):=hdd fun w' h=>aa6 (d:=rr.hi) (p:=AnyB) ⟨_,_,_,_,rfl,((i2.below hb13).below h).any⟩ HFIT.out.2;have HBX:=hdd ((hbx.weak (q:=fun b=>w.heap.size<=b/\b≠bL/\b≠w4.heap.size) fun b hb _=>by have:=HB10.out.size;have:=HF.out.size;have:=HSZ7.out;have:=HSZ6.out;have:=HBL.out;omega).below hb13)
    clear hb11 hb13 hs13 hbx i1 i2 z0 z1 z2 z3 y0 y1 y2 y3 hw9 hw10 x0 x1 x2 x3;go_wp2_with fail
    refine HF1.out.mono ?_;rintro e w14⟨rfl,hb14⟩;replace t0:=cbl t0 hb14;replace t1:=cbl t1 hb14;replace t2:=cbl t2 hb14;replace t3:=cbl t3 hb14;replace t4:=cbl t4 hb14;replace t5:=cbl t5 hb14;have HF2b:=hdd (HF2.out w14 hb14);have HB14:=hdd (aB HB13.out hb14);have HBX14:=hdd (HBX.out.below hb14);have HND14:=hdd (aF (hbl HS10.out HB1013.out) hb14 (by have:=aH HS10.out;have:=HB1013.out.size;omega));clear hb14 p0 p1 p2 p3 p4 p5 q0 q1 q2 q3 q4 q5 hw12 hw13;go_wp2_with fail
    refine HF2b.out.mono ?_;rintro e w15⟨rfl,hb15⟩;replace t0:=cbl t0 hb15;replace t1:=cbl t1 hb15;replace t2:=cbl t2 hb15;replace t3:=cbl t3 hb15;replace t4:=cbl t4 hb15;replace t5:=cbl t5 hb15;have HB15:=hdd (aB HB14.out hb15);have HBX15:=hdd (HBX14.out.below hb15);have hnd15:=hbl HND14.out hb15;have HND15:=hdd hnd15;obtain⟨x0,x1,x2,x3⟩:=aU hnd15;have HMB15:=hdd (HMB.out.below HB15.out HMB.out.lt);obtain⟨mB1,hu⟩:=kN mB (.int .i64 (x:Int)) (some (.agg #[.bool e1,.slice A1 n1 c1,.int .i64 rr.lo.exp,.bool e2,.slice A2 n2 c2,.int .i64 rr.hi.exp]));have HU:=hdd hu;have HF15:Hid (Fr (fun b=>b=bL\/b=w4.heap.size) w7 w15):=hdd (HF.out.trans (Fr.of_below HB15.out));have HTK:Hid (l.take (k+1)=l.take k++[x]):=hdd (by rw[List.take_add_one,HX.out];rfl);have HBB15:=hdd ((HBB.out.fr (S:=fun b=>b=bL\/b=w4.heap.size) (Fr.of_below HB15.out) (fun b hb=>by omega)).put (by rw[hble];exact HBX15.out) hu);have HNDL:Hid (bL≠w8.heap.size/\w4.heap.size≠w8.heap.size):=hdd (by have:=HB8S.out;have:=HF.out.size;have:=HSZ7.out;have:=HSZ6.out;omega)
    have HDN1:Hid (∀i∈l.take (k+1),bal i=some (bl i)):=hdd (by
     rw[HTK.out];intro i hi;rcases apV.1 hi with h|h
     . exact HDN.out i h
     . simp at h;subst h;rw[hble];exact HBX0.out)
    clear hb15 hu hnd15 hble hbx0;clear HKIND;go_wp2_with (first
     |(at_mapUpdate
       refine dY _ rfl _ _ _ _ rfl _ _ aM kT _ mB mB1 rfl HMB15.out (.int .i64 (x:Int)) _ _ rfl rfl HKX.out HU.out ?_;intro w16 HMB16 hgr hsz;have hgr2:Fr (fun b=>b=bL\/b=w4.heap.size) w15 w16:=Fr.of_grown hgr (fun i e=>Or.inr (apQ e).symm);have HF16:=hdd (HF15.out.trans hgr2);have HBB16:=hdd (HBB15.out.fr hgr2 (fun b hb=>by omega));clear hgr hsz hgr2 x0 x1 x2 x3 t0 t1 t2 t3 t4 t5))
    go_roundw
    case rel=>exact⟨k+1,by have:=HKL.out;omega,by go_num,HF16,HDN1,mB1,HMB16,hdd (by rw[HTK.out];exact HBB16.out)⟩
    case measure=>have:=HKL.out;simp[intOf];omega
  . have hke:k=l.length:=by omega
    subst hke;have HRES:Hid (anT w (.returned (.tuple #[.map (some w4.heap.size),.bool true])) wr):=hdd ⟨HBR.out,Or.inr ⟨_,mB,rfl,HBL.out.2,HMB.out,fun key v h=>by
     obtain⟨b,h1⟩:=HBB.out.2 key v h;exact⟨b,h1.weak fun _ h _=>h.1⟩⟩⟩
    clear hk hge;go_wp2
    go_ret2
    exact HRES.out
theorem an9{w:World}{g root:Nat}{ns:List Nd}(hd:DagP w g ns)(ok:OkNs ns)(hlf:iH ns)(hro:iI ns)(hg:GB ns S bal P)(hS:S root)(hr:root<ns.length)(hT:Tab w)(hP:1<=P/\P<=65536):
 Calls Tryz.prog 183 #[.pointer (some ⟨g,0,none⟩),.int .i64 (root:Int),.int .i64 P] w (anT w):=by
 have HE:=hdd (aoO hd ok hlf hro hg hS hr hT hP);clear hd ok hlf hro hg hS hr hT hP;go_enter Tryz.func183,Tryz.ntmps183
 go_wp2_with fail
 refine HE.out.mono ?_;rintro e w2⟨hb2,rfl|⟨bF,m,rfl,h1,h2⟩⟩
 . have HB:=hdd hb2
   clear hb2 HE;go_wp2
   go_ret2
   exact⟨HB.out,Or.inl rfl⟩
 . have HB:=hdd (And.intro hb2 (And.intro h1 h2))
   clear hb2 HE h1 h2;go_wp2
   go_ret2
   exact⟨HB.out.1,Or.inr ⟨_,_,rfl,HB.out.2.1,HB.out.2.2⟩⟩
def FO(w:World)(ms:Nat)(fo:Option Nat):Prop:=fo=none\/∃bF m,fo=some bF/\bF≠ms/\MapF (fun b=>b≠ms) w bF m
section
variable{w w' w1:World}{j ms mg g root:Nat}{ns:List Nd}{l:List Nat}{f:Bool}{st:Int}{fo:Option Nat}
theorem MapF.below (h:MapF p w bF m)(hb:Below w.heap.size w w'):MapF p w' bF m:=
 ⟨h.1.below hb h.1.lt,fun key v hk=>by obtain⟨b,h1⟩:=h.2 key v hk;exact⟨b,h1.below hb⟩⟩
theorem FO.below (h:FO w ms fo)(hb:Below w.heap.size w w'):FO w' ms fo:=by
 rcases h with rfl|⟨bF,m,rfl,h1,h2⟩
 . exact Or.inl rfl
 . exact Or.inr ⟨bF,m,rfl,h1,h2.below hb⟩
theorem FO.put (h:FO w ms fo)(hg:w.grownBy w' (some ms)):FO w' ms fo:=by
 rcases h with rfl|⟨bF,m,rfl,h1,h2⟩
 . exact Or.inl rfl
 . have hf:Fr (fun b=>b=ms) w w':=Fr.of_grown hg (fun i e=>(apQ e).symm)
   refine Or.inr ⟨bF,m,rfl,h1,h2.1.keep (hg.block bF h2.1.lt (fun e=>h1 (apQ e))),fun key v hk=> ?_⟩;obtain⟨b,h3⟩:=h2.2 key v hk;exact⟨b,h3.fr hf (fun b hb e=>hb e)⟩
def JH(w:World)(f:Bool)(st:Int)(j ms g:Nat)(ns:List Nd)(l:List Nat):Prop:=∃mg m s fo,w.heap[j]? =some (.cells #[.pointer (some ⟨g,0,none⟩),.bool f,.int .i64 st,.map (some mg),.map fo,.map (some ms)] 202 (0,0))/\
 MapP Tryz.prog 3 w mg m/\MG (gapD ns) m l/\MapP Tryz.prog 3 w ms s/\SM (sgT ns) s/\j≠ms/\mg≠ms/\FO w ms fo
theorem JH.below (h:JH w f st j ms g ns l)(hb:Below w.heap.size w w'):JH w' f st j ms g ns l:=by
 obtain⟨mg,m,s,fo,h1,h2,h3,h4,h5,h6,h7,h8⟩:=h;exact⟨mg,m,s,fo,hbl h1 hb,h2.below hb h2.lt,h3,h4.below hb h4.lt,h5,h6,h7,h8.below hb⟩
theorem JH.put {i:Nat}{S:Int}{s s':Value->Option Value}(h:JH w f st j ms g ns l)(hb:Below w.heap.size w w1)(hs:SM (sgT ns) s)(hS:sgT ns i=S)(hu:Upd s (.int .i64 (i:Int)) (some (.int .i64 S)) s')(hm:MapP Tryz.prog 3 w' ms s')(hg:w1.grownBy w' (some ms)):JH w' f st j ms g ns l:=by
 subst hS;obtain⟨mg,m,s0,fo,h1,h2,h3,h4,h5,h6,h7,h8⟩:=h.below hb;refine⟨mg,m,s',fo,?_,h2.keep (hg.block mg h2.lt (fun e=>h7 (apQ e))),h3,hm,hs.put hu,h6,h7,h8.put hg⟩;rw[hg.block j (aH h1) (fun e=>h6 (apQ e))];exact h1
def RetH(w:World)(f:Bool)(st:Int)(g root:Nat)(ns:List Nd)(e:Ending)(w':World):Prop:=Below w.heap.size w w'/\∃j ms l,e=.returned (.pointer (some ⟨j,0,none⟩))/\w.heap.size<=ms/\ms<w'.heap.size/\IsB ns root l/\JH w' f st j ms g ns l
def JB(w:World)(f:Bool)(st:Int)(j ms mg g root:Nat)(ns:List Nd)(l:List Nat)(w':World):Prop:=Below w.heap.size w w'/\w.heap.size<=j/\w.heap.size<=ms/\ms<w'.heap.size/\IsB ns root l/\w'.heap[j]? =some (.cells #[.pointer (some ⟨g,0,none⟩),.bool f,.int .i64 st,.map (some mg),.map none,.map (some ms)] 202 (0,0))/\
 (∃m,MapP Tryz.prog 3 w' mg m/\MG (gapD ns) m l)/\(∃s,MapP Tryz.prog 3 w' ms s/\SM (sgT ns) s)/\j≠ms/\mg≠ms/\mg≠j
theorem JB.below {w2:World}(h:JB w f st j ms mg g root ns l w')(hb:Below w'.heap.size w' w2):JB w f st j ms mg g root ns l w2:=by
 obtain⟨h1,h2,h3,h4,h5,h6,⟨m,h7,h8⟩,⟨s,h9,ha⟩,hb1⟩:=h;exact⟨aB h1 hb,h2,h3,Nat.lt_of_lt_of_le h4 hb.size,h5,hbl h6 hb,⟨m,h7.below hb h7.lt,h8⟩,⟨s,h9.below hb h9.lt,ha⟩,hb1⟩
theorem JB.ret (h:JB w f st j ms mg g root ns l w'):RetH w f st g root ns (.returned (.pointer (some ⟨j,0,none⟩))) w':=by
 obtain⟨h1,h2,h3,h4,h5,h6,⟨m,h7,h8⟩,⟨s,h9,ha⟩,hb1,hb2,-⟩:=h;exact⟨h1,j,ms,l,rfl,h3,h4,h5,mg,m,s,none,h6,h7,h8,h9,ha,hb1,hb2,Or.inl rfl⟩
theorem apA{T:TypeId}{a0 a1 a2 a3 a4 a5:Value}(h:w.heap[j]? =some (.cells #[a0,a1,a2,a3,a4,a5] T (0,0)))(v:Value):(w.setCell ⟨j,4,none⟩ v).heap[j]? =some (.cells #[a0,a1,a2,a3,v,a5] T (0,0)):=by
 have hg:j<w.heap.size:=(Array.getElem?_eq_some_iff.1 h).1;have h':w.heap[j]=.cells #[a0,a1,a2,a3,a4,a5] T (0,0):=(Array.getElem?_eq_some_iff.1 h).2;simp[World.setCell,hg,Array.getElem_modify,h']
theorem JB.keep {m0:Value->Option Value}(h:JB w f st j ms mg g root ns l w')(hF:MapF (fun b=>j<b/\ms<b) w' bF m0)(hj:bF≠j)(hm:bF≠ms):RetH w f st g root ns (.returned (.pointer (some ⟨j,0,none⟩))) (w'.setCell ⟨j,4,none⟩ (.map (some bF))):=by
 obtain⟨h1,h2,h3,h4,h5,h6,⟨m,h7,h8⟩,⟨s,h9,ha⟩,hb1,hb2,hb3⟩:=h;have hk:∀b,b≠j->(w'.setCell ⟨j,4,none⟩ (.map (some bF))).heap[b]? =w'.heap[b]? :=fun b hb=>apU _ _ _ _ (by simpa using hb);have hf:Fr (fun b=>b=j) w' (w'.setCell ⟨j,4,none⟩ (.map (some bF))):=Fr.of_grown (grownBy_set (⟨rfl,rfl,rfl,Nat.le_refl _,fun _ _ _=>rfl⟩:w'.grownBy w' (some j)) _) (fun i e=>(apQ e).symm);refine⟨h1.setCell h2 _,j,ms,l,rfl,h3,by simpa[World.setCell]using h4,h5,mg,m,s,some bF,apA h6 _,h7.keep (hk mg hb3),h8,h9.keep (hk ms (Ne.symm hb1)),ha,hb1,hb2,Or.inr ⟨bF,m0,rfl,hm,hF.1.keep (hk bF hj),fun key v hkey=> ?_⟩⟩;obtain⟨b,h3⟩:=hF.2 key v hkey;exact⟨b,(h3.fr hf (fun b hb e=>by omega)).weak fun b hb _=>by omega⟩
end
theorem JB.keep0 {w w':World}{f:Bool}{st:Int}{j ms mg g root:Nat}{ns:List Nd}{l:List Nat}(h:JB w f st j ms mg g root ns l w'):RetH w f st g root ns (.returned (.pointer (some ⟨j,0,none⟩))) (w'.setCell ⟨j,4,none⟩ (.map none)):=by
 obtain⟨h1,h2,h3,h4,h5,h6,⟨m,h7,h8⟩,⟨s,h9,ha⟩,hb1,hb2,hb3⟩:=h;have hk:∀b,b≠j->(w'.setCell ⟨j,4,none⟩ (.map none)).heap[b]? =w'.heap[b]? :=fun b hb=>apU _ _ _ _ (by simpa using hb);exact⟨h1.setCell h2 _,j,ms,l,rfl,h3,by simpa[World.setCell]using h4,h5,mg,m,s,none,apA h6 _,h7.keep (hk mg hb3),h8,h9.keep (hk ms (Ne.symm hb1)),ha,hb1,hb2,Or.inl rfl⟩
theorem ao4{w w4:World}{g root mg:Nat}{ns:List Nd}{l:List Nat}{f:Bool}{st:Int}(ha:Below w.heap.size w wa)(hb3:Below wa.heap.size wa w3)(hmg:wa.heap.size<=mg)(hm:MapP Tryz.prog 3 w3 mg m)(hmr:IsB ns root l)(hg:MG (gapD ns) m l)
 (hb4:Below w3.heap.size w3 w4) (b4:w4.heap[w3.heap.size]? =some (.map #[] 0)) (hb5:Below w4.heap.size w4 w5) (b5:w5.heap[w4.heap.size]? =some (.cells #[.pointer (some ⟨g,0,none⟩),.bool f,.int .i64 st,.map (some mg),.map none,.map (some w3.heap.size)] 202 (0,0))):
 JB w f st w4.heap.size w3.heap.size mg g root ns l w5:=by
 have h34:=aB hb4 hb5;have q1:=aH b4;have q2:=hm.lt;have q3:=ha.size;have q4:=hb3.size;have q5:=hb4.size;have q6:=hb5.size;exact⟨ha.trans ((aB hb3 h34).mono ha.size),by omega,by omega,by omega,hmr,b5,⟨m,hm.below h34 hm.lt,hg⟩,⟨_,MapP.made (es:=#[]) (hbl b4 hb5),fun i=>Or.inl rfl⟩,by omega,by omega,by omega⟩
theorem aoX{w:World}{g root mg ms:Nat}{ns:List Nd}{l:List Nat}{f:Bool}{st:Int}(hms:w.heap.size<=ms)(ha:Below w.heap.size w wa)(hs:wa.heap[ms]? =some (.map #[] 0))(hb3:Below wa.heap.size wa w3)(hne:wa.heap.size<=mg)(hm:MapP Tryz.prog 3 w3 mg m)(hmr:IsB ns root l)(hg:MG (gapD ns) m l)
 (hb5:Below w3.heap.size w3 w5) (b5:w5.heap[w3.heap.size]? =some (.cells #[.pointer (some ⟨g,0,none⟩),.bool f,.int .i64 st,.map (some mg),.map none,.map (some ms)] 202 (0,0))):
 JB w f st w3.heap.size ms mg g root ns l w5:=by
 have q1:=aH hs;have q2:=hb3.size;have q3:=hb5.size;have q4:=hm.lt;have q5:=ha.size;exact⟨ha.trans ((aB hb3 hb5).mono ha.size),by omega,hms,by omega,hmr,b5,⟨m,hm.below hb5 hm.lt,hg⟩,⟨_,MapP.made (es:=#[]) (aF hs (aB hb3 hb5) (aH hs)),fun i=>Or.inl rfl⟩,by omega,by omega,by omega⟩
theorem an0{w:World}{g root:Nat}{ns:List Nd}{f:Bool}{st:Int}(hd:DagP w g ns)(ok:OkNs ns)(hlf:iH ns)(hro:iI ns)(hr:root<ns.length)(hN:f=false->∀w',Below w.heap.size w w'->Calls Tryz.prog 183 #[.pointer (some ⟨g,0,none⟩),.int .i64 (root:Int),.int .i64 st] w' (anT w')):
 Calls Tryz.prog 125 #[.pointer (some ⟨g,0,none⟩),.int .i64 (root:Int),.agg #[.bool f,.int .i64 st]] w (RetH w f st g root ns):=by
 obtain⟨w1,hw1,hb1,hs1,b1⟩:=pro1 w (.cells #[.bool f,.int .i64 st] 65);obtain⟨c0,c1,-,-⟩:=aC b1;have HB1:=hdd hb1;have HNA:=hdd hN;have HGA:Hid (∀w',Below w.heap.size w w'->Calls Tryz.prog 182 #[.pointer (some ⟨g,0,none⟩),.int .i64 (root:Int)] w' (ah7 w' ns (gapD ns) root)):=hdd fun w' h=>yE (hd.below h) ok (anI ok) hlf hro hr;have HBW:Below w1.heap.size w1 w1.drew:=(apS _ _).drew;clear hd ok hlf hro hr hb1 b1 hs1 hN;have hmm:=@run_makeMap Tryz.prog;go_enter Tryz.func125,Tryz.ntmps125
 go_wp2_with fail
 obtain⟨w2,hw2,hb2,hs2,b2⟩:=pro1 w1 (.map #[] 0);have e0:=cbl c0 hb2;have e1:=cbl c1 hb2;have HA:=hdd (HB1.out.trans (HBW.mono HB1.out.size));have HX:=hdd (HB1.out.trans ((hb2.drew).mono HB1.out.size));have HB2:=hdd b2;have HBB2:=hdd hb2;clear hb2 b2 hs2
 go_region_held3 (fun w'=>w'.cell? ⟨w.heap.size,0,none⟩=some (.bool f)/\w'.cell? ⟨w.heap.size,1,none⟩=some (.int .i64 st)) (go_keep)
  (first
  |(go_at_call 182
    with_reducible refine(HGA.out _ HA.out).mono ?_
    rintro r w3⟨hb3,mg,m,l,rfl,hmg,hm,hmr,hgs⟩;have c0:=cell_below c0 ((apS _ _).drew.trans hb3) nlr;have c1:=cell_below c1 ((apS _ _).drew.trans hb3) nlr;obtain⟨w4,hw4,hb4,hs4,b4⟩:=pro1 w3 (.map #[] 0);have d0:=cbl c0 hb4;have d1:=cbl c1 hb4;obtain⟨w5,hw5,hb5,hs5,b5⟩:=pro1 w4 (.cells #[.pointer (some ⟨g,0,none⟩),.bool f,.int .i64 st,.map (some mg),.map none,.map (some w3.heap.size)] 202);have x0:=cbl d0 hb5;have x1:=cbl d1 hb5;obtain⟨y0,y1,y2,y3,y4,y5⟩:=aI b5;have HJ:=hdd (ao4 HA.out hb3 hmg hm hmr hgs hb4 b4 hb5 b5);obtain⟨jb,hjb⟩:∃n,w4.heap.size=n:=⟨_,rfl⟩;obtain⟨ms,hms⟩:∃n,w3.heap.size=n:=⟨_,rfl⟩;rw[hjb,hms]at HJ;rw[hjb]at y0 y1 y2 y3 y4 y5;rw[hms]at hw5 y5;clear hb3 hmg hm hmr hgs hb4 hs4 b4 hb5 hs5 b5)
  |(go_at_call 182
    with_reducible refine(HGA.out _ HX.out).mono ?_
    rintro r w3⟨hb3,mg,m,l,rfl,hmg,hm,hmr,hgs⟩;have c0:=cell_below e0 ((apS _ _).drew.trans hb3) nlr;have c1:=cell_below e1 ((apS _ _).drew.trans hb3) nlr;obtain⟨w5,hw5,hb5,hs5,b5⟩:=pro1 w3 (.cells #[.pointer (some ⟨g,0,none⟩),.bool f,.int .i64 st,.map (some mg),.map none,.map (some w1.heap.size)] 202);have x0:=cbl c0 hb5;have x1:=cbl c1 hb5;obtain⟨y0,y1,y2,y3,y4,y5⟩:=aI b5;have HJ:=hdd (aoX HB1.out.size HX.out (aF HB2.out ((apS _ _).drew) (aH HB2.out)) hb3 hmg hm hmr hgs hb5 b5);obtain⟨jb,hjb⟩:∃n,w3.heap.size=n:=⟨_,rfl⟩;obtain⟨ms,hms⟩:∃n,w1.heap.size=n:=⟨_,rfl⟩;rw[hjb,hms]at HJ;rw[hjb]at y0 y1 y2 y3 y4 y5;rw[hms]at hw5 y5;clear hb3 hmg hm hmr hgs hb5 hs5 b5))
 all_goals
  cases f
  . obtain⟨-,-,-,-,-,-,⟨m,hm,-⟩,-⟩:=id HJ.out
    obtain⟨es,ck,hes,-⟩:=id hm;obtain⟨z,hz⟩:∃z,IntKind.i64.wrap ((es.size:Int)*st)=z:=⟨_,rfl⟩;have hlen:∀n,(Builtin.len_ #[198] 3 #[.map (some mg)]).run Tryz.prog (w5.drewN n)=.ok (.int .i64 (es.size:Int)) (w5.drewN n):=fun n=>run_len_map _ _ _ mg es ck Tryz.underlying198 hes;clear hm;go_wp2_with fail
    go_quiet (fail)
    have HJD:=hdd (HJ.out.below (below_drewN w5 nq));clear HJ
    cases hz2:decide (z<=268435456)
    . go_wp2
      go_ret;exact HJD.out.ret
    . have hbd:=below_drewN w5 nq
      replace x0:=cbl x0 hbd;replace x1:=cbl x1 hbd;have HNB:=hdd (HNA.out trivial (w5.drewN nq) HJD.out.1);have HLJ:Hid (jb<(w5.drewN nq).heap.size/\ms<(w5.drewN nq).heap.size):=hdd ⟨aH HJD.out.2.2.2.2.2.1,HJD.out.2.2.2.1⟩;clear y0 y1 y2 y3 y4 y5 hbd hlen hes;go_wp2_with fail
      refine HNB.out.mono ?_;rintro e w6⟨hb6,hret⟩;have HJ6:=hdd (HJD.out.below hb6);obtain⟨z0,z1,z2,z3,z4,z5⟩:=aI HJ6.out.2.2.2.2.2.1;obtain⟨q0,q1,q2,q3,q4,q5⟩:=gN HJ6.out.2.2.2.2.2.1;clear hb6 HNB x0 x1;rcases hret with rfl|⟨bF,m0,rfl,h1,h2⟩
      . have HF:=hdd HJ6.out.keep0
        go_wp2;go_ret;exact HF.out
      . have HF:=hdd (HJ6.out.keep (bF:=bF) ⟨h2.1,fun key v h=>by
         obtain⟨b,h3⟩:=h2.2 key v h;exact⟨b,h3.weak fun b hb _=>by have:=HLJ.out;omega⟩⟩ (by have:=HLJ.out;omega) (by have:=HLJ.out;omega))
        clear h1 h2;go_wp2;go_ret;exact HF.out
  . go_wp2
    go_quiet (fail)
    go_wp2;go_ret;exact(HJ.out.below (below_drewN w5 _)).ret
theorem an3{P:Program}(w:World){ops:Array Oper}{rest:List Oper}{o:Oper}{a:Act}{Q:Exit->Act->World->Prop}(hg:o.guard=none)(mo x:Operand)(t:TypeId)(hop:o.op=Op.lookup t mo x true)
 (k e:TypeId) (K:Keyed P k) (ht:P.underlying t=some (.map k e)) {z:Value} (hz:(zeroValue e).run P w=.ok z w)
 (hm:a.eval mo=.map none) (key:Value) (kl:Lit) (hx:a.eval x=key) (hkey:keyOf P k key=some kl)
 (hK:wpList P ops Q rest (a.put o.dst (.tuple #[z,.bool false])) w):
 wpList P ops Q (o::rest) a w:=by
 refine wpList_plain hg fun K' hK'=> ?_;have hrun:(Instr.lookup t (.map none) key true).run P w=.ok (.tuple #[z,.bool false]) w:=by
  rcases K.find w hkey [] (by simp)with ⟨h1,-⟩|⟨j,e0,-,h2,-⟩
  . simp[Instr.lookup,run_underlying ht,K.check w _ hkey,h1,hz,Result.andThen]
  . simp at h2
 unfold Oper.wp;simp[execOp,hop,hm,hx,hrun,Result.andThen];exact hK' _ _ hK
def aoY(w:World)(e:Ending)(w':World):Prop:=(∃b,e=.returned (.bool b))/\Below w.heap.size w w'
theorem aoE{w:World}{f:Bool}{st:Int}{j ms g id:Nat}{ns:List Nd}{l:List Nat}(hj:JH w f st j ms g ns l)(hid:id<=20000):
 Calls Tryz.prog 130 #[.pointer (some ⟨j,0,none⟩),.int .i64 (id:Int)] w (aoY w):=by
 obtain⟨mg,m0,s,fo,b1,-,-,-,-,-,-,hfo⟩:=hj;obtain⟨c0,c1,c2,c3,c4,c5⟩:=aI b1;have HK:=hdd (jG (i:=id) (by omega));have hst:=aX;rcases hfo with rfl|⟨bF,m,rfl,-,hm,hb⟩
 . obtain⟨w7,hw7,⟨u0,u1,u2,u3,u4,u5⟩,⟨s0,s1,s2,s3,s4,s5⟩,w8,hw8,hb8,hs8⟩:=new6 w 163 (.bool false) (.slice none 0 0) (.int .i64 0) (.bool false) (.slice none 0 0) (.int .i64 0) (.bool false) (.slice none 0 0) (.int .i64 0) (.bool false) (.slice none 0 0) (.int .i64 0)
   have HB:=hdd hb8;clear hb8 hs8 b1 c0 c1 c2 c3 c5;go_enter Tryz.func130,Tryz.ntmps130
   go_wp2_with (first
    |(at_lookup
      refine an3 _ rfl _ _ _ rfl _ _ aM kT (qK _) rfl (.int .i64 (id:Int)) _ rfl HK.out ?_))
   go_ret;exact⟨⟨_,rfl⟩,HB.out⟩
 . have HM:=hdd hm
   cases hk:m (.int .i64 (id:Int))with
   |none=>
    have HSN:Hid ((m (.int .i64 (id:Int))).getD (.agg #[.bool false,.slice none 0 0,.int .i64 0,.bool false,.slice none 0 0,.int .i64 0])=.agg #[.bool false,.slice none 0 0,.int .i64 0,.bool false,.slice none 0 0,.int .i64 0]):=hdd (by rw[hk];rfl);have HSB:Hid ((m (.int .i64 (id:Int))).isSome=false):=hdd (by rw[hk];rfl);obtain⟨w7,hw7,⟨u0,u1,u2,u3,u4,u5⟩,⟨s0,s1,s2,s3,s4,s5⟩,w8,hw8,hb8,hs8⟩:=new6 w 163 (.bool false) (.slice none 0 0) (.int .i64 0) (.bool false) (.slice none 0 0) (.int .i64 0) (.bool false) (.slice none 0 0) (.int .i64 0) (.bool false) (.slice none 0 0) (.int .i64 0);have HB:=hdd hb8;clear hb8 hs8 b1 c0 c1 c2 c3 c5 hm hb hk;go_enter Tryz.func130,Tryz.ntmps130
    go_wp2_with (first
     |(at_lookup
       refine jF _ rfl _ _ _ rfl _ _ aM kT (qK _) _ m rfl HM.out (.int .i64 (id:Int)) _ rfl HK.out _ HSN.out false HSB.out ?_))
    go_ret;exact⟨⟨_,rfl⟩,HB.out⟩
   |some v=>
    obtain⟨bb,hbl⟩:=hb _ _ hk;obtain⟨e1,A1,n1,k1,e2,A2,n2,k2,rfl,i1,i2⟩:=_root_.id hbl;have HSN:Hid ((m (.int .i64 (id:Int))).getD (.agg #[.bool false,.slice none 0 0,.int .i64 0,.bool false,.slice none 0 0,.int .i64 0])=.agg #[.bool e1,.slice A1 n1 k1,.int .i64 bb.lo.exp,.bool e2,.slice A2 n2 k2,.int .i64 bb.hi.exp]):=hdd (by rw[hk];rfl);have HSB:Hid ((m (.int .i64 (id:Int))).isSome=true):=hdd (by rw[hk];rfl);obtain⟨w7,hw7,⟨u0,u1,u2,u3,u4,u5⟩,⟨s0,s1,s2,s3,s4,s5⟩,w8,hw8,hb8,hs8⟩:=new6 w 163 (.bool false) (.slice none 0 0) (.int .i64 0) (.bool false) (.slice none 0 0) (.int .i64 0) (.bool e1) (.slice A1 n1 k1) (.int .i64 bb.lo.exp) (.bool e2) (.slice A2 n2 k2) (.int .i64 bb.hi.exp);obtain⟨x0,x1,x2,x3,x4,x5⟩:=aI hs8;have HSG:=hdd (nU (w:=w8) (hbl.below hb8));have HB:=hdd hb8;clear hb8 hs8 b1 c0 c1 c2 c3 c5 hm hb hk hbl i1 i2;go_enter Tryz.func130,Tryz.ntmps130
    go_wp2_with (first
     |(at_lookup
       refine jF _ rfl _ _ _ rfl _ _ aM kT (qK _) _ m rfl HM.out (.int .i64 (id:Int)) _ rfl HK.out _ HSN.out true HSB.out ?_))
    refine HSG.out.mono ?_;rintro e' w9⟨rfl,hb9⟩;have HB9:=hdd (aB HB.out hb9);clear hb9 HSG;go_wp2;go_ret;exact⟨⟨_,rfl⟩,HB9.out⟩
end Go.Proofs.YtebdolonckjpiaaGreatDoor
