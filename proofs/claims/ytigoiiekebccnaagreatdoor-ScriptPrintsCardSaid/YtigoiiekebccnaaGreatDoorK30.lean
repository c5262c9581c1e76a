/- A part of the proof: contracts of functions and plain laws (NrD, NrE, TrB, TrC). -/
import Derived.Test.YtigoiiekebccnaaGreatDoorK29
import Derived.Test.YtigoiiekebccnaaGreatDoorK28
set_option linter.unusedVariables false
set_option linter.unusedSimpArgs false
set_option linter.unnecessarySimpa false
set_option maxHeartbeats 25600000
set_option maxRecDepth 100000
namespace Go.Proofs.YtigoiiekebccnaaGreatDoor
section
open Go.RowKit Go.Maps
open List renaming mem_of_getElem?->bg7,getElem?_eq_getElem->bg8,mem_of_mem_take->bg9,length_drop->bhB,take_length->bhC
open Option.some renaming inj->bhA
variable{P:Int}{ns:List Nd}{g:Nat}{bal:Nat->Option Bl}{S:Nat->Prop}{n:Nd}{w:World}
def rH(w:World)(bal:Nat->Option Bl)(root:Nat)(e:Ending)(w':World):Prop:=match bal root with
 |some b=>Below w.heap.size w w'/\∃bB m v,e=.returned (.tuple #[.map (some bB),.bool true])/\MapP Tryz.prog 3 w' bB m/\m (.int .i64 (root:Int))=some v/\BlP (fun b=>w.heap.size<=b) w' v b
 |none=>Below w.heap.size w w'/\e=.returned (.tuple #[.map none,.bool false])
theorem afH{l:List Nat}{k x:Nat}(ok:OkNs ns)(hs:l.Pairwise (· < ·))(hc:Cl ns l l)(hx:l[k]? =some x)(hn:ns[x]? =some n):
 (n.kind≠0->n.a.toNat∈l.take k/\(0<=n.a/\n.a<x))/\(n.kind≠0->n.kind≠5->n.b.toNat∈l.take k/\(0<=n.b/\n.b<x)):=by
 have hxl:=bg7 hx;have key:∀o∈opsN n,o.toNat∈l.take k/\(0<=o/\o<x):=fun o ho=>by
  have ha:=(ok x n hn).2 o ho;obtain⟨ya,hya,ea⟩:=hc x hxl n hn o ho;have e1:o.toNat=ya:=by omega
  rw[e1];exact⟨lU hs hx hya (by omega),ha⟩
 refine⟨fun h0=>key n.a ?_,fun h0 h5=>key n.b ?_⟩
 . unfold opsN;rw[if_neg h0];split<;>simp
 . unfold opsN;rw[if_neg h0,if_neg h5];simp
theorem anB{oa ob:Option Bl}{x y:Bl}(hx:n.kind≠0->oa=some x)(hy:n.kind≠0->n.kind≠5->ob=some y):nX n x y P=acI n oa ob P:=by
 unfold acI;by_cases h0:n.kind=0
 . rw[if_pos h0];unfold nX;rw[if_pos h0]
 . rw[if_neg h0,hx h0]
   by_cases h5:n.kind=5
   . rw[if_pos h5]
     show nX n x y P=nX n x x P;unfold nX;rw[if_neg (by omega),if_neg (by omega),if_neg (by omega),if_neg (by omega),if_neg (by omega),if_neg (by omega),if_neg (by omega),if_neg (by omega),if_neg (by omega),if_neg (by omega)]
   . rw[if_neg h5,hy h0 h5];rfl
theorem ahN{root:Nat}(hd:DagP w g ns)(ok:OkNs ns)(hlf:gT ns)(hro:gW ns)(hg:GB ns S bal P)(hS:S root)(hr:root<ns.length)(hT:Tab w)(hP:1<=P/\P<=65536):
 Calls Tryz.prog 270 #[.pointer (some ⟨g,0,none⟩),.int .i64 (root:Int),.int .i64 P,.bool false] w (rH w bal root):=by
 obtain⟨bl,hblE⟩:∃bl:Nat->Bl,∀i b,bal i=some b->bl i=b:=⟨fun i=>(bal i).getD (atB ⟨0,0⟩),fun i b h=>by show(bal i).getD (atB ⟨0,0⟩)=b;rw[h];rfl⟩;have HG:=hdd hg;have HSR:=hdd hS;have HRO:=hdd hro;have HBLE:=hdd hblE;have HDW:=hdd hd;have HOK:=hdd ok;have HLEAF:=hdd hlf;have HT:=hdd hT;have HP:=hdd hP;have HRL:=hdd hr;have HLN:=hdd hd.len;obtain⟨nr,hnr⟩:∃n,ns[root]? =some n:=⟨_,bg8 hr⟩;have HN0:=hdd (eP hd hnr);have hp1:¬P<1:=by omega
 have hp2:¬(65536:Int)<P:=by omega
 clear hd ok hlf hr hT hP hnr hg hS hro hblE;have hmm:=@run_makeMap Tryz.prog;have hst:=aU;go_enter Tryz.func270,Tryz.ntmps270
 go_wp2_with fail
 refine HN0.out.mono ?_;rintro e w1⟨rfl,hb1⟩;obtain⟨w2,hw2,z0,z1,z2,z3,y0,y1,y2,y3,w3,hw3,hb3,hs3⟩:=new4 w1 206 (.int .i64 0) (.float .f64 0) (.int .i64 0) (.int .i64 0) (.int .i64 nr.kind) (.float .f64 nr.val) (.int .i64 nr.a) (.int .i64 nr.b);have HB3:=hdd (aA hb1 hb3);have HUS:=hdd (ak9 (HDW.out.below (aA hb1 hb3)) HOK.out HRL.out);clear hb1 hb3 hs3;go_wp2_with fail
 refine HUS.out.mono ?_;rintro e w4⟨hb4,bL,mL0,l,rfl,hbL,hML,hI,hMU⟩;obtain⟨w5,hw5,hb5,hs5,q5⟩:=pro1 w4 (.map #[] 0);obtain⟨w6,hw6,hb6,hs6,q6⟩:=pro1 w5 (.cells #[.int .i64 (root:Int)] 3);have HB6:=hdd (HB3.out.trans ((aA (aA hb4 hb5) hb6).mono HB3.out.size));have HBE:=hdd (jC (HDW.out.below HB6.out) HOK.out HRL.out q6);rw[hs5]at HBE;have HMB6:=hdd (MapP.made (P:=Tryz.prog) (k:=3) (es:=#[]) (hbl q5 hb6));have HML6:=hdd ((hML.below hb5 hML.lt).below hb6 (by have:=hML.lt;have:=hb5.size;omega));have HI:=hdd hI;have HMU:=hdd hMU;have HNE:Hid (bL≠w4.heap.size):=hdd (by have:=hML.lt;omega);have HBL:Hid (w.heap.size<=bL/\w.heap.size<=w4.heap.size):=hdd (by have:=HB3.out.size;have:=hb4.size;omega);have HSZ6:Hid (w6.heap.size=w4.heap.size+2/\bL<w4.heap.size):=hdd ⟨by rw[hs6,hs5],hML.lt⟩;have HLL:=hdd (mM hI HLN.out);clear hb4 hb5 hb6 hs6 q5 q6 hML hI hMU hbL z0 z1 z2 z3 y0 y1 y2 y3 hw2 hw3;go_wp2_with fail
 refine HBE.out.mono ?_;rintro e w7⟨hb7,v7,l2,rfl,hl,hI2⟩;obtain rfl:=HI.out.unique hI2;obtain⟨blk,cl,rfl,hlc,hcm,-⟩:=id hl;have HL:=hdd hl;have HB7:=hdd (HB6.out.trans (hb7.mono HB6.out.size));have HM7:=hdd (HMB6.out.below hb7 HMB6.out.lt);have HL7:=hdd (HML6.out.below hb7 HML6.out.lt);have HSZ7:Hid (w4.heap.size+2<=w7.heap.size):=hdd (by have:=hb7.size;have:=HSZ6.out;omega);clear hb7 hl hI2 HBE hcm hlc hw5 hw6;go_wp2_with fail
 go_loopw [45] (fun i wr=>∃k:Nat,k<=l.length/\i=.int .i64 (k:Int)/\Hid (Fr (fun b=>b=bL\/b=w4.heap.size) w7 wr)/\Hid (∀i∈l.take k,bal i=some (bl i))/\∃mL mB,Hid (MapP Tryz.prog 3 wr bL mL)/\Hid (MapP Tryz.prog 3 wr w4.heap.size mB)/\Hid (LB l mL (cntL ns (l.drop k)) [])/\Hid (BC (fun b=>w.heap.size<=b/\b≠bL/\b≠w4.heap.size) wr bl root (l.take k) mB (cntL ns (l.drop k)) [])) (fun i _=>((l.length:Int)-intOf i).toNat)
 case atStart=>exact⟨0,Nat.zero_le _,rfl,hdd (Fr.of_below (Below.refl _ _)),hdd (by simp),mL0,_,HL7,HM7,hdd (fun i hi=>by have:=HMU.out i;rw[if_pos hi]at this;simpa using this),hdd ⟨by simp,by simp⟩⟩
 case round=>
  obtain⟨k,hk,rfl,HF,HDN,mL,mB,HML,HMB,HLB,HBB⟩:=hrel;have HBR:Hid (Below w.heap.size w wr):=hdd (HB7.out.trans (HF.out.below HB7.out.size (fun b hb=>by have:=HBL.out;omega)));rcases Nat.lt_or_ge k l.length with hlt|hge
  . obtain⟨x,hx⟩:∃x,l[k]? =some x:=⟨_,bg8 hlt⟩
    have hxl:x<ns.length:=HI.out.lt x (bg7 hx);obtain⟨n,hn⟩:∃n,ns[x]? =some n:=⟨_,bg8 hxl⟩;have HDR:=hdd (HDW.out.below HBR.out);have cx:=(HL.out.fr HF.out (fun b hb=>by have:=HSZ6.out;omega)).cell hx;have HN:=hdd (eP HDR.out hn);have hkI:(k:Int)<(l.length:Int):=by omega
    have hk0:(0:Int)<=(k:Int):=by omega
    have hlI:(l.length:Int)<=20000:=by have:=HLL.out;omega
    have HX:=hdd hx;have HNN:=hdd hn;have HXL:=hdd hxl;have HKL:=hdd hlt;obtain⟨hopA,hopB⟩:=afH HOK.out HI.out.srt HI.out.cl hx hn;have hSx:=HG.out.inS HI.out HSR.out x (bg7 hx);have hkind:=(HOK.out x n hn).1;have hab:(0<=n.a/\n.a<=1000000)/\(0<=n.b/\n.b<=1000000):=by
     by_cases h0:n.kind=0
     . have:=abP (HLEAF.out x n hn h0);omega
     . obtain⟨-,h3⟩:=hopA h0
       by_cases h5:n.kind=5
       . have:=HRO.out x n hn h5;have:=HLN.out;omega
       . obtain⟨-,h4⟩:=hopB h0 h5
         have:=HLN.out;omega
    have HKA:=hdd (jQ (i:=n.a) (by omega));have HKB:=hdd (jQ (i:=n.b) (by omega));have HKX:=hdd (iY (i:=x) (by have:=HLN.out;omega));obtain⟨va,hva⟩:∃va,(mB (.int .i64 n.a)).getD (.agg #[.bool false,.slice none 0 0,.int .i64 0,.bool false,.slice none 0 0,.int .i64 0])=va:=⟨_,rfl⟩;obtain⟨vb,hvb⟩:∃vb,(mB (.int .i64 n.b)).getD (.agg #[.bool false,.slice none 0 0,.int .i64 0,.bool false,.slice none 0 0,.int .i64 0])=vb:=⟨_,rfl⟩;have hsix:∀(key v:Value),(mB key).getD (.agg #[.bool false,.slice none 0 0,.int .i64 0,.bool false,.slice none 0 0,.int .i64 0])=v->SixB v:=fun key v h=>by
     cases hm:mB key with
     |none=>rw[hm]at h;subst h;exact⟨_,_,_,_,_,_,rfl⟩
     |some u=>rw[hm]at h;subst h;exact HBB.out.2 key u hm
    have hopsA:n.kind≠0->n.a∈opsN n:=fun h0=>by unfold opsN;rw[if_neg h0];split<;>simp
    have hopsB:n.kind≠0->n.kind≠5->n.b∈opsN n:=fun h0 h5=>by unfold opsN;rw[if_neg h0,if_neg h5];simp
    have hbal:∀(o:Int) (v:Value),o∈opsN n->0<=o->o.toNat∈l.take k->(mB (.int .i64 o)).getD (.agg #[.bool false,.slice none 0 0,.int .i64 0,.bool false,.slice none 0 0,.int .i64 0])=v->BlP (fun b=>w.heap.size<=b/\b≠bL/\b≠w4.heap.size) wr v (bl o.toNat):=fun o v ho h1 hm h=>by
     have e1:((o.toNat:Nat):Int)=o:=by omega
     obtain⟨u,h1,h2⟩:=HBB.out.1 o.toNat hm (Or.inl (by rw[wO hx hn,e1];have:=List.count_pos_iff.2 ho;omega));rw[e1]at h1;rw[h1]at h;subst h;exact h2
    have hstep:=HG.out.step x n hSx hn;have hcn:nX n (bl n.a.toNat) (bl n.b.toNat) P=bal x:=by
     rw[hstep];exact anB (fun h0=>HDN.out _ (hopA h0).1) (fun h0 h5=>HDN.out _ (hopB h0 h5).1)
    have hSo:∀o,o∈opsN n->S o.toNat:=fun o ho=>HG.out.cl x n hSx hn o ho;have HCO:Hid (∀w',Below wr.heap.size wr w'->Calls Tryz.prog 309 #[.agg #[.int .i64 n.kind,.float .f64 n.val,.int .i64 n.a,.int .i64 n.b],va,vb,.int .i64 P] w' (afF w' (bal x))):=hdd fun w' h=>by
     rw[<-hcn];refine ahK (p:=fun b=>b<wr.heap.size) (q:=fun b=>b<wr.heap.size) (n:=n) (x:=bl n.a.toNat) (y:=bl n.b.toNat) (hsix _ _ hva) (hsix _ _ hvb) (by omega) (fun h0=>HG.out.leaf x n hSx hn h0) (fun h0=> ?_) (fun h0 h5=> ?_) (fun b hb=>by have:=h.size;omega) (fun b hb=>by have:=h.size;omega) (fun h5=> ?_) (HT.out.below (HBR.out.trans (h.mono HBR.out.size))) HP.out
     . have hm:=hopA h0
       exact⟨((hbal n.a va (hopsA h0) hm.2.1 hm.1 hva).weak fun b _ h=>h).below h,(HG.out.ok _ _ (hSo n.a (hopsA h0)) (HDN.out _ hm.1)).1⟩
     . have hm:=hopB h0 h5
       exact⟨((hbal n.b vb (hopsB h0 h5) hm.2.1 hm.1 hvb).weak fun b _ h=>h).below h,(HG.out.ok _ _ (hSo n.b (hopsB h0 h5)) (HDN.out _ hm.1)).1⟩
     . exact HG.out.root x n hSx hn h5 _ (HDN.out _ (hopA (by omega)).1)
    have HOK2:Hid (∀r,bal x=some r->FitD r.lo/\FitD r.hi):=hdd fun r hr=>(HG.out.ok x r hSx hr).2;have HNONE:Hid (bal x=none->bal root=none):=hdd fun hx0=>by
     cases hrt:bal root with
     |none=>rfl
     |some b=>
      obtain⟨r,hr⟩:=HG.out.all HI.out HSR.out hrt x (bg7 hx);rw[hx0]at hr;cases hr
    have HVA:=hdd hva;have HVB:=hdd hvb;have HOPA:=hdd hopA;have HOPB:=hdd hopB;have HKIND:Hid (n.kind=0\/n.kind=5\/n.kind=1\/n.kind=2\/n.kind=3\/n.kind=4):=hdd (by omega);clear hx hn hxl hlt hab hva hvb hsix hopsA hopsB hbal HDR hopA hopB hSx hkind hstep hcn hSo;go_wp2_with fail
    refine HN.out.mono ?_;rintro e w8⟨rfl,hb8⟩;obtain⟨w9,hw9,z0,z1,z2,z3,y0,y1,y2,y3,w10,hw10,hb10,hs10⟩:=new4 w8 206 (.int .i64 0) (.float .f64 0) (.int .i64 0) (.int .i64 0) (.int .i64 n.kind) (.float .f64 n.val) (.int .i64 n.a) (.int .i64 n.b);obtain⟨x0,x1,x2,x3⟩:=bP hs10;have HB10:=hdd (aA hb8 hb10);have HB8S:=hdd hb8.size;have HM10:=hdd (HMB.out.below HB10.out HMB.out.lt);have HS10:=hdd hs10;have HC10:=hdd (HCO.out w10 HB10.out);clear hb8 hb10 hs10 cx;have M1:True:=trivial;go_wp2_with (first
     |(at_lookup
       clear M1;refine aV _ rfl _ _ _ rfl _ _ aJ kN (rG _) _ mB rfl HM10.out (.int .i64 n.a) _ rfl HKA.out va HVA.out ?_)
     |(at_lookup
       refine aV _ rfl _ _ _ rfl _ _ aJ kN (rG _) _ mB rfl HM10.out (.int .i64 n.b) _ rfl HKB.out vb HVB.out ?_))
    refine HC10.out.mono ?_;rintro e w11 hret
    cases hbx0:bal x with
    |none=>
     rw[hbx0]at hret;obtain⟨hb11,e1,A1,n1,c1,x1',e2,A2,n2,c2,x2',rfl⟩:=hret;obtain⟨w12,hw12,⟨p0,p1,p2,p3,p4,p5⟩,⟨q0,q1,q2,q3,q4,q5⟩,w13,hw13,hb13,hs13⟩:=new6 w11 235 (.bool false) (.slice none 0 0) (.int .i64 0) (.bool false) (.slice none 0 0) (.int .i64 0) (.bool e1) (.slice A1 n1 c1) (.int .i64 x1') (.bool e2) (.slice A2 n2 c2) (.int .i64 x2');have HRES:Hid (rH w bal root (.returned (.tuple #[.map none,.bool false])) w13):=hdd (by
      unfold rH;rw[HNONE.out hbx0];exact⟨HBR.out.trans ((aA (aA HB10.out hb11) hb13).mono HBR.out.size),rfl⟩)
     clear hb11 hb13 hs13 hbx0 z0 z1 z2 z3 y0 y1 y2 y3 hw9 hw10 x0 x1 x2 x3;go_wp2
     go_ret2
     exact HRES.out
    |some rr=>
    rw[hbx0]at hret;obtain⟨hb11,vx,rfl,hbx⟩:=hret;have hble:=HBLE.out x rr hbx0;have HFIT:=hdd (HOK2.out rr hbx0);have HBX0:=hdd hbx0;obtain⟨e1,A1,n1,c1,e2,A2,n2,c2,rfl,i1,i2⟩:=id hbx;obtain⟨w12,hw12,⟨p0,p1,p2,p3,p4,p5⟩,⟨q0,q1,q2,q3,q4,q5⟩,w13,hw13,hb13,hs13⟩:=new6 w11 235 (.bool false) (.slice none 0 0) (.int .i64 0) (.bool false) (.slice none 0 0) (.int .i64 0) (.bool e1) (.slice A1 n1 c1) (.int .i64 rr.lo.exp) (.bool e2) (.slice A2 n2 c2) (.int .i64 rr.hi.exp);obtain⟨t0,t1,t2,t3,t4,t5⟩:=aG hs13;have HB13:=hdd (aA (aA HB10.out hb11) hb13);have HB1013:=hdd (aA hb11 hb13);have HF1:=hdd (acH (d:=rr.lo) (w:=w13) (p:=AnyB) (v:=.agg #[.bool e1,.slice A1 n1 c1,.int .i64 rr.lo.exp]) ⟨_,_,_,_,rfl,(i1.below hb13).any⟩ HFIT.out.1);have HF2:Hid (∀w',Below w13.heap.size w13 w'->Calls Tryz.prog 310 #[.agg #[.bool e2,.slice A2 n2 c2,.int .i64 rr.hi.exp]] w' (RetW w' true)):=hdd fun w' h=>acH (d:=rr.hi) (p:=AnyB) ⟨_,_,_,_,rfl,((i2.below hb13).below h).any⟩ HFIT.out.2;have HBX:=hdd ((hbx.weak (q:=fun b=>w.heap.size<=b/\b≠bL/\b≠w4.heap.size) fun b hb _=>by have:=HB10.out.size;have:=HF.out.size;have:=HSZ7.out;have:=HSZ6.out;have:=HBL.out;omega).below hb13)
    clear hb11 hb13 hs13 hbx i1 i2 z0 z1 z2 z3 y0 y1 y2 y3 hw9 hw10 x0 x1 x2 x3;go_wp2_with fail
    refine HF1.out.mono ?_;rintro e w14⟨rfl,hb14⟩;replace t0:=cbl t0 hb14;replace t1:=cbl t1 hb14;replace t2:=cbl t2 hb14;replace t3:=cbl t3 hb14;replace t4:=cbl t4 hb14;replace t5:=cbl t5 hb14;have HF2b:=hdd (HF2.out w14 hb14);have HB14:=hdd (aA HB13.out hb14);have HBX14:=hdd (HBX.out.below hb14);have HND14:=hdd (aC (hbl HS10.out HB1013.out) hb14 (by have:=aD HS10.out;have:=HB1013.out.size;omega));clear hb14 p0 p1 p2 p3 p4 p5 q0 q1 q2 q3 q4 q5 hw12 hw13;go_wp2_with fail
    refine HF2b.out.mono ?_;rintro e w15⟨rfl,hb15⟩;replace t0:=cbl t0 hb15;replace t1:=cbl t1 hb15;replace t2:=cbl t2 hb15;replace t3:=cbl t3 hb15;replace t4:=cbl t4 hb15;replace t5:=cbl t5 hb15;have HB15:=hdd (aA HB14.out hb15);have HBX15:=hdd (HBX14.out.below hb15);have hnd15:=hbl HND14.out hb15;have HND15:=hdd hnd15;obtain⟨x0,x1,x2,x3⟩:=bP hnd15;have HMB15:=hdd (HMB.out.below HB15.out HMB.out.lt);have HML15:=hdd (HML.out.below HB15.out HML.out.lt);obtain⟨mB1,hu⟩:=kF mB (.int .i64 (x:Int)) (some (.agg #[.bool e1,.slice A1 n1 c1,.int .i64 rr.lo.exp,.bool e2,.slice A2 n2 c2,.int .i64 rr.hi.exp]));have HU:=hdd hu;have HF15:Hid (Fr (fun b=>b=bL\/b=w4.heap.size) w7 w15):=hdd (HF.out.trans (Fr.of_below HB15.out));have HLBO:=hdd (LB.open HX.out HNN.out HLB.out);have HTK:Hid (l.take (k+1)=l.take k++[x]):=hdd (by rw[List.take_add_one,HX.out];rfl);have HBB15:=hdd (((BC.open HX.out HNN.out HBB.out).fr (S:=fun b=>b=bL\/b=w4.heap.size) (Fr.of_below HB15.out) (fun b hb=>by omega)).put (by rw[hble];exact HBX15.out) hu)
    have HNDL:Hid (bL≠w8.heap.size/\w4.heap.size≠w8.heap.size):=hdd (by have:=HB8S.out;have:=HF.out.size;have:=HSZ7.out;have:=HSZ6.out;omega);have HDN1:Hid (∀i∈l.take (k+1),bal i=some (bl i)):=hdd (by
     rw[HTK.out];intro i hi;rcases List.mem_append.1 hi with h|h
     . exact HDN.out i h
     . simp at h;subst h;rw[hble];exact HBX0.out)
    clear hb15 hu hnd15 hble hbx0;rcases HKIND.out with hk|hk|hk|hk|hk|hk
    all_goals
     go_wp2_with (first
      |(at_mapUpdate
        refine dR _ rfl _ _ _ _ rfl _ _ aJ kN _ mB mB1 rfl HMB15.out (.int .i64 (x:Int)) _ _ rfl rfl HKX.out HU.out ?_;intro w16 HMB16 hgr hsz;have hgr2:Fr (fun b=>b=bL\/b=w4.heap.size) w15 w16:=Fr.of_grown hgr (fun i e=>Or.inr (bhA e).symm);have HF16:=hdd (HF15.out.trans hgr2);have HML16:=hdd (HML15.out.keep (hgr.block bL HML15.out.lt (fun e=>HNE.out (bhA e))));have HBB16:=hdd (HBB15.out.fr hgr2 (fun b hb=>by omega));have hnd16:=(hgr.block w8.heap.size (aD HND15.out) (fun e=>HNDL.out.2 (bhA e).symm)).trans HND15.out;obtain⟨k0,k1,k2,k3⟩:=bP hnd16;have HND16:=hdd hnd16;clear hgr hsz hgr2 hnd16 x0 x1 x2 x3 t0 t1 t2 t3 t4 t5))
    . go_roundw
      case rel=>
       refine⟨k+1,by have:=HKL.out;omega,by go_num,HF16,HDN1,mL,mB1,HML16,HMB16,hdd ?_,hdd ?_⟩
       . have h9:=HLBO.out
         rwa[show opsN n=[] from by unfold opsN;rw[if_pos hk]]at h9
       . have h9:=HBB16.out
         rw[HTK.out];rwa[show opsN n=[] from by unfold opsN;rw[if_pos hk]]at h9
      case measure=>have:=HKL.out;simp[intOf];omega
    . have h0:n.kind≠0:=by omega
      have hop:=HOPA.out h0;obtain⟨an,ea⟩:∃an:Nat,(an:Int)=n.a:=⟨n.a.toNat,by omega⟩;have hopsE:opsN n=[]++[(an:Int)]:=by unfold opsN;rw[if_neg h0,if_pos hk,ea];rfl
      have HLB2:Hid (LB l mL (cntL ns (l.drop (k+1))) ([]++[(an:Int)])):=hdd (by have:=HLBO.out;rwa[hopsE]at this);have HBB2:Hid (BC (fun b=>w.heap.size<=b/\b≠bL/\b≠w4.heap.size) w16 bl root (l.take (k+1)) mB1 (cntL ns (l.drop (k+1))) ([]++[(an:Int)])):=hdd (by have:=HBB16.out;rw[hopsE]at this;rw[HTK.out];exact this);have hrt:an≠root:=by have:=HI.out.le x (bg7 HX.out);omega
      have ham:an∈l:=bg9 (by have:=hop.1;rwa[show n.a.toNat=an from by omega]at this);have hcb:∀i,cntL ns (l.drop (k+1)) i<=40000:=fun i=>by
       have h1:=zZ ns (l.drop (k+1)) i;rw[bhB]at h1;have:=HLL.out;omega
      have hab2:an<=1000000:=by have:=HLN.out;have:=HXL.out;omega
      obtain⟨ca1,hca1⟩:∃c,c=cntL ns (l.drop (k+1)) an+([]:List Int).count (an:Int):=⟨_,rfl⟩;have hat2:=LB.at (ex:=[]) HLB2.out ham;rw[<-hca1]at hat2;have hcle2:ca1<=1000000:=by have:=hcb an;rw[hca1];simp;omega
      have HC2:=hdd hca1;have HRT2:=hdd hrt;have HD2:Hid (Calls Tryz.prog 311 #[.map (some w4.heap.size),.map (some bL),.int .i64 n.a] w16 (qK w16 bL w4.heap.size mL mB1 an ca1)):=hdd (by rw[<-ea];exact wN HML16.out HMB16.out HNE.out hat2 hab2 hcle2);clear hca1 hat2 hcle2 h0 hop hopsE hrt ham hcb hab2 ea;refine HD2.out.mono ?_;rintro e w18⟨rfl,hf18,mL3,mB3,hML18,hMB18,huL,huB⟩;rw[HC2.out]at huL huB;have HLB3:=hdd (LB.drop (ex:=[]) HLB2.out huL);have HBB3:=hdd (BC.drop (ex:=[]) HBB2.out hf18 (fun b hb=>by omega) HRT2.out huB);have HF18:=hdd (HF16.out.trans hf18);have HML18:=hdd hML18;have HMB18:=hdd hMB18;clear hf18 hML18 hMB18 huL huB;go_wp2
      go_roundw
      case rel=>exact⟨k+1,by have:=HKL.out;omega,by go_num,HF18,HDN1,mL3,mB3,HML18,HMB18,HLB3,HBB3⟩
      case measure=>have:=HKL.out;simp[intOf];omega
    all_goals
     have h0:n.kind≠0:=by omega
     have h5:n.kind≠5:=by omega
     have hop:=HOPA.out h0;have hop':=HOPB.out h0 h5;obtain⟨an,ea⟩:∃an:Nat,(an:Int)=n.a:=⟨n.a.toNat,by omega⟩;obtain⟨bn,eb⟩:∃bn:Nat,(bn:Int)=n.b:=⟨n.b.toNat,by omega⟩;have hopsE:opsN n=[(an:Int)]++[(bn:Int)]:=by unfold opsN;rw[if_neg h0,if_neg h5,ea,eb];rfl
     have HLB0:Hid (LB l mL (cntL ns (l.drop (k+1))) ([(an:Int)]++[(bn:Int)])):=hdd (by have:=HLBO.out;rwa[hopsE]at this);have HBB0:Hid (BC (fun b=>w.heap.size<=b/\b≠bL/\b≠w4.heap.size) w16 bl root (l.take (k+1)) mB1 (cntL ns (l.drop (k+1))) ([(an:Int)]++[(bn:Int)])):=hdd (by have:=HBB16.out;rw[hopsE]at this;rw[HTK.out];exact this);have hrt:an≠root/\bn≠root:=by have:=HI.out.le x (bg7 HX.out);omega
     have ham:an∈l:=bg9 (by have:=hop.1;rwa[show n.a.toNat=an from by omega]at this);have hbm:bn∈l:=bg9 (by have:=hop'.1;rwa[show n.b.toNat=bn from by omega]at this);have hcb:∀i,cntL ns (l.drop (k+1)) i<=40000:=fun i=>by
      have h1:=zZ ns (l.drop (k+1)) i;rw[bhB]at h1;have:=HLL.out;omega
     have HCB:=hdd hcb;have hab2:an<=1000000/\bn<=1000000:=by have:=HLN.out;have:=HXL.out;omega
     have HAB2:=hdd hab2;have HRT2:=hdd hrt;have HAM:=hdd ham;obtain⟨cb1,hcb1⟩:∃c,c=cntL ns (l.drop (k+1)) bn+([(an:Int)]).count (bn:Int):=⟨_,rfl⟩;have hat1:=HLB0.out.at hbm;rw[<-hcb1]at hat1;have hcle1:cb1<=1000000:=by have:=hcb bn;have h9:([(an:Int)]).count (bn:Int)<=1:=Nat.le_trans List.count_le_length (by simp);omega
     have HC1:=hdd hcb1;have HD1:Hid (Calls Tryz.prog 311 #[.map (some w4.heap.size),.map (some bL),.int .i64 n.b] w16 (qK w16 bL w4.heap.size mL mB1 bn cb1)):=hdd (by rw[<-eb];exact wN HML16.out HMB16.out HNE.out hat1 hab2.2 hcle1);clear hcb1 hat1 hcle1;have HEA:=hdd ea;clear h0 h5 hop hop' eb hopsE hrt ham hbm hcb hab2 ea;refine HD1.out.mono ?_;rintro e w17⟨rfl,hf17,mL2,mB2,hML17,hMB17,huL,huB⟩;rw[HC1.out]at huL huB;have HLB2:=hdd (HLB0.out.drop huL);have HBB2:=hdd (HBB0.out.drop hf17 (fun b hb=>by omega) HRT2.out.2 huB);have HF17:=hdd (HF16.out.trans hf17);have hnd17:=(hf17.block w8.heap.size (aD HND16.out) (fun h=>by have:=HNDL.out;omega)).trans HND16.out;obtain⟨k0,k1,k2,k3⟩:=bP hnd17;obtain⟨ca1,hca1⟩:∃c,c=cntL ns (l.drop (k+1)) an+([]:List Int).count (an:Int):=⟨_,rfl⟩;have hat2:=LB.at (ex:=[]) HLB2.out HAM.out;rw[<-hca1]at hat2;have hcle2:ca1<=1000000:=by have:=HCB.out an;rw[hca1];simp;omega
     have HC2:=hdd hca1;have HD2:Hid (Calls Tryz.prog 311 #[.map (some w4.heap.size),.map (some bL),.int .i64 n.a] w17 (qK w17 bL w4.heap.size mL2 mB2 an ca1)):=hdd (by rw[<-HEA.out];exact wN hML17 hMB17 HNE.out hat2 HAB2.out.1 hcle2);clear hca1 hat2 hcle2;clear hf17 hML17 hMB17 huL huB hnd17;go_wp2_with fail
     refine HD2.out.mono ?_;rintro e w18⟨rfl,hf18,mL3,mB3,hML18,hMB18,huL,huB⟩;rw[HC2.out]at huL huB;have HLB3:=hdd (LB.drop (ex:=[]) HLB2.out huL);have HBB3:=hdd (BC.drop (ex:=[]) HBB2.out hf18 (fun b hb=>by omega) HRT2.out.1 huB);have HF18:=hdd (HF17.out.trans hf18);have HML18:=hdd hML18;have HMB18:=hdd hMB18;clear hf18 hML18 hMB18 huL huB;go_wp2
     go_roundw
     case rel=>exact⟨k+1,by have:=HKL.out;omega,by go_num,HF18,HDN1,mL3,mB3,HML18,HMB18,HLB3,HBB3⟩
     case measure=>have:=HKL.out;simp[intOf];omega
  . have hke:k=l.length:=by omega
    subst hke;obtain⟨v,h1,h2⟩:=HBB.out.1 root (by rw[bhC];exact HI.out.rt) (Or.inr rfl);have HRES:Hid (rH w bal root (.returned (.tuple #[.map (some w4.heap.size),.bool true])) wr):=hdd (by
     have hr0:bal root=some (bl root):=HDN.out root (by rw[bhC];exact HI.out.rt);unfold rH;rw[hr0];exact⟨HBR.out,_,mB,v,rfl,HMB.out,h1,h2.weak fun b h _=>h.1⟩)
    clear h1 h2 hk hge;go_wp2
    go_ret2
    exact HRES.out
def apJ(w:World)(o:Option Bl)(e:Ending)(w':World):Prop:=match o with
 |some b=>fZ w.heap.size w b true e w'
 |none=>Below w.heap.size w w'/\e=.returned (.tuple #[.agg #[.bool false,.slice none 0 0,.int .i64 0,.bool false,.slice none 0 0,.int .i64 0],.bool false])
theorem ahO{root:Nat}(hd:DagP w g ns)(ok:OkNs ns)(hlf:gT ns)(hro:gW ns)(hg:GB ns S bal P)(hS:S root)(hr:root<ns.length)(hT:Tab w)(hP:1<=P/\P<=65536):
 Calls Tryz.prog 211 #[.pointer (some ⟨g,0,none⟩),.int .i64 (root:Int),.int .i64 P] w (apJ w (bal root)):=by
 obtain⟨w1,hw1,hb1,hs1,b1⟩:=pro1 w (.cells #[Value.bool false,Value.slice none 0 0,.int .i64 0,Value.bool false,Value.slice none 0 0,.int .i64 0] 235);have HE:=hdd (ahN (hd.below hb1) ok hlf hro hg hS hr (hT.below hb1) hP);have HB:=hdd hb1;have B1:=hdd b1;have HS:=hdd hs1;have HK:=hdd (iY (i:=root) (by have:=hd.len;omega));clear hd ok hlf hro hg hS hr hT hP hb1 b1 hs1;unfold rH at HE
 cases hbr:bal root with
 |none=>
  rw[hbr]at HE;clear hbr;go_enter Tryz.func211,Tryz.ntmps211
  go_wp2_with fail
  refine HE.out.mono ?_;rintro e w2⟨hb2,rfl⟩;have B2:=hbl B1.out hb2;obtain⟨p0,p1,p2,p3,p4,p5⟩:=aG B2;obtain⟨q0,q1,q2,q3,q4,q5⟩:=fV B2;have HBF:=hdd (eZ (HB.out.trans (hb2.mono HB.out.size)) (g:=w.heap.size) nlr (.bool false) (.slice none 0 0) (.int .i64 0) (.bool false) (.slice none 0 0) (.int .i64 0));have hFF:=hdd (iD B2 (.bool false) (.slice none 0 0) (.int .i64 0) (.bool false) (.slice none 0 0) (.int .i64 0));clear hb2 B2 HE;go_wp2;obtain⟨f0,f1,f2,f3,f4,f5⟩:=aG hFF.out;unfold put6 at f0 f1 f2 f3 f4 f5;refine bodyPost_ret (v:=.tuple #[.agg #[_,_,_,_,_,_],_]) (by simp[results,Tryz.results211,go_sem,f0,f1,f2,f3,f4,f5];first|exact⟨⟨rfl,rfl,rfl,rfl,rfl,rfl⟩,rfl⟩|rfl) rfl ?_;exact⟨HBF.out,rfl⟩
 |some b=>
  rw[hbr]at HE;clear hbr;go_enter Tryz.func211,Tryz.ntmps211
  go_wp2_with fail
  refine HE.out.mono ?_;rintro e w2⟨hb2,bB,m,v,rfl,hm,hmr,hbal⟩;obtain⟨e1,A1,n1,c1,e2,A2,n2,c2,rfl,i1,i2⟩:=id hbal;have B2:=hbl B1.out hb2;obtain⟨p0,p1,p2,p3,p4,p5⟩:=aG B2;obtain⟨q0,q1,q2,q3,q4,q5⟩:=fV B2;obtain⟨hR,hF⟩:=bK (x:=b) (HB.out.trans (hb2.mono HB.out.size)) (g:=w.heap.size) nlr B2 i1 i2 (fun b hb=>by have:=HS.out;omega);have HR:=hdd (fB (t:=true) hR.out);have hFF:=hdd hF;have HM:=hdd hm;have HG:Hid ((m (.int .i64 (root:Int))).getD (.agg #[.bool false,.slice none 0 0,.int .i64 0,.bool false,.slice none 0 0,.int .i64 0])=.agg #[.bool e1,.slice A1 n1 c1,.int .i64 b.lo.exp,.bool e2,.slice A2 n2 c2,.int .i64 b.hi.exp]):=hdd (by rw[hmr];rfl);clear hb2 hm hmr hbal B2 hR hF i1 i2;go_wp2_with (first
   |(at_lookup
     refine aV _ rfl _ _ _ rfl _ _ aJ kN (rG _) _ m rfl HM.out (.int .i64 (root:Int)) _ rfl HK.out (.agg #[.bool e1,.slice A1 n1 c1,.int .i64 b.lo.exp,.bool e2,.slice A2 n2 c2,.int .i64 b.hi.exp]) HG.out ?_))
  obtain⟨f0,f1,f2,f3,f4,f5⟩:=aG hFF.out;unfold put6 at f0 f1 f2 f3 f4 f5;refine bodyPost_ret (v:=.tuple #[.agg #[_,_,_,_,_,_],_]) (by simp[results,Tryz.results211,go_sem,f0,f1,f2,f3,f4,f5];first|exact⟨⟨rfl,rfl,rfl,rfl,rfl,rfl⟩,rfl⟩|rfl) rfl ?_;exact HR.out
end
section
open Re (rat)
open Int renaming sign_eq_neg_one_iff_neg->bhD,sign_eq_one_iff_pos->bhE,lt_or_le->bhF,le_refl->bhG
variable{e:Ex}{B E G M W sep:Int}{ns:List Nd}{i:Nat}{v:Re}
structure Ct where
 M:Int
 W:Int
 u:Nat
 l:Nat
 s:Int
def Lok(L:List Ex):Prop:=RootsL L/\∀r∈L,∃v,DenR r v
structure Vl(L:List Ex)(P:Int)(e:Ex)(v:Re)(c:Ct):Prop where
 den:DenR e v
 fin:FinE e
 roots:RootsIn L e
 near:∃b,fH e P=some b/\Acc c.M c.W b
 hu:(uE e).1<=c.u
 hl:(uE e).2<=c.l
 hs:bR P e<=c.s
theorem anC{L:List Ex}(hL:Lok L)(h:DenR e v)(hr:RootsIn L e)(h0:v≠0):rat (p2 (-((max (uE e).1 (uE e).2*2^L.length:Nat):Int)))<=Re.ab v:=by
 obtain⟨T,t1,t2,t3⟩:=tower hL.1 hL.2;have hs:=(t3 e v h hr).sep t1 h0;rw[t2]at hs;generalize max (uE e).1 (uE e).2*2^L.length=m at*;have e1:Re.ofN (2^m)=rat (p2 m):=by rw[fA];exact congrArg rat (Rat.intCast_natCast (2^m))
 have hp:(0:Re)<rat (p2 m):=by rw[Re.zero_rat,Re.rat_lt];exact aZ m
 refine Re.le_of_mul_pos hp ?_;rw[e1]at hs;refine Re.le_trans ?_ hs;rw[<-Re.rat_mul,<-bY,show-(m:Int)+m=0 from by omega,lC,<-Re.one_rat];exact Re.le_refl _
theorem In.le {b:Bl}(h:In v b):rv b.lo<=rv b.hi:=Re.rat_le.1 (Re.le_trans h.1 h.2)
theorem aoW{b:Bl}(h:In v b)(k:Acc M W b)(hv:rat (p2 (-G+1))<=Re.ab v)(hW:G<=W):(p2 (-G)<=rv b.lo/\p2 (-G)<=rv b.hi)\/(rv b.lo<=-p2 (-G)/\rv b.hi<=-p2 (-G)):=by
 have hw:=k.2.2;have hle:=h.le;have hg:=iO (show-W<=-G by omega);have hs:=gI (-G);have hp:=aZ (-G);rcases Re.ab_cases v with ⟨h1,e⟩|⟨h1,e⟩<;>rw[e]at hv
 . left
   have:=Re.rat_le.1 (Re.le_trans hv h.2);constructor<;>grind
 . right
   have h2:=Re.neg_le_neg h.1;rw[<-Re.rat_neg]at h2;have:=Re.rat_le.1 (Re.le_trans hv h2);constructor<;>grind
theorem quo_some{b:Bl}(h:(p2 (-G)<=rv b.lo/\p2 (-G)<=rv b.hi)\/(rv b.lo<=-p2 (-G)/\rv b.hi<=-p2 (-G)))(a:Bl)(P:Int):∃r,quoB a b P=some r:=by
 have hp:=aZ (-G);unfold quoB;rw[if_pos]
 . exact⟨_,rfl⟩
 . rcases h with ⟨h1,h2⟩|⟨h1,h2⟩
   . have g1:=(aY b.lo).1.1 (by grind);have g2:=(aY b.hi).1.1 (by grind)
     rw[bhE.2 g1,bhE.2 g2];decide
   . have g1:=(aY b.lo).2.1.1 (by grind);have g2:=(aY b.hi).2.1.1 (by grind)
     rw[bhD.2 g1,bhD.2 g2];decide
def jN(P:Int)(a b:Ct):Ct:=⟨max a.M b.M+2,min (min (a.W-2) (b.W-2)) (P-max a.M b.M-4),1+max (a.u+b.l) (a.l+b.u),a.l+b.l,max a.s b.s+2⟩
def sI(P:Int)(a b:Ct):Ct:=⟨a.M+b.M+1,min (min (a.W-b.M-2) (b.W-a.M-2)) (P-a.M-b.M-3),a.u+b.u,a.l+b.l,a.s+b.s+1⟩
def ctG(n:Nat)(b:Ct):Int:=((max b.u b.l*2^n:Nat):Int)+1
def apK(P:Int)(n:Nat)(a b:Ct):Ct:=⟨a.M+ctG n b+1,min (min (a.W-ctG n b-2) (b.W-a.M-2*ctG n b-2)) (P-a.M-ctG n b-3),a.u+b.l,a.l+b.u,a.s+b.s+P+4⟩
def oJ(P:Int)(a:Ct):Ct:=⟨(a.M+1)/2+2,min (a.W/2-1) (P-(a.M+1)/2-4),min a.u ((a.u+a.l+1)/2),min a.l ((a.u+a.l+1)/2),a.s+P+5⟩
section
variable{L:List Ex}{P:Int}{a b:Ex}{x y z:Re}{c d:Ct}
theorem Vl.le (h:Vl L P a x c)(hP:1<=P):∃r,fH a P=some r/\Acc c.M c.W r/\In x r/\rv r.lo<=rv r.hi:=by
 obtain⟨r,h1,h2⟩:=h.near;have:=mJ hP h.den h1;exact⟨r,h1,h2,this,this.le⟩
theorem Vl.add (hP:1<=P)(h:Vl L P a x c)(k:Vl L P b y d):Vl L P (.add a b) (x+y) (jN P c d):=by
 obtain⟨r,h1,h2,h3,h4⟩:=h.le hP;obtain⟨t,k1,k2,k3,k4⟩:=k.le hP;have:=h.hu;have:=h.hl;have:=h.hs;have:=k.hu;have:=k.hl;have:=k.hs;refine⟨h.den.add k.den,⟨h.fin,k.fin⟩,⟨h.roots,k.roots⟩,⟨addB r t P,by unfold fH;rw[h1,k1];rfl,?_⟩,by simp only[uE,jN];omega,by simp only[uE,jN];omega,by simp only[bR,jN];omega⟩;exact afD (M:=max c.M d.M) hP h2 k2 (by omega) (by omega) (by simp only[jN];omega) (by simp only[jN];omega) (by simp only[jN];omega)
theorem Vl.sub (hP:1<=P)(h:Vl L P a x c)(k:Vl L P b y d):Vl L P (.sub a b) (x-y) (jN P c d):=by
 obtain⟨r,h1,h2,h3,h4⟩:=h.le hP;obtain⟨t,k1,k2,k3,k4⟩:=k.le hP;have:=h.hu;have:=h.hl;have:=h.hs;have:=k.hu;have:=k.hl;have:=k.hs;refine⟨h.den.sub k.den,⟨h.fin,k.fin⟩,⟨h.roots,k.roots⟩,⟨addB r (notB t) P,by unfold fH;rw[h1,k1];rfl,?_⟩,by simp only[uE,jN];omega,by simp only[uE,jN];omega,by simp only[bR,jN];omega⟩;exact afD (M:=max c.M d.M) hP h2 (am8 k2) (by omega) (by omega) (by simp only[jN];omega) (by simp only[jN];omega) (by simp only[jN];omega)
theorem Vl.mul (hP:1<=P)(h:Vl L P a x c)(k:Vl L P b y d):Vl L P (.mul a b) (x*y) (sI P c d):=by
 obtain⟨r,h1,h2,h3,h4⟩:=h.le hP;obtain⟨t,k1,k2,k3,k4⟩:=k.le hP;have:=h.hu;have:=h.hl;have:=h.hs;have:=k.hu;have:=k.hl;have:=k.hs;refine⟨h.den.mul k.den,⟨h.fin,k.fin⟩,⟨h.roots,k.roots⟩,⟨mulB r t P,by unfold fH;rw[h1,k1];rfl,?_⟩,by simp only[uE,sI];omega,by simp only[uE,sI];omega,by simp only[bR,sI];omega⟩;exact am9 hP h2 k2 h4 k4 (by simp only[sI];omega) (by simp only[sI];omega) (by simp only[sI];omega)
theorem Vl.root (hP:1<=P)(h:Vl L P a x c)(h0:0<=y)(hy:y*y=x)(hm:Ex.root a∈L):Vl L P (.root a) y (oJ P c):=by
 obtain⟨r,h1,h2,h3,h4⟩:=h.le hP;have:=h.hu;have:=h.hl;have:=h.hs;obtain⟨q,hq,-⟩:=afA hP h3 h0 hy;refine⟨h.den.root h0 hy,h.fin,⟨hm,h.roots⟩,⟨q,by unfold fH;rw[h1];exact hq,?_⟩,?_,?_,by simp only[bR,oJ];omega⟩
 . exact ak7 (H:=(c.M+1)/2) (V:=c.W/2) hP h2 (by omega) (by omega) (by simp only[oJ];omega) (by simp only[oJ];omega) hq
 . simp only[uE,oJ];split<;>simp only<;>omega
 . simp only[uE,oJ];split<;>simp only<;>omega
theorem Vl.leaf {v:Nat}{u l:Nat}(hf:Go.Proofs.YtigoiiekebccnaaGreatDoor.fin v)(hv:v<18446744073709551616)(hs:Sz 53 1100 (aX v))(hM:Am M (rv (aX v)))(hu:jL v<=u)(hl:jM v<=l):Vl L P (.leaf v) (rat (rv (aX v))) ⟨M,P,u,l,1100⟩:=by
 refine⟨.leaf v,⟨hf,hv,hs⟩,trivial,⟨atB (aX v),rfl,hM,hM,?_⟩,hu,hl,bhG _⟩;have:=aZ (-P);show rv (aX v)-rv (aX v)<=p2 (-P);grind
end
theorem anD{b:Bl}(h:In v b)(hs:b.lo.man.sign=b.hi.man.sign):Re.sgn v=b.lo.man.sign:=by
 rcases Int.lt_trichotomy b.lo.man 0 with g|g|g
 . rw[bhD.2 g]at hs|-
   have g2:=bhD.1 hs.symm;exact Re.sgn_neg (Re.lt_of_le_of_lt h.2 (by rw[Re.zero_rat,Re.rat_lt];exact(aY _).2.1.2 g2))
 . rw[g]at hs|-
   have g2:b.hi.man=0:=Int.sign_eq_zero_iff_zero.1 hs.symm;have h1:=h.1;have h2:=h.2;rw[(aY _).2.2.2 g]at h1;rw[(aY _).2.2.2 g2]at h2;have:v=0:=Re.le_antisymm h2 h1;rw[this];exact Re.sgn_zero
 . rw[bhE.2 g]at hs|-
   exact Re.sgn_pos (Re.lt_of_lt_of_le (by rw[Re.zero_rat,Re.rat_lt];exact(aY _).1.2 g) h.1)
def gK(x:Dy)(sep:Int):Prop:=x.man<=0\/topD x<=-sep
theorem afI{x:Dy}(h:gK x sep):rv x<p2 (-sep):=by
 rcases h with h|h
 . have:=aZ (-sep)
   rcases Int.lt_or_eq_of_le h with g|g
   . have:=(aY x).2.1.2 g;grind
   . have:=(aY x).2.2.2 g;grind
 . have:=(ak0 x).2;have:=iO h;grind
theorem ahP{b:Bl}(h:In v b)(h1:gK (notD b.lo) sep)(h2:gK b.hi sep)(hv:v≠0->rat (p2 (-sep+1))<=Re.ab v):v=0:=by
 apply Classical.byContradiction;intro h0;have hv:=hv h0;have l1:=afI h1;have l2:=afI h2;rw[nQ]at l1;have hs:=gI (-sep);have hp:=aZ (-sep);rcases Re.ab_cases v with ⟨g,e⟩|⟨g,e⟩<;>rw[e]at hv
 . have:=Re.rat_le.1 (Re.le_trans hv h.2);grind
 . have h3:=Re.neg_le_neg h.1
   rw[<-Re.rat_neg]at h3;have:=Re.rat_le.1 (Re.le_trans hv h3);grind
theorem afJ{x:Dy}(h:rv x<=p2 (-W))(hW:sep+1<=W):gK x sep:=by
 unfold gK;rcases bhF 0 x.man with g|g
 . right
   have h1:=(aY x).1.2 g;have h2:p2 (topD x-1)<=p2 (-W):=by have:=aZ (topD x-1);rcases rD x (by omega)with k|k<;>grind
   rcases bhF (-W) (topD x-1)with k|k
   . have:=anX k;grind
   . omega
 . exact Or.inl g
theorem wP{b:Bl}(h:In v b)(k:Acc M W b)(hW:sep+1<=W)(hv:v≠0->rat (p2 (-sep+1))<=Re.ab v):b.lo.man.sign=b.hi.man.sign\/(gK (notD b.lo) sep/\gK b.hi sep):=by
 by_cases h0:v=0
 . right
   rw[h0]at h;have h1:=h.1;have h2:=h.2;rw[Re.zero_rat,Re.rat_le]at h1 h2;have hw:=k.2.2;exact⟨afJ (W:=W) (by rw[nQ];grind) hW,afJ (W:=W) (by grind) hW⟩
 . left
   have hp:=aZ (-sep);rcases aoW (G:=sep) h k (hv h0) (by omega)with ⟨h1,h2⟩|⟨h1,h2⟩
   . have g1:=(aY b.lo).1.1 (by grind);have g2:=(aY b.hi).1.1 (by grind)
     rw[bhE.2 g1,bhE.2 g2]
   . have g1:=(aY b.lo).2.1.1 (by grind);have g2:=(aY b.hi).2.1.1 (by grind)
     rw[bhD.2 g1,bhD.2 g2]
theorem eD{k k':Int}{i' j j':Nat}(h:(some (⟨k,0,i,j⟩:Nd))=some ⟨k',0,i',j'⟩):k=k'/\i=i'/\j=j':=by
 injection h with h;injection h with h1 h2 h3 h4;exact⟨h1,by omega,by omega⟩
theorem Is.det :∀{e:Ex} {k:Nat},Is ns e k->∀{e':Ex},Is ns e' k->e=e':=by
 intro e
 induction e with
 |leaf v=>
  intro k h e' h';have h:ns[k]? =some ⟨0,v,0,0⟩:=h
  cases e' with
  |leaf v'=>have h':ns[k]? =some ⟨0,v',0,0⟩:=h';rw[h]at h';injection h' with h';injection h' with _ h';rw[h']
  |root a=>obtain⟨i,q,-⟩:=h';rw[h]at q;injection q with q;injection q with q;simp at q
  |add a b=>obtain⟨i,j,q,-⟩:=h';rw[h]at q;injection q with q;injection q with q;simp at q
  |sub a b=>obtain⟨i,j,q,-⟩:=h';rw[h]at q;injection q with q;injection q with q;simp at q
  |mul a b=>obtain⟨i,j,q,-⟩:=h';rw[h]at q;injection q with q;injection q with q;simp at q
  |div a b=>obtain⟨i,j,q,-⟩:=h';rw[h]at q;injection q with q;injection q with q;simp at q
 |root a iha=>
  intro k h e' h';obtain⟨i,h1,h2,h3⟩:=h
  cases e' with
  |leaf v'=>have h':ns[k]? =some ⟨0,v',0,0⟩:=h';rw[h1]at h';injection h' with h';injection h' with h';simp at h'
  |root a'=>obtain⟨i',q,q2,q3⟩:=h';rw[h1]at q;obtain⟨-,rfl,-⟩:=eD (j:=0) (j':=0) q;rw[iha h3 q3]
  |add a b=>obtain⟨i',j,q,-⟩:=h';rw[h1]at q;have:=(eD (j:=0) q).1;simp at this
  |sub a b=>obtain⟨i',j,q,-⟩:=h';rw[h1]at q;have:=(eD (j:=0) q).1;simp at this
  |mul a b=>obtain⟨i',j,q,-⟩:=h';rw[h1]at q;have:=(eD (j:=0) q).1;simp at this
  |div a b=>obtain⟨i',j,q,-⟩:=h';rw[h1]at q;have:=(eD (j:=0) q).1;simp at this
 |add a b iha ihb=>
  intro k h e' h';obtain⟨i,j,h1,h2,h3,h4,h5⟩:=h
  cases e' with
  |leaf v'=>have h':ns[k]? =some ⟨0,v',0,0⟩:=h';rw[h1]at h';injection h' with h';injection h' with h';simp at h'
  |root a'=>obtain⟨i',q,-⟩:=h';rw[h1]at q;have:=(eD (j':=0) q).1;simp at this
  |add a' b'=>obtain⟨i',j',q,q2,q3,q4,q5⟩:=h';rw[h1]at q;obtain⟨-,rfl,rfl⟩:=eD q;rw[iha h4 q4,ihb h5 q5]
  |sub a b=>obtain⟨i',j,q,-⟩:=h';rw[h1]at q;have:=(eD q).1;simp at this
  |mul a b=>obtain⟨i',j,q,-⟩:=h';rw[h1]at q;have:=(eD q).1;simp at this
  |div a b=>obtain⟨i',j,q,-⟩:=h';rw[h1]at q;have:=(eD q).1;simp at this
 |sub a b iha ihb=>
  intro k h e' h';obtain⟨i,j,h1,h2,h3,h4,h5⟩:=h
  cases e' with
  |leaf v'=>have h':ns[k]? =some ⟨0,v',0,0⟩:=h';rw[h1]at h';injection h' with h';injection h' with h';simp at h'
  |root a'=>obtain⟨i',q,-⟩:=h';rw[h1]at q;have:=(eD (j':=0) q).1;simp at this
  |sub a' b'=>obtain⟨i',j',q,q2,q3,q4,q5⟩:=h';rw[h1]at q;obtain⟨-,rfl,rfl⟩:=eD q;rw[iha h4 q4,ihb h5 q5]
  |add a b=>obtain⟨i',j,q,-⟩:=h';rw[h1]at q;have:=(eD q).1;simp at this
  |mul a b=>obtain⟨i',j,q,-⟩:=h';rw[h1]at q;have:=(eD q).1;simp at this
  |div a b=>obtain⟨i',j,q,-⟩:=h';rw[h1]at q;have:=(eD q).1;simp at this
 |mul a b iha ihb=>
  intro k h e' h';obtain⟨i,j,h1,h2,h3,h4,h5⟩:=h
  cases e' with
  |leaf v'=>have h':ns[k]? =some ⟨0,v',0,0⟩:=h';rw[h1]at h';injection h' with h';injection h' with h';simp at h'
  |root a'=>obtain⟨i',q,-⟩:=h';rw[h1]at q;have:=(eD (j':=0) q).1;simp at this
  |mul a' b'=>obtain⟨i',j',q,q2,q3,q4,q5⟩:=h';rw[h1]at q;obtain⟨-,rfl,rfl⟩:=eD q;rw[iha h4 q4,ihb h5 q5]
  |add a b=>obtain⟨i',j,q,-⟩:=h';rw[h1]at q;have:=(eD q).1;simp at this
  |sub a b=>obtain⟨i',j,q,-⟩:=h';rw[h1]at q;have:=(eD q).1;simp at this
  |div a b=>obtain⟨i',j,q,-⟩:=h';rw[h1]at q;have:=(eD q).1;simp at this
 |div a b iha ihb=>
  intro k h e' h';obtain⟨i,j,h1,h2,h3,h4,h5⟩:=h
  cases e' with
  |leaf v'=>have h':ns[k]? =some ⟨0,v',0,0⟩:=h';rw[h1]at h';injection h' with h';injection h' with h';simp at h'
  |root a'=>obtain⟨i',q,-⟩:=h';rw[h1]at q;have:=(eD (j':=0) q).1;simp at this
  |div a' b'=>obtain⟨i',j',q,q2,q3,q4,q5⟩:=h';rw[h1]at q;obtain⟨-,rfl,rfl⟩:=eD q;rw[iha h4 q4,ihb h5 q5]
  |add a b=>obtain⟨i',j,q,-⟩:=h';rw[h1]at q;have:=(eD q).1;simp at this
  |sub a b=>obtain⟨i',j,q,-⟩:=h';rw[h1]at q;have:=(eD q).1;simp at this
  |mul a b=>obtain⟨i',j,q,-⟩:=h';rw[h1]at q;have:=(eD q).1;simp at this
inductive SubE:Ex->Ex->Prop
 |refl (a:Ex):SubE a a
 |addL {x a b:Ex} (h:SubE x a):SubE x (.add a b)
 |addR {x a b:Ex} (h:SubE x b):SubE x (.add a b)
 |subL {x a b:Ex} (h:SubE x a):SubE x (.sub a b)
 |subR {x a b:Ex} (h:SubE x b):SubE x (.sub a b)
 |mulL {x a b:Ex} (h:SubE x a):SubE x (.mul a b)
 |mulR {x a b:Ex} (h:SubE x b):SubE x (.mul a b)
 |divL {x a b:Ex} (h:SubE x a):SubE x (.div a b)
 |divR {x a b:Ex} (h:SubE x b):SubE x (.div a b)
 |root {x a:Ex} (h:SubE x a):SubE x (.root a)
theorem SubE.trans {a b c:Ex}(h:SubE a b)(k:SubE b c):SubE a c:=by
 induction k with
 |refl=>exact h
 |addL _ ih=>exact .addL ih
 |addR _ ih=>exact .addR ih
 |subL _ ih=>exact .subL ih
 |subR _ ih=>exact .subR ih
 |mulL _ ih=>exact .mulL ih
 |mulR _ ih=>exact .mulR ih
 |divL _ ih=>exact .divL ih
 |divR _ ih=>exact .divR ih
 |root _ ih=>exact .root ih
theorem SubE.fin {a b:Ex}(h:SubE a b)(hf:FinE b):FinE a:=by
 induction h with
 |refl=>exact hf
 |addL _ ih=>exact ih hf.1
 |addR _ ih=>exact ih hf.2
 |subL _ ih=>exact ih hf.1
 |subR _ ih=>exact ih hf.2
 |mulL _ ih=>exact ih hf.1
 |mulR _ ih=>exact ih hf.2
 |divL _ ih=>exact ih hf.1
 |divR _ ih=>exact ih hf.2
 |root _ ih=>exact ih hf
theorem SubE.den {a b:Ex}(h:SubE a b):∀{v:Re},DenR b v->∃u,DenR a u:=by
 induction h with
 |refl=>intro v hv;exact⟨v,hv⟩
 |addL _ ih=>intro v hv;cases hv with|add ha hb=>exact ih ha
 |addR _ ih=>intro v hv;cases hv with|add ha hb=>exact ih hb
 |subL _ ih=>intro v hv;cases hv with|sub ha hb=>exact ih ha
 |subR _ ih=>intro v hv;cases hv with|sub ha hb=>exact ih hb
 |mulL _ ih=>intro v hv;cases hv with|mul ha hb=>exact ih ha
 |mulR _ ih=>intro v hv;cases hv with|mul ha hb=>exact ih hb
 |divL _ ih=>intro v hv;cases hv with|div ha hb _ _=>exact ih ha
 |divR _ ih=>intro v hv;cases hv with|div ha hb _ _=>exact ih hb
 |root _ ih=>intro v hv;cases hv with|root ha _ _=>exact ih ha
theorem SubE.size {a b:Ex}{P:Int}(hP:1<=P)(h:SubE a b):bR P a<=bR P b:=by
 induction h with
 |refl=>exact bhG _
 |@addL a b _ ih=>have:=gJ hP b;simp only[bR];omega
 |@addR a b _ ih=>have:=gJ hP a;simp only[bR];omega
 |@subL a b _ ih=>have:=gJ hP b;simp only[bR];omega
 |@subR a b _ ih=>have:=gJ hP a;simp only[bR];omega
 |@mulL a b _ ih=>have:=gJ hP b;simp only[bR];omega
 |@mulR a b _ ih=>have:=gJ hP a;simp only[bR];omega
 |@divL a b _ ih=>have:=gJ hP b;simp only[bR];omega
 |@divR a b _ ih=>have:=gJ hP a;simp only[bR];omega
 |@root a _ ih=>simp only[bR];omega
noncomputable def balT(ns:List Nd)(P:Int)(i:Nat):Option Bl:=by
 classical exact if h:∃a,Is ns a i then fH h.choose P else none
theorem fF{P:Int}{a:Ex}(h:Is ns a i):balT ns P i=fH a P:=by
 unfold balT;have hex:∃a,Is ns a i:=⟨a,h⟩;rw[dif_pos hex,hex.choose_spec.det h]
theorem alA{d:Dy}(hB:B<=400000)(hE:E<=4000000)(h:Sz B E d):SmQ d/\Canon d/\FitD d:=by
 obtain⟨h1,h2,h3⟩:=h;have hq:SmQ d:=by
  by_cases h0:d.man=0
  . have he:d.exp=0:=by
     have h1':mkDy d.man d.exp=d:=h1;rw[h0,aT]at h1';exact(congrArg Dy.exp h1').symm
    exact⟨by omega,by omega,by omega⟩
  . have:=h3 h0;have:=lF h0
    exact⟨by omega,by omega,by omega⟩
 refine⟨hq,h1,hq,?_⟩;by_cases h0:d.man=0
 . unfold topD;rw[if_pos h0];decide
 . have:=h3 h0;have:=lF h0;omega
theorem alB{b:Bl}(hB:B<=400000)(hE:E<=4000000)(h:SzB B E b):Okb b/\FitD b.lo/\FitD b.hi:=by
 obtain⟨a1,a2,a3⟩:=alA hB hE h.1;obtain⟨b1,b2,b3⟩:=alA hB hE h.2;exact⟨⟨⟨a1,b1⟩,a2,b2⟩,a3,b3⟩
def Part(ns:List Nd)(e:Ex)(i:Nat):Prop:=∃a,SubE a e/\Is ns a i
theorem aP(i:Nat):((i:Int)).toNat=i:=Int.toNat_natCast i
theorem z8:ClS ns (Part ns e):=by
 intro x n ⟨a,hs,hi⟩ hn o ho
 cases a with
 |leaf v=>
  have hi:ns[x]? =some ⟨0,v,0,0⟩:=hi;rw[hn]at hi;cases hi
  simp[opsN]at ho
 |root a=>
  obtain⟨i,q,-,q3⟩:=hi;rw[hn]at q;cases q
  simp[opsN]at ho;subst ho;rw[aP];exact⟨a,(SubE.root (SubE.refl a)).trans hs,q3⟩
 |add a b=>
  obtain⟨i,j,q,-,-,q4,q5⟩:=hi;rw[hn]at q;cases q
  simp[opsN]at ho;rcases ho with rfl|rfl<;>rw[aP]
  . exact⟨a,(SubE.addL (SubE.refl a)).trans hs,q4⟩
  . exact⟨b,(SubE.addR (SubE.refl b)).trans hs,q5⟩
 |sub a b=>
  obtain⟨i,j,q,-,-,q4,q5⟩:=hi;rw[hn]at q;cases q
  simp[opsN]at ho;rcases ho with rfl|rfl<;>rw[aP]
  . exact⟨a,(SubE.subL (SubE.refl a)).trans hs,q4⟩
  . exact⟨b,(SubE.subR (SubE.refl b)).trans hs,q5⟩
 |mul a b=>
  obtain⟨i,j,q,-,-,q4,q5⟩:=hi;rw[hn]at q;cases q
  simp[opsN]at ho;rcases ho with rfl|rfl<;>rw[aP]
  . exact⟨a,(SubE.mulL (SubE.refl a)).trans hs,q4⟩
  . exact⟨b,(SubE.mulR (SubE.refl b)).trans hs,q5⟩
 |div a b=>
  obtain⟨i,j,q,-,-,q4,q5⟩:=hi;rw[hn]at q;cases q
  simp[opsN]at ho;rcases ho with rfl|rfl<;>rw[aP]
  . exact⟨a,(SubE.divL (SubE.refl a)).trans hs,q4⟩
  . exact⟨b,(SubE.divR (SubE.refl b)).trans hs,q5⟩
theorem ahQ{x:Re}{b:Bl}(h:In x b)(h0:0<=x):0<=b.hi.man:=by
 have h1:=Re.le_trans h0 h.2;rw[Re.zero_rat,Re.rat_le]at h1;rcases bhF b.hi.man 0 with g|g
 . have:=(aY b.hi).2.1.2 g;grind
 . exact g
theorem apL{P:Int}(hf:FinE e)(hd:DenR e v)(hs:bR P e<=4000000)(hP:1<=P/\P<=65536):GB ns (Part ns e) (balT ns P) P:=by
 refine⟨z8,?_,?_,?_,?_⟩
 . intro x n ⟨a,hsub,hi⟩ hn
   rw[fF hi]
   cases a with
   |leaf v=>
    have hi:ns[x]? =some ⟨0,v,0,0⟩:=hi;rw[hn]at hi;cases hi;rfl
   |root a=>
    obtain⟨i,q,-,q3⟩:=hi;rw[hn]at q;cases q
    simp only[aP,fF q3];rfl
   |add a b=>
    obtain⟨i,j,q,-,-,q4,q5⟩:=hi;rw[hn]at q;cases q
    simp only[aP,fF q4,fF q5];rfl
   |sub a b=>
    obtain⟨i,j,q,-,-,q4,q5⟩:=hi;rw[hn]at q;cases q
    simp only[aP,fF q4,fF q5];rfl
   |mul a b=>
    obtain⟨i,j,q,-,-,q4,q5⟩:=hi;rw[hn]at q;cases q
    simp only[aP,fF q4,fF q5];rfl
   |div a b=>
    obtain⟨i,j,q,-,-,q4,q5⟩:=hi;rw[hn]at q;cases q
    simp only[aP,fF q4,fF q5];rfl
 . intro x b ⟨a,hsub,hi⟩ hb
   rw[fF hi]at hb;have h1:=wM hP.1 (hsub.fin hf) hb;have h2:=hsub.size hP.1;exact alB (by omega) (by omega) h1
 . intro x n ⟨a,hsub,hi⟩ hn h0
   cases a with
   |leaf v=>
    have hi:ns[x]? =some ⟨0,v,0,0⟩:=hi;rw[hn]at hi;cases hi
    obtain⟨h1,h2,h3⟩:=hsub.fin hf;exact⟨h2,h1,(alA (by omega) (by omega) h3).1.smD⟩
   |root a=>obtain⟨i,q,-⟩:=hi;rw[hn]at q;cases q;simp at h0
   |add a b=>obtain⟨i,j,q,-⟩:=hi;rw[hn]at q;cases q;simp at h0
   |sub a b=>obtain⟨i,j,q,-⟩:=hi;rw[hn]at q;cases q;simp at h0
   |mul a b=>obtain⟨i,j,q,-⟩:=hi;rw[hn]at q;cases q;simp at h0
   |div a b=>obtain⟨i,j,q,-⟩:=hi;rw[hn]at q;cases q;simp at h0
 . intro x n ⟨a,hsub,hi⟩ hn h5 b hb
   cases a with
   |leaf v=>
    have hi:ns[x]? =some ⟨0,v,0,0⟩:=hi;rw[hn]at hi;cases hi;simp at h5
   |root a=>
    obtain⟨i,q,-,q3⟩:=hi;rw[hn]at q;cases q
    simp only[aP,fF q3]at hb;obtain⟨u,hu⟩:=hsub.den hd
    cases hu with
    |root ha h0 hs'=>
     refine ahQ (mJ hP.1 ha hb) ?_;rw[<-hs'];exact Re.sq_nonneg u
   |add a b=>obtain⟨i,j,q,-⟩:=hi;rw[hn]at q;cases q;simp at h5
   |sub a b=>obtain⟨i,j,q,-⟩:=hi;rw[hn]at q;cases q;simp at h5
   |mul a b=>obtain⟨i,j,q,-⟩:=hi;rw[hn]at q;cases q;simp at h5
   |div a b=>obtain⟨i,j,q,-⟩:=hi;rw[hn]at q;cases q;simp at h5
end
end Go.Proofs.YtigoiiekebccnaaGreatDoor
