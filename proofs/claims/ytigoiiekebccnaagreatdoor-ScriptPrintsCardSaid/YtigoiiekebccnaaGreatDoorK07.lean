/- A part of the proof: contracts of functions and plain laws (NatV, NatW, Int, IntA, IntB, IntC, IntD, Held). -/
import Derived.Test.YtigoiiekebccnaaGreatDoorK06
import Derived.Deep.RegionHeld3
import Derived.StillTail
set_option linter.unusedVariables false
set_option linter.unusedSimpArgs false
set_option linter.unnecessarySimpa false
set_option maxHeartbeats 25600000
set_option maxRecDepth 100000
namespace Go.Proofs.YtigoiiekebccnaaGreatDoor
open Go.RowKit
open _root_.Array renaming getElem?_eq_some_iff->avA
open Go.Region renaming ready->avB,waitsFor->avJ,wanted->avK,binds->avN
open Nat renaming le_trans->au9,eq_zero_or_pos->avC,pow_le_pow_right->avD,mul_le_mul_left->avE,lt_of_lt_of_le->avF,lt_or_ge->avG,le_of_lt->avH,two_pow_pos->avI,pow_succ->avL,le_of_eq->avM,pow_one->avO,le_refl->avP
variable{a:Addr}{x y:Int}{xs:List Nat}{B fuel g n:Nat}{p q:Nat->Prop}{o:Obj}{T:TypeId}{b v va:Value}{w w':World}
theorem NatP.unique {ys:List Nat}(h:NatP p w v xs)(h':NatP q w v ys):xs=ys:=by
 obtain⟨A,c,e1,h2,h3,h4,h5⟩:=h;obtain⟨A',c',e1',h2',h3',h4',h5'⟩:=h';rw[e1]at e1';injection e1' with ea el ec;subst ea;refine List.ext_getElem el fun i hi hi'=> ?_;obtain⟨b,off,e,_,_,hc⟩:=h5 (by omega);obtain⟨b',off',e',_,_,hc'⟩:=h5' (by omega);rw[e]at e';obtain⟨rfl,rfl⟩:b=b'/\off=off':=by have:=Option.some.inj e';exact⟨congrArg Addr.block this,congrArg Addr.off this⟩
 have h6:=hc i hi;rw[hc' i hi',cK hi,cK hi']at h6;have h7:(ys[i]:Int)=(xs[i]:Int):=by
  have:=Option.some.inj h6;injection this
 omega
open Classical in
noncomputable def aiM(w:World)(v:Value):Nat:=if h:∃xs,NatV w v xs then val h.choose else 0
theorem aaX(h:NatP p w v xs):aiM w v=val xs:=by
 have hex:∃xs,NatV w v xs:=⟨xs,h.any⟩;unfold aiM;rw[dif_pos hex];rw[NatP.unique hex.choose_spec h]
theorem eT(n:Nat):bS n<=n:=by
 have h:=(dQ n).1;rcases avC (bS n)with h0|h0
 . omega
 . have:bS n*1<=bS n*bS n:=avE _ h0
   omega
theorem adF{r s:Nat}(h:r*r<=n)(hs:iQ s n):r<=s:=by
 apply Nat.le_of_not_lt;intro h1;have:(s+1)*(s+1)<=r*r:=Nat.mul_le_mul h1 h1;have:=hs.2;omega
theorem af2(h:0<n):0<bS n:=by
 have h1:=(dQ n).2;rcases avC (bS n)with h0|h0
 . rw[h0]at h1;omega
 . exact h0
theorem adG(a h:Nat):bS a<=(bS (a/2^(2*h))+1)*2^h/\0<(bS (a/2^(2*h))+1)*2^h:=
 ⟨ac2 a h _ (dQ _).1 (dQ _).2 _ (dQ _).1,Nat.mul_pos (by omega) (avI _)⟩
theorem wZ(a h n:Nat)(ha:a<B64^n)(h0:0<a)(hh1:1<=h)(hh:h<=bits a/4):(bS (a/2^(2*h))+1)*2^h<B64^(n+1):=by
 have h1:=eT (a/2^(2*h));have h2:a/2^(2*h)*2^(2*h)<=a:=Nat.div_mul_le_self _ _;have h3:(2:Nat)^(2*h)=2^h*2^h:=by rw[<-Nat.pow_add];congr 1;omega
 have h4:1<=2^h:=avI _;have h5:2^h<=a:=by
  have h6:2^(bits a-1)<=a:=dZ a (by omega);exact au9 (avD (by omega) (by omega)) h6
 have h6:(a/2^(2*h))*2^h<=a:=by
  refine au9 ?_ h2;rw[h3,<-Nat.mul_assoc];exact Nat.le_mul_of_pos_right _ h4
 have h7:bS (a/2^(2*h))*2^h<=(a/2^(2*h))*2^h:=Nat.mul_le_mul_right _ h1;have h8:(bS (a/2^(2*h))+1)*2^h=bS (a/2^(2*h))*2^h+2^h:=by rw[Nat.add_mul,Nat.one_mul]
 have h9:B64^n*2<=B64^(n+1):=by rw[avL];exact avE _ (by unfold B64;omega)
 omega
theorem af3(N:Nat)(ih:∀(p:Nat->Prop) (va:Value) (xs:List Nat) (w:World),NatP p w va xs->Tr xs->xs.length<=268435456->val xs<N->Calls Tryz.prog 374 #[va] w (RetN w.heap.size w (bS (val xs))))
 (p:Nat->Prop) (va:Value) (xs:List Nat) (w:World) (hx:NatP p w va xs) (tx:Tr xs) (hl:xs.length<=268435456) (hN:val xs<=N):Calls Tryz.prog 374 #[va] w (RetN w.heap.size w (bS (val xs))):=by
 have IH:=hdd ih;clear ih;have HX:=hdd hx;have TX:=hdd tx;have OX:=hdd hx.ok;have HN:=hdd hN;clear hN;obtain⟨A,c,rfl,h2,⟨h3,h3b⟩,-,-⟩:=hx;by_cases h2l:xs.length<2
 . go_enter Tryz.func374,Tryz.ntmps374
   go_wp2_with fail
   refine(yY HX.out TX.out (by omega)).mono ?_;rintro e w1⟨rfl,rfl⟩;have hr:bS (val xs)<B64:=by
    have h1:=eT (val xs);have h2:=bH xs OX.out;have h3:B64^xs.length<=B64^1:=avD bF (by omega);rw[avO]at h3;omega
   have HR:=hdd hr;clear hr;go_wp2_with fail
   have hbn:Below w.heap.size w (w.alloc (Obj.cells #[Value.int .u64 (bS (val xs):Nat)] 198)):=(Below.refl _ _).alloc nlr _;have hone:NatP AnyB (w.alloc (Obj.cells #[Value.int .u64 (bS (val xs):Nat)] 198)) (.slice (some ⟨w.heap.size,0,none⟩) 1 1) [bS (val xs)]:=NatP.one HR.out (heap_alloc_new w _) trivial;refine(kQ hone).mono ?_;rintro e w5⟨hb,v2,r',rfl,hr,tr,hvr⟩;have HF:=hdd (RetN.of (n:=bS (val xs)) (hbn.trans (hb.mono hbn.size)) (hr.weak (fun b h _=>au9 hbn.size h)) tr (by rw[hvr,sZ]));clear hb hr tr hvr hbn hone;go_wp2;go_ret;exact HF.out
 . have hne:xs≠[]:=by rintro rfl;simp at h2l
   have hbv:=jO xs OX.out TX.out hne;have hbl:1<=bits (xs.getLast hne)/\bits (xs.getLast hne)<=64:=by
    have h0:=TX.out hne;have h1:=OX.out _ (List.getLast_mem hne);refine⟨by unfold bits;rw[if_neg h0];omega,by rw[aF];exact h1⟩
   have hb1:65<=bits (val xs):=by omega
   have hb2:bits (val xs)<=64*xs.length:=by omega
   obtain⟨h,hh⟩:∃h,h=bits (val xs)/4:=⟨_,rfl⟩;have hh1:1<=h:=by omega
   have hh2:h<=16*xs.length:=by omega
   have hhI:((bits (val xs):Nat):Int)/4=(h:Int):=by omega
   have HH:=hdd hhI;have hv0:0<val xs:=by
    rcases avC (val xs)with h0|h0
    . exact absurd ((dF xs TX.out).1 h0) hne
    . exact h0
   have HV0:=hdd hv0;have hle:=hdd hb2;have HH1:=hdd (show 1<=h/\h<=bits (val xs)/4 from⟨hh1,avM hh⟩);clear hbv hbl hb1 hb2 hh hhI hv0 tx;go_enter Tryz.func374,Tryz.ntmps374
   go_wp2_with fail
   refine(cZ HX.out).mono ?_;rintro e w1⟨rfl,kd,rfl⟩;replace HX:=hdd (HX.out.below (below_drewN w kd));have HB:=hdd (below_drewN w kd);generalize w.drewN kd=w1 at HX HB|-;have hsmall:((bits (val xs):Nat):Int)<=64*(xs.length:Int):=by have:=hle.out;omega
   have hh3:=HH.out;go_wp2_with fail
   have e2h:2*(h:Int)=((2*h:Nat):Int):=by omega
   rw[e2h];clear hh3 hsmall;refine(mZ HX.out (by omega)).mono ?_;rintro e w2⟨hb,v2,hs,rfl,hh,th,hvh⟩;replace HX:=hdd (HX.out.below hb);replace HB:=hdd (HB.out.trans (hb.mono HB.out.size));have HHv:=hdd hvh;have HHn:=hdd hh;have HHt:=hdd th;have hlt:val hs<val xs:=by
    rw[hvh];refine Nat.div_lt_self HV0.out ?_;exact avF (by omega) (avD (n:=2) (by omega) (show 1<=2*h by omega))
   have HLT:=hdd hlt;have hhl:hs.length<=xs.length:=bC hs th _ (Nat.lt_trans hlt (bH xs OX.out));clear hb hh th hvh hlt e2h;go_wp2_with fail
   refine(IH.out _ _ hs _ HHn.out HHt.out (by omega) (by have:=HN.out;have:=HLT.out;omega)).mono ?_;rintro e w3⟨hb,v3,ss,rfl,hss,ts,hvs⟩;replace HX:=hdd (HX.out.below hb);replace HB:=hdd (HB.out.trans (hb.mono HB.out.size));have HSv:=hdd hvs;have HSn:=hdd hss;have HSt:=hdd ts;have hsl:ss.length<=xs.length:=bC ss ts _ (by
    rw[hvs];have:=eT (val hs);have:=HLT.out;have:=bH xs OX.out;omega)
   clear hb hss ts hvs;go_wp2_with fail
   have hbn:Below w3.heap.size w3 (w3.alloc (Obj.cells #[Value.int .u64 1] 198)):=(Below.refl _ _).alloc nlr _;have hone:NatP AnyB (w3.alloc (Obj.cells #[Value.int .u64 1] 198)) (.slice (some ⟨w3.heap.size,0,none⟩) 1 1) [1]:=NatP.one (x:=1) (by unfold B64;omega) (heap_alloc_new w3 _) trivial;refine(jP (HSn.out.below hbn) hone (by omega) (by simp)).mono ?_;rintro e w4⟨hb,v4,s1,rfl,hs1,ts1,hvs1⟩;replace HX:=hdd (HX.out.below (hbn.trans (hb.mono hbn.size)));replace HB:=hdd (HB.out.trans ((hbn.trans (hb.mono hbn.size)).mono HB.out.size));have HS1v:=hdd hvs1;have HS1n:=hdd hs1;have HS1t:=hdd ts1;have hs1l:s1.length<=xs.length+1:=bC s1 ts1 _ (by
    rw[hvs1,sZ,HSv.out,avL];have h1:=eT (val hs);have h2:=HLT.out;have h3:=bH xs OX.out;have h4:B64^xs.length*1<=B64^xs.length*B64:=avE _ (by unfold B64;omega);omega)
   clear hb hs1 ts1 hvs1 hbn hone;go_wp2_with fail
   refine(oP HS1n.out (by omega)).mono ?_;rintro e w5⟨hb,v5,r0,rfl,hr0,tr0,hvr0⟩;have hsz:=HB.out.size;replace HX:=hdd (HX.out.below hb);replace HB:=hdd (HB.out.trans (hb.mono HB.out.size));have HRn:=hdd (hr0.weak (q:=fun b=>w.heap.size<=b) fun b h _=>au9 hsz h);have HRt:=hdd tr0;have hr0v:val r0=(bS (val xs/2^(2*h))+1)*2^h:=by rw[hvr0,HS1v.out,sZ,HSv.out,HHv.out]
   have HG:=hdd (adG (val xs) h);rw[<-hr0v]at HG;have hr0l:r0.length<=xs.length+1:=bC r0 tr0 _ (by
    rw[hr0v];exact wZ _ _ _ (bH xs OX.out) HV0.out HH1.out.1 HH1.out.2)
   clear hb hr0 tr0 hvr0 hr0v hsz hs1l hsl hhl HS1n HS1t HS1v HSn HSt HSv HHn HHt HHv HLT;go_wp2_with fail
   go_loopw [4] (fun v wr=>∃rs:List Nat,rs.length<=xs.length+1/\Hid (NatP (fun b=>w.heap.size<=b) wr v rs)/\Hid (Tr rs)/\Hid (Below w.heap.size w wr)/\Hid (NatP p wr (.slice A xs.length c) xs)/\
    Hid (bS (val xs)<=val rs/\0<val rs)) (fun v wr=>aiM wr v)
   case atStart=>exact⟨r0,hr0l,HRn,HRt,HB,HX,HG⟩
   case round=>
    clear HRn HRt HB HX HG hr0l;obtain⟨rs,hrl,HR,HT,HB,HX,HG⟩:=hrel;have HRv:=hdd (aaX HR.out);go_wp2_with fail
    refine(oC HX.out HR.out (by have:=HG.out.2;omega) (by omega)).mono ?_;rintro e w6⟨hb,v1,v2,qs,ms,rfl,hq,tq,hvq,-,-,-⟩;have HX0:=HX;have HB0:=HB;have HR0:=HR;replace HX:=hdd (HX.out.below hb);replace HB:=hdd (HB.out.trans (hb.mono HB.out.size));replace HR:=hdd (HR.out.below hb);have HQ:=hdd hq;have HQt:=hdd tq;have HQv:=hdd hvq;clear hb hq tq hvq HX0 HB0 HR0;go_wp2_with fail
    refine(mY HQ.out HR.out).mono ?_;rintro e w7⟨rfl,kd,rfl⟩;replace HX:=hdd (HX.out.below (below_drewN w6 kd));replace HR:=hdd (HR.out.below (below_drewN w6 kd));replace HQ:=hdd (HQ.out.below (below_drewN w6 kd));replace HB:=hdd (HB.out.trans ((below_drewN w6 kd).mono HB.out.size));generalize w6.drewN kd=w7 at HX HB HR HQ|-;rcases avG (val qs) (val rs)with hlt|hge
    . have hci:cmpN (val qs) (val rs)=-1:=by unfold cmpN;rw[if_pos hlt]
      have HLT:=hdd hlt;clear hlt;rw[hci];clear hci;have hql:qs.length<=xs.length+1:=au9 (dK _ _ HQt.out HR.out.ok (avH HLT.out)) hrl;go_wp2_with fail
      refine(jP HR.out HQ.out (by omega) (by omega)).mono ?_;rintro e w8⟨hb,v3,ts,rfl,ht,tt,hvt⟩;replace HX:=hdd (HX.out.below hb);replace HB:=hdd (HB.out.trans (hb.mono HB.out.size));have HTn:=hdd ht;have HTv:=hdd hvt;clear hb ht tt hvt;go_wp2_with fail
      refine(mZ (n:=1) HTn.out (by omega)).mono ?_;rintro e w9⟨hb,v4,ns,rfl,hn,tn,hvn⟩;have hsz:=HB.out.size;replace HX:=hdd (HX.out.below hb);replace HB:=hdd (HB.out.trans (hb.mono HB.out.size));have HN1:=hdd (hn.weak (q:=fun b=>w.heap.size<=b) fun b h _=>au9 hsz h);have HNt:=hdd tn;have hns:val ns=(val rs+val qs)/2:=by rw[hvn,HTv.out,avO]
      have HNs:=hdd hns;clear hb hn tn hvn hsz hns;go_wp2
      go_roundw
      case rel=>
       have hlt:=HLT.out;have hns:=HNs.out;refine⟨ns,au9 (dK _ _ HNt.out HR.out.ok (by omega)) hrl,HN1,HNt,HB,HX,hdd ?_⟩;have h1:=qM (val xs) (val rs) _ HG.out.2 (dQ (val xs)).1;rw[<-HQv.out]at h1;refine⟨by omega,?_⟩;have h2:=af2 HV0.out;omega
      case measure=>
       rw[HRv.out,aaX HN1.out,HNs.out];have hlt:=HLT.out;omega
    . have hci:∃m:Nat,cmpN (val qs) (val rs)=(m:Int):=by
       unfold cmpN;rw[if_neg (by omega)]
       split
       . exact⟨1,rfl⟩
       . exact⟨0,rfl⟩
      obtain⟨m,hm⟩:=hci;rw[hm];clear hm;have hfin:val rs=bS (val xs):=by
       have h1:=nZ (val xs) (val rs) HG.out.2 (by rw[<-HQv.out];exact hge);exact Nat.le_antisymm (adF h1 (dQ (val xs))) HG.out.1
      have HF:=hdd (RetN.of HB.out HR.out HT.out hfin);clear hfin hge;have hm0:((m:Int)>=0):=by omega
      go_wp2;go_ret;exact HF.out
theorem aiN(hx:NatP p w va xs)(tx:Tr xs)(hl:xs.length<=268435456):Calls Tryz.prog 374 #[va] w (RetN w.heap.size w (bS (val xs))):=by
 have key:∀N:Nat,∀(p:Nat->Prop) (va:Value) (xs:List Nat) (w:World),NatP p w va xs->Tr xs->xs.length<=268435456->val xs<N->Calls Tryz.prog 374 #[va] w (RetN w.heap.size w (bS (val xs))):=by
  intro N
  induction N with
  |zero=>intro p va xs w _ _ _ h;omega
  |succ N ih=>intro p va xs w hx tx hl h;exact af3 N ih p va xs w hx tx hl (by omega)
 exact key (val xs+1) p va xs w hx tx hl (by omega)
def aiO(B:Nat)(w0:World)(m n:Nat)(e:Ending)(w':World):Prop:=
 Below B w0 w'/\∃v1 v2 xs ys,e=.returned (.tuple #[v1,v2])/\NatP (fun b=>B<=b) w' v1 xs/\Tr xs/\val xs=m/\NatP (fun b=>B<=b) w' v2 ys/\Tr ys/\val ys=n
theorem o6(hx:NatP p w va xs)(hl:xs.length<=268435456):Calls Tryz.prog 369 #[va] w (aiO w.heap.size w (bS (val xs)) (val xs-bS (val xs)*bS (val xs))):=by
 go_enter Tryz.func369,Tryz.ntmps369
 go_wp2_with fail
 refine(aI hx).mono ?_;rintro e w1⟨hw,v1,ys,rfl,hy,ty,hvy,hly⟩;obtain rfl:=hw;have HY:=hdd hy;have HV:=hdd hvy;clear hx hy hvy;go_wp2_with fail
 refine(aiN HY.out ty (by omega)).mono ?_;rintro e w2⟨hb,v2,rs,rfl,hr,tr,hvr⟩;have HB:=hdd hb;replace HY:=hdd (HY.out.below hb);have HR:=hdd hr;have HT:=hdd tr;rw[HV.out]at hvr;have hrl:rs.length<=ys.length:=dK _ _ tr HY.out.ok (by rw[hvr,HV.out];exact eT _);have HVR:=hdd hvr;clear hb hr hvr tr;go_wp2_with fail
 refine(aeJ (cut:=40) (by omega) (by omega) HR.out HR.out (by omega)).mono ?_;rintro e w3⟨hb,v3,ps,rfl,hp,tp,hvp⟩;have hsz:=HB.out.size;replace HB:=hdd (HB.out.trans (hb.mono HB.out.size));replace HY:=hdd (HY.out.below hb);replace HR:=hdd (HR.out.below hb);have HP:=hdd hp;rw[HVR.out]at hvp;have hle:val ps<=val ys:=by rw[hvp,HV.out];exact(dQ _).1
 have hpl:ps.length<=ys.length:=dK _ _ tp HY.out.ok hle;have HVP:=hdd hvp;have HLE:=hdd hle;clear hb hp hvp tp hsz hle;go_wp2_with fail
 refine(oQ HY.out HP.out hpl HLE.out).mono ?_;rintro e w4⟨hb,v4,ds,rfl,hd,td,hvd⟩;have hsz:=HB.out.size;replace HB:=hdd (HB.out.trans (hb.mono HB.out.size));replace HR:=hdd (HR.out.below hb);rw[HV.out,HVP.out]at hvd;have HF:Hid (aiO w.heap.size w (bS (val xs)) (val xs-bS (val xs)*bS (val xs)) (.returned (.tuple #[v2,v4])) w4):=hdd ⟨HB.out,v2,v4,rs,ds,rfl,HR.out,HT.out,HVR.out,hd.weak (fun b h _=>au9 hsz h),td,hvd⟩;clear hb hd hvd td hsz;go_wp2
 go_ret2
 exact HF.out
def sg(neg:Bool)(n:Nat):Int:=if neg then-(n:Int)else n
def IntP(p:Nat->Prop)(w:World)(v:Value)(z:Int):Prop:=
 ∃vm xs,v=.agg #[.bool (decide (z<0)),vm]/\NatP p w vm xs/\Tr xs/\val xs=z.natAbs
def RetZ(B:Nat)(w0:World)(z:Int)(e:Ending)(w':World):Prop:=
 Below B w0 w'/\∃v,e=.returned v/\IntP (fun b=>B<=b) w' v z
theorem bI(b:Bool)(n:Nat):(sg b n).natAbs=n:=by cases b<;>simp[sg]
theorem uQ(b:Bool)(n:Nat):decide (sg b n<0)=(b&&decide ((n:Nat)≠0)):=by
 cases b
 . simp[sg]
 . simp only[sg,if_true,Bool.true_and];congr 1;exact propext ⟨fun h=>by omega,fun h=>by omega⟩
theorem NatP.setCell (h:NatP p w v xs)(ha:∀b,p b->b≠a.block)(u:Value):NatP p (w.setCell a u) v xs:=
 h.keep (by simp) fun b hp _=>Below.heap_setCell w a u b (ha b hp)
theorem aB{a:Value}(h:w.heap[g]? =some (.cells #[a,b] T (0,0))):
 w.cell? ⟨g,0,none⟩=some a/\w.cell? ⟨g,1,none⟩=some b/\w.frozen? ⟨g,0,none⟩=false/\w.frozen? ⟨g,1,none⟩=false:=by
 refine⟨?_,?_,?_,?_⟩<;>simp[World.cell?,World.frozen?,h]
theorem set2{a:Value}(h:w.heap[g]? =some (.cells #[a,b] T (0,0)))(c d:Value):
 ((w.setCell ⟨g,0,none⟩ c).setCell ⟨g,1,none⟩ d).heap[g]? =some (.cells #[c,d] T (0,0)):=by
 have hg:g<w.heap.size:=(avA.1 h).1;have h':w.heap[g]=.cells #[a,b] T (0,0):=(avA.1 h).2;simp[World.setCell,hg,Array.getElem_modify,h']
theorem dD{b:Bool}(hx:NatP p w va xs):
 Calls Tryz.prog 200 #[.bool b,va] w (RetZ w.heap.size w (sg b (val xs))):=by
 go_enter Tryz.func200,Tryz.ntmps200
 go_wp2_with fail
 have hbn:Below w.heap.size w (w.alloc (Obj.cells #[Value.bool false,Value.slice none 0 0] 186)):=(Below.refl _ _).alloc nlr _;refine(kQ (hx.below hbn)).mono ?_;rintro e w1⟨hb,v1,ys,rfl,hy,ty,hvy⟩;have HB:=hdd (hbn.trans (hb.mono hbn.size));have hy2:=hy.weak (q:=fun b=>w.heap.size<b) fun b h _=>by simp at h;omega
 have HY:=hdd hy2;have HTY:=hdd ty;have HVY:=hdd hvy;have HW:Hid (w1.heap[w.heap.size]? =some (Obj.cells #[Value.bool false,Value.slice none 0 0] 186 (0,0))):=hdd (by rw[hb.block _ (by simp)];exact heap_alloc_new w _);clear hb hy hy2 hvy ty hbn hx;obtain⟨A,c,rfl,-⟩:=HY.out;obtain⟨hc0,hc1,hf0,hf1⟩:=aB HW.out;have key:∀n:Int,n=sg b (val xs)->Hid (RetZ w.heap.size w (sg b (val xs)) (.returned (.agg #[.bool (decide (n<0)),.slice A ys.length c])) ((w1.setCell ⟨w.heap.size,0,none⟩ (.bool (decide (n<0)))).setCell ⟨w.heap.size,1,none⟩ (.slice A ys.length c))):=by
  rintro n rfl;refine hdd ⟨(HB.out.setCell nlr _).setCell nlr _,_,rfl,_,ys,rfl,?_,HTY.out,by rw[HVY.out,bI]⟩;exact((HY.out.setCell (fun b hb=>by simp;omega) _).setCell (fun b hb=>by simp;omega) _).weak fun b hb _=>avH hb
 have hs:=fun n:Int=>set2 HW.out (.bool (decide (n<0))) (.slice A ys.length c)
 cases b
 . have hd:decide (sg false (val xs)<0)=false:=by rw[uQ];rfl
   have HF:=key _ rfl;have hs':=hs (sg false (val xs));rw[hd]at HF hs';clear key hs hd;go_wp2;obtain⟨c0,c1,-,-⟩:=aB hs';refine bodyPost_ret (v:=.agg #[_,_]) (by simp[results,Tryz.results200,go_sem,c0,c1];first|exact⟨rfl,rfl⟩|rfl) rfl ?_;exact HF.out
 . rcases avC ys.length with h0|h0
   . have hv0:val xs=0:=by
      obtain rfl:=List.length_eq_zero_iff.1 h0;rw[<-HVY.out];rfl
     have hi:decide (0<ys.length)=false:=decide_eq_false (by omega);clear h0;have hd:decide (sg true (val xs)<0)=false:=by rw[uQ,hv0];rfl
     have HF:=key _ rfl;have hs':=hs (sg true (val xs));rw[hd]at HF hs';clear key hs hd;go_wp2;obtain⟨c0,c1,-,-⟩:=aB hs';refine bodyPost_ret (v:=.agg #[_,_]) (by simp[results,Tryz.results200,go_sem,c0,c1];first|exact⟨rfl,rfl⟩|rfl) rfl ?_;exact HF.out
   . have hv0:val xs≠0:=by
      intro h;rw[<-HVY.out]at h;have:=(dF ys HTY.out).1 h;rw[this]at h0;simp at h0
     have hi:decide (0<ys.length)=true:=decide_eq_true (by omega);clear h0;have hd:decide (sg true (val xs)<0)=true:=by rw[uQ];simp[hv0]
     have HF:=key _ rfl;have hs':=hs (sg true (val xs));rw[hd]at HF hs';clear key hs hd;go_wp2;obtain⟨c0,c1,-,-⟩:=aB hs';refine bodyPost_ret (v:=.agg #[_,_]) (by simp[results,Tryz.results200,go_sem,c0,c1];first|exact⟨rfl,rfl⟩|rfl) rfl ?_;exact HF.out
def RetK(w:World)(n:Int)(e:Ending)(w':World):Prop:=e=.returned (.int .i64 n)/\Below w.heap.size w w'
theorem IntP.below {z:Int}(h:IntP p w v z)(hb:Below w.heap.size w w'):IntP p w' v z:=by
 obtain⟨vm,xs,h1,h2,h3,h4⟩:=h;exact⟨vm,xs,h1,h2.below hb,h3,h4⟩
theorem IntP.weak {z:Int}(h:IntP p w v z)(hq:∀b,p b->b<w.heap.size->q b):IntP q w v z:=by
 obtain⟨vm,xs,h1,h2,h3,h4⟩:=h;exact⟨vm,xs,h1,h2.weak hq,h3,h4⟩
theorem IntP.setCell {z:Int}(h:IntP p w v z)(ha:∀b,p b->b≠a.block)(u:Value):IntP p (w.setCell a u) v z:=by
 obtain⟨vm,xs,h1,h2,h3,h4⟩:=h;exact⟨vm,xs,h1,h2.setCell ha u,h3,h4⟩
theorem aC(h:w.heap[g]? =some o)(hb:Below B w w')(hg:g<B):w'.heap[g]? =some o:=by rw[hb.block g hg];exact h
theorem aD(h:w.heap[g]? =some o):g<w.heap.size:=(avA.1 h).1
theorem aN(w:World)(o:Obj):Below w.heap.size w (w.alloc o):=(Below.refl _ _).alloc nlr _
theorem bO(n:Nat):bits n=0↔n=0:=by
 unfold bits;split<;>simp_all
theorem aeN{z:Int}(h:n=z.natAbs)(hz:z≠0):bits n≠0:=fun h'=>hz (by have:=(bO n).1 h';omega)
theorem o7{z:Int}(hx:IntP p w v z):
 Calls Tryz.prog 157 #[v] w (RetK w z.sign):=by
 obtain⟨vm,xs,rfl,h1,h2,h3⟩:=hx;have hbn:=aN w (Obj.cells #[Value.bool (decide (z<0)),vm] 186);have HB:=hdd hbn;have H1:=hdd (h1.below hbn);have HW:=hdd (heap_alloc_new w (Obj.cells #[Value.bool (decide (z<0)),vm] 186));clear hbn;go_enter Tryz.func157,Tryz.ntmps157
 go_wp2_with fail
 refine(cZ H1.out).mono ?_;rintro e w1⟨rfl,k,rfl⟩;have HB1:=hdd (HB.out.trans ((below_drewN _ k).mono HB.out.size));replace HW:=hdd (aC HW.out (below_drewN _ k) (aD HW.out));generalize World.drewN _ k=w1 at HB1 HW|-;clear HB;obtain⟨c0,c1,-,-⟩:=aB HW.out;rcases Int.lt_trichotomy z 0 with hz|hz|hz
 . have hd:decide (z<0)=true:=decide_eq_true hz
   have hb:(((bits (val xs):Nat):Int)==0)=false:=beq_eq_false_iff_ne.2 (by have:=aeN h3 (by omega);omega);have HF:Hid (RetK w z.sign (.returned (.int .i64 (-1))) w1):=hdd ⟨by rw[Int.sign_eq_neg_one_of_neg hz],HB1.out⟩;rw[hd]at c0;clear hz hd h3;go_wp2;go_ret;exact HF.out
 . have hb:bits (val xs)=0:=(bO _).2 (by omega)
   have HF:Hid (RetK w z.sign (.returned (.int .i64 0)) w1):=hdd ⟨by rw[hz];rfl,HB1.out⟩;rw[hb];clear hz hb h3;go_wp2;go_ret;exact HF.out
 . have hd:decide (z<0)=false:=decide_eq_false (by omega)
   have hb:(((bits (val xs):Nat):Int)==0)=false:=beq_eq_false_iff_ne.2 (by have:=aeN h3 (by omega);omega);have HF:Hid (RetK w z.sign (.returned (.int .i64 1)) w1):=hdd ⟨by rw[Int.sign_eq_one_of_pos hz],HB1.out⟩;rw[hd]at c0;clear hz hd h3;go_wp2;go_ret;exact HF.out
theorem hbl(h:w.heap[g]? =some o)(hb:Below w.heap.size w w'):w'.heap[g]? =some o:=aC h hb (aD h)
theorem gP{w0 w1:World}{a u vm:Value}{z:Int}(hb:Below B w0 w1)(hg:B<=g)(hw:w1.heap[g]? =some (.cells #[a,b] T (0,0)))
 (h:IntP q w1 (.agg #[u,vm]) z) (hq:∀b,q b->B<=b/\b≠g):
 Hid (RetZ B w0 z (.returned (.agg #[u,vm])) ((w1.setCell ⟨g,0,none⟩ u).setCell ⟨g,1,none⟩ vm))/\
 ((w1.setCell ⟨g,0,none⟩ u).setCell ⟨g,1,none⟩ vm).heap[g]? =some (.cells #[u,vm] T (0,0)):=
 ⟨hdd ⟨(hb.setCell hg _).setCell hg _,_,rfl,((h.setCell (fun b hb=>(hq b hb).2) _).setCell (fun b hb=>(hq b hb).2) _).weak fun b hb _=>(hq b hb).1⟩,set2 hw u vm⟩
theorem IntP.shape {z:Int}(h:IntP p w v z):∃b A n c,v=.agg #[.bool b,.slice A n c]:=by
 obtain⟨vm,xs,h,⟨A,c,rfl,-⟩,-⟩:=h;exact⟨_,_,_,_,h⟩
theorem lL(z:Int):sg (decide (z<0)) z.natAbs=z:=by
 unfold sg;by_cases h:z<0
 . rw[decide_eq_true h];simp;omega
 . rw[decide_eq_false h];simp;omega
theorem an5(z:Int):sg (!decide (z<0)) z.natAbs=-z:=by
 unfold sg;by_cases h:z<0
 . rw[decide_eq_true h];simp;omega
 . rw[decide_eq_false h];simp;omega
theorem al5{z:Int}(hx:IntP p w v z):
 Calls Tryz.prog 216 #[v] w (RetZ w.heap.size w (-z)):=by
 obtain⟨vm,xs,rfl,h1,h2,h3⟩:=hx;have hbn:=aN w (Obj.cells #[Value.bool (decide (z<0)),vm] 186);generalize hw1:w.alloc (Obj.cells #[Value.bool (decide (z<0)),vm] 186)=w1 at hbn;have hs1:w1.heap.size=w.heap.size+1:=by rw[<-hw1];simp
 have hbn2:=aN w1 (Obj.cells #[Value.bool false,Value.slice none 0 0] 186);generalize hw2:w1.alloc (Obj.cells #[Value.bool false,Value.slice none 0 0] 186)=w2 at hbn2;have HB:=hdd (hbn.trans (hbn2.mono hbn.size));have H1:=hdd ((h1.below hbn).below hbn2);have HS:Hid (w.heap.size+2=w2.heap.size):=hdd (by rw[<-hw2];simp;omega);have HW:Hid (w2.heap[w.heap.size+1]? =some (.cells #[Value.bool false,Value.slice none 0 0] 186 (0,0))):=hdd (by rw[<-hs1,<-hw2];exact heap_alloc_new w1 _);have HX:Hid (w2.heap[w.heap.size]? =some (.cells #[Value.bool (decide (z<0)),vm] 186 (0,0))):=hdd (aC (by rw[<-hw1];exact heap_alloc_new w _) hbn2 (by omega));obtain⟨c0,c1,-,-⟩:=aB HX.out;have HN:=hdd (an5 z);rw[<-h3]at HN;clear hbn hbn2 h1 h3;go_enter Tryz.func216,Tryz.ntmps216
 go_wp2_with fail
 refine(dD H1.out).mono ?_;rintro e w3⟨hb,v,rfl,h⟩;rw[HN.out]at h;obtain⟨b',A',n',c',rfl⟩:=h.shape;have hs:=HS.out;obtain⟨HF,hF⟩:=gP (HB.out.trans (hb.mono HB.out.size)) (by omega) (aC HW.out hb (by omega)) h (g:=w.heap.size+1) (fun b hb=>by omega);obtain⟨e0,e1,e2,e3⟩:=aB (aC HW.out hb (by omega));replace hF:=hdd hF;clear hb h hs;go_wp2;obtain⟨f0,f1,-,-⟩:=aB hF.out;refine bodyPost_ret (v:=.agg #[_,_]) (by simp[results,Tryz.results216,go_sem,f0,f1];first|exact⟨rfl,rfl⟩|rfl) rfl ?_;exact HF.out
theorem bD(xs:List Nat)(hx:OkL xs)(ht:Tr xs):64*xs.length<=bits (val xs)+63:=by
 by_cases h:xs=[]
 . subst h;simp
 . have h1:=jO xs hx ht h
   have h2:=ht h;have h3:1<=bits (xs.getLast h):=by
    have:bits (xs.getLast h)≠0:=fun h'=>h2 ((bO _).1 h');omega
   have h4:0<xs.length:=List.length_pos_iff.2 h;omega
theorem pro1(w:World)(o1:Obj):∃w1,w.alloc o1=w1/\Below w.heap.size w w1/\w1.heap.size=w.heap.size+1/\w1.heap[w.heap.size]? =some o1:=
 ⟨_,rfl,aN w o1,by simp,heap_alloc_new w o1⟩
theorem pro2(w:World)(o1 o2:Obj):∃w2,(w.alloc o1).alloc o2=w2/\Below w.heap.size w w2/\w2.heap.size=w.heap.size+2/\w2.heap[w.heap.size]? =some o1/\w2.heap[w.heap.size+1]? =some o2:=by
 refine⟨_,rfl,(aN w o1).alloc (by simp) _,by simp,?_,?_⟩
 . exact aC (heap_alloc_new w o1) (aN (w.alloc o1) o2) (by simp)
 . have:=heap_alloc_new (w.alloc o1) o2;simpa using this
theorem pro3(w:World)(o1 o2 o3:Obj):∃w3,((w.alloc o1).alloc o2).alloc o3=w3/\Below w.heap.size w w3/\w3.heap.size=w.heap.size+3/\w3.heap[w.heap.size]? =some o1/\w3.heap[w.heap.size+1]? =some o2/\w3.heap[w.heap.size+2]? =some o3:=by
 obtain⟨w2,rfl,hb,hs,h1,h2⟩:=pro2 w o1 o2;refine⟨_,rfl,hb.alloc (by omega) _,by simp,?_,?_,?_⟩
 . exact aC h1 (aN _ o3) (by omega)
 . exact aC h2 (aN _ o3) (by omega)
 . have:=heap_alloc_new ((w.alloc o1).alloc o2) o3;simpa using this
theorem an6(b:Bool)(m n:Nat):sg b (m+n)=sg b m+sg b n:=by cases b<;>simp[sg]<;>omega
theorem aiP{b c:Bool}{m:Nat}(hbc:¬b=c)(h:m<=n):sg c (n-m)=sg b m+sg c n:=by cases b<;>cases c<;>simp_all[sg]<;>omega
theorem cell_below(h:w.cell? a=some v)(hb:Below B w w')(hB:w.heap.size<=B):w'.cell? a=some v:=by
 rw[hb.cell (avF (World.block_lt_of_cell? w a h) hB)];exact h
theorem aiQ{vb:Value}(hx:IntP p w va x)(hy:IntP q w vb y)(hL:bits x.natAbs+bits y.natAbs<=1073741824):
 Calls Tryz.prog 215 #[va,vb] w (RetZ w.heap.size w (x+y)):=by
 obtain⟨vm,xs,rfl,h1,h2,h3⟩:=hx;obtain⟨vn,ys,rfl,k1,k2,k3⟩:=hy;obtain⟨A,c,rfl,-⟩:=id h1;obtain⟨A',c',rfl,-⟩:=id k1;obtain⟨w3,hw3,hb3,hs3,b1,b2,b3⟩:=pro3 w (.cells #[Value.bool (decide (x<0)),.slice A xs.length c] 186) (.cells #[Value.bool (decide (y<0)),.slice A' ys.length c'] 186) (.cells #[Value.bool false,Value.slice none 0 0] 186);have HB:=hdd hb3;have H1:=hdd (h1.below hb3);have K1:=hdd (k1.below hb3);have hlen:xs.length+ys.length<16777218:=by
  have e1:=bD xs h1.ok h2;have e2:=bD ys k1.ok k2;rw[h3]at e1;rw[k3]at e2;omega
 have HS:=hdd hs3;have B1:=hdd b1;have B2:=hdd b2;have B3:=hdd b3;have H3:=hdd h3;have K3:=hdd k3;have H2:=hdd h2;have K2:=hdd k2;obtain⟨c0,c1,-,-⟩:=aB b1;obtain⟨d0,d1,-,-⟩:=aB b2;obtain⟨e0,e1,e2,e3⟩:=aB b3;clear h1 k1 h2 k2 h3 k3 hb3 b1 b2 b3 hs3 hL;by_cases hs:decide (x<0)=decide (y<0)
 . have X0:=hdd (lL x);have Y0:=hdd (lL y)
   generalize decide (x<0)=ba at*;generalize decide (y<0)=bb at*;subst hs;go_enter Tryz.func215,Tryz.ntmps215
   go_wp2_with fail
   have HBA:Hid (Below w3.heap.size w3 (w3.alloc (.cells #[.slice A xs.length c,.slice A' ys.length c'] 184)).drew):=hdd ((Below.refl _ _).alloc nlr _).drew;have HBA2:Hid ((w3.alloc (.cells #[.slice A xs.length c,.slice A' ys.length c'] 184)).drew.heap[w3.heap.size]? =some (.cells #[.slice A xs.length c,.slice A' ys.length c'] 184 (0,0))):=hdd (heap_alloc_new w3 _);have HADD:=hdd (aiK (aB HBA2.out).1 (aB HBA2.out).2.1 (H1.out.below HBA.out) (K1.out.below HBA.out) (by omega) (avP 2));have n1:w.heap.size+1+1≠w.heap.size:=by omega
   go_region_held3 (fun w'=>w'.cell? ⟨w.heap.size,0,none⟩=some (.bool ba)/\w'.cell? ⟨w.heap.size,1,none⟩=some (.slice A xs.length c)/\w'.cell? ⟨w.heap.size+1,1,none⟩=some (.slice A' ys.length c')) (go_keep)
    (first
    |(go_at_call 258
      refine HADD.out.mono ?_;rintro e w4⟨hb,v4,zs,rfl,hz,tz,hvz⟩;have HB4:=hdd (HBA.out.trans (hb.mono HBA.out.size));have g0:=cell_below c0 HB4.out nlr;have g1:=cell_below c1 HB4.out nlr;have g2:=cell_below d1 HB4.out nlr;have HS4:=hdd HB4.out.size;have HZ:=hdd hz;have HVZ:=hdd hvz;clear hb hz tz hvz)
    |(go_at_call 200
      refine(dD HZ.out).mono ?_;rintro e w5⟨hb,v5,hz⟩;obtain⟨rfl,hz⟩:=hz;obtain⟨b5,A5,n5,c5,rfl⟩:=hz.shape;have g0':=cell_below g0 hb nlr;have g1':=cell_below g1 hb nlr;have g2':=cell_below g2 hb nlr;replace HB4:=hdd (HB4.out.trans (hb.mono HB4.out.size));have HF:=hdd hz;have f0':=cell_below e0 HB4.out nlr;have f1':=cell_below e1 HB4.out nlr;have B35:=hdd (aC B3.out HB4.out (by have:=HS.out;omega));obtain⟨-,-,f2',f3'⟩:=aB B35.out;clear hb hz))
   clear n1;have hfin:sg ba (val zs)=x+y:=by rw[HVZ.out,H3.out,K3.out,an6,X0.out,Y0.out]
   have hF:=HF.out;rw[hfin]at hF;obtain⟨HFF,hFF⟩:=gP (HB.out.trans (HB4.out.mono HB.out.size)) (g:=w.heap.size+2) (by omega) B35.out hF (fun b hb=>by have:=HS.out;have:=HS4.out;omega);replace hFF:=hdd hFF;clear hF;go_wp2;obtain⟨f0,f1,-,-⟩:=aB hFF.out;refine bodyPost_ret (v:=.agg #[_,_]) (by simp[results,Tryz.results215,go_sem,f0,f1];first|exact⟨rfl,rfl⟩|rfl) rfl ?_;exact HFF.out
 . have X0:=hdd (lL x);have Y0:=hdd (lL y)
   generalize decide (x<0)=ba at*;generalize decide (y<0)=bb at*;have hsb:(ba==bb)=false:=beq_eq_false_iff_ne.2 hs;have HN:=hdd hs;clear hs;rcases avG (val xs) (val ys)with hlt|hge
   . have HLT:=hdd hlt;clear hlt
     go_enter Tryz.func215,Tryz.ntmps215
     go_wp2_with fail
     refine(al4 H1.out K1.out HLT.out).mono ?_;rintro e w4⟨rfl,k,rfl⟩;have hb:=below_drewN w3 k;replace c0:=cell_below c0 hb nlr;replace c1:=cell_below c1 hb nlr;replace d0:=cell_below d0 hb nlr;replace d1:=cell_below d1 hb nlr;replace H1:=hdd (H1.out.below hb);replace K1:=hdd (K1.out.below hb);replace B3:=hdd (aC B3.out hb (by have:=HS.out;omega));replace HB:=hdd (HB.out.trans (hb.mono HB.out.size));replace HS:Hid ((w3.drewN k).heap.size=w.heap.size+3):=hdd (by rw[<-HS.out];simp);clear e0 e1 e2 e3 hw3 hb;generalize w3.drewN k=w4 at*;go_wp2_with fail
     refine(aeK K1.out H1.out (avH HLT.out)).mono ?_;rintro e w5⟨hb,v5,zs,rfl,hz,tz,hvz⟩;replace d0:=cell_below d0 hb nlr;replace B3:=hdd (aC B3.out hb (by have:=HS.out;omega));replace HB:=hdd (HB.out.trans (hb.mono HB.out.size));have HZ:=hdd hz;have HVZ:=hdd hvz;have HS5:=hdd hb.size;clear c0 c1 d1 hz hvz tz hb;go_wp2_with fail
     refine(dD HZ.out).mono ?_;rintro e w6⟨hb,v6,rfl,h⟩;replace B3:=hdd (aC B3.out hb (by have:=HS.out;have:=HS5.out;omega));replace HB:=hdd (HB.out.trans (hb.mono HB.out.size));have hfin:sg bb (val zs)=x+y:=by rw[HVZ.out,H3.out,K3.out,<-X0.out,<-Y0.out,bI,bI];exact aiP HN.out (by have:=HLT.out;rw[H3.out,K3.out]at this;omega)
     rw[hfin]at h;obtain⟨b',A2,n',c',rfl⟩:=h.shape;obtain⟨HFF,hFF⟩:=gP HB.out (g:=w.heap.size+2) (by omega) B3.out h (fun b hb=>by have:=HS.out;have:=HS5.out;omega);obtain⟨e0,e1,e2,e3⟩:=aB B3.out;replace hFF:=hdd hFF;clear h hb;go_wp2;obtain⟨f0,f1,-,-⟩:=aB hFF.out;refine bodyPost_ret (v:=.agg #[_,_]) (by simp[results,Tryz.results215,go_sem,f0,f1];first|exact⟨rfl,rfl⟩|rfl) rfl ?_;exact HFF.out
   . have HGE:=hdd hge;clear hge
     go_enter Tryz.func215,Tryz.ntmps215
     go_wp2_with fail
     refine(aeK H1.out K1.out HGE.out).mono ?_;rintro e w4⟨hb,v5,zs,rfl,hz,tz,hvz⟩;replace c0:=cell_below c0 hb nlr;replace B3:=hdd (aC B3.out hb (by have:=HS.out;omega));replace HB:=hdd (HB.out.trans (hb.mono HB.out.size));have HZ:=hdd hz;have HVZ:=hdd hvz;have HS5:=hdd hb.size;clear c1 d0 d1 hz hvz tz hb hw3 e0 e1 e2 e3;go_wp2_with fail
     refine(dD HZ.out).mono ?_;rintro e w6⟨hb,v6,rfl,h⟩;replace B3:=hdd (aC B3.out hb (by have:=HS.out;have:=HS5.out;omega));replace HB:=hdd (HB.out.trans (hb.mono HB.out.size));have hfin:sg ba (val zs)=x+y:=by rw[HVZ.out,H3.out,K3.out,Int.add_comm,<-X0.out,<-Y0.out,bI,bI];exact aiP (fun h=>HN.out h.symm) (by have:=HGE.out;rw[H3.out,K3.out]at this;omega)
     rw[hfin]at h;obtain⟨b',A2,n',c',rfl⟩:=h.shape;obtain⟨HFF,hFF⟩:=gP HB.out (g:=w.heap.size+2) (by omega) B3.out h (fun b hb=>by have:=HS.out;have:=HS5.out;omega);obtain⟨e0,e1,e2,e3⟩:=aB B3.out;replace hFF:=hdd hFF;clear h hb;go_wp2;obtain⟨f0,f1,-,-⟩:=aB hFF.out;refine bodyPost_ret (v:=.agg #[_,_]) (by simp[results,Tryz.results215,go_sem,f0,f1];first|exact⟨rfl,rfl⟩|rfl) rfl ?_;exact HFF.out
theorem cbl(h:w.cell? a=some v)(hb:Below w.heap.size w w'):w'.cell? a=some v:=cell_below h hb (avP _)
theorem aiR{c:Nat}{b:Bool}{A:Option Addr}(hx:IntP p w va x)(hg:w.heap[g]? =some (.cells #[.bool b,.slice A n c] T (0,0)))(hy:IntP q w (.agg #[.bool b,.slice A n c]) y)
 (hL:bits x.natAbs+bits y.natAbs<=1073741824):
 Calls Tryz.prog 312 #[va,.slice (some ⟨g,0,none⟩) 1 1] w (RetZ w.heap.size w (x+y)):=by
 obtain⟨vm,xs,rfl,h1,h2,h3⟩:=hx;obtain⟨A0,c0',rfl,-⟩:=id h1;obtain⟨w2,hw2,hb2,hs2,b1,b2⟩:=pro2 w (.cells #[Value.bool (decide (x<0)),.slice A0 xs.length c0'] 186) (.cells #[Value.bool false,Value.slice none 0 0] 186);have X0:=hdd (lL x);rw[<-h3]at X0;have HB:=hdd hb2;have H1:=hdd (h1.below hb2);have HS:=hdd hs2;have B2:=hdd b2;have HG:=hdd hg;have HY:=hdd hy;obtain⟨c0,c1,-,-⟩:=aB b1;generalize decide (x<0)=ba at*;clear h1 h2 h3 hb2 b1 b2 hs2 hg hy;go_enter Tryz.func312,Tryz.ntmps312
 go_wp2_with fail
 refine(dD H1.out).mono ?_;rintro e w3⟨hb,v,rfl,h⟩;rw[X0.out]at h;obtain⟨b',A1,n1,c1',rfl⟩:=h.shape;replace B2:=hdd (aC B2.out hb (by have:=HS.out;omega));have HS3:=hdd (au9 (avM HS.out.symm) hb.size);replace HB:=hdd (HB.out.trans (hb.mono HB.out.size));have HX:=hdd h;clear h hb hw2 c0 c1;go_wp2_with fail
 go_loopw [15] (fun i wr=>∃k:Nat,k<=1/\i=.int .i64 k/\Hid (Below w.heap.size w wr)/\Hid (∃bs As ns cs,wr.heap[w3.heap.size]? =some (.cells #[.bool bs,.slice As ns cs] 186 (0,0))/\IntP (fun b=>w.heap.size<=b/\b≠w3.heap.size/\b≠w.heap.size+1) wr (.agg #[.bool bs,.slice As ns cs]) (if k=0 then x else x+y))/\
  Hid (wr.heap[w.heap.size+1]? =some (.cells #[Value.bool false,Value.slice none 0 0] 186 (0,0)))) (fun i _=>1-(intOf i).toNat)
 case atStart=>
  have hs:=HS.out;have hs3:=HS3.out;refine⟨0,by omega,rfl,hdd (HB.out.alloc (by omega) _),hdd ⟨_,_,_,_,heap_alloc_new w3 _,?_⟩,hdd (aC B2.out (aN w3 _) (aD B2.out))⟩;exact(HX.out.weak fun b h1 h2=>by omega).below (aN w3 _)
 case round=>
  clear HB HX B2;obtain⟨k,hk,rfl,HB,HR,B2⟩:=hrel;obtain⟨bs,As,ns,cs,hR,hX⟩:=HR.out;have HR0:=hdd hR;have HX:=hdd hX;obtain⟨r0,r1,r2,r3⟩:=aB hR;clear hR hX;have hkk:k=0\/k=1:=by omega
  rcases hkk with rfl|rfl
  . obtain⟨y0,y1,-,-⟩:=aB (hbl HG.out HB.out)
    obtain⟨w4,hw4,hba,hs4,q4⟩:=pro1 wr (.cells #[Value.bool b,.slice A n c] 186);obtain⟨q0,q1,-,-⟩:=aB (hbl HR0.out hba);obtain⟨q2,q3,-,-⟩:=aB q4;go_wp2_with fail
    refine(aiQ (HX.out.below hba) ((HY.out.below HB.out).below hba) hL).mono ?_;rintro e w5⟨hb,v5,rfl,h⟩;obtain⟨b5,A5,n5,c5,rfl⟩:=h.shape;have hbb:=hba.trans (hb.mono hba.size);have R5:=hbl HR0.out hbb;have HR5:=hdd R5;obtain⟨r0,r1,r2,r3⟩:=aB R5;have hs:=HS.out;have hs3:=HS3.out;have hrs:=aD HR0.out;have hsz:=HB.out.size;have B25:=hbl B2.out hbb;have HB2:=hdd (((HB.out.trans (hbb.mono HB.out.size)).setCell (p:=⟨w3.heap.size,0,none⟩) (by simp;omega) (.bool b5)).setCell (p:=⟨w3.heap.size,1,none⟩) (by simp;omega) (.slice A5 n5 c5));have HR2:Hid (∃bs As ns cs,((w5.setCell ⟨w3.heap.size,0,none⟩ (.bool b5)).setCell ⟨w3.heap.size,1,none⟩ (.slice A5 n5 c5)).heap[w3.heap.size]? =some (.cells #[.bool bs,.slice As ns cs] 186 (0,0))/\IntP (fun b=>w.heap.size<=b/\b≠w3.heap.size/\b≠w.heap.size+1) ((w5.setCell ⟨w3.heap.size,0,none⟩ (.bool b5)).setCell ⟨w3.heap.size,1,none⟩ (.slice A5 n5 c5)) (.agg #[.bool bs,.slice As ns cs]) (if 1=0 then x else x+y)):=by
     refine hdd ⟨_,_,_,_,set2 R5 _ _,?_⟩;have h':=h.weak (q:=fun b=>w.heap.size<=b/\b≠w3.heap.size/\b≠w.heap.size+1) fun b h1 h2=>by have:=hba.size;omega
     exact(h'.setCell (fun b hb=>hb.2.1) _).setCell (fun b hb=>hb.2.1) _
    have HB22:Hid (((w5.setCell ⟨w3.heap.size,0,none⟩ (.bool b5)).setCell ⟨w3.heap.size,1,none⟩ (.slice A5 n5 c5)).heap[w.heap.size+1]? =some (.cells #[Value.bool false,Value.slice none 0 0] 186 (0,0))):=by
     refine hdd ?_;rw[Below.heap_setCell _ _ _ _ (by simp;omega),Below.heap_setCell _ _ _ _ (by simp;omega)];exact B25
    clear h hb hbb hba R5 B25 hs hs3 hrs hsz y0 y1 q0 q1 q2 q3 q4 hw4 hs4;go_wp2
    go_roundw
    case rel=>exact⟨1,by omega,by go_num,HB2,HR2,HB22⟩
    case measure=>simp[intOf]
  . obtain⟨e0,e1,e2,e3⟩:=aB B2.out
    have hs:=HS.out;have hs3:=HS3.out;obtain⟨HFF,hFF⟩:=gP HB.out (g:=w.heap.size+1) (by omega) B2.out HX.out (fun b hb=>by omega);replace hFF:=hdd hFF;replace HFF:Hid (RetZ w.heap.size w (x+y) (.returned (.agg #[.bool bs,.slice As ns cs])) ((wr.setCell ⟨w.heap.size+1,0,none⟩ (.bool bs)).setCell ⟨w.heap.size+1,1,none⟩ (.slice As ns cs))):=HFF;clear hs hs3;go_wp2;obtain⟨f0,f1,-,-⟩:=aB hFF.out;refine bodyPost_ret (v:=.agg #[_,_]) (by simp[results,Tryz.results312,go_sem,f0,f1];first|exact⟨rfl,rfl⟩|rfl) rfl ?_;exact HFF.out
section
variable{P:Program}{ops:Array Oper}{Q:Exit->Act->World->Prop}{md:Region.Mode}{S:World->Prop}{z:Nat}
def anyG(P:Program)(md:Region.Mode)(ops:Array Oper)(Q:Exit->Act->World->Prop)(S:World->Prop)(z:Nat):Nat->Array Bool->Act->World->Prop
 |0,listed,a,w=>avB md ops listed=[]/\Q .normal a w
 |fuel+1,listed,a,w=>(avB md ops listed=[]->Q .normal a w)/\
  ∀i∈avB md ops listed,wpOp P ops Q i (fun a' w'=>(i≠z->S w')/\anyG P md ops Q S z fuel (listed.setIfInBounds i true) a' w') a w
theorem aaY:∀(fuel:Nat) (listed:Array Bool) (a:Act) (w:World),anyG P md ops Q S z fuel listed a w->wpAny P md ops Q fuel listed a w
 |0,_,_,_,h=>h
 |fuel+1,_,_,_,h=>⟨h.1,fun i hi=>wpOp_mono (fun a' w' h'=>aaY fuel _ a' w' h'.2) (h.2 i hi)⟩
theorem adH{i:Nat}{oi:Oper}(hi:ops[i]? =some oi)(hiz:avJ md ops z i=true)(hsel:∀(j:Nat) (o:Oper) cs b,ops[j]? =some o->o.op≠.select cs b)
 (hQ:∀c a w,Q (.panic c) (a.put oi.dst v) w->Q (.panic c) a w) (fuel:Nat):
 ∀(listed:Array Bool) (a:Act) (w:World),
  (∀j oj,ops[j]? =some oj->j≠i->listed.getD j true=false->(∀e∈oj.after,avN md e=true->e.on≠i)->oi.apart ops oj=true)->
  i∈avB md ops listed->YieldsIf P ops S oi v a->S w->
  anyG P md ops Q S z fuel (listed.setIfInBounds i true) (a.put oi.dst v) w->anyG P md ops Q S z (fuel+1) listed a w:=by
 induction fuel with
 |zero=>
  intro listed a w _ hr hy hS H;refine⟨fun h=>(by rw[h]at hr;cases hr),fun j hj=> ?_⟩;rcases Decidable.em (j=i)with rfl|hji
  . exact hy.wpOp hi hS ⟨fun _=>hS,H⟩
  . have h0:=ready_mono hj hji
    rw[H.1]at h0;cases h0
 |succ fuel ih=>
  intro listed a w hfree hr hy hS H;refine⟨fun h=>(by rw[h]at hr;cases hr),fun j hj=> ?_⟩;rcases Decidable.em (j=i)with rfl|hji
  . exact hy.wpOp hi hS ⟨fun _=>hS,H⟩
  obtain⟨hjun,oj,hoj,hall⟩:=mem_ready.1 hj;have hun:listed.getD i true=false:=(mem_ready.1 hr).1;have hnot:∀e∈oj.after,avN md e=true->e.on≠i:=by
   intro e he hb heq;have hl:=hall e he hb;rw[heq]at hl;rcases avG i listed.size with h|h
   . simp[h]at hun hl;rw[hun]at hl;cases hl
   . simp[Array.getElem?_eq_none h]at hl
  have hjz:j≠z:=by
   rintro rfl;obtain⟨oz,hoz,e,he,hb,hon⟩:=Region.waitsFor_spec hiz;rw[hoj]at hoz
   cases hoz
   exact hnot e he hb hon
  have step:=wpOp_putIf hoj (hfree j oj hoj hji hjun hnot) (fun cs b=>hsel i oi cs b hi) (fun cs b=>hsel j oj cs b hoj) hQ hy (H.2 j (ready_mono hj hji));refine wpOp_mono (fun a' w' hh=>⟨fun _=>hh.2.1 hjz,ih (listed.setIfInBounds j true) a' w' ?_ (ready_mono hr (Ne.symm hji)) hh.1 (hh.2.1 hjz) ?_⟩) step
  . intro k ok hk hki hku hno
    refine hfree k ok hk hki ?_ hno;rcases Decidable.em (j=k)with rfl|hjk
    . exact hjun
    . rwa[getD_set_ne true hjk]at hku
  . rw[Array.setIfInBounds_comm _ _ hji];exact hh.2.2
theorem aO(i:Nat){oi:Oper}(v:Value){listed:Array Bool}{a:Act}(hi:ops[i]? =some oi)(hiz:avJ md ops z i=true)
 (hs:Region.noSelect ops=true) (hf:Region.free md ops listed i=true) (hr:(avB md ops listed).contains i=true)
 (hQ:∀c a w,Q (.panic c) (a.put oi.dst v) w->Q (.panic c) a w) (hw:avK oi (yielded ops a.tmps)=true) (hy:∀w,S w->(execOp a.eval oi).run P w=.ok (.value v) w) (hS:S w)
 (h:anyG P md ops Q S z fuel (listed.setIfInBounds i true) (a.put oi.dst v) w):anyG P md ops Q S z (fuel+1) listed a w:=
 adH hi hiz (Region.noSelect_spec hs) hQ fuel listed a w (Region.free_spec hi hf) (by simpa using hr) (Or.inl ⟨hw,hy⟩) hS h
theorem bG(i:Nat){o:Oper}{listed:Array Bool}{a:Act}(hr:avB md ops listed=[i])(ho:ops[i]? =some o)
 (h:∀K':Act->World->Prop,Shut (∀a w,(i≠z->S w)->anyG P md ops Q S z fuel (listed.setIfInBounds i true) a w->K' a w)->if avK o (yielded ops a.tmps)=true then Oper.wp P o a w K' Q else K' (a.put o.dst undef) w):
 anyG P md ops Q S z (fuel+1) listed a w:=
 ⟨fun h0=>(by rw[hr]at h0;cases h0),fun j hj=>by
   rw[hr]at hj;obtain rfl:j=i:=by simpa using hj
   exact wpOp_step ho (fun K' hK=>h K' (fun a w h1 h2=>hK a w ⟨h1,h2⟩))⟩
theorem iZ{listed:Array Bool}{a:Act}(hr:avB md ops listed=[])(h:Q .normal a w):anyG P md ops Q S z fuel listed a w:=by
 cases fuel
 . exact⟨hr,h⟩
 . exact⟨fun _=>h,by rw[hr];simp⟩
theorem gQ(S:World->Prop)(z:Nat){id:Nat}{a:Act}(hm:P.follows .mixedOrders=true)
 (h:anyG P .any ops Q S z ops.size (Array.replicate ops.size false) a w.drew):(Code.region id ops true).wp P Q a w:=
 wp_region_any hm (aaY _ _ _ _ h)
end
end Go.Proofs.YtigoiiekebccnaaGreatDoor
