/- A part of the proof: contracts of functions and plain laws (SgC, SgD, FtA, FeA, QlA, FtB, FeB, LiA, QlL, MtB, MtC, QlM, FltC, FeC, QlN, RcA, QlW, OpA, TwD, MwA). -/
import Derived.Test.YtebdolonckjpiaaGreatDoorK33
import Derived.Test.YtebdolonckjpiaaGreatDoorK18
import Derived.Test.YtebdolonckjpiaaGreatDoorK08
import Derived.Test.YtebdolonckjpiaaGreatDoorK19
import Derived.Test.YtebdolonckjpiaaGreatDoorK10
import Derived.WalkKit
import Derived.Laws.NewFold
import Derived.Test.YtebdolonckjpiaaGreatDoorK20
import Derived.IntWalk
set_option linter.unusedVariables false
set_option linter.unusedSimpArgs false
set_option maxHeartbeats 25600000
set_option maxRecDepth 100000
namespace Go.Proofs.YtebdolonckjpiaaGreatDoor
open Go.RowKit Go.Maps
open List renaming getElem?_eq_getElem->be1,mem_of_getElem?->be2
variable{a e e0:Ex}{ns:List Nd}{g q:Nat}{v v0:Re}{w:World}
def GdAt(ns:List Nd)(i:Nat):Prop:=∃a K j v,Is ns a i/\Gd K j a v
theorem acQ{x:Nat}{n:Nd}(hp:Part ns e x)(hn:ns[x]? =some n):
 (n.kind≠4/\n.kind≠5)\/(∃a b,∃p q:Nat,n=⟨4,0,p,q⟩/\SubE (.div a b) e/\Is ns b q)\/(∃a,∃p:Nat,n=⟨5,0,p,0⟩/\SubE (.root a) e/\Is ns a p):=by
 obtain⟨a',hs,hi⟩:=hp
 cases a' with
 |leaf v=>have hi:ns[x]? =some ⟨0,v,0,0⟩:=hi;rw[hn]at hi;cases hi;exact Or.inl ⟨show(0:Int)≠4 by decide,show(0:Int)≠5 by decide⟩
 |add a b=>obtain⟨p,q,h,-⟩:=hi;rw[hn]at h;cases h;exact Or.inl ⟨show(1:Int)≠4 by decide,show(1:Int)≠5 by decide⟩
 |sub a b=>obtain⟨p,q,h,-⟩:=hi;rw[hn]at h;cases h;exact Or.inl ⟨show(2:Int)≠4 by decide,show(2:Int)≠5 by decide⟩
 |mul a b=>obtain⟨p,q,h,-⟩:=hi;rw[hn]at h;cases h;exact Or.inl ⟨show(3:Int)≠4 by decide,show(3:Int)≠5 by decide⟩
 |div a b=>obtain⟨p,q,h,-,-,-,h5⟩:=hi;rw[hn]at h;cases h;exact Or.inr (Or.inl ⟨a,b,p,q,rfl,hs,h5⟩)
 |root a=>obtain⟨p,h,-,h3⟩:=hi;rw[hn]at h;cases h;exact Or.inr (Or.inr ⟨a,p,rfl,hs,h3⟩)
theorem ak8{b:Ex}(hd:DenR e v)(hg:AllGd e)(hs:SubE (.div a b) e)(hi:Is ns b q):GdAt ns q/\sgT ns q≠0:=by
 obtain⟨K,j,u,hu⟩:=hg.1 a b hs;refine⟨⟨b,K,j,u,hi,hu⟩,?_⟩;rw[yT hi hu.den];obtain⟨t,ht⟩:=hs.den hd
 cases ht with
 |div h1 h2 h0 hz=>rw[hu.den.uniq h2];exact fun h=>h0 (Re.sgn_eq_zero.1 h)
theorem ajG(hd:DenR e v)(hg:AllGd e)(hs:SubE (.root a) e)(hi:Is ns a q):GdAt ns q/\¬sgT ns q<0:=by
 obtain⟨K,j,u,hu⟩:=hg.2 a hs;refine⟨⟨a,K,j,u,hi,hu⟩,?_⟩;rw[yT hi hu.den];obtain⟨t,ht⟩:=hs.den hd
 cases ht with
 |root h1 h0 hz=>
  rw[hu.den.uniq h1];have:(0:Re)<=_:=Re.mul_nonneg h0 h0;rw[hz]at this;rcases Re.sgn_cases _ with ⟨-,h⟩|⟨-,h⟩|⟨h,-⟩
  . rw[h];decide
  . rw[h];decide
  . exact absurd h (Re.not_lt.2 this)
theorem ak9{root:Nat}{l m:List Nat}(hl:IsB ns root l)(hm:IsB ns root m):∀x∈l,x∈m:=by
 refine hl.mn (fun x=>x∈m) ?_ hm.rt;intro x n hx hn o ho;obtain⟨y,hy,e⟩:=hm.cl x hx n hn o ho;rw[<-e,Int.toNat_natCast];exact hy
def ajH(w:World)(g root:Nat)(ns:List Nd)(e:Ending)(w':World):Prop:=Below w.heap.size w w'/\∃j ms l,e=.returned (.tuple #[.pointer (some ⟨j,0,none⟩),.nilIface])/\w.heap.size<=ms/\IsB ns root l/\JG w' j ms g ns l
theorem yV{root:Nat}(hd:DagP w g ns)(ok:OkNs ns)(hlf:iH ns)(hro:iI ns)(hI:Is ns e0 root)(hde:DenR e0 v0)(hgd:AllGd e0)(hT:Tab w):
 Calls Tryz.prog 73 #[.pointer (some ⟨g,0,none⟩),.int .i64 (root:Int),.agg #[.bool true,.int .i64 32]] w (ajH w g root ns):=by
 obtain⟨w1,hw1,hb1,hs1,b1⟩:=pro1 w (.cells #[.bool true,.int .i64 32] 65);obtain⟨c0,c1,-,-⟩:=aC b1;have hr:=hI.lt;obtain⟨nr,hnr⟩:∃n,ns[root]? =some n:=⟨_,be1 hr⟩;have HB1:=hdd hb1;have HN1:=hdd (fB (hd.below hb1) hnr);have HDW:=hdd hd;have HDE:=hdd hde;have HGD:=hdd hgd;have HI0:=hdd hI;have HLN:=hdd hd.len;have HNJ:Hid (∀w',Below w.heap.size w w'->Calls Tryz.prog 125 #[.pointer (some ⟨g,0,none⟩),.int .i64 (root:Int),.agg #[.bool true,.int .i64 32]] w' (RetJ w' g root ns)):=hdd fun w' h=>yU (hd.below h) ok hlf hro hr;have HJS:Hid (∀w' j ms l (p:Nat),Below w.heap.size w w'->JG w' j ms g ns l->p∈l->GdAt ns p->Calls Tryz.prog 75 #[.pointer (some ⟨j,0,none⟩),.int .i64 (p:Int)] w' (fun e w''=>e=.returned (.tuple #[.int .i64 (sgT ns p),.nilIface])/\Fr (fun b=>b=ms) w' w''/\JG w'' j ms g ns l)):=hdd fun w' j ms l p h hj hl ⟨a,K,jj,v,hi,hg⟩=>mO hj hl (hd.below h) ok hlf hro hi hg (hT.below h);have HBE:Hid (∀w' b0,Below w.heap.size w w'->w'.heap[b0]? =some (.cells #[.int .i64 (root:Int)] 3 (0,0))->Calls Tryz.prog 126 #[.pointer (some ⟨g,0,none⟩),.slice (some ⟨b0,0,none⟩) 1 1] w' (o6 w' ns root)):=hdd fun w' b0 h hb=>jJ (hd.below h) ok hr hb
 clear hd ok hlf hro hr hb1 b1 hs1 hnr hI hde hgd hT;have hst:=aX;go_enter Tryz.func73,Tryz.ntmps73
 go_wp2_with fail
 refine HN1.out.mono ?_;rintro e w2⟨rfl,hb2⟩;obtain⟨w3,hw3,z0,z1,z2,z3,y0,y1,y2,y3,w4,hw4,hb4,hs4⟩:=new4 w2 144 (.int .i64 0) (.float .f64 0) (.int .i64 0) (.int .i64 0) (.int .i64 nr.kind) (.float .f64 nr.val) (.int .i64 nr.a) (.int .i64 nr.b);have h14:=aB hb2 hb4;replace c0:=cbl c0 h14;replace c1:=cbl c1 h14;have HB4:=hdd (HB1.out.trans (h14.mono HB1.out.size));clear hb2 hb4 hs4 h14;go_wp2_with fail
 refine(HNJ.out _ HB4.out).mono ?_;rintro e w5⟨hb5,j,ms,l0,rfl,hms,hms5,hI0,hjp⟩;obtain⟨w6,hw6,hb6,hs6,b6⟩:=pro1 w5 (.cells #[.int .i64 (root:Int)] 3);have h46:=aB hb5 hb6;have HB6:=hdd (HB4.out.trans (h46.mono HB4.out.size));have HJ6:=hdd (hjp.below hb6);have HIL:=hdd hI0;have HM6:Hid (ms<w6.heap.size):=hdd (by have:=hb6.size;omega);have HMS:=hdd (Nat.le_trans HB4.out.size hms);have HBE6:=hdd (HBE.out w6 _ HB6.out b6);clear hb5 hb6 hs6 b6 h46 hjp hms hms5 hI0 c0 c1 z0 z1 z2 z3 y0 y1 y2 y3 hw3 hw4;go_wp2_with fail
 refine HBE6.out.mono ?_;rintro e w7⟨hb7,v7,l,rfl,hl,hI⟩;obtain⟨bl,cl,rfl,hlc,hcm,-⟩:=id hl;have HL:=hdd hl;have HI:=hdd hI;have HB7:=hdd (HB6.out.trans (hb7.mono HB6.out.size));have HJ7:=hdd (HJ6.out.below hb7);have HMS7:Hid (w.heap.size<=ms):=HMS;have HLL:=hdd (mJ hI HLN.out);clear hb7 hl hI hlc hcm hw6;go_wp2_with fail
 go_loopw [37] (fun i wr=>∃k:Nat,k<=l.length/\i=.int .i64 (k:Int)/\Hid (Fr (fun b=>b=ms) w7 wr)/\Hid (JG wr j ms g ns l0)) (fun i _=>((l.length:Int)-intOf i).toNat)
 case atStart=>exact⟨0,Nat.zero_le _,rfl,hdd (Fr.of_below (Below.refl _ _)),HJ7⟩
 case round=>
  obtain⟨k,hk,rfl,HF,HJR⟩:=hrel;have HBR:Hid (Below w.heap.size w wr):=hdd (HB7.out.trans (HF.out.below HB7.out.size (fun b hb=>by have:=HMS.out;omega)));rcases Nat.lt_or_ge k l.length with hlt|hge
  . obtain⟨x,hx⟩:∃x,l[k]? =some x:=⟨_,be1 hlt⟩
    have hxl:x<ns.length:=HI.out.lt x (be2 hx);obtain⟨n,hn⟩:∃n,ns[x]? =some n:=⟨_,be1 hxl⟩;have cx:=(HL.out.fr HF.out (fun b hb=>by have:=HM6.out;omega)).cell hx;have HN:=hdd (fB (HDW.out.below HBR.out) hn);have hkI:(k:Int)<(l.length:Int):=by omega
    have hk0:(0:Int)<=(k:Int):=by omega
    have hlI:(l.length:Int)<=20000:=by have:=HLL.out;omega
    have HKL:=hdd hlt;have hx0:x∈l0:=ak9 HI.out HIL.out x (be2 hx);have hkc:=acQ (yS HIL.out HI0.out x hx0) hn;have HCL:Hid (∀o∈opsN n,∃y∈l0,(y:Int)=o):=hdd (HIL.out.cl x hx0 n hn);clear hx hn hxl hlt hx0;rcases hkc with ⟨hk4,hk5⟩|⟨a,b,p,q,rfl,hs,hi⟩|⟨a,p,rfl,hs,hi⟩
    . go_wp2_with fail
      refine HN.out.mono ?_;rintro e w8⟨rfl,hb8⟩;obtain⟨w9,hw9,z0,z1,z2,z3,y0,y1,y2,y3,wa,hwa,hba,hsa⟩:=new4 w8 144 (.int .i64 0) (.float .f64 0) (.int .i64 0) (.int .i64 0) (.int .i64 n.kind) (.float .f64 n.val) (.int .i64 n.a) (.int .i64 n.b);obtain⟨x0,x1,x2,x3⟩:=aU hsa;have HFa:=hdd (HF.out.trans (Fr.of_below (aB hb8 hba)));have HJa:=hdd (HJR.out.below (aB hb8 hba));clear hb8 hba hsa cx;go_wp2_with fail
      go_roundw
      case rel=>exact⟨k+1,by have:=HKL.out;omega,by go_num,HFa,HJa⟩
      case measure=>have:=HKL.out;simp[intOf];omega
    . obtain⟨hga,hsg⟩:=ak8 HDE.out HGD.out hs hi
      have hq0:q∈l0:=by
       obtain⟨y,hy,e⟩:=HCL.out (q:Int) (by simp[opsN]);have:y=q:=by omega
       rw[<-this];exact hy
      have HGA:=hdd hga;have HQ0:=hdd hq0;clear hga hq0 hs hi;dsimp only at HN;go_wp2_with fail
      refine HN.out.mono ?_;rintro e w8⟨rfl,hb8⟩;obtain⟨w9,hw9,z0,z1,z2,z3,y0,y1,y2,y3,wa,hwa,hba,hsa⟩:=new4 w8 144 (.int .i64 0) (.float .f64 0) (.int .i64 0) (.int .i64 0) (.int .i64 4) (.float .f64 0) (.int .i64 (p:Int)) (.int .i64 (q:Int));obtain⟨x0,x1,x2,x3⟩:=aU hsa;have HFa:=hdd (HF.out.trans (Fr.of_below (aB hb8 hba)));have HJa:=hdd (HJR.out.below (aB hb8 hba));have HBa:=hdd (HBR.out.trans ((aB hb8 hba).mono HBR.out.size));clear hb8 hba hsa cx;go_wp2_with fail
      refine(HJS.out _ _ _ _ q HBa.out HJa.out HQ0.out HGA.out).mono ?_;rintro e wb⟨rfl,hfb,hjb⟩;have HFb:=hdd (HFa.out.trans hfb);have HJb:=hdd hjb;clear hfb hjb x0 x1 x2 x3 z0 z1 z2 z3 y0 y1 y2 y3 hw9 hwa;generalize sgT ns q=S at*;go_wp2_with fail
      go_roundw
      case rel=>exact⟨k+1,by have:=HKL.out;omega,by go_num,HFb,HJb⟩
      case measure=>have:=HKL.out;simp[intOf];omega
    . obtain⟨hga,hsg⟩:=ajG HDE.out HGD.out hs hi
      have hq0:p∈l0:=by
       obtain⟨y,hy,e⟩:=HCL.out (p:Int) (by simp[opsN]);have:y=p:=by omega
       rw[<-this];exact hy
      have HGA:=hdd hga;have HQ0:=hdd hq0;clear hga hq0 hs hi;dsimp only at HN;go_wp2_with fail
      refine HN.out.mono ?_;rintro e w8⟨rfl,hb8⟩;obtain⟨w9,hw9,z0,z1,z2,z3,y0,y1,y2,y3,wa,hwa,hba,hsa⟩:=new4 w8 144 (.int .i64 0) (.float .f64 0) (.int .i64 0) (.int .i64 0) (.int .i64 5) (.float .f64 0) (.int .i64 (p:Int)) (.int .i64 0);obtain⟨x0,x1,x2,x3⟩:=aU hsa;have HFa:=hdd (HF.out.trans (Fr.of_below (aB hb8 hba)));have HJa:=hdd (HJR.out.below (aB hb8 hba));have HBa:=hdd (HBR.out.trans ((aB hb8 hba).mono HBR.out.size));clear hb8 hba hsa cx;go_wp2_with fail
      refine(HJS.out _ _ _ _ p HBa.out HJa.out HQ0.out HGA.out).mono ?_;rintro e wb⟨rfl,hfb,hjb⟩;have HFb:=hdd (HFa.out.trans hfb);have HJb:=hdd hjb;clear hfb hjb x0 x1 x2 x3 z0 z1 z2 z3 y0 y1 y2 y3 hw9 hwa;generalize sgT ns p=S at*;go_wp2_with fail
      go_roundw
      case rel=>exact⟨k+1,by have:=HKL.out;omega,by go_num,HFb,HJb⟩
      case measure=>have:=HKL.out;simp[intOf];omega
  . have hke:k=l.length:=by omega
    subst hke;have HRES:Hid (ajH w g root ns (.returned (.tuple #[.pointer (some ⟨j,0,none⟩),.nilIface])) wr):=hdd ⟨HBR.out,j,ms,l0,rfl,HMS.out,HIL.out,HJR.out⟩;clear hk hge;go_wp2
    go_ret2
    exact HRES.out
theorem abH{root K jj:Nat}(hd:DagP w g ns)(ok:OkNs ns)(hlf:iH ns)(hro:iI ns)(hI:Is ns e0 root)(hG:Gd K jj e0 v0)(hgd:AllGd e0)(hT:Tab w):
 Calls Tryz.prog 27 #[.pointer (some ⟨g,0,none⟩),.int .i64 (root:Int),.slice none 0 0] w (fun e w'=>e=.returned (.tuple #[.int .i64 (Re.sgn v0),.nilIface])/\Below w.heap.size w w'):=by
 have HEX:Hid (∀w',Below w.heap.size w w'->Calls Tryz.prog 73 #[.pointer (some ⟨g,0,none⟩),.int .i64 (root:Int),.agg #[.bool true,.int .i64 32]] w' (ajH w' g root ns)):=hdd fun w' h=>yV (hd.below h) ok hlf hro hI hG.den hgd (hT.below h);have HJS:Hid (∀w' j ms l,Below w.heap.size w w'->JG w' j ms g ns l->root∈l->Calls Tryz.prog 75 #[.pointer (some ⟨j,0,none⟩),.int .i64 (root:Int)] w' (fun e w''=>e=.returned (.tuple #[.int .i64 (Re.sgn v0),.nilIface])/\Fr (fun b=>b=ms) w' w''/\JG w'' j ms g ns l)):=hdd fun w' j ms l h hj hl=>by
  have:=mO hj hl (hd.below h) ok hlf hro hI hG (hT.below h);rwa[yT hI hG.den]at this
 clear hd ok hlf hro hI hG hgd hT;go_enter Tryz.func27,Tryz.ntmps27
 go_wp2_with fail
 refine chosen_any.mono ?_;rintro e w1⟨rfl,hb1⟩;have HB1:=hdd hb1;clear hb1;go_wp2_with fail
 refine(HEX.out _ HB1.out).mono ?_;rintro e w2⟨hb2,j,ms,l,rfl,hms,hIB,hjp⟩;have HB2:=hdd (HB1.out.trans (hb2.mono HB1.out.size));have HMS:=hdd (Nat.le_trans HB1.out.size hms);have HJC:=hdd (HJS.out _ j ms l HB2.out hjp hIB.rt);clear hb2 hms hjp hIB HJS HEX;go_wp2_with fail
 refine HJC.out.mono ?_;rintro e w3⟨rfl,hf,-⟩;have HB3:=hdd (HB2.out.trans (hf.below HB2.out.size (fun b hb=>by have:=HMS.out;omega)));clear hf;go_wp2
 go_ret2
 exact⟨rfl,HB3.out⟩
end Go.Proofs.YtebdolonckjpiaaGreatDoor
namespace Go.Proofs.YtebdolonckjpiaaGreatDoor
open Go.RowKit Go.Maps
open Re (rat ofI ofN)
open Bool renaming and_eq_true->be4
open Rat renaming intCast_lt_intCast->be3,mul_nonneg->be5,intCast_natCast->be6,intCast_neg->be7,mul_one->be8,mul_pos->be9
variable{P:Ex->Prop}{ns:List Nd}{l:Nat}
theorem alA(h:AllIs P ns):OkNs ns:=by
 intro i n hn;rcases h.before hn with ⟨h0,-⟩|⟨hk,-,a,b,h1,h2,h3,h4⟩|⟨h5,-,-,a,h1,h2⟩
 . exact⟨Or.inl h0,fun o ho=>by simp[opsN,h0]at ho⟩
 . refine⟨Or.inr (Or.inr (by rcases hk with h|h|h|h<;>omega)),fun o ho=> ?_⟩
   have:n.kind≠0/\n.kind≠5:=by rcases hk with h|h|h|h<;>omega
   simp only[opsN,this.1,this.2,if_false,List.mem_cons,List.not_mem_nil,or_false]at ho;rcases ho with rfl|rfl<;>omega
 . refine⟨Or.inr (Or.inl h5),fun o ho=> ?_⟩
   have:n.kind≠0:=by omega
   rw[show opsN n=[n.a] from by unfold opsN;rw[if_neg this,if_pos h5]]at ho;simp only[List.mem_cons,List.not_mem_nil,or_false]at ho;omega
theorem afX(h:AllIs P ns):iH ns:=by
 intro i n hn h0;rcases h.before hn with ⟨-,h1,h2⟩|⟨hk,-⟩|⟨h5,-⟩
 . exact⟨h1,h2⟩
 . rcases hk with h|h|h|h<;>omega
 . omega
theorem afY(h:AllIs P ns):iI ns:=by
 intro i n hn h0;rcases h.before hn with ⟨h1,-⟩|⟨hk,-⟩|⟨-,-,h2,-⟩
 . omega
 . rcases hk with h|h|h|h<;>omega
 . exact h2
theorem abI{x:Ex}{K j:Nat}{v:Re}(hG:Gd K j x v)(hA:AllGd x):gY P x (Re.sgn v):=
 fun B N w g k ns hs hi=>abH hs.dag (alA hs.all) (afX hs.all) (afY hs.all) hi hG hA hs.tab
def ctQ(k:Nat):Ct:=⟨20*k-1,8000-120*k,16*k-1,16*k-1,40000*k-20000⟩
structure QE(L:List Ex)(x:Ex)(v:Re)(k:Nat):Prop where
 vl:Vl L 16384 x v (ctQ k)
 cost:bX x<=16*k-1
 gd:AllGd x
 one:1<=k
theorem AllGd.leaf (v:Nat):AllGd (.leaf v):=⟨fun a b h=>(by cases h),fun a h=>(by cases h)⟩
theorem AllGd.add {a b:Ex}(h:AllGd a)(k:AllGd b):AllGd (.add a b):=
 ⟨fun x y s=>by cases s with|addL s=>exact h.1 x y s|addR s=>exact k.1 x y s,fun x s=>by cases s with|addL s=>exact h.2 x s|addR s=>exact k.2 x s⟩
theorem AllGd.sub {a b:Ex}(h:AllGd a)(k:AllGd b):AllGd (.sub a b):=
 ⟨fun x y s=>by cases s with|subL s=>exact h.1 x y s|subR s=>exact k.1 x y s,fun x s=>by cases s with|subL s=>exact h.2 x s|subR s=>exact k.2 x s⟩
theorem AllGd.mul {a b:Ex}(h:AllGd a)(k:AllGd b):AllGd (.mul a b):=
 ⟨fun x y s=>by cases s with|mulL s=>exact h.1 x y s|mulR s=>exact k.1 x y s,fun x s=>by cases s with|mulL s=>exact h.2 x s|mulR s=>exact k.2 x s⟩
section
variable{L:List Ex}{a b:Ex}{x y z:Re}{k m n:Nat}
theorem QE.add (h:QE L a x k)(g:QE L b y m):QE L (.add a b) (x+y) (k+m):=by
 have h1:=h.one;have g1:=g.one;refine⟨(Vl.add (by omega) h.vl g.vl).mono ?_ ?_ ?_ ?_ ?_,?_,h.gd.add g.gd,by omega⟩
 . simp only[eQ,ctQ];omega
 . simp only[eQ,ctQ];omega
 . simp only[eQ,ctQ];omega
 . simp only[eQ,ctQ];omega
 . simp only[eQ,ctQ];omega
 . have:=h.cost;have:=g.cost;simp only[bX];omega
theorem QE.sub (h:QE L a x k)(g:QE L b y m):QE L (.sub a b) (x-y) (k+m):=by
 have h1:=h.one;have g1:=g.one;refine⟨(Vl.sub (by omega) h.vl g.vl).mono ?_ ?_ ?_ ?_ ?_,?_,h.gd.sub g.gd,by omega⟩
 . simp only[eQ,ctQ];omega
 . simp only[eQ,ctQ];omega
 . simp only[eQ,ctQ];omega
 . simp only[eQ,ctQ];omega
 . simp only[eQ,ctQ];omega
 . have:=h.cost;have:=g.cost;simp only[bX];omega
theorem QE.mul (h:QE L a x k)(g:QE L b y m):QE L (.mul a b) (x*y) (k+m):=by
 have h1:=h.one;have g1:=g.one;refine⟨(Vl.mul (by omega) h.vl g.vl).mono ?_ ?_ ?_ ?_ ?_,?_,h.gd.mul g.gd,by omega⟩
 . simp only[kU,ctQ];omega
 . simp only[kU,ctQ];omega
 . simp only[kU,ctQ];omega
 . simp only[kU,ctQ];omega
 . simp only[kU,ctQ];omega
 . have:=h.cost;have:=g.cost;simp only[bX];omega
theorem anJ:(32*2^9:Int)=16384:=by decide
theorem QE.good (h:QE L a x k)(hL:L.length<=15)(hk:k<=60)(h1:(16*k-1)*2^L.length+120*k<=7998):Gd L.length 9 a x:=by
 have hv:=h.vl;rw[<-anJ]at hv;have ho:=h.one;have hc:=h.cost;refine Gd.of hv nlr (by omega) hL (by omega) (by simp only[ctQ];omega) ?_ ?_
 . simp only[ctQ,Nat.max_self];omega
 . simp only[ctQ,Nat.max_self];omega
theorem QE.sgn (h:QE L a x k)(hL:L.length<=15)(hk:k<=60)(h1:(16*k-1)*2^L.length+120*k<=7998):gY P a (Re.sgn x):=abI (h.good hL hk h1) h.gd
end
theorem xG{b:Nat}{x:Int}(hv:fv b=x*(U74:Int)):aY b=mkDy x 0:=by
 obtain⟨u,hu,hU⟩:=iQ;unfold aY;rw[hv,hU];have:=aaM x 0 u;rw[show(0:Int)-u=-1074 by omega]at this;exact this
theorem ajI(x:Int):rv (mkDy x 0)=(x:Rat):=by rw[kC,lI,be8]
theorem afZ{x:Int}(n:Nat){m:Nat}(hm:2^n=m)(h:-(m:Int)<x/\x<m):-p2 n<(x:Rat)/\(x:Rat)<p2 n:=by
 have e:p2 n=((m:Int):Rat):=by rw[fC,hm,be6]
 rw[e,<-be7];exact⟨be3.2 h.1,be3.2 h.2⟩
theorem xH{x:Int}(h:-32768<x/\x<32768):Sz 53 1100 (mkDy x 0)/\Am 19 (rv (mkDy x 0))/\((mkDy x 0).man≠0->0<=(mkDy x 0).exp/\topD (mkDy x 0)<=15):=by
 have h1:=afZ 15 (m:=32768) (by decide) (by omega:-((32768:Nat):Int)<x/\x<((32768:Nat):Int));have h2:=ajI x;have h3:(mkDy x 0).man≠0->0<=(mkDy x 0).exp/\topD (mkDy x 0)<=15:=fun hn=>⟨kS hn,nJ hn (by rw[h2];exact h1.1) (by rw[h2];exact h1.2)⟩;refine⟨⟨Canon.mk _ _,?_,fun hn=>by have:=h3 hn;omega⟩,?_,h3⟩
 . have:=nE x 0
   have:bits x.natAbs<=15:=(aG _ _).2 (by omega);omega
 . rw[h2]
   have:=jZ (show((15:Nat):Int)<=19 by omega);exact⟨by have:=h1.1;grind,by have:=h1.2;grind⟩
section
variable{L:List Ex}{b:Nat}{x:Int}
theorem amU(P:Int)(hb:b<18446744073709551616)(hf:fin b)(hv:fv b=x*(U74:Int))(h:-32768<x/\x<32768):Vl L P (.leaf b) (ofI x) ⟨19,P,15,0,1100⟩:=by
 have e:=xG hv;obtain⟨s1,s2,s3⟩:=xH h;have hu:iB b<=15:=by
  unfold iB;rw[e];split
  . omega
  . rename_i hn
    have:=s3 hn;unfold topD at this;rw[if_neg hn]at this;omega
 have hl:iC b<=0:=by
  unfold iC;rw[e];split
  . omega
  . rename_i hn;have:=s3 hn;omega
 have:=Vl.leaf (L:=L) (P:=P) (M:=19) hf hb (by rw[e];exact s1) (by rw[e];exact s2) hu hl;rw[e,ajI]at this;exact this
theorem ajJ(hv:fv b=x*(U74:Int))(h:-32768<x/\x<32768):bX (.leaf b)<=15:=by
 have e:=xG hv;obtain⟨s1,s2,s3⟩:=xH h;simp only[bX];have hu:iB b<=15:=by
  unfold iB;rw[e];split
  . omega
  . rename_i hn
    have:=s3 hn;unfold topD at this;rw[if_neg hn]at this;omega
 have hl:iC b<=0:=by
  unfold iC;rw[e];split
  . omega
  . rename_i hn;have:=s3 hn;omega
 omega
theorem QE.leaf (hb:b<18446744073709551616)(hf:fin b)(hv:fv b=x*(U74:Int))(h:-32768<x/\x<32768):QE L (.leaf b) (ofI x) 1:=
 ⟨(amU 16384 hb hf hv h).mono (by simp only[ctQ];omega) (by simp only[ctQ];omega) (by simp only[ctQ];omega) (by simp only[ctQ];omega) (by simp only[ctQ];omega),by have:=ajJ hv h;omega,AllGd.leaf b,Nat.le_refl _⟩
end
theorem alB(x:Int):Re.sgn (ofI x)=x.sign:=by
 rcases Int.lt_trichotomy x 0 with h|h|h
 . rw[Int.sign_eq_neg_one_iff_neg.2 h,Re.sgn_neg];rw[<-Re.ofI_zero];exact Re.ofI_lt.2 h
 . rw[h,Re.ofI_zero,Re.sgn_zero];rfl
 . rw[Int.sign_eq_one_iff_pos.2 h,Re.sgn_pos];rw[<-Re.ofI_zero];exact Re.ofI_lt.2 h
inductive Sh where
 |leaf (n l:Nat)
 |add (a b:Sh)
 |mul (a b:Sh)
 |div (a b:Sh)
 |root (a:Sh)
 |lit (c:Ct) (k:Nat)
def Sh.ct (K:Nat):Sh->Ct
 | .leaf n l=>⟨n,65536,n,l,1100⟩
 | .add a b=>eQ 65536 (a.ct K) (b.ct K)
 | .mul a b=>kU 65536 (a.ct K) (b.ct K)
 | .div a b=>anF 65536 K (a.ct K) (b.ct K)
 | .root a=>amS 65536 (a.ct K)
 | .lit c _=>c
def Sh.cost:Sh->Nat
 | .leaf n l=>n+l
 | .add a b=>1+a.cost+b.cost
 | .mul a b=>a.cost+b.cost
 | .div a b=>a.cost+b.cost
 | .root a=>a.cost
 | .lit _ k=>k
def Sh.top (K:Nat)(s:Sh):Bool:=decide (K<=15/\s.cost<=1000000/\(s.ct K).s<=4000000/\max (s.ct K).u (s.ct K).l*2^K+1<=32768/\((max (s.ct K).u (s.ct K).l*2^K+2:Nat):Int)<=(s.ct K).W)
def Sh.ok (K:Nat):Sh->Bool
 | .leaf n l=>decide (n<=53/\l<=1000)
 | .add a b=>a.ok K&&b.ok K
 | .mul a b=>a.ok K&&b.ok K
 | .div a b=>a.ok K&&(b.ok K&&(b.top K&&decide (ctG K (b.ct K)<=(b.ct K).W)))
 | .root a=>a.ok K&&a.top K
 | .lit ..=>true
structure FitC(L:List Ex)(s:Sh)(e:Ex)(v:Re):Prop where
 vl:Vl L 65536 e v (s.ct L.length)
 cost:bX e<=s.cost
 gd:AllGd e
def Fit(L:List Ex)(s:Sh)(e:Ex)(v:Re):Prop:=s.ok L.length=true->FitC L s e v
theorem amV:(32*2^11:Int)=65536:=by decide
section
variable{L:List Ex}{s t:Sh}{a b:Ex}{x y z:Re}
theorem FitC.good (h:FitC L s a x)(ht:s.top L.length=true):Gd L.length 11 a x:=by
 obtain⟨h1,h2,h3,h4,h5⟩:=of_decide_eq_true ht;have hv:=h.vl;rw[<-amV]at hv;exact Gd.of hv nlr (by omega) h1 (Nat.le_trans h.cost h2) h3 h4 h5
theorem Fit.add (h:Fit L s a x)(g:Fit L t b y):Fit L (.add s t) (.add a b) (x+y):=fun k=>by
 simp only[Sh.ok,be4]at k;have h:=h k.1;have g:=g k.2;exact⟨Vl.add (by omega) h.vl g.vl,by have:=h.cost;have:=g.cost;simp only[bX,Sh.cost];omega,h.gd.add g.gd⟩
theorem Fit.sub (h:Fit L s a x)(g:Fit L t b y):Fit L (.add s t) (.sub a b) (x-y):=fun k=>by
 simp only[Sh.ok,be4]at k;have h:=h k.1;have g:=g k.2;exact⟨Vl.sub (by omega) h.vl g.vl,by have:=h.cost;have:=g.cost;simp only[bX,Sh.cost];omega,h.gd.sub g.gd⟩
theorem Fit.mul (h:Fit L s a x)(g:Fit L t b y):Fit L (.mul s t) (.mul a b) (x*y):=fun k=>by
 simp only[Sh.ok,be4]at k;have h:=h k.1;have g:=g k.2;exact⟨Vl.mul (by omega) h.vl g.vl,by have:=h.cost;have:=g.cost;simp only[bX,Sh.cost];omega,h.gd.mul g.gd⟩
theorem Fit.sgn (h:Fit L s a x)(hs:(s.ok L.length&&s.top L.length)=true):gY P a (Re.sgn x):=by
 rw[be4]at hs;exact abI ((h hs.1).good hs.2) (h hs.1).gd
end
theorem ajK{b m:Nat}{x:Int}(hl:l+m=1074)(hv:fv b=x*((2^m:Nat):Int)):aY b=mkDy x (-(l:Int)):=by
 unfold aY;rw[hv];have:=aaM x (-(l:Int)) m;rwa[show-(l:Int)-(m:Int)=-1074 by omega]at this
theorem anK{x:Int}{n:Nat}(h:x.natAbs<2^n):-p2 n<(x:Rat)*p2 (-(l:Int))/\(x:Rat)*p2 (-(l:Int))<p2 n:=by
 have e:=fC n;have h1:p2 (-(l:Int))<=1:=by rw[<-lI];exact jZ (by omega)
 have h0:=bU (-(l:Int));have h2:(x:Rat)<p2 n/\-p2 n<(x:Rat):=by
  rw[e,<-be6,<-be7];exact⟨be3.2 (by omega),be3.2 (by omega)⟩
 generalize p2 (-(l:Int))=u at*;generalize (x:Rat)=q at*;generalize p2 (n:Int)=m at*;have hm:0<m:=by grind
 have a1:0<=(m-q)*u:=be5 (by grind) (by grind);have a2:0<=(m+q)*u:=be5 (by grind) (by grind);have a3:0<=m*(1-u):=be5 (by grind) (by grind);have a4:0<(m-q)*u:=be9 (by grind) h0;have a5:0<(m+q)*u:=be9 (by grind) h0;constructor<;>grind
theorem Fit.dleaf {L:List Ex}{b n m:Nat}{x:Int}(hb:b<18446744073709551616)(hf:fin b)(hl:l+m=1074)(hv:fv b=x*((2^m:Nat):Int))(h:x.natAbs<2^n):Fit L (.leaf n l) (.leaf b) (rat ((x:Rat)*p2 (-(l:Int)))):=fun k=>by
 have k:=of_decide_eq_true k;have e:=ajK hl hv;have er:rv (aY b)=(x:Rat)*p2 (-(l:Int)):=by rw[e,kC]
 obtain⟨r1,r2⟩:=anK (l:=l) h;have h3:(aY b).man≠0->-(l:Int)<=(aY b).exp/\topD (aY b)<=n:=fun hn=>⟨by rw[e]at hn|-;exact kS hn,nJ hn (by rw[er];exact r1) (by rw[er];exact r2)⟩;have h4:bits (aY b).man.natAbs<=n:=by
  rw[e];exact Nat.le_trans (nE x _) ((aG _ _).2 h)
 have hu:iB b<=n:=by
  unfold iB;split
  . omega
  . rename_i hn
    have:=h3 hn;unfold topD at this;rw[if_neg hn]at this;omega
 have hl:iC b<=l:=by
  unfold iC;split
  . omega
  . rename_i hn;have:=h3 hn;omega
 have hv:=Vl.leaf (L:=L) (P:=65536) (M:=n) hf hb ⟨by rw[e];exact Canon.mk _ _,by omega,fun hn=>by have:=h3 hn;omega⟩ ⟨by rw[er];grind,by rw[er];grind⟩ hu hl;rw[er]at hv;exact⟨hv,by simp only[bX,Sh.cost];omega,AllGd.leaf b⟩
theorem Fit.leaf {L:List Ex}{b:Nat}{x:Int}(n:Nat)(hb:b<18446744073709551616)(hf:fin b)(hv:fv b=x*(U74:Int))(h:x.natAbs<2^n):Fit L (.leaf n 0) (.leaf b) (ofI x):=by
 obtain⟨u,hu,hU⟩:=iQ;have:=Fit.dleaf (L:=L) (n:=n) (l:=0) (x:=x) hb hf (m:=u) (by omega) (by rw[hv,hU]) h;rwa[show-((0:Nat):Int)=0 by rfl,lI,be8]at this
end Go.Proofs.YtebdolonckjpiaaGreatDoor
namespace Go.Proofs.YtebdolonckjpiaaGreatDoor
open Ieee
open Int renaming natCast_mul->bfA,neg_mul->bfB,lt_or_le->bfC
variable{r:Nat}
theorem alC(j:Nat):∀m:Nat,m<2^53->j<=1990->∃c,c<infR/\mg c=m*2^j:=by
 induction j with
 |zero=>
  intro m hm _;exact⟨m,by unfold infR;omega,by rw[kJ m hm,Nat.pow_zero,Nat.mul_one]⟩
 |succ j ih=>
  intro m hm hj;rcases Nat.lt_or_ge m (2^52)with h|h
  . obtain⟨c,h1,h2⟩:=ih (m*2) (by omega) (by omega)
    exact⟨c,h1,by rw[h2,Nat.pow_succ,Nat.mul_assoc,Nat.mul_comm 2]⟩
  . refine⟨(j+2)*2^52+(m-2^52),by unfold infR;omega,?_⟩
    rw[jC _ (by omega)];have e1:((j+2)*2^52+(m-2^52))/2^52=j+2:=by omega
    have e2:((j+2)*2^52+(m-2^52))%2^52=m-2^52:=by omega
    rw[e1,e2,show j+2-1=j+1 by omega,show 2^52+(m-2^52)=m by omega]
def RepF(N:Int):Prop:=∃c:Int,-(infR:Int)<c/\c<infR/\fvr c=N
theorem amW{x:Int}(j:Nat)(h:x.natAbs<2^53)(hj:j<=1990):RepF (x*(2^j:Nat)):=by
 obtain⟨c,h1,h2⟩:=alC j x.natAbs h hj;have hc:(mg c:Int)=(x.natAbs:Int)*(2^j:Nat):=by rw[h2,bfA]
 rcases bfC x 0 with g|g
 . by_cases h0:c=0
   . subst h0
     rw[oJ]at hc;refine⟨0,by unfold infR;omega,by unfold infR;omega,?_⟩;rw[dN,show x=-(x.natAbs:Int) by omega,bfB,<-hc];rfl
   . refine⟨-(c:Int),by omega,by omega,?_⟩
     unfold fvr;rw[if_pos (by omega),show(-(c:Int)).natAbs=c by omega,hc,<-bfB,show-(x.natAbs:Int)=x by omega]
 . refine⟨(c:Int),by omega,by omega,?_⟩
   unfold fvr;rw[if_neg (by omega),show((c:Int)).natAbs=c by omega,hc,show(x.natAbs:Int)=x by omega]
theorem amX(h1:-(infR:Int)<sr r)(h2:sr r<infR):fin r:=by
 unfold sr at h1 h2;unfold fin;split at h1<;>simp_all<;>omega
theorem Near.exact {t:Nat}{N M:Int}(h:Near r N t)(hM:RepF M)(hN:N=M*(2^(t-1074):Nat)):fin r/\fv r=M:=by
 obtain⟨c,c1,c2,rfl⟩:=hM;have e:sr r=c:=by
  have h1:=h.2.1 c (by omega) (by omega) (by omega);have h2:=h.2.2 c (by omega) (by omega) (by omega);omega
 exact⟨amX (by omega) (by omega),by unfold fv;rw[e]⟩
theorem abJ{k:Int}(h:k.natAbs<2^53):FloatKind.f64.nearest k<18446744073709551616/\fin (FloatKind.f64.nearest k)/\fv (FloatKind.f64.nearest k)=k*(2^1074:Nat):=by
 have e:FloatKind.f64.nearest k=double.nearest (decide (k<0)) k.natAbs 0:=rfl;rw[e];have hn:=gX (decide (k<0)) k.natAbs 0 1074 (by omega) (by omega) (k*(2^1074:Nat)) (by
  have:(0+((1074:Nat):Int)).toNat=1074:=by omega
  rw[this];generalize 2^1074=M;rcases bfC k 0 with g|g
  . rw[if_pos (by simpa using g),bfA,<-bfB,show-(k.natAbs:Int)=k by omega]
  . rw[if_neg (by simpa using g),bfA,show(k.natAbs:Int)=k by omega])
 obtain⟨h1,h2⟩:=hn.exact (amW 1074 h (by omega)) (by rw[show(2^(1074-1074):Nat)=1 by decide];omega);exact⟨double.nearest_lt ..,h1,h2⟩
end Go.Proofs.YtebdolonckjpiaaGreatDoor
namespace Go.Proofs.YtebdolonckjpiaaGreatDoor
open Go.RowKit Go.Maps
open Re (rat ofI ofN)
variable{P:Ex->Prop}{v x y:Int}
abbrev IntE(x:Ex)(v:Int)(k:Nat):Prop:=QE [] x (ofI v) k
theorem IntE.leaf {b:Nat}(hb:b<18446744073709551616)(hf:fin b)(hv:fv b=v*(U74:Int))(h:-32768<v/\v<32768):IntE (.leaf b) v 1:=QE.leaf hb hf hv h
theorem alD(a b:Int):ofI (a-b)=ofI a-ofI b:=by rw[Int.sub_eq_add_neg,Re.ofI_add,Re.ofI_neg,Re.sub_def]
theorem IntE.sub {a b:Ex}{c d:Nat}(ha:IntE a x c)(hb:IntE b y d):IntE (.sub a b) (x-y) (c+d):=by
 have:=QE.sub ha hb;rwa[<-alD]at this
theorem IntE.mul {a b:Ex}{c d:Nat}(ha:IntE a x c)(hb:IntE b y d):IntE (.mul a b) (x*y) (c+d):=by
 have:=QE.mul ha hb;rwa[<-Re.ofI_mul]at this
theorem IntE.sgn {x:Ex}{c:Nat}(h:IntE x v c)(hc:c<=50):gY PT x v.sign:=by
 have:=QE.sgn (P:=PT) h (by simp) (by omega) (by simp;omega);rwa[alB]at this
section
variable{L:List Ex}{A B C D A' B' C':Ex}{a b c d a' b' c':Re}{i j k l i' j' k':Nat}
end
theorem alS:fv 0=(0:Int)*(U74:Int):=by kernel_rfl
theorem anL:fv 4607182418800017408=(1:Int)*(U74:Int):=by kernel_rfl
theorem sP:IntE (.leaf 0) (0) 1:=IntE.leaf (by decide) (by decide) alS (by decide)
def fl(k:Int):Nat:=FloatKind.f64.nearest k
abbrev li(k:Int):Ex:=.leaf (fl k)
theorem qM{k:Int}(h:k.natAbs<2^53):fl k<18446744073709551616/\fin (fl k)/\fv (fl k)=k*(U74:Int):=by
 obtain⟨h1,h2,h3⟩:=abJ h;obtain⟨u,hu,hU⟩:=iQ;exact⟨h1,h2,by rw[hU,hu];exact h3⟩
section
variable{L:List Ex}{s t:Sh}{a b:Ex}{p q:Rat}
theorem Fit.rsub (h:Fit L s a (rat p))(g:Fit L t b (rat q)):Fit L (.add s t) (.sub a b) (rat (p-q)):=by rw[Re.rat_sub];exact h.sub g
theorem Fit.rmul (h:Fit L s a (rat p))(g:Fit L t b (rat q)):Fit L (.mul s t) (.mul a b) (rat (p*q)):=by rw[Re.rat_mul];exact h.mul g
theorem Fit.pos (h:Fit L s a (rat p))(hp:0<p)(hs:(s.ok L.length&&s.top L.length)=true):gY P a 1:=by
 have:=h.sgn (P:=P) hs;rwa[Re.sgn_pos (by rw[Re.zero_rat];exact Re.rat_lt.2 hp)]at this
theorem Fit.neg (h:Fit L s a (rat p))(hp:p<0)(hs:(s.ok L.length&&s.top L.length)=true):gY P a (-1):=by
 have:=h.sgn (P:=P) hs;rwa[Re.sgn_neg (by rw[Re.zero_rat];exact Re.rat_lt.2 hp)]at this
theorem Fit.zero (h:Fit L s a (rat p))(hp:p=0)(hs:(s.ok L.length&&s.top L.length)=true):gY P a 0:=by
 have:=h.sgn (P:=P) hs;rwa[hp,<-Re.zero_rat,Re.sgn_zero]at this
end
end Go.Proofs.YtebdolonckjpiaaGreatDoor
namespace Go.Proofs.YtebdolonckjpiaaGreatDoor
open Ieee
open Re (rat ofI ofN)
end Go.Proofs.YtebdolonckjpiaaGreatDoor
namespace Go.Proofs.YtebdolonckjpiaaGreatDoor
open Go.RowKit Go.Maps
end Go.Proofs.YtebdolonckjpiaaGreatDoor
namespace Go.Proofs.YtebdolonckjpiaaGreatDoor
open Go.RowKit Go.Maps
open Re (rat ofI ofN)
theorem Fit.sign {P:Ex->Prop}{L:List Ex}{s:Sh}{a:Ex}{q:Rat}{v:Int}(h:Fit L s a (rat q))(c:Nat)(hc:0<c)(hq:q*(c:Rat)=(v:Rat))(hs:(s.ok L.length&&s.top L.length)=true):gY P a v.sign:=by
 have hc':(0:Rat)<(c:Rat):=by rw[<-Rat.intCast_natCast];exact Rat.intCast_pos.2 (by omega)
 rcases Int.lt_trichotomy v 0 with g|g|g
 . rw[Int.sign_eq_neg_one_iff_neg.2 g]
   refine h.neg ?_ hs;apply Classical.byContradiction;intro k;have h1:0<=q*(c:Rat):=Rat.mul_nonneg (by grind) (by grind);rw[hq]at h1;have h2:(v:Rat)<((0:Int):Rat):=Rat.intCast_lt_intCast.2 g;have h3:((0:Int):Rat)=0:=rfl;grind
 . rw[g]
   refine h.zero ?_ hs;rw[g]at hq;rcases Rat.mul_eq_zero.1 (hq.trans (show((0:Int):Rat)=0 from rfl))with k|k
   . exact k
   . grind
 . rw[Int.sign_eq_one_iff_pos.2 g]
   refine h.pos ?_ hs;apply Classical.byContradiction;intro k;have h1:0<=-q*(c:Rat):=Rat.mul_nonneg (by grind) (by grind);have h2:((0:Int):Rat)<(v:Rat):=Rat.intCast_lt_intCast.2 g;have h3:((0:Int):Rat)=0:=rfl;grind
def Iw(b:Nat)(T:Int):Prop:=FlOk b/\fv b=T*(U74:Int)
end Go.Proofs.YtebdolonckjpiaaGreatDoor
namespace Go.Proofs.YtebdolonckjpiaaGreatDoor
open Go.RowKit Go.Maps
section
variable(U V W:Ex)(a b c:Nat)
end
end Go.Proofs.YtebdolonckjpiaaGreatDoor
namespace Go.Proofs.YtebdolonckjpiaaGreatDoor
open Go.RowKit Go.Maps
open Re (rat ofI ofN)
abbrev w3:Nat:=4613937818241073152
abbrev w4:Nat:=4616189618054758400
end Go.Proofs.YtebdolonckjpiaaGreatDoor
namespace Go.Proofs.YtebdolonckjpiaaGreatDoor
open Ieee
end Go.Proofs.YtebdolonckjpiaaGreatDoor
namespace Go.Proofs.YtebdolonckjpiaaGreatDoor
open Go.RowKit Go.Maps Ieee
section
variable{x y:Nat}{a b:Int}
end
theorem Iw.fit {b:Nat}{T:Int}{L:List Ex}(h:Iw b T)(n:Nat)(hT:T.natAbs<2^n)(hn:n<=53):Fit L (.leaf n 0) (.leaf b) (Re.rat (T:Rat)):=Fit.leaf n h.1.1 h.1.2 h.2 hT
end Go.Proofs.YtebdolonckjpiaaGreatDoor
namespace Go.Proofs.YtebdolonckjpiaaGreatDoor
open Go.RowKit Go.Maps
open Re (rat ofI ofN)
theorem nlt{x:Int}{m n:Nat}(h:x.natAbs<=m)(k:m<2^n:=by decide):x.natAbs<2^n:=Nat.lt_of_le_of_lt h k
section
variable{u v w a b c se sn:Sh}{U V W:Ex}{A B C:Nat}{p q r x y e n z:Rat}
end
abbrev cL:Ct:=⟨40,65464,21,13,71051⟩
section
variable(a b u v s:Rat)
end
end Go.Proofs.YtebdolonckjpiaaGreatDoor
namespace Go.Proofs.YtebdolonckjpiaaGreatDoor
open Go.RowKit Go.Maps
end Go.Proofs.YtebdolonckjpiaaGreatDoor
namespace Go.Proofs.YtebdolonckjpiaaGreatDoor
open Go.RowKit Go.Maps
open Re (rat ofI ofN)
open Bool renaming eq_iff_iff->bfD
variable{A1 A2 B1 B2 X1 X2:Int}{a1 a2 b1 b2 x1 x2:Nat}
theorem acR{x y:Nat}{X Y:Int}(hx:Iw x X)(hy:Iw y Y)(bx:X.natAbs<=12)(b_y:Y.natAbs<=12):gY PT (.sub (.leaf x) (.leaf y)) (X-Y).sign:=
 ((hx.fit (L:=[]) 4 (nlt bx) (by decide)).rsub (hy.fit 4 (nlt b_y) (by decide))).sign 1 (by decide) (by push_cast;grind) (by kernel_rfl)
theorem alE(v:Int):(v.sign==0)=(v==0):=by
 rw[bfD,beq_iff_eq,beq_iff_eq];exact Int.sign_eq_zero_iff_zero
theorem alF(a b:Int):(a-b==0)=(a==b):=by
 rw[bfD,beq_iff_eq,beq_iff_eq];omega
theorem yX(h1:Iw a1 A1)(h2:Iw a2 A2)(g1:Iw b1 B1)(g2:Iw b2 B2)(c1:A1.natAbs<=12)(c2:A2.natAbs<=12)(d1:B1.natAbs<=12)(d2:B2.natAbs<=12):
 ∃c,gL PT (.leaf a1) (.leaf a2) (.leaf b1) (.leaf b2) c/\(c==0)=(A1==B1&&A2==B2):=by
 refine⟨_,⟨(A1-B1).sign,(A2-B2).sign,trivial,acR h1 g1 c1 d1,fun _=>⟨trivial,acR h2 g2 c2 d2⟩,rfl⟩,?_⟩;by_cases h:(A1-B1).sign=0
 . rw[if_pos h,alE,alF,show(A1==B1)=true from beq_iff_eq.2 (by have:=Int.sign_eq_zero_iff_zero.1 h;omega),Bool.true_and]
 . rw[if_neg h,show((A1-B1).sign==0)=false from beq_eq_false_iff_ne.2 h,show(A1==B1)=false from beq_eq_false_iff_ne.2 (fun e=>h (by rw[e,Int.sub_self];rfl)),Bool.false_and]
theorem ajL(h1:Iw a1 A1)(h2:Iw a2 A2)(g1:Iw b1 B1)(g2:Iw b2 B2)(k1:Iw x1 X1)(k2:Iw x2 X2)(c1:A1.natAbs<=12)(c2:A2.natAbs<=12)(d1:B1.natAbs<=12)(d2:B2.natAbs<=12)(e1:X1.natAbs<=12)(e2:X2.natAbs<=12):
 qF PT (.leaf a1) (.leaf a2) (.leaf x1) (.leaf x2) (.leaf b1) (.leaf b2) ((X1-A1)*(B2-A2)-(X2-A2)*(B1-A1)).sign:=by
 have f1:=h1.fit (L:=[]) 4 (nlt c1) (by decide);have f2:=h2.fit (L:=[]) 4 (nlt c2) (by decide);have f3:=g1.fit (L:=[]) 4 (nlt d1) (by decide);have f4:=g2.fit (L:=[]) 4 (nlt d2) (by decide);have f5:=k1.fit (L:=[]) 4 (nlt e1) (by decide);have f6:=k2.fit (L:=[]) 4 (nlt e2) (by decide);exact(((f5.rsub f1).rmul (f4.rsub f2)).rsub ((f6.rsub f2).rmul (f3.rsub f1))).sign 1 (by decide) (by push_cast;grind) (by kernel_rfl)
def onB(a1 a2 b1 b2 x1 x2:Int):Bool:=(a1==b1&&a2==b2)||(x1==a1&&x2==a2)||(x1==b1&&x2==b2)||decide (0<(x1-a1)*(b2-a2)-(x2-a2)*(b1-a1))
theorem af0(h1:Iw a1 A1)(h2:Iw a2 A2)(g1:Iw b1 B1)(g2:Iw b2 B2)(k1:Iw x1 X1)(k2:Iw x2 X2)(c1:A1.natAbs<=12)(c2:A2.natAbs<=12)(d1:B1.natAbs<=12)(d2:B2.natAbs<=12)(e1:X1.natAbs<=12)(e2:X2.natAbs<=12):
 aiM (.leaf a1) (.leaf a2) (.leaf b1) (.leaf b2) (.leaf x1) (.leaf x2) (onB A1 A2 B1 B2 X1 X2):=by
 obtain⟨p,p1,p2⟩:=yX h1 h2 g1 g2 c1 c2 d1 d2;obtain⟨q,q1,q2⟩:=yX k1 k2 h1 h2 e1 e2 c1 c2;obtain⟨r,r1,r2⟩:=yX k1 k2 g1 g2 e1 e2 d1 d2;refine⟨p,q,r,_,p1,q1,r1,ajL h1 h2 g1 g2 k1 k2 c1 c2 d1 d2 e1 e2,?_⟩;unfold onB;rw[p2,q2,r2]
 congr 1
 rw[bfD,beq_iff_eq,decide_eq_true_iff];exact Int.sign_eq_one_iff_pos
end Go.Proofs.YtebdolonckjpiaaGreatDoor
namespace Go.Proofs.YtebdolonckjpiaaGreatDoor
open Go.RowKit Go.Maps
section
variable{P:Program}{ρ:Operand->Value}{o:Oper}{t t2:TypeId}{x y:Operand}{a b v:Value}{w:World}
end
end Go.Proofs.YtebdolonckjpiaaGreatDoor
namespace Go.Proofs.YtebdolonckjpiaaGreatDoor
open Go.RowKit Go.Maps Go.Stop Go.Extern
abbrev w1:Nat:=4607182418800017408
theorem iw_1:Iw w1 1:=⟨⟨by decide,by decide⟩,anL⟩
end Go.Proofs.YtebdolonckjpiaaGreatDoor
