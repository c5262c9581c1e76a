/- A part of the proof: contracts of functions and plain laws (SgC, SgD, FtA, FeA, QlA, FtB, FeB, QlL, MtB, MtC, QlM, FltC, FeC, QlN, RcA, OpA, TwD, MwA, MtD, AlvE, LiB, LiC, FwA, FwB, LtA, GrA, MkA, TuC, MoA, QlV). -/
import Derived.Test.YtjdgaogkioabeaaGreatDoorK32
import Derived.Test.YtjdgaogkioabeaaGreatDoorK16
import Derived.Test.YtjdgaogkioabeaaGreatDoorK08
import Derived.Test.YtjdgaogkioabeaaGreatDoorK19
import Derived.Test.YtjdgaogkioabeaaGreatDoorK10
import Derived.Test.YtjdgaogkioabeaaGreatDoorK18
import Derived.WalkKit
import Derived.Laws.NewFold
import Derived.IntWalk
import Derived.Test.YtjdgaogkioabeaaGreatDoorK11
import Derived.Test.YtjdgaogkioabeaaGreatDoorK20
set_option linter.unusedVariables false
set_option linter.unusedSimpArgs false
set_option maxHeartbeats 25600000
set_option maxRecDepth 100000
namespace Go.Proofs.YtjdgaogkioabeaaGreatDoor
section
open Go.RowKit Go.Maps
open List renaming getElem?_eq_getElem->biJ,mem_of_getElem?->biK
variable{a e e0:Ex}{ns:List Nd}{g q:Nat}{v v0:Re}{w:World}
def GdAt(ns:List Nd)(i:Nat):Prop:=∃a K j v,Is ns a i/\Gd K j a v
theorem aeK{x:Nat}{n:Nd}(hp:Part ns e x)(hn:ns[x]? =some n):
 (n.kind≠4/\n.kind≠5)\/(∃a b,∃p q:Nat,n=⟨4,0,p,q⟩/\SubE (.div a b) e/\Is ns b q)\/(∃a,∃p:Nat,n=⟨5,0,p,0⟩/\SubE (.root a) e/\Is ns a p):=by
 obtain⟨a',hs,hi⟩:=hp
 cases a' with
 |leaf v=>have hi:ns[x]? =some ⟨0,v,0,0⟩:=hi;rw[hn]at hi;cases hi;exact Or.inl ⟨show(0:Int)≠4 by decide,show(0:Int)≠5 by decide⟩
 |add a b=>obtain⟨p,q,h,-⟩:=hi;rw[hn]at h;cases h;exact Or.inl ⟨show(1:Int)≠4 by decide,show(1:Int)≠5 by decide⟩
 |sub a b=>obtain⟨p,q,h,-⟩:=hi;rw[hn]at h;cases h;exact Or.inl ⟨show(2:Int)≠4 by decide,show(2:Int)≠5 by decide⟩
 |mul a b=>obtain⟨p,q,h,-⟩:=hi;rw[hn]at h;cases h;exact Or.inl ⟨show(3:Int)≠4 by decide,show(3:Int)≠5 by decide⟩
 |div a b=>obtain⟨p,q,h,-,-,-,h5⟩:=hi;rw[hn]at h;cases h;exact Or.inr (Or.inl ⟨a,b,p,q,rfl,hs,h5⟩)
 |root a=>obtain⟨p,h,-,h3⟩:=hi;rw[hn]at h;cases h;exact Or.inr (Or.inr ⟨a,p,rfl,hs,h3⟩)
theorem anS{b:Ex}(hd:DenR e v)(hg:AllGd e)(hs:SubE (.div a b) e)(hi:Is ns b q):GdAt ns q/\sgT ns q≠0:=by
 obtain⟨K,j,u,hu⟩:=hg.1 a b hs;refine⟨⟨b,K,j,u,hi,hu⟩,?_⟩;rw[aaS hi hu.den];obtain⟨t,ht⟩:=hs.den hd
 cases ht with
 |div h1 h2 h0 hz=>rw[hu.den.uniq h2];exact fun h=>h0 (Re.sgn_eq_zero.1 h)
theorem alO(hd:DenR e v)(hg:AllGd e)(hs:SubE (.root a) e)(hi:Is ns a q):GdAt ns q/\¬sgT ns q<0:=by
 obtain⟨K,j,u,hu⟩:=hg.2 a hs;refine⟨⟨a,K,j,u,hi,hu⟩,?_⟩;rw[aaS hi hu.den];obtain⟨t,ht⟩:=hs.den hd
 cases ht with
 |root h1 h0 hz=>
  rw[hu.den.uniq h1];have:(0:Re)<=_:=Re.mul_nonneg h0 h0;rw[hz]at this;rcases Re.sgn_cases _ with ⟨-,h⟩|⟨-,h⟩|⟨h,-⟩
  . rw[h];decide
  . rw[h];decide
  . exact absurd h (Re.not_lt.2 this)
theorem anT{root:Nat}{l m:List Nat}(hl:IsB ns root l)(hm:IsB ns root m):∀x∈l,x∈m:=by
 refine hl.mn (fun x=>x∈m) ?_ hm.rt;intro x n hx hn o ho;obtain⟨y,hy,e⟩:=hm.cl x hx n hn o ho;rw[<-e,Int.toNat_natCast];exact hy
def alP(w:World)(g root:Nat)(ns:List Nd)(e:Ending)(w':World):Prop:=Below w.heap.size w w'/\∃j ms l,e=.returned (.tuple #[.pointer (some ⟨j,0,none⟩),.nilIface])/\w.heap.size<=ms/\IsB ns root l/\JG w' j ms g ns l
theorem aaU{root:Nat}(hd:DagP w g ns)(ok:OkNs ns)(hlf:iJ ns)(hro:iK ns)(hI:Is ns e0 root)(hde:DenR e0 v0)(hgd:AllGd e0)(hT:Tab w):
 Calls Tryz.prog 89 #[.pointer (some ⟨g,0,none⟩),.int .i64 (root:Int),.agg #[.bool true,.int .i64 32]] w (alP w g root ns):=by
 obtain⟨w1,hw1,hb1,hs1,b1⟩:=pro1 w (.cells #[.bool true,.int .i64 32] 156);obtain⟨c0,c1,-,-⟩:=aC b1;have hr:=hI.lt;obtain⟨nr,hnr⟩:∃n,ns[root]? =some n:=⟨_,biJ hr⟩;have HB1:=hdd hb1;have HN1:=hdd (fJ (hd.below hb1) hnr);have HDW:=hdd hd;have HDE:=hdd hde;have HGD:=hdd hgd;have HI0:=hdd hI;have HLN:=hdd hd.len;have HNJ:Hid (∀w',Below w.heap.size w w'->Calls Tryz.prog 102 #[.pointer (some ⟨g,0,none⟩),.int .i64 (root:Int),.agg #[.bool true,.int .i64 32]] w' (RetJ w' g root ns)):=hdd fun w' h=>aaT (hd.below h) ok hlf hro hr;have HJS:Hid (∀w' j ms l (p:Nat),Below w.heap.size w w'->JG w' j ms g ns l->p∈l->GdAt ns p->Calls Tryz.prog 91 #[.pointer (some ⟨j,0,none⟩),.int .i64 (p:Int)] w' (fun e w''=>e=.returned (.tuple #[.int .i64 (sgT ns p),.nilIface])/\Fr (fun b=>b=ms) w' w''/\JG w'' j ms g ns l)):=hdd fun w' j ms l p h hj hl ⟨a,K,jj,v,hi,hg⟩=>nL hj hl (hd.below h) ok hlf hro hi hg (hT.below h);have HBE:Hid (∀w' b0,Below w.heap.size w w'->w'.heap[b0]? =some (.cells #[.int .i64 (root:Int)] 3 (0,0))->Calls Tryz.prog 103 #[.pointer (some ⟨g,0,none⟩),.slice (some ⟨b0,0,none⟩) 1 1] w' (p9 w' ns root)):=hdd fun w' b0 h hb=>jK (hd.below h) ok hr hb
 clear hd ok hlf hro hr hb1 b1 hs1 hnr hI hde hgd hT;have hst:=aN;go_enter Tryz.func89,Tryz.ntmps89
 go_wp2_with fail
 refine HN1.out.mono ?_;rintro e w2⟨rfl,hb2⟩;obtain⟨w3,hw3,z0,z1,z2,z3,y0,y1,y2,y3,w4,hw4,hb4,hs4⟩:=new4 w2 102 (.int .i64 0) (.float .f64 0) (.int .i64 0) (.int .i64 0) (.int .i64 nr.kind) (.float .f64 nr.val) (.int .i64 nr.a) (.int .i64 nr.b);have h14:=aB hb2 hb4;replace c0:=cbl c0 h14;replace c1:=cbl c1 h14;have HB4:=hdd (HB1.out.trans (h14.mono HB1.out.size));clear hb2 hb4 hs4 h14;go_wp2_with fail
 refine(HNJ.out _ HB4.out).mono ?_;rintro e w5⟨hb5,j,ms,l0,rfl,hms,hms5,hI0,hjp⟩;obtain⟨w6,hw6,hb6,hs6,b6⟩:=pro1 w5 (.cells #[.int .i64 (root:Int)] 3);have h46:=aB hb5 hb6;have HB6:=hdd (HB4.out.trans (h46.mono HB4.out.size));have HJ6:=hdd (hjp.below hb6);have HIL:=hdd hI0;have HM6:Hid (ms<w6.heap.size):=hdd (by have:=hb6.size;omega);have HMS:=hdd (Nat.le_trans HB4.out.size hms);have HBE6:=hdd (HBE.out w6 _ HB6.out b6);clear hb5 hb6 hs6 b6 h46 hjp hms hms5 hI0 c0 c1 z0 z1 z2 z3 y0 y1 y2 y3 hw3 hw4;go_wp2_with fail
 refine HBE6.out.mono ?_;rintro e w7⟨hb7,v7,l,rfl,hl,hI⟩;obtain⟨bl,cl,rfl,hlc,hcm,-⟩:=id hl;have HL:=hdd hl;have HI:=hdd hI;have HB7:=hdd (HB6.out.trans (hb7.mono HB6.out.size));have HJ7:=hdd (HJ6.out.below hb7);have HMS7:Hid (w.heap.size<=ms):=HMS;have HLL:=hdd (nJ hI HLN.out);clear hb7 hl hI hlc hcm hw6;go_wp2_with fail
 go_loopw [37] (fun i wr=>∃k:Nat,k<=l.length/\i=.int .i64 (k:Int)/\Hid (Fr (fun b=>b=ms) w7 wr)/\Hid (JG wr j ms g ns l0)) (fun i _=>((l.length:Int)-intOf i).toNat)
 case atStart=>exact⟨0,Nat.zero_le _,rfl,hdd (Fr.of_below (Below.refl _ _)),HJ7⟩
 case round=>
  obtain⟨k,hk,rfl,HF,HJR⟩:=hrel;have HBR:Hid (Below w.heap.size w wr):=hdd (HB7.out.trans (HF.out.below HB7.out.size (fun b hb=>by have:=HMS.out;omega)));rcases Nat.lt_or_ge k l.length with hlt|hge
  . obtain⟨x,hx⟩:∃x,l[k]? =some x:=⟨_,biJ hlt⟩
    have hxl:x<ns.length:=HI.out.lt x (biK hx);obtain⟨n,hn⟩:∃n,ns[x]? =some n:=⟨_,biJ hxl⟩;have cx:=(HL.out.fr HF.out (fun b hb=>by have:=HM6.out;omega)).cell hx;have HN:=hdd (fJ (HDW.out.below HBR.out) hn);have hkI:(k:Int)<(l.length:Int):=by omega
    have hk0:(0:Int)<=(k:Int):=by omega
    have hlI:(l.length:Int)<=20000:=by have:=HLL.out;omega
    have HKL:=hdd hlt;have hx0:x∈l0:=anT HI.out HIL.out x (biK hx);have hkc:=aeK (aaR HIL.out HI0.out x hx0) hn;have HCL:Hid (∀o∈opsN n,∃y∈l0,(y:Int)=o):=hdd (HIL.out.cl x hx0 n hn);clear hx hn hxl hlt hx0;rcases hkc with ⟨hk4,hk5⟩|⟨a,b,p,q,rfl,hs,hi⟩|⟨a,p,rfl,hs,hi⟩
    . go_wp2_with fail
      refine HN.out.mono ?_;rintro e w8⟨rfl,hb8⟩;obtain⟨w9,hw9,z0,z1,z2,z3,y0,y1,y2,y3,wa,hwa,hba,hsa⟩:=new4 w8 102 (.int .i64 0) (.float .f64 0) (.int .i64 0) (.int .i64 0) (.int .i64 n.kind) (.float .f64 n.val) (.int .i64 n.a) (.int .i64 n.b);obtain⟨x0,x1,x2,x3⟩:=aD hsa;have HFa:=hdd (HF.out.trans (Fr.of_below (aB hb8 hba)));have HJa:=hdd (HJR.out.below (aB hb8 hba));clear hb8 hba hsa cx;go_wp2_with fail
      go_roundw
      case rel=>exact⟨k+1,by have:=HKL.out;omega,by go_num,HFa,HJa⟩
      case measure=>have:=HKL.out;simp[intOf];omega
    . obtain⟨hga,hsg⟩:=anS HDE.out HGD.out hs hi
      have hq0:q∈l0:=by
       obtain⟨y,hy,e⟩:=HCL.out (q:Int) (by simp[opsN]);have:y=q:=by omega
       rw[<-this];exact hy
      have HGA:=hdd hga;have HQ0:=hdd hq0;clear hga hq0 hs hi;dsimp only at HN;go_wp2_with fail
      refine HN.out.mono ?_;rintro e w8⟨rfl,hb8⟩;obtain⟨w9,hw9,z0,z1,z2,z3,y0,y1,y2,y3,wa,hwa,hba,hsa⟩:=new4 w8 102 (.int .i64 0) (.float .f64 0) (.int .i64 0) (.int .i64 0) (.int .i64 4) (.float .f64 0) (.int .i64 (p:Int)) (.int .i64 (q:Int));obtain⟨x0,x1,x2,x3⟩:=aD hsa;have HFa:=hdd (HF.out.trans (Fr.of_below (aB hb8 hba)));have HJa:=hdd (HJR.out.below (aB hb8 hba));have HBa:=hdd (HBR.out.trans ((aB hb8 hba).mono HBR.out.size));clear hb8 hba hsa cx;go_wp2_with fail
      refine(HJS.out _ _ _ _ q HBa.out HJa.out HQ0.out HGA.out).mono ?_;rintro e wb⟨rfl,hfb,hjb⟩;have HFb:=hdd (HFa.out.trans hfb);have HJb:=hdd hjb;clear hfb hjb x0 x1 x2 x3 z0 z1 z2 z3 y0 y1 y2 y3 hw9 hwa;generalize sgT ns q=S at*;go_wp2_with fail
      go_roundw
      case rel=>exact⟨k+1,by have:=HKL.out;omega,by go_num,HFb,HJb⟩
      case measure=>have:=HKL.out;simp[intOf];omega
    . obtain⟨hga,hsg⟩:=alO HDE.out HGD.out hs hi
      have hq0:p∈l0:=by
       obtain⟨y,hy,e⟩:=HCL.out (p:Int) (by simp[opsN]);have:y=p:=by omega
       rw[<-this];exact hy
      have HGA:=hdd hga;have HQ0:=hdd hq0;clear hga hq0 hs hi;dsimp only at HN;go_wp2_with fail
      refine HN.out.mono ?_;rintro e w8⟨rfl,hb8⟩;obtain⟨w9,hw9,z0,z1,z2,z3,y0,y1,y2,y3,wa,hwa,hba,hsa⟩:=new4 w8 102 (.int .i64 0) (.float .f64 0) (.int .i64 0) (.int .i64 0) (.int .i64 5) (.float .f64 0) (.int .i64 (p:Int)) (.int .i64 0);obtain⟨x0,x1,x2,x3⟩:=aD hsa;have HFa:=hdd (HF.out.trans (Fr.of_below (aB hb8 hba)));have HJa:=hdd (HJR.out.below (aB hb8 hba));have HBa:=hdd (HBR.out.trans ((aB hb8 hba).mono HBR.out.size));clear hb8 hba hsa cx;go_wp2_with fail
      refine(HJS.out _ _ _ _ p HBa.out HJa.out HQ0.out HGA.out).mono ?_;rintro e wb⟨rfl,hfb,hjb⟩;have HFb:=hdd (HFa.out.trans hfb);have HJb:=hdd hjb;clear hfb hjb x0 x1 x2 x3 z0 z1 z2 z3 y0 y1 y2 y3 hw9 hwa;generalize sgT ns p=S at*;go_wp2_with fail
      go_roundw
      case rel=>exact⟨k+1,by have:=HKL.out;omega,by go_num,HFb,HJb⟩
      case measure=>have:=HKL.out;simp[intOf];omega
  . have hke:k=l.length:=by omega
    subst hke;have HRES:Hid (alP w g root ns (.returned (.tuple #[.pointer (some ⟨j,0,none⟩),.nilIface])) wr):=hdd ⟨HBR.out,j,ms,l0,rfl,HMS.out,HIL.out,HJR.out⟩;clear hk hge;go_wp2
    go_ret2
    exact HRES.out
theorem ac1{root K jj:Nat}(hd:DagP w g ns)(ok:OkNs ns)(hlf:iJ ns)(hro:iK ns)(hI:Is ns e0 root)(hG:Gd K jj e0 v0)(hgd:AllGd e0)(hT:Tab w):
 Calls Tryz.prog 68 #[.pointer (some ⟨g,0,none⟩),.int .i64 (root:Int),.slice none 0 0] w (fun e w'=>e=.returned (.tuple #[.int .i64 (Re.sgn v0),.nilIface])/\Below w.heap.size w w'):=by
 have HEX:Hid (∀w',Below w.heap.size w w'->Calls Tryz.prog 89 #[.pointer (some ⟨g,0,none⟩),.int .i64 (root:Int),.agg #[.bool true,.int .i64 32]] w' (alP w' g root ns)):=hdd fun w' h=>aaU (hd.below h) ok hlf hro hI hG.den hgd (hT.below h);have HJS:Hid (∀w' j ms l,Below w.heap.size w w'->JG w' j ms g ns l->root∈l->Calls Tryz.prog 91 #[.pointer (some ⟨j,0,none⟩),.int .i64 (root:Int)] w' (fun e w''=>e=.returned (.tuple #[.int .i64 (Re.sgn v0),.nilIface])/\Fr (fun b=>b=ms) w' w''/\JG w'' j ms g ns l)):=hdd fun w' j ms l h hj hl=>by
  have:=nL hj hl (hd.below h) ok hlf hro hI hG (hT.below h);rwa[aaS hI hG.den]at this
 clear hd ok hlf hro hI hG hgd hT;go_enter Tryz.func68,Tryz.ntmps68
 go_wp2_with fail
 refine chosen_any.mono ?_;rintro e w1⟨rfl,hb1⟩;have HB1:=hdd hb1;clear hb1;go_wp2_with fail
 refine(HEX.out _ HB1.out).mono ?_;rintro e w2⟨hb2,j,ms,l,rfl,hms,hIB,hjp⟩;have HB2:=hdd (HB1.out.trans (hb2.mono HB1.out.size));have HMS:=hdd (Nat.le_trans HB1.out.size hms);have HJC:=hdd (HJS.out _ j ms l HB2.out hjp hIB.rt);clear hb2 hms hjp hIB HJS HEX;go_wp2_with fail
 refine HJC.out.mono ?_;rintro e w3⟨rfl,hf,-⟩;have HB3:=hdd (HB2.out.trans (hf.below HB2.out.size (fun b hb=>by have:=HMS.out;omega)));clear hf;go_wp2
 go_ret2
 exact⟨rfl,HB3.out⟩
end
section
open Go.RowKit Go.Maps
open Re (rat ofI ofN)
open Bool renaming and_eq_true->biL
variable{P:Ex->Prop}{ns:List Nd}{l:Nat}
theorem anU(h:AllIs P ns):OkNs ns:=by
 intro i n hn;rcases h.before hn with ⟨h0,-⟩|⟨hk,-,a,b,h1,h2,h3,h4⟩|⟨h5,-,-,a,h1,h2⟩
 . exact⟨Or.inl h0,fun o ho=>by simp[opsN,h0]at ho⟩
 . refine⟨Or.inr (Or.inr (by rcases hk with h|h|h|h<;>omega)),fun o ho=> ?_⟩
   have:n.kind≠0/\n.kind≠5:=by rcases hk with h|h|h|h<;>omega
   simp only[opsN,this.1,this.2,if_false,List.mem_cons,List.not_mem_nil,or_false]at ho;rcases ho with rfl|rfl<;>omega
 . refine⟨Or.inr (Or.inl h5),fun o ho=> ?_⟩
   have:n.kind≠0:=by omega
   rw[show opsN n=[n.a] from by unfold opsN;rw[if_neg this,if_pos h5]]at ho;simp only[List.mem_cons,List.not_mem_nil,or_false]at ho;omega
theorem ah1(h:AllIs P ns):iJ ns:=by
 intro i n hn h0;rcases h.before hn with ⟨-,h1,h2⟩|⟨hk,-⟩|⟨h5,-⟩
 . exact⟨h1,h2⟩
 . rcases hk with h|h|h|h<;>omega
 . omega
theorem ah2(h:AllIs P ns):iK ns:=by
 intro i n hn h0;rcases h.before hn with ⟨h1,-⟩|⟨hk,-⟩|⟨-,-,h2,-⟩
 . omega
 . rcases hk with h|h|h|h<;>omega
 . exact h2
theorem alQ{x:Ex}{K j:Nat}{v:Re}(hG:Gd K j x v)(hA:AllGd x):fK P x (Re.sgn v):=
 fun B N w g k ns hs hi=>ac1 hs.dag (anU hs.all) (ah1 hs.all) (ah2 hs.all) hi hG hA hs.tab
theorem AllGd.leaf (v:Nat):AllGd (.leaf v):=⟨fun a b h=>(by cases h),fun a h=>(by cases h)⟩
theorem AllGd.add {a b:Ex}(h:AllGd a)(k:AllGd b):AllGd (.add a b):=
 ⟨fun x y s=>by cases s with|addL s=>exact h.1 x y s|addR s=>exact k.1 x y s,fun x s=>by cases s with|addL s=>exact h.2 x s|addR s=>exact k.2 x s⟩
theorem AllGd.sub {a b:Ex}(h:AllGd a)(k:AllGd b):AllGd (.sub a b):=
 ⟨fun x y s=>by cases s with|subL s=>exact h.1 x y s|subR s=>exact k.1 x y s,fun x s=>by cases s with|subL s=>exact h.2 x s|subR s=>exact k.2 x s⟩
theorem AllGd.mul {a b:Ex}(h:AllGd a)(k:AllGd b):AllGd (.mul a b):=
 ⟨fun x y s=>by cases s with|mulL s=>exact h.1 x y s|mulR s=>exact k.1 x y s,fun x s=>by cases s with|mulL s=>exact h.2 x s|mulR s=>exact k.2 x s⟩
section
variable{L:List Ex}{a b:Ex}{x y z:Re}{k m n:Nat}
end
section
variable{L:List Ex}{b:Nat}{x:Int}
end
inductive Sh where
 |leaf (n l:Nat)
 |add (a b:Sh)
 |mul (a b:Sh)
 |div (a b:Sh)
 |root (a:Sh)
 |lit (c:Ct) (k:Nat)
def Sh.ct (K:Nat):Sh->Ct
 | .leaf n l=>⟨n,65536,n,l,1100⟩
 | .add a b=>jU 65536 (a.ct K) (b.ct K)
 | .mul a b=>sU 65536 (a.ct K) (b.ct K)
 | .div a b=>ap7 65536 K (a.ct K) (b.ct K)
 | .root a=>apJ 65536 (a.ct K)
 | .lit c _=>c
def Sh.cost:Sh->Nat
 | .leaf n l=>n+l
 | .add a b=>1+a.cost+b.cost
 | .mul a b=>a.cost+b.cost
 | .div a b=>a.cost+b.cost
 | .root a=>a.cost
 | .lit _ k=>k
def Sh.top (K:Nat)(s:Sh):Bool:=decide (K<=15/\s.cost<=1000000/\(s.ct K).s<=4000000/\max (s.ct K).u (s.ct K).l*2^K+1<=32768/\((max (s.ct K).u (s.ct K).l*2^K+2:Nat):Int)<=(s.ct K).W)
def Sh.ok (K:Nat):Sh->Bool
 | .leaf n l=>decide (n<=53/\l<=1000)
 | .add a b=>a.ok K&&b.ok K
 | .mul a b=>a.ok K&&b.ok K
 | .div a b=>a.ok K&&(b.ok K&&(b.top K&&decide (ctG K (b.ct K)<=(b.ct K).W)))
 | .root a=>a.ok K&&a.top K
 | .lit ..=>true
structure FitC(L:List Ex)(s:Sh)(e:Ex)(v:Re):Prop where
 vl:Vl L 65536 e v (s.ct L.length)
 cost:dE e<=s.cost
 gd:AllGd e
def Fit(L:List Ex)(s:Sh)(e:Ex)(v:Re):Prop:=s.ok L.length=true->FitC L s e v
theorem apL:(32*2^11:Int)=65536:=by decide
section
variable{L:List Ex}{s t:Sh}{a b:Ex}{x y z:Re}
theorem FitC.good (h:FitC L s a x)(ht:s.top L.length=true):Gd L.length 11 a x:=by
 obtain⟨h1,h2,h3,h4,h5⟩:=of_decide_eq_true ht;have hv:=h.vl;rw[<-apL]at hv;exact Gd.of hv nlr (by omega) h1 (Nat.le_trans h.cost h2) h3 h4 h5
theorem Fit.add (h:Fit L s a x)(g:Fit L t b y):Fit L (.add s t) (.add a b) (x+y):=fun k=>by
 simp only[Sh.ok,biL]at k;have h:=h k.1;have g:=g k.2;exact⟨Vl.add (by omega) h.vl g.vl,by have:=h.cost;have:=g.cost;simp only[dE,Sh.cost];omega,h.gd.add g.gd⟩
theorem Fit.sub (h:Fit L s a x)(g:Fit L t b y):Fit L (.add s t) (.sub a b) (x-y):=fun k=>by
 simp only[Sh.ok,biL]at k;have h:=h k.1;have g:=g k.2;exact⟨Vl.sub (by omega) h.vl g.vl,by have:=h.cost;have:=g.cost;simp only[dE,Sh.cost];omega,h.gd.sub g.gd⟩
theorem Fit.mul (h:Fit L s a x)(g:Fit L t b y):Fit L (.mul s t) (.mul a b) (x*y):=fun k=>by
 simp only[Sh.ok,biL]at k;have h:=h k.1;have g:=g k.2;exact⟨Vl.mul (by omega) h.vl g.vl,by have:=h.cost;have:=g.cost;simp only[dE,Sh.cost];omega,h.gd.mul g.gd⟩
theorem Fit.sgn (h:Fit L s a x)(hs:(s.ok L.length&&s.top L.length)=true):fK P a (Re.sgn x):=by
 rw[biL]at hs;exact alQ ((h hs.1).good hs.2) (h hs.1).gd
end
theorem alR{b m:Nat}{x:Int}(hl:l+m=1074)(hv:fv b=x*((2^m:Nat):Int)):bC b=mkDy x (-(l:Int)):=by
 unfold bC;rw[hv];have:=ak0 x (-(l:Int)) m;rwa[show-(l:Int)-(m:Int)=-1074 by omega]at this
theorem aqB{x:Int}{n:Nat}(h:x.natAbs<2^n):-p2 n<(x:Rat)*p2 (-(l:Int))/\(x:Rat)*p2 (-(l:Int))<p2 n:=by
 have e:=fQ n;have h1:p2 (-(l:Int))<=1:=by rw[<-nZ];exact mF (by omega)
 have h0:=bV (-(l:Int));have h2:(x:Rat)<p2 n/\-p2 n<(x:Rat):=by
  rw[e,<-Rat.intCast_natCast,<-Rat.intCast_neg];exact⟨Rat.intCast_lt_intCast.2 (by omega),Rat.intCast_lt_intCast.2 (by omega)⟩
 generalize p2 (-(l:Int))=u at*;generalize (x:Rat)=q at*;generalize p2 (n:Int)=m at*;have hm:0<m:=by grind
 have a1:0<=(m-q)*u:=Rat.mul_nonneg (by grind) (by grind);have a2:0<=(m+q)*u:=Rat.mul_nonneg (by grind) (by grind);have a3:0<=m*(1-u):=Rat.mul_nonneg (by grind) (by grind);have a4:0<(m-q)*u:=Rat.mul_pos (by grind) h0;have a5:0<(m+q)*u:=Rat.mul_pos (by grind) h0;constructor<;>grind
theorem Fit.dleaf {L:List Ex}{b n m:Nat}{x:Int}(hb:b<18446744073709551616)(hf:fin b)(hl:l+m=1074)(hv:fv b=x*((2^m:Nat):Int))(h:x.natAbs<2^n):Fit L (.leaf n l) (.leaf b) (rat ((x:Rat)*p2 (-(l:Int)))):=fun k=>by
 have k:=of_decide_eq_true k;have e:=alR hl hv;have er:rv (bC b)=(x:Rat)*p2 (-(l:Int)):=by rw[e,kZ]
 obtain⟨r1,r2⟩:=aqB (l:=l) h;have h3:(bC b).man≠0->-(l:Int)<=(bC b).exp/\topD (bC b)<=n:=fun hn=>⟨by rw[e]at hn|-;exact nG hn,rH hn (by rw[er];exact r1) (by rw[er];exact r2)⟩;have h4:bits (bC b).man.natAbs<=n:=by
  rw[e];exact Nat.le_trans (qG x _) ((aI _ _).2 h)
 have hu:jS b<=n:=by
  unfold jS;split
  . omega
  . rename_i hn
    have:=h3 hn;unfold topD at this;rw[if_neg hn]at this;omega
 have hl:jT b<=l:=by
  unfold jT;split
  . omega
  . rename_i hn;have:=h3 hn;omega
 have hv:=Vl.leaf (L:=L) (P:=65536) (M:=n) hf hb ⟨by rw[e];exact Canon.mk _ _,by omega,fun hn=>by have:=h3 hn;omega⟩ ⟨by rw[er];grind,by rw[er];grind⟩ hu hl;rw[er]at hv;exact⟨hv,by simp only[dE,Sh.cost];omega,AllGd.leaf b⟩
theorem Fit.leaf {L:List Ex}{b:Nat}{x:Int}(n:Nat)(hb:b<18446744073709551616)(hf:fin b)(hv:fv b=x*(U74:Int))(h:x.natAbs<2^n):Fit L (.leaf n 0) (.leaf b) (ofI x):=by
 obtain⟨u,hu,hU⟩:=iC;have:=Fit.dleaf (L:=L) (n:=n) (l:=0) (x:=x) hb hf (m:=u) (by omega) (by rw[hv,hU]) h;rwa[show-((0:Nat):Int)=0 by rfl,nZ,Rat.mul_one]at this
end
section
open Ieee
open Int renaming natCast_mul->biM,neg_mul->biN,lt_or_le->biO
variable{a b:Int}{i r x y:Nat}
theorem anV(j:Nat):∀m:Nat,m<2^53->j<=1990->∃c,c<infR/\mg c=m*2^j:=by
 induction j with
 |zero=>
  intro m hm _;exact⟨m,by unfold infR;omega,by rw[kM m hm,Nat.pow_zero,Nat.mul_one]⟩
 |succ j ih=>
  intro m hm hj;rcases Nat.lt_or_ge m (2^52)with h|h
  . obtain⟨c,h1,h2⟩:=ih (m*2) (by omega) (by omega)
    exact⟨c,h1,by rw[h2,Nat.pow_succ,Nat.mul_assoc,Nat.mul_comm 2]⟩
  . refine⟨(j+2)*2^52+(m-2^52),by unfold infR;omega,?_⟩
    rw[jE _ (by omega)];have e1:((j+2)*2^52+(m-2^52))/2^52=j+2:=by omega
    have e2:((j+2)*2^52+(m-2^52))%2^52=m-2^52:=by omega
    rw[e1,e2,show j+2-1=j+1 by omega,show 2^52+(m-2^52)=m by omega]
def RepF(N:Int):Prop:=∃c:Int,-(infR:Int)<c/\c<infR/\fvr c=N
theorem aaV{x:Int}(j:Nat)(h:x.natAbs<2^53)(hj:j<=1990):RepF (x*(2^j:Nat)):=by
 obtain⟨c,h1,h2⟩:=anV j x.natAbs h hj;have hc:(mg c:Int)=(x.natAbs:Int)*(2^j:Nat):=by rw[h2,biM]
 rcases biO x 0 with g|g
 . by_cases h0:c=0
   . subst h0
     rw[pO]at hc;refine⟨0,by unfold infR;omega,by unfold infR;omega,?_⟩;rw[dM,show x=-(x.natAbs:Int) by omega,biN,<-hc];rfl
   . refine⟨-(c:Int),by omega,by omega,?_⟩
     unfold fvr;rw[if_pos (by omega),show(-(c:Int)).natAbs=c by omega,hc,<-biN,show-(x.natAbs:Int)=x by omega]
 . refine⟨(c:Int),by omega,by omega,?_⟩
   unfold fvr;rw[if_neg (by omega),show((c:Int)).natAbs=c by omega,hc,show(x.natAbs:Int)=x by omega]
theorem apM(h1:-(infR:Int)<sr r)(h2:sr r<infR):fin r:=by
 unfold sr at h1 h2;unfold fin;split at h1<;>simp_all<;>omega
theorem Near.exact {t:Nat}{N M:Int}(h:Near r N t)(hM:RepF M)(hN:N=M*(2^(t-1074):Nat)):fin r/\fv r=M:=by
 obtain⟨c,c1,c2,rfl⟩:=hM;have e:sr r=c:=by
  have h1:=h.2.1 c (by omega) (by omega) (by omega);have h2:=h.2.2 c (by omega) (by omega) (by omega);omega
 exact⟨apM (by omega) (by omega),by unfold fv;rw[e]⟩
theorem ac2{k:Int}(h:k.natAbs<2^53):FloatKind.f64.nearest k<18446744073709551616/\fin (FloatKind.f64.nearest k)/\fv (FloatKind.f64.nearest k)=k*(2^1074:Nat):=by
 have e:FloatKind.f64.nearest k=double.nearest (decide (k<0)) k.natAbs 0:=rfl;rw[e];have hn:=gB (decide (k<0)) k.natAbs 0 1074 (by omega) (by omega) (k*(2^1074:Nat)) (by
  have:(0+((1074:Nat):Int)).toNat=1074:=by omega
  rw[this];generalize 2^1074=M;rcases biO k 0 with g|g
  . rw[if_pos (by simpa using g),biM,<-biN,show-(k.natAbs:Int)=k by omega]
  . rw[if_neg (by simpa using g),biM,show(k.natAbs:Int)=k by omega])
 obtain⟨h1,h2⟩:=hn.exact (aaV 1074 h (by omega)) (by rw[show(2^(1074-1074):Nat)=1 by decide];omega);exact⟨double.nearest_lt ..,h1,h2⟩
theorem ah3{j:Nat}(hx:fin x)(hy:fin y)(hi:i<=1074)(hj:j<=1074)(hij:i+j<=1074)(va:fv x=a*(2^(1074-i):Nat))(vb:fv y=b*(2^(1074-j):Nat))(h:(a*b).natAbs<2^53):
 ∃r,double.mul x y=some r/\r<2^64/\fin r/\fv r=a*b*(2^(1074-(i+j)):Nat):=by
 obtain⟨r,h1,h2,hn⟩:=mP hx hy;obtain⟨h3,h4⟩:=hn.exact (aaV (1074-(i+j)) h (by omega)) (by
  rw[va,vb];generalize hu:(2148-1074:Nat)=u;have e:(2^(1074-i):Nat)*2^(1074-j)=2^(1074-(i+j))*2^u:=by
   rw[<-Nat.pow_add,<-Nat.pow_add];congr 1;omega
  generalize (2^(1074-i):Nat)=A at*;generalize (2^(1074-j):Nat)=B at*;generalize (2^(1074-(i+j)):Nat)=C at*;generalize (2^u:Nat)=D at*;have e2:(A:Int)*B=C*D:=by exact_mod_cast e
  rw[show a*(A:Int)*(b*B)=a*b*(A*B) by grind,e2];grind)
 exact⟨r,h1,h2,h3,h4⟩
theorem ah4(hx:fin x)(hy:fin y)(va:fv x=a*(2^(1074-i):Nat))(vb:fv y=b*(2^(1074-i):Nat))(h:(a+b).natAbs<2^53):
 ∃r,double.add x y=some r/\r<2^64/\fin r/\fv r=(a+b)*(2^(1074-i):Nat):=by
 obtain⟨r,h1,h2,hn⟩:=vC hx hy;obtain⟨h3,h4⟩:=hn.exact (aaV (1074-i) h (by omega)) (by
  rw[va,vb,<-Int.add_mul,show(2^(1074-1074):Nat)=1 by decide];omega)
 exact⟨r,h1,h2,h3,h4⟩
end
section
open Go.RowKit Go.Maps
open Re (rat ofI ofN)
variable{P:Ex->Prop}
section
variable{L:List Ex}{A B C D A' B' C':Ex}{a b c d a' b' c':Re}{i j k l i' j' k':Nat}
end
theorem afY:fv 0=(0:Int)*(U74:Int):=by kernel_rfl
theorem aqC:fv 4607182418800017408=(1:Int)*(U74:Int):=by kernel_rfl
def fl(k:Int):Nat:=FloatKind.f64.nearest k
abbrev li(k:Int):Ex:=.leaf (fl k)
theorem rO{k:Int}(h:k.natAbs<2^53):fl k<18446744073709551616/\fin (fl k)/\fv (fl k)=k*(U74:Int):=by
 obtain⟨h1,h2,h3⟩:=ac2 h;obtain⟨u,hu,hU⟩:=iC;exact⟨h1,h2,by rw[hU,hu];exact h3⟩
section
variable{L:List Ex}{s t:Sh}{a b:Ex}{p q:Rat}
theorem Fit.radd (h:Fit L s a (rat p))(g:Fit L t b (rat q)):Fit L (.add s t) (.add a b) (rat (p+q)):=by rw[Re.rat_add];exact h.add g
theorem Fit.rsub (h:Fit L s a (rat p))(g:Fit L t b (rat q)):Fit L (.add s t) (.sub a b) (rat (p-q)):=by rw[Re.rat_sub];exact h.sub g
theorem Fit.rmul (h:Fit L s a (rat p))(g:Fit L t b (rat q)):Fit L (.mul s t) (.mul a b) (rat (p*q)):=by rw[Re.rat_mul];exact h.mul g
theorem Fit.pos (h:Fit L s a (rat p))(hp:0<p)(hs:(s.ok L.length&&s.top L.length)=true):fK P a 1:=by
 have:=h.sgn (P:=P) hs;rwa[Re.sgn_pos (by rw[Re.zero_rat];exact Re.rat_lt.2 hp)]at this
theorem Fit.neg (h:Fit L s a (rat p))(hp:p<0)(hs:(s.ok L.length&&s.top L.length)=true):fK P a (-1):=by
 have:=h.sgn (P:=P) hs;rwa[Re.sgn_neg (by rw[Re.zero_rat];exact Re.rat_lt.2 hp)]at this
theorem Fit.zero (h:Fit L s a (rat p))(hp:p=0)(hs:(s.ok L.length&&s.top L.length)=true):fK P a 0:=by
 have:=h.sgn (P:=P) hs;rwa[hp,<-Re.zero_rat,Re.sgn_zero]at this
end
end
section
open Ieee
open Re (rat ofI ofN)

end
section
open Go.RowKit Go.Maps
open Re (rat ofI ofN)
theorem Fit.sign {P:Ex->Prop}{L:List Ex}{s:Sh}{a:Ex}{q:Rat}{v:Int}(h:Fit L s a (rat q))(c:Nat)(hc:0<c)(hq:q*(c:Rat)=(v:Rat))(hs:(s.ok L.length&&s.top L.length)=true):fK P a v.sign:=by
 have hc':(0:Rat)<(c:Rat):=by rw[<-Rat.intCast_natCast];exact Rat.intCast_pos.2 (by omega)
 rcases Int.lt_trichotomy v 0 with g|g|g
 . rw[Int.sign_eq_neg_one_iff_neg.2 g]
   refine h.neg ?_ hs;apply Classical.byContradiction;intro k;have h1:0<=q*(c:Rat):=Rat.mul_nonneg (by grind) (by grind);rw[hq]at h1;have h2:(v:Rat)<((0:Int):Rat):=Rat.intCast_lt_intCast.2 g;have h3:((0:Int):Rat)=0:=rfl;grind
 . rw[g]
   refine h.zero ?_ hs;rw[g]at hq;rcases Rat.mul_eq_zero.1 (hq.trans (show((0:Int):Rat)=0 from rfl))with k|k
   . exact k
   . grind
 . rw[Int.sign_eq_one_iff_pos.2 g]
   refine h.pos ?_ hs;apply Classical.byContradiction;intro k;have h1:0<=-q*(c:Rat):=Rat.mul_nonneg (by grind) (by grind);have h2:((0:Int):Rat)<(v:Rat):=Rat.intCast_lt_intCast.2 g;have h3:((0:Int):Rat)=0:=rfl;grind
abbrev kU(p q s t:Nat):Ex:=.sub (.mul (.leaf p) (.leaf q)) (.mul (.leaf s) (.leaf t))
def Iw(b:Nat)(T:Int):Prop:=FlOk b/\fv b=T*(U74:Int)
end
section
open Go.RowKit Go.Maps
section
variable(U V W:Ex)(a b c:Nat)
end
end
section
open Go.RowKit Go.Maps
open Re (rat ofI ofN)
abbrev w3:Nat:=4613937818241073152
abbrev w4:Nat:=4616189618054758400
end
section
open Ieee

end
section
open Go.RowKit Go.Maps Ieee
variable{T:Int}
theorem aeL(s:Bool)(m k:Nat):signed (!s) m k=-signed s m k:=by
 rw[fH,fH];cases s<;>simp
theorem alS{x y:Nat}(hx:fin x)(hy:fin y):∃r,double.sub x y=some r/\r<2^64/\Near r (fv x-fv y) 1074:=by
 obtain⟨m,p,e1,p1,v1⟩:=fB hx;obtain⟨n,q,e2,q1,v2⟩:=fB hy;have hp:=iB v1;have hq:=iB v2;have h:double.sub x y=some (double.nearest (if signed (fneg x) m (p-min p q).toNat+signed (!fneg y) n (q-min p q).toNat=0 then fneg x&& !fneg y else signed (fneg x) m (p-min p q).toNat+signed (!fneg y) n (q-min p q).toNat<0) (signed (fneg x) m (p-min p q).toNat+signed (!fneg y) n (q-min p q).toNat).natAbs (min p q)):=by
  unfold Format.sub;rw[e1,e2];rfl
 refine⟨_,h,double.sub_lt h,?_⟩;refine gB _ _ _ 1074 (by omega) (by omega) _ ?_;have s1:signed (fneg x) m (p-min p q).toNat*(2^(min p q+1074).toNat:Nat)=fv x:=by
  rw[fZ,fH,hp];have:(p-min p q).toNat+(min p q+1074).toNat=(p+1074).toNat:=by omega
  rw[this]
 have s2:signed (!fneg y) n (q-min p q).toNat*(2^(min p q+1074).toNat:Nat)=-fv y:=by
  rw[fZ,aeL,fH,hq];have:(q-min p q).toNat+(min p q+1074).toNat=(q+1074).toNat:=by omega
  rw[this]
 rw[Int.sub_eq_add_neg,<-s1,<-s2,<-Int.add_mul];generalize signed (fneg x) m (p-min p q).toNat+signed (!fneg y) n (q-min p q).toNat=T;have e:(min p q+(1074:Nat):Int).toNat=(min p q+1074).toNat:=rfl;rw[e];generalize (2^(min p q+1074).toNat:Nat)=M;by_cases h0:T=0
 . subst h0;simp
 . rw[if_neg h0]
   by_cases h1:T<0
   . rw[if_pos (by simpa using h1)]
     rw[Int.natCast_mul,<-Int.neg_mul];congr 1;omega
   . rw[if_neg (by simpa using h1)]
     rw[Int.natCast_mul];congr 1;omega
theorem rP{b:Nat}(h:Iw b T):fin b/\fv b=T*(2^(1074-0):Nat):=by
 obtain⟨u,hu,hU⟩:=iC;exact⟨h.1.2,by rw[h.2,hU,show 1074-0=u by omega]⟩
theorem alT{r:Nat}(h1:r<2^64)(h2:fin r)(h3:fv r=T*(2^(1074-0):Nat)):Iw r T:=by
 obtain⟨u,hu,hU⟩:=iC;exact⟨⟨h1,h2⟩,by rw[h3,hU,show 1074-0=u by omega]⟩
section
variable{x y:Nat}{a b:Int}
theorem anW(hx:Iw x a)(hy:Iw y b)(h:(a-b).natAbs<2^53):∃r,double.sub x y=some r/\Iw r (a-b):=by
 obtain⟨f1,v1⟩:=rP hx;obtain⟨f2,v2⟩:=rP hy;obtain⟨r,h1,h2,hn⟩:=alS f1 f2;obtain⟨h3,h4⟩:=hn.exact (aaV (1074-0) h (by omega)) (by
  rw[v1,v2,<-Int.sub_mul,show(2^(1074-1074):Nat)=1 by decide];omega)
 exact⟨r,h1,alT h2 h3 h4⟩
abbrev Op2(o:BinOp)(x y r:Nat):Prop:=∀w,(binOp o 30 (.float .f64 x) (.float .f64 y)).run Tryz.prog w=.ok (.float .f64 r) w
theorem apN(hx:Iw x a)(hy:Iw y b)(h:(a+b).natAbs<2^53):∃r,Op2 .add x y r/\Iw r (a+b):=by
 obtain⟨f1,v1⟩:=rP hx;obtain⟨f2,v2⟩:=rP hy;obtain⟨r,h1,h2,h3,h4⟩:=ah4 (i:=0) f1 f2 v1 v2 h;exact⟨r,fun w=>run_float_arith w .add 30 .f64 x y r h1,alT h2 h3 h4⟩
theorem apO(hx:Iw x a)(hy:Iw y b)(h:(a-b).natAbs<2^53):∃r,Op2 .sub x y r/\Iw r (a-b):=by
 obtain⟨r,h1,h2⟩:=anW hx hy h;exact⟨r,fun w=>run_float_arith w .sub 30 .f64 x y r h1,h2⟩
theorem aaW(hx:Iw x a)(hy:Iw y b)(h:(a*b).natAbs<2^53):∃r,Op2 .mul x y r/\Iw r (a*b):=by
 obtain⟨f1,v1⟩:=rP hx;obtain⟨f2,v2⟩:=rP hy;obtain⟨r,h1,h2,h3,h4⟩:=ah3 (i:=0) (j:=0) f1 f2 (by omega) (by omega) (by omega) v1 v2 h;exact⟨r,fun w=>run_float_arith w .mul 30 .f64 x y r h1,alT h2 h3 (by rw[h4,Nat.add_zero])⟩
end
theorem Iw.fit {b:Nat}{L:List Ex}(h:Iw b T)(n:Nat)(hT:T.natAbs<2^n)(hn:n<=53):Fit L (.leaf n 0) (.leaf b) (Re.rat (T:Rat)):=Fit.leaf n h.1.1 h.1.2 h.2 hT
end
section
open Go.RowKit Go.Maps
open Re (rat ofI ofN)
variable{m:Nat}
theorem nab{x y:Int}{n:Nat}(h:x.natAbs<=m)(g:y.natAbs<=n):(x*y).natAbs<=m*n:=by rw[Int.natAbs_mul];exact Nat.mul_le_mul h g
theorem nadd{x y:Int}{n:Nat}(h:x.natAbs<=m)(g:y.natAbs<=n):(x+y).natAbs<=m+n:=Nat.le_trans (Int.natAbs_add_le x y) (Nat.add_le_add h g)
theorem nlt{x:Int}{n:Nat}(h:x.natAbs<=m)(k:m<2^n:=by decide):x.natAbs<2^n:=Nat.lt_of_le_of_lt h k
section
variable{u v w a b c se sn:Sh}{U V W:Ex}{A B C:Nat}{p q r x y e n z:Rat}
end
abbrev cL:Ct:=⟨40,65464,21,13,71051⟩
section
variable(a b u v s:Rat)
end
end
section
open Go.RowKit Go.Maps
def kX(J:Nat):Nat:=([4617315517961601024,4616189618054758400,4613937818241073152,0,13837309855095848960,13839561654909534208,13840687554816376832,13839561654909534208,13837309855095848960,0,4613937818241073152,4616189618054758400]:List Nat).getD J 0
def kY(J:Nat):Nat:=([0,4613937818241073152,4616189618054758400,4617315517961601024,4616189618054758400,4613937818241073152,0,13837309855095848960,13839561654909534208,13840687554816376832,13839561654909534208,13837309855095848960]:List Nat).getD J 0
section
variable{P:Program}{ρ:Operand->Value}{o:Oper}{t t2:TypeId}{x y:Operand}{a b v:Value}{w:World}
end
theorem ac3(a:Int)(w:World):(convert 3 30 (.int .i64 a)).run Tryz.prog w=.ok (.float .f64 (fl a)) w:=by
 simp[go_sem];rfl
end
section
open Go.RowKit Go.Maps Go.Stop Go.Extern
variable{T:Int}{b:Nat}
abbrev w1:Nat:=4607182418800017408
theorem iw_1:Iw w1 1:=⟨⟨by decide,by decide⟩,aqC⟩
theorem nsub{x y:Int}{m n:Nat}(h:x.natAbs<=m)(g:y.natAbs<=n):(x-y).natAbs<=m+n:=by omega
theorem anX(h:Iw b T):Iw (b ^^^ 2^63) (-T):=by
 obtain⟨h1,h2,h3⟩:=mR h.1.1;refine⟨⟨h1,by unfold fin;rw[h2];exact h.1.2⟩,?_⟩;unfold fv;rw[h3,tQ,Int.neg_mul];exact congrArg (- ·) h.2
theorem aqD(h:Iw b T)(h0:0<=T):0<=fv b:=by rw[h.2];exact Int.mul_nonneg h0 (Int.natCast_nonneg _)
theorem aoH(h:Iw b T)(h0:T≠0):fv b≠0:=by
 rw[h.2];exact Int.mul_ne_zero h0 (by have:=am3;omega)
theorem alU(b:Nat)(w:World):(Op.unary UnOp.neg (.float .f64 b)).run Tryz.prog w=.ok (.float .f64 (b ^^^ 2^63)) w:=by kernel_rfl
end
section
open Go.RowKit Go.Maps

end
section
open Go.RowKit Go.Maps Go.Stop Go.Extern
open Re (rat ofI ofN)

end
section
open Go.RowKit Go.Maps
theorem ah5{w:World}{a b c a' b' c':Nat}(h:kS a b c)(h':kS a' b' c'):Calls Tryz.prog 70 #[curV 1 a b c,curV 1 a' b' c'] w (RetV w .nilIface):=by
 obtain⟨w2,hw2,hb2,hs2,b1,b2⟩:=pro2 w (curO 1 a b c) (curO 1 a' b' c');obtain⟨c0,c1,c2,c3⟩:=aD b1;obtain⟨d0,d1,d2,d3⟩:=aD b2;have HB:=hdd hb2;have H1:Hid (∀w,Calls Tryz.prog 42 #[curV 1 a b c] w (RetV w .nilIface)):=hdd fun w=>aaB h;have H2:Hid (∀w,Calls Tryz.prog 42 #[curV 1 a' b' c'] w (RetV w .nilIface)):=hdd fun w=>aaB h';clear hb2 hs2 b1 b2 h h';go_enter Tryz.func70,Tryz.ntmps70
 go_wp2_with fail
 refine(H1.out _).mono ?_;rintro e w3⟨rfl,hb⟩;have HB3:=hdd (HB.out.trans (hb.mono HB.out.size));replace d0:=cbl d0 hb;replace d1:=cbl d1 hb;replace d2:=cbl d2 hb;replace d3:=cbl d3 hb;clear hb c0 c1 c2 c3 hw2;go_wp2_with fail
 refine(H2.out _).mono ?_;rintro e w4⟨rfl,hb⟩;have HB4:=hdd (HB3.out.trans (hb.mono HB3.out.size));clear hb;go_wp2;go_ret;exact⟨rfl,HB4.out⟩
end
section
open Go.RowKit Go.Maps
open Ieee

end
section
open Go.RowKit Go.Maps Ieee
open Go.RowKit.Below renaming heap_setCell->biP
theorem alV{B:Nat}{w0 w1:World}{g:Nat}{T:TypeId}{z0 z1 z2 z3 a b c d:Value}(hb:Below B w0 w1)(hg:B<=g)(h:w1.heap[g]? =some (.cells #[z0,z1,z2,z3] T (0,0))):
 ∃w2,(((w1.setCell ⟨g,0,none⟩ a).setCell ⟨g,1,none⟩ b).setCell ⟨g,2,none⟩ c).setCell ⟨g,3,none⟩ d=w2/\Below B w0 w2/\w2.heap[g]? =some (.cells #[a,b,c,d] T (0,0))/\∀i,g≠i->w2.heap[i]? =w1.heap[i]? :=by
 refine⟨_,rfl,(((hb.setCell hg _).setCell hg _).setCell hg _).setCell hg _,set4 h _ _ _ _,fun i hi=> ?_⟩;rw[biP _ _ _ _ (by simp;omega),biP _ _ _ _ (by simp;omega),biP _ _ _ _ (by simp;omega),biP _ _ _ _ (by simp;omega)]
end
section
open Go.RowKit Go.Maps Go.Stop Go.Extern
open Go.RowKit.Below renaming heap_setCell->biQ
variable{B g:Nat}{T:TypeId}{a b z0 z1 z2 z3:Value}{w w0 w1:World}
theorem ixp0(a b:Int)(w:World):(Instr.index 56 (.agg #[.int .i64 a,.int .i64 b]) (.int .i64 0)).run Tryz.prog w=.ok (.int .i64 a) w:=by kernel_rfl
theorem ixp1(a b:Int)(w:World):(Instr.index 56 (.agg #[.int .i64 a,.int .i64 b]) (.int .i64 1)).run Tryz.prog w=.ok (.int .i64 b) w:=by kernel_rfl
theorem apP(hb:Below B w0 w1)(hg:B<=g)(h:w1.heap[g]? =some (.cells #[z0,z1,z2,z3] T (0,0))):
 ∃w2,(w1.setCell ⟨g,0,none⟩ a).setCell ⟨g,1,none⟩ b=w2/\Below B w0 w2/\w2.heap[g]? =some (.cells #[a,b,z2,z3] T (0,0))/\∀i,g≠i->w2.heap[i]? =w1.heap[i]? :=
 ⟨_,rfl,(hb.setCell hg _).setCell hg _,lS (cs:=[a,z1,z2,z3]) (k:=1) (lS (cs:=[z0,z1,z2,z3]) (k:=0) h),fun i hi=>by rw[biQ _ _ _ _ (by simp;omega),biQ _ _ _ _ (by simp;omega)]⟩
theorem apQ(hb:Below B w0 w1)(hg:B<=g)(h:w1.heap[g]? =some (.cells #[z0,z1,z2,z3] T (0,0))):
 ∃w2,(w1.setCell ⟨g,2,none⟩ a).setCell ⟨g,3,none⟩ b=w2/\Below B w0 w2/\w2.heap[g]? =some (.cells #[z0,z1,a,b] T (0,0))/\∀i,g≠i->w2.heap[i]? =w1.heap[i]? :=
 ⟨_,rfl,(hb.setCell hg _).setCell hg _,lS (cs:=[z0,z1,a,z3]) (k:=3) (lS (cs:=[z0,z1,z2,z3]) (k:=2) h),fun i hi=>by rw[biQ _ _ _ _ (by simp;omega),biQ _ _ _ _ (by simp;omega)]⟩
def mG(w:World)(b:Nat):Nat->List Value->World
 |_,[]=>w
 |k,v::vs=>mG (w.setCell ⟨b,k,none⟩ v) b (k+1) vs
theorem jV{b:Nat}:∀(vs:List Value) (k:Nat) (w:World),w.grownBy (mG w b k vs) (some b)
 |[],_,w=>nX w _
 |v::vs,k,w=>grownBy_trans (grownBy_set (nX w _) v) (jV vs (k+1) _)
theorem zB{b:Nat}{T:TypeId}:∀(vs pre rest:List Value) (w:World),w.heap[b]? =some (.cells (pre++rest).toArray T (0,0))->rest.length=vs.length->(mG w b pre.length vs).heap[b]? =some (.cells (pre++vs).toArray T (0,0))
 |[],pre,[],w,h,_=>h
 |[],_,_::_,_,_,e=>by simp at e
 |_::_,_,[],_,_,e=>by simp at e
 |v::vs,pre,r::rest,w,h,e=>by
  have h1:=lS (k:=pre.length) (v:=v) h;have e1:(pre++r::rest).set pre.length v=(pre++[v])++rest:=by simp
  rw[e1]at h1;have h2:=zB vs (pre++[v]) rest _ h1 (by simpa using e);rw[List.append_assoc]at h2;rw[List.length_append,List.length_singleton]at h2;exact h2
theorem xD{b:Nat}{cs vs:List Value}(h:w.heap[b]? =some (.cells cs.toArray T (0,0)))(e:cs.length=vs.length):(mG w b 0 vs).heap[b]? =some (.cells vs.toArray T (0,0)):=zB vs [] cs w h e
theorem m_lb{x y:Nat×Obj}{ln lb l:List (Nat×Obj)}(h:x∈lb):x∈y::(ln++(lb++l)):=List.mem_cons_of_mem _ (List.mem_append.2 (Or.inr (List.mem_append.2 (Or.inl h))))
theorem aaX{b:Nat}{cs:Array Value}(h:w.heap[b]? =some (.cells cs T (0,0)))(k:Nat):w.frozen? ⟨b,k,none⟩=false:=by simp[World.frozen?,h]
end
section
open Go.RowKit Go.Maps
theorem flw{a:Int}(h:a.natAbs<=6):Iw (fl a) a:=⟨⟨(rO (by omega)).1,(rO (by omega)).2.1⟩,(rO (by omega)).2.2⟩
theorem tmb(k:Int)(n:Nat)(h:0<n):(k.tmod (n:Int)).natAbs<=n-1:=by
 have h1:=Int.lt_tmod_of_pos k (show(0:Int)<(n:Int) by omega);have h2:=Int.tmod_lt_of_pos k (show(0:Int)<(n:Int) by omega);omega
end
end Go.Proofs.YtjdgaogkioabeaaGreatDoor
