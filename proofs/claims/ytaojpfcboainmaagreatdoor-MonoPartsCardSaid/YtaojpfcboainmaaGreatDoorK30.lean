/- A part of the proof: contracts of functions and plain laws (SgC, SgD, FtA, FeA, SymA). -/
import Derived.Test.YtaojpfcboainmaaGreatDoorK29
import Derived.Test.YtaojpfcboainmaaGreatDoorK16
import Derived.Test.YtaojpfcboainmaaGreatDoorK08
import Derived.Test.YtaojpfcboainmaaGreatDoorK01
import Derived.RegionTactic
set_option linter.unusedVariables false
set_option linter.unusedSimpArgs false
set_option maxHeartbeats 25600000
set_option maxRecDepth 100000
namespace Go.Proofs.YtaojpfcboainmaaGreatDoor
open Go.RowKit Go.Maps
open List renaming getElem?_eq_getElem->bfS,mem_of_getElem?->bfT
variable{a e e0:Ex}{ns:List Nd}{g q:Nat}{v v0:Re}{w:World}
def GdAt(ns:List Nd)(i:Nat):Prop:=∃a K j v,Is ns a i/\Gd K j a v
theorem ad4{x:Nat}{n:Nd}(hp:Part ns e x)(hn:ns[x]? =some n):
 (n.kind≠4/\n.kind≠5)\/(∃a b,∃p q:Nat,n=⟨4,0,p,q⟩/\SubE (.div a b) e/\Is ns b q)\/(∃a,∃p:Nat,n=⟨5,0,p,0⟩/\SubE (.root a) e/\Is ns a p):=by
 obtain⟨a',hs,hi⟩:=hp
 cases a' with
 |leaf v=>have hi:ns[x]? =some ⟨0,v,0,0⟩:=hi;rw[hn]at hi;cases hi;exact Or.inl ⟨show(0:Int)≠4 by decide,show(0:Int)≠5 by decide⟩
 |add a b=>obtain⟨p,q,h,-⟩:=hi;rw[hn]at h;cases h;exact Or.inl ⟨show(1:Int)≠4 by decide,show(1:Int)≠5 by decide⟩
 |sub a b=>obtain⟨p,q,h,-⟩:=hi;rw[hn]at h;cases h;exact Or.inl ⟨show(2:Int)≠4 by decide,show(2:Int)≠5 by decide⟩
 |mul a b=>obtain⟨p,q,h,-⟩:=hi;rw[hn]at h;cases h;exact Or.inl ⟨show(3:Int)≠4 by decide,show(3:Int)≠5 by decide⟩
 |div a b=>obtain⟨p,q,h,-,-,-,h5⟩:=hi;rw[hn]at h;cases h;exact Or.inr (Or.inl ⟨a,b,p,q,rfl,hs,h5⟩)
 |root a=>obtain⟨p,h,-,h3⟩:=hi;rw[hn]at h;cases h;exact Or.inr (Or.inr ⟨a,p,rfl,hs,h3⟩)
theorem am9{b:Ex}(hd:DenR e v)(hg:AllGd e)(hs:SubE (.div a b) e)(hi:Is ns b q):GdAt ns q/\sgT ns q≠0:=by
 obtain⟨K,j,u,hu⟩:=hg.1 a b hs;refine⟨⟨b,K,j,u,hi,hu⟩,?_⟩;rw[aaK hi hu.den];obtain⟨t,ht⟩:=hs.den hd
 cases ht with
 |div h1 h2 h0 hz=>rw[hu.den.uniq h2];exact fun h=>h0 (Re.sgn_eq_zero.1 h)
theorem akW(hd:DenR e v)(hg:AllGd e)(hs:SubE (.root a) e)(hi:Is ns a q):GdAt ns q/\¬sgT ns q<0:=by
 obtain⟨K,j,u,hu⟩:=hg.2 a hs;refine⟨⟨a,K,j,u,hi,hu⟩,?_⟩;rw[aaK hi hu.den];obtain⟨t,ht⟩:=hs.den hd
 cases ht with
 |root h1 h0 hz=>
  rw[hu.den.uniq h1];have:(0:Re)<=_:=Re.mul_nonneg h0 h0;rw[hz]at this;rcases Re.sgn_cases _ with ⟨-,h⟩|⟨-,h⟩|⟨h,-⟩
  . rw[h];decide
  . rw[h];decide
  . exact absurd h (Re.not_lt.2 this)
theorem anA{root:Nat}{l m:List Nat}(hl:IsB ns root l)(hm:IsB ns root m):∀x∈l,x∈m:=by
 refine hl.mn (fun x=>x∈m) ?_ hm.rt;intro x n hx hn o ho;obtain⟨y,hy,e⟩:=hm.cl x hx n hn o ho;rw[<-e,Int.toNat_natCast];exact hy
def akX(w:World)(g root:Nat)(ns:List Nd)(e:Ending)(w':World):Prop:=Below w.heap.size w w'/\∃j ms l,e=.returned (.tuple #[.pointer (some ⟨j,0,none⟩),.nilIface])/\w.heap.size<=ms/\IsB ns root l/\JG w' j ms g ns l
theorem aaM{root:Nat}(hd:DagP w g ns)(ok:OkNs ns)(hlf:iT ns)(hro:iU ns)(hI:Is ns e0 root)(hde:DenR e0 v0)(hgd:AllGd e0)(hT:Tab w):
 Calls Tryz.prog 90 #[.pointer (some ⟨g,0,none⟩),.int .i64 (root:Int),.agg #[.bool true,.int .i64 32]] w (akX w g root ns):=by
 obtain⟨w1,hw1,hb1,hs1,b1⟩:=pro1 w (.cells #[.bool true,.int .i64 32] 152);obtain⟨c0,c1,-,-⟩:=aF b1;have hr:=hI.lt;obtain⟨nr,hnr⟩:∃n,ns[root]? =some n:=⟨_,bfS hr⟩;have HB1:=hdd hb1;have HN1:=hdd (fO (hd.below hb1) hnr);have HDW:=hdd hd;have HDE:=hdd hde;have HGD:=hdd hgd;have HI0:=hdd hI;have HLN:=hdd hd.len;have HNJ:Hid (∀w',Below w.heap.size w w'->Calls Tryz.prog 103 #[.pointer (some ⟨g,0,none⟩),.int .i64 (root:Int),.agg #[.bool true,.int .i64 32]] w' (RetJ w' g root ns)):=hdd fun w' h=>aaL (hd.below h) ok hlf hro hr;have HJS:Hid (∀w' j ms l (p:Nat),Below w.heap.size w w'->JG w' j ms g ns l->p∈l->GdAt ns p->Calls Tryz.prog 92 #[.pointer (some ⟨j,0,none⟩),.int .i64 (p:Int)] w' (fun e w''=>e=.returned (.tuple #[.int .i64 (sgT ns p),.nilIface])/\Fr (fun b=>b=ms) w' w''/\JG w'' j ms g ns l)):=hdd fun w' j ms l p h hj hl ⟨a,K,jj,v,hi,hg⟩=>nQ hj hl (hd.below h) ok hlf hro hi hg (hT.below h);have HBE:Hid (∀w' b0,Below w.heap.size w w'->w'.heap[b0]? =some (.cells #[.int .i64 (root:Int)] 3 (0,0))->Calls Tryz.prog 104 #[.pointer (some ⟨g,0,none⟩),.slice (some ⟨b0,0,none⟩) 1 1] w' (qM w' ns root)):=hdd fun w' b0 h hb=>jV (hd.below h) ok hr hb
 clear hd ok hlf hro hr hb1 b1 hs1 hnr hI hde hgd hT;have hst:=aY;go_enter Tryz.func90,Tryz.ntmps90
 go_wp2_with fail
 refine HN1.out.mono ?_;rintro e w2⟨rfl,hb2⟩;obtain⟨w3,hw3,z0,z1,z2,z3,y0,y1,y2,y3,w4,hw4,hb4,hs4⟩:=new4 w2 109 (.int .i64 0) (.float .f64 0) (.int .i64 0) (.int .i64 0) (.int .i64 nr.kind) (.float .f64 nr.val) (.int .i64 nr.a) (.int .i64 nr.b);have h14:=aC hb2 hb4;replace c0:=cbl c0 h14;replace c1:=cbl c1 h14;have HB4:=hdd (HB1.out.trans (h14.mono HB1.out.size));clear hb2 hb4 hs4 h14;go_wp2_with fail
 refine(HNJ.out _ HB4.out).mono ?_;rintro e w5⟨hb5,j,ms,l0,rfl,hms,hms5,hI0,hjp⟩;obtain⟨w6,hw6,hb6,hs6,b6⟩:=pro1 w5 (.cells #[.int .i64 (root:Int)] 3);have h46:=aC hb5 hb6;have HB6:=hdd (HB4.out.trans (h46.mono HB4.out.size));have HJ6:=hdd (hjp.below hb6);have HIL:=hdd hI0;have HM6:Hid (ms<w6.heap.size):=hdd (by have:=hb6.size;omega);have HMS:=hdd (Nat.le_trans HB4.out.size hms);have HBE6:=hdd (HBE.out w6 _ HB6.out b6);clear hb5 hb6 hs6 b6 h46 hjp hms hms5 hI0 c0 c1 z0 z1 z2 z3 y0 y1 y2 y3 hw3 hw4;go_wp2_with fail
 refine HBE6.out.mono ?_;rintro e w7⟨hb7,v7,l,rfl,hl,hI⟩;obtain⟨bl,cl,rfl,hlc,hcm,-⟩:=id hl;have HL:=hdd hl;have HI:=hdd hI;have HB7:=hdd (HB6.out.trans (hb7.mono HB6.out.size));have HJ7:=hdd (HJ6.out.below hb7);have HMS7:Hid (w.heap.size<=ms):=HMS;have HLL:=hdd (nO hI HLN.out);clear hb7 hl hI hlc hcm hw6;go_wp2_with fail
 go_loopw [37] (fun i wr=>∃k:Nat,k<=l.length/\i=.int .i64 (k:Int)/\Hid (Fr (fun b=>b=ms) w7 wr)/\Hid (JG wr j ms g ns l0)) (fun i _=>((l.length:Int)-intOf i).toNat)
 case atStart=>exact⟨0,Nat.zero_le _,rfl,hdd (Fr.of_below (Below.refl _ _)),HJ7⟩
 case round=>
  obtain⟨k,hk,rfl,HF,HJR⟩:=hrel;have HBR:Hid (Below w.heap.size w wr):=hdd (HB7.out.trans (HF.out.below HB7.out.size (fun b hb=>by have:=HMS.out;omega)));rcases Nat.lt_or_ge k l.length with hlt|hge
  . obtain⟨x,hx⟩:∃x,l[k]? =some x:=⟨_,bfS hlt⟩
    have hxl:x<ns.length:=HI.out.lt x (bfT hx);obtain⟨n,hn⟩:∃n,ns[x]? =some n:=⟨_,bfS hxl⟩;have cx:=(HL.out.fr HF.out (fun b hb=>by have:=HM6.out;omega)).cell hx;have HN:=hdd (fO (HDW.out.below HBR.out) hn);have hkI:(k:Int)<(l.length:Int):=by omega
    have hk0:(0:Int)<=(k:Int):=by omega
    have hlI:(l.length:Int)<=20000:=by have:=HLL.out;omega
    have HKL:=hdd hlt;have hx0:x∈l0:=anA HI.out HIL.out x (bfT hx);have hkc:=ad4 (aaJ HIL.out HI0.out x hx0) hn;have HCL:Hid (∀o∈opsN n,∃y∈l0,(y:Int)=o):=hdd (HIL.out.cl x hx0 n hn);clear hx hn hxl hlt hx0;rcases hkc with ⟨hk4,hk5⟩|⟨a,b,p,q,rfl,hs,hi⟩|⟨a,p,rfl,hs,hi⟩
    . go_wp2_with fail
      refine HN.out.mono ?_;rintro e w8⟨rfl,hb8⟩;obtain⟨w9,hw9,z0,z1,z2,z3,y0,y1,y2,y3,wa,hwa,hba,hsa⟩:=new4 w8 109 (.int .i64 0) (.float .f64 0) (.int .i64 0) (.int .i64 0) (.int .i64 n.kind) (.float .f64 n.val) (.int .i64 n.a) (.int .i64 n.b);obtain⟨x0,x1,x2,x3⟩:=aW hsa;have HFa:=hdd (HF.out.trans (Fr.of_below (aC hb8 hba)));have HJa:=hdd (HJR.out.below (aC hb8 hba));clear hb8 hba hsa cx;go_wp2_with fail
      go_roundw
      case rel=>exact⟨k+1,by have:=HKL.out;omega,by go_num,HFa,HJa⟩
      case measure=>have:=HKL.out;simp[intOf];omega
    . obtain⟨hga,hsg⟩:=am9 HDE.out HGD.out hs hi
      have hq0:q∈l0:=by
       obtain⟨y,hy,e⟩:=HCL.out (q:Int) (by simp[opsN]);have:y=q:=by omega
       rw[<-this];exact hy
      have HGA:=hdd hga;have HQ0:=hdd hq0;clear hga hq0 hs hi;dsimp only at HN;go_wp2_with fail
      refine HN.out.mono ?_;rintro e w8⟨rfl,hb8⟩;obtain⟨w9,hw9,z0,z1,z2,z3,y0,y1,y2,y3,wa,hwa,hba,hsa⟩:=new4 w8 109 (.int .i64 0) (.float .f64 0) (.int .i64 0) (.int .i64 0) (.int .i64 4) (.float .f64 0) (.int .i64 (p:Int)) (.int .i64 (q:Int));obtain⟨x0,x1,x2,x3⟩:=aW hsa;have HFa:=hdd (HF.out.trans (Fr.of_below (aC hb8 hba)));have HJa:=hdd (HJR.out.below (aC hb8 hba));have HBa:=hdd (HBR.out.trans ((aC hb8 hba).mono HBR.out.size));clear hb8 hba hsa cx;go_wp2_with fail
      refine(HJS.out _ _ _ _ q HBa.out HJa.out HQ0.out HGA.out).mono ?_;rintro e wb⟨rfl,hfb,hjb⟩;have HFb:=hdd (HFa.out.trans hfb);have HJb:=hdd hjb;clear hfb hjb x0 x1 x2 x3 z0 z1 z2 z3 y0 y1 y2 y3 hw9 hwa;generalize sgT ns q=S at*;go_wp2_with fail
      go_roundw
      case rel=>exact⟨k+1,by have:=HKL.out;omega,by go_num,HFb,HJb⟩
      case measure=>have:=HKL.out;simp[intOf];omega
    . obtain⟨hga,hsg⟩:=akW HDE.out HGD.out hs hi
      have hq0:p∈l0:=by
       obtain⟨y,hy,e⟩:=HCL.out (p:Int) (by simp[opsN]);have:y=p:=by omega
       rw[<-this];exact hy
      have HGA:=hdd hga;have HQ0:=hdd hq0;clear hga hq0 hs hi;dsimp only at HN;go_wp2_with fail
      refine HN.out.mono ?_;rintro e w8⟨rfl,hb8⟩;obtain⟨w9,hw9,z0,z1,z2,z3,y0,y1,y2,y3,wa,hwa,hba,hsa⟩:=new4 w8 109 (.int .i64 0) (.float .f64 0) (.int .i64 0) (.int .i64 0) (.int .i64 5) (.float .f64 0) (.int .i64 (p:Int)) (.int .i64 0);obtain⟨x0,x1,x2,x3⟩:=aW hsa;have HFa:=hdd (HF.out.trans (Fr.of_below (aC hb8 hba)));have HJa:=hdd (HJR.out.below (aC hb8 hba));have HBa:=hdd (HBR.out.trans ((aC hb8 hba).mono HBR.out.size));clear hb8 hba hsa cx;go_wp2_with fail
      refine(HJS.out _ _ _ _ p HBa.out HJa.out HQ0.out HGA.out).mono ?_;rintro e wb⟨rfl,hfb,hjb⟩;have HFb:=hdd (HFa.out.trans hfb);have HJb:=hdd hjb;clear hfb hjb x0 x1 x2 x3 z0 z1 z2 z3 y0 y1 y2 y3 hw9 hwa;generalize sgT ns p=S at*;go_wp2_with fail
      go_roundw
      case rel=>exact⟨k+1,by have:=HKL.out;omega,by go_num,HFb,HJb⟩
      case measure=>have:=HKL.out;simp[intOf];omega
  . have hke:k=l.length:=by omega
    subst hke;have HRES:Hid (akX w g root ns (.returned (.tuple #[.pointer (some ⟨j,0,none⟩),.nilIface])) wr):=hdd ⟨HBR.out,j,ms,l0,rfl,HMS.out,HIL.out,HJR.out⟩;clear hk hge;go_wp2
    go_ret2
    exact HRES.out
theorem acM{root K jj:Nat}(hd:DagP w g ns)(ok:OkNs ns)(hlf:iT ns)(hro:iU ns)(hI:Is ns e0 root)(hG:Gd K jj e0 v0)(hgd:AllGd e0)(hT:Tab w):
 Calls Tryz.prog 69 #[.pointer (some ⟨g,0,none⟩),.int .i64 (root:Int),.slice none 0 0] w (fun e w'=>e=.returned (.tuple #[.int .i64 (Re.sgn v0),.nilIface])/\Below w.heap.size w w'):=by
 have HEX:Hid (∀w',Below w.heap.size w w'->Calls Tryz.prog 90 #[.pointer (some ⟨g,0,none⟩),.int .i64 (root:Int),.agg #[.bool true,.int .i64 32]] w' (akX w' g root ns)):=hdd fun w' h=>aaM (hd.below h) ok hlf hro hI hG.den hgd (hT.below h);have HJS:Hid (∀w' j ms l,Below w.heap.size w w'->JG w' j ms g ns l->root∈l->Calls Tryz.prog 92 #[.pointer (some ⟨j,0,none⟩),.int .i64 (root:Int)] w' (fun e w''=>e=.returned (.tuple #[.int .i64 (Re.sgn v0),.nilIface])/\Fr (fun b=>b=ms) w' w''/\JG w'' j ms g ns l)):=hdd fun w' j ms l h hj hl=>by
  have:=nQ hj hl (hd.below h) ok hlf hro hI hG (hT.below h);rwa[aaK hI hG.den]at this
 clear hd ok hlf hro hI hG hgd hT;go_enter Tryz.func69,Tryz.ntmps69
 go_wp2_with fail
 refine chosen_any.mono ?_;rintro e w1⟨rfl,hb1⟩;have HB1:=hdd hb1;clear hb1;go_wp2_with fail
 refine(HEX.out _ HB1.out).mono ?_;rintro e w2⟨hb2,j,ms,l,rfl,hms,hIB,hjp⟩;have HB2:=hdd (HB1.out.trans (hb2.mono HB1.out.size));have HMS:=hdd (Nat.le_trans HB1.out.size hms);have HJC:=hdd (HJS.out _ j ms l HB2.out hjp hIB.rt);clear hb2 hms hjp hIB HJS HEX;go_wp2_with fail
 refine HJC.out.mono ?_;rintro e w3⟨rfl,hf,-⟩;have HB3:=hdd (HB2.out.trans (hf.below HB2.out.size (fun b hb=>by have:=HMS.out;omega)));clear hf;go_wp2
 go_ret2
 exact⟨rfl,HB3.out⟩
end Go.Proofs.YtaojpfcboainmaaGreatDoor
namespace Go.Proofs.YtaojpfcboainmaaGreatDoor
open Go.RowKit Go.Maps
open Re (rat ofI ofN)
open Bool renaming and_eq_true->bfU
variable{P:Ex->Prop}{ns:List Nd}{K j l:Nat}{v:Re}
theorem anB(h:AllIs P ns):OkNs ns:=by
 intro i n hn;rcases h.before hn with ⟨h0,-⟩|⟨hk,-,a,b,h1,h2,h3,h4⟩|⟨h5,-,-,a,h1,h2⟩
 . exact⟨Or.inl h0,fun o ho=>by simp[opsN,h0]at ho⟩
 . refine⟨Or.inr (Or.inr (by rcases hk with h|h|h|h<;>omega)),fun o ho=> ?_⟩
   have:n.kind≠0/\n.kind≠5:=by rcases hk with h|h|h|h<;>omega
   simp only[opsN,this.1,this.2,if_false,List.mem_cons,List.not_mem_nil,or_false]at ho;rcases ho with rfl|rfl<;>omega
 . refine⟨Or.inr (Or.inl h5),fun o ho=> ?_⟩
   have:n.kind≠0:=by omega
   rw[show opsN n=[n.a] from by unfold opsN;rw[if_neg this,if_pos h5]]at ho;simp only[List.mem_cons,List.not_mem_nil,or_false]at ho;omega
theorem ahK(h:AllIs P ns):iT ns:=by
 intro i n hn h0;rcases h.before hn with ⟨-,h1,h2⟩|⟨hk,-⟩|⟨h5,-⟩
 . exact⟨h1,h2⟩
 . rcases hk with h|h|h|h<;>omega
 . omega
theorem ahL(h:AllIs P ns):iU ns:=by
 intro i n hn h0;rcases h.before hn with ⟨h1,-⟩|⟨hk,-⟩|⟨-,-,h2,-⟩
 . omega
 . rcases hk with h|h|h|h<;>omega
 . exact h2
theorem akY{x:Ex}(hG:Gd K j x v)(hA:AllGd x):dQ P x (Re.sgn v):=
 fun B N w g k ns hs hi=>acM hs.dag (anB hs.all) (ahK hs.all) (ahL hs.all) hi hG hA hs.tab
theorem AllGd.leaf (v:Nat):AllGd (.leaf v):=⟨fun a b h=>(by cases h),fun a h=>(by cases h)⟩
theorem AllGd.add {a b:Ex}(h:AllGd a)(k:AllGd b):AllGd (.add a b):=
 ⟨fun x y s=>by cases s with|addL s=>exact h.1 x y s|addR s=>exact k.1 x y s,fun x s=>by cases s with|addL s=>exact h.2 x s|addR s=>exact k.2 x s⟩
theorem AllGd.sub {a b:Ex}(h:AllGd a)(k:AllGd b):AllGd (.sub a b):=
 ⟨fun x y s=>by cases s with|subL s=>exact h.1 x y s|subR s=>exact k.1 x y s,fun x s=>by cases s with|subL s=>exact h.2 x s|subR s=>exact k.2 x s⟩
theorem AllGd.mul {a b:Ex}(h:AllGd a)(k:AllGd b):AllGd (.mul a b):=
 ⟨fun x y s=>by cases s with|mulL s=>exact h.1 x y s|mulR s=>exact k.1 x y s,fun x s=>by cases s with|mulL s=>exact h.2 x s|mulR s=>exact k.2 x s⟩
theorem AllGd.root {a:Ex}(h:AllGd a)(hG:Gd K j a v):AllGd (.root a):=
 ⟨fun x y s=>by cases s with|root s=>exact h.1 x y s,fun x s=>by cases s with|refl=>exact⟨_,_,_,hG⟩|root s=>exact h.2 x s⟩
section
variable{L:List Ex}{a b:Ex}{x y z:Re}{k m n:Nat}
end
section
variable{L:List Ex}{b:Nat}{x:Int}
end
inductive Sh where
 |leaf (n l:Nat)
 |add (a b:Sh)
 |mul (a b:Sh)
 |div (a b:Sh)
 |root (a:Sh)
 |lit (c:Ct) (k:Nat)
def Sh.ct (K:Nat):Sh->Ct
 | .leaf n l=>⟨n,65536,n,l,1100⟩
 | .add a b=>kH 65536 (a.ct K) (b.ct K)
 | .mul a b=>sQ 65536 (a.ct K) (b.ct K)
 | .div a b=>apQ 65536 K (a.ct K) (b.ct K)
 | .root a=>pI 65536 (a.ct K)
 | .lit c _=>c
def Sh.cost:Sh->Nat
 | .leaf n l=>n+l
 | .add a b=>1+a.cost+b.cost
 | .mul a b=>a.cost+b.cost
 | .div a b=>a.cost+b.cost
 | .root a=>a.cost
 | .lit _ k=>k
def Sh.top (K:Nat)(s:Sh):Bool:=decide (K<=15/\s.cost<=1000000/\(s.ct K).s<=4000000/\max (s.ct K).u (s.ct K).l*2^K+1<=32768/\((max (s.ct K).u (s.ct K).l*2^K+2:Nat):Int)<=(s.ct K).W)
def Sh.ok (K:Nat):Sh->Bool
 | .leaf n l=>decide (n<=53/\l<=1000)
 | .add a b=>a.ok K&&b.ok K
 | .mul a b=>a.ok K&&b.ok K
 | .div a b=>a.ok K&&(b.ok K&&(b.top K&&decide (ctG K (b.ct K)<=(b.ct K).W)))
 | .root a=>a.ok K&&a.top K
 | .lit ..=>true
structure FitC(L:List Ex)(s:Sh)(e:Ex)(v:Re):Prop where
 vl:Vl L 65536 e v (s.ct L.length)
 cost:dJ e<=s.cost
 gd:AllGd e
def Fit(L:List Ex)(s:Sh)(e:Ex)(v:Re):Prop:=s.ok L.length=true->FitC L s e v
theorem ao1:(32*2^11:Int)=65536:=by decide
section
variable{L:List Ex}{s t:Sh}{a b:Ex}{x y z:Re}
theorem FitC.good (h:FitC L s a x)(ht:s.top L.length=true):Gd L.length 11 a x:=by
 obtain⟨h1,h2,h3,h4,h5⟩:=of_decide_eq_true ht;have hv:=h.vl;rw[<-ao1]at hv;exact Gd.of hv nlr (by omega) h1 (Nat.le_trans h.cost h2) h3 h4 h5
theorem Fit.add (h:Fit L s a x)(g:Fit L t b y):Fit L (.add s t) (.add a b) (x+y):=fun k=>by
 simp only[Sh.ok,bfU]at k;have h:=h k.1;have g:=g k.2;exact⟨Vl.add (by omega) h.vl g.vl,by have:=h.cost;have:=g.cost;simp only[dJ,Sh.cost];omega,h.gd.add g.gd⟩
theorem Fit.sub (h:Fit L s a x)(g:Fit L t b y):Fit L (.add s t) (.sub a b) (x-y):=fun k=>by
 simp only[Sh.ok,bfU]at k;have h:=h k.1;have g:=g k.2;exact⟨Vl.sub (by omega) h.vl g.vl,by have:=h.cost;have:=g.cost;simp only[dJ,Sh.cost];omega,h.gd.sub g.gd⟩
theorem Fit.mul (h:Fit L s a x)(g:Fit L t b y):Fit L (.mul s t) (.mul a b) (x*y):=fun k=>by
 simp only[Sh.ok,bfU]at k;have h:=h k.1;have g:=g k.2;exact⟨Vl.mul (by omega) h.vl g.vl,by have:=h.cost;have:=g.cost;simp only[dJ,Sh.cost];omega,h.gd.mul g.gd⟩
theorem Fit.root (h:Fit L s a x)(h0:0<=y)(hy:y*y=x)(hm:Ex.root a∈L):Fit L (.root s) (.root a) y:=fun k=>by
 simp only[Sh.ok,bfU]at k;have h:=h k.1;exact⟨Vl.root (by omega) h.vl h0 hy hm,by have:=h.cost;simp only[dJ,Sh.cost];omega,h.gd.root (h.good k.2)⟩
theorem Fit.sgn (h:Fit L s a x)(hs:(s.ok L.length&&s.top L.length)=true):dQ P a (Re.sgn x):=by
 rw[bfU]at hs;exact akY ((h hs.1).good hs.2) (h hs.1).gd
end
theorem akZ{b m:Nat}{x:Int}(hl:l+m=1074)(hv:fv b=x*((2^m:Nat):Int)):bM b=mkDy x (-(l:Int)):=by
 unfold bM;rw[hv];have:=aj7 x (-(l:Int)) m;rwa[show-(l:Int)-(m:Int)=-1074 by omega]at this
theorem apU{x:Int}{n:Nat}(h:x.natAbs<2^n):-p2 n<(x:Rat)*p2 (-(l:Int))/\(x:Rat)*p2 (-(l:Int))<p2 n:=by
 have e:=gB n;have h1:p2 (-(l:Int))<=1:=by rw[<-mJ];exact iQ (by omega)
 have h0:=bO (-(l:Int));have h2:(x:Rat)<p2 n/\-p2 n<(x:Rat):=by
  rw[e,<-Rat.intCast_natCast,<-Rat.intCast_neg];exact⟨Rat.intCast_lt_intCast.2 (by omega),Rat.intCast_lt_intCast.2 (by omega)⟩
 generalize p2 (-(l:Int))=u at*;generalize (x:Rat)=q at*;generalize p2 (n:Int)=m at*;have hm:0<m:=by grind
 have a1:0<=(m-q)*u:=Rat.mul_nonneg (by grind) (by grind);have a2:0<=(m+q)*u:=Rat.mul_nonneg (by grind) (by grind);have a3:0<=m*(1-u):=Rat.mul_nonneg (by grind) (by grind);have a4:0<(m-q)*u:=Rat.mul_pos (by grind) h0;have a5:0<(m+q)*u:=Rat.mul_pos (by grind) h0;constructor<;>grind
theorem Fit.dleaf {L:List Ex}{b n m:Nat}{x:Int}(hb:b<18446744073709551616)(hf:fin b)(hl:l+m=1074)(hv:fv b=x*((2^m:Nat):Int))(h:x.natAbs<2^n):Fit L (.leaf n l) (.leaf b) (rat ((x:Rat)*p2 (-(l:Int)))):=fun k=>by
 have k:=of_decide_eq_true k;have e:=akZ hl hv;have er:rv (bM b)=(x:Rat)*p2 (-(l:Int)):=by rw[e,lQ]
 obtain⟨r1,r2⟩:=apU (l:=l) h;have h3:(bM b).man≠0->-(l:Int)<=(bM b).exp/\topD (bM b)<=n:=fun hn=>⟨by rw[e]at hn|-;exact nL hn,rV hn (by rw[er];exact r1) (by rw[er];exact r2)⟩;have h4:bits (bM b).man.natAbs<=n:=by
  rw[e];exact Nat.le_trans (qO x _) ((aI _ _).2 h)
 have hu:kF b<=n:=by
  unfold kF;split
  . omega
  . rename_i hn
    have:=h3 hn;unfold topD at this;rw[if_neg hn]at this;omega
 have hl:kG b<=l:=by
  unfold kG;split
  . omega
  . rename_i hn;have:=h3 hn;omega
 have hv:=Vl.leaf (L:=L) (P:=65536) (M:=n) hf hb ⟨by rw[e];exact Canon.mk _ _,by omega,fun hn=>by have:=h3 hn;omega⟩ ⟨by rw[er];grind,by rw[er];grind⟩ hu hl;rw[er]at hv;exact⟨hv,by simp only[dJ,Sh.cost];omega,AllGd.leaf b⟩
theorem Fit.leaf {L:List Ex}{b:Nat}{x:Int}(n:Nat)(hb:b<18446744073709551616)(hf:fin b)(hv:fv b=x*(U74:Int))(h:x.natAbs<2^n):Fit L (.leaf n 0) (.leaf b) (ofI x):=by
 obtain⟨u,hu,hU⟩:=iJ;have:=Fit.dleaf (L:=L) (n:=n) (l:=0) (x:=x) hb hf (m:=u) (by omega) (by rw[hv,hU]) h;rwa[show-((0:Nat):Int)=0 by rfl,mJ,Rat.mul_one]at this
end Go.Proofs.YtaojpfcboainmaaGreatDoor
namespace Go.Proofs.YtaojpfcboainmaaGreatDoor
open Ieee
open Int renaming natCast_mul->bfV,neg_mul->bfW,lt_or_le->bfX
variable{r:Nat}
theorem anC(j:Nat):∀m:Nat,m<2^53->j<=1990->∃c,c<infR/\mg c=m*2^j:=by
 induction j with
 |zero=>
  intro m hm _;exact⟨m,by unfold infR;omega,by rw[lD m hm,Nat.pow_zero,Nat.mul_one]⟩
 |succ j ih=>
  intro m hm hj;rcases Nat.lt_or_ge m (2^52)with h|h
  . obtain⟨c,h1,h2⟩:=ih (m*2) (by omega) (by omega)
    exact⟨c,h1,by rw[h2,Nat.pow_succ,Nat.mul_assoc,Nat.mul_comm 2]⟩
  . refine⟨(j+2)*2^52+(m-2^52),by unfold infR;omega,?_⟩
    rw[jN _ (by omega)];have e1:((j+2)*2^52+(m-2^52))/2^52=j+2:=by omega
    have e2:((j+2)*2^52+(m-2^52))%2^52=m-2^52:=by omega
    rw[e1,e2,show j+2-1=j+1 by omega,show 2^52+(m-2^52)=m by omega]
def RepF(N:Int):Prop:=∃c:Int,-(infR:Int)<c/\c<infR/\fvr c=N
theorem ak0{x:Int}(j:Nat)(h:x.natAbs<2^53)(hj:j<=1990):RepF (x*(2^j:Nat)):=by
 obtain⟨c,h1,h2⟩:=anC j x.natAbs h hj;have hc:(mg c:Int)=(x.natAbs:Int)*(2^j:Nat):=by rw[h2,bfV]
 rcases bfX x 0 with g|g
 . by_cases h0:c=0
   . subst h0
     rw[qD]at hc;refine⟨0,by unfold infR;omega,by unfold infR;omega,?_⟩;rw[dY,show x=-(x.natAbs:Int) by omega,bfW,<-hc];rfl
   . refine⟨-(c:Int),by omega,by omega,?_⟩
     unfold fvr;rw[if_pos (by omega),show(-(c:Int)).natAbs=c by omega,hc,<-bfW,show-(x.natAbs:Int)=x by omega]
 . refine⟨(c:Int),by omega,by omega,?_⟩
   unfold fvr;rw[if_neg (by omega),show((c:Int)).natAbs=c by omega,hc,show(x.natAbs:Int)=x by omega]
theorem ao2(h1:-(infR:Int)<sr r)(h2:sr r<infR):fin r:=by
 unfold sr at h1 h2;unfold fin;split at h1<;>simp_all<;>omega
theorem Near.exact {t:Nat}{N M:Int}(h:Near r N t)(hM:RepF M)(hN:N=M*(2^(t-1074):Nat)):fin r/\fv r=M:=by
 obtain⟨c,c1,c2,rfl⟩:=hM;have e:sr r=c:=by
  have h1:=h.2.1 c (by omega) (by omega) (by omega);have h2:=h.2.2 c (by omega) (by omega) (by omega);omega
 exact⟨ao2 (by omega) (by omega),by unfold fv;rw[e]⟩
theorem acN{k:Int}(h:k.natAbs<2^53):FloatKind.f64.nearest k<18446744073709551616/\fin (FloatKind.f64.nearest k)/\fv (FloatKind.f64.nearest k)=k*(2^1074:Nat):=by
 have e:FloatKind.f64.nearest k=double.nearest (decide (k<0)) k.natAbs 0:=rfl;rw[e];have hn:=iI (decide (k<0)) k.natAbs 0 1074 (by omega) (by omega) (k*(2^1074:Nat)) (by
  have:(0+((1074:Nat):Int)).toNat=1074:=by omega
  rw[this];generalize 2^1074=M;rcases bfX k 0 with g|g
  . rw[if_pos (by simpa using g),bfV,<-bfW,show-(k.natAbs:Int)=k by omega]
  . rw[if_neg (by simpa using g),bfV,show(k.natAbs:Int)=k by omega])
 obtain⟨h1,h2⟩:=hn.exact (ak0 1074 h (by omega)) (by rw[show(2^(1074-1074):Nat)=1 by decide];omega);exact⟨double.nearest_lt ..,h1,h2⟩
theorem ahM{x y i:Nat}{a b:Int}(hx:fin x)(hy:fin y)(va:fv x=a*(2^(1074-i):Nat))(vb:fv y=b*(2^(1074-i):Nat))(h:(a+b).natAbs<2^53):
 ∃r,double.add x y=some r/\r<2^64/\fin r/\fv r=(a+b)*(2^(1074-i):Nat):=by
 obtain⟨r,h1,h2,hn⟩:=vD hx hy;obtain⟨h3,h4⟩:=hn.exact (ak0 (1074-i) h (by omega)) (by
  rw[va,vb,<-Int.add_mul,show(2^(1074-1074):Nat)=1 by decide];omega)
 exact⟨r,h1,h2,h3,h4⟩
end Go.Proofs.YtaojpfcboainmaaGreatDoor
namespace Go.Proofs.YtaojpfcboainmaaGreatDoor
open Go.RowKit
open _root_.Array renaming getD_eq_getD_getElem?->bfY,getElem?_eq_getElem->bf1,getElem?_setIfInBounds->bf7,mem_toList_iff->bgK,all_eq_true'->bgL
open Bool renaming not_eq_true'->bf2,and_eq_true->bf4,or_eq_true->bf9
open Go.Region renaming ready->bgD,binds->bgP
open List renaming mem_filterMap->bfZ,range->bf0,mem_range->bf3,contains_iff_mem->bf5,mem_cons_of_mem->bf6,map_congr_left->bf8,mem_filter->bgA,map_append->bgB,sum_append->bgC,map_cons->bgE,all_eq_true->bgF,mem_map->bgG,range_succ->bgI,mem_flatMap->bgM,nodup_cons->bgN,sum_cons->bgO,map_nil->bgQ,sum_nil->bgR
open Nat renaming lt_or_ge->bgJ,add_zero->bgS
open Option.some renaming inj->bgH,injEq->bgT
variable{d j n:Nat}
inductive SC where
 |v (x:Value)
 |id (n:Nat)
 |ptr (b off:Nat)
 |sl (b len:Nat)
inductive SW where
 |c (x:SC)
 |agg (l:List SC)
inductive SV where
 |w (x:SW)
 |tup (l:List SW)
section
variable(ν:Nat->Nat)
def SC.den:SC->Value
 | .v x=>x
 | .id n=>.int .i64 ((ν n:Nat):Int)
 | .ptr b o=>.pointer (some ⟨ν b,o,none⟩)
 | .sl b n=>.slice (some ⟨ν b,0,none⟩) n n
def SW.den:SW->Value
 | .c x=>x.den ν
 | .agg l=>.agg (l.map (SC.den ν)).toArray
def SV.den:SV->Value
 | .w x=>x.den ν
 | .tup l=>.tuple (l.map (SW.den ν)).toArray
end
def SC.lets:SC->List Nat
 | .v _=>[]
 | .id n=>[n]
 | .ptr b _=>[b]
 | .sl b _=>[b]
def SW.lets:SW->List Nat
 | .c x=>x.lets
 | .agg l=>l.flatMap SC.lets
def SV.lets:SV->List Nat
 | .w x=>x.lets
 | .tup l=>l.flatMap SW.lets
section
variable{ν ν':Nat->Nat}
theorem SC.congr {x:SC}(h:∀n∈x.lets,ν n=ν' n):x.den ν=x.den ν':=by
 cases x with
 |v x=>rfl
 |id n=>simp only[SC.den,h n (by simp[SC.lets])]
 |ptr b o=>simp only[SC.den,h b (by simp[SC.lets])]
 |sl b n=>simp only[SC.den,h b (by simp[SC.lets])]
theorem SC.congrs {l:List SC}(h:∀n∈l.flatMap SC.lets,ν n=ν' n):l.map (SC.den ν)=l.map (SC.den ν'):=
 bf8 fun x hx=>SC.congr fun n hn=>h n (bgM.2 ⟨x,hx,hn⟩)
theorem SW.congr {x:SW}(h:∀n∈x.lets,ν n=ν' n):x.den ν=x.den ν':=by
 cases x with
 |c x=>exact SC.congr h
 |agg l=>simp only[SW.den,SC.congrs h]
theorem SV.congr {x:SV}(h:∀n∈x.lets,ν n=ν' n):x.den ν=x.den ν':=by
 cases x with
 |w x=>exact SW.congr h
 |tup l=>
  have:l.map (SW.den ν)=l.map (SW.den ν'):=bf8 fun x hx=>SW.congr fun n hn=>h n (bgM.2 ⟨x,hx,hn⟩);simp only[SV.den,this]
end
structure Wk(E:Type) where
 G:Nat->List (E×Nat)->List (Nat×Obj)->World->Prop
 weak:∀{c c' K K' l l' w},G c K l w->c<=c'->(∀p∈K',p∈K)->(∀p∈l',p∈l)->(l'.map (·.1)).Nodup->G c' K' l' w
 heap:∀{c K l w},G c K l w->∀p∈l,w.heap[p.1]? =some p.2
 alloc:∀{c K l w},G c K l w->∀o,G c K ((w.heap.size,o)::l) (w.alloc o)
 write:∀{c K l w w' b o o'},G c K ((b,o)::l) w->w.grownBy w' (some b)->w'.heap[b]? =some o'->G c K ((b,o')::l) w'
 drew:∀{c K l w},G c K l w->G c K l w.drew
structure Blk where
 b:Nat
 T:TypeId
 init:List SC
 st:Option (Nat×List SC)
structure Spec(E:Type) where
 ops:Array Oper
 val:Nat->SV
 cr:Nat->Option Nat
 know:List (Nat×E)
 blocks:List Blk
 cost:Nat->Nat
 D:Nat->List Nat
 out:List (Nat×SV)
def lof(l:Array Bool)(i:Nat):Bool:=l.getD i false
section
variable{E:Type}(S:Spec E)(W:Wk E){P:Program}
def Spec.dst (i:Nat):Option Tmp:=(S.ops[i]?).bind (·.dst)
def Spec.aft (i:Nat):List Nat:=match S.ops[i]? with
 |none=>[]
 |some o=>(o.after.toList.filter (bgP .any)).map (·.on)
def Spec.on (lst:Nat->Bool)(n:Nat):Bool:=match S.cr n with
 |none=>true
 |some i=>lst i
def Spec.K (lst:Nat->Bool)(ν:Nat->Nat):List (E×Nat):=S.know.filterMap fun p=>if S.on lst p.1 then some (p.2,ν p.1)else none
def Blk.cont (lst:Nat->Bool)(B:Blk):List SC:=match B.st with
 |some (s,c)=>if lst s then c else B.init
 |none=>B.init
def Blk.obj (lst:Nat->Bool)(ν:Nat->Nat)(B:Blk):Obj:=.cells ((B.cont lst).map (SC.den ν)).toArray B.T
def Spec.L (lst:Nat->Bool)(ν:Nat->Nat):List (Nat×Obj):=S.blocks.filterMap fun B=>if S.on lst B.b then some (ν B.b,B.obj lst ν)else none
def Spec.costs (lst:Nat->Bool):Nat:=((bf0 S.ops.size).map fun i=>if lst i then S.cost i else 0).sum
def Spec.total:Nat:=((bf0 S.ops.size).map S.cost).sum
def Spec.Vals (lst:Nat->Bool)(a:Act)(ν:Nat->Nat):Prop:=∀i d,lst i=true->S.dst i=some d->a.tmps.getD d undef=(S.val i).den ν
def Spec.Inj (lst:Nat->Bool)(ν:Nat->Nat):Prop:=∀B∈S.blocks,∀C∈S.blocks,S.on lst B.b=true->S.on lst C.b=true->ν B.b=ν C.b->B.b=C.b
structure Spec.J (c0:Nat)(a0:Act)(ν0:Nat->Nat)(listed:Array Bool)(a:Act)(w:World):Prop where
 ex:∃ν,(∀n,S.cr n=none->ν n=ν0 n)/\W.G (c0+S.costs (lof listed)) (S.K (lof listed) ν) (S.L (lof listed) ν) w/\S.Vals (lof listed) a ν/\S.Inj (lof listed) ν
 oth:∀s,(∀i,S.dst i≠some s)->a.tmps.getD s undef=a0.tmps.getD s undef
 size:a.tmps.size=a0.tmps.size
 defers:a.defers=a0.defers
 lsz:listed.size=S.ops.size
 closed:∀i,lof listed i=true->∀e∈S.aft i,lof listed e=true
def Spec.okL (i m:Nat):Bool:=match S.cr m with
 |none=>true
 |some k=>k==i||(S.D i).contains k
def Blk.ok (B:Blk):Bool:=
 (B.init.flatMap SC.lets).all (fun m=>match S.cr B.b with
   |none=>(S.cr m).isNone
   |some k=>S.okL k m)&&
 match B.st with
 |none=>true
 |some (s,c)=>(c.flatMap SC.lets).all (S.okL s)&&S.okL s B.b
def Spec.wfB:Bool:=
 (bf0 S.ops.size).all (fun i=>(S.aft i).all (fun e=>decide (e<i))&&(S.D i).all (fun d=>(S.aft i).any fun e=>e==d||(S.D e).contains d)&&(S.val i).lets.all (S.okL i))&&
 S.blocks.all (fun B=>B.ok S)&&decide (S.blocks.map (·.b)).Nodup&&decide ((bf0 S.ops.size).filterMap S.dst).Nodup&&
 S.out.all (fun p=>p.2.lets.all (fun m=>(S.cr m).isNone)&& !((bf0 S.ops.size).filterMap S.dst).contains p.1)
structure Spec.WF:Prop where
 topo:∀i,i<S.ops.size->∀e∈S.aft i,e<i
 dok:∀i,i<S.ops.size->∀d∈S.D i,∃e∈S.aft i,e=d\/d∈S.D e
 lets:∀i,i<S.ops.size->∀m∈(S.val i).lets,S.okL i m=true
 blk:∀B∈S.blocks,B.ok S=true
 bnd:(S.blocks.map (·.b)).Nodup
 dnd:((bf0 S.ops.size).filterMap S.dst).Nodup
 outs:∀p∈S.out,(∀m∈p.2.lets,S.cr m=none)/\∀i,S.dst i≠some p.1
variable{S W}
theorem Spec.dst_lt {i:Nat}(h:S.dst i=some d):i<S.ops.size:=by
 unfold Spec.dst at h
 cases ho:S.ops[i]? with
 |none=>rw[ho]at h;cases h
 |some o=>exact(Array.getElem?_eq_some_iff.1 ho).1
theorem Spec.wf_of (h:S.wfB=true):S.WF:=by
 unfold Spec.wfB at h;simp only[bf4,bgF,bf3,decide_eq_true_eq,List.any_eq_true,bf9,beq_iff_eq,bf5,Option.isNone_iff_eq_none,bf2]at h;obtain⟨⟨⟨⟨h1,h2⟩,h3⟩,h4⟩,h5⟩:=h;refine⟨fun i hi=>(h1 i hi).1.1,fun i hi=>(h1 i hi).1.2,fun i hi=>(h1 i hi).2,h2,h3,h4,fun p hp=>⟨(h5 p hp).1,fun i hd=> ?_⟩⟩;have h6:=(h5 p hp).2;have:p.1∈(bf0 S.ops.size).filterMap S.dst:=bfZ.2 ⟨i,bf3.2 (Spec.dst_lt hd),hd⟩;rw[<-bf5]at this;rw[this]at h6;cases h6
theorem uK{l:Array Bool}{i:Nat}(hi:i<l.size)(j:Nat):lof (l.setIfInBounds i true) j=if j=i then true else lof l j:=by
 unfold lof;rw[bfY,bfY,bf7];by_cases h:i=j
 . subst h;simp[hi]
 . rw[if_neg h,if_neg (Ne.symm h)]
theorem aaN(a:Act)(x:Option Tmp)(v:Value)(s:Nat):(a.put x v).tmps.getD s undef=if x=some s/\s<a.tmps.size then v else a.tmps.getD s undef:=by
 cases x with
 |none=>simp[Act.put]
 |some d=>
  simp only[Act.put,bfY,bf7,bgT];by_cases h:d=s
  . subst h
    by_cases h2:d<a.tmps.size
    . simp[h2]
    . simp[h2]
  . simp[h]
theorem size_put(a:Act)(x:Option Tmp)(v:Value):(a.put x v).tmps.size=a.tmps.size:=by cases x<;>simp[Act.put]
theorem wY(a:Act)(x:Option Tmp)(v:Value):(a.put x v).defers=a.defers:=by cases x<;>rfl
theorem kV{listed:Array Bool}{i:Nat}(hz:listed.size=S.ops.size)(h:i∈bgD .any S.ops listed):i<S.ops.size/\lof listed i=false/\∀e∈S.aft i,lof listed e=true:=by
 unfold bgD at h;simp only[bgA,bf3,bf4,bf2]at h;obtain⟨h1,h2,h3⟩:=h;refine⟨h1,?_,fun e he=> ?_⟩
 . unfold lof
   rw[bfY]at h2|-;rw[bf1 (by omega)]at h2|-;simpa using h2
 . unfold Spec.aft at he
   have ho:S.ops[i]? =some S.ops[i]:=bf1 h1;rw[ho]at h3 he;simp only[Option.map_some,Option.getD_some,bgL,bf9,bf2]at h3;simp only[bgG,bgA,bgK]at he;obtain⟨x,⟨hx,hb⟩,rfl⟩:=he;rcases h3 x hx with h4|h4
   . rw[h4]at hb;cases hb
   . exact h4
theorem ak1{listed:Array Bool}(hz:listed.size=S.ops.size){i:Nat}(h1:i<S.ops.size)(h2:lof listed i=false)(h3:∀e∈S.aft i,lof listed e=true):i∈bgD .any S.ops listed:=by
 unfold bgD;simp only[bgA,bf3,bf4,bf2];refine⟨h1,?_,?_⟩
 . unfold lof at h2
   rw[bfY]at h2|-;rw[bf1 (by omega)]at h2|-;simpa using h2
 . have ho:S.ops[i]? =some S.ops[i]:=bf1 h1
   rw[ho];simp only[Option.map_some,Option.getD_some,bgL,bf9,bf2];intro x hx
   cases hb:bgP .any x with
   |false=>exact Or.inl rfl
   |true=>
    right;refine h3 x.on ?_;unfold Spec.aft;rw[ho];exact bgG.2 ⟨x,bgA.2 ⟨bgK.2 hx,hb⟩,rfl⟩
theorem Spec.WF.down (wf:S.WF){lst:Nat->Bool}(hc:∀i,lst i=true->∀e∈S.aft i,lst e=true):∀(n i:Nat),i<n->i<S.ops.size->(∀e∈S.aft i,lst e=true)->∀d∈S.D i,lst d=true
 |0,i,h,_,_,_,_=>by omega
 |n+1,i,h,hi,ha,d,hd=>by
  obtain⟨e,he,h2⟩:=wf.dok i hi d hd;have hlt:=wf.topo i hi e he;rcases h2 with rfl|h2
  . exact ha e he
  . exact down wf hc n e (by omega) (by omega) (hc e (ha e he)) d h2
theorem Spec.WF.downI (wf:S.WF){lst:Nat->Bool}(hc:∀i,lst i=true->∀e∈S.aft i,lst e=true){i:Nat}(hi:i<S.ops.size)(hl:lst i=true):∀d∈S.D i,lst d=true:=
 wf.down hc (i+1) i (by omega) hi (hc i hl)
theorem Spec.okL_on {lst:Nat->Bool}{i m:Nat}(h:S.okL i m=true)(hi:lst i=true)(hd:∀d∈S.D i,lst d=true):S.on lst m=true:=by
 unfold Spec.okL at h;unfold Spec.on
 cases hc:S.cr m with
 |none=>rfl
 |some k=>
  rw[hc]at h;simp only[bf9,beq_iff_eq,bf5]at h;rcases h with rfl|h
  . exact hi
  . exact hd k h
section
variable{lst lst':Nat->Bool}{ν ν':Nat->Nat}{i:Nat}
def Spec.Keep (S:Spec E)(lst:Nat->Bool)(ν ν':Nat->Nat):Prop:=∀n,S.on lst n=true->ν' n=ν n
theorem Spec.keep_of (hf:lst i=false)(h:∀n,S.cr n≠some i->ν' n=ν n):S.Keep lst ν ν':=fun n hn=>h n fun hc=>by
 unfold Spec.on at hn;rw[hc]at hn;simp only at hn;rw[hf]at hn;cases hn
theorem Spec.WF.val_keep (wf:S.WF)(hc:∀i,lst i=true->∀e∈S.aft i,lst e=true)(hk:S.Keep lst ν ν')(hd:S.dst j=some d)(hj:lst j=true):(S.val j).den ν'=(S.val j).den ν:=
 SV.congr fun m hm=>hk m (Spec.okL_on (wf.lets j (Spec.dst_lt hd) m hm) hj (wf.downI hc (Spec.dst_lt hd) hj))
theorem apV{k:Nat}(hc:S.cr n=some k):S.on lst n=lst k:=by unfold Spec.on;rw[hc]
theorem ao3(hc:S.cr n=none):S.on lst n=true:=by unfold Spec.on;rw[hc]
theorem Spec.WF.obj_keep (wf:S.WF)(hlt:∀i,lst i=true->i<S.ops.size)(hc:∀i,lst i=true->∀e∈S.aft i,lst e=true)(hk:S.Keep lst ν ν'){B:Blk}(hB:B∈S.blocks)(ho:S.on lst B.b=true):B.obj lst ν'=B.obj lst ν:=by
 have h:=wf.blk B hB;unfold Blk.ok at h;rw[bf4,bgF]at h;obtain⟨h1,h2⟩:=h;have hinit:∀m∈B.init.flatMap SC.lets,ν' m=ν m:=fun m hm=>hk m (by
  have:=h1 m hm
  cases hcr:S.cr B.b with
  |none=>rw[hcr]at this;exact ao3 (by simpa using this)
  |some k=>
   rw[hcr]at this;rw[apV hcr]at ho;exact Spec.okL_on this ho (wf.downI hc (hlt k ho) ho))
 unfold Blk.obj
 suffices hs:(B.cont lst).map (SC.den ν')=(B.cont lst).map (SC.den ν) by rw[hs]
 unfold Blk.cont
 cases hst:B.st with
 |none=>exact SC.congrs hinit
 |some p=>
  obtain⟨s,c⟩:=p;rw[hst]at h2;simp only[bf4,bgF]at h2;simp only
  split
  . rename_i hs
    exact SC.congrs fun m hm=>hk m (Spec.okL_on (h2.1 m hm) hs (wf.downI hc (hlt s hs) hs))
  . exact SC.congrs hinit
theorem fP{x:E}(h:(n,x)∈S.know)(ho:S.on lst n=true):(x,ν n)∈S.K lst ν:=bfZ.2 ⟨(n,x),h,by simp only[ho,if_true]⟩
theorem wZ{B:Blk}(h:B∈S.blocks)(ho:S.on lst B.b=true):(ν B.b,B.obj lst ν)∈S.L lst ν:=bfZ.2 ⟨B,h,by simp only[ho,if_true]⟩
theorem of_L{p:Nat×Obj}(h:p∈S.L lst ν):∃B∈S.blocks,S.on lst B.b=true/\p=(ν B.b,B.obj lst ν):=by
 obtain⟨B,h1,h2⟩:=bfZ.1 h
 split at h2
 . rename_i ho;exact⟨B,h1,ho,(bgH h2).symm⟩
 . cases h2
theorem of_K{p:E×Nat}(h:p∈S.K lst ν):∃q∈S.know,S.on lst q.1=true/\p=(q.2,ν q.1):=by
 obtain⟨B,h1,h2⟩:=bfZ.1 h
 split at h2
 . rename_i ho;exact⟨B,h1,ho,(bgH h2).symm⟩
 . cases h2
theorem acO(l:List Blk)(hn:(l.map (·.b)).Nodup)(hI:∀B∈l,∀C∈l,S.on lst B.b=true->S.on lst C.b=true->ν B.b=ν C.b->B.b=C.b):((l.filterMap fun B=>if S.on lst B.b then some (ν B.b,B.obj lst ν)else none).map (·.1)).Nodup:=by
 induction l with
 |nil=>simp
 |cons B l ih=>
  rw[bgE,bgN]at hn;have ih:=ih hn.2 fun C hC C' hC'=>hI C (bf6 _ hC) C' (bf6 _ hC');rw[List.filterMap_cons]
  cases ho:S.on lst B.b with
  |false=>simpa[ho]using ih
  |true=>
   simp only[if_true,bgE,bgN];refine⟨fun hm=> ?_,ih⟩;obtain⟨p,hp,e⟩:=bgG.1 hm;obtain⟨C,hC,h2⟩:=bfZ.1 hp
   split at h2
   . rename_i hoC
     have:=bgH h2;subst this;have:=hI C (bf6 _ hC) B List.mem_cons_self hoC ho e;exact hn.1 (by rw[<-this];exact bgG.2 ⟨C,hC,rfl⟩)
   . cases h2
theorem Spec.WF.nodup_L (wf:S.WF)(hI:S.Inj lst ν):((S.L lst ν).map (·.1)).Nodup:=acO S.blocks wf.bnd hI
theorem anD(f:Nat->Nat)(c i:Nat):∀n,i<n->(∀j,j≠i->lst' j=lst j)->lst i=false->lst' i=true->f i=c->
 ((bf0 n).map fun j=>if lst' j then f j else 0).sum=((bf0 n).map fun j=>if lst j then f j else 0).sum+c:=by
 intro n
 induction n with
 |zero=>intro h;omega
 |succ n ih=>
  intro hn hne h0 h1 hc;rw[bgI,bgB,bgB,bgC,bgC];simp only[bgE,bgQ,bgO,bgR,bgS];rcases bgJ i n with h|h
  . rw[ih h hne h0 h1 hc,hne n (by omega)];omega
  . have:i=n:=by omega
    subst this;rw[h0,h1,hc];have:((bf0 i).map fun j=>if lst' j then f j else 0)=((bf0 i).map fun j=>if lst j then f j else 0):=bf8 fun j hj=>by rw[hne j (by have:=bf3.1 hj;omega)]
    rw[this];simp
theorem Spec.costs_set (hi:i<S.ops.size)(hne:∀j,j≠i->lst' j=lst j)(h0:lst i=false)(h1:lst' i=true):S.costs lst'=S.costs lst+S.cost i:=anD S.cost _ i _ hi hne h0 h1 rfl
theorem ao4(f:Nat->Nat)(n:Nat):((bf0 n).map fun j=>if lst j then f j else 0).sum<=((bf0 n).map f).sum:=by
 induction n with
 |zero=>simp
 |succ n ih=>
  rw[bgI,bgB,bgB,bgC,bgC];simp only[bgE,bgQ,bgO,bgR,bgS]
  split<;>omega
theorem Spec.costs_le:S.costs lst<=S.total:=ao4 S.cost _
end
section
variable{c0:Nat}{a0:Act}{ν0:Nat->Nat}{listed:Array Bool}{a:Act}{w:World}{i:Nat}
theorem Spec.J.lt (h:S.J W c0 a0 ν0 listed a w)(hj:lof listed j=true):j<S.ops.size:=by
 rcases bgJ j S.ops.size with hlt|hge
 . exact hlt
 . unfold lof at hj
   rw[bfY,Array.getElem?_eq_none (by rw[h.lsz];exact hge)]at hj
   cases hj
theorem Spec.J.next (wf:S.WF)(hin:∀i d,S.dst i=some d->d<a0.tmps.size)(h:S.J W c0 a0 ν0 listed a w)(hr:i∈bgD .any S.ops listed){ν ν':Nat->Nat}{w':World}{v:Value}
 (h0:∀n,S.cr n=none->ν n=ν0 n) (hV:S.Vals (lof listed) a ν) (hag:∀n,S.cr n≠some i->ν' n=ν n)
 (hG:W.G (c0+S.costs (lof (listed.setIfInBounds i true))) (S.K (lof (listed.setIfInBounds i true)) ν') (S.L (lof (listed.setIfInBounds i true)) ν') w') (hI:S.Inj (lof (listed.setIfInBounds i true)) ν')
 (hv:(S.dst i).isSome=true->v=(S.val i).den ν'):
 S.J W c0 a0 ν0 (listed.setIfInBounds i true) (a.put (S.dst i) v) w':=by
 obtain⟨h1,h2,h3⟩:=kV h.lsz hr;have hls:∀j,lof (listed.setIfInBounds i true) j=if j=i then true else lof listed j:=uK (by rw[h.lsz];exact h1);refine⟨⟨ν',fun n hn=> ?_,hG,fun j d hj hd=> ?_,hI⟩,fun s hs=> ?_,?_,?_,?_,fun j hj e he=> ?_⟩
 . rw[hag n (by rw[hn];exact fun e=>by cases e)];exact h0 n hn
 . rw[aaN]
   by_cases hji:j=i
   . subst hji
     rw[if_pos ⟨hd,by rw[h.size];exact hin j d hd⟩];exact hv (by rw[hd];rfl)
   . rw[hls,if_neg hji]at hj
     rw[if_neg,hV j d hj hd]
     . exact(wf.val_keep h.closed (Spec.keep_of h2 hag) hd hj).symm
     . rintro⟨e,-⟩
       have hnd:=wf.dnd;have hlt:=Spec.dst_lt hd;exact hji (filterMap_inj hnd hlt h1 hd e)
 . rw[aaN,if_neg (fun e=>hs i e.1)];exact h.oth s hs
 . rw[size_put,h.size]
 . rw[wY,h.defers]
 . rw[Array.size_setIfInBounds,h.lsz]
 . rw[hls]at hj|-
   split
   . rfl
   . by_cases hji:j=i
     . subst hji;exact h3 e he
     . rw[if_neg hji]at hj;exact h.closed j hj e he
where
 filterMap_inj {f:Nat->Option Nat} {n j k d:Nat} (hnd:((bf0 n).filterMap f).Nodup) (hj:j<n) (hk:k<n) (hd:f j=some d) (he:f k=some d):j=k:=by
  induction n with
  |zero=>omega
  |succ n ih=>
   rw[bgI,List.filterMap_append,List.nodup_append]at hnd;obtain⟨n1,-,n2⟩:=hnd;have key:∀{p:Nat},p<n->f p=some d->f n=some d->False:=fun{p} hp h1 h2=>
    n2 d (bfZ.2 ⟨p,bf3.2 hp,h1⟩) d (by simp[h2]) rfl
   rcases bgJ j n with h1|h1<;>rcases bgJ k n with h2|h2
   . exact ih n1 h1 h2
   . have:k=n:=by omega
     subst this;exact(key h1 hd he).elim
   . have:j=n:=by omega
     subst this;exact(key h2 he hd).elim
   . omega
end
end
end Go.Proofs.YtaojpfcboainmaaGreatDoor
