/- A part of the proof: contracts of functions and plain laws (SgC, FlE, FlF, FlG, FlH, FlI, SgE, SgD, RfA). -/
import Derived.Test.YtkpodipoegbclaaGreatDoorK30
import Derived.Test.YtkpodipoegbclaaGreatDoorK17
import Derived.Test.YtkpodipoegbclaaGreatDoorK13
import Derived.Deep.DeepCutAuto
import Derived.Test.YtkpodipoegbclaaGreatDoorK18
set_option linter.unusedVariables false
set_option linter.unusedSimpArgs false
set_option maxHeartbeats 25600000
set_option maxRecDepth 100000
namespace Go.Proofs.YtkpodipoegbclaaGreatDoor
section
open Go.RowKit Go.Maps
open List renaming getElem?_eq_getElem->beV,mem_of_getElem?->beW
variable{a e e0:Ex}{ns:List Nd}{g q:Nat}{v v0:Re}{w:World}
def GdAt(ns:List Nd)(i:Nat):Prop:=∃a K j v,Is ns a i/\Gd K j a v
theorem wI{x:Nat}{n:Nd}(hp:Part ns e x)(hn:ns[x]? =some n):
 (n.kind≠4/\n.kind≠5)\/(∃a b,∃p q:Nat,n=⟨4,0,p,q⟩/\SubE (.div a b) e/\Is ns b q)\/(∃a,∃p:Nat,n=⟨5,0,p,0⟩/\SubE (.root a) e/\Is ns a p):=by
 obtain⟨a',hs,hi⟩:=hp
 cases a' with
 |leaf v=>have hi:ns[x]? =some ⟨0,v,0,0⟩:=hi;rw[hn]at hi;cases hi;exact Or.inl ⟨show(0:Int)≠4 by decide,show(0:Int)≠5 by decide⟩
 |add a b=>obtain⟨p,q,h,-⟩:=hi;rw[hn]at h;cases h;exact Or.inl ⟨show(1:Int)≠4 by decide,show(1:Int)≠5 by decide⟩
 |sub a b=>obtain⟨p,q,h,-⟩:=hi;rw[hn]at h;cases h;exact Or.inl ⟨show(2:Int)≠4 by decide,show(2:Int)≠5 by decide⟩
 |mul a b=>obtain⟨p,q,h,-⟩:=hi;rw[hn]at h;cases h;exact Or.inl ⟨show(3:Int)≠4 by decide,show(3:Int)≠5 by decide⟩
 |div a b=>obtain⟨p,q,h,-,-,-,h5⟩:=hi;rw[hn]at h;cases h;exact Or.inr (Or.inl ⟨a,b,p,q,rfl,hs,h5⟩)
 |root a=>obtain⟨p,h,-,h3⟩:=hi;rw[hn]at h;cases h;exact Or.inr (Or.inr ⟨a,p,rfl,hs,h3⟩)
theorem aeX{b:Ex}(hd:DenR e v)(hg:AllGd e)(hs:SubE (.div a b) e)(hi:Is ns b q):GdAt ns q/\sgT ns q≠0:=by
 obtain⟨K,j,u,hu⟩:=hg.1 a b hs;refine⟨⟨b,K,j,u,hi,hu⟩,?_⟩;rw[mM hi hu.den];obtain⟨t,ht⟩:=hs.den hd
 cases ht with
 |div h1 h2 h0 hz=>rw[hu.den.uniq h2];exact fun h=>h0 (Re.sgn_eq_zero.1 h)
theorem acB(hd:DenR e v)(hg:AllGd e)(hs:SubE (.root a) e)(hi:Is ns a q):GdAt ns q/\¬sgT ns q<0:=by
 obtain⟨K,j,u,hu⟩:=hg.2 a hs;refine⟨⟨a,K,j,u,hi,hu⟩,?_⟩;rw[mM hi hu.den];obtain⟨t,ht⟩:=hs.den hd
 cases ht with
 |root h1 h0 hz=>
  rw[hu.den.uniq h1];have:(0:Re)<=_:=Re.mul_nonneg h0 h0;rw[hz]at this;rcases Re.sgn_cases _ with ⟨-,h⟩|⟨-,h⟩|⟨h,-⟩
  . rw[h];decide
  . rw[h];decide
  . exact absurd h (Re.not_lt.2 this)
theorem aeY{root:Nat}{l m:List Nat}(hl:IsB ns root l)(hm:IsB ns root m):∀x∈l,x∈m:=by
 refine hl.mn (fun x=>x∈m) ?_ hm.rt;intro x n hx hn o ho;obtain⟨y,hy,e⟩:=hm.cl x hx n hn o ho;rw[<-e,Int.toNat_natCast];exact hy
def aj7(w:World)(g root:Nat)(ns:List Nd)(e:Ending)(w':World):Prop:=Below w.heap.size w w'/\∃j ms l,e=.returned (.tuple #[.pointer (some ⟨j,0,none⟩),.nilIface])/\w.heap.size<=ms/\IsB ns root l/\JG w' j ms g ns l
theorem z8{root:Nat}(hd:DagP w g ns)(ok:OkNs ns)(hlf:fP ns)(hro:fQ ns)(hI:Is ns e0 root)(hde:DenR e0 v0)(hgd:AllGd e0)(hT:Tab w):
 Calls Tryz.prog 115 #[.pointer (some ⟨g,0,none⟩),.int .i64 (root:Int),.agg #[.bool true,.int .i64 32]] w (aj7 w g root ns):=by
 obtain⟨w1,hw1,hb1,hs1,b1⟩:=pro1 w (.cells #[.bool true,.int .i64 32] 178);obtain⟨c0,c1,-,-⟩:=aB b1;have hr:=hI.lt;obtain⟨nr,hnr⟩:∃n,ns[root]? =some n:=⟨_,beV hr⟩;have HB1:=hdd hb1;have HN1:=hdd (dK (hd.below hb1) hnr);have HDW:=hdd hd;have HDE:=hdd hde;have HGD:=hdd hgd;have HI0:=hdd hI;have HLN:=hdd hd.len;have HNJ:Hid (∀w',Below w.heap.size w w'->Calls Tryz.prog 165 #[.pointer (some ⟨g,0,none⟩),.int .i64 (root:Int),.agg #[.bool true,.int .i64 32]] w' (RetJ w' g root ns)):=hdd fun w' h=>qA (hd.below h) ok hlf hro hr;have HJS:Hid (∀w' j ms l (p:Nat),Below w.heap.size w w'->JG w' j ms g ns l->p∈l->GdAt ns p->Calls Tryz.prog 117 #[.pointer (some ⟨j,0,none⟩),.int .i64 (p:Int)] w' (fun e w''=>e=.returned (.tuple #[.int .i64 (sgT ns p),.nilIface])/\Fr (fun b=>b=ms) w' w''/\JG w'' j ms g ns l)):=hdd fun w' j ms l p h hj hl ⟨a,K,jj,v,hi,hg⟩=>jK hj hl (hd.below h) ok hlf hro hi hg (hT.below h);have HBE:Hid (∀w' b0,Below w.heap.size w w'->w'.heap[b0]? =some (.cells #[.int .i64 (root:Int)] 3 (0,0))->Calls Tryz.prog 153 #[.pointer (some ⟨g,0,none⟩),.slice (some ⟨b0,0,none⟩) 1 1] w' (lV w' ns root)):=hdd fun w' b0 h hb=>gP (hd.below h) ok hr hb
 clear hd ok hlf hro hr hb1 b1 hs1 hnr hI hde hgd hT;have hst:=aN;go_enter Tryz.func115,Tryz.ntmps115
 go_wp2_with fail
 refine HN1.out.mono ?_;rintro e w2⟨rfl,hb2⟩;obtain⟨w3,hw3,z0,z1,z2,z3,y0,y1,y2,y3,w4,hw4,hb4,hs4⟩:=new4 w2 137 (.int .i64 0) (.float .f64 0) (.int .i64 0) (.int .i64 0) (.int .i64 nr.kind) (.float .f64 nr.val) (.int .i64 nr.a) (.int .i64 nr.b);have h14:=aA hb2 hb4;replace c0:=cbl c0 h14;replace c1:=cbl c1 h14;have HB4:=hdd (HB1.out.trans (h14.mono HB1.out.size));clear hb2 hb4 hs4 h14;go_wp2_with fail
 refine(HNJ.out _ HB4.out).mono ?_;rintro e w5⟨hb5,j,ms,l0,rfl,hms,hms5,hI0,hjp⟩;obtain⟨w6,hw6,hb6,hs6,b6⟩:=pro1 w5 (.cells #[.int .i64 (root:Int)] 3);have h46:=aA hb5 hb6;have HB6:=hdd (HB4.out.trans (h46.mono HB4.out.size));have HJ6:=hdd (hjp.below hb6);have HIL:=hdd hI0;have HM6:Hid (ms<w6.heap.size):=hdd (by have:=hb6.size;omega);have HMS:=hdd (Nat.le_trans HB4.out.size hms);have HBE6:=hdd (HBE.out w6 _ HB6.out b6);clear hb5 hb6 hs6 b6 h46 hjp hms hms5 hI0 c0 c1 z0 z1 z2 z3 y0 y1 y2 y3 hw3 hw4;go_wp2_with fail
 refine HBE6.out.mono ?_;rintro e w7⟨hb7,v7,l,rfl,hl,hI⟩;obtain⟨bl,cl,rfl,hlc,hcm,-⟩:=id hl;have HL:=hdd hl;have HI:=hdd hI;have HB7:=hdd (HB6.out.trans (hb7.mono HB6.out.size));have HJ7:=hdd (HJ6.out.below hb7);have HMS7:Hid (w.heap.size<=ms):=HMS;have HLL:=hdd (kN hI HLN.out);clear hb7 hl hI hlc hcm hw6;go_wp2_with fail
 go_loopw [37] (fun i wr=>∃k:Nat,k<=l.length/\i=.int .i64 (k:Int)/\Hid (Fr (fun b=>b=ms) w7 wr)/\Hid (JG wr j ms g ns l0)) (fun i _=>((l.length:Int)-intOf i).toNat)
 case atStart=>exact⟨0,Nat.zero_le _,rfl,hdd (Fr.of_below (Below.refl _ _)),HJ7⟩
 case round=>
  obtain⟨k,hk,rfl,HF,HJR⟩:=hrel;have HBR:Hid (Below w.heap.size w wr):=hdd (HB7.out.trans (HF.out.below HB7.out.size (fun b hb=>by have:=HMS.out;omega)));rcases Nat.lt_or_ge k l.length with hlt|hge
  . obtain⟨x,hx⟩:∃x,l[k]? =some x:=⟨_,beV hlt⟩
    have hxl:x<ns.length:=HI.out.lt x (beW hx);obtain⟨n,hn⟩:∃n,ns[x]? =some n:=⟨_,beV hxl⟩;have cx:=(HL.out.fr HF.out (fun b hb=>by have:=HM6.out;omega)).cell hx;have HN:=hdd (dK (HDW.out.below HBR.out) hn);have hkI:(k:Int)<(l.length:Int):=by omega
    have hk0:(0:Int)<=(k:Int):=by omega
    have hlI:(l.length:Int)<=20000:=by have:=HLL.out;omega
    have HKL:=hdd hlt;have hx0:x∈l0:=aeY HI.out HIL.out x (beW hx);have hkc:=wI (tJ HIL.out HI0.out x hx0) hn;have HCL:Hid (∀o∈opsN n,∃y∈l0,(y:Int)=o):=hdd (HIL.out.cl x hx0 n hn);clear hx hn hxl hlt hx0;rcases hkc with ⟨hk4,hk5⟩|⟨a,b,p,q,rfl,hs,hi⟩|⟨a,p,rfl,hs,hi⟩
    . go_wp2_with fail
      refine HN.out.mono ?_;rintro e w8⟨rfl,hb8⟩;obtain⟨w9,hw9,z0,z1,z2,z3,y0,y1,y2,y3,wa,hwa,hba,hsa⟩:=new4 w8 137 (.int .i64 0) (.float .f64 0) (.int .i64 0) (.int .i64 0) (.int .i64 n.kind) (.float .f64 n.val) (.int .i64 n.a) (.int .i64 n.b);obtain⟨x0,x1,x2,x3⟩:=aY hsa;have HFa:=hdd (HF.out.trans (Fr.of_below (aA hb8 hba)));have HJa:=hdd (HJR.out.below (aA hb8 hba));clear hb8 hba hsa cx;go_wp2_with fail
      go_roundw
      case rel=>exact⟨k+1,by have:=HKL.out;omega,by go_num,HFa,HJa⟩
      case measure=>have:=HKL.out;simp[intOf];omega
    . obtain⟨hga,hsg⟩:=aeX HDE.out HGD.out hs hi
      have hq0:q∈l0:=by
       obtain⟨y,hy,e⟩:=HCL.out (q:Int) (by simp[opsN]);have:y=q:=by omega
       rw[<-this];exact hy
      have HGA:=hdd hga;have HQ0:=hdd hq0;clear hga hq0 hs hi;dsimp only at HN;go_wp2_with fail
      refine HN.out.mono ?_;rintro e w8⟨rfl,hb8⟩;obtain⟨w9,hw9,z0,z1,z2,z3,y0,y1,y2,y3,wa,hwa,hba,hsa⟩:=new4 w8 137 (.int .i64 0) (.float .f64 0) (.int .i64 0) (.int .i64 0) (.int .i64 4) (.float .f64 0) (.int .i64 (p:Int)) (.int .i64 (q:Int));obtain⟨x0,x1,x2,x3⟩:=aY hsa;have HFa:=hdd (HF.out.trans (Fr.of_below (aA hb8 hba)));have HJa:=hdd (HJR.out.below (aA hb8 hba));have HBa:=hdd (HBR.out.trans ((aA hb8 hba).mono HBR.out.size));clear hb8 hba hsa cx;go_wp2_with fail
      refine(HJS.out _ _ _ _ q HBa.out HJa.out HQ0.out HGA.out).mono ?_;rintro e wb⟨rfl,hfb,hjb⟩;have HFb:=hdd (HFa.out.trans hfb);have HJb:=hdd hjb;clear hfb hjb x0 x1 x2 x3 z0 z1 z2 z3 y0 y1 y2 y3 hw9 hwa;generalize sgT ns q=S at*;go_wp2_with fail
      go_roundw
      case rel=>exact⟨k+1,by have:=HKL.out;omega,by go_num,HFb,HJb⟩
      case measure=>have:=HKL.out;simp[intOf];omega
    . obtain⟨hga,hsg⟩:=acB HDE.out HGD.out hs hi
      have hq0:p∈l0:=by
       obtain⟨y,hy,e⟩:=HCL.out (p:Int) (by simp[opsN]);have:y=p:=by omega
       rw[<-this];exact hy
      have HGA:=hdd hga;have HQ0:=hdd hq0;clear hga hq0 hs hi;dsimp only at HN;go_wp2_with fail
      refine HN.out.mono ?_;rintro e w8⟨rfl,hb8⟩;obtain⟨w9,hw9,z0,z1,z2,z3,y0,y1,y2,y3,wa,hwa,hba,hsa⟩:=new4 w8 137 (.int .i64 0) (.float .f64 0) (.int .i64 0) (.int .i64 0) (.int .i64 5) (.float .f64 0) (.int .i64 (p:Int)) (.int .i64 0);obtain⟨x0,x1,x2,x3⟩:=aY hsa;have HFa:=hdd (HF.out.trans (Fr.of_below (aA hb8 hba)));have HJa:=hdd (HJR.out.below (aA hb8 hba));have HBa:=hdd (HBR.out.trans ((aA hb8 hba).mono HBR.out.size));clear hb8 hba hsa cx;go_wp2_with fail
      refine(HJS.out _ _ _ _ p HBa.out HJa.out HQ0.out HGA.out).mono ?_;rintro e wb⟨rfl,hfb,hjb⟩;have HFb:=hdd (HFa.out.trans hfb);have HJb:=hdd hjb;clear hfb hjb x0 x1 x2 x3 z0 z1 z2 z3 y0 y1 y2 y3 hw9 hwa;generalize sgT ns p=S at*;go_wp2_with fail
      go_roundw
      case rel=>exact⟨k+1,by have:=HKL.out;omega,by go_num,HFb,HJb⟩
      case measure=>have:=HKL.out;simp[intOf];omega
  . have hke:k=l.length:=by omega
    subst hke;have HRES:Hid (aj7 w g root ns (.returned (.tuple #[.pointer (some ⟨j,0,none⟩),.nilIface])) wr):=hdd ⟨HBR.out,j,ms,l0,rfl,HMS.out,HIL.out,HJR.out⟩;clear hk hge;go_wp2
    go_ret2
    exact HRES.out
theorem acC{root K jj:Nat}(hd:DagP w g ns)(ok:OkNs ns)(hlf:fP ns)(hro:fQ ns)(hI:Is ns e0 root)(hG:Gd K jj e0 v0)(hgd:AllGd e0)(hT:Tab w):
 Calls Tryz.prog 68 #[.pointer (some ⟨g,0,none⟩),.int .i64 (root:Int),.slice none 0 0] w (fun e w'=>e=.returned (.tuple #[.int .i64 (Re.sgn v0),.nilIface])/\Below w.heap.size w w'):=by
 have HEX:Hid (∀w',Below w.heap.size w w'->Calls Tryz.prog 115 #[.pointer (some ⟨g,0,none⟩),.int .i64 (root:Int),.agg #[.bool true,.int .i64 32]] w' (aj7 w' g root ns)):=hdd fun w' h=>z8 (hd.below h) ok hlf hro hI hG.den hgd (hT.below h);have HJS:Hid (∀w' j ms l,Below w.heap.size w w'->JG w' j ms g ns l->root∈l->Calls Tryz.prog 117 #[.pointer (some ⟨j,0,none⟩),.int .i64 (root:Int)] w' (fun e w''=>e=.returned (.tuple #[.int .i64 (Re.sgn v0),.nilIface])/\Fr (fun b=>b=ms) w' w''/\JG w'' j ms g ns l)):=hdd fun w' j ms l h hj hl=>by
  have:=jK hj hl (hd.below h) ok hlf hro hI hG (hT.below h);rwa[mM hI hG.den]at this
 clear hd ok hlf hro hI hG hgd hT;go_enter Tryz.func68,Tryz.ntmps68
 go_wp2_with fail
 refine chosen_any.mono ?_;rintro e w1⟨rfl,hb1⟩;have HB1:=hdd hb1;clear hb1;go_wp2_with fail
 refine(HEX.out _ HB1.out).mono ?_;rintro e w2⟨hb2,j,ms,l,rfl,hms,hIB,hjp⟩;have HB2:=hdd (HB1.out.trans (hb2.mono HB1.out.size));have HMS:=hdd (Nat.le_trans HB1.out.size hms);have HJC:=hdd (HJS.out _ j ms l HB2.out hjp hIB.rt);clear hb2 hms hjp hIB HJS HEX;go_wp2_with fail
 refine HJC.out.mono ?_;rintro e w3⟨rfl,hf,-⟩;have HB3:=hdd (HB2.out.trans (hf.below HB2.out.size (fun b hb=>by have:=HMS.out;omega)));clear hf;go_wp2
 go_ret2
 exact⟨rfl,HB3.out⟩
end
section
open Go.RowKit Go.Maps Go.Stop Go.Extern
open List renaming getElem?_eq_getElem->beX,mem_of_getElem?->be2
open Nat renaming lt_succ_iff_lt_or_eq->beY,le_trans->be0,le_refl->be4
open Option.some renaming inj->be1,injEq->be3
variable{a b e e0:Ex}{k kk:Int}{n p q x:Nat}{S:Nat->Prop}{v:Value}
def Bad(w:World)(v:Value):Prop:=(∃k:Int,v=.agg #[.pointer none,.int .i64 k])\/∃(g:Nat) (ns:List Nd),DagP w g ns/\v=.agg #[.pointer (some ⟨g,0,none⟩),.int .i64 (-1)]
theorem Bad.below {w w':World}(h:Bad w v)(hb:Below w.heap.size w w'):Bad w' v:=by
 rcases h with h|⟨g,ns,h,e⟩
 . exact Or.inl h
 . exact Or.inr ⟨g,ns,h.below hb,e⟩
theorem Bad.open {w:World}(h:Bad w v):∃(a:Option Addr) (k:Int),v=.agg #[.pointer a,.int .i64 k]:=by
 rcases h with ⟨k,rfl⟩|⟨g,ns,-,rfl⟩
 . exact⟨_,_,rfl⟩
 . exact⟨_,_,rfl⟩
theorem al0{w:World}{g:Nat}{ns:List Nd}(hd:DagP w g ns):
 Calls Tryz.prog 137 #[.pointer (some ⟨g,0,none⟩),.int .i64 (-1)] w (fun e w'=>e=.returned (.bool false)/\w=w'):=by
 obtain⟨A,c,c0,-,-,-⟩:=hd.slice;clear hd;go_enter Tryz.func137,Tryz.ntmps137
 go_wp2;go_ret;exact⟨rfl,rfl⟩
theorem aj8{w:World}{g:Nat}{ns:List Nd}(hd:DagP w g ns):
 Calls Tryz.prog 86 #[.pointer (some ⟨g,0,none⟩),.int .i64 (-1)] w (fun e w'=>e=.returned (.tuple #[.agg #[.int .i64 0,.float .f64 0,.int .i64 0,.int .i64 0],.bool false])/\Below w.heap.size w w'):=by
 obtain⟨w1,hw1,hb1,hs1,b1⟩:=pro1 w (.cells #[.int .i64 0,.float .f64 0,.int .i64 0,.int .i64 0] 137);obtain⟨c0,c1,c2,c3⟩:=aY b1;obtain⟨f0,f1,f2,f3⟩:=ad8 b1;have HH:=hdd (al0 (hd.below hb1));have g1:=hdd (set4 b1 (.int .i64 0) (.float .f64 0) (.int .i64 0) (.int .i64 0));have HB:Hid (∀a b c d,Below w.heap.size w ((((w1.setCell ⟨w.heap.size,0,none⟩ a).setCell ⟨w.heap.size,1,none⟩ b).setCell ⟨w.heap.size,2,none⟩ c).setCell ⟨w.heap.size,3,none⟩ d)):=hdd fun a b c d=>(((hb1.setCell nlr a).setCell nlr b).setCell nlr c).setCell nlr d;have hst:=aN;clear hd hb1 hs1 b1;go_enter Tryz.func86,Tryz.ntmps86
 go_wp2_with fail
 refine HH.out.mono ?_;rintro e w2⟨rfl,rfl⟩;go_wp2_with fail
 obtain⟨x0,x1,x2,x3⟩:=aY g1.out;refine bodyPost_ret (v:=.tuple #[.agg #[_,_,_,_],_]) (by simp[results,Tryz.results86,go_sem,x0,x1,x2,x3];first|exact⟨⟨rfl,rfl,rfl,rfl⟩,rfl⟩|exact⟨rfl,rfl,rfl,rfl⟩|rfl) rfl ?_;exact⟨rfl,HB.out _ _ _ _⟩
theorem ag2{w:World}(h:Bad w v):Calls Tryz.prog 41 #[v] w (RetV w (.bool false)):=by
 rcases h with ⟨k,rfl⟩|⟨g,ns,hd,rfl⟩
 . obtain⟨w1,hw1,hb1,hs1,b1⟩:=pro1 w (.cells #[.pointer none,.int .i64 k] 26)
   obtain⟨c0,c1,-,-⟩:=aB b1;have HB:=hdd hb1;clear hb1 hs1 b1;go_enter Tryz.func41,Tryz.ntmps41
   go_wp2;go_ret;exact⟨rfl,HB.out⟩
 . obtain⟨w1,hw1,hb1,hs1,b1⟩:=pro1 w (.cells #[.pointer (some ⟨g,0,none⟩),.int .i64 (-1)] 26)
   obtain⟨c0,c1,-,-⟩:=aB b1;have HN:=hdd (aj8 (hd.below hb1));have HB:=hdd hb1;have hst:=aN;clear hd hb1 hs1 b1;go_enter Tryz.func41,Tryz.ntmps41
   go_wp2_with fail
   refine HN.out.mono ?_;rintro e w2⟨rfl,hb2⟩;obtain⟨w3,hw3,z0,z1,z2,z3,y0,y1,y2,y3,w4,hw4,hb4,hs4⟩:=new4 w2 137 (.int .i64 0) (.float .f64 0) (.int .i64 0) (.int .i64 0) (.int .i64 0) (.float .f64 0) (.int .i64 0) (.int .i64 0);have HB4:=hdd (aA (aA HB.out hb2) hb4);clear hb2 hb4 hs4;go_wp2;go_ret;exact⟨rfl,HB4.out⟩
abbrev jW(w w':World)(b:Nat):Prop:=w.heap.size<=b/\b<w'.heap.size
def wJ(w:World)(v:Value)(k:Int)(e:Ending)(w':World):Prop:=∃er n,e=.returned (.tuple #[v,er])/\n<=1000/\ErK (jW w w') w' n er k/\Below w.heap.size w w'
def an9(w:World)(k:Int)(e:Ending)(w':World):Prop:=∃er n,e=.returned er/\n<=1000/\ErK (jW w w') w' n er k/\Below w.heap.size w w'
theorem wU{w:World}:Calls Tryz.prog 37 #[] w (fun e w'=>e=.returned (.iface 124 (.int .i64 1))/\w'=w):=by
 go_enter Tryz.func37,Tryz.ntmps37
 go_wp2;go_ret;exact⟨rfl,rfl⟩
theorem aj9{w:World}{s:ByteArray}(h:ErK S w n v k):
 Calls Tryz.prog 51 #[.string s,v] w (fun e w'=>∃er,e=.returned er/\ErK (fun b=>S b\/jW w w' b) w' (n+1) er k/\Below w.heap.size w w'):=by
 have hnn:∃t x,v=.iface t x:=by cases h<;>exact⟨_,_,rfl⟩
 obtain⟨vt,vx,rfl⟩:=hnn;have hb:Below w.heap.size w (w.alloc (.cells #[.string s,.iface vt vx] 162)):=Below.alloc (Below.refl _ _) nlr _;have HE:Hid (ErK (fun b=>S b\/jW w (w.alloc (.cells #[.string s,.iface vt vx] 162)) b) (w.alloc (.cells #[.string s,.iface vt vx] 162)) (n+1) (.iface 160 (.pointer (some ⟨w.heap.size,0,none⟩))) k):=hdd (.inn (Or.inr ⟨be4 _,by simp⟩) (by simp) ((h.low hb).mono fun _ h _=>Or.inl h));have HB:=hdd hb;clear h hb;go_enter Tryz.func51,Tryz.ntmps51
 go_wp2;go_ret;exact⟨_,rfl,HE.out,HB.out⟩
theorem akA{w:World}(h:Bad w v):Calls Tryz.prog 24 #[v] w (wJ w (.int .i64 0) 1):=by
 obtain⟨a,k,rfl⟩:=h.open;obtain⟨w1,hw1,hb1,hs1,b1⟩:=pro1 w (.cells #[.pointer a,.int .i64 k] 26);obtain⟨c0,c1,-,-⟩:=aB b1;have HV:=hdd (ag2 (h.below hb1));have HB:=hdd hb1;clear h hb1 hs1 b1;go_enter Tryz.func24,Tryz.ntmps24
 go_wp2_with fail
 refine HV.out.mono ?_;rintro e w2⟨rfl,hb2⟩;have HB2:=hdd (aA HB.out hb2);have HM:=hdd (wU (w:=w2));have HI:Hid (∀s,Calls Tryz.prog 51 #[.string s,.iface 124 (.int .i64 1)] w2 (fun e w'=>∃er,e=.returned er/\ErK (fun b=>False\/jW w2 w' b) w' (0+1) er 1/\Below w2.heap.size w2 w')):=hdd fun s=>aj9 (S:=fun _=>False) (.kind (by omega) (by omega));clear hb2 c0 c1;go_wp2_with fail
 refine HM.out.mono ?_;rintro e w3⟨rfl,rfl⟩;go_wp2_with fail
 refine(HI.out _).mono ?_;rintro e w4⟨er,rfl,h1,h2⟩;have HF:=hdd (h1.mono (T:=jW w w4) fun b hb _=>⟨be0 HB2.out.size (hb.resolve_left id).1,(hb.resolve_left id).2⟩);have HB4:=hdd (aA HB2.out h2);clear h1 h2;go_wp2
 go_ret2
 exact⟨er,1,rfl,by omega,HF.out,HB4.out⟩
section
variable{P:Ex->Prop}{B N:Nat}{w W:World}{g:Nat}{ns ns':List Nd}{l:List (Nat×Obj)}
end
theorem acD{w:World}{i:Int}(h1:1<=k)(h2:k<=7):
 Calls Tryz.prog 72 #[.int .i64 i,.iface 124 (.int .i64 k)] w (an9 w k):=by
 have hb:Below w.heap.size w (w.alloc (.cells #[.int .i64 i,.iface 124 (.int .i64 k)] 123)):=Below.alloc (Below.refl _ _) nlr _;have HE:Hid (ErK (jW w (w.alloc (.cells #[.int .i64 i,.iface 124 (.int .i64 k)] 123))) (w.alloc (.cells #[.int .i64 i,.iface 124 (.int .i64 k)] 123)) (0+1) (.iface 117 (.pointer (some ⟨w.heap.size,0,none⟩))) k):=hdd (.att ⟨be4 _,by simp⟩ (by simp) (.kind h1 h2));have HB:=hdd hb;clear h1 h2 hb;go_enter Tryz.func72,Tryz.ntmps72
 go_wp2;go_ret;exact⟨_,_,rfl,by omega,HE.out,HB.out⟩
def Fine(e:Ex):Prop:=(∃v,DenR e v)/\AllGd e
def BadE(e:Ex)(k:Int):Prop:=(∃a b K j,e=.div a b/\k=2/\Fine a/\Fine b/\Gd K j b 0)\/∃a v K j,e=.root a/\k=3/\Fine a/\Gd K j a v/\v<0
theorem BadE.div_in (h:BadE e k)(hs:SubE (.div a b) e):(k=2/\∃K j,Gd K j b 0)\/∃f,Fine f/\SubE (.div a b) f:=by
 rcases h with ⟨a0,b0,K,j,rfl,rfl,ha,hb,hg⟩|⟨a0,v,K,j,rfl,rfl,ha,hg,hv⟩
 . cases hs with
   |refl=>exact Or.inl ⟨rfl,K,j,hg⟩
   |divL h=>exact Or.inr ⟨a0,ha,h⟩
   |divR h=>exact Or.inr ⟨b0,hb,h⟩
 . cases hs with
   |root h=>exact Or.inr ⟨a0,ha,h⟩
theorem BadE.root_in (h:BadE e k)(hs:SubE (.root a) e):(k=3/\∃v K j,Gd K j a v/\v<0)\/∃f,Fine f/\SubE (.root a) f:=by
 rcases h with ⟨a0,b0,K,j,rfl,rfl,ha,hb,hg⟩|⟨a0,v,K,j,rfl,rfl,ha,hg,hv⟩
 . cases hs with
   |divL h=>exact Or.inr ⟨a0,ha,h⟩
   |divR h=>exact Or.inr ⟨b0,hb,h⟩
 . cases hs with
   |refl=>exact Or.inl ⟨rfl,v,K,j,hg,hv⟩
   |root h=>exact Or.inr ⟨a0,ha,h⟩
theorem BadE.op {ns:List Nd}{n:Nd}(h:BadE e k)(hI:Is ns e x)(hn:ns[x]? =some n):n.kind=4\/n.kind=5:=by
 rcases h with ⟨a0,b0,K,j,rfl,-⟩|⟨a0,v,K,j,rfl,-⟩
 . obtain⟨p,q,h,-⟩:=hI;rw[hn]at h;cases h;exact Or.inl rfl
 . obtain⟨p,h,-⟩:=hI;rw[hn]at h;cases h;exact Or.inr rfl
theorem BadE.div_at {ns:List Nd}(h:BadE e k)(hI:Is ns e x)(hn:ns[x]? =some ⟨4,0,(p:Int),(q:Int)⟩):sgT ns q=0:=by
 rcases h with ⟨a0,b0,K,j,rfl,-,-,-,hg⟩|⟨a0,v,K,j,rfl,-⟩
 . obtain⟨p',q',h,-,-,-,h5⟩:=hI
   rw[hn]at h;simp only[be3,Nd.mk.injEq,true_and]at h;obtain rfl:q=q':=by omega
   rw[mM h5 hg.den,Re.sgn_zero]
 . obtain⟨p',h,-⟩:=hI;rw[hn]at h;simp at h
theorem BadE.root_at {ns:List Nd}(h:BadE e k)(hI:Is ns e x)(hn:ns[x]? =some ⟨5,0,(p:Int),0⟩):sgT ns p<0:=by
 rcases h with ⟨a0,b0,K,j,rfl,-⟩|⟨a0,v,K,j,rfl,-,-,hg,hv⟩
 . obtain⟨p',q',h,-⟩:=hI;rw[hn]at h;simp at h
 . obtain⟨p',h,-,h3⟩:=hI
   rw[hn]at h;simp only[be3,Nd.mk.injEq,true_and,and_true]at h;obtain rfl:p=p':=by omega
   rw[mM h3 hg.den,Re.sgn_neg hv];decide
theorem BadE.div_case {ns:List Nd}(h:BadE e k)(hs:SubE (.div a b) e)(hi:Is ns b q):GdAt ns q/\(sgT ns q=0/\k=2\/sgT ns q≠0):=by
 rcases h.div_in hs with ⟨hk,K,j,hg⟩|⟨f,⟨⟨v,hf⟩,hg⟩,hs'⟩
 . exact⟨⟨b,K,j,0,hi,hg⟩,Or.inl ⟨by rw[mM hi hg.den,Re.sgn_zero],hk⟩⟩
 . have:=aeX hf hg hs' hi
   exact⟨this.1,Or.inr this.2⟩
theorem BadE.root_case {ns:List Nd}(h:BadE e k)(hs:SubE (.root a) e)(hi:Is ns a q):GdAt ns q/\(sgT ns q<0/\k=3\/¬sgT ns q<0):=by
 rcases h.root_in hs with ⟨hk,v,K,j,hg,hv⟩|⟨f,⟨⟨v,hf⟩,hg⟩,hs'⟩
 . exact⟨⟨a,K,j,v,hi,hg⟩,Or.inl ⟨by rw[mM hi hg.den,Re.sgn_neg hv];decide,hk⟩⟩
 . have:=acB hf hg hs' hi
   exact⟨this.1,Or.inr this.2⟩
theorem divzero_any{w:World}:Calls Tryz.prog 166 #[] w (fun e w'=>e=.returned (.iface 124 (.int .i64 2))/\w'=w):=by
 go_enter Tryz.func166,Tryz.ntmps166
 go_wp2;go_ret;exact⟨rfl,rfl⟩
theorem negroot_any{w:World}:Calls Tryz.prog 167 #[] w (fun e w'=>e=.returned (.iface 124 (.int .i64 3))/\w'=w):=by
 go_enter Tryz.func167,Tryz.ntmps167
 go_wp2;go_ret;exact⟨rfl,rfl⟩
theorem ErK.iface {w:World}(h:ErK S w n v k):∃t x,v=.iface t x:=by cases h<;>exact⟨_,_,rfl⟩
theorem aaA{w:World}{g root:Nat}{ns:List Nd}(hd:DagP w g ns)(ok:OkNs ns)(hlf:fP ns)(hro:fQ ns)(hI:Is ns e0 root)(hbad:BadE e0 kk)(hT:Tab w):
 Calls Tryz.prog 115 #[.pointer (some ⟨g,0,none⟩),.int .i64 (root:Int),.agg #[.bool true,.int .i64 32]] w (wJ w (.pointer none) kk):=by
 obtain⟨w1,hw1,hb1,hs1,b1⟩:=pro1 w (.cells #[.bool true,.int .i64 32] 178);obtain⟨c0,c1,-,-⟩:=aB b1;have hr:=hI.lt;obtain⟨nr,hnr⟩:∃n,ns[root]? =some n:=⟨_,beX hr⟩;have HB1:=hdd hb1;have HN1:=hdd (dK (hd.below hb1) hnr);have HDW:=hdd hd;have HBAD:=hdd hbad;have HI0:=hdd hI;have HLN:=hdd hd.len;have HNJ:Hid (∀w',Below w.heap.size w w'->Calls Tryz.prog 165 #[.pointer (some ⟨g,0,none⟩),.int .i64 (root:Int),.agg #[.bool true,.int .i64 32]] w' (RetJ w' g root ns)):=hdd fun w' h=>qA (hd.below h) ok hlf hro hr;have HJS:Hid (∀w' j ms l (p:Nat),Below w.heap.size w w'->JG w' j ms g ns l->p∈l->GdAt ns p->Calls Tryz.prog 117 #[.pointer (some ⟨j,0,none⟩),.int .i64 (p:Int)] w' (fun e w''=>e=.returned (.tuple #[.int .i64 (sgT ns p),.nilIface])/\Fr (fun b=>b=ms) w' w''/\JG w'' j ms g ns l)):=hdd fun w' j ms l p h hj hl ⟨a,K,jj,v,hi,hg⟩=>jK hj hl (hd.below h) ok hlf hro hi hg (hT.below h);have HBE:Hid (∀w' b0,Below w.heap.size w w'->w'.heap[b0]? =some (.cells #[.int .i64 (root:Int)] 3 (0,0))->Calls Tryz.prog 153 #[.pointer (some ⟨g,0,none⟩),.slice (some ⟨b0,0,none⟩) 1 1] w' (lV w' ns root)):=hdd fun w' b0 h hb=>gP (hd.below h) ok hr hb
 clear hd ok hlf hro hr hb1 b1 hs1 hnr hI hbad hT;have hst:=aN;go_enter Tryz.func115,Tryz.ntmps115
 go_wp2_with fail
 refine HN1.out.mono ?_;rintro e w2⟨rfl,hb2⟩;obtain⟨w3,hw3,z0,z1,z2,z3,y0,y1,y2,y3,w4,hw4,hb4,hs4⟩:=new4 w2 137 (.int .i64 0) (.float .f64 0) (.int .i64 0) (.int .i64 0) (.int .i64 nr.kind) (.float .f64 nr.val) (.int .i64 nr.a) (.int .i64 nr.b);have h14:=aA hb2 hb4;replace c0:=cbl c0 h14;replace c1:=cbl c1 h14;have HB4:=hdd (HB1.out.trans (h14.mono HB1.out.size));clear hb2 hb4 hs4 h14;go_wp2_with fail
 refine(HNJ.out _ HB4.out).mono ?_;rintro e w5⟨hb5,j,ms,l0,rfl,hms,hms5,hI0,hjp⟩;obtain⟨w6,hw6,hb6,hs6,b6⟩:=pro1 w5 (.cells #[.int .i64 (root:Int)] 3);have h46:=aA hb5 hb6;have HB6:=hdd (HB4.out.trans (h46.mono HB4.out.size));have HJ6:=hdd (hjp.below hb6);have HIL:=hdd hI0;have HM6:Hid (ms<w6.heap.size):=hdd (by have:=hb6.size;omega);have HMS:=hdd (be0 HB4.out.size hms);have HBE6:=hdd (HBE.out w6 _ HB6.out b6);clear hb5 hb6 hs6 b6 h46 hjp hms hms5 hI0 c0 c1 z0 z1 z2 z3 y0 y1 y2 y3 hw3 hw4;go_wp2_with fail
 refine HBE6.out.mono ?_;rintro e w7⟨hb7,v7,l,rfl,hl,hI⟩;obtain⟨bl,cl,rfl,hlc,hcm,-⟩:=id hl;have HL:=hdd hl;have HI:=hdd hI;have HB7:=hdd (HB6.out.trans (hb7.mono HB6.out.size));have HJ7:=hdd (HJ6.out.below hb7);have HMS7:Hid (w.heap.size<=ms):=HMS;have HLL:=hdd (kN hI HLN.out);clear hb7 hl hI hlc hcm hw6;go_wp2_with fail
 go_loopw [37] (fun i wr=>∃k:Nat,k<=l.length/\i=.int .i64 (k:Int)/\Hid (Fr (fun b=>b=ms) w7 wr)/\Hid (JG wr j ms g ns l0)/\Hid (∀i<k,l[i]? ≠some root)) (fun i _=>((l.length:Int)-intOf i).toNat)
 case atStart=>exact⟨0,Nat.zero_le _,rfl,hdd (Fr.of_below (Below.refl _ _)),HJ7,hdd (fun i h=>absurd h (Nat.not_lt_zero _))⟩
 case round=>
  obtain⟨k,hk,rfl,HF,HJR,HNO⟩:=hrel;have HBR:Hid (Below w.heap.size w wr):=hdd (HB7.out.trans (HF.out.below HB7.out.size (fun b hb=>by have:=HMS.out;omega)));rcases Nat.lt_or_ge k l.length with hlt|hge
  . obtain⟨x,hx⟩:∃x,l[k]? =some x:=⟨_,beX hlt⟩
    have hxl:x<ns.length:=HI.out.lt x (be2 hx);obtain⟨n,hn⟩:∃n,ns[x]? =some n:=⟨_,beX hxl⟩;have cx:=(HL.out.fr HF.out (fun b hb=>by have:=HM6.out;omega)).cell hx;have HN:=hdd (dK (HDW.out.below HBR.out) hn);have hkI:(k:Int)<(l.length:Int):=by omega
    have hk0:(0:Int)<=(k:Int):=by omega
    have hlI:(l.length:Int)<=20000:=by have:=HLL.out;omega
    have HKL:=hdd hlt;have hx0:x∈l0:=aeY HI.out HIL.out x (be2 hx);have hkc:=wI (tJ HIL.out HI0.out x hx0) hn;have HCL:Hid (∀o∈opsN n,∃y∈l0,(y:Int)=o):=hdd (HIL.out.cl x hx0 n hn);have HXX:=hdd hx;have HNX:=hdd hn;clear hx hn hxl hlt hx0;rcases hkc with ⟨hk4,hk5⟩|⟨a,b,p,q,rfl,hs,hi⟩|⟨a,p,rfl,hs,hi⟩
    . have HNO2:Hid (∀i<k+1,l[i]? ≠some root):=hdd fun i hi he=>by
       rcases beY.1 hi with h|rfl
       . exact HNO.out i h he
       . rw[HXX.out]at he
         obtain rfl:=be1 he;exact(HBAD.out.op HI0.out HNX.out).elim hk4 hk5
      go_wp2_with fail
      refine HN.out.mono ?_;rintro e w8⟨rfl,hb8⟩;obtain⟨w9,hw9,z0,z1,z2,z3,y0,y1,y2,y3,wa,hwa,hba,hsa⟩:=new4 w8 137 (.int .i64 0) (.float .f64 0) (.int .i64 0) (.int .i64 0) (.int .i64 n.kind) (.float .f64 n.val) (.int .i64 n.a) (.int .i64 n.b);obtain⟨x0,x1,x2,x3⟩:=aY hsa;have HFa:=hdd (HF.out.trans (Fr.of_below (aA hb8 hba)));have HJa:=hdd (HJR.out.below (aA hb8 hba));clear hb8 hba hsa cx;go_wp2_with fail
      go_roundw
      case rel=>exact⟨k+1,by have:=HKL.out;omega,by go_num,HFa,HJa,HNO2⟩
      case measure=>have:=HKL.out;simp[intOf];omega
    . obtain⟨hga,hcs⟩:=HBAD.out.div_case hs hi
      have hq0:q∈l0:=by
       obtain⟨y,hy,e⟩:=HCL.out (q:Int) (by simp[opsN]);have:y=q:=by omega
       rw[<-this];exact hy
      have HGA:=hdd hga;have HQ0:=hdd hq0;clear hga hq0 hs hi;dsimp only at HN;go_wp2_with fail
      refine HN.out.mono ?_;rintro e w8⟨rfl,hb8⟩;obtain⟨w9,hw9,z0,z1,z2,z3,y0,y1,y2,y3,wa,hwa,hba,hsa⟩:=new4 w8 137 (.int .i64 0) (.float .f64 0) (.int .i64 0) (.int .i64 0) (.int .i64 4) (.float .f64 0) (.int .i64 (p:Int)) (.int .i64 (q:Int));obtain⟨x0,x1,x2,x3⟩:=aY hsa;have HFa:=hdd (HF.out.trans (Fr.of_below (aA hb8 hba)));have HJa:=hdd (HJR.out.below (aA hb8 hba));have HBa:=hdd (HBR.out.trans ((aA hb8 hba).mono HBR.out.size));clear hb8 hba hsa cx;go_wp2_with fail
      refine(HJS.out _ _ _ _ q HBa.out HJa.out HQ0.out HGA.out).mono ?_;rintro e wb⟨rfl,hfb,hjb⟩;have HFb:=hdd (HFa.out.trans hfb);have HJb:=hdd hjb;clear hfb hjb x0 x1 x2 x3 z0 z1 z2 z3 y0 y1 y2 y3 hw9 hwa;have HNO2:sgT ns q≠0->Hid (∀i<k+1,l[i]? ≠some root):=fun hsg=>hdd fun i hi he=>by
       rcases beY.1 hi with h|rfl
       . exact HNO.out i h he
       . rw[HXX.out]at he
         obtain rfl:=be1 he;exact hsg (HBAD.out.div_at HI0.out HNX.out)
      generalize sgT ns q=S at*;rcases hcs with ⟨rfl,rfl⟩|hsg
      . have HBb:Hid (Below w.heap.size w wb):=hdd (HB7.out.trans (HFb.out.below HB7.out.size (fun b hb=>by have:=HMS.out;omega)))
        clear HNO2 HFb HJb;go_wp2_with fail
        refine divzero_any.mono ?_;rintro e wc⟨rfl,rfl⟩;go_wp2_with fail
        refine(acD (by omega) (by omega)).mono ?_;rintro e wd⟨er,n,rfl,hn,he,hb4⟩;have HE:=hdd (And.intro hn (he.mono (T:=jW w wd) fun b hb _=>⟨be0 HBb.out.size hb.1,hb.2⟩));have HBd:=hdd (aA HBb.out hb4);clear hn he hb4;go_wp2
        go_ret2
        exact⟨_,_,rfl,HE.out.1,HE.out.2,HBd.out⟩
      . have HNO3:=HNO2 (by omega)
        clear HNO2;go_wp2_with fail
        go_roundw
        case rel=>exact⟨k+1,by have:=HKL.out;omega,by go_num,HFb,HJb,HNO3⟩
        case measure=>have:=HKL.out;simp[intOf];omega
    . obtain⟨hga,hcs⟩:=HBAD.out.root_case hs hi
      have hq0:p∈l0:=by
       obtain⟨y,hy,e⟩:=HCL.out (p:Int) (by simp[opsN]);have:y=p:=by omega
       rw[<-this];exact hy
      have HGA:=hdd hga;have HQ0:=hdd hq0;clear hga hq0 hs hi;dsimp only at HN;go_wp2_with fail
      refine HN.out.mono ?_;rintro e w8⟨rfl,hb8⟩;obtain⟨w9,hw9,z0,z1,z2,z3,y0,y1,y2,y3,wa,hwa,hba,hsa⟩:=new4 w8 137 (.int .i64 0) (.float .f64 0) (.int .i64 0) (.int .i64 0) (.int .i64 5) (.float .f64 0) (.int .i64 (p:Int)) (.int .i64 0);obtain⟨x0,x1,x2,x3⟩:=aY hsa;have HFa:=hdd (HF.out.trans (Fr.of_below (aA hb8 hba)));have HJa:=hdd (HJR.out.below (aA hb8 hba));have HBa:=hdd (HBR.out.trans ((aA hb8 hba).mono HBR.out.size));clear hb8 hba hsa cx;go_wp2_with fail
      refine(HJS.out _ _ _ _ p HBa.out HJa.out HQ0.out HGA.out).mono ?_;rintro e wb⟨rfl,hfb,hjb⟩;have HFb:=hdd (HFa.out.trans hfb);have HJb:=hdd hjb;clear hfb hjb x0 x1 x2 x3 z0 z1 z2 z3 y0 y1 y2 y3 hw9 hwa;have HNO2:¬sgT ns p<0->Hid (∀i<k+1,l[i]? ≠some root):=fun hsg=>hdd fun i hi he=>by
       rcases beY.1 hi with h|rfl
       . exact HNO.out i h he
       . rw[HXX.out]at he
         obtain rfl:=be1 he;exact hsg (HBAD.out.root_at HI0.out HNX.out)
      generalize sgT ns p=S at*;rcases hcs with ⟨hneg,rfl⟩|hsg
      . have HBb:Hid (Below w.heap.size w wb):=hdd (HB7.out.trans (HFb.out.below HB7.out.size (fun b hb=>by have:=HMS.out;omega)))
        clear HNO2 HFb HJb;go_wp2_with fail
        refine negroot_any.mono ?_;rintro e wc⟨rfl,rfl⟩;go_wp2_with fail
        refine(acD (by omega) (by omega)).mono ?_;rintro e wd⟨er,n,rfl,hn,he,hb4⟩;have HE:=hdd (And.intro hn (he.mono (T:=jW w wd) fun b hb _=>⟨be0 HBb.out.size hb.1,hb.2⟩));have HBd:=hdd (aA HBb.out hb4);clear hn he hb4;go_wp2
        go_ret2
        exact⟨_,_,rfl,HE.out.1,HE.out.2,HBd.out⟩
      . have HNO3:=HNO2 (by omega)
        clear HNO2;go_wp2_with fail
        go_roundw
        case rel=>exact⟨k+1,by have:=HKL.out;omega,by go_num,HFb,HJb,HNO3⟩
        case measure=>have:=HKL.out;simp[intOf];omega
  . have hke:k=l.length:=by omega
    subst hke;obtain⟨i,hi⟩:=List.mem_iff_getElem?.1 HI.out.rt;exact absurd hi (HNO.out i (List.getElem?_eq_some_iff.1 hi).1)
theorem acE{w:World}{g root:Nat}{ns:List Nd}(hd:DagP w g ns)(ok:OkNs ns)(hlf:fP ns)(hro:fQ ns)(hI:Is ns e0 root)(hbad:BadE e0 kk)(hT:Tab w):
 Calls Tryz.prog 68 #[.pointer (some ⟨g,0,none⟩),.int .i64 (root:Int),.slice none 0 0] w (wJ w (.int .i64 0) kk):=by
 have HEX:Hid (∀w',Below w.heap.size w w'->Calls Tryz.prog 115 #[.pointer (some ⟨g,0,none⟩),.int .i64 (root:Int),.agg #[.bool true,.int .i64 32]] w' (wJ w' (.pointer none) kk)):=hdd fun w' h=>aaA (hd.below h) ok hlf hro hI hbad (hT.below h);clear hd ok hlf hro hI hbad hT;go_enter Tryz.func68,Tryz.ntmps68
 go_wp2_with fail
 refine chosen_any.mono ?_;rintro e w1⟨rfl,hb1⟩;have HB1:=hdd hb1;clear hb1;go_wp2_with fail
 refine(HEX.out _ HB1.out).mono ?_;rintro e w2⟨er,n,rfl,hn,he,hb2⟩;obtain⟨vt,vx,rfl⟩:=he.iface;have HE:=hdd (And.intro hn (he.mono (T:=jW w w2) fun b hb _=>⟨be0 HB1.out.size hb.1,hb.2⟩));have HB2:=hdd (aA HB1.out hb2);clear hn he hb2 HEX;go_wp2
 go_ret2
 exact⟨_,_,rfl,HE.out.1,HE.out.2,HB2.out⟩
end
section
open Go.RowKit Go.Maps
open Re (rat ofI ofN)
variable{P:Ex->Prop}{ns:List Nd}{K j:Nat}{v:Re}
theorem aeZ(h:AllIs P ns):OkNs ns:=by
 intro i n hn;rcases h.before hn with ⟨h0,-⟩|⟨hk,-,a,b,h1,h2,h3,h4⟩|⟨h5,-,-,a,h1,h2⟩
 . exact⟨Or.inl h0,fun o ho=>by simp[opsN,h0]at ho⟩
 . refine⟨Or.inr (Or.inr (by rcases hk with h|h|h|h<;>omega)),fun o ho=> ?_⟩
   have:n.kind≠0/\n.kind≠5:=by rcases hk with h|h|h|h<;>omega
   simp only[opsN,this.1,this.2,if_false,List.mem_cons,List.not_mem_nil,or_false]at ho;rcases ho with rfl|rfl<;>omega
 . refine⟨Or.inr (Or.inl h5),fun o ho=> ?_⟩
   have:n.kind≠0:=by omega
   rw[show opsN n=[n.a] from by unfold opsN;rw[if_neg this,if_pos h5]]at ho;simp only[List.mem_cons,List.not_mem_nil,or_false]at ho;omega
theorem yE(h:AllIs P ns):fP ns:=by
 intro i n hn h0;rcases h.before hn with ⟨-,h1,h2⟩|⟨hk,-⟩|⟨h5,-⟩
 . exact⟨h1,h2⟩
 . rcases hk with h|h|h|h<;>omega
 . omega
theorem yF(h:AllIs P ns):fQ ns:=by
 intro i n hn h0;rcases h.before hn with ⟨h1,-⟩|⟨hk,-⟩|⟨-,-,h2,-⟩
 . omega
 . rcases hk with h|h|h|h<;>omega
 . exact h2
theorem akB{x:Ex}(hG:Gd K j x v)(hA:AllGd x):gM P x (Re.sgn v):=
 fun B N w g k ns hs hi=>acC hs.dag (aeZ hs.all) (yE hs.all) (yF hs.all) hi hG hA hs.tab
theorem AllGd.leaf (v:Nat):AllGd (.leaf v):=⟨fun a b h=>(by cases h),fun a h=>(by cases h)⟩
theorem AllGd.add {a b:Ex}(h:AllGd a)(k:AllGd b):AllGd (.add a b):=
 ⟨fun x y s=>by cases s with|addL s=>exact h.1 x y s|addR s=>exact k.1 x y s,fun x s=>by cases s with|addL s=>exact h.2 x s|addR s=>exact k.2 x s⟩
theorem AllGd.sub {a b:Ex}(h:AllGd a)(k:AllGd b):AllGd (.sub a b):=
 ⟨fun x y s=>by cases s with|subL s=>exact h.1 x y s|subR s=>exact k.1 x y s,fun x s=>by cases s with|subL s=>exact h.2 x s|subR s=>exact k.2 x s⟩
theorem AllGd.root {a:Ex}(h:AllGd a)(hG:Gd K j a v):AllGd (.root a):=
 ⟨fun x y s=>by cases s with|root s=>exact h.1 x y s,fun x s=>by cases s with|refl=>exact⟨_,_,_,hG⟩|root s=>exact h.2 x s⟩
section
variable{L:List Ex}{a b:Ex}{x y z:Re}{k m n:Nat}
end
section
variable{L:List Ex}{b:Nat}{x:Int}
end
end
section
open Go.RowKit Go.Maps Go.Stop Go.Extern
def anJ(w:World)(v:Value)(k:Int)(e:Ending)(w':World):Prop:=∃er n,e=.returned (.tuple #[v,er])/\n<=1500/\ErK (jW w w') w' n er k/\Below w.heap.size w w'
section
variable{s:Bs}{g N i:Nat}{K:List (Ex×Nat)}{l lr:List (Nat×Obj)}{W:World}{x:Ex}{q kk:Int}
theorem Run.signB (h:Run s g N K l W)(hx:(x,i)∈K)(hS:gM PT x q):Calls Tryz.prog 24 #[numV g i] W (RetS W q):=by
 obtain⟨ns,hs,hK⟩:=h;exact vD hs.st (hK _ hx) hS
theorem Run.signBad (h:Run s g N K l W)(hx:(x,i)∈K)(hb:BadE x kk):Calls Tryz.prog 24 #[numV g i] W (anJ W (.int .i64 0) kk):=by
 obtain⟨ns,hs,hK⟩:=h;replace hs:=hs.st;have hI:=hK _ hx;obtain⟨w1,hw1,hb1,hs1,b1⟩:=pro1 W (.cells #[.pointer (some ⟨g,0,none⟩),.int .i64 (i:Int)] 26);obtain⟨c0,c1,-,-⟩:=aB b1;have HV:=hdd (kK (hs.dag.below hb1) hI.lt);have HS:Hid (∀w',Below W.heap.size W w'->Calls Tryz.prog 68 #[.pointer (some ⟨g,0,none⟩),.int .i64 (i:Int),.slice none 0 0] w' (wJ w' (.int .i64 0) kk)):=hdd fun w' h=>acE (hs.dag.below h) (aeZ hs.all) (yE hs.all) (yF hs.all) hI hb (hs.tab.below h);have HB:=hdd hb1;clear hs hI hK hx hb hb1 hs1 b1;go_enter Tryz.func24,Tryz.ntmps24
 go_wp2_with fail
 refine HV.out.mono ?_;rintro e w2⟨rfl,hb2⟩;replace c0:=cbl c0 hb2;replace c1:=cbl c1 hb2;have HB2:=hdd (aA HB.out hb2);clear hb2;go_wp2_with fail
 refine(HS.out _ HB2.out).mono ?_;rintro e w3⟨er,n,rfl,hn,he,hb3⟩;obtain⟨vt,vx,rfl⟩:=he.iface;have HB3:=hdd (aA HB2.out hb3);have HNN:=hdd hn;have HI:Hid (∀s,Calls Tryz.prog 51 #[.string s,.iface vt vx] w3 (fun e w'=>∃er,e=.returned er/\ErK (fun b=>jW w2 w3 b\/jW w3 w' b) w' (n+1) er kk/\Below w3.heap.size w3 w')):=hdd fun s=>aj9 he;have HSZ:=hdd hb3.size;clear hn he hb3 HS HV;go_wp2_with fail
 refine(HI.out _).mono ?_;rintro e w4⟨er2,rfl,h1,h2⟩;obtain⟨ut,ux,rfl⟩:=h1.iface;have HF:=hdd (h1.mono (T:=jW W w4) fun b hb _=>by
  have k1:=HB2.out.size;have k2:=HSZ.out;have k3:=h2.size;rcases hb with hb|hb
  . exact⟨Nat.le_trans k1 hb.1,Nat.lt_of_lt_of_le hb.2 k3⟩
  . exact⟨Nat.le_trans (Nat.le_trans k1 k2) hb.1,hb.2⟩)
 have HB4:=hdd (aA HB3.out h2);clear h1 h2 HI;go_wp2
 go_ret2
 exact⟨_,n+1,rfl,by have:=HNN.out;omega,HF.out,HB4.out⟩
end
def nQ(W:World)(f:Value->Value)(j k:Int)(e:Ending)(W':World):Prop:=
 ∃b n,e=.returned (f (.iface 117 (.pointer (some ⟨b,0,none⟩))))/\n<=2000/\ErK (fun _=>True) W' n (.iface 117 (.pointer (some ⟨b,0,none⟩))) k/\W'.cell? ⟨b,0,none⟩=some (.int .i64 j)/\Below W.heap.size W W'
theorem ae0{W0 W:World}{S:Nat->Prop}{n:Nat}{t:TypeId}{v:Value}{j k:Int}(h:ErK S W n (.iface t v) k)(hn:n<=1999)(hb:Below W0.heap.size W0 W):Calls Tryz.prog 72 #[.int .i64 j,.iface t v] W (nQ W0 id j k):=by
 have hal:=Below.alloc (Below.refl W.heap.size W) nlr (.cells #[.int .i64 j,.iface t v] 123);have HF:Hid (nQ W0 id j k (.returned (.iface 117 (.pointer (some ⟨W.heap.size,0,none⟩)))) (W.alloc (.cells #[.int .i64 j,.iface t v] 123))):=hdd ⟨_,n+1,rfl,by omega,.att trivial (by simp) ((h.low hal).mono fun _ _ _=>trivial),by simp,aA hb hal⟩;clear h hn hb hal;go_enter Tryz.func72,Tryz.ntmps72
 go_wp2;go_ret;exact HF.out
section
variable{s:Bs}{g N b c j:Nat}{K:List (Ex×Nat)}{l lr:List (Nat×Obj)}{W:World}{v:Value}{ids:List Nat}{sp:List Value}{kk:Int}
def qB(K:List (Ex×Nat))(ids:List Nat)(j:Nat)(kk:Int):Prop:=(∀m k,m<j->ids[m]? =some k->∃x q,(x,k)∈K/\gM PT x q)/\∃k x,ids[j]? =some k/\(x,k)∈K/\BadE x kk
theorem ag3(hR:Run s g N K l W)(hm:(b,.cells (numL g ids++sp).toArray 26)∈l)(hl:ids.length<=100)(hq:qB K ids j kk):
 Calls Tryz.prog 71 #[.slice (some ⟨b,0,none⟩) ids.length c] W (nQ W id j kk):=by
 have HR:=hdd hR;have HQ:=hdd hq;have HM:=hdd hm;have hj:j<ids.length:=by obtain⟨k,x,h,-⟩:=hq.2;exact(List.getElem?_eq_some_iff.1 h).1
 have HJ:=hdd hj;have hlI:(ids.length:Int)<=100:=by omega
 clear hR hq hm hj;go_enter Tryz.func71,Tryz.ntmps71
 go_wp2_with fail
 go_loopw [9] (fun i wr=>∃m:Nat,m<=j/\i=.int .i64 (m:Int)/\Hid (Below W.heap.size W wr)) (fun i _=>((j:Int)-intOf i).toNat)
 case atStart=>exact⟨0,Nat.zero_le _,rfl,hdd (Below.refl _ _)⟩
 case round=>
  obtain⟨m,hmj,rfl,HF⟩:=hrel;obtain⟨x,hx⟩:∃x,ids[m]? =some x:=⟨_,List.getElem?_eq_getElem (by have:=HJ.out;omega)⟩;have R1:=hdd (HR.out.step HF.out);obtain⟨x0,x1⟩:=row_in R1.out HM.out hx;have hkI:(m:Int)<(ids.length:Int):=by have:=HJ.out;omega
  have hk0:(0:Int)<=(m:Int):=by omega
  have R2:=R1.out.alloc (.cells #[.pointer (some ⟨g,0,none⟩),.int .i64 (x:Int)] 26);have HB2:=hdd (aA HF.out (Below.alloc (Below.refl wr.heap.size wr) nlr (.cells #[.pointer (some ⟨g,0,none⟩),.int .i64 (x:Int)] 26)));rcases Nat.lt_or_ge m j with hlt|hge
  . obtain⟨ex,q,he,hS⟩:=HQ.out.1 m x hlt hx
    have HLT:=hdd hlt;have HC:=hdd (R2.signB he hS);clear hx he hS R2 hlt hmj;go_wp2_with fail
    refine HC.out.mono ?_;rintro e2 w2⟨rfl,hb2⟩;have HF2:=hdd (aA HB2.out hb2);clear hb2 HC x0 x1 R1 HF HB2;go_wp2_with fail
    go_roundw
    case rel=>exact⟨m+1,by have:=HLT.out;omega,by go_num,HF2⟩
    case measure=>have:=HLT.out;simp[intOf];omega
  . obtain rfl:m=j:=by omega
    obtain⟨k,ex,hk,he,hB⟩:=HQ.out.2;rw[hx]at hk;obtain rfl:=Option.some.inj hk;have HC:=hdd (R2.signBad he hB);clear hx he hB R2 hge hmj hk;go_wp2_with fail
    refine HC.out.mono ?_;rintro e2 w2⟨er,n,rfl,hn,hE,hb2⟩;obtain⟨vt,vx,rfl⟩:=hE.iface;have HN2:=hdd (ae0 (W0:=W) (j:=(m:Int)) hE (by omega) (aA HB2.out hb2));clear hn hE hb2 HC x0 x1 R1 HF HB2;go_wp2_with fail
    refine HN2.out.mono ?_;rintro e3 w3⟨b3,n3,rfl,h1,h2,h3,h4⟩;have HF3:=hdd (show nQ W id m kk (.returned (.iface 117 (.pointer (some ⟨b3,0,none⟩)))) w3 from⟨b3,n3,rfl,h1,h2,h3,h4⟩);clear h1 h2 h3 h4 HN2;go_wp2;go_ret;exact HF3.out
theorem yG(hR:Run s g N K l W)(hm:(b,.cells (numL g ids++sp).toArray 26)∈l)(hl:ids.length<=100)(hq:qB K ids j kk):
 Calls Tryz.prog 27 #[.slice (some ⟨b,0,none⟩) ids.length c] W (nQ W (fun v=>.tuple #[.slice none 0 0,v]) j kk):=by
 have HS:=hdd (ag3 (c:=c) hR hm hl hq);clear hR hm hq;go_enter Tryz.func27,Tryz.ntmps27
 go_wp2_with fail
 refine HS.out.mono ?_;rintro e w2⟨b3,n3,rfl,h1,h2,h3,h4⟩;have HF:=hdd (show nQ W (fun v=>.tuple #[.slice none 0 0,v]) j kk (.returned (.tuple #[.slice none 0 0,.iface 117 (.pointer (some ⟨b3,0,none⟩))])) w2 from⟨b3,n3,rfl,h1,h2,h3,h4⟩);clear h1 h2 h3 h4 HS;dsimp only[id];go_wp2
 go_ret2
 exact HF.out
theorem adR(hR:Run s g N K l W)(hm:(b,.cells (numL g ids++sp).toArray 26)∈l)(hl:ids.length<=100)(hq:qB K ids j kk):
 Calls Tryz.prog 28 #[.slice (some ⟨b,0,none⟩) ids.length c] W (nQ W (fun v=>.tuple #[.slice none 0 0,v]) j kk):=by
 have HS:=hdd (yG (c:=c) hR hm hl hq);clear hR hm hq;go_enter Tryz.func28,Tryz.ntmps28
 go_wp2_with fail
 refine HS.out.mono ?_;rintro e w2⟨b3,n3,rfl,h1,h2,h3,h4⟩;have HF:=hdd (show nQ W (fun v=>.tuple #[.slice none 0 0,v]) j kk (.returned (.tuple #[.slice none 0 0,.iface 117 (.pointer (some ⟨b3,0,none⟩))])) w2 from⟨b3,n3,rfl,h1,h2,h3,h4⟩);clear h1 h2 h3 h4 HS;dsimp only;go_wp2
 go_ret2
 exact HF.out
end
theorem rank_none{W:World}{v:Value}:Calls Tryz.prog 30 #[.agg #[.pointer none,.int .i64 0],v] W (nQ W (fun v=>.tuple #[.int .i64 0,.int .i64 0,v]) (-1) 1):=by
 obtain⟨w1,hw1,hb1,hs1,b1⟩:=pro1 W (.cells #[.pointer none,.int .i64 0] 26);obtain⟨c0,c1,-,-⟩:=aB b1;have HC:=hdd (akA (w:=w1) (v:=.agg #[.pointer none,.int .i64 0]) (.inl ⟨0,rfl⟩));have HB:=hdd hb1;clear hb1 hs1 b1;go_enter Tryz.func30,Tryz.ntmps30
 go_wp2_with fail
 refine HC.out.mono ?_;rintro e w2⟨er,n,rfl,hn,hE,hb2⟩;obtain⟨vt,vx,rfl⟩:=hE.iface;have HN2:=hdd (ae0 (W0:=W) (j:=-1) hE (by omega) (aA HB.out hb2));clear hn hE hb2 HC c0 c1 HB;go_wp2_with fail
 refine HN2.out.mono ?_;rintro e3 w3⟨b3,n3,rfl,h1,h2,h3,h4⟩;have HF:=hdd (show nQ W (fun v=>.tuple #[.int .i64 0,.int .i64 0,v]) (-1) 1 (.returned (.tuple #[.int .i64 0,.int .i64 0,.iface 117 (.pointer (some ⟨b3,0,none⟩))])) w3 from⟨b3,n3,rfl,h1,h2,h3,h4⟩);clear h1 h2 h3 h4 HN2;dsimp only[id];go_wp2;exact bodyPost_ret (v:=.tuple #[.int .i64 0,.int .i64 0,.iface 117 (.pointer (some ⟨b3,0,none⟩))]) (by simp[results,Tryz.results30,go_sem]) rfl HF.out
end
end Go.Proofs.YtkpodipoegbclaaGreatDoor
