/- A part of the proof: contracts of functions and plain laws (SgC, SgD, FtA, FeA, SymA, SymB, SymK, SymC, SpE, QlA, FtB, DgA, RlN, ScM). -/
import Derived.Test.YtigoiiekebccnaaGreatDoorK32
import Derived.Test.YtigoiiekebccnaaGreatDoorK19
import Derived.Test.YtigoiiekebccnaaGreatDoorK08
import Derived.Test.YtigoiiekebccnaaGreatDoorK01
import Derived.RegionTactic
import Derived.Test.YtigoiiekebccnaaGreatDoorK18
import Derived.Deep.Cut
import Derived.Deep.DeepCutAuto
import Derived.Test.YtigoiiekebccnaaGreatDoorK20
set_option linter.unusedVariables false
set_option linter.unusedSimpArgs false
set_option linter.unnecessarySimpa false
set_option maxHeartbeats 25600000
set_option maxRecDepth 100000
namespace Go.Proofs.YtigoiiekebccnaaGreatDoor
section
open Go.RowKit Go.Maps
open List renaming getElem?_eq_getElem->bhZ,mem_of_getElem?->bh0
variable{a e e0:Ex}{ns:List Nd}{g q:Nat}{v:Re}{w:World}
def GdAt(ns:List Nd)(i:Nat):Prop:=∃a K j v,Is ns a i/\Gd K j a v
theorem ad8{x:Nat}{n:Nd}(hp:Part ns e x)(hn:ns[x]? =some n):
 (n.kind≠4/\n.kind≠5)\/(∃a b,∃p q:Nat,n=⟨4,0,p,q⟩/\SubE (.div a b) e/\Is ns b q)\/(∃a,∃p:Nat,n=⟨5,0,p,0⟩/\SubE (.root a) e/\Is ns a p):=by
 obtain⟨a',hs,hi⟩:=hp
 cases a' with
 |leaf v=>have hi:ns[x]? =some ⟨0,v,0,0⟩:=hi;rw[hn]at hi;cases hi;exact Or.inl ⟨show(0:Int)≠4 by decide,show(0:Int)≠5 by decide⟩
 |add a b=>obtain⟨p,q,h,-⟩:=hi;rw[hn]at h;cases h;exact Or.inl ⟨show(1:Int)≠4 by decide,show(1:Int)≠5 by decide⟩
 |sub a b=>obtain⟨p,q,h,-⟩:=hi;rw[hn]at h;cases h;exact Or.inl ⟨show(2:Int)≠4 by decide,show(2:Int)≠5 by decide⟩
 |mul a b=>obtain⟨p,q,h,-⟩:=hi;rw[hn]at h;cases h;exact Or.inl ⟨show(3:Int)≠4 by decide,show(3:Int)≠5 by decide⟩
 |div a b=>obtain⟨p,q,h,-,-,-,h5⟩:=hi;rw[hn]at h;cases h;exact Or.inr (Or.inl ⟨a,b,p,q,rfl,hs,h5⟩)
 |root a=>obtain⟨p,h,-,h3⟩:=hi;rw[hn]at h;cases h;exact Or.inr (Or.inr ⟨a,p,rfl,hs,h3⟩)
theorem anG{b:Ex}(hd:DenR e v)(hg:AllGd e)(hs:SubE (.div a b) e)(hi:Is ns b q):GdAt ns q/\sgT ns q≠0:=by
 obtain⟨K,j,u,hu⟩:=hg.1 a b hs;refine⟨⟨b,K,j,u,hi,hu⟩,?_⟩;rw[aaD hi hu.den];obtain⟨t,ht⟩:=hs.den hd
 cases ht with
 |div h1 h2 h0 hz=>rw[hu.den.uniq h2];exact fun h=>h0 (Re.sgn_eq_zero.1 h)
theorem alG(hd:DenR e v)(hg:AllGd e)(hs:SubE (.root a) e)(hi:Is ns a q):GdAt ns q/\¬sgT ns q<0:=by
 obtain⟨K,j,u,hu⟩:=hg.2 a hs;refine⟨⟨a,K,j,u,hi,hu⟩,?_⟩;rw[aaD hi hu.den];obtain⟨t,ht⟩:=hs.den hd
 cases ht with
 |root h1 h0 hz=>
  rw[hu.den.uniq h1];have:(0:Re)<=_:=Re.mul_nonneg h0 h0;rw[hz]at this;rcases Re.sgn_cases _ with ⟨-,h⟩|⟨-,h⟩|⟨h,-⟩
  . rw[h];decide
  . rw[h];decide
  . exact absurd h (Re.not_lt.2 this)
theorem anH{root:Nat}{l m:List Nat}(hl:IsB ns root l)(hm:IsB ns root m):∀x∈l,x∈m:=by
 refine hl.mn (fun x=>x∈m) ?_ hm.rt;intro x n hx hn o ho;obtain⟨y,hy,e⟩:=hm.cl x hx n hn o ho;rw[<-e,Int.toNat_natCast];exact hy
def alH(w:World)(g root:Nat)(ns:List Nd)(e:Ending)(w':World):Prop:=Below w.heap.size w w'/\∃j ms l,e=.returned (.tuple #[.pointer (some ⟨j,0,none⟩),.nilIface])/\w.heap.size<=ms/\IsB ns root l/\JG w' j ms g ns l
theorem aaF{root:Nat}{v0:Re}(hd:DagP w g ns)(ok:OkNs ns)(hlf:gT ns)(hro:gW ns)(hI:Is ns e0 root)(hde:DenR e0 v0)(hgd:AllGd e0)(hT:Tab w):
 Calls Tryz.prog 193 #[.pointer (some ⟨g,0,none⟩),.int .i64 (root:Int),.agg #[.bool true,.int .i64 32]] w (alH w g root ns):=by
 obtain⟨w1,hw1,hb1,hs1,b1⟩:=pro1 w (.cells #[.bool true,.int .i64 32] 285);obtain⟨c0,c1,-,-⟩:=aB b1;have hr:=hI.lt;obtain⟨nr,hnr⟩:∃n,ns[root]? =some n:=⟨_,bhZ hr⟩;have HB1:=hdd hb1;have HN1:=hdd (eP (hd.below hb1) hnr);have HDW:=hdd hd;have HDE:=hdd hde;have HGD:=hdd hgd;have HI0:=hdd hI;have HLN:=hdd hd.len;have HNJ:Hid (∀w',Below w.heap.size w w'->Calls Tryz.prog 247 #[.pointer (some ⟨g,0,none⟩),.int .i64 (root:Int),.agg #[.bool true,.int .i64 32]] w' (RetJ w' g root ns)):=hdd fun w' h=>aaE (hd.below h) ok hlf hro hr;have HJS:Hid (∀w' j ms l (p:Nat),Below w.heap.size w w'->JG w' j ms g ns l->p∈l->GdAt ns p->Calls Tryz.prog 195 #[.pointer (some ⟨j,0,none⟩),.int .i64 (p:Int)] w' (fun e w''=>e=.returned (.tuple #[.int .i64 (sgT ns p),.nilIface])/\Fr (fun b=>b=ms) w' w''/\JG w'' j ms g ns l)):=hdd fun w' j ms l p h hj hl ⟨a,K,jj,v,hi,hg⟩=>mQ hj hl (hd.below h) ok hlf hro hi hg (hT.below h);have HBE:Hid (∀w' b0,Below w.heap.size w w'->w'.heap[b0]? =some (.cells #[.int .i64 (root:Int)] 3 (0,0))->Calls Tryz.prog 248 #[.pointer (some ⟨g,0,none⟩),.slice (some ⟨b0,0,none⟩) 1 1] w' (pR w' ns root)):=hdd fun w' b0 h hb=>jC (hd.below h) ok hr hb
 clear hd ok hlf hro hr hb1 b1 hs1 hnr hI hde hgd hT;have hst:=aU;go_enter Tryz.func193,Tryz.ntmps193
 go_wp2_with fail
 refine HN1.out.mono ?_;rintro e w2⟨rfl,hb2⟩;obtain⟨w3,hw3,z0,z1,z2,z3,y0,y1,y2,y3,w4,hw4,hb4,hs4⟩:=new4 w2 206 (.int .i64 0) (.float .f64 0) (.int .i64 0) (.int .i64 0) (.int .i64 nr.kind) (.float .f64 nr.val) (.int .i64 nr.a) (.int .i64 nr.b);have h14:=aA hb2 hb4;replace c0:=cbl c0 h14;replace c1:=cbl c1 h14;have HB4:=hdd (HB1.out.trans (h14.mono HB1.out.size));clear hb2 hb4 hs4 h14;go_wp2_with fail
 refine(HNJ.out _ HB4.out).mono ?_;rintro e w5⟨hb5,j,ms,l0,rfl,hms,hms5,hI0,hjp⟩;obtain⟨w6,hw6,hb6,hs6,b6⟩:=pro1 w5 (.cells #[.int .i64 (root:Int)] 3);have h46:=aA hb5 hb6;have HB6:=hdd (HB4.out.trans (h46.mono HB4.out.size));have HJ6:=hdd (hjp.below hb6);have HIL:=hdd hI0;have HM6:Hid (ms<w6.heap.size):=hdd (by have:=hb6.size;omega);have HMS:=hdd (Nat.le_trans HB4.out.size hms);have HBE6:=hdd (HBE.out w6 _ HB6.out b6);clear hb5 hb6 hs6 b6 h46 hjp hms hms5 hI0 c0 c1 z0 z1 z2 z3 y0 y1 y2 y3 hw3 hw4;go_wp2_with fail
 refine HBE6.out.mono ?_;rintro e w7⟨hb7,v7,l,rfl,hl,hI⟩;obtain⟨bl,cl,rfl,hlc,hcm,-⟩:=id hl;have HL:=hdd hl;have HI:=hdd hI;have HB7:=hdd (HB6.out.trans (hb7.mono HB6.out.size));have HJ7:=hdd (HJ6.out.below hb7);have HMS7:Hid (w.heap.size<=ms):=HMS;have HLL:=hdd (mM hI HLN.out);clear hb7 hl hI hlc hcm hw6;go_wp2_with fail
 go_loopw [37] (fun i wr=>∃k:Nat,k<=l.length/\i=.int .i64 (k:Int)/\Hid (Fr (fun b=>b=ms) w7 wr)/\Hid (JG wr j ms g ns l0)) (fun i _=>((l.length:Int)-intOf i).toNat)
 case atStart=>exact⟨0,Nat.zero_le _,rfl,hdd (Fr.of_below (Below.refl _ _)),HJ7⟩
 case round=>
  obtain⟨k,hk,rfl,HF,HJR⟩:=hrel;have HBR:Hid (Below w.heap.size w wr):=hdd (HB7.out.trans (HF.out.below HB7.out.size (fun b hb=>by have:=HMS.out;omega)));rcases Nat.lt_or_ge k l.length with hlt|hge
  . obtain⟨x,hx⟩:∃x,l[k]? =some x:=⟨_,bhZ hlt⟩
    have hxl:x<ns.length:=HI.out.lt x (bh0 hx);obtain⟨n,hn⟩:∃n,ns[x]? =some n:=⟨_,bhZ hxl⟩;have cx:=(HL.out.fr HF.out (fun b hb=>by have:=HM6.out;omega)).cell hx;have HN:=hdd (eP (HDW.out.below HBR.out) hn);have hkI:(k:Int)<(l.length:Int):=by omega
    have hk0:(0:Int)<=(k:Int):=by omega
    have hlI:(l.length:Int)<=20000:=by have:=HLL.out;omega
    have HKL:=hdd hlt;have hx0:x∈l0:=anH HI.out HIL.out x (bh0 hx);have hkc:=ad8 (afN HIL.out HI0.out x hx0) hn;have HCL:Hid (∀o∈opsN n,∃y∈l0,(y:Int)=o):=hdd (HIL.out.cl x hx0 n hn);clear hx hn hxl hlt hx0;rcases hkc with ⟨hk4,hk5⟩|⟨a,b,p,q,rfl,hs,hi⟩|⟨a,p,rfl,hs,hi⟩
    . go_wp2_with fail
      refine HN.out.mono ?_;rintro e w8⟨rfl,hb8⟩;obtain⟨w9,hw9,z0,z1,z2,z3,y0,y1,y2,y3,wa,hwa,hba,hsa⟩:=new4 w8 206 (.int .i64 0) (.float .f64 0) (.int .i64 0) (.int .i64 0) (.int .i64 n.kind) (.float .f64 n.val) (.int .i64 n.a) (.int .i64 n.b);obtain⟨x0,x1,x2,x3⟩:=bP hsa;have HFa:=hdd (HF.out.trans (Fr.of_below (aA hb8 hba)));have HJa:=hdd (HJR.out.below (aA hb8 hba));clear hb8 hba hsa cx;go_wp2_with fail
      go_roundw
      case rel=>exact⟨k+1,by have:=HKL.out;omega,by go_num,HFa,HJa⟩
      case measure=>have:=HKL.out;simp[intOf];omega
    . obtain⟨hga,hsg⟩:=anG HDE.out HGD.out hs hi
      have hq0:q∈l0:=by
       obtain⟨y,hy,e⟩:=HCL.out (q:Int) (by simp[opsN]);have:y=q:=by omega
       rw[<-this];exact hy
      have HGA:=hdd hga;have HQ0:=hdd hq0;clear hga hq0 hs hi;dsimp only at HN;go_wp2_with fail
      refine HN.out.mono ?_;rintro e w8⟨rfl,hb8⟩;obtain⟨w9,hw9,z0,z1,z2,z3,y0,y1,y2,y3,wa,hwa,hba,hsa⟩:=new4 w8 206 (.int .i64 0) (.float .f64 0) (.int .i64 0) (.int .i64 0) (.int .i64 4) (.float .f64 0) (.int .i64 (p:Int)) (.int .i64 (q:Int));obtain⟨x0,x1,x2,x3⟩:=bP hsa;have HFa:=hdd (HF.out.trans (Fr.of_below (aA hb8 hba)));have HJa:=hdd (HJR.out.below (aA hb8 hba));have HBa:=hdd (HBR.out.trans ((aA hb8 hba).mono HBR.out.size));clear hb8 hba hsa cx;go_wp2_with fail
      refine(HJS.out _ _ _ _ q HBa.out HJa.out HQ0.out HGA.out).mono ?_;rintro e wb⟨rfl,hfb,hjb⟩;have HFb:=hdd (HFa.out.trans hfb);have HJb:=hdd hjb;clear hfb hjb x0 x1 x2 x3 z0 z1 z2 z3 y0 y1 y2 y3 hw9 hwa;generalize sgT ns q=S at*;go_wp2_with fail
      go_roundw
      case rel=>exact⟨k+1,by have:=HKL.out;omega,by go_num,HFb,HJb⟩
      case measure=>have:=HKL.out;simp[intOf];omega
    . obtain⟨hga,hsg⟩:=alG HDE.out HGD.out hs hi
      have hq0:p∈l0:=by
       obtain⟨y,hy,e⟩:=HCL.out (p:Int) (by simp[opsN]);have:y=p:=by omega
       rw[<-this];exact hy
      have HGA:=hdd hga;have HQ0:=hdd hq0;clear hga hq0 hs hi;dsimp only at HN;go_wp2_with fail
      refine HN.out.mono ?_;rintro e w8⟨rfl,hb8⟩;obtain⟨w9,hw9,z0,z1,z2,z3,y0,y1,y2,y3,wa,hwa,hba,hsa⟩:=new4 w8 206 (.int .i64 0) (.float .f64 0) (.int .i64 0) (.int .i64 0) (.int .i64 5) (.float .f64 0) (.int .i64 (p:Int)) (.int .i64 0);obtain⟨x0,x1,x2,x3⟩:=bP hsa;have HFa:=hdd (HF.out.trans (Fr.of_below (aA hb8 hba)));have HJa:=hdd (HJR.out.below (aA hb8 hba));have HBa:=hdd (HBR.out.trans ((aA hb8 hba).mono HBR.out.size));clear hb8 hba hsa cx;go_wp2_with fail
      refine(HJS.out _ _ _ _ p HBa.out HJa.out HQ0.out HGA.out).mono ?_;rintro e wb⟨rfl,hfb,hjb⟩;have HFb:=hdd (HFa.out.trans hfb);have HJb:=hdd hjb;clear hfb hjb x0 x1 x2 x3 z0 z1 z2 z3 y0 y1 y2 y3 hw9 hwa;generalize sgT ns p=S at*;go_wp2_with fail
      go_roundw
      case rel=>exact⟨k+1,by have:=HKL.out;omega,by go_num,HFb,HJb⟩
      case measure=>have:=HKL.out;simp[intOf];omega
  . have hke:k=l.length:=by omega
    subst hke;have HRES:Hid (alH w g root ns (.returned (.tuple #[.pointer (some ⟨j,0,none⟩),.nilIface])) wr):=hdd ⟨HBR.out,j,ms,l0,rfl,HMS.out,HIL.out,HJR.out⟩;clear hk hge;go_wp2
    go_ret2
    exact HRES.out
theorem acS{root K jj:Nat}{v0:Re}(hd:DagP w g ns)(ok:OkNs ns)(hlf:gT ns)(hro:gW ns)(hI:Is ns e0 root)(hG:Gd K jj e0 v0)(hgd:AllGd e0)(hT:Tab w):
 Calls Tryz.prog 149 #[.pointer (some ⟨g,0,none⟩),.int .i64 (root:Int),.slice none 0 0] w (fun e w'=>e=.returned (.tuple #[.int .i64 (Re.sgn v0),.nilIface])/\Below w.heap.size w w'):=by
 have HEX:Hid (∀w',Below w.heap.size w w'->Calls Tryz.prog 193 #[.pointer (some ⟨g,0,none⟩),.int .i64 (root:Int),.agg #[.bool true,.int .i64 32]] w' (alH w' g root ns)):=hdd fun w' h=>aaF (hd.below h) ok hlf hro hI hG.den hgd (hT.below h);have HJS:Hid (∀w' j ms l,Below w.heap.size w w'->JG w' j ms g ns l->root∈l->Calls Tryz.prog 195 #[.pointer (some ⟨j,0,none⟩),.int .i64 (root:Int)] w' (fun e w''=>e=.returned (.tuple #[.int .i64 (Re.sgn v0),.nilIface])/\Fr (fun b=>b=ms) w' w''/\JG w'' j ms g ns l)):=hdd fun w' j ms l h hj hl=>by
  have:=mQ hj hl (hd.below h) ok hlf hro hI hG (hT.below h);rwa[aaD hI hG.den]at this
 clear hd ok hlf hro hI hG hgd hT;go_enter Tryz.func149,Tryz.ntmps149
 go_wp2_with fail
 refine chosen_any.mono ?_;rintro e w1⟨rfl,hb1⟩;have HB1:=hdd hb1;clear hb1;go_wp2_with fail
 refine(HEX.out _ HB1.out).mono ?_;rintro e w2⟨hb2,j,ms,l,rfl,hms,hIB,hjp⟩;have HB2:=hdd (HB1.out.trans (hb2.mono HB1.out.size));have HMS:=hdd (Nat.le_trans HB1.out.size hms);have HJC:=hdd (HJS.out _ j ms l HB2.out hjp hIB.rt);clear hb2 hms hjp hIB HJS HEX;go_wp2_with fail
 refine HJC.out.mono ?_;rintro e w3⟨rfl,hf,-⟩;have HB3:=hdd (HB2.out.trans (hf.below HB2.out.size (fun b hb=>by have:=HMS.out;omega)));clear hf;go_wp2
 go_ret2
 exact⟨rfl,HB3.out⟩
end
section
open Go.RowKit Go.Maps
open Re (rat ofI ofN)
open Bool renaming and_eq_true->bh2
variable{P:Ex->Prop}{ns:List Nd}{K j l:Nat}{v:Re}
theorem anI(h:AllIs P ns):OkNs ns:=by
 intro i n hn;rcases h.before hn with ⟨h0,-⟩|⟨hk,-,a,b,h1,h2,h3,h4⟩|⟨h5,-,-,a,h1,h2⟩
 . exact⟨Or.inl h0,fun o ho=>by simp[opsN,h0]at ho⟩
 . refine⟨Or.inr (Or.inr (by rcases hk with h|h|h|h<;>omega)),fun o ho=> ?_⟩
   have:n.kind≠0/\n.kind≠5:=by rcases hk with h|h|h|h<;>omega
   simp only[opsN,this.1,this.2,if_false,List.mem_cons,List.not_mem_nil,or_false]at ho;rcases ho with rfl|rfl<;>omega
 . refine⟨Or.inr (Or.inl h5),fun o ho=> ?_⟩
   have:n.kind≠0:=by omega
   rw[show opsN n=[n.a] from by unfold opsN;rw[if_neg this,if_pos h5]]at ho;simp only[List.mem_cons,List.not_mem_nil,or_false]at ho;omega
theorem ahS(h:AllIs P ns):gT ns:=by
 intro i n hn h0;rcases h.before hn with ⟨-,h1,h2⟩|⟨hk,-⟩|⟨h5,-⟩
 . exact⟨h1,h2⟩
 . rcases hk with h|h|h|h<;>omega
 . omega
theorem ahT(h:AllIs P ns):gW ns:=by
 intro i n hn h0;rcases h.before hn with ⟨h1,-⟩|⟨hk,-⟩|⟨-,-,h2,-⟩
 . omega
 . rcases hk with h|h|h|h<;>omega
 . exact h2
theorem alI{x:Ex}(hG:Gd K j x v)(hA:AllGd x):rY P x (Re.sgn v):=
 fun B N w g k ns hs hi=>acS hs.dag (anI hs.all) (ahS hs.all) (ahT hs.all) hi hG hA hs.tab
theorem AllGd.leaf (v:Nat):AllGd (.leaf v):=⟨fun a b h=>(by cases h),fun a h=>(by cases h)⟩
theorem AllGd.add {a b:Ex}(h:AllGd a)(k:AllGd b):AllGd (.add a b):=
 ⟨fun x y s=>by cases s with|addL s=>exact h.1 x y s|addR s=>exact k.1 x y s,fun x s=>by cases s with|addL s=>exact h.2 x s|addR s=>exact k.2 x s⟩
theorem AllGd.sub {a b:Ex}(h:AllGd a)(k:AllGd b):AllGd (.sub a b):=
 ⟨fun x y s=>by cases s with|subL s=>exact h.1 x y s|subR s=>exact k.1 x y s,fun x s=>by cases s with|subL s=>exact h.2 x s|subR s=>exact k.2 x s⟩
theorem AllGd.mul {a b:Ex}(h:AllGd a)(k:AllGd b):AllGd (.mul a b):=
 ⟨fun x y s=>by cases s with|mulL s=>exact h.1 x y s|mulR s=>exact k.1 x y s,fun x s=>by cases s with|mulL s=>exact h.2 x s|mulR s=>exact k.2 x s⟩
theorem AllGd.root {a:Ex}(h:AllGd a)(hG:Gd K j a v):AllGd (.root a):=
 ⟨fun x y s=>by cases s with|root s=>exact h.1 x y s,fun x s=>by cases s with|refl=>exact⟨_,_,_,hG⟩|root s=>exact h.2 x s⟩
section
variable{L:List Ex}{a b:Ex}{x y z:Re}{k m n:Nat}
end
section
variable{L:List Ex}{b:Nat}{x:Int}
end
inductive Sh where
 |leaf (n l:Nat)
 |add (a b:Sh)
 |mul (a b:Sh)
 |div (a b:Sh)
 |root (a:Sh)
 |lit (c:Ct) (k r:Nat)
def Sh.ct (K:Nat):Sh->Ct
 | .leaf n l=>⟨n,65536,n,l,1100⟩
 | .add a b=>jN 65536 (a.ct K) (b.ct K)
 | .mul a b=>sI 65536 (a.ct K) (b.ct K)
 | .div a b=>apK 65536 K (a.ct K) (b.ct K)
 | .root a=>oJ 65536 (a.ct K)
 | .lit c _ _=>c
def Sh.cost:Sh->Nat
 | .leaf n l=>n+l
 | .add a b=>1+a.cost+b.cost
 | .mul a b=>a.cost+b.cost
 | .div a b=>a.cost+b.cost
 | .root a=>a.cost
 | .lit _ k _=>k
def Sh.rt:Sh->Nat
 | .leaf _ _=>0
 | .add a b=>a.rt+b.rt
 | .mul a b=>a.rt+b.rt
 | .div a b=>a.rt+b.rt
 | .root a=>a.rt+1
 | .lit _ _ r=>r
def Sh.top (K:Nat)(s:Sh):Bool:=decide (K<=15/\s.rt<=K/\s.cost<=1000000/\(s.ct K).s<=4000000/\max (s.ct K).u (s.ct K).l*2^K+1<=32768/\((max (s.ct K).u (s.ct K).l*2^K+2:Nat):Int)<=(s.ct K).W)
def Sh.ok (K:Nat):Sh->Bool
 | .leaf n l=>decide (n<=53/\l<=1000)
 | .add a b=>a.ok K&&b.ok K
 | .mul a b=>a.ok K&&b.ok K
 | .div a b=>a.ok K&&(b.ok K&&(b.top K&&decide (ctG K (b.ct K)<=(b.ct K).W)))
 | .root a=>a.ok K&&a.top K
 | .lit ..=>true
structure FitC(L:List Ex)(s:Sh)(e:Ex)(v:Re):Prop where
 vl:Vl L 65536 e v (s.ct L.length)
 cost:cB e<=s.cost
 gd:AllGd e
 rt:rtE e<=s.rt
def Fit(L:List Ex)(s:Sh)(e:Ex)(v:Re):Prop:=s.ok L.length=true->FitC L s e v
theorem aoZ:(32*2^11:Int)=65536:=by decide
section
variable{L:List Ex}{s t:Sh}{a b:Ex}{x y z:Re}
theorem FitC.good (h:FitC L s a x)(ht:s.top L.length=true):Gd L.length 11 a x:=by
 obtain⟨h1,hr,h2,h3,h4,h5⟩:=of_decide_eq_true ht;have hv:=h.vl;rw[<-aoZ]at hv;exact Gd.of hv (Nat.le_trans h.rt hr) (by omega) h1 (Nat.le_trans h.cost h2) h3 h4 h5
theorem Fit.add (h:Fit L s a x)(g:Fit L t b y):Fit L (.add s t) (.add a b) (x+y):=fun k=>by
 simp only[Sh.ok,bh2]at k;have h:=h k.1;have g:=g k.2;exact⟨Vl.add (by omega) h.vl g.vl,by have:=h.cost;have:=g.cost;simp only[cB,Sh.cost];omega,h.gd.add g.gd,by have:=h.rt;have:=g.rt;simp only[rtE,Sh.rt];omega⟩
theorem Fit.sub (h:Fit L s a x)(g:Fit L t b y):Fit L (.add s t) (.sub a b) (x-y):=fun k=>by
 simp only[Sh.ok,bh2]at k;have h:=h k.1;have g:=g k.2;exact⟨Vl.sub (by omega) h.vl g.vl,by have:=h.cost;have:=g.cost;simp only[cB,Sh.cost];omega,h.gd.sub g.gd,by have:=h.rt;have:=g.rt;simp only[rtE,Sh.rt];omega⟩
theorem Fit.mul (h:Fit L s a x)(g:Fit L t b y):Fit L (.mul s t) (.mul a b) (x*y):=fun k=>by
 simp only[Sh.ok,bh2]at k;have h:=h k.1;have g:=g k.2;exact⟨Vl.mul (by omega) h.vl g.vl,by have:=h.cost;have:=g.cost;simp only[cB,Sh.cost];omega,h.gd.mul g.gd,by have:=h.rt;have:=g.rt;simp only[rtE,Sh.rt];omega⟩
theorem Fit.root (h:Fit L s a x)(h0:0<=y)(hy:y*y=x)(hm:Ex.root a∈L):Fit L (.root s) (.root a) y:=fun k=>by
 simp only[Sh.ok,bh2]at k;have h:=h k.1;exact⟨Vl.root (by omega) h.vl h0 hy hm,by have:=h.cost;simp only[cB,Sh.cost];omega,h.gd.root (h.good k.2),by have:=h.rt;simp only[rtE,Sh.rt];omega⟩
theorem Fit.sgn (h:Fit L s a x)(hs:(s.ok L.length&&s.top L.length)=true):rY P a (Re.sgn x):=by
 rw[bh2]at hs;exact alI ((h hs.1).good hs.2) (h hs.1).gd
end
theorem alJ{b m:Nat}{x:Int}(hl:l+m=1074)(hv:fv b=x*((2^m:Nat):Int)):aX b=mkDy x (-(l:Int)):=by
 unfold aX;rw[hv];have:=akR x (-(l:Int)) m;rwa[show-(l:Int)-(m:Int)=-1074 by omega]at this
theorem apO{x:Int}{n:Nat}(h:x.natAbs<2^n):-p2 n<(x:Rat)*p2 (-(l:Int))/\(x:Rat)*p2 (-(l:Int))<p2 n:=by
 have e:=fA n;have h1:p2 (-(l:Int))<=1:=by rw[<-lC];exact iO (by omega)
 have h0:=aZ (-(l:Int));have h2:(x:Rat)<p2 n/\-p2 n<(x:Rat):=by
  rw[e,<-Rat.intCast_natCast,<-Rat.intCast_neg];exact⟨Rat.intCast_lt_intCast.2 (by omega),Rat.intCast_lt_intCast.2 (by omega)⟩
 generalize p2 (-(l:Int))=u at*;generalize (x:Rat)=q at*;generalize p2 (n:Int)=m at*;have hm:0<m:=by grind
 have a1:0<=(m-q)*u:=Rat.mul_nonneg (by grind) (by grind);have a2:0<=(m+q)*u:=Rat.mul_nonneg (by grind) (by grind);have a3:0<=m*(1-u):=Rat.mul_nonneg (by grind) (by grind);have a4:0<(m-q)*u:=Rat.mul_pos (by grind) h0;have a5:0<(m+q)*u:=Rat.mul_pos (by grind) h0;constructor<;>grind
theorem Fit.dleaf {L:List Ex}{b n m:Nat}{x:Int}(hb:b<18446744073709551616)(hf:fin b)(hl:l+m=1074)(hv:fv b=x*((2^m:Nat):Int))(h:x.natAbs<2^n):Fit L (.leaf n l) (.leaf b) (rat ((x:Rat)*p2 (-(l:Int)))):=fun k=>by
 have k:=of_decide_eq_true k;have e:=alJ hl hv;have er:rv (aX b)=(x:Rat)*p2 (-(l:Int)):=by rw[e,kL]
 obtain⟨r1,r2⟩:=apO (l:=l) h;have h3:(aX b).man≠0->-(l:Int)<=(aX b).exp/\topD (aX b)<=n:=fun hn=>⟨by rw[e]at hn|-;exact mG hn,rF hn (by rw[er];exact r1) (by rw[er];exact r2)⟩;have h4:bits (aX b).man.natAbs<=n:=by
  rw[e];exact Nat.le_trans (qC x _) ((aF _ _).2 h)
 have hu:jL b<=n:=by
  unfold jL;split
  . omega
  . rename_i hn
    have:=h3 hn;unfold topD at this;rw[if_neg hn]at this;omega
 have hl:jM b<=l:=by
  unfold jM;split
  . omega
  . rename_i hn;have:=h3 hn;omega
 have hv:=Vl.leaf (L:=L) (P:=65536) (M:=n) hf hb ⟨by rw[e];exact Canon.mk _ _,by omega,fun hn=>by have:=h3 hn;omega⟩ ⟨by rw[er];grind,by rw[er];grind⟩ hu hl;rw[er]at hv;exact⟨hv,by simp only[cB,Sh.cost];omega,AllGd.leaf b,Nat.le_refl _⟩
theorem Fit.leaf {L:List Ex}{b:Nat}{x:Int}(n:Nat)(hb:b<18446744073709551616)(hf:fin b)(hv:fv b=x*(U74:Int))(h:x.natAbs<2^n):Fit L (.leaf n 0) (.leaf b) (ofI x):=by
 obtain⟨u,hu,hU⟩:=iW;have:=Fit.dleaf (L:=L) (n:=n) (l:=0) (x:=x) hb hf (m:=u) (by omega) (by rw[hv,hU]) h;rwa[show-((0:Nat):Int)=0 by rfl,lC,Rat.mul_one]at this
end
section
open Ieee
open Int renaming natCast_mul->bh3,neg_mul->bh4,lt_or_le->bh5
variable{r:Nat}
theorem anJ(j:Nat):∀m:Nat,m<2^53->j<=1990->∃c,c<infR/\mg c=m*2^j:=by
 induction j with
 |zero=>
  intro m hm _;exact⟨m,by unfold infR;omega,by rw[jZ m hm,Nat.pow_zero,Nat.mul_one]⟩
 |succ j ih=>
  intro m hm hj;rcases Nat.lt_or_ge m (2^52)with h|h
  . obtain⟨c,h1,h2⟩:=ih (m*2) (by omega) (by omega)
    exact⟨c,h1,by rw[h2,Nat.pow_succ,Nat.mul_assoc,Nat.mul_comm 2]⟩
  . refine⟨(j+2)*2^52+(m-2^52),by unfold infR;omega,?_⟩
    rw[iT _ (by omega)];have e1:((j+2)*2^52+(m-2^52))/2^52=j+2:=by omega
    have e2:((j+2)*2^52+(m-2^52))%2^52=m-2^52:=by omega
    rw[e1,e2,show j+2-1=j+1 by omega,show 2^52+(m-2^52)=m by omega]
def RepF(N:Int):Prop:=∃c:Int,-(infR:Int)<c/\c<infR/\fvr c=N
theorem ao0{x:Int}(j:Nat)(h:x.natAbs<2^53)(hj:j<=1990):RepF (x*(2^j:Nat)):=by
 obtain⟨c,h1,h2⟩:=anJ j x.natAbs h hj;have hc:(mg c:Int)=(x.natAbs:Int)*(2^j:Nat):=by rw[h2,bh3]
 rcases bh5 x 0 with g|g
 . by_cases h0:c=0
   . subst h0
     rw[o8]at hc;refine⟨0,by unfold infR;omega,by unfold infR;omega,?_⟩;rw[dL,show x=-(x.natAbs:Int) by omega,bh4,<-hc];rfl
   . refine⟨-(c:Int),by omega,by omega,?_⟩
     unfold fvr;rw[if_pos (by omega),show(-(c:Int)).natAbs=c by omega,hc,<-bh4,show-(x.natAbs:Int)=x by omega]
 . refine⟨(c:Int),by omega,by omega,?_⟩
   unfold fvr;rw[if_neg (by omega),show((c:Int)).natAbs=c by omega,hc,show(x.natAbs:Int)=x by omega]
theorem ao1(h1:-(infR:Int)<sr r)(h2:sr r<infR):fin r:=by
 unfold sr at h1 h2;unfold fin;split at h1<;>simp_all<;>omega
theorem Near.exact {t:Nat}{N M:Int}(h:Near r N t)(hM:RepF M)(hN:N=M*(2^(t-1074):Nat)):fin r/\fv r=M:=by
 obtain⟨c,c1,c2,rfl⟩:=hM;have e:sr r=c:=by
  have h1:=h.2.1 c (by omega) (by omega) (by omega);have h2:=h.2.2 c (by omega) (by omega) (by omega);omega
 exact⟨ao1 (by omega) (by omega),by unfold fv;rw[e]⟩
theorem acT{k:Int}(h:k.natAbs<2^53):FloatKind.f64.nearest k<18446744073709551616/\fin (FloatKind.f64.nearest k)/\fv (FloatKind.f64.nearest k)=k*(2^1074:Nat):=by
 have e:FloatKind.f64.nearest k=double.nearest (decide (k<0)) k.natAbs 0:=rfl;rw[e];have hn:=gG (decide (k<0)) k.natAbs 0 1074 (by omega) (by omega) (k*(2^1074:Nat)) (by
  have:(0+((1074:Nat):Int)).toNat=1074:=by omega
  rw[this];generalize 2^1074=M;rcases bh5 k 0 with g|g
  . rw[if_pos (by simpa using g),bh3,<-bh4,show-(k.natAbs:Int)=k by omega]
  . rw[if_neg (by simpa using g),bh3,show(k.natAbs:Int)=k by omega])
 obtain⟨h1,h2⟩:=hn.exact (ao0 1074 h (by omega)) (by rw[show(2^(1074-1074):Nat)=1 by decide];omega);exact⟨double.nearest_lt ..,h1,h2⟩
end
section
open Go.RowKit
inductive SC where
 |v (x:Value)
 |id (n:Nat)
 |ptr (b off:Nat)
 |sl (b len:Nat)
inductive SW where
 |c (x:SC)
 |agg (l:List SC)
inductive SV where
 |w (x:SW)
 |tup (l:List SW)
section
variable(ν:Nat->Nat)
end
section
variable{ν ν':Nat->Nat}
end
structure Wk(E:Type) where
 G:Nat->List (E×Nat)->List (Nat×Obj)->World->Prop
 weak:∀{c c' K K' l l' w},G c K l w->c<=c'->(∀p∈K',p∈K)->(∀p∈l',p∈l)->(l'.map (·.1)).Nodup->G c' K' l' w
 heap:∀{c K l w},G c K l w->∀p∈l,w.heap[p.1]? =some p.2
 alloc:∀{c K l w},G c K l w->∀o,G c K ((w.heap.size,o)::l) (w.alloc o)
 write:∀{c K l w w' b o o'},G c K ((b,o)::l) w->w.grownBy w' (some b)->w'.heap[b]? =some o'->G c K ((b,o')::l) w'
 drew:∀{c K l w},G c K l w->G c K l w.drew
structure Blk where
 b:Nat
 T:TypeId
 init:List SC
 st:Option (Nat×List SC)
structure Spec(E:Type) where
 ops:Array Oper
 val:Nat->SV
 cr:Nat->Option Nat
 know:List (Nat×E)
 blocks:List Blk
 cost:Nat->Nat
 D:Nat->List Nat
 out:List (Nat×SV)
section
variable{E:Type}(S:Spec E)(W:Wk E){P:Program}
variable{S W}
section
variable{lst lst':Nat->Bool}{ν ν':Nat->Nat}{i:Nat}
end
section
variable{c0:Nat}{a0:Act}{ν0:Nat->Nat}{listed:Array Bool}{a:Act}{w:World}{i:Nat}
end
end
section
variable{E:Type}{S:Spec E}{W:Wk E}{P:Program}
variable{Q:Exit->Act->World->Prop}{c0:Nat}{a0:Act}{ν0:Nat->Nat}
/-! operands -/
section
variable{listed:Array Bool}{a:Act}{w:World}{i:Nat}{o:Oper}{ν:Nat->Nat}
end
end
section
variable{E:Type}{S:Spec E}{W:Wk E}{P:Program}{Q:Exit->Act->World->Prop}{c0:Nat}{a0:Act}{ν0:Nat->Nat}{i:Nat}{o:Oper}
end
end
section
open Go.RowKit Go.Maps
section
variable{S:Spec Ex}{w0:Bs}{g c0:Nat}{a0:Act}{ν0:Nat->Nat}{i:Nat}{Q:Exit->Act->World->Prop}
section
section
end
end
end
section
variable{s:Bs}{W:World}{g N i j k i' j' k':Nat}{K:List (Ex×Nat)}{l:List (Nat×Obj)}{x px py qx qy rx ry:Ex}{q:Int}
end
section
end
end
section
open Go.RowKit Go.Maps
open Re (rat ofI ofN)
section
variable{L:List Ex}{A B C D A' B' C':Ex}{a b c d a' b' c':Re}{i j k l i' j' k':Nat}
end
def fl(k:Int):Nat:=FloatKind.f64.nearest k
abbrev li(k:Int):Ex:=.leaf (fl k)
theorem alK{k:Int}(h:k.natAbs<2^53):fl k<18446744073709551616/\fin (fl k)/\fv (fl k)=k*(U74:Int):=by
 obtain⟨h1,h2,h3⟩:=acT h;obtain⟨u,hu,hU⟩:=iW;exact⟨h1,h2,by rw[hU,hu];exact h3⟩
theorem anK{L:List Ex}{k:Int}(n:Nat)(h:k.natAbs<2^n)(hn:n<=53):Fit L (.leaf n 0) (li k) (rat (k:Rat)):=by
 obtain⟨h1,h2,h3⟩:=alK (k:=k) (Nat.lt_of_lt_of_le h (Nat.pow_le_pow_right (by omega) hn));exact Fit.leaf n h1 h2 h3 h
section
variable{L:List Ex}{s t:Sh}{a b:Ex}{p q:Rat}
end
end
section
open Go.RowKit Go.Maps Go.Stop Go.Extern
section
variable{s:Bs}{W:World}{g N i j b v:Nat}{K:List (Ex×Nat)}{l:List (Nat×Obj)}{x y:Ex}{p:Nat×Obj}
theorem Run.tail (h:Run s g N K (p::l) W):Run s g N K l W:=h.sub (fun _ hq=>List.mem_cons_of_mem _ hq) (List.nodup_cons.1 (by have:=h.nodup;rwa[List.map_cons]at this)).2
theorem Run.dleaf (h:Run s g N K l W)(hN:N<20000)(hv:v<18446744073709551616)(hf:fin v):Calls Tryz.prog 122 #[.pointer (some ⟨g,0,none⟩),.float .f64 v] W (RtO s g (N+1) K l (.leaf v)):=by
 obtain⟨ns,hs,hK⟩:=h;exact(aj0 hs.st hN hv hf trivial).mono fun _ _ hr=>vM hs hK hr
theorem Run.dint {z:Int}(h:Run s g N K l W)(hN:N<20000)(hz:0<=z/\z<=1000):Calls Tryz.prog 90 #[.pointer (some ⟨g,0,none⟩),.int .i64 z] W (RtO s g (N+1) K l (li z)):=by
 have hf:=alK (k:=z) (by omega);have HL:=hdd (h.dleaf hN hf.1 hf.2.1);have h1:decide (z< -9007199254740992)=false:=decide_eq_false (by omega);have h2:decide (z>9007199254740992)=false:=decide_eq_false (by omega);have h3:decide (9007199254740992<z)=false:=h2;have hc:floatOfInt FloatKind.f64 z=fl z:=rfl;clear h hN hz hf;go_enter Tryz.func90,Tryz.ntmps90
 go_wp2_with fail
 refine HL.out.mono ?_;rintro e w2⟨k,rfl,hR⟩;have HR:=hdd hR;clear hR;go_wp2;go_ret;exact⟨k,rfl,HR.out⟩
end
end
section
open Go.RowKit Go.Maps
open List renaming mem_cons_self->bh6,setIfInBounds_toArray->bh7,set_cons_zero->bh8,set_cons_succ->bh9,mem_cons_of_mem->biA,mem_append_right->biB,getElem?_cons_zero->biC,getElem?_cons_succ->biD,getElem?_toArray->biE,mem_singleton->biF
variable{T:TypeId}
section
variable{s:Bs}{W:World}{g N i j v:Nat}{K:List (Ex×Nat)}{l:List (Nat×Obj)}{x y:Ex}
end
abbrev conO(g:Nat)(v:Value):Obj:=.cells #[.pointer (some ⟨g,0,none⟩),v,.slice none 0 0] 104
theorem rJ:Tryz.prog.underlying 101=some (.slice 107):=Tryz.underlying101
theorem yM:(Tryz.prog.info? 107).map (fun i=>(i.zero,i.size,i.bytes))=some (some (.agg #[.pointer none,.int .i64 0]),2,16):=by kernel_rfl
theorem lG{W:World}{b:Nat}{x y z:Value}(h:W.heap[b]? =some (.cells #[x,y,z] T (0,0))):W.cell? ⟨b,0,none⟩=some x/\W.cell? ⟨b,1,none⟩=some y/\W.cell? ⟨b,2,none⟩=some z/\∀k,W.frozen? ⟨b,k,none⟩=false:=
 ⟨gH (cs:=[x,y,z]) h rfl,gH (cs:=[x,y,z]) h rfl,gH (cs:=[x,y,z]) h rfl,fun k=>frzI h k⟩
theorem yN{w:World}{g:Nat}{a b:Value}(h:w.heap[g]? =some (.cells #[a,b] T (0,0))):∀j x,[a,b][j]? =some x->w.cell? ((⟨g,0,none⟩:Addr).add j)=some x:=by
 intro j x hx;rw[Addr.add_lit,Nat.zero_add];exact gH (cs:=[a,b]) h hx
theorem anL{w0 w1:World}{l:List (Nat×Obj)}(hb1:Below w0.heap.size w0 w1)(hk:∀p∈l,w1.heap[p.1]? =some p.2/\w0.heap.size<=p.1)(hn:(l.map (·.1)).Nodup)(hT:Tab w0)(htb:6<w0.heap.size):
 Calls Tryz.prog 39 #[] w1 (fun e W=>∃g b,e=.returned (.pointer (some ⟨b,0,none⟩))/\Run (bs w0) g 0 [] ((b,conO g (.slice none 0 0))::l) W):=by
 have HN:=hdd (amY hb1 hk hn hT htb);clear hb1 hk hn hT htb;go_enter Tryz.func39,Tryz.ntmps39
 go_wp2_with fail
 refine HN.out.mono ?_;rintro e W⟨g,rfl,hR⟩;have HR:=hdd (hR.alloc (conO g (.slice none 0 0)));clear hR;go_wp2;go_ret;exact⟨g,_,rfl,HR.out⟩
section
variable{s:Bs}{w0 W:World}{g N b n k i:Nat}{K:List (Ex×Nat)}{L lr:List (Nat×Obj)}{v:Value}{xs:List Value}
theorem Run.cwhole {z:Int}(h:Run s g N K ((b,conO g v)::L) W)(hN:N<20000)(hz:0<=z/\z<=1000):Calls Tryz.prog 66 #[.pointer (some ⟨b,0,none⟩),.int .i64 z] W (RtR s g (N+1) K ((b,conO g v)::L) (li z)):=by
 obtain⟨w4,hw4,hb4,hs4,b1⟩:=pro1 W (.cells #[.pointer none,.int .i64 0] 107);have R4:=hdd (h.keeps hb4 [(W.heap.size,.cells #[.pointer none,.int .i64 0] 107)] (fun p hp=>by
  obtain rfl:=biF.1 hp;exact⟨b1,Nat.le_refl _⟩) (by simp))
 have HZ:=hdd hz;have HN:=hdd hN;have hbn:b≠W.heap.size:=Nat.ne_of_lt (aD (h.at (bh6 ..)));have hbn2:W.heap.size≠b:=Ne.symm hbn;obtain⟨e0,-,-,-⟩:=lG (R4.out.at (biA _ (bh6 ..)));clear h hN hz hb4 b1 hs4;go_enter Tryz.func66,Tryz.ntmps66
 have R5:=hdd R4.out.drew;replace e0:w4.drew.cell? ⟨b,0,none⟩=some (.pointer (some ⟨g,0,none⟩)):=e0;go_wp2_with fail
 go_region_held3 (fun w'=>w'.cell? ⟨b,0,none⟩=some (.pointer (some ⟨g,0,none⟩))) (go_keep)
  (first
  |(go_at_call 90
    with_reducible refine(R5.out.dint HN.out HZ.out).mono ?_
    rintro e w6⟨k,rfl,hR6⟩;have R6:=hdd hR6;obtain⟨e0,-,-,-⟩:=lG (R6.out.at (biA _ (bh6 ..)));obtain⟨r0,r1,f0,f1⟩:=aB (R6.out.at (bh6 ..));clear hR6))
 obtain⟨w8,hw8⟩:∃v,(w6.setCell ⟨W.heap.size,0,none⟩ (.pointer (some ⟨g,0,none⟩))).setCell ⟨W.heap.size,1,none⟩ (.int .i64 (k:Int))=v:=⟨_,rfl⟩;have g8:w6.grownBy w8 (some W.heap.size):=by rw[<-hw8];exact grownBy_set (grownBy_set (pY _ _) _) _
 have s8:=set2 (R6.out.at (bh6 ..)) (.pointer (some ⟨g,0,none⟩)) (.int .i64 (k:Int));rw[hw8]at s8;have R8:=hdd (R6.out.write g8 s8);simp only[hw8];clear e0 r0 r1 f0 f1 g8 s8 hw8 R6 R5 hw4;obtain⟨x0,x1,-,-⟩:=aB (R8.out.at (bh6 ..));go_wp2;refine bodyPost_ret (v:=.agg #[_,_]) (by simp[results,Tryz.results66,go_sem,x0,x1];first|exact⟨rfl,rfl⟩|rfl) rfl ?_;exact⟨k,rfl,R8.out.tail⟩
def aaG(w0:World)(g N:Nat)(K:List (Ex×Nat))(b n k:Nat)(xs:List Value)(L:List (Nat×Obj))(e:Ending)(W':World):Prop:=e=.returned (.string ⟨(Lib.itoa (n:Int)).toArray⟩)/\∃v' lr',OwnR 107 2 v' (n+1) (xs++[.pointer (some ⟨g,0,none⟩),.int .i64 (k:Int)]) lr'/\Run (bs w0) g N K ((b,conO g v')::(lr'++L)) W'
theorem Run.cadd (hT:T10 w0)(ho:OwnR 107 2 v n xs lr)(h:Run (bs w0) g N K ((b,conO g v)::(lr++L)) W)(hn:n<=1000):
 Calls Tryz.prog 65 #[.pointer (some ⟨b,0,none⟩),numV g k] W (aaG w0 g N K b n k xs L):=by
 obtain⟨i0,hi0,hz0,hz1,hz2⟩:=info_parts yM;obtain⟨p,c,rfl⟩:=ho.slice;obtain⟨w1,hw1,hb1,hs1,b1⟩:=pro1 W (numO g k);have R1:=h.keeps hb1 [(W.heap.size,numO g k)] (fun p hp=>by
  obtain rfl:=biF.1 hp;exact⟨b1,Nat.le_refl _⟩) (by simp)
 obtain⟨w5,hw5,hb5,hs5,b5⟩:=pro1 w1.drew (numO g k);have R1d:=R1.drew;have R5:=hdd ((R1d.step hb5).perm (l':=lr++((W.heap.size,numO g k)::(b,conO g (.slice p n c))::L)) (by
  simp only[List.singleton_append];refine List.Perm.trans ?_ (List.Perm.refl _);exact(List.perm_append_comm_assoc lr [(W.heap.size,numO g k),(b,conO g (.slice p n c))] L)))
 have HO5:=hdd (ho.own R5.out);have HO:=hdd ho;have HC5:=hdd (yN b5);obtain⟨-,x1,-,-⟩:=lG (R1d.at (biA _ (bh6 ..)));obtain⟨y0,y1,-,-⟩:=aB (R1d.at (bh6 ..));obtain⟨-,z1,-,-⟩:=lG (R5.out.at (biB _ (biA _ (bh6 ..))));obtain⟨t0,t1,-,-⟩:=aB (R5.out.at (biB _ (bh6 ..)));have HS:(fun w'=>w'.cell? ⟨b,1,none⟩=some (.slice p n c)/\w'.cell? ⟨W.heap.size,0,none⟩=some (.pointer (some ⟨g,0,none⟩))/\w'.cell? ⟨W.heap.size,1,none⟩=some (.int .i64 (k:Int))) w1.drew:=⟨x1,y0,y1⟩;have HI0:=hdd hi0;have HZ0:=hdd hz0;have HZ1:=hdd hz1;have HZ2:=hdd hz2;have HN:=hdd hn;have HT:=hdd hT;clear hi0 hz0 hz1 hz2 h ho hb1 hs1 b1 R1 hb5 hs5 b5 R1d hn hT;go_enter Tryz.func65,Tryz.ntmps65
 unfold numV;go_wp2_with fail
 refine wp_region_noPanic ?_;refine gQ (fun w'=>w'.cell? ⟨b,1,none⟩=some (.slice p n c)/\w'.cell? ⟨W.heap.size,0,none⟩=some (.pointer (some ⟨g,0,none⟩))/\w'.cell? ⟨W.heap.size,1,none⟩=some (.int .i64 (k:Int))) 10 (by kernel_rfl) ?_;refine vR [(0,.pointer (some ⟨b,0,none⟩)),(1,.pointer (some ⟨b,0,none⟩)),(2,.pointer (some ⟨b,0,none⟩)),(3,.pointer (some ⟨b,1,none⟩)),(4,(.slice p n c)),(5,.agg #[.pointer (some ⟨g,0,none⟩),.int .i64 (k:Int)])] (by kernel_rfl) (by kernel_rfl) (by kernel_rfl) ?_ HS ?_
 . intro w' hSw
   (try dsimp only at hSw)
   obtain⟨hS1,hS2,hS3⟩:=hSw;simp only[vQ,biE,biC,biD,Option.bind_some,Act.put,bh7,bh8,bh9];refine⟨?_,?_,?_,?_,?_,?_,trivial⟩<;>(go_simp;all_goals rfl)
 simp only[vO,vP,biE,biC,biD,Option.bind_some,Act.put,bh7,bh8,bh9];clear x1 y0 y1 HS;refine bG 6 (by kernel_rfl) rfl fun K' hK=> ?_;go_simp;refine hK.out _ _ (fun _=>⟨z1,t0,t1⟩) ?_;clear hK
 try simp only[Act.put,bh7,bh8,bh9]
 refine bG 7 (by kernel_rfl) rfl fun K' hK=> ?_;refine step_append_lies _ rfl _ _ 101 rfl 0 107 i0 (.agg #[.pointer none,.int .i64 0]) 2 16 rJ HI0.out HZ0.out HZ1.out HZ2.out rfl (by decide) (.slice p n c) n xs rfl HO5.out ⟨w1.drew.heap.size,0,none⟩ 1 1 [.pointer (some ⟨g,0,none⟩),.int .i64 (k:Int)] rfl rfl HC5.out (by simp[Value.oneCell']) (by decide) (by have:=HN.out;unfold maxLen;omega) (by have:=HN.out;omega) (Nat.zero_le _) w5.heap.size rfl ?_;intro r cap w6 hown6 hgr6 hat6 hlt6;obtain⟨lr',ho6,hR6⟩:=HO.out.grow R5.out hown6 hgr6 hat6;have HO6:=hdd ho6;have R6:=hdd hR6;obtain⟨u0,u1,-,fu⟩:=lG (hR6.at (biB _ (biA _ (bh6 ..))));obtain⟨q0,q1,-,-⟩:=aB (hR6.at (biB _ (bh6 ..)));have fu1:=fu 1;refine hK.out _ _ (fun _=>⟨u1,q0,q1⟩) ?_;clear hK hown6 hgr6 hat6 hlt6 ho6 hR6 fu
 try simp only[Act.put,bh7,bh8,bh9]
 refine bG 8 (by kernel_rfl) rfl fun K' hK=> ?_;go_simp;refine hK.out _ _ (fun _=>⟨u1,q0,q1⟩) ?_;clear hK
 try simp only[Act.put,bh7,bh8,bh9]
 refine bG 9 (by kernel_rfl) rfl fun K' hK=> ?_;go_simp;refine hK.out _ _ (fun _=>⟨u1,q0,q1⟩) ?_;clear hK
 try simp only[Act.put,bh7,bh8,bh9]
 refine bG 10 (by kernel_rfl) rfl fun K' hK=> ?_;go_simp;refine hK.out _ _ (fun h=>absurd rfl h) ?_;clear hK;refine iZ (by kernel_rfl) ?_;refine NoPanic.normal ?_
 try simp only[Act.put,bh7,bh8,bh9]
 have hb6:=R6.out.at (biB lr' (biA _ (bh6 ..)));have HR8:=hdd (Run.write (o':=conO g (.slice (some ⟨r,0,none⟩) (n+1) cap)) ((R6.out.subl (l':=lr'++((b,conO g (.slice p n c))::L)) (List.Sublist.append_left (List.sublist_cons_self _ _) _)).perm (l':=(b,conO g (.slice p n c))::(lr'++L)) List.perm_middle.symm) (grownBy_set (pY w6 (some b)) (i:=1) (.slice (some ⟨r,0,none⟩) (n+1) cap)) (zO (k:=1) (v:=.slice (some ⟨r,0,none⟩) (n+1) cap) (cs:=[.pointer (some ⟨g,0,none⟩),.slice p n c,.slice none 0 0]) hb6));obtain⟨w8,hw8⟩:∃w8,w6.setCell ⟨b,1,none⟩ (.slice (some ⟨r,0,none⟩) (n+1) cap)=w8:=⟨_,rfl⟩;rw[hw8]at HR8;simp only[hw8];obtain⟨-,p1,-,-⟩:=lG (HR8.out.at (bh6 ..));have HIT:=hdd (p9 (w:=w8) (n:=(n:Int)) (HT.out.low HR8.out.below) (by have:=HN.out;omega));have hsub:(((n+1:Nat):Int)-1)=(n:Int):=by omega
 have hn0:(0:Int)<=(n:Int):=Int.natCast_nonneg _;have hn1:(n:Int)<=1000:=by have:=HN.out;omega
 clear hb6 u0 u1 fu1 q0 q1 z1 t0 t1 hw8 R5 R6 HO5 HC5 hw1 hw5;go_wp2_with fail
 refine HIT.out.mono ?_;rintro e w9⟨rfl,hb9⟩;have HF:=hdd (HR8.out.step hb9);clear hb9;go_wp2;go_ret;exact⟨rfl,_,lr',HO6.out,HF.out⟩
end
end
end Go.Proofs.YtigoiiekebccnaaGreatDoor
