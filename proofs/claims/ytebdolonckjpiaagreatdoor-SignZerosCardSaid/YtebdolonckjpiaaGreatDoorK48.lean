/- A part of the proof: contracts of functions and plain laws (SgE, DgA, AlvN, ShF, AlvO, ZeA). -/
import Derived.Test.YtebdolonckjpiaaGreatDoorK45
import Derived.Test.YtebdolonckjpiaaGreatDoorK34
import Derived.Test.YtebdolonckjpiaaGreatDoorK47
import Derived.Test.YtebdolonckjpiaaGreatDoorK18
import Derived.Test.YtebdolonckjpiaaGreatDoorK19
set_option linter.unusedVariables false
set_option linter.unusedSimpArgs false
set_option maxHeartbeats 25600000
set_option maxRecDepth 100000
namespace Go.Proofs.YtebdolonckjpiaaGreatDoor
open Go.RowKit Go.Maps Go.Stop Go.Extern
open List renaming getElem?_eq_getElem->ap4,mem_of_getElem?->ap8
open Nat renaming lt_succ_iff_lt_or_eq->ap5,le_trans->ap6
open Option.some renaming inj->ap7,injEq->ap9
variable{a e e0:Ex}{k kk:Int}{ns:List Nd}{q:Nat}{w:World}
def Fine(e:Ex):Prop:=(∃v,DenR e v)/\AllGd e
def BadE(e:Ex)(k:Int):Prop:=(∃a b K j,e=.div a b/\k=2/\Fine a/\Fine b/\Gd K j b 0)\/∃a v K j,e=.root a/\k=3/\Fine a/\Gd K j a v/\v<0
theorem BadE.div_in {b:Ex}(h:BadE e k)(hs:SubE (.div a b) e):(k=2/\∃K j,Gd K j b 0)\/∃f,Fine f/\SubE (.div a b) f:=by
 rcases h with ⟨a0,b0,K,j,rfl,rfl,ha,hb,hg⟩|⟨a0,v,K,j,rfl,rfl,ha,hg,hv⟩
 . cases hs with
   |refl=>exact Or.inl ⟨rfl,K,j,hg⟩
   |divL h=>exact Or.inr ⟨a0,ha,h⟩
   |divR h=>exact Or.inr ⟨b0,hb,h⟩
 . cases hs with
   |root h=>exact Or.inr ⟨a0,ha,h⟩
theorem BadE.root_in (h:BadE e k)(hs:SubE (.root a) e):(k=3/\∃v K j,Gd K j a v/\v<0)\/∃f,Fine f/\SubE (.root a) f:=by
 rcases h with ⟨a0,b0,K,j,rfl,rfl,ha,hb,hg⟩|⟨a0,v,K,j,rfl,rfl,ha,hg,hv⟩
 . cases hs with
   |divL h=>exact Or.inr ⟨a0,ha,h⟩
   |divR h=>exact Or.inr ⟨b0,hb,h⟩
 . cases hs with
   |refl=>exact Or.inl ⟨rfl,v,K,j,hg,hv⟩
   |root h=>exact Or.inr ⟨a0,ha,h⟩
theorem BadE.op {x:Nat}{n:Nd}(h:BadE e k)(hI:Is ns e x)(hn:ns[x]? =some n):n.kind=4\/n.kind=5:=by
 rcases h with ⟨a0,b0,K,j,rfl,-⟩|⟨a0,v,K,j,rfl,-⟩
 . obtain⟨p,q,h,-⟩:=hI;rw[hn]at h;cases h;exact Or.inl rfl
 . obtain⟨p,h,-⟩:=hI;rw[hn]at h;cases h;exact Or.inr rfl
theorem BadE.div_at {x p:Nat}(h:BadE e k)(hI:Is ns e x)(hn:ns[x]? =some ⟨4,0,(p:Int),(q:Int)⟩):sgT ns q=0:=by
 rcases h with ⟨a0,b0,K,j,rfl,-,-,-,hg⟩|⟨a0,v,K,j,rfl,-⟩
 . obtain⟨p',q',h,-,-,-,h5⟩:=hI
   rw[hn]at h;simp only[ap9,Nd.mk.injEq,true_and]at h;obtain rfl:q=q':=by omega
   rw[yT h5 hg.den,Re.sgn_zero]
 . obtain⟨p',h,-⟩:=hI;rw[hn]at h;simp at h
theorem BadE.root_at {x p:Nat}(h:BadE e k)(hI:Is ns e x)(hn:ns[x]? =some ⟨5,0,(p:Int),0⟩):sgT ns p<0:=by
 rcases h with ⟨a0,b0,K,j,rfl,-⟩|⟨a0,v,K,j,rfl,-,-,hg,hv⟩
 . obtain⟨p',q',h,-⟩:=hI;rw[hn]at h;simp at h
 . obtain⟨p',h,-,h3⟩:=hI
   rw[hn]at h;simp only[ap9,Nd.mk.injEq,true_and,and_true]at h;obtain rfl:p=p':=by omega
   rw[yT h3 hg.den,Re.sgn_neg hv];decide
theorem BadE.div_case {b:Ex}(h:BadE e k)(hs:SubE (.div a b) e)(hi:Is ns b q):GdAt ns q/\(sgT ns q=0/\k=2\/sgT ns q≠0):=by
 rcases h.div_in hs with ⟨hk,K,j,hg⟩|⟨f,⟨⟨v,hf⟩,hg⟩,hs'⟩
 . exact⟨⟨b,K,j,0,hi,hg⟩,Or.inl ⟨by rw[yT hi hg.den,Re.sgn_zero],hk⟩⟩
 . have:=ak8 hf hg hs' hi
   exact⟨this.1,Or.inr this.2⟩
theorem BadE.root_case (h:BadE e k)(hs:SubE (.root a) e)(hi:Is ns a q):GdAt ns q/\(sgT ns q<0/\k=3\/¬sgT ns q<0):=by
 rcases h.root_in hs with ⟨hk,v,K,j,hg,hv⟩|⟨f,⟨⟨v,hf⟩,hg⟩,hs'⟩
 . exact⟨⟨a,K,j,v,hi,hg⟩,Or.inl ⟨by rw[yT hi hg.den,Re.sgn_neg hv];decide,hk⟩⟩
 . have:=ajG hf hg hs' hi
   exact⟨this.1,Or.inr this.2⟩
theorem divzero_any:Calls Tryz.prog 127 #[] w (fun e w'=>e=.returned (.iface 140 (.int .i64 2))/\w'=w):=by
 go_enter Tryz.func127,Tryz.ntmps127
 go_wp2;go_ret;exact⟨rfl,rfl⟩
theorem negroot_any:Calls Tryz.prog 128 #[] w (fun e w'=>e=.returned (.iface 140 (.int .i64 3))/\w'=w):=by
 go_enter Tryz.func128,Tryz.ntmps128
 go_wp2;go_ret;exact⟨rfl,rfl⟩
theorem ErK.iface {S:Nat->Prop}{n:Nat}{v:Value}(h:ErK S w n v k):∃t x,v=.iface t x:=by cases h<;>exact⟨_,_,rfl⟩
theorem an5{g root:Nat}(hd:DagP w g ns)(ok:OkNs ns)(hlf:iH ns)(hro:iI ns)(hI:Is ns e0 root)(hbad:BadE e0 kk)(hT:Tab w):
 Calls Tryz.prog 73 #[.pointer (some ⟨g,0,none⟩),.int .i64 (root:Int),.agg #[.bool true,.int .i64 32]] w (anX w (.pointer none) kk):=by
 obtain⟨w1,hw1,hb1,hs1,b1⟩:=pro1 w (.cells #[.bool true,.int .i64 32] 65);obtain⟨c0,c1,-,-⟩:=aC b1;have hr:=hI.lt;obtain⟨nr,hnr⟩:∃n,ns[root]? =some n:=⟨_,ap4 hr⟩;have HB1:=hdd hb1;have HN1:=hdd (fB (hd.below hb1) hnr);have HDW:=hdd hd;have HBAD:=hdd hbad;have HI0:=hdd hI;have HLN:=hdd hd.len;have HNJ:Hid (∀w',Below w.heap.size w w'->Calls Tryz.prog 125 #[.pointer (some ⟨g,0,none⟩),.int .i64 (root:Int),.agg #[.bool true,.int .i64 32]] w' (RetJ w' g root ns)):=hdd fun w' h=>yU (hd.below h) ok hlf hro hr;have HJS:Hid (∀w' j ms l (p:Nat),Below w.heap.size w w'->JG w' j ms g ns l->p∈l->GdAt ns p->Calls Tryz.prog 75 #[.pointer (some ⟨j,0,none⟩),.int .i64 (p:Int)] w' (fun e w''=>e=.returned (.tuple #[.int .i64 (sgT ns p),.nilIface])/\Fr (fun b=>b=ms) w' w''/\JG w'' j ms g ns l)):=hdd fun w' j ms l p h hj hl ⟨a,K,jj,v,hi,hg⟩=>mO hj hl (hd.below h) ok hlf hro hi hg (hT.below h);have HBE:Hid (∀w' b0,Below w.heap.size w w'->w'.heap[b0]? =some (.cells #[.int .i64 (root:Int)] 3 (0,0))->Calls Tryz.prog 126 #[.pointer (some ⟨g,0,none⟩),.slice (some ⟨b0,0,none⟩) 1 1] w' (o6 w' ns root)):=hdd fun w' b0 h hb=>jJ (hd.below h) ok hr hb
 clear hd ok hlf hro hr hb1 b1 hs1 hnr hI hbad hT;have hst:=aX;go_enter Tryz.func73,Tryz.ntmps73
 go_wp2_with fail
 refine HN1.out.mono ?_;rintro e w2⟨rfl,hb2⟩;obtain⟨w3,hw3,z0,z1,z2,z3,y0,y1,y2,y3,w4,hw4,hb4,hs4⟩:=new4 w2 144 (.int .i64 0) (.float .f64 0) (.int .i64 0) (.int .i64 0) (.int .i64 nr.kind) (.float .f64 nr.val) (.int .i64 nr.a) (.int .i64 nr.b);have h14:=aB hb2 hb4;replace c0:=cbl c0 h14;replace c1:=cbl c1 h14;have HB4:=hdd (HB1.out.trans (h14.mono HB1.out.size));clear hb2 hb4 hs4 h14;go_wp2_with fail
 refine(HNJ.out _ HB4.out).mono ?_;rintro e w5⟨hb5,j,ms,l0,rfl,hms,hms5,hI0,hjp⟩;obtain⟨w6,hw6,hb6,hs6,b6⟩:=pro1 w5 (.cells #[.int .i64 (root:Int)] 3);have h46:=aB hb5 hb6;have HB6:=hdd (HB4.out.trans (h46.mono HB4.out.size));have HJ6:=hdd (hjp.below hb6);have HIL:=hdd hI0;have HM6:Hid (ms<w6.heap.size):=hdd (by have:=hb6.size;omega);have HMS:=hdd (ap6 HB4.out.size hms);have HBE6:=hdd (HBE.out w6 _ HB6.out b6);clear hb5 hb6 hs6 b6 h46 hjp hms hms5 hI0 c0 c1 z0 z1 z2 z3 y0 y1 y2 y3 hw3 hw4;go_wp2_with fail
 refine HBE6.out.mono ?_;rintro e w7⟨hb7,v7,l,rfl,hl,hI⟩;obtain⟨bl,cl,rfl,hlc,hcm,-⟩:=id hl;have HL:=hdd hl;have HI:=hdd hI;have HB7:=hdd (HB6.out.trans (hb7.mono HB6.out.size));have HJ7:=hdd (HJ6.out.below hb7);have HMS7:Hid (w.heap.size<=ms):=HMS;have HLL:=hdd (mJ hI HLN.out);clear hb7 hl hI hlc hcm hw6;go_wp2_with fail
 go_loopw [37] (fun i wr=>∃k:Nat,k<=l.length/\i=.int .i64 (k:Int)/\Hid (Fr (fun b=>b=ms) w7 wr)/\Hid (JG wr j ms g ns l0)/\Hid (∀i<k,l[i]? ≠some root)) (fun i _=>((l.length:Int)-intOf i).toNat)
 case atStart=>exact⟨0,Nat.zero_le _,rfl,hdd (Fr.of_below (Below.refl _ _)),HJ7,hdd (fun i h=>absurd h (Nat.not_lt_zero _))⟩
 case round=>
  obtain⟨k,hk,rfl,HF,HJR,HNO⟩:=hrel;have HBR:Hid (Below w.heap.size w wr):=hdd (HB7.out.trans (HF.out.below HB7.out.size (fun b hb=>by have:=HMS.out;omega)));rcases Nat.lt_or_ge k l.length with hlt|hge
  . obtain⟨x,hx⟩:∃x,l[k]? =some x:=⟨_,ap4 hlt⟩
    have hxl:x<ns.length:=HI.out.lt x (ap8 hx);obtain⟨n,hn⟩:∃n,ns[x]? =some n:=⟨_,ap4 hxl⟩;have cx:=(HL.out.fr HF.out (fun b hb=>by have:=HM6.out;omega)).cell hx;have HN:=hdd (fB (HDW.out.below HBR.out) hn);have hkI:(k:Int)<(l.length:Int):=by omega
    have hk0:(0:Int)<=(k:Int):=by omega
    have hlI:(l.length:Int)<=20000:=by have:=HLL.out;omega
    have HKL:=hdd hlt;have hx0:x∈l0:=ak9 HI.out HIL.out x (ap8 hx);have hkc:=acQ (yS HIL.out HI0.out x hx0) hn;have HCL:Hid (∀o∈opsN n,∃y∈l0,(y:Int)=o):=hdd (HIL.out.cl x hx0 n hn);have HXX:=hdd hx;have HNX:=hdd hn;clear hx hn hxl hlt hx0;rcases hkc with ⟨hk4,hk5⟩|⟨a,b,p,q,rfl,hs,hi⟩|⟨a,p,rfl,hs,hi⟩
    . have HNO2:Hid (∀i<k+1,l[i]? ≠some root):=hdd fun i hi he=>by
       rcases ap5.1 hi with h|rfl
       . exact HNO.out i h he
       . rw[HXX.out]at he
         obtain rfl:=ap7 he;exact(HBAD.out.op HI0.out HNX.out).elim hk4 hk5
      go_wp2_with fail
      refine HN.out.mono ?_;rintro e w8⟨rfl,hb8⟩;obtain⟨w9,hw9,z0,z1,z2,z3,y0,y1,y2,y3,wa,hwa,hba,hsa⟩:=new4 w8 144 (.int .i64 0) (.float .f64 0) (.int .i64 0) (.int .i64 0) (.int .i64 n.kind) (.float .f64 n.val) (.int .i64 n.a) (.int .i64 n.b);obtain⟨x0,x1,x2,x3⟩:=aU hsa;have HFa:=hdd (HF.out.trans (Fr.of_below (aB hb8 hba)));have HJa:=hdd (HJR.out.below (aB hb8 hba));clear hb8 hba hsa cx;go_wp2_with fail
      go_roundw
      case rel=>exact⟨k+1,by have:=HKL.out;omega,by go_num,HFa,HJa,HNO2⟩
      case measure=>have:=HKL.out;simp[intOf];omega
    . obtain⟨hga,hcs⟩:=HBAD.out.div_case hs hi
      have hq0:q∈l0:=by
       obtain⟨y,hy,e⟩:=HCL.out (q:Int) (by simp[opsN]);have:y=q:=by omega
       rw[<-this];exact hy
      have HGA:=hdd hga;have HQ0:=hdd hq0;clear hga hq0 hs hi;dsimp only at HN;go_wp2_with fail
      refine HN.out.mono ?_;rintro e w8⟨rfl,hb8⟩;obtain⟨w9,hw9,z0,z1,z2,z3,y0,y1,y2,y3,wa,hwa,hba,hsa⟩:=new4 w8 144 (.int .i64 0) (.float .f64 0) (.int .i64 0) (.int .i64 0) (.int .i64 4) (.float .f64 0) (.int .i64 (p:Int)) (.int .i64 (q:Int));obtain⟨x0,x1,x2,x3⟩:=aU hsa;have HFa:=hdd (HF.out.trans (Fr.of_below (aB hb8 hba)));have HJa:=hdd (HJR.out.below (aB hb8 hba));have HBa:=hdd (HBR.out.trans ((aB hb8 hba).mono HBR.out.size));clear hb8 hba hsa cx;go_wp2_with fail
      refine(HJS.out _ _ _ _ q HBa.out HJa.out HQ0.out HGA.out).mono ?_;rintro e wb⟨rfl,hfb,hjb⟩;have HFb:=hdd (HFa.out.trans hfb);have HJb:=hdd hjb;clear hfb hjb x0 x1 x2 x3 z0 z1 z2 z3 y0 y1 y2 y3 hw9 hwa;have HNO2:sgT ns q≠0->Hid (∀i<k+1,l[i]? ≠some root):=fun hsg=>hdd fun i hi he=>by
       rcases ap5.1 hi with h|rfl
       . exact HNO.out i h he
       . rw[HXX.out]at he
         obtain rfl:=ap7 he;exact hsg (HBAD.out.div_at HI0.out HNX.out)
      generalize sgT ns q=S at*;rcases hcs with ⟨rfl,rfl⟩|hsg
      . have HBb:Hid (Below w.heap.size w wb):=hdd (HB7.out.trans (HFb.out.below HB7.out.size (fun b hb=>by have:=HMS.out;omega)))
        clear HNO2 HFb HJb;go_wp2_with fail
        refine divzero_any.mono ?_;rintro e wc⟨rfl,rfl⟩;go_wp2_with fail
        refine(aoC (by omega) (by omega)).mono ?_;rintro e wd⟨er,n,rfl,hn,he,hb4⟩;have HE:=hdd (And.intro hn (he.mono (T:=an1 w wd) fun b hb _=>⟨ap6 HBb.out.size hb.1,hb.2⟩));have HBd:=hdd (aB HBb.out hb4);clear hn he hb4;go_wp2
        go_ret2
        exact⟨_,_,rfl,HE.out.1,HE.out.2,HBd.out⟩
      . have HNO3:=HNO2 (by omega)
        clear HNO2;go_wp2_with fail
        go_roundw
        case rel=>exact⟨k+1,by have:=HKL.out;omega,by go_num,HFb,HJb,HNO3⟩
        case measure=>have:=HKL.out;simp[intOf];omega
    . obtain⟨hga,hcs⟩:=HBAD.out.root_case hs hi
      have hq0:p∈l0:=by
       obtain⟨y,hy,e⟩:=HCL.out (p:Int) (by simp[opsN]);have:y=p:=by omega
       rw[<-this];exact hy
      have HGA:=hdd hga;have HQ0:=hdd hq0;clear hga hq0 hs hi;dsimp only at HN;go_wp2_with fail
      refine HN.out.mono ?_;rintro e w8⟨rfl,hb8⟩;obtain⟨w9,hw9,z0,z1,z2,z3,y0,y1,y2,y3,wa,hwa,hba,hsa⟩:=new4 w8 144 (.int .i64 0) (.float .f64 0) (.int .i64 0) (.int .i64 0) (.int .i64 5) (.float .f64 0) (.int .i64 (p:Int)) (.int .i64 0);obtain⟨x0,x1,x2,x3⟩:=aU hsa;have HFa:=hdd (HF.out.trans (Fr.of_below (aB hb8 hba)));have HJa:=hdd (HJR.out.below (aB hb8 hba));have HBa:=hdd (HBR.out.trans ((aB hb8 hba).mono HBR.out.size));clear hb8 hba hsa cx;go_wp2_with fail
      refine(HJS.out _ _ _ _ p HBa.out HJa.out HQ0.out HGA.out).mono ?_;rintro e wb⟨rfl,hfb,hjb⟩;have HFb:=hdd (HFa.out.trans hfb);have HJb:=hdd hjb;clear hfb hjb x0 x1 x2 x3 z0 z1 z2 z3 y0 y1 y2 y3 hw9 hwa;have HNO2:¬sgT ns p<0->Hid (∀i<k+1,l[i]? ≠some root):=fun hsg=>hdd fun i hi he=>by
       rcases ap5.1 hi with h|rfl
       . exact HNO.out i h he
       . rw[HXX.out]at he
         obtain rfl:=ap7 he;exact hsg (HBAD.out.root_at HI0.out HNX.out)
      generalize sgT ns p=S at*;rcases hcs with ⟨hneg,rfl⟩|hsg
      . have HBb:Hid (Below w.heap.size w wb):=hdd (HB7.out.trans (HFb.out.below HB7.out.size (fun b hb=>by have:=HMS.out;omega)))
        clear HNO2 HFb HJb;go_wp2_with fail
        refine negroot_any.mono ?_;rintro e wc⟨rfl,rfl⟩;go_wp2_with fail
        refine(aoC (by omega) (by omega)).mono ?_;rintro e wd⟨er,n,rfl,hn,he,hb4⟩;have HE:=hdd (And.intro hn (he.mono (T:=an1 w wd) fun b hb _=>⟨ap6 HBb.out.size hb.1,hb.2⟩));have HBd:=hdd (aB HBb.out hb4);clear hn he hb4;go_wp2
        go_ret2
        exact⟨_,_,rfl,HE.out.1,HE.out.2,HBd.out⟩
      . have HNO3:=HNO2 (by omega)
        clear HNO2;go_wp2_with fail
        go_roundw
        case rel=>exact⟨k+1,by have:=HKL.out;omega,by go_num,HFb,HJb,HNO3⟩
        case measure=>have:=HKL.out;simp[intOf];omega
  . have hke:k=l.length:=by omega
    subst hke;obtain⟨i,hi⟩:=List.mem_iff_getElem?.1 HI.out.rt;exact absurd hi (HNO.out i (List.getElem?_eq_some_iff.1 hi).1)
theorem aoD{g root:Nat}(hd:DagP w g ns)(ok:OkNs ns)(hlf:iH ns)(hro:iI ns)(hI:Is ns e0 root)(hbad:BadE e0 kk)(hT:Tab w):
 Calls Tryz.prog 27 #[.pointer (some ⟨g,0,none⟩),.int .i64 (root:Int),.slice none 0 0] w (anX w (.int .i64 0) kk):=by
 have HEX:Hid (∀w',Below w.heap.size w w'->Calls Tryz.prog 73 #[.pointer (some ⟨g,0,none⟩),.int .i64 (root:Int),.agg #[.bool true,.int .i64 32]] w' (anX w' (.pointer none) kk)):=hdd fun w' h=>an5 (hd.below h) ok hlf hro hI hbad (hT.below h);clear hd ok hlf hro hI hbad hT;go_enter Tryz.func27,Tryz.ntmps27
 go_wp2_with fail
 refine chosen_any.mono ?_;rintro e w1⟨rfl,hb1⟩;have HB1:=hdd hb1;clear hb1;go_wp2_with fail
 refine(HEX.out _ HB1.out).mono ?_;rintro e w2⟨er,n,rfl,hn,he,hb2⟩;obtain⟨vt,vx,rfl⟩:=he.iface;have HE:=hdd (And.intro hn (he.mono (T:=an1 w w2) fun b hb _=>⟨ap6 HB1.out.size hb.1,hb.2⟩));have HB2:=hdd (aB HB1.out hb2);clear hn he hb2 HEX;go_wp2
 go_ret2
 exact⟨_,_,rfl,HE.out.1,HE.out.2,HB2.out⟩
section
variable{s:Bs}{W:World}{g N i j b v:Nat}{K:List (Ex×Nat)}{l:List (Nat×Obj)}{x y:Ex}{p:Nat×Obj}
theorem Run.tail (h:Run s g N K (p::l) W):Run s g N K l W:=h.sub (fun _ hq=>List.mem_cons_of_mem _ hq) (List.nodup_cons.1 (by have:=h.nodup;rwa[List.map_cons]at this)).2
theorem Run.dleaf (h:Run s g N K l W)(hN:N<20000)(hv:v<18446744073709551616)(hf:fin v):Calls Tryz.prog 64 #[.pointer (some ⟨g,0,none⟩),.float .f64 v] W (RtO s g (N+1) K l (.leaf v)):=by
 obtain⟨ns,hs,hK⟩:=h;exact(ah4 hs.st hN hv hf trivial).mono fun _ _ hr=>o8 hs hK hr
theorem Run.dsub (h:Run s g N K l W)(hN:N<20000)(hx:(x,i)∈K)(hy:(y,j)∈K):Calls Tryz.prog 33 #[.pointer (some ⟨g,0,none⟩),.int .i64 (i:Int),.int .i64 (j:Int)] W (RtO s g (N+1) K l (.sub x y)):=by
 obtain⟨ns,hs,hK⟩:=h;exact(akH hs.st hN (hK _ hx) (hK _ hy) trivial).mono fun _ _ hr=>o8 hs hK hr
theorem Run.ddiv (h:Run s g N K l W)(hN:N<20000)(hx:(x,i)∈K)(hy:(y,j)∈K):Calls Tryz.prog 36 #[.pointer (some ⟨g,0,none⟩),.int .i64 (i:Int),.int .i64 (j:Int)] W (RtO s g (N+1) K l (.div x y)):=by
 obtain⟨ns,hs,hK⟩:=h;exact(ao1 hs.st hN (hK _ hx) (hK _ hy) trivial).mono fun _ _ hr=>o8 hs hK hr
theorem Run.droot (h:Run s g N K l W)(hN:N<20000)(hx:(x,i)∈K):Calls Tryz.prog 32 #[.pointer (some ⟨g,0,none⟩),.int .i64 (i:Int)] W (RtO s g (N+1) K l (.root x)):=by
 obtain⟨ns,hs,hK⟩:=h;exact(aoR hs.st hN (hK _ hx) trivial).mono fun _ _ hr=>o8 hs hK hr
theorem Run.ints2 (hs:Stg PT s.B N s.w g s.ns W ns l)(hb:(b,.cells #[.int .i64 (i:Int),.int .i64 (j:Int)] 3)∈l):IntsD g W (.slice (some ⟨b,0,none⟩) 2 2) [i,j]:=by
 obtain⟨h1,h2,-⟩:=hs.kept _ hb;refine⟨b,2,rfl,Nat.le_refl _,by decide,h2,aH h1,fun k x hx=> ?_⟩
 match k,hx with
 |0,hx=>obtain rfl:i=x:=by simpa using hx
        exact oQ h1 rfl
 |1,hx=>obtain rfl:j=x:=by simpa using hx
        exact oQ h1 rfl
theorem Run.dadd (h:Run s g N K l W)(hN:N<20000)(hx:(x,i)∈K)(hy:(y,j)∈K)(hb:(b,.cells #[.int .i64 (i:Int),.int .i64 (j:Int)] 3)∈l):Calls Tryz.prog 35 #[.pointer (some ⟨g,0,none⟩),.slice (some ⟨b,0,none⟩) 2 2] W (RtO s g (N+1) K l (.add x y)):=by
 obtain⟨ns,hs,hK⟩:=h;refine(ah8 (es:=[y]) hs.st (Run.ints2 hs hb) rfl (by simp) (hK _ hx) (fun m x' e h1 h2=> ?_) (fun _ _=>trivial) (by show N+1<=20000;omega)).mono fun _ _ hr=>o8 hs hK hr
 match m,h1,h2 with
 |0,h1,h2=>
  obtain rfl:j=x':=by simpa using h1
  obtain rfl:y=e:=by simpa using h2
  exact hK _ hy
theorem Run.dmul (h:Run s g N K l W)(hN:N<20000)(hx:(x,i)∈K)(hy:(y,j)∈K)(hb:(b,.cells #[.int .i64 (i:Int),.int .i64 (j:Int)] 3)∈l):Calls Tryz.prog 34 #[.pointer (some ⟨g,0,none⟩),.slice (some ⟨b,0,none⟩) 2 2] W (RtO s g (N+1) K l (.mul x y)):=by
 obtain⟨ns,hs,hK⟩:=h;refine(ah9 (es:=[y]) hs.st (Run.ints2 hs hb) rfl (by simp) (hK _ hx) (fun m x' e h1 h2=> ?_) (fun _ _=>trivial) (by show N+1<=20000;omega)).mono fun _ _ hr=>o8 hs hK hr
 match m,h1,h2 with
 |0,h1,h2=>
  obtain rfl:j=x':=by simpa using h1
  obtain rfl:y=e:=by simpa using h2
  exact hK _ hy
theorem Run.dint {z:Int}(h:Run s g N K l W)(hN:N<20000)(hz:0<=z/\z<=1000):Calls Tryz.prog 31 #[.pointer (some ⟨g,0,none⟩),.int .i64 z] W (RtO s g (N+1) K l (li z)):=by
 have hf:=qM (k:=z) (by omega);have HL:=hdd (h.dleaf hN hf.1 hf.2.1);have h1:decide (z< -9007199254740992)=false:=decide_eq_false (by omega);have h2:decide (z>9007199254740992)=false:=decide_eq_false (by omega);have h3:decide (9007199254740992<z)=false:=h2;have hc:floatOfInt FloatKind.f64 z=fl z:=rfl;clear h hN hz hf;go_enter Tryz.func31,Tryz.ntmps31
 go_wp2_with fail
 refine HL.out.mono ?_;rintro e w2⟨k,rfl,hR⟩;have HR:=hdd hR;clear hR;go_wp2;go_ret;exact⟨k,rfl,HR.out⟩
end
end Go.Proofs.YtebdolonckjpiaaGreatDoor
namespace Go.Proofs.YtebdolonckjpiaaGreatDoor
open Go.RowKit Go.Maps Go.Stop Go.Extern
open Re (rat)
variable{x:Ex}{kk:Int}{K:List (Ex×Nat)}{l:List (Nat×Obj)}{N g i:Nat}{W:World}
theorem Fit.fine {L:List Ex}{s:Sh}{a:Ex}{x:Re}(h:Fit L s a x)(hs:(s.ok L.length&&s.top L.length)=true):Fine a/\Gd L.length 11 a x:=by
 rw[Bool.and_eq_true]at hs;have h1:=h hs.1;exact⟨⟨⟨x,(h1.good hs.2).den⟩,h1.gd⟩,h1.good hs.2⟩
theorem ao6{B:Nat}{w:World}{k:Nat}{ns:List Nd}{e:Ex}(hs:St PT B N w g ns)(hi:Is ns e k)(h:BadE e kk):Calls Tryz.prog 27 #[.pointer (some ⟨g,0,none⟩),.int .i64 (k:Int),.slice none 0 0] w (anX w (.int .i64 0) kk):=
 aoD hs.dag (alA hs.all) (afX hs.all) (afY hs.all) hi h hs.tab
theorem Run.dbad {s:Bs}(h:Run s g N K l W)(hx:(x,i)∈K)(hb:BadE x kk):Calls Tryz.prog 27 #[.pointer (some ⟨g,0,none⟩),.int .i64 (i:Int),.slice none 0 0] W (anX W (.int .i64 0) kk):=by
 obtain⟨ns,hs,hK⟩:=h;exact ao6 hs.st (hK _ hx) hb
theorem Run.dsign {s:Bs}{q:Int}(h:Run s g N K l W)(hx:(x,i)∈K)(hS:gY PT x q):Calls Tryz.prog 27 #[.pointer (some ⟨g,0,none⟩),.int .i64 (i:Int),.slice none 0 0] W (RtA s g N K l (.tuple #[.int .i64 q,.nilIface])):=by
 obtain⟨ns,hs,hK⟩:=h;exact(hS _ _ _ _ _ _ hs.st (hK _ hx)).mono fun _ _ hr=>⟨hr.1,ns,hs.below hr.2,hK⟩
abbrev aoJ:Ex:=.add (.root (li 2)) (.root (li 3))
abbrev aoK:Ex:=.add (li 5) (.mul (li 2) (.root (li 6)))
theorem ao7(x y:Re):(x+y)*(x+y)-(rat 5+rat 2*(x*y))=(x*x-rat 2)+(y*y-rat 3):=by revert x y;exact Re.all2 fun a b=>Re.same fun n=>by simp only[Re.addC_f,Re.mulC_f,Re.negC_f,Re.ratC_f];grind
theorem ao0(x y:Re):(x*y)*(x*y)=(x*x)*(y*y):=by revert x y;exact Re.all2 fun a b=>Re.same fun n=>by simp only[Re.addC_f,Re.mulC_f,Re.negC_f,Re.ratC_f];grind
theorem apF(x y:Re):(rat 5+rat 2*(x*y))-(x+y)=(rat 1+rat 2*(x*y))+((rat 2-x)+(rat 2-y)):=by revert x y;exact Re.all2 fun a b=>Re.same fun n=>by simp only[Re.addC_f,Re.mulC_f,Re.negC_f,Re.ratC_f];grind
theorem apJ:gY PT (.sub (.mul aoJ aoJ) aoK) 0/\gY PT (.sub aoK aoJ) 1/\BadE (.div aoJ (.sub aoK aoK)) 2:=by
 have nn:∀{n:Int},0<=n->(0:Re)<=rat (n:Rat):=fun h=>by rw[Re.zero_rat,Re.rat_le];exact Rat.intCast_le_intCast.2 h
 obtain⟨x,hx,ex⟩:=Re.exists_sqrt (nn (show(0:Int)<=2 by decide));obtain⟨y,hy,ey⟩:=Re.exists_sqrt (nn (show(0:Int)<=3 by decide));obtain⟨L,hL⟩:∃L:List Ex,L=[.root (li 2),.root (li 3),.root (li 6)]:=⟨_,rfl⟩;have l3:L.length=3:=by rw[hL];rfl
 have e2:((2:Int):Rat)=2:=by norm_cast
 have e3:((3:Int):Rat)=3:=by norm_cast
 have e5:((5:Int):Rat)=5:=by norm_cast
 have f2:=anN (L:=L) (k:=2) 2 (by decide) (by decide);have f3:=anN (L:=L) (k:=3) 2 (by decide) (by decide);have f5:=anN (L:=L) (k:=5) 3 (by decide) (by decide);have f6:=anN (L:=L) (k:=6) 3 (by decide) (by decide);have e6:(x*y)*(x*y)=rat ((6:Int):Rat):=by
  rw[ao0,ex,ey,<-Re.rat_mul,<-Rat.intCast_mul];rfl
 have X:=Fit.root f2 hx ex (by rw[hL];simp);have Y:=Fit.root f3 hy ey (by rw[hL];simp);have Z:=Fit.root f6 (Re.mul_nonneg hx hy) e6 (by rw[hL];simp);have S:=Fit.add X Y;have T:=Fit.add f5 (Fit.mul f2 Z);rw[e2]at ex T;rw[e3]at ey;rw[e5]at T;have h1:=(Fit.sub (Fit.mul S S) T).sgn (P:=PT) (by rw[l3];decide+kernel);have h2:=(Fit.sub T S).sgn (P:=PT) (by rw[l3];decide+kernel);have h3:=(Fit.sub T T).fine (by rw[l3];decide+kernel);have h4:=S.fine (by rw[l3];decide+kernel);have z0:(x+y)*(x+y)-(rat 5+rat 2*(x*y))=0:=by rw[ao7,ex,ey,Re.sub_self,Re.sub_self,Re.add_zero]
 have lt2:∀{z:Re} {q:Rat},0<=z->z*z=rat q->q<4->z<rat 2:=fun{z q} hz hq h=>by
  rcases Re.lt_or_ge z (rat 2)with k|k
  . exact k
  . have h0:(0:Re)<=rat 2:=by rw[Re.zero_rat,Re.rat_le];decide
    have h5:=Re.mul_le_mul h0 k h0 k;rw[hq,<-Re.rat_mul,Re.rat_le]at h5;exfalso;have:(2:Rat)*2=4:=by grind
    rw[this]at h5;exact absurd h (Rat.not_lt.2 h5)
 have p0:0<(rat 5+rat 2*(x*y))-(x+y):=by
  rw[apF];have q1:(0:Re)<rat 1:=by rw[Re.zero_rat,Re.rat_lt];decide
  have q2:(0:Re)<=rat 2*(x*y):=Re.mul_nonneg (by rw[Re.zero_rat,Re.rat_le];decide) (Re.mul_nonneg hx hy);have q3:=Re.sub_pos.2 (lt2 hx ex (by decide));have q4:=Re.sub_pos.2 (lt2 hy ey (by decide));have q5:=Re.add_lt_add q3 q4;rw[Re.add_zero]at q5;have q6:(0:Re)<rat 1+rat 2*(x*y):=by
   have:=Re.add_le_add (Re.le_refl (rat 1)) q2;rw[Re.add_zero]at this;exact Re.lt_of_lt_of_le q1 this
  have:=Re.add_lt_add q6 q5;rwa[Re.add_zero]at this
 rw[z0,Re.sgn_zero]at h1;rw[Re.sgn_pos p0]at h2;refine⟨h1,h2,Or.inl ⟨_,_,L.length,11,rfl,rfl,h4.1,h3.1,?_⟩⟩;have:=h3.2;rwa[Re.sub_self]at this
end Go.Proofs.YtebdolonckjpiaaGreatDoor
namespace Go.Proofs.YtebdolonckjpiaaGreatDoor
open Go.RowKit Go.Maps
open Re (rat)
def Zer(x:Ex):Prop:=∃K,Gd K 11 x 0/\AllG11 x
theorem apG{B N:Nat}{w:World}{g k:Nat}{ns:List Nd}{x:Ex}(hs:St PT B N w g ns)(hi:Is ns x k)(hz:Zer x){f:Bool}{b:Nat}{s:Int}(hb:w.heap[b]? =some (.cells #[.bool f,.int .i64 s] 65 (0,0))):
 Calls Tryz.prog 27 #[.pointer (some ⟨g,0,none⟩),.int .i64 (k:Int),.slice (some ⟨b,0,none⟩) 1 1] w (fun e w'=>e=.returned (.tuple #[.int .i64 0,.nilIface])/\Below w.heap.size w w'):=by
 obtain⟨K,hG,hA⟩:=hz;have hp:=ao5 s;have:=aoB (f:=f) (st:=stB s) (vw:=.slice (some ⟨b,0,none⟩) 1 1) hs.dag (alA hs.all) (afX hs.all) (afY hs.all) hi hG hA hs.tab hp
  (fun _ w' h=>an9 (hs.dag.below h) (alA hs.all) (afX hs.all) (afY hs.all) (anG hG.fin hG.den (Int.le_trans (xF (by omega) (by rw[amV];exact hp.2) x) hG.size) hp) ⟨x,SubE.refl x,hi⟩ hi.lt (hs.tab.below h) hp)
  (fun w' h=>aoH (hbl hb h))
 rwa[Re.sgn_zero]at this
theorem ze_1(x y:Re):(x+y)*(x-y)=x*x-y*y:=by revert x y;exact Re.all2 fun a b=>Re.same fun n=>by simp only[Re.addC_f,Re.mulC_f,Re.negC_f];grind
theorem zer4{a b:Int}(ha:0<=a/\a<1000)(hb:0<=b/\b<1000):
 Zer (.sub (.mul (.root (li a)) (.root (li a))) (li a))/\
 Zer (.sub (.mul (.add (.root (li a)) (.root (li b))) (.sub (.root (li a)) (.root (li b)))) (.sub (li a) (li b)))/\
 Zer (.sub (.root (.mul (li a) (li b))) (.mul (.root (li a)) (.root (li b))))/\
 Zer (.sub (.div (.add (li a) (li 1)) (.add (li a) (li 1))) (li 1)):=by
 have nn:∀{n:Int},0<=n->(0:Re)<=rat (n:Rat):=fun h=>by rw[Re.zero_rat,Re.rat_le];exact Rat.intCast_le_intCast.2 h
 obtain⟨x,hx,ex⟩:=Re.exists_sqrt (nn ha.1);obtain⟨y,hy,ey⟩:=Re.exists_sqrt (nn hb.1);obtain⟨L,hL⟩:∃L:List Ex,L=[.root (li a),.root (li b),.root (.mul (li a) (li b))]:=⟨_,rfl⟩;have l3:L.length=3:=by rw[hL];rfl
 have fa:=anN (L:=L) (k:=a) 10 (by have:(2:Nat)^10=1024:=(by decide);omega) (by decide);have fb:=anN (L:=L) (k:=b) 10 (by have:(2:Nat)^10=1024:=(by decide);omega) (by decide);have e3:(x*y)*(x*y)=rat (a:Rat)*rat (b:Rat):=by rw[ao0,ex,ey]
 have X:=Fit.root fa hx ex (by rw[hL];simp);have Y:=Fit.root fb hy ey (by rw[hL];simp);have M:=Fit.mul fa fb;have Z:=Fit.root M (Re.mul_nonneg hx hy) e3 (by rw[hL];simp);have gA:=(fa.fine (by rw[l3];decide+kernel)).2;have gB:=(fb.fine (by rw[l3];decide+kernel)).2;have gM:=(M.fine (by rw[l3];decide+kernel)).2;have h1:=((X.mul X).sub fa).fine (by rw[l3];decide+kernel);have h2:=(((X.add Y).mul (X.sub Y)).sub (fa.sub fb)).fine (by rw[l3];decide+kernel);have h3:=(Z.sub (X.mul Y)).fine (by rw[l3];decide+kernel);rw[ex,Re.sub_self]at h1;rw[<-ex,<-ey,ze_1,Re.sub_self]at h2;rw[Re.sub_self]at h3;have ka:AllG11 (li a):=AllG11.leaf _;have kb:AllG11 (li b):=AllG11.leaf _;have k1:AllG11 (li 1):=AllG11.leaf _;have rA:=ka.root gA;have rB:=kb.root gB;have rM:=(ka.mul kb).root gM;have f0:=anN (L:=[]) (k:=a) 10 (by have:(2:Nat)^10=1024:=(by decide);omega) (by decide);have f1:=anN (L:=[]) (k:=1) 1 (by decide) (by decide);have S:=f0.add f1;have gS:=(S.fine (by decide+kernel)).2;have s0:rat (a:Rat)+rat ((1:Int):Rat)≠0:=fun h=>by
  rw[<-Re.rat_add,<-Rat.intCast_add]at h;have:=Re.rat_inj.1 (h.trans Re.zero_rat);have:a+1=0:=by exact_mod_cast this
  omega
 have one:rat ((1:Int):Rat)*(rat (a:Rat)+rat ((1:Int):Rat))=rat (a:Rat)+rat ((1:Int):Rat):=by
  rw[show((1:Int):Rat)=1 by norm_cast,<-Re.one_rat,Re.one_mul]
 have h4:=((Fit.div Lok.nil S S s0 one).sub f1).fine (by decide+kernel);rw[Re.sub_self]at h4;exact⟨⟨_,h1.2,(rA.mul rA).sub ka⟩,⟨_,h2.2,((rA.add rB).mul (rA.sub rB)).sub (ka.sub kb)⟩,⟨_,h3.2,rM.sub (rA.mul rB)⟩,⟨_,h4.2,((ka.add k1).div (ka.add k1) gS).sub k1⟩⟩
end Go.Proofs.YtebdolonckjpiaaGreatDoor
namespace Go.Proofs.YtebdolonckjpiaaGreatDoor
open Go.RowKit Go.Maps Go.Stop Go.Extern
open Go.World renaming cell?->aqA
variable{f:Bool}{k m:Nat}
theorem ao8{w:World}(hT:Tab w)(htb:0<w.heap.size):
 Calls Tryz.prog 26 #[] w (RetV w (.bool true)):=by
 have HN:=hdd (adI (l:=[]) (Below.refl w.heap.size w) (fun p hp=>by cases hp) (by simp) hT htb);clear hT htb;have HX:=hdd apJ;go_enter Tryz.func26,Tryz.ntmps26
 go_wp2_with fail
 refine HN.out.mono ?_;rintro e W1⟨g,rfl,hR⟩;have R0:=hdd hR;clear hR HN;dsimp only;go_wp2_with fail
 refine(Run.dint (z:=2) R0.out (by omega) (by decide)).mono ?_;rintro e w1⟨k1,rfl,hR⟩;have R1:=hdd hR;clear hR R0;go_wp2_with fail
 refine(Run.droot R1.out (by omega) (by repeat (first|exact .head _|apply List.Mem.tail))).mono ?_;rintro e w2⟨k2,rfl,hR⟩;have R2:=hdd hR;clear hR R1;go_wp2_with fail
 refine(Run.dint (z:=3) R2.out (by omega) (by decide)).mono ?_;rintro e w3⟨k3,rfl,hR⟩;have R3:=hdd hR;clear hR R2;go_wp2_with fail
 refine(Run.droot R3.out (by omega) (by repeat (first|exact .head _|apply List.Mem.tail))).mono ?_;rintro e w4⟨k4,rfl,hR⟩;have R4:=hdd hR;clear hR R3;obtain⟨w5,hw5,-,-,-⟩:=pro1 w4 (.cells #[.int .i64 (k2:Int),.int .i64 (k4:Int)] 3);have R5:=hdd (hw5▸Run.alloc R4.out (.cells #[.int .i64 (k2:Int),.int .i64 (k4:Int)] 3));clear R4;go_wp2_with fail
 refine(Run.dadd R5.out (by omega) (by repeat (first|exact .head _|apply List.Mem.tail)) (by repeat (first|exact .head _|apply List.Mem.tail)) (.head _)).mono ?_;rintro e w6⟨k6,rfl,hR⟩;have R6:=hdd hR;clear hR R5;replace R6:=hdd (Run.tail R6.out);go_wp2_with fail
 refine(Run.dint (z:=5) R6.out (by omega) (by decide)).mono ?_;rintro e w7⟨k7,rfl,hR⟩;have R7:=hdd hR;clear hR R6;go_wp2_with fail
 refine(Run.dint (z:=2) R7.out (by omega) (by decide)).mono ?_;rintro e w8⟨k8,rfl,hR⟩;have R8:=hdd hR;clear hR R7;go_wp2_with fail
 refine(Run.dint (z:=6) R8.out (by omega) (by decide)).mono ?_;rintro e w9⟨k9,rfl,hR⟩;have R9:=hdd hR;clear hR R8;go_wp2_with fail
 refine(Run.droot R9.out (by omega) (by repeat (first|exact .head _|apply List.Mem.tail))).mono ?_;rintro e w10⟨k10,rfl,hR⟩;have R10:=hdd hR;clear hR R9;obtain⟨w11,hw11,-,-,-⟩:=pro1 w10 (.cells #[.int .i64 (k8:Int),.int .i64 (k10:Int)] 3);have R11:=hdd (hw11▸Run.alloc R10.out (.cells #[.int .i64 (k8:Int),.int .i64 (k10:Int)] 3));clear R10;go_wp2_with fail
 refine(Run.dmul R11.out (by omega) (by repeat (first|exact .head _|apply List.Mem.tail)) (by repeat (first|exact .head _|apply List.Mem.tail)) (.head _)).mono ?_;rintro e w12⟨k12,rfl,hR⟩;have R12:=hdd hR;clear hR R11;replace R12:=hdd (Run.tail R12.out);obtain⟨w13,hw13,-,-,-⟩:=pro1 w12 (.cells #[.int .i64 (k7:Int),.int .i64 (k12:Int)] 3);have R13:=hdd (hw13▸Run.alloc R12.out (.cells #[.int .i64 (k7:Int),.int .i64 (k12:Int)] 3));clear R12;go_wp2_with fail
 refine(Run.dadd R13.out (by omega) (by repeat (first|exact .head _|apply List.Mem.tail)) (by repeat (first|exact .head _|apply List.Mem.tail)) (.head _)).mono ?_;rintro e w14⟨k14,rfl,hR⟩;have R14:=hdd hR;clear hR R13;replace R14:=hdd (Run.tail R14.out);obtain⟨w15,hw15,-,-,-⟩:=pro1 w14 (.cells #[.int .i64 (k6:Int),.int .i64 (k6:Int)] 3);have R15:=hdd (hw15▸Run.alloc R14.out (.cells #[.int .i64 (k6:Int),.int .i64 (k6:Int)] 3));clear R14;go_wp2_with fail
 refine(Run.dmul R15.out (by omega) (by repeat (first|exact .head _|apply List.Mem.tail)) (by repeat (first|exact .head _|apply List.Mem.tail)) (.head _)).mono ?_;rintro e w16⟨k16,rfl,hR⟩;have R16:=hdd hR;clear hR R15;replace R16:=hdd (Run.tail R16.out);go_wp2_with fail
 refine(Run.dsub R16.out (by omega) (by repeat (first|exact .head _|apply List.Mem.tail)) (by repeat (first|exact .head _|apply List.Mem.tail))).mono ?_;rintro e w17⟨k17,rfl,hR⟩;have R17:=hdd hR;clear hR R16;go_wp2_with fail
 refine(Run.dsign R17.out (.head _) HX.out.1).mono ?_;rintro e w18⟨rfl,hR⟩;have R18:=hdd hR;clear hR R17;go_wp2_with fail
 refine(Run.dsub R18.out (by omega) (by repeat (first|exact .head _|apply List.Mem.tail)) (by repeat (first|exact .head _|apply List.Mem.tail))).mono ?_;rintro e w19⟨k19,rfl,hR⟩;have R19:=hdd hR;clear hR R18;go_wp2_with fail
 refine(Run.dsign R19.out (.head _) HX.out.2.1).mono ?_;rintro e w20⟨rfl,hR⟩;have R20:=hdd hR;clear hR R19;go_wp2_with fail
 refine(Run.dsub R20.out (by omega) (by repeat (first|exact .head _|apply List.Mem.tail)) (by repeat (first|exact .head _|apply List.Mem.tail))).mono ?_;rintro e w21⟨k21,rfl,hR⟩;have R21:=hdd hR;clear hR R20;go_wp2_with fail
 refine(Run.ddiv R21.out (by omega) (by repeat (first|exact .head _|apply List.Mem.tail)) (by repeat (first|exact .head _|apply List.Mem.tail))).mono ?_;rintro e w22⟨k22,rfl,hR⟩;have R22:=hdd hR;clear hR R21;go_wp2_with fail
 have HB:=hdd (Run.below R22.out);refine(Run.dbad R22.out (.head _) HX.out.2.2).mono ?_;rintro e wa⟨er,n,rfl,hn,he,hb⟩;have HC:=hdd (aoV he (by omega));have HB2:=hdd (aB HB.out hb);obtain⟨vt,vx,rfl⟩:=he.iface;clear hn he hb R22 HX;go_wp2_with fail
 refine HC.out.mono ?_;rintro e wb⟨rfl,hb⟩;have HB3:=hdd (aB HB2.out hb);clear hb;go_wp2;go_ret;exact⟨rfl,HB3.out⟩
theorem Run.keep {s : Bs} {g N : Nat} {K : List (Ex × Nat)} {l : List (Nat × Obj)} {W W' : World} {b : Nat} {o : Obj} (h : Run s g N K l W) (hb : Below W.heap.size W W') (ho : W'.heap[b]? = some o) (hlo : W.heap.size ≤ b) : Run s g N K ((b, o) :: l) W' := by
  obtain ⟨ns', hs, hK⟩ := h
  have h' := hs.below hb
  refine ⟨ns', ⟨h'.grew, fun p hp => ?_, h'.hw, ?_⟩, hK⟩
  · rcases List.mem_cons.1 hp with rfl | hp
    · exact ⟨ho, fun hd => by have := hs.grew.1.dag.dagB ((DagB.congr (hb.block g hs.grew.1.dag.glt)).1 hd); simp only at this; omega, Nat.le_trans hs.grew.2.2.size hlo⟩
    · exact h'.kept p hp
  · rw [List.map_cons, List.nodup_cons]
    refine ⟨fun hm => ?_, h'.nodup⟩
    obtain ⟨p, hp, e⟩ := List.mem_map.1 hm
    have := hs.lt hp; simp only at e; omega
theorem Run.dzero {s:Bs}{g N i b:Nat}{K:List (Ex×Nat)}{l:List (Nat×Obj)}{W:World}{x:Ex}{t:Int}(h:Run s g N K l W)(hx:(x,i)∈K)(hz:Zer x)(hb:(b,.cells #[.bool f,.int .i64 t] 65)∈l):Calls Tryz.prog 27 #[.pointer (some ⟨g,0,none⟩),.int .i64 (i:Int),.slice (some ⟨b,0,none⟩) 1 1] W (RtA s g N K l (.tuple #[.int .i64 0,.nilIface])):=by
 have hb:=h.at hb;obtain⟨ns,hs,hK⟩:=h;exact(apG hs.st (hK _ hx) hz hb).mono fun _ _ hr=>⟨hr.1,ns,hs.below hr.2,hK⟩
def wayO(t:Int):Obj:=.cells #[.bool true,.int .i64 32,.bool false,.int .i64 32,.bool true,.int .i64 t,.bool false,.int .i64 t] 65
theorem ways_call{w:World}{t:Int}:Calls Tryz.prog 37 #[.int .i64 t] w (fun e W=>e=.returned (.slice (some ⟨w.heap.size,0,none⟩) 4 4)/\Below w.heap.size w W/\W.heap[w.heap.size]? =some (wayO t)):=by
 obtain⟨w1,hw1,hb1,hs1,b1⟩:=pro1 w (wayO t);have HB:=hdd hb1;have H1:=hdd b1;unfold wayO at hw1;clear hb1 hs1 b1;go_enter Tryz.func37,Tryz.ntmps37
 go_wp2;go_ret;exact⟨rfl,HB.out,H1.out⟩
theorem aoL(k:Int):0<=(wrap64 (k.tmod 1000+1000)).tmod 1000/\(wrap64 (k.tmod 1000+1000)).tmod 1000<1000:=by
 have h1:=Int.lt_tmod_of_pos k (show(0:Int)<1000 by decide);have h2:=Int.tmod_lt_of_pos k (show(0:Int)<1000 by decide);have e:wrap64 (k.tmod 1000+1000)=k.tmod 1000+1000:=by unfold wrap64;omega
 rw[e];exact⟨Int.tmod_nonneg _ (by omega),Int.tmod_lt_of_pos _ (by decide)⟩
def ZR(w:World)(g q r:Nat)(t:Int)(k0 k1 k2 k3:Nat)(W:World):Prop:=∃K N,Run (bs w) g N K [(q,wayO t),(r,.cells #[.int .i64 (k0:Int),.int .i64 (k1:Int),.int .i64 (k2:Int),.int .i64 (k3:Int)] 3)] W/\∀k∈[k0,k1,k2,k3],∃x,(x,k)∈K/\Zer x
section
variable{w W:World}{g q r k0 k1 k2 k3:Nat}{t:Int}
theorem ZR.ask (h:ZR w g q r t k0 k1 k2 k3 W)(hk:k∈[k0,k1,k2,k3]){s:Int}:Calls Tryz.prog 27 #[.pointer (some ⟨g,0,none⟩),.int .i64 (k:Int),.slice (some ⟨W.heap.size,0,none⟩) 1 1] (W.alloc (.cells #[.bool f,.int .i64 s] 65)) (fun e W'=>e=.returned (.tuple #[.int .i64 0,.nilIface])/\ZR w g q r t k0 k1 k2 k3 W'):=by
 obtain⟨K,N,hR,hz⟩:=h;obtain⟨x,hx,hzx⟩:=hz k hk;exact((hR.alloc _).dzero hx hzx (.head _)).mono fun _ _ hr=>⟨hr.1,K,N,hr.2.tail,hz⟩
theorem ZR.num (h:ZR w g q r t k0 k1 k2 k3 W)(hm:[k0,k1,k2,k3][m]? =some k):W.cell? ⟨r,m,none⟩=some (.int .i64 (k:Int)):=by
 obtain⟨K,N,hR,-⟩:=h;have h:=hR.at (.tail _ (.head _))
 match m,hm with
 |0,hm=>cases hm;simp[aqA,h]
 |1,hm=>cases hm;simp[aqA,h]
 |2,hm=>cases hm;simp[aqA,h]
 |3,hm=>cases hm;simp[aqA,h]
 |n+4,hm=>simp at hm
theorem ZR.way (hm:m<4):∃(f:Bool) (s:Int),∀W,ZR w g q r t k0 k1 k2 k3 W->W.cell? ⟨q,m*2,none⟩=some (.bool f)/\W.cell? ⟨q,m*2+1,none⟩=some (.int .i64 s):=by
 have H:∀W,ZR w g q r t k0 k1 k2 k3 W->W.heap[q]? =some (.cells #[.bool true,.int .i64 32,.bool false,.int .i64 32,.bool true,.int .i64 t,.bool false,.int .i64 t] 65):=fun W h=>by
  obtain⟨K,N,hR,-⟩:=h;exact hR.at (.head _)
 match m,hm with
 |0,_=>exact⟨true,32,fun W h=>⟨by simp[aqA,H W h],by simp[aqA,H W h]⟩⟩
 |1,_=>exact⟨false,32,fun W h=>⟨by simp[aqA,H W h],by simp[aqA,H W h]⟩⟩
 |2,_=>exact⟨true,t,fun W h=>⟨by simp[aqA,H W h],by simp[aqA,H W h]⟩⟩
 |3,_=>exact⟨false,t,fun W h=>⟨by simp[aqA,H W h],by simp[aqA,H W h]⟩⟩
 |n+4,h=>omega
theorem ZR.drew (h:ZR w g q r t k0 k1 k2 k3 W):ZR w g q r t k0 k1 k2 k3 W.drew:=by
 obtain⟨K,N,hR,hz⟩:=h;exact⟨K,N,hR.drew,hz⟩
theorem ZR.below (h:ZR w g q r t k0 k1 k2 k3 W):Below w.heap.size w W:=by
 obtain⟨K,N,hR,-⟩:=h;exact hR.below
end
end Go.Proofs.YtebdolonckjpiaaGreatDoor
