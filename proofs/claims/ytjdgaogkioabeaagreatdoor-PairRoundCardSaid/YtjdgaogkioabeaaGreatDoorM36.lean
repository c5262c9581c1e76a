/- A part of the proof: contracts of functions and plain laws (PrWxClmU). -/
import Derived.Test.YtjdgaogkioabeaaGreatDoorM34
import Derived.Test.YtjdgaogkioabeaaGreatDoorM35
import Derived.Test.YtjdgaogkioabeaaGreatDoorM32
import Derived.Test.YtjdgaogkioabeaaGreatDoorM18
import Derived.Test.YtjdgaogkioabeaaGreatDoorM16
import Derived.Test.YtjdgaogkioabeaaGreatDoorM15
import Derived.Test.YtjdgaogkioabeaaGreatDoorM14
import Derived.Test.YtjdgaogkioabeaaGreatDoorM13
import Derived.Test.YtjdgaogkioabeaaGreatDoorM12
import Derived.Test.YtjdgaogkioabeaaGreatDoorM08
import Derived.Test.YtjdgaogkioabeaaGreatDoorM07
import Derived.Test.YtjdgaogkioabeaaGreatDoorM06
import Derived.Test.YtjdgaogkioabeaaGreatDoorM05
import Derived.Test.YtjdgaogkioabeaaGreatDoorM04
import Derived.Test.YtjdgaogkioabeaaGreatDoorM03
import Derived.Test.YtjdgaogkioabeaaGreatDoorM02
import Derived.Test.YtjdgaogkioabeaaGreatDoorM01
import Derived.Test.YtjdgaogkioabeaaGreatDoorM11
import Derived.Test.YtjdgaogkioabeaaGreatDoorM10
import Derived.Test.YtjdgaogkioabeaaGreatDoorM09
import Derived.Test.YtjdgaogkioabeaaGreatDoorM17
import Derived.Test.YtjdgaogkioabeaaGreatDoorM19
import Derived.Test.YtjdgaogkioabeaaGreatDoorM31
import Derived.Test.YtjdgaogkioabeaaGreatDoorM30
import Derived.Test.YtjdgaogkioabeaaGreatDoorM29
import Derived.Test.YtjdgaogkioabeaaGreatDoorM28
import Derived.Test.YtjdgaogkioabeaaGreatDoorM27
import Derived.Test.YtjdgaogkioabeaaGreatDoorM24
import Derived.Test.YtjdgaogkioabeaaGreatDoorM23
import Derived.Test.YtjdgaogkioabeaaGreatDoorM21
import Derived.Test.YtjdgaogkioabeaaGreatDoorM20
import Derived.Test.YtjdgaogkioabeaaGreatDoorM22
import Derived.Test.YtjdgaogkioabeaaGreatDoorM26
import Derived.Test.YtjdgaogkioabeaaGreatDoorM25
import Derived.Test.YtjdgaogkioabeaaGreatDoorM33
set_option linter.unusedVariables false
set_option linter.unusedSimpArgs false
set_option maxHeartbeats 25600000
set_option maxRecDepth 100000
namespace Go.Proofs.YtjdgaogkioabeaaGreatDoor
open Go.RowKit Go.Maps Go.Stop Go.Extern
open Int renaming tmod_eq_emod_of_nonneg->bkD
open List renaming mem_cons_of_mem->bkE
open Nat renaming lt_of_lt_of_le->bkF,le_trans->bkG,lt_or_ge->bkH,zero_le->bkI
variable{I J K q:Nat}
theorem abQ(k:Int):∃J:Nat,J<12/\(wrap64 (k.tmod 12+12)).tmod 12=(J:Int):=by
 obtain⟨J,h,e⟩:=am2 k;have h1:=Int.lt_tmod_of_pos k (show(0:Int)<12 by decide);have h2:=Int.tmod_lt_of_pos k (show(0:Int)<12 by decide);exact⟨J,h,by rw[show wrap64 (k.tmod 12+12)=k.tmod 12+12 by unfold wrap64;omega];exact e⟩
theorem abR(h:J<12):((J:Int).tmod 12+12).tmod 12=(J:Int):=by
 have e:(J:Int).tmod 12=J:=by rw[bkD (by omega)];omega
 rw[e,bkD (by omega)];omega
theorem apW(hI:I<12)(hK:K<12):∃n:Nat,n=(K+11-I)%12+1/\wrap64 ((wrap64 (wrap64 ((K:Int)-(I:Int))+11)).tmod 12+1)=(n:Int):=by
 refine⟨_,rfl,?_⟩;rw[show wrap64 ((K:Int)-(I:Int))=(K:Int)-I by unfold wrap64;omega,show wrap64 ((K:Int)-(I:Int)+11)=(K:Int)-I+11 by unfold wrap64;omega,bkD (by omega)];unfold wrap64;omega
theorem modw{k:Nat}(hI:I<12)(hk:k<12):(wrap64 ((I:Int)+(k:Int))).tmod 12=(((I+k)%12:Nat):Int):=by
 rw[show wrap64 ((I:Int)+(k:Int))=(I:Int)+k by unfold wrap64;omega,bkD (by omega)];omega
theorem vH(a b:Nat):((a:Int)==(b:Int))=(a==b):=by rw[Bool.eq_iff_iff,beq_iff_eq,beq_iff_eq];omega
theorem apB(I k J q:Nat):(((I:Int)+k)%12==((J:Int)+q)%12)=((I+k)%12==(J+q)%12):=by rw[Bool.eq_iff_iff,beq_iff_eq,beq_iff_eq];omega
theorem sQ(h:q<1000):wrap64 ((q:Int)+1)=((q+1:Nat):Int):=by unfold wrap64;omega
theorem aaE{r:Nat}(h:q<r):((r:Int)-((q+1:Nat):Int)).toNat<((r:Int)-(q:Int)).toNat:=by omega
theorem ahI(a b:Nat):((a:Int) != (b:Int))= !(a==b):=by rw[bne,vH]
theorem apC{α:Type}(a b:α)(l:List α):(b::(l++[a])).Perm (a::b::(l++[])):=by
 rw[List.append_nil];exact((List.Perm.swap ..).trans (List.Perm.cons _ (List.perm_append_singleton ..).symm)).symm
theorem apD:Crv 2 (fl 0) (fl 0) 4627730092099895296 0 0 25:=⟨flw (by decide),flw (by decide),ahB,by decide,by decide,by decide,Or.inr ⟨rfl,⟨(flw (a:=0) (by decide)).1,(flw (a:=0) (by decide)).1,ahB.1,am1 ahB (by decide)⟩,by decide⟩⟩
theorem abS(hJ:J<12):∃p0 p1,Op2 .add (fl ((0:Int).tmod 7)) (kX J) p0/\Op2 .add (fl ((0:Int).tmod 7)) (kY J) p1/\FlOk p0/\FlOk p1/\Wp p0 p1 (kXi J) (kYi J):=by
 obtain⟨-,-,⟨p,a1,i1,b1⟩,-⟩:=sM 0 hJ rfl;obtain⟨-,-,-,q,a2,i2,b2⟩:=sM 0 hJ rfl;rw[show(0:Int).tmod 7+kXi J=kXi J by simp]at i1 b1;rw[show(0:Int).tmod 7+kYi J=kYi J by simp]at i2 b2;exact⟨p,q,a1,a2,i1.1,i2.1,i1,i2,by omega,by omega⟩
theorem am9(hI:I<12)(hK:K<12):okP 2 0 0 25 (kXi I) (kYi I) (kXi K) (kYi K)=true:=by
 have h1:=am8 ⟨I,hI⟩;have h2:=am8 ⟨K,hK⟩;simp only at h1 h2;simp[okP,onP,h1,h2]
theorem yE{w:World}{a0 a1 a2 a3:Int}(hT:Tab w)(htb:1<w.heap.size):
 Calls Tryz.prog 6 #[.int .i64 a0,.int .i64 a1,.int .i64 a2,.int .i64 a3] w (RetV w (.bool true)):=by
 obtain⟨I,hI,eI⟩:=abQ a0;obtain⟨K,hK,eK⟩:=abQ a1;obtain⟨J,hJ,eJ⟩:=abQ a2;obtain⟨M,hM,eM⟩:=abQ a3;obtain⟨p0,p1,s1,s2,s3,s4,hp⟩:=abS hI;obtain⟨q0,q1,s5,s6,s7,s8,hq⟩:=abS hK;obtain⟨x0,x1,t1,t2,t3,t4,hx⟩:=abS hJ;obtain⟨y0,y1,t5,t6,t7,t8,hy⟩:=abS hM;have HA:=hdd (ahH hT htb);have HT:=hdd (And.intro hT htb);have CR:=hdd fun g i j k l i' j' k' l'=>sP (g:=g) (i:=i) (j:=j) (k:=k) (l:=l) (i':=i') (j':=j') (k':=k') (l':=l') apD hp hq hx hy (am9 hI hK) (am9 hJ hM);have M1:=hdd fun(s:Bs) (g bb:Nat) (l:List (Nat×Obj)) (W:World) (O:Obj) (hR:Run s g 0 [] ((bb,O)::([]++l)) W) (hB:BrdB bb 0 [] O)=>yD (U:=0) (V:=0) (n:=0) hR hB (by omega) (by omega) hI (abR hI) hK (abR hK) rfl rfl s1 s2 s5 s6 s3 s4 s7 s8;have M2:=hdd fun(s:Bs) (g bb:Nat) (K:List (Ex×Nat)) (l ln:List (Nat×Obj)) (W:World) (O:Obj) (hR:Run s g 4 K ((bb,O)::(ln++l)) W) (hB:BrdB bb 4 ln O)=>yD (U:=0) (V:=0) (n:=4) hR hB (by omega) (by omega) hJ (abR hJ) hM (abR hM) rfl rfl t1 t2 t5 t6 t3 t4 t7 t8
 have HI:=hdd (And.intro hI (And.intro hK (And.intro hJ hM)));clear hT htb hp hq hx hy s1 s2 s3 s4 s5 s6 s7 s8 t1 t2 t3 t4 t5 t6 t7 t8;have EI:=hdd eI;have EK:=hdd eK;have EJ:=hdd eJ;have EM:=hdd eM;clear eI eK eJ eM hI hK hJ hM;have hst:=aL;go_enter Tryz.func6,Tryz.ntmps6
 go_wp2_with fail
 refine HA.out.mono ?_;rintro e w1⟨rfl,hb1⟩;have HN:=hdd (aa6 (w0:=w) (l:=[]) hb1 (fun p hp=>by cases hp) (by simp) HT.out.1 HT.out.2);clear hb1 HA HT;go_wp2_with fail
 refine HN.out.mono ?_;rintro e W1⟨g,rfl,hR⟩;dsimp only;clear HN;obtain⟨w2,hw2,-,hR⟩:=hR.box1 (.cells #[.slice none 0 0,.int .i64 0] 29);have R2:=hdd hR;clear hR
 go_upto_region 8 with fail
 simp only[EI.out,EK.out,EJ.out,EM.out];go_wp2_with fail
 refine(M1.out _ _ _ _ _ _ R2.out BrdB.nil).mono ?_;rintro e w3⟨i,j,k,m,O1,ln1,rfl,hB1,hR⟩;obtain⟨w4,hw4,b1,b2,hR⟩:=hR.box2 (dD g 2 (fl 0) (fl 0) 4627730092099895296 i j k m) (.cells #[.int .i64 2,.float .f64 (fl 0),.float .f64 (fl 0),.float .f64 4627730092099895296,.int .i64 0,.int .i64 1,.int .i64 2,.int .i64 3] 42);replace hR:=(hR.subl (List.sublist_cons_self _ _)).perm (apC _ _ _);have R4:=hdd hR;have HB1:=hdd hB1;clear hR hB1 R2 b1 b2 M1;go_wp2_with fail
 refine(M2.out _ _ _ _ _ _ _ _ R4.out HB1.out).mono ?_;rintro e w5⟨i',j',k',m',O2,ln2,rfl,hB2,hR⟩;obtain⟨w6,hw6,b1,b2,hR⟩:=hR.box2 (dD g 2 (fl 0) (fl 0) 4627730092099895296 i' j' k' m') (.cells #[.int .i64 2,.float .f64 (fl 0),.float .f64 (fl 0),.float .f64 4627730092099895296,.int .i64 4,.int .i64 5,.int .i64 6,.int .i64 7] 42);obtain⟨x0,x1,x2,x3,x4,x5,x6,x7,x8,x9,x10,x11⟩:=aF (hR.at (bkE _ (bkE _ (bkE _ (List.mem_append_right _ m0)))));obtain⟨z0,z1,z2,z3,z4,z5,z6,z7,z8,z9,z10,z11⟩:=aF b1;have HC:=hdd (CR.out _ _ _ _ _ _ _ _ _ _ _ _ _ w6 hR (by omega) (fun p hp=>(dF [4,5,6,7,0,1,2,3]) p hp));clear hR hB2 R4 b1 b2 M2 HB1;go_wp2_with fail
 refine HC.out.mono ?_;rintro e w7⟨K1,l1,⟨v,ps,hq,rfl,ho⟩,hR⟩;obtain⟨pp,cp,rfl⟩:=ho.slice;replace hq:ps.length=jnP (kXi I) (kYi I) (kXi K) (kYi K) (kXi J) (kYi J) (kXi M) (kYi M):=hq;obtain⟨hI,hK,hJ,hM⟩:=HI.out;rw[aq0 hI hK hJ hM]at hq;rw[hq,aqZ hI hK hJ hM];have HB:=hdd hR.below;obtain⟨n,hn,en⟩:=apW hI hK;obtain⟨r,hr,er⟩:=apW hJ hM;have EN:=hdd en;have ER:=hdd er;have HN:=hdd (And.intro hn hr);clear hR ho hq HC CR en er hn hr hI hK hJ hM
 go_upto_region 14 with fail
 simp only[EN.out,ER.out];have hn12:n<=12:=by have:=HN.out.1;omega
 have hr12:r<=12:=by have:=HN.out.2;omega
 have H12:=hdd (And.intro hn12 hr12);clear hn12 hr12 EI EK EJ EM EN ER;go_wp2_with fail
 go_loopw [18,21] (fun sh vv wr=>∃k:Nat,k<=n/\sh=.bool (anyN k fun v=>anyN r fun w=>(I+v)%12==(J+w)%12)/\vv=.int .i64 (k:Int)/\Hid (Below w.heap.size w wr)) (fun _ vv _=>((n:Int)-intOf vv).toNat)
 case atStart=>exact⟨0,bkI _,rfl,rfl,HB⟩
 case round=>
  clear HB;obtain⟨k,hk,rfl,rfl,HB⟩:=hrel;rcases bkH k n with hlt|hge
  . obtain⟨A,hA⟩:∃b,(anyN k fun v=>anyN r fun w=>(I+v)%12==(J+w)%12)=b:=⟨_,rfl⟩
    rw[hA];have HAV:=hdd hA;have HLT:=hdd hlt;have hkI:decide ((k:Int)<(n:Int))=true:=decide_eq_true (by omega);clear hA hlt hk;go_wp2_with fail
    go_loopw [18,22] (fun sh ww wr2=>∃q:Nat,q<=r/\sh=.bool (A||anyN q fun w=>(I+k)%12==(J+w)%12)/\ww=.int .i64 (q:Int)/\Hid (Below w.heap.size w wr2)) (fun _ ww _=>((r:Int)-intOf ww).toNat)
    case atStart=>exact⟨0,bkI _,by simp[anyN],rfl,HB⟩
    case round=>
     clear HB;obtain⟨q,hq,rfl,rfl,HB⟩:=hrel;rcases bkH q r with hl2|hg2
     . obtain⟨b,hb⟩:∃b,(A||anyN q fun w=>(I+k)%12==(J+w)%12)=b:=⟨_,rfl⟩
       rw[hb];have HBV:=hdd hb;have HL2:=hdd hl2;have hqI:decide ((q:Int)<(r:Int))=true:=decide_eq_true (by omega);have m1:=modw HI.out.1 (show k<12 by have:=HLT.out;have:=H12.out;omega);have m2:=modw HI.out.2.2.1 (show q<12 by have:=H12.out;omega);have m3:=vH ((I+k)%12) ((J+q)%12);clear hb hl2 hq;have EW:=hdd (sQ (bkF HL2.out (bkG H12.out.2 (by decide))))
       cases b
       all_goals
        go_wp2_with fail
        go_roundw
        case rel=>exact⟨q+1,HL2.out,by first|rw[anyN,<-Bool.or_assoc,HBV.out,Bool.true_or]|rw[anyN,<-Bool.or_assoc,HBV.out,Bool.false_or,apB],by rw[EW.out],HB⟩
        case measure=>rw[EW.out];exact aaE HL2.out
     . obtain rfl:q=r:=by omega
       clear hg2 hq;go_wp2_with fail
       go_roundw
       case rel=>exact⟨k+1,HLT.out,by rw[anyN,HAV.out],by rw[sQ (bkF HLT.out (bkG H12.out.1 (by decide)))],HB⟩
       case measure=>rw[sQ (bkF HLT.out (bkG H12.out.1 (by decide)))];exact aaE HLT.out
  . obtain rfl:k=n:=by omega
    obtain⟨hI,hK,hJ,hM⟩:=HI.out;have hsh:(anyN k fun v=>anyN r fun w=>(I+v)%12==(J+w)%12)=shI I K J M:=by
     rw[ajF hI hJ H12.out.1 H12.out.2 (by have:=HN.out.1;omega) (by have:=HN.out.2;omega),HN.out.1,HN.out.2];rfl
    rw[hsh];have b1:=ahI I K;have b2:=ahI J M;have b3:=vH I M;have b4:=vH J K;clear hge hk hsh;have HP:Hid (pj I K J M=bif I==K||J==M then 0 else(I==M).toNat+(J==K).toNat):=hdd rfl;generalize shI I K J M=sb
    cases h1:(I==K)<;>cases h2:(J==M)<;>cases h3:(I==M)<;>cases h4:(J==K)
    all_goals
     rw[h1]at b1;rw[h2]at b2;rw[h3]at b3;rw[h4]at b4;simp only[Bool.not_true,Bool.not_false]at b1 b2;have hp:=HP.out;simp[h1,h2,h3,h4]at hp;rw[hp];clear hp HP h1 h2 h3 h4;go_wp2;go_ret;exact⟨rfl,HB.out⟩
end Go.Proofs.YtjdgaogkioabeaaGreatDoor
