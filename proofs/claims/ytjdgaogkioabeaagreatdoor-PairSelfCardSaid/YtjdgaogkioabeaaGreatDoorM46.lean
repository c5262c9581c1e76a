/- A part of the proof: contracts of functions and plain laws (PfWxClmV). -/
import Derived.Test.YtjdgaogkioabeaaGreatDoorM43
import Derived.Test.YtjdgaogkioabeaaGreatDoorM34
import Derived.Test.YtjdgaogkioabeaaGreatDoorM40
import Derived.Test.YtjdgaogkioabeaaGreatDoorM32
import Derived.Test.YtjdgaogkioabeaaGreatDoorM20
import Derived.Test.YtjdgaogkioabeaaGreatDoorM19
import Derived.Test.YtjdgaogkioabeaaGreatDoorM18
import Derived.Test.YtjdgaogkioabeaaGreatDoorM38
import Derived.Test.YtjdgaogkioabeaaGreatDoorM16
import Derived.Test.YtjdgaogkioabeaaGreatDoorM01
import Derived.Test.YtjdgaogkioabeaaGreatDoorM12
import Derived.Test.YtjdgaogkioabeaaGreatDoorM07
import Derived.Test.YtjdgaogkioabeaaGreatDoorM06
import Derived.Test.YtjdgaogkioabeaaGreatDoorM05
import Derived.Test.YtjdgaogkioabeaaGreatDoorM04
import Derived.Test.YtjdgaogkioabeaaGreatDoorM03
import Derived.Test.YtjdgaogkioabeaaGreatDoorM02
import Derived.Test.YtjdgaogkioabeaaGreatDoorM39
import Derived.Test.YtjdgaogkioabeaaGreatDoorM11
import Derived.Test.YtjdgaogkioabeaaGreatDoorM10
import Derived.Test.YtjdgaogkioabeaaGreatDoorM08
import Derived.Test.YtjdgaogkioabeaaGreatDoorM09
import Derived.Test.YtjdgaogkioabeaaGreatDoorM15
import Derived.Test.YtjdgaogkioabeaaGreatDoorM14
import Derived.Test.YtjdgaogkioabeaaGreatDoorM13
import Derived.Test.YtjdgaogkioabeaaGreatDoorM31
import Derived.Test.YtjdgaogkioabeaaGreatDoorM30
import Derived.Test.YtjdgaogkioabeaaGreatDoorM29
import Derived.Test.YtjdgaogkioabeaaGreatDoorM28
import Derived.Test.YtjdgaogkioabeaaGreatDoorM27
import Derived.Test.YtjdgaogkioabeaaGreatDoorM24
import Derived.Test.YtjdgaogkioabeaaGreatDoorM23
import Derived.Test.YtjdgaogkioabeaaGreatDoorM21
import Derived.Test.YtjdgaogkioabeaaGreatDoorM22
import Derived.Test.YtjdgaogkioabeaaGreatDoorM26
import Derived.Test.YtjdgaogkioabeaaGreatDoorM25
import Derived.Test.YtjdgaogkioabeaaGreatDoorM33
import Derived.Test.YtjdgaogkioabeaaGreatDoorM41
import Derived.Test.YtjdgaogkioabeaaGreatDoorM42
import Derived.Test.YtjdgaogkioabeaaGreatDoorM45
import Derived.Test.YtjdgaogkioabeaaGreatDoorM44
set_option linter.unusedVariables false
set_option linter.unusedSimpArgs false
set_option maxHeartbeats 25600000
set_option maxRecDepth 100000
namespace Go.Proofs.YtjdgaogkioabeaaGreatDoor
open Go.RowKit Go.Maps Go.Stop Go.Extern
theorem yP{w:World}{r:Bool}{X Y U V I Kk oo:Int}(hT:Tab w)(htb:1<w.heap.size):
 Calls Tryz.prog 5 #[ahJ r X Y U V I Kk oo] w (RetV w (.bool true)):=by
 obtain⟨kd,wa,wb,wc,p0,p1,q0,q1,P0,Q1,wx,wy,hM,hO,hf,hX⟩:=afW r X Y U V I Kk oo;have MK:=hdd fun(g bb:Nat) (l:List (Nat×Obj)) (W:World) (O:Obj) (hR:Run (bs w) g 0 [] ((bb,O)::([]++l)) W) (hB:BrdB bb 0 [] O)=>anJ (n:=0) hR hB (by omega) (by omega) hM hO hf.1 hf.2.1 hf.2.2.1 hf.2.2.2;have HX:=hdd hX;obtain⟨w2,hw2',hb2,hs2,b10⟩:=pro1 w (aeB r X Y U V I Kk oo);have HA:=hdd (ahH (hT.below hb2) (Nat.lt_of_lt_of_le htb hb2.size));have HT:=hdd (And.intro hT htb);have HB2:=hdd hb2;have B10:=hdd b10;clear hT htb hb2 hs2 b10 hM hO hf hX;have hst:=aL;go_enter Tryz.func5,Tryz.ntmps5
 go_wp2_with fail
 refine HA.out.mono ?_;rintro e w3⟨rfl,hb3⟩;have HB3:=hdd (aC HB2.out hb3);have B11:=hdd (hbl B10.out hb3);clear hb3 HA HB2 B10 hw2';have HN:=hdd (aa6 (w0:=w) (l:=[(w.heap.size,(aeB r X Y U V I Kk oo))]) HB3.out (fun q hp=>by
  obtain rfl:=List.mem_singleton.1 hp;exact⟨B11.out,Nat.le_refl _⟩) (by simp) HT.out.1 HT.out.2)
 go_wp2_with fail
 refine HN.out.mono ?_;rintro e W1⟨g,rfl,hR⟩;dsimp only;clear HN HT B11 HB3;obtain⟨c0,c1,c2,c3,c4,c5,c6,c7⟩:=kQ (hR.at m0);obtain⟨w5,hw5,-,hR⟩:=hR.box1 (.cells #[.slice none 0 0,.int .i64 0] 29);have HC:=hdd (MK.out _ _ [(w.heap.size,(aeB r X Y U V I Kk oo))] _ _ hR BrdB.nil);clear hR MK;go_wp2_with fail
 refine HC.out.mono ?_;rintro e w6⟨i,j,k,m,O1,ln1,rfl,hB1,hR⟩;obtain⟨w7,hw7,-,-,hR⟩:=hR.box2 (dD g kd wa wb wc i j k m) (.cells #[.int .i64 kd,.float .f64 wa,.float .f64 wb,.float .f64 wc,.int .i64 0,.int .i64 1,.int .i64 2,.int .i64 3] 42);replace hR:Run (bs w) g 4 [(.leaf P0,i),(.leaf p1,j),(.leaf q0,k),(.leaf Q1,m)] [(w6.heap.size,dD g kd wa wb wc i j k m)] w7:=hR.sub (fun q hp=>by
  obtain rfl:=List.mem_singleton.1 hp;exact m1) (by simp)
 obtain⟨x0,x1,x2,x3,x4,x5,x6,x7,x8,x9,x10,x11⟩:=aF (hR.at m0);clear hB1 HC c0 c1 c2 c3 c4 c5 c6 c7;rcases HX.out with hbad|⟨hok,hgood⟩
 . have HC:=hdd (hbad g i j k m _ _ _ _ w7 hR (by omega) (fun p hp=>hp));have HD:=hdd (hbad g i j k m)
   clear HX hbad hR;go_wp2_with fail
   refine HC.out.mono ?_;rintro e w8⟨rr,rfl,-,h2,hR⟩;obtain⟨t,x,rfl⟩:=h2 trivial;obtain⟨x0,x1,x2,x3,x4,x5,x6,x7,x8,x9,x10,x11⟩:=aF (hR.at m0);have HC:=hdd (aeF (kd':=kd) (ca':=wa) (cb':=wb) (cc':=wc) (i':=i) (j':=j) (k':=k) (l':=m) HD.out _ _ _ _ _ hR (by omega) (fun p hp=>hp));clear hR h2;go_wp2_with fail
   refine HC.out.mono ?_;rintro e w9⟨t',x',rfl,hR⟩;have HB:=hdd hR.below;clear hR HC HD;go_wp2;go_ret;exact⟨rfl,HB.out⟩
 have HC:=hdd (hok g i j k m _ _ _ _ w7 hR (by omega) (fun p hp=>hp));have HG:=hdd (hgood g i j k m);clear HX hok hgood hR;go_wp2_with fail
 refine HC.out.mono ?_;rintro e w8⟨rr,rfl,h1,-,hR⟩;obtain rfl:=h1 trivial;obtain⟨x0,x1,x2,x3,x4,x5,x6,x7,x8,x9,x10,x11⟩:=aF (hR.at m0);have HC:=hdd (HG.out.1 _ _ _ _ _ hR (by omega) (fun p hp=>hp));clear hR h1;go_wp2_with fail
 refine HC.out.mono ?_;rintro e w9⟨K1,l1,⟨v,ps,rfl,rfl,ho⟩,hR⟩;obtain⟨pp,cp,rfl⟩:=ho.slice;replace hR:=(hR.subl (List.sublist_append_right _ _)).few (K':=[(.leaf P0,i),(.leaf p1,j),(.leaf q0,k),(.leaf Q1,m)]) (fun p hp=>List.mem_append_right _ hp);obtain⟨i',j',k',m',hTu,hSe⟩:=HG.out.2;generalize w6.heap.size=b at*;have RD:=hdd hR.drew;have HTU:=hdd hTu;have HCM:Hid (∀W',Run (bs w) g (4+20+200) [(.leaf P0,i),(.leaf p1,j),(.leaf q0,k),(.leaf Q1,m)] [(b,dD g kd wa wb wc i j k m)] W'->Calls Tryz.prog 10 #[.pointer (some ⟨g,0,none⟩),aN g kd wa wb wc i j k m,aN g kd wa wb wc i' j' k' m'] W' (fun e W''=>∃K1 l1,mU g true (fun _ ps=>ps=[]) K1 l1 e/\Run (bs w) g (4+20+200+200) (K1++[(.leaf P0,i),(.leaf p1,j),(.leaf q0,k),(.leaf Q1,m)]) (l1++[(b,dD g kd wa wb wc i j k m)]) W'')):=hdd fun W' h=>hSe _ _ _ _ _ h (by omega) (fun p hp=>hp);clear hR ho hTu hSe HC x0 x1 x2 x3 x4 x5 x6 x7 x8 x9 x10 x11;obtain⟨x0,x1,x2,x3,x4,x5,x6,x7,x8,x9,x10,x11⟩:=aF (RD.out.at m0)
 go_upto_region 11 with fail
 go_region_held3 (fun w'=>w'.cell? ⟨b,0,none⟩=some (.int .i64 kd)/\w'.cell? ⟨b,1,none⟩=some (.float .f64 wa)/\w'.cell? ⟨b,2,none⟩=some (.float .f64 wb)/\w'.cell? ⟨b,3,none⟩=some (.float .f64 wc)/\w'.cell? ⟨b,4,none⟩=some (.pointer (some ⟨g,0,none⟩))/\w'.cell? ⟨b,5,none⟩=some (.int .i64 (i:Int))/\w'.cell? ⟨b,6,none⟩=some (.pointer (some ⟨g,0,none⟩))/\w'.cell? ⟨b,7,none⟩=some (.int .i64 (j:Int))/\w'.cell? ⟨b,8,none⟩=some (.pointer (some ⟨g,0,none⟩))/\w'.cell? ⟨b,9,none⟩=some (.int .i64 (k:Int))/\w'.cell? ⟨b,10,none⟩=some (.pointer (some ⟨g,0,none⟩))/\w'.cell? ⟨b,11,none⟩=some (.int .i64 (m:Int))) (go_keep)
  (first
  |(go_at_call 15
    with_reducible refine(HTU.out _).mono ?_
    rintro e wA⟨rfl,hbA⟩;have RA:=hdd (RD.out.step hbA);obtain⟨x0,x1,x2,x3,x4,x5,x6,x7,x8,x9,x10,x11⟩:=aF (RA.out.at m0);clear hbA)
  |(go_at_call 10
    with_reducible refine(HCM.out _ RA.out).mono ?_
    rintro e wB⟨K2,l2,⟨v2,ps2,rfl,rfl,ho2⟩,hRB⟩;obtain⟨pp2,cp2,rfl⟩:=ho2.slice;have RB:=hdd ((hRB.subl (List.sublist_append_right _ _)).few (K':=[(.leaf P0,i),(.leaf p1,j),(.leaf q0,k),(.leaf Q1,m)]) (fun p hp=>List.mem_append_right _ hp));obtain⟨x0,x1,x2,x3,x4,x5,x6,x7,x8,x9,x10,x11⟩:=aF (RB.out.at m0);clear hRB ho2))
 have HC:=hdd (FnOk.use (afV HG.out.1) RB.out (by omega) (fun p hp=>hp));clear RD HTU HCM RA RB HG;go_wp2_with fail
 refine HC.out.mono ?_;rintro e w11⟨rfl,hR⟩;have HB:=hdd hR.below;clear hR HC x0 x1 x2 x3 x4 x5 x6 x7 x8 x9 x10 x11;go_wp2;go_ret;exact⟨rfl,HB.out⟩
end Go.Proofs.YtjdgaogkioabeaaGreatDoor
