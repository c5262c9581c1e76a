/- A part of the proof: contracts of functions and plain laws (ArF, LjB, PrA, PrB, ArH, PrS). -/
import Derived.Test.YtjdgaogkioabeaaGreatDoorK35
import Derived.Test.YtjdgaogkioabeaaGreatDoorK33
import Derived.Test.YtjdgaogkioabeaaGreatDoorK18
import Derived.Test.YtjdgaogkioabeaaGreatDoorK34
set_option linter.unusedVariables false
set_option linter.unusedSimpArgs false
set_option maxHeartbeats 25600000
set_option maxRecDepth 100000
namespace Go.Proofs.YtjdgaogkioabeaaGreatDoor
section
open Go.RowKit Go.Maps Go.Stop Go.Extern
open List renaming sublist_append_right->bjI
open List.Sublist renaming append->bjJ,refl->bjK
variable{ov r:Bool}{Q:List (Ex×Nat)->List (Nat×Nat)->Prop}
def qO(g:Nat)(ov:Bool)(Q:List (Ex×Nat)->List (Nat×Nat)->Prop)(K1:List (Ex×Nat))(l1:List (Nat×Obj))(e:Ending):Prop:=∃v ps,Q K1 ps/\e=.returned (.tuple #[v,.bool ov,.nilIface])/\OwnR 36 4 v ps.length (spL g ps) l1
section
variable{g i j k l ca cb cc i' j' k' l' ca' cb' cc':Nat}{kd kd':Int}{A1 A2 B1 B2 C1 C2 D1 D2:Ex}{K0 KA KB:List (Ex×Nat)}
theorem xM{c:Int}{f0 f1:Nat}(hS:FnOk 33 g 10 #[aT g 1 ca cb cc i j k l,aT g 1 ca' cb' cc' i' j' k' l'] K0 (fun _=>.tuple #[bD g f0 f1,.int .i64 c,.nilIface]) [])(h1:FnOk 14 g 20 #[.pointer (some ⟨g,0,none⟩),aT g 1 ca cb cc i j k l] KA (fun _=>.nilIface) [])(h2:FnOk 14 g 20 #[.pointer (some ⟨g,0,none⟩),aT g 1 ca' cb' cc' i' j' k' l'] KB (fun _=>.nilIface) [])(hA:∀p∈KA,p∈K0)(hB:∀p∈KB,p∈K0)
 (hL:FnOk 20 g 21 #[.pointer (some ⟨g,0,none⟩),curV 1 ca cb cc,curV 1 ca' cb' cc'] [] (fun _=>.tuple #[.bool true,.nilIface]) []):
 FnOk 19 g 75 #[.pointer (some ⟨g,0,none⟩),aT g 1 ca cb cc i j k l,aT g 1 ca' cb' cc' i' j' k' l'] K0 (fun _=>.tuple #[.bool (decide (c<0)),.nilIface]) []:=fun s N K L W hR hN hK=>by
 obtain⟨w1,hw1,b1,b2,hR⟩:=hR.box2 (eD g 1 ca cb cc i j k l) (eD g 1 ca' cb' cc' i' j' k' l');obtain⟨x0,x1,x2,x3,x4,x5,x6,x7,x8,x9,x10,x11⟩:=aF b1;obtain⟨z0,z1,z2,z3,z4,z5,z6,z7,z8,z9,z10,z11⟩:=aF b2;obtain⟨w2,hw2,b3,hR⟩:=hR.box1 (alZ g 1 ca cb cc i j k l 1 ca' cb' cc' i' j' k' l');have HC:=hdd (zC h1 h2 hR m0 (by omega) (fun p hp=>hK p (hA p hp)) (fun p hp=>hK p (hB p hp)));have HL:=hdd hL;have HN:=hdd hN;have HK:=hdd hK;have HS:=hdd hS;clear hS;have hst:=aN;clear b1 b2 b3 hR h1 h2 hA hB hL hN hK;go_enter Tryz.func19,Tryz.ntmps19
 go_wp2_with fail
 refine HC.out.mono ?_;rintro e w3⟨rfl,hR⟩;obtain⟨x0,x1,x2,x3,x4,x5,x6,x7,x8,x9,x10,x11⟩:=aF (hR.at m2);obtain⟨z0,z1,z2,z3,z4,z5,z6,z7,z8,z9,z10,z11⟩:=aF (hR.at m1);have HC:=hdd (HL.out.use hR (by have:=HN.out;omega) (fun p hp=>by cases hp));clear hR;go_wp2_with fail
 refine HC.out.mono ?_;rintro e w4⟨rfl,hR⟩;obtain⟨x0,x1,x2,x3,x4,x5,x6,x7,x8,x9,x10,x11⟩:=aF (hR.at m2);obtain⟨z0,z1,z2,z3,z4,z5,z6,z7,z8,z9,z10,z11⟩:=aF (hR.at m1);have HC:=hdd (HS.out.use hR (by have:=HN.out;omega) HK.out);clear hR;go_wp2_with fail
 refine HC.out.mono ?_;rintro e w5⟨rfl,hR⟩;obtain⟨w6,hw6,b1,hR⟩:=hR.box1 (dN g f0 f1);clear b1;have HF:Hid (RtN s g (N+75) K L (fun _=>.tuple #[.bool (decide (c<0)),.nilIface]) [] (.returned (.tuple #[.bool (decide (c<0)),.nilIface])) w6):=hdd (by exact RtN.fin (L1:=[_,_,_,_]) hR (by omega));clear hR;go_wp2
 go_ret2
 exact HF.out
theorem xN{s1 s2:Bool}(hW:FnOk 21 g 8 #[aT g 2 ca cb cc i j k l,aT g 2 ca' cb' cc' i' j' k' l'] K0 (fun _=>.tuple #[.bool r,.nilIface]) [])(hs1:FnOk 34 g 44 #[.pointer (some ⟨g,0,none⟩),aT g 2 ca cb cc i j k l,aT g 2 ca' cb' cc' i' j' k' l'] K0 (fun _=>.tuple #[.bool s1,.nilIface]) [])(hs2:FnOk 34 g 44 #[.pointer (some ⟨g,0,none⟩),aT g 2 ca' cb' cc' i' j' k' l',aT g 2 ca cb cc i j k l] K0 (fun _=>.tuple #[.bool s2,.nilIface]) [])(h1:FnOk 14 g 20 #[.pointer (some ⟨g,0,none⟩),aT g 2 ca cb cc i j k l] KA (fun _=>.nilIface) [])(h2:FnOk 14 g 20 #[.pointer (some ⟨g,0,none⟩),aT g 2 ca' cb' cc' i' j' k' l'] KB (fun _=>.nilIface) [])(hA:∀p∈KA,p∈K0)(hB:∀p∈KB,p∈K0)
 (hL:FnOk 20 g 21 #[.pointer (some ⟨g,0,none⟩),curV 2 ca cb cc,curV 2 ca' cb' cc'] [] (fun _=>.tuple #[.bool true,.nilIface]) []):
 FnOk 19 g 160 #[.pointer (some ⟨g,0,none⟩),aT g 2 ca cb cc i j k l,aT g 2 ca' cb' cc' i' j' k' l'] K0 (fun _=>.tuple #[.bool (r||s1||s2),.nilIface]) []:=fun s N K L W hR hN hK=>by
 obtain⟨w1,hw1,b1,b2,hR⟩:=hR.box2 (eD g 2 ca cb cc i j k l) (eD g 2 ca' cb' cc' i' j' k' l');obtain⟨x0,x1,x2,x3,x4,x5,x6,x7,x8,x9,x10,x11⟩:=aF b1;obtain⟨z0,z1,z2,z3,z4,z5,z6,z7,z8,z9,z10,z11⟩:=aF b2;obtain⟨w2,hw2,b3,hR⟩:=hR.box1 (alZ g 2 ca cb cc i j k l 2 ca' cb' cc' i' j' k' l');have HC:=hdd (zC h1 h2 hR m0 (by omega) (fun p hp=>hK p (hA p hp)) (fun p hp=>hK p (hB p hp)));have HL:=hdd hL;have HN:=hdd hN;have HK:=hdd hK;have HW:=hdd hW;have H1:=hdd hs1;have H2:=hdd hs2;clear hW hs1 hs2;have hst:=aN;clear b1 b2 b3 hR h1 h2 hA hB hL hN hK;go_enter Tryz.func19,Tryz.ntmps19
 go_wp2_with fail
 refine HC.out.mono ?_;rintro e w3⟨rfl,hR⟩;obtain⟨x0,x1,x2,x3,x4,x5,x6,x7,x8,x9,x10,x11⟩:=aF (hR.at m2);obtain⟨z0,z1,z2,z3,z4,z5,z6,z7,z8,z9,z10,z11⟩:=aF (hR.at m1);have HC:=hdd (HL.out.use hR (by have:=HN.out;omega) (fun p hp=>by cases hp));clear hR;go_wp2_with fail
 refine HC.out.mono ?_;rintro e w4⟨rfl,hR⟩;obtain⟨x0,x1,x2,x3,x4,x5,x6,x7,x8,x9,x10,x11⟩:=aF (hR.at m2);obtain⟨z0,z1,z2,z3,z4,z5,z6,z7,z8,z9,z10,z11⟩:=aF (hR.at m1);have HC:=hdd (HW.out.use hR (by have:=HN.out;omega) HK.out);clear hR;go_wp2_with fail
 refine HC.out.mono ?_;rintro e w5⟨rfl,hR⟩
 cases r
 case' true=>
  have HF:Hid (RtN s g (N+160) K L (fun _=>.tuple #[.bool (true||s1||s2),.nilIface]) [] (.returned (.tuple #[.bool true,.nilIface])) w5):=hdd (by exact RtN.fin (L1:=[_,_,_]) hR (by omega));clear hR;go_wp2
  go_ret2
  exact HF.out
 obtain⟨x0,x1,x2,x3,x4,x5,x6,x7,x8,x9,x10,x11⟩:=aF (hR.at m2);obtain⟨z0,z1,z2,z3,z4,z5,z6,z7,z8,z9,z10,z11⟩:=aF (hR.at m1);have HC:=hdd (H1.out.use hR (by have:=HN.out;omega) HK.out);clear hR;go_wp2_with fail
 refine HC.out.mono ?_;rintro e w6⟨rfl,hR⟩
 cases s1
 case' true=>
  have HF:Hid (RtN s g (N+160) K L (fun _=>.tuple #[.bool (false||true||s2),.nilIface]) [] (.returned (.tuple #[.bool true,.nilIface])) w6):=hdd (by exact RtN.fin (L1:=[_,_,_]) hR (by omega));clear hR;go_wp2
  go_ret2
  exact HF.out
 obtain⟨x0,x1,x2,x3,x4,x5,x6,x7,x8,x9,x10,x11⟩:=aF (hR.at m2);obtain⟨z0,z1,z2,z3,z4,z5,z6,z7,z8,z9,z10,z11⟩:=aF (hR.at m1);have HC:=hdd (H2.out.use hR (by have:=HN.out;omega) HK.out);clear hR;go_wp2_with fail
 refine HC.out.mono ?_;rintro e w7⟨rfl,hR⟩;have HF:Hid (RtN s g (N+160) K L (fun _=>.tuple #[.bool (false||false||s2),.nilIface]) [] (.returned (.tuple #[.bool s2,.nilIface])) w7):=hdd (by exact RtN.fin (L1:=[_,_,_]) hR (by omega));clear hR;go_wp2
 go_ret2
 exact HF.out
theorem aaZ(hO:FnOk 19 g 75 #[.pointer (some ⟨g,0,none⟩),aT g 1 ca cb cc i j k l,aT g 1 ca' cb' cc' i' j' k' l'] K0 (fun _=>.tuple #[.bool ov,.nilIface]) [])
 (hL:FnOk 20 g 21 #[.pointer (some ⟨g,0,none⟩),curV 1 ca cb cc,curV 1 ca' cb' cc'] [] (fun _=>.tuple #[.bool true,.nilIface]) []) (hW:FnOk 21 g 8 #[aT g 1 ca cb cc i j k l,aT g 1 ca' cb' cc' i' j' k' l'] K0 (fun _=>.tuple #[.bool false,.nilIface]) [])
 (h0:ov=true->∀K1,Q K1 []) (hJ:ov=false->sZ 23 g 10 #[aT g 1 ca cb cc i j k l,aT g 1 ca' cb' cc' i' j' k' l'] K0 (RowQ g Q)):
 sZ 10 g 200 #[.pointer (some ⟨g,0,none⟩),aT g 1 ca cb cc i j k l,aT g 1 ca' cb' cc' i' j' k' l'] K0 (qO g ov Q):=fun s N K L W hR hN hK=>by
 obtain⟨w1,hw1,b1,b2,hR⟩:=hR.box2 (eD g 1 ca cb cc i j k l) (eD g 1 ca' cb' cc' i' j' k' l');obtain⟨x0,x1,x2,x3,x4,x5,x6,x7,x8,x9,x10,x11⟩:=aF b1;obtain⟨z0,z1,z2,z3,z4,z5,z6,z7,z8,z9,z10,z11⟩:=aF b2;have HC:=hdd (hO.use hR (by omega) hK);have HL:=hdd hL;have HW:=hdd hW;have H0:=hdd h0;have HJ:=hdd hJ;have HN:=hdd hN;have HK:=hdd hK;clear b1 b2 hR hO hL hW h0 hJ hN hK;go_enter Tryz.func10,Tryz.ntmps10
 go_wp2_with fail
 refine HC.out.mono ?_;rintro e w2⟨rfl,hR⟩;obtain⟨x0,x1,x2,x3,x4,x5,x6,x7,x8,x9,x10,x11⟩:=aF (hR.at m1);obtain⟨z0,z1,z2,z3,z4,z5,z6,z7,z8,z9,z10,z11⟩:=aF (hR.at m0);have HC:=hdd (HL.out.use hR (by have:=HN.out;omega) (fun p hp=>by cases hp));clear hR;go_wp2_with fail
 refine HC.out.mono ?_;rintro e w3⟨rfl,hR⟩;obtain⟨x0,x1,x2,x3,x4,x5,x6,x7,x8,x9,x10,x11⟩:=aF (hR.at m1);obtain⟨z0,z1,z2,z3,z4,z5,z6,z7,z8,z9,z10,z11⟩:=aF (hR.at m0);have HC:=hdd (HW.out.use hR (by have:=HN.out;omega) HK.out);clear hR;go_wp2_with fail
 refine HC.out.mono ?_;rintro e w4⟨rfl,hR⟩;obtain⟨x0,x1,x2,x3,x4,x5,x6,x7,x8,x9,x10,x11⟩:=aF (hR.at m1)
 cases ov
 case' true=>
  have HF:Hid (∃K1 l1,qO g true Q K1 l1 (.returned (.tuple #[.slice none 0 0,.bool true,.nilIface]))/\Run s g (N+200) (K1++K) (l1++L) w4):=hdd ⟨[],[],⟨_,[],H0.out rfl [],rfl,OwnR.nil _ _⟩,(Run.rest (L1:=[_,_]) hR).more (by omega)⟩;clear hR;go_wp2;exact bodyPost_ret (v:=.tuple #[.slice none 0 0,.bool true,.nilIface]) (by simp[results,Tryz.results10,go_sem]) rfl HF.out
 obtain⟨x0,x1,x2,x3,x4,x5,x6,x7,x8,x9,x10,x11⟩:=aF (hR.at m1);obtain⟨z0,z1,z2,z3,z4,z5,z6,z7,z8,z9,z10,z11⟩:=aF (hR.at m0);have HC:=hdd (HJ.out rfl _ _ _ _ _ hR (by have:=HN.out;omega) HK.out);clear hR;go_wp2_with fail
 refine HC.out.mono ?_;rintro e w5⟨K1,l1,⟨v,ps,hq,rfl,ho⟩,hR⟩;obtain⟨pp,cp,rfl⟩:=ho.slice;have HF:Hid (∃K1 l1,qO g false Q K1 l1 (.returned (.tuple #[.slice pp ps.length cp,.bool false,.nilIface]))/\Run s g (N+200) (K1++K) (l1++L) w5):=hdd ⟨K1,l1,⟨_,ps,hq,rfl,ho⟩,(hR.subl (bjJ (bjK l1) (bjI [_,_] L))).more (by omega)⟩;clear hR hq ho HC;go_wp2;exact bodyPost_ret (v:=.tuple #[.slice pp ps.length cp,.bool false,.nilIface]) (by simp[results,Tryz.results10,go_sem]) rfl HF.out
theorem aa0(hO:FnOk 19 g 160 #[.pointer (some ⟨g,0,none⟩),aT g 2 ca cb cc i j k l,aT g 2 ca' cb' cc' i' j' k' l'] K0 (fun _=>.tuple #[.bool ov,.nilIface]) [])
 (hL:FnOk 20 g 21 #[.pointer (some ⟨g,0,none⟩),curV 2 ca cb cc,curV 2 ca' cb' cc'] [] (fun _=>.tuple #[.bool true,.nilIface]) []) (hW:FnOk 21 g 8 #[aT g 2 ca cb cc i j k l,aT g 2 ca' cb' cc' i' j' k' l'] K0 (fun _=>.tuple #[.bool r,.nilIface]) [])
 (h0:r=true->∀K1,Q K1 []) (hJ:r=false->sZ 24 g 6 #[aT g 2 ca cb cc i j k l,aT g 2 ca' cb' cc' i' j' k' l'] K0 (RowQ g Q)):
 sZ 10 g 200 #[.pointer (some ⟨g,0,none⟩),aT g 2 ca cb cc i j k l,aT g 2 ca' cb' cc' i' j' k' l'] K0 (qO g ov Q):=fun s N K L W hR hN hK=>by
 obtain⟨w1,hw1,b1,b2,hR⟩:=hR.box2 (eD g 2 ca cb cc i j k l) (eD g 2 ca' cb' cc' i' j' k' l');obtain⟨x0,x1,x2,x3,x4,x5,x6,x7,x8,x9,x10,x11⟩:=aF b1;obtain⟨z0,z1,z2,z3,z4,z5,z6,z7,z8,z9,z10,z11⟩:=aF b2;have HC:=hdd (hO.use hR (by omega) hK);have HL:=hdd hL;have HW:=hdd hW;have H0:=hdd h0;have HJ:=hdd hJ;have HN:=hdd hN;have HK:=hdd hK;clear b1 b2 hR hO hL hW h0 hJ hN hK;go_enter Tryz.func10,Tryz.ntmps10
 go_wp2_with fail
 refine HC.out.mono ?_;rintro e w2⟨rfl,hR⟩;obtain⟨x0,x1,x2,x3,x4,x5,x6,x7,x8,x9,x10,x11⟩:=aF (hR.at m1);obtain⟨z0,z1,z2,z3,z4,z5,z6,z7,z8,z9,z10,z11⟩:=aF (hR.at m0);have HC:=hdd (HL.out.use hR (by have:=HN.out;omega) (fun p hp=>by cases hp));clear hR;go_wp2_with fail
 refine HC.out.mono ?_;rintro e w3⟨rfl,hR⟩;obtain⟨x0,x1,x2,x3,x4,x5,x6,x7,x8,x9,x10,x11⟩:=aF (hR.at m1);obtain⟨z0,z1,z2,z3,z4,z5,z6,z7,z8,z9,z10,z11⟩:=aF (hR.at m0);have HC:=hdd (HW.out.use hR (by have:=HN.out;omega) HK.out);clear hR;go_wp2_with fail
 refine HC.out.mono ?_;rintro e w4⟨rfl,hR⟩;obtain⟨x0,x1,x2,x3,x4,x5,x6,x7,x8,x9,x10,x11⟩:=aF (hR.at m1)
 cases r
 case' true=>
  have HF:Hid (∃K1 l1,qO g ov Q K1 l1 (.returned (.tuple #[.slice none 0 0,.bool ov,.nilIface]))/\Run s g (N+200) (K1++K) (l1++L) w4):=hdd ⟨[],[],⟨_,[],H0.out rfl [],rfl,OwnR.nil _ _⟩,(Run.rest (L1:=[_,_]) hR).more (by omega)⟩;clear hR;go_wp2;exact bodyPost_ret (v:=.tuple #[.slice none 0 0,.bool ov,.nilIface]) (by simp[results,Tryz.results10,go_sem]) rfl HF.out
 cases ov
 case' true=>
  obtain⟨x0,x1,x2,x3,x4,x5,x6,x7,x8,x9,x10,x11⟩:=aF (hR.at m1);obtain⟨z0,z1,z2,z3,z4,z5,z6,z7,z8,z9,z10,z11⟩:=aF (hR.at m0);have HC:=hdd (HJ.out rfl _ _ _ _ _ hR (by have:=HN.out;omega) HK.out);clear hR;go_wp2_with fail
  refine HC.out.mono ?_;rintro e w5⟨K1,l1,⟨v,ps,hq,rfl,ho⟩,hR⟩;obtain⟨pp,cp,rfl⟩:=ho.slice;have HF:Hid (∃K1 l1,qO g true Q K1 l1 (.returned (.tuple #[.slice pp ps.length cp,.bool true,.nilIface]))/\Run s g (N+200) (K1++K) (l1++L) w5):=hdd ⟨K1,l1,⟨_,ps,hq,rfl,ho⟩,(hR.subl (bjJ (bjK l1) (bjI [_,_] L))).more (by omega)⟩;clear hR hq ho HC;go_wp2;exact bodyPost_ret (v:=.tuple #[.slice pp ps.length cp,.bool true,.nilIface]) (by simp[results,Tryz.results10,go_sem]) rfl HF.out
 obtain⟨x0,x1,x2,x3,x4,x5,x6,x7,x8,x9,x10,x11⟩:=aF (hR.at m1);obtain⟨z0,z1,z2,z3,z4,z5,z6,z7,z8,z9,z10,z11⟩:=aF (hR.at m0);have HC:=hdd (HJ.out rfl _ _ _ _ _ hR (by have:=HN.out;omega) HK.out);clear hR;go_wp2_with fail
 refine HC.out.mono ?_;rintro e w5⟨K1,l1,⟨v,ps,hq,rfl,ho⟩,hR⟩;obtain⟨pp,cp,rfl⟩:=ho.slice;have HF:Hid (∃K1 l1,qO g false Q K1 l1 (.returned (.tuple #[.slice pp ps.length cp,.bool false,.nilIface]))/\Run s g (N+200) (K1++K) (l1++L) w5):=hdd ⟨K1,l1,⟨_,ps,hq,rfl,ho⟩,(hR.subl (bjJ (bjK l1) (bjI [_,_] L))).more (by omega)⟩;clear hR hq ho HC;go_wp2;exact bodyPost_ret (v:=.tuple #[.slice pp ps.length cp,.bool false,.nilIface]) (by simp[results,Tryz.results10,go_sem]) rfl HF.out
end
end
section
open Go.RowKit Go.Maps
open List renaming setIfInBounds_toArray->bjL,map_cons->bjM,map_nil->bjN,set->bjO
variable{r:Bool}{q:Int}{ca cb cc cd da db dc g:Nat}
theorem ah9(hca:FlOk ca)(hcb:FlOk cb)(hcc:FlOk cc)(hcd:FlOk cd):FnOk 71 g 7 #[.pointer (some ⟨g,0,none⟩),.float .f64 ca,.float .f64 cb,.float .f64 cc,.float .f64 cd] [] (fun ks=>numV g (ks.getD 0 0)) [kU ca cb cc cd]:=FnOk.of fun w B ns N hR hN=>by
 have R1:=hdd hR;clear hR;go_enter Tryz.func71,Tryz.ntmps71
 go_upto_region 0 with fail
 refine Spec.go [.w (.c (.ptr 0 0))] [0]
  [] [⟨0,34,[.v (.pointer none),.v (.int .i64 0)],none⟩]
  [0] [[]] []
  [11] [] 1 N [] [] R1.out
  (fun b hM=>aA cO
    (dI b m0)) ?_
 intro b1 ν W2 hR;have R2:=hdd hR;clear hR R1;simp only[putL,bjL,bjO,fs0,fs1,fsn,dSw,dSt,dWc,dWa,dv,di,dp,ds',bjM,bjN,nuTn,nuT0,nuT1,nuU0,nuU1]
 go_upto_region 1 with fail
 refine Spec.go [.w (.c (.v (.pointer (some ⟨g,0,none⟩)))),.w (.c (.v (.float .f64 ca))),numS g 1,.w (.c (.v (.pointer (some ⟨g,0,none⟩)))),.w (.c (.v (.float .f64 cb))),numS g 2,.w (.c (.sl 3 1)),numS g 4,.w (.c (.v (.pointer (some ⟨g,0,none⟩)))),.w (.c (.v (.float .f64 cc))),numS g 5,.w (.c (.v (.pointer (some ⟨g,0,none⟩)))),.w (.c (.v (.float .f64 cd))),numS g 6,.w (.c (.sl 7 1)),numS g 8,numS g 9,noS] [2,5,6,7,10,13,14,15,16]
  [(1,(.leaf ca)),(2,(.leaf cb)),(4,(.mul (.leaf ca) (.leaf cb))),(5,(.leaf cc)),(6,(.leaf cd)),(8,(.mul (.leaf cc) (.leaf cd))),(9,(.sub (.mul (.leaf ca) (.leaf cb)) (.mul (.leaf cc) (.leaf cd))))] [⟨0,34,[.v (.pointer none),.v (.int .i64 0)],some (17,numC g 9)⟩,⟨3,34,numC g 2,none⟩,⟨7,34,numC g 6,none⟩]
  [0,0,1,0,0,1,0,1,0,0,1,0,0,1,0,1,1,0] [[],[],[0,1],[],[],[3,4],[3,4,5],rgn 7,[],[],[8,9],[],[],[11,12],[11,12,13],[8,9,10,11,12,13,14],rgn 16,rgn 17] [(0,.w (.c (.v (.pointer (some ⟨g,0,none⟩))))),(1,.w (.c (.v (.float .f64 ca)))),(2,.w (.c (.v (.float .f64 cb)))),(3,.w (.c (.v (.float .f64 cc)))),(4,.w (.c (.v (.float .f64 cd)))),(10,.w (.c (.ptr 0 0)))]
  [12,13,14,15,16,17,18,19,20,21,22,23,24,25,26,27,28,0] [b1] 18 (N+7) [] [] R2.out
  (fun b hM=>aA (aA (aA (aA (aA (aA (aA (aA (aA (aA (aA (aA (aA (aA (aA (aA (aA (aA cO
    (aJ b))
    (aJ b))
    (bG b (c_of hM hca.1 hca.2 rfl rfl rfl rfl)))
    (aJ b))
    (aJ b))
    (bG b (c_of hM hcb.1 hcb.2 rfl rfl rfl rfl)))
    (iT b m1))
    (bG b (sG hM m0 m1 rfl rfl m1 rfl rfl rfl rfl rfl rfl rfl rfl)))
    (aJ b))
    (aJ b))
    (bG b (c_of hM hcc.1 hcc.2 rfl rfl rfl rfl)))
    (aJ b))
    (aJ b))
    (bG b (c_of hM hcd.1 hcd.2 rfl rfl rfl rfl)))
    (iT b m2))
    (bG b (sG hM m3 m4 rfl rfl m2 rfl rfl rfl rfl rfl rfl rfl rfl)))
    (bG b (oK hM m2 m5 rfl rfl rfl rfl rfl rfl)))
    (jI b 2 m0)) ?_
 intro n2 n3 b4 n5 n6 n7 b8 n9 n10 ν W3 hR;replace hR:Run ⟨w,B,ns⟩ g (N+7) [((.leaf ca),n2),((.leaf cb),n3),((.mul (.leaf ca) (.leaf cb)),n5),((.leaf cc),n6),((.leaf cd),n7),((.mul (.leaf cc) (.leaf cd)),n9),((.sub (.mul (.leaf ca) (.leaf cb)) (.mul (.leaf cc) (.leaf cd))),n10)] [(b1,numO g n10),(b4,numO g n3),(b8,numO g n7)] W3:=hR;have R3:=hdd hR;clear hR R2;simp only[putL,bjL,bjO,fs0,fs1,fsn,dSw,dSt,dWc,dWa,dv,di,dp,ds',bjM,bjN,nuTn,nuT0,nuT1,nuU0,nuU1];go_wp2;obtain⟨x0,x1,-,-⟩:=aC (R3.out.at m0);refine bodyPost_ret (v:=.agg #[_,_]) (by simp[results,Tryz.results71,go_sem,x0,x1];first|exact⟨rfl,rfl⟩|rfl) rfl ?_;exact⟨[n10],rfl,rfl,_,R3.out.few (eQ [6])⟩
theorem rT(hca:FlOk ca)(hcb:FlOk cb)(hcc:FlOk cc)(hcd:FlOk cd)(hS:fK PT (kU ca cb cc cd) q)(hr:(q==0)=r):FnOk 54 g 7 #[.pointer (some ⟨g,0,none⟩),.float .f64 ca,.float .f64 cb,.float .f64 cc,.float .f64 cd] [] (fun ks=>.tuple #[.bool r,.nilIface]) []:=FnOk.of fun w B ns N hR hN=>by
 have R1:=hdd hR;clear hR;go_enter Tryz.func54,Tryz.ntmps54
 go_upto_region 0 with fail
 refine Spec.go [.w (.c (.v (Value.bool false))),.w (.c (.v Value.nilIface))] []
  [] []
  [0,0] [[],[]] []
  [11,12] [] 2 N [] [] R1.out
  (fun b hM=>aA (aA cO
    (aJ b))
    (aJ b)) ?_
 intro ν W2 hR;have R2:=hdd hR;clear hR R1;simp only[putL,bjL,bjO,fs0,fs1,fsn,dSw,dSt,dWc,dWa,dv,di,dp,ds',bjM,bjN,nuTn,nuT0,nuT1,nuU0,nuU1]
 go_upto_region 1 with fail
 refine Spec.go [.w (.c (.v (.pointer (some ⟨g,0,none⟩)))),.w (.c (.v (.float .f64 ca))),.w (.c (.v (.float .f64 cb))),.w (.c (.v (.float .f64 cc))),.w (.c (.v (.float .f64 cd))),numS g 0,.tup [.c (.v (.int .i64 q)),.c (.v .nilIface)],.tup [.c (.v (.int .i64 q)),.c (.v .nilIface)],.w (.c (.v (.int .i64 q))),.w (.c (.v .nilIface)),.w (.c (.v (.int .i64 q))),.w (.c (.v .nilIface))] [5]
  [(0,(kU ca cb cc cd))] []
  [0,0,0,0,0,7,0,0,0,0,0,0] [[],[],[],[],[],rgn 5,rgn 6,rgn 7,rgn 8,rgn 8,rgn 9,[0,1,2,3,4,5,6,7,9]] [(0,.w (.c (.v (.pointer (some ⟨g,0,none⟩))))),(1,.w (.c (.v (.float .f64 ca)))),(2,.w (.c (.v (.float .f64 cb)))),(3,.w (.c (.v (.float .f64 cc)))),(4,.w (.c (.v (.float .f64 cd))))]
  [16,17,18,19,20,21,22,15,23,24,13,14] [] 12 (N+7) [] [] R2.out
  (fun b hM=>aA (aA (aA (aA (aA (aA (aA (aA (aA (aA (aA (aA cO
    (aJ b))
    (aJ b))
    (aJ b))
    (aJ b))
    (aJ b))
    (bG b (c_fn (ix:=[]) (ts:=[0]) hM (fun ν=>ah9 ⟨hca.1,hca.2⟩ ⟨hcb.1,hcb.2⟩ ⟨hcc.1,hcc.2⟩ ⟨hcd.1,hcd.2⟩))))
    (bG b (akP hM m0 rfl rfl rfl rfl hS)))
    (aJ b))
    (aJ b))
    (aJ b))
    (aJ b))
    (aJ b)) ?_
 intro n1 ν W3 hR;replace hR:Run ⟨w,B,ns⟩ g (N+7) [((kU ca cb cc cd),n1)] [] W3:=hR;have R3:=hdd hR;clear hR R2;simp only[putL,bjL,bjO,fs0,fs1,fsn,dSw,dSt,dWc,dWa,dv,di,dp,ds',bjM,bjN,nuTn,nuT0,nuT1,nuU0,nuU1];have HF:Hid (afG w B ns g (N+7) (fun _=>.tuple #[.bool r,.nilIface]) [] (.returned (.tuple #[.bool r,.nilIface])) W3):=hdd ⟨[],rfl,rfl,_,(R3.out.more (by omega)).few (eQ [])⟩;clear R3;go_wp2
 go_ret2
 exact HF.out
theorem aiA(h1:kS ca cb cc)(h2:kS da db dc)(hS:fK PT (kU ca db cb da) q)(hr:(q==0)=r):FnOk 53 g 7 #[.pointer (some ⟨g,0,none⟩),curV 1 ca cb cc,curV 1 da db dc] [] (fun ks=>.tuple #[.bool r,.nilIface]) []:=FnOk.of fun w B ns N hR hN=>by
 have R1:=hdd hR;clear hR;go_enter Tryz.func53,Tryz.ntmps53
 go_upto_region 0 with fail
 refine Spec.go [.w (.c (.ptr 0 0)),.w (.c (.ptr 1 0)),.w (.c (.v (Value.bool false))),.w (.c (.v Value.nilIface))] [0,1]
  [] [⟨0,32,curC 1 ca cb cc,none⟩,⟨1,32,curC 1 da db dc,none⟩]
  [0,0,0,0] [[],[],[],[]] [(1,.w (.agg ([.v (.int .i64 1),.v (.float .f64 ca),.v (.float .f64 cb),.v (.float .f64 cc)]))),(2,.w (.agg ([.v (.int .i64 1),.v (.float .f64 da),.v (.float .f64 db),.v (.float .f64 dc)])))]
  [5,6,7,8] [] 4 N [] [] R1.out
  (fun b hM=>aA (aA (aA (aA cO
    (dI b m0))
    (dI b m1))
    (aJ b))
    (aJ b)) ?_
 intro b1 b2 ν W2 hR;have R2:=hdd hR;clear hR R1;simp only[putL,bjL,bjO,fs0,fs1,fsn,dSw,dSt,dWc,dWa,dv,di,dp,ds',bjM,bjN,nuTn,nuT0,nuT1,nuU0,nuU1]
 go_upto_region 1 with fail
 refine Spec.go [.w (.agg ([.v (.int .i64 1),.v (.float .f64 ca),.v (.float .f64 cb),.v (.float .f64 cc)])),.w (.agg ([.v (.int .i64 1),.v (.float .f64 da),.v (.float .f64 db),.v (.float .f64 dc)])),.w (.c (.v .nilIface)),.w (.c (.v .nilIface))] []
  [] [⟨0,32,curC 1 ca cb cc,none⟩,⟨1,32,curC 1 da db dc,none⟩]
  [0,0,0,0] [[],[],[0,1],[0,1,2]] [(4,.w (.c (.ptr 0 0))),(5,.w (.c (.ptr 1 0)))]
  [10,11,12,9] [b1,b2] 4 N [] [] R2.out
  (fun b hM=>aA (aA (aA (aA cO
    (dO b 4 m0))
    (dO b 4 m1))
    (bG b (apB hM rfl rfl rfl (fun w=>ah5 h1 h2))))
    (aJ b)) ?_
 intro ν W3 hR;have R3:=hdd hR;clear hR R2;simp only[putL,bjL,bjO,fs0,fs1,fsn,dSw,dSt,dWc,dWa,dv,di,dp,ds',bjM,bjN,nuTn,nuT0,nuT1,nuU0,nuU1]
 go_upto_region 4 with fail
 refine Spec.go [.w (.c (.v (.pointer (some ⟨g,0,none⟩)))),.w (.c (.ptr 0 1)),.w (.c (.v (.float .f64 ca))),.w (.c (.ptr 1 2)),.w (.c (.v (.float .f64 db))),.w (.c (.ptr 0 2)),.w (.c (.v (.float .f64 cb))),.w (.c (.ptr 1 1)),.w (.c (.v (.float .f64 da))),.tup [.c (.v (.bool r)),.c (.v .nilIface)],.w (.c (.v (.bool r))),.w (.c (.v .nilIface)),.w (.c (.v (.bool r))),.w (.c (.v .nilIface))] []
  [] [⟨0,32,curC 1 ca cb cc,none⟩,⟨1,32,curC 1 da db dc,none⟩]
  [0,0,0,0,0,0,0,0,0,7,0,0,0,0] [[],[],[1],[],[3],[],[5],[],[7],rgn 9,rgn 10,rgn 10,rgn 11,[0,1,2,3,4,5,6,7,8,9,11]] [(0,.w (.c (.v (.pointer (some ⟨g,0,none⟩))))),(4,.w (.c (.ptr 0 0))),(5,.w (.c (.ptr 1 0)))]
  [16,17,18,19,20,21,22,23,24,25,26,27,7,8] [b1,b2] 14 (N+7) [] [] R3.out
  (fun b hM=>aA (aA (aA (aA (aA (aA (aA (aA (aA (aA (aA (aA (aA (aA cO
    (aJ b))
    (aJ b))
    (dS b m0))
    (aJ b))
    (dS b m1))
    (aJ b))
    (dS b m0))
    (aJ b))
    (dS b m1))
    (bG b (c_fn (ix:=[]) (ts:=[]) hM (fun ν=>rT ⟨h1.1.1,h1.1.2⟩ ⟨h2.2.1.1,h2.2.1.2⟩ ⟨h1.2.1.1,h1.2.1.2⟩ ⟨h2.1.1,h2.1.2⟩ hS hr))))
    (aJ b))
    (aJ b))
    (aJ b))
    (aJ b)) ?_
 intro ν W4 hR;replace hR:Run ⟨w,B,ns⟩ g (N+7) [] [(b1,.cells #[(.int .i64 1),(.float .f64 ca),(.float .f64 cb),(.float .f64 cc)] 32),(b2,.cells #[(.int .i64 1),(.float .f64 da),(.float .f64 db),(.float .f64 dc)] 32)] W4:=hR;have R4:=hdd hR;clear hR R3;simp only[putL,bjL,bjO,fs0,fs1,fsn,dSw,dSt,dWc,dWa,dv,di,dp,ds',bjM,bjN,nuTn,nuT0,nuT1,nuU0,nuU1];have HF:Hid (afG w B ns g (N+7) (fun _=>.tuple #[.bool r,.nilIface]) [] (.returned (.tuple #[.bool r,.nilIface])) W4):=hdd ⟨[],rfl,rfl,_,(R4.out.more (by omega)).few (eQ [])⟩;clear R4;go_wp2
 go_ret2
 exact HF.out
theorem aiB(h1:kS ca cb cc)(h2:kS da db dc)(hS:fK PT (kU ca db cb da) 0)(hS2:fK PT (kU ca dc da cc) 0)(hS3:fK PT (kU cb dc db cc) q)(hr:(q==0)=r):FnOk 35 g 21 #[.pointer (some ⟨g,0,none⟩),curV 1 ca cb cc,curV 1 da db dc] [] (fun ks=>.tuple #[.bool r,.nilIface]) []:=FnOk.of fun w B ns N hR hN=>by
 have R1:=hdd hR;clear hR;go_enter Tryz.func35,Tryz.ntmps35
 go_upto_region 0 with fail
 refine Spec.go [.w (.c (.ptr 0 0)),.w (.c (.ptr 1 0)),.w (.c (.v (Value.bool false))),.w (.c (.v Value.nilIface))] [0,1]
  [] [⟨0,32,curC 1 ca cb cc,none⟩,⟨1,32,curC 1 da db dc,none⟩]
  [0,0,0,0] [[],[],[],[]] [(1,.w (.agg ([.v (.int .i64 1),.v (.float .f64 ca),.v (.float .f64 cb),.v (.float .f64 cc)]))),(2,.w (.agg ([.v (.int .i64 1),.v (.float .f64 da),.v (.float .f64 db),.v (.float .f64 dc)])))]
  [5,6,7,8] [] 4 N [] [] R1.out
  (fun b hM=>aA (aA (aA (aA cO
    (dI b m0))
    (dI b m1))
    (aJ b))
    (aJ b)) ?_
 intro b1 b2 ν W2 hR;have R2:=hdd hR;clear hR R1;simp only[putL,bjL,bjO,fs0,fs1,fsn,dSw,dSt,dWc,dWa,dv,di,dp,ds',bjM,bjN,nuTn,nuT0,nuT1,nuU0,nuU1]
 go_upto_region 1 with fail
 refine Spec.go [.w (.c (.v (.pointer (some ⟨g,0,none⟩)))),.w (.agg ([.v (.int .i64 1),.v (.float .f64 ca),.v (.float .f64 cb),.v (.float .f64 cc)])),.w (.agg ([.v (.int .i64 1),.v (.float .f64 da),.v (.float .f64 db),.v (.float .f64 dc)])),.tup [.c (.v (.bool true)),.c (.v .nilIface)],.tup [.c (.v (.bool true)),.c (.v .nilIface)],.w (.c (.v (.bool true))),.w (.c (.v .nilIface)),.w (.c (.v (.bool true))),.w (.c (.v .nilIface))] []
  [] [⟨0,32,curC 1 ca cb cc,none⟩,⟨1,32,curC 1 da db dc,none⟩]
  [0,0,0,7,0,0,0,0,0] [[],[],[],[0,1,2],rgn 4,rgn 5,rgn 5,rgn 6,[0,1,2,3,4,6]] [(0,.w (.c (.v (.pointer (some ⟨g,0,none⟩))))),(4,.w (.c (.ptr 0 0))),(5,.w (.c (.ptr 1 0)))]
  [13,14,15,16,12,17,18,9,10] [b1,b2] 9 (N+7) [] [] R2.out
  (fun b hM=>aA (aA (aA (aA (aA (aA (aA (aA (aA cO
    (aJ b))
    (dO b 4 m0))
    (dO b 4 m1))
    (bG b (c_fn (ix:=[]) (ts:=[]) hM (fun ν=>aiA h1 h2 hS (q:=0) (r:=true) rfl))))
    (aJ b))
    (aJ b))
    (aJ b))
    (aJ b))
    (aJ b)) ?_
 intro ν W3 hR;have R3:=hdd hR;clear hR R2;simp only[putL,bjL,bjO,fs0,fs1,fsn,dSw,dSt,dWc,dWa,dv,di,dp,ds',bjM,bjN,nuTn,nuT0,nuT1,nuU0,nuU1]
 go_upto_region 4 with fail
 refine Spec.go [.w (.c (.v (.pointer (some ⟨g,0,none⟩)))),.w (.c (.ptr 0 1)),.w (.c (.v (.float .f64 ca))),.w (.c (.ptr 1 3)),.w (.c (.v (.float .f64 dc))),.w (.c (.ptr 1 1)),.w (.c (.v (.float .f64 da))),.w (.c (.ptr 0 3)),.w (.c (.v (.float .f64 cc))),.tup [.c (.v (.bool true)),.c (.v .nilIface)],.tup [.c (.v (.bool true)),.c (.v .nilIface)],.w (.c (.v (.bool true))),.w (.c (.v .nilIface)),.w (.c (.v (.bool true))),.w (.c (.v .nilIface))] []
  [] [⟨0,32,curC 1 ca cb cc,none⟩,⟨1,32,curC 1 da db dc,none⟩]
  [0,0,0,0,0,0,0,0,0,7,0,0,0,0,0] [[],[],[1],[],[3],[],[5],[],[7],rgn 9,rgn 10,rgn 11,rgn 11,rgn 12,[0,1,2,3,4,5,6,7,8,9,10,12]] [(0,.w (.c (.v (.pointer (some ⟨g,0,none⟩))))),(4,.w (.c (.ptr 0 0))),(5,.w (.c (.ptr 1 0)))]
  [27,28,29,30,31,32,33,34,35,36,26,37,38,11,10] [b1,b2] 15 (N+14) [] [] R3.out
  (fun b hM=>aA (aA (aA (aA (aA (aA (aA (aA (aA (aA (aA (aA (aA (aA (aA cO
    (aJ b))
    (aJ b))
    (dS b m0))
    (aJ b))
    (dS b m1))
    (aJ b))
    (dS b m1))
    (aJ b))
    (dS b m0))
    (bG b (c_fn (ix:=[]) (ts:=[]) hM (fun ν=>rT ⟨h1.1.1,h1.1.2⟩ ⟨h2.2.2.1.1,h2.2.2.1.2⟩ ⟨h2.1.1,h2.1.2⟩ ⟨h1.2.2.1.1,h1.2.2.1.2⟩ hS2 (q:=0) (r:=true) rfl))))
    (aJ b))
    (aJ b))
    (aJ b))
    (aJ b))
    (aJ b)) ?_
 intro ν W4 hR;have R4:=hdd hR;clear hR R3;simp only[putL,bjL,bjO,fs0,fs1,fsn,dSw,dSt,dWc,dWa,dv,di,dp,ds',bjM,bjN,nuTn,nuT0,nuT1,nuU0,nuU1]
 go_upto_region 7 with fail
 refine Spec.go [.w (.c (.v (.pointer (some ⟨g,0,none⟩)))),.w (.c (.ptr 0 2)),.w (.c (.v (.float .f64 cb))),.w (.c (.ptr 1 3)),.w (.c (.v (.float .f64 dc))),.w (.c (.ptr 1 2)),.w (.c (.v (.float .f64 db))),.w (.c (.ptr 0 3)),.w (.c (.v (.float .f64 cc))),.tup [.c (.v (.bool r)),.c (.v .nilIface)],.w (.c (.v (.bool r))),.w (.c (.v .nilIface)),.w (.c (.v (.bool r))),.w (.c (.v .nilIface))] []
  [] [⟨0,32,curC 1 ca cb cc,none⟩,⟨1,32,curC 1 da db dc,none⟩]
  [0,0,0,0,0,0,0,0,0,7,0,0,0,0] [[],[],[1],[],[3],[],[5],[],[7],rgn 9,rgn 10,rgn 10,rgn 11,[0,1,2,3,4,5,6,7,8,9,11]] [(0,.w (.c (.v (.pointer (some ⟨g,0,none⟩))))),(4,.w (.c (.ptr 0 0))),(5,.w (.c (.ptr 1 0)))]
  [46,47,48,49,50,51,52,53,54,55,56,57,7,8] [b1,b2] 14 (N+21) [] [] R4.out
  (fun b hM=>aA (aA (aA (aA (aA (aA (aA (aA (aA (aA (aA (aA (aA (aA cO
    (aJ b))
    (aJ b))
    (dS b m0))
    (aJ b))
    (dS b m1))
    (aJ b))
    (dS b m1))
    (aJ b))
    (dS b m0))
    (bG b (c_fn (ix:=[]) (ts:=[]) hM (fun ν=>rT ⟨h1.2.1.1,h1.2.1.2⟩ ⟨h2.2.2.1.1,h2.2.2.1.2⟩ ⟨h2.2.1.1,h2.2.1.2⟩ ⟨h1.2.2.1.1,h1.2.2.1.2⟩ hS3 hr))))
    (aJ b))
    (aJ b))
    (aJ b))
    (aJ b)) ?_
 intro ν W5 hR;replace hR:Run ⟨w,B,ns⟩ g (N+21) [] [(b1,.cells #[(.int .i64 1),(.float .f64 ca),(.float .f64 cb),(.float .f64 cc)] 32),(b2,.cells #[(.int .i64 1),(.float .f64 da),(.float .f64 db),(.float .f64 dc)] 32)] W5:=hR;have R5:=hdd hR;clear hR R4;simp only[putL,bjL,bjO,fs0,fs1,fsn,dSw,dSt,dWc,dWa,dv,di,dp,ds',bjM,bjN,nuTn,nuT0,nuT1,nuU0,nuU1];have HF:Hid (afG w B ns g (N+21) (fun _=>.tuple #[.bool r,.nilIface]) [] (.returned (.tuple #[.bool r,.nilIface])) W5):=hdd ⟨[],rfl,rfl,_,(R5.out.more (by omega)).few (eQ [])⟩;clear R5;go_wp2
 go_ret2
 exact HF.out
end
section
open Go.RowKit Go.Maps
open Re (rat ofI ofN)
variable{kd:Int}
def Wp(p0 p1:Nat)(a1 a2:Int):Prop:=Iw p0 a1/\Iw p1 a2/\a1.natAbs<=22/\a2.natAbs<=22
def trnP(a1 a2 x1 x2 b1 b2:Int):Int:=((x1-a1)*(b2-a2)-(x2-a2)*(b1-a1)).sign
def rndP(a1 a2 b1 b2 x1 x2:Int):Bool:=(cmpP a1 a2 b1 b2==0)||(cmpP x1 x2 a1 a2==0)||(cmpP x1 x2 b1 b2==0)||(trnP a1 a2 x1 x2 b1 b2==1)
section
variable{g i j k l m n wa wb wc p0 p1 q0 q1 x0 x1 y0 y1:Nat}{A B C a1 a2 b1 b2 c1 c2 d1 d2:Int}
theorem wcmp(h:Wp p0 p1 a1 a2)(h':Wp q0 q1 b1 b2):gQ PT (.leaf p0) (.leaf p1) (.leaf q0) (.leaf q1) (cmpP a1 a2 b1 b2):=aoI h.1 h.2.1 h'.1 h'.2.1 h.2.2.1 h.2.2.2 h'.2.2.1 h'.2.2.2
theorem aqG(h:Wp p0 p1 a1 a2)(h':Wp q0 q1 b1 b2)(h'':Wp x0 x1 c1 c2):aaE PT (.leaf p0) (.leaf p1) (.leaf x0) (.leaf x1) (.leaf q0) (.leaf q1) (trnP a1 a2 c1 c2 b1 b2):=by
 have f1:=h.1.fit (L:=[]) 5 (nlt h.2.2.1) (by decide);have f2:=h.2.1.fit (L:=[]) 5 (nlt h.2.2.2) (by decide);have f3:=h'.1.fit (L:=[]) 5 (nlt h'.2.2.1) (by decide);have f4:=h'.2.1.fit (L:=[]) 5 (nlt h'.2.2.2) (by decide);have f5:=h''.1.fit (L:=[]) 5 (nlt h''.2.2.1) (by decide);have f6:=h''.2.1.fit (L:=[]) 5 (nlt h''.2.2.2) (by decide);exact(((f5.rsub f1).rmul (f4.rsub f2)).rsub ((f6.rsub f2).rmul (f3.rsub f1))).sign 1 (by decide) (by push_cast;grind) (by kernel_rfl)
structure Crv(kd:Int)(wa wb wc:Nat)(A B C:Int):Prop where
 a:Iw wa A
 b:Iw wb B
 c:Iw wc C
 ba:A.natAbs<=6
 bb:B.natAbs<=6
 bc:C.natAbs<=36
 k:kd=1/\kS wa wb wc\/kd=2/\vV wa wb wc/\(FloatKind.f64.format.order wc 0==some Ordering.eq)=false
def onP(kd A B C x y:Int):Int:=if kd=1 then(A*x+B*y-C).sign else((x-A)*(x-A)+(y-B)*(y-B)-C).sign
theorem Crv.on (h:Crv kd wa wb wc A B C)(hp:Wp p0 p1 a1 a2):FnOk 29 g 9 #[.pointer (some ⟨g,0,none⟩),curV kd wa wb wc,bD g i j] [(.leaf p0,i),(.leaf p1,j)] (fun _=>.tuple #[.int .i64 (onP kd A B C a1 a2),.nilIface]) []:=by
 rcases h.k with ⟨rfl,hl⟩|⟨rfl,hl,-⟩
 . exact af1 (li:=true) rfl (fun w=>yR hl) ((ad7 hl.1 hl.2.1 hl.2.2.1).upto (by omega)) (anY h.a h.b h.c hp.1 hp.2.1 h.ba h.bb h.bc hp.2.2.1 hp.2.2.2)
 . exact af1 (li:=false) rfl (fun w=>yS hl) (akT hl) (alW h.a h.b h.c hp.1 hp.2.1 h.ba h.bb h.bc hp.2.2.1 hp.2.2.2)
def okP(kd A B C a1 a2 b1 b2:Int):Bool:=onP kd A B C a1 a2==0&&onP kd A B C b1 b2==0&&(kd==2|| !(cmpP a1 a2 b1 b2==0))
theorem Crv.check (h:Crv kd wa wb wc A B C)(hp:Wp p0 p1 a1 a2)(hq:Wp q0 q1 b1 b2):FnOk 14 g 20 #[.pointer (some ⟨g,0,none⟩),aT g kd wa wb wc i j k l] [(.leaf p0,i),(.leaf p1,j),(.leaf q0,k),(.leaf q1,l)] (fun _=>chkA (okP kd A B C a1 a2 b1 b2)) []:=by
 refine aeM (fun w=> ?_) (h.on hp) (h.on hq) ?_
 . rcases h.k with ⟨rfl,hl⟩|⟨rfl,hl,-⟩
   . exact yR hl
   . exact yS hl
 . rcases h.k with ⟨rfl,hl⟩|⟨rfl,hl,h0⟩
   . exact Or.inr ⟨rfl,_,wcmp hp hq,by simp[okP]⟩
   . exact Or.inl ⟨rfl,h0,rfl⟩
theorem apR(hp:Wp p0 p1 a1 a2)(hq:Wp q0 q1 b1 b2)(hx:Wp x0 x1 c1 c2):FnOk 79 g 13 #[bD g i j,bD g k l,bD g m n] [(.leaf p0,i),(.leaf p1,j),(.leaf q0,k),(.leaf q1,l),(.leaf x0,m),(.leaf x1,n)] (fun _=>.tuple #[.bool (rndP a1 a2 b1 b2 c1 c2),.nilIface]) []:=
 aeN (wcmp hp hq) (wcmp hx hp) (wcmp hx hq) (aqG hp hq hx)
theorem Crv.has (h:Crv 2 wa wb wc A B C)(hp:Wp p0 p1 a1 a2)(hq:Wp q0 q1 b1 b2)(hx:Wp x0 x1 c1 c2)(ok:okP 2 A B C a1 a2 b1 b2=true)(on:onP 2 A B C c1 c2=0):
 FnOk 39 g 42 #[.pointer (some ⟨g,0,none⟩),aT g 2 wa wb wc i j k l,bD g m n] [(.leaf p0,i),(.leaf p1,j),(.leaf q0,k),(.leaf q1,l),(.leaf x0,m),(.leaf x1,n)] (fun _=>.tuple #[.bool (rndP a1 a2 b1 b2 c1 c2),.nilIface]) []:=by
 have hc:=h.check (g:=g) (i:=i) (j:=j) (k:=k) (l:=l) hp hq;rw[ok]at hc;have hh:=alY (li:=false) (i:=i) (j:=j) (k:=k) (l:=l) (ca:=wa) (cb:=wb) (cc:=wc) rfl (h.on (g:=g) (i:=m) (j:=n) hx) (apR hp hq hx);rw[on]at hh;exact ah7 hc hh
end
end
section
open Go.RowKit Go.Maps
def ovP(a1 a2 b1 b2 c1 c2 d1 d2:Int):Bool:=(cmpP a1 a2 b1 b2==0||cmpP c1 c2 d1 d2==0)||(rndP c1 c2 d1 d2 a1 a2&& !(cmpP a1 a2 d1 d2==0))||(rndP a1 a2 b1 b2 c1 c2&& !(cmpP c1 c2 b1 b2==0))
def jnP(a1 a2 b1 b2 c1 c2 d1 d2:Int):Nat:=bif cmpP a1 a2 b1 b2==0||cmpP c1 c2 d1 d2==0 then 0 else(cmpP a1 a2 d1 d2==0).toNat+(cmpP c1 c2 b1 b2==0).toNat
section
variable{g i j k l i' j' k' l' wa wb wc p0 p1 q0 q1 x0 x1 y0 y1:Nat}{A B C a1 a2 b1 b2 c1 c2 d1 d2:Int}
theorem al0{kd:Int}(h:okP kd A B C a1 a2 b1 b2=true):onP kd A B C a1 a2=0/\onP kd A B C b1 b2=0:=by
 unfold okP at h;simp only[Bool.and_eq_true,beq_iff_eq]at h;exact h.1
theorem aiC(h:Crv 2 wa wb wc A B C)(hp:Wp p0 p1 a1 a2)(hq:Wp q0 q1 b1 b2)(hx:Wp x0 x1 c1 c2)(hy:Wp y0 y1 d1 d2)(o1:okP 2 A B C a1 a2 b1 b2=true)(o2:okP 2 A B C c1 c2 d1 d2=true):
 sZ 10 g 200 #[.pointer (some ⟨g,0,none⟩),aT g 2 wa wb wc i j k l,aT g 2 wa wb wc i' j' k' l'] [(.leaf p0,i),(.leaf p1,j),(.leaf q0,k),(.leaf q1,l),(.leaf x0,i'),(.leaf x1,j'),(.leaf y0,k'),(.leaf y1,l')] (qO g (ovP a1 a2 b1 b2 c1 c2 d1 d2) (fun _ ps=>ps.length=jnP a1 a2 b1 b2 c1 c2 d1 d2)):=by
 have hc:vV wa wb wc:=by
  rcases h.k with ⟨e,-⟩|⟨-,e,-⟩
  . cases e
  . exact e
 have W1:=lZ (g:=g) (i:=i) (j:=j) (k:=k) (l:=l) (kd:=2) (ca:=wa) (cb:=wb) (cc:=wc) (Or.inl ⟨rfl,_,wcmp hp hq,rfl⟩);have W2:=lZ (g:=g) (i:=i') (j:=j') (k:=k') (l:=l') (kd:=2) (ca:=wa) (cb:=wb) (cc:=wc) (Or.inl ⟨rfl,_,wcmp hx hy,rfl⟩);have hW:=xE (K0:=[(.leaf p0,i),(.leaf p1,j),(.leaf q0,k),(.leaf q1,l),(.leaf x0,i'),(.leaf x1,j'),(.leaf y0,k'),(.leaf y1,l')]) W1 W2 (eQ [0,1,2,3]) (eQ [4,5,6,7]);have c1':=h.check (g:=g) (i:=i) (j:=j) (k:=k) (l:=l) hp hq;rw[o1]at c1';have c2':=h.check (g:=g) (i:=i') (j:=j') (k:=k') (l:=l') hx hy;rw[o2]at c2';have s1:=sW (K0:=[(.leaf p0,i),(.leaf p1,j),(.leaf q0,k),(.leaf q1,l),(.leaf x0,i'),(.leaf x1,j'),(.leaf y0,k'),(.leaf y1,l')]) (kd:=2) (ca:=wa) (cb:=wb) (cc:=wc) (k:=k) (l:=l) (h.has (g:=g) (i:=i') (j:=j') (k:=k') (l:=l') (m:=i) (n:=j) hx hy hp o2 (al0 o1).1) (wcmp hp hy) (eQ [4,5,6,7,0,1]) (eQ [0,1,6,7]);have s2:=sW (K0:=[(.leaf p0,i),(.leaf p1,j),(.leaf q0,k),(.leaf q1,l),(.leaf x0,i'),(.leaf x1,j'),(.leaf y0,k'),(.leaf y1,l')]) (kd:=2) (ca:=wa) (cb:=wb) (cc:=wc) (k:=k') (l:=l') (h.has (g:=g) (i:=i) (j:=j) (k:=k) (l:=l) (m:=i') (n:=j') hp hq hx o1 (al0 o2).1) (wcmp hx hq) (eQ [0,1,2,3,4,5]) (eQ [4,5,2,3])
 have hL:=ac7 (g:=g) fun w=>aeO (w:=w) hc;refine aa0 (xN hW s1 s2 c1' c2' (eQ [0,1,2,3]) (eQ [4,5,6,7]) hL) hL hW (fun e _=> ?_) (fun e=>adA (wcmp hp hy) (wcmp hx hq) (wcmp hp hx) (eQ [0,1,2,3,4,5,6,7]) fun _ _ hl=> ?_)
 . unfold jnP;rw[e];rfl
 . unfold jnP;rw[e];exact hl
end
end
section
open Go.RowKit Go.Maps Go.Stop Go.Extern
section
variable{g i j k l ca cb cc i' j' k' l' ca' cb' cc':Nat}{kd kd':Int}{K0:List (Ex×Nat)}
end
end
section
open Go.RowKit Go.Maps
open Re (rat ofI ofN)
theorem al1(a1 a2 b1 b2:Int):cmpP a1 a2 b1 b2=-1\/cmpP a1 a2 b1 b2=0\/cmpP a1 a2 b1 b2=1:=by
 unfold cmpP
 split
 . rcases Int.lt_trichotomy (a2-b2) 0 with h|h|h
   . exact Or.inl (Int.sign_eq_neg_one_of_neg h)
   . exact Or.inr (Or.inl (by rw[h];rfl))
   . exact Or.inr (Or.inr (Int.sign_eq_one_of_pos h))
 . rcases Int.lt_trichotomy (a1-b1) 0 with h|h|h
   . exact Or.inl (Int.sign_eq_neg_one_of_neg h)
   . exact Or.inr (Or.inl (by rw[h];rfl))
   . exact Or.inr (Or.inr (Int.sign_eq_one_of_pos h))
section
variable{g i j k l wa wb wc p0 p1 q0 q1:Nat}{A B C a1 a2 b1 b2:Int}
theorem rU{a b:Nat}{A B:Int}(ha:Iw a A)(hb:Iw b B)(bA:A.natAbs<=36)(bB:B.natAbs<=36):fK PT (kU a b b a) 0/\fK PT (kU a b a b) 0:=by
 have f1:=ha.fit (L:=[]) 6 (nlt bA) (by decide);have f2:=hb.fit (L:=[]) 6 (nlt bB) (by decide);exact⟨((f1.rmul f2).rsub (f2.rmul f1)).zero (by grind) (by kernel_rfl),((f1.rmul f2).rsub (f1.rmul f2)).zero (by grind) (by kernel_rfl)⟩
theorem Crv.alike (h:Crv 1 wa wb wc A B C):FnOk 20 g 21 #[.pointer (some ⟨g,0,none⟩),curV 1 wa wb wc,curV 1 wa wb wc] [] (fun _=>.tuple #[.bool true,.nilIface]) []:=by
 have hl:kS wa wb wc:=by
  rcases h.k with ⟨-,e⟩|⟨e,-⟩
  . exact e
  . cases e
 have bA:A.natAbs<=36:=Nat.le_trans h.ba (by decide);have bB:B.natAbs<=36:=Nat.le_trans h.bb (by decide);exact ac6 (aiB (q:=0) hl hl (rU h.a h.b bA bB).1 (rU h.a h.c bA h.bc).2 (rU h.b h.c bB h.bc).2 rfl)
end
end
end Go.Proofs.YtjdgaogkioabeaaGreatDoor
