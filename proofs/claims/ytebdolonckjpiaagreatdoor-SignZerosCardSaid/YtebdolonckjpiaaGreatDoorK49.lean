/- A part of the proof: contracts of functions and plain laws (ZeW). -/
import Derived.Test.YtebdolonckjpiaaGreatDoorK45
import Derived.Test.YtebdolonckjpiaaGreatDoorK48
set_option linter.unusedVariables false
set_option linter.unusedSimpArgs false
set_option maxHeartbeats 25600000
set_option maxRecDepth 100000
namespace Go.Proofs.YtebdolonckjpiaaGreatDoor
open Go.RowKit Go.Maps Go.Stop Go.Extern
theorem anZ{w:World}{a b t:Int}(hT:Tab w)(htb:0<w.heap.size):
 Calls Tryz.prog 6 #[.int .i64 a,.int .i64 b,.int .i64 t] w (RetV w (.bool true)):=by
 have HA:=hdd (ao8 hT htb);have HT:=hdd (And.intro hT htb);have hxr:=aoL a;have hyr:=aoL b;have HZ:=hdd (zer4 hxr hyr);have HX:=hdd (And.intro hxr.1 (Int.le_of_lt hxr.2));have HY:=hdd (And.intro hyr.1 (Int.le_of_lt hyr.2));clear hT htb hxr hyr;go_enter Tryz.func6,Tryz.ntmps6
 by_cases h3:t>3000
 . go_wp2_with fail
   refine HA.out.mono ?_;rintro e w2⟨rfl,hb⟩;have HB:=hdd hb;clear hb;go_wp2;go_ret;exact⟨rfl,HB.out⟩
 go_wp2_with fail
 refine HA.out.mono ?_;rintro e w2⟨rfl,hb⟩;have HN:=hdd (adI (w0:=w) (l:=[]) hb (fun p hp=>by cases hp) (by simp) HT.out.1 HT.out.2);clear hb HA;go_wp2_with fail
 refine HN.out.mono ?_;rintro e W1⟨g,rfl,hR⟩;have R0:=hdd hR;clear hR HN;dsimp only;go_wp2_with fail
 generalize (wrap64 (a.tmod 1000+1000)).tmod 1000=x at*;refine(Run.dint (z:=x) R0.out (by omega) HX.out).mono ?_;rintro e w1⟨k1,rfl,hR⟩;have R1:=hdd hR;clear hR R0;go_wp2_with fail
 generalize (wrap64 (b.tmod 1000+1000)).tmod 1000=y at*;refine(Run.dint (z:=y) R1.out (by omega) HY.out).mono ?_;rintro e w2⟨k2,rfl,hR⟩;have R2:=hdd hR;clear hR R1;go_wp2_with fail
 refine(Run.droot R2.out (by omega) (by repeat (first|exact .head _|apply List.Mem.tail))).mono ?_;rintro e w3⟨k3,rfl,hR⟩;have R3:=hdd hR;clear hR R2;go_wp2_with fail
 refine(Run.droot R3.out (by omega) (by repeat (first|exact .head _|apply List.Mem.tail))).mono ?_;rintro e w4⟨k4,rfl,hR⟩;have R4:=hdd hR;clear hR R3;obtain⟨w5,hw5,-,-,-⟩:=pro1 w4 (.cells #[.int .i64 (k3:Int),.int .i64 (k3:Int)] 3);have R5:=hdd (hw5▸Run.alloc R4.out (.cells #[.int .i64 (k3:Int),.int .i64 (k3:Int)] 3));clear R4;go_wp2_with fail
 refine(Run.dmul R5.out (by omega) (by repeat (first|exact .head _|apply List.Mem.tail)) (by repeat (first|exact .head _|apply List.Mem.tail)) (.head _)).mono ?_;rintro e w6⟨k6,rfl,hR⟩;have R6:=hdd hR;clear hR R5;replace R6:=hdd (Run.tail R6.out);go_wp2_with fail
 refine(Run.dsub R6.out (by omega) (by repeat (first|exact .head _|apply List.Mem.tail)) (by repeat (first|exact .head _|apply List.Mem.tail))).mono ?_;rintro e w7⟨k7,rfl,hR⟩;have R7:=hdd hR;clear hR R6;obtain⟨w8,hw8,-,-,-⟩:=pro1 w7 (.cells #[.int .i64 (k3:Int),.int .i64 (k4:Int)] 3);have R8:=hdd (hw8▸Run.alloc R7.out (.cells #[.int .i64 (k3:Int),.int .i64 (k4:Int)] 3));clear R7;go_wp2_with fail
 refine(Run.dadd R8.out (by omega) (by repeat (first|exact .head _|apply List.Mem.tail)) (by repeat (first|exact .head _|apply List.Mem.tail)) (.head _)).mono ?_;rintro e w9⟨k9,rfl,hR⟩;have R9:=hdd hR;clear hR R8;replace R9:=hdd (Run.tail R9.out);go_wp2_with fail
 refine(Run.dsub R9.out (by omega) (by repeat (first|exact .head _|apply List.Mem.tail)) (by repeat (first|exact .head _|apply List.Mem.tail))).mono ?_;rintro e w10⟨k10,rfl,hR⟩;have R10:=hdd hR;clear hR R9;obtain⟨w11,hw11,-,-,-⟩:=pro1 w10 (.cells #[.int .i64 (k9:Int),.int .i64 (k10:Int)] 3);have R11:=hdd (hw11▸Run.alloc R10.out (.cells #[.int .i64 (k9:Int),.int .i64 (k10:Int)] 3));clear R10;go_wp2_with fail
 refine(Run.dmul R11.out (by omega) (by repeat (first|exact .head _|apply List.Mem.tail)) (by repeat (first|exact .head _|apply List.Mem.tail)) (.head _)).mono ?_;rintro e w12⟨k12,rfl,hR⟩;have R12:=hdd hR;clear hR R11;replace R12:=hdd (Run.tail R12.out);go_wp2_with fail
 refine(Run.dsub R12.out (by omega) (by repeat (first|exact .head _|apply List.Mem.tail)) (by repeat (first|exact .head _|apply List.Mem.tail))).mono ?_;rintro e w13⟨k13,rfl,hR⟩;have R13:=hdd hR;clear hR R12;go_wp2_with fail
 refine(Run.dsub R13.out (by omega) (by repeat (first|exact .head _|apply List.Mem.tail)) (by repeat (first|exact .head _|apply List.Mem.tail))).mono ?_;rintro e w14⟨k14,rfl,hR⟩;have R14:=hdd hR;clear hR R13;obtain⟨w15,hw15,-,-,-⟩:=pro1 w14 (.cells #[.int .i64 (k1:Int),.int .i64 (k2:Int)] 3);have R15:=hdd (hw15▸Run.alloc R14.out (.cells #[.int .i64 (k1:Int),.int .i64 (k2:Int)] 3));clear R14;go_wp2_with fail
 refine(Run.dmul R15.out (by omega) (by repeat (first|exact .head _|apply List.Mem.tail)) (by repeat (first|exact .head _|apply List.Mem.tail)) (.head _)).mono ?_;rintro e w16⟨k16,rfl,hR⟩;have R16:=hdd hR;clear hR R15;replace R16:=hdd (Run.tail R16.out);go_wp2_with fail
 refine(Run.droot R16.out (by omega) (by repeat (first|exact .head _|apply List.Mem.tail))).mono ?_;rintro e w17⟨k17,rfl,hR⟩;have R17:=hdd hR;clear hR R16;obtain⟨w18,hw18,-,-,-⟩:=pro1 w17 (.cells #[.int .i64 (k3:Int),.int .i64 (k4:Int)] 3);have R18:=hdd (hw18▸Run.alloc R17.out (.cells #[.int .i64 (k3:Int),.int .i64 (k4:Int)] 3));clear R17;go_wp2_with fail
 refine(Run.dmul R18.out (by omega) (by repeat (first|exact .head _|apply List.Mem.tail)) (by repeat (first|exact .head _|apply List.Mem.tail)) (.head _)).mono ?_;rintro e w19⟨k19,rfl,hR⟩;have R19:=hdd hR;clear hR R18;replace R19:=hdd (Run.tail R19.out);go_wp2_with fail
 refine(Run.dsub R19.out (by omega) (by repeat (first|exact .head _|apply List.Mem.tail)) (by repeat (first|exact .head _|apply List.Mem.tail))).mono ?_;rintro e w20⟨k20,rfl,hR⟩;have R20:=hdd hR;clear hR R19;go_wp2_with fail
 refine(Run.dint (z:=1) R20.out (by omega) (by decide)).mono ?_;rintro e w21⟨k21,rfl,hR⟩;have R21:=hdd hR;clear hR R20;obtain⟨w22,hw22,-,-,-⟩:=pro1 w21 (.cells #[.int .i64 (k1:Int),.int .i64 (k21:Int)] 3);have R22:=hdd (hw22▸Run.alloc R21.out (.cells #[.int .i64 (k1:Int),.int .i64 (k21:Int)] 3));clear R21;go_wp2_with fail
 refine(Run.dadd R22.out (by omega) (by repeat (first|exact .head _|apply List.Mem.tail)) (by repeat (first|exact .head _|apply List.Mem.tail)) (.head _)).mono ?_;rintro e w23⟨k23,rfl,hR⟩;have R23:=hdd hR;clear hR R22;replace R23:=hdd (Run.tail R23.out);go_wp2_with fail
 refine(Run.dint (z:=1) R23.out (by omega) (by decide)).mono ?_;rintro e w24⟨k24,rfl,hR⟩;have R24:=hdd hR;clear hR R23;obtain⟨w25,hw25,-,-,-⟩:=pro1 w24 (.cells #[.int .i64 (k1:Int),.int .i64 (k24:Int)] 3);have R25:=hdd (hw25▸Run.alloc R24.out (.cells #[.int .i64 (k1:Int),.int .i64 (k24:Int)] 3));clear R24;go_wp2_with fail
 refine(Run.dadd R25.out (by omega) (by repeat (first|exact .head _|apply List.Mem.tail)) (by repeat (first|exact .head _|apply List.Mem.tail)) (.head _)).mono ?_;rintro e w26⟨k26,rfl,hR⟩;have R26:=hdd hR;clear hR R25;replace R26:=hdd (Run.tail R26.out);go_wp2_with fail
 refine(Run.ddiv R26.out (by omega) (by repeat (first|exact .head _|apply List.Mem.tail)) (by repeat (first|exact .head _|apply List.Mem.tail))).mono ?_;rintro e w27⟨k27,rfl,hR⟩;have R27:=hdd hR;clear hR R26;go_wp2_with fail
 refine(Run.dint (z:=1) R27.out (by omega) (by decide)).mono ?_;rintro e w28⟨k28,rfl,hR⟩;have R28:=hdd hR;clear hR R27;go_wp2_with fail
 refine(Run.dsub R28.out (by omega) (by repeat (first|exact .head _|apply List.Mem.tail)) (by repeat (first|exact .head _|apply List.Mem.tail))).mono ?_;rintro e w29⟨k29,rfl,hR⟩;have R29:=hdd hR;clear hR R28;obtain⟨w30,hw30,-,-,-⟩:=pro1 w29 (.cells #[.int .i64 (k7:Int),.int .i64 (k14:Int),.int .i64 (k20:Int),.int .i64 (k29:Int)] 3);have R30:=hdd (hw30▸Run.alloc R29.out (.cells #[.int .i64 (k7:Int),.int .i64 (k14:Int),.int .i64 (k20:Int),.int .i64 (k29:Int)] 3));clear R29;go_wp2_with fail
 refine ways_call.mono ?_;rintro e W2⟨rfl,hb,ho⟩;have HR:=hdd (Run.keep R30.out hb ho nlr);have HQ:Hid (ZR w g w30.heap.size w29.heap.size t k7 k14 k20 k29 W2):=hdd ⟨_,_,HR.out,fun k hk=>by
  obtain⟨z1,z2,z3,z4⟩:=HZ.out;simp only[List.mem_cons,List.not_mem_nil,or_false]at hk;rcases hk with rfl|rfl|rfl|rfl
  . exact⟨_,by repeat (first|exact .head _|apply List.Mem.tail),z1⟩
  . exact⟨_,by repeat (first|exact .head _|apply List.Mem.tail),z2⟩
  . exact⟨_,by repeat (first|exact .head _|apply List.Mem.tail),z3⟩
  . exact⟨_,by repeat (first|exact .head _|apply List.Mem.tail),z4⟩⟩
 clear hb ho HR R30 HZ HX HY HT;generalize w30.heap.size=q at*;generalize w29.heap.size=r at*;go_wp2_with fail
 go_loopw [14,15,16,17] (fun i _ _ _ wr=>∃m:Nat,m<=4/\i=.int .i64 (m:Int)/\Hid (ZR w g q r t k7 k14 k20 k29 wr)) (fun i _ _ _ _=>((4:Int)-intOf i).toNat)
 case atStart=>exact⟨0,Nat.zero_le _,rfl,HQ⟩
 case round=>
  obtain⟨m,hm,rfl,HM⟩:=hrel;rcases Nat.lt_or_ge m 4 with hlt|hge
  . obtain⟨k,hk⟩:∃k,[k7,k14,k20,k29][m]? =some k:=⟨_,List.getElem?_eq_getElem (by simpa using hlt)⟩
    have HK:=hdd hk;have HL:=hdd hlt;have hmI:(m:Int)<4:=by omega
    have hm0:(0:Int)<=(m:Int):=by omega
    clear hk hlt hm;go_wp2_with fail
    go_loopw [15,16,17] (fun i _ _ wr=>∃j:Nat,j<=4/\i=.int .i64 (j:Int)/\Hid (ZR w g q r t k7 k14 k20 k29 wr)) (fun i _ _ _=>((4:Int)-intOf i).toNat)
    case atStart=>exact⟨0,Nat.zero_le _,rfl,HM⟩
    case round=>
     obtain⟨j,hj,rfl,HJ⟩:=hrel;rcases Nat.lt_or_ge j 4 with hlj|hgj
     . obtain⟨f,s,hfs⟩:=ZR.way (w:=w) (g:=g) (q:=q) (r:=r) (t:=t) (k0:=k7) (k1:=k14) (k2:=k20) (k3:=k29) hlj
       have HFS:=hdd hfs;have HD:=hdd HJ.out.drew;obtain⟨c0,c1⟩:=hfs _ HD.out;have cm:=HD.out.num HK.out;have hjI:(j:Int)<4:=by omega
       have hj0:(0:Int)<=(j:Int):=by omega
       have HLJ:=hdd hlj;obtain⟨w9,hw9,hb9,hs9,b9⟩:=pro1 wr.drew (.cells #[.bool f,.int .i64 s] 65);have e0:=cbl c0 hb9;have e1:=cbl c1 hb9;have em:=cbl cm hb9;have HC:=HD.out.ask (List.mem_of_getElem? HK.out) (f:=f) (s:=s);rw[hw9,show wr.drew.heap.size=wr.heap.size from rfl]at HC;replace HC:=hdd HC;clear hlj hj hfs hb9 hs9 b9;go_wp2_with fail
       go_region_held3 (fun w'=>w'.cell? ⟨r,m,none⟩=some (.int .i64 (k:Int))/\w'.cell? ⟨q,j*2,none⟩=some (.bool f)/\w'.cell? ⟨q,j*2+1,none⟩=some (.int .i64 s)) (go_keep)
        (first
        |(go_at_call 27
          with_reducible refine HC.out.mono ?_
          rintro e W3⟨rfl,hz⟩;have HZ3:=hdd hz;have em:=HZ3.out.num HK.out;obtain⟨e0,e1⟩:=HFS.out _ HZ3.out;clear hz))
       all_goals
        go_wp2_with fail
        go_roundw
        case rel=>exact⟨j+1,by have:=HLJ.out;omega,by go_num,HZ3⟩
        case measure=>have:=HLJ.out;simp[intOf];omega
     . have hje:j=4:=by omega
       subst hje;clear hj hgj;go_wp2_with fail
       go_roundw
       case rel=>exact⟨m+1,by have:=HL.out;omega,by go_num,HJ⟩
       case measure=>have:=HL.out;simp[intOf];omega
  . have hme:m=4:=by omega
    subst hme;have HB:=hdd HM.out.below;clear hm hge;go_wp2;go_ret;exact⟨rfl,HB.out⟩
end Go.Proofs.YtebdolonckjpiaaGreatDoor
