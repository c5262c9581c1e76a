/- A part of the proof: contracts of functions and plain laws (TuA, CeA, ArA, AfA, AfB). -/
import Derived.Test.YtkpodipoegbclaaGreatDoorK41
import Derived.Test.YtkpodipoegbclaaGreatDoorK42
import Derived.Test.YtkpodipoegbclaaGreatDoorK16
import Derived.Test.YtkpodipoegbclaaGreatDoorK17
import Derived.Test.YtkpodipoegbclaaGreatDoorK13
set_option linter.unusedVariables false
set_option linter.unusedSimpArgs false
set_option maxHeartbeats 25600000
set_option maxRecDepth 100000
namespace Go.Proofs.YtkpodipoegbclaaGreatDoor
section
open Go.RowKit Go.Maps Go.Stop Go.Extern
open Go.Value renaming ownBlock->avV,oneCell'->avX
open Option.some renaming inj->avU,injEq->avW
variable{b:Nat}{w:World}
theorem ao2:Calls Tryz.prog 36 #[] w (fun e w'=>e=.returned (.iface 124 (.int .i64 4))/\w=w'):=by
 go_enter Tryz.func36,Tryz.ntmps36
 go_wp2;go_ret;exact⟨rfl,rfl⟩
theorem aoY:Calls Tryz.prog 36 #[] w (RetV w (.iface 124 (.int .i64 4))):=by
 go_enter Tryz.func36,Tryz.ntmps36
 go_wp2;go_ret;exact⟨rfl,Below.refl _ _⟩
theorem ap8{a c:Nat}(ha:a<18446744073709551616)(hb:b<18446744073709551616)(hc:c<18446744073709551616)(h:¬apA a b c):Calls Tryz.prog 79 #[curV 1 a b c] w (an9 w 5):=by
 obtain⟨w1,hw1,hb1,hs1,b1⟩:=pro1 w (curO 1 a b c);obtain⟨c0,c1,c2,c3⟩:=aY b1;have HB:=hdd hb1;have HL:=hdd (asC (w:=w1) ha hb hc h);clear h hb1 hs1 b1 ha hb hc;go_enter Tryz.func79,Tryz.ntmps79
 go_wp2_with fail
 refine HL.out.mono ?_;rintro e w2 hr;obtain⟨er,n,rfl,-⟩:=id hr;have HR:=hdd hr;clear hr;go_wp2;go_ret;exact HR.out.up HB.out
theorem aqI{T:TypeId}{cs:Array Value}(h:w.heap[b]? =some (.cells cs T (0,0)))(k:Nat):w.frozen? ⟨b,k,none⟩=false:=by simp[World.frozen?,h]
def RetJn(w:World)(v1 v2:Value)(e:Ending)(w':World):Prop:=∃b r cap,e=.returned (.iface 256 (.pointer (some ⟨b,0,none⟩)))/\w'.cell? ⟨b,0,none⟩=some (.slice (some ⟨r,0,none⟩) 2 cap)/\w'.cell? ⟨r,0,none⟩=some v1/\w'.cell? ⟨r,1,none⟩=some v2/\Below w.heap.size w w'/\w.heap.size<=b/\w.heap.size<=r
theorem ap4:Tryz.prog.underlying 205=some (.slice 35):=by kernel_rfl
theorem asD:(Tryz.prog.info? 35).map (fun i=>(i.zero,i.size,i.bytes))=some (some (.nilIface),1,16):=by kernel_rfl
theorem asE{t1 t2:TypeId}{x1 x2:Value}(c0:w.cell? ⟨b,0,none⟩=some (.iface t1 x1))(c1:w.cell? ⟨b,1,none⟩=some (.iface t2 x2)):
 Calls Tryz.prog 128 #[.slice (some ⟨b,0,none⟩) 2 2] w (RetJn w (.iface t1 x1) (.iface t2 x2)):=by
 have hbl:b<w.heap.size:=World.block_lt_of_cell? w _ c0;obtain⟨i0,hi0,hz0,hz1,hz2⟩:=info_parts asD;obtain⟨w2,hrun,hown,hgr⟩:=run_make_own (P:=Tryz.prog) w w.heap.size 205 35 i0 .nilIface 1 ap4 hi0 hz0 hz1 .i64 .i64 2 (by rw[hz2];omega) (by unfold maxLen;omega) nlr;have hb2:Below w.heap.size w w2:=⟨hgr.os,hgr.tape,hgr.output,hgr.size,fun b hb=>hgr.block b hb (by simp)⟩;have hrun':(Instr.makeSlice 205 (.int .i64 0) (.int .i64 2)).run Tryz.prog w=.ok (.slice (some ⟨w.heap.size,0,none⟩) 0 2) w2:=by simpa using hrun
 have hs2:w.heap.size<w2.heap.size:=by
  rcases hown.2 with ⟨h,-⟩|⟨g,_,_,h,-,h2,-⟩
  . simp at h
  . simp only[Value.slice.injEq,avW,Addr.mk.injEq]at h
    obtain⟨⟨rfl,-⟩,-⟩:=h;exact aG h2
 obtain⟨w3,hw3,hb3,hs3,b3⟩:=pro1 w2 (.cells #[.slice (some ⟨w.heap.size,0,none⟩) 0 2] 258);obtain⟨w4,hw4,hb4,hs4,b4⟩:=pro1 w3 (.cells #[.iface t1 x1] 35);have e0:=bZ (k:=0) (v:=.slice (some ⟨w.heap.size,0,none⟩) 0 2) b3 rfl;have d0:=cell_below (cbl c0 hb2) hb3 nlr;have d1:=cell_below (cbl c1 hb2) hb3 nlr;have f0:=cbl e0 hb4;have F1:=hdd (cbl d1 hb4);have HO4:=hdd ((hown.kept (bM (row:=none) hb3) (Or.inr (by simp[avV]))).kept (bM (row:=none) hb4) (Or.inr (by simp[avV])));have HC4:=hdd (dN b4);have HI0:=hdd hi0;have HZ0:=hdd hz0;have HZ1:=hdd hz1;have HZ2:=hdd hz2;have HB4:=hdd (aA (aA hb2 hb3) hb4);have HS4:Hid (w.heap.size<=w4.heap.size):=hdd HB4.out.size;have G4:=hdd (aC b3 hb4 (aG b3));have zz:=aqI G4.out;have HL2:Hid (w.heap.size<w2.heap.size/\w2.heap.size<w4.heap.size/\b<w.heap.size):=hdd ⟨hs2,by have:=aG b3;have:=hb4.size;omega,hbl⟩;clear hown hgr hb2 hrun hs2 hb3 hs3 b3 hb4 hs4 b4 hi0 hz0 hz1 hz2 f0 zz hbl
 go_enter Tryz.func128,Tryz.ntmps128
 go_wp2_with fail
 refine wp_loop_rounds 3 ?_;rw[rounds_succ];go_wp2_with fail
 rw[rounds_succ];go_wp2_with fail
 rw[rounds_succ];go_wp2_with fail
 refine wp_loop_rounds 3 ?_;rw[rounds_succ];go_wp2_with (first
  |(at_builtin
    go_loud (
    refine wpList_append_lies _ rfl _ _ 205 rfl w.heap.size 35 i0 .nilIface 1 16 ap4 HI0.out HZ0.out HZ1.out HZ2.out rfl (by decide) _ 0 [] rfl HO4.out ⟨w3.heap.size,0,none⟩ 1 1 [.iface t1 x1] rfl rfl HC4.out (by simp[avX]) (by decide) (by unfold maxLen;omega) (by omega) HS4.out w4.heap.size rfl ?_;intro r cap w5 hown5 hgrow5 hat5 hlt5;have HO5:=hdd hown5;have HG5:=hdd hgrow5;have HA5:=hdd hat5;have G5:=hdd ((hgrow5.block w2.heap.size HL2.out.2.1 (fun e=>absurd (show some w2.heap.size=some w.heap.size from e) (fun k=>by have h1:=HL2.out.1;have h2:=avU k;omega))).trans G4.out);have zz:=aqI G5.out;have g0:=bZ (k:=0) (v:=.slice (some ⟨w.heap.size,0,none⟩) 0 2) G5.out rfl;clear hown5 hgrow5 hat5 hlt5)))
 have HB5:=hdd (HB4.out.trans (Below.of_grown HG5.out HS4.out (by simp[avV])));have D5:Hid (w5.cell? ⟨b,1,none⟩=some (.iface t2 x2)):=hdd (cbl c1 HB5.out);have hr:r≠w2.heap.size:=by
  have h1:=HL2.out;rcases HA5.out with h|h
  . have h2:w.heap.size=r:=avU h;omega
  . omega
 obtain⟨w6,hw6⟩:∃v,w5.setCell ⟨w2.heap.size,0,none⟩ (.slice (some ⟨r,0,none⟩) 1 cap)=v:=⟨_,rfl⟩;have g6:=grownBy_set (sN w5 (some w2.heap.size)) (i:=0) (.slice (some ⟨r,0,none⟩) 1 cap);have s6:=uU (cs:=[.slice (some ⟨w.heap.size,0,none⟩) 0 2]) (k:=0) (v:=.slice (some ⟨r,0,none⟩) 1 cap) G5.out;rw[hw6]at g6 s6;have HR:Hid (w.heap.size<=r):=hdd (by
  rcases HA5.out with h|h
  . have h2:w.heap.size=r:=avU h;omega
  . have:=HL2.out;omega)
 have HO6:=hdd (HO5.out.kept g6 (Or.inr (fun e=>hr (avU e))));have HB6:=hdd (HB5.out.trans (Below.of_grown g6 HB5.out.size (Nat.le_of_lt HL2.out.1)));have G6:=hdd s6;simp only[hw6];have c6:=cbl c1 HB6.out;have g0:=bZ (k:=0) (v:=.slice (some ⟨r,0,none⟩) 1 cap) G6.out rfl;obtain⟨w7,hw7,hb7,hs7,b7⟩:=pro1 w6 (.cells #[.iface t2 x2] 35);have HO7:=hdd (HO6.out.kept (bM (row:=none) hb7) (Or.inr (by simp[avV])));have HC7:=hdd (dN b7);have HS7:Hid (w.heap.size<=w7.heap.size):=hdd (aA HB6.out hb7).size;have G7:=hdd (aC G6.out hb7 (aG G6.out));have HB7:=hdd (aA HB6.out hb7);have HL7:Hid (w2.heap.size<w7.heap.size):=hdd (aG G7.out);clear g6 s6 hw6 hb7 hs7 b7 HG5 HA5 G5 HB5 D5 HB4 G4 HC4 HO4 F1 d0 d1 hrun' c0 c1 HO5 HO6 zz;rw[rounds_succ];go_wp2_with (first
  |(at_builtin
    go_loud (
    refine wpList_append_lies _ rfl _ _ 205 rfl w.heap.size 35 i0 .nilIface 1 16 ap4 HI0.out HZ0.out HZ1.out HZ2.out rfl (by decide) _ 1 [.iface t1 x1] rfl HO7.out ⟨w6.heap.size,0,none⟩ 1 1 [.iface t2 x2] rfl rfl HC7.out (by simp[avX]) (by decide) (by unfold maxLen;omega) (by omega) HS7.out w7.heap.size rfl ?_;intro r2 cap2 w8 hown8 hgrow8 hat8 hlt8;have HG8:=hdd hgrow8;have HO8:=hdd hown8;have HA8:=hdd hat8;have G8:=hdd ((hgrow8.block w2.heap.size HL7.out (fun e=>hr (avU (show some w2.heap.size=some r from e)).symm)).trans G7.out);have zz:=aqI G8.out;have g8:=bZ (k:=0) (v:=.slice (some ⟨r,0,none⟩) 1 cap) G8.out rfl;clear hown8 hgrow8 hat8 hlt8)))
 have HB8:=hdd (HB7.out.trans (Below.of_grown HG8.out HS7.out (HR.out)));obtain⟨w9,hw9⟩:∃v,w8.setCell ⟨w2.heap.size,0,none⟩ (.slice (some ⟨r2,0,none⟩) 2 cap2)=v:=⟨_,rfl⟩;have g9:=grownBy_set (sN w8 (some w2.heap.size)) (i:=0) (.slice (some ⟨r2,0,none⟩) 2 cap2);rw[hw9]at g9;have s9:=uU (cs:=[.slice (some ⟨r,0,none⟩) 1 cap]) (k:=0) (v:=.slice (some ⟨r2,0,none⟩) 2 cap2) G8.out;rw[hw9]at s9;have HR2:Hid (w.heap.size<=r2):=hdd (by
  rcases HA8.out with h|h
  . have h2:r=r2:=avU h;rw[<-h2];exact HR.out
  . rw[h];exact HS7.out)
 have hr2:r2≠w2.heap.size:=by
  have h1:=HL7.out;rcases HA8.out with h|h
  . have h2:r=r2:=avU h;omega
  . omega
 have HO9:=hdd (HO8.out.kept g9 (Or.inr (fun e=>hr2 (avU e))));have S9:=hdd s9;have HB9:=hdd (HB8.out.trans (Below.of_grown g9 HB8.out.size (Nat.le_of_lt HL2.out.1)));simp only[hw9];clear hw9 g9 s9 HB8 HG8 G8 zz g8 HO8 HA8;rw[rounds_succ];go_wp2;go_ret;obtain⟨-,⟨e,-⟩|⟨g1,c1',cur,e,-,hg,h1,h2,h3,h4⟩⟩:=HO9.out
 . simp at e
 . simp only[Value.slice.injEq,avW,Addr.mk.injEq]at e
   obtain⟨⟨rfl,-⟩,-,rfl⟩:=e;have hc:∀(k:Nat) (u:Value),[Value.iface t1 x1,.iface t2 x2][k]? =some u->k<2->w9.cell? ⟨r2,k,none⟩=some u:=fun k u hu hk=>by
    refine bZ (cs:=cur.toList) (by simpa using hg) ?_;replace h4:cur.toList.take (2*1)=[Value.iface t1 x1,.iface t2 x2]:=h4;rw[<-h4,List.getElem?_take,if_pos (by omega)]at hu;exact hu
   exact⟨_,_,_,rfl,bZ S9.out rfl,hc 0 _ rfl (by decide),hc 1 _ rfl (by decide),HB9.out,Nat.le_of_lt HL2.out.1,HR2.out⟩
theorem apM{t:TypeId}{x:Value}:Calls Tryz.prog 80 #[.iface t x] w (RetJn w (.iface 124 (.int .i64 4)) (.iface t x)):=by
 obtain⟨w1,hw1,hb1,hs1,b1⟩:=pro1 w (.cells #[.iface 124 (.int .i64 4),.iface t x] 35);have HJ:=hdd (asE (w:=w1) (bZ (k:=0) (v:=.iface 124 (.int .i64 4)) b1 rfl) (bZ (k:=1) (v:=.iface t x) b1 rfl));have HB:=hdd hb1;have HI:Hid (∀w',Calls Tryz.prog 36 #[] w' (fun e w2=>e=.returned (.iface 124 (.int .i64 4))/\w'=w2)):=hdd fun w'=>ao2;clear hb1 hs1 b1;go_enter Tryz.func80,Tryz.ntmps80
 go_wp2_with fail
 refine(HI.out _).mono ?_;rintro e w2⟨rfl,rfl⟩;go_wp2_with fail
 refine HJ.out.mono ?_;rintro e w3⟨b3,r3,c3,rfl,k1,k2,k3,hb3,k4,k5⟩;have HF:=hdd (show RetJn w (.iface 124 (.int .i64 4)) (.iface t x) (.returned (.iface 256 (.pointer (some ⟨b3,0,none⟩)))) w3 from⟨b3,r3,c3,rfl,k1,k2,k3,aA HB.out hb3,Nat.le_trans HB.out.size k4,Nat.le_trans HB.out.size k5⟩);clear hb3 k1 k2 k3 k4 k5;go_wp2;go_ret;exact HF.out
end
section
open Go.RowKit
theorem aoL{w:World}{g:Nat}{T:TypeId}{v0 v1 v2 v3 v4 v5 v6 v7 v8 v9 v10 v11:Value}(h:w.heap[g]? =some (.cells #[v0,v1,v2,v3,v4,v5,v6,v7,v8,v9,v10,v11] T (0,0))):
 w.cell? ⟨g,0,none⟩=some v0/\w.cell? ⟨g,1,none⟩=some v1/\w.cell? ⟨g,2,none⟩=some v2/\w.cell? ⟨g,3,none⟩=some v3/\w.cell? ⟨g,4,none⟩=some v4/\w.cell? ⟨g,5,none⟩=some v5/\w.cell? ⟨g,6,none⟩=some v6/\w.cell? ⟨g,7,none⟩=some v7/\w.cell? ⟨g,8,none⟩=some v8/\w.cell? ⟨g,9,none⟩=some v9/\w.cell? ⟨g,10,none⟩=some v10/\w.cell? ⟨g,11,none⟩=some v11:=
 ⟨bZ (k:=0) h rfl,bZ (k:=1) h rfl,bZ (k:=2) h rfl,bZ (k:=3) h rfl,bZ (k:=4) h rfl,bZ (k:=5) h rfl,bZ (k:=6) h rfl,bZ (k:=7) h rfl,bZ (k:=8) h rfl,bZ (k:=9) h rfl,bZ (k:=10) h rfl,bZ (k:=11) h rfl⟩
end
section
open Go.RowKit Go.Maps Go.Stop Go.Extern
variable{k1 k2:Int}{a b c:Nat}{w w1:World}
section
variable{s:Bs}{g N d:Nat}{K K0:List (Ex×Nat)}{L:List (Nat×Obj)}{W:World}{f:FuncId}{av:Array Value}{v:Value}
theorem Run.box1 (hR:Run s g N K L W)(o1:Obj):∃w1,W.alloc o1=w1/\w1.heap[W.heap.size]? =some o1/\Run s g N K ((W.heap.size,o1)::L) w1:=⟨_,rfl,heap_alloc_new W o1,hR.alloc o1⟩
theorem Run.box2 (hR:Run s g N K L W)(o1 o2:Obj):∃w2,(W.alloc o1).alloc o2=w2/\w2.heap[W.heap.size]? =some o1/\w2.heap[W.heap.size+1]? =some o2/\Run s g N K ((W.heap.size+1,o2)::(W.heap.size,o1)::L) w2:=by
 obtain⟨w2,rfl,-,-,b1,b2⟩:=pro2 W o1 o2;refine⟨_,rfl,b1,b2,?_⟩;have:=(hR.alloc o1).alloc o2;rwa[show(W.alloc o1).heap.size=W.heap.size+1 by simp]at this
theorem FnOk.use (F:FnOk f g d av K0 (fun _=>v) [])(hR:Run s g N K L W)(hN:N+d<=20000)(hK:∀p∈K0,p∈K):Calls Tryz.prog f av W (fun e W'=>e=.returned v/\Run s g (N+d) K L W'):=
 (F s N K L W hR hN hK).mono fun _ _ ⟨_,_,h1,h2⟩=>⟨h1,h2⟩
theorem RtN.out (hR:Run s g N K L W):RtN s g N K L (fun _=>v) [] (.returned v) W:=⟨[],rfl,rfl,hR⟩
theorem RetV.run {c:World->Prop}(hR:Run s g N K L W)(h:Calls Tryz.prog f av W (RetV W v)):Calls Tryz.prog f av W (fun e W'=>e=.returned v/\Run s g N K L W'):=h.mono fun _ _ ⟨h1,h2⟩=>⟨h1,hR.step h2⟩
end
abbrev apU(g:Nat)(kd:Int)(ca cb cc i j k l:Nat):Value:=.agg #[.int .i64 kd,.float .f64 ca,.float .f64 cb,.float .f64 cc,.pointer (some ⟨g,0,none⟩),.int .i64 (i:Int),.pointer (some ⟨g,0,none⟩),.int .i64 (j:Int),.pointer (some ⟨g,0,none⟩),.int .i64 (k:Int),.pointer (some ⟨g,0,none⟩),.int .i64 (l:Int)]
abbrev atF(g:Nat)(kd:Int)(ca cb cc i j k l:Nat):Obj:=.cells #[.int .i64 kd,.float .f64 ca,.float .f64 cb,.float .f64 cc,.pointer (some ⟨g,0,none⟩),.int .i64 (i:Int),.pointer (some ⟨g,0,none⟩),.int .i64 (j:Int),.pointer (some ⟨g,0,none⟩),.int .i64 (k:Int),.pointer (some ⟨g,0,none⟩),.int .i64 (l:Int)] 73
theorem ixs0(a0 a1 a2 a3 a4 a5 a6 a7:Value)(w:World):(Instr.index 127 (.agg #[a0,a1,a2,a3,a4,a5,a6,a7]) (.int .i64 0)).run Tryz.prog w=.ok (.agg #[a0,a1,a2,a3]) w:=by kernel_rfl
theorem ixs1(a0 a1 a2 a3 a4 a5 a6 a7:Value)(w:World):(Instr.index 127 (.agg #[a0,a1,a2,a3,a4,a5,a6,a7]) (.int .i64 1)).run Tryz.prog w=.ok (.agg #[a4,a5,a6,a7]) w:=by kernel_rfl
def chkA(b:Bool):Value:=if b then .nilIface else .iface 124 (.int .i64 4)
section
variable{g i j k l m n ca cb cc:Nat}{kd:Int}{A1 A2 B1 B2 X1 X2 E:Ex}
theorem arD{q:Int}{li:Bool}(hk:(kd==1)=li)(hM:∀w,Calls Tryz.prog 79 #[curV kd ca cb cc] w (RetV w .nilIface))(hV:FnOk (cond li 129 130) g 9 #[.pointer (some ⟨g,0,none⟩),curV kd ca cb cc,aoP g i j] [(X1,i),(X2,j)] (fun ks=>numV g (ks.getD 0 0)) [E])(hS:gM PT E q):
 FnOk 81 g 9 #[.pointer (some ⟨g,0,none⟩),curV kd ca cb cc,aoP g i j] [(X1,i),(X2,j)] (fun _=>.tuple #[.int .i64 q,.nilIface]) []:=fun s N K L W hR hN hK=>by
 obtain⟨w1,hw1,b1,b2,R1⟩:=hR.box2 (curO kd ca cb cc) (apD g i j);obtain⟨x0,x1,x2,x3⟩:=aY b1;have HC:=hdd (RetV.run (c:=fun _=>True) R1 (hM w1));have HV:=hdd hV;have HS:=hdd hS;have HN:=hdd hN;have HK:=hdd hK;clear b1 b2 R1 hR hM hV hS hN hK;go_enter Tryz.func81,Tryz.ntmps81
 go_wp2_with fail
 refine HC.out.mono ?_;rintro e w2⟨rfl,hR⟩;obtain⟨x0,x1,x2,x3⟩:=aY (hR.at m1);obtain⟨y0,y1,y2,y3⟩:=aY (hR.at m0);have HC:=hdd (HV.out _ _ _ _ _ hR HN.out HK.out);clear hR HV
 cases li
 all_goals
  go_wp2_with fail
  refine HC.out.mono ?_;rintro e w3⟨ks,hl,rfl,hR⟩;obtain⟨k1,rfl⟩:∃k,ks=[k]:=by
   match ks,hl with
   |[k],_=>exact⟨k,rfl⟩
  have HC:=hdd (hR.sign (List.mem_cons_self ..) HS.out);clear hR;go_wp2_with fail
  refine HC.out.mono ?_;rintro e w4⟨rfl,hR⟩;replace hR:=hR.few (K':=K) (fun p hp=>List.mem_cons_of_mem _ hp);have HF:=hdd (RtN.out (v:=.tuple #[.int .i64 q,.nilIface]) ((hR.subl ((List.sublist_cons_self _ _).trans (List.sublist_cons_self _ _))).more (show _<=N+9 by omega)));clear hR;go_wp2
  go_ret2
  exact HF.out
end
theorem aqJ(v:Value)(xT:TypeId)(w:World):(Instr.typeAssert (.iface 256 v) xT 203 true).run Tryz.prog w=.ok (.tuple #[.nilIface,.bool false]) w:=run_typeAssert_lacksB Tryz.underlying203 (by kernel_rfl) (by kernel_rfl) v xT w
theorem ap5(v:Value)(xT:TypeId)(w:World):(Instr.typeAssert (.iface 256 v) xT 204 true).run Tryz.prog w=.ok (.tuple #[.iface 256 v,.bool true]) w:=run_typeAssert_hasB Tryz.underlying204 (by kernel_rfl) v xT w
theorem asF(v:Value)(xT:TypeId)(w:World):(Instr.typeAssert (.iface 256 v) xT 201 true).run Tryz.prog w=.ok (.tuple #[.nilIface,.bool false]) w:=run_typeAssert_lacksB Tryz.underlying201 (by kernel_rfl) (by kernel_rfl) v xT w
theorem apN (v : Value) (w : World) : (Go.method 382 256 v "Unwrap").run Tryz.prog w = .ok (326, v) w := by kernel_rfl
theorem aq4{v:Value}(h:w.cell? ⟨b,0,none⟩=some v):
 Calls Tryz.prog 326 #[.pointer (some ⟨b,0,none⟩)] w (fun e w'=>e=.returned v/\w'=w):=by
 go_enter Tryz.func326,Tryz.ntmps326
 go_wp2;go_ret;exact⟨rfl,rfl⟩
def aqF(w:World)(v:Value)(k1 k2:Int):Prop:=∃b r cap v1 v2 n1 n2,v=.iface 256 (.pointer (some ⟨b,0,none⟩))/\w.cell? ⟨b,0,none⟩=some (.slice (some ⟨r,0,none⟩) 2 cap)/\w.cell? ⟨r,0,none⟩=some v1/\w.cell? ⟨r,1,none⟩=some v2/\ErK (fun _=>True) w n1 v1 k1/\ErK (fun _=>True) w n2 v2 k2
theorem arM{v:Value}{j:Int}(h:aqF w v k1 k2):
 Calls Tryz.prog 84 #[v,.iface 124 (.int .i64 j),.bool true] w (fun e w'=>e=.returned (.bool (k1==j||k2==j))/\w'=w):=by
 obtain⟨b,r,cap,v1,v2,n1,n2,rfl,c0,d0,d1,h4,h5⟩:=h;have nK:=aqJ;have iK:=asF;have uK:=ap5;have mK:=apN;have eI:∀(p x:Value) (w:World),(binOp .eql 35 (.iface 256 p) (.iface 124 x)).run Tryz.prog w=.ok (.bool false) w:=fun p x w=>run_eql_iface_types (P:=Tryz.prog) _ _ p x Tryz.underlying35 (by decide) w;have HU:=hdd (aq4 c0);have q1:=aiQ (j:=j) h4;have q2:=aiQ (j:=j) h5;clear h4 h5 c0;generalize (k1==j)=a1 at q1|-;generalize (k2==j)=a2 at q2|-;have H1:=hdd q1;have H2:=hdd q2;clear q1 q2;go_enter Tryz.func84,Tryz.ntmps84
 go_wp2_with fail
 refine wp_loop_rounds 1 ?_;rw[rounds_succ];go_wp2_with fail
 refine HU.out.mono ?_;rintro e w2⟨rfl,rfl⟩;go_wp2_with fail
 refine wp_loop_rounds 3 ?_;rw[rounds_succ];go_wp2_with fail
 refine H1.out.mono ?_;rintro e w3⟨rfl,rfl⟩
 cases a1
 case' true=>
  go_wp2;go_ret;exact⟨rfl,rfl⟩
 go_wp2_with fail
 rw[rounds_succ];go_wp2_with fail
 refine H2.out.mono ?_;rintro e w4⟨rfl,rfl⟩
 cases a2
 case' true=>
  go_wp2;go_ret;exact⟨rfl,rfl⟩
 go_wp2_with fail
 rw[rounds_succ];go_wp2;go_ret;exact⟨rfl,rfl⟩
theorem aqK{v:Value}{j:Int}(h:aqF w v k1 k2):
 Calls Tryz.prog 35 #[v,.iface 124 (.int .i64 j)] w (fun e w'=>e=.returned (.bool (k1==j||k2==j))/\w'=w):=by
 have hnn:∃t x,v=.iface t x:=by obtain⟨b,r,cap,v1,v2,n1,n2,rfl,-⟩:=h;exact⟨_,_,rfl⟩
 obtain⟨vt,vx,rfl⟩:=hnn;have h8:=@run_callFunc_extern Tryz.prog 83 _ Extern.ReflectliteType.typeOf Tryz.func83 (by kernel_rfl) (by kernel_rfl) (by kernel_rfl) (by kernel_rfl);have h32:=@run_callFunc_extern Tryz.prog 315 _ cmpX Tryz.func315 (by kernel_rfl) (by kernel_rfl) (by kernel_rfl) (by kernel_rfl);have tT:=aiP;have cT:=zA;have mR:=nU;have HH:=hdd (arM (j:=j) h);clear h;go_enter Tryz.func35,Tryz.ntmps35
 go_wp2_with fail
 refine HH.out.mono ?_;rintro e w2⟨rfl,rfl⟩;go_wp2_with fail
 go_ret;exact⟨rfl,rfl⟩
theorem atN{s:ByteArray}:Calls Tryz.prog 51 #[.string s,.iface 124 (.int .i64 5)] w1 (an9 w1 5):=
 (aj9 (w:=w1) (ErK.kind (S:=fun _=>False) (k:=5) (by decide) (by decide))).mono fun _ _ ⟨er,h1,h2,h3⟩=>⟨er,1,h1,by omega,h2.mono fun b hb _=>by
   rcases hb with h|h
   . exact h.elim
   . exact h,h3⟩
theorem in_circle:Calls Tryz.prog 51 #[.string ⟨#[99,105,114,99,108,101]⟩,.iface 124 (.int .i64 5)] w1 (an9 w1 5):=atN
theorem as5(ha:a<18446744073709551616)(hb:b<18446744073709551616)(hc:c<18446744073709551616)(h:¬ao4 a b c):Calls Tryz.prog 127 #[curV 2 a b c] w (an9 w 5):=by
 by_cases fa:fin a
 . by_cases fb:fin b
   . by_cases fc:fin c
     . exact asB ⟨ha,fa⟩ ⟨hb,fb⟩ ⟨hc,fc⟩ (by
        rcases Int.lt_or_le (fv c) 0 with k|k
        . exact k
        . exact absurd ⟨⟨ha,fa⟩,⟨hb,fb⟩,⟨hc,fc⟩,k⟩ h)
     . obtain⟨w1,hw1,hb1,hs1,b1⟩:=pro1 w (curO 2 a b c)
       obtain⟨c0,c1,c2,c3⟩:=aY b1;have HB:=hdd hb1;have FA:Hid (∀w',Calls Tryz.prog 175 #[.float .f64 a] w' (RetB w' true)):=hdd fun w'=>by have:=aoN (w:=w') ha;rwa[decide_eq_true fa]at this
       have FB:Hid (∀w',Calls Tryz.prog 175 #[.float .f64 b] w' (RetB w' true)):=hdd fun w'=>by have:=aoN (w:=w') hb;rwa[decide_eq_true fb]at this
       have FC:Hid (∀w',Calls Tryz.prog 175 #[.float .f64 c] w' (RetB w' false)):=hdd fun w'=>by have:=aoN (w:=w') hc;rwa[decide_eq_false fc]at this
       clear fa fb fc;clear ha hb hc h hb1 hs1 b1;go_enter Tryz.func127,Tryz.ntmps127
       go_wp2_with fail
       refine(FA.out _).mono ?_;rintro e w2⟨rfl,hw⟩;obtain rfl:=hw;go_wp2_with fail
       refine(FB.out _).mono ?_;rintro e w2⟨rfl,hw⟩;obtain rfl:=hw;go_wp2_with fail
       refine(FC.out _).mono ?_;rintro e w2⟨rfl,hw⟩;obtain rfl:=hw;go_wp2_with fail
       refine degen_any.mono ?_;rintro e w2⟨rfl,hw⟩;obtain rfl:=hw;go_wp2_with fail
       refine in_circle.mono ?_;rintro e w2 hr;obtain⟨er,n,rfl,-⟩:=id hr;have HR:=hdd hr;clear hr;go_wp2;go_ret;exact HR.out.up HB.out
   . obtain⟨w1,hw1,hb1,hs1,b1⟩:=pro1 w (curO 2 a b c)
     obtain⟨c0,c1,c2,c3⟩:=aY b1;have HB:=hdd hb1;have FA:Hid (∀w',Calls Tryz.prog 175 #[.float .f64 a] w' (RetB w' true)):=hdd fun w'=>by have:=aoN (w:=w') ha;rwa[decide_eq_true fa]at this
     have FB:Hid (∀w',Calls Tryz.prog 175 #[.float .f64 b] w' (RetB w' false)):=hdd fun w'=>by have:=aoN (w:=w') hb;rwa[decide_eq_false fb]at this
     clear fa fb;clear ha hb hc h hb1 hs1 b1;go_enter Tryz.func127,Tryz.ntmps127
     go_wp2_with fail
     refine(FA.out _).mono ?_;rintro e w2⟨rfl,hw⟩;obtain rfl:=hw;go_wp2_with fail
     refine(FB.out _).mono ?_;rintro e w2⟨rfl,hw⟩;obtain rfl:=hw;go_wp2_with fail
     refine degen_any.mono ?_;rintro e w2⟨rfl,hw⟩;obtain rfl:=hw;go_wp2_with fail
     refine in_circle.mono ?_;rintro e w2 hr;obtain⟨er,n,rfl,-⟩:=id hr;have HR:=hdd hr;clear hr;go_wp2;go_ret;exact HR.out.up HB.out
 . obtain⟨w1,hw1,hb1,hs1,b1⟩:=pro1 w (curO 2 a b c)
   obtain⟨c0,c1,c2,c3⟩:=aY b1;have HB:=hdd hb1;have FA:Hid (∀w',Calls Tryz.prog 175 #[.float .f64 a] w' (RetB w' false)):=hdd fun w'=>by have:=aoN (w:=w') ha;rwa[decide_eq_false fa]at this
   clear fa;clear ha hb hc h hb1 hs1 b1;go_enter Tryz.func127,Tryz.ntmps127
   go_wp2_with fail
   refine(FA.out _).mono ?_;rintro e w2⟨rfl,hw⟩;obtain rfl:=hw;go_wp2_with fail
   refine degen_any.mono ?_;rintro e w2⟨rfl,hw⟩;obtain rfl:=hw;go_wp2_with fail
   refine in_circle.mono ?_;rintro e w2 hr;obtain⟨er,n,rfl,-⟩:=id hr;have HR:=hdd hr;clear hr;go_wp2;go_ret;exact HR.out.up HB.out
def apB(kd:Int)(a b c:Nat):Prop:=kd=1/\apA a b c\/kd=2/\ao4 a b c
theorem ap9(ha:a<18446744073709551616)(hb:b<18446744073709551616)(hc:c<18446744073709551616)(h:¬ao4 a b c):Calls Tryz.prog 79 #[curV 2 a b c] w (an9 w 5):=by
 obtain⟨w1,hw1,hb1,hs1,b1⟩:=pro1 w (curO 2 a b c);obtain⟨c0,c1,c2,c3⟩:=aY b1;have HB:=hdd hb1;have HL:=hdd (as5 (w:=w1) ha hb hc h);clear h hb1 hs1 b1 ha hb hc;go_enter Tryz.func79,Tryz.ntmps79
 go_wp2_with fail
 refine HL.out.mono ?_;rintro e w2 hr;obtain⟨er,n,rfl,-⟩:=id hr;have HR:=hdd hr;clear hr;go_wp2;go_ret;exact HR.out.up HB.out
theorem aq5{kd:Int}(h1:kd≠1)(h2:kd≠2):Calls Tryz.prog 79 #[curV kd a b c] w (an9 w 5):=by
 obtain⟨w1,hw1,hb1,hs1,b1⟩:=pro1 w (curO kd a b c);obtain⟨c0,c1,c2,c3⟩:=aY b1;have HB:=hdd hb1;clear hb1 hs1 b1;go_enter Tryz.func79,Tryz.ntmps79
 go_wp2_with fail
 refine degen_any.mono ?_;rintro e w2⟨rfl,hw⟩;obtain rfl:=hw;go_wp2_with fail
 refine atN.mono ?_;rintro e w2 hr;obtain⟨er,n,rfl,-⟩:=id hr;have HR:=hdd hr;clear hr;go_wp2;go_ret;exact HR.out.up HB.out
theorem asG{kd:Int}(ha:a<18446744073709551616)(hb:b<18446744073709551616)(hc:c<18446744073709551616)(h:¬apB kd a b c):Calls Tryz.prog 79 #[curV kd a b c] w (an9 w 5):=by
 by_cases h1:kd=1
 . subst h1;exact ap8 ha hb hc fun k=>h (Or.inl ⟨rfl,k⟩)
 . by_cases h2:kd=2
   . subst h2;exact ap9 ha hb hc fun k=>h (Or.inr ⟨rfl,k⟩)
   . exact aq5 h1 h2
theorem ErK.shp {S:Nat->Prop}{n:Nat}{v:Value}{k:Int}(h:ErK S w n v k):∃t x,v=.iface t x:=by cases h<;>exact⟨_,_,rfl⟩
end
end Go.Proofs.YtkpodipoegbclaaGreatDoor
