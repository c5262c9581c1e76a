/- A part of the proof: contracts of functions and plain laws (GtB, OpA, CkA, TwD, FeB, FnA, CkB, LiA, QlL, GtW). -/
import Derived.Test.YtjdgaogkioabeabGreatDoorK41
import Derived.Laws.StructEq
import Derived.Test.YtjdgaogkioabeabGreatDoorK30
import Derived.IntWalk
import Derived.Test.YtjdgaogkioabeabGreatDoorK10
import Derived.Deep.AppendLies
set_option linter.unusedVariables false
set_option linter.unusedSimpArgs false
set_option maxHeartbeats 25600000
set_option maxRecDepth 100000
namespace Go.Proofs.YtjdgaogkioabeabGreatDoor
section
open Go.RowKit Go.Maps Go.Stop Go.Extern
theorem alB:Tryz.prog.underlying 24=some (.pointer 75):=by kernel_rfl
theorem alF(d:Nat)(a:Addr)(w:World):(Op.equalIn (d+1) 24 (.pointer (some a)) (.pointer (some a))).run Tryz.prog w=.ok true w:=by
 simp[Op.equalIn,run_underlying alB];exact run_sameAddr_same _ _
theorem ak4(d:Nat)(w:World):(Op.equalIn (d+1) 24 (.pointer none) (.pointer none)).run Tryz.prog w=.ok true w:=by
 simp[Op.equalIn,run_underlying alB]
theorem amN{g k:Nat}(w:World):(binOp .eql 28 (numV g k) (numV g k)).run Tryz.prog w=.ok (.bool true) w:=by
 simp only[run_eql_struct];rw[run_equalIn_agg w 9999 28 _ _ (by kernel_rfl) (by kernel_rfl)];simp[go_sem,Program.fieldsOf,Tryz.underlying28,alF 9997,alF 9996,alF 9998]
theorem amB(w:World):(binOp .eql 28 (.agg #[.pointer none,.int .i64 0]) (.agg #[.pointer none,.int .i64 0])).run Tryz.prog w=.ok (.bool true) w:=by
 simp only[run_eql_struct];rw[run_equalIn_agg w 9999 28 _ _ (by kernel_rfl) (by kernel_rfl)];simp[go_sem,Program.fieldsOf,Tryz.underlying28,ak4 9997,ak4 9996,ak4 9998]
theorem amC{p:Option Addr}{c:Nat}{w:World}:Calls Tryz.prog 11 #[.slice p 0 c] w (RetV w (.tuple #[.agg #[.pointer none,.int .i64 0],.iface 81 (.int .i64 1)])):=by
 obtain⟨w1,hw1,hb1,hs1,b1⟩:=pro1 w (.cells #[.pointer none,.int .i64 0] 28);have HM:=hdd (akX (w:=w1));have h3:=set2 b1 (.pointer none) (.int .i64 0);have HB:=hdd (show Below w.heap.size w ((w1.setCell ⟨w.heap.size,0,none⟩ (.pointer none)).setCell ⟨w.heap.size,1,none⟩ (.int .i64 0)) from(hb1.setCell nlr _).setCell nlr _);have H3:=hdd h3;obtain⟨c0,c1,f0,f1⟩:=aB b1;clear hb1 hs1 b1 h3;go_enter Tryz.func11,Tryz.ntmps11
 go_wp2_with fail
 refine HM.out.mono ?_;rintro e w2⟨rfl,rfl⟩;go_wp2;obtain⟨e0,e1,-,-⟩:=aB H3.out;refine bodyPost_ret (v:=.tuple #[.agg #[_,_],_]) (by simp[results,Tryz.results11,go_sem,e0,e1];first|exact⟨⟨rfl,rfl⟩,rfl⟩|rfl) rfl ?_;exact⟨rfl,HB.out⟩
end
section
open Go.RowKit Go.Maps
section
variable{P:Program}{ρ:Operand->Value}{o:Oper}{t t2:TypeId}{x y:Operand}{a b v:Value}{w:World}
end
theorem al1(a:Int)(w:World):(convert 3 30 (.int .i64 a)).run Tryz.prog w=.ok (.float .f64 (fl a)) w:=by
 simp[go_sem];rfl
end
section
open Go.RowKit Go.Maps Go.Stop Go.Extern
abbrev FlOk(b:Nat):Prop:=b<18446744073709551616/\fin b
end
section
open Go.RowKit Go.Maps

end
section
open Ieee
open Re (rat ofI ofN)

end
section
open Go.RowKit Go.Maps
section
variable{f:FuncId}{g d:Nat}{av:Array Value}{K0:List (Ex×Nat)}{V:List Nat->Value}{es:List Ex}
end
section
variable{S:Spec Ex}{w0:Bs}{g c0 i d:Nat}{f:FuncId}{args:(Nat->Nat)->Array Value}{ix ts:List Nat}{V:List Nat->Value}{es:List Ex}
end
end
section
open Go.RowKit Go.Maps Go.Stop Go.Extern

end
section
open Go.RowKit Go.Maps

end
section
open Go.RowKit Go.Maps
open Re (rat ofI ofN)
def Iw(b:Nat)(T:Int):Prop:=FlOk b/\fv b=T*(U74:Int)
end
section
open Go.RowKit Go.Maps Go.Stop Go.Extern
open Int renaming natCast_nonneg->am6,lt_tmod_of_pos->am7,tmod_lt_of_pos->am8,ofNat_lt->am9
open Nat renaming eq_zero_or_pos->am5,lt_or_ge->anA,zero_le->anB
variable{k m:Nat}{w:World}
section
variable{s:Bs}{g N n sz:Nat}{K:List (Ex×Nat)}{L lr:List (Nat×Obj)}{W:World}{v:Value}{xs:List Value}{T:TypeId}
theorem alJ{ops:Array Oper}{rest:List Oper}{o:Oper}{a:Act}{Q:Exit->Act->World->Prop}{Ts:TypeId}{z:Value}{bytes b:Nat}{news:List Value}
 (und:Tryz.prog.underlying Ts=some (.slice T)) (info:(Tryz.prog.info? T).map (fun i=>(i.zero,i.size,i.bytes))=some (some z,sz,bytes)) (hz:z.cells.size=sz) (h0:0<sz) (hO:OwnR T sz v n xs lr) (hR:Run s g N K (lr++L) W) (hb:W.heap[b]? =some (.cells news.toArray T))
 (hl:news.length=sz) (h1:∀u∈news,u.oneCell'=true) (hn:n<=1000) (hby:bytes<=1000) (hgd:o.guard=none) (sl x:Operand) (ho:o.op=.call {callee:=.builtin .append,args:=#[sl,x],argTypes:=#[Ts,Ts]}) (hs:a.eval sl=v) (c:Nat) (hx:a.eval x=.slice (some ⟨b,0,none⟩) 1 c)
 (h:∀r cap lr' w',OwnR T sz (.slice (some ⟨r,0,none⟩) (n+1) cap) (n+1) (xs++news) lr'->Run s g N K (lr'++L) w'->wpList Tryz.prog ops Q rest (a.put o.dst (.slice (some ⟨r,0,none⟩) (n+1) cap)) w'):wpList Tryz.prog ops Q (o::rest) a W:=by
 obtain⟨i,hi,i0,i1,i2⟩:=info_parts info;have h4:(n+1)*bytes<=1001*1000:=Nat.mul_le_mul (by omega) hby;exact wpList_append_lies _ hgd sl x Ts ho 0 T i z sz bytes und hi i0 i1 i2 hz h0 v n xs hs (hO.own hR) ⟨b,0,none⟩ 1 c news hx (by omega) (World.news_of_block hb) h1 (by decide) (by unfold maxLen;omega) (by omega) (anB _) _ rfl fun r cap w' o1 o2 o3 _=>by
  obtain⟨lr',p,q⟩:=hO.grow hR o1 o2 o3;exact h r cap lr' w' p q
end
theorem alC:Tryz.prog.underlying 26=some (.slice 28):=Tryz.underlying26
theorem alD:(Tryz.prog.info? 28).map (fun i=>(i.zero,i.size,i.bytes))=some (some (.agg #[.pointer none,.int .i64 0]),2,16):=by kernel_rfl
def gtV(xs:List Int)(j:Nat):Int:=((xs.getD j 0).tmod 50+50).tmod 50
def gtX(xs:List Int)(j:Nat):Ex:=.root (.leaf (fl (gtV xs j)))
theorem alG(xs:List Int)(j:Nat):0<=gtV xs j/\gtV xs j<50:=by
 unfold gtV;have h1:=am7 (xs.getD j 0) (show(0:Int)<50 by omega);have h3:0<=((xs.getD j 0).tmod 50+50).tmod 50:=Int.tmod_nonneg _ (by omega);have h4:=am8 ((xs.getD j 0).tmod 50+50) (show(0:Int)<50 by omega);omega
theorem alK(x:Int):wrap64 (x.tmod 50+50)=x.tmod 50+50:=by
 have h1:=am7 x (show(0:Int)<50 by omega);have h5:=am8 x (show(0:Int)<50 by omega);unfold wrap64;omega
theorem al2{xs:List Int}{j:Nat}{x:Int}(h:xs[j]? =some x):(x.tmod 50+50).tmod 50=gtV xs j:=by
 unfold gtV;rw[List.getD_eq_getElem?_getD,h];rfl
theorem amD(xs:List Int)(i j:Nat):lJ PT (.sub (gtX xs i) (gtX xs j)) (gtV xs i-gtV xs j).sign:=by
 have h1:=alG xs i;have h2:=alG xs j;exact alV (by omega) (by omega)
def GtR(w:World)(g:Nat)(xs:List Int)(m:Nat)(v:Value)(W:World):Prop:=∃ids lr K,ids.length=m/\OwnR 28 2 v m (nmL g ids) lr/\(∀j k,ids[j]? =some k->(gtX xs j,k)∈K)/\Run (bs w) g (2*m) K (lr++[]) W
theorem alL{g k0:Nat}{xs:List Int}{v:Value}{ids:List Nat}{lr:List (Nat×Obj)}{K:List (Ex×Nat)}{W:World}{e:Ex}(hl:ids.length=m)(ho:OwnR 28 2 v (m+1) (nmL g ids++[.pointer (some ⟨g,0,none⟩),.int .i64 (k:Int)]) lr)(hK:∀j k,ids[j]? =some k->(gtX xs j,k)∈K)(hR:Run (bs w) g (2*m+1+1) ((gtX xs m,k)::(e,k0)::K) (lr++[]) W):GtR w g xs (m+1) v W:=by
 refine⟨ids++[k],lr,_,by rw[List.length_append,hl];rfl,by rw[alH];exact ho,fun j k' hj=> ?_,hR⟩;rw[List.getElem?_append]at hj
 split at hj
 . exact List.mem_cons_of_mem _ (List.mem_cons_of_mem _ (hK j k' hj))
 . rename_i hlt
   have hj2:j-ids.length=0:=by
    rcases am5 (j-ids.length)with e|e
    . exact e
    . rw[List.getElem?_eq_none (by simp only[List.length_singleton];exact e)]at hj;cases hj
   rw[hj2]at hj;obtain rfl:k=k':=by simpa using hj
   obtain rfl:j=m:=by omega
   exact List.mem_cons_self ..
theorem amE{n:Nat}(h:m<n)(h8:n<=8):wrap64 ((m:Int)+1)=((m+1:Nat):Int):=by unfold wrap64;omega
theorem amP(xs:List Int)(j:Nat):Iw (fl (gtV xs j)) (gtV xs j):=by
 have:=alG xs j;exact⟨⟨(ajZ (by omega)).1,(ajZ (by omega)).2.1⟩,(ajZ (by omega)).2.2⟩
theorem alM{n a:Nat}(h:m<n)(h8:n<=8)(ha:a<=100):2*m+a<20000:=by omega
theorem al3{n:Nat}(h:m<n)(h8:n<=8):m<=1000:=by omega
theorem alN{n:Nat}(h:k<n):((n:Int)-((k+1:Nat):Int)).toNat<((n:Int)-(k:Int)).toNat:=by omega
theorem akT{pl:Option Addr}{c:Nat}{xs:List Int}(hT:Tab w)(htb:0<w.heap.size)(hx:∀j x,xs[j]? =some x->∃lb lo,pl=some ⟨lb,lo,none⟩/\w.cell? ⟨lb,lo+j,none⟩=some (.int .i64 x)):
 Calls Tryz.prog 3 #[.slice pl xs.length c] w (RetV w (.bool true)):=by
 have HA:=hdd (alive15 hT htb);rcases anA 8 xs.length with h8|h8
 . have hI:(8:Int)<(xs.length:Int):=by omega
   clear hx h8 hT htb;go_enter Tryz.func3,Tryz.ntmps3
   go_wp2_with fail
   refine HA.out.mono ?_;rintro e w2⟨rfl,hb⟩;have HB:=hdd hb;clear hb;go_wp2;go_ret;exact⟨rfl,HB.out⟩
 have hI:(xs.length:Int)<=8:=by omega
 have HX:=hdd hx;have HT:=hdd (And.intro hT htb);have H8:=hdd h8;clear hx hT htb h8;go_enter Tryz.func3,Tryz.ntmps3
 go_wp2_with fail
 refine HA.out.mono ?_;rintro e w2⟨rfl,hb⟩;have HN:=hdd (aiI (w0:=w) (l:=[]) hb (fun p hp=>by cases hp) (by simp) HT.out.1 HT.out.2);clear hb HA;go_wp2_with fail
 refine HN.out.mono ?_;rintro e W1⟨g,rfl,hR⟩;have R1:=hdd hR;clear hR HN;dsimp only;go_wp2_with fail
 go_loopw [4,5,6] (fun v b i wr=>∃m:Nat,m<=xs.length/\i=.int .i64 (m:Int)/\b=.int .i64 ((bstN (gtV xs) m:Nat):Int)/\Hid (GtR w g xs m v wr)) (fun _ _ i _=>((xs.length:Int)-intOf i).toNat)
 case atStart=>exact⟨0,anB _,rfl,rfl,hdd ⟨[],[],[],rfl,OwnR.nil _ _,fun j k h=>by simp at h,R1.out⟩⟩
 case round=>
  obtain⟨m,hm,rfl,rfl,HG⟩:=hrel;clear R1;rcases anA m xs.length with hlt|hge
  . obtain⟨ids,lr,K,hl,ho,hK,hR⟩:=HG.out
    obtain⟨p0,c0,rfl⟩:=ho.slice;obtain⟨x,hx⟩:∃x,xs[m]? =some x:=⟨_,List.getElem?_eq_getElem hlt⟩;have hbl:bstN (gtV xs) m<xs.length:=by
     rcases am5 m with rfl|h
     . exact hlt
     . exact Nat.lt_trans (ak2 _ h) hlt
    obtain⟨y,hy⟩:∃y,xs[bstN (gtV xs) m]? =some y:=⟨_,List.getElem?_eq_getElem hbl⟩;obtain⟨lb,lo,rfl,ca⟩:=HX.out m x hx;obtain⟨lb',lo',e',cb⟩:=HX.out _ y hy
    cases e'
    have CA:=hdd ca;have CB:=hdd cb;replace ca:=cbl ca (Run.below hR);obtain⟨B,hB⟩:∃B,bstN (gtV xs) m=B:=⟨_,rfl⟩;have hvx:=al2 hx;have hvy:=al2 hy;rw[hB]at hvy hbl CB|-;have HBB:=hdd hB;have HW:=hdd (amP xs m);obtain⟨VX,hVX⟩:∃z,gtV xs m=z:=⟨_,rfl⟩;obtain⟨VY,hVY⟩:∃z,gtV xs B=z:=⟨_,rfl⟩;rw[hVX]at HW hvx;rw[hVY]at hvy;have HE:Hid (gtX xs m=.root (.leaf (fl VX))):=hdd (by unfold gtX;rw[hVX]);have HV:=hdd (And.intro hVX hVY);have hmI:(m:Int)<(xs.length:Int):=am9.2 hlt;have hm0:(0:Int)<=(m:Int):=am6 _;have hBI:(B:Int)<(xs.length:Int):=am9.2 hbl;have hB0:(0:Int)<=(B:Int):=am6 _;have hwm:=amE hlt H8.out;have hcv:=fun w=>al1 VX w;have hwx:=alK x;have hwy:=alK y;have HR:=hdd hR;have HO:=hdd ho;have HK:=hdd hK;have HL:=hdd (And.intro hlt hl);have HC:=hdd (hR.of (alM (a:=0) hlt H8.out (by decide)) HW.out.1.1 HW.out.1.2);clear hR ho hK hx hy HG hlt hl hbl hB hVX hVY cb;go_wp2_with fail
    refine HC.out.mono ?_;rintro e wa⟨ka,rfl,hRa⟩;have HC:=hdd (hRa.sqrt (alM (a:=1) HL.out.1 H8.out (by decide)) m0);clear hRa;go_wp2_with fail
    refine HC.out.mono ?_;rintro e wb⟨kv,rfl,hRb⟩;obtain⟨w5,hw5,hb5,hs5,b5⟩:=pro1 wb (.cells #[.pointer (some ⟨g,0,none⟩),.int .i64 (kv:Int)] 28);have RB:=hdd (hRb.step hb5);have B5:=hdd b5;clear hRb hb5 hs5 b5 HC ca;rcases Decidable.em (VY<VX)with hv|hv
    . have hb1:bstN (gtV xs) (m+1)=m:=by
       show(if gtV xs (bstN (gtV xs) m)<gtV xs m then m else bstN (gtV xs) m)=_;rw[HBB.out,HV.out.1,HV.out.2,if_pos hv]
      have HB1:=hdd hb1;clear hb1;go_wp2_with (first
       |(at_builtin
         go_loud (
         refine alJ alC alD rfl (by decide) HO.out RB.out B5.out rfl (by simp[Value.oneCell']) (al3 HL.out.1 H8.out) (by decide) rfl _ _ rfl rfl 1 rfl ?_;intro r2 cap2 lr2 w7 hz hR7;have cb:=cell_below CB.out (Run.below hR7) nlr;have HZ:=hdd hz;have HR7:=hdd hR7;clear hz hR7)))
      have HG:=hdd (alL HL.out.2 HZ.out HK.out (by rw[HE.out];exact HR7.out));clear HZ HR7 HE
      go_roundw
      case rel=>exact⟨m+1,HL.out.1,rfl,congrArg (fun z:Nat=>Value.int .i64 (z:Int)) HB1.out.symm,HG⟩
      case measure=>exact alN HL.out.1
    . have hb1:bstN (gtV xs) (m+1)=B:=by
       show(if gtV xs (bstN (gtV xs) m)<gtV xs m then m else bstN (gtV xs) m)=_;rw[HBB.out,HV.out.1,HV.out.2,if_neg hv]
      have HB1:=hdd hb1;clear hb1;go_wp2_with (first
       |(at_builtin
         go_loud (
         refine alJ alC alD rfl (by decide) HO.out RB.out B5.out rfl (by simp[Value.oneCell']) (al3 HL.out.1 H8.out) (by decide) rfl _ _ rfl rfl 1 rfl ?_;intro r2 cap2 lr2 w7 hz hR7;have cb:=cell_below CB.out (Run.below hR7) nlr;have HZ:=hdd hz;have HR7:=hdd hR7;clear hz hR7)))
      have HG:=hdd (alL HL.out.2 HZ.out HK.out (by rw[HE.out];exact HR7.out));clear HZ HR7 HE
      go_roundw
      case rel=>exact⟨m+1,HL.out.1,rfl,congrArg (fun z:Nat=>Value.int .i64 (z:Int)) HB1.out.symm,HG⟩
      case measure=>exact alN HL.out.1
  . obtain rfl:m=xs.length:=Nat.le_antisymm hm hge
    obtain⟨ids,lr,K,hl,ho,hK,hR⟩:=HG.out;rcases am5 xs.length with h0|h0
    . obtain⟨p0,c0,rfl⟩:=ho.slice
      obtain rfl:xs=[]:=List.eq_nil_of_length_eq_zero h0;have HMX:=hdd (amC (p:=p0) (c:=c0) (w:=wr));have HB:=hdd (Run.below hR);clear hR hK ho HG h0 hl HX H8 hm hge;go_wp2_with fail
      refine HMX.out.mono ?_;rintro e w3⟨rfl,hb3⟩;have hn:=heap_alloc_new w3 (.cells #[.pointer none,.int .i64 0] 28);obtain⟨c0,c1,-,-⟩:=aB hn;have HB4:=hdd ((HB.out.trans (hb3.mono HB.out.size)).alloc (Nat.le_trans HB.out.size hb3.size) (.cells #[.pointer none,.int .i64 0] 28));have HCD:=hdd fun w'=>al0 (w:=w') (ErK.kind (S:=fun _=>True) (k:=1) (by decide) (by decide)) (by decide);have hq:=amB;clear hn hb3 HB HMX;go_wp2_with fail
      refine(HCD.out _).mono ?_;rintro e w5⟨rfl,hb5⟩;replace c0:=cbl c0 hb5;replace c1:=cbl c1 hb5;have HB5:=hdd (HB4.out.trans (hb5.mono HB4.out.size));clear hb5 HCD HB4;go_wp2;go_ret;exact⟨rfl,HB5.out⟩
    . rcases ho.2 with ⟨-,e,-⟩|⟨r,cap,cur,rfl,rfl,h1,h2,h3,h4⟩
      . exact absurd e (Nat.ne_of_gt h0)
      have hcur:cur=(nmL g ids++cur.toList.drop (xs.length*2)).toArray:=by rw[<-h4,List.take_append_drop]
      generalize cur.toList.drop (xs.length*2)=sp at hcur;subst hcur;have HMX:=hdd (al9 (V:=gtV xs) (X:=gtX xs) hR hl ⟨h0,H8.out⟩ hK (amD xs) (by have:=H8.out;omega) h1);have HBL:=hdd (ak2 (gtV xs) h0);have HI0:=hdd h0;have hn0:((xs.length:Int)==0)=false:=beq_eq_false_iff_ne.2 (by omega);clear hR hK ho HG hl h1 h2 h3 h4 hm hge h0;go_wp2_with fail
      refine HMX.out.mono ?_;rintro e w3⟨k,hk,rfl,hR⟩;obtain⟨w4,hw4,-,hR⟩:=hR.boxA (numO g k);have R4:=hdd hR;have HK:=hdd hk;clear hR hk HMX
      go_upto_region 18 with fail
      have hbl:=HBL.out;obtain⟨B,hB⟩:∃B,bstN (gtV xs) xs.length=B:=⟨_,rfl⟩;have hk:=HK.out;rw[hB]at hbl hk|-;have hBI:(B:Int)<(xs.length:Int):=am9.2 hbl;have hB0:(0:Int)<=(B:Int):=am6 _;obtain⟨x0,x1,-,-⟩:=aB (R4.out.drew.at m0);have y0:=akM (R4.out.drew.at m1) (akN (sp:=sp) hk).1;have y1:=akM (R4.out.drew.at m1) (akN (sp:=sp) hk).2;obtain⟨x0,x1,-,-⟩:=aB (R4.out.at m0);have y0:=akM (R4.out.at m1) (akN (sp:=sp) hk).1;have y1:=akM (R4.out.at m1) (akN (sp:=sp) hk).2;have hq:=amN (g:=g) (k:=k);clear hk hB HK HBL hbl
      go_quiet (fail)
      have HB:=hdd (R4.out.step (below_drewN w4 nq)).below;clear R4 x0 x1 y0 y1;go_wp2;go_ret;exact⟨rfl,HB.out⟩
end
end Go.Proofs.YtjdgaogkioabeabGreatDoor
