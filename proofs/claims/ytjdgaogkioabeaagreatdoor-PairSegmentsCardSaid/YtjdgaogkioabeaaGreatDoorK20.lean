/- A part of the proof: contracts of functions and plain laws (BoA, BoB, CeA, DyA, DyB, DyC, DyE, DyD). -/
import Derived.Test.YtjdgaogkioabeaaGreatDoorK18
import Derived.Test.YtjdgaogkioabeaaGreatDoorK16
import Derived.ArgAppend
import Derived.Test.YtjdgaogkioabeaaGreatDoorK08
set_option linter.unusedVariables false
set_option linter.unusedSimpArgs false
set_option maxHeartbeats 25600000
set_option maxRecDepth 100000
namespace Go.Proofs.YtjdgaogkioabeaaGreatDoor
section
open Go.RowKit Go.Maps
open Go.Act renaming put->bd7
open List renaming setIfInBounds_toArray->bd0,set_cons_zero->bd1,set_cons_succ->bd2,mem_singleton->bd3,mem_cons_of_mem->bd5,mem_append->bd6,nodup_cons->bd8,mem_cons_self->bd9,mem_cons->beA,map_cons->beB,mem_map->beC,nodup_append->beD,append_assoc->beE,map_append->beF
open Option.some renaming inj->bd4
variable{k y z:Int}{ln:List (Nat×Obj)}{m n x:Nat}{P Q:Nat->Prop}{v:Value}{w w':World}
def SlR(w:World)(v:Value)(n:Nat)(P:Nat->Prop):Prop:=∃(ao:Option Addr) (cap:Nat) (olds:List Value),v=.slice ao n cap/\n<=cap/\(ao=none->n=0/\cap=0)/\olds.length=n*4/\∀b,ao=some b->¬P b.block/\b.block<w.heap.size/\∀j u,olds[j]? =some u->w.cell? (b.add j)=some u
theorem ad8{P:Program}{ops:Array Oper}{o:Oper}{a:Act}{K:Act->World->Prop}{Q:Exit->Act->World->Prop}{E:Prop}
 (hg:o.guard=none) (s x:Operand) (t:TypeId) (hop:o.op=Op.call {callee:=Callee.builtin Builtin.append,args:=#[s,x],argTypes:=#[t,t]})
 (e:TypeId) (i:TypeInfo) (z:Value) (size bytes:Nat) (h1:P.underlying t=some (.slice e)) (h2:P.info? e=some i) (h3:i.zero=some z) (h4:i.size=size) (h5:i.bytes=bytes) (h6:z.cells.size=size) (h7:0<size)
 (ao:Option Addr) (n cap:Nat) (olds:List Value) (hs:a.eval s=.slice ao n cap) (hnone:ao=none->n=0/\cap=0) (hlo:olds.length=n*size) (holds:∀b,ao=some b->∀j u,olds[j]? =some u->w.cell? (b.add j)=some u)
 (ad:Addr) (m c:Nat) (news:List Value) (hx:a.eval x=.slice (some ad) m c) (hn:news.length=m*size) (hc:∀j u,news[j]? =some u->w.cell? (ad.add j)=some u) (h1c:∀u∈news,u.oneCell'=true)
 (hfull:cap<n+m) (b1:n+m<=maxLen) (b2:(n+m)*bytes<=140737488355328)
 (hK:∀v' w',w'.ownsRow w.heap.size e size v' (n+m) (olds++news)->w.grownBy w' none->K (a.put o.dst v') w'):
 if Region.wanted o (yielded ops a.tmps)=true then Oper.wp P o a w K Q else E:=by
 have hw:Region.wanted o (yielded ops a.tmps)=true:=by simp[Region.wanted,hg]
 rw[if_pos hw]
 cases ao with
 |some b=>
  obtain⟨v',w',hrun,r1,r2⟩:=run_append_arg_grows (P:=P) w t o.type e i z size bytes h1 h2 h3 h4 h5 h6 h7 b n cap olds hlo (holds b rfl) ad m c news hn hc hfull b1 b2;unfold Oper.wp;simp[execOp,hop,resolve,invoke,builtin,hs,hx,hrun,Result.andThen];exact hK v' w' r1 r2
 |none=>
  obtain⟨rfl,rfl⟩:=hnone rfl;obtain rfl:olds=[]:=List.eq_nil_of_length_eq_zero (by simpa using hlo);obtain⟨v',w',hrun,r1,r2,_⟩:=run_append_own (P:=P) w w.heap.size t o.type e i z size bytes h1 h2 h3 h4 h5 h6 h7 (.slice none 0 0) 0 [] (World.ownsRow_nil w _ e size) ad m c news hn hc h1c b1 b2 nlr;unfold Oper.wp;simp[execOp,hop,resolve,invoke,builtin,hs,hx,hrun,Result.andThen];exact hK v' w' r1 (by simpa[Value.ownBlock]using r2)
theorem ad9{xs:List Value}(h:w'.ownsRow w.heap.size 102 4 v n xs)(h0:0<n)(hb:m<=w.heap.size):SlR w' v n (· <m):=by
 obtain⟨h1,h2|⟨g,cap,cur,rfl,h3,h4,h5,h6,h7,h8⟩⟩:=h
 . omega
 . refine⟨some ⟨g,0,none⟩,cap,xs,rfl,h5,fun h=>(by cases h),h1,fun b hb'=> ?_⟩
   obtain rfl:=bd4 hb';refine⟨by show¬g<m;omega,(Array.getElem?_eq_some_iff.1 h4).1,fun j u hj=> ?_⟩;refine World.news_of_block h4 j u ?_;rw[<-h8,List.getElem?_take]at hj
   split at hj
   . exact hj
   . cases hj
theorem akU{a b:Nat}(h:SlR w v n P)(hn:n<1000):Calls Tryz.prog 69 #[v,.agg #[.int .i64 k,.float .f64 x,.int .i64 y,.int .i64 z]] w (fun e w'=>∃v',e=.returned (.tuple #[v',.int .i64 n])/\Below w.heap.size w w'/\SlR w' v' (n+1) (· <w.heap.size)):=by
 obtain⟨i0,hi0,hz0,hz1,hz2⟩:=info_parts yO;obtain⟨ao,cap,olds,rfl,hc,hnone,hlen,hrd⟩:=h;obtain⟨w1,hw1,hb1,hs1,b1⟩:=pro1 w (.cells #[.int .i64 k,.float .f64 x,.int .i64 y,.int .i64 z] 102);obtain⟨c0,c1,c2,c3⟩:=aD b1;have HB:=hdd hb1;have HR:=hdd hrd;have HNO:=hdd hnone;have HS:=hdd hs1;clear hb1 hs1 b1 hrd;go_enter Tryz.func69,Tryz.ntmps69
 go_wp2_with fail
 refine wp_region_noPanic ?_;refine lH (fun w'=>w'.cell? ⟨w.heap.size,0,none⟩=some (.int .i64 k)/\w'.cell? ⟨w.heap.size,1,none⟩=some (.float .f64 x)/\w'.cell? ⟨w.heap.size,2,none⟩=some (.int .i64 y)/\w'.cell? ⟨w.heap.size,3,none⟩=some (.int .i64 z)) 12 (by kernel_rfl) ?_;have hSd:(fun w':World=>w'.cell? ⟨w.heap.size,0,none⟩=some (.int .i64 k)/\w'.cell? ⟨w.heap.size,1,none⟩=some (.float .f64 x)/\w'.cell? ⟨w.heap.size,2,none⟩=some (.int .i64 y)/\w'.cell? ⟨w.heap.size,3,none⟩=some (.int .i64 z)) w1.drew:=⟨c0,c1,c2,c3⟩;refine aP 0 (.slice ao n cap) rfl (by kernel_rfl) (by kernel_rfl) (by kernel_rfl) (by kernel_rfl) (fun _ _ _ h=>h) (by rfl) ?_ (by assumption) ?_
 . intro w' hSw;(try dsimp only at hSw);go_split_ands;go_simp;all_goals first|rfl|done
 try simp only[bd7,bd0,bd1,bd2]
 refine aP 1 (.slice ao n cap) rfl (by kernel_rfl) (by kernel_rfl) (by kernel_rfl) (by kernel_rfl) (fun _ _ _ h=>h) (by rfl) ?_ (by assumption) ?_
 . intro w' hSw;(try dsimp only at hSw);go_split_ands;go_simp;all_goals first|rfl|done
 try simp only[bd7,bd0,bd1,bd2]
 refine aP 2 (.int .i64 (n:Int)) rfl (by kernel_rfl) (by kernel_rfl) (by kernel_rfl) (by kernel_rfl) (fun _ _ _ h=>h) (by rfl) ?_ (by assumption) ?_
 . intro w' hSw;(try dsimp only at hSw);go_split_ands;go_simp;all_goals first|rfl|done
 try simp only[bd7,bd0,bd1,bd2]
 refine aP 3 (.slice ao n cap) rfl (by kernel_rfl) (by kernel_rfl) (by kernel_rfl) (by kernel_rfl) (fun _ _ _ h=>h) (by rfl) ?_ (by assumption) ?_
 . intro w' hSw;(try dsimp only at hSw);go_split_ands;go_simp;all_goals first|rfl|done
 try simp only[bd7,bd0,bd1,bd2]
 refine aP 4 (.int .i64 (n:Int)) rfl (by kernel_rfl) (by kernel_rfl) (by kernel_rfl) (by kernel_rfl) (fun _ _ _ h=>h) (by rfl) ?_ (by assumption) ?_
 . intro w' hSw;(try dsimp only at hSw);go_split_ands;go_simp;all_goals first|rfl|done
 try simp only[bd7,bd0,bd1,bd2]
 refine aP 5 (.slice ao n n) rfl (by kernel_rfl) (by kernel_rfl) (by kernel_rfl) (by kernel_rfl) (fun _ _ _ h=>h) (by rfl) ?_ (by assumption) ?_
 . intro w' hSw;(try dsimp only at hSw);go_split_ands;go_simp;all_goals first|rfl|done
 try simp only[bd7,bd0,bd1,bd2]
 refine aP 9 (.slice ao n cap) rfl (by kernel_rfl) (by kernel_rfl) (by kernel_rfl) (by kernel_rfl) (fun _ _ _ h=>h) (by rfl) ?_ (by assumption) ?_
 . intro w' hSw;(try dsimp only at hSw);go_split_ands;go_simp;all_goals first|rfl|done
 try simp only[bd7,bd0,bd1,bd2]
 refine aP 10 (.int .i64 (n:Int)) rfl (by kernel_rfl) (by kernel_rfl) (by kernel_rfl) (by kernel_rfl) (fun _ _ _ h=>h) (by rfl) ?_ (by assumption) ?_
 . intro w' hSw;(try dsimp only at hSw);go_split_ands;go_simp;all_goals first|rfl|done
 try simp only[bd7,bd0,bd1,bd2]
 refine aP 6 (.agg #[.int .i64 k,.float .f64 x,.int .i64 y,.int .i64 z]) rfl (by kernel_rfl) (by kernel_rfl) (by kernel_rfl) (by kernel_rfl) (fun _ _ _ h=>h) (by rfl) ?_ (by assumption) ?_
 . intro w' hSw;(try dsimp only at hSw);go_split_ands;go_simp;all_goals first|rfl|done
 try simp only[bd7,bd0,bd1,bd2]
 obtain⟨w5,hw5,hb5,hs5,b5⟩:=pro1 w1.drew (.cells #[.int .i64 k,.float .f64 x,.int .i64 y,.int .i64 z] 102);have h15:Below w1.heap.size w1 w5:=aB (Below.refl _ _).drew hb5;replace c0:=cbl c0 h15;replace c1:=cbl c1 h15;replace c2:=cbl c2 h15;replace c3:=cbl c3 h15;have HC5:=hdd (oJ b5);have HB5:=hdd (aB HB.out h15);have HR5:Hid (∀b,ao=some b->∀j u,olds[j]? =some u->w5.cell? (b.add j)=some u):=hdd fun b hb j u hj=>by
  obtain⟨-,q1,q2⟩:=HR.out b hb;exact cbl (q2 j u hj) HB5.out
 clear h15 hb5 b5 hSd;refine dX 7 (by kernel_rfl) rfl fun K hK=> ?_;go_simp;refine hK.out _ _ (fun _=>⟨c0,c1,c2,c3⟩) ?_;clear hK
 try simp only[bd7,bd0,bd1,bd2]
 refine dX 8 (by kernel_rfl) rfl fun K hK=> ?_;refine ad8 rfl _ _ 27 rfl 102 i0 (.agg #[.int .i64 0,.float .f64 0,.int .i64 0,.int .i64 0]) 4 32 yN hi0 hz0 hz1 hz2 rfl (by decide) ao n n olds rfl (fun h=>⟨(HNO.out h).1,(HNO.out h).1⟩) hlen HR5.out ⟨w1.heap.size,0,none⟩ 1 1 [.int .i64 k,.float .f64 x,.int .i64 y,.int .i64 z] rfl rfl HC5.out (by simp[Value.oneCell']) (by omega) (by unfold maxLen;omega) (by omega) ?_;intro v' w6 hown hgr;have far:∀i u,w5.cell? ⟨w.heap.size,i,none⟩=some u->w6.cell? ⟨w.heap.size,i,none⟩=some u:=fun i u h=>(hgr.cell_far _ (World.block_lt_of_cell? w5 _ h) (by simp)).trans h;replace c0:=far _ _ c0;replace c1:=far _ _ c1;replace c2:=far _ _ c2;replace c3:=far _ _ c3;have HB6:=hdd (HB5.out.trans (show Below w.heap.size w5 w6 from⟨hgr.os,hgr.tape,hgr.output,hgr.size,fun i hi=>hgr.block i (by have:=HB5.out.size;omega) (by simp)⟩));have HSL:=hdd (ad9 hown (by omega) HB5.out.size);refine hK.out _ _ (fun _=>⟨c0,c1,c2,c3⟩) ?_;clear hK hown hgr far
 try simp only[bd7,bd0,bd1,bd2]
 refine dX 11 (by kernel_rfl) rfl fun K hK=> ?_;go_simp;refine hK.out _ _ (fun _=>⟨c0,c1,c2,c3⟩) ?_;clear hK
 try simp only[bd7,bd0,bd1,bd2]
 refine dX 12 (by kernel_rfl) rfl fun K hK=> ?_;go_simp;refine hK.out _ _ (fun h=>absurd rfl h) ?_;clear hK;refine nR (by kernel_rfl) ?_;refine NoPanic.normal ?_;go_wp2
 go_ret2
 exact⟨_,rfl,HB6.out,HSL.out⟩
theorem SlR.step {bb:Nat}(h:SlR w v n P)(hb:w.grownBy w' (some bb))(hp:P bb):SlR w' v n P:=by
 obtain⟨ao,cap,olds,h1,h2,h3,h4,h5⟩:=h;refine⟨ao,cap,olds,h1,h2,h3,h4,fun b hb'=> ?_⟩;obtain⟨q1,q2,q3⟩:=h5 b hb';exact⟨q1,Nat.lt_of_lt_of_le q2 hb.size,fun j u hj=>(World.cell?_of_block (hb.block _ (by rw[show(b.add j).block=b.block by unfold Addr.add;split<;>rfl];exact q2) (by rw[show(b.add j).block=b.block by unfold Addr.add;split<;>rfl];intro e;exact q1 (bd4 e▸hp)))).trans (q3 j u hj)⟩
theorem SlR.weak (h:SlR w v n P)(hq:∀c,Q c->P c):SlR w v n Q:=by
 obtain⟨ao,cap,olds,h1,h2,h3,h4,h5⟩:=h;exact⟨ao,cap,olds,h1,h2,h3,h4,fun b hb'=>⟨fun k=>(h5 b hb').1 (hq _ k),(h5 b hb').2⟩⟩
theorem am8{g:Nat}{T:TypeId}{a b:Value}(h:w.heap[g]? =some (.cells #[a,b] T (0,0)))(c:Value):(w.setCell ⟨g,0,none⟩ c).heap[g]? =some (.cells #[c,b] T (0,0)):=lS (cs:=[a,b]) h
def BrdP(w:World)(bb n:Nat)(P:Nat->Prop):Prop:=∃(v:Value) (err:Int),w.heap[bb]? =some (.cells #[v,.int .i64 err] 29 (0,0))/\SlR w v n P/\P bb
theorem kE{bb:Nat}(h:Below w.heap.size w w'):w.grownBy w' (some bb):=bI h
theorem ahA{bb:Nat}(h:BrdP w bb n P)(hn:n<1000):Calls Tryz.prog 50 #[.pointer (some ⟨bb,0,none⟩),.agg #[.int .i64 k,.float .f64 x,.int .i64 y,.int .i64 z]] w (fun e w'=>e=.returned (.int .i64 n)/\w.grownBy w' (some bb)/\BrdP w' bb (n+1) (· <w.heap.size)):=by
 obtain⟨v,err,h1,h2,h3⟩:=h;have hlt:=aG h1;obtain⟨w1,hw1,hb1,hs1,b1⟩:=pro1 w (.cells #[.int .i64 k,.float .f64 x,.int .i64 y,.int .i64 z] 102);have hb1':=aB hb1 (Below.refl w1.heap.size w1).drew;have b1':=aH b1 (Below.refl w1.heap.size w1).drew (aG b1);obtain⟨c0,c1,c2,c3⟩:=aD b1';have g1:=aH h1 hb1' hlt;obtain⟨d0,d1,-,-⟩:=aC g1;have HP:=hdd (akU (w:=w1.drew) (v:=v) (n:=n) (a:=0) (b:=0) (k:=k) (x:=x) (y:=y) (z:=z) (h2.step (kE hb1') h3) hn);have HB:=hdd hb1';have HG:=hdd g1;clear hb1 hs1 b1 b1' hb1' g1 h1 h2 h3;go_enter Tryz.func50,Tryz.ntmps50
 go_wp2_with fail
 go_region_held3 (fun w'=>w'.cell? ⟨bb,0,none⟩=some v/\w'.cell? ⟨w.heap.size,0,none⟩=some (.int .i64 k)/\w'.cell? ⟨w.heap.size,1,none⟩=some (.float .f64 x)/\w'.cell? ⟨w.heap.size,2,none⟩=some (.int .i64 y)/\w'.cell? ⟨w.heap.size,3,none⟩=some (.int .i64 z)) (go_keep)
  (first
  |(go_at_call 69
    with_reducible refine HP.out.mono ?_
    rintro e w2⟨v',rfl,hb2,hsl⟩;have HB2:=hdd (aB HB.out hb2);have HG2:=hdd (hbl HG.out hb2);have HSL:=hdd hsl;have d0:=cbl d0 hb2;have c0:=cbl c0 hb2;have c1:=cbl c1 hb2;have c2:=cbl c2 hb2;have c3:=cbl c3 hb2;obtain⟨ao,cap,olds,rfl,-⟩:=hsl;clear hb2))
 obtain⟨e0,e1,e2,e3⟩:=aC HG2.out;go_wp2;go_ret;have hs:=am8 HG2.out (.slice ao (n+1) cap);have hgb:=grownBy_set (kE (bb:=bb) HB2.out) (i:=0) (.slice ao (n+1) cap);have hlw:=HB.out.size;exact⟨rfl,hgb,_,_,hs,(HSL.out.step (grownBy_set (nX _ _) _) (by show bb<w1.drew.heap.size;omega)).weak (fun c hc=>by show c<w1.drew.heap.size;have hc:c<w.heap.size:=hc;omega),hlt⟩
theorem wG{bb:Nat}(h:BrdP w bb n P)(hn:n<1000):Calls Tryz.prog 31 #[.pointer (some ⟨bb,0,none⟩),.float .f64 x] w (fun e w'=>e=.returned (.int .i64 n)/\w.grownBy w' (some bb)/\BrdP w' bb (n+1) (· <w.heap.size)):=by
 have HP:=hdd (ahA (k:=0) (x:=x) (y:=0) (z:=0) h hn);clear h;go_enter Tryz.func31,Tryz.ntmps31
 go_wp2_with fail
 refine HP.out.mono ?_;rintro e w2⟨rfl,h1,h2⟩;have H1:=hdd h1;have H2:=hdd h2;clear h1 h2;go_wp2;go_ret;exact⟨rfl,H1.out,H2.out⟩
theorem BrdP.step {bb:Nat}(h:BrdP w bb n P)(hb:Below w.heap.size w w'):BrdP w' bb n P:=by
 obtain⟨v,err,h1,h2,h3⟩:=h;exact⟨v,err,hbl h1 hb,h2.step (kE hb) h3,h3⟩
theorem BrdP.set {bb c i:Nat}{u:Value}(h:BrdP w bb n P)(hc:P c)(hne:c≠bb):BrdP (w.setCell ⟨c,i,none⟩ u) bb n P:=by
 obtain⟨v,err,h1,h2,h3⟩:=h;exact⟨v,err,(Below.heap_setCell w ⟨c,i,none⟩ u bb (fun e=>hne e.symm)).trans h1,h2.step (grownBy_set (nX w _) u) hc,h3⟩
theorem BrdP.weak {bb:Nat}(h:BrdP w bb n P)(hq:∀c,Q c->P c)(hb:Q bb):BrdP w bb n Q:=by
 obtain⟨v,err,h1,h2,h3⟩:=h;exact⟨v,err,h1,h2.weak hq,hb⟩
theorem BrdP.lt {bb:Nat}(h:BrdP w bb n P):bb<w.heap.size:=by
 obtain⟨v,err,h1,-⟩:=h;exact aG h1
theorem akV{bb y:Nat}(h:BrdP w bb n P)(hn:n+1<1000):Calls Tryz.prog 18 #[.pointer (some ⟨bb,0,none⟩),.float .f64 x,.float .f64 y] w (fun e w'=>e=.returned (.agg #[.int .i64 n,.int .i64 (n+1:Nat)])/\w.grownBy w' (some bb)/\BrdP w' bb (n+2) (· <w.heap.size)):=by
 obtain⟨w1,hw1,hb1,hs1,b1⟩:=pro1 w (.cells #[.int .i64 0,.int .i64 0] 40);have HP:=hdd (wG (x:=x) (h.step hb1) (by omega));have HB:=hdd hb1;have HG:=hdd b1;have hne:w.heap.size≠bb:=by have:=h.lt;omega
 have hlb:=h.lt;have hs1':=hb1.size;clear h hb1 hs1 b1;go_enter Tryz.func18,Tryz.ntmps18
 go_wp2_with fail
 refine HP.out.mono ?_;rintro e w2⟨rfl,h1,h2⟩;have HP2:=hdd (wG (x:=y) h2 hn);have H1:=hdd (grownBy_trans (kE (bb:=bb) HB.out) h1);have HG2:=hdd ((h1.block _ (aG HG.out) (fun e=>hne (bd4 e))).trans HG.out);clear h1 h2 HP hw1;go_wp2_with fail
 refine HP2.out.mono ?_;rintro e w3⟨rfl,h1,h2⟩;have H3:=hdd (grownBy_trans H1.out h1);have HG3:=hdd ((h1.block _ (aG HG2.out) (fun e=>hne (bd4 e))).trans HG2.out);have hs3:=H1.out.size;have hw3:=aG HG2.out;have HB3:=hdd h2;obtain⟨c0,c1,f0,f1⟩:=aC HG3.out;clear h1 h2 HP2;go_wp2;have F:=set2 HG3.out (.int .i64 (n:Int)) (.int .i64 ((n:Int)+1));obtain⟨x0,x1,-,-⟩:=aC F;refine bodyPost_ret (v:=.agg #[_,_]) (by simp[results,Tryz.results18,go_sem,x0,x1];first|exact⟨rfl,rfl⟩|rfl) rfl ?_;refine⟨rfl,?_,((HB3.out.set (i:=0) (u:=.int .i64 n) (c:=w.heap.size) hw3 hne).set (i:=1) (c:=w.heap.size) hw3 hne).weak (fun c hc=>by show c<w2.heap.size;have hc:c<w.heap.size:=hc;omega) hlb⟩;exact⟨H3.out.os,H3.out.tape,H3.out.output,by simpa[World.setCell]using H3.out.size,fun c hc hn=>(Below.heap_setCell _ ⟨w.heap.size,1,none⟩ _ c (by simp;omega)).trans ((Below.heap_setCell _ ⟨w.heap.size,0,none⟩ _ c (by simp;omega)).trans (H3.out.block c hc hn))⟩
section
variable{s:Bs}{g N:Nat}{K:List (Ex×Nat)}{l l':List (Nat×Obj)}{W W':World}{b bb nb:Nat}{o O O':Obj}
theorem Run.perm (h:Run s g N K l W)(hp:l'.Perm l):Run s g N K l' W:=h.sub (fun p hm=>hp.subset hm) ((hp.map _).nodup_iff.2 h.nodup)
theorem Run.keep (h:Run s g N K l W)(hb:Below W.heap.size W W')(ho:W'.heap[b]? =some o)(hlo:W.heap.size<=b):Run s g N K ((b,o)::l) W':=by
 obtain⟨ns',hs,hK⟩:=h;have h':=hs.below hb;refine⟨ns',⟨h'.grew,fun p hp=> ?_,h'.hw,?_⟩,hK⟩
 . rcases beA.1 hp with rfl|hp
   . exact⟨ho,fun hd=>by have:=hs.grew.1.dag.dagB ((DagB.congr (hb.block g hs.grew.1.dag.glt)).1 hd);simp only at this;omega,Nat.le_trans hs.grew.2.2.size hlo⟩
   . exact h'.kept p hp
 . rw[beB,bd8]
   refine⟨fun hm=> ?_,h'.nodup⟩;obtain⟨p,hp,e⟩:=beC.1 hm;have:=hs.lt hp;simp only at e;omega
theorem Run.keeps (h:Run s g N K l W)(hb:Below W.heap.size W W')(lb:List (Nat×Obj))(ho:∀p∈lb,W'.heap[p.1]? =some p.2/\W.heap.size<=p.1)(hnd:(lb.map (·.1)).Nodup):Run s g N K (lb++l) W':=by
 obtain⟨ns',hs,hK⟩:=h;have h':=hs.below hb;refine⟨ns',⟨h'.grew,fun p hp=> ?_,h'.hw,?_⟩,hK⟩
 . rcases bd6.1 hp with hp|hp
   . obtain⟨q1,q2⟩:=ho p hp
     exact⟨q1,fun hd=>by have:=hs.grew.1.dag.dagB ((DagB.congr (hb.block g hs.grew.1.dag.glt)).1 hd);omega,Nat.le_trans hs.grew.2.2.size q2⟩
   . exact h'.kept p hp
 . rw[beF,beD]
   refine⟨hnd,h'.nodup,fun a ha b hb' e=> ?_⟩;obtain⟨p,hp,rfl⟩:=beC.1 ha;obtain⟨q,hq,rfl⟩:=beC.1 hb';have:=hs.lt hq;have:=(ho p hp).2;omega
theorem akW{x:Nat×Obj}{lb l:List (Nat×Obj)}:(x::(ln++(lb++l))).Perm (lb++(x::(ln++l))):=by
 refine List.Perm.trans ?_ List.perm_middle.symm;refine List.Perm.cons _ ?_;rw[<-beE,<-beE];exact List.Perm.append_right _ List.perm_append_comm
theorem Run.board (h:Run s g N K ((bb,O)::l) W)(hg:W.grownBy W' (some bb))(hO:W'.heap[bb]? =some O')(hn:∀p∈ln,W'.heap[p.1]? =some p.2/\W.heap.size<=p.1)(hd:ln.length<=1):Run s g N K ((bb,O')::(ln++l)) W':=by
 obtain⟨ns',hs,hK⟩:=h;have hw:=hs.write hg hO;refine⟨ns',⟨hw.grew,fun p hp=> ?_,hw.hw,?_⟩,hK⟩
 . rcases beA.1 hp with rfl|hp
   . exact hw.kept _ (bd9 ..)
   . rcases bd6.1 hp with hp|hp
     . obtain⟨q1,q2⟩:=hn p hp
       have hgb:some g≠some bb:=fun e=>(hs.kept (bb,O) (by simp)).2.1 (Or.inl (bd4 e).symm);exact⟨q1,fun hd=>by have:=hs.grew.1.dag.dagB ((DagB.congr (hg.block g hs.grew.1.dag.glt hgb)).1 hd);omega,Nat.le_trans hs.grew.2.2.size q2⟩
     . exact hw.kept p (bd5 _ hp)
 . have hnd:=hw.nodup
   match ln,hn,hd with
   |[],_,_=>exact hnd
   |[q],hn,_=>
    obtain⟨-,q2⟩:=hn q (bd3.2 rfl);have hlt:∀p∈(bb,O)::l,p.1<W.heap.size:=fun p hp=>hs.lt hp;simp only[beB,bd8,List.cons_append,List.nil_append]at hnd|-;refine⟨fun hm=> ?_,fun hm=> ?_,hnd.2⟩
    . rcases beA.1 hm with e|hm
      . have:=hlt (bb,O) (by simp);simp only at this;omega
      . exact hnd.1 hm
    . obtain⟨p,hp,e⟩:=beC.1 hm
      have:=hlt p (bd5 _ hp);omega
end
def BrdB(bb n:Nat)(ln:List (Nat×Obj))(O:Obj):Prop:=∃(ao:Option Addr) (cap:Nat) (err:Int) (olds:List Value),O=.cells #[.slice ao n cap,.int .i64 err] 29 (0,0)/\n<=cap/\(ao=none->n=0/\cap=0/\ln=[])/\olds.length=n*4/\
 ∀b,ao=some b->b.block≠bb/\∃o,ln=[(b.block,o)]/\∀W:World,W.heap[b.block]? =some o->∀j u,olds[j]? =some u->W.cell? (b.add j)=some u
theorem BrdB.nil {bb:Nat}:BrdB bb 0 [] (.cells #[.slice none 0 0,.int .i64 0] 29 (0,0)):=⟨none,0,0,[],rfl,Nat.le_refl _,fun _=>⟨rfl,rfl,rfl⟩,rfl,fun b h=>by cases h⟩
theorem BrdB.len {bb:Nat}{O:Obj}(h:BrdB bb n ln O):ln.length<=1:=by
 obtain⟨ao,cap,err,olds,-,-,h3,-,h5⟩:=h
 cases ao with
 |none=>rw[(h3 rfl).2.2];simp
 |some b=>obtain⟨-,o,e,-⟩:=h5 b rfl;rw[e];simp
theorem BrdB.toP {bb:Nat}{O:Obj}{W:World}(h:BrdB bb n ln O)(hO:W.heap[bb]? =some O)(hn:∀p∈ln,W.heap[p.1]? =some p.2):BrdP W bb n (fun c=>∀p∈ln,c≠p.1):=by
 obtain⟨ao,cap,err,olds,rfl,h2,h3,h4,h5⟩:=h;refine⟨_,err,hO,⟨ao,cap,olds,rfl,h2,fun e=>⟨(h3 e).1,(h3 e).2.1⟩,h4,fun b hb=> ?_⟩,?_⟩
 . obtain⟨q1,o,rfl,q3⟩:=h5 b hb
   have q4:=hn _ (bd3.2 rfl);exact⟨fun k=>k _ (bd3.2 rfl) rfl,aG q4,q3 W q4⟩
 . intro p hp
   cases ao with
   |none=>rw[(h3 rfl).2.2]at hp;cases hp
   |some b=>obtain⟨q1,o,rfl,-⟩:=h5 b rfl;obtain rfl:=bd3.1 hp;exact fun e=>q1 e.symm
theorem add_block(b:Addr)(j:Nat):(b.add j).block=b.block:=by unfold Addr.add;split<;>rfl
theorem BrdB.ofP {bb:Nat}{W:World}(h:BrdP W bb n (· <m))(hb:bb<m):∃O ln,W.heap[bb]? =some O/\BrdB bb n ln O/\∀p∈ln,W.heap[p.1]? =some p.2/\m<=p.1:=by
 obtain⟨v,err,h1,⟨ao,cap,olds,rfl,h2,h3,h4,h5⟩,-⟩:=h
 cases ao with
 |none=>exact⟨_,[],h1,⟨none,cap,err,olds,rfl,h2,fun e=>⟨(h3 e).1,(h3 e).2,rfl⟩,h4,fun b hb=>by cases hb⟩,fun p hp=>by cases hp⟩
 |some b=>
  obtain⟨q1,q2,q3⟩:=h5 b rfl;have q1:¬b.block<m:=q1;have q5:W.heap[b.block]? =some W.heap[b.block]:=Array.getElem?_eq_getElem q2;refine⟨_,[(b.block,W.heap[b.block])],h1,⟨some b,cap,err,olds,rfl,h2,fun e=>(by cases e),h4,fun b' hb'=> ?_⟩,fun p hp=> ?_⟩
  . obtain rfl:=bd4 hb'
    exact⟨by omega,_,rfl,fun W' hW j u hj=>(World.cell?_of_block (a:=b.add j) (by rw[add_block,hW,q5])).trans (q3 j u hj)⟩
  . obtain rfl:=bd3.1 hp
    exact⟨q5,by show m<=b.block;omega⟩
theorem Run.brd_at {s:Bs}{g N bb y:Nat}{K:List (Ex×Nat)}{l:List (Nat×Obj)}{W:World}{O:Obj}(h:Run s g N K ((bb,O)::(ln++l)) W)(hB:BrdB bb n ln O)(hn:n+1<1000):
 Calls Tryz.prog 18 #[.pointer (some ⟨bb,0,none⟩),.float .f64 x,.float .f64 y] W (fun e W'=>e=.returned (.agg #[.int .i64 n,.int .i64 (n+1:Nat)])/\∃O' ln',BrdB bb (n+2) ln' O'/\Run s g N K ((bb,O')::(ln'++l)) W'):=by
 have h0:=h.at (bd9 ..);refine(akV (hB.toP h0 fun p hp=>h.kept p (bd5 _ (bd6.2 (Or.inl hp)))) hn).mono ?_;rintro e W'⟨rfl,hg,hp⟩;obtain⟨O',ln',q1,q2,q3⟩:=BrdB.ofP hp (aG h0);have h':Run s g N K ((bb,O)::l) W:=h.sub (fun p hp=>by
  rcases beA.1 hp with rfl|hp
  . exact bd9 ..
  . exact bd5 _ (bd6.2 (Or.inr hp))) (by
  have:=h.nodup;rw[beB,beF,bd8,bd6,not_or]at this;rw[beB,bd8];exact⟨this.1.2,(beD.1 this.2).2.1⟩)
 exact⟨rfl,O',ln',q2,h'.board hg q1 q3 q2.len⟩
end
section
open Go.RowKit
variable{xs:List Nat}{g n:Nat}{p:Nat->Prop}{T:TypeId}{a b c v0 v1 v2 v3 v4 v5 v6 v7 va:Value}{w:World}
theorem qF(h:w.heap[g]? =some (.cells #[v0,v1,v2,v3,v4,v5,v6,v7] T (0,0))):
 w.cell? ⟨g,0,none⟩=some v0/\w.cell? ⟨g,1,none⟩=some v1/\w.cell? ⟨g,2,none⟩=some v2/\w.cell? ⟨g,3,none⟩=some v3/\w.cell? ⟨g,4,none⟩=some v4/\w.cell? ⟨g,5,none⟩=some v5/\w.cell? ⟨g,6,none⟩=some v6/\w.cell? ⟨g,7,none⟩=some v7:=
 ⟨aL (k:=0) h rfl,aL (k:=1) h rfl,aL (k:=2) h rfl,aL (k:=3) h rfl,aL (k:=4) h rfl,aL (k:=5) h rfl,aL (k:=6) h rfl,aL (k:=7) h rfl⟩
theorem aF{v8 v9 v10 v11:Value}(h:w.heap[g]? =some (.cells #[v0,v1,v2,v3,v4,v5,v6,v7,v8,v9,v10,v11] T (0,0))):
 w.cell? ⟨g,0,none⟩=some v0/\w.cell? ⟨g,1,none⟩=some v1/\w.cell? ⟨g,2,none⟩=some v2/\w.cell? ⟨g,3,none⟩=some v3/\w.cell? ⟨g,4,none⟩=some v4/\w.cell? ⟨g,5,none⟩=some v5/\w.cell? ⟨g,6,none⟩=some v6/\w.cell? ⟨g,7,none⟩=some v7/\w.cell? ⟨g,8,none⟩=some v8/\w.cell? ⟨g,9,none⟩=some v9/\w.cell? ⟨g,10,none⟩=some v10/\w.cell? ⟨g,11,none⟩=some v11:=
 ⟨aL (k:=0) h rfl,aL (k:=1) h rfl,aL (k:=2) h rfl,aL (k:=3) h rfl,aL (k:=4) h rfl,aL (k:=5) h rfl,aL (k:=6) h rfl,aL (k:=7) h rfl,aL (k:=8) h rfl,aL (k:=9) h rfl,aL (k:=10) h rfl,aL (k:=11) h rfl⟩
theorem akX(a K m:Nat)(h:K<=m):a/2^K/2^(m-K)=a/2^m:=by
 rw[Nat.div_div_eq_div_mul,<-Nat.pow_add,Nat.add_sub_cancel' h]
theorem am9(hx:NatP p w va xs):
 Calls Tryz.prog 180 #[va,.int .i64 16777216] w (fun e w'=>∃K:Nat,(K:Int)=16777216/\RetN w.heap.size w (val xs/2^K) e w'):=
 (aeW (n:=16777216) hx nlr).mono fun _ _ h=>⟨16777216,rfl,h⟩
theorem jQ(hx:NatP p w va xs)(hn:n<=9223372036854775807):
 Calls Tryz.prog 158 #[va,.int .i64 n] w (RetN w.heap.size w (val xs/2^n)):=by
 have HX:=hdd hx.any;clear hx;go_enter Tryz.func158,Tryz.ntmps158
 go_wp2_with fail
 go_loopw [0,1] (fun sv i wr=>∃(m:Nat) (ys:List Nat),m<=n/\i=.int .i64 m/\Hid (NatP AnyB wr sv ys)/\Hid (Below w.heap.size w wr)/\Hid (val ys/2^m=val xs/2^n)) (fun _ i _=>(intOf i).toNat)
 case atStart=>exact⟨n,xs,Nat.le_refl _,rfl,HX,hdd (Below.refl _ _),hdd rfl⟩
 case round=>
  obtain⟨m,ys,hm,rfl,HY,HB,HV⟩:=hrel;rcases Nat.lt_or_ge 16777216 m with h|h
  . have hi:(16777216:Int)<(m:Int):=by omega
    go_wp2_with fail
    refine(am9 HY.out).mono ?_;rintro e w1⟨K,hK,hb,v1,zs,rfl,hz,tz,hvz⟩;have HZ:=hdd hz.any;have HB2:=hdd (HB.out.trans (hb.mono HB.out.size));have HV2:Hid (val zs/2^(m-K)=val xs/2^n):=hdd (by
     rw[hvz,<-HV.out];exact akX _ _ _ (by omega))
    have hsub:(m:Int)-16777216=((m-K:Nat):Int):=by omega
    clear hb hz tz hvz;go_wp2
    go_roundw
    case rel=>exact⟨m-K,zs,by omega,by go_num,HZ,HB2,HV2⟩
    case measure=>simp[intOf];omega
  . have hi:¬(16777216:Int)<(m:Int):=by omega
    go_wp2_with fail
    refine(aeW HY.out h).mono ?_;rintro e w1⟨hb,v1,zs,rfl,hz,tz,hvz⟩;have HF:=hdd (RetN.of (n:=val xs/2^n) (HB.out.trans (hb.mono HB.out.size)) (hz.weak fun b h _=>Nat.le_trans HB.out.size h) tz (by rw[hvz,HV.out]));clear hb hz tz hvz;go_wp2;go_ret;exact HF.out
theorem anA(hx:NatP p w va xs)(hL:xs.length<1073741824):
 Calls Tryz.prog 214 #[va,.int .i64 16777216] w (fun e w'=>∃K:Nat,(K:Int)=16777216/\RetN w.heap.size w (val xs*2^K) e w'):=
 (aeV (n:=16777216) hx nlr hL).mono fun _ _ h=>⟨16777216,rfl,h⟩
theorem akY(a K m:Nat)(h:K<=m):a*2^K*2^(m-K)=a*2^m:=by
 rw[Nat.mul_assoc,<-Nat.pow_add,Nat.add_sub_cancel' h]
theorem akZ(xs zs:List Nat)(m n:Nat)(hx:OkL xs)(hz:OkL zs)(tz:Tr zs)(h:val zs*2^m=val xs*2^n):64*zs.length<=64*xs.length+n+63:=by
 have h1:=bK zs hz tz;have h2:bits (val zs)<=64*xs.length+n:=by
  rw[aI];have h3:val zs<=val zs*2^m:=Nat.le_mul_of_pos_right _ (Nat.two_pow_pos m);have h4:val xs<2^(64*xs.length):=by
   have:=bO xs hx;rwa[show B64=2^64 from rfl,<-Nat.pow_mul]at this
  have h5:val xs*2^n<2^(64*xs.length)*2^n:=Nat.mul_lt_mul_of_pos_right h4 (Nat.two_pow_pos n);rw[Nat.pow_add];omega
 omega
theorem iL(hx:NatP p w va xs)(hn:n<=134217728)(hL:xs.length<=1000000000):
 Calls Tryz.prog 205 #[va,.int .i64 n] w (RetN w.heap.size w (val xs*2^n)):=by
 have HX:=hdd hx.any;have HO:=hdd hx.ok;clear hx;have h0:¬(n:Int)<0:=by omega
 have h1:¬(134217728:Int)<(n:Int):=by omega
 go_enter Tryz.func205,Tryz.ntmps205
 go_wp2_with fail
 go_loopw [0,1] (fun sv i wr=>∃(m:Nat) (ys:List Nat),m<=n/\64*ys.length<=64*xs.length+n+63/\i=.int .i64 m/\Hid (NatP AnyB wr sv ys)/\Hid (Below w.heap.size w wr)/\Hid (val ys*2^m=val xs*2^n)) (fun _ i _=>(intOf i).toNat)
 case atStart=>exact⟨n,xs,Nat.le_refl _,by omega,rfl,HX,hdd (Below.refl _ _),hdd rfl⟩
 case round=>
  obtain⟨m,ys,hm,hl,rfl,HY,HB,HV⟩:=hrel;rcases Nat.lt_or_ge 16777216 m with h|h
  . have hi:(16777216:Int)<(m:Int):=by omega
    go_wp2_with fail
    refine(anA HY.out (by omega)).mono ?_;rintro e w1⟨K,hK,hb,v1,zs,rfl,hz,tz,hvz⟩;have HZ:=hdd hz.any;have HB2:=hdd (HB.out.trans (hb.mono HB.out.size));have HV2:Hid (val zs*2^(m-K)=val xs*2^n):=hdd (by rw[hvz,<-HV.out];exact akY _ _ _ (by omega));have hl2:=akZ xs zs _ n HO.out hz.ok tz HV2.out;have hsub:(m:Int)-16777216=((m-K:Nat):Int):=by omega
    clear hb hz tz hvz;go_wp2
    go_roundw
    case rel=>exact⟨m-K,zs,by omega,hl2,by go_num,HZ,HB2,HV2⟩
    case measure=>simp[intOf];omega
  . have hi:¬(16777216:Int)<(m:Int):=by omega
    go_wp2_with fail
    refine(aeV HY.out h (by omega)).mono ?_;rintro e w1⟨hb,v1,zs,rfl,hz,tz,hvz⟩;have HF:=hdd (RetN.of (n:=val xs*2^n) (HB.out.trans (hb.mono HB.out.size)) (hz.weak fun b h _=>Nat.le_trans HB.out.size h) tz (by rw[hvz,HV.out]));clear hb hz tz hvz;go_wp2;go_ret;exact HF.out
structure Dy where
 man:Int
 exp:Int
deriving DecidableEq
def DyP(p:Nat->Prop)(w:World)(v:Value)(d:Dy):Prop:=
 ∃b A n c,v=.agg #[.bool b,.slice A n c,.int .i64 d.exp]/\IntP p w (.agg #[.bool b,.slice A n c]) d.man
def RetD(B:Nat)(w0:World)(d:Dy)(e:Ending)(w':World):Prop:=
 Below B w0 w'/\∃v,e=.returned v/\DyP (fun b=>B<=b) w' v d
def mkDy(man exp:Int):Dy:=if man=0 then⟨0,0⟩else⟨sg (decide (man<0)) (man.natAbs/2^ctz man.natAbs),exp+ctz man.natAbs⟩
theorem DyP.below {w':World}{v:Value}{d:Dy}(h:DyP p w v d)(hb:Below w.heap.size w w'):DyP p w' v d:=by
 obtain⟨b,A,n,c,e,h⟩:=h;exact⟨b,A,n,c,e,h.below hb⟩
theorem cells3(h:w.heap[g]? =some (.cells #[a,b,c] T (0,0))):
 w.cell? ⟨g,0,none⟩=some a/\w.cell? ⟨g,1,none⟩=some b/\w.cell? ⟨g,2,none⟩=some c/\w.frozen? ⟨g,0,none⟩=false/\w.frozen? ⟨g,1,none⟩=false/\w.frozen? ⟨g,2,none⟩=false:=by
 refine⟨?_,?_,?_,?_,?_,?_⟩<;>simp[World.cell?,World.frozen?,h]
theorem set3(h:w.heap[g]? =some (.cells #[a,b,c] T (0,0)))(u v x:Value):
 (((w.setCell ⟨g,0,none⟩ u).setCell ⟨g,1,none⟩ v).setCell ⟨g,2,none⟩ x).heap[g]? =some (.cells #[u,v,x] T (0,0)):=by
 have hg:g<w.heap.size:=(Array.getElem?_eq_some_iff.1 h).1;have h':w.heap[g]=.cells #[a,b,c] T (0,0):=(Array.getElem?_eq_some_iff.1 h).2;simp[World.setCell,hg,Array.getElem_modify,h']
theorem aQ{B:Nat}{w0 w1:World}{u vm:Value}{z:Int}{d:Dy}{q:Nat->Prop}(hb:Below B w0 w1)(hg:B<=g)(hw:w1.heap[g]? =some (.cells #[a,b,c] T (0,0)))
 (h:DyP q w1 (.agg #[u,vm,.int .i64 z]) d) (hq:∀b,q b->B<=b/\b≠g):
 Hid (RetD B w0 d (.returned (.agg #[u,vm,.int .i64 z])) (((w1.setCell ⟨g,0,none⟩ u).setCell ⟨g,1,none⟩ vm).setCell ⟨g,2,none⟩ (.int .i64 z)))/\
 (((w1.setCell ⟨g,0,none⟩ u).setCell ⟨g,1,none⟩ vm).setCell ⟨g,2,none⟩ (.int .i64 z)).heap[g]? =some (.cells #[u,vm,.int .i64 z] T (0,0)):=by
 obtain⟨b',A,n,c',e,h⟩:=h;refine⟨hdd ⟨((hb.setCell hg _).setCell hg _).setCell hg _,_,rfl,b',A,n,c',e,?_⟩,set3 hw u vm _⟩;exact(((h.setCell (fun b hb=>(hq b hb).2) _).setCell (fun b hb=>(hq b hb).2) _).setCell (fun b hb=>(hq b hb).2) _).weak fun b hb _=>(hq b hb).1
end
section
open Int renaming natCast_mul->beH,mul_assoc->beJ,mul_eq_zero->beM,zero_mul->beO,neg_mul->beP
open Nat renaming two_pow_pos->beG,le_mul_of_pos_right->beI,pow_succ->beK,pow_add->beL,mul_comm->beN
variable{j k:Nat}
theorem rD(n:Nat)(h:n≠0):∃k m,n=2^k*(2*m+1)/\ctz n=k:=by
 suffices∀b n,n<2^b->n≠0->∃k m,n=2^k*(2*m+1) by
  obtain⟨k,m,e⟩:=this n n Nat.lt_two_pow_self h;exact⟨k,m,e,by rw[e];exact zF k m⟩
 intro b
 induction b with
 |zero=>intro n h1 h2;omega
 |succ b ih=>
  intro n h1 h2;rcases Nat.mod_two_eq_zero_or_one n with h3|h3
  . obtain⟨k,m,e⟩:=ih (n/2) (by rw[beK]at h1;omega) (by omega)
    refine⟨k+1,m,?_⟩;rw[beK,beN (2^k) 2,Nat.mul_assoc,<-e];omega
  . exact⟨0,n/2,by simp;omega⟩
theorem sK(n:Nat)(h:n≠0):ctz n<=bits n:=by
 obtain⟨k,m,e,hk⟩:=rD n h;rw[hk];rcases Nat.lt_or_ge (bits n) k with h1|h1
 . have h2:=(aI n (bits n)).1 nlr
   have h3:2^bits n<=2^k:=Nat.pow_le_pow_right (by omega) (by omega);have h4:2^k<=n:=by rw[e];exact beI _ (by omega)
   omega
 . exact h1
theorem lW(b:Bool)(m n:Nat):sg b (m*n)=sg b m*(n:Int):=by cases b<;>simp[sg,beP]
theorem iM(x e:Int)(hx:x≠0):∃k:Nat,x=(mkDy x e).man*(2^k:Nat)/\(mkDy x e).exp=e+k/\(mkDy x e).man%2=1/\k<=bits x.natAbs:=by
 obtain⟨k,m,e1,hk⟩:=rD x.natAbs (by omega);have hm:(mkDy x e).man=sg (decide (x<0)) (2*m+1):=by
  unfold mkDy;rw[if_neg hx,hk];show sg _ (x.natAbs/2^k)=_;rw[e1,Nat.mul_div_cancel_left _ (beG k)]
 refine⟨k,?_,?_,?_,?_⟩
 . rw[hm,<-lW,beN,<-e1]
   exact(mJ x).symm
 . unfold mkDy;rw[if_neg hx,hk]
 . rw[hm];cases decide (x<0)<;>simp[sg]<;>omega
 . have:=sK x.natAbs (by omega);omega
theorem aY(e:Int):mkDy 0 e=⟨0,0⟩:=by unfold mkDy;simp
theorem wH{a b:Int}(ha:a%2=1)(hb:b%2=1)(h:a*(2^j:Nat)=b*(2^k:Nat)):a=b/\j=k:=by
 suffices∀j k:Nat,∀a b:Int,a%2=1->b%2=1->j<=k->a*(2^j:Nat)=b*(2^k:Nat)->a=b/\j=k by
  rcases Nat.le_total j k with hjk|hjk
  . exact this j k a b ha hb hjk h
  . obtain⟨e1,e2⟩:=this k j b a hb ha hjk h.symm
    exact⟨e1.symm,e2.symm⟩
 intro j k a b ha hb hjk h;obtain⟨d,rfl⟩:∃d,k=j+d:=⟨k-j,by omega⟩;rw[beL,beH,Int.mul_comm ((2^j:Nat):Int),<-beJ]at h;have hp:((2^j:Nat):Int)≠0:=by have:=beG j;omega
 have h2:=Int.eq_of_mul_eq_mul_right hp h;rcases d with _|d
 . exact⟨by simpa using h2,rfl⟩
 . exfalso
   rw[beK,beH,<-beJ]at h2;omega
theorem uB{x y e f:Int}(h:x*(2^j:Nat)=y*(2^k:Nat))(he:e-j=f-k):mkDy x e=mkDy y f:=by
 have pj:=beG j;have pk:=beG k;by_cases hx:x=0
 . have hy:y=0:=by
    rw[hx,beO]at h;rcases beM.1 h.symm with h|h
    . exact h
    . omega
   rw[hx,hy,aY,aY]
 . have hy:y≠0:=by
    intro hy;rw[hy,beO]at h;rcases beM.1 h with h|h
    . exact hx h
    . omega
   obtain⟨a,a1,a2,a3,-⟩:=iM x e hx;obtain⟨b,b1,b2,b3,-⟩:=iM y f hy;have h2:(mkDy x e).man*(2^(a+j):Nat)=(mkDy y f).man*(2^(b+k):Nat):=by
    rw[beL,beL,beH,beH,<-beJ,<-beJ,<-a1,<-b1];exact h
   obtain⟨h3,h4⟩:=wH a3 b3 h2;have h5:(mkDy x e).exp=(mkDy y f).exp:=by rw[a2,b2];omega
   cases hd:mkDy x e;cases hd2:mkDy y f
   rw[hd,hd2]at h3 h5;simp at h3 h5;rw[h3,h5]
theorem ak0(x e:Int)(k:Nat):mkDy (x*(2^k:Nat)) (e-k)=mkDy x e:=
 uB (j:=0) (k:=k) (by simp) (by omega)
theorem nY(x e:Int):mkDy (mkDy x e).man (mkDy x e).exp=mkDy x e:=by
 by_cases hx:x=0
 . rw[hx,aY,aY]
 . obtain⟨k,k1,k2,k3,-⟩:=iM x e hx
   exact uB (j:=k) (k:=0) (by simpa using k1.symm) (by omega)
def dQ(a b:Dy):Int:=if a.exp<=b.exp then a.man else a.man*(2^(a.exp-b.exp).toNat:Nat)
def dR(a b:Dy):Int:=if a.exp<=b.exp then b.man*(2^(b.exp-a.exp).toNat:Nat)else b.man
def addD(a b:Dy):Dy:=if a.man=0 then mkDy b.man b.exp else if b.man=0 then mkDy a.man a.exp else mkDy (dQ a b+dR a b) (min a.exp b.exp)
def mulD(a b:Dy):Dy:=mkDy (a.man*b.man) (a.exp+b.exp)
def notD(a:Dy):Dy:=mkDy (-a.man) a.exp
def topD(a:Dy):Int:=if a.man=0 then 0 else bits a.man.natAbs+a.exp
def cmpD(a b:Dy):Int:=cmpI (dQ a b) (dR a b)
theorem iN(a b:Dy):dQ a b=a.man*(2^(a.exp-min a.exp b.exp).toNat:Nat):=by
 unfold dQ;split
 . have:(a.exp-min a.exp b.exp).toNat=0:=by omega
   rw[this];simp
 . have:min a.exp b.exp=b.exp:=by omega
   rw[this]
theorem iO(a b:Dy):dR a b=b.man*(2^(b.exp-min a.exp b.exp).toNat:Nat):=by
 unfold dR;split
 . have:min a.exp b.exp=a.exp:=by omega
   rw[this]
 . have:(b.exp-min a.exp b.exp).toNat=0:=by omega
   rw[this];simp
theorem iV(x e:Int):mkDy x e=⟨0,0⟩/\x=0\/x≠0/\(mkDy x e).man≠0/\e<=(mkDy x e).exp/\x=(mkDy x e).man*(2^((mkDy x e).exp-e).toNat:Nat):=by
 by_cases hx:x=0
 . exact Or.inl ⟨by rw[hx,aY],hx⟩
 . obtain⟨k,k1,k2,k3,-⟩:=iM x e hx
   refine Or.inr ⟨hx,by omega,by omega,?_⟩;have:((mkDy x e).exp-e).toNat=k:=by omega
   rw[this];exact k1
theorem afH(x e:Int):notD (mkDy x e)=mkDy (-x) e:=by
 unfold notD;rcases iV x e with ⟨h1,h2⟩|⟨h1,h2,h3,h4⟩
 . rw[h1,h2];simp[aY]
 . generalize mkDy x e=a at*
   refine uB (j:=(a.exp-e).toNat) (k:=0) ?_ (by omega);rw[beP,<-h4];simp
theorem anB(x e:Int):(mkDy x e).man.sign=x.sign:=by
 rcases iV x e with ⟨h1,h2⟩|⟨h1,h2,h3,h4⟩
 . rw[h1,h2]
 . generalize mkDy x e=a at*
   have:=beG (a.exp-e).toNat;rw[h4,Int.sign_mul,Int.sign_eq_one_of_pos (a:=((2^(a.exp-e).toNat:Nat):Int)) (by omega),Int.mul_one]
theorem qG(x e:Int):bits (mkDy x e).man.natAbs<=bits x.natAbs:=by
 rcases iV x e with ⟨h1,h2⟩|⟨h1,h2,h3,h4⟩
 . rw[h1];exact Nat.zero_le _
 . generalize mkDy x e=a at*
   refine dA ?_
   conv=>rhs;rw[h4]
   rw[Int.natAbs_mul,Int.natAbs_natCast];exact beI _ (beG _)
end
section
open Go.RowKit
variable{x:Int}
theorem wrap_i64(h:-9223372036854775808<=x/\x<9223372036854775808):IntKind.i64.wrap x=x:=by
 have hb64:(2:Int)^IntKind.i64.bits=18446744073709551616:=rfl;have hb63:(2:Int)^(IntKind.i64.bits-1)=9223372036854775808:=rfl;simp only[IntKind.wrap,show IntKind.i64.signed=true from rfl,Bool.true_and,decide_eq_true_eq,hb64,hb63]
 split<;>omega
theorem dJ{p:Nat->Prop}{va:Value}{e:Int}{w:World}(hx:IntP p w va x)(hT:Tab w)(hL:bits x.natAbs<=1073741824)(he:-1000000000000<=e/\e<=1000000000000):
 Calls Tryz.prog 130 #[va,.int .i64 e] w (RetD w.heap.size w (mkDy x e)):=by
 obtain⟨ba,A,n,c,rfl⟩:=hx.shape;obtain⟨w2,hw2,hb2,hs2,b1,b2⟩:=pro2 w (.cells #[Value.bool ba,.slice A n c] 195) (.cells #[Value.bool false,Value.slice none 0 0,.int .i64 0] 197);have HB:=hdd hb2;have H1:=hdd (hx.below hb2);have HS:=hdd hs2;have B1:=hdd b1;have B2:=hdd b2;have HT:=hdd (hT.below hb2);have HL:=hdd hL;obtain⟨c0,c1,-,-⟩:=aC b1;clear hx hb2 b1 b2 hs2 hT hL;go_enter Tryz.func130,Tryz.ntmps130
 go_wp2_with fail
 refine(pM H1.out).mono ?_;rintro r w3⟨rfl,hb⟩;replace H1:=hdd (H1.out.below hb);replace HT:=hdd (HT.out.below hb);replace c0:=cbl c0 hb;replace c1:=cbl c1 hb;replace B2:=hdd (aH B2.out hb (by have:=HS.out;omega));have HS3:=hdd hb.size;replace HB:=hdd (HB.out.trans (hb.mono HB.out.size));clear hb hw2;by_cases hz:x=0
 . have hs:(x.sign==0)=true:=by rw[hz];rfl
   obtain⟨e0,e1,e2,e3,e4,e5⟩:=cells3 B2.out;have hsz:=HS3.out;have hs2:=HS.out;have h:DyP (fun b=>w3.heap.size<=b) w3 (.agg #[.bool false,.slice none 0 0,.int .i64 0]) (mkDy x e):=by
    rw[hz];exact⟨_,_,_,_,rfl,_,[],rfl,NatP.nil _,Tr.nil,rfl⟩
   obtain⟨HFF,hFF⟩:=aQ HB.out (g:=w.heap.size+1) (by omega) B2.out h (fun b hb=>by omega);replace hFF:=hdd hFF;clear h hsz hs2;go_wp2;obtain⟨f0,f1,f2,-,-,-⟩:=cells3 hFF.out;refine bodyPost_ret (v:=.agg #[_,_,_]) (by simp[results,Tryz.results130,go_sem,f0,f1,f2];first|exact⟨rfl,rfl,rfl⟩|rfl) rfl ?_;exact HFF.out
 . have hs:(x.sign==0)=false:=beq_eq_false_iff_ne.2 (fun h=>hz (Int.sign_eq_zero_iff_zero.1 h))
   obtain⟨xs,hx1,hx2,hx3,hx4⟩:=H1.out.get;have HX:=hdd hx1;have HV:=hdd hx3;have HBA:=hdd hx4;have hlow:ctz (val xs)<=1073741824:=by
    have h1:=sK (val xs) (by rw[hx3];omega);have:=HL.out;rw[hx3]at h1|-;omega
   clear hx1 hx2 hx3 hx4;go_wp2_with fail
   refine(tK HX.out HT.out).mono ?_;rintro r w4⟨rfl,k,rfl⟩;have hb:=below_drewN w3 k;replace HX:=hdd (HX.out.below hb);replace c0:=cbl c0 hb;replace c1:=cbl c1 hb;replace B2:=hdd (hbl B2.out hb);replace HB:=hdd (HB.out.trans (hb.mono HB.out.size));replace HS3:Hid (w2.heap.size<=(w3.drewN k).heap.size):=hdd (Nat.le_trans HS3.out hb.size);clear hb H1 HT;generalize w3.drewN k=w4 at*;go_wp2_with fail
   have hwr:IntKind.i64.wrap (e+(ctz (val xs):Int))=e+(ctz (val xs):Int):=wrap_i64 (by omega);have HRG:=hdd (jQ (n:=ctz (val xs)) (HX.out.below ((Below.refl _ _).drew (w:=w4))) (by omega))
   go_region_held3 (fun w'=>w'.cell? ⟨w.heap.size,0,none⟩=some (.bool ba)/\w'.cell? ⟨w.heap.size,1,none⟩=some (.slice A n c)) (go_keep)
    (first
    |(go_at_call 158
      refine HRG.out.mono ?_;rintro r w5⟨hb,v5,zs,rfl,hz,tz,hvz⟩;have HB5:Hid (Below w4.heap.size w4 w5):=hdd ((Below.refl _ _).drew.trans hb);have g0:=cbl c0 HB5.out;have g1:=cbl c1 HB5.out;have HMK:=hdd (dL (b:=ba) hz);have HVZ:=hdd hvz;clear hb hz tz hvz)
    |(go_at_call 157
      refine HMK.out.mono ?_;rintro r w6⟨hb,v6,hz⟩;obtain⟨rfl,hz⟩:=hz;obtain⟨b6,A6,n6,c6,rfl⟩:=hz.shape;have g0':=cbl g0 hb;have g1':=cbl g1 hb;have HSZ:=hdd HB5.out.size;replace HB5:=hdd (HB5.out.trans (hb.mono HB5.out.size));have HF:=hdd hz;have B25:=hdd (hbl B2.out HB5.out);obtain⟨e0',e1',e2',e3',e4',e5'⟩:=cells3 B25.out;clear hb hz))
   have hm:mkDy x e=⟨sg ba (val zs),e+ctz (val xs)⟩:=by
    unfold mkDy;rw[if_neg hz,HVZ.out,HV.out,HBA.out]
   have HDD:Hid (DyP (fun b=>w4.heap.size<=b) _ (.agg #[.bool b6,.slice A6 n6 c6,.int .i64 (e+ctz (val xs))]) (mkDy x e)):=hdd (by
    rw[hm];exact⟨b6,A6,n6,c6,rfl,HF.out.weak fun b h _=>by have:=HSZ.out;omega⟩)
   obtain⟨HFF,hFF⟩:=aQ (HB.out.trans (HB5.out.mono HB.out.size)) (g:=w.heap.size+1) (by omega) B25.out HDD.out (fun b hb=>by have:=HS3.out;have:=HS.out;omega);replace hFF:=hdd hFF;clear hm HDD;go_wp2;obtain⟨f0,f1,f2,-,-,-⟩:=cells3 hFF.out;refine bodyPost_ret (v:=.agg #[_,_,_]) (by simp[results,Tryz.results130,go_sem,f0,f1,f2];first|exact⟨rfl,rfl,rfl⟩|rfl) rfl ?_;exact HFF.out
end
end Go.Proofs.YtjdgaogkioabeaaGreatDoor
