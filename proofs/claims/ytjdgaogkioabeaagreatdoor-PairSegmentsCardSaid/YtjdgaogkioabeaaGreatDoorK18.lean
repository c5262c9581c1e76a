/- A part of the proof: contracts of functions and plain laws (SpA, Stg, RunA, SymC, SymE, SymF, TuA, FnA, SymD, FnC). -/
import Derived.Test.YtjdgaogkioabeaaGreatDoorK16
import Derived.Test.YtjdgaogkioabeaaGreatDoorK17
import Derived.Test.YtjdgaogkioabeaaGreatDoorK15
set_option linter.unusedVariables false
set_option linter.unusedSimpArgs false
set_option maxHeartbeats 25600000
set_option maxRecDepth 100000
namespace Go.Proofs.YtjdgaogkioabeaaGreatDoor
section
open Go.RowKit Go.Maps
open List renaming prefix_rfl->bdH,mem_cons->bdK,nodup_cons->bdL,mem_append->bdM,mem_map->bdN,range->bdP
open Nat renaming le_trans->bdI,lt_of_lt_of_le->bdJ,not_lt->bdO
open Option.some renaming inj->bdG
variable{lst:Nat->Bool}{o':Obj}
abbrev bD(g i j:Nat):Value:=.agg #[.pointer (some ⟨g,0,none⟩),.int .i64 (i:Int),.pointer (some ⟨g,0,none⟩),.int .i64 (j:Int)]
def akL(P:Ex->Prop)(B N:Nat)(w:World)(g:Nat)(ns:List Nd)(x y:Ex)(e:Ending)(w':World):Prop:=
 ∃(i j:Nat) (ns':List Nd),e=.returned (bD g i j)/\St P B N w' g ns'/\ns<+:ns'/\Is ns' x i/\Is ns' y j/\DS g w w'
def Grew(P:Ex->Prop)(B N:Nat)(w:World)(g:Nat)(ns ns':List Nd)(w':World):Prop:=St P B N w' g ns'/\ns<+:ns'/\DS g w w'
section
variable{P:Ex->Prop}{B N:Nat}{w w' w'' w0:World}{g:Nat}{ns ns':List Nd}
theorem St.setCell (h:St P B N w g ns){b i:Nat}(hn:¬DagB w g b)(hB:B<=b)(u:Value):St P B N (w.setCell ⟨b,i,none⟩ u) g ns:=
 ⟨h.dag.setCell hn u,h.all,fun c hc=>h.hi c ((mY hn u).1 hc),h.tab.step (Below.heap_setCell w _ u _ (by have:=h.tb;simp;omega)),h.tb,by simpa[World.setCell]using h.hB,h.room⟩
theorem Grew.setCell (h:Grew P B N w g ns ns' w'){b i:Nat}(hb:w.heap.size<=b)(hn:¬DagB w' g b)(hB:B<=b)(u:Value):Grew P B N w g ns ns' (w'.setCell ⟨b,i,none⟩ u):=
 ⟨h.1.setCell hn hB u,h.2.1,h.2.2.setCell hb hn u⟩
theorem Grew.below (h:Grew P B N w g ns ns' w')(hb:Below w'.heap.size w' w''):Grew P B N w g ns ns' w'':=
 ⟨h.1.below hb,h.2.1,h.2.2.trans (DS.of_below h.1.dag.glt hb)⟩
theorem Grew.start (h:St P B N w g ns)(hb:Below w.heap.size w w'):Grew P B N w g ns ns w':=⟨h.below hb,bdH,DS.of_below h.dag.glt hb⟩
theorem Grew.trans {M:Nat}{ns'':List Nd}(h:Grew P B N w g ns ns' w')(k:Grew P B M w' g ns' ns'' w''):Grew P B M w g ns ns'' w'':=⟨k.1,h.2.1.trans k.2.1,h.2.2.trans k.2.2⟩
end
theorem am7{P:Ex->Prop}{B N:Nat}{w:World}{g:Nat}{ns:List Nd}{x y:Nat}(hs:St P B N w g ns)(hN:N+1<20000)(hx:x<18446744073709551616)(hy:y<18446744073709551616)(fx:fin x)(fy:fin y)(hP:P (.leaf x))(hQ:P (.leaf y)):
 Calls Tryz.prog 11 #[.pointer (some ⟨g,0,none⟩),.float .f64 x,.float .f64 y] w (akL P B (N+2) w g ns (.leaf x) (.leaf y)):=by
 obtain⟨w1,hw1,hb1,hs1,b1⟩:=pro1 w (.cells #[.pointer none,.int .i64 0,.pointer none,.int .i64 0] 36);have HL:=hdd (ad4 (hs.below hb1) (by omega) hx fx hP);have HM:Hid (∀w' ns',St P B (N+1) w' g ns'->Calls Tryz.prog 25 #[.pointer (some ⟨g,0,none⟩),.float .f64 y] w' (RetE P B (N+2) w' g ns' (numV g) (.leaf y))):=hdd fun w' ns' h=>ad4 h hN hy fy hQ;have hn1:¬DagB w1 g w.heap.size:=hs.away hb1 nlr;have HN1:=hdd hn1;have HB1:=hdd b1;have HGR:=hdd (Grew.start hs hb1);have HBL:=hdd hs.hB;have HS1:Hid (w.heap.size<w1.heap.size):=hdd (by omega);clear hs hN hx hy fx fy hP hQ hb1 hs1 b1 hn1;go_enter Tryz.func11,Tryz.ntmps11
 go_wp2_with fail
 refine HL.out.mono ?_;rintro e w2⟨i,ns1,rfl,h1,h2,h3,h4⟩;have HM2:=hdd (HM.out w2 ns1 h1);have HI:=hdd h3;have HG2:=hdd (HGR.out.trans ⟨h1,h2,h4⟩);have HN2:=hdd (h4.2 _ HS1.out HN1.out);have HB2:=hdd ((h4.heap HS1.out HN1.out).trans HB1.out);have HS2:Hid (w.heap.size<w2.heap.size):=hdd (bdJ HS1.out h4.size);clear h1 h2 h3 h4;go_wp2_with fail
 refine HM2.out.mono ?_;rintro e w3⟨j,ns2,rfl,h1,h2,h3,h4⟩;have hn3:=h4.2 _ HS2.out HN2.out;have b3:=(h4.heap HS2.out HN2.out).trans HB2.out;obtain⟨c0,c1,c2,c3⟩:=aD b3;obtain⟨f0,f1,f2,f3⟩:=sF b3;have HX:=hdd (set4 b3 (.pointer (some ⟨g,0,none⟩)) (.int .i64 (i:Int)) (.pointer (some ⟨g,0,none⟩)) (.int .i64 (j:Int)));have HF:Hid (akL P B (N+2) w g ns (.leaf x) (.leaf y) (.returned (bD g i j)) ((((w3.setCell ⟨w.heap.size,0,none⟩ (.pointer (some ⟨g,0,none⟩))).setCell ⟨w.heap.size,1,none⟩ (.int .i64 (i:Int))).setCell ⟨w.heap.size,2,none⟩ (.pointer (some ⟨g,0,none⟩))).setCell ⟨w.heap.size,3,none⟩ (.int .i64 (j:Int)))):=hdd (by
  have g0:=HG2.out.trans ⟨h1,h2,h4⟩;have q:∀(w':World),¬DagB w' g w.heap.size->∀i u,¬DagB (w'.setCell ⟨w.heap.size,i,none⟩ u) g w.heap.size:=fun w' hn i u hd=>hn ((mY hn u).1 hd);have g1:=(((g0.setCell (i:=0) nlr hn3 HBL.out (.pointer (some ⟨g,0,none⟩))).setCell (i:=1) nlr (q _ hn3 _ _) HBL.out (.int .i64 (i:Int))).setCell (i:=2) nlr (q _ (q _ hn3 _ _) _ _) HBL.out (.pointer (some ⟨g,0,none⟩))).setCell (i:=3) nlr (q _ (q _ (q _ hn3 _ _) _ _) _ _) HBL.out (.int .i64 (j:Int));exact⟨i,j,ns2,rfl,g1.1,g1.2.1,HI.out.mono h2,h3,g1.2.2⟩)
 clear h1 h2 h3 h4 b3 hn3;go_wp2;obtain⟨x0,x1,x2,x3⟩:=aD HX.out;refine bodyPost_ret (v:=.agg #[_,_,_,_]) (by simp[results,Tryz.results11,go_sem,x0,x1,x2,x3];first|exact⟨rfl,rfl,rfl,rfl⟩|rfl) rfl ?_;exact HF.out
def gQ(P:Ex->Prop)(px py qx qy:Ex)(s:Int):Prop:=∃s1 s2,P (.sub px qx)/\fK P (.sub px qx) s1/\(s1=0->P (.sub py qy)/\fK P (.sub py qy) s2)/\s=if s1=0 then s2 else s1
theorem ab4{P:Ex->Prop}{B N:Nat}{w:World}{g i j k l:Nat}{ns:List Nd}{px py qx qy:Ex}{s:Int}(hs:St P B N w g ns)(hN:N+1<20000)(hi:Is ns px i)(hj:Is ns py j)(hk:Is ns qx k)(hl:Is ns qy l)(hc:gQ P px py qx qy s):
 Calls Tryz.prog 26 #[bD g i j,bD g k l] w (RetQ P B (N+2) w g ns (.tuple #[.int .i64 s,.nilIface])):=by
 obtain⟨s1,s2,hp1,hs1,hs2,rfl⟩:=hc;obtain⟨w2,hw2,hb2,hz2,b1,b2⟩:=pro2 w (.cells #[.pointer (some ⟨g,0,none⟩),.int .i64 (i:Int),.pointer (some ⟨g,0,none⟩),.int .i64 (j:Int)] 36) (.cells #[.pointer (some ⟨g,0,none⟩),.int .i64 (k:Int),.pointer (some ⟨g,0,none⟩),.int .i64 (l:Int)] 36);obtain⟨c0,c1,c2,c3⟩:=aD b1;obtain⟨d0,d1,d2,d3⟩:=aD b2;have HC:=hdd (afA (hs.below hb2) (by omega) hi hk hp1 hs1);have HD:Hid (s1=0->∀w' ns',St P B (N+1) w' g ns'->ns<+:ns'->Calls Tryz.prog 41 #[numV g j,numV g l] w' (RetQ P B (N+2) w' g ns' (.tuple #[.int .i64 s2,.nilIface]))):=
  hdd fun h0 w' ns' h hp=>afA h (by omega) (hj.mono hp) (hl.mono hp) (hs2 h0).1 (hs2 h0).2
 have HGR:=hdd (Grew.start hs hb2);have HAW:Hid (∀c:Nat,w.heap.size<=c->¬DagB w2 g c):=hdd fun c h=>hs.away hb2 h;clear hs hN hi hj hk hl hp1 hs1 hs2 hb2 hz2 b1 b2;by_cases h0:s1=0
 . have HD0:Hid (∀w' ns',St P B (N+1) w' g ns'->ns<+:ns'->Calls Tryz.prog 41 #[numV g j,numV g l] w' (RetQ P B (N+2) w' g ns' (.tuple #[.int .i64 s2,.nilIface]))):=hdd (HD.out h0)
   clear HD;subst h0;rw[if_pos rfl];go_enter Tryz.func26,Tryz.ntmps26
   go_wp2_with fail
   refine HC.out.mono ?_;rintro e w3⟨rfl,ns1,h1,h2,h3⟩;have e2:=h3.cell c2 (HAW.out _ (by simp));have e3:=h3.cell c3 (HAW.out _ (by simp));have e4:=h3.cell d2 (HAW.out _ (by simp));have e5:=h3.cell d3 (HAW.out _ (by simp));have HD1:=hdd (HD0.out w3 ns1 h1 h2);have HG1:=hdd (HGR.out.trans ⟨h1,h2,h3⟩);clear h1 h2 h3;go_wp2_with fail
   refine HD1.out.mono ?_;rintro e w4⟨rfl,ns2,h1,h2,h3⟩;have HF:=hdd (HG1.out.trans ⟨h1,h2,h3⟩);clear h1 h2 h3;go_wp2
   go_ret2
   exact⟨rfl,ns2,HF.out⟩
 . rw[if_neg h0]
   have hb0:(s1 != 0)=true:=by simpa using h0
   have hb1:(s1==0)=false:=by simpa using h0
   clear HD;go_enter Tryz.func26,Tryz.ntmps26
   go_wp2_with fail
   refine HC.out.mono ?_;rintro e w3⟨rfl,ns1,h1,h2,h3⟩;have HF:=hdd (HGR.out.trans ⟨h1.more (M:=N+2) (by omega),h2,h3⟩);clear h1 h2 h3;go_wp2
   go_ret2
   exact⟨rfl,ns1,HF.out⟩
theorem ag9{P:Ex->Prop}{B N:Nat}{w:World}{g i j k l:Nat}{ns:List Nd}{px py qx qy:Ex}{s:Int}(hs:St P B N w g ns)(hN:N+1<20000)(hi:Is ns px i)(hj:Is ns py j)(hk:Is ns qx k)(hl:Is ns qy l)(hc:gQ P px py qx qy s):
 Calls Tryz.prog 12 #[bD g i j,bD g k l] w (RetQ P B (N+2) w g ns (.tuple #[.bool (s==0),.nilIface])):=by
 obtain⟨w2,hw2,hb2,hz2,b1,b2⟩:=pro2 w (.cells #[.pointer (some ⟨g,0,none⟩),.int .i64 (i:Int),.pointer (some ⟨g,0,none⟩),.int .i64 (j:Int)] 36) (.cells #[.pointer (some ⟨g,0,none⟩),.int .i64 (k:Int),.pointer (some ⟨g,0,none⟩),.int .i64 (l:Int)] 36);obtain⟨c0,c1,c2,c3⟩:=aD b1;obtain⟨d0,d1,d2,d3⟩:=aD b2;have HC:=hdd (ab4 (hs.below hb2) hN hi hj hk hl hc);have HGR:=hdd (Grew.start hs hb2);clear hs hN hi hj hk hl hc hb2 hz2 b1 b2;go_enter Tryz.func12,Tryz.ntmps12
 go_wp2_with fail
 refine HC.out.mono ?_;rintro e w3⟨rfl,ns1,h1,h2,h3⟩;have HF:=hdd (HGR.out.trans ⟨h1,h2,h3⟩);clear h1 h2 h3;go_wp2
 go_ret2
 exact⟨rfl,ns1,HF.out⟩
structure Stg(P:Ex->Prop)(B N:Nat)(w:World)(g:Nat)(ns:List Nd)(W:World)(ns':List Nd)(l:List (Nat×Obj)):Prop where
 grew:Grew P B N w g ns ns' W
 kept:∀p∈l,W.heap[p.1]? =some p.2/\¬DagB W g p.1/\w.heap.size<=p.1
 hw:B<=w.heap.size
 nodup:(l.map (·.1)).Nodup
section
variable{P:Ex->Prop}{B N M:Nat}{w W W':World}{g:Nat}{ns ns' ns'':List Nd}{l:List (Nat×Obj)}
theorem Stg.start (h:St P B N w g ns):Stg P B N w g ns w ns []:=⟨⟨h,bdH,DS.refl g w⟩,fun p hp=>by simp at hp,h.hB,by simp⟩
theorem Stg.pre (h:Stg P B N w g ns W ns' l):ns<+:ns':=h.grew.2.1
theorem Stg.st (h:Stg P B N w g ns W ns' l):St P B N W g ns':=h.grew.1
theorem Stg.lt (h:Stg P B N w g ns W ns' l){p:Nat×Obj}(hp:p∈l):p.1<W.heap.size:=aG (h.kept p hp).1
theorem Stg.below (h:Stg P B N w g ns W ns' l)(hb:Below W.heap.size W W'):Stg P B N w g ns W' ns' l:=
 ⟨h.grew.below hb,fun p hp=>⟨aH (h.kept p hp).1 hb (h.lt hp),fun hd=>(h.kept p hp).2.1 ((DagB.congr (hb.block g h.grew.1.dag.glt)).1 hd),(h.kept p hp).2.2⟩,h.hw,h.nodup⟩
theorem Stg.alloc (h:Stg P B N w g ns W ns' l)(o:Obj):Stg P B N w g ns (W.alloc o) ns' ((W.heap.size,o)::l):=by
 have hb:Below W.heap.size W (W.alloc o):=aU W o;have h':=h.below hb;refine⟨h'.grew,fun p hp=> ?_,h.hw,?_⟩
 . rcases bdK.1 hp with rfl|hp
   . exact⟨heap_alloc_new W o,fun hd=>by have:=h.grew.1.dag.dagB ((DagB.congr (hb.block g h.grew.1.dag.glt)).1 hd);simp at this,h.grew.2.2.size⟩
   . exact h'.kept p hp
 . simp only[List.map_cons,bdL]
   refine⟨fun hm=> ?_,h.nodup⟩;obtain⟨p,hp,e⟩:=bdN.1 hm;have:=h.lt hp;omega
theorem Stg.step (h:Stg P B N w g ns W ns' l)(hs:St P B M W' g ns'')(hp:ns'<+:ns'')(hd:DS g W W'):Stg P B M w g ns W' ns'' l:=
 ⟨h.grew.trans ⟨hs,hp,hd⟩,fun p hp=>⟨(hd.heap (h.lt hp) (h.kept p hp).2.1).trans (h.kept p hp).1,hd.2 _ (h.lt hp) (h.kept p hp).2.1,(h.kept p hp).2.2⟩,h.hw,h.nodup⟩
theorem Stg.more (h:Stg P B N w g ns W ns' l)(hM:N<=M):Stg P B M w g ns W ns' l:=⟨⟨h.grew.1.more hM,h.grew.2⟩,h.kept,h.hw,h.nodup⟩
theorem DagP.off {b:Nat}(h:DagP W g ns)(hn:¬DagB W g b)(hg:W.grownBy W' (some b)):DagP W' g ns:=by
 obtain⟨A,c,mb,m,ho⟩:=h.opened;obtain⟨q1,q2,q3⟩:=ho.dagB hn;obtain⟨h1,h2,h3,h4⟩:=ho;exact(show DagO _ g ns A c mb m from⟨(hg.block g (aG h1) (fun e=>q1 (bdG e).symm)).trans h1,h2.kept hg (Or.inr q3),h3.keep (hg.block mb h3.lt (fun e=>q2 (bdG e).symm)),h4⟩).dag
theorem Stg.write {b:Nat}{o:Obj}(h:Stg P B N w g ns W ns' ((b,o)::l))(hb:W.grownBy W' (some b))(ho:W'.heap[b]? =some o'):Stg P B N w g ns W' ns' ((b,o')::l):=by
 obtain⟨q1,q2,q3⟩:=h.kept (b,o) (by simp);have hgb:some g≠some b:=fun e=>q2 (Or.inl (bdG e).symm);have hg:=hb.block g h.grew.1.dag.glt hgb;have hst:=h.grew.1;have hwz:w.heap.size<=W.heap.size:=h.grew.2.2.size;refine⟨⟨⟨hst.dag.off q2 hb,hst.all,fun c hc=>hst.hi c ((DagB.congr hg).1 hc),?_,hst.tb,bdI hst.hB hb.size,hst.room⟩,h.grew.2.1,?_⟩,?_,h.hw,h.nodup⟩
 . exact hst.tab.step (hb.block _ (by have:=hst.tb;have:=hst.hB;omega) (fun e=>by have:=bdG e;have:=hst.tb;have:=h.hw;simp only at q3;omega))
 . refine⟨⟨hb.os.trans h.grew.2.2.1.os,hb.tape.trans h.grew.2.2.1.tape,hb.output.trans h.grew.2.2.1.output,bdI hwz hb.size,fun c hc hn=> ?_⟩,fun c hc hn hd=>h.grew.2.2.2 c hc hn ((DagB.congr hg).1 hd)⟩
   exact(hb.block c (by omega) (fun e=>by have:=bdG e;simp only at q3;omega)).trans (h.grew.2.2.1.block c hc hn)
 . intro p hp
   rcases bdK.1 hp with rfl|hp
   . exact⟨ho,fun hd=>q2 ((DagB.congr hg).1 hd),q3⟩
   . have hne:p.1≠b:=fun e=>(bdL.1 h.nodup).1 (bdN.2 ⟨p,hp,e⟩)
     obtain⟨r1,r2,r3⟩:=h.kept p (by simp[hp]);exact⟨(hb.block p.1 (aG r1) (fun e=>hne (bdG e))).trans r1,fun hd=>r2 ((DagB.congr hg).1 hd),r3⟩
end
abbrev numO(g k:Nat):Obj:=.cells #[.pointer (some ⟨g,0,none⟩),.int .i64 (k:Int)] 34
abbrev dN(g i j:Nat):Obj:=.cells #[.pointer (some ⟨g,0,none⟩),.int .i64 (i:Int),.pointer (some ⟨g,0,none⟩),.int .i64 (j:Int)] 36
theorem akM{P:Ex->Prop}{B N:Nat}{w:World}{g i j b:Nat}{ns:List Nd}{x y:Ex}(hs:St P B N w g ns)(hN:N<20000)(hx:Is ns x i)(hy:Is ns y j)(hb:w.heap[b]? =some (numO g j))(hP:P (.mul x y)):
 Calls Tryz.prog 64 #[numV g i,.slice (some ⟨b,0,none⟩) 1 1] w (RetE P B (N+1) w g ns (numV g) (.mul x y)):=by
 have:=am2 (l:=[j]) (es:=[y]) hs (vS hb) rfl (by simp) hx (fun m z e h1 h2=>by
  cases m with
  |zero=>simp at h1 h2;subst h1;subst h2;exact hy
  |succ m=>simp at h1) (fun m hm=>by
  have:m=0:=by simp at hm;omega
  subst this;exact hP) (by simp;omega)
 exact this
theorem akN{P:Ex->Prop}{B N:Nat}{w:World}{g i j b:Nat}{ns:List Nd}{x y:Ex}(hs:St P B N w g ns)(hN:N<20000)(hx:Is ns x i)(hy:Is ns y j)(hb:w.heap[b]? =some (numO g j))(hP:P (.add x y)):
 Calls Tryz.prog 65 #[numV g i,.slice (some ⟨b,0,none⟩) 1 1] w (RetE P B (N+1) w g ns (numV g) (.add x y)):=by
 have:=am1 (l:=[j]) (es:=[y]) hs (vS hb) rfl (by simp) hx (fun m z e h1 h2=>by
  cases m with
  |zero=>simp at h1 h2;subst h1;subst h2;exact hy
  |succ m=>simp at h1) (fun m hm=>by
  have:m=0:=by simp at hm;omega
  subst this;exact hP) (by simp;omega)
 exact this
section
variable{P:Ex->Prop}{B N M:Nat}{w W W':World}{g i j b v:Nat}{ns ns' ns'':List Nd}{l:List (Nat×Obj)}{x y:Ex}
end
abbrev PT:Ex->Prop:=fun _=>True
section
variable{α:Type}{a:α}{l:List α}
theorem m0:a∈a::l:=.head _
theorem m1{b0:α}:a∈b0::a::l:=.tail _ m0
theorem m2{b0 b1:α}:a∈b0::b1::a::l:=.tail _ m1
theorem m3{b0 b1 b2:α}:a∈b0::b1::b2::a::l:=.tail _ m2
theorem m4{b0 b1 b2 b3:α}:a∈b0::b1::b2::b3::a::l:=.tail _ m3
theorem m5{b0 b1 b2 b3 b4:α}:a∈b0::b1::b2::b3::b4::a::l:=.tail _ m4
theorem m6{b0 b1 b2 b3 b4 b5:α}:a∈b0::b1::b2::b3::b4::b5::a::l:=.tail _ m5
theorem m7{b0 b1 b2 b3 b4 b5 b6:α}:a∈b0::b1::b2::b3::b4::b5::b6::a::l:=.tail _ m6
theorem m8{b0 b1 b2 b3 b4 b5 b6 b7:α}:a∈b0::b1::b2::b3::b4::b5::b6::b7::a::l:=.tail _ m7
theorem m9{b0 b1 b2 b3 b4 b5 b6 b7 b8:α}:a∈b0::b1::b2::b3::b4::b5::b6::b7::b8::a::l:=.tail _ m8
theorem m10{b0 b1 b2 b3 b4 b5 b6 b7 b8 b9:α}:a∈b0::b1::b2::b3::b4::b5::b6::b7::b8::b9::a::l:=.tail _ m9
theorem m11{b0 b1 b2 b3 b4 b5 b6 b7 b8 b9 b10:α}:a∈b0::b1::b2::b3::b4::b5::b6::b7::b8::b9::b10::a::l:=.tail _ m10
end
structure Bs where
 w:World
 B:Nat
 ns:List Nd
abbrev bs(w:World):Bs:=⟨w,w.heap.size,[]⟩
def Run(s:Bs)(g N:Nat)(K:List (Ex×Nat))(l:List (Nat×Obj))(W:World):Prop:=∃ns',Stg PT s.B N s.w g s.ns W ns' l/\∀p∈K,Is ns' p.1 p.2
section
variable{s:Bs}{w0 w1 W W':World}{g N M:Nat}{K:List (Ex×Nat)}{l l':List (Nat×Obj)}
theorem Run.start (hb1:Below w0.heap.size w0 w1)(hk:∀p∈l,w1.heap[p.1]? =some p.2/\w0.heap.size<=p.1)(hn:(l.map (·.1)).Nodup)(htb:1<w0.heap.size)
 (hs:St PT w1.heap.size 0 W g []) (hb:Below w1.heap.size w1 W):Run (bs w0) g 0 [] l W:=by
 have hz:=hb1.size;have hst:St PT w0.heap.size 0 W g []:=⟨hs.dag,hs.all,fun b h=>bdI hz (hs.hi b h),hs.tab,htb,bdI hz hs.hB,hs.room⟩;refine⟨[],⟨⟨hst,bdH,Fr.of_below (hb1.trans (hb.mono hz)),fun b hlt _ hd=>absurd hlt (bdO.2 (hst.hi _ hd))⟩,fun p hp=> ?_,Nat.le_refl _,hn⟩,fun p hp=>by cases hp⟩;obtain⟨h1,h2⟩:=hk p hp;have hlt:=aG h1;exact⟨aH h1 hb hlt,fun hd=>by have:=hs.hi _ hd;omega,h2⟩
theorem Run.enter {B:Nat}{ns:List Nd}(hs:St PT B N W g ns)(hK:∀p∈K,Is ns p.1 p.2):Run ⟨W,B,ns⟩ g N K [] W:=⟨ns,Stg.start hs,hK⟩
theorem Run.below (h:Run (bs w0) g N K l W):Below w0.heap.size w0 W:=by
 obtain⟨ns',hs,-⟩:=h;refine hs.grew.2.2.below nlr fun b hb=> ?_;rcases hb with rfl|⟨v,mb,T,e,-⟩
 . exact hs.st.hi _ (Or.inl rfl)
 . exact absurd (aG e) (bdO.2 (hs.st.hi _ (Or.inl rfl)))
theorem Run.ans {B:Nat}{ns:List Nd}{w:World}{v:Value}(h:Run ⟨w,B,ns⟩ g N K l W):RetQ PT B N w g ns v (.returned v) W:=by
 obtain⟨ns',hs,hK⟩:=h;exact⟨rfl,ns',hs.st,hs.pre,hs.grew.2.2⟩
theorem Run.kept (h:Run s g N K l W):∀p∈l,W.heap[p.1]? =some p.2:=fun p hp=>by obtain⟨ns',hs,-⟩:=h;exact(hs.kept p hp).1
theorem Run.nodup (h:Run s g N K l W):(l.map (·.1)).Nodup:=by obtain⟨ns',hs,-⟩:=h;exact hs.nodup
theorem Run.at (h:Run s g N K l W){b:Nat}{o:Obj}(hp:(b,o)∈l):W.heap[b]? =some o:=h.kept _ hp
theorem Run.step (h:Run s g N K l W)(hb:Below W.heap.size W W'):Run s g N K l W':=by obtain⟨ns',hs,hK⟩:=h;exact⟨ns',hs.below hb,hK⟩
theorem Run.more (h:Run s g N K l W)(hM:N<=M):Run s g M K l W:=by obtain⟨ns',hs,hK⟩:=h;exact⟨ns',hs.more hM,hK⟩
theorem Run.drew (h:Run s g N K l W):Run s g N K l W.drew:=h.step (Below.refl _ _).drew
theorem Run.alloc (h:Run s g N K l W)(o:Obj):Run s g N K ((W.heap.size,o)::l) (W.alloc o):=by obtain⟨ns',hs,hK⟩:=h;exact⟨ns',hs.alloc o,hK⟩
theorem Run.sub (h:Run s g N K l W)(hl:∀p∈l',p∈l)(hn:(l'.map (·.1)).Nodup):Run s g N K l' W:=by obtain⟨ns',hs,hK⟩:=h;exact⟨ns',⟨hs.grew,fun p hp=>hs.kept p (hl p hp),hs.hw,hn⟩,hK⟩
theorem Run.few (h:Run s g N K l W){K':List (Ex×Nat)}(hs:∀p∈K',p∈K):Run s g N K' l W:=by obtain⟨ns',h1,hK⟩:=h;exact⟨ns',h1,fun p hp=>hK p (hs p hp)⟩
theorem Run.write {b:Nat}{o:Obj}(h:Run s g N K ((b,o)::l) W)(hb:W.grownBy W' (some b))(ho:W'.heap[b]? =some o'):Run s g N K ((b,o')::l) W':=by obtain⟨ns',hs,hK⟩:=h;exact⟨ns',hs.write hb ho,hK⟩
end
def RtR(s:Bs)(g N:Nat)(K:List (Ex×Nat))(l:List (Nat×Obj))(x:Ex)(e:Ending)(W':World):Prop:=∃k,e=.returned (numV g k)/\Run s g N ((x,k)::K) l W'
def RtP(s:Bs)(g N:Nat)(K:List (Ex×Nat))(l:List (Nat×Obj))(x y:Ex)(e:Ending)(W':World):Prop:=∃i j,e=.returned (bD g i j)/\Run s g N ((x,i)::(y,j)::K) l W'
def RtA(s:Bs)(g N:Nat)(K:List (Ex×Nat))(l:List (Nat×Obj))(v:Value)(e:Ending)(W':World):Prop:=e=.returned v/\Run s g N K l W'
section
variable{s:Bs}{W W':World}{g N M:Nat}{K:List (Ex×Nat)}{l:List (Nat×Obj)}{x y:Ex}{ns:List Nd}
theorem vZ{ns':List Nd}{N:Nat}{W:World}(h:Stg PT s.B N s.w g s.ns W ns' l)(hK:∀p∈K,Is ns' p.1 p.2){k:Nat}(hx:Is ns' x k):∀p∈(x,k)::K,Is ns' p.1 p.2:=fun p hp=>by
 rcases bdK.1 hp with rfl|hp
 . exact hx
 . exact hK p hp
theorem qD{P:Nat->Value}(h:Stg PT s.B N s.w g s.ns W ns l)(hK:∀p∈K,Is ns p.1 p.2){e:Ending}(hr:RetE PT s.B M W g ns P x e W'):∃k,e=.returned (P k)/\Run s g M ((x,k)::K) l W':=by
 obtain⟨k,ns',e1,h1,h2,h3,h4⟩:=hr;exact⟨k,e1,ns',h.step h1 h2 h4,vZ (h.step h1 h2 h4) (fun p hp=>(hK p hp).mono h2) h3⟩
theorem wC(h:Stg PT s.B N s.w g s.ns W ns l)(hK:∀p∈K,Is ns p.1 p.2){v:Value}{e:Ending}(hr:RetQ PT s.B M W g ns v e W'):RtA s g M K l v e W':=by
 obtain⟨e1,ns',h1,h2,h3⟩:=hr;exact⟨e1,ns',h.step h1 h2 h3,fun p hp=>(hK p hp).mono h2⟩
theorem akO(h:Stg PT s.B N s.w g s.ns W ns l)(hK:∀p∈K,Is ns p.1 p.2){e:Ending}(hr:akL PT s.B M W g ns x y e W'):RtP s g M K l x y e W':=by
 obtain⟨i,j,ns',e1,h1,h2,h3,h4,h5⟩:=hr;exact⟨i,j,e1,ns',h.step h1 h2 h5,vZ (h.step h1 h2 h5) (vZ (h.step h1 h2 h5) (fun p hp=>(hK p hp).mono h2) h4) h3⟩
end
section
variable{s:Bs}{W:World}{g N i j k m b v:Nat}{K:List (Ex×Nat)}{l:List (Nat×Obj)}{x y:Ex}{q:Int}
theorem Run.of (h:Run s g N K l W)(hN:N<20000)(hv:v<18446744073709551616)(hf:fin v):Calls Tryz.prog 25 #[.pointer (some ⟨g,0,none⟩),.float .f64 v] W (RtR s g (N+1) K l (.leaf v)):=by
 obtain⟨ns,hs,hK⟩:=h;exact(ad4 hs.st hN hv hf trivial).mono fun _ _ hr=>qD hs hK hr
theorem Run.sub2 (h:Run s g N K l W)(hN:N<20000)(hx:(x,i)∈K)(hy:(y,j)∈K):Calls Tryz.prog 62 #[numV g i,numV g j] W (RtR s g (N+1) K l (.sub x y)):=by
 obtain⟨ns,hs,hK⟩:=h;exact(ae9 hs.st hN (hK _ hx) (hK _ hy) trivial).mono fun _ _ hr=>qD hs hK hr
theorem Run.mul2 (h:Run s g N K l W)(hN:N<20000)(hx:(x,i)∈K)(hy:(y,j)∈K)(hb:W.heap[b]? =some (numO g j)):Calls Tryz.prog 64 #[numV g i,.slice (some ⟨b,0,none⟩) 1 1] W (RtR s g (N+1) K l (.mul x y)):=by
 obtain⟨ns,hs,hK⟩:=h;exact(akM hs.st hN (hK _ hx) (hK _ hy) hb trivial).mono fun _ _ hr=>qD hs hK hr
theorem Run.add2 (h:Run s g N K l W)(hN:N<20000)(hx:(x,i)∈K)(hy:(y,j)∈K)(hb:W.heap[b]? =some (numO g j)):Calls Tryz.prog 65 #[numV g i,.slice (some ⟨b,0,none⟩) 1 1] W (RtR s g (N+1) K l (.add x y)):=by
 obtain⟨ns,hs,hK⟩:=h;exact(akN hs.st hN (hK _ hx) (hK _ hy) hb trivial).mono fun _ _ hr=>qD hs hK hr
theorem Run.sign (h:Run s g N K l W)(hx:(x,i)∈K)(hS:fK PT x q):Calls Tryz.prog 48 #[numV g i] W (RtA s g N K l (.tuple #[.int .i64 q,.nilIface])):=by
 obtain⟨ns,hs,hK⟩:=h;exact(abZ hs.st (hK _ hx) hS).mono fun _ _ hr=>⟨hr.1,ns,hs.below hr.2,hK⟩
theorem Run.spot (h:Run s g N K l W)(hN:N+1<20000){u:Nat}(hv:v<18446744073709551616)(hu:u<18446744073709551616)(fv:fin v)(fu:fin u):Calls Tryz.prog 11 #[.pointer (some ⟨g,0,none⟩),.float .f64 v,.float .f64 u] W (RtP s g (N+2) K l (.leaf v) (.leaf u)):=by
 obtain⟨ns,hs,hK⟩:=h;exact(am7 hs.st hN hv hu fv fu trivial trivial).mono fun _ _ hr=>akO hs hK hr
variable{px py qx qy rx ry:Ex}{i' j' k':Nat}
theorem Run.cmpS (h:Run s g N K l W)(hN:N+1<20000)(h1:(px,i)∈K)(h2:(py,i')∈K)(h3:(qx,j)∈K)(h4:(qy,j')∈K)(hc:gQ PT px py qx qy q):Calls Tryz.prog 26 #[bD g i i',bD g j j'] W (RtA s g (N+2) K l (.tuple #[.int .i64 q,.nilIface])):=by
 obtain⟨ns,hs,hK⟩:=h;exact(ab4 hs.st hN (hK _ h1) (hK _ h2) (hK _ h3) (hK _ h4) hc).mono fun _ _ hr=>wC hs hK hr
theorem Run.same (h:Run s g N K l W)(hN:N+1<20000)(h1:(px,i)∈K)(h2:(py,i')∈K)(h3:(qx,j)∈K)(h4:(qy,j')∈K)(hc:gQ PT px py qx qy q):Calls Tryz.prog 12 #[bD g i i',bD g j j'] W (RtA s g (N+2) K l (.tuple #[.bool (q==0),.nilIface])):=by
 obtain⟨ns,hs,hK⟩:=h;exact(ag9 hs.st hN (hK _ h1) (hK _ h2) (hK _ h3) (hK _ h4) hc).mono fun _ _ hr=>wC hs hK hr
end
theorem afD{w0 w1:World}{l:List (Nat×Obj)}(hb1:Below w0.heap.size w0 w1)(hk:∀p∈l,w1.heap[p.1]? =some p.2/\w0.heap.size<=p.1)(hn:(l.map (·.1)).Nodup)(hT:Tab w0)(htb:1<w0.heap.size):
 Calls Tryz.prog 8 #[.bool true] w1 (fun e W=>∃g,e=.returned (.pointer (some ⟨g,0,none⟩))/\Run (bs w0) g 0 [] l W):=by
 refine(amY (P:=PT) (hT.below hb1) (bdJ htb hb1.size) nlr).mono ?_;rintro e W⟨g,rfl,hs,hb,-⟩;exact⟨g,rfl,Run.start hb1 hk hn htb hs hb⟩
def runW(s:Bs)(g:Nat):Wk Ex where
 G:=fun c K l w=>Run s g c K l w
 weak:=fun h hc hK hl hn=>((h.more hc).few hK).sub hl hn
 heap:=fun h p hp=>h.kept p hp
 alloc:=fun h o=>h.alloc o
 write:=fun h hg ho=>h.write hg ho
 drew:=fun h=>h.drew
abbrev numS(g n:Nat):SV:=.w (.agg [.v (.pointer (some ⟨g,0,none⟩)),.id n])
abbrev ab5(g m n:Nat):SV:=.w (.agg [.v (.pointer (some ⟨g,0,none⟩)),.id m,.v (.pointer (some ⟨g,0,none⟩)),.id n])
abbrev noS:SV:=.w (.c (.v undef))
abbrev numC(g n:Nat):List SC:=[.v (.pointer (some ⟨g,0,none⟩)),.id n]
abbrev jP(g m n:Nat):List SC:=[.v (.pointer (some ⟨g,0,none⟩)),.id m,.v (.pointer (some ⟨g,0,none⟩)),.id n]
abbrev valS(v:Value):SV:=.w (.c (.v v))
abbrev ansS(v:Value):SV:=.tup [.c (.v v),.c (.v .nilIface)]
section
variable{S:Spec Ex}{w0:Bs}{g c0:Nat}{a0:Act}{ν0:Nat->Nat}{i:Nat}{Q:Exit->Act->World->Prop}
def Spec.made (S:Spec Ex)(i:Nat):List (Nat×Ex):=S.know.filter fun p=>S.cr p.1==some i
theorem wF{ν:Nat->Nat}{p:Ex×Nat}(h:p∈S.newK i ν):∃q∈S.made i,p=(q.2,ν q.1):=by
 obtain⟨q,h1,h2⟩:=List.mem_filterMap.1 h
 split at h2
 . rename_i hc
   exact⟨q,List.mem_filter.2 ⟨h1,by simp[hc]⟩,(bdG h2).symm⟩
 . cases h2
theorem ret1{ν:Nat->Nat}{c k t:Nat}{x:Ex}{l:List (Nat×Obj)}{w':World}(ht:S.cr t=some i)(hk:S.made i=[(t,x)])(hR:Run w0 g c ((x,k)::S.K lst ν) l w'):
 ∃ν',(∀n,S.cr n≠some i->ν' n=ν n)/\ν' t=k/\Run w0 g c (S.newK i ν'++S.K lst ν) l w':=by
 refine⟨fun n=>if n=t then k else ν n,fun n hn=>if_neg fun e=>hn (by rw[e];exact ht),if_pos rfl,hR.few fun p hp=> ?_⟩;rcases bdM.1 hp with h|h
 . obtain⟨q,h1,rfl⟩:=wF h
   rw[hk]at h1;rw[List.mem_singleton.1 h1];simp
 . exact List.mem_cons_of_mem _ h
theorem ret0{ν:Nat->Nat}{c:Nat}{l:List (Nat×Obj)}{w':World}(hk:S.made i=[])(hR:Run w0 g c (S.K lst ν) l w'):Run w0 g c (S.newK i ν++S.K lst ν) l w':=
 hR.few fun p hp=>by
  rcases bdM.1 hp with h|h
  . obtain⟨q,h1,-⟩:=wF h
    rw[hk]at h1;cases h1
  . exact h
abbrev lV(S:Spec Ex)(w0:Bs)(g c0 i:Nat)(f:FuncId)(args:(Nat->Nat)->Array Value):Prop:=
 ∀(lst:Nat->Bool) (ν:Nat->Nat) (c:Nat) (w:World),(∀d∈S.D i,lst d=true)->c+S.cost i<=c0+S.total->(runW w0 g).G c (S.K lst ν) (S.L lst ν) w->
    Calls Tryz.prog f (args ν) w (fun e w'=>∃ν',(∀n,S.cr n≠some i->ν' n=ν n)/\e=.returned ((S.val i).den ν')/\(runW w0 g).G (c+S.cost i) (S.newK i ν'++S.K lst ν) (S.L lst ν) w')
theorem afE{n:Nat}{ν:Nat->Nat}{c:Nat}{w:World}{B:Blk}(hB:B∈S.blocks)(pB:S.pre i B.b=true)(hI:B.init=[.v (.pointer (some ⟨g,0,none⟩)),.id n])(hT:B.T=34)(hst:B.st=none)(hD:∀d∈S.D i,lst d=true)
 (h:Run w0 g c (S.K lst ν) (S.L lst ν) w):w.heap[ν B.b]? =some (numO g (ν n)):=by
 have:=h.at (vX (S:=S) (ν:=ν) hB (pre_on pB hD));rw[this];unfold Blk.obj Blk.cont;rw[hst,hI,hT];rfl
variable(hM:c0+S.total<=20000){m n m' n' m2 n2 t t':Nat}{x y x' y' x2 y2:Ex}{q:Int}
include hM
theorem qE{f:FuncId}{args:(Nat->Nat)->Array Value}{d:Nat}(hc:S.cost i=d+1)(hv:S.val i=numS g t)(ht:S.cr t=some i)(hk:S.made i=[(t,x)])
 (h:∀(lst:Nat->Bool) (ν:Nat->Nat) (c:Nat) (w:World),(∀d∈S.D i,lst d=true)->c+d<20000->Run w0 g c (S.K lst ν) (S.L lst ν) w->Calls Tryz.prog f (args ν) w (RtR w0 g (c+(d+1)) (S.K lst ν) (S.L lst ν) x)):lV S w0 g c0 i f args:=by
 intro lst ν c w hD hl hG;refine(h lst ν c w hD (by omega) hG).mono ?_;rintro e w'⟨k,rfl,hR⟩;obtain⟨ν',h1,h2,h3⟩:=ret1 ht hk hR;refine⟨ν',h1,?_,by rw[hc];exact h3⟩;rw[hv];show _=Ending.returned (numV g (ν' t));rw[h2]
theorem ab6{f:FuncId}{args:(Nat->Nat)->Array Value}{d:Nat}{v:Value}(hc:S.cost i=d)(hv:∀ν,(S.val i).den ν=v)(hk:S.made i=[])
 (h:∀(lst:Nat->Bool) (ν:Nat->Nat) (c:Nat) (w:World),(∀d∈S.D i,lst d=true)->c+d<=20000->Run w0 g c (S.K lst ν) (S.L lst ν) w->Calls Tryz.prog f (args ν) w (RtA w0 g (c+d) (S.K lst ν) (S.L lst ν) v)):lV S w0 g c0 i f args:=by
 intro lst ν c w hD hl hG;refine(h lst ν c w hD (by omega) hG).mono ?_;rintro e w'⟨rfl,hR⟩;exact⟨ν,fun _ _=>rfl,by rw[hv],by rw[hc];exact ret0 hk hR⟩
section
variable(hx:(m,x)∈S.know)(hy:(n,y)∈S.know)(px:S.pre i m=true)(py:S.pre i n=true)
include hx px
theorem akP(hc:S.cost i=0)(hv:S.val i=ansS (.int .i64 q))(hk:S.made i=[])(hS:fK PT x q):lV S w0 g c0 i 48 (fun ν=>#[numV g (ν m)]):=
 ab6 hM (d:=0) hc (fun ν=>by rw[hv];rfl) hk fun lst ν c w hD hl h=>h.sign (qB hx (pre_on px hD)) hS
include hy py
theorem oK(hc:S.cost i=1)(hv:S.val i=numS g t)(ht:S.cr t=some i)(hk:S.made i=[(t,.sub x y)]):lV S w0 g c0 i 62 (fun ν=>#[numV g (ν m),numV g (ν n)]):=
 qE hM (d:=0) hc hv ht hk fun lst ν c w hD hl h=>h.sub2 hl (qB hx (pre_on px hD)) (qB hy (pre_on py hD))
theorem sG{B:Blk}(hB:B∈S.blocks)(pB:S.pre i B.b=true)(hI:B.init=[.v (.pointer (some ⟨g,0,none⟩)),.id n])(hT:B.T=34)(hst:B.st=none)(hc:S.cost i=1)(hv:S.val i=numS g t)(ht:S.cr t=some i)(hk:S.made i=[(t,.mul x y)]):
 lV S w0 g c0 i 64 (fun ν=>#[numV g (ν m),.slice (some ⟨ν B.b,0,none⟩) 1 1]):=
 qE hM (d:=0) hc hv ht hk fun lst ν c w hD hl h=>h.mul2 hl (qB hx (pre_on px hD)) (qB hy (pre_on py hD)) (afE hB pB hI hT hst hD h)
theorem an8{B:Blk}(hB:B∈S.blocks)(pB:S.pre i B.b=true)(hI:B.init=[.v (.pointer (some ⟨g,0,none⟩)),.id n])(hT:B.T=34)(hst:B.st=none)(hc:S.cost i=1)(hv:S.val i=numS g t)(ht:S.cr t=some i)(hk:S.made i=[(t,.add x y)]):
 lV S w0 g c0 i 65 (fun ν=>#[numV g (ν m),.slice (some ⟨ν B.b,0,none⟩) 1 1]):=
 qE hM (d:=0) hc hv ht hk fun lst ν c w hD hl h=>h.add2 hl (qB hx (pre_on px hD)) (qB hy (pre_on py hD)) (afE hB pB hI hT hst hD h)
section
variable(hx':(m',x')∈S.know)(hy':(n',y')∈S.know)(px':S.pre i m'=true)(py':S.pre i n'=true)
include hx' hy' px' py'
end
end
theorem c_of{v:Nat}(hv1:v<18446744073709551616)(hf:fin v)(hc:S.cost i=1)(hv:S.val i=numS g t)(ht:S.cr t=some i)(hk:S.made i=[(t,.leaf v)]):lV S w0 g c0 i 25 (fun _=>#[.pointer (some ⟨g,0,none⟩),.float .f64 v]):=
 qE hM (d:=0) hc hv ht hk fun lst ν c w hD hl h=>h.of hl hv1 hf
theorem apB{f:FuncId}{args:Array Value}{v:Value}(hc:S.cost i=0)(hv:S.val i=valS v)(hk:S.made i=[])(h:∀w,Calls Tryz.prog f args w (RetV w v)):lV S w0 g c0 i f (fun _=>args):=
 ab6 hM (d:=0) hc (fun ν=>by rw[hv];rfl) hk fun lst ν c w hD hl hR=>(h w).mono fun _ _ hr=>⟨hr.1,hR.step hr.2⟩
end
def AllN:Nat->(List Nat->Prop)->Prop
 |0,P=>P []
 |m+1,P=>∀a:Nat,AllN m fun l=>P (a::l)
theorem AllN.at:∀{m:Nat} {P:List Nat->Prop},AllN m P->∀l:List Nat,l.length=m->P l
 |0,_,h,[],_=>h
 |_+1,_,h,a::l,e=>(h a).at l (Nat.succ.inj e)
def nuU:List Nat->(Nat->Nat)->Nat->Nat
 |[],ν,n=>ν n
 |a::_,_,0=>a
 |_::l,ν,n+1=>nuU l ν n
def nuT:List Nat->List Nat->(Nat->Nat)->Nat->Nat
 |[],t,ν,n=>nuU t ν n
 |a::_,_,_,0=>a
 |_::l,t,ν,n+1=>nuT l t ν n
section
variable{a n:Nat}{l t:List Nat}{ν:Nat->Nat}
theorem nuU0:nuU (a::t) ν 0=a:=rfl
theorem nuU1:nuU (a::t) ν (n+1)=nuU t ν n:=rfl
theorem nuTn:nuT [] t ν n=nuU t ν n:=rfl
theorem nuT0:nuT (a::l) t ν 0=a:=rfl
theorem nuT1:nuT (a::l) t ν (n+1)=nuT l t ν n:=rfl
end
def yT:Nat->(Nat->Nat)->List Nat
 |0,_=>[]
 |m+1,ν=>ν 0::yT m fun n=>ν (n+1)
theorem afF:∀(m:Nat) (ν:Nat->Nat),(yT m ν).length=m
 |0,_=>rfl
 |m+1,ν=>congrArg (· +1) (afF m fun n=>ν (n+1))
theorem akQ:∀(m:Nat) (ν:Nat->Nat) (n:Nat),nuU (yT m ν) (fun k=>ν (k+m)) n=ν n
 |0,_,_=>rfl
 |_+1,_,0=>rfl
 |m+1,ν,n+1=>akQ m (fun k=>ν (k+1)) n
theorem akR{m:Nat}:∀(l:List Nat) (ν:Nat->Nat),(∀n,n<l.length->ν n=l.getD n 0)->∀n,nuT l (yT m fun k=>ν (k+l.length)) (fun k=>ν (k+m+l.length)) n=ν n
 |[],ν,_,n=>akQ m ν n
 |a::l,ν,h,0=>(h 0 (Nat.succ_pos _)).symm
 |a::l,ν,h,n+1=>akR (m:=m) l (fun k=>ν (k+1)) (fun k hk=>h (k+1) (Nat.succ_lt_succ hk)) n
abbrev mkS(ops:Array Oper)(k:Nat)(vals:List SV)(cr:List Nat)(know:List (Nat×Ex))(blocks:List Blk)(cost:List Nat)(D:List (List Nat))(outs:List (Nat×SV)):Spec Ex:=
 ⟨ops,fun i=>vals.getD i noS,fun n=>(List.replicate k none++cr.map some).getD n none,know,blocks,fun i=>cost.getD i 0,fun i=>D.getD i [],outs⟩
abbrev rgn(n:Nat):List Nat:=bdP n
abbrev curC(k:Int)(a b c:Nat):List SC:=[.v (.int .i64 k),.v (.float .f64 a),.v (.float .f64 b),.v (.float .f64 c)]
def fsOf:List Nat->List SV->(Nat->Nat)->List (Nat×Value)
 |0::ds,_::vs,ν=>fsOf ds vs ν
 |(d+1)::ds,v::vs,ν=>(d,v.den ν)::fsOf ds vs ν
 |_,_,_=>[]
section
variable{d:Nat}{ds:List Nat}{v:SV}{vs:List SV}{ν:Nat->Nat}{a:Act}{x:Value}{l:List (Nat×Value)}{b:SW}{lw:List SW}{c:SC}{lc:List SC}{n o:Nat}
theorem fs0:fsOf (0::ds) (v::vs) ν=fsOf ds vs ν:=rfl
theorem fs1:fsOf ((d+1)::ds) (v::vs) ν=(d,v.den ν)::fsOf ds vs ν:=rfl
theorem fsn:fsOf [] [] ν=[]:=rfl
theorem dSw:(SV.w b).den ν=b.den ν:=rfl
theorem dSt:(SV.tup lw).den ν=.tuple (lw.map (SW.den ν)).toArray:=rfl
theorem dWc:(SW.c c).den ν=c.den ν:=rfl
theorem dWa:(SW.agg lc).den ν=.agg (lc.map (SC.den ν)).toArray:=rfl
theorem dv:(SC.v x).den ν=x:=rfl
theorem di:(SC.id n).den ν=.int .i64 ((ν n:Nat):Int):=rfl
theorem dp:(SC.ptr n o).den ν=.pointer (some ⟨ν n,o,none⟩):=rfl
theorem ds':(SC.sl n o).den ν=.slice (some ⟨ν n,0,none⟩) o o:=rfl
end
theorem Spec.go {ops:Array Oper}{w0:Bs}{g c0:Nat}{a0:Act}{Q:Exit->Act->World->Prop}{id:Nat}{draw:Bool}{w:World}{K:List (Ex×Nat)}{l:List (Nat×Obj)}(vals:List SV)(cr:List Nat)(know:List (Nat×Ex))(blocks:List Blk)(cost:List Nat)(D:List (List Nat))(outs:List (Nat×SV))(ds old:List Nat)(n c1:Nat)(mK ml:List Bool)(hG:Run w0 g c0 K l w)
 (hok:(mkS ops old.length vals cr know blocks cost D outs).Base a0 (fun n=>old.getD n 0)->c0+(mkS ops old.length vals cr know blocks cost D outs).total<=20000->∀i,i<n->(mkS ops old.length vals cr know blocks cost D outs).Ok (runW w0 g) Tryz.prog Q c0 a0 (fun n=>old.getD n 0) i)
 (hfin:AllN cr.length fun t=>∀(ν:Nat->Nat) (w:World),Run w0 g c1 ((mkS ops old.length vals cr know blocks cost D outs).K (mkS ops old.length vals cr know blocks cost D outs).full (nuT old t ν)) ((mkS ops old.length vals cr know blocks cost D outs).L (mkS ops old.length vals cr know blocks cost D outs).full (nuT old t ν)) w->Q .normal (putL a0 (fsOf ds vals (nuT old t ν))) w)
 (hb:(mkS ops old.length vals cr know blocks cost D outs).Base a0 (fun n=>old.getD n 0):=by exact⟨Spec.wf_of (by kernel_rfl),lU (by kernel_rfl),iU (by repeat (first|exact trivial|refine And.intro rfl ?_))⟩) (hM:c1<=20000:=by omega) (ho:((bdP old.length).all fun n=>(mkS ops old.length vals cr know blocks cost D outs).cr n==none)=true:=by kernel_rfl)
 (hK:(mkS ops old.length vals cr know blocks cost D outs).K (fun _=>false) (fun n=>old.getD n 0)=selB K mK:=by kernel_rfl) (hL:(mkS ops old.length vals cr know blocks cost D outs).L (fun _=>false) (fun n=>old.getD n 0)=selB l ml:=by kernel_rfl) (hz:ops.size=n:=by rfl) (hc1:c0+(mkS ops old.length vals cr know blocks cost D outs).total=c1:=by kernel_rfl) (hf:∀ν,(mkS ops old.length vals cr know blocks cost D outs).fins ν=fsOf ds vals ν:=by intro ν;kernel_rfl)
 (hm:Tryz.prog.follows .mixedOrders=true:=by rfl):(Code.region id ops draw).wp Tryz.prog Q a0 w:=
 Spec.run (S:=mkS ops old.length vals cr know blocks cost D outs) (W:=runW w0 g) n c1 mK ml hb hG (Run.nodup hG) hM hok (fun ν w hν hw=>by
  have e:nuT old (yT cr.length fun k=>ν (k+old.length)) (fun k=>ν (k+cr.length+old.length))=ν:=funext fun n=>akR old ν (fun k hk=>hν k (by
   have:=List.all_eq_true.1 ho k (List.mem_range.2 hk);simpa using this)) n
  have h:=hfin.at (yT cr.length fun k=>ν (k+old.length)) (afF _ _) (fun k=>ν (k+cr.length+old.length)) w;rw[e]at h;exact h hw) hK hL hz hc1 hf hm
section
variable{E:Type}{S:Spec E}{W:Wk E}{P:Program}{Q:Exit->Act->World->Prop}{c0:Nat}{a0:Act}{ν0:Nat->Nat}{i:Nat}{o:Oper}
end
end
section
open Go.RowKit Go.Maps Go.Stop Go.Extern
abbrev arcW(g:Nat)(kd:Int)(wa wb wc i j k l:Nat):Value:=.agg #[.int .i64 kd,.float .f64 wa,.float .f64 wb,.float .f64 wc,.pointer (some ⟨g,0,none⟩),.int .i64 (i:Int),.pointer (some ⟨g,0,none⟩),.int .i64 (j:Int),.pointer (some ⟨g,0,none⟩),.int .i64 (k:Int),.pointer (some ⟨g,0,none⟩),.int .i64 (l:Int)]
theorem nA{w:World}:Calls Tryz.prog 30 #[] w (RetV w (.iface 99 (.int .i64 4))):=by
 go_enter Tryz.func30,Tryz.ntmps30
 go_wp2;go_ret;exact⟨rfl,Below.refl _ _⟩
end
section
open Go.RowKit Go.Maps
open List renaming mem_append->bdQ,mem_cons->bdR,zip_cons_cons->bdS,all_eq_true->bdT,map_cons->bdU,mem_map->bdV
def RtN(s:Bs)(g N:Nat)(K:List (Ex×Nat))(l:List (Nat×Obj))(V:List Nat->Value)(es:List Ex)(e:Ending)(W':World):Prop:=
 ∃ks:List Nat,ks.length=es.length/\e=.returned (V ks)/\Run s g N (es.zip ks++K) l W'
def FnOk(f:FuncId)(g d:Nat)(av:Array Value)(K0:List (Ex×Nat))(V:List Nat->Value)(es:List Ex):Prop:=
 ∀(s:Bs) (N:Nat) (K:List (Ex×Nat)) (l:List (Nat×Obj)) (W:World),Run s g N K l W->N+d<=20000->(∀p∈K0,p∈K)->Calls Tryz.prog f av W (RtN s g (N+d) K l V es)
def afG(w:World)(B:Nat)(ns:List Nd)(g N:Nat)(V:List Nat->Value)(es:List Ex)(e:Ending)(W':World):Prop:=
 ∃ks:List Nat,ks.length=es.length/\e=.returned (V ks)/\∃l',Run ⟨w,B,ns⟩ g N (es.zip ks) l' W'
section
variable{f:FuncId}{g d:Nat}{av:Array Value}{K0:List (Ex×Nat)}{V:List Nat->Value}{es:List Ex}
theorem FnOk.of (h:∀w B ns N,Run ⟨w,B,ns⟩ g N K0 [] w->N+d<=20000->Calls Tryz.prog f av w (afG w B ns g (N+d) V es)):FnOk f g d av K0 V es:=by
 intro s N K l W hR hN hK;obtain⟨ns',hs,hI⟩:=hR;refine(h W s.B ns' N (Run.enter hs.st (fun p hp=>hI p (hK p hp))) hN).mono ?_;rintro e W'⟨ks,h1,rfl,l',ns'',hs2,hI2⟩;refine⟨ks,h1,rfl,ns'',hs.step hs2.st hs2.pre hs2.grew.2.2,fun p hp=> ?_⟩;rcases bdQ.1 hp with hp|hp
 . exact hI2 p hp
 . exact(hI p hp).mono hs2.pre
theorem eQ{α:Type}{K K':List α}(ix:List Nat)(h:K'=ix.filterMap (K[·]?):=by rfl):∀p∈K',p∈K:=fun p hp=>by
 rw[h]at hp;obtain⟨j,-,h2⟩:=List.mem_filterMap.1 hp;exact List.mem_of_getElem? h2
end
def letters:List Nat->List Nat->(Nat->Nat)->Nat->Nat
 |t::ts,k::ks,ν,n=>if n=t then k else letters ts ks ν n
 |_,_,ν,n=>ν n
theorem sH:∀(ts ks:List Nat) (ν:Nat->Nat) (n:Nat),n∉ts->letters ts ks ν n=ν n
 |[],_,_,_,_=>rfl
 |_::_,[],_,_,_=>rfl
 |t::ts,k::ks,ν,n,h=>by
  rw[bdR]at h;show(if n=t then k else letters ts ks ν n)=ν n;rw[if_neg (fun e=>h (Or.inl e)),sH ts ks ν n (fun e=>h (Or.inr e))]
theorem sI:∀(ts ks:List Nat) (ν:Nat->Nat),ts.Nodup->ks.length=ts.length->ts.map (letters ts ks ν)=ks
 |[],[],_,_,_=>rfl
 |[],_::_,_,_,h=>by simp at h
 |_::_,[],_,_,h=>by simp at h
 |t::ts,k::ks,ν,hn,h=>by
  rw[List.nodup_cons]at hn;have e:ts.map (letters (t::ts) (k::ks) ν)=ts.map (letters ts ks ν):=List.map_congr_left fun n hm=>by
   show(if n=t then k else letters ts ks ν n)=_;rw[if_neg (fun e=>hn.1 (by rw[<-e];exact hm))]
  rw[bdU,e,sI ts ks ν hn.2 (by simpa using h)];show(if t=t then k else _)::ks=k::ks;rw[if_pos rfl]
theorem sJ{α:Type}{h:Nat->Nat}{q:Nat×α}:∀{ts:List Nat} {es:List α},q∈ts.zip es->(q.2,h q.1)∈es.zip (ts.map h)
 |[],_,hq=>by simp at hq
 |_::_,[],hq=>by simp at hq
 |t::ts,e::es,hq=>by
  rw[bdS,bdR]at hq;rw[bdU,bdS,bdR];rcases hq with rfl|hq
  . exact Or.inl rfl
  . exact Or.inr (sJ hq)
section
variable{S:Spec Ex}{w0:Bs}{g c0 i d:Nat}{f:FuncId}{args:(Nat->Nat)->Array Value}{ix ts:List Nat}{V:List Nat->Value}{es:List Ex}
theorem retL{lst:Nat->Bool}{ν:Nat->Nat}{c:Nat}{l:List (Nat×Obj)}{w':World}{ks:List Nat}(ht:(ts.all fun t=>S.cr t==some i)=true)(hn:ts.Nodup)(hk:S.made i=ts.zip es)(h1:ks.length=ts.length)(hR:Run w0 g c (es.zip ks++S.K lst ν) l w'):
 ∃ν',(∀n,S.cr n≠some i->ν' n=ν n)/\ts.map ν'=ks/\Run w0 g c (S.newK i ν'++S.K lst ν) l w':=by
 have hm:=sI ts ks ν hn h1;refine⟨letters ts ks ν,fun n h=>sH ts ks ν n fun hin=>h (by have:=bdT.1 ht n hin;simpa using this),hm,hR.few fun p hp=> ?_⟩;rcases bdQ.1 hp with h|h
 . obtain⟨q,h2,rfl⟩:=wF h
   rw[hk]at h2;have:=sJ (h:=letters ts ks ν) h2;rw[hm]at this;exact bdQ.2 (Or.inl this)
 . exact bdQ.2 (Or.inr h)
theorem c_fn(hM:c0+S.total<=20000)(F:∀ν,FnOk f g d (args ν) ((ix.map fun j=>S.know.getD j (0,.leaf 0)).map fun q=>(q.2,ν q.1)) V es)
 (hix:(ix.all fun j=>decide (j<S.know.length)&&S.pre i (S.know.getD j (0,.leaf 0)).1)=true:=by kernel_rfl) (hc:S.cost i=d:=by rfl) (hv:∀ν,(S.val i).den ν=V (ts.map ν):=by intro _;rfl)
 (ht:(ts.all fun t=>S.cr t==some i)=true:=by kernel_rfl) (hk:S.made i=ts.zip es:=by rfl) (hn:ts.Nodup:=by decide) (hl:ts.length=es.length:=by rfl):lV S w0 g c0 i f args:=by
 intro lst ν c w hD hcl hG;rw[hc]at hcl;refine(F ν w0 c _ _ w hG (by omega) fun p hp=> ?_).mono ?_
 . obtain⟨q,h1,rfl⟩:=bdV.1 hp
   obtain⟨j,h2,rfl⟩:=bdV.1 h1;have h3:=bdT.1 hix j h2;rw[Bool.and_eq_true,decide_eq_true_eq]at h3;refine qB ?_ (pre_on h3.2 hD);rw[List.getD_eq_getElem?_getD,List.getElem?_eq_getElem h3.1];exact List.getElem_mem h3.1
 . rintro e w'⟨ks,k1,rfl,hR⟩
   obtain⟨ν',a1,a2,a3⟩:=retL ht hn hk (by omega) hR;exact⟨ν',a1,by rw[hv,a2],by rw[hc];exact a3⟩
end
section
variable{E:Type}{S:Spec E}{W:Wk E}{P:Program}{Q:Exit->Act->World->Prop}{c0:Nat}{a0:Act}{ν0:Nat->Nat}{i:Nat}{o:Oper}
end
section
variable{f:FuncId}{g d:Nat}{av:Array Value}{K0:List (Ex×Nat)}{V:List Nat->Nat->Value}{es:List Ex}{O:List Nat->Obj}
end
section
variable{S:Spec Ex}{w0:Bs}{g c0 i d:Nat}{f:FuncId}{args:(Nat->Nat)->Array Value}{ix ts:List Nat}{V:List Nat->Nat->Value}{es:List Ex}{O:List Nat->Obj}{B:Blk}
end
end
end Go.Proofs.YtjdgaogkioabeaaGreatDoor
