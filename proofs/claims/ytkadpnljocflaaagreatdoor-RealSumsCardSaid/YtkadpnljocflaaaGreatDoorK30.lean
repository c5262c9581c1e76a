/- A part of the proof: contracts of functions and plain laws (SgD, SpA, Stg, RunA, FlrE, FlrF, FtA, FeA, SymA, SymM, SymB, SymK, SymC, SpE, QlA, FtB, ShT, FlrT). -/
import Derived.Test.YtkadpnljocflaaaGreatDoorK27
import Derived.Test.YtkadpnljocflaaaGreatDoorK29
import Derived.Test.YtkadpnljocflaaaGreatDoorK25
import Derived.Test.YtkadpnljocflaaaGreatDoorK09
import Derived.Test.YtkadpnljocflaaaGreatDoorK01
import Derived.RegionTactic
import Derived.Test.YtkadpnljocflaaaGreatDoorK21
import Derived.Test.YtkadpnljocflaaaGreatDoorK07
import Derived.Deep.Cut
import Derived.Deep.DeepCutAuto
import Derived.Shelf.Strings.Builder1
import Derived.Shelf.Strconv.Itoa1
import Derived.Test.YtkadpnljocflaaaGreatDoorProg
import Derived.Lib.Builder
import Derived.Lib.AppendStr
import Derived.Lib.UnsafeStr
import Derived.Laws.Externs
set_option linter.unusedVariables false
set_option linter.unusedSimpArgs false
set_option linter.unnecessarySimpa false
set_option maxHeartbeats 25600000
set_option maxRecDepth 100000
namespace Go.Proofs.YtkadpnljocflaaaGreatDoor
section
open Go.RowKit Go.Maps
open Re (rat ofI ofN)
variable{P:Ex->Prop}{ns:List Nd}{K j:Nat}{v:Re}
theorem acD(h:AllIs P ns):OkNs ns:=by
 intro i n hn;rcases h.before hn with ⟨h0,-⟩|⟨hk,-,a,b,h1,h2,h3,h4⟩|⟨h5,-,-,a,h1,h2⟩
 . exact⟨Or.inl h0,fun o ho=>by simp[opsN,h0]at ho⟩
 . refine⟨Or.inr (Or.inr (by rcases hk with h|h|h|h<;>omega)),fun o ho=> ?_⟩
   have:n.kind≠0/\n.kind≠5:=by rcases hk with h|h|h|h<;>omega
   simp only[opsN,this.1,this.2,if_false,List.mem_cons,List.not_mem_nil,or_false]at ho;rcases ho with rfl|rfl<;>omega
 . refine⟨Or.inr (Or.inl h5),fun o ho=> ?_⟩
   have:n.kind≠0:=by omega
   rw[show opsN n=[n.a] from by unfold opsN;rw[if_neg this,if_pos h5]]at ho;simp only[List.mem_cons,List.not_mem_nil,or_false]at ho;omega
theorem vQ(h:AllIs P ns):gB ns:=by
 intro i n hn h0;rcases h.before hn with ⟨-,h1,h2⟩|⟨hk,-⟩|⟨h5,-⟩
 . exact⟨h1,h2⟩
 . rcases hk with h|h|h|h<;>omega
 . omega
theorem vR(h:AllIs P ns):gD ns:=by
 intro i n hn h0;rcases h.before hn with ⟨h1,-⟩|⟨hk,-⟩|⟨-,-,h2,-⟩
 . omega
 . rcases hk with h|h|h|h<;>omega
 . exact h2
theorem ag0{x:Ex}(hG:Gd K j x v)(hA:AllGd x):lK P x (Re.sgn v):=
 fun B N w g k ns hs hi=>zX hs.dag (acD hs.all) (vQ hs.all) (vR hs.all) hi hG hA hs.tab
theorem AllGd.leaf (v:Nat):AllGd (.leaf v):=⟨fun a b h=>(by cases h),fun a h=>(by cases h)⟩
theorem AllGd.add {a b:Ex}(h:AllGd a)(k:AllGd b):AllGd (.add a b):=
 ⟨fun x y s=>by cases s with|addL s=>exact h.1 x y s|addR s=>exact k.1 x y s,fun x s=>by cases s with|addL s=>exact h.2 x s|addR s=>exact k.2 x s⟩
theorem AllGd.sub {a b:Ex}(h:AllGd a)(k:AllGd b):AllGd (.sub a b):=
 ⟨fun x y s=>by cases s with|subL s=>exact h.1 x y s|subR s=>exact k.1 x y s,fun x s=>by cases s with|subL s=>exact h.2 x s|subR s=>exact k.2 x s⟩
theorem AllGd.root {a:Ex}(h:AllGd a)(hG:Gd K j a v):AllGd (.root a):=
 ⟨fun x y s=>by cases s with|root s=>exact h.1 x y s,fun x s=>by cases s with|refl=>exact⟨_,_,_,hG⟩|root s=>exact h.2 x s⟩
section
variable{L:List Ex}{a b:Ex}{x y z:Re}{k m n:Nat}
end
section
variable{L:List Ex}{b:Nat}{x:Int}
end
end
section
open Go.RowKit Go.Maps
open Nat renaming le_trans->azW,le_refl->azX,not_lt->azY
open Option.some renaming inj->azV
variable{z:Int}{o o':Obj}
def Grew(P:Ex->Prop)(B N:Nat)(w:World)(g:Nat)(ns ns':List Nd)(w':World):Prop:=St P B N w' g ns'/\ns<+:ns'/\DS g w w'
section
variable{P:Ex->Prop}{B N:Nat}{w w' w'' w0:World}{g:Nat}{ns ns':List Nd}
theorem Grew.below (h:Grew P B N w g ns ns' w')(hb:Below w'.heap.size w' w''):Grew P B N w g ns ns' w'':=
 ⟨h.1.below hb,h.2.1,h.2.2.trans (DS.of_below h.1.dag.glt hb)⟩
theorem Grew.trans {M:Nat}{ns'':List Nd}(h:Grew P B N w g ns ns' w')(k:Grew P B M w' g ns' ns'' w''):Grew P B M w g ns ns'' w'':=⟨k.1,h.2.1.trans k.2.1,h.2.2.trans k.2.2⟩
end
structure Stg(P:Ex->Prop)(B N:Nat)(w:World)(g:Nat)(ns:List Nd)(W:World)(ns':List Nd)(l:List (Nat×Obj)):Prop where
 grew:Grew P B N w g ns ns' W
 kept:∀p∈l,W.heap[p.1]? =some p.2/\¬DagB W g p.1/\w.heap.size<=p.1
 hw:B<=w.heap.size
 nodup:(l.map (·.1)).Nodup
section
variable{P:Ex->Prop}{B N M:Nat}{w W W':World}{g:Nat}{ns ns' ns'':List Nd}{l:List (Nat×Obj)}
theorem Stg.st (h:Stg P B N w g ns W ns' l):St P B N W g ns':=h.grew.1
theorem Stg.lt (h:Stg P B N w g ns W ns' l){p:Nat×Obj}(hp:p∈l):p.1<W.heap.size:=aC (h.kept p hp).1
theorem Stg.below (h:Stg P B N w g ns W ns' l)(hb:Below W.heap.size W W'):Stg P B N w g ns W' ns' l:=
 ⟨h.grew.below hb,fun p hp=>⟨aD (h.kept p hp).1 hb (h.lt hp),fun hd=>(h.kept p hp).2.1 ((DagB.congr (hb.block g h.grew.1.dag.glt)).1 hd),(h.kept p hp).2.2⟩,h.hw,h.nodup⟩
theorem Stg.alloc (h:Stg P B N w g ns W ns' l)(o:Obj):Stg P B N w g ns (W.alloc o) ns' ((W.heap.size,o)::l):=by
 have hb:Below W.heap.size W (W.alloc o):=aI W o;have h':=h.below hb;refine⟨h'.grew,fun p hp=> ?_,h.hw,?_⟩
 . rcases List.mem_cons.1 hp with rfl|hp
   . exact⟨heap_alloc_new W o,fun hd=>by have:=h.grew.1.dag.dagB ((DagB.congr (hb.block g h.grew.1.dag.glt)).1 hd);simp at this,h.grew.2.2.size⟩
   . exact h'.kept p hp
 . simp only[List.map_cons,List.nodup_cons]
   refine⟨fun hm=> ?_,h.nodup⟩;obtain⟨p,hp,e⟩:=List.mem_map.1 hm;have:=h.lt hp;omega
theorem Stg.step (h:Stg P B N w g ns W ns' l)(hs:St P B M W' g ns'')(hp:ns'<+:ns'')(hd:DS g W W'):Stg P B M w g ns W' ns'' l:=
 ⟨h.grew.trans ⟨hs,hp,hd⟩,fun p hp=>⟨(hd.heap (h.lt hp) (h.kept p hp).2.1).trans (h.kept p hp).1,hd.2 _ (h.lt hp) (h.kept p hp).2.1,(h.kept p hp).2.2⟩,h.hw,h.nodup⟩
theorem DagP.off {b:Nat}(h:DagP W g ns)(hn:¬DagB W g b)(hg:W.grownBy W' (some b)):DagP W' g ns:=by
 rcases h with h|⟨v,h1,h2,h3⟩
 . obtain⟨A,c,mb,m,ho⟩:=h.opened
   obtain⟨q1,q2,q3⟩:=ho.dagB hn;obtain⟨h1,h2,h3,h4⟩:=ho;exact(show DagO _ g ns A c mb m from⟨(hg.block g (aC h1) (fun e=>q1 (azV e).symm)).trans h1,h2.kept hg (Or.inr q3),h3.keep (hg.block mb h3.lt (fun e=>q2 (azV e).symm)),h4⟩).dag
 . exact Or.inr ⟨v,(hg.block g (aC h1) (fun e=>hn (Or.inl (azV e).symm))).trans h1,h2.kept hg (Or.inr fun e=>hn (Or.inr ⟨_,_,_,h1,Or.inl e⟩)),h3⟩
theorem Stg.write {b:Nat}(h:Stg P B N w g ns W ns' ((b,o)::l))(hb:W.grownBy W' (some b))(ho:W'.heap[b]? =some o'):Stg P B N w g ns W' ns' ((b,o')::l):=by
 obtain⟨q1,q2,q3⟩:=h.kept (b,o) (by simp);have hgb:some g≠some b:=fun e=>q2 (Or.inl (azV e).symm);have hg:=hb.block g h.grew.1.dag.glt hgb;have hst:=h.grew.1;have hwz:w.heap.size<=W.heap.size:=h.grew.2.2.size;refine⟨⟨⟨hst.dag.off q2 hb,hst.all,fun c hc=>hst.hi c ((DagB.congr hg).1 hc),?_,hst.tb,azW hst.hB hb.size,hst.room⟩,h.grew.2.1,?_⟩,?_,h.hw,h.nodup⟩
 . exact hst.tab.step (hb.block _ (by have:=hst.tb;have:=hst.hB;omega) (fun e=>by have:=azV e;have:=hst.tb;have:=h.hw;simp only at q3;omega))
 . refine⟨⟨hb.os.trans h.grew.2.2.1.os,hb.tape.trans h.grew.2.2.1.tape,hb.output.trans h.grew.2.2.1.output,azW hwz hb.size,fun c hc hn=> ?_⟩,fun c hc hn hd=>h.grew.2.2.2 c hc hn ((DagB.congr hg).1 hd)⟩
   exact(hb.block c (by omega) (fun e=>by have:=azV e;simp only at q3;omega)).trans (h.grew.2.2.1.block c hc hn)
 . intro p hp
   rcases List.mem_cons.1 hp with rfl|hp
   . exact⟨ho,fun hd=>q2 ((DagB.congr hg).1 hd),q3⟩
   . have hne:p.1≠b:=fun e=>(List.nodup_cons.1 h.nodup).1 (List.mem_map.2 ⟨p,hp,e⟩)
     obtain⟨r1,r2,r3⟩:=h.kept p (by simp[hp]);exact⟨(hb.block p.1 (aC r1) (fun e=>hne (azV e))).trans r1,fun hd=>r2 ((DagB.congr hg).1 hd),r3⟩
end
abbrev numO(g k:Nat):Obj:=.cells #[.pointer (some ⟨g,0,none⟩),.int .i64 (k:Int)] 33
section
variable{P:Ex->Prop}{B N M:Nat}{w W W':World}{g i j b v:Nat}{ns ns' ns'':List Nd}{l:List (Nat×Obj)}{x y:Ex}
end
abbrev PT:Ex->Prop:=fun _=>True
section
variable{α:Type}{a:α}{l:List α}
theorem m0:a∈a::l:=.head _
theorem m1{b0:α}:a∈b0::a::l:=.tail _ m0
theorem m2{b0 b1:α}:a∈b0::b1::a::l:=.tail _ m1
theorem m3{b0 b1 b2:α}:a∈b0::b1::b2::a::l:=.tail _ m2
theorem m4{b0 b1 b2 b3:α}:a∈b0::b1::b2::b3::a::l:=.tail _ m3
theorem m5{b0 b1 b2 b3 b4:α}:a∈b0::b1::b2::b3::b4::a::l:=.tail _ m4
theorem m6{b0 b1 b2 b3 b4 b5:α}:a∈b0::b1::b2::b3::b4::b5::a::l:=.tail _ m5
end
structure Bs where
 w:World
 B:Nat
 ns:List Nd
abbrev bs(w:World):Bs:=⟨w,w.heap.size,[]⟩
def Run(s:Bs)(g N:Nat)(K:List (Ex×Nat))(l:List (Nat×Obj))(W:World):Prop:=∃ns',Stg PT s.B N s.w g s.ns W ns' l/\∀p∈K,Is ns' p.1 p.2
section
variable{s:Bs}{w0 w1 W W':World}{g N M:Nat}{K:List (Ex×Nat)}{l l':List (Nat×Obj)}
theorem Run.start (hb1:Below w0.heap.size w0 w1)(hk:∀p∈l,w1.heap[p.1]? =some p.2/\w0.heap.size<=p.1)(hn:(l.map (·.1)).Nodup)(htb:0<w0.heap.size)
 (hs:St PT w1.heap.size 0 W g []) (hb:Below w1.heap.size w1 W):Run (bs w0) g 0 [] l W:=by
 have hz:=hb1.size;have hst:St PT w0.heap.size 0 W g []:=⟨hs.dag,hs.all,fun b h=>azW hz (hs.hi b h),hs.tab,htb,azW hz hs.hB,hs.room⟩;refine⟨[],⟨⟨hst,List.prefix_rfl,Fr.of_below (hb1.trans (hb.mono hz)),fun b hlt _ hd=>absurd hlt (azY.2 (hst.hi _ hd))⟩,fun p hp=> ?_,azX _,hn⟩,fun p hp=>by cases hp⟩;obtain⟨h1,h2⟩:=hk p hp;have hlt:=aC h1;exact⟨aD h1 hb hlt,fun hd=>by have:=hs.hi _ hd;omega,h2⟩
theorem Run.below (h:Run (bs w0) g N K l W):Below w0.heap.size w0 W:=by
 obtain⟨ns',hs,-⟩:=h;refine hs.grew.2.2.below nlr fun b hb=> ?_;rcases hb with rfl|⟨v,mo,T,e,-⟩
 . exact hs.st.hi _ (Or.inl rfl)
 . exact absurd (aC e) (azY.2 (hs.st.hi _ (Or.inl rfl)))
theorem Run.kept (h:Run s g N K l W):∀p∈l,W.heap[p.1]? =some p.2:=fun p hp=>by obtain⟨ns',hs,-⟩:=h;exact(hs.kept p hp).1
theorem Run.nodup (h:Run s g N K l W):(l.map (·.1)).Nodup:=by obtain⟨ns',hs,-⟩:=h;exact hs.nodup
theorem Run.at (h:Run s g N K l W){b:Nat}(hp:(b,o)∈l):W.heap[b]? =some o:=h.kept _ hp
theorem Run.step (h:Run s g N K l W)(hb:Below W.heap.size W W'):Run s g N K l W':=by obtain⟨ns',hs,hK⟩:=h;exact⟨ns',hs.below hb,hK⟩
theorem Run.drew (h:Run s g N K l W):Run s g N K l W.drew:=h.step (Below.refl _ _).drew
theorem Run.alloc (h:Run s g N K l W)(o:Obj):Run s g N K ((W.heap.size,o)::l) (W.alloc o):=by obtain⟨ns',hs,hK⟩:=h;exact⟨ns',hs.alloc o,hK⟩
theorem Run.sub (h:Run s g N K l W)(hl:∀p∈l',p∈l)(hn:(l'.map (·.1)).Nodup):Run s g N K l' W:=by obtain⟨ns',hs,hK⟩:=h;exact⟨ns',⟨hs.grew,fun p hp=>hs.kept p (hl p hp),hs.hw,hn⟩,hK⟩
theorem Run.few (h:Run s g N K l W){K':List (Ex×Nat)}(hs:∀p∈K',p∈K):Run s g N K' l W:=by obtain⟨ns',h1,hK⟩:=h;exact⟨ns',h1,fun p hp=>hK p (hs p hp)⟩
theorem Run.write {b:Nat}(h:Run s g N K ((b,o)::l) W)(hb:W.grownBy W' (some b))(ho:W'.heap[b]? =some o'):Run s g N K ((b,o')::l) W':=by obtain⟨ns',hs,hK⟩:=h;exact⟨ns',hs.write hb ho,hK⟩
end
def RtR(s:Bs)(g N:Nat)(K:List (Ex×Nat))(l:List (Nat×Obj))(x:Ex)(e:Ending)(W':World):Prop:=∃k,e=.returned (numV g k)/\Run s g N ((x,k)::K) l W'
def RtA(s:Bs)(g N:Nat)(K:List (Ex×Nat))(l:List (Nat×Obj))(v:Value)(e:Ending)(W':World):Prop:=e=.returned v/\Run s g N K l W'
section
variable{s:Bs}{W W':World}{g N M:Nat}{K:List (Ex×Nat)}{l:List (Nat×Obj)}{x y:Ex}{ns:List Nd}
theorem ag1{ns':List Nd}{N:Nat}{W:World}(h:Stg PT s.B N s.w g s.ns W ns' l)(hK:∀p∈K,Is ns' p.1 p.2){k:Nat}(hx:Is ns' x k):∀p∈(x,k)::K,Is ns' p.1 p.2:=fun p hp=>by
 rcases List.mem_cons.1 hp with rfl|hp
 . exact hx
 . exact hK p hp
theorem oO{P:Nat->Value}(h:Stg PT s.B N s.w g s.ns W ns l)(hK:∀p∈K,Is ns p.1 p.2){e:Ending}(hr:RetE PT s.B M W g ns P x e W'):∃k,e=.returned (P k)/\Run s g M ((x,k)::K) l W':=by
 obtain⟨k,ns',e1,h1,h2,h3,h4⟩:=hr;exact⟨k,e1,ns',h.step h1 h2 h4,ag1 (h.step h1 h2 h4) (fun p hp=>(hK p hp).mono h2) h3⟩
theorem ag2(h:Stg PT s.B N s.w g s.ns W ns l)(hK:∀p∈K,Is ns p.1 p.2){v:Value}{e:Ending}(hr:RetQ PT s.B M W g ns v e W'):RtA s g M K l v e W':=by
 obtain⟨e1,ns',h1,h2,h3⟩:=hr;exact⟨e1,ns',h.step h1 h2 h3,fun p hp=>(hK p hp).mono h2⟩
end
section
variable{s:Bs}{W:World}{g N i j k m b v:Nat}{K:List (Ex×Nat)}{l:List (Nat×Obj)}{x y:Ex}{q:Int}
theorem Run.of (h:Run s g N K l W)(hN:N<20000)(hv:v<18446744073709551616)(hf:fin v):Calls Tryz.prog 12 #[.pointer (some ⟨g,0,none⟩),.float .f64 v] W (RtR s g (N+1) K l (.leaf v)):=by
 obtain⟨ns,hs,hK⟩:=h;exact(ajY hs.st hN hv hf trivial).mono fun _ _ hr=>oO hs hK hr
theorem Run.sqrt (h:Run s g N K l W)(hN:N<20000)(hx:(x,i)∈K):Calls Tryz.prog 13 #[numV g i] W (RtR s g (N+1) K l (.root x)):=by
 obtain⟨ns,hs,hK⟩:=h;exact(agT hs.st hN (hK _ hx) trivial).mono fun _ _ hr=>oO hs hK hr
theorem Run.cmp (h:Run s g N K l W)(hN:N<20000)(hx:(x,i)∈K)(hy:(y,j)∈K)(hS:lK PT (.sub x y) q):Calls Tryz.prog 15 #[numV g i,numV g j] W (RtA s g (N+1) K l (.tuple #[.int .i64 q,.nilIface])):=by
 obtain⟨ns,hs,hK⟩:=h;exact(aiH hs.st hN (hK _ hx) (hK _ hy) trivial hS).mono fun _ _ hr=>ag2 hs hK hr
variable{px py qx qy rx ry:Ex}{i' j' k':Nat}
end
theorem aiM{w0 w1:World}{l:List (Nat×Obj)}(hb1:Below w0.heap.size w0 w1)(hk:∀p∈l,w1.heap[p.1]? =some p.2/\w0.heap.size<=p.1)(hn:(l.map (·.1)).Nodup)(hT:Tab w0)(htb:0<w0.heap.size):
 Calls Tryz.prog 6 #[.bool true] w1 (fun e W=>∃g,e=.returned (.pointer (some ⟨g,0,none⟩))/\Run (bs w0) g 0 [] l W):=by
 refine(aiC (P:=PT) (hT.below hb1) (Nat.lt_of_lt_of_le htb hb1.size) nlr).mono ?_;rintro e W⟨g,rfl,hs,hb,-⟩;exact⟨g,rfl,Run.start hb1 hk hn htb hs hb⟩
def CloE(e:Ex)(bits:Int)(j:Nat):Prop:=(∃v,DenR e v)/\FinE e/\bN (pw j) e<=4000000/\j<=11/\∃b,dB e (pw j)=some b/\fK b.lo b.hi bits=true
def aiN(w:World)(x:Ex)(bits:Int)(j:Nat)(e:Ending)(w':World):Prop:=∃k b V,(k<=j/\dB x (pw k)=some b/\fK b.lo b.hi bits=true)/\e=.returned (.tuple #[V,.nilIface])/\Below w.heap.size w w'/\BlP (fun q=>w.heap.size<=q) w' V b
theorem adX{P:Ex->Prop}{B N:Nat}{w:World}{g i j:Nat}{ns:List Nd}{x:Ex}{bits:Int}(hs:St P B N w g ns)(hx:Is ns x i)(hc:CloE x bits j)(hb:0<=bits/\bits<=1000000):
 Calls Tryz.prog 71 #[.pointer (some ⟨g,0,none⟩),.int .i64 (i:Int),.int .i64 bits,.int .i64 65536] w (agE w x bits j):=by
 obtain⟨⟨v,hv⟩,h1,h2,h3,h4⟩:=hc;exact aa5 hs.dag (acD hs.all) (vQ hs.all) (vR hs.all) hx hv h1 h2 h3 h4 hs.tab hb
theorem ag3{P:Ex->Prop}{B N:Nat}{w:World}{g i j:Nat}{ns:List Nd}{x:Ex}{bits q:Int}(hs:St P B N w g ns)(hx:Is ns x i)(hS:lK P x q)(hc:CloE x bits j)(hb:0<=bits/\bits<=1000000):
 Calls Tryz.prog 51 #[numV g i,.int .i64 bits] w (aiN w x bits j):=by
 obtain⟨w2,hw2,hb2,hs2,b1,b2⟩:=pro2 w (.cells #[.pointer (some ⟨g,0,none⟩),.int .i64 (i:Int)] 33) (.cells #[.bool false,.slice none 0 0,.int .i64 0,.bool false,.slice none 0 0,.int .i64 0] 92);obtain⟨c0,c1,-,-⟩:=aB b1;have HSG:=hdd (zP (hs.below hb2) hx hS);have HCL:Hid (∀w',Below w.heap.size w w'->Calls Tryz.prog 71 #[.pointer (some ⟨g,0,none⟩),.int .i64 (i:Int),.int .i64 bits,.int .i64 65536] w' (agE w' x bits j)):=hdd fun w' h=>adX (hs.below h) hx hc hb;have HB:=hdd hb2;have B2:=hdd b2;have HS2:=hdd hs2;have hnn:¬bits<0:=by omega
 clear hs hx hS hc hb hb2 b1 b2 hs2;go_enter Tryz.func51,Tryz.ntmps51
 go_wp2_with fail
 refine HSG.out.mono ?_;rintro e w3⟨rfl,hb3⟩;replace c0:=cbl c0 hb3;replace c1:=cbl c1 hb3;have HB3:=hdd (HB.out.trans (hb3.mono HB.out.size));have B3:=hdd (hbl B2.out hb3);have HS3:Hid (w.heap.size+2<=w3.heap.size):=hdd (by have:=HS2.out;have:=hb3.size;omega);have HC3:=hdd (HCL.out _ HB3.out);clear hb3 HSG HB B2 HS2 HCL hw2;go_wp2_with fail
 refine HC3.out.mono ?_;rintro e w4⟨k,bb,hk,hne,hnw,hb4,vb,rfl,hbal⟩;obtain⟨e1,A1,n1,k1,e2,A2,n2,k2,rfl,i1,i2⟩:=id hbal;obtain⟨w5,hw5,hb5,hs5,b5⟩:=pro1 w4 (.cells #[.bool e1,.slice A1 n1 k1,.int .i64 bb.lo.exp,.bool e2,.slice A2 n2 k2,.int .i64 bb.hi.exp] 92);have hb35:=hb4.trans (hb5.mono hb4.size);have B5:=hbl B3.out hb35;obtain⟨x0,x1,x2,x3,x4,x5⟩:=aG b5;obtain⟨hR,hF⟩:=aV (x:=bb) (HB3.out.trans (hb35.mono HB3.out.size)) (g:=w.heap.size+1) (by omega) B5 (i1.below hb5) (i2.below hb5) (fun b hb=>by have:=HS3.out;omega);have HR:=hdd hR.out;have hFF:=hdd hF;have HK:=hdd (And.intro hk (And.intro hne hnw));obtain⟨p0,p1,p2,p3,p4,p5⟩:=aG B5;obtain⟨q0,q1,q2,q3,q4,q5⟩:=fC B5;clear hR hF B5 hb35 hb4 hb5 hs5 b5 hbal i1 i2 hk hne hnw HC3 HB3 B3;go_wp2;obtain⟨f0,f1,f2,f3,f4,f5⟩:=aG hFF.out;unfold put6 at f0 f1 f2 f3 f4 f5;obtain⟨h1,V,h2,h3⟩:=HR.out;refine bodyPost_ret (v:=.tuple #[.agg #[_,_,_,_,_,_],_]) (by simp[results,Tryz.results51,go_sem,f0,f1,f2,f3,f4,f5];first|exact⟨⟨rfl,rfl,rfl,rfl,rfl,rfl⟩,rfl⟩|rfl) rfl ?_
 injection h2 with h2;exact⟨k,bb,V,HK.out,by rw[<-h2],h1,h3⟩
def akN(w:World)(z:Int)(e:Ending)(w':World):Prop:=Below w.heap.size w w'/\∃V,e=.returned (.tuple #[V,.nilIface])/\IntP (fun q=>w.heap.size<=q) w' V z
theorem aiO{x:Ex}{bits:Int}{j k:Nat}{b:Bl}(hc:CloE x bits j)(hk:k<=j)(hn:dB x (pw k)=some b):Okb b:=by
 obtain⟨-,h1,h2,h3,-⟩:=hc;have hp:=qG hk h3;have hp1:(1:Int)<=pw k:=(qG (azX k) (azW hk h3)).1;have hp2:pw k<=65536:=Int.le_trans hp.2.1 hp.2.2;exact(xD (by omega) (Int.le_trans (jX hp1 hp.2.1 x) h2) (kN hp1 h1 hn)).1
theorem aj1(h:bits z.natAbs<=1000):SmD (mkDy z 0):=pJ (by omega) (by decide)
theorem adY{P:Ex->Prop}{B N:Nat}{w:World}{g i j:Nat}{ns:List Nd}{x:Ex}{q:Int}(hs:St P B N w g ns)(hx:Is ns x i)(hS:lK P x q)(hc:CloE x 1 j)
 (hf:∀k b,k<=j->dB x (pw k)=some b->fK b.lo b.hi 1=true->b.hi.exp<0/\flrD b.hi=z/\cmpD (mkDy z 0) b.lo<0) (hz:bits z.natAbs<=1000):
 Calls Tryz.prog 30 #[numV g i] w (akN w z):=by
 obtain⟨w2,hw2,hb2,hs2,b1,b2⟩:=pro2 w (.cells #[.pointer (some ⟨g,0,none⟩),.int .i64 (i:Int)] 33) (.cells #[Value.bool false,.slice none 0 0] 75);obtain⟨c0,c1,-,-⟩:=aB b1;have HN:=hdd (ag3 (hs.below hb2) hx hS hc (by decide));have HB:=hdd hb2;have B2:=hdd b2;have HS2:=hdd hs2;have HT2:=hdd (hs.tab.below hb2);have HF:=hdd hf;have HC:=hdd hc;have HZ:=hdd hz;clear hs hx hS hc hf hb2 b1 b2 hs2 hz;go_enter Tryz.func30,Tryz.ntmps30
 go_wp2_with fail
 refine HN.out.mono ?_;rintro e w3⟨k,bb,V,⟨hk,hne,hnw⟩,rfl,hb3,hbal⟩;have hok:=aiO HC.out hk hne;obtain⟨hf1,hf2,hf3⟩:=HF.out k bb hk hne hnw;obtain⟨e1,A1,n1,k1,e2,A2,n2,k2,rfl,i1,i2⟩:=id hbal;obtain⟨w4,hw4,hb4,hs4,b4⟩:=pro1 w3 (.cells #[.bool e1,.slice A1 n1 k1,.int .i64 bb.lo.exp,.bool e2,.slice A2 n2 k2,.int .i64 bb.hi.exp] 92);obtain⟨x0,x1,x2,x3,x4,x5⟩:=aG b4;have hb24:=hb3.trans (hb4.mono hb3.size);have HB4:=hdd (HB.out.trans (hb24.mono HB.out.size));have HT4:=hdd (HT2.out.below hb24);have B4:=hdd (hbl B2.out hb24);have HS4:Hid (w.heap.size+2<=w3.heap.size):=hdd (by have:=HS2.out;have:=hb3.size;omega);have HBL:=hdd (aaZ (show DyP _ w4 (.agg #[.bool e2,.slice A2 n2 k2,.int .i64 bb.hi.exp]) bb.hi from⟨_,_,_,_,rfl,i2.below hb4⟩) HT4.out hf1 hok.1.2);rw[hf2]at HBL;have HLO:=hdd (show DyP _ w4 (.agg #[.bool e1,.slice A1 n1 k1,.int .i64 bb.lo.exp]) bb.lo from⟨_,_,_,_,rfl,i1.below hb4⟩);have HSM:Hid (SmD bb.lo):=hdd hok.1.1.smD;have HCM:=hdd hf3;have HSZ:Hid (w3.heap.size<w4.heap.size):=hdd (by omega)
 clear hb3 hb4 hs4 b4 hb24 hbal i1 i2 hok hf1 hf2 hf3 hk hne hnw HN HB B2 HS2 HT2 HF HC hw2;go_wp2_with fail
 refine HBL.out.mono ?_;rintro e w5⟨hb5,v5,rfl,hz5⟩;obtain⟨bz,Az,nz,kz,rfl⟩:=hz5.shape;obtain⟨w6,hw6,hb6,hs6,b6⟩:=pro1 w5 (.cells #[.bool bz,.slice Az nz kz] 75);obtain⟨y0,y1,-,-⟩:=aB b6;have hb46:=hb5.trans (hb6.mono hb5.size);replace x0:=cbl x0 hb46;replace x1:=cbl x1 hb46;replace x2:=cbl x2 hb46;have HZ6:=hdd (hz5.below hb6);have HL6:=hdd (HLO.out.below hb46);have HT6:=hdd (HT4.out.below hb46);have HB6:=hdd (HB4.out.trans (hb46.mono HB4.out.size));have B6:=hdd (hbl B4.out hb46);have HS5:Hid (w4.heap.size<=w5.heap.size):=hdd hb5.size;have hbd:Below w6.heap.size w6 w6.drew:=(Below.refl _ _).drew;have HBD:=hdd hbd;have HMK:=hdd (bX (e:=0) (HZ6.out.below hbd) (HT6.out.below hbd) (azW HZ.out (by decide)) (by decide));clear hb5 hb6 hs6 hb46 b6 hz5 HBL HB4 B4 HT4 HLO x3 x4 x5 hbd hw4;go_wp2_with fail
 clear hw6;replace x0:=cbl x0 HBD.out;replace x1:=cbl x1 HBD.out;replace x2:=cbl x2 HBD.out;replace y0:=cbl y0 HBD.out;replace y1:=cbl y1 HBD.out;have hne:w5.heap.size≠w3.heap.size:=by have:=HSZ.out;have:=HS5.out;omega
 generalize hp:w3.heap.size=p at*;generalize hr:w5.heap.size=r at*
 go_region_held3 (fun w'=>w'.cell? ⟨p,0,none⟩=some (.bool e1)/\w'.cell? ⟨p,1,none⟩=some (.slice A1 n1 k1)/\w'.cell? ⟨p,2,none⟩=some (.int .i64 bb.lo.exp)/\w'.cell? ⟨r,0,none⟩=some (.bool bz)/\w'.cell? ⟨r,1,none⟩=some (.slice Az nz kz)) (go_keep)
  (first
  |(go_at_call 53
    refine HMK.out.mono ?_;rintro r w7⟨hb7,v7,hz7⟩;obtain⟨rfl,hz7⟩:=hz7;have HB7:=hdd (HBD.out.trans hb7);have x0:=cbl x0 hb7;have x1:=cbl x1 hb7;have x2:=cbl x2 hb7;have y0:=cbl y0 hb7;have y1:=cbl y1 hb7;have HCP:=hdd (sM (w:=w7) (hz7.weak (q:=(· <w7.heap.size)) fun _ _ h=>h) ((HL6.out.below HB7.out).weak (q:=(· <w7.heap.size)) fun _ _ h=>h) (fun _ h=>h) (fun _ h=>h) (aj1 HZ.out) HSM.out);obtain⟨b7,A7,n7,c7,rfl,-⟩:=id hz7;clear hb7 hz7)
  |(go_at_call 54
    refine HCP.out.mono ?_;rintro r w8⟨rfl,hb8⟩;have HB8:=hdd (HB7.out.trans (hb8.mono HB7.out.size));have x0:=cbl x0 hb8;have x1:=cbl x1 hb8;have x2:=cbl x2 hb8;have y0:=cbl y0 hb8;have y1:=cbl y1 hb8;clear hb8))
 have hlt:=HCM.out;have B8:=hbl B6.out HB8.out;obtain⟨HFF,hF⟩:=dC (HB6.out.trans (HB8.out.mono HB6.out.size)) (by omega) B8 (HZ6.out.below HB8.out) (g:=w.heap.size+1) (fun b hb=>by have:=HS4.out;have:=HSZ.out;have:=HS5.out;omega);obtain⟨d0,d1,d2,d3⟩:=aB B8;replace hF:=hdd hF;clear B8;go_wp2;obtain⟨f0,f1,-,-⟩:=aB hF.out;obtain⟨h1,V,h2,h3⟩:=HFF.out;refine bodyPost_ret (v:=.tuple #[.agg #[_,_],_]) (by simp[results,Tryz.results30,go_sem,f0,f1];first|exact⟨⟨rfl,rfl⟩,rfl⟩|rfl) rfl ?_;injection h2 with h2;exact⟨h1,V,by rw[<-h2],h3⟩
end
section
open Go.RowKit Go.Maps
open Re (rat ofI ofN)
open Bool renaming and_eq_true->azZ
variable{l m n:Nat}
inductive Sh where
 |leaf (n l:Nat)
 |add (a b:Sh)
 |mul (a b:Sh)
 |div (a b:Sh)
 |root (a:Sh)
 |lit (c:Ct) (k r:Nat)
def Sh.ct (K:Nat):Sh->Ct
 | .leaf n l=>⟨n,65536,n,l,1100⟩
 | .add a b=>jC 65536 (a.ct K) (b.ct K)
 | .mul a b=>akJ 65536 (a.ct K) (b.ct K)
 | .div a b=>akK 65536 K (a.ct K) (b.ct K)
 | .root a=>mZ 65536 (a.ct K)
 | .lit c _ _=>c
def Sh.cost:Sh->Nat
 | .leaf n l=>n+l
 | .add a b=>1+a.cost+b.cost
 | .mul a b=>a.cost+b.cost
 | .div a b=>a.cost+b.cost
 | .root a=>a.cost
 | .lit _ k _=>k
def Sh.rt:Sh->Nat
 | .leaf _ _=>0
 | .add a b=>a.rt+b.rt
 | .mul a b=>a.rt+b.rt
 | .div a b=>a.rt+b.rt
 | .root a=>a.rt+1
 | .lit _ _ r=>r
def Sh.top (K:Nat)(s:Sh):Bool:=decide (K<=15/\s.rt<=K/\s.cost<=1000000/\(s.ct K).s<=4000000/\max (s.ct K).u (s.ct K).l*2^K+1<=32768/\((max (s.ct K).u (s.ct K).l*2^K+2:Nat):Int)<=(s.ct K).W)
def Sh.ok (K:Nat):Sh->Bool
 | .leaf n l=>decide (n<=53/\l<=1000)
 | .add a b=>a.ok K&&b.ok K
 | .mul a b=>a.ok K&&b.ok K
 | .div a b=>a.ok K&&(b.ok K&&(b.top K&&decide (ctG K (b.ct K)<=(b.ct K).W)))
 | .root a=>a.ok K&&a.top K
 | .lit ..=>true
structure FitC(L:List Ex)(s:Sh)(e:Ex)(v:Re):Prop where
 vl:Vl L 65536 e v (s.ct L.length)
 cost:cK e<=s.cost
 gd:AllGd e
 rt:rtE e<=s.rt
def Fit(L:List Ex)(s:Sh)(e:Ex)(v:Re):Prop:=s.ok L.length=true->FitC L s e v
theorem aj2:(32*2^11:Int)=65536:=by decide
section
variable{L:List Ex}{s t:Sh}{a b:Ex}{x y z:Re}
theorem FitC.good (h:FitC L s a x)(ht:s.top L.length=true):Gd L.length 11 a x:=by
 obtain⟨h1,hr,h2,h3,h4,h5⟩:=of_decide_eq_true ht;have hv:=h.vl;rw[<-aj2]at hv;exact Gd.of hv (Nat.le_trans h.rt hr) (by omega) h1 (Nat.le_trans h.cost h2) h3 h4 h5
theorem Fit.add (h:Fit L s a x)(g:Fit L t b y):Fit L (.add s t) (.add a b) (x+y):=fun k=>by
 simp only[Sh.ok,azZ]at k;have h:=h k.1;have g:=g k.2;exact⟨Vl.add (by omega) h.vl g.vl,by have:=h.cost;have:=g.cost;simp only[cK,Sh.cost];omega,h.gd.add g.gd,by have:=h.rt;have:=g.rt;simp only[rtE,Sh.rt];omega⟩
theorem Fit.sub (h:Fit L s a x)(g:Fit L t b y):Fit L (.add s t) (.sub a b) (x-y):=fun k=>by
 simp only[Sh.ok,azZ]at k;have h:=h k.1;have g:=g k.2;exact⟨Vl.sub (by omega) h.vl g.vl,by have:=h.cost;have:=g.cost;simp only[cK,Sh.cost];omega,h.gd.sub g.gd,by have:=h.rt;have:=g.rt;simp only[rtE,Sh.rt];omega⟩
theorem Fit.root (h:Fit L s a x)(h0:0<=y)(hy:y*y=x)(hm:Ex.root a∈L):Fit L (.root s) (.root a) y:=fun k=>by
 simp only[Sh.ok,azZ]at k;have h:=h k.1;exact⟨Vl.root (by omega) h.vl h0 hy hm,by have:=h.cost;simp only[cK,Sh.cost];omega,h.gd.root (h.good k.2),by have:=h.rt;simp only[rtE,Sh.rt];omega⟩
theorem Fit.sgn {P:Ex->Prop}(h:Fit L s a x)(hs:(s.ok L.length&&s.top L.length)=true):lK P a (Re.sgn x):=by
 rw[azZ]at hs;exact ag0 ((h hs.1).good hs.2) (h hs.1).gd
end
theorem ag4{b:Nat}{x:Int}(hl:l+m=1074)(hv:fv b=x*((2^m:Nat):Int)):leafD b=mkDy x (-(l:Int)):=by
 unfold leafD;rw[hv];have:=aeX x (-(l:Int)) m;rwa[show-(l:Int)-(m:Int)=-1074 by omega]at this
theorem akO{x:Int}(h:x.natAbs<2^n):-p2 n<(x:Rat)*p2 (-(l:Int))/\(x:Rat)*p2 (-(l:Int))<p2 n:=by
 have e:=eX n;have h1:p2 (-(l:Int))<=1:=by rw[<-kK];exact iC (by omega)
 have h0:=bC (-(l:Int));have h2:(x:Rat)<p2 n/\-p2 n<(x:Rat):=by
  rw[e,<-Rat.intCast_natCast,<-Rat.intCast_neg];exact⟨Rat.intCast_lt_intCast.2 (by omega),Rat.intCast_lt_intCast.2 (by omega)⟩
 generalize p2 (-(l:Int))=u at*;generalize (x:Rat)=q at*;generalize p2 (n:Int)=m at*;have hm:0<m:=by grind
 have a1:0<=(m-q)*u:=Rat.mul_nonneg (by grind) (by grind);have a2:0<=(m+q)*u:=Rat.mul_nonneg (by grind) (by grind);have a3:0<=m*(1-u):=Rat.mul_nonneg (by grind) (by grind);have a4:0<(m-q)*u:=Rat.mul_pos (by grind) h0;have a5:0<(m+q)*u:=Rat.mul_pos (by grind) h0;constructor<;>grind
theorem Fit.dleaf {L:List Ex}{b:Nat}{x:Int}(hb:b<18446744073709551616)(hf:fin b)(hl:l+m=1074)(hv:fv b=x*((2^m:Nat):Int))(h:x.natAbs<2^n):Fit L (.leaf n l) (.leaf b) (rat ((x:Rat)*p2 (-(l:Int)))):=fun k=>by
 have k:=of_decide_eq_true k;have e:=ag4 hl hv;have er:rv (leafD b)=(x:Rat)*p2 (-(l:Int)):=by rw[e,jV]
 obtain⟨r1,r2⟩:=akO (l:=l) h;have h3:(leafD b).man≠0->-(l:Int)<=(leafD b).exp/\topD (leafD b)<=n:=fun hn=>⟨by rw[e]at hn|-;exact kZ hn,pI hn (by rw[er];exact r1) (by rw[er];exact r2)⟩;have h4:bits (leafD b).man.natAbs<=n:=by
  rw[e];exact Nat.le_trans (nO x _) ((aF _ _).2 h)
 have hu:jA b<=n:=by
  unfold jA;split
  . omega
  . rename_i hn
    have:=h3 hn;unfold topD at this;rw[if_neg hn]at this;omega
 have hl:jB b<=l:=by
  unfold jB;split
  . omega
  . rename_i hn;have:=h3 hn;omega
 have hv:=Vl.leaf (L:=L) (P:=65536) (M:=n) hf hb ⟨by rw[e];exact Canon.mk _ _,by omega,fun hn=>by have:=h3 hn;omega⟩ ⟨by rw[er];grind,by rw[er];grind⟩ hu hl;rw[er]at hv;exact⟨hv,by simp only[cK,Sh.cost];omega,AllGd.leaf b,Nat.le_refl _⟩
theorem Fit.leaf {L:List Ex}{b:Nat}{x:Int}(n:Nat)(hb:b<18446744073709551616)(hf:fin b)(hv:fv b=x*(U74:Int))(h:x.natAbs<2^n):Fit L (.leaf n 0) (.leaf b) (ofI x):=by
 obtain⟨u,hu,hU⟩:=iL;have:=Fit.dleaf (L:=L) (n:=n) (l:=0) (x:=x) hb hf (m:=u) (by omega) (by rw[hv,hU]) h;rwa[show-((0:Nat):Int)=0 by rfl,kK,Rat.mul_one]at this
end
section
open Ieee
open Int renaming natCast_mul->az0,neg_mul->az1,lt_or_le->az2
variable{r:Nat}
theorem aiP(j:Nat):∀m:Nat,m<2^53->j<=1990->∃c,c<infR/\mg c=m*2^j:=by
 induction j with
 |zero=>
  intro m hm _;exact⟨m,by unfold infR;omega,by rw[jM m hm,Nat.pow_zero,Nat.mul_one]⟩
 |succ j ih=>
  intro m hm hj;rcases Nat.lt_or_ge m (2^52)with h|h
  . obtain⟨c,h1,h2⟩:=ih (m*2) (by omega) (by omega)
    exact⟨c,h1,by rw[h2,Nat.pow_succ,Nat.mul_assoc,Nat.mul_comm 2]⟩
  . refine⟨(j+2)*2^52+(m-2^52),by unfold infR;omega,?_⟩
    rw[iI _ (by omega)];have e1:((j+2)*2^52+(m-2^52))/2^52=j+2:=by omega
    have e2:((j+2)*2^52+(m-2^52))%2^52=m-2^52:=by omega
    rw[e1,e2,show j+2-1=j+1 by omega,show 2^52+(m-2^52)=m by omega]
def RepF(N:Int):Prop:=∃c:Int,-(infR:Int)<c/\c<infR/\fvr c=N
theorem aj3{x:Int}(j:Nat)(h:x.natAbs<2^53)(hj:j<=1990):RepF (x*(2^j:Nat)):=by
 obtain⟨c,h1,h2⟩:=aiP j x.natAbs h hj;have hc:(mg c:Int)=(x.natAbs:Int)*(2^j:Nat):=by rw[h2,az0]
 rcases az2 x 0 with g|g
 . by_cases h0:c=0
   . subst h0
     rw[nR]at hc;refine⟨0,by unfold infR;omega,by unfold infR;omega,?_⟩;rw[dK,show x=-(x.natAbs:Int) by omega,az1,<-hc];rfl
   . refine⟨-(c:Int),by omega,by omega,?_⟩
     unfold fvr;rw[if_pos (by omega),show(-(c:Int)).natAbs=c by omega,hc,<-az1,show-(x.natAbs:Int)=x by omega]
 . refine⟨(c:Int),by omega,by omega,?_⟩
   unfold fvr;rw[if_neg (by omega),show((c:Int)).natAbs=c by omega,hc,show(x.natAbs:Int)=x by omega]
theorem aj4(h1:-(infR:Int)<sr r)(h2:sr r<infR):fin r:=by
 unfold sr at h1 h2;unfold fin;split at h1<;>simp_all<;>omega
theorem Near.exact {t:Nat}{N M:Int}(h:Near r N t)(hM:RepF M)(hN:N=M*(2^(t-1074):Nat)):fin r/\fv r=M:=by
 obtain⟨c,c1,c2,rfl⟩:=hM;have e:sr r=c:=by
  have h1:=h.2.1 c (by omega) (by omega) (by omega);have h2:=h.2.2 c (by omega) (by omega) (by omega);omega
 exact⟨aj4 (by omega) (by omega),by unfold fv;rw[e]⟩
theorem zY{k:Int}(h:k.natAbs<2^53):FloatKind.f64.nearest k<18446744073709551616/\fin (FloatKind.f64.nearest k)/\fv (FloatKind.f64.nearest k)=k*(2^1074:Nat):=by
 have e:FloatKind.f64.nearest k=double.nearest (decide (k<0)) k.natAbs 0:=rfl;rw[e];have hn:=fU (decide (k<0)) k.natAbs 0 1074 (by omega) (by omega) (k*(2^1074:Nat)) (by
  have:(0+((1074:Nat):Int)).toNat=1074:=by omega
  rw[this];generalize 2^1074=M;rcases az2 k 0 with g|g
  . rw[if_pos (by simpa using g),az0,<-az1,show-(k.natAbs:Int)=k by omega]
  . rw[if_neg (by simpa using g),az0,show(k.natAbs:Int)=k by omega])
 obtain⟨h1,h2⟩:=hn.exact (aj3 1074 h (by omega)) (by rw[show(2^(1074-1074):Nat)=1 by decide];omega);exact⟨double.nearest_lt ..,h1,h2⟩
end
section
open Go.RowKit
inductive SC where
 |v (x:Value)
 |id (n:Nat)
 |ptr (b off:Nat)
 |sl (b len:Nat)
inductive SW where
 |c (x:SC)
 |agg (l:List SC)
inductive SV where
 |w (x:SW)
 |tup (l:List SW)
section
variable(ν:Nat->Nat)
end
section
variable{ν ν':Nat->Nat}
end
structure Wk(E:Type) where
 G:Nat->List (E×Nat)->List (Nat×Obj)->World->Prop
 weak:∀{c c' K K' l l' w},G c K l w->c<=c'->(∀p∈K',p∈K)->(∀p∈l',p∈l)->(l'.map (·.1)).Nodup->G c' K' l' w
 heap:∀{c K l w},G c K l w->∀p∈l,w.heap[p.1]? =some p.2
 alloc:∀{c K l w},G c K l w->∀o,G c K ((w.heap.size,o)::l) (w.alloc o)
 write:∀{c K l w w' b o o'},G c K ((b,o)::l) w->w.grownBy w' (some b)->w'.heap[b]? =some o'->G c K ((b,o')::l) w'
 drew:∀{c K l w},G c K l w->G c K l w.drew
structure Blk where
 b:Nat
 T:TypeId
 init:List SC
 st:Option (Nat×List SC)
structure Spec(E:Type) where
 ops:Array Oper
 val:Nat->SV
 cr:Nat->Option Nat
 know:List (Nat×E)
 blocks:List Blk
 cost:Nat->Nat
 D:Nat->List Nat
 out:List (Nat×SV)
section
variable{E:Type}(S:Spec E)(W:Wk E){P:Program}
variable{S W}
section
variable{lst lst':Nat->Bool}{ν ν':Nat->Nat}{i:Nat}
end
section
variable{c0:Nat}{a0:Act}{ν0:Nat->Nat}{listed:Array Bool}{a:Act}{w:World}{i:Nat}
end
end
section
variable{P:Program}{w:World}{b off:Nat}{T:TypeId}{cs:List Value}
def splice(cs:List Value)(k:Nat)(vs:List Value):List Value:=cs.take k++vs++cs.drop (k+vs.length)
theorem aiQ(w:World)(row:Option Nat):w.grownBy w row:=⟨rfl,rfl,rfl,Nat.le_refl _,fun _ _ _=>rfl⟩
end
section
variable{E:Type}{S:Spec E}{W:Wk E}{P:Program}
variable{Q:Exit->Act->World->Prop}{c0:Nat}{a0:Act}{ν0:Nat->Nat}
/-! operands -/
section
variable{listed:Array Bool}{a:Act}{w:World}{i:Nat}{o:Oper}{ν:Nat->Nat}
end
end
section
variable{E:Type}{S:Spec E}{W:Wk E}{P:Program}{Q:Exit->Act->World->Prop}{c0:Nat}{a0:Act}{ν0:Nat->Nat}{i:Nat}{o:Oper}
end
end
section
open Go.RowKit Go.Maps
section
variable{S:Spec Ex}{w0:Bs}{g c0:Nat}{a0:Act}{ν0:Nat->Nat}{i:Nat}{Q:Exit->Act->World->Prop}
section
section
end
end
end
section
variable{s:Bs}{W:World}{g N i j k i' j' k':Nat}{K:List (Ex×Nat)}{l:List (Nat×Obj)}{x px py qx qy rx ry:Ex}{q:Int}
end
section
end
end
section
open Go.RowKit Go.Maps
open Re (rat ofI ofN)
section
variable{L:List Ex}{A B C D A' B' C':Ex}{a b c d a' b' c':Re}{i j k l i' j' k':Nat}
end
def fl(k:Int):Nat:=FloatKind.f64.nearest k
abbrev li(k:Int):Ex:=.leaf (fl k)
theorem aj5{k:Int}(h:k.natAbs<2^53):fl k<18446744073709551616/\fin (fl k)/\fv (fl k)=k*(U74:Int):=by
 obtain⟨h1,h2,h3⟩:=zY h;obtain⟨u,hu,hU⟩:=iL;exact⟨h1,h2,by rw[hU,hu];exact h3⟩
theorem xM{L:List Ex}{k:Int}(n:Nat)(h:k.natAbs<2^n)(hn:n<=53):Fit L (.leaf n 0) (li k) (rat (k:Rat)):=by
 obtain⟨h1,h2,h3⟩:=aj5 (k:=k) (Nat.lt_of_lt_of_le h (Nat.pow_le_pow_right (by omega) hn));exact Fit.leaf n h1 h2 h3 h
section
variable{L:List Ex}{s t:Sh}{a b:Ex}{p q:Rat}
end
end
end Go.Proofs.YtkadpnljocflaaaGreatDoor
namespace Go.Proofs
open Go.Shelf
def Tryz.lays169_ren:Go.Shelf.Ren:=⟨fun|169=>98|n=>n,fun|70=>152|9=>9|0=>0|72=>155|37=>153|127=>215|3=>3|5=>5|n=>n,fun|n=>n⟩
theorem Tryz.lays169:Go.Proofs.Lays.n169 Tryz.prog Tryz.lays169_ren:={
 mixed:=by kernel_rfl
 f169:=Tryz.func98.trans (congrArg some (by kernel_rfl))
 t0:=Tryz.underlying0
 a0:=Tryz.isAgg0
 z0:=Tryz.sizeOf0
 v0:=Tryz.zeroValue0
 t3:=Tryz.underlying3
 a3:=Tryz.isAgg3
 z3:=Tryz.sizeOf3
 v3:=Tryz.zeroValue3
 t9:=Tryz.underlying9
 a9:=Tryz.isAgg9
 z9:=Tryz.sizeOf9
 v9:=Tryz.zeroValue9
 t37:=Tryz.underlying153
 a37:=Tryz.isAgg153
 z37:=Tryz.sizeOf153
 v37:=Tryz.zeroValue153
 t70:=Tryz.underlying152
 a70:=Tryz.isAgg152
 z70:=Tryz.sizeOf152
 v70:=Tryz.zeroValue152
 t72:=Tryz.underlying155
 a72:=Tryz.isAgg155
 z72:=Tryz.sizeOf155
 v72:=Tryz.zeroValue155
 t127:=Tryz.underlying215
 a127:=Tryz.isAgg215
 z127:=Tryz.sizeOf215
 v127:=Tryz.zeroValue215}
theorem Tryz.Builder_Extra_169:Builder.Extra Tryz.prog Tryz.lays169_ren:={
 sizeBuilder:=by kernel_rfl
 liesBuilder:=by kernel_rfl
 t5:=Tryz.underlying5
 a5:=Tryz.isAgg5
 z5:=Tryz.sizeOf5
 v5:=Tryz.zeroValue5
 infoByte:=by kernel_rfl
 cellsByte:=by kernel_rfl
 sizeByte:=by kernel_rfl
 neB5:=by decide}
open Go.RowKit in
theorem Tryz.Builder_String (B b:Nat)(l:List UInt8)(w:World)(h:Lib.IsBuilder 155 5 B b (Lib.byteCells l) w)(h0:l≠[]):
 Calls Tryz.prog 98 #[.pointer (some ⟨b,0,none⟩)] w fun e w'=>e=.returned (.string ⟨l.toArray⟩)/\Below B w w':=Any.Builder_String Tryz.lays169 Tryz.Builder_Extra_169 B b l w h h0
def Tryz.lays283_ren:Go.Shelf.Ren:=⟨fun|283=>186|n=>n,fun|3=>3|9=>9|4=>4|n=>n,fun|n=>n⟩
theorem Tryz.lays283:Go.Proofs.Lays.n283 Tryz.prog Tryz.lays283_ren:={
 mixed:=by kernel_rfl
 f283:=Tryz.func186.trans (congrArg some (by kernel_rfl))
 t3:=Tryz.underlying3
 a3:=Tryz.isAgg3
 z3:=Tryz.sizeOf3
 v3:=Tryz.zeroValue3
 t4:=Tryz.underlying4
 a4:=Tryz.isAgg4
 z4:=Tryz.sizeOf4
 v4:=Tryz.zeroValue4
 t9:=Tryz.underlying9
 a9:=Tryz.isAgg9
 z9:=Tryz.sizeOf9
 v9:=Tryz.zeroValue9}
open Go.Lib in
theorem Tryz.internal_strconv_small (i:Nat)(h:i<100)(w:World):
 Calls Tryz.prog 186 #[.int .i64 i] w fun e w'=>e=.returned (.string ⟨(Lib.decDigits i).toArray⟩)/\w'=w:=Any.internal_strconv_small Tryz.lays283 i h w
end Go.Proofs
namespace Go.Proofs.YtkadpnljocflaaaGreatDoor
open Go.RowKit Go.Shelf
variable{b n:Nat}{w:World}
def dgS(n:Nat):ByteArray:=⟨(Lib.decDigits n).toArray⟩
theorem ag5(h:n<100)(w:World):Calls Tryz.prog 140 #[.int .u64 n,.int .i64 10] w (fun e w'=>e=.returned (.string (dgS n))/\w'=w):=by
 have hlt:(n:Int)<100:=by omega
 have hw:IntKind.i64.wrap (n:Int)=n:=by simp only[IntKind.wrap,show IntKind.i64.signed=true from rfl,Bool.true_and,decide_eq_true_eq,show(2:Int)^IntKind.i64.bits=18446744073709551616 from rfl,show(2:Int)^(IntKind.i64.bits-1)=9223372036854775808 from rfl];split<;>omega
 have HS:Hid (Calls Tryz.prog 186 #[.int .i64 n] w (fun e w'=>e=.returned (.string (dgS n))/\w'=w)):=hdd (Tryz.internal_strconv_small n h w);go_enter Tryz.func140,Tryz.ntmps140
 go_wp2_with fail
 refine HS.out.mono ?_;rintro e w'⟨rfl,rfl⟩;go_wp2;go_ret;exact⟨rfl,rfl⟩
theorem aiR(h:n<100)(w:World):Calls Tryz.prog 95 #[.int .u64 n,.int .i64 10] w (fun e w'=>e=.returned (.string (dgS n))/\w'=w):=by
 have HS:=hdd (ag5 h w);go_enter Tryz.func95,Tryz.ntmps95
 go_wp2_with fail
 refine HS.out.mono ?_;rintro e w'⟨rfl,rfl⟩;go_wp2;go_ret;exact⟨rfl,rfl⟩
theorem abE(hb:w.heap[b]? =some (.cells #[.pointer none,.slice none 0 0] 155 (0,0))):
 Calls Tryz.prog 141 #[.pointer (some ⟨b,0,none⟩)] w fun e w'=>e=.returned (.tuple #[])/\w'=w.setCell ⟨b,0,none⟩ (.pointer (some ⟨b,0,none⟩)):=by
 obtain⟨c0,c1,f0,f1⟩:=aB hb;have hsh:w.shape? b=some (155,2):=by simp[World.shape?,hb]
 obtain⟨j,hj,hjs⟩:∃j,Tryz.prog.info? 155=some j/\j.size=2:=⟨_,rfl,by kernel_rfl⟩;go_enter Tryz.func141,Tryz.ntmps141
 have hu:=run_underlying Tryz.underlying152;go_wp2;rw[Lib.run_to_unsafe w ⟨b,0,none⟩ Tryz.underlying152 Tryz.underlying261 hj (by rw[hjs];decide) hsh (Nat.zero_lt_succ 1)];simp only[Result.andThen];rw[Oper.upon_value];go_wp2;rw[run_callFunc_extern Tryz.func190 (by kernel_rfl) (by kernel_rfl) (by kernel_rfl) (e:=Extern.AbiNoEscape.same) (by kernel_rfl)];rw[Lib.run_noEscape];simp only[Result.andThen];rw[Oper.upon_value];go_wp2;rw[Lib.run_from_unsafe w ⟨b,0,none⟩ Tryz.underlying261 Tryz.underlying152 hj hsh (by kernel_rfl)];simp only[Result.andThen];rw[Oper.upon_value];go_wp2
 go_end0
 exact⟨rfl,rfl⟩
theorem aiS:(Tryz.prog.info? 5).map (fun i=>(i.zero,i.size,i.bytes))=some (some (.int .u8 0),1,1):=by kernel_rfl
theorem ag6{B:Nat}{s:ByteArray}(hB:B<=b)(hb:w.heap[b]? =some (.cells #[.pointer none,.slice none 0 0] 155 (0,0)))(hs:s.size<=1000):
 Calls Tryz.prog 96 #[.pointer (some ⟨b,0,none⟩),.string s] w fun e w'=>e=.returned (.tuple #[.int .i64 s.size,.nilIface])/\Lib.IsBuilder 155 5 B b (Lib.strCells s) w'/\Below B w w':=by
 obtain⟨i0,hi,hz0,hz1,hz2⟩:=info_parts aiS;have HC:=hdd (abE hb);have hlt:b<w.heap.size:=(Array.getElem?_eq_some_iff.1 hb).1;have hbk:=(set2 hb (.pointer (some ⟨b,0,none⟩)) (.slice none 0 0));have hbk':(w.setCell ⟨b,0,none⟩ (.pointer (some ⟨b,0,none⟩))).heap[b]? =some (.cells #[.pointer (some ⟨b,0,none⟩),.slice none 0 0] 155 (0,0)):=by
  have h':w.heap[b]=.cells #[.pointer none,.slice none 0 0] 155 (0,0):=(Array.getElem?_eq_some_iff.1 hb).2;simp[World.setCell,hlt,Array.getElem_modify,h']
 have hb1:Below B w (w.setCell ⟨b,0,none⟩ (.pointer (some ⟨b,0,none⟩))):=(Below.refl B w).setCell (p:=⟨b,0,none⟩) hB _;have HB1:=hdd hb1;have HBK:=hdd hbk';have HSZ:Hid (B<=w.heap.size):=hdd (by omega);clear hb1 hbk hbk' hb;go_enter Tryz.func96,Tryz.ntmps96
 go_wp2_with fail
 refine HC.out.mono ?_;rintro e w1⟨rfl,rfl⟩;generalize w.setCell ⟨b,0,none⟩ (.pointer (some ⟨b,0,none⟩))=w1 at*;obtain⟨c0,c1,f0,f1⟩:=aB HBK.out;have hown:w1.ownsRow B 5 1 (.slice none 0 0) 0 []:=⟨rfl,Or.inl ⟨rfl,rfl⟩⟩;go_wp2_with (at_builtin;refine Lib.wpList_append_own_string _ rfl _ _ 153 9 rfl B 5 i0 Tryz.underlying153 Tryz.underlying9 hi hz0 hz1 hz2 _ _ _ rfl hown s rfl ?c3 ?c4 ?c5 ?_)
 case c3=>unfold maxLen;omega
 case c4=>omega
 case c5=>have:=HB1.out.size;have:=HSZ.out;omega
 intro v' w2 hown' hgrow _;have hb2:w2.heap[b]? =some (.cells #[.pointer (some ⟨b,0,none⟩),.slice none 0 0] 155 (0,0)):=by
  rw[hgrow.block b (Nat.lt_of_lt_of_le hlt HB1.out.size) (by simp[Value.ownBlock])];exact HBK.out
 obtain⟨d0,d1,g0,g1⟩:=aB hb2;obtain⟨ao,n',cap,rfl⟩:∃ao n' cap,v'=.slice ao n' cap:=by
  rcases hown'.2 with ⟨hv,_⟩|⟨g,cap,cur,hv,_⟩
  . exact⟨_,_,_,hv⟩
  . exact⟨_,_,_,hv⟩
 have HF:=hdd (And.intro (Lib.BuilderAt.put (T:=155) (e:=5) hB hb2 (bs':=Lib.strCells s) (by simpa[Lib.strCells_length]using hown') (by decide)) ((HB1.out.grown hgrow (by have:=HB1.out.size;have:=HSZ.out;omega) (fun k hk=>by simp[Value.ownBlock]at hk)).setCell (p:=⟨b,1,none⟩) hB (.slice ao n' cap)));clear hown' hgrow hown hb2;go_wp2
 go_ret2
 exact⟨rfl,Or.inr HF.out.1,HF.out.2⟩
end Go.Proofs.YtkadpnljocflaaaGreatDoor
