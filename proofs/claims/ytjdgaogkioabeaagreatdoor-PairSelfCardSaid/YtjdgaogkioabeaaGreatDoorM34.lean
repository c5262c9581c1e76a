/- A part of the proof: contracts of functions and plain laws (MnB, TuD, ArG, ArF, PrA, PrB, PrR, AlvP). -/
import Derived.Test.YtjdgaogkioabeaaGreatDoorM33
import Derived.Deep.AppendLies
import Derived.Test.YtjdgaogkioabeaaGreatDoorM32
import Derived.Test.YtjdgaogkioabeaaGreatDoorM20
import Derived.Test.YtjdgaogkioabeaaGreatDoorM18
import Derived.Test.YtjdgaogkioabeaaGreatDoorM19
import Derived.Laws.StructEq
import Derived.Test.YtjdgaogkioabeaaGreatDoorM11
import Derived.Test.YtjdgaogkioabeaaGreatDoorM08
import Derived.Test.YtjdgaogkioabeaaGreatDoorM16
import Derived.WalkKit
import Derived.Laws.NewFold
import Derived.IntWalk
set_option linter.unusedVariables false
set_option linter.unusedSimpArgs false
set_option maxHeartbeats 25600000
set_option maxRecDepth 100000
namespace Go.Proofs.YtjdgaogkioabeaaGreatDoor
open Go.RowKit Go.Maps Go.Stop Go.Extern
open Go.Act renaming put->bj6
open List renaming setIfInBounds_toArray->bjZ,sublist_append_right->bj0,set_cons_zero->bj1,set_cons_succ->bj2,mem_append_right->bj4,length_append->bj7,mem_cons_self->bj8
open List.Sublist renaming append->bj3,refl->bj5
variable{Q:List (Ex×Nat)->List (Nat×Nat)->Prop}{c r:Nat}
def rH(f:FuncId)(g d:Nat)(av:Array Value)(K0:List (Ex×Nat))(Post:List (Ex×Nat)->List (Nat×Obj)->Ending->Prop):Prop:=
 ∀(s:Bs) (N:Nat) (K:List (Ex×Nat)) (l:List (Nat×Obj)) (W:World),Run s g N K l W->N+d<=20000->(∀p∈K0,p∈K)->Calls Tryz.prog f av W (fun e W'=>∃K1 l1,Post K1 l1 e/\Run s g (N+d) (K1++K) (l1++l) W')
section
variable{s:Bs}{g N n sz:Nat}{K:List (Ex×Nat)}{L lr:List (Nat×Obj)}{W:World}{v:Value}{xs:List Value}{T:TypeId}
theorem ahE{ops:Array Oper}{rest:List Oper}{o:Oper}{a:Act}{Q:Exit->Act->World->Prop}{Ts:TypeId}{z:Value}{bytes b:Nat}{news:List Value}
 (und:Tryz.prog.underlying Ts=some (.slice T)) (info:(Tryz.prog.info? T).map (fun i=>(i.zero,i.size,i.bytes))=some (some z,sz,bytes)) (hz:z.cells.size=sz) (h0:0<sz) (hO:OwnR T sz v n xs lr) (hR:Run s g N K (lr++L) W) (hb:W.heap[b]? =some (.cells news.toArray T))
 (hl:news.length=sz) (h1:∀u∈news,u.oneCell'=true) (hn:n<=1000) (hby:bytes<=1000) (hgd:o.guard=none) (sl x:Operand) (ho:o.op=.call {callee:=.builtin .append,args:=#[sl,x],argTypes:=#[Ts,Ts]}) (hs:a.eval sl=v) (c:Nat) (hx:a.eval x=.slice (some ⟨b,0,none⟩) 1 c)
 (h:∀r cap lr' w',OwnR T sz (.slice (some ⟨r,0,none⟩) (n+1) cap) (n+1) (xs++news) lr'->Run s g N K (lr'++L) w'->wpList Tryz.prog ops Q rest (a.put o.dst (.slice (some ⟨r,0,none⟩) (n+1) cap)) w'):wpList Tryz.prog ops Q (o::rest) a W:=by
 obtain⟨i,hi,i0,i1,i2⟩:=info_parts info;have h4:(n+1)*bytes<=1001*1000:=Nat.mul_le_mul (by omega) hby;exact wpList_append_lies _ hgd sl x Ts ho 0 T i z sz bytes und hi i0 i1 i2 hz h0 v n xs hs (hO.own hR) ⟨b,0,none⟩ 1 c news hx (by omega) (World.news_of_block hb) h1 (by decide) (by unfold maxLen;omega) (by omega) (Nat.zero_le _) _ rfl fun r cap w' o1 o2 o3 _=>by
  obtain⟨lr',p,q⟩:=hO.grow hR o1 o2 o3;exact h r cap lr' w' p q
theorem ad4{b:Nat}{T:TypeId}:∀(vs pre rest post:List Value) (w:World),w.heap[b]? =some (.cells (pre++(rest++post)).toArray T (0,0))->rest.length=vs.length->(fC w b pre.length vs).heap[b]? =some (.cells (pre++(vs++post)).toArray T (0,0))
 |[],pre,[],_,w,h,_=>h
 |[],_,_::_,_,_,_,e=>by simp at e
 |_::_,_,[],_,_,_,e=>by simp at e
 |v::vs,pre,r::rest,post,w,h,e=>by
  have h1:=lJ (k:=pre.length) (v:=v) h;have e1:(pre++(r::rest++post)).set pre.length v=(pre++[v])++(rest++post):=by simp
  rw[e1]at h1;have h2:=ad4 vs (pre++[v]) rest post _ h1 (by simpa using e);rw[List.append_assoc]at h2;rw[bj7,List.length_singleton]at h2;exact h2
theorem OwnR.frz (h:OwnR T sz (.slice (some ⟨r,0,none⟩) n c) n xs lr)(hR:Run s g N K (lr++L) W)(k:Nat):W.frozen? ⟨r,k,none⟩=false:=by
 rcases h.2 with ⟨e,-⟩|⟨r',cap,cur,e,rfl,-⟩
 . simp at e
 . simp only[Value.slice.injEq,Option.some.injEq,Addr.mk.injEq]at e
   obtain⟨⟨rfl,-⟩,-,-⟩:=e;exact frzI (hR.at (bj8 ..)) k
theorem OwnR.sets {vs:List Value}(h:OwnR T sz (.slice (some ⟨r,0,none⟩) n c) n xs lr)(hR:Run s g N K (lr++L) W)(hl:vs.length=xs.length):∃lr',OwnR T sz (.slice (some ⟨r,0,none⟩) n c) n vs lr'/\Run s g N K (lr'++L) (fC W r 0 vs):=by
 rcases h.2 with ⟨e,-⟩|⟨r',cap,cur,e,rfl,h1,h2,h3,h4⟩
 . simp at e
 . simp only[Value.slice.injEq,Option.some.injEq,Addr.mk.injEq]at e
   obtain⟨⟨rfl,-⟩,-,rfl⟩:=e;have hr:=hR.at (bj8 ..);have e:cur=(xs++cur.toList.drop (n*sz)).toArray:=by rw[<-h4,List.take_append_drop]
   have hs:=ad4 vs [] xs (cur.toList.drop (n*sz)) W (by rw[List.nil_append,<-e];exact hr) hl.symm;have hx:=h.1;refine⟨[(r,.cells (vs++cur.toList.drop (n*sz)).toArray T)],⟨by omega,Or.inr ⟨r,c,_,rfl,rfl,h1,h2,?_,?_⟩⟩,Run.write hR (dQ vs 0 W) hs⟩
   . rw[e]at h3;simp only[List.size_toArray,bj7]at h3|-;omega
   . show(vs++cur.toList.drop (n*sz)).take (n*sz)=vs
     rw[<-hx,<-hl,List.take_left'];rfl
end
theorem ahF:Tryz.prog.underlying 47=some (.slice 36):=by kernel_rfl
theorem ad5:(Tryz.prog.info? 36).map (fun i=>(i.zero,i.size,i.bytes))=some (some (.agg #[.pointer none,.int .i64 0,.pointer none,.int .i64 0]),4,32):=by kernel_rfl
theorem yC{a:Nat}(h:FlOk a):(FloatKind.f64.format.order a a==some Ordering.eq)=true:=by
 rw[jW h.2.num h.2.num];exact decide_eq_true rfl
def RowQ(g:Nat)(Q:List (Ex×Nat)->List (Nat×Nat)->Prop)(K1:List (Ex×Nat))(l1:List (Nat×Obj))(e:Ending):Prop:=∃v ps,Q K1 ps/\e=.returned (.tuple #[v,.nilIface])/\OwnR 36 4 v ps.length (spL g ps) l1
section
variable{g i j k l ca cb cc i' j' k' l' ca' cb' cc':Nat}{kd kd':Int}{A1 A2 B1 B2 C1 C2 D1 D2:Ex}{K0 KA KB:List (Ex×Nat)}
theorem afS{w:World}(h:wS ca cb cc):Calls Tryz.prog 36 #[curV 2 ca cb cc,curV 2 ca cb cc] w (RetV w (.bool true)):=by
 obtain⟨w2,hw2,hb2,hs2,b1,b2⟩:=pro2 w (curO 2 ca cb cc) (curO 2 ca cb cc);obtain⟨c0,c1,c2,c3⟩:=aG b1;obtain⟨d0,d1,d2,d3⟩:=aG b2;have e1:=yC h.1;have e2:=yC h.2.1;have e3:=yC h.2.2.1;have HB:=hdd hb2;have H1:Hid (∀w,Calls Tryz.prog 43 #[curV 2 ca cb cc] w (RetV w .nilIface)):=hdd fun w=>agJ h.1 h.2.1 h.2.2.1 h.2.2.2;clear hb2 hs2 h;go_enter Tryz.func36,Tryz.ntmps36
 go_wp2_with fail
 refine(H1.out _).mono ?_;rintro e w3⟨rfl,hb⟩;have HB3:=hdd (HB.out.trans (hb.mono HB.out.size));have b1:=hbl b1 hb;have b2:=hbl b2 hb;obtain⟨c0,c1,c2,c3⟩:=aG b1;obtain⟨d0,d1,d2,d3⟩:=aG b2;clear hb hw2;go_wp2_with fail
 refine(H1.out _).mono ?_;rintro e w4⟨rfl,hb⟩;have HB4:=hdd (HB3.out.trans (hb.mono HB3.out.size));have b1:=hbl b1 hb;have b2:=hbl b2 hb;obtain⟨c0,c1,c2,c3⟩:=aG b1;obtain⟨d0,d1,d2,d3⟩:=aG b2;clear hb;go_wp2;go_ret;exact⟨rfl,HB4.out⟩
theorem ad6{c1 c2 c3:Int}(h1:iK PT A1 A2 D1 D2 c1)(h2:iK PT C1 C2 B1 B2 c2)(h3:iK PT A1 A2 C1 C2 c3)(hB:∀p∈[(A1,i),(A2,j),(B1,k),(B2,l),(C1,i'),(C2,j'),(D1,k'),(D2,l')],p∈K0)
 (hQ:∀K1 ps,ps.length=(c1==0).toNat+(c2==0).toNat->Q K1 ps):
 rH 24 g 6 #[aN g kd ca cb cc i j k l,aN g kd' ca' cb' cc' i' j' k' l'] K0 (RowQ g Q):=fun s N K L W hR hN hK=>by
 obtain⟨w1,hw1,b1,b2,hR⟩:=hR.box2 (dD g kd ca cb cc i j k l) (dD g kd' ca' cb' cc' i' j' k' l');obtain⟨x0,x1,x2,x3,x4,x5,x6,x7,x8,x9,x10,x11⟩:=aF b1;obtain⟨z0,z1,z2,z3,z4,z5,z6,z7,z8,z9,z10,z11⟩:=aF b2;have HB:=hdd hB;have HN:=hdd hN;have HK:=hdd hK;have H2:=hdd h2;have H3:=hdd h3;have HQ:=hdd hQ;have HC:=hdd (hR.same (by omega) (hK _ (hB _ m0)) (hK _ (hB _ m1)) (hK _ (hB _ m6)) (hK _ (hB _ m7)) h1);clear b1 b2 hR h1 h2 h3 hB hN hK hQ;go_enter Tryz.func24,Tryz.ntmps24
 go_wp2_with fail
 refine HC.out.mono ?_;rintro e w2⟨rfl,hR⟩;replace hR:Run s g (N+2) K ([]++((W.heap.size+1,dD g kd' ca' cb' cc' i' j' k' l')::(W.heap.size,dD g kd ca cb cc i j k l)::L)) w2:=hR;obtain⟨x0,x1,x2,x3,x4,x5,x6,x7,x8,x9,x10,x11⟩:=aF (hR.at (bj4 _ m1));obtain⟨z0,z1,z2,z3,z4,z5,z6,z7,z8,z9,z10,z11⟩:=aF (hR.at (bj4 _ m0));have ho:=OwnR.nil 36 4
 cases e1:(c1==0)
 case' false=>
  have HC:=hdd (hR.same (by have:=HN.out;omega) (HK.out _ (HB.out _ m4)) (HK.out _ (HB.out _ m5)) (HK.out _ (HB.out _ m2)) (HK.out _ (HB.out _ m3)) H2.out);go_wp2_with fail
 case' true=>
  obtain⟨w3,hw3,b1,hR⟩:=hR.box1 (eG g i j);have HY:=hdd b1;have RA:=hdd (Run.rest (L1:=[_]) hR);have HO:=hdd ho;clear b1 hR ho;go_wp2_with (first
   |(at_builtin
     go_loud (
     refine ahE ahF ad5 rfl (by decide) HO.out RA.out HY.out rfl (by simp[Value.oneCell']) (by decide) (by decide) rfl _ _ rfl rfl 1 rfl ?_;intro r1 capr1 lr1 w4 ho hR;obtain⟨x0,x1,x2,x3,x4,x5,x6,x7,x8,x9,x10,x11⟩:=aF (hR.at (bj4 _ m1));obtain⟨z0,z1,z2,z3,z4,z5,z6,z7,z8,z9,z10,z11⟩:=aF (hR.at (bj4 _ m0));have HC:=hdd (hR.same (by have:=HN.out;omega) (HK.out _ (HB.out _ m4)) (HK.out _ (HB.out _ m5)) (HK.out _ (HB.out _ m2)) (HK.out _ (HB.out _ m3)) H2.out))))
 all_goals
  clear hR;go_wp2_with fail
  refine HC.out.mono ?_;rintro e w5⟨rfl,hR⟩;obtain⟨x0,x1,x2,x3,x4,x5,x6,x7,x8,x9,x10,x11⟩:=aF (hR.at (bj4 _ m1));obtain⟨z0,z1,z2,z3,z4,z5,z6,z7,z8,z9,z10,z11⟩:=aF (hR.at (bj4 _ m0))
  cases e2:(c2==0)
  case' false=>
   go_upto_region 12 with fail
  case' true=>
   obtain⟨w7,hw7,b1,hR⟩:=hR.box1 (eG g i' j');have HY:=hdd b1;have RA:=hdd (Run.rest (L1:=[_]) hR);have HO:=hdd ho;clear b1 hR ho;go_wp2_with (first
    |(at_builtin
      go_loud (
      refine ahE ahF ad5 rfl (by decide) HO.out RA.out HY.out rfl (by simp[Value.oneCell']) (by decide) (by decide) rfl _ _ rfl rfl 1 rfl ?_;intro r2 capr2 lr2 w8 ho hR
      skip)))
 case false.false=>
  have HF:Hid (∃K1 l1,RowQ g Q K1 l1 (.returned (.tuple #[.slice none 0 0,.nilIface]))/\Run s g (N+6) (K1++K) (l1++L) w5):=hdd ⟨[],_,⟨_,[],HQ.out [] [] (by rw[e1,e2];rfl),rfl,ho⟩,(hR.subl (bj3 (bj5 _) (bj0 [_,_] L))).more (by omega)⟩;clear hR ho;go_wp2
  go_ret2
  exact HF.out
 case true.false=>
  have HF:Hid (∃K1 l1,RowQ g Q K1 l1 (.returned (.tuple #[.slice (some ⟨r1,0,none⟩) 1 capr1,.nilIface]))/\Run s g (N+6) (K1++K) (l1++L) w5):=hdd ⟨[],_,⟨_,[(i,j)],HQ.out [] [(i,j)] (by rw[e1,e2];rfl),rfl,ho⟩,(hR.subl (bj3 (bj5 _) (bj0 [_,_] L))).more (by omega)⟩;clear hR ho;go_wp2
  go_ret2
  exact HF.out
 case false.true=>
  have HF:Hid (∃K1 l1,RowQ g Q K1 l1 (.returned (.tuple #[.slice (some ⟨r2,0,none⟩) 1 capr2,.nilIface]))/\Run s g (N+6) (K1++K) (l1++L) w8):=hdd ⟨[],_,⟨_,[(i',j')],HQ.out [] [(i',j')] (by rw[e1,e2];rfl),rfl,ho⟩,(hR.subl (bj3 (bj5 _) (bj0 [_,_] L))).more (by omega)⟩;clear hR ho
  go_ret2
  exact HF.out
 case true.true=>
  replace ho:OwnR 36 4 (.slice (some ⟨r2,0,none⟩) 2 capr2) 2 (spL g [(i,j),(i',j')]) lr2:=ho;have HO:=hdd ho;have RD:=hdd hR.drew;have HCM:=hdd (RD.out.cmpS (by have:=HN.out;omega) (HK.out _ (HB.out _ m0)) (HK.out _ (HB.out _ m1)) (HK.out _ (HB.out _ m4)) (HK.out _ (HB.out _ m5)) H3.out);clear hR ho x0 x1 x2 x3 x4 x5 x6 x7 x8 x9 x10 x11 z0 z1 z2 z3 z4 z5 z6 z7 z8 z9 z10 z11;obtain⟨_,e3,d0,d1,d2,d3⟩:=HO.out.spot (q:=(i,j)) (j:=0) RD.out rfl;cases e3
  obtain⟨_,e3,d4,d5,d6,d7⟩:=HO.out.spot (q:=(i',j')) (j:=1) RD.out rfl;cases e3
  simp only[Nat.zero_mul,Nat.zero_add,Nat.one_mul]at d0 d1 d2 d3 d4 d5 d6 d7
  go_region_held3 (fun w'=>w'.cell? ⟨r2,0,none⟩=some (.pointer (some ⟨g,0,none⟩))/\w'.cell? ⟨r2,1,none⟩=some (.int .i64 (i:Int))/\w'.cell? ⟨r2,2,none⟩=some (.pointer (some ⟨g,0,none⟩))/\w'.cell? ⟨r2,3,none⟩=some (.int .i64 (j:Int))/\w'.cell? ⟨r2,4,none⟩=some (.pointer (some ⟨g,0,none⟩))/\w'.cell? ⟨r2,5,none⟩=some (.int .i64 (i':Int))/\w'.cell? ⟨r2,6,none⟩=some (.pointer (some ⟨g,0,none⟩))/\w'.cell? ⟨r2,7,none⟩=some (.int .i64 (j':Int))) (go_keep)
   (first
   |(go_at_call 26
     with_reducible refine HCM.out.mono ?_
     rintro e w9⟨rfl,hRm⟩;have R9:=hdd hRm;obtain⟨_,e3,d0,d1,d2,d3⟩:=HO.out.spot (q:=(i,j)) (j:=0) R9.out rfl;cases e3
     obtain⟨_,e3,d4,d5,d6,d7⟩:=HO.out.spot (q:=(i',j')) (j:=1) R9.out rfl;cases e3
     simp only[Nat.zero_mul,Nat.zero_add,Nat.one_mul]at d0 d1 d2 d3 d4 d5 d6 d7;clear hRm))
  clear HCM RD
  cases e3:decide (0<c3)
  . have hR:=R9.out;have ho:=HO.out
    clear R9 d0 d1 d2 d3 d4 d5 d6 d7;have HF:Hid (∃K1 l1,RowQ g Q K1 l1 (.returned (.tuple #[.slice (some ⟨r2,0,none⟩) 2 capr2,.nilIface]))/\Run s g (N+6) (K1++K) (l1++L) w9):=hdd ⟨[],_,⟨_,[(i,j),(i',j')],HQ.out [] [(i,j),(i',j')] (by rw[e1,e2];rfl),rfl,ho⟩,(hR.subl (bj3 (bj5 _) (bj0 [_,_] L))).more (by omega)⟩;clear hR ho;go_wp2
    go_ret2
    exact HF.out
  . go_upto_region 18 with fail
    obtain⟨lr3,ho3,hR3⟩:=HO.out.sets (vs:=[.pointer (some ⟨g,0,none⟩),.int .i64 (i':Int),.pointer (some ⟨g,0,none⟩),.int .i64 (j':Int),.pointer (some ⟨g,0,none⟩),.int .i64 (i:Int),.pointer (some ⟨g,0,none⟩),.int .i64 (j:Int)]) R9.out rfl;have HF:=hdd (show∃K1 l1,RowQ g Q K1 l1 (.returned (.tuple #[.slice (some ⟨r2,0,none⟩) 2 capr2,.nilIface]))/\Run s g (N+6) (K1++K) (l1++L) (fC w9 r2 0 [.pointer (some ⟨g,0,none⟩),.int .i64 (i':Int),.pointer (some ⟨g,0,none⟩),.int .i64 (j':Int),.pointer (some ⟨g,0,none⟩),.int .i64 (i:Int),.pointer (some ⟨g,0,none⟩),.int .i64 (j:Int)]).drew from⟨[],lr3,⟨_,[(i',j'),(i,j)],HQ.out [] [(i',j'),(i,j)] (by rw[e1,e2];rfl),rfl,ho3⟩,((hR3.subl (bj3 (bj5 _) (bj0 [_,_] L))).more (by omega)).drew⟩);have hz:=HO.out.frz R9.out;have hS:(fun w'=>w'.cell? ⟨r2,0,none⟩=some (.pointer (some ⟨g,0,none⟩))/\w'.cell? ⟨r2,1,none⟩=some (.int .i64 (i:Int))/\w'.cell? ⟨r2,2,none⟩=some (.pointer (some ⟨g,0,none⟩))/\w'.cell? ⟨r2,3,none⟩=some (.int .i64 (j:Int))/\w'.cell? ⟨r2,4,none⟩=some (.pointer (some ⟨g,0,none⟩))/\w'.cell? ⟨r2,5,none⟩=some (.int .i64 (i':Int))/\w'.cell? ⟨r2,6,none⟩=some (.pointer (some ⟨g,0,none⟩))/\w'.cell? ⟨r2,7,none⟩=some (.int .i64 (j':Int))) w9.drew:=⟨d0,d1,d2,d3,d4,d5,d6,d7⟩
    clear HO R9 ho3 hR3;simp only[fC]at HF;refine wp_region_noPanic ?_;refine pW (fun w'=>w'.cell? ⟨r2,0,none⟩=some (.pointer (some ⟨g,0,none⟩))/\w'.cell? ⟨r2,1,none⟩=some (.int .i64 (i:Int))/\w'.cell? ⟨r2,2,none⟩=some (.pointer (some ⟨g,0,none⟩))/\w'.cell? ⟨r2,3,none⟩=some (.int .i64 (j:Int))/\w'.cell? ⟨r2,4,none⟩=some (.pointer (some ⟨g,0,none⟩))/\w'.cell? ⟨r2,5,none⟩=some (.int .i64 (i':Int))/\w'.cell? ⟨r2,6,none⟩=some (.pointer (some ⟨g,0,none⟩))/\w'.cell? ⟨r2,7,none⟩=some (.int .i64 (j':Int))) (fun n=>decide (n<9)&&n != 1&&n != 5&&n != 6) (by kernel_rfl) ?_;refine sN 1 (.slice (some ⟨r2,0,none⟩) 2 capr2) ?_ ?_
    . intro w';go_simp;all_goals rfl
    simp only[bj6,bjZ,bj1,bj2];refine sN 5 (.slice (some ⟨r2,0,none⟩) 2 capr2) ?_ ?_
    . intro w';go_simp;all_goals rfl
    simp only[bj6,bjZ,bj1,bj2];refine sN 6 (.pointer (some ⟨r2,0,none⟩)) ?_ ?_
    . intro w';go_simp;all_goals rfl
    simp only[bj6,bjZ,bj1,bj2];refine dO 0 (.slice (some ⟨r2,0,none⟩) 2 capr2) ?_ ?_ hS
    . intro w' hw;(try dsimp only at hw);go_split_ands;go_simp;all_goals rfl
    simp only[bj6,bjZ,bj1,bj2];refine dO 2 (.slice (some ⟨r2,0,none⟩) 2 capr2) ?_ ?_ hS
    . intro w' hw;(try dsimp only at hw);go_split_ands;go_simp;all_goals rfl
    simp only[bj6,bjZ,bj1,bj2];refine dO 3 (.pointer (some ⟨r2,4,none⟩)) ?_ ?_ hS
    . intro w' hw;(try dsimp only at hw);go_split_ands;go_simp;all_goals rfl
    simp only[bj6,bjZ,bj1,bj2];refine dO 4 ((.agg #[.pointer (some ⟨g,0,none⟩),.int .i64 (i':Int),.pointer (some ⟨g,0,none⟩),.int .i64 (j':Int)])) ?_ ?_ hS
    . intro w' hw;(try dsimp only at hw);go_split_ands;go_simp;all_goals rfl
    simp only[bj6,bjZ,bj1,bj2];refine dO 7 ((.agg #[.pointer (some ⟨g,0,none⟩),.int .i64 (i:Int),.pointer (some ⟨g,0,none⟩),.int .i64 (j:Int)])) ?_ ?_ hS
    . intro w' hw;(try dsimp only at hw);go_split_ands;go_simp;all_goals rfl
    simp only[bj6,bjZ,bj1,bj2];refine dO 8 (.pointer (some ⟨r2,0,none⟩)) ?_ ?_ hS
    . intro w' hw;(try dsimp only at hw);go_split_ands;go_simp;all_goals rfl
    simp only[bj6,bjZ,bj1,bj2];clear hS;refine iO 9 (by kernel_rfl) rfl fun K' hK=> ?_;go_simp;refine hK.out _ _ (fun h=>absurd h (by decide)) ?_;clear hK;refine iO 10 (by kernel_rfl) rfl fun K' hK=> ?_;go_simp;refine hK.out _ _ (fun h=>absurd h (by decide)) ?_;clear hK;refine iO 11 (by kernel_rfl) rfl fun K' hK=> ?_;go_simp;refine hK.out _ _ (fun h=>absurd h (by decide)) ?_;clear hK;refine sO (by kernel_rfl) ?_;refine NoPanic.normal ?_
    (try simp only[bj6,bjZ,bj1,bj2])
    generalize ((((((((w9.setCell ⟨r2,0,none⟩ (.pointer (some ⟨g,0,none⟩))).setCell ⟨r2,1,none⟩ (.int .i64 (i':Int))).setCell ⟨r2,2,none⟩ (.pointer (some ⟨g,0,none⟩))).setCell ⟨r2,3,none⟩ (.int .i64 (j':Int))).setCell ⟨r2,4,none⟩ (.pointer (some ⟨g,0,none⟩))).setCell ⟨r2,5,none⟩ (.int .i64 (i:Int))).setCell ⟨r2,6,none⟩ (.pointer (some ⟨g,0,none⟩))).setCell ⟨r2,7,none⟩ (.int .i64 (j:Int))).drew=wz at HF|-;clear d0 d1 d2 d3 d4 d5 d6 d7 hz;go_wp2
    go_ret2
    exact HF.out
end
def mU(g:Nat)(ov:Bool)(Q:List (Ex×Nat)->List (Nat×Nat)->Prop)(K1:List (Ex×Nat))(l1:List (Nat×Obj))(e:Ending):Prop:=∃v ps,Q K1 ps/\e=.returned (.tuple #[v,.bool ov,.nilIface])/\OwnR 36 4 v ps.length (spL g ps) l1
section
variable{g i j k l ca cb cc i' j' k' l' ca' cb' cc':Nat}{kd kd':Int}{A1 A2 B1 B2 C1 C2 D1 D2:Ex}{K0 KA KB:List (Ex×Nat)}
theorem yL{r s1 s2:Bool}(hW:FnOk 21 g 8 #[aN g 2 ca cb cc i j k l,aN g 2 ca' cb' cc' i' j' k' l'] K0 (fun _=>.tuple #[.bool r,.nilIface]) [])(hs1:FnOk 34 g 44 #[.pointer (some ⟨g,0,none⟩),aN g 2 ca cb cc i j k l,aN g 2 ca' cb' cc' i' j' k' l'] K0 (fun _=>.tuple #[.bool s1,.nilIface]) [])(hs2:FnOk 34 g 44 #[.pointer (some ⟨g,0,none⟩),aN g 2 ca' cb' cc' i' j' k' l',aN g 2 ca cb cc i j k l] K0 (fun _=>.tuple #[.bool s2,.nilIface]) [])(h1:FnOk 14 g 20 #[.pointer (some ⟨g,0,none⟩),aN g 2 ca cb cc i j k l] KA (fun _=>.nilIface) [])(h2:FnOk 14 g 20 #[.pointer (some ⟨g,0,none⟩),aN g 2 ca' cb' cc' i' j' k' l'] KB (fun _=>.nilIface) [])(hA:∀p∈KA,p∈K0)(hB:∀p∈KB,p∈K0)
 (hL:FnOk 20 g 21 #[.pointer (some ⟨g,0,none⟩),curV 2 ca cb cc,curV 2 ca' cb' cc'] [] (fun _=>.tuple #[.bool true,.nilIface]) []):
 FnOk 19 g 160 #[.pointer (some ⟨g,0,none⟩),aN g 2 ca cb cc i j k l,aN g 2 ca' cb' cc' i' j' k' l'] K0 (fun _=>.tuple #[.bool (r||s1||s2),.nilIface]) []:=fun s N K L W hR hN hK=>by
 obtain⟨w1,hw1,b1,b2,hR⟩:=hR.box2 (dD g 2 ca cb cc i j k l) (dD g 2 ca' cb' cc' i' j' k' l');obtain⟨x0,x1,x2,x3,x4,x5,x6,x7,x8,x9,x10,x11⟩:=aF b1;obtain⟨z0,z1,z2,z3,z4,z5,z6,z7,z8,z9,z10,z11⟩:=aF b2;obtain⟨w2,hw2,b3,hR⟩:=hR.box1 (ad1 g 2 ca cb cc i j k l 2 ca' cb' cc' i' j' k' l');have HC:=hdd (aaD h1 h2 hR m0 (by omega) (fun p hp=>hK p (hA p hp)) (fun p hp=>hK p (hB p hp)));have HL:=hdd hL;have HN:=hdd hN;have HK:=hdd hK;have HW:=hdd hW;have H1:=hdd hs1;have H2:=hdd hs2;clear hW hs1 hs2;have hst:=aL;clear b1 b2 b3 hR h1 h2 hA hB hL hN hK;go_enter Tryz.func19,Tryz.ntmps19
 go_wp2_with fail
 refine HC.out.mono ?_;rintro e w3⟨rfl,hR⟩;obtain⟨x0,x1,x2,x3,x4,x5,x6,x7,x8,x9,x10,x11⟩:=aF (hR.at m2);obtain⟨z0,z1,z2,z3,z4,z5,z6,z7,z8,z9,z10,z11⟩:=aF (hR.at m1);have HC:=hdd (HL.out.use hR (by have:=HN.out;omega) (fun p hp=>by cases hp));clear hR;go_wp2_with fail
 refine HC.out.mono ?_;rintro e w4⟨rfl,hR⟩;obtain⟨x0,x1,x2,x3,x4,x5,x6,x7,x8,x9,x10,x11⟩:=aF (hR.at m2);obtain⟨z0,z1,z2,z3,z4,z5,z6,z7,z8,z9,z10,z11⟩:=aF (hR.at m1);have HC:=hdd (HW.out.use hR (by have:=HN.out;omega) HK.out);clear hR;go_wp2_with fail
 refine HC.out.mono ?_;rintro e w5⟨rfl,hR⟩
 cases r
 case' true=>
  have HF:Hid (RtN s g (N+160) K L (fun _=>.tuple #[.bool (true||s1||s2),.nilIface]) [] (.returned (.tuple #[.bool true,.nilIface])) w5):=hdd (by exact RtN.fin (L1:=[_,_,_]) hR (by omega));clear hR;go_wp2
  go_ret2
  exact HF.out
 obtain⟨x0,x1,x2,x3,x4,x5,x6,x7,x8,x9,x10,x11⟩:=aF (hR.at m2);obtain⟨z0,z1,z2,z3,z4,z5,z6,z7,z8,z9,z10,z11⟩:=aF (hR.at m1);have HC:=hdd (H1.out.use hR (by have:=HN.out;omega) HK.out);clear hR;go_wp2_with fail
 refine HC.out.mono ?_;rintro e w6⟨rfl,hR⟩
 cases s1
 case' true=>
  have HF:Hid (RtN s g (N+160) K L (fun _=>.tuple #[.bool (false||true||s2),.nilIface]) [] (.returned (.tuple #[.bool true,.nilIface])) w6):=hdd (by exact RtN.fin (L1:=[_,_,_]) hR (by omega));clear hR;go_wp2
  go_ret2
  exact HF.out
 obtain⟨x0,x1,x2,x3,x4,x5,x6,x7,x8,x9,x10,x11⟩:=aF (hR.at m2);obtain⟨z0,z1,z2,z3,z4,z5,z6,z7,z8,z9,z10,z11⟩:=aF (hR.at m1);have HC:=hdd (H2.out.use hR (by have:=HN.out;omega) HK.out);clear hR;go_wp2_with fail
 refine HC.out.mono ?_;rintro e w7⟨rfl,hR⟩;have HF:Hid (RtN s g (N+160) K L (fun _=>.tuple #[.bool (false||false||s2),.nilIface]) [] (.returned (.tuple #[.bool s2,.nilIface])) w7):=hdd (by exact RtN.fin (L1:=[_,_,_]) hR (by omega));clear hR;go_wp2
 go_ret2
 exact HF.out
theorem abP{ov r:Bool}(hO:FnOk 19 g 160 #[.pointer (some ⟨g,0,none⟩),aN g 2 ca cb cc i j k l,aN g 2 ca' cb' cc' i' j' k' l'] K0 (fun _=>.tuple #[.bool ov,.nilIface]) [])
 (hL:FnOk 20 g 21 #[.pointer (some ⟨g,0,none⟩),curV 2 ca cb cc,curV 2 ca' cb' cc'] [] (fun _=>.tuple #[.bool true,.nilIface]) []) (hW:FnOk 21 g 8 #[aN g 2 ca cb cc i j k l,aN g 2 ca' cb' cc' i' j' k' l'] K0 (fun _=>.tuple #[.bool r,.nilIface]) [])
 (h0:r=true->∀K1,Q K1 []) (hJ:r=false->rH 24 g 6 #[aN g 2 ca cb cc i j k l,aN g 2 ca' cb' cc' i' j' k' l'] K0 (RowQ g Q)):
 rH 10 g 200 #[.pointer (some ⟨g,0,none⟩),aN g 2 ca cb cc i j k l,aN g 2 ca' cb' cc' i' j' k' l'] K0 (mU g ov Q):=fun s N K L W hR hN hK=>by
 obtain⟨w1,hw1,b1,b2,hR⟩:=hR.box2 (dD g 2 ca cb cc i j k l) (dD g 2 ca' cb' cc' i' j' k' l');obtain⟨x0,x1,x2,x3,x4,x5,x6,x7,x8,x9,x10,x11⟩:=aF b1;obtain⟨z0,z1,z2,z3,z4,z5,z6,z7,z8,z9,z10,z11⟩:=aF b2;have HC:=hdd (hO.use hR (by omega) hK);have HL:=hdd hL;have HW:=hdd hW;have H0:=hdd h0;have HJ:=hdd hJ;have HN:=hdd hN;have HK:=hdd hK;clear b1 b2 hR hO hL hW h0 hJ hN hK;go_enter Tryz.func10,Tryz.ntmps10
 go_wp2_with fail
 refine HC.out.mono ?_;rintro e w2⟨rfl,hR⟩;obtain⟨x0,x1,x2,x3,x4,x5,x6,x7,x8,x9,x10,x11⟩:=aF (hR.at m1);obtain⟨z0,z1,z2,z3,z4,z5,z6,z7,z8,z9,z10,z11⟩:=aF (hR.at m0);have HC:=hdd (HL.out.use hR (by have:=HN.out;omega) (fun p hp=>by cases hp));clear hR;go_wp2_with fail
 refine HC.out.mono ?_;rintro e w3⟨rfl,hR⟩;obtain⟨x0,x1,x2,x3,x4,x5,x6,x7,x8,x9,x10,x11⟩:=aF (hR.at m1);obtain⟨z0,z1,z2,z3,z4,z5,z6,z7,z8,z9,z10,z11⟩:=aF (hR.at m0);have HC:=hdd (HW.out.use hR (by have:=HN.out;omega) HK.out);clear hR;go_wp2_with fail
 refine HC.out.mono ?_;rintro e w4⟨rfl,hR⟩;obtain⟨x0,x1,x2,x3,x4,x5,x6,x7,x8,x9,x10,x11⟩:=aF (hR.at m1)
 cases r
 case' true=>
  have HF:Hid (∃K1 l1,mU g ov Q K1 l1 (.returned (.tuple #[.slice none 0 0,.bool ov,.nilIface]))/\Run s g (N+200) (K1++K) (l1++L) w4):=hdd ⟨[],[],⟨_,[],H0.out rfl [],rfl,OwnR.nil _ _⟩,(Run.rest (L1:=[_,_]) hR).more (by omega)⟩;clear hR;go_wp2;exact bodyPost_ret (v:=.tuple #[.slice none 0 0,.bool ov,.nilIface]) (by simp[results,Tryz.results10,go_sem]) rfl HF.out
 cases ov
 case' true=>
  obtain⟨x0,x1,x2,x3,x4,x5,x6,x7,x8,x9,x10,x11⟩:=aF (hR.at m1);obtain⟨z0,z1,z2,z3,z4,z5,z6,z7,z8,z9,z10,z11⟩:=aF (hR.at m0);have HC:=hdd (HJ.out rfl _ _ _ _ _ hR (by have:=HN.out;omega) HK.out);clear hR;go_wp2_with fail
  refine HC.out.mono ?_;rintro e w5⟨K1,l1,⟨v,ps,hq,rfl,ho⟩,hR⟩;obtain⟨pp,cp,rfl⟩:=ho.slice;have HF:Hid (∃K1 l1,mU g true Q K1 l1 (.returned (.tuple #[.slice pp ps.length cp,.bool true,.nilIface]))/\Run s g (N+200) (K1++K) (l1++L) w5):=hdd ⟨K1,l1,⟨_,ps,hq,rfl,ho⟩,(hR.subl (bj3 (bj5 l1) (bj0 [_,_] L))).more (by omega)⟩;clear hR hq ho HC;go_wp2;exact bodyPost_ret (v:=.tuple #[.slice pp ps.length cp,.bool true,.nilIface]) (by simp[results,Tryz.results10,go_sem]) rfl HF.out
 obtain⟨x0,x1,x2,x3,x4,x5,x6,x7,x8,x9,x10,x11⟩:=aF (hR.at m1);obtain⟨z0,z1,z2,z3,z4,z5,z6,z7,z8,z9,z10,z11⟩:=aF (hR.at m0);have HC:=hdd (HJ.out rfl _ _ _ _ _ hR (by have:=HN.out;omega) HK.out);clear hR;go_wp2_with fail
 refine HC.out.mono ?_;rintro e w5⟨K1,l1,⟨v,ps,hq,rfl,ho⟩,hR⟩;obtain⟨pp,cp,rfl⟩:=ho.slice;have HF:Hid (∃K1 l1,mU g false Q K1 l1 (.returned (.tuple #[.slice pp ps.length cp,.bool false,.nilIface]))/\Run s g (N+200) (K1++K) (l1++L) w5):=hdd ⟨K1,l1,⟨_,ps,hq,rfl,ho⟩,(hR.subl (bj3 (bj5 l1) (bj0 [_,_] L))).more (by omega)⟩;clear hR hq ho HC;go_wp2;exact bodyPost_ret (v:=.tuple #[.slice pp ps.length cp,.bool false,.nilIface]) (by simp[results,Tryz.results10,go_sem]) rfl HF.out
end
end Go.Proofs.YtjdgaogkioabeaaGreatDoor
namespace Go.Proofs.YtjdgaogkioabeaaGreatDoor
open Go.RowKit Go.Maps
open Re (rat ofI ofN)
variable{kd:Int}
def Wp(p0 p1:Nat)(a1 a2:Int):Prop:=Iw p0 a1/\Iw p1 a2/\a1.natAbs<=22/\a2.natAbs<=22
def trnP(a1 a2 x1 x2 b1 b2:Int):Int:=((x1-a1)*(b2-a2)-(x2-a2)*(b1-a1)).sign
def rndP(a1 a2 b1 b2 x1 x2:Int):Bool:=(cmpP a1 a2 b1 b2==0)||(cmpP x1 x2 a1 a2==0)||(cmpP x1 x2 b1 b2==0)||(trnP a1 a2 x1 x2 b1 b2==1)
section
variable{g i j k l m n wa wb wc p0 p1 q0 q1 x0 x1 y0 y1:Nat}{A B C a1 a2 b1 b2 c1 c2 d1 d2:Int}
theorem wcmp(h:Wp p0 p1 a1 a2)(h':Wp q0 q1 b1 b2):iK PT (.leaf p0) (.leaf p1) (.leaf q0) (.leaf q1) (cmpP a1 a2 b1 b2):=arS h.1 h.2.1 h'.1 h'.2.1 h.2.2.1 h.2.2.2 h'.2.2.1 h'.2.2.2
theorem arT(h:Wp p0 p1 a1 a2)(h':Wp q0 q1 b1 b2)(h'':Wp x0 x1 c1 c2):aa7 PT (.leaf p0) (.leaf p1) (.leaf x0) (.leaf x1) (.leaf q0) (.leaf q1) (trnP a1 a2 c1 c2 b1 b2):=by
 have f1:=h.1.fit (L:=[]) 5 (nlt h.2.2.1) (by decide);have f2:=h.2.1.fit (L:=[]) 5 (nlt h.2.2.2) (by decide);have f3:=h'.1.fit (L:=[]) 5 (nlt h'.2.2.1) (by decide);have f4:=h'.2.1.fit (L:=[]) 5 (nlt h'.2.2.2) (by decide);have f5:=h''.1.fit (L:=[]) 5 (nlt h''.2.2.1) (by decide);have f6:=h''.2.1.fit (L:=[]) 5 (nlt h''.2.2.2) (by decide);exact(((f5.rsub f1).rmul (f4.rsub f2)).rsub ((f6.rsub f2).rmul (f3.rsub f1))).sign 1 (by decide) (by push_cast;grind) (by kernel_rfl)
structure Crv(kd:Int)(wa wb wc:Nat)(A B C:Int):Prop where
 a:Iw wa A
 b:Iw wb B
 c:Iw wc C
 ba:A.natAbs<=6
 bb:B.natAbs<=6
 bc:C.natAbs<=36
 k:kd=1/\iJ wa wb wc\/kd=2/\wS wa wb wc/\(FloatKind.f64.format.order wc 0==some Ordering.eq)=false
def onP(kd A B C x y:Int):Int:=if kd=1 then(A*x+B*y-C).sign else((x-A)*(x-A)+(y-B)*(y-B)-C).sign
theorem Crv.on (h:Crv kd wa wb wc A B C)(hp:Wp p0 p1 a1 a2):FnOk 29 g 9 #[.pointer (some ⟨g,0,none⟩),curV kd wa wb wc,bE g i j] [(.leaf p0,i),(.leaf p1,j)] (fun _=>.tuple #[.int .i64 (onP kd A B C a1 a2),.nilIface]) []:=by
 rcases h.k with ⟨rfl,hl⟩|⟨rfl,hl,-⟩
 . exact ahD (li:=true) rfl (fun w=>zS hl) ((ae9 hl.1 hl.2.1 hl.2.2.1).upto (by omega)) (ao9 h.a h.b h.c hp.1 hp.2.1 h.ba h.bb h.bc hp.2.2.1 hp.2.2.2)
 . exact ahD (li:=false) rfl (fun w=>zT hl) (al2 hl) (am3 h.a h.b h.c hp.1 hp.2.1 h.ba h.bb h.bc hp.2.2.1 hp.2.2.2)
def okP(kd A B C a1 a2 b1 b2:Int):Bool:=onP kd A B C a1 a2==0&&onP kd A B C b1 b2==0&&(kd==2|| !(cmpP a1 a2 b1 b2==0))
theorem Crv.check (h:Crv kd wa wb wc A B C)(hp:Wp p0 p1 a1 a2)(hq:Wp q0 q1 b1 b2):FnOk 14 g 20 #[.pointer (some ⟨g,0,none⟩),aN g kd wa wb wc i j k l] [(.leaf p0,i),(.leaf p1,j),(.leaf q0,k),(.leaf q1,l)] (fun _=>chkA (okP kd A B C a1 a2 b1 b2)) []:=by
 refine afQ (fun w=> ?_) (h.on hp) (h.on hq) ?_
 . rcases h.k with ⟨rfl,hl⟩|⟨rfl,hl,-⟩
   . exact zS hl
   . exact zT hl
 . rcases h.k with ⟨rfl,hl⟩|⟨rfl,hl,h0⟩
   . exact Or.inr ⟨rfl,_,wcmp hp hq,by simp[okP]⟩
   . exact Or.inl ⟨rfl,h0,rfl⟩
theorem aqY(hp:Wp p0 p1 a1 a2)(hq:Wp q0 q1 b1 b2)(hx:Wp x0 x1 c1 c2):FnOk 79 g 13 #[bE g i j,bE g k l,bE g m n] [(.leaf p0,i),(.leaf p1,j),(.leaf q0,k),(.leaf q1,l),(.leaf x0,m),(.leaf x1,n)] (fun _=>.tuple #[.bool (rndP a1 a2 b1 b2 c1 c2),.nilIface]) []:=
 afR (wcmp hp hq) (wcmp hx hp) (wcmp hx hq) (arT hp hq hx)
theorem Crv.has (h:Crv 2 wa wb wc A B C)(hp:Wp p0 p1 a1 a2)(hq:Wp q0 q1 b1 b2)(hx:Wp x0 x1 c1 c2)(ok:okP 2 A B C a1 a2 b1 b2=true)(on:onP 2 A B C c1 c2=0):
 FnOk 39 g 42 #[.pointer (some ⟨g,0,none⟩),aN g 2 wa wb wc i j k l,bE g m n] [(.leaf p0,i),(.leaf p1,j),(.leaf q0,k),(.leaf q1,l),(.leaf x0,m),(.leaf x1,n)] (fun _=>.tuple #[.bool (rndP a1 a2 b1 b2 c1 c2),.nilIface]) []:=by
 have hc:=h.check (g:=g) (i:=i) (j:=j) (k:=k) (l:=l) hp hq;rw[ok]at hc;have hh:=am5 (li:=false) (i:=i) (j:=j) (k:=k) (l:=l) (ca:=wa) (cb:=wb) (cc:=wc) rfl (h.on (g:=g) (i:=m) (j:=n) hx) (aqY hp hq hx);rw[on]at hh;exact ajE hc hh
end
end Go.Proofs.YtjdgaogkioabeaaGreatDoor
namespace Go.Proofs.YtjdgaogkioabeaaGreatDoor
open Go.RowKit Go.Maps
def ovP(a1 a2 b1 b2 c1 c2 d1 d2:Int):Bool:=(cmpP a1 a2 b1 b2==0||cmpP c1 c2 d1 d2==0)||(rndP c1 c2 d1 d2 a1 a2&& !(cmpP a1 a2 d1 d2==0))||(rndP a1 a2 b1 b2 c1 c2&& !(cmpP c1 c2 b1 b2==0))
def jnP(a1 a2 b1 b2 c1 c2 d1 d2:Int):Nat:=bif cmpP a1 a2 b1 b2==0||cmpP c1 c2 d1 d2==0 then 0 else(cmpP a1 a2 d1 d2==0).toNat+(cmpP c1 c2 b1 b2==0).toNat
section
variable{g i j k l i' j' k' l' wa wb wc p0 p1 q0 q1 x0 x1 y0 y1:Nat}{A B C a1 a2 b1 b2 c1 c2 d1 d2:Int}
theorem am6{kd:Int}(h:okP kd A B C a1 a2 b1 b2=true):onP kd A B C a1 a2=0/\onP kd A B C b1 b2=0:=by
 unfold okP at h;simp only[Bool.and_eq_true,beq_iff_eq]at h;exact h.1
theorem sP(h:Crv 2 wa wb wc A B C)(hp:Wp p0 p1 a1 a2)(hq:Wp q0 q1 b1 b2)(hx:Wp x0 x1 c1 c2)(hy:Wp y0 y1 d1 d2)(o1:okP 2 A B C a1 a2 b1 b2=true)(o2:okP 2 A B C c1 c2 d1 d2=true):
 rH 10 g 200 #[.pointer (some ⟨g,0,none⟩),aN g 2 wa wb wc i j k l,aN g 2 wa wb wc i' j' k' l'] [(.leaf p0,i),(.leaf p1,j),(.leaf q0,k),(.leaf q1,l),(.leaf x0,i'),(.leaf x1,j'),(.leaf y0,k'),(.leaf y1,l')] (mU g (ovP a1 a2 b1 b2 c1 c2 d1 d2) (fun _ ps=>ps.length=jnP a1 a2 b1 b2 c1 c2 d1 d2)):=by
 have hc:wS wa wb wc:=by
  rcases h.k with ⟨e,-⟩|⟨-,e,-⟩
  . cases e
  . exact e
 have W1:=mQ (g:=g) (i:=i) (j:=j) (k:=k) (l:=l) (kd:=2) (ca:=wa) (cb:=wb) (cc:=wc) (Or.inl ⟨rfl,_,wcmp hp hq,rfl⟩);have W2:=mQ (g:=g) (i:=i') (j:=j') (k:=k') (l:=l') (kd:=2) (ca:=wa) (cb:=wb) (cc:=wc) (Or.inl ⟨rfl,_,wcmp hx hy,rfl⟩);have hW:=xZ (K0:=[(.leaf p0,i),(.leaf p1,j),(.leaf q0,k),(.leaf q1,l),(.leaf x0,i'),(.leaf x1,j'),(.leaf y0,k'),(.leaf y1,l')]) W1 W2 (dF [0,1,2,3]) (dF [4,5,6,7]);have c1':=h.check (g:=g) (i:=i) (j:=j) (k:=k) (l:=l) hp hq;rw[o1]at c1';have c2':=h.check (g:=g) (i:=i') (j:=j') (k:=k') (l:=l') hx hy;rw[o2]at c2';have s1:=uD (K0:=[(.leaf p0,i),(.leaf p1,j),(.leaf q0,k),(.leaf q1,l),(.leaf x0,i'),(.leaf x1,j'),(.leaf y0,k'),(.leaf y1,l')]) (kd:=2) (ca:=wa) (cb:=wb) (cc:=wc) (k:=k) (l:=l) (h.has (g:=g) (i:=i') (j:=j') (k:=k') (l:=l') (m:=i) (n:=j) hx hy hp o2 (am6 o1).1) (wcmp hp hy) (dF [4,5,6,7,0,1]) (dF [0,1,6,7]);have s2:=uD (K0:=[(.leaf p0,i),(.leaf p1,j),(.leaf q0,k),(.leaf q1,l),(.leaf x0,i'),(.leaf x1,j'),(.leaf y0,k'),(.leaf y1,l')]) (kd:=2) (ca:=wa) (cb:=wb) (cc:=wc) (k:=k') (l:=l') (h.has (g:=g) (i:=i) (j:=j) (k:=k) (l:=l) (m:=i') (n:=j') hp hq hx o1 (am6 o2).1) (wcmp hx hq) (dF [0,1,2,3,4,5]) (dF [4,5,2,3])
 have hL:=ad3 (g:=g) fun w=>afS (w:=w) hc;refine abP (yL hW s1 s2 c1' c2' (dF [0,1,2,3]) (dF [4,5,6,7]) hL) hL hW (fun e _=> ?_) (fun e=>ad6 (wcmp hp hy) (wcmp hx hq) (wcmp hp hx) (dF [0,1,2,3,4,5,6,7]) fun _ _ hl=> ?_)
 . unfold jnP;rw[e];rfl
 . unfold jnP;rw[e];exact hl
end
def pj(i k j m:Nat):Nat:=bif i==k||j==m then 0 else(i==m).toNat+(j==k).toNat
end Go.Proofs.YtjdgaogkioabeaaGreatDoor
namespace Go.Proofs.YtjdgaogkioabeaaGreatDoor
open Go.RowKit Go.Maps Go.Stop Go.Extern
theorem apA:Crv 2 0 0 4607182418800017408 0 0 1:=⟨⟨zR,ag5⟩,⟨zR,ag5⟩,iw_1,by decide,by decide,by decide,Or.inr ⟨rfl,⟨zR,zR,iw_1.1,am1 iw_1 (by decide)⟩,by decide⟩⟩
theorem am7:Wp 4607182418800017408 0 1 0:=⟨iw_1,⟨zR,ag5⟩,by decide,by decide⟩
theorem ahG:Wp 13830554455654793216 0 (-1) 0:=⟨⟨⟨by decide,by decide⟩,by kernel_rfl⟩,⟨zR,ag5⟩,by decide,by decide⟩
theorem ahH{w:World}(hT:Tab w)(htb:1<w.heap.size):
 Calls Tryz.prog 7 #[] w (RetV w (.bool true)):=by
 have HN:=hdd (aa6 (l:=[]) (Below.refl w.heap.size w) (fun p hp=>by cases hp) (by simp) hT htb);clear hT htb;have hst:=aL;go_enter Tryz.func7,Tryz.ntmps7
 go_wp2_with fail
 refine HN.out.mono ?_;rintro e W1⟨g,rfl,hR⟩;dsimp only;obtain⟨w2,hw2,b1,hR⟩:=hR.box1 (curO 2 0 0 4607182418800017408);have HA:=hdd (hR.spot (by omega) (v:=4607182418800017408) (u:=0) (by decide) (by decide) (by decide) (by decide));clear b1 hR HN;go_wp2_with fail
 refine HA.out.mono ?_;rintro e w3⟨i,j,rfl,hR⟩;have HA:=hdd (hR.spot (by omega) (v:=13830554455654793216) (u:=0) (by decide) (by decide) (by decide) (by decide));clear hR;go_wp2_with fail
 refine HA.out.mono ?_;rintro e w4⟨k,l,rfl,hR⟩;obtain⟨w5,hw5,b1,b2,hR⟩:=hR.box2 (eG g i j) (eG g k l);obtain⟨x0,x1,x2,x3⟩:=aG (hR.at m2);obtain⟨y0,y1,y2,y3⟩:=aG b1;obtain⟨z0,z1,z2,z3⟩:=aG b2;have HC:=hdd (sP (g:=g) (i:=i) (j:=j) (k:=k) (l:=l) (i':=k) (j':=l) (k':=i) (l':=j) apA am7 ahG ahG am7 (by decide) (by decide) _ _ _ _ w5 hR (by omega) (fun p hp=>(dF [2,3,0,1,0,1,2,3]) p hp));clear b1 b2 hR;go_wp2_with fail
 refine HC.out.mono ?_;rintro e w6⟨K1,l1,⟨v,ps,hq,rfl,ho⟩,hR⟩;obtain⟨pp,cp,rfl⟩:=ho.slice;replace hq:ps.length=2:=hq;rw[hq];have HB:=hdd hR.below;clear hR ho hq HC;go_wp2;go_ret;exact⟨rfl,HB.out⟩
end Go.Proofs.YtjdgaogkioabeaaGreatDoor
