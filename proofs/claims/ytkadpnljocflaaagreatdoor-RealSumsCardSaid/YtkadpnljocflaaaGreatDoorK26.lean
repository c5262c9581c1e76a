/- A part of the proof: contracts of functions and plain laws (DagC). -/
import Derived.Test.YtkadpnljocflaaaGreatDoorK25
import Derived.Test.YtkadpnljocflaaaGreatDoorK07
import Derived.Deep.AppendLies
set_option linter.unusedVariables false
set_option linter.unusedSimpArgs false
set_option linter.unnecessarySimpa false
set_option maxHeartbeats 25600000
set_option maxRecDepth 100000
namespace Go.Proofs.YtkadpnljocflaaaGreatDoor
open Go.RowKit Go.Maps
open _root_.Array renaming getElem?_eq_some_iff->ayP,getElem_modify->ayT
open Go.Act renaming put->ayO
open Go.RowKit.Below renaming refl->ayQ,heap_setCell->ayS
open Go.Value renaming ownBlock->ayU,oneCell'->ay0
open Go.World renaming cell?_of_block->ayM,setCell->ayR,block_lt_of_cell?->ayX
open List renaming setIfInBounds_toArray->ayJ,set_cons_zero->ayK,set_cons_succ->ayL,getElem?_append_left->ayV,getElem?_eq_some_iff->ayW,mem_append->ayZ
open Option.some renaming inj->ayN,injEq->ayY
variable{ns:List Nd}{b c g mb r:Nat}{n:Nd}{A:Option Addr}{m:Value->Option Value}{w w' w5 w6 wA wB wE:World}
def DagO(w:World)(g:Nat)(ns:List Nd)(A:Option Addr)(c mb:Nat)(m:Value->Option Value):Prop:=
 w.heap[g]? =some (.cells #[.slice A ns.length c,.map (some mb)] 65 (0,0))/\w.ownsRow 0 87 4 (.slice A ns.length c) ns.length (bS ns)/\MapP Tryz.prog 218 w mb m/\
  ai4 ns m/\(Value.slice A ns.length c).ownBlock≠some g/\mb≠g/\(Value.slice A ns.length c).ownBlock≠some mb/\ns.length<=20000/\∀n∈ns,n.val<18446744073709551616
theorem DagM.opened (h:DagM w g ns):∃A c mb m,DagO w g ns A c mb m:=by
 obtain⟨v,mb,m,h1,h2,h3⟩:=h;rcases id h2.2 with ⟨rfl,hn⟩|⟨r,cap,cur,rfl,-⟩
 . exact⟨none,0,mb,m,by rw[hn];exact h1,by rw[hn];rw[hn]at h2;exact h2,h3.1,h3.2.1,by simp[ayU],h3.2.2.2.1,by simp[ayU],h3.2.2.2.2.2.1,h3.2.2.2.2.2.2⟩
 . exact⟨_,cap,mb,m,h1,h2,h3.1,h3.2.1,h3.2.2.1,h3.2.2.2.1,h3.2.2.2.2.1,h3.2.2.2.2.2.1,h3.2.2.2.2.2.2⟩
theorem DagO.dag (h:DagO w g ns A c mb m):DagP w g ns:=by
 obtain⟨h1,h2,h3,h4,h5,h6,h7,h8,h9⟩:=h;exact Or.inl ⟨_,mb,m,h1,h2,h3,h4,h5,h6,h7,h8,h9⟩
theorem DagO.dagB (h:DagO w g ns A c mb m)(hb:¬DagB w g b):b≠g/\b≠mb/\(Value.slice A ns.length c).ownBlock≠some b:=by
 obtain⟨h1,-⟩:=h;exact⟨fun e=>hb (Or.inl e),fun e=>hb (Or.inr ⟨_,_,_,h1,Or.inr (congrArg some e.symm)⟩),fun e=>hb (Or.inr ⟨_,_,_,h1,Or.inl e⟩)⟩
theorem DagO.below (h:DagO w g ns A c mb m)(hb:Below w.heap.size w w'):DagO w' g ns A c mb m:=by
 obtain⟨h1,h2,h3,h4,h5,h6,h7,h8,h9⟩:=h;refine⟨hbl h1 hb,h2.kept (aY (row:=none) hb) ?_,h3.below hb h3.lt,h4,h5,h6,h7,h8,h9⟩
 cases hv:(Value.slice A ns.length c).ownBlock
 . exact Or.inl rfl
 . exact Or.inr (by simp)
theorem lJ(ns:List Nd)(n:Nd):bS (ns++[n])=bS ns++dS n:=by simp[bS]
def tV(w:World)(g:Nat)(ns:List Nd)(n:Nd)(e:Ending)(w':World):Prop:=
 ∃(i:Nat) (ns':List Nd),e=.returned (.tuple #[.int .i64 (i:Int),.nilIface])/\DagP w' g ns'/\ns'[i]? =some n/\(ns'=ns\/ns'=ns++[n])/\DS g w w'
theorem grownBy_refl(w:World)(row:Option Nat):w.grownBy w row:=⟨rfl,rfl,rfl,Nat.le_refl _,fun _ _ _=>rfl⟩
theorem ah8{wD:World}{cap:Nat}{m':Value->Option Value}(h:DagO w g ns A c mb m)(hA:Below w.heap.size w wA)
 (hO:wB.ownsRow 0 87 4 (.slice (some ⟨r,0,none⟩) (ns.length+1) cap) (ns.length+1) (bS ns++dS n)) (hB:wA.grownBy wB (Value.slice A ns.length c).ownBlock) (hat:(Value.slice A ns.length c).ownBlock=some r\/r=wA.heap.size)
 (hD:Below wB.heap.size (wB.setCell ⟨g,0,none⟩ (.slice (some ⟨r,0,none⟩) (ns.length+1) cap)) wD) (hM:MapP Tryz.prog 218 wE mb m') (hE:wD.grownBy wE (some mb)) (hu:Upd m (keyV n) (some (.int .i64 (ns.length:Int))) m')
 (hl:ns.length<20000) (hv:n.val<18446744073709551616) (hno:m (keyV n)=none):
 tV w g ns n (.returned (.tuple #[.int .i64 (ns.length:Int),.nilIface])) wE:=by
 obtain⟨h1,h2,h3,h4,h5,h6,h7,h8,h9⟩:=id h;have lg:=aC h1;have lm:=h3.lt;have sA:=hA.size;have sB:=hB.size;have hrg:r≠g:=fun e=>hat.elim (fun h=>h5 (by rw[<-e];exact h)) (fun h=>by omega);have hrm:r≠mb:=fun e=>hat.elim (fun h=>h7 (by rw[<-e];exact h)) (fun h=>by omega);have hrB:r<wB.heap.size:=(hO.lt r rfl).2;have szC:(wB.setCell ⟨g,0,none⟩ (.slice (some ⟨r,0,none⟩) (ns.length+1) cap)).heap.size=wB.heap.size:=by simp[ayR]
 have far:∀b,b<w.heap.size->b≠g->b≠mb->(Value.slice A ns.length c).ownBlock≠some b->wE.heap[b]? =w.heap[b]? :=fun b hb q1 q2 q3=>
  (hE.block b (by have:=hD.size;omega) (fun e=>q2 (ayN e))).trans ((hD.block b (by omega)).trans ((ayS wB _ _ b (by simpa using q1)).trans ((hB.block b (by omega) (fun e=>q3 e.symm)).trans (hA.block b hb))))
 have eg:wB.heap[g]? =some (.cells #[.slice A ns.length c,.map (some mb)] 65 (0,0)):=(hB.block g (by omega) (fun e=>h5 e.symm)).trans ((hA.block g lg).trans h1);have eC:(wB.setCell ⟨g,0,none⟩ (.slice (some ⟨r,0,none⟩) (ns.length+1) cap)).heap[g]? =some (.cells #[.slice (some ⟨r,0,none⟩) (ns.length+1) cap,.map (some mb)] 65 (0,0)):=by
  have hg:g<wB.heap.size:=aC eg;have h':wB.heap[g]=.cells #[.slice A ns.length c,.map (some mb)] 65 (0,0):=(ayP.1 eg).2;simp[ayR,hg,ayT,h']
 have eE:wE.heap[g]? =some (.cells #[.slice (some ⟨r,0,none⟩) (ns.length+1) cap,.map (some mb)] 65 (0,0)):=
  (hE.block g (by have:=hD.size;omega) (fun e=>h6 (ayN e).symm)).trans ((hD.block g (by omega)).trans eC)
 have hO1:=hO.kept (grownBy_set (grownBy_refl wB (some g)) (i:=0) (.slice (some ⟨r,0,none⟩) (ns.length+1) cap)) (Or.inr (fun e=>hrg (ayN e)));have hO2:=hO1.kept (aY (row:=none) (by rw[szC];exact hD)) (Or.inr (by simp[ayU]));have hO3:=hO2.kept hE (Or.inr (fun e=>hrm (ayN e)));have sz:w.heap.size<=wE.heap.size:=by have:=hD.size;have:=hE.size;omega
 refine⟨ns.length,ns++[n],rfl,Or.inl ⟨.slice (some ⟨r,0,none⟩) (ns.length+1) cap,mb,m',?_,?_,hM,?_,?_,h6,?_,by simp;omega,?_⟩,by simp,Or.inr rfl,⟨⟨?_,?_,?_,sz,?_⟩,?_⟩⟩
 . exact eE
 . rw[lJ];simpa using hO3
 . refine⟨fun key val hk=> ?_,fun i n' hi=> ?_⟩
   . by_cases hkn:key=keyV n
     . subst hkn
       rw[hu.1]at hk;exact⟨ns.length,n,by simp,(ayN hk).symm,rfl⟩
     . rw[hu.2 key hkn]at hk
       obtain⟨i,n',q1,q2,q3⟩:=h4.1 key val hk;exact⟨i,n',by rw[ayV (ayW.1 q1).1];exact q1,q2,q3⟩
   . rcases Nat.lt_or_ge i ns.length with hlt|hge
     . rw[ayV hlt]at hi
       have h1:=h4.2 i n' hi;rw[hu.2 _ (fun e=>by rw[e,hno]at h1;cases h1)];exact h1
     . have hie:=(ayW.1 hi).1
       rw[List.length_append,List.length_singleton]at hie;have:i=ns.length:=by omega
       subst this;rw[List.getElem?_append_right nlr,Nat.sub_self]at hi;have:n=n':=ayN hi;rw[<-this];exact hu.1
 . exact fun e=>hrg (ayN e)
 . exact fun e=>hrm (ayN e)
 . intro x hx
   rcases ayZ.1 hx with hx|hx
   . exact h9 x hx
   . simp at hx;rw[hx];exact hv
 . exact hE.os.trans (hD.os.trans (hB.os.trans hA.os))
 . exact hE.tape.trans (hD.tape.trans (hB.tape.trans hA.tape))
 . exact hE.output.trans (hD.output.trans (hB.output.trans hA.output))
 . intro b hb hn
   obtain⟨q1,q2,q3⟩:=h.dagB hn;exact far b hb q1 q2 q3
 . rintro b hb hn(rfl|⟨v',mb',T',e,hd⟩)
   . exact(h.dagB hn).1 rfl
   . obtain⟨q1,q2,q3⟩:=h.dagB hn
     rw[eE]at e;simp only[ayY,Obj.cells.injEq,Array.mk.injEq,List.cons.injEq,Value.map.injEq,and_true]at e;obtain⟨⟨rfl,rfl⟩,-⟩:=e;rcases hd with hd|hd
     . have:r=b:=ayN hd
       subst this;exact hat.elim q3 (fun h=>by omega)
     . exact q2 (ayN hd).symm
theorem mR{T:TypeId}{a b c d:Value}(h:w.heap[g]? =some (.cells #[a,b,c,d] T (0,0))):∀j x,[a,b,c,d][j]? =some x->w.cell? ((⟨g,0,none⟩:Addr).add j)=some x:=by
 intro j x hx;rcases j with _|_|_|_|j
 all_goals first|(simp at hx;subst hx;simp[World.cell?,Addr.add,h])|(simp at hx)
theorem ah9(h:DagO w g ns A c mb m)(h5:DagO w5 g ns A c mb m)(hg:w5.grownBy w6 (Value.slice A ns.length c).ownBlock)(hs:w.heap.size<=w5.heap.size)(nv:Value):
 w6.heap[g]? =some (.cells #[.slice A ns.length c,.map (some mb)] 65 (0,0))/\(w6.setCell ⟨g,0,none⟩ nv).heap[g]? =some (.cells #[nv,.map (some mb)] 65 (0,0))/\MapP Tryz.prog 218 (w6.setCell ⟨g,0,none⟩ nv) mb m/\
  ∀b,w.heap.size<=b->b<w5.heap.size->w6.heap[b]? =w5.heap[b]? /\(w6.setCell ⟨g,0,none⟩ nv).heap[b]? =w5.heap[b]? :=by
 obtain⟨h1,h2,h3,h4,h5',h6,h7,h8,h9⟩:=id h;have lg:=aC h1;have lm:=h3.lt;have eg:=(hg.block g (by omega) (fun e=>h5' e.symm)).trans h5.1;have em:w6.heap[mb]? =w5.heap[mb]? :=hg.block mb (by omega) (fun e=>h7 e.symm);refine⟨eg,?_,h5.2.2.1.keep ((ayS w6 _ _ mb (by simpa using h6)).trans em),fun b hb hlt=> ?_⟩
 . have hgl:g<w6.heap.size:=aC eg
   have h':w6.heap[g]=.cells #[.slice A ns.length c,.map (some mb)] 65 (0,0):=(ayP.1 eg).2;simp[ayR,hgl,ayT,h']
 . have e:=hg.block b hlt (fun e=>by have:=iF h2 b e.symm;omega)
   exact⟨e,(ayS w6 _ _ b (by simp;omega)).trans e⟩
theorem agI(hd:DagM w g ns)(hn:NdIn n ns.length)(hv:n.val<18446744073709551616)(hl:ns.length<20000):
 Calls Tryz.prog 100 #[.pointer (some ⟨g,0,none⟩),iA n] w (tV w g ns n):=by
 obtain⟨A,c,mb,m,ho⟩:=hd.opened;obtain⟨w1,hw1,hb1,hs1,b1⟩:=pro1 w (.cells (dS n).toArray 87);have hkey:∃kl,keyOf Tryz.prog 218 (keyV n)=some kl:=by
  have hk:Sm64 n.kind/\Sm64 n.a/\Sm64 n.b:=by
   rcases hn.1 with ⟨q1,q2,q3⟩|⟨q1,q2,q3,q4⟩|⟨q1,q2,q3,q4⟩<;>unfold Sm64<;>omega
  exact zL hk.1 hk.2.1 hk.2.2 hv
 obtain⟨kl,hkey⟩:=hkey;have HO:=hdd ho;have HO1:=hdd (ho.below hb1);have HB1:=hdd hb1;have HT:=hdd (vL (DagP.below (Or.inl hd) hb1) hn hv);have HKO:Hid (∀w',Calls Tryz.prog 147 #[.agg #[.int .i64 n.kind,.float .f64 n.val,.int .i64 n.a,.int .i64 n.b]] w' (RetV w' (keyV n))):=hdd fun w'=>vK;have HKEY:=hdd hkey;obtain⟨kind,val,na,nb⟩:=n;simp only[dS,iA]at b1 hw1|-;obtain⟨c0,c1,c2,c3⟩:=bM b1;obtain⟨g0,g1,gf0,gf1⟩:=aB HO1.out.1;have HLEN:=hdd hl;have HV:=hdd hv;have hlI:(ns.length:Int)<20000:=by omega
 have hl0:(0:Int)<=(ns.length:Int):=by omega
 have hneq:=fun(w:World) (r:Option Nat)=>run_neq_map_nil w _ _ _ r mK;clear hd hn hb1 hs1 b1 ho hkey hv hl
 cases hmk:m (keyV ⟨kind,val,na,nb⟩)with
 |some v=>
  obtain⟨i,n',q1,rfl,q3⟩:=HO.out.2.2.2.1.1 _ _ hmk;have q4:=agH q3;subst q4;have HQ:=hdd q1;have HMS:Hid ((m (keyV ⟨kind,val,na,nb⟩)).getD (.int .i64 0)=.int .i64 (i:Int)):=hdd (by rw[hmk];rfl);have HMI:Hid ((m (keyV ⟨kind,val,na,nb⟩)).isSome=true):=hdd (by rw[hmk];rfl);clear hmk q1 q3;go_enter Tryz.func100,Tryz.ntmps100
  go_wp2_with fail
  refine HT.out.mono ?_;rintro e w2⟨rfl,hb2⟩;replace c0:=cbl c0 hb2;replace c1:=cbl c1 hb2;replace c2:=cbl c2 hb2;replace c3:=cbl c3 hb2;replace g0:=cbl g0 hb2;replace g1:=cbl g1 hb2;have HB2:=hdd (aA HB1.out hb2);have HD2:=hdd (((HO1.out.below hb2).below (ayQ _ _).drew));clear hb2 gf0 gf1;go_wp2_with fail
  have hdr:Below w2.heap.size w2 w2.drew:=(ayQ _ _).drew;replace c0:=cbl c0 hdr;replace c1:=cbl c1 hdr;replace c2:=cbl c2 hdr;replace c3:=cbl c3 hdr;replace g0:=cbl g0 hdr;replace g1:=cbl g1 hdr;clear hdr
  go_region_held3 (fun w'=>w'.cell? ⟨g,1,none⟩=some (.map (some mb))/\w'.cell? ⟨w.heap.size,0,none⟩=some (.int .i64 kind)/\w'.cell? ⟨w.heap.size,1,none⟩=some (.float .f64 val)/\w'.cell? ⟨w.heap.size,2,none⟩=some (.int .i64 na)/\w'.cell? ⟨w.heap.size,3,none⟩=some (.int .i64 nb)) (go_keep)
   (first
   |(go_at_call 147
     refine(HKO.out _).mono ?_;rintro e w4⟨rfl,hb4⟩;have c0:=cbl c0 hb4;have c1:=cbl c1 hb4;have c2:=cbl c2 hb4;have c3:=cbl c3 hb4;have g0:=cbl g0 hb4;have g1:=cbl g1 hb4;have hlk:=(HD2.out.below hb4).2.2.1.look mJ mK (dV w4) HKEY.out true;rw[if_pos rfl,HMS.out,HMI.out]at hlk;unfold keyV at*;have HBF:=hdd (aA (aA HB2.out (ayQ _ _).drew) hb4);have HDF:=hdd (HD2.out.below hb4);clear hb4))
  go_wp2
  go_ret2
  exact⟨i,ns,rfl,HDF.out.dag,HQ.out,Or.inl rfl,DS.of_below HO.out.dag.glt HBF.out⟩
 |none=>
  have HMS:Hid ((m (keyV ⟨kind,val,na,nb⟩)).getD (.int .i64 0)=.int .i64 0):=hdd (by rw[hmk];rfl);have HMI:Hid ((m (keyV ⟨kind,val,na,nb⟩)).isSome=false):=hdd (by rw[hmk];rfl);obtain⟨m',hu⟩:=jQ m (keyV ⟨kind,val,na,nb⟩) (some (.int .i64 (ns.length:Int)));have HU:=hdd hu;have HNO:=hdd hmk;obtain⟨i0,hi0,hz0,hz1,hz2⟩:=info_parts vN;have HI0:=hdd hi0;have HZ0:=hdd hz0;have HZ1:=hdd hz1;have HZ2:=hdd hz2;clear hmk hu hi0 hz0 hz1 hz2;go_enter Tryz.func100,Tryz.ntmps100
  go_wp2_with fail
  refine HT.out.mono ?_;rintro e w2⟨rfl,hb2⟩;replace c0:=cbl c0 hb2;replace c1:=cbl c1 hb2;replace c2:=cbl c2 hb2;replace c3:=cbl c3 hb2;replace g0:=cbl g0 hb2;replace g1:=cbl g1 hb2;have HB2:=hdd (aA HB1.out hb2);have HD2:=hdd (((HO1.out.below hb2).below (ayQ _ _).drew));clear hb2 gf0 gf1;go_wp2_with fail
  have hdr:Below w2.heap.size w2 w2.drew:=(ayQ _ _).drew;replace c0:=cbl c0 hdr;replace c1:=cbl c1 hdr;replace c2:=cbl c2 hdr;replace c3:=cbl c3 hdr;replace g0:=cbl g0 hdr;replace g1:=cbl g1 hdr;clear hdr
  go_region_held3 (fun w'=>w'.cell? ⟨g,1,none⟩=some (.map (some mb))/\w'.cell? ⟨w.heap.size,0,none⟩=some (.int .i64 kind)/\w'.cell? ⟨w.heap.size,1,none⟩=some (.float .f64 val)/\w'.cell? ⟨w.heap.size,2,none⟩=some (.int .i64 na)/\w'.cell? ⟨w.heap.size,3,none⟩=some (.int .i64 nb)) (go_keep)
   (first
   |(go_at_call 147
     refine(HKO.out _).mono ?_;rintro e w4⟨rfl,hb4⟩;have c0:=cbl c0 hb4;have c1:=cbl c1 hb4;have c2:=cbl c2 hb4;have c3:=cbl c3 hb4;have g0:=cbl g0 hb4;have g1:=cbl g1 hb4;have hlk:=(HD2.out.below hb4).2.2.1.look mJ mK (dV w4) HKEY.out true;rw[if_pos rfl,HMS.out,HMI.out]at hlk;unfold keyV at*;have HBF:=hdd (aA (aA HB2.out (ayQ _ _).drew) hb4);have HDF:=hdd (HD2.out.below hb4);clear hb4))
  clear hlk;go_wp2_with fail
  refine wp_region_noPanic ?_;refine kE (fun w'=>w'.cell? ⟨g,0,none⟩=some (.slice A ns.length c)/\w'.cell? ⟨w.heap.size,0,none⟩=some (.int .i64 kind)/\w'.cell? ⟨w.heap.size,1,none⟩=some (.float .f64 val)/\w'.cell? ⟨w.heap.size,2,none⟩=some (.int .i64 na)/\w'.cell? ⟨w.heap.size,3,none⟩=some (.int .i64 nb)) 10 (by kernel_rfl) ?_;have hSd:(fun w':World=>w'.cell? ⟨g,0,none⟩=some (.slice A ns.length c)/\w'.cell? ⟨w.heap.size,0,none⟩=some (.int .i64 kind)/\w'.cell? ⟨w.heap.size,1,none⟩=some (.float .f64 val)/\w'.cell? ⟨w.heap.size,2,none⟩=some (.int .i64 na)/\w'.cell? ⟨w.heap.size,3,none⟩=some (.int .i64 nb)) w4.drew:=⟨g0,c0,c1,c2,c3⟩;refine aN 0 (.pointer (some ⟨g,0,none⟩)) rfl (by kernel_rfl) (by kernel_rfl) (by kernel_rfl) (by kernel_rfl) (fun _ _ _ h=>h) (by rfl) ?_ (by assumption) ?_
  . intro w' hSw;(try dsimp only at hSw);go_split_ands;go_simp;all_goals first|rfl|done
  try simp only[ayO,ayJ,ayK,ayL]
  refine aN 1 (.pointer (some ⟨g,0,none⟩)) rfl (by kernel_rfl) (by kernel_rfl) (by kernel_rfl) (by kernel_rfl) (fun _ _ _ h=>h) (by rfl) ?_ (by assumption) ?_
  . intro w' hSw;(try dsimp only at hSw);go_split_ands;go_simp;all_goals first|rfl|done
  try simp only[ayO,ayJ,ayK,ayL]
  refine aN 2 (.pointer (some ⟨g,0,none⟩)) rfl (by kernel_rfl) (by kernel_rfl) (by kernel_rfl) (by kernel_rfl) (fun _ _ _ h=>h) (by rfl) ?_ (by assumption) ?_
  . intro w' hSw;(try dsimp only at hSw);go_split_ands;go_simp;all_goals first|rfl|done
  try simp only[ayO,ayJ,ayK,ayL]
  refine aN 3 (.pointer (some ⟨g,0,none⟩)) rfl (by kernel_rfl) (by kernel_rfl) (by kernel_rfl) (by kernel_rfl) (fun _ _ _ h=>h) (by rfl) ?_ (by assumption) ?_
  . intro w' hSw;(try dsimp only at hSw);go_split_ands;go_simp;all_goals first|rfl|done
  try simp only[ayO,ayJ,ayK,ayL]
  refine aN 4 (.slice A ns.length c) rfl (by kernel_rfl) (by kernel_rfl) (by kernel_rfl) (by kernel_rfl) (fun _ _ _ h=>h) (by rfl) ?_ (by assumption) ?_
  . intro w' hSw;(try dsimp only at hSw);go_split_ands;go_simp;all_goals first|rfl|done
  try simp only[ayO,ayJ,ayK,ayL]
  refine aN 5 (.agg #[.int .i64 kind,.float .f64 val,.int .i64 na,.int .i64 nb]) rfl (by kernel_rfl) (by kernel_rfl) (by kernel_rfl) (by kernel_rfl) (fun _ _ _ h=>h) (by rfl) ?_ (by assumption) ?_
  . intro w' hSw;(try dsimp only at hSw);go_split_ands;go_simp;all_goals first|rfl|done
  try simp only[ayO,ayJ,ayK,ayL]
  obtain⟨w5,hw5,hb5,hs5,b5⟩:=pro1 w4.drew (.cells #[.int .i64 kind,.float .f64 val,.int .i64 na,.int .i64 nb] 87);have hdr4:Below w4.heap.size w4 w4.drew:=(ayQ _ _).drew;have h45:Below w4.heap.size w4 w5:=aA hdr4 hb5;have HD5:=hdd (HDF.out.below h45);replace c0:=cbl c0 h45;replace c1:=cbl c1 h45;replace c2:=cbl c2 h45;replace c3:=cbl c3 h45;replace g0:=cbl g0 h45;replace g1:=cbl g1 h45;have HB5:=hdd (aA HBF.out h45);have HC5:=hdd (mR b5);have HS5:Hid (w5.heap.size=w4.heap.size+1):=hdd hs5;clear hb5 hs5 b5 hdr4 h45;refine dE 6 (by kernel_rfl) rfl fun K hK=> ?_;go_simp;refine hK.out _ _ (fun _=>⟨g0,c0,c1,c2,c3⟩) ?_;clear hK
  try simp only[ayO,ayJ,ayK,ayL]
  refine dE 7 (by kernel_rfl) rfl fun K hK=> ?_;refine step_append_lies _ rfl _ _ 27 rfl 0 87 i0 (.agg #[.int .i64 0,.float .f64 0,.int .i64 0,.int .i64 0]) 4 32 vM HI0.out HZ0.out HZ1.out HZ2.out rfl (by decide) (.slice A ns.length c) ns.length (bS ns) rfl HD5.out.2.1 ⟨w4.heap.size,0,none⟩ 1 1 [.int .i64 kind,.float .f64 val,.int .i64 na,.int .i64 nb] rfl rfl HC5.out (by simp[ay0]) (by decide) (by have:=HLEN.out;unfold maxLen;omega) (by have:=HLEN.out;omega) (Nat.zero_le _) w5.heap.size rfl ?_;intro r cap w6 hown6 hgr6 hat6 hlt6;have hm:=ah9 HO.out HD5.out hgr6 HB5.out.size (.slice (some ⟨r,0,none⟩) (ns.length+1) cap);obtain⟨q1,q2,q3,q4⟩:=hm;obtain⟨q4,q5⟩:=q4 w.heap.size nlr (ayX w5 _ c0);obtain⟨w7,hw7⟩:∃w7,w6.setCell ⟨g,0,none⟩ (.slice (some ⟨r,0,none⟩) (ns.length+1) cap)=w7:=⟨_,rfl⟩;obtain⟨g0',g1',gf0',-⟩:=aB q1;have d0:=(ayM (a:=⟨w.heap.size,0,none⟩) q4).trans c0;have d1:=(ayM (a:=⟨w.heap.size,1,none⟩) q4).trans c1
  have d2:=(ayM (a:=⟨w.heap.size,2,none⟩) q4).trans c2;have d3:=(ayM (a:=⟨w.heap.size,3,none⟩) q4).trans c3;have HO6:=hdd hown6;have HG6:=hdd hgr6;have HA6:=hdd hat6;have HW7:=hdd hw7;rw[hw7]at q2 q3 q5;have HQ2:=hdd q2;have HQ3:=hdd q3;have HQ5:=hdd q5;refine hK.out _ _ (fun _=>⟨g0',d0,d1,d2,d3⟩) ?_;clear hK hown6 hgr6 hat6 hlt6 q1 q2 q3 q4 q5
  try simp only[ayO,ayJ,ayK,ayL]
  refine dE 8 (by kernel_rfl) rfl fun K hK=> ?_;go_simp;refine hK.out _ _ (fun _=>⟨g0',d0,d1,d2,d3⟩) ?_;clear hK
  try simp only[ayO,ayJ,ayK,ayL]
  refine dE 9 (by kernel_rfl) rfl fun K hK=> ?_;go_simp;refine hK.out _ _ (fun _=>⟨g0',d0,d1,d2,d3⟩) ?_;clear hK
  try simp only[ayO,ayJ,ayK,ayL]
  refine dE 10 (by kernel_rfl) rfl fun K hK=> ?_;go_simp;refine hK.out _ _ (fun h=>absurd rfl h) ?_;clear hK;refine lW (by kernel_rfl) ?_;refine NoPanic.normal ?_;obtain⟨p0,p1,-,-⟩:=aB HQ2.out;have e0:=(ayM (a:=⟨w.heap.size,0,none⟩) HQ5.out).trans c0;have e1:=(ayM (a:=⟨w.heap.size,1,none⟩) HQ5.out).trans c1;have e2:=(ayM (a:=⟨w.heap.size,2,none⟩) HQ5.out).trans c2;have e3:=(ayM (a:=⟨w.heap.size,3,none⟩) HQ5.out).trans c3;clear d0 d1 d2 d3 g0' g1' gf0' c0 c1 c2 c3 g0 g1 hw5;go_wp2_with fail
  refine wp_region_noPanic ?_;refine kE (fun w'=>w'.cell? ⟨g,1,none⟩=some (.map (some mb))/\w'.cell? ⟨w.heap.size,0,none⟩=some (.int .i64 kind)/\w'.cell? ⟨w.heap.size,1,none⟩=some (.float .f64 val)/\w'.cell? ⟨w.heap.size,2,none⟩=some (.int .i64 na)/\w'.cell? ⟨w.heap.size,3,none⟩=some (.int .i64 nb)) 7 (by kernel_rfl) ?_;have hSd2:(fun w':World=>w'.cell? ⟨g,1,none⟩=some (.map (some mb))/\w'.cell? ⟨w.heap.size,0,none⟩=some (.int .i64 kind)/\w'.cell? ⟨w.heap.size,1,none⟩=some (.float .f64 val)/\w'.cell? ⟨w.heap.size,2,none⟩=some (.int .i64 na)/\w'.cell? ⟨w.heap.size,3,none⟩=some (.int .i64 nb)) w7.drew:=⟨p1,e0,e1,e2,e3⟩;refine aN 0 (.pointer (some ⟨g,0,none⟩)) rfl (by kernel_rfl) (by kernel_rfl) (by kernel_rfl) (by kernel_rfl) (fun _ _ _ h=>h) (by rfl) ?_ (by assumption) ?_
  . intro w' hSw;(try dsimp only at hSw);go_split_ands;go_simp;all_goals first|rfl|done
  try simp only[ayO,ayJ,ayK,ayL]
  refine aN 1 (.pointer (some ⟨g,0,none⟩)) rfl (by kernel_rfl) (by kernel_rfl) (by kernel_rfl) (by kernel_rfl) (fun _ _ _ h=>h) (by rfl) ?_ (by assumption) ?_
  . intro w' hSw;(try dsimp only at hSw);go_split_ands;go_simp;all_goals first|rfl|done
  try simp only[ayO,ayJ,ayK,ayL]
  refine aN 2 (.pointer (some ⟨g,1,none⟩)) rfl (by kernel_rfl) (by kernel_rfl) (by kernel_rfl) (by kernel_rfl) (fun _ _ _ h=>h) (by rfl) ?_ (by assumption) ?_
  . intro w' hSw;(try dsimp only at hSw);go_split_ands;go_simp;all_goals first|rfl|done
  try simp only[ayO,ayJ,ayK,ayL]
  refine aN 3 (.map (some mb)) rfl (by kernel_rfl) (by kernel_rfl) (by kernel_rfl) (by kernel_rfl) (fun _ _ _ h=>h) (by rfl) ?_ (by assumption) ?_
  . intro w' hSw;(try dsimp only at hSw);go_split_ands;go_simp;all_goals first|rfl|done
  try simp only[ayO,ayJ,ayK,ayL]
  refine aN 4 (.agg #[.int .i64 kind,.float .f64 val,.int .i64 na,.int .i64 nb]) rfl (by kernel_rfl) (by kernel_rfl) (by kernel_rfl) (by kernel_rfl) (fun _ _ _ h=>h) (by rfl) ?_ (by assumption) ?_
  . intro w' hSw;(try dsimp only at hSw);go_split_ands;go_simp;all_goals first|rfl|done
  try simp only[ayO,ayJ,ayK,ayL]
  refine aN 6 (.int .i64 (ns.length:Int)) rfl (by kernel_rfl) (by kernel_rfl) (by kernel_rfl) (by kernel_rfl) (fun _ _ _ h=>h) (by rfl) ?_ (by assumption) ?_
  . intro w' hSw;(try dsimp only at hSw);go_split_ands;go_simp;all_goals first|rfl|done
  try simp only[ayO,ayJ,ayK,ayL]
  refine dE 5 (by kernel_rfl) rfl fun K hK=> ?_;go_simp;refine(HKO.out _).mono ?_;rintro e w8⟨rfl,hb8⟩;have h78:Below w7.heap.size w7 w8:=aA (ayQ _ _).drew hb8;have HB8:=hdd h78;have HM8:=hdd (HQ3.out.below h78 HQ3.out.lt);replace p0:=cbl p0 h78;replace p1:=cbl p1 h78;replace e0:=cbl e0 h78;replace e1:=cbl e1 h78;replace e2:=cbl e2 h78;replace e3:=cbl e3 h78;clear h78 hb8;refine hK.out _ _ (fun _=>⟨p1,e0,e1,e2,e3⟩) ?_;clear hK
  try simp only[ayO,ayJ,ayK,ayL]
  refine dE 7 (by kernel_rfl) rfl fun K hK=> ?_;refine agF _ rfl _ _ _ _ rfl _ _ mJ mK mb m m' rfl HM8.out (.agg #[.int .i64 kind,.int .i64 na,.int .i64 nb,.int .u64 (val:Int)]) (.int .i64 (ns.length:Int)) kl rfl rfl HKEY.out HU.out ?_;intro w9 HM9 hgr9 hsz9;have HG9:=hdd hgr9;refine hK.out _ _ (fun h=>absurd rfl h) ?_;clear hK hgr9 hsz9;refine lW (by kernel_rfl) ?_;refine NoPanic.normal ?_;go_wp2
  go_ret2
  refine ah8 HO.out HB5.out HO6.out HG6.out HA6.out ?_ HM9.out HG9.out HU.out HLEN.out HV.out HNO.out;rw[HW7.out];have hz:w7.heap.size=w6.heap.size:=by rw[<-HW7.out];simp[ayR]
  rw[<-hz];exact HB8.out
def DagNO(w:World)(g:Nat)(ns:List Nd)(A:Option Addr)(c:Nat):Prop:=
 w.heap[g]? =some (.cells #[.slice A ns.length c,.map none] 65 (0,0))/\w.ownsRow 0 87 4 (.slice A ns.length c) ns.length (bS ns)/\(Value.slice A ns.length c).ownBlock≠some g/\ns.length<=20000/\∀n∈ns,n.val<18446744073709551616
theorem DagN.opened (h:DagN w g ns):∃A c,DagNO w g ns A c:=by
 obtain⟨v,h1,h2,h3⟩:=h;rcases id h2.2 with ⟨rfl,hn⟩|⟨r,cap,cur,rfl,-⟩
 . exact⟨none,0,by rw[hn];exact h1,by rw[hn];rw[hn]at h2;exact h2,by simp[ayU],h3.2⟩
 . exact⟨_,cap,h1,h2,h3⟩
theorem DagNO.dagB (h:DagNO w g ns A c)(hb:¬DagB w g b):b≠g/\(Value.slice A ns.length c).ownBlock≠some b:=
 ⟨fun e=>hb (Or.inl e),fun e=>hb (Or.inr ⟨_,_,_,h.1,Or.inl e⟩)⟩
theorem DagNO.below (h:DagNO w g ns A c)(hb:Below w.heap.size w w'):DagNO w' g ns A c:=
 ⟨hbl h.1 hb,tK h.2.1 hb,h.2.2⟩
theorem agJ{cap:Nat}(h:DagNO w g ns A c)(hA:Below w.heap.size w wA)
 (hO:wB.ownsRow 0 87 4 (.slice (some ⟨r,0,none⟩) (ns.length+1) cap) (ns.length+1) (bS ns++dS n)) (hB:wA.grownBy wB (Value.slice A ns.length c).ownBlock) (hat:(Value.slice A ns.length c).ownBlock=some r\/r=wA.heap.size)
 (hD:Below wB.heap.size (wB.setCell ⟨g,0,none⟩ (.slice (some ⟨r,0,none⟩) (ns.length+1) cap)) wE) (hl:ns.length<20000) (hv:n.val<18446744073709551616):
 tV w g ns n (.returned (.tuple #[.int .i64 (ns.length:Int),.nilIface])) wE:=by
 obtain⟨h1,h2,h5,h8,h9⟩:=id h;have lg:=aC h1;have sA:=hA.size;have sB:=hB.size;have hrg:r≠g:=fun e=>hat.elim (fun h=>h5 (by rw[<-e];exact h)) (fun h=>by omega);have hrB:r<wB.heap.size:=(hO.lt r rfl).2;have szC:(wB.setCell ⟨g,0,none⟩ (.slice (some ⟨r,0,none⟩) (ns.length+1) cap)).heap.size=wB.heap.size:=by simp[ayR]
 have far:∀b,b<w.heap.size->b≠g->(Value.slice A ns.length c).ownBlock≠some b->wE.heap[b]? =w.heap[b]? :=fun b hb q1 q3=>
  (hD.block b (by omega)).trans ((ayS wB _ _ b (by simpa using q1)).trans ((hB.block b (by omega) (fun e=>q3 e.symm)).trans (hA.block b hb)))
 have eg:wB.heap[g]? =some (.cells #[.slice A ns.length c,.map none] 65 (0,0)):=(hB.block g (by omega) (fun e=>h5 e.symm)).trans ((hA.block g lg).trans h1);have eC:(wB.setCell ⟨g,0,none⟩ (.slice (some ⟨r,0,none⟩) (ns.length+1) cap)).heap[g]? =some (.cells #[.slice (some ⟨r,0,none⟩) (ns.length+1) cap,.map none] 65 (0,0)):=by
  have hg:g<wB.heap.size:=aC eg;have h':wB.heap[g]=.cells #[.slice A ns.length c,.map none] 65 (0,0):=(ayP.1 eg).2;simp[ayR,hg,ayT,h']
 have eE:wE.heap[g]? =some (.cells #[.slice (some ⟨r,0,none⟩) (ns.length+1) cap,.map none] 65 (0,0)):=(hD.block g (by omega)).trans eC;have hO1:=hO.kept (grownBy_set (grownBy_refl wB (some g)) (i:=0) (.slice (some ⟨r,0,none⟩) (ns.length+1) cap)) (Or.inr (fun e=>hrg (ayN e)));have hO2:=hO1.kept (aY (row:=none) (by rw[szC];exact hD)) (Or.inr (by simp[ayU]));have sz:w.heap.size<=wE.heap.size:=by have:=hD.size;omega
 refine⟨ns.length,ns++[n],rfl,Or.inr ⟨.slice (some ⟨r,0,none⟩) (ns.length+1) cap,?_,?_,?_,by simp;omega,?_⟩,by simp,Or.inr rfl,⟨⟨?_,?_,?_,sz,?_⟩,?_⟩⟩
 . simpa using eE
 . rw[lJ];simpa using hO2
 . exact fun e=>hrg (ayN e)
 . intro x hx
   rcases ayZ.1 hx with hx|hx
   . exact h9 x hx
   . simp at hx;rw[hx];exact hv
 . exact hD.os.trans (hB.os.trans hA.os)
 . exact hD.tape.trans (hB.tape.trans hA.tape)
 . exact hD.output.trans (hB.output.trans hA.output)
 . intro b hb hn
   obtain⟨q1,q3⟩:=h.dagB hn;exact far b hb q1 q3
 . rintro b hb hn(rfl|⟨v',mb',T',e,hd⟩)
   . exact(h.dagB hn).1 rfl
   . obtain⟨q1,q3⟩:=h.dagB hn
     rw[eE]at e;simp only[ayY,Obj.cells.injEq,Array.mk.injEq,List.cons.injEq,Value.map.injEq,and_true]at e;obtain⟨⟨rfl,rfl⟩,-⟩:=e;rcases hd with hd|hd
     . have:r=b:=ayN hd
       subst this;exact hat.elim q3 (fun h=>by omega)
     . cases hd
theorem look_nil{P:Program}{k e t:TypeId}(K:Keyed P k)(ht:P.underlying t=some (.map k e)){z:Value}(hz:(zeroValue e).run P w=.ok z w){key:Value}{kl:Lit}(hkey:keyOf P k key=some kl):
 (Instr.lookup t (.map none) key true).run P w=.ok (.tuple #[z,.bool false]) w:=by
 rcases K.find w hkey [] (by simp)with ⟨h1,h2⟩|⟨j,e0,h1,h2,h3⟩
 . simp[Instr.lookup,run_underlying ht,K.check w _ hkey,h1,hz,Result.andThen]
 . cases h2
theorem agK(h:DagNO w g ns A c)(h5:DagNO w5 g ns A c)(hg:w5.grownBy w6 (Value.slice A ns.length c).ownBlock)(nv:Value):
 w6.heap[g]? =some (.cells #[.slice A ns.length c,.map none] 65 (0,0))/\(w6.setCell ⟨g,0,none⟩ nv).heap[g]? =some (.cells #[nv,.map none] 65 (0,0))/\
  ∀b,w.heap.size<=b->b<w5.heap.size->w6.heap[b]? =w5.heap[b]? /\(w6.setCell ⟨g,0,none⟩ nv).heap[b]? =w5.heap[b]? :=by
 have lg:=aC h.1;have lg5:=aC h5.1;have eg:=(hg.block g lg5 (fun e=>h.2.2.1 e.symm)).trans h5.1;refine⟨eg,?_,fun b hb hlt=> ?_⟩
 . have hgl:g<w6.heap.size:=aC eg
   have h':w6.heap[g]=.cells #[.slice A ns.length c,.map none] 65 (0,0):=(ayP.1 eg).2;simp[ayR,hgl,ayT,h']
 . have e:=hg.block b hlt (fun e=>by have:=iF h.2.1 b e.symm;omega)
   exact⟨e,(ayS w6 _ _ b (by simp;omega)).trans e⟩
theorem aiA(hd:DagN w g ns)(hn:NdIn n ns.length)(hv:n.val<18446744073709551616)(hl:ns.length<20000):
 Calls Tryz.prog 100 #[.pointer (some ⟨g,0,none⟩),iA n] w (tV w g ns n):=by
 obtain⟨A,c,ho⟩:=hd.opened;obtain⟨w1,hw1,hb1,hs1,b1⟩:=pro1 w (.cells (dS n).toArray 87);have hkey:∃kl,keyOf Tryz.prog 218 (keyV n)=some kl:=by
  have hk:Sm64 n.kind/\Sm64 n.a/\Sm64 n.b:=by
   rcases hn.1 with ⟨q1,q2,q3⟩|⟨q1,q2,q3,q4⟩|⟨q1,q2,q3,q4⟩<;>unfold Sm64<;>omega
  exact zL hk.1 hk.2.1 hk.2.2 hv
 obtain⟨kl,hkey⟩:=hkey;have HO:=hdd ho;have HO1:=hdd (ho.below hb1);have HB1:=hdd hb1;have HT:=hdd (vL (DagP.below (Or.inr hd) hb1) hn hv);have HKO:Hid (∀w',Calls Tryz.prog 147 #[.agg #[.int .i64 n.kind,.float .f64 n.val,.int .i64 n.a,.int .i64 n.b]] w' (RetV w' (keyV n))):=hdd fun w'=>vK;have HKEY:=hdd hkey;obtain⟨kind,val,na,nb⟩:=n;simp only[dS,iA]at b1 hw1|-;obtain⟨c0,c1,c2,c3⟩:=bM b1;obtain⟨g0,g1,gf0,gf1⟩:=aB HO1.out.1;have HLEN:=hdd hl;have HV:=hdd hv;have hlI:(ns.length:Int)<20000:=by omega
 have hl0:(0:Int)<=(ns.length:Int):=by omega
 have hneq:=fun(w:World) (r:Option Nat)=>run_neq_map_nil w _ _ _ r mK;clear hd hn hb1 hs1 b1 ho hkey hv hl;obtain⟨i0,hi0,hz0,hz1,hz2⟩:=info_parts vN;have HI0:=hdd hi0;have HZ0:=hdd hz0;have HZ1:=hdd hz1;have HZ2:=hdd hz2;clear hi0 hz0 hz1 hz2;go_enter Tryz.func100,Tryz.ntmps100
 go_wp2_with fail
 refine HT.out.mono ?_;rintro e w2⟨rfl,hb2⟩;replace c0:=cbl c0 hb2;replace c1:=cbl c1 hb2;replace c2:=cbl c2 hb2;replace c3:=cbl c3 hb2;replace g0:=cbl g0 hb2;replace g1:=cbl g1 hb2;have HB2:=hdd (aA HB1.out hb2);have HD2:=hdd (((HO1.out.below hb2).below (ayQ _ _).drew));clear hb2 gf0 gf1;go_wp2_with fail
 have hdr:Below w2.heap.size w2 w2.drew:=(ayQ _ _).drew;replace c0:=cbl c0 hdr;replace c1:=cbl c1 hdr;replace c2:=cbl c2 hdr;replace c3:=cbl c3 hdr;replace g0:=cbl g0 hdr;replace g1:=cbl g1 hdr;clear hdr
 go_region_held3 (fun w'=>w'.cell? ⟨g,1,none⟩=some (.map none)/\w'.cell? ⟨w.heap.size,0,none⟩=some (.int .i64 kind)/\w'.cell? ⟨w.heap.size,1,none⟩=some (.float .f64 val)/\w'.cell? ⟨w.heap.size,2,none⟩=some (.int .i64 na)/\w'.cell? ⟨w.heap.size,3,none⟩=some (.int .i64 nb)) (go_keep)
  (first
  |(go_at_call 147
    refine(HKO.out _).mono ?_;rintro e w4⟨rfl,hb4⟩;have c0:=cbl c0 hb4;have c1:=cbl c1 hb4;have c2:=cbl c2 hb4;have c3:=cbl c3 hb4;have g0:=cbl g0 hb4;have g1:=cbl g1 hb4;have hlk:=look_nil mJ mK (dV w4) HKEY.out;unfold keyV at*;have HBF:=hdd (aA (aA HB2.out (ayQ _ _).drew) hb4);have HDF:=hdd (HD2.out.below hb4);clear hb4))
 clear hlk;go_wp2_with fail
 refine wp_region_noPanic ?_;refine kE (fun w'=>w'.cell? ⟨g,0,none⟩=some (.slice A ns.length c)/\w'.cell? ⟨w.heap.size,0,none⟩=some (.int .i64 kind)/\w'.cell? ⟨w.heap.size,1,none⟩=some (.float .f64 val)/\w'.cell? ⟨w.heap.size,2,none⟩=some (.int .i64 na)/\w'.cell? ⟨w.heap.size,3,none⟩=some (.int .i64 nb)) 10 (by kernel_rfl) ?_;have hSd:(fun w':World=>w'.cell? ⟨g,0,none⟩=some (.slice A ns.length c)/\w'.cell? ⟨w.heap.size,0,none⟩=some (.int .i64 kind)/\w'.cell? ⟨w.heap.size,1,none⟩=some (.float .f64 val)/\w'.cell? ⟨w.heap.size,2,none⟩=some (.int .i64 na)/\w'.cell? ⟨w.heap.size,3,none⟩=some (.int .i64 nb)) w4.drew:=⟨g0,c0,c1,c2,c3⟩;refine aN 0 (.pointer (some ⟨g,0,none⟩)) rfl (by kernel_rfl) (by kernel_rfl) (by kernel_rfl) (by kernel_rfl) (fun _ _ _ h=>h) (by rfl) ?_ (by assumption) ?_
 . intro w' hSw;(try dsimp only at hSw);go_split_ands;go_simp;all_goals first|rfl|done
 try simp only[ayO,ayJ,ayK,ayL]
 refine aN 1 (.pointer (some ⟨g,0,none⟩)) rfl (by kernel_rfl) (by kernel_rfl) (by kernel_rfl) (by kernel_rfl) (fun _ _ _ h=>h) (by rfl) ?_ (by assumption) ?_
 . intro w' hSw;(try dsimp only at hSw);go_split_ands;go_simp;all_goals first|rfl|done
 try simp only[ayO,ayJ,ayK,ayL]
 refine aN 2 (.pointer (some ⟨g,0,none⟩)) rfl (by kernel_rfl) (by kernel_rfl) (by kernel_rfl) (by kernel_rfl) (fun _ _ _ h=>h) (by rfl) ?_ (by assumption) ?_
 . intro w' hSw;(try dsimp only at hSw);go_split_ands;go_simp;all_goals first|rfl|done
 try simp only[ayO,ayJ,ayK,ayL]
 refine aN 3 (.pointer (some ⟨g,0,none⟩)) rfl (by kernel_rfl) (by kernel_rfl) (by kernel_rfl) (by kernel_rfl) (fun _ _ _ h=>h) (by rfl) ?_ (by assumption) ?_
 . intro w' hSw;(try dsimp only at hSw);go_split_ands;go_simp;all_goals first|rfl|done
 try simp only[ayO,ayJ,ayK,ayL]
 refine aN 4 (.slice A ns.length c) rfl (by kernel_rfl) (by kernel_rfl) (by kernel_rfl) (by kernel_rfl) (fun _ _ _ h=>h) (by rfl) ?_ (by assumption) ?_
 . intro w' hSw;(try dsimp only at hSw);go_split_ands;go_simp;all_goals first|rfl|done
 try simp only[ayO,ayJ,ayK,ayL]
 refine aN 5 (.agg #[.int .i64 kind,.float .f64 val,.int .i64 na,.int .i64 nb]) rfl (by kernel_rfl) (by kernel_rfl) (by kernel_rfl) (by kernel_rfl) (fun _ _ _ h=>h) (by rfl) ?_ (by assumption) ?_
 . intro w' hSw;(try dsimp only at hSw);go_split_ands;go_simp;all_goals first|rfl|done
 try simp only[ayO,ayJ,ayK,ayL]
 obtain⟨w5,hw5,hb5,hs5,b5⟩:=pro1 w4.drew (.cells #[.int .i64 kind,.float .f64 val,.int .i64 na,.int .i64 nb] 87);have hdr4:Below w4.heap.size w4 w4.drew:=(ayQ _ _).drew;have h45:Below w4.heap.size w4 w5:=aA hdr4 hb5;have HD5:=hdd (HDF.out.below h45);replace c0:=cbl c0 h45;replace c1:=cbl c1 h45;replace c2:=cbl c2 h45;replace c3:=cbl c3 h45;replace g0:=cbl g0 h45;replace g1:=cbl g1 h45;have HB5:=hdd (aA HBF.out h45);have HC5:=hdd (mR b5);have HS5:Hid (w5.heap.size=w4.heap.size+1):=hdd hs5;clear hb5 hs5 b5 hdr4 h45;refine dE 6 (by kernel_rfl) rfl fun K hK=> ?_;go_simp;refine hK.out _ _ (fun _=>⟨g0,c0,c1,c2,c3⟩) ?_;clear hK
 try simp only[ayO,ayJ,ayK,ayL]
 refine dE 7 (by kernel_rfl) rfl fun K hK=> ?_;refine step_append_lies _ rfl _ _ 27 rfl 0 87 i0 (.agg #[.int .i64 0,.float .f64 0,.int .i64 0,.int .i64 0]) 4 32 vM HI0.out HZ0.out HZ1.out HZ2.out rfl (by decide) (.slice A ns.length c) ns.length (bS ns) rfl HD5.out.2.1 ⟨w4.heap.size,0,none⟩ 1 1 [.int .i64 kind,.float .f64 val,.int .i64 na,.int .i64 nb] rfl rfl HC5.out (by simp[ay0]) (by decide) (by have:=HLEN.out;unfold maxLen;omega) (by have:=HLEN.out;omega) (Nat.zero_le _) w5.heap.size rfl ?_;intro r cap w6 hown6 hgr6 hat6 hlt6;have hm:=agK HO.out HD5.out hgr6 (.slice (some ⟨r,0,none⟩) (ns.length+1) cap);obtain⟨q1,q2,q4⟩:=hm;obtain⟨q4,q5⟩:=q4 w.heap.size nlr (ayX w5 _ c0);obtain⟨w7,hw7⟩:∃w7,w6.setCell ⟨g,0,none⟩ (.slice (some ⟨r,0,none⟩) (ns.length+1) cap)=w7:=⟨_,rfl⟩;obtain⟨g0',g1',gf0',-⟩:=aB q1;have d0:=(ayM (a:=⟨w.heap.size,0,none⟩) q4).trans c0;have d1:=(ayM (a:=⟨w.heap.size,1,none⟩) q4).trans c1
 have d2:=(ayM (a:=⟨w.heap.size,2,none⟩) q4).trans c2;have d3:=(ayM (a:=⟨w.heap.size,3,none⟩) q4).trans c3;have HO6:=hdd hown6;have HG6:=hdd hgr6;have HA6:=hdd hat6;have HW7:=hdd hw7;rw[hw7]at q2 q5;have HQ2:=hdd q2;have HQ5:=hdd q5;refine hK.out _ _ (fun _=>⟨g0',d0,d1,d2,d3⟩) ?_;clear hK hown6 hgr6 hat6 hlt6 q1 q2 q4 q5
 try simp only[ayO,ayJ,ayK,ayL]
 refine dE 8 (by kernel_rfl) rfl fun K hK=> ?_;go_simp;refine hK.out _ _ (fun _=>⟨g0',d0,d1,d2,d3⟩) ?_;clear hK
 try simp only[ayO,ayJ,ayK,ayL]
 refine dE 9 (by kernel_rfl) rfl fun K hK=> ?_;go_simp;refine hK.out _ _ (fun _=>⟨g0',d0,d1,d2,d3⟩) ?_;clear hK
 try simp only[ayO,ayJ,ayK,ayL]
 refine dE 10 (by kernel_rfl) rfl fun K hK=> ?_;go_simp;refine hK.out _ _ (fun h=>absurd rfl h) ?_;clear hK;refine lW (by kernel_rfl) ?_;refine NoPanic.normal ?_;obtain⟨p0,p1,-,-⟩:=aB HQ2.out;have e0:=(ayM (a:=⟨w.heap.size,0,none⟩) HQ5.out).trans c0;have e1:=(ayM (a:=⟨w.heap.size,1,none⟩) HQ5.out).trans c1;have e2:=(ayM (a:=⟨w.heap.size,2,none⟩) HQ5.out).trans c2;have e3:=(ayM (a:=⟨w.heap.size,3,none⟩) HQ5.out).trans c3;clear d0 d1 d2 d3 g0' g1' gf0' c0 c1 c2 c3 g0 g1 hw5;go_wp2
 go_ret2
 refine agJ HO.out HB5.out HO6.out HG6.out HA6.out ?_ HLEN.out HV.out;rw[HW7.out];have hz:w7.heap.size=w6.heap.size:=by rw[<-HW7.out];simp[ayR]
 rw[<-hz];exact ayQ _ _
theorem aiB(hd:DagP w g ns)(hn:NdIn n ns.length)(hv:n.val<18446744073709551616)(hl:ns.length<20000):
 Calls Tryz.prog 100 #[.pointer (some ⟨g,0,none⟩),iA n] w (tV w g ns n):=hd.elim (fun h=>agI h hn hv hl) (fun h=>aiA h hn hv hl)
end Go.Proofs.YtkadpnljocflaaaGreatDoor
