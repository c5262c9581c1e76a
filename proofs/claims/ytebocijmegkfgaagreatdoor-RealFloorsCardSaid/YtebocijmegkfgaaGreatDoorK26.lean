/- A part of the proof: contracts of functions and plain laws (DagC, DagE, DagF, RlA). -/
import Derived.Test.YtebocijmegkfgaaGreatDoorK25
import Derived.Test.YtebocijmegkfgaaGreatDoorK07
import Derived.Deep.AppendLies
import Derived.Test.YtebocijmegkfgaaGreatDoorK20
import Derived.Test.YtebocijmegkfgaaGreatDoorK22
import Derived.Test.YtebocijmegkfgaaGreatDoorK23
import Derived.Lib.Builder
set_option linter.unusedVariables false
set_option linter.unusedSimpArgs false
set_option maxHeartbeats 25600000
set_option maxRecDepth 100000
namespace Go.Proofs.YtebocijmegkfgaaGreatDoor
open Go.RowKit Go.Maps
open Go.Act renaming put->ayJ
open Go.RowKit.Below renaming refl->ayL,heap_setCell->ayM
open Go.Value renaming ownBlock->ayK
open Go.World renaming cell?_of_block->ayG,setCell->ayP
open List renaming setIfInBounds_toArray->ayD,set_cons_zero->ayE,set_cons_succ->ayF,getElem?_eq_getElem->ayI,getElem?_append_left->ayN,getElem?_eq_some_iff->ayO,length_cons->ayR
open Option.some renaming inj->ayH,injEq->ayQ
variable{a e0:Ex}{l:List Nat}{b c i i0 j k mb:Nat}{n:Nd}{A:Option Addr}{v:Value}{m:Value->Option Value}
def DagO(w:World)(g:Nat)(ns:List Nd)(A:Option Addr)(c mb:Nat)(m:Value->Option Value):Prop:=
 w.heap[g]? =some (.cells #[.slice A ns.length c,.map (some mb)] 96 (0,0))/\w.ownsRow 0 111 4 (.slice A ns.length c) ns.length (dR ns)/\MapP Tryz.prog 273 w mb m/\
  KeyOk ns m/\(Value.slice A ns.length c).ownBlock≠some g/\mb≠g/\(Value.slice A ns.length c).ownBlock≠some mb/\ns.length<=20000/\∀n∈ns,n.val<18446744073709551616
theorem DagP.opened {w:World}{g:Nat}{ns:List Nd}(h:DagP w g ns):∃A c mb m,DagO w g ns A c mb m:=by
 obtain⟨v,mb,m,h1,h2,h3⟩:=h;rcases id h2.2 with ⟨rfl,hn⟩|⟨r,cap,cur,rfl,-⟩
 . exact⟨none,0,mb,m,by rw[hn];exact h1,by rw[hn];rw[hn]at h2;exact h2,h3.1,h3.2.1,by simp[ayK],h3.2.2.2.1,by simp[ayK],h3.2.2.2.2.2.1,h3.2.2.2.2.2.2⟩
 . exact⟨_,cap,mb,m,h1,h2,h3.1,h3.2.1,h3.2.2.1,h3.2.2.2.1,h3.2.2.2.2.1,h3.2.2.2.2.2.1,h3.2.2.2.2.2.2⟩
theorem DagO.dag {w:World}{g:Nat}{ns:List Nd}(h:DagO w g ns A c mb m):DagP w g ns:=by
 obtain⟨h1,h2,h3,h4,h5,h6,h7,h8,h9⟩:=h;exact⟨_,mb,m,h1,h2,h3,h4,h5,h6,h7,h8,h9⟩
theorem DagO.dagB {w:World}{g:Nat}{ns:List Nd}(h:DagO w g ns A c mb m)(hb:¬DagB w g b):b≠g/\b≠mb/\(Value.slice A ns.length c).ownBlock≠some b:=by
 obtain⟨h1,-⟩:=h;exact⟨fun e=>hb (Or.inl e),fun e=>hb (Or.inr ⟨_,mb,_,h1,Or.inr e.symm⟩),fun e=>hb (Or.inr ⟨_,mb,_,h1,Or.inl e⟩)⟩
theorem DagO.below {w w':World}{g:Nat}{ns:List Nd}(h:DagO w g ns A c mb m)(hb:Below w.heap.size w w'):DagO w' g ns A c mb m:=by
 obtain⟨h1,h2,h3,h4,h5,h6,h7,h8,h9⟩:=h;refine⟨hbl h1 hb,h2.kept (bJ (row:=none) hb) ?_,h3.below hb h3.lt,h4,h5,h6,h7,h8,h9⟩
 cases hv:(Value.slice A ns.length c).ownBlock
 . exact Or.inl rfl
 . exact Or.inr (by simp)
theorem tO(ns:List Nd)(n:Nd):dR (ns++[n])=dR ns++fA n:=by simp[dR]
def agG(w:World)(g:Nat)(ns:List Nd)(n:Nd)(e:Ending)(w':World):Prop:=
 ∃(i:Nat) (ns':List Nd),e=.returned (.tuple #[.int .i64 (i:Int),.nilIface])/\DagP w' g ns'/\ns'[i]? =some n/\(ns'=ns\/ns'=ns++[n])/\DS g w w'
theorem grownBy_refl(w:World)(row:Option Nat):w.grownBy w row:=⟨rfl,rfl,rfl,Nat.le_refl _,fun _ _ _=>rfl⟩
theorem ah4{w wA wB wD wE:World}{g r cap:Nat}{ns:List Nd}{m':Value->Option Value}(h:DagO w g ns A c mb m)(hA:Below w.heap.size w wA)
 (hO:wB.ownsRow 0 111 4 (.slice (some ⟨r,0,none⟩) (ns.length+1) cap) (ns.length+1) (dR ns++fA n)) (hB:wA.grownBy wB (Value.slice A ns.length c).ownBlock) (hat:(Value.slice A ns.length c).ownBlock=some r\/r=wA.heap.size)
 (hD:Below wB.heap.size (wB.setCell ⟨g,0,none⟩ (.slice (some ⟨r,0,none⟩) (ns.length+1) cap)) wD) (hM:MapP Tryz.prog 273 wE mb m') (hE:wD.grownBy wE (some mb)) (hu:Upd m (keyV n) (some (.int .i64 (ns.length:Int))) m')
 (hl:ns.length<20000) (hv:n.val<18446744073709551616) (hno:m (keyV n)=none):
 agG w g ns n (.returned (.tuple #[.int .i64 (ns.length:Int),.nilIface])) wE:=by
 obtain⟨h1,h2,h3,h4,h5,h6,h7,h8,h9⟩:=id h;have lg:=aF h1;have lm:=h3.lt;have sA:=hA.size;have sB:=hB.size;have hrg:r≠g:=fun e=>hat.elim (fun h=>h5 (by rw[<-e];exact h)) (fun h=>by omega);have hrm:r≠mb:=fun e=>hat.elim (fun h=>h7 (by rw[<-e];exact h)) (fun h=>by omega);have hrB:r<wB.heap.size:=(hO.lt r rfl).2;have szC:(wB.setCell ⟨g,0,none⟩ (.slice (some ⟨r,0,none⟩) (ns.length+1) cap)).heap.size=wB.heap.size:=by simp[ayP]
 have far:∀b,b<w.heap.size->b≠g->b≠mb->(Value.slice A ns.length c).ownBlock≠some b->wE.heap[b]? =w.heap[b]? :=fun b hb q1 q2 q3=>
  (hE.block b (by have:=hD.size;omega) (fun e=>q2 (ayH e))).trans ((hD.block b (by omega)).trans ((ayM wB _ _ b (by simpa using q1)).trans ((hB.block b (by omega) (fun e=>q3 e.symm)).trans (hA.block b hb))))
 have eg:wB.heap[g]? =some (.cells #[.slice A ns.length c,.map (some mb)] 96 (0,0)):=(hB.block g (by omega) (fun e=>h5 e.symm)).trans ((hA.block g lg).trans h1);have eC:(wB.setCell ⟨g,0,none⟩ (.slice (some ⟨r,0,none⟩) (ns.length+1) cap)).heap[g]? =some (.cells #[.slice (some ⟨r,0,none⟩) (ns.length+1) cap,.map (some mb)] 96 (0,0)):=by
  have hg:g<wB.heap.size:=aF eg;have h':wB.heap[g]=.cells #[.slice A ns.length c,.map (some mb)] 96 (0,0):=(Array.getElem?_eq_some_iff.1 eg).2;simp[ayP,hg,Array.getElem_modify,h']
 have eE:wE.heap[g]? =some (.cells #[.slice (some ⟨r,0,none⟩) (ns.length+1) cap,.map (some mb)] 96 (0,0)):=
  (hE.block g (by have:=hD.size;omega) (fun e=>h6 (ayH e).symm)).trans ((hD.block g (by omega)).trans eC)
 have hO1:=hO.kept (grownBy_set (grownBy_refl wB (some g)) (i:=0) (.slice (some ⟨r,0,none⟩) (ns.length+1) cap)) (Or.inr (fun e=>hrg (ayH e)));have hO2:=hO1.kept (bJ (row:=none) (by rw[szC];exact hD)) (Or.inr (by simp[ayK]));have hO3:=hO2.kept hE (Or.inr (fun e=>hrm (ayH e)));have sz:w.heap.size<=wE.heap.size:=by have:=hD.size;have:=hE.size;omega
 refine⟨ns.length,ns++[n],rfl,⟨.slice (some ⟨r,0,none⟩) (ns.length+1) cap,mb,m',?_,?_,hM,?_,?_,h6,?_,by simp;omega,?_⟩,by simp,Or.inr rfl,⟨⟨?_,?_,?_,sz,?_⟩,?_⟩⟩
 . exact eE
 . rw[tO];simpa using hO3
 . refine⟨fun key val hk=> ?_,fun i n' hi=> ?_⟩
   . by_cases hkn:key=keyV n
     . subst hkn
       rw[hu.1]at hk;exact⟨ns.length,n,by simp,(ayH hk).symm,rfl⟩
     . rw[hu.2 key hkn]at hk
       obtain⟨i,n',q1,q2,q3⟩:=h4.1 key val hk;exact⟨i,n',by rw[ayN (ayO.1 q1).1];exact q1,q2,q3⟩
   . rcases Nat.lt_or_ge i ns.length with hlt|hge
     . rw[ayN hlt]at hi
       have h1:=h4.2 i n' hi;rw[hu.2 _ (fun e=>by rw[e,hno]at h1;cases h1)];exact h1
     . have hie:=(ayO.1 hi).1
       rw[List.length_append,List.length_singleton]at hie;have:i=ns.length:=by omega
       subst this;rw[List.getElem?_append_right nlr,Nat.sub_self]at hi;have:n=n':=ayH hi;rw[<-this];exact hu.1
 . exact fun e=>hrg (ayH e)
 . exact fun e=>hrm (ayH e)
 . intro x hx
   rcases List.mem_append.1 hx with hx|hx
   . exact h9 x hx
   . simp at hx;rw[hx];exact hv
 . exact hE.os.trans (hD.os.trans (hB.os.trans hA.os))
 . exact hE.tape.trans (hD.tape.trans (hB.tape.trans hA.tape))
 . exact hE.output.trans (hD.output.trans (hB.output.trans hA.output))
 . intro b hb hn
   obtain⟨q1,q2,q3⟩:=h.dagB hn;exact far b hb q1 q2 q3
 . rintro b hb hn(rfl|⟨v',mb',T',e,hd⟩)
   . exact(h.dagB hn).1 rfl
   . obtain⟨q1,q2,q3⟩:=h.dagB hn
     rw[eE]at e;simp only[ayQ,Obj.cells.injEq,Array.mk.injEq,List.cons.injEq,Value.map.injEq,and_true]at e;obtain⟨⟨rfl,rfl⟩,-⟩:=e;rcases hd with hd|rfl
     . have:r=b:=ayH hd
       subst this;exact hat.elim q3 (fun h=>by omega)
     . exact q2 rfl
theorem uC{w:World}{g:Nat}{T:TypeId}{a b c d:Value}(h:w.heap[g]? =some (.cells #[a,b,c,d] T (0,0))):∀j x,[a,b,c,d][j]? =some x->w.cell? ((⟨g,0,none⟩:Addr).add j)=some x:=by
 intro j x hx;rcases j with _|_|_|_|j
 all_goals first|(simp at hx;subst hx;simp[World.cell?,Addr.add,h])|(simp at hx)
theorem ah5{w w5 w6:World}{g:Nat}{ns:List Nd}(h:DagO w g ns A c mb m)(h5:DagO w5 g ns A c mb m)(hg:w5.grownBy w6 (Value.slice A ns.length c).ownBlock)(hs:w.heap.size<=w5.heap.size)(nv:Value):
 w6.heap[g]? =some (.cells #[.slice A ns.length c,.map (some mb)] 96 (0,0))/\(w6.setCell ⟨g,0,none⟩ nv).heap[g]? =some (.cells #[nv,.map (some mb)] 96 (0,0))/\MapP Tryz.prog 273 (w6.setCell ⟨g,0,none⟩ nv) mb m/\
  ∀b,w.heap.size<=b->b<w5.heap.size->w6.heap[b]? =w5.heap[b]? /\(w6.setCell ⟨g,0,none⟩ nv).heap[b]? =w5.heap[b]? :=by
 obtain⟨h1,h2,h3,h4,h5',h6,h7,h8,h9⟩:=id h;have lg:=aF h1;have lm:=h3.lt;have eg:=(hg.block g (by omega) (fun e=>h5' e.symm)).trans h5.1;have em:w6.heap[mb]? =w5.heap[mb]? :=hg.block mb (by omega) (fun e=>h7 e.symm);refine⟨eg,?_,h5.2.2.1.keep ((ayM w6 _ _ mb (by simpa using h6)).trans em),fun b hb hlt=> ?_⟩
 . have hgl:g<w6.heap.size:=aF eg
   have h':w6.heap[g]=.cells #[.slice A ns.length c,.map (some mb)] 96 (0,0):=(Array.getElem?_eq_some_iff.1 eg).2;simp[ayP,hgl,Array.getElem_modify,h']
 . have e:=hg.block b hlt (fun e=>by have:=jJ h2 b e.symm;omega)
   exact⟨e,(ayM w6 _ _ b (by simp;omega)).trans e⟩
theorem ah6{w:World}{g:Nat}{ns:List Nd}(hd:DagP w g ns)(hn:NdIn n ns.length)(hv:n.val<18446744073709551616)(hl:ns.length<20000):
 Calls Tryz.prog 158 #[.pointer (some ⟨g,0,none⟩),jE n] w (agG w g ns n):=by
 obtain⟨A,c,mb,m,ho⟩:=hd.opened;obtain⟨w1,hw1,hb1,hs1,b1⟩:=pro1 w (.cells (fA n).toArray 111);have hkey:∃kl,keyOf Tryz.prog 273 (keyV n)=some kl:=by
  have hk:Sm64 n.kind/\Sm64 n.a/\Sm64 n.b:=by
   rcases hn.1 with ⟨q1,q2,q3⟩|⟨q1,q2,q3,q4⟩|⟨q1,q2,q3,q4⟩<;>unfold Sm64<;>omega
  exact agE hk.1 hk.2.1 hk.2.2 hv
 obtain⟨kl,hkey⟩:=hkey;have HO:=hdd ho;have HO1:=hdd (ho.below hb1);have HB1:=hdd hb1;have HT:=hdd (adN (hd.below hb1) hn hv);have HKO:Hid (∀w',Calls Tryz.prog 206 #[.agg #[.int .i64 n.kind,.float .f64 n.val,.int .i64 n.a,.int .i64 n.b]] w' (RetV w' (keyV n))):=hdd fun w'=>adL;have HKEY:=hdd hkey;obtain⟨kind,val,na,nb⟩:=n;simp only[fA,jE]at b1 hw1|-;obtain⟨c0,c1,c2,c3⟩:=bM b1;obtain⟨g0,g1,gf0,gf1⟩:=aB HO1.out.1;have HLEN:=hdd hl;have HV:=hdd hv;have hlI:(ns.length:Int)<20000:=by omega
 have hl0:(0:Int)<=(ns.length:Int):=by omega
 have hneq:=fun(w:World) (r:Option Nat)=>run_neq_map_nil w _ _ _ r qZ;clear hd hn hb1 hs1 b1 ho hkey hv hl
 cases hmk:m (keyV ⟨kind,val,na,nb⟩)with
 |some v=>
  obtain⟨i,n',q1,rfl,q3⟩:=HO.out.2.2.2.1.1 _ _ hmk;have q4:=agF q3;subst q4;have HQ:=hdd q1;have HMS:Hid ((m (keyV ⟨kind,val,na,nb⟩)).getD (.int .i64 0)=.int .i64 (i:Int)):=hdd (by rw[hmk];rfl);have HMI:Hid ((m (keyV ⟨kind,val,na,nb⟩)).isSome=true):=hdd (by rw[hmk];rfl);clear hmk q1 q3;go_enter Tryz.func158,Tryz.ntmps158
  go_wp2_with fail
  refine HT.out.mono ?_;rintro e w2⟨rfl,hb2⟩;replace c0:=cbl c0 hb2;replace c1:=cbl c1 hb2;replace c2:=cbl c2 hb2;replace c3:=cbl c3 hb2;replace g0:=cbl g0 hb2;replace g1:=cbl g1 hb2;have HB2:=hdd (aA HB1.out hb2);have HD2:=hdd (((HO1.out.below hb2).below (ayL _ _).drew));clear hb2 gf0 gf1;go_wp2_with fail
  have hdr:Below w2.heap.size w2 w2.drew:=(ayL _ _).drew;replace c0:=cbl c0 hdr;replace c1:=cbl c1 hdr;replace c2:=cbl c2 hdr;replace c3:=cbl c3 hdr;replace g0:=cbl g0 hdr;replace g1:=cbl g1 hdr;clear hdr
  go_region_held3 (fun w'=>w'.cell? ⟨g,1,none⟩=some (.map (some mb))/\w'.cell? ⟨w.heap.size,0,none⟩=some (.int .i64 kind)/\w'.cell? ⟨w.heap.size,1,none⟩=some (.float .f64 val)/\w'.cell? ⟨w.heap.size,2,none⟩=some (.int .i64 na)/\w'.cell? ⟨w.heap.size,3,none⟩=some (.int .i64 nb)) (go_keep)
   (first
   |(go_at_call 206
     refine(HKO.out _).mono ?_;rintro e w4⟨rfl,hb4⟩;have c0:=cbl c0 hb4;have c1:=cbl c1 hb4;have c2:=cbl c2 hb4;have c3:=cbl c3 hb4;have g0:=cbl g0 hb4;have g1:=cbl g1 hb4;have hlk:=(HD2.out.below hb4).2.2.1.look pJ qZ (dX w4) HKEY.out true;rw[if_pos rfl,HMS.out,HMI.out]at hlk;unfold keyV at*;have HBF:=hdd (aA (aA HB2.out (ayL _ _).drew) hb4);have HDF:=hdd (HD2.out.below hb4);clear hb4))
  go_wp2
  go_ret2
  exact⟨i,ns,rfl,HDF.out.dag,HQ.out,Or.inl rfl,DS.of_below HO.out.dag.glt HBF.out⟩
 |none=>
  have HMS:Hid ((m (keyV ⟨kind,val,na,nb⟩)).getD (.int .i64 0)=.int .i64 0):=hdd (by rw[hmk];rfl);have HMI:Hid ((m (keyV ⟨kind,val,na,nb⟩)).isSome=false):=hdd (by rw[hmk];rfl);obtain⟨m',hu⟩:=jR m (keyV ⟨kind,val,na,nb⟩) (some (.int .i64 (ns.length:Int)));have HU:=hdd hu;have HNO:=hdd hmk;obtain⟨i0,hi0,hz0,hz1,hz2⟩:=info_parts adP;have HI0:=hdd hi0;have HZ0:=hdd hz0;have HZ1:=hdd hz1;have HZ2:=hdd hz2;clear hmk hu hi0 hz0 hz1 hz2;go_enter Tryz.func158,Tryz.ntmps158
  go_wp2_with fail
  refine HT.out.mono ?_;rintro e w2⟨rfl,hb2⟩;replace c0:=cbl c0 hb2;replace c1:=cbl c1 hb2;replace c2:=cbl c2 hb2;replace c3:=cbl c3 hb2;replace g0:=cbl g0 hb2;replace g1:=cbl g1 hb2;have HB2:=hdd (aA HB1.out hb2);have HD2:=hdd (((HO1.out.below hb2).below (ayL _ _).drew));clear hb2 gf0 gf1;go_wp2_with fail
  have hdr:Below w2.heap.size w2 w2.drew:=(ayL _ _).drew;replace c0:=cbl c0 hdr;replace c1:=cbl c1 hdr;replace c2:=cbl c2 hdr;replace c3:=cbl c3 hdr;replace g0:=cbl g0 hdr;replace g1:=cbl g1 hdr;clear hdr
  go_region_held3 (fun w'=>w'.cell? ⟨g,1,none⟩=some (.map (some mb))/\w'.cell? ⟨w.heap.size,0,none⟩=some (.int .i64 kind)/\w'.cell? ⟨w.heap.size,1,none⟩=some (.float .f64 val)/\w'.cell? ⟨w.heap.size,2,none⟩=some (.int .i64 na)/\w'.cell? ⟨w.heap.size,3,none⟩=some (.int .i64 nb)) (go_keep)
   (first
   |(go_at_call 206
     refine(HKO.out _).mono ?_;rintro e w4⟨rfl,hb4⟩;have c0:=cbl c0 hb4;have c1:=cbl c1 hb4;have c2:=cbl c2 hb4;have c3:=cbl c3 hb4;have g0:=cbl g0 hb4;have g1:=cbl g1 hb4;have hlk:=(HD2.out.below hb4).2.2.1.look pJ qZ (dX w4) HKEY.out true;rw[if_pos rfl,HMS.out,HMI.out]at hlk;unfold keyV at*;have HBF:=hdd (aA (aA HB2.out (ayL _ _).drew) hb4);have HDF:=hdd (HD2.out.below hb4);clear hb4))
  clear hlk;go_wp2_with fail
  refine wp_region_noPanic ?_;refine mO (fun w'=>w'.cell? ⟨g,0,none⟩=some (.slice A ns.length c)/\w'.cell? ⟨w.heap.size,0,none⟩=some (.int .i64 kind)/\w'.cell? ⟨w.heap.size,1,none⟩=some (.float .f64 val)/\w'.cell? ⟨w.heap.size,2,none⟩=some (.int .i64 na)/\w'.cell? ⟨w.heap.size,3,none⟩=some (.int .i64 nb)) 10 (by kernel_rfl) ?_;have hSd:(fun w':World=>w'.cell? ⟨g,0,none⟩=some (.slice A ns.length c)/\w'.cell? ⟨w.heap.size,0,none⟩=some (.int .i64 kind)/\w'.cell? ⟨w.heap.size,1,none⟩=some (.float .f64 val)/\w'.cell? ⟨w.heap.size,2,none⟩=some (.int .i64 na)/\w'.cell? ⟨w.heap.size,3,none⟩=some (.int .i64 nb)) w4.drew:=⟨g0,c0,c1,c2,c3⟩;refine aY 0 (.pointer (some ⟨g,0,none⟩)) rfl (by kernel_rfl) (by kernel_rfl) (by kernel_rfl) (by kernel_rfl) (fun _ _ _ h=>h) (by rfl) ?_ (by assumption) ?_
  . intro w' hSw;(try dsimp only at hSw);go_split_ands;go_simp;all_goals first|rfl|done
  try simp only[ayJ,ayD,ayE,ayF]
  refine aY 1 (.pointer (some ⟨g,0,none⟩)) rfl (by kernel_rfl) (by kernel_rfl) (by kernel_rfl) (by kernel_rfl) (fun _ _ _ h=>h) (by rfl) ?_ (by assumption) ?_
  . intro w' hSw;(try dsimp only at hSw);go_split_ands;go_simp;all_goals first|rfl|done
  try simp only[ayJ,ayD,ayE,ayF]
  refine aY 2 (.pointer (some ⟨g,0,none⟩)) rfl (by kernel_rfl) (by kernel_rfl) (by kernel_rfl) (by kernel_rfl) (fun _ _ _ h=>h) (by rfl) ?_ (by assumption) ?_
  . intro w' hSw;(try dsimp only at hSw);go_split_ands;go_simp;all_goals first|rfl|done
  try simp only[ayJ,ayD,ayE,ayF]
  refine aY 3 (.pointer (some ⟨g,0,none⟩)) rfl (by kernel_rfl) (by kernel_rfl) (by kernel_rfl) (by kernel_rfl) (fun _ _ _ h=>h) (by rfl) ?_ (by assumption) ?_
  . intro w' hSw;(try dsimp only at hSw);go_split_ands;go_simp;all_goals first|rfl|done
  try simp only[ayJ,ayD,ayE,ayF]
  refine aY 4 (.slice A ns.length c) rfl (by kernel_rfl) (by kernel_rfl) (by kernel_rfl) (by kernel_rfl) (fun _ _ _ h=>h) (by rfl) ?_ (by assumption) ?_
  . intro w' hSw;(try dsimp only at hSw);go_split_ands;go_simp;all_goals first|rfl|done
  try simp only[ayJ,ayD,ayE,ayF]
  refine aY 5 (.agg #[.int .i64 kind,.float .f64 val,.int .i64 na,.int .i64 nb]) rfl (by kernel_rfl) (by kernel_rfl) (by kernel_rfl) (by kernel_rfl) (fun _ _ _ h=>h) (by rfl) ?_ (by assumption) ?_
  . intro w' hSw;(try dsimp only at hSw);go_split_ands;go_simp;all_goals first|rfl|done
  try simp only[ayJ,ayD,ayE,ayF]
  obtain⟨w5,hw5,hb5,hs5,b5⟩:=pro1 w4.drew (.cells #[.int .i64 kind,.float .f64 val,.int .i64 na,.int .i64 nb] 111);have hdr4:Below w4.heap.size w4 w4.drew:=(ayL _ _).drew;have h45:Below w4.heap.size w4 w5:=aA hdr4 hb5;have HD5:=hdd (HDF.out.below h45);replace c0:=cbl c0 h45;replace c1:=cbl c1 h45;replace c2:=cbl c2 h45;replace c3:=cbl c3 h45;replace g0:=cbl g0 h45;replace g1:=cbl g1 h45;have HB5:=hdd (aA HBF.out h45);have HC5:=hdd (uC b5);have HS5:Hid (w5.heap.size=w4.heap.size+1):=hdd hs5;clear hb5 hs5 b5 hdr4 h45;refine fH 6 (by kernel_rfl) rfl fun K hK=> ?_;go_simp;refine hK.out _ _ (fun _=>⟨g0,c0,c1,c2,c3⟩) ?_;clear hK
  try simp only[ayJ,ayD,ayE,ayF]
  refine fH 7 (by kernel_rfl) rfl fun K hK=> ?_;refine step_append_lies _ rfl _ _ 28 rfl 0 111 i0 (.agg #[.int .i64 0,.float .f64 0,.int .i64 0,.int .i64 0]) 4 32 adO HI0.out HZ0.out HZ1.out HZ2.out rfl (by decide) (.slice A ns.length c) ns.length (dR ns) rfl HD5.out.2.1 ⟨w4.heap.size,0,none⟩ 1 1 [.int .i64 kind,.float .f64 val,.int .i64 na,.int .i64 nb] rfl rfl HC5.out (by simp[Value.oneCell']) (by decide) (by have:=HLEN.out;unfold maxLen;omega) (by have:=HLEN.out;omega) (Nat.zero_le _) w5.heap.size rfl ?_;intro r cap w6 hown6 hgr6 hat6 hlt6;have hm:=ah5 HO.out HD5.out hgr6 HB5.out.size (.slice (some ⟨r,0,none⟩) (ns.length+1) cap);obtain⟨q1,q2,q3,q4⟩:=hm;obtain⟨q4,q5⟩:=q4 w.heap.size nlr (World.block_lt_of_cell? w5 _ c0);obtain⟨w7,hw7⟩:∃w7,w6.setCell ⟨g,0,none⟩ (.slice (some ⟨r,0,none⟩) (ns.length+1) cap)=w7:=⟨_,rfl⟩;obtain⟨g0',g1',gf0',-⟩:=aB q1;have d0:=(ayG (a:=⟨w.heap.size,0,none⟩) q4).trans c0;have d1:=(ayG (a:=⟨w.heap.size,1,none⟩) q4).trans c1
  have d2:=(ayG (a:=⟨w.heap.size,2,none⟩) q4).trans c2;have d3:=(ayG (a:=⟨w.heap.size,3,none⟩) q4).trans c3;have HO6:=hdd hown6;have HG6:=hdd hgr6;have HA6:=hdd hat6;have HW7:=hdd hw7;rw[hw7]at q2 q3 q5;have HQ2:=hdd q2;have HQ3:=hdd q3;have HQ5:=hdd q5;refine hK.out _ _ (fun _=>⟨g0',d0,d1,d2,d3⟩) ?_;clear hK hown6 hgr6 hat6 hlt6 q1 q2 q3 q4 q5
  try simp only[ayJ,ayD,ayE,ayF]
  refine fH 8 (by kernel_rfl) rfl fun K hK=> ?_;go_simp;refine hK.out _ _ (fun _=>⟨g0',d0,d1,d2,d3⟩) ?_;clear hK
  try simp only[ayJ,ayD,ayE,ayF]
  refine fH 9 (by kernel_rfl) rfl fun K hK=> ?_;go_simp;refine hK.out _ _ (fun _=>⟨g0',d0,d1,d2,d3⟩) ?_;clear hK
  try simp only[ayJ,ayD,ayE,ayF]
  refine fH 10 (by kernel_rfl) rfl fun K hK=> ?_;go_simp;refine hK.out _ _ (fun h=>absurd rfl h) ?_;clear hK;refine oO (by kernel_rfl) ?_;refine NoPanic.normal ?_;obtain⟨p0,p1,-,-⟩:=aB HQ2.out;have e0:=(ayG (a:=⟨w.heap.size,0,none⟩) HQ5.out).trans c0;have e1:=(ayG (a:=⟨w.heap.size,1,none⟩) HQ5.out).trans c1;have e2:=(ayG (a:=⟨w.heap.size,2,none⟩) HQ5.out).trans c2;have e3:=(ayG (a:=⟨w.heap.size,3,none⟩) HQ5.out).trans c3;clear d0 d1 d2 d3 g0' g1' gf0' c0 c1 c2 c3 g0 g1 hw5;go_wp2_with fail
  refine wp_region_noPanic ?_;refine mO (fun w'=>w'.cell? ⟨g,1,none⟩=some (.map (some mb))/\w'.cell? ⟨w.heap.size,0,none⟩=some (.int .i64 kind)/\w'.cell? ⟨w.heap.size,1,none⟩=some (.float .f64 val)/\w'.cell? ⟨w.heap.size,2,none⟩=some (.int .i64 na)/\w'.cell? ⟨w.heap.size,3,none⟩=some (.int .i64 nb)) 7 (by kernel_rfl) ?_;have hSd2:(fun w':World=>w'.cell? ⟨g,1,none⟩=some (.map (some mb))/\w'.cell? ⟨w.heap.size,0,none⟩=some (.int .i64 kind)/\w'.cell? ⟨w.heap.size,1,none⟩=some (.float .f64 val)/\w'.cell? ⟨w.heap.size,2,none⟩=some (.int .i64 na)/\w'.cell? ⟨w.heap.size,3,none⟩=some (.int .i64 nb)) w7.drew:=⟨p1,e0,e1,e2,e3⟩;refine aY 0 (.pointer (some ⟨g,0,none⟩)) rfl (by kernel_rfl) (by kernel_rfl) (by kernel_rfl) (by kernel_rfl) (fun _ _ _ h=>h) (by rfl) ?_ (by assumption) ?_
  . intro w' hSw;(try dsimp only at hSw);go_split_ands;go_simp;all_goals first|rfl|done
  try simp only[ayJ,ayD,ayE,ayF]
  refine aY 1 (.pointer (some ⟨g,0,none⟩)) rfl (by kernel_rfl) (by kernel_rfl) (by kernel_rfl) (by kernel_rfl) (fun _ _ _ h=>h) (by rfl) ?_ (by assumption) ?_
  . intro w' hSw;(try dsimp only at hSw);go_split_ands;go_simp;all_goals first|rfl|done
  try simp only[ayJ,ayD,ayE,ayF]
  refine aY 2 (.pointer (some ⟨g,1,none⟩)) rfl (by kernel_rfl) (by kernel_rfl) (by kernel_rfl) (by kernel_rfl) (fun _ _ _ h=>h) (by rfl) ?_ (by assumption) ?_
  . intro w' hSw;(try dsimp only at hSw);go_split_ands;go_simp;all_goals first|rfl|done
  try simp only[ayJ,ayD,ayE,ayF]
  refine aY 3 (.map (some mb)) rfl (by kernel_rfl) (by kernel_rfl) (by kernel_rfl) (by kernel_rfl) (fun _ _ _ h=>h) (by rfl) ?_ (by assumption) ?_
  . intro w' hSw;(try dsimp only at hSw);go_split_ands;go_simp;all_goals first|rfl|done
  try simp only[ayJ,ayD,ayE,ayF]
  refine aY 4 (.agg #[.int .i64 kind,.float .f64 val,.int .i64 na,.int .i64 nb]) rfl (by kernel_rfl) (by kernel_rfl) (by kernel_rfl) (by kernel_rfl) (fun _ _ _ h=>h) (by rfl) ?_ (by assumption) ?_
  . intro w' hSw;(try dsimp only at hSw);go_split_ands;go_simp;all_goals first|rfl|done
  try simp only[ayJ,ayD,ayE,ayF]
  refine aY 6 (.int .i64 (ns.length:Int)) rfl (by kernel_rfl) (by kernel_rfl) (by kernel_rfl) (by kernel_rfl) (fun _ _ _ h=>h) (by rfl) ?_ (by assumption) ?_
  . intro w' hSw;(try dsimp only at hSw);go_split_ands;go_simp;all_goals first|rfl|done
  try simp only[ayJ,ayD,ayE,ayF]
  refine fH 5 (by kernel_rfl) rfl fun K hK=> ?_;go_simp;refine(HKO.out _).mono ?_;rintro e w8⟨rfl,hb8⟩;have h78:Below w7.heap.size w7 w8:=aA (ayL _ _).drew hb8;have HB8:=hdd h78;have HM8:=hdd (HQ3.out.below h78 HQ3.out.lt);replace p0:=cbl p0 h78;replace p1:=cbl p1 h78;replace e0:=cbl e0 h78;replace e1:=cbl e1 h78;replace e2:=cbl e2 h78;replace e3:=cbl e3 h78;clear h78 hb8;refine hK.out _ _ (fun _=>⟨p1,e0,e1,e2,e3⟩) ?_;clear hK
  try simp only[ayJ,ayD,ayE,ayF]
  refine fH 7 (by kernel_rfl) rfl fun K hK=> ?_;refine agC _ rfl _ _ _ _ rfl _ _ pJ qZ mb m m' rfl HM8.out (.agg #[.int .i64 kind,.int .i64 na,.int .i64 nb,.int .u64 (val:Int)]) (.int .i64 (ns.length:Int)) kl rfl rfl HKEY.out HU.out ?_;intro w9 HM9 hgr9 hsz9;have HG9:=hdd hgr9;refine hK.out _ _ (fun h=>absurd rfl h) ?_;clear hK hgr9 hsz9;refine oO (by kernel_rfl) ?_;refine NoPanic.normal ?_;go_wp2
  go_ret2
  refine ah4 HO.out HB5.out HO6.out HG6.out HA6.out ?_ HM9.out HG9.out HU.out HLEN.out HV.out HNO.out;rw[HW7.out];have hz:w7.heap.size=w6.heap.size:=by rw[<-HW7.out];simp[ayP]
  rw[<-hz];exact HB8.out
structure St(P:Ex->Prop)(B N:Nat)(w:World)(g:Nat)(ns:List Nd):Prop where
 dag:DagP w g ns
 all:AllIs P ns
 hi:ab0 B g w
 tab:Tab w
 tb:0<B
 hB:B<=w.heap.size
 room:ns.length<=N
section
variable{P:Ex->Prop}{B N:Nat}{w w':World}{g:Nat}{ns ns':List Nd}
theorem Tab.step (h:Tab w)(hw:w'.heap[0]? =w.heap[0]?):Tab w':=by
 intro j hj;exact(ayG (w:=w) (w':=w') hw).trans (h j hj)
theorem St.below (h:St P B N w g ns)(hb:Below w.heap.size w w'):St P B N w' g ns:=
 ⟨h.dag.below hb,h.all,(DS.of_below h.dag.glt hb).hi h.hB h.hi,h.tab.below hb,h.tb,Nat.le_trans h.hB hb.size,h.room⟩
theorem St.step {M:Nat}(h:St P B N w g ns)(hd:DagP w' g ns')(ha:AllIs P ns')(hs:DS g w w')(hM:ns'.length<=M):St P B M w' g ns':=
 ⟨hd,ha,hs.hi h.hB h.hi,h.tab.step (hs.heap (Nat.lt_of_lt_of_le h.tb h.hB) (fun hb=>by have:=h.hi _ hb;have:=h.tb;omega)),h.tb,Nat.le_trans h.hB hs.size,hM⟩
end
def RetE(P:Ex->Prop)(B N:Nat)(w:World)(g:Nat)(ns:List Nd)(mk:Nat->Value)(x:Ex)(e:Ending)(w':World):Prop:=
 ∃(k:Nat) (ns':List Nd),e=.returned (mk k)/\St P B N w' g ns'/\ns<+:ns'/\Is ns' x k/\DS g w w'
abbrev idV(k:Nat):Value:=.int .i64 (k:Int)
theorem ab1{kind:Int}(hk:tF kind){len:Nat}(hi:i<len)(hj:j<len)(hl:len<=20000):NdIn ⟨kind,0,i,j⟩ len:=by
 refine⟨Or.inr (Or.inl ⟨hk,rfl,?_,?_⟩),?_,?_,?_⟩
 . simp;omega
 . simp;omega
 . intro h;rcases hk with rfl|rfl|rfl|rfl<;>simp at h
 . intro _;simp;omega
 . intro _ _;simp;omega
theorem mG{w:World}{g:Nat}{ns:List Nd}(hd:DagP w g ns)(hn:NdIn n ns.length)(hv:n.val<18446744073709551616)(hl:ns.length<20000):
 Calls Tryz.prog 103 #[.pointer (some ⟨g,0,none⟩),.agg #[.int .i64 n.kind,.float .f64 n.val,.int .i64 n.a,.int .i64 n.b]] w
  (fun e w'=>∃(i:Nat) (ns':List Nd),e=.returned (.int .i64 (i:Int))/\DagP w' g ns'/\ns'[i]? =some n/\(ns'=ns\/ns'=ns++[n])/\DS g w w'):=by
 obtain⟨kind,val,na,nb⟩:=n;obtain⟨w1,hw1,hb1,hs1,b1⟩:=pro1 w (.cells #[.int .i64 kind,.float .f64 val,.int .i64 na,.int .i64 nb] 111);obtain⟨c0,c1,c2,c3⟩:=bM b1;have HP:=hdd (ah6 (hd.below hb1) hn hv hl);have HS:=hdd (DS.of_below hd.glt hb1);unfold jE at HP;clear hd hn hv hl hb1 hs1 b1;go_enter Tryz.func103,Tryz.ntmps103
 go_wp2_with fail
 refine HP.out.mono ?_;rintro e w2⟨i,ns',rfl,hd2,hi,hns,hs⟩;have HR:=hdd (And.intro hd2 (And.intro hi (And.intro hns (HS.out.trans hs))));clear hd2 hi hns hs;go_wp2;go_ret;exact⟨i,ns',rfl,HR.out⟩
theorem zD{P:Ex->Prop}{B N:Nat}{w:World}{g:Nat}{ns:List Nd}{v:Nat}(hs:St P B N w g ns)(hN:N<20000)(hv:v<18446744073709551616)(hf:fin v)(hP:P (.leaf v)):
 Calls Tryz.prog 63 #[.pointer (some ⟨g,0,none⟩),.float .f64 v] w (RetE P B (N+1) w g ns idV (.leaf v)):=by
 have HP:=hdd (mG (n:=⟨0,v,0,0⟩) hs.dag ⟨Or.inl ⟨rfl,rfl,rfl⟩,fun _=>hf,fun h=>absurd rfl h,fun h=>absurd rfl h⟩ hv (by have:=hs.room;omega));have HS:=hdd hs;have HE:=hdd hP;clear hs hN hv hf hP;dsimp only at HP;go_enter Tryz.func63,Tryz.ntmps63
 go_wp2_with fail
 refine HP.out.mono ?_;rintro e w2⟨k,ns',rfl,hd2,hi,hns,hs⟩;have HR:Hid (RetE P B (N+1) w g ns idV (.leaf v) (.returned (idV k)) w2):=hdd (by
  obtain⟨q1,q2,q3⟩:=af1 HS.out.all hi hns HE.out;refine⟨k,ns',rfl,HS.out.step hd2 q2 hs ?_,q3,q1,hs⟩;have:=HS.out.room;rcases hns with rfl|rfl
  . omega
  . simp;omega)
 unfold idV at HR;clear hd2 hi hns hs;go_wp2;go_ret;exact HR.out
theorem agH{P:Ex->Prop}{B N:Nat}{w w':World}{g:Nat}{ns ns':List Nd}{kind:Int}{b:Ex}{mk:Nat->Value}(hs:St P B N w g ns)(hk:tF kind)(ha:Is ns a i)(hb:Is ns b j)(hP:P (opE kind a b))
 (hd2:DagP w' g ns') (hi:ns'[k]? =some ⟨kind,0,i,j⟩) (hns:ns'=ns\/ns'=ns++[⟨kind,0,i,j⟩]) (hds:DS g w w'):RetE P B (N+1) w g ns mk (opE kind a b) (.returned (mk k)) w':=by
 obtain⟨q1,q2,q3⟩:=ajP hk hs.all ha hb hi hns hP;refine⟨k,ns',rfl,hs.step hd2 q2 hds ?_,q3,q1,hds⟩;have:=hs.room;rcases hns with rfl|rfl
 . omega
 . simp;omega
theorem ab2{P:Ex->Prop}{B N:Nat}{w:World}{g:Nat}{ns:List Nd}{b:Ex}(hs:St P B N w g ns)(hN:N<20000)(ha:Is ns a i)(hb:Is ns b j)(hP:P (.sub a b)):
 Calls Tryz.prog 74 #[.pointer (some ⟨g,0,none⟩),.int .i64 (i:Int),.int .i64 (j:Int)] w (RetE P B (N+1) w g ns idV (.sub a b)):=by
 have HP:=hdd (mG (n:=⟨2,0,i,j⟩) hs.dag (ab1 (Or.inr (Or.inl rfl)) ha.lt hb.lt hs.dag.len) (by simp) (by have:=hs.room;omega));have HR:Hid (∀(w':World) (k:Nat) (ns':List Nd),DagP w' g ns'->ns'[k]? =some ⟨2,0,i,j⟩->(ns'=ns\/ns'=ns++[⟨2,0,i,j⟩])->DS g w w'->RetE P B (N+1) w g ns idV (.sub a b) (.returned (.int .i64 (k:Int))) w'):=
  hdd fun w' k ns' h1 h2 h3 h4=>agH (mk:=idV) hs (Or.inr (Or.inl rfl)) ha hb hP h1 h2 h3 h4
 clear hs hN ha hb hP;dsimp only at HP;go_enter Tryz.func74,Tryz.ntmps74
 go_wp2_with fail
 refine HP.out.mono ?_;rintro e w2⟨k,ns',rfl,hd2,hi,hns,hs⟩;have HF:=hdd (HR.out _ _ _ hd2 hi hns hs);clear hd2 hi hns hs;go_wp2;go_ret;exact HF.out
theorem agI{P:Ex->Prop}{B N:Nat}{w:World}{g:Nat}{ns:List Nd}(hs:St P B N w g ns)(hN:N<20000)(ha:Is ns a i)(hP:P (.root a)):
 Calls Tryz.prog 66 #[.pointer (some ⟨g,0,none⟩),.int .i64 (i:Int)] w (RetE P B (N+1) w g ns idV (.root a)):=by
 have hnd:NdIn ⟨5,0,i,0⟩ ns.length:=by
  have h1:=ha.lt;have h2:=hs.dag.len;refine⟨Or.inr (Or.inr ⟨rfl,rfl,?_,rfl⟩),?_,?_,?_⟩
  . simp;omega
  . intro h;simp at h
  . intro _;simp;omega
  . intro _ h;simp at h
 have HP:=hdd (mG (n:=⟨5,0,i,0⟩) hs.dag hnd (by simp) (by have:=hs.room;omega));have HS:=hdd hs;have HA:=hdd ha;have HE:=hdd hP;clear hs hN ha hP hnd;dsimp only at HP;go_enter Tryz.func66,Tryz.ntmps66
 go_wp2_with fail
 refine HP.out.mono ?_;rintro e w2⟨k,ns',rfl,hd2,hi,hns,hs⟩;have HR:Hid (RetE P B (N+1) w g ns idV (.root a) (.returned (idV k)) w2):=hdd (by
  obtain⟨q1,q2,q3⟩:=af2 HS.out.all HA.out hi hns HE.out;refine⟨k,ns',rfl,HS.out.step hd2 q2 hs ?_,q3,q1,hs⟩;have:=HS.out.room;rcases hns with rfl|rfl
  . omega
  . simp;omega)
 unfold idV at HR;clear hd2 hi hns hs;go_wp2;go_ret;exact HR.out
theorem St.made {P:Ex->Prop}{w':World}{g:Nat}{B:Nat}(hT:Tab w')(htb:0<B)(hB:B<=w'.heap.size)(h1:w'.heap[g]? =some (.cells #[.slice none 0 0,.map (some mb)] 96 (0,0)))(h2:w'.heap[mb]? =some (.map #[] 0))(hne:mb≠g)(hg:B<=g)(hm:B<=mb):St P B 0 w' g []:=by
 refine⟨⟨.slice none 0 0,mb,fun _=>none,h1,World.ownsRow_nil _ _ _ _,MapP.made (es:=#[]) h2,⟨by simp,by simp⟩,by simp[ayK],hne,by simp[ayK],by simp,by simp⟩,fun k hk=>by simp at hk,?_,hT,htb,hB,by simp⟩;rintro b(rfl|⟨v,mb',T,e,hb⟩)
 . exact hg
 . rw[h1]at e
   simp only[ayQ,Obj.cells.injEq,Array.mk.injEq,List.cons.injEq,Value.map.injEq,and_true]at e;obtain⟨⟨rfl,rfl⟩,-⟩:=e;rcases hb with hb|rfl
   . simp[ayK]at hb
   . exact hm
def IntsD(g:Nat)(w:World)(v:Value)(l:List Nat):Prop:=IntsP (fun b=>¬DagB w g b) w v l
theorem IntsD.ds {g:Nat}{w w':World}(h:IntsD g w v l)(hs:DS g w w'):IntsD g w' v l:=by
 obtain⟨b,c,e,h1,h2,h3,h4,h5⟩:=h;exact⟨b,c,e,h1,h2,hs.2 b h4 h3,Nat.lt_of_lt_of_le h4 hs.size,fun k x hx=>hs.cell (h5 k x hx) h3⟩
def iG(kind:Int)(e0:Ex)(es:List Ex):Ex:=es.foldl (opE kind) e0
theorem tQ{kind:Int}{es:List Ex}{m:Nat}{e:Ex}(h:es[m]? =some e):iG kind e0 (es.take (m+1))=opE kind (iG kind e0 (es.take m)) e:=by
 have:es.take (m+1)=es.take m++[e]:=by
  rw[List.take_add_one,h];rfl
 rw[this];simp[iG]
def FoldSt(P:Ex->Prop)(B N:Nat)(w:World)(g:Nat)(ns:List Nd)(x:Ex)(k:Nat)(wr:World):Prop:=∃ns',St P B N wr g ns'/\ns<+:ns'/\Is ns' x k/\DS g w wr
theorem agJ{P:Ex->Prop}{B N:Nat}{w:World}{g:Nat}{ns:List Nd}{kind:Int}{es:List Ex}(hs:St P B N w g ns)(hk:kind=1\/kind=3)(hl:IntsD g w v (i0::l))(hlen:l.length=es.length)(h0:0<l.length)
 (he0:Is ns e0 i0) (hes:∀(m x:Nat) e,l[m]? =some x->es[m]? =some e->Is ns e x) (hP:∀m,m<es.length->P (iG kind e0 (es.take (m+1)))) (hN:N+l.length<=20000):
 Calls Tryz.prog 129 #[.pointer (some ⟨g,0,none⟩),.int .i64 kind,v] w (RetE P B (N+l.length) w g ns idV (iG kind e0 es)):=by
 have HL:=hdd hl;obtain⟨b,c,rfl,hc1,hc2,hn,hbl,hcell⟩:=id hl;have c0:=hcell 0 i0 rfl;have HH:=hdd (wS hs.dag he0.lt);have HS0:Hid (FoldSt P B (N+0) w g ns (iG kind e0 (es.take 0)) i0 w):=hdd ⟨ns,hs,List.prefix_rfl,by simpa[iG]using he0,DS.refl g w⟩;have HES:=hdd hes;have HPP:=hdd hP;have HLE:=hdd hlen;simp only[ayR]at hc1|-;have hcap:(l.length:Int)+1<=(c:Int):=by omega
 have hc2':(c:Int)<=9223372036854775807:=by unfold maxLen at hc2;omega
 have hl20:(l.length:Int)<=20000:=by omega
 have hl1:(1:Int)<=(l.length:Int):=by omega
 have HCN:Hid (1<c):=hdd (by omega);have hcn:¬(c=1):=by omega
 have HNN:=hdd hN;clear hs hl he0 hes hP hlen hn hbl hcell hc1 hc2;go_enter Tryz.func129,Tryz.ntmps129
 go_wp2_with fail
 refine HH.out.mono ?_;rintro e w2⟨rfl,hw⟩;obtain rfl:=hw;go_wp2_with fail
 go_loopw [7,20] (fun id i wr=>∃m k:Nat,m<=l.length/\i=.int .i64 (m:Int)/\id=.int .i64 (k:Int)/\Hid (FoldSt P B (N+m) w g ns (iG kind e0 (es.take m)) k wr)) (fun _ i _=>((l.length:Int)-intOf i).toNat)
 case atStart=>exact⟨0,i0,Nat.zero_le _,rfl,rfl,HS0⟩
 case round=>
  obtain⟨m,k,hm,rfl,rfl,HF⟩:=hrel;rcases Nat.lt_or_ge m l.length with hlt|hge
  . obtain⟨x,hx⟩:∃x,l[m]? =some x:=⟨_,ayI hlt⟩
    obtain⟨y,hy⟩:∃y,es[m]? =some y:=⟨_,ayI (by have:=HLE.out;omega)⟩;obtain⟨ns1,hs1,hp1,hi1,hd1⟩:=HF.out;have cx:wr.cell? ⟨b,1+m,none⟩=some (.int .i64 (x:Int)):=IntsP.cell (HL.out.ds hd1) (by rw[Nat.add_comm];exact hx);have hIx:Is ns1 y x:=(HES.out m x y hx hy).mono hp1;have hPP:=HPP.out m (by have:=HLE.out;omega);rw[tQ hy]at hPP;have hkb:tF kind:=by rcases hk with rfl|rfl<;>simp[tF]
    have HPT:=hdd (mG (n:=⟨kind,0,k,x⟩) hs1.dag (ab1 hkb hi1.lt hIx.lt hs1.dag.len) (by simp) (by have:=hs1.room;have:=HNN.out;omega));have HR:Hid (∀(w':World) (k':Nat) (ns':List Nd),DagP w' g ns'->ns'[k']? =some ⟨kind,0,k,x⟩->(ns'=ns1\/ns'=ns1++[⟨kind,0,k,x⟩])->DS g wr w'->FoldSt P B (N+(m+1)) w g ns (iG kind e0 (es.take (m+1))) k' w'):=
     hdd fun w' k' ns' q1 q2 q3 q4=>by
      obtain⟨k2,ns2,e2,r1,r2,r3,r4⟩:=agH (mk:=idV) hs1 hkb hi1 hIx hPP q1 q2 q3 q4;have:k'=k2:=by
       have e3:Value.int .i64 (k':Int)=.int .i64 (k2:Int):=Ending.returned.inj e2;injection e3 with _ e3;omega
      subst this;rw[tQ hy];exact⟨ns2,r1,hp1.trans r2,r3,hd1.trans r4⟩
    have hkI:(m:Int)<(l.length:Int):=by omega
    have hk0:(0:Int)<=(m:Int):=by omega
    have HLT:=hdd hlt;clear hx hy hs1 hp1 hi1 hd1 hIx hPP hkb hlt HF;dsimp only at HPT;go_wp2_with fail
    refine HPT.out.mono ?_;rintro e w3⟨k',ns',rfl,q1,q2,q3,q4⟩;have HFN:=hdd (HR.out _ _ _ q1 q2 q3 q4);clear q1 q2 q3 q4 HR HPT cx;go_wp2_with fail
    go_roundw
    case rel=>exact⟨m+1,k',by have:=HLT.out;omega,by go_num,rfl,HFN⟩
    case measure=>have:=HLT.out;simp[intOf];omega
  . have hme:m=l.length:=by omega
    subst hme;have HRES:Hid (RetE P B (N+l.length) w g ns idV (iG kind e0 es) (.returned (.int .i64 (k:Int))) wr):=hdd (by
     obtain⟨ns1,q1,q2,q3,q4⟩:=HF.out;rw[List.take_of_length_le (by have:=HLE.out;omega)]at q3;exact⟨k,ns1,rfl,q1,q2,q3,q4⟩)
    clear hm hge HF;go_wp2;go_ret;exact HRES.out
theorem agK{P:Ex->Prop}{B N:Nat}{w:World}{g:Nat}{ns:List Nd}{es:List Ex}(hs:St P B N w g ns)(hl:IntsD g w v (i0::l))(hlen:l.length=es.length)(h0:0<l.length)
 (he0:Is ns e0 i0) (hes:∀(m x:Nat) e,l[m]? =some x->es[m]? =some e->Is ns e x) (hP:∀m,m<es.length->P (iG 1 e0 (es.take (m+1)))) (hN:N+l.length<=20000):
 Calls Tryz.prog 85 #[.pointer (some ⟨g,0,none⟩),v] w (RetE P B (N+l.length) w g ns idV (iG 1 e0 es)):=by
 have HF:=hdd (agJ hs (Or.inl rfl) hl hlen h0 he0 hes hP hN);obtain⟨b,c,rfl,hc1,hc2,hn,hbl,hcell⟩:=id hl;simp only[ayR]at*;have hl1:(1:Int)<=(l.length:Int):=by omega
 have hl2:(l.length:Int)<=20000:=by omega
 have hq:((l.length:Int)+1==0)=false:=beq_eq_false_iff_ne.2 (by omega);have hq2:(((l.length+1:Nat):Int)==0)=false:=beq_eq_false_iff_ne.2 (by omega);clear hs hl he0 hes hP hlen hn hbl hcell hc1 hc2 h0 hN;go_enter Tryz.func85,Tryz.ntmps85
 go_wp2_with fail
 refine HF.out.mono ?_;rintro e w2⟨k,ns',rfl,h⟩;have HR:=hdd h;clear h;unfold idV;go_wp2;go_ret;exact⟨k,ns',rfl,HR.out⟩
def agL(P:Ex->Prop)(B:Nat)(w:World)(e:Ending)(w':World):Prop:=∃g,e=.returned (.pointer (some ⟨g,0,none⟩))/\St P B 0 w' g []/\Below w.heap.size w w'/\w.heap.size<=g
theorem ah7{P:Ex->Prop}{B:Nat}{w:World}(hT:Tab w)(htb:0<B)(hB:B<=w.heap.size):
 Calls Tryz.prog 8 #[.bool true] w (agL P B w):=by
 obtain⟨w1,hw1,hb1,hs1,b1⟩:=pro1 w (.cells #[.slice none 0 0,.map none] 96);obtain⟨w2,hw2,hb2,hs2,b2⟩:=pro1 w1 (.map #[] 0);have h12:=aA hb1 hb2;have b1':=hbl b1 hb2;obtain⟨c0,c1,f0,f1⟩:=aB b1';have hmm:=@run_makeMap Tryz.prog;have HR:Hid (agL P B w (.returned (.pointer (some ⟨w.heap.size,0,none⟩))) (w2.setCell ⟨w.heap.size,1,none⟩ (.map (some w1.heap.size)))):=hdd (by
  have hb3:Below w.heap.size w (w2.setCell ⟨w.heap.size,1,none⟩ (.map (some w1.heap.size))):=h12.setCell nlr _;have g1:=setB b1' (.map (some w1.heap.size));have g2:(w2.setCell ⟨w.heap.size,1,none⟩ (.map (some w1.heap.size))).heap[w1.heap.size]? =some (.map #[] 0):=by
   rw[ayM _ _ _ _ (by simp;omega)];exact b2
  exact⟨_,rfl,St.made (hT.below hb3) htb (Nat.le_trans hB hb3.size) g1 g2 (by omega) hB (by omega),hb3,Nat.le_refl _⟩)
 clear hT htb hB hb1 hb2 b1 b2 b1' h12 hs1 hs2;go_enter Tryz.func8,Tryz.ntmps8
 go_wp2;go_ret;exact HR.out
abbrev numV(g k:Nat):Value:=.agg #[.pointer (some ⟨g,0,none⟩),.int .i64 (k:Int)]
theorem kC{w:World}{g:Nat}{ns:List Nd}(hd:DagP w g ns)(hk:k<ns.length):Calls Tryz.prog 49 #[.agg #[.pointer (some ⟨g,0,none⟩),.int .i64 (k:Int)]] w (RetV w (.bool true)):=by
 obtain⟨w1,hw1,hb1,hs1,b1⟩:=pro1 w (.cells #[.pointer (some ⟨g,0,none⟩),.int .i64 (k:Int)] 32);obtain⟨c0,c1,-,-⟩:=aB b1;obtain⟨n,hn⟩:∃n,ns[k]? =some n:=⟨_,ayI hk⟩;have HN:=hdd (yS (hd.below hb1) hn);have HB:=hdd hb1;obtain⟨kind,val,na,nb⟩:=n;unfold jE at HN;have hst:=aS;clear hd hk hn hb1 hs1 b1;go_enter Tryz.func49,Tryz.ntmps49
 go_wp2_with fail
 refine HN.out.mono ?_;rintro e w2⟨rfl,hb2⟩;obtain⟨w3,hw3,z0,z1,z2,z3,y0,y1,y2,y3,w4,hw4,hb4,hs4⟩:=new4 w2 111 (.int .i64 0) (.float .f64 0) (.int .i64 0) (.int .i64 0) (.int .i64 kind) (.float .f64 val) (.int .i64 na) (.int .i64 nb);have HB4:=hdd (aA (aA HB.out hb2) hb4);clear hb2 hb4 hs4;go_wp2;go_ret;exact⟨rfl,HB4.out⟩
theorem ah8:Tryz.prog.underlying 25=some (.pointer 96):=by kernel_rfl
theorem agM:(Tryz.prog.info? 96).map (·.size)=some 2:=by kernel_rfl
theorem ah9(a:Addr)(w:World):(binOp .neq 25 (.pointer (some a)) (.pointer (some a))).run Tryz.prog w=.ok (.bool false) w:=by
 cases h:Tryz.prog.info? 96 with
 |none=>have:=agM;rw[h]at this;simp at this
 |some j=>exact Go.Lib.run_neq_ptr_same w a ah8 h
def NumsP(w:World)(v:Value)(g:Nat)(l:List Nat):Prop:=
 ∃b c,v=.slice (some ⟨b,0,none⟩) l.length c/\l.length<=1000/\∀(i x:Nat),l[i]? =some x->w.cell? ⟨b,i*2,none⟩=some (.pointer (some ⟨g,0,none⟩))/\w.cell? ⟨b,i*2+1,none⟩=some (.int .i64 (x:Int))
theorem NumsP.below {w w':World}{g:Nat}(h:NumsP w v g l)(hb:Below w.heap.size w w'):NumsP w' v g l:=by
 obtain⟨b,c,e,h1,h2⟩:=h;exact⟨b,c,e,h1,fun i x hx=>⟨cell_below (h2 i x hx).1 hb nlr,cell_below (h2 i x hx).2 hb nlr⟩⟩
theorem NumsP.at {w:World}{g n:Nat}(h:NumsP w (.slice (some ⟨b,0,none⟩) n c) g l){x:Nat}(hx:l[i]? =some x):w.cell? ⟨b,i*2,none⟩=some (.pointer (some ⟨g,0,none⟩))/\w.cell? ⟨b,i*2+1,none⟩=some (.int .i64 (x:Int)):=by
 obtain⟨b',c',e,h1,h2⟩:=h;injection e with e;cases e
 exact h2 i x hx
theorem zF{w:World}{g:Nat}{ns:List Nd}(hd:DagP w g ns)(hk:k<ns.length)(hl:NumsP w v g l)(hll:∀x∈l,x<ns.length):
 Calls Tryz.prog 64 #[.agg #[.pointer (some ⟨g,0,none⟩),.int .i64 (k:Int)],v] w (RetV w (.bool true)):=by
 obtain⟨w1,hw1,hb1,hs1,b1⟩:=pro1 w (.cells #[.pointer (some ⟨g,0,none⟩),.int .i64 (k:Int)] 32);obtain⟨c0,c1,-,-⟩:=aB b1;have HV:=hdd (kC (hd.below hb1) hk);have HD:=hdd hd;have HLL:=hdd hll;have HNP:=hdd hl;have HB:=hdd hb1;obtain⟨b,c,rfl,hl1,-⟩:=id hl;have hlI:(l.length:Int)<=1000:=by omega
 have hnq:=ah9 ⟨g,0,none⟩;clear hd hk hl hll hb1 hs1 b1 hl1;go_enter Tryz.func64,Tryz.ntmps64
 go_wp2_with fail
 refine HV.out.mono ?_;rintro e w2⟨rfl,hb2⟩;have HB2:=hdd (aA HB.out hb2);replace c0:=cbl c0 hb2;replace c1:=cbl c1 hb2;clear hb2;go_wp2_with fail
 go_loopw [12] (fun i wr=>∃m:Nat,m<=l.length/\i=.int .i64 (m:Int)/\Hid (Below w2.heap.size w2 wr)) (fun i _=>((l.length:Int)-intOf i).toNat)
 case atStart=>exact⟨0,Nat.zero_le _,rfl,hdd (ayL _ _)⟩
 case round=>
  obtain⟨m,hm,rfl,HF⟩:=hrel;rcases Nat.lt_or_ge m l.length with hlt|hge
  . obtain⟨x,hx⟩:∃x,l[m]? =some x:=⟨_,ayI hlt⟩
    have hbr:=HB2.out.trans (HF.out.mono HB2.out.size);obtain⟨x0,x1⟩:=(HNP.out.below hbr).at hx;obtain⟨w3,hw3,hb3,hs3,b3⟩:=pro1 wr (.cells #[.pointer none,.int .i64 0] 32);obtain⟨p0,p1,pf0,pf1⟩:=aB b3;have g1:=set2 b3 (.pointer (some ⟨g,0,none⟩)) (.int .i64 (x:Int));obtain⟨w4,hw4⟩:∃w4,(w3.setCell ⟨wr.heap.size,0,none⟩ (.pointer (some ⟨g,0,none⟩))).setCell ⟨wr.heap.size,1,none⟩ (.int .i64 (x:Int))=w4:=⟨_,rfl⟩;have hb4:Below wr.heap.size wr w4:=by rw[<-hw4];exact(hb3.setCell nlr _).setCell nlr _
    rw[hw4]at g1;obtain⟨y0,y1,-,-⟩:=aB g1;have e0:=cell_below (cbl c0 HF.out) hb4 nlr;have e1:=cell_below (cbl c1 HF.out) hb4 nlr;have HVX:=hdd (kC (HD.out.below (hbr.trans (hb4.mono hbr.size))) (HLL.out x (List.mem_of_getElem? hx)));have HF4:=hdd (aA HF.out hb4);have hkI:(m:Int)<(l.length:Int):=by omega
    have hk0:(0:Int)<=(m:Int):=by omega
    have HLT:=hdd hlt;clear hx hbr hb3 hs3 b3 g1 hb4 hlt;go_wp2_with fail
    refine HVX.out.mono ?_;rintro e w5⟨rfl,hb5⟩;have HF5:=hdd (aA HF4.out hb5);clear hb5;go_wp2_with fail
    go_roundw
    case rel=>exact⟨m+1,by have:=HLT.out;omega,by go_num,HF5⟩
    case measure=>have:=HLT.out;simp[intOf];omega
  . have hme:m=l.length:=by omega
    subst hme;have HR:=hdd (HB2.out.trans (HF.out.mono HB2.out.size));clear hm hge HF;go_wp2;go_ret;exact⟨rfl,HR.out⟩
end Go.Proofs.YtebocijmegkfgaaGreatDoor
