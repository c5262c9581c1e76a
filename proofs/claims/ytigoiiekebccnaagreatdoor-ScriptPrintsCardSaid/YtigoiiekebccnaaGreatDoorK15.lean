/- A part of the proof: contracts of functions and plain laws (DagC, Ex). -/
import Derived.Test.YtigoiiekebccnaaGreatDoorK14
import Derived.Test.YtigoiiekebccnaaGreatDoorK07
import Derived.Deep.AppendLies
import Derived.Test.YtigoiiekebccnaaGreatDoorK11
set_option linter.unusedVariables false
set_option linter.unusedSimpArgs false
set_option linter.unnecessarySimpa false
set_option maxHeartbeats 25600000
set_option maxRecDepth 100000
namespace Go.Proofs.YtigoiiekebccnaaGreatDoor
section
open Go.RowKit Go.Maps
open _root_.Array renaming getElem?_eq_some_iff->azX,getElem_modify->az1
open Go.Act renaming put->azW
open Go.RowKit.Below renaming refl->azY,heap_setCell->az0
open Go.Value renaming ownBlock->az2,oneCell'->az8
open Go.World renaming cell?_of_block->azU,setCell->azZ,block_lt_of_cell?->az5
open List renaming setIfInBounds_toArray->azR,set_cons_zero->azS,set_cons_succ->azT,getElem?_append_left->az3,getElem?_eq_some_iff->az4,mem_append->az7
open Option.some renaming inj->azV,injEq->az6
variable{ns:List Nd}{b c g mb r:Nat}{n:Nd}{A:Option Addr}{m:Value->Option Value}{w w' w5 w6 wA wB wE:World}
def DagO(w:World)(g:Nat)(ns:List Nd)(A:Option Addr)(c mb:Nat)(m:Value->Option Value):Prop:=
 w.heap[g]? =some (.cells #[.slice A ns.length c,.map (some mb)] 153 (0,0))/\w.ownsRow 0 206 4 (.slice A ns.length c) ns.length (bT ns)/\MapP Tryz.prog 318 w mb m/\
  anW ns m/\(Value.slice A ns.length c).ownBlock≠some g/\mb≠g/\(Value.slice A ns.length c).ownBlock≠some mb/\ns.length<=20000/\∀n∈ns,n.val<18446744073709551616
theorem DagM.opened (h:DagM w g ns):∃A c mb m,DagO w g ns A c mb m:=by
 obtain⟨v,mb,m,h1,h2,h3⟩:=h;rcases id h2.2 with ⟨rfl,hn⟩|⟨r,cap,cur,rfl,-⟩
 . exact⟨none,0,mb,m,by rw[hn];exact h1,by rw[hn];rw[hn]at h2;exact h2,h3.1,h3.2.1,by simp[az2],h3.2.2.2.1,by simp[az2],h3.2.2.2.2.2.1,h3.2.2.2.2.2.2⟩
 . exact⟨_,cap,mb,m,h1,h2,h3.1,h3.2.1,h3.2.2.1,h3.2.2.2.1,h3.2.2.2.2.1,h3.2.2.2.2.2.1,h3.2.2.2.2.2.2⟩
theorem DagO.dag (h:DagO w g ns A c mb m):DagP w g ns:=by
 obtain⟨h1,h2,h3,h4,h5,h6,h7,h8,h9⟩:=h;exact Or.inl ⟨_,mb,m,h1,h2,h3,h4,h5,h6,h7,h8,h9⟩
theorem DagO.dagB (h:DagO w g ns A c mb m)(hb:¬DagB w g b):b≠g/\b≠mb/\(Value.slice A ns.length c).ownBlock≠some b:=by
 obtain⟨h1,-⟩:=h;exact⟨fun e=>hb (Or.inl e),fun e=>hb (Or.inr ⟨_,_,_,h1,Or.inr (congrArg some e.symm)⟩),fun e=>hb (Or.inr ⟨_,_,_,h1,Or.inl e⟩)⟩
theorem DagO.below (h:DagO w g ns A c mb m)(hb:Below w.heap.size w w'):DagO w' g ns A c mb m:=by
 obtain⟨h1,h2,h3,h4,h5,h6,h7,h8,h9⟩:=h;refine⟨hbl h1 hb,h2.kept (aH (row:=none) hb) ?_,h3.below hb h3.lt,h4,h5,h6,h7,h8,h9⟩
 cases hv:(Value.slice A ns.length c).ownBlock
 . exact Or.inl rfl
 . exact Or.inr (by simp)
theorem lT(ns:List Nd)(n:Nd):bT (ns++[n])=bT ns++dV n:=by simp[bT]
def vC(w:World)(g:Nat)(ns:List Nd)(n:Nd)(e:Ending)(w':World):Prop:=
 ∃(i:Nat) (ns':List Nd),e=.returned (.tuple #[.int .i64 (i:Int),.nilIface])/\DagP w' g ns'/\ns'[i]? =some n/\(ns'=ns\/ns'=ns++[n])/\DS g w w'
theorem grownBy_refl(w:World)(row:Option Nat):w.grownBy w row:=⟨rfl,rfl,rfl,Nat.le_refl _,fun _ _ _=>rfl⟩
theorem amL{wD:World}{cap:Nat}{m':Value->Option Value}(h:DagO w g ns A c mb m)(hA:Below w.heap.size w wA)
 (hO:wB.ownsRow 0 206 4 (.slice (some ⟨r,0,none⟩) (ns.length+1) cap) (ns.length+1) (bT ns++dV n)) (hB:wA.grownBy wB (Value.slice A ns.length c).ownBlock) (hat:(Value.slice A ns.length c).ownBlock=some r\/r=wA.heap.size)
 (hD:Below wB.heap.size (wB.setCell ⟨g,0,none⟩ (.slice (some ⟨r,0,none⟩) (ns.length+1) cap)) wD) (hM:MapP Tryz.prog 318 wE mb m') (hE:wD.grownBy wE (some mb)) (hu:Upd m (keyV n) (some (.int .i64 (ns.length:Int))) m')
 (hl:ns.length<20000) (hv:n.val<18446744073709551616) (hno:m (keyV n)=none):
 vC w g ns n (.returned (.tuple #[.int .i64 (ns.length:Int),.nilIface])) wE:=by
 obtain⟨h1,h2,h3,h4,h5,h6,h7,h8,h9⟩:=id h;have lg:=aD h1;have lm:=h3.lt;have sA:=hA.size;have sB:=hB.size;have hrg:r≠g:=fun e=>hat.elim (fun h=>h5 (by rw[<-e];exact h)) (fun h=>by omega);have hrm:r≠mb:=fun e=>hat.elim (fun h=>h7 (by rw[<-e];exact h)) (fun h=>by omega);have hrB:r<wB.heap.size:=(hO.lt r rfl).2;have szC:(wB.setCell ⟨g,0,none⟩ (.slice (some ⟨r,0,none⟩) (ns.length+1) cap)).heap.size=wB.heap.size:=by simp[azZ]
 have far:∀b,b<w.heap.size->b≠g->b≠mb->(Value.slice A ns.length c).ownBlock≠some b->wE.heap[b]? =w.heap[b]? :=fun b hb q1 q2 q3=>
  (hE.block b (by have:=hD.size;omega) (fun e=>q2 (azV e))).trans ((hD.block b (by omega)).trans ((az0 wB _ _ b (by simpa using q1)).trans ((hB.block b (by omega) (fun e=>q3 e.symm)).trans (hA.block b hb))))
 have eg:wB.heap[g]? =some (.cells #[.slice A ns.length c,.map (some mb)] 153 (0,0)):=(hB.block g (by omega) (fun e=>h5 e.symm)).trans ((hA.block g lg).trans h1);have eC:(wB.setCell ⟨g,0,none⟩ (.slice (some ⟨r,0,none⟩) (ns.length+1) cap)).heap[g]? =some (.cells #[.slice (some ⟨r,0,none⟩) (ns.length+1) cap,.map (some mb)] 153 (0,0)):=by
  have hg:g<wB.heap.size:=aD eg;have h':wB.heap[g]=.cells #[.slice A ns.length c,.map (some mb)] 153 (0,0):=(azX.1 eg).2;simp[azZ,hg,az1,h']
 have eE:wE.heap[g]? =some (.cells #[.slice (some ⟨r,0,none⟩) (ns.length+1) cap,.map (some mb)] 153 (0,0)):=
  (hE.block g (by have:=hD.size;omega) (fun e=>h6 (azV e).symm)).trans ((hD.block g (by omega)).trans eC)
 have hO1:=hO.kept (grownBy_set (grownBy_refl wB (some g)) (i:=0) (.slice (some ⟨r,0,none⟩) (ns.length+1) cap)) (Or.inr (fun e=>hrg (azV e)));have hO2:=hO1.kept (aH (row:=none) (by rw[szC];exact hD)) (Or.inr (by simp[az2]));have hO3:=hO2.kept hE (Or.inr (fun e=>hrm (azV e)));have sz:w.heap.size<=wE.heap.size:=by have:=hD.size;have:=hE.size;omega
 refine⟨ns.length,ns++[n],rfl,Or.inl ⟨.slice (some ⟨r,0,none⟩) (ns.length+1) cap,mb,m',?_,?_,hM,?_,?_,h6,?_,by simp;omega,?_⟩,by simp,Or.inr rfl,⟨⟨?_,?_,?_,sz,?_⟩,?_⟩⟩
 . exact eE
 . rw[lT];simpa using hO3
 . refine⟨fun key val hk=> ?_,fun i n' hi=> ?_⟩
   . by_cases hkn:key=keyV n
     . subst hkn
       rw[hu.1]at hk;exact⟨ns.length,n,by simp,(azV hk).symm,rfl⟩
     . rw[hu.2 key hkn]at hk
       obtain⟨i,n',q1,q2,q3⟩:=h4.1 key val hk;exact⟨i,n',by rw[az3 (az4.1 q1).1];exact q1,q2,q3⟩
   . rcases Nat.lt_or_ge i ns.length with hlt|hge
     . rw[az3 hlt]at hi
       have h1:=h4.2 i n' hi;rw[hu.2 _ (fun e=>by rw[e,hno]at h1;cases h1)];exact h1
     . have hie:=(az4.1 hi).1
       rw[List.length_append,List.length_singleton]at hie;have:i=ns.length:=by omega
       subst this;rw[List.getElem?_append_right nlr,Nat.sub_self]at hi;have:n=n':=azV hi;rw[<-this];exact hu.1
 . exact fun e=>hrg (azV e)
 . exact fun e=>hrm (azV e)
 . intro x hx
   rcases az7.1 hx with hx|hx
   . exact h9 x hx
   . simp at hx;rw[hx];exact hv
 . exact hE.os.trans (hD.os.trans (hB.os.trans hA.os))
 . exact hE.tape.trans (hD.tape.trans (hB.tape.trans hA.tape))
 . exact hE.output.trans (hD.output.trans (hB.output.trans hA.output))
 . intro b hb hn
   obtain⟨q1,q2,q3⟩:=h.dagB hn;exact far b hb q1 q2 q3
 . rintro b hb hn(rfl|⟨v',mb',T',e,hd⟩)
   . exact(h.dagB hn).1 rfl
   . obtain⟨q1,q2,q3⟩:=h.dagB hn
     rw[eE]at e;simp only[az6,Obj.cells.injEq,Array.mk.injEq,List.cons.injEq,Value.map.injEq,and_true]at e;obtain⟨⟨rfl,rfl⟩,-⟩:=e;rcases hd with hd|hd
     . have:r=b:=azV hd
       subst this;exact hat.elim q3 (fun h=>by omega)
     . exact q2 (azV hd).symm
theorem nV{T:TypeId}{a b c d:Value}(h:w.heap[g]? =some (.cells #[a,b,c,d] T (0,0))):∀j x,[a,b,c,d][j]? =some x->w.cell? ((⟨g,0,none⟩:Addr).add j)=some x:=by
 intro j x hx;rcases j with _|_|_|_|j
 all_goals first|(simp at hx;subst hx;simp[World.cell?,Addr.add,h])|(simp at hx)
theorem amM(h:DagO w g ns A c mb m)(h5:DagO w5 g ns A c mb m)(hg:w5.grownBy w6 (Value.slice A ns.length c).ownBlock)(hs:w.heap.size<=w5.heap.size)(nv:Value):
 w6.heap[g]? =some (.cells #[.slice A ns.length c,.map (some mb)] 153 (0,0))/\(w6.setCell ⟨g,0,none⟩ nv).heap[g]? =some (.cells #[nv,.map (some mb)] 153 (0,0))/\MapP Tryz.prog 318 (w6.setCell ⟨g,0,none⟩ nv) mb m/\
  ∀b,w.heap.size<=b->b<w5.heap.size->w6.heap[b]? =w5.heap[b]? /\(w6.setCell ⟨g,0,none⟩ nv).heap[b]? =w5.heap[b]? :=by
 obtain⟨h1,h2,h3,h4,h5',h6,h7,h8,h9⟩:=id h;have lg:=aD h1;have lm:=h3.lt;have eg:=(hg.block g (by omega) (fun e=>h5' e.symm)).trans h5.1;have em:w6.heap[mb]? =w5.heap[mb]? :=hg.block mb (by omega) (fun e=>h7 e.symm);refine⟨eg,?_,h5.2.2.1.keep ((az0 w6 _ _ mb (by simpa using h6)).trans em),fun b hb hlt=> ?_⟩
 . have hgl:g<w6.heap.size:=aD eg
   have h':w6.heap[g]=.cells #[.slice A ns.length c,.map (some mb)] 153 (0,0):=(azX.1 eg).2;simp[azZ,hgl,az1,h']
 . have e:=hg.block b hlt (fun e=>by have:=fT h2 b e.symm;omega)
   exact⟨e,(az0 w6 _ _ b (by simp;omega)).trans e⟩
theorem ajT(hd:DagM w g ns)(hn:NdIn n ns.length)(hv:n.val<18446744073709551616)(hl:ns.length<20000):
 Calls Tryz.prog 172 #[.pointer (some ⟨g,0,none⟩),iL n] w (vC w g ns n):=by
 obtain⟨A,c,mb,m,ho⟩:=hd.opened;obtain⟨w1,hw1,hb1,hs1,b1⟩:=pro1 w (.cells (dV n).toArray 206);have hkey:∃kl,keyOf Tryz.prog 318 (keyV n)=some kl:=by
  have hk:Sm64 n.kind/\Sm64 n.a/\Sm64 n.b:=by
   rcases hn.1 with ⟨q1,q2,q3⟩|⟨q1,q2,q3,q4⟩|⟨q1,q2,q3,q4⟩<;>unfold Sm64<;>omega
  exact abM hk.1 hk.2.1 hk.2.2 hv
 obtain⟨kl,hkey⟩:=hkey;have HO:=hdd ho;have HO1:=hdd (ho.below hb1);have HB1:=hdd hb1;have HT:=hdd (xW (DagP.below (Or.inl hd) hb1) hn hv);have HKO:Hid (∀w',Calls Tryz.prog 228 #[.agg #[.int .i64 n.kind,.float .f64 n.val,.int .i64 n.a,.int .i64 n.b]] w' (RetV w' (keyV n))):=hdd fun w'=>xV;have HKEY:=hdd hkey;obtain⟨kind,val,na,nb⟩:=n;simp only[dV,iL]at b1 hw1|-;obtain⟨c0,c1,c2,c3⟩:=bP b1;obtain⟨g0,g1,gf0,gf1⟩:=aB HO1.out.1;have HLEN:=hdd hl;have HV:=hdd hv;have hlI:(ns.length:Int)<20000:=by omega
 have hl0:(0:Int)<=(ns.length:Int):=by omega
 have hneq:=fun(w:World) (r:Option Nat)=>run_neq_map_nil w _ _ _ r nM;clear hd hn hb1 hs1 b1 ho hkey hv hl
 cases hmk:m (keyV ⟨kind,val,na,nb⟩)with
 |some v=>
  obtain⟨i,n',q1,rfl,q3⟩:=HO.out.2.2.2.1.1 _ _ hmk;have q4:=ajS q3;subst q4;have HQ:=hdd q1;have HMS:Hid ((m (keyV ⟨kind,val,na,nb⟩)).getD (.int .i64 0)=.int .i64 (i:Int)):=hdd (by rw[hmk];rfl);have HMI:Hid ((m (keyV ⟨kind,val,na,nb⟩)).isSome=true):=hdd (by rw[hmk];rfl);clear hmk q1 q3;go_enter Tryz.func172,Tryz.ntmps172
  go_wp2_with fail
  refine HT.out.mono ?_;rintro e w2⟨rfl,hb2⟩;replace c0:=cbl c0 hb2;replace c1:=cbl c1 hb2;replace c2:=cbl c2 hb2;replace c3:=cbl c3 hb2;replace g0:=cbl g0 hb2;replace g1:=cbl g1 hb2;have HB2:=hdd (aA HB1.out hb2);have HD2:=hdd (((HO1.out.below hb2).below (azY _ _).drew));clear hb2 gf0 gf1;go_wp2_with fail
  have hdr:Below w2.heap.size w2 w2.drew:=(azY _ _).drew;replace c0:=cbl c0 hdr;replace c1:=cbl c1 hdr;replace c2:=cbl c2 hdr;replace c3:=cbl c3 hdr;replace g0:=cbl g0 hdr;replace g1:=cbl g1 hdr;clear hdr
  go_region_held3 (fun w'=>w'.cell? ⟨g,1,none⟩=some (.map (some mb))/\w'.cell? ⟨w.heap.size,0,none⟩=some (.int .i64 kind)/\w'.cell? ⟨w.heap.size,1,none⟩=some (.float .f64 val)/\w'.cell? ⟨w.heap.size,2,none⟩=some (.int .i64 na)/\w'.cell? ⟨w.heap.size,3,none⟩=some (.int .i64 nb)) (go_keep)
   (first
   |(go_at_call 228
     refine(HKO.out _).mono ?_;rintro e w4⟨rfl,hb4⟩;have c0:=cbl c0 hb4;have c1:=cbl c1 hb4;have c2:=cbl c2 hb4;have c3:=cbl c3 hb4;have g0:=cbl g0 hb4;have g1:=cbl g1 hb4;have hlk:=(HD2.out.below hb4).2.2.1.look nL nM (dW w4) HKEY.out true;rw[if_pos rfl,HMS.out,HMI.out]at hlk;unfold keyV at*;have HBF:=hdd (aA (aA HB2.out (azY _ _).drew) hb4);have HDF:=hdd (HD2.out.below hb4);clear hb4))
  go_wp2
  go_ret2
  exact⟨i,ns,rfl,HDF.out.dag,HQ.out,Or.inl rfl,DS.of_below HO.out.dag.glt HBF.out⟩
 |none=>
  have HMS:Hid ((m (keyV ⟨kind,val,na,nb⟩)).getD (.int .i64 0)=.int .i64 0):=hdd (by rw[hmk];rfl);have HMI:Hid ((m (keyV ⟨kind,val,na,nb⟩)).isSome=false):=hdd (by rw[hmk];rfl);obtain⟨m',hu⟩:=kF m (keyV ⟨kind,val,na,nb⟩) (some (.int .i64 (ns.length:Int)));have HU:=hdd hu;have HNO:=hdd hmk;obtain⟨i0,hi0,hz0,hz1,hz2⟩:=info_parts yB;have HI0:=hdd hi0;have HZ0:=hdd hz0;have HZ1:=hdd hz1;have HZ2:=hdd hz2;clear hmk hu hi0 hz0 hz1 hz2;go_enter Tryz.func172,Tryz.ntmps172
  go_wp2_with fail
  refine HT.out.mono ?_;rintro e w2⟨rfl,hb2⟩;replace c0:=cbl c0 hb2;replace c1:=cbl c1 hb2;replace c2:=cbl c2 hb2;replace c3:=cbl c3 hb2;replace g0:=cbl g0 hb2;replace g1:=cbl g1 hb2;have HB2:=hdd (aA HB1.out hb2);have HD2:=hdd (((HO1.out.below hb2).below (azY _ _).drew));clear hb2 gf0 gf1;go_wp2_with fail
  have hdr:Below w2.heap.size w2 w2.drew:=(azY _ _).drew;replace c0:=cbl c0 hdr;replace c1:=cbl c1 hdr;replace c2:=cbl c2 hdr;replace c3:=cbl c3 hdr;replace g0:=cbl g0 hdr;replace g1:=cbl g1 hdr;clear hdr
  go_region_held3 (fun w'=>w'.cell? ⟨g,1,none⟩=some (.map (some mb))/\w'.cell? ⟨w.heap.size,0,none⟩=some (.int .i64 kind)/\w'.cell? ⟨w.heap.size,1,none⟩=some (.float .f64 val)/\w'.cell? ⟨w.heap.size,2,none⟩=some (.int .i64 na)/\w'.cell? ⟨w.heap.size,3,none⟩=some (.int .i64 nb)) (go_keep)
   (first
   |(go_at_call 228
     refine(HKO.out _).mono ?_;rintro e w4⟨rfl,hb4⟩;have c0:=cbl c0 hb4;have c1:=cbl c1 hb4;have c2:=cbl c2 hb4;have c3:=cbl c3 hb4;have g0:=cbl g0 hb4;have g1:=cbl g1 hb4;have hlk:=(HD2.out.below hb4).2.2.1.look nL nM (dW w4) HKEY.out true;rw[if_pos rfl,HMS.out,HMI.out]at hlk;unfold keyV at*;have HBF:=hdd (aA (aA HB2.out (azY _ _).drew) hb4);have HDF:=hdd (HD2.out.below hb4);clear hb4))
  clear hlk;go_wp2_with fail
  refine wp_region_noPanic ?_;refine gQ (fun w'=>w'.cell? ⟨g,0,none⟩=some (.slice A ns.length c)/\w'.cell? ⟨w.heap.size,0,none⟩=some (.int .i64 kind)/\w'.cell? ⟨w.heap.size,1,none⟩=some (.float .f64 val)/\w'.cell? ⟨w.heap.size,2,none⟩=some (.int .i64 na)/\w'.cell? ⟨w.heap.size,3,none⟩=some (.int .i64 nb)) 10 (by kernel_rfl) ?_;have hSd:(fun w':World=>w'.cell? ⟨g,0,none⟩=some (.slice A ns.length c)/\w'.cell? ⟨w.heap.size,0,none⟩=some (.int .i64 kind)/\w'.cell? ⟨w.heap.size,1,none⟩=some (.float .f64 val)/\w'.cell? ⟨w.heap.size,2,none⟩=some (.int .i64 na)/\w'.cell? ⟨w.heap.size,3,none⟩=some (.int .i64 nb)) w4.drew:=⟨g0,c0,c1,c2,c3⟩;refine aO 0 (.pointer (some ⟨g,0,none⟩)) rfl (by kernel_rfl) (by kernel_rfl) (by kernel_rfl) (by kernel_rfl) (fun _ _ _ h=>h) (by rfl) ?_ (by assumption) ?_
  . intro w' hSw;(try dsimp only at hSw);go_split_ands;go_simp;all_goals first|rfl|done
  try simp only[azW,azR,azS,azT]
  refine aO 1 (.pointer (some ⟨g,0,none⟩)) rfl (by kernel_rfl) (by kernel_rfl) (by kernel_rfl) (by kernel_rfl) (fun _ _ _ h=>h) (by rfl) ?_ (by assumption) ?_
  . intro w' hSw;(try dsimp only at hSw);go_split_ands;go_simp;all_goals first|rfl|done
  try simp only[azW,azR,azS,azT]
  refine aO 2 (.pointer (some ⟨g,0,none⟩)) rfl (by kernel_rfl) (by kernel_rfl) (by kernel_rfl) (by kernel_rfl) (fun _ _ _ h=>h) (by rfl) ?_ (by assumption) ?_
  . intro w' hSw;(try dsimp only at hSw);go_split_ands;go_simp;all_goals first|rfl|done
  try simp only[azW,azR,azS,azT]
  refine aO 3 (.pointer (some ⟨g,0,none⟩)) rfl (by kernel_rfl) (by kernel_rfl) (by kernel_rfl) (by kernel_rfl) (fun _ _ _ h=>h) (by rfl) ?_ (by assumption) ?_
  . intro w' hSw;(try dsimp only at hSw);go_split_ands;go_simp;all_goals first|rfl|done
  try simp only[azW,azR,azS,azT]
  refine aO 4 (.slice A ns.length c) rfl (by kernel_rfl) (by kernel_rfl) (by kernel_rfl) (by kernel_rfl) (fun _ _ _ h=>h) (by rfl) ?_ (by assumption) ?_
  . intro w' hSw;(try dsimp only at hSw);go_split_ands;go_simp;all_goals first|rfl|done
  try simp only[azW,azR,azS,azT]
  refine aO 5 (.agg #[.int .i64 kind,.float .f64 val,.int .i64 na,.int .i64 nb]) rfl (by kernel_rfl) (by kernel_rfl) (by kernel_rfl) (by kernel_rfl) (fun _ _ _ h=>h) (by rfl) ?_ (by assumption) ?_
  . intro w' hSw;(try dsimp only at hSw);go_split_ands;go_simp;all_goals first|rfl|done
  try simp only[azW,azR,azS,azT]
  obtain⟨w5,hw5,hb5,hs5,b5⟩:=pro1 w4.drew (.cells #[.int .i64 kind,.float .f64 val,.int .i64 na,.int .i64 nb] 206);have hdr4:Below w4.heap.size w4 w4.drew:=(azY _ _).drew;have h45:Below w4.heap.size w4 w5:=aA hdr4 hb5;have HD5:=hdd (HDF.out.below h45);replace c0:=cbl c0 h45;replace c1:=cbl c1 h45;replace c2:=cbl c2 h45;replace c3:=cbl c3 h45;replace g0:=cbl g0 h45;replace g1:=cbl g1 h45;have HB5:=hdd (aA HBF.out h45);have HC5:=hdd (nV b5);have HS5:Hid (w5.heap.size=w4.heap.size+1):=hdd hs5;clear hb5 hs5 b5 hdr4 h45;refine bG 6 (by kernel_rfl) rfl fun K hK=> ?_;go_simp;refine hK.out _ _ (fun _=>⟨g0,c0,c1,c2,c3⟩) ?_;clear hK
  try simp only[azW,azR,azS,azT]
  refine bG 7 (by kernel_rfl) rfl fun K hK=> ?_;refine step_append_lies _ rfl _ _ 150 rfl 0 206 i0 (.agg #[.int .i64 0,.float .f64 0,.int .i64 0,.int .i64 0]) 4 32 x9 HI0.out HZ0.out HZ1.out HZ2.out rfl (by decide) (.slice A ns.length c) ns.length (bT ns) rfl HD5.out.2.1 ⟨w4.heap.size,0,none⟩ 1 1 [.int .i64 kind,.float .f64 val,.int .i64 na,.int .i64 nb] rfl rfl HC5.out (by simp[az8]) (by decide) (by have:=HLEN.out;unfold maxLen;omega) (by have:=HLEN.out;omega) (Nat.zero_le _) w5.heap.size rfl ?_;intro r cap w6 hown6 hgr6 hat6 hlt6;have hm:=amM HO.out HD5.out hgr6 HB5.out.size (.slice (some ⟨r,0,none⟩) (ns.length+1) cap);obtain⟨q1,q2,q3,q4⟩:=hm;obtain⟨q4,q5⟩:=q4 w.heap.size nlr (az5 w5 _ c0);obtain⟨w7,hw7⟩:∃w7,w6.setCell ⟨g,0,none⟩ (.slice (some ⟨r,0,none⟩) (ns.length+1) cap)=w7:=⟨_,rfl⟩;obtain⟨g0',g1',gf0',-⟩:=aB q1;have d0:=(azU (a:=⟨w.heap.size,0,none⟩) q4).trans c0;have d1:=(azU (a:=⟨w.heap.size,1,none⟩) q4).trans c1
  have d2:=(azU (a:=⟨w.heap.size,2,none⟩) q4).trans c2;have d3:=(azU (a:=⟨w.heap.size,3,none⟩) q4).trans c3;have HO6:=hdd hown6;have HG6:=hdd hgr6;have HA6:=hdd hat6;have HW7:=hdd hw7;rw[hw7]at q2 q3 q5;have HQ2:=hdd q2;have HQ3:=hdd q3;have HQ5:=hdd q5;refine hK.out _ _ (fun _=>⟨g0',d0,d1,d2,d3⟩) ?_;clear hK hown6 hgr6 hat6 hlt6 q1 q2 q3 q4 q5
  try simp only[azW,azR,azS,azT]
  refine bG 8 (by kernel_rfl) rfl fun K hK=> ?_;go_simp;refine hK.out _ _ (fun _=>⟨g0',d0,d1,d2,d3⟩) ?_;clear hK
  try simp only[azW,azR,azS,azT]
  refine bG 9 (by kernel_rfl) rfl fun K hK=> ?_;go_simp;refine hK.out _ _ (fun _=>⟨g0',d0,d1,d2,d3⟩) ?_;clear hK
  try simp only[azW,azR,azS,azT]
  refine bG 10 (by kernel_rfl) rfl fun K hK=> ?_;go_simp;refine hK.out _ _ (fun h=>absurd rfl h) ?_;clear hK;refine iZ (by kernel_rfl) ?_;refine NoPanic.normal ?_;obtain⟨p0,p1,-,-⟩:=aB HQ2.out;have e0:=(azU (a:=⟨w.heap.size,0,none⟩) HQ5.out).trans c0;have e1:=(azU (a:=⟨w.heap.size,1,none⟩) HQ5.out).trans c1;have e2:=(azU (a:=⟨w.heap.size,2,none⟩) HQ5.out).trans c2;have e3:=(azU (a:=⟨w.heap.size,3,none⟩) HQ5.out).trans c3;clear d0 d1 d2 d3 g0' g1' gf0' c0 c1 c2 c3 g0 g1 hw5;go_wp2_with fail
  refine wp_region_noPanic ?_;refine gQ (fun w'=>w'.cell? ⟨g,1,none⟩=some (.map (some mb))/\w'.cell? ⟨w.heap.size,0,none⟩=some (.int .i64 kind)/\w'.cell? ⟨w.heap.size,1,none⟩=some (.float .f64 val)/\w'.cell? ⟨w.heap.size,2,none⟩=some (.int .i64 na)/\w'.cell? ⟨w.heap.size,3,none⟩=some (.int .i64 nb)) 7 (by kernel_rfl) ?_;have hSd2:(fun w':World=>w'.cell? ⟨g,1,none⟩=some (.map (some mb))/\w'.cell? ⟨w.heap.size,0,none⟩=some (.int .i64 kind)/\w'.cell? ⟨w.heap.size,1,none⟩=some (.float .f64 val)/\w'.cell? ⟨w.heap.size,2,none⟩=some (.int .i64 na)/\w'.cell? ⟨w.heap.size,3,none⟩=some (.int .i64 nb)) w7.drew:=⟨p1,e0,e1,e2,e3⟩;refine aO 0 (.pointer (some ⟨g,0,none⟩)) rfl (by kernel_rfl) (by kernel_rfl) (by kernel_rfl) (by kernel_rfl) (fun _ _ _ h=>h) (by rfl) ?_ (by assumption) ?_
  . intro w' hSw;(try dsimp only at hSw);go_split_ands;go_simp;all_goals first|rfl|done
  try simp only[azW,azR,azS,azT]
  refine aO 1 (.pointer (some ⟨g,0,none⟩)) rfl (by kernel_rfl) (by kernel_rfl) (by kernel_rfl) (by kernel_rfl) (fun _ _ _ h=>h) (by rfl) ?_ (by assumption) ?_
  . intro w' hSw;(try dsimp only at hSw);go_split_ands;go_simp;all_goals first|rfl|done
  try simp only[azW,azR,azS,azT]
  refine aO 2 (.pointer (some ⟨g,1,none⟩)) rfl (by kernel_rfl) (by kernel_rfl) (by kernel_rfl) (by kernel_rfl) (fun _ _ _ h=>h) (by rfl) ?_ (by assumption) ?_
  . intro w' hSw;(try dsimp only at hSw);go_split_ands;go_simp;all_goals first|rfl|done
  try simp only[azW,azR,azS,azT]
  refine aO 3 (.map (some mb)) rfl (by kernel_rfl) (by kernel_rfl) (by kernel_rfl) (by kernel_rfl) (fun _ _ _ h=>h) (by rfl) ?_ (by assumption) ?_
  . intro w' hSw;(try dsimp only at hSw);go_split_ands;go_simp;all_goals first|rfl|done
  try simp only[azW,azR,azS,azT]
  refine aO 4 (.agg #[.int .i64 kind,.float .f64 val,.int .i64 na,.int .i64 nb]) rfl (by kernel_rfl) (by kernel_rfl) (by kernel_rfl) (by kernel_rfl) (fun _ _ _ h=>h) (by rfl) ?_ (by assumption) ?_
  . intro w' hSw;(try dsimp only at hSw);go_split_ands;go_simp;all_goals first|rfl|done
  try simp only[azW,azR,azS,azT]
  refine aO 6 (.int .i64 (ns.length:Int)) rfl (by kernel_rfl) (by kernel_rfl) (by kernel_rfl) (by kernel_rfl) (fun _ _ _ h=>h) (by rfl) ?_ (by assumption) ?_
  . intro w' hSw;(try dsimp only at hSw);go_split_ands;go_simp;all_goals first|rfl|done
  try simp only[azW,azR,azS,azT]
  refine bG 5 (by kernel_rfl) rfl fun K hK=> ?_;go_simp;refine(HKO.out _).mono ?_;rintro e w8⟨rfl,hb8⟩;have h78:Below w7.heap.size w7 w8:=aA (azY _ _).drew hb8;have HB8:=hdd h78;have HM8:=hdd (HQ3.out.below h78 HQ3.out.lt);replace p0:=cbl p0 h78;replace p1:=cbl p1 h78;replace e0:=cbl e0 h78;replace e1:=cbl e1 h78;replace e2:=cbl e2 h78;replace e3:=cbl e3 h78;clear h78 hb8;refine hK.out _ _ (fun _=>⟨p1,e0,e1,e2,e3⟩) ?_;clear hK
  try simp only[azW,azR,azS,azT]
  refine bG 7 (by kernel_rfl) rfl fun K hK=> ?_;refine ajQ _ rfl _ _ _ _ rfl _ _ nL nM mb m m' rfl HM8.out (.agg #[.int .i64 kind,.int .i64 na,.int .i64 nb,.int .u64 (val:Int)]) (.int .i64 (ns.length:Int)) kl rfl rfl HKEY.out HU.out ?_;intro w9 HM9 hgr9 hsz9;have HG9:=hdd hgr9;refine hK.out _ _ (fun h=>absurd rfl h) ?_;clear hK hgr9 hsz9;refine iZ (by kernel_rfl) ?_;refine NoPanic.normal ?_;go_wp2
  go_ret2
  refine amL HO.out HB5.out HO6.out HG6.out HA6.out ?_ HM9.out HG9.out HU.out HLEN.out HV.out HNO.out;rw[HW7.out];have hz:w7.heap.size=w6.heap.size:=by rw[<-HW7.out];simp[azZ]
  rw[<-hz];exact HB8.out
def DagNO(w:World)(g:Nat)(ns:List Nd)(A:Option Addr)(c:Nat):Prop:=
 w.heap[g]? =some (.cells #[.slice A ns.length c,.map none] 153 (0,0))/\w.ownsRow 0 206 4 (.slice A ns.length c) ns.length (bT ns)/\(Value.slice A ns.length c).ownBlock≠some g/\ns.length<=20000/\∀n∈ns,n.val<18446744073709551616
theorem DagN.opened (h:DagN w g ns):∃A c,DagNO w g ns A c:=by
 obtain⟨v,h1,h2,h3⟩:=h;rcases id h2.2 with ⟨rfl,hn⟩|⟨r,cap,cur,rfl,-⟩
 . exact⟨none,0,by rw[hn];exact h1,by rw[hn];rw[hn]at h2;exact h2,by simp[az2],h3.2⟩
 . exact⟨_,cap,h1,h2,h3⟩
theorem DagNO.dagB (h:DagNO w g ns A c)(hb:¬DagB w g b):b≠g/\(Value.slice A ns.length c).ownBlock≠some b:=
 ⟨fun e=>hb (Or.inl e),fun e=>hb (Or.inr ⟨_,_,_,h.1,Or.inl e⟩)⟩
theorem DagNO.below (h:DagNO w g ns A c)(hb:Below w.heap.size w w'):DagNO w' g ns A c:=
 ⟨hbl h.1 hb,vB h.2.1 hb,h.2.2⟩
theorem ajU{cap:Nat}(h:DagNO w g ns A c)(hA:Below w.heap.size w wA)
 (hO:wB.ownsRow 0 206 4 (.slice (some ⟨r,0,none⟩) (ns.length+1) cap) (ns.length+1) (bT ns++dV n)) (hB:wA.grownBy wB (Value.slice A ns.length c).ownBlock) (hat:(Value.slice A ns.length c).ownBlock=some r\/r=wA.heap.size)
 (hD:Below wB.heap.size (wB.setCell ⟨g,0,none⟩ (.slice (some ⟨r,0,none⟩) (ns.length+1) cap)) wE) (hl:ns.length<20000) (hv:n.val<18446744073709551616):
 vC w g ns n (.returned (.tuple #[.int .i64 (ns.length:Int),.nilIface])) wE:=by
 obtain⟨h1,h2,h5,h8,h9⟩:=id h;have lg:=aD h1;have sA:=hA.size;have sB:=hB.size;have hrg:r≠g:=fun e=>hat.elim (fun h=>h5 (by rw[<-e];exact h)) (fun h=>by omega);have hrB:r<wB.heap.size:=(hO.lt r rfl).2;have szC:(wB.setCell ⟨g,0,none⟩ (.slice (some ⟨r,0,none⟩) (ns.length+1) cap)).heap.size=wB.heap.size:=by simp[azZ]
 have far:∀b,b<w.heap.size->b≠g->(Value.slice A ns.length c).ownBlock≠some b->wE.heap[b]? =w.heap[b]? :=fun b hb q1 q3=>
  (hD.block b (by omega)).trans ((az0 wB _ _ b (by simpa using q1)).trans ((hB.block b (by omega) (fun e=>q3 e.symm)).trans (hA.block b hb)))
 have eg:wB.heap[g]? =some (.cells #[.slice A ns.length c,.map none] 153 (0,0)):=(hB.block g (by omega) (fun e=>h5 e.symm)).trans ((hA.block g lg).trans h1);have eC:(wB.setCell ⟨g,0,none⟩ (.slice (some ⟨r,0,none⟩) (ns.length+1) cap)).heap[g]? =some (.cells #[.slice (some ⟨r,0,none⟩) (ns.length+1) cap,.map none] 153 (0,0)):=by
  have hg:g<wB.heap.size:=aD eg;have h':wB.heap[g]=.cells #[.slice A ns.length c,.map none] 153 (0,0):=(azX.1 eg).2;simp[azZ,hg,az1,h']
 have eE:wE.heap[g]? =some (.cells #[.slice (some ⟨r,0,none⟩) (ns.length+1) cap,.map none] 153 (0,0)):=(hD.block g (by omega)).trans eC;have hO1:=hO.kept (grownBy_set (grownBy_refl wB (some g)) (i:=0) (.slice (some ⟨r,0,none⟩) (ns.length+1) cap)) (Or.inr (fun e=>hrg (azV e)));have hO2:=hO1.kept (aH (row:=none) (by rw[szC];exact hD)) (Or.inr (by simp[az2]));have sz:w.heap.size<=wE.heap.size:=by have:=hD.size;omega
 refine⟨ns.length,ns++[n],rfl,Or.inr ⟨.slice (some ⟨r,0,none⟩) (ns.length+1) cap,?_,?_,?_,by simp;omega,?_⟩,by simp,Or.inr rfl,⟨⟨?_,?_,?_,sz,?_⟩,?_⟩⟩
 . simpa using eE
 . rw[lT];simpa using hO2
 . exact fun e=>hrg (azV e)
 . intro x hx
   rcases az7.1 hx with hx|hx
   . exact h9 x hx
   . simp at hx;rw[hx];exact hv
 . exact hD.os.trans (hB.os.trans hA.os)
 . exact hD.tape.trans (hB.tape.trans hA.tape)
 . exact hD.output.trans (hB.output.trans hA.output)
 . intro b hb hn
   obtain⟨q1,q3⟩:=h.dagB hn;exact far b hb q1 q3
 . rintro b hb hn(rfl|⟨v',mb',T',e,hd⟩)
   . exact(h.dagB hn).1 rfl
   . obtain⟨q1,q3⟩:=h.dagB hn
     rw[eE]at e;simp only[az6,Obj.cells.injEq,Array.mk.injEq,List.cons.injEq,Value.map.injEq,and_true]at e;obtain⟨⟨rfl,rfl⟩,-⟩:=e;rcases hd with hd|hd
     . have:r=b:=azV hd
       subst this;exact hat.elim q3 (fun h=>by omega)
     . cases hd
theorem look_nil{P:Program}{k e t:TypeId}(K:Keyed P k)(ht:P.underlying t=some (.map k e)){z:Value}(hz:(zeroValue e).run P w=.ok z w){key:Value}{kl:Lit}(hkey:keyOf P k key=some kl):
 (Instr.lookup t (.map none) key true).run P w=.ok (.tuple #[z,.bool false]) w:=by
 rcases K.find w hkey [] (by simp)with ⟨h1,h2⟩|⟨j,e0,h1,h2,h3⟩
 . simp[Instr.lookup,run_underlying ht,K.check w _ hkey,h1,hz,Result.andThen]
 . cases h2
theorem ajV(h:DagNO w g ns A c)(h5:DagNO w5 g ns A c)(hg:w5.grownBy w6 (Value.slice A ns.length c).ownBlock)(nv:Value):
 w6.heap[g]? =some (.cells #[.slice A ns.length c,.map none] 153 (0,0))/\(w6.setCell ⟨g,0,none⟩ nv).heap[g]? =some (.cells #[nv,.map none] 153 (0,0))/\
  ∀b,w.heap.size<=b->b<w5.heap.size->w6.heap[b]? =w5.heap[b]? /\(w6.setCell ⟨g,0,none⟩ nv).heap[b]? =w5.heap[b]? :=by
 have lg:=aD h.1;have lg5:=aD h5.1;have eg:=(hg.block g lg5 (fun e=>h.2.2.1 e.symm)).trans h5.1;refine⟨eg,?_,fun b hb hlt=> ?_⟩
 . have hgl:g<w6.heap.size:=aD eg
   have h':w6.heap[g]=.cells #[.slice A ns.length c,.map none] 153 (0,0):=(azX.1 eg).2;simp[azZ,hgl,az1,h']
 . have e:=hg.block b hlt (fun e=>by have:=fT h.2.1 b e.symm;omega)
   exact⟨e,(az0 w6 _ _ b (by simp;omega)).trans e⟩
theorem amN(hd:DagN w g ns)(hn:NdIn n ns.length)(hv:n.val<18446744073709551616)(hl:ns.length<20000):
 Calls Tryz.prog 172 #[.pointer (some ⟨g,0,none⟩),iL n] w (vC w g ns n):=by
 obtain⟨A,c,ho⟩:=hd.opened;obtain⟨w1,hw1,hb1,hs1,b1⟩:=pro1 w (.cells (dV n).toArray 206);have hkey:∃kl,keyOf Tryz.prog 318 (keyV n)=some kl:=by
  have hk:Sm64 n.kind/\Sm64 n.a/\Sm64 n.b:=by
   rcases hn.1 with ⟨q1,q2,q3⟩|⟨q1,q2,q3,q4⟩|⟨q1,q2,q3,q4⟩<;>unfold Sm64<;>omega
  exact abM hk.1 hk.2.1 hk.2.2 hv
 obtain⟨kl,hkey⟩:=hkey;have HO:=hdd ho;have HO1:=hdd (ho.below hb1);have HB1:=hdd hb1;have HT:=hdd (xW (DagP.below (Or.inr hd) hb1) hn hv);have HKO:Hid (∀w',Calls Tryz.prog 228 #[.agg #[.int .i64 n.kind,.float .f64 n.val,.int .i64 n.a,.int .i64 n.b]] w' (RetV w' (keyV n))):=hdd fun w'=>xV;have HKEY:=hdd hkey;obtain⟨kind,val,na,nb⟩:=n;simp only[dV,iL]at b1 hw1|-;obtain⟨c0,c1,c2,c3⟩:=bP b1;obtain⟨g0,g1,gf0,gf1⟩:=aB HO1.out.1;have HLEN:=hdd hl;have HV:=hdd hv;have hlI:(ns.length:Int)<20000:=by omega
 have hl0:(0:Int)<=(ns.length:Int):=by omega
 have hneq:=fun(w:World) (r:Option Nat)=>run_neq_map_nil w _ _ _ r nM;clear hd hn hb1 hs1 b1 ho hkey hv hl;obtain⟨i0,hi0,hz0,hz1,hz2⟩:=info_parts yB;have HI0:=hdd hi0;have HZ0:=hdd hz0;have HZ1:=hdd hz1;have HZ2:=hdd hz2;clear hi0 hz0 hz1 hz2;go_enter Tryz.func172,Tryz.ntmps172
 go_wp2_with fail
 refine HT.out.mono ?_;rintro e w2⟨rfl,hb2⟩;replace c0:=cbl c0 hb2;replace c1:=cbl c1 hb2;replace c2:=cbl c2 hb2;replace c3:=cbl c3 hb2;replace g0:=cbl g0 hb2;replace g1:=cbl g1 hb2;have HB2:=hdd (aA HB1.out hb2);have HD2:=hdd (((HO1.out.below hb2).below (azY _ _).drew));clear hb2 gf0 gf1;go_wp2_with fail
 have hdr:Below w2.heap.size w2 w2.drew:=(azY _ _).drew;replace c0:=cbl c0 hdr;replace c1:=cbl c1 hdr;replace c2:=cbl c2 hdr;replace c3:=cbl c3 hdr;replace g0:=cbl g0 hdr;replace g1:=cbl g1 hdr;clear hdr
 go_region_held3 (fun w'=>w'.cell? ⟨g,1,none⟩=some (.map none)/\w'.cell? ⟨w.heap.size,0,none⟩=some (.int .i64 kind)/\w'.cell? ⟨w.heap.size,1,none⟩=some (.float .f64 val)/\w'.cell? ⟨w.heap.size,2,none⟩=some (.int .i64 na)/\w'.cell? ⟨w.heap.size,3,none⟩=some (.int .i64 nb)) (go_keep)
  (first
  |(go_at_call 228
    refine(HKO.out _).mono ?_;rintro e w4⟨rfl,hb4⟩;have c0:=cbl c0 hb4;have c1:=cbl c1 hb4;have c2:=cbl c2 hb4;have c3:=cbl c3 hb4;have g0:=cbl g0 hb4;have g1:=cbl g1 hb4;have hlk:=look_nil nL nM (dW w4) HKEY.out;unfold keyV at*;have HBF:=hdd (aA (aA HB2.out (azY _ _).drew) hb4);have HDF:=hdd (HD2.out.below hb4);clear hb4))
 clear hlk;go_wp2_with fail
 refine wp_region_noPanic ?_;refine gQ (fun w'=>w'.cell? ⟨g,0,none⟩=some (.slice A ns.length c)/\w'.cell? ⟨w.heap.size,0,none⟩=some (.int .i64 kind)/\w'.cell? ⟨w.heap.size,1,none⟩=some (.float .f64 val)/\w'.cell? ⟨w.heap.size,2,none⟩=some (.int .i64 na)/\w'.cell? ⟨w.heap.size,3,none⟩=some (.int .i64 nb)) 10 (by kernel_rfl) ?_;have hSd:(fun w':World=>w'.cell? ⟨g,0,none⟩=some (.slice A ns.length c)/\w'.cell? ⟨w.heap.size,0,none⟩=some (.int .i64 kind)/\w'.cell? ⟨w.heap.size,1,none⟩=some (.float .f64 val)/\w'.cell? ⟨w.heap.size,2,none⟩=some (.int .i64 na)/\w'.cell? ⟨w.heap.size,3,none⟩=some (.int .i64 nb)) w4.drew:=⟨g0,c0,c1,c2,c3⟩;refine aO 0 (.pointer (some ⟨g,0,none⟩)) rfl (by kernel_rfl) (by kernel_rfl) (by kernel_rfl) (by kernel_rfl) (fun _ _ _ h=>h) (by rfl) ?_ (by assumption) ?_
 . intro w' hSw;(try dsimp only at hSw);go_split_ands;go_simp;all_goals first|rfl|done
 try simp only[azW,azR,azS,azT]
 refine aO 1 (.pointer (some ⟨g,0,none⟩)) rfl (by kernel_rfl) (by kernel_rfl) (by kernel_rfl) (by kernel_rfl) (fun _ _ _ h=>h) (by rfl) ?_ (by assumption) ?_
 . intro w' hSw;(try dsimp only at hSw);go_split_ands;go_simp;all_goals first|rfl|done
 try simp only[azW,azR,azS,azT]
 refine aO 2 (.pointer (some ⟨g,0,none⟩)) rfl (by kernel_rfl) (by kernel_rfl) (by kernel_rfl) (by kernel_rfl) (fun _ _ _ h=>h) (by rfl) ?_ (by assumption) ?_
 . intro w' hSw;(try dsimp only at hSw);go_split_ands;go_simp;all_goals first|rfl|done
 try simp only[azW,azR,azS,azT]
 refine aO 3 (.pointer (some ⟨g,0,none⟩)) rfl (by kernel_rfl) (by kernel_rfl) (by kernel_rfl) (by kernel_rfl) (fun _ _ _ h=>h) (by rfl) ?_ (by assumption) ?_
 . intro w' hSw;(try dsimp only at hSw);go_split_ands;go_simp;all_goals first|rfl|done
 try simp only[azW,azR,azS,azT]
 refine aO 4 (.slice A ns.length c) rfl (by kernel_rfl) (by kernel_rfl) (by kernel_rfl) (by kernel_rfl) (fun _ _ _ h=>h) (by rfl) ?_ (by assumption) ?_
 . intro w' hSw;(try dsimp only at hSw);go_split_ands;go_simp;all_goals first|rfl|done
 try simp only[azW,azR,azS,azT]
 refine aO 5 (.agg #[.int .i64 kind,.float .f64 val,.int .i64 na,.int .i64 nb]) rfl (by kernel_rfl) (by kernel_rfl) (by kernel_rfl) (by kernel_rfl) (fun _ _ _ h=>h) (by rfl) ?_ (by assumption) ?_
 . intro w' hSw;(try dsimp only at hSw);go_split_ands;go_simp;all_goals first|rfl|done
 try simp only[azW,azR,azS,azT]
 obtain⟨w5,hw5,hb5,hs5,b5⟩:=pro1 w4.drew (.cells #[.int .i64 kind,.float .f64 val,.int .i64 na,.int .i64 nb] 206);have hdr4:Below w4.heap.size w4 w4.drew:=(azY _ _).drew;have h45:Below w4.heap.size w4 w5:=aA hdr4 hb5;have HD5:=hdd (HDF.out.below h45);replace c0:=cbl c0 h45;replace c1:=cbl c1 h45;replace c2:=cbl c2 h45;replace c3:=cbl c3 h45;replace g0:=cbl g0 h45;replace g1:=cbl g1 h45;have HB5:=hdd (aA HBF.out h45);have HC5:=hdd (nV b5);have HS5:Hid (w5.heap.size=w4.heap.size+1):=hdd hs5;clear hb5 hs5 b5 hdr4 h45;refine bG 6 (by kernel_rfl) rfl fun K hK=> ?_;go_simp;refine hK.out _ _ (fun _=>⟨g0,c0,c1,c2,c3⟩) ?_;clear hK
 try simp only[azW,azR,azS,azT]
 refine bG 7 (by kernel_rfl) rfl fun K hK=> ?_;refine step_append_lies _ rfl _ _ 150 rfl 0 206 i0 (.agg #[.int .i64 0,.float .f64 0,.int .i64 0,.int .i64 0]) 4 32 x9 HI0.out HZ0.out HZ1.out HZ2.out rfl (by decide) (.slice A ns.length c) ns.length (bT ns) rfl HD5.out.2.1 ⟨w4.heap.size,0,none⟩ 1 1 [.int .i64 kind,.float .f64 val,.int .i64 na,.int .i64 nb] rfl rfl HC5.out (by simp[az8]) (by decide) (by have:=HLEN.out;unfold maxLen;omega) (by have:=HLEN.out;omega) (Nat.zero_le _) w5.heap.size rfl ?_;intro r cap w6 hown6 hgr6 hat6 hlt6;have hm:=ajV HO.out HD5.out hgr6 (.slice (some ⟨r,0,none⟩) (ns.length+1) cap);obtain⟨q1,q2,q4⟩:=hm;obtain⟨q4,q5⟩:=q4 w.heap.size nlr (az5 w5 _ c0);obtain⟨w7,hw7⟩:∃w7,w6.setCell ⟨g,0,none⟩ (.slice (some ⟨r,0,none⟩) (ns.length+1) cap)=w7:=⟨_,rfl⟩;obtain⟨g0',g1',gf0',-⟩:=aB q1;have d0:=(azU (a:=⟨w.heap.size,0,none⟩) q4).trans c0;have d1:=(azU (a:=⟨w.heap.size,1,none⟩) q4).trans c1
 have d2:=(azU (a:=⟨w.heap.size,2,none⟩) q4).trans c2;have d3:=(azU (a:=⟨w.heap.size,3,none⟩) q4).trans c3;have HO6:=hdd hown6;have HG6:=hdd hgr6;have HA6:=hdd hat6;have HW7:=hdd hw7;rw[hw7]at q2 q5;have HQ2:=hdd q2;have HQ5:=hdd q5;refine hK.out _ _ (fun _=>⟨g0',d0,d1,d2,d3⟩) ?_;clear hK hown6 hgr6 hat6 hlt6 q1 q2 q4 q5
 try simp only[azW,azR,azS,azT]
 refine bG 8 (by kernel_rfl) rfl fun K hK=> ?_;go_simp;refine hK.out _ _ (fun _=>⟨g0',d0,d1,d2,d3⟩) ?_;clear hK
 try simp only[azW,azR,azS,azT]
 refine bG 9 (by kernel_rfl) rfl fun K hK=> ?_;go_simp;refine hK.out _ _ (fun _=>⟨g0',d0,d1,d2,d3⟩) ?_;clear hK
 try simp only[azW,azR,azS,azT]
 refine bG 10 (by kernel_rfl) rfl fun K hK=> ?_;go_simp;refine hK.out _ _ (fun h=>absurd rfl h) ?_;clear hK;refine iZ (by kernel_rfl) ?_;refine NoPanic.normal ?_;obtain⟨p0,p1,-,-⟩:=aB HQ2.out;have e0:=(azU (a:=⟨w.heap.size,0,none⟩) HQ5.out).trans c0;have e1:=(azU (a:=⟨w.heap.size,1,none⟩) HQ5.out).trans c1;have e2:=(azU (a:=⟨w.heap.size,2,none⟩) HQ5.out).trans c2;have e3:=(azU (a:=⟨w.heap.size,3,none⟩) HQ5.out).trans c3;clear d0 d1 d2 d3 g0' g1' gf0' c0 c1 c2 c3 g0 g1 hw5;go_wp2
 go_ret2
 refine ajU HO.out HB5.out HO6.out HG6.out HA6.out ?_ HLEN.out HV.out;rw[HW7.out];have hz:w7.heap.size=w6.heap.size:=by rw[<-HW7.out];simp[azZ]
 rw[<-hz];exact azY _ _
theorem amO(hd:DagP w g ns)(hn:NdIn n ns.length)(hv:n.val<18446744073709551616)(hl:ns.length<20000):
 Calls Tryz.prog 172 #[.pointer (some ⟨g,0,none⟩),iL n] w (vC w g ns n):=hd.elim (fun h=>ajT h hn hv hl) (fun h=>amN h hn hv hl)
end
section
open List renaming getElem?_eq_some_iff->az9,getElem?_append_left->baA,prefix_rfl->baB
variable{ns ns':List Nd}{i j k:Nat}{n:Nd}
inductive Ex where
 |leaf (v:Nat)
 |add (a b:Ex)
 |sub (a b:Ex)
 |mul (a b:Ex)
 |div (a b:Ex)
 |root (a:Ex)
def Is(ns:List Nd):Ex->Nat->Prop
 | .leaf v,k=>ns[k]? =some ⟨0,v,0,0⟩
 | .add a b,k=>∃i j:Nat,ns[k]? =some ⟨1,0,i,j⟩/\i<k/\j<k/\Is ns a i/\Is ns b j
 | .sub a b,k=>∃i j:Nat,ns[k]? =some ⟨2,0,i,j⟩/\i<k/\j<k/\Is ns a i/\Is ns b j
 | .mul a b,k=>∃i j:Nat,ns[k]? =some ⟨3,0,i,j⟩/\i<k/\j<k/\Is ns a i/\Is ns b j
 | .div a b,k=>∃i j:Nat,ns[k]? =some ⟨4,0,i,j⟩/\i<k/\j<k/\Is ns a i/\Is ns b j
 | .root a,k=>∃i:Nat,ns[k]? =some ⟨5,0,i,0⟩/\i<k/\Is ns a i
theorem Is.lt {e:Ex}(h:Is ns e k):k<ns.length:=by
 cases e<;>simp only[Is]at h
 . exact(az9.1 h).1
 all_goals first
  |(obtain⟨i,j,h,-⟩:=h;exact(az9.1 h).1)
  |(obtain⟨i,h,-⟩:=h;exact(az9.1 h).1)
theorem jB(hp:ns<+:ns')(h:ns[k]? =some n):ns'[k]? =some n:=by
 obtain⟨l,rfl⟩:=hp;rw[baA (az9.1 h).1];exact h
theorem Is.mono (hp:ns<+:ns'):∀{e:Ex} {k:Nat},Is ns e k->Is ns' e k:=by
 intro e
 induction e with
 |leaf v=>intro k h;exact jB hp h
 |add a b iha ihb=>intro k h;obtain⟨i,j,h1,h2,h3,h4,h5⟩:=h;exact⟨i,j,jB hp h1,h2,h3,iha h4,ihb h5⟩
 |sub a b iha ihb=>intro k h;obtain⟨i,j,h1,h2,h3,h4,h5⟩:=h;exact⟨i,j,jB hp h1,h2,h3,iha h4,ihb h5⟩
 |mul a b iha ihb=>intro k h;obtain⟨i,j,h1,h2,h3,h4,h5⟩:=h;exact⟨i,j,jB hp h1,h2,h3,iha h4,ihb h5⟩
 |div a b iha ihb=>intro k h;obtain⟨i,j,h1,h2,h3,h4,h5⟩:=h;exact⟨i,j,jB hp h1,h2,h3,iha h4,ihb h5⟩
 |root a iha=>intro k h;obtain⟨i,h1,h2,h3⟩:=h;exact⟨i,jB hp h1,h2,iha h3⟩
def AllIs(P:Ex->Prop)(ns:List Nd):Prop:=∀k,k<ns.length->∃e,Is ns e k/\P e
def opE(kind:Int)(a b:Ex):Ex:=if kind=1 then .add a b else if kind=2 then .sub a b else if kind=3 then .mul a b else .div a b
def vD(kind:Int):Prop:=kind=1\/kind=2\/kind=3\/kind=4
theorem Is.opE {kind:Int}(hk:vD kind){a b:Ex}(h:ns[k]? =some ⟨kind,0,i,j⟩)(hi:i<k)(hj:j<k)(ha:Is ns a i)(hb:Is ns b j):Is ns (opE kind a b) k:=by
 rcases hk with rfl|rfl|rfl|rfl<;>exact⟨i,j,h,hi,hj,ha,hb⟩
theorem AllIs.before {P:Ex->Prop}(h:AllIs P ns)(hn:ns[k]? =some n):(n.kind=0/\n.a=0/\n.b=0)\/(vD n.kind/\n.val=0/\∃i j:Nat,n.a=i/\n.b=j/\i<k/\j<k)\/(n.kind=5/\n.val=0/\n.b=0/\∃i:Nat,n.a=i/\i<k):=by
 obtain⟨e,he,-⟩:=h k (az9.1 hn).1
 cases e with
 |leaf v=>simp only[Is,hn]at he;cases he;exact Or.inl ⟨rfl,rfl,rfl⟩
 |root a=>obtain⟨i,h1,h2,h3⟩:=he;rw[hn]at h1;cases h1;exact Or.inr (Or.inr ⟨rfl,rfl,rfl,i,rfl,h2⟩)
 |add a b=>obtain⟨i,j,h1,h2,h3,-⟩:=he;rw[hn]at h1;cases h1;exact Or.inr (Or.inl ⟨Or.inl rfl,rfl,i,j,rfl,rfl,h2,h3⟩)
 |sub a b=>obtain⟨i,j,h1,h2,h3,-⟩:=he;rw[hn]at h1;cases h1;exact Or.inr (Or.inl ⟨Or.inr (Or.inl rfl),rfl,i,j,rfl,rfl,h2,h3⟩)
 |mul a b=>obtain⟨i,j,h1,h2,h3,-⟩:=he;rw[hn]at h1;cases h1;exact Or.inr (Or.inl ⟨Or.inr (Or.inr (Or.inl rfl)),rfl,i,j,rfl,rfl,h2,h3⟩)
 |div a b=>obtain⟨i,j,h1,h2,h3,-⟩:=he;rw[hn]at h1;cases h1;exact Or.inr (Or.inl ⟨Or.inr (Or.inr (Or.inr rfl)),rfl,i,j,rfl,rfl,h2,h3⟩)
theorem AllIs.snoc {P:Ex->Prop}(h:AllIs P ns){e:Ex}(he:Is (ns++[n]) e ns.length)(hP:P e):AllIs P (ns++[n]):=by
 intro k hk;rw[List.length_append]at hk;by_cases hkn:k<ns.length
 . obtain⟨e,h1,h2⟩:=h k hkn
   exact⟨e,h1.mono ⟨[n],rfl⟩,h2⟩
 . have:k=ns.length:=by simp at hk;omega
   subst this;exact⟨e,he,hP⟩
theorem aoK{P:Ex->Prop}{kind:Int}(hk:vD kind){a b:Ex}(h:AllIs P ns)(ha:Is ns a i)(hb:Is ns b j)(hn:ns'[k]? =some ⟨kind,0,i,j⟩)(hns:ns'=ns\/ns'=ns++[⟨kind,0,i,j⟩])(hP:P (opE kind a b)):
 Is ns' (Go.Proofs.YtigoiiekebccnaaGreatDoor.opE kind a b) k/\AllIs P ns'/\ns<+:ns':=by
 by_cases hkl:k<ns.length
 . have hnk:ns[k]? =some ⟨kind,0,i,j⟩:=by
    rcases hns with rfl|rfl
    . exact hn
    . rwa[baA hkl]at hn
   have hb4:i<k/\j<k:=by
    rcases h.before hnk with ⟨h0,-⟩|⟨-,-,i',j',e1,e2,h1,h2⟩|⟨h5,-⟩
    . rcases hk with rfl|rfl|rfl|rfl<;>simp at h0
    . simp at e1 e2;omega
    . rcases hk with rfl|rfl|rfl|rfl<;>simp at h5
   have hI:Is ns (Go.Proofs.YtigoiiekebccnaaGreatDoor.opE kind a b) k:=Is.opE hk hnk hb4.1 hb4.2 ha hb;rcases hns with rfl|rfl
   . exact⟨hI,h,baB⟩
   . have hp:ns<+:ns++[⟨kind,0,i,j⟩]:=⟨_,rfl⟩
     exact⟨hI.mono hp,h.snoc (Is.opE hk (by simp) ha.lt hb.lt (ha.mono hp) (hb.mono hp)) hP,hp⟩
 . rcases hns with rfl|rfl
   . exact absurd (az9.1 hn).1 hkl
   . have hp:ns<+:ns++[⟨kind,0,i,j⟩]:=⟨_,rfl⟩
     have:k=ns.length:=by have:=(az9.1 hn).1;simp at this;omega
     subst this;have hI:=Is.opE hk hn ha.lt hb.lt (ha.mono hp) (hb.mono hp);exact⟨hI,h.snoc hI hP,hp⟩
theorem ajW{P:Ex->Prop}{v:Nat}(h:AllIs P ns)(hn:ns'[k]? =some ⟨0,v,0,0⟩)(hns:ns'=ns\/ns'=ns++[⟨0,v,0,0⟩])(hP:P (.leaf v)):
 Is ns' (.leaf v) k/\AllIs P ns'/\ns<+:ns':=by
 rcases hns with rfl|rfl
 . exact⟨hn,h,baB⟩
 . exact⟨hn,h.snoc (show Is _ (.leaf v) _ by simp[Is]) hP,⟨_,rfl⟩⟩
theorem ajX{P:Ex->Prop}{a:Ex}(h:AllIs P ns)(ha:Is ns a i)(hn:ns'[k]? =some ⟨5,0,i,0⟩)(hns:ns'=ns\/ns'=ns++[⟨5,0,i,0⟩])(hP:P (.root a)):
 Is ns' (.root a) k/\AllIs P ns'/\ns<+:ns':=by
 by_cases hkl:k<ns.length
 . have hnk:ns[k]? =some ⟨5,0,i,0⟩:=by
    rcases hns with rfl|rfl
    . exact hn
    . rwa[baA hkl]at hn
   have hb4:i<k:=by
    rcases h.before hnk with ⟨h0,-⟩|⟨h0,-⟩|⟨-,-,-,i',e1,h1⟩
    . simp at h0
    . rcases h0 with h0|h0|h0|h0<;>simp at h0
    . simp at e1;omega
   have hI:Is ns (.root a) k:=⟨i,hnk,hb4,ha⟩;rcases hns with rfl|rfl
   . exact⟨hI,h,baB⟩
   . have hp:ns<+:ns++[⟨5,0,i,0⟩]:=⟨_,rfl⟩
     exact⟨hI.mono hp,h.snoc (e:=.root a) ⟨i,by simp,ha.lt,ha.mono hp⟩ hP,hp⟩
 . rcases hns with rfl|rfl
   . exact absurd (az9.1 hn).1 hkl
   . have hp:ns<+:ns++[⟨5,0,i,0⟩]:=⟨_,rfl⟩
     have:k=ns.length:=by have:=(az9.1 hn).1;simp at this;omega
     subst this;have hI:Is (ns++[⟨5,0,i,0⟩]) (.root a) ns.length:=⟨i,hn,ha.lt,ha.mono hp⟩;exact⟨hI,h.snoc hI hP,hp⟩
end
end Go.Proofs.YtigoiiekebccnaaGreatDoor
