/- A part of the proof: contracts of functions and plain laws (LawA, WalkA, WalkB, FrD). -/
import Derived.Test.YtjaafolhfihegaaGreatDoorU13
import Derived.DeepKeys4
set_option linter.unusedVariables false
set_option linter.unusedSimpArgs false
set_option maxHeartbeats 25600000
set_option maxRecDepth 100000
namespace Go.Proofs.YtjaafolhfihegaaGreatDoor
open Go.ChangeShapes Go.WideShapes Go.ChangeAt Go.RowKit
open Go.DataW renaming trod_int->azP,Trod->azQ
section
variable{H:Type}{enc:TypeId×Value->H}{P:Program}{w:World}{base:Nat}{spare:Nat->Bool}{held:Bool}{t:TypeId}{f0 f1 f2 f3 f4 f5 f6 f7:Field}{v:Value}{d:DataW H}{ps:List MemPlace}{r:Reach}{b0:Nat}{k:IntKind}
 (ht:P.underlying t=some (.struct #[f0,f1,f2,f3,f4,f5,f6,f7])) (o0:f0.offset=0) (o1:f1.offset=1) (o2:f2.offset=2) (o3:f3.offset=3) (o4:f4.offset=4) (o5:f5.offset=5) (o6:f6.offset=6) (o7:f7.offset=7)
   (k0:P.cellsOf f0.type=1) (k1:P.cellsOf f1.type=1) (k2:P.cellsOf f2.type=1) (k3:P.cellsOf f3.type=1) (k4:P.cellsOf f4.type=1) (k5:P.cellsOf f5.type=1) (k6:P.cellsOf f6.type=1) (k7:P.cellsOf f7.type=1) (hct:P.cellsOf t=8) (u0:P.underlying f0.type=some (.bool)) (u1:P.underlying f1.type=some (.int k)) (u2:P.underlying f2.type=some (.int k)) (u3:P.underlying f3.type=some (.int k)) (u4:P.underlying f4.type=some (.int k)) (u5:P.underlying f5.type=some (.int k)) (u6:P.underlying f6.type=some (.int k)) (u7:P.underlying f7.type=some (.int k))
include ht o0 o1 o2 o3 o4 o5 o6 o7 k0 k1 k2 k3 k4 k5 k6 k7 hct u0 u1 u2 u3 u4 u5 u6 u7
theorem ao5(hval:Value.okWide P w r b0 t v)(hd:azQ enc P w base spare held t v d ps):
 ∃n0 n1 n2 n3 n4 n5 n6 n7,v=.agg #[.bool n0,.int k n1,.int k n2,.int k n3,.int k n4,.int k n5,.int k n6,.int k n7]/\d=.agg [.lit (.bool n0),.lit (.int k n1),.lit (.int k n2),.lit (.int k n3),.lit (.int k n4),.lit (.int k n5),.lit (.int k n6),.lit (.int k n7)]/\ps=[]/\(Lit.int k n1).wf=true/\(Lit.int k n2).wf=true/\(Lit.int k n3).wf=true/\(Lit.int k n4).wf=true/\(Lit.int k n5).wf=true/\(Lit.int k n6).wf=true/\(Lit.int k n7).wf=true:=by
 obtain⟨cs,rfl,hsz,-⟩:∃cs,v=.agg cs/\cs.size=P.cellsOf t/\Row.okWide P w r b0 t cs:=by
  simpa[Value.okWide,ht]using hval
 rw[hct]at hsz;obtain⟨l⟩:=cs
 match l,hsz with
 |[c0,c1,c2,c3,c4,c5,c6,c7],_=>
  obtain⟨fuel,hf⟩:=hd;obtain⟨xs,n,-,hx,-,hn,hs⟩:=DataW.trod_struct (cs:=[c0,c1,c2,c3,c4,c5,c6,c7]) ht hf
  match xs,hn with
  |[x0,x1,x2,x3,x4,x5,x6,x7],_=>
   have h0:=hs 0 f0 rfl;simp[o0,k0]at h0;have h1:=hs 1 f1 rfl;simp[o1,k1]at h1;have h2:=hs 2 f2 rfl;simp[o2,k2]at h2;have h3:=hs 3 f3 rfl;simp[o3,k3]at h3;have h4:=hs 4 f4 rfl;simp[o4,k4]at h4;have h5:=hs 5 f5 rfl;simp[o5,k5]at h5;have h6:=hs 6 f6 rfl;simp[o6,k6]at h6;have h7:=hs 7 f7 rfl;simp[o7,k7]at h7;obtain⟨n0,e0,rfl⟩:=DataW.trod_bool u0 h0;obtain⟨n1,e1,rfl,w1⟩:=azP u1 h1;obtain⟨n2,e2,rfl,w2⟩:=azP u2 h2;obtain⟨n3,e3,rfl,w3⟩:=azP u3 h3;obtain⟨n4,e4,rfl,w4⟩:=azP u4 h4;obtain⟨n5,e5,rfl,w5⟩:=azP u5 h5;obtain⟨n6,e6,rfl,w6⟩:=azP u6 h6;obtain⟨n7,e7,rfl,w7⟩:=azP u7 h7;simp at e0 e1 e2 e3 e4 e5 e6 e7;subst e0 e1 e2 e3 e4 e5 e6 e7;simp only[Prod.mk.injEq]at hx;exact⟨n0,n1,n2,n3,n4,n5,n6,n7,rfl,hx.1,by simpa using hx.2,w1,w2,w3,w4,w5,w6,w7⟩
theorem ao6{n0:Bool}{n1 n2 n3 n4 n5 n6 n7:Int}(w1:(Lit.int k n1).wf=true)(w2:(Lit.int k n2).wf=true)(w3:(Lit.int k n3).wf=true)(w4:(Lit.int k n4).wf=true)(w5:(Lit.int k n5).wf=true)(w6:(Lit.int k n6).wf=true)(w7:(Lit.int k n7).wf=true):
 azQ enc P w base spare held t (.agg #[.bool n0,.int k n1,.int k n2,.int k n3,.int k n4,.int k n5,.int k n6,.int k n7]) (.agg [.lit (.bool n0),.lit (.int k n1),.lit (.int k n2),.lit (.int k n3),.lit (.int k n4),.lit (.int k n5),.lit (.int k n6),.lit (.int k n7)]) []:=
 ⟨2,by simp[DataW.trod,Value.cells,ht,hct,o0,o1,o2,o3,o4,o5,o6,o7,k0,k1,k2,k3,k4,k5,k6,k7,u0,u1,u2,u3,u4,u5,u6,u7,w1,w2,w3,w4,w5,w6,w7]⟩
end
end Go.Proofs.YtjaafolhfihegaaGreatDoor
namespace Go.Proofs.YtjaafolhfihegaaGreatDoor
open Go.RowKit Go.Maps
open Go.World renaming cell?->azT,setCell->azU
open Nat renaming lt_of_lt_of_le->azS,le_trans->azV
open Option.some renaming inj->azR,injEq->azW
variable{st vis:List Nat}{B g gv i mb:Nat}{S:Nat->Prop}{n:Nd}{T:TypeId}{sv:Value}{b c w' w1 w2 w3:World}
def opsN(n:Nd):List Int:=if n.kind=0 then[]else if n.kind=5 then[n.a]else[n.a,n.b]
def ops2(n:Nd):Int×Int:=if n.kind=0 then(0,0)else if n.kind=5 then(n.a,0)else(n.a,n.b)
theorem zA{w:World}:Calls Tryz.prog 135 #[kK n] w (fun e w'=>e=.returned (.tuple #[.agg #[.int .i64 (ops2 n).1,.int .i64 (ops2 n).2],.int .i64 ((opsN n).length:Nat)])/\Below w.heap.size w w'):=by
 obtain⟨kind,val,na,nb⟩:=n;unfold kK;obtain⟨w2,hw2,hb2,hs2,b1,b2⟩:=pro2 w (.cells #[.int .i64 kind,.float .f64 val,.int .i64 na,.int .i64 nb] 149) (.cells #[.int .i64 0,.int .i64 0] 77);obtain⟨c0,c1,c2,c3⟩:=aL b1;obtain⟨d0,d1,d2,d3⟩:=aD b2;have HB:=hdd hb2;have S:=fun u v=>hdd (set2 b2 u v);clear hb2 b1 b2 hs2;by_cases h0:kind=0
 . subst h0
   simp only[ops2,opsN,if_true,List.length_nil];go_enter Tryz.func135,Tryz.ntmps135
   go_wp2;obtain⟨x0,x1,-,-⟩:=aD (S (.int .i64 0) (.int .i64 0)).out;refine bodyPost_ret (v:=.tuple #[.agg #[_,_],_]) (by simp[results,Tryz.results135,go_sem,x0,x1];first|exact⟨⟨rfl,rfl⟩,rfl⟩|rfl) rfl ?_;exact⟨rfl,(HB.out.setCell (by simp) _).setCell (by simp) _⟩
 . by_cases h5:kind=5
   . subst h5
     have e1:ops2 ⟨5,val,na,nb⟩=(na,0):=by simp[ops2]
     have e2:(opsN ⟨5,val,na,nb⟩).length=1:=by simp[opsN]
     rw[e1,e2];clear e1 e2 h0;go_enter Tryz.func135,Tryz.ntmps135
     go_wp2;obtain⟨x0,x1,-,-⟩:=aD (S (.int .i64 na) (.int .i64 0)).out;refine bodyPost_ret (v:=.tuple #[.agg #[_,_],_]) (by simp[results,Tryz.results135,go_sem,x0,x1];first|exact⟨⟨rfl,rfl⟩,rfl⟩|rfl) rfl ?_;exact⟨rfl,(HB.out.setCell (by simp) _).setCell (by simp) _⟩
   . have e1:ops2 ⟨kind,val,na,nb⟩=(na,nb):=by simp[ops2,h0,h5]
     have e2:(opsN ⟨kind,val,na,nb⟩).length=2:=by simp[opsN,h0,h5]
     rw[e1,e2];have t0:(kind==0)=false:=beq_eq_false_iff_ne.2 h0;have t5:(kind==5)=false:=beq_eq_false_iff_ne.2 h5;clear e1 e2 h0 h5;go_enter Tryz.func135,Tryz.ntmps135
     go_wp2;obtain⟨x0,x1,-,-⟩:=aD (S (.int .i64 na) (.int .i64 nb)).out;refine bodyPost_ret (v:=.tuple #[.agg #[_,_],_]) (by simp[results,Tryz.results135,go_sem,x0,x1];first|exact⟨⟨rfl,rfl⟩,rfl⟩|rfl) rfl ?_;exact⟨rfl,(HB.out.setCell (by simp) _).setCell (by simp) _⟩
theorem cO:Tryz.prog.underlying 195=some (.map 3 3):=by kernel_rfl
theorem aaL:Tryz.prog.underlying 3=some (.int .i64):=by kernel_rfl
theorem nE:Tryz.prog.underlying 70=some (.slice 3):=by kernel_rfl
theorem aR:Keyed Tryz.prog 3:=int_keyed aaL
theorem wG:(Tryz.prog.info? 3).map (fun i=>(i.zero,i.size,i.bytes))=some (some (.int .i64 0),1,8):=by kernel_rfl
theorem fE(w:World):(zeroValue 3).run Tryz.prog w=.ok (.int .i64 0) w:=by kernel_rfl
theorem kM{i:Int}(h:-9223372036854775808<=i/\i<9223372036854775808):keyOf Tryz.prog 3 (.int .i64 i)=some (.int .i64 i):=keyOf_int_mk aaL (by
 have e1:IntKind.i64.min=-9223372036854775808:=rfl;have e2:IntKind.i64.max=9223372036854775807:=rfl;simp[Lit.wf,e1,e2];omega)
def bQ(l:List Nat):List Value:=l.map fun(x:Nat)=>Value.int .i64 (x:Int)
def VS(w:World)(gv gs mb:Nat)(sv:Value)(vis st:List Nat):Prop:=
 ∃m,w.heap[gv]? =some (.cells #[.map (some mb)] 195 (0,0))/\w.heap[gs]? =some (.cells #[sv] 70 (0,0))/\MapP Tryz.prog 3 w mb m/\
  (∀i:Nat,m (.int .i64 (i:Int))=if i∈vis then some (.int .i64 1)else none)/\w.ownsRow 0 3 1 sv st.length (bQ st)/\gv≠gs/\mb≠gs/\mb≠gv/\sv.ownBlock≠some gs/\sv.ownBlock≠some gv/\sv.ownBlock≠some mb
structure Fr(S:Nat->Prop)(w w':World):Prop where
 os:w'.os=w.os
 tape:w'.tape=w.tape
 output:w'.output=w.output
 size:w.heap.size<=w'.heap.size
 block:∀b,b<w.heap.size->¬S b->w'.heap[b]? =w.heap[b]?
theorem Fr.of_below {w:World}(h:Below w.heap.size w w'):Fr S w w':=⟨h.os,h.tape,h.output,h.size,fun b hb _=>h.block b hb⟩
theorem Fr.trans {a:World}(h:Fr S a b)(k:Fr S b c):Fr S a c:=
 ⟨k.os.trans h.os,k.tape.trans h.tape,k.output.trans h.output,azV h.size k.size,fun i hi hs=>(k.block i (azS hi h.size) hs).trans (h.block i hi hs)⟩
theorem Fr.of_grown {a:World}{row:Option Nat}(h:a.grownBy b row)(hs:∀i,row=some i->S i):Fr S a b:=
 ⟨h.os,h.tape,h.output,h.size,fun i hi h'=>h.block i hi (fun e=>h' (hs i e.symm))⟩
theorem Fr.setCell {a:World}(h:Fr S a b)(hg:S g)(u:Value):Fr S a (b.setCell ⟨g,i,none⟩ u):=
 ⟨h.os,h.tape,h.output,by simpa[azU]using h.size,fun k hk hs=>by
   rw[Below.heap_setCell _ _ _ _ (fun e=>hs (by simp at e;rw[e];exact hg))];exact h.block k hk hs⟩
theorem Fr.below {a:World}(h:Fr S a b)(hB:B<=a.heap.size)(hS:∀i,S i->B<=i):Below B a b:=
 ⟨h.os,h.tape,h.output,h.size,fun i hi=>h.block i (azS hi hB) (fun hs=>by have:=hS i hs;omega)⟩
def VB(gs mb:Nat)(sv:Value)(b:Nat):Prop:=b=gs\/b=mb\/sv.ownBlock=some b
def oK(w:World)(gv gs mb:Nat)(sv:Value)(vis st:List Nat)(i:Nat)(e:Ending)(w':World):Prop:=
 e=.returned (.tuple #[])/\Fr (VB gs mb sv) w w'/\∃sv',(sv'.ownBlock=sv.ownBlock\/∃b,sv'.ownBlock=some b/\w.heap.size<=b)/\
  (if i∈vis then VS w' gv gs mb sv' vis st else VS w' gv gs mb sv' (i::vis) (st++[i]))
theorem qQ(sv:Value):sv.ownBlock=none\/sv.ownBlock≠none:=by
 cases sv.ownBlock
 . exact Or.inl rfl
 . exact Or.inr (by simp)
theorem gH{w:World}{u:Value}(h:w.heap[g]? =some (.cells #[u] T (0,0))):∀j x,[u][j]? =some x->w.cell? ((⟨g,0,none⟩:Addr).add j)=some x:=by
 intro j x hx
 cases j with
 |zero=>simp at hx;subst hx;simp[azT,Addr.add,h]
 |succ j=>simp at hx
theorem afF{n:Nat}(h:n<=1000000):n+1<=maxLen:=by unfold maxLen;omega
theorem zB{n:Nat}(h:n<=1000000):(n+1)*8<=140737488355328:=by omega
theorem aeA{gs:Nat}(h:w1.heap[gs]? =some (.cells #[sv] T (0,0)))(hb:Below w1.heap.size w1 w2)(hg:w2.grownBy w3 sv.ownBlock)(hn:sv.ownBlock≠some gs):w3.cell? ⟨gs,0,none⟩=some sv/\w3.frozen? ⟨gs,0,none⟩=false:=by
 have h2:=hbl h hb;have h3:=(hg.block gs (aG h2) (fun e=>hn e.symm)).trans h2;exact⟨by simp[azT,h3],by simp[World.frozen?,h3]⟩
theorem ag7{w:World}{gs cap:Nat}{m m':Value->Option Value}(hV:VS w gv gs mb sv vis st)(hnv:¬i∈vis)(hM:MapP Tryz.prog 3 w mb m)(h4:∀j:Nat,m (.int .i64 (j:Int))=if j∈vis then some (.int .i64 1)else none)
 (h6:gv≠gs) (h7:mb≠gs) (h8:mb≠gv) (h9:sv.ownBlock≠some gs) (h10:sv.ownBlock≠some gv) (h11:sv.ownBlock≠some mb)
 (hu:Upd m (.int .i64 (i:Int)) (some (.int .i64 1)) m') (hM1:MapP Tryz.prog 3 w1 mb m') (hgr:w.grownBy w1 (some mb)) (hsz:w1.heap.size=w.heap.size) (hb2:Below w1.heap.size w1 w2)
 (hO:w3.ownsRow 0 3 1 (.slice (some ⟨g,0,none⟩) (st.length+1) cap) (st.length+1) (bQ st++[.int .i64 (i:Int)])) (hg3:w2.grownBy w3 sv.ownBlock) (hat:sv.ownBlock=some g\/g=w2.heap.size):
 oK w gv gs mb sv vis st i (.returned (.tuple #[])) (w3.setCell ⟨gs,0,none⟩ (.slice (some ⟨g,0,none⟩) (st.length+1) cap)):=by
 obtain⟨m0,q1,q2,-⟩:=hV;have hs2:=hb2.size;have lgv:=aG q1;have lgs:=aG q2;have lmb:=hM.lt;have hg_gs:g≠gs:=fun e=>hat.elim (fun h=>h9 (by rw[<-e];exact h)) (fun h=>by omega);have hg_gv:g≠gv:=fun e=>hat.elim (fun h=>h10 (by rw[<-e];exact h)) (fun h=>by omega);have hg_mb:g≠mb:=fun e=>hat.elim (fun h=>h11 (by rw[<-e];exact h)) (fun h=>by omega);have far:∀b,b<w.heap.size->b≠mb->sv.ownBlock≠some b->w3.heap[b]? =w.heap[b]? :=fun b hb h1 h2=>
  (hg3.block b (by omega) (fun e=>h2 e.symm)).trans ((hb2.block b (by omega)).trans (hgr.block b hb (fun e=>h1 (azR e))))
 have e1:=(far gv lgv (fun e=>h8 e.symm) h10).trans q1;have e2:=(far gs lgs (fun e=>h7 e.symm) h9).trans q2;have eM:w3.heap[mb]? =w1.heap[mb]? :=(hg3.block mb (by omega) (fun e=>h11 e.symm)).trans (hb2.block mb (by omega));refine⟨rfl,?_,.slice (some ⟨g,0,none⟩) (st.length+1) cap,?_,?_⟩
 . refine Fr.setCell ?_ (Or.inl rfl) _
   refine(Fr.of_grown hgr (fun b e=>Or.inr (Or.inl (azR e).symm))).trans ((Fr.of_below hb2).trans (Fr.of_grown hg3 (fun b e=>Or.inr (Or.inr e))))
 . rcases hat with h|h
   . exact Or.inl (by rw[h];rfl)
   . exact Or.inr ⟨g,rfl,by omega⟩
 . rw[if_neg hnv]
   refine⟨m',?_,?_,?_,?_,?_,h6,h7,h8,?_,?_,?_⟩
   . rw[Below.heap_setCell _ _ _ _ (by simpa using h6)];exact e1
   . have hg':gs<w3.heap.size:=aG e2
     have h':w3.heap[gs]=.cells #[sv] 70 (0,0):=(Array.getElem?_eq_some_iff.1 e2).2;simp[azU,hg',Array.getElem_modify,h']
   . exact hM1.keep ((by rw[Below.heap_setCell _ _ _ _ (by simpa using h7)];exact eM))
   . intro j
     by_cases hj:j=i
     . subst hj;rw[hu.1];simp
     . rw[hu.2 _ (fun e=>hj (by injection e with _ e;omega)),h4 j]
       by_cases hjv:j∈vis
       . rw[if_pos hjv,if_pos (List.mem_cons_of_mem _ hjv)]
       . rw[if_neg hjv,if_neg (fun h=>(List.mem_cons.1 h).elim hj hjv)]
   . have hk:=hO.kept (grownBy_set (World.grownBy.refl w3 (some gs)) (i:=0) (.slice (some ⟨g,0,none⟩) (st.length+1) cap)) (Or.inr (fun e=>hg_gs (azR e)))
     simpa[bQ]using hk
   . exact fun e=>hg_gs (azR e)
   . exact fun e=>hg_gv (azR e)
   . exact fun e=>hg_mb (azR e)
theorem zC{w:World}{gs:Nat}(h:VS w gv gs mb sv vis st)(hi:i<=1000000)(hst:st.length<=1000000):
 Calls Tryz.prog 134 #[.int .i64 i,.pointer (some ⟨gv,0,none⟩),.pointer (some ⟨gs,0,none⟩)] w (oK w gv gs mb sv vis st i):=by
 obtain⟨m,h1,h2,h3,h4,h5,h6,h7,h8,h9,h10,h11⟩:=id h;have HV:=hdd h;have H3:=hdd h3;have H5:=hdd h5;have c1:w.cell? ⟨gv,0,none⟩=some (.map (some mb)):=by simp[azT,h1]
 have c2:w.cell? ⟨gs,0,none⟩=some sv:=by simp[azT,h2]
 have hkey:keyOf Tryz.prog 3 (.int .i64 (i:Int))=some (.int .i64 (i:Int)):=kM (by omega);have h4i:=h4 i;have HST:=hdd hst;have H4:=hdd h4;have HVI:=hdd hi;by_cases hv:i∈vis
 . rw[if_pos hv]at h4i
   have HP:Hid (oK w gv gs mb sv vis st i (.returned (.tuple #[])) w):=hdd ⟨rfl,Fr.of_below (Below.refl _ _),sv,Or.inl rfl,by rw[if_pos hv];exact HV.out⟩;clear h h1 h2 h3 h4 h5 h6 h7 h8 h9 h10 h11 hv hi hst;go_enter Tryz.func134,Tryz.ntmps134
   have hv2:(m (.int .i64 (i:Int))).getD (.int .i64 0)=.int .i64 1:=by rw[h4i];rfl
   go_wp2_with (first
    |(at_lookup
      refine bI _ rfl _ _ _ rfl _ _ aR cO (fE _) mb m rfl H3.out (.int .i64 (i:Int)) _ rfl hkey (.int .i64 1) hv2 ?_))
   go_end0
   exact HP.out
 . rw[if_neg hv]at h4i
   have HNV:=hdd hv;obtain⟨i0,hi0,hz0,hz1,hz2⟩:=info_parts wG;have hv2:(m (.int .i64 (i:Int))).getD (.int .i64 0)=.int .i64 0:=by rw[h4i];rfl
   obtain⟨m',hu⟩:=lH m (.int .i64 (i:Int)) (some (.int .i64 1));have HC:∀w1,w.grownBy w1 (some mb)->w1.heap[gv]? =some (.cells #[.map (some mb)] 195 (0,0))/\w1.heap[gs]? =some (.cells #[sv] 70 (0,0))/\w1.cell? ⟨gv,0,none⟩=some (.map (some mb))/\w1.cell? ⟨gs,0,none⟩=some sv:=by
    intro w1 hg;have e1:=(hg.block gv (aG h1) (fun e=>h8 (azR e).symm)).trans h1;have e2:=(hg.block gs (aG h2) (fun e=>h7 (azR e).symm)).trans h2;exact⟨e1,e2,by simp[azT,e1],by simp[azT,e2]⟩
   have HCC:=hdd HC;have H6:=hdd h6;have H7:=hdd h7;have H8:=hdd h8;have H9:=hdd h9;have HU:=hdd hu;have HKEY:=hdd hkey;have HV2:=hdd hv2;have H10:=hdd h10;have H11:=hdd h11;clear h h4i h10 h11 hst h4 hi h5 h3 HC h1 h2 h6 h7 h8 h9 hu hkey hv2 hv;go_enter Tryz.func134,Tryz.ntmps134
   go_wp2_with (first
    |(at_lookup
      refine bI _ rfl _ _ _ rfl _ _ aR cO (fE _) mb m rfl H3.out (.int .i64 (i:Int)) _ rfl HKEY.out (.int .i64 0) HV2.out ?_)
    |(at_mapUpdate
      refine eG _ rfl _ _ _ _ rfl _ _ aR cO mb m m' rfl H3.out (.int .i64 (i:Int)) (.int .i64 1) _ rfl rfl HKEY.out HU.out ?_;intro w1 HM1 hgr hsz;obtain⟨g1,g2,d1,d2⟩:=HCC.out w1 hgr;have HG1:=hdd g1;have HG2:=hdd g2;have HGR:=hdd hgr;have HSZ:=hdd hsz;have HO1:=hdd (H5.out.kept hgr (Or.inr H11.out));obtain⟨w2,hw2,hb2,hs2,q2⟩:=pro1 w1 (.cells #[.int .i64 (i:Int)] 3);have HB2:=hdd hb2;have HS2:=hdd hs2;have HQ2:=hdd q2;have d1:=cbl d1 hb2;have d2:=cbl d2 hb2;clear g1 g2 hgr hsz hb2 hs2 q2)
    |(at_builtin
      go_loud (
      refine wpList_append_lies _ rfl _ _ 70 rfl 0 3 i0 (.int .i64 0) 1 8 nE hi0 hz0 hz1 hz2 rfl (by decide) sv st.length (bQ st) rfl (HO1.out.kept (aX HB2.out) (qQ sv)) ⟨w1.heap.size,0,none⟩ 1 1 [.int .i64 (i:Int)] rfl rfl (gH HQ2.out) (by simp[Value.oneCell']) (by decide) (afF HST.out) (zB HST.out) (Nat.zero_le _) w2.heap.size rfl ?_;intro g cap w3 hown3 hgrow3 hat hlt;obtain⟨x2,f2⟩:=aeA HG2.out HB2.out hgrow3 H9.out;have HO3:=hdd hown3;have HG3:=hdd hgrow3;have HAT:=hdd hat;clear hown3 hgrow3 hat hlt)))
   go_end0
   exact ag7 HV.out HNV.out H3.out H4.out H6.out H7.out H8.out H9.out H10.out H11.out HU.out HM1.out HGR.out HSZ.out HB2.out HO3.out HG3.out HAT.out
def DagB(w:World)(g b:Nat):Prop:=b=g\/∃v mb T,w.heap[g]? =some (.cells #[v,.map (some mb)] T (0,0))/\(v.ownBlock=some b\/mb=b)
def DS(g:Nat)(w w':World):Prop:=Fr (DagB w g) w w'/\∀b,b<w.heap.size->¬DagB w g b->¬DagB w' g b
theorem DS.refl (g:Nat)(w:World):DS g w w:=⟨Fr.of_below (Below.refl _ _),fun _ _ h=>h⟩
theorem DS.size {w:World}(h:DS g w w'):w.heap.size<=w'.heap.size:=h.1.size
theorem DS.trans {a:World}(h:DS g a b)(k:DS g b c):DS g a c:=
 ⟨⟨k.1.os.trans h.1.os,k.1.tape.trans h.1.tape,k.1.output.trans h.1.output,azV h.1.size k.1.size,fun i hi hn=>(k.1.block i (azS hi h.1.size) (h.2 i hi hn)).trans (h.1.block i hi hn)⟩,
   fun i hi hn=>k.2 i (azS hi h.1.size) (h.2 i hi hn)⟩
theorem DagB.congr {b:Nat}{w:World}(e:w'.heap[g]? =w.heap[g]?):DagB w' g b↔DagB w g b:=by unfold DagB;rw[e]
theorem DS.of_below {w:World}(hg:g<w.heap.size)(h:Below w.heap.size w w'):DS g w w':=
 ⟨Fr.of_below h,fun b _ hn hd=>hn ((DagB.congr (h.block g hg)).1 hd)⟩
theorem DS.heap {b:Nat}{w:World}(h:DS g w w')(hb:b<w.heap.size)(hn:¬DagB w g b):w'.heap[b]? =w.heap[b]? :=h.1.block b hb hn
theorem DS.cell {w:World}{a:Addr}{v:Value}(h:DS g w w')(hc:w.cell? a=some v)(hn:¬DagB w g a.block):w'.cell? a=some v:=
 (World.cell?_of_block (h.1.block a.block (World.block_lt_of_cell? w a hc) hn)).trans hc
theorem DagP.dagB {w:World}{b:Nat}{ns:List Nd}(h:DagP w g ns)(hb:DagB w g b):b<w.heap.size:=by
 obtain⟨v,mb,m,h1,h2,h3,-⟩:=h;rcases hb with rfl|⟨v',mb',T,e,hb⟩
 . exact aG h1
 . rw[h1]at e
   simp only[azW,Obj.cells.injEq,Array.mk.injEq,List.cons.injEq,Value.map.injEq,and_true]at e;obtain⟨⟨rfl,rfl⟩,-⟩:=e;rcases hb with hb|rfl
   . exact kL h2 b hb
   . exact h3.lt
def afG(B g:Nat)(w:World):Prop:=∀b,DagB w g b->B<=b
theorem DS.hi {w:World}(h:DS g w w')(hB:B<=w.heap.size)(hh:afG B g w):afG B g w':=fun b hb=>by
 rcases Nat.lt_or_ge b B with hlt|hge
 . exact absurd hb (h.2 b (by omega) (fun hd=>by have:=hh b hd;omega))
 . exact hge
theorem DS.below {w:World}(h:DS g w w')(hB:B<=w.heap.size)(hh:afG B g w):Below B w w':=
 h.1.below hB hh
section
variable{P:Program}(w:World){ops:Array Oper}{o:Oper}{a:Act}{K:Act->World->Prop}{Q:Exit->Act->World->Prop}{E:Prop}
theorem ajX(hg:o.guard=none)(mo x v:Operand)(t:TypeId)(hop:o.op=Op.mapUpdate t mo x v)
 (k e:TypeId) (K':Keyed P k) (ht:P.underlying t=some (.map k e)) (b:Nat) (m m':Value->Option Value)
 (hm:a.eval mo=.map (some b)) (hown:MapP P k w b m) (key val:Value) (kl:Lit) (hx:a.eval x=key) (hv:a.eval v=val) (hkey:keyOf P k key=some kl) (hu:Upd m key (some val) m')
 (hK:∀w',Hid (MapP P k w' b m')->w.grownBy w' (some b)->w'.heap.size=w.heap.size->K (a.put o.dst undef) w'):if Region.wanted o (yielded ops a.tmps)=true then Oper.wp P o a w K Q else E:=by
 have hw:Region.wanted o (yielded ops a.tmps)=true:=by simp[Region.wanted,hg]
 rw[if_pos hw];obtain⟨w',hrun,r1,r2,r3⟩:=hown.store K' ht hkey hu;unfold Oper.wp;simp[execOp,hop,hm,hx,hv,hrun,Result.andThen];exact hK w' (hdd r1) r2 r3
end
theorem aaM:laidOutB Tryz.prog=true:=by kernel_rfl
theorem amW:(211:TypeId)<Tryz.prog.types.size:=of_decide_eq_true (by kernel_rfl)
theorem ajY:(match Tryz.prog.underlying 211 with|some (.array _ _)|some (.struct _)=>true|_=>false)=true:=by kernel_rfl
theorem rX:Keyed Tryz.prog 211:=Keyed.of_law (deep_law_laid aaM (m:=3) (by omega) amW (by kernel_rfl) ajY)
theorem uO:Tryz.prog.underlying 96=some (.map 211 3):=by kernel_rfl
theorem zD:Tryz.prog.underlying 43=some (.slice 149):=by kernel_rfl
theorem zF:(Tryz.prog.info? 149).map (fun i=>(i.zero,i.size,i.bytes))=some (some (.agg #[.int .i64 0,.float .f64 0,.int .i64 0,.int .i64 0]),4,32):=by kernel_rfl
theorem ab2:Tryz.prog.keyType 211=true:=by kernel_rfl
theorem zG:Tryz.prog.cellsOf 211=4:=by kernel_rfl
theorem ag8:Tryz.prog.cellsOf 3=1:=by kernel_rfl
theorem ag9:Tryz.prog.cellsOf 140=1:=by kernel_rfl
theorem amX:Tryz.prog.underlying 140=some (.int .u64):=by kernel_rfl
theorem aeB:∃d,Tryz.prog.types.size=d+2:=⟨Tryz.prog.types.size-2,by
 have h:decide (2<=Tryz.prog.types.size)=true:=by kernel_rfl
 have:=of_decide_eq_true h;omega⟩
def Sm64(i:Int):Prop:=-9223372036854775808<=i/\i<9223372036854775808
theorem wf_i64{i:Int}(h:Sm64 i):(Lit.int .i64 i).wf=true:=by
 have e1:IntKind.i64.min=-9223372036854775808:=rfl;have e2:IntKind.i64.max=9223372036854775807:=rfl;unfold Sm64 at h;simp[Lit.wf,e1,e2];omega
theorem wf_u64{n:Nat}(h:n<18446744073709551616):(Lit.int .u64 (n:Int)).wf=true:=by
 have e1:IntKind.u64.min=0:=rfl;have e2:IntKind.u64.max=18446744073709551615:=rfl;simp[Lit.wf,e1,e2];omega
theorem ajZ(hk:Sm64 n.kind)(ha:Sm64 n.a)(hb:Sm64 n.b)(hv:n.val<18446744073709551616):∃kl,keyOf Tryz.prog 211 (keyV n)=some kl:=by
 obtain⟨d,hd⟩:=aeB;have hu:=Tryz.underlying211;have hf:(keyV n).formed Tryz.prog 211=true:=by simp[Value.formed,hu,zG,keyV]
 have hl:∃ls,Tryz.prog.keyLits (Tryz.prog.types.size+1) 211 (keyV n).cells.toList=some ls:=by
  rw[hd];exact⟨_,by simp[Program.keyLits,hu,keyV,Value.cells,zG,ag8,ag9,aaL,amX,wf_i64 hk,wf_i64 ha,wf_i64 hb,wf_u64 hv];rfl⟩
 obtain⟨ls,hl⟩:=hl;exact⟨.string (keyBytes ls),by rw[keyOf,hu];simp only[ab2,hf,hl,Bool.and_self,if_true,Option.map_some]⟩
theorem aj0{n':Nd}(h:keyV n=keyV n'):n=n':=by
 obtain⟨k,v,a,b⟩:=n;obtain⟨k',v',a',b'⟩:=n';simp only[keyV,Value.agg.injEq,Array.mk.injEq,List.cons.injEq,Value.int.injEq,true_and,and_true]at h;obtain⟨rfl,rfl,rfl,hv⟩:=h;have:v=v':=by omega
 rw[this]
end Go.Proofs.YtjaafolhfihegaaGreatDoor
