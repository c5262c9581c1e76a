/- A part of the proof: contracts of functions and plain laws (CkA, CkB, LiA, QlL, MtA, SymD, FnC, SymE). -/
import Derived.Test.YtjaafolhfihegaaGreatDoorK33
set_option linter.unusedVariables false
set_option linter.unusedSimpArgs false
set_option maxHeartbeats 25600000
set_option maxRecDepth 100000
namespace Go.Proofs.YtjaafolhfihegaaGreatDoor
open Go.RowKit Go.Maps Go.Stop Go.Extern
variable{a b c:Nat}{w:World}
abbrev curV(k:Int)(a b c:Nat):Value:=.agg #[.int .i64 k,.float .f64 a,.float .f64 b,.float .f64 c]
abbrev curO(k:Int)(a b c:Nat):Obj:=.cells #[.int .i64 k,.float .f64 a,.float .f64 b,.float .f64 c] 29
abbrev FlOk(b:Nat):Prop:=b<18446744073709551616/\fin b
theorem ahW:0<=sr b↔0<=fv b:=by
 unfold fv;rw[<-mW,dQ]
theorem aa2(ha:FlOk a)(hb:FlOk b)(hc:FlOk c)(h0:0<=fv c):Calls Tryz.prog 90 #[curV 2 a b c] w (RetV w .nilIface):=by
 obtain⟨w1,hw1,hb1,hs1,b1⟩:=pro1 w (curO 2 a b c);obtain⟨c0,c1,c2,c3⟩:=aO b1;have HB:=hdd hb1;have FA:Hid (∀w',Calls Tryz.prog 60 #[.float .f64 a] w' (RetB w' true)):=hdd fun w'=>by have:=eX (w:=w') ha.1;rwa[decide_eq_true ha.2]at this
 have FB:Hid (∀w',Calls Tryz.prog 60 #[.float .f64 b] w' (RetB w' true)):=hdd fun w'=>by have:=eX (w:=w') hb.1;rwa[decide_eq_true hb.2]at this
 have FC:Hid (∀w',Calls Tryz.prog 60 #[.float .f64 c] w' (RetB w' true)):=hdd fun w'=>by have:=eX (w:=w') hc.1;rwa[decide_eq_true hc.2]at this
 have hg:=ajD (b:=c) hc.2.num num0;rw[sr0,decide_eq_true (ahW.2 h0)]at hg;clear ha hb hc h0 hb1 hs1 b1;go_enter Tryz.func90,Tryz.ntmps90
 go_wp2_with fail
 refine(FA.out _).mono ?_;rintro e w2⟨rfl,hw⟩;obtain rfl:=hw;go_wp2_with fail
 refine(FB.out _).mono ?_;rintro e w2⟨rfl,hw⟩;obtain rfl:=hw;go_wp2_with fail
 refine(FC.out _).mono ?_;rintro e w2⟨rfl,hw⟩;obtain rfl:=hw;go_wp2;go_ret;exact⟨rfl,HB.out⟩
theorem sG{r:Bool}(h:(FloatKind.f64.format.order a b==some Ordering.eq)=r):(FloatKind.f64.format.order a b != some Ordering.eq)= !r:=by
 show(!(FloatKind.f64.format.order a b==some Ordering.eq))= !r;rw[h]
theorem aa3:sr b=0↔fv b=0:=by
 have h1:=mW (a:=sr b) (b:=0);have h2:=mW (a:=0) (b:=sr b);rw[dQ]at h1 h2;unfold fv;omega
def nI(a b c:Nat):Prop:=FlOk a/\FlOk b/\FlOk c/\(fv a≠0\/fv b≠0)
theorem x8(ha:a<18446744073709551616):Calls Tryz.prog 60 #[.float .f64 a] w (RetB w (decide (fin a))):=eX ha
theorem anJ(h:nI a b c):Calls Tryz.prog 21 #[curV 1 a b c] w (RetV w .nilIface):=by
 obtain⟨ha,hb,hc,h0⟩:=h;obtain⟨w1,hw1,hb1,hs1,b1⟩:=pro1 w (curO 1 a b c);obtain⟨c0,c1,c2,c3⟩:=aO b1;have HB:=hdd hb1;have FA:Hid (∀w',Calls Tryz.prog 60 #[.float .f64 a] w' (RetB w' true)):=hdd fun w'=>by have:=x8 (w:=w') ha.1;rwa[decide_eq_true ha.2]at this
 have FB:Hid (∀w',Calls Tryz.prog 60 #[.float .f64 b] w' (RetB w' true)):=hdd fun w'=>by have:=x8 (w:=w') hb.1;rwa[decide_eq_true hb.2]at this
 have FC:Hid (∀w',Calls Tryz.prog 60 #[.float .f64 c] w' (RetB w' true)):=hdd fun w'=>by have:=x8 (w:=w') hc.1;rwa[decide_eq_true hc.2]at this
 have ea:=lW (b:=a) ha.2.num num0;have eb:=lW (b:=b) hb.2.num num0;rw[sr0]at ea eb;by_cases hz:fv a=0
 . have hz2:¬sr b=0:=fun e=>h0.elim (fun k=>k hz) (fun k=>k (aa3.1 e))
   rw[decide_eq_true (aa3.2 hz)]at ea;rw[decide_eq_false hz2]at eb;replace ea:=sG ea;replace eb:=sG eb;rw[Bool.not_true]at ea;rw[Bool.not_false]at eb;clear ha hb hc h0 hb1 hs1 b1 hz hz2;go_enter Tryz.func21,Tryz.ntmps21
   go_wp2_with fail
   refine(FA.out _).mono ?_;rintro e w2⟨rfl,hw⟩;obtain rfl:=hw;go_wp2_with fail
   refine(FB.out _).mono ?_;rintro e w2⟨rfl,hw⟩;obtain rfl:=hw;go_wp2_with fail
   refine(FC.out _).mono ?_;rintro e w2⟨rfl,hw⟩;obtain rfl:=hw;go_wp2;go_ret;exact⟨rfl,HB.out⟩
 . rw[decide_eq_false (fun e=>hz (aa3.1 e))]at ea
   replace ea:=sG ea;rw[Bool.not_false]at ea;clear ha hb hc h0 hb1 hs1 b1 hz eb;go_enter Tryz.func21,Tryz.ntmps21
   go_wp2_with fail
   refine(FA.out _).mono ?_;rintro e w2⟨rfl,hw⟩;obtain rfl:=hw;go_wp2_with fail
   refine(FB.out _).mono ?_;rintro e w2⟨rfl,hw⟩;obtain rfl:=hw;go_wp2_with fail
   refine(FC.out _).mono ?_;rintro e w2⟨rfl,hw⟩;obtain rfl:=hw;go_wp2;go_ret;exact⟨rfl,HB.out⟩
end Go.Proofs.YtjaafolhfihegaaGreatDoor
namespace Go.Proofs.YtjaafolhfihegaaGreatDoor
open Go.RowKit Go.Maps
end Go.Proofs.YtjaafolhfihegaaGreatDoor
namespace Go.Proofs.YtjaafolhfihegaaGreatDoor
open Go.RowKit Go.Maps
open Re (rat ofI ofN)
def Iw(b:Nat)(T:Int):Prop:=FlOk b/\fv b=T*(U74:Int)
end Go.Proofs.YtjaafolhfihegaaGreatDoor
namespace Go.Proofs.YtjaafolhfihegaaGreatDoor
open Go.RowKit Go.Maps Go.Stop Go.Extern
variable{a b c:Nat}{w:World}
theorem alE(ha:num a):Calls Tryz.prog 126 #[.float .f64 a] w (RetB w false):=by
 have e:=lW ha ha;rw[decide_eq_true rfl]at e;replace e:=sG e;rw[Bool.not_true]at e;clear ha;go_enter Tryz.func126,Tryz.ntmps126
 go_wp2;go_ret;exact⟨rfl,rfl⟩
theorem aa4(ha:num a)(hb:num b){c d:Bool}{q:Int}(h1:decide (sr a<sr b)=c)(h2:decide (sr b<sr a)=d)(hq:(if c then-1 else if d then 1 else 0:Int)=q):Calls Tryz.prog 108 #[.float .f64 a,.float .f64 b] w (RetV w (.int .i64 q)):=by
 have NA:Hid (∀w',Calls Tryz.prog 126 #[.float .f64 a] w' (RetB w' false)):=hdd fun _=>alE ha;have NB:Hid (∀w',Calls Tryz.prog 126 #[.float .f64 b] w' (RetB w' false)):=hdd fun _=>alE hb;have e1:=aaA ha hb;have e2:=sS ha hb;rw[h1]at e1;rw[h2]at e2;clear ha hb h1 h2
 cases c<;>cases d<;>(
  simp only[Bool.false_eq_true,if_true,if_false]at hq;subst hq;go_enter Tryz.func108,Tryz.ntmps108
  go_wp2_with fail
  refine(NA.out _).mono ?_;rintro e w2⟨rfl,hw⟩;obtain rfl:=hw;go_wp2_with fail
  refine(NB.out _).mono ?_;rintro e w2⟨rfl,hw⟩;obtain rfl:=hw;go_wp2;go_ret;exact⟨rfl,Below.refl _ _⟩)
theorem tT:sr a<sr b↔fv a<fv b:=by unfold fv;rw[qI]
theorem afR(ha:FlOk a)(hb:FlOk b)(h:fv b<fv a):Calls Tryz.prog 108 #[.float .f64 a,.float .f64 b] w (RetV w (.int .i64 1)):=
 aa4 ha.2.num hb.2.num (decide_eq_false (by rw[tT];omega)) (decide_eq_true (tT.2 h)) rfl
theorem anK(ha:FlOk a)(hb:FlOk b)(h:fv a<fv b):Calls Tryz.prog 108 #[.float .f64 a,.float .f64 b] w (RetV w (.int .i64 (-1))):=
 aa4 (d:=false) ha.2.num hb.2.num (decide_eq_true (tT.2 h)) (decide_eq_false (by rw[tT];omega)) rfl
theorem afS(ha:FlOk a)(hb:FlOk b)(h:fv a=fv b):Calls Tryz.prog 108 #[.float .f64 a,.float .f64 b] w (RetV w (.int .i64 0)):=
 aa4 ha.2.num hb.2.num (decide_eq_false (by rw[tT];omega)) (decide_eq_false (by rw[tT];omega)) rfl
theorem ahX(h:nI a b c):Calls Tryz.prog 53 #[curV 1 a b c] w (RetV w .nilIface):=by
 obtain⟨w1,hw1,hb1,hs1,b1⟩:=pro1 w (curO 1 a b c);obtain⟨c0,c1,c2,c3⟩:=aO b1;have HB:=hdd hb1;have HL:=hdd (anJ (w:=w1) h);clear h hb1 hs1 b1;go_enter Tryz.func53,Tryz.ntmps53
 go_wp2_with fail
 refine HL.out.mono ?_;rintro e w2⟨rfl,hb⟩;have HB2:=hdd (HB.out.trans (hb.mono HB.out.size));clear hb;go_wp2;go_ret;exact⟨rfl,HB2.out⟩
def dI(a b c:Nat):Prop:=FlOk a/\FlOk b/\FlOk c/\0<=fv c
theorem tX(h:dI a b c):Calls Tryz.prog 53 #[curV 2 a b c] w (RetV w .nilIface):=by
 obtain⟨w1,hw1,hb1,hs1,b1⟩:=pro1 w (curO 2 a b c);obtain⟨c0,c1,c2,c3⟩:=aO b1;have HB:=hdd hb1;have HL:=hdd (aa2 (w:=w1) h.1 h.2.1 h.2.2.1 h.2.2.2);clear h hb1 hs1 b1;go_enter Tryz.func53,Tryz.ntmps53
 go_wp2_with fail
 refine HL.out.mono ?_;rintro e w2⟨rfl,hb⟩;have HB2:=hdd (HB.out.trans (hb.mono HB.out.size));clear hb;go_wp2;go_ret;exact⟨rfl,HB2.out⟩
theorem ac7{k a b c k' a' b' c':_}(h1:∀w,Calls Tryz.prog 53 #[curV k a b c] w (RetV w .nilIface))(h2:∀w,Calls Tryz.prog 53 #[curV k' a' b' c'] w (RetV w .nilIface)):Calls Tryz.prog 80 #[curV k a b c,curV k' a' b' c'] w (RetV w .nilIface):=by
 obtain⟨w2,hw2,hb2,hs2,b1,b2⟩:=pro2 w (curO k a b c) (curO k' a' b' c');obtain⟨c0,c1,c2,c3⟩:=aO b1;obtain⟨d0,d1,d2,d3⟩:=aO b2;have HB:=hdd hb2;have H1:=hdd h1;have H2:=hdd h2;clear hb2 hs2 b1 b2 h1 h2;go_enter Tryz.func80,Tryz.ntmps80
 go_wp2_with fail
 refine(H1.out _).mono ?_;rintro e w3⟨rfl,hb⟩;have HB3:=hdd (HB.out.trans (hb.mono HB.out.size));replace d0:=cbl d0 hb;replace d1:=cbl d1 hb;replace d2:=cbl d2 hb;replace d3:=cbl d3 hb;clear hb c0 c1 c2 c3 hw2;go_wp2_with fail
 refine(H2.out _).mono ?_;rintro e w4⟨rfl,hb⟩;have HB4:=hdd (HB3.out.trans (hb.mono HB3.out.size));clear hb;go_wp2;go_ret;exact⟨rfl,HB4.out⟩
end Go.Proofs.YtjaafolhfihegaaGreatDoor
namespace Go.Proofs.YtjaafolhfihegaaGreatDoor
open Go.RowKit Go.Maps
open Bool renaming and_eq_true->bg1
open List renaming mem_map->bgW,all_eq_true->bgX,mem_cons->bgY,mem_append->bgZ,map_cons->bg0,nodup_cons->bg2,range->bg3
section
variable{E:Type}{S:Spec E}{W:Wk E}{P:Program}{Q:Exit->Act->World->Prop}{c0:Nat}{a0:Act}{ν0:Nat->Nat}{i:Nat}{o:Oper}
theorem Spec.ok_callB (b:S.Base a0 ν0)(hop:S.ops[i]? =some o)(hg:o.guard=none)(hdep:o.op.operands.all (S.dep i)=true)(hns:∀cs c,o.op≠.select cs c){B:Blk}(hB:B∈S.blocks)(hcr:S.cr B.b=some i)(hBst:B.st=none)
 (hfree:S.blocks.all (fun C=>(S.cr C.b != some i||C.b==B.b)&&match C.st with
   |some (s,_)=>s != i
   |none=>true)=true) {f:FuncId} {args:(Nat->Nat)->Array Value}
 (hrun:∀ν w,(execOp (fun x=>(S.opv x).den ν) o).run P w=.ok (.enter f (args ν)) w)
 (hc:∀(lst:Nat->Bool) (ν:Nat->Nat) (c:Nat) (w:World),(∀d∈S.D i,lst d=true)->c+S.cost i<=c0+S.total->W.G c (S.K lst ν) (S.L lst ν) w->
   Calls P f (args ν) w (fun e w'=>∃ν',(∀n,S.cr n≠some i->ν' n=ν n)/\e=.returned ((S.val i).den ν')/\(∀p∈S.L lst ν,p.1≠ν' B.b)/\W.G (c+S.cost i) (S.newK i ν'++S.K lst ν) ((ν' B.b,.cells (B.init.map (SC.den ν')).toArray B.T)::S.L lst ν) w')):S.Ok W P Q c0 a0 ν0 i:=by
 simp only[bgX,bg1,bne_iff_ne,ne_eq,Bool.or_eq_true,beq_iff_eq]at hfree;have hst:∀C∈S.blocks,∀s c,C.st=some (s,c)->s≠i:=fun C hC s c hs=>by
  have:=(hfree C hC).2;rw[hs]at this;simpa using this
 have huniq:∀C∈S.blocks,S.cr C.b=some i->C.b=B.b:=fun C hC hc=>(hfree C hC).1.resolve_left fun h=>h hc;have hblk:∀C∈S.blocks,C.b=B.b->C=B:=fun C hC e=>by
  have:=b.wf.bnd;revert hC hB this;generalize S.blocks=l
  induction l with
  |nil=>intro h;cases h
  |cons D l ih=>
   intro h1 h2 hn;rw[bg0,bg2]at hn;rcases bgY.1 h1 with q1|q1<;>rcases bgY.1 h2 with q2|q2
   . rw[q1,q2]
   . subst q1;exact absurd (bgW.2 ⟨C,q2,e⟩) hn.1
   . subst q2;exact absurd (bgW.2 ⟨B,q1,e.symm⟩) hn.1
   . exact ih q1 q2 hn.2
 refine Spec.ok_of b hop hg hdep hns fun listed a w ν hJ hr hf hD h0 hG hV hI=> ?_;obtain⟨r1,r2,-⟩:=kN hJ.lsz hr;have hne:=xX hJ.lsz r1;have hlt:∀j,lof listed j=true->j<S.ops.size:=fun j hj=>hJ.lt hj;have hcs:=Spec.costs_set (S:=S) r1 hne r2 (tQ hJ.lsz r1);have hle:=Spec.costs_le (S:=S) (lst:=lof (listed.setIfInBounds i true));rw[hrun];show Calls P f (args ν) w _;refine(hc (lof listed) ν _ w hD (by omega) hG).mono ?_;rintro e w'⟨ν',hag,rfl,hnew,hG'⟩;have hk:=Spec.keep_of hf hag;have hoff:∀C∈S.blocks,S.cr C.b≠some i->S.on (lof (listed.setIfInBounds i true)) C.b=S.on (lof listed) C.b:=fun C hC h=>kY hne h;have hold:∀C∈S.blocks,S.on (lof listed) C.b=true->ν C.b≠ν' B.b:=fun C hC ho=>hnew _ (r9 (ν:=ν) hC ho);have hInj:S.Inj (lof (listed.setIfInBounds i true)) ν':=by
  intro C hC D hD' h1 h2 e;by_cases c1:S.cr C.b=some i<;>by_cases c2:S.cr D.b=some i
  . rw[huniq C hC c1,huniq D hD' c2]
  . rw[hoff D hD' c2]at h2
    rw[huniq C hC c1,hag _ c2]at e;exact absurd e.symm (hold D hD' h2)
  . rw[hoff C hC c1]at h1
    rw[huniq D hD' c2,hag _ c1]at e;exact absurd e (hold C hC h1)
  . rw[hoff C hC c1]at h1;rw[hoff D hD' c2]at h2
    rw[hag _ c1,hag _ c2]at e;exact hI C hC D hD' h1 h2 e
 show S.J W c0 a0 ν0 _ (a.put o.dst _) w';rw[<-Spec.dst_eq hop];refine hJ.next b.wf b.hin hr h0 hV hag ?_ hInj (fun _=>rfl);refine W.weak hG' (by omega) (fun p hp=> ?_) (fun p hp=> ?_) (b.wf.nodup_L hInj)
 . obtain⟨q,hq,ho,rfl⟩:=of_K hp
   by_cases hcr:S.cr q.1=some i
   . exact List.mem_append_left _ (List.mem_filterMap.2 ⟨q,hq,by rw[if_pos hcr]⟩)
   . rw[kY hne hcr]at ho
     refine List.mem_append_right _ ?_;rw[hk _ ho];exact gT (S:=S) (n:=q.1) (x:=q.2) hq ho
 . obtain⟨C,hC,ho,rfl⟩:=of_L hp
   by_cases c1:S.cr C.b=some i
   . have:=hblk C hC (huniq C hC c1)
     subst this;refine bgY.2 (Or.inl ?_);unfold Blk.obj Blk.cont;rw[hBst]
   . rw[hoff C hC c1]at ho
     refine bgY.2 (Or.inr ?_);have:(ν' C.b,C.obj (lof (listed.setIfInBounds i true)) ν')=(ν C.b,C.obj (lof listed) ν):=by
      rw[hag _ c1,<-b.wf.obj_keep hlt hJ.closed hk hC ho];unfold Blk.obj;rw[oG hne (hst C hC)]
     rw[this];exact r9 hC ho
theorem iY(b:S.Base a0 ν0){B:Blk}(hB:B∈S.blocks){f:FuncId}{args:(Nat->Nat)->Array Value}(hc:∀(lst:Nat->Bool) (ν:Nat->Nat) (c:Nat) (w:World),(∀d∈S.D i,lst d=true)->c+S.cost i<=c0+S.total->W.G c (S.K lst ν) (S.L lst ν) w->
 Calls P f (args ν) w (fun e w'=>∃ν',(∀n,S.cr n≠some i->ν' n=ν n)/\e=.returned ((S.val i).den ν')/\(∀p∈S.L lst ν,p.1≠ν' B.b)/\W.G (c+S.cost i) (S.newK i ν'++S.K lst ν) ((ν' B.b,.cells (B.init.map (SC.den ν')).toArray B.T)::S.L lst ν) w'))
 (hop:S.ops[i]? =some o:=by rfl) (hcr:S.cr B.b=some i:=by rfl) (hBst:B.st=none:=by rfl) (hb:(S.chk i&&S.blocks.all (fun C=>(S.cr C.b != some i||C.b==B.b)&&match C.st with
   |some (s,_)=>s != i
   |none=>true))=true:=by kernel_rfl)
 (hrun:∀ν w,(execOp (fun x=>(S.opv x).den ν) o).run P w=.ok (.enter f (args ν)) w:=by intro ν w;kernel_rfl):S.Ok W P Q c0 a0 ν0 i:=by
 rw[bg1]at hb;obtain⟨h1,h2,h3⟩:=jX hop hb.1;exact Spec.ok_callB b hop h1 h2 h3 hB hcr hBst hb.2 hrun hc
end
def RtB(s:Bs)(g N:Nat)(K:List (Ex×Nat))(l:List (Nat×Obj))(V:List Nat->Nat->Value)(es:List Ex)(O:List Nat->Obj)(e:Ending)(W':World):Prop:=
 ∃(ks:List Nat) (b:Nat),ks.length=es.length/\e=.returned (V ks b)/\Run s g N (es.zip ks++K) ((b,O ks)::l) W'
def FnBk(f:FuncId)(g d:Nat)(av:Array Value)(K0:List (Ex×Nat))(V:List Nat->Nat->Value)(es:List Ex)(O:List Nat->Obj):Prop:=
 ∀(s:Bs) (N:Nat) (K:List (Ex×Nat)) (l:List (Nat×Obj)) (W:World),Run s g N K l W->N+d<=20000->(∀p∈K0,p∈K)->Calls Tryz.prog f av W (RtB s g (N+d) K l V es O)
def x9(w:World)(B:Nat)(ns:List Nd)(g N:Nat)(V:List Nat->Nat->Value)(es:List Ex)(O:List Nat->Obj)(e:Ending)(W':World):Prop:=
 ∃(ks:List Nat) (b:Nat),ks.length=es.length/\e=.returned (V ks b)/\∃l',Run ⟨w,B,ns⟩ g N (es.zip ks) ((b,O ks)::l') W'
section
variable{f:FuncId}{g d:Nat}{av:Array Value}{K0:List (Ex×Nat)}{V:List Nat->Nat->Value}{es:List Ex}{O:List Nat->Obj}
theorem FnBk.of (h:∀w B ns N,Run ⟨w,B,ns⟩ g N K0 [] w->N+d<=20000->Calls Tryz.prog f av w (x9 w B ns g (N+d) V es O)):FnBk f g d av K0 V es O:=by
 intro s N K l W hR hN hK;obtain⟨ns',hs,hI⟩:=hR;refine(h W s.B ns' N (Run.enter hs.st (fun p hp=>hI p (hK p hp))) hN).mono ?_;rintro e W'⟨ks,b,h1,rfl,l',ns'',hs2,hI2⟩;have hst:=hs.step hs2.st hs2.pre hs2.grew.2.2;obtain⟨k1,k2,k3⟩:=hs2.kept _ (List.mem_cons_self ..);refine⟨ks,b,h1,rfl,ns'',⟨hst.grew,fun p hp=> ?_,hst.hw,?_⟩,fun p hp=> ?_⟩
 . rcases bgY.1 hp with rfl|hp
   . exact⟨k1,k2,Nat.le_trans hs.grew.2.2.size k3⟩
   . exact hst.kept p hp
 . rw[bg0,bg2]
   refine⟨fun hm=> ?_,hst.nodup⟩;obtain⟨p,hp,e⟩:=bgW.1 hm;have:=hs.lt hp;have k3:W.heap.size<=b:=k3;have e:p.1=b:=e;omega
 . rcases bgZ.1 hp with hp|hp
   . exact hI2 p hp
   . exact(hI p hp).mono hs2.pre
end
section
variable{S:Spec Ex}{w0:Bs}{g c0 i d:Nat}{f:FuncId}{args:(Nat->Nat)->Array Value}{ix ts:List Nat}{V:List Nat->Nat->Value}{es:List Ex}{O:List Nat->Obj}{B:Blk}
abbrev anL(S:Spec Ex)(w0:Bs)(g c0 i:Nat)(B:Blk)(f:FuncId)(args:(Nat->Nat)->Array Value):Prop:=
 ∀(lst:Nat->Bool) (ν:Nat->Nat) (c:Nat) (w:World),(∀d∈S.D i,lst d=true)->c+S.cost i<=c0+S.total->(runW w0 g).G c (S.K lst ν) (S.L lst ν) w->
    Calls Tryz.prog f (args ν) w (fun e w'=>∃ν',(∀n,S.cr n≠some i->ν' n=ν n)/\e=.returned ((S.val i).den ν')/\(∀p∈S.L lst ν,p.1≠ν' B.b)/\(runW w0 g).G (c+S.cost i) (S.newK i ν'++S.K lst ν) ((ν' B.b,.cells (B.init.map (SC.den ν')).toArray B.T)::S.L lst ν) w')
theorem c_fb(hM:c0+S.total<=20000)(F:∀ν,FnBk f g d (args ν) ((ix.map fun j=>S.know.getD j (0,.leaf 0)).map fun q=>(q.2,ν q.1)) V es O)
 (hix:(ix.all fun j=>decide (j<S.know.length)&&S.pre i (S.know.getD j (0,.leaf 0)).1)=true:=by kernel_rfl) (hc:S.cost i=d:=by rfl) (hv:∀ν,(S.val i).den ν=V (ts.map ν) (ν B.b):=by intro _;rfl) (hO:∀ν,(.cells (B.init.map (SC.den ν)).toArray B.T:Obj)=O (ts.map ν):=by intro _;rfl)
 (ht:((B.b::ts).all fun t=>S.cr t==some i)=true:=by kernel_rfl) (hk:S.made i=ts.zip es:=by rfl) (hn:decide (B.b::ts).Nodup=true:=by kernel_rfl) (hl:ts.length=es.length:=by rfl):anL S w0 g c0 i B f args:=by
 intro lst ν c w hD hcl hG;rw[hc]at hcl;refine(F ν w0 c _ _ w hG (by omega) fun p hp=> ?_).mono ?_
 . obtain⟨q,h1,rfl⟩:=bgW.1 hp
   obtain⟨j,h2,rfl⟩:=bgW.1 h1;have h3:=bgX.1 hix j h2;rw[bg1,decide_eq_true_eq]at h3;refine gT ?_ (pre_on h3.2 hD);rw[List.getD_eq_getElem?_getD,List.getElem?_eq_getElem h3.1];exact List.getElem_mem h3.1
 . rintro e w'⟨ks,b,k1,rfl,hR⟩
   have hm:=oM (B.b::ts) (b::ks) ν (of_decide_eq_true hn) (by simp;omega);generalize hμ:letters (B.b::ts) (b::ks) ν=μ at hm;rw[bg0,List.cons.injEq]at hm;obtain⟨m1,m2⟩:=hm;refine⟨μ,fun n h=> ?_,by rw[hv,m1,m2],fun p hp=> ?_,?_⟩
   . rw[<-hμ]
     exact oL _ _ ν n fun hin=>h (by have:=bgX.1 ht n hin;simpa using this)
   . rw[m1]
     have hnd:(((b,O ks)::S.L lst ν).map (·.1)).Nodup:=Run.nodup hR;rw[bg0,bg2]at hnd;exact fun e=>hnd.1 (bgW.2 ⟨p,hp,e⟩)
   . have hb:((μ B.b,.cells (B.init.map (SC.den μ)).toArray B.T):Nat×Obj)=(b,O ks):=by rw[hO,m1,m2]
     rw[hb,hc];refine Run.few hR fun p hp=> ?_;rcases bgZ.1 hp with h|h
     . obtain⟨q,h2,rfl⟩:=oJ h
       rw[hk]at h2;have:=oO (h:=μ) h2;rw[m2]at this;exact bgZ.2 (Or.inl this)
     . exact bgZ.2 (Or.inr h)
end
def AllN:Nat->(List Nat->Prop)->Prop
 |0,P=>P []
 |m+1,P=>∀a:Nat,AllN m fun l=>P (a::l)
theorem AllN.at:∀{m:Nat} {P:List Nat->Prop},AllN m P->∀l:List Nat,l.length=m->P l
 |0,_,h,[],_=>h
 |_+1,_,h,a::l,e=>(h a).at l (Nat.succ.inj e)
def nuU:List Nat->(Nat->Nat)->Nat->Nat
 |[],ν,n=>ν n
 |a::_,_,0=>a
 |_::l,ν,n+1=>nuU l ν n
def nuT:List Nat->List Nat->(Nat->Nat)->Nat->Nat
 |[],t,ν,n=>nuU t ν n
 |a::_,_,_,0=>a
 |_::l,t,ν,n+1=>nuT l t ν n
section
variable{a n:Nat}{l t:List Nat}{ν:Nat->Nat}
theorem nuU0:nuU (a::t) ν 0=a:=rfl
theorem nuU1:nuU (a::t) ν (n+1)=nuU t ν n:=rfl
theorem nuTn:nuT [] t ν n=nuU t ν n:=rfl
theorem nuT0:nuT (a::l) t ν 0=a:=rfl
theorem nuT1:nuT (a::l) t ν (n+1)=nuT l t ν n:=rfl
end
def zM:Nat->(Nat->Nat)->List Nat
 |0,_=>[]
 |m+1,ν=>ν 0::zM m fun n=>ν (n+1)
theorem afT:∀(m:Nat) (ν:Nat->Nat),(zM m ν).length=m
 |0,_=>rfl
 |m+1,ν=>congrArg (· +1) (afT m fun n=>ν (n+1))
theorem alF:∀(m:Nat) (ν:Nat->Nat) (n:Nat),nuU (zM m ν) (fun k=>ν (k+m)) n=ν n
 |0,_,_=>rfl
 |_+1,_,0=>rfl
 |m+1,ν,n+1=>alF m (fun k=>ν (k+1)) n
theorem alG{m:Nat}:∀(l:List Nat) (ν:Nat->Nat),(∀n,n<l.length->ν n=l.getD n 0)->∀n,nuT l (zM m fun k=>ν (k+l.length)) (fun k=>ν (k+m+l.length)) n=ν n
 |[],ν,_,n=>alF m ν n
 |a::l,ν,h,0=>(h 0 (Nat.succ_pos _)).symm
 |a::l,ν,h,n+1=>alG (m:=m) l (fun k=>ν (k+1)) (fun k hk=>h (k+1) (Nat.succ_lt_succ hk)) n
abbrev mkS(ops:Array Oper)(k:Nat)(vals:List SV)(cr:List Nat)(know:List (Nat×Ex))(blocks:List Blk)(cost:List Nat)(D:List (List Nat))(outs:List (Nat×SV)):Spec Ex:=
 ⟨ops,fun i=>vals.getD i noS,fun n=>(List.replicate k none++cr.map some).getD n none,know,blocks,fun i=>cost.getD i 0,fun i=>D.getD i [],outs⟩
abbrev rgn(n:Nat):List Nat:=bg3 n
abbrev curC(k:Int)(a b c:Nat):List SC:=[.v (.int .i64 k),.v (.float .f64 a),.v (.float .f64 b),.v (.float .f64 c)]
def fsOf:List Nat->List SV->(Nat->Nat)->List (Nat×Value)
 |0::ds,_::vs,ν=>fsOf ds vs ν
 |(d+1)::ds,v::vs,ν=>(d,v.den ν)::fsOf ds vs ν
 |_,_,_=>[]
section
variable{d:Nat}{ds:List Nat}{v:SV}{vs:List SV}{ν:Nat->Nat}{a:Act}{x:Value}{l:List (Nat×Value)}{b:SW}{lw:List SW}{c:SC}{lc:List SC}{n o:Nat}
theorem fs0:fsOf (0::ds) (v::vs) ν=fsOf ds vs ν:=rfl
theorem fs1:fsOf ((d+1)::ds) (v::vs) ν=(d,v.den ν)::fsOf ds vs ν:=rfl
theorem fsn:fsOf [] [] ν=[]:=rfl
theorem dSw:(SV.w b).den ν=b.den ν:=rfl
theorem dSt:(SV.tup lw).den ν=.tuple (lw.map (SW.den ν)).toArray:=rfl
theorem dWc:(SW.c c).den ν=c.den ν:=rfl
theorem dWa:(SW.agg lc).den ν=.agg (lc.map (SC.den ν)).toArray:=rfl
theorem dv:(SC.v x).den ν=x:=rfl
theorem di:(SC.id n).den ν=.int .i64 ((ν n:Nat):Int):=rfl
theorem dp:(SC.ptr n o).den ν=.pointer (some ⟨ν n,o,none⟩):=rfl
theorem ds':(SC.sl n o).den ν=.slice (some ⟨ν n,0,none⟩) o o:=rfl
end
theorem Spec.go {ops:Array Oper}{w0:Bs}{g c0:Nat}{a0:Act}{Q:Exit->Act->World->Prop}{id:Nat}{draw:Bool}{w:World}{K:List (Ex×Nat)}{l:List (Nat×Obj)}(vals:List SV)(cr:List Nat)(know:List (Nat×Ex))(blocks:List Blk)(cost:List Nat)(D:List (List Nat))(outs:List (Nat×SV))(ds old:List Nat)(n c1:Nat)(mK ml:List Bool)(hG:Run w0 g c0 K l w)
 (hok:(mkS ops old.length vals cr know blocks cost D outs).Base a0 (fun n=>old.getD n 0)->c0+(mkS ops old.length vals cr know blocks cost D outs).total<=20000->∀i,i<n->(mkS ops old.length vals cr know blocks cost D outs).Ok (runW w0 g) Tryz.prog Q c0 a0 (fun n=>old.getD n 0) i)
 (hfin:AllN cr.length fun t=>∀(ν:Nat->Nat) (w:World),Run w0 g c1 ((mkS ops old.length vals cr know blocks cost D outs).K (mkS ops old.length vals cr know blocks cost D outs).full (nuT old t ν)) ((mkS ops old.length vals cr know blocks cost D outs).L (mkS ops old.length vals cr know blocks cost D outs).full (nuT old t ν)) w->Q .normal (putL a0 (fsOf ds vals (nuT old t ν))) w)
 (hb:(mkS ops old.length vals cr know blocks cost D outs).Base a0 (fun n=>old.getD n 0):=by exact⟨Spec.wf_of (by kernel_rfl),aeG (by kernel_rfl),vR (by repeat (first|exact trivial|refine And.intro rfl ?_))⟩) (hM:c1<=20000:=by omega) (ho:((bg3 old.length).all fun n=>(mkS ops old.length vals cr know blocks cost D outs).cr n==none)=true:=by kernel_rfl)
 (hK:(mkS ops old.length vals cr know blocks cost D outs).K (fun _=>false) (fun n=>old.getD n 0)=selB K mK:=by kernel_rfl) (hL:(mkS ops old.length vals cr know blocks cost D outs).L (fun _=>false) (fun n=>old.getD n 0)=selB l ml:=by kernel_rfl) (hz:ops.size=n:=by rfl) (hc1:c0+(mkS ops old.length vals cr know blocks cost D outs).total=c1:=by kernel_rfl) (hf:∀ν,(mkS ops old.length vals cr know blocks cost D outs).fins ν=fsOf ds vals ν:=by intro ν;kernel_rfl)
 (hm:Tryz.prog.follows .mixedOrders=true:=by rfl):(Code.region id ops draw).wp Tryz.prog Q a0 w:=
 Spec.run (S:=mkS ops old.length vals cr know blocks cost D outs) (W:=runW w0 g) n c1 mK ml hb hG (Run.nodup hG) hM hok (fun ν w hν hw=>by
  have e:nuT old (zM cr.length fun k=>ν (k+old.length)) (fun k=>ν (k+cr.length+old.length))=ν:=funext fun n=>alG old ν (fun k hk=>hν k (by
   have:=bgX.1 ho k (List.mem_range.2 hk);simpa using this)) n
  have h:=hfin.at (zM cr.length fun k=>ν (k+old.length)) (afT _ _) (fun k=>ν (k+cr.length+old.length)) w;rw[e]at h;exact h hw) hK hL hz hc1 hf hm
end Go.Proofs.YtjaafolhfihegaaGreatDoor
