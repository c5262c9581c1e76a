/- The law holds: the Go function answers true for every input that its row speaks of, and leaves its arguments as they were. -/
import Derived.Test.YtkadpnljocflaaaGreatDoorK31
set_option linter.unusedVariables false
set_option linter.unusedSimpArgs false
set_option linter.unnecessarySimpa false
set_option maxHeartbeats 25600000
set_option maxRecDepth 100000
namespace Go.Proofs.YtkadpnljocflaaaGreatDoor
open Go.RowKit Go.Maps Go.Stop Go.Extern
theorem IntP.keepB {p:Nat->Prop}{W:World}{V:Value}{z:Int}(h:IntP p W V z)(h0:z≠0):∃b o,p b/\W.heap[b]? =some o/\∀W':World,W'.heap[b]? =some o->IntP AnyB W' V z:=by
 obtain⟨vm,xs,rfl,⟨A,c,rfl,h2,h3,h4,h5⟩,ht,hv⟩:=h;have hpos:0<xs.length:=by
  cases xs with
  |nil=>simp[val]at hv;omega
  |cons a t=>simp
 obtain⟨b,off,rfl,hp,hlt,hc⟩:=h5 hpos;refine⟨b,_,hp,Array.getElem?_eq_getElem hlt,fun W' hW=>⟨_,xs,rfl,⟨_,c,rfl,h2,h3,h4,fun _=>⟨b,off,rfl,trivial,aC hW,fun k hk=> ?_⟩⟩,ht,hv⟩⟩;have:=hc k hk;unfold World.cell? at this|-;rw[Array.getElem?_eq_getElem hlt]at this;rw[hW];exact this
section
variable{s:Bs}{g N i j:Nat}{K:List (Ex×Nat)}{l:List (Nat×Obj)}{W:World}{x:Ex}{q z:Int}
theorem Run.boxA (hR:Run s g N K l W)(o1:Obj):∃w1,W.alloc o1=w1/\w1.heap[W.heap.size]? =some o1/\Run s g N K ((W.heap.size,o1)::l) w1:=⟨_,rfl,heap_alloc_new W o1,hR.alloc o1⟩
theorem Run.floor (h:Run s g N K l W)(hx:(x,i)∈K)(hS:lK PT x q)(hc:CloE x 1 j)(hf:∀k b,k<=j->dB x (pw k)=some b->fK b.lo b.hi 1=true->b.hi.exp<0/\flrD b.hi=z/\cmpD (mkDy z 0) b.lo<0)(hz:bits z.natAbs<=1000)(h0:z≠0):
 Calls Tryz.prog 30 #[numV g i] W (fun e W'=>∃u A n c b o,e=.returned (.tuple #[.agg #[.bool u,.slice A n c],.nilIface])/\Run s g N K ((b,o)::l) W'/\∀W'':World,W''.heap[b]? =some o->IntP AnyB W'' (.agg #[.bool u,.slice A n c]) z):=by
 obtain⟨ns,hs,hK⟩:=id h;refine(adY hs.st (hK _ hx) hS hc hf hz).mono ?_;rintro e W'⟨hb,V,rfl,hI⟩;obtain⟨b,o,hp,ho,hk⟩:=hI.keepB h0;obtain⟨u,A,n,c,rfl⟩:=hI.shape;exact⟨u,A,n,c,b,o,rfl,h.keep hb ho hp,hk⟩
theorem Run.valid (h:Run s g N K l W)(hx:(x,i)∈K):Calls Tryz.prog 33 #[numV g i] W (RtA s g N K l (.bool true)):=by
 obtain⟨ns,hs,hK⟩:=id h;exact(jZ hs.st.dag (hK _ hx).lt).mono fun _ _ hr=>⟨hr.1,h.step hr.2⟩
end
theorem alive15{w:World}(hT:Tab w)(htb:0<w.heap.size):
 Calls Tryz.prog 11 #[] w (RetV w (.bool true)):=by
 obtain⟨⟨q1,S1⟩,⟨q2,S2⟩,S3,C1,C2⟩:=akP;have HS:=hdd (And.intro S1 (And.intro S2 (And.intro S3 (And.intro C1 C2))));have HF:=hdd akQ;have HN:=hdd (aiM (l:=[]) (Below.refl w.heap.size w) (fun p hp=>by cases hp) (by simp) hT htb);clear hT htb S1 S2 S3 C1 C2;go_enter Tryz.func11,Tryz.ntmps11
 go_wp2_with fail
 refine HN.out.mono ?_;rintro e W1⟨g,rfl,hR⟩;dsimp only;have HC:=hdd (hR.of (v:=4625478292286210048) (by omega) (by decide) (by decide));clear hR HN;go_wp2_with fail
 refine HC.out.mono ?_;rintro e W2⟨i,rfl,hR⟩;have HC:=hdd (hR.sqrt (by omega) m0);clear hR;go_wp2_with fail
 refine HC.out.mono ?_;rintro e W3⟨j,rfl,hR⟩;obtain⟨w4,hw4,b4,hR⟩:=hR.boxA (numO g j);obtain⟨x0,x1,-,-⟩:=aB b4;have HC:=hdd (hR.floor m0 HS.out.1 HS.out.2.2.2.1 HF.out.1 (by decide) (by decide));clear hR b4;go_wp2_with fail
 refine HC.out.mono ?_;rintro e w5⟨u,A,n,c,bn,on,rfl,hR,hI1⟩;obtain⟨w6,hw6,-,hR⟩:=hR.boxA (.cells #[.bool u,.slice A n c] 75);obtain⟨x0,x1,-,-⟩:=aB (hR.at m2);have HI1:=hdd hI1;have HC:=hdd (hR.neg (by omega) m0);clear hR hI1;go_wp2_with fail
 refine HC.out.mono ?_;rintro e w7⟨k,rfl,hR⟩;have HC:=hdd (hR.floor m0 HS.out.2.1 HS.out.2.2.2.2 HF.out.2 (by decide) (by decide));clear hR;go_wp2_with fail
 refine HC.out.mono ?_;rintro e w8⟨u',A',n',c',bm,om,rfl,hR,hI2⟩;obtain⟨w9,hw9,-,hR⟩:=hR.boxA (.cells #[.bool u',.slice A' n' c'] 75);have HI2:=hdd hI2;have RD:=hdd hR;clear hR hI2
 go_upto_region 7 with fail
 generalize W3.heap.size=p at*;have HC:=hdd (RD.out.drew.of (v:=4616189618054758400) (by omega) (by decide) (by decide));obtain⟨x0,x1,-,-⟩:=aB (RD.out.drew.at m4)
 go_region_held3 (fun w'=>w'.cell? ⟨p,0,none⟩=some (.pointer (some ⟨g,0,none⟩))/\w'.cell? ⟨p,1,none⟩=some (.int .i64 (j:Int))) (go_keep)
  (first
  |(go_at_call 12
    with_reducible refine HC.out.mono ?_
    rintro e wA⟨m,rfl,hRm⟩;have RA:=hdd hRm;have HCM:=hdd (RA.out.cmp (by omega) m2 m0 HS.out.2.2.1);obtain⟨x0,x1,-,-⟩:=aB (RA.out.at m4);clear hRm)
  |(go_at_call 15
    with_reducible refine HCM.out.mono ?_
    rintro e wB⟨rfl,hRm⟩;have RB:=hdd hRm;obtain⟨x0,x1,-,-⟩:=aB (RB.out.at m4);clear hRm))
 have HT1:Hid (Calls Tryz.prog 32 #[.agg #[.bool u,.slice A n c]] wB (fun e w'=>e=.returned (.string ⟨#[52]⟩)/\Below wB.heap.size wB w')):=hdd (by
  have:=vS (HI1.out wB (RB.out.at m3)) (by decide) (by decide);rwa[dg_4]at this)
 obtain⟨y0,y1,-,-⟩:=aB (RB.out.at m2);clear HC HS HF RD RA HCM;go_wp2_with fail
 refine HT1.out.mono ?_;rintro e wC⟨rfl,hbC⟩;have RC:=hdd (RB.out.step hbC);have HT2:Hid (Calls Tryz.prog 32 #[.agg #[.bool u',.slice A' n' c']] wC (fun e w'=>e=.returned (.string ⟨#[45,53]⟩)/\Below wC.heap.size wC w')):=hdd (by
  have:=vS (HI2.out wC (RC.out.at m1)) (by decide) (by decide);rwa[akR]at this)
 obtain⟨y0,y1,-,-⟩:=aB (RC.out.at m0);clear HT1 RB hbC;go_wp2_with fail
 refine HT2.out.mono ?_;rintro e wD⟨rfl,hbD⟩;have RD:=hdd (RC.out.step hbD);obtain⟨x0,x1,-,-⟩:=aB (RD.out.at m4);have HV:=hdd (RD.out.valid m2);clear HT2 RC hbD;go_wp2_with fail
 refine HV.out.mono ?_;rintro e wE⟨rfl,hR⟩;have HB:=hdd hR.below;clear hR;go_wp2;go_ret;exact⟨rfl,HB.out⟩
end Go.Proofs.YtkadpnljocflaaaGreatDoor
