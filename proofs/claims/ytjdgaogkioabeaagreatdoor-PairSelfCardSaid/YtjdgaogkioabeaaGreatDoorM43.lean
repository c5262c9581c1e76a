/- A part of the proof: contracts of functions and plain laws (ArHxClmV, PrSxClmV). -/
import Derived.Test.YtjdgaogkioabeaaGreatDoorM34
import Derived.Test.YtjdgaogkioabeaaGreatDoorM41
import Derived.Test.YtjdgaogkioabeaaGreatDoorM39
import Derived.Test.YtjdgaogkioabeaaGreatDoorM18
import Derived.Test.YtjdgaogkioabeaaGreatDoorM38
import Derived.Test.YtjdgaogkioabeaaGreatDoorM19
import Derived.Test.YtjdgaogkioabeaaGreatDoorM16
import Derived.Test.YtjdgaogkioabeaaGreatDoorM32
import Derived.Test.YtjdgaogkioabeaaGreatDoorM20
import Derived.Test.YtjdgaogkioabeaaGreatDoorM01
import Derived.Test.YtjdgaogkioabeaaGreatDoorM12
import Derived.Test.YtjdgaogkioabeaaGreatDoorM07
import Derived.Test.YtjdgaogkioabeaaGreatDoorM06
import Derived.Test.YtjdgaogkioabeaaGreatDoorM05
import Derived.Test.YtjdgaogkioabeaaGreatDoorM04
import Derived.Test.YtjdgaogkioabeaaGreatDoorM03
import Derived.Test.YtjdgaogkioabeaaGreatDoorM02
import Derived.Test.YtjdgaogkioabeaaGreatDoorM11
import Derived.Test.YtjdgaogkioabeaaGreatDoorM10
import Derived.Test.YtjdgaogkioabeaaGreatDoorM08
import Derived.Test.YtjdgaogkioabeaaGreatDoorM09
import Derived.Test.YtjdgaogkioabeaaGreatDoorM15
import Derived.Test.YtjdgaogkioabeaaGreatDoorM14
import Derived.Test.YtjdgaogkioabeaaGreatDoorM13
import Derived.Test.YtjdgaogkioabeaaGreatDoorM31
import Derived.Test.YtjdgaogkioabeaaGreatDoorM30
import Derived.Test.YtjdgaogkioabeaaGreatDoorM29
import Derived.Test.YtjdgaogkioabeaaGreatDoorM28
import Derived.Test.YtjdgaogkioabeaaGreatDoorM27
import Derived.Test.YtjdgaogkioabeaaGreatDoorM24
import Derived.Test.YtjdgaogkioabeaaGreatDoorM23
import Derived.Test.YtjdgaogkioabeaaGreatDoorM21
import Derived.Test.YtjdgaogkioabeaaGreatDoorM22
import Derived.Test.YtjdgaogkioabeaaGreatDoorM26
import Derived.Test.YtjdgaogkioabeaaGreatDoorM25
import Derived.Test.YtjdgaogkioabeaaGreatDoorM40
import Derived.Test.YtjdgaogkioabeaaGreatDoorM33
import Derived.Test.YtjdgaogkioabeaaGreatDoorM42
set_option linter.unusedVariables false
set_option linter.unusedSimpArgs false
set_option maxHeartbeats 25600000
set_option maxRecDepth 100000
namespace Go.Proofs.YtjdgaogkioabeaaGreatDoor
open Go.RowKit Go.Maps Go.Stop Go.Extern
theorem node_if{w:World}{i:Int}{t:TypeId}{x:Value}:Calls Tryz.prog 51 #[.int .i64 i,.iface t x] w (anC w):=by
 have HB:=hdd (Below.alloc (Below.refl w.heap.size w) nlr (.cells #[.int .i64 i,.iface t x] 128));go_enter Tryz.func51,Tryz.ntmps51
 go_wp2;go_ret;exact⟨_,_,rfl,HB.out⟩
def apZ(f:FuncId)(g d:Nat)(av:Array Value)(K0:List (Ex×Nat))(mk:Value->Value):Prop:=
 ∀(s:Bs) (N:Nat) (K:List (Ex×Nat)) (L:List (Nat×Obj)) (W:World),Run s g N K L W->N+d<=20000->(∀p∈K0,p∈K)->Calls Tryz.prog f av W (fun e W'=>∃t x,e=.returned (mk (.iface t x))/\Run s g (N+d) K L W')
section
variable{g i j k l ca cb cc i' j' k' l' ca' cb' cc':Nat}{kd kd':Int}{K0:List (Ex×Nat)}
theorem yO{b:Nat}(h1:pX g (aN g kd ca cb cc i j k l) K0 false){s:Bs}{N:Nat}{K:List (Ex×Nat)}{L:List (Nat×Obj)}{W:World}(hR:Run s g N K L W)(hm:(b,ad1 g kd ca cb cc i j k l kd' ca' cb' cc' i' j' k' l')∈L)(hN:N+20<=20000)(hK:∀p∈K0,p∈K):
 Calls Tryz.prog 32 #[.pointer (some ⟨g,0,none⟩),.slice (some ⟨b,0,none⟩) 2 2] W (fun e W'=>∃t x,e=.returned (.iface t x)/\Run s g (N+20) K L W'):=by
 have HM:=hdd hm;obtain⟨z0,z1,z2,z3,z4,z5,z6,z7,z8,z9,z10,z11,z12,z13,z14,z15,z16,z17,z18,z19,z20,z21,z22,z23⟩:=rG (hR.at hm);have HR:=hdd hR;have C1:=hdd h1;have HN:=hdd hN;have HK:=hdd hK;have hst:=aL;clear hR hm hN h1 hK;go_enter Tryz.func32,Tryz.ntmps32
 go_wp2_with fail
 refine wp_loop_rounds 3 ?_;have hR:=HR.out;clear HR;obtain⟨w1,hw1,b1,hR⟩:=hR.box1 (dD g kd ca cb cc i j k l);obtain⟨z0,z1,z2,z3,z4,z5,z6,z7,z8,z9,z10,z11,z12,z13,z14,z15,z16,z17,z18,z19,z20,z21,z22,z23⟩:=rG (hR.at (List.mem_cons_of_mem _ HM.out));obtain⟨x0,x1,x2,x3,x4,x5,x6,x7,x8,x9,x10,x11⟩:=aF b1;have HC:=hdd (C1.out _ _ _ _ _ hR HN.out HK.out);clear hR b1;rw[rounds_succ];go_wp2_with fail
 refine HC.out.mono ?_;rintro e w2⟨r,rfl,-,h2,hR⟩;obtain⟨t,x,rfl⟩:=h2 trivial;have HR:=hdd hR;clear hR h2;go_wp2_with fail
 refine node_if.mono ?_;rintro e w3⟨t',x',rfl,hb⟩;have HF:=hdd (Run.rest (L1:=[_]) (HR.out.step hb));clear HR hb;go_wp2;go_ret;exact⟨_,_,rfl,HF.out⟩
theorem abX(h1:pX g (aN g kd ca cb cc i j k l) K0 false):apZ 19 g 20 #[.pointer (some ⟨g,0,none⟩),aN g kd ca cb cc i j k l,aN g kd' ca' cb' cc' i' j' k' l'] K0 (fun v=>.tuple #[.bool false,v]):=fun s N K L W hR hN hK=>by
 obtain⟨w1,hw1,b1,b2,hR⟩:=hR.box2 (dD g kd ca cb cc i j k l) (dD g kd' ca' cb' cc' i' j' k' l');obtain⟨x0,x1,x2,x3,x4,x5,x6,x7,x8,x9,x10,x11⟩:=aF b1;obtain⟨z0,z1,z2,z3,z4,z5,z6,z7,z8,z9,z10,z11⟩:=aF b2;obtain⟨w2,hw2,-,hR⟩:=hR.box1 (ad1 g kd ca cb cc i j k l kd' ca' cb' cc' i' j' k' l');have HC:=hdd (yO h1 hR m0 hN hK);have hst:=aL;clear b1 b2 hR h1 hN hK;go_enter Tryz.func19,Tryz.ntmps19
 go_wp2_with fail
 refine HC.out.mono ?_;rintro e w3⟨t,x,rfl,hR⟩;have HF:=hdd (Run.rest (L1:=[_,_,_]) hR);clear hR;go_wp2
 go_ret2
 exact⟨_,_,rfl,HF.out⟩
theorem aeF(h1:pX g (aN g kd ca cb cc i j k l) K0 false):apZ 10 g 20 #[.pointer (some ⟨g,0,none⟩),aN g kd ca cb cc i j k l,aN g kd' ca' cb' cc' i' j' k' l'] K0 (fun v=>.tuple #[.slice none 0 0,.bool false,v]):=fun s N K L W hR hN hK=>by
 obtain⟨w1,hw1,b1,b2,hR⟩:=hR.box2 (dD g kd ca cb cc i j k l) (dD g kd' ca' cb' cc' i' j' k' l');obtain⟨x0,x1,x2,x3,x4,x5,x6,x7,x8,x9,x10,x11⟩:=aF b1;obtain⟨z0,z1,z2,z3,z4,z5,z6,z7,z8,z9,z10,z11⟩:=aF b2;have HC:=hdd (abX (i':=i') (j':=j') (k':=k') (l':=l') (ca':=ca') (cb':=cb') (cc':=cc') (kd':=kd') h1 _ _ _ _ _ hR hN hK);clear b1 b2 hR h1 hN hK;go_enter Tryz.func10,Tryz.ntmps10
 go_wp2_with fail
 refine HC.out.mono ?_;rintro e w3⟨t,x,rfl,hR⟩;have HF:=hdd (Run.rest (L1:=[_,_]) hR);clear hR;go_wp2;exact bodyPost_ret (v:=.tuple #[.slice none 0 0,.bool false,.iface t x]) (by simp[results,Tryz.results10,go_sem]) rfl ⟨_,_,rfl,HF.out⟩
theorem afV{Q:List (Ex×Nat)->List (Nat×Nat)->Prop}(h:rH 10 g 200 #[.pointer (some ⟨g,0,none⟩),aN g kd ca cb cc i j k l,aN g kd' ca' cb' cc' i' j' k' l'] K0 (mU g true Q)):FnOk 16 g 200 #[.pointer (some ⟨g,0,none⟩),aN g kd ca cb cc i j k l,aN g kd' ca' cb' cc' i' j' k' l'] K0 (fun _=>.tuple #[.bool true,.nilIface]) []:=fun s N K L W hR hN hK=>by
 obtain⟨w1,hw1,b1,b2,hR⟩:=hR.box2 (dD g kd ca cb cc i j k l) (dD g kd' ca' cb' cc' i' j' k' l');obtain⟨x0,x1,x2,x3,x4,x5,x6,x7,x8,x9,x10,x11⟩:=aF b1;obtain⟨z0,z1,z2,z3,z4,z5,z6,z7,z8,z9,z10,z11⟩:=aF b2;have HC:=hdd (h _ _ _ _ _ hR hN hK);clear b1 b2 hR h hN hK;go_enter Tryz.func16,Tryz.ntmps16
 go_wp2_with fail
 refine HC.out.mono ?_;rintro e w3⟨K1,l1,⟨v,ps,-,rfl,ho⟩,hR⟩;obtain⟨pp,cp,rfl⟩:=ho.slice;have HF:=hdd (RtN.fin (L1:=l1++[_,_]) (v:=.tuple #[.bool true,.nilIface]) ((hR.few (K':=K) fun p hp=>List.mem_append_right _ hp).perm (by rw[List.append_assoc];exact List.Perm.refl _)) (show _<=N+200 by omega));clear hR ho;go_wp2
 go_ret2
 exact HF.out
end
end Go.Proofs.YtjdgaogkioabeaaGreatDoor
namespace Go.Proofs.YtjdgaogkioabeaaGreatDoor
open Go.RowKit Go.Maps
open Re (rat ofI ofN)
variable{K0:List (Ex×Nat)}
section
variable{g i j k l wa wb wc p0 p1 q0 q1:Nat}{A B C a1 a2 b1 b2:Int}
theorem sW{a b:Nat}{A B:Int}(ha:Iw a A)(hb:Iw b B)(bA:A.natAbs<=36)(bB:B.natAbs<=36):fT PT (lL a b b a) 0/\fT PT (lL a b a b) 0:=by
 have f1:=ha.fit (L:=[]) 6 (nlt bA) (by decide);have f2:=hb.fit (L:=[]) 6 (nlt bB) (by decide);exact⟨((f1.rmul f2).rsub (f2.rmul f1)).zero (by grind) (by kernel_rfl),((f1.rmul f2).rsub (f1.rmul f2)).zero (by grind) (by kernel_rfl)⟩
theorem Crv.alike (h:Crv 1 wa wb wc A B C):FnOk 20 g 21 #[.pointer (some ⟨g,0,none⟩),curV 1 wa wb wc,curV 1 wa wb wc] [] (fun _=>.tuple #[.bool true,.nilIface]) []:=by
 have hl:iJ wa wb wc:=by
  rcases h.k with ⟨-,e⟩|⟨e,-⟩
  . exact e
  . cases e
 have bA:A.natAbs<=36:=Nat.le_trans h.ba (by decide);have bB:B.natAbs<=36:=Nat.le_trans h.bb (by decide);exact aeE (ajL (q:=0) hl hl (sW h.a h.b bA bB).1 (sW h.a h.c bA h.bc).2 (sW h.b h.c bB h.bc).2 rfl)
def aeG(g:Nat)(kd:Int)(wa wb wc p0 p1 q0 q1 i j k l i' j' k' l':Nat):Prop:=
 rH 10 g 200 #[.pointer (some ⟨g,0,none⟩),aN g kd wa wb wc i j k l,aN g kd wa wb wc i' j' k' l'] [(.leaf p0,i),(.leaf p1,j),(.leaf q0,k),(.leaf q1,l)] (mU g true (fun _ ps=>ps=[]))
theorem abY(hp:Wp p0 p1 a1 a2)(hq:Wp q0 q1 b1 b2)(h:cmpP a1 a2 b1 b2<0)(kd:Int):FnOk 52 g 2 #[aN g kd wa wb wc i j k l] [(.leaf p0,i),(.leaf p1,j),(.leaf q0,k),(.leaf q1,l)] (fun _=>.tuple #[bE g i j,bE g k l,.nilIface]) []:=by
 have:=aaF (g:=g) (i:=i) (j:=j) (k:=k) (l:=l) (kd:=kd) (ca:=wa) (cb:=wb) (cc:=wc) (wcmp hp hq);rwa[decide_eq_false (by omega)]at this
theorem abZ(hp:Wp p0 p1 a1 a2)(hq:Wp q0 q1 b1 b2)(h:cmpP a1 a2 b1 b2<0)(kd:Int):FnOk 52 g 2 #[aN g kd wa wb wc k l i j] [(.leaf q0,k),(.leaf q1,l),(.leaf p0,i),(.leaf p1,j)] (fun _=>.tuple #[bE g i j,bE g k l,.nilIface]) []:=by
 have:=aaF (g:=g) (i:=k) (j:=l) (k:=i) (l:=j) (kd:=kd) (ca:=wa) (cb:=wb) (cc:=wc) (wcmp hq hp);rwa[decide_eq_true (by rw[sU];omega)]at this
theorem rM(h:Crv 1 wa wb wc A B C)(hp:Wp p0 p1 a1 a2)(hq:Wp q0 q1 b1 b2)(hc:cmpP a1 a2 b1 b2<0){i' j' k' l' i'' j'' k'' l'':Nat}{KA KB:List (Ex×Nat)}
 (e1:FnOk 52 g 2 #[aN g 1 wa wb wc i' j' k' l'] KA (fun _=>.tuple #[bE g i j,bE g k l,.nilIface]) []) (e2:FnOk 52 g 2 #[aN g 1 wa wb wc i'' j'' k'' l''] KB (fun _=>.tuple #[bE g i j,bE g k l,.nilIface]) [])
 (c1:FnOk 14 g 20 #[.pointer (some ⟨g,0,none⟩),aN g 1 wa wb wc i' j' k' l'] KA (fun _=>.nilIface) []) (c2:FnOk 14 g 20 #[.pointer (some ⟨g,0,none⟩),aN g 1 wa wb wc i'' j'' k'' l''] KB (fun _=>.nilIface) [])
 (w1:FnOk 37 g 4 #[aN g 1 wa wb wc i' j' k' l'] KA (fun _=>.tuple #[.bool false,.nilIface]) []) (w2:FnOk 37 g 4 #[aN g 1 wa wb wc i'' j'' k'' l''] KB (fun _=>.tuple #[.bool false,.nilIface]) [])
 (hA:∀p∈KA,p∈K0) (hB:∀p∈KB,p∈K0) (hK:∀p∈[(.leaf p0,i),(.leaf p1,j),(.leaf q0,k),(.leaf q1,l)],p∈K0):
 rH 10 g 200 #[.pointer (some ⟨g,0,none⟩),aN g 1 wa wb wc i' j' k' l',aN g 1 wa wb wc i'' j'' k'' l''] K0 (mU g true (fun _ ps=>ps=[])):=by
 have hs:=abV (K0:=K0) (P1:=.leaf p0) (P2:=.leaf p1) (Q1:=.leaf q0) (Q2:=.leaf q1) (U1:=.leaf p0) (U2:=.leaf p1) (V1:=.leaf q0) (V2:=.leaf q1) (F1:=.leaf p0) (F2:=.leaf p1) (T1:=.leaf q0) (T2:=.leaf q1) (c1:=0) (c2:=0) e1 e2 hA hB (fun p hp=>hK p ((dF [0,1,2,3,0,1,2,3,0,1,2,3]) p hp)) (sS a1 a2▸wcmp hp hp) (sS b1 b2▸wcmp hq hq) (wcmp hp hq) (Or.inr ⟨by decide,rfl,rfl⟩) (Or.inr ⟨by decide,rfl,rfl⟩);have ho:=yN hs c1 c2 hA hB h.alike;rw[decide_eq_true hc]at ho;exact abW ho h.alike (xZ w1 w2 hA hB) (fun _ _=>rfl) (fun e=>nomatch e)
theorem aaG(h:Crv 1 wa wb wc A B C)(hp:Wp p0 p1 a1 a2)(hq:Wp q0 q1 b1 b2)(ok:okP 1 A B C a1 a2 b1 b2=true):aeG g 1 wa wb wc p0 p1 q0 q1 i j k l i j k l/\aeG g 1 wa wb wc p0 p1 q0 q1 i j k l k l i j:=by
 have c1:=h.check (g:=g) (i:=i) (j:=j) (k:=k) (l:=l) hp hq;rw[ok]at c1;have c2:=h.check (g:=g) (i:=k) (j:=l) (k:=i) (l:=j) hq hp;have ok':okP 1 A B C b1 b2 a1 a2=true:=by
  unfold okP at ok|-;simp only[Bool.and_eq_true,beq_iff_eq]at ok|-;refine⟨⟨ok.1.2,ok.1.1⟩,?_⟩;have:=ok.2;simp at this|-;rw[sU a1 a2 b1 b2];omega
 rw[ok']at c2;have w1:=mQ (g:=g) (i:=i) (j:=j) (k:=k) (l:=l) (kd:=1) (ca:=wa) (cb:=wb) (cc:=wc) (A1:=.leaf p0) (A2:=.leaf p1) (B1:=.leaf q0) (B2:=.leaf q1) (Or.inr ⟨rfl,rfl⟩);have w2:=mQ (g:=g) (i:=k) (j:=l) (k:=i) (l:=j) (kd:=1) (ca:=wa) (cb:=wb) (cc:=wc) (A1:=.leaf q0) (A2:=.leaf q1) (B1:=.leaf p0) (B2:=.leaf p1) (Or.inr ⟨rfl,rfl⟩);have hne:cmpP a1 a2 b1 b2≠0:=by
  unfold okP at ok;simp only[Bool.and_eq_true]at ok;have:=ok.2;simpa using this
 rcases Int.lt_or_gt_of_ne hne with hc|hc
 . exact⟨rM h hp hq hc (abY hp hq hc 1) (abY hp hq hc 1) c1 c1 w1 w1 (fun _ h=>h) (fun _ h=>h) (fun _ h=>h),
    rM h hp hq hc (abY hp hq hc 1) (abZ hp hq hc 1) c1 c2 w1 w2 (fun _ h=>h) (dF [2,3,0,1]) (fun _ h=>h)⟩
 . have hc':cmpP b1 b2 a1 a2<0:=by rw[sU a1 a2 b1 b2];omega
   exact⟨rM h hq hp hc' (abZ hq hp hc' 1) (abZ hq hp hc' 1) c1 c1 w1 w1 (fun _ h=>h) (fun _ h=>h) (dF [2,3,0,1]),
    rM h hq hp hc' (abZ hq hp hc' 1) (abY hq hp hc' 1) c1 c2 w1 w2 (fun _ h=>h) (dF [2,3,0,1]) (dF [2,3,0,1])⟩
theorem aaH(h:Crv 2 wa wb wc A B C)(hp:Wp p0 p1 a1 a2)(hq:Wp q0 q1 b1 b2)(ok:okP 2 A B C a1 a2 b1 b2=true):aeG g 2 wa wb wc p0 p1 q0 q1 i j k l i j k l:=by
 intro s N K L W hR hN hK;refine(sP (g:=g) (i:=i) (j:=j) (k:=k) (l:=l) (i':=i) (j':=j) (k':=k) (l':=l) h hp hq hp hq ok ok s N K L W hR hN fun p hp=>hK p ((dF [0,1,2,3,0,1,2,3]) p hp)).mono ?_;rintro e W'⟨K1,l1,⟨v,ps,hps,rfl,ho⟩,hR'⟩;have hs:=sS a1 a2;have e1:ovP a1 a2 b1 b2 a1 a2 b1 b2=true:=by
  unfold ovP rndP;rw[hs]
  cases (cmpP a1 a2 b1 b2==0)<;>simp
 have e2:jnP a1 a2 b1 b2 a1 a2 b1 b2=0:=by
  unfold jnP
  cases (cmpP a1 a2 b1 b2==0)<;>rfl
 rw[e1];exact⟨K1,l1,⟨v,ps,List.eq_nil_of_length_eq_zero (by rw[hps,e2]),rfl,ho⟩,hR'⟩
end
def arW(kd:Int)(wa wb wc p0 p1 q0 q1:Nat):Prop:=(∀g i j k m,pX g (aN g kd wa wb wc i j k m) [(.leaf p0,i),(.leaf p1,j),(.leaf q0,k),(.leaf q1,m)] false)\/
 (∀g i j k m,pX g (aN g kd wa wb wc i j k m) [(.leaf p0,i),(.leaf p1,j),(.leaf q0,k),(.leaf q1,m)] true)/\∀g i j k m,aeG g kd wa wb wc p0 p1 q0 q1 i j k m i j k m/\∃i' j' k' m',(∀W,Calls Tryz.prog 15 #[aN g kd wa wb wc i j k m] W (RetV W (aN g kd wa wb wc i' j' k' m')))/\aeG g kd wa wb wc p0 p1 q0 q1 i j k m i' j' k' m'
theorem oZ{g d:Nat}{av:Value}{ok:Bool}(h:FnOk 14 g d #[.pointer (some ⟨g,0,none⟩),av] K0 (fun _=>chkA ok) [])(hd:d<=20):pX g av K0 ok:=by
 intro s N K l W hR hN hK;refine(h s N K l W hR (by omega) hK).mono ?_;rintro e W'⟨ks,-,rfl,hR2⟩;refine⟨_,rfl,fun h=>by rw[h];rfl,fun h=> ?_,hR2.more (by omega)⟩;rw[h];exact⟨_,_,rfl⟩
theorem afW(r:Bool)(X Y U V I Kk oo:Int):∃(kd:Int) (wa wb wc p0 p1 q0 q1 P0 Q1 wx wy:Nat),aeC X Y U V I Kk wx wy r kd wa wb wc p0 p1 q0 q1/\aeD oo p0 q1 P0 Q1/\(FlOk P0/\FlOk p1/\FlOk q0/\FlOk Q1)/\arW kd wa wb wc P0 p1 q0 Q1:=by
 obtain⟨p0,p1,q0,q1,wx,wy,wa,wb,wc,kd,A,B,C,a1,a2,b1,b2,hM,hk,⟨ha,hb,hc,h1,h2,h3,h4⟩,c1,c2,c3,d1,d2,d3,d4⟩:=afU r X Y U V I Kk;obtain⟨P0,Q1,a',b',hO,g1,g4,e1,e4⟩:=ajI (oo:=oo) h1 h4 d1 d4;refine⟨kd,wa,wb,wc,p0,p1,q0,q1,P0,Q1,wx,wy,hM,hO,⟨g1.1,h2.1,h3.1,g4.1⟩,?_⟩;have hp:Wp P0 p1 a' a2:=⟨g1,h2,e1,by omega⟩;have hq:Wp q0 Q1 b1 b':=⟨h3,g4,by omega,e4⟩;rcases hk with rfl|⟨rfl,rfl,rfl⟩
 . by_cases hl:iJ wa wb wc
   . have hC:Crv 1 wa wb wc A B C:=⟨ha,hb,hc,c1,c2,c3,Or.inl ⟨rfl,hl⟩⟩
     cases ok:okP 1 A B C a' a2 b1 b'
     . exact Or.inl fun g i j k m=>oZ (by have:=hC.check (g:=g) (i:=i) (j:=j) (k:=k) (l:=m) hp hq;rwa[ok]at this) nlr
     . exact Or.inr ⟨fun g i j k m=>oZ (by have:=hC.check (g:=g) (i:=i) (j:=j) (k:=k) (l:=m) hp hq;rwa[ok]at this) nlr,fun g i j k m=>⟨(aaG hC hp hq ok).1,k,m,i,j,fun W=>aeA,(aaG hC hp hq ok).2⟩⟩
   . exact Or.inl fun g i j k m=>apG ha.1.1 hb.1.1 hc.1.1 hl
 . have hC:Crv 2 wa wb 4627730092099895296 A B 25:=⟨ha,hb,hc,c1,c2,c3,Or.inr ⟨rfl,⟨ha.1,hb.1,hc.1,am1 hc (by decide)⟩,by decide⟩⟩
   cases ok:okP 2 A B 25 a' a2 b1 b'
   . exact Or.inl fun g i j k m=>oZ (by have:=hC.check (g:=g) (i:=i) (j:=j) (k:=k) (l:=m) hp hq;rwa[ok]at this) nlr
   . exact Or.inr ⟨fun g i j k m=>oZ (by have:=hC.check (g:=g) (i:=i) (j:=j) (k:=k) (l:=m) hp hq;rwa[ok]at this) nlr,fun g i j k m=>⟨aaH hC hp hq ok,i,j,k,m,fun W=>ad9,aaH hC hp hq ok⟩⟩
end Go.Proofs.YtjdgaogkioabeaaGreatDoor
