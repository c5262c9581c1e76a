/- A part of the proof: contracts of functions and plain laws (RpW). -/
import Derived.Test.YtebdolonckjpiaaGreatDoorK41
import Derived.Test.YtebdolonckjpiaaGreatDoorK42
import Derived.Deep.RegionHeld3
set_option linter.unusedVariables false
set_option linter.unusedSimpArgs false
set_option maxHeartbeats 25600000
set_option maxRecDepth 100000
namespace Go.Proofs.YtebdolonckjpiaaGreatDoor
open Go.RowKit Go.Maps Go.Stop Go.Extern
open Go.IntWalk renaming i64_in->arU
open Int renaming tmod_lt_of_pos->arO,lt_tmod_of_pos->arS,tmod_nonneg->arY
open List renaming mem_cons_self->arP,sublist_append_right->arQ,getElem?_eq_getElem->arR,append_assoc->arT,mem_cons_of_mem->arV,length_append->arX,mem_cons->ar0
open Nat renaming lt_or_ge->arW,zero_le->arZ
variable{C:Ex}{K:List (Ex×Nat)}{lr:List (Nat×Obj)}{xs:List Int}{N f g m n:Nat}{v:Value}{W:World}
def rkV(xs:List Int)(j:Nat):Int:=((xs.getD j 0).tmod 25+25).tmod 25
def rkR(xs:List Int)(j:Nat):Ex:=.root (.leaf (fl (rkV xs j)))
theorem aoJ(xs:List Int)(j:Nat):0<=rkV xs j/\rkV xs j<=24:=by
 unfold rkV;have h1:=arS (xs.getD j 0) (show(0:Int)<25 by omega);have h3:0<=((xs.getD j 0).tmod 25+25).tmod 25:=arY _ (by omega);have h4:=arO ((xs.getD j 0).tmod 25+25) (show(0:Int)<25 by omega);omega
theorem an9(xs:List Int)(j:Nat):Iw (fl (rkV xs j)) (rkV xs j):=by
 have:=aoJ xs j;exact⟨⟨(qM (by omega)).1,(qM (by omega)).2.1⟩,(qM (by omega)).2.2⟩
def RkL(g:Nat)(K:List (Ex×Nat))(xs:List Int)(C:Ex)(f m:Nat)(v:Value)(ids:List Nat)(lr:List (Nat×Obj)):Prop:=
 ids.length=m/\OwnR 27 2 v m (numL g ids) lr/\∀j k,ids[j]? =some k->(rkE f (rkR xs j) C,k)∈K
def RkS(s:Bs)(g:Nat)(xs:List Int)(C:Ex)(kc bc:Nat)(m:Nat)(v0 v1 v2 v3:Value)(W:World):Prop:=∃K i0 i1 i2 i3 l0 l1 l2 l3,RkL g K xs C 0 m v0 i0 l0/\RkL g K xs C 1 m v1 i1 l1/\RkL g K xs C 2 m v2 i2 l2/\RkL g K xs C 3 m v3 i3 l3/\(C,kc)∈K/\Run s g (2+20*m) K ([(bc,.cells #[.pointer (some ⟨g,0,none⟩),.int .i64 (kc:Int)] 27)]++(l0++(l1++(l2++l3)))) W
theorem an5{k:Nat}{K':List (Ex×Nat)}{v':Value}{ids:List Nat}{lr':List (Nat×Obj)}(h:RkL g K xs C f m v ids lr)(hK:∀p∈K,p∈K')(ho:OwnR 27 2 v' (m+1) (numL g (ids++[k])) lr')(hk:(rkE f (rkR xs m) C,k)∈K'):RkL g K' xs C f (m+1) v' (ids++[k]) lr':=by
 refine⟨by rw[arX,h.1];rfl,ho,fun j k' hj=> ?_⟩;rw[List.getElem?_append]at hj
 split at hj
 . exact hK _ (h.2.2 j k' hj)
 . rename_i hlt
   have hj2:j-ids.length=0:=by
    rcases Nat.eq_zero_or_pos (j-ids.length)with e|e
    . exact e
    . rw[List.getElem?_eq_none (by simp only[List.length_singleton];exact e)]at hj;cases hj
   rw[hj2]at hj;obtain rfl:k=k':=by simpa using hj
   have:=h.1;obtain rfl:j=m:=by omega
   exact hk
theorem an6{ids:List Nat}{d:Int}(hw:Iw (fl (1+d)) (1+d))(hd:0<=d/\d<=8)(hC: .root (.leaf (fl (1+d)))=C)(h:RkL g K xs C f m v ids lr):aoH K (fun j=>rkK f (rkV xs j)) ids:=by
 subst hC;refine⟨fun k hk=> ?_,fun i j ki kj hi hj=>⟨_,_,h.2.2 i ki hi,h.2.2 j kj hj,(ao3 (an9 xs i) (an9 xs j) hw (aoJ xs i) (aoJ xs j) (by omega) f).1⟩⟩;obtain⟨j,hj⟩:=List.mem_iff_getElem?.1 hk;obtain⟨q,hq⟩:=(ao3 (an9 xs j) (an9 xs j) hw (aoJ xs j) (aoJ xs j) (by omega) f).2;exact⟨_,q,h.2.2 j k hj,hq⟩
theorem ao0(f:Nat)(hf:f<3):anP (fun j=>rkK f (rkV xs j)) n=anP (rkV xs) n:=by
 have:(fun j=>rkK f (rkV xs j))=rkV xs:=by funext j;unfold rkK;rw[if_pos hf]
 rw[this]
theorem apK:anP (fun j=>rkK 3 (rkV xs j)) n=(anP (rkV xs) n).reverse:=by
 have:(fun j=>rkK 3 (rkV xs j))=fun j=>-rkV xs j:=by funext j;rfl
 rw[this,aoO]
theorem apL{v:Nat->Int}:(anP v n).length<=n/\∀o∈anP v n,o.length<=n:=by
 have h:=anO v n;rw[an2]at h;have hne:=(anS v n).ne;have key:∀gs:List (List Nat),(∀o∈gs,o≠[])->gs.length<=gs.flatten.length/\∀o∈gs,o.length<=gs.flatten.length:=by
  intro gs
  induction gs with
  |nil=>intro _;exact⟨Nat.le_refl _,fun o ho=>by cases ho⟩
  |cons a gs ih=>
   intro hg;obtain⟨h1,h2⟩:=ih fun o ho=>hg o (arV _ ho);have ha:0<a.length:=List.length_pos_iff.2 (hg a (arP ..));rw[List.flatten_cons,arX,List.length_cons];refine⟨by omega,fun o ho=> ?_⟩;rcases ar0.1 ho with rfl|ho
   . omega
   . have:=h2 o ho;omega
 have:=key _ hne;rwa[h]at this
theorem aoB{s:Bs}{L:List (Nat×Obj)}{ids:List Nat}(hR:Run s g N K (lr++L) W)(hv:RowN g v ids lr)(hi:ids.length=n)(hn:n<=6)(hN:N+n*n+n<=20000)(hk:aoH K (fun j=>rkK f (rkV xs j)) ids):
 Calls Tryz.prog 22 #[v] W (fun e W'=>∃v' lg,e=.returned (.tuple #[v',.nilIface])/\GrpV v' (anP (fun j=>rkK f (rkV xs j)) n) lg/\Run s g (N+n*n+n) K (L++lg) W'):=by
 subst hi;refine(aoI hR hv (by omega) hN hk).mono ?_;rintro e W'⟨v',lg,rfl,h1,h2⟩;exact⟨v',lg,rfl,h1,(h2.subl (List.Sublist.append (List.Sublist.refl _) (arQ _ _))).perm List.perm_append_comm⟩
theorem RkC.drewN {s:Bs}{gs:List (List Nat)}{p0 p1 p2 p3:Option Addr}{c0 c1 c2 c3:Nat}(h:RkC s g N K gs p0 p1 p2 p3 c0 c1 c2 c3 W)(k:Nat):RkC s g N K gs p0 p1 p2 p3 c0 c1 c2 c3 (W.drewN k):=by
 obtain⟨l0,l1,l2,l3,h0,h1,h2,h3,h4⟩:=h;exact⟨l0,l1,l2,l3,h0,h1,h2,h3,h4.step (below_drewN W k)⟩
theorem aoY{a b c d e:Ex×Nat}:∀p∈K,p∈a::b::c::d::e::K:=fun _ h=>.tail _ (.tail _ (.tail _ (.tail _ (.tail _ h))))
theorem apR{s:Bs}{M:Nat}{F R:List (Nat×Obj)}{bc bv kc kv:Nat}(h:Run s g M K (F++([(bc,numO g kc),(bv,numO g kv)]++R)) W)(hM:M<=N):Run s g N K ([(bc,numO g kc)]++R) W:=
 (h.more hM).subl (.trans (.cons_cons _ (List.sublist_cons_self _ _)) (arQ _ _))
def R12(s:Bs)(g:Nat)(xs:List Int)(C:Ex)(kc bc m:Nat)(a0:Act)(e:Exit)(a:Act)(W:World):Prop:=e=.normal/\∃v0 v1 v2 v3,(∃T:Nat->Value,T=(fun i=>a.tmps.getD i undef)/\a=putL a0 [(60,T 60),(61,T 61),(62,T 62),(63,T 63),(64,T 64),(65,T 65),(66,T 66),(67,T 67),(68,T 68),(69,T 69),(70,T 70),(71,T 71),(72,T 72),(73,T 73),(74,T 74),(75,T 75),(76,T 76),(77,T 77),(78,T 78),(79,T 79),(80,T 80),(81,T 81),(82,T 82),(83,T 83),(84,T 84),(85,T 85),(7,v0),(8,v1),(9,v2),(10,v3)])/\RkS s g xs C kc bc (m+1) v0 v1 v2 v3 W
theorem apS{P:Program}{c:Code}{Q:Exit->Act->World->Prop}{a:Act}(s:Bs)(g:Nat)(xs:List Int)(C:Ex)(kc bc m:Nat)(h:c.wp P (R12 s g xs C kc bc m a) a W)
 (hq:∀(T:Nat->Value) v0 v1 v2 v3 W',Hid (RkS s g xs C kc bc (m+1) v0 v1 v2 v3 W')->Q .normal (putL a [(60,T 60),(61,T 61),(62,T 62),(63,T 63),(64,T 64),(65,T 65),(66,T 66),(67,T 67),(68,T 68),(69,T 69),(70,T 70),(71,T 71),(72,T 72),(73,T 73),(74,T 74),(75,T 75),(76,T 76),(77,T 77),(78,T 78),(79,T 79),(80,T 80),(81,T 81),(82,T 82),(83,T 83),(84,T 84),(85,T 85),(7,v0),(8,v1),(9,v2),(10,v3)]) W'):c.wp P Q a W:=
 Code.wp_mono (fun e a' W' hr=>by
  obtain⟨rfl,v0,v1,v2,v3,⟨T,-,h1⟩,h2⟩:=hr;rw[h1];exact hq T v0 v1 v2 v3 W' (hdd h2)) h
theorem aoK{w:World}{pl:Option Addr}{c:Nat}{cc:Int}(hT:Tab w)(htb:0<w.heap.size)(hx:∀j x,xs[j]? =some x->∃lb lo,pl=some ⟨lb,lo,none⟩/\w.cell? ⟨lb,lo+j,none⟩=some (.int .i64 x)):
 Calls Tryz.prog 3 #[.slice pl xs.length c,.int .i64 cc] w (RetV w (.bool true)):=by
 have HA:=hdd (apJ hT htb);rcases arW 6 xs.length with h6|h6
 . have hI:(6:Int)<(xs.length:Int):=by omega
   clear hx h6 hT htb;go_enter Tryz.func3,Tryz.ntmps3
   go_wp2_with fail
   refine HA.out.mono ?_;rintro e w2⟨rfl,hb⟩;have HB:=hdd hb;clear hb;go_wp2;go_ret;exact⟨rfl,HB.out⟩
 . have hI:(xs.length:Int)<=6:=by omega
   have HX:=hdd hx;have HT:=hdd (And.intro hT htb);clear hx hT htb;go_enter Tryz.func3,Tryz.ntmps3
   go_wp2_with fail
   refine HA.out.mono ?_;rintro e w2⟨rfl,hb⟩;have HN:=hdd (adI (w0:=w) (l:=[]) hb (fun p hp=>by cases hp) (by simp) HT.out.1 HT.out.2);clear hb HA;go_wp2_with fail
   refine HN.out.mono ?_;rintro e W1⟨g,rfl,hR⟩;have R1:=hdd hR;clear hR HN;dsimp only;obtain⟨d,hd,hd2⟩:∃d:Int,((cc.tmod 9+9).tmod 9)=d/\0<=d/\d<=8:=by
    have h1:=arS cc (show(0:Int)<9 by omega);have h3:0<=(cc.tmod 9+9).tmod 9:=arY _ (by omega);have h4:=arO (cc.tmod 9+9) (show(0:Int)<9 by omega);have h5:=arO cc (show(0:Int)<9 by omega);exact⟨_,rfl,h3,by omega⟩
   have hw1:IntKind.i64.wrap (cc.tmod 9+9)=cc.tmod 9+9:=arU _ (by
    have h1:=arS cc (show(0:Int)<9 by omega);have h5:=arO cc (show(0:Int)<9 by omega);omega)
   have hw2:IntKind.i64.wrap (1+d)=1+d:=arU _ (by omega);have hcw:floatOfInt FloatKind.f64 (1+d)=fl (1+d):=rfl;have HI:=hdd (show Iw (fl (1+d)) (1+d) from⟨⟨(qM (by omega)).1,(qM (by omega)).2.1⟩,(qM (by omega)).2.2⟩);have HDD:=hdd hd2;go_wp2_with (simp only[hd])
   refine(R1.out.of (by omega) HI.out.1.1 HI.out.1.2).mono ?_;rintro e w3⟨k9,rfl,hR⟩;have R2:=hdd hR;clear hR R1;go_wp2_with fail
   refine(R2.out.sqrt (by omega) (arP ..)).mono ?_;rintro e w4⟨kc,rfl,hR⟩;have R3:=hdd hR;clear hR R2;obtain⟨w5,hw5,hb5,hs5,b5⟩:=pro1 w4 (.cells #[.pointer (some ⟨g,0,none⟩),.int .i64 (kc:Int)] 27);have R4:Hid (Run (bs w) g 2 _ [(w4.heap.size,.cells #[.pointer (some ⟨g,0,none⟩),.int .i64 (kc:Int)] 27)] w5):=hdd (hw5▸R3.out.alloc _);clear R3 hb5 hs5 b5 hw1 hw2 hcw hd;obtain⟨C,hC⟩:∃C:Ex,.root (.leaf (fl (1+d)))=C:=⟨_,rfl⟩;have HC:=hdd hC;rw[hC]at R4;clear hC;go_wp2_with fail
   generalize w4.heap.size=bc at R4|-
   go_loopw [7,8,9,10,11] (fun v0 v1 v2 v3 i wr=>∃m:Nat,m<=xs.length/\i=.int .i64 (m:Int)/\Hid (RkS (bs w) g xs C kc bc m v0 v1 v2 v3 wr)) (fun _ _ _ _ i _=>((xs.length:Int)-intOf i).toNat)
   case atStart=>
    refine⟨0,arZ _,rfl,hdd ⟨_,[],[],[],[],[],[],[],[],⟨rfl,OwnR.nil _ _,fun j k h=>by simp at h⟩,⟨rfl,OwnR.nil _ _,fun j k h=>by simp at h⟩,⟨rfl,OwnR.nil _ _,fun j k h=>by simp at h⟩,⟨rfl,OwnR.nil _ _,fun j k h=>by simp at h⟩,arP ..,R4.out⟩⟩
   case round=>
    obtain⟨m,hm,rfl,HS⟩:=hrel;rcases arW m xs.length with hlt|hge
    . obtain⟨K,i0,i1,i2,i3,l0,l1,l2,l3,q0,q1,q2,q3,hk,hR⟩:=HS.out
      have hx:xs[m]? =some xs[m]:=arR hlt;generalize xs[m]=x at hx;obtain⟨p0,c0,rfl⟩:=q0.2.1.slice;obtain⟨p1,c1,rfl⟩:=q1.2.1.slice;obtain⟨p2,c2,rfl⟩:=q2.2.1.slice;obtain⟨p3,c3,rfl⟩:=q3.2.1.slice;obtain⟨lb,lo,rfl,ca⟩:=HX.out m x hx;replace ca:=cbl ca (Run.below hR);have hV:rkV xs m=(x.tmod 25+25).tmod 25:=by unfold rkV;rw[List.getD_eq_getElem?_getD,hx];rfl
      have hw1:IntKind.i64.wrap (x.tmod 25+25)=x.tmod 25+25:=arU _ (by
       have h1:=arS x (show(0:Int)<25 by omega);have h5:=arO x (show(0:Int)<25 by omega);omega)
      have hcw:floatOfInt FloatKind.f64 ((x.tmod 25+25).tmod 25)=fl (rkV xs m):=by rw[hV];rfl
      have hmI:(m:Int)<(xs.length:Int):=by omega
      have hm0:(0:Int)<=(m:Int):=by omega
      have HR:=hdd hR;have HQ0:=hdd q0;have HQ1:=hdd q1;have HQ2:=hdd q2;have HQ3:=hdd q3;have HK:=hdd hk;have HLT:=hdd hlt;clear hR q0 q1 q2 q3 hk hV hx HS hlt;go_wp2_with fail
      refine(HR.out.of (by have:=HLT.out;omega) (an9 xs m).1.1 (an9 xs m).1.2).mono ?_;rintro e wa⟨ka,rfl,hRa⟩;have RA:=hdd hRa;clear hRa;go_wp2_with fail
      refine(RA.out.sqrt (by have:=HLT.out;omega) (arP ..)).mono ?_;rintro e wb⟨kv,rfl,hRb⟩;have RB:=hdd hRb;clear hRb RA;obtain⟨X,hX⟩:∃X:Ex,.root (.leaf (fl (rkV xs m)))=X:=⟨_,rfl⟩;have HXX:=hdd hX;rw[hX]at RB;clear hX;obtain⟨wc,hwc,hbc,hsc,bcc⟩:=pro1 wb (.cells #[.pointer (some ⟨g,0,none⟩),.int .i64 (kv:Int)] 27);have RD:Hid (Run (bs w) g (2+20*m+1+1) ((X,kv)::K) ([]++([(bc,numO g kc),(wb.heap.size,numO g kv)]++(l0++(l1++(l2++l3))))) wc.drew):=hdd (((hwc▸(RB.out.alloc (.cells #[.pointer (some ⟨g,0,none⟩),.int .i64 (kv:Int)] 27)).few (fun p hp=>by
       rcases ar0.1 hp with rfl|hp
       . exact arP ..
       . exact arV _ (arV _ hp)):Run (bs w) g (2+20*m+1+1) ((X,kv)::K) _ wc)).drew.perm (List.Perm.swap _ _ _))
      clear RB HR hbc hsc bcc ca hw1 hcw
      go_upto_region 12 with fail
      generalize wb.heap.size=bv at RD|-;refine apS (bs w) g xs C kc bc m ?reg ?fin
      case reg=>
       clear HX HT HI HDD HC;refine wp_region_held_drew (S:=fun w'=>w'.heap[bv]? =some (numO g kv)/\w'.heap[bc]? =some (numO g kc)) (by kernel_rfl) (aoV RD.out) (fun hHeld=> ?_);refine wpAnyH_take (i:=0) (v:=.slice p0 m c0) rfl (by kernel_rfl) (by kernel_rfl) (by kernel_rfl) (fun _ _ _ h=>nomatch h.1) (Or.inl ⟨by rfl,fun _ _=>by kernel_rfl⟩) hHeld ?_;refine wpAnyH_take (i:=1) (v:=numV g kv) rfl (by kernel_rfl) (by kernel_rfl) (by kernel_rfl) (fun _ _ _ h=>nomatch h.1) (anT (by rfl) (by rfl) (by kernel_rfl) (fun _ h=>h.1) (fun _=>by kernel_rfl) (fun _=>by kernel_rfl)) hHeld ?_;refine wpAnyH_take (i:=4) (v:=.slice p1 m c1) rfl (by kernel_rfl) (by kernel_rfl) (by kernel_rfl) (fun _ _ _ h=>nomatch h.1) (Or.inl ⟨by rfl,fun _ _=>by kernel_rfl⟩) hHeld ?_;refine wpAnyH_take (i:=5) (v:=numV g kv) rfl (by kernel_rfl) (by kernel_rfl) (by kernel_rfl) (fun _ _ _ h=>nomatch h.1) (anT (by rfl) (by rfl) (by kernel_rfl) (fun _ h=>h.1) (fun _=>by kernel_rfl) (fun _=>by kernel_rfl)) hHeld ?_;refine wpAnyH_take (i:=6) (v:=numV g kc) rfl (by kernel_rfl) (by kernel_rfl) (by kernel_rfl) (fun _ _ _ h=>nomatch h.1) (anT (by rfl) (by rfl) (by kernel_rfl) (fun _ h=>h.2) (fun _=>by kernel_rfl) (fun _=>by kernel_rfl)) hHeld ?_
       refine wpAnyH_take (i:=11) (v:=.slice p2 m c2) rfl (by kernel_rfl) (by kernel_rfl) (by kernel_rfl) (fun _ _ _ h=>nomatch h.1) (Or.inl ⟨by rfl,fun _ _=>by kernel_rfl⟩) hHeld ?_;refine wpAnyH_take (i:=12) (v:=numV g kv) rfl (by kernel_rfl) (by kernel_rfl) (by kernel_rfl) (fun _ _ _ h=>nomatch h.1) (anT (by rfl) (by rfl) (by kernel_rfl) (fun _ h=>h.1) (fun _=>by kernel_rfl) (fun _=>by kernel_rfl)) hHeld ?_;refine wpAnyH_take (i:=13) (v:=numV g kc) rfl (by kernel_rfl) (by kernel_rfl) (by kernel_rfl) (fun _ _ _ h=>nomatch h.1) (anT (by rfl) (by rfl) (by kernel_rfl) (fun _ h=>h.2) (fun _=>by kernel_rfl) (fun _=>by kernel_rfl)) hHeld ?_;refine wpAnyH_take (i:=18) (v:=.slice p3 m c3) rfl (by kernel_rfl) (by kernel_rfl) (by kernel_rfl) (fun _ _ _ h=>nomatch h.1) (Or.inl ⟨by rfl,fun _ _=>by kernel_rfl⟩) hHeld ?_;refine wpAnyH_take (i:=19) (v:=numV g kv) rfl (by kernel_rfl) (by kernel_rfl) (by kernel_rfl) (fun _ _ _ h=>nomatch h.1) (anT (by rfl) (by rfl) (by kernel_rfl) (fun _ h=>h.1) (fun _=>by kernel_rfl) (fun _=>by kernel_rfl)) hHeld ?_
       refine wpAnyH_take (i:=20) (v:=numV g kc) rfl (by kernel_rfl) (by kernel_rfl) (by kernel_rfl) (fun _ _ _ h=>nomatch h.1) (anT (by rfl) (by rfl) (by kernel_rfl) (fun _ h=>h.2) (fun _=>by kernel_rfl) (fun _=>by kernel_rfl)) hHeld ?_;refine apQ (fun a a' w'=>∃b62 b67 b69 b74 g0 e0 g1 e1 ka l4 l5 F,a'=putL a [(62,.slice (some ⟨b62,0,none⟩) 1 1),(63,.slice (some ⟨g0,0,none⟩) (m+1) e0),(67,.slice (some ⟨b67,0,none⟩) 1 1),(68,numV g ka),(69,.slice (some ⟨b69,0,none⟩) 1 1),(70,.slice (some ⟨g1,0,none⟩) (m+1) e1),(74,.slice (some ⟨b74,0,none⟩) 1 1)]/\(b74,numO g kc)∈F/\OwnR 27 2 (.slice (some ⟨g0,0,none⟩) (m+1) e0) (m+1) (numL g (i0++[kv])) l4/\OwnR 27 2 (.slice (some ⟨g1,0,none⟩) (m+1) e1) (m+1) (numL g (i1++[ka])) l5/\Run (bs w) g (2+20*m+1+1+1) ((.add X C,ka)::(X,kv)::K) (F++([(bc,numO g kc),(bv,numO g kv)]++(l2++(l3++(l4++l5))))) w') 12 #[true,true,true,true,true,true,true,true,true,true,true,true,true,true,true,false,false,false,true,true,true,false,false,false,false,false,false,false,false,false] (fun hT=> ?_) ?_
       . iterate 7
          all_goals first|refine wpAnyH_ready (rs:=[2,7,14]) (by decide+kernel) (by simp) ?_|refine wpAnyH_ready (rs:=[3,7,14]) (by decide+kernel) (by simp) ?_|refine wpAnyH_ready (rs:=[7,14]) (by decide+kernel) (by simp) ?_|refine wpAnyH_ready (rs:=[2,14]) (by decide+kernel) (by simp) ?_|refine wpAnyH_ready (rs:=[3,14]) (by decide+kernel) (by simp) ?_|refine wpAnyH_ready (rs:=[8,14]) (by decide+kernel) (by simp) ?_|refine wpAnyH_ready (rs:=[9,14]) (by decide+kernel) (by simp) ?_|refine wpAnyH_ready (rs:=[10,14]) (by decide+kernel) (by simp) ?_|refine wpAnyH_ready (rs:=[14]) (by decide+kernel) (by simp) ?_|refine wpAnyH_ready (rs:=[2,7]) (by decide+kernel) (by simp) ?_|refine wpAnyH_ready (rs:=[3,7]) (by decide+kernel) (by simp) ?_|refine wpAnyH_ready (rs:=[7]) (by decide+kernel) (by simp) ?_|refine wpAnyH_ready (rs:=[2]) (by decide+kernel) (by simp) ?_|refine wpAnyH_ready (rs:=[3]) (by decide+kernel) (by simp) ?_|refine wpAnyH_ready (rs:=[8]) (by decide+kernel) (by simp) ?_|refine wpAnyH_ready (rs:=[9]) (by decide+kernel) (by simp) ?_|refine wpAnyH_ready (rs:=[10]) (by decide+kernel) (by simp) ?_
          all_goals (repeat' (first|exact AllReadyH.nil|refine AllReadyH.cons (o:=_) rfl (fun Kk hK=> ?_) ?_))
          all_goals first
           |(refine anX RD.out kv 62 (by rfl) (by rfl) _ (by rfl) (by kernel_rfl) ?_
             intro b62 w6 hR6)
           |(refine aoU (b:=b62) (k:=kv) RD.out HQ0.out.2.1 (by have:=HLT.out;omega) (by rfl) _ _ (by rfl) (by kernel_rfl) (by kernel_rfl) (by repeat (first|exact .head _|apply List.Mem.tail)) ?_
             intro g0 e0 w6 q0 hO0 hR6;have HO0:=hdd hO0;clear hO0)
           |(refine anX RD.out kc 67 (by rfl) (by rfl) _ (by rfl) (by kernel_rfl) ?_
             intro b67 w6 hR6)
           |(refine an0 (by rfl) 68 (by rfl) (apP (X:=X) (kv:=kv) (C:=C) (kc:=kc) (b:=b67) RD.out (by have:=HLT.out;omega) m0 (.tail _ HK.out) (by repeat (first|exact .head _|apply List.Mem.tail))) (by kernel_rfl) ?_
             rintro e w6⟨ka,rfl,hR6⟩;refine⟨_,rfl,?_⟩)
           |(refine anX RD.out ka 69 (by rfl) (by rfl) _ (by rfl) (by kernel_rfl) ?_
             intro b69 w6 hR6)
           |(refine aoU (b:=b69) (k:=ka) RD.out HQ1.out.2.1 (by have:=HLT.out;omega) (by rfl) _ _ (by rfl) (by kernel_rfl) (by kernel_rfl) (by repeat (first|exact .head _|apply List.Mem.tail)) ?_
             intro g1 e1 w6 q1 hO1 hR6;have HO1:=hdd hO1;clear hO1)
           |(refine anX RD.out kc 74 (by rfl) (by rfl) _ (by rfl) (by kernel_rfl) ?_
             intro b74 w6 hR6)
          all_goals
           refine hK.out _ _ (aoV hR6) (fun _=> ?_);clear hK Kk;replace RD:=hdd hR6;clear hR6
         all_goals exact hT _ _ _ (by kernel_rfl) ⟨b62,b67,b69,b74,g0,e0,g1,e1,ka,_,_,_,by kernel_rfl,(by repeat (first|exact .head _|apply List.Mem.tail)),HO0.out,HO1.out,RD.out⟩
       . rintro a' w6⟨b62,b67,b69,b74,g0,e0,g1,e1,ka,l4,l5,F,rfl,hF,hO0,hO1,hR⟩
         replace RD:=hdd hR;clear hR
         iterate 12
          all_goals first|refine wpAnyH_ready (rs:=[15]) (by decide+kernel) (by simp) ?_|refine wpAnyH_ready (rs:=[16]) (by decide+kernel) (by simp) ?_|refine wpAnyH_ready (rs:=[17]) (by decide+kernel) (by simp) ?_|refine wpAnyH_ready (rs:=[21]) (by decide+kernel) (by simp) ?_|refine wpAnyH_ready (rs:=[22]) (by decide+kernel) (by simp) ?_|refine wpAnyH_ready (rs:=[23]) (by decide+kernel) (by simp) ?_|refine wpAnyH_ready (rs:=[24]) (by decide+kernel) (by simp) ?_|refine wpAnyH_ready (rs:=[25]) (by decide+kernel) (by simp) ?_|refine wpAnyH_ready (rs:=[26]) (by decide+kernel) (by simp) ?_|refine wpAnyH_ready (rs:=[27]) (by decide+kernel) (by simp) ?_|refine wpAnyH_ready (rs:=[28]) (by decide+kernel) (by simp) ?_|refine wpAnyH_ready (rs:=[29]) (by decide+kernel) (by simp) ?_
          all_goals (repeat' (first|exact AllReadyH.nil|refine AllReadyH.cons (o:=_) rfl (fun Kk hK=> ?_) ?_))
          all_goals first
           |(refine an0 (by rfl) 75 (by rfl) (apG (X:=X) (kv:=kv) (C:=C) (kc:=kc) (b:=b74) RD.out (by have:=HLT.out;omega) m1 (.tail _ (.tail _ HK.out)) (List.mem_append_left _ hF)) (by kernel_rfl) ?_
             rintro e w6⟨kb,rfl,hR6⟩;refine⟨_,rfl,?_⟩)
           |(refine anX RD.out kb 76 (by rfl) (by rfl) _ (by rfl) (by kernel_rfl) ?_
             intro b76 w6 hR6)
           |(refine aoU (b:=b76) (k:=kb) RD.out HQ2.out.2.1 (by have:=HLT.out;omega) (by rfl) _ _ (by rfl) (by kernel_rfl) (by kernel_rfl) (by repeat (first|exact .head _|apply List.Mem.tail)) ?_
             intro g2 e2 w6 q2 hO2 hR6;have HO2:=hdd hO2;clear hO2)
           |(refine an0 (by rfl) 81 (by rfl) (Run.neg (x:=C) (i:=kc) RD.out (by have:=HLT.out;omega) (.tail _ (.tail _ (.tail _ HK.out)))) (by kernel_rfl) ?_
             rintro e w6⟨kn,rfl,hR6⟩;refine⟨_,rfl,?_⟩)
           |(refine anX RD.out kn 82 (by rfl) (by rfl) _ (by rfl) (by kernel_rfl) ?_
             intro b82 w6 hR6)
           |(refine an0 (by rfl) 83 (by rfl) (apG (X:=X) (kv:=kv) (C:=.sub (.leaf 0) C) (kc:=kn) (b:=b82) RD.out (by have:=HLT.out;omega) m3 m0 (by repeat (first|exact .head _|apply List.Mem.tail))) (by kernel_rfl) ?_
             rintro e w6⟨kd,rfl,hR6⟩;refine⟨_,rfl,?_⟩)
           |(refine anX RD.out kd 84 (by rfl) (by rfl) _ (by rfl) (by kernel_rfl) ?_
             intro b84 w6 hR6)
           |(refine aoU (b:=b84) (k:=kd) RD.out HQ3.out.2.1 (by have:=HLT.out;omega) (by rfl) _ _ (by rfl) (by kernel_rfl) (by kernel_rfl) (by repeat (first|exact .head _|apply List.Mem.tail)) ?_
             intro g3 e3 w6 q3 hO3 hR6;have HO3:=hdd hO3;clear hO3)
           |(refine anV (v:=.slice (some ⟨g0,0,none⟩) (m+1) e0) (by rfl) 7 (by rfl) (by rfl) (by kernel_rfl) ?_
             have hR6:=RD.out)
           |(refine anV (v:=.slice (some ⟨g1,0,none⟩) (m+1) e1) (by rfl) 8 (by rfl) (by rfl) (by kernel_rfl) ?_
             have hR6:=RD.out)
           |(refine anV (v:=.slice (some ⟨g2,0,none⟩) (m+1) e2) (by rfl) 9 (by rfl) (by rfl) (by kernel_rfl) ?_
             have hR6:=RD.out)
           |(refine anV (v:=.slice (some ⟨g3,0,none⟩) (m+1) e3) (by rfl) 10 (by rfl) (by rfl) (by kernel_rfl) ?_
             have hR6:=RD.out)
          all_goals
           refine hK.out _ _ (aoV hR6) (fun _=> ?_);clear hK Kk;replace RD:=hdd hR6;clear hR6
         refine wpAnyH_done (by kernel_rfl) ?_ _;have hX:=HXX.out;subst hX;exact⟨rfl,.slice (some ⟨g0,0,none⟩) (m+1) e0,.slice (some ⟨g1,0,none⟩) (m+1) e1,.slice (some ⟨g2,0,none⟩) (m+1) e2,.slice (some ⟨g3,0,none⟩) (m+1) e3,⟨_,rfl,by kernel_rfl⟩,_,_,_,_,_,_,_,_,_,an5 HQ0.out aoY hO0 m4,an5 HQ1.out aoY hO1 m3,an5 HQ2.out aoY HO2.out m2,an5 HQ3.out aoY HO3.out m0,aoY _ HK.out,apR RD.out (by omega)⟩
      case fin=>
      intro T v0 v1 v2 v3 w6 HS2;clear RD;simp only[putL,List.setIfInBounds_toArray,List.set];have HLT2:=HLT;go_wp2_with fail
      go_roundw
      case rel=>exact⟨m+1,by have:=HLT.out;omega,by go_num,HS2⟩
      case measure=>have:=HLT.out;simp[intOf];omega
    . have hme:m=xs.length:=by omega
      subst hme;obtain⟨K,i0,i1,i2,i3,l0,l1,l2,l3,q0,q1,q2,q3,hk,hR⟩:=HS.out;have hC:=HC.out;have hw:Iw (fl (1+d)) (1+d):=HI.out;have hk0:=an6 (f:=0) hw HDD.out hC q0;have hk1:=an6 (f:=1) hw HDD.out hC q1;have hk2:=an6 (f:=2) hw HDD.out hC q2;have hk3:=an6 (f:=3) hw HDD.out hC q3;have hn6:xs.length<=6:=by omega
      obtain⟨n,hn⟩:∃n,xs.length=n:=⟨_,rfl⟩;rw[hn]at q0 q1 q2 q3 hR hn6;have hnn:n*n<=36:=Nat.mul_le_mul hn6 hn6;have HQ:=hdd (And.intro (And.intro (q0.2.1.rowN q0.1) (And.intro q0.1 hk0)) (And.intro (And.intro (q1.2.1.rowN q1.1) (And.intro q1.1 hk1)) (And.intro (And.intro (q2.2.1.rowN q2.1) (And.intro q2.1 hk2)) (And.intro (q3.2.1.rowN q3.1) (And.intro q3.1 hk3)))));obtain⟨s0,d0,rfl⟩:=q0.2.1.slice;obtain⟨s1,d1,rfl⟩:=q1.2.1.slice;obtain⟨s2,d2,rfl⟩:=q2.2.1.slice;obtain⟨s3,d3,rfl⟩:=q3.2.1.slice;have RA:=hdd (hR.subl (l':=l0++(l1++(l2++l3))) (arQ _ _));clear hR q0 q1 q2 q3 hk0 hk1 hk2 hk3 hC hw hk hge hm HS HX HT HI HDD HC;obtain⟨gs,hgs⟩:∃gs,anP (rkV xs) n=gs:=⟨_,rfl⟩;have HGS:=hdd hgs;have hgn:=apL (v:=rkV xs) (n:=n);rw[hgs]at hgn;have HGN:=hdd hgn.2;have HN6:=hdd hn6;have hgI:(gs.length:Int)<=6:=by have:=hgn.1;omega
      clear hgn hgs;go_wp2_with fail
      refine(aoB (f:=0) RA.out HQ.out.1.1 HQ.out.1.2.1 (by omega) (by omega) HQ.out.1.2.2).mono ?_;rintro e wg0⟨v0,g0,rfl,hg0,hR⟩;have HG0:=hdd hg0;replace RA:=hdd hR;clear hR hg0;simp only[arT]at RA;go_wp2_with fail
      refine(aoB (f:=1) RA.out HQ.out.2.1.1 HQ.out.2.1.2.1 (by omega) (by omega) HQ.out.2.1.2.2).mono ?_;rintro e wg1⟨v1,g1,rfl,hg1,hR⟩;have HG1:=hdd hg1;replace RA:=hdd hR;clear hR hg1;simp only[arT]at RA;go_wp2_with fail
      refine(aoB (f:=2) RA.out HQ.out.2.2.1.1 HQ.out.2.2.1.2.1 (by omega) (by omega) HQ.out.2.2.1.2.2).mono ?_;rintro e wg2⟨v2,g2,rfl,hg2,hR⟩;have HG2:=hdd hg2;replace RA:=hdd hR;clear hR hg2;simp only[arT]at RA;go_wp2_with fail
      refine(aoB (f:=3) RA.out HQ.out.2.2.2.1 HQ.out.2.2.2.2.1 (by omega) (by omega) HQ.out.2.2.2.2.2).mono ?_;rintro e wg3⟨v3,g3,rfl,hg3,hR⟩;have HG3:=hdd hg3;replace RA:=hdd hR;clear hR hg3;simp only[arT]at RA;obtain⟨hg0,hg1,hg2,hg3⟩:=And.intro HG0.out (And.intro HG1.out (And.intro HG2.out HG3.out));rw[ao0 0 (by omega),HGS.out]at hg0;rw[ao0 1 (by omega),HGS.out]at hg1;rw[ao0 2 (by omega),HGS.out]at hg2;rw[apK,HGS.out]at hg3;obtain⟨p0,c0,rfl⟩:=hg0.slice;obtain⟨p1,c1,rfl⟩:=hg1.slice;obtain⟨p2,c2,rfl⟩:=hg2.slice;obtain⟨p3,c3,rfl⟩:=hg3.slice;rw[List.length_reverse]at hg3|-;obtain⟨M,HCC⟩:∃M,Hid (RkC (bs w) g M K gs p0 p1 p2 p3 c0 c1 c2 c3 wg3):=⟨_,hdd ⟨_,_,_,_,hg0,hg1,hg2,hg3,RA.out⟩⟩;clear hg0 hg1 hg2 hg3 HG0 HG1 HG2 HG3 RA HQ HGS hn hnn hn6;go_wp2_with fail
      go_loopw [21] (fun i wr=>∃m:Nat,m<=gs.length/\i=.int .i64 (m:Int)/\Hid (RkC (bs w) g M K gs p0 p1 p2 p3 c0 c1 c2 c3 wr)) (fun i _=>((gs.length:Int)-intOf i).toNat)
      case atStart=>exact⟨0,arZ _,rfl,HCC⟩
      case round=>
       obtain⟨i,hi,rfl,HF⟩:=hrel;clear HCC;rcases arW i gs.length with hlt|hge
       . obtain⟨o,ho⟩:∃o,gs[i]? =some o:=⟨_,arR hlt⟩
         have hoI:(o.length:Int)<=6:=by have:=HGN.out o (List.mem_of_getElem? ho);have:=HN6.out;omega
         obtain⟨⟨r0,q0,e0,rfl,x0,-⟩,⟨r1,q1,e1,rfl,x1,-⟩,⟨r2,q2,e2,rfl,x2,-⟩,⟨r3,q3,e3,rfl,x3,-⟩⟩:=HF.out.row ho;obtain⟨t,ht⟩:∃t:Nat,gs.length-1-i=t:=⟨_,rfl⟩;rw[ht]at x3;obtain⟨B,hB⟩:∃B:Int,(gs.length:Int)-1=B:=⟨_,rfl⟩;have hw1:IntKind.i64.wrap ((gs.length:Int)-1)=B:=by rw[arU _ (by omega)];exact hB
         have hw2:IntKind.i64.wrap (B-(i:Int))=(t:Int):=by rw[arU _ (by omega)];omega
         have htI:(t:Int)<(gs.length:Int):=by omega
         have ht0:(0:Int)<=(t:Int):=by omega
         have hiI:(i:Int)<(gs.length:Int):=by omega
         have hi0:(0:Int)<=(i:Int):=by omega
         have HO:=hdd ho;have HT:=hdd ht;have HLT:=hdd hlt;have HB:=hdd hB;clear ho ht hlt hi hB;go_wp2_with fail
         go_quiet (fail)
         have HF2:=hdd (HF.out.drewN nq);clear x0 x1 x2 x3 HF;generalize wr.drewN nq=wa at HF2|-;go_wp2_with fail
         go_loopw [22] (fun j wr=>∃u:Nat,u<=o.length/\j=.int .i64 (u:Int)/\Hid (RkC (bs w) g M K gs (some ⟨r0,0,none⟩) (some ⟨r1,0,none⟩) (some ⟨r2,0,none⟩) (some ⟨r3,0,none⟩) c0 c1 c2 c3 wr)) (fun j _=>((o.length:Int)-intOf j).toNat)
         case atStart=>exact⟨0,arZ _,rfl,HF2⟩
         case round=>
          obtain⟨u,hu,rfl,HI⟩:=hrel;clear HF2;obtain⟨⟨r0',q0,e0,z0,x0,y0⟩,⟨r1',q1,e1,z1,x1,y1⟩,⟨r2',q2,e2,z2,x2,y2⟩,⟨r3',q3,e3,z3,x3,y3⟩⟩:=HI.out.row HO.out;rw[HT.out]at x3;simp only[Option.some.injEq,Addr.mk.injEq,and_true]at z0 z1 z2 z3;subst z0 z1 z2 z3;rcases arW u o.length with hlt|hge
          . obtain⟨x,hx⟩:∃x,o[u]? =some x:=⟨_,arR hlt⟩
            obtain⟨a0,rfl,y0⟩:=y0 u x hx;obtain⟨a1,rfl,y1⟩:=y1 u x hx;obtain⟨a2,rfl,y2⟩:=y2 u x hx;obtain⟨a3,rfl,y3⟩:=y3 u x hx;have huI:(u:Int)<(o.length:Int):=by omega
            have hu0:(0:Int)<=(u:Int):=by omega
            have HLT2:=hdd hlt;clear hlt hu hx;go_wp2_with fail
            go_quiet (fail)
            have HI2:=hdd (HI.out.drewN nq);clear x0 x1 x2 x3 y0 y1 y2 y3 HI;go_wp2_with fail
            go_roundw
            case rel=>exact⟨u+1,by have:=HLT2.out;omega,by go_num,HI2⟩
            case measure=>have:=HLT2.out;simp[intOf];omega
          . clear y0 y1 y2 y3 x1 x2 x3
            have hue:u=o.length:=by omega
            subst hue;clear hu hge;go_wp2_with fail
            go_roundw
            case rel=>exact⟨i+1,by have:=HLT.out;omega,by go_num,HI⟩
            case measure=>have:=HLT.out;simp[intOf];omega
       . have hie:i=gs.length:=by omega
         subst hie;clear hi hge;obtain⟨l0,l1,l2,l3,-,-,-,-,hR⟩:=HF.out;have HB:=hdd (Run.below hR);clear hR HF;go_wp2;go_ret;exact⟨rfl,HB.out⟩
end Go.Proofs.YtebdolonckjpiaaGreatDoor
