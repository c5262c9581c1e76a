/- A part of the proof: contracts of functions and plain laws (OwR, ArA, ArB, ArC, ArD, HelB, ArE). -/
import Derived.Test.YtjdgaogkioabeaaGreatDoorM20
import Derived.Test.YtjdgaogkioabeaaGreatDoorM18
import Derived.Test.YtjdgaogkioabeaaGreatDoorM19
import Derived.Test.YtjdgaogkioabeaaGreatDoorM07
import Derived.Deep.RegionHeld3
import Derived.Test.YtjdgaogkioabeaaGreatDoorM32
set_option linter.unusedVariables false
set_option linter.unusedSimpArgs false
set_option maxHeartbeats 25600000
set_option maxRecDepth 100000
namespace Go.Proofs.YtjdgaogkioabeaaGreatDoor
open Go.RowKit Go.Maps
open List renaming mem_cons_self->bjJ
variable{c:Nat}{p:Option Addr}
theorem frzI{w:World}{b:Nat}{T:TypeId}{cs:Array Value}(h:w.heap[b]? =some (.cells cs T (0,0)))(k:Nat):w.frozen? ⟨b,k,none⟩=false:=by simp[World.frozen?,h]
theorem Run.subl {s:Bs}{g N:Nat}{K:List (Ex×Nat)}{l l':List (Nat×Obj)}{W:World}(h:Run s g N K l W)(hs:l'.Sublist l):Run s g N K l' W:=h.sub (fun _ hp=>hs.subset hp) (h.nodup.sublist (hs.map _))
def OwnR(T:TypeId)(sz:Nat)(v:Value)(n:Nat)(xs:List Value)(lr:List (Nat×Obj)):Prop:=
 xs.length=n*sz/\((v=.slice none 0 0/\n=0/\lr=[])\/∃(r cap:Nat) (cur:Array Value),v=.slice (some ⟨r,0,none⟩) n cap/\lr=[(r,.cells cur T)]/\n<=cap/\cap<=maxLen/\cur.size=cap*sz/\cur.toList.take (n*sz)=xs)
theorem OwnR.nil (T:TypeId)(sz:Nat):OwnR T sz (.slice none 0 0) 0 [] []:=⟨by simp,Or.inl ⟨rfl,rfl,rfl⟩⟩
section
variable{s:Bs}{g N n n' sz g0 cap:Nat}{K:List (Ex×Nat)}{L lr:List (Nat×Obj)}{W w':World}{v:Value}{xs xs':List Value}{T:TypeId}
theorem OwnR.slice (h:OwnR T sz v n xs lr):∃p c,v=.slice p n c:=by
 rcases h.2 with ⟨rfl,rfl,-⟩|⟨r,c,cur,rfl,-⟩
 . exact⟨none,0,rfl⟩
 . exact⟨_,_,rfl⟩
theorem OwnR.own (h:OwnR T sz v n xs lr)(hR:Run s g N K (lr++L) W):W.ownsRow 0 T sz v n xs:=by
 refine⟨h.1,?_⟩;rcases h.2 with ⟨rfl,rfl,-⟩|⟨r,c,cur,rfl,rfl,h1,h2,h3,h4⟩
 . exact .inl ⟨rfl,rfl⟩
 . exact .inr ⟨r,c,cur,rfl,Nat.zero_le _,hR.at (bjJ ..),h1,h2,h3,h4⟩
theorem OwnR.grow (h:OwnR T sz v n xs lr)(hR:Run s g N K (lr++L) W)(hown:w'.ownsRow 0 T sz (.slice (some ⟨g0,0,none⟩) n' cap) n' xs')(hg:W.grownBy w' v.ownBlock)(hat:v.ownBlock=some g0\/g0=W.heap.size):
 ∃lr',OwnR T sz (.slice (some ⟨g0,0,none⟩) n' cap) n' xs' lr'/\Run s g N K (lr'++L) w':=by
 obtain⟨hx,hy⟩:=hown;rcases hy with ⟨e,-⟩|⟨g1,c1,cur,e,-,hgg,h1,h2,h3,h4⟩
 . simp at e
 . simp only[Value.slice.injEq,Option.some.injEq,Addr.mk.injEq]at e
   obtain⟨⟨rfl,-⟩,-,rfl⟩:=e;refine⟨[(g0,.cells cur T)],⟨hx,Or.inr ⟨g0,cap,cur,rfl,rfl,h1,h2,h3,h4⟩⟩,?_⟩;rcases h.2 with ⟨rfl,-,rfl⟩|⟨r,c,cur',rfl,rfl,-⟩
   . rcases hat with e|rfl
     . simp[Value.ownBlock]at e
     . exact Run.keep hR ⟨hg.os,hg.tape,hg.output,hg.size,fun b hb=>hg.block b hb (by simp[Value.ownBlock])⟩ hgg nlr
   . rcases hat with e|rfl
     . obtain rfl:r=g0:=by simpa[Value.ownBlock]using e
       exact Run.write hR hg hgg
     . have hl:=hR.at (bjJ ..)
       obtain⟨o',ho'⟩:∃o',w'.heap[r]? =some o':=⟨_,Array.getElem?_eq_getElem (Nat.lt_of_lt_of_le (aH hl) hg.size)⟩;have h5:=Run.board (ln:=[(W.heap.size,.cells cur T)]) hR hg ho' (fun p hp=>by
        obtain rfl:=List.mem_singleton.1 hp;exact⟨hgg,Nat.le_refl _⟩) nlr
       exact h5.sub (fun p hp=>List.mem_cons_of_mem _ hp) (List.nodup_cons.1 (by have:=h5.nodup;rwa[List.map_cons]at this)).2
end
section
variable{s:Bs}{g N n sz:Nat}{K:List (Ex×Nat)}{L lr:List (Nat×Obj)}{W:World}{v:Value}{xs:List Value}{T:TypeId}
theorem OwnR.cellW {q:Nat}{u:Value}(h:OwnR T sz (.slice p n c) n xs lr)(hR:Run s g N K (lr++L) W)(hu:xs[q]? =some u):∃r,p=some ⟨r,0,none⟩/\W.cell? ⟨r,q,none⟩=some u:=by
 rcases h.2 with ⟨e,e2,-⟩|⟨r',cap,cur,e,rfl,h1,h2,h3,h4⟩
 . have:=h.1
   have:=(List.getElem?_eq_some_iff.1 hu).1;simp only[e2,Nat.zero_mul]at*;omega
 . simp only[Value.slice.injEq]at e
   refine⟨r',e.1,aA (cs:=cur.toList) (by simpa using hR.at (bjJ ..)) ?_⟩;rw[<-h4,List.getElem?_take]at hu
   split at hu
   . exact hu
   . cases hu
end
def spL(g:Nat):List (Nat×Nat)->List Value
 |[]=>[]
 |p::ps=>.pointer (some ⟨g,0,none⟩)::.int .i64 (p.1:Int)::.pointer (some ⟨g,0,none⟩)::.int .i64 (p.2:Int)::spL g ps
theorem am4{g:Nat}{q:Nat×Nat}:∀{ps:List (Nat×Nat)} {j:Nat},ps[j]? =some q->(spL g ps)[j*4]? =some (.pointer (some ⟨g,0,none⟩))/\(spL g ps)[j*4+1]? =some (.int .i64 (q.1:Int))/\(spL g ps)[j*4+2]? =some (.pointer (some ⟨g,0,none⟩))/\(spL g ps)[j*4+3]? =some (.int .i64 (q.2:Int))
 |[],_,h=>by simp at h
 |p::ps,0,h=>by
  obtain rfl:p=q:=by simpa using h
  exact⟨rfl,rfl,rfl,rfl⟩
 |p::ps,j+1,h=>by
  have:=am4 (g:=g) (show ps[j]? =some q by simpa using h);rw[show(j+1)*4=j*4+1+1+1+1 by omega];exact this
section
variable{s:Bs}{g N n sz:Nat}{K:List (Ex×Nat)}{L lr:List (Nat×Obj)}{W:World}{v:Value}{xs:List Value}{T:TypeId}
theorem OwnR.spot {j:Nat}{q:Nat×Nat}{ps:List (Nat×Nat)}(h:OwnR 36 4 (.slice p n c) n (spL g ps) lr)(hR:Run s g N K (lr++L) W)(hx:ps[j]? =some q):
 ∃r,p=some ⟨r,0,none⟩/\W.cell? ⟨r,j*4,none⟩=some (.pointer (some ⟨g,0,none⟩))/\W.cell? ⟨r,j*4+1,none⟩=some (.int .i64 (q.1:Int))/\W.cell? ⟨r,j*4+2,none⟩=some (.pointer (some ⟨g,0,none⟩))/\W.cell? ⟨r,j*4+3,none⟩=some (.int .i64 (q.2:Int)):=by
 obtain⟨h0,h1,h2,h3⟩:=am4 (g:=g) hx;obtain⟨r,rfl,k0⟩:=h.cellW hR h0;obtain⟨_,e1,k1⟩:=h.cellW hR h1;obtain⟨_,e2,k2⟩:=h.cellW hR h2;obtain⟨_,e3,k3⟩:=h.cellW hR h3;simp only[Option.some.injEq,Addr.mk.injEq,and_true]at e1 e2 e3;subst e1 e2 e3;exact⟨r,rfl,k0,k1,k2,k3⟩
end
end Go.Proofs.YtjdgaogkioabeaaGreatDoor
namespace Go.Proofs.YtjdgaogkioabeaaGreatDoor
open Go.RowKit Go.Maps Go.Stop Go.Extern
open Bool renaming false_or->bjL,false_and->bjM,true_or->bjO,true_and->bjQ
open Go.Instr renaming index->bjN
open List renaming sublist_cons_self->bjK,mem_cons_of_mem->bjP
variable{b li r:Bool}{q:Int}
section
variable{s:Bs}{g N d:Nat}{K K0:List (Ex×Nat)}{L:List (Nat×Obj)}{W:World}{f:FuncId}{av:Array Value}{v:Value}
theorem Run.box1 (hR:Run s g N K L W)(o1:Obj):∃w1,W.alloc o1=w1/\w1.heap[W.heap.size]? =some o1/\Run s g N K ((W.heap.size,o1)::L) w1:=⟨_,rfl,heap_alloc_new W o1,hR.alloc o1⟩
theorem Run.box2 (hR:Run s g N K L W)(o1 o2:Obj):∃w2,(W.alloc o1).alloc o2=w2/\w2.heap[W.heap.size]? =some o1/\w2.heap[W.heap.size+1]? =some o2/\Run s g N K ((W.heap.size+1,o2)::(W.heap.size,o1)::L) w2:=by
 obtain⟨w2,rfl,-,-,b1,b2⟩:=pro2 W o1 o2;refine⟨_,rfl,b1,b2,?_⟩;have:=(hR.alloc o1).alloc o2;rwa[show(W.alloc o1).heap.size=W.heap.size+1 by simp]at this
theorem FnOk.use (F:FnOk f g d av K0 (fun _=>v) [])(hR:Run s g N K L W)(hN:N+d<=20000)(hK:∀p∈K0,p∈K):Calls Tryz.prog f av W (fun e W'=>e=.returned v/\Run s g (N+d) K L W'):=
 (F s N K L W hR hN hK).mono fun _ _ ⟨_,_,h1,h2⟩=>⟨h1,h2⟩
theorem RtN.out (hR:Run s g N K L W):RtN s g N K L (fun _=>v) [] (.returned v) W:=⟨[],rfl,rfl,hR⟩
theorem RetV.run {c:World->Prop}(hR:Run s g N K L W)(h:Calls Tryz.prog f av W (RetV W v)):Calls Tryz.prog f av W (fun e W'=>e=.returned v/\Run s g N K L W'):=h.mono fun _ _ ⟨h1,h2⟩=>⟨h1,hR.step h2⟩
end
abbrev aN(g:Nat)(kd:Int)(ca cb cc i j k l:Nat):Value:=.agg #[.int .i64 kd,.float .f64 ca,.float .f64 cb,.float .f64 cc,.pointer (some ⟨g,0,none⟩),.int .i64 (i:Int),.pointer (some ⟨g,0,none⟩),.int .i64 (j:Int),.pointer (some ⟨g,0,none⟩),.int .i64 (k:Int),.pointer (some ⟨g,0,none⟩),.int .i64 (l:Int)]
abbrev dD(g:Nat)(kd:Int)(ca cb cc i j k l:Nat):Obj:=.cells #[.int .i64 kd,.float .f64 ca,.float .f64 cb,.float .f64 cc,.pointer (some ⟨g,0,none⟩),.int .i64 (i:Int),.pointer (some ⟨g,0,none⟩),.int .i64 (j:Int),.pointer (some ⟨g,0,none⟩),.int .i64 (k:Int),.pointer (some ⟨g,0,none⟩),.int .i64 (l:Int)] 38
theorem ixs0(a0 a1 a2 a3 a4 a5 a6 a7:Value)(w:World):(bjN 82 (.agg #[a0,a1,a2,a3,a4,a5,a6,a7]) (.int .i64 0)).run Tryz.prog w=.ok (.agg #[a0,a1,a2,a3]) w:=by kernel_rfl
theorem ixs1(a0 a1 a2 a3 a4 a5 a6 a7:Value)(w:World):(bjN 82 (.agg #[a0,a1,a2,a3,a4,a5,a6,a7]) (.int .i64 1)).run Tryz.prog w=.ok (.agg #[a4,a5,a6,a7]) w:=by kernel_rfl
def chkA(b:Bool):Value:=if b then .nilIface else .iface 99 (.int .i64 4)
section
variable{g i j k l m n ca cb cc:Nat}{kd:Int}{A1 A2 B1 B2 X1 X2 E:Ex}
theorem ahD(hk:(kd==1)=li)(hM:∀w,Calls Tryz.prog 27 #[curV kd ca cb cc] w (RetV w .nilIface))(hV:FnOk (cond li 47 49) g 9 #[.pointer (some ⟨g,0,none⟩),curV kd ca cb cc,bE g i j] [(X1,i),(X2,j)] (fun ks=>numV g (ks.getD 0 0)) [E])(hS:fT PT E q):
 FnOk 29 g 9 #[.pointer (some ⟨g,0,none⟩),curV kd ca cb cc,bE g i j] [(X1,i),(X2,j)] (fun _=>.tuple #[.int .i64 q,.nilIface]) []:=fun s N K L W hR hN hK=>by
 obtain⟨w1,hw1,b1,b2,R1⟩:=hR.box2 (curO kd ca cb cc) (eG g i j);obtain⟨x0,x1,x2,x3⟩:=aG b1;have HC:=hdd (RetV.run (c:=fun _=>True) R1 (hM w1));have HV:=hdd hV;have HS:=hdd hS;have HN:=hdd hN;have HK:=hdd hK;clear b1 b2 R1 hR hM hV hS hN hK;go_enter Tryz.func29,Tryz.ntmps29
 go_wp2_with fail
 refine HC.out.mono ?_;rintro e w2⟨rfl,hR⟩;obtain⟨x0,x1,x2,x3⟩:=aG (hR.at m1);obtain⟨y0,y1,y2,y3⟩:=aG (hR.at m0);have HC:=hdd (HV.out _ _ _ _ _ hR HN.out HK.out);clear hR HV
 cases li
 all_goals
  go_wp2_with fail
  refine HC.out.mono ?_;rintro e w3⟨ks,hl,rfl,hR⟩;obtain⟨k1,rfl⟩:∃k,ks=[k]:=by
   match ks,hl with
   |[k],_=>exact⟨k,rfl⟩
  have HC:=hdd (hR.sign (List.mem_cons_self ..) HS.out);clear hR;go_wp2_with fail
  refine HC.out.mono ?_;rintro e w4⟨rfl,hR⟩;replace hR:=hR.few (K':=K) (fun p hp=>bjP _ hp);have HF:=hdd (RtN.out (v:=.tuple #[.int .i64 q,.nilIface]) ((hR.subl ((bjK _ _).trans (bjK _ _))).more (show _<=N+9 by omega)));clear hR;go_wp2
  go_ret2
  exact HF.out
theorem afQ{s1 s2:Int}{t:Bool}(hM:∀w,Calls Tryz.prog 27 #[curV kd ca cb cc] w (RetV w .nilIface))
 (h1:FnOk 29 g 9 #[.pointer (some ⟨g,0,none⟩),curV kd ca cb cc,bE g i j] [(A1,i),(A2,j)] (fun _=>.tuple #[.int .i64 s1,.nilIface]) []) (h2:FnOk 29 g 9 #[.pointer (some ⟨g,0,none⟩),curV kd ca cb cc,bE g k l] [(B1,k),(B2,l)] (fun _=>.tuple #[.int .i64 s2,.nilIface]) [])
 (hT:(kd==2)=true/\(FloatKind.f64.format.order cc 0==some Ordering.eq)=false/\t=true\/(kd==2)=false/\∃c,iK PT A1 A2 B1 B2 c/\(c==0)= !t):
 FnOk 14 g 20 #[.pointer (some ⟨g,0,none⟩),aN g kd ca cb cc i j k l] [(A1,i),(A2,j),(B1,k),(B2,l)] (fun _=>chkA (s1==0&&s2==0&&t)) []:=fun s N K L W hR hN hK=>by
 obtain⟨w1,hw1,b1,R1⟩:=hR.box1 (dD g kd ca cb cc i j k l);obtain⟨x0,x1,x2,x3,x4,x5,x6,x7,x8,x9,x10,x11⟩:=aF b1;have HC:=hdd (RetV.run (c:=fun _=>True) R1 (hM w1));have O1:=hdd h1;have O2:=hdd h2;have HT:=hdd hT;have HN:=hdd hN;have HK:=hdd hK;clear b1 R1 hR hM h1 h2 hT hN hK;go_enter Tryz.func14,Tryz.ntmps14
 go_wp2_with fail
 refine HC.out.mono ?_;rintro e w2⟨rfl,hR⟩;obtain⟨x0,x1,x2,x3,x4,x5,x6,x7,x8,x9,x10,x11⟩:=aF (hR.at m0);have HR:=hdd hR;have ix0:=ixs0;have ix1:=ixs1;clear hR;go_wp2_with fail
 refine wp_loop_rounds 3 ?_;have hR:=HR.out;clear HR;obtain⟨w3,hw3,b1,hR⟩:=hR.box1 (eG g i j);obtain⟨x0,x1,x2,x3,x4,x5,x6,x7,x8,x9,x10,x11⟩:=aF (hR.at m1);obtain⟨y0,y1,y2,y3⟩:=aG b1;have HC:=hdd (O1.out.use hR (by have:=HN.out;omega) (fun p hp=>HK.out p ((dF [0,1]) p hp)));clear hR b1;rw[rounds_succ];go_wp2_with fail
 refine HC.out.mono ?_;rintro e w4⟨rfl,hR⟩
 cases e1:(s1==0)
 . have HC:=hdd (RetV.run (c:=fun _=>True) hR (nM (w:=_)))
   clear hR;go_wp2_with fail
   refine HC.out.mono ?_;rintro e wz⟨rfl,hR⟩;have HF:Hid (RtN s g (N+20) K L (fun _=>chkA (s1==0&&s2==0&&t)) [] (.returned (.iface 99 (.int .i64 4))) wz):=hdd (by rw[e1,bjM,bjM];exact RtN.out (v:=.iface 99 (.int .i64 4)) ((hR.subl ((bjK _ _).trans (bjK _ _))).more (by omega)));clear hR;go_wp2;go_ret;exact HF.out
 go_wp2_with fail
 obtain⟨w5,hw5,b1,hR⟩:=hR.box1 (eG g k l);obtain⟨x0,x1,x2,x3,x4,x5,x6,x7,x8,x9,x10,x11⟩:=aF (hR.at m2);obtain⟨y0,y1,y2,y3⟩:=aG b1;have HC:=hdd (O2.out.use hR (by have:=HN.out;omega) (fun p hp=>HK.out p ((dF [2,3]) p hp)));clear hR b1;rw[rounds_succ];go_wp2_with fail
 refine HC.out.mono ?_;rintro e w6⟨rfl,hR⟩
 cases e2:(s2==0)
 . have HC:=hdd (RetV.run (c:=fun _=>True) hR (nM (w:=_)))
   clear hR;go_wp2_with fail
   refine HC.out.mono ?_;rintro e wz⟨rfl,hR⟩;have HF:Hid (RtN s g (N+20) K L (fun _=>chkA (s1==0&&s2==0&&t)) [] (.returned (.iface 99 (.int .i64 4))) wz):=hdd (by rw[e1,e2,bjQ,bjM];exact RtN.out (v:=.iface 99 (.int .i64 4)) ((hR.subl ((bjK _ _).trans ((bjK _ _).trans (bjK _ _)))).more (by omega)));clear hR;go_wp2;go_ret;exact HF.out
 obtain⟨x0,x1,x2,x3,x4,x5,x6,x7,x8,x9,x10,x11⟩:=aF (hR.at m2);rcases HT.out with ⟨t1,t2,rfl⟩|⟨t1,c,hc,hct⟩
 . have HF:Hid (RtN s g (N+20) K L (fun _=>chkA (s1==0&&s2==0&&true)) [] (.returned (.nilIface)) w6):=hdd (by rw[e1,e2];exact RtN.out (v:=.nilIface) ((hR.subl ((bjK _ _).trans ((bjK _ _).trans (bjK _ _)))).more (by omega)))
   clear hR HT;go_wp2_with fail
   rw[rounds_succ];go_wp2;go_ret;exact HF.out
 . have HC:=hdd (hR.same (by have:=HN.out;omega) (HK.out _ m0) (HK.out _ m1) (HK.out _ m2) (HK.out _ m3) hc)
   clear hR HT hc;go_wp2_with fail
   rw[rounds_succ];go_wp2_with fail
   refine HC.out.mono ?_;rintro e w7⟨rfl,hR⟩
   cases t
   . have HC:=hdd (RetV.run (c:=fun _=>True) hR (nM (w:=_)))
     clear hR;go_wp2_with fail
     refine HC.out.mono ?_;rintro e wz⟨rfl,hR⟩;have HF:Hid (RtN s g (N+20) K L (fun _=>chkA (s1==0&&s2==0&&false)) [] (.returned (.iface 99 (.int .i64 4))) wz):=hdd (by rw[e1,e2];exact RtN.out (v:=.iface 99 (.int .i64 4)) ((hR.subl ((bjK _ _).trans ((bjK _ _).trans (bjK _ _)))).more (by omega)));clear hR;go_wp2;go_ret;exact HF.out
   . have HF:Hid (RtN s g (N+20) K L (fun _=>chkA (s1==0&&s2==0&&true)) [] (.returned (.nilIface)) w7):=hdd (by rw[e1,e2];exact RtN.out (v:=.nilIface) ((hR.subl ((bjK _ _).trans ((bjK _ _).trans (bjK _ _)))).more (by omega)))
     clear hR;go_wp2;go_ret;exact HF.out
theorem am5(hk:(kd==1)=li)(hO:FnOk 29 g 9 #[.pointer (some ⟨g,0,none⟩),curV kd ca cb cc,bE g m n] [(X1,m),(X2,n)] (fun _=>.tuple #[.int .i64 q,.nilIface]) [])(hB:FnOk (cond li 78 79) g 13 #[bE g i j,bE g k l,bE g m n] [(A1,i),(A2,j),(B1,k),(B2,l),(X1,m),(X2,n)] (fun _=>.tuple #[.bool r,.nilIface]) []):
 FnOk 60 g 22 #[.pointer (some ⟨g,0,none⟩),aN g kd ca cb cc i j k l,bE g m n] [(A1,i),(A2,j),(B1,k),(B2,l),(X1,m),(X2,n)] (fun _=>.tuple #[.bool (q==0&&r),.nilIface]) []:=fun s N K L W hR hN hK=>by
 obtain⟨w1,hw1,b1,b2,R1⟩:=hR.box2 (dD g kd ca cb cc i j k l) (eG g m n);obtain⟨x0,x1,x2,x3,x4,x5,x6,x7,x8,x9,x10,x11⟩:=aF b1;obtain⟨y0,y1,y2,y3⟩:=aG b2;have HC:=hdd (hO.use R1 (by omega) (fun p hp=>hK p ((dF [4,5]) p hp)));have HB:=hdd hB;have HN:=hdd hN;have HK:=hdd hK;clear b1 b2 R1 hR hO hB hN hK;go_enter Tryz.func60,Tryz.ntmps60
 go_wp2_with fail
 refine HC.out.mono ?_;rintro e w2⟨rfl,hR⟩
 cases e1:(q==0)
 . have HF:Hid (RtN s g (N+22) K L (fun _=>.tuple #[.bool (q==0&&r),.nilIface]) [] (.returned (.tuple #[.bool false,.nilIface])) w2):=hdd (by rw[e1];exact RtN.out (v:=.tuple #[.bool false,.nilIface]) ((hR.subl ((bjK _ _).trans (bjK _ _))).more (by omega)))
   clear hR HB;go_wp2
   go_ret2
   exact HF.out
 obtain⟨x0,x1,x2,x3,x4,x5,x6,x7,x8,x9,x10,x11⟩:=aF (hR.at m1);obtain⟨y0,y1,y2,y3⟩:=aG (hR.at m0);have HC:=hdd (HB.out.use hR (by have:=HN.out;omega) HK.out);clear hR HB
 cases li
 all_goals
  go_wp2_with fail
  refine HC.out.mono ?_;rintro e w3⟨rfl,hR⟩;have HF:Hid (RtN s g (N+22) K L (fun _=>.tuple #[.bool (q==0&&r),.nilIface]) [] (.returned (.tuple #[.bool r,.nilIface])) w3):=hdd (by rw[e1];exact RtN.out (v:=.tuple #[.bool r,.nilIface]) ((hR.subl ((bjK _ _).trans (bjK _ _))).more (by omega)));clear hR;go_wp2
  go_ret2
  exact HF.out
theorem ajE(hC:FnOk 14 g 20 #[.pointer (some ⟨g,0,none⟩),aN g kd ca cb cc i j k l] [(A1,i),(A2,j),(B1,k),(B2,l)] (fun _=>.nilIface) [])(hH:FnOk 60 g 22 #[.pointer (some ⟨g,0,none⟩),aN g kd ca cb cc i j k l,bE g m n] [(A1,i),(A2,j),(B1,k),(B2,l),(X1,m),(X2,n)] (fun _=>.tuple #[.bool r,.nilIface]) []):
 FnOk 39 g 42 #[.pointer (some ⟨g,0,none⟩),aN g kd ca cb cc i j k l,bE g m n] [(A1,i),(A2,j),(B1,k),(B2,l),(X1,m),(X2,n)] (fun _=>.tuple #[.bool r,.nilIface]) []:=fun s N K L W hR hN hK=>by
 obtain⟨w1,hw1,b1,b2,R1⟩:=hR.box2 (dD g kd ca cb cc i j k l) (eG g m n);obtain⟨x0,x1,x2,x3,x4,x5,x6,x7,x8,x9,x10,x11⟩:=aF b1;obtain⟨y0,y1,y2,y3⟩:=aG b2;have HC:=hdd (hC.use R1 (by omega) (fun p hp=>hK p ((dF [0,1,2,3]) p hp)));have HB:=hdd hH;have HN:=hdd hN;have HK:=hdd hK;clear b1 b2 R1 hR hC hH hN hK;go_enter Tryz.func39,Tryz.ntmps39
 go_wp2_with fail
 refine HC.out.mono ?_;rintro e w2⟨rfl,hR⟩;obtain⟨x0,x1,x2,x3,x4,x5,x6,x7,x8,x9,x10,x11⟩:=aF (hR.at m1);obtain⟨y0,y1,y2,y3⟩:=aG (hR.at m0);have HC:=hdd (HB.out.use hR (by have:=HN.out;omega) HK.out);clear hR HB;go_wp2_with fail
 refine HC.out.mono ?_;rintro e w3⟨rfl,hR⟩;have HF:=hdd (RtN.out (v:=.tuple #[.bool r,.nilIface]) ((hR.subl ((bjK _ _).trans (bjK _ _))).more (show _<=N+42 by omega)));clear hR;go_wp2
 go_ret2
 exact HF.out
end
theorem ixr0(a0 a1 a2 a3 a4 a5 a6 a7 a8 a9 a10 a11 a12 a13 a14 a15 a16 a17 a18 a19 a20 a21 a22 a23:Value)(w:World):(bjN 161 (.agg #[a0,a1,a2,a3,a4,a5,a6,a7,a8,a9,a10,a11,a12,a13,a14,a15,a16,a17,a18,a19,a20,a21,a22,a23]) (.int .i64 0)).run Tryz.prog w=.ok (.agg #[a0,a1,a2,a3,a4,a5,a6,a7]) w:=by kernel_rfl
theorem ixr1(a0 a1 a2 a3 a4 a5 a6 a7 a8 a9 a10 a11 a12 a13 a14 a15 a16 a17 a18 a19 a20 a21 a22 a23:Value)(w:World):(bjN 161 (.agg #[a0,a1,a2,a3,a4,a5,a6,a7,a8,a9,a10,a11,a12,a13,a14,a15,a16,a17,a18,a19,a20,a21,a22,a23]) (.int .i64 1)).run Tryz.prog w=.ok (.agg #[a8,a9,a10,a11,a12,a13,a14,a15]) w:=by kernel_rfl
theorem ixr2(a0 a1 a2 a3 a4 a5 a6 a7 a8 a9 a10 a11 a12 a13 a14 a15 a16 a17 a18 a19 a20 a21 a22 a23:Value)(w:World):(bjN 161 (.agg #[a0,a1,a2,a3,a4,a5,a6,a7,a8,a9,a10,a11,a12,a13,a14,a15,a16,a17,a18,a19,a20,a21,a22,a23]) (.int .i64 2)).run Tryz.prog w=.ok (.agg #[a16,a17,a18,a19,a20,a21,a22,a23]) w:=by kernel_rfl
theorem afR{g i j k l m n:Nat}{A1 A2 B1 B2 X1 X2:Ex}{c1 c2 c3:Int}(h1:iK PT A1 A2 B1 B2 c1)(h2:iK PT X1 X2 A1 A2 c2)(h3:iK PT X1 X2 B1 B2 c3)(h4:aa7 PT A1 A2 X1 X2 B1 B2 q):
 FnOk 79 g 13 #[bE g i j,bE g k l,bE g m n] [(A1,i),(A2,j),(B1,k),(B2,l),(X1,m),(X2,n)] (fun _=>.tuple #[.bool ((c1==0)||(c2==0)||(c3==0)||(q==1)),.nilIface]) []:=fun s N K L W hR hN hK=>by
 obtain⟨w1,hw1,-,-,R1⟩:=hR.box2 (eG g i j) (eG g k l);obtain⟨w2,hw2,-,hR⟩:=R1.box1 (eG g m n);obtain⟨x0,x1,x2,x3⟩:=aG (hR.at m2);obtain⟨y0,y1,y2,y3⟩:=aG (hR.at m1);obtain⟨z0,z1,z2,z3⟩:=aG (hR.at m0);have HR:=hdd hR;have H1:=hdd h1;have H2:=hdd h2;have H3:=hdd h3;have H4:=hdd h4;have HN:=hdd hN;have HK:=hdd hK;have ix0:=ixr0;have ix1:=ixr1;have ix2:=ixr2;clear R1 hR h1 h2 h3 h4 hN hK;go_enter Tryz.func79,Tryz.ntmps79
 go_wp2_with fail
 refine wp_loop_rounds 4 ?_;have hR:=HR.out;clear HR;obtain⟨w3,hw3,b1,hR⟩:=hR.box1 (.cells #[.pointer (some ⟨g,0,none⟩),.int .i64 (i:Int),.pointer (some ⟨g,0,none⟩),.int .i64 (j:Int),.pointer (some ⟨g,0,none⟩),.int .i64 (k:Int),.pointer (some ⟨g,0,none⟩),.int .i64 (l:Int)] 82);obtain⟨u0,u1,u2,u3,u4,u5,u6,u7⟩:=kQ b1;have HC:=hdd (hR.same (by have:=HN.out;omega) (HK.out _ m0) (HK.out _ m1) (HK.out _ m2) (HK.out _ m3) H1.out);clear hR b1;rw[rounds_succ];go_wp2_with fail
 refine HC.out.mono ?_;rintro e w4⟨rfl,hR⟩
 cases e1:(c1==0)
 case' true=>
  have HF:Hid (RtN s g (N+13) K L (fun _=>.tuple #[.bool ((c1==0)||(c2==0)||(c3==0)||(q==1)),.nilIface]) [] (.returned (.tuple #[.bool true,.nilIface])) w4):=hdd (by simp only[e1,bjL,bjO];exact RtN.out (v:=.tuple #[.bool true,.nilIface]) ((hR.subl ((bjK _ _).trans ((bjK _ _).trans ((bjK _ _).trans (bjK _ _))))).more (by omega)));clear hR;go_wp2
  go_ret2
  exact HF.out
 go_wp2_with fail
 obtain⟨w5,hw5,b1,hR⟩:=hR.box1 (.cells #[.pointer (some ⟨g,0,none⟩),.int .i64 (m:Int),.pointer (some ⟨g,0,none⟩),.int .i64 (n:Int),.pointer (some ⟨g,0,none⟩),.int .i64 (i:Int),.pointer (some ⟨g,0,none⟩),.int .i64 (j:Int)] 82);obtain⟨u0,u1,u2,u3,u4,u5,u6,u7⟩:=kQ b1;have HC:=hdd (hR.same (by have:=HN.out;omega) (HK.out _ m4) (HK.out _ m5) (HK.out _ m0) (HK.out _ m1) H2.out);clear hR b1;rw[rounds_succ];go_wp2_with fail
 refine HC.out.mono ?_;rintro e w6⟨rfl,hR⟩
 cases e2:(c2==0)
 case' true=>
  have HF:Hid (RtN s g (N+13) K L (fun _=>.tuple #[.bool ((c1==0)||(c2==0)||(c3==0)||(q==1)),.nilIface]) [] (.returned (.tuple #[.bool true,.nilIface])) w6):=hdd (by simp only[e1,e2,bjL,bjO];exact RtN.out (v:=.tuple #[.bool true,.nilIface]) ((hR.subl ((bjK _ _).trans ((bjK _ _).trans ((bjK _ _).trans ((bjK _ _).trans (bjK _ _)))))).more (by omega)));clear hR;go_wp2
  go_ret2
  exact HF.out
 go_wp2_with fail
 obtain⟨w7,hw7,b1,hR⟩:=hR.box1 (.cells #[.pointer (some ⟨g,0,none⟩),.int .i64 (m:Int),.pointer (some ⟨g,0,none⟩),.int .i64 (n:Int),.pointer (some ⟨g,0,none⟩),.int .i64 (k:Int),.pointer (some ⟨g,0,none⟩),.int .i64 (l:Int)] 82);obtain⟨u0,u1,u2,u3,u4,u5,u6,u7⟩:=kQ b1;have HC:=hdd (hR.same (by have:=HN.out;omega) (HK.out _ m4) (HK.out _ m5) (HK.out _ m2) (HK.out _ m3) H3.out);clear hR b1;rw[rounds_succ];go_wp2_with fail
 refine HC.out.mono ?_;rintro e w8⟨rfl,hR⟩
 cases e3:(c3==0)
 case' true=>
  have HF:Hid (RtN s g (N+13) K L (fun _=>.tuple #[.bool ((c1==0)||(c2==0)||(c3==0)||(q==1)),.nilIface]) [] (.returned (.tuple #[.bool true,.nilIface])) w8):=hdd (by simp only[e1,e2,e3,bjL,bjO];exact RtN.out (v:=.tuple #[.bool true,.nilIface]) ((hR.subl ((bjK _ _).trans ((bjK _ _).trans ((bjK _ _).trans ((bjK _ _).trans ((bjK _ _).trans (bjK _ _))))))).more (by omega)));clear hR;go_wp2
  go_ret2
  exact HF.out
 obtain⟨x0,x1,x2,x3⟩:=aG (hR.at m5);obtain⟨y0,y1,y2,y3⟩:=aG (hR.at m4);obtain⟨z0,z1,z2,z3⟩:=aG (hR.at m3);have HC:=hdd (hR.turn (by have:=HN.out;omega) (HK.out _ m0) (HK.out _ m1) (HK.out _ m4) (HK.out _ m5) (HK.out _ m2) (HK.out _ m3) H4.out);clear hR;go_wp2_with fail
 rw[rounds_succ];go_wp2_with fail
 refine HC.out.mono ?_;rintro e w9⟨rfl,hR⟩;have HF:Hid (RtN s g (N+13) K L (fun _=>.tuple #[.bool ((c1==0)||(c2==0)||(c3==0)||(q==1)),.nilIface]) [] (.returned (.tuple #[.bool (q==1),.nilIface])) w9):=hdd (by simp only[e1,e2,e3,bjL];exact RtN.out (v:=.tuple #[.bool (q==1),.nilIface]) ((hR.subl ((bjK _ _).trans ((bjK _ _).trans ((bjK _ _).trans ((bjK _ _).trans ((bjK _ _).trans (bjK _ _))))))).more (by omega)));clear hR;go_wp2
 go_ret2
 exact HF.out
theorem rG{w:World}{g:Nat}{T:TypeId}{v0 v1 v2 v3 v4 v5 v6 v7 v8 v9 v10 v11 v12 v13 v14 v15 v16 v17 v18 v19 v20 v21 v22 v23:Value}(h:w.heap[g]? =some (.cells #[v0,v1,v2,v3,v4,v5,v6,v7,v8,v9,v10,v11,v12,v13,v14,v15,v16,v17,v18,v19,v20,v21,v22,v23] T (0,0))):
 w.cell? ⟨g,0,none⟩=some v0/\w.cell? ⟨g,1,none⟩=some v1/\w.cell? ⟨g,2,none⟩=some v2/\w.cell? ⟨g,3,none⟩=some v3/\w.cell? ⟨g,4,none⟩=some v4/\w.cell? ⟨g,5,none⟩=some v5/\w.cell? ⟨g,6,none⟩=some v6/\w.cell? ⟨g,7,none⟩=some v7/\w.cell? ⟨g,8,none⟩=some v8/\w.cell? ⟨g,9,none⟩=some v9/\w.cell? ⟨g,10,none⟩=some v10/\w.cell? ⟨g,11,none⟩=some v11/\w.cell? ⟨g,12,none⟩=some v12/\w.cell? ⟨g,13,none⟩=some v13/\w.cell? ⟨g,14,none⟩=some v14/\w.cell? ⟨g,15,none⟩=some v15/\w.cell? ⟨g,16,none⟩=some v16/\w.cell? ⟨g,17,none⟩=some v17/\w.cell? ⟨g,18,none⟩=some v18/\w.cell? ⟨g,19,none⟩=some v19/\w.cell? ⟨g,20,none⟩=some v20/\w.cell? ⟨g,21,none⟩=some v21/\w.cell? ⟨g,22,none⟩=some v22/\w.cell? ⟨g,23,none⟩=some v23:=
 ⟨aA (k:=0) h rfl,aA (k:=1) h rfl,aA (k:=2) h rfl,aA (k:=3) h rfl,aA (k:=4) h rfl,aA (k:=5) h rfl,aA (k:=6) h rfl,aA (k:=7) h rfl,aA (k:=8) h rfl,aA (k:=9) h rfl,aA (k:=10) h rfl,aA (k:=11) h rfl,aA (k:=12) h rfl,aA (k:=13) h rfl,aA (k:=14) h rfl,aA (k:=15) h rfl,aA (k:=16) h rfl,aA (k:=17) h rfl,aA (k:=18) h rfl,aA (k:=19) h rfl,aA (k:=20) h rfl,aA (k:=21) h rfl,aA (k:=22) h rfl,aA (k:=23) h rfl⟩
abbrev ad1(g:Nat)(kd:Int)(ca cb cc i j k l:Nat)(kd':Int)(ca' cb' cc' i' j' k' l':Nat):Obj:=(.cells #[.int .i64 kd,.float .f64 ca,.float .f64 cb,.float .f64 cc,.pointer (some ⟨g,0,none⟩),.int .i64 (i:Int),.pointer (some ⟨g,0,none⟩),.int .i64 (j:Int),.pointer (some ⟨g,0,none⟩),.int .i64 (k:Int),.pointer (some ⟨g,0,none⟩),.int .i64 (l:Int),.int .i64 kd',.float .f64 ca',.float .f64 cb',.float .f64 cc',.pointer (some ⟨g,0,none⟩),.int .i64 (i':Int),.pointer (some ⟨g,0,none⟩),.int .i64 (j':Int),.pointer (some ⟨g,0,none⟩),.int .i64 (k':Int),.pointer (some ⟨g,0,none⟩),.int .i64 (l':Int)] 38)
theorem aaD{g b i j k l ca cb cc i' j' k' l' ca' cb' cc':Nat}{kd kd':Int}{K1 K2:List (Ex×Nat)}(h1:FnOk 14 g 20 #[.pointer (some ⟨g,0,none⟩),aN g kd ca cb cc i j k l] K1 (fun _=>.nilIface) [])(h2:FnOk 14 g 20 #[.pointer (some ⟨g,0,none⟩),aN g kd' ca' cb' cc' i' j' k' l'] K2 (fun _=>.nilIface) [])
 {s:Bs} {N:Nat} {K:List (Ex×Nat)} {L:List (Nat×Obj)} {W:World} (hR:Run s g N K L W) (hm:(b,ad1 g kd ca cb cc i j k l kd' ca' cb' cc' i' j' k' l')∈L) (hN:N+40<=20000) (k1:∀p∈K1,p∈K) (k2:∀p∈K2,p∈K):
 Calls Tryz.prog 32 #[.pointer (some ⟨g,0,none⟩),.slice (some ⟨b,0,none⟩) 2 2] W (fun e W'=>e=.returned .nilIface/\Run s g (N+40) K L W'):=by
 have HR:=hdd hR;have HM:=hdd hm;have HN:=hdd hN;have C1:=hdd h1;have C2:=hdd h2;have K1:=hdd k1;have K2:=hdd k2;have hst:=aL;clear hR hm hN h1 h2 k1 k2;go_enter Tryz.func32,Tryz.ntmps32
 go_wp2_with fail
 refine wp_loop_rounds 3 ?_;have hR:=HR.out;clear HR;obtain⟨z0,z1,z2,z3,z4,z5,z6,z7,z8,z9,z10,z11,z12,z13,z14,z15,z16,z17,z18,z19,z20,z21,z22,z23⟩:=rG (hR.at HM.out);obtain⟨w1,hw1,b1,hR⟩:=hR.box1 (dD g kd ca cb cc i j k l);obtain⟨x0,x1,x2,x3,x4,x5,x6,x7,x8,x9,x10,x11⟩:=aF b1;have HC:=hdd (C1.out.use hR (by have:=HN.out;omega) K1.out);clear hR b1;rw[rounds_succ];go_wp2_with fail
 refine HC.out.mono ?_;rintro e w2⟨rfl,hR⟩;go_wp2_with fail
 obtain⟨z0,z1,z2,z3,z4,z5,z6,z7,z8,z9,z10,z11,z12,z13,z14,z15,z16,z17,z18,z19,z20,z21,z22,z23⟩:=rG (hR.at (bjP _ HM.out));obtain⟨w3,hw3,b1,hR⟩:=hR.box1 (dD g kd' ca' cb' cc' i' j' k' l');obtain⟨x0,x1,x2,x3,x4,x5,x6,x7,x8,x9,x10,x11⟩:=aF b1;have HC:=hdd (C2.out.use hR (by have:=HN.out;omega) K2.out);clear hR b1;rw[rounds_succ];go_wp2_with fail
 refine HC.out.mono ?_;rintro e w4⟨rfl,hR⟩;have HF:=hdd (show Run s g (N+40) K L w4 from(hR.subl ((bjK _ _).trans (bjK _ _))).more (by omega));clear hR;go_wp2_with fail
 rw[rounds_succ];go_wp2;go_ret;exact⟨rfl,HF.out⟩
section
variable{s:Bs}{g N M:Nat}{K:List (Ex×Nat)}{L L1:List (Nat×Obj)}{W:World}{v:Value}
theorem Run.rest (hR:Run s g N K (L1++L) W):Run s g N K L W:=hR.subl (List.sublist_append_right _ _)
theorem FnOk.upto {f:FuncId}{d d':Nat}{av:Array Value}{K0:List (Ex×Nat)}{V:List Nat->Value}{es:List Ex}(h:FnOk f g d av K0 V es)(hd:d<=d'):FnOk f g d' av K0 V es:=fun s N K l W hR hN hK=>(h s N K l W hR (by omega) hK).mono fun _ _ ⟨ks,h1,h2,h3⟩=>⟨ks,h1,h2,h3.more (by omega)⟩
theorem RtN.fin (hR:Run s g M K (L1++L) W)(h:M<=N):RtN s g N K L (fun _=>v) [] (.returned v) W:=RtN.out (hR.rest.more h)
end
section
variable{g i j k l ca cb cc i' j' k' l' ca' cb' cc':Nat}{kd kd':Int}{A1 A2 B1 B2 C1 C2 D1 D2:Ex}{K0 KA KB:List (Ex×Nat)}
theorem mQ(h:(kd==2)=true/\(∃c,iK PT A1 A2 B1 B2 c/\(c==0)=b)\/(kd==2)=false/\b=false):
 FnOk 37 g 4 #[aN g kd ca cb cc i j k l] [(A1,i),(A2,j),(B1,k),(B2,l)] (fun _=>.tuple #[.bool b,.nilIface]) []:=fun s N K L W hR hN hK=>by
 obtain⟨w1,hw1,b1,hR⟩:=hR.box1 (dD g kd ca cb cc i j k l);obtain⟨x0,x1,x2,x3,x4,x5,x6,x7,x8,x9,x10,x11⟩:=aF b1;have H:=hdd h;have HN:=hdd hN;have HK:=hdd hK;have HR:=hdd hR;clear b1 hR h hN hK;go_enter Tryz.func37,Tryz.ntmps37
 rcases H.out with ⟨t1,c,hc,rfl⟩|⟨t1,rfl⟩
 . have HC:=hdd (HR.out.same (by have:=HN.out;omega) (HK.out _ m0) (HK.out _ m1) (HK.out _ m2) (HK.out _ m3) hc)
   clear H HR hc;go_wp2_with fail
   refine HC.out.mono ?_;rintro e w2⟨rfl,hR⟩;have HF:Hid (RtN s g (N+4) K L (fun _=>.tuple #[.bool (c==0),.nilIface]) [] (.returned (.tuple #[.bool (c==0),.nilIface])) w2):=hdd (by exact RtN.fin (L1:=[_]) hR (by omega));clear hR;go_wp2
   go_ret2
   exact HF.out
 . have HF:Hid (RtN s g (N+4) K L (fun _=>.tuple #[.bool false,.nilIface]) [] (.returned (.tuple #[.bool false,.nilIface])) w1):=hdd (RtN.fin (L1:=[_]) HR.out (by omega))
   clear H HR;go_wp2
   go_ret2
   exact HF.out
theorem xZ{r1 r2:Bool}(h1:FnOk 37 g 4 #[aN g kd ca cb cc i j k l] KA (fun _=>.tuple #[.bool r1,.nilIface]) [])(h2:FnOk 37 g 4 #[aN g kd' ca' cb' cc' i' j' k' l'] KB (fun _=>.tuple #[.bool r2,.nilIface]) [])(hA:∀p∈KA,p∈K0)(hB:∀p∈KB,p∈K0):
 FnOk 21 g 8 #[aN g kd ca cb cc i j k l,aN g kd' ca' cb' cc' i' j' k' l'] K0 (fun _=>.tuple #[.bool (r1||r2),.nilIface]) []:=fun s N K L W hR hN hK=>by
 obtain⟨w1,hw1,b1,b2,hR⟩:=hR.box2 (dD g kd ca cb cc i j k l) (dD g kd' ca' cb' cc' i' j' k' l');obtain⟨x0,x1,x2,x3,x4,x5,x6,x7,x8,x9,x10,x11⟩:=aF b1;have HC:=hdd (h1.use hR (by omega) fun p hp=>hK p (hA p hp));have H2:=hdd h2;have HB:=hdd hB;have HN:=hdd hN;have HK:=hdd hK;clear b1 b2 hR h1 h2 hA hB hN hK;go_enter Tryz.func21,Tryz.ntmps21
 go_wp2_with fail
 refine HC.out.mono ?_;rintro e w2⟨rfl,hR⟩
 cases r1
 case' true=>
  have HF:Hid (RtN s g (N+8) K L (fun _=>.tuple #[.bool (true||r2),.nilIface]) [] (.returned (.tuple #[.bool true,.nilIface])) w2):=hdd (by rw[bjO];exact RtN.fin (L1:=[_,_]) hR (by omega));clear hR;go_wp2
  go_ret2
  exact HF.out
 obtain⟨x0,x1,x2,x3,x4,x5,x6,x7,x8,x9,x10,x11⟩:=aF (hR.at m0);have HC:=hdd (H2.out.use hR (by have:=HN.out;omega) fun p hp=>HK.out p (HB.out p hp));clear hR;go_wp2_with fail
 refine HC.out.mono ?_;rintro e w3⟨rfl,hR⟩;have HF:Hid (RtN s g (N+8) K L (fun _=>.tuple #[.bool (false||r2),.nilIface]) [] (.returned (.tuple #[.bool r2,.nilIface])) w3):=hdd (by rw[bjL];exact RtN.fin (L1:=[_,_]) hR (by omega));clear hR;go_wp2
 go_ret2
 exact HF.out
theorem uD{c:Int}(h1:FnOk 39 g 42 #[.pointer (some ⟨g,0,none⟩),aN g kd' ca' cb' cc' i' j' k' l',bE g i j] KA (fun _=>.tuple #[.bool b,.nilIface]) [])(h2:iK PT A1 A2 D1 D2 c)(hA:∀p∈KA,p∈K0)(hB:∀p∈[(A1,i),(A2,j),(D1,k'),(D2,l')],p∈K0):
 FnOk 34 g 44 #[.pointer (some ⟨g,0,none⟩),aN g kd ca cb cc i j k l,aN g kd' ca' cb' cc' i' j' k' l'] K0 (fun _=>.tuple #[.bool (b&& !(c==0)),.nilIface]) []:=fun s N K L W hR hN hK=>by
 obtain⟨w1,hw1,b1,b2,hR⟩:=hR.box2 (dD g kd ca cb cc i j k l) (dD g kd' ca' cb' cc' i' j' k' l');obtain⟨x0,x1,x2,x3,x4,x5,x6,x7,x8,x9,x10,x11⟩:=aF b1;obtain⟨z0,z1,z2,z3,z4,z5,z6,z7,z8,z9,z10,z11⟩:=aF b2;have HC:=hdd (h1.use hR (by omega) fun p hp=>hK p (hA p hp));have H2:=hdd h2;have HB:=hdd hB;have HN:=hdd hN;have HK:=hdd hK;clear b1 b2 hR h1 h2 hA hB hN hK;go_enter Tryz.func34,Tryz.ntmps34
 go_wp2_with fail
 refine HC.out.mono ?_;rintro e w2⟨rfl,hR⟩
 cases b
 case' false=>
  have HF:Hid (RtN s g (N+44) K L (fun _=>.tuple #[.bool (false&& !(c==0)),.nilIface]) [] (.returned (.tuple #[.bool false,.nilIface])) w2):=hdd (by rw[bjM];exact RtN.fin (L1:=[_,_]) hR (by omega));clear hR;go_wp2
  go_ret2
  exact HF.out
 obtain⟨x0,x1,x2,x3,x4,x5,x6,x7,x8,x9,x10,x11⟩:=aF (hR.at m1);obtain⟨z0,z1,z2,z3,z4,z5,z6,z7,z8,z9,z10,z11⟩:=aF (hR.at m0);have HC:=hdd (hR.same (by have:=HN.out;omega) (HK.out _ (HB.out _ m0)) (HK.out _ (HB.out _ m1)) (HK.out _ (HB.out _ m2)) (HK.out _ (HB.out _ m3)) H2.out);clear hR;go_wp2_with fail
 refine HC.out.mono ?_;rintro e w3⟨rfl,hR⟩;have HF:Hid (RtN s g (N+44) K L (fun _=>.tuple #[.bool (true&& !(c==0)),.nilIface]) [] (.returned (.tuple #[.bool (!(c==0)),.nilIface])) w3):=hdd (by rw[bjQ];exact RtN.fin (L1:=[_,_]) hR (by omega));clear hR;go_wp2
 go_ret2
 exact HF.out
end
end Go.Proofs.YtjdgaogkioabeaaGreatDoor
namespace Go.Proofs.YtjdgaogkioabeaaGreatDoor
open Go.RowKit
open Decidable renaming em->bjS
open Go.Region renaming ready->bjR,noSelect_spec->bjT,wanted->bjU,free_spec->bjV,noSelect->bjW,binds->bjX,free->bjY
variable{a:Act}{fuel:Nat}{w:World}
section
variable{P:Program}{ops:Array Oper}{Q:Exit->Act->World->Prop}{md:Region.Mode}{S:World->Prop}{Z:Nat->Bool}
def anyH(P:Program)(md:Region.Mode)(ops:Array Oper)(Q:Exit->Act->World->Prop)(S:World->Prop)(Z:Nat->Bool):Nat->Array Bool->Act->World->Prop
 |0,listed,a,w=>bjR md ops listed=[]/\Q .normal a w
 |fuel+1,listed,a,w=>(bjR md ops listed=[]->Q .normal a w)/\
  ∀i∈bjR md ops listed,wpOp P ops Q i (fun a' w'=>(Z i=true->S w')/\anyH P md ops Q S Z fuel (listed.setIfInBounds i true) a' w') a w
theorem ad2:∀(fuel:Nat) (listed:Array Bool) (a:Act) (w:World),anyH P md ops Q S Z fuel listed a w->wpAny P md ops Q fuel listed a w
 |0,_,_,_,h=>h
 |fuel+1,_,_,_,h=>⟨h.1,fun i hi=>wpOp_mono (fun a' w' h'=>ad2 fuel _ a' w' h'.2) (h.2 i hi)⟩
theorem yB{T:World->Prop}{i:Nat}{oi:Oper}{v:Value}(hi:ops[i]? =some oi)(hsel:∀(j:Nat) (o:Oper) cs b,ops[j]? =some o->o.op≠.select cs b)
 (hQ:∀c a w,Q (.panic c) (a.put oi.dst v) w->Q (.panic c) a w) (fuel:Nat):
 ∀(listed:Array Bool) (a:Act) (w:World),
  ((∀w,T w)/\Z i=false\/(∀w,S w->T w)/\(T w->S w)/\∀k,k<ops.size->Z k=true\/listed.getD k true=true\/Region.waitsFor md ops k i=true)->
  (∀j oj,ops[j]? =some oj->j≠i->listed.getD j true=false->(∀e∈oj.after,bjX md e=true->e.on≠i)->oi.apart ops oj=true)->
  i∈bjR md ops listed->YieldsIf P ops T oi v a->T w->
  anyH P md ops Q S Z fuel (listed.setIfInBounds i true) (a.put oi.dst v) w->anyH P md ops Q S Z (fuel+1) listed a w:=by
 induction fuel with
 |zero=>
  intro listed a w hiz _ hr hy hS H;refine⟨fun h=>(by rw[h]at hr;cases hr),fun j hj=> ?_⟩;rcases bjS (j=i)with rfl|hji
  . exact hy.wpOp hi hS ⟨fun hz=>by
     rcases hiz with ⟨-,h⟩|⟨-,h,-⟩
     . rw[hz]at h;cases h
     . exact h hS,H⟩
  . have h0:=ready_mono hj hji
    rw[H.1]at h0;cases h0
 |succ fuel ih=>
  intro listed a w hiz hfree hr hy hS H;refine⟨fun h=>(by rw[h]at hr;cases hr),fun j hj=> ?_⟩;rcases bjS (j=i)with rfl|hji
  . exact hy.wpOp hi hS ⟨fun hz=>by
     rcases hiz with ⟨-,h⟩|⟨-,h,-⟩
     . rw[hz]at h;cases h
     . exact h hS,H⟩
  obtain⟨hjun,oj,hoj,hall⟩:=mem_ready.1 hj;have hun:listed.getD i true=false:=(mem_ready.1 hr).1;have hnot:∀e∈oj.after,bjX md e=true->e.on≠i:=by
   intro e he hb heq;have hl:=hall e he hb;rw[heq]at hl;rcases Nat.lt_or_ge i listed.size with h|h
   . simp[h]at hun hl;rw[hun]at hl;cases hl
   . simp[Array.getElem?_eq_none h]at hl
  have hTS:∀w',(Z j=true->S w')->T w'/\((∀w,T w)/\Z i=false\/(∀w,S w->T w)/\(T w'->S w')/\∀k,k<ops.size->Z k=true\/(listed.setIfInBounds j true).getD k true=true\/Region.waitsFor md ops k i=true):=fun w' h=>by
   rcases hiz with ⟨hz,hz2⟩|⟨hz,-,hw⟩
   . exact⟨hz w',Or.inl ⟨hz,hz2⟩⟩
   . rcases hw j (Array.getElem?_eq_some_iff.1 hoj).1 with hl|hl|hl
     . refine⟨hz _ (h hl),Or.inr ⟨hz,fun _=>h hl,fun k hk=> ?_⟩⟩
       rcases hw k hk with e|e|e
       . exact Or.inl e
       . refine Or.inr (Or.inl ?_)
         rcases bjS (j=k)with rfl|hjk
         . rw[hjun]at e;cases e
         . rwa[getD_set_ne true hjk]
       . exact Or.inr (Or.inr e)
     . rw[hjun]at hl;cases hl
     . obtain⟨oz,hoz,e,he,hb,hon⟩:=Region.waitsFor_spec hl
       rw[hoj]at hoz
       cases hoz
       exact(hnot e he hb hon).elim
  have step:=wpOp_putIf hoj (hfree j oj hoj hji hjun hnot) (fun cs b=>hsel i oi cs b hi) (fun cs b=>hsel j oj cs b hoj) hQ hy (H.2 j (ready_mono hj hji));refine wpOp_mono (fun a' w' hh=>⟨hh.2.1,ih (listed.setIfInBounds j true) a' w' (hTS w' hh.2.1).2 ?_ (ready_mono hr (Ne.symm hji)) hh.1 (hTS w' hh.2.1).1 ?_⟩) step
  . intro k ok hk hki hku hno
    refine hfree k ok hk hki ?_ hno;rcases bjS (j=k)with rfl|hjk
    . exact hjun
    . rwa[getD_set_ne true hjk]at hku
  . rw[Array.setIfInBounds_comm _ _ hji];exact hh.2.2
theorem dO(i:Nat){oi:Oper}(v:Value){listed:Array Bool}(hy:∀w,S w->(execOp a.eval oi).run P w=.ok (.value v) w)(h:anyH P md ops Q S Z fuel (listed.setIfInBounds i true) (a.put oi.dst v) w)(hS:S w)
 (hi:ops[i]? =some oi:=by rfl) (hz:((List.range ops.size).all fun k=>Z k||listed.getD k true||Region.waitsFor md ops k i)=true:=by kernel_rfl) (hs:bjW ops=true:=by kernel_rfl) (hf:bjY md ops listed i=true:=by kernel_rfl) (hr:(bjR md ops listed).contains i=true:=by kernel_rfl)
 (hQ:∀c a w,Q (.panic c) (a.put oi.dst v) w->Q (.panic c) a w:=by exact fun _ _ _ h=>h) (hw:bjU oi (yielded ops a.tmps)=true:=by rfl):anyH P md ops Q S Z (fuel+1) listed a w:=
 yB hi (bjT hs) hQ fuel listed a w (Or.inr ⟨fun _ h=>h,fun h=>h,fun k hk=>by
  have:=List.all_eq_true.1 hz k (List.mem_range.2 hk);simpa[or_assoc]using this⟩) (bjV hi hf) (by simpa using hr) (Or.inl ⟨hw,hy⟩) hS h
theorem sN(i:Nat){oi:Oper}(v:Value){listed:Array Bool}(hy:∀w,(execOp a.eval oi).run P w=.ok (.value v) w)(h:anyH P md ops Q S Z fuel (listed.setIfInBounds i true) (a.put oi.dst v) w)
 (hi:ops[i]? =some oi:=by rfl) (hz:Z i=false:=by rfl) (hs:bjW ops=true:=by kernel_rfl) (hf:bjY md ops listed i=true:=by kernel_rfl) (hr:(bjR md ops listed).contains i=true:=by kernel_rfl)
 (hQ:∀c a w,Q (.panic c) (a.put oi.dst v) w->Q (.panic c) a w:=by exact fun _ _ _ h=>h) (hw:bjU oi (yielded ops a.tmps)=true:=by rfl):anyH P md ops Q S Z (fuel+1) listed a w:=
 yB (T:=fun _=>True) hi (bjT hs) hQ fuel listed a w (Or.inl ⟨fun _=>trivial,hz⟩) (bjV hi hf) (by simpa using hr) (Or.inl ⟨hw,fun w _=>hy w⟩) trivial h
theorem iO(i:Nat){o:Oper}{listed:Array Bool}(hr:bjR md ops listed=[i])(ho:ops[i]? =some o)
 (h:∀K':Act->World->Prop,Shut (∀a w,(Z i=true->S w)->anyH P md ops Q S Z fuel (listed.setIfInBounds i true) a w->K' a w)->if bjU o (yielded ops a.tmps)=true then Oper.wp P o a w K' Q else K' (a.put o.dst undef) w):
 anyH P md ops Q S Z (fuel+1) listed a w:=
 ⟨fun h0=>(by rw[hr]at h0;cases h0),fun j hj=>by
   rw[hr]at hj;obtain rfl:j=i:=by simpa using hj
   exact wpOp_step ho (fun K' hK=>h K' (fun a w h1 h2=>hK a w ⟨h1,h2⟩))⟩
theorem sO{listed:Array Bool}(hr:bjR md ops listed=[])(h:Q .normal a w):anyH P md ops Q S Z fuel listed a w:=by
 cases fuel
 . exact⟨hr,h⟩
 . exact⟨fun _=>h,by rw[hr];simp⟩
theorem pW(S:World->Prop)(Z:Nat->Bool){id:Nat}(hm:P.follows .mixedOrders=true)
 (h:anyH P .any ops Q S Z ops.size (Array.replicate ops.size false) a w.drew):(Code.region id ops true).wp P Q a w:=
 wp_region_any hm (ad2 _ _ _ _ h)
end
end Go.Proofs.YtjdgaogkioabeaaGreatDoor
namespace Go.Proofs.YtjdgaogkioabeaaGreatDoor
open Go.RowKit Go.Maps Go.Stop Go.Extern
section
variable{s:Bs}{g N M:Nat}{K:List (Ex×Nat)}{L L1:List (Nat×Obj)}{W:World}{v:Value}
end
section
variable{g i j k l ca cb cc i' j' k' l' ca' cb' cc':Nat}{kd kd':Int}{A1 A2 B1 B2 C1 C2 D1 D2:Ex}{K0 KA KB:List (Ex×Nat)}
theorem ad3{r:Bool}(h:∀w,Calls Tryz.prog 36 #[curV 2 ca cb cc,curV 2 ca' cb' cc'] w (RetV w (.bool r))):
 FnOk 20 g 21 #[.pointer (some ⟨g,0,none⟩),curV 2 ca cb cc,curV 2 ca' cb' cc'] [] (fun _=>.tuple #[.bool r,.nilIface]) []:=fun s N K L W hR hN hK=>by
 obtain⟨w1,hw1,b1,b2,hR⟩:=hR.box2 (curO 2 ca cb cc) (curO 2 ca' cb' cc');obtain⟨x0,x1,x2,x3⟩:=aG b1;obtain⟨z0,z1,z2,z3⟩:=aG b2;have HC:=hdd (RetV.run (c:=fun _=>True) hR (h w1));have HN:=hdd hN;clear b1 b2 hR h hN hK;go_enter Tryz.func20,Tryz.ntmps20
 go_wp2_with fail
 refine HC.out.mono ?_;rintro e w2⟨rfl,hR⟩;have HF:Hid (RtN s g (N+21) K L (fun _=>.tuple #[.bool r,.nilIface]) [] (.returned (.tuple #[.bool r,.nilIface])) w2):=hdd (by exact RtN.fin (L1:=[_,_]) hR (by omega));clear hR;go_wp2
 go_ret2
 exact HF.out
end
end Go.Proofs.YtjdgaogkioabeaaGreatDoor
