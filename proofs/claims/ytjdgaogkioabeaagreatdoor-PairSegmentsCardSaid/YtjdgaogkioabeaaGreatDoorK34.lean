/- A part of the proof: contracts of functions and plain laws (QlX, MkD, QlU, OwR, ArA, ArB, ArC, ArD). -/
import Derived.Test.YtjdgaogkioabeaaGreatDoorK33
import Derived.Test.YtjdgaogkioabeaaGreatDoorK18
import Derived.Test.YtjdgaogkioabeaaGreatDoorK20
import Derived.Test.YtjdgaogkioabeaaGreatDoorK19
set_option linter.unusedVariables false
set_option linter.unusedSimpArgs false
set_option maxHeartbeats 25600000
set_option maxRecDepth 100000
namespace Go.Proofs.YtjdgaogkioabeaaGreatDoor
section
open Go.RowKit Go.Maps
open Re (rat ofI ofN)
variable{A B C X Y:Int}{a b c x y:Nat}
theorem afZ(hx:Iw x X)(hy:Iw y Y)(bx:X.natAbs<=22)(b_y:Y.natAbs<=22):fK PT (.sub (.leaf x) (.leaf y)) (X-Y).sign:=
 ((hx.fit (L:=[]) 5 (nlt bx) (by decide)).rsub (hy.fit 5 (nlt b_y) (by decide))).sign 1 (by decide) (by push_cast;grind) (by kernel_rfl)
def cmpP(a1 a2 b1 b2:Int):Int:=if (a1-b1).sign=0 then(a2-b2).sign else(a1-b1).sign
theorem aoI{a1 a2 b1 b2:Nat}{A1 A2 B1 B2:Int}(h1:Iw a1 A1)(h2:Iw a2 A2)(g1:Iw b1 B1)(g2:Iw b2 B2)(c1:A1.natAbs<=22)(c2:A2.natAbs<=22)(d1:B1.natAbs<=22)(d2:B2.natAbs<=22):gQ PT (.leaf a1) (.leaf a2) (.leaf b1) (.leaf b2) (cmpP A1 A2 B1 B2):=
 ⟨(A1-B1).sign,(A2-B2).sign,trivial,afZ h1 g1 c1 d1,fun _=>⟨trivial,afZ h2 g2 c2 d2⟩,rfl⟩
theorem ah6(a b:Int):cmpP a b a b=0:=by unfold cmpP;rw[Int.sub_self,Int.sub_self];rfl
theorem anY(ha:Iw a A)(hb:Iw b B)(hc:Iw c C)(hx:Iw x X)(hy:Iw y Y)(b1:A.natAbs<=6)(b2:B.natAbs<=6)(b3:C.natAbs<=36)(b4:X.natAbs<=22)(b5:Y.natAbs<=22):fK PT (aoA (.leaf x) (.leaf y) a b c) (A*X+B*Y-C).sign:=by
 have f1:=ha.fit (L:=[]) 3 (nlt b1) (by decide);have f2:=hb.fit (L:=[]) 3 (nlt b2) (by decide);have f3:=hc.fit (L:=[]) 6 (nlt b3) (by decide);have f4:=hx.fit (L:=[]) 5 (nlt b4) (by decide);have f5:=hy.fit (L:=[]) 5 (nlt b5) (by decide);exact(((f1.rmul f4).radd (f2.rmul f5)).rsub f3).sign 1 (by decide) (by push_cast;grind) (by kernel_rfl)
theorem alW(ha:Iw a A)(hb:Iw b B)(hc:Iw c C)(hx:Iw x X)(hy:Iw y Y)(b1:A.natAbs<=6)(b2:B.natAbs<=6)(b3:C.natAbs<=36)(b4:X.natAbs<=22)(b5:Y.natAbs<=22):fK PT (an9 a b c (.leaf x) (.leaf y)) ((X-A)*(X-A)+(Y-B)*(Y-B)-C).sign:=by
 have f1:=ha.fit (L:=[]) 3 (nlt b1) (by decide);have f2:=hb.fit (L:=[]) 3 (nlt b2) (by decide);have f3:=hc.fit (L:=[]) 6 (nlt b3) (by decide);have f4:=hx.fit (L:=[]) 5 (nlt b4) (by decide);have f5:=hy.fit (L:=[]) 5 (nlt b5) (by decide);exact((((f4.rsub f1).rmul (f4.rsub f1)).radd ((f5.rsub f2).rmul (f5.rsub f2))).rsub f3).sign 1 (by decide) (by push_cast;grind) (by kernel_rfl)
end
section
open Go.RowKit Go.Maps Go.Stop Go.Extern
abbrev aqE(r:Bool)(x y u v i k o:Int):Value:=.agg #[.bool r,.int .i64 x,.int .i64 y,.int .i64 u,.int .i64 v,.int .i64 i,.int .i64 k,.int .i64 o]
abbrev aqF(r:Bool)(x y u v i k o:Int):Obj:=.cells #[.bool r,.int .i64 x,.int .i64 y,.int .i64 u,.int .i64 v,.int .i64 i,.int .i64 k,.int .i64 o] 45
abbrev refW(kd:Int)(wa wb wc n:Nat):Value:=.agg #[.int .i64 kd,.float .f64 wa,.float .f64 wb,.float .f64 wc,.int .i64 (n:Int),.int .i64 ((n:Int)+1),.int .i64 ((n:Int)+2),.int .i64 ((n:Int)+2+1)]
def aoJ(X Y U V I Kk:Int)(wx wy:Nat)(r:Bool)(kd:Int)(wa wb wc p0 p1 q0 q1:Nat):Prop:=
 fl (X.tmod 7)=wx/\fl (Y.tmod 7)=wy/\
 ((r=true/\kd=2/\wa=wx/\wb=wy/\wc=4627730092099895296/\∃J L:Nat,J<12/\(I.tmod 12+12).tmod 12=(J:Int)/\L<12/\(Kk.tmod 12+12).tmod 12=(L:Int)/\Op2 .add wx (kX J) p0/\Op2 .add wy (kY J) p1/\Op2 .add wx (kX L) q0/\Op2 .add wy (kY L) q1)\/
  (r=false/\kd=1/\∃wu ws wt m1 m2 a1 a2 b1 b2:Nat,fl (U.tmod 4)=wu/\fl (V.tmod 4)=wa/\wb=wu ^^^ 2^63/\Op2 .mul wa wx m1/\Op2 .mul wu wy m2/\Op2 .sub m1 m2 wc/\fl (I.tmod 6)=ws/\fl (Kk.tmod 6)=wt/\Op2 .mul ws wu a1/\Op2 .add wx a1 p0/\Op2 .mul ws wa a2/\Op2 .add wy a2 p1/\Op2 .mul wt wu b1/\Op2 .add wx b1 q0/\Op2 .mul wt wa b2/\Op2 .add wy b2 q1))
def aoK(oo:Int)(p0 q1 P0 Q1:Nat):Prop:=∃o,Go.bits BinOp.and IntKind.i64 oo 15=o/\
 (((o==1)=true/\(o==2)=false/\Op2 .add p0 4607182418800017408 P0/\Q1=q1)\/((o==1)=false/\(o==2)=true/\P0=p0/\Op2 .add q1 4607182418800017408 Q1)\/((o==1)=false/\(o==2)=false/\P0=p0/\Q1=q1))
theorem af0{B:Nat}{w0 w1:World}{g k:Nat}{T:TypeId}{cs:List Value}{a:Value}(hb:Below B w0 w1)(hg:B<=g)(h:w1.heap[g]? =some (.cells cs.toArray T (0,0))):
 ∃w2,w1.setCell ⟨g,k,none⟩ a=w2/\Below B w0 w2/\w2.heap[g]? =some (.cells (cs.set k a).toArray T (0,0))/\∀i,g≠i->w2.heap[i]? =w1.heap[i]? :=
 ⟨_,rfl,hb.setCell hg _,lS h,fun i hi=>by rw[Below.heap_setCell _ _ _ _ (by simp;omega)]⟩
end
section
open Go.RowKit Go.Maps
open Re (rat ofI ofN)
section
variable{wa wb wc P0 P1 Q0 Q1:Nat}{A B C a1 a2 b1 b2:Int}(ha:Iw wa A)(hb:Iw wb B)(hc:Iw wc C)(h1:Iw P0 a1)(h2:Iw P1 a2)(h3:Iw Q0 b1)(h4:Iw Q1 b2)(c1:A.natAbs<=6)(c2:B.natAbs<=6)(c3:C.natAbs<=36)(d1:a1.natAbs<=22)(d2:a2.natAbs<=22)(d3:b1.natAbs<=22)(d4:b2.natAbs<=22)
include ha hb hc h1 h2 h3 h4 c1 c2 c3 d1 d2 d3 d4
end
end
section
open Go.RowKit Go.Maps
open List renaming mem_cons_self->biR
variable{c:Nat}{p:Option Addr}
theorem frzI{w:World}{b:Nat}{T:TypeId}{cs:Array Value}(h:w.heap[b]? =some (.cells cs T (0,0)))(k:Nat):w.frozen? ⟨b,k,none⟩=false:=by simp[World.frozen?,h]
theorem Run.subl {s:Bs}{g N:Nat}{K:List (Ex×Nat)}{l l':List (Nat×Obj)}{W:World}(h:Run s g N K l W)(hs:l'.Sublist l):Run s g N K l' W:=h.sub (fun _ hp=>hs.subset hp) (h.nodup.sublist (hs.map _))
def OwnR(T:TypeId)(sz:Nat)(v:Value)(n:Nat)(xs:List Value)(lr:List (Nat×Obj)):Prop:=
 xs.length=n*sz/\((v=.slice none 0 0/\n=0/\lr=[])\/∃(r cap:Nat) (cur:Array Value),v=.slice (some ⟨r,0,none⟩) n cap/\lr=[(r,.cells cur T)]/\n<=cap/\cap<=maxLen/\cur.size=cap*sz/\cur.toList.take (n*sz)=xs)
theorem OwnR.nil (T:TypeId)(sz:Nat):OwnR T sz (.slice none 0 0) 0 [] []:=⟨by simp,Or.inl ⟨rfl,rfl,rfl⟩⟩
section
variable{s:Bs}{g N n n' sz g0 cap:Nat}{K:List (Ex×Nat)}{L lr:List (Nat×Obj)}{W w':World}{v:Value}{xs xs':List Value}{T:TypeId}
theorem OwnR.slice (h:OwnR T sz v n xs lr):∃p c,v=.slice p n c:=by
 rcases h.2 with ⟨rfl,rfl,-⟩|⟨r,c,cur,rfl,-⟩
 . exact⟨none,0,rfl⟩
 . exact⟨_,_,rfl⟩
theorem OwnR.own (h:OwnR T sz v n xs lr)(hR:Run s g N K (lr++L) W):W.ownsRow 0 T sz v n xs:=by
 refine⟨h.1,?_⟩;rcases h.2 with ⟨rfl,rfl,-⟩|⟨r,c,cur,rfl,rfl,h1,h2,h3,h4⟩
 . exact .inl ⟨rfl,rfl⟩
 . exact .inr ⟨r,c,cur,rfl,Nat.zero_le _,hR.at (biR ..),h1,h2,h3,h4⟩
theorem OwnR.grow (h:OwnR T sz v n xs lr)(hR:Run s g N K (lr++L) W)(hown:w'.ownsRow 0 T sz (.slice (some ⟨g0,0,none⟩) n' cap) n' xs')(hg:W.grownBy w' v.ownBlock)(hat:v.ownBlock=some g0\/g0=W.heap.size):
 ∃lr',OwnR T sz (.slice (some ⟨g0,0,none⟩) n' cap) n' xs' lr'/\Run s g N K (lr'++L) w':=by
 obtain⟨hx,hy⟩:=hown;rcases hy with ⟨e,-⟩|⟨g1,c1,cur,e,-,hgg,h1,h2,h3,h4⟩
 . simp at e
 . simp only[Value.slice.injEq,Option.some.injEq,Addr.mk.injEq]at e
   obtain⟨⟨rfl,-⟩,-,rfl⟩:=e;refine⟨[(g0,.cells cur T)],⟨hx,Or.inr ⟨g0,cap,cur,rfl,rfl,h1,h2,h3,h4⟩⟩,?_⟩;rcases h.2 with ⟨rfl,-,rfl⟩|⟨r,c,cur',rfl,rfl,-⟩
   . rcases hat with e|rfl
     . simp[Value.ownBlock]at e
     . exact Run.keep hR ⟨hg.os,hg.tape,hg.output,hg.size,fun b hb=>hg.block b hb (by simp[Value.ownBlock])⟩ hgg nlr
   . rcases hat with e|rfl
     . obtain rfl:r=g0:=by simpa[Value.ownBlock]using e
       exact Run.write hR hg hgg
     . have hl:=hR.at (biR ..)
       obtain⟨o',ho'⟩:∃o',w'.heap[r]? =some o':=⟨_,Array.getElem?_eq_getElem (Nat.lt_of_lt_of_le (aG hl) hg.size)⟩;have h5:=Run.board (ln:=[(W.heap.size,.cells cur T)]) hR hg ho' (fun p hp=>by
        obtain rfl:=List.mem_singleton.1 hp;exact⟨hgg,Nat.le_refl _⟩) nlr
       exact h5.sub (fun p hp=>List.mem_cons_of_mem _ hp) (List.nodup_cons.1 (by have:=h5.nodup;rwa[List.map_cons]at this)).2
end
section
variable{s:Bs}{g N n sz:Nat}{K:List (Ex×Nat)}{L lr:List (Nat×Obj)}{W:World}{v:Value}{xs:List Value}{T:TypeId}
theorem OwnR.cellW {q:Nat}{u:Value}(h:OwnR T sz (.slice p n c) n xs lr)(hR:Run s g N K (lr++L) W)(hu:xs[q]? =some u):∃r,p=some ⟨r,0,none⟩/\W.cell? ⟨r,q,none⟩=some u:=by
 rcases h.2 with ⟨e,e2,-⟩|⟨r',cap,cur,e,rfl,h1,h2,h3,h4⟩
 . have:=h.1
   have:=(List.getElem?_eq_some_iff.1 hu).1;simp only[e2,Nat.zero_mul]at*;omega
 . simp only[Value.slice.injEq]at e
   refine⟨r',e.1,aL (cs:=cur.toList) (by simpa using hR.at (biR ..)) ?_⟩;rw[<-h4,List.getElem?_take]at hu
   split at hu
   . exact hu
   . cases hu
end
def spL(g:Nat):List (Nat×Nat)->List Value
 |[]=>[]
 |p::ps=>.pointer (some ⟨g,0,none⟩)::.int .i64 (p.1:Int)::.pointer (some ⟨g,0,none⟩)::.int .i64 (p.2:Int)::spL g ps
theorem alX{g:Nat}{q:Nat×Nat}:∀{ps:List (Nat×Nat)} {j:Nat},ps[j]? =some q->(spL g ps)[j*4]? =some (.pointer (some ⟨g,0,none⟩))/\(spL g ps)[j*4+1]? =some (.int .i64 (q.1:Int))/\(spL g ps)[j*4+2]? =some (.pointer (some ⟨g,0,none⟩))/\(spL g ps)[j*4+3]? =some (.int .i64 (q.2:Int))
 |[],_,h=>by simp at h
 |p::ps,0,h=>by
  obtain rfl:p=q:=by simpa using h
  exact⟨rfl,rfl,rfl,rfl⟩
 |p::ps,j+1,h=>by
  have:=alX (g:=g) (show ps[j]? =some q by simpa using h);rw[show(j+1)*4=j*4+1+1+1+1 by omega];exact this
section
variable{s:Bs}{g N n sz:Nat}{K:List (Ex×Nat)}{L lr:List (Nat×Obj)}{W:World}{v:Value}{xs:List Value}{T:TypeId}
theorem OwnR.spot {j:Nat}{q:Nat×Nat}{ps:List (Nat×Nat)}(h:OwnR 36 4 (.slice p n c) n (spL g ps) lr)(hR:Run s g N K (lr++L) W)(hx:ps[j]? =some q):
 ∃r,p=some ⟨r,0,none⟩/\W.cell? ⟨r,j*4,none⟩=some (.pointer (some ⟨g,0,none⟩))/\W.cell? ⟨r,j*4+1,none⟩=some (.int .i64 (q.1:Int))/\W.cell? ⟨r,j*4+2,none⟩=some (.pointer (some ⟨g,0,none⟩))/\W.cell? ⟨r,j*4+3,none⟩=some (.int .i64 (q.2:Int)):=by
 obtain⟨h0,h1,h2,h3⟩:=alX (g:=g) hx;obtain⟨r,rfl,k0⟩:=h.cellW hR h0;obtain⟨_,e1,k1⟩:=h.cellW hR h1;obtain⟨_,e2,k2⟩:=h.cellW hR h2;obtain⟨_,e3,k3⟩:=h.cellW hR h3;simp only[Option.some.injEq,Addr.mk.injEq,and_true]at e1 e2 e3;subst e1 e2 e3;exact⟨r,rfl,k0,k1,k2,k3⟩
end
end
section
open Go.RowKit Go.Maps Go.Stop Go.Extern
open Bool renaming false_or->biT,false_and->biU,true_or->biW,true_and->biY
open Go.Instr renaming index->biV
open List renaming sublist_cons_self->biS,mem_cons_of_mem->biX
variable{b li r:Bool}{q:Int}
section
variable{s:Bs}{g N d:Nat}{K K0:List (Ex×Nat)}{L:List (Nat×Obj)}{W:World}{f:FuncId}{av:Array Value}{v:Value}
theorem Run.box1 (hR:Run s g N K L W)(o1:Obj):∃w1,W.alloc o1=w1/\w1.heap[W.heap.size]? =some o1/\Run s g N K ((W.heap.size,o1)::L) w1:=⟨_,rfl,heap_alloc_new W o1,hR.alloc o1⟩
theorem Run.box2 (hR:Run s g N K L W)(o1 o2:Obj):∃w2,(W.alloc o1).alloc o2=w2/\w2.heap[W.heap.size]? =some o1/\w2.heap[W.heap.size+1]? =some o2/\Run s g N K ((W.heap.size+1,o2)::(W.heap.size,o1)::L) w2:=by
 obtain⟨w2,rfl,-,-,b1,b2⟩:=pro2 W o1 o2;refine⟨_,rfl,b1,b2,?_⟩;have:=(hR.alloc o1).alloc o2;rwa[show(W.alloc o1).heap.size=W.heap.size+1 by simp]at this
theorem FnOk.use (F:FnOk f g d av K0 (fun _=>v) [])(hR:Run s g N K L W)(hN:N+d<=20000)(hK:∀p∈K0,p∈K):Calls Tryz.prog f av W (fun e W'=>e=.returned v/\Run s g (N+d) K L W'):=
 (F s N K L W hR hN hK).mono fun _ _ ⟨_,_,h1,h2⟩=>⟨h1,h2⟩
theorem RtN.out (hR:Run s g N K L W):RtN s g N K L (fun _=>v) [] (.returned v) W:=⟨[],rfl,rfl,hR⟩
theorem RetV.run {c:World->Prop}(hR:Run s g N K L W)(h:Calls Tryz.prog f av W (RetV W v)):Calls Tryz.prog f av W (fun e W'=>e=.returned v/\Run s g N K L W'):=h.mono fun _ _ ⟨h1,h2⟩=>⟨h1,hR.step h2⟩
end
abbrev aT(g:Nat)(kd:Int)(ca cb cc i j k l:Nat):Value:=.agg #[.int .i64 kd,.float .f64 ca,.float .f64 cb,.float .f64 cc,.pointer (some ⟨g,0,none⟩),.int .i64 (i:Int),.pointer (some ⟨g,0,none⟩),.int .i64 (j:Int),.pointer (some ⟨g,0,none⟩),.int .i64 (k:Int),.pointer (some ⟨g,0,none⟩),.int .i64 (l:Int)]
abbrev eD(g:Nat)(kd:Int)(ca cb cc i j k l:Nat):Obj:=.cells #[.int .i64 kd,.float .f64 ca,.float .f64 cb,.float .f64 cc,.pointer (some ⟨g,0,none⟩),.int .i64 (i:Int),.pointer (some ⟨g,0,none⟩),.int .i64 (j:Int),.pointer (some ⟨g,0,none⟩),.int .i64 (k:Int),.pointer (some ⟨g,0,none⟩),.int .i64 (l:Int)] 38
theorem ixs0(a0 a1 a2 a3 a4 a5 a6 a7:Value)(w:World):(biV 82 (.agg #[a0,a1,a2,a3,a4,a5,a6,a7]) (.int .i64 0)).run Tryz.prog w=.ok (.agg #[a0,a1,a2,a3]) w:=by kernel_rfl
theorem ixs1(a0 a1 a2 a3 a4 a5 a6 a7:Value)(w:World):(biV 82 (.agg #[a0,a1,a2,a3,a4,a5,a6,a7]) (.int .i64 1)).run Tryz.prog w=.ok (.agg #[a4,a5,a6,a7]) w:=by kernel_rfl
def chkA(b:Bool):Value:=if b then .nilIface else .iface 99 (.int .i64 4)
section
variable{g i j k l m n ca cb cc:Nat}{kd:Int}{A1 A2 B1 B2 X1 X2 E:Ex}
theorem af1(hk:(kd==1)=li)(hM:∀w,Calls Tryz.prog 27 #[curV kd ca cb cc] w (RetV w .nilIface))(hV:FnOk (cond li 47 49) g 9 #[.pointer (some ⟨g,0,none⟩),curV kd ca cb cc,bD g i j] [(X1,i),(X2,j)] (fun ks=>numV g (ks.getD 0 0)) [E])(hS:fK PT E q):
 FnOk 29 g 9 #[.pointer (some ⟨g,0,none⟩),curV kd ca cb cc,bD g i j] [(X1,i),(X2,j)] (fun _=>.tuple #[.int .i64 q,.nilIface]) []:=fun s N K L W hR hN hK=>by
 obtain⟨w1,hw1,b1,b2,R1⟩:=hR.box2 (curO kd ca cb cc) (dN g i j);obtain⟨x0,x1,x2,x3⟩:=aD b1;have HC:=hdd (RetV.run (c:=fun _=>True) R1 (hM w1));have HV:=hdd hV;have HS:=hdd hS;have HN:=hdd hN;have HK:=hdd hK;clear b1 b2 R1 hR hM hV hS hN hK;go_enter Tryz.func29,Tryz.ntmps29
 go_wp2_with fail
 refine HC.out.mono ?_;rintro e w2⟨rfl,hR⟩;obtain⟨x0,x1,x2,x3⟩:=aD (hR.at m1);obtain⟨y0,y1,y2,y3⟩:=aD (hR.at m0);have HC:=hdd (HV.out _ _ _ _ _ hR HN.out HK.out);clear hR HV
 cases li
 all_goals
  go_wp2_with fail
  refine HC.out.mono ?_;rintro e w3⟨ks,hl,rfl,hR⟩;obtain⟨k1,rfl⟩:∃k,ks=[k]:=by
   match ks,hl with
   |[k],_=>exact⟨k,rfl⟩
  have HC:=hdd (hR.sign (List.mem_cons_self ..) HS.out);clear hR;go_wp2_with fail
  refine HC.out.mono ?_;rintro e w4⟨rfl,hR⟩;replace hR:=hR.few (K':=K) (fun p hp=>biX _ hp);have HF:=hdd (RtN.out (v:=.tuple #[.int .i64 q,.nilIface]) ((hR.subl ((biS _ _).trans (biS _ _))).more (show _<=N+9 by omega)));clear hR;go_wp2
  go_ret2
  exact HF.out
theorem aeM{s1 s2:Int}{t:Bool}(hM:∀w,Calls Tryz.prog 27 #[curV kd ca cb cc] w (RetV w .nilIface))
 (h1:FnOk 29 g 9 #[.pointer (some ⟨g,0,none⟩),curV kd ca cb cc,bD g i j] [(A1,i),(A2,j)] (fun _=>.tuple #[.int .i64 s1,.nilIface]) []) (h2:FnOk 29 g 9 #[.pointer (some ⟨g,0,none⟩),curV kd ca cb cc,bD g k l] [(B1,k),(B2,l)] (fun _=>.tuple #[.int .i64 s2,.nilIface]) [])
 (hT:(kd==2)=true/\(FloatKind.f64.format.order cc 0==some Ordering.eq)=false/\t=true\/(kd==2)=false/\∃c,gQ PT A1 A2 B1 B2 c/\(c==0)= !t):
 FnOk 14 g 20 #[.pointer (some ⟨g,0,none⟩),aT g kd ca cb cc i j k l] [(A1,i),(A2,j),(B1,k),(B2,l)] (fun _=>chkA (s1==0&&s2==0&&t)) []:=fun s N K L W hR hN hK=>by
 obtain⟨w1,hw1,b1,R1⟩:=hR.box1 (eD g kd ca cb cc i j k l);obtain⟨x0,x1,x2,x3,x4,x5,x6,x7,x8,x9,x10,x11⟩:=aF b1;have HC:=hdd (RetV.run (c:=fun _=>True) R1 (hM w1));have O1:=hdd h1;have O2:=hdd h2;have HT:=hdd hT;have HN:=hdd hN;have HK:=hdd hK;clear b1 R1 hR hM h1 h2 hT hN hK;go_enter Tryz.func14,Tryz.ntmps14
 go_wp2_with fail
 refine HC.out.mono ?_;rintro e w2⟨rfl,hR⟩;obtain⟨x0,x1,x2,x3,x4,x5,x6,x7,x8,x9,x10,x11⟩:=aF (hR.at m0);have HR:=hdd hR;have ix0:=ixs0;have ix1:=ixs1;clear hR;go_wp2_with fail
 refine wp_loop_rounds 3 ?_;have hR:=HR.out;clear HR;obtain⟨w3,hw3,b1,hR⟩:=hR.box1 (dN g i j);obtain⟨x0,x1,x2,x3,x4,x5,x6,x7,x8,x9,x10,x11⟩:=aF (hR.at m1);obtain⟨y0,y1,y2,y3⟩:=aD b1;have HC:=hdd (O1.out.use hR (by have:=HN.out;omega) (fun p hp=>HK.out p ((eQ [0,1]) p hp)));clear hR b1;rw[rounds_succ];go_wp2_with fail
 refine HC.out.mono ?_;rintro e w4⟨rfl,hR⟩
 cases e1:(s1==0)
 . have HC:=hdd (RetV.run (c:=fun _=>True) hR (nA (w:=_)))
   clear hR;go_wp2_with fail
   refine HC.out.mono ?_;rintro e wz⟨rfl,hR⟩;have HF:Hid (RtN s g (N+20) K L (fun _=>chkA (s1==0&&s2==0&&t)) [] (.returned (.iface 99 (.int .i64 4))) wz):=hdd (by rw[e1,biU,biU];exact RtN.out (v:=.iface 99 (.int .i64 4)) ((hR.subl ((biS _ _).trans (biS _ _))).more (by omega)));clear hR;go_wp2;go_ret;exact HF.out
 go_wp2_with fail
 obtain⟨w5,hw5,b1,hR⟩:=hR.box1 (dN g k l);obtain⟨x0,x1,x2,x3,x4,x5,x6,x7,x8,x9,x10,x11⟩:=aF (hR.at m2);obtain⟨y0,y1,y2,y3⟩:=aD b1;have HC:=hdd (O2.out.use hR (by have:=HN.out;omega) (fun p hp=>HK.out p ((eQ [2,3]) p hp)));clear hR b1;rw[rounds_succ];go_wp2_with fail
 refine HC.out.mono ?_;rintro e w6⟨rfl,hR⟩
 cases e2:(s2==0)
 . have HC:=hdd (RetV.run (c:=fun _=>True) hR (nA (w:=_)))
   clear hR;go_wp2_with fail
   refine HC.out.mono ?_;rintro e wz⟨rfl,hR⟩;have HF:Hid (RtN s g (N+20) K L (fun _=>chkA (s1==0&&s2==0&&t)) [] (.returned (.iface 99 (.int .i64 4))) wz):=hdd (by rw[e1,e2,biY,biU];exact RtN.out (v:=.iface 99 (.int .i64 4)) ((hR.subl ((biS _ _).trans ((biS _ _).trans (biS _ _)))).more (by omega)));clear hR;go_wp2;go_ret;exact HF.out
 obtain⟨x0,x1,x2,x3,x4,x5,x6,x7,x8,x9,x10,x11⟩:=aF (hR.at m2);rcases HT.out with ⟨t1,t2,rfl⟩|⟨t1,c,hc,hct⟩
 . have HF:Hid (RtN s g (N+20) K L (fun _=>chkA (s1==0&&s2==0&&true)) [] (.returned (.nilIface)) w6):=hdd (by rw[e1,e2];exact RtN.out (v:=.nilIface) ((hR.subl ((biS _ _).trans ((biS _ _).trans (biS _ _)))).more (by omega)))
   clear hR HT;go_wp2_with fail
   rw[rounds_succ];go_wp2;go_ret;exact HF.out
 . have HC:=hdd (hR.same (by have:=HN.out;omega) (HK.out _ m0) (HK.out _ m1) (HK.out _ m2) (HK.out _ m3) hc)
   clear hR HT hc;go_wp2_with fail
   rw[rounds_succ];go_wp2_with fail
   refine HC.out.mono ?_;rintro e w7⟨rfl,hR⟩
   cases t
   . have HC:=hdd (RetV.run (c:=fun _=>True) hR (nA (w:=_)))
     clear hR;go_wp2_with fail
     refine HC.out.mono ?_;rintro e wz⟨rfl,hR⟩;have HF:Hid (RtN s g (N+20) K L (fun _=>chkA (s1==0&&s2==0&&false)) [] (.returned (.iface 99 (.int .i64 4))) wz):=hdd (by rw[e1,e2];exact RtN.out (v:=.iface 99 (.int .i64 4)) ((hR.subl ((biS _ _).trans ((biS _ _).trans (biS _ _)))).more (by omega)));clear hR;go_wp2;go_ret;exact HF.out
   . have HF:Hid (RtN s g (N+20) K L (fun _=>chkA (s1==0&&s2==0&&true)) [] (.returned (.nilIface)) w7):=hdd (by rw[e1,e2];exact RtN.out (v:=.nilIface) ((hR.subl ((biS _ _).trans ((biS _ _).trans (biS _ _)))).more (by omega)))
     clear hR;go_wp2;go_ret;exact HF.out
theorem alY(hk:(kd==1)=li)(hO:FnOk 29 g 9 #[.pointer (some ⟨g,0,none⟩),curV kd ca cb cc,bD g m n] [(X1,m),(X2,n)] (fun _=>.tuple #[.int .i64 q,.nilIface]) [])(hB:FnOk (cond li 78 79) g 13 #[bD g i j,bD g k l,bD g m n] [(A1,i),(A2,j),(B1,k),(B2,l),(X1,m),(X2,n)] (fun _=>.tuple #[.bool r,.nilIface]) []):
 FnOk 60 g 22 #[.pointer (some ⟨g,0,none⟩),aT g kd ca cb cc i j k l,bD g m n] [(A1,i),(A2,j),(B1,k),(B2,l),(X1,m),(X2,n)] (fun _=>.tuple #[.bool (q==0&&r),.nilIface]) []:=fun s N K L W hR hN hK=>by
 obtain⟨w1,hw1,b1,b2,R1⟩:=hR.box2 (eD g kd ca cb cc i j k l) (dN g m n);obtain⟨x0,x1,x2,x3,x4,x5,x6,x7,x8,x9,x10,x11⟩:=aF b1;obtain⟨y0,y1,y2,y3⟩:=aD b2;have HC:=hdd (hO.use R1 (by omega) (fun p hp=>hK p ((eQ [4,5]) p hp)));have HB:=hdd hB;have HN:=hdd hN;have HK:=hdd hK;clear b1 b2 R1 hR hO hB hN hK;go_enter Tryz.func60,Tryz.ntmps60
 go_wp2_with fail
 refine HC.out.mono ?_;rintro e w2⟨rfl,hR⟩
 cases e1:(q==0)
 . have HF:Hid (RtN s g (N+22) K L (fun _=>.tuple #[.bool (q==0&&r),.nilIface]) [] (.returned (.tuple #[.bool false,.nilIface])) w2):=hdd (by rw[e1];exact RtN.out (v:=.tuple #[.bool false,.nilIface]) ((hR.subl ((biS _ _).trans (biS _ _))).more (by omega)))
   clear hR HB;go_wp2
   go_ret2
   exact HF.out
 obtain⟨x0,x1,x2,x3,x4,x5,x6,x7,x8,x9,x10,x11⟩:=aF (hR.at m1);obtain⟨y0,y1,y2,y3⟩:=aD (hR.at m0);have HC:=hdd (HB.out.use hR (by have:=HN.out;omega) HK.out);clear hR HB
 cases li
 all_goals
  go_wp2_with fail
  refine HC.out.mono ?_;rintro e w3⟨rfl,hR⟩;have HF:Hid (RtN s g (N+22) K L (fun _=>.tuple #[.bool (q==0&&r),.nilIface]) [] (.returned (.tuple #[.bool r,.nilIface])) w3):=hdd (by rw[e1];exact RtN.out (v:=.tuple #[.bool r,.nilIface]) ((hR.subl ((biS _ _).trans (biS _ _))).more (by omega)));clear hR;go_wp2
  go_ret2
  exact HF.out
theorem ah7(hC:FnOk 14 g 20 #[.pointer (some ⟨g,0,none⟩),aT g kd ca cb cc i j k l] [(A1,i),(A2,j),(B1,k),(B2,l)] (fun _=>.nilIface) [])(hH:FnOk 60 g 22 #[.pointer (some ⟨g,0,none⟩),aT g kd ca cb cc i j k l,bD g m n] [(A1,i),(A2,j),(B1,k),(B2,l),(X1,m),(X2,n)] (fun _=>.tuple #[.bool r,.nilIface]) []):
 FnOk 39 g 42 #[.pointer (some ⟨g,0,none⟩),aT g kd ca cb cc i j k l,bD g m n] [(A1,i),(A2,j),(B1,k),(B2,l),(X1,m),(X2,n)] (fun _=>.tuple #[.bool r,.nilIface]) []:=fun s N K L W hR hN hK=>by
 obtain⟨w1,hw1,b1,b2,R1⟩:=hR.box2 (eD g kd ca cb cc i j k l) (dN g m n);obtain⟨x0,x1,x2,x3,x4,x5,x6,x7,x8,x9,x10,x11⟩:=aF b1;obtain⟨y0,y1,y2,y3⟩:=aD b2;have HC:=hdd (hC.use R1 (by omega) (fun p hp=>hK p ((eQ [0,1,2,3]) p hp)));have HB:=hdd hH;have HN:=hdd hN;have HK:=hdd hK;clear b1 b2 R1 hR hC hH hN hK;go_enter Tryz.func39,Tryz.ntmps39
 go_wp2_with fail
 refine HC.out.mono ?_;rintro e w2⟨rfl,hR⟩;obtain⟨x0,x1,x2,x3,x4,x5,x6,x7,x8,x9,x10,x11⟩:=aF (hR.at m1);obtain⟨y0,y1,y2,y3⟩:=aD (hR.at m0);have HC:=hdd (HB.out.use hR (by have:=HN.out;omega) HK.out);clear hR HB;go_wp2_with fail
 refine HC.out.mono ?_;rintro e w3⟨rfl,hR⟩;have HF:=hdd (RtN.out (v:=.tuple #[.bool r,.nilIface]) ((hR.subl ((biS _ _).trans (biS _ _))).more (show _<=N+42 by omega)));clear hR;go_wp2
 go_ret2
 exact HF.out
end
theorem ixr0(a0 a1 a2 a3 a4 a5 a6 a7 a8 a9 a10 a11 a12 a13 a14 a15 a16 a17 a18 a19 a20 a21 a22 a23:Value)(w:World):(biV 161 (.agg #[a0,a1,a2,a3,a4,a5,a6,a7,a8,a9,a10,a11,a12,a13,a14,a15,a16,a17,a18,a19,a20,a21,a22,a23]) (.int .i64 0)).run Tryz.prog w=.ok (.agg #[a0,a1,a2,a3,a4,a5,a6,a7]) w:=by kernel_rfl
theorem ixr1(a0 a1 a2 a3 a4 a5 a6 a7 a8 a9 a10 a11 a12 a13 a14 a15 a16 a17 a18 a19 a20 a21 a22 a23:Value)(w:World):(biV 161 (.agg #[a0,a1,a2,a3,a4,a5,a6,a7,a8,a9,a10,a11,a12,a13,a14,a15,a16,a17,a18,a19,a20,a21,a22,a23]) (.int .i64 1)).run Tryz.prog w=.ok (.agg #[a8,a9,a10,a11,a12,a13,a14,a15]) w:=by kernel_rfl
theorem ixr2(a0 a1 a2 a3 a4 a5 a6 a7 a8 a9 a10 a11 a12 a13 a14 a15 a16 a17 a18 a19 a20 a21 a22 a23:Value)(w:World):(biV 161 (.agg #[a0,a1,a2,a3,a4,a5,a6,a7,a8,a9,a10,a11,a12,a13,a14,a15,a16,a17,a18,a19,a20,a21,a22,a23]) (.int .i64 2)).run Tryz.prog w=.ok (.agg #[a16,a17,a18,a19,a20,a21,a22,a23]) w:=by kernel_rfl
theorem aeN{g i j k l m n:Nat}{A1 A2 B1 B2 X1 X2:Ex}{c1 c2 c3:Int}(h1:gQ PT A1 A2 B1 B2 c1)(h2:gQ PT X1 X2 A1 A2 c2)(h3:gQ PT X1 X2 B1 B2 c3)(h4:aaE PT A1 A2 X1 X2 B1 B2 q):
 FnOk 79 g 13 #[bD g i j,bD g k l,bD g m n] [(A1,i),(A2,j),(B1,k),(B2,l),(X1,m),(X2,n)] (fun _=>.tuple #[.bool ((c1==0)||(c2==0)||(c3==0)||(q==1)),.nilIface]) []:=fun s N K L W hR hN hK=>by
 obtain⟨w1,hw1,-,-,R1⟩:=hR.box2 (dN g i j) (dN g k l);obtain⟨w2,hw2,-,hR⟩:=R1.box1 (dN g m n);obtain⟨x0,x1,x2,x3⟩:=aD (hR.at m2);obtain⟨y0,y1,y2,y3⟩:=aD (hR.at m1);obtain⟨z0,z1,z2,z3⟩:=aD (hR.at m0);have HR:=hdd hR;have H1:=hdd h1;have H2:=hdd h2;have H3:=hdd h3;have H4:=hdd h4;have HN:=hdd hN;have HK:=hdd hK;have ix0:=ixr0;have ix1:=ixr1;have ix2:=ixr2;clear R1 hR h1 h2 h3 h4 hN hK;go_enter Tryz.func79,Tryz.ntmps79
 go_wp2_with fail
 refine wp_loop_rounds 4 ?_;have hR:=HR.out;clear HR;obtain⟨w3,hw3,b1,hR⟩:=hR.box1 (.cells #[.pointer (some ⟨g,0,none⟩),.int .i64 (i:Int),.pointer (some ⟨g,0,none⟩),.int .i64 (j:Int),.pointer (some ⟨g,0,none⟩),.int .i64 (k:Int),.pointer (some ⟨g,0,none⟩),.int .i64 (l:Int)] 82);obtain⟨u0,u1,u2,u3,u4,u5,u6,u7⟩:=qF b1;have HC:=hdd (hR.same (by have:=HN.out;omega) (HK.out _ m0) (HK.out _ m1) (HK.out _ m2) (HK.out _ m3) H1.out);clear hR b1;rw[rounds_succ];go_wp2_with fail
 refine HC.out.mono ?_;rintro e w4⟨rfl,hR⟩
 cases e1:(c1==0)
 case' true=>
  have HF:Hid (RtN s g (N+13) K L (fun _=>.tuple #[.bool ((c1==0)||(c2==0)||(c3==0)||(q==1)),.nilIface]) [] (.returned (.tuple #[.bool true,.nilIface])) w4):=hdd (by simp only[e1,biT,biW];exact RtN.out (v:=.tuple #[.bool true,.nilIface]) ((hR.subl ((biS _ _).trans ((biS _ _).trans ((biS _ _).trans (biS _ _))))).more (by omega)));clear hR;go_wp2
  go_ret2
  exact HF.out
 go_wp2_with fail
 obtain⟨w5,hw5,b1,hR⟩:=hR.box1 (.cells #[.pointer (some ⟨g,0,none⟩),.int .i64 (m:Int),.pointer (some ⟨g,0,none⟩),.int .i64 (n:Int),.pointer (some ⟨g,0,none⟩),.int .i64 (i:Int),.pointer (some ⟨g,0,none⟩),.int .i64 (j:Int)] 82);obtain⟨u0,u1,u2,u3,u4,u5,u6,u7⟩:=qF b1;have HC:=hdd (hR.same (by have:=HN.out;omega) (HK.out _ m4) (HK.out _ m5) (HK.out _ m0) (HK.out _ m1) H2.out);clear hR b1;rw[rounds_succ];go_wp2_with fail
 refine HC.out.mono ?_;rintro e w6⟨rfl,hR⟩
 cases e2:(c2==0)
 case' true=>
  have HF:Hid (RtN s g (N+13) K L (fun _=>.tuple #[.bool ((c1==0)||(c2==0)||(c3==0)||(q==1)),.nilIface]) [] (.returned (.tuple #[.bool true,.nilIface])) w6):=hdd (by simp only[e1,e2,biT,biW];exact RtN.out (v:=.tuple #[.bool true,.nilIface]) ((hR.subl ((biS _ _).trans ((biS _ _).trans ((biS _ _).trans ((biS _ _).trans (biS _ _)))))).more (by omega)));clear hR;go_wp2
  go_ret2
  exact HF.out
 go_wp2_with fail
 obtain⟨w7,hw7,b1,hR⟩:=hR.box1 (.cells #[.pointer (some ⟨g,0,none⟩),.int .i64 (m:Int),.pointer (some ⟨g,0,none⟩),.int .i64 (n:Int),.pointer (some ⟨g,0,none⟩),.int .i64 (k:Int),.pointer (some ⟨g,0,none⟩),.int .i64 (l:Int)] 82);obtain⟨u0,u1,u2,u3,u4,u5,u6,u7⟩:=qF b1;have HC:=hdd (hR.same (by have:=HN.out;omega) (HK.out _ m4) (HK.out _ m5) (HK.out _ m2) (HK.out _ m3) H3.out);clear hR b1;rw[rounds_succ];go_wp2_with fail
 refine HC.out.mono ?_;rintro e w8⟨rfl,hR⟩
 cases e3:(c3==0)
 case' true=>
  have HF:Hid (RtN s g (N+13) K L (fun _=>.tuple #[.bool ((c1==0)||(c2==0)||(c3==0)||(q==1)),.nilIface]) [] (.returned (.tuple #[.bool true,.nilIface])) w8):=hdd (by simp only[e1,e2,e3,biT,biW];exact RtN.out (v:=.tuple #[.bool true,.nilIface]) ((hR.subl ((biS _ _).trans ((biS _ _).trans ((biS _ _).trans ((biS _ _).trans ((biS _ _).trans (biS _ _))))))).more (by omega)));clear hR;go_wp2
  go_ret2
  exact HF.out
 obtain⟨x0,x1,x2,x3⟩:=aD (hR.at m5);obtain⟨y0,y1,y2,y3⟩:=aD (hR.at m4);obtain⟨z0,z1,z2,z3⟩:=aD (hR.at m3);have HC:=hdd (hR.turn (by have:=HN.out;omega) (HK.out _ m0) (HK.out _ m1) (HK.out _ m4) (HK.out _ m5) (HK.out _ m2) (HK.out _ m3) H4.out);clear hR;go_wp2_with fail
 rw[rounds_succ];go_wp2_with fail
 refine HC.out.mono ?_;rintro e w9⟨rfl,hR⟩;have HF:Hid (RtN s g (N+13) K L (fun _=>.tuple #[.bool ((c1==0)||(c2==0)||(c3==0)||(q==1)),.nilIface]) [] (.returned (.tuple #[.bool (q==1),.nilIface])) w9):=hdd (by simp only[e1,e2,e3,biT];exact RtN.out (v:=.tuple #[.bool (q==1),.nilIface]) ((hR.subl ((biS _ _).trans ((biS _ _).trans ((biS _ _).trans ((biS _ _).trans ((biS _ _).trans (biS _ _))))))).more (by omega)));clear hR;go_wp2
 go_ret2
 exact HF.out
theorem ac4{w:World}{g:Nat}{T:TypeId}{v0 v1 v2 v3 v4 v5 v6 v7 v8 v9 v10 v11 v12 v13 v14 v15 v16 v17 v18 v19 v20 v21 v22 v23:Value}(h:w.heap[g]? =some (.cells #[v0,v1,v2,v3,v4,v5,v6,v7,v8,v9,v10,v11,v12,v13,v14,v15,v16,v17,v18,v19,v20,v21,v22,v23] T (0,0))):
 w.cell? ⟨g,0,none⟩=some v0/\w.cell? ⟨g,1,none⟩=some v1/\w.cell? ⟨g,2,none⟩=some v2/\w.cell? ⟨g,3,none⟩=some v3/\w.cell? ⟨g,4,none⟩=some v4/\w.cell? ⟨g,5,none⟩=some v5/\w.cell? ⟨g,6,none⟩=some v6/\w.cell? ⟨g,7,none⟩=some v7/\w.cell? ⟨g,8,none⟩=some v8/\w.cell? ⟨g,9,none⟩=some v9/\w.cell? ⟨g,10,none⟩=some v10/\w.cell? ⟨g,11,none⟩=some v11/\w.cell? ⟨g,12,none⟩=some v12/\w.cell? ⟨g,13,none⟩=some v13/\w.cell? ⟨g,14,none⟩=some v14/\w.cell? ⟨g,15,none⟩=some v15/\w.cell? ⟨g,16,none⟩=some v16/\w.cell? ⟨g,17,none⟩=some v17/\w.cell? ⟨g,18,none⟩=some v18/\w.cell? ⟨g,19,none⟩=some v19/\w.cell? ⟨g,20,none⟩=some v20/\w.cell? ⟨g,21,none⟩=some v21/\w.cell? ⟨g,22,none⟩=some v22/\w.cell? ⟨g,23,none⟩=some v23:=
 ⟨aL (k:=0) h rfl,aL (k:=1) h rfl,aL (k:=2) h rfl,aL (k:=3) h rfl,aL (k:=4) h rfl,aL (k:=5) h rfl,aL (k:=6) h rfl,aL (k:=7) h rfl,aL (k:=8) h rfl,aL (k:=9) h rfl,aL (k:=10) h rfl,aL (k:=11) h rfl,aL (k:=12) h rfl,aL (k:=13) h rfl,aL (k:=14) h rfl,aL (k:=15) h rfl,aL (k:=16) h rfl,aL (k:=17) h rfl,aL (k:=18) h rfl,aL (k:=19) h rfl,aL (k:=20) h rfl,aL (k:=21) h rfl,aL (k:=22) h rfl,aL (k:=23) h rfl⟩
abbrev alZ(g:Nat)(kd:Int)(ca cb cc i j k l:Nat)(kd':Int)(ca' cb' cc' i' j' k' l':Nat):Obj:=(.cells #[.int .i64 kd,.float .f64 ca,.float .f64 cb,.float .f64 cc,.pointer (some ⟨g,0,none⟩),.int .i64 (i:Int),.pointer (some ⟨g,0,none⟩),.int .i64 (j:Int),.pointer (some ⟨g,0,none⟩),.int .i64 (k:Int),.pointer (some ⟨g,0,none⟩),.int .i64 (l:Int),.int .i64 kd',.float .f64 ca',.float .f64 cb',.float .f64 cc',.pointer (some ⟨g,0,none⟩),.int .i64 (i':Int),.pointer (some ⟨g,0,none⟩),.int .i64 (j':Int),.pointer (some ⟨g,0,none⟩),.int .i64 (k':Int),.pointer (some ⟨g,0,none⟩),.int .i64 (l':Int)] 38)
theorem zC{g b i j k l ca cb cc i' j' k' l' ca' cb' cc':Nat}{kd kd':Int}{K1 K2:List (Ex×Nat)}(h1:FnOk 14 g 20 #[.pointer (some ⟨g,0,none⟩),aT g kd ca cb cc i j k l] K1 (fun _=>.nilIface) [])(h2:FnOk 14 g 20 #[.pointer (some ⟨g,0,none⟩),aT g kd' ca' cb' cc' i' j' k' l'] K2 (fun _=>.nilIface) [])
 {s:Bs} {N:Nat} {K:List (Ex×Nat)} {L:List (Nat×Obj)} {W:World} (hR:Run s g N K L W) (hm:(b,alZ g kd ca cb cc i j k l kd' ca' cb' cc' i' j' k' l')∈L) (hN:N+40<=20000) (k1:∀p∈K1,p∈K) (k2:∀p∈K2,p∈K):
 Calls Tryz.prog 32 #[.pointer (some ⟨g,0,none⟩),.slice (some ⟨b,0,none⟩) 2 2] W (fun e W'=>e=.returned .nilIface/\Run s g (N+40) K L W'):=by
 have HR:=hdd hR;have HM:=hdd hm;have HN:=hdd hN;have C1:=hdd h1;have C2:=hdd h2;have K1:=hdd k1;have K2:=hdd k2;have hst:=aN;clear hR hm hN h1 h2 k1 k2;go_enter Tryz.func32,Tryz.ntmps32
 go_wp2_with fail
 refine wp_loop_rounds 3 ?_;have hR:=HR.out;clear HR;obtain⟨z0,z1,z2,z3,z4,z5,z6,z7,z8,z9,z10,z11,z12,z13,z14,z15,z16,z17,z18,z19,z20,z21,z22,z23⟩:=ac4 (hR.at HM.out);obtain⟨w1,hw1,b1,hR⟩:=hR.box1 (eD g kd ca cb cc i j k l);obtain⟨x0,x1,x2,x3,x4,x5,x6,x7,x8,x9,x10,x11⟩:=aF b1;have HC:=hdd (C1.out.use hR (by have:=HN.out;omega) K1.out);clear hR b1;rw[rounds_succ];go_wp2_with fail
 refine HC.out.mono ?_;rintro e w2⟨rfl,hR⟩;go_wp2_with fail
 obtain⟨z0,z1,z2,z3,z4,z5,z6,z7,z8,z9,z10,z11,z12,z13,z14,z15,z16,z17,z18,z19,z20,z21,z22,z23⟩:=ac4 (hR.at (biX _ HM.out));obtain⟨w3,hw3,b1,hR⟩:=hR.box1 (eD g kd' ca' cb' cc' i' j' k' l');obtain⟨x0,x1,x2,x3,x4,x5,x6,x7,x8,x9,x10,x11⟩:=aF b1;have HC:=hdd (C2.out.use hR (by have:=HN.out;omega) K2.out);clear hR b1;rw[rounds_succ];go_wp2_with fail
 refine HC.out.mono ?_;rintro e w4⟨rfl,hR⟩;have HF:=hdd (show Run s g (N+40) K L w4 from(hR.subl ((biS _ _).trans (biS _ _))).more (by omega));clear hR;go_wp2_with fail
 rw[rounds_succ];go_wp2;go_ret;exact⟨rfl,HF.out⟩
section
variable{s:Bs}{g N M:Nat}{K:List (Ex×Nat)}{L L1:List (Nat×Obj)}{W:World}{v:Value}
theorem Run.rest (hR:Run s g N K (L1++L) W):Run s g N K L W:=hR.subl (List.sublist_append_right _ _)
theorem FnOk.upto {f:FuncId}{d d':Nat}{av:Array Value}{K0:List (Ex×Nat)}{V:List Nat->Value}{es:List Ex}(h:FnOk f g d av K0 V es)(hd:d<=d'):FnOk f g d' av K0 V es:=fun s N K l W hR hN hK=>(h s N K l W hR (by omega) hK).mono fun _ _ ⟨ks,h1,h2,h3⟩=>⟨ks,h1,h2,h3.more (by omega)⟩
theorem RtN.fin (hR:Run s g M K (L1++L) W)(h:M<=N):RtN s g N K L (fun _=>v) [] (.returned v) W:=RtN.out (hR.rest.more h)
end
section
variable{g i j k l ca cb cc i' j' k' l' ca' cb' cc':Nat}{kd kd':Int}{A1 A2 B1 B2 C1 C2 D1 D2:Ex}{K0 KA KB:List (Ex×Nat)}
theorem lZ(h:(kd==2)=true/\(∃c,gQ PT A1 A2 B1 B2 c/\(c==0)=b)\/(kd==2)=false/\b=false):
 FnOk 37 g 4 #[aT g kd ca cb cc i j k l] [(A1,i),(A2,j),(B1,k),(B2,l)] (fun _=>.tuple #[.bool b,.nilIface]) []:=fun s N K L W hR hN hK=>by
 obtain⟨w1,hw1,b1,hR⟩:=hR.box1 (eD g kd ca cb cc i j k l);obtain⟨x0,x1,x2,x3,x4,x5,x6,x7,x8,x9,x10,x11⟩:=aF b1;have H:=hdd h;have HN:=hdd hN;have HK:=hdd hK;have HR:=hdd hR;clear b1 hR h hN hK;go_enter Tryz.func37,Tryz.ntmps37
 rcases H.out with ⟨t1,c,hc,rfl⟩|⟨t1,rfl⟩
 . have HC:=hdd (HR.out.same (by have:=HN.out;omega) (HK.out _ m0) (HK.out _ m1) (HK.out _ m2) (HK.out _ m3) hc)
   clear H HR hc;go_wp2_with fail
   refine HC.out.mono ?_;rintro e w2⟨rfl,hR⟩;have HF:Hid (RtN s g (N+4) K L (fun _=>.tuple #[.bool (c==0),.nilIface]) [] (.returned (.tuple #[.bool (c==0),.nilIface])) w2):=hdd (by exact RtN.fin (L1:=[_]) hR (by omega));clear hR;go_wp2
   go_ret2
   exact HF.out
 . have HF:Hid (RtN s g (N+4) K L (fun _=>.tuple #[.bool false,.nilIface]) [] (.returned (.tuple #[.bool false,.nilIface])) w1):=hdd (RtN.fin (L1:=[_]) HR.out (by omega))
   clear H HR;go_wp2
   go_ret2
   exact HF.out
theorem xE{r1 r2:Bool}(h1:FnOk 37 g 4 #[aT g kd ca cb cc i j k l] KA (fun _=>.tuple #[.bool r1,.nilIface]) [])(h2:FnOk 37 g 4 #[aT g kd' ca' cb' cc' i' j' k' l'] KB (fun _=>.tuple #[.bool r2,.nilIface]) [])(hA:∀p∈KA,p∈K0)(hB:∀p∈KB,p∈K0):
 FnOk 21 g 8 #[aT g kd ca cb cc i j k l,aT g kd' ca' cb' cc' i' j' k' l'] K0 (fun _=>.tuple #[.bool (r1||r2),.nilIface]) []:=fun s N K L W hR hN hK=>by
 obtain⟨w1,hw1,b1,b2,hR⟩:=hR.box2 (eD g kd ca cb cc i j k l) (eD g kd' ca' cb' cc' i' j' k' l');obtain⟨x0,x1,x2,x3,x4,x5,x6,x7,x8,x9,x10,x11⟩:=aF b1;have HC:=hdd (h1.use hR (by omega) fun p hp=>hK p (hA p hp));have H2:=hdd h2;have HB:=hdd hB;have HN:=hdd hN;have HK:=hdd hK;clear b1 b2 hR h1 h2 hA hB hN hK;go_enter Tryz.func21,Tryz.ntmps21
 go_wp2_with fail
 refine HC.out.mono ?_;rintro e w2⟨rfl,hR⟩
 cases r1
 case' true=>
  have HF:Hid (RtN s g (N+8) K L (fun _=>.tuple #[.bool (true||r2),.nilIface]) [] (.returned (.tuple #[.bool true,.nilIface])) w2):=hdd (by rw[biW];exact RtN.fin (L1:=[_,_]) hR (by omega));clear hR;go_wp2
  go_ret2
  exact HF.out
 obtain⟨x0,x1,x2,x3,x4,x5,x6,x7,x8,x9,x10,x11⟩:=aF (hR.at m0);have HC:=hdd (H2.out.use hR (by have:=HN.out;omega) fun p hp=>HK.out p (HB.out p hp));clear hR;go_wp2_with fail
 refine HC.out.mono ?_;rintro e w3⟨rfl,hR⟩;have HF:Hid (RtN s g (N+8) K L (fun _=>.tuple #[.bool (false||r2),.nilIface]) [] (.returned (.tuple #[.bool r2,.nilIface])) w3):=hdd (by rw[biT];exact RtN.fin (L1:=[_,_]) hR (by omega));clear hR;go_wp2
 go_ret2
 exact HF.out
theorem sW{c:Int}(h1:FnOk 39 g 42 #[.pointer (some ⟨g,0,none⟩),aT g kd' ca' cb' cc' i' j' k' l',bD g i j] KA (fun _=>.tuple #[.bool b,.nilIface]) [])(h2:gQ PT A1 A2 D1 D2 c)(hA:∀p∈KA,p∈K0)(hB:∀p∈[(A1,i),(A2,j),(D1,k'),(D2,l')],p∈K0):
 FnOk 34 g 44 #[.pointer (some ⟨g,0,none⟩),aT g kd ca cb cc i j k l,aT g kd' ca' cb' cc' i' j' k' l'] K0 (fun _=>.tuple #[.bool (b&& !(c==0)),.nilIface]) []:=fun s N K L W hR hN hK=>by
 obtain⟨w1,hw1,b1,b2,hR⟩:=hR.box2 (eD g kd ca cb cc i j k l) (eD g kd' ca' cb' cc' i' j' k' l');obtain⟨x0,x1,x2,x3,x4,x5,x6,x7,x8,x9,x10,x11⟩:=aF b1;obtain⟨z0,z1,z2,z3,z4,z5,z6,z7,z8,z9,z10,z11⟩:=aF b2;have HC:=hdd (h1.use hR (by omega) fun p hp=>hK p (hA p hp));have H2:=hdd h2;have HB:=hdd hB;have HN:=hdd hN;have HK:=hdd hK;clear b1 b2 hR h1 h2 hA hB hN hK;go_enter Tryz.func34,Tryz.ntmps34
 go_wp2_with fail
 refine HC.out.mono ?_;rintro e w2⟨rfl,hR⟩
 cases b
 case' false=>
  have HF:Hid (RtN s g (N+44) K L (fun _=>.tuple #[.bool (false&& !(c==0)),.nilIface]) [] (.returned (.tuple #[.bool false,.nilIface])) w2):=hdd (by rw[biU];exact RtN.fin (L1:=[_,_]) hR (by omega));clear hR;go_wp2
  go_ret2
  exact HF.out
 obtain⟨x0,x1,x2,x3,x4,x5,x6,x7,x8,x9,x10,x11⟩:=aF (hR.at m1);obtain⟨z0,z1,z2,z3,z4,z5,z6,z7,z8,z9,z10,z11⟩:=aF (hR.at m0);have HC:=hdd (hR.same (by have:=HN.out;omega) (HK.out _ (HB.out _ m0)) (HK.out _ (HB.out _ m1)) (HK.out _ (HB.out _ m2)) (HK.out _ (HB.out _ m3)) H2.out);clear hR;go_wp2_with fail
 refine HC.out.mono ?_;rintro e w3⟨rfl,hR⟩;have HF:Hid (RtN s g (N+44) K L (fun _=>.tuple #[.bool (true&& !(c==0)),.nilIface]) [] (.returned (.tuple #[.bool (!(c==0)),.nilIface])) w3):=hdd (by rw[biY];exact RtN.fin (L1:=[_,_]) hR (by omega));clear hR;go_wp2
 go_ret2
 exact HF.out
end
end
end Go.Proofs.YtjdgaogkioabeaaGreatDoor
