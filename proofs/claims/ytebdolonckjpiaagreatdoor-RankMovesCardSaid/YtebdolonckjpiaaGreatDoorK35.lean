/- A part of the proof: contracts of functions and plain laws (IdA, InA, InB, RkA, RkB, RkC, BoA, BoB, RkD, OwA, RkE, IdB, IdW). -/
import Derived.Test.YtebdolonckjpiaaGreatDoorK34
import Derived.Shelf.Spec.SlicesInsert
import Derived.Shelf.Spec.SlicesInsertGrow
import Derived.Test.YtebdolonckjpiaaGreatDoorProg
import Derived.Test.YtebdolonckjpiaaGreatDoorK18
import Derived.Test.YtebdolonckjpiaaGreatDoorK19
import Derived.Test.YtebdolonckjpiaaGreatDoorK01
import Derived.Test.YtebdolonckjpiaaGreatDoorK13
import Derived.ArgAppend
import Derived.Test.YtebdolonckjpiaaGreatDoorK20
import Derived.Laws.MakeOwn
set_option linter.unusedVariables false
set_option linter.unusedSimpArgs false
set_option maxHeartbeats 25600000
set_option maxRecDepth 100000
namespace Go.Proofs.YtebdolonckjpiaaGreatDoor
open Go.RowKit Go.Maps Go.Stop Go.Extern
open List renaming setIfInBounds_toArray->bfE,map_cons->bfF,map_nil->bfG,set->bfH
theorem acS{g i j k l m n:Nat}{A1 A2 B1 B2 X1 X2:Ex}(h1:gL PT A1 A2 B1 B2 (-1))(h2:gL PT X1 X2 A1 A2 1)(h3:gL PT X1 X2 B1 B2 (-1)):FnOk 71 g 6 #[dE g i j,dE g k l,dE g m n] [(A1,i),(A2,j),(B1,k),(B2,l),(X1,m),(X2,n)] (fun ks=>.tuple #[.bool true,.nilIface]) []:=FnOk.of fun w B ns N hR hN=>by
 have R1:=hdd hR;clear hR;go_enter Tryz.func71,Tryz.ntmps71
 go_upto_region 0 with fail
 refine Spec.go [.w (.c (.ptr 6 0)),.w (.c (.ptr 7 0)),.w (.c (.ptr 8 0)),.w (.c (.v (Value.bool false))),.w (.c (.v Value.nilIface))] [0,1,2]
  [(0,A1),(1,A2),(2,B1),(3,B2),(4,X1),(5,X2)] [⟨6,43,aW g 0 1,none⟩,⟨7,43,aW g 2 3,none⟩,⟨8,43,aW g 4 5,none⟩]
  [0,0,0,0,0] [[],[],[],[],[]] [(0,cB g 0 1),(1,cB g 2 3),(2,cB g 4 5)]
  [4,5,6,7,8] [i,j,k,l,m,n] 5 N [] [] R1.out
  (fun b hM=>aA (aA (aA (aA (aA bV
    (dF b m0))
    (dF b m1))
    (dF b m2))
    (aD b))
    (aD b)) ?_
 intro b1 b2 b3 ν W2 hR;have R2:=hdd hR;clear hR R1;simp only[putL,bfE,bfH,fs0,fs1,fsn,dSw,dSt,dWc,dWa,dv,di,dp,ds',bfF,bfG,nuTn,nuT0,nuT1,nuU0,nuU1,dA12,dP8,dP24]
 go_upto_region 1 with fail
 refine Spec.go [cB g 0 1,cB g 2 3,.tup [.c (.v (.int .i64 (-1))),.c (.v .nilIface)],.tup [.c (.v (.int .i64 (-1))),.c (.v .nilIface)],.w (.c (.v (.int .i64 (-1)))),.w (.c (.v .nilIface)),.w (.c (.v (.int .i64 (-1)))),.w (.c (.v .nilIface))] []
  [(0,A1),(1,A2),(2,B1),(3,B2),(4,X1),(5,X2)] [⟨6,43,aW g 0 1,none⟩,⟨7,43,aW g 2 3,none⟩,⟨8,43,aW g 4 5,none⟩]
  [0,0,2,0,0,0,0,0] [[],[],[0,1],[0,1,2],rgn 4,rgn 4,rgn 5,[0,1,2,3,5]] [(3,.w (.c (.ptr 6 0))),(4,.w (.c (.ptr 7 0)))]
  [12,13,14,11,15,16,9,10] [i,j,k,l,m,n,b1,b2,b3] 8 (N+2) [] [] R2.out
  (fun b hM=>aA (aA (aA (aA (aA (aA (aA (aA bV
    (bA b 4 m0))
    (bA b 4 m1))
    (bP b (acE hM m0 m1 rfl rfl m2 m3 rfl rfl rfl rfl rfl h1)))
    (aD b))
    (aD b))
    (aD b))
    (aD b))
    (aD b)) ?_
 intro ν W3 hR;have R3:=hdd hR;clear hR R2;simp only[putL,bfE,bfH,fs0,fs1,fsn,dSw,dSt,dWc,dWa,dv,di,dp,ds',bfF,bfG,nuTn,nuT0,nuT1,nuU0,nuU1,dA12,dP8,dP24]
 go_upto_region 6 with fail
 refine Spec.go [cB g 4 5,cB g 0 1,.tup [.c (.v (.int .i64 1)),.c (.v .nilIface)],.tup [.c (.v (.int .i64 1)),.c (.v .nilIface)],.w (.c (.v (.int .i64 1))),.w (.c (.v .nilIface)),.w (.c (.v (.int .i64 1))),.w (.c (.v .nilIface))] []
  [(0,A1),(1,A2),(2,B1),(3,B2),(4,X1),(5,X2)] [⟨6,43,aW g 0 1,none⟩,⟨7,43,aW g 2 3,none⟩,⟨8,43,aW g 4 5,none⟩]
  [0,0,2,0,0,0,0,0] [[],[],[0,1],[0,1,2],rgn 4,rgn 4,rgn 5,[0,1,2,3,5]] [(5,.w (.c (.ptr 8 0))),(3,.w (.c (.ptr 6 0)))]
  [25,26,27,24,28,29,9,10] [i,j,k,l,m,n,b1,b2,b3] 8 (N+4) [] [] R3.out
  (fun b hM=>aA (aA (aA (aA (aA (aA (aA (aA bV
    (bA b 4 m2))
    (bA b 4 m0))
    (bP b (acE hM m4 m5 rfl rfl m0 m1 rfl rfl rfl rfl rfl h2)))
    (aD b))
    (aD b))
    (aD b))
    (aD b))
    (aD b)) ?_
 intro ν W4 hR;have R4:=hdd hR;clear hR R3;simp only[putL,bfE,bfH,fs0,fs1,fsn,dSw,dSt,dWc,dWa,dv,di,dp,ds',bfF,bfG,nuTn,nuT0,nuT1,nuU0,nuU1,dA12,dP8,dP24]
 go_upto_region 9 with fail
 refine Spec.go [cB g 2 3,cB g 0 1,.tup [.c (.v (.int .i64 (-1))),.c (.v .nilIface)],.tup [.c (.v (.int .i64 (-1))),.c (.v .nilIface)],.w (.c (.v (.int .i64 (-1)))),.w (.c (.v .nilIface)),.w (.c (.v (.int .i64 (-1)))),.w (.c (.v .nilIface))] []
  [(0,B1),(1,B2),(2,X1),(3,X2)] [⟨4,43,aW g 0 1,none⟩,⟨5,43,aW g 2 3,none⟩]
  [0,0,2,0,0,0,0,0] [[],[],[0,1],[0,1,2],rgn 4,rgn 4,rgn 5,[0,1,2,3,5]] [(5,.w (.c (.ptr 5 0))),(4,.w (.c (.ptr 4 0)))]
  [38,39,40,37,41,42,9,10] [k,l,m,n,b2,b3] 8 (N+6) [false,false] [false] R4.out
  (fun b hM=>aA (aA (aA (aA (aA (aA (aA (aA bV
    (bA b 4 m1))
    (bA b 4 m0))
    (bP b (acE hM m2 m3 rfl rfl m0 m1 rfl rfl rfl rfl rfl h3)))
    (aD b))
    (aD b))
    (aD b))
    (aD b))
    (aD b)) ?_
 intro ν W5 hR;replace hR:Run ⟨w,B,ns⟩ g (N+6) [(B1,k),(B2,l),(X1,m),(X2,n)] [(b2,fT g k l),(b3,fT g m n)] W5:=hR;have R5:=hdd hR;clear hR R4;simp only[putL,bfE,bfH,fs0,fs1,fsn,dSw,dSt,dWc,dWa,dv,di,dp,ds',bfF,bfG,nuTn,nuT0,nuT1,nuU0,nuU1,dA12,dP8,dP24];have HF:Hid (uS w B ns g (N+6) (fun _=>.tuple #[.bool true,.nilIface]) [] (.returned (.tuple #[.bool true,.nilIface])) W5):=hdd ⟨[],rfl,rfl,_,(R5.out.more (by omega)).few (nS [])⟩;clear R5;go_wp2
 go_ret2
 exact HF.out
theorem anM:Iw 13830554455654793216 (-1):=⟨⟨by decide,by decide⟩,by kernel_rfl⟩
theorem is_0:Iw 0 0:=⟨aiO,alS⟩
theorem is_2:Iw 4611686018427387904 2:=⟨⟨by decide,by decide⟩,by kernel_rfl⟩
theorem is_3:Iw 4613937818241073152 3:=⟨⟨by decide,by decide⟩,by kernel_rfl⟩
theorem yY{a b c d:Nat}{A B:Int}(ha:Iw a A)(hc:Iw c B)(b1:A.natAbs<=12)(b2:B.natAbs<=12)(hn:(A-B).sign≠0):gL PT (.leaf a) (.leaf b) (.leaf c) (.leaf d) (A-B).sign:=
 ⟨_,0,trivial,acR ha hc b1 b2,fun h=>absurd h hn,by rw[if_neg hn]⟩
theorem ajM:aiM (.leaf 4607182418800017408) (.leaf 0) (.leaf 0) (.leaf 4607182418800017408) (.leaf 13830554455654793216) (.leaf 0) false/\gL PT (.leaf 4607182418800017408) (.leaf 0) (.leaf 4613937818241073152) (.leaf 0) (-1)/\gL PT (.leaf 4611686018427387904) (.leaf 0) (.leaf 4607182418800017408) (.leaf 0) 1/\gL PT (.leaf 4611686018427387904) (.leaf 0) (.leaf 4613937818241073152) (.leaf 0) (-1):=
 ⟨af0 iw_1 is_0 is_0 iw_1 anM is_0 (by decide) (by decide) (by decide) (by decide) (by decide) (by decide),yY iw_1 is_3 (by decide) (by decide) (by decide),yY is_2 iw_1 (by decide) (by decide) (by decide),yY is_2 is_3 (by decide) (by decide) (by decide)⟩
theorem alG{w:World}(hT:Tab w)(htb:0<w.heap.size):
 Calls Tryz.prog 23 #[] w (RetV w (.bool true)):=by
 have HN:=hdd (adI (l:=[]) (Below.refl w.heap.size w) (fun p hp=>by cases hp) (by simp) hT htb);clear hT htb;have HX:=hdd ajM;go_enter Tryz.func23,Tryz.ntmps23
 go_wp2_with fail
 refine HN.out.mono ?_;rintro e W1⟨g,rfl,hR⟩;have R1:=hdd hR;clear hR HN;dsimp only
 go_upto_region 4 with fail
 refine Spec.go [.w (.c (.v (.pointer (some ⟨g,0,none⟩)))),cB g 0 1,.w (.c (.v (.pointer (some ⟨g,0,none⟩)))),cB g 2 3,.w (.c (.v (.pointer (some ⟨g,0,none⟩)))),cB g 4 5,.tup [.c (.v (.bool false)),.c (.v .nilIface)],.tup [.c (.v (.bool false)),.c (.v .nilIface)],.w (.c (.v (.bool false))),.w (.c (.v .nilIface)),.w (.c (.v (.bool false))),.w (.c (.v .nilIface))] [1,1,3,3,5,5]
  [(0,(.leaf 4607182418800017408)),(1,(.leaf 0)),(2,(.leaf 0)),(3,(.leaf 4607182418800017408)),(4,(.leaf 13830554455654793216)),(5,(.leaf 0))] []
  [0,2,0,2,0,2,13,0,0,0,0,0] [[],[0],[],[2],[],[4],rgn 6,rgn 7,rgn 8,rgn 8,rgn 9,[0,1,2,3,4,5,6,7,9]] [(1,.w (.c (.v (.pointer (some ⟨g,0,none⟩)))))]
  [11,12,13,14,15,16,17,10,18,19,3,4] [] 12 19 [] [] R1.out
  (fun b hM=>aA (aA (aA (aA (aA (aA (aA (aA (aA (aA (aA (aA bV
    (aD b))
    (bP b (c_at hM (by decide) (by decide) (by decide) (by decide) rfl rfl rfl rfl (by decide) rfl)))
    (aD b))
    (bP b (c_at hM (by decide) (by decide) (by decide) (by decide) rfl rfl rfl rfl (by decide) rfl)))
    (aD b))
    (bP b (c_at hM (by decide) (by decide) (by decide) (by decide) rfl rfl rfl rfl (by decide) rfl)))
    (bP b (c_fn (ix:=[0,1,2,3,4,5]) (ts:=[]) hM (fun ν=>aiN HX.out.1))))
    (aD b))
    (aD b))
    (aD b))
    (aD b))
    (aD b)) ?_
 intro n1 n2 n3 n4 n5 n6 ν W2 hR;have R2:=hdd hR;clear hR R1;simp only[putL,bfE,bfH,fs0,fs1,fsn,dSw,dSt,dWc,dWa,dv,di,dp,ds',bfF,bfG,nuTn,nuT0,nuT1,nuU0,nuU1,dA12,dP8,dP24]
 go_upto_region 5 with fail
 refine Spec.go [.w (.c (.v (.pointer (some ⟨g,0,none⟩)))),cB g 0 1,.w (.c (.v (.pointer (some ⟨g,0,none⟩)))),cB g 2 3,.w (.c (.v (.pointer (some ⟨g,0,none⟩)))),cB g 4 5,.tup [.c (.v (.bool true)),.c (.v .nilIface)],.tup [.c (.v (.bool true)),.c (.v .nilIface)],.w (.c (.v (.bool true))),.w (.c (.v .nilIface)),.w (.c (.v (.bool true))),.w (.c (.v .nilIface))] [1,1,3,3,5,5]
  [(0,(.leaf 4607182418800017408)),(1,(.leaf 0)),(2,(.leaf 4613937818241073152)),(3,(.leaf 0)),(4,(.leaf 4611686018427387904)),(5,(.leaf 0))] []
  [0,2,0,2,0,2,6,0,0,0,0,0] [[],[0],[],[2],[],[4],rgn 6,rgn 7,rgn 8,rgn 8,rgn 9,[0,1,2,3,4,5,6,7,9]] [(1,.w (.c (.v (.pointer (some ⟨g,0,none⟩)))))]
  [21,22,23,24,25,26,27,20,28,29,5,6] [] 12 31 [false,false,false,false,false,false] [] R2.out
  (fun b hM=>aA (aA (aA (aA (aA (aA (aA (aA (aA (aA (aA (aA bV
    (aD b))
    (bP b (c_at hM (by decide) (by decide) (by decide) (by decide) rfl rfl rfl rfl (by decide) rfl)))
    (aD b))
    (bP b (c_at hM (by decide) (by decide) (by decide) (by decide) rfl rfl rfl rfl (by decide) rfl)))
    (aD b))
    (bP b (c_at hM (by decide) (by decide) (by decide) (by decide) rfl rfl rfl rfl (by decide) rfl)))
    (bP b (c_fn (ix:=[0,1,2,3,4,5]) (ts:=[]) hM (fun ν=>acS HX.out.2.1 HX.out.2.2.1 HX.out.2.2.2))))
    (aD b))
    (aD b))
    (aD b))
    (aD b))
    (aD b)) ?_
 intro n7 n8 n9 n10 n11 n12 ν W3 hR;replace hR:Run (bs w) g 31 [((.leaf 4607182418800017408),n7),((.leaf 0),n8),((.leaf 4613937818241073152),n9),((.leaf 0),n10),((.leaf 4611686018427387904),n11),((.leaf 0),n12)] [] W3:=hR;have R3:=hdd hR;clear hR R2;simp only[putL,bfE,bfH,fs0,fs1,fsn,dSw,dSt,dWc,dWa,dv,di,dp,ds',bfF,bfG,nuTn,nuT0,nuT1,nuU0,nuU1,dA12,dP8,dP24];have HB:=hdd R3.out.below;clear R3 HX;go_wp2;go_ret;exact⟨rfl,HB.out⟩
end Go.Proofs.YtebdolonckjpiaaGreatDoor
namespace Go.Proofs
open Go.Shelf
end Go.Proofs
namespace Go.Proofs.YtebdolonckjpiaaGreatDoor
open Go.RowKit Go.Maps
section
variable{s:Bs}{g N vb i at':Nat}{K:List (Ex×Nat)}{l lr:List (Nat×Obj)}{W:World}{v:Value}{o:List Nat}
end
end Go.Proofs.YtebdolonckjpiaaGreatDoor
namespace Go.Proofs.YtebdolonckjpiaaGreatDoor
end Go.Proofs.YtebdolonckjpiaaGreatDoor
namespace Go.Proofs.YtebdolonckjpiaaGreatDoor
open Go.RowKit Go.Maps
open List renaming mem_cons_self->bfI,mem_cons_of_mem->bfJ,nodup_cons->bfK,mem_cons->bfL,map_cons->bfM,mem_singleton->bfN,mem_map->bfO
section
variable{s:Bs}{g N b c m k:Nat}{K:List (Ex×Nat)}{l lr:List (Nat×Obj)}{W:World}{v:Value}{ids:List Nat}{sp:List Value}
end
section
variable{s:Bs}{g N:Nat}{K:List (Ex×Nat)}{l lr:List (Nat×Obj)}{W:World}{v:Value}{ids:List Nat}{κ:Nat->Int}
end
section
variable{s:Bs}{g N:Nat}{K:List (Ex×Nat)}{l l':List (Nat×Obj)}{W W':World}{b bb nb:Nat}{o O O':Obj}
theorem Run.perm (h:Run s g N K l W)(hp:l'.Perm l):Run s g N K l' W:=h.sub (fun p hm=>hp.subset hm) ((hp.map _).nodup_iff.2 h.nodup)
theorem Run.keep (h:Run s g N K l W)(hb:Below W.heap.size W W')(ho:W'.heap[b]? =some o)(hlo:W.heap.size<=b):Run s g N K ((b,o)::l) W':=by
 obtain⟨ns',hs,hK⟩:=h;have h':=hs.below hb;refine⟨ns',⟨h'.grew,fun p hp=> ?_,h'.hw,?_⟩,hK⟩
 . rcases bfL.1 hp with rfl|hp
   . exact⟨ho,fun hd=>by have:=hs.grew.1.dag.dagB ((DagB.congr (hb.block g hs.grew.1.dag.glt)).1 hd);simp only at this;omega,Nat.le_trans hs.grew.2.2.size hlo⟩
   . exact h'.kept p hp
 . rw[bfM,bfK]
   refine⟨fun hm=> ?_,h'.nodup⟩;obtain⟨p,hp,e⟩:=bfO.1 hm;have:=hs.lt hp;simp only at e;omega
theorem Run.board {ln:List (Nat×Obj)}(h:Run s g N K ((bb,O)::l) W)(hg:W.grownBy W' (some bb))(hO:W'.heap[bb]? =some O')(hn:∀p∈ln,W'.heap[p.1]? =some p.2/\W.heap.size<=p.1)(hd:ln.length<=1):Run s g N K ((bb,O')::(ln++l)) W':=by
 obtain⟨ns',hs,hK⟩:=h;have hw:=hs.write hg hO;refine⟨ns',⟨hw.grew,fun p hp=> ?_,hw.hw,?_⟩,hK⟩
 . rcases bfL.1 hp with rfl|hp
   . exact hw.kept _ (bfI ..)
   . rcases List.mem_append.1 hp with hp|hp
     . obtain⟨q1,q2⟩:=hn p hp
       have hgb:some g≠some bb:=fun e=>(hs.kept (bb,O) (by simp)).2.1 (Or.inl (Option.some.inj e).symm);exact⟨q1,fun hd=>by have:=hs.grew.1.dag.dagB ((DagB.congr (hg.block g hs.grew.1.dag.glt hgb)).1 hd);omega,Nat.le_trans hs.grew.2.2.size q2⟩
     . exact hw.kept p (bfJ _ hp)
 . have hnd:=hw.nodup
   match ln,hn,hd with
   |[],_,_=>exact hnd
   |[q],hn,_=>
    obtain⟨-,q2⟩:=hn q (bfN.2 rfl);have hlt:∀p∈(bb,O)::l,p.1<W.heap.size:=fun p hp=>hs.lt hp;simp only[bfM,bfK,List.cons_append,List.nil_append]at hnd|-;refine⟨fun hm=> ?_,fun hm=> ?_,hnd.2⟩
    . rcases bfL.1 hm with e|hm
      . have:=hlt (bb,O) (by simp);simp only at this;omega
      . exact hnd.1 hm
    . obtain⟨p,hp,e⟩:=bfO.1 hm
      have:=hlt p (bfJ _ hp);omega
end
def OwnR(T:TypeId)(sz:Nat)(v:Value)(n:Nat)(xs:List Value)(lr:List (Nat×Obj)):Prop:=
 xs.length=n*sz/\((v=.slice none 0 0/\n=0/\lr=[])\/∃(r cap:Nat) (cur:Array Value),v=.slice (some ⟨r,0,none⟩) n cap/\lr=[(r,.cells cur T)]/\n<=cap/\cap<=maxLen/\cur.size=cap*sz/\cur.toList.take (n*sz)=xs)
theorem OwnR.nil (T:TypeId)(sz:Nat):OwnR T sz (.slice none 0 0) 0 [] []:=⟨by simp,Or.inl ⟨rfl,rfl,rfl⟩⟩
section
variable{s:Bs}{g N n n' sz g0 cap:Nat}{K:List (Ex×Nat)}{L lr:List (Nat×Obj)}{W w':World}{v:Value}{xs xs':List Value}{T:TypeId}
theorem OwnR.slice (h:OwnR T sz v n xs lr):∃p c,v=.slice p n c:=by
 rcases h.2 with ⟨rfl,rfl,-⟩|⟨r,c,cur,rfl,-⟩
 . exact⟨none,0,rfl⟩
 . exact⟨_,_,rfl⟩
theorem OwnR.own (h:OwnR T sz v n xs lr)(hR:Run s g N K (lr++L) W):W.ownsRow 0 T sz v n xs:=by
 refine⟨h.1,?_⟩;rcases h.2 with ⟨rfl,rfl,-⟩|⟨r,c,cur,rfl,rfl,h1,h2,h3,h4⟩
 . exact .inl ⟨rfl,rfl⟩
 . exact .inr ⟨r,c,cur,rfl,Nat.zero_le _,hR.at (bfI ..),h1,h2,h3,h4⟩
theorem OwnR.grow (h:OwnR T sz v n xs lr)(hR:Run s g N K (lr++L) W)(hown:w'.ownsRow 0 T sz (.slice (some ⟨g0,0,none⟩) n' cap) n' xs')(hg:W.grownBy w' v.ownBlock)(hat:v.ownBlock=some g0\/g0=W.heap.size):
 ∃lr',OwnR T sz (.slice (some ⟨g0,0,none⟩) n' cap) n' xs' lr'/\Run s g N K (lr'++L) w':=by
 obtain⟨hx,hy⟩:=hown;rcases hy with ⟨e,-⟩|⟨g1,c1,cur,e,-,hgg,h1,h2,h3,h4⟩
 . simp at e
 . simp only[Value.slice.injEq,Option.some.injEq,Addr.mk.injEq]at e
   obtain⟨⟨rfl,-⟩,-,rfl⟩:=e;refine⟨[(g0,.cells cur T)],⟨hx,Or.inr ⟨g0,cap,cur,rfl,rfl,h1,h2,h3,h4⟩⟩,?_⟩;rcases h.2 with ⟨rfl,-,rfl⟩|⟨r,c,cur',rfl,rfl,-⟩
   . rcases hat with e|rfl
     . simp[Value.ownBlock]at e
     . exact Run.keep hR ⟨hg.os,hg.tape,hg.output,hg.size,fun b hb=>hg.block b hb (by simp[Value.ownBlock])⟩ hgg nlr
   . rcases hat with e|rfl
     . obtain rfl:r=g0:=by simpa[Value.ownBlock]using e
       exact Run.write hR hg hgg
     . have hl:=hR.at (bfI ..)
       obtain⟨o',ho'⟩:∃o',w'.heap[r]? =some o':=⟨_,Array.getElem?_eq_getElem (Nat.lt_of_lt_of_le (aH hl) hg.size)⟩;have h5:=Run.board (ln:=[(W.heap.size,.cells cur T)]) hR hg ho' (fun p hp=>by
        obtain rfl:=bfN.1 hp;exact⟨hgg,Nat.le_refl _⟩) nlr
       exact h5.sub (fun p hp=>bfJ _ hp) (bfK.1 (by have:=h5.nodup;rwa[bfM]at this)).2
end
section
variable{s:Bs}{g N n sz:Nat}{K:List (Ex×Nat)}{L lr:List (Nat×Obj)}{W:World}{v:Value}{xs:List Value}{T:TypeId}
theorem OwnR.cellW {p:Option Addr}{q c:Nat}{u:Value}(h:OwnR T sz (.slice p n c) n xs lr)(hR:Run s g N K (lr++L) W)(hu:xs[q]? =some u):∃r,p=some ⟨r,0,none⟩/\W.cell? ⟨r,q,none⟩=some u:=by
 rcases h.2 with ⟨e,e2,-⟩|⟨r',cap,cur,e,rfl,h1,h2,h3,h4⟩
 . have:=h.1
   have:=(List.getElem?_eq_some_iff.1 hu).1;simp only[e2,Nat.zero_mul]at*;omega
 . simp only[Value.slice.injEq]at e
   refine⟨r',e.1,oQ (cs:=cur.toList) (by simpa using hR.at (bfI ..)) ?_⟩;rw[<-h4,List.getElem?_take]at hu
   split at hu
   . exact hu
   . cases hu
end
theorem Run.subl {s:Bs}{g N:Nat}{K:List (Ex×Nat)}{l l':List (Nat×Obj)}{W:World}(h:Run s g N K l W)(hs:l'.Sublist l):Run s g N K l' W:=h.sub (fun _ hp=>hs.subset hp) (h.nodup.sublist (hs.map _))
section
variable{s:Bs}{g N:Nat}{K:List (Ex×Nat)}{l lr:List (Nat×Obj)}{W:World}{v:Value}{ids:List Nat}{κ:Nat->Int}
end
end Go.Proofs.YtebdolonckjpiaaGreatDoor
namespace Go.Proofs.YtebdolonckjpiaaGreatDoor
open Go.RowKit Go.Maps Go.Stop Go.Extern
open Go.IntWalk renaming i64_in->bfZ
open Go.Value renaming oneCell'->bfT
open Int renaming lt_tmod_of_pos->bfW,tmod_lt_of_pos->bfX,sub_zero->bf5
open List renaming sublist_cons_self->bfP,perm_append_comm->bfQ,range->bfS,map_append->bfU,getD_eq_getElem?_getD->bfV,length_append->bfY,getElem?_eq_getElem->bf0,mem_append_right->bf1,mem_cons_self->bf3,range_succ->bf4
open Nat renaming zero_le->bfR,lt_or_ge->bf2
variable{x:Int}{ps:List (Nat×Nat)}{l:List (Nat×Obj)}{c:Nat}
def spL(g:Nat):List (Nat×Nat)->List Value
 |[]=>[]
 |p::ps=>.pointer (some ⟨g,0,none⟩)::.int .i64 (p.1:Int)::.pointer (some ⟨g,0,none⟩)::.int .i64 (p.2:Int)::spL g ps
theorem ajN{g:Nat}{q:Nat×Nat}:∀{ps:List (Nat×Nat)} {j:Nat},ps[j]? =some q->(spL g ps)[j*4]? =some (.pointer (some ⟨g,0,none⟩))/\(spL g ps)[j*4+1]? =some (.int .i64 (q.1:Int))/\(spL g ps)[j*4+2]? =some (.pointer (some ⟨g,0,none⟩))/\(spL g ps)[j*4+3]? =some (.int .i64 (q.2:Int))
 |[],_,h=>by simp at h
 |p::ps,0,h=>by
  obtain rfl:p=q:=by simpa using h
  exact⟨rfl,rfl,rfl,rfl⟩
 |p::ps,j+1,h=>by
  have:=ajN (g:=g) (show ps[j]? =some q by simpa using h);rw[show(j+1)*4=j*4+1+1+1+1 by omega];exact this
theorem abK(g:Nat)(q:Nat×Nat):∀ps:List (Nat×Nat),spL g (ps++[q])=spL g ps++[.pointer (some ⟨g,0,none⟩),.int .i64 (q.1:Int),.pointer (some ⟨g,0,none⟩),.int .i64 (q.2:Int)]
 |[]=>rfl
 |p::ps=>by simp[spL,abK g q ps]
abbrev jQ(l:List Int):List Value:=l.map (Value.int .i64)
section
variable{s:Bs}{g N n sz:Nat}{K:List (Ex×Nat)}{L lr:List (Nat×Obj)}{W:World}{v:Value}{xs:List Value}{T:TypeId}
theorem OwnR.spot {p:Option Addr}{j:Nat}{q:Nat×Nat}(h:OwnR 43 4 (.slice p n c) n (spL g ps) lr)(hR:Run s g N K (lr++L) W)(hx:ps[j]? =some q):
 ∃r,p=some ⟨r,0,none⟩/\W.cell? ⟨r,j*4,none⟩=some (.pointer (some ⟨g,0,none⟩))/\W.cell? ⟨r,j*4+1,none⟩=some (.int .i64 (q.1:Int))/\W.cell? ⟨r,j*4+2,none⟩=some (.pointer (some ⟨g,0,none⟩))/\W.cell? ⟨r,j*4+3,none⟩=some (.int .i64 (q.2:Int)):=by
 obtain⟨h0,h1,h2,h3⟩:=ajN (g:=g) hx;obtain⟨r,rfl,k0⟩:=h.cellW hR h0;obtain⟨_,e1,k1⟩:=h.cellW hR h1;obtain⟨_,e2,k2⟩:=h.cellW hR h2;obtain⟨_,e3,k3⟩:=h.cellW hR h3;simp only[Option.some.injEq,Addr.mk.injEq,and_true]at e1 e2 e3;subst e1 e2 e3;exact⟨r,rfl,k0,k1,k2,k3⟩
end
def alH(s:Bs)(g N n:Nat)(K:List (Ex×Nat))(l:List (Nat×Obj))(σ:Nat->Int)(e:Ending)(W':World):Prop:=∃v' lr',e=.returned (.tuple #[v',.nilIface])/\OwnR 3 1 v' n (jQ ((bfS n).map σ)) lr'/\Run s g (N+9*n) K (lr'++l) W'
theorem acT{s:Bs}{g N ca cb cc:Nat}{K:List (Ex×Nat)}{lr:List (Nat×Obj)}{W:World}{v:Value}{σ:Nat->Int}(h1:yG ca cb cc)(hR:Run s g N K (lr++l) W)(hv:OwnR 43 4 v ps.length (spL g ps) lr)(hl:ps.length<=100)(hN:N+9*ps.length<=20000)
 (hq:∀j p,ps[j]? =some p->∃X Y,(X,p.1)∈K/\(Y,p.2)∈K/\gY PT (wX ca cb cc X Y) (σ j)):
 Calls Tryz.prog 25 #[.pointer (some ⟨g,0,none⟩),curV 2 ca cb cc,v] W (alH s g N ps.length K (lr++l) σ):=by
 obtain⟨p0,cv,rfl⟩:=hv.slice;obtain⟨w1,hw1,hb1,hs1,b1⟩:=pro1 W (curO 2 ca cb cc);have R1:Run s g N K ((W.heap.size,curO 2 ca cb cc)::(lr++l)) w1:=hw1▸hR.alloc _;obtain⟨i0,hi0,hz0,hz1,hz2⟩:=info_parts lW;obtain⟨w2,hrun,hown,hgr⟩:=run_make_own (P:=Tryz.prog) w1 0 22 3 i0 (.int .i64 0) 1 gG hi0 hz0 hz1 .i64 .i64 ps.length (by rw[hz2];omega) (by unfold maxLen;omega) (bfR _);obtain⟨lw,hO,hR2⟩:=OwnR.grow (OwnR.nil 3 1) (lr:=[]) R1 hown hgr (Or.inr rfl);have hbc:(W.heap.size,curO 2 ca cb cc)∈lw++((W.heap.size,curO 2 ca cb cc)::(lr++l)):=bf1 _ (bf3 ..);have HBC:=hdd hbc;have R2:=hdd hR2;have HO:=hdd hO;have HV:=hdd hv;have HQ:=hdd hq;have HN:=hdd hN;have HI0:=hdd hi0;have HZ0:=hdd hz0;have HZ1:=hdd hz1;have HZ2:=hdd hz2;have H1:=hdd h1;have hlI:(ps.length:Int)<=100:=by omega
 clear hb1 hs1 b1 R1 hR hv hq hN hi0 hz0 hz1 hz2 hown hgr hO hR2 h1 hbc;go_enter Tryz.func25,Tryz.ntmps25
 go_wp2_with fail
 generalize W.heap.size=bc at*
 go_loopw [8,18] (fun v i wr=>∃(m:Nat) (lw:List (Nat×Obj)),m<=ps.length/\i=.int .i64 (m:Int)/\OwnR 3 1 v m (jQ ((bfS m).map σ)) lw/\Hid (Run s g (N+9*m) K (lw++((bc,curO 2 ca cb cc)::(lr++l))) wr)) (fun _ i _=>((ps.length:Int)-intOf i).toNat)
 case atStart=>exact⟨0,lw,bfR _,rfl,HO.out,R2⟩
 case round=>
  obtain⟨m,lw,hm,rfl,ho,HF⟩:=hrel;obtain⟨pw,cw,rfl⟩:=ho.slice;rcases bf2 m ps.length with hlt|hge
  . obtain⟨q,hq⟩:∃q,ps[m]? =some q:=⟨_,bf0 hlt⟩
    obtain⟨X,Y,hX,hY,hS⟩:=HQ.out m q hq;obtain⟨z,hz⟩:∃z,σ m=z:=⟨_,rfl⟩;rw[hz]at hS;obtain⟨r,rfl,x0,x1,x2,x3⟩:=HV.out.spot (HF.out.subl ((bfP _ _).trans (List.sublist_append_right _ _))) hq;have hbq:=HF.out.at (bf1 _ (bf3 ..));obtain⟨c0,c1,c2,c3⟩:=aU hbq;obtain⟨w5,hw5,hb5,hs5,b5⟩:=pro1 wr (fT g q.1 q.2);obtain⟨d0,d1,d2,d3⟩:=aU b5;replace c0:=cbl c0 hb5;replace c1:=cbl c1 hb5;replace c2:=cbl c2 hb5;replace c3:=cbl c3 hb5;have R5:Run s g (N+9*m) K ((wr.heap.size,fT g q.1 q.2)::(lw++((bc,curO 2 ca cb cc)::(lr++l)))) w5:=hw5▸HF.out.alloc _;have HC:=hdd (am4 (g:=g) H1.out hS s _ K _ w5 R5 (by have:=HN.out;omega) (fun p hp=>by
     rcases List.mem_cons.1 hp with rfl|hp
     . exact hX
     . rw[List.mem_singleton.1 hp];exact hY))
    have hkI:(m:Int)<(ps.length:Int):=by omega
    have hk0:(0:Int)<=(m:Int):=by omega
    have HLT:=hdd hlt;have HW:=hdd ho;have HZ:=hdd hz;obtain⟨q1,q2⟩:=q;dsimp only at*;clear hq hX hY hS HF hbq hb5 hs5 b5 R5 hlt ho hz;go_wp2_with fail
    refine HC.out.mono ?_;rintro e w6⟨ks,-,rfl,hR6⟩;generalize wr.heap.size=bp at*;have R6:Run s g (N+9*m+9) K ((bp,fT g q1 q2)::(lw++((bc,curO 2 ca cb cc)::(lr++l)))) w6:=by simpa using hR6
    obtain⟨w7,hw7,hb7,hs7,b7⟩:=pro1 w6 (.cells #[.int .i64 z] 3);have R8:=(hw7▸R6.alloc _:Run s g (N+9*m+9) K ((w6.heap.size,.cells #[.int .i64 z] 3)::((bp,fT g q1 q2)::(lw++((bc,curO 2 ca cb cc)::(lr++l))))) w7).subl (l':=lw++((bc,curO 2 ca cb cc)::(lr++l))) ((bfP _ _).trans (bfP _ _));have HC7:=hdd (dU b7);have HOL:=hdd (HW.out.own R8);have HR8:=hdd R8;clear hR6 R6 hb7 hs7 b7 HC c0 c1 c2 c3 d0 d1 d2 d3 x0 x1 x2 x3 R8;go_wp2_with (first
     |(at_builtin
       go_loud (
       refine wpList_append_lies _ rfl _ _ 22 rfl 0 3 i0 (.int .i64 0) 1 8 gG HI0.out HZ0.out HZ1.out HZ2.out rfl (by decide) _ m (jQ ((bfS m).map σ)) rfl HOL.out ⟨w6.heap.size,0,none⟩ 1 1 [.int .i64 z] rfl rfl HC7.out (by simp[bfT]) (by decide) (by unfold maxLen;omega) (by omega) (bfR _) w7.heap.size rfl ?_;intro r2 cap2 w8 hown8 hgrow8 hat8 hlt8;obtain⟨lw2,ho8,hR8⟩:=HW.out.grow HR8.out hown8 hgrow8 hat8;have HO8:=hdd ho8;have R9:=hdd hR8;clear hown8 hgrow8 hat8 hlt8 ho8 hR8)))
    go_roundw
    case rel=>
     refine⟨m+1,lw2,by have:=HLT.out;omega,by go_num,?_,hdd (R9.out.more (by omega))⟩;have h:=HO8.out;rw[<-HZ.out]at h;rw[bf4,bfU];unfold jQ;rw[bfU];exact h
    case measure=>have:=HLT.out;simp[intOf];omega
  . have hme:m=ps.length:=by omega
    subst hme;have HW:=hdd ho;have HB:=hdd (HF.out.subl (l':=lw++(lr++l)) (List.Sublist.append (List.Sublist.refl _) (bfP _ _)));clear hm hge ho HF;go_wp2
    go_ret2
    exact⟨_,lw,rfl,HW.out,HB.out⟩
theorem af1:Tryz.prog.underlying 40=some (.slice 43):=by kernel_rfl
theorem af2:(Tryz.prog.info? 43).map (fun i=>(i.zero,i.size,i.bytes))=some (some (.agg #[.pointer none,.int .i64 0,.pointer none,.int .i64 0]),4,32):=by kernel_rfl
theorem tm20(k:Int):-20<k.tmod 20/\k.tmod 20<20:=⟨bfW k (by decide),bfX k (by decide)⟩
def inX(xs:List (Int×Int))(j:Nat):Int:=(xs.getD j (0,0)).1.tmod 20
def inY(xs:List (Int×Int))(j:Nat):Int:=(xs.getD j (0,0)).2.tmod 20
def inS(xs:List (Int×Int))(R:Int)(j:Nat):Int:=(inX xs j*inX xs j+inY xs j*inY xs j-R).sign
theorem sq20(h:-20<x/\x<20):0<=x*x/\x*x<=361:=by
 have h2:x.natAbs<=19:=by omega
 have h3:=Nat.mul_le_mul h2 h2;have h4:x*x=((x.natAbs*x.natAbs:Nat):Int):=(Int.natAbs_mul_self (a:=x)).symm;omega
theorem ajO{y r:Int}(hx:-20<x/\x<20)(hy:-20<y/\y<20)(hr:0<=r/\r<200):gY PT (wX 0 0 (fl r) (li x) (li y)) (x*x+y*y-r).sign:=by
 have a:=qM (k:=x) (by omega);have b:=qM (k:=y) (by omega);have c:=qM (k:=r) (by omega);have hX:IntE (li x) x 1:=IntE.leaf a.1 a.2.1 a.2.2 (by omega);have hY:IntE (li y) y 1:=IntE.leaf b.1 b.2.1 b.2.2 (by omega);have hR:IntE (.leaf (fl r)) r 1:=IntE.leaf c.1 c.2.1 c.2.2 (by omega);have h1:=(hX.sub sP).mul (hX.sub sP);have h2:=(hY.sub sP).mul (hY.sub sP);have h3:=QE.add h1 h2;rw[<-Re.ofI_add]at h3;have:=(IntE.sub h3 hR).sgn (by decide);rwa[bf5,bf5]at this
theorem yZ{T:TypeId}{v:Value}{m:Nat}{z:Int}{xs:List (Int×Int)}{R:Int}(hz:inS xs R m=z)(h:OwnR T 1 v (m+1) (jQ ((bfS m).map (inS xs R))++[.int .i64 z]) l):OwnR T 1 v (m+1) (jQ ((bfS (m+1)).map (inS xs R))) l:=by
 rw[bf4,bfU];unfold jQ;rw[bfU];rw[<-hz]at h;exact h
def InL(s:Bs)(g:Nat)(xs:List (Int×Int))(R:Int)(m:Nat)(va vw:Value)(W:World):Prop:=∃K ps la lw,ps.length=m/\OwnR 43 4 va m (spL g ps) la/\OwnR 3 1 vw m (jQ ((bfS m).map (inS xs R))) lw/\(∀j p,ps[j]? =some p->(li (inX xs j),p.1)∈K/\(li (inY xs j),p.2)∈K)/\Run s g (2*m) K (la++lw) W
theorem rO{w:World}{pl:Option Addr}{xs:List (Int×Int)}{rr:Int}(hT:Tab w)(htb:0<w.heap.size)(hx:∀j x,xs[j]? =some x->∃lb lo,pl=some ⟨lb,lo,none⟩/\w.cell? ⟨lb,lo+j*2,none⟩=some (.int .i64 x.1)/\w.cell? ⟨lb,lo+j*2+1,none⟩=some (.int .i64 x.2)):
 Calls Tryz.prog 4 #[.slice pl xs.length c,.int .i64 rr] w (RetV w (.bool true)):=by
 have HA:=hdd (alG hT htb);rcases bf2 12 xs.length with h6|h6
 . have hI:(12:Int)<(xs.length:Int):=by omega
   clear hx h6 hT htb;go_enter Tryz.func4,Tryz.ntmps4
   go_wp2_with fail
   refine HA.out.mono ?_;rintro e w2⟨rfl,hb⟩;have HB:=hdd hb;clear hb;go_wp2;go_ret;exact⟨rfl,HB.out⟩
 . have hI:(xs.length:Int)<=12:=by omega
   have HX:=hdd hx;have HT:=hdd (And.intro hT htb);obtain⟨i0,hi0,hz0,hz1,hz2⟩:=info_parts lW;obtain⟨j0,hj0,hy0,hy1,hy2⟩:=info_parts af2;have HI0:=hdd hi0;have HZ0:=hdd hz0;have HZ1:=hdd hz1;have HZ2:=hdd hz2;have HJ0:=hdd hj0;have HY0:=hdd hy0;have HY1:=hdd hy1;have HY2:=hdd hy2;obtain⟨R,hRR,hR0⟩:∃R:Int,(rr.tmod 200+200).tmod 200=R/\0<=R/\R<200:=by
    have h1:=bfW rr (show(0:Int)<200 by omega);exact⟨_,rfl,Int.tmod_nonneg _ (by omega),bfX _ (by omega)⟩
   have hw1:IntKind.i64.wrap (rr.tmod 200+200)=rr.tmod 200+200:=bfZ _ (by
    have h1:=bfW rr (show(0:Int)<200 by omega);have h5:=bfX rr (show(0:Int)<200 by omega);omega)
   have HR0:=hdd hR0;clear hx hT htb hi0 hz0 hz1 hz2 hj0 hy0 hy1 hy2 hR0;go_enter Tryz.func4,Tryz.ntmps4
   go_wp2_with fail
   refine HA.out.mono ?_;rintro e w2⟨rfl,hb⟩;have HN:=hdd (adI (w0:=w) (l:=[]) hb (fun p hp=>by cases hp) (by simp) HT.out.1 HT.out.2);clear hb HA;go_wp2_with fail
   refine HN.out.mono ?_;rintro e W1⟨g,rfl,hR⟩;have R1:=hdd hR;clear hR HN;dsimp only;go_wp2_with (simp only[hRR])
   go_loopw [6,7,8,9,10,11] (fun va vw i _ _ _ wr=>∃m:Nat,m<=xs.length/\i=.int .i64 (m:Int)/\Hid (InL (bs w) g xs R m va vw wr)) (fun _ _ i _ _ _ _=>((xs.length:Int)-intOf i).toNat)
   case atStart=>exact⟨0,bfR _,rfl,hdd ⟨_,[],[],[],rfl,OwnR.nil _ _,OwnR.nil _ _,fun j p h=>by simp at h,R1.out⟩⟩
   case round=>
    obtain⟨m,hm,rfl,HS⟩:=hrel;rcases bf2 m xs.length with hlt|hge
    . obtain⟨K,ps,la,lw,hl,ho,hw,hk,hR⟩:=HS.out
      obtain⟨x,hx⟩:∃x,xs[m]? =some x:=⟨_,bf0 hlt⟩;obtain⟨pa,ca,rfl⟩:=ho.slice;obtain⟨pw,cw,rfl⟩:=hw.slice;obtain⟨lb,lo,rfl,x0,x1⟩:=HX.out m x hx;replace x0:=cbl x0 (Run.below hR);replace x1:=cbl x1 (Run.below hR);have hX:inX xs m=x.1.tmod 20:=by unfold inX;rw[bfV,hx];rfl
      have hY:inY xs m=x.2.tmod 20:=by unfold inY;rw[bfV,hx];rfl
      have b1:=tm20 x.1;have b2:=tm20 x.2;obtain⟨X,hXX⟩:∃X,x.1.tmod 20=X:=⟨_,rfl⟩;obtain⟨Y,hYY⟩:∃Y,x.2.tmod 20=Y:=⟨_,rfl⟩;rw[hXX]at hX b1;rw[hYY]at hY b2;have hIS:inS xs R m=(X*X+Y*Y-R).sign:=by unfold inS;rw[hX,hY]
      have s1:=sq20 b1;have s2:=sq20 b2;have g1:=qM (k:=X) (by omega);have g2:=qM (k:=Y) (by omega);have HG:=hdd (And.intro g1 g2);have HL:=hdd hl;have HO:=hdd ho;have HW:=hdd hw;have HK:=hdd hk;have HR:=hdd hR;have HXY:=hdd (And.intro hX hY);have HLT:=hdd hlt;obtain⟨A,hA⟩:∃A,X*X=A:=⟨_,rfl⟩;obtain⟨B,hB⟩:∃B,Y*Y=B:=⟨_,rfl⟩;obtain⟨C,hC⟩:∃C,A+B=C:=⟨_,rfl⟩;rw[hA]at s1 hIS;rw[hB]at s2 hIS;rw[hC]at hIS;have m1:IntKind.i64.wrap (X*X)=A:=by rw[hA];exact bfZ _ (by omega)
      have m2:IntKind.i64.wrap (Y*Y)=B:=by rw[hB];exact bfZ _ (by omega)
      have m3:IntKind.i64.wrap (A+B)=C:=by rw[hC];exact bfZ _ (by omega)
      have hcX:floatOfInt FloatKind.f64 X=fl X:=rfl;have hcY:floatOfInt FloatKind.f64 Y=fl Y:=rfl;have hmI:(m:Int)<(xs.length:Int):=by omega
      have hm0:(0:Int)<=(m:Int):=by omega
      have HIS:=hdd hIS;obtain⟨xa,xb⟩:=x;dsimp only at x0 x1 hXX hYY;clear hx hX hY b1 b2 g1 g2 hl ho hw hk hR s1 s2 hA hB hC hIS hlt hm HS;go_wp2_with fail
      go_quiet (simp only[hXX,hYY])
      have R2:=hdd (HR.out.step (below_drewN wr nq));generalize wr.drewN nq=wd at R2|-;clear x0 x1 HR hXX hYY;go_wp2_with fail
      refine(R2.out.spot (by have:=HLT.out;omega) HG.out.1.1 HG.out.2.1 HG.out.1.2.1 HG.out.2.2.1).mono ?_;rintro e w3⟨k1,k2,rfl,hR3⟩;obtain⟨w4,hw4,hb4,hs4,b4⟩:=pro1 w3 (fT g k1 k2);have R4:=(hw4▸hR3.alloc _:Run (bs w) g (2*m+2) ((li X,k1)::(li Y,k2)::K) ((w3.heap.size,fT g k1 k2)::(la++lw)) w4);have HR4:=hdd (R4.subl (bfP _ _));have HOL:=hdd (HO.out.own HR4.out);have HC4:=hdd (World.news_of_block b4);clear hR3 R4 hb4 hs4 b4 R2
      go_upto_region 14 with (first
       |(at_builtin
         go_loud (
         refine wpList_append_lies _ rfl _ _ 40 rfl 0 43 j0 (.agg #[.pointer none,.int .i64 0,.pointer none,.int .i64 0]) 4 32 af1 HJ0.out HY0.out HY1.out HY2.out rfl (by decide) _ m (spL g ps) rfl HOL.out ⟨w3.heap.size,0,none⟩ 1 1 [.pointer (some ⟨g,0,none⟩),.int .i64 (k1:Int),.pointer (some ⟨g,0,none⟩),.int .i64 (k2:Int)] rfl rfl HC4.out (by simp[bfT]) (by decide) (by have:=HLT.out;unfold maxLen;omega) (by omega) (bfR _) w4.heap.size rfl ?_;intro r2 cap2 w5 hown5 hgrow5 hat5 hlt5;obtain⟨la2,ho5,hR5⟩:=HO.out.grow HR4.out hown5 hgrow5 hat5;have HO5:=hdd ho5;have R5:=hdd (hR5.perm bfQ);clear hown5 hgrow5 hat5 hlt5 ho5 hR5)))
      have HN:Hid (OwnR 43 4 (.slice (some ⟨r2,0,none⟩) (m+1) cap2) (m+1) (spL g (ps++[(k1,k2)])) la2/\(∀j p,(ps++[(k1,k2)])[j]? =some p->(li (inX xs j),p.1)∈(li X,k1)::(li Y,k2)::K/\(li (inY xs j),p.2)∈(li X,k1)::(li Y,k2)::K)):=hdd ⟨by rw[abK];exact HO5.out,fun j p hp=>by
       rw[List.getElem?_append]at hp
       split at hp
       . obtain⟨h1,h2⟩:=HK.out j p hp
         exact⟨.tail _ (.tail _ h1),.tail _ (.tail _ h2)⟩
       . rename_i hge
         have hj:j=ps.length:=by
          rcases Nat.eq_zero_or_pos (j-ps.length)with e|e
          . omega
          . rw[List.getElem?_eq_none (by simp only[List.length_singleton];exact e)]at hp;cases hp
         subst hj;rw[Nat.sub_self]at hp;obtain rfl:(k1,k2)=p:=by simpa using hp
         rw[HL.out,HXY.out.1,HXY.out.2];exact⟨.head _,.tail _ (.head _)⟩⟩
      clear HO5 HOL HC4 HR4 HO HK HG;rcases Int.lt_trichotomy C R with h|h|h
      . have h1:decide (C<R)=true:=decide_eq_true h
        have h2:decide (C>R)=false:=decide_eq_false (by omega);have h3:decide (R<C)=false:=h2;have HZ:Hid (inS xs R m=(-1)):=hdd (HIS.out.trans (Int.sign_eq_neg_one_of_neg (by omega)));obtain⟨w7,hw7,hb7,hs7,b7⟩:=pro1 w5 (.cells #[.int .i64 (-1)] 3);have R7:=hdd ((hw7▸R5.out.alloc _:Run (bs w) g (2*m+2) ((li X,k1)::(li Y,k2)::K) ((w5.heap.size,.cells #[.int .i64 (-1)] 3)::(lw++la2)) w7).subl (bfP _ _));have HC7:=hdd (dU b7);have HWL:=hdd (HW.out.own R7.out);clear hb7 hs7 b7 R5 h HIS;go_wp2_with (first
         |(at_builtin
           go_loud (
           refine wpList_append_lies _ rfl _ _ 22 rfl 0 3 i0 (.int .i64 0) 1 8 gG HI0.out HZ0.out HZ1.out HZ2.out rfl (by decide) _ m (jQ ((bfS m).map (inS xs R))) rfl HWL.out ⟨w5.heap.size,0,none⟩ 1 1 [.int .i64 (-1)] rfl rfl HC7.out (by simp[bfT]) (by decide) (by have:=HLT.out;unfold maxLen;omega) (by omega) (bfR _) w7.heap.size rfl ?_;intro r3 cap3 w8 hown8 hgrow8 hat8 hlt8;obtain⟨lw2,ho8,hR8⟩:=HW.out.grow R7.out hown8 hgrow8 hat8;have HO8:=hdd ho8;have R8:=hdd (hR8.perm bfQ);clear hown8 hgrow8 hat8 hlt8 ho8 hR8)))
        go_roundw
        case rel=>exact⟨m+1,by have:=HLT.out;omega,by go_num,hdd ⟨_,_,la2,lw2,by rw[bfY,HL.out];rfl,HN.out.1,yZ HZ.out HO8.out,HN.out.2,R8.out.more (by omega)⟩⟩
        case measure=>have:=HLT.out;simp[intOf];omega
      . have h1:decide (C<R)=false:=decide_eq_false (by omega)
        have h2:decide (C>R)=false:=decide_eq_false (by omega);have h3:decide (R<C)=false:=h2;have HZ:Hid (inS xs R m=0):=hdd (HIS.out.trans (by rw[show C-R=0 by omega];rfl));obtain⟨w7,hw7,hb7,hs7,b7⟩:=pro1 w5 (.cells #[.int .i64 0] 3);have R7:=hdd ((hw7▸R5.out.alloc _:Run (bs w) g (2*m+2) ((li X,k1)::(li Y,k2)::K) ((w5.heap.size,.cells #[.int .i64 0] 3)::(lw++la2)) w7).subl (bfP _ _));have HC7:=hdd (dU b7);have HWL:=hdd (HW.out.own R7.out);clear hb7 hs7 b7 R5 h HIS;go_wp2_with (first
         |(at_builtin
           go_loud (
           refine wpList_append_lies _ rfl _ _ 22 rfl 0 3 i0 (.int .i64 0) 1 8 gG HI0.out HZ0.out HZ1.out HZ2.out rfl (by decide) _ m (jQ ((bfS m).map (inS xs R))) rfl HWL.out ⟨w5.heap.size,0,none⟩ 1 1 [.int .i64 0] rfl rfl HC7.out (by simp[bfT]) (by decide) (by have:=HLT.out;unfold maxLen;omega) (by omega) (bfR _) w7.heap.size rfl ?_;intro r3 cap3 w8 hown8 hgrow8 hat8 hlt8;obtain⟨lw2,ho8,hR8⟩:=HW.out.grow R7.out hown8 hgrow8 hat8;have HO8:=hdd ho8;have R8:=hdd (hR8.perm bfQ);clear hown8 hgrow8 hat8 hlt8 ho8 hR8)))
        go_roundw
        case rel=>exact⟨m+1,by have:=HLT.out;omega,by go_num,hdd ⟨_,_,la2,lw2,by rw[bfY,HL.out];rfl,HN.out.1,yZ HZ.out HO8.out,HN.out.2,R8.out.more (by omega)⟩⟩
        case measure=>have:=HLT.out;simp[intOf];omega
      . have h1:decide (C<R)=false:=decide_eq_false (by omega)
        have h2:decide (C>R)=true:=decide_eq_true h;have h3:decide (R<C)=true:=h2;have HZ:Hid (inS xs R m=1):=hdd (HIS.out.trans (Int.sign_eq_one_of_pos (by omega)));obtain⟨w7,hw7,hb7,hs7,b7⟩:=pro1 w5 (.cells #[.int .i64 1] 3);have R7:=hdd ((hw7▸R5.out.alloc _:Run (bs w) g (2*m+2) ((li X,k1)::(li Y,k2)::K) ((w5.heap.size,.cells #[.int .i64 1] 3)::(lw++la2)) w7).subl (bfP _ _));have HC7:=hdd (dU b7);have HWL:=hdd (HW.out.own R7.out);clear hb7 hs7 b7 R5 h HIS;go_wp2_with (first
         |(at_builtin
           go_loud (
           refine wpList_append_lies _ rfl _ _ 22 rfl 0 3 i0 (.int .i64 0) 1 8 gG HI0.out HZ0.out HZ1.out HZ2.out rfl (by decide) _ m (jQ ((bfS m).map (inS xs R))) rfl HWL.out ⟨w5.heap.size,0,none⟩ 1 1 [.int .i64 1] rfl rfl HC7.out (by simp[bfT]) (by decide) (by have:=HLT.out;unfold maxLen;omega) (by omega) (bfR _) w7.heap.size rfl ?_;intro r3 cap3 w8 hown8 hgrow8 hat8 hlt8;obtain⟨lw2,ho8,hR8⟩:=HW.out.grow R7.out hown8 hgrow8 hat8;have HO8:=hdd ho8;have R8:=hdd (hR8.perm bfQ);clear hown8 hgrow8 hat8 hlt8 ho8 hR8)))
        go_roundw
        case rel=>exact⟨m+1,by have:=HLT.out;omega,by go_num,hdd ⟨_,_,la2,lw2,by rw[bfY,HL.out];rfl,HN.out.1,yZ HZ.out HO8.out,HN.out.2,R8.out.more (by omega)⟩⟩
        case measure=>have:=HLT.out;simp[intOf];omega
    . have hme:m=xs.length:=by omega
      subst hme;obtain⟨K,ps,la,lw,hl,ho,hw,hk,hR⟩:=HS.out;obtain⟨pa,ca,rfl⟩:=ho.slice;obtain⟨pw,cw,rfl⟩:=hw.slice;have hcR:floatOfInt FloatKind.f64 R=fl R:=rfl;have hfR:=qM (k:=R) (by have:=HR0.out;omega);obtain⟨n,hn⟩:∃n,xs.length=n:=⟨_,rfl⟩;rw[hn]at hl ho hw hR;have hn12:n<=12:=by omega
      have HIN:=hdd (acT (σ:=inS xs R) (ca:=0) (cb:=0) (cc:=fl R) ⟨aiO,aiO,⟨hfR.1,hfR.2.1⟩,by rw[hfR.2.2];exact Int.mul_nonneg HR0.out.1 (Int.natCast_nonneg _)⟩ hR (hl▸ho) (by omega) (by omega) (fun j p hp=>⟨_,_,(hk j p hp).1,(hk j p hp).2,ajO (tm20 _) (tm20 _) HR0.out⟩));rw[hl]at HIN;have HW:=hdd hw;have HP:=hdd (show(.slice pa n ca:Value)=.slice pa n ca from rfl);clear hk hl ho hw hR hfR hm hge HS HX HT HR0;go_wp2_with fail
      refine HIN.out.mono ?_;rintro e w3⟨vm,lm,rfl,hom,hR3⟩;obtain⟨pm,cm,rfl⟩:=hom.slice;have HM:=hdd hom;have R3:=hdd hR3;have hnI:(n:Int)<=12:=by omega
      clear hom hR3 HIN;go_wp2_with fail
      go_loopw [14] (fun i wr=>∃j:Nat,j<=n/\i=.int .i64 (j:Int)/\Hid (Run (bs w) g (2*n+9*n) K (lm++(la++lw)) wr)) (fun i _=>((n:Int)-intOf i).toNat)
      case atStart=>exact⟨0,bfR _,rfl,R3⟩
      case round=>
       obtain⟨j,hj,rfl,HF⟩:=hrel;clear R3;rcases bf2 j n with hlt|hge
       . obtain⟨rm,rfl,y0⟩:=HM.out.cellW (q:=j) (u:=.int .i64 (inS xs R j)) HF.out (by simp[hlt])
         obtain⟨rw',rfl,y1⟩:=HW.out.cellW (L:=lm++la) (q:=j) (u:=.int .i64 (inS xs R j)) (HF.out.perm (by rw[<-List.append_assoc lm la lw];exact bfQ)) (by simp[hlt]);have hjI:(j:Int)<(n:Int):=by omega
         have hj0:(0:Int)<=(j:Int):=by omega
         have HLT:=hdd hlt;clear hlt hj;generalize inS xs R j=z at y0 y1;go_wp2_with fail
         go_quiet (fail)
         have HF2:=hdd (HF.out.step (below_drewN wr nq));clear y0 y1 HF;go_wp2_with fail
         go_roundw
         case rel=>exact⟨j+1,by have:=HLT.out;omega,by go_num,HF2⟩
         case measure=>have:=HLT.out;simp[intOf];omega
       . have hje:j=n:=by omega
         subst hje;have HB:=hdd (Run.below HF.out);clear hj hge HF;go_wp2;go_ret;exact⟨rfl,HB.out⟩
end Go.Proofs.YtebdolonckjpiaaGreatDoor
