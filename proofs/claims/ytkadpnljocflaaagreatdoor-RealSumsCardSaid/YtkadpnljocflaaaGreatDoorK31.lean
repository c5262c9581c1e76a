/- A part of the proof: contracts of functions and plain laws (FlrU, RunB, RlN, OwR, AlvQ). -/
import Derived.Test.YtkadpnljocflaaaGreatDoorK30
import Derived.Test.YtkadpnljocflaaaGreatDoorK04
import Derived.Test.YtkadpnljocflaaaGreatDoorK02
import Derived.Deep.AppendLies
set_option linter.unusedVariables false
set_option linter.unusedSimpArgs false
set_option linter.unnecessarySimpa false
set_option maxHeartbeats 25600000
set_option maxRecDepth 100000
namespace Go.Proofs.YtkadpnljocflaaaGreatDoor
section
open Go.RowKit
open _root_.Array renaming getElem?_eq_some_iff->az3
variable{xs:List Nat}{m:Nat}{p:Nat->Prop}{va:Value}{w:World}
theorem adZ(ho:OkL xs)(ht:Tr xs)(hv:val xs=m)(h0:m≠0)(hm:m<B64):xs=[m]:=by
 cases xs with
 |nil=>simp[val]at hv;omega
 |cons a t=>
  cases t with
  |nil=>simp[val]at hv;rw[hv]
  |cons b t=>
   have h1:=fE (a::b::t) ht (by simp);rw[hv]at h1;have h2:B64^1<=B64^((a::b::t).length-1):=Nat.pow_le_pow_right (by decide) (by simp);rw[Nat.pow_one]at h2;omega
def Own1(B:Nat)(w:World)(v:Value)(u:Value):Prop:=∃r cap cur,v=.slice (some ⟨r,0,none⟩) 1 cap/\B<=r/\w.heap[r]? =some (.cells cur 149 (0,0))/\cur[0]? =some u/\1<=cap/\cap<=maxLen/\cur.size=cap*1
theorem acE{B:Nat}{g cap:Nat}{u:Value}(h:w.ownsRow B 149 1 (.slice (some ⟨g,0,none⟩) 1 cap) 1 [u]):Own1 B w (.slice (some ⟨g,0,none⟩) 1 cap) u:=by
 rcases h.2 with ⟨e,-⟩|⟨g1,c1,cur,e,h0,h1,h2,h3,h4,h5⟩
 . simp at e
 . simp only[Value.slice.injEq,Option.some.injEq,Addr.mk.injEq]at e
   obtain⟨⟨rfl,-⟩,-,rfl⟩:=e;refine⟨g,cap,cur,rfl,h0,h1,?_,h2,h3,h4⟩;have:=congrArg (·[0]?) h5;simpa using this
theorem aiT(hx:NatP p w va xs)(hv:val xs=m)(h0:m≠0)(hm:m<B64):
 Calls Tryz.prog 92 #[va] w (fun e w'=>∃v,e=.returned v/\Own1 w.heap.size w' v (.int .u64 m)/\Below w.heap.size w w'):=by
 obtain⟨i0,hi,hz0,hz1,hz2⟩:=info_parts nC;go_enter Tryz.func92,Tryz.ntmps92
 go_wp2_with fail
 refine(aH hx).mono ?_;rintro e w1⟨rfl,v1,xs1,rfl,hv1,ht1,hval1,-⟩;obtain rfl:=adZ hv1.ok ht1 (hval1.trans hv) h0 hm;obtain⟨A,c,rfl,-,-,-,h5⟩:=hv1;obtain⟨b,off,rfl,-,-,hc⟩:=h5 Nat.one_pos;have hc0:=hc 0 Nat.one_pos;clear hx hc h5 hval1 ht1;go_wp2_with (at_builtin;refine wpList_append_lies _ rfl _ _ 73 rfl w.heap.size 149 i0 (.int .u64 0) 1 8 Tryz.underlying73 hi hz0 hz1 hz2 rfl (by decide) _ _ _ rfl (World.ownsRow_nil w _ _ _) ⟨b,off,none⟩ 1 c [.int .u64 m] rfl rfl ?c1 ?c2 (by decide) ?c3 ?c4 nlr _ rfl ?_)
 case c1=>
  intro j u hj
  match j,hj with
  |0,hj=>simp at hj;subst hj;simpa[Addr.add,lim,lx]using hc0
 case c2=>intro u hu;simp at hu;subst hu;rfl
 case c3=>unfold maxLen;omega
 case c4=>omega
 intro g cap w' o1 o2 o3 o4;have HF:=hdd (And.intro (acE o1) (Below.grown (Below.refl w.heap.size w) o2 nlr (fun k hk=>by simp[Value.ownBlock]at hk)));clear o1 o2 o3 o4;go_wp2;go_ret;exact⟨_,rfl,HF.out.1,HF.out.2⟩
theorem abF{r cap by_:Nat}{cur:Array Value}(hh:w.heap[r]? =some (.cells cur 149 (0,0)))(hc:cur[0]? =some (.int .u64 (m:Int)))(hm:m<by_)(hb:by_<B64):
 Calls Tryz.prog 93 #[.slice (some ⟨r,0,none⟩) 1 cap,.int .u64 by_] w (fun e w'=>e=.returned (.int .u64 (m:Int))/\w'.heap[r]? =some (.cells (cur.set! 0 (.int .u64 0)) 149 (0,0))/\(∀b,b≠r->w'.heap[b]? =w.heap[b]?)/\∀B,B<=r->Below B w w'):=by
 have c0:w.cell? ⟨r,0,none⟩=some (.int .u64 (m:Int)):=by simp[World.cell?,hh,hc]
 have f0:w.frozen? ⟨r,0,none⟩=false:=Lib.frozen_of_heap hh 0;have HD:=hdd fun w'=>oU 0 m by_ w' hb (by omega) (by omega);have e1:(0*B64+m)/by_=0:=by rw[Nat.zero_mul,Nat.zero_add];exact Nat.div_eq_of_lt hm
 have e2:(0*B64+m)%by_=m:=by rw[Nat.zero_mul,Nat.zero_add];exact Nat.mod_eq_of_lt hm
 rw[e1,e2]at HD;have HH:=hdd hh;clear e1 e2 hh hc;go_enter Tryz.func93,Tryz.ntmps93
 go_wp2_with fail
 refine wp_loop_rounds 2 ?_;rw[rounds_succ];go_wp2_with fail
 refine(HD.out _).mono ?_;rintro e w1⟨rfl,k,rfl⟩;have hlt:r<w.heap.size:=(az3.1 HH.out).1;have h':w.heap[r]=.cells cur 149 (0,0):=(az3.1 HH.out).2;have HF:Hid (((w.drewN k).setCell ⟨r,0,none⟩ (.int .u64 0)).heap[r]? =some (.cells (cur.set! 0 (.int .u64 0)) 149 (0,0))/\(∀b,b≠r->((w.drewN k).setCell ⟨r,0,none⟩ (.int .u64 0)).heap[b]? =w.heap[b]?)/\∀B,B<=r->Below B w ((w.drewN k).setCell ⟨r,0,none⟩ (.int .u64 0))):=hdd ⟨by
  show((w.setCell ⟨r,0,none⟩ (.int .u64 0))).heap[r]? =_;simp[World.setCell,hlt,Array.getElem_modify,h'],fun b hne=>Below.heap_setCell (w.drewN k) _ _ b (fun e=>hne (by simpa using e)),fun B hB=>Below.setCell (p:=⟨r,0,none⟩) (show Below B w (w.drewN k) from⟨rfl,rfl,rfl,Nat.le_refl _,fun _ _=>rfl⟩) hB _⟩
 replace c0:(w.drewN k).cell? ⟨r,0,none⟩=some (.int .u64 (m:Int)):=c0;replace f0:(w.drewN k).frozen? ⟨r,0,none⟩=false:=f0;clear HH h' HD;generalize w.drewN k=w1 at*;go_wp2_with fail
 rw[rounds_succ];go_wp2_with fail
 go_wp2;go_ret;exact⟨rfl,HF.out⟩
theorem ag7:∀m,m<100->(dgS m).size<=1000/\Lib.decDigits m≠[]:=by decide+kernel
theorem ag8(m:Nat):Lib.strCells (dgS m)=Lib.byteCells (Lib.decDigits m):=by simp[Lib.strCells,Lib.byteCells,dgS]
theorem ad1(hx:NatP p w va xs)(hv:val xs=m)(h0:m≠0)(hm:m<100):
 Calls Tryz.prog 60 #[va] w (fun e w'=>e=.returned (.string (dgS m))/\Below w.heap.size w w'):=by
 obtain⟨i0,hi,hz0,hz1,hz2⟩:=info_parts nC;have hB64:m<B64:=Nat.lt_trans hm (by decide);have HC:=hdd (aiT hx hv h0 hB64);have HF:=hdd fun w'=>aiR hm w';have HM:=hdd (And.intro hm h0);clear hx hv hB64 h0;go_enter Tryz.func60,Tryz.ntmps60
 go_wp2_with fail
 refine HC.out.mono ?_;rintro e w1⟨v,rfl,⟨r,cap,cur,rfl,hB,hh,hc,hc1,hcM,hcs⟩,hb⟩;have HS:=hdd (abF (cap:=cap) (by_:=10000000000000000000) hh hc (by omega) (by decide));have HR:=hdd (And.intro hB (And.intro hc1 (And.intro hcM (And.intro hb (And.intro hcs hc)))));have HLT:=hdd (az3.1 hh).1;clear HC hh hc hb hB hcs hcM hc1;go_wp2_with fail
 refine wp_loop_rounds 2 ?_;rw[rounds_succ];go_wp2_with fail
 refine HS.out.mono ?_;rintro e w2⟨rfl,hh2,hk2,hb2⟩;have HW2:=hdd (And.intro hh2 (And.intro hk2 hb2));clear hh2 hk2 hb2 HS;go_wp2_with (at_builtin;refine wpList_append_lies _ rfl _ _ 72 rfl w2.heap.size 149 i0 (.int .u64 0) 1 8 Tryz.underlying72 hi hz0 hz1 hz2 rfl (by decide) _ _ _ rfl (World.ownsRow_nil _ _ _ _) ⟨w2.heap.size,0,none⟩ 1 1 [.int .u64 (m:Int)] rfl rfl ?c1 ?c2 Nat.one_pos ?c3 ?c4 ?c5 _ rfl ?_)
 case c1=>
  intro j u hj
  match j,hj with
  |0,hj=>
   simp at hj;subst hj;have hn:=heap_alloc_new w2 (.cells #[.int .u64 (m:Int)] 149);simp only[Addr.add_lit,World.cell?,hn];rfl
 case c2=>intro u hu;simp at hu;subst hu;rfl
 case c3=>unfold maxLen;omega
 case c4=>omega
 case c5=>simp
 intro q cap2 w3 o1 o2 o3 o4;obtain⟨q',capq,cur2,eq,hq,hh3,hc3,-,-,-⟩:=acE o1;simp only[Value.slice.injEq,Option.some.injEq,Addr.mk.injEq]at eq;obtain⟨⟨rfl,-⟩,-,rfl⟩:=eq;have hw1:=HR.out;have hw2:=HW2.out;have hsz2:w1.heap.size<=w2.heap.size:=(hw2.2.2 r (Nat.le_refl r)).size;have hr3:w3.heap[r]? =some (.cells (cur.set! 0 (.int .u64 0)) 149 (0,0)):=by
  rw[o2.block r (by have:=HLT.out;simp;omega) (by simp[Value.ownBlock]),Lib.alloc_old w2 _ r (by have:=HLT.out;omega)];exact hw2.1
 have hb3:Below w.heap.size w w3:=by
  have h1:Below w.heap.size w1 w2:=hw2.2.2 _ hw1.1;have h2:Below w.heap.size w1 (w2.alloc (.cells #[.int .u64 (m:Int)] 149)):=h1.alloc (by have:=hw1.2.2.2.1.size;omega) _;exact(hw1.2.2.2.1).trans (h2.grown o2 (by have:=hw1.2.2.2.1.size;simp;omega) (fun k hk=>by simp[Value.ownBlock]at hk))
 have hN:NatP AnyB w3 (.slice (some ⟨r,0,none⟩) 1 cap) [0]:=by
  refine⟨_,_,rfl,hw1.2.1,⟨by decide,by have:=hw1.2.2.1;unfold maxLen at this;omega⟩,by simp[OkL,B64],fun _=>⟨r,0,rfl,trivial,(az3.1 hr3).1,fun k hk=> ?_⟩⟩
  match k,hk with
  |0,_=>
   have hs0:0<cur.size:=by rw[hw1.2.2.2.2.1];have:=hw1.2.1;omega
   simp[World.cell?,hr3,lim,lx,Array.set!,hs0]
 have HT:=hdd (aH hN);have H3:=hdd (And.intro hh3 (And.intro hc3 hb3));clear o1 o2 o3 o4 hw1 hw2 hsz2 hr3 hb3 hN hh3 hc3 HW2 HR HLT;go_wp2_with fail
 refine HT.out.mono ?_;rintro e w4⟨rfl,v4,ys,rfl,hv4,ht4,hval4,-⟩;obtain rfl:ys=[]:=by
  rcases ys with _|⟨a,t⟩
  . rfl
  . have h1:=fE (a::t) ht4 (by simp)
    rw[hval4]at h1;have h2:=Nat.pow_pos (n:=(a::t).length-1) (show 0<B64 by decide);rw[show val [0]=0 from rfl]at h1;omega
 obtain⟨A4,c4,rfl,-⟩:=hv4;clear ht4 hval4 HT;go_wp2_with fail
 obtain⟨w5,hw5,hb5,hs5,b5⟩:=pro1 w3 (.cells #[.pointer none,.slice none 0 0] 155);have H5:=hdd (And.intro hb5 (And.intro hs5 b5));have c5:w5.cell? ⟨q,0,none⟩=some (.int .u64 (m:Int)):=by
  simp only[World.cell?,hbl H3.out.1 hb5];simp[H3.out.2.1]
 clear hb5 hs5 b5;rw[rounds_succ];go_wp2_with fail
 refine wp_loop_rounds 2 ?_;rw[rounds_succ];go_wp2_with fail
 refine(HF.out _).mono ?_;rintro e w6⟨rfl,rfl⟩;have HW:=hdd (ag6 (B:=w.heap.size) (b:=w3.heap.size) (s:=dgS m) H3.out.2.2.size H5.out.2.2 (ag7 m HM.out.1).1);go_wp2_with fail
 refine HW.out.mono ?_;rintro e w7⟨rfl,hI,hb7⟩;rw[ag8]at hI;have HST:=hdd (Tryz.Builder_String _ _ _ _ hI (ag7 m HM.out.1).2);have HB7:Hid (Below w.heap.size w w7):=hdd ((H3.out.2.2.trans (H5.out.1.mono H3.out.2.2.size)).trans hb7);clear hI hb7 HW HF H3 H5 c5;go_wp2_with fail
 rw[rounds_succ];go_wp2_with fail
 refine HST.out.mono ?_;rintro e w8⟨rfl,hb8⟩;have HB8:=hdd (HB7.out.trans hb8);clear hb8;go_wp2;go_ret;exact⟨rfl,HB8.out⟩
theorem vS{v:Value}{z:Int}(hx:IntP p w v z)(h0:z≠0)(hz:z.natAbs<100):
 Calls Tryz.prog 32 #[v] w (fun e w'=>e=.returned (.string (if z<0 then⟨#[45]⟩++dgS z.natAbs else dgS z.natAbs))/\Below w.heap.size w w'):=by
 obtain⟨S,hS⟩:∃S,(if z<0 then⟨#[45]⟩++dgS z.natAbs else dgS z.natAbs:ByteArray)=S:=⟨_,rfl⟩;rw[hS];obtain⟨vm,xs,rfl,h1,h2,h3⟩:=hx;obtain⟨w1,hw1,hb1,hs1,b1⟩:=pro1 w (.cells #[.bool (decide (z<0)),vm] 75);obtain⟨c0,c1,-,-⟩:=aB b1;have HX:=hdd (h1.below hb1);have HSG:=hdd (jS (show IntP p w1 (.agg #[.bool (decide (z<0)),vm]) z from⟨vm,xs,rfl,HX.out,h2,h3⟩));have HB:=hdd hb1;have HZ:=hdd (And.intro h0 hz);have HV:=hdd h3;clear h1 h2 hb1 hs1 b1 h0 hz h3;go_enter Tryz.func32,Tryz.ntmps32
 go_wp2_with fail
 refine HSG.out.mono ?_;rintro e w2⟨rfl,hb⟩;replace c0:=cbl c0 hb;replace c1:=cbl c1 hb;have HB2:=hdd (HB.out.trans (hb.mono HB.out.size));have HN:=hdd (ad1 (HX.out.below hb) HV.out (by have:=HZ.out.1;omega) HZ.out.2);clear hb HSG HX HB hw1;by_cases hn:z<0
 . have hs:z.sign<0:=by rw[Int.sign_eq_neg_one_of_neg hn];decide
   rw[if_pos hn]at hS;subst hS;go_wp2_with fail
   refine HN.out.mono ?_;rintro e w3⟨rfl,hb3⟩;have HB3:=hdd (HB2.out.trans (hb3.mono HB2.out.size));have hno:¬9223372036854775807<1+(dgS z.natAbs).size:=by have:=(ag7 _ HZ.out.2).1;omega
   clear hb3;go_wp2;go_ret;exact⟨rfl,HB3.out⟩
 . have hs:¬z.sign<0:=by
    have:0<z:=by have:=HZ.out.1;omega
    rw[Int.sign_eq_one_of_pos this];decide
   rw[if_neg hn]at hS;subst hS;go_wp2_with fail
   refine HN.out.mono ?_;rintro e w3⟨rfl,hb3⟩;have HB3:=hdd (HB2.out.trans (hb3.mono HB2.out.size));clear hb3;go_wp2;go_ret;exact⟨rfl,HB3.out⟩
end
section
open Go.RowKit Go.Maps
open List renaming mem_cons_self->az4,mem_cons_of_mem->az5,nodup_cons->az6,mem_cons->az7,map_cons->az8,mem_map->az9
section
variable{s:Bs}{g N:Nat}{K:List (Ex×Nat)}{l l':List (Nat×Obj)}{W W':World}{b bb nb:Nat}{o O O':Obj}
theorem Run.perm (h:Run s g N K l W)(hp:l'.Perm l):Run s g N K l' W:=h.sub (fun p hm=>hp.subset hm) ((hp.map _).nodup_iff.2 h.nodup)
theorem Run.keep (h:Run s g N K l W)(hb:Below W.heap.size W W')(ho:W'.heap[b]? =some o)(hlo:W.heap.size<=b):Run s g N K ((b,o)::l) W':=by
 obtain⟨ns',hs,hK⟩:=h;have h':=hs.below hb;refine⟨ns',⟨h'.grew,fun p hp=> ?_,h'.hw,?_⟩,hK⟩
 . rcases az7.1 hp with rfl|hp
   . exact⟨ho,fun hd=>by have:=hs.grew.1.dag.dagB ((DagB.congr (hb.block g hs.grew.1.dag.glt)).1 hd);simp only at this;omega,Nat.le_trans hs.grew.2.2.size hlo⟩
   . exact h'.kept p hp
 . rw[az8,az6]
   refine⟨fun hm=> ?_,h'.nodup⟩;obtain⟨p,hp,e⟩:=az9.1 hm;have:=hs.lt hp;simp only at e;omega
theorem Run.keeps (h:Run s g N K l W)(hb:Below W.heap.size W W')(lb:List (Nat×Obj))(ho:∀p∈lb,W'.heap[p.1]? =some p.2/\W.heap.size<=p.1)(hnd:(lb.map (·.1)).Nodup):Run s g N K (lb++l) W':=by
 obtain⟨ns',hs,hK⟩:=h;have h':=hs.below hb;refine⟨ns',⟨h'.grew,fun p hp=> ?_,h'.hw,?_⟩,hK⟩
 . rcases List.mem_append.1 hp with hp|hp
   . obtain⟨q1,q2⟩:=ho p hp
     exact⟨q1,fun hd=>by have:=hs.grew.1.dag.dagB ((DagB.congr (hb.block g hs.grew.1.dag.glt)).1 hd);omega,Nat.le_trans hs.grew.2.2.size q2⟩
   . exact h'.kept p hp
 . rw[List.map_append,List.nodup_append]
   refine⟨hnd,h'.nodup,fun a ha b hb' e=> ?_⟩;obtain⟨p,hp,rfl⟩:=az9.1 ha;obtain⟨q,hq,rfl⟩:=az9.1 hb';have:=hs.lt hq;have:=(ho p hp).2;omega
end
section
variable{s:Bs}{W:World}{g N i j v:Nat}{K:List (Ex×Nat)}{l:List (Nat×Obj)}{x y:Ex}
theorem Run.goesN (h:Run s g N K l W)(hx:(x,i)∈K):Calls Tryz.prog 35 #[.agg #[.pointer (some ⟨g,0,none⟩),.int .i64 (i:Int)],.slice none 0 0] W (RetV W (.bool true)):=by
 obtain⟨ns,hs,hK⟩:=h;exact vP hs.st.dag (hK _ hx).lt
theorem Run.leafD (h:Run s g N K l W)(hN:N<20000)(hv:v<18446744073709551616)(hf:fin v):Calls Tryz.prog 34 #[.pointer (some ⟨g,0,none⟩),.float .f64 v] W (fun e W'=>∃k,e=.returned (idV k)/\Run s g (N+1) ((.leaf v,k)::K) l W'):=by
 obtain⟨ns,hs,hK⟩:=h;exact(zM hs.st hN hv hf trivial).mono fun _ _ hr=>oO hs hK hr
theorem Run.subD (h:Run s g N K l W)(hN:N<20000)(hx:(x,i)∈K)(hy:(y,j)∈K):Calls Tryz.prog 41 #[.pointer (some ⟨g,0,none⟩),.int .i64 (i:Int),.int .i64 (j:Int)] W (fun e W'=>∃k,e=.returned (idV k)/\Run s g (N+1) ((.sub x y,k)::K) l W'):=by
 obtain⟨ns,hs,hK⟩:=h;exact(acA hs.st hN (hK _ hx) (hK _ hy) trivial).mono fun _ _ hr=>oO hs hK hr
theorem Run.neg (h:Run s g N K l W)(hN:N+2<=20000)(hx:(x,i)∈K):Calls Tryz.prog 31 #[numV g i] W (RtR s g (N+2) K l (.sub (.leaf 0) x)):=by
 obtain⟨w4,hw4,hb4,hs4,b1,b2⟩:=pro2 W (.cells #[.pointer (some ⟨g,0,none⟩),.int .i64 (i:Int)] 33) (.cells #[.pointer none,.int .i64 0] 33);have R4:=hdd (h.keeps hb4 [(W.heap.size,.cells #[.pointer (some ⟨g,0,none⟩),.int .i64 (i:Int)] 33),(W.heap.size+1,.cells #[.pointer none,.int .i64 0] 33)] (fun p hp=>by
  simp only[az7,List.not_mem_nil,or_false]at hp;rcases hp with rfl|rfl
  . exact⟨b1,Nat.le_refl _⟩
  . exact⟨b2,Nat.le_succ _⟩) (by simp))
 have HG:=hdd (R4.out.goesN hx);have HX:=hdd hx;have HN:=hdd hN;obtain⟨e0,e1,-,-⟩:=aB b1;clear h hN hx hb4 b1 b2 hs4;go_enter Tryz.func31,Tryz.ntmps31
 go_wp2_with fail
 refine HG.out.mono ?_;rintro e w5⟨rfl,hb5⟩;have R5:=hdd (R4.out.step hb5).drew;clear hb5 hw4 e0 e1 HG R4;obtain⟨e0,e1,-,-⟩:=aB (R5.out.at (az4 ..));go_wp2_with fail
 go_region_held3 (fun w'=>w'.cell? ⟨W.heap.size,0,none⟩=some (.pointer (some ⟨g,0,none⟩))/\w'.cell? ⟨W.heap.size,1,none⟩=some (.int .i64 (i:Int))) (go_keep)
  (first
  |(go_at_call 34
    with_reducible refine(R5.out.leafD (by have:=HN.out;omega) (by decide) (by decide)).mono ?_
    rintro e w6⟨k,rfl,hR6⟩;have R6:=hdd hR6;obtain⟨e0,e1,-,-⟩:=aB (R6.out.at (az4 ..));clear hR6)
  |(go_at_call 41
    with_reducible refine(R6.out.subD (by have:=HN.out;omega) (az4 ..) (az5 _ HX.out)).mono ?_
    rintro e w7⟨k2,rfl,hR7⟩;have R7:=hdd hR7;obtain⟨e0,e1,-,-⟩:=aB (R7.out.at (az4 ..));obtain⟨r0,r1,f0,f1⟩:=aB (R7.out.at (az5 _ (az4 ..)));clear hR7))
 obtain⟨w8,hw8⟩:∃v,(w7.setCell ⟨W.heap.size+1,0,none⟩ (.pointer (some ⟨g,0,none⟩))).setCell ⟨W.heap.size+1,1,none⟩ (.int .i64 (k2:Int))=v:=⟨_,rfl⟩;have g8:w7.grownBy w8 (some (W.heap.size+1)):=by rw[<-hw8];exact grownBy_set (grownBy_set (aiQ _ _) _) _
 have s8:=set2 (R7.out.at (az5 _ (az4 ..))) (.pointer (some ⟨g,0,none⟩)) (.int .i64 (k2:Int));rw[hw8]at s8;have R8:=hdd ((R7.out.perm (List.Perm.swap _ _ _)).write g8 s8);simp only[hw8];clear e0 e1 r0 r1 f0 f1 g8 s8 hw8 R7 R6 R5;obtain⟨x0,x1,-,-⟩:=aB (R8.out.at (az4 ..));go_wp2;refine bodyPost_ret (v:=.agg #[_,_]) (by simp[results,Tryz.results31,go_sem,x0,x1];first|exact⟨rfl,rfl⟩|rfl) rfl ?_;refine⟨k2,rfl,?_⟩;have h9:=R8.out.sub (l':=l) (fun p hp=>az5 _ (az5 _ hp)) (by have:=R8.out.nodup;rw[az8,az8]at this;exact(az6.1 (az6.1 this).2).2);exact h9.few (fun p hp=>by
  rcases az7.1 hp with rfl|hp
  . exact az4 ..
  . exact az5 _ (az5 _ hp))
end
section
variable{s:Bs}{g N n n' sz g0 cap:Nat}{K:List (Ex×Nat)}{L lr:List (Nat×Obj)}{W w':World}{v:Value}{xs xs':List Value}{T:TypeId}
end
section
variable{s:Bs}{g N n sz:Nat}{K:List (Ex×Nat)}{L lr:List (Nat×Obj)}{W:World}{v:Value}{xs:List Value}{T:TypeId}
end
section
variable{s:Bs}{g N n sz:Nat}{K:List (Ex×Nat)}{L lr:List (Nat×Obj)}{W:World}{v:Value}{xs:List Value}{T:TypeId}
end
end
section
open Go.RowKit Go.Maps
open Re (rat)
open Rat renaming intCast_le_intCast->baA
abbrev a17:Ex:=.root (.leaf 4625478292286210048)
abbrev n17:Ex:=.sub (.leaf 0) a17
theorem ag9{x:Ex}{K jj:Nat}{v:Re}{bits:Int}{b:Bl}(hG:Gd K jj x v)(hs:bN (pw 0) x<=4000000)(hn:dB x (pw 0)=some b)(hw:fK b.lo b.hi bits=true):CloE x bits 0:=
 ⟨⟨v,hG.den⟩,hG.fin,hs,by decide,b,hn,hw⟩
theorem akP:(∃q,lK PT a17 q)/\(∃q,lK PT n17 q)/\lK PT (.sub a17 (.leaf 4616189618054758400)) 1/\CloE a17 1 0/\CloE n17 1 0:=by
 obtain⟨x,hx,ex⟩:=Re.exists_sqrt (show(0:Re)<=rat ((17:Int):Rat) by rw[Re.zero_rat,Re.rat_le];exact baA.2 (by decide));obtain⟨L,hL⟩:∃L:List Ex,L=[a17]:=⟨_,rfl⟩;have l1:L.length=1:=by rw[hL];rfl
 have f17:=xM (L:=L) (k:=17) 5 (by decide) (by decide);have f4:=xM (L:=L) (k:=4) 3 (by decide) (by decide);have f0:=xM (L:=L) (k:=0) 1 (by decide) (by decide);have X:=Fit.root f17 hx ex (by rw[hL];exact List.mem_singleton.2 rfl);have S:=Fit.sub X f4;have N:=Fit.sub f0 X;have hX:=X (by rw[l1];decide+kernel);have hN:=N (by rw[l1];decide+kernel);have gX:=hX.good (by rw[l1];decide+kernel);have gN:=hN.good (by rw[l1];decide+kernel);have h3:=S.sgn (P:=PT) (by rw[l1];decide+kernel);have e17:li 17=.leaf 4625478292286210048:=congrArg Ex.leaf (by decide+kernel);have e4:li 4=.leaf 4616189618054758400:=congrArg Ex.leaf (by decide+kernel);have e0:li 0=.leaf 0:=congrArg Ex.leaf (by decide+kernel);have hp:rat ((4:Int):Rat)<x:=by
  rcases Re.lt_or_ge (rat ((4:Int):Rat)) x with h|h
  . exact h
  . have h4:(0:Re)<=rat ((4:Int):Rat):=by rw[Re.zero_rat,Re.rat_le];exact baA.2 (by decide)
    have h5:=Re.mul_le_mul hx h hx h;rw[ex,<-Re.rat_mul,Re.rat_le,<-Rat.intCast_mul]at h5;exact absurd (baA.1 h5) (by decide)
 rw[Re.sgn_pos (Re.sub_pos.2 hp)]at h3;have sX:=(X.sgn (P:=PT) (by rw[l1];decide+kernel));have sN:=(N.sgn (P:=PT) (by rw[l1];decide+kernel));rw[e17]at gX gN h3 sX sN;rw[e0]at gN sN;rw[e4]at h3;exact⟨⟨_,sX⟩,⟨_,sN⟩,h3,ag9 (b:=⟨⟨2213575477,-29⟩,⟨1106787739,-28⟩⟩) gX (by decide+kernel) (by kernel_rfl) (by decide+kernel),ag9 (b:=⟨⟨-1106787739,-28⟩,⟨-2213575477,-29⟩⟩) gN (by decide+kernel) (by kernel_rfl) (by decide+kernel)⟩
theorem akQ:(∀k b,k<=0->dB a17 (pw k)=some b->fK b.lo b.hi 1=true->b.hi.exp<0/\flrD b.hi=4/\cmpD (mkDy 4 0) b.lo<0)/\
 ∀k b,k<=0->dB n17 (pw k)=some b->fK b.lo b.hi 1=true->b.hi.exp<0/\flrD b.hi=-5/\cmpD (mkDy (-5) 0) b.lo<0:=by
 constructor
 . intro k b hk hn _
   obtain rfl:=Nat.le_zero.1 hk;obtain rfl:(⟨⟨2213575477,-29⟩,⟨1106787739,-28⟩⟩:Bl)=b:=Option.some.inj ((show dB a17 (pw 0)=some ⟨⟨2213575477,-29⟩,⟨1106787739,-28⟩⟩ by kernel_rfl).symm.trans hn);decide+kernel
 . intro k b hk hn _
   obtain rfl:=Nat.le_zero.1 hk;obtain rfl:(⟨⟨-1106787739,-28⟩,⟨-2213575477,-29⟩⟩:Bl)=b:=Option.some.inj ((show dB n17 (pw 0)=some ⟨⟨-1106787739,-28⟩,⟨-2213575477,-29⟩⟩ by kernel_rfl).symm.trans hn);decide+kernel
theorem dg_4:(if (4:Int)<0 then⟨#[45]⟩++dgS (4:Int).natAbs else dgS (4:Int).natAbs:ByteArray)=⟨#[52]⟩:=by decide+kernel
theorem akR:(if (-5:Int)<0 then⟨#[45]⟩++dgS (-5:Int).natAbs else dgS (-5:Int).natAbs:ByteArray)=⟨#[45,53]⟩:=by decide+kernel
end
end Go.Proofs.YtkadpnljocflaaaGreatDoor
