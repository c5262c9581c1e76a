/- A part of the proof: contracts of functions and plain laws (RkS, SiA, AlvR, RlN, RkF, RkG, MoA, QlV, RkH). -/
import Derived.Test.YtebdolonckjpiaaGreatDoorK41
import Derived.Test.YtebdolonckjpiaaGreatDoorK34
import Derived.Test.YtebdolonckjpiaaGreatDoorK35
import Derived.Deep.AppendLies
import Derived.Deep.RegionHeld
set_option linter.unusedVariables false
set_option linter.unusedSimpArgs false
set_option maxHeartbeats 25600000
set_option maxRecDepth 100000
namespace Go.Proofs.YtebdolonckjpiaaGreatDoor
open Go.RowKit Go.Maps
open Re (rat ofI ofN)
variable{x y:Re}
theorem aoR(h:x<y):Re.sgn (x-y)=-1:=Re.sgn_neg (by rw[<-Re.neg_pos,Re.neg_sub];exact Re.sub_pos.2 h)
theorem ao7{a b:Int}(hx:0<=x)(hy:0<=y)(ex:x*x=rat (a:Rat))(ey:y*y=rat (b:Rat)):Re.sgn (x-y)=(a-b).sign:=by
 have key:∀{a b:Int} {x y:Re},0<=x->0<=y->x*x=rat (a:Rat)->y*y=rat (b:Rat)->a<b->x<y:=fun{a b x y} hx hy ex ey h=>by
  rcases Re.lt_or_ge x y with k|k
  . exact k
  . have h2:=Re.mul_le_mul hy k hy k
    rw[ex,ey,Re.rat_le]at h2;have h3:=Rat.intCast_le_intCast.1 h2;omega
 rcases Int.lt_trichotomy a b with h|rfl|h
 . rw[aoR (key hx hy ex ey h),Int.sign_eq_neg_one_of_neg (by omega)]
 . rw[Re.sq_inj hx hy (ex.trans ey.symm),Re.sub_self,Int.sub_self,Re.sgn_zero];rfl
 . rw[Re.sgn_pos (Re.sub_pos.2 (key hy hx ey ex h)),Int.sign_eq_one_of_pos (by omega)]
def rkE(f:Nat)(X C:Ex):Ex:=match f with
 |0=>X
 |1=>.add X C
 |2=>.mul X C
 |_=>.mul X (.sub (.leaf 0) C)
def rkK(f:Nat)(a:Int):Int:=if f<3 then a else-a
section
variable{wi wj wc:Nat}{a b c:Int}(hi:Iw wi a)(hj:Iw wj b)(hc:Iw wc c)(ha:0<=a/\a<=24)(hb:0<=b/\b<=24)(hd:1<=c/\c<=9)
include hi hj hc ha hb hd
theorem ao3(f:Nat):gY PT (.sub (rkE f (.root (.leaf wi)) (.root (.leaf wc))) (rkE f (.root (.leaf wj)) (.root (.leaf wc)))) (rkK f a-rkK f b).sign/\∃q,gY PT (rkE f (.root (.leaf wi)) (.root (.leaf wc))) q:=by
 have nn:∀{n:Int},0<=n->(0:Re)<=rat (n:Rat):=fun h=>by rw[Re.zero_rat,Re.rat_le];exact Rat.intCast_le_intCast.2 h
 obtain⟨x,hx,ex⟩:=Re.exists_sqrt (nn ha.1);obtain⟨y,hy,ey⟩:=Re.exists_sqrt (nn hb.1);obtain⟨z,hz,ez⟩:=Re.exists_sqrt (nn (show 0<=c by omega));obtain⟨L,hL⟩:∃L:List Ex,L=[.root (.leaf wi),.root (.leaf wj),.root (.leaf wc)]:=⟨_,rfl⟩;have l3:L.length=3:=by rw[hL];rfl
 have fX:=Fit.root (hi.fit (L:=L) 5 (nlt (m:=24) (by omega)) (by decide)) hx ex (by rw[hL];simp);have fY:=Fit.root (hj.fit (L:=L) 5 (nlt (m:=24) (by omega)) (by decide)) hy ey (by rw[hL];simp);have fZ:=Fit.root (hc.fit (L:=L) 4 (nlt (m:=9) (by omega)) (by decide)) hz ez (by rw[hL];simp);have f0:=(show Iw 0 0 from⟨⟨by decide,by decide⟩,by kernel_rfl⟩).fit (L:=L) 0 (by decide) (by decide);have zp:0<z:=by
  rcases Re.lt_or_ge 0 z with k|k
  . exact k
  . have e0:z=0:=Re.le_antisymm k hz
    rw[e0,Re.mul_zero,Re.zero_rat,Re.rat_inj]at ez;have:=Rat.intCast_inj.1 (show((0:Int):Rat)=(c:Rat) from ez);omega
 have hr:=ao7 hx hy ex ey;have hneg:(-a- -b).sign=-(a-b).sign:=by rw[<-Int.sign_neg];congr 1;omega
 match f with
 |0=>exact⟨hr▸(fX.sub fY).sgn (by rw[l3];kernel_rfl),_,fX.sgn (by rw[l3];kernel_rfl)⟩
 |1=>
  have e:x+z-(y+z)=x-y:=by rw[Re.add_sub_add,Re.sub_self,Re.add_zero]
  exact⟨hr▸e▸((fX.add fZ).sub (fY.add fZ)).sgn (by rw[l3];kernel_rfl),_,(fX.add fZ).sgn (by rw[l3];kernel_rfl)⟩
 |2=>
  have e:Re.sgn (x*z-y*z)=(a-b).sign:=by rw[<-Re.sub_mul,Re.sgn_mul,hr,Re.sgn_pos zp,Int.mul_one]
  exact⟨e▸((fX.mul fZ).sub (fY.mul fZ)).sgn (by rw[l3];kernel_rfl),_,(fX.mul fZ).sgn (by rw[l3];kernel_rfl)⟩
 |n+3=>
  have e1:Re.sgn (rat ((0:Int):Rat)-z)=-1:=by
   rw[show rat ((0:Int):Rat)=0 from rfl];exact aoR zp
  have e:Re.sgn (x*(rat ((0:Int):Rat)-z)-y*(rat ((0:Int):Rat)-z))=(-a- -b).sign:=by rw[<-Re.sub_mul,Re.sgn_mul,hr,e1,hneg];omega
  have ek:∀t,rkK (n+3) t=-t:=fun t=>if_neg (by omega);rw[ek,ek];exact⟨e▸((fX.mul (f0.sub fZ)).sub (fY.mul (f0.sub fZ))).sgn (by rw[l3];kernel_rfl),_,(fX.mul (f0.sub fZ)).sgn (by rw[l3];kernel_rfl)⟩
end
end Go.Proofs.YtebdolonckjpiaaGreatDoor
namespace Go.Proofs.YtebdolonckjpiaaGreatDoor
open Go.RowKit Go.Maps
theorem aoS{w:World}{a b n c d:Nat}(hn:n<=100)(h:∀j,j<n->∃x:Int,w.cell? ⟨a,j,none⟩=some (.int .i64 x)/\w.cell? ⟨b,j,none⟩=some (.int .i64 x)):
 Calls Tryz.prog 63 #[.slice (some ⟨a,0,none⟩) n c,.slice (some ⟨b,0,none⟩) n d] w (RetV w (.bool true)):=by
 have HH:=hdd h;have hnI:(n:Int)<=100:=by omega
 clear h;go_enter Tryz.func63,Tryz.ntmps63
 go_wp2_with fail
 go_loopw [5] (fun i wr=>∃m:Nat,m<=n/\i=.int .i64 (m:Int)/\Hid (wr.heap=w.heap/\Below w.heap.size w wr)) (fun i _=>((n:Int)-intOf i).toNat)
 case atStart=>exact⟨0,Nat.zero_le _,rfl,hdd ⟨rfl,Below.refl _ _⟩⟩
 case round=>
  obtain⟨m,hm,rfl,HF⟩:=hrel;rcases Nat.lt_or_ge m n with hlt|hge
  . obtain⟨x,x0,x1⟩:=HH.out m hlt
    have c0:wr.cell? ⟨a,m,none⟩=some (.int .i64 x):=by rw[<-x0];simp only[World.cell?,HF.out.1]
    have c1:wr.cell? ⟨b,m,none⟩=some (.int .i64 x):=by rw[<-x1];simp only[World.cell?,HF.out.1]
    have hmI:(m:Int)<(n:Int):=by omega
    have hm0:(0:Int)<=(m:Int):=by omega
    have hxx:(x==x)=true:=beq_self_eq_true x;have HLT:=hdd hlt;clear x0 x1 hlt;go_wp2_with fail
    go_quiet (fail)
    have HD:Hid ((wr.drewN nq).heap=w.heap/\Below w.heap.size w (wr.drewN nq)):=hdd ⟨HF.out.1,⟨HF.out.2.os,HF.out.2.tape,HF.out.2.output,HF.out.2.size,HF.out.2.block⟩⟩;clear c0 c1 hxx HF;go_wp2_with fail
    go_roundw
    case rel=>exact⟨m+1,by have:=HLT.out;omega,by go_num,HD⟩
    case measure=>have:=HLT.out;simp[intOf];omega
  . have hme:m=n:=by omega
    subst hme;clear hm hge;go_wp2;go_ret;exact⟨rfl,HF.out.2⟩
end Go.Proofs.YtebdolonckjpiaaGreatDoor
namespace Go.Proofs.YtebdolonckjpiaaGreatDoor
open Go.RowKit Go.Maps
open Re (rat ofI ofN)
open List renaming sublist_append_right->arA,append_assoc->arB
open Option.some renaming inj->arC
variable{K:List (Ex×Nat)}{v:Value}
def rkA(j:Nat):Int:=[2,3,2].getD j 0
theorem ra_4:Iw 4616189618054758400 4:=⟨⟨by decide,by decide⟩,by kernel_rfl⟩
theorem ra_3:Iw 4613937818241073152 3:=⟨⟨by decide,by decide⟩,by kernel_rfl⟩
theorem ra_2:Iw 4611686018427387904 2:=⟨⟨by decide,by decide⟩,by kernel_rfl⟩
theorem anW{L:List Ex}{s t:Sh}{a b:Ex}{p q:Int}(h:Fit L s a (rat (p:Rat)))(k:Fit L t b (rat (q:Rat)))(hs:((Sh.add s t).ok L.length&&(Sh.add s t).top L.length)=true):gY PT (.sub a b) (p-q).sign:=
 (h.rsub k).sign 1 (by decide) (by push_cast;grind) hs
theorem apI{k0 k1 k2:Nat}(h0:(.root (.leaf 4616189618054758400),k0)∈K)(h1:(.leaf 4613937818241073152,k1)∈K)(h2:(.leaf 4611686018427387904,k2)∈K):aoH K rkA [k0,k1,k2]:=by
 have F0:Fit [.root (.leaf 4616189618054758400)] _ (.root (.leaf 4616189618054758400)) (rat ((2:Int):Rat)):=Fit.rroot (ra_4.fit 3 (by decide) (by decide)) (by decide) (by grind) (List.mem_singleton.2 rfl);have F1:=ra_3.fit (L:=[.root (.leaf 4616189618054758400)]) 2 (by decide) (by decide);have F2:=ra_2.fit (L:=[.root (.leaf 4616189618054758400)]) 2 (by decide) (by decide);refine⟨fun k hk=> ?_,fun i j ki kj hi hj=> ?_⟩
 . simp only[List.mem_cons,List.not_mem_nil,or_false]at hk
   rcases hk with rfl|rfl|rfl
   . exact⟨_,_,h0,F0.sgn (by kernel_rfl)⟩
   . exact⟨_,_,h1,F1.sgn (by kernel_rfl)⟩
   . exact⟨_,_,h2,F2.sgn (by kernel_rfl)⟩
 . have c:∀{i k:Nat},[k0,k1,k2][i]? =some k->(i=0/\k=k0)\/(i=1/\k=k1)\/(i=2/\k=k2):=fun{i k} h=>by
    match i,h with
    |0,h=>exact Or.inl ⟨rfl,(arC h).symm⟩
    |1,h=>exact Or.inr (Or.inl ⟨rfl,(arC h).symm⟩)
    |2,h=>exact Or.inr (Or.inr ⟨rfl,(arC h).symm⟩)
   rcases c hi with ⟨rfl,rfl⟩|⟨rfl,rfl⟩|⟨rfl,rfl⟩<;>rcases c hj with ⟨rfl,rfl⟩|⟨rfl,rfl⟩|⟨rfl,rfl⟩
   . exact⟨_,_,h0,h0,anW F0 F0 (by kernel_rfl)⟩
   . exact⟨_,_,h0,h1,anW F0 F1 (by kernel_rfl)⟩
   . exact⟨_,_,h0,h2,anW F0 F2 (by kernel_rfl)⟩
   . exact⟨_,_,h1,h0,anW F1 F0 (by kernel_rfl)⟩
   . exact⟨_,_,h1,h1,anW F1 F1 (by kernel_rfl)⟩
   . exact⟨_,_,h1,h2,anW F1 F2 (by kernel_rfl)⟩
   . exact⟨_,_,h2,h0,anW F2 F0 (by kernel_rfl)⟩
   . exact⟨_,_,h2,h1,anW F2 F1 (by kernel_rfl)⟩
   . exact⟨_,_,h2,h2,anW F2 F2 (by kernel_rfl)⟩
theorem OwnR.some {T:TypeId}{sz n:Nat}{xs:List Value}{lr:List (Nat×Obj)}(h:OwnR T sz v n xs lr)(h0:0<n):∃r c,v=.slice (some ⟨r,0,none⟩) n c:=by
 rcases h.2 with ⟨-,e,-⟩|⟨r,c,cur,e,-⟩
 . omega
 . exact⟨r,c,e⟩
theorem apO{s:Bs}{g N:Nat}{l lg:List (Nat×Obj)}{W:World}(hv:GrpV v [[0,2],[1]] lg)(hR:Run s g N K (lg++l) W):∃rg cg r0 c0 r1 c1,v=.slice (some ⟨rg,0,none⟩) 2 cg/\
 W.cell? ⟨rg,0,none⟩=some (.slice (some ⟨r0,0,none⟩) 2 c0)/\W.cell? ⟨rg,1,none⟩=some (.slice (some ⟨r1,0,none⟩) 1 c1)/\W.cell? ⟨r0,0,none⟩=some (.int .i64 0)/\W.cell? ⟨r0,1,none⟩=some (.int .i64 2)/\W.cell? ⟨r1,0,none⟩=some (.int .i64 1):=by
 obtain⟨vs,lo,l2,h1,h2,rfl⟩:=hv
 match vs,h2 with
 |[v0,v1],⟨la,lb,e6,o0,lc,ld,e7,o1,h4⟩=>
  obtain rfl:ld=[]:=h4;subst e7 e6;obtain⟨rg,cg,rfl⟩:=h1.some (by decide);obtain⟨r0,c0,rfl⟩:=o0.some (by decide);obtain⟨r1,c1,rfl⟩:=o1.some (by decide);have R0:Run s g N K (la++l) W:=hR.subl (by
   rw[arB,arB];exact(List.Sublist.append (List.Sublist.refl _) (arA _ _)).trans (arA _ _))
  have R1:Run s g N K (lc++l) W:=hR.subl (by
   rw[arB,arB,List.append_nil];exact(arA _ _).trans (arA _ _))
  rw[arB]at hR;exact⟨rg,cg,r0,c0,r1,c1,rfl,(h1.cell hR (q:=0) rfl).1,(h1.cell hR (q:=1) rfl).1,(o0.cell R0 (q:=0) rfl).1,(o0.cell R0 (q:=1) rfl).1,(o1.cell R1 (q:=0) rfl).1⟩
theorem apJ{w:World}(hT:Tab w)(htb:0<w.heap.size):
 Calls Tryz.prog 15 #[] w (RetV w (.bool true)):=by
 have HN:=hdd (adI (l:=[]) (Below.refl w.heap.size w) (fun p hp=>by cases hp) (by simp) hT htb);clear hT htb;go_enter Tryz.func15,Tryz.ntmps15
 go_wp2_with fail
 refine HN.out.mono ?_;rintro e W1⟨g,rfl,hR⟩;have R1:=hdd hR;clear hR HN;dsimp only;go_wp2_with fail
 refine(R1.out.of (by omega) (by decide) (by decide)).mono ?_;rintro e w2⟨k4,rfl,hR2⟩;have R2:=hdd hR2;clear hR2 R1;go_wp2_with fail
 refine(R2.out.sqrt (by omega) (List.mem_cons_self ..)).mono ?_;rintro e w3⟨k0,rfl,hR3⟩;have R3:=hdd hR3;clear hR3 R2;go_wp2_with fail
 refine(R3.out.of (by omega) (by decide) (by decide)).mono ?_;rintro e w4⟨k1,rfl,hR4⟩;have R4:=hdd hR4;clear hR4 R3;go_wp2_with fail
 refine(R4.out.of (by omega) (by decide) (by decide)).mono ?_;rintro e w5⟨k2,rfl,hR5⟩;have R5:=hdd hR5;clear hR5 R4;have R6:=hdd (R5.out.alloc (.cells (numL g [k0,k1,k2]++[]).toArray 27));have HG:=hdd (aoI (lr:=[(w5.heap.size,.cells (numL g [k0,k1,k2]++[]).toArray 27)]) (l:=[]) (v:=.slice (some ⟨w5.heap.size,0,none⟩) 3 3) (ids:=[k0,k1,k2]) R6.out (Or.inr ⟨w5.heap.size,3,[],rfl,rfl⟩) (by simp) (by simp) (apI (by simp) (by simp) (by simp)));clear R5 R6;go_wp2_with fail
 refine HG.out.mono ?_;rintro e w6⟨vg,lg,rfl,hv,hR7⟩;obtain⟨rg,cg,r0,c0,r1,c1,rfl,a0,a1,b0,b1,d0⟩:=apO (show GrpV vg [[0,2],[1]] lg from hv) hR7;have HB:=hdd (Run.below hR7);clear hv hR7 HG;obtain⟨w7,hw7,hb7,hs7,b7⟩:=pro1 w6 (.cells #[.int .i64 0,.int .i64 2] 3);have HS1:=hdd (aoS (w:=w7) (a:=r0) (b:=w6.heap.size) (n:=2) (c:=c0) (d:=2) (by decide) (fun j hj=>by
  match j,hj with
  |0,_=>exact⟨0,cbl b0 hb7,oQ (cs:=[.int .i64 0,.int .i64 2]) b7 rfl⟩
  |1,_=>exact⟨2,cbl b1 hb7,oQ (cs:=[.int .i64 0,.int .i64 2]) b7 rfl⟩))
 have HA1:=hdd (cbl a1 hb7);have HD0:=hdd (cbl d0 hb7);have HB7:=hdd (aB HB.out hb7);clear hb7 hs7 b7 b0 b1 a1 d0;go_wp2_with fail
 refine HS1.out.mono ?_;rintro e w8⟨rfl,hb8⟩;have a1:=cell_below HA1.out hb8 nlr;obtain⟨w9,hw9,hb9,hs9,b9⟩:=pro1 w8 (.cells #[.int .i64 1] 3);have HS2:=hdd (aoS (w:=w9) (a:=r1) (b:=w8.heap.size) (n:=1) (c:=c1) (d:=1) (by decide) (fun j hj=>by
  match j,hj with
  |0,_=>exact⟨1,cell_below (cell_below HD0.out hb8 nlr) hb9 nlr,oQ (cs:=[.int .i64 1]) b9 rfl⟩))
 have HB9:=hdd (aB (aB HB7.out hb8) hb9);clear hb8 hb9 hs9 b9 HA1 HD0 HB7 HS1 hw7;go_wp2_with fail
 refine HS2.out.mono ?_;rintro e wa⟨rfl,hba⟩;have HBA:=hdd (aB HB9.out hba);clear hba;go_wp2;go_ret;exact⟨rfl,HBA.out⟩
end Go.Proofs.YtebdolonckjpiaaGreatDoor
namespace Go.Proofs.YtebdolonckjpiaaGreatDoor
open Go.RowKit Go.Maps
open List renaming mem_cons_self->arD,mem_cons_of_mem->arE,nodup_cons->arF,mem_cons->arG,map_cons->arH
section
variable{s:Bs}{W:World}{g N i j v:Nat}{K:List (Ex×Nat)}{l:List (Nat×Obj)}{x y:Ex}
theorem Run.goesN (h:Run s g N K l W)(hx:(x,i)∈K):Calls Tryz.prog 65 #[.agg #[.pointer (some ⟨g,0,none⟩),.int .i64 (i:Int)],.slice none 0 0] W (RetV W (.bool true)):=by
 obtain⟨ns,hs,hK⟩:=h;exact aoL hs.st.dag (hK _ hx).lt
theorem Run.leafD (h:Run s g N K l W)(hN:N<20000)(hv:v<18446744073709551616)(hf:fin v):Calls Tryz.prog 64 #[.pointer (some ⟨g,0,none⟩),.float .f64 v] W (fun e W'=>∃k,e=.returned (idV k)/\Run s g (N+1) ((.leaf v,k)::K) l W'):=by
 obtain⟨ns,hs,hK⟩:=h;exact(ah4 hs.st hN hv hf trivial).mono fun _ _ hr=>o8 hs hK hr
theorem Run.subD (h:Run s g N K l W)(hN:N<20000)(hx:(x,i)∈K)(hy:(y,j)∈K):Calls Tryz.prog 33 #[.pointer (some ⟨g,0,none⟩),.int .i64 (i:Int),.int .i64 (j:Int)] W (fun e W'=>∃k,e=.returned (idV k)/\Run s g (N+1) ((.sub x y,k)::K) l W'):=by
 obtain⟨ns,hs,hK⟩:=h;exact(akH hs.st hN (hK _ hx) (hK _ hy) trivial).mono fun _ _ hr=>o8 hs hK hr
theorem Run.neg (h:Run s g N K l W)(hN:N+2<=20000)(hx:(x,i)∈K):Calls Tryz.prog 21 #[numV g i] W (RtR s g (N+2) K l (.sub (.leaf 0) x)):=by
 obtain⟨w4,hw4,hb4,hs4,b1,b2⟩:=pro2 W (.cells #[.pointer (some ⟨g,0,none⟩),.int .i64 (i:Int)] 27) (.cells #[.pointer none,.int .i64 0] 27);have R4:=hdd (h.keeps hb4 [(W.heap.size,.cells #[.pointer (some ⟨g,0,none⟩),.int .i64 (i:Int)] 27),(W.heap.size+1,.cells #[.pointer none,.int .i64 0] 27)] (fun p hp=>by
  simp only[arG,List.not_mem_nil,or_false]at hp;rcases hp with rfl|rfl
  . exact⟨b1,Nat.le_refl _⟩
  . exact⟨b2,Nat.le_succ _⟩) (by simp))
 have HG:=hdd (R4.out.goesN hx);have HX:=hdd hx;have HN:=hdd hN;obtain⟨e0,e1,-,-⟩:=aC b1;clear h hN hx hb4 b1 b2 hs4;go_enter Tryz.func21,Tryz.ntmps21
 go_wp2_with fail
 refine HG.out.mono ?_;rintro e w5⟨rfl,hb5⟩;have R5:=hdd (R4.out.step hb5).drew;clear hb5 hw4 e0 e1 HG R4;obtain⟨e0,e1,-,-⟩:=aC (R5.out.at (arD ..));go_wp2_with fail
 go_region_held3 (fun w'=>w'.cell? ⟨W.heap.size,0,none⟩=some (.pointer (some ⟨g,0,none⟩))/\w'.cell? ⟨W.heap.size,1,none⟩=some (.int .i64 (i:Int))) (go_keep)
  (first
  |(go_at_call 64
    with_reducible refine(R5.out.leafD (by have:=HN.out;omega) (by decide) (by decide)).mono ?_
    rintro e w6⟨k,rfl,hR6⟩;have R6:=hdd hR6;obtain⟨e0,e1,-,-⟩:=aC (R6.out.at (arD ..));clear hR6)
  |(go_at_call 33
    with_reducible refine(R6.out.subD (by have:=HN.out;omega) (arD ..) (arE _ HX.out)).mono ?_
    rintro e w7⟨k2,rfl,hR7⟩;have R7:=hdd hR7;obtain⟨e0,e1,-,-⟩:=aC (R7.out.at (arD ..));obtain⟨r0,r1,f0,f1⟩:=aC (R7.out.at (arE _ (arD ..)));clear hR7))
 obtain⟨w8,hw8⟩:∃v,(w7.setCell ⟨W.heap.size+1,0,none⟩ (.pointer (some ⟨g,0,none⟩))).setCell ⟨W.heap.size+1,1,none⟩ (.int .i64 (k2:Int))=v:=⟨_,rfl⟩;have g8:w7.grownBy w8 (some (W.heap.size+1)):=by rw[<-hw8];exact grownBy_set (grownBy_set (adA _ _) _) _
 have s8:=set2 (R7.out.at (arE _ (arD ..))) (.pointer (some ⟨g,0,none⟩)) (.int .i64 (k2:Int));rw[hw8]at s8;have R8:=hdd ((R7.out.perm (List.Perm.swap _ _ _)).write g8 s8);simp only[hw8];clear e0 e1 r0 r1 f0 f1 g8 s8 hw8 R7 R6 R5;obtain⟨x0,x1,-,-⟩:=aC (R8.out.at (arD ..));go_wp2;refine bodyPost_ret (v:=.agg #[_,_]) (by simp[results,Tryz.results21,go_sem,x0,x1];first|exact⟨rfl,rfl⟩|rfl) rfl ?_;refine⟨k2,rfl,?_⟩;have h9:=R8.out.sub (l':=l) (fun p hp=>arE _ (arE _ hp)) (by have:=R8.out.nodup;rw[arH,arH]at this;exact(arF.1 (arF.1 this).2).2);exact h9.few (fun p hp=>by
  rcases arG.1 hp with rfl|hp
  . exact arD ..
  . exact arE _ (arE _ hp))
end
end Go.Proofs.YtebdolonckjpiaaGreatDoor
namespace Go.Proofs.YtebdolonckjpiaaGreatDoor
open Go.RowKit Go.Maps Go.Stop Go.Extern
open Go.Region renaming wanted->arJ
open List renaming append_assoc->arI,perm_append_comm_assoc->arK,mem_append_right->arL
variable{S:World->Prop}
theorem apD:Tryz.prog.underlying 31=some (.slice 27):=by kernel_rfl
theorem apE:(Tryz.prog.info? 27).map (fun i=>(i.zero,i.size,i.bytes))=some (some (.agg #[.pointer none,.int .i64 0]),2,16):=by kernel_rfl
theorem apF:∃i,Tryz.prog.info? 27=some i/\i.zero=some (.agg #[.pointer none,.int .i64 0])/\i.size=2/\i.bytes=16:=by
 have h:=apE;generalize Tryz.prog.info? 27=q at h
 cases q with
 |none=>simp at h
 |some i=>
  simp only[Option.map_some,Option.some.injEq,Prod.mk.injEq]at h;exact⟨i,rfl,h.1,h.2.1,h.2.2⟩
theorem aoT(g k:Nat):∀ids:List Nat,numL g (ids++[k])=numL g ids++[.pointer (some ⟨g,0,none⟩),.int .i64 (k:Int)]
 |[]=>rfl
 |i::ids=>by simp[numL,aoT g k ids]
section
variable{s:Bs}{g M:Nat}{K:List (Ex×Nat)}{F R L l0 l1 l2 l3:List (Nat×Obj)}{W w':World}{X C:Ex}{kv kc b bc bv m k:Nat}{v:Value}{ids:List Nat}
theorem apP(h:Run s g M K L W)(hM:M<20000)(hx:(X,kv)∈K)(hy:(C,kc)∈K)(hb:(b,numO g kc)∈L):Calls Tryz.prog 19 #[numV g kv,.slice (some ⟨b,0,none⟩) 1 1] W (fun e W'=>∃k,e=.returned (numV g k)/\Run s g (M+1) ((.add X C,k)::K) L W'):=h.add2 hM hx hy (h.at hb)
theorem apG(h:Run s g M K L W)(hM:M<20000)(hx:(X,kv)∈K)(hy:(C,kc)∈K)(hb:(b,numO g kc)∈L):Calls Tryz.prog 20 #[numV g kv,.slice (some ⟨b,0,none⟩) 1 1] W (fun e W'=>∃k,e=.returned (numV g k)/\Run s g (M+1) ((.mul X C,k)::K) L W'):=h.mul2 hM hx hy (h.at hb)
theorem aoU{ops:Array Oper}{o:Oper}{a:Act}{Kk:Act->World->Prop}{Q:Exit->Act->World->Prop}{E:Prop}(h:Run s g M K (F++(R++(l0++(l1++(l2++l3))))) W)(ho:OwnR 27 2 v m (numL g ids) l0)(hm:m<=1000)(hgd:o.guard=none)(x y:Operand)
 (hop:o.op=.call {callee:=.builtin .append,args:=#[x,y],argTypes:=#[31,31]}) (hs:a.eval x=v) (hy:a.eval y=.slice (some ⟨b,0,none⟩) 1 1) (hb:(b,numO g k)∈F++(R++(l0++(l1++(l2++l3)))))
 (hn:∀g0 cap w' l',OwnR 27 2 (.slice (some ⟨g0,0,none⟩) (m+1) cap) (m+1) (numL g (ids++[k])) l'->Run s g M K (F++(R++(l1++(l2++(l3++l'))))) w'->Kk (a.put o.dst (.slice (some ⟨g0,0,none⟩) (m+1) cap)) w'):
 if arJ o (yielded ops a.tmps)=true then Oper.wp Tryz.prog o a W Kk Q else E:=by
 obtain⟨i,hi,hz,hsz,hby⟩:=apF;have hR:Run s g M K (l0++(F++(R++(l1++(l2++l3))))) W:=h.perm (by
  rw[<-arI F R,<-arI F R];exact(arK (F++R) l0 _).symm)
 refine step_append_lies _ hgd x y 31 hop 0 27 i (.agg #[.pointer none,.int .i64 0]) 2 16 apD hi hz hsz hby rfl (by omega) v m (numL g ids) hs (ho.own hR) ⟨b,0,none⟩ 1 1 [.pointer (some ⟨g,0,none⟩),.int .i64 (k:Int)] hy rfl (World.news_of_block (h.at hb)) (by simp[Value.oneCell']) (by omega) (by simp only[maxLen];omega) (by omega) (Nat.zero_le _) W.heap.size rfl ?_;intro g0 cap w' hown hgrow hat hlt;rw[<-aoT]at hown;obtain⟨l',h1,h2⟩:=ho.grow hR hown hgrow hat;refine hn g0 cap w' l' h1 (h2.perm ?_);rw[<-arI F R,<-arI F R];refine List.Perm.symm ((arK l' (F++R) _).trans (List.Perm.append_left _ ?_));rw[<-arI l2,<-arI l1];exact List.perm_append_comm.trans (by simp)
end
section
variable{s:Bs}{g M:Nat}{K:List (Ex×Nat)}{F R:List (Nat×Obj)}{W:World}{k d:Nat}{ops:Array Oper}{o:Oper}{a:Act}{Kk:Act->World->Prop}{Q:Exit->Act->World->Prop}{E:Prop}
theorem apU{ρ:Operand->Value}{x:Operand}(ho:o.op=.buildSlice 31 1 #[(0,x)])(hx:ρ x=numV g k):(execOp ρ o).run Tryz.prog W=.ok (.value (.slice (some ⟨W.heap.size,0,none⟩) 1 1)) (W.alloc (numO g k)):=by
 unfold execOp;rw[ho];dsimp only;simp only[List.map_toArray,List.map_cons,List.map_nil,hx]
 kernel_rfl
theorem anT{P:Program}{b:Nat}{x:Operand}(hgd:o.guard=none)(ho:o.op=.load 27 x)(hx:a.eval x=.pointer (some ⟨b,0,none⟩))(hS:∀w,S w->w.heap[b]? =some (numO g k))(hT:∀w,(isAgg 27).run P w=.ok true w)(hn:∀w,(sizeOf 27).run P w=.ok 2 w):YieldsIf P ops S o (numV g k) a:=
 Or.inl ⟨by unfold arJ;rw[hgd],fun w h=>adB ho hx (by have:=amC (P:=P) (off:=0) (n:=2) (hT w) (hn w) (hS w h) (by simp);simpa using this)⟩
theorem aoV{bc bv kc kv:Nat}(h:Run s g M K (F++([(bc,numO g kc),(bv,numO g kv)]++R)) W):W.heap[bv]? =some (numO g kv)/\W.heap[bc]? =some (numO g kc):=⟨h.at (arL _ (by simp)),h.at (arL _ (by simp))⟩
theorem anX(h:Run s g M K (F++R) W)(k d:Nat)(hgd:o.guard=none)(hd:o.dst=some d)(x:Operand)(hop:o.op=.buildSlice 31 1 #[(0,x)])(hx:a.eval x=numV g k)
 (hn:∀b w',Run s g M K (((b,numO g k)::F)++R) w'->Kk (a.put (some d) (.slice (some ⟨b,0,none⟩) 1 1)) w'):if arJ o (yielded ops a.tmps)=true then Oper.wp Tryz.prog o a W Kk Q else E:=by
 rw[if_pos (by unfold arJ;rw[hgd])];unfold Oper.wp;rw[apU hop hx,Oper.upon_value,hd];exact hn _ _ (h.alloc _)
theorem an0{f:FuncId}{vals:Array Value}{Rt:Ending->World->Prop}(hgd:o.guard=none)(d:Nat)(hd:o.dst=some d)(hc:Calls Tryz.prog f vals W Rt)(hv:(execOp a.eval o).run Tryz.prog W=.ok (.enter f vals) W)
 (hn:∀e w',Rt e w'->∃v,e=.returned v/\Kk (a.put (some d) v) w'):if arJ o (yielded ops a.tmps)=true then Oper.wp Tryz.prog o a W Kk Q else E:=by
 rw[if_pos (by unfold arJ;rw[hgd])];unfold Oper.wp;rw[hv,Oper.upon_enter];refine hc.mono fun e w' h=> ?_;obtain⟨v,rfl,h2⟩:=hn e w' h;rw[hd];exact h2
theorem anV{x:Operand}{v:Value}(hgd:o.guard=none)(d:Nat)(hd:o.dst=some d)(ho:o.op=.assign x)(hx:a.eval x=v)(hn:Kk (a.put (some d) v) W):if arJ o (yielded ops a.tmps)=true then Oper.wp Tryz.prog o a W Kk Q else E:=by
 rw[if_pos (by unfold arJ;rw[hgd])];have:(execOp a.eval o).run Tryz.prog W=.ok (.value v) W:=by
  unfold execOp;rw[ho];dsimp only;rw[hx];rfl
 unfold Oper.wp;rw[this,Oper.upon_value,hd];exact hn
end
theorem apQ{P:Program}{ops:Array Oper}{Q:Exit->Act->World->Prop}{n:Nat}{listed:Array Bool}{a:Act}{w:World}(T:Act->Act->World->Prop)(n2:Nat)(L2:Array Bool)(hmain:(∀(a':Act) (w:World) (L:Array Bool),L=L2->T a a' w->wpAnyH P .any ops Q S n2 L a' w)->wpAnyH P .any ops Q S n listed a w)
 (htail:∀(a':Act) (w:World),T a a' w->wpAnyH P .any ops Q S n2 L2 a' w):wpAnyH P .any ops Q S n listed a w:=hmain fun a' w L e h=>e▸htail a' w h
end Go.Proofs.YtebdolonckjpiaaGreatDoor
namespace Go.Proofs.YtebdolonckjpiaaGreatDoor
open Go.RowKit Go.Maps
open List renaming sublist_append_right->arM,sublist_append_left->arN
variable{v:Value}
theorem OwnR.rowN {g n:Nat}{ids:List Nat}{lr:List (Nat×Obj)}(h:OwnR 27 2 v n (numL g ids) lr)(hn:ids.length=n):RowN g v ids lr:=by
 subst hn;rcases h.2 with ⟨rfl,h0,rfl⟩|⟨r,cap,cur,rfl,rfl,h1,h2,h3,h4⟩
 . exact Or.inl ⟨List.length_eq_zero_iff.1 h0,rfl,rfl⟩
 . refine Or.inr ⟨r,cap,cur.toList.drop (ids.length*2),rfl,?_⟩
   rw[<-h4,List.take_append_drop,Array.toArray_toList]
theorem RowsG.get {o:List Nat}:∀{vs:List Value} {gs:List (List Nat)} {l:List (Nat×Obj)} {i:Nat},RowsG vs gs l->gs[i]? =some o->∃q e la,vs[i]? =some (.slice q o.length e)/\OwnR 3 1 (.slice q o.length e) o.length (bI o) la/\la.Sublist l
 |v::vs,x::gs,_,0,⟨a,b,rfl,h2,h3⟩,h=>by
  obtain rfl:x=o:=by simpa using h
  obtain⟨q,e,rfl⟩:=h2.slice;exact⟨q,e,a,rfl,h2,arN _ _⟩
 |v::vs,x::gs,_,i+1,⟨a,b,rfl,h2,h3⟩,h=>by
  obtain⟨q,e,la,h4,h5,h6⟩:=RowsG.get h3 (show gs[i]? =some o by simpa using h);exact⟨q,e,la,by simpa using h4,h5,h6.trans (arM _ _)⟩
 |[],_::_,_,_,h,_=>h.elim
 |_::_,[],_,_,_,h=>by simp at h
 |[],[],_,_,_,h=>by simp at h
def GRow(p:Option Addr)(i:Nat)(o:List Nat)(W:World)(r:Nat)(q:Option Addr)(e:Nat):Prop:=p=some ⟨r,0,none⟩/\W.cell? ⟨r,i,none⟩=some (.slice q o.length e)/\∀(j x:Nat),o[j]? =some x->∃a,q=some ⟨a,0,none⟩/\W.cell? ⟨a,j,none⟩=some (.int .i64 (x:Int))
section
variable{s:Bs}{g N n c i:Nat}{K:List (Ex×Nat)}{L lg:List (Nat×Obj)}{W:World}{p p0 p1 p2 p3:Option Addr}{gs:List (List Nat)}{o:List Nat}{c0 c1 c2 c3:Nat}
theorem GrpV.at (h:GrpV (.slice p n c) gs lg)(hR:Run s g N K L W)(hL:lg.Sublist L)(hi:gs[i]? =some o):∃r q e,GRow p i o W r q e:=by
 obtain⟨vs,lo,l2,h1,h2,rfl⟩:=h;obtain⟨q,e,la,h3,h4,h5⟩:=h2.get hi;obtain⟨p',c',e'⟩:=h1.slice;simp only[Value.slice.injEq]at e';obtain⟨rfl,rfl,rfl⟩:=e';obtain⟨r,rfl,hc⟩:=h1.cellW ((hR.subl ((arN lo l2).trans hL)).subl (l':=lo++[]) (by simp)) h3;refine⟨r,q,e,rfl,hc,fun j x hx=> ?_⟩;exact h4.cellW (lr:=la) (L:=[]) (hR.subl (by rw[List.append_nil];exact(h5.trans (arM lo l2)).trans hL)) (u:=.int .i64 (x:Int)) (by simp[bI,hx])
def RkC(s:Bs)(g N:Nat)(K:List (Ex×Nat))(gs:List (List Nat))(p0 p1 p2 p3:Option Addr)(c0 c1 c2 c3:Nat)(W:World):Prop:=∃l0 l1 l2 l3,GrpV (.slice p0 gs.length c0) gs l0/\GrpV (.slice p1 gs.length c1) gs l1/\GrpV (.slice p2 gs.length c2) gs l2/\GrpV (.slice p3 gs.length c3) gs.reverse l3/\Run s g N K (l0++(l1++(l2++l3))) W
theorem RkC.row (h:RkC s g N K gs p0 p1 p2 p3 c0 c1 c2 c3 W)(hi:gs[i]? =some o):(∃r q e,GRow p0 i o W r q e)/\(∃r q e,GRow p1 i o W r q e)/\(∃r q e,GRow p2 i o W r q e)/\∃r q e,GRow p3 (gs.length-1-i) o W r q e:=by
 obtain⟨l0,l1,l2,l3,h0,h1,h2,h3,h4⟩:=h;have hlt:=(List.getElem?_eq_some_iff.1 hi).1;refine⟨h0.at h4 (arN _ _) hi,h1.at h4 ((arN _ _).trans (arM _ _)) hi,h2.at h4 (((arN _ _).trans (arM _ _)).trans (arM _ _)) hi,h3.at h4 (((arM _ _).trans (arM _ _)).trans (arM _ _)) ?_⟩;rw[List.getElem?_reverse (by omega),show gs.length-1-(gs.length-1-i)=i by omega];exact hi
theorem GrpV.slice (h:GrpV v gs lg):∃p c,v=.slice p gs.length c:=by
 obtain⟨vs,lo,l2,h1,-,-⟩:=h;exact h1.slice
end
end Go.Proofs.YtebdolonckjpiaaGreatDoor
