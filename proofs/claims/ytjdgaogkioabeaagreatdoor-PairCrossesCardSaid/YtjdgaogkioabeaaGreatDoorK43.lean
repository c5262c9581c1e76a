/- A part of the proof: contracts of functions and plain laws (PcW). -/
import Derived.Test.YtjdgaogkioabeaaGreatDoorK41
import Derived.Test.YtjdgaogkioabeaaGreatDoorK42
set_option linter.unusedVariables false
set_option linter.unusedSimpArgs false
set_option maxHeartbeats 25600000
set_option maxRecDepth 100000
namespace Go.Proofs.YtjdgaogkioabeaaGreatDoor
open Go.RowKit Go.Maps Go.Stop Go.Extern
open List renaming mem_cons_of_mem->ar1,getD_cons_zero->ar2,getD_cons_succ->ar3,nil_sublist->ar7
open Nat renaming le_trans->ar4,zero_mul->ar5,zero_add->ar6
theorem aqR{w:World}{sh:Bool}{x y a0 a1 c0 c1:Int}(hT:Tab w)(htb:1<w.heap.size):
 Calls Tryz.prog 4 #[.int .i64 x,.int .i64 y,.agg #[.int .i64 a0,.int .i64 a1],.agg #[.int .i64 c0,.int .i64 c1],.bool sh] w (RetV w (.bool true)):=by
 obtain⟨u,hu,bu⟩:∃z,a0.tmod 5=z/\z.natAbs<=4:=⟨_,rfl,tmb a0 5 (by decide)⟩;obtain⟨v,hv,bv⟩:∃z,a1.tmod 5=z/\z.natAbs<=4:=⟨_,rfl,tmb a1 5 (by decide)⟩;obtain⟨s,hs,bs'⟩:∃z,c0.tmod 5=z/\z.natAbs<=4:=⟨_,rfl,tmb c0 5 (by decide)⟩;obtain⟨t,ht,bt⟩:∃z,c1.tmod 5=z/\z.natAbs<=4:=⟨_,rfl,tmb c1 5 (by decide)⟩;obtain⟨p,hp,bp⟩:∃z,x.tmod 9=z/\z.natAbs<=8:=⟨_,rfl,tmb x 9 (by decide)⟩;obtain⟨q,hq,bq⟩:∃z,y.tmod 9=z/\z.natAbs<=8:=⟨_,rfl,tmb y 9 (by decide)⟩;have w1e:wrap64 (u*t)=u*t:=wrap_small (ar4 (nab bu bt) (by decide));have w2e:wrap64 (v*s)=v*s:=wrap_small (ar4 (nab bv bs') (by decide));have F1:=hdd fun(g:Nat)=>aqO (g:=g) (f:=-2) (t:=2) bp bq bu bv (by decide) (by decide);have F2:=hdd fun(g:Nat)=>aqO (g:=g) (f:=-3) (t:=3) bp bq bs' bt (by decide) (by decide);have F3:=hdd fun(g:Nat)=>aqO (g:=g) (f:=1) (t:=3) bp bq bs' bt (by decide) (by decide);have BB:=hdd (And.intro (show Bd p q u v from⟨bp,bq,bu,bv⟩) (show Bd p q s t from⟨bp,bq,bs',bt⟩));have HT:=hdd (And.intro hT htb)
 obtain⟨w2,hw2',hb2,hs2,b10,b11⟩:=pro2 w (.cells #[.int .i64 a0,.int .i64 a1] 56) (.cells #[.int .i64 c0,.int .i64 c1] 56);have HA:=hdd (an2 (hT.below hb2) (Nat.lt_of_lt_of_le htb hb2.size));have HB2:=hdd hb2;have B10:=hdd (And.intro b10 b11);clear hT htb hb2 hs2 b10 b11 bu bv bs' bt bp bq;have hst:=aN;go_enter Tryz.func4,Tryz.ntmps4
 go_wp2_with fail
 refine HA.out.mono ?_;rintro e w3⟨rfl,hb3⟩;have HN:=hdd (afD (w0:=w) (l:=[(w.heap.size,(.cells #[.int .i64 a0,.int .i64 a1] 56)),(w.heap.size+1,(.cells #[.int .i64 c0,.int .i64 c1] 56))]) (aB HB2.out hb3) (fun q hp=>by
  simp only[List.mem_cons,List.not_mem_nil,or_false]at hp;rcases hp with rfl|rfl
  . exact⟨hbl B10.out.1 hb3,Nat.le_refl _⟩
  . exact⟨hbl B10.out.2 hb3,Nat.le_succ _⟩) (by simp) HT.out.1 HT.out.2)
 clear hb3 HA HB2 B10 HT hw2';go_wp2_with fail
 refine HN.out.mono ?_;rintro e W1⟨g,rfl,hR⟩;dsimp only;clear HN;have R1:=hdd hR;clear hR
 go_upto_region 6 with fail
 obtain⟨y0,y1⟩:=aC (R1.out.drew.at m0);obtain⟨z0,z1⟩:=aC (R1.out.drew.at m1);obtain⟨y0,y1⟩:=aC (R1.out.at m0);obtain⟨z0,z1⟩:=aC (R1.out.at m1)
 go_quiet (fail)
 have R2:=hdd ((R1.out.step (below_drewN W1 nq)).subl (ar7 _));generalize W1.drewN nq=W2 at*;clear R1 y0 y1 z0 z1;rcases Decidable.em (u*t=v*s)with he|hne
 case' inl=>
  have e1:(u*t==v*s)=true:=beq_iff_eq.2 he;have HB:=hdd R2.out.below;clear R2 F1 F2 F3 BB he;go_wp2;go_ret;exact⟨rfl,HB.out⟩
 have e1:(u*t==v*s)=false:=beq_eq_false_iff_ne.2 hne;have HE:=hdd (show u*t-v*s≠0 from fun e=>hne (by omega));have HC:=hdd ((F1.out g).use4 R2.out (by omega) (fun p hp=>by cases hp));clear R2 F1 hne;go_wp2_with fail
 refine HC.out.mono ?_;rintro e w4⟨i,j,k,l,rfl,hR⟩;dsimp only[ar2,ar3];obtain⟨w5,hw5,-,hR⟩:=hR.box1 (eD g 1 (fl v) (fl (-u)) (fl (v*p-u*q)) i j k l);have HC:=hdd ((F2.out g).use4 hR (by omega) (fun p hp=>by cases hp));clear hR F2;go_wp2_with fail
 refine HC.out.mono ?_;rintro e w6⟨i',j',k',l',rfl,hR⟩;dsimp only[ar2,ar3];obtain⟨w7,hw7,-,hR⟩:=hR.box1 (eD g 1 (fl t) (fl (-s)) (fl (t*p-s*q)) i' j' k' l');have RA:=hdd hR;clear hR HC e1
 cases sh
 case' true=>
  have HC:=hdd ((F3.out g).use4 RA.out (by omega) (fun p hp=>by cases hp));clear RA F3;go_wp2_with fail
  refine HC.out.mono ?_;rintro e w8⟨i2,j2,k2,l2,rfl,hR⟩;dsimp only[ar2,ar3];obtain⟨x0,x1,x2,x3,x4,x5,x6,x7,x8,x9,x10,x11⟩:=aF (hR.at m0);have f0:=frzI (hR.at m0)
  go_upto_region 14 with fail
  have hS:=hR.write (jV [.int .i64 1,.float .f64 (fl t),.float .f64 (fl (-s)),.float .f64 (fl (t*p-s*q)),.pointer (some ⟨g,0,none⟩),.int .i64 (i2:Int),.pointer (some ⟨g,0,none⟩),.int .i64 (j2:Int),.pointer (some ⟨g,0,none⟩),.int .i64 (k2:Int),.pointer (some ⟨g,0,none⟩),.int .i64 (l2:Int)] 0 w8) (xD (vs:=[.int .i64 1,.float .f64 (fl t),.float .f64 (fl (-s)),.float .f64 (fl (t*p-s*q)),.pointer (some ⟨g,0,none⟩),.int .i64 (i2:Int),.pointer (some ⟨g,0,none⟩),.int .i64 (j2:Int),.pointer (some ⟨g,0,none⟩),.int .i64 (k2:Int),.pointer (some ⟨g,0,none⟩),.int .i64 (l2:Int)]) (hR.at m0) rfl);simp only[mG]at hS;clear hR HC x0 x1 x2 x3 x4 x5 x6 x7 x8 x9 x10 x11 f0;generalize World.setCell _ _ _=w9 at*;obtain⟨x0,x1,x2,x3,x4,x5,x6,x7,x8,x9,x10,x11⟩:=aF (hS.at m0);obtain⟨z0,z1,z2,z3,z4,z5,z6,z7,z8,z9,z10,z11⟩:=aF (hS.at m1);have HC:=hdd (aqU (sh:=true) (f:=1) (i:=i) (j:=j) (k:=k) (l:=l) (i':=i2) (j':=j2) (k':=k2) (l':=l2) BB.out.1 BB.out.2 HE.out (Or.inl ⟨rfl,rfl⟩) (eQ [8,9,10,11]) (eQ [0,1,2,3]) _ _ _ _ _ hS (by omega) (fun p hp=>hp))
  clear hS BB HE;go_wp2_with fail
  refine HC.out.mono ?_;rintro e w10⟨K1,l1,⟨v,ps,hq,rfl,ho⟩,hR⟩;obtain⟨pp,cp,rfl⟩:=ho.slice;have e3:ps.length=0:=by
   rcases hq with ⟨-,rfl⟩|⟨h,-⟩
   . rfl
   . cases h
  have HB:=hdd hR.below;rw[e3];clear hR ho hq HC;go_wp2;go_ret;exact⟨rfl,HB.out⟩
 have hR:=RA.out;clear RA F3;obtain⟨x0,x1,x2,x3,x4,x5,x6,x7,x8,x9,x10,x11⟩:=aF (hR.at m0);obtain⟨z0,z1,z2,z3,z4,z5,z6,z7,z8,z9,z10,z11⟩:=aF (hR.at m1);have HC:=hdd (aqU (sh:=false) (f:=-3) (i:=i) (j:=j) (k:=k) (l:=l) (i':=i') (j':=j') (k':=k') (l':=l') BB.out.1 BB.out.2 HE.out (Or.inr ⟨rfl,rfl⟩) (eQ [4,5,6,7]) (eQ [0,1,2,3]) _ _ _ _ _ hR (by omega) (fun p hp=>hp));clear hR;go_wp2_with fail
 refine HC.out.mono ?_;rintro e w10⟨K1,l1,⟨v,ps,hq,rfl,ho⟩,hR⟩;obtain⟨pp,cp,rfl⟩:=ho.slice;rcases hq with ⟨h,-⟩|⟨-,n0,n1,rfl,hx,hy⟩
 . cases h
 have RB:Hid (Run (bs w) g 220 K1 (l1++[]) w10):=hdd (((hR.few (K':=K1) (fun p hp=>List.mem_append_left _ hp)).subl (List.Sublist.append (List.Sublist.refl l1) (ar7 _))).more (by omega));obtain⟨rr,rfl,-⟩:=ho.spot (q:=(n0,n1)) (j:=0) RB.out rfl;have i1:=flw' BB.out.1.1;have i2:=flw' BB.out.1.2.1;have cm:=(aqS BB.out.1 BB.out.2 HE.out).2.2.2 (show Wp (fl p) (fl q) p q from⟨i1,i2,ar4 BB.out.1.1 (by decide),ar4 BB.out.1.2.1 (by decide)⟩);rw[ah6]at cm;have RD:=hdd RB.out.drew;have HAT:=hdd (RD.out.spot (by omega) i1.1.1 i2.1.1 i1.1.2 i2.1.2);have HSM:=hdd fun(n n':Nat) (W':World) (h:Run (bs w) g 222 ((.leaf (fl p),n)::(.leaf (fl q),n')::K1) (l1++[]) W')=>h.same (by omega) (ar1 _ (ar1 _ hx)) (ar1 _ (ar1 _ hy)) m0 m1 cm;have HO:=hdd ho;have hcx:=fun w=>ac3 p w;have hcy:=fun w=>ac3 q w;clear hR ho HC hx hy i1 i2 cm x0 x1 x2 x3 x4 x5 x6 x7 x8 x9 x10 x11 z0 z1 z2 z3 z4 z5 z6 z7 z8 z9 z10 z11
 go_upto_region 21 with fail
 clear RB;obtain⟨_,e5,d0,d1,d2,d3⟩:=HO.out.spot (q:=(n0,n1)) (j:=0) RD.out rfl;cases e5
 simp only[ar5,ar6]at d0 d1 d2 d3
 go_region_held3 (fun w'=>w'.cell? ⟨rr,0,none⟩=some (.pointer (some ⟨g,0,none⟩))/\w'.cell? ⟨rr,1,none⟩=some (.int .i64 (n0:Int))/\w'.cell? ⟨rr,2,none⟩=some (.pointer (some ⟨g,0,none⟩))/\w'.cell? ⟨rr,3,none⟩=some (.int .i64 (n1:Int))) (go_keep)
  (first
  |(go_at_call 11
    with_reducible refine HAT.out.mono ?_
    rintro e wA⟨n,n',rfl,hRm⟩;have RA:=hdd hRm;obtain⟨_,e5,d0,d1,d2,d3⟩:=HO.out.spot (q:=(n0,n1)) (j:=0) RA.out rfl;cases e5
    simp only[ar5,ar6]at d0 d1 d2 d3;clear hRm)
  |(go_at_call 12
    with_reducible refine(HSM.out _ _ _ RA.out).mono ?_
    rintro e wB⟨rfl,hRm⟩;have RC:=hdd hRm;obtain⟨_,e5,d0,d1,d2,d3⟩:=HO.out.spot (q:=(n0,n1)) (j:=0) RC.out rfl;cases e5
    simp only[ar5,ar6]at d0 d1 d2 d3;clear hRm))
 have HB:=hdd RC.out.below;clear RD HAT HSM RA RC HO;go_wp2;go_ret;exact⟨rfl,HB.out⟩
end Go.Proofs.YtjdgaogkioabeaaGreatDoor
