/- A part of the proof: contracts of functions and plain laws (BdA, BdB, BdC, BdD, BdE). -/
import Derived.Test.YtkadpnljocflaaaGreatDoorK25
set_option linter.unusedVariables false
set_option linter.unusedSimpArgs false
set_option linter.unnecessarySimpa false
set_option maxHeartbeats 25600000
set_option maxRecDepth 100000
namespace Go.Proofs.YtkadpnljocflaaaGreatDoor
open Go.RowKit Go.Maps
open Go.RowKit.Below renaming refl->azE
open List renaming getElem?_eq_getElem->azF,mem_of_getElem?->azG,take_add_one->azH,take_length->azI,mem_append->azJ
variable{u:Int}{l:List Nat}{ns:List Nd}{g:Nat}{ul:Nat->Nat×Nat}{S:Nat->Prop}{n:Nd}{T:TypeId}{a b c:Value}{m:Value->Option Value}{w w0 w1:World}
def zQ(w:World)(ul:Nat×Nat)(e:Ending)(w':World):Prop:=Below w.heap.size w w'/\e=.returned (.agg #[.int .i64 (ul.1:Int),.int .i64 (ul.2:Int),.bool true])
def EnX(need:Prop)(ul:Nat×Nat)(v:Value):Prop:=∃(u l:Int) (t:Bool),v=.agg #[.int .i64 u,.int .i64 l,.bool t]/\(0<=u/\u<=1000000)/\(0<=l/\l<=1000000)/\(need->t=true/\u=(ul.1:Int)/\l=(ul.2:Int))
def uN(n:Nd)(a b:Nat×Nat):Nat×Nat:=
 if n.kind=0 then(jA n.val,jB n.val)else if n.kind=1\/n.kind=2 then(1+max (a.1+b.2) (a.2+b.1),a.2+b.2)else if n.kind=3 then(a.1+b.1,a.2+b.2)else if n.kind=4 then(a.1+b.2,a.2+b.1)
 else if a.1>=a.2 then((a.1+a.2+1)/2,a.2)else(a.1,(a.1+a.2+1)/2)
theorem lL{ul:Nat×Nat}{l:Int}(hb:Below w0.heap.size w0 w1)(hg:w0.heap.size<=g)(hw:w1.heap[g]? =some (.cells #[a,b,c] T (0,0)))(hu:u=(ul.1:Int))(hl:l=(ul.2:Int)):
 Hid (zQ w0 ul (.returned (.agg #[.int .i64 u,.int .i64 l,.bool true])) (((w1.setCell ⟨g,0,none⟩ (.int .i64 u)).setCell ⟨g,1,none⟩ (.int .i64 l)).setCell ⟨g,2,none⟩ (.bool true)))/\
 (((w1.setCell ⟨g,0,none⟩ (.int .i64 u)).setCell ⟨g,1,none⟩ (.int .i64 l)).setCell ⟨g,2,none⟩ (.bool true)).heap[g]? =some (.cells #[.int .i64 u,.int .i64 l,.bool true] T (0,0)):=by
 subst hu hl;exact⟨hdd ⟨((hb.setCell hg _).setCell hg _).setCell hg _,rfl⟩,set3 hw _ _ _⟩
theorem aa8{b:Nat}(hb:b<18446744073709551616)(hf:fin b)(hs:Sz 53 1100 (leafD b))(hT:Tab w):Calls Tryz.prog 213 #[.float .f64 b] w (zQ w (jA b,jB b)):=by
 obtain⟨w1,hw1,hb1,hs1,b1⟩:=pro1 w (.cells #[.int .i64 0,.int .i64 0,.bool false] 199);have HD:=hdd (qD hb hf (hT.below hb1));replace HD:Hid (Calls Tryz.prog 214 #[.float .f64 b] w1 (qC w1.heap.size w1 (leafD b) true)):=HD;have HB:=hdd hb1;have B1:=hdd b1;have HSM:=hdd hs;clear hb hf hs hT hb1 b1;go_enter Tryz.func213,Tryz.ntmps213
 go_wp2_with fail
 refine HD.out.mono ?_;rintro e w5⟨hb5,v5,rfl,hz⟩;obtain⟨b5,A5,n5,c5,rfl,hz⟩:=hz;have HB5S:=hdd hb5.size;obtain⟨w6,hw6,hb6,hs6,q1⟩:=pro1 w5 (.cells #[Value.bool false,Value.slice none 0 0,.int .i64 0] 90);obtain⟨e0,e1,e2,e3,e4,e5⟩:=cells3 q1;have S1:=set3 q1 (.bool b5) (.slice A5 n5 c5) (.int .i64 (leafD b).exp);have g1:=hb6.setCell (p:=⟨w5.heap.size,0,none⟩) nlr (.bool b5);have g2:=g1.setCell (p:=⟨w5.heap.size,1,none⟩) nlr (.slice A5 n5 c5);have g3:=g2.setCell (p:=⟨w5.heap.size,2,none⟩) nlr (.int .i64 (leafD b).exp);have F:=And.intro S1 g3;clear S1 g1 g2 g3 hb6 hs6 q1;generalize hW:((w6.setCell ⟨w5.heap.size,0,none⟩ (.bool b5)).setCell ⟨w5.heap.size,1,none⟩ (.slice A5 n5 c5)).setCell ⟨w5.heap.size,2,none⟩ (.int .i64 (leafD b).exp)=w7 at F;obtain⟨S1,g3⟩:=F;obtain⟨x0,x1,x2,-,-,-⟩:=cells3 S1;have HB7:=hdd (aA hb5 g3);have HI:=hdd ((hz.any).below g3);have HSG:=hdd (bY (p:=AnyB) (w:=w7) ⟨b5,A5,n5,c5,rfl,(hz.any).below g3⟩);clear S1 g3 hb5 hz;go_wp2_with fail
 refine HSG.out.mono ?_;rintro r w8⟨rfl,hb8⟩;replace x0:=cbl x0 hb8;replace x1:=cbl x1 hb8;replace x2:=cbl x2 hb8;have HB8:=hdd (aA HB7.out hb8);have HI8:=hdd (HI.out.below hb8);clear hb8 e0 e1 e2 e3 e4 e5 hw6 hW;by_cases hz:(leafD b).man=0
 . have hs0:((leafD b).man.sign==0)=true:=by rw[hz];rfl
   have b8:=aD B1.out HB8.out (aC B1.out);obtain⟨e0,e1,e2,e3,e4,e5⟩:=cells3 b8;obtain⟨HR,hR⟩:=lL (ul:=(jA b,jB b)) (u:=0) (l:=0) (HB.out.trans (HB8.out.mono HB.out.size)) nlr b8 (by simp only[jA];rw[if_pos hz];rfl) (by simp only[jB];rw[if_pos hz];rfl);have HFF:=hdd hR;clear hz b8 hR x0 x1 x2;go_wp2;obtain⟨f0,f1,f2,-,-,-⟩:=cells3 HFF.out;refine bodyPost_ret (v:=.agg #[_,_,_]) (by simp[results,Tryz.results213,go_sem,f0,f1,f2];first|exact⟨rfl,rfl,rfl⟩|rfl) rfl ?_;exact HR.out
 . have hs0:((leafD b).man.sign==0)=false:=beq_eq_false_iff_ne.2 (fun h=>hz (Int.sign_eq_zero_iff_zero.1 h))
   obtain⟨xs,hx1,-,hx3,-⟩:=HI8.out.get;have HBT:=hdd (cO hx1);have HX1:=hdd hx1;have hbl:bits (val xs)<=53:=by rw[hx3];have:=HSM.out.2.1;omega
   have hel:-1100<=(leafD b).exp/\(leafD b).exp<=1100:=by have h1:=HSM.out.2.2 hz;have:=kM hz;omega
   have HLU:Hid (jA b=bits (val xs)+(leafD b).exp.toNat/\jB b=(-(leafD b).exp).toNat):=hdd (by unfold jA jB;rw[if_neg hz,if_neg hz,hx3];exact⟨rfl,rfl⟩);clear HSM;generalize (leafD b).exp=E at*;have hw1:IntKind.i64.wrap (-E)=-E:=wrap_i64 (by omega);have hw2:IntKind.i64.wrap (0-E)=-E:=by rw[wrap_i64 (by omega)];omega
   have HBLI:Hid ((0:Int)<=(bits (val xs):Int)/\(bits (val xs):Int)<=53):=hdd (by omega);have hw3:IntKind.i64.wrap ((bits (val xs):Int)+max E 0)=(bits (val xs):Int)+max E 0:=wrap_i64 (by omega);clear hx1 hx3 hz hbl;have n1:w.heap.size≠w5.heap.size:=by have:=aC B1.out;have:=HB5S.out;omega
   replace HBT:=hdd (cO (HX1.out.below ((azE _ _).drew (w:=w8))));go_wp2_with fail
   have hdr:Below w8.heap.size w8 w8.drew:=(azE _ _).drew;replace x0:=cbl x0 hdr;replace x1:=cbl x1 hdr;replace x2:=cbl x2 hdr
   go_region_held3 (fun w'=>w'.cell? ⟨w5.heap.size,0,none⟩=some (.bool b5)/\w'.cell? ⟨w5.heap.size,1,none⟩=some (.slice A5 n5 c5)/\w'.cell? ⟨w5.heap.size,2,none⟩=some (.int .i64 E)) (go_keep)
    (first
    |(go_at_call 81
      refine HBT.out.mono ?_;rintro r w9⟨rfl,k,hk⟩;have hd:Below w8.heap.size w8 w9:=by rw[hk];exact(azE _ _).drew.trans (below_drewN w8.drew k)
      have hd2:Below w8.drew.heap.size w8.drew w9:=by rw[hk];exact below_drewN w8.drew k
      have x0:=cbl x0 hd2;have x1:=cbl x1 hd2;have x2:=cbl x2 hd2;have HB9:=hdd (aA HB8.out hd);have b8:=aD B1.out HB9.out (aC B1.out);obtain⟨e0,e1,e2,e3,e4,e5⟩:=cells3 b8;have HB8N:=hdd b8;clear hd hd2 hk b8))
   all_goals
    obtain⟨HR,hR⟩:=lL (ul:=(jA b,jB b)) (u:=(bits (val xs):Int)+max E 0) (l:=max (-E) 0) (HB.out.trans (HB9.out.mono HB.out.size)) nlr HB8N.out (by simp only[];rw[HLU.out.1];omega) (by simp only[];rw[HLU.out.2];omega);have HFF:=hdd hR;clear hR;go_wp2;obtain⟨f0,f1,f2,-,-,-⟩:=cells3 HFF.out;refine bodyPost_ret (v:=.agg #[_,_,_]) (by simp[results,Tryz.results213,go_sem,f0,f1,f2];first|exact⟨rfl,rfl,rfl⟩|rfl) rfl ?_;exact HR.out
theorem aa9{va vb:Value}{a b:Nat×Nat}(hk:n.kind=0\/n.kind=1\/n.kind=2\/n.kind=3\/n.kind=4\/n.kind=5)(hlf:n.kind=0->n.val<18446744073709551616/\fin n.val/\Sz 53 1100 (leafD n.val))
 (ha:EnX (n.kind≠0) a va) (hb:EnX (n.kind≠0/\n.kind≠5) b vb) (hT:Tab w):
 Calls Tryz.prog 178 #[iA n,va,vb] w (zQ w (uN n a b)):=by
 obtain⟨kind,val,na,nb⟩:=n;simp only at hk hlf ha hb;unfold iA;obtain⟨u,l,t,rfl,hu,hl,ht⟩:=ha;obtain⟨u',l',t',rfl,hu',hl',ht'⟩:=hb;obtain⟨w4,hw4,hb4,hs4,b1,b2,b3,b4⟩:=pro4 w (.cells #[.int .i64 kind,.float .f64 val,.int .i64 na,.int .i64 nb] 87) (.cells #[.int .i64 u,.int .i64 l,.bool t] 199) (.cells #[.int .i64 u',.int .i64 l',.bool t'] 199) (.cells #[.int .i64 0,.int .i64 0,.bool false] 199);obtain⟨k0,k1,k2,k3⟩:=bM b1;obtain⟨c0,c1,c2,-,-,-⟩:=cells3 b2;obtain⟨d0,d1,d2,-,-,-⟩:=cells3 b3;obtain⟨e0,e1,e2,e3,e4,e5⟩:=cells3 b4;have HB:=hdd hb4;have B4:=hdd b4;have HT:=hdd (hT.below hb4);have HST:Hid (∀(ul:Nat×Nat) (w5:World),Below w4.heap.size w4 w5->∀(u l:Int),u=(ul.1:Int)->l=(ul.2:Int)->
  zQ w ul (.returned (.agg #[.int .i64 u,.int .i64 l,.bool true])) (((w5.setCell ⟨w.heap.size+3,0,none⟩ (.int .i64 u)).setCell ⟨w.heap.size+3,1,none⟩ (.int .i64 l)).setCell ⟨w.heap.size+3,2,none⟩ (.bool true))/\
  (((w5.setCell ⟨w.heap.size+3,0,none⟩ (.int .i64 u)).setCell ⟨w.heap.size+3,1,none⟩ (.int .i64 l)).setCell ⟨w.heap.size+3,2,none⟩ (.bool true)).heap[w.heap.size+3]? =some (.cells #[.int .i64 u,.int .i64 l,.bool true] 199 (0,0))):=hdd (by
  intro ul w5 h5 u l hu hl;obtain⟨r1,r2⟩:=lL (ul:=ul) (u:=u) (l:=l) (HB.out.trans (h5.mono HB.out.size)) (by omega) (aD B4.out h5 (aC B4.out)) hu hl;exact⟨r1.out,r2⟩)
 rcases hk with rfl|rfl|rfl|rfl|rfl|rfl
 . obtain⟨q1,q2,q3⟩:=hlf rfl
   have HL:=hdd (aa8 q1 q2 q3 HT.out);clear hb4 b1 b2 b3 b4 hs4 hT hlf q1 q2 q3 ht ht'
   cases t
   all_goals
    go_enter Tryz.func178,Tryz.ntmps178
    go_wp2_with fail
    refine HL.out.mono ?_;rintro r w5⟨hb5,rfl⟩;obtain⟨hR,hF⟩:=HST.out (jA val,jB val) w5 hb5 _ _ rfl rfl;have HR:=hdd hR;have HFF:=hdd hF;obtain⟨e0,e1,e2,e3,e4,e5⟩:=cells3 (aD B4.out hb5 (aC B4.out));clear hb5 hR hF c0 c1 c2 d0 d1 d2 k0 k1 k2 k3 hw4;go_wp2;obtain⟨f0,f1,f2,-,-,-⟩:=cells3 HFF.out;refine bodyPost_ret (v:=.agg #[_,_,_]) (by simp[results,Tryz.results178,go_sem,f0,f1,f2];first|exact⟨rfl,rfl,rfl⟩|rfl) rfl ?_;exact HR.out
 . clear hb4 b1 b2 b3 b4 hs4 hT hlf
   obtain⟨rfl,hua,hla⟩:=ht (by decide);obtain⟨rfl,hub,hlb⟩:=ht' (by decide);obtain⟨hR,hF⟩:=HST.out (1+max (a.1+b.2) (a.2+b.1),a.2+b.2) w4 (azE _ _) (1+max (u+l') (l+u')) (l+l') (show _=((1+max (a.1+b.2) (a.2+b.1):Nat):Int) by omega) (show _=((a.2+b.2:Nat):Int) by omega);have HR:=hdd hR;have HFF:=hdd hF;clear hR hF hua hla hub hlb ht ht';go_enter Tryz.func178,Tryz.ntmps178
   go_wp2;obtain⟨f0,f1,f2,-,-,-⟩:=cells3 HFF.out;refine bodyPost_ret (v:=.agg #[_,_,_]) (by simp[results,Tryz.results178,go_sem,f0,f1,f2];first|exact⟨rfl,rfl,rfl⟩|rfl) rfl ?_;exact HR.out
 . clear hb4 b1 b2 b3 b4 hs4 hT hlf
   obtain⟨rfl,hua,hla⟩:=ht (by decide);obtain⟨rfl,hub,hlb⟩:=ht' (by decide);obtain⟨hR,hF⟩:=HST.out (1+max (a.1+b.2) (a.2+b.1),a.2+b.2) w4 (azE _ _) (1+max (u+l') (l+u')) (l+l') (show _=((1+max (a.1+b.2) (a.2+b.1):Nat):Int) by omega) (show _=((a.2+b.2:Nat):Int) by omega);have HR:=hdd hR;have HFF:=hdd hF;clear hR hF hua hla hub hlb ht ht';go_enter Tryz.func178,Tryz.ntmps178
   go_wp2;obtain⟨f0,f1,f2,-,-,-⟩:=cells3 HFF.out;refine bodyPost_ret (v:=.agg #[_,_,_]) (by simp[results,Tryz.results178,go_sem,f0,f1,f2];first|exact⟨rfl,rfl,rfl⟩|rfl) rfl ?_;exact HR.out
 . clear hb4 b1 b2 b3 b4 hs4 hT hlf
   obtain⟨rfl,hua,hla⟩:=ht (by decide);obtain⟨rfl,hub,hlb⟩:=ht' (by decide);obtain⟨hR,hF⟩:=HST.out (a.1+b.1,a.2+b.2) w4 (azE _ _) (u+u') (l+l') (show _=((a.1+b.1:Nat):Int) by omega) (show _=((a.2+b.2:Nat):Int) by omega);have HR:=hdd hR;have HFF:=hdd hF;clear hR hF hua hla hub hlb ht ht';go_enter Tryz.func178,Tryz.ntmps178
   go_wp2;obtain⟨f0,f1,f2,-,-,-⟩:=cells3 HFF.out;refine bodyPost_ret (v:=.agg #[_,_,_]) (by simp[results,Tryz.results178,go_sem,f0,f1,f2];first|exact⟨rfl,rfl,rfl⟩|rfl) rfl ?_;exact HR.out
 . clear hb4 b1 b2 b3 b4 hs4 hT hlf
   obtain⟨rfl,hua,hla⟩:=ht (by decide);obtain⟨rfl,hub,hlb⟩:=ht' (by decide);obtain⟨hR,hF⟩:=HST.out (a.1+b.2,a.2+b.1) w4 (azE _ _) (u+l') (l+u') (show _=((a.1+b.2:Nat):Int) by omega) (show _=((a.2+b.1:Nat):Int) by omega);have HR:=hdd hR;have HFF:=hdd hF;clear hR hF hua hla hub hlb ht ht';go_enter Tryz.func178,Tryz.ntmps178
   go_wp2;obtain⟨f0,f1,f2,-,-,-⟩:=cells3 HFF.out;refine bodyPost_ret (v:=.agg #[_,_,_]) (by simp[results,Tryz.results178,go_sem,f0,f1,f2];first|exact⟨rfl,rfl,rfl⟩|rfl) rfl ?_;exact HR.out
 . clear hb4 b1 b2 b3 b4 hs4 hT hlf
   obtain⟨rfl,hua,hla⟩:=ht (by decide);have hun:uN ⟨5,val,na,nb⟩ a b=if a.1>=a.2 then((a.1+a.2+1)/2,a.2)else(a.1,(a.1+a.2+1)/2):=rfl;rw[hun];have hw1:IntKind.i64.wrap (u+l)=u+l:=wrap_i64 (by omega);have hw2:IntKind.i64.wrap (u+l+1)=u+l+1:=wrap_i64 (by omega);obtain⟨hv,hhv⟩:∃hv:Int,(u+l+1).tdiv 2=hv:=⟨_,rfl⟩;have hv2:hv=(u+l+1)/2:=by rw[<-hhv,Int.tdiv_eq_ediv_of_nonneg (by omega)]
   have hw3:IntKind.i64.wrap hv=hv:=wrap_i64 (by omega);by_cases hge:l<=u
   . rw[if_pos (by omega)]
     obtain⟨hR,hF⟩:=HST.out ((a.1+a.2+1)/2,a.2) w4 (azE _ _) hv l (show _=(((a.1+a.2+1)/2:Nat):Int) by omega) hla;have HR:=hdd hR;have HFF:=hdd hF;clear hR hF hua hla ht ht' hv2;go_enter Tryz.func178,Tryz.ntmps178
     go_wp2;obtain⟨f0,f1,f2,-,-,-⟩:=cells3 HFF.out;refine bodyPost_ret (v:=.agg #[_,_,_]) (by simp[results,Tryz.results178,go_sem,f0,f1,f2];first|exact⟨rfl,rfl,rfl⟩|rfl) rfl ?_;exact HR.out
   . rw[if_neg (by omega)]
     obtain⟨hR,hF⟩:=HST.out (a.1,(a.1+a.2+1)/2) w4 (azE _ _) u hv hua (show _=(((a.1+a.2+1)/2:Nat):Int) by omega);have HR:=hdd hR;have HFF:=hdd hF;clear hR hF hua hla ht ht' hv2;go_enter Tryz.func178,Tryz.ntmps178
     go_wp2;obtain⟨f0,f1,f2,-,-,-⟩:=cells3 HFF.out;refine bodyPost_ret (v:=.agg #[_,_,_]) (by simp[results,Tryz.results178,go_sem,f0,f1,f2];first|exact⟨rfl,rfl,rfl⟩|rfl) rfl ?_;exact HR.out
theorem jK:Tryz.prog.underlying 201=some (.map 3 199):=by kernel_rfl
theorem nA(w:World):(zeroValue 199).run Tryz.prog w=.ok (.agg #[.int .i64 0,.int .i64 0,.bool false]) w:=by kernel_rfl
theorem new3(w:World)(T:TypeId)(z0 z1 z2 a b c:Value):∃w1,w.alloc (.cells #[z0,z1,z2] T)=w1/\(w1.cell? ⟨w.heap.size,0,none⟩=some z0/\w1.cell? ⟨w.heap.size,1,none⟩=some z1/\w1.cell? ⟨w.heap.size,2,none⟩=some z2/\
 w1.frozen? ⟨w.heap.size,0,none⟩=false/\w1.frozen? ⟨w.heap.size,1,none⟩=false/\w1.frozen? ⟨w.heap.size,2,none⟩=false)/\
 ∃w2,((w1.setCell ⟨w.heap.size,0,none⟩ a).setCell ⟨w.heap.size,1,none⟩ b).setCell ⟨w.heap.size,2,none⟩ c=w2/\Below w.heap.size w w2/\w2.heap[w.heap.size]? =some (.cells #[a,b,c] T (0,0)):=by
 obtain⟨w1,h,hb,hs,b1⟩:=pro1 w (.cells #[z0,z1,z2] T);have g1:=hb.setCell (p:=⟨w.heap.size,0,none⟩) nlr a;have g2:=g1.setCell (p:=⟨w.heap.size,1,none⟩) nlr b;have g3:=g2.setCell (p:=⟨w.heap.size,2,none⟩) nlr c;exact⟨w1,h,cells3 b1,_,rfl,g3,set3 b1 a b c⟩
structure UE(ns:List Nd)(S:Nat->Prop)(ul:Nat->Nat×Nat):Prop where
 cl:ClS ns S
 step:∀(i:Nat) n,S i->ns[i]? =some n->ul i=uN n (ul n.a.toNat) (ul n.b.toNat)
 bd:∀i,S i->(ul i).1<=1000000/\(ul i).2<=1000000
 leaf:∀(i:Nat) n,S i->ns[i]? =some n->n.kind=0->n.val<18446744073709551616/\fin n.val/\Sz 53 1100 (leafD n.val)
def eV(ul:Nat×Nat):Value:=.agg #[.int .i64 (ul.1:Int),.int .i64 (ul.2:Int),.bool true]
def MX(ul:Nat->Nat×Nat)(m:Value->Option Value)(done:List Nat):Prop:=
 (∀i∈done,m (.int .i64 ((i:Nat):Int))=some (eV (ul i))/\(ul i).1<=1000000/\(ul i).2<=1000000)/\∀i:Nat,i∉done->m (.int .i64 (i:Int))=none
theorem MX.get {done:List Nat}(h:MX ul m done)(i:Nat):∃u l t,(m (.int .i64 (i:Int))).getD (.agg #[.int .i64 0,.int .i64 0,.bool false])=.agg #[.int .i64 u,.int .i64 l,.bool t]/\(0<=u/\u<=1000000)/\(0<=l/\l<=1000000)/\(i∈done->t=true/\u=((ul i).1:Int)/\l=((ul i).2:Int)):=by
 by_cases hi:i∈done
 . obtain⟨e,g1,g2⟩:=h.1 i hi
   exact⟨_,_,true,by rw[e];rfl,by omega,by omega,fun _=>⟨rfl,rfl,rfl⟩⟩
 . exact⟨0,0,false,by rw[h.2 i hi];rfl,by omega,by omega,fun h'=>absurd h' hi⟩
theorem MX.put {m':Value->Option Value}{done:List Nat}{i:Nat}(h:MX ul m done)(hb:(ul i).1<=1000000/\(ul i).2<=1000000)(hu:Upd m (.int .i64 (i:Int)) (some (eV (ul i))) m'):MX ul m' (done++[i]):=by
 refine⟨fun j hj=> ?_,fun j hj=> ?_⟩
 . by_cases hji:j=i
   . subst hji;exact⟨hu.1,hb⟩
   . rw[hu.2 _ (fun e=>hji (by injection e with _ e;omega))]
     rcases azJ.1 hj with h1|h1
     . exact h.1 j h1
     . simp at h1;exact absurd h1 hji
 . have h1:j≠i:=fun e=>hj (by rw[e];simp)
   rw[hu.2 _ (fun e=>h1 (by injection e with _ e;omega))];exact h.2 j (fun h'=>hj (azJ.2 (Or.inl h')))
def agU(w:World)(ul:Nat×Nat)(root:Nat)(e:Ending)(w':World):Prop:=
 Below w.heap.size w w'/\∃mb m,e=.returned (.map (some mb))/\MapP Tryz.prog 3 w' mb m/\m (.int .i64 (root:Int))=some (eV ul)
theorem xG{p:Nat->Prop}{root:Nat}{vl:Value}(hd:DagP w g ns)(ok:OkNs ns)(hlf:gB ns)(hro:gD ns)(hue:UE ns S ul)(hS:S root)(hT:Tab w)(hl:IntsP p w vl l)(hI:IsB ns root l):
 Calls Tryz.prog 134 #[.pointer (some ⟨g,0,none⟩),vl] w (agU w (ul root) root):=by
 obtain⟨bl,cl,rfl,hlc,hcm,-,hbl,-⟩:=id hl;obtain⟨w1,hw1,hb1,hs1,b1⟩:=pro1 w (.map #[] 0);have HL:=hdd (hl.below hb1);have HOK:=hdd ok;have HUE:=hdd hue;have HSR:=hdd hS;have HRO:=hdd hro;have HDW:=hdd hd;have HLEAF:=hdd hlf;have HT:=hdd hT;have HI:=hdd hI;have HLN:=hdd hd.len;have HB1:=hdd hb1;have HM1:=hdd (MapP.made (P:=Tryz.prog) (k:=3) (es:=#[]) b1);have HBL:=hdd hbl;have HS1:=hdd hs1;have HLL:=hdd (lI hI hd.len);clear hd ok hue hS hro hlf hT hl hI hb1 b1 hs1 hlc hcm hbl;have hmm:=@run_makeMap Tryz.prog;have hst:=aT;go_enter Tryz.func134,Tryz.ntmps134
 go_wp2_with fail
 go_loopw [14] (fun i wr=>∃k:Nat,k<=l.length/\i=.int .i64 (k:Int)/\Hid (Fr (fun b=>b=w.heap.size) w1 wr)/\∃m,Hid (MapP Tryz.prog 3 wr w.heap.size m)/\Hid (MX ul m (l.take k))) (fun i _=>((l.length:Int)-intOf i).toNat)
 case atStart=>exact⟨0,Nat.zero_le _,rfl,hdd (Fr.of_below (azE _ _)),_,HM1,hdd ⟨by simp,by simp⟩⟩
 case round=>
  obtain⟨k,hk,rfl,HF,m,HM,HME⟩:=hrel;have HBR:Hid (Below w.heap.size w wr):=hdd (HB1.out.trans (HF.out.below HB1.out.size (fun b hb=>by omega)));rcases Nat.lt_or_ge k l.length with hlt|hge
  . obtain⟨x,hx⟩:∃x,l[k]? =some x:=⟨_,azF hlt⟩
    have hxl:x<ns.length:=HI.out.lt x (azG hx);obtain⟨n,hn⟩:∃n,ns[x]? =some n:=⟨_,azF hxl⟩;have HDR:=hdd (HDW.out.below HBR.out);have cx:wr.cell? ⟨bl,k,none⟩=some (.int .i64 (x:Int)):=(World.cell?_of_block (HF.out.block bl (by have:=HBL.out;have:=HB1.out.size;omega) (by have:=HBL.out;omega))).trans (HL.out.cell hx);have HN:=hdd (eO HDR.out hn);have hkI:(k:Int)<(l.length:Int):=by omega
    have hk0:(0:Int)<=(k:Int):=by omega
    have hlI:(l.length:Int)<=20000:=by have:=HLL.out;omega
    have HX:=hdd hx;have HNN:=hdd hn;have HXL:=hdd hxl;have HKL:=hdd hlt;have hxl2:=azG hx;have hSx:S x:=HI.out.mn S HUE.out.cl HSR.out x hxl2;have hkind:n.kind=0\/n.kind=1\/n.kind=2\/n.kind=3\/n.kind=4\/n.kind=5:=by have:=(HOK.out x n hn).1;omega
    obtain⟨hopA,hopB⟩:=ab3 HOK.out HI.out.srt HI.out.cl hx hn;have hab:(0<=n.a/\n.a<=x)/\(0<=n.b/\n.b<=x):=by
     by_cases h0:n.kind=0
     . obtain⟨h1,h2⟩:=HLEAF.out x n hn h0
       rw[h1,h2];omega
     . obtain⟨-,h3⟩:=hopA h0
       by_cases h5:n.kind=5
       . have:=HRO.out x n hn h5;omega
       . obtain⟨-,h4⟩:=hopB h0 h5
         omega
    have hbx:=HUE.out.bd x hSx;obtain⟨ua,la,ta,ea,ha1,ha2,ha3⟩:=HME.out.get n.a.toNat;obtain⟨ub,lb,tb,eb,hb1,hb2,hb3⟩:=HME.out.get n.b.toNat;rw[show((n.a.toNat:Nat):Int)=n.a from by omega]at ea;rw[show((n.b.toNat:Nat):Int)=n.b from by omega]at eb;have HKX:=hdd (iO (i:=x) (by have:=HLN.out;omega));have HCO:Hid (∀w',Below wr.heap.size wr w'->Calls Tryz.prog 178 #[.agg #[.int .i64 n.kind,.float .f64 n.val,.int .i64 n.a,.int .i64 n.b],.agg #[.int .i64 ua,.int .i64 la,.bool ta],.agg #[.int .i64 ub,.int .i64 lb,.bool tb]] w' (zQ w' (ul x))):=hdd fun w' h=>by
     rw[HUE.out.step x n hSx hn];exact aa9 (n:=n) hkind (fun h0=>HUE.out.leaf x n hSx hn h0) ⟨ua,la,ta,rfl,ha1,ha2,fun h0=>ha3 (hopA h0).1⟩ ⟨ub,lb,tb,rfl,hb1,hb2,fun h0=>hb3 (hopB h0.1 h0.2).1⟩ (HT.out.below (HBR.out.trans (h.mono HBR.out.size)))
    have HEA:=hdd ea;have HEB:=hdd eb;have HCX:=hdd hbx;have HAB:Hid ((0<=n.a/\n.a<=1000000)/\(0<=n.b/\n.b<=1000000)):=hdd (by have:=HLN.out;omega);have HKA:=hdd (jJ (i:=n.a) (by have:=HAB.out;omega));have HKB:=hdd (jJ (i:=n.b) (by have:=HAB.out;omega));clear hx hn hxl hlt hxl2 hSx hkind ea eb ha1 ha2 hb1 hb2 ha3 hb3 hbx hab hopA hopB HDR;obtain⟨u,hu0⟩:∃u:Int,((ul x).1:Int)=u:=⟨_,rfl⟩;obtain⟨lw,hl0⟩:∃u:Int,((ul x).2:Int)=u:=⟨_,rfl⟩;have HUL:Hid (eV (ul x)=.agg #[.int .i64 u,.int .i64 lw,.bool true]):=hdd (by unfold eV;rw[hu0,hl0]);have hu40:u<=1099511627776:=by have:=HCX.out;omega
    have hl40:lw<=1099511627776:=by have:=HCX.out;omega
    go_wp2_with fail
    refine HN.out.mono ?_;rintro e w5⟨rfl,hb5⟩;obtain⟨w6,hw6,z0,z1,z2,z3,y0,y1,y2,y3,w7,hw7,hb7,hs7⟩:=new4 w5 87 (.int .i64 0) (.float .f64 0) (.int .i64 0) (.int .i64 0) (.int .i64 n.kind) (.float .f64 n.val) (.int .i64 n.a) (.int .i64 n.b);obtain⟨x0,x1,x2,x3⟩:=bM hs7;have HM7:=hdd (HM.out.below (aA hb5 hb7) HM.out.lt);have HB57:=hdd (aA hb5 hb7);have HC7:=hdd (HCO.out w7 (aA hb5 hb7));have M1:True:=trivial;clear hb5 hb7 hs7 cx;go_wp2_with (first
     |(at_lookup
       clear M1;refine aU _ rfl _ _ _ rfl _ _ aK jK (nA _) _ m rfl HM7.out (.int .i64 n.a) _ rfl HKA.out (.agg #[.int .i64 ua,.int .i64 la,.bool ta]) HEA.out ?_)
     |(at_lookup
       refine aU _ rfl _ _ _ rfl _ _ aK jK (nA _) _ m rfl HM7.out (.int .i64 n.b) _ rfl HKB.out (.agg #[.int .i64 ub,.int .i64 lb,.bool tb]) HEB.out ?_))
    refine HC7.out.mono ?_;rintro e w8⟨hb8,rfl⟩;rw[hu0,hl0];clear hu0 hl0;obtain⟨w9,hw9,⟨p0,p1,p2,q0,q1,q2⟩,w10,hw10,hb10,hs10⟩:=new3 w8 199 (.int .i64 0) (.int .i64 0) (.bool false) (.int .i64 u) (.int .i64 lw) (.bool true);obtain⟨r0,r1,r2,-,-,-⟩:=cells3 hs10;have HM10:=hdd ((HM7.out.below hb8 HM7.out.lt).below hb10 (Nat.lt_of_lt_of_le HM7.out.lt hb8.size));have HB10:=hdd (aA (aA HB57.out hb8) hb10);obtain⟨m',hup⟩:=jQ m (.int .i64 (x:Int)) (some (.agg #[.int .i64 u,.int .i64 lw,.bool true]));have HU:=hdd hup;clear hup hb8 hb10 hs10 z0 z1 z2 z3 y0 y1 y2 y3 x0 x1 x2 x3 hw6 hw7 HCO HM7 HC7;go_wp2_with (first
     |(at_mapUpdate
       refine dP _ rfl _ _ _ _ rfl _ _ aK jK _ m m' rfl HM10.out (.int .i64 (x:Int)) (.agg #[.int .i64 u,.int .i64 lw,.bool true]) _ rfl rfl HKX.out HU.out ?_;intro w11 HM11 hgr hsz;have HF11:=hdd ((HF.out.trans (Fr.of_below HB10.out)).trans (Fr.of_grown hgr (fun i e=>(Option.some.inj e).symm)));clear hgr hsz))
    go_roundw
    case rel=>
     refine⟨k+1,by have:=HKL.out;omega,by go_num,HF11,m',HM11,hdd ?_⟩;rw[azH,HX.out];exact HME.out.put HCX.out (by rw[HUL.out];exact HU.out)
    case measure=>have:=HKL.out;simp[intOf];omega
  . have hke:k=l.length:=by omega
    subst hke;obtain⟨h1,h2,h3⟩:=HME.out.1 root (by rw[azI];exact HI.out.rt);have HRES:Hid (agU w (ul root) root (.returned (.map (some w.heap.size))) wr):=hdd ⟨HBR.out,_,m,rfl,HM.out,h1⟩;clear h1 h2 h3 hk hge;go_wp2;go_ret;exact HRES.out
def isRt(ns:List Nd)(i:Nat):Bool:=match ns[i]? with|some n=>decide (n.kind=5)|none=>false
def nRt(ns:List Nd)(l:List Nat):Nat:=(l.filter (isRt ns)).length
theorem agV{k x:Nat}(hx:l[k]? =some x)(hn:ns[x]? =some n):nRt ns (l.take (k+1))=nRt ns (l.take k)+if n.kind=5 then 1 else 0:=by
 unfold nRt;rw[azH,hx,List.filter_append,List.length_append]
 congr 1
 have:isRt ns x=decide (n.kind=5):=by unfold isRt;rw[hn]
 simp only[Option.toList,List.filter_cons,this,List.filter_nil];by_cases h:n.kind=5
 . simp[h]
 . simp[h]
theorem ajZ(ns:List Nd)(l:List Nat)(k:Nat):nRt ns (l.take k)<=l.length:=by
 unfold nRt;refine Nat.le_trans (List.length_filter_le _ _) ?_;rw[List.length_take];omega
theorem abA{root:Nat}(hd:DagP w g ns)(ok:OkNs ns)(hr:root<ns.length):
 Calls Tryz.prog 135 #[.pointer (some ⟨g,0,none⟩),.int .i64 (root:Int)] w (fun e w'=>∃l,e=.returned (.int .i64 (nRt ns l:Int))/\IsB ns root l/\Below w.heap.size w w'):=by
 obtain⟨w2,hw2,hb2,hs2,b2⟩:=pro1 w (.cells #[.int .i64 (root:Int)] 3);have HDW:=hdd hd;have HD2:=hdd (hd.below hb2);have HBE:=hdd (iT HD2.out ok hr b2);have HB2:=hdd hb2;have HOK:=hdd ok;have HLN:=hdd hd.len;clear hd ok hr hb2 b2 hs2;go_enter Tryz.func135,Tryz.ntmps135
 go_wp2_with fail
 refine HBE.out.mono ?_;rintro e w3⟨hb3,v3,l,rfl,hl,hI⟩;obtain⟨bl,cl,rfl,hlc,hcm,-⟩:=id hl;have HL:=hdd hl;have HI:=hdd hI;have HB3:=hdd (HB2.out.trans (hb3.mono HB2.out.size));have HLL:=hdd (lI hI HLN.out);clear hb3 hl hI HBE hcm hlc hw2;go_wp2_with fail
 go_loopw [15,5] (fun i c wr=>∃k:Nat,k<=l.length/\i=.int .i64 (k:Int)/\c=.int .i64 (nRt ns (l.take k):Int)/\Hid (Below w3.heap.size w3 wr)) (fun i _ _=>((l.length:Int)-intOf i).toNat)
 case atStart=>exact⟨0,Nat.zero_le _,rfl,rfl,hdd (azE _ _)⟩
 case round=>
  obtain⟨k,hk,rfl,rfl,HF⟩:=hrel;have HBR:Hid (Below w.heap.size w wr):=hdd (HB3.out.trans (HF.out.mono HB3.out.size));rcases Nat.lt_or_ge k l.length with hlt|hge
  . obtain⟨x,hx⟩:∃x,l[k]? =some x:=⟨_,azF hlt⟩
    have hxl:x<ns.length:=HI.out.lt x (azG hx);obtain⟨n,hn⟩:∃n,ns[x]? =some n:=⟨_,azF hxl⟩;have cx:=(HL.out.below HF.out).cell hx;have HN:=hdd (eO (HDW.out.below HBR.out) hn);have HST:=hdd (agV hx hn);have hst:=aT;have hkI:(k:Int)<(l.length:Int):=by omega
    have hk0:(0:Int)<=(k:Int):=by omega
    have hlI:(l.length:Int)<=20000:=by have:=HLL.out;omega
    have HKL:=hdd hlt;have hcB:=ajZ ns l k;obtain⟨c,hc⟩:∃c:Int,(nRt ns (l.take k):Int)=c:=⟨_,rfl⟩;have HC:=hdd hc;have hcB0:0<=c/\c<=20000:=by omega
    have hcw:IntKind.i64.wrap (c+1)=c+1:=wrap_i64 (by omega);rw[hc];clear hx hn hxl hlt hc hcB;by_cases hk5:n.kind=5
    . go_wp2_with fail
      refine HN.out.mono ?_;rintro e w5⟨rfl,hb5⟩;obtain⟨w6,hw6,z0,z1,z2,z3,y0,y1,y2,y3,w7,hw7,hb7,hs7⟩:=new4 w5 87 (.int .i64 0) (.float .f64 0) (.int .i64 0) (.int .i64 0) (.int .i64 n.kind) (.float .f64 n.val) (.int .i64 n.a) (.int .i64 n.b);obtain⟨x0,x1,x2,x3⟩:=bM hs7;have HF7:=hdd (aA HF.out (aA hb5 hb7));have hkd:(n.kind==5)=true:=by simp[hk5]
      have HK5:=hdd hk5;clear hb5 hb7 hs7 cx hk5;go_wp2_with fail
      go_roundw
      case rel=>exact⟨k+1,by have:=HKL.out;omega,by go_num,by rw[HST.out,if_pos HK5.out];have:=HC.out;go_num,HF7⟩
      case measure=>have:=HKL.out;simp[intOf];omega
    . go_wp2_with fail
      refine HN.out.mono ?_;rintro e w5⟨rfl,hb5⟩;obtain⟨w6,hw6,z0,z1,z2,z3,y0,y1,y2,y3,w7,hw7,hb7,hs7⟩:=new4 w5 87 (.int .i64 0) (.float .f64 0) (.int .i64 0) (.int .i64 0) (.int .i64 n.kind) (.float .f64 n.val) (.int .i64 n.a) (.int .i64 n.b);obtain⟨x0,x1,x2,x3⟩:=bM hs7;have HF7:=hdd (aA HF.out (aA hb5 hb7));have HK5:=hdd hk5;clear hb5 hb7 hs7 cx;go_wp2_with fail
      go_roundw
      case rel=>exact⟨k+1,by have:=HKL.out;omega,by go_num,by rw[HST.out,if_neg HK5.out,<-HC.out];rfl,HF7⟩
      case measure=>have:=HKL.out;simp[intOf];omega
  . have hke:k=l.length:=by omega
    subst hke;rw[azI];clear hk hge;go_wp2;go_ret;exact⟨l,rfl,HI.out,HBR.out⟩
def ai8(w:World)(ns:List Nd)(ul:Nat×Nat)(root:Nat)(e:Ending)(w':World):Prop:=Below w.heap.size w w'/\∃(u lw k:Int) (l:List Nat),e=.returned (.tuple #[.agg #[.int .i64 u,.int .i64 lw,.int .i64 k],.bool true])/\u=(ul.1:Int)/\lw=(ul.2:Int)/\IsB ns root l/\k=(nRt ns l:Int)
theorem zR{lw k:Int}{ul:Nat×Nat}{root:Nat}(hb:Below w0.heap.size w0 w1)(hg:w0.heap.size<=g)(hw:w1.heap[g]? =some (.cells #[a,b,c] T (0,0)))(hu:u=(ul.1:Int))(hl:lw=(ul.2:Int))(hI:IsB ns root l)(hk:k=(nRt ns l:Int)):
 Hid (ai8 w0 ns ul root (.returned (.tuple #[.agg #[.int .i64 u,.int .i64 lw,.int .i64 k],.bool true])) (((w1.setCell ⟨g,0,none⟩ (.int .i64 u)).setCell ⟨g,1,none⟩ (.int .i64 lw)).setCell ⟨g,2,none⟩ (.int .i64 k)))/\
 (((w1.setCell ⟨g,0,none⟩ (.int .i64 u)).setCell ⟨g,1,none⟩ (.int .i64 lw)).setCell ⟨g,2,none⟩ (.int .i64 k)).heap[g]? =some (.cells #[.int .i64 u,.int .i64 lw,.int .i64 k] T (0,0)):=
 ⟨hdd ⟨((hb.setCell hg _).setCell hg _).setCell hg _,u,lw,k,l,rfl,hu,hl,hI,hk⟩,set3 hw _ _ _⟩
theorem xH{root:Nat}(hd:DagP w g ns)(ok:OkNs ns)(hlf:gB ns)(hro:gD ns)(hue:UE ns S ul)(hS:S root)(hT:Tab w)(hr:root<ns.length):
 Calls Tryz.prog 85 #[.pointer (some ⟨g,0,none⟩),.int .i64 (root:Int)] w (ai8 w ns (ul root) root):=by
 obtain⟨w1,hw1,hb1,hs1,b1⟩:=pro1 w (.cells #[.int .i64 0,.int .i64 0,.int .i64 0] 140);obtain⟨w2,hw2,hb2,hs2,b2⟩:=pro1 w1 (.cells #[.int .i64 (root:Int)] 3);have HBE:=hdd (iT ((hd.below hb1).below hb2) ok hr b2);rw[hs1]at HBE;have HB2:=hdd (aA hb1 hb2);have B2:=hdd (hbl b1 hb2);have HEN:Hid (∀w' l vl,Below w.heap.size w w'->IntsP (fun b=>w2.heap.size<=b) w' vl l->IsB ns root l->Calls Tryz.prog 134 #[.pointer (some ⟨g,0,none⟩),vl] w' (agU w' (ul root) root)):=hdd fun w' l vl hb hl hI=>xG (hd.below hb) ok hlf hro hue hS (hT.below hb) hl hI;have HRO:Hid (∀w',Below w.heap.size w w'->Calls Tryz.prog 135 #[.pointer (some ⟨g,0,none⟩),.int .i64 (root:Int)] w' (fun e w''=>∃l,e=.returned (.int .i64 (nRt ns l:Int))/\IsB ns root l/\Below w'.heap.size w' w'')):=hdd fun w' hb=>abA (hd.below hb) ok hr;have HKX:=hdd (iO (i:=root) (by have:=hd.len;omega));clear hd ok hlf hro hue hS hT hr hb1 hb2 b1 b2 hs2;go_enter Tryz.func85,Tryz.ntmps85
 go_wp2_with fail
 refine HBE.out.mono ?_;rintro e w3⟨hb3,v3,l,rfl,hl,hI⟩;have HB3:=hdd (HB2.out.trans (hb3.mono HB2.out.size));have HE3:=hdd (HEN.out w3 l v3 HB3.out hl hI);have HB23:=hdd hb3;clear hb3 hl hI HBE HEN hw1 hw2;go_wp2_with fail
 refine HE3.out.mono ?_;rintro e w4⟨hb4,mb,m,rfl,hm,hmr⟩;unfold eV at hmr;obtain⟨u,hu⟩:∃u:Int,((ul root).1:Int)=u:=⟨_,rfl⟩;obtain⟨lw,hlw⟩:∃u:Int,((ul root).2:Int)=u:=⟨_,rfl⟩;rw[hu,hlw]at hmr;have HM4:=hdd hm;have HGD:Hid ((m (.int .i64 (root:Int))).getD (.agg #[.int .i64 0,.int .i64 0,.bool false])=.agg #[.int .i64 u,.int .i64 lw,.bool true]):=hdd (by rw[hmr];rfl);have HSM:Hid ((m (.int .i64 (root:Int))).isSome=true):=hdd (by rw[hmr];rfl);obtain⟨w5,hw5,⟨p0,p1,p2,q0,q1,q2⟩,w6,hw6,hb6,hs6⟩:=new3 w4 199 (.int .i64 0) (.int .i64 0) (.bool false) (.int .i64 u) (.int .i64 lw) (.bool true);obtain⟨r0,r1,r2,-,-,-⟩:=cells3 hs6;have HB6:=hdd (HB3.out.trans ((aA hb4 hb6).mono HB3.out.size));have HB26:=hdd (aA HB23.out (aA hb4 hb6));have HUB:=hdd hu;have HLB:=hdd hlw;have HN1:Hid (w.heap.size≠w4.heap.size):=hdd (by have:=aC B2.out;have:=HB23.out.size;have:=hb4.size;omega);clear hb4 hb6 hm hmr hu hlw hs6;go_wp2_with (first
  |(at_lookup
    refine iM _ rfl _ _ _ rfl _ _ aK jK (nA _) _ m rfl HM4.out (.int .i64 (root:Int)) _ rfl HKX.out (.agg #[.int .i64 u,.int .i64 lw,.bool true]) HGD.out true HSM.out ?_))
 have hdr:Below w6.heap.size w6 w6.drew:=(azE _ _).drew;replace r0:=cbl r0 hdr;replace r1:=cbl r1 hdr;replace r2:=cbl r2 hdr;have HB6D:=hdd (HB6.out.trans (hdr.mono HB6.out.size));have HB26D:=hdd (aA HB26.out hdr);have n1:w.heap.size≠w4.heap.size:=HN1.out;clear hdr p0 p1 p2 q0 q1 q2 hw5 hw6
 go_region_held3 (fun w'=>w'.cell? ⟨w4.heap.size,0,none⟩=some (.int .i64 u)/\w'.cell? ⟨w4.heap.size,1,none⟩=some (.int .i64 lw)/\w'.cell? ⟨w4.heap.size,2,none⟩=some (.bool true)) (go_keep)
  (first
  |(go_at_call 135
    refine(HRO.out _ HB6D.out).mono ?_;rintro r w9⟨lr,rfl,hIr,hb9⟩;obtain⟨kr,hkr⟩:∃u:Int,(nRt ns lr:Int)=u:=⟨_,rfl⟩;rw[hkr];have HIR:=hdd hIr;have HKR:=hdd hkr;have r0:=cbl r0 hb9;have r1:=cbl r1 hb9;have r2:=cbl r2 hb9;have HB9:=hdd (aA HB26D.out hb9);have b9:=hbl B2.out HB9.out;obtain⟨e0,e1,e2,e3,e4,e5⟩:=cells3 b9;have HB9N:=hdd b9;clear hb9 b9 hIr hkr))
 all_goals
  obtain⟨HR,hR⟩:=zR (HB2.out.trans (HB9.out.mono HB2.out.size)) nlr HB9N.out HUB.out.symm HLB.out.symm HIR.out HKR.out.symm;have HFF:=hdd hR;clear hR;go_wp2;obtain⟨f0,f1,f2,-,-,-⟩:=cells3 HFF.out;refine bodyPost_ret (v:=.tuple #[.agg #[_,_,_],_]) (by simp[results,Tryz.results85,go_sem,f0,f1,f2];first|exact⟨⟨rfl,rfl,rfl⟩,rfl⟩|rfl) rfl ?_;exact HR.out
def agW(ns:List Nd)(ul:Nat×Nat)(root:Nat):Prop:=∀l,IsB ns root l->max ul.1 ul.2*2^nRt ns l+1<=32768/\nRt ns l<=15
def zS(w:World)(ns:List Nd)(ul:Nat×Nat)(root:Nat)(e:Ending)(w':World):Prop:=Below w.heap.size w w'/\∃(s:Int) (l:List Nat),e=.returned (.tuple #[.int .i64 s,.bool true])/\IsB ns root l/\s=((max ul.1 ul.2*2^nRt ns l+1:Nat):Int)/\s<=32768
theorem uH{root:Nat}(hd:DagP w g ns)(ok:OkNs ns)(hlf:gB ns)(hro:gD ns)(hue:UE ns S ul)(hS:S root)(hT:Tab w)(hr:root<ns.length)(hsk:agW ns (ul root) root):
 Calls Tryz.prog 153 #[.pointer (some ⟨g,0,none⟩),.int .i64 (root:Int)] w (zS w ns (ul root) root):=by
 have HBO:=hdd (xH hd ok hlf hro hue hS hT hr);have HSK:=hdd hsk;clear hd ok hlf hro hue hS hT hr hsk;go_enter Tryz.func153,Tryz.ntmps153
 go_wp2_with fail
 refine HBO.out.mono ?_;rintro e w4⟨hb4,u,lw,k,l,rfl,hu,hl,hI,hk⟩;obtain⟨h1,h2⟩:=HSK.out l hI;obtain⟨n,hn⟩:∃n:Nat,nRt ns l=n:=⟨_,rfl⟩;rw[hn]at h1 h2 hk;subst hk;obtain⟨w5,hw5,⟨p0,p1,p2,q0,q1,q2⟩,w6,hw6,hb6,hs6⟩:=new3 w4 140 (.int .i64 0) (.int .i64 0) (.int .i64 0) (.int .i64 u) (.int .i64 lw) (.int .i64 (n:Int));obtain⟨r0,r1,r2,-,-,-⟩:=cells3 hs6;have HB6:=hdd (aA hb4 hb6);obtain⟨m,hm⟩:∃m:Nat,max (ul root).1 (ul root).2=m:=⟨_,rfl⟩;have hmi:max u lw=(m:Int):=by rw[hu,hl];omega
 rw[hm]at h1;have hp:=Nat.two_pow_pos n;have hm1:m<=m*2^n:=Nat.le_mul_of_pos_right _ hp;obtain⟨s,hs⟩:∃s:Nat,m*2^n=s:=⟨_,rfl⟩;have HRES:Hid (zS w ns (ul root) root (.returned (.tuple #[.int .i64 ((s:Int)+1),.bool true])) w6):=hdd ⟨HB6.out,(s:Int)+1,l,rfl,hI,by rw[hm,hn,hs];omega,by omega⟩;have e1:(m:Int)*2^n=(s:Int):=by rw[<-hs];simp
 obtain⟨t,ht⟩:∃t:Int,(s:Int)=t:=⟨_,rfl⟩;rw[ht]at HRES e1;have hw1:IntKind.i64.wrap ((m:Int)*2^n)=t:=by rw[e1];exact wrap_i64 (by omega)
 have hw2:IntKind.i64.wrap (t+1)=t+1:=wrap_i64 (by omega);have hbig:¬(1099511627776<t+1):=by omega
 have hk20:¬(20<(n:Int)):=by omega
 clear hb4 hb6 hs6 hI hu hl hp HSK HBO hs e1 ht h1 h2 hm1 hm hn;go_wp2
 go_ret2
 exact HRES.out
theorem qI{root:Nat}(hd:DagP w g ns)(ok:OkNs ns)(hlf:gB ns)(hro:gD ns)(hue:UE ns S ul)(hS:S root)(hT:Tab w)(hr:root<ns.length)(hsk:agW ns (ul root) root):
 Calls Tryz.prog 108 #[.pointer (some ⟨g,0,none⟩),.int .i64 (root:Int)] w (zS w ns (ul root) root):=by
 have HBO:=hdd (uH hd ok hlf hro hue hS hT hr hsk);clear hd ok hlf hro hue hS hT hr hsk;go_enter Tryz.func108,Tryz.ntmps108
 go_wp2_with fail
 refine HBO.out.mono ?_;rintro e w4⟨hb4,s,l,rfl,hI,h1,h2⟩;have HRES:Hid (zS w ns (ul root) root (.returned (.tuple #[.int .i64 s,.bool true])) w4):=hdd ⟨hb4,s,l,rfl,hI,h1,h2⟩;clear hI h1 hb4;go_wp2
 go_ret2
 exact HRES.out
end Go.Proofs.YtkadpnljocflaaaGreatDoor
