/- A part of the proof: contracts of functions and plain laws (DyF, DyG, DyH, DyI, DyK, DyL). -/
import Derived.Test.YtjdgaogkioabeaaGreatDoorK20
import Derived.Test.YtjdgaogkioabeaaGreatDoorK11
set_option linter.unusedVariables false
set_option linter.unusedSimpArgs false
set_option maxHeartbeats 25600000
set_option maxRecDepth 100000
namespace Go.Proofs.YtjdgaogkioabeaaGreatDoor
open Go.RowKit
open Go.RowKit.Below renaming heap_setCell->beQ,refl->beS
open Int renaming sign_eq_zero_iff_zero->beR,natAbs_natCast->beT,sign_eq_one_of_pos->beU,natAbs_mul->beV,lt_trichotomy->beW,sign_mul->be3,mul_one->be4
open Nat renaming two_pow_pos->beX,pow_le_pow_right->beY,le_trans->be0,lt_or_ge->be1,pow_add->be2
variable{d x y:Dy}{E X Y:Int}{xs:List Nat}{g:Nat}{p q:Nat->Prop}{v va vb:Value}{w w0:World}
theorem dC(hx:DyP p w v d):
 Calls Tryz.prog 127 #[v] w (RetK w d.man.sign):=by
 obtain⟨b,A,n,c,rfl,h⟩:=hx;obtain⟨w1,hw1,hb1,hs1,b1⟩:=pro1 w (.cells #[Value.bool b,.slice A n c,.int .i64 d.exp] 197);have HB:=hdd hb1;have H1:=hdd (h.below hb1);obtain⟨c0,c1,c2,-,-,-⟩:=cells3 b1;clear h hb1 b1 hs1;go_enter Tryz.func127,Tryz.ntmps127
 go_wp2_with fail
 refine(pM H1.out).mono ?_;rintro r w3⟨rfl,hb⟩;have HF:Hid (RetK w d.man.sign (.returned (.int .i64 d.man.sign)) w3):=hdd ⟨rfl,HB.out.trans (hb.mono HB.out.size)⟩;clear hb;go_wp2;go_ret;exact HF.out
theorem ab7(h:OkL xs):bits (val xs)<=64*xs.length:=by
 rw[aI];have:=bO xs h;rwa[eX,<-Nat.pow_mul]at this
theorem qH(hx:DyP p w v d)(he:-1000000000000<=d.exp/\d.exp<=1000000000000):
 Calls Tryz.prog 129 #[v] w (RetK w (topD d)):=by
 obtain⟨b,A,n,c,rfl,h⟩:=hx;obtain⟨w1,hw1,hb1,hs1,b1⟩:=pro1 w (.cells #[Value.bool b,.slice A n c,.int .i64 d.exp] 197);have HB:=hdd hb1;have H1:=hdd (h.below hb1);obtain⟨c0,c1,c2,-,-,-⟩:=cells3 b1;clear h hb1 b1 hs1;have HDP:Hid (DyP p w1 (.agg #[.bool b,.slice A n c,.int .i64 d.exp]) d):=hdd ⟨b,A,n,c,rfl,H1.out⟩;go_enter Tryz.func129,Tryz.ntmps129
 go_wp2_with fail
 refine(dC HDP.out).mono ?_;rintro r w3⟨rfl,hb⟩;replace H1:=hdd (H1.out.below hb);replace c0:=cbl c0 hb;replace c1:=cbl c1 hb;replace c2:=cbl c2 hb;replace HB:=hdd (HB.out.trans (hb.mono HB.out.size));clear hb HDP hw1;by_cases hz:d.man=0
 . have hs:(d.man.sign==0)=true:=by rw[hz];rfl
   have HF:Hid (RetK w (topD d) (.returned (.int .i64 0)) w3):=hdd ⟨by unfold topD;rw[if_pos hz],HB.out⟩;clear hz;go_wp2;go_ret;exact HF.out
 . have hs:(d.man.sign==0)=false:=beq_eq_false_iff_ne.2 (fun h=>hz (beR.1 h))
   obtain⟨xs,hx1,-,hx3,-⟩:=H1.out.get;have HBT:=hdd (dF (hx1.below ((beS _ _).drew (w:=w3))));have hbl:bits (val xs)<=64*1099511627776:=be0 (ab7 hx1.ok) (Nat.mul_le_mul_left _ hx1.len);have hwr:IntKind.i64.wrap ((bits (val xs):Int)+d.exp)=(bits (val xs):Int)+d.exp:=wrap_i64 (by omega);have HT:Hid (topD d=bits (val xs)+d.exp):=hdd (by unfold topD;rw[if_neg hz,hx3]);clear hx1 hx3 hz;go_wp2_with fail
   go_region_held3 (fun w'=>w'.cell? ⟨w.heap.size,0,none⟩=some (.bool b)/\w'.cell? ⟨w.heap.size,1,none⟩=some (.slice A n c)/\w'.cell? ⟨w.heap.size,2,none⟩=some (.int .i64 d.exp)) (go_keep)
    (first
    |(go_at_call 155
      refine HBT.out.mono ?_;rintro e w5⟨rfl,k,hk⟩;have hb5:Below w3.heap.size w3 w5:=by rw[hk];exact(beS _ _).drew.trans (below_drewN w3.drew k)
      have c0:=cbl c0 hb5;have c1:=cbl c1 hb5;have c2:=cbl c2 hb5;have HB5:=hdd (HB.out.trans (hb5.mono HB.out.size));clear hk hb5))
   have HF:Hid (RetK w (topD d) (.returned (.int .i64 (bits (val xs)+d.exp))) _):=hdd ⟨by rw[HT.out],HB5.out⟩;go_wp2;go_ret;exact HF.out
theorem wI(hx:DyP p w v d)(hT:Tab w)(hL:bits d.man.natAbs<=1073741824)(he:-1000000000000<=d.exp/\d.exp<=1000000000000):
 Calls Tryz.prog 121 #[v] w (RetD w.heap.size w (notD d)):=by
 obtain⟨b,A,n,c,rfl,h⟩:=hx;obtain⟨w2,hw2,hb2,hs2,b1,b2⟩:=pro2 w (.cells #[Value.bool b,.slice A n c,.int .i64 d.exp] 197) (.cells #[Value.bool false,Value.slice none 0 0,.int .i64 0] 197);have HB:=hdd hb2;have H1:=hdd (h.below hb2);have HT:=hdd (hT.below hb2);have HS:=hdd hs2;have B2:=hdd b2;have HL:=hdd hL;obtain⟨c0,c1,c2,-,-,-⟩:=cells3 b1;clear h hb2 b1 hs2 b2 hT hL;go_enter Tryz.func121,Tryz.ntmps121
 go_wp2_with fail
 have HN:=hdd (amD (H1.out.below ((beS _ _).drew (w:=w2))));have n1:w.heap.size+1≠w.heap.size:=by omega
 go_region_held3 (fun w'=>w'.cell? ⟨w.heap.size,0,none⟩=some (.bool b)/\w'.cell? ⟨w.heap.size,1,none⟩=some (.slice A n c)/\w'.cell? ⟨w.heap.size,2,none⟩=some (.int .i64 d.exp)) (go_keep)
  (first
  |(go_at_call 131
    refine HN.out.mono ?_;rintro r w5⟨hb,v5,rfl,hz⟩;have HB5:Hid (Below w2.heap.size w2 w5):=hdd ((beS _ _).drew.trans hb);have c0:=cbl c0 HB5.out;have c1:=cbl c1 HB5.out;have c2:=cbl c2 HB5.out;have HMK:=hdd (dJ (e:=d.exp) hz (HT.out.below HB5.out) (by rw[Int.natAbs_neg];exact HL.out) he);clear hb hz)
  |(go_at_call 130
    refine HMK.out.mono ?_;rintro r w6⟨hb,v6,hz⟩;obtain⟨rfl,hz⟩:=hz;obtain⟨b6,A6,n6,c6,rfl,-⟩:=id hz;have c0:=cbl c0 hb;have c1:=cbl c1 hb;have c2:=cbl c2 hb;have HSZ:=hdd HB5.out.size;have HB5:=hdd (HB5.out.trans (hb.mono HB5.out.size));have HF:=hdd hz;have B25:=hdd (hbl B2.out HB5.out);obtain⟨e0,e1,e2,e3,e4,e5⟩:=cells3 B25.out;clear hb hz))
 obtain⟨HFF,hFF⟩:=aQ (HB.out.trans (HB5.out.mono HB.out.size)) (g:=w.heap.size+1) (by omega) B25.out HF.out (fun b hb=>by have:=HS.out;have:=HSZ.out;omega);replace hFF:=hdd hFF;replace HFF:Hid (RetD w.heap.size w (notD d) _ _):=HFF;go_wp2;obtain⟨f0,f1,f2,-,-,-⟩:=cells3 hFF.out;refine bodyPost_ret (v:=.agg #[_,_,_]) (by simp[results,Tryz.results121,go_sem,f0,f1,f2];first|exact⟨rfl,rfl,rfl⟩|rfl) rfl ?_;exact HFF.out
theorem sM(a b:Nat):bits (a*b)<=bits a+bits b:=by
 rw[aI];have e3:=Nat.mul_lt_mul'' (bT a) (bT b);rwa[<-be2]at e3
theorem ak1(hx:DyP p w va x)(hy:DyP q w vb y)(hT:Tab w)
 (hL:bits x.man.natAbs+bits y.man.natAbs<=1073741823) (he:-100000000000<=x.exp/\x.exp<=100000000000) (he':-100000000000<=y.exp/\y.exp<=100000000000):
 Calls Tryz.prog 187 #[va,vb] w (RetD w.heap.size w (mulD x y)):=by
 obtain⟨ba,A,n,c,rfl,h⟩:=hx;obtain⟨bb,A',n',c',rfl,h'⟩:=hy;obtain⟨w3,hw3,hb3,hs3,b1,b2,b3⟩:=pro3 w (.cells #[Value.bool ba,.slice A n c,.int .i64 x.exp] 197) (.cells #[Value.bool bb,.slice A' n' c',.int .i64 y.exp] 197) (.cells #[Value.bool false,Value.slice none 0 0,.int .i64 0] 197);have HB:=hdd hb3;have H1:=hdd (h.below hb3);have H2:=hdd (h'.below hb3);have HT:=hdd (hT.below hb3);have HS:=hdd hs3;have B3:=hdd b3;obtain⟨c0,c1,c2,-,-,-⟩:=cells3 b1;obtain⟨d0,d1,d2,-,-,-⟩:=cells3 b2;have hwr:IntKind.i64.wrap (x.exp+y.exp)=x.exp+y.exp:=wrap_i64 (by omega);have HLM:Hid (bits (x.man*y.man).natAbs<=1073741824):=hdd (by
  rw[beV];have:=sM x.man.natAbs y.man.natAbs;omega)
 have HL:=hdd hL;have HE:Hid (-1000000000000<=x.exp+y.exp/\x.exp+y.exp<=1000000000000):=hdd (by omega);clear h h' hb3 b1 b2 b3 hs3 hT hL he he';go_enter Tryz.func187,Tryz.ntmps187
 go_wp2_with fail
 have HBA:Hid (Below w3.heap.size w3 (w3.alloc (.cells #[Value.bool bb,.slice A' n' c'] 195)).drew):=hdd ((beS _ _).alloc nlr _).drew;have HBA2:Hid ((w3.alloc (.cells #[Value.bool bb,.slice A' n' c'] 195)).drew.heap[w3.heap.size]? =some (.cells #[Value.bool bb,.slice A' n' c'] 195 (0,0))):=hdd (heap_alloc_new w3 _);have HMU:=hdd (ai5 (H1.out.below HBA.out) HBA2.out (H2.out.below HBA.out) (by have:=HL.out;omega));have n1:w.heap.size+1+1≠w.heap.size:=by omega
 have n2:w.heap.size+1+1≠w.heap.size+1:=by omega
 go_region_held3 (fun w'=>w'.cell? ⟨w.heap.size,0,none⟩=some (.bool ba)/\w'.cell? ⟨w.heap.size,1,none⟩=some (.slice A n c)/\w'.cell? ⟨w.heap.size,2,none⟩=some (.int .i64 x.exp)/\w'.cell? ⟨w.heap.size+1,0,none⟩=some (.bool bb)/\w'.cell? ⟨w.heap.size+1,1,none⟩=some (.slice A' n' c')/\w'.cell? ⟨w.heap.size+1,2,none⟩=some (.int .i64 y.exp)) (go_keep)
  (first
  |(go_at_call 203
    refine HMU.out.mono ?_;rintro r w5⟨hb,v5,rfl,hz⟩;have HB5:Hid (Below w3.heap.size w3 w5):=hdd (HBA.out.trans (hb.mono HBA.out.size));have c0:=cbl c0 HB5.out;have c1:=cbl c1 HB5.out;have c2:=cbl c2 HB5.out;have d0:=cbl d0 HB5.out;have d1:=cbl d1 HB5.out;have d2:=cbl d2 HB5.out;have HMK:=hdd (dJ (e:=x.exp+y.exp) hz (HT.out.below HB5.out) HLM.out HE.out);clear hb hz)
  |(go_at_call 130
    refine HMK.out.mono ?_;rintro r w6⟨hb,v6,hz⟩;obtain⟨rfl,hz⟩:=hz;obtain⟨b6,A6,n6,c6,rfl,-⟩:=id hz;have c0:=cbl c0 hb;have c1:=cbl c1 hb;have c2:=cbl c2 hb;have d0:=cbl d0 hb;have d1:=cbl d1 hb;have d2:=cbl d2 hb;have HSZ:=hdd HB5.out.size;have HB5:=hdd (HB5.out.trans (hb.mono HB5.out.size));have HF:=hdd hz;have B35:=hdd (hbl B3.out HB5.out);obtain⟨e0,e1,e2,e3,e4,e5⟩:=cells3 B35.out;clear hb hz))
 obtain⟨HFF,hFF⟩:=aQ (HB.out.trans (HB5.out.mono HB.out.size)) (g:=w.heap.size+2) (by omega) B35.out HF.out (fun b hb=>by have:=HS.out;have:=HSZ.out;omega);replace hFF:=hdd hFF;replace HFF:Hid (RetD w.heap.size w (mulD x y) _ _):=HFF;go_wp2;obtain⟨f0,f1,f2,-,-,-⟩:=cells3 hFF.out;refine bodyPost_ret (v:=.agg #[_,_,_]) (by simp[results,Tryz.results187,go_sem,f0,f1,f2];first|exact⟨rfl,rfl,rfl⟩|rfl) rfl ?_;exact HFF.out
def RetA(w0:World)(X Y E:Int)(e:Ending)(w':World):Prop:=
 Below w0.heap.size w0 w'/\∃b1 A1 n1 c1 b2 A2 n2 c2,e=.returned (.tuple #[.agg #[.bool b1,.slice A1 n1 c1],.agg #[.bool b2,.slice A2 n2 c2],.int .i64 E])/\
  IntP AnyB w' (.agg #[.bool b1,.slice A1 n1 c1]) X/\IntP AnyB w' (.agg #[.bool b2,.slice A2 n2 c2]) Y
theorem IntP.any {z:Int}(h:IntP p w v z):IntP AnyB w v z:=h.weak fun _ _ _=>trivial
theorem wJ{w1:World}{T T':TypeId}{a b c d u1 m1 u2 m2:Value}{b1 b2:Bool}{A1 A2:Option Addr}{n1 n2 c1 c2:Nat}(hb:Below w0.heap.size w0 w1)(hg:w0.heap.size<=g)
 (hw:w1.heap[g]? =some (.cells #[a,b] T (0,0))) (hw':w1.heap[g+1]? =some (.cells #[c,d] T' (0,0)))
 (e1:u1=.bool b1) (e2:m1=.slice A1 n1 c1) (e3:u2=.bool b2) (e4:m2=.slice A2 n2 c2) {q:Nat->Prop} (hq:∀b,q b->b≠g/\b≠g+1)
 (h1:IntP q w1 (.agg #[.bool b1,.slice A1 n1 c1]) X) (h2:IntP q w1 (.agg #[.bool b2,.slice A2 n2 c2]) Y):
 Hid (RetA w0 X Y E (.returned (.tuple #[.agg #[u1,m1],.agg #[u2,m2],.int .i64 E])) ((((w1.setCell ⟨g,0,none⟩ u1).setCell ⟨g,1,none⟩ m1).setCell ⟨g+1,0,none⟩ u2).setCell ⟨g+1,1,none⟩ m2))/\
 ((((w1.setCell ⟨g,0,none⟩ u1).setCell ⟨g,1,none⟩ m1).setCell ⟨g+1,0,none⟩ u2).setCell ⟨g+1,1,none⟩ m2).heap[g]? =some (.cells #[u1,m1] T (0,0))/\
 ((((w1.setCell ⟨g,0,none⟩ u1).setCell ⟨g,1,none⟩ m1).setCell ⟨g+1,0,none⟩ u2).setCell ⟨g+1,1,none⟩ m2).heap[g+1]? =some (.cells #[u2,m2] T' (0,0)):=by
 subst e1 e2 e3 e4;have f1:((w1.setCell ⟨g,0,none⟩ (.bool b1)).setCell ⟨g,1,none⟩ (.slice A1 n1 c1)).heap[g+1]? =some (.cells #[c,d] T' (0,0)):=by
  rw[beQ _ _ _ _ (by simp),beQ _ _ _ _ (by simp)];exact hw'
 refine⟨hdd ⟨(((hb.setCell hg _).setCell hg _).setCell (by simp;omega) _).setCell (by simp;omega) _,b1,A1,n1,c1,b2,A2,n2,c2,rfl,?_,?_⟩,?_,set2 f1 _ _⟩
 . exact((((h1.setCell (fun b hb=>(hq b hb).1) _).setCell (fun b hb=>(hq b hb).1) _).setCell (fun b hb=>(hq b hb).2) _).setCell (fun b hb=>(hq b hb).2) _).any
 . exact((((h2.setCell (fun b hb=>(hq b hb).1) _).setCell (fun b hb=>(hq b hb).1) _).setCell (fun b hb=>(hq b hb).2) _).setCell (fun b hb=>(hq b hb).2) _).any
 . rw[beQ _ _ _ _ (by simp),beQ _ _ _ _ (by simp)];exact set2 hw _ _
theorem yU{w':World}{X' Y' E':Int}{e:Ending}(h:RetA w0 X Y E e w')(hX:X=X')(hY:Y=Y')(hE:E=E'):RetA w0 X' Y' E' e w':=by subst hX hY hE;exact h
theorem gT(hx:OkL xs)(ht:Tr xs)(h:bits (val xs)<=134217728):xs.length<=1000000000:=by
 have:=bK xs hx ht;omega
theorem yV(hx:DyP p w va x)(hy:DyP q w vb y)(hp:∀b,p b->b<w.heap.size)(hq:∀b,q b->b<w.heap.size)
 (hLx:bits x.man.natAbs<=134217728) (hLy:bits y.man.natAbs<=134217728) (he:-67108864<=x.exp/\x.exp<=67108864) (he':-67108864<=y.exp/\y.exp<=67108864):
 Calls Tryz.prog 198 #[va,vb] w (RetA w (dQ x y) (dR x y) (min x.exp y.exp)):=by
 obtain⟨ba,A,n,c,rfl,h⟩:=hx;obtain⟨bb,A',n',c',rfl,h'⟩:=hy;obtain⟨w4,hw4,hb4,hs4,b1,b2,b3,b4⟩:=pro4 w (.cells #[Value.bool ba,.slice A n c,.int .i64 x.exp] 197) (.cells #[Value.bool bb,.slice A' n' c',.int .i64 y.exp] 197) (.cells #[Value.bool false,Value.slice none 0 0] 195) (.cells #[Value.bool false,Value.slice none 0 0] 195);have HB:=hdd hb4;have H1:=hdd (h.below hb4);have H2:=hdd (h'.below hb4);have HS:=hdd hs4;have B3:=hdd b3;have B4:=hdd b4;have HP:=hdd hp;have HQ:=hdd hq;obtain⟨c0,c1,c2,-,-,-⟩:=cells3 b1;obtain⟨d0,d1,d2,-,-,-⟩:=cells3 b2;clear h h' hb4 b1 b2 b3 b4 hs4 hp hq;by_cases hle:x.exp<=y.exp
 . obtain⟨d,hd⟩:∃d:Nat,(d:Int)=y.exp-x.exp:=⟨(y.exp-x.exp).toNat,by omega⟩
   have hwr:IntKind.i64.wrap (y.exp-x.exp)=(d:Int):=by rw[wrap_i64 (by omega)];omega
   obtain⟨ys,hy1,hy2,hy3,hy4⟩:=H2.out.get;have HRG:=hdd (iL (n:=d) (hy1.below ((beS _ _).drew (w:=w4))) (by omega) (gT hy1.ok hy2 (by rw[hy3];exact hLy)));have HFX:Hid (dQ x y=x.man):=hdd (by unfold dQ;rw[if_pos hle]);have HFY:Hid (dR x y=sg bb (val ys*2^d)):=hdd (by
    unfold dR;rw[if_pos hle,hy3,lW,hy4,mJ];have:(y.exp-x.exp).toNat=d:=by omega
    rw[this])
   have HM:Hid (min x.exp y.exp=x.exp):=hdd (by omega);have hled:=hle;clear hy1 hy2 hy3 hy4 hLx hLy he he' hd;go_enter Tryz.func198,Tryz.ntmps198
   go_wp2_with fail
   have n1:w.heap.size+1+1≠w.heap.size:=by omega
   have n2:w.heap.size+1+1≠w.heap.size+1:=by omega
   have n3:w.heap.size+1+1+1≠w.heap.size:=by omega
   have n4:w.heap.size+1+1+1≠w.heap.size+1:=by omega
   go_region_held3 (fun w'=>w'.cell? ⟨w.heap.size,0,none⟩=some (.bool ba)/\w'.cell? ⟨w.heap.size,1,none⟩=some (.slice A n c)/\w'.cell? ⟨w.heap.size,2,none⟩=some (.int .i64 x.exp)/\w'.cell? ⟨w.heap.size+1,0,none⟩=some (.bool bb)/\w'.cell? ⟨w.heap.size+1,1,none⟩=some (.slice A' n' c')/\w'.cell? ⟨w.heap.size+1,2,none⟩=some (.int .i64 y.exp)) (go_keep)
    (first
    |(go_at_call 205
      refine HRG.out.mono ?_;rintro r w5⟨hb,v5,zs,rfl,hz,tz,hvz⟩;have HB5:Hid (Below w4.heap.size w4 w5):=hdd ((beS _ _).drew.trans hb);have c0:=cbl c0 HB5.out;have c1:=cbl c1 HB5.out;have c2:=cbl c2 HB5.out;have d0:=cbl d0 HB5.out;have d1:=cbl d1 HB5.out;have d2:=cbl d2 HB5.out;have HMK:=hdd (dL (b:=bb) hz);have HVZ:=hdd hvz;clear hb hz tz hvz)
    |(go_at_call 157
      refine HMK.out.mono ?_;rintro r w6⟨hb,v6,hz⟩;obtain⟨rfl,hz⟩:=hz;obtain⟨b6,A6,n6,c6,rfl⟩:=hz.shape;have c0:=cbl c0 hb;have c1:=cbl c1 hb;have c2:=cbl c2 hb;have d0:=cbl d0 hb;have d1:=cbl d1 hb;have d2:=cbl d2 hb;have HSZ:=hdd HB5.out.size;have HB5:=hdd (HB5.out.trans (hb.mono HB5.out.size));have HF:=hdd hz;have B35:=hdd (hbl B3.out HB5.out);have B45:=hdd (hbl B4.out HB5.out);obtain⟨e0,e1,e2,e3⟩:=aC B35.out;obtain⟨f0,f1,f2,f3⟩:=aC B45.out;clear hb hz))
   have HSS:=HS.out;have hszz:=HSZ.out;have hX:IntP (fun b=>b≠w.heap.size+2/\b≠w.heap.size+2+1) _ (.agg #[.bool ba,.slice A n c]) x.man:=(H1.out.below HB5.out).weak fun b hb _=>by have:=HP.out b hb;omega
   have hY:IntP (fun b=>b≠w.heap.size+2/\b≠w.heap.size+2+1) _ (.agg #[.bool b6,.slice A6 n6 c6]) (sg bb (val zs)):=HF.out.weak fun b hb _=>by omega
   obtain⟨HFF,hF1,hF2⟩:=wJ (E:=x.exp) (HB.out.trans (HB5.out.mono HB.out.size)) (g:=w.heap.size+2) (by omega) B35.out B45.out rfl rfl rfl rfl (fun b hb=>hb) hX hY;replace hF1:=hdd hF1;replace hF2:=hdd hF2;clear hX hY HSS hszz n1 n2 n3 n4;go_wp2;obtain⟨r0,r1,-,-⟩:=aC hF1.out;obtain⟨r2,r3,-,-⟩:=aC hF2.out;refine bodyPost_ret (v:=.tuple #[.agg #[_,_],.agg #[_,_],_]) (by simp[results,Tryz.results198,go_sem,r0,r1,r2,r3];first|exact⟨⟨rfl,rfl⟩,⟨rfl,rfl⟩,rfl⟩|rfl) rfl ?_;exact yU HFF.out HFX.out.symm (by rw[HVZ.out,HFY.out]) HM.out.symm
 . obtain⟨d,hd⟩:∃d:Nat,(d:Int)=x.exp-y.exp:=⟨(x.exp-y.exp).toNat,by omega⟩
   have hwr:IntKind.i64.wrap (x.exp-y.exp)=(d:Int):=by rw[wrap_i64 (by omega)];omega
   obtain⟨ys,hy1,hy2,hy3,hy4⟩:=H1.out.get;have HRG:=hdd (iL (n:=d) (hy1.below ((beS _ _).drew (w:=w4))) (by omega) (gT hy1.ok hy2 (by rw[hy3];exact hLx)));have HFY:Hid (dR x y=y.man):=hdd (by unfold dR;rw[if_neg hle]);have HFX:Hid (dQ x y=sg ba (val ys*2^d)):=hdd (by
    unfold dQ;rw[if_neg hle,hy3,lW,hy4,mJ];have:(x.exp-y.exp).toNat=d:=by omega
    rw[this])
   have HM:Hid (min x.exp y.exp=y.exp):=hdd (by omega);have hled:=hle;clear hy1 hy2 hy3 hy4 hLx hLy he he' hd;go_enter Tryz.func198,Tryz.ntmps198
   go_wp2_with fail
   have n1:w.heap.size+1+1≠w.heap.size:=by omega
   have n2:w.heap.size+1+1≠w.heap.size+1:=by omega
   have n3:w.heap.size+1+1+1≠w.heap.size:=by omega
   have n4:w.heap.size+1+1+1≠w.heap.size+1:=by omega
   go_region_held3 (fun w'=>w'.cell? ⟨w.heap.size,0,none⟩=some (.bool ba)/\w'.cell? ⟨w.heap.size,1,none⟩=some (.slice A n c)/\w'.cell? ⟨w.heap.size,2,none⟩=some (.int .i64 x.exp)/\w'.cell? ⟨w.heap.size+1,0,none⟩=some (.bool bb)/\w'.cell? ⟨w.heap.size+1,1,none⟩=some (.slice A' n' c')/\w'.cell? ⟨w.heap.size+1,2,none⟩=some (.int .i64 y.exp)) (go_keep)
    (first
    |(go_at_call 205
      refine HRG.out.mono ?_;rintro r w5⟨hb,v5,zs,rfl,hz,tz,hvz⟩;have HB5:Hid (Below w4.heap.size w4 w5):=hdd ((beS _ _).drew.trans hb);have c0:=cbl c0 HB5.out;have c1:=cbl c1 HB5.out;have c2:=cbl c2 HB5.out;have d0:=cbl d0 HB5.out;have d1:=cbl d1 HB5.out;have d2:=cbl d2 HB5.out;have HMK:=hdd (dL (b:=ba) hz);have HVZ:=hdd hvz;clear hb hz tz hvz)
    |(go_at_call 157
      refine HMK.out.mono ?_;rintro r w6⟨hb,v6,hz⟩;obtain⟨rfl,hz⟩:=hz;obtain⟨b6,A6,n6,c6,rfl⟩:=hz.shape;have c0:=cbl c0 hb;have c1:=cbl c1 hb;have c2:=cbl c2 hb;have d0:=cbl d0 hb;have d1:=cbl d1 hb;have d2:=cbl d2 hb;have HSZ:=hdd HB5.out.size;have HB5:=hdd (HB5.out.trans (hb.mono HB5.out.size));have HF:=hdd hz;have B35:=hdd (hbl B3.out HB5.out);have B45:=hdd (hbl B4.out HB5.out);obtain⟨e0,e1,e2,e3⟩:=aC B35.out;obtain⟨f0,f1,f2,f3⟩:=aC B45.out;clear hb hz))
   have HSS:=HS.out;have hszz:=HSZ.out;have hX:IntP (fun b=>b≠w.heap.size+2/\b≠w.heap.size+2+1) _ (.agg #[.bool b6,.slice A6 n6 c6]) (sg ba (val zs)):=HF.out.weak fun b hb _=>by omega
   have hY:IntP (fun b=>b≠w.heap.size+2/\b≠w.heap.size+2+1) _ (.agg #[.bool bb,.slice A' n' c']) y.man:=(H2.out.below HB5.out).weak fun b hb _=>by have:=HQ.out b hb;omega
   obtain⟨HFF,hF1,hF2⟩:=wJ (E:=y.exp) (HB.out.trans (HB5.out.mono HB.out.size)) (g:=w.heap.size+2) (by omega) B35.out B45.out rfl rfl rfl rfl (fun b hb=>hb) hX hY;replace hF1:=hdd hF1;replace hF2:=hdd hF2;clear hX hY HSS hszz n1 n2 n3 n4;go_wp2;obtain⟨r0,r1,-,-⟩:=aC hF1.out;obtain⟨r2,r3,-,-⟩:=aC hF2.out;refine bodyPost_ret (v:=.tuple #[.agg #[_,_],.agg #[_,_],_]) (by simp[results,Tryz.results198,go_sem,r0,r1,r2,r3];first|exact⟨⟨rfl,rfl⟩,⟨rfl,rfl⟩,rfl⟩|rfl) rfl ?_;exact yU HFF.out (by rw[HVZ.out,HFX.out]) HFY.out.symm HM.out.symm
theorem dY(n k:Nat):bits (n*2^k)<=bits n+k:=by
 rw[aI,be2];exact Nat.mul_lt_mul_of_pos_right (bT n) (beX k)
theorem sN(m n:Nat):bits (m+n)<=bits m+bits n+1:=by
 rw[aI];have h1:=bT m;have h2:=bT n;have h3:2^bits m<=2^(bits m+bits n):=beY (by omega) (by omega);have h4:2^bits n<=2^(bits m+bits n):=beY (by omega) (by omega);rw[Nat.pow_succ];omega
def SmD(d:Dy):Prop:=bits d.man.natAbs<=134217728/\-67108864<=d.exp/\d.exp<=67108864
theorem ab8(hx:SmD x)(hy:SmD y):bits (dQ x y).natAbs<=268435456:=by
 obtain⟨h1,h2,h3⟩:=hx;obtain⟨k1,k2,k3⟩:=hy;rw[iN,beV,beT];have:=dY x.man.natAbs (x.exp-min x.exp y.exp).toNat;omega
theorem ab9(hx:SmD x)(hy:SmD y):bits (dR x y).natAbs<=268435456:=by
 obtain⟨h1,h2,h3⟩:=hx;obtain⟨k1,k2,k3⟩:=hy;rw[iO,beV,beT];have:=dY y.man.natAbs (y.exp-min x.exp y.exp).toNat;omega
theorem ak2{x y:Int}(hx:bits x.natAbs<=268435456)(hy:bits y.natAbs<=268435456):bits (x+y).natAbs<=1073741824:=by
 have h1:bits (x+y).natAbs<=bits (x.natAbs+y.natAbs):=dA (by omega);have:=sN x.natAbs y.natAbs;omega
theorem acA(hx:DyP p w va x)(hy:DyP q w vb y)(hT:Tab w)(hp:∀b,p b->b<w.heap.size)(hq:∀b,q b->b<w.heap.size)(sx:SmD x)(sy:SmD y):
 Calls Tryz.prog 185 #[va,vb] w (RetD w.heap.size w (addD x y)):=by
 obtain⟨ba,A,n,c,rfl,h⟩:=hx;obtain⟨bb,A',n',c',rfl,h'⟩:=hy;obtain⟨w3,hw3,hb3,hs3,b1,b2,b3⟩:=pro3 w (.cells #[Value.bool ba,.slice A n c,.int .i64 x.exp] 197) (.cells #[Value.bool bb,.slice A' n' c',.int .i64 y.exp] 197) (.cells #[Value.bool false,Value.slice none 0 0,.int .i64 0] 197);have HB:=hdd hb3;have H1:=hdd (h.below hb3);have H2:=hdd (h'.below hb3);have HT:=hdd (hT.below hb3);have HS:=hdd hs3;have B3:=hdd b3;have HP:=hdd hp;have HQ:=hdd hq;have SX:=hdd sx;have SY:=hdd sy;obtain⟨c0,c1,c2,-,-,-⟩:=cells3 b1;obtain⟨d0,d1,d2,-,-,-⟩:=cells3 b2;have D1:Hid (DyP p w3 (.agg #[.bool ba,.slice A n c,.int .i64 x.exp]) x):=hdd ⟨_,_,_,_,rfl,H1.out⟩;have D2:Hid (DyP q w3 (.agg #[.bool bb,.slice A' n' c',.int .i64 y.exp]) y):=hdd ⟨_,_,_,_,rfl,H2.out⟩;have HSZ3:Hid (w3.heap.size<=w3.heap.size):=hdd nlr;clear h h' hb3 b1 b2 b3 hs3 hT hp hq sx sy;go_enter Tryz.func185,Tryz.ntmps185
 go_wp2_with fail
 refine(dC D1.out).mono ?_;rintro r w4⟨rfl,hb⟩;replace c0:=cbl c0 hb;replace c1:=cbl c1 hb;replace c2:=cbl c2 hb;replace d0:=cbl d0 hb;replace d1:=cbl d1 hb;replace d2:=cbl d2 hb;replace HB:=hdd (HB.out.trans (hb.mono HB.out.size));replace D1:=hdd (D1.out.below hb);replace D2:=hdd (D2.out.below hb);replace HT:=hdd (HT.out.below hb);replace H1:=hdd (H1.out.below hb);replace H2:=hdd (H2.out.below hb);replace B3:=hdd (hbl B3.out hb);have HS4:=hdd hb.size;clear hb hw3;by_cases hz:x.man=0
 . have hs:(x.man.sign==0)=true:=by rw[hz];rfl
   have HADD:Hid (addD x y=mkDy y.man y.exp):=hdd (by unfold addD;rw[if_pos hz]);clear hz;have HMK:=hdd (dJ (e:=y.exp) H2.out HT.out (by have:=SY.out.1;omega) (by have:=SY.out.2;omega));go_wp2_with fail
   refine HMK.out.mono ?_;rintro r w5⟨hb,v5,rfl,hz⟩;obtain⟨b6,A6,n6,c6,rfl,-⟩:=id hz;have B35:=hbl B3.out hb;obtain⟨e0,e1,e2,e3,e4,e5⟩:=cells3 B35;obtain⟨HFF,hFF⟩:=aQ (HB.out.trans (hb.mono HB.out.size)) (g:=w.heap.size+2) (by omega) B35 hz (fun b hb=>by have:=HS.out;have:=HS4.out;omega);replace hFF:=hdd hFF;clear hz hb B35 c0 c1 c2 d0 d1 d2;go_wp2;obtain⟨f0,f1,f2,-,-,-⟩:=cells3 hFF.out;refine bodyPost_ret (v:=.agg #[_,_,_]) (by simp[results,Tryz.results185,go_sem,f0,f1,f2];first|exact⟨rfl,rfl,rfl⟩|rfl) rfl ?_;rw[HADD.out];exact HFF.out
 . have hs:(x.man.sign==0)=false:=beq_eq_false_iff_ne.2 (fun h=>hz (beR.1 h))
   have HZ:=hdd hz;clear hz;go_wp2_with fail
   refine(dC D2.out).mono ?_;rintro r w5⟨rfl,hb⟩;replace c0:=cbl c0 hb;replace c1:=cbl c1 hb;replace c2:=cbl c2 hb;replace d0:=cbl d0 hb;replace d1:=cbl d1 hb;replace d2:=cbl d2 hb;replace HB:=hdd (HB.out.trans (hb.mono HB.out.size));replace D1:=hdd (D1.out.below hb);replace D2:=hdd (D2.out.below hb);replace HT:=hdd (HT.out.below hb);replace H1:=hdd (H1.out.below hb);replace H2:=hdd (H2.out.below hb);replace B3:=hdd (hbl B3.out hb);replace HS4:=hdd (be0 HS4.out hb.size);clear hb;by_cases hz:y.man=0
   . have hs2:(y.man.sign==0)=true:=by rw[hz];rfl
     have HADD:Hid (addD x y=mkDy x.man x.exp):=hdd (by unfold addD;rw[if_neg HZ.out,if_pos hz]);clear hz;have HMK:=hdd (dJ (e:=x.exp) H1.out HT.out (by have:=SX.out.1;omega) (by have:=SX.out.2;omega));go_wp2_with fail
     refine HMK.out.mono ?_;rintro r w6⟨hb,v5,rfl,hz⟩;obtain⟨b6,A6,n6,c6,rfl,-⟩:=id hz;have B35:=hbl B3.out hb;obtain⟨e0,e1,e2,e3,e4,e5⟩:=cells3 B35;obtain⟨HFF,hFF⟩:=aQ (HB.out.trans (hb.mono HB.out.size)) (g:=w.heap.size+2) (by omega) B35 hz (fun b hb=>by have:=HS.out;have:=HS4.out;omega);replace hFF:=hdd hFF;clear hz hb B35 c0 c1 c2 d0 d1 d2;go_wp2;obtain⟨f0,f1,f2,-,-,-⟩:=cells3 hFF.out;refine bodyPost_ret (v:=.agg #[_,_,_]) (by simp[results,Tryz.results185,go_sem,f0,f1,f2];first|exact⟨rfl,rfl,rfl⟩|rfl) rfl ?_;rw[HADD.out];exact HFF.out
   . have hs2:(y.man.sign==0)=false:=beq_eq_false_iff_ne.2 (fun h=>hz (beR.1 h))
     have HADD:Hid (addD x y=mkDy (dQ x y+dR x y) (min x.exp y.exp)):=hdd (by unfold addD;rw[if_neg HZ.out,if_neg hz]);clear hz;have HAL:=hdd (yV D1.out D2.out (fun b hb=>by have:=HP.out b hb;have:=HB.out.size;omega) (fun b hb=>by have:=HQ.out b hb;have:=HB.out.size;omega) SX.out.1 SY.out.1 SX.out.2 SY.out.2);have BA:=hdd (ab8 SX.out SY.out);have BB:=hdd (ab9 SX.out SY.out);have HE:Hid (-1000000000000<=min x.exp y.exp/\min x.exp y.exp<=1000000000000):=hdd (by have:=SX.out.2;have:=SY.out.2;omega);generalize dQ x y=X at*;generalize dR x y=Y at*;generalize min x.exp y.exp=E at*;go_wp2_with fail
     refine HAL.out.mono ?_;rintro r w6⟨hb,u1,U1,m1,k1,u2,U2,m2,k2,rfl,hX,hY⟩;have hX':=hX.weak (q:=fun b=>b<w6.heap.size) fun b _ h=>h;have hY':=hY.weak (q:=fun b=>b<w6.heap.size) fun b _ h=>h;replace HB:=hdd (HB.out.trans (hb.mono HB.out.size));replace HT:=hdd (HT.out.below hb);replace B3:=hdd (hbl B3.out hb);replace HS4:=hdd (be0 HS4.out hb.size);obtain⟨w8,hw8,hb8,hs8,q1,q2⟩:=pro2 w6 (.cells #[Value.bool false,Value.slice none 0 0] 195) (.cells #[Value.bool false,Value.slice none 0 0] 195);obtain⟨g0,g1,g2,g3⟩:=aC q1;obtain⟨i0,i1,i2,i3⟩:=aC q2;clear c0 c1 c2 d0 d1 d2 D1 D2 H1 H2;have r1:=set2 q1 (.bool u1) (.slice U1 m1 k1);have q2':((w8.setCell ⟨w6.heap.size,0,none⟩ (.bool u1)).setCell ⟨w6.heap.size,1,none⟩ (.slice U1 m1 k1)).heap[w6.heap.size+1]? =some (.cells #[Value.bool false,Value.slice none 0 0] 195 (0,0)):=by
      rw[beQ _ _ _ _ (by simp),beQ _ _ _ _ (by simp)];exact q2
     have r2:=set2 q2' (.bool u2) (.slice U2 m2 k2);have r1':((((w8.setCell ⟨w6.heap.size,0,none⟩ (.bool u1)).setCell ⟨w6.heap.size,1,none⟩ (.slice U1 m1 k1)).setCell ⟨w6.heap.size+1,0,none⟩ (.bool u2)).setCell ⟨w6.heap.size+1,1,none⟩ (.slice U2 m2 k2)).heap[w6.heap.size]? =some (.cells #[.bool u1,.slice U1 m1 k1] 195 (0,0)):=by
      rw[beQ _ _ _ _ (by simp),beQ _ _ _ _ (by simp)];exact r1
     have hbb:Below w6.heap.size w6 ((((w8.setCell ⟨w6.heap.size,0,none⟩ (.bool u1)).setCell ⟨w6.heap.size,1,none⟩ (.slice U1 m1 k1)).setCell ⟨w6.heap.size+1,0,none⟩ (.bool u2)).setCell ⟨w6.heap.size+1,1,none⟩ (.slice U2 m2 k2)):=(((hb8.setCell (by simp) _).setCell (by simp) _).setCell (by simp) _).setCell (by simp) _;have HXX:=hdd (hX'.below hbb);have HYY:=hdd (hY'.below hbb);have HBB:=hdd hbb;have HR1:=hdd r1';have HR2:=hdd r2;clear hX hY hX' hY' hb hb8 hs8 q1 q2 q2' r1 r1' r2 hbb;obtain⟨w9,hw9,hb9,hs9,q9⟩:=pro1 ((((w8.setCell ⟨w6.heap.size,0,none⟩ (.bool u1)).setCell ⟨w6.heap.size,1,none⟩ (.slice U1 m1 k1)).setCell ⟨w6.heap.size+1,0,none⟩ (.bool u2)).setCell ⟨w6.heap.size+1,1,none⟩ (.slice U2 m2 k2)) (.cells #[.bool u2,.slice U2 m2 k2] 195);have hsz8:((((w8.setCell ⟨w6.heap.size,0,none⟩ (.bool u1)).setCell ⟨w6.heap.size,1,none⟩ (.slice U1 m1 k1)).setCell ⟨w6.heap.size+1,0,none⟩ (.bool u2)).setCell ⟨w6.heap.size+1,1,none⟩ (.slice U2 m2 k2)).heap.size=w8.heap.size:=by simp[World.setCell]
     rw[hsz8]at hb9 hs9 q9;obtain⟨j0,j1,-,-⟩:=aC HR1.out;obtain⟨l0,l1,-,-⟩:=aC HR2.out;have hb69:=HBB.out.trans (hb9.mono (by have:=HBB.out.size;omega));have HADDI:=hdd (ai4 (HXX.out.below (by rw[hsz8];exact hb9)) q9 (HYY.out.below (by rw[hsz8];exact hb9)) (by have:=BA.out;have:=BB.out;omega));have HB9:=hdd hb69;clear hb9 hs9 q9 hb69 HXX HYY HBB HR1 HR2;go_wp2_with fail
     refine HADDI.out.mono ?_;rintro r w10⟨hb,v10,rfl,hz⟩;replace HB9:=hdd (HB9.out.trans (hb.mono HB9.out.size));have HSZ:=hdd hb.size;have HMK:=hdd (dJ (e:=E) hz (HT.out.below HB9.out) (ak2 BA.out BB.out) HE.out);clear hb hz g0 g1 g2 g3 i0 i1 i2 i3 j0 j1 l0 l1 hw8 hw9 hsz8;go_wp2_with fail
     refine HMK.out.mono ?_;rintro r w11⟨hb,v5,rfl,hz⟩;obtain⟨b6,A6,n6,c6,rfl,-⟩:=id hz;have hb9:=HB9.out.trans (hb.mono HB9.out.size);have B35:=hbl B3.out hb9;obtain⟨e0,e1,e2,e3,e4,e5⟩:=cells3 B35;obtain⟨HFF,hFF⟩:=aQ (HB.out.trans (hb9.mono HB.out.size)) (g:=w.heap.size+2) (by omega) B35 hz (fun b hb=>by have:=HS.out;have:=HS4.out;have:=HB9.out.size;omega);replace hFF:=hdd hFF;clear hz hb B35 hb9;go_wp2;obtain⟨f0,f1,f2,-,-,-⟩:=cells3 hFF.out;refine bodyPost_ret (v:=.agg #[_,_,_]) (by simp[results,Tryz.results185,go_sem,f0,f1,f2];first|exact⟨rfl,rfl,rfl⟩|rfl) rfl ?_;rw[HADD.out];exact HFF.out
theorem kF{n:Nat}(hn:n≠0)(k:Nat):bits (n*2^k)=bits n+k:=by
 refine Nat.le_antisymm (dY n k) ?_;rcases be1 (bits (n*2^k)) (bits n+k)with h|h
 . exfalso
   have hb:bits n≠0:=fun h'=>hn ((bU _).1 h');have h1:=(aI (n*2^k) (bits n-1+k)).1 (by omega);rw[be2]at h1;have h2:=fA n hn;have:=Nat.mul_le_mul_right (2^k) h2;omega
 . exact h
theorem fO(x y:Dy):(dQ x y).sign=x.man.sign:=by
 have:=beX (x.exp-min x.exp y.exp).toNat;rw[iN,be3,beU (a:=((2^(x.exp-min x.exp y.exp).toNat:Nat):Int)) (by omega),be4]
theorem iZ(x y:Dy):(dR x y).sign=y.man.sign:=by
 have:=beX (y.exp-min x.exp y.exp).toNat;rw[iO,be3,beU (a:=((2^(y.exp-min x.exp y.exp).toNat:Nat):Int)) (by omega),be4]
theorem yX(hx:x.man≠0):topD x-min x.exp y.exp=bits (dQ x y).natAbs:=by
 rw[iN,beV,beT,kF (by omega)];unfold topD;rw[if_neg hx];omega
theorem yY(hy:y.man≠0):topD y-min x.exp y.exp=bits (dR x y).natAbs:=by
 rw[iO,beV,beT,kF (by omega)];unfold topD;rw[if_neg hy];omega
theorem anC{x y:Dy}(h:x.man.sign<y.man.sign):cmpD x y=-1:=rX (by rw[fO,iZ];exact h)
theorem anD{x y:Dy}(h:y.man.sign<x.man.sign):cmpD x y=1:=rY (by rw[fO,iZ];exact h)
theorem ahB{x y:Dy}(h:x.man.sign=y.man.sign)(h0:x.man.sign=0):cmpD x y=0:=by
 have h1:dQ x y=0:=beR.1 (by rw[fO];exact h0);have h2:dR x y=0:=beR.1 (by rw[iZ,<-h];exact h0);unfold cmpD;rw[h1,h2];rfl
theorem ak3{x y:Dy}(h:x.man.sign=y.man.sign)(h0:x.man.sign≠0)(ht:topD x<topD y):cmpD x y=-x.man.sign:=by
 have hx:x.man≠0:=fun e=>h0 (by rw[e];rfl);have hy:y.man≠0:=fun e=>h0 (by rw[h,e];rfl);have h1:=yX (y:=y) hx;have h2:=yY (x:=x) hy;have hlt:(dQ x y).natAbs<(dR x y).natAbs:=by
  rcases be1 (dQ x y).natAbs (dR x y).natAbs with h|h
  . exact h
  . have:=dA h;omega
 unfold cmpD;rw[mM (by rw[fO,iZ];exact h),fO];unfold cmpN;rw[if_pos hlt];omega
theorem ahC{x y:Dy}(h:x.man.sign=y.man.sign)(h0:x.man.sign≠0)(ht:topD y<topD x):cmpD x y=x.man.sign:=by
 have hx:x.man≠0:=fun e=>h0 (by rw[e];rfl);have hy:y.man≠0:=fun e=>h0 (by rw[h,e];rfl);have h1:=yX (y:=y) hx;have h2:=yY (x:=x) hy;have hlt:(dR x y).natAbs<(dQ x y).natAbs:=by
  rcases be1 (dR x y).natAbs (dQ x y).natAbs with h|h
  . exact h
  . have:=dA h;omega
 unfold cmpD;rw[mM (by rw[fO,iZ];exact h),fO];unfold cmpN;rw[if_neg (by omega),if_pos hlt];omega
theorem ak4(hx:DyP p w va x)(hy:DyP q w vb y)(hp:∀b,p b->b<w.heap.size)(hq:∀b,q b->b<w.heap.size)(sx:SmD x)(sy:SmD y):
 Calls Tryz.prog 188 #[va,vb] w (RetK w (cmpD x y)):=by
 obtain⟨ba,A,n,c,rfl,h⟩:=hx;obtain⟨bb,A',n',c',rfl,h'⟩:=hy;obtain⟨w2,hw2,hb2,hs2,b1,b2⟩:=pro2 w (.cells #[Value.bool ba,.slice A n c,.int .i64 x.exp] 197) (.cells #[Value.bool bb,.slice A' n' c',.int .i64 y.exp] 197);have HB:=hdd hb2;have HS:=hdd hs2;have HP:=hdd hp;have HQ:=hdd hq;have SX:=hdd sx;have SY:=hdd sy;obtain⟨c0,c1,c2,-,-,-⟩:=cells3 b1;obtain⟨d0,d1,d2,-,-,-⟩:=cells3 b2;have D1:Hid (DyP p w2 (.agg #[.bool ba,.slice A n c,.int .i64 x.exp]) x):=hdd ⟨_,_,_,_,rfl,h.below hb2⟩;have D2:Hid (DyP q w2 (.agg #[.bool bb,.slice A' n' c',.int .i64 y.exp]) y):=hdd ⟨_,_,_,_,rfl,h'.below hb2⟩;clear h h' hb2 b1 b2 hs2 hp hq sx sy;go_enter Tryz.func188,Tryz.ntmps188
 go_wp2_with fail
 have HSA:Hid (∀w',Below w2.heap.size w2 w'->Calls Tryz.prog 127 #[.agg #[.bool ba,.slice A n c,.int .i64 x.exp]] w' (RetK w' x.man.sign)):=hdd fun w' h=>dC (D1.out.below h);have HSB:Hid (∀w',Below w2.heap.size w2 w'->Calls Tryz.prog 127 #[.agg #[.bool bb,.slice A' n' c',.int .i64 y.exp]] w' (RetK w' y.man.sign)):=hdd fun w' h=>dC (D2.out.below h);have HTA:Hid (∀w',Below w2.heap.size w2 w'->Calls Tryz.prog 129 #[.agg #[.bool ba,.slice A n c,.int .i64 x.exp]] w' (RetK w' (topD x))):=hdd fun w' h=>qH (D1.out.below h) (by have:=SX.out.2;omega);have HTB:Hid (∀w',Below w2.heap.size w2 w'->Calls Tryz.prog 129 #[.agg #[.bool bb,.slice A' n' c',.int .i64 y.exp]] w' (RetK w' (topD y))):=hdd fun w' h=>qH (D2.out.below h) (by have:=SY.out.2;omega);have HBW:Below w2.heap.size w2 w2.drew:=(beS _ _).drew;replace c0:=cbl c0 HBW;replace c1:=cbl c1 HBW;replace c2:=cbl c2 HBW;replace d0:=cbl d0 HBW;replace d1:=cbl d1 HBW;replace d2:=cbl d2 HBW
 go_region_held3 (fun w'=>w'.cell? ⟨w.heap.size,0,none⟩=some (.bool ba)/\w'.cell? ⟨w.heap.size,1,none⟩=some (.slice A n c)/\w'.cell? ⟨w.heap.size,2,none⟩=some (.int .i64 x.exp)/\w'.cell? ⟨w.heap.size+1,0,none⟩=some (.bool bb)/\w'.cell? ⟨w.heap.size+1,1,none⟩=some (.slice A' n' c')/\w'.cell? ⟨w.heap.size+1,2,none⟩=some (.int .i64 y.exp)) (go_keep)
  (first
  |(go_at_call 127
    with_reducible refine(HSA.out _ (by assumption)).mono ?_
    rintro e w3⟨rfl,hb⟩;have c0:=cbl c0 hb;have c1:=cbl c1 hb;have c2:=cbl c2 hb;have d0:=cbl d0 hb;have d1:=cbl d1 hb;have d2:=cbl d2 hb;have HBW:=aB HBW hb)
  |(go_at_call 127
    with_reducible refine(HSB.out _ (by assumption)).mono ?_
    rintro e w4⟨rfl,hb⟩;have c0:=cbl c0 hb;have c1:=cbl c1 hb;have c2:=cbl c2 hb;have d0:=cbl d0 hb;have d1:=cbl d1 hb;have d2:=cbl d2 hb;have HBW:=aB HBW hb))
 have HB3:=hdd (HB.out.trans (HBW.mono HB.out.size));have HW3:=hdd HBW;have HLT:=hdd (@anC x y);have HGT:=hdd (@anD x y);have HEQ:=hdd (@ahB x y);have HTL:=hdd (@ak3 x y);have HTG:=hdd (@ahC x y);clear HBW HSA HSB hw2;have hsb:-1<=x.man.sign/\x.man.sign<=1:=by
  rcases beW x.man 0 with h|h|h
  . rw[Int.sign_eq_neg_one_of_neg h];omega
  . rw[h];decide
  . rw[beU h];omega
 generalize x.man.sign=s at*;generalize y.man.sign=t at*;rcases beW s t with h|h|h
 . have h2:=HLT.out h
   have HF:Hid (RetK w (cmpD x y) (.returned (.int .i64 (-1))) _):=hdd ⟨by rw[h2],HB3.out⟩;clear h2;go_wp2;go_ret;exact HF.out
 . subst h
   by_cases hz:s=0
   . have h2:=HEQ.out rfl hz
     have hz2:(s==0)=true:=by rw[hz];rfl
     have HF:Hid (RetK w (cmpD x y) (.returned (.int .i64 0)) _):=hdd ⟨by rw[h2],HB3.out⟩;clear h2 hz;go_wp2;go_ret;exact HF.out
   . have hz2:(s==0)=false:=beq_eq_false_iff_ne.2 hz
     have HTL2:=hdd (HTL.out rfl hz);have HTG2:=hdd (HTG.out rfl hz);clear HLT HGT HEQ HTL HTG;go_wp2_with fail
     have HBW:Below w2.heap.size w2 w4.drew:=HW3.out.drew;have hdr:Below w4.heap.size w4 w4.drew:=(beS _ _).drew;replace c0:=cbl c0 hdr;replace c1:=cbl c1 hdr;replace c2:=cbl c2 hdr;replace d0:=cbl d0 hdr;replace d1:=cbl d1 hdr;replace d2:=cbl d2 hdr;clear hdr
     go_region_held3 (fun w'=>w'.cell? ⟨w.heap.size,0,none⟩=some (.bool ba)/\w'.cell? ⟨w.heap.size,1,none⟩=some (.slice A n c)/\w'.cell? ⟨w.heap.size,2,none⟩=some (.int .i64 x.exp)/\w'.cell? ⟨w.heap.size+1,0,none⟩=some (.bool bb)/\w'.cell? ⟨w.heap.size+1,1,none⟩=some (.slice A' n' c')/\w'.cell? ⟨w.heap.size+1,2,none⟩=some (.int .i64 y.exp)) (go_keep)
      (first
      |(go_at_call 129
        with_reducible refine(HTA.out _ (by assumption)).mono ?_
        rintro e w5⟨rfl,hb⟩;have c0:=cbl c0 hb;have c1:=cbl c1 hb;have c2:=cbl c2 hb;have d0:=cbl d0 hb;have d1:=cbl d1 hb;have d2:=cbl d2 hb;have HBW:=aB HBW hb)
      |(go_at_call 129
        with_reducible refine(HTB.out _ (by assumption)).mono ?_
        rintro e w6⟨rfl,hb⟩;have c0:=cbl c0 hb;have c1:=cbl c1 hb;have c2:=cbl c2 hb;have d0:=cbl d0 hb;have d1:=cbl d1 hb;have d2:=cbl d2 hb;have HBW:=aB HBW hb))
     have HB6:=hdd (HB.out.trans (HBW.mono HB.out.size));replace D1:=hdd (D1.out.below HBW);replace D2:=hdd (D2.out.below HBW);clear HBW HTA HTB HB3 HW3;generalize topD x=m at*;generalize topD y=n at*;rcases beW m n with h|h|h
     . have h2:=HTL2.out h
       have hw:IntKind.i64.wrap (-s)=-s:=wrap_i64 (by omega);have hw2:IntKind.i64.wrap (0-s)=-s:=by rw[wrap_i64 (by omega)];omega
       have HF:Hid (RetK w (cmpD x y) (.returned (.int .i64 (-s))) _):=hdd ⟨by rw[h2],HB6.out⟩;clear h2;go_wp2;go_ret;exact HF.out
     . subst h
       clear HTL2 HTG2;go_wp2_with fail
       refine(yV D1.out D2.out (fun b hb=>by have:=HP.out b hb;have:=HB6.out.size;omega) (fun b hb=>by have:=HQ.out b hb;have:=HB6.out.size;omega) SX.out.1 SY.out.1 SX.out.2 SY.out.2).mono ?_;rintro r w7⟨hb,u1,U1,m1,k1,u2,U2,m2,k2,rfl,hX,hY⟩;have hX':=hX.weak (q:=fun b=>b<w7.heap.size) fun b _ h=>h;have hY':=hY.weak (q:=fun b=>b<w7.heap.size) fun b _ h=>h;replace HB6:=hdd (HB6.out.trans (hb.mono HB6.out.size));obtain⟨w8,hw8,hb8,hs8,q1,q2⟩:=pro2 w7 (.cells #[Value.bool false,Value.slice none 0 0] 195) (.cells #[Value.bool false,Value.slice none 0 0] 195);obtain⟨g0,g1,g2,g3⟩:=aC q1;obtain⟨i0,i1,i2,i3⟩:=aC q2;clear c0 c1 c2 d0 d1 d2 D1 D2;have r1:=set2 q1 (.bool u1) (.slice U1 m1 k1);have q2':((w8.setCell ⟨w7.heap.size,0,none⟩ (.bool u1)).setCell ⟨w7.heap.size,1,none⟩ (.slice U1 m1 k1)).heap[w7.heap.size+1]? =some (.cells #[Value.bool false,Value.slice none 0 0] 195 (0,0)):=by
        rw[beQ _ _ _ _ (by simp),beQ _ _ _ _ (by simp)];exact q2
       have r2:=set2 q2' (.bool u2) (.slice U2 m2 k2);have r1':((((w8.setCell ⟨w7.heap.size,0,none⟩ (.bool u1)).setCell ⟨w7.heap.size,1,none⟩ (.slice U1 m1 k1)).setCell ⟨w7.heap.size+1,0,none⟩ (.bool u2)).setCell ⟨w7.heap.size+1,1,none⟩ (.slice U2 m2 k2)).heap[w7.heap.size]? =some (.cells #[.bool u1,.slice U1 m1 k1] 195 (0,0)):=by
        rw[beQ _ _ _ _ (by simp),beQ _ _ _ _ (by simp)];exact r1
       have hbb:Below w7.heap.size w7 ((((w8.setCell ⟨w7.heap.size,0,none⟩ (.bool u1)).setCell ⟨w7.heap.size,1,none⟩ (.slice U1 m1 k1)).setCell ⟨w7.heap.size+1,0,none⟩ (.bool u2)).setCell ⟨w7.heap.size+1,1,none⟩ (.slice U2 m2 k2)):=(((hb8.setCell (by simp) _).setCell (by simp) _).setCell (by simp) _).setCell (by simp) _;obtain⟨j0,j1,-,-⟩:=aC r1';obtain⟨l0,l1,-,-⟩:=aC r2;have HCI:=hdd (ai6 (hX'.below hbb) (hY'.below hbb));have HB8:=hdd (HB6.out.trans (hbb.mono HB6.out.size));clear hX hY hX' hY' hb hb8 hs8 q1 q2 q2' r1 r1' r2 hbb;go_wp2_with fail
       refine HCI.out.mono ?_;rintro r w9⟨rfl,hb⟩;have HF:Hid (RetK w (cmpD x y) (.returned (.int .i64 (cmpD x y))) _):=hdd ⟨rfl,HB8.out.trans (hb.mono HB8.out.size)⟩;clear hb;go_wp2;go_ret;exact HF.out
     . have h2:=HTG2.out h
       have h3:¬m<n:=by omega
       have HF:Hid (RetK w (cmpD x y) (.returned (.int .i64 s)) _):=hdd ⟨by rw[h2],HB6.out⟩;clear h2;go_wp2;go_ret;exact HF.out
 . have h2:=HGT.out h
   have HF:Hid (RetK w (cmpD x y) (.returned (.int .i64 1)) _):=hdd ⟨by rw[h2],HB3.out⟩;have h3:¬s<t:=by omega
   clear h2;go_wp2;go_ret;exact HF.out
theorem rE{p:Int}(hp:1<=p/\p<=65536):Calls Tryz.prog 200 #[.int .i64 p] w (fun e w'=>e=.returned (.int .i64 p)/\w=w'):=by
 go_enter Tryz.func200,Tryz.ntmps200
 go_wp2;go_ret;exact⟨by show Ending.returned (.int .i64 (max 1 (min p 65536)))=_;rw[show max 1 (min p 65536)=p from by omega],rfl⟩
theorem cZ{i:Nat}(h:g≠i)(u v x:Value):(((w.setCell ⟨g,0,none⟩ u).setCell ⟨g,1,none⟩ v).setCell ⟨g,2,none⟩ x).heap[i]? =w.heap[i]? :=by
 rw[beQ _ _ _ _ (by simp;omega),beQ _ _ _ _ (by simp;omega),beQ _ _ _ _ (by simp;omega)]
theorem aeA{P dir:Int}(hx:DyP p w va x)(hT:Tab w)(sx:SmD x)(hP:1<=P/\P<=65536)(hb:(bits (mkDy x.man x.exp).man.natAbs:Int)<=P):
 Calls Tryz.prog 186 #[va,.int .i64 P,.int .i64 dir] w (RetD w.heap.size w (mkDy x.man x.exp)):=by
 obtain⟨ba,A,n,c,rfl,h⟩:=hx;obtain⟨w2,hw2,hb2,hs2,b1,b2⟩:=pro2 w (.cells #[Value.bool ba,.slice A n c,.int .i64 x.exp] 197) (.cells #[Value.bool false,Value.slice none 0 0,.int .i64 0] 197);have HB:=hdd hb2;have HS:=hdd hs2;have B1:=hdd b1;have B2:=hdd b2;have HBI:=hdd hb;have HPP:=hdd hP;obtain⟨c0,c1,c2,-,-,-⟩:=cells3 b1;have HMK:=hdd (dJ (e:=x.exp) (h.below hb2) (hT.below hb2) (by have:=sx.1;omega) (by have:=sx.2;omega));have HSX:=hdd sx;clear h hb2 b1 b2 hs2 hT sx hb;go_enter Tryz.func186,Tryz.ntmps186
 go_wp2_with fail
 refine HMK.out.mono ?_;rintro r w3⟨hb,v5,rfl,hz⟩;obtain⟨b6,A6,n6,c6,rfl,hz2⟩:=id hz;have B13:=hbl B1.out hb;have B23:=hdd (hbl B2.out hb);obtain⟨e0,e1,e2,e3,e4,e5⟩:=cells3 B13;have S1:=set3 B13 (.bool b6) (.slice A6 n6 c6) (.int .i64 (mkDy x.man x.exp).exp);have hI:IntP (fun b=>w2.heap.size<=b) (((w3.setCell ⟨w.heap.size,0,none⟩ (.bool b6)).setCell ⟨w.heap.size,1,none⟩ (.slice A6 n6 c6)).setCell ⟨w.heap.size,2,none⟩ (.int .i64 (mkDy x.man x.exp).exp)) (.agg #[.bool b6,.slice A6 n6 c6]) (mkDy x.man x.exp).man:=
  ((hz2.setCell (fun b hb=>by have:=HS.out;simp;omega) _).setCell (fun b hb=>by have:=HS.out;simp;omega) _).setCell (fun b hb=>by have:=HS.out;simp;omega) _
 have S2:=(cZ (w:=w3) (g:=w.heap.size) (i:=w.heap.size+1) (by omega) (.bool b6) (.slice A6 n6 c6) (.int .i64 (mkDy x.man x.exp).exp)).trans B23.out;have hbb:Below w.heap.size w (((w3.setCell ⟨w.heap.size,0,none⟩ (.bool b6)).setCell ⟨w.heap.size,1,none⟩ (.slice A6 n6 c6)).setCell ⟨w.heap.size,2,none⟩ (.int .i64 (mkDy x.man x.exp).exp)):=(((HB.out.trans (hb.mono HB.out.size)).setCell (by simp) _).setCell (by simp) _).setCell (by simp) _;generalize hE:(mkDy x.man x.exp).exp=E at*;generalize hW:((w3.setCell ⟨w.heap.size,0,none⟩ (.bool b6)).setCell ⟨w.heap.size,1,none⟩ (.slice A6 n6 c6)).setCell ⟨w.heap.size,2,none⟩ (.int .i64 E)=w4 at*;obtain⟨c0,c1,c2,-,-,-⟩:=cells3 S1;obtain⟨xs,hx1,-,hx3,-⟩:=hI.get;have HBT:=hdd (dF hx1);have HI:=hdd hI;have HS1:=hdd S1;have HS2:=hdd S2;have HBB:=hdd hbb;have hle:¬(0:Int)<(bits (val xs):Int)-P:=by have:=HBI.out;rw[hx3];omega
 have hle2:(bits (val xs):Int)-P<=0:=by omega
 have hwr:IntKind.i64.wrap ((bits (val xs):Int)-P)=(bits (val xs):Int)-P:=wrap_i64 (by have:=HPP.out;omega);have HWD:=fun w'=>rE (w:=w') HPP.out;clear hx1 hx3 hI S1 S2 hbb hz hz2 hb B13 hP;go_wp2_with fail
 refine HBT.out.mono ?_;rintro r w5⟨rfl,k,rfl⟩;have hd:=below_drewN w4 k;replace c0:=cbl c0 hd;replace c1:=cbl c1 hd;replace c2:=cbl c2 hd;replace HI:=hdd (HI.out.below hd);replace HS2:=hdd (hbl HS2.out hd);replace HBB:=hdd (HBB.out.trans (hd.mono HBB.out.size));clear hd HS1;generalize w4.drewN k=w5 at*;have HWD5:=hdd (HWD w5);clear HWD;go_wp2_with fail
 refine HWD5.out.mono ?_;rintro r w6⟨rfl,hw⟩;obtain rfl:=hw;obtain⟨f0,f1,f2,f3,f4,f5⟩:=cells3 HS2.out;have hD:DyP (fun b=>w2.heap.size<=b) w5 (.agg #[.bool b6,.slice A6 n6 c6,.int .i64 E]) (mkDy x.man x.exp):=⟨b6,A6,n6,c6,by rw[hE],HI.out⟩;obtain⟨HFF,hFF⟩:=aQ HBB.out (g:=w.heap.size+1) (by omega) HS2.out hD (fun b hb=>by have:=HS.out;omega);replace hFF:=hdd hFF;clear hD;go_wp2;obtain⟨f0,f1,f2,-,-,-⟩:=cells3 hFF.out;refine bodyPost_ret (v:=.agg #[_,_,_]) (by simp[results,Tryz.results186,go_sem,f0,f1,f2];first|exact⟨rfl,rfl,rfl⟩|rfl) rfl ?_;exact HFF.out
end Go.Proofs.YtjdgaogkioabeaaGreatDoor
