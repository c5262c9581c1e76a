/- A part of the proof: contracts of functions and plain laws (DyD, DyF, DyG, DyH, DyI, DyK). -/
import Derived.Test.YtigoiiekebccnaaGreatDoorK20
import Derived.Test.YtigoiiekebccnaaGreatDoorK11
set_option linter.unusedVariables false
set_option linter.unusedSimpArgs false
set_option linter.unnecessarySimpa false
set_option maxHeartbeats 25600000
set_option maxRecDepth 100000
namespace Go.Proofs.YtigoiiekebccnaaGreatDoor
open Go.RowKit
open Go.RowKit.Below renaming heap_setCell->bd6,refl->bd8
open Int renaming sign_eq_zero_iff_zero->bd7,natAbs_natCast->bd9,sign_eq_one_of_pos->beA,natAbs_mul->beB,lt_trichotomy->beC,sign_mul->beI,mul_one->beJ
open Nat renaming le_trans->beD,two_pow_pos->beE,pow_le_pow_right->beF,lt_or_ge->beG,pow_add->beH
variable{d x y:Dy}{E X Y:Int}{xs:List Nat}{p q:Nat->Prop}{v va vb:Value}{w w0:World}
theorem wrap_i64{x:Int}(h:-9223372036854775808<=x/\x<9223372036854775808):IntKind.i64.wrap x=x:=by
 have hb64:(2:Int)^IntKind.i64.bits=18446744073709551616:=rfl;have hb63:(2:Int)^(IntKind.i64.bits-1)=9223372036854775808:=rfl;simp only[IntKind.wrap,show IntKind.i64.signed=true from rfl,Bool.true_and,decide_eq_true_eq,hb64,hb63]
 split<;>omega
theorem dC{x e:Int}(hx:IntP p w va x)(hT:Tab w)(hL:bits x.natAbs<=1073741824)(he:-1000000000000<=e/\e<=1000000000000):
 Calls Tryz.prog 152 #[va,.int .i64 e] w (RetD w.heap.size w (mkDy x e)):=by
 obtain⟨ba,A,n,c,rfl⟩:=hx.shape;obtain⟨w2,hw2,hb2,hs2,b1,b2⟩:=pro2 w (.cells #[Value.bool ba,.slice A n c] 186) (.cells #[Value.bool false,Value.slice none 0 0,.int .i64 0] 233);have HB:=hdd hb2;have H1:=hdd (hx.below hb2);have HS:=hdd hs2;have B1:=hdd b1;have B2:=hdd b2;have HT:=hdd (hT.below hb2);have HL:=hdd hL;obtain⟨c0,c1,-,-⟩:=aB b1;clear hx hb2 b1 b2 hs2 hT hL;go_enter Tryz.func152,Tryz.ntmps152
 go_wp2_with fail
 refine(o7 H1.out).mono ?_;rintro r w3⟨rfl,hb⟩;replace H1:=hdd (H1.out.below hb);replace HT:=hdd (HT.out.below hb);replace c0:=cbl c0 hb;replace c1:=cbl c1 hb;replace B2:=hdd (aC B2.out hb (by have:=HS.out;omega));have HS3:=hdd hb.size;replace HB:=hdd (HB.out.trans (hb.mono HB.out.size));clear hb hw2;by_cases hz:x=0
 . have hs:(x.sign==0)=true:=by rw[hz];rfl
   obtain⟨e0,e1,e2,e3,e4,e5⟩:=cells3 B2.out;have hsz:=HS3.out;have hs2:=HS.out;have h:DyP (fun b=>w3.heap.size<=b) w3 (.agg #[.bool false,.slice none 0 0,.int .i64 0]) (mkDy x e):=by
    rw[hz];exact⟨_,_,_,_,rfl,_,[],rfl,NatP.nil _,Tr.nil,rfl⟩
   obtain⟨HFF,hFF⟩:=aK HB.out (g:=w.heap.size+1) (by omega) B2.out h (fun b hb=>by omega);replace hFF:=hdd hFF;clear h hsz hs2;go_wp2;obtain⟨f0,f1,f2,-,-,-⟩:=cells3 hFF.out;refine bodyPost_ret (v:=.agg #[_,_,_]) (by simp[results,Tryz.results152,go_sem,f0,f1,f2];first|exact⟨rfl,rfl,rfl⟩|rfl) rfl ?_;exact HFF.out
 . have hs:(x.sign==0)=false:=beq_eq_false_iff_ne.2 (fun h=>hz (bd7.1 h))
   obtain⟨xs,hx1,hx2,hx3,hx4⟩:=H1.out.get;have HX:=hdd hx1;have HV:=hdd hx3;have HBA:=hdd hx4;have hlow:ctz (val xs)<=1073741824:=by
    have h1:=rZ (val xs) (by rw[hx3];omega);have:=HL.out;rw[hx3]at h1|-;omega
   clear hx1 hx2 hx3 hx4;go_wp2_with fail
   refine(sU HX.out HT.out).mono ?_;rintro r w4⟨rfl,k,rfl⟩;have hb:=below_drewN w3 k;replace HX:=hdd (HX.out.below hb);replace c0:=cbl c0 hb;replace c1:=cbl c1 hb;replace B2:=hdd (hbl B2.out hb);replace HB:=hdd (HB.out.trans (hb.mono HB.out.size));replace HS3:Hid (w2.heap.size<=(w3.drewN k).heap.size):=hdd (beD HS3.out hb.size);clear hb H1 HT;generalize w3.drewN k=w4 at*;go_wp2_with fail
   have hwr:IntKind.i64.wrap (e+(ctz (val xs):Int))=e+(ctz (val xs):Int):=wrap_i64 (by omega);have HRG:=hdd (jJ (n:=ctz (val xs)) (HX.out.below ((bd8 _ _).drew (w:=w4))) (by omega))
   go_region_held3 (fun w'=>w'.cell? ⟨w.heap.size,0,none⟩=some (.bool ba)/\w'.cell? ⟨w.heap.size,1,none⟩=some (.slice A n c)) (go_keep)
    (first
    |(go_at_call 201
      refine HRG.out.mono ?_;rintro r w5⟨hb,v5,zs,rfl,hz,tz,hvz⟩;have HB5:Hid (Below w4.heap.size w4 w5):=hdd ((bd8 _ _).drew.trans hb);have g0:=cbl c0 HB5.out;have g1:=cbl c1 HB5.out;have HMK:=hdd (dD (b:=ba) hz);have HVZ:=hdd hvz;clear hb hz tz hvz)
    |(go_at_call 200
      refine HMK.out.mono ?_;rintro r w6⟨hb,v6,hz⟩;obtain⟨rfl,hz⟩:=hz;obtain⟨b6,A6,n6,c6,rfl⟩:=hz.shape;have g0':=cbl g0 hb;have g1':=cbl g1 hb;have HSZ:=hdd HB5.out.size;replace HB5:=hdd (HB5.out.trans (hb.mono HB5.out.size));have HF:=hdd hz;have B25:=hdd (hbl B2.out HB5.out);obtain⟨e0',e1',e2',e3',e4',e5'⟩:=cells3 B25.out;clear hb hz))
   have hm:mkDy x e=⟨sg ba (val zs),e+ctz (val xs)⟩:=by
    unfold mkDy;rw[if_neg hz,HVZ.out,HV.out,HBA.out]
   have HDD:Hid (DyP (fun b=>w4.heap.size<=b) _ (.agg #[.bool b6,.slice A6 n6 c6,.int .i64 (e+ctz (val xs))]) (mkDy x e)):=hdd (by
    rw[hm];exact⟨b6,A6,n6,c6,rfl,HF.out.weak fun b h _=>by have:=HSZ.out;omega⟩)
   obtain⟨HFF,hFF⟩:=aK (HB.out.trans (HB5.out.mono HB.out.size)) (g:=w.heap.size+1) (by omega) B25.out HDD.out (fun b hb=>by have:=HS3.out;have:=HS.out;omega);replace hFF:=hdd hFF;clear hm HDD;go_wp2;obtain⟨f0,f1,f2,-,-,-⟩:=cells3 hFF.out;refine bodyPost_ret (v:=.agg #[_,_,_]) (by simp[results,Tryz.results152,go_sem,f0,f1,f2];first|exact⟨rfl,rfl,rfl⟩|rfl) rfl ?_;exact HFF.out
theorem cO(hx:DyP p w v d):
 Calls Tryz.prog 202 #[v] w (RetK w d.man.sign):=by
 obtain⟨b,A,n,c,rfl,h⟩:=hx;obtain⟨w1,hw1,hb1,hs1,b1⟩:=pro1 w (.cells #[Value.bool b,.slice A n c,.int .i64 d.exp] 233);have HB:=hdd hb1;have H1:=hdd (h.below hb1);obtain⟨c0,c1,c2,-,-,-⟩:=cells3 b1;clear h hb1 b1 hs1;go_enter Tryz.func202,Tryz.ntmps202
 go_wp2_with fail
 refine(o7 H1.out).mono ?_;rintro r w3⟨rfl,hb⟩;have HF:Hid (RetK w d.man.sign (.returned (.int .i64 d.man.sign)) w3):=hdd ⟨rfl,HB.out.trans (hb.mono HB.out.size)⟩;clear hb;go_wp2;go_ret;exact HF.out
theorem abY(h:OkL xs):bits (val xs)<=64*xs.length:=by
 rw[aF];have:=bH xs h;rwa[dY,<-Nat.pow_mul]at this
theorem qD(hx:DyP p w v d)(he:-1000000000000<=d.exp/\d.exp<=1000000000000):
 Calls Tryz.prog 203 #[v] w (RetK w (topD d)):=by
 obtain⟨b,A,n,c,rfl,h⟩:=hx;obtain⟨w1,hw1,hb1,hs1,b1⟩:=pro1 w (.cells #[Value.bool b,.slice A n c,.int .i64 d.exp] 233);have HB:=hdd hb1;have H1:=hdd (h.below hb1);obtain⟨c0,c1,c2,-,-,-⟩:=cells3 b1;clear h hb1 b1 hs1;have HDP:Hid (DyP p w1 (.agg #[.bool b,.slice A n c,.int .i64 d.exp]) d):=hdd ⟨b,A,n,c,rfl,H1.out⟩;go_enter Tryz.func203,Tryz.ntmps203
 go_wp2_with fail
 refine(cO HDP.out).mono ?_;rintro r w3⟨rfl,hb⟩;replace H1:=hdd (H1.out.below hb);replace c0:=cbl c0 hb;replace c1:=cbl c1 hb;replace c2:=cbl c2 hb;replace HB:=hdd (HB.out.trans (hb.mono HB.out.size));clear hb HDP hw1;by_cases hz:d.man=0
 . have hs:(d.man.sign==0)=true:=by rw[hz];rfl
   have HF:Hid (RetK w (topD d) (.returned (.int .i64 0)) w3):=hdd ⟨by unfold topD;rw[if_pos hz],HB.out⟩;clear hz;go_wp2;go_ret;exact HF.out
 . have hs:(d.man.sign==0)=false:=beq_eq_false_iff_ne.2 (fun h=>hz (bd7.1 h))
   obtain⟨xs,hx1,-,hx3,-⟩:=H1.out.get;have HBT:=hdd (cZ (hx1.below ((bd8 _ _).drew (w:=w3))));have hbl:bits (val xs)<=64*1099511627776:=beD (abY hx1.ok) (Nat.mul_le_mul_left _ hx1.len);have hwr:IntKind.i64.wrap ((bits (val xs):Int)+d.exp)=(bits (val xs):Int)+d.exp:=wrap_i64 (by omega);have HT:Hid (topD d=bits (val xs)+d.exp):=hdd (by unfold topD;rw[if_neg hz,hx3]);clear hx1 hx3 hz;go_wp2_with fail
   go_region_held3 (fun w'=>w'.cell? ⟨w.heap.size,0,none⟩=some (.bool b)/\w'.cell? ⟨w.heap.size,1,none⟩=some (.slice A n c)/\w'.cell? ⟨w.heap.size,2,none⟩=some (.int .i64 d.exp)) (go_keep)
    (first
    |(go_at_call 206
      refine HBT.out.mono ?_;rintro e w5⟨rfl,k,hk⟩;have hb5:Below w3.heap.size w3 w5:=by rw[hk];exact(bd8 _ _).drew.trans (below_drewN w3.drew k)
      have c0:=cbl c0 hb5;have c1:=cbl c1 hb5;have c2:=cbl c2 hb5;have HB5:=hdd (HB.out.trans (hb5.mono HB.out.size));clear hk hb5))
   have HF:Hid (RetK w (topD d) (.returned (.int .i64 (bits (val xs)+d.exp))) _):=hdd ⟨by rw[HT.out],HB5.out⟩;go_wp2;go_ret;exact HF.out
theorem vT(hx:DyP p w v d)(hT:Tab w)(hL:bits d.man.natAbs<=1073741824)(he:-1000000000000<=d.exp/\d.exp<=1000000000000):
 Calls Tryz.prog 214 #[v] w (RetD w.heap.size w (notD d)):=by
 obtain⟨b,A,n,c,rfl,h⟩:=hx;obtain⟨w2,hw2,hb2,hs2,b1,b2⟩:=pro2 w (.cells #[Value.bool b,.slice A n c,.int .i64 d.exp] 233) (.cells #[Value.bool false,Value.slice none 0 0,.int .i64 0] 233);have HB:=hdd hb2;have H1:=hdd (h.below hb2);have HT:=hdd (hT.below hb2);have HS:=hdd hs2;have B2:=hdd b2;have HL:=hdd hL;obtain⟨c0,c1,c2,-,-,-⟩:=cells3 b1;clear h hb2 b1 hs2 b2 hT hL;go_enter Tryz.func214,Tryz.ntmps214
 go_wp2_with fail
 have HN:=hdd (al5 (H1.out.below ((bd8 _ _).drew (w:=w2))));have n1:w.heap.size+1≠w.heap.size:=by omega
 go_region_held3 (fun w'=>w'.cell? ⟨w.heap.size,0,none⟩=some (.bool b)/\w'.cell? ⟨w.heap.size,1,none⟩=some (.slice A n c)/\w'.cell? ⟨w.heap.size,2,none⟩=some (.int .i64 d.exp)) (go_keep)
  (first
  |(go_at_call 216
    refine HN.out.mono ?_;rintro r w5⟨hb,v5,rfl,hz⟩;have HB5:Hid (Below w2.heap.size w2 w5):=hdd ((bd8 _ _).drew.trans hb);have c0:=cbl c0 HB5.out;have c1:=cbl c1 HB5.out;have c2:=cbl c2 HB5.out;have HMK:=hdd (dC (e:=d.exp) hz (HT.out.below HB5.out) (by rw[Int.natAbs_neg];exact HL.out) he);clear hb hz)
  |(go_at_call 152
    refine HMK.out.mono ?_;rintro r w6⟨hb,v6,hz⟩;obtain⟨rfl,hz⟩:=hz;obtain⟨b6,A6,n6,c6,rfl,-⟩:=id hz;have c0:=cbl c0 hb;have c1:=cbl c1 hb;have c2:=cbl c2 hb;have HSZ:=hdd HB5.out.size;have HB5:=hdd (HB5.out.trans (hb.mono HB5.out.size));have HF:=hdd hz;have B25:=hdd (hbl B2.out HB5.out);obtain⟨e0,e1,e2,e3,e4,e5⟩:=cells3 B25.out;clear hb hz))
 obtain⟨HFF,hFF⟩:=aK (HB.out.trans (HB5.out.mono HB.out.size)) (g:=w.heap.size+1) (by omega) B25.out HF.out (fun b hb=>by have:=HS.out;have:=HSZ.out;omega);replace hFF:=hdd hFF;replace HFF:Hid (RetD w.heap.size w (notD d) _ _):=HFF;go_wp2;obtain⟨f0,f1,f2,-,-,-⟩:=cells3 hFF.out;refine bodyPost_ret (v:=.agg #[_,_,_]) (by simp[results,Tryz.results214,go_sem,f0,f1,f2];first|exact⟨rfl,rfl,rfl⟩|rfl) rfl ?_;exact HFF.out
theorem r9(a b:Nat):bits (a*b)<=bits a+bits b:=by
 rw[aF];have e3:=Nat.mul_lt_mul'' (bN a) (bN b);rwa[<-beH]at e3
theorem akS(hx:DyP p w va x)(hy:DyP q w vb y)(hT:Tab w)
 (hL:bits x.man.natAbs+bits y.man.natAbs<=1073741823) (he:-100000000000<=x.exp/\x.exp<=100000000000) (he':-100000000000<=y.exp/\y.exp<=100000000000):
 Calls Tryz.prog 360 #[va,vb] w (RetD w.heap.size w (mulD x y)):=by
 obtain⟨ba,A,n,c,rfl,h⟩:=hx;obtain⟨bb,A',n',c',rfl,h'⟩:=hy;obtain⟨w3,hw3,hb3,hs3,b1,b2,b3⟩:=pro3 w (.cells #[Value.bool ba,.slice A n c,.int .i64 x.exp] 233) (.cells #[Value.bool bb,.slice A' n' c',.int .i64 y.exp] 233) (.cells #[Value.bool false,Value.slice none 0 0,.int .i64 0] 233);have HB:=hdd hb3;have H1:=hdd (h.below hb3);have H2:=hdd (h'.below hb3);have HT:=hdd (hT.below hb3);have HS:=hdd hs3;have B3:=hdd b3;obtain⟨c0,c1,c2,-,-,-⟩:=cells3 b1;obtain⟨d0,d1,d2,-,-,-⟩:=cells3 b2;have hwr:IntKind.i64.wrap (x.exp+y.exp)=x.exp+y.exp:=wrap_i64 (by omega);have HLM:Hid (bits (x.man*y.man).natAbs<=1073741824):=hdd (by
  rw[beB];have:=r9 x.man.natAbs y.man.natAbs;omega)
 have HL:=hdd hL;have HE:Hid (-1000000000000<=x.exp+y.exp/\x.exp+y.exp<=1000000000000):=hdd (by omega);clear h h' hb3 b1 b2 b3 hs3 hT hL he he';go_enter Tryz.func360,Tryz.ntmps360
 go_wp2_with fail
 have HBA:Hid (Below w3.heap.size w3 (w3.alloc (.cells #[Value.bool bb,.slice A' n' c'] 186)).drew):=hdd ((bd8 _ _).alloc nlr _).drew;have HBA2:Hid ((w3.alloc (.cells #[Value.bool bb,.slice A' n' c'] 186)).drew.heap[w3.heap.size]? =some (.cells #[Value.bool bb,.slice A' n' c'] 186 (0,0))):=hdd (heap_alloc_new w3 _);have HMU:=hdd (aiS (H1.out.below HBA.out) HBA2.out (H2.out.below HBA.out) (by have:=HL.out;omega));have n1:w.heap.size+1+1≠w.heap.size:=by omega
 have n2:w.heap.size+1+1≠w.heap.size+1:=by omega
 go_region_held3 (fun w'=>w'.cell? ⟨w.heap.size,0,none⟩=some (.bool ba)/\w'.cell? ⟨w.heap.size,1,none⟩=some (.slice A n c)/\w'.cell? ⟨w.heap.size,2,none⟩=some (.int .i64 x.exp)/\w'.cell? ⟨w.heap.size+1,0,none⟩=some (.bool bb)/\w'.cell? ⟨w.heap.size+1,1,none⟩=some (.slice A' n' c')/\w'.cell? ⟨w.heap.size+1,2,none⟩=some (.int .i64 y.exp)) (go_keep)
  (first
  |(go_at_call 366
    refine HMU.out.mono ?_;rintro r w5⟨hb,v5,rfl,hz⟩;have HB5:Hid (Below w3.heap.size w3 w5):=hdd (HBA.out.trans (hb.mono HBA.out.size));have c0:=cbl c0 HB5.out;have c1:=cbl c1 HB5.out;have c2:=cbl c2 HB5.out;have d0:=cbl d0 HB5.out;have d1:=cbl d1 HB5.out;have d2:=cbl d2 HB5.out;have HMK:=hdd (dC (e:=x.exp+y.exp) hz (HT.out.below HB5.out) HLM.out HE.out);clear hb hz)
  |(go_at_call 152
    refine HMK.out.mono ?_;rintro r w6⟨hb,v6,hz⟩;obtain⟨rfl,hz⟩:=hz;obtain⟨b6,A6,n6,c6,rfl,-⟩:=id hz;have c0:=cbl c0 hb;have c1:=cbl c1 hb;have c2:=cbl c2 hb;have d0:=cbl d0 hb;have d1:=cbl d1 hb;have d2:=cbl d2 hb;have HSZ:=hdd HB5.out.size;have HB5:=hdd (HB5.out.trans (hb.mono HB5.out.size));have HF:=hdd hz;have B35:=hdd (hbl B3.out HB5.out);obtain⟨e0,e1,e2,e3,e4,e5⟩:=cells3 B35.out;clear hb hz))
 obtain⟨HFF,hFF⟩:=aK (HB.out.trans (HB5.out.mono HB.out.size)) (g:=w.heap.size+2) (by omega) B35.out HF.out (fun b hb=>by have:=HS.out;have:=HSZ.out;omega);replace hFF:=hdd hFF;replace HFF:Hid (RetD w.heap.size w (mulD x y) _ _):=HFF;go_wp2;obtain⟨f0,f1,f2,-,-,-⟩:=cells3 hFF.out;refine bodyPost_ret (v:=.agg #[_,_,_]) (by simp[results,Tryz.results360,go_sem,f0,f1,f2];first|exact⟨rfl,rfl,rfl⟩|rfl) rfl ?_;exact HFF.out
def RetA(w0:World)(X Y E:Int)(e:Ending)(w':World):Prop:=
 Below w0.heap.size w0 w'/\∃b1 A1 n1 c1 b2 A2 n2 c2,e=.returned (.tuple #[.agg #[.bool b1,.slice A1 n1 c1],.agg #[.bool b2,.slice A2 n2 c2],.int .i64 E])/\
  IntP AnyB w' (.agg #[.bool b1,.slice A1 n1 c1]) X/\IntP AnyB w' (.agg #[.bool b2,.slice A2 n2 c2]) Y
theorem IntP.any {z:Int}(h:IntP p w v z):IntP AnyB w v z:=h.weak fun _ _ _=>trivial
theorem vU{g:Nat}{w1:World}{T T':TypeId}{a b c d u1 m1 u2 m2:Value}{b1 b2:Bool}{A1 A2:Option Addr}{n1 n2 c1 c2:Nat}(hb:Below w0.heap.size w0 w1)(hg:w0.heap.size<=g)
 (hw:w1.heap[g]? =some (.cells #[a,b] T (0,0))) (hw':w1.heap[g+1]? =some (.cells #[c,d] T' (0,0)))
 (e1:u1=.bool b1) (e2:m1=.slice A1 n1 c1) (e3:u2=.bool b2) (e4:m2=.slice A2 n2 c2) {q:Nat->Prop} (hq:∀b,q b->b≠g/\b≠g+1)
 (h1:IntP q w1 (.agg #[.bool b1,.slice A1 n1 c1]) X) (h2:IntP q w1 (.agg #[.bool b2,.slice A2 n2 c2]) Y):
 Hid (RetA w0 X Y E (.returned (.tuple #[.agg #[u1,m1],.agg #[u2,m2],.int .i64 E])) ((((w1.setCell ⟨g,0,none⟩ u1).setCell ⟨g,1,none⟩ m1).setCell ⟨g+1,0,none⟩ u2).setCell ⟨g+1,1,none⟩ m2))/\
 ((((w1.setCell ⟨g,0,none⟩ u1).setCell ⟨g,1,none⟩ m1).setCell ⟨g+1,0,none⟩ u2).setCell ⟨g+1,1,none⟩ m2).heap[g]? =some (.cells #[u1,m1] T (0,0))/\
 ((((w1.setCell ⟨g,0,none⟩ u1).setCell ⟨g,1,none⟩ m1).setCell ⟨g+1,0,none⟩ u2).setCell ⟨g+1,1,none⟩ m2).heap[g+1]? =some (.cells #[u2,m2] T' (0,0)):=by
 subst e1 e2 e3 e4;have f1:((w1.setCell ⟨g,0,none⟩ (.bool b1)).setCell ⟨g,1,none⟩ (.slice A1 n1 c1)).heap[g+1]? =some (.cells #[c,d] T' (0,0)):=by
  rw[bd6 _ _ _ _ (by simp),bd6 _ _ _ _ (by simp)];exact hw'
 refine⟨hdd ⟨(((hb.setCell hg _).setCell hg _).setCell (by simp;omega) _).setCell (by simp;omega) _,b1,A1,n1,c1,b2,A2,n2,c2,rfl,?_,?_⟩,?_,set2 f1 _ _⟩
 . exact((((h1.setCell (fun b hb=>(hq b hb).1) _).setCell (fun b hb=>(hq b hb).1) _).setCell (fun b hb=>(hq b hb).2) _).setCell (fun b hb=>(hq b hb).2) _).any
 . exact((((h2.setCell (fun b hb=>(hq b hb).1) _).setCell (fun b hb=>(hq b hb).1) _).setCell (fun b hb=>(hq b hb).2) _).setCell (fun b hb=>(hq b hb).2) _).any
 . rw[bd6 _ _ _ _ (by simp),bd6 _ _ _ _ (by simp)];exact set2 hw _ _
theorem yE{w':World}{X' Y' E':Int}{e:Ending}(h:RetA w0 X Y E e w')(hX:X=X')(hY:Y=Y')(hE:E=E'):RetA w0 X' Y' E' e w':=by subst hX hY hE;exact h
theorem fU(hx:OkL xs)(ht:Tr xs)(h:bits (val xs)<=134217728):xs.length<=1000000000:=by
 have:=bD xs hx ht;omega
theorem yF(hx:DyP p w va x)(hy:DyP q w vb y)(hp:∀b,p b->b<w.heap.size)(hq:∀b,q b->b<w.heap.size)
 (hLx:bits x.man.natAbs<=134217728) (hLy:bits y.man.natAbs<=134217728) (he:-67108864<=x.exp/\x.exp<=67108864) (he':-67108864<=y.exp/\y.exp<=67108864):
 Calls Tryz.prog 204 #[va,vb] w (RetA w (dG x y) (dH x y) (min x.exp y.exp)):=by
 obtain⟨ba,A,n,c,rfl,h⟩:=hx;obtain⟨bb,A',n',c',rfl,h'⟩:=hy;obtain⟨w4,hw4,hb4,hs4,b1,b2,b3,b4⟩:=pro4 w (.cells #[Value.bool ba,.slice A n c,.int .i64 x.exp] 233) (.cells #[Value.bool bb,.slice A' n' c',.int .i64 y.exp] 233) (.cells #[Value.bool false,Value.slice none 0 0] 186) (.cells #[Value.bool false,Value.slice none 0 0] 186);have HB:=hdd hb4;have H1:=hdd (h.below hb4);have H2:=hdd (h'.below hb4);have HS:=hdd hs4;have B3:=hdd b3;have B4:=hdd b4;have HP:=hdd hp;have HQ:=hdd hq;obtain⟨c0,c1,c2,-,-,-⟩:=cells3 b1;obtain⟨d0,d1,d2,-,-,-⟩:=cells3 b2;clear h h' hb4 b1 b2 b3 b4 hs4 hp hq;by_cases hle:x.exp<=y.exp
 . obtain⟨d,hd⟩:∃d:Nat,(d:Int)=y.exp-x.exp:=⟨(y.exp-x.exp).toNat,by omega⟩
   have hwr:IntKind.i64.wrap (y.exp-x.exp)=(d:Int):=by rw[wrap_i64 (by omega)];omega
   obtain⟨ys,hy1,hy2,hy3,hy4⟩:=H2.out.get;have HRG:=hdd (gY (n:=d) (hy1.below ((bd8 _ _).drew (w:=w4))) (by omega) (fU hy1.ok hy2 (by rw[hy3];exact hLy)));have HFX:Hid (dG x y=x.man):=hdd (by unfold dG;rw[if_pos hle]);have HFY:Hid (dH x y=sg bb (val ys*2^d)):=hdd (by
    unfold dH;rw[if_pos hle,hy3,kZ,hy4,lL];have:(y.exp-x.exp).toNat=d:=by omega
    rw[this])
   have HM:Hid (min x.exp y.exp=x.exp):=hdd (by omega);have hled:=hle;clear hy1 hy2 hy3 hy4 hLx hLy he he' hd;go_enter Tryz.func204,Tryz.ntmps204
   go_wp2_with fail
   have n1:w.heap.size+1+1≠w.heap.size:=by omega
   have n2:w.heap.size+1+1≠w.heap.size+1:=by omega
   have n3:w.heap.size+1+1+1≠w.heap.size:=by omega
   have n4:w.heap.size+1+1+1≠w.heap.size+1:=by omega
   go_region_held3 (fun w'=>w'.cell? ⟨w.heap.size,0,none⟩=some (.bool ba)/\w'.cell? ⟨w.heap.size,1,none⟩=some (.slice A n c)/\w'.cell? ⟨w.heap.size,2,none⟩=some (.int .i64 x.exp)/\w'.cell? ⟨w.heap.size+1,0,none⟩=some (.bool bb)/\w'.cell? ⟨w.heap.size+1,1,none⟩=some (.slice A' n' c')/\w'.cell? ⟨w.heap.size+1,2,none⟩=some (.int .i64 y.exp)) (go_keep)
    (first
    |(go_at_call 259
      refine HRG.out.mono ?_;rintro r w5⟨hb,v5,zs,rfl,hz,tz,hvz⟩;have HB5:Hid (Below w4.heap.size w4 w5):=hdd ((bd8 _ _).drew.trans hb);have c0:=cbl c0 HB5.out;have c1:=cbl c1 HB5.out;have c2:=cbl c2 HB5.out;have d0:=cbl d0 HB5.out;have d1:=cbl d1 HB5.out;have d2:=cbl d2 HB5.out;have HMK:=hdd (dD (b:=bb) hz);have HVZ:=hdd hvz;clear hb hz tz hvz)
    |(go_at_call 200
      refine HMK.out.mono ?_;rintro r w6⟨hb,v6,hz⟩;obtain⟨rfl,hz⟩:=hz;obtain⟨b6,A6,n6,c6,rfl⟩:=hz.shape;have c0:=cbl c0 hb;have c1:=cbl c1 hb;have c2:=cbl c2 hb;have d0:=cbl d0 hb;have d1:=cbl d1 hb;have d2:=cbl d2 hb;have HSZ:=hdd HB5.out.size;have HB5:=hdd (HB5.out.trans (hb.mono HB5.out.size));have HF:=hdd hz;have B35:=hdd (hbl B3.out HB5.out);have B45:=hdd (hbl B4.out HB5.out);obtain⟨e0,e1,e2,e3⟩:=aB B35.out;obtain⟨f0,f1,f2,f3⟩:=aB B45.out;clear hb hz))
   have HSS:=HS.out;have hszz:=HSZ.out;have hX:IntP (fun b=>b≠w.heap.size+2/\b≠w.heap.size+2+1) _ (.agg #[.bool ba,.slice A n c]) x.man:=(H1.out.below HB5.out).weak fun b hb _=>by have:=HP.out b hb;omega
   have hY:IntP (fun b=>b≠w.heap.size+2/\b≠w.heap.size+2+1) _ (.agg #[.bool b6,.slice A6 n6 c6]) (sg bb (val zs)):=HF.out.weak fun b hb _=>by omega
   obtain⟨HFF,hF1,hF2⟩:=vU (E:=x.exp) (HB.out.trans (HB5.out.mono HB.out.size)) (g:=w.heap.size+2) (by omega) B35.out B45.out rfl rfl rfl rfl (fun b hb=>hb) hX hY;replace hF1:=hdd hF1;replace hF2:=hdd hF2;clear hX hY HSS hszz n1 n2 n3 n4;go_wp2;obtain⟨r0,r1,-,-⟩:=aB hF1.out;obtain⟨r2,r3,-,-⟩:=aB hF2.out;refine bodyPost_ret (v:=.tuple #[.agg #[_,_],.agg #[_,_],_]) (by simp[results,Tryz.results204,go_sem,r0,r1,r2,r3];first|exact⟨⟨rfl,rfl⟩,⟨rfl,rfl⟩,rfl⟩|rfl) rfl ?_;exact yE HFF.out HFX.out.symm (by rw[HVZ.out,HFY.out]) HM.out.symm
 . obtain⟨d,hd⟩:∃d:Nat,(d:Int)=x.exp-y.exp:=⟨(x.exp-y.exp).toNat,by omega⟩
   have hwr:IntKind.i64.wrap (x.exp-y.exp)=(d:Int):=by rw[wrap_i64 (by omega)];omega
   obtain⟨ys,hy1,hy2,hy3,hy4⟩:=H1.out.get;have HRG:=hdd (gY (n:=d) (hy1.below ((bd8 _ _).drew (w:=w4))) (by omega) (fU hy1.ok hy2 (by rw[hy3];exact hLx)));have HFY:Hid (dH x y=y.man):=hdd (by unfold dH;rw[if_neg hle]);have HFX:Hid (dG x y=sg ba (val ys*2^d)):=hdd (by
    unfold dG;rw[if_neg hle,hy3,kZ,hy4,lL];have:(x.exp-y.exp).toNat=d:=by omega
    rw[this])
   have HM:Hid (min x.exp y.exp=y.exp):=hdd (by omega);have hled:=hle;clear hy1 hy2 hy3 hy4 hLx hLy he he' hd;go_enter Tryz.func204,Tryz.ntmps204
   go_wp2_with fail
   have n1:w.heap.size+1+1≠w.heap.size:=by omega
   have n2:w.heap.size+1+1≠w.heap.size+1:=by omega
   have n3:w.heap.size+1+1+1≠w.heap.size:=by omega
   have n4:w.heap.size+1+1+1≠w.heap.size+1:=by omega
   go_region_held3 (fun w'=>w'.cell? ⟨w.heap.size,0,none⟩=some (.bool ba)/\w'.cell? ⟨w.heap.size,1,none⟩=some (.slice A n c)/\w'.cell? ⟨w.heap.size,2,none⟩=some (.int .i64 x.exp)/\w'.cell? ⟨w.heap.size+1,0,none⟩=some (.bool bb)/\w'.cell? ⟨w.heap.size+1,1,none⟩=some (.slice A' n' c')/\w'.cell? ⟨w.heap.size+1,2,none⟩=some (.int .i64 y.exp)) (go_keep)
    (first
    |(go_at_call 259
      refine HRG.out.mono ?_;rintro r w5⟨hb,v5,zs,rfl,hz,tz,hvz⟩;have HB5:Hid (Below w4.heap.size w4 w5):=hdd ((bd8 _ _).drew.trans hb);have c0:=cbl c0 HB5.out;have c1:=cbl c1 HB5.out;have c2:=cbl c2 HB5.out;have d0:=cbl d0 HB5.out;have d1:=cbl d1 HB5.out;have d2:=cbl d2 HB5.out;have HMK:=hdd (dD (b:=ba) hz);have HVZ:=hdd hvz;clear hb hz tz hvz)
    |(go_at_call 200
      refine HMK.out.mono ?_;rintro r w6⟨hb,v6,hz⟩;obtain⟨rfl,hz⟩:=hz;obtain⟨b6,A6,n6,c6,rfl⟩:=hz.shape;have c0:=cbl c0 hb;have c1:=cbl c1 hb;have c2:=cbl c2 hb;have d0:=cbl d0 hb;have d1:=cbl d1 hb;have d2:=cbl d2 hb;have HSZ:=hdd HB5.out.size;have HB5:=hdd (HB5.out.trans (hb.mono HB5.out.size));have HF:=hdd hz;have B35:=hdd (hbl B3.out HB5.out);have B45:=hdd (hbl B4.out HB5.out);obtain⟨e0,e1,e2,e3⟩:=aB B35.out;obtain⟨f0,f1,f2,f3⟩:=aB B45.out;clear hb hz))
   have HSS:=HS.out;have hszz:=HSZ.out;have hX:IntP (fun b=>b≠w.heap.size+2/\b≠w.heap.size+2+1) _ (.agg #[.bool b6,.slice A6 n6 c6]) (sg ba (val zs)):=HF.out.weak fun b hb _=>by omega
   have hY:IntP (fun b=>b≠w.heap.size+2/\b≠w.heap.size+2+1) _ (.agg #[.bool bb,.slice A' n' c']) y.man:=(H2.out.below HB5.out).weak fun b hb _=>by have:=HQ.out b hb;omega
   obtain⟨HFF,hF1,hF2⟩:=vU (E:=y.exp) (HB.out.trans (HB5.out.mono HB.out.size)) (g:=w.heap.size+2) (by omega) B35.out B45.out rfl rfl rfl rfl (fun b hb=>hb) hX hY;replace hF1:=hdd hF1;replace hF2:=hdd hF2;clear hX hY HSS hszz n1 n2 n3 n4;go_wp2;obtain⟨r0,r1,-,-⟩:=aB hF1.out;obtain⟨r2,r3,-,-⟩:=aB hF2.out;refine bodyPost_ret (v:=.tuple #[.agg #[_,_],.agg #[_,_],_]) (by simp[results,Tryz.results204,go_sem,r0,r1,r2,r3];first|exact⟨⟨rfl,rfl⟩,⟨rfl,rfl⟩,rfl⟩|rfl) rfl ?_;exact yE HFF.out (by rw[HVZ.out,HFX.out]) HFY.out.symm HM.out.symm
theorem dN(n k:Nat):bits (n*2^k)<=bits n+k:=by
 rw[aF,beH];exact Nat.mul_lt_mul_of_pos_right (bN n) (beE k)
theorem sD(m n:Nat):bits (m+n)<=bits m+bits n+1:=by
 rw[aF];have h1:=bN m;have h2:=bN n;have h3:2^bits m<=2^(bits m+bits n):=beF (by omega) (by omega);have h4:2^bits n<=2^(bits m+bits n):=beF (by omega) (by omega);rw[Nat.pow_succ];omega
def SmD(d:Dy):Prop:=bits d.man.natAbs<=134217728/\-67108864<=d.exp/\d.exp<=67108864
theorem abZ(hx:SmD x)(hy:SmD y):bits (dG x y).natAbs<=268435456:=by
 obtain⟨h1,h2,h3⟩:=hx;obtain⟨k1,k2,k3⟩:=hy;rw[iB,beB,bd9];have:=dN x.man.natAbs (x.exp-min x.exp y.exp).toNat;omega
theorem ab0(hx:SmD x)(hy:SmD y):bits (dH x y).natAbs<=268435456:=by
 obtain⟨h1,h2,h3⟩:=hx;obtain⟨k1,k2,k3⟩:=hy;rw[iC,beB,bd9];have:=dN y.man.natAbs (y.exp-min x.exp y.exp).toNat;omega
theorem akT{x y:Int}(hx:bits x.natAbs<=268435456)(hy:bits y.natAbs<=268435456):bits (x+y).natAbs<=1073741824:=by
 have h1:bits (x+y).natAbs<=bits (x.natAbs+y.natAbs):=bZ (by omega);have:=sD x.natAbs y.natAbs;omega
theorem ab1(hx:DyP p w va x)(hy:DyP q w vb y)(hT:Tab w)(hp:∀b,p b->b<w.heap.size)(hq:∀b,q b->b<w.heap.size)(sx:SmD x)(sy:SmD y):
 Calls Tryz.prog 271 #[va,vb] w (RetD w.heap.size w (addD x y)):=by
 obtain⟨ba,A,n,c,rfl,h⟩:=hx;obtain⟨bb,A',n',c',rfl,h'⟩:=hy;obtain⟨w3,hw3,hb3,hs3,b1,b2,b3⟩:=pro3 w (.cells #[Value.bool ba,.slice A n c,.int .i64 x.exp] 233) (.cells #[Value.bool bb,.slice A' n' c',.int .i64 y.exp] 233) (.cells #[Value.bool false,Value.slice none 0 0,.int .i64 0] 233);have HB:=hdd hb3;have H1:=hdd (h.below hb3);have H2:=hdd (h'.below hb3);have HT:=hdd (hT.below hb3);have HS:=hdd hs3;have B3:=hdd b3;have HP:=hdd hp;have HQ:=hdd hq;have SX:=hdd sx;have SY:=hdd sy;obtain⟨c0,c1,c2,-,-,-⟩:=cells3 b1;obtain⟨d0,d1,d2,-,-,-⟩:=cells3 b2;have D1:Hid (DyP p w3 (.agg #[.bool ba,.slice A n c,.int .i64 x.exp]) x):=hdd ⟨_,_,_,_,rfl,H1.out⟩;have D2:Hid (DyP q w3 (.agg #[.bool bb,.slice A' n' c',.int .i64 y.exp]) y):=hdd ⟨_,_,_,_,rfl,H2.out⟩;have HSZ3:Hid (w3.heap.size<=w3.heap.size):=hdd nlr;clear h h' hb3 b1 b2 b3 hs3 hT hp hq sx sy;go_enter Tryz.func271,Tryz.ntmps271
 go_wp2_with fail
 refine(cO D1.out).mono ?_;rintro r w4⟨rfl,hb⟩;replace c0:=cbl c0 hb;replace c1:=cbl c1 hb;replace c2:=cbl c2 hb;replace d0:=cbl d0 hb;replace d1:=cbl d1 hb;replace d2:=cbl d2 hb;replace HB:=hdd (HB.out.trans (hb.mono HB.out.size));replace D1:=hdd (D1.out.below hb);replace D2:=hdd (D2.out.below hb);replace HT:=hdd (HT.out.below hb);replace H1:=hdd (H1.out.below hb);replace H2:=hdd (H2.out.below hb);replace B3:=hdd (hbl B3.out hb);have HS4:=hdd hb.size;clear hb hw3;by_cases hz:x.man=0
 . have hs:(x.man.sign==0)=true:=by rw[hz];rfl
   have HADD:Hid (addD x y=mkDy y.man y.exp):=hdd (by unfold addD;rw[if_pos hz]);clear hz;have HMK:=hdd (dC (e:=y.exp) H2.out HT.out (by have:=SY.out.1;omega) (by have:=SY.out.2;omega));go_wp2_with fail
   refine HMK.out.mono ?_;rintro r w5⟨hb,v5,rfl,hz⟩;obtain⟨b6,A6,n6,c6,rfl,-⟩:=id hz;have B35:=hbl B3.out hb;obtain⟨e0,e1,e2,e3,e4,e5⟩:=cells3 B35;obtain⟨HFF,hFF⟩:=aK (HB.out.trans (hb.mono HB.out.size)) (g:=w.heap.size+2) (by omega) B35 hz (fun b hb=>by have:=HS.out;have:=HS4.out;omega);replace hFF:=hdd hFF;clear hz hb B35 c0 c1 c2 d0 d1 d2;go_wp2;obtain⟨f0,f1,f2,-,-,-⟩:=cells3 hFF.out;refine bodyPost_ret (v:=.agg #[_,_,_]) (by simp[results,Tryz.results271,go_sem,f0,f1,f2];first|exact⟨rfl,rfl,rfl⟩|rfl) rfl ?_;rw[HADD.out];exact HFF.out
 . have hs:(x.man.sign==0)=false:=beq_eq_false_iff_ne.2 (fun h=>hz (bd7.1 h))
   have HZ:=hdd hz;clear hz;go_wp2_with fail
   refine(cO D2.out).mono ?_;rintro r w5⟨rfl,hb⟩;replace c0:=cbl c0 hb;replace c1:=cbl c1 hb;replace c2:=cbl c2 hb;replace d0:=cbl d0 hb;replace d1:=cbl d1 hb;replace d2:=cbl d2 hb;replace HB:=hdd (HB.out.trans (hb.mono HB.out.size));replace D1:=hdd (D1.out.below hb);replace D2:=hdd (D2.out.below hb);replace HT:=hdd (HT.out.below hb);replace H1:=hdd (H1.out.below hb);replace H2:=hdd (H2.out.below hb);replace B3:=hdd (hbl B3.out hb);replace HS4:=hdd (beD HS4.out hb.size);clear hb;by_cases hz:y.man=0
   . have hs2:(y.man.sign==0)=true:=by rw[hz];rfl
     have HADD:Hid (addD x y=mkDy x.man x.exp):=hdd (by unfold addD;rw[if_neg HZ.out,if_pos hz]);clear hz;have HMK:=hdd (dC (e:=x.exp) H1.out HT.out (by have:=SX.out.1;omega) (by have:=SX.out.2;omega));go_wp2_with fail
     refine HMK.out.mono ?_;rintro r w6⟨hb,v5,rfl,hz⟩;obtain⟨b6,A6,n6,c6,rfl,-⟩:=id hz;have B35:=hbl B3.out hb;obtain⟨e0,e1,e2,e3,e4,e5⟩:=cells3 B35;obtain⟨HFF,hFF⟩:=aK (HB.out.trans (hb.mono HB.out.size)) (g:=w.heap.size+2) (by omega) B35 hz (fun b hb=>by have:=HS.out;have:=HS4.out;omega);replace hFF:=hdd hFF;clear hz hb B35 c0 c1 c2 d0 d1 d2;go_wp2;obtain⟨f0,f1,f2,-,-,-⟩:=cells3 hFF.out;refine bodyPost_ret (v:=.agg #[_,_,_]) (by simp[results,Tryz.results271,go_sem,f0,f1,f2];first|exact⟨rfl,rfl,rfl⟩|rfl) rfl ?_;rw[HADD.out];exact HFF.out
   . have hs2:(y.man.sign==0)=false:=beq_eq_false_iff_ne.2 (fun h=>hz (bd7.1 h))
     have HADD:Hid (addD x y=mkDy (dG x y+dH x y) (min x.exp y.exp)):=hdd (by unfold addD;rw[if_neg HZ.out,if_neg hz]);clear hz;have HAL:=hdd (yF D1.out D2.out (fun b hb=>by have:=HP.out b hb;have:=HB.out.size;omega) (fun b hb=>by have:=HQ.out b hb;have:=HB.out.size;omega) SX.out.1 SY.out.1 SX.out.2 SY.out.2);have BA:=hdd (abZ SX.out SY.out);have BB:=hdd (ab0 SX.out SY.out);have HE:Hid (-1000000000000<=min x.exp y.exp/\min x.exp y.exp<=1000000000000):=hdd (by have:=SX.out.2;have:=SY.out.2;omega);generalize dG x y=X at*;generalize dH x y=Y at*;generalize min x.exp y.exp=E at*;go_wp2_with fail
     refine HAL.out.mono ?_;rintro r w6⟨hb,u1,U1,m1,k1,u2,U2,m2,k2,rfl,hX,hY⟩;have hX':=hX.weak (q:=fun b=>b<w6.heap.size) fun b _ h=>h;have hY':=hY.weak (q:=fun b=>b<w6.heap.size) fun b _ h=>h;replace HB:=hdd (HB.out.trans (hb.mono HB.out.size));replace HT:=hdd (HT.out.below hb);replace B3:=hdd (hbl B3.out hb);replace HS4:=hdd (beD HS4.out hb.size);obtain⟨w8,hw8,hb8,hs8,q1,q2⟩:=pro2 w6 (.cells #[Value.bool false,Value.slice none 0 0] 186) (.cells #[Value.bool false,Value.slice none 0 0] 186);obtain⟨g0,g1,g2,g3⟩:=aB q1;obtain⟨i0,i1,i2,i3⟩:=aB q2;clear c0 c1 c2 d0 d1 d2 D1 D2 H1 H2;have r1:=set2 q1 (.bool u1) (.slice U1 m1 k1);have q2':((w8.setCell ⟨w6.heap.size,0,none⟩ (.bool u1)).setCell ⟨w6.heap.size,1,none⟩ (.slice U1 m1 k1)).heap[w6.heap.size+1]? =some (.cells #[Value.bool false,Value.slice none 0 0] 186 (0,0)):=by
      rw[bd6 _ _ _ _ (by simp),bd6 _ _ _ _ (by simp)];exact q2
     have r2:=set2 q2' (.bool u2) (.slice U2 m2 k2);have r1':((((w8.setCell ⟨w6.heap.size,0,none⟩ (.bool u1)).setCell ⟨w6.heap.size,1,none⟩ (.slice U1 m1 k1)).setCell ⟨w6.heap.size+1,0,none⟩ (.bool u2)).setCell ⟨w6.heap.size+1,1,none⟩ (.slice U2 m2 k2)).heap[w6.heap.size]? =some (.cells #[.bool u1,.slice U1 m1 k1] 186 (0,0)):=by
      rw[bd6 _ _ _ _ (by simp),bd6 _ _ _ _ (by simp)];exact r1
     have hbb:Below w6.heap.size w6 ((((w8.setCell ⟨w6.heap.size,0,none⟩ (.bool u1)).setCell ⟨w6.heap.size,1,none⟩ (.slice U1 m1 k1)).setCell ⟨w6.heap.size+1,0,none⟩ (.bool u2)).setCell ⟨w6.heap.size+1,1,none⟩ (.slice U2 m2 k2)):=(((hb8.setCell (by simp) _).setCell (by simp) _).setCell (by simp) _).setCell (by simp) _;have HXX:=hdd (hX'.below hbb);have HYY:=hdd (hY'.below hbb);have HBB:=hdd hbb;have HR1:=hdd r1';have HR2:=hdd r2;clear hX hY hX' hY' hb hb8 hs8 q1 q2 q2' r1 r1' r2 hbb;obtain⟨w9,hw9,hb9,hs9,q9⟩:=pro1 ((((w8.setCell ⟨w6.heap.size,0,none⟩ (.bool u1)).setCell ⟨w6.heap.size,1,none⟩ (.slice U1 m1 k1)).setCell ⟨w6.heap.size+1,0,none⟩ (.bool u2)).setCell ⟨w6.heap.size+1,1,none⟩ (.slice U2 m2 k2)) (.cells #[.bool u2,.slice U2 m2 k2] 186);have hsz8:((((w8.setCell ⟨w6.heap.size,0,none⟩ (.bool u1)).setCell ⟨w6.heap.size,1,none⟩ (.slice U1 m1 k1)).setCell ⟨w6.heap.size+1,0,none⟩ (.bool u2)).setCell ⟨w6.heap.size+1,1,none⟩ (.slice U2 m2 k2)).heap.size=w8.heap.size:=by simp[World.setCell]
     rw[hsz8]at hb9 hs9 q9;obtain⟨j0,j1,-,-⟩:=aB HR1.out;obtain⟨l0,l1,-,-⟩:=aB HR2.out;have hb69:=HBB.out.trans (hb9.mono (by have:=HBB.out.size;omega));have HADDI:=hdd (aiR (HXX.out.below (by rw[hsz8];exact hb9)) q9 (HYY.out.below (by rw[hsz8];exact hb9)) (by have:=BA.out;have:=BB.out;omega));have HB9:=hdd hb69;clear hb9 hs9 q9 hb69 HXX HYY HBB HR1 HR2;go_wp2_with fail
     refine HADDI.out.mono ?_;rintro r w10⟨hb,v10,rfl,hz⟩;replace HB9:=hdd (HB9.out.trans (hb.mono HB9.out.size));have HSZ:=hdd hb.size;have HMK:=hdd (dC (e:=E) hz (HT.out.below HB9.out) (akT BA.out BB.out) HE.out);clear hb hz g0 g1 g2 g3 i0 i1 i2 i3 j0 j1 l0 l1 hw8 hw9 hsz8;go_wp2_with fail
     refine HMK.out.mono ?_;rintro r w11⟨hb,v5,rfl,hz⟩;obtain⟨b6,A6,n6,c6,rfl,-⟩:=id hz;have hb9:=HB9.out.trans (hb.mono HB9.out.size);have B35:=hbl B3.out hb9;obtain⟨e0,e1,e2,e3,e4,e5⟩:=cells3 B35;obtain⟨HFF,hFF⟩:=aK (HB.out.trans (hb9.mono HB.out.size)) (g:=w.heap.size+2) (by omega) B35 hz (fun b hb=>by have:=HS.out;have:=HS4.out;have:=HB9.out.size;omega);replace hFF:=hdd hFF;clear hz hb B35 hb9;go_wp2;obtain⟨f0,f1,f2,-,-,-⟩:=cells3 hFF.out;refine bodyPost_ret (v:=.agg #[_,_,_]) (by simp[results,Tryz.results271,go_sem,f0,f1,f2];first|exact⟨rfl,rfl,rfl⟩|rfl) rfl ?_;rw[HADD.out];exact HFF.out
theorem jS{n:Nat}(hn:n≠0)(k:Nat):bits (n*2^k)=bits n+k:=by
 refine Nat.le_antisymm (dN n k) ?_;rcases beG (bits (n*2^k)) (bits n+k)with h|h
 . exfalso
   have hb:bits n≠0:=fun h'=>hn ((bO _).1 h');have h1:=(aF (n*2^k) (bits n-1+k)).1 (by omega);rw[beH]at h1;have h2:=dZ n hn;have:=Nat.mul_le_mul_right (2^k) h2;omega
 . exact h
theorem eX(x y:Dy):(dG x y).sign=x.man.sign:=by
 have:=beE (x.exp-min x.exp y.exp).toNat;rw[iB,beI,beA (a:=((2^(x.exp-min x.exp y.exp).toNat:Nat):Int)) (by omega),beJ]
theorem iM(x y:Dy):(dH x y).sign=y.man.sign:=by
 have:=beE (y.exp-min x.exp y.exp).toNat;rw[iC,beI,beA (a:=((2^(y.exp-min x.exp y.exp).toNat:Nat):Int)) (by omega),beJ]
theorem yG(hx:x.man≠0):topD x-min x.exp y.exp=bits (dG x y).natAbs:=by
 rw[iB,beB,bd9,jS (by omega)];unfold topD;rw[if_neg hx];omega
theorem yH(hy:y.man≠0):topD y-min x.exp y.exp=bits (dH x y).natAbs:=by
 rw[iC,beB,bd9,jS (by omega)];unfold topD;rw[if_neg hy];omega
theorem am2{x y:Dy}(h:x.man.sign<y.man.sign):cmpD x y=-1:=rR (by rw[eX,iM];exact h)
theorem am3{x y:Dy}(h:y.man.sign<x.man.sign):cmpD x y=1:=rT (by rw[eX,iM];exact h)
theorem ag3{x y:Dy}(h:x.man.sign=y.man.sign)(h0:x.man.sign=0):cmpD x y=0:=by
 have h1:dG x y=0:=bd7.1 (by rw[eX];exact h0);have h2:dH x y=0:=bd7.1 (by rw[iM,<-h];exact h0);unfold cmpD;rw[h1,h2];rfl
theorem akU{x y:Dy}(h:x.man.sign=y.man.sign)(h0:x.man.sign≠0)(ht:topD x<topD y):cmpD x y=-x.man.sign:=by
 have hx:x.man≠0:=fun e=>h0 (by rw[e];rfl);have hy:y.man≠0:=fun e=>h0 (by rw[h,e];rfl);have h1:=yG (y:=y) hx;have h2:=yH (x:=x) hy;have hlt:(dG x y).natAbs<(dH x y).natAbs:=by
  rcases beG (dG x y).natAbs (dH x y).natAbs with h|h
  . exact h
  . have:=bZ h;omega
 unfold cmpD;rw[lM (by rw[eX,iM];exact h),eX];unfold cmpN;rw[if_pos hlt];omega
theorem ag4{x y:Dy}(h:x.man.sign=y.man.sign)(h0:x.man.sign≠0)(ht:topD y<topD x):cmpD x y=x.man.sign:=by
 have hx:x.man≠0:=fun e=>h0 (by rw[e];rfl);have hy:y.man≠0:=fun e=>h0 (by rw[h,e];rfl);have h1:=yG (y:=y) hx;have h2:=yH (x:=x) hy;have hlt:(dH x y).natAbs<(dG x y).natAbs:=by
  rcases beG (dH x y).natAbs (dG x y).natAbs with h|h
  . exact h
  . have:=bZ h;omega
 unfold cmpD;rw[lM (by rw[eX,iM];exact h),eX];unfold cmpN;rw[if_neg (by omega),if_pos hlt];omega
theorem akV(hx:DyP p w va x)(hy:DyP q w vb y)(hp:∀b,p b->b<w.heap.size)(hq:∀b,q b->b<w.heap.size)(sx:SmD x)(sy:SmD y):
 Calls Tryz.prog 153 #[va,vb] w (RetK w (cmpD x y)):=by
 obtain⟨ba,A,n,c,rfl,h⟩:=hx;obtain⟨bb,A',n',c',rfl,h'⟩:=hy;obtain⟨w2,hw2,hb2,hs2,b1,b2⟩:=pro2 w (.cells #[Value.bool ba,.slice A n c,.int .i64 x.exp] 233) (.cells #[Value.bool bb,.slice A' n' c',.int .i64 y.exp] 233);have HB:=hdd hb2;have HS:=hdd hs2;have HP:=hdd hp;have HQ:=hdd hq;have SX:=hdd sx;have SY:=hdd sy;obtain⟨c0,c1,c2,-,-,-⟩:=cells3 b1;obtain⟨d0,d1,d2,-,-,-⟩:=cells3 b2;have D1:Hid (DyP p w2 (.agg #[.bool ba,.slice A n c,.int .i64 x.exp]) x):=hdd ⟨_,_,_,_,rfl,h.below hb2⟩;have D2:Hid (DyP q w2 (.agg #[.bool bb,.slice A' n' c',.int .i64 y.exp]) y):=hdd ⟨_,_,_,_,rfl,h'.below hb2⟩;clear h h' hb2 b1 b2 hs2 hp hq sx sy;go_enter Tryz.func153,Tryz.ntmps153
 go_wp2_with fail
 have HSA:Hid (∀w',Below w2.heap.size w2 w'->Calls Tryz.prog 202 #[.agg #[.bool ba,.slice A n c,.int .i64 x.exp]] w' (RetK w' x.man.sign)):=hdd fun w' h=>cO (D1.out.below h);have HSB:Hid (∀w',Below w2.heap.size w2 w'->Calls Tryz.prog 202 #[.agg #[.bool bb,.slice A' n' c',.int .i64 y.exp]] w' (RetK w' y.man.sign)):=hdd fun w' h=>cO (D2.out.below h);have HTA:Hid (∀w',Below w2.heap.size w2 w'->Calls Tryz.prog 203 #[.agg #[.bool ba,.slice A n c,.int .i64 x.exp]] w' (RetK w' (topD x))):=hdd fun w' h=>qD (D1.out.below h) (by have:=SX.out.2;omega);have HTB:Hid (∀w',Below w2.heap.size w2 w'->Calls Tryz.prog 203 #[.agg #[.bool bb,.slice A' n' c',.int .i64 y.exp]] w' (RetK w' (topD y))):=hdd fun w' h=>qD (D2.out.below h) (by have:=SY.out.2;omega);have HBW:Below w2.heap.size w2 w2.drew:=(bd8 _ _).drew;replace c0:=cbl c0 HBW;replace c1:=cbl c1 HBW;replace c2:=cbl c2 HBW;replace d0:=cbl d0 HBW;replace d1:=cbl d1 HBW;replace d2:=cbl d2 HBW
 go_region_held3 (fun w'=>w'.cell? ⟨w.heap.size,0,none⟩=some (.bool ba)/\w'.cell? ⟨w.heap.size,1,none⟩=some (.slice A n c)/\w'.cell? ⟨w.heap.size,2,none⟩=some (.int .i64 x.exp)/\w'.cell? ⟨w.heap.size+1,0,none⟩=some (.bool bb)/\w'.cell? ⟨w.heap.size+1,1,none⟩=some (.slice A' n' c')/\w'.cell? ⟨w.heap.size+1,2,none⟩=some (.int .i64 y.exp)) (go_keep)
  (first
  |(go_at_call 202
    with_reducible refine(HSA.out _ (by assumption)).mono ?_
    rintro e w3⟨rfl,hb⟩;have c0:=cbl c0 hb;have c1:=cbl c1 hb;have c2:=cbl c2 hb;have d0:=cbl d0 hb;have d1:=cbl d1 hb;have d2:=cbl d2 hb;have HBW:=aA HBW hb)
  |(go_at_call 202
    with_reducible refine(HSB.out _ (by assumption)).mono ?_
    rintro e w4⟨rfl,hb⟩;have c0:=cbl c0 hb;have c1:=cbl c1 hb;have c2:=cbl c2 hb;have d0:=cbl d0 hb;have d1:=cbl d1 hb;have d2:=cbl d2 hb;have HBW:=aA HBW hb))
 have HB3:=hdd (HB.out.trans (HBW.mono HB.out.size));have HW3:=hdd HBW;have HLT:=hdd (@am2 x y);have HGT:=hdd (@am3 x y);have HEQ:=hdd (@ag3 x y);have HTL:=hdd (@akU x y);have HTG:=hdd (@ag4 x y);clear HBW HSA HSB hw2;have hsb:-1<=x.man.sign/\x.man.sign<=1:=by
  rcases beC x.man 0 with h|h|h
  . rw[Int.sign_eq_neg_one_of_neg h];omega
  . rw[h];decide
  . rw[beA h];omega
 generalize x.man.sign=s at*;generalize y.man.sign=t at*;rcases beC s t with h|h|h
 . have h2:=HLT.out h
   have HF:Hid (RetK w (cmpD x y) (.returned (.int .i64 (-1))) _):=hdd ⟨by rw[h2],HB3.out⟩;clear h2;go_wp2;go_ret;exact HF.out
 . subst h
   by_cases hz:s=0
   . have h2:=HEQ.out rfl hz
     have hz2:(s==0)=true:=by rw[hz];rfl
     have HF:Hid (RetK w (cmpD x y) (.returned (.int .i64 0)) _):=hdd ⟨by rw[h2],HB3.out⟩;clear h2 hz;go_wp2;go_ret;exact HF.out
   . have hz2:(s==0)=false:=beq_eq_false_iff_ne.2 hz
     have HTL2:=hdd (HTL.out rfl hz);have HTG2:=hdd (HTG.out rfl hz);clear HLT HGT HEQ HTL HTG;go_wp2_with fail
     have HBW:Below w2.heap.size w2 w4.drew:=HW3.out.drew;have hdr:Below w4.heap.size w4 w4.drew:=(bd8 _ _).drew;replace c0:=cbl c0 hdr;replace c1:=cbl c1 hdr;replace c2:=cbl c2 hdr;replace d0:=cbl d0 hdr;replace d1:=cbl d1 hdr;replace d2:=cbl d2 hdr;clear hdr
     go_region_held3 (fun w'=>w'.cell? ⟨w.heap.size,0,none⟩=some (.bool ba)/\w'.cell? ⟨w.heap.size,1,none⟩=some (.slice A n c)/\w'.cell? ⟨w.heap.size,2,none⟩=some (.int .i64 x.exp)/\w'.cell? ⟨w.heap.size+1,0,none⟩=some (.bool bb)/\w'.cell? ⟨w.heap.size+1,1,none⟩=some (.slice A' n' c')/\w'.cell? ⟨w.heap.size+1,2,none⟩=some (.int .i64 y.exp)) (go_keep)
      (first
      |(go_at_call 203
        with_reducible refine(HTA.out _ (by assumption)).mono ?_
        rintro e w5⟨rfl,hb⟩;have c0:=cbl c0 hb;have c1:=cbl c1 hb;have c2:=cbl c2 hb;have d0:=cbl d0 hb;have d1:=cbl d1 hb;have d2:=cbl d2 hb;have HBW:=aA HBW hb)
      |(go_at_call 203
        with_reducible refine(HTB.out _ (by assumption)).mono ?_
        rintro e w6⟨rfl,hb⟩;have c0:=cbl c0 hb;have c1:=cbl c1 hb;have c2:=cbl c2 hb;have d0:=cbl d0 hb;have d1:=cbl d1 hb;have d2:=cbl d2 hb;have HBW:=aA HBW hb))
     have HB6:=hdd (HB.out.trans (HBW.mono HB.out.size));replace D1:=hdd (D1.out.below HBW);replace D2:=hdd (D2.out.below HBW);clear HBW HTA HTB HB3 HW3;generalize topD x=m at*;generalize topD y=n at*;rcases beC m n with h|h|h
     . have h2:=HTL2.out h
       have hw:IntKind.i64.wrap (-s)=-s:=wrap_i64 (by omega);have hw2:IntKind.i64.wrap (0-s)=-s:=by rw[wrap_i64 (by omega)];omega
       have HF:Hid (RetK w (cmpD x y) (.returned (.int .i64 (-s))) _):=hdd ⟨by rw[h2],HB6.out⟩;clear h2;go_wp2;go_ret;exact HF.out
     . subst h
       clear HTL2 HTG2;go_wp2_with fail
       refine(yF D1.out D2.out (fun b hb=>by have:=HP.out b hb;have:=HB6.out.size;omega) (fun b hb=>by have:=HQ.out b hb;have:=HB6.out.size;omega) SX.out.1 SY.out.1 SX.out.2 SY.out.2).mono ?_;rintro r w7⟨hb,u1,U1,m1,k1,u2,U2,m2,k2,rfl,hX,hY⟩;have hX':=hX.weak (q:=fun b=>b<w7.heap.size) fun b _ h=>h;have hY':=hY.weak (q:=fun b=>b<w7.heap.size) fun b _ h=>h;replace HB6:=hdd (HB6.out.trans (hb.mono HB6.out.size));obtain⟨w8,hw8,hb8,hs8,q1,q2⟩:=pro2 w7 (.cells #[Value.bool false,Value.slice none 0 0] 186) (.cells #[Value.bool false,Value.slice none 0 0] 186);obtain⟨g0,g1,g2,g3⟩:=aB q1;obtain⟨i0,i1,i2,i3⟩:=aB q2;clear c0 c1 c2 d0 d1 d2 D1 D2;have r1:=set2 q1 (.bool u1) (.slice U1 m1 k1);have q2':((w8.setCell ⟨w7.heap.size,0,none⟩ (.bool u1)).setCell ⟨w7.heap.size,1,none⟩ (.slice U1 m1 k1)).heap[w7.heap.size+1]? =some (.cells #[Value.bool false,Value.slice none 0 0] 186 (0,0)):=by
        rw[bd6 _ _ _ _ (by simp),bd6 _ _ _ _ (by simp)];exact q2
       have r2:=set2 q2' (.bool u2) (.slice U2 m2 k2);have r1':((((w8.setCell ⟨w7.heap.size,0,none⟩ (.bool u1)).setCell ⟨w7.heap.size,1,none⟩ (.slice U1 m1 k1)).setCell ⟨w7.heap.size+1,0,none⟩ (.bool u2)).setCell ⟨w7.heap.size+1,1,none⟩ (.slice U2 m2 k2)).heap[w7.heap.size]? =some (.cells #[.bool u1,.slice U1 m1 k1] 186 (0,0)):=by
        rw[bd6 _ _ _ _ (by simp),bd6 _ _ _ _ (by simp)];exact r1
       have hbb:Below w7.heap.size w7 ((((w8.setCell ⟨w7.heap.size,0,none⟩ (.bool u1)).setCell ⟨w7.heap.size,1,none⟩ (.slice U1 m1 k1)).setCell ⟨w7.heap.size+1,0,none⟩ (.bool u2)).setCell ⟨w7.heap.size+1,1,none⟩ (.slice U2 m2 k2)):=(((hb8.setCell (by simp) _).setCell (by simp) _).setCell (by simp) _).setCell (by simp) _;obtain⟨j0,j1,-,-⟩:=aB r1';obtain⟨l0,l1,-,-⟩:=aB r2;have HCI:=hdd (aiT (hX'.below hbb) (hY'.below hbb));have HB8:=hdd (HB6.out.trans (hbb.mono HB6.out.size));clear hX hY hX' hY' hb hb8 hs8 q1 q2 q2' r1 r1' r2 hbb;go_wp2_with fail
       refine HCI.out.mono ?_;rintro r w9⟨rfl,hb⟩;have HF:Hid (RetK w (cmpD x y) (.returned (.int .i64 (cmpD x y))) _):=hdd ⟨rfl,HB8.out.trans (hb.mono HB8.out.size)⟩;clear hb;go_wp2;go_ret;exact HF.out
     . have h2:=HTG2.out h
       have h3:¬m<n:=by omega
       have HF:Hid (RetK w (cmpD x y) (.returned (.int .i64 s)) _):=hdd ⟨by rw[h2],HB6.out⟩;clear h2;go_wp2;go_ret;exact HF.out
 . have h2:=HGT.out h
   have HF:Hid (RetK w (cmpD x y) (.returned (.int .i64 1)) _):=hdd ⟨by rw[h2],HB3.out⟩;have h3:¬s<t:=by omega
   clear h2;go_wp2;go_ret;exact HF.out
end Go.Proofs.YtigoiiekebccnaaGreatDoor
