/- The law holds: the Go function answers true for every input that its row speaks of, and leaves its arguments as they were. -/
import Derived.Test.YtigoiiekebccnaaGreatDoorK35
set_option linter.unusedVariables false
set_option linter.unusedSimpArgs false
set_option linter.unnecessarySimpa false
set_option maxHeartbeats 25600000
set_option maxRecDepth 100000
namespace Go.Proofs.YtigoiiekebccnaaGreatDoor
open Go.RowKit Go.Maps
open Bool renaming false_eq_true->bjV,false_and->bjY,and_false->bjZ,and_true->bj0
open Decidable renaming em->bjX
open List renaming mem_singleton->bjW
variable{n:Int}{xs:List Int}{b:Nat}{v:Value}{w:World}
structure ScrW(w:World):Prop where
 mx:∃m,w.cell? ⟨1,0,none⟩=some (.int .i64 m)
 t10:T10 w
 ety:ErTy w
 tab:Tab w
 tlt:6<w.heap.size
theorem ScrW.low {w':World}(h:ScrW w)(hb:Below w.heap.size w w'):ScrW w':=by
 obtain⟨m,hm⟩:=h.mx;exact⟨⟨m,cbl hm hb⟩,h.t10.low hb,h.ety.low hb,h.tab.below hb,Nat.lt_of_lt_of_le h.tlt hb.size⟩
theorem run_2b(h:ScrW w):Calls Tryz.prog 15 #[.string ⟨#[105,110,116,32,50,10,114,111,111,116,32,48,10,109,117,108,32,49,32,49,10,99,109,112,32,50,32,48]⟩] w (RetV w (.string ⟨#[62,32,105,110,116,32,50,10,48,10,62,32,114,111,111,116,32,48,10,49,10,62,32,109,117,108,32,49,32,49,10,50,10,62,32,99,109,112,32,50,32,48,10,48,10]⟩)):=by
 obtain⟨m,hm⟩:=h.mx;have:=apS hm h.t10 h.tab h.tlt;rwa[ao6]at this
theorem run_1b(h:ScrW w):Calls Tryz.prog 15 #[.string ⟨#[105,110,116,32,50,10,114,111,111,116,32,48,10,98,97,100]⟩] w (RetV w (.string ⟨#[101,114,114,32,54,32,51,10]⟩)):=by
 obtain⟨m,hm⟩:=h.mx;exact apR hm h.t10 h.ety
theorem alive_28(h:ScrW w):Calls Tryz.prog 6 #[] w (RetV w (.bool true)):=by
 have H1:=hdd (run_1b h);have HW:=hdd h;clear h;go_enter Tryz.func6,Tryz.ntmps6
 go_wp2_with fail
 refine H1.out.mono ?_;rintro e w1⟨rfl,hb1⟩;have H2:=hdd (run_2b (HW.out.low hb1));have HB:=hdd hb1;clear hb1 H1;go_wp2_with fail
 refine H2.out.mono ?_;rintro e w2⟨rfl,hb2⟩;have HF:=hdd (aA HB.out hb2);clear hb2;go_wp2;go_ret;exact⟨rfl,HF.out⟩
theorem steps_one{x:ByteArray}(hb:w.heap[b]? =some (.cells #[.string x,v] 27 (0,0)))(hI:IntS w v xs):zM w (.slice (some ⟨b,0,none⟩) 1 1) [(x,xs)]:=by
 obtain⟨c0,c1,-,-⟩:=aB hb;refine⟨_,_,rfl,fun j y hj=> ?_⟩
 match j,hj with
 |0,hj=>
  obtain rfl:(x,xs)=y:=by simpa using hj
  exact⟨b,v,rfl,c0,c1,hI⟩
theorem print_one{x:ByteArray}:kX [(x,xs)]=if dE x xs then .inl (joinL x xs++[10])else .inr 6:=by
 unfold kX jI qA;simp
theorem ints_one(h:w.heap[b]? =some (.cells #[.int .i64 n] 3 (0,0))):IntS w (.slice (some ⟨b,0,none⟩) 1 1) [n]:=by
 refine⟨_,_,rfl,Nat.le_refl _,by decide,fun j y hj=> ?_⟩
 match j,hj with
 |0,hj=>
  obtain rfl:n=y:=by simpa using hj
  exact⟨b,0,rfl,gH (k:=0) h rfl⟩
theorem fits_int:dE ⟨#[105,110,116]⟩ [n]=inR n:=by
 show([n].all inR&&_)=_;rw[List.all_cons,List.all_nil,bj0];exact bj0 _
theorem scriptSteps_walk{x:ByteArray}(hW:ScrW w)(hI:IntS w v xs):Calls Tryz.prog 4 #[.agg #[.string x,v],.int .i64 n] w (RetV w (.bool true)):=by
 obtain⟨p,c,rfl,-⟩:=id hI;obtain⟨wa,hwa,hba,hsa,ba⟩:=pro1 w (.cells #[.string x,.slice p xs.length c] 27);obtain⟨wb,hwb,hbb,hsb,bb⟩:=pro1 wa (.cells #[.string x,.slice p xs.length c] 27);obtain⟨y0,y1,-,-⟩:=aB ba;have HBB:=hdd (aA hba hbb);have HLT:=hdd (ah1 bb (hI.below HBB.out));have HW:=hdd hW;have HI:=hdd hI;have HBA:=hdd hba;have HB0:Hid (∀w',Below wa.heap.size wa w'->w'.heap[w.heap.size]? =some (.cells #[.string x,.slice p xs.length c] 27 (0,0))):=hdd fun w' h=>aC ba h (aD ba);have HBW:=hdd hbb;obtain⟨Lt,hLt⟩:∃Lt,(decide (x.size<=40)&&decide (xs.length<=20))=Lt:=⟨_,rfl⟩;rw[hLt]at HLT;have HLE:=hdd hLt;clear hba hsa ba hbb hsb bb hW hI hLt;rcases Lt with _|_
 . go_enter Tryz.func4,Tryz.ntmps4
   go_wp2_with fail
   refine HLT.out.mono ?_;rintro e wc⟨rfl,hbc⟩;have HAL:=hdd (alive_28 (HW.out.low (aA HBB.out hbc)));have HBC:=hdd (aA HBB.out hbc);clear hbc HLT;go_wp2_with fail
   refine HAL.out.mono ?_;rintro e wd⟨rfl,hbd⟩;have HF:=hdd (aA HBC.out hbd);clear hbd;go_wp2;go_ret;exact⟨rfl,HF.out⟩
 . have hx40:xs.length<=20:=by
    have:=HLE.out;rw[Bool.and_eq_true,decide_eq_true_eq,decide_eq_true_eq]at this;exact this.2
   have HX:=hdd hx40;clear hx40;go_enter Tryz.func4,Tryz.ntmps4
   go_wp2_with fail
   refine HLT.out.mono ?_;rintro e wc⟨rfl,hbc⟩;have HAL:=hdd (alive_28 (HW.out.low (aA HBB.out hbc)));have HBC:=hdd (aA HBW.out hbc);clear hbc HLT y0 y1;go_wp2_with fail
   refine HAL.out.mono ?_;rintro e wd⟨rfl,hbd⟩;have HBD:=hdd (aA HBC.out hbd);obtain⟨y0,y1,-,-⟩:=aB (HB0.out wd HBD.out);obtain⟨we,hwe,hbe,hse,be⟩:=pro1 wd (.cells #[.string x,.slice p xs.length c] 27);have HBE:=hdd (aA HBD.out hbe);have HPR:=hdd (qZ (HW.out.low (aA HBA.out HBE.out)).t10 (steps_one be (HI.out.below (aA HBA.out HBE.out))) (by simp) (fun y hy=>by
    obtain rfl:=bjW.1 hy;have:=HX.out;show xs.length<=1000;omega))
   rw[print_one]at HPR;clear hbd hbe hse be HAL;obtain⟨F,hF⟩:∃F,dE x xs=F:=⟨_,rfl⟩;have HFE:=hdd hF;rw[hF]at HPR;clear hF;rcases F with _|_
   . simp only[bjV,if_false]at HPR
     go_wp2_with fail
     refine HPR.out.mono ?_;rintro e wf⟨hbf,rfl⟩;have HBF:=hdd (aA HBE.out (aA hbf (Below.refl _ _).drew));obtain⟨y0,y1,-,-⟩:=aB (HB0.out wf.drew HBF.out);have HSY:=hdd (abF (s:=x) (w:=wf.drew) (HI.out.below (aA HBA.out HBF.out)) (by have:=HX.out;omega));rw[HFE.out]at HSY;clear hbf HPR;go_wp2_with fail
     go_region_held3 (fun w'=>w'.cell? ⟨w.heap.size,0,none⟩=some (.string x)/\w'.cell? ⟨w.heap.size,1,none⟩=some (.slice p xs.length c)) (go_keep)
      (first
      |(go_at_call 13
        refine HSY.out.mono ?_;rintro e wg⟨rfl,hbg⟩;have HBG:=hdd (aA HBF.out hbg);obtain⟨y0,y1,-,-⟩:=aB (HB0.out wg HBG.out);clear hbg))
     obtain⟨wh,hwh,hbh,hsh,bh⟩:=pro1 wg (.cells #[.int .i64 n] 3);obtain⟨wi,hwi,hbi,hsi,bi⟩:=pro1 wh (.cells #[.string ⟨#[105,110,116]⟩,.slice (some ⟨wg.heap.size,0,none⟩) 1 1] 27);have HBI:=hdd (aA HBG.out (aA hbh hbi));have HPN:=hdd (qZ (HW.out.low (aA HBA.out HBI.out)).t10 (steps_one bi (ints_one (aC bh hbi (aD bh)))) (by simp) (fun y hy=>by
      obtain rfl:=bjW.1 hy;show[n].length<=1000;simp))
     rw[print_one,fits_int]at HPN;clear hbh hsh bh hbi hsi bi;rcases bjX (n< -1000000)with h1|h1
     . have h1':¬(-1000000<=n):=by omega
       rw[show inR n=false by unfold inR;rw[decide_eq_false h1',bjY]]at HPN;simp only[bjV,if_false]at HPN;go_wp2_with fail
       refine HPN.out.mono ?_;rintro e wj⟨hbj,rfl⟩;have HF:=hdd (aA HBA.out (aA HBI.out hbj));clear hbj;go_wp2;go_ret;exact⟨by first|rfl|simp[h1'],HF.out⟩
     . have h1':-1000000<=n:=by omega
       rcases bjX (1000000<n)with h2|h2
       . have h2':¬(n<=1000000):=by omega
         rw[show inR n=false by unfold inR;rw[decide_eq_false h2',bjZ]]at HPN;simp only[bjV,if_false]at HPN;go_wp2_with fail
         refine HPN.out.mono ?_;rintro e wj⟨hbj,rfl⟩;have HF:=hdd (aA HBA.out (aA HBI.out hbj));clear hbj;go_wp2;go_ret;exact⟨by first|rfl|simp[h1',h2'],HF.out⟩
       . have h2':n<=1000000:=by omega
         rw[show inR n=true by unfold inR;rw[decide_eq_true h1',decide_eq_true h2'];rfl]at HPN;simp only[if_true]at HPN;go_wp2_with fail
         refine HPN.out.mono ?_;rintro e wj⟨hbj,rfl⟩;have HF:=hdd (aA HBA.out (aA HBI.out hbj));clear hbj;go_wp2;go_ret;exact⟨by first|rfl|simp[h1',h2'],HF.out⟩
   . simp only[if_true]at HPR
     have hjl:(joinL x xs).length<=70:=qB (x:=(x,xs)) HFE.out;obtain⟨J,hJ⟩:∃J:ByteArray,(⟨(joinL x xs++[10]).toArray⟩:ByteArray)=J:=⟨_,rfl⟩;have hJs:J.size<=71:=by rw[<-hJ];show(joinL x xs++[10]).toArray.size<=71;rw[List.size_toArray,List.length_append,List.length_singleton];omega
     have HJE:Hid (J.data.toList=joinL x xs++[10]):=hdd (by rw[<-hJ]);have HPS:=hdd (HPR.out.mono fun e w' h=>(⟨h.2.trans (by rw[<-hJ]),h.1⟩:e=.returned (.tuple #[.string J,.nilIface])/\Below we.heap.size we w'));have j1:¬(9223372036854775807<2+J.size):=by omega
     have j2:¬(9223372036854775807<2+J.size+6):=by omega
     clear hJ hjl hJs;go_wp2_with fail
     refine HPS.out.mono ?_;rintro e wf⟨rfl,hbf⟩;have HBF:=hdd (aA HBE.out (aA hbf (Below.refl _ _).drew));obtain⟨y0,y1,-,-⟩:=aB (HB0.out wf.drew HBF.out);have HSY:=hdd (abF (s:=x) (w:=wf.drew) (HI.out.below (aA HBA.out HBF.out)) (by have:=HX.out;omega));rw[HFE.out]at HSY;clear hbf HPR;go_wp2_with fail
     go_region_held3 (fun w'=>w'.cell? ⟨w.heap.size,0,none⟩=some (.string x)/\w'.cell? ⟨w.heap.size,1,none⟩=some (.slice p xs.length c)) (go_keep)
      (first
      |(go_at_call 13
        refine HSY.out.mono ?_;rintro e wg⟨rfl,hbg⟩;have HBG:=hdd (aA HBF.out hbg);obtain⟨y0,y1,-,-⟩:=aB (HB0.out wg HBG.out);clear hbg))
     obtain⟨mx,hmx⟩:=(HW.out.low (aA HBA.out HBG.out)).mx;have HPA:=hdd (oG (s:=⟨#[32,32]⟩++J++⟨#[10,32,32,32,10,35]⟩) hmx);rw[ac1 HFE.out (by rw[ByteArray.data_append,ByteArray.data_append,Array.toList_append,Array.toList_append,HJE.out])]at HPA;clear hmx;go_wp2_with fail
     refine HPA.out.mono ?_;rintro e wk⟨hbk,ls,rfl,hls⟩;obtain⟨pl,cl,e1,hcl⟩:=hls;replace e1:ls=.slice pl 1 cl:=e1;subst e1;obtain⟨lb,u,rfl,z0,z1,hu⟩:=hcl 0 (x,xs) rfl;obtain⟨pu,cu,rfl,-⟩:=id hu;have HBK:=hdd (aA HBG.out (aA hbk (Below.refl _ _).drew));obtain⟨y0,y1,-,-⟩:=aB (HB0.out wk.drew HBK.out);replace z0:wk.drew.cell? ⟨lb,0,none⟩=some (.string x):=z0;replace z1:wk.drew.cell? ⟨lb,1,none⟩=some (.slice pu xs.length cu):=z1;have HSM:=hdd (same_eq (x:=x) (w:=wk.drew) (hu.below (Below.refl _ _).drew) (HI.out.below (aA HBA.out HBK.out)) (by have:=HX.out;show xs.length<=1000000;omega));clear hbk hcl hu HPA;go_wp2_with fail
     go_region_held3 (fun w'=>w'.cell? ⟨w.heap.size,0,none⟩=some (.string x)/\w'.cell? ⟨w.heap.size,1,none⟩=some (.slice p xs.length c)/\w'.cell? ⟨lb,0,none⟩=some (.string x)/\w'.cell? ⟨lb,1,none⟩=some (.slice pu xs.length cu)) (go_keep)
      (first
      |(go_at_call 14
        refine HSM.out.mono ?_;rintro e wl⟨rfl,hbl⟩;have HBL:=hdd (aA HBK.out hbl);replace z0:=cbl z0 hbl;replace z1:=cbl z1 hbl;obtain⟨y0,y1,-,-⟩:=aB (HB0.out wl HBL.out);clear hbl))
     obtain⟨wh,hwh,hbh,hsh,bh⟩:=pro1 wl (.cells #[.int .i64 n] 3);obtain⟨wi,hwi,hbi,hsi,bi⟩:=pro1 wh (.cells #[.string ⟨#[105,110,116]⟩,.slice (some ⟨wl.heap.size,0,none⟩) 1 1] 27);have HBI:=hdd (aA HBL.out (aA hbh hbi));have HPN:=hdd (qZ (HW.out.low (aA HBA.out HBI.out)).t10 (steps_one bi (ints_one (aC bh hbi (aD bh)))) (by simp) (fun y hy=>by
      obtain rfl:=bjW.1 hy;show[n].length<=1000;simp))
     rw[print_one,fits_int]at HPN;clear hbh hsh bh hbi hsi bi;rcases bjX (n< -1000000)with h1|h1
     . have h1':¬(-1000000<=n):=by omega
       rw[show inR n=false by unfold inR;rw[decide_eq_false h1',bjY]]at HPN;simp only[bjV,if_false]at HPN;go_wp2_with fail
       refine HPN.out.mono ?_;rintro e wj⟨hbj,rfl⟩;have HF:=hdd (aA HBA.out (aA HBI.out hbj));clear hbj;go_wp2;go_ret;exact⟨by first|rfl|simp[h1'],HF.out⟩
     . have h1':-1000000<=n:=by omega
       rcases bjX (1000000<n)with h2|h2
       . have h2':¬(n<=1000000):=by omega
         rw[show inR n=false by unfold inR;rw[decide_eq_false h2',bjZ]]at HPN;simp only[bjV,if_false]at HPN;go_wp2_with fail
         refine HPN.out.mono ?_;rintro e wj⟨hbj,rfl⟩;have HF:=hdd (aA HBA.out (aA HBI.out hbj));clear hbj;go_wp2;go_ret;exact⟨by first|rfl|simp[h1',h2'],HF.out⟩
       . have h2':n<=1000000:=by omega
         rw[show inR n=true by unfold inR;rw[decide_eq_true h1',decide_eq_true h2'];rfl]at HPN;simp only[if_true]at HPN;go_wp2_with fail
         refine HPN.out.mono ?_;rintro e wj⟨hbj,rfl⟩;have HF:=hdd (aA HBA.out (aA HBI.out hbj));clear hbj;go_wp2;go_ret;exact⟨by first|rfl|simp[h1',h2'],HF.out⟩
end Go.Proofs.YtigoiiekebccnaaGreatDoor
