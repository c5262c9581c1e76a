/- A part of the proof: contracts of functions and plain laws (SgA, SgB, SgC, SgD, FtA, FeA, QlA, FtB, QlL). -/
import Derived.Test.YtjaafolhfihegaaGreatDoorM32
import Derived.Test.YtjaafolhfihegaaGreatDoorM16
import Derived.Test.YtjaafolhfihegaaGreatDoorM08
import Derived.Test.YtjaafolhfihegaaGreatDoorM18
import Derived.Deep.Cut
import Derived.Deep.DeepCutAuto
import Derived.Test.YtjaafolhfihegaaGreatDoorM10
set_option linter.unusedVariables false
set_option linter.unusedSimpArgs false
set_option maxHeartbeats 25600000
set_option maxRecDepth 100000
namespace Go.Proofs.YtjaafolhfihegaaGreatDoor
open Go.RowKit Go.Maps
open Go.RowKit.Below renaming refl->biG,heap_setCell->biJ
open List renaming getElem?_eq_getElem->biH,mem_of_getElem?->biK
open Option.some renaming inj->biI
variable{a e e0:Ex}{l:List Nat}{ns:List Nd}{K g i j jj mg ms q:Nat}{v v0:Re}{m s s':Value->Option Value}{w w' w1 w3 w5 wa:World}
theorem ways(w:World)(T:TypeId):∃w1,w.alloc (.cells #[.bool false,.int .i64 0] T)=w1/\∃w2,w1.alloc (.cells #[.bool false,.int .i64 0] T)=w2/\(w2.cell? ⟨w1.heap.size,0,none⟩=some (.bool false)/\w2.cell? ⟨w1.heap.size,1,none⟩=some (.int .i64 0)/\w2.frozen? ⟨w1.heap.size,0,none⟩=false/\w2.frozen? ⟨w1.heap.size,1,none⟩=false)/\
 ∃w3,(w2.setCell ⟨w1.heap.size,0,none⟩ (.bool true)).setCell ⟨w1.heap.size,1,none⟩ (.int .i64 32)=w3/\(w3.cell? ⟨w1.heap.size,0,none⟩=some (.bool true)/\w3.cell? ⟨w1.heap.size,1,none⟩=some (.int .i64 32)/\w3.frozen? ⟨w1.heap.size,0,none⟩=false/\w3.frozen? ⟨w1.heap.size,1,none⟩=false)/\
 ∃w4,w3.setCell ⟨w1.heap.size,1,none⟩ (.int .i64 (min 32 65536))=w4/\(w4.cell? ⟨w1.heap.size,0,none⟩=some (.bool true)/\w4.cell? ⟨w1.heap.size,1,none⟩=some (.int .i64 32)/\w4.frozen? ⟨w1.heap.size,0,none⟩=false/\w4.frozen? ⟨w1.heap.size,1,none⟩=false)/\
  (w4.cell? ⟨w.heap.size,0,none⟩=some (.bool false)/\w4.cell? ⟨w.heap.size,1,none⟩=some (.int .i64 0)/\w4.frozen? ⟨w.heap.size,0,none⟩=false/\w4.frozen? ⟨w.heap.size,1,none⟩=false)/\
 ∃w5,(w4.setCell ⟨w.heap.size,0,none⟩ (.bool true)).setCell ⟨w.heap.size,1,none⟩ (.int .i64 32)=w5/\(w5.cell? ⟨w.heap.size,0,none⟩=some (.bool true)/\w5.cell? ⟨w.heap.size,1,none⟩=some (.int .i64 32))/\Below w.heap.size w w5:=by
 obtain⟨w1,hw1,hb1,hs1,b1⟩:=pro1 w (.cells #[.bool false,.int .i64 0] T);obtain⟨w2,hw2,hb2,hs2,b2⟩:=pro1 w1 (.cells #[.bool false,.int .i64 0] T);have h12:=hbl b1 hb2;have hb:=aC hb1 hb2;have g1:=set2 b2 (.bool true) (.int .i64 32);have g2:=setB g1 (.int .i64 (min 32 65536));have e:(((w2.setCell ⟨w1.heap.size,0,none⟩ (.bool true)).setCell ⟨w1.heap.size,1,none⟩ (.int .i64 32)).setCell ⟨w1.heap.size,1,none⟩ (.int .i64 (min 32 65536))).heap[w.heap.size]? =some (.cells #[.bool false,.int .i64 0] T (0,0)):=by
  rw[biJ _ _ _ _ (by simp;omega),biJ _ _ _ _ (by simp;omega),biJ _ _ _ _ (by simp;omega)];exact h12
 have g3:=set2 e (.bool true) (.int .i64 32);have hk:w.heap.size<=w1.heap.size:=hb1.size;obtain⟨c0,c1,-,-⟩:=aF g3;exact⟨w1,hw1,w2,hw2,aF b2,_,rfl,aF g1,_,rfl,aF g2,aF e,_,rfl,⟨c0,c1⟩,((((hb.setCell hk _).setCell hk _).setCell hk _).setCell nlr _).setCell nlr _⟩
theorem chosen_any:
 Calls Tryz.prog 105 #[.slice none 0 0] w (fun e w'=>e=.returned (.agg #[.bool true,.int .i64 32])/\Below w.heap.size w w'):=by
 obtain⟨w1,hw1,w2,hw2,⟨a0,a1,a2,a3⟩,w3,hw3,⟨b0,b1,b2,b3⟩,w4,hw4,⟨c0,c1,c2,c3⟩,⟨d0,d1,d2,d3⟩,w5,hw5,⟨e0,e1⟩,hb⟩:=ways w 163;have HB:=hdd hb;clear hb;go_enter Tryz.func105,Tryz.ntmps105
 go_wp2;refine bodyPost_ret (v:=.agg #[_,_]) (by simp[results,Tryz.results105,go_sem,e0,e1];first|exact⟨rfl,rfl⟩|rfl) rfl ?_;exact⟨rfl,HB.out⟩
def SM(sg:Nat->Int)(s:Value->Option Value):Prop:=∀i:Nat,s (.int .i64 (i:Int))=none\/s (.int .i64 (i:Int))=some (.int .i64 (sg i))
theorem SM.put {sg:Nat->Int}(h:SM sg s)(hu:Upd s (.int .i64 (i:Int)) (some (.int .i64 (sg i))) s'):SM sg s':=by
 intro j;by_cases hji:j=i
 . subst hji;exact Or.inr hu.1
 . rw[hu.2 _ (fun e=>hji (by injection e with _ e;omega))];exact h j
def JG(w:World)(j ms g:Nat)(ns:List Nd)(l:List Nat):Prop:=∃mg m s,w.heap[j]? =some (.cells #[.pointer (some ⟨g,0,none⟩),.bool true,.int .i64 32,.map (some mg),.map none,.map (some ms)] 197 (0,0))/\
 MapP Tryz.prog 3 w mg m/\MG (gapD ns) m l/\MapP Tryz.prog 3 w ms s/\SM (sgT ns) s/\j≠ms/\mg≠ms
theorem JG.below (h:JG w j ms g ns l)(hb:Below w.heap.size w w'):JG w' j ms g ns l:=by
 obtain⟨mg,m,s,h1,h2,h3,h4,h5,h6,h7⟩:=h;exact⟨mg,m,s,hbl h1 hb,h2.below hb h2.lt,h3,h4.below hb h4.lt,h5,h6,h7⟩
theorem JG.put {S:Int}(h:JG w j ms g ns l)(hb:Below w.heap.size w w1)(hs:SM (sgT ns) s)(hS:sgT ns i=S)(hu:Upd s (.int .i64 (i:Int)) (some (.int .i64 S)) s')(hm:MapP Tryz.prog 3 w' ms s')(hg:w1.grownBy w' (some ms)):JG w' j ms g ns l:=by
 subst hS;obtain⟨mg,m,s0,h1,h2,h3,h4,h5,h6,h7⟩:=h.below hb;refine⟨mg,m,s',?_,h2.keep (hg.block mg h2.lt (fun e=>h7 (biI e))),h3,hm,hs.put hu,h6,h7⟩;rw[hg.block j (aM h1) (fun e=>h6 (biI e))];exact h1
def RetJ(w:World)(g root:Nat)(ns:List Nd)(e:Ending)(w':World):Prop:=Below w.heap.size w w'/\∃j ms l,e=.returned (.pointer (some ⟨j,0,none⟩))/\w.heap.size<=ms/\ms<w'.heap.size/\IsB ns root l/\JG w' j ms g ns l
theorem RetJ.to {w2:World}{root:Nat}{e:Ending}(h:RetJ w g root ns e w1)(hb:Below w1.heap.size w1 w2):RetJ w g root ns e w2:=by
 obtain⟨h1,j,ms,l,e,h2,h3,h4,h5⟩:=h;exact⟨h1.trans (hb.mono h1.size),j,ms,l,e,h2,Nat.lt_of_lt_of_le h3 hb.size,h4,h5.below hb⟩
theorem JG.of (h1:w.heap[j]? =some (.cells #[.pointer (some ⟨g,0,none⟩),.bool true,.int .i64 32,.map (some mg),.map none,.map (some ms)] 197 (0,0)))
 (h2:MapP Tryz.prog 3 w mg m) (h4:MG (gapD ns) m l) (h5:w.heap[ms]? =some (.map #[] 0)) (h6:j≠ms) (h7:mg≠ms):JG w j ms g ns l:=⟨mg,m,_,h1,h2,h4,MapP.made (es:=#[]) h5,fun i=>Or.inl rfl,h6,h7⟩
theorem aeY{w4:World}{root:Nat}(ha:Below w.heap.size w wa)(hb3:Below wa.heap.size wa w3)(hm:MapP Tryz.prog 3 w3 mg m)(hmr:IsB ns root l)(hg:MG (gapD ns) m l)
 (hb4:Below w3.heap.size w3 w4) (b4:w4.heap[w3.heap.size]? =some (.map #[] 0)) (hb5:Below w4.heap.size w4 w5) (b5:w5.heap[w4.heap.size]? =some (.cells #[.pointer (some ⟨g,0,none⟩),.bool true,.int .i64 32,.map (some mg),.map none,.map (some w3.heap.size)] 197 (0,0))):
 RetJ w g root ns (.returned (.pointer (some ⟨w4.heap.size,0,none⟩))) w5:=by
 have h34:=aC hb4 hb5;have q1:=aM b4;have q2:=hm.lt;have h:=JG.of b5 (hm.below h34 hm.lt) hg (hbl b4 hb5) (by omega) (by omega);have hall:=ha.trans ((aC hb3 h34).mono ha.size);exact⟨hall,_,_,l,rfl,by have:=ha.size;have:=hb3.size;omega,by have:=hb5.size;omega,hmr,h⟩
theorem adH{root:Nat}(hms:w.heap.size<=ms)(ha:Below w.heap.size w wa)(hs:wa.heap[ms]? =some (.map #[] 0))(hb3:Below wa.heap.size wa w3)(hne:wa.heap.size<=mg)(hm:MapP Tryz.prog 3 w3 mg m)(hmr:IsB ns root l)(hg:MG (gapD ns) m l)
 (hb5:Below w3.heap.size w3 w5) (b5:w5.heap[w3.heap.size]? =some (.cells #[.pointer (some ⟨g,0,none⟩),.bool true,.int .i64 32,.map (some mg),.map none,.map (some ms)] 197 (0,0))):
 RetJ w g root ns (.returned (.pointer (some ⟨w3.heap.size,0,none⟩))) w5:=by
 have q1:=aM hs;have q2:=hb3.size;have q3:=hb5.size;have h:=JG.of b5 (hm.below hb5 hm.lt) hg (aJ hs (aC hb3 hb5) (aM hs)) (by omega) (by omega);have hall:=ha.trans ((aC hb3 hb5).mono ha.size);exact⟨hall,_,_,l,rfl,hms,by omega,hmr,h⟩
theorem abC{root:Nat}(hd:DagP w g ns)(ok:OkNs ns)(hlf:jL ns)(hro:jM ns)(hr:root<ns.length):
 Calls Tryz.prog 117 #[.pointer (some ⟨g,0,none⟩),.int .i64 (root:Int),.agg #[.bool true,.int .i64 32]] w (RetJ w g root ns):=by
 obtain⟨w1,hw1,hb1,hs1,b1⟩:=pro1 w (.cells #[.bool true,.int .i64 32] 163);obtain⟨c0,c1,-,-⟩:=aF b1;have HB1:=hdd hb1;have HGA:Hid (∀w',Below w.heap.size w w'->Calls Tryz.prog 132 #[.pointer (some ⟨g,0,none⟩),.int .i64 (root:Int)] w' (akR w' ns (gapD ns) root)):=hdd fun w' h=>aaO (hd.below h) ok (aq1 ok) hlf hro hr;have HBW:Below w1.heap.size w1 w1.drew:=(biG _ _).drew;clear hd ok hlf hro hr hb1 b1 hs1;have hmm:=@run_makeMap Tryz.prog;go_enter Tryz.func117,Tryz.ntmps117
 go_wp2_with fail
 obtain⟨w2,hw2,hb2,hs2,b2⟩:=pro1 w1 (.map #[] 0);have e0:=cbl c0 hb2;have e1:=cbl c1 hb2;have HA:=hdd (HB1.out.trans (HBW.mono HB1.out.size));have HX:=hdd (HB1.out.trans ((hb2.drew).mono HB1.out.size));have HB2:=hdd b2;have HBB2:=hdd hb2;clear hb2 b2 hs2
 go_region_held3 (fun w'=>w'.cell? ⟨w.heap.size,0,none⟩=some (.bool true)/\w'.cell? ⟨w.heap.size,1,none⟩=some (.int .i64 32)) (go_keep)
  (first
  |(go_at_call 132
    with_reducible refine(HGA.out _ HA.out).mono ?_
    rintro r w3⟨hb3,mg,m,l,rfl,hmg,hm,hmr,hgs⟩;have c0:=cell_below c0 ((biG _ _).drew.trans hb3) nlr;have c1:=cell_below c1 ((biG _ _).drew.trans hb3) nlr;obtain⟨w4,hw4,hb4,hs4,b4⟩:=pro1 w3 (.map #[] 0);have d0:=cbl c0 hb4;have d1:=cbl c1 hb4;obtain⟨w5,hw5,hb5,hs5,b5⟩:=pro1 w4 (.cells #[.pointer (some ⟨g,0,none⟩),.bool true,.int .i64 32,.map (some mg),.map none,.map (some w3.heap.size)] 197);have x0:=cbl d0 hb5;have x1:=cbl d1 hb5;have HJ:Hid (RetJ w g root ns (.returned (.pointer (some ⟨w4.heap.size,0,none⟩))) w5):=hdd (aeY HA.out hb3 hm hmr hgs hb4 b4 hb5 b5);clear hb3 hmg hm hmr hgs hb4 hs4 b4 hb5 hs5 b5)
  |(go_at_call 132
    with_reducible refine(HGA.out _ HX.out).mono ?_
    rintro r w3⟨hb3,mg,m,l,rfl,hmg,hm,hmr,hgs⟩;have c0:=cell_below e0 ((biG _ _).drew.trans hb3) nlr;have c1:=cell_below e1 ((biG _ _).drew.trans hb3) nlr;obtain⟨w5,hw5,hb5,hs5,b5⟩:=pro1 w3 (.cells #[.pointer (some ⟨g,0,none⟩),.bool true,.int .i64 32,.map (some mg),.map none,.map (some w1.heap.size)] 197);have x0:=cbl c0 hb5;have x1:=cbl c1 hb5;have HJ:Hid (RetJ w g root ns (.returned (.pointer (some ⟨w3.heap.size,0,none⟩))) w5):=hdd (adH HB1.out.size HX.out (aJ HB2.out ((biG _ _).drew) (aM HB2.out)) hb3 hmg hm hmr hgs hb5 b5);clear hb3 hmg hm hmr hgs hb5 hs5 b5))
 all_goals
  go_wp2
  go_quiet (fail)
  go_wp2;go_ret;exact HJ.out.to (below_drewN w5 _)
theorem o9{id:Nat}(hj:JG w j ms g ns l)(hl:id∈l)(hd:DagP w g ns)(ok:OkNs ns)(hlf:jL ns)(hro:jM ns)(hI:Is ns a id)(hG:Gd K jj a v)(hT:Tab w):
 Calls Tryz.prog 106 #[.pointer (some ⟨j,0,none⟩),.int .i64 (id:Int)] w (fun e w'=>e=.returned (.tuple #[.int .i64 (sgT ns id),.nilIface])/\Fr (fun b=>b=ms) w w'/\JG w' j ms g ns l):=by
 have hue:=aq0 (ns:=ns) hG.fin hG.cost;have hpt:Part ns a id:=⟨a,.refl a,hI⟩;have hsg:=abB hI hG.den;have HSE:Hid (∀w',Below w.heap.size w w'->Calls Tryz.prog 123 #[.pointer (some ⟨g,0,none⟩),.int .i64 (id:Int)] w' (adE w' ns (ulT ns id) id)):=hdd fun w' h=>uV (hd.below h) ok hlf hro hue hpt (hT.below h) hI.lt (hG.sepOk hd.uniq hI);have HSR:Hid (∀w' (s:Int) l,Below w.heap.size w w'->IsB ns id l->s=((max (ulT ns id).1 (ulT ns id).2*2^nRt ns l+1:Nat):Int)->s<=32768->Calls Tryz.prog 125 #[.pointer (some ⟨g,0,none⟩),.int .i64 (id:Int),.int .i64 32,.int .i64 s,.bool true] w' (apE w' (sgT ns id))):=hdd fun w' s l h hB hs hle=>by
  rw[hsg];have hf:=hG.fnd ok hd.uniq hI hB;rw[<-hs]at hf;exact adB (hd.below h) ok hlf hro hI hf (hT.below h) (by omega)
 have HK:=hdd (kP (i:=id) (by have:=hd.len;have:=hI.lt;omega));have HJ0:=hdd hj;obtain⟨mg,m,s,b1,hm,hmg,hms,hsm,-,-⟩:=hj;obtain⟨lo,hi,hmr,hg⟩:=hmg.1 id hl;have B1:=hdd b1;have HM:=hdd hm;have HMS:=hdd hms;have HSM:=hdd hsm;have HG1:=hdd (ahB (w:=w) hg.1 hg.2.1);obtain⟨s',hu⟩:=lY s (.int .i64 (id:Int)) (some (.int .i64 (sgT ns id)));have HU:=hdd hu;have HGD:Hid ((m (.int .i64 (id:Int))).getD (.agg #[.float .f64 0,.float .f64 0])=gv lo hi):=hdd (by rw[hmr];rfl);have hok:(fG lo hi).2=true->(fG lo hi).1=sgT ns id:=fun h=>by
  rw[hsg,<-al4];exact aeD hg (x:=v*Re.ofN U74) ⟨a,v,hI,hG.den,rfl⟩ h
 obtain⟨c0,c1,c2,c3,c4,c5⟩:=aN b1;have hcase:=hsm id;clear hd ok hlf hro hT hm hms hu b1 hmr hg hue hpt hsg hI hG hl hmg hsm;obtain⟨S,hS⟩:∃S,sgT ns id=S:=⟨_,rfl⟩;rw[hS]at hok HU HSR hcase|-;have HSS:=hdd hS;clear hS;generalize fG lo hi=G at*;obtain⟨gs,gk⟩:=G;replace hok:gk=true->gs=S:=hok;replace HG1:Hid (Calls Tryz.prog 121 #[gv lo hi] w (uF w gs gk)):=HG1;rcases hcase with hcase|hcase
 . have HSN:Hid ((s (.int .i64 (id:Int))).getD (.int .i64 0)=.int .i64 0):=hdd (by rw[hcase];rfl)
   have HSB:Hid ((s (.int .i64 (id:Int))).isSome=false):=hdd (by rw[hcase];rfl);clear hcase
   cases gk
   . clear hok
     go_enter Tryz.func106,Tryz.ntmps106
     go_wp2_with (first
      |(at_lookup
        refine kM _ rfl _ _ _ rfl _ _ aS dB (fV _) _ s rfl HMS.out (.int .i64 (id:Int)) _ rfl HK.out (.int .i64 0) HSN.out false HSB.out ?_)
      |(at_lookup
        refine bI _ rfl _ _ _ rfl _ _ aS oC (rX _) _ m rfl HM.out (.int .i64 (id:Int)) _ rfl HK.out (gv lo hi) HGD.out ?_))
     refine HG1.out.mono ?_;rintro e w1⟨rfl,hb1⟩;replace c0:=cbl c0 hb1;replace c1:=cbl c1 hb1;replace c2:=cbl c2 hb1;replace c3:=cbl c3 hb1;replace c4:=cbl c4 hb1;replace c5:=cbl c5 hb1;have HB1:=hdd hb1;clear hb1;go_wp2_with fail
     refine(HSE.out _ HB1.out).mono ?_;rintro e w2⟨hb2,sp,l',rfl,hIB,hsp,hspl⟩;have HSC:=hdd (HSR.out _ sp l' (aC (aC HB1.out hb2) (biG _ _).drew) hIB hsp hspl);clear hIB hsp hspl;replace c0:=cbl c0 hb2;replace c1:=cbl c1 hb2;replace c2:=cbl c2 hb2;replace c3:=cbl c3 hb2;replace c4:=cbl c4 hb2;replace c5:=cbl c5 hb2;have HB2:=hdd (aC HB1.out hb2);have HB3:=hdd (aC (aC HB1.out hb2) (biG _ _).drew);clear hb2;go_wp2_with fail
     have hdr:Below w2.heap.size w2 w2.drew:=(biG _ _).drew;replace c0:=cbl c0 hdr;replace c1:=cbl c1 hdr;replace c2:=cbl c2 hdr;replace c3:=cbl c3 hdr;replace c4:=cbl c4 hdr;replace c5:=cbl c5 hdr;clear hdr
     go_region_held3 (fun w'=>w'.cell? ⟨j,0,none⟩=some (.pointer (some ⟨g,0,none⟩))/\w'.cell? ⟨j,2,none⟩=some (.int .i64 32)/\w'.cell? ⟨j,5,none⟩=some (.map (some ms))) (go_keep)
      (first
      |(go_at_call 125
        refine HSC.out.mono ?_;rintro e w4⟨hb4,vw,rfl⟩;have c0:=cbl c0 hb4;have c1:=cbl c1 hb4;have c2:=cbl c2 hb4;have c3:=cbl c3 hb4;have c4:=cbl c4 hb4;have c5:=cbl c5 hb4;have HBF:=hdd (aC HB3.out hb4);have HMF:=hdd (HMS.out.below (aC HB3.out hb4) HMS.out.lt);clear hb4))
     go_wp2_with (first
      |(at_mapUpdate
        refine eZ _ rfl _ _ _ _ rfl _ _ aS dB _ s s' rfl HMF.out (.int .i64 (id:Int)) (.int .i64 S) _ rfl rfl HK.out HU.out ?_;intro w9 HM9 hgr hsz;have HF9:=hdd ((Fr.of_below HBF.out).trans (Fr.of_grown hgr (fun i e=>(biI e).symm)));have HJ9:=hdd (HJ0.out.put HBF.out HSM.out HSS.out HU.out HM9.out hgr);clear hgr hsz))
     go_ret2
     exact⟨rfl,HF9.out,HJ9.out⟩
   . have hgs:S=gs:=(hok rfl).symm
     subst hgs;clear hok;go_enter Tryz.func106,Tryz.ntmps106
     go_wp2_with (first
      |(at_lookup
        refine kM _ rfl _ _ _ rfl _ _ aS dB (fV _) _ s rfl HMS.out (.int .i64 (id:Int)) _ rfl HK.out (.int .i64 0) HSN.out false HSB.out ?_)
      |(at_lookup
        refine bI _ rfl _ _ _ rfl _ _ aS oC (rX _) _ m rfl HM.out (.int .i64 (id:Int)) _ rfl HK.out (gv lo hi) HGD.out ?_))
     refine HG1.out.mono ?_;rintro e w1⟨rfl,hb1⟩;replace c0:=cbl c0 hb1;replace c1:=cbl c1 hb1;replace c2:=cbl c2 hb1;replace c3:=cbl c3 hb1;replace c4:=cbl c4 hb1;replace c5:=cbl c5 hb1;have HBF:=hdd hb1;have HMF:=hdd (HMS.out.below hb1 HMS.out.lt);clear hb1;go_wp2_with (first
      |(at_mapUpdate
        refine eZ _ rfl _ _ _ _ rfl _ _ aS dB _ s s' rfl HMF.out (.int .i64 (id:Int)) (.int .i64 S) _ rfl rfl HK.out HU.out ?_;intro w9 HM9 hgr hsz;have HF9:=hdd ((Fr.of_below HBF.out).trans (Fr.of_grown hgr (fun i e=>(biI e).symm)));have HJ9:=hdd (HJ0.out.put HBF.out HSM.out HSS.out HU.out HM9.out hgr);clear hgr hsz))
     go_ret2
     exact⟨rfl,HF9.out,HJ9.out⟩
 . have HSN:Hid ((s (.int .i64 (id:Int))).getD (.int .i64 0)=.int .i64 S):=hdd (by rw[hcase];rfl)
   have HSB:Hid ((s (.int .i64 (id:Int))).isSome=true):=hdd (by rw[hcase];rfl);clear hcase hok;go_enter Tryz.func106,Tryz.ntmps106
   go_wp2_with (first
    |(at_lookup
      refine kM _ rfl _ _ _ rfl _ _ aS dB (fV _) _ s rfl HMS.out (.int .i64 (id:Int)) _ rfl HK.out (.int .i64 S) HSN.out true HSB.out ?_))
   go_ret2
   exact⟨rfl,Fr.of_below (biG _ _),HJ0.out⟩
def GdAt(ns:List Nd)(i:Nat):Prop:=∃a K j v,Is ns a i/\Gd K j a v
theorem aeZ{x:Nat}{n:Nd}(hp:Part ns e x)(hn:ns[x]? =some n):
 (n.kind≠4/\n.kind≠5)\/(∃a b,∃p q:Nat,n=⟨4,0,p,q⟩/\SubE (.div a b) e/\Is ns b q)\/(∃a,∃p:Nat,n=⟨5,0,p,0⟩/\SubE (.root a) e/\Is ns a p):=by
 obtain⟨a',hs,hi⟩:=hp
 cases a' with
 |leaf v=>have hi:ns[x]? =some ⟨0,v,0,0⟩:=hi;rw[hn]at hi;cases hi;exact Or.inl ⟨show(0:Int)≠4 by decide,show(0:Int)≠5 by decide⟩
 |add a b=>obtain⟨p,q,h,-⟩:=hi;rw[hn]at h;cases h;exact Or.inl ⟨show(1:Int)≠4 by decide,show(1:Int)≠5 by decide⟩
 |sub a b=>obtain⟨p,q,h,-⟩:=hi;rw[hn]at h;cases h;exact Or.inl ⟨show(2:Int)≠4 by decide,show(2:Int)≠5 by decide⟩
 |mul a b=>obtain⟨p,q,h,-⟩:=hi;rw[hn]at h;cases h;exact Or.inl ⟨show(3:Int)≠4 by decide,show(3:Int)≠5 by decide⟩
 |div a b=>obtain⟨p,q,h,-,-,-,h5⟩:=hi;rw[hn]at h;cases h;exact Or.inr (Or.inl ⟨a,b,p,q,rfl,hs,h5⟩)
 |root a=>obtain⟨p,h,-,h3⟩:=hi;rw[hn]at h;cases h;exact Or.inr (Or.inr ⟨a,p,rfl,hs,h3⟩)
theorem aoN{b:Ex}(hd:DenR e v)(hg:AllGd e)(hs:SubE (.div a b) e)(hi:Is ns b q):GdAt ns q/\sgT ns q≠0:=by
 obtain⟨K,j,u,hu⟩:=hg.1 a b hs;refine⟨⟨b,K,j,u,hi,hu⟩,?_⟩;rw[abB hi hu.den];obtain⟨t,ht⟩:=hs.den hd
 cases ht with
 |div h1 h2 h0 hz=>rw[hu.den.uniq h2];exact fun h=>h0 (Re.sgn_eq_zero.1 h)
theorem al5(hd:DenR e v)(hg:AllGd e)(hs:SubE (.root a) e)(hi:Is ns a q):GdAt ns q/\¬sgT ns q<0:=by
 obtain⟨K,j,u,hu⟩:=hg.2 a hs;refine⟨⟨a,K,j,u,hi,hu⟩,?_⟩;rw[abB hi hu.den];obtain⟨t,ht⟩:=hs.den hd
 cases ht with
 |root h1 h0 hz=>
  rw[hu.den.uniq h1];have:(0:Re)<=_:=Re.mul_nonneg h0 h0;rw[hz]at this;rcases Re.sgn_cases _ with ⟨-,h⟩|⟨-,h⟩|⟨h,-⟩
  . rw[h];decide
  . rw[h];decide
  . exact absurd h (Re.not_lt.2 this)
theorem aoO{root:Nat}{m:List Nat}(hl:IsB ns root l)(hm:IsB ns root m):∀x∈l,x∈m:=by
 refine hl.mn (fun x=>x∈m) ?_ hm.rt;intro x n hx hn o ho;obtain⟨y,hy,e⟩:=hm.cl x hx n hn o ho;rw[<-e,Int.toNat_natCast];exact hy
def al6(w:World)(g root:Nat)(ns:List Nd)(e:Ending)(w':World):Prop:=Below w.heap.size w w'/\∃j ms l,e=.returned (.tuple #[.pointer (some ⟨j,0,none⟩),.nilIface])/\w.heap.size<=ms/\IsB ns root l/\JG w' j ms g ns l
theorem abD{root:Nat}(hd:DagP w g ns)(ok:OkNs ns)(hlf:jL ns)(hro:jM ns)(hI:Is ns e0 root)(hde:DenR e0 v0)(hgd:AllGd e0)(hT:Tab w):
 Calls Tryz.prog 104 #[.pointer (some ⟨g,0,none⟩),.int .i64 (root:Int),.agg #[.bool true,.int .i64 32]] w (al6 w g root ns):=by
 obtain⟨w1,hw1,hb1,hs1,b1⟩:=pro1 w (.cells #[.bool true,.int .i64 32] 163);obtain⟨c0,c1,-,-⟩:=aF b1;have hr:=hI.lt;obtain⟨nr,hnr⟩:∃n,ns[root]? =some n:=⟨_,biH hr⟩;have HB1:=hdd hb1;have HN1:=hdd (gG (hd.below hb1) hnr);have HDW:=hdd hd;have HDE:=hdd hde;have HGD:=hdd hgd;have HI0:=hdd hI;have HLN:=hdd hd.len;have HNJ:Hid (∀w',Below w.heap.size w w'->Calls Tryz.prog 117 #[.pointer (some ⟨g,0,none⟩),.int .i64 (root:Int),.agg #[.bool true,.int .i64 32]] w' (RetJ w' g root ns)):=hdd fun w' h=>abC (hd.below h) ok hlf hro hr;have HJS:Hid (∀w' j ms l (p:Nat),Below w.heap.size w w'->JG w' j ms g ns l->p∈l->GdAt ns p->Calls Tryz.prog 106 #[.pointer (some ⟨j,0,none⟩),.int .i64 (p:Int)] w' (fun e w''=>e=.returned (.tuple #[.int .i64 (sgT ns p),.nilIface])/\Fr (fun b=>b=ms) w' w''/\JG w'' j ms g ns l)):=hdd fun w' j ms l p h hj hl ⟨a,K,jj,v,hi,hg⟩=>o9 hj hl (hd.below h) ok hlf hro hi hg (hT.below h);have HBE:Hid (∀w' b0,Below w.heap.size w w'->w'.heap[b0]? =some (.cells #[.int .i64 (root:Int)] 3 (0,0))->Calls Tryz.prog 118 #[.pointer (some ⟨g,0,none⟩),.slice (some ⟨b0,0,none⟩) 1 1] w' (rW w' ns root)):=hdd fun w' b0 h hb=>kT (hd.below h) ok hr hb
 clear hd ok hlf hro hr hb1 b1 hs1 hnr hI hde hgd hT;have hst:=aX;go_enter Tryz.func104,Tryz.ntmps104
 go_wp2_with fail
 refine HN1.out.mono ?_;rintro e w2⟨rfl,hb2⟩;obtain⟨w3,hw3,z0,z1,z2,z3,y0,y1,y2,y3,w4,hw4,hb4,hs4⟩:=new4 w2 149 (.int .i64 0) (.float .f64 0) (.int .i64 0) (.int .i64 0) (.int .i64 nr.kind) (.float .f64 nr.val) (.int .i64 nr.a) (.int .i64 nr.b);have h14:=aC hb2 hb4;replace c0:=cbl c0 h14;replace c1:=cbl c1 h14;have HB4:=hdd (HB1.out.trans (h14.mono HB1.out.size));clear hb2 hb4 hs4 h14;go_wp2_with fail
 refine(HNJ.out _ HB4.out).mono ?_;rintro e w5⟨hb5,j,ms,l0,rfl,hms,hms5,hI0,hjp⟩;obtain⟨w6,hw6,hb6,hs6,b6⟩:=pro1 w5 (.cells #[.int .i64 (root:Int)] 3);have h46:=aC hb5 hb6;have HB6:=hdd (HB4.out.trans (h46.mono HB4.out.size));have HJ6:=hdd (hjp.below hb6);have HIL:=hdd hI0;have HM6:Hid (ms<w6.heap.size):=hdd (by have:=hb6.size;omega);have HMS:=hdd (Nat.le_trans HB4.out.size hms);have HBE6:=hdd (HBE.out w6 _ HB6.out b6);clear hb5 hb6 hs6 b6 h46 hjp hms hms5 hI0 c0 c1 z0 z1 z2 z3 y0 y1 y2 y3 hw3 hw4;go_wp2_with fail
 refine HBE6.out.mono ?_;rintro e w7⟨hb7,v7,l,rfl,hl,hI⟩;obtain⟨bl,cl,rfl,hlc,hcm,-⟩:=id hl;have HL:=hdd hl;have HI:=hdd hI;have HB7:=hdd (HB6.out.trans (hb7.mono HB6.out.size));have HJ7:=hdd (HJ6.out.below hb7);have HMS7:Hid (w.heap.size<=ms):=HMS;have HLL:=hdd (oZ hI HLN.out);clear hb7 hl hI hlc hcm hw6;go_wp2_with fail
 go_loopw [37] (fun i wr=>∃k:Nat,k<=l.length/\i=.int .i64 (k:Int)/\Hid (Fr (fun b=>b=ms) w7 wr)/\Hid (JG wr j ms g ns l0)) (fun i _=>((l.length:Int)-intOf i).toNat)
 case atStart=>exact⟨0,Nat.zero_le _,rfl,hdd (Fr.of_below (biG _ _)),HJ7⟩
 case round=>
  obtain⟨k,hk,rfl,HF,HJR⟩:=hrel;have HBR:Hid (Below w.heap.size w wr):=hdd (HB7.out.trans (HF.out.below HB7.out.size (fun b hb=>by have:=HMS.out;omega)));rcases Nat.lt_or_ge k l.length with hlt|hge
  . obtain⟨x,hx⟩:∃x,l[k]? =some x:=⟨_,biH hlt⟩
    have hxl:x<ns.length:=HI.out.lt x (biK hx);obtain⟨n,hn⟩:∃n,ns[x]? =some n:=⟨_,biH hxl⟩;have cx:=(HL.out.fr HF.out (fun b hb=>by have:=HM6.out;omega)).cell hx;have HN:=hdd (gG (HDW.out.below HBR.out) hn);have hkI:(k:Int)<(l.length:Int):=by omega
    have hk0:(0:Int)<=(k:Int):=by omega
    have hlI:(l.length:Int)<=20000:=by have:=HLL.out;omega
    have HKL:=hdd hlt;have hx0:x∈l0:=aoO HI.out HIL.out x (biK hx);have hkc:=aeZ (abA HIL.out HI0.out x hx0) hn;have HCL:Hid (∀o∈opsN n,∃y∈l0,(y:Int)=o):=hdd (HIL.out.cl x hx0 n hn);clear hx hn hxl hlt hx0;rcases hkc with ⟨hk4,hk5⟩|⟨a,b,p,q,rfl,hs,hi⟩|⟨a,p,rfl,hs,hi⟩
    . go_wp2_with fail
      refine HN.out.mono ?_;rintro e w8⟨rfl,hb8⟩;obtain⟨w9,hw9,z0,z1,z2,z3,y0,y1,y2,y3,wa,hwa,hba,hsa⟩:=new4 w8 149 (.int .i64 0) (.float .f64 0) (.int .i64 0) (.int .i64 0) (.int .i64 n.kind) (.float .f64 n.val) (.int .i64 n.a) (.int .i64 n.b);obtain⟨x0,x1,x2,x3⟩:=aL hsa;have HFa:=hdd (HF.out.trans (Fr.of_below (aC hb8 hba)));have HJa:=hdd (HJR.out.below (aC hb8 hba));clear hb8 hba hsa cx;go_wp2_with fail
      go_roundw
      case rel=>exact⟨k+1,by have:=HKL.out;omega,by go_num,HFa,HJa⟩
      case measure=>have:=HKL.out;simp[intOf];omega
    . obtain⟨hga,hsg⟩:=aoN HDE.out HGD.out hs hi
      have hq0:q∈l0:=by
       obtain⟨y,hy,e⟩:=HCL.out (q:Int) (by simp[opsN]);have:y=q:=by omega
       rw[<-this];exact hy
      have HGA:=hdd hga;have HQ0:=hdd hq0;clear hga hq0 hs hi;dsimp only at HN;go_wp2_with fail
      refine HN.out.mono ?_;rintro e w8⟨rfl,hb8⟩;obtain⟨w9,hw9,z0,z1,z2,z3,y0,y1,y2,y3,wa,hwa,hba,hsa⟩:=new4 w8 149 (.int .i64 0) (.float .f64 0) (.int .i64 0) (.int .i64 0) (.int .i64 4) (.float .f64 0) (.int .i64 (p:Int)) (.int .i64 (q:Int));obtain⟨x0,x1,x2,x3⟩:=aL hsa;have HFa:=hdd (HF.out.trans (Fr.of_below (aC hb8 hba)));have HJa:=hdd (HJR.out.below (aC hb8 hba));have HBa:=hdd (HBR.out.trans ((aC hb8 hba).mono HBR.out.size));clear hb8 hba hsa cx;go_wp2_with fail
      refine(HJS.out _ _ _ _ q HBa.out HJa.out HQ0.out HGA.out).mono ?_;rintro e wb⟨rfl,hfb,hjb⟩;have HFb:=hdd (HFa.out.trans hfb);have HJb:=hdd hjb;clear hfb hjb x0 x1 x2 x3 z0 z1 z2 z3 y0 y1 y2 y3 hw9 hwa;generalize sgT ns q=S at*;go_wp2_with fail
      go_roundw
      case rel=>exact⟨k+1,by have:=HKL.out;omega,by go_num,HFb,HJb⟩
      case measure=>have:=HKL.out;simp[intOf];omega
    . obtain⟨hga,hsg⟩:=al5 HDE.out HGD.out hs hi
      have hq0:p∈l0:=by
       obtain⟨y,hy,e⟩:=HCL.out (p:Int) (by simp[opsN]);have:y=p:=by omega
       rw[<-this];exact hy
      have HGA:=hdd hga;have HQ0:=hdd hq0;clear hga hq0 hs hi;dsimp only at HN;go_wp2_with fail
      refine HN.out.mono ?_;rintro e w8⟨rfl,hb8⟩;obtain⟨w9,hw9,z0,z1,z2,z3,y0,y1,y2,y3,wa,hwa,hba,hsa⟩:=new4 w8 149 (.int .i64 0) (.float .f64 0) (.int .i64 0) (.int .i64 0) (.int .i64 5) (.float .f64 0) (.int .i64 (p:Int)) (.int .i64 0);obtain⟨x0,x1,x2,x3⟩:=aL hsa;have HFa:=hdd (HF.out.trans (Fr.of_below (aC hb8 hba)));have HJa:=hdd (HJR.out.below (aC hb8 hba));have HBa:=hdd (HBR.out.trans ((aC hb8 hba).mono HBR.out.size));clear hb8 hba hsa cx;go_wp2_with fail
      refine(HJS.out _ _ _ _ p HBa.out HJa.out HQ0.out HGA.out).mono ?_;rintro e wb⟨rfl,hfb,hjb⟩;have HFb:=hdd (HFa.out.trans hfb);have HJb:=hdd hjb;clear hfb hjb x0 x1 x2 x3 z0 z1 z2 z3 y0 y1 y2 y3 hw9 hwa;generalize sgT ns p=S at*;go_wp2_with fail
      go_roundw
      case rel=>exact⟨k+1,by have:=HKL.out;omega,by go_num,HFb,HJb⟩
      case measure=>have:=HKL.out;simp[intOf];omega
  . have hke:k=l.length:=by omega
    subst hke;have HRES:Hid (al6 w g root ns (.returned (.tuple #[.pointer (some ⟨j,0,none⟩),.nilIface])) wr):=hdd ⟨HBR.out,j,ms,l0,rfl,HMS.out,HIL.out,HJR.out⟩;clear hk hge;go_wp2
    go_ret2
    exact HRES.out
theorem adI{root:Nat}(hd:DagP w g ns)(ok:OkNs ns)(hlf:jL ns)(hro:jM ns)(hI:Is ns e0 root)(hG:Gd K jj e0 v0)(hgd:AllGd e0)(hT:Tab w):
 Calls Tryz.prog 79 #[.pointer (some ⟨g,0,none⟩),.int .i64 (root:Int),.slice none 0 0] w (fun e w'=>e=.returned (.tuple #[.int .i64 (Re.sgn v0),.nilIface])/\Below w.heap.size w w'):=by
 have HEX:Hid (∀w',Below w.heap.size w w'->Calls Tryz.prog 104 #[.pointer (some ⟨g,0,none⟩),.int .i64 (root:Int),.agg #[.bool true,.int .i64 32]] w' (al6 w' g root ns)):=hdd fun w' h=>abD (hd.below h) ok hlf hro hI hG.den hgd (hT.below h);have HJS:Hid (∀w' j ms l,Below w.heap.size w w'->JG w' j ms g ns l->root∈l->Calls Tryz.prog 106 #[.pointer (some ⟨j,0,none⟩),.int .i64 (root:Int)] w' (fun e w''=>e=.returned (.tuple #[.int .i64 (Re.sgn v0),.nilIface])/\Fr (fun b=>b=ms) w' w''/\JG w'' j ms g ns l)):=hdd fun w' j ms l h hj hl=>by
  have:=o9 hj hl (hd.below h) ok hlf hro hI hG (hT.below h);rwa[abB hI hG.den]at this
 clear hd ok hlf hro hI hG hgd hT;go_enter Tryz.func79,Tryz.ntmps79
 go_wp2_with fail
 refine chosen_any.mono ?_;rintro e w1⟨rfl,hb1⟩;have HB1:=hdd hb1;clear hb1;go_wp2_with fail
 refine(HEX.out _ HB1.out).mono ?_;rintro e w2⟨hb2,j,ms,l,rfl,hms,hIB,hjp⟩;have HB2:=hdd (HB1.out.trans (hb2.mono HB1.out.size));have HMS:=hdd (Nat.le_trans HB1.out.size hms);have HJC:=hdd (HJS.out _ j ms l HB2.out hjp hIB.rt);clear hb2 hms hjp hIB HJS HEX;go_wp2_with fail
 refine HJC.out.mono ?_;rintro e w3⟨rfl,hf,-⟩;have HB3:=hdd (HB2.out.trans (hf.below HB2.out.size (fun b hb=>by have:=HMS.out;omega)));clear hf;go_wp2
 go_ret2
 exact⟨rfl,HB3.out⟩
end Go.Proofs.YtjaafolhfihegaaGreatDoor
namespace Go.Proofs.YtjaafolhfihegaaGreatDoor
open Go.RowKit Go.Maps
open Re (rat ofI ofN)
open Bool renaming and_eq_true->biL
variable{P:Ex->Prop}{ns:List Nd}{K j l:Nat}{v:Re}
theorem aoP(h:AllIs P ns):OkNs ns:=by
 intro i n hn;rcases h.before hn with ⟨h0,-⟩|⟨hk,-,a,b,h1,h2,h3,h4⟩|⟨h5,-,-,a,h1,h2⟩
 . exact⟨Or.inl h0,fun o ho=>by simp[opsN,h0]at ho⟩
 . refine⟨Or.inr (Or.inr (by rcases hk with h|h|h|h<;>omega)),fun o ho=> ?_⟩
   have:n.kind≠0/\n.kind≠5:=by rcases hk with h|h|h|h<;>omega
   simp only[opsN,this.1,this.2,if_false,List.mem_cons,List.not_mem_nil,or_false]at ho;rcases ho with rfl|rfl<;>omega
 . refine⟨Or.inr (Or.inl h5),fun o ho=> ?_⟩
   have:n.kind≠0:=by omega
   rw[show opsN n=[n.a] from by unfold opsN;rw[if_neg this,if_pos h5]]at ho;simp only[List.mem_cons,List.not_mem_nil,or_false]at ho;omega
theorem aiK(h:AllIs P ns):jL ns:=by
 intro i n hn h0;rcases h.before hn with ⟨-,h1,h2⟩|⟨hk,-⟩|⟨h5,-⟩
 . exact⟨h1,h2⟩
 . rcases hk with h|h|h|h<;>omega
 . omega
theorem aiL(h:AllIs P ns):jM ns:=by
 intro i n hn h0;rcases h.before hn with ⟨h1,-⟩|⟨hk,-⟩|⟨-,-,h2,-⟩
 . omega
 . rcases hk with h|h|h|h<;>omega
 . exact h2
theorem al7{x:Ex}(hG:Gd K j x v)(hA:AllGd x):bD P x (Re.sgn v):=
 fun B N w g k ns hs hi=>adI hs.dag (aoP hs.all) (aiK hs.all) (aiL hs.all) hi hG hA hs.tab
theorem AllGd.leaf (v:Nat):AllGd (.leaf v):=⟨fun a b h=>(by cases h),fun a h=>(by cases h)⟩
theorem AllGd.add {a b:Ex}(h:AllGd a)(k:AllGd b):AllGd (.add a b):=
 ⟨fun x y s=>by cases s with|addL s=>exact h.1 x y s|addR s=>exact k.1 x y s,fun x s=>by cases s with|addL s=>exact h.2 x s|addR s=>exact k.2 x s⟩
theorem AllGd.sub {a b:Ex}(h:AllGd a)(k:AllGd b):AllGd (.sub a b):=
 ⟨fun x y s=>by cases s with|subL s=>exact h.1 x y s|subR s=>exact k.1 x y s,fun x s=>by cases s with|subL s=>exact h.2 x s|subR s=>exact k.2 x s⟩
theorem AllGd.mul {a b:Ex}(h:AllGd a)(k:AllGd b):AllGd (.mul a b):=
 ⟨fun x y s=>by cases s with|mulL s=>exact h.1 x y s|mulR s=>exact k.1 x y s,fun x s=>by cases s with|mulL s=>exact h.2 x s|mulR s=>exact k.2 x s⟩
theorem AllGd.div {a b:Ex}(h:AllGd a)(k:AllGd b)(hG:Gd K j b v):AllGd (.div a b):=
 ⟨fun x y s=>by cases s with|refl=>exact⟨_,_,_,hG⟩|divL s=>exact h.1 x y s|divR s=>exact k.1 x y s,fun x s=>by cases s with|divL s=>exact h.2 x s|divR s=>exact k.2 x s⟩
theorem AllGd.root {a:Ex}(h:AllGd a)(hG:Gd K j a v):AllGd (.root a):=
 ⟨fun x y s=>by cases s with|root s=>exact h.1 x y s,fun x s=>by cases s with|refl=>exact⟨_,_,_,hG⟩|root s=>exact h.2 x s⟩
section
variable{L:List Ex}{a b:Ex}{x y z:Re}{k m n:Nat}
end
section
variable{L:List Ex}{b:Nat}{x:Int}
end
inductive Sh where
 |leaf (n l:Nat)
 |add (a b:Sh)
 |mul (a b:Sh)
 |div (a b:Sh)
 |root (a:Sh)
 |lit (c:Ct) (k:Nat)
def Sh.ct (K:Nat):Sh->Ct
 | .leaf n l=>⟨n,65536,n,l,1100⟩
 | .add a b=>lI 65536 (a.ct K) (b.ct K)
 | .mul a b=>uP 65536 (a.ct K) (b.ct K)
 | .div a b=>uQ 65536 K (a.ct K) (b.ct K)
 | .root a=>qV 65536 (a.ct K)
 | .lit c _=>c
def Sh.cost:Sh->Nat
 | .leaf n l=>n+l
 | .add a b=>1+a.cost+b.cost
 | .mul a b=>a.cost+b.cost
 | .div a b=>a.cost+b.cost
 | .root a=>a.cost
 | .lit _ k=>k
def Sh.top (K:Nat)(s:Sh):Bool:=decide (K<=15/\s.cost<=1000000/\(s.ct K).s<=4000000/\max (s.ct K).u (s.ct K).l*2^K+1<=32768/\((max (s.ct K).u (s.ct K).l*2^K+2:Nat):Int)<=(s.ct K).W)
def Sh.ok (K:Nat):Sh->Bool
 | .leaf n l=>decide (n<=53/\l<=1000)
 | .add a b=>a.ok K&&b.ok K
 | .mul a b=>a.ok K&&b.ok K
 | .div a b=>a.ok K&&(b.ok K&&(b.top K&&decide (ctG K (b.ct K)<=(b.ct K).W)))
 | .root a=>a.ok K&&a.top K
 | .lit ..=>true
structure FitC(L:List Ex)(s:Sh)(e:Ex)(v:Re):Prop where
 vl:Vl L 65536 e v (s.ct L.length)
 cost:dI e<=s.cost
 gd:AllGd e
def Fit(L:List Ex)(s:Sh)(e:Ex)(v:Re):Prop:=s.ok L.length=true->FitC L s e v
theorem aqG:(32*2^11:Int)=65536:=by decide
section
variable{L:List Ex}{s t:Sh}{a b:Ex}{x y z:Re}
theorem FitC.good (h:FitC L s a x)(ht:s.top L.length=true):Gd L.length 11 a x:=by
 obtain⟨h1,h2,h3,h4,h5⟩:=of_decide_eq_true ht;have hv:=h.vl;rw[<-aqG]at hv;exact Gd.of hv nlr (by omega) h1 (Nat.le_trans h.cost h2) h3 h4 h5
theorem Fit.add (h:Fit L s a x)(g:Fit L t b y):Fit L (.add s t) (.add a b) (x+y):=fun k=>by
 simp only[Sh.ok,biL]at k;have h:=h k.1;have g:=g k.2;exact⟨Vl.add (by omega) h.vl g.vl,by have:=h.cost;have:=g.cost;simp only[dI,Sh.cost];omega,h.gd.add g.gd⟩
theorem Fit.sub (h:Fit L s a x)(g:Fit L t b y):Fit L (.add s t) (.sub a b) (x-y):=fun k=>by
 simp only[Sh.ok,biL]at k;have h:=h k.1;have g:=g k.2;exact⟨Vl.sub (by omega) h.vl g.vl,by have:=h.cost;have:=g.cost;simp only[dI,Sh.cost];omega,h.gd.sub g.gd⟩
theorem Fit.mul (h:Fit L s a x)(g:Fit L t b y):Fit L (.mul s t) (.mul a b) (x*y):=fun k=>by
 simp only[Sh.ok,biL]at k;have h:=h k.1;have g:=g k.2;exact⟨Vl.mul (by omega) h.vl g.vl,by have:=h.cost;have:=g.cost;simp only[dI,Sh.cost];omega,h.gd.mul g.gd⟩
theorem Fit.div (hL:Lok L)(h:Fit L s a x)(g:Fit L t b y)(h0:y≠0)(hz:z*y=x):Fit L (.div s t) (.div a b) z:=fun k=>by
 simp only[Sh.ok,biL]at k;have h:=h k.1;have g:=g k.2.1;exact⟨Vl.div (by omega) hL h.vl g.vl h0 hz (of_decide_eq_true k.2.2.2),by have:=h.cost;have:=g.cost;simp only[dI,Sh.cost];omega,h.gd.div g.gd (g.good k.2.2.1)⟩
theorem Fit.root (h:Fit L s a x)(h0:0<=y)(hy:y*y=x)(hm:Ex.root a∈L):Fit L (.root s) (.root a) y:=fun k=>by
 simp only[Sh.ok,biL]at k;have h:=h k.1;exact⟨Vl.root (by omega) h.vl h0 hy hm,by have:=h.cost;simp only[dI,Sh.cost];omega,h.gd.root (h.good k.2)⟩
theorem Fit.lok (hL:Lok L)(h:Fit L s a x)(hs:s.ok L.length=true)(h0:0<=x):Lok (.root a::L):=hL.cons (h hs).vl h0
theorem Fit.sgn (h:Fit L s a x)(hs:(s.ok L.length&&s.top L.length)=true):bD P a (Re.sgn x):=by
 rw[biL]at hs;exact al7 ((h hs.1).good hs.2) (h hs.1).gd
end
theorem al8{b m:Nat}{x:Int}(hl:l+m=1074)(hv:fv b=x*((2^m:Nat):Int)):bK b=mkDy x (-(l:Int)):=by
 unfold bK;rw[hv];have:=alE x (-(l:Int)) m;rwa[show-(l:Int)-(m:Int)=-1074 by omega]at this
theorem aq2{x:Int}{n:Nat}(h:x.natAbs<2^n):-p2 n<(x:Rat)*p2 (-(l:Int))/\(x:Rat)*p2 (-(l:Int))<p2 n:=by
 have e:=gQ n;have h1:p2 (-(l:Int))<=1:=by rw[<-nK];exact jH (by omega)
 have h0:=bM (-(l:Int));have h2:(x:Rat)<p2 n/\-p2 n<(x:Rat):=by
  rw[e,<-Rat.intCast_natCast,<-Rat.intCast_neg];exact⟨Rat.intCast_lt_intCast.2 (by omega),Rat.intCast_lt_intCast.2 (by omega)⟩
 generalize p2 (-(l:Int))=u at*;generalize (x:Rat)=q at*;generalize p2 (n:Int)=m at*;have hm:0<m:=by grind
 have a1:0<=(m-q)*u:=Rat.mul_nonneg (by grind) (by grind);have a2:0<=(m+q)*u:=Rat.mul_nonneg (by grind) (by grind);have a3:0<=m*(1-u):=Rat.mul_nonneg (by grind) (by grind);have a4:0<(m-q)*u:=Rat.mul_pos (by grind) h0;have a5:0<(m+q)*u:=Rat.mul_pos (by grind) h0;constructor<;>grind
theorem Fit.dleaf {L:List Ex}{b n m:Nat}{x:Int}(hb:b<18446744073709551616)(hf:fin b)(hl:l+m=1074)(hv:fv b=x*((2^m:Nat):Int))(h:x.natAbs<2^n):Fit L (.leaf n l) (.leaf b) (rat ((x:Rat)*p2 (-(l:Int)))):=fun k=>by
 have k:=of_decide_eq_true k;have e:=al8 hl hv;have er:rv (bK b)=(x:Rat)*p2 (-(l:Int)):=by rw[e,mQ]
 obtain⟨r1,r2⟩:=aq2 (l:=l) h;have h3:(bK b).man≠0->-(l:Int)<=(bK b).exp/\topD (bK b)<=n:=fun hn=>⟨by rw[e]at hn|-;exact oU hn,tO hn (by rw[er];exact r1) (by rw[er];exact r2)⟩;have h4:bits (bK b).man.natAbs<=n:=by
  rw[e];exact Nat.le_trans (sD x _) ((aK _ _).2 h)
 have hu:lG b<=n:=by
  unfold lG;split
  . omega
  . rename_i hn
    have:=h3 hn;unfold topD at this;rw[if_neg hn]at this;omega
 have hl:lH b<=l:=by
  unfold lH;split
  . omega
  . rename_i hn;have:=h3 hn;omega
 have hv:=Vl.leaf (L:=L) (P:=65536) (M:=n) hf hb ⟨by rw[e];exact Canon.mk _ _,by omega,fun hn=>by have:=h3 hn;omega⟩ ⟨by rw[er];grind,by rw[er];grind⟩ hu hl;rw[er]at hv;exact⟨hv,by simp only[dI,Sh.cost];omega,AllGd.leaf b⟩
theorem Fit.leaf {L:List Ex}{b:Nat}{x:Int}(n:Nat)(hb:b<18446744073709551616)(hf:fin b)(hv:fv b=x*(U74:Int))(h:x.natAbs<2^n):Fit L (.leaf n 0) (.leaf b) (ofI x):=by
 obtain⟨u,hu,hU⟩:=eP;have:=Fit.dleaf (L:=L) (n:=n) (l:=0) (x:=x) hb hf (m:=u) (by omega) (by rw[hv,hU]) h;rwa[show-((0:Nat):Int)=0 by rfl,nK,Rat.mul_one]at this
end Go.Proofs.YtjaafolhfihegaaGreatDoor
namespace Go.Proofs.YtjaafolhfihegaaGreatDoor
open Ieee
open Int renaming natCast_mul->biM,neg_mul->biN,lt_or_le->biO
variable{r:Nat}
theorem aoQ(j:Nat):∀m:Nat,m<2^53->j<=1990->∃c,c<infR/\mg c=m*2^j:=by
 induction j with
 |zero=>
  intro m hm _;exact⟨m,by unfold infR;omega,by rw[lC m hm,Nat.pow_zero,Nat.mul_one]⟩
 |succ j ih=>
  intro m hm hj;rcases Nat.lt_or_ge m (2^52)with h|h
  . obtain⟨c,h1,h2⟩:=ih (m*2) (by omega) (by omega)
    exact⟨c,h1,by rw[h2,Nat.pow_succ,Nat.mul_assoc,Nat.mul_comm 2]⟩
  . refine⟨(j+2)*2^52+(m-2^52),by unfold infR;omega,?_⟩
    rw[jU _ (by omega)];have e1:((j+2)*2^52+(m-2^52))/2^52=j+2:=by omega
    have e2:((j+2)*2^52+(m-2^52))%2^52=m-2^52:=by omega
    rw[e1,e2,show j+2-1=j+1 by omega,show 2^52+(m-2^52)=m by omega]
def RepF(N:Int):Prop:=∃c:Int,-(infR:Int)<c/\c<infR/\fvr c=N
theorem yA{x:Int}(j:Nat)(h:x.natAbs<2^53)(hj:j<=1990):RepF (x*(2^j:Nat)):=by
 obtain⟨c,h1,h2⟩:=aoQ j x.natAbs h hj;have hc:(mg c:Int)=(x.natAbs:Int)*(2^j:Nat):=by rw[h2,biM]
 rcases biO x 0 with g|g
 . by_cases h0:c=0
   . subst h0
     rw[rJ]at hc;refine⟨0,by unfold infR;omega,by unfold infR;omega,?_⟩;rw[dS,show x=-(x.natAbs:Int) by omega,biN,<-hc];rfl
   . refine⟨-(c:Int),by omega,by omega,?_⟩
     unfold fvr;rw[if_pos (by omega),show(-(c:Int)).natAbs=c by omega,hc,<-biN,show-(x.natAbs:Int)=x by omega]
 . refine⟨(c:Int),by omega,by omega,?_⟩
   unfold fvr;rw[if_neg (by omega),show((c:Int)).natAbs=c by omega,hc,show(x.natAbs:Int)=x by omega]
theorem al9(h1:-(infR:Int)<sr r)(h2:sr r<infR):fin r:=by
 unfold sr at h1 h2;unfold fin;split at h1<;>simp_all<;>omega
theorem Near.exact {t:Nat}{N M:Int}(h:Near r N t)(hM:RepF M)(hN:N=M*(2^(t-1074):Nat)):fin r/\fv r=M:=by
 obtain⟨c,c1,c2,rfl⟩:=hM;have e:sr r=c:=by
  have h1:=h.2.1 c (by omega) (by omega) (by omega);have h2:=h.2.2 c (by omega) (by omega) (by omega);omega
 exact⟨al9 (by omega) (by omega),by unfold fv;rw[e]⟩
theorem adJ{k:Int}(h:k.natAbs<2^53):FloatKind.f64.nearest k<18446744073709551616/\fin (FloatKind.f64.nearest k)/\fv (FloatKind.f64.nearest k)=k*(2^1074:Nat):=by
 have e:FloatKind.f64.nearest k=double.nearest (decide (k<0)) k.natAbs 0:=rfl;rw[e];have hn:=iX (decide (k<0)) k.natAbs 0 1074 (by omega) (by omega) (k*(2^1074:Nat)) (by
  have:(0+((1074:Nat):Int)).toNat=1074:=by omega
  rw[this];generalize 2^1074=M;rcases biO k 0 with g|g
  . rw[if_pos (by simpa using g),biM,<-biN,show-(k.natAbs:Int)=k by omega]
  . rw[if_neg (by simpa using g),biM,show(k.natAbs:Int)=k by omega])
 obtain⟨h1,h2⟩:=hn.exact (yA 1074 h (by omega)) (by rw[show(2^(1074-1074):Nat)=1 by decide];omega);exact⟨double.nearest_lt ..,h1,h2⟩
theorem aiM{x y i:Nat}{a b:Int}(hx:fin x)(hy:fin y)(va:fv x=a*(2^(1074-i):Nat))(vb:fv y=b*(2^(1074-i):Nat))(h:(a+b).natAbs<2^53):
 ∃r,double.add x y=some r/\r<2^64/\fin r/\fv r=(a+b)*(2^(1074-i):Nat):=by
 obtain⟨r,h1,h2,hn⟩:=wL hx hy;obtain⟨h3,h4⟩:=hn.exact (yA (1074-i) h (by omega)) (by
  rw[va,vb,<-Int.add_mul,show(2^(1074-1074):Nat)=1 by decide];omega)
 exact⟨r,h1,h2,h3,h4⟩
end Go.Proofs.YtjaafolhfihegaaGreatDoor
namespace Go.Proofs.YtjaafolhfihegaaGreatDoor
open Go.RowKit Go.Maps
open Re (rat ofI ofN)
variable{P:Ex->Prop}
section
variable{L:List Ex}{A B C D A' B' C':Ex}{a b c d a' b' c':Re}{i j k l i' j' k':Nat}
end
theorem agI:fv 0=(0:Int)*(U74:Int):=by kernel_rfl
theorem apG:fv 4607182418800017408=(1:Int)*(U74:Int):=by kernel_rfl
theorem apH:fv 4611686018427387904=(2:Int)*(U74:Int):=by kernel_rfl
def fl(k:Int):Nat:=FloatKind.f64.nearest k
theorem pE{k:Int}(h:k.natAbs<2^53):fl k<18446744073709551616/\fin (fl k)/\fv (fl k)=k*(U74:Int):=by
 obtain⟨h1,h2,h3⟩:=adJ h;obtain⟨u,hu,hU⟩:=eP;exact⟨h1,h2,by rw[hU,hu];exact h3⟩
theorem ae0{L:List Ex}:Fit L (.leaf 1 0) (.leaf 4607182418800017408) (rat 1):=Fit.leaf 1 (by decide) (by decide) apG (by decide)
theorem ae1{L:List Ex}:Fit L (.leaf 2 0) (.leaf 4611686018427387904) (rat 2):=Fit.leaf 2 (by decide) (by decide) apH (by decide)
section
variable{L:List Ex}{s t:Sh}{a b:Ex}{p q:Rat}
theorem Fit.radd (h:Fit L s a (rat p))(g:Fit L t b (rat q)):Fit L (.add s t) (.add a b) (rat (p+q)):=by rw[Re.rat_add];exact h.add g
theorem Fit.rsub (h:Fit L s a (rat p))(g:Fit L t b (rat q)):Fit L (.add s t) (.sub a b) (rat (p-q)):=by rw[Re.rat_sub];exact h.sub g
theorem Fit.rmul (h:Fit L s a (rat p))(g:Fit L t b (rat q)):Fit L (.mul s t) (.mul a b) (rat (p*q)):=by rw[Re.rat_mul];exact h.mul g
theorem Fit.rdiv (hL:Lok L)(h:Fit L s a (rat p))(g:Fit L t b (rat q))(h0:q≠0){z:Rat}(hz:z*q=p):Fit L (.div s t) (.div a b) (rat z):=
 Fit.div hL h g (fun e=>h0 (Re.rat_inj.1 (e.trans Re.zero_rat))) (by rw[<-Re.rat_mul,hz])
theorem Fit.rroot (h:Fit L s a (rat p))(h0:0<=q)(hq:q*q=p)(hm:Ex.root a∈L):Fit L (.root s) (.root a) (rat q):=
 Fit.root h (by rw[Re.zero_rat];exact Re.rat_le.2 h0) (by rw[<-Re.rat_mul,hq]) hm
theorem Fit.pos (h:Fit L s a (rat p))(hp:0<p)(hs:(s.ok L.length&&s.top L.length)=true):bD P a 1:=by
 have:=h.sgn (P:=P) hs;rwa[Re.sgn_pos (by rw[Re.zero_rat];exact Re.rat_lt.2 hp)]at this
theorem Fit.neg (h:Fit L s a (rat p))(hp:p<0)(hs:(s.ok L.length&&s.top L.length)=true):bD P a (-1):=by
 have:=h.sgn (P:=P) hs;rwa[Re.sgn_neg (by rw[Re.zero_rat];exact Re.rat_lt.2 hp)]at this
theorem Fit.zero (h:Fit L s a (rat p))(hp:p=0)(hs:(s.ok L.length&&s.top L.length)=true):bD P a 0:=by
 have:=h.sgn (P:=P) hs;rwa[hp,<-Re.zero_rat,Re.sgn_zero]at this
end
theorem Fit.sign {L:List Ex}{s:Sh}{a:Ex}{q:Rat}{v:Int}(h:Fit L s a (rat q))(c:Nat)(hc:0<c)(hq:q*(c:Rat)=(v:Rat))(hs:(s.ok L.length&&s.top L.length)=true):bD P a v.sign:=by
 have hc':(0:Rat)<(c:Rat):=by rw[<-Rat.intCast_natCast];exact Rat.intCast_pos.2 (by omega)
 rcases Int.lt_trichotomy v 0 with g|g|g
 . rw[Int.sign_eq_neg_one_iff_neg.2 g]
   refine h.neg ?_ hs;apply Classical.byContradiction;intro k;have h1:0<=q*(c:Rat):=Rat.mul_nonneg (by grind) (by grind);rw[hq]at h1;have h2:(v:Rat)<((0:Int):Rat):=Rat.intCast_lt_intCast.2 g;have h3:((0:Int):Rat)=0:=rfl;grind
 . rw[g]
   refine h.zero ?_ hs;rw[g]at hq;rcases Rat.mul_eq_zero.1 (hq.trans (show((0:Int):Rat)=0 from rfl))with k|k
   . exact k
   . grind
 . rw[Int.sign_eq_one_iff_pos.2 g]
   refine h.pos ?_ hs;apply Classical.byContradiction;intro k;have h1:0<=-q*(c:Rat):=Rat.mul_nonneg (by grind) (by grind);have h2:((0:Int):Rat)<(v:Rat):=Rat.intCast_lt_intCast.2 g;have h3:((0:Int):Rat)=0:=rfl;grind
def Iw(b:Nat)(T:Int):Prop:=FlOk b/\fv b=T*(U74:Int)
end Go.Proofs.YtjaafolhfihegaaGreatDoor
