/- A part of the proof: contracts of functions and plain laws (SgA, SgB, SgC, SgD, SpA, Stg, RunA, FlrE). -/
import Derived.Test.YtebocijmegkfgaaGreatDoorK28
import Derived.Test.YtebocijmegkfgaaGreatDoorK27
import Derived.Test.YtebocijmegkfgaaGreatDoorK25
set_option linter.unusedVariables false
set_option linter.unusedSimpArgs false
set_option maxHeartbeats 25600000
set_option maxRecDepth 100000
namespace Go.Proofs.YtebocijmegkfgaaGreatDoor
section
open Go.RowKit Go.Maps
open Go.RowKit.Below renaming refl->ay4,heap_setCell->ay7
open List renaming getElem?_eq_getElem->ay5,mem_of_getElem?->ay8
open Option.some renaming inj->ay6
variable{a e e0:Ex}{l:List Nat}{ns:List Nd}{K g i j jj mg ms q:Nat}{v v0:Re}{m s s':Value->Option Value}{w w' w1 w3 w5 wa:World}
theorem ways(w:World)(T:TypeId):∃w1,w.alloc (.cells #[.bool false,.int .i64 0] T)=w1/\∃w2,w1.alloc (.cells #[.bool false,.int .i64 0] T)=w2/\(w2.cell? ⟨w1.heap.size,0,none⟩=some (.bool false)/\w2.cell? ⟨w1.heap.size,1,none⟩=some (.int .i64 0)/\w2.frozen? ⟨w1.heap.size,0,none⟩=false/\w2.frozen? ⟨w1.heap.size,1,none⟩=false)/\
 ∃w3,(w2.setCell ⟨w1.heap.size,0,none⟩ (.bool true)).setCell ⟨w1.heap.size,1,none⟩ (.int .i64 32)=w3/\(w3.cell? ⟨w1.heap.size,0,none⟩=some (.bool true)/\w3.cell? ⟨w1.heap.size,1,none⟩=some (.int .i64 32)/\w3.frozen? ⟨w1.heap.size,0,none⟩=false/\w3.frozen? ⟨w1.heap.size,1,none⟩=false)/\
 ∃w4,w3.setCell ⟨w1.heap.size,1,none⟩ (.int .i64 (min 32 65536))=w4/\(w4.cell? ⟨w1.heap.size,0,none⟩=some (.bool true)/\w4.cell? ⟨w1.heap.size,1,none⟩=some (.int .i64 32)/\w4.frozen? ⟨w1.heap.size,0,none⟩=false/\w4.frozen? ⟨w1.heap.size,1,none⟩=false)/\
  (w4.cell? ⟨w.heap.size,0,none⟩=some (.bool false)/\w4.cell? ⟨w.heap.size,1,none⟩=some (.int .i64 0)/\w4.frozen? ⟨w.heap.size,0,none⟩=false/\w4.frozen? ⟨w.heap.size,1,none⟩=false)/\
 ∃w5,(w4.setCell ⟨w.heap.size,0,none⟩ (.bool true)).setCell ⟨w.heap.size,1,none⟩ (.int .i64 32)=w5/\(w5.cell? ⟨w.heap.size,0,none⟩=some (.bool true)/\w5.cell? ⟨w.heap.size,1,none⟩=some (.int .i64 32))/\Below w.heap.size w w5:=by
 obtain⟨w1,hw1,hb1,hs1,b1⟩:=pro1 w (.cells #[.bool false,.int .i64 0] T);obtain⟨w2,hw2,hb2,hs2,b2⟩:=pro1 w1 (.cells #[.bool false,.int .i64 0] T);have h12:=hbl b1 hb2;have hb:=aA hb1 hb2;have g1:=set2 b2 (.bool true) (.int .i64 32);have g2:=setB g1 (.int .i64 (min 32 65536));have e:(((w2.setCell ⟨w1.heap.size,0,none⟩ (.bool true)).setCell ⟨w1.heap.size,1,none⟩ (.int .i64 32)).setCell ⟨w1.heap.size,1,none⟩ (.int .i64 (min 32 65536))).heap[w.heap.size]? =some (.cells #[.bool false,.int .i64 0] T (0,0)):=by
  rw[ay7 _ _ _ _ (by simp;omega),ay7 _ _ _ _ (by simp;omega),ay7 _ _ _ _ (by simp;omega)];exact h12
 have g3:=set2 e (.bool true) (.int .i64 32);have hk:w.heap.size<=w1.heap.size:=hb1.size;obtain⟨c0,c1,-,-⟩:=aB g3;exact⟨w1,hw1,w2,hw2,aB b2,_,rfl,aB g1,_,rfl,aB g2,aB e,_,rfl,⟨c0,c1⟩,((((hb.setCell hk _).setCell hk _).setCell hk _).setCell nlr _).setCell nlr _⟩
theorem chosen_any:
 Calls Tryz.prog 92 #[.slice none 0 0] w (fun e w'=>e=.returned (.agg #[.bool true,.int .i64 32])/\Below w.heap.size w w'):=by
 obtain⟨w1,hw1,w2,hw2,⟨a0,a1,a2,a3⟩,w3,hw3,⟨b0,b1,b2,b3⟩,w4,hw4,⟨c0,c1,c2,c3⟩,⟨d0,d1,d2,d3⟩,w5,hw5,⟨e0,e1⟩,hb⟩:=ways w 157;have HB:=hdd hb;clear hb;go_enter Tryz.func92,Tryz.ntmps92
 go_wp2;refine bodyPost_ret (v:=.agg #[_,_]) (by simp[results,Tryz.results92,go_sem,e0,e1];first|exact⟨rfl,rfl⟩|rfl) rfl ?_;exact⟨rfl,HB.out⟩
def SM(sg:Nat->Int)(s:Value->Option Value):Prop:=∀i:Nat,s (.int .i64 (i:Int))=none\/s (.int .i64 (i:Int))=some (.int .i64 (sg i))
theorem SM.put {sg:Nat->Int}(h:SM sg s)(hu:Upd s (.int .i64 (i:Int)) (some (.int .i64 (sg i))) s'):SM sg s':=by
 intro j;by_cases hji:j=i
 . subst hji;exact Or.inr hu.1
 . rw[hu.2 _ (fun e=>hji (by injection e with _ e;omega))];exact h j
def JG(w:World)(j ms g:Nat)(ns:List Nd)(l:List Nat):Prop:=∃mg m s,w.heap[j]? =some (.cells #[.pointer (some ⟨g,0,none⟩),.bool true,.int .i64 32,.map (some mg),.map none,.map (some ms)] 209 (0,0))/\
 MapP Tryz.prog 3 w mg m/\MG (gapD ns) m l/\MapP Tryz.prog 3 w ms s/\SM (sgT ns) s/\j≠ms/\mg≠ms
theorem JG.below (h:JG w j ms g ns l)(hb:Below w.heap.size w w'):JG w' j ms g ns l:=by
 obtain⟨mg,m,s,h1,h2,h3,h4,h5,h6,h7⟩:=h;exact⟨mg,m,s,hbl h1 hb,h2.below hb h2.lt,h3,h4.below hb h4.lt,h5,h6,h7⟩
theorem JG.put {S:Int}(h:JG w j ms g ns l)(hb:Below w.heap.size w w1)(hs:SM (sgT ns) s)(hS:sgT ns i=S)(hu:Upd s (.int .i64 (i:Int)) (some (.int .i64 S)) s')(hm:MapP Tryz.prog 3 w' ms s')(hg:w1.grownBy w' (some ms)):JG w' j ms g ns l:=by
 subst hS;obtain⟨mg,m,s0,h1,h2,h3,h4,h5,h6,h7⟩:=h.below hb;refine⟨mg,m,s',?_,h2.keep (hg.block mg h2.lt (fun e=>h7 (ay6 e))),h3,hm,hs.put hu,h6,h7⟩;rw[hg.block j (aF h1) (fun e=>h6 (ay6 e))];exact h1
def RetJ(w:World)(g root:Nat)(ns:List Nd)(e:Ending)(w':World):Prop:=Below w.heap.size w w'/\∃j ms l,e=.returned (.pointer (some ⟨j,0,none⟩))/\w.heap.size<=ms/\ms<w'.heap.size/\IsB ns root l/\JG w' j ms g ns l
theorem RetJ.to {w2:World}{root:Nat}{e:Ending}(h:RetJ w g root ns e w1)(hb:Below w1.heap.size w1 w2):RetJ w g root ns e w2:=by
 obtain⟨h1,j,ms,l,e,h2,h3,h4,h5⟩:=h;exact⟨h1.trans (hb.mono h1.size),j,ms,l,e,h2,Nat.lt_of_lt_of_le h3 hb.size,h4,h5.below hb⟩
theorem JG.of (h1:w.heap[j]? =some (.cells #[.pointer (some ⟨g,0,none⟩),.bool true,.int .i64 32,.map (some mg),.map none,.map (some ms)] 209 (0,0)))
 (h2:MapP Tryz.prog 3 w mg m) (h4:MG (gapD ns) m l) (h5:w.heap[ms]? =some (.map #[] 0)) (h6:j≠ms) (h7:mg≠ms):JG w j ms g ns l:=⟨mg,m,_,h1,h2,h4,MapP.made (es:=#[]) h5,fun i=>Or.inl rfl,h6,h7⟩
theorem aa4{w4:World}{root:Nat}(ha:Below w.heap.size w wa)(hb3:Below wa.heap.size wa w3)(hm:MapP Tryz.prog 3 w3 mg m)(hmr:IsB ns root l)(hg:MG (gapD ns) m l)
 (hb4:Below w3.heap.size w3 w4) (b4:w4.heap[w3.heap.size]? =some (.map #[] 0)) (hb5:Below w4.heap.size w4 w5) (b5:w5.heap[w4.heap.size]? =some (.cells #[.pointer (some ⟨g,0,none⟩),.bool true,.int .i64 32,.map (some mg),.map none,.map (some w3.heap.size)] 209 (0,0))):
 RetJ w g root ns (.returned (.pointer (some ⟨w4.heap.size,0,none⟩))) w5:=by
 have h34:=aA hb4 hb5;have q1:=aF b4;have q2:=hm.lt;have h:=JG.of b5 (hm.below h34 hm.lt) hg (hbl b4 hb5) (by omega) (by omega);have hall:=ha.trans ((aA hb3 h34).mono ha.size);exact⟨hall,_,_,l,rfl,by have:=ha.size;have:=hb3.size;omega,by have:=hb5.size;omega,hmr,h⟩
theorem zO{root:Nat}(hms:w.heap.size<=ms)(ha:Below w.heap.size w wa)(hs:wa.heap[ms]? =some (.map #[] 0))(hb3:Below wa.heap.size wa w3)(hne:wa.heap.size<=mg)(hm:MapP Tryz.prog 3 w3 mg m)(hmr:IsB ns root l)(hg:MG (gapD ns) m l)
 (hb5:Below w3.heap.size w3 w5) (b5:w5.heap[w3.heap.size]? =some (.cells #[.pointer (some ⟨g,0,none⟩),.bool true,.int .i64 32,.map (some mg),.map none,.map (some ms)] 209 (0,0))):
 RetJ w g root ns (.returned (.pointer (some ⟨w3.heap.size,0,none⟩))) w5:=by
 have q1:=aF hs;have q2:=hb3.size;have q3:=hb5.size;have h:=JG.of b5 (hm.below hb5 hm.lt) hg (aC hs (aA hb3 hb5) (aF hs)) (by omega) (by omega);have hall:=ha.trans ((aA hb3 hb5).mono ha.size);exact⟨hall,_,_,l,rfl,hms,by omega,hmr,h⟩
theorem xD{root:Nat}(hd:DagP w g ns)(ok:OkNs ns)(hlf:gD ns)(hro:gF ns)(hr:root<ns.length):
 Calls Tryz.prog 132 #[.pointer (some ⟨g,0,none⟩),.int .i64 (root:Int),.agg #[.bool true,.int .i64 32]] w (RetJ w g root ns):=by
 obtain⟨w1,hw1,hb1,hs1,b1⟩:=pro1 w (.cells #[.bool true,.int .i64 32] 157);obtain⟨c0,c1,-,-⟩:=aB b1;have HB1:=hdd hb1;have HGA:Hid (∀w',Below w.heap.size w w'->Calls Tryz.prog 166 #[.pointer (some ⟨g,0,none⟩),.int .i64 (root:Int)] w' (af8 w' ns (gapD ns) root)):=hdd fun w' h=>wU (hd.below h) ok (akG ok) hlf hro hr;have HBW:Below w1.heap.size w1 w1.drew:=(ay4 _ _).drew;clear hd ok hlf hro hr hb1 b1 hs1;have hmm:=@run_makeMap Tryz.prog;go_enter Tryz.func132,Tryz.ntmps132
 go_wp2_with fail
 obtain⟨w2,hw2,hb2,hs2,b2⟩:=pro1 w1 (.map #[] 0);have e0:=cbl c0 hb2;have e1:=cbl c1 hb2;have HA:=hdd (HB1.out.trans (HBW.mono HB1.out.size));have HX:=hdd (HB1.out.trans ((hb2.drew).mono HB1.out.size));have HB2:=hdd b2;have HBB2:=hdd hb2;clear hb2 b2 hs2
 go_region_held3 (fun w'=>w'.cell? ⟨w.heap.size,0,none⟩=some (.bool true)/\w'.cell? ⟨w.heap.size,1,none⟩=some (.int .i64 32)) (go_keep)
  (first
  |(go_at_call 166
    with_reducible refine(HGA.out _ HA.out).mono ?_
    rintro r w3⟨hb3,mg,m,l,rfl,hmg,hm,hmr,hgs⟩;have c0:=cell_below c0 ((ay4 _ _).drew.trans hb3) nlr;have c1:=cell_below c1 ((ay4 _ _).drew.trans hb3) nlr;obtain⟨w4,hw4,hb4,hs4,b4⟩:=pro1 w3 (.map #[] 0);have d0:=cbl c0 hb4;have d1:=cbl c1 hb4;obtain⟨w5,hw5,hb5,hs5,b5⟩:=pro1 w4 (.cells #[.pointer (some ⟨g,0,none⟩),.bool true,.int .i64 32,.map (some mg),.map none,.map (some w3.heap.size)] 209);have x0:=cbl d0 hb5;have x1:=cbl d1 hb5;have HJ:Hid (RetJ w g root ns (.returned (.pointer (some ⟨w4.heap.size,0,none⟩))) w5):=hdd (aa4 HA.out hb3 hm hmr hgs hb4 b4 hb5 b5);clear hb3 hmg hm hmr hgs hb4 hs4 b4 hb5 hs5 b5)
  |(go_at_call 166
    with_reducible refine(HGA.out _ HX.out).mono ?_
    rintro r w3⟨hb3,mg,m,l,rfl,hmg,hm,hmr,hgs⟩;have c0:=cell_below e0 ((ay4 _ _).drew.trans hb3) nlr;have c1:=cell_below e1 ((ay4 _ _).drew.trans hb3) nlr;obtain⟨w5,hw5,hb5,hs5,b5⟩:=pro1 w3 (.cells #[.pointer (some ⟨g,0,none⟩),.bool true,.int .i64 32,.map (some mg),.map none,.map (some w1.heap.size)] 209);have x0:=cbl c0 hb5;have x1:=cbl c1 hb5;have HJ:Hid (RetJ w g root ns (.returned (.pointer (some ⟨w3.heap.size,0,none⟩))) w5):=hdd (zO HB1.out.size HX.out (aC HB2.out ((ay4 _ _).drew) (aF HB2.out)) hb3 hmg hm hmr hgs hb5 b5);clear hb3 hmg hm hmr hgs hb5 hs5 b5))
 all_goals
  go_wp2
  go_quiet (fail)
  go_wp2;go_ret;exact HJ.out.to (below_drewN w5 _)
theorem lL{id:Nat}(hj:JG w j ms g ns l)(hl:id∈l)(hd:DagP w g ns)(ok:OkNs ns)(hlf:gD ns)(hro:gF ns)(hI:Is ns a id)(hG:Gd K jj a v)(hT:Tab w):
 Calls Tryz.prog 93 #[.pointer (some ⟨j,0,none⟩),.int .i64 (id:Int)] w (fun e w'=>e=.returned (.tuple #[.int .i64 (sgT ns id),.nilIface])/\Fr (fun b=>b=ms) w w'/\JG w' j ms g ns l):=by
 have hue:=akF (ns:=ns) hG.fin hG.cost;have hpt:Part ns a id:=⟨a,.refl a,hI⟩;have hsg:=xC hI hG.den;have HSE:Hid (∀w',Below w.heap.size w w'->Calls Tryz.prog 138 #[.pointer (some ⟨g,0,none⟩),.int .i64 (id:Int)] w' (zL w' ns (ulT ns id) id)):=hdd fun w' h=>qF (hd.below h) ok hlf hro hue hpt (hT.below h) hI.lt (hG.sepOk hd.uniq hI);have HSR:Hid (∀w' (s:Int) l,Below w.heap.size w w'->IsB ns id l->s=((max (ulT ns id).1 (ulT ns id).2*2^nRt ns l+1:Nat):Int)->s<=32768->Calls Tryz.prog 139 #[.pointer (some ⟨g,0,none⟩),.int .i64 (id:Int),.int .i64 32,.int .i64 s,.bool true] w' (ai2 w' (sgT ns id))):=hdd fun w' s l h hB hs hle=>by
  rw[hsg];have hf:=hG.fnd ok hd.uniq hI hB;rw[<-hs]at hf;exact zB (hd.below h) ok hlf hro hI hf (hT.below h) (by omega) (Sq.start hf.hj)
 have HK:=hdd (iN (i:=id) (by have:=hd.len;have:=hI.lt;omega));have HJ0:=hdd hj;obtain⟨mg,m,s,b1,hm,hmg,hms,hsm,-,-⟩:=hj;obtain⟨lo,hi,hmr,hg⟩:=hmg.1 id hl;have B1:=hdd b1;have HM:=hdd hm;have HMS:=hdd hms;have HSM:=hdd hsm;have HG1:=hdd (acR (w:=w) hg.1 hg.2.1);obtain⟨s',hu⟩:=jR s (.int .i64 (id:Int)) (some (.int .i64 (sgT ns id)));have HU:=hdd hu;have HGD:Hid ((m (.int .i64 (id:Int))).getD (.agg #[.float .f64 0,.float .f64 0])=gv lo hi):=hdd (by rw[hmr];rfl);have hok:(dP lo hi).2=true->(dP lo hi).1=sgT ns id:=fun h=>by
  rw[hsg,<-agT];exact aaL hg (x:=v*Re.ofN U74) ⟨a,v,hI,hG.den,rfl⟩ h
 obtain⟨c0,c1,c2,c3,c4,c5⟩:=aG b1;have hcase:=hsm id;clear hd ok hlf hro hT hm hms hu b1 hmr hg hue hpt hsg hI hG hl hmg hsm;obtain⟨S,hS⟩:∃S,sgT ns id=S:=⟨_,rfl⟩;rw[hS]at hok HU HSR hcase|-;have HSS:=hdd hS;clear hS;generalize dP lo hi=G at*;obtain⟨gs,gk⟩:=G;replace hok:gk=true->gs=S:=hok;replace HG1:Hid (Calls Tryz.prog 136 #[gv lo hi] w (pY w gs gk)):=HG1;rcases hcase with hcase|hcase
 . have HSN:Hid ((s (.int .i64 (id:Int))).getD (.int .i64 0)=.int .i64 0):=hdd (by rw[hcase];rfl)
   have HSB:Hid ((s (.int .i64 (id:Int))).isSome=false):=hdd (by rw[hcase];rfl);clear hcase
   cases gk
   . clear hok
     go_enter Tryz.func93,Tryz.ntmps93
     go_wp2_with (first
      |(at_lookup
        refine iL _ rfl _ _ _ rfl _ _ aK bS (dX _) _ s rfl HMS.out (.int .i64 (id:Int)) _ rfl HK.out (.int .i64 0) HSN.out false HSB.out ?_)
      |(at_lookup
        refine aT _ rfl _ _ _ rfl _ _ aK lH (oH _) _ m rfl HM.out (.int .i64 (id:Int)) _ rfl HK.out (gv lo hi) HGD.out ?_))
     refine HG1.out.mono ?_;rintro e w1⟨rfl,hb1⟩;replace c0:=cbl c0 hb1;replace c1:=cbl c1 hb1;replace c2:=cbl c2 hb1;replace c3:=cbl c3 hb1;replace c4:=cbl c4 hb1;replace c5:=cbl c5 hb1;have HB1:=hdd hb1;clear hb1;go_wp2_with fail
     refine(HSE.out _ HB1.out).mono ?_;rintro e w2⟨hb2,sp,l',rfl,hIB,hsp,hspl⟩;have HSC:=hdd (HSR.out _ sp l' (aA (aA HB1.out hb2) (ay4 _ _).drew) hIB hsp hspl);clear hIB hsp hspl;replace c0:=cbl c0 hb2;replace c1:=cbl c1 hb2;replace c2:=cbl c2 hb2;replace c3:=cbl c3 hb2;replace c4:=cbl c4 hb2;replace c5:=cbl c5 hb2;have HB2:=hdd (aA HB1.out hb2);have HB3:=hdd (aA (aA HB1.out hb2) (ay4 _ _).drew);clear hb2;go_wp2_with fail
     have hdr:Below w2.heap.size w2 w2.drew:=(ay4 _ _).drew;replace c0:=cbl c0 hdr;replace c1:=cbl c1 hdr;replace c2:=cbl c2 hdr;replace c3:=cbl c3 hdr;replace c4:=cbl c4 hdr;replace c5:=cbl c5 hdr;clear hdr
     go_region_held3 (fun w'=>w'.cell? ⟨j,0,none⟩=some (.pointer (some ⟨g,0,none⟩))/\w'.cell? ⟨j,2,none⟩=some (.int .i64 32)/\w'.cell? ⟨j,5,none⟩=some (.map (some ms))) (go_keep)
      (first
      |(go_at_call 139
        refine HSC.out.mono ?_;rintro e w4⟨hb4,vw,rfl⟩;have c0:=cbl c0 hb4;have c1:=cbl c1 hb4;have c2:=cbl c2 hb4;have c3:=cbl c3 hb4;have c4:=cbl c4 hb4;have c5:=cbl c5 hb4;have HBF:=hdd (aA HB3.out hb4);have HMF:=hdd (HMS.out.below (aA HB3.out hb4) HMS.out.lt);clear hb4))
     go_wp2_with (first
      |(at_mapUpdate
        refine dN _ rfl _ _ _ _ rfl _ _ aK bS _ s s' rfl HMF.out (.int .i64 (id:Int)) (.int .i64 S) _ rfl rfl HK.out HU.out ?_;intro w9 HM9 hgr hsz;have HF9:=hdd ((Fr.of_below HBF.out).trans (Fr.of_grown hgr (fun i e=>(ay6 e).symm)));have HJ9:=hdd (HJ0.out.put HBF.out HSM.out HSS.out HU.out HM9.out hgr);clear hgr hsz))
     go_ret2
     exact⟨rfl,HF9.out,HJ9.out⟩
   . have hgs:S=gs:=(hok rfl).symm
     subst hgs;clear hok;go_enter Tryz.func93,Tryz.ntmps93
     go_wp2_with (first
      |(at_lookup
        refine iL _ rfl _ _ _ rfl _ _ aK bS (dX _) _ s rfl HMS.out (.int .i64 (id:Int)) _ rfl HK.out (.int .i64 0) HSN.out false HSB.out ?_)
      |(at_lookup
        refine aT _ rfl _ _ _ rfl _ _ aK lH (oH _) _ m rfl HM.out (.int .i64 (id:Int)) _ rfl HK.out (gv lo hi) HGD.out ?_))
     refine HG1.out.mono ?_;rintro e w1⟨rfl,hb1⟩;replace c0:=cbl c0 hb1;replace c1:=cbl c1 hb1;replace c2:=cbl c2 hb1;replace c3:=cbl c3 hb1;replace c4:=cbl c4 hb1;replace c5:=cbl c5 hb1;have HBF:=hdd hb1;have HMF:=hdd (HMS.out.below hb1 HMS.out.lt);clear hb1;go_wp2_with (first
      |(at_mapUpdate
        refine dN _ rfl _ _ _ _ rfl _ _ aK bS _ s s' rfl HMF.out (.int .i64 (id:Int)) (.int .i64 S) _ rfl rfl HK.out HU.out ?_;intro w9 HM9 hgr hsz;have HF9:=hdd ((Fr.of_below HBF.out).trans (Fr.of_grown hgr (fun i e=>(ay6 e).symm)));have HJ9:=hdd (HJ0.out.put HBF.out HSM.out HSS.out HU.out HM9.out hgr);clear hgr hsz))
     go_ret2
     exact⟨rfl,HF9.out,HJ9.out⟩
 . have HSN:Hid ((s (.int .i64 (id:Int))).getD (.int .i64 0)=.int .i64 S):=hdd (by rw[hcase];rfl)
   have HSB:Hid ((s (.int .i64 (id:Int))).isSome=true):=hdd (by rw[hcase];rfl);clear hcase hok;go_enter Tryz.func93,Tryz.ntmps93
   go_wp2_with (first
    |(at_lookup
      refine iL _ rfl _ _ _ rfl _ _ aK bS (dX _) _ s rfl HMS.out (.int .i64 (id:Int)) _ rfl HK.out (.int .i64 S) HSN.out true HSB.out ?_))
   go_ret2
   exact⟨rfl,Fr.of_below (ay4 _ _),HJ0.out⟩
def GdAt(ns:List Nd)(i:Nat):Prop:=∃a K j v,Is ns a i/\Gd K j a v
theorem aa5{x:Nat}{n:Nd}(hp:Part ns e x)(hn:ns[x]? =some n):
 (n.kind≠4/\n.kind≠5)\/(∃a b,∃p q:Nat,n=⟨4,0,p,q⟩/\SubE (.div a b) e/\Is ns b q)\/(∃a,∃p:Nat,n=⟨5,0,p,0⟩/\SubE (.root a) e/\Is ns a p):=by
 obtain⟨a',hs,hi⟩:=hp
 cases a' with
 |leaf v=>have hi:ns[x]? =some ⟨0,v,0,0⟩:=hi;rw[hn]at hi;cases hi;exact Or.inl ⟨show(0:Int)≠4 by decide,show(0:Int)≠5 by decide⟩
 |add a b=>obtain⟨p,q,h,-⟩:=hi;rw[hn]at h;cases h;exact Or.inl ⟨show(1:Int)≠4 by decide,show(1:Int)≠5 by decide⟩
 |sub a b=>obtain⟨p,q,h,-⟩:=hi;rw[hn]at h;cases h;exact Or.inl ⟨show(2:Int)≠4 by decide,show(2:Int)≠5 by decide⟩
 |mul a b=>obtain⟨p,q,h,-⟩:=hi;rw[hn]at h;cases h;exact Or.inl ⟨show(3:Int)≠4 by decide,show(3:Int)≠5 by decide⟩
 |div a b=>obtain⟨p,q,h,-,-,-,h5⟩:=hi;rw[hn]at h;cases h;exact Or.inr (Or.inl ⟨a,b,p,q,rfl,hs,h5⟩)
 |root a=>obtain⟨p,h,-,h3⟩:=hi;rw[hn]at h;cases h;exact Or.inr (Or.inr ⟨a,p,rfl,hs,h3⟩)
theorem aiG{b:Ex}(hd:DenR e v)(hg:AllGd e)(hs:SubE (.div a b) e)(hi:Is ns b q):GdAt ns q/\sgT ns q≠0:=by
 obtain⟨K,j,u,hu⟩:=hg.1 a b hs;refine⟨⟨b,K,j,u,hi,hu⟩,?_⟩;rw[xC hi hu.den];obtain⟨t,ht⟩:=hs.den hd
 cases ht with
 |div h1 h2 h0 hz=>rw[hu.den.uniq h2];exact fun h=>h0 (Re.sgn_eq_zero.1 h)
theorem agU(hd:DenR e v)(hg:AllGd e)(hs:SubE (.root a) e)(hi:Is ns a q):GdAt ns q/\¬sgT ns q<0:=by
 obtain⟨K,j,u,hu⟩:=hg.2 a hs;refine⟨⟨a,K,j,u,hi,hu⟩,?_⟩;rw[xC hi hu.den];obtain⟨t,ht⟩:=hs.den hd
 cases ht with
 |root h1 h0 hz=>
  rw[hu.den.uniq h1];have:(0:Re)<=_:=Re.mul_nonneg h0 h0;rw[hz]at this;rcases Re.sgn_cases _ with ⟨-,h⟩|⟨-,h⟩|⟨h,-⟩
  . rw[h];decide
  . rw[h];decide
  . exact absurd h (Re.not_lt.2 this)
theorem aiH{root:Nat}{m:List Nat}(hl:IsB ns root l)(hm:IsB ns root m):∀x∈l,x∈m:=by
 refine hl.mn (fun x=>x∈m) ?_ hm.rt;intro x n hx hn o ho;obtain⟨y,hy,e⟩:=hm.cl x hx n hn o ho;rw[<-e,Int.toNat_natCast];exact hy
def agV(w:World)(g root:Nat)(ns:List Nd)(e:Ending)(w':World):Prop:=Below w.heap.size w w'/\∃j ms l,e=.returned (.tuple #[.pointer (some ⟨j,0,none⟩),.nilIface])/\w.heap.size<=ms/\IsB ns root l/\JG w' j ms g ns l
theorem xE{root:Nat}(hd:DagP w g ns)(ok:OkNs ns)(hlf:gD ns)(hro:gF ns)(hI:Is ns e0 root)(hde:DenR e0 v0)(hgd:AllGd e0)(hT:Tab w):
 Calls Tryz.prog 91 #[.pointer (some ⟨g,0,none⟩),.int .i64 (root:Int),.agg #[.bool true,.int .i64 32]] w (agV w g root ns):=by
 obtain⟨w1,hw1,hb1,hs1,b1⟩:=pro1 w (.cells #[.bool true,.int .i64 32] 157);obtain⟨c0,c1,-,-⟩:=aB b1;have hr:=hI.lt;obtain⟨nr,hnr⟩:∃n,ns[root]? =some n:=⟨_,ay5 hr⟩;have HB1:=hdd hb1;have HN1:=hdd (eF (hd.below hb1) hnr);have HDW:=hdd hd;have HDE:=hdd hde;have HGD:=hdd hgd;have HI0:=hdd hI;have HLN:=hdd hd.len;have HNJ:Hid (∀w',Below w.heap.size w w'->Calls Tryz.prog 132 #[.pointer (some ⟨g,0,none⟩),.int .i64 (root:Int),.agg #[.bool true,.int .i64 32]] w' (RetJ w' g root ns)):=hdd fun w' h=>xD (hd.below h) ok hlf hro hr;have HJS:Hid (∀w' j ms l (p:Nat),Below w.heap.size w w'->JG w' j ms g ns l->p∈l->GdAt ns p->Calls Tryz.prog 93 #[.pointer (some ⟨j,0,none⟩),.int .i64 (p:Int)] w' (fun e w''=>e=.returned (.tuple #[.int .i64 (sgT ns p),.nilIface])/\Fr (fun b=>b=ms) w' w''/\JG w'' j ms g ns l)):=hdd fun w' j ms l p h hj hl ⟨a,K,jj,v,hi,hg⟩=>lL hj hl (hd.below h) ok hlf hro hi hg (hT.below h);have HBE:Hid (∀w' b0,Below w.heap.size w w'->w'.heap[b0]? =some (.cells #[.int .i64 (root:Int)] 3 (0,0))->Calls Tryz.prog 133 #[.pointer (some ⟨g,0,none⟩),.slice (some ⟨b0,0,none⟩) 1 1] w' (oG w' ns root)):=hdd fun w' b0 h hb=>iR (hd.below h) ok hr hb
 clear hd ok hlf hro hr hb1 b1 hs1 hnr hI hde hgd hT;have hst:=aS;go_enter Tryz.func91,Tryz.ntmps91
 go_wp2_with fail
 refine HN1.out.mono ?_;rintro e w2⟨rfl,hb2⟩;obtain⟨w3,hw3,z0,z1,z2,z3,y0,y1,y2,y3,w4,hw4,hb4,hs4⟩:=new4 w2 111 (.int .i64 0) (.float .f64 0) (.int .i64 0) (.int .i64 0) (.int .i64 nr.kind) (.float .f64 nr.val) (.int .i64 nr.a) (.int .i64 nr.b);have h14:=aA hb2 hb4;replace c0:=cbl c0 h14;replace c1:=cbl c1 h14;have HB4:=hdd (HB1.out.trans (h14.mono HB1.out.size));clear hb2 hb4 hs4 h14;go_wp2_with fail
 refine(HNJ.out _ HB4.out).mono ?_;rintro e w5⟨hb5,j,ms,l0,rfl,hms,hms5,hI0,hjp⟩;obtain⟨w6,hw6,hb6,hs6,b6⟩:=pro1 w5 (.cells #[.int .i64 (root:Int)] 3);have h46:=aA hb5 hb6;have HB6:=hdd (HB4.out.trans (h46.mono HB4.out.size));have HJ6:=hdd (hjp.below hb6);have HIL:=hdd hI0;have HM6:Hid (ms<w6.heap.size):=hdd (by have:=hb6.size;omega);have HMS:=hdd (Nat.le_trans HB4.out.size hms);have HBE6:=hdd (HBE.out w6 _ HB6.out b6);clear hb5 hb6 hs6 b6 h46 hjp hms hms5 hI0 c0 c1 z0 z1 z2 z3 y0 y1 y2 y3 hw3 hw4;go_wp2_with fail
 refine HBE6.out.mono ?_;rintro e w7⟨hb7,v7,l,rfl,hl,hI⟩;obtain⟨bl,cl,rfl,hlc,hcm,-⟩:=id hl;have HL:=hdd hl;have HI:=hdd hI;have HB7:=hdd (HB6.out.trans (hb7.mono HB6.out.size));have HJ7:=hdd (HJ6.out.below hb7);have HMS7:Hid (w.heap.size<=ms):=HMS;have HLL:=hdd (lI hI HLN.out);clear hb7 hl hI hlc hcm hw6;go_wp2_with fail
 go_loopw [37] (fun i wr=>∃k:Nat,k<=l.length/\i=.int .i64 (k:Int)/\Hid (Fr (fun b=>b=ms) w7 wr)/\Hid (JG wr j ms g ns l0)) (fun i _=>((l.length:Int)-intOf i).toNat)
 case atStart=>exact⟨0,Nat.zero_le _,rfl,hdd (Fr.of_below (ay4 _ _)),HJ7⟩
 case round=>
  obtain⟨k,hk,rfl,HF,HJR⟩:=hrel;have HBR:Hid (Below w.heap.size w wr):=hdd (HB7.out.trans (HF.out.below HB7.out.size (fun b hb=>by have:=HMS.out;omega)));rcases Nat.lt_or_ge k l.length with hlt|hge
  . obtain⟨x,hx⟩:∃x,l[k]? =some x:=⟨_,ay5 hlt⟩
    have hxl:x<ns.length:=HI.out.lt x (ay8 hx);obtain⟨n,hn⟩:∃n,ns[x]? =some n:=⟨_,ay5 hxl⟩;have cx:=(HL.out.fr HF.out (fun b hb=>by have:=HM6.out;omega)).cell hx;have HN:=hdd (eF (HDW.out.below HBR.out) hn);have hkI:(k:Int)<(l.length:Int):=by omega
    have hk0:(0:Int)<=(k:Int):=by omega
    have hlI:(l.length:Int)<=20000:=by have:=HLL.out;omega
    have HKL:=hdd hlt;have hx0:x∈l0:=aiH HI.out HIL.out x (ay8 hx);have hkc:=aa5 (xB HIL.out HI0.out x hx0) hn;have HCL:Hid (∀o∈opsN n,∃y∈l0,(y:Int)=o):=hdd (HIL.out.cl x hx0 n hn);clear hx hn hxl hlt hx0;rcases hkc with ⟨hk4,hk5⟩|⟨a,b,p,q,rfl,hs,hi⟩|⟨a,p,rfl,hs,hi⟩
    . go_wp2_with fail
      refine HN.out.mono ?_;rintro e w8⟨rfl,hb8⟩;obtain⟨w9,hw9,z0,z1,z2,z3,y0,y1,y2,y3,wa,hwa,hba,hsa⟩:=new4 w8 111 (.int .i64 0) (.float .f64 0) (.int .i64 0) (.int .i64 0) (.int .i64 n.kind) (.float .f64 n.val) (.int .i64 n.a) (.int .i64 n.b);obtain⟨x0,x1,x2,x3⟩:=bM hsa;have HFa:=hdd (HF.out.trans (Fr.of_below (aA hb8 hba)));have HJa:=hdd (HJR.out.below (aA hb8 hba));clear hb8 hba hsa cx;go_wp2_with fail
      go_roundw
      case rel=>exact⟨k+1,by have:=HKL.out;omega,by go_num,HFa,HJa⟩
      case measure=>have:=HKL.out;simp[intOf];omega
    . obtain⟨hga,hsg⟩:=aiG HDE.out HGD.out hs hi
      have hq0:q∈l0:=by
       obtain⟨y,hy,e⟩:=HCL.out (q:Int) (by simp[opsN]);have:y=q:=by omega
       rw[<-this];exact hy
      have HGA:=hdd hga;have HQ0:=hdd hq0;clear hga hq0 hs hi;dsimp only at HN;go_wp2_with fail
      refine HN.out.mono ?_;rintro e w8⟨rfl,hb8⟩;obtain⟨w9,hw9,z0,z1,z2,z3,y0,y1,y2,y3,wa,hwa,hba,hsa⟩:=new4 w8 111 (.int .i64 0) (.float .f64 0) (.int .i64 0) (.int .i64 0) (.int .i64 4) (.float .f64 0) (.int .i64 (p:Int)) (.int .i64 (q:Int));obtain⟨x0,x1,x2,x3⟩:=bM hsa;have HFa:=hdd (HF.out.trans (Fr.of_below (aA hb8 hba)));have HJa:=hdd (HJR.out.below (aA hb8 hba));have HBa:=hdd (HBR.out.trans ((aA hb8 hba).mono HBR.out.size));clear hb8 hba hsa cx;go_wp2_with fail
      refine(HJS.out _ _ _ _ q HBa.out HJa.out HQ0.out HGA.out).mono ?_;rintro e wb⟨rfl,hfb,hjb⟩;have HFb:=hdd (HFa.out.trans hfb);have HJb:=hdd hjb;clear hfb hjb x0 x1 x2 x3 z0 z1 z2 z3 y0 y1 y2 y3 hw9 hwa;generalize sgT ns q=S at*;go_wp2_with fail
      go_roundw
      case rel=>exact⟨k+1,by have:=HKL.out;omega,by go_num,HFb,HJb⟩
      case measure=>have:=HKL.out;simp[intOf];omega
    . obtain⟨hga,hsg⟩:=agU HDE.out HGD.out hs hi
      have hq0:p∈l0:=by
       obtain⟨y,hy,e⟩:=HCL.out (p:Int) (by simp[opsN]);have:y=p:=by omega
       rw[<-this];exact hy
      have HGA:=hdd hga;have HQ0:=hdd hq0;clear hga hq0 hs hi;dsimp only at HN;go_wp2_with fail
      refine HN.out.mono ?_;rintro e w8⟨rfl,hb8⟩;obtain⟨w9,hw9,z0,z1,z2,z3,y0,y1,y2,y3,wa,hwa,hba,hsa⟩:=new4 w8 111 (.int .i64 0) (.float .f64 0) (.int .i64 0) (.int .i64 0) (.int .i64 5) (.float .f64 0) (.int .i64 (p:Int)) (.int .i64 0);obtain⟨x0,x1,x2,x3⟩:=bM hsa;have HFa:=hdd (HF.out.trans (Fr.of_below (aA hb8 hba)));have HJa:=hdd (HJR.out.below (aA hb8 hba));have HBa:=hdd (HBR.out.trans ((aA hb8 hba).mono HBR.out.size));clear hb8 hba hsa cx;go_wp2_with fail
      refine(HJS.out _ _ _ _ p HBa.out HJa.out HQ0.out HGA.out).mono ?_;rintro e wb⟨rfl,hfb,hjb⟩;have HFb:=hdd (HFa.out.trans hfb);have HJb:=hdd hjb;clear hfb hjb x0 x1 x2 x3 z0 z1 z2 z3 y0 y1 y2 y3 hw9 hwa;generalize sgT ns p=S at*;go_wp2_with fail
      go_roundw
      case rel=>exact⟨k+1,by have:=HKL.out;omega,by go_num,HFb,HJb⟩
      case measure=>have:=HKL.out;simp[intOf];omega
  . have hke:k=l.length:=by omega
    subst hke;have HRES:Hid (agV w g root ns (.returned (.tuple #[.pointer (some ⟨j,0,none⟩),.nilIface])) wr):=hdd ⟨HBR.out,j,ms,l0,rfl,HMS.out,HIL.out,HJR.out⟩;clear hk hge;go_wp2
    go_ret2
    exact HRES.out
theorem zP{root:Nat}(hd:DagP w g ns)(ok:OkNs ns)(hlf:gD ns)(hro:gF ns)(hI:Is ns e0 root)(hG:Gd K jj e0 v0)(hgd:AllGd e0)(hT:Tab w):
 Calls Tryz.prog 52 #[.pointer (some ⟨g,0,none⟩),.int .i64 (root:Int),.slice none 0 0] w (fun e w'=>e=.returned (.tuple #[.int .i64 (Re.sgn v0),.nilIface])/\Below w.heap.size w w'):=by
 have HEX:Hid (∀w',Below w.heap.size w w'->Calls Tryz.prog 91 #[.pointer (some ⟨g,0,none⟩),.int .i64 (root:Int),.agg #[.bool true,.int .i64 32]] w' (agV w' g root ns)):=hdd fun w' h=>xE (hd.below h) ok hlf hro hI hG.den hgd (hT.below h);have HJS:Hid (∀w' j ms l,Below w.heap.size w w'->JG w' j ms g ns l->root∈l->Calls Tryz.prog 93 #[.pointer (some ⟨j,0,none⟩),.int .i64 (root:Int)] w' (fun e w''=>e=.returned (.tuple #[.int .i64 (Re.sgn v0),.nilIface])/\Fr (fun b=>b=ms) w' w''/\JG w'' j ms g ns l)):=hdd fun w' j ms l h hj hl=>by
  have:=lL hj hl (hd.below h) ok hlf hro hI hG (hT.below h);rwa[xC hI hG.den]at this
 clear hd ok hlf hro hI hG hgd hT;go_enter Tryz.func52,Tryz.ntmps52
 go_wp2_with fail
 refine chosen_any.mono ?_;rintro e w1⟨rfl,hb1⟩;have HB1:=hdd hb1;clear hb1;go_wp2_with fail
 refine(HEX.out _ HB1.out).mono ?_;rintro e w2⟨hb2,j,ms,l,rfl,hms,hIB,hjp⟩;have HB2:=hdd (HB1.out.trans (hb2.mono HB1.out.size));have HMS:=hdd (Nat.le_trans HB1.out.size hms);have HJC:=hdd (HJS.out _ j ms l HB2.out hjp hIB.rt);clear hb2 hms hjp hIB HJS HEX;go_wp2_with fail
 refine HJC.out.mono ?_;rintro e w3⟨rfl,hf,-⟩;have HB3:=hdd (HB2.out.trans (hf.below HB2.out.size (fun b hb=>by have:=HMS.out;omega)));clear hf;go_wp2
 go_ret2
 exact⟨rfl,HB3.out⟩
end
section
open Go.RowKit Go.Maps
open Re (rat ofI ofN)
variable{P:Ex->Prop}{ns:List Nd}{K j:Nat}{v:Re}
theorem ab5(h:AllIs P ns):OkNs ns:=by
 intro i n hn;rcases h.before hn with ⟨h0,-⟩|⟨hk,-,a,b,h1,h2,h3,h4⟩|⟨h5,-,-,a,h1,h2⟩
 . exact⟨Or.inl h0,fun o ho=>by simp[opsN,h0]at ho⟩
 . refine⟨Or.inr (Or.inr (by rcases hk with h|h|h|h<;>omega)),fun o ho=> ?_⟩
   have:n.kind≠0/\n.kind≠5:=by rcases hk with h|h|h|h<;>omega
   simp only[opsN,this.1,this.2,if_false,List.mem_cons,List.not_mem_nil,or_false]at ho;rcases ho with rfl|rfl<;>omega
 . refine⟨Or.inr (Or.inl h5),fun o ho=> ?_⟩
   have:n.kind≠0:=by omega
   rw[show opsN n=[n.a] from by unfold opsN;rw[if_neg this,if_pos h5]]at ho;simp only[List.mem_cons,List.not_mem_nil,or_false]at ho;omega
theorem vJ(h:AllIs P ns):gD ns:=by
 intro i n hn h0;rcases h.before hn with ⟨-,h1,h2⟩|⟨hk,-⟩|⟨h5,-⟩
 . exact⟨h1,h2⟩
 . rcases hk with h|h|h|h<;>omega
 . omega
theorem vK(h:AllIs P ns):gF ns:=by
 intro i n hn h0;rcases h.before hn with ⟨h1,-⟩|⟨hk,-⟩|⟨-,-,h2,-⟩
 . omega
 . rcases hk with h|h|h|h<;>omega
 . exact h2
theorem agW{x:Ex}(hG:Gd K j x v)(hA:AllGd x):lJ P x (Re.sgn v):=
 fun B N w g k ns hs hi=>zP hs.dag (ab5 hs.all) (vJ hs.all) (vK hs.all) hi hG hA hs.tab
theorem AllGd.leaf (v:Nat):AllGd (.leaf v):=⟨fun a b h=>(by cases h),fun a h=>(by cases h)⟩
theorem AllGd.add {a b:Ex}(h:AllGd a)(k:AllGd b):AllGd (.add a b):=
 ⟨fun x y s=>by cases s with|addL s=>exact h.1 x y s|addR s=>exact k.1 x y s,fun x s=>by cases s with|addL s=>exact h.2 x s|addR s=>exact k.2 x s⟩
theorem AllGd.sub {a b:Ex}(h:AllGd a)(k:AllGd b):AllGd (.sub a b):=
 ⟨fun x y s=>by cases s with|subL s=>exact h.1 x y s|subR s=>exact k.1 x y s,fun x s=>by cases s with|subL s=>exact h.2 x s|subR s=>exact k.2 x s⟩
theorem AllGd.root {a:Ex}(h:AllGd a)(hG:Gd K j a v):AllGd (.root a):=
 ⟨fun x y s=>by cases s with|root s=>exact h.1 x y s,fun x s=>by cases s with|refl=>exact⟨_,_,_,hG⟩|root s=>exact h.2 x s⟩
section
variable{L:List Ex}{a b:Ex}{x y z:Re}{k m n:Nat}
end
section
variable{L:List Ex}{b:Nat}{x:Int}
end
end
section
open Go.RowKit Go.Maps
open Nat renaming le_trans->azA,not_lt->azB
open Option.some renaming inj->ay9
variable{o o':Obj}
def Grew(P:Ex->Prop)(B N:Nat)(w:World)(g:Nat)(ns ns':List Nd)(w':World):Prop:=St P B N w' g ns'/\ns<+:ns'/\DS g w w'
section
variable{P:Ex->Prop}{B N:Nat}{w w' w'' w0:World}{g:Nat}{ns ns':List Nd}
theorem Grew.below (h:Grew P B N w g ns ns' w')(hb:Below w'.heap.size w' w''):Grew P B N w g ns ns' w'':=
 ⟨h.1.below hb,h.2.1,h.2.2.trans (DS.of_below h.1.dag.glt hb)⟩
theorem Grew.trans {M:Nat}{ns'':List Nd}(h:Grew P B N w g ns ns' w')(k:Grew P B M w' g ns' ns'' w''):Grew P B M w g ns ns'' w'':=⟨k.1,h.2.1.trans k.2.1,h.2.2.trans k.2.2⟩
end
structure Stg(P:Ex->Prop)(B N:Nat)(w:World)(g:Nat)(ns:List Nd)(W:World)(ns':List Nd)(l:List (Nat×Obj)):Prop where
 grew:Grew P B N w g ns ns' W
 kept:∀p∈l,W.heap[p.1]? =some p.2/\¬DagB W g p.1/\w.heap.size<=p.1
 hw:B<=w.heap.size
 nodup:(l.map (·.1)).Nodup
section
variable{P:Ex->Prop}{B N M:Nat}{w W W':World}{g:Nat}{ns ns' ns'':List Nd}{l:List (Nat×Obj)}
theorem Stg.st (h:Stg P B N w g ns W ns' l):St P B N W g ns':=h.grew.1
theorem Stg.lt (h:Stg P B N w g ns W ns' l){p:Nat×Obj}(hp:p∈l):p.1<W.heap.size:=aF (h.kept p hp).1
theorem Stg.below (h:Stg P B N w g ns W ns' l)(hb:Below W.heap.size W W'):Stg P B N w g ns W' ns' l:=
 ⟨h.grew.below hb,fun p hp=>⟨aC (h.kept p hp).1 hb (h.lt hp),fun hd=>(h.kept p hp).2.1 ((DagB.congr (hb.block g h.grew.1.dag.glt)).1 hd),(h.kept p hp).2.2⟩,h.hw,h.nodup⟩
theorem Stg.alloc (h:Stg P B N w g ns W ns' l)(o:Obj):Stg P B N w g ns (W.alloc o) ns' ((W.heap.size,o)::l):=by
 have hb:Below W.heap.size W (W.alloc o):=aI W o;have h':=h.below hb;refine⟨h'.grew,fun p hp=> ?_,h.hw,?_⟩
 . rcases List.mem_cons.1 hp with rfl|hp
   . exact⟨heap_alloc_new W o,fun hd=>by have:=h.grew.1.dag.dagB ((DagB.congr (hb.block g h.grew.1.dag.glt)).1 hd);simp at this,h.grew.2.2.size⟩
   . exact h'.kept p hp
 . simp only[List.map_cons,List.nodup_cons]
   refine⟨fun hm=> ?_,h.nodup⟩;obtain⟨p,hp,e⟩:=List.mem_map.1 hm;have:=h.lt hp;omega
theorem Stg.step (h:Stg P B N w g ns W ns' l)(hs:St P B M W' g ns'')(hp:ns'<+:ns'')(hd:DS g W W'):Stg P B M w g ns W' ns'' l:=
 ⟨h.grew.trans ⟨hs,hp,hd⟩,fun p hp=>⟨(hd.heap (h.lt hp) (h.kept p hp).2.1).trans (h.kept p hp).1,hd.2 _ (h.lt hp) (h.kept p hp).2.1,(h.kept p hp).2.2⟩,h.hw,h.nodup⟩
theorem DagP.off {b:Nat}(h:DagP W g ns)(hn:¬DagB W g b)(hg:W.grownBy W' (some b)):DagP W' g ns:=by
 obtain⟨A,c,mb,m,ho⟩:=h.opened;obtain⟨q1,q2,q3⟩:=ho.dagB hn;obtain⟨h1,h2,h3,h4⟩:=ho;exact(show DagO _ g ns A c mb m from⟨(hg.block g (aF h1) (fun e=>q1 (ay9 e).symm)).trans h1,h2.kept hg (Or.inr q3),h3.keep (hg.block mb h3.lt (fun e=>q2 (ay9 e).symm)),h4⟩).dag
theorem Stg.write {b:Nat}(h:Stg P B N w g ns W ns' ((b,o)::l))(hb:W.grownBy W' (some b))(ho:W'.heap[b]? =some o'):Stg P B N w g ns W' ns' ((b,o')::l):=by
 obtain⟨q1,q2,q3⟩:=h.kept (b,o) (by simp);have hgb:some g≠some b:=fun e=>q2 (Or.inl (ay9 e).symm);have hg:=hb.block g h.grew.1.dag.glt hgb;have hst:=h.grew.1;have hwz:w.heap.size<=W.heap.size:=h.grew.2.2.size;refine⟨⟨⟨hst.dag.off q2 hb,hst.all,fun c hc=>hst.hi c ((DagB.congr hg).1 hc),?_,hst.tb,azA hst.hB hb.size,hst.room⟩,h.grew.2.1,?_⟩,?_,h.hw,h.nodup⟩
 . exact hst.tab.step (hb.block _ (by have:=hst.tb;have:=hst.hB;omega) (fun e=>by have:=ay9 e;have:=hst.tb;have:=h.hw;simp only at q3;omega))
 . refine⟨⟨hb.os.trans h.grew.2.2.1.os,hb.tape.trans h.grew.2.2.1.tape,hb.output.trans h.grew.2.2.1.output,azA hwz hb.size,fun c hc hn=> ?_⟩,fun c hc hn hd=>h.grew.2.2.2 c hc hn ((DagB.congr hg).1 hd)⟩
   exact(hb.block c (by omega) (fun e=>by have:=ay9 e;simp only at q3;omega)).trans (h.grew.2.2.1.block c hc hn)
 . intro p hp
   rcases List.mem_cons.1 hp with rfl|hp
   . exact⟨ho,fun hd=>q2 ((DagB.congr hg).1 hd),q3⟩
   . have hne:p.1≠b:=fun e=>(List.nodup_cons.1 h.nodup).1 (List.mem_map.2 ⟨p,hp,e⟩)
     obtain⟨r1,r2,r3⟩:=h.kept p (by simp[hp]);exact⟨(hb.block p.1 (aF r1) (fun e=>hne (ay9 e))).trans r1,fun hd=>r2 ((DagB.congr hg).1 hd),r3⟩
end
abbrev numO(g k:Nat):Obj:=.cells #[.pointer (some ⟨g,0,none⟩),.int .i64 (k:Int)] 32
section
variable{P:Ex->Prop}{B N M:Nat}{w W W':World}{g i j b v:Nat}{ns ns' ns'':List Nd}{l:List (Nat×Obj)}{x y:Ex}
end
abbrev PT:Ex->Prop:=fun _=>True
section
variable{α:Type}{a:α}{l:List α}
theorem m0:a∈a::l:=.head _
theorem m1{b0:α}:a∈b0::a::l:=.tail _ m0
theorem m2{b0 b1:α}:a∈b0::b1::a::l:=.tail _ m1
theorem m3{b0 b1 b2:α}:a∈b0::b1::b2::a::l:=.tail _ m2
theorem m4{b0 b1 b2 b3:α}:a∈b0::b1::b2::b3::a::l:=.tail _ m3
theorem m5{b0 b1 b2 b3 b4:α}:a∈b0::b1::b2::b3::b4::a::l:=.tail _ m4
theorem m6{b0 b1 b2 b3 b4 b5:α}:a∈b0::b1::b2::b3::b4::b5::a::l:=.tail _ m5
end
structure Bs where
 w:World
 B:Nat
 ns:List Nd
abbrev bs(w:World):Bs:=⟨w,w.heap.size,[]⟩
def Run(s:Bs)(g N:Nat)(K:List (Ex×Nat))(l:List (Nat×Obj))(W:World):Prop:=∃ns',Stg PT s.B N s.w g s.ns W ns' l/\∀p∈K,Is ns' p.1 p.2
section
variable{s:Bs}{w0 w1 W W':World}{g N M:Nat}{K:List (Ex×Nat)}{l l':List (Nat×Obj)}
theorem Run.start (hb1:Below w0.heap.size w0 w1)(hk:∀p∈l,w1.heap[p.1]? =some p.2/\w0.heap.size<=p.1)(hn:(l.map (·.1)).Nodup)(htb:0<w0.heap.size)
 (hs:St PT w1.heap.size 0 W g []) (hb:Below w1.heap.size w1 W):Run (bs w0) g 0 [] l W:=by
 have hz:=hb1.size;have hst:St PT w0.heap.size 0 W g []:=⟨hs.dag,hs.all,fun b h=>azA hz (hs.hi b h),hs.tab,htb,azA hz hs.hB,hs.room⟩;refine⟨[],⟨⟨hst,List.prefix_rfl,Fr.of_below (hb1.trans (hb.mono hz)),fun b hlt _ hd=>absurd hlt (azB.2 (hst.hi _ hd))⟩,fun p hp=> ?_,Nat.le_refl _,hn⟩,fun p hp=>by cases hp⟩;obtain⟨h1,h2⟩:=hk p hp;have hlt:=aF h1;exact⟨aC h1 hb hlt,fun hd=>by have:=hs.hi _ hd;omega,h2⟩
theorem Run.below (h:Run (bs w0) g N K l W):Below w0.heap.size w0 W:=by
 obtain⟨ns',hs,-⟩:=h;refine hs.grew.2.2.below nlr fun b hb=> ?_;rcases hb with rfl|⟨v,mb,T,e,-⟩
 . exact hs.st.hi _ (Or.inl rfl)
 . exact absurd (aF e) (azB.2 (hs.st.hi _ (Or.inl rfl)))
theorem Run.kept (h:Run s g N K l W):∀p∈l,W.heap[p.1]? =some p.2:=fun p hp=>by obtain⟨ns',hs,-⟩:=h;exact(hs.kept p hp).1
theorem Run.nodup (h:Run s g N K l W):(l.map (·.1)).Nodup:=by obtain⟨ns',hs,-⟩:=h;exact hs.nodup
theorem Run.at (h:Run s g N K l W){b:Nat}(hp:(b,o)∈l):W.heap[b]? =some o:=h.kept _ hp
theorem Run.step (h:Run s g N K l W)(hb:Below W.heap.size W W'):Run s g N K l W':=by obtain⟨ns',hs,hK⟩:=h;exact⟨ns',hs.below hb,hK⟩
theorem Run.drew (h:Run s g N K l W):Run s g N K l W.drew:=h.step (Below.refl _ _).drew
theorem Run.alloc (h:Run s g N K l W)(o:Obj):Run s g N K ((W.heap.size,o)::l) (W.alloc o):=by obtain⟨ns',hs,hK⟩:=h;exact⟨ns',hs.alloc o,hK⟩
theorem Run.sub (h:Run s g N K l W)(hl:∀p∈l',p∈l)(hn:(l'.map (·.1)).Nodup):Run s g N K l' W:=by obtain⟨ns',hs,hK⟩:=h;exact⟨ns',⟨hs.grew,fun p hp=>hs.kept p (hl p hp),hs.hw,hn⟩,hK⟩
theorem Run.few (h:Run s g N K l W){K':List (Ex×Nat)}(hs:∀p∈K',p∈K):Run s g N K' l W:=by obtain⟨ns',h1,hK⟩:=h;exact⟨ns',h1,fun p hp=>hK p (hs p hp)⟩
theorem Run.write {b:Nat}(h:Run s g N K ((b,o)::l) W)(hb:W.grownBy W' (some b))(ho:W'.heap[b]? =some o'):Run s g N K ((b,o')::l) W':=by obtain⟨ns',hs,hK⟩:=h;exact⟨ns',hs.write hb ho,hK⟩
end
def RtR(s:Bs)(g N:Nat)(K:List (Ex×Nat))(l:List (Nat×Obj))(x:Ex)(e:Ending)(W':World):Prop:=∃k,e=.returned (numV g k)/\Run s g N ((x,k)::K) l W'
def RtA(s:Bs)(g N:Nat)(K:List (Ex×Nat))(l:List (Nat×Obj))(v:Value)(e:Ending)(W':World):Prop:=e=.returned v/\Run s g N K l W'
section
variable{s:Bs}{W W':World}{g N M:Nat}{K:List (Ex×Nat)}{l:List (Nat×Obj)}{x y:Ex}{ns:List Nd}
theorem agX{ns':List Nd}{N:Nat}{W:World}(h:Stg PT s.B N s.w g s.ns W ns' l)(hK:∀p∈K,Is ns' p.1 p.2){k:Nat}(hx:Is ns' x k):∀p∈(x,k)::K,Is ns' p.1 p.2:=fun p hp=>by
 rcases List.mem_cons.1 hp with rfl|hp
 . exact hx
 . exact hK p hp
theorem oJ{P:Nat->Value}(h:Stg PT s.B N s.w g s.ns W ns l)(hK:∀p∈K,Is ns p.1 p.2){e:Ending}(hr:RetE PT s.B M W g ns P x e W'):∃k,e=.returned (P k)/\Run s g M ((x,k)::K) l W':=by
 obtain⟨k,ns',e1,h1,h2,h3,h4⟩:=hr;exact⟨k,e1,ns',h.step h1 h2 h4,agX (h.step h1 h2 h4) (fun p hp=>(hK p hp).mono h2) h3⟩
theorem agY(h:Stg PT s.B N s.w g s.ns W ns l)(hK:∀p∈K,Is ns p.1 p.2){v:Value}{e:Ending}(hr:RetQ PT s.B M W g ns v e W'):RtA s g M K l v e W':=by
 obtain⟨e1,ns',h1,h2,h3⟩:=hr;exact⟨e1,ns',h.step h1 h2 h3,fun p hp=>(hK p hp).mono h2⟩
end
section
variable{s:Bs}{W:World}{g N i j k m b v:Nat}{K:List (Ex×Nat)}{l:List (Nat×Obj)}{x y:Ex}{q:Int}
theorem Run.of (h:Run s g N K l W)(hN:N<20000)(hv:v<18446744073709551616)(hf:fin v):Calls Tryz.prog 28 #[.pointer (some ⟨g,0,none⟩),.float .f64 v] W (RtR s g (N+1) K l (.leaf v)):=by
 obtain⟨ns,hs,hK⟩:=h;exact(ajT hs.st hN hv hf trivial).mono fun _ _ hr=>oJ hs hK hr
theorem Run.sqrt (h:Run s g N K l W)(hN:N<20000)(hx:(x,i)∈K):Calls Tryz.prog 29 #[numV g i] W (RtR s g (N+1) K l (.root x)):=by
 obtain⟨ns,hs,hK⟩:=h;exact(agP hs.st hN (hK _ hx) trivial).mono fun _ _ hr=>oJ hs hK hr
theorem Run.cmp (h:Run s g N K l W)(hN:N<20000)(hx:(x,i)∈K)(hy:(y,j)∈K)(hS:lJ PT (.sub x y) q):Calls Tryz.prog 15 #[numV g i,numV g j] W (RtA s g (N+1) K l (.tuple #[.int .i64 q,.nilIface])):=by
 obtain⟨ns,hs,hK⟩:=h;exact(aiC hs.st hN (hK _ hx) (hK _ hy) trivial hS).mono fun _ _ hr=>agY hs hK hr
variable{px py qx qy rx ry:Ex}{i' j' k':Nat}
end
theorem aiI{w0 w1:World}{l:List (Nat×Obj)}(hb1:Below w0.heap.size w0 w1)(hk:∀p∈l,w1.heap[p.1]? =some p.2/\w0.heap.size<=p.1)(hn:(l.map (·.1)).Nodup)(hT:Tab w0)(htb:0<w0.heap.size):
 Calls Tryz.prog 8 #[.bool true] w1 (fun e W=>∃g,e=.returned (.pointer (some ⟨g,0,none⟩))/\Run (bs w0) g 0 [] l W):=by
 refine(ah7 (P:=PT) (hT.below hb1) (Nat.lt_of_lt_of_le htb hb1.size) nlr).mono ?_;rintro e W⟨g,rfl,hs,hb,-⟩;exact⟨g,rfl,Run.start hb1 hk hn htb hs hb⟩
def CloE(e:Ex)(bits:Int)(j:Nat):Prop:=(∃v,DenR e v)/\FinE e/\bN (pw j) e<=4000000/\j<=11/\∃b,dA e (pw j)=some b/\fM b.lo b.hi bits=true
def aiJ(w:World)(x:Ex)(bits:Int)(j:Nat)(e:Ending)(w':World):Prop:=∃k b V,(k<=j/\dA x (pw k)=some b/\fM b.lo b.hi bits=true)/\e=.returned (.tuple #[V,.nilIface])/\Below w.heap.size w w'/\BlP (fun q=>w.heap.size<=q) w' V b
theorem adU{P:Ex->Prop}{B N:Nat}{w:World}{g i j:Nat}{ns:List Nd}{x:Ex}{bits:Int}(hs:St P B N w g ns)(hx:Is ns x i)(hc:CloE x bits j)(hb:0<=bits/\bits<=1000000):
 Calls Tryz.prog 104 #[.pointer (some ⟨g,0,none⟩),.int .i64 (i:Int),.int .i64 bits,.int .i64 65536] w (agB w x bits j):=by
 obtain⟨⟨v,hv⟩,h1,h2,h3,h4⟩:=hc;exact aaX hs.dag (ab5 hs.all) (vJ hs.all) (vK hs.all) hx hv h1 h2 h3 h4 hs.tab hb
theorem agZ{P:Ex->Prop}{B N:Nat}{w:World}{g i j:Nat}{ns:List Nd}{x:Ex}{bits q:Int}(hs:St P B N w g ns)(hx:Is ns x i)(hS:lJ P x q)(hc:CloE x bits j)(hb:0<=bits/\bits<=1000000):
 Calls Tryz.prog 67 #[numV g i,.int .i64 bits] w (aiJ w x bits j):=by
 obtain⟨w2,hw2,hb2,hs2,b1,b2⟩:=pro2 w (.cells #[.pointer (some ⟨g,0,none⟩),.int .i64 (i:Int)] 32) (.cells #[.bool false,.slice none 0 0,.int .i64 0,.bool false,.slice none 0 0,.int .i64 0] 123);obtain⟨c0,c1,-,-⟩:=aB b1;have HSG:=hdd (zI (hs.below hb2) hx hS);have HCL:Hid (∀w',Below w.heap.size w w'->Calls Tryz.prog 104 #[.pointer (some ⟨g,0,none⟩),.int .i64 (i:Int),.int .i64 bits,.int .i64 65536] w' (agB w' x bits j)):=hdd fun w' h=>adU (hs.below h) hx hc hb;have HB:=hdd hb2;have B2:=hdd b2;have HS2:=hdd hs2;have hnn:¬bits<0:=by omega
 clear hs hx hS hc hb hb2 b1 b2 hs2;go_enter Tryz.func67,Tryz.ntmps67
 go_wp2_with fail
 refine HSG.out.mono ?_;rintro e w3⟨rfl,hb3⟩;replace c0:=cbl c0 hb3;replace c1:=cbl c1 hb3;have HB3:=hdd (HB.out.trans (hb3.mono HB.out.size));have B3:=hdd (hbl B2.out hb3);have HS3:Hid (w.heap.size+2<=w3.heap.size):=hdd (by have:=HS2.out;have:=hb3.size;omega);have HC3:=hdd (HCL.out _ HB3.out);clear hb3 HSG HB B2 HS2 HCL hw2;go_wp2_with fail
 refine HC3.out.mono ?_;rintro e w4⟨k,bb,hk,hne,hnw,hb4,vb,rfl,hbal⟩;obtain⟨e1,A1,n1,k1,e2,A2,n2,k2,rfl,i1,i2⟩:=id hbal;obtain⟨w5,hw5,hb5,hs5,b5⟩:=pro1 w4 (.cells #[.bool e1,.slice A1 n1 k1,.int .i64 bb.lo.exp,.bool e2,.slice A2 n2 k2,.int .i64 bb.hi.exp] 123);have hb35:=hb4.trans (hb5.mono hb4.size);have B5:=hbl B3.out hb35;obtain⟨x0,x1,x2,x3,x4,x5⟩:=aG b5;obtain⟨hR,hF⟩:=aU (x:=bb) (HB3.out.trans (hb35.mono HB3.out.size)) (g:=w.heap.size+1) (by omega) B5 (i1.below hb5) (i2.below hb5) (fun b hb=>by have:=HS3.out;omega);have HR:=hdd hR.out;have hFF:=hdd hF;have HK:=hdd (And.intro hk (And.intro hne hnw));obtain⟨p0,p1,p2,p3,p4,p5⟩:=aG B5;obtain⟨q0,q1,q2,q3,q4,q5⟩:=fB B5;clear hR hF B5 hb35 hb4 hb5 hs5 b5 hbal i1 i2 hk hne hnw HC3 HB3 B3;go_wp2;obtain⟨f0,f1,f2,f3,f4,f5⟩:=aG hFF.out;unfold put6 at f0 f1 f2 f3 f4 f5;obtain⟨h1,V,h2,h3⟩:=HR.out;refine bodyPost_ret (v:=.tuple #[.agg #[_,_,_,_,_,_],_]) (by simp[results,Tryz.results67,go_sem,f0,f1,f2,f3,f4,f5];first|exact⟨⟨rfl,rfl,rfl,rfl,rfl,rfl⟩,rfl⟩|rfl) rfl ?_
 injection h2 with h2;exact⟨k,bb,V,HK.out,by rw[<-h2],h1,h3⟩
end
end Go.Proofs.YtebocijmegkfgaaGreatDoor
