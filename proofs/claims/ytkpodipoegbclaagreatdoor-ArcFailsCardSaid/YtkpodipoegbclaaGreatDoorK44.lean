/- A part of the proof: contracts of functions and plain laws (AfD, AfE). -/
import Derived.Test.YtkpodipoegbclaaGreatDoorK41
import Derived.Test.YtkpodipoegbclaaGreatDoorK42
import Derived.Test.YtkpodipoegbclaaGreatDoorK17
import Derived.Test.YtkpodipoegbclaaGreatDoorK43
set_option linter.unusedVariables false
set_option linter.unusedSimpArgs false
set_option maxHeartbeats 25600000
set_option maxRecDepth 100000
namespace Go.Proofs.YtkpodipoegbclaaGreatDoor
section
open Go.RowKit Go.Maps
open List renaming setIfInBounds_toArray->avY,map_cons->avZ,map_nil->av0,set->av1
variable{v:(Nat->Nat)->Value}{x:Ex}{j:Int}{ca cb cc m:Nat}{a q:Option Addr}{l:Value}{w:World}
abbrev numM(g:Nat):Value:=.agg #[.pointer (some ⟨g,0,none⟩),.int .i64 (-1)]
theorem Run.badM {s:Bs}{g N:Nat}{K:List (Ex×Nat)}{l:List (Nat×Obj)}{W:World}(h:Run s g N K l W):Bad W (numM g):=by
 obtain⟨ns,hs,-⟩:=h;exact Or.inr ⟨g,ns,hs.st.dag,rfl⟩
theorem atO{i:Int}(h:∀w',Below w.heap.size w w'->Calls Tryz.prog 43 #[.agg #[.pointer a,.int .i64 i],l] w' (RetV w' (.bool false))):
 Calls Tryz.prog 22 #[.agg #[.pointer a,.int .i64 i],l] w (apK w a):=by
 obtain⟨w2,hw2,hb2,hs2,b1,b2⟩:=pro2 w (.cells #[.pointer a,.int .i64 i] 26) (.cells #[.pointer none,.int .i64 0] 26);obtain⟨c0,c1,-,-⟩:=aB b1;have HG:=hdd (h w2 hb2);have HB:=hdd hb2;have B2:=hdd b2;clear h hb2 hs2 b1 b2;go_enter Tryz.func22,Tryz.ntmps22
 go_wp2_with fail
 refine HG.out.mono ?_;rintro e w5⟨rfl,hb5⟩;replace c0:=cbl c0 hb5;replace c1:=cbl c1 hb5;have B5:=hdd (hbl B2.out hb5);have HB5:=hdd (aA HB.out hb5);have HN:=hdd (apI (w:=w5) (a:=a) (k:=i));clear hb5;go_wp2_with fail
 refine HN.out.mono ?_;rintro e w6⟨rfl,hb6⟩;have b6:=hbl B5.out hb6;obtain⟨r0,r1,f0,f1⟩:=aB b6;have g1:=hdd (set2 b6 (.pointer a) (.int .i64 (-1)));have HF:Hid (∀u v,Below w.heap.size w ((w6.setCell ⟨w.heap.size+1,0,none⟩ u).setCell ⟨w.heap.size+1,1,none⟩ v)):=hdd fun u v=>((aA HB5.out hb6).setCell (by simp) u).setCell (by simp) v;clear hb6 b6;go_wp2;obtain⟨x0,x1,-,-⟩:=aB g1.out;refine bodyPost_ret (v:=.agg #[_,_]) (by simp[results,Tryz.results22,go_sem,x0,x1];first|exact⟨rfl,rfl⟩|rfl) rfl ?_;exact⟨rfl,HF.out _ _⟩
theorem asH{i:Int}(h:∀w',Below w.heap.size w w'->Calls Tryz.prog 43 #[.agg #[.pointer a,.int .i64 i],l] w' (RetV w' (.bool false))):
 Calls Tryz.prog 20 #[.agg #[.pointer a,.int .i64 i],l] w (apK w a):=by
 obtain⟨w2,hw2,hb2,hs2,b1,b2⟩:=pro2 w (.cells #[.pointer a,.int .i64 i] 26) (.cells #[.pointer none,.int .i64 0] 26);obtain⟨c0,c1,-,-⟩:=aB b1;have HG:=hdd (h w2 hb2);have HB:=hdd hb2;have B2:=hdd b2;clear h hb2 hs2 b1 b2;go_enter Tryz.func20,Tryz.ntmps20
 go_wp2_with fail
 refine HG.out.mono ?_;rintro e w5⟨rfl,hb5⟩;replace c0:=cbl c0 hb5;replace c1:=cbl c1 hb5;have B5:=hdd (hbl B2.out hb5);have HB5:=hdd (aA HB.out hb5);have HN:=hdd (apI (w:=w5) (a:=a) (k:=i));clear hb5;go_wp2_with fail
 refine HN.out.mono ?_;rintro e w6⟨rfl,hb6⟩;have b6:=hbl B5.out hb6;obtain⟨r0,r1,f0,f1⟩:=aB b6;have g1:=hdd (set2 b6 (.pointer a) (.int .i64 (-1)));have HF:Hid (∀u v,Below w.heap.size w ((w6.setCell ⟨w.heap.size+1,0,none⟩ u).setCell ⟨w.heap.size+1,1,none⟩ v)):=hdd fun u v=>((aA HB5.out hb6).setCell (by simp) u).setCell (by simp) v;clear hb6 b6;go_wp2;obtain⟨x0,x1,-,-⟩:=aB g1.out;refine bodyPost_ret (v:=.agg #[_,_]) (by simp[results,Tryz.results20,go_sem,x0,x1];first|exact⟨rfl,rfl⟩|rfl) rfl ?_;exact⟨rfl,HF.out _ _⟩
theorem as6{i:Int}(h:Bad w (.agg #[.pointer a,.int .i64 i])):Calls Tryz.prog 20 #[.agg #[.pointer a,.int .i64 i],l] w (apK w a):=asH fun _ hb=>ap3 (h.below hb)
section
variable{S:Spec Ex}{w0:Bs}{g c0:Nat}{i:Nat}
theorem ao5(_hM:c0+S.total<=20000)(hc:S.cost i=0)(hk:S.made i=[])(hv:∀ν,(S.val i).den ν=numM g){v:(Nat->Nat)->Int}:aoR S w0 g c0 i 23 (fun ν=>#[numM g,.agg #[.pointer q,.int .i64 (v ν)]]):=by
 intro lst ν c w hD hl hG;refine(as0 (SubBad.first (Run.badM hG))).mono ?_;rintro e w'⟨rfl,hb⟩;exact⟨ν,fun _ _=>rfl,by rw[hv],by rw[hc];exact ret0 hk (Run.step hG hb)⟩
theorem aqL(_hM:c0+S.total<=20000)(hc:S.cost i=0)(hk:S.made i=[])(hv:∀ν,(S.val i).den ν=numM g):aoR S w0 g c0 i 22 (fun ν=>#[numM g,v ν]):=by
 intro lst ν c w hD hl hG;refine(as1 (Run.badM hG)).mono ?_;rintro e w'⟨rfl,hb⟩;exact⟨ν,fun _ _=>rfl,by rw[hv],by rw[hc];exact ret0 hk (Run.step hG hb)⟩
theorem aq6(_hM:c0+S.total<=20000)(hc:S.cost i=0)(hk:S.made i=[])(hv:∀ν,(S.val i).den ν=numM g):aoR S w0 g c0 i 20 (fun ν=>#[numM g,v ν]):=by
 intro lst ν c w hD hl hG;refine(as6 (Run.badM hG)).mono ?_;rintro e w'⟨rfl,hb⟩;exact⟨ν,fun _ _=>rfl,by rw[hv],by rw[hc];exact ret0 hk (Run.step hG hb)⟩
theorem asI(_hM:c0+S.total<=20000){B:Blk}(hx:(m,x)∈S.know)(px:S.pre i m=true)(hB:B∈S.blocks)(pB:S.pre i B.b=true)(hI:B.init=[.v (.pointer q),.v (.int .i64 j)])(hT:B.T=26)(hst:B.st=none)(hq:q=none\/q=some ⟨g,0,none⟩/\j=-1)
 (hc:S.cost i=0) (hk:S.made i=[]) (hv:∀ν,(S.val i).den ν=numM g):aoR S w0 g c0 i 22 (fun ν=>#[numV g (ν m),.slice (some ⟨ν B.b,0,none⟩) 1 1]):=by
 intro lst ν c w hD hl hG;have hb:w.heap[ν B.b]? =some (.cells #[.pointer q,.int .i64 j] 26):=by
  have:=Run.at hG (apE (S:=S) (ν:=ν) hB (pre_on pB hD));rw[this];unfold Blk.obj Blk.cont;rw[hst,hI,hT];rfl
 obtain⟨ns,hs,hK⟩:=id hG;have hI:=hK _ (ao9 hx (pre_on px hD));have hd:=hs.st.dag;refine(atO fun w' hw'=>apS (q:=q) (j:=j) (hd.below hw') hI.lt ?_ (cell_below (bZ (k:=0) hb rfl) hw' nlr) (cell_below (bZ (k:=1) hb rfl) hw' nlr)).mono ?_
 . rcases hq with rfl|⟨rfl,rfl⟩
   . exact Or.inl ⟨j,rfl⟩
   . exact Or.inr ⟨⟨ns,hd.below hw'⟩,rfl⟩
 . rintro e w'⟨rfl,hb⟩
   exact⟨ν,fun _ _=>rfl,by rw[hv],by rw[hc];exact ret0 hk (Run.step hG hb)⟩
theorem atP(_hM:c0+S.total<=20000){B:Blk}(hx:(m,x)∈S.know)(px:S.pre i m=true)(hB:B∈S.blocks)(pB:S.pre i B.b=true)(hI:B.init=[.v (.pointer q),.v (.int .i64 j)])(hT:B.T=26)(hst:B.st=none)(hq:q=none\/q=some ⟨g,0,none⟩/\j=-1)
 (hc:S.cost i=0) (hk:S.made i=[]) (hv:∀ν,(S.val i).den ν=numM g):aoR S w0 g c0 i 20 (fun ν=>#[numV g (ν m),.slice (some ⟨ν B.b,0,none⟩) 1 1]):=by
 intro lst ν c w hD hl hG;have hb:w.heap[ν B.b]? =some (.cells #[.pointer q,.int .i64 j] 26):=by
  have:=Run.at hG (apE (S:=S) (ν:=ν) hB (pre_on pB hD));rw[this];unfold Blk.obj Blk.cont;rw[hst,hI,hT];rfl
 obtain⟨ns,hs,hK⟩:=id hG;have hI:=hK _ (ao9 hx (pre_on px hD));have hd:=hs.st.dag;refine(asH fun w' hw'=>apS (q:=q) (j:=j) (hd.below hw') hI.lt ?_ (cell_below (bZ (k:=0) hb rfl) hw' nlr) (cell_below (bZ (k:=1) hb rfl) hw' nlr)).mono ?_
 . rcases hq with rfl|⟨rfl,rfl⟩
   . exact Or.inl ⟨j,rfl⟩
   . exact Or.inr ⟨⟨ns,hd.below hw'⟩,rfl⟩
 . rintro e w'⟨rfl,hb⟩
   exact⟨ν,fun _ _=>rfl,by rw[hv],by rw[hc];exact ret0 hk (Run.step hG hb)⟩
end
theorem asJ{g j:Nat}{Y:Ex}(hca:FlOk ca)(hcb:FlOk cb)(hcc:FlOk cc):FnOk 130 g 9 #[.pointer (some ⟨g,0,none⟩),curV 2 ca cb cc,.agg #[.pointer (some ⟨g,0,none⟩),.int .i64 (-1),.pointer (some ⟨g,0,none⟩),.int .i64 (j:Int)]] [(Y,j)] (fun ks=>numM g) []:=FnOk.of fun w B ns N hR hN=>by
 have R1:=hdd hR;clear hR;go_enter Tryz.func130,Tryz.ntmps130
 go_upto_region 0 with fail
 refine Spec.go [.w (.c (.ptr 1 0)),.w (.c (.ptr 2 0)),.w (.c (.ptr 3 0))] [0,1,2]
  [(0,Y)] [⟨1,67,curC 2 ca cb cc,none⟩,⟨2,69,[.v (.pointer (some ⟨g,0,none⟩)),.v (.int .i64 (-1)),.v (.pointer (some ⟨g,0,none⟩)),.id 0],none⟩,⟨3,26,[.v (.pointer none),.v (.int .i64 0)],none⟩]
  [0,0,0] [[],[],[]] [(1,.w (.agg ([.v (.int .i64 2),.v (.float .f64 ca),.v (.float .f64 cb),.v (.float .f64 cc)]))),(2,.w (.agg ([.v (.pointer (some ⟨g,0,none⟩)),.v (.int .i64 (-1)),.v (.pointer (some ⟨g,0,none⟩)),.id 0])))]
  [5,6,7] [j] 3 N [] [] R1.out
  (fun b hM=>aoB (aoB (aoB aoF
    (aoE b m0))
    (aoE b m1))
    (aoE b m2)) ?_
 intro b1 b2 b3 ν W2 hR;have R2:=hdd hR;clear hR R1;simp only[putL,avY,av1,fs0,fs1,fsn,dSw,dSt,dWc,dWa,dv,di,dp,ds',avZ,av0,nuTn,nuT0,nuT1,nuU0,nuU1]
 go_upto_region 1 with fail
 refine Spec.go [.w (.c (.ptr 2 0)),.w (.agg ([.v (.pointer (some ⟨g,0,none⟩)),.v (.int .i64 (-1))])),.w (.c (.v (.pointer (some ⟨g,0,none⟩)))),.w (.c (.ptr 1 1)),.w (.c (.v (.float .f64 ca))),numS g 4,.w (.agg ([.v (.pointer (some ⟨g,0,none⟩)),.v (.int .i64 (-1))])),.w (.c (.ptr 5 0)),noS] [5,7]
  [(0,Y),(4,(.leaf ca))] [⟨1,67,curC 2 ca cb cc,none⟩,⟨2,69,[.v (.pointer (some ⟨g,0,none⟩)),.v (.int .i64 (-1)),.v (.pointer (some ⟨g,0,none⟩)),.id 0],none⟩,⟨3,26,[.v (.pointer none),.v (.int .i64 0)],none⟩,⟨5,26,[.v (.pointer none),.v (.int .i64 0)],some (8,[.v (.pointer (some ⟨g,0,none⟩)),.v (.int .i64 (-1))])⟩]
  [0,0,0,0,0,1,0,0,0] [[],[0],[],[],[3],[2,3,4],rgn 6,[],rgn 8] [(5,.w (.c (.ptr 2 0))),(0,.w (.c (.v (.pointer (some ⟨g,0,none⟩))))),(4,.w (.c (.ptr 1 0)))]
  [10,11,12,13,14,15,16,8,0] [j,b1,b2,b3] 9 (N+1) [] [] R2.out
  (fun b hM=>aoB (aoB (aoB (aoB (aoB (aoB (aoB (aoB (aoB aoF
    (aoC b))
    (aoG b 2 m1))
    (aoC b))
    (aoC b))
    (aoJ b m0))
    (aoD b (c_of hM hca.1 hca.2 rfl rfl rfl rfl)))
    (aoD b (ao5 hM rfl rfl (fun _=>rfl) (q:=some ⟨g,0,none⟩) (v:=fun ν=>((ν 4:Nat):Int)))))
    (aoE b m3))
    (aoH b 2 m3)) ?_
 intro n4 b5 ν W3 hR;have R3:=hdd hR;clear hR R2;simp only[putL,avY,av1,fs0,fs1,fsn,dSw,dSt,dWc,dWa,dv,di,dp,ds',avZ,av0,nuTn,nuT0,nuT1,nuU0,nuU1]
 go_upto_region 2 with fail
 refine Spec.go [.w (.c (.ptr 2 2)),numS g 0,.w (.c (.v (.pointer (some ⟨g,0,none⟩)))),.w (.c (.ptr 1 2)),.w (.c (.v (.float .f64 cb))),numS g 5,numS g 6,.w (.c (.ptr 7 0)),noS] [5,6,7]
  [(0,Y),(5,(.leaf cb)),(6,(.sub Y (.leaf cb)))] [⟨1,67,curC 2 ca cb cc,none⟩,⟨2,69,[.v (.pointer (some ⟨g,0,none⟩)),.v (.int .i64 (-1)),.v (.pointer (some ⟨g,0,none⟩)),.id 0],none⟩,⟨3,26,[.v (.pointer none),.v (.int .i64 0)],none⟩,⟨4,26,[.v (.pointer (some ⟨g,0,none⟩)),.v (.int .i64 (-1))],none⟩,⟨7,26,[.v (.pointer none),.v (.int .i64 0)],some (8,numC g 6)⟩]
  [0,0,0,0,0,1,1,0,0] [[],[0],[],[],[3],[2,3,4],rgn 6,[],rgn 8] [(5,.w (.c (.ptr 2 0))),(0,.w (.c (.v (.pointer (some ⟨g,0,none⟩))))),(4,.w (.c (.ptr 1 0)))]
  [17,18,19,20,21,22,23,9,0] [j,b1,b2,b3,b5] 9 (N+3) [true,false] [] R3.out
  (fun b hM=>aoB (aoB (aoB (aoB (aoB (aoB (aoB (aoB (aoB aoF
    (aoC b))
    (aoG b 2 m1))
    (aoC b))
    (aoC b))
    (aoJ b m0))
    (aoD b (c_of hM hcb.1 hcb.2 rfl rfl rfl rfl)))
    (aoD b (aqC hM m0 m1 rfl rfl rfl rfl rfl rfl)))
    (aoE b m4))
    (aoH b 2 m4)) ?_
 intro n6 n7 b8 ν W4 hR;have R4:=hdd hR;clear hR R3;simp only[putL,avY,av1,fs0,fs1,fsn,dSw,dSt,dWc,dWa,dv,di,dp,ds',avZ,av0,nuTn,nuT0,nuT1,nuU0,nuU1]
 go_upto_region 3 with fail
 refine Spec.go [.w (.agg ([.v (.pointer (some ⟨g,0,none⟩)),.v (.int .i64 (-1))])),.w (.agg ([.v (.pointer (some ⟨g,0,none⟩)),.v (.int .i64 (-1))])),.w (.c (.sl 5 1)),.w (.agg ([.v (.pointer (some ⟨g,0,none⟩)),.v (.int .i64 (-1))])),numS g 3,numS g 3,.w (.c (.sl 6 1)),numS g 7,.w (.c (.sl 8 1)),.w (.agg ([.v (.pointer (some ⟨g,0,none⟩)),.v (.int .i64 (-1))])),.w (.c (.v (.pointer (some ⟨g,0,none⟩)))),.w (.c (.ptr 0 3)),.w (.c (.v (.float .f64 cc))),numS g 9,.w (.agg ([.v (.pointer (some ⟨g,0,none⟩)),.v (.int .i64 (-1))])),noS] [2,6,7,8,13]
  [(3,(.sub Y (.leaf cb))),(7,(.mul (.sub Y (.leaf cb)) (.sub Y (.leaf cb)))),(9,(.leaf cc))] [⟨0,67,curC 2 ca cb cc,none⟩,⟨1,26,[.v (.pointer none),.v (.int .i64 0)],some (15,[.v (.pointer (some ⟨g,0,none⟩)),.v (.int .i64 (-1))])⟩,⟨2,26,[.v (.pointer (some ⟨g,0,none⟩)),.v (.int .i64 (-1))],none⟩,⟨4,26,numC g 3,none⟩,⟨5,26,[.v (.pointer (some ⟨g,0,none⟩)),.v (.int .i64 (-1))],none⟩,⟨6,26,numC g 3,none⟩,⟨8,26,numC g 7,none⟩]
  [0,0,0,0,0,0,0,1,0,0,0,0,0,1,0,0] [[],[],[1],[0,1,2],[],[],[5],[4,5,6],[4,5,6,7],rgn 9,[],[],[11],[10,11,12],rgn 14,rgn 15] [(7,.w (.c (.ptr 2 0))),(8,.w (.c (.ptr 4 0))),(0,.w (.c (.v (.pointer (some ⟨g,0,none⟩))))),(4,.w (.c (.ptr 0 0))),(6,.w (.c (.ptr 1 0)))]
  [24,25,26,27,28,29,30,31,32,33,34,35,36,37,38,0] [b1,b3,b5,n7,b8] 16 (N+5) [false,false] [true,false] R4.out
  (fun b hM=>aoB (aoB (aoB (aoB (aoB (aoB (aoB (aoB (aoB (aoB (aoB (aoB (aoB (aoB (aoB (aoB aoF
    (aoG b 2 m2))
    (aoG b 2 m2))
    (aoK b m4))
    (aoD b (aqL hM rfl rfl (fun _=>rfl) (v:=fun ν=>.slice (some ⟨(ν 5),0,none⟩) 1 1))))
    (aoG b 2 m3))
    (aoG b 2 m3))
    (aoK b m5))
    (aoD b (aqD hM m0 m0 rfl rfl m5 rfl rfl rfl rfl rfl rfl rfl rfl)))
    (aoK b m6))
    (aoD b (aq6 hM rfl rfl (fun _=>rfl) (v:=fun ν=>.slice (some ⟨(ν 8),0,none⟩) 1 1))))
    (aoC b))
    (aoC b))
    (aoJ b m0))
    (aoD b (c_of hM hcc.1 hcc.2 rfl rfl rfl rfl)))
    (aoD b (ao5 hM rfl rfl (fun _=>rfl) (q:=some ⟨g,0,none⟩) (v:=fun ν=>((ν 9:Nat):Int)))))
    (aoH b 2 m1)) ?_
 intro b9 b10 n11 b12 n13 ν W5 hR;replace hR:Run ⟨w,B,ns⟩ g (N+5) [((.sub Y (.leaf cb)),n7),((.mul (.sub Y (.leaf cb)) (.sub Y (.leaf cb))),n11),((.leaf cc),n13)] [(b1,.cells #[(.int .i64 2),(.float .f64 ca),(.float .f64 cb),(.float .f64 cc)] 67),(b3,.cells #[.pointer (some ⟨g,0,none⟩),.int .i64 (-1)] 26),(b5,.cells #[.pointer (some ⟨g,0,none⟩),.int .i64 (-1)] 26),(b8,numO g n7),(b9,.cells #[.pointer (some ⟨g,0,none⟩),.int .i64 (-1)] 26),(b10,numO g n7),(b12,numO g n11)] W5:=hR;have R5:=hdd hR;clear hR R4;simp only[putL,avY,av1,fs0,fs1,fsn,dSw,dSt,dWc,dWa,dv,di,dp,ds',avZ,av0,nuTn,nuT0,nuT1,nuU0,nuU1];go_wp2;obtain⟨x0,x1,-,-⟩:=aB (R5.out.at m1);refine bodyPost_ret (v:=.agg #[_,_]) (by simp[results,Tryz.results130,go_sem,x0,x1];first|exact⟨rfl,rfl⟩|rfl) rfl ?_;exact⟨[],rfl,rfl,_,(R5.out.more (by omega)).few (aoM [])⟩
theorem asK{g i:Nat}{X:Ex}(hca:FlOk ca)(hcb:FlOk cb)(hcc:FlOk cc):FnOk 130 g 9 #[.pointer (some ⟨g,0,none⟩),curV 2 ca cb cc,.agg #[.pointer (some ⟨g,0,none⟩),.int .i64 (i:Int),.pointer (some ⟨g,0,none⟩),.int .i64 (-1)]] [(X,i)] (fun ks=>numM g) []:=FnOk.of fun w B ns N hR hN=>by
 have R1:=hdd hR;clear hR;go_enter Tryz.func130,Tryz.ntmps130
 go_upto_region 0 with fail
 refine Spec.go [.w (.c (.ptr 1 0)),.w (.c (.ptr 2 0)),.w (.c (.ptr 3 0))] [0,1,2]
  [(0,X)] [⟨1,67,curC 2 ca cb cc,none⟩,⟨2,69,[.v (.pointer (some ⟨g,0,none⟩)),.id 0,.v (.pointer (some ⟨g,0,none⟩)),.v (.int .i64 (-1))],none⟩,⟨3,26,[.v (.pointer none),.v (.int .i64 0)],none⟩]
  [0,0,0] [[],[],[]] [(1,.w (.agg ([.v (.int .i64 2),.v (.float .f64 ca),.v (.float .f64 cb),.v (.float .f64 cc)]))),(2,.w (.agg ([.v (.pointer (some ⟨g,0,none⟩)),.id 0,.v (.pointer (some ⟨g,0,none⟩)),.v (.int .i64 (-1))])))]
  [5,6,7] [i] 3 N [] [] R1.out
  (fun b hM=>aoB (aoB (aoB aoF
    (aoE b m0))
    (aoE b m1))
    (aoE b m2)) ?_
 intro b1 b2 b3 ν W2 hR;have R2:=hdd hR;clear hR R1;simp only[putL,avY,av1,fs0,fs1,fsn,dSw,dSt,dWc,dWa,dv,di,dp,ds',avZ,av0,nuTn,nuT0,nuT1,nuU0,nuU1]
 go_upto_region 1 with fail
 refine Spec.go [.w (.c (.ptr 2 0)),numS g 0,.w (.c (.v (.pointer (some ⟨g,0,none⟩)))),.w (.c (.ptr 1 1)),.w (.c (.v (.float .f64 ca))),numS g 4,numS g 5,.w (.c (.ptr 6 0)),noS] [5,6,7]
  [(0,X),(4,(.leaf ca)),(5,(.sub X (.leaf ca)))] [⟨1,67,curC 2 ca cb cc,none⟩,⟨2,69,[.v (.pointer (some ⟨g,0,none⟩)),.id 0,.v (.pointer (some ⟨g,0,none⟩)),.v (.int .i64 (-1))],none⟩,⟨3,26,[.v (.pointer none),.v (.int .i64 0)],none⟩,⟨6,26,[.v (.pointer none),.v (.int .i64 0)],some (8,numC g 5)⟩]
  [0,0,0,0,0,1,1,0,0] [[],[0],[],[],[3],[2,3,4],rgn 6,[],rgn 8] [(5,.w (.c (.ptr 2 0))),(0,.w (.c (.v (.pointer (some ⟨g,0,none⟩))))),(4,.w (.c (.ptr 1 0)))]
  [10,11,12,13,14,15,16,8,0] [i,b1,b2,b3] 9 (N+2) [] [] R2.out
  (fun b hM=>aoB (aoB (aoB (aoB (aoB (aoB (aoB (aoB (aoB aoF
    (aoC b))
    (aoG b 2 m1))
    (aoC b))
    (aoC b))
    (aoJ b m0))
    (aoD b (c_of hM hca.1 hca.2 rfl rfl rfl rfl)))
    (aoD b (aqC hM m0 m1 rfl rfl rfl rfl rfl rfl)))
    (aoE b m3))
    (aoH b 2 m3)) ?_
 intro n4 n5 b6 ν W3 hR;have R3:=hdd hR;clear hR R2;simp only[putL,avY,av1,fs0,fs1,fsn,dSw,dSt,dWc,dWa,dv,di,dp,ds',avZ,av0,nuTn,nuT0,nuT1,nuU0,nuU1]
 go_upto_region 2 with fail
 refine Spec.go [.w (.c (.ptr 2 2)),.w (.agg ([.v (.pointer (some ⟨g,0,none⟩)),.v (.int .i64 (-1))])),.w (.c (.v (.pointer (some ⟨g,0,none⟩)))),.w (.c (.ptr 1 2)),.w (.c (.v (.float .f64 cb))),numS g 6,.w (.agg ([.v (.pointer (some ⟨g,0,none⟩)),.v (.int .i64 (-1))])),.w (.c (.ptr 7 0)),noS] [5,7]
  [(0,X),(4,(.sub X (.leaf ca))),(6,(.leaf cb))] [⟨1,67,curC 2 ca cb cc,none⟩,⟨2,69,[.v (.pointer (some ⟨g,0,none⟩)),.id 0,.v (.pointer (some ⟨g,0,none⟩)),.v (.int .i64 (-1))],none⟩,⟨3,26,[.v (.pointer none),.v (.int .i64 0)],none⟩,⟨5,26,numC g 4,none⟩,⟨7,26,[.v (.pointer none),.v (.int .i64 0)],some (8,[.v (.pointer (some ⟨g,0,none⟩)),.v (.int .i64 (-1))])⟩]
  [0,0,0,0,0,1,0,0,0] [[],[0],[],[],[3],[2,3,4],rgn 6,[],rgn 8] [(5,.w (.c (.ptr 2 0))),(0,.w (.c (.v (.pointer (some ⟨g,0,none⟩))))),(4,.w (.c (.ptr 1 0)))]
  [17,18,19,20,21,22,23,9,0] [i,b1,b2,b3,n5,b6] 9 (N+3) [true,false] [] R3.out
  (fun b hM=>aoB (aoB (aoB (aoB (aoB (aoB (aoB (aoB (aoB aoF
    (aoC b))
    (aoG b 2 m1))
    (aoC b))
    (aoC b))
    (aoJ b m0))
    (aoD b (c_of hM hcb.1 hcb.2 rfl rfl rfl rfl)))
    (aoD b (ao5 hM rfl rfl (fun _=>rfl) (q:=some ⟨g,0,none⟩) (v:=fun ν=>((ν 6:Nat):Int)))))
    (aoE b m4))
    (aoH b 2 m4)) ?_
 intro n7 b8 ν W4 hR;have R4:=hdd hR;clear hR R3;simp only[putL,avY,av1,fs0,fs1,fsn,dSw,dSt,dWc,dWa,dv,di,dp,ds',avZ,av0,nuTn,nuT0,nuT1,nuU0,nuU1]
 go_upto_region 3 with fail
 refine Spec.go [numS g 2,numS g 2,.w (.c (.sl 5 1)),numS g 6,.w (.agg ([.v (.pointer (some ⟨g,0,none⟩)),.v (.int .i64 (-1))])),.w (.agg ([.v (.pointer (some ⟨g,0,none⟩)),.v (.int .i64 (-1))])),.w (.c (.sl 7 1)),.w (.agg ([.v (.pointer (some ⟨g,0,none⟩)),.v (.int .i64 (-1))])),.w (.c (.sl 8 1)),.w (.agg ([.v (.pointer (some ⟨g,0,none⟩)),.v (.int .i64 (-1))])),.w (.c (.v (.pointer (some ⟨g,0,none⟩)))),.w (.c (.ptr 0 3)),.w (.c (.v (.float .f64 cc))),numS g 9,.w (.agg ([.v (.pointer (some ⟨g,0,none⟩)),.v (.int .i64 (-1))])),noS] [2,3,6,8,13]
  [(2,(.sub X (.leaf ca))),(6,(.mul (.sub X (.leaf ca)) (.sub X (.leaf ca)))),(9,(.leaf cc))] [⟨0,67,curC 2 ca cb cc,none⟩,⟨1,26,[.v (.pointer none),.v (.int .i64 0)],some (15,[.v (.pointer (some ⟨g,0,none⟩)),.v (.int .i64 (-1))])⟩,⟨3,26,numC g 2,none⟩,⟨4,26,[.v (.pointer (some ⟨g,0,none⟩)),.v (.int .i64 (-1))],none⟩,⟨5,26,numC g 2,none⟩,⟨7,26,[.v (.pointer (some ⟨g,0,none⟩)),.v (.int .i64 (-1))],none⟩,⟨8,26,[.v (.pointer (some ⟨g,0,none⟩)),.v (.int .i64 (-1))],none⟩]
  [0,0,0,1,0,0,0,0,0,0,0,0,0,1,0,0] [[],[],[1],[0,1,2],[],[],[5],[4,5,6],[4,5,6,7],rgn 9,[],[],[11],[10,11,12],rgn 14,rgn 15] [(7,.w (.c (.ptr 3 0))),(8,.w (.c (.ptr 4 0))),(0,.w (.c (.v (.pointer (some ⟨g,0,none⟩))))),(4,.w (.c (.ptr 0 0))),(6,.w (.c (.ptr 1 0)))]
  [24,25,26,27,28,29,30,31,32,33,34,35,36,37,38,0] [b1,b3,n5,b6,b8] 16 (N+5) [false,true,false] [true,false] R4.out
  (fun b hM=>aoB (aoB (aoB (aoB (aoB (aoB (aoB (aoB (aoB (aoB (aoB (aoB (aoB (aoB (aoB (aoB aoF
    (aoG b 2 m2))
    (aoG b 2 m2))
    (aoK b m4))
    (aoD b (aqD hM m0 m0 rfl rfl m4 rfl rfl rfl rfl rfl rfl rfl rfl)))
    (aoG b 2 m3))
    (aoG b 2 m3))
    (aoK b m5))
    (aoD b (aqL hM rfl rfl (fun _=>rfl) (v:=fun ν=>.slice (some ⟨(ν 7),0,none⟩) 1 1))))
    (aoK b m6))
    (aoD b (atP hM m1 rfl m6 rfl rfl rfl rfl (Or.inr ⟨rfl,rfl⟩) rfl rfl (fun _=>rfl))))
    (aoC b))
    (aoC b))
    (aoJ b m0))
    (aoD b (c_of hM hcc.1 hcc.2 rfl rfl rfl rfl)))
    (aoD b (ao5 hM rfl rfl (fun _=>rfl) (q:=some ⟨g,0,none⟩) (v:=fun ν=>((ν 9:Nat):Int)))))
    (aoH b 2 m1)) ?_
 intro b9 n10 b11 b12 n13 ν W5 hR;replace hR:Run ⟨w,B,ns⟩ g (N+5) [((.sub X (.leaf ca)),n5),((.mul (.sub X (.leaf ca)) (.sub X (.leaf ca))),n10),((.leaf cc),n13)] [(b1,.cells #[(.int .i64 2),(.float .f64 ca),(.float .f64 cb),(.float .f64 cc)] 67),(b3,.cells #[.pointer (some ⟨g,0,none⟩),.int .i64 (-1)] 26),(b6,numO g n5),(b8,.cells #[.pointer (some ⟨g,0,none⟩),.int .i64 (-1)] 26),(b9,numO g n5),(b11,.cells #[.pointer (some ⟨g,0,none⟩),.int .i64 (-1)] 26),(b12,.cells #[.pointer (some ⟨g,0,none⟩),.int .i64 (-1)] 26)] W5:=hR;have R5:=hdd hR;clear hR R4;simp only[putL,avY,av1,fs0,fs1,fsn,dSw,dSt,dWc,dWa,dv,di,dp,ds',avZ,av0,nuTn,nuT0,nuT1,nuU0,nuU1];go_wp2;obtain⟨x0,x1,-,-⟩:=aB (R5.out.at m1);refine bodyPost_ret (v:=.agg #[_,_]) (by simp[results,Tryz.results130,go_sem,x0,x1];first|exact⟨rfl,rfl⟩|rfl) rfl ?_;exact⟨[],rfl,rfl,_,(R5.out.more (by omega)).few (aoM [])⟩
theorem asL{g:Nat}(hca:FlOk ca)(hcb:FlOk cb)(hcc:FlOk cc):FnOk 130 g 9 #[.pointer (some ⟨g,0,none⟩),curV 2 ca cb cc,.agg #[.pointer (some ⟨g,0,none⟩),.int .i64 (-1),.pointer (some ⟨g,0,none⟩),.int .i64 (-1)]] [] (fun ks=>numM g) []:=FnOk.of fun w B ns N hR hN=>by
 have R1:=hdd hR;clear hR;go_enter Tryz.func130,Tryz.ntmps130
 go_upto_region 0 with fail
 refine Spec.go [.w (.c (.ptr 0 0)),.w (.c (.ptr 1 0)),.w (.c (.ptr 2 0))] [0,1,2]
  [] [⟨0,67,curC 2 ca cb cc,none⟩,⟨1,69,[.v (.pointer (some ⟨g,0,none⟩)),.v (.int .i64 (-1)),.v (.pointer (some ⟨g,0,none⟩)),.v (.int .i64 (-1))],none⟩,⟨2,26,[.v (.pointer none),.v (.int .i64 0)],none⟩]
  [0,0,0] [[],[],[]] [(1,.w (.agg ([.v (.int .i64 2),.v (.float .f64 ca),.v (.float .f64 cb),.v (.float .f64 cc)]))),(2,.w (.agg ([.v (.pointer (some ⟨g,0,none⟩)),.v (.int .i64 (-1)),.v (.pointer (some ⟨g,0,none⟩)),.v (.int .i64 (-1))])))]
  [5,6,7] [] 3 N [] [] R1.out
  (fun b hM=>aoB (aoB (aoB aoF
    (aoE b m0))
    (aoE b m1))
    (aoE b m2)) ?_
 intro b1 b2 b3 ν W2 hR;have R2:=hdd hR;clear hR R1;simp only[putL,avY,av1,fs0,fs1,fsn,dSw,dSt,dWc,dWa,dv,di,dp,ds',avZ,av0,nuTn,nuT0,nuT1,nuU0,nuU1]
 go_upto_region 1 with fail
 refine Spec.go [.w (.c (.ptr 1 0)),.w (.agg ([.v (.pointer (some ⟨g,0,none⟩)),.v (.int .i64 (-1))])),.w (.c (.v (.pointer (some ⟨g,0,none⟩)))),.w (.c (.ptr 0 1)),.w (.c (.v (.float .f64 ca))),numS g 3,.w (.agg ([.v (.pointer (some ⟨g,0,none⟩)),.v (.int .i64 (-1))])),.w (.c (.ptr 4 0)),noS] [5,7]
  [(3,(.leaf ca))] [⟨0,67,curC 2 ca cb cc,none⟩,⟨1,69,[.v (.pointer (some ⟨g,0,none⟩)),.v (.int .i64 (-1)),.v (.pointer (some ⟨g,0,none⟩)),.v (.int .i64 (-1))],none⟩,⟨2,26,[.v (.pointer none),.v (.int .i64 0)],none⟩,⟨4,26,[.v (.pointer none),.v (.int .i64 0)],some (8,[.v (.pointer (some ⟨g,0,none⟩)),.v (.int .i64 (-1))])⟩]
  [0,0,0,0,0,1,0,0,0] [[],[0],[],[],[3],[2,3,4],rgn 6,[],rgn 8] [(5,.w (.c (.ptr 1 0))),(0,.w (.c (.v (.pointer (some ⟨g,0,none⟩))))),(4,.w (.c (.ptr 0 0)))]
  [10,11,12,13,14,15,16,8,0] [b1,b2,b3] 9 (N+1) [] [] R2.out
  (fun b hM=>aoB (aoB (aoB (aoB (aoB (aoB (aoB (aoB (aoB aoF
    (aoC b))
    (aoG b 2 m1))
    (aoC b))
    (aoC b))
    (aoJ b m0))
    (aoD b (c_of hM hca.1 hca.2 rfl rfl rfl rfl)))
    (aoD b (ao5 hM rfl rfl (fun _=>rfl) (q:=some ⟨g,0,none⟩) (v:=fun ν=>((ν 3:Nat):Int)))))
    (aoE b m3))
    (aoH b 2 m3)) ?_
 intro n4 b5 ν W3 hR;have R3:=hdd hR;clear hR R2;simp only[putL,avY,av1,fs0,fs1,fsn,dSw,dSt,dWc,dWa,dv,di,dp,ds',avZ,av0,nuTn,nuT0,nuT1,nuU0,nuU1]
 go_upto_region 2 with fail
 refine Spec.go [.w (.c (.ptr 1 2)),.w (.agg ([.v (.pointer (some ⟨g,0,none⟩)),.v (.int .i64 (-1))])),.w (.c (.v (.pointer (some ⟨g,0,none⟩)))),.w (.c (.ptr 0 2)),.w (.c (.v (.float .f64 cb))),numS g 4,.w (.agg ([.v (.pointer (some ⟨g,0,none⟩)),.v (.int .i64 (-1))])),.w (.c (.ptr 5 0)),noS] [5,7]
  [(4,(.leaf cb))] [⟨0,67,curC 2 ca cb cc,none⟩,⟨1,69,[.v (.pointer (some ⟨g,0,none⟩)),.v (.int .i64 (-1)),.v (.pointer (some ⟨g,0,none⟩)),.v (.int .i64 (-1))],none⟩,⟨2,26,[.v (.pointer none),.v (.int .i64 0)],none⟩,⟨3,26,[.v (.pointer (some ⟨g,0,none⟩)),.v (.int .i64 (-1))],none⟩,⟨5,26,[.v (.pointer none),.v (.int .i64 0)],some (8,[.v (.pointer (some ⟨g,0,none⟩)),.v (.int .i64 (-1))])⟩]
  [0,0,0,0,0,1,0,0,0] [[],[0],[],[],[3],[2,3,4],rgn 6,[],rgn 8] [(5,.w (.c (.ptr 1 0))),(0,.w (.c (.v (.pointer (some ⟨g,0,none⟩))))),(4,.w (.c (.ptr 0 0)))]
  [17,18,19,20,21,22,23,9,0] [b1,b2,b3,b5] 9 (N+2) [false] [] R3.out
  (fun b hM=>aoB (aoB (aoB (aoB (aoB (aoB (aoB (aoB (aoB aoF
    (aoC b))
    (aoG b 2 m1))
    (aoC b))
    (aoC b))
    (aoJ b m0))
    (aoD b (c_of hM hcb.1 hcb.2 rfl rfl rfl rfl)))
    (aoD b (ao5 hM rfl rfl (fun _=>rfl) (q:=some ⟨g,0,none⟩) (v:=fun ν=>((ν 4:Nat):Int)))))
    (aoE b m4))
    (aoH b 2 m4)) ?_
 intro n6 b7 ν W4 hR;have R4:=hdd hR;clear hR R3;simp only[putL,avY,av1,fs0,fs1,fsn,dSw,dSt,dWc,dWa,dv,di,dp,ds',avZ,av0,nuTn,nuT0,nuT1,nuU0,nuU1]
 go_upto_region 3 with fail
 refine Spec.go [.w (.agg ([.v (.pointer (some ⟨g,0,none⟩)),.v (.int .i64 (-1))])),.w (.agg ([.v (.pointer (some ⟨g,0,none⟩)),.v (.int .i64 (-1))])),.w (.c (.sl 4 1)),.w (.agg ([.v (.pointer (some ⟨g,0,none⟩)),.v (.int .i64 (-1))])),.w (.agg ([.v (.pointer (some ⟨g,0,none⟩)),.v (.int .i64 (-1))])),.w (.agg ([.v (.pointer (some ⟨g,0,none⟩)),.v (.int .i64 (-1))])),.w (.c (.sl 5 1)),.w (.agg ([.v (.pointer (some ⟨g,0,none⟩)),.v (.int .i64 (-1))])),.w (.c (.sl 6 1)),.w (.agg ([.v (.pointer (some ⟨g,0,none⟩)),.v (.int .i64 (-1))])),.w (.c (.v (.pointer (some ⟨g,0,none⟩)))),.w (.c (.ptr 0 3)),.w (.c (.v (.float .f64 cc))),numS g 7,.w (.agg ([.v (.pointer (some ⟨g,0,none⟩)),.v (.int .i64 (-1))])),noS] [2,6,8,13]
  [(7,(.leaf cc))] [⟨0,67,curC 2 ca cb cc,none⟩,⟨1,26,[.v (.pointer none),.v (.int .i64 0)],some (15,[.v (.pointer (some ⟨g,0,none⟩)),.v (.int .i64 (-1))])⟩,⟨2,26,[.v (.pointer (some ⟨g,0,none⟩)),.v (.int .i64 (-1))],none⟩,⟨3,26,[.v (.pointer (some ⟨g,0,none⟩)),.v (.int .i64 (-1))],none⟩,⟨4,26,[.v (.pointer (some ⟨g,0,none⟩)),.v (.int .i64 (-1))],none⟩,⟨5,26,[.v (.pointer (some ⟨g,0,none⟩)),.v (.int .i64 (-1))],none⟩,⟨6,26,[.v (.pointer (some ⟨g,0,none⟩)),.v (.int .i64 (-1))],none⟩]
  [0,0,0,0,0,0,0,0,0,0,0,0,0,1,0,0] [[],[],[1],[0,1,2],[],[],[5],[4,5,6],[4,5,6,7],rgn 9,[],[],[11],[10,11,12],rgn 14,rgn 15] [(7,.w (.c (.ptr 2 0))),(8,.w (.c (.ptr 3 0))),(0,.w (.c (.v (.pointer (some ⟨g,0,none⟩))))),(4,.w (.c (.ptr 0 0))),(6,.w (.c (.ptr 1 0)))]
  [24,25,26,27,28,29,30,31,32,33,34,35,36,37,38,0] [b1,b3,b5,b7] 16 (N+3) [false] [true,false] R4.out
  (fun b hM=>aoB (aoB (aoB (aoB (aoB (aoB (aoB (aoB (aoB (aoB (aoB (aoB (aoB (aoB (aoB (aoB aoF
    (aoG b 2 m2))
    (aoG b 2 m2))
    (aoK b m4))
    (aoD b (aqL hM rfl rfl (fun _=>rfl) (v:=fun ν=>.slice (some ⟨(ν 4),0,none⟩) 1 1))))
    (aoG b 2 m3))
    (aoG b 2 m3))
    (aoK b m5))
    (aoD b (aqL hM rfl rfl (fun _=>rfl) (v:=fun ν=>.slice (some ⟨(ν 5),0,none⟩) 1 1))))
    (aoK b m6))
    (aoD b (aq6 hM rfl rfl (fun _=>rfl) (v:=fun ν=>.slice (some ⟨(ν 6),0,none⟩) 1 1))))
    (aoC b))
    (aoC b))
    (aoJ b m0))
    (aoD b (c_of hM hcc.1 hcc.2 rfl rfl rfl rfl)))
    (aoD b (ao5 hM rfl rfl (fun _=>rfl) (q:=some ⟨g,0,none⟩) (v:=fun ν=>((ν 7:Nat):Int)))))
    (aoH b 2 m1)) ?_
 intro b8 b9 b10 n11 ν W5 hR;replace hR:Run ⟨w,B,ns⟩ g (N+3) [((.leaf cc),n11)] [(b1,.cells #[(.int .i64 2),(.float .f64 ca),(.float .f64 cb),(.float .f64 cc)] 67),(b3,.cells #[.pointer (some ⟨g,0,none⟩),.int .i64 (-1)] 26),(b5,.cells #[.pointer (some ⟨g,0,none⟩),.int .i64 (-1)] 26),(b7,.cells #[.pointer (some ⟨g,0,none⟩),.int .i64 (-1)] 26),(b8,.cells #[.pointer (some ⟨g,0,none⟩),.int .i64 (-1)] 26),(b9,.cells #[.pointer (some ⟨g,0,none⟩),.int .i64 (-1)] 26),(b10,.cells #[.pointer (some ⟨g,0,none⟩),.int .i64 (-1)] 26)] W5:=hR;have R5:=hdd hR;clear hR R4;simp only[putL,avY,av1,fs0,fs1,fsn,dSw,dSt,dWc,dWa,dv,di,dp,ds',avZ,av0,nuTn,nuT0,nuT1,nuU0,nuU1];go_wp2;obtain⟨x0,x1,-,-⟩:=aB (R5.out.at m1);refine bodyPost_ret (v:=.agg #[_,_]) (by simp[results,Tryz.results130,go_sem,x0,x1];first|exact⟨rfl,rfl⟩|rfl) rfl ?_;exact⟨[],rfl,rfl,_,(R5.out.more (by omega)).few (aoM [])⟩
theorem arN{g:Nat}(hca:FlOk ca)(hcb:FlOk cb)(hcc:FlOk cc):FnOk 129 g 9 #[.pointer (some ⟨g,0,none⟩),curV 1 ca cb cc,.agg #[.pointer none,.int .i64 0,.pointer none,.int .i64 0]] [] (fun ks=>numM g) []:=FnOk.of fun w B ns N hR hN=>by
 have R1:=hdd hR;clear hR;go_enter Tryz.func129,Tryz.ntmps129
 go_upto_region 0 with fail
 refine Spec.go [.w (.c (.ptr 0 0)),.w (.c (.ptr 1 0)),.w (.c (.ptr 2 0))] [0,1,2]
  [] [⟨0,67,curC 1 ca cb cc,none⟩,⟨1,69,[.v (.pointer none),.v (.int .i64 0),.v (.pointer none),.v (.int .i64 0)],none⟩,⟨2,26,[.v (.pointer none),.v (.int .i64 0)],none⟩]
  [0,0,0] [[],[],[]] [(1,.w (.agg ([.v (.int .i64 1),.v (.float .f64 ca),.v (.float .f64 cb),.v (.float .f64 cc)]))),(2,.w (.agg ([.v (.pointer none),.v (.int .i64 0),.v (.pointer none),.v (.int .i64 0)])))]
  [5,6,7] [] 3 N [] [] R1.out
  (fun b hM=>aoB (aoB (aoB aoF
    (aoE b m0))
    (aoE b m1))
    (aoE b m2)) ?_
 intro b1 b2 b3 ν W2 hR;have R2:=hdd hR;clear hR R1;simp only[putL,avY,av1,fs0,fs1,fsn,dSw,dSt,dWc,dWa,dv,di,dp,ds',avZ,av0,nuTn,nuT0,nuT1,nuU0,nuU1]
 go_upto_region 1 with fail
 refine Spec.go [.w (.c (.v (.pointer (some ⟨g,0,none⟩)))),.w (.c (.ptr 0 1)),.w (.c (.v (.float .f64 ca))),numS g 3,.w (.c (.ptr 1 0)),.w (.agg ([.v (.pointer none),.v (.int .i64 0)])),.w (.c (.sl 4 1)),.w (.agg ([.v (.pointer (some ⟨g,0,none⟩)),.v (.int .i64 (-1))])),.w (.c (.ptr 5 0)),noS] [3,6,8]
  [(3,(.leaf ca))] [⟨0,67,curC 1 ca cb cc,none⟩,⟨1,69,[.v (.pointer none),.v (.int .i64 0),.v (.pointer none),.v (.int .i64 0)],none⟩,⟨2,26,[.v (.pointer none),.v (.int .i64 0)],none⟩,⟨4,26,[.v (.pointer none),.v (.int .i64 0)],none⟩,⟨5,26,[.v (.pointer none),.v (.int .i64 0)],some (9,[.v (.pointer (some ⟨g,0,none⟩)),.v (.int .i64 (-1))])⟩]
  [0,0,0,1,0,0,0,0,0,0] [[],[],[1],[0,1,2],[],[4],[4,5],rgn 7,[],rgn 9] [(0,.w (.c (.v (.pointer (some ⟨g,0,none⟩))))),(4,.w (.c (.ptr 0 0))),(5,.w (.c (.ptr 1 0)))]
  [10,11,12,13,14,15,16,17,8,0] [b1,b2,b3] 10 (N+1) [] [] R2.out
  (fun b hM=>aoB (aoB (aoB (aoB (aoB (aoB (aoB (aoB (aoB (aoB aoF
    (aoC b))
    (aoC b))
    (aoJ b m0))
    (aoD b (c_of hM hca.1 hca.2 rfl rfl rfl rfl)))
    (aoC b))
    (aoG b 2 m1))
    (aoK b m3))
    (aoD b (asI hM m0 rfl m3 rfl rfl rfl rfl (Or.inl rfl) rfl rfl (fun _=>rfl))))
    (aoE b m4))
    (aoH b 2 m4)) ?_
 intro n4 b5 b6 ν W3 hR;have R3:=hdd hR;clear hR R2;simp only[putL,avY,av1,fs0,fs1,fsn,dSw,dSt,dWc,dWa,dv,di,dp,ds',avZ,av0,nuTn,nuT0,nuT1,nuU0,nuU1]
 go_upto_region 2 with fail
 refine Spec.go [.w (.c (.v (.pointer (some ⟨g,0,none⟩)))),.w (.c (.ptr 0 2)),.w (.c (.v (.float .f64 cb))),numS g 4,.w (.c (.ptr 1 2)),.w (.agg ([.v (.pointer none),.v (.int .i64 0)])),.w (.c (.sl 5 1)),.w (.agg ([.v (.pointer (some ⟨g,0,none⟩)),.v (.int .i64 (-1))])),.w (.c (.ptr 6 0)),noS] [3,6,8]
  [(4,(.leaf cb))] [⟨0,67,curC 1 ca cb cc,none⟩,⟨1,69,[.v (.pointer none),.v (.int .i64 0),.v (.pointer none),.v (.int .i64 0)],none⟩,⟨2,26,[.v (.pointer none),.v (.int .i64 0)],none⟩,⟨3,26,[.v (.pointer (some ⟨g,0,none⟩)),.v (.int .i64 (-1))],none⟩,⟨5,26,[.v (.pointer none),.v (.int .i64 0)],none⟩,⟨6,26,[.v (.pointer none),.v (.int .i64 0)],some (9,[.v (.pointer (some ⟨g,0,none⟩)),.v (.int .i64 (-1))])⟩]
  [0,0,0,1,0,0,0,0,0,0] [[],[],[1],[0,1,2],[],[4],[4,5],rgn 7,[],rgn 9] [(0,.w (.c (.v (.pointer (some ⟨g,0,none⟩))))),(4,.w (.c (.ptr 0 0))),(5,.w (.c (.ptr 1 0)))]
  [18,19,20,21,22,23,24,25,9,0] [b1,b2,b3,b6] 10 (N+2) [false] [true,true,true,false] R3.out
  (fun b hM=>aoB (aoB (aoB (aoB (aoB (aoB (aoB (aoB (aoB (aoB aoF
    (aoC b))
    (aoC b))
    (aoJ b m0))
    (aoD b (c_of hM hcb.1 hcb.2 rfl rfl rfl rfl)))
    (aoC b))
    (aoG b 2 m1))
    (aoK b m4))
    (aoD b (asI hM m0 rfl m4 rfl rfl rfl rfl (Or.inl rfl) rfl rfl (fun _=>rfl))))
    (aoE b m5))
    (aoH b 2 m5)) ?_
 intro n7 b8 b9 ν W4 hR;have R4:=hdd hR;clear hR R3;simp only[putL,avY,av1,fs0,fs1,fsn,dSw,dSt,dWc,dWa,dv,di,dp,ds',avZ,av0,nuTn,nuT0,nuT1,nuU0,nuU1]
 go_upto_region 3 with fail
 refine Spec.go [.w (.agg ([.v (.pointer (some ⟨g,0,none⟩)),.v (.int .i64 (-1))])),.w (.agg ([.v (.pointer (some ⟨g,0,none⟩)),.v (.int .i64 (-1))])),.w (.c (.sl 4 1)),.w (.agg ([.v (.pointer (some ⟨g,0,none⟩)),.v (.int .i64 (-1))])),.w (.c (.v (.pointer (some ⟨g,0,none⟩)))),.w (.c (.ptr 0 3)),.w (.c (.v (.float .f64 cc))),numS g 5,.w (.agg ([.v (.pointer (some ⟨g,0,none⟩)),.v (.int .i64 (-1))])),noS] [2,7]
  [(5,(.leaf cc))] [⟨0,67,curC 1 ca cb cc,none⟩,⟨1,26,[.v (.pointer none),.v (.int .i64 0)],some (9,[.v (.pointer (some ⟨g,0,none⟩)),.v (.int .i64 (-1))])⟩,⟨2,26,[.v (.pointer (some ⟨g,0,none⟩)),.v (.int .i64 (-1))],none⟩,⟨3,26,[.v (.pointer (some ⟨g,0,none⟩)),.v (.int .i64 (-1))],none⟩,⟨4,26,[.v (.pointer (some ⟨g,0,none⟩)),.v (.int .i64 (-1))],none⟩]
  [0,0,0,0,0,0,0,1,0,0] [[],[],[1],[0,1,2],[],[],[5],[4,5,6],rgn 8,rgn 9] [(7,.w (.c (.ptr 2 0))),(8,.w (.c (.ptr 3 0))),(0,.w (.c (.v (.pointer (some ⟨g,0,none⟩))))),(4,.w (.c (.ptr 0 0))),(6,.w (.c (.ptr 1 0)))]
  [26,27,28,29,30,31,32,33,34,0] [b1,b3,b6,b9] 10 (N+3) [false] [true,false,true,true,false] R4.out
  (fun b hM=>aoB (aoB (aoB (aoB (aoB (aoB (aoB (aoB (aoB (aoB aoF
    (aoG b 2 m2))
    (aoG b 2 m3))
    (aoK b m4))
    (aoD b (aq6 hM rfl rfl (fun _=>rfl) (v:=fun ν=>.slice (some ⟨(ν 4),0,none⟩) 1 1))))
    (aoC b))
    (aoC b))
    (aoJ b m0))
    (aoD b (c_of hM hcc.1 hcc.2 rfl rfl rfl rfl)))
    (aoD b (ao5 hM rfl rfl (fun _=>rfl) (q:=some ⟨g,0,none⟩) (v:=fun ν=>((ν 5:Nat):Int)))))
    (aoH b 2 m1)) ?_
 intro b10 n11 ν W5 hR;replace hR:Run ⟨w,B,ns⟩ g (N+3) [((.leaf cc),n11)] [(b1,.cells #[(.int .i64 1),(.float .f64 ca),(.float .f64 cb),(.float .f64 cc)] 67),(b3,.cells #[.pointer (some ⟨g,0,none⟩),.int .i64 (-1)] 26),(b6,.cells #[.pointer (some ⟨g,0,none⟩),.int .i64 (-1)] 26),(b9,.cells #[.pointer (some ⟨g,0,none⟩),.int .i64 (-1)] 26),(b10,.cells #[.pointer (some ⟨g,0,none⟩),.int .i64 (-1)] 26)] W5:=hR;have R5:=hdd hR;clear hR R4;simp only[putL,avY,av1,fs0,fs1,fsn,dSw,dSt,dWc,dWa,dv,di,dp,ds',avZ,av0,nuTn,nuT0,nuT1,nuU0,nuU1];go_wp2;obtain⟨x0,x1,-,-⟩:=aB (R5.out.at m1);refine bodyPost_ret (v:=.agg #[_,_]) (by simp[results,Tryz.results129,go_sem,x0,x1];first|exact⟨rfl,rfl⟩|rfl) rfl ?_;exact⟨[],rfl,rfl,_,(R5.out.more (by omega)).few (aoM [])⟩
end
section
open Go.RowKit Go.Maps Go.Stop Go.Extern
variable{k:Int}{n:Nat}
def JoinG(g:Nat)(w:World)(v:Value)(k1 k2:Int):Prop:=∃b r cap v1 v2 n1 n2,v=.iface 256 (.pointer (some ⟨b,0,none⟩))/\(¬DagB w g b/\¬DagB w g r)/\w.cell? ⟨b,0,none⟩=some (.slice (some ⟨r,0,none⟩) 2 cap)/\w.cell? ⟨r,0,none⟩=some v1/\w.cell? ⟨r,1,none⟩=some v2/\ErK (fun b=>¬DagB w g b) w n1 v1 k1/\ErK (fun b=>¬DagB w g b) w n2 v2 k2
section
variable{g N M:Nat}{w w' W:World}{v:Value}{k1 k2:Int}{s:Bs}{K K0:List (Ex×Nat)}{L l:List (Nat×Obj)}
theorem JoinG.join (h:JoinG g w v k1 k2):aqF w v k1 k2:=by
 obtain⟨b,r,cap,v1,v2,n1,n2,e,-,h1,h2,h3,h4,h5⟩:=h;exact⟨b,r,cap,v1,v2,n1,n2,e,h1,h2,h3,h4.mono fun _ _ _=>trivial,h5.mono fun _ _ _=>trivial⟩
theorem JoinG.shp (h:JoinG g w v k1 k2):∃t x,v=.iface t x:=by
 obtain⟨b,r,cap,v1,v2,n1,n2,e,-⟩:=h;exact⟨_,_,e⟩
theorem ErK.dsn (h:ErK (fun b=>¬DagB w g b) w n v k)(hd:DS g w w'):ErK (fun b=>¬DagB w' g b) w' n v k:=by
 have h1:ErK (fun b=>¬DagB w g b/\¬DagB w' g b) w n v k:=h.mono fun b hb hl=>⟨hb,hd.2 b hl hb⟩;exact(h1.keep fun b hb hl=>World.cell?_of_block (hd.heap hl hb.1)).mono fun _ hb _=>hb.2
theorem JoinG.ds (h:JoinG g w v k1 k2)(hd:DS g w w'):JoinG g w' v k1 k2:=by
 obtain⟨b,r,cap,v1,v2,n1,n2,e,⟨hb,hr⟩,h1,h2,h3,h4,h5⟩:=h;have lb:=World.block_lt_of_cell? w _ h1;have lr:=World.block_lt_of_cell? w _ h2;exact⟨b,r,cap,v1,v2,n1,n2,e,⟨hd.2 _ lb hb,hd.2 _ lr hr⟩,hd.cell h1 hb,hd.cell h2 hr,hd.cell h3 hr,h4.dsn hd,h5.dsn hd⟩
theorem Run.lt (h:Run s g N K L W):g<W.heap.size:=by obtain⟨ns,hs,-⟩:=h;exact hs.st.dag.glt
theorem Run.ds (h:Run s g N K L w)(hb:Below w.heap.size w w'):DS g w w':=DS.of_below h.lt hb
theorem Run.fresh (h:Run s g N K L w)(hb:Below w.heap.size w w'){b:Nat}(hl:w.heap.size<=b):¬DagB w' g b:=fun hd=>by
 obtain⟨ns,hs,-⟩:=h;exact hs.st.dag.fresh hl ((DagB.congr (hb.block g hs.st.dag.glt)).1 hd)
theorem Run.erk (h:Run s g N K L w)(hb:Below w.heap.size w w')(he:ErK (jW w w') w' n v k):ErK (fun b=>¬DagB w' g b) w' n v k:=he.mono fun _ hl _=>h.fresh hb hl.1
theorem RetJn.joins {t:TypeId}{x:Value}{e:Ending}(h:RetJn w (.iface 124 (.int .i64 4)) (.iface t x) e w')(hR:Run s g N K L w)(hk:ErK (fun b=>¬DagB w g b) w n (.iface t x) k):∃v,e=.returned v/\JoinG g w' v 4 k/\Run s g N K L w'/\DS g w w':=by
 obtain⟨b,r,cap,rfl,h1,h2,h3,h4,h5,h6⟩:=h;exact⟨_,rfl,⟨b,r,cap,_,_,0,n,rfl,⟨hR.fresh h4 h5,hR.fresh h4 h6⟩,h1,h2,h3,.kind (by decide) (by decide),hk.dsn (hR.ds h4)⟩,hR.step h4,hR.ds h4⟩
theorem Run.own (h:Run s g N K L W)(hK:∀p∈K0,p∈K):∃ns,Run ⟨W,s.B,ns⟩ g N K0 [] W/\∀(M:Nat) (K1:List (Ex×Nat)) (l1:List (Nat×Obj)) (W':World),Run ⟨W,s.B,ns⟩ g M K1 l1 W'->Run s g M (K1++K) L W'/\DS g W W':=by
 obtain⟨ns,hs,hI⟩:=h;refine⟨ns,Run.enter hs.st (fun p hp=>hI p (hK p hp)),fun M K1 l1 W' hR=> ?_⟩;obtain⟨ns2,hs2,hI2⟩:=hR;refine⟨⟨ns2,hs.step hs2.st hs2.pre hs2.grew.2.2,fun p hp=> ?_⟩,hs2.grew.2.2⟩;rcases List.mem_append.1 hp with hp|hp
 . exact hI2 p hp
 . exact(hI p hp).mono hs2.pre
theorem FnOk.useD {f:FuncId}{d:Nat}{av:Array Value}(F:FnOk f g d av K0 (fun _=>v) [])(hR:Run s g N K L W)(hN:N+d<=20000)(hK:∀p∈K0,p∈K):Calls Tryz.prog f av W (fun e W'=>e=.returned v/\Run s g (N+d) K L W'/\DS g W W'):=by
 obtain⟨ns,h1,h2⟩:=hR.own hK;refine(F _ N K0 [] W h1 hN (fun p hp=>hp)).mono ?_;rintro e W'⟨ks,hl,rfl,hR'⟩;obtain⟨h3,h4⟩:=h2 _ _ _ _ hR';exact⟨rfl,h3.few fun p hp=>List.mem_append_right _ hp,h4⟩
end
end
end Go.Proofs.YtkpodipoegbclaaGreatDoor
