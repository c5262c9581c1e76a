/- A part of the proof: contracts of functions and plain laws (BdD, BdE, TrD, SgA, SgB). -/
import Derived.Test.YtigoiiekebccnaaGreatDoorK31
set_option linter.unusedVariables false
set_option linter.unusedSimpArgs false
set_option linter.unnecessarySimpa false
set_option maxHeartbeats 25600000
set_option maxRecDepth 100000
namespace Go.Proofs.YtigoiiekebccnaaGreatDoor
section
open Go.RowKit Go.Maps
variable{ns:List Nd}{g:Nat}{ul:Nat->Nat×Nat}{S:Nat->Prop}{w:World}
def an3(w:World)(ns:List Nd)(ul:Nat×Nat)(root:Nat)(e:Ending)(w':World):Prop:=Below w.heap.size w w'/\∃(u lw k:Int) (l:List Nat),e=.returned (.tuple #[.agg #[.int .i64 u,.int .i64 lw,.int .i64 k],.bool true])/\u=(ul.1:Int)/\lw=(ul.2:Int)/\IsB ns root l/\k=(nRt ns l:Int)
theorem acM{w0 w1:World}{T:TypeId}{a b c:Value}{u lw k:Int}{ul:Nat×Nat}{root:Nat}{l:List Nat}(hb:Below w0.heap.size w0 w1)(hg:w0.heap.size<=g)(hw:w1.heap[g]? =some (.cells #[a,b,c] T (0,0)))(hu:u=(ul.1:Int))(hl:lw=(ul.2:Int))(hI:IsB ns root l)(hk:k=(nRt ns l:Int)):
 Hid (an3 w0 ns ul root (.returned (.tuple #[.agg #[.int .i64 u,.int .i64 lw,.int .i64 k],.bool true])) (((w1.setCell ⟨g,0,none⟩ (.int .i64 u)).setCell ⟨g,1,none⟩ (.int .i64 lw)).setCell ⟨g,2,none⟩ (.int .i64 k)))/\
 (((w1.setCell ⟨g,0,none⟩ (.int .i64 u)).setCell ⟨g,1,none⟩ (.int .i64 lw)).setCell ⟨g,2,none⟩ (.int .i64 k)).heap[g]? =some (.cells #[.int .i64 u,.int .i64 lw,.int .i64 k] T (0,0)):=
 ⟨hdd ⟨((hb.setCell hg _).setCell hg _).setCell hg _,u,lw,k,l,rfl,hu,hl,hI,hk⟩,set3 hw _ _ _⟩
theorem aaB{root:Nat}(hd:DagP w g ns)(ok:OkNs ns)(hlf:gT ns)(hro:gW ns)(hue:UE ns S ul)(hS:S root)(hT:Tab w)(hr:root<ns.length):
 Calls Tryz.prog 210 #[.pointer (some ⟨g,0,none⟩),.int .i64 (root:Int)] w (an3 w ns (ul root) root):=by
 obtain⟨w1,hw1,hb1,hs1,b1⟩:=pro1 w (.cells #[.int .i64 0,.int .i64 0,.int .i64 0] 300);obtain⟨w2,hw2,hb2,hs2,b2⟩:=pro1 w1 (.cells #[.int .i64 (root:Int)] 3);have HBE:=hdd (jC ((hd.below hb1).below hb2) ok hr b2);rw[hs1]at HBE;have HB2:=hdd (aA hb1 hb2);have B2:=hdd (hbl b1 hb2);have HEN:Hid (∀w' l vl,Below w.heap.size w w'->IntsP (fun b=>w2.heap.size<=b) w' vl l->IsB ns root l->Calls Tryz.prog 268 #[.pointer (some ⟨g,0,none⟩),vl] w' (alC w' (ul root) root)):=hdd fun w' l vl hb hl hI=>aaA (hd.below hb) ok hlf hro hue hS (hT.below hb) hl hI;have HRO:Hid (∀w',Below w.heap.size w w'->Calls Tryz.prog 269 #[.pointer (some ⟨g,0,none⟩),.int .i64 (root:Int)] w' (fun e w''=>∃l,e=.returned (.int .i64 (nRt ns l:Int))/\IsB ns root l/\Below w'.heap.size w' w'')):=hdd fun w' hb=>ad5 (hd.below hb) ok hr;have HKX:=hdd (iY (i:=root) (by have:=hd.len;omega));clear hd ok hlf hro hue hS hT hr hb1 hb2 b1 b2 hs2;go_enter Tryz.func210,Tryz.ntmps210
 go_wp2_with fail
 refine HBE.out.mono ?_;rintro e w3⟨hb3,v3,l,rfl,hl,hI⟩;have HB3:=hdd (HB2.out.trans (hb3.mono HB2.out.size));have HE3:=hdd (HEN.out w3 l v3 HB3.out hl hI);have HB23:=hdd hb3;clear hb3 hl hI HBE HEN hw1 hw2;go_wp2_with fail
 refine HE3.out.mono ?_;rintro e w4⟨hb4,mb,m,rfl,hm,hmr⟩;unfold eV at hmr;obtain⟨u,hu⟩:∃u:Int,((ul root).1:Int)=u:=⟨_,rfl⟩;obtain⟨lw,hlw⟩:∃u:Int,((ul root).2:Int)=u:=⟨_,rfl⟩;rw[hu,hlw]at hmr;have HM4:=hdd hm;have HGD:Hid ((m (.int .i64 (root:Int))).getD (.agg #[.int .i64 0,.int .i64 0,.bool false])=.agg #[.int .i64 u,.int .i64 lw,.bool true]):=hdd (by rw[hmr];rfl);have HSM:Hid ((m (.int .i64 (root:Int))).isSome=true):=hdd (by rw[hmr];rfl);obtain⟨w5,hw5,⟨p0,p1,p2,q0,q1,q2⟩,w6,hw6,hb6,hs6⟩:=new3 w4 362 (.int .i64 0) (.int .i64 0) (.bool false) (.int .i64 u) (.int .i64 lw) (.bool true);obtain⟨r0,r1,r2,-,-,-⟩:=cells3 hs6;have HB6:=hdd (HB3.out.trans ((aA hb4 hb6).mono HB3.out.size));have HB26:=hdd (aA HB23.out (aA hb4 hb6));have HUB:=hdd hu;have HLB:=hdd hlw;have HN1:Hid (w.heap.size≠w4.heap.size):=hdd (by have:=aD B2.out;have:=HB23.out.size;have:=hb4.size;omega);clear hb4 hb6 hm hmr hu hlw hs6;go_wp2_with (first
  |(at_lookup
    refine iX _ rfl _ _ _ rfl _ _ aJ jW (oK _) _ m rfl HM4.out (.int .i64 (root:Int)) _ rfl HKX.out (.agg #[.int .i64 u,.int .i64 lw,.bool true]) HGD.out true HSM.out ?_))
 have hdr:Below w6.heap.size w6 w6.drew:=(Below.refl _ _).drew;replace r0:=cbl r0 hdr;replace r1:=cbl r1 hdr;replace r2:=cbl r2 hdr;have HB6D:=hdd (HB6.out.trans (hdr.mono HB6.out.size));have HB26D:=hdd (aA HB26.out hdr);have n1:w.heap.size≠w4.heap.size:=HN1.out;clear hdr p0 p1 p2 q0 q1 q2 hw5 hw6
 go_region_held3 (fun w'=>w'.cell? ⟨w4.heap.size,0,none⟩=some (.int .i64 u)/\w'.cell? ⟨w4.heap.size,1,none⟩=some (.int .i64 lw)/\w'.cell? ⟨w4.heap.size,2,none⟩=some (.bool true)) (go_keep)
  (first
  |(go_at_call 269
    refine(HRO.out _ HB6D.out).mono ?_;rintro r w9⟨lr,rfl,hIr,hb9⟩;obtain⟨kr,hkr⟩:∃u:Int,(nRt ns lr:Int)=u:=⟨_,rfl⟩;rw[hkr];have HIR:=hdd hIr;have HKR:=hdd hkr;have r0:=cbl r0 hb9;have r1:=cbl r1 hb9;have r2:=cbl r2 hb9;have HB9:=hdd (aA HB26D.out hb9);have b9:=hbl B2.out HB9.out;obtain⟨e0,e1,e2,e3,e4,e5⟩:=cells3 b9;have HB9N:=hdd b9;clear hb9 b9 hIr hkr))
 all_goals
  obtain⟨HR,hR⟩:=acM (HB2.out.trans (HB9.out.mono HB2.out.size)) nlr HB9N.out HUB.out.symm HLB.out.symm HIR.out HKR.out.symm;have HFF:=hdd hR;clear hR;go_wp2;obtain⟨f0,f1,f2,-,-,-⟩:=cells3 HFF.out;refine bodyPost_ret (v:=.tuple #[.agg #[_,_,_],_]) (by simp[results,Tryz.results210,go_sem,f0,f1,f2];first|exact⟨⟨rfl,rfl,rfl⟩,rfl⟩|rfl) rfl ?_;exact HR.out
def alE(ns:List Nd)(ul:Nat×Nat)(root:Nat):Prop:=∀l,IsB ns root l->max ul.1 ul.2*2^nRt ns l+1<=32768/\nRt ns l<=15
def acN(w:World)(ns:List Nd)(ul:Nat×Nat)(root:Nat)(e:Ending)(w':World):Prop:=Below w.heap.size w w'/\∃(s:Int) (l:List Nat),e=.returned (.tuple #[.int .i64 s,.bool true])/\IsB ns root l/\s=((max ul.1 ul.2*2^nRt ns l+1:Nat):Int)/\s<=32768
theorem xA{root:Nat}(hd:DagP w g ns)(ok:OkNs ns)(hlf:gT ns)(hro:gW ns)(hue:UE ns S ul)(hS:S root)(hT:Tab w)(hr:root<ns.length)(hsk:alE ns (ul root) root):
 Calls Tryz.prog 297 #[.pointer (some ⟨g,0,none⟩),.int .i64 (root:Int)] w (acN w ns (ul root) root):=by
 have HBO:=hdd (aaB hd ok hlf hro hue hS hT hr);have HSK:=hdd hsk;clear hd ok hlf hro hue hS hT hr hsk;go_enter Tryz.func297,Tryz.ntmps297
 go_wp2_with fail
 refine HBO.out.mono ?_;rintro e w4⟨hb4,u,lw,k,l,rfl,hu,hl,hI,hk⟩;obtain⟨h1,h2⟩:=HSK.out l hI;obtain⟨n,hn⟩:∃n:Nat,nRt ns l=n:=⟨_,rfl⟩;rw[hn]at h1 h2 hk;subst hk;obtain⟨w5,hw5,⟨p0,p1,p2,q0,q1,q2⟩,w6,hw6,hb6,hs6⟩:=new3 w4 300 (.int .i64 0) (.int .i64 0) (.int .i64 0) (.int .i64 u) (.int .i64 lw) (.int .i64 (n:Int));obtain⟨r0,r1,r2,-,-,-⟩:=cells3 hs6;have HB6:=hdd (aA hb4 hb6);obtain⟨m,hm⟩:∃m:Nat,max (ul root).1 (ul root).2=m:=⟨_,rfl⟩;have hmi:max u lw=(m:Int):=by rw[hu,hl];omega
 rw[hm]at h1;have hp:=Nat.two_pow_pos n;have hm1:m<=m*2^n:=Nat.le_mul_of_pos_right _ hp;obtain⟨s,hs⟩:∃s:Nat,m*2^n=s:=⟨_,rfl⟩;have HRES:Hid (acN w ns (ul root) root (.returned (.tuple #[.int .i64 ((s:Int)+1),.bool true])) w6):=hdd ⟨HB6.out,(s:Int)+1,l,rfl,hI,by rw[hm,hn,hs];omega,by omega⟩;have e1:(m:Int)*2^n=(s:Int):=by rw[<-hs];simp
 obtain⟨t,ht⟩:∃t:Int,(s:Int)=t:=⟨_,rfl⟩;rw[ht]at HRES e1;have hw1:IntKind.i64.wrap ((m:Int)*2^n)=t:=by rw[e1];exact wrap_i64 (by omega)
 have hw2:IntKind.i64.wrap (t+1)=t+1:=wrap_i64 (by omega);have hbig:¬(1099511627776<t+1):=by omega
 have hk20:¬(20<(n:Int)):=by omega
 clear hb4 hb6 hs6 hI hu hl hp HSK HBO hs e1 ht h1 h2 hm1 hm hn;go_wp2
 go_ret2
 exact HRES.out
theorem sO{root:Nat}(hd:DagP w g ns)(ok:OkNs ns)(hlf:gT ns)(hro:gW ns)(hue:UE ns S ul)(hS:S root)(hT:Tab w)(hr:root<ns.length)(hsk:alE ns (ul root) root):
 Calls Tryz.prog 253 #[.pointer (some ⟨g,0,none⟩),.int .i64 (root:Int)] w (acN w ns (ul root) root):=by
 have HBO:=hdd (xA hd ok hlf hro hue hS hT hr hsk);clear hd ok hlf hro hue hS hT hr hsk;go_enter Tryz.func253,Tryz.ntmps253
 go_wp2_with fail
 refine HBO.out.mono ?_;rintro e w4⟨hb4,s,l,rfl,hI,h1,h2⟩;have HRES:Hid (acN w ns (ul root) root (.returned (.tuple #[.int .i64 s,.bool true])) w4):=hdd ⟨hb4,s,l,rfl,hI,h1,h2⟩;clear hI h1 hb4;go_wp2
 go_ret2
 exact HRES.out
end
section
open Re (rat ofI ofN)
open Int renaming toNat_natCast->bhU
open List renaming mem_cons_of_mem->bhQ,nil_append->bhR,mem_cons_self->bhS,getElem?_eq_getElem->bhT,mem_filter->bhV
variable{a e:Ex}{l:List Nat}{ns:List Nd}{K i j:Nat}{n:Nd}{v:Re}
theorem gL(h:Is ns a i)(hn:ns[i]? =some n):
 (n.kind=0/\a=.leaf n.val)\/(n.kind=1/\∃x y,a=.add x y/\Is ns x n.a.toNat/\Is ns y n.b.toNat)\/(n.kind=2/\∃x y,a=.sub x y/\Is ns x n.a.toNat/\Is ns y n.b.toNat)\/
 (n.kind=3/\∃x y,a=.mul x y/\Is ns x n.a.toNat/\Is ns y n.b.toNat)\/(n.kind=4/\∃x y,a=.div x y/\Is ns x n.a.toNat/\Is ns y n.b.toNat)\/(n.kind=5/\∃x,a=.root x/\Is ns x n.a.toNat):=by
 cases a with
 |leaf v=>have h:ns[i]? =some ⟨0,v,0,0⟩:=h;rw[hn]at h;cases h;exact Or.inl ⟨rfl,rfl⟩
 |add a b=>obtain⟨p,q,h,-,-,h4,h5⟩:=h;rw[hn]at h;cases h;exact Or.inr (Or.inl ⟨rfl,a,b,rfl,by rw[aP];exact h4,by rw[aP];exact h5⟩)
 |sub a b=>obtain⟨p,q,h,-,-,h4,h5⟩:=h;rw[hn]at h;cases h;exact Or.inr (Or.inr (Or.inl ⟨rfl,a,b,rfl,by rw[aP];exact h4,by rw[aP];exact h5⟩))
 |mul a b=>obtain⟨p,q,h,-,-,h4,h5⟩:=h;rw[hn]at h;cases h;exact Or.inr (Or.inr (Or.inr (Or.inl ⟨rfl,a,b,rfl,by rw[aP];exact h4,by rw[aP];exact h5⟩)))
 |div a b=>obtain⟨p,q,h,-,-,h4,h5⟩:=h;rw[hn]at h;cases h;exact Or.inr (Or.inr (Or.inr (Or.inr (Or.inl ⟨rfl,a,b,rfl,by rw[aP];exact h4,by rw[aP];exact h5⟩))))
 |root a=>obtain⟨p,h,-,h4⟩:=h;rw[hn]at h;cases h;exact Or.inr (Or.inr (Or.inr (Or.inr (Or.inr ⟨rfl,a,rfl,by rw[aP];exact h4⟩))))
theorem Is.at (h:Is ns a i):∃n,ns[i]? =some n:=⟨_,bhT h.lt⟩
noncomputable def wQ(ns:List Nd)(i:Nat):Ex:=by
 classical exact if h:∃a,Is ns a i then h.choose else .leaf 0
theorem mP(h:Is ns a i):wQ ns i=a:=by
 unfold wQ;have hex:∃a,Is ns a i:=⟨a,h⟩;rw[dif_pos hex];exact hex.choose_spec.det h
noncomputable def ulT(ns:List Nd)(i:Nat):Nat×Nat:=uE (wQ ns i)
theorem iE(h:Is ns a i):ulT ns i=uE a:=by unfold ulT;rw[mP h]
def cB:Ex->Nat
 | .leaf v=>max (jL v) (jM v)
 | .add a b=>1+cB a+cB b
 | .sub a b=>1+cB a+cB b
 | .mul a b=>cB a+cB b
 | .div a b=>cB a+cB b
 | .root a=>cB a
theorem anE(e:Ex):(uE e).1<=cB e/\(uE e).2<=cB e:=by
 induction e with
 |leaf v=>simp only[uE,cB];omega
 |add a b iha ihb=>simp only[uE,cB];omega
 |sub a b iha ihb=>simp only[uE,cB];omega
 |mul a b iha ihb=>simp only[uE,cB];omega
 |div a b iha ihb=>simp only[uE,cB];omega
 |root a iha=>simp only[uE,cB];split<;>(simp only;omega)
theorem SubE.cost {b:Ex}(h:SubE a b):cB a<=cB b:=by
 induction h with
 |refl=>exact Nat.le_refl _
 |addL _ ih=>simp only[cB];omega
 |addR _ ih=>simp only[cB];omega
 |subL _ ih=>simp only[cB];omega
 |subR _ ih=>simp only[cB];omega
 |mulL _ ih=>simp only[cB];omega
 |mulR _ ih=>simp only[cB];omega
 |divL _ ih=>simp only[cB];omega
 |divR _ ih=>simp only[cB];omega
 |root _ ih=>simp only[cB];omega
theorem apM(hf:FinE e)(hc:cB e<=1000000):UE ns (Part ns e) (ulT ns) where
 cl:=z8
 step:=by
  intro i n ⟨a,hs,hi⟩ hn;rw[iE hi];rcases gL hi hn with ⟨k,rfl⟩|⟨k,x,y,rfl,h1,h2⟩|⟨k,x,y,rfl,h1,h2⟩|⟨k,x,y,rfl,h1,h2⟩|⟨k,x,y,rfl,h1,h2⟩|⟨k,x,rfl,h1⟩
  . unfold uN;rw[if_pos k];rfl
  . rw[iE h1,iE h2];unfold uN;rw[k];rfl
  . rw[iE h1,iE h2];unfold uN;rw[k];rfl
  . rw[iE h1,iE h2];unfold uN;rw[k];rfl
  . rw[iE h1,iE h2];unfold uN;rw[k];rfl
  . rw[iE h1];unfold uN;rw[k];rfl
 bd:=by
  intro i ⟨a,hs,hi⟩;rw[iE hi];have:=anE a;have:=hs.cost;omega
 leaf:=by
  intro i n ⟨a,hs,hi⟩ hn hk;rcases gL hi hn with ⟨k,rfl⟩|⟨k,-⟩|⟨k,-⟩|⟨k,-⟩|⟨k,-⟩|⟨k,-⟩
  . have:=hs.fin hf;exact⟨this.2.1,this.1,this.2.2⟩
  all_goals exfalso;omega
def gapD(ns:List Nd)(i:Nat)(x:Re):Prop:=∃a v,Is ns a i/\DenR a v/\x=v*ofN U74
theorem ahR(v:Nat):rat (rv (aX v))*ofN U74=ofI (fv v):=by
 obtain⟨u,hu,hU⟩:=iW;have e1:ofN (2^u)=rat (p2 u):=by rw[fA];exact congrArg rat (Rat.intCast_natCast (2^u))
 rw[hU,e1,<-Re.rat_mul];unfold aX;rw[kL,Rat.mul_assoc,<-bY,show(-1074:Int)+u=0 by omega,lC,Rat.mul_one];rfl
theorem wR(a b u:Re):a*b*u*u=a*u*(b*u):=by
 revert a b u;exact Re.all3 fun a b c=>Re.same fun n=>by simp only[Re.mulC_f];grind
theorem anF:ofN U74≠0:=Re.ne_of_gt lQ
theorem apN(ok:OkNs ns):DV ns (gapD ns):=by
 intro i n hn;have hk:=(ok i n hn).1;have kinds:n.kind=0\/n.kind=1\/n.kind=2\/n.kind=3\/n.kind=4\/n.kind=5:=by omega
 unfold pJ;rcases kinds with h|h|h|h|h|h
 . refine Or.inl ⟨h,?_⟩
   rintro z⟨a,v,hI,hd,e⟩;rcases gL hI hn with ⟨k,rfl⟩|⟨k,-⟩|⟨k,-⟩|⟨k,-⟩|⟨k,-⟩|⟨k,-⟩
   . cases hd;rw[e,ahR]
   all_goals exfalso;omega
 . refine Or.inr (Or.inl ⟨h,?_⟩)
   rintro z⟨a,v,hI,hd,e⟩;rcases gL hI hn with ⟨k,-⟩|⟨k,x,y,rfl,h1,h2⟩|⟨k,-⟩|⟨k,-⟩|⟨k,-⟩|⟨k,-⟩
   . exfalso;omega
   . cases hd with|add ha hb=>exact⟨_,_,⟨_,_,h1,ha,rfl⟩,⟨_,_,h2,hb,rfl⟩,by rw[e,Re.add_mul]⟩
   all_goals exfalso;omega
 . refine Or.inr (Or.inr (Or.inl ⟨h,?_⟩))
   rintro z⟨a,v,hI,hd,e⟩;rcases gL hI hn with ⟨k,-⟩|⟨k,-⟩|⟨k,x,y,rfl,h1,h2⟩|⟨k,-⟩|⟨k,-⟩|⟨k,-⟩
   . exfalso;omega
   . exfalso;omega
   . cases hd with|sub ha hb=>exact⟨_,_,⟨_,_,h1,ha,rfl⟩,⟨_,_,h2,hb,rfl⟩,by rw[e,Re.sub_mul]⟩
   all_goals exfalso;omega
 . refine Or.inr (Or.inr (Or.inr (Or.inl ⟨h,?_⟩)))
   rintro z⟨a,v,hI,hd,e⟩;rcases gL hI hn with ⟨k,-⟩|⟨k,-⟩|⟨k,-⟩|⟨k,x,y,rfl,h1,h2⟩|⟨k,-⟩|⟨k,-⟩
   . exfalso;omega
   . exfalso;omega
   . exfalso;omega
   . cases hd with|mul ha hb=>exact⟨_,_,⟨_,_,h1,ha,rfl⟩,⟨_,_,h2,hb,rfl⟩,by rw[e,wR]⟩
   all_goals exfalso;omega
 . refine Or.inr (Or.inr (Or.inr (Or.inr (Or.inl ⟨h,?_⟩))))
   rintro z⟨a,v,hI,hd,e⟩;rcases gL hI hn with ⟨k,-⟩|⟨k,-⟩|⟨k,-⟩|⟨k,-⟩|⟨k,x,y,rfl,h1,h2⟩|⟨k,-⟩
   . exfalso;omega
   . exfalso;omega
   . exfalso;omega
   . exfalso;omega
   . cases hd with|div ha hb h0 hz=>exact⟨_,_,⟨_,_,h1,ha,rfl⟩,⟨_,_,h2,hb,rfl⟩,Re.mul_ne_zero h0 anF,by rw[e,<-wR,hz]⟩
   . exfalso;omega
 . refine Or.inr (Or.inr (Or.inr (Or.inr (Or.inr ⟨h,?_⟩))))
   rintro z⟨a,v,hI,hd,e⟩;rcases gL hI hn with ⟨k,-⟩|⟨k,-⟩|⟨k,-⟩|⟨k,-⟩|⟨k,-⟩|⟨k,x,rfl,h1⟩
   . exfalso;omega
   . exfalso;omega
   . exfalso;omega
   . exfalso;omega
   . exfalso;omega
   . cases hd with|root ha h0 hz=>exact⟨_,⟨_,_,h1,ha,rfl⟩,by rw[e];exact Re.mul_nonneg h0 (Re.le_of_lt lQ),by rw[e,<-wR,hz]⟩
noncomputable def kH(ns:List Nd)(l:List Nat):List Ex:=((l.filter (isRt ns)).map (wQ ns)).reverse
theorem ad6(ns:List Nd)(l:List Nat):(kH ns l).length=nRt ns l:=by unfold kH nRt;rw[List.length_reverse,List.length_map]
theorem acO(ns:List Nd)(l:List Nat)(x:Nat):kH ns (l++[x])=(if isRt ns x=true then[wQ ns x]else[])++kH ns l:=by
 unfold kH;rw[List.filter_append,List.map_append,List.reverse_append]
 congr 1
 by_cases h:isRt ns x=true<;>simp[List.filter_cons,h]
theorem aaC{x:Nat}(hn:ns[x]? =some n):isRt ns x=decide (n.kind=5):=by unfold isRt;rw[hn]
theorem acP{ns:List Nd}{root:Nat}{l:List Nat}(ok:OkNs ns)(hI:IsB ns root l)(hall:∀i∈l,∃a,Is ns a i):
 ∀k,k<=l.length->RootsL (kH ns (l.take k))/\∀i∈l.take k,∀a,Is ns a i->RootsIn (kH ns (l.take k)) a
 |0,_=>by rw[List.take_zero];exact⟨trivial,fun i hi=>by cases hi⟩
 |k+1,hk=>by
  obtain⟨ih1,ih2⟩:=acP ok hI hall k (by omega);obtain⟨x,hx⟩:∃x,l[k]? =some x:=⟨_,bhT (by omega)⟩;obtain⟨a,ha⟩:=hall x (List.mem_of_getElem? hx);obtain⟨n,hn⟩:=ha.at;obtain⟨o1,o2⟩:=abO ok hI.srt hI.cl hx hn;rw[List.take_add_one,hx,show(some x).toList=[x] from rfl,acO,aaC hn];generalize kH ns (l.take k)=L at*;have old:∀M:List Ex,∀i∈l.take k++[x],(∀r∈L,r∈M)->RootsIn M a->∀b,Is ns b i->RootsIn M b:=by
   intro M i hi hM hx' b hb;rcases List.mem_append.1 hi with hi|hi
   . exact(ih2 i hi b hb).weak hM
   . have:i=x:=by simpa using hi
     subst this;rw[hb.det ha];exact hx'
  rcases gL ha hn with ⟨q,e⟩|⟨q,x',y',e,h1,h2⟩|⟨q,x',y',e,h1,h2⟩|⟨q,x',y',e,h1,h2⟩|⟨q,x',y',e,h1,h2⟩|⟨q,x',e,h1⟩
  . rw[decide_eq_false (by omega),if_neg (by simp),bhR]
    exact⟨ih1,fun i hi b hb=>old L i hi (fun r hr=>hr) (by rw[e];trivial) b hb⟩
  . rw[decide_eq_false (by omega),if_neg (by simp),bhR]
    exact⟨ih1,fun i hi b hb=>old L i hi (fun r hr=>hr) (by rw[e];exact⟨ih2 _ (o1 (by omega)).1 _ h1,ih2 _ (o2 (by omega) (by omega)).1 _ h2⟩) b hb⟩
  . rw[decide_eq_false (by omega),if_neg (by simp),bhR]
    exact⟨ih1,fun i hi b hb=>old L i hi (fun r hr=>hr) (by rw[e];exact⟨ih2 _ (o1 (by omega)).1 _ h1,ih2 _ (o2 (by omega) (by omega)).1 _ h2⟩) b hb⟩
  . rw[decide_eq_false (by omega),if_neg (by simp),bhR]
    exact⟨ih1,fun i hi b hb=>old L i hi (fun r hr=>hr) (by rw[e];exact⟨ih2 _ (o1 (by omega)).1 _ h1,ih2 _ (o2 (by omega) (by omega)).1 _ h2⟩) b hb⟩
  . rw[decide_eq_false (by omega),if_neg (by simp),bhR]
    exact⟨ih1,fun i hi b hb=>old L i hi (fun r hr=>hr) (by rw[e];exact⟨ih2 _ (o1 (by omega)).1 _ h1,ih2 _ (o2 (by omega) (by omega)).1 _ h2⟩) b hb⟩
  . rw[decide_eq_true q,if_pos rfl,mP ha,List.singleton_append]
    have h3:=ih2 _ (o1 (by omega)).1 _ h1;have hin:RootsIn (a::L) a:=by
     rw[e];exact⟨bhS,h3.weak fun r hr=>bhQ _ hr⟩
    exact⟨⟨ih1,x',e,h3⟩,fun i hi b hb=>old (a::L) i hi (fun r hr=>bhQ _ hr) hin b hb⟩
theorem afM{α β:Type}(f:α->β):∀(l:List α) (R:List β),l.Nodup->(∀x∈l,∀y∈l,f x=f y->x=y)->(∀x∈l,f x∈R)->l.length<=R.length
 |[],R,_,_,_=>Nat.zero_le _
 |x::t,R,hn,hi,hm=>by
  classical
  have hx:=hm x bhS;have hn':=List.nodup_cons.1 hn;have:=afM f t (R.erase (f x)) hn'.2 (fun a ha b hb=>hi a (bhQ _ ha) b (bhQ _ hb)) fun y hy=>by
   have hne:f y≠f x:=fun e=>hn'.1 (by rw[<-hi y (bhQ _ hy) x bhS e];exact hy);exact(List.mem_erase_of_ne hne).2 (hm y (bhQ _ hy))
  rw[List.length_erase_of_mem hx]at this;have h0:=List.length_pos_of_mem hx;rw[List.length_cons];omega
theorem afN{root:Nat}(hI:IsB ns root l)(he:Is ns e root):∀i∈l,Part ns e i:=hI.mn _ z8 ⟨e,.refl e,he⟩
def rtE:Ex->Nat
 | .leaf _=>0
 | .add a b=>rtE a+rtE b
 | .sub a b=>rtE a+rtE b
 | .mul a b=>rtE a+rtE b
 | .div a b=>rtE a+rtE b
 | .root a=>rtE a+1
def RtS(ns:List Nd)(i:Nat)(R:List Nat)(S:Nat->Prop):Prop:=S i/\ClS ns S/\∀x,S x->isRt ns x=true->x∈R
theorem RtS.two {k:Nat}{kd:Int}{R T:List Nat}{S U:Nat->Prop}(hk:ns[k]? =some ⟨kd,0,i,j⟩)(h5:kd≠5)(h:RtS ns i R S)(g:RtS ns j T U):RtS ns k (R++T) (fun x=>x=k\/S x\/U x):=by
 refine⟨Or.inl rfl,?_,?_⟩
 . intro x n hx hn o ho
   rcases hx with rfl|hx|hx
   . rw[hk]at hn;cases hn
     unfold opsN at ho
     split at ho
     . simp at ho
     . simp only[List.mem_cons,List.not_mem_nil,or_false]at ho
       rcases ho with rfl|rfl
       . right;left;rw[bhU];exact h.1
       . right;right;rw[bhU];exact g.1
   . right;left;exact h.2.1 x n hx hn o ho
   . right;right;exact g.2.1 x n hx hn o ho
 . intro x hx hr
   rcases hx with rfl|hx|hx
   . rw[aaC hk]at hr;exact absurd (of_decide_eq_true hr) h5
   . exact List.mem_append_left _ (h.2.2 x hx hr)
   . exact List.mem_append_right _ (g.2.2 x hx hr)
theorem aoY:∀{e:Ex} {i:Nat},Is ns e i->∃R S,R.length<=rtE e/\RtS ns i R S:=by
 intro e
 induction e with
 |leaf v=>
  intro i h;have h:ns[i]? =some ⟨0,v,0,0⟩:=h;refine⟨[],fun x=>x=i,Nat.le_refl _,rfl,?_,?_⟩
  . intro x n hx hn o ho
    subst hx;rw[h]at hn;cases hn;simp[opsN]at ho
  . intro x hx hr
    subst hx;rw[aaC h]at hr;have:=of_decide_eq_true hr;dsimp only at this;omega
 |root a ih=>
  intro i h;obtain⟨k,q,-,q3⟩:=h;obtain⟨R,S,h1,h2⟩:=ih q3;refine⟨i::R,fun x=>x=i\/S x,by simp[rtE];omega,Or.inl rfl,?_,?_⟩
  . intro x n hx hn o ho
    rcases hx with rfl|hx
    . rw[q]at hn;cases hn
      simp[opsN]at ho;subst ho;right;rw[bhU];exact h2.1
    . right;exact h2.2.1 x n hx hn o ho
  . intro x hx hr
    rcases hx with rfl|hx
    . exact bhS
    . exact bhQ _ (h2.2.2 x hx hr)
 |add a b iha ihb=>
  intro i h;obtain⟨k,j,q,-,-,q4,q5⟩:=h;obtain⟨R,S,h1,h2⟩:=iha q4;obtain⟨T,U,g1,g2⟩:=ihb q5;exact⟨_,_,by simp[rtE];omega,RtS.two q (by decide) h2 g2⟩
 |sub a b iha ihb=>
  intro i h;obtain⟨k,j,q,-,-,q4,q5⟩:=h;obtain⟨R,S,h1,h2⟩:=iha q4;obtain⟨T,U,g1,g2⟩:=ihb q5;exact⟨_,_,by simp[rtE];omega,RtS.two q (by decide) h2 g2⟩
 |mul a b iha ihb=>
  intro i h;obtain⟨k,j,q,-,-,q4,q5⟩:=h;obtain⟨R,S,h1,h2⟩:=iha q4;obtain⟨T,U,g1,g2⟩:=ihb q5;exact⟨_,_,by simp[rtE];omega,RtS.two q (by decide) h2 g2⟩
 |div a b iha ihb=>
  intro i h;obtain⟨k,j,q,-,-,q4,q5⟩:=h;obtain⟨R,S,h1,h2⟩:=iha q4;obtain⟨T,U,g1,g2⟩:=ihb q5;exact⟨_,_,by simp[rtE];omega,RtS.two q (by decide) h2 g2⟩
theorem acQ{root:Nat}(hI:IsB ns root l)(he:Is ns e root):nRt ns l<=rtE e:=by
 obtain⟨R,S,h1,h2,h3,h4⟩:=aoY he;refine Nat.le_trans ?_ h1;unfold nRt;refine afM (fun x:Nat=>x) _ R ?_ (fun x _ y _ h=>h) ?_
 . exact(hI.srt.filter _).imp fun{a b} h=>by omega
 . intro x hx
   obtain⟨g1,g2⟩:=bhV.1 hx;exact h4 x (hI.mn S h3 h2 x g1) g2
structure Gd(K j:Nat)(e:Ex)(v:Re):Prop where
 den:DenR e v
 fin:FinE e
 cost:cB e<=1000000
 size:bR (32*2^j) e<=4000000
 hj:j<=11
 hK:K<=15
 sep:max (uE e).1 (uE e).2*2^K+1<=32768
 roots:rtE e<=K
 hit:∃b M W,fH e (32*2^j)=some b/\Acc M W b/\((max (uE e).1 (uE e).2*2^K+2:Nat):Int)<=W
theorem wS{m a b:Nat}(h:a<=b):m*2^a<=m*2^b:=Nat.mul_le_mul_left m (Nat.pow_le_pow_right (by omega) h)
theorem Gd.sepOk (h:Gd K j e v)(he:Is ns e i):alE ns (ulT ns i) i:=by
 intro l hI;have hn:=Nat.le_trans (acQ hI he) h.roots;rw[iE he];have h1:=wS (m:=max (uE e).1 (uE e).2) hn;have h2:=h.sep;have h3:=h.hK;exact⟨by omega,by omega⟩
theorem Gd.fnd (h:Gd K j e v)(ok:OkNs ns)(he:Is ns e i)(hI:IsB ns i l):Fnd e v ((max (ulT ns i).1 (ulT ns i).2*2^Go.Proofs.YtigoiiekebccnaaGreatDoor.nRt ns l+1:Nat):Int) j:=by
 have hn:=Nat.le_trans (acQ hI he) h.roots;have hpt:=afN hI he;have hro:=acP ok hI (fun i hi=>(hpt i hi).imp fun a h=>h.2) l.length nlr;rw[List.take_length]at hro;have hL:Lok (kH ns l):=by
  refine⟨hro.1,fun r hr=> ?_⟩;unfold kH at hr;obtain⟨x,hx,rfl⟩:=List.mem_map.1 (List.mem_reverse.1 hr);obtain⟨a,hs,ha⟩:=hpt x (bhV.1 hx).1;rw[mP ha];exact hs.den h.den
 rw[iE he];have h1:=wS (m:=max (uE e).1 (uE e).2) hn;refine⟨h.den,h.fin,h.size,h.hj,?_,fun h0=> ?_⟩
 . obtain⟨b,M,W,k1,k2,k3⟩:=h.hit
   exact⟨b,M,W,k1,k2,by omega⟩
 . have:=anC hL h.den (hro.2 i hI.rt e he) h0
   rw[ad6]at this;generalize max (uE e).1 (uE e).2*2^Go.Proofs.YtigoiiekebccnaaGreatDoor.nRt ns l=m at*;rw[show-((m+1:Nat):Int)+1=-(m:Int) by omega];exact this
theorem Gd.of {L:List Ex}{c:Ct}(h:Vl L (32*2^j) e v c)(hL:rtE e<=K)(hj:j<=11)(hK:K<=15)(hc:cB e<=1000000)(hs:c.s<=4000000)(hm:max c.u c.l*2^K+1<=32768)(hW:((max c.u c.l*2^K+2:Nat):Int)<=c.W):Gd K j e v:=by
 have h1:max (uE e).1 (uE e).2*2^K<=max c.u c.l*2^K:=Nat.mul_le_mul_right _ (by have:=h.hu;have:=h.hl;omega);obtain⟨b,k1,k2⟩:=h.near;exact⟨h.den,h.fin,hc,Int.le_trans h.hs hs,hj,hK,by omega,hL,b,_,_,k1,k2,by omega⟩
def AllGd(e:Ex):Prop:=(∀a b,SubE (.div a b) e->∃K j v,Gd K j b v)/\∀a,SubE (.root a) e->∃K j v,Gd K j a v
noncomputable def sgT(ns:List Nd)(i:Nat):Int:=by
 classical exact if h:∃v,DenR (wQ ns i) v then Re.sgn h.choose else 0
theorem aaD(h:Is ns a i)(hd:DenR a v):sgT ns i=Re.sgn v:=by
 unfold sgT;have hex:∃v,DenR (wQ ns i) v:=⟨v,by rw[mP h];exact hd⟩;rw[dif_pos hex];have h1:=hex.choose_spec;generalize hex.choose=u at*;rw[mP h]at h1;rw[h1.uniq hd]
theorem alF(v:Re):Re.sgn (v*ofN U74)=Re.sgn v:=by rw[Re.sgn_mul,Re.sgn_pos lQ,Int.mul_one]
end
section
open Go.RowKit Go.Maps
open Go.RowKit.Below renaming refl->bhW,heap_setCell->bhY
open Option.some renaming inj->bhX
variable{l:List Nat}{ns:List Nd}{g i j mg ms:Nat}{m s s':Value->Option Value}{w w' w1 w3 w5 wa:World}
theorem ways(w:World)(T:TypeId):∃w1,w.alloc (.cells #[.bool false,.int .i64 0] T)=w1/\∃w2,w1.alloc (.cells #[.bool false,.int .i64 0] T)=w2/\(w2.cell? ⟨w1.heap.size,0,none⟩=some (.bool false)/\w2.cell? ⟨w1.heap.size,1,none⟩=some (.int .i64 0)/\w2.frozen? ⟨w1.heap.size,0,none⟩=false/\w2.frozen? ⟨w1.heap.size,1,none⟩=false)/\
 ∃w3,(w2.setCell ⟨w1.heap.size,0,none⟩ (.bool true)).setCell ⟨w1.heap.size,1,none⟩ (.int .i64 32)=w3/\(w3.cell? ⟨w1.heap.size,0,none⟩=some (.bool true)/\w3.cell? ⟨w1.heap.size,1,none⟩=some (.int .i64 32)/\w3.frozen? ⟨w1.heap.size,0,none⟩=false/\w3.frozen? ⟨w1.heap.size,1,none⟩=false)/\
 ∃w4,w3.setCell ⟨w1.heap.size,1,none⟩ (.int .i64 (min 32 65536))=w4/\(w4.cell? ⟨w1.heap.size,0,none⟩=some (.bool true)/\w4.cell? ⟨w1.heap.size,1,none⟩=some (.int .i64 32)/\w4.frozen? ⟨w1.heap.size,0,none⟩=false/\w4.frozen? ⟨w1.heap.size,1,none⟩=false)/\
  (w4.cell? ⟨w.heap.size,0,none⟩=some (.bool false)/\w4.cell? ⟨w.heap.size,1,none⟩=some (.int .i64 0)/\w4.frozen? ⟨w.heap.size,0,none⟩=false/\w4.frozen? ⟨w.heap.size,1,none⟩=false)/\
 ∃w5,(w4.setCell ⟨w.heap.size,0,none⟩ (.bool true)).setCell ⟨w.heap.size,1,none⟩ (.int .i64 32)=w5/\(w5.cell? ⟨w.heap.size,0,none⟩=some (.bool true)/\w5.cell? ⟨w.heap.size,1,none⟩=some (.int .i64 32))/\Below w.heap.size w w5:=by
 obtain⟨w1,hw1,hb1,hs1,b1⟩:=pro1 w (.cells #[.bool false,.int .i64 0] T);obtain⟨w2,hw2,hb2,hs2,b2⟩:=pro1 w1 (.cells #[.bool false,.int .i64 0] T);have h12:=hbl b1 hb2;have hb:=aA hb1 hb2;have g1:=set2 b2 (.bool true) (.int .i64 32);have g2:=setB g1 (.int .i64 (min 32 65536));have e:(((w2.setCell ⟨w1.heap.size,0,none⟩ (.bool true)).setCell ⟨w1.heap.size,1,none⟩ (.int .i64 32)).setCell ⟨w1.heap.size,1,none⟩ (.int .i64 (min 32 65536))).heap[w.heap.size]? =some (.cells #[.bool false,.int .i64 0] T (0,0)):=by
  rw[bhY _ _ _ _ (by simp;omega),bhY _ _ _ _ (by simp;omega),bhY _ _ _ _ (by simp;omega)];exact h12
 have g3:=set2 e (.bool true) (.int .i64 32);have hk:w.heap.size<=w1.heap.size:=hb1.size;obtain⟨c0,c1,-,-⟩:=aB g3;exact⟨w1,hw1,w2,hw2,aB b2,_,rfl,aB g1,_,rfl,aB g2,aB e,_,rfl,⟨c0,c1⟩,((((hb.setCell hk _).setCell hk _).setCell hk _).setCell nlr _).setCell nlr _⟩
theorem chosen_any:
 Calls Tryz.prog 194 #[.slice none 0 0] w (fun e w'=>e=.returned (.agg #[.bool true,.int .i64 32])/\Below w.heap.size w w'):=by
 obtain⟨w1,hw1,w2,hw2,⟨a0,a1,a2,a3⟩,w3,hw3,⟨b0,b1,b2,b3⟩,w4,hw4,⟨c0,c1,c2,c3⟩,⟨d0,d1,d2,d3⟩,w5,hw5,⟨e0,e1⟩,hb⟩:=ways w 285;have HB:=hdd hb;clear hb;go_enter Tryz.func194,Tryz.ntmps194
 go_wp2;refine bodyPost_ret (v:=.agg #[_,_]) (by simp[results,Tryz.results194,go_sem,e0,e1];first|exact⟨rfl,rfl⟩|rfl) rfl ?_;exact⟨rfl,HB.out⟩
def SM(sg:Nat->Int)(s:Value->Option Value):Prop:=∀i:Nat,s (.int .i64 (i:Int))=none\/s (.int .i64 (i:Int))=some (.int .i64 (sg i))
theorem SM.put {sg:Nat->Int}(h:SM sg s)(hu:Upd s (.int .i64 (i:Int)) (some (.int .i64 (sg i))) s'):SM sg s':=by
 intro j;by_cases hji:j=i
 . subst hji;exact Or.inr hu.1
 . rw[hu.2 _ (fun e=>hji (by injection e with _ e;omega))];exact h j
def JG(w:World)(j ms g:Nat)(ns:List Nd)(l:List Nat):Prop:=∃mg m s,w.heap[j]? =some (.cells #[.pointer (some ⟨g,0,none⟩),.bool true,.int .i64 32,.map (some mg),.map none,.map (some ms)] 345 (0,0))/\
 MapP Tryz.prog 3 w mg m/\MG (gapD ns) m l/\MapP Tryz.prog 3 w ms s/\SM (sgT ns) s/\j≠ms/\mg≠ms
theorem JG.below (h:JG w j ms g ns l)(hb:Below w.heap.size w w'):JG w' j ms g ns l:=by
 obtain⟨mg,m,s,h1,h2,h3,h4,h5,h6,h7⟩:=h;exact⟨mg,m,s,hbl h1 hb,h2.below hb h2.lt,h3,h4.below hb h4.lt,h5,h6,h7⟩
theorem JG.put {S:Int}(h:JG w j ms g ns l)(hb:Below w.heap.size w w1)(hs:SM (sgT ns) s)(hS:sgT ns i=S)(hu:Upd s (.int .i64 (i:Int)) (some (.int .i64 S)) s')(hm:MapP Tryz.prog 3 w' ms s')(hg:w1.grownBy w' (some ms)):JG w' j ms g ns l:=by
 subst hS;obtain⟨mg,m,s0,h1,h2,h3,h4,h5,h6,h7⟩:=h.below hb;refine⟨mg,m,s',?_,h2.keep (hg.block mg h2.lt (fun e=>h7 (bhX e))),h3,hm,hs.put hu,h6,h7⟩;rw[hg.block j (aD h1) (fun e=>h6 (bhX e))];exact h1
def RetJ(w:World)(g root:Nat)(ns:List Nd)(e:Ending)(w':World):Prop:=Below w.heap.size w w'/\∃j ms l,e=.returned (.pointer (some ⟨j,0,none⟩))/\w.heap.size<=ms/\ms<w'.heap.size/\IsB ns root l/\JG w' j ms g ns l
theorem RetJ.to {w2:World}{root:Nat}{e:Ending}(h:RetJ w g root ns e w1)(hb:Below w1.heap.size w1 w2):RetJ w g root ns e w2:=by
 obtain⟨h1,j,ms,l,e,h2,h3,h4,h5⟩:=h;exact⟨h1.trans (hb.mono h1.size),j,ms,l,e,h2,Nat.lt_of_lt_of_le h3 hb.size,h4,h5.below hb⟩
theorem JG.of (h1:w.heap[j]? =some (.cells #[.pointer (some ⟨g,0,none⟩),.bool true,.int .i64 32,.map (some mg),.map none,.map (some ms)] 345 (0,0)))
 (h2:MapP Tryz.prog 3 w mg m) (h4:MG (gapD ns) m l) (h5:w.heap[ms]? =some (.map #[] 0)) (h6:j≠ms) (h7:mg≠ms):JG w j ms g ns l:=⟨mg,m,_,h1,h2,h4,MapP.made (es:=#[]) h5,fun i=>Or.inl rfl,h6,h7⟩
theorem ad7{w4:World}{root:Nat}(ha:Below w.heap.size w wa)(hb3:Below wa.heap.size wa w3)(hm:MapP Tryz.prog 3 w3 mg m)(hmr:IsB ns root l)(hg:MG (gapD ns) m l)
 (hb4:Below w3.heap.size w3 w4) (b4:w4.heap[w3.heap.size]? =some (.map #[] 0)) (hb5:Below w4.heap.size w4 w5) (b5:w5.heap[w4.heap.size]? =some (.cells #[.pointer (some ⟨g,0,none⟩),.bool true,.int .i64 32,.map (some mg),.map none,.map (some w3.heap.size)] 345 (0,0))):
 RetJ w g root ns (.returned (.pointer (some ⟨w4.heap.size,0,none⟩))) w5:=by
 have h34:=aA hb4 hb5;have q1:=aD b4;have q2:=hm.lt;have h:=JG.of b5 (hm.below h34 hm.lt) hg (hbl b4 hb5) (by omega) (by omega);have hall:=ha.trans ((aA hb3 h34).mono ha.size);exact⟨hall,_,_,l,rfl,by have:=ha.size;have:=hb3.size;omega,by have:=hb5.size;omega,hmr,h⟩
theorem acR{root:Nat}(hms:w.heap.size<=ms)(ha:Below w.heap.size w wa)(hs:wa.heap[ms]? =some (.map #[] 0))(hb3:Below wa.heap.size wa w3)(hne:wa.heap.size<=mg)(hm:MapP Tryz.prog 3 w3 mg m)(hmr:IsB ns root l)(hg:MG (gapD ns) m l)
 (hb5:Below w3.heap.size w3 w5) (b5:w5.heap[w3.heap.size]? =some (.cells #[.pointer (some ⟨g,0,none⟩),.bool true,.int .i64 32,.map (some mg),.map none,.map (some ms)] 345 (0,0))):
 RetJ w g root ns (.returned (.pointer (some ⟨w3.heap.size,0,none⟩))) w5:=by
 have q1:=aD hs;have q2:=hb3.size;have q3:=hb5.size;have h:=JG.of b5 (hm.below hb5 hm.lt) hg (aC hs (aA hb3 hb5) (aD hs)) (by omega) (by omega);have hall:=ha.trans ((aA hb3 hb5).mono ha.size);exact⟨hall,_,_,l,rfl,hms,by omega,hmr,h⟩
theorem aaE{root:Nat}(hd:DagP w g ns)(ok:OkNs ns)(hlf:gT ns)(hro:gW ns)(hr:root<ns.length):
 Calls Tryz.prog 247 #[.pointer (some ⟨g,0,none⟩),.int .i64 (root:Int),.agg #[.bool true,.int .i64 32]] w (RetJ w g root ns):=by
 obtain⟨w1,hw1,hb1,hs1,b1⟩:=pro1 w (.cells #[.bool true,.int .i64 32] 285);obtain⟨c0,c1,-,-⟩:=aB b1;have HB1:=hdd hb1;have HGA:Hid (∀w',Below w.heap.size w w'->Calls Tryz.prog 262 #[.pointer (some ⟨g,0,none⟩),.int .i64 (root:Int)] w' (aj4 w' ns (gapD ns) root)):=hdd fun w' h=>zJ (hd.below h) ok (apN ok) hlf hro hr;have HBW:Below w1.heap.size w1 w1.drew:=(bhW _ _).drew;clear hd ok hlf hro hr hb1 b1 hs1;have hmm:=@run_makeMap Tryz.prog;go_enter Tryz.func247,Tryz.ntmps247
 go_wp2_with fail
 obtain⟨w2,hw2,hb2,hs2,b2⟩:=pro1 w1 (.map #[] 0);have e0:=cbl c0 hb2;have e1:=cbl c1 hb2;have HA:=hdd (HB1.out.trans (HBW.mono HB1.out.size));have HX:=hdd (HB1.out.trans ((hb2.drew).mono HB1.out.size));have HB2:=hdd b2;have HBB2:=hdd hb2;clear hb2 b2 hs2
 go_region_held3 (fun w'=>w'.cell? ⟨w.heap.size,0,none⟩=some (.bool true)/\w'.cell? ⟨w.heap.size,1,none⟩=some (.int .i64 32)) (go_keep)
  (first
  |(go_at_call 262
    with_reducible refine(HGA.out _ HA.out).mono ?_
    rintro r w3⟨hb3,mg,m,l,rfl,hmg,hm,hmr,hgs⟩;have c0:=cell_below c0 ((bhW _ _).drew.trans hb3) nlr;have c1:=cell_below c1 ((bhW _ _).drew.trans hb3) nlr;obtain⟨w4,hw4,hb4,hs4,b4⟩:=pro1 w3 (.map #[] 0);have d0:=cbl c0 hb4;have d1:=cbl c1 hb4;obtain⟨w5,hw5,hb5,hs5,b5⟩:=pro1 w4 (.cells #[.pointer (some ⟨g,0,none⟩),.bool true,.int .i64 32,.map (some mg),.map none,.map (some w3.heap.size)] 345);have x0:=cbl d0 hb5;have x1:=cbl d1 hb5;have HJ:Hid (RetJ w g root ns (.returned (.pointer (some ⟨w4.heap.size,0,none⟩))) w5):=hdd (ad7 HA.out hb3 hm hmr hgs hb4 b4 hb5 b5);clear hb3 hmg hm hmr hgs hb4 hs4 b4 hb5 hs5 b5)
  |(go_at_call 262
    with_reducible refine(HGA.out _ HX.out).mono ?_
    rintro r w3⟨hb3,mg,m,l,rfl,hmg,hm,hmr,hgs⟩;have c0:=cell_below e0 ((bhW _ _).drew.trans hb3) nlr;have c1:=cell_below e1 ((bhW _ _).drew.trans hb3) nlr;obtain⟨w5,hw5,hb5,hs5,b5⟩:=pro1 w3 (.cells #[.pointer (some ⟨g,0,none⟩),.bool true,.int .i64 32,.map (some mg),.map none,.map (some w1.heap.size)] 345);have x0:=cbl c0 hb5;have x1:=cbl c1 hb5;have HJ:Hid (RetJ w g root ns (.returned (.pointer (some ⟨w3.heap.size,0,none⟩))) w5):=hdd (acR HB1.out.size HX.out (aC HB2.out ((bhW _ _).drew) (aD HB2.out)) hb3 hmg hm hmr hgs hb5 b5);clear hb3 hmg hm hmr hgs hb5 hs5 b5))
 all_goals
  go_wp2
  go_quiet (fail)
  go_wp2;go_ret;exact HJ.out.to (below_drewN w5 _)
theorem mQ{id K jj:Nat}{a:Ex}{v:Re}(hj:JG w j ms g ns l)(hl:id∈l)(hd:DagP w g ns)(ok:OkNs ns)(hlf:gT ns)(hro:gW ns)(hI:Is ns a id)(hG:Gd K jj a v)(hT:Tab w):
 Calls Tryz.prog 195 #[.pointer (some ⟨j,0,none⟩),.int .i64 (id:Int)] w (fun e w'=>e=.returned (.tuple #[.int .i64 (sgT ns id),.nilIface])/\Fr (fun b=>b=ms) w w'/\JG w' j ms g ns l):=by
 have hue:=apM (ns:=ns) hG.fin hG.cost;have hpt:Part ns a id:=⟨a,.refl a,hI⟩;have hsg:=aaD hI hG.den;have HSE:Hid (∀w',Below w.heap.size w w'->Calls Tryz.prog 253 #[.pointer (some ⟨g,0,none⟩),.int .i64 (id:Int)] w' (acN w' ns (ulT ns id) id)):=hdd fun w' h=>sO (hd.below h) ok hlf hro hue hpt (hT.below h) hI.lt (hG.sepOk hI);have HSR:Hid (∀w' (s:Int) l,Below w.heap.size w w'->IsB ns id l->s=((max (ulT ns id).1 (ulT ns id).2*2^nRt ns l+1:Nat):Int)->s<=32768->Calls Tryz.prog 254 #[.pointer (some ⟨g,0,none⟩),.int .i64 (id:Int),.int .i64 32,.int .i64 s,.bool true] w' (an2 w' (sgT ns id))):=hdd fun w' s l h hB hs hle=>by
  rw[hsg];have hf:=hG.fnd ok hI hB;rw[<-hs]at hf;exact acK (hd.below h) ok hlf hro hI hf (hT.below h) (by omega) (Sq.start hf.hj)
 have HK:=hdd (iY (i:=id) (by have:=hd.len;have:=hI.lt;omega));have HJ0:=hdd hj;obtain⟨mg,m,s,b1,hm,hmg,hms,hsm,-,-⟩:=hj;obtain⟨lo,hi,hmr,hg⟩:=hmg.1 id hl;have B1:=hdd b1;have HM:=hdd hm;have HMS:=hdd hms;have HSM:=hdd hsm;have HG1:=hdd (af8 (w:=w) hg.1 hg.2.1);obtain⟨s',hu⟩:=kF s (.int .i64 (id:Int)) (some (.int .i64 (sgT ns id)));have HU:=hdd hu;have HGD:Hid ((m (.int .i64 (id:Int))).getD (.agg #[.float .f64 0,.float .f64 0])=gv lo hi):=hdd (by rw[hmr];rfl);have hok:(dU lo hi).2=true->(dU lo hi).1=sgT ns id:=fun h=>by
  rw[hsg,<-alF];exact adN hg (x:=v*Re.ofN U74) ⟨a,v,hI,hG.den,rfl⟩ h
 obtain⟨c0,c1,c2,c3,c4,c5⟩:=aG b1;have hcase:=hsm id;clear hd ok hlf hro hT hm hms hu b1 hmr hg hue hpt hsg hI hG hl hmg hsm;obtain⟨S,hS⟩:∃S,sgT ns id=S:=⟨_,rfl⟩;rw[hS]at hok HU HSR hcase|-;have HSS:=hdd hS;clear hS;generalize dU lo hi=G at*;obtain⟨gs,gk⟩:=G;replace hok:gk=true->gs=S:=hok;replace HG1:Hid (Calls Tryz.prog 251 #[gv lo hi] w (rV w gs gk)):=HG1;rcases hcase with hcase|hcase
 . have HSN:Hid ((s (.int .i64 (id:Int))).getD (.int .i64 0)=.int .i64 0):=hdd (by rw[hcase];rfl)
   have HSB:Hid ((s (.int .i64 (id:Int))).isSome=false):=hdd (by rw[hcase];rfl);clear hcase
   cases gk
   . clear hok
     go_enter Tryz.func195,Tryz.ntmps195
     go_wp2_with (first
      |(at_lookup
        refine iX _ rfl _ _ _ rfl _ _ aJ bU (dW _) _ s rfl HMS.out (.int .i64 (id:Int)) _ rfl HK.out (.int .i64 0) HSN.out false HSB.out ?_)
      |(at_lookup
        refine aV _ rfl _ _ _ rfl _ _ aJ lV (pW _) _ m rfl HM.out (.int .i64 (id:Int)) _ rfl HK.out (gv lo hi) HGD.out ?_))
     refine HG1.out.mono ?_;rintro e w1⟨rfl,hb1⟩;replace c0:=cbl c0 hb1;replace c1:=cbl c1 hb1;replace c2:=cbl c2 hb1;replace c3:=cbl c3 hb1;replace c4:=cbl c4 hb1;replace c5:=cbl c5 hb1;have HB1:=hdd hb1;clear hb1;go_wp2_with fail
     refine(HSE.out _ HB1.out).mono ?_;rintro e w2⟨hb2,sp,l',rfl,hIB,hsp,hspl⟩;have HSC:=hdd (HSR.out _ sp l' (aA (aA HB1.out hb2) (bhW _ _).drew) hIB hsp hspl);clear hIB hsp hspl;replace c0:=cbl c0 hb2;replace c1:=cbl c1 hb2;replace c2:=cbl c2 hb2;replace c3:=cbl c3 hb2;replace c4:=cbl c4 hb2;replace c5:=cbl c5 hb2;have HB2:=hdd (aA HB1.out hb2);have HB3:=hdd (aA (aA HB1.out hb2) (bhW _ _).drew);clear hb2;go_wp2_with fail
     have hdr:Below w2.heap.size w2 w2.drew:=(bhW _ _).drew;replace c0:=cbl c0 hdr;replace c1:=cbl c1 hdr;replace c2:=cbl c2 hdr;replace c3:=cbl c3 hdr;replace c4:=cbl c4 hdr;replace c5:=cbl c5 hdr;clear hdr
     go_region_held3 (fun w'=>w'.cell? ⟨j,0,none⟩=some (.pointer (some ⟨g,0,none⟩))/\w'.cell? ⟨j,2,none⟩=some (.int .i64 32)/\w'.cell? ⟨j,5,none⟩=some (.map (some ms))) (go_keep)
      (first
      |(go_at_call 254
        refine HSC.out.mono ?_;rintro e w4⟨hb4,vw,rfl⟩;have c0:=cbl c0 hb4;have c1:=cbl c1 hb4;have c2:=cbl c2 hb4;have c3:=cbl c3 hb4;have c4:=cbl c4 hb4;have c5:=cbl c5 hb4;have HBF:=hdd (aA HB3.out hb4);have HMF:=hdd (HMS.out.below (aA HB3.out hb4) HMS.out.lt);clear hb4))
     go_wp2_with (first
      |(at_mapUpdate
        refine dR _ rfl _ _ _ _ rfl _ _ aJ bU _ s s' rfl HMF.out (.int .i64 (id:Int)) (.int .i64 S) _ rfl rfl HK.out HU.out ?_;intro w9 HM9 hgr hsz;have HF9:=hdd ((Fr.of_below HBF.out).trans (Fr.of_grown hgr (fun i e=>(bhX e).symm)));have HJ9:=hdd (HJ0.out.put HBF.out HSM.out HSS.out HU.out HM9.out hgr);clear hgr hsz))
     go_ret2
     exact⟨rfl,HF9.out,HJ9.out⟩
   . have hgs:S=gs:=(hok rfl).symm
     subst hgs;clear hok;go_enter Tryz.func195,Tryz.ntmps195
     go_wp2_with (first
      |(at_lookup
        refine iX _ rfl _ _ _ rfl _ _ aJ bU (dW _) _ s rfl HMS.out (.int .i64 (id:Int)) _ rfl HK.out (.int .i64 0) HSN.out false HSB.out ?_)
      |(at_lookup
        refine aV _ rfl _ _ _ rfl _ _ aJ lV (pW _) _ m rfl HM.out (.int .i64 (id:Int)) _ rfl HK.out (gv lo hi) HGD.out ?_))
     refine HG1.out.mono ?_;rintro e w1⟨rfl,hb1⟩;replace c0:=cbl c0 hb1;replace c1:=cbl c1 hb1;replace c2:=cbl c2 hb1;replace c3:=cbl c3 hb1;replace c4:=cbl c4 hb1;replace c5:=cbl c5 hb1;have HBF:=hdd hb1;have HMF:=hdd (HMS.out.below hb1 HMS.out.lt);clear hb1;go_wp2_with (first
      |(at_mapUpdate
        refine dR _ rfl _ _ _ _ rfl _ _ aJ bU _ s s' rfl HMF.out (.int .i64 (id:Int)) (.int .i64 S) _ rfl rfl HK.out HU.out ?_;intro w9 HM9 hgr hsz;have HF9:=hdd ((Fr.of_below HBF.out).trans (Fr.of_grown hgr (fun i e=>(bhX e).symm)));have HJ9:=hdd (HJ0.out.put HBF.out HSM.out HSS.out HU.out HM9.out hgr);clear hgr hsz))
     go_ret2
     exact⟨rfl,HF9.out,HJ9.out⟩
 . have HSN:Hid ((s (.int .i64 (id:Int))).getD (.int .i64 0)=.int .i64 S):=hdd (by rw[hcase];rfl)
   have HSB:Hid ((s (.int .i64 (id:Int))).isSome=true):=hdd (by rw[hcase];rfl);clear hcase hok;go_enter Tryz.func195,Tryz.ntmps195
   go_wp2_with (first
    |(at_lookup
      refine iX _ rfl _ _ _ rfl _ _ aJ bU (dW _) _ s rfl HMS.out (.int .i64 (id:Int)) _ rfl HK.out (.int .i64 S) HSN.out true HSB.out ?_))
   go_ret2
   exact⟨rfl,Fr.of_below (bhW _ _),HJ0.out⟩
end
end Go.Proofs.YtigoiiekebccnaaGreatDoor
