/- A part of the proof: contracts of functions and plain laws (RfW). -/
import Derived.Test.YtkpodipoegbclaaGreatDoorK32
import Derived.Test.YtkpodipoegbclaaGreatDoorK13
import Derived.Test.YtkpodipoegbclaaGreatDoorK07
set_option linter.unusedVariables false
set_option linter.unusedSimpArgs false
set_option maxHeartbeats 25600000
set_option maxRecDepth 100000
namespace Go.Proofs.YtkpodipoegbclaaGreatDoor
open Go.RowKit Go.Maps Go.Stop Go.Extern
open List renaming mem_cons_self->bfC,mem_cons_of_mem->bfD,setIfInBounds_toArray->bfE,perm_append_comm->bfF,set_cons_zero->bfG,set_cons_succ->bfH,nil_sublist->bfK,append_nil->bfL,mem_cons->bfM
open List.Sublist renaming append->bfI,refl->bfJ
theorem wL{w:World}{pl:Option Addr}{c:Nat}{xs:List Int}(hT:Tab w)(htb:1<w.heap.size)(hE:ErTy w)(hx:∀j x,xs[j]? =some x->∃lb lo,pl=some ⟨lb,lo,none⟩/\w.cell? ⟨lb,lo+j,none⟩=some (.int .i64 x)):
 Calls Tryz.prog 5 #[.slice pl xs.length c] w (RetV w (.bool true)):=by
 have HA:=hdd (al3 hT htb);rcases Nat.lt_or_ge 8 xs.length with h8|h8
 . have hI:(8:Int)<(xs.length:Int):=by omega
   clear hx h8 hT htb hE;go_enter Tryz.func5,Tryz.ntmps5
   go_wp2_with fail
   refine HA.out.mono ?_;rintro e w2⟨rfl,hb⟩;have HB:=hdd hb;clear hb;go_wp2;go_ret;exact⟨rfl,HB.out⟩
 have hI:(xs.length:Int)<=8:=by omega
 have HX:=hdd hx;have HT:=hdd (And.intro hT htb);have HE:=hdd hE;have H8:=hdd h8;clear hx hT htb hE h8;go_enter Tryz.func5,Tryz.ntmps5
 go_wp2_with fail
 refine HA.out.mono ?_;rintro e w2⟨rfl,hb⟩;have HN:=hdd (aeD (w0:=w) (l:=[]) hb (fun p hp=>by cases hp) (by simp) HT.out.1 HT.out.2);clear hb HA;go_wp2_with fail
 refine HN.out.mono ?_;rintro e W1⟨g,rfl,hR⟩;have R1:=hdd hR;clear hR HN;dsimp only;go_wp2_with fail
 go_loopw [4,5,6,7] (fun v b c i wr=>∃(m:Nat) (zb zc:Int),m<=xs.length/\b=.int .i64 zb/\c=.int .i64 zc/\i=.int .i64 (m:Int)/\Hid (RfS (bs w) g xs m v zb zc wr)) (fun _ _ _ i _=>((xs.length:Int)-intOf i).toNat)
 case atStart=>exact⟨0,-1,0,Nat.zero_le _,rfl,rfl,rfl,hdd ⟨[],[],[],⟨rfl,OwnR.nil _ _,fun j k h=>by simp at h⟩,rfl,rfl,R1.out⟩⟩
 case round=>
  clear R1;obtain⟨m,zb,zc,hm,rfl,rfl,rfl,HS⟩:=hrel;rcases Nat.lt_or_ge m xs.length with hlt|hge
  . obtain⟨K,ids,lr,q,hzb,hzc,hR⟩:=HS.out
    have hxm:xs[m]? =some xs[m]:=List.getElem?_eq_getElem hlt;generalize xs[m]=x at hxm;obtain⟨p0,c0,rfl⟩:=q.2.1.slice;obtain⟨lb,lo,rfl,ca0⟩:=HX.out m x hxm;have ca:=cbl ca0 (Run.below hR);have hV:x.tmod 9=rfV xs m:=by unfold rfV;rw[List.getD_eq_getElem?_getD,hxm];rfl
    obtain⟨r,hr⟩:∃r,rfV xs m=r:=⟨_,rfl⟩;rw[hr]at hV;have hcw:floatOfInt FloatKind.f64 r=fl r:=rfl;have hbd:=qZ xs m;rw[hr]at hbd;have hmI:(m:Int)<(xs.length:Int):=by omega
    have hm0:(0:Int)<=(m:Int):=by omega
    have HQ:=hdd q;have HLT:=hdd hlt;have HZB:=hdd hzb;have HZC:=hdd hzc;have HRR:=hdd hr;have HBD:=hdd hbd;have HR:=hdd hR;have HOF:=hdd (hR.of (by have:=H8.out;omega) (akG hbd).1.1 (akG hbd).1.2);have CA:=hdd ca0;clear q hlt hzb hzc hr hR hxm hm HS hbd ca0;go_wp2_with fail
    refine HOF.out.mono ?_;rintro e wa⟨ka,rfl,hRa⟩;obtain⟨wb,hwb,-,hRb⟩:=hRa.boxR (numO g ka);obtain⟨bv,hbv⟩:∃b,wa.heap.size=b:=⟨_,rfl⟩;rw[hbv]at hRb;have RB:Hid (Run (bs w) g (3*m+1) ((.leaf (fl r),ka)::K) ((bv,numO g ka)::(lr++[])) wb):=hdd hRb;replace ca:=cell_below CA.out (Run.below RB.out) nlr;obtain⟨y0,y1,-,-⟩:=aB (RB.out.at (bfC ..));clear HOF HR hRa hRb;rcases Decidable.em (r<0)with hneg|hneg
    . have HRT:=hdd (RB.out.sqrt (by have:=H8.out;have:=HLT.out;omega) (bfC ..))
      have hB:rfB (rfV xs m)=true:=by rw[HRR.out];unfold rfB;simp[hneg]
      have hX:Ex.root (.leaf (fl r))=rfE r:=by unfold rfE;rw[if_pos hneg]
      have h3:rfK (rfV xs m)=3:=by rw[HRR.out];unfold rfK;rw[if_pos hneg]
      have HB:=hdd (And.intro hB (And.intro hX h3));clear hB hX h3;go_wp2_with fail
      refine HRT.out.mono ?_;rintro e wc⟨kv,rfl,hRc⟩;obtain⟨y0,y1,f0,f1⟩:=aB (hRc.at (bfC ..));obtain⟨wd,hwd,hRd⟩:=hRc.putR kv;have R6:Hid (Run (bs w) g (3*m+3) ((rfE r,kv)::K) ((bv,numO g kv)::(lr++[])) wd):=hdd (by
       have:=hRd.more (show 3*m+1+1<=3*m+3 by omega);rw[HB.out.2.1]at this;exact this.few (fun p hp=>by
        rcases bfM.1 hp with rfl|hp
        . exact bfC ..
        . exact bfD _ (bfD _ hp)))
      replace ca:=cell_below CA.out (Run.below R6.out) nlr;clear hRc hRd HRT RB
      cases hf:rfF xs m with
      |none=>
       obtain rfl:zb=-1:=by rw[HZB.out,hf];rfl
       have HNEW:Hid ((m:Int)=badI (rfF xs (m+1))/\3=codI xs (rfF xs (m+1))):=hdd (by rw[ae3 hf HB.out.1];exact⟨rfl,HB.out.2.2.symm⟩);clear hf HZB HZC HB;obtain⟨y0,y1,-,-⟩:=aB (R6.out.at (bfC ..));obtain⟨w7,hw7,b7,hR7⟩:=R6.out.boxR (numO g kv);have R7:Hid (Run (bs w) g (3*m+3) ((rfE r,kv)::K) (lr++[_,_]) w7):=hdd (by
        have h:=hR7;rw[bfL]at h;exact(show Run _ _ _ _ ([_,_]++lr) w7 from h).perm bfF)
       have B7:=hdd b7;clear R6 hR7 b7;go_wp2_with (first
        |(at_builtin
          go_loud (
          refine qC HQ.out.2.1 R7.out B7.out (by have:=H8.out;have:=HLT.out;omega) rfl _ _ rfl rfl rfl ?_;intro r8 cap8 la8 w8 ho8 hR8;have HO8:=hdd ho8;have R8:=hdd hR8;clear ho8 hR8)))
       go_roundw
       case rel=>exact⟨m+1,_,_,by have:=HLT.out;omega,rfl,rfl,by go_num,hdd ⟨_,_,_,mO HQ.out (fun p hp=>bfD _ hp) HO8.out (by rw[HRR.out];exact bfC ..),HNEW.out.1,HNEW.out.2,(R8.out.subl (bfI (bfJ _) (bfK _))).more (by omega)⟩⟩
       case measure=>have:=HLT.out;simp[intOf];omega
      |some j=>
       obtain rfl:zb=(j:Int):=by rw[HZB.out,hf];rfl
       have HNEW:Hid ((j:Int)=badI (rfF xs (m+1))/\zc=codI xs (rfF xs (m+1))):=hdd (by rw[ae4 hf];exact⟨rfl,by rw[HZC.out,hf]⟩);have hj0:¬((j:Int)<0):=by omega
       clear hf HZB HZC HB;obtain⟨y0,y1,-,-⟩:=aB (R6.out.at (bfC ..));obtain⟨w7,hw7,b7,hR7⟩:=R6.out.boxR (numO g kv);have R7:Hid (Run (bs w) g (3*m+3) ((rfE r,kv)::K) (lr++[_,_]) w7):=hdd (by
        have h:=hR7;rw[bfL]at h;exact(show Run _ _ _ _ ([_,_]++lr) w7 from h).perm bfF)
       have B7:=hdd b7;clear R6 hR7 b7;go_wp2_with (first
        |(at_builtin
          go_loud (
          refine qC HQ.out.2.1 R7.out B7.out (by have:=H8.out;have:=HLT.out;omega) rfl _ _ rfl rfl rfl ?_;intro r8 cap8 la8 w8 ho8 hR8;have HO8:=hdd ho8;have R8:=hdd hR8;clear ho8 hR8)))
       go_roundw
       case rel=>exact⟨m+1,_,_,by have:=HLT.out;omega,rfl,rfl,by go_num,hdd ⟨_,_,_,mO HQ.out (fun p hp=>bfD _ hp) HO8.out (by rw[HRR.out];exact bfC ..),HNEW.out.1,HNEW.out.2,(R8.out.subl (bfI (bfJ _) (bfK _))).more (by omega)⟩⟩
       case measure=>have:=HLT.out;simp[intOf];omega
    rcases Decidable.em (r=8)with h8|h8
    . have hB:rfB (rfV xs m)=true:=by rw[HRR.out,h8];rfl
      have hX:Ex.div (.leaf (fl r)) (.sub (.leaf (fl r)) (.leaf (fl r)))=rfE r:=by unfold rfE;rw[if_neg hneg,if_pos h8]
      have h3:rfK (rfV xs m)=2:=by rw[HRR.out];unfold rfK;rw[if_neg hneg]
      have HB:=hdd (And.intro hB (And.intro hX h3));clear hB hX h3;have RD:=hdd RB.out.drew;have HSU:=hdd (RD.out.sub2 (by have:=H8.out;have:=HLT.out;omega) (bfC ..) (bfC ..))
      go_upto_region 17 with fail
      obtain⟨y0,y1,f0,f1⟩:=aB (RD.out.at (bfC ..));refine wp_region_noPanic ?_;refine kT (fun w'=>w'.cell? ⟨bv,0,none⟩=some (.pointer (some ⟨g,0,none⟩))/\w'.cell? ⟨bv,1,none⟩=some (.int .i64 (ka:Int))) 5 (by kernel_rfl) ?_;have hSd:(fun w':World=>w'.cell? ⟨bv,0,none⟩=some (.pointer (some ⟨g,0,none⟩))/\w'.cell? ⟨bv,1,none⟩=some (.int .i64 (ka:Int))) wb.drew:=⟨y0,y1⟩;refine aT 0 (numV g ka) rfl (by kernel_rfl) (by kernel_rfl) (by kernel_rfl) (by kernel_rfl) (fun _ _ _ h=>h) (by rfl) ?_ (by assumption) ?_
      . intro w' hSw;(try dsimp only at hSw);go_split_ands;go_simp;all_goals rfl
      simp only[Act.put,bfE,bfG,bfH];refine aT 1 (numV g ka) rfl (by kernel_rfl) (by kernel_rfl) (by kernel_rfl) (by kernel_rfl) (fun _ _ _ h=>h) (by rfl) ?_ (by assumption) ?_
      . intro w' hSw;(try dsimp only at hSw);go_split_ands;go_simp;all_goals rfl
      simp only[Act.put,bfE,bfG,bfH];refine aT 2 (numV g ka) rfl (by kernel_rfl) (by kernel_rfl) (by kernel_rfl) (by kernel_rfl) (fun _ _ _ h=>h) (by rfl) ?_ (by assumption) ?_
      . intro w' hSw;(try dsimp only at hSw);go_split_ands;go_simp;all_goals rfl
      simp only[Act.put,bfE,bfG,bfH];refine dW 3 (by kernel_rfl) rfl fun K' hK=> ?_;go_simp;refine HSU.out.mono ?_;rintro e wc⟨ks,rfl,hRc⟩;obtain⟨y0,y1,f0,f1⟩:=aB (hRc.at (bfC ..));have HDV:=hdd (hRc.div2 (by have:=H8.out;have:=HLT.out;omega) (bfD _ (bfC ..)) (bfC ..));refine hK.out _ _ (fun _=>⟨y0,y1⟩) ?_;clear hK hSd HSU RD
      try simp only[Act.put,bfE,bfG,bfH]
      refine dW 4 (by kernel_rfl) rfl fun K' hK=> ?_;go_simp;refine HDV.out.mono ?_;rintro e wx⟨kv,rfl,hRx⟩;obtain⟨y0,y1,f0,f1⟩:=aB (hRx.at (bfC ..));refine hK.out _ _ (fun _=>⟨y0,y1⟩) ?_;clear hK hRc HDV
      try simp only[Act.put,bfE,bfG,bfH]
      refine dW 5 (by kernel_rfl) rfl fun K' hK=> ?_;go_simp;obtain⟨wd,hwd,hRd⟩:=hRx.putR kv;simp only[hwd];refine hK.out _ _ (fun h=>absurd rfl h) ?_;clear hK;refine mX (by kernel_rfl) ?_;refine NoPanic.normal ?_
      try simp only[Act.put,bfE,bfG,bfH]
      have R6:Hid (Run (bs w) g (3*m+3) ((rfE r,kv)::K) ((bv,numO g kv)::(lr++[])) wd):=hdd (by
       have:=hRd.more (show 3*m+1+1+1<=3*m+3 by omega);rw[HB.out.2.1]at this;exact this.few (fun p hp=>by
        rcases bfM.1 hp with rfl|hp
        . exact bfC ..
        . exact bfD _ (bfD _ (bfD _ hp))))
      replace ca:=cell_below CA.out (Run.below R6.out) nlr;clear hRx hRd hwd RB y0 y1 f0 f1
      cases hf:rfF xs m with
      |none=>
       obtain rfl:zb=-1:=by rw[HZB.out,hf];rfl
       have HNEW:Hid ((m:Int)=badI (rfF xs (m+1))/\2=codI xs (rfF xs (m+1))):=hdd (by rw[ae3 hf HB.out.1];exact⟨rfl,HB.out.2.2.symm⟩);clear hf HZB HZC HB;obtain⟨y0,y1,-,-⟩:=aB (R6.out.at (bfC ..));obtain⟨w7,hw7,b7,hR7⟩:=R6.out.boxR (numO g kv);have R7:Hid (Run (bs w) g (3*m+3) ((rfE r,kv)::K) (lr++[_,_]) w7):=hdd (by
        have h:=hR7;rw[bfL]at h;exact(show Run _ _ _ _ ([_,_]++lr) w7 from h).perm bfF)
       have B7:=hdd b7;clear R6 hR7 b7;go_wp2_with (first
        |(at_builtin
          go_loud (
          refine qC HQ.out.2.1 R7.out B7.out (by have:=H8.out;have:=HLT.out;omega) rfl _ _ rfl rfl rfl ?_;intro r8 cap8 la8 w8 ho8 hR8;have HO8:=hdd ho8;have R8:=hdd hR8;clear ho8 hR8)))
       go_roundw
       case rel=>exact⟨m+1,_,_,by have:=HLT.out;omega,rfl,rfl,by go_num,hdd ⟨_,_,_,mO HQ.out (fun p hp=>bfD _ hp) HO8.out (by rw[HRR.out];exact bfC ..),HNEW.out.1,HNEW.out.2,(R8.out.subl (bfI (bfJ _) (bfK _))).more (by omega)⟩⟩
       case measure=>have:=HLT.out;simp[intOf];omega
      |some j=>
       obtain rfl:zb=(j:Int):=by rw[HZB.out,hf];rfl
       have HNEW:Hid ((j:Int)=badI (rfF xs (m+1))/\zc=codI xs (rfF xs (m+1))):=hdd (by rw[ae4 hf];exact⟨rfl,by rw[HZC.out,hf]⟩);have hj0:¬((j:Int)<0):=by omega
       clear hf HZB HZC HB;obtain⟨y0,y1,-,-⟩:=aB (R6.out.at (bfC ..));obtain⟨w7,hw7,b7,hR7⟩:=R6.out.boxR (numO g kv);have R7:Hid (Run (bs w) g (3*m+3) ((rfE r,kv)::K) (lr++[_,_]) w7):=hdd (by
        have h:=hR7;rw[bfL]at h;exact(show Run _ _ _ _ ([_,_]++lr) w7 from h).perm bfF)
       have B7:=hdd b7;clear R6 hR7 b7;go_wp2_with (first
        |(at_builtin
          go_loud (
          refine qC HQ.out.2.1 R7.out B7.out (by have:=H8.out;have:=HLT.out;omega) rfl _ _ rfl rfl rfl ?_;intro r8 cap8 la8 w8 ho8 hR8;have HO8:=hdd ho8;have R8:=hdd hR8;clear ho8 hR8)))
       go_roundw
       case rel=>exact⟨m+1,_,_,by have:=HLT.out;omega,rfl,rfl,by go_num,hdd ⟨_,_,_,mO HQ.out (fun p hp=>bfD _ hp) HO8.out (by rw[HRR.out];exact bfC ..),HNEW.out.1,HNEW.out.2,(R8.out.subl (bfI (bfJ _) (bfK _))).more (by omega)⟩⟩
       case measure=>have:=HLT.out;simp[intOf];omega
    . have hB:rfB (rfV xs m)=false:=by rw[HRR.out];unfold rfB;simp[hneg,h8]
      have hX:Ex.leaf (fl r)=rfE r:=by unfold rfE;rw[if_neg hneg,if_neg h8]
      have h8b:(r==8)=false:=by simpa using h8
      have HNEW:Hid (zb=badI (rfF xs (m+1))/\zc=codI xs (rfF xs (m+1))):=hdd (by rw[anP hB];exact⟨HZB.out,HZC.out⟩);obtain⟨kv,rfl⟩:∃k,k=ka:=⟨_,rfl⟩;have R6:Hid (Run (bs w) g (3*m+3) ((rfE r,kv)::K) ((bv,numO g kv)::(lr++[])) wb):=hdd (by
       have:=RB.out.more (show 3*m+1<=3*m+3 by omega);rwa[hX]at this)
      clear RB HZB HZC hB hX;obtain⟨y0,y1,-,-⟩:=aB (R6.out.at (bfC ..));obtain⟨w7,hw7,b7,hR7⟩:=R6.out.boxR (numO g kv);have R7:Hid (Run (bs w) g (3*m+3) ((rfE r,kv)::K) (lr++[_,_]) w7):=hdd (by
       have h:=hR7;rw[bfL]at h;exact(show Run _ _ _ _ ([_,_]++lr) w7 from h).perm bfF)
      have B7:=hdd b7;clear R6 hR7 b7;go_wp2_with (first
       |(at_builtin
         go_loud (
         refine qC HQ.out.2.1 R7.out B7.out (by have:=H8.out;have:=HLT.out;omega) rfl _ _ rfl rfl rfl ?_;intro r8 cap8 la8 w8 ho8 hR8;have HO8:=hdd ho8;have R8:=hdd hR8;clear ho8 hR8)))
      go_roundw
      case rel=>exact⟨m+1,_,_,by have:=HLT.out;omega,rfl,rfl,by go_num,hdd ⟨_,_,_,mO HQ.out (fun p hp=>bfD _ hp) HO8.out (by rw[HRR.out];exact bfC ..),HNEW.out.1,HNEW.out.2,(R8.out.subl (bfI (bfJ _) (bfK _))).more (by omega)⟩⟩
      case measure=>have:=HLT.out;simp[intOf];omega
  . obtain rfl:m=xs.length:=by omega
    obtain⟨K,ids,lr,q,hzb,hzc,hR⟩:=HS.out;have hidl:=q.1
    cases hf:rfF xs xs.length with
    |none=>
     obtain rfl:zb=-1:=by rw[hzb,hf];rfl
     obtain⟨p0,c0,rfl⟩:=q.2.1.slice;have hk:=akH q hf;have h88:=H8.out;have hn2:ids.length*ids.length<=64:=by rw[hidl];exact Nat.mul_le_mul h88 h88
     have HO:=hdd (xW hR (q.2.1.rowN hidl) (by omega) (by omega) hk);have HG:Hid (∀W' lr',Run (bs w) g (3*xs.length+ids.length*ids.length) K (lr'++(lr++[])) W'->Calls Tryz.prog 28 #[.slice p0 xs.length c0] W' (GrpR (bs w) g (3*xs.length+ids.length*ids.length) K (lr++[]) (rfV xs) ids.length)):=hdd fun W' lr' h=>vJ (h.subl (List.sublist_append_right _ _)) (q.2.1.rowN hidl) (by omega) (by omega) hk;clear hR q hk hf hzb hzc hge hm HS hn2 h88 hidl;go_wp2_with fail
     refine HO.out.mono ?_;rintro e w2⟨v2,l2,rfl,ho2,hR2⟩;obtain⟨p2,c2,rfl⟩:=ho2.slice;have HG2:=hdd (HG.out _ _ hR2);clear hR2 ho2 HO HG;go_wp2_with fail
     refine HG2.out.mono ?_;rintro e w3⟨v3,l3,rfl,hg3,hR3⟩;obtain⟨vs,lo3,lg3,ho3,-,-⟩:=hg3;obtain⟨p3,c3,rfl⟩:=ho3.slice;have HB:=hdd (Run.below hR3);clear hR3 ho3 HG2;go_wp2;go_ret;exact⟨rfl,HB.out⟩
    |some j=>
     obtain rfl:zb=(j:Int):=by rw[hzb,hf];rfl
     obtain⟨kk,hkk⟩:∃k,rfK (rfV xs j)=k:=⟨_,rfl⟩;obtain rfl:zc=kk:=by rw[hzc,hf,<-hkk];rfl
     have hfb:=al5 q hf;rw[hkk]at hfb;have hj0:¬((j:Int)<0):=by omega
     have hne:ids≠[]:=by
      obtain⟨k,x,h,-⟩:=hfb.2;rintro rfl;simp at h
     rcases q.2.1.rowN hidl with ⟨e0,-,-⟩|⟨b,cb,sp,rfl,rfl⟩
     . exact absurd e0 hne
     have hlen:ids.length<=100:=by have:=H8.out;omega
     have HS:=hdd hR;have HFB:=hdd hfb;have HEY:=hdd (HE.out.low (Run.below hR));have HO:=hdd (yG (c:=cb) hR (bfC ..) hlen hfb);have HBW:=hdd (Run.below hR);clear q hf hzb hzc hge hm hkk hne hfb hR;have HID:=hdd hidl;clear hidl;go_wp2_with fail
     refine HO.out.mono ?_;rintro e w2⟨b1,n1,rfl,a1,a2,a3,a4⟩;have E1:=hdd (And.intro a1 (And.intro a2 a3));have HB2:=hdd a4;have HG:=hdd (adR (c:=cb) (HS.out.step a4) (bfC ..) hlen HFB.out);clear a1 a2 a3 a4 HO;dsimp only;go_wp2_with fail
     refine HG.out.mono ?_;rintro e w3⟨b2,n2,rfl,a1,a2,a3,a4⟩;have E2:=hdd (And.intro a1 (And.intro a2 a3));have F1:=hdd (And.intro E1.out.1 (And.intro (E1.out.2.1.low a4) (cell_below E1.out.2.2 a4 nlr)));have HB3:=hdd (HB2.out.trans (a4.mono HB2.out.size));clear a1 a2 a3 a4 HG E1 HB2;dsimp only;have HW1:=hdd (uX F1.out.2.1 (by have:=F1.out.1;omega) F1.out.2.2 (HEY.out.low HB3.out));go_wp2_with fail
     refine HW1.out.mono ?_;rintro e w4⟨rfl,hb⟩;have G1:=hdd (And.intro F1.out.1 (F1.out.2.1.low hb));have G2:=hdd (And.intro E2.out.1 (And.intro (E2.out.2.1.low hb) (cell_below E2.out.2.2 hb nlr)));have HB4:=hdd (HB3.out.trans (hb.mono HB3.out.size));clear hb HW1 F1 E2 HB3;have HW2:=hdd (uX G2.out.2.1 (by have:=G2.out.1;omega) G2.out.2.2 (HEY.out.low HB4.out));go_wp2_with fail
     refine HW2.out.mono ?_;rintro e w5⟨rfl,hb⟩;have H1:=hdd (And.intro G1.out.1 (G1.out.2.low hb));have H2:=hdd (And.intro G2.out.1 (G2.out.2.1.low hb));have HB5:=hdd (HB4.out.trans (hb.mono HB4.out.size));clear hb HW2 G1 G2 HB4;go_wp2_with fail
     refine rank_none.mono ?_;rintro e w6⟨b3,n3,rfl,a1,a2,a3,a4⟩;have J1:=hdd (And.intro H1.out.1 (H1.out.2.low a4));have J2:=hdd (And.intro H2.out.1 (H2.out.2.low a4));have J3:=hdd (And.intro a1 (And.intro a2 a3));have HB6:=hdd (HB5.out.trans (a4.mono HB5.out.size));clear a1 a2 a3 a4 H1 H2 HB5;dsimp only;have HW3:=hdd (uX J3.out.2.1 (by have:=J3.out.1;omega) J3.out.2.2 (HEY.out.low HB6.out));go_wp2_with fail
     refine HW3.out.mono ?_;rintro e w7⟨rfl,hb⟩;have K1:=hdd (And.intro J1.out.1 (J1.out.2.low hb));have K2:=hdd (And.intro J2.out.1 (J2.out.2.low hb));have K3:=hdd (And.intro J3.out.1 (J3.out.2.1.low hb));have HB7:=hdd (HB6.out.trans (hb.mono HB6.out.size));clear hb HW3 J1 J2 J3 HB6;have HC:=hdd (uT K1.out.2 (by have:=K1.out.1;omega));go_wp2_with fail
     refine HC.out.mono ?_;rintro e w8⟨rfl,hb⟩;have L2:=hdd (And.intro K2.out.1 (K2.out.2.low hb));have L3:=hdd (And.intro K3.out.1 (K3.out.2.low hb));have HB8:=hdd (HB7.out.trans (hb.mono HB7.out.size));clear hb HC K1 K2 K3 HB7;have HC:=hdd (uT L2.out.2 (by have:=L2.out.1;omega));go_wp2_with fail
     refine HC.out.mono ?_;rintro e w9⟨rfl,hb⟩;have M3:=hdd (And.intro L3.out.1 (L3.out.2.low hb));have HB9:=hdd (HB8.out.trans (hb.mono HB8.out.size));clear hb HC L2 L3 HB8;have HC:=hdd (uT M3.out.2 (by have:=M3.out.1;omega));go_wp2_with fail
     refine HC.out.mono ?_;rintro e wa⟨rfl,hb⟩;have HF:=hdd (HBW.out.trans ((HB9.out.trans (hb.mono HB9.out.size)).mono HBW.out.size));clear hb HC M3 HB9;go_wp2;go_ret;exact⟨rfl,HF.out⟩
end Go.Proofs.YtkpodipoegbclaaGreatDoor
