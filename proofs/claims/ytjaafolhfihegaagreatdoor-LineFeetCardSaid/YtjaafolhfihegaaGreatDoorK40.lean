/- The law holds: the Go function answers true for every input that its row speaks of, and leaves its arguments as they were. -/
import Derived.Test.YtjaafolhfihegaaGreatDoorK12
import Derived.Test.YtjaafolhfihegaaGreatDoorK39
import Derived.Test.YtjaafolhfihegaaGreatDoorTie
import Derived.Test.YtjaafolhfihegaaGreatDoorCards
import Derived.SevenTiedAt
set_option linter.unusedVariables false
set_option linter.unusedSimpArgs false
set_option maxHeartbeats 25600000
set_option maxRecDepth 100000
namespace Go.Proofs.YtjaafolhfihegaaGreatDoor
open Go.ChangeShapes Go.WideShapes Go.ChangeAt Go.RowKit
theorem lineFeet_flt:Tryz.prog.cellsOf 27=1:=by kernel_rfl
theorem lineFeet_c:Tryz.prog.cellsOf 29=4:=by kernel_rfl
theorem lineFeet_lifted(os:Os)(started:os.Started)(H:Type)(enc:TypeId×Value->H):
 ReturnsInHanded {} Tryz.checked os 7 .any (fun w args=>(Rows.lineFeetSpec.pre enc Tryz.prog Tryz.f7 Rows.lineFeetRow.domain false w args/\laidMetH Tryz.prog o8 w)/\sizedMet enc Tryz.prog Tryz.f7 (OpenSpec.ofChange Rows.lineFeetSpec) false w args)
  (Rows.lineFeetSpec.post enc Tryz.prog Tryz.f7 false true false false):=by
 refine returnsInHanded_of_change_and (C:=Tryz.checked) (X:=fun w _=>laidMetH Tryz.prog o8 w) (fun _ _ _ hh h=>h.of_heap hh) ae0 started (by kernel_rfl) Tryz.func7
  (ChangeSpec.witness_shaped (enc:=enc) (C:=Tryz.checked) (os:=os) (X:=fun w _=>laidMetH Tryz.prog o8 w) false (World.laidAll Tryz.prog os o8) #[.agg #[.int .i64 0,.float .f64 0,.float .f64 0,.float .f64 0],.agg #[.int .i64 0,.int .i64 0],.int .i64 0] 8 (World.laidAll_os _ _ _)
    (World.shaped_of_ZipB (by kernel_rfl) (by kernel_rfl)) (by kernel_rfl) (by kernel_rfl) (by kernel_rfl)
    (by rw[MakeChecks.laidMetH_plain _ _ _ (by kernel_rfl)];exact laidMet_laidAll _ (by kernel_rfl) (by kernel_rfl))) ?_
 intro W base args ds gs before hval0 hW hcnd _ hL _;have hval:∀(j:Nat) t v,Tryz.f7.params[j]? =some t->args[j]? =some v->Value.okWide Tryz.prog W .any base t v:=hval0;have hW':=hW;obtain⟨p,q,hA0,hV,rfl,hfz,hnd⟩:=hW;have hA:DataW.TrodAll enc Tryz.prog W 0 (fun _=>true) true Tryz.f7.params.toList args.toList ds p:=hA0;rw[Tryz.params7]at hA hval;obtain⟨v0,vs0,d0,ds0,p0,q0,hargs,rfl,rfl,h0,r0⟩:=trodAll_cons hA;obtain⟨v1,vs1,d1,ds1,p1,q1,rfl,rfl,rfl,h1,r1⟩:=trodAll_cons r0;obtain⟨v2,vs2,d2,ds2,p2,q2,rfl,rfl,rfl,h2,r2⟩:=trodAll_cons r1;obtain⟨rfl,rfl,rfl⟩:=trodAll_nil r2;obtain rfl:args=#[v0,v1,v2]:=by cases args;simp_all
 obtain⟨rfl,rfl⟩:=trodVars_none hV;obtain⟨n0,a0,b0,c0,rfl,rfl,rfl,w0,x0,y0,z0⟩:=abR Tryz.underlying29 rfl rfl rfl rfl dP lineFeet_flt lineFeet_flt lineFeet_flt lineFeet_c Tryz.underlying3 Tryz.underlying27 Tryz.underlying27 Tryz.underlying27 (hval 0 29 v0 rfl rfl) h0;obtain⟨a1,b1,rfl,rfl,rfl,w1,x1⟩:=ajF Tryz.underlying77 Tryz.underlying3 pair_cells dP (hval 1 77 v1 rfl rfl) h1;obtain⟨a2,rfl,rfl,rfl,w2⟩:=open_int Tryz.underlying3 (hval 2 3 v2 rfl rfl) h2;clear hA0 hval0;simp only[List.append_nil]at hW';have hT:=tC hL;refine(x8 hT (ajE hT) (rX x0) (rX y0) (rX z0)).mono fun e W' ⟨he,hb⟩=> ?_;subst he;exact⟨_,rfl,yR hW' rfl (by kernel_rfl) rfl (fun sp _=>(trodAll_cons_mk (abS Tryz.underlying29 rfl rfl rfl rfl dP lineFeet_flt lineFeet_flt lineFeet_flt lineFeet_c Tryz.underlying3 Tryz.underlying27 Tryz.underlying27 Tryz.underlying27 w0 x0 y0 z0) (trodAll_cons_mk (ajG Tryz.underlying77 Tryz.underlying3 pair_cells dP w1 x1) (trodAll_cons_mk (shut_int Tryz.underlying3 w2) trodAll_mk0)))) hb⟩
theorem lineFeet_facts:joinedFacts Tryz.prog 7 Tryz.f7 Rows.lineFeetSpec Rows.lineFeetRow=true:=by
 simp only[joinedFacts,Bool.and_eq_true]
 repeat' apply And.intro
 all_goals (as_aux_lemma=>kernel_rfl)
theorem lineFeet_row:Rows.LineFeetSaid:=
 OpenClaim.holds_of_wide 7 Tryz.f7 rfl rfl rfl rfl rfl rfl rfl ⟨rfl,rfl,rfl,rfl,rfl⟩ rfl rfl rfl rfl rfl (by as_aux_lemma=>kernel_rfl) Tryz.func7 lineFeet_facts
  (of_decide_eq_true (by as_aux_lemma=>kernel_rfl)) (by unfold Func.isWrapper;first|(rw[if_pos (by decide+kernel)];kernel_rfl)|(rw[if_neg (by decide+kernel)];exact⟨rfl,rfl⟩))
  (fun os started H enc _=>lineFeet_lifted os started H enc)
theorem lineFeet_holds:Rows.LineFeetCardSaid:=
 Claim7.holds_tied_plain_at .later [] [.data] true (true, "146acb901753abcf22434a7137c217ae58ff3762433b549ee24192ed404c64cb") true
  lineFeet_row (fun _ h=>by cases h) (by as_aux_lemma=>kernel_rfl) (fun _ h=>by cases h) lineFeet_row_tie rfl ⟨rfl,rfl⟩ (by as_aux_lemma=>kernel_rfl) rfl
  (fun f fn hf hfn=>by
    obtain rfl : f = 7 := Option.some.inj ((show Tryz.prog.funcNamed "compass/compasslaw18.LineFeet" = some 7 by as_aux_lemma => kernel_rfl).symm.trans hf) |>.symm
    obtain rfl:fn=Tryz.f7:=(Option.some.inj (Tryz.func7.symm.trans hfn)).symm;exact⟨by as_aux_lemma=>kernel_rfl,fun j t ht=>by
     rw[Tryz.params7]at ht;have h3:t=29\/t=77\/t=3:=by
      rcases j with _|_|_|j
      . left;simpa using ht.symm
      . right;left;simpa using ht.symm
      . right;right;simpa using ht.symm
      . simp at ht
     rcases h3 with rfl|rfl|rfl
     . exact(show Tryz.prog.wantsStandIn 29=false by as_aux_lemma=>kernel_rfl)
     . exact(show Tryz.prog.wantsStandIn 77=false by as_aux_lemma=>kernel_rfl)
     . exact(show Tryz.prog.wantsStandIn 3=false by as_aux_lemma=>kernel_rfl)⟩)
  (by as_aux_lemma=>kernel_rfl)
end Go.Proofs.YtjaafolhfihegaaGreatDoor
