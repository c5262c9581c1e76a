/- The law holds: the Go function answers true for every input that its row speaks of, and leaves its arguments as they were. -/
import Derived.Test.YtigoiiekebccnaaGreatDoorK51
import Derived.Test.YtigoiiekebccnaaGreatDoorK53
import Derived.Test.YtigoiiekebccnaaGreatDoorRows
import Derived.SevenTiedAt
set_option linter.unusedVariables false
set_option linter.unusedSimpArgs false
set_option linter.unnecessarySimpa false
set_option maxHeartbeats 25600000
set_option maxRecDepth 100000
namespace Go.Proofs.YtigoiiekebccnaaGreatDoor
open Go.ChangeShapes Go.WideShapes Go.ChangeAt Go.RowKit
theorem stp_str:Tryz.prog.cellsOf 9=1:=by kernel_rfl
theorem stp_sl:Tryz.prog.cellsOf 25=1:=by kernel_rfl
theorem stp_c:Tryz.prog.cellsOf 27=2:=by kernel_rfl
theorem scriptPrints_lifted(os:Os)(started:os.Started)(H:Type)(enc:TypeId×Value->H):
 ReturnsInHanded {} Tryz.checked os 3 .any (fun w args=>(Rows.scriptPrintsSpec.pre enc Tryz.prog Tryz.f3 Rows.scriptPrintsRow.domain false w args/\laidMetH Tryz.prog aqF w)/\sizedMet enc Tryz.prog Tryz.f3 (OpenSpec.ofChange Rows.scriptPrintsSpec) false w args)
  (Rows.scriptPrintsSpec.post enc Tryz.prog Tryz.f3 false true false false):=by
 refine ap3 (C:=Tryz.checked) (X:=fun w _=>laidMetH Tryz.prog aqF w) (fun _ _ _ hh h=>h.of_heap hh) arL started (by kernel_rfl) Tryz.func3
  (ChangeSpec.witness_shaped (enc:=enc) (C:=Tryz.checked) (os:=os) (X:=fun w _=>laidMetH Tryz.prog aqF w) false (aqI os) #[.slice none 0 0,.string ⟨#[]⟩] 8 (aq4 _)
    (World.shaped_of_ZipB (by kernel_rfl) (by kernel_rfl)) (by kernel_rfl) (by kernel_rfl) (by kernel_rfl)
    (aqQ _ _)) ?_
 intro W base args ds gs before hval0 hW hcnd hL hsh;have hval:∀(j:Nat) t v,Tryz.f3.params[j]? =some t->args[j]? =some v->Value.okWide Tryz.prog W .any base t v:=hval0;have hW':=hW;obtain⟨p,q,hA0,hV,rfl,hfz,hnd⟩:=hW;have hA:DataW.TrodAll enc Tryz.prog W 0 (fun _=>true) true Tryz.f3.params.toList args.toList ds p:=hA0;rw[Tryz.params3]at hA hval;obtain⟨v0,vs0,d0,ds0,p0,q0,hargs,rfl,rfl,h0,r0⟩:=trodAll_cons hA;obtain⟨v1,vs1,d1,ds1,p1,q1,rfl,rfl,rfl,h1,r1⟩:=trodAll_cons r0;obtain⟨rfl,rfl,rfl⟩:=trodAll_nil r1;obtain rfl:args=#[v0,v1]:=by cases args;simp_all
 obtain⟨rfl,rfl⟩:=trodVars_none hV;obtain⟨⟨l0,hs0⟩,hre⟩:=aq9 Tryz.underlying27 rfl rfl stp_str stp_sl stp_c Tryz.underlying9 Tryz.underlying25 Tryz.underlying3 aqY Tryz.underlying22 rfl (hval 0 22 v0 rfl rfl) h0;obtain⟨s1,rfl,rfl,rfl,z1⟩:=Go.ChangeMaps.open_string Tryz.underlying9 (hval 1 9 v1 rfl rfl) h1;clear hA0 hval0;simp only[List.append_nil,List.nil_append]at hW';refine(ap5 (aqL hL hsh) hs0).mono fun e W' ⟨he,hb⟩=> ?_;subst he;have hh:∀b,b<W.heap.size->W'.heap[b]? =W.heap[b]? :=fun b h=>hb.block b h;exact⟨_,rfl,aqX hW' rfl (by kernel_rfl) rfl (fun sp hs=>by have h9:=(trodAll_cons_mk (hre W' sp hh (fun p hp=>hW'.lt p hp) hs) (trodAll_cons_mk (Go.ChangeMaps.shut_string Tryz.underlying9 z1) trodAll_mk0));simp only[List.append_nil,List.nil_append]at h9;exact h9) hb⟩
theorem scriptPrints_facts:joinedFacts Tryz.prog 3 Tryz.f3 Rows.scriptPrintsSpec Rows.scriptPrintsRow=true:=by
 simp only[joinedFacts,Bool.and_eq_true]
 repeat' apply And.intro
 all_goals (as_aux_lemma=>kernel_rfl)
theorem scriptPrints_row:Rows.ScriptPrintsSaid:=
 OpenClaim.holds_of_wide 3 Tryz.f3 rfl rfl rfl rfl rfl rfl rfl ⟨rfl,rfl,rfl,rfl,rfl⟩ rfl rfl rfl rfl rfl (by as_aux_lemma=>kernel_rfl) Tryz.func3 scriptPrints_facts
  (of_decide_eq_true (by as_aux_lemma=>kernel_rfl)) (by unfold Func.isWrapper;first|(rw[if_pos (by decide+kernel)];kernel_rfl)|(rw[if_neg (by decide+kernel)];exact⟨rfl,rfl⟩))
  (fun os started H enc _=>scriptPrints_lifted os started H enc)
end Go.Proofs.YtigoiiekebccnaaGreatDoor
