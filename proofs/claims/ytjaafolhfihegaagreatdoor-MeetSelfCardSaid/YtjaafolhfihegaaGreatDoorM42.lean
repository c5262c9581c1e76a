/- The law holds: the Go function answers true for every input that its row speaks of, and leaves its arguments as they were. -/
import Derived.Test.YtjaafolhfihegaaGreatDoorM35
import Derived.Test.YtjaafolhfihegaaGreatDoorM12
import Derived.Test.YtjaafolhfihegaaGreatDoorM08
import Derived.Test.YtjaafolhfihegaaGreatDoorM07
import Derived.Test.YtjaafolhfihegaaGreatDoorM06
import Derived.Test.YtjaafolhfihegaaGreatDoorM05
import Derived.Test.YtjaafolhfihegaaGreatDoorM04
import Derived.Test.YtjaafolhfihegaaGreatDoorM03
import Derived.Test.YtjaafolhfihegaaGreatDoorM02
import Derived.Test.YtjaafolhfihegaaGreatDoorM01
import Derived.Test.YtjaafolhfihegaaGreatDoorM11
import Derived.Test.YtjaafolhfihegaaGreatDoorM10
import Derived.Test.YtjaafolhfihegaaGreatDoorM09
import Derived.Test.YtjaafolhfihegaaGreatDoorM41
import Derived.Test.YtjaafolhfihegaaGreatDoorM38
import Derived.Test.YtjaafolhfihegaaGreatDoorM19
import Derived.Test.YtjaafolhfihegaaGreatDoorM16
import Derived.Test.YtjaafolhfihegaaGreatDoorM15
import Derived.Test.YtjaafolhfihegaaGreatDoorM14
import Derived.Test.YtjaafolhfihegaaGreatDoorM13
import Derived.Test.YtjaafolhfihegaaGreatDoorM18
import Derived.Test.YtjaafolhfihegaaGreatDoorM17
import Derived.Test.YtjaafolhfihegaaGreatDoorM37
import Derived.Test.YtjaafolhfihegaaGreatDoorM36
import Derived.Test.YtjaafolhfihegaaGreatDoorM33
import Derived.Test.YtjaafolhfihegaaGreatDoorM34
import Derived.Test.YtjaafolhfihegaaGreatDoorM32
import Derived.Test.YtjaafolhfihegaaGreatDoorM31
import Derived.Test.YtjaafolhfihegaaGreatDoorM30
import Derived.Test.YtjaafolhfihegaaGreatDoorM29
import Derived.Test.YtjaafolhfihegaaGreatDoorM28
import Derived.Test.YtjaafolhfihegaaGreatDoorM24
import Derived.Test.YtjaafolhfihegaaGreatDoorM23
import Derived.Test.YtjaafolhfihegaaGreatDoorM21
import Derived.Test.YtjaafolhfihegaaGreatDoorM20
import Derived.Test.YtjaafolhfihegaaGreatDoorM22
import Derived.Test.YtjaafolhfihegaaGreatDoorM27
import Derived.Test.YtjaafolhfihegaaGreatDoorM26
import Derived.Test.YtjaafolhfihegaaGreatDoorM25
import Derived.Test.YtjaafolhfihegaaGreatDoorM39
import Derived.Test.YtjaafolhfihegaaGreatDoorM40
import Derived.Test.YtjaafolhfihegaaGreatDoorTie
import Derived.Test.YtjaafolhfihegaaGreatDoorCards
import Derived.SevenTiedAt
import Derived.OpenShut
import Derived.WalkKit
import Derived.Laws.NewFold
set_option linter.unusedVariables false
set_option linter.unusedSimpArgs false
set_option maxHeartbeats 25600000
set_option maxRecDepth 100000
namespace Go.Proofs.YtjaafolhfihegaaGreatDoor
open Go.ChangeShapes Go.WideShapes Go.ChangeAt Go.RowKit
theorem meetSelf_flt:Tryz.prog.cellsOf 27=1:=by kernel_rfl
theorem meetSelf_c:Tryz.prog.cellsOf 29=4:=by kernel_rfl
theorem meetSelf_lifted(os:Os)(started:os.Started)(H:Type)(enc:TypeId×Value->H):
 ReturnsInHanded {} Tryz.checked os 8 .any (fun w args=>(Rows.meetSelfSpec.pre enc Tryz.prog Tryz.f8 Rows.meetSelfRow.domain false w args/\laidMetH Tryz.prog qJ w)/\sizedMet enc Tryz.prog Tryz.f8 (OpenSpec.ofChange Rows.meetSelfSpec) false w args)
  (Rows.meetSelfSpec.post enc Tryz.prog Tryz.f8 false true false false):=by
 refine returnsInHanded_of_change_and (C:=Tryz.checked) (X:=fun w _=>laidMetH Tryz.prog qJ w) (fun _ _ _ hh h=>h.of_heap hh) afS started (by kernel_rfl) Tryz.func8
  (ChangeSpec.witness_shaped (enc:=enc) (C:=Tryz.checked) (os:=os) (X:=fun w _=>laidMetH Tryz.prog qJ w) false (World.laidAll Tryz.prog os qJ) #[.agg #[.int .i64 0,.float .f64 0,.float .f64 0,.float .f64 0],.int .i64 0] 8 (World.laidAll_os _ _ _)
    (World.shaped_of_ZipB (by kernel_rfl) (by kernel_rfl)) (by kernel_rfl) (by kernel_rfl) (by kernel_rfl)
    (by rw[MakeChecks.laidMetH_plain _ _ _ (by kernel_rfl)];exact laidMet_laidAll _ (by kernel_rfl) (by kernel_rfl))) ?_
 intro W base args ds gs before hval0 hW hcnd _ hL _;have hval:∀(j:Nat) t v,Tryz.f8.params[j]? =some t->args[j]? =some v->Value.okWide Tryz.prog W .any base t v:=hval0;have hW':=hW;obtain⟨p,q,hA0,hV,rfl,hfz,hnd⟩:=hW;have hA:DataW.TrodAll enc Tryz.prog W 0 (fun _=>true) true Tryz.f8.params.toList args.toList ds p:=hA0;rw[Tryz.params8]at hA hval;obtain⟨v0,vs0,d0,ds0,p0,q0,hargs,rfl,rfl,h0,r0⟩:=trodAll_cons hA;obtain⟨v1,vs1,d1,ds1,p1,q1,rfl,rfl,rfl,h1,r1⟩:=trodAll_cons r0;obtain⟨rfl,rfl,rfl⟩:=trodAll_nil r1;obtain rfl:args=#[v0,v1]:=by cases args;simp_all
 obtain⟨rfl,rfl⟩:=trodVars_none hV;obtain⟨n0,a0,b0,c0,rfl,rfl,rfl,w0,x0,y0,z0⟩:=amE Tryz.underlying29 rfl rfl rfl rfl zS meetSelf_flt meetSelf_flt meetSelf_flt meetSelf_c Tryz.underlying3 Tryz.underlying27 Tryz.underlying27 Tryz.underlying27 (hval 0 29 v0 rfl rfl) h0;obtain⟨a1,rfl,rfl,rfl,w1⟩:=open_int Tryz.underlying3 (hval 1 3 v1 rfl rfl) h1;clear hA0 hval0;simp only[List.append_nil]at hW';have hT:=uH hL;refine(yK hT (akE hT) (ae2 x0) (ae2 y0) (ae2 z0)).mono fun e W' ⟨he,hb⟩=> ?_;subst he;exact⟨_,rfl,zB hW' rfl (by kernel_rfl) rfl (fun sp _=>(trodAll_cons_mk (amF Tryz.underlying29 rfl rfl rfl rfl zS meetSelf_flt meetSelf_flt meetSelf_flt meetSelf_c Tryz.underlying3 Tryz.underlying27 Tryz.underlying27 Tryz.underlying27 w0 x0 y0 z0) (trodAll_cons_mk (shut_int Tryz.underlying3 w1) trodAll_mk0))) hb⟩
theorem meetSelf_facts:joinedFacts Tryz.prog 8 Tryz.f8 Rows.meetSelfSpec Rows.meetSelfRow=true:=by
 simp only[joinedFacts,Bool.and_eq_true]
 repeat' apply And.intro
 all_goals (as_aux_lemma=>kernel_rfl)
theorem meetSelf_row:Rows.MeetSelfSaid:=
 OpenClaim.holds_of_wide 8 Tryz.f8 rfl rfl rfl rfl rfl rfl rfl ⟨rfl,rfl,rfl,rfl,rfl⟩ rfl rfl rfl rfl rfl (by as_aux_lemma=>kernel_rfl) Tryz.func8 meetSelf_facts
  (of_decide_eq_true (by as_aux_lemma=>kernel_rfl)) (by unfold Func.isWrapper;first|(rw[if_pos (by decide+kernel)];kernel_rfl)|(rw[if_neg (by decide+kernel)];exact⟨rfl,rfl⟩))
  (fun os started H enc _=>meetSelf_lifted os started H enc)
theorem meetSelf_holds:Rows.MeetSelfCardSaid:=
 Claim7.holds_tied_plain_at .later [] [.data] true (true, "146acb901753abcf22434a7137c217ae58ff3762433b549ee24192ed404c64cb") true
  meetSelf_row (fun _ h=>by cases h) (by as_aux_lemma=>kernel_rfl) (fun _ h=>by cases h) meetSelf_row_tie rfl ⟨rfl,rfl⟩ (by as_aux_lemma=>kernel_rfl) rfl
  (fun f fn hf hfn=>by
    obtain rfl : f = 8 := Option.some.inj ((show Tryz.prog.funcNamed "compass/compasslaw20.MeetSelf" = some 8 by as_aux_lemma => kernel_rfl).symm.trans hf) |>.symm
    obtain rfl:fn=Tryz.f8:=(Option.some.inj (Tryz.func8.symm.trans hfn)).symm;exact⟨by as_aux_lemma=>kernel_rfl,fun j t ht=>by
     rw[Tryz.params8]at ht;have h3:t=29\/t=3:=by
      rcases j with _|_|j
      . left;simpa using ht.symm
      . right;simpa using ht.symm
      . simp at ht
     rcases h3 with rfl|rfl
     . exact(show Tryz.prog.wantsStandIn 29=false by as_aux_lemma=>kernel_rfl)
     . exact(show Tryz.prog.wantsStandIn 3=false by as_aux_lemma=>kernel_rfl)⟩)
  (by as_aux_lemma=>kernel_rfl)
end Go.Proofs.YtjaafolhfihegaaGreatDoor
