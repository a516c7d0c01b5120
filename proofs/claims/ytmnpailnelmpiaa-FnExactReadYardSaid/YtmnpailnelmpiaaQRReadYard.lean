/- The law FnExactReadYard holds for every input: the program's ReadYard returns what the reference's returns. No condition. -/
import Derived.Test.YtmnpailnelmpiaaQLReadYard
import Derived.ChangeMaps5
set_option linter.unusedSimpArgs false
set_option linter.unusedVariables false
set_option maxHeartbeats 4000000
namespace Go.Proofs.Ytmnpailnelmpiaa.lawReadYard
open Go.ChangeShapes Go.WideShapes Go.ChangeAt Go.RowKit
set_option maxRecDepth 100000 in
theorem lifted (os:Os) (started:os.Started) (H:Type) (enc:TypeId×Value→H):
 ReturnsInHanded {} Try.checked os 5 .any (Rows.fnExactReadYardSpec.pre6 enc Try.prog Try.f5 Rows.fnExactReadYardRow.domain false) (Rows.fnExactReadYardSpec.post enc Try.prog Try.f5 false true false false):=by
 refine returnsInHanded_of_change (C:=Try.checked) own started (by kernel_rfl) Try.func5
  (ChangeSpec.witness6 (enc:=enc) (C:=Try.checked) false ⟨#[],#[.string ⟨#[]⟩],[]⟩ 8 (by kernel_rfl) (by kernel_rfl) (by kernel_rfl) (by kernel_rfl)) ?_
 intro W base args ds gs before hval0 hW hcnd _;have hval:∀(j:Nat) t v,Try.f5.params[j]?=some t→args[j]?=some v→Value.okWide Try.prog W .any base t v:=hval0;have hW':=hW;obtain ⟨p,q,hA0,hV,rfl,hfz,hnd⟩:=hW;have hA:DataW.TrodAll enc Try.prog W 0 (fun _=>true) true Try.f5.params.toList args.toList ds p:=hA0
 rw [Try.params5] at hA hval;obtain ⟨v0,vs0,d0,ds0,p0,q0,hargs,rfl,rfl,h0,r0⟩:=trodAll_cons hA;obtain ⟨rfl,rfl,rfl⟩:=trodAll_nil r0;obtain rfl:args=#[v0]:=by cases args;simp_all
 obtain ⟨rfl,rfl⟩:=trodVars_none hV;obtain ⟨b0,rfl,rfl,rfl,wb0⟩:=Go.ChangeMaps.open_string Try.underlying9 (hval 0 _ v0 rfl rfl) h0;clear hA0 hval0;simp only [List.append_nil] at hW';refine (jfa (args:=[.string b0]) (jlv b0) ⟨_,_,rfl,⟨[],rfl,rfl⟩,rfl⟩).mono fun e W' ⟨he,hb⟩=>?_
 subst he;exact ⟨_,rfl,jc6 (pa:=([]++[])) (pv:=[]) hW' (fun _ _ _=>trodAll_mk1 (shut_bool Try.underlying4 _)) (fun sp hsp=>(trodAll_cons_mk (Go.ChangeMaps.shut_string Try.underlying9 wb0) trodAll_mk0)) (fun _ _=>rfl) (by simp) hb (ok_one (by kernel_rfl) rfl (okWide_bool_mk Try.underlying4 _))⟩
theorem proved:Rows.FnExactReadYardSaid:=
 OpenClaim.holds_of_wide 5 Try.f5 rfl rfl rfl rfl rfl rfl rfl ⟨rfl,rfl,rfl,rfl,rfl⟩ rfl rfl rfl rfl rfl (by as_aux_lemma=>kernel_rfl) Try.func5 (by unfold joinedFacts;(repeat' (with_reducible refine Bool.and_eq_true_iff.mpr ⟨?_,?_⟩));all_goals (as_aux_lemma=>kernel_rfl))
  (of_decide_eq_true (by as_aux_lemma=>kernel_rfl)) (by unfold Func.isWrapper;first|(rw [if_pos (by decide+kernel)];kernel_rfl)|(rw [if_neg (by decide+kernel)];exact ⟨rfl,rfl⟩))
  (fun os started H enc _=>lifted os started H enc)
end Go.Proofs.Ytmnpailnelmpiaa.lawReadYard
