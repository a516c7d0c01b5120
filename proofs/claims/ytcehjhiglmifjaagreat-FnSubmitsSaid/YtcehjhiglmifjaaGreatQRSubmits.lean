/- The law FnSubmits holds for every input. No condition. -/
import Derived.Test.YtcehjhiglmifjaaGreatQLSubs
set_option linter.all false
set_option maxHeartbeats 4000000
namespace Go.Proofs.YtcehjhiglmifjaaGreat.lawSubmits
open Go.ChangeShapes Go.WideShapes Go.ChangeAt Go.RowKit
set_option maxRecDepth 100000 in
theorem lifted (os:Os) (started:os.Started) (H:Type) (enc:TypeId×Value->H):
 ReturnsInHanded {} Tryz.checked os 7 .any (Rows.fnSubmitsSpec.pre6 enc Tryz.prog Tryz.f7 Rows.fnSubmitsRow.domain false) (Rows.fnSubmitsSpec.post enc Tryz.prog Tryz.f7 false true false false):=by
 refine returnsInHanded_of_change (C:=Tryz.checked) own started (by kernel_rfl) Tryz.func7
  (ChangeSpec.witness6 (enc:=enc) (C:=Tryz.checked) false ⟨#[],#[.slice none 0 0],[]⟩ 8 (by kernel_rfl) (by kernel_rfl) (by kernel_rfl) (by kernel_rfl)) ?_
 intro W base args ds gs before fL hW yX _;have lQ:∀(j:Nat) t v,Tryz.f7.params[j]?=some t->args[j]?=some v->Value.okWide Tryz.prog W .any base t v:=fL;have pJ:=hW;obtain ⟨p,q,tU,hV,rfl,rF,aY⟩:=hW;have hA:DataW.TrodAll enc Tryz.prog W 0 (λ_=>true) true Tryz.f7.params.toList args.toList ds p:=tU
 rw [Tryz.params7] at hA lQ;obtain ⟨v0,vs0,d0,ds0,p0,q0,cG,rfl,rfl,h0,r0⟩:=trodAll_cons hA;obtain ⟨rfl,rfl,rfl⟩:=trodAll_nil r0;obtain rfl:args=#[v0]:=by cases args;simp_all
 obtain ⟨rfl,rfl⟩:=trodVars_none hV;obtain ⟨b0,-,S0,rL⟩:=jrx jws Tryz.underlying22 (lQ 0 _ v0 rfl rfl) h0;clear tU fL;simp only [aPR] at pJ;refine (jla (args:=[v0]) (jpL b0) ⟨_,_,rfl,⟨_,rL⟩,rfl⟩).mono λe W' ⟨he,hb⟩=>?_
 subst he;have o4:∀x∈p0,x.block<W.heap.size:=λx hx=>pJ.lt x (by simp [hx])
 exact ⟨_,rfl,jh8 (pa:=(p0++[])) (pv:=[]) pJ (λ_ _ _=>trodAll_mk1 (shut_bool Tryz.underlying4 _)) (λsp gR=>(trodAll_cons_mk (jlW laid (by kernel_rfl) (aPV (by kernel_rfl)) h0 hb o4 (λx hx=>gR x (by simp [hx]))) trodAll_mk0)) (λ_ _=>rfl) (by simp) hb (ok_one (by kernel_rfl) rfl (okWide_bool_mk Tryz.underlying4 _))⟩
theorem proved:Rows.FnSubmitsSaid:=
 OpenClaim.holds_of_wide 7 Tryz.f7 rfl rfl rfl rfl rfl rfl rfl ⟨rfl,rfl,rfl,rfl,rfl⟩ rfl rfl rfl rfl rfl (by as_aux_lemma=>kernel_rfl) Tryz.func7 (by unfold joinedFacts;(repeat' (with_reducible refine Bool.and_eq_true_iff.mpr ⟨?_,?_⟩));all_goals (as_aux_lemma=>kernel_rfl))
  (aPV (by as_aux_lemma=>kernel_rfl)) (by unfold Func.isWrapper;first|(rw [if_pos (by decide+kernel)];kernel_rfl)|(rw [if_neg (by decide+kernel)];exact ⟨rfl,rfl⟩))
  (λos started H enc _=>lifted os started H enc)
end Go.Proofs.YtcehjhiglmifjaaGreat.lawSubmits
