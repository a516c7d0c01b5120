/- The law FnTells holds for every input. No condition. -/
import Derived.Test.YtcehjhiglmifjaaGreatQLTells
set_option linter.all false
set_option maxHeartbeats 4000000
namespace Go.Proofs.YtcehjhiglmifjaaGreat.lawTells
open Go.ChangeShapes Go.WideShapes Go.ChangeAt Go.RowKit
set_option maxRecDepth 100000 in
theorem lifted (os:Os) (started:os.Started) (H:Type) (enc:TypeId×Value->H):
 ReturnsInHanded {} Tryz.checked os 10 .any (Rows.fnTellsSpec.pre6 enc Tryz.prog Tryz.f10 Rows.fnTellsRow.domain false) (Rows.fnTellsSpec.post enc Tryz.prog Tryz.f10 false true false false):=by
 refine returnsInHanded_of_change (C:=Tryz.checked) own started (by kernel_rfl) Tryz.func10
  (ChangeSpec.witness6 (enc:=enc) (C:=Tryz.checked) false ⟨#[],#[.slice none 0 0],[]⟩ 8 (by kernel_rfl) (by kernel_rfl) (by kernel_rfl) (by kernel_rfl)) ?_
 intro W base args ds gs before lC hW aCT _;have n5:∀(j:Nat) t v,Tryz.f10.params[j]?=some t->args[j]?=some v->Value.okWide Tryz.prog W .any base t v:=lC;have uB:=hW;obtain ⟨p,q,yK,hV,rfl,rF,aX⟩:=hW;have hA:DataW.TrodAll enc Tryz.prog W 0 (λ_=>true) true Tryz.f10.params.toList args.toList ds p:=yK
 rw [Tryz.params10] at hA n5;obtain ⟨v0,vs0,d0,ds0,p0,q0,cF,rfl,rfl,h0,r0⟩:=trodAll_cons hA;obtain ⟨rfl,rfl,rfl⟩:=trodAll_nil r0;obtain rfl:args=#[v0]:=by cases args;simp_all
 obtain ⟨rfl,rfl⟩:=trodVars_none hV;obtain ⟨b0,-,S0,sV⟩:=ju9 jyL Tryz.underlying22 (n5 0 _ v0 rfl rfl) h0;clear yK lC;simp only [aNI] at uB;refine (joE (args:=[v0]) (jsO b0) ⟨_,_,rfl,⟨_,sV⟩,rfl⟩).mono λe W' ⟨he,hb⟩=>?_
 subst he;have tP:∀x∈p0,x.block<W.heap.size:=λx hx=>uB.lt x (by simp [hx])
 exact ⟨_,rfl,jlL (pa:=(p0++[])) (pv:=[]) uB (λ_ _ _=>trodAll_mk1 (shut_bool Tryz.underlying4 _)) (λsp gT=>(trodAll_cons_mk (jpt laid (by kernel_rfl) (aNS (by kernel_rfl)) h0 hb tP (λx hx=>gT x (by simp [hx]))) trodAll_mk0)) (λ_ _=>rfl) (by simp) hb (ok_one (by kernel_rfl) rfl (okWide_bool_mk Tryz.underlying4 _))⟩
theorem proved:Rows.FnTellsSaid:=
 OpenClaim.holds_of_wide 10 Tryz.f10 rfl rfl rfl rfl rfl rfl rfl ⟨rfl,rfl,rfl,rfl,rfl⟩ rfl rfl rfl rfl rfl (by as_aux_lemma=>kernel_rfl) Tryz.func10 (by unfold joinedFacts;(repeat' (with_reducible refine Bool.and_eq_true_iff.mpr ⟨?_,?_⟩));all_goals (as_aux_lemma=>kernel_rfl))
  (aNS (by as_aux_lemma=>kernel_rfl)) (by unfold Func.isWrapper;first|(rw [if_pos (by decide+kernel)];kernel_rfl)|(rw [if_neg (by decide+kernel)];exact ⟨rfl,rfl⟩))
  (λos started H enc _=>lifted os started H enc)
end Go.Proofs.YtcehjhiglmifjaaGreat.lawTells
