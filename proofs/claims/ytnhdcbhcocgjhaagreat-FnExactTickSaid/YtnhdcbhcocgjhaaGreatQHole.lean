/- Texts for laws: Hole, Ret2, RunNew, Swept, Told. -/
import Derived.Test.YtnhdcbhcocgjhaaGreatQAb
import Derived.Test.YtnhdcbhcocgjhaaGreatQCopyY
import Derived.Test.YtnhdcbhcocgjhaaGreatQE8
import Derived.Test.YtnhdcbhcocgjhaaGreatQFresh
import Derived.Test.YtnhdcbhcocgjhaaGreatQHolds
import Derived.Test.YtnhdcbhcocgjhaaGreatQYardB
set_option linter.unusedSimpArgs false
set_option linter.unusedVariables false
namespace Go.Proofs.YtnhdcbhcocgjhaaGreat
open Go.RowKit Go.Sort
section
variable {P : Program} {B : Nat} {w w0 : World} {F : Nat → List Nat} {o : Nat → Ob}
theorem repL_split {own : Bool} : ∀ {k : Nat} {cs : List D} {vs : List Value} {S : List Nat} {d : D}, RepL w own cs vs S → cs[k]? = some d →
    ∃ v SA Sd SC, vs[k]? = some v ∧ S = SA ++ Sd ++ SC ∧ Rep w own d v Sd ∧ ∀ d' Sd', Rep w own d' v Sd' → RepL w own (cs.set k d') vs (SA ++ Sd' ++ SC)
  | _, [], _, _, _, _, h => by simp at h
  | 0, e :: cs, _, _, d, ⟨v, vs', S1, S2, rfl, rfl, h1, h2⟩, h => by
    simp at h; subst h
    exact ⟨v, [], S1, S2, rfl, by simp, h1, fun d' Sd' h3 => ⟨v, vs', Sd', S2, rfl, by simp, h3, h2⟩⟩
  | k + 1, e :: cs, _, _, d, ⟨v, vs', S1, S2, rfl, rfl, h1, h2⟩, h => by
    simp at h
    obtain ⟨v2, SA, Sd, SC, a1, rfl, a3, a4⟩ := repL_split h2 h
    exact ⟨v2, S1 ++ SA, Sd, SC, by simpa using a1, by simp, a3, fun d' Sd' h3 => ⟨v, vs', S1, SA ++ Sd' ++ SC, rfl, by simp, h1, a4 d' Sd' h3⟩⟩
theorem cRel_split : ∀ {c : Nat} {l : List Cell} {us : List Value} {S : List Nat} {d : D} {η : Heads}, CRel B w l us S → l[c]? = some (.own d η) →
    ∃ u SA Sd SC, S = SA ++ Sd ++ SC ∧ d.isSl = true ∧ Rep w true d u Sd ∧ (∀ p, η p = hdr w p d u) ∧ ∀ d' η' Sd', d'.isSl = true → Rep w true d' u Sd' → (∀ p, η' p = hdr w p d' u) → CRel B w (l.set c (.own d' η')) us (SA ++ Sd' ++ SC)
  | _, [], _, _, _, _, _, h => by simp at h
  | 0, .a _ :: l, _, _, d, η, _, h => by simp at h
  | 0, .own e ε :: l, _, _, d, η, ⟨u, us', S1, S2, rfl, rfl, h1, h2, h3, h4⟩, h => by
    simp at h; obtain ⟨rfl, rfl⟩ := h
    exact ⟨u, [], S1, S2, by simp, h1, h2, h3, fun d' η' Sd' a1 a2 a3 => ⟨u, us', Sd', S2, rfl, by simp, a1, a2, a3, h4⟩⟩
  | c + 1, .a x :: l, _, _, d, η, ⟨u, us', rfl, h1, h2⟩, h => by
    simp at h
    obtain ⟨v, SA, Sd, SC, a1, a2, a3, a4, a5⟩ := cRel_split h2 h
    exact ⟨v, SA, Sd, SC, a1, a2, a3, a4, fun d' η' Sd' b1 b2 b3 => ⟨u, us', rfl, h1, a5 d' η' Sd' b1 b2 b3⟩⟩
  | c + 1, .own e ε :: l, _, _, d, η, ⟨u, us', S1, S2, rfl, rfl, h1, h2, h3, h4⟩, h => by
    simp at h
    obtain ⟨v, SA, Sd, SC, rfl, a2, a3, a4, a5⟩ := cRel_split h4 h
    exact ⟨v, S1 ++ SA, Sd, SC, by simp, a2, a3, a4, fun d' η' Sd' b1 b2 b3 => ⟨u, us', S1, SA ++ Sd' ++ SC, rfl, by simp, h1, h2, h3, a5 d' η' Sd' b1 b2 b3⟩⟩
theorem oRel_split {ob : Ob} {c : Nat} {S : List Nat} {d : D} {η : Heads} (ho : ORel B w ob S) (h : ob.own c = some (d, η)) :
    ∃ u SA Sd SC, S = SA ++ Sd ++ SC ∧ d.isSl = true ∧ Rep w true d u Sd ∧ (∀ p, η p = hdr w p d u) ∧ ∀ d' η' Sd', d'.isSl = true → Rep w true d' u Sd' → (∀ p, η' p = hdr w p d' u) → ORel B w (ob.putOwn c d' η') (SA ++ Sd' ++ SC) := by
  cases ob with
  | none => cases h
  | loose e ε =>
    cases c with
    | succ c => cases h
    | zero =>
      simp only [Ob.own, Option.some.injEq, Prod.mk.injEq] at h
      obtain ⟨rfl, rfl⟩ := h
      obtain ⟨h1, u, h2, h3⟩ := ho
      exact ⟨u, [], S, [], by simp, h1, h2, h3, fun d' η' Sd' a1 a2 a3 => ⟨a1, u, by simpa using a2, a3⟩⟩
  | box b ty l =>
    simp only [Ob.own] at h
    split at h
    · rename_i e ε he
      simp only [Option.some.injEq, Prod.mk.injEq] at h
      obtain ⟨rfl, rfl⟩ := h
      obtain ⟨us, S1, h1, h2, rfl⟩ := ho
      obtain ⟨u, SA, Sd, SC, rfl, a2, a3, a4, a5⟩ := cRel_split h2 he
      exact ⟨u, b :: SA, Sd, SC, by simp, a2, a3, a4, fun d' η' Sd' b1 b2 b3 => ⟨us, SA ++ Sd' ++ SC, h1, a5 d' η' Sd' b1 b2 b3, by simp⟩⟩
    · cases h
variable {s : St} {K : St → Prop} {β : Nat} {gd : Option (Nat × Bool)} {d : Option Nat}
theorem is_hp (g c q : Nat) (p : List Nat) (x : Value) (dd : D) : Is s (.h g c (q :: p) x) dd = ownK ((s.o g).own c) fun d0 η => D.get (q :: p) d0 = some dd ∧ η (q :: p) = x ∧ dd.isSl = true := by
  apply propext
  simp only [Is]
  cases (s.o g).own c with
  | none => simp [ownK]
  | some z =>
    obtain ⟨d0, η⟩ := z
    simp only [ownK, Option.some.injEq, Prod.mk.injEq]
    constructor
    · rintro ⟨_, _, ⟨rfl, rfl⟩, h1, h2, h3⟩; exact ⟨h2, h1, h3⟩
    · rintro ⟨h1, h2, h3⟩; exact ⟨_, _, ⟨rfl, rfl⟩, h2, h1, h3⟩
theorem ptr_bp (g c b : Nat) (ds : List D) : Ptr s (.bp g c b) ds = obK (s.o g) b fun _ cs => Ptr.go s g b ((cs.drop c).take ds.length) c ds := by
  rw [← ob_ex]
  apply propext
  simp only [Ptr]
  constructor
  · rintro ⟨ty, cs, h1, _, rfl, h3⟩; exact ⟨ty, cs, h1, h3⟩
  · rintro ⟨ty, cs, h1, h3⟩; exact ⟨ty, cs, h1, _, rfl, h3⟩
theorem go_nil_ (g b c : Nat) : Ptr.go s g b [] c [] = True := by simp [Ptr.go]
theorem go_a_ (g b c : Nat) (x : A0) (l : List Cell) (e : D) (ds : List D) : Ptr.go s g b (.a x :: l) c (e :: ds) = (IsP x e ∧ Ptr.go s g b l (c + 1) ds) := rfl
theorem isP_v (x : Value) : IsP (.v x) (.val x) = True := eq_true (.inl rfl)
theorem loadE_cons (g c i : Nat) (p : List Nat) (η : Heads) (e : D) (l : List D) : loadE g c p η i (e :: l) = e.toOwn g c (p ++ [i]) η :: loadE g c p η (i + 1) l := rfl
def mkfK (s : St) (K : St → Prop) (d : Option Nat) (f : Nat) : AV → Prop
  | .c a => K (s.put d (.fn f [a]))
  | _ => False
theorem mkfK_c (f : Nat) (a : A0) : mkfK s K d f (.c a) = K (s.put d (.fn f [a])) := rfl
theorem run_mkf (f : Nat) (x : X) : runI P β ⟨d, gd, .mkf f [x]⟩ s K = mkfK s K d f (s.ev x) := by
  cases hx : s.ev x with
  | c a =>
    refine gen_eq (os := []) (av := .fn f [a]) rfl fun rt st av' os' => ?_
    simp [Gen, capsOf, hx]
  | _ =>
    apply propext
    refine ⟨fun h => ?_, fun h => h.elim⟩
    have h' : ∃ rt, ∀ st, ∃ av os, Gen P s (β + d.getD 0) rt st (.mkf f [x]) av os ∧ K ((s.addO os).put d av) := h
    obtain ⟨rt, h1⟩ := h'
    obtain ⟨av, os, ⟨l, h2, _⟩, _⟩ := h1 ⟨0, fun _ _ => undef⟩
    simp [capsOf, hx] at h2
theorem enc4 (x : En) : (encEn x).length = 4 := rfl
theorem get_sh {sh : List (List En)} {k : Nat} {l : List En} (h : sh[k]? = some l) : D.get [k] (encSh sh) = some (encEns l) := by
  have e : sh.flatMap (fun es => [encEns es]) = sh.map encEns := by clear h; induction sh <;> simp_all
  simp [encSh, D.get, e, h, get_nil]
end
attribute [go_sem] run_mkf mkfK_c loadE_cons is_hp ptr_bp go_nil_ go_a_ isP_v
end Go.Proofs.YtnhdcbhcocgjhaaGreat
set_option linter.unusedSimpArgs false
set_option linter.unusedVariables false
set_option maxRecDepth 100000
namespace Go.Proofs.YtnhdcbhcocgjhaaGreat
open Go.RowKit Go.Sort
section
variable {P : Program} {s : St}
def ret2A (s : St) (ds : List D) (d : D) (l : List A0) : AV → Prop
  | .c a => l.length = ds.length ∧ TakeK s (l ++ [a]) fun cs _ => IsD cs (ds ++ [d])
  | _ => False
def ret2K (s : St) (k : Nat) (ds : List D) (d : D) (b : AV) : AV → Prop
  | .c (.bp g c bb) => ldB (s.o g) g c bb k fun l => ret2A s ds d l b
  | _ => False
theorem ret2_ (n k m : Nat) (ds : List D) (d : D) (h : ret2K s k ds d (s.t m) (s.t n)) : RetQ [.cell n true k, .t m] (.tup [(true, ds), (false, [d])]) s := by
  unfold ret2K at h
  split at h
  · rename_i g c bb he
    simp only [ldB] at h
    split at h
    · rename_i b ty cs ho
      obtain ⟨e1, e2, h⟩ := h
      unfold ret2A at h
      split at h
      · rename_i a ha
        obtain ⟨h1, h2⟩ := h
        simp only [RetQ, resK, ha, he]
        refine ⟨_, ⟨ty, cs, by rw [ho, e1], e2, rfl⟩, .inl trivial, ?_⟩
        refine ⟨⟨by simp, by simp [h1]⟩, ?_⟩
        simpa [RT.flat] using h2
      · exact h.elim
    · exact h.elim
  · exact h.elim
theorem ret2A_ (ds : List D) (d : D) (l : List A0) (a : A0) : ret2A s ds d l (.c a) = (l.length = ds.length ∧ TakeK s (l ++ [a]) fun cs _ => IsD cs (ds ++ [d])) := rfl
theorem ret2K_ (k g c bb : Nat) (ds : List D) (d : D) (b : AV) : ret2K s k ds d b (.c (.bp g c bb)) = ldB (s.o g) g c bb k fun l => ret2A s ds d l b := rfl
end
attribute [go_sem] ret2A_ ret2K_
theorem rns_get {l : List Rn} {k j : Nat} {r : Rn} (h : l[k]? = some r) (hj : j < 8) : (l.flatMap encRn)[k * 8 + j]? = (encRn r)[j]? := by
  rw [split_flat (enc := encRn) h, List.getElem?_append_right (by rw [take_len (enc := encRn) (size := 8) (fun _ => rfl) h]; omega), take_len (enc := encRn) (size := 8) (fun _ => rfl) h, Nat.add_sub_cancel_left, List.getElem?_append_left (by exact hj)]
theorem get_rns5 {l : List Rn} {k : Nat} {r : Rn} (h : l[k]? = some r) : D.get [k * 8 + 5] (encRns l) = some (encEds r.plan.edges) := by
  have := rns_get (j := 5) h (by decide)
  simp [encRns, D.get, this, encRn, encPl, get_nil]
theorem get_rns7 {l : List Rn} {k : Nat} {r : Rn} (h : l[k]? = some r) : D.get [k * 8 + 7] (encRns l) = some (encTks r.tasks) := by
  have := rns_get (j := 7) h (by decide)
  simp [encRns, D.get, this, encRn, encPl, get_nil]
theorem get_rns5' {l : List Rn} {k : Nat} {r : Rn} (h : l[k]? = some r) : D.get [k * 8 + 1 + 1 + 1 + 1 + 1] (encRns l) = some (encEds r.plan.edges) := get_rns5 h
theorem get_rns7' {l : List Rn} {k : Nat} {r : Rn} (h : l[k]? = some r) : D.get [k * 8 + 1 + 1 + 1 + 1 + 1 + 1 + 1] (encRns l) = some (encTks r.tasks) := get_rns7 h
theorem runAt_get {y : Yd} {id : Int} (h : ¬ runAt y id < 0) : ∃ (k : Nat) (r : Rn), runAt y id = k ∧ y.runs[k]? = some r ∧ r.id = id ∧ y.runs.length ≤ 8 := by
  unfold runAt at h ⊢
  split at h
  · omega
  · rename_i h8
    rw [if_neg h8]
    rcases runIx_cases y.runs id with ⟨k, x, h1, h2, _, h4⟩ | ⟨_, h2⟩
    · exact ⟨k, x, h4, h1, h2, by omega⟩
    · rw [h2] at h; omega
theorem at_rn {l : List Rn} {k : Nat} {x : Rn} (hx : l[k]? = some x) : ((l.flatMap encRn).drop (k * 8)).take 8 = encRn x := at1_flat (enc := encRn) (size := 8) (fun _ => rfl) hx (j := 0) (n := 8) (by decide)
theorem in_rn {l : List Rn} {k : Nat} {x : Rn} (hx : l[k]? = some x) : k * 8 + 8 ≤ (l.flatMap encRn).length := in1_flat (enc := encRn) (size := 8) (fun _ => rfl) hx (j := 0) (n := 8) (by decide)
end Go.Proofs.YtnhdcbhcocgjhaaGreat
set_option linter.unusedSimpArgs false
set_option linter.unusedVariables false
set_option maxRecDepth 100000
namespace Go.Proofs.YtnhdcbhcocgjhaaGreat
open Go.RowKit Go.Sort
end Go.Proofs.YtnhdcbhcocgjhaaGreat
set_option linter.unusedSimpArgs false
set_option linter.unusedVariables false
set_option maxRecDepth 100000
namespace Go.Proofs.YtnhdcbhcocgjhaaGreat
open Go.RowKit Go.Sort
def c_slices_IndexFunc_impl_Entry_impl_Entry_ : C := .seq (.reg [⟨some 4, none, .mov (.c (.int .i64 0))⟩]) (.seq (.seq (.reg [⟨some 6, none, .mov (.t 0)⟩, ⟨some 7, none, .len false (.t 6)⟩, ⟨some 8, none, .mov (.c (.int .i64 0))⟩]) (.blk 0 (.loop (.seq (.reg [⟨some 9, none, .bin .lss 3 (.t 8) (.t 7)⟩]) (.seq (.cond (.t 9) .skip (.exit 0)) (.seq (.blk 1 (.seq (.reg [⟨some 10, none, .mov (.t 8)⟩, ⟨some 5, none, .mov (.t 10)⟩]) (.seq (.reg [⟨some 11, none, .mov (.t 1)⟩, ⟨some 12, none, .mov (.t 0)⟩, ⟨some 13, none, .mov (.t 5)⟩, ⟨some 14, none, .ia 4 (.t 12) (.t 13)⟩, ⟨some 15, none, .ld true 4 (.t 14)⟩, ⟨some 16, none, .callv (.t 11) [.t 15]⟩]) (.cond (.t 16) (.seq (.reg [⟨some 17, none, .mov (.t 5)⟩, ⟨some 4, none, .mov (.t 17)⟩]) .ret) .skip)))) (.reg [⟨some 18, none, .bin .add 3 (.t 8) (.c (.int .i64 1))⟩, ⟨some 8, none, .mov (.t 18)⟩]))))))) (.seq (.reg [⟨some 4, none, .mov (.c (.int .i64 (-1)))⟩]) .ret))
theorem code_slices_IndexFunc_impl_Entry_impl_Entry_ : fnC Tryz.prog Tryz.f148 = some (c_slices_IndexFunc_impl_Entry_impl_Entry_, [.t 4], 19) := by kernel_rfl
set_option maxHeartbeats 4000000 in
theorem p_IndexFuncEn (l : List En) (f : Nat) (cd : List D) (p : En → Bool) (hf : ∀ x, Pure Tryz.prog f [.agg (encEn x), .ptr cd] (.c (.val (.bool (p x))))) (hl : l.length ≤ 4000000) : Pure Tryz.prog 148 [.c (encEns l), .fn f [cd]] (.c (.val (.int .i64 (findI p l)))) := by
  refine pure_fn Tryz.func148 code_slices_IndexFunc_impl_Entry_impl_Entry_ (by simp) ?_
  unfold c_slices_IndexFunc_impl_Entry_impl_Entry_
  simp -implicitDefEqProofs only [go_sem]
  refine wp_loopW (fun i : Nat => St.of [(0, Ro (encEns l)), (1, .fn f [.rp cd]), (7, Ni l.length), (8, Ni i)] []) (fun i => i ≤ l.length ∧ ∀ y ∈ l.take i, p y = false) (fun i => l.length - i) 0 (by (try dsimp only); first | omega | (simp; done) | (and_intros <;> first | omega | simp)) (wk_of [] (by simp -implicitDefEqProofs only [go_sem] <;> and_intros <;> first | rfl | assumption)) ?_
  rintro k ⟨hk, hko⟩
  by_cases hlt : k < l.length
  · have hlt' : (k : Int) < l.length := by omega
    have h0k : (k : Int) ≥ 0 := by omega
    obtain ⟨x, hx⟩ := get_some hlt
    have hw : IntKind.i64.wrap ((k : Int) + 1) = ((k + 1 : Nat) : Int) := wrap64 (by omega) (by omega)
    simp -implicitDefEqProofs only [go_sem, hlt, hlt', h0k, elem_encEns hx, encEn]
    refine run_callv (by simp -implicitDefEqProofs only [go_sem]; rfl) (hf x) (by simp -implicitDefEqProofs only [go_sem, encEn]) fun η => ?_
    cases hp : p x
    · simp -implicitDefEqProofs only [go_sem, hp, hw]
      exact ⟨k + 1, ⟨hlt, take_no hx hp hko⟩, (wk_of [] (by simp -implicitDefEqProofs only [go_sem] <;> and_intros <;> first | rfl | assumption)), by (try dsimp only); omega⟩
    · simp -implicitDefEqProofs only [go_sem, hp, findI_hit hx hp hko]
  · have hlt' : ¬ (k : Int) < l.length := by omega
    rw [List.take_of_length_le (by omega)] at hko
    simp -implicitDefEqProofs only [go_sem, hlt', findI_none hko]
theorem sh_map (sh : List (List En)) : (sh.flatMap fun es => [encEns es]) = sh.map encEns := by induction sh <;> simp_all
theorem set_same {α : Type} {l : List α} {k : Nat} {x : α} (h : l[k]? = some x) : l.set k x = l := by
  apply List.ext_getElem?
  intro j
  by_cases e : k = j
  · subst e; rw [List.getElem?_set_self (List.getElem?_eq_some_iff.1 h).1, h]
  · rw [List.getElem?_set_ne e]
end Go.Proofs.YtnhdcbhcocgjhaaGreat
set_option linter.unusedSimpArgs false
set_option linter.unusedVariables false
set_option maxRecDepth 100000
namespace Go.Proofs.YtnhdcbhcocgjhaaGreat
open Go.RowKit Go.Sort
section
variable {P : Program} {f : FuncId}
theorem pure4 {v1 v2 v3 v4 : View} {u : Value} (hn : Named P f) (h : ∀ w a b c d, ViewRel w v1 a → ViewRel w v2 b → ViewRel w v3 c → ViewRel w v4 d → Calls P f #[a, b, c, d] w fun e w' => e = .returned u ∧ Below w.heap.size w w') : Pure P f [v1, v2, v3, v4] (.c (.val u)) := by
  refine ⟨hn, fun w xs hv => ?_⟩
  obtain ⟨a, _, rfl, h1, b, _, rfl, h2, c, _, rfl, h3, d, _, rfl, h4, h5⟩ := hv
  rw [show _ = _ from h5]
  exact (h w a b c d h1 h2 h3 h4).mono fun e w' ⟨he, hb⟩ => ⟨u, [], he, ⟨rfl, rfl⟩, Fresh.nil _, hb⟩
end
theorem p_spec_Holds (y : Yd) (id task tri : Int) : Pure Tryz.prog 106 [.agg (encYd y), .c (.val (.int .i64 id)), .c (.val (.int .i64 task)), .c (.val (.int .i64 tri))] (.c (.val (.bool (holds y id task tri)))) :=
  pure4 ⟨_, Tryz.func106, by kernel_rfl, by kernel_rfl⟩ fun w a b c d ⟨S, ha⟩ hb hc hd => by rw [view_val hb, view_val hc, view_val hd]; exact sHolds_c y id task tri a S w false ha
theorem p_impl_Holds (y : Yd) (id task tri : Int) : Pure Tryz.prog 69 [.agg (encYd y), .c (.val (.int .i64 id)), .c (.val (.int .i64 task)), .c (.val (.int .i64 tri))] (.c (.val (.bool (holds y id task tri)))) :=
  pure4 ⟨_, Tryz.func69, by kernel_rfl, by kernel_rfl⟩ fun w a b c d ⟨S, ha⟩ hb hc hd => by rw [view_val hb, view_val hc, view_val hd]; exact iHolds_c y id task tri a S w false ha
open Classical in
noncomputable def askC (y : Yd) (id task tri : Int) : Int := if yardOkB y = false then 8 else if runAt y id < 0 then 10 else if holds y id task tri = false then 11 else 0
def c_spec_l13Ask : C := .seq (.reg [⟨some 4, none, .box 30 4 (.t 0)⟩, ⟨some 8, none, .mov (.c (.int .i64 0))⟩]) (.seq (.blk 0 (.seq (.reg [⟨some 10, none, .ld true 4 (.t 4)⟩, ⟨some 11, none, .call 65 [.t 10]⟩, ⟨some 12, none, .un .not (.t 11)⟩, ⟨some 9, none, .mov (.t 12)⟩]) (.cond (.t 9) (.seq (.reg [⟨some 8, none, .mov (.c (.int .i64 8))⟩]) .ret) (.seq (.reg [⟨some 14, none, .ld true 4 (.t 4)⟩, ⟨some 15, none, .mov (.t 1)⟩, ⟨some 16, none, .call 45 [.t 14, .t 15]⟩, ⟨some 17, none, .bin .lss 3 (.t 16) (.c (.int .i64 0))⟩, ⟨some 13, none, .mov (.t 17)⟩]) (.cond (.t 13) (.seq (.reg [⟨some 8, none, .mov (.c (.int .i64 10))⟩]) .ret) (.seq (.reg [⟨some 19, none, .ld true 4 (.t 4)⟩, ⟨some 20, none, .mov (.t 1)⟩, ⟨some 21, none, .mov (.t 2)⟩, ⟨some 22, none, .mov (.t 3)⟩, ⟨some 23, none, .call 106 [.t 19, .t 20, .t 21, .t 22]⟩, ⟨some 24, none, .un .not (.t 23)⟩, ⟨some 18, none, .mov (.t 24)⟩]) (.cond (.t 18) (.seq (.reg [⟨some 8, none, .mov (.c (.int .i64 11))⟩]) .ret) .skip))))))) (.seq (.reg [⟨some 8, none, .mov (.c (.int .i64 0))⟩]) .ret))
theorem code_spec_l13Ask : fnC Tryz.prog Tryz.f44 = some (c_spec_l13Ask, [.t 8], 25) := by kernel_rfl
def c_impl_told : C := .seq (.reg [⟨some 4, none, .box 30 4 (.t 0)⟩, ⟨some 8, none, .mov (.c (.int .i64 0))⟩]) (.seq (.blk 0 (.seq (.reg [⟨some 10, none, .ld true 4 (.t 4)⟩, ⟨some 11, none, .call 67 [.t 10]⟩, ⟨some 12, none, .un .not (.t 11)⟩, ⟨some 9, none, .mov (.t 12)⟩]) (.cond (.t 9) (.seq (.reg [⟨some 8, none, .mov (.c (.int .i64 8))⟩]) .ret) (.seq (.reg [⟨some 14, none, .ld true 4 (.t 4)⟩, ⟨some 15, none, .mov (.t 1)⟩, ⟨some 16, none, .call 53 [.t 14, .t 15]⟩, ⟨some 17, none, .bin .lss 3 (.t 16) (.c (.int .i64 0))⟩, ⟨some 13, none, .mov (.t 17)⟩]) (.cond (.t 13) (.seq (.reg [⟨some 8, none, .mov (.c (.int .i64 10))⟩]) .ret) (.seq (.reg [⟨some 19, none, .ld true 4 (.t 4)⟩, ⟨some 20, none, .mov (.t 1)⟩, ⟨some 21, none, .mov (.t 2)⟩, ⟨some 22, none, .mov (.t 3)⟩, ⟨some 23, none, .call 69 [.t 19, .t 20, .t 21, .t 22]⟩, ⟨some 24, none, .un .not (.t 23)⟩, ⟨some 18, none, .mov (.t 24)⟩]) (.cond (.t 18) (.seq (.reg [⟨some 8, none, .mov (.c (.int .i64 11))⟩]) .ret) .skip))))))) (.seq (.reg [⟨some 8, none, .mov (.c (.int .i64 0))⟩]) .ret))
theorem code_impl_told : fnC Tryz.prog Tryz.f51 = some (c_impl_told, [.t 8], 25) := by kernel_rfl
set_option maxHeartbeats 4000000 in
theorem p_spec_l13Ask (y : Yd) (id task tri : Int) (ht : totYd y ≤ 2000000) : Pure Tryz.prog 44 [.agg (encYd y), .c (.val (.int .i64 id)), .c (.val (.int .i64 task)), .c (.val (.int .i64 tri))] (.c (.val (.int .i64 (askC y id task tri)))) := by
  refine pure_fn Tryz.func44 code_spec_l13Ask (by simp) ?_
  unfold c_spec_l13Ask
  simp -implicitDefEqProofs only [go_sem, encYd]
  intro b4
  refine run_call (p_spec_YardOk y ht) (by simp -implicitDefEqProofs only [go_sem, encYd]) fun η => ?_
  simp -implicitDefEqProofs only [go_sem, encYd]
  cases hok : yardOkB y
  · have hc : askC y id task tri = 8 := by simp [askC, hok]
    simp -implicitDefEqProofs only [go_sem, encYd, hok, hc]
  simp -implicitDefEqProofs only [go_sem, encYd, hok]
  refine run_call (p_spec_RunAt y id) (by simp -implicitDefEqProofs only [go_sem, encYd]) fun η => ?_
  simp -implicitDefEqProofs only [go_sem, encYd]
  by_cases hneg : runAt y id < 0
  · have hc : askC y id task tri = 10 := by simp [askC, hok, hneg]
    simp -implicitDefEqProofs only [go_sem, encYd, hneg, hc]
  simp -implicitDefEqProofs only [go_sem, encYd, hneg]
  refine run_call (p_spec_Holds y id task tri) (by simp -implicitDefEqProofs only [go_sem, encYd]) fun η => ?_
  simp -implicitDefEqProofs only [go_sem, encYd]
  cases hh : holds y id task tri
  · have hc : askC y id task tri = 11 := by simp [askC, hok, hneg, hh]
    simp -implicitDefEqProofs only [go_sem, encYd, hh, hc]
  · have hc : askC y id task tri = 0 := by simp [askC, hok, hneg, hh]
    simp -implicitDefEqProofs only [go_sem, encYd, hh, hc]
set_option maxHeartbeats 4000000 in
theorem p_impl_told (y : Yd) (id task tri : Int) (ht : totYd y ≤ 2000000) : Pure Tryz.prog 51 [.agg (encYd y), .c (.val (.int .i64 id)), .c (.val (.int .i64 task)), .c (.val (.int .i64 tri))] (.c (.val (.int .i64 (askC y id task tri)))) := by
  refine pure_fn Tryz.func51 code_impl_told (by simp) ?_
  unfold c_impl_told
  simp -implicitDefEqProofs only [go_sem, encYd]
  intro b4
  refine run_call (p_impl_YardOk y ht) (by simp -implicitDefEqProofs only [go_sem, encYd]) fun η => ?_
  simp -implicitDefEqProofs only [go_sem, encYd]
  cases hok : yardOkB y
  · have hc : askC y id task tri = 8 := by simp [askC, hok]
    simp -implicitDefEqProofs only [go_sem, encYd, hok, hc]
  simp -implicitDefEqProofs only [go_sem, encYd, hok]
  refine run_call (p_impl_RunAt y id) (by simp -implicitDefEqProofs only [go_sem, encYd]) fun η => ?_
  simp -implicitDefEqProofs only [go_sem, encYd]
  by_cases hneg : runAt y id < 0
  · have hc : askC y id task tri = 10 := by simp [askC, hok, hneg]
    simp -implicitDefEqProofs only [go_sem, encYd, hneg, hc]
  simp -implicitDefEqProofs only [go_sem, encYd, hneg]
  refine run_call (p_impl_Holds y id task tri) (by simp -implicitDefEqProofs only [go_sem, encYd]) fun η => ?_
  simp -implicitDefEqProofs only [go_sem, encYd]
  cases hh : holds y id task tri
  · have hc : askC y id task tri = 11 := by simp [askC, hok, hneg, hh]
    simp -implicitDefEqProofs only [go_sem, encYd, hh, hc]
  · have hc : askC y id task tri = 0 := by simp [askC, hok, hneg, hh]
    simp -implicitDefEqProofs only [go_sem, encYd, hh, hc]
theorem ask_0 {y : Yd} {id task tri : Int} (h : askC y id task tri = 0) : YardOkP y ∧ ¬ runAt y id < 0 := by
  unfold askC at h
  split at h
  · cases h
  split at h
  · cases h
  rename_i h1 h2
  exact ⟨yard_iff.1 (by simpa using h1), h2⟩


end Go.Proofs.YtnhdcbhcocgjhaaGreat
