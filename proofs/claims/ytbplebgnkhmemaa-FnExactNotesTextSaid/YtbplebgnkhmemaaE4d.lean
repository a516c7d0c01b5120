/- The engine: calls. No program. -/
import Derived.Test.YtbplebgnkhmemaaE4c
set_option linter.unusedSimpArgs false
set_option linter.unusedVariables false
namespace Go.Proofs.Ytbplebgnkhmemaa
open Go.RowKit Go.Sort

section
variable {P : Program} {B N : Nat} {w w0 : World} {s : St} {a : Act} {F : Nat → List Nat} {o : Oper} {G : AV → List (Nat × Ob) → Prop} {d : Nat} {rt : RT}
theorem isL_rep (h : RelF B w0 N s a w F) : ∀ {l : List A0} {us : List Value} {ds : List D}, A0RelL B w l us → IsL s l ds → ∃ S, RepL w false ds us S
  | [], us, [], h1, _ => ⟨[], h1, rfl⟩
  | [], _, _ :: _, _, h2 => h2.elim
  | _ :: _, _, [], _, h2 => h2.elim
  | _ :: _, _, _ :: _, ⟨u, us', h1, h3, h4⟩, ⟨h5, h6⟩ => by
    subst h1
    obtain ⟨S1, k1⟩ := is_rep h h3 h5
    obtain ⟨S2, k2⟩ := isL_rep h h4 h6
    exact ⟨S1 ++ S2, RepL.cons_ k1 k2⟩
theorem IsP.is {x : A0} {d : D} (h : IsP x d) : Is s x d := by cases x <;> first | exact h | exact h.elim
theorem box_cells (h : RelF B w0 N s a w F) {g b : Nat} : ∀ {l : List Cell} {us : List Value} {S : List Nat} {c : Nat} {ds : List D}, CRel B w l us S → Ptr.go s g b l c ds → ∃ S', RepL w false ds us S'
  | [], us, _, _, [], ⟨h1, _⟩, _ => ⟨[], h1, rfl⟩
  | [], _, _, _, _ :: _, _, h2 => h2.elim
  | .a _ :: _, _, _, _, [], _, h2 => h2.elim
  | .own _ _ :: _, _, _, _, [], _, h2 => h2.elim
  | .a x :: l, _, _, c, d :: ds, ⟨u, us', h1, h3, h4⟩, ⟨h5, h6⟩ => by
    subst h1
    obtain ⟨S1, k1⟩ := is_rep h h3 h5.is
    obtain ⟨S2, k2⟩ := box_cells h h4 h6
    exact ⟨S1 ++ S2, RepL.cons_ k1 k2⟩
  | .own d' η :: l, _, _, c, d :: ds, ⟨u, us', S1, S2, h1, h3, h4, h5, _, h6⟩, ⟨h7, h8⟩ => by
    subst h1 h7
    obtain ⟨S3, k2⟩ := box_cells h h6 h8
    exact ⟨S1 ++ S3, RepL.cons_ h5.ro k2⟩
theorem ptr_rel (h : RelF B w0 N s a w F) {x : A0} {u : Value} {ds : List D} (hr : A0Rel B w x u) (hp : Ptr s x ds) : ViewRel.CellsAt w ds u := by
  cases x with
  | rp ds' =>
    have hp : ds' = ds := hp
    subst hp
    obtain ⟨b, o', us, S, h1, h2, _, _, h5⟩ := hr
    exact ⟨b, o', us, S, h1, h2, h5⟩
  | bp g c b =>
    obtain ⟨ty, cs, h1, l, h2, h3⟩ := hp
    have hob := h.ob g
    rw [h1] at hob
    obtain ⟨us, S1, k1, k2, _⟩ := hob
    obtain ⟨S2, k3, _⟩ := CRel.drop c k2
    obtain ⟨S3, k4, _⟩ := CRel.take ds.length k3
    rw [h2] at k4
    obtain ⟨S4, k5⟩ := box_cells h k4 h3
    refine ⟨b, c, _, S4, hr, k5, fun j y hy => ?_⟩
    rw [List.getElem?_take] at hy
    split at hy
    · rw [List.getElem?_drop] at hy
      simp [World.cell?, k1, hy]
    · simp at hy
  | _ => exact hp.elim
theorem arg_rel (h : RelF B w0 N s a w F) : ∀ {v : AV} {u : Value} {vw : View}, VRel B w v u → ArgIs s v vw → ViewRel w vw u
  | .c x, u, .c dd, hv, hi => is_rep h hv hi
  | .agg l, u, .agg ds, ⟨us, h1, h2⟩, hi => by
    obtain ⟨S, k⟩ := isL_rep h h2 hi
    exact ⟨S, us, h1, k⟩
  | .c x, u, .ptr ds, hv, hi => ptr_rel h hv hi
  | .fn f caps, u, .fn f' caps', ⟨us, h1, h2⟩, ⟨h3, h4⟩ => by
    subst h3
    refine ⟨us, h1, ?_⟩
    have key : ∀ (caps : List A0) (us : List Value) (caps' : List (List D)), A0RelL B w caps us → PtrL s caps caps' → ViewRel.All2 w caps' us := by
      intro caps
      induction caps with
      | nil => intro us caps' k1 k2; cases caps' with | nil => exact k1 | cons _ _ => exact k2.elim
      | cons x l ih =>
        intro us caps' k1 k2
        obtain ⟨u, us', rfl, k3, k4⟩ := k1
        cases caps' with
        | nil => exact k2.elim
        | cons ds l' => exact ⟨u, us', rfl, ptr_rel h k3 k2.1, ih us' l' k4 k2.2⟩
    exact key _ _ _ h2 h4
  | .c _, _, .agg _, _, hi => hi.elim
  | .c _, _, .fn _ _, _, hi => hi.elim
  | .agg _, _, .c _, _, hi => hi.elim
  | .agg _, _, .ptr _, _, hi => hi.elim
  | .agg _, _, .fn _ _, _, hi => hi.elim
  | .fn _ _, _, .c _, _, hi => hi.elim
  | .fn _ _, _, .agg _, _, hi => hi.elim
  | .fn _ _, _, .ptr _, _, hi => hi.elim
  | .tup _, _, .c _, _, hi => hi.elim
  | .tup _, _, .agg _, _, hi => hi.elim
  | .tup _, _, .ptr _, _, hi => hi.elim
  | .tup _, _, .fn _ _, _, hi => hi.elim
  | .unk, _, .c _, _, hi => hi.elim
  | .unk, _, .agg _, _, hi => hi.elim
  | .unk, _, .ptr _, _, hi => hi.elim
  | .unk, _, .fn _ _, _, hi => hi.elim
theorem args_rel (h : RelF B w0 N s a w F) : ∀ {args : List Operand} {xs : List X} {caps : List A0} {cs : List Value} {vs : List View}, compXs args = some xs → A0RelL B w caps cs → ArgsAre s (xs.map s.ev ++ caps.map .c) vs → ViewsRel w vs (args.map a.eval ++ cs)
  | [], xs, caps, cs, vs, h1, h2, h3 => by
    simp [compXs] at h1; subst h1
    have key : ∀ (caps : List A0) (cs : List Value) (vs : List View), A0RelL B w caps cs → ArgsAre s (caps.map .c) vs → ViewsRel w vs cs := by
      intro caps
      induction caps with
      | nil => intro cs vs k1 k2; cases vs with | nil => exact k1 | cons _ _ => exact k2.elim
      | cons x l ih =>
        intro cs vs k1 k2
        obtain ⟨u, us', rfl, k3, k4⟩ := k1
        cases vs with
        | nil => exact k2.elim
        | cons v l' => exact ⟨u, us', rfl, arg_rel (v := .c x) h k3 k2.1, ih us' l' k4 k2.2⟩
    exact key caps cs vs h2 (by simpa using h3)
  | x :: args, xs, caps, cs, vs, h1, h2, h3 => by
    simp only [compXs] at h1
    split at h1
    · rename_i x' xs' k1 k2
      simp at h1; subst h1
      cases vs with
      | nil => exact h3.elim
      | cons v vs => exact ⟨a.eval x, _, rfl, arg_rel h (ev_rel h k1) h3.1, args_rel h k2 h2 h3.2⟩
    · simp at h1
/-- What comes back, as a value with new objects. -/
theorem ret_rel {w' : World} : ∀ {rt : RT} {v : Value} {S : List Nat} (g : Nat), RetRel w' rt v S → ∃ η : Nat → Heads, VRel B w' (rt.av g η) v ∧ NewRel B w' (objL g η 0 rt.flat) S := by
  -- a list of data
  have key : ∀ (ds : List D) (us : List Value) (S : List Nat) (g j : Nat), RepL w' true ds us S → ∃ η : Nat → Heads, (∀ η', (∀ i, i < ds.length → η' (j + i) = η i) → A0RelL B w' (ownL g η' j ds) us ∧ NewRel B w' (objL g η' j ds) S) := by
    intro ds
    induction ds with
    | nil => intro us S g j h; obtain ⟨rfl, rfl⟩ := h; exact ⟨fun _ _ => undef, fun η' _ => ⟨rfl, rfl⟩⟩
    | cons d ds ih =>
      intro us S g j h
      obtain ⟨v, vs', S1, S2, rfl, rfl, h3, h4⟩ := h
      obtain ⟨η, h5⟩ := ih vs' S2 g (j + 1) h4
      refine ⟨fun i => match i with | 0 => fun p => hdr w' p d v | i + 1 => η i, fun η' hη => ?_⟩
      have h0 := hη 0 (by simp)
      obtain ⟨h6, h7⟩ := h5 η' fun i hi => by
        have := hη (i + 1) (by simp; omega)
        rw [show j + 1 + i = j + (i + 1) by omega]
        exact this
      cases d with
      | val u =>
        obtain ⟨rfl, rfl⟩ := h3
        exact ⟨⟨_, _, rfl, rfl, h6⟩, by simpa [objL, D.obj] using h7⟩
      | sl size ty cs =>
        simp only [Nat.add_zero] at h0
        refine ⟨⟨v, vs', rfl, ?_, h6⟩, S1, S2, rfl, ⟨rfl, v, h3, fun p => by rw [h0]⟩, h7⟩
        obtain ⟨_, _, _, rfl⟩ := rep_form h3
        show _ ∧ _
        rw [h0]
        exact ⟨rfl, rfl⟩
  intro rt v S g hr
  cases rt with
  | c d =>
    obtain ⟨η, h1⟩ := key [d] [v] S g 0 ⟨v, [], S, [], rfl, by simp, hr, rfl, rfl⟩
    obtain ⟨⟨u, us', h2, h3, _⟩, h4⟩ := h1 η fun i _ => by rw [Nat.zero_add]
    cases h2
    exact ⟨η, h3, h4⟩
  | agg ds =>
    obtain ⟨us, rfl, hr⟩ := hr
    obtain ⟨η, h1⟩ := key ds us S g 0 hr
    obtain ⟨h2, h3⟩ := h1 η fun i _ => by rw [Nat.zero_add]
    exact ⟨η, ⟨us, rfl, h2⟩, h3⟩
  | tup l =>
    obtain ⟨xs, rfl, hr⟩ := hr
    have key2 : ∀ (l : List (Bool × List D)) (xs : List Value) (S : List Nat) (j : Nat), TupRel w' l xs S → ∃ η : Nat → Heads, ∀ η', (∀ i, i < (l.flatMap (·.2)).length → η' (j + i) = η i) → TRelL B w' (ownT g η' j l) xs ∧ NewRel B w' (objL g η' j (l.flatMap (·.2))) S := by
      intro l
      induction l with
      | nil => intro xs S j h; obtain ⟨rfl, rfl⟩ := h; exact ⟨fun _ _ => undef, fun η' _ => ⟨rfl, rfl⟩⟩
      | cons p l ih =>
        intro xs S j h
        obtain ⟨b, ds⟩ := p
        obtain ⟨x, xs', us, S1, S2, rfl, rfl, h1, h2, h3⟩ := h
        obtain ⟨η1, h4⟩ := key ds us S1 g j h1
        obtain ⟨η2, h5⟩ := ih xs' S2 (j + ds.length) h3
        refine ⟨fun i => if i < ds.length then η1 i else η2 (i - ds.length), fun η' hη => ?_⟩
        obtain ⟨h6, h7⟩ := h4 η' fun i hi => by
          rw [hη i (by simp; omega)]; simp [hi]
        obtain ⟨h8, h9⟩ := h5 η' fun i hi => by
          have := hη (ds.length + i) (by simp at hi ⊢; omega)
          rw [Nat.add_assoc, this]
          show (if ds.length + i < ds.length then η1 (ds.length + i) else η2 (ds.length + i - ds.length)) = _
          rw [if_neg (by omega), Nat.add_sub_cancel_left]
        refine ⟨⟨x, xs', us, rfl, h6, h2, h8⟩, ?_⟩
        have happ : ∀ (ds es : List D) (j : Nat), objL g η' j (ds ++ es) = objL g η' j ds ++ objL g η' (j + ds.length) es := by
          intro ds
          induction ds with
          | nil => intro es j; simp [objL]
          | cons d ds ih => intro es j; simp only [List.cons_append, objL, ih, List.append_assoc, List.length_cons]; rw [show j + 1 + ds.length = j + (ds.length + 1) by omega]
        have hnew : ∀ (l m : List (Nat × Ob)) (S1 S2 : List Nat), NewRel B w' l S1 → NewRel B w' m S2 → NewRel B w' (l ++ m) (S1 ++ S2) := by
          intro l
          induction l with
          | nil => intro m S1 S2 k1 k2; rw [show S1 = [] from k1]; exact k2
          | cons q l ih => intro m S1 S2 k1 k2; obtain ⟨T1, T2, rfl, k3, k4⟩ := k1; exact ⟨T1, T2 ++ S2, by simp, k3, ih m T2 S2 k4 k2⟩
        simp only [List.flatMap_cons, happ]
        exact hnew _ _ _ _ h7 h9
    obtain ⟨η, h1⟩ := key2 l xs S 0 hr
    obtain ⟨h2, h3⟩ := h1 η fun i _ => by rw [Nat.zero_add]
    exact ⟨η, ⟨xs, rfl, h2⟩, h3⟩
theorem call_goes (h : RelF B w0 N s a w F) {f : Nat} {vs : List View} {xs : List Value} (hrun : (execOp a.eval o).run P w = .ok (.enter f xs.toArray) w) (hp : Pure P f vs rt) (hv : ViewsRel w vs xs)
    (hG : ∀ st : Stamp, G (rt.av (100 * d) st.η) (objL (100 * d) st.η 0 rt.flat)) : Goes P o a w (Yields_ B w G) := by
  intro next Q hk
  unfold Oper.wp
  rw [hrun]
  refine (hp.2 w xs hv).mono fun e w' ⟨v, S, he, hr, hf, hb⟩ => ?_
  subst he
  obtain ⟨η, h1, h2⟩ := ret_rel (B := B) (100 * d) hr
  exact hk v w' ⟨_, _, S, h1, h2, hf, hb, hG ⟨0, η⟩⟩
theorem RelF.bare (h : RelF B w0 N s a w F) : RelF B w 0 (.only s.o) Act.bare w F :=
  ⟨Below.refl _ _, Nat.le_trans h.hB h.below.size, rfl, rfl, fun _ => trivial, h.ob, h.fr, h.dj⟩
theorem argv_rel (h : RelF B w0 N s a w F) : ∀ {args : List Operand} {xs : List X} {caps : List A0} {cs : List Value}, compXs args = some xs → A0RelL B w caps cs → VRelL B w (xs.map s.ev ++ caps.map .c) (args.map a.eval ++ cs)
  | [], xs, caps, cs, h1, h2 => by
    simp [compXs] at h1; subst h1
    have key : ∀ (caps : List A0) (cs : List Value), A0RelL B w caps cs → VRelL B w (caps.map .c) cs := by
      intro caps
      induction caps with
      | nil => intro cs k1; exact k1
      | cons x l ih => intro cs k1; obtain ⟨u, us', rfl, k3, k4⟩ := k1; exact ⟨u, us', rfl, k3, ih us' k4⟩
    exact key caps cs h2
  | x :: args, xs, caps, cs, h1, h2 => by
    simp only [compXs] at h1
    split at h1
    · rename_i x' xs' k1 k2
      simp at h1; subst h1
      exact ⟨a.eval x, _, rfl, ev_rel h k1, argv_rel h k2 h2⟩
    · simp at h1
theorem run_enter {f : Nat} {c : Call} {cs xs : List Value} (hn : Named P f) (ho : o.op = .call c) {y : Operand} (hc : c.callee = .value y) (hy : a.eval y = .func (.func f) #[] cs.toArray) (hx : c.args.toList.map a.eval = xs) :
    (execOp a.eval o).run P w = .ok (.enter f (xs ++ cs).toArray) w := by
  obtain ⟨fn, hfn, hb, hname⟩ := hn
  have hbn : ¬ fn.body = none := by intro hq; simp [hq] at hb
  have hne : ¬ fn.name = "runtime.NumGoroutine" := by simpa using hname
  have hargs : c.args.map a.eval = xs.toArray := by rw [← hx, ← Array.toList_map, Array.toArray_toList]
  simp [execOp, ho, resolve, hc, hy, hargs, Deferred.ofValue, invoke, callFunc, hfn, hbn, hne]
theorem go_call (h : RelF B w0 N s a w F) {c : Call} {f : Nat} {xs : List X} (ho : o.op = .call c) (hc : c.callee = .value (.func f)) (hxs : compXs c.args.toList = some xs)
    (hg : ∀ st, ∃ av os, Gen P s d rt st (.call f xs) av os ∧ G av os) : Goes P o a w (Yields_ B w G) := by
  obtain ⟨_, _, ⟨vs, h1, h2, _, _⟩, _⟩ := hg ⟨0, fun _ _ => undef⟩
  have hv := args_rel (caps := []) (cs := []) h hxs rfl (by simpa using h1)
  exact call_goes (d := d) h (run_enter (cs := []) h2.1 ho hc rfl rfl) h2 hv fun st => by
    obtain ⟨_, _, ⟨_, _, _, rfl, rfl⟩, hG⟩ := hg st
    exact hG
theorem go_callv (h : RelF B w0 N s a w F) {c : Call} {t : Nat} {xs : List X} (ho : o.op = .call c) (hc : c.callee = .value (.tmp t)) (hxs : compXs c.args.toList = some xs)
    (hg : ∀ st, ∃ av os, Gen P s d rt st (.callv (.t t) xs) av os ∧ G av os) : Goes P o a w (Yields_ B w G) := by
  obtain ⟨_, _, ⟨f, caps, vs, h0, h1, h2, _, _⟩, _⟩ := hg ⟨0, fun _ _ => undef⟩
  have hvf := h.sl t
  rw [show s.t t = .fn f caps from h0] at hvf
  obtain ⟨cs, k1, k2⟩ := hvf
  have hv := args_rel h hxs k2 h1
  exact call_goes (d := d) h (run_enter h2.1 ho hc k1 rfl) h2 hv fun st => by
    obtain ⟨_, _, ⟨f', caps', vs', h0', h1', h2', rfl, rfl⟩, hG⟩ := hg st
    exact hG
end
end Go.Proofs.Ytbplebgnkhmemaa
