/- The engine: slices, structs by value, calls. No program. -/
import Derived.Test.YtbplebgnkhmemaaE4b
set_option linter.unusedSimpArgs false
set_option linter.unusedVariables false
namespace Go.Proofs.Ytbplebgnkhmemaa
open Go.RowKit Go.Sort

section
variable {P : Program} {B N : Nat} {w w0 : World} {s : St} {a : Act} {F : Nat → List Nat} {o : Oper} {G : AV → List (Nat × Ob) → Prop} {d : Nat} {rt : RT}

/-! ### x[lo:hi] -/
theorem run_bounds {isSl : Bool} {len cap l h : Nat} {lo hi : Option Value} (hl : (lo = none ∧ l = 0) ∨ ∃ k, lo = some (.int k (l : Int))) (hh : (hi = none ∧ h = len) ∨ ∃ k, hi = some (.int k (h : Int))) (h1 : l ≤ h) (h2 : h ≤ cap) :
    (Instr.sliceBounds isSl len cap lo hi none).run P w = .ok (l, h, cap) w := by
  have e1 : (l : Int) ≤ (h : Int) := by omega
  have e2 : (h : Int) ≤ (cap : Int) := by omega
  rcases hl with ⟨rfl, rfl⟩ | ⟨k, rfl⟩ <;> rcases hh with ⟨rfl, rfl⟩ | ⟨k', rfl⟩ <;> simp [Instr.sliceBounds, Instr.sliceBound, asIntOf, h1, h2]
theorem bound_rel (h : RelF B w0 N s a w F) {x : Option Operand} {x' : Option X} {dflt n : Nat} (hx : (x = none ∧ x' = none) ∨ ∃ y y', x = some y ∧ x' = some y' ∧ compX y = some y') (hb : bound s x' dflt n) :
    (x.map a.eval = none ∧ n = dflt) ∨ ∃ k, x.map a.eval = some (.int k (n : Int)) := by
  rcases hx with ⟨rfl, rfl⟩ | ⟨y, y', rfl, rfl, h1⟩
  · exact .inl ⟨rfl, hb⟩
  · obtain ⟨k, h2⟩ := hb
    exact .inr ⟨k, by simp [ev_v h h1 h2]⟩
theorem go_sl_str (h : RelF B w0 N s a w F) {t : TypeId} {x : Operand} {x' : X} {lo hi : Option Operand} {lo' hi' : Option X} (ho : o.op = .slice t x lo hi none) (ht : P.underlying t = some .string) (hx : compX x = some x')
    (hlo : (lo = none ∧ lo' = none) ∨ ∃ y y', lo = some y ∧ lo' = some y' ∧ compX y = some y') (hhi : (hi = none ∧ hi' = none) ∨ ∃ y y', hi = some y ∧ hi' = some y' ∧ compX y = some y')
    (hg : ∀ st, ∃ av os, Gen P s d rt st (.sl 0 x' lo' hi') av os ∧ G av os) : Goes P o a w (Yields_ B w G) := by
  obtain ⟨av, os, ⟨l, hh, h1, h2, h3, rfl⟩, hG⟩ := hg ⟨0, fun _ _ => undef⟩
  split at h3
  · rename_i b he
    obtain ⟨_, h4, h5, rfl⟩ := h3
    have hb := run_bounds (P := P) (w := w) (isSl := false) (bound_rel h hlo h1) (bound_rel h hhi h4) h2 h5
    refine same_ (v := .string (b.extract l hh)) ?_ (by exact rfl) hG
    simp [execOp, ho, Instr.sliceAt, run_underlying ht, Instr.slice, ev_v h hx he, hb]
  · rename_i dd he
    exact absurd h3.1 (by omega)
  · rename_i dd he
    exact absurd h3.1 (by omega)
  · exact h3.elim
theorem go_sl_ro (h : RelF B w0 N s a w F) {t e : TypeId} {x : Operand} {x' : X} {lo hi : Option Operand} {lo' hi' : Option X} {m : Nat} (ho : o.op = .slice t x lo hi none) (ht : P.underlying t = some (.slice e)) (hm : sizeAt P e = some (m + 1)) (hx : compX x = some x')
    (hlo : (lo = none ∧ lo' = none) ∨ ∃ y y', lo = some y ∧ lo' = some y' ∧ compX y = some y') (hhi : (hi = none ∧ hi' = none) ∨ ∃ y y', hi = some y ∧ hi' = some y' ∧ compX y = some y')
    (hg : ∀ st, ∃ av os, Gen P s d rt st (.sl (m + 1) x' lo' hi') av os ∧ G av os) : Goes P o a w (Yields_ B w G) := by
  obtain ⟨av, os, ⟨l, hh, h1, h2, h3, rfl⟩, hG⟩ := hg ⟨0, fun _ _ => undef⟩
  have hv := ev_rel h hx
  obtain ⟨inf, hinf, hsz⟩ := size_of hm
  split at h3
  · rename_i b he
    exact absurd h3.1 (by omega)
  · rename_i dd he
    obtain ⟨_, k1, k2, h4, h5, rfl⟩ := h3
    rw [he] at hv
    obtain ⟨_, S, k3, k4⟩ := hv
    cases dd with
    | val _ => cases k1
    | sl size ty cs =>
      have k2' : size = m + 1 := k2
      subst k2'
      obtain ⟨A, n, c, vs, S', hu, k5, _, _, k6, _⟩ := rep_read k3
      have hlen := len_sl (ty := ty) (by omega : 0 < m + 1) k5
      rw [hlen] at h4 h5
      rw [hu] at k3
      obtain ⟨S2, k7, k8⟩ := rep_sub (by omega) k3 k4 h2 h5
      have hb := run_bounds (P := P) (w := w) (isSl := true) (len := n) (cap := c) (bound_rel h hlo h1) (bound_rel h hhi h4) h2 (by omega)
      refine same_ (v := .slice (if c = l then A else A.map (·.add (l * (m + 1)))) (hh - l) (c - l)) ?_ (by exact ⟨rfl, S2, k7, k8⟩) hG
      simp [execOp, ho, Instr.sliceAt, run_underlying ht, Instr.slice, hu, hb, sizeOf, typeInfo, hinf, hsz]
  · rename_i g c p hx' he
    obtain ⟨_, ⟨dd, ⟨d0, η, k1, k2, k3, k4⟩, k5, h4, h5⟩, rfl⟩ := h3
    rw [he] at hv
    have hv : a.eval x = hx' := hv.1
    obtain ⟨S, k6, _⟩ := path_open h k1 k2 k3 k4
    cases dd with
    | val _ => cases k4
    | sl size ty cs =>
      have k5' : size = m + 1 := k5
      subst k5'
      obtain ⟨A, n, c, vs, S', hu, k7, _⟩ := rep_read k6.ro
      have hlen := len_sl (ty := ty) (by omega : 0 < m + 1) k7
      rw [hlen] at h4 h5
      obtain ⟨A2, n2, c2, _, _, hu2, _, _, _, hnc, _⟩ := rep_read k6.ro
      rw [hu] at hu2
      cases hu2
      have hb := run_bounds (P := P) (w := w) (isSl := true) (len := n) (cap := c) (bound_rel h hlo h1) (bound_rel h hhi h4) h2 (by omega)
      refine same_ (v := subV hx' (m + 1) l (hh - l)) ?_ (by exact ⟨rfl, by rw [hu]; rfl⟩) hG
      simp [execOp, ho, Instr.sliceAt, run_underlying ht, Instr.slice, hv, hu, hb, sizeOf, typeInfo, hinf, hsz, subV]
  · exact h3.elim

/-! ### Structs by value -/
theorem setAt_len {α : Type} : ∀ (l : List α) (cs : List α) (k : Nat), (setAt cs k l).length = cs.length
  | [], _, _ => rfl
  | x :: l, cs, k => by rw [setAt, setAt_len l]; simp
theorem A0RelL.set : ∀ {l : List A0} {us : List Value} {k : Nat} {a0 : A0} {u : Value}, A0RelL B w l us → A0Rel B w a0 u → A0RelL B w (l.set k a0) (us.set k u)
  | [], us, _, _, _, h, _ => by rw [show us = [] from h]; rfl
  | _ :: _, _, 0, _, u, ⟨u', us', h1, h2, h3⟩, hu => by subst h1; exact ⟨u, us', rfl, hu, h3⟩
  | _ :: _, _, k + 1, _, _, ⟨u', us', h1, h2, h3⟩, hu => by subst h1; exact ⟨u', _, rfl, h2, A0RelL.set h3 hu⟩
theorem A0RelL.setAt_ : ∀ {m : List A0} {xs : List Value} {l : List A0} {us : List Value} {k : Nat}, A0RelL B w l us → A0RelL B w m xs → A0RelL B w (setAt l k m) (setAt us k xs)
  | [], xs, _, _, _, h, hm => by rw [show xs = [] from hm]; exact h
  | _ :: _, _, _, _, k, h, ⟨u', us', h1, h2, h3⟩ => by subst h1; have := A0RelL.setAt_ (k := k + 1) (h.set (k := k) h2) h3; exact this
theorem fold_setAt (off : Nat) : ∀ (xs : List Value) (k : Nat) (us : List Value), (xs.zipIdx k).foldl (fun cs (p : Value × Nat) => cs.setIfInBounds (off + p.2) p.1) us.toArray = (setAt us (off + k) xs).toArray
  | [], _, _ => rfl
  | x :: xs, k, us => by
    rw [List.zipIdx_cons, List.foldl_cons, setAt]
    have : us.toArray.setIfInBounds (off + k) x = (us.set (off + k) x).toArray := by simp
    simp only [this]
    rw [fold_setAt off xs (k + 1) _]
    rfl
theorem fill_rel (h : RelF B w0 N s a w F) {place : Nat → Option (Nat × Nat)} : ∀ {parts : List (Nat × Operand)} {ps : List (Nat × Nat × X)} {l l' : List A0} {us : List Value}, compPs place parts = some ps → A0RelL B w l us → fillA s l ps = some l' →
    ∃ us' : List Value, Instr.fill place us.toArray (parts.map fun p => (p.1, a.eval p.2)) = some us'.toArray ∧ A0RelL B w l' us'
  | [], ps, l, l', us, h1, h2, h3 => by
    simp [compPs] at h1; subst h1
    simp [fillA] at h3; subst h3
    exact ⟨us, rfl, h2⟩
  | (i, x) :: parts, ps, l, l', us, h1, h2, h3 => by
    simp only [compPs] at h1
    split at h1
    · rename_i off n x' ps' k1 k2 k3
      simp at h1; subst h1
      simp only [fillA] at h3
      split at h3
      · rename_i m k4
        split at h3
        · rename_i k5
          obtain ⟨xs, k6, k7⟩ := VRel.cells (ev_rel h k2) k4
          obtain ⟨us', k8, k9⟩ := fill_rel h k3 (h2.setAt_ k7 (k := off)) h3
          refine ⟨us', ?_, k9⟩
          have hxl := A0RelL.len k7
          have hul := A0RelL.len h2
          have e1 : ¬ (xs.length ≠ n ∨ us.length < off + xs.length) := by omega
          have e2 := fold_setAt off xs 0 us
          simp only [Nat.add_zero] at e2
          simp only [List.map_cons, Instr.fill, k1, k6]
          rw [if_neg (by simpa using e1)]
          rw [← Array.foldl_toList, Array.toList_zipIdx]
          rw [show (xs.toArray.toList.zipIdx 0) = xs.zipIdx 0 from rfl, e2]
          exact k8
        · simp at h3
      · simp at h3
    · simp at h1
theorem go_bld (h : RelF B w0 N s a w F) {t : TypeId} {parts : Array (Nat × Operand)} {fs : Array Field} {zs : List Value} {ps : List (Nat × Nat × X)} (ho : o.op = .build t parts) (ht : P.underlying t = some (.struct fs)) (hz : zeroOf P t = some zs)
    (hall : (fs.toList.all fun f => (P.info? f.type).isSome) = true) (hps : compPs (fun i => match fs[i]? with | some f => (sizeAt P f.type).map fun n => (f.offset, n) | none => none) parts.toList = some ps)
    (hg : ∀ st, ∃ av os, Gen P s d rt st (.bld zs ps) av os ∧ G av os) : Goes P o a w (Yields_ B w G) := by
  obtain ⟨av, os, ⟨l, h1, rfl, rfl⟩, hG⟩ := hg ⟨0, fun _ _ => undef⟩
  unfold zeroOf at hz
  split at hz
  · rename_i i hi
    split at hz
    · rename_i z hzz
      split at hz
      · simp at hz; subst hz
        have hzr : ∀ l : List Value, A0RelL B w (l.map .v) l := by
          intro l
          induction l with
          | nil => rfl
          | cons x l ih => exact ⟨x, l, rfl, rfl, ih⟩
        have hpl : ∀ l : List Field, (l.all fun f => (P.info? f.type).isSome) = true → l.mapM (fun f => (P.info? f.type).map fun i => (f.offset, i.size)) = some (l.map fun f => (f.offset, (sizeAt P f.type).getD 0)) := by
          intro l
          induction l with
          | nil => intro _; rfl
          | cons f l ih =>
            intro hl
            simp only [List.all_cons, Bool.and_eq_true] at hl
            obtain ⟨j, hj⟩ := Option.isSome_iff_exists.1 hl.1
            rw [List.mapM_cons, ih hl.2]
            simp [hj, sizeAt]
        have hplace : (fun (i : Nat) => match fs[i]? with | some f => (sizeAt P f.type).map fun n => (f.offset, n) | none => none) = fun i => ((fs.toList.map fun (f : Field) => (f.offset, (sizeAt P f.type).getD 0)).toArray[i]?) := by
          funext j
          cases hj : fs[j]? with
          | none => simp [hj]
          | some f =>
            have hm : f ∈ fs.toList := by simpa using Array.mem_of_getElem? hj
            obtain ⟨k, hk⟩ := Option.isSome_iff_exists.1 (List.all_eq_true.1 hall f hm)
            simp [hj, sizeAt, hk]
        obtain ⟨us', k1, k2⟩ := fill_rel h hps (hzr z.cells.toList) h1
        refine same_ (v := .agg us'.toArray) ?_ (by exact ⟨us', rfl, k2⟩) hG
        have hb : P.built t (parts.map fun (p : Nat × Operand) => (p.1, a.eval p.2)).toList = some us'.toArray := by
          unfold Program.built
          simp only [hi, ht, hzz, hpl _ hall]
          rw [← hplace, Array.toList_map]
          simpa using k1
        have := run_build w t _ _ hb
        simp only [execOp, ho]
        rw [Sem.run_bind, this]
        rfl
      · simp at hz
    · simp at hz
  · simp at hz
end
end Go.Proofs.Ytbplebgnkhmemaa
