/- Texts for the law FnExactRestart. -/
import Derived.Test.YtnhdcbhcocgjhaaGreatQRestartA
import Derived.Lib.AppendStr
import Derived.LoopN
set_option linter.unusedSimpArgs false
set_option linter.unusedVariables false
namespace Go.Proofs.YtnhdcbhcocgjhaaGreat
open Go.RowKit Go.Sort

section
variable {P : Program} {B N : Nat} {w w0 : World} {s : St} {a : Act} {F : Nat → List Nat} {o : Oper} {G : AV → List (Nat × Ob) → Prop} {d : Nat} {rt : RT}
theorem run_int {op : BinOp} {t : TypeId} {k k' : IntKind} {m n : Int} (h : intOk op k k' n) : (binOp op t (.int k m) (.int k' n)).run P w = .ok (intBin op k m n) w := by
  cases op with
  | shl => have h : 0 ≤ n := h; have h' : ¬ n < 0 := by omega
           simp [binOp, Op.shift, h', intBin]
  | shr => have h : 0 ≤ n := h; have h' : ¬ n < 0 := by omega
           simp [binOp, Op.shift, h', intBin]
  | quo => obtain ⟨rfl, h⟩ := h
           simp [binOp, Op.intDiv, h, intBin]
  | rem => obtain ⟨rfl, h⟩ := h
           simp [binOp, Op.intDiv, h, intBin]
  | _ =>
    obtain rfl : k = k' := h
    simp [binOp, Op.intArith, Op.intBits, Op.intCmp, intBin]
theorem go_bin (h : RelF B w0 N s a w F) {op : BinOp} {t t' : TypeId} {x y : Operand} {x' y' : X} (ho : o.op = .binOp op t x y t') (hx : compX x = some x') (hy : compX y = some y')
    (hg : ∀ st, ∃ av os, Gen P s d rt st (.bin op t x' y') av os ∧ G av os) : Goes P o a w (Yields_ B w G) := by
  obtain ⟨av, os, ⟨h1, rfl⟩, hG⟩ := hg ⟨0, fun _ _ => undef⟩
  rcases h1 with ⟨u, v, r, h2, h3, h4, rfl⟩ | ⟨l, m, xs, ys, b, h2, h3, h4, h5, h6, rfl⟩
  · have e1 := ev_v h hx h2
    have e2 := ev_v h hy h3
    refine same_ (v := r) ?_ (by exact rfl) hG
    unfold BinR at h4
    split at h4
    · obtain ⟨h5, rfl⟩ := h4
      have hr := fun m => run_int (P := P) (w := w) (t := t) (m := m) h5
      cases op <;> simp [execOp, ho, e1, e2, eqGuard, hr]
    · split at h4
      · obtain ⟨h5, rfl⟩ := h4
        unfold maxLen at h5
        rename_i b1 b2 _
        have h6 : ¬ ((9223372036854775807 : Int) < (b1.size : Int) + (b2.size : Int)) := by omega
        simp [execOp, ho, e1, e2, eqGuard, binOp, Op.stringOp, IntKind.max, h6]
        simp [IntKind.signed, IntKind.bits]
        omega
      · subst h4
        simp [execOp, ho, e1, e2, eqGuard, binOp, Op.stringOp]
      · subst h4
        simp [execOp, ho, e1, e2, eqGuard, binOp, Op.stringOp]
      · exact h4.elim
    · exact h4.elim
  · have hv1 := ev_rel h hx
    have hv2 := ev_rel h hy
    rw [h2] at hv1
    rw [h3] at hv2
    obtain ⟨us, e1, k1⟩ := hv1
    obtain ⟨vs, e2, k2⟩ := hv2
    have key : ∀ (l : List A0) (us xs : List Value), A0RelL B w l us → valsOf l = some xs → us = xs := by
      intro l
      induction l with
      | nil => intro us xs k1 k2; simp [valsOf] at k2; subst k2; exact k1
      | cons a0 l ih =>
        intro us xs k1 k2
        obtain ⟨u, us', rfl, k3, k4⟩ := k1
        cases a0 with
        | v x =>
          simp only [valsOf] at k2
          split at k2
          · simp at k2; subst k2
            rw [show u = x from k3, ih us' _ k4 (by assumption)]
          · simp at k2
        | _ => simp [valsOf] at k2
    obtain rfl := key l us xs k1 h4
    obtain rfl := key m vs ys k2 h5
    obtain ⟨h7, h8⟩ := h6 w
    refine same_ (v := .bool b) ?_ (by exact rfl) hG
    simp [execOp, ho, e1, e2, h7, h8]
theorem go_num (h : RelF B w0 N s a w F) {t t' : TypeId} {x : Operand} {x' : X} {k0 k : IntKind} {e : Nat} (ho : o.op = .convert t t' x) (ht : P.underlying t = some (.int k0)) (ht' : P.underlying t' = some (.int k)) (hx : compX x = some x')
    (hg : ∀ st, ∃ av os, Gen P s d rt st (.cv (.num k) e x') av os ∧ G av os) : Goes P o a w (Yields_ B w G) := by
  obtain ⟨av, os, ⟨⟨k', n, h1, rfl⟩, rfl⟩, hG⟩ := hg ⟨0, fun _ _ => undef⟩
  refine same_ (v := .int k (k.wrap n)) ?_ (by exact rfl) hG
  simp [execOp, ho, convert, run_underlying ht, run_underlying ht', ev_v h hx h1, Conv.intToInt]
theorem go_text (h : RelF B w0 N s a w F) {t t' e : TypeId} {x : Operand} {x' : X} (ho : o.op = .convert t t' x) (ht : P.underlying t = some (.slice e)) (he : P.underlying e = some (.int .u8)) (ht' : P.underlying t' = some .string) (hx : compX x = some x')
    (hg : ∀ st, ∃ av os, Gen P s d rt st (.cv .text e x') av os ∧ G av os) : Goes P o a w (Yields_ B w G) := by
  obtain ⟨av, os, ⟨⟨a0, ty, bs, h1, h2, rfl⟩, rfl⟩, hG⟩ := hg ⟨0, fun _ _ => undef⟩
  have hv := ev_rel h hx
  rw [h1] at hv
  obtain ⟨S, h3⟩ := is_rep h hv h2
  obtain ⟨A, n, c, vs, S', hu, h4, h5, _, _, _, h6, h7⟩ := rep_read h3
  simp only [List.length_map, Nat.mul_one] at h4
  subst h4
  refine same_ (v := .string ⟨bs.toArray⟩) ?_ (by exact rfl) hG
  have hvs : vs = bs.map fun b => .int .u8 (b.toNat : Int) := by
    have key : ∀ (bs : List UInt8) (vs : List Value) (S : List Nat), RepL w false (bs.map byteVal) vs S → vs = bs.map fun b => .int .u8 (b.toNat : Int) := by
      intro bs
      induction bs with
      | nil => intro vs S h; exact h.1
      | cons b bs ih =>
        intro vs S h
        obtain ⟨v, vs', S1, S2, rfl, _, k1, k2⟩ := h
        rw [List.map_cons, ← ih vs' S2 k2, show v = .int .u8 (b.toNat : Int) from k1.1]
    exact key bs vs S' h5
  have hrun : (convert t t' (.slice A bs.length c)).run P w = .ok (.string ⟨bs.toArray⟩) w := by
    cases A with
    | none =>
      have := h6 rfl
      subst this
      have hn : bs = [] := by
        cases bs with
        | nil => rfl
        | cons b bs =>
          obtain ⟨_, _, k1, _⟩ := h7 (by rw [hvs]; simp)
          cases k1
      subst hn
      exact run_convert_bytes_nil w t e ht he _ _ t' ht'
    | some ad =>
      by_cases hne : bs = []
      · subst hne
        rw [run_convert_bytes_string w t t' e _ _ _ ht he ht', run_bytesToString w _ _ _ [] (by simp [loadCells, loadCellsFrom])]
        simp
        rfl
      · obtain ⟨b, off, hA, _, h8⟩ := h7 (by rw [hvs]; simpa using hne)
        cases hA
        rw [run_convert_bytes_string w t t' e _ _ _ ht he ht', run_bytesToString w _ _ _ (bs.map fun b => (b.toNat : Int)) ?_]
        · rw [foldl_push_bytes]
          simp [ByteArray.empty, ByteArray.emptyWithCapacity]
          show [] ++ _ = _
          rw [List.nil_append]
          conv => rhs; rw [← List.map_id bs]
          exact List.map_congr_left fun b _ => by simp
        · have := run_loadCells_list (P := P) w ⟨b, off, none⟩ vs (fun j v hj => by rw [ptr_add]; exact h8 j v hj)
          rw [hvs] at this
          simpa [Function.comp_def] using this
  simp only [execOp, ho, hu, Sem.run_bind, hrun, Result.andThen]
  rfl
theorem nilD_rep (k : Option (Nat × Nat)) (x : Value) : Rep w true (nilD k x) x [] := by
  unfold nilD
  split
  · exact Rep.nil_ _ _ _
  · exact ⟨rfl, rfl⟩
theorem nil_rep : ∀ (ks : List (Option (Nat × Nat))) (l : List Value), RepL w true (nilL ks l) l []
  | _, [] => ⟨rfl, rfl⟩
  | ks, x :: l => ⟨x, l, [], [], rfl, rfl, nilD_rep _ _, nil_rep ks.tail l⟩
theorem go_mks (h : RelF B w0 N s a w F) {t e : TypeId} {l c : Operand} {l' c' : X} {i : TypeInfo} {zs : List Value} {ks : List (Option (Nat × Nat))} (ho : o.op = .makeSlice t l c) (ht : P.underlying t = some (.slice e)) (hi : P.info? e = some i) (hz : zeroOf P e = some zs) (hs : 0 < i.size) (hl : compX l = some l') (hc : compX c = some c')
    (hg : ∀ st, ∃ av os, Gen P s d rt st (.mks e i.size i.bytes (nilL ks zs) l' c') av os ∧ G av os) : Goes P o a w (Yields_ B w G) := by
  obtain ⟨_, _, ⟨k, k', n, h1, h2, h3, h4, _⟩, _⟩ := hg ⟨0, fun _ _ => undef⟩
  unfold zeroOf at hz
  rw [hi] at hz
  simp only at hz
  split at hz
  · rename_i z hzz
    split at hz
    · rename_i hcc
      simp only [Bool.and_eq_true, decide_eq_true_eq] at hcc
      simp at hz; subst hz
      obtain ⟨w', hr, r1, r2⟩ := run_make_full (P := P) w 0 t e i z i.size ht hi hzz rfl k k' n h3 h4 (Nat.zero_le _)
      obtain ⟨av, os, ⟨k2, k2', n2, h1', h2', _, _, rfl, rfl⟩, hG⟩ := hg ⟨0, fun _ p => hdr w' p (.sl i.size e ((List.replicate n (nilL ks z.cells.toList)).flatten)) (.slice (some ⟨w.heap.size, 0, none⟩) n n)⟩
      rw [h1] at h1'
      have hnn : n = n2 := by
        have := h1'
        simp at this
        omega
      subst hnn
      have hrun : (execOp a.eval o).run P w = .ok (.value (.slice (some ⟨w.heap.size, 0, none⟩) n n)) w' := by
        simp [execOp, ho, ev_v h hl h1, ev_v h hc h2, hr]
      have hrep : Rep w' true (.sl i.size e ((List.replicate n (nilL ks z.cells.toList)).flatten)) (.slice (some ⟨w.heap.size, 0, none⟩) n n) [w.heap.size] := by
        have h5 : (madeCells z.cells (n * i.size)).toList = (List.replicate n z.cells.toList).flatten := by
          apply List.ext_getElem?
          intro j
          by_cases hj : j < n * i.size
          · rw [replicate_flat (by simp [hcc.1]) hs n j hj]
            simp [madeCells, hj, hcc.1]
            rw [Array.getElem?_eq_getElem (by rw [hcc.1]; exact Nat.mod_lt _ hs)]
            simp only [Option.some.injEq]
            exact getElem!_pos _ _ _
          · rw [List.getElem?_eq_none (by simp [madeCells]; omega), List.getElem?_eq_none (by simp [hcc.1]; omega)]
        rw [h5] at r1
        have key : ∀ (n : Nat), RepL w' true (List.replicate n (nilL ks z.cells.toList)).flatten (List.replicate n z.cells.toList).flatten [] := by
          intro n
          induction n with
          | zero => exact ⟨rfl, rfl⟩
          | succ n ih =>
            simp only [List.replicate_succ, List.flatten_cons]
            have := RepL.append_ (nilL ks z.cells.toList) (nil_rep (w := w') ks z.cells.toList) ih
            simpa using this
        exact ⟨_, [w.heap.size], [], ⟨n, r1, rfl⟩, key _, rfl⟩
      have hn : NewRel B w' [(100 * d, .loose (.sl i.size e ((List.replicate n (nilL ks z.cells.toList)).flatten)) (fun p => hdr w' p (.sl i.size e ((List.replicate n (nilL ks z.cells.toList)).flatten)) (.slice (some ⟨w.heap.size, 0, none⟩) n n)))] [w.heap.size] :=
        ⟨[w.heap.size], [], rfl, ⟨rfl, _, hrep, fun _ => rfl⟩, rfl⟩
      exact mk_ hrun (by exact ⟨rfl, rfl⟩) hn (Fresh.one _ _ (Nat.le_refl _)) (bl_grown0 r2) hG
    · simp at hz
  · simp at hz
theorem go_ext (h : RelF B w0 N s a w F) {x : Operand} {x' : X} {i : Nat} (ho : o.op = .extract x i) (hx : compX x = some x') (hg : ∀ st, ∃ av os, Gen P s d rt st (.ext x' i) av os ∧ G av os) : Goes P o a w (Yields_ B w G) := by
  obtain ⟨av, os, ⟨l, b, as, h1, h2, h3, rfl⟩, hG⟩ := hg ⟨0, fun _ _ => undef⟩
  have hv := ev_rel h hx
  rw [h1] at hv
  obtain ⟨us, he, hr⟩ := hv
  have key : ∀ (l : List (Bool × List A0)) (us : List Value) (i : Nat), TRelL B w l us → l[i]? = some (b, as) → ∃ u xs, us[i]? = some u ∧ A0RelL B w as xs ∧ (if b then u = .agg xs.toArray else xs = [u]) := by
    intro l
    induction l with
    | nil => intro _ _ _ h; simp at h
    | cons x l ih =>
      intro us i hr hi
      obtain ⟨b', as'⟩ := x
      obtain ⟨u, us', xs, rfl, k1, k2, k3⟩ := hr
      cases i with
      | zero => simp at hi; obtain ⟨rfl, rfl⟩ := hi; exact ⟨u, xs, rfl, k1, k2⟩
      | succ i => exact ih us' i k3 (by simpa using hi)
  obtain ⟨u, xs, k1, k2, k3⟩ := key l us i hr h2
  refine same_ (v := u) (by simp [execOp, ho, he, Instr.extract, k1]) ?_ hG
  cases b with
  | true =>
    obtain rfl : av = .agg as := by simpa using h3
    exact ⟨xs, by simpa using k3, k2⟩
  | false =>
    obtain ⟨a0, rfl, rfl⟩ : ∃ a0, as = [a0] ∧ av = .c a0 := by simpa using h3
    obtain rfl : xs = [u] := by simpa using k3
    obtain ⟨u', us', k4, k5, _⟩ := k2
    cases k4
    exact k5
theorem go_mkf (h : RelF B w0 N s a w F) {f : Nat} {first caps : Array Operand} {l : List X} (ho : o.op = .makeFunc (.func f) first caps) (hf : first = #[]) (hc : compXs caps.toList = some l) (hg : ∀ st, ∃ av os, Gen P s d rt st (.mkf f l) av os ∧ G av os) : Goes P o a w (Yields_ B w G) := by
  obtain ⟨av, os, ⟨as, h1, rfl, rfl⟩, hG⟩ := hg ⟨0, fun _ _ => undef⟩
  have key : ∀ (cs : List Operand) (l : List X) (as : List A0), compXs cs = some l → capsOf s l = some as → A0RelL B w as (cs.map a.eval) := by
    intro cs
    induction cs with
    | nil => intro l as k1 k2; simp [compXs] at k1; subst k1; simp [capsOf] at k2; subst k2; rfl
    | cons c cs ih =>
      intro l as k1 k2
      simp only [compXs] at k1
      split at k1
      · rename_i c' l' k3 k4
        simp at k1; subst k1
        simp only [capsOf] at k2
        split at k2
        · rename_i a0 r k5 k6
          simp at k2; subst k2
          have := ev_rel h k3
          rw [k5] at this
          exact ⟨a.eval c, _, rfl, this, ih l' r k4 k6⟩
        · simp at k2
      · simp at k1
  refine same_ (v := .func (.func f) #[] (caps.map a.eval)) (by simp [execOp, ho, hf, Instr.makeFunc]) ?_ hG
  exact ⟨caps.toList.map a.eval, by rw [← Array.toList_map, Array.toArray_toList], key _ _ _ hc h1⟩
end
end Go.Proofs.YtnhdcbhcocgjhaaGreat
set_option linter.unusedSimpArgs false
set_option linter.unusedVariables false
namespace Go.Proofs.YtnhdcbhcocgjhaaGreat
open Go.RowKit Go.Sort

section
variable {P : Program} {B N : Nat} {w w0 : World} {s : St} {a : Act} {F : Nat → List Nat} {o : Oper} {G : AV → List (Nat × Ob) → Prop} {d : Nat} {rt : RT}

theorem run_bounds {isSl : Bool} {len cap l h : Nat} {lo hi : Option Value} (hl : (lo = none ∧ l = 0) ∨ ∃ k, lo = some (.int k (l : Int))) (hh : (hi = none ∧ h = len) ∨ ∃ k, hi = some (.int k (h : Int))) (h1 : l ≤ h) (h2 : h ≤ cap) :
    (Instr.sliceBounds isSl len cap lo hi none).run P w = .ok (l, h, cap) w := by
  have e1 : (l : Int) ≤ (h : Int) := by omega
  have e2 : (h : Int) ≤ (cap : Int) := by omega
  rcases hl with ⟨rfl, rfl⟩ | ⟨k, rfl⟩ <;> rcases hh with ⟨rfl, rfl⟩ | ⟨k', rfl⟩ <;> simp [Instr.sliceBounds, Instr.sliceBound, asIntOf, h1, h2]
theorem bound_rel (h : RelF B w0 N s a w F) {x : Option Operand} {x' : Option X} {dflt n : Nat} (hx : (x = none ∧ x' = none) ∨ ∃ y y', x = some y ∧ x' = some y' ∧ compX y = some y') (hb : bound s x' dflt n) :
    (x.map a.eval = none ∧ n = dflt) ∨ ∃ k, x.map a.eval = some (.int k (n : Int)) := by
  rcases hx with ⟨rfl, rfl⟩ | ⟨y, y', rfl, rfl, h1⟩
  · exact .inl ⟨rfl, hb⟩
  · obtain ⟨k, h2⟩ := hb
    exact .inr ⟨k, by simp [ev_v h h1 h2]⟩
theorem go_sl_str (h : RelF B w0 N s a w F) {t : TypeId} {x : Operand} {x' : X} {lo hi : Option Operand} {lo' hi' : Option X} (ho : o.op = .slice t x lo hi none) (ht : P.underlying t = some .string) (hx : compX x = some x')
    (hlo : (lo = none ∧ lo' = none) ∨ ∃ y y', lo = some y ∧ lo' = some y' ∧ compX y = some y') (hhi : (hi = none ∧ hi' = none) ∨ ∃ y y', hi = some y ∧ hi' = some y' ∧ compX y = some y')
    (hg : ∀ st, ∃ av os, Gen P s d rt st (.sl 0 x' lo' hi') av os ∧ G av os) : Goes P o a w (Yields_ B w G) := by
  obtain ⟨av, os, ⟨l, hh, h1, h2, h3, rfl⟩, hG⟩ := hg ⟨0, fun _ _ => undef⟩
  split at h3
  · rename_i b he
    obtain ⟨_, h4, h5, rfl⟩ := h3
    have hb := run_bounds (P := P) (w := w) (isSl := false) (bound_rel h hlo h1) (bound_rel h hhi h4) h2 h5
    refine same_ (v := .string (b.extract l hh)) ?_ (by exact rfl) hG
    simp [execOp, ho, Instr.sliceAt, run_underlying ht, Instr.slice, ev_v h hx he, hb]
  · rename_i dd he
    exact absurd h3.1 (by omega)
  · rename_i dd he
    exact absurd h3.1 (by omega)
  · exact h3.elim
theorem go_sl_ro (h : RelF B w0 N s a w F) {t e : TypeId} {x : Operand} {x' : X} {lo hi : Option Operand} {lo' hi' : Option X} {m : Nat} (ho : o.op = .slice t x lo hi none) (ht : P.underlying t = some (.slice e)) (hm : sizeAt P e = some (m + 1)) (hx : compX x = some x')
    (hlo : (lo = none ∧ lo' = none) ∨ ∃ y y', lo = some y ∧ lo' = some y' ∧ compX y = some y') (hhi : (hi = none ∧ hi' = none) ∨ ∃ y y', hi = some y ∧ hi' = some y' ∧ compX y = some y')
    (hg : ∀ st, ∃ av os, Gen P s d rt st (.sl (m + 1) x' lo' hi') av os ∧ G av os) : Goes P o a w (Yields_ B w G) := by
  obtain ⟨av, os, ⟨l, hh, h1, h2, h3, rfl⟩, hG⟩ := hg ⟨0, fun _ _ => undef⟩
  have hv := ev_rel h hx
  obtain ⟨inf, hinf, hsz⟩ := size_of hm
  split at h3
  · rename_i b he
    exact absurd h3.1 (by omega)
  · rename_i dd he
    obtain ⟨_, k1, k2, h4, h5, rfl⟩ := h3
    rw [he] at hv
    obtain ⟨_, S, k3, k4⟩ := hv
    cases dd with
    | val _ => cases k1
    | sl size ty cs =>
      have k2' : size = m + 1 := k2
      subst k2'
      obtain ⟨A, n, c, vs, S', hu, k5, _, _, k6, _⟩ := rep_read k3
      have hlen := len_sl (ty := ty) (by omega : 0 < m + 1) k5
      rw [hlen] at h4 h5
      rw [hu] at k3
      obtain ⟨S2, k7, k8⟩ := rep_sub (by omega) k3 k4 h2 h5
      have hb := run_bounds (P := P) (w := w) (isSl := true) (len := n) (cap := c) (bound_rel h hlo h1) (bound_rel h hhi h4) h2 (by omega)
      refine same_ (v := .slice (if c = l then A else A.map (·.add (l * (m + 1)))) (hh - l) (c - l)) ?_ (by exact ⟨rfl, S2, k7, k8⟩) hG
      simp [execOp, ho, Instr.sliceAt, run_underlying ht, Instr.slice, hu, hb, sizeOf, typeInfo, hinf, hsz]
  · rename_i g c p hx' he
    obtain ⟨_, ⟨dd, ⟨d0, η, k1, k2, k3, k4⟩, k5, h4, h5⟩, rfl⟩ := h3
    rw [he] at hv
    have hv : a.eval x = hx' := hv.1
    obtain ⟨S, k6, _⟩ := path_open h k1 k2 k3 k4
    cases dd with
    | val _ => cases k4
    | sl size ty cs =>
      have k5' : size = m + 1 := k5
      subst k5'
      obtain ⟨A, n, c, vs, S', hu, k7, _⟩ := rep_read k6.ro
      have hlen := len_sl (ty := ty) (by omega : 0 < m + 1) k7
      rw [hlen] at h4 h5
      obtain ⟨A2, n2, c2, _, _, hu2, _, _, _, hnc, _⟩ := rep_read k6.ro
      rw [hu] at hu2
      cases hu2
      have hb := run_bounds (P := P) (w := w) (isSl := true) (len := n) (cap := c) (bound_rel h hlo h1) (bound_rel h hhi h4) h2 (by omega)
      refine same_ (v := subV hx' (m + 1) l (hh - l)) ?_ (by exact ⟨rfl, by rw [hu]; rfl⟩) hG
      simp [execOp, ho, Instr.sliceAt, run_underlying ht, Instr.slice, hv, hu, hb, sizeOf, typeInfo, hinf, hsz, subV]
  · exact h3.elim

theorem setAt_len {α : Type} : ∀ (l : List α) (cs : List α) (k : Nat), (setAt cs k l).length = cs.length
  | [], _, _ => rfl
  | x :: l, cs, k => by rw [setAt, setAt_len l]; simp
theorem A0RelL.set : ∀ {l : List A0} {us : List Value} {k : Nat} {a0 : A0} {u : Value}, A0RelL B w l us → A0Rel B w a0 u → A0RelL B w (l.set k a0) (us.set k u)
  | [], us, _, _, _, h, _ => by rw [show us = [] from h]; rfl
  | _ :: _, _, 0, _, u, ⟨u', us', h1, h2, h3⟩, hu => by subst h1; exact ⟨u, us', rfl, hu, h3⟩
  | _ :: _, _, k + 1, _, _, ⟨u', us', h1, h2, h3⟩, hu => by subst h1; exact ⟨u', _, rfl, h2, A0RelL.set h3 hu⟩
theorem A0RelL.setAt_ : ∀ {m : List A0} {xs : List Value} {l : List A0} {us : List Value} {k : Nat}, A0RelL B w l us → A0RelL B w m xs → A0RelL B w (setAt l k m) (setAt us k xs)
  | [], xs, _, _, _, h, hm => by rw [show xs = [] from hm]; exact h
  | _ :: _, _, _, _, k, h, ⟨u', us', h1, h2, h3⟩ => by subst h1; have := A0RelL.setAt_ (k := k + 1) (h.set (k := k) h2) h3; exact this
theorem fold_setAt (off : Nat) : ∀ (xs : List Value) (k : Nat) (us : List Value), (xs.zipIdx k).foldl (fun cs (p : Value × Nat) => cs.setIfInBounds (off + p.2) p.1) us.toArray = (setAt us (off + k) xs).toArray
  | [], _, _ => rfl
  | x :: xs, k, us => by
    rw [List.zipIdx_cons, List.foldl_cons, setAt]
    have : us.toArray.setIfInBounds (off + k) x = (us.set (off + k) x).toArray := by simp
    simp only [this]
    rw [fold_setAt off xs (k + 1) _]
    rfl
theorem fill_rel (h : RelF B w0 N s a w F) {place : Nat → Option (Nat × Nat)} : ∀ {parts : List (Nat × Operand)} {ps : List (Nat × Nat × X)} {l l' : List A0} {us : List Value}, compPs place parts = some ps → A0RelL B w l us → fillA s l ps = some l' →
    ∃ us' : List Value, Instr.fill place us.toArray (parts.map fun p => (p.1, a.eval p.2)) = some us'.toArray ∧ A0RelL B w l' us'
  | [], ps, l, l', us, h1, h2, h3 => by
    simp [compPs] at h1; subst h1
    simp [fillA] at h3; subst h3
    exact ⟨us, rfl, h2⟩
  | (i, x) :: parts, ps, l, l', us, h1, h2, h3 => by
    simp only [compPs] at h1
    split at h1
    · rename_i off n x' ps' k1 k2 k3
      simp at h1; subst h1
      simp only [fillA] at h3
      split at h3
      · rename_i m k4
        split at h3
        · rename_i k5
          obtain ⟨xs, k6, k7⟩ := VRel.cells (ev_rel h k2) k4
          obtain ⟨us', k8, k9⟩ := fill_rel h k3 (h2.setAt_ k7 (k := off)) h3
          refine ⟨us', ?_, k9⟩
          have hxl := A0RelL.len k7
          have hul := A0RelL.len h2
          have e1 : ¬ (xs.length ≠ n ∨ us.length < off + xs.length) := by omega
          have e2 := fold_setAt off xs 0 us
          simp only [Nat.add_zero] at e2
          simp only [List.map_cons, Instr.fill, k1, k6]
          rw [if_neg (by simpa using e1)]
          rw [← Array.foldl_toList, Array.toList_zipIdx]
          rw [show (xs.toArray.toList.zipIdx 0) = xs.zipIdx 0 from rfl, e2]
          exact k8
        · simp at h3
      · simp at h3
    · simp at h1
theorem go_bld (h : RelF B w0 N s a w F) {t : TypeId} {parts : Array (Nat × Operand)} {fs : Array Field} {zs : List Value} {ps : List (Nat × Nat × X)} (ho : o.op = .build t parts) (ht : P.underlying t = some (.struct fs)) (hz : zeroOf P t = some zs)
    (hall : (fs.toList.all fun f => (P.info? f.type).isSome) = true) (hps : compPs (fun i => match fs[i]? with | some f => (sizeAt P f.type).map fun n => (f.offset, n) | none => none) parts.toList = some ps)
    (hg : ∀ st, ∃ av os, Gen P s d rt st (.bld zs ps) av os ∧ G av os) : Goes P o a w (Yields_ B w G) := by
  obtain ⟨av, os, ⟨l, h1, rfl, rfl⟩, hG⟩ := hg ⟨0, fun _ _ => undef⟩
  unfold zeroOf at hz
  split at hz
  · rename_i i hi
    split at hz
    · rename_i z hzz
      split at hz
      · simp at hz; subst hz
        have hzr : ∀ l : List Value, A0RelL B w (l.map .v) l := by
          intro l
          induction l with
          | nil => rfl
          | cons x l ih => exact ⟨x, l, rfl, rfl, ih⟩
        have hpl : ∀ l : List Field, (l.all fun f => (P.info? f.type).isSome) = true → l.mapM (fun f => (P.info? f.type).map fun i => (f.offset, i.size)) = some (l.map fun f => (f.offset, (sizeAt P f.type).getD 0)) := by
          intro l
          induction l with
          | nil => intro _; rfl
          | cons f l ih =>
            intro hl
            simp only [List.all_cons, Bool.and_eq_true] at hl
            obtain ⟨j, hj⟩ := Option.isSome_iff_exists.1 hl.1
            rw [List.mapM_cons, ih hl.2]
            simp [hj, sizeAt]
        have hplace : (fun (i : Nat) => match fs[i]? with | some f => (sizeAt P f.type).map fun n => (f.offset, n) | none => none) = fun i => ((fs.toList.map fun (f : Field) => (f.offset, (sizeAt P f.type).getD 0)).toArray[i]?) := by
          funext j
          cases hj : fs[j]? with
          | none => simp [hj]
          | some f =>
            have hm : f ∈ fs.toList := by simpa using Array.mem_of_getElem? hj
            obtain ⟨k, hk⟩ := Option.isSome_iff_exists.1 (List.all_eq_true.1 hall f hm)
            simp [hj, sizeAt, hk]
        obtain ⟨us', k1, k2⟩ := fill_rel h hps (hzr z.cells.toList) h1
        refine same_ (v := .agg us'.toArray) ?_ (by exact ⟨us', rfl, k2⟩) hG
        have hb : P.built t (parts.map fun (p : Nat × Operand) => (p.1, a.eval p.2)).toList = some us'.toArray := by
          unfold Program.built
          simp only [hi, ht, hzz, hpl _ hall]
          rw [← hplace, Array.toList_map]
          simpa using k1
        have := run_build w t _ _ hb
        simp only [execOp, ho]
        rw [Sem.run_bind, this]
        rfl
      · simp at hz
    · simp at hz
  · simp at hz
end
end Go.Proofs.YtnhdcbhcocgjhaaGreat
set_option linter.unusedSimpArgs false
set_option linter.unusedVariables false
namespace Go.Proofs.YtnhdcbhcocgjhaaGreat
open Go.RowKit Go.Sort

section
variable {P : Program} {B N : Nat} {w w0 : World} {s : St} {a : Act} {F : Nat → List Nat} {o : Oper} {G : AV → List (Nat × Ob) → Prop} {d : Nat} {rt : RT}
theorem isL_rep (h : RelF B w0 N s a w F) : ∀ {l : List A0} {us : List Value} {ds : List D}, A0RelL B w l us → IsL s l ds → ∃ S, RepL w false ds us S
  | [], us, [], h1, _ => ⟨[], h1, rfl⟩
  | [], _, _ :: _, _, h2 => h2.elim
  | _ :: _, _, [], _, h2 => h2.elim
  | _ :: _, _, _ :: _, ⟨u, us', h1, h3, h4⟩, ⟨h5, h6⟩ => by
    subst h1
    obtain ⟨S1, k1⟩ := is_rep h h3 h5
    obtain ⟨S2, k2⟩ := isL_rep h h4 h6
    exact ⟨S1 ++ S2, RepL.cons_ k1 k2⟩
theorem IsP.is {x : A0} {d : D} (h : IsP x d) : Is s x d := by cases x <;> first | exact h | exact h.elim
theorem box_cells (h : RelF B w0 N s a w F) {g b : Nat} : ∀ {l : List Cell} {us : List Value} {S : List Nat} {c : Nat} {ds : List D}, CRel B w l us S → Ptr.go s g b l c ds → ∃ S', RepL w false ds us S'
  | [], us, _, _, [], ⟨h1, _⟩, _ => ⟨[], h1, rfl⟩
  | [], _, _, _, _ :: _, _, h2 => h2.elim
  | .a _ :: _, _, _, _, [], _, h2 => h2.elim
  | .own _ _ :: _, _, _, _, [], _, h2 => h2.elim
  | .a x :: l, _, _, c, d :: ds, ⟨u, us', h1, h3, h4⟩, ⟨h5, h6⟩ => by
    subst h1
    obtain ⟨S1, k1⟩ := is_rep h h3 h5.is
    obtain ⟨S2, k2⟩ := box_cells h h4 h6
    exact ⟨S1 ++ S2, RepL.cons_ k1 k2⟩
  | .own d' η :: l, _, _, c, d :: ds, ⟨u, us', S1, S2, h1, h3, h4, h5, _, h6⟩, ⟨h7, h8⟩ => by
    subst h1 h7
    obtain ⟨S3, k2⟩ := box_cells h h6 h8
    exact ⟨S1 ++ S3, RepL.cons_ h5.ro k2⟩
theorem ptr_rel (h : RelF B w0 N s a w F) {x : A0} {u : Value} {ds : List D} (hr : A0Rel B w x u) (hp : Ptr s x ds) : ViewRel.CellsAt w ds u := by
  cases x with
  | rp ds' =>
    have hp : ds' = ds := hp
    subst hp
    obtain ⟨b, o', us, S, h1, h2, _, _, h5⟩ := hr
    exact ⟨b, o', us, S, h1, h2, h5⟩
  | bp g c b =>
    obtain ⟨ty, cs, h1, l, h2, h3⟩ := hp
    have hob := h.ob g
    rw [h1] at hob
    obtain ⟨us, S1, k1, k2, _⟩ := hob
    obtain ⟨S2, k3, _⟩ := CRel.drop c k2
    obtain ⟨S3, k4, _⟩ := CRel.take ds.length k3
    rw [h2] at k4
    obtain ⟨S4, k5⟩ := box_cells h k4 h3
    refine ⟨b, c, _, S4, hr, k5, fun j y hy => ?_⟩
    rw [List.getElem?_take] at hy
    split at hy
    · rw [List.getElem?_drop] at hy
      simp [World.cell?, k1, hy]
    · simp at hy
  | _ => exact hp.elim
theorem arg_rel (h : RelF B w0 N s a w F) : ∀ {v : AV} {u : Value} {vw : View}, VRel B w v u → ArgIs s v vw → ViewRel w vw u
  | .c x, u, .c dd, hv, hi => is_rep h hv hi
  | .agg l, u, .agg ds, ⟨us, h1, h2⟩, hi => by
    obtain ⟨S, k⟩ := isL_rep h h2 hi
    exact ⟨S, us, h1, k⟩
  | .c x, u, .ptr ds, hv, hi => ptr_rel h hv hi
  | .fn f caps, u, .fn f' caps', ⟨us, h1, h2⟩, ⟨h3, h4⟩ => by
    subst h3
    refine ⟨us, h1, ?_⟩
    have key : ∀ (caps : List A0) (us : List Value) (caps' : List (List D)), A0RelL B w caps us → PtrL s caps caps' → ViewRel.All2 w caps' us := by
      intro caps
      induction caps with
      | nil => intro us caps' k1 k2; cases caps' with | nil => exact k1 | cons _ _ => exact k2.elim
      | cons x l ih =>
        intro us caps' k1 k2
        obtain ⟨u, us', rfl, k3, k4⟩ := k1
        cases caps' with
        | nil => exact k2.elim
        | cons ds l' => exact ⟨u, us', rfl, ptr_rel h k3 k2.1, ih us' l' k4 k2.2⟩
    exact key _ _ _ h2 h4
  | .c _, _, .agg _, _, hi => hi.elim
  | .c _, _, .fn _ _, _, hi => hi.elim
  | .agg _, _, .c _, _, hi => hi.elim
  | .agg _, _, .ptr _, _, hi => hi.elim
  | .agg _, _, .fn _ _, _, hi => hi.elim
  | .fn _ _, _, .c _, _, hi => hi.elim
  | .fn _ _, _, .agg _, _, hi => hi.elim
  | .fn _ _, _, .ptr _, _, hi => hi.elim
  | .tup _, _, .c _, _, hi => hi.elim
  | .tup _, _, .agg _, _, hi => hi.elim
  | .tup _, _, .ptr _, _, hi => hi.elim
  | .tup _, _, .fn _ _, _, hi => hi.elim
  | .unk, _, .c _, _, hi => hi.elim
  | .unk, _, .agg _, _, hi => hi.elim
  | .unk, _, .ptr _, _, hi => hi.elim
  | .unk, _, .fn _ _, _, hi => hi.elim
theorem args_rel (h : RelF B w0 N s a w F) : ∀ {args : List Operand} {xs : List X} {caps : List A0} {cs : List Value} {vs : List View}, compXs args = some xs → A0RelL B w caps cs → ArgsAre s (xs.map s.ev ++ caps.map .c) vs → ViewsRel w vs (args.map a.eval ++ cs)
  | [], xs, caps, cs, vs, h1, h2, h3 => by
    simp [compXs] at h1; subst h1
    have key : ∀ (caps : List A0) (cs : List Value) (vs : List View), A0RelL B w caps cs → ArgsAre s (caps.map .c) vs → ViewsRel w vs cs := by
      intro caps
      induction caps with
      | nil => intro cs vs k1 k2; cases vs with | nil => exact k1 | cons _ _ => exact k2.elim
      | cons x l ih =>
        intro cs vs k1 k2
        obtain ⟨u, us', rfl, k3, k4⟩ := k1
        cases vs with
        | nil => exact k2.elim
        | cons v l' => exact ⟨u, us', rfl, arg_rel (v := .c x) h k3 k2.1, ih us' l' k4 k2.2⟩
    exact key caps cs vs h2 (by simpa using h3)
  | x :: args, xs, caps, cs, vs, h1, h2, h3 => by
    simp only [compXs] at h1
    split at h1
    · rename_i x' xs' k1 k2
      simp at h1; subst h1
      cases vs with
      | nil => exact h3.elim
      | cons v vs => exact ⟨a.eval x, _, rfl, arg_rel h (ev_rel h k1) h3.1, args_rel h k2 h2 h3.2⟩
    · simp at h1
/-- What comes back, as a value with new objects. -/
theorem ret_rel {w' : World} : ∀ {rt : RT} {v : Value} {S : List Nat} (g : Nat), RetRel w' rt v S → ∃ η : Nat → Heads, VRel B w' (rt.av g η) v ∧ NewRel B w' (objL g η 0 rt.flat) S := by
  -- a list of data
  have key : ∀ (ds : List D) (us : List Value) (S : List Nat) (g j : Nat), RepL w' true ds us S → ∃ η : Nat → Heads, (∀ η', (∀ i, i < ds.length → η' (j + i) = η i) → A0RelL B w' (ownL g η' j ds) us ∧ NewRel B w' (objL g η' j ds) S) := by
    intro ds
    induction ds with
    | nil => intro us S g j h; obtain ⟨rfl, rfl⟩ := h; exact ⟨fun _ _ => undef, fun η' _ => ⟨rfl, rfl⟩⟩
    | cons d ds ih =>
      intro us S g j h
      obtain ⟨v, vs', S1, S2, rfl, rfl, h3, h4⟩ := h
      obtain ⟨η, h5⟩ := ih vs' S2 g (j + 1) h4
      refine ⟨fun i => match i with | 0 => fun p => hdr w' p d v | i + 1 => η i, fun η' hη => ?_⟩
      have h0 := hη 0 (by simp)
      obtain ⟨h6, h7⟩ := h5 η' fun i hi => by
        have := hη (i + 1) (by simp; omega)
        rw [show j + 1 + i = j + (i + 1) by omega]
        exact this
      cases d with
      | val u =>
        obtain ⟨rfl, rfl⟩ := h3
        exact ⟨⟨_, _, rfl, rfl, h6⟩, by simpa [objL, D.obj] using h7⟩
      | sl size ty cs =>
        simp only [Nat.add_zero] at h0
        refine ⟨⟨v, vs', rfl, ?_, h6⟩, S1, S2, rfl, ⟨rfl, v, h3, fun p => by rw [h0]⟩, h7⟩
        obtain ⟨_, _, _, rfl⟩ := rep_form h3
        show _ ∧ _
        rw [h0]
        exact ⟨rfl, rfl⟩
  intro rt v S g hr
  cases rt with
  | c d =>
    obtain ⟨η, h1⟩ := key [d] [v] S g 0 ⟨v, [], S, [], rfl, by simp, hr, rfl, rfl⟩
    obtain ⟨⟨u, us', h2, h3, _⟩, h4⟩ := h1 η fun i _ => by rw [Nat.zero_add]
    cases h2
    exact ⟨η, h3, h4⟩
  | agg ds =>
    obtain ⟨us, rfl, hr⟩ := hr
    obtain ⟨η, h1⟩ := key ds us S g 0 hr
    obtain ⟨h2, h3⟩ := h1 η fun i _ => by rw [Nat.zero_add]
    exact ⟨η, ⟨us, rfl, h2⟩, h3⟩
  | tup l =>
    obtain ⟨xs, rfl, hr⟩ := hr
    have key2 : ∀ (l : List (Bool × List D)) (xs : List Value) (S : List Nat) (j : Nat), TupRel w' l xs S → ∃ η : Nat → Heads, ∀ η', (∀ i, i < (l.flatMap (·.2)).length → η' (j + i) = η i) → TRelL B w' (ownT g η' j l) xs ∧ NewRel B w' (objL g η' j (l.flatMap (·.2))) S := by
      intro l
      induction l with
      | nil => intro xs S j h; obtain ⟨rfl, rfl⟩ := h; exact ⟨fun _ _ => undef, fun η' _ => ⟨rfl, rfl⟩⟩
      | cons p l ih =>
        intro xs S j h
        obtain ⟨b, ds⟩ := p
        obtain ⟨x, xs', us, S1, S2, rfl, rfl, h1, h2, h3⟩ := h
        obtain ⟨η1, h4⟩ := key ds us S1 g j h1
        obtain ⟨η2, h5⟩ := ih xs' S2 (j + ds.length) h3
        refine ⟨fun i => if i < ds.length then η1 i else η2 (i - ds.length), fun η' hη => ?_⟩
        obtain ⟨h6, h7⟩ := h4 η' fun i hi => by
          rw [hη i (by simp; omega)]; simp [hi]
        obtain ⟨h8, h9⟩ := h5 η' fun i hi => by
          have := hη (ds.length + i) (by simp at hi ⊢; omega)
          rw [Nat.add_assoc, this]
          show (if ds.length + i < ds.length then η1 (ds.length + i) else η2 (ds.length + i - ds.length)) = _
          rw [if_neg (by omega), Nat.add_sub_cancel_left]
        refine ⟨⟨x, xs', us, rfl, h6, h2, h8⟩, ?_⟩
        have happ : ∀ (ds es : List D) (j : Nat), objL g η' j (ds ++ es) = objL g η' j ds ++ objL g η' (j + ds.length) es := by
          intro ds
          induction ds with
          | nil => intro es j; simp [objL]
          | cons d ds ih => intro es j; simp only [List.cons_append, objL, ih, List.append_assoc, List.length_cons]; rw [show j + 1 + ds.length = j + (ds.length + 1) by omega]
        have hnew : ∀ (l m : List (Nat × Ob)) (S1 S2 : List Nat), NewRel B w' l S1 → NewRel B w' m S2 → NewRel B w' (l ++ m) (S1 ++ S2) := by
          intro l
          induction l with
          | nil => intro m S1 S2 k1 k2; rw [show S1 = [] from k1]; exact k2
          | cons q l ih => intro m S1 S2 k1 k2; obtain ⟨T1, T2, rfl, k3, k4⟩ := k1; exact ⟨T1, T2 ++ S2, by simp, k3, ih m T2 S2 k4 k2⟩
        simp only [List.flatMap_cons, happ]
        exact hnew _ _ _ _ h7 h9
    obtain ⟨η, h1⟩ := key2 l xs S 0 hr
    obtain ⟨h2, h3⟩ := h1 η fun i _ => by rw [Nat.zero_add]
    exact ⟨η, ⟨xs, rfl, h2⟩, h3⟩
theorem call_goes (h : RelF B w0 N s a w F) {f : Nat} {vs : List View} {xs : List Value} (hrun : (execOp a.eval o).run P w = .ok (.enter f xs.toArray) w) (hp : Pure P f vs rt) (hv : ViewsRel w vs xs)
    (hG : ∀ st : Stamp, G (rt.av (100 * d) st.η) (objL (100 * d) st.η 0 rt.flat)) : Goes P o a w (Yields_ B w G) := by
  intro next Q hk
  unfold Oper.wp
  rw [hrun]
  refine (hp.2 w xs hv).mono fun e w' ⟨v, S, he, hr, hf, hb⟩ => ?_
  subst he
  obtain ⟨η, h1, h2⟩ := ret_rel (B := B) (100 * d) hr
  exact hk v w' ⟨_, _, S, h1, h2, hf, hb, hG ⟨0, η⟩⟩
theorem RelF.bare (h : RelF B w0 N s a w F) : RelF B w 0 (.only s.o) Act.bare w F :=
  ⟨Below.refl _ _, Nat.le_trans h.hB h.below.size, rfl, rfl, fun _ => trivial, h.ob, h.fr, h.dj⟩
theorem argv_rel (h : RelF B w0 N s a w F) : ∀ {args : List Operand} {xs : List X} {caps : List A0} {cs : List Value}, compXs args = some xs → A0RelL B w caps cs → VRelL B w (xs.map s.ev ++ caps.map .c) (args.map a.eval ++ cs)
  | [], xs, caps, cs, h1, h2 => by
    simp [compXs] at h1; subst h1
    have key : ∀ (caps : List A0) (cs : List Value), A0RelL B w caps cs → VRelL B w (caps.map .c) cs := by
      intro caps
      induction caps with
      | nil => intro cs k1; exact k1
      | cons x l ih => intro cs k1; obtain ⟨u, us', rfl, k3, k4⟩ := k1; exact ⟨u, us', rfl, k3, ih us' k4⟩
    exact key caps cs h2
  | x :: args, xs, caps, cs, h1, h2 => by
    simp only [compXs] at h1
    split at h1
    · rename_i x' xs' k1 k2
      simp at h1; subst h1
      exact ⟨a.eval x, _, rfl, ev_rel h k1, argv_rel h k2 h2⟩
    · simp at h1
theorem run_enter {f : Nat} {c : Call} {cs xs : List Value} (hn : Named P f) (ho : o.op = .call c) {y : Operand} (hc : c.callee = .value y) (hy : a.eval y = .func (.func f) #[] cs.toArray) (hx : c.args.toList.map a.eval = xs) :
    (execOp a.eval o).run P w = .ok (.enter f (xs ++ cs).toArray) w := by
  obtain ⟨fn, hfn, hb, hname⟩ := hn
  have hbn : ¬ fn.body = none := by intro hq; simp [hq] at hb
  have hne : ¬ fn.name = "runtime.NumGoroutine" := by simpa using hname
  have hargs : c.args.map a.eval = xs.toArray := by rw [← hx, ← Array.toList_map, Array.toArray_toList]
  simp [execOp, ho, resolve, hc, hy, hargs, Deferred.ofValue, invoke, callFunc, hfn, hbn, hne]
theorem go_call (h : RelF B w0 N s a w F) {c : Call} {f : Nat} {xs : List X} (ho : o.op = .call c) (hc : c.callee = .value (.func f)) (hxs : compXs c.args.toList = some xs)
    (hg : ∀ st, ∃ av os, Gen P s d rt st (.call f xs) av os ∧ G av os) : Goes P o a w (Yields_ B w G) := by
  obtain ⟨_, _, ⟨vs, h1, h2, _, _⟩, _⟩ := hg ⟨0, fun _ _ => undef⟩
  have hv := args_rel (caps := []) (cs := []) h hxs rfl (by simpa using h1)
  exact call_goes (d := d) h (run_enter (cs := []) h2.1 ho hc rfl rfl) h2 hv fun st => by
    obtain ⟨_, _, ⟨_, _, _, rfl, rfl⟩, hG⟩ := hg st
    exact hG
theorem go_callv (h : RelF B w0 N s a w F) {c : Call} {t : Nat} {xs : List X} (ho : o.op = .call c) (hc : c.callee = .value (.tmp t)) (hxs : compXs c.args.toList = some xs)
    (hg : ∀ st, ∃ av os, Gen P s d rt st (.callv (.t t) xs) av os ∧ G av os) : Goes P o a w (Yields_ B w G) := by
  obtain ⟨_, _, ⟨f, caps, vs, h0, h1, h2, _, _⟩, _⟩ := hg ⟨0, fun _ _ => undef⟩
  have hvf := h.sl t
  rw [show s.t t = .fn f caps from h0] at hvf
  obtain ⟨cs, k1, k2⟩ := hvf
  have hv := args_rel h hxs k2 h1
  exact call_goes (d := d) h (run_enter h2.1 ho hc k1 rfl) h2 hv fun st => by
    obtain ⟨_, _, ⟨f', caps', vs', h0', h1', h2', rfl, rfl⟩, hG⟩ := hg st
    exact hG
end
end Go.Proofs.YtnhdcbhcocgjhaaGreat
set_option linter.unusedSimpArgs false
set_option linter.unusedVariables false
namespace Go.Proofs.YtnhdcbhcocgjhaaGreat
open Go.RowKit Go.Sort

def OpOk (P : Program) (o : Oper) (a : Act) (w : World) (R : Act → World → Prop) : Prop :=
  ∀ (next : Act → World → Prop) (Q : Exit → Act → World → Prop), (∀ a' w', R a' w' → next a' w') → o.wp P a w next Q
section
variable {P : Program} {β B N : Nat} {w w0 : World} {s : St} {a : Act} {F : Nat → List Nat} {o : Oper} {K : St → Prop}
theorem OpOk.of_run {w' : World} {R : Act → World → Prop} {v : Value} (h : (execOp a.eval o).run P w = .ok (.value v) w') (hr : R (a.put o.dst v) w') : OpOk P o a w R :=
  fun _ _ hk => by unfold Oper.wp; rw [h]; exact hk _ w' hr
theorem OpOk.of_skip {w' : World} {R : Act → World → Prop} (h : (execOp a.eval o).run P w = .ok .skip w') (hr : R (a.put o.dst undef) w') : OpOk P o a w R :=
  fun _ _ hk => by unfold Oper.wp; rw [h]; exact hk _ w' hr

/-- What is taken: the cells stand for what was there, and the objects have it no more. -/
theorem take_rel : ∀ {l : List A0} {us : List Value} {s : St} {F : Nat → List Nat} {K : List Cell → St → Prop}, RelF B w0 N s a w F → A0RelL B w l us → TakeK s l K →
    ∃ cs s' S F', K cs s' ∧ CRel B w cs us S ∧ RelF B w0 N s' a w F' ∧ Fresh B S ∧ (∀ g, ∀ b ∈ S, b ∉ F' g) ∧ (∀ g b, b ∈ F' g → b ∈ F g) ∧ (∀ b ∈ S, ∃ g, b ∈ F g) ∧ (∀ u ∈ us, u.oneCell' = true)
  | [], us, s, F, K, h, hr, hk => ⟨[], s, [], F, hk, ⟨hr, rfl⟩, h, Fresh.nil _, by simp, fun _ _ h => h, by simp, by rw [show us = [] from hr]; simp⟩
  | x :: l, us, s, F, K, h, ⟨u, us', h1, h2, h3⟩, hk => by
    subst h1
    have plain : ∀ (x : A0), A0Rel B w x u → x.one = true → TakeK s l (fun cs s' => K (.a x :: cs) s') → ∃ cs s' S F', K cs s' ∧ CRel B w cs (u :: us') S ∧ RelF B w0 N s' a w F' ∧ Fresh B S ∧ (∀ g, ∀ b ∈ S, b ∉ F' g) ∧ (∀ g b, b ∈ F' g → b ∈ F g) ∧ (∀ b ∈ S, ∃ g, b ∈ F g) ∧ (∀ u' ∈ u :: us', u'.oneCell' = true) := by
      intro x h2 hone hk
      obtain ⟨cs, s', S, F', k1, k2, k3, k4, k5, k6, k7, k8⟩ := take_rel h h3 hk
      refine ⟨_, s', S, F', k1, ⟨u, us', rfl, h2, k2⟩, k3, k4, k5, k6, k7, fun u' hu => ?_⟩
      rcases List.mem_cons.1 hu with rfl | hu
      · exact h2.one hone
      · exact k8 u' hu
    cases x with
    | h g c p x =>
      obtain ⟨rfl, d, η, ho, hx, hk⟩ := hk
      obtain ⟨u', S1, F1, j1, j2, j3, j4, j5, j6, j7, j8⟩ := h.rm ho
      obtain ⟨cs, s', S2, F', k1, k2, k3, k4, k5, k6, k7, k8⟩ := take_rel j5 h3 hk
      have hu : u = u' := by
        rw [h2.1, ← hx, j3, hdr_nil j1]
      subst hu
      have hdis : ∀ b ∈ S1, b ∉ S2 := fun b hb hb' => by
        obtain ⟨g', hg'⟩ := k7 b hb'
        exact j6 g' b hb hg'
      refine ⟨_, s', S1 ++ S2, F', k1, ⟨u, us', S1, S2, rfl, rfl, j1, j2, j3, k2⟩, k3, ⟨List.nodup_append.2 ⟨j4.1, k4.1, fun x hx y hy e => hdis x hx (e ▸ hy)⟩, fun b hb => ?_⟩, fun g' b hb => ?_, fun g' b hb => j8 g' b (k6 g' b hb), fun b hb => ?_, fun u' hu => ?_⟩
      · rcases List.mem_append.1 hb with hb | hb
        · exact j4.2 b hb
        · exact k4.2 b hb
      · rcases List.mem_append.1 hb with hb | hb
        · exact fun hb' => j6 g' b hb (k6 g' b hb')
        · exact k5 g' b hb
      · rcases List.mem_append.1 hb with hb | hb
        · exact ⟨g, j7 b hb⟩
        · obtain ⟨g', hg'⟩ := k7 b hb; exact ⟨g', j8 g' b hg'⟩
      · rcases List.mem_cons.1 hu with rfl | hu
        · cases d with
          | val _ => cases j1
          | sl _ _ _ => obtain ⟨_, _, _, rfl⟩ := rep_form j2; rfl
        · exact k8 u' hu
    | v x => exact plain _ h2 hk.1 hk.2
    | ro x => exact plain _ h2 hk.1 hk.2
    | rp x => exact plain _ h2 hk.1 hk.2
    | bp x y z => exact plain _ h2 hk.1 hk.2
    | ep x y z i j => exact plain _ h2 hk.1 hk.2
    | un => exact plain _ h2 hk.1 hk.2
    | hs => exact plain _ h2 hk.1 hk.2
/-- A call that turns what it is given. -/
theorem ok_turns (h : RelF B w0 N s a w F) {f : Nat} {args : List AV} {xs : List Value} (hrun : (execOp a.eval o).run P w = .ok (.enter f xs.toArray) w) (hv : VRelL B w args xs) (hd : ∀ k, o.dst = some k → k < N)
    (ht : Turns P f args s.o fun rt o' => ∀ η : Nat → Heads, K (((⟨s.t, o'⟩ : St).addO (objL (100 * (β + o.dst.getD 0)) η 0 rt.flat)).put o.dst (rt.av (100 * (β + o.dst.getD 0)) η))) :
    OpOk P o a w (fun a' w' => ∃ s' F', RelF B w0 N s' a' w' F' ∧ K s') := by
  intro next Q hk
  unfold Oper.wp
  rw [hrun]
  refine (ht.2 B w F xs h.bare hv).mono fun e w' ⟨v, rt, o', S, F', he, hr, hrt, hf, hdj, hR⟩ => ?_
  subst he
  have hb : Below B w w' := hr.below
  obtain ⟨η, h1, h2⟩ := ret_rel (B := B) (100 * (β + o.dst.getD 0)) hrt
  have h3 : RelF B w0 N ⟨s.t, o'⟩ a w' F' := ⟨h.below.trans hb, h.hB, h.df, h.sz, fun n => (h.sl n).mono hb, hr.ob, hr.fr, hr.dj⟩
  obtain ⟨F2, h4⟩ := h3.addO h2 hf hdj
  exact hk _ _ ⟨_, F2, h4.put h1 hd, hR η⟩
/-- A call whose code stands in the caller. -/
theorem ok_inl (h : RelF B w0 N s a w F) {f : Nat} {args : List AV} {xs : List Value} (hrun : (execOp a.eval o).run P w = .ok (.enter f xs.toArray) w) (hv : VRelL B w args xs) (hd : ∀ k, o.dst = some k → k < N)
    (ht : Inl P f args s.o fun av o' => K (St.put ⟨s.t, o'⟩ o.dst av)) :
    OpOk P o a w (fun a' w' => ∃ s' F', RelF B w0 N s' a' w' F' ∧ K s') := by
  intro next Q hk
  unfold Oper.wp
  rw [hrun]
  refine (ht.2 B w F xs h.bare hv).mono fun e w' ⟨v, av, o', F', he, hr, hva, hR⟩ => ?_
  subst he
  have hb : Below B w w' := hr.below
  have h3 : RelF B w0 N ⟨s.t, o'⟩ a w' F' := ⟨h.below.trans hb, h.hB, h.df, h.sz, fun n => (h.sl n).mono hb, hr.ob, hr.fr, hr.dj⟩
  exact hk _ _ ⟨_, F', h3.put hva hd, hR⟩
theorem drewBelow (w : World) : Below w.heap.size w w.drew := ⟨rfl, rfl, rfl, Nat.le_refl _, fun _ _ => rfl⟩

theorem ok_box (h : RelF B w0 N s a w F) {e : TypeId} {x : Operand} {x' : X} {n : Nat} {g : Option (Nat × Bool)} (ho : o.op = .box e x) (hx : compX x = some x') (hd : ∀ k, o.dst = some k → k < N) (hr : runI P β ⟨o.dst, g, .box e n x'⟩ s K) :
    OpOk P o a w (fun a' w' => ∃ s' F', RelF B w0 N s' a' w' F' ∧ K s') := by
  obtain ⟨l, h1, _, h2⟩ := hr
  obtain ⟨us, h3, h4⟩ := VRel.cells (ev_rel h hx) h1
  obtain ⟨cs, s', S, F', k1, k2, k3, k4, k5, k6, k7, _⟩ := take_rel h h4 h2
  have hrun : (execOp a.eval o).run P w = .ok (.value (.pointer (some ⟨w.heap.size, 0, none⟩))) (w.alloc (.cells us.toArray e)) := by
    simp [execOp, ho, Instr.box, newVar, newRow, h3]
  have hb : Below w.heap.size w (w.alloc (.cells us.toArray e)) := (Below.refl _ _).alloc (Nat.le_refl _) _
  have hB : B ≤ w.heap.size := Nat.le_trans h.hB h.below.size
  have hSlt : ∀ b ∈ S, b < w.heap.size := fun b hb' => k2.lt b hb'
  have hob : ORel B (w.alloc (.cells us.toArray e)) (.box w.heap.size e cs) (w.heap.size :: S) :=
    ⟨us, S, heap_new _ _, k2.keep (hb.mono hB) fun b hb' => hb.block b (hSlt b hb'), rfl⟩
  have hF'lt : ∀ g, ∀ b ∈ F' g, b < w.heap.size := fun g b hb' => (k3.ob g).lt b hb'
  have h5 := (k3.world hb).setO (g := 100 * (β + o.dst.getD 0)) hob ⟨List.nodup_cons.2 ⟨fun hh => by have := hSlt _ hh; omega, k4.1⟩, fun b hb' => by rcases List.mem_cons.1 hb' with rfl | hb'; exact hB; exact k4.2 b hb'⟩ (fun g' _ b hb' => by
    rcases List.mem_cons.1 hb' with rfl | hb'
    · exact fun hh => by have := hF'lt g' _ hh; omega
    · exact k5 g' b hb')
  exact OpOk.of_run hrun ⟨_, _, h5.put (v := .c (.bp (100 * (β + o.dst.getD 0)) 0 w.heap.size)) rfl hd, k1 w.heap.size⟩
/-- A world that has turned where no object is. -/
theorem RelF.world' (h : RelF B w0 N s a w F) {w' : World} (hb : Below B w w') (hk : ∀ g, ∀ b ∈ F g, w'.heap[b]? = w.heap[b]?) : RelF B w0 N s a w' F :=
  ⟨h.below.trans hb, h.hB, h.df, h.sz, fun n => (h.sl n).mono hb, fun g => (h.ob g).keep hb (hk g), h.fr, h.dj⟩
theorem CRel.set1 {x : Cell} {u : Value} {S1 : List Nat} (hx : CRel B w [x] [u] S1) : ∀ {ds : List Cell} {us : List Value} {S0 : List Nat} {c : Nat}, CRel B w ds us S0 → (S0 ++ S1).Nodup → c < ds.length →
    ∃ S', CRel B w (ds.set c x) (us.set c u) S' ∧ S'.Nodup ∧ ∀ b ∈ S', b ∈ S0 ∨ b ∈ S1
  | [], _, _, _, _, _, hc => by simp at hc
  | y :: ds, us, S0, 0, hr, hnd, _ => by
    -- the head is replaced
    have hcons : ∀ {us' : List Value} {S2 : List Nat}, CRel B w ds us' S2 → CRel B w (x :: ds) (u :: us') (S1 ++ S2) := by
      intro us' S2 h2
      cases x with
      | a x => obtain ⟨u', us'', h3, h4, h5, h6⟩ := hx; cases h3; subst h6; exact ⟨u, us', rfl, h4, h2⟩
      | own d η =>
        obtain ⟨u', us'', T1, T2, h3, h4, h5, h6, h7, h8, h9⟩ := hx
        cases h3; subst h9; rw [List.append_nil] at h4; subst h4
        exact ⟨u, us', S1, S2, rfl, rfl, h5, h6, h7, h2⟩
    cases y with
    | a y =>
      obtain ⟨u', us', rfl, _, h3⟩ := hr
      refine ⟨_, hcons h3, ?_, fun b hb => ?_⟩
      · exact (List.perm_append_comm.nodup_iff).1 hnd
      · rcases List.mem_append.1 hb with hb | hb
        · exact .inr hb
        · exact .inl hb
    | own d η =>
      obtain ⟨u', us', T1, T2, rfl, rfl, _, _, _, h3⟩ := hr
      refine ⟨_, hcons h3, ?_, fun b hb => ?_⟩
      · rw [List.append_assoc] at hnd
        exact (List.perm_append_comm.nodup_iff).1 (List.nodup_append.1 hnd).2.1
      · rcases List.mem_append.1 hb with hb | hb
        · exact .inr hb
        · exact .inl (by simp [hb])
  | y :: ds, us, S0, c + 1, hr, hnd, hc => by
    cases y with
    | a y =>
      obtain ⟨u', us', rfl, h2, h3⟩ := hr
      obtain ⟨S', h4, h5, h6⟩ := CRel.set1 hx h3 hnd (by simpa using hc)
      exact ⟨S', ⟨u', _, rfl, h2, h4⟩, h5, h6⟩
    | own d η =>
      obtain ⟨u', us', T1, T2, rfl, rfl, h1, h2, h2', h3⟩ := hr
      rw [List.append_assoc] at hnd
      have hn := List.nodup_append.1 hnd
      obtain ⟨S', h4, h5, h6⟩ := CRel.set1 hx h3 hn.2.1 (by simpa using hc)
      refine ⟨T1 ++ S', ⟨u', _, T1, S', rfl, rfl, h1, h2, h2', h4⟩, List.nodup_append.2 ⟨hn.1, h5, fun a ha b hb e => hn.2.2 a ha b (by rcases h6 b hb with h | h <;> simp [h]) e⟩, fun b hb => ?_⟩
      rcases List.mem_append.1 hb with hb | hb
      · exact .inl (by simp [hb])
      · rcases h6 b hb with h | h
        · exact .inl (by simp [h])
        · exact .inr h
theorem CRel.setAt_ : ∀ {cs : List Cell} {us : List Value} {S : List Nat} {ds : List Cell} {vs : List Value} {S0 : List Nat} {c : Nat}, CRel B w cs us S → CRel B w ds vs S0 → (S0 ++ S).Nodup → c + cs.length ≤ ds.length →
    ∃ S', CRel B w (setAt ds c cs) (setAt vs c us) S' ∧ S'.Nodup ∧ ∀ b ∈ S', b ∈ S0 ∨ b ∈ S
  | [], us, S, ds, vs, S0, c, ⟨h1, h2⟩, h3, hnd, _ => by
    subst h1 h2
    rw [List.append_nil] at hnd
    exact ⟨S0, h3, hnd, fun b hb => .inl hb⟩
  | x :: cs, us, S, ds, vs, S0, c, hr, h3, hnd, hc => by
    obtain ⟨u, us', S1, S2, rfl, rfl, h4, h5⟩ : ∃ u us' S1 S2, us = u :: us' ∧ S = S1 ++ S2 ∧ CRel B w [x] [u] S1 ∧ CRel B w cs us' S2 := by
      cases x with
      | a x => obtain ⟨u, us', h1, h2, h4⟩ := hr; exact ⟨u, us', [], S, h1, rfl, ⟨u, [], rfl, h2, rfl, rfl⟩, h4⟩
      | own d η => obtain ⟨u, us', S1, S2, h1, h2, k1, k2, k3, h4⟩ := hr; exact ⟨u, us', S1, S2, h1, h2, ⟨u, [], S1, [], rfl, by simp, k1, k2, k3, rfl, rfl⟩, h4⟩
    rw [← List.append_assoc] at hnd
    obtain ⟨S', h6, h7, h8⟩ := CRel.set1 (c := c) h4 h3 (List.nodup_append.1 hnd).1 (by simp at hc; omega)
    have hn := List.nodup_append.1 hnd
    obtain ⟨S'', h9, h10, h11⟩ := CRel.setAt_ (c := c + 1) h5 h6 (List.nodup_append.2 ⟨h7, hn.2.1, fun a ha b hb e => hn.2.2 a (by rcases h8 a ha with h | h <;> simp [h]) b hb e⟩) (by simp at hc ⊢; omega)
    refine ⟨S'', h9, h10, fun b hb => ?_⟩
    rcases h11 b hb with h | h
    · rcases h8 b h with h | h
      · exact .inl h
      · exact .inr (by simp [h])
    · exact .inr (by simp [h])
theorem heap_setCells : ∀ (vs : List Value) (w : World) (b o : Nat) (us : List Value) (ty : TypeId), w.heap[b]? = some (.cells us.toArray ty (0, 0)) → (w.setCells b o vs).heap[b]? = some (.cells (setAt us o vs).toArray ty (0, 0)) ∧ ∀ k, k ≠ b → (w.setCells b o vs).heap[k]? = w.heap[k]?
  | [], w, b, o, us, ty, h => ⟨h, fun _ _ => rfl⟩
  | v :: vs, w, b, o, us, ty, h => by
    have h1 : (w.setCell ⟨b, o, none⟩ v).heap[b]? = some (.cells (us.set o v).toArray ty (0, 0)) := by
      have hlt := getElem_lt h
      have : w.heap[b] = .cells us.toArray ty (0, 0) := by rw [Array.getElem?_eq_getElem hlt] at h; exact Option.some.inj h
      simp [World.setCell, Array.getElem?_modify, h]
    obtain ⟨h2, h3⟩ := heap_setCells vs (w.setCell ⟨b, o, none⟩ v) b (o + 1) (us.set o v) ty h1
    exact ⟨h2, fun k hk => (h3 k hk).trans (Below.heap_setCell w ⟨b, o, none⟩ v k hk)⟩
theorem setCells_rest : ∀ (vs : List Value) (w : World) (b o : Nat), (w.setCells b o vs).os = w.os ∧ (w.setCells b o vs).tape = w.tape ∧ (w.setCells b o vs).output = w.output ∧ (w.setCells b o vs).heap.size = w.heap.size
  | [], _, _, _ => ⟨rfl, rfl, rfl, rfl⟩
  | v :: vs, w, b, o => by
    obtain ⟨h1, h2, h3, h4⟩ := setCells_rest vs (w.setCell ⟨b, o, none⟩ v) b (o + 1)
    exact ⟨h1, h2, h3, h4.trans (by simp [World.setCell])⟩
theorem setSeg_eq : ∀ (xs : List Value) (vs : List Value) (o : Nat), setSeg vs o xs = setAt vs o xs
  | [], _, _ => rfl
  | x :: xs, vs, o => by rw [setSeg, setAt, setSeg_eq xs]
theorem setCells_ne : ∀ (vs : List Value) (w : World) (b o k : Nat), k ≠ b → (w.setCells b o vs).heap[k]? = w.heap[k]?
  | [], _, _, _, _, _ => rfl
  | v :: vs, w, b, o, k, hk => (setCells_ne vs _ b (o + 1) k hk).trans (Below.heap_setCell w ⟨b, o, none⟩ v k hk)
theorem setAt_get_ne {α : Type} : ∀ (xs : List α) (l : List α) (k j : Nat), ¬ (k ≤ j ∧ j < k + xs.length) → (setAt l k xs)[j]? = l[j]?
  | [], _, _, _, _ => rfl
  | x :: xs, l, k, j, h => by
    rw [setAt, setAt_get_ne xs _ (k + 1) j (by simp at h; omega), List.getElem?_set_ne (by simp at h; omega)]
theorem RepL.set1 {d : D} {u : Value} {S1 : List Nat} (hx : Rep w true d u S1) : ∀ {cs : List D} {vs : List Value} {S0 : List Nat} {c : Nat}, RepL w true cs vs S0 → (S0 ++ S1).Nodup → c < cs.length →
    ∃ S', RepL w true (cs.set c d) (vs.set c u) S' ∧ S'.Nodup ∧ ∀ b ∈ S', b ∈ S0 ∨ b ∈ S1
  | [], _, _, _, _, _, hc => by simp at hc
  | y :: cs, _, _, 0, ⟨u', us', T1, T2, rfl, rfl, _, h3⟩, hnd, _ => by
    refine ⟨S1 ++ T2, RepL.cons_ hx h3, ?_, fun b hb => ?_⟩
    · rw [List.append_assoc] at hnd
      exact (List.perm_append_comm.nodup_iff).1 (List.nodup_append.1 hnd).2.1
    · rcases List.mem_append.1 hb with hb | hb
      · exact .inr hb
      · exact .inl (by simp [hb])
  | y :: cs, _, _, c + 1, ⟨u', us', T1, T2, rfl, rfl, h2, h3⟩, hnd, hc => by
    rw [List.append_assoc] at hnd
    have hn := List.nodup_append.1 hnd
    obtain ⟨S', h4, h5, h6⟩ := RepL.set1 hx h3 hn.2.1 (by simpa using hc)
    refine ⟨T1 ++ S', RepL.cons_ h2 h4, List.nodup_append.2 ⟨hn.1, h5, fun a ha b hb e => hn.2.2 a ha b (by rcases h6 b hb with h | h <;> simp [h]) e⟩, fun b hb => ?_⟩
    rcases List.mem_append.1 hb with hb | hb
    · exact .inl (by simp [hb])
    · rcases h6 b hb with h | h
      · exact .inl (by simp [h])
      · exact .inr h
theorem RepL.setAt_ : ∀ {ds : List D} {us : List Value} {S : List Nat} {cs : List D} {vs : List Value} {S0 : List Nat} {c : Nat}, RepL w true ds us S → RepL w true cs vs S0 → (S0 ++ S).Nodup → c + ds.length ≤ cs.length →
    ∃ S', RepL w true (setAt cs c ds) (setAt vs c us) S' ∧ S'.Nodup ∧ ∀ b ∈ S', b ∈ S0 ∨ b ∈ S
  | [], us, S, cs, vs, S0, c, ⟨h1, h2⟩, h3, hnd, _ => by
    subst h1 h2
    rw [List.append_nil] at hnd
    exact ⟨S0, h3, hnd, fun b hb => .inl hb⟩
  | x :: ds, _, _, cs, vs, S0, c, ⟨u, us', S1, S2, rfl, rfl, h4, h5⟩, h3, hnd, hc => by
    rw [← List.append_assoc] at hnd
    obtain ⟨S', h6, h7, h8⟩ := RepL.set1 (c := c) h4 h3 (List.nodup_append.1 hnd).1 (by simp at hc; omega)
    have hn := List.nodup_append.1 hnd
    obtain ⟨S'', h9, h10, h11⟩ := RepL.setAt_ (c := c + 1) h5 h6 (List.nodup_append.2 ⟨h7, hn.2.1, fun a ha b hb e => hn.2.2 a (by rcases h8 a ha with h | h <;> simp [h]) b hb e⟩) (by simp at hc ⊢; omega)
    refine ⟨S'', h9, h10, fun b hb => ?_⟩
    rcases h11 b hb with h | h
    · rcases h8 b h with h | h
      · exact .inl h
      · exact .inr (by simp [h])
    · exact .inr (by simp [h])
/-- A cell of a row turns, and what it leads to. -/
theorem RepL.put1 : ∀ {cs : List D} {vs : List Value} {S : List Nat} {k : Nat} {d : D}, RepL w true cs vs S → S.Nodup → cs[k]? = some d →
    ∃ v S1, vs[k]? = some v ∧ Rep w true d v S1 ∧ (∀ b ∈ S1, b ∈ S) ∧ S1.Nodup ∧ (∀ j dj, j ≠ k → cs[j]? = some dj → ∃ vj Sj, vs[j]? = some vj ∧ Rep w true dj vj Sj ∧ ∀ b ∈ Sj, b ∈ S ∧ b ∉ S1) ∧
    ∀ (w' : World) (d' : D) (S1' : List Nat), (∀ b ∈ S, b ∉ S1 → w'.heap[b]? = w.heap[b]?) → Rep w' true d' v S1' → S1'.Nodup → (∀ b ∈ S1', b ∈ S1 ∨ b ∉ S) →
      ∃ S', RepL w' true (cs.set k d') vs S' ∧ S'.Nodup ∧ ∀ b ∈ S', b ∈ S ∨ b ∈ S1'
  | [], _, _, _, _, _, _, h => by simp at h
  | y :: cs, _, _, 0, d, ⟨u', us', T1, T2, rfl, rfl, h2, h3⟩, hnd, h => by
    simp at h; subst h
    have hn := List.nodup_append.1 hnd
    refine ⟨u', T1, rfl, h2, fun b hb => by simp [hb], hn.1, fun j dj hj hd => ?_, fun w' d' S1' hk hr hn' hs => ?_⟩
    · cases j with
      | zero => exact absurd rfl hj
      | succ j =>
        obtain ⟨vj, Sj, k1, k2, k3⟩ := RepL.nth h3 (by simpa using hd)
        exact ⟨vj, Sj, by simpa using k1, k2, fun b hb => ⟨by simp [k3 b hb], fun hb' => hn.2.2 b hb' b (k3 b hb) rfl⟩⟩
    · refine ⟨S1' ++ T2, RepL.cons_ hr (RepL.keep _ h3 fun b hb => hk b (by simp [hb]) fun hb' => hn.2.2 b hb' b hb rfl), List.nodup_append.2 ⟨hn', hn.2.1, fun a ha b hb e => ?_⟩, fun b hb => ?_⟩
      · subst e
        rcases hs a ha with h | h
        · exact hn.2.2 a h a hb rfl
        · exact h (by simp [hb])
      · rcases List.mem_append.1 hb with hb | hb
        · exact .inr hb
        · exact .inl (by simp [hb])
  | y :: cs, _, _, k + 1, d, ⟨u', us', T1, T2, rfl, rfl, h2, h3⟩, hnd, h => by
    have hn := List.nodup_append.1 hnd
    obtain ⟨v, S1, k1, k2, k3, k4, k5, k6⟩ := RepL.put1 h3 hn.2.1 (by simpa using h)
    refine ⟨v, S1, by simpa using k1, k2, fun b hb => by simp [k3 b hb], k4, fun j dj hj hd => ?_, fun w' d' S1' hk hr hn' hs => ?_⟩
    · cases j with
      | zero =>
        simp at hd; subst hd
        exact ⟨u', T1, rfl, h2, fun b hb => ⟨by simp [hb], fun hb' => hn.2.2 b hb b (k3 b hb') rfl⟩⟩
      | succ j =>
        obtain ⟨vj, Sj, m1, m2, m3⟩ := k5 j dj (by omega) (by simpa using hd)
        exact ⟨vj, Sj, by simpa using m1, m2, fun b hb => ⟨by simp [(m3 b hb).1], (m3 b hb).2⟩⟩
    · obtain ⟨S', m1, m2, m3⟩ := k6 w' d' S1' (fun b hb hb' => hk b (by simp [hb]) hb') hr hn' (fun b hb => by
        rcases hs b hb with h | h
        · exact .inl h
        · exact .inr fun hb' => h (by simp [hb']))
      refine ⟨T1 ++ S', RepL.cons_ (Rep.keep _ h2 fun b hb => hk b (by simp [hb]) fun hb' => hn.2.2 b hb b (k3 b hb') rfl) m1, List.nodup_append.2 ⟨hn.1, m2, fun a ha b hb e => ?_⟩, fun b hb => ?_⟩
      · subst e
        rcases m3 a hb with h | h
        · exact hn.2.2 a ha a h rfl
        · rcases hs a h with h' | h'
          · exact hn.2.2 a ha a (k3 a h') rfl
          · exact h' (by simp [ha])
      · rcases List.mem_append.1 hb with hb | hb
        · exact .inl (by simp [hb])
        · rcases m3 b hb with h | h
          · exact .inl (by simp [h])
          · exact .inr h
theorem put_path {ds : List D} {us : List Value} {S1 : List Nat} {k : Nat} (hds : 0 < ds.length) (hnew : RepL w true ds us S1) (hn1 : S1.Nodup) : ∀ (p : List Nat) {d0 : D} {u : Value} {S : List Nat} {size : Nat} {ty : TypeId} {cs : List D}, Rep w true d0 u S → S.Nodup → (∀ b ∈ S1, b ∉ S) →
    D.get p d0 = some (.sl size ty cs) → k + ds.length ≤ cs.length →
    ∃ gg nn cc, hdr w p d0 u = .slice (some ⟨gg, 0, none⟩) nn cc ∧ gg ∈ S ∧ w.there gg k ds.length ∧
      ∃ S', Rep (w.setCells gg k us) true (D.put p k ds d0) u S' ∧ S'.Nodup ∧ (∀ b ∈ S', b ∈ S ∨ b ∈ S1) ∧ ∀ q, ¬ Under p k ds.length q → hdr (w.setCells gg k us) q (D.put p k ds d0) u = hdr w q d0 u
  | [], .val _, _, _, _, _, _, _, _, _, hg, _ => by simp [D.get] at hg
  | [], .sl size0 ty0 cs0, u, _, size, ty, cs, ⟨vs, T, S', hrow, hrl, rfl⟩, hnd, hdis, hg, hle => by
    simp [D.get] at hg
    obtain ⟨rfl, rfl, rfl⟩ := hg
    have hvl := RepL.length _ hrl
    have hul := RepL.length _ hnew
    have hn := List.nodup_append.1 hnd
    have hrow0 := hrow
    rcases own_cells hrow with ⟨rfl, rfl⟩ | ⟨gg, nn, cc, rfl, rfl, hvn, hcell, hfz⟩
    · simp at hvl; omega
    · obtain ⟨nv, hown, _⟩ := hrow0
      have hnn : nn = nv := by
        rcases hown.2 with ⟨h, _⟩ | ⟨_, _, _, h, _⟩
        · cases h
        · cases h; rfl
      subst hnn
      have hne : ∀ b, b ≠ gg → (w.setCells gg k us).heap[b]? = w.heap[b]? := fun b hb => setCells_ne us w gg k b hb
      have hg1 : ∀ b ∈ S1, b ≠ gg := fun b hb e => hdis b hb (by simp [e])
      have hg2 : ∀ b ∈ S', b ≠ gg := fun b hb e => hn.2.2 gg (by simp) b hb e.symm
      have hrl' := RepL.keep (w' := w.setCells gg k us) _ hrl fun b hb => hne b (hg2 b hb)
      have hnew' := RepL.keep (w' := w.setCells gg k us) _ hnew fun b hb => hne b (hg1 b hb)
      obtain ⟨S2, h1, h2, h3⟩ := RepL.setAt_ (c := k) hnew' hrl' (List.nodup_append.2 ⟨hn.2.1, hn1, fun a ha b hb e => hdis b hb (by simp [← e, ha])⟩) hle
      have hset := (own_setCells us k hown).1
      rw [setSeg_eq] at hset
      refine ⟨gg, nn, cc, rfl, by simp, own_there hown k ds.length (by omega), [gg] ++ S2, ⟨_, [gg], S2, ⟨nn, hset, rfl⟩, h1, rfl⟩, List.nodup_append.2 ⟨by simp, h2, fun a ha b hb e => ?_⟩, fun b hb => ?_, fun q hq => ?_⟩
      · simp at ha; subst ha; subst e
        rcases h3 a hb with h | h
        · exact hg2 a h rfl
        · exact hg1 a h rfl
      · rcases List.mem_append.1 hb with hb | hb
        · exact .inl (by simp at hb ⊢; exact .inl hb)
        · rcases h3 b hb with h | h
          · exact .inl (by simp [h])
          · exact .inr h
      · cases q with
        | nil => rfl
        | cons j r =>
          have hj : ¬ (k ≤ j ∧ j < k + ds.length) := fun h => hq ⟨j, r, rfl, h.1, h.2⟩
          simp only [D.put, hdr, Nat.zero_add]
          rw [setAt_get_ne ds cs0 k j hj]
          cases hc : cs0[j]? with
          | none => rfl
          | some d =>
            obtain ⟨v, Sj, k1, k2, k3⟩ := RepL.nth hrl hc
            have hlt : j < nn * size0 := by have := (List.getElem?_eq_some_iff.1 k1).1; omega
            have e1 : w.cell? ⟨gg, j, none⟩ = some v := hcell j v k1
            have e2 : (w.setCells gg k us).cell? ⟨gg, j, none⟩ = some v := by
              rw [World.ownsRow.cellAt hset j hlt, setAt_get_ne us vs k j (by omega), k1]
            simp only [e1, e2, Option.getD_some]
            exact hdr_keep r k2 fun b hb => hne b (hg2 b (k3 b hb))
  | i :: p, .val _, _, _, _, _, _, _, _, _, hg, _ => by simp [D.get] at hg
  | i :: p, .sl size0 ty0 cs0, u, _, size, ty, cs, ⟨vs, T, S', hrow, hrl, rfl⟩, hnd, hdis, hg, hle => by
    simp only [D.get] at hg
    cases hc : cs0[i]? with
    | none => rw [hc] at hg; simp at hg
    | some d =>
      rw [hc] at hg
      have hn := List.nodup_append.1 hnd
      obtain ⟨v, Si, k1, k2, k3, k4, k5, k6⟩ := RepL.put1 hrl hn.2.1 hc
      have hrow0 := hrow
      rcases own_cells hrow with ⟨rfl, rfl⟩ | ⟨g0, nn0, cc0, rfl, rfl, hvn, hcell, hfz⟩
      · simp at k1
      · obtain ⟨gg, nn, cc, m1, m2, m3, Si', m4, m5, m6, m7⟩ := put_path hds hnew hn1 p k2 k4 (fun b hb hb' => hdis b hb (by simp [k3 b hb'])) hg hle
        have hne : ∀ b, b ≠ gg → (w.setCells gg k us).heap[b]? = w.heap[b]? := fun b hb => setCells_ne us w gg k b hb
        have hg0 : g0 ≠ gg := fun e => hn.2.2 g0 (by simp) gg (k3 gg m2) e
        obtain ⟨S2, q1, q2, q3⟩ := k6 (w.setCells gg k us) (D.put p k ds d) Si' (fun b hb hb' => hne b fun e => hb' (e ▸ m2)) m4 m5 (fun b hb => by
          rcases m6 b hb with h | h
          · exact .inl h
          · exact .inr fun hb' => hdis b h (by simp [hb']))
        have hcell0 : ∀ j v, vs[j]? = some v → (w.setCells gg k us).cell? ⟨g0, j, none⟩ = some v := fun j v hv => by
          rw [World.cell?_of_block (w := w) (a := ⟨g0, j, none⟩) (hne g0 hg0)]; exact hcell j v hv
        have e0 : hdr w (i :: p) (.sl size0 ty0 cs0) (.slice (some ⟨g0, 0, none⟩) nn0 cc0) = hdr w p d v := by
          simp only [hdr, hc, Nat.zero_add, hcell i v k1, Option.getD_some]
        refine ⟨gg, nn, cc, by rw [e0]; exact m1, by simp [k3 gg m2], m3, [g0] ++ S2, ⟨vs, [g0], S2, hrow.keep fun b hb => hne b (by simp at hb; subst hb; exact hg0), ?_, rfl⟩, List.nodup_append.2 ⟨by simp, q2, fun a ha b hb e => ?_⟩, fun b hb => ?_, fun q hq => ?_⟩
        · simp only [D.put, hc]; exact q1
        · simp at ha; subst ha; subst e
          rcases q3 a hb with h | h
          · exact hn.2.2 a (by simp) a h rfl
          · rcases m6 a h with h' | h'
            · exact hn.2.2 a (by simp) a (k3 a h') rfl
            · exact hdis a h' (by simp)
        · rcases List.mem_append.1 hb with hb | hb
          · exact .inl (by simp at hb ⊢; exact .inl hb)
          · rcases q3 b hb with h | h
            · exact .inl (by simp [h])
            · rcases m6 b h with h' | h'
              · exact .inl (by simp [k3 b h'])
              · exact .inr h'
        · cases q with
          | nil => rfl
          | cons j r =>
            simp only [D.put, hc, hdr, Nat.zero_add]
            by_cases hj : j = i
            · subst hj
              have hlt : j < cs0.length := (List.getElem?_eq_some_iff.1 hc).1
              rw [List.getElem?_set_self hlt]
              simp only [hc, hcell0 j v k1, hcell j v k1, Option.getD_some]
              exact m7 r fun ⟨j', r', e, h1, h2⟩ => hq ⟨j', r', by rw [e]; rfl, h1, h2⟩
            · rw [List.getElem?_set_ne (Ne.symm hj)]
              cases hcj : cs0[j]? with
              | none => rfl
              | some dj =>
                obtain ⟨vj, Sj, n1, n2, n3⟩ := k5 j dj hj hcj
                simp only [hcell0 j vj n1, hcell j vj n1, Option.getD_some]
                exact hdr_keep r n2 fun b hb => hne b fun e => (n3 b hb).2 (e ▸ m2)
/-- The own slice of a cell turns. -/
theorem CRel.put1 : ∀ {cs : List Cell} {us : List Value} {S : List Nat} {c : Nat} {d : D} {η : Heads}, CRel B w cs us S → S.Nodup → cs[c]? = some (.own d η) →
    ∃ u S1, d.isSl = true ∧ Rep w true d u S1 ∧ (∀ p, η p = hdr w p d u) ∧ (∀ b ∈ S1, b ∈ S) ∧ S1.Nodup ∧
    ∀ (w' : World) (d' : D) (η' : Heads) (S1' : List Nat), Below B w w' → (∀ b ∈ S, b ∉ S1 → w'.heap[b]? = w.heap[b]?) → d'.isSl = true → Rep w' true d' u S1' → (∀ p, η' p = hdr w' p d' u) → S1'.Nodup → (∀ b ∈ S1', b ∈ S1 ∨ b ∉ S) →
      ∃ S', CRel B w' (cs.set c (.own d' η')) us S' ∧ S'.Nodup ∧ ∀ b ∈ S', b ∈ S ∨ b ∈ S1'
  | [], _, _, _, _, _, _, _, h => by simp at h
  | .a x :: cs, _, _, 0, _, _, _, _, h => by simp at h
  | .a x :: cs, _, S, c + 1, d, η, ⟨u, us', rfl, h2, h3⟩, hnd, h => by
    obtain ⟨v, S1, k0, k1, k2, k3, k4, k5⟩ := CRel.put1 h3 hnd (by simpa using h)
    refine ⟨v, S1, k0, k1, k2, k3, k4, fun w' d' η' S1' hb hk hs hr hη hn hsub => ?_⟩
    obtain ⟨S', m1, m2, m3⟩ := k5 w' d' η' S1' hb hk hs hr hη hn hsub
    exact ⟨S', ⟨u, us', rfl, h2.mono hb, m1⟩, m2, m3⟩
  | .own d0 η0 :: cs, _, _, 0, d, η, ⟨u, us', T1, T2, rfl, rfl, h3, h4, h5, h6⟩, hnd, h => by
    simp at h; obtain ⟨rfl, rfl⟩ := h
    have hn := List.nodup_append.1 hnd
    refine ⟨u, T1, h3, h4, h5, fun b hb => by simp [hb], hn.1, fun w' d' η' S1' hb hk hs hr hη hn' hsub => ?_⟩
    refine ⟨S1' ++ T2, ⟨u, us', S1', T2, rfl, rfl, hs, hr, hη, h6.keep hb fun b hb' => hk b (by simp [hb']) fun hb'' => hn.2.2 b hb'' b hb' rfl⟩, List.nodup_append.2 ⟨hn', hn.2.1, fun a ha b hb' e => ?_⟩, fun b hb' => ?_⟩
    · subst e
      rcases hsub a ha with h | h
      · exact hn.2.2 a h a hb' rfl
      · exact h (by simp [hb'])
    · rcases List.mem_append.1 hb' with hb' | hb'
      · exact .inr hb'
      · exact .inl (by simp [hb'])
  | .own d0 η0 :: cs, _, _, c + 1, d, η, ⟨u, us', T1, T2, rfl, rfl, h3, h4, h5, h6⟩, hnd, h => by
    have hn := List.nodup_append.1 hnd
    obtain ⟨v, S1, k0, k1, k2, k3, k4, k5⟩ := CRel.put1 h6 hn.2.1 (by simpa using h)
    refine ⟨v, S1, k0, k1, k2, fun b hb => by simp [k3 b hb], k4, fun w' d' η' S1' hb hk hs hr hη hn' hsub => ?_⟩
    obtain ⟨S', m1, m2, m3⟩ := k5 w' d' η' S1' hb (fun b hb1 hb2 => hk b (by simp [hb1]) hb2) hs hr hη hn' (fun b hb1 => by
      rcases hsub b hb1 with h | h
      · exact .inl h
      · exact .inr fun h' => h (by simp [h']))
    have hT : ∀ b ∈ T1, w'.heap[b]? = w.heap[b]? := fun b hb1 => hk b (by simp [hb1]) fun hb2 => hn.2.2 b hb1 b (k3 b hb2) rfl
    refine ⟨T1 ++ S', ⟨u, us', T1, S', rfl, rfl, h3, Rep.keep _ h4 hT, fun p => by rw [hdr_keep p h4 hT]; exact h5 p, m1⟩, List.nodup_append.2 ⟨hn.1, m2, fun a ha b hb1 e => ?_⟩, fun b hb1 => ?_⟩
    · subst e
      rcases m3 a hb1 with h | h
      · exact hn.2.2 a ha a h rfl
      · rcases hsub a h with h' | h'
        · exact hn.2.2 a ha a (k3 a h') rfl
        · exact h' (by simp [ha])
    · rcases List.mem_append.1 hb1 with hb1 | hb1
      · exact .inl (by simp [hb1])
      · rcases m3 b hb1 with h | h
        · exact .inl (by simp [h])
        · exact .inr h
theorem ORel.put1 {ob : Ob} {S : List Nat} {c : Nat} {d : D} {η : Heads} (ho : ORel B w ob S) (hnd : S.Nodup) (h : ob.own c = some (d, η)) :
    ∃ u S1, d.isSl = true ∧ Rep w true d u S1 ∧ (∀ p, η p = hdr w p d u) ∧ (∀ b ∈ S1, b ∈ S) ∧ S1.Nodup ∧
    ∀ (w' : World) (d' : D) (η' : Heads) (S1' : List Nat), Below B w w' → (∀ b ∈ S, b ∉ S1 → w'.heap[b]? = w.heap[b]?) → d'.isSl = true → Rep w' true d' u S1' → (∀ p, η' p = hdr w' p d' u) → S1'.Nodup → (∀ b ∈ S1', b ∈ S1 ∨ b ∉ S) →
      ∃ S', ORel B w' (ob.putOwn c d' η') S' ∧ S'.Nodup ∧ ∀ b ∈ S', b ∈ S ∨ b ∈ S1' := by
  cases ob with
  | none => simp [Ob.own] at h
  | loose d0 η0 =>
    cases c with
    | succ c => simp [Ob.own] at h
    | zero =>
      simp [Ob.own] at h; obtain ⟨rfl, rfl⟩ := h
      obtain ⟨h0, u, h1, h2⟩ := ho
      exact ⟨u, S, h0, h1, h2, fun _ h => h, hnd, fun w' d' η' S1' _ _ hs hr hη hn _ => ⟨S1', ⟨hs, u, hr, hη⟩, hn, fun b hb => .inr hb⟩⟩
  | box b ty cs =>
    obtain ⟨us, S0, h1, h2, rfl⟩ := ho
    have hn := List.nodup_cons.1 hnd
    have hc : cs[c]? = some (.own d η) := by
      simp only [Ob.own] at h
      split at h
      · simp at h; obtain ⟨rfl, rfl⟩ := h; assumption
      · simp at h
    obtain ⟨u, S1, k0, k1, k2, k3, k4, k5⟩ := h2.put1 hn.2 hc
    refine ⟨u, S1, k0, k1, k2, fun b hb => by simp [k3 b hb], k4, fun w' d' η' S1' hb hk hs hr hη hn' hsub => ?_⟩
    obtain ⟨S', m1, m2, m3⟩ := k5 w' d' η' S1' hb (fun b hb1 hb2 => hk b (by simp [hb1]) hb2) hs hr hη hn' (fun b hb1 => by
      rcases hsub b hb1 with h | h
      · exact .inl h
      · exact .inr fun h' => h (by simp [h']))
    refine ⟨b :: S', ⟨us, S', (hk b (by simp) fun hb1 => hn.1 (k3 b hb1)).trans h1, m1, rfl⟩, List.nodup_cons.2 ⟨fun hb1 => ?_, m2⟩, fun x hx => ?_⟩
    · rcases m3 b hb1 with h | h
      · exact hn.1 h
      · rcases hsub b h with h' | h'
        · exact hn.1 (k3 b h')
        · exact h' (by simp)
    · rcases List.mem_cons.1 hx with rfl | hx
      · exact .inl (by simp)
      · rcases m3 x hx with h | h
        · exact .inl (by simp [h])
        · exact .inr h
theorem put_sl : ∀ (p : List Nat) (i : Nat) (ds : List D) {d : D}, d.isSl = true → (D.put p i ds d).isSl = true
  | [], _, _, .sl _ _ _, _ => rfl
  | _ :: _, _, _, .sl _ _ _, _ => rfl
  | [], _, _, .val _, h => by cases h
  | _ :: _, _, _, .val _, h => by cases h
theorem datum_rel : ∀ {ks : List (Option (Nat × Nat))} {cs : List Cell} {us : List Value} {S : List Nat} {ds : List D}, CRel B w cs us S → datumL ks cs = some ds → RepL w true ds us S
  | _, [], us, S, ds, h, hd => by simp [datumL] at hd; subst hd; exact h
  | ks, .a x :: cs, us, S, ds, ⟨u, us', h1, h2, h3⟩, hd => by
    cases x with
    | v x =>
      simp only [datumL] at hd
      split at hd
      · simp at hd; subst hd
        subst h1
        rw [show u = x from h2]
        exact ⟨x, us', [], S, rfl, rfl, nilD_rep _ _, datum_rel h3 (by assumption)⟩
      · simp at hd
    | _ => simp [datumL] at hd
  | ks, .own d η :: cs, us, S, ds, ⟨u, us', S1, S2, h1, h2, _, h4, _, h6⟩, hd => by
    simp only [datumL] at hd
    split at hd
    · simp at hd; subst hd
      subst h1 h2
      exact RepL.cons_ h4 (datum_rel h6 (by assumption))
    · simp at hd
theorem hdr_flat {j : Nat} {r : List Nat} {v : Value} : ∀ (p : List Nat) {d : D} {u : Value} {size : Nat} {ty : TypeId} {cs : List D}, D.get p d = some (.sl size ty cs) → cs[j]? = some (.val v) → hdr w (p ++ j :: r) d u = undef
  | [], .val _, _, _, _, _, hg, _ => by simp [D.get] at hg
  | [], .sl s t cs0, u, size, ty, cs, hg, hc => by
    simp [D.get] at hg
    obtain ⟨rfl, rfl, rfl⟩ := hg
    simp only [List.nil_append]
    have hv : ∀ x, hdr w r (.val v) x = undef := fun x => by cases r <;> rfl
    cases u with
    | slice A n c => cases A with
      | some a => simp only [hdr, hc, hv]
      | none => rfl
    | _ => rfl
  | i :: p, .val _, _, _, _, _, hg, _ => by simp [D.get] at hg
  | i :: p, .sl s t cs0, u, size, ty, cs, hg, hc => by
    simp only [D.get] at hg
    cases hi : cs0[i]? with
    | none => rw [hi] at hg; simp at hg
    | some d' =>
      rw [hi] at hg
      cases u with
      | slice A n c => cases A with
        | some a => simp only [List.cons_append, hdr, hi]; exact hdr_flat p hg hc
        | none => rfl
      | _ => rfl
theorem get_put_self : ∀ (p : List Nat) {d : D} {k : Nat} {ds : List D} {size : Nat} {ty : TypeId} {cs : List D}, D.get p d = some (.sl size ty cs) → D.get p (D.put p k ds d) = some (.sl size ty (setAt cs k ds))
  | [], .val _, _, _, _, _, _, hg => by simp [D.get] at hg
  | [], .sl s t cs0, k, ds, size, ty, cs, hg => by
    simp [D.get] at hg
    obtain ⟨rfl, rfl, rfl⟩ := hg
    simp [D.put, D.get]
  | i :: p, .val _, _, _, _, _, _, hg => by simp [D.get] at hg
  | i :: p, .sl s t cs0, k, ds, size, ty, cs, hg => by
    simp only [D.get] at hg
    cases hi : cs0[i]? with
    | none => rw [hi] at hg; simp at hg
    | some d' =>
      rw [hi] at hg
      simp only [D.put, hi, D.get]
      rw [List.getElem?_set_self (List.getElem?_eq_some_iff.1 hi).1]
      exact get_put_self p hg
theorem flatB_val : ∀ {l : List D} {j : Nat}, flatB l = true → j < l.length → ∃ v, l[j]? = some (.val v)
  | .val u :: l, 0, _, _ => ⟨u, rfl⟩
  | .val u :: l, j + 1, h, hj => by simp only [flatB, Bool.and_eq_true] at h; simpa using flatB_val h.2 (by simpa using hj)
  | .sl _ _ _ :: _, _, h, _ => by simp [flatB] at h
  | [], _, _, hj => by simp at hj
theorem setAt_get {α : Type} : ∀ (vs : List α) (cs : List α) (k j : Nat), k + vs.length ≤ cs.length → k ≤ j → j < k + vs.length → (setAt cs k vs)[j]? = vs[j - k]?
  | [], cs, k, j, _, h1, h2 => by simp at h2; omega
  | v :: vs, cs, k, j, hl, h1, h2 => by
    simp only [List.length_cons] at hl h2
    show (setAt (cs.set k v) (k + 1) vs)[j]? = _
    by_cases e : j = k
    · subst e
      have keep : ∀ (vs : List α) (cs : List α) (k j : Nat), j < k → (setAt cs k vs)[j]? = cs[j]? := by
        intro vs
        induction vs with
        | nil => intros; rfl
        | cons a vs ih => intro cs k j hj; show (setAt (cs.set k a) (k + 1) vs)[j]? = _; rw [ih _ _ _ (by omega), List.getElem?_set_ne (by omega)]
      rw [keep _ _ _ _ (by omega), List.getElem?_set_self (by omega)]; simp
    · rw [setAt_get vs _ _ _ (by simp; omega) (by omega) (by omega), show j - k = (j - (k + 1)) + 1 by omega]; simp
theorem ok_st (h : RelF B w0 N s a w F) {t : TypeId} {x y : Operand} {x' y' : X} {n : Nat} {ks : List (Option (Nat × Nat))} {g : Option (Nat × Bool)} (ho : o.op = .store t x y) (hn : sizeAt P t = some n) (hx : compX x = some x') (hy : compX y = some y') (hr : runI P β ⟨o.dst, g, .st n ks x' y'⟩ s K) :
    OpOk P o a w (fun a' w' => ∃ s' F', RelF B w0 N s' a' w' F' ∧ K s') := by
  obtain ⟨hdst, l, h2, h3, h4⟩ := hr
  simp only at hdst
  obtain ⟨us, h5, h6⟩ := VRel.cells (ev_rel h hy) h2
  obtain ⟨inf, hinf, hsz⟩ := size_of hn
  have hul := A0RelL.len h6
  have ha : a.put o.dst undef = a := by rw [hdst]; rfl
  have hpv := ev_rel h hx
  obtain ⟨cs, s', S, F', hk, k2, k3, k4, k5, k6, k7, k8⟩ := take_rel h h6 h4
  have hlen := CRel.len k2
  split at hk
  · rename_i k c b he
    obtain ⟨ty, ds, k0, kc, kk⟩ := hk
    have hp : a.eval x = .pointer (some ⟨b, c, none⟩) := by rw [he] at hpv; exact hpv
    have hob := k3.ob k
    rw [k0] at hob
    obtain ⟨vs, S0, j1, j2, j3⟩ := hob
    have hvl := CRel.len j2
    have hrun : (execOp a.eval o).run P w = .ok .skip (w.setCells b c us) := by
      have hst := run_storeCells_cells (P := P) b c us 0 w (fun j hj => by
        have : c + j < vs.length := by omega
        simp [World.cell?, j1, this]) (fun j hj => by simp [World.frozen?, j1]) k8
      simp only [Nat.add_zero] at hst
      simp [execOp, ho, Instr.storeAt, hp, Instr.sureAddr, storeVar, h5, sizeOf, typeInfo, hinf, hsz, hul, h3, hst]
    obtain ⟨j4, j5⟩ := heap_setCells us w b c vs ty j1
    obtain ⟨j6, j7, j8, j9⟩ := setCells_rest us w b c
    have hfk := k3.fr k
    rw [j3] at hfk
    have hBb : B ≤ b := hfk.2 b (by simp)
    have hb : Below B w (w.setCells b c us) := ⟨j6, j7, j8, by rw [j9]; exact Nat.le_refl _, fun i hi => j5 i (by omega)⟩
    have hbF : ∀ g', g' ≠ k → b ∉ F' g' := fun g' hg' hh => k3.dj g' k hg' b hh (by rw [j3]; simp)
    have hbS : b ∉ S := fun hh => k5 k b hh (by rw [j3]; simp)
    have hbS0 : b ∉ S0 := (List.nodup_cons.1 hfk.1).1
    have hdis : (S0 ++ S).Nodup := List.nodup_append.2 ⟨(List.nodup_cons.1 hfk.1).2, k4.1, fun x hx y hy e => k5 k y hy (by rw [j3]; simp [← e, hx])⟩
    obtain ⟨S', m1, m2, m3⟩ := CRel.setAt_ (c := c) k2 j2 hdis (by omega)
    have hbS' : b ∉ S' := fun hh => by rcases m3 b hh with h | h; exact hbS0 h; exact hbS h
    -- the object is put aside, the world turns, the object comes back
    have r1 := k3.setO (g := k) (ob := .none) (S := []) rfl (Fresh.nil _) (by simp)
    have r2 := r1.world' hb fun g' x hx => by
      split at hx
      · simp at hx
      · rename_i hg'
        exact j5 x fun e => hbF g' hg' (e ▸ hx)
    have hob' : ORel B (w.setCells b c us) (.box b ty (setAt ds c cs)) (b :: S') := ⟨_, S', j4, m1.keep hb fun x hx => j5 x fun e => hbS' (e ▸ hx), rfl⟩
    have r3 := r2.setO (g := k) hob' ⟨List.nodup_cons.2 ⟨hbS', m2⟩, fun x hx => by
      rcases List.mem_cons.1 hx with rfl | hx
      · exact hBb
      · rcases m3 x hx with h | h
        · exact hfk.2 x (by simp [h])
        · exact k4.2 x h⟩ (fun g' hg' x hx => by
      rw [if_neg hg']
      rcases List.mem_cons.1 hx with rfl | hx
      · exact hbF g' hg'
      · rcases m3 x hx with h | h
        · exact fun hh => k3.dj g' k hg' x hh (by rw [j3]; simp [h])
        · exact k5 g' x h)
    have hss : (s'.setO k .none).setO k (.box b ty (setAt ds c cs)) = s'.setO k (.box b ty (setAt ds c cs)) := by
      simp only [St.setO, St.mk.injEq, true_and]
      funext i; split <;> rfl
    rw [hss] at r3
    exact OpOk.of_skip hrun (by rw [ha]; exact ⟨_, _, r3, kk⟩)
  · rename_i k c p i hx0 he
    obtain ⟨hpos, ds, hdat, d0, η, dd, j1, j2, j3, j4, j5, hk⟩ := hk
    have hp : a.eval x = .pointer (some (elemAddr hx0 i)) := by rw [he] at hpv; exact hpv
    have hnew := datum_rel k2 hdat
    have hdl := RepL.length _ hnew
    have hdn : ds.length = n := by omega
    have hfk := k3.fr k
    obtain ⟨u, S1, q0, q1, q2, q3, q4, q5⟩ := ORel.put1 (k3.ob k) hfk.1 j1
    cases dd with
    | val _ => cases j4
    | sl size ty cs0 =>
      simp only [D.cells] at j5
      obtain ⟨gg, nn, cc, r1, r2, r3, S1', r4, r5, r6, r7⟩ := put_path (k := i) (by omega) hnew k4.1 p q1 q4 (fun b hb hb' => k5 k b hb (q3 b hb')) j3 (by omega)
      have hhx : hx0 = .slice (some ⟨gg, 0, none⟩) nn cc := by rw [← j2, q2, r1]
      have hp' : a.eval x = .pointer (some ⟨gg, i, none⟩) := by rw [hp, hhx]; simp [elemAddr]
      have hrun : (execOp a.eval o).run P w = .ok .skip (w.setCells gg i us) := by
        have hst := run_storeCells_cells (P := P) gg i us 0 w (fun j hj => (r3 j (by omega)).1) (fun j hj => (r3 j (by omega)).2) k8
        simp only [Nat.add_zero] at hst
        simp [execOp, ho, Instr.storeAt, hp', Instr.sureAddr, storeVar, h5, sizeOf, typeInfo, hinf, hsz, hul, h3, hst]
      obtain ⟨j6, j7, j8, j9⟩ := setCells_rest us w gg i
      have hggF : gg ∈ F' k := q3 gg r2
      have hBb : B ≤ gg := hfk.2 gg hggF
      have hne : ∀ b, b ≠ gg → (w.setCells gg i us).heap[b]? = w.heap[b]? := fun b hb => setCells_ne us w gg i b hb
      have hb : Below B w (w.setCells gg i us) := ⟨j6, j7, j8, by rw [j9]; exact Nat.le_refl _, fun j hj => hne j (by omega)⟩
      have hsl : (D.put p i ds d0).isSl = true := put_sl _ _ _ q0
      obtain ⟨S', m1, m2, m3⟩ := q5 (w.setCells gg i us) (D.put p i ds d0) (fun q => hdr (w.setCells gg i us) q (D.put p i ds d0) u) S1' hb (fun b _ hb2 => hne b fun e => hb2 (e ▸ r2)) hsl r4 (fun _ => rfl) r5 (fun b hb1 => by
        rcases r6 b hb1 with h | h
        · exact .inl h
        · exact .inr fun h' => k5 k b h h')
      have t1 := k3.setO (g := k) (ob := .none) (S := []) rfl (Fresh.nil _) (by simp)
      have t2 := t1.world' hb fun g' x hx => by
        split at hx
        · simp at hx
        · rename_i hg'
          exact hne x fun e => k3.dj g' k hg' x hx (e ▸ hggF)
      have hS'F : ∀ x ∈ S', x ∈ F' k ∨ x ∈ S := fun x hx => by
        rcases m3 x hx with h | h
        · exact .inl h
        · rcases r6 x h with h' | h'
          · exact .inl (q3 x h')
          · exact .inr h'
      have t3 := t2.setO (g := k) m1 ⟨m2, fun x hx => by
        rcases hS'F x hx with h | h
        · exact hfk.2 x h
        · exact k4.2 x h⟩ (fun g' hg' x hx => by
        rw [if_neg hg']
        rcases hS'F x hx with h | h
        · exact fun hh => k3.dj g' k hg' x hh h
        · exact k5 g' x h)
      have hss : (s'.setO k .none).setO k ((s'.o k).putOwn c (D.put p i ds d0) (fun q => hdr (w.setCells gg i us) q (D.put p i ds d0) u)) = s'.setO k ((s'.o k).putOwn c (D.put p i ds d0) (fun q => hdr (w.setCells gg i us) q (D.put p i ds d0) u)) := by
        simp only [St.setO, St.mk.injEq, true_and]
        funext i; split <;> rfl
      rw [hss] at t3
      exact OpOk.of_skip hrun (by
        rw [ha]
        have hlike : ∀ q, ¬ Under p i n q → hdr (w.setCells gg i us) q (D.put p i ds d0) u = η q := fun q hq => by rw [q2]; exact r7 q (by rw [hdn]; exact hq)
        refine ⟨_, _, t3, stH_at hk hlike fun hf => ?_⟩
        simp only [Bool.and_eq_true] at hf
        funext q
        by_cases hq : Under p i n q
        · obtain ⟨j, r, rfl, hj1, hj2⟩ := hq
          obtain ⟨v1, hv1⟩ := flatB_val (j := j - i) hf.1 (by omega)
          obtain ⟨v2, hv2⟩ := flatB_val (j := j - i) hf.2 (by simp only [D.cells, List.length_take, List.length_drop]; omega)
          rw [q2]
          rw [hdr_flat (w := w.setCells gg i us) (j := j) (v := v1) p (get_put_self p j3) (by rw [setAt_get _ _ _ _ (by omega) hj1 (by omega)]; exact hv1)]
          refine (hdr_flat (v := v2) p j3 ?_).symm
          rw [← hv2]
          simp only [D.cells]
          rw [List.getElem?_take, if_pos (by omega), List.getElem?_drop]
          congr 1; omega
        · exact hlike q hq)
  · exact hk.elim
end
end Go.Proofs.YtnhdcbhcocgjhaaGreat
set_option linter.unusedSimpArgs false
set_option linter.unusedVariables false
namespace Go.Proofs.YtnhdcbhcocgjhaaGreat
open Go.RowKit Go.Sort

section
variable {P : Program} {β B N : Nat} {w w0 : World} {s : St} {a : Act} {F : Nat → List Nat} {o : Oper} {K : St → Prop}
theorem setAt_eq {α : Type} : ∀ (xs us : List α) (k : Nat), k + xs.length ≤ us.length → setAt us k xs = us.take k ++ xs ++ us.drop (k + xs.length)
  | [], us, k, _ => by simp [setAt]
  | x :: xs, us, k, h => by
    have hk : k < us.length := by simp at h; omega
    rw [setAt, setAt_eq xs (us.set k x) (k + 1) (by simp at h ⊢; omega)]
    have e1 : (us.set k x).take (k + 1) = us.take k ++ [x] := by
      rw [List.take_add_one, List.take_set_of_le (Nat.le_refl _)]
      simp [hk]
    have e2 : (us.set k x).drop (k + 1 + xs.length) = us.drop (k + (x :: xs).length) := by
      rw [List.drop_set_of_lt (by omega)]
      congr 1
      simp; omega
    rw [e1, e2]
    simp
theorem cat_fill (h : RelF B w0 N s a w F) {size : Nat} : ∀ {parts : List (Nat × Operand)} {ps : List (Nat × Nat × X)} {l : List A0} {k : Nat} {us : List Value}, compPs (fun i => some (i * size, size)) parts = some ps → catA s ps = some l → parts.map (·.1) = List.range' k parts.length → us.length = (k + parts.length) * size →
    ∃ xs : List Value, A0RelL B w l xs ∧ xs.length = parts.length * size ∧ Instr.fill (fun i => some (i * size, size)) us.toArray (parts.map fun p => (p.1, a.eval p.2)) = some (us.take (k * size) ++ xs).toArray
  | [], ps, l, k, us, h1, h2, _, h4 => by
    simp [compPs] at h1; subst h1
    simp [catA] at h2; subst h2
    refine ⟨[], rfl, by simp, ?_⟩
    simp at h4
    simp [Instr.fill, ← h4]
  | (i, x) :: parts, ps, l, k, us, h1, h2, h3, h4 => by
    simp only [compPs] at h1
    split at h1
    · rename_i off n x' ps' k1 k2 k3
      simp at h1; subst h1
      simp only [List.map_cons, List.length_cons, List.range'_succ, List.cons.injEq] at h3
      obtain ⟨rfl, h3⟩ := h3
      simp only [catA] at h2
      split at h2
      · rename_i m r k4 k5
        split at h2
        · rename_i k6
          simp at h2; subst h2
          obtain ⟨xs, k7, k8⟩ := VRel.cells (ev_rel h k2) k4
          have hxl := A0RelL.len k8
          simp only [Option.some.injEq, Prod.mk.injEq] at k1
          obtain ⟨rfl, rfl⟩ := k1
          have hsz : i * size + size + parts.length * size = us.length := by rw [h4, List.length_cons, Nat.add_mul, Nat.add_mul, Nat.one_mul]; omega
          have hle : i * size + xs.length ≤ us.length := by omega
          obtain ⟨ys, k9, k10, k11⟩ := cat_fill h (k := i + 1) (us := setAt us (i * size) xs) k3 k5 h3 (by rw [setAt_len, h4, List.length_cons]; congr 1; omega)
          have happ : ∀ (l m : List A0) (us vs : List Value), A0RelL B w l us → A0RelL B w m vs → A0RelL B w (l ++ m) (us ++ vs) := by
            intro l
            induction l with
            | nil => intro m us vs h1 h2; rw [show us = [] from h1]; exact h2
            | cons x l ih => intro m us vs h1 h2; obtain ⟨u, us', rfl, h3, h4⟩ := h1; exact ⟨u, _, rfl, h3, ih m us' vs h4 h2⟩
          refine ⟨xs ++ ys, happ _ _ _ _ k8 k9, by rw [List.length_append, hxl, k6, k10, List.length_cons, Nat.add_mul, Nat.one_mul]; omega, ?_⟩
          have e2 := fold_setAt (i * size) xs 0 us
          simp only [Nat.add_zero] at e2
          have e1 : ¬ (xs.length ≠ size ∨ us.length < i * size + xs.length) := by omega
          simp only [List.map_cons, Instr.fill, k7]
          rw [if_neg (by simpa using e1)]
          rw [← Array.foldl_toList, Array.toList_zipIdx]
          rw [show (xs.toArray.toList.zipIdx 0) = xs.zipIdx 0 from rfl, e2]
          rw [k11]
          congr 2
          have hx : xs.length = size := by omega
          have e3 : (i + 1) * size = (us.take (i * size) ++ xs).length := by rw [List.length_append, List.length_take, Nat.add_mul, Nat.one_mul]; omega
          rw [setAt_eq xs us (i * size) hle, e3, List.take_left]
          simp
        · simp at h2
      · simp at h2
    · simp at h1
theorem ok_bsl (h : RelF B w0 N s a w F) {t e : TypeId} {n size : Nat} {parts : Array (Nat × Operand)} {ps : List (Nat × Nat × X)} {g : Option (Nat × Bool)} {zs : List Value} {ks : List (Option (Nat × Nat))} (ho : o.op = .buildSlice t n parts) (ht : P.underlying t = some (.slice e)) (hsz : sizeAt P e = some size) (hs : 0 < size) (hz : zeroOf P e = some zs)
    (hidx : parts.toList.map (·.1) = List.range n) (hsm : n * size < 1000) (hps : compPs (fun i => some (i * size, size)) parts.toList = some ps) (hd : ∀ k, o.dst = some k → k < N) (hr : runI P β ⟨o.dst, g, .bsl e size n ks ps⟩ s K) :
    OpOk P o a w (fun a' w' => ∃ s' F', RelF B w0 N s' a' w' F' ∧ K s') := by
  obtain ⟨l, h1, h2⟩ := hr
  have hpl : parts.toList.length = n := by have := congrArg List.length hidx; simpa using this
  obtain ⟨inf, hinf, hsize⟩ := size_of hsz
  have hzz : ∃ z, inf.zero = some z := by
    unfold zeroOf at hz
    rw [hinf] at hz
    simp only at hz
    split at hz
    · exact ⟨_, by assumption⟩
    · simp at hz
  obtain ⟨z, hzz⟩ := hzz
  have hfill : ∀ us : List Value, us.length = n * size → ∃ xs : List Value, A0RelL B w l xs ∧ xs.length = n * size ∧ Instr.fill (fun i => some (i * size, size)) us.toArray (parts.toList.map fun p => (p.1, a.eval p.2)) = some xs.toArray := fun us hus => by
    obtain ⟨xs, k1, k2, k3⟩ := cat_fill h (k := 0) (us := us) hps h1 (by rw [hidx, hpl, List.range_eq_range']) (by rw [hus, hpl, Nat.zero_add])
    rw [hpl] at k2
    refine ⟨xs, k1, k2, ?_⟩
    rw [k3]
    simp
  obtain ⟨xs, h3, h4, hrun⟩ : ∃ xs : List Value, A0RelL B w l xs ∧ xs.length = n * size ∧ (execOp a.eval o).run P w = .ok (.value (.slice (some ⟨w.heap.size, 0, none⟩) n n)) (w.alloc (.cells xs.toArray e)) := by
    have hno : ¬ (16777216 < n * size) := by omega
    have hmapl : (parts.map fun (p : Nat × Operand) => (p.1, a.eval p.2)).toList = parts.toList.map fun p => (p.1, a.eval p.2) := by simp
    have hf : ∀ f : Nat → Value, ∃ xs : List Value, A0RelL B w l xs ∧ xs.length = n * size ∧ Instr.fill (fun i => some (i * size, size)) ((Array.range (n * size)).map f) (parts.toList.map fun p => (p.1, a.eval p.2)) = some xs.toArray := fun f => by
      obtain ⟨xs, k1, k2, k3⟩ := hfill ((Array.range (n * size)).map f).toList (by simp)
      rw [Array.toArray_toList] at k3
      exact ⟨xs, k1, k2, k3⟩
    by_cases h0 : n * size = 0
    · obtain ⟨xs, k1, k2, k3⟩ := hf fun i => (#[] : Array Value)[i % 0]!
      refine ⟨xs, k1, k2, ?_⟩
      rw [h0] at k3
      have hnn : n = 0 := by
        rcases Nat.mul_eq_zero.1 h0 with h | h
        · exact h
        · omega
      subst hnn
      have hp0 : parts.toList = [] := List.eq_nil_of_length_eq_zero hpl
      have hp1 : parts = #[] := by rw [← Array.toArray_toList (xs := parts), hp0]
      have hx0 : xs = [] := List.eq_nil_of_length_eq_zero (by rw [k2, Nat.zero_mul])
      subst hx0
      simp [execOp, ho, Instr.buildSlice, run_underlying ht, sizeOf, typeInfo, hinf, hsize, hp1, Instr.fill, newRow, Array.range_zero']
    · obtain ⟨xs, k1, k2, k3⟩ := hf fun i => z.cells[i % z.cells.size]!
      refine ⟨xs, k1, k2, ?_⟩
      have hno2 : ¬ (n * size > 2 ^ 24) := by omega
      simp only [execOp, ho, Sem.run_bind, Instr.buildSlice, run_underlying ht, Result.andThen_ok, sizeOf, typeInfo, hinf, hsize, Sem.run_pure, if_neg hno2, if_neg h0, zeroValue, hzz, hmapl, k3]
      simp [hinf, hsize, hno2, h0, hzz, hmapl, k3, newRow]
  obtain ⟨cs, s', S, F', ⟨ds, kd, kk⟩, k2, k3, k4, k5, k6, k7, _⟩ := take_rel h h3 h2
  have hb : Below w.heap.size w (w.alloc (.cells xs.toArray e)) := (Below.refl _ _).alloc (Nat.le_refl _) _
  have hB : B ≤ w.heap.size := Nat.le_trans h.hB h.below.size
  have hSlt : ∀ b ∈ S, b < w.heap.size := fun b hb' => k2.lt b hb'
  have hrl := datum_rel k2 kd
  have hrl' : RepL (w.alloc (.cells xs.toArray e)) true ds xs S := RepL.keep _ hrl fun b hb' => hb.block b (hSlt b hb')
  have hown : Rep (w.alloc (.cells xs.toArray e)) true (.sl size e ds) (.slice (some ⟨w.heap.size, 0, none⟩) n n) (w.heap.size :: S) :=
    ⟨xs, [w.heap.size], S, ⟨n, World.ownsRow_lit w xs.toArray n (Nat.zero_le _) (by unfold maxLen; have : n ≤ n * size := Nat.le_mul_of_pos_right _ hs; omega) (by simpa using h4), rfl⟩, hrl', rfl⟩
  have hF'lt : ∀ g, ∀ b ∈ F' g, b < w.heap.size := fun g b hb' => (k3.ob g).lt b hb'
  have hob : ORel B (w.alloc (.cells xs.toArray e)) (.loose (.sl size e ds) (fun p => hdr (w.alloc (.cells xs.toArray e)) p (.sl size e ds) (.slice (some ⟨w.heap.size, 0, none⟩) n n))) (w.heap.size :: S) := ⟨rfl, _, hown, fun _ => rfl⟩
  have h5 := (k3.world hb).setO (g := 100 * (β + o.dst.getD 0)) hob ⟨List.nodup_cons.2 ⟨fun hh => by have := hSlt _ hh; omega, k4.1⟩, fun b hb' => by rcases List.mem_cons.1 hb' with rfl | hb'; exact hB; exact k4.2 b hb'⟩ (fun g' _ b hb' => by
    rcases List.mem_cons.1 hb' with rfl | hb'
    · exact fun hh => by have := hF'lt g' _ hh; omega
    · exact k5 g' b hb')
  have hv : VRel B (w.alloc (.cells xs.toArray e)) (.c (.h (100 * (β + o.dst.getD 0)) 0 [] (.slice (some ⟨w.heap.size, 0, none⟩) n n))) (.slice (some ⟨w.heap.size, 0, none⟩) n n) := ⟨rfl, rfl⟩
  exact OpOk.of_run hrun ⟨_, _, h5.put hv hd, kk _⟩
theorem dest_rel (h : RelF B w0 N s a w F) {e size : Nat} {x : AV} {u : Value} {K : List D → St → Prop} (hv : VRel B w x u) (hk : DestK s e size x K) :
    ∃ xs s' S F', K xs s' ∧ Rep w true (.sl size e xs) u S ∧ RelF B w0 N s' a w F' ∧ Fresh B S ∧ (∀ g, ∀ b ∈ S, b ∉ F' g) ∧ (∀ g b, b ∈ F' g → b ∈ F g) ∧ ∀ b ∈ S, ∃ g, b ∈ F g := by
  unfold DestK at hk
  split at hk
  · have hu : u = .slice none 0 0 := hv
    subst hu
    exact ⟨[], s, [], F, hk, Rep.nil_ w size e, h, Fresh.nil _, by simp, fun _ _ h => h, by simp⟩
  · rename_i g c p x'
    obtain ⟨rfl, cs, η, ho, hx, hk⟩ := hk
    obtain ⟨u', S1, F1, j1, j2, j3, j4, j5, j6, j7, j8⟩ := h.rm ho
    have hu : u = u' := by rw [hv.1, ← hx, j3, hdr_nil j1]
    subst hu
    exact ⟨cs, _, S1, F1, hk, j2, j5, j4, j6, j8, fun b hb => ⟨g, j7 b hb⟩⟩
  · exact hk.elim
theorem flat_one : ∀ {ds : List D} {us : List Value} {S : List Nat} {own : Bool}, flatB ds = true → RepL w own ds us S → (∀ u ∈ us, u.oneCell' = true) ∧ ∀ (w' : World) (own' : Bool), RepL w' own' ds us []
  | [], us, S, own, _, h => by obtain ⟨rfl, _⟩ := h; exact ⟨by simp, fun _ _ => ⟨rfl, rfl⟩⟩
  | .val u :: ds, us, S, own, hf, h => by
    obtain ⟨v, vs', S1, S2, rfl, rfl, h3, h4⟩ := h
    simp only [flatB, Bool.and_eq_true] at hf
    obtain ⟨h5, h6⟩ := flat_one hf.2 h4
    obtain ⟨rfl, rfl⟩ := h3
    refine ⟨fun u hu => ?_, fun w' own' => RepL.val_ (h6 w' own')⟩
    rcases List.mem_cons.1 hu with rfl | hu
    · exact hf.1
    · exact h5 u hu
  | .sl _ _ _ :: _, _, _, _, hf, _ => by simp [flatB] at hf
theorem rep_one {own : Bool} : ∀ {ds : List D} {us : List Value} {S : List Nat}, RepL w own ds us S → (∀ d ∈ ds, ∀ u, d = .val u → u.oneCell' = true) → ∀ u ∈ us, u.oneCell' = true
  | [], us, S, h, _ => by obtain ⟨rfl, _⟩ := h; simp
  | d :: ds, us, S, h, hd => by
    obtain ⟨v, vs', S1, S2, rfl, rfl, h3, h4⟩ := h
    intro u hu
    rcases List.mem_cons.1 hu with rfl | hu
    · cases d with
      | val x => obtain ⟨rfl, _⟩ := h3; exact hd _ (by simp) _ rfl
      | sl _ _ _ => obtain ⟨_, _, _, rfl⟩ := rep_form h3; rfl
    · exact rep_one h4 (fun d' hd' => hd d' (by simp [hd'])) u hu
/-- append's run, in terms of data. -/
theorem append_run {t e : TypeId} {i : TypeInfo} {zs : List Value} (ht : P.underlying t = some (.slice e)) (hi : P.info? e = some i) (hz : zeroOf P e = some zs) (hs : 0 < i.size) {ty : TypeId} {xs ys : List D} {v : Value} {S Sy : List Nat}
    (hrep : Rep w true (.sl i.size e xs) v S) {A : Option Addr} {m c : Nat} {news : List Value} (hy : RepL w true ys news Sy) (hm : news.length = m * i.size) (hA : A = none → m = 0 ∧ c = 0) (hnews : ∀ ad, A = some ad → ∀ j u, news[j]? = some u → w.cell? (ad.add j) = some u)
    (h1 : ∀ u ∈ news, u.oneCell' = true) (hF : Fresh B (S ++ Sy)) (hB : B ≤ w.heap.size) (h63 : xs.length / i.size + ys.length / i.size ≤ maxLen) (hbytes : (xs.length / i.size + ys.length / i.size) * i.bytes ≤ 140737488355328) :
    ∃ v' w' S', (Builtin.append_ #[t, t] ty #[v, .slice A m c]).run P w = .ok v' w' ∧ Rep w' true (.sl i.size e (xs ++ ys)) v' S' ∧ Fresh B S' ∧ Only S w w' ∧ ∀ s ∈ S', s ∈ S ∨ s ∈ Sy ∨ w.heap.size ≤ s := by
  obtain ⟨vs, T, S1, ⟨n, hown, rfl⟩, hrl, rfl⟩ := hrep
  have hvl := RepL.length _ hrl
  have hyl := RepL.length _ hy
  have hxn : xs.length / i.size = n := by rw [← hvl, hown.1]; exact Nat.mul_div_cancel _ hs
  have hyn : ys.length / i.size = m := by rw [← hyl, hm]; exact Nat.mul_div_cancel _ hs
  rw [hxn, hyn] at h63 hbytes
  unfold zeroOf at hz
  rw [hi] at hz
  simp only at hz
  split at hz
  · rename_i z hzz
    split at hz
    · rename_i hcc
      simp only [Bool.and_eq_true, decide_eq_true_eq] at hcc
      cases A with
      | none =>
        obtain ⟨rfl, rfl⟩ := hA rfl
        have hn0 : news = [] := List.eq_nil_of_length_eq_zero (by rw [hm, Nat.zero_mul])
        subst hn0
        have hy0 : ys = [] := List.eq_nil_of_length_eq_zero (by rw [← hyl]; rfl)
        subst hy0
        exact ⟨v, w, blk v ++ S1, run_append_owned_none (P := P) w 0 t ty e i i.size ht hi v n vs hown, by rw [List.append_nil]; exact ⟨vs, blk v, S1, ⟨n, hown, rfl⟩, hrl, rfl⟩, hF.left, Only.refl _ _, fun s hs => .inl hs⟩
      | some ad =>
        have hnews' := hnews ad rfl
        obtain ⟨v', w', hr, h2, h3, _⟩ := run_append_own (P := P) w 0 t ty e i z i.size i.bytes ht hi hzz rfl rfl hcc.1 hs v n vs hown ad m c news hm hnews' h1 h63 hbytes (Nat.zero_le _)
        have honly : Only (blk v ++ S1) w w' := Only.of_grown h3 (fun b hb => by simp [hb])
        have honly1 : Only (blk v) w w' := Only.of_grown h3 (fun b hb => hb)
        have hF1 : ∀ s ∈ S1 ++ Sy, s ∉ blk v := fun s hs hb => by
          have := hF.1
          rw [List.append_assoc] at this
          exact (List.nodup_append.1 this).2.2 s hb s hs rfl
        have hnew : ∀ b ∈ blk v', b ∈ blk v ∨ b = w.heap.size := append_blk ht hi hzz hown hm hnews' h1 h63 hbytes hr
        have hrep' : Rep w' true (.sl i.size e (xs ++ ys)) v' (blk v' ++ (S1 ++ Sy)) :=
          ⟨vs ++ news, blk v', S1 ++ Sy, ⟨n + m, h2, rfl⟩, RepL.append_ _ (hrl.only honly1 fun s hs => hF1 s (by simp [hs])) (hy.only honly1 fun s hs => hF1 s (by simp [hs])), rfl⟩
        have hlt : ∀ s ∈ S1 ++ Sy, s < w.heap.size := fun s hs => by
          rcases List.mem_append.1 hs with hs | hs
          · exact RepL.lt _ hrl s hs
          · exact RepL.lt _ hy s hs
        refine ⟨v', w', _, hr, hrep', ?_, honly, fun s hs => ?_⟩
        · rw [List.append_assoc] at hF
          refine ⟨List.nodup_append.2 ⟨?_, (List.nodup_append.1 hF.1).2.1, fun a ha b hb e => ?_⟩, fun b hb => ?_⟩
          · rcases h2.2 with ⟨rfl, _⟩ | ⟨g, cap, cur, rfl, _⟩ <;> simp [blk]
          · subst e
            rcases hnew a ha with h4 | h4
            · exact hF1 a hb h4
            · have := hlt a hb; omega
          · rcases List.mem_append.1 hb with hb | hb
            · rcases hnew b hb with h4 | h4
              · exact hF.2 b (by simp [h4])
              · omega
            · exact hF.2 b (by rw [List.mem_append]; exact .inr hb)
        · rcases List.mem_append.1 hs with hs | hs
          · rcases hnew s hs with h4 | h4
            · exact .inl (by simp [h4])
            · right; right; omega
          · rcases List.mem_append.1 hs with hs | hs
            · exact .inl (by simp [hs])
            · exact .inr (.inl hs)
    · simp at hz
  · simp at hz
/-- What is appended: read and flat, or moved away. -/
theorem src_rel (h : RelF B w0 N s a w F) {size : Nat} (hs : 0 < size) {x : AV} {u : Value} {K : List D → St → Prop} (hv : VRel B w x u) (hk : SrcK s size x K) :
    ∃ ys s' Sy F' A m c news, K ys s' ∧ u = .slice A m c ∧ RepL w true ys news Sy ∧ news.length = m * size ∧ (A = none → m = 0 ∧ c = 0) ∧ (∀ b o, A = some ⟨b, o, none⟩ → ∀ j u, news[j]? = some u → w.cell? ⟨b, o + j, none⟩ = some u) ∧ (∀ ad, A = some ad → ad.spot = none ∨ news = []) ∧ (∀ u ∈ news, u.oneCell' = true) ∧
      RelF B w0 N s' a w F' ∧ Fresh B Sy ∧ (∀ g, ∀ b ∈ Sy, b ∉ F' g) ∧ (∀ g b, b ∈ F' g → b ∈ F g) ∧ ∀ b ∈ Sy, ∃ g, b ∈ F g := by
  -- a slice that is read, and flat
  have flat : ∀ (dd : D) (S : List Nat), dd.isSl = true → dd.size = size → flatB dd.cells = true → Rep w false dd u S → K dd.cells s →
      ∃ ys s' Sy F' A m c news, K ys s' ∧ u = .slice A m c ∧ RepL w true ys news Sy ∧ news.length = m * size ∧ (A = none → m = 0 ∧ c = 0) ∧ (∀ b o, A = some ⟨b, o, none⟩ → ∀ j u, news[j]? = some u → w.cell? ⟨b, o + j, none⟩ = some u) ∧ (∀ ad, A = some ad → ad.spot = none ∨ news = []) ∧ (∀ u ∈ news, u.oneCell' = true) ∧
      RelF B w0 N s' a w F' ∧ Fresh B Sy ∧ (∀ g, ∀ b ∈ Sy, b ∉ F' g) ∧ (∀ g b, b ∈ F' g → b ∈ F g) ∧ ∀ b ∈ Sy, ∃ g, b ∈ F g := by
    intro dd S k1 k2 k3 k4 k5
    cases dd with
    | val _ => cases k1
    | sl size' ty cs =>
      have k2' : size' = size := k2
      subst k2'
      obtain ⟨A, n, c, vs, S', rfl, j1, j2, _, j4, j5, j6, j7⟩ := rep_read k4
      obtain ⟨j8, j9⟩ := flat_one k3 j2
      have hvl := RepL.length _ j2
      refine ⟨cs, s, [], F, A, n, c, vs, k5, rfl, j9 w true, by rw [hvl, j1], fun hA => ?_, fun b o' hA j u hu => ?_, fun ad hA => ?_, j8, h, Fresh.nil _, by simp, fun _ _ h => h, by simp⟩
      · have := j6 hA; omega
      · obtain ⟨b', o'', hA', _, j10⟩ := j7 (fun e => by subst e; simp at hu)
        rw [hA'] at hA
        cases hA
        exact j10 j u hu
      · by_cases hne : vs = []
        · exact .inr hne
        · obtain ⟨b', o'', hA', _⟩ := j7 hne
          rw [hA'] at hA
          cases hA
          exact .inl rfl
  unfold SrcK at hk
  split at hk
  · have hu : u = .slice none 0 0 := hv
    subst hu
    exact ⟨[], s, [], F, none, 0, 0, [], hk, rfl, ⟨rfl, rfl⟩, by simp, fun _ => ⟨rfl, rfl⟩, by simp, by simp, by simp, h, Fresh.nil _, by simp, fun _ _ h => h, by simp⟩
  · rename_i dd
    obtain ⟨k1, k2, k3, k4⟩ := hk
    obtain ⟨_, S, k5, _⟩ := hv
    exact flat dd S k1 k2 k3 k5 k4
  · rename_i g c p x' sz lo m
    obtain ⟨dd, k1, k2, k3, k4⟩ := hk
    have hv' : A0Rel B w (.hs g c p x' sz lo m) u := hv
    obtain ⟨S, k5⟩ := is_rep h hv' k1
    obtain ⟨_, _, d1, _, _, _, k6, _, _, _, rfl⟩ := k1
    exact flat _ S (by cases d1 with | val _ => cases k6 | sl _ _ _ => rfl) k2 k3 k5 k4
  · rename_i g c p x'
    obtain ⟨dd, k1, k2, k3⟩ := hk
    have hv' : A0Rel B w (.h g c p x') u := hv
    obtain ⟨S, k4⟩ := is_rep h hv' k1
    split at k3
    · rename_i k5
      obtain ⟨_, _, _, _, _, k7⟩ := k1
      exact flat dd S k7 k2 k5 k4 k3
    · obtain ⟨rfl, k5, k6⟩ := k3
      obtain ⟨d0, η, k7, k8, k9, k10⟩ := k1
      simp [D.get] at k9
      subst k9
      obtain ⟨u', S1, F1, j1, j2, j3, j4, j5, j6, j7, j8⟩ := h.rm k7
      have hu : u = u' := by rw [hv'.1, ← k8, j3, hdr_nil j1]
      subst hu
      cases d0 with
      | val _ => cases j1
      | sl size' ty cs =>
        have k2' : size' = size := k2
        subst k2'
        obtain ⟨vs, T, S2, m1, m2, rfl⟩ := j2
        have hvl := RepL.length _ m2
        have hone : ∀ u ∈ vs, u.oneCell' = true := rep_one m2 (by
          have key : ∀ l : List D, oneB l = true → ∀ d ∈ l, ∀ u, d = .val u → u.oneCell' = true := by
            intro l
            induction l with
            | nil => intro _ d hd; simp at hd
            | cons x l ih =>
              intro hl d hd u hu
              cases x with
              | val v =>
                simp only [oneB, Bool.and_eq_true] at hl
                rcases List.mem_cons.1 hd with rfl | hd
                · cases hu; exact hl.1
                · exact ih hl.2 d hd u hu
              | sl _ _ _ =>
                rcases List.mem_cons.1 hd with rfl | hd
                · cases hu
                · exact ih hl d hd u hu
          exact key cs k5)
        have hsub : ∀ b ∈ S2, b ∈ T ++ S2 := fun b hb => by simp [hb]
        rcases own_cells m1 with ⟨rfl, rfl⟩ | ⟨gg, nn, cc, rfl, rfl, m3, m4, _⟩
        · refine ⟨cs, _, S2, F1, none, 0, 0, [], k6, rfl, m2, by simp, fun _ => ⟨rfl, rfl⟩, by simp, by simp, by simp, j5, j4.right, fun g' b hb => j6 g' b (hsub b hb), j8, fun b hb => ⟨g, j7 b (hsub b hb)⟩⟩
        · refine ⟨cs, _, S2, F1, _, nn, cc, vs, k6, rfl, m2, m3, fun hA => (by cases hA), fun b o' hA j u hu => ?_, fun ad hA => ?_, hone, j5, j4.right, fun g' b hb => j6 g' b (hsub b hb), j8, fun b hb => ⟨g, j7 b (hsub b hb)⟩⟩
          · cases hA
            rw [Nat.zero_add]
            exact m4 j u hu
          · cases hA
            exact .inl rfl
  · exact hk.elim
theorem ok_app (h : RelF B w0 N s a w F) {c : Call} {t e : TypeId} {i : TypeInfo} {zs : List Value} {x y : Operand} {x' y' : X} {g : Option (Nat × Bool)} (ho : o.op = .call c) (hc : c.callee = .builtin .append) (ha : c.args.toList = [x, y]) (hta : c.argTypes.toList = [t, t]) (ht : P.underlying t = some (.slice e)) (hi : P.info? e = some i) (hz : zeroOf P e = some zs) (hs : 0 < i.size)
    (hx : compX x = some x') (hy : compX y = some y') (hd : ∀ k, o.dst = some k → k < N) (hr : runI P β ⟨o.dst, g, .app e i.size i.bytes x' y'⟩ s K) : OpOk P o a w (fun a' w' => ∃ s' F', RelF B w0 N s' a' w' F' ∧ K s') := by
  have hr' : SrcK s i.size (s.ev y') fun ys s1 => DestK s1 e i.size (s.ev x') fun xs s2 => xs.length / i.size + ys.length / i.size ≤ maxLen ∧ (xs.length / i.size + ys.length / i.size) * i.bytes ≤ 140737488355328 ∧
      ∀ η, K ((s2.addO [(100 * (β + o.dst.getD 0), .loose (.sl i.size e (xs ++ ys)) η)]).put o.dst (.c (.h (100 * (β + o.dst.getD 0)) 0 [] (η [])))) := hr
  obtain ⟨ys, s1, Sy, F1, A, m, cc, news, hr2, e1, r1, r2, r3, r4, r5, r6, h1, r7, r8, r9, r10⟩ := src_rel h hs (ev_rel h hy) hr'
  obtain ⟨xs, s2, S, F2, ⟨q1, q2, q3⟩, q4, h2, q5, q6, q7, q8⟩ := dest_rel h1 (ev_rel h hx) hr2
  have hargs : c.args = #[x, y] := by rw [← Array.toArray_toList (xs := c.args), ha]
  have hats : c.argTypes = #[t, t] := by rw [← Array.toArray_toList (xs := c.argTypes), hta]
  have hB : B ≤ w.heap.size := Nat.le_trans h.hB h.below.size
  have hdis : ∀ b ∈ S, b ∉ Sy := fun b hb hb' => by
    obtain ⟨g', hg'⟩ := q8 b hb
    exact r8 g' b hb' hg'
  have hF : Fresh B (S ++ Sy) := ⟨List.nodup_append.2 ⟨q5.1, r7.1, fun p hp q hq e => hdis p hp (e ▸ hq)⟩, fun b hb => by rcases List.mem_append.1 hb with hb | hb; exact q5.2 b hb; exact r7.2 b hb⟩
  obtain ⟨v', w', S', hrun, hrep, hFr, honly, hS'⟩ := append_run (B := B) (ty := o.type) ht hi hz hs q4 r1 r2 r3 (fun ad hA j u hu => by
    rcases r5 ad hA with h5 | h5
    · obtain ⟨b, o', sp⟩ := ad
      simp only at h5
      subst h5
      rw [ptr_add]
      exact r4 b o' hA j u hu
    · subst h5; simp at hu) r6 hF hB q1 q2
  have hrun2 : (execOp a.eval o).run P w = .ok (.value v') w' := by
    simp [execOp, ho, resolve, hc, hargs, hats, e1, invoke, builtin, hrun]
  have hb : Below B w w' := honly.below (fun b hb => q5.2 b hb) hB
  have h3 := h2.world' hb fun g b hb' => honly.block b ((h2.ob g).lt b hb') fun hh => q6 g b hh hb'
  have hob : ORel B w' (.loose (.sl i.size e (xs ++ ys)) (fun p => hdr w' p (.sl i.size e (xs ++ ys)) v')) S' := ⟨rfl, v', hrep, fun _ => rfl⟩
  have h4 := h3.setO (g := 100 * (β + o.dst.getD 0)) hob hFr (fun g' _ b hb' => by
    rcases hS' b hb' with h5 | h5 | h5
    · exact q6 g' b h5
    · exact fun hh => r8 g' b h5 (q7 g' b hh)
    · exact fun hh => by have := (h2.ob g').lt b hh; omega)
  have hv : VRel B w' (.c (.h (100 * (β + o.dst.getD 0)) 0 [] v')) v' := ⟨rfl, by obtain ⟨_, _, _, rfl⟩ := rep_form hrep; rfl⟩
  exact OpOk.of_run hrun2 ⟨_, _, h4.put hv hd, q3 _⟩
/-- append of a text's bytes. -/
theorem append_run_str {t u e : TypeId} {i : TypeInfo} (ht : P.underlying t = some (.slice e)) (hu : P.underlying u = some .string) (hi : P.info? e = some i) (hz : i.zero = some (.int .u8 0)) (hs : i.size = 1) (hby : i.bytes = 1) {ty : TypeId} {xs : List D} {v : Value} {S : List Nat}
    (hrep : Rep w true (.sl 1 e xs) v S) (b : ByteArray) (hF : Fresh B S) (hB : B ≤ w.heap.size) (hlen : xs.length + b.size ≤ 140737488355328) :
    ∃ v' w' S', (Builtin.append_ #[t, u] ty #[v, .string b]).run P w = .ok v' w' ∧ Rep w' true (.sl 1 e (xs ++ strCells b)) v' S' ∧ Fresh B S' ∧ Only S w w' ∧ ∀ s ∈ S', s ∈ S ∨ w.heap.size ≤ s := by
  obtain ⟨vs, T, S1, ⟨n, hown, rfl⟩, hrl, rfl⟩ := hrep
  have hvl := RepL.length _ hrl
  have hvn : vs.length = n := by simpa using hown.1
  have h63 : n + b.size ≤ maxLen := by unfold maxLen; omega
  obtain ⟨v', w', hr, h2, h3, _⟩ := Go.Lib.run_append_own_string (P := P) w 0 t u ty e i ht hu hi hz hs hby v n vs hown b h63 (by omega) (Nat.zero_le _)
  have honly : Only (blk v ++ S1) w w' := Only.of_grown h3 (fun b hb => by simp [hb])
  have honly1 : Only (blk v) w w' := Only.of_grown h3 (fun b hb => hb)
  have hF1 : ∀ s ∈ S1, s ∉ blk v := fun s hs hb => (List.nodup_append.1 hF.1).2.2 s hb s hs rfl
  have hnew : ∀ b ∈ blk v', b ∈ blk v ∨ b = w.heap.size := by
    intro g hg
    by_cases hb0 : b.size = 0
    · rcases hown.2 with ⟨rfl, rfl⟩ | ⟨g', cap, cur, rfl, _, hg', hnc, hcm, hcs, htake⟩
      · -- nothing onto nothing
        have hbe : b = ByteArray.empty := by
          cases b with
          | mk d => simp [ByteArray.size] at hb0; subst hb0; rfl
        have : (Builtin.append_ #[t, u] ty #[.slice none 0 0, .string b]).run P w = .ok (.slice none 0 0) w := by
          simp [Builtin.append_, run_underlying ht, run_underlying hu, sizeOf, typeInfo, hi, Builtin.lenOf, hb0, Builtin.firstCells]
        rw [this] at hr
        injection hr with e1 _
        subst e1
        simp [blk] at hg
      · rw [Go.Lib.run_append_room_string (P := P) w t u ty e i ht hu hi hs g' n cap cur hg' b (by omega) (by omega)] at hr
        injection hr with e1 _
        subst e1
        exact .inl (by simpa [blk] using hg)
    · rcases hown.2 with ⟨rfl, rfl⟩ | ⟨g', cap, cur, rfl, _, hg', hnc, hcm, hcs, htake⟩
      · rw [run_append_nil_string (P := P) w t u ty e i _ ht hu hi hz b (by omega) (by omega) (by rw [hby]; omega)] at hr
        injection hr with e1 _
        subst e1
        exact .inr (by simpa [blk] using hg)
      · by_cases hroom : n + b.size ≤ cap
        · rw [Go.Lib.run_append_room_string (P := P) w t u ty e i ht hu hi hs g' n cap cur hg' b hroom (by omega)] at hr
          injection hr with e1 _
          subst e1
          exact .inl (by simpa [blk] using hg)
        · rw [Go.Lib.run_append_grow_string (P := P) w t u ty e i _ ht hu hi hz ⟨g', 0, none⟩ n cap vs (by rw [hs]; exact hown.1) (hown.cells (g := g') rfl) b (by omega) (by omega) (growslice_fits (by omega) (by rw [hby]; omega))] at hr
          injection hr with e1 _
          subst e1
          exact .inr (by simpa [blk] using hg)
  have hyl : RepL w' true (strCells b) (Go.Lib.strCells b) [] := by
    have key : ∀ l : List UInt8, RepL w' true (l.map byteVal) (l.map fun b => Value.int .u8 b.toNat) [] := by
      intro l
      induction l with
      | nil => exact ⟨rfl, rfl⟩
      | cons x l ih => exact ⟨_, _, [], [], rfl, rfl, ⟨rfl, rfl⟩, ih⟩
    exact key _
  have hapl := RepL.append_ _ (hrl.only honly1 fun s hs => hF1 s hs) hyl
  rw [List.append_nil] at hapl
  have hrep' : Rep w' true (.sl 1 e (xs ++ strCells b)) v' (blk v' ++ S1) := ⟨vs ++ Go.Lib.strCells b, blk v', S1, ⟨n + b.size, h2, rfl⟩, hapl, rfl⟩
  have hlt : ∀ s ∈ S1, s < w.heap.size := fun s hs => RepL.lt _ hrl s hs
  refine ⟨v', w', _, hr, hrep', ⟨List.nodup_append.2 ⟨?_, (List.nodup_append.1 hF.1).2.1, fun p hp q hq e => ?_⟩, fun p hp => ?_⟩, honly, fun s hs => ?_⟩
  · rcases h2.2 with ⟨rfl, _⟩ | ⟨g, cap, cur, rfl, _⟩ <;> simp [blk]
  · subst e
    rcases hnew p hp with h4 | h4
    · exact hF1 p hq h4
    · have := hlt p hq; omega
  · rcases List.mem_append.1 hp with hp | hp
    · rcases hnew p hp with h4 | h4
      · exact hF.2 p (by simp [h4])
      · omega
    · exact hF.2 p (by simp [hp])
  · rcases List.mem_append.1 hs with hs | hs
    · rcases hnew s hs with h4 | h4
      · exact .inl (by simp [h4])
      · exact .inr (by omega)
    · exact .inl (by simp [hs])
theorem ok_apps (h : RelF B w0 N s a w F) {c : Call} {t u e : TypeId} {i : TypeInfo} {x y : Operand} {x' y' : X} {g : Option (Nat × Bool)} (ho : o.op = .call c) (hc : c.callee = .builtin .append) (ha : c.args.toList = [x, y]) (hta : c.argTypes.toList = [t, u]) (ht : P.underlying t = some (.slice e)) (hu : P.underlying u = some .string) (hi : P.info? e = some i) (hzz : i.zero = some (.int .u8 0)) (hs : i.size = 1) (hby : i.bytes = 1)
    (hx : compX x = some x') (hy : compX y = some y') (hd : ∀ k, o.dst = some k → k < N) (hr : runI P β ⟨o.dst, g, .apps e x' y'⟩ s K) : OpOk P o a w (fun a' w' => ∃ s' F', RelF B w0 N s' a' w' F' ∧ K s') := by
  obtain ⟨b, k1, k2⟩ := hr
  obtain ⟨xs, s2, S, F2, ⟨q1, q3⟩, q4, h2, q5, q6, q7, q8⟩ := dest_rel h (ev_rel h hx) k2
  have hargs : c.args = #[x, y] := by rw [← Array.toArray_toList (xs := c.args), ha]
  have hats : c.argTypes = #[t, u] := by rw [← Array.toArray_toList (xs := c.argTypes), hta]
  have hB : B ≤ w.heap.size := Nat.le_trans h.hB h.below.size
  obtain ⟨v', w', S', hrun, hrep, hFr, honly, hS'⟩ := append_run_str (B := B) (ty := o.type) ht hu hi hzz hs hby q4 b q5 hB q1
  have hrun2 : (execOp a.eval o).run P w = .ok (.value v') w' := by
    simp [execOp, ho, resolve, hc, hargs, hats, ev_v h hy k1, invoke, builtin, hrun]
  have hb : Below B w w' := honly.below (fun b hb => q5.2 b hb) hB
  have h3 := h2.world' hb fun g b hb' => honly.block b ((h2.ob g).lt b hb') fun hh => q6 g b hh hb'
  have hob : ORel B w' (.loose (.sl 1 e (xs ++ strCells b)) (fun p => hdr w' p (.sl 1 e (xs ++ strCells b)) v')) S' := ⟨rfl, v', hrep, fun _ => rfl⟩
  have h4 := h3.setO (g := 100 * (β + o.dst.getD 0)) hob hFr (fun g' _ b hb' => by
    rcases hS' b hb' with h5 | h5
    · exact q6 g' b h5
    · exact fun hh => by have := (h2.ob g').lt b hh; omega)
  have hv : VRel B w' (.c (.h (100 * (β + o.dst.getD 0)) 0 [] v')) v' := ⟨rfl, by obtain ⟨_, _, _, rfl⟩ := rep_form hrep; rfl⟩
  exact OpOk.of_run hrun2 ⟨_, _, h4.put hv hd, q3 _⟩
theorem zero_cells {z : Array Value} (hz : 0 < z.size) (n : Nat) : (Builtin.zeroCells z n).toList = (List.replicate n z.toList).flatten := by
  apply List.ext_getElem?
  intro j
  by_cases hj : j < n * z.size
  · rw [replicate_flat (by simp) hz n j hj]
    simp [Builtin.zeroCells, hj]
    rw [Array.getElem?_eq_getElem (Nat.mod_lt _ hz)]
    simp only [Option.some.injEq]
    exact getElem!_pos _ _ _
  · rw [List.getElem?_eq_none (by simp [Builtin.zeroCells]; omega), List.getElem?_eq_none (by simp; omega)]
theorem rep_flat {zs : List D} {us : List Value} (h : RepL w true zs us []) : ∀ (n : Nat), RepL w true (List.replicate n zs).flatten (List.replicate n us).flatten []
  | 0 => ⟨rfl, rfl⟩
  | n + 1 => by
    simp only [List.replicate_succ, List.flatten_cons]
    have := RepL.append_ zs h (rep_flat h n)
    simpa using this
theorem repl_len {α : Type} {l : List α} (n : Nat) : (List.replicate n l).flatten.length = n * l.length := by simp
theorem ok_clr (h : RelF B w0 N s a w F) {cl : Call} {t e : TypeId} {i : TypeInfo} {zs : List Value} {x : Operand} {x' : X} {ks : List (Option (Nat × Nat))} {g : Option (Nat × Bool)} (ho : o.op = .call cl) (hc : cl.callee = .builtin .clear) (ha : cl.args.toList = [x]) (hta : cl.argTypes.toList = [t]) (ht : P.underlying t = some (.slice e)) (hi : P.info? e = some i) (hz : zeroOf P e = some zs) (hs : 0 < i.size)
    (hx : compX x = some x') (hr : runI P β ⟨o.dst, g, .clr i.size (nilL ks zs) x'⟩ s K) : OpOk P o a w (fun a' w' => ∃ s' F', RelF B w0 N s' a' w' F' ∧ K s') := by
  obtain ⟨hdst, hr⟩ := hr
  simp only at hdst
  have hargs : cl.args = #[x] := by rw [← Array.toArray_toList (xs := cl.args), ha]
  have hats : cl.argTypes = #[t] := by rw [← Array.toArray_toList (xs := cl.argTypes), hta]
  have hpu : ∀ v, a.put o.dst v = a := fun v => by rw [hdst]; rfl
  have hpv := ev_rel h hx
  split at hr
  · rename_i he
    have hp : a.eval x = .slice none 0 0 := by rw [he] at hpv; exact hpv
    have hrun : (execOp a.eval o).run P w = .ok (.value (.tuple #[])) w := by
      simp [execOp, ho, resolve, hc, hargs, hats, hp, invoke, builtin, Builtin.clear_, run_underlying ht]
    exact OpOk.of_run hrun (by rw [hpu]; exact ⟨s, F, h, hr⟩)
  · rename_i k c p hx0 sz lo n he
    obtain ⟨rfl, hn, d0, η, dd, j1, j2, j3, j4, j5, j6, hk⟩ := hr
    rw [he] at hpv
    obtain ⟨hp, _⟩ := hpv
    unfold zeroOf at hz
    rw [hi] at hz
    simp only at hz
    split at hz
    rotate_left
    · simp at hz
    rename_i z hzz
    split at hz
    rotate_left
    · simp at hz
    rename_i hcc
    simp only [Bool.and_eq_true, decide_eq_true_eq] at hcc
    simp at hz; subst hz
    have hzl : z.cells.toList.length = i.size := by rw [Array.length_toList]; simpa using hcc.1
    have hz0 : 0 < z.cells.size := by have := hcc.1; omega
    generalize hds : (List.replicate n (nilL ks z.cells.toList)).flatten = ds at *
    generalize hus : (List.replicate n z.cells.toList).flatten = us
    have hnew : RepL w true ds us [] := by rw [← hds, ← hus]; exact rep_flat (nil_rep _ _) n
    have hul : us.length = n * i.size := by rw [← hus, repl_len, hzl]
    have hdl : ds.length = n * i.size := by rw [← RepL.length _ hnew, hul]
    have hpos : 0 < n * i.size := Nat.mul_pos hn hs
    have k8 : ∀ u ∈ us, u.oneCell' = true := fun u hu => by
      rw [← hus] at hu
      obtain ⟨l, hl, hul⟩ := List.mem_flatten.1 hu
      rw [List.eq_of_mem_replicate hl] at hul
      exact List.all_eq_true.1 hcc.2 u (by simpa using hul)
    have hfk := h.fr k
    obtain ⟨u, S1, q0, q1, q2, q3, q4, q5⟩ := ORel.put1 (h.ob k) hfk.1 j1
    obtain ⟨Sx, hrx, _⟩ := path_open h j1 j2 j3 j4
    cases dd with
    | val _ => cases j4
    | sl size ty cs0 =>
      simp only [D.size] at j5
      subst j5
      simp only [D.len, D.cells, D.size] at j6
      have hcl : (lo + n) * i.size ≤ cs0.length := Nat.le_trans (Nat.mul_le_mul_right _ j6) (Nat.div_mul_le_self _ _)
      rw [Nat.add_mul] at hcl
      obtain ⟨gg, nn, cc, r1, r2, r3, S1', r4, r5, r6, r7⟩ := put_path (k := lo * i.size) (by omega) hnew List.nodup_nil p q1 q4 (fun b hb => by simp at hb) j3 (by omega)
      have hhx : hx0 = .slice (some ⟨gg, 0, none⟩) nn cc := by rw [← j2, q2, r1]
      obtain ⟨vs, T, S', hrow, hrl, _⟩ := hrx
      have hvl := RepL.length _ hrl
      have hcap : lo < cc := by
        obtain ⟨nv, hown, _⟩ := hrow
        have h1 := hown.1
        rcases hown.2 with ⟨e1, e2⟩ | ⟨g', cap, cur, e1, _, _, e2, _⟩
        · rw [hhx] at e1; cases e1
        · rw [hhx] at e1
          injection e1 with e3 e4 e5
          subst e5
          have : cs0.length / i.size = nv := by rw [← hvl, h1]; exact Nat.mul_div_cancel _ hs
          omega
      have hp' : a.eval x = .slice (some ⟨gg, lo * i.size, none⟩) n (cc - lo) := by
        rw [hp, hhx]
        simp only [subV]
        rw [if_neg (by omega)]
        simp [Addr.add_lit]
      have hrun : (execOp a.eval o).run P w = .ok (.value (.tuple #[])) (w.setCells gg (lo * i.size) us) := by
        have hst := run_storeCells_cells (P := P) gg (lo * i.size) us 0 w (fun j hj => (r3 j (by omega)).1) (fun j hj => (r3 j (by omega)).2) k8
        simp only [Nat.add_zero] at hst
        obtain ⟨m, rfl⟩ : ∃ m, n = m + 1 := ⟨n - 1, by omega⟩
        simp [execOp, ho, resolve, hc, hargs, hats, hp', invoke, builtin, Builtin.clear_, run_underlying ht, zeroValue, typeInfo, hi, hzz, zero_cells hz0, hus, hst]
      obtain ⟨j6, j7, j8, j9⟩ := setCells_rest us w gg (lo * i.size)
      have hggF : gg ∈ F k := q3 gg r2
      have hBb : B ≤ gg := hfk.2 gg hggF
      have hne : ∀ b, b ≠ gg → (w.setCells gg (lo * i.size) us).heap[b]? = w.heap[b]? := fun b hb => setCells_ne us w gg (lo * i.size) b hb
      have hb : Below B w (w.setCells gg (lo * i.size) us) := ⟨j6, j7, j8, by rw [j9]; exact Nat.le_refl _, fun j hj => hne j (by omega)⟩
      have hsl : (D.put p (lo * i.size) ds d0).isSl = true := put_sl _ _ _ q0
      obtain ⟨S', m1, m2, m3⟩ := q5 (w.setCells gg (lo * i.size) us) (D.put p (lo * i.size) ds d0) (fun q => hdr (w.setCells gg (lo * i.size) us) q (D.put p (lo * i.size) ds d0) u) S1' hb (fun b _ hb2 => hne b fun e => hb2 (e ▸ r2)) hsl r4 (fun _ => rfl) r5 (fun b hb1 => by
        rcases r6 b hb1 with h | h
        · exact .inl h
        · simp at h)
      have t1 := h.setO (g := k) (ob := .none) (S := []) rfl (Fresh.nil _) (by simp)
      have t2 := t1.world' hb fun g' x hx => by
        split at hx
        · simp at hx
        · rename_i hg'
          exact hne x fun e => h.dj g' k hg' x hx (e ▸ hggF)
      have hS'F : ∀ x ∈ S', x ∈ F k := fun x hx => by
        rcases m3 x hx with h | h
        · exact h
        · rcases r6 x h with h' | h'
          · exact q3 x h'
          · simp at h'
      have t3 := t2.setO (g := k) m1 ⟨m2, fun x hx => hfk.2 x (hS'F x hx)⟩ (fun g' hg' x hx => by
        rw [if_neg hg']
        exact fun hh => h.dj g' k hg' x hh (hS'F x hx))
      have hss : (s.setO k .none).setO k ((s.o k).putOwn c (D.put p (lo * i.size) ds d0) (fun q => hdr (w.setCells gg (lo * i.size) us) q (D.put p (lo * i.size) ds d0) u)) = s.setO k ((s.o k).putOwn c (D.put p (lo * i.size) ds d0) (fun q => hdr (w.setCells gg (lo * i.size) us) q (D.put p (lo * i.size) ds d0) u)) := by
        simp only [St.setO, St.mk.injEq, true_and]
        funext i; split <;> rfl
      rw [hss] at t3
      exact OpOk.of_run hrun (by
        rw [hpu]
        have hlike : ∀ q, ¬ Under p (lo * i.size) (n * i.size) q → hdr (w.setCells gg (lo * i.size) us) q (D.put p (lo * i.size) ds d0) u = η q := fun q hq => by rw [q2]; exact r7 q (by rw [hdl]; exact hq)
        refine ⟨_, _, t3, stH_at hk hlike fun hf => ?_⟩
        simp only [Bool.and_eq_true] at hf
        funext q
        by_cases hq : Under p (lo * i.size) (n * i.size) q
        · obtain ⟨j, r, rfl, hj1, hj2⟩ := hq
          obtain ⟨v1, hv1⟩ := flatB_val (j := j - lo * i.size) hf.1 (by omega)
          obtain ⟨v2, hv2⟩ := flatB_val (j := j - lo * i.size) hf.2 (by simp only [D.cells, List.length_take, List.length_drop]; omega)
          rw [q2]
          rw [hdr_flat (w := w.setCells gg (lo * i.size) us) (j := j) (v := v1) p (get_put_self p j3) (by rw [setAt_get _ _ _ _ (by omega) hj1 (by omega)]; exact hv1)]
          refine (hdr_flat (v := v2) p j3 ?_).symm
          rw [← hv2]
          simp only [D.cells]
          rw [List.getElem?_take, if_pos (by omega), List.getElem?_drop]
          congr 1; omega
        · exact hlike q hq)
  · exact hr.elim
end
end Go.Proofs.YtnhdcbhcocgjhaaGreat
set_option linter.unusedSimpArgs false
set_option linter.unusedVariables false
namespace Go.Proofs.YtnhdcbhcocgjhaaGreat
open Go.RowKit Go.Sort

section
variable {P : Program} {β B N : Nat} {w w0 : World} {s : St} {a : Act} {F : Nat → List Nat} {o : Oper} {K : St → Prop}
theorem OpOk.of_goes (h : RelF B w0 N s a w F) (hd : ∀ k, o.dst = some k → k < N) (hg : Goes P o a w (Yields_ B w fun av os => K ((s.addO os).put o.dst av))) :
    OpOk P o a w (fun a' w' => ∃ s' F', RelF B w0 N s' a' w' F' ∧ K s') := by
  intro next Q hk
  refine hg next Q fun v w' ⟨av, os, S, h1, h2, h3, h4, h5⟩ => ?_
  have hB : B ≤ w.heap.size := Nat.le_trans h.hB h.below.size
  obtain ⟨F', h6⟩ := (h.world h4).addO h2 (h3.mono hB) fun g b hb hb' => by
    have := (h.ob g).lt b hb'
    have := h3.2 b hb
    omega
  exact hk _ _ ⟨_, _, h6.put h1 hd, h5⟩

/-- What is asked of one operation. -/
def Doable (P : Program) (o : Oper) (i : I) : Prop := ∀ {β B N : Nat} {w w0 : World} {s : St} {a : Act} {F : Nat → List Nat} {K : St → Prop} {g : Option (Nat × Bool)},
  RelF B w0 N s a w F → (∀ k, o.dst = some k → k < N) → runI P β ⟨o.dst, g, i⟩ s K → OpOk P o a w (fun a' w' => ∃ s' F', RelF B w0 N s' a' w' F' ∧ K s')

theorem do_call {c : Call} {i : I} (ho : o.op = .call c) (hc : compCall P c = some i) : Doable P o i := by
  intro β B N w w0 s a F K g h hd hr
  unfold compCall at hc
  split at hc
  · rename_i x h1 h2
    split at hc
    · rename_i x' h3 h4
      simp at hc; subst hc
      obtain ⟨rt, hg⟩ := hr
      exact .of_goes h hd (go_len (str := true) h ho h1 h2 h3 h4 hg)
    · rename_i e x' h3 h4
      simp at hc; subst hc
      obtain ⟨rt, hg⟩ := hr
      exact .of_goes h hd (go_len (str := false) h ho h1 h2 ⟨_, h3⟩ h4 hg)
    · simp at hc
  · rename_i x y h1 h2
    split at hc
    · rename_i t t' h3
      split at hc
      · rename_i e e' h4 h5
        split at hc
        · rename_i i' zs x' y' h6 h7 h8 h9
          split at hc
          · rename_i h10
            simp at hc; subst hc
            simp at h10
            obtain ⟨h11, rfl⟩ := h10
            exact ok_app h ho h1 h2 h3 h4 h6 h7 h11 h8 h9 hd hr
          · simp at hc
        · simp at hc
      · rename_i e h4 h5
        split at hc
        · rename_i i' x' y' h6 h7 h8 h9
          split at hc
          · rename_i h10
            split at hc
            · rename_i h11
              simp at hc; subst hc
              simp at h11
              exact ok_apps h ho h1 h2 h3 h4 h5 h7 h10 h11.1 h11.2 h8 h9 hd hr
            · simp at hc
          · simp at hc
        · simp at hc
      · simp at hc
    · simp at hc
  · rename_i x h1 h2
    split at hc
    · rename_i t h3
      split at hc
      · rename_i e h4
        split at hc
        · rename_i i' zs x' h6 h7 h8
          split at hc
          · rename_i h10
            simp at hc; subst hc
            exact ok_clr h ho h1 h2 h3 h4 h6 h7 h10 h8 hr
          · simp at hc
        · simp at hc
      · simp at hc
    · simp at hc
  · rename_i x y h1 h2
    split at hc
    · rename_i x' y' h3 h4
      simp at hc; subst hc
      obtain ⟨rt, hg⟩ := hr
      exact .of_goes h hd (go_mm (mx := true) h ho h1 h2 h3 h4 hg)
    · simp at hc
  · rename_i x y h1 h2
    split at hc
    · rename_i x' y' h3 h4
      simp at hc; subst hc
      obtain ⟨rt, hg⟩ := hr
      exact .of_goes h hd (go_mm (mx := false) h ho h1 h2 h3 h4 hg)
    · simp at hc
  · rename_i f h1
    split at hc
    · rename_i fn l h3 h4
      split at hc
      · simp at hc; subst hc
        rcases hr with ⟨rt, hg⟩ | ht | ht
        · exact .of_goes h hd (go_call h ho h1 h4 hg)
        · exact ok_turns h (run_enter (cs := []) ht.1 ho h1 rfl rfl) (by simpa using argv_rel (caps := []) (cs := []) h h4 rfl) hd ht
        · exact ok_inl h (run_enter (cs := []) ht.1 ho h1 rfl rfl) (by simpa using argv_rel (caps := []) (cs := []) h h4 rfl) hd ht
      · simp at hc
    · simp at hc
  · rename_i t h1
    cases h2 : compXs c.args.toList with
    | none => rw [h2] at hc; simp at hc
    | some l =>
      rw [h2] at hc
      simp at hc; subst hc
      rcases hr with ⟨rt, hg⟩ | ⟨f, caps, h0, ht⟩
      · exact .of_goes h hd (go_callv h ho h1 h2 hg)
      · have hvf := h.sl t
        rw [show s.t t = .fn f caps from h0] at hvf
        obtain ⟨cs, k1, k2⟩ := hvf
        exact ok_turns h (run_enter ht.1 ho h1 k1 rfl) (argv_rel h h2 k2) hd ht
  · simp at hc

theorem slice_opts {lo hi : Option Operand} {n : Nat} {x : X} {i : I} (hc : (match lo.map compX, hi.map compX with
        | none, none => some (I.sl n x none none)
        | some (some a), none => some (.sl n x (some a) none)
        | none, some (some b) => some (.sl n x none (some b))
        | some (some a), some (some b) => some (.sl n x (some a) (some b))
        | _, _ => none) = some i) : ∃ lo' hi', i = .sl n x lo' hi' ∧ ((lo = none ∧ lo' = none) ∨ ∃ y y', lo = some y ∧ lo' = some y' ∧ compX y = some y') ∧ ((hi = none ∧ hi' = none) ∨ ∃ y y', hi = some y ∧ hi' = some y' ∧ compX y = some y') := by
  cases lo <;> cases hi <;> simp only [Option.map_none, Option.map_some] at hc
  · simp at hc; subst hc; exact ⟨_, _, rfl, .inl ⟨rfl, rfl⟩, .inl ⟨rfl, rfl⟩⟩
  · split at hc <;> simp_all
  · split at hc <;> simp_all
  · split at hc <;> simp_all

theorem op_do {i : I} (hc : compI P o.op = some i) : Doable P o i := by
  intro β B N w w0 s a F K g h hd hr
  cases ho : o.op with
  | move x =>
    simp only [ho, compI] at hc
    cases h1 : compX x with
    | none => simp [h1] at hc
    | some x' =>
      simp [h1] at hc; subst hc
      obtain ⟨rt, hg⟩ := hr
      exact .of_goes h hd (go_mov h (.inl ho) h1 hg)
  | assign x =>
    simp only [ho, compI] at hc
    cases h1 : compX x with
    | none => simp [h1] at hc
    | some x' =>
      simp [h1] at hc; subst hc
      obtain ⟨rt, hg⟩ := hr
      exact .of_goes h hd (go_mov h (.inr ho) h1 hg)
  | pick c x y =>
    simp only [ho, compI] at hc
    split at hc
    · rename_i c' x' y' h1 h2 h3
      simp at hc; subst hc
      obtain ⟨rt, hg⟩ := hr
      exact .of_goes h hd (go_pick h ho h1 h2 h3 hg)
    · simp at hc
  | alloc e =>
    simp only [ho, compI] at hc
    cases h1 : zeroOf P e with
    | none => simp [h1] at hc
    | some z =>
      simp [h1] at hc; subst hc
      obtain ⟨rt, hg⟩ := hr
      exact .of_goes h hd (go_alloc h ho h1 hg)
  | box e x =>
    simp only [ho, compI] at hc
    split at hc
    · rename_i n x' h1 h2
      simp at hc; subst hc
      exact ok_box h ho h2 hd hr
    · simp at hc
  | build t ps =>
    simp only [ho, compI] at hc
    split at hc
    · rename_i fs z h1 h2
      split at hc
      · simp at hc
      · rename_i h3
        simp only [Option.map_eq_some_iff] at hc
        obtain ⟨ps', h4, rfl⟩ := hc
        obtain ⟨rt, hg⟩ := hr
        exact .of_goes h hd (go_bld h ho h1 h2 (by cases hq : (fs.toList.all fun f => (P.info? f.type).isSome) with | true => rfl | false => exact absurd (by rw [hq]; rfl) h3) h4 hg)
    · simp at hc
  | buildSlice t n ps =>
    simp only [ho, compI] at hc
    split at hc
    · rename_i e h1
      split at hc
      · rename_i size h2
        split at hc
        · rename_i h3
          simp only [Option.map_eq_some_iff] at hc
          obtain ⟨ps', h4, rfl⟩ := hc
          simp only [Bool.and_eq_true, decide_eq_true_eq, beq_iff_eq] at h3
          obtain ⟨⟨⟨h5, h6⟩, h7⟩, h8⟩ := h3
          obtain ⟨z, hz⟩ := Option.isSome_iff_exists.1 h6
          exact ok_bsl h ho h1 h2 h5 hz h7 h8 h4 hd hr
        · simp at hc
      · simp at hc
    · simp at hc
  | load t x =>
    simp only [ho, compI] at hc
    split at hc
    · rename_i fs n x' h1 h2 h3
      simp at hc; subst hc
      obtain ⟨rt, hg⟩ := hr
      exact .of_goes h hd (go_ld h ho h1 rfl h2 h3 hg)
    · simp at hc
    · rename_i dsc x' hn1 hn2 h1 h2 h3
      simp at hc; subst hc
      obtain ⟨rt, hg⟩ := hr
      refine .of_goes h hd (go_ld h ho h1 ?_ h2 h3 hg)
      cases dsc <;> simp_all [aggD]
    · simp at hc
  | store t x y =>
    simp only [ho, compI] at hc
    split at hc
    · rename_i n x' y' h1 h2 h3
      simp at hc; subst hc
      exact ok_st h ho h1 h2 h3 hr
    · simp at hc
  | binOp op t x y t' =>
    simp only [ho, compI] at hc
    split at hc
    · rename_i x' y' h1 h2
      split at hc
      · rename_i h3
        split at hc
        · simp at hc; subst hc
          obtain ⟨rt, hg⟩ := hr
          exact .of_goes h hd (go_beq (neg := false) h ho h3 h1 h2 hg)
        · simp at hc; subst hc
          obtain ⟨rt, hg⟩ := hr
          exact .of_goes h hd (go_beq (neg := true) h ho h3 h1 h2 hg)
        · simp at hc
      · simp at hc; subst hc
        obtain ⟨rt, hg⟩ := hr
        exact .of_goes h hd (go_bin h ho h1 h2 hg)
      · simp at hc
    · simp at hc
  | unOp op t x =>
    simp only [ho, compI] at hc
    cases h1 : compX x with
    | none => simp [h1] at hc
    | some x' =>
      simp [h1] at hc; subst hc
      obtain ⟨rt, hg⟩ := hr
      exact .of_goes h hd (go_un h ho h1 hg)
  | convert t t' x =>
    simp only [ho, compI] at hc
    split at hc
    · rename_i k0 k x' h1 h2 h3
      simp at hc; subst hc
      obtain ⟨rt, hg⟩ := hr
      exact .of_goes h hd (go_num h ho h1 h2 h3 hg)
    · rename_i e x' h1 h2 h3
      split at hc
      · rename_i h4
        simp at hc; subst hc
        obtain ⟨rt, hg⟩ := hr
        exact .of_goes h hd (go_text h ho h1 h4 h2 h3 hg)
      · simp at hc
    · simp at hc
  | makeSlice t l c =>
    simp only [ho, compI] at hc
    split at hc
    · rename_i e l' c' h1 h2 h3
      split at hc
      · rename_i i' z h4 h5
        split at hc
        · rename_i h6
          simp at hc; subst hc
          obtain ⟨rt, hg⟩ := hr
          exact .of_goes h hd (go_mks h ho h1 h4 h5 h6 h2 h3 hg)
        · simp at hc
      · simp at hc
    · simp at hc
  | slice t x lo hi m =>
    cases m with
    | some m => simp [ho, compI] at hc
    | none =>
      simp only [ho, compI] at hc
      split at hc
      · rename_i e x' h1 h2
        split at hc
        · rename_i n h3
          obtain ⟨lo', hi', rfl, h4, h5⟩ := slice_opts hc
          obtain ⟨rt, hg⟩ := hr
          exact .of_goes h hd (go_sl_ro h ho h1 h3 h2 h4 h5 hg)
        · simp at hc
      · rename_i x' h1 h2
        obtain ⟨lo', hi', rfl, h4, h5⟩ := slice_opts hc
        obtain ⟨rt, hg⟩ := hr
        exact .of_goes h hd (go_sl_str h ho h1 h2 h4 h5 hg)
      · simp at hc
  | nilCheck x =>
    simp only [ho, compI, Option.map_eq_some_iff] at hc
    obtain ⟨x', h1, rfl⟩ := hc
    obtain ⟨rt, hg⟩ := hr
    exact .of_goes h hd (go_nc h ho h1 hg)
  | fieldAddr t x f =>
    simp only [ho, compI] at hc
    split at hc
    · rename_i fs x' h1 h2
      split at hc
      · rename_i fd h3
        split at hc
        · rename_i n h4
          simp at hc; subst hc
          obtain ⟨rt, hg⟩ := hr
          exact .of_goes h hd (go_fa h ho h1 h3 h4 h2 hg)
        · simp at hc
      · simp at hc
    · simp at hc
  | indexAddr t x j =>
    simp only [ho, compI] at hc
    split at hc
    · rename_i e x' j' h1 h2 h3
      split at hc
      · rename_i n h4
        simp at hc; subst hc
        obtain ⟨rt, hg⟩ := hr
        exact .of_goes h hd (go_ia h ho h1 h4 h2 h3 hg)
      · simp at hc
    · simp at hc
  | index t x j =>
    simp only [ho, compI] at hc
    split at hc
    · rename_i x' j' h1 h2 h3
      simp at hc; subst hc
      obtain ⟨rt, hg⟩ := hr
      exact .of_goes h hd (go_sidx h ho h1 h2 h3 hg)
    · simp at hc
  | extract x j =>
    simp only [ho, compI] at hc
    cases h1 : compX x with
    | none => simp [h1] at hc
    | some x' =>
      simp [h1] at hc; subst hc
      obtain ⟨rt, hg⟩ := hr
      exact .of_goes h hd (go_ext h ho h1 hg)
  | makeFunc fn first caps =>
    cases fn with
    | func f =>
      simp only [ho, compI] at hc
      split at hc
      · rename_i h1
        cases h2 : compXs caps.toList with
        | none => simp [h2] at hc
        | some l =>
          simp [h2] at hc; subst hc
          obtain ⟨rt, hg⟩ := hr
          exact .of_goes h hd (go_mkf h ho (by simpa using h1) h2 hg)
      · simp at hc
    | _ => simp [ho, compI] at hc
  | call c => simp only [ho, compI] at hc; exact do_call ho hc h hd hr
  | _ => simp [ho, compI] at hc

def GuardIs (N : Nat) (ops : Array Oper) (g : Option (Nat × Bool)) (g' : Option (Nat × Bool)) : Prop := match g with
  | none => g' = none
  | some (j, want) => ∃ t, (ops[j]?).bind (·.dst) = some t ∧ t < N ∧ g' = some (t, want)
theorem want_rel (h : RelF B w0 N s a w F) {ops : Array Oper} {g' : Option (Nat × Bool)} {b : Bool} (hg : GuardIs N ops o.guard g') (hw : wantA s g' = some b) :
    Region.wanted o (yielded ops a.tmps) = b := by
  unfold Region.wanted
  cases ho : o.guard with
  | none => rw [ho] at hg; simp only [GuardIs] at hg; subst hg; simp [wantA] at hw; simpa using hw
  | some p =>
    obtain ⟨j, want⟩ := p
    rw [ho] at hg
    obtain ⟨t, h1, h2, rfl⟩ := hg
    have hv := h.sl t
    have hlt : t < a.tmps.size := by rw [h.sz]; exact h2
    have he : a.tmps.getD t undef = a.tmps[t] := by simp [Array.getD_eq_getD_getElem?, hlt]
    rw [he] at hv
    simp only [wantA] at hw
    simp only [yielded, h1, Option.bind_some, Array.getElem?_eq_getElem hlt]
    split at hw
    · rename_i b' hb
      rw [hb] at hv
      rw [show a.tmps[t] = .bool b' from hv]
      simp at hw; subst hw
      cases b' <;> cases want <;> rfl
    · rename_i u hu hb
      rw [hb] at hv
      have hv' : a.tmps[t] = u := hv
      rw [hv']
      simp at hw; subst hw
      cases u <;> simp_all
    · simp at hw
theorem compO_is {ops : Array Oper} {i : Ins} (hc : compO P N ops o = some i) : i.d = o.dst ∧ compI P o.op = some i.i ∧ (∀ k, o.dst = some k → k < N) ∧ GuardIs N ops o.guard i.g := by
  unfold compO at hc
  split at hc
  · rename_i j h1 h2
    have hd : ∀ k, o.dst = some k → k < N := fun k hk => by rw [hk] at h2; simpa using h2
    cases hg : o.guard with
    | none => rw [hg] at hc; simp at hc; subst hc; exact ⟨rfl, h1, hd, rfl⟩
    | some p =>
      obtain ⟨k, want⟩ := p
      rw [hg] at hc
      simp only at hc
      split at hc
      · rename_i t ht
        split at hc
        · rename_i hlt
          simp at hc; subst hc
          exact ⟨rfl, h1, hd, t, ht, hlt, rfl⟩
        · simp at hc
      · simp at hc
  · simp at hc
theorem list_do {ops : Array Oper} {Q : Exit → Act → World → Prop} (hQ : ∀ s a w F, RelF B w0 N s a w F → K s → Q .normal a w) : ∀ {l : List Oper} {is : List Ins} {s : St} {a : Act} {w : World} {F : Nat → List Nat},
    compL P N ops l = some is → RelF B w0 N s a w F → runL P β is s K → wpList P ops Q l a w
  | [], is, s, a, w, F, hc, h, hr => by simp [compL] at hc; subst hc; exact hQ _ _ _ _ h hr
  | o :: l, is, s, a, w, F, hc, h, hr => by
    simp only [compL] at hc
    split at hc
    · rename_i i r h1 h2
      simp at hc; subst hc
      obtain ⟨e1, e2, e3, e4⟩ := compO_is h1
      simp only [runL] at hr
      unfold wpList
      split at hr
      · rename_i hw
        rw [if_pos (want_rel h e4 hw)]
        refine .inl (op_do e2 (g := i.g) (K := fun s' => runL P β r s' K) h e3 (by rw [← e1]; exact hr) _ _ fun a' w' ⟨s', F', h3, h4⟩ => list_do hQ h2 h3 h4)
      · rename_i hw
        rw [if_neg (by rw [want_rel h e4 hw]; simp)]
        rw [e1] at hr
        exact list_do hQ h2 (h.put (u := undef) (v := .c (.v undef)) rfl e3) hr
      · exact hr.elim
    · simp at hc
end
end Go.Proofs.YtnhdcbhcocgjhaaGreat
set_option linter.unusedSimpArgs false
set_option linter.unusedVariables false
namespace Go.Proofs.YtnhdcbhcocgjhaaGreat
open Go.RowKit Go.Sort

section
variable {P : Program} {β : Nat} {s s2 : St}
theorem ev_congr {x : X} (h : ∀ n, x = .t n → s2.t n = s.t n) : s2.ev x = s.ev x := by
  cases x with
  | t n => exact h n rfl
  | c v => rfl
  | f n => rfl
theorem is_congr {a : A0} {d : D} (ho : ∀ g ∈ a.ids, s2.o g = s.o g) (h : Is s a d) : Is s2 a d := by
  cases a with
  | h g c p x => simp only [Is] at h ⊢; rw [ho g (by simp [A0.ids])]; exact h
  | hs g c p x sz lo n => simp only [Is] at h ⊢; rw [ho g (by simp [A0.ids])]; exact h
  | _ => exact h
theorem isL_congr : ∀ {l : List A0} {ds : List D}, (∀ a ∈ l, ∀ g ∈ a.ids, s2.o g = s.o g) → IsL s l ds → IsL s2 l ds
  | [], [], _, _ => trivial
  | [], _ :: _, _, h => h.elim
  | _ :: _, [], _, h => h.elim
  | a :: l, d :: ds, ho, ⟨h1, h2⟩ => ⟨is_congr (ho a (by simp)) h1, isL_congr (fun b hb => ho b (by simp [hb])) h2⟩
theorem ptrgo_congr {g b : Nat} : ∀ {l : List Cell} {c : Nat} {ds : List D}, Ptr.go s g b l c ds → Ptr.go s2 g b l c ds
  | [], _, [], _ => trivial
  | [], _, _ :: _, h => h.elim
  | .a _ :: _, _, [], h => h.elim
  | .own _ _ :: _, _, [], h => h.elim
  | .a x :: l, c, d :: ds, ⟨h1, h2⟩ => ⟨h1, ptrgo_congr h2⟩
  | .own d' η :: l, c, d :: ds, ⟨h1, h2⟩ => ⟨h1, ptrgo_congr h2⟩
theorem ptr_congr {a : A0} {ds : List D} (ho : ∀ g ∈ a.ids, s2.o g = s.o g) (h : Ptr s a ds) : Ptr s2 a ds := by
  cases a with
  | bp g c b =>
    obtain ⟨ty, cs, h1, l, h2, h3⟩ := h
    exact ⟨ty, cs, by rw [ho g (by simp [A0.ids])]; exact h1, l, h2, ptrgo_congr h3⟩
  | _ => exact h
theorem ptrL_congr : ∀ {l : List A0} {ds : List (List D)}, (∀ a ∈ l, ∀ g ∈ a.ids, s2.o g = s.o g) → PtrL s l ds → PtrL s2 l ds
  | [], [], _, _ => trivial
  | [], _ :: _, _, h => h.elim
  | _ :: _, [], _, h => h.elim
  | a :: l, d :: ds, ho, ⟨h1, h2⟩ => ⟨ptr_congr (ho a (by simp)) h1, ptrL_congr (fun b hb => ho b (by simp [hb])) h2⟩
theorem arg_congr {a : AV} {v : View} (ho : s2.o = s.o) (h : ArgIs s a v) : ArgIs s2 a v := by
  cases a with
  | c x => cases v with
    | c d => exact is_congr (fun g _ => by rw [ho]) h
    | ptr ds => exact ptr_congr (fun g _ => by rw [ho]) h
    | _ => exact h.elim
  | agg l => cases v with
    | agg ds => exact isL_congr (fun _ _ g _ => by rw [ho]) h
    | _ => exact h.elim
  | fn f l => cases v with
    | fn f' ds => exact ⟨h.1, ptrL_congr (fun _ _ g _ => by rw [ho]) h.2⟩
    | _ => exact h.elim
  | _ => cases v <;> exact h.elim
theorem args_congr : ∀ {l : List AV} {vs : List View}, s2.o = s.o → ArgsAre s l vs → ArgsAre s2 l vs
  | [], [], _, _ => trivial
  | [], _ :: _, _, h => h.elim
  | _ :: _, [], _, h => h.elim
  | _ :: _, _ :: _, ho, ⟨h1, h2⟩ => ⟨arg_congr ho h1, args_congr ho h2⟩
theorem fill_congr : ∀ {ps : List (Nat × Nat × X)} {cs : List A0}, (∀ x ∈ ps.map (·.2.2), s2.ev x = s.ev x) → fillA s2 cs ps = fillA s cs ps
  | [], _, _ => rfl
  | (off, size, x) :: ps, cs, h => by
    have h1 : s2.ev x = s.ev x := h x (by simp)
    simp only [fillA, h1]
    split
    · split
      · exact fill_congr fun y hy => h y (by simp at hy ⊢; exact .inr hy)
      · rfl
    · rfl
theorem cat_congr : ∀ {ps : List (Nat × Nat × X)}, (∀ x ∈ ps.map (·.2.2), s2.ev x = s.ev x) → catA s2 ps = catA s ps
  | [], _ => rfl
  | (off, size, x) :: ps, h => by
    have h1 : s2.ev x = s.ev x := h x (by simp)
    have h2 : catA s2 ps = catA s ps := cat_congr fun y hy => h y (by simp at hy ⊢; exact .inr hy)
    simp only [catA, h1, h2]
theorem caps_congr : ∀ {l : List X}, (∀ x ∈ l, s2.ev x = s.ev x) → capsOf s2 l = capsOf s l
  | [], _ => rfl
  | x :: l, h => by
    have h1 : s2.ev x = s.ev x := h x (by simp)
    have h2 : capsOf s2 l = capsOf s l := caps_congr fun y hy => h y (by simp [hy])
    simp only [capsOf, h1, h2]
theorem bound_congr {x : Option X} {d n : Nat} (h : ∀ y, x = some y → s2.ev y = s.ev y) (hb : bound s x d n) : bound s2 x d n := by
  cases x with
  | none => exact hb
  | some y => obtain ⟨k, h1⟩ := hb; exact ⟨k, by rw [h y rfl]; exact h1⟩
theorem map_congr {l : List X} (h : ∀ x ∈ l, s2.ev x = s.ev x) : l.map s2.ev = l.map s.ev := List.map_congr_left h
theorem gen_frame {d : Nat} {rt : RT} {st : Stamp} {i : I} {av : AV} {os : List (Nat × Ob)} (hx : ∀ x ∈ i.xs, s2.ev x = s.ev x) (ho : ∀ k ∈ i.looks s, kept s s2 k) (hn : i.pureB = false → s2.o = s.o) (h : Gen P s d rt st i av os) : Gen P s2 d rt st i av os := by
  cases i with
  | mov x => simp only [Gen] at h ⊢; rw [hx x (by simp [I.xs])]; exact h
  | pick c a b => simp only [Gen] at h ⊢; rw [hx c (by simp [I.xs]), hx a (by simp [I.xs]), hx b (by simp [I.xs])]; exact h
  | box ty n x => exact h
  | alloc ty zs => exact h
  | bld zs ps => simp only [Gen] at h ⊢; rw [fill_congr (s := s) (s2 := s2) fun x hx' => hx x (by simpa [I.xs] using hx')]; exact h
  | bsl e size n ks ps => exact h
  | ld agg n x =>
    simp only [Gen] at h ⊢
    obtain ⟨l, h1, h2⟩ := h
    refine ⟨l, ?_, h2⟩
    rw [hx x (by simp [I.xs])]
    have ho' : ∀ k ∈ (s.ev x).looks n, kept s s2 k := ho
    cases hv : s.ev x with
    | c a =>
      rw [hv] at h1 ho'
      cases a with
      | bp g c b =>
        have h3 : sameB g c n (s2.o g) (s.o g) := ho' (.cs g c n) (by simp [AV.looks, A0.looks])
        obtain ⟨ty, cs, k1, k2, k3⟩ := h1
        rw [k1] at h3
        cases h4 : s2.o g with
        | box b' ty' cs' =>
          rw [h4] at h3
          obtain ⟨rfl, rfl, e3, e4⟩ := h3
          exact ⟨_, _, h4, by omega, by rw [e4]; exact k3⟩
        | none => rw [h4] at h3; cases h3
        | loose d η => rw [h4] at h3; cases h3
      | ep g c p k y =>
        have h3 : s2.o g = s.o g := ho' (.ob g) (by simp [AV.looks, A0.looks])
        simp only [LoadIs] at h1 ⊢; rw [h3]; exact h1
      | _ => exact h1
    | _ => rw [hv] at h1; exact h1
  | st n ks a x => exact h
  | fa off x => simp only [Gen] at h ⊢; rw [hx x (by simp [I.xs])]; exact h
  | ia size x i =>
    simp only [Gen] at h ⊢
    have ho' : ∀ g ∈ (s.ev x).ids, s2.o g = s.o g := fun g hg => ho (.ob g) (List.mem_map.2 ⟨g, hg, rfl⟩)
    rw [hx x (by simp [I.xs]), hx i (by simp [I.xs])]
    obtain ⟨k, n, h1, h2, h3, h4⟩ := h
    refine ⟨k, n, h1, h2, ?_, h4⟩
    cases hv : s.ev x with
    | c a =>
      rw [hv] at h3 ho'
      cases a with
      | h g c p y => obtain ⟨⟨dd, k1, k2⟩, k3⟩ := h3; exact ⟨⟨dd, is_congr ho' (by exact k1), k2⟩, k3⟩
      | hs g c p y sz lo m => obtain ⟨⟨dd, k1⟩, k3⟩ := h3; exact ⟨⟨dd, is_congr ho' (by exact k1)⟩, k3⟩
      | _ => exact h3
    | _ => rw [hv] at h3; exact h3
  | sidx x i => simp only [Gen] at h ⊢; rw [hx x (by simp [I.xs]), hx i (by simp [I.xs])]; exact h
  | bin op ty x y => simp only [Gen] at h ⊢; rw [hx x (by simp [I.xs]), hx y (by simp [I.xs])]; exact h
  | beq neg x y => simp only [Gen] at h ⊢; rw [hx x (by simp [I.xs]), hx y (by simp [I.xs])]; exact h
  | un op x => simp only [Gen] at h ⊢; rw [hx x (by simp [I.xs])]; exact h
  | cv c e x =>
    simp only [Gen] at h ⊢
    have ho' : ∀ g ∈ (s.ev x).ids, s2.o g = s.o g := fun g hg => ho (.ob g) (List.mem_map.2 ⟨g, hg, rfl⟩)
    rw [hx x (by simp [I.xs])]
    cases c with
    | text =>
      obtain ⟨⟨a, ty, bs, h1, h2, h3⟩, h4⟩ := h
      rw [h1] at ho'
      exact ⟨⟨a, ty, bs, h1, is_congr ho' h2, h3⟩, h4⟩
    | _ => exact h
  | len str x =>
    simp only [Gen] at h ⊢
    have ho' : ∀ g ∈ (s.ev x).ids, s2.o g = s.o g := fun g hg => ho (.ob g) (List.mem_map.2 ⟨g, hg, rfl⟩)
    obtain ⟨n, h1, h2⟩ := h
    refine ⟨n, ?_, h2⟩
    rw [hx x (by simp [I.xs])]
    cases hv : s.ev x with
    | c a =>
      rw [hv] at h1 ho'
      cases a with
      | h g c p y =>
        cases str with
        | true => exact h1
        | false => obtain ⟨dd, k1, k2⟩ := h1; exact ⟨dd, is_congr ho' (by exact k1), k2⟩
      | hs g c p y sz lo m =>
        cases str with
        | true => exact h1
        | false => obtain ⟨⟨dd, k1⟩, k2⟩ := h1; exact ⟨⟨dd, is_congr ho' (by exact k1)⟩, k2⟩
      | v u => cases str <;> cases u <;> first | exact h1 | (rename_i a l c; cases a <;> cases l <;> cases c <;> exact h1)
      | _ => cases str <;> exact h1
    | _ => rw [hv] at h1; cases str <;> exact h1
  | app e size bytes x y => exact h
  | apps e x y => exact h
  | clr size zs x => exact h
  | mm mx x y => simp only [Gen] at h ⊢; rw [hx x (by simp [I.xs]), hx y (by simp [I.xs])]; exact h
  | mks e size bytes zs l c => simp only [Gen] at h ⊢; rw [hx l (by simp [I.xs]), hx c (by simp [I.xs])]; exact h
  | sl size x lo hi =>
    simp only [Gen] at h ⊢
    have ho' : ∀ g ∈ (s.ev x).ids, s2.o g = s.o g := fun g hg => ho (.ob g) (List.mem_map.2 ⟨g, hg, rfl⟩)
    have hlo : ∀ y, lo = some y → s2.ev y = s.ev y := fun y hy => hx y (by simp [I.xs, hy])
    have hhi : ∀ y, hi = some y → s2.ev y = s.ev y := fun y hy => hx y (by simp [I.xs, hy])
    rw [hx x (by simp [I.xs])]
    obtain ⟨l, hh, h1, h2, h3, h4⟩ := h
    refine ⟨l, hh, bound_congr hlo h1, h2, ?_, h4⟩
    cases hv : s.ev x with
    | c a =>
      rw [hv] at h3 ho'
      cases a with
      | v u =>
        cases u with
        | string b => exact ⟨h3.1, bound_congr hhi h3.2.1, h3.2.2⟩
        | _ => exact h3
      | ro dd => exact ⟨h3.1, h3.2.1, h3.2.2.1, bound_congr hhi h3.2.2.2.1, h3.2.2.2.2⟩
      | h g c p y => obtain ⟨k0, ⟨dd, k1, k2, k3, k4⟩, k5⟩ := h3; exact ⟨k0, ⟨dd, is_congr ho' (by exact k1), k2, bound_congr hhi k3, k4⟩, k5⟩
      | _ => exact h3
    | _ => rw [hv] at h3; exact h3
  | ext x i => simp only [Gen] at h ⊢; rw [hx x (by simp [I.xs])]; exact h
  | mkf f caps => simp only [Gen] at h ⊢; rw [caps_congr (s := s) (s2 := s2) fun x hx' => hx x (by simpa [I.xs] using hx')]; exact h
  | call f args =>
    simp only [Gen] at h ⊢
    rw [map_congr (s := s) (s2 := s2) fun x hx' => hx x (by simpa [I.xs] using hx')]
    obtain ⟨vs, h1, h2⟩ := h
    exact ⟨vs, args_congr (hn rfl) h1, h2⟩
  | callv x args =>
    simp only [Gen] at h ⊢
    rw [map_congr (s := s) (s2 := s2) (l := args) fun y hy => hx y (by simp [I.xs, hy]), hx x (by simp [I.xs])]
    obtain ⟨f, caps, vs, h0, h1, h2⟩ := h
    exact ⟨f, caps, vs, h0, args_congr (hn rfl) h1, h2⟩
theorem looks_congr {i : I} (hx : ∀ x ∈ i.xs, s2.ev x = s.ev x) : i.looks s2 = i.looks s := by
  cases i <;> first | rfl | (simp only [I.looks]; rw [hx _ (by simp [I.xs])])
theorem gen_pure {d d' : Nat} {rt rt' : RT} {st st' : Stamp} {i : I} {av : AV} {os : List (Nat × Ob)} (hp : i.pureB = true) (h : Gen P s d rt st i av os) : Gen P s d' rt' st' i av [] ∧ os = [] := by
  cases i <;> first | cases hp | skip
  case mov => obtain ⟨h1, rfl⟩ := h; exact ⟨⟨h1, rfl⟩, rfl⟩
  case pick => obtain ⟨t, h1, h2, rfl⟩ := h; exact ⟨⟨t, h1, h2, rfl⟩, rfl⟩
  case bld => obtain ⟨t, h1, h2, rfl⟩ := h; exact ⟨⟨t, h1, h2, rfl⟩, rfl⟩
  case ld => obtain ⟨t, h1, h2, rfl⟩ := h; exact ⟨⟨t, h1, h2, rfl⟩, rfl⟩
  case fa => obtain ⟨h1, rfl⟩ := h; exact ⟨⟨h1, rfl⟩, rfl⟩
  case ia => obtain ⟨k, n, h1, h2, h3, rfl⟩ := h; exact ⟨⟨k, n, h1, h2, h3, rfl⟩, rfl⟩
  case sidx => obtain ⟨b, k, n, u, h1, h2, h3, h4, h5, rfl⟩ := h; exact ⟨⟨b, k, n, u, h1, h2, h3, h4, h5, rfl⟩, rfl⟩
  case bin => obtain ⟨h1, rfl⟩ := h; exact ⟨⟨h1, rfl⟩, rfl⟩
  case beq => obtain ⟨a, b, h1, h2, h3, rfl⟩ := h; exact ⟨⟨a, b, h1, h2, h3, rfl⟩, rfl⟩
  case un => obtain ⟨h1, rfl⟩ := h; exact ⟨⟨h1, rfl⟩, rfl⟩
  case cv => obtain ⟨h1, rfl⟩ := h; exact ⟨⟨h1, rfl⟩, rfl⟩
  case len => obtain ⟨n, h1, h2, rfl⟩ := h; exact ⟨⟨n, h1, h2, rfl⟩, rfl⟩
  case mm => obtain ⟨k, k', a, b, h1, h2, h3, rfl⟩ := h; exact ⟨⟨k, k', a, b, h1, h2, h3, rfl⟩, rfl⟩
  case sl => obtain ⟨l, hh, h1, h2, h3, rfl⟩ := h; exact ⟨⟨l, hh, h1, h2, h3, rfl⟩, rfl⟩
  case ext => obtain ⟨l, b, as, h1, h2, h3, rfl⟩ := h; exact ⟨⟨l, b, as, h1, h2, h3, rfl⟩, rfl⟩
  case mkf => obtain ⟨l, h1, h2, rfl⟩ := h; exact ⟨⟨l, h1, h2, rfl⟩, rfl⟩
theorem run_pure_eq {i : Ins} (hp : i.i.pureB = true) {K : St → Prop} : runI P β i s K = (∃ rt, ∀ st, ∃ av os, Gen P s (β + i.d.getD 0) rt st i.i av os ∧ K ((s.addO os).put i.d av)) := by
  obtain ⟨d, g, i⟩ := i
  cases i <;> first | rfl | cases hp

theorem take_mono : ∀ {l : List A0} {s : St} {K K' : List Cell → St → Prop}, (∀ cs s, K cs s → K' cs s) → TakeK s l K → TakeK s l K'
  | [], _, _, _, h, hk => h _ _ hk
  | .h g c p x :: l, _, _, _, h, ⟨h1, d, η, h2, h3, h4⟩ => ⟨h1, d, η, h2, h3, take_mono (fun cs s => h _ s) h4⟩
  | .v _ :: l, _, _, _, h, ⟨h1, h2⟩ => ⟨h1, take_mono (fun cs s => h _ s) h2⟩
  | .ro _ :: l, _, _, _, h, ⟨h1, h2⟩ => ⟨h1, take_mono (fun cs s => h _ s) h2⟩
  | .rp _ :: l, _, _, _, h, ⟨h1, h2⟩ => ⟨h1, take_mono (fun cs s => h _ s) h2⟩
  | .bp _ _ _ :: l, _, _, _, h, ⟨h1, h2⟩ => ⟨h1, take_mono (fun cs s => h _ s) h2⟩
  | .ep _ _ _ _ _ :: l, _, _, _, h, ⟨h1, h2⟩ => ⟨h1, take_mono (fun cs s => h _ s) h2⟩
  | .un :: l, _, _, _, h, ⟨h1, h2⟩ => ⟨h1, take_mono (fun cs s => h _ s) h2⟩
  | .hs _ _ _ _ _ _ _ :: l, _, _, _, h, ⟨h1, h2⟩ => ⟨h1, take_mono (fun cs s => h _ s) h2⟩
theorem Turns.mono {f : FuncId} {args : List AV} {o : Nat → Ob} {R R' : RT → (Nat → Ob) → Prop} (h : ∀ rt o', R rt o' → R' rt o') (ht : Turns P f args o R) : Turns P f args o R' :=
  ⟨ht.1, fun B w F xs h1 h2 => (ht.2 B w F xs h1 h2).mono fun e w' ⟨v, rt, o', S, F', k1, k2, k3, k4, k5, k6⟩ => ⟨v, rt, o', S, F', k1, k2, k3, k4, k5, h _ _ k6⟩⟩
theorem Inl.mono {f : FuncId} {args : List AV} {o : Nat → Ob} {R R' : AV → (Nat → Ob) → Prop} (h : ∀ av o', R av o' → R' av o') (ht : Inl P f args o R) : Inl P f args o R' :=
  ⟨ht.1, fun B w F xs h1 h2 => (ht.2 B w F xs h1 h2).mono fun e w' ⟨v, av, o', F', k1, k2, k3, k4⟩ => ⟨v, av, o', F', k1, k2, k3, h _ _ k4⟩⟩
/-- Another slot's value makes no difference to an instruction that neither reads nor writes it; and of the slots but one turns. -/
theorem run_put {i : Ins} {d : Option Nat} {v : AV} {K K' : St → Prop} (hd : ∀ k, d = some k → (∀ x ∈ i.i.xs, x ≠ .t k) ∧ i.d ≠ some k) (h : ∀ s2 : St, (∀ n, i.d ≠ some n → s2.t n = s.t n) → K (s2.put d v) → K' s2) (hr : runI P β i (s.put d v) K) : runI P β i s K' := by
  obtain ⟨id, ig, i⟩ := i
  simp only at hd
  have hev : ∀ x ∈ i.xs, (s.put d v).ev x = s.ev x := fun x hx => by
    cases d with
    | none => rfl
    | some k =>
      refine ev_congr fun n hn => ?_
      have := (hd k rfl).1 x hx
      show (if n = k then v else s.t n) = s.t n
      rw [if_neg fun e => this (by rw [hn, e])]
  have ho : (s.put d v).o = s.o := by cases d <;> rfl
  -- the last step: objects come, the slot is set
  have hend : ∀ (s1 : St) (os : List (Nat × Ob)) (av : AV), s1.t = s.t → K ((((s1.put d v).addO os)).put id av) → K' ((s1.addO os).put id av) := fun s1 os av h1 hk => by
    have e1 : ∀ (os : List (Nat × Ob)) (s1 : St), (s1.put d v).addO os = (s1.addO os).put d v := by
      intro os
      induction os with
      | nil => intro s1; rfl
      | cons p os ih =>
        intro s1
        obtain ⟨g, ob⟩ := p
        show ((s1.put d v).setO g ob).addO os = ((s1.setO g ob).addO os).put d v
        rw [← ih]
        congr 1
        cases d <;> rfl
    have e2 : ∀ s1 : St, (s1.put d v).put id av = (s1.put id av).put d v := fun s1 => by
      cases d with
      | none => rfl
      | some k =>
        cases id with
        | none => rfl
        | some j =>
          have hne : j ≠ k := fun e => (hd k rfl).2 (by rw [e])
          simp only [St.put, St.mk.injEq, and_true]
          funext n
          by_cases h1 : n = j <;> by_cases h2 : n = k <;> simp_all
    have e3 : ∀ (os : List (Nat × Ob)) (s1 : St), (s1.addO os).t = s1.t := by
      intro os
      induction os with
      | nil => intro s1; rfl
      | cons p os ih => intro s1; obtain ⟨g, ob⟩ := p; show ((s1.setO g ob).addO os).t = _; rw [ih]; rfl
    rw [e1, e2] at hk
    refine h _ (fun n hn => ?_) hk
    cases id with
    | none => show (s1.addO os).t n = _; rw [e3, h1]
    | some j =>
      show (if n = j then av else (s1.addO os).t n) = _
      rw [if_neg fun e => hn (by rw [e]), e3, h1]
  have hgen : ∀ j : I, (∀ x ∈ j.xs, (s.put d v).ev x = s.ev x) → (∃ rt, ∀ st, ∃ av os, Gen P (s.put d v) (β + id.getD 0) rt st j av os ∧ K (((s.put d v).addO os).put id av)) →
      ∃ rt, ∀ st, ∃ av os, Gen P s (β + id.getD 0) rt st j av os ∧ K' ((s.addO os).put id av) := fun j hj ⟨rt, hg⟩ => ⟨rt, fun st => by
    obtain ⟨av, os, h1, h2⟩ := hg st
    exact ⟨av, os, gen_frame (fun x hx => (hj x hx).symm) (fun g _ => kept_put_) (fun _ => ho.symm) h1, hend s os av rfl h2⟩⟩
  have htake : ∀ {l : List A0} {s1 : St} {R R' : List Cell → St → Prop}, s1.t = s.t → (∀ cs s2, s2.t = s.t → R cs (s2.put d v) → R' cs s2) → TakeK (s1.put d v) l R → TakeK s1 l R' := by
    intro l
    induction l with
    | nil => intro s1 R R' h1 h2 hk; exact h2 _ _ h1 hk
    | cons x l ih =>
      intro s1 R R' h1 h2 hk
      have plain : ∀ a : A0, TakeK (s1.put d v) l (fun cs s' => R (.a a :: cs) s') → TakeK s1 l (fun cs s' => R' (.a a :: cs) s') := fun a hk => ih h1 (fun cs s2 h3 => h2 _ s2 h3) hk
      cases x with
      | h g c p x =>
        obtain ⟨k1, d0, η, k2, k3, k4⟩ := hk
        have ho1 : (s1.put d v).o = s1.o := by cases d <;> rfl
        have hrm : (s1.put d v).rm g c = (s1.rm g c).put d v := by cases d <;> rfl
        rw [ho1] at k2
        rw [hrm] at k4
        exact ⟨k1, d0, η, k2, k3, ih (by exact h1) (fun cs s2 h3 => h2 _ s2 h3) k4⟩
      | _ => exact ⟨hk.1, plain _ hk.2⟩
  have hdest : ∀ {e size : Nat} {a : AV} {s1 : St} {R R' : List D → St → Prop}, s1.t = s.t → (∀ cs s2, s2.t = s.t → R cs (s2.put d v) → R' cs s2) → DestK (s1.put d v) e size a R → DestK s1 e size a R' := by
    intro e size a s1 R R' h1 h2 hk
    unfold DestK at hk ⊢
    split
    · exact h2 _ _ h1 hk
    · obtain ⟨k1, cs, η, k2, k3, k4⟩ := hk
      have ho1 : (s1.put d v).o = s1.o := by cases d <;> rfl
      rw [ho1] at k2
      have hrm : ∀ g c, (s1.put d v).rm g c = (s1.rm g c).put d v := fun g c => by cases d <;> rfl
      rw [hrm] at k4
      exact ⟨k1, cs, η, k2, k3, h2 _ _ h1 k4⟩
    · simp_all
  have hsrc : ∀ {size : Nat} {a : AV} {s1 : St} {R R' : List D → St → Prop}, s1.t = s.t → (∀ cs s2, s2.t = s.t → R cs (s2.put d v) → R' cs s2) → SrcK (s1.put d v) size a R → SrcK s1 size a R' := by
    intro size a s1 R R' h1 h2 hk
    have ho1 : (s1.put d v).o = s1.o := by cases d <;> rfl
    unfold SrcK at hk ⊢
    split
    · exact h2 _ _ h1 hk
    · obtain ⟨k1, k2, k3, k4⟩ := hk; exact ⟨k1, k2, k3, h2 _ _ h1 k4⟩
    · obtain ⟨dd, k1, k2, k3, k4⟩ := hk; exact ⟨dd, is_congr (fun g _ => by rw [ho1]) k1, k2, k3, h2 _ _ h1 k4⟩
    · obtain ⟨dd, k1, k2, k3⟩ := hk
      refine ⟨dd, is_congr (fun g _ => by rw [ho1]) k1, k2, ?_⟩
      have hrm : ∀ g c, (s1.put d v).rm g c = (s1.rm g c).put d v := fun g c => by cases d <;> rfl
      split
      · rw [if_pos (by assumption)] at k3; exact h2 _ _ h1 k3
      · rw [if_neg (by assumption), hrm] at k3; exact ⟨k3.1, k3.2.1, h2 _ _ (by exact h1) k3.2.2⟩
    · simp_all
  cases i with
  | box ty n x =>
    obtain ⟨l, h1, h2, h3⟩ := hr
    rw [hev x (by simp [I.xs])] at h1
    exact ⟨l, h1, h2, htake rfl (fun cs s2 h4 h5 b => hend s2 _ _ h4 (h5 b)) h3⟩
  | bsl e size n ks ps =>
    obtain ⟨l, h1, h3⟩ := hr
    rw [cat_congr (s := s) fun x hx => hev x (by simpa [I.xs] using hx)] at h1
    exact ⟨l, h1, htake rfl (fun cs s2 h4 ⟨ds, h5, h6⟩ => ⟨ds, h5, fun η => hend s2 _ _ h4 (h6 η)⟩) h3⟩
  | st n ks a x =>
    obtain ⟨h0, l, h1, h2, h3⟩ := hr
    simp only at h0
    subst h0
    rw [hev x (by simp [I.xs])] at h1
    rw [hev a (by simp [I.xs])] at h3
    refine ⟨rfl, l, h1, h2, htake rfl (fun cs s2 h4 h5 => ?_) h3⟩
    have ho2 : (s2.put d v).o = s2.o := by cases d <;> rfl
    have hfin : ∀ g ob, K ((s2.put d v).setO g ob) → K' (s2.setO g ob) := fun g ob hk => hend s2 [(g, ob)] (.unk) h4 hk
    split at h5
    · obtain ⟨ty, ds, k1, k2, k3⟩ := h5
      rw [ho2] at k1
      exact ⟨ty, ds, k1, k2, hfin _ _ k3⟩
    · obtain ⟨k0, ds, k1, d0, η, dd, k2, k3, k4, k5, k6, k7⟩ := h5
      rw [ho2] at k2 k7
      exact ⟨k0, ds, k1, d0, η, dd, k2, k3, k4, k5, k6, stH_mono (fun η' hk => hfin _ _ hk) k7⟩
    · exact h5.elim
  | app e size bytes x y =>
    have hr' := hr
    simp only [runI] at hr' ⊢
    rw [hev x (by simp [I.xs]), hev y (by simp [I.xs])] at hr'
    exact hsrc rfl (fun ys s1 h1 hk => hdest h1 (fun xs s2 h2 ⟨k1, k2, k3⟩ => ⟨k1, k2, fun η => hend s2 _ _ h2 (k3 η)⟩) hk) hr'
  | apps e x y =>
    obtain ⟨b, h1, h2⟩ := hr
    rw [hev y (by simp [I.xs])] at h1
    rw [hev x (by simp [I.xs])] at h2
    exact ⟨b, h1, hdest rfl (fun xs s2 h2 ⟨k1, k3⟩ => ⟨k1, fun η => hend s2 _ _ h2 (k3 η)⟩) h2⟩
  | clr size zs x =>
    obtain ⟨h0, h3⟩ := hr
    simp only at h0
    subst h0
    rw [hev x (by simp [I.xs])] at h3
    refine ⟨rfl, ?_⟩
    split at h3
    · exact hend s [] .unk rfl h3
    · obtain ⟨k0, k1, d0, η, dd, k2, k3, k4, k5, k6, k7, k8⟩ := h3
      rw [ho] at k2 k8
      exact ⟨k0, k1, d0, η, dd, k2, k3, k4, k5, k6, k7, stH_mono (fun η' hk => hend s [(_, _)] .unk rfl hk) k8⟩
    · exact h3.elim
  | call f args =>
    rcases hr with hg | ht | ht
    · exact .inl (hgen _ hev hg)
    · right; left
      rw [map_congr (s := s) fun x hx => hev x (by simpa [I.xs] using hx), ho] at ht
      refine ht.mono fun rt o' hR η => ?_
      have := hR η
      exact hend ⟨s.t, o'⟩ _ _ rfl (by cases d <;> exact this)
    · right; right
      rw [map_congr (s := s) fun x hx => hev x (by simpa [I.xs] using hx), ho] at ht
      refine ht.mono fun av o' hR => ?_
      exact hend ⟨s.t, o'⟩ [] av rfl (by cases d <;> exact hR)
  | callv x args =>
    rcases hr with hg | ⟨f, caps, h0, ht⟩
    · exact .inl (hgen _ hev hg)
    · right
      rw [hev x (by simp [I.xs])] at h0
      rw [map_congr (s := s) (l := args) fun y hy => hev y (by simp [I.xs, hy]), ho] at ht
      refine ⟨f, caps, h0, ht.mono fun rt o' hR η => ?_⟩
      have := hR η
      exact hend ⟨s.t, o'⟩ _ _ rfl (by cases d <;> exact this)
  | _ => exact hgen _ hev hr
theorem run_mono {i : Ins} {K K' : St → Prop} (h : ∀ s, K s → K' s) (hr : runI P β i s K) : runI P β i s K' :=
  run_put (d := none) (v := .unk) (fun k hk => by cases hk) (fun s2 _ hk => h s2 hk) hr
end

inductive Reach (ops : Array Oper) : Nat → Nat → Prop where
  | one {j i : Nat} {o : Oper} {e : Edge} (hj : ops[j]? = some o) (he : e ∈ o.after) (hb : Region.binds .any e = true) (hi : e.on = i) : Reach ops j i
  | more {j i : Nat} {o : Oper} {e : Edge} (hj : ops[j]? = some o) (he : e ∈ o.after) (hb : Region.binds .any e = true) (hi : Reach ops e.on i) : Reach ops j i
theorem Reach.trans {ops : Array Oper} {j i k : Nat} (h : Reach ops j i) (h2 : Reach ops i k) : Reach ops j k := by
  induction h with
  | one hj he hb hi => subst hi; exact .more hj he hb h2
  | more hj he hb _ ih => exact .more hj he hb (ih h2)
theorem anc_reach {ops : Array Oper} {j0 : Nat} : ∀ {n : Nat} {seen todo : List Nat}, (∀ x ∈ seen, Reach ops j0 x) → (∀ x ∈ todo, x = j0 ∨ Reach ops j0 x) → ∀ x ∈ ancB ops n seen todo, Reach ops j0 x
  | 0, _, _, h, _, x, hx => h x (by simpa [ancB] using hx)
  | n + 1, _, [], h, _, x, hx => h x (by simpa [ancB] using hx)
  | n + 1, seen, j :: todo, h, h2, x, hx => by
    simp only [ancB] at hx
    split at hx
    · rename_i o ho
      have hnew : ∀ y ∈ (o.after.toList.filter fun e => Region.binds .any e && !seen.contains e.on).map (·.on), Reach ops j0 y := by
        intro y hy
        obtain ⟨e, he, rfl⟩ := List.mem_map.1 hy
        obtain ⟨he1, he2⟩ := List.mem_filter.1 he
        have hb : Region.binds .any e = true := by
          cases hq : Region.binds .any e with
          | true => rfl
          | false => rw [hq] at he2; simp at he2
        have h1 : Reach ops j e.on := .one ho (by simpa using he1) hb rfl
        rcases h2 j (by simp) with rfl | h3
        · exact h1
        · exact h3.trans h1
      refine anc_reach (n := n) ?_ ?_ x hx
      · intro y hy
        rcases List.mem_append.1 hy with hy | hy
        · exact hnew y hy
        · exact h y hy
      · intro y hy
        rcases List.mem_append.1 hy with hy | hy
        · exact .inr (hnew y hy)
        · exact h2 y (by simp [hy])
    · exact anc_reach (n := n) h (fun y hy => h2 y (by simp [hy])) x hx
theorem waits_reach {ops : Array Oper} {n j i : Nat} (h : waitsB ops n j i = true) : Reach ops j i := by
  unfold waitsB at h
  rw [List.contains_iff_mem] at h
  exact anc_reach (by simp) (by simp) i h
/-- What is listed waits for nothing that is not. -/
def Closed (ops : Array Oper) (listed : Array Bool) : Prop := ∀ (k : Nat) (o : Oper), ops[k]? = some o → listed.getD k false = true → ∀ e ∈ o.after, Region.binds .any e = true → listed.getD e.on false = true
theorem Closed.reach {ops : Array Oper} {listed : Array Bool} (h : Closed ops listed) : ∀ {j i : Nat}, Reach ops j i → (∀ (o : Oper), ops[j]? = some o → ∀ e ∈ o.after, Region.binds .any e = true → listed.getD e.on false = true) → listed.getD i false = true := by
  intro j i hr
  induction hr with
  | one hj he hb hi => intro hl; subst hi; exact hl _ hj _ he hb
  | more hj he hb _ ih => intro hl; exact ih fun o ho e' he' hb' => h _ o ho (hl _ hj _ he hb) e' he' hb'
theorem Closed.add {ops : Array Oper} {listed : Array Bool} {j : Nat} (h : Closed ops listed) (hj : j ∈ Region.ready .any ops listed) : Closed ops (listed.setIfInBounds j true) := by
  intro k o ho hk e he hb
  obtain ⟨_, oj, hoj, hall⟩ := mem_ready.1 hj
  by_cases hkj : k = j
  · subst hkj
    rw [ho] at hoj
    cases hoj
    exact getD_set_true (hall e he hb)
  · rw [getD_set_ne false (Ne.symm hkj)] at hk
    exact getD_set_true (h k o ho hk e he hb)
theorem getD_tf {listed : Array Bool} {i : Nat} (h : listed.getD i true = false) : listed.getD i false = false := by
  rcases Nat.lt_or_ge i listed.size with h' | h'
  · simpa [h'] using h
  · simp [Array.getElem?_eq_none h'] at h

section
variable {P : Program} {β N : Nat} {ops : Array Oper} {is : List Ins} {Q : St → Prop}
def eStep (P : Program) (β : Nat) (is : List Ins) (j : Nat) (K : St → Prop) (s : St) : Prop := match is[j]? with
  | none => False
  | some i => match wantA s i.g with
    | some true => runI P β i s K
    | some false => K (s.put i.d (.c (.v undef)))
    | none => False
def keepP (ops : Array Oper) (j : Nat) (l : List (Nat × List Lk)) (s s' : St) : Prop := ∀ p ∈ l, ¬ Reach ops j p.1 → ∀ k ∈ p.2, kept s s' k
def eAny (P : Program) (β : Nat) (ops : Array Oper) (is : List Ins) (Q : St → Prop) : Nat → List (Nat × List Lk) → Array Bool → St → Prop
  | 0, _, listed, s => Region.ready .any ops listed = [] ∧ Q s
  | f + 1, l, listed, s => (Region.ready .any ops listed = [] → Q s) ∧ ∀ j ∈ Region.ready .any ops listed, eStep P β is j (fun s' => keepP ops j l s s' ∧ eAny P β ops is Q f l (listed.setIfInBounds j true) s') s
theorem eStep_mono {j : Nat} {K K' : St → Prop} {s : St} (h : ∀ s, K s → K' s) (hs : eStep P β is j K s) : eStep P β is j K' s := by
  unfold eStep at hs ⊢
  split
  · simp_all
  · rename_i i hi
    simp only [hi] at hs
    split
    · rename_i hw; simp only [hw] at hs; exact run_mono h hs
    · rename_i hw; simp only [hw] at hs; exact h _ hs
    · rename_i hw; simp only [hw] at hs
theorem compL_get : ∀ {l : List Oper} {is : List Ins}, compL P N ops l = some is → is.length = l.length ∧ ∀ (j : Nat) (o : Oper), l[j]? = some o → ∃ i, is[j]? = some i ∧ compO P N ops o = some i
  | [], is, h => by simp [compL] at h; subst h; simp
  | o :: l, is, h => by
    simp only [compL] at h
    split at h
    · rename_i i r h1 h2
      simp at h; subst h
      obtain ⟨h3, h4⟩ := compL_get h2
      refine ⟨by simp [h3], fun j o' ho => ?_⟩
      cases j with
      | zero => simp at ho; subst ho; exact ⟨i, rfl, h1⟩
      | succ j => exact h4 j o' (by simpa using ho)
    · simp at h
theorem any_do {B : Nat} {w0 : World} {Q' : Exit → Act → World → Prop} (hc : compL P N ops ops.toList = some is) (hQ : ∀ s a w F, RelF B w0 N s a w F → Q s → Q' .normal a w) : ∀ (f : Nat) (l : List (Nat × List Lk)) (listed : Array Bool) (s : St) (a : Act) (w : World) (F : Nat → List Nat),
    RelF B w0 N s a w F → eAny P β ops is Q f l listed s → wpAny P .any ops Q' f listed a w
  | 0, _, _, s, a, w, F, h, hs => ⟨hs.1, hQ _ _ _ _ h hs.2⟩
  | f + 1, l, listed, s, a, w, F, h, hs => by
    refine ⟨fun h0 => hQ _ _ _ _ h (hs.1 h0), fun j hj => ?_⟩
    have hst := hs.2 j hj
    obtain ⟨_, o, ho, _⟩ := mem_ready.1 hj
    obtain ⟨i, hi, hci⟩ := (compL_get hc).2 j o (by simpa using ho)
    obtain ⟨e1, e2, e3, e4⟩ := compO_is hci
    unfold eStep at hst
    simp only [hi] at hst
    unfold wpOp
    simp only [ho]
    split at hst
    · rename_i hw
      rw [if_pos (want_rel h e4 hw)]
      refine .inl (op_do e2 (g := i.g) (β := β) (K := fun s' => keepP ops j l s s' ∧ eAny P β ops is Q f l (listed.setIfInBounds j true) s') h e3 (by rw [← e1]; exact hst) _ _ fun a' w' ⟨s', F', h3, h4⟩ => any_do hc hQ f l _ _ _ _ _ h3 h4.2)
    · rename_i hw
      rw [if_neg (by rw [want_rel h e4 hw]; simp)]
      rw [e1] at hst
      exact any_do hc hQ f l _ _ _ _ _ (h.put (u := undef) (v := .c (.v undef)) rfl e3) hst.2
    · exact hst.elim
theorem any_weak {p : Nat × List Lk} : ∀ (f : Nat) (l : List (Nat × List Lk)) (listed : Array Bool) (s : St), eAny P β ops is Q f (p :: l) listed s → eAny P β ops is Q f l listed s
  | 0, _, _, _, h => h
  | f + 1, l, listed, s, h => ⟨h.1, fun j hj => eStep_mono (fun s' ⟨h1, h2⟩ => ⟨fun q hq => h1 q (by simp [hq]), any_weak f l _ s' h2⟩) (h.2 j hj)⟩
theorem any_nil {i : Nat} : ∀ (f : Nat) (l : List (Nat × List Lk)) (listed : Array Bool) (s : St), eAny P β ops is Q f l listed s → eAny P β ops is Q f ((i, []) :: l) listed s
  | 0, _, _, _, h => h
  | f + 1, l, listed, s, h => ⟨h.1, fun j hj => eStep_mono (fun s' ⟨h1, h2⟩ => ⟨fun q hq hr g hg => by
      rcases List.mem_cons.1 hq with rfl | hq
      · simp at hg
      · exact h1 q hq hr g hg, any_nil f l _ s' h2⟩) (h.2 j hj)⟩
/-- What a quiet operation yields here. -/
def EY (P : Program) (x : Ins) (s : St) (v : AV) (ids : List Lk) : Prop :=
  (wantA s x.g = some true ∧ x.i.pureB = true ∧ ids = x.i.looks s ∧ ∀ d rt st, Gen P s d rt st x.i v []) ∨ (wantA s x.g = some false ∧ v = .c (.v undef) ∧ ids = [])
theorem EY.run {x : Ins} {s : St} {v : AV} {ids : List Lk} {i : Nat} {K : St → Prop} (his : is[i]? = some x) (h : EY P x s v ids) (hk : K (s.put x.d v)) : eStep P β is i K s := by
  unfold eStep
  simp only [his]
  rcases h with ⟨h1, h2, _, h3⟩ | ⟨h1, rfl, _⟩
  · simp only [h1]
    rw [run_pure_eq h2]
    exact ⟨.c (.val undef), fun st => ⟨v, [], h3 _ _ _, hk⟩⟩
  · simp only [h1]; exact hk
theorem want_congr {s s2 : St} {g : Option (Nat × Bool)} (h : ∀ t w, g = some (t, w) → s2.t t = s.t t) : wantA s2 g = wantA s g := by
  cases g with
  | none => rfl
  | some p => obtain ⟨t, w⟩ := p; simp only [wantA, h t w rfl]
theorem EY.stable {x : Ins} {s s2 : St} {v : AV} {ids : List Lk} (h : EY P x s v ids) (ht : ∀ n ∈ x.uses, s2.t n = s.t n) (ho : ∀ k ∈ ids, kept s s2 k) : EY P x s2 v ids := by
  have hev : ∀ y ∈ x.i.xs, s2.ev y = s.ev y := fun y hy => ev_congr fun n hn => ht n (by
    subst hn
    exact List.mem_append_left _ (List.mem_filterMap.2 ⟨_, hy, rfl⟩))
  have hw : wantA s2 x.g = wantA s x.g := want_congr fun t w hg => ht t (by simp [Ins.uses, hg])
  rcases h with ⟨h1, h2, h3, h4⟩ | ⟨h1, h2, h3⟩
  · refine .inl ⟨by rw [hw]; exact h1, h2, by rw [looks_congr hev]; exact h3, fun d rt st => gen_frame hev (fun g hg => ho g (by rw [h3]; exact hg)) (fun hp => by rw [h2] at hp; cases hp) (h4 d rt st)⟩
  · exact .inr ⟨by rw [hw]; exact h1, h2, h3⟩
theorem apart_spec {x y : Ins} (h : apartE x y = true) : (∀ d, x.d = some d → d ∉ y.uses ∧ y.d ≠ some d) ∧ ∀ d, y.d = some d → d ∉ x.uses := by
  simp only [apartE, Bool.and_eq_true] at h
  refine ⟨fun d hd => ?_, fun d hd => ?_⟩
  · have := h.1; rw [hd] at this; simpa using this
  · have := h.2; rw [hd] at this; simpa using this
theorem eStep_put {j : Nat} {x y : Ins} {s : St} {v : AV} {K K' : St → Prop} (hy : is[j]? = some y) (hap : apartE x y = true) (h : ∀ s2 : St, (∀ n ∈ x.uses, s2.t n = s.t n) → K (s2.put x.d v) → K' s2) (hs : eStep P β is j K (s.put x.d v)) : eStep P β is j K' s := by
  obtain ⟨h1, h2⟩ := apart_spec hap
  have hw : wantA (s.put x.d v) y.g = wantA s y.g := want_congr fun t w hg => by
    cases hd : x.d with
    | none => rfl
    | some d =>
      have hne : t ≠ d := fun e => (h1 d hd).1 (by simp [Ins.uses, hg, e])
      show (if t = d then v else s.t t) = _
      rw [if_neg hne]
  unfold eStep at hs ⊢
  simp only [hy, hw] at hs ⊢
  split at hs
  · refine run_put (fun k hk => ⟨fun z hz e => (h1 k hk).1 ?_, (h1 k hk).2⟩) (fun s2 ht hk => h s2 (fun n hn => ht n fun e => h2 n e hn) hk) hs
    subst e
    exact List.mem_append_left _ (List.mem_filterMap.2 ⟨_, hz, rfl⟩)
  · refine h _ (fun n hn => ?_) ?_
    · cases hd : y.d with
      | none => rfl
      | some d =>
        show (if n = d then _ else s.t n) = _
        rw [if_neg fun (e : n = d) => h2 d hd (e ▸ hn)]
    · have e : (s.put x.d v).put y.d (.c (.v undef)) = (s.put y.d (.c (.v undef))).put x.d v := by
        cases hd : x.d with
        | none => rfl
        | some k =>
          cases hd2 : y.d with
          | none => rfl
          | some m =>
            have hne : m ≠ k := fun e => (h1 k hd).2 (by rw [hd2, e])
            simp only [St.put, St.mk.injEq, and_true]
            funext n
            by_cases h1 : n = m <;> by_cases h2 : n = k <;> simp_all
      rw [← e]; exact hs
  · exact hs
theorem any_first {i : Nat} {x : Ins} {v : AV} {ids : List Lk} (hlen : is.length = ops.size) (his : is[i]? = some x) : ∀ (f : Nat) (l : List (Nat × List Lk)) (listed : Array Bool) (s : St), Closed ops listed →
    (∀ (j : Nat) (oj : Oper) (y : Ins), ops[j]? = some oj → is[j]? = some y → j ≠ i → listed.getD j true = false → (∀ e ∈ oj.after, Region.binds .any e = true → e.on ≠ i) → apartE x y = true) →
    i ∈ Region.ready .any ops listed → EY P x s v ids → eAny P β ops is Q f ((i, ids) :: l) (listed.setIfInBounds i true) (s.put x.d v) → eAny P β ops is Q (f + 1) l listed s := by
  intro f
  induction f with
  | zero =>
    intro l listed s _ _ hr hy H
    refine ⟨fun h => (by rw [h] at hr; cases hr), fun j hj => ?_⟩
    by_cases hji : j = i
    · subst hji
      exact hy.run his ⟨fun p _ _ g _ => kept_put, H⟩
    · have := ready_mono hj hji
      rw [H.1] at this
      cases this
  | succ f ih =>
    intro l listed s hcl hfree hr hy H
    refine ⟨fun h => (by rw [h] at hr; cases hr), fun j hj => ?_⟩
    by_cases hji : j = i
    · subst hji
      exact hy.run his ⟨fun p _ _ g _ => kept_put, any_weak _ _ _ _ H⟩
    · have h1 := H.2 j (ready_mono hj hji)
      obtain ⟨hjun, oj, hoj, hall⟩ := mem_ready.1 hj
      have hiun := (mem_ready.1 hr).1
      have hnr : ¬ Reach ops j i := fun hh => by
        have := hcl.reach hh fun o ho e he hb => by rw [hoj] at ho; cases ho; exact hall e he hb
        rw [getD_tf hiun] at this
        cases this
      have hnot : ∀ e ∈ oj.after, Region.binds .any e = true → e.on ≠ i := fun e he hb heq => hnr (.one hoj he hb heq)
      have hjlt : j < is.length := by rw [hlen]; exact (Array.getElem?_eq_some_iff.1 hoj).1
      obtain ⟨y, hyj⟩ : ∃ y, is[j]? = some y := ⟨is[j], List.getElem?_eq_getElem hjlt⟩
      refine eStep_put hyj (hfree j oj y hoj hyj hji hjun hnot) (fun s2 ht ⟨k1, k2⟩ => ?_) h1
      refine ⟨fun p hp hnp g hg => ?_, ?_⟩
      · have := k1 p (by simp [hp]) hnp g hg
        exact kept_put2.1 this
      · have hyk : EY P x s2 v ids := hy.stable ht fun g hg => by
          have := k1 (i, ids) (by simp) hnr g hg
          exact kept_put2.1 this
        refine ih l (listed.setIfInBounds j true) s2 (hcl.add hj) (fun k ok z hk hz hki hun hno => ?_) (ready_mono hr (Ne.symm hji)) hyk ?_
        · refine hfree k ok z hk hz hki ?_ hno
          by_cases hjk : j = k
          · subst hjk; exact hjun
          · rw [getD_set_ne true hjk] at hun; exact hun
        · rw [Array.setIfInBounds_comm _ _ hji]
          exact k2
theorem free_spec {i : Nat} {x : Ins} {listed : Array Bool} (his : is[i]? = some x) (h : freeE ops is listed i = true) : x.i.pureB = true ∧ ∀ (j : Nat) (oj : Oper) (y : Ins), ops[j]? = some oj → is[j]? = some y → j ≠ i → listed.getD j true = false → (∀ e ∈ oj.after, Region.binds .any e = true → e.on ≠ i) → apartE x y = true := by
  simp only [freeE, his, Bool.and_eq_true, List.all_eq_true, List.mem_range] at h
  refine ⟨h.1, fun j oj y hj hy hne hun hno => ?_⟩
  have h1 := h.2 j (Array.getElem?_eq_some_iff.1 hj).1
  simp only [hj, hy, Bool.or_eq_true, beq_iff_eq, hne, false_or, hun, Bool.false_eq_true] at h1
  rcases h1 with h1 | h1
  · obtain ⟨e, he, hb⟩ := Array.any_eq_true'.1 h1
    simp only [Bool.and_eq_true, beq_iff_eq] at hb
    exact absurd hb.2 (hno e he hb.1)
  · exact h1
theorem keep1_all {s s' : St} : ∀ {l : List Lk}, keep1 s s' l → ∀ g ∈ l, kept s s' g
  | [], _, g, hg => by simp at hg
  | k :: l, h, g, hg => by
    rcases List.mem_cons.1 hg with rfl | hg
    · exact h.1
    · exact keep1_all h.2 g hg
theorem keepL_all {s s' : St} {chk : List Nat} : ∀ {l : List (Nat × List Lk)}, keepL s s' chk l → ∀ p ∈ l, p.1 ∈ chk → ∀ g ∈ p.2, kept s s' g
  | [], _, p, hp, _ => by simp at hp
  | (q, ids) :: l, h, p, hp, hc => by
    rcases List.mem_cons.1 hp with rfl | hp
    · have := h.1
      rw [if_pos (by simpa using hc)] at this
      exact keep1_all this
    · exact keepL_all h.2 p hp hc
theorem tree_sound (hlen : is.length = ops.size) : ∀ (f : Nat) (pures : List Nat) (listed : Array Bool) (t : T) (l : List (Nat × List Lk)) (s : St), mkT ops is f pures listed = some t → (∀ p ∈ l, p.1 ∈ pures) → Closed ops listed → runT P β t l s Q → eAny P β ops is Q f l listed s
  | 0, pures, listed, t, l, s, h, _, _, hr => by
    simp only [mkT] at h
    split at h
    · rename_i he
      simp at h; subst h
      exact ⟨by simpa using he, hr⟩
    · simp at h
  | f + 1, pures, listed, t, l, s, h, hl, hcl, hr => by
    simp only [mkT] at h
    split at h
    · rename_i he
      simp at h; subst h
      have he' : Region.ready .any ops listed = [] := by simpa using he
      exact ⟨fun _ => hr, fun j hj => by rw [he'] at hj; cases hj⟩
    · rename_i hne
      split at h
      · rename_i i hfi
        have hmem := List.mem_of_find?_eq_some hfi
        have hfree := List.find?_some hfi
        split at h
        · rename_i x t' his ht
          simp at h; subst h
          obtain ⟨hp, hfr⟩ := free_spec his hfree
          simp only [runT] at hr
          split at hr
          · rename_i hw
            rw [run_pure_eq hp] at hr
            obtain ⟨rt, hg⟩ := hr
            obtain ⟨av, os, h1, h2⟩ := hg ⟨0, fun _ _ => undef⟩
            have h3 := fun d rt st => gen_pure (d' := d) (rt' := rt) (st' := st) hp h1
            obtain rfl := (h3 0 rt ⟨0, fun _ _ => undef⟩).2
            exact any_first hlen his f l listed s hcl hfr hmem (.inl ⟨hw, hp, rfl, fun d rt st => (h3 d rt st).1⟩) (tree_sound hlen f _ _ _ _ _ ht (fun p hp' => by
              rcases List.mem_cons.1 hp' with rfl | hp'
              · simp
              · simp [hl p hp']) (hcl.add hmem) h2)
          · rename_i hw
            exact any_first hlen his f l listed s hcl hfr hmem (.inr ⟨hw, rfl, rfl⟩) (any_nil _ _ _ _ (tree_sound hlen f _ _ _ _ _ ht (fun p hp' => by simp [hl p hp']) (hcl.add hmem) hr))
          · exact hr.elim
        · simp at h
      · rename_i hnf
        refine ⟨fun h0 => absurd (by simpa using h0) hne, ?_⟩
        -- every branch
        have key : ∀ (r : List Nat) (t : T), (∀ j ∈ r, j ∈ Region.ready .any ops listed) → (r.foldr (fun j acc => match is[j]?, mkT ops is f pures (listed.setIfInBounds j true), acc with
            | some x, some t, some rest => some (.alt x (pures.filter fun p => !waitsB ops ops.size j p) t rest)
            | _, _, _ => none) (some .stop)) = some t → runT P β t l s Q → ∀ j ∈ r, eStep P β is j (fun s' => keepP ops j l s s' ∧ eAny P β ops is Q f l (listed.setIfInBounds j true) s') s := by
          intro r
          induction r with
          | nil => intro _ _ _ _ j hj; cases hj
          | cons k r ih =>
            intro t hsub h hr j hj
            simp only [List.foldr_cons] at h
            split at h
            · rename_i x t' rest hx ht hrest
              simp at h; subst h
              obtain ⟨hr1, hr2⟩ := hr
              rcases List.mem_cons.1 hj with rfl | hj
              · have hjr := hsub j (by simp)
                unfold eStep
                simp only [hx]
                split at hr1
                · rename_i hw
                  simp only [hw]
                  refine run_mono (fun s' ⟨k1, k2⟩ => ⟨fun p hp hnp g hg => ?_, tree_sound hlen f _ _ _ _ _ ht hl (hcl.add hjr) k2⟩) hr1
                  refine keepL_all k1 p hp (List.mem_filter.2 ⟨hl p hp, ?_⟩) g hg
                  cases hwt : waitsB ops ops.size j p.1 with
                  | false => rfl
                  | true => exact absurd (waits_reach hwt) hnp
                · rename_i hw
                  simp only [hw]
                  exact ⟨fun p _ _ g _ => kept_put, tree_sound hlen f _ _ _ _ _ ht hl (hcl.add hjr) hr1⟩
                · exact hr1.elim
              · exact ih rest (fun k hk => hsub k (by simp [hk])) hrest hr2 j hj
            · simp at h
        exact key _ t (fun j hj => hj) h hr
/-- A region that draws its order. -/
theorem draw_do {B : Nat} {w0 w : World} {s : St} {a : Act} {F : Nat → List Nat} {id : Nat} {t : T} {Q' : Exit → Act → World → Prop} (h : RelF B w0 N s a w F) (hc : compT P N ops = some t) (hr : runT P β t [] s Q) (hQ : ∀ s a w F, RelF B w0 N s a w F → Q s → Q' .normal a w) :
    (Code.region id ops true).wp P Q' a w := by
  unfold compT at hc
  split at hc
  · rename_i hm
    split at hc
    · rename_i is hcl
      have hlen := (compL_get hcl).1
      simp only [Array.length_toList] at hlen
      refine wp_region_any hm (any_do hcl hQ ops.size [] _ s a _ F (h.world (w' := w.drew) (drewBelow w)) (tree_sound hlen _ _ _ _ _ _ hc (by simp) (fun k o ho hk => ?_) hr))
      exfalso
      have hlt := (Array.getElem?_eq_some_iff.1 ho).1
      simp [hlt] at hk
    · simp at hc
  · simp at hc
end
end Go.Proofs.YtnhdcbhcocgjhaaGreat
set_option linter.unusedSimpArgs false
set_option linter.unusedVariables false
namespace Go.Proofs.YtnhdcbhcocgjhaaGreat
open Go.RowKit Go.Sort

def Ex.to : Ex → Exit
  | .normal => .normal
  | .exit id => .exit id
  | .ret => .ret
section
variable {P : Program} {β B N : Nat} {w w0 : World} {s : St} {a : Act} {F : Nat → List Nat}

/-- What code was turned from. -/
theorem comp_inv {c : Code} {c0 : C} (h : comp P N c = some c0) : match c0 with
    | .skip => c = .skip
    | .reg is => ∃ id ops, c = .region id ops false ∧ compL P N ops ops.toList = some is
    | .dreg t => ∃ id ops, c = .region id ops true ∧ compT P N ops = some t
    | .seq a b => ∃ x y, c = .seq x y ∧ comp P N x = some a ∧ comp P N y = some b
    | .cond x a b => ∃ x' y z, c = .cond x' y z ∧ compX x' = some x ∧ comp P N y = some a ∧ comp P N z = some b
    | .blk id a => ∃ x, c = .block id x ∧ comp P N x = some a
    | .loop a => ∃ x, c = .loop x ∧ comp P N x = some a
    | .exit id => c = .exit id
    | .ret => c = .ret
    | .gh _ => False := by
  cases c with
  | skip => simp [comp] at h; subst h; rfl
  | region id ops d =>
    cases d with
    | true => simp only [comp, Option.map_eq_some_iff] at h; obtain ⟨t, h1, rfl⟩ := h; exact ⟨_, _, rfl, h1⟩
    | false => simp only [comp, Option.map_eq_some_iff] at h; obtain ⟨t, h1, rfl⟩ := h; exact ⟨_, _, rfl, h1⟩
  | seq x y =>
    simp only [comp] at h
    split at h
    · rename_i x' y' h1 h2; simp at h; subst h; exact ⟨_, _, rfl, h1, h2⟩
    · simp at h
  | cond x y z =>
    simp only [comp] at h
    split at h
    · rename_i x' y' z' h1 h2 h3; simp at h; subst h; exact ⟨_, _, _, rfl, h1, h2, h3⟩
    · simp at h
  | block id x => simp only [comp, Option.map_eq_some_iff] at h; obtain ⟨t, h1, rfl⟩ := h; exact ⟨_, rfl, h1⟩
  | loop x => simp only [comp, Option.map_eq_some_iff] at h; obtain ⟨t, h1, rfl⟩ := h; exact ⟨_, rfl, h1⟩
  | exit id => simp [comp] at h; subst h; rfl
  | ret => simp [comp] at h; subst h; rfl
  | _ => simp [comp] at h
theorem code_do : ∀ {c' : C} {c : Code} {s : St} {a : Act} {w : World} {F : Nat → List Nat} {Qc : Ex → St → Prop} {Q : Exit → Act → World → Prop},
    comp P N c = some c'.er → RelF B w0 N s a w F → wpC P β c' Qc s → (∀ e s a w F, RelF B w0 N s a w F → Qc e s → Q e.to a w) → c.wp P Q a w
  | .gh x, c, s, a, w, F, Qc, Q, hc, h, hw, hQ => by
    obtain ⟨s', F', h3, h2⟩ := hw _ _ _ _ _ _ h
    exact code_do (c' := x) hc h3 h2 hQ
  | .skip, c, s, a, w, F, Qc, Q, hc, h, hw, hQ => by
    have e : c = .skip := comp_inv hc
    subst e
    exact wp_skip (hQ .normal _ _ _ _ h hw)
  | .dreg t, c, s, a, w, F, Qc, Q, hc, h, hw, hQ => by
    obtain ⟨id, ops, rfl, h1⟩ := comp_inv hc
    exact draw_do h h1 hw fun s a w F h hk => hQ .normal _ _ _ _ h hk
  | .reg is, c, s, a, w, F, Qc, Q, hc, h, hw, hQ => by
    obtain ⟨id, ops, rfl, h1⟩ := comp_inv hc
    exact wp_region_list (list_do (fun s a w F h hk => hQ .normal _ _ _ _ h hk) h1 h hw)
  | .seq x' y', c, s, a, w, F, Qc, Q, hc, h, hw, hQ => by
    obtain ⟨x, y, rfl, h1, h2⟩ := comp_inv hc
    refine wp_seq (code_do h1 h hw fun e s a w F h hk => ?_)
    cases e with
    | normal => exact code_do h2 h hk hQ
    | exit id => exact hQ (.exit id) _ _ _ _ h hk
    | ret => exact hQ .ret _ _ _ _ h hk
  | .cond x' y' z', c, s, a, w, F, Qc, Q, hc, h, hw, hQ => by
    obtain ⟨x, y, z, rfl, h1, h2, h3⟩ := comp_inv hc
    obtain ⟨t, h4, h5, h6⟩ := hw
    exact wp_cond_split (ev_v h h1 h4) (fun ht => code_do h2 h (h5 ht) hQ) (fun ht => code_do h3 h (h6 ht) hQ)
  | .blk id x', c, s, a, w, F, Qc, Q, hc, h, hw, hQ => by
    obtain ⟨x, rfl, h1⟩ := comp_inv hc
    refine wp_block (code_do h1 h hw fun e s a w F h hk => ?_)
    cases e with
    | normal => exact hQ .normal _ _ _ _ h hk
    | exit id' =>
      simp only [Ex.inBlk] at hk
      simp only [Ex.to, Exit.inBlock]
      split
      · rename_i e; rw [if_pos e] at hk; exact hQ .normal _ _ _ _ h hk
      · rename_i e; rw [if_neg e] at hk; exact hQ (.exit id') _ _ _ _ h hk
    | ret => exact hQ .ret _ _ _ _ h hk
  | .loop x', c, s, a, w, F, Qc, Q, hc, h, hw, hQ => by
    obtain ⟨x, rfl, h1⟩ := comp_inv hc
    obtain ⟨ι, mk, J, μ, ⟨i0, h2, h4⟩, h3⟩ := hw
    have key : ∀ (n : Nat) (i : ι) (a : Act) (w : World) (F : Nat → List Nat), RelF B w0 N (mk i) a w F → J i → μ i < n → Code.rounds P x Q n a w := by
      intro n
      induction n with
      | zero => intro _ _ _ _ _ _ hlt; omega
      | succ n ih =>
        intro i a w F h hJ hlt
        refine code_do h1 h (h3 i hJ) fun e s' a' w' F' h' hk => ?_
        cases e with
        | normal =>
          obtain ⟨i', k1, k2, k3⟩ := hk
          obtain ⟨F2, k4, _⟩ := k2 _ _ _ _ _ _ h'
          exact ih _ _ _ _ k4 k1 (by omega)
        | exit id => exact hQ (.exit id) _ _ _ _ h' hk
        | ret => exact hQ .ret _ _ _ _ h' hk
    obtain ⟨F2, h5, _⟩ := h4 _ _ _ _ _ _ h
    exact wp_loop_rounds _ (key (μ i0 + 1) _ _ _ _ h5 h2 (by omega))
  | .exit id, c, s, a, w, F, Qc, Q, hc, h, hw, hQ => by
    have e : c = .exit id := comp_inv hc
    subst e
    exact wp_exit (hQ (.exit id) _ _ _ _ h hw)
  | .ret, c, s, a, w, F, Qc, Q, hc, h, hw, hQ => by
    have e : c = .ret := comp_inv hc
    subst e
    exact wp_ret (hQ .ret _ _ _ _ h hw)

theorem comp_er : ∀ {c' : C} {c : Code}, comp P N c = some c' → c'.er = c'
  | .skip, _, _ | .reg _, _, _ | .dreg _, _, _ | .exit _, _, _ | .ret, _, _ => rfl
  | .seq a b, c, h => by obtain ⟨x, y, _, h1, h2⟩ := comp_inv h; simp only [C.er, comp_er h1, comp_er h2]
  | .cond x a b, c, h => by obtain ⟨_, y, z, _, _, h1, h2⟩ := comp_inv h; simp only [C.er, comp_er h1, comp_er h2]
  | .blk id a, c, h => by obtain ⟨x, _, h1⟩ := comp_inv h; simp only [C.er, comp_er h1]
  | .loop a, c, h => by obtain ⟨x, _, h1⟩ := comp_inv h; simp only [C.er, comp_er h1]
  | .gh a, c, h => (comp_inv h).elim
theorem er_ghAt : ∀ (p : List Nat) (c : C), (C.ghAt p c).er = c.er
  | [], c => by cases c <;> rfl
  | 0 :: p, .seq a b => by simp only [C.ghAt, C.er, er_ghAt p a]
  | (k + 1) :: p, .seq a b => by simp only [C.ghAt, C.er, er_ghAt p b]
  | 0 :: p, .cond x a b => by simp only [C.ghAt, C.er, er_ghAt p a]
  | (k + 1) :: p, .cond x a b => by simp only [C.ghAt, C.er, er_ghAt p b]
  | k :: p, .blk id a => by simp only [C.ghAt, C.er, er_ghAt p a]
  | k :: p, .loop a => by simp only [C.ghAt, C.er, er_ghAt p a]
  | k :: _, .skip => by cases k <;> rfl
  | k :: _, .reg _ => by cases k <;> rfl
  | k :: _, .dreg _ => by cases k <;> rfl
  | k :: _, .exit _ => by cases k <;> rfl
  | k :: _, .ret => by cases k <;> rfl
  | k :: _, .gh _ => by cases k <;> rfl
/-- With ghosts at these places. -/
def C.ghs (ps : List (List Nat)) (c : C) : C := ps.foldr C.ghAt c
theorem er_ghs (ps : List (List Nat)) (c : C) : (C.ghs ps c).er = c.er := by
  induction ps with
  | nil => rfl
  | cons p ps ih => rw [show C.ghs (p :: ps) c = C.ghAt p (C.ghs ps c) from rfl, er_ghAt, ih]
theorem comp_ghs {c : Code} {c' : C} (ps : List (List Nat)) (h : comp P N c = some c') : comp P N c = some (C.ghs ps c').er := by rw [er_ghs, comp_er h]; exact h

theorem cells_lt {ds : List D} {x : Value} (h : ViewRel.CellsAt w ds x) : A0Rel w.heap.size w (.rp ds) x := by
  obtain ⟨b, o, us, S, h1, h2, h3⟩ := h
  refine ⟨b, o, us, S, h1, h2, RepL.lt ds h2, fun hne => ?_, h3⟩
  have hl := RepL.length ds h2
  cases us with
  | nil => exact absurd (List.eq_nil_of_length_eq_zero (by simpa using hl.symm)) hne
  | cons u us =>
    have := h3 0 u rfl
    unfold World.cell? at this
    split at this
    · rename_i hh; exact getElem_lt hh
    all_goals simp at this
theorem caps_lt : ∀ {caps : List (List D)} {xs : List Value}, ViewRel.All2 w caps xs → A0RelL w.heap.size w (caps.map .rp) xs
  | [], _, h => h
  | _ :: _, _, ⟨x, xs', h1, h2, h3⟩ => ⟨x, xs', h1, cells_lt h2, caps_lt h3⟩
theorem ro_lt {d : D} {u : Value} {S : List Nat} (h : Rep w false d u S) : A0Rel w.heap.size w d.toRo u := by
  cases d with
  | val x => exact h.1
  | sl size ty cs => exact ⟨rfl, S, h, Rep.lt _ h⟩
theorem roL_lt : ∀ {ds : List D} {us : List Value} {S : List Nat}, RepL w false ds us S → A0RelL w.heap.size w (ds.map D.toRo) us
  | [], _, _, ⟨h, _⟩ => h
  | _ :: _, _, _, ⟨u, us', S1, S2, h1, _, h3, h4⟩ => ⟨u, us', h1, ro_lt h3, roL_lt h4⟩
theorem view_lt : ∀ {v : View} {x : Value}, ViewRel w v x → VRel w.heap.size w v.av x
  | .c d, x, ⟨S, h⟩ => ro_lt h
  | .agg ds, x, ⟨S, us, h1, h2⟩ => ⟨us, h1, roL_lt h2⟩
  | .ptr ds, x, h => cells_lt h
  | .fn f caps, x, ⟨xs, h1, h2⟩ => ⟨xs, h1, caps_lt h2⟩
theorem views_get : ∀ {vs : List View} {xs : List Value}, ViewsRel w vs xs → xs.length = vs.length ∧ ∀ (n : Nat) (v : View) (x : Value), vs[n]? = some v → xs[n]? = some x → ViewRel w v x
  | [], _, h => by rw [show _ = _ from h]; simp
  | v :: vs, _, ⟨x, xs', h1, h2, h3⟩ => by
    subst h1
    obtain ⟨h4, h5⟩ := views_get h3
    refine ⟨by simp [h4], fun n v' x' hv hx => ?_⟩
    cases n with
    | zero => simp at hv hx; subst hv hx; exact h2
    | succ n => exact h5 n v' x' (by simpa using hv) (by simpa using hx)
theorem start_rel {vs : List View} {xs : List Value} (hv : ViewsRel w vs xs) (hN : vs.length ≤ N) :
    RelF w.heap.size w N (St.init vs) { tmps := xs.toArray ++ Array.replicate (N - xs.toArray.size) undef, defers := [] } w (fun _ => []) := by
  obtain ⟨hl, hg⟩ := views_get hv
  refine ⟨Below.refl _ _, Nat.le_refl _, rfl, by simp; omega, fun n => ?_, fun _ => rfl, fun _ => Fresh.nil _, fun _ _ _ _ h => by simp at h⟩
  simp only [St.init]
  cases hvn : vs[n]? with
  | none => simp [hvn, VRel]
  | some v =>
    have hlt : n < vs.length := (List.getElem?_eq_some_iff.1 hvn).1
    have hlx : n < xs.length := by omega
    have hxn : xs[n]? = some xs[n] := List.getElem?_eq_getElem hlx
    have := view_lt (hg n v _ hvn hxn)
    have e : (xs.toArray ++ Array.replicate (N - xs.toArray.size) undef).getD n undef = xs[n] := by
      simp [Array.getD_eq_getD_getElem?, Array.getElem?_append, hlx]
    simp only [List.getElem?_map, hvn, Option.map_some, Option.getD_some]
    rw [e]
    exact this

theorem isD_rel : ∀ {cs : List Cell} {us : List Value} {S : List Nat} {ds : List D}, CRel B w cs us S → IsD cs ds → RepL w true ds us S
  | [], us, S, ds, h, hd => by rw [show ds = [] from hd]; exact h
  | .a x :: cs, us, S, ds, ⟨u, us', h1, h2, h3⟩, hd => by
    cases x with
    | v x =>
      cases ds with
      | nil => exact hd.elim
      | cons d ds =>
        obtain ⟨h4, h5⟩ := hd
        subst h1
        have h6 := isD_rel h3 h5
        rw [show u = x from h2]
        rcases h4 with rfl | ⟨rfl, size, ty, rfl⟩
        · exact RepL.val_ h6
        · exact RepL.cons_ (S1 := []) (Rep.nil_ w size ty) h6
    | _ => cases ds <;> exact hd.elim
  | .own d η :: cs, us, S, ds, ⟨u, us', S1, S2, h1, h2, _, h4, _, h6⟩, hd => by
    cases ds with
    | nil => exact hd.elim
    | cons d' ds =>
      obtain ⟨rfl, h5⟩ := hd
      subst h1 h2
      exact RepL.cons_ h4 (isD_rel h6 h5)
def Split : List (Bool × List A0) → List Value → List Value → Prop
  | [], vals, us => vals = [] ∧ us = []
  | (b, as) :: ps, vals, us => ∃ v vals' xs us', vals = v :: vals' ∧ us = xs ++ us' ∧ xs.length = as.length ∧ (if b then v = .agg xs.toArray else xs = [v]) ∧ Split ps vals' us'
def oneRes (tmps : Array Value) : ResultVar → Sem Value
  | .tmp t => pure (tmps.getD t undef)
  | .cell x t => do loadVar t (← asAddr (tmps.getD x undef))
theorem results_eq (fn : Func) (tmps : Array Value) : results fn tmps = (do let vs ← fn.results.mapM (oneRes tmps); pure (if h : vs.size = 1 then vs[0] else .tuple vs)) := by
  unfold results
  congr 1
theorem A0RelL.app : ∀ {l m : List A0} {us vs : List Value}, A0RelL B w l us → A0RelL B w m vs → A0RelL B w (l ++ m) (us ++ vs)
  | [], _, _, _, h1, h2 => by rw [show _ = _ from h1]; exact h2
  | _ :: _, _, _, _, ⟨u, us', h1, h2, h3⟩, h4 => by subst h1; exact ⟨u, _, rfl, h2, h3.app h4⟩
theorem res_rel (h : RelF B w0 N s a w F) : ∀ {rs : List ResultVar} {rs' : List R} {K : List (Bool × List A0) → Prop}, compR P N rs = some rs' → resK s rs' K →
    ∃ ps vals us, K ps ∧ A0RelL B w (ps.flatMap (·.2)) us ∧ Split ps vals us ∧ (rs.mapM (oneRes a.tmps)).run P w = .ok vals w
  | [], rs', K, hc, hk => by
    simp [compR] at hc; subst hc
    exact ⟨[], [], [], hk, rfl, ⟨rfl, rfl⟩, by simp⟩
  | .tmp n :: rs, rs', K, hc, hk => by
    simp only [compR] at hc
    split at hc
    · simp only [Option.map_eq_some_iff] at hc
      obtain ⟨r, h1, rfl⟩ := hc
      simp only [resK] at hk
      have hv := h.sl n
      split at hk
      · rename_i l he
        rw [he] at hv
        obtain ⟨xs, k1, k2⟩ := hv
        obtain ⟨ps, vals, us, k3, k4, k5, k6⟩ := res_rel h h1 hk
        refine ⟨_, .agg xs.toArray :: vals, xs ++ us, k3, A0RelL.app k2 k4, ⟨_, _, xs, us, rfl, rfl, k2.len, by simp, k5⟩, ?_⟩
        simp [List.mapM_cons, oneRes, k1, k6]
      · rename_i a0 he
        rw [he] at hv
        obtain ⟨ps, vals, us, k3, k4, k5, k6⟩ := res_rel h h1 hk
        refine ⟨_, a.tmps.getD n undef :: vals, _ :: us, k3, ⟨_, us, rfl, hv, k4⟩, ⟨_, _, [_], us, rfl, rfl, rfl, by simp, k5⟩, ?_⟩
        simp [List.mapM_cons, oneRes, k6]
      · exact hk.elim
    · simp at hc
  | .cell n t :: rs, rs', K, hc, hk => by
    simp only [compR] at hc
    have key : ∀ {dsc : TypeDesc} {agg : Bool} {k : Nat} {r : List R}, P.underlying t = some dsc → agg = aggD dsc → sizeAt P t = some k → compR P N rs = some r → resK s (.cell n agg k :: r) K →
        ∃ ps vals us, K ps ∧ A0RelL B w (ps.flatMap (·.2)) us ∧ Split ps vals us ∧ ((ResultVar.cell n t :: rs).mapM (oneRes a.tmps)).run P w = .ok vals w := by
      intro dsc agg k r ht hagg hn hr hk
      obtain ⟨l, h1, h2, h3⟩ := hk
      obtain ⟨b, o, xs, e1, e2, e3, e4, e5⟩ := load_rel h (h.sl n) h1
      obtain ⟨ps, vals, us, k3, k4, k5, k6⟩ := res_rel h hr h3
      obtain ⟨v, hv⟩ : ∃ v, if agg then v = .agg xs.toArray else xs = [v] := by
        cases agg with
        | true => exact ⟨_, rfl⟩
        | false =>
          have h4 : l.length = 1 := by simpa using h2
          have : xs.length = 1 := by omega
          obtain ⟨v, rfl⟩ := List.length_eq_one_iff.1 this
          exact ⟨v, by simp⟩
      have hrun := load_run (P := P) ht hagg hn e2 e4 hv
      refine ⟨_, v :: vals, xs ++ us, k3, A0RelL.app e5 k4, ⟨_, _, xs, us, rfl, rfl, by omega, hv, k5⟩, ?_⟩
      simp [List.mapM_cons, oneRes, e1, asAddr, hrun, k6]
    split at hc
    · split at hc
      · rename_i fs k r h1 h2 h3
        simp at hc; subst hc
        exact key h1 rfl h2 h3 hk
      · simp at hc
      · rename_i dsc k r hn1 hn2 h1 h2 h3
        simp at hc; subst hc
        refine key h1 ?_ h2 h3 hk
        cases dsc <;> simp_all [aggD]
      · simp at hc
    · simp at hc
theorem split_tup : ∀ {l : List (Bool × List D)} {ps : List (Bool × List A0)} {vals us : List Value} {S : List Nat}, Split ps vals us → ps.map (fun p => (p.1, p.2.length)) = l.map (fun p => (p.1, p.2.length)) → RepL w true (l.flatMap (·.2)) us S → TupRel w l vals S
  | [], ps, vals, us, S, h, he, hr => by
    cases ps with
    | nil => obtain ⟨rfl, rfl⟩ := h; exact ⟨rfl, hr.2⟩
    | cons p ps => simp at he
  | (b, ds) :: l, ps, vals, us, S, h, he, hr => by
    cases ps with
    | nil => simp at he
    | cons p ps =>
      obtain ⟨b', as⟩ := p
      simp at he
      obtain ⟨⟨rfl, e1⟩, e2⟩ := he
      obtain ⟨v, vals', xs, us', rfl, rfl, h3, h4, h5⟩ := h
      simp only [List.flatMap_cons] at hr
      obtain ⟨v1, v2, S1, S2, e3, rfl, h6, h7⟩ := RepL.append_inv _ hr
      have hl := RepL.length _ h6
      obtain ⟨rfl, rfl⟩ := List.append_inj e3 (by omega)
      exact ⟨v, vals', xs, S1, S2, rfl, rfl, h6, h4, split_tup h5 e2 h7⟩
theorem end_rel (h : RelF B w0 N s a w F) {fn : Func} {rs : List R} {rt : RT} (hc : compR P N fn.results.toList = some rs) (hq : RetQ rs rt s) :
    ∃ v S, (results fn a.tmps).run P w = .ok v w ∧ RetRel w rt v S ∧ Fresh B S := by
  obtain ⟨ps, vals, us, ⟨h1, h2⟩, h3, h4, h5⟩ := res_rel h hc hq
  obtain ⟨cs, s', S, F', k1, k2, k3, k4, _⟩ := take_rel h h3 h2
  have hr := isD_rel k2 k1
  have hrun : (results fn a.tmps).run P w = .ok (if hs : vals.toArray.size = 1 then vals.toArray[0] else .tuple vals.toArray) w := by
    rw [results_eq, Array.mapM_eq_mapM_toList]
    simp [h5]
  cases rt with
  | c d =>
    obtain ⟨a0, rfl⟩ := h1
    obtain ⟨v, vals', xs, us', rfl, rfl, e1, e2, ⟨rfl, rfl⟩⟩ := h4
    simp at e2; subst e2
    obtain ⟨u, us'', S1, S2, e3, rfl, e5, ⟨rfl, rfl⟩⟩ := hr
    simp at e3; subst e3
    exact ⟨v, S1 ++ [], by simpa using hrun, (by simpa using e5 : Rep w true d v (S1 ++ [])), k4⟩
  | agg ds =>
    obtain ⟨l, rfl⟩ := h1
    obtain ⟨v, vals', xs, us', rfl, rfl, e1, e2, ⟨rfl, rfl⟩⟩ := h4
    simp at e2; subst e2
    exact ⟨_, S, by simpa using hrun, ⟨xs, rfl, by simpa [RT.flat] using hr⟩, k4⟩
  | tup l =>
    obtain ⟨hne, h1⟩ := h1
    have hlen : vals.length = ps.length := by
      have : ∀ {ps : List (Bool × List A0)} {vals us : List Value}, Split ps vals us → vals.length = ps.length := by
        intro ps
        induction ps with
        | nil => intro vals us h; rw [h.1]; rfl
        | cons p ps ih => obtain ⟨b, as⟩ := p; rintro vals us ⟨v, vals', xs, us', rfl, _, _, _, h⟩; simp [ih h]
      exact this h4
    refine ⟨_, S, hrun, ⟨vals, ?_, split_tup h4 h1 hr⟩, k4⟩
    rw [dif_neg (by simpa [hlen] using hne)]
theorem pure_of {f : FuncId} {fn : Func} {c : Code} {c' : C} {vs : List View} {rs : List R} {rt : RT} (hf : P.funcs[f]? = some fn) (hb : fn.body = some c) (hn : (fn.name != "runtime.NumGoroutine") = true)
    (hc : comp P fn.ntmps c = some c'.er) (hr : compR P fn.ntmps fn.results.toList = some rs) (hN : vs.length ≤ fn.ntmps) (hw : wpC P 0 c' (retE rs rt) (St.init vs)) : Pure P f vs rt := by
  refine ⟨⟨fn, hf, by rw [hb]; rfl, hn⟩, fun w xs hv => calls_of_wp hf hb (code_do hc (start_rel hv hN) hw fun e s a w' F h hk => ?_)⟩
  cases e with
  | exit id => exact hk.elim
  | normal =>
    obtain ⟨v, S, k1, k2, k3⟩ := end_rel h hr hk
    exact ⟨h.df, v, k1, v, S, rfl, k2, k3, h.below⟩
  | ret =>
    obtain ⟨v, S, k1, k2, k3⟩ := end_rel h hr hk
    exact ⟨h.df, v, k1, v, S, rfl, k2, k3, h.below⟩
theorem pure_gn (ps : List (List Nat)) {f : FuncId} {fn : Func} {c : C} {vs : List View} {rs : List R} {rt : RT} (hf : P.funcs[f]? = some fn) (hc : fnC P fn = some (c, rs, N)) (hN : vs.length ≤ N) (hw : wpC P 0 (C.ghs ps c) (retE rs rt) (St.init vs)) : Pure P f vs rt := by
  unfold fnC at hc
  split at hc
  · rename_i b hb
    split at hc
    · rename_i hn
      split at hc
      · rename_i c' rs' h1 h2
        simp only [Option.some.injEq, Prod.mk.injEq] at hc
        obtain ⟨rfl, rfl, rfl⟩ := hc
        exact pure_of hf hb hn (comp_ghs ps h1) h2 hN hw
      · simp at hc
    · simp at hc
  · simp at hc
theorem pure_fn {f : FuncId} {fn : Func} {c : C} {vs : List View} {rs : List R} {rt : RT} (hf : P.funcs[f]? = some fn) (hc : fnC P fn = some (c, rs, N)) (hN : vs.length ≤ N) (hw : wpC P 0 c (retE rs rt) (St.init vs)) : Pure P f vs rt := pure_gn [] hf hc hN hw
theorem vrel_get : ∀ {args : List AV} {xs : List Value}, VRelL B w args xs → xs.length = args.length ∧ ∀ (n : Nat) (v : AV) (x : Value), args[n]? = some v → xs[n]? = some x → VRel B w v x
  | [], _, h => by rw [show _ = _ from h]; simp
  | v :: vs, _, ⟨x, xs', h1, h2, h3⟩ => by
    subst h1
    obtain ⟨h4, h5⟩ := vrel_get h3
    refine ⟨by simp [h4], fun n v' x' hv hx => ?_⟩
    cases n with
    | zero => simp at hv hx; subst hv hx; exact h2
    | succ n => exact h5 n v' x' (by simpa using hv) (by simpa using hx)
theorem start_turn {args : List AV} {xs : List Value} {o : Nat → Ob} (h : RelF B w 0 (.only o) Act.bare w F) (hv : VRelL B w args xs) (hN : args.length ≤ N) :
    RelF B w N (St.start args o) { tmps := xs.toArray ++ Array.replicate (N - xs.toArray.size) undef, defers := [] } w F := by
  obtain ⟨hl, hg⟩ := vrel_get hv
  refine ⟨Below.refl _ _, h.hB, rfl, by simp; omega, fun n => ?_, h.ob, h.fr, h.dj⟩
  simp only [St.start]
  cases hvn : args[n]? with
  | none => simp [hvn, VRel]
  | some v =>
    have hlt : n < args.length := (List.getElem?_eq_some_iff.1 hvn).1
    have hlx : n < xs.length := by omega
    have hxn : xs[n]? = some xs[n] := List.getElem?_eq_getElem hlx
    have := hg n v _ hvn hxn
    have e : (xs.toArray ++ Array.replicate (N - xs.toArray.size) undef).getD n undef = xs[n] := by
      simp [Array.getD_eq_getD_getElem?, Array.getElem?_append, hlx]
    simp only [Option.getD_some]
    rw [e]
    exact this
theorem end_turn (h : RelF B w0 N s a w F) {fn : Func} {rs : List R} {R : RT → (Nat → Ob) → Prop} (hc : compR P N fn.results.toList = some rs) (hq : RetT rs R s) :
    ∃ v rt o' S, ∃ F' : Nat → List Nat, (results fn a.tmps).run P w = .ok v w ∧ RetRel w rt v S ∧ Fresh B S ∧ (∀ g, ∀ b ∈ S, b ∉ F' g) ∧ (∀ g, ORel B w (o' g) (F' g)) ∧ (∀ g, Fresh B (F' g)) ∧ (∀ g g', g ≠ g' → ∀ b ∈ F' g, b ∉ F' g') ∧ R rt o' := by
  obtain ⟨ps, vals, us, ⟨rt, h1, h2⟩, h3, h4, h5⟩ := res_rel h hc hq
  obtain ⟨cs, s', S, F', ⟨k1, kR⟩, k2, k3, k4, k6, _⟩ := take_rel h h3 h2
  have hr := isD_rel k2 k1
  have hrun : (results fn a.tmps).run P w = .ok (if hs : vals.toArray.size = 1 then vals.toArray[0] else .tuple vals.toArray) w := by
    rw [results_eq, Array.mapM_eq_mapM_toList]
    simp [h5]
  have fin : ∀ v S, (results fn a.tmps).run P w = .ok v w → RetRel w rt v S → Fresh B S → (∀ g, ∀ b ∈ S, b ∉ F' g) → ∃ v rt o' S, ∃ F' : Nat → List Nat, (results fn a.tmps).run P w = .ok v w ∧ RetRel w rt v S ∧ Fresh B S ∧ (∀ g, ∀ b ∈ S, b ∉ F' g) ∧ (∀ g, ORel B w (o' g) (F' g)) ∧ (∀ g, Fresh B (F' g)) ∧ (∀ g g', g ≠ g' → ∀ b ∈ F' g, b ∉ F' g') ∧ R rt o' :=
    fun v S m1 m2 m3 m4 => ⟨v, rt, s'.o, S, F', m1, m2, m3, m4, k3.ob, k3.fr, k3.dj, kR⟩
  cases rt with
  | c d =>
    obtain ⟨a0, rfl⟩ := h1
    obtain ⟨v, vals', xs, us', rfl, rfl, e1, e2, ⟨rfl, rfl⟩⟩ := h4
    simp at e2; subst e2
    obtain ⟨u, us'', S1, S2, e3, rfl, e5, ⟨rfl, rfl⟩⟩ := hr
    simp at e3; subst e3
    exact fin v (S1 ++ []) (by simpa using hrun) (by simpa using e5 : Rep w true d v (S1 ++ [])) k4 k6
  | agg ds =>
    obtain ⟨l, rfl⟩ := h1
    obtain ⟨v, vals', xs, us', rfl, rfl, e1, e2, ⟨rfl, rfl⟩⟩ := h4
    simp at e2; subst e2
    exact fin _ S (by simpa using hrun) ⟨xs, rfl, by simpa [RT.flat] using hr⟩ k4 k6
  | tup l =>
    obtain ⟨hne, h1⟩ := h1
    have hlen : vals.length = ps.length := by
      have : ∀ {ps : List (Bool × List A0)} {vals us : List Value}, Split ps vals us → vals.length = ps.length := by
        intro ps
        induction ps with
        | nil => intro vals us h; rw [h.1]; rfl
        | cons p ps ih => obtain ⟨b, as⟩ := p; rintro vals us ⟨v, vals', xs, us', rfl, _, _, _, h⟩; simp [ih h]
      exact this h4
    exact fin _ S hrun ⟨vals, by rw [dif_neg (by simpa [hlen] using hne)], split_tup h4 h1 hr⟩ k4 k6
theorem turns_gn (ps : List (List Nat)) {f : FuncId} {fn : Func} {c : C} {args : List AV} {o : Nat → Ob} {rs : List R} {R : RT → (Nat → Ob) → Prop} (hf : P.funcs[f]? = some fn) (hc : fnC P fn = some (c, rs, N)) (hN : args.length ≤ N) (hw : wpC P β (C.ghs ps c) (turnE rs R) (St.start args o)) : Turns P f args o R := by
  unfold fnC at hc
  split at hc
  · rename_i b hb
    split at hc
    · rename_i hn
      split at hc
      · rename_i c' rs' h1 h2
        simp only [Option.some.injEq, Prod.mk.injEq] at hc
        obtain ⟨rfl, rfl, rfl⟩ := hc
        refine ⟨⟨fn, hf, by rw [hb]; rfl, hn⟩, fun B w F xs hF hv => calls_of_wp hf hb (code_do (comp_ghs ps h1) (start_turn hF hv hN) hw fun e s a w' F' h hk => ?_)⟩
        cases e with
        | exit id => exact hk.elim
        | normal =>
          obtain ⟨v, rt, o', S, F2, k1, k2, k3, k4, k5, k6, k7, k8⟩ := end_turn h h2 hk
          exact ⟨h.df, v, k1, v, rt, o', S, F2, rfl, ⟨h.below, h.hB, rfl, rfl, fun _ => trivial, k5, k6, k7⟩, k2, k3, k4, k8⟩
        | ret =>
          obtain ⟨v, rt, o', S, F2, k1, k2, k3, k4, k5, k6, k7, k8⟩ := end_turn h h2 hk
          exact ⟨h.df, v, k1, v, rt, o', S, F2, rfl, ⟨h.below, h.hB, rfl, rfl, fun _ => trivial, k5, k6, k7⟩, k2, k3, k4, k8⟩
      · simp at hc
    · simp at hc
  · simp at hc
theorem turns_fn {f : FuncId} {fn : Func} {c : C} {args : List AV} {o : Nat → Ob} {rs : List R} {R : RT → (Nat → Ob) → Prop} (hf : P.funcs[f]? = some fn) (hc : fnC P fn = some (c, rs, N)) (hN : args.length ≤ N) (hw : wpC P β c (turnE rs R) (St.start args o)) : Turns P f args o R := turns_gn [] hf hc hN hw
theorem splits : ∀ {ps : List (Bool × List A0)} {vals us : List Value}, Split ps vals us → A0RelL B w (ps.flatMap (·.2)) us → TRelL B w ps vals
  | [], vals, us, ⟨h1, _⟩, _ => h1
  | (b, as) :: ps, vals, us, ⟨v, vals', xs, us', h1, h2, h3, h4, h5⟩, hr => by
    subst h1 h2
    simp only [List.flatMap_cons] at hr
    have key : ∀ {l m : List A0} {xs ys : List Value}, xs.length = l.length → A0RelL B w (l ++ m) (xs ++ ys) → A0RelL B w l xs ∧ A0RelL B w m ys := by
      intro l
      induction l with
      | nil => intro m xs ys hl h; obtain rfl : xs = [] := List.eq_nil_of_length_eq_zero hl; exact ⟨rfl, h⟩
      | cons x l ih =>
        intro m xs ys hl h
        cases xs with
        | nil => simp at hl
        | cons y xs =>
          obtain ⟨u, us', e1, e2, e3⟩ := h
          simp only [List.cons_append, List.cons.injEq] at e1
          obtain ⟨rfl, rfl⟩ := e1
          obtain ⟨k1, k2⟩ := ih (by simpa using hl) e3
          exact ⟨⟨y, xs, rfl, e2, k1⟩, k2⟩
    obtain ⟨k1, k2⟩ := key h3 hr
    exact ⟨v, vals', xs, rfl, k1, h4, splits h5 k2⟩
theorem inl_gn (ps : List (List Nat)) {f : FuncId} {fn : Func} {c : C} {args : List AV} {o : Nat → Ob} {rs : List R} {R : AV → (Nat → Ob) → Prop} (hf : P.funcs[f]? = some fn) (hc : fnC P fn = some (c, rs, N)) (hN : args.length ≤ N) (hw : wpC P β (C.ghs ps c) (inlE rs R) (St.start args o)) : Inl P f args o R := by
  unfold fnC at hc
  split at hc
  · rename_i b hb
    split at hc
    · rename_i hn
      split at hc
      · rename_i c' rs' h1 h2
        simp only [Option.some.injEq, Prod.mk.injEq] at hc
        obtain ⟨rfl, rfl, rfl⟩ := hc
        have fin : ∀ {s : St} {a : Act} {w w' : World} {F' : Nat → List Nat} {B : Nat}, RelF B w fn.ntmps s a w' F' → RetI rs' R s → ∃ v, (results fn a.tmps).run P w' = .ok v w' ∧ ∃ av o', ∃ F2 : Nat → List Nat, RelF B w 0 (.only o') Act.bare w' F2 ∧ VRel B w' av v ∧ R av o' := fun {s a w w' F' B} h hk => by
          obtain ⟨ps, vals, us, k1, k2, k3, k4⟩ := res_rel h h2 hk
          have hrun : (results fn a.tmps).run P w' = .ok (if hs : vals.toArray.size = 1 then vals.toArray[0] else .tuple vals.toArray) w' := by
            rw [results_eq, Array.mapM_eq_mapM_toList]
            simp [k4]
          have hob : RelF B w 0 (.only s.o) Act.bare w' F' := ⟨h.below, h.hB, rfl, rfl, fun _ => trivial, h.ob, h.fr, h.dj⟩
          have hsp := splits k3 k2
          match ps, k1, hsp with
          | [], k1, hsp =>
            obtain rfl : vals = [] := hsp
            exact ⟨_, hrun, .tup [], s.o, F', hob, ⟨[], by simp, rfl⟩, k1⟩
          | [(true, l)], k1, ⟨v, vals', xs, e1, e2, e3, e4⟩ =>
            obtain rfl : vals' = [] := e4
            subst e1
            exact ⟨v, by simpa using hrun, .agg l, s.o, F', hob, ⟨xs, by simpa using e3, e2⟩, k1⟩
          | [(false, [a0])], k1, ⟨v, vals', xs, e1, e2, e3, e4⟩ =>
            obtain rfl : vals' = [] := e4
            subst e1
            obtain rfl : xs = [v] := by simpa using e3
            obtain ⟨u, us', e5, e6, _⟩ := e2
            cases e5
            exact ⟨v, by simpa using hrun, .c a0, s.o, F', hob, e6, k1⟩
          | p :: q :: r, k1, hsp =>
            have hl : vals.length ≠ 1 := by
              obtain ⟨_, vals', _, e1, _, _, e4⟩ := hsp
              obtain ⟨_, vals'', _, e5, _, _, _⟩ := e4
              subst e1 e5; simp
            have k1' : R (.tup (p :: q :: r)) s.o := by
              obtain ⟨b, l⟩ := p
              cases b
              · cases l with
                | nil => exact k1
                | cons x l => cases l <;> exact k1
              · exact k1
            exact ⟨_, by rw [hrun, dif_neg (by simpa using hl)], .tup (p :: q :: r), s.o, F', hob, ⟨vals, rfl, hsp⟩, k1'⟩
        refine ⟨⟨fn, hf, by rw [hb]; rfl, hn⟩, fun B w F xs hF hv => calls_of_wp hf hb (code_do (comp_ghs ps h1) (start_turn hF hv hN) hw fun e s a w' F' h hk => ?_)⟩
        cases e with
        | exit id => exact hk.elim
        | normal =>
          obtain ⟨v, k1, av, o', F2, k2, k3, k4⟩ := fin h hk
          exact ⟨h.df, v, k1, v, av, o', F2, rfl, k2, k3, k4⟩
        | ret =>
          obtain ⟨v, k1, av, o', F2, k2, k3, k4⟩ := fin h hk
          exact ⟨h.df, v, k1, v, av, o', F2, rfl, k2, k3, k4⟩
      · simp at hc
    · simp at hc
  · simp at hc
theorem inl_fn {f : FuncId} {fn : Func} {c : C} {args : List AV} {o : Nat → Ob} {rs : List R} {R : AV → (Nat → Ob) → Prop} (hf : P.funcs[f]? = some fn) (hc : fnC P fn = some (c, rs, N)) (hN : args.length ≤ N) (hw : wpC P β c (inlE rs R) (St.start args o)) : Inl P f args o R := inl_gn [] hf hc hN hw
end
end Go.Proofs.YtnhdcbhcocgjhaaGreat
