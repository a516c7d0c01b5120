/- The engine: each instruction that turns nothing does what it says: the rest. No program. -/
import Derived.Test.YtbplebgnkhmemaaE4
set_option linter.unusedSimpArgs false
set_option linter.unusedVariables false
namespace Go.Proofs.Ytbplebgnkhmemaa
open Go.RowKit Go.Sort

section
variable {P : Program} {B N : Nat} {w w0 : World} {s : St} {a : Act} {F : Nat → List Nat} {o : Oper} {G : AV → List (Nat × Ob) → Prop} {d : Nat} {rt : RT}
theorem run_int {op : BinOp} {t : TypeId} {k k' : IntKind} {m n : Int} (h : intOk op k k' n) : (binOp op t (.int k m) (.int k' n)).run P w = .ok (intBin op k m n) w := by
  cases op with
  | shl => have h : 0 ≤ n := h; have h' : ¬ n < 0 := by omega
           simp [binOp, Op.shift, h', intBin]
  | shr => have h : 0 ≤ n := h; have h' : ¬ n < 0 := by omega
           simp [binOp, Op.shift, h', intBin]
  | quo => obtain ⟨rfl, h⟩ := h
           simp [binOp, Op.intDiv, h, intBin]
  | rem => obtain ⟨rfl, h⟩ := h
           simp [binOp, Op.intDiv, h, intBin]
  | _ =>
    obtain rfl : k = k' := h
    simp [binOp, Op.intArith, Op.intBits, Op.intCmp, intBin]
theorem go_bin (h : RelF B w0 N s a w F) {op : BinOp} {t t' : TypeId} {x y : Operand} {x' y' : X} (ho : o.op = .binOp op t x y t') (hx : compX x = some x') (hy : compX y = some y')
    (hg : ∀ st, ∃ av os, Gen P s d rt st (.bin op t x' y') av os ∧ G av os) : Goes P o a w (Yields_ B w G) := by
  obtain ⟨av, os, ⟨h1, rfl⟩, hG⟩ := hg ⟨0, fun _ _ => undef⟩
  rcases h1 with ⟨u, v, r, h2, h3, h4, rfl⟩ | ⟨l, m, xs, ys, b, h2, h3, h4, h5, h6, rfl⟩
  · have e1 := ev_v h hx h2
    have e2 := ev_v h hy h3
    refine same_ (v := r) ?_ (by exact rfl) hG
    unfold BinR at h4
    split at h4
    · obtain ⟨h5, rfl⟩ := h4
      have hr := fun m => run_int (P := P) (w := w) (t := t) (m := m) h5
      cases op <;> simp [execOp, ho, e1, e2, eqGuard, hr]
    · split at h4
      · obtain ⟨h5, rfl⟩ := h4
        unfold maxLen at h5
        rename_i b1 b2 _
        have h6 : ¬ ((9223372036854775807 : Int) < (b1.size : Int) + (b2.size : Int)) := by omega
        simp [execOp, ho, e1, e2, eqGuard, binOp, Op.stringOp, IntKind.max, h6]
        simp [IntKind.signed, IntKind.bits]
        omega
      · subst h4
        simp [execOp, ho, e1, e2, eqGuard, binOp, Op.stringOp]
      · subst h4
        simp [execOp, ho, e1, e2, eqGuard, binOp, Op.stringOp]
      · exact h4.elim
    · exact h4.elim
  · have hv1 := ev_rel h hx
    have hv2 := ev_rel h hy
    rw [h2] at hv1
    rw [h3] at hv2
    obtain ⟨us, e1, k1⟩ := hv1
    obtain ⟨vs, e2, k2⟩ := hv2
    have key : ∀ (l : List A0) (us xs : List Value), A0RelL B w l us → valsOf l = some xs → us = xs := by
      intro l
      induction l with
      | nil => intro us xs k1 k2; simp [valsOf] at k2; subst k2; exact k1
      | cons a0 l ih =>
        intro us xs k1 k2
        obtain ⟨u, us', rfl, k3, k4⟩ := k1
        cases a0 with
        | v x =>
          simp only [valsOf] at k2
          split at k2
          · simp at k2; subst k2
            rw [show u = x from k3, ih us' _ k4 (by assumption)]
          · simp at k2
        | _ => simp [valsOf] at k2
    obtain rfl := key l us xs k1 h4
    obtain rfl := key m vs ys k2 h5
    obtain ⟨h7, h8⟩ := h6 w
    refine same_ (v := .bool b) ?_ (by exact rfl) hG
    simp [execOp, ho, e1, e2, h7, h8]
theorem go_num (h : RelF B w0 N s a w F) {t t' : TypeId} {x : Operand} {x' : X} {k0 k : IntKind} {e : Nat} (ho : o.op = .convert t t' x) (ht : P.underlying t = some (.int k0)) (ht' : P.underlying t' = some (.int k)) (hx : compX x = some x')
    (hg : ∀ st, ∃ av os, Gen P s d rt st (.cv (.num k) e x') av os ∧ G av os) : Goes P o a w (Yields_ B w G) := by
  obtain ⟨av, os, ⟨⟨k', n, h1, rfl⟩, rfl⟩, hG⟩ := hg ⟨0, fun _ _ => undef⟩
  refine same_ (v := .int k (k.wrap n)) ?_ (by exact rfl) hG
  simp [execOp, ho, convert, run_underlying ht, run_underlying ht', ev_v h hx h1, Conv.intToInt]
theorem go_text (h : RelF B w0 N s a w F) {t t' e : TypeId} {x : Operand} {x' : X} (ho : o.op = .convert t t' x) (ht : P.underlying t = some (.slice e)) (he : P.underlying e = some (.int .u8)) (ht' : P.underlying t' = some .string) (hx : compX x = some x')
    (hg : ∀ st, ∃ av os, Gen P s d rt st (.cv .text e x') av os ∧ G av os) : Goes P o a w (Yields_ B w G) := by
  obtain ⟨av, os, ⟨⟨a0, ty, bs, h1, h2, rfl⟩, rfl⟩, hG⟩ := hg ⟨0, fun _ _ => undef⟩
  have hv := ev_rel h hx
  rw [h1] at hv
  obtain ⟨S, h3⟩ := is_rep h hv h2
  obtain ⟨A, n, c, vs, S', hu, h4, h5, _, _, _, h6, h7⟩ := rep_read h3
  simp only [List.length_map, Nat.mul_one] at h4
  subst h4
  refine same_ (v := .string ⟨bs.toArray⟩) ?_ (by exact rfl) hG
  have hvs : vs = bs.map fun b => .int .u8 (b.toNat : Int) := by
    have key : ∀ (bs : List UInt8) (vs : List Value) (S : List Nat), RepL w false (bs.map byteVal) vs S → vs = bs.map fun b => .int .u8 (b.toNat : Int) := by
      intro bs
      induction bs with
      | nil => intro vs S h; exact h.1
      | cons b bs ih =>
        intro vs S h
        obtain ⟨v, vs', S1, S2, rfl, _, k1, k2⟩ := h
        rw [List.map_cons, ← ih vs' S2 k2, show v = .int .u8 (b.toNat : Int) from k1.1]
    exact key bs vs S' h5
  have hrun : (convert t t' (.slice A bs.length c)).run P w = .ok (.string ⟨bs.toArray⟩) w := by
    cases A with
    | none =>
      have := h6 rfl
      subst this
      have hn : bs = [] := by
        cases bs with
        | nil => rfl
        | cons b bs =>
          obtain ⟨_, _, k1, _⟩ := h7 (by rw [hvs]; simp)
          cases k1
      subst hn
      exact run_convert_bytes_nil w t e ht he _ _ t' ht'
    | some ad =>
      by_cases hne : bs = []
      · subst hne
        rw [run_convert_bytes_string w t t' e _ _ _ ht he ht', run_bytesToString w _ _ _ [] (by simp [loadCells, loadCellsFrom])]
        simp
        rfl
      · obtain ⟨b, off, hA, _, h8⟩ := h7 (by rw [hvs]; simpa using hne)
        cases hA
        rw [run_convert_bytes_string w t t' e _ _ _ ht he ht', run_bytesToString w _ _ _ (bs.map fun b => (b.toNat : Int)) ?_]
        · rw [foldl_push_bytes]
          simp [ByteArray.empty, ByteArray.emptyWithCapacity]
          show [] ++ _ = _
          rw [List.nil_append]
          conv => rhs; rw [← List.map_id bs]
          exact List.map_congr_left fun b _ => by simp
        · have := run_loadCells_list (P := P) w ⟨b, off, none⟩ vs (fun j v hj => by rw [ptr_add]; exact h8 j v hj)
          rw [hvs] at this
          simpa [Function.comp_def] using this
  simp only [execOp, ho, hu, Sem.run_bind, hrun, Result.andThen]
  rfl
theorem nilD_rep (k : Option (Nat × Nat)) (x : Value) : Rep w true (nilD k x) x [] := by
  unfold nilD
  split
  · exact Rep.nil_ _ _ _
  · exact ⟨rfl, rfl⟩
theorem nil_rep : ∀ (ks : List (Option (Nat × Nat))) (l : List Value), RepL w true (nilL ks l) l []
  | _, [] => ⟨rfl, rfl⟩
  | ks, x :: l => ⟨x, l, [], [], rfl, rfl, nilD_rep _ _, nil_rep ks.tail l⟩
theorem go_mks (h : RelF B w0 N s a w F) {t e : TypeId} {l c : Operand} {l' c' : X} {i : TypeInfo} {zs : List Value} {ks : List (Option (Nat × Nat))} (ho : o.op = .makeSlice t l c) (ht : P.underlying t = some (.slice e)) (hi : P.info? e = some i) (hz : zeroOf P e = some zs) (hs : 0 < i.size) (hl : compX l = some l') (hc : compX c = some c')
    (hg : ∀ st, ∃ av os, Gen P s d rt st (.mks e i.size i.bytes (nilL ks zs) l' c') av os ∧ G av os) : Goes P o a w (Yields_ B w G) := by
  obtain ⟨_, _, ⟨k, k', n, h1, h2, h3, h4, _⟩, _⟩ := hg ⟨0, fun _ _ => undef⟩
  unfold zeroOf at hz
  rw [hi] at hz
  simp only at hz
  split at hz
  · rename_i z hzz
    split at hz
    · rename_i hcc
      simp only [Bool.and_eq_true, decide_eq_true_eq] at hcc
      simp at hz; subst hz
      obtain ⟨w', hr, r1, r2⟩ := run_make_full (P := P) w 0 t e i z i.size ht hi hzz rfl k k' n h3 h4 (Nat.zero_le _)
      obtain ⟨av, os, ⟨k2, k2', n2, h1', h2', _, _, rfl, rfl⟩, hG⟩ := hg ⟨0, fun _ p => hdr w' p (.sl i.size e ((List.replicate n (nilL ks z.cells.toList)).flatten)) (.slice (some ⟨w.heap.size, 0, none⟩) n n)⟩
      rw [h1] at h1'
      have hnn : n = n2 := by
        have := h1'
        simp at this
        omega
      subst hnn
      have hrun : (execOp a.eval o).run P w = .ok (.value (.slice (some ⟨w.heap.size, 0, none⟩) n n)) w' := by
        simp [execOp, ho, ev_v h hl h1, ev_v h hc h2, hr]
      have hrep : Rep w' true (.sl i.size e ((List.replicate n (nilL ks z.cells.toList)).flatten)) (.slice (some ⟨w.heap.size, 0, none⟩) n n) [w.heap.size] := by
        have h5 : (madeCells z.cells (n * i.size)).toList = (List.replicate n z.cells.toList).flatten := by
          apply List.ext_getElem?
          intro j
          by_cases hj : j < n * i.size
          · rw [replicate_flat (by simp [hcc.1]) hs n j hj]
            simp [madeCells, hj, hcc.1]
            rw [Array.getElem?_eq_getElem (by rw [hcc.1]; exact Nat.mod_lt _ hs)]
            simp only [Option.some.injEq]
            exact getElem!_pos _ _ _
          · rw [List.getElem?_eq_none (by simp [madeCells]; omega), List.getElem?_eq_none (by simp [hcc.1]; omega)]
        rw [h5] at r1
        have key : ∀ (n : Nat), RepL w' true (List.replicate n (nilL ks z.cells.toList)).flatten (List.replicate n z.cells.toList).flatten [] := by
          intro n
          induction n with
          | zero => exact ⟨rfl, rfl⟩
          | succ n ih =>
            simp only [List.replicate_succ, List.flatten_cons]
            have := RepL.append_ (nilL ks z.cells.toList) (nil_rep (w := w') ks z.cells.toList) ih
            simpa using this
        exact ⟨_, [w.heap.size], [], ⟨n, r1, rfl⟩, key _, rfl⟩
      have hn : NewRel B w' [(100 * d, .loose (.sl i.size e ((List.replicate n (nilL ks z.cells.toList)).flatten)) (fun p => hdr w' p (.sl i.size e ((List.replicate n (nilL ks z.cells.toList)).flatten)) (.slice (some ⟨w.heap.size, 0, none⟩) n n)))] [w.heap.size] :=
        ⟨[w.heap.size], [], rfl, ⟨rfl, _, hrep, fun _ => rfl⟩, rfl⟩
      exact mk_ hrun (by exact ⟨rfl, rfl⟩) hn (Fresh.one _ _ (Nat.le_refl _)) (bl_grown0 r2) hG
    · simp at hz
  · simp at hz
theorem go_ext (h : RelF B w0 N s a w F) {x : Operand} {x' : X} {i : Nat} (ho : o.op = .extract x i) (hx : compX x = some x') (hg : ∀ st, ∃ av os, Gen P s d rt st (.ext x' i) av os ∧ G av os) : Goes P o a w (Yields_ B w G) := by
  obtain ⟨av, os, ⟨l, b, as, h1, h2, h3, rfl⟩, hG⟩ := hg ⟨0, fun _ _ => undef⟩
  have hv := ev_rel h hx
  rw [h1] at hv
  obtain ⟨us, he, hr⟩ := hv
  have key : ∀ (l : List (Bool × List A0)) (us : List Value) (i : Nat), TRelL B w l us → l[i]? = some (b, as) → ∃ u xs, us[i]? = some u ∧ A0RelL B w as xs ∧ (if b then u = .agg xs.toArray else xs = [u]) := by
    intro l
    induction l with
    | nil => intro _ _ _ h; simp at h
    | cons x l ih =>
      intro us i hr hi
      obtain ⟨b', as'⟩ := x
      obtain ⟨u, us', xs, rfl, k1, k2, k3⟩ := hr
      cases i with
      | zero => simp at hi; obtain ⟨rfl, rfl⟩ := hi; exact ⟨u, xs, rfl, k1, k2⟩
      | succ i => exact ih us' i k3 (by simpa using hi)
  obtain ⟨u, xs, k1, k2, k3⟩ := key l us i hr h2
  refine same_ (v := u) (by simp [execOp, ho, he, Instr.extract, k1]) ?_ hG
  cases b with
  | true =>
    obtain rfl : av = .agg as := by simpa using h3
    exact ⟨xs, by simpa using k3, k2⟩
  | false =>
    obtain ⟨a0, rfl, rfl⟩ : ∃ a0, as = [a0] ∧ av = .c a0 := by simpa using h3
    obtain rfl : xs = [u] := by simpa using k3
    obtain ⟨u', us', k4, k5, _⟩ := k2
    cases k4
    exact k5
theorem go_mkf (h : RelF B w0 N s a w F) {f : Nat} {first caps : Array Operand} {l : List X} (ho : o.op = .makeFunc (.func f) first caps) (hf : first = #[]) (hc : compXs caps.toList = some l) (hg : ∀ st, ∃ av os, Gen P s d rt st (.mkf f l) av os ∧ G av os) : Goes P o a w (Yields_ B w G) := by
  obtain ⟨av, os, ⟨as, h1, rfl, rfl⟩, hG⟩ := hg ⟨0, fun _ _ => undef⟩
  have key : ∀ (cs : List Operand) (l : List X) (as : List A0), compXs cs = some l → capsOf s l = some as → A0RelL B w as (cs.map a.eval) := by
    intro cs
    induction cs with
    | nil => intro l as k1 k2; simp [compXs] at k1; subst k1; simp [capsOf] at k2; subst k2; rfl
    | cons c cs ih =>
      intro l as k1 k2
      simp only [compXs] at k1
      split at k1
      · rename_i c' l' k3 k4
        simp at k1; subst k1
        simp only [capsOf] at k2
        split at k2
        · rename_i a0 r k5 k6
          simp at k2; subst k2
          have := ev_rel h k3
          rw [k5] at this
          exact ⟨a.eval c, _, rfl, this, ih l' r k4 k6⟩
        · simp at k2
      · simp at k1
  refine same_ (v := .func (.func f) #[] (caps.map a.eval)) (by simp [execOp, ho, hf, Instr.makeFunc]) ?_ hG
  exact ⟨caps.toList.map a.eval, by rw [← Array.toList_map, Array.toArray_toList], key _ _ _ hc h1⟩
end
end Go.Proofs.Ytbplebgnkhmemaa
