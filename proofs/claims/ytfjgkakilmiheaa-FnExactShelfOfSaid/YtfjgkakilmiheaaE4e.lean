/- The engine: what is moved; boxes, literals of slices, stores, appends. No program. -/
import Derived.Test.YtfjgkakilmiheaaE4d
import Derived.Lib.AppendStr
set_option linter.unusedSimpArgs false
set_option linter.unusedVariables false
namespace Go.Proofs.Ytfjgkakilmiheaa
open Go.RowKit Go.Sort

def OpOk (P : Program) (o : Oper) (a : Act) (w : World) (R : Act → World → Prop) : Prop :=
  ∀ (next : Act → World → Prop) (Q : Exit → Act → World → Prop), (∀ a' w', R a' w' → next a' w') → o.wp P a w next Q
section
variable {P : Program} {B N : Nat} {w w0 : World} {s : St} {a : Act} {F : Nat → List Nat} {o : Oper} {K : St → Prop}
theorem OpOk.of_run {w' : World} {R : Act → World → Prop} {v : Value} (h : (execOp a.eval o).run P w = .ok (.value v) w') (hr : R (a.put o.dst v) w') : OpOk P o a w R :=
  fun _ _ hk => by unfold Oper.wp; rw [h]; exact hk _ w' hr
theorem OpOk.of_skip {w' : World} {R : Act → World → Prop} (h : (execOp a.eval o).run P w = .ok .skip w') (hr : R (a.put o.dst undef) w') : OpOk P o a w R :=
  fun _ _ hk => by unfold Oper.wp; rw [h]; exact hk _ w' hr

/-- What is taken: the cells stand for what was there, and the objects have it no more. -/
theorem take_rel : ∀ {l : List A0} {us : List Value} {s : St} {F : Nat → List Nat} {K : List Cell → St → Prop}, RelF B w0 N s a w F → A0RelL B w l us → TakeK s l K →
    ∃ cs s' S F', K cs s' ∧ CRel B w cs us S ∧ RelF B w0 N s' a w F' ∧ Fresh B S ∧ (∀ g, ∀ b ∈ S, b ∉ F' g) ∧ (∀ g b, b ∈ F' g → b ∈ F g) ∧ (∀ b ∈ S, ∃ g, b ∈ F g) ∧ (∀ u ∈ us, u.oneCell' = true)
  | [], us, s, F, K, h, hr, hk => ⟨[], s, [], F, hk, ⟨hr, rfl⟩, h, Fresh.nil _, by simp, fun _ _ h => h, by simp, by rw [show us = [] from hr]; simp⟩
  | x :: l, us, s, F, K, h, ⟨u, us', h1, h2, h3⟩, hk => by
    subst h1
    have plain : ∀ (x : A0), A0Rel B w x u → x.one = true → TakeK s l (fun cs s' => K (.a x :: cs) s') → ∃ cs s' S F', K cs s' ∧ CRel B w cs (u :: us') S ∧ RelF B w0 N s' a w F' ∧ Fresh B S ∧ (∀ g, ∀ b ∈ S, b ∉ F' g) ∧ (∀ g b, b ∈ F' g → b ∈ F g) ∧ (∀ b ∈ S, ∃ g, b ∈ F g) ∧ (∀ u' ∈ u :: us', u'.oneCell' = true) := by
      intro x h2 hone hk
      obtain ⟨cs, s', S, F', k1, k2, k3, k4, k5, k6, k7, k8⟩ := take_rel h h3 hk
      refine ⟨_, s', S, F', k1, ⟨u, us', rfl, h2, k2⟩, k3, k4, k5, k6, k7, fun u' hu => ?_⟩
      rcases List.mem_cons.1 hu with rfl | hu
      · exact h2.one hone
      · exact k8 u' hu
    cases x with
    | h g c p x =>
      obtain ⟨rfl, d, η, ho, hx, hk⟩ := hk
      obtain ⟨u', S1, F1, j1, j2, j3, j4, j5, j6, j7, j8⟩ := h.rm ho
      obtain ⟨cs, s', S2, F', k1, k2, k3, k4, k5, k6, k7, k8⟩ := take_rel j5 h3 hk
      have hu : u = u' := by
        rw [h2.1, ← hx, j3, hdr_nil j1]
      subst hu
      have hdis : ∀ b ∈ S1, b ∉ S2 := fun b hb hb' => by
        obtain ⟨g', hg'⟩ := k7 b hb'
        exact j6 g' b hb hg'
      refine ⟨_, s', S1 ++ S2, F', k1, ⟨u, us', S1, S2, rfl, rfl, j1, j2, j3, k2⟩, k3, ⟨List.nodup_append.2 ⟨j4.1, k4.1, fun x hx y hy e => hdis x hx (e ▸ hy)⟩, fun b hb => ?_⟩, fun g' b hb => ?_, fun g' b hb => j8 g' b (k6 g' b hb), fun b hb => ?_, fun u' hu => ?_⟩
      · rcases List.mem_append.1 hb with hb | hb
        · exact j4.2 b hb
        · exact k4.2 b hb
      · rcases List.mem_append.1 hb with hb | hb
        · exact fun hb' => j6 g' b hb (k6 g' b hb')
        · exact k5 g' b hb
      · rcases List.mem_append.1 hb with hb | hb
        · exact ⟨g, j7 b hb⟩
        · obtain ⟨g', hg'⟩ := k7 b hb; exact ⟨g', j8 g' b hg'⟩
      · rcases List.mem_cons.1 hu with rfl | hu
        · cases d with
          | val _ => cases j1
          | sl _ _ _ => obtain ⟨_, _, _, rfl⟩ := rep_form j2; rfl
        · exact k8 u' hu
    | v x => exact plain _ h2 hk.1 hk.2
    | ro x => exact plain _ h2 hk.1 hk.2
    | rp x => exact plain _ h2 hk.1 hk.2
    | bp x y z => exact plain _ h2 hk.1 hk.2
    | ep x y z i j => exact plain _ h2 hk.1 hk.2
    | un => exact plain _ h2 hk.1 hk.2
theorem RelF.put_ (h : RelF B w0 N s a w F) {v : AV} {u : Value} (hv : VRel B w v u) {d : Option Nat} (hd : ∀ k, d = some k → k < N) : ∃ F, RelF B w0 N (s.put d v) (a.put d u) w F := ⟨F, h.put hv hd⟩
theorem drewBelow (w : World) : Below w.heap.size w w.drew := ⟨rfl, rfl, rfl, Nat.le_refl _, fun _ _ => rfl⟩

theorem ok_box (h : RelF B w0 N s a w F) {e : TypeId} {x : Operand} {x' : X} {n : Nat} {g : Option (Nat × Bool)} (ho : o.op = .box e x) (hx : compX x = some x') (hd : ∀ k, o.dst = some k → k < N) (hr : runI P ⟨o.dst, g, .box e n x'⟩ s K) :
    OpOk P o a w (fun a' w' => ∃ s' F', RelF B w0 N s' a' w' F' ∧ K s') := by
  obtain ⟨l, h1, _, h2⟩ := hr
  obtain ⟨us, h3, h4⟩ := VRel.cells (ev_rel h hx) h1
  obtain ⟨cs, s', S, F', k1, k2, k3, k4, k5, k6, k7, _⟩ := take_rel h h4 h2
  have hrun : (execOp a.eval o).run P w = .ok (.value (.pointer (some ⟨w.heap.size, 0, none⟩))) (w.alloc (.cells us.toArray e)) := by
    simp [execOp, ho, Instr.box, newVar, newRow, h3]
  have hb : Below w.heap.size w (w.alloc (.cells us.toArray e)) := (Below.refl _ _).alloc (Nat.le_refl _) _
  have hB : B ≤ w.heap.size := Nat.le_trans h.hB h.below.size
  have hSlt : ∀ b ∈ S, b < w.heap.size := fun b hb' => k2.lt b hb'
  have hob : ORel B (w.alloc (.cells us.toArray e)) (.box w.heap.size e cs) (w.heap.size :: S) :=
    ⟨us, S, heap_new _ _, k2.keep (hb.mono hB) fun b hb' => hb.block b (hSlt b hb'), rfl⟩
  have hF'lt : ∀ g, ∀ b ∈ F' g, b < w.heap.size := fun g b hb' => (k3.ob g).lt b hb'
  have h5 := (k3.world hb).setO (g := 100 * o.dst.getD 0) hob ⟨List.nodup_cons.2 ⟨fun hh => by have := hSlt _ hh; omega, k4.1⟩, fun b hb' => by rcases List.mem_cons.1 hb' with rfl | hb'; exact hB; exact k4.2 b hb'⟩ (fun g' _ b hb' => by
    rcases List.mem_cons.1 hb' with rfl | hb'
    · exact fun hh => by have := hF'lt g' _ hh; omega
    · exact k5 g' b hb')
  exact OpOk.of_run hrun ⟨_, _, h5.put (v := .c (.bp (100 * o.dst.getD 0) 0 w.heap.size)) rfl hd, k1 w.heap.size⟩
/-! ### Writing -/
/-- A world that has turned where no object is. -/
theorem RelF.world' (h : RelF B w0 N s a w F) {w' : World} (hb : Below B w w') (hk : ∀ g, ∀ b ∈ F g, w'.heap[b]? = w.heap[b]?) : RelF B w0 N s a w' F :=
  ⟨h.below.trans hb, h.hB, h.df, h.sz, fun n => (h.sl n).mono hb, fun g => (h.ob g).keep hb (hk g), h.fr, h.dj⟩
theorem CRel.set1 {x : Cell} {u : Value} {S1 : List Nat} (hx : CRel B w [x] [u] S1) : ∀ {ds : List Cell} {us : List Value} {S0 : List Nat} {c : Nat}, CRel B w ds us S0 → (S0 ++ S1).Nodup → c < ds.length →
    ∃ S', CRel B w (ds.set c x) (us.set c u) S' ∧ S'.Nodup ∧ ∀ b ∈ S', b ∈ S0 ∨ b ∈ S1
  | [], _, _, _, _, _, hc => by simp at hc
  | y :: ds, us, S0, 0, hr, hnd, _ => by
    -- the head is replaced
    have hcons : ∀ {us' : List Value} {S2 : List Nat}, CRel B w ds us' S2 → CRel B w (x :: ds) (u :: us') (S1 ++ S2) := by
      intro us' S2 h2
      cases x with
      | a x => obtain ⟨u', us'', h3, h4, h5, h6⟩ := hx; cases h3; subst h6; exact ⟨u, us', rfl, h4, h2⟩
      | own d η =>
        obtain ⟨u', us'', T1, T2, h3, h4, h5, h6, h7, h8, h9⟩ := hx
        cases h3; subst h9; rw [List.append_nil] at h4; subst h4
        exact ⟨u, us', S1, S2, rfl, rfl, h5, h6, h7, h2⟩
    cases y with
    | a y =>
      obtain ⟨u', us', rfl, _, h3⟩ := hr
      refine ⟨_, hcons h3, ?_, fun b hb => ?_⟩
      · exact (List.perm_append_comm.nodup_iff).1 hnd
      · rcases List.mem_append.1 hb with hb | hb
        · exact .inr hb
        · exact .inl hb
    | own d η =>
      obtain ⟨u', us', T1, T2, rfl, rfl, _, _, _, h3⟩ := hr
      refine ⟨_, hcons h3, ?_, fun b hb => ?_⟩
      · rw [List.append_assoc] at hnd
        exact (List.perm_append_comm.nodup_iff).1 (List.nodup_append.1 hnd).2.1
      · rcases List.mem_append.1 hb with hb | hb
        · exact .inr hb
        · exact .inl (by simp [hb])
  | y :: ds, us, S0, c + 1, hr, hnd, hc => by
    cases y with
    | a y =>
      obtain ⟨u', us', rfl, h2, h3⟩ := hr
      obtain ⟨S', h4, h5, h6⟩ := CRel.set1 hx h3 hnd (by simpa using hc)
      exact ⟨S', ⟨u', _, rfl, h2, h4⟩, h5, h6⟩
    | own d η =>
      obtain ⟨u', us', T1, T2, rfl, rfl, h1, h2, h2', h3⟩ := hr
      rw [List.append_assoc] at hnd
      have hn := List.nodup_append.1 hnd
      obtain ⟨S', h4, h5, h6⟩ := CRel.set1 hx h3 hn.2.1 (by simpa using hc)
      refine ⟨T1 ++ S', ⟨u', _, T1, S', rfl, rfl, h1, h2, h2', h4⟩, List.nodup_append.2 ⟨hn.1, h5, fun a ha b hb e => hn.2.2 a ha b (by rcases h6 b hb with h | h <;> simp [h]) e⟩, fun b hb => ?_⟩
      rcases List.mem_append.1 hb with hb | hb
      · exact .inl (by simp [hb])
      · rcases h6 b hb with h | h
        · exact .inl (by simp [h])
        · exact .inr h
theorem CRel.setAt_ : ∀ {cs : List Cell} {us : List Value} {S : List Nat} {ds : List Cell} {vs : List Value} {S0 : List Nat} {c : Nat}, CRel B w cs us S → CRel B w ds vs S0 → (S0 ++ S).Nodup → c + cs.length ≤ ds.length →
    ∃ S', CRel B w (setAt ds c cs) (setAt vs c us) S' ∧ S'.Nodup ∧ ∀ b ∈ S', b ∈ S0 ∨ b ∈ S
  | [], us, S, ds, vs, S0, c, ⟨h1, h2⟩, h3, hnd, _ => by
    subst h1 h2
    rw [List.append_nil] at hnd
    exact ⟨S0, h3, hnd, fun b hb => .inl hb⟩
  | x :: cs, us, S, ds, vs, S0, c, hr, h3, hnd, hc => by
    obtain ⟨u, us', S1, S2, rfl, rfl, h4, h5⟩ : ∃ u us' S1 S2, us = u :: us' ∧ S = S1 ++ S2 ∧ CRel B w [x] [u] S1 ∧ CRel B w cs us' S2 := by
      cases x with
      | a x => obtain ⟨u, us', h1, h2, h4⟩ := hr; exact ⟨u, us', [], S, h1, rfl, ⟨u, [], rfl, h2, rfl, rfl⟩, h4⟩
      | own d η => obtain ⟨u, us', S1, S2, h1, h2, k1, k2, k3, h4⟩ := hr; exact ⟨u, us', S1, S2, h1, h2, ⟨u, [], S1, [], rfl, by simp, k1, k2, k3, rfl, rfl⟩, h4⟩
    rw [← List.append_assoc] at hnd
    obtain ⟨S', h6, h7, h8⟩ := CRel.set1 (c := c) h4 h3 (List.nodup_append.1 hnd).1 (by simp at hc; omega)
    have hn := List.nodup_append.1 hnd
    obtain ⟨S'', h9, h10, h11⟩ := CRel.setAt_ (c := c + 1) h5 h6 (List.nodup_append.2 ⟨h7, hn.2.1, fun a ha b hb e => hn.2.2 a (by rcases h8 a ha with h | h <;> simp [h]) b hb e⟩) (by simp at hc ⊢; omega)
    refine ⟨S'', h9, h10, fun b hb => ?_⟩
    rcases h11 b hb with h | h
    · rcases h8 b h with h | h
      · exact .inl h
      · exact .inr (by simp [h])
    · exact .inr (by simp [h])
theorem heap_setCells : ∀ (vs : List Value) (w : World) (b o : Nat) (us : List Value) (ty : TypeId), w.heap[b]? = some (.cells us.toArray ty (0, 0)) → (w.setCells b o vs).heap[b]? = some (.cells (setAt us o vs).toArray ty (0, 0)) ∧ ∀ k, k ≠ b → (w.setCells b o vs).heap[k]? = w.heap[k]?
  | [], w, b, o, us, ty, h => ⟨h, fun _ _ => rfl⟩
  | v :: vs, w, b, o, us, ty, h => by
    have h1 : (w.setCell ⟨b, o, none⟩ v).heap[b]? = some (.cells (us.set o v).toArray ty (0, 0)) := by
      have hlt := getElem_lt h
      have : w.heap[b] = .cells us.toArray ty (0, 0) := by rw [Array.getElem?_eq_getElem hlt] at h; exact Option.some.inj h
      simp [World.setCell, Array.getElem?_modify, h]
    obtain ⟨h2, h3⟩ := heap_setCells vs (w.setCell ⟨b, o, none⟩ v) b (o + 1) (us.set o v) ty h1
    exact ⟨h2, fun k hk => (h3 k hk).trans (Below.heap_setCell w ⟨b, o, none⟩ v k hk)⟩
theorem setCells_rest : ∀ (vs : List Value) (w : World) (b o : Nat), (w.setCells b o vs).os = w.os ∧ (w.setCells b o vs).tape = w.tape ∧ (w.setCells b o vs).output = w.output ∧ (w.setCells b o vs).heap.size = w.heap.size
  | [], _, _, _ => ⟨rfl, rfl, rfl, rfl⟩
  | v :: vs, w, b, o => by
    obtain ⟨h1, h2, h3, h4⟩ := setCells_rest vs (w.setCell ⟨b, o, none⟩ v) b (o + 1)
    exact ⟨h1, h2, h3, h4.trans (by simp [World.setCell])⟩
theorem ok_st (h : RelF B w0 N s a w F) {t : TypeId} {x y : Operand} {x' y' : X} {n : Nat} {g : Option (Nat × Bool)} (ho : o.op = .store t x y) (hn : sizeAt P t = some n) (hx : compX x = some x') (hy : compX y = some y') (hr : runI P ⟨o.dst, g, .st n x' y'⟩ s K) :
    OpOk P o a w (fun a' w' => ∃ s' F', RelF B w0 N s' a' w' F' ∧ K s') := by
  obtain ⟨hdst, k, c, b, l, h1, h2, h3, h4⟩ := hr
  simp only at hdst
  obtain ⟨us, h5, h6⟩ := VRel.cells (ev_rel h hy) h2
  have hp : a.eval x = .pointer (some ⟨b, c, none⟩) := by have := ev_rel h hx; rw [h1] at this; exact this
  obtain ⟨cs, s', S, F', ⟨ty, ds, k0, kc, kk⟩, k2, k3, k4, k5, k6, k7, k8⟩ := take_rel h h6 h4
  obtain ⟨inf, hinf, hsz⟩ := size_of hn
  have hob := k3.ob k
  rw [k0] at hob
  obtain ⟨vs, S0, j1, j2, j3⟩ := hob
  have hlen := CRel.len k2
  have hul := A0RelL.len h6
  have hvl := CRel.len j2
  have hrun : (execOp a.eval o).run P w = .ok .skip (w.setCells b c us) := by
    have hst := run_storeCells_cells (P := P) b c us 0 w (fun j hj => by
      have : c + j < vs.length := by omega
      simp [World.cell?, j1, this]) (fun j hj => by simp [World.frozen?, j1]) k8
    simp only [Nat.add_zero] at hst
    simp [execOp, ho, Instr.storeAt, hp, Instr.sureAddr, storeVar, h5, sizeOf, typeInfo, hinf, hsz, hul, h3, hst]
  obtain ⟨j4, j5⟩ := heap_setCells us w b c vs ty j1
  obtain ⟨j6, j7, j8, j9⟩ := setCells_rest us w b c
  have hfk := k3.fr k
  rw [j3] at hfk
  have hBb : B ≤ b := hfk.2 b (by simp)
  have hb : Below B w (w.setCells b c us) := ⟨j6, j7, j8, by rw [j9]; exact Nat.le_refl _, fun i hi => j5 i (by omega)⟩
  have hbF : ∀ g', g' ≠ k → b ∉ F' g' := fun g' hg' hh => k3.dj g' k hg' b hh (by rw [j3]; simp)
  have hbS : b ∉ S := fun hh => k5 k b hh (by rw [j3]; simp)
  have hbS0 : b ∉ S0 := (List.nodup_cons.1 hfk.1).1
  have hdis : (S0 ++ S).Nodup := List.nodup_append.2 ⟨(List.nodup_cons.1 hfk.1).2, k4.1, fun x hx y hy e => k5 k y hy (by rw [j3]; simp [← e, hx])⟩
  obtain ⟨S', m1, m2, m3⟩ := CRel.setAt_ (c := c) k2 j2 hdis (by omega)
  have hbS' : b ∉ S' := fun hh => by rcases m3 b hh with h | h; exact hbS0 h; exact hbS h
  -- the object is put aside, the world turns, the object comes back
  have r1 := k3.setO (g := k) (ob := .none) (S := []) rfl (Fresh.nil _) (by simp)
  have r2 := r1.world' hb fun g' x hx => by
    split at hx
    · simp at hx
    · rename_i hg'
      exact j5 x fun e => hbF g' hg' (e ▸ hx)
  have hob' : ORel B (w.setCells b c us) (.box b ty (setAt ds c cs)) (b :: S') := ⟨_, S', j4, m1.keep hb fun x hx => j5 x fun e => hbS' (e ▸ hx), rfl⟩
  have r3 := r2.setO (g := k) hob' ⟨List.nodup_cons.2 ⟨hbS', m2⟩, fun x hx => by
    rcases List.mem_cons.1 hx with rfl | hx
    · exact hBb
    · rcases m3 x hx with h | h
      · exact hfk.2 x (by simp [h])
      · exact k4.2 x h⟩ (fun g' hg' x hx => by
    rw [if_neg hg']
    rcases List.mem_cons.1 hx with rfl | hx
    · exact hbF g' hg'
    · rcases m3 x hx with h | h
      · exact fun hh => k3.dj g' k hg' x hh (by rw [j3]; simp [h])
      · exact k5 g' x h)
  have hss : (s'.setO k .none).setO k (.box b ty (setAt ds c cs)) = s'.setO k (.box b ty (setAt ds c cs)) := by
    simp only [St.setO, St.mk.injEq, true_and]
    funext i; split <;> rfl
  rw [hss] at r3
  have ha : a.put o.dst undef = a := by rw [hdst]; rfl
  exact OpOk.of_skip hrun (by rw [ha]; exact ⟨_, _, r3, kk⟩)
end
end Go.Proofs.Ytfjgkakilmiheaa
