/- Texts for laws: Fam. -/
import Derived.Test.YtnhdcbhcocgjhaaGreatQSub
set_option linter.unusedSimpArgs false
set_option linter.unusedVariables false
set_option maxRecDepth 100000
namespace Go.Proofs.YtnhdcbhcocgjhaaGreat
open Go.RowKit Go.Sort
/-- Rows of runs of which the headers alone have stayed; their slices are the objects of a family. -/
def CutR : List Rn → List D → (Nat → Ob) → Prop
  | [], rows, fam => rows = [] ∧ ∀ j, fam j = .none
  | r :: l, rows, fam => ∃ (η5 η7 : Heads) (rows' : List D), rows = rnV r (η5 []) (η7 []) ++ rows' ∧ (η5 []).oneCell' = true ∧ (η7 []).oneCell' = true ∧ fam 0 = .loose (encEds r.plan.edges) η5 ∧ fam 1 = .loose (encTks r.tasks) η7 ∧ CutR l rows' (fun j => fam (j + 2))
theorem CutR.len : ∀ {l : List Rn} {rows : List D} {fam : Nat → Ob}, CutR l rows fam → rows.length = l.length * 8
  | [], _, _, ⟨h, _⟩ => by rw [h]; rfl
  | r :: l, _, _, ⟨_, _, rows', h, _, _, _, _, h2⟩ => by
    have := CutR.len h2
    rw [h, List.length_append, List.length_cons, this]
    simp only [List.length_cons, List.length_nil]; omega
theorem CutR.flat : ∀ {l : List Rn} {rows : List D} {fam : Nat → Ob}, CutR l rows fam → flatB rows = true
  | [], _, _, ⟨h, _⟩ => by rw [h]; rfl
  | r :: l, _, _, ⟨η5, η7, rows', h, h5, h7, _, _, h2⟩ => by
    have := CutR.flat h2
    rw [h, flatB_app, this]
    simp [flatB, h5, h7]
    exact ⟨rfl, rfl, rfl, rfl, rfl, rfl⟩
theorem CutR.erase : ∀ {l : List Rn} {rows : List D} {fam : Nat → Ob} {k : Nat}, CutR l rows fam → k < l.length → CutR (l.eraseIdx k) (rows.take (k * 8) ++ rows.drop ((k + 1) * 8)) (fun j => fam (if j < 2 * k then j else j + 2))
  | [], _, _, _, _, h => by simp at h
  | r :: l, _, fam, 0, ⟨η5, η7, rows', h, _, _, _, _, h2⟩, _ => by
    have e1 : (rnV r (η5 []) (η7 []) ++ rows').drop ((0 + 1) * 8) = rows' := List.drop_left' rfl
    rw [h, e1, Nat.zero_mul, List.take_zero, List.nil_append]
    simpa using h2
  | r :: l, _, fam, k + 1, ⟨η5, η7, rows', h, h5, h7, f0, f1, h2⟩, hk => by
    have ih := CutR.erase (k := k) h2 (by simpa using hk)
    have e1 : (rnV r (η5 []) (η7 []) ++ rows').take ((k + 1) * 8) = rnV r (η5 []) (η7 []) ++ rows'.take (k * 8) := by
      rw [show (k + 1) * 8 = (rnV r (η5 []) (η7 [])).length + k * 8 by rw [show (rnV r (η5 []) (η7 [])).length = 8 from rfl]; omega]; exact List.take_length_add_append _
    have e2 : (rnV r (η5 []) (η7 []) ++ rows').drop ((k + 1 + 1) * 8) = rows'.drop ((k + 1) * 8) := by
      rw [show (k + 1 + 1) * 8 = (rnV r (η5 []) (η7 [])).length + (k + 1) * 8 by rw [show (rnV r (η5 []) (η7 [])).length = 8 from rfl]; omega]; exact List.drop_length_add_append _
    rw [h, e1, e2, List.eraseIdx_cons_succ]
    refine ⟨η5, η7, _, by rw [List.append_assoc], h5, h7, ?_, ?_, ?_⟩
    · dsimp only; rw [if_pos (by omega)]; exact f0
    · dsimp only; rw [if_pos (by omega)]; exact f1
    · have : (fun j => fam (if j + 2 < 2 * (k + 1) then j + 2 else j + 2 + 2)) = (fun j => fam ((if j < 2 * k then j else j + 2) + 2)) := by
        funext j
        by_cases c : j < 2 * k
        · rw [if_pos c, if_pos (by omega)]
        · rw [if_neg c, if_neg (by omega)]
      rw [this]; exact ih
theorem ownPut {ob : Ob} {c : Nat} {d d' : D} {η η' : Heads} (h : ob.own c = some (d, η)) : (ob.putOwn c d' η').own c = some (d', η') := by
  cases ob with
  | none => simp [Ob.own] at h
  | loose e ε => cases c with
    | zero => rfl
    | succ c => simp [Ob.own] at h
  | box b ty cs =>
    simp only [Ob.own] at h
    split at h
    · rename_i d0 η0 hc
      have := (List.getElem?_eq_some_iff.1 hc).1
      simp [Ob.own, Ob.putOwn, List.getElem?_set_self this]
    · simp at h
theorem putSame {ob : Ob} {c : Nat} {d : D} {η : Heads} (h : ob.own c = some (d, η)) : ob.putOwn c d η = ob := by
  cases ob with
  | none => rfl
  | loose e ε => cases c with
    | zero => simp [Ob.own] at h; obtain ⟨rfl, rfl⟩ := h; rfl
    | succ c => simp [Ob.own] at h
  | box b ty cs =>
    simp only [Ob.own] at h
    split at h
    · rename_i d0 η0 hc
      simp at h; obtain ⟨rfl, rfl⟩ := h
      simp only [Ob.putOwn]; rw [set_same hc]
    · simp at h
theorem putPut {ob : Ob} {c : Nat} {d d' : D} {η η' : Heads} : (ob.putOwn c d η).putOwn c d' η' = ob.putOwn c d' η' := by
  cases ob with
  | none => rfl
  | loose e ε => rfl
  | box b ty cs => simp [Ob.putOwn, List.set_set]
theorem set_app {α : Type} {A B : List α} (k : Nat) (hk : k < B.length) (x : α) : (A ++ B).set (A.length + k) x = A ++ B.set k x := by
  rw [List.set_append_right _ _ (by omega), Nat.add_sub_cancel_left]
theorem get_app {α : Type} {A B : List α} (k : Nat) : (A ++ B)[A.length + k]? = B[k]? := by
  rw [List.getElem?_append_right (by omega), Nat.add_sub_cancel_left]
theorem wk_cutAll {K : St → Prop} (g c : Nat) : ∀ (l : List Rn) (pre : List D) (b : Nat) (s : St) (η : Heads), (s.o g).own c = some (.sl 8 tRn (pre ++ l.flatMap encRn), η) → g < b → (∀ j, b ≤ j → s.o j = .none) →
    (∀ (rows : List D) (fam : Nat → Ob) (η' : Heads), CutR l rows fam → η' [] = η [] → WkK ⟨s.t, fun j => if b ≤ j then fam (j - b) else if j = g then (s.o g).putOwn c (.sl 8 tRn (pre ++ rows)) η' else s.o j⟩ K) → WkK s K
  | [], pre, b, s, η, ho, hg, hn, hK => by
    have := hK [] (fun _ => .none) η ⟨rfl, fun _ => rfl⟩ rfl
    have e : (⟨s.t, fun j => if b ≤ j then Ob.none else if j = g then (s.o g).putOwn c (.sl 8 tRn (pre ++ [])) η else s.o j⟩ : St) = s := by
      have : (fun j => if b ≤ j then Ob.none else if j = g then (s.o g).putOwn c (.sl 8 tRn (pre ++ [])) η else s.o j) = s.o := by
        funext j
        by_cases h1 : b ≤ j
        · rw [if_pos h1, hn j h1]
        · rw [if_neg h1]
          by_cases h2 : j = g
          · subst h2; rw [if_pos rfl]; exact putSame ho
          · rw [if_neg h2]
      rw [this]
    rwa [e] at this
  | r :: l, pre, b, s, η, ho, hg, hn, hK => by
    rw [List.flatMap_cons] at ho
    have h8 : (encRn r).length = 8 := rfl
    refine wk_cutN g c (pre.length + 5) b (η := η) (sz := 8) (tyo := tRn) (cs := r.plan.edges.flatMap encEd) ho (by rw [get_app]; rfl) (hn b (Nat.le_refl b)) (by omega) fun ηa ηA hA1 hA2 hA3 => ?_
    rw [set_app 5 (by rw [List.length_append, h8]; omega), List.set_append_left _ _ (by rw [h8]; omega)]
    have hbg : b ≠ g := by omega
    have hog : ∀ (x y : Ob), (((s.setO g x).setO b y).o g) = x := fun x y => by
      show (if g = b then y else if g = g then x else s.o g) = x
      rw [if_neg (by omega), if_pos rfl]
    have ho2 : ((((s.setO g ((s.o g).putOwn c (.sl 8 tRn (pre ++ ((encRn r).set 5 (.val (η [pre.length + 5])) ++ l.flatMap encRn))) ηA)).setO b (.loose (.sl 2 tEd (r.plan.edges.flatMap encEd)) ηa)).o g)).own c = some (.sl 8 tRn (pre ++ ((encRn r).set 5 (.val (η [pre.length + 5])) ++ l.flatMap encRn)), ηA) := by
      rw [hog]; exact ownPut ho
    refine wk_cutN g c (pre.length + 7) (b + 1) (η := ηA) (sz := 8) (tyo := tRn) (cs := r.tasks.flatMap encTk) ho2 (by rw [get_app]; rfl) (by
      show (if b + 1 = b then _ else if b + 1 = g then _ else s.o (b + 1)) = _
      rw [if_neg (by omega), if_neg (by omega)]; exact hn _ (by omega)) (by omega) fun ηb ηB hB1 hB2 hB3 => ?_
    rw [hog, putPut, set_app 7 (by rw [List.length_append, List.length_set, h8]; omega), List.set_append_left _ _ (by rw [List.length_set, h8]; omega)]
    rw [← hA2] at hA3 ⊢
    rw [← hB2] at hB3 ⊢
    have hV : ((encRn r).set 5 (.val (ηa []))).set 7 (.val (ηb [])) = rnV r (ηa []) (ηb []) := rfl
    rw [hV]
    obtain ⟨s2, hs2⟩ : ∃ s2, (((s.setO g ((s.o g).putOwn c (.sl 8 tRn (pre ++ ((encRn r).set 5 (.val (ηa [])) ++ l.flatMap encRn))) ηA)).setO b (.loose (.sl 2 tEd (r.plan.edges.flatMap encEd)) ηa)).setO g ((s.o g).putOwn c (.sl 8 tRn (pre ++ (rnV r (ηa []) (ηb []) ++ l.flatMap encRn))) ηB)).setO (b + 1) (.loose (.sl 4 tTk (r.tasks.flatMap encTk)) ηb) = s2 := ⟨_, rfl⟩
    rw [hs2]
    have q0 : s2.o g = (s.o g).putOwn c (.sl 8 tRn (pre ++ (rnV r (ηa []) (ηb []) ++ l.flatMap encRn))) ηB := by
      rw [← hs2]
      show (if g = b + 1 then _ else if g = g then _ else _) = _
      rw [if_neg (by omega), if_pos rfl]
    have q1 : s2.o b = .loose (encEds r.plan.edges) ηa := by
      rw [← hs2]
      show (if b = b + 1 then _ else if b = g then _ else if b = b then _ else _) = _
      rw [if_neg (by omega), if_neg (by omega), if_pos rfl]; rfl
    have q2 : s2.o (b + 1) = .loose (encTks r.tasks) ηb := by
      rw [← hs2]
      show (if b + 1 = b + 1 then _ else _) = _
      rw [if_pos rfl]; rfl
    have q3 : ∀ j, j ≠ g → j ≠ b → j ≠ b + 1 → s2.o j = s.o j := fun j n1 n2 n3 => by
      rw [← hs2]
      show (if j = b + 1 then _ else if j = g then _ else if j = b then _ else if j = g then _ else s.o j) = _
      rw [if_neg n3, if_neg n1, if_neg n2, if_neg n1]
    have qt : s2.t = s.t := by rw [← hs2]; rfl
    refine wk_cutAll g c l (pre ++ rnV r (ηa []) (ηb [])) (b + 2) s2 ηB (by rw [q0, List.append_assoc]; exact ownPut ho) (by omega) (fun j hj => by rw [q3 j (by omega) (by omega) (by omega)]; exact hn j (by omega)) fun rows fam η' hcr hη => ?_
    have := hK (rnV r (ηa []) (ηb []) ++ rows) (fun j => if j = 0 then .loose (encEds r.plan.edges) ηa else if j = 1 then .loose (encTks r.tasks) ηb else fam (j - 2)) η' ⟨ηa, ηb, rows, rfl, hA3, hB3, rfl, rfl, hcr⟩ (by rw [hη, hB1, hA1])
    have e : (fun j => if b + 2 ≤ j then fam (j - (b + 2)) else if j = g then (s2.o g).putOwn c (.sl 8 tRn (pre ++ rnV r (ηa []) (ηb []) ++ rows)) η' else s2.o j) = (fun j => if b ≤ j then (if j - b = 0 then Ob.loose (encEds r.plan.edges) ηa else if j - b = 1 then .loose (encTks r.tasks) ηb else fam (j - b - 2)) else if j = g then (s.o g).putOwn c (.sl 8 tRn (pre ++ (rnV r (ηa []) (ηb []) ++ rows))) η' else s.o j) := by
      funext j
      by_cases c1 : b + 2 ≤ j
      · rw [if_pos c1, if_pos (by omega), if_neg (by omega), if_neg (by omega), show j - (b + 2) = j - b - 2 by omega]
      · rw [if_neg c1]
        by_cases c2 : j = b
        · subst c2; rw [if_neg (by omega), if_pos (Nat.le_refl _), if_pos (by omega), q1]
        · by_cases c3 : j = b + 1
          · subst c3; rw [if_neg (by omega), if_pos (by omega), if_neg (by omega), if_pos (by omega), q2]
          · by_cases c4 : j = g
            · subst c4; rw [if_pos rfl, if_neg (by omega), if_pos rfl, q0, putPut, List.append_assoc]
            · rw [if_neg c4, if_neg (by omega), if_neg c4, q3 j c4 c2 c3]
    rw [qt, e]; exact this
theorem wk_graftAll {K : St → Prop} (g c : Nat) : ∀ (l : List Rn) (pre : List D) (b : Nat) (s : St) (η : Heads) (rows : List D) (fam : Nat → Ob), CutR l rows fam → (s.o g).own c = some (.sl 8 tRn (pre ++ rows), η) → g < b → (∀ j, b ≤ j → s.o j = fam (j - b)) →
    (∀ η' : Heads, η' [] = η [] → WkK ⟨s.t, fun j => if b ≤ j then .none else if j = g then (s.o g).putOwn c (.sl 8 tRn (pre ++ l.flatMap encRn)) η' else s.o j⟩ K) → WkK s K
  | [], pre, b, s, η, _, fam, ⟨rfl, hf⟩, ho, hg, hn, hK => by
    have := hK η rfl
    have e : (⟨s.t, fun j => if b ≤ j then Ob.none else if j = g then (s.o g).putOwn c (.sl 8 tRn (pre ++ List.flatMap encRn [])) η else s.o j⟩ : St) = s := by
      have : (fun j => if b ≤ j then Ob.none else if j = g then (s.o g).putOwn c (.sl 8 tRn (pre ++ List.flatMap encRn [])) η else s.o j) = s.o := by
        funext j
        by_cases h1 : b ≤ j
        · rw [if_pos h1, hn j h1, hf]
        · rw [if_neg h1]
          by_cases h2 : j = g
          · subst h2; rw [if_pos rfl]; exact putSame ho
          · rw [if_neg h2]
      rw [this]
    rwa [e] at this
  | r :: l, pre, b, s, η, _, fam, ⟨η5, η7, rows, rfl, h5, h7, f0, f1, hcr⟩, ho, hg, hn, hK => by
    have h8 : (rnV r (η5 []) (η7 [])).length = 8 := rfl
    have hb0 : s.o b = .loose (.sl 2 tEd (r.plan.edges.flatMap encEd)) η5 := by rw [hn b (Nat.le_refl b), Nat.sub_self, f0]; rfl
    have hb1 : s.o (b + 1) = .loose (.sl 4 tTk (r.tasks.flatMap encTk)) η7 := by rw [hn (b + 1) (by omega), Nat.add_sub_cancel_left, f1]; rfl
    refine wk_graftN g c (pre.length + 5) b (η := η) (η2 := η5) (sz := 8) (tyo := tRn) (cs := r.plan.edges.flatMap encEd) ho (by rw [get_app]; rfl) (.inl rfl) hb0 (by omega) fun ηA hA => ?_
    rw [set_app 5 (by rw [List.length_append, h8]; omega), List.set_append_left _ _ (by rw [h8]; omega)]
    have hog : ∀ (x : Ob), (((s.setO b .none).setO g x).o g) = x := fun x => by
      show (if g = g then x else _) = x
      rw [if_pos rfl]
    refine wk_graftN g c (pre.length + 7) (b + 1) (η := ηA) (η2 := η7) (sz := 8) (tyo := tRn) (cs := r.tasks.flatMap encTk) (by rw [hog]; exact ownPut ho) (by rw [get_app]; rfl) (.inl rfl) (by
      show (if b + 1 = g then _ else if b + 1 = b then _ else s.o (b + 1)) = _
      rw [if_neg (by omega), if_neg (by omega)]; exact hb1) (by omega) fun ηB hB => ?_
    rw [hog, putPut, set_app 7 (by rw [List.length_append, List.length_set, h8]; omega), List.set_append_left _ _ (by rw [List.length_set, h8]; omega)]
    have hV : (((rnV r (η5 []) (η7 [])).set 5 (.sl 2 tEd (r.plan.edges.flatMap encEd))).set 7 (.sl 4 tTk (r.tasks.flatMap encTk))) = encRn r := rfl
    rw [hV]
    obtain ⟨s2, hs2⟩ : ∃ s2, (((s.setO b .none).setO g ((s.o g).putOwn c (.sl 8 tRn (pre ++ ((rnV r (η5 []) (η7 [])).set 5 (.sl 2 tEd (r.plan.edges.flatMap encEd)) ++ rows))) ηA)).setO (b + 1) .none).setO g ((s.o g).putOwn c (.sl 8 tRn (pre ++ (encRn r ++ rows))) ηB) = s2 := ⟨_, rfl⟩
    rw [hs2]
    have q0 : s2.o g = (s.o g).putOwn c (.sl 8 tRn (pre ++ (encRn r ++ rows))) ηB := by
      rw [← hs2]
      show (if g = g then _ else _) = _
      rw [if_pos rfl]
    have q3 : ∀ j, j ≠ g → j ≠ b → j ≠ b + 1 → s2.o j = s.o j := fun j n1 n2 n3 => by
      rw [← hs2]
      show (if j = g then _ else if j = b + 1 then _ else if j = g then _ else if j = b then _ else s.o j) = _
      rw [if_neg n1, if_neg n3, if_neg n1, if_neg n2]
    have q1 : s2.o b = .none := by
      rw [← hs2]
      show (if b = g then _ else if b = b + 1 then _ else if b = g then _ else if b = b then _ else s.o b) = _
      rw [if_neg (by omega), if_neg (by omega), if_neg (by omega), if_pos rfl]
    have q2 : s2.o (b + 1) = .none := by
      rw [← hs2]
      show (if b + 1 = g then _ else if b + 1 = b + 1 then _ else _) = _
      rw [if_neg (by omega), if_pos rfl]
    have qt : s2.t = s.t := by rw [← hs2]; rfl
    refine wk_graftAll g c l (pre ++ encRn r) (b + 2) s2 ηB rows _ hcr (by rw [q0, List.append_assoc]; exact ownPut ho) (by omega) (fun j hj => by rw [q3 j (by omega) (by omega) (by omega), hn j (by omega), show j - b = j - (b + 2) + 2 by omega]) fun η' hη => ?_
    have := hK η' (by rw [hη, hB, hA])
    have e : (fun j => if b + 2 ≤ j then Ob.none else if j = g then (s2.o g).putOwn c (.sl 8 tRn (pre ++ encRn r ++ l.flatMap encRn)) η' else s2.o j) = (fun j => if b ≤ j then Ob.none else if j = g then (s.o g).putOwn c (.sl 8 tRn (pre ++ (r :: l).flatMap encRn)) η' else s.o j) := by
      funext j
      by_cases c1 : b + 2 ≤ j
      · rw [if_pos c1, if_pos (by omega)]
      · rw [if_neg c1]
        by_cases c2 : j = b
        · subst c2; rw [if_neg (by omega), if_pos (Nat.le_refl _), q1]
        · by_cases c3 : j = b + 1
          · subst c3; rw [if_neg (by omega), if_pos (by omega), q2]
          · by_cases c4 : j = g
            · subst c4; rw [if_pos rfl, if_neg (by omega), if_pos rfl, q0, putPut, List.append_assoc, List.flatMap_cons]
            · rw [if_neg c4, if_neg (by omega), if_neg c4, q3 j c4 c2 c3]
    rw [qt, e]; exact this
/-- The state in which these alone stand, and a family from b on. -/
def St.ofF (T : List (Nat × AV)) (O : List (Nat × Ob)) (b : Nat) (fam : Nat → Ob) : St := ⟨lkT T, fun j => if b ≤ j then fam (j - b) else lkO O j⟩
theorem ofF_t (T : List (Nat × AV)) (O : List (Nat × Ob)) (b : Nat) (fam : Nat → Ob) (n : Nat) : (St.ofF T O b fam).t n = lkT T n := rfl
theorem ofF_o (T : List (Nat × AV)) (O : List (Nat × Ob)) (b : Nat) (fam : Nat → Ob) (n : Nat) : (St.ofF T O b fam).o n = if b ≤ n then fam (n - b) else lkO O n := rfl
attribute [go_sem] ofF_t ofF_o
theorem wk_ofF {s : St} {T : List (Nat × AV)} {O : List (Nat × Ob)} {b : Nat} {fam : Nat → Ob} (ks : List (Option Nat)) (h : fitT s T ∧ fitO s ks O) (hf : ∀ j, b ≤ j → s.o j = fam (j - b)) (hk : ∀ k ∈ srcs ks, k < b) (hn : apartN (srcs ks) = true := by decide) : Wk s (St.ofF T O b fam) := fun B N w0 w a F hr => by
  have hob := fp_ob hr.ob h.2
  have hdj := fp_dj (ks := ks) (O := O) hr.dj (apartN_spec hn)
  refine ⟨fun j => if b ≤ j then F j else fp F ks O j, ⟨hr.below, hr.hB, hr.df, hr.sz, fit_t hr.sl h.1, fun g => ?_, fun g => ?_, fun g g' hne x hx hx' => ?_⟩, fun g x hx => ?_⟩
  · by_cases c : b ≤ g
    · simp only [St.ofF, if_pos c]; rw [← hf g c]; exact hr.ob g
    · simp only [St.ofF, if_neg c]; exact hob g
  · by_cases c : b ≤ g
    · simp only [if_pos c]; exact hr.fr g
    · simp only [if_neg c]; exact fp_fr hr.fr ks O g
  · by_cases c : b ≤ g
    · simp only [if_pos c] at hx
      by_cases c' : b ≤ g'
      · simp only [if_pos c'] at hx'; exact hr.dj g g' hne x hx hx'
      · simp only [if_neg c'] at hx'
        obtain ⟨k, h1, h2⟩ := fp_src hx'
        exact hr.dj g k (by have := hk k h1; omega) x hx h2
    · simp only [if_neg c] at hx
      by_cases c' : b ≤ g'
      · simp only [if_pos c'] at hx'
        obtain ⟨k, h1, h2⟩ := fp_src hx
        exact hr.dj k g' (by have := hk k h1; omega) x h2 hx'
      · simp only [if_neg c'] at hx'; exact hdj g g' hne x hx hx'
  · by_cases c : b ≤ g
    · simp only [if_pos c] at hx; exact ⟨g, hx⟩
    · simp only [if_neg c] at hx
      obtain ⟨k, _, h2⟩ := fp_src hx
      exact ⟨k, h2⟩
/-- A family named anew (some of it dropped). -/
theorem wk_famRen {s : St} {b : Nat} {fam : Nat → Ob} (ρ : Nat → Nat) (hρ : ∀ i j, ρ i = ρ j → i = j) (hf : ∀ j, b ≤ j → s.o j = fam (j - b)) : Wk s ⟨s.t, fun j => if b ≤ j then fam (ρ (j - b)) else s.o j⟩ := fun B N w0 w a F hr => by
  refine ⟨fun j => if b ≤ j then F (b + ρ (j - b)) else F j, ⟨hr.below, hr.hB, hr.df, hr.sz, hr.sl, fun g => ?_, fun g => ?_, fun g g' hne x hx hx' => ?_⟩, fun g x hx => ?_⟩
  · by_cases c : b ≤ g
    · simp only [if_pos c]
      have := hr.ob (b + ρ (g - b))
      rwa [hf _ (Nat.le_add_right _ _), Nat.add_sub_cancel_left] at this
    · simp only [if_neg c]; exact hr.ob g
  · by_cases c : b ≤ g
    · simp only [if_pos c]; exact hr.fr _
    · simp only [if_neg c]; exact hr.fr g
  · by_cases c : b ≤ g
    · simp only [if_pos c] at hx
      by_cases c' : b ≤ g'
      · simp only [if_pos c'] at hx'
        exact hr.dj _ _ (fun e => hne (by have := hρ _ _ (Nat.add_left_cancel e); omega)) x hx hx'
      · simp only [if_neg c'] at hx'; exact hr.dj _ _ (by omega) x hx hx'
    · simp only [if_neg c] at hx
      by_cases c' : b ≤ g'
      · simp only [if_pos c'] at hx'; exact hr.dj _ _ (by omega) x hx hx'
      · simp only [if_neg c'] at hx'; exact hr.dj _ _ hne x hx hx'
  · by_cases c : b ≤ g
    · simp only [if_pos c] at hx; exact ⟨_, hx⟩
    · simp only [if_neg c] at hx; exact ⟨g, hx⟩
end Go.Proofs.YtnhdcbhcocgjhaaGreat
