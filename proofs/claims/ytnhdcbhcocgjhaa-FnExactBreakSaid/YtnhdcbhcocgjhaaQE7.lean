/- Texts for laws: E7. -/
import Derived.Test.YtnhdcbhcocgjhaaQE6
set_option linter.unusedSimpArgs false
set_option linter.unusedVariables false
namespace Go.Proofs.Ytnhdcbhcocgjhaa
open Go.RowKit Go.Sort
section
variable {P : Program} {β : Nat} {s : St} {Q Q' : Ex → St → Prop}
theorem isD_nil : IsD [] [] = True := by simp [IsD]
theorem isD_v (x : Value) (l : List Cell) (d : D) (ds : List D) : IsD (.a (.v x) :: l) (d :: ds) = ((d = .val x ∨ x = .slice none 0 0 ∧ ∃ size ty, d = .sl size ty []) ∧ IsD l ds) := rfl
theorem isD_val (x : Value) (l : List Cell) (ds : List D) : IsD (.a (.v x) :: l) (.val x :: ds) = IsD l ds := by rw [isD_v]; simp
theorem isD_own (d d' : D) (η : Heads) (l : List Cell) (ds : List D) : IsD (.own d' η :: l) (d :: ds) = (d' = d ∧ IsD l ds) := rfl
/-- What one slot returns. -/
def retA (s : St) : RT → AV → Prop
  | .c d, .c a => TakeK s [a] fun cs _ => IsD cs [d]
  | .agg ds, .agg l => TakeK s l fun cs _ => IsD cs ds
  | _, _ => False
theorem retA_c (d : D) (a : A0) : retA s (.c d) (.c a) = TakeK s [a] fun cs _ => IsD cs [d] := rfl
theorem retA_agg (ds : List D) (l : List A0) : retA s (.agg ds) (.agg l) = TakeK s l fun cs _ => IsD cs ds := rfl
theorem ret_t (n : Nat) (rt : RT) : RetQ [.t n] rt s = retA s rt (s.t n) := by
  apply propext
  simp only [RetQ, resK]
  cases h : s.t n with
  | c a => cases rt <;> simp [retA, ShapeIs, RT.flat]
  | agg l => cases rt <;> simp [retA, ShapeIs, RT.flat]
  | _ => cases rt <;> simp [retA]
def retCell (s : St) (agg : Bool) (k : Nat) (rt : RT) (a : AV) : Prop := ∃ l, LoadIs s k l a ∧ (agg = true ∨ l.length = 1) ∧ ShapeIs rt [(agg, l)] ∧ TakeK s ([(agg, l)].flatMap (·.2)) fun cs _ => IsD cs rt.flat
theorem ret_cell (n k : Nat) (agg : Bool) (rt : RT) : RetQ [.cell n agg k] rt s = retCell s agg k rt (s.t n) := rfl
theorem retCell_bp (k g c b : Nat) (agg : Bool) (rt : RT) : retCell s agg k rt (.c (.bp g c b)) = ldB (s.o g) g c b k fun l => ldV agg l fun v => retA s rt v := by
  apply propext
  simp only [retCell, LoadIs]
  cases ho : s.o g with
  | box b' ty cs =>
    simp only [ldB, Ob.box.injEq]
    constructor
    · rintro ⟨l, ⟨_, _, ⟨rfl, rfl, rfl⟩, h2, rfl⟩, h3, h4, h5⟩
      refine ⟨rfl, h2, ?_⟩
      cases agg with
      | true => cases rt <;> simp_all [ldV, retA, ShapeIs, RT.flat]
      | false =>
        obtain ⟨a, ha⟩ := List.length_eq_one_iff.1 (by simpa using h3)
        rw [ha] at h4 h5 ⊢
        cases rt <;> simp_all [ldV, retA, ShapeIs, RT.flat]
    · rintro ⟨rfl, h2, h3⟩
      refine ⟨_, ⟨ty, cs, ⟨rfl, rfl, rfl⟩, h2, rfl⟩, ?_⟩
      cases agg with
      | true => cases rt <;> simp_all [ldV, retA, ShapeIs, RT.flat]
      | false =>
        generalize loadC g c ((cs.drop c).take k) = l at h3 ⊢
        match l, h3 with
        | [a], h3 => cases rt <;> simp_all [ldV, retA, ShapeIs, RT.flat]
  | _ => simp [ldB]
theorem ri_r (rs : List R) (K : AV → (Nat → Ob) → Prop) : inlE rs K .ret s = RetI rs K s := rfl
def retI (s : St) (K : AV → (Nat → Ob) → Prop) : AV → Prop
  | .c a => K (.c a) s.o
  | .agg l => K (.agg l) s.o
  | _ => False
theorem retI_c (K : AV → (Nat → Ob) → Prop) (a : A0) : retI s K (.c a) = K (.c a) s.o := rfl
theorem reti_t (n : Nat) (K : AV → (Nat → Ob) → Prop) : RetI [.t n] K s = retI s K (s.t n) := by
  simp only [RetI, resK]
  cases h : s.t n <;> simp [retI]
theorem start_t (args : List AV) (o : Nat → Ob) (n : Nat) : (St.start args o).t n = (args[n]?).getD .unk := rfl
theorem start_o (args : List AV) (o : Nat → Ob) : (St.start args o).o = o := rfl

end
attribute [go_sem_proc] Int.reduceBEq Int.reduceBNe Nat.reduceBNe Int.reduceAdd Int.reduceSub Int.reduceMul Int.reduceLE Int.reduceLT Int.reduceGE Int.reduceGT Int.reduceTMod Int.reduceTDiv Int.reduceNe Int.reduceNeg Int.reduceToNat Nat.reduceDiv Nat.reduceMod Nat.reducePow Int.reduceNegSucc
attribute [go_sem] Int.cast_ofNat_Int isD_nil isD_val isD_own start_t start_o ri_r retI_c reti_t ret_t ret_cell retCell_bp retA_c retA_agg
end Go.Proofs.Ytnhdcbhcocgjhaa
