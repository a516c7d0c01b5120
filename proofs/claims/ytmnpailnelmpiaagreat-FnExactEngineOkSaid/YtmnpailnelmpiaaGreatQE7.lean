/- Texts for laws: E7. -/
import Derived.Test.YtmnpailnelmpiaaGreatQE6
set_option linter.unusedSimpArgs false
set_option linter.unusedVariables false
namespace Go.Proofs.YtmnpailnelmpiaaGreat
open Go.RowKit Go.Sort
section
variable {P : Program} {β : Nat} {s : St} {Q Q' : Ex → St → Prop}
theorem runL_mono : ∀ {is : List Ins} {s : St} {K K' : St → Prop}, (∀ s, K s → K' s) → runL P β is s K → runL P β is s K'
  | [], _, _, _, h, hk => h _ hk
  | i :: l, s, K, K', h, hk => by
    simp only [runL] at hk ⊢
    split
    · rename_i hw; simp only [hw] at hk; exact run_mono (fun s' => runL_mono h) hk
    · rename_i hw; simp only [hw] at hk; exact runL_mono h hk
    · rename_i hw; simp only [hw] at hk
theorem runT_mono : ∀ {t : T} {l : List (Nat × List Lk)} {s : St} {K K' : St → Prop}, (∀ s, K s → K' s) → runT P β t l s K → runT P β t l s K'
  | .done, _, _, _, _, h, hk => h _ hk
  | .stop, _, _, _, _, _, _ => trivial
  | .pure p i t, l, s, K, K', h, hk => by
    simp only [runT] at hk ⊢
    split
    · rename_i hw; simp only [hw] at hk; exact run_mono (fun s' => runT_mono h) hk
    · rename_i hw; simp only [hw] at hk; exact runT_mono h hk
    · rename_i hw; simp only [hw] at hk
  | .alt i chk t r, l, s, K, K', h, hk => by
    simp only [runT] at hk ⊢
    refine ⟨?_, runT_mono h hk.2⟩
    have hk := hk.1
    split
    · rename_i hw; simp only [hw] at hk; exact run_mono (fun s' ⟨h1, h2⟩ => ⟨h1, runT_mono h h2⟩) hk
    · rename_i hw; simp only [hw] at hk; exact runT_mono h hk
    · rename_i hw; simp only [hw] at hk
theorem thn_mono {n n' : St → Prop} (hn : ∀ s, n s → n' s) (hQ : ∀ e s, Q e s → Q' e s) : ∀ e s, Ex.thn n Q e s → Ex.thn n' Q' e s
  | .normal, _, h => hn _ h
  | .exit _, _, h => hQ _ _ h
  | .ret, _, h => hQ _ _ h
theorem blk_mono {id : Nat} (hQ : ∀ e s, Q e s → Q' e s) : ∀ e s, Ex.inBlk id Q e s → Ex.inBlk id Q' e s
  | .normal, _, h => hQ _ _ h
  | .exit id', _, h => by
    simp only [Ex.inBlk] at h ⊢
    by_cases e : id' = id
    · rw [if_pos e] at h ⊢; exact hQ _ _ h
    · rw [if_neg e] at h ⊢; exact hQ _ _ h
  | .ret, _, h => hQ _ _ h
theorem wpC_mono : ∀ (c : C) {s : St} {Q Q' : Ex → St → Prop}, (∀ e s, Q e s → Q' e s) → wpC P β c Q s → wpC P β c Q' s
  | .skip, _, _, _, h, hk => h _ _ hk
  | .reg _, _, _, _, h, hk => runL_mono (fun _ => h _ _) hk
  | .dreg _, _, _, _, h, hk => runT_mono (fun _ => h _ _) hk
  | .seq a b, s, Q, Q', h, hk => by
    rw [wp_seq_] at hk ⊢
    exact wpC_mono a (thn_mono (fun _ => wpC_mono b h) h) hk
  | .cond x a b, _, _, _, h, ⟨t, h1, h2, h3⟩ => ⟨t, h1, fun ht => wpC_mono a h (h2 ht), fun ht => wpC_mono b h (h3 ht)⟩
  | .blk id a, s, Q, Q', h, hk => by
    rw [wp_blk] at hk ⊢
    exact wpC_mono a (blk_mono h) hk
  | .loop a, _, _, _, h, ⟨ι, mk, J, μ, h1, h2⟩ => ⟨ι, mk, J, μ, h1, fun i hi => wpC_mono a (thn_mono (fun _ h => h) h) (h2 i hi)⟩
  | .gh a, _, _, _, h, hk => fun _ _ _ _ _ _ hr => let ⟨s', F', h1, h2⟩ := hk _ _ _ _ _ _ hr; ⟨s', F', h1, wpC_mono a h h2⟩
  | .exit _, _, _, _, h, hk => h _ _ hk
  | .ret, _, _, _, h, hk => h _ _ hk
theorem Wk.refl (s : St) : Wk s s := fun _ _ _ _ _ F h => ⟨F, h, fun g b hb => ⟨g, hb⟩⟩
theorem wp_loop_ {a : C} {s : St} (J : St → Prop) (μ : St → Nat) (h : J s) (hr : ∀ s, J s → wpC P β a (Ex.thn (fun s' => J s' ∧ μ s' < μ s) Q) s) : wpC P β (.loop a) Q s := by
  refine ⟨St, id, J, μ, ⟨s, h, .refl s⟩, fun s hs => wpC_mono a (thn_mono (fun s' ⟨h1, h2⟩ => ⟨s', h1, .refl s', h2⟩) fun _ _ h => h) (hr s hs)⟩
theorem least {p : Nat → Prop} (h : ∃ n, p n) : ∃ n, p n ∧ ∀ m, p m → n ≤ m := by
  obtain ⟨n, hn⟩ := h
  induction n using Nat.strongRecOn with
  | _ n ih =>
    by_cases hm : ∃ m, m < n ∧ p m
    · obtain ⟨m, h1, h2⟩ := hm
      exact ih m h1 h2
    · exact ⟨n, hn, fun m hp => Nat.le_of_not_lt fun hlt => hm ⟨m, hlt, hp⟩⟩
/-- So many rounds, at most. -/
def rounds (P : Program) (β : Nat) (a : C) (Q : Ex → St → Prop) : Nat → St → Prop
  | 0, _ => False
  | n + 1, s => wpC P β a (Ex.thn (rounds P β a Q n) Q) s
open Classical in
theorem wp_rounds {a : C} {n : Nat} (h : rounds P β a Q n s) : wpC P β (.loop a) Q s := by
  refine wp_loop_ (fun s => ∃ n, rounds P β a Q n s) (fun s => if h : ∃ n, rounds P β a Q n s then Classical.choose (least h) else 0) ⟨n, h⟩ ?_
  intro s hs
  obtain ⟨h1, h0⟩ := Classical.choose_spec (least hs)
  obtain ⟨m, hm⟩ : ∃ m, Classical.choose (least hs) = m + 1 := by
    cases hq : Classical.choose (least hs) with
    | zero => rw [hq] at h1; exact h1.elim
    | succ m => exact ⟨m, rfl⟩
  rw [hm] at h1
  refine wpC_mono _ (thn_mono (fun s' h2 => ⟨⟨m, h2⟩, ?_⟩) fun _ _ h => h) h1
  have h3 : ∃ n, rounds P β a Q n s' := ⟨m, h2⟩
  have h4 := (Classical.choose_spec (least h3)).2 m h2
  simp only [dif_pos hs, dif_pos h3, hm]
  omega
/-- One round first. -/
theorem wp_unroll {a : C} {s : St} (n : Nat) (h : wpC P β a (Ex.thn (rounds P β a Q n) Q) s) : wpC P β (.loop a) Q s := wp_rounds (n := n + 1) h
theorem want_u {t : Nat} {w : Bool} (h : s.t t = .c (.v undef)) : wantA s (some (t, w)) = some false := by
  simp only [wantA, h]
  rfl
theorem run_gu {t : Nat} {w : Bool} {d : Option Nat} {K : St → Prop} (i : I) (l : List Ins) (h : s.t t = .c (.v undef)) : runL P β (⟨d, some (t, w), i⟩ :: l) s K = runL P β l (s.put d (.c (.v undef))) K := by
  simp only [runL, want_u h]
theorem rt_gu {t p : Nat} {w : Bool} {d : Option Nat} {l : List (Nat × List Lk)} {K : St → Prop} (i : I) (t' : T) (h : s.t t = .c (.v undef)) : runT P β (.pure p ⟨d, some (t, w), i⟩ t') l s K = runT P β t' l (s.put d (.c (.v undef))) K := by
  simp only [runT, want_u h]
theorem ra_gu {t : Nat} {w : Bool} {d : Option Nat} {l : List (Nat × List Lk)} {K : St → Prop} (i : I) (chk : List Nat) (t' r : T) (h : s.t t = .c (.v undef)) : runT P β (.alt ⟨d, some (t, w), i⟩ chk t' r) l s K = (runT P β t' l (s.put d (.c (.v undef))) K ∧ runT P β r l s K) := by
  simp only [runT, want_u h]
theorem isD_nil : IsD [] [] = True := by simp [IsD]
theorem isD_v (x : Value) (l : List Cell) (d : D) (ds : List D) : IsD (.a (.v x) :: l) (d :: ds) = ((d = .val x ∨ x = .slice none 0 0 ∧ ∃ size ty, d = .sl size ty []) ∧ IsD l ds) := rfl
theorem isD_val (x : Value) (l : List Cell) (ds : List D) : IsD (.a (.v x) :: l) (.val x :: ds) = IsD l ds := by rw [isD_v]; simp
theorem isD_1 (x u : Value) : IsD [.a (.v x)] [.val u] = (x = u) := by
  rw [isD_v]; simp only [isD_nil]; apply propext
  constructor
  · rintro ⟨h | ⟨_, _, _, h⟩, _⟩
    · cases h; rfl
    · cases h
  · rintro rfl; exact ⟨.inl rfl, trivial⟩
theorem isD_none (l : List Cell) (size : Nat) (ty : TypeId) (ds : List D) : IsD (.a (.v (.slice none 0 0)) :: l) (.sl size ty [] :: ds) = IsD l ds := by rw [isD_v]; simp
theorem isD_own (d d' : D) (η : Heads) (l : List Cell) (ds : List D) : IsD (.own d' η :: l) (d :: ds) = (d' = d ∧ IsD l ds) := rfl
/-- What one slot returns. -/
def retA (s : St) : RT → AV → Prop
  | .c d, .c a => TakeK s [a] fun cs _ => IsD cs [d]
  | .agg ds, .agg l => TakeK s l fun cs _ => IsD cs ds
  | _, _ => False
theorem retA_c (d : D) (a : A0) : retA s (.c d) (.c a) = TakeK s [a] fun cs _ => IsD cs [d] := rfl
theorem retA_agg (ds : List D) (l : List A0) : retA s (.agg ds) (.agg l) = TakeK s l fun cs _ => IsD cs ds := rfl
theorem ret_t (n : Nat) (rt : RT) : RetQ [.t n] rt s = retA s rt (s.t n) := by
  apply propext
  simp only [RetQ, resK]
  cases h : s.t n with
  | c a => cases rt <;> simp [retA, ShapeIs, RT.flat]
  | agg l => cases rt <;> simp [retA, ShapeIs, RT.flat]
  | _ => cases rt <;> simp [retA]
def retCell (s : St) (agg : Bool) (k : Nat) (rt : RT) (a : AV) : Prop := ∃ l, LoadIs s k l a ∧ (agg = true ∨ l.length = 1) ∧ ShapeIs rt [(agg, l)] ∧ TakeK s ([(agg, l)].flatMap (·.2)) fun cs _ => IsD cs rt.flat
theorem ret_cell (n k : Nat) (agg : Bool) (rt : RT) : RetQ [.cell n agg k] rt s = retCell s agg k rt (s.t n) := rfl
theorem retCell_bp (k g c b : Nat) (agg : Bool) (rt : RT) : retCell s agg k rt (.c (.bp g c b)) = ldB (s.o g) g c b k fun l => ldV agg l fun v => retA s rt v := by
  apply propext
  simp only [retCell, LoadIs]
  cases ho : s.o g with
  | box b' ty cs =>
    simp only [ldB, Ob.box.injEq]
    constructor
    · rintro ⟨l, ⟨_, _, ⟨rfl, rfl, rfl⟩, h2, rfl⟩, h3, h4, h5⟩
      refine ⟨rfl, h2, ?_⟩
      cases agg with
      | true => cases rt <;> simp_all [ldV, retA, ShapeIs, RT.flat]
      | false =>
        obtain ⟨a, ha⟩ := List.length_eq_one_iff.1 (by simpa using h3)
        rw [ha] at h4 h5 ⊢
        cases rt <;> simp_all [ldV, retA, ShapeIs, RT.flat]
    · rintro ⟨rfl, h2, h3⟩
      refine ⟨_, ⟨ty, cs, ⟨rfl, rfl, rfl⟩, h2, rfl⟩, ?_⟩
      cases agg with
      | true => cases rt <;> simp_all [ldV, retA, ShapeIs, RT.flat]
      | false =>
        generalize loadC g c ((cs.drop c).take k) = l at h3 ⊢
        match l, h3 with
        | [a], h3 => cases rt <;> simp_all [ldV, retA, ShapeIs, RT.flat]
  | _ => simp [ldB]
theorem ri_r (rs : List R) (K : AV → (Nat → Ob) → Prop) : inlE rs K .ret s = RetI rs K s := rfl
theorem ri_n (rs : List R) (K : AV → (Nat → Ob) → Prop) : inlE rs K .normal s = RetI rs K s := rfl
theorem reti_0 (K : AV → (Nat → Ob) → Prop) : RetI [] K s = K (.tup []) s.o := rfl
theorem start_t (args : List AV) (o : Nat → Ob) (n : Nat) : (St.start args o).t n = (args[n]?).getD .unk := rfl
theorem start_o (args : List AV) (o : Nat → Ob) : (St.start args o).o = o := rfl

end
attribute [go_sem_proc] Int.reduceBEq Int.reduceBNe Nat.reduceBNe Int.reduceAdd Int.reduceSub Int.reduceMul Int.reduceLE Int.reduceLT Int.reduceGE Int.reduceGT Int.reduceTMod Int.reduceTDiv Int.reduceNe Int.reduceNeg Int.reduceToNat Nat.reduceDiv Nat.reduceMod Nat.reducePow Int.reduceNegSucc
attribute [go_sem] Int.cast_ofNat_Int run_gu rt_gu ra_gu isD_nil isD_1 isD_val isD_none isD_own start_t start_o ri_r ri_n reti_0 ret_t ret_cell retCell_bp retA_c retA_agg
end Go.Proofs.YtmnpailnelmpiaaGreat
