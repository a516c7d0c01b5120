/- The laws' marks: what is written into a result's memory, and read again. -/
import Derived.Test.YtbplebgnkhmemaaLaw
namespace Go.Proofs.Ytbplebgnkhmemaa
open Go.RowKit Go.Sort Go.BigFrame

/-- A cell of an old block stays. -/
theorem ctm {w w1 : World} {b o : Nat} {v : Value} (hB : Below w.heap.size w w1) (h : w.cell? ⟨b, o, none⟩ = some v) : w1.cell? ⟨b, o, none⟩ = some v :=
  (hB.cell (p := ⟨b, o, none⟩) (World.block_lt_of_cell? w _ h)).trans h

/-- The marks of m elements, n numbers each, from k on. -/
def mkR {α : Type} (mk : Int → α) (n : Int) (m : Nat) (k : Int) : List α := (List.range m).map fun (i : Nat) => mk (k + n * (i : Int))
theorem mkR_len {α : Type} (mk : Int → α) (n : Int) (m : Nat) (k : Int) : (mkR mk n m k).length = m := by simp [mkR]
theorem mkR_get {α : Type} (mk : Int → α) (n : Int) (m : Nat) (k : Int) {i : Nat} (h : i < m) : (mkR mk n m k)[i]? = some (mk (k + n * (i : Int))) := by simp [mkR, h]
theorem mkR_get1 {α : Type} (mk : Int → α) (m : Nat) (k : Int) {i : Nat} (h : i < m) : (mkR mk 1 m k)[i]? = some (mk (k + (i : Int))) := by simp [mkR, h]
/-- The first i marked, the others as they were. -/
def mh {α : Type} (m l : List α) (i : Nat) : List α := m.take i ++ l.drop i
theorem mh_zero {α : Type} (m l : List α) : mh m l 0 = l := by simp [mh]
theorem mh_done {α : Type} {m l : List α} (h : m.length = l.length) : mh m l l.length = m := by rw [mh, ← h, List.take_length, h, List.drop_length, List.append_nil]
theorem mh_len {α : Type} {m l : List α} (h : m.length = l.length) (i : Nat) : (mh m l i).length = l.length := by simp only [mh, List.length_append, List.length_take, List.length_drop]; omega
theorem mh_get {α : Type} {m l : List α} (h : m.length = l.length) {i : Nat} {x : α} (hx : l[i]? = some x) : (mh m l i)[i]? = some x := by
  have hi : i < l.length := (List.getElem?_eq_some_iff.1 hx).1
  have e : (m.take i).length = i := by rw [List.length_take]; omega
  rw [mh, List.getElem?_append_right (by omega), e, Nat.sub_self, List.getElem?_drop]
  simpa using hx
theorem mh_set {α : Type} {m l : List α} (h : m.length = l.length) {i : Nat} {y : α} (hy : m[i]? = some y) : (mh m l i).set i y = mh m l (i + 1) := by
  have hi : i < m.length := (List.getElem?_eq_some_iff.1 hy).1
  have e : (m.take i).length = i := by rw [List.length_take]; omega
  rw [mh, mh, List.set_append_right _ _ (by omega), e, Nat.sub_self, List.take_add_one, hy, List.append_assoc, List.drop_eq_getElem_cons (by omega : i < l.length)]
  rfl
theorem set_get {α : Type} {l : List α} {k : Nat} {x y : α} (hx : l[k]? = some x) : (l.set k y)[k]? = some y := by
  have := (List.getElem?_eq_some_iff.1 hx).1
  simp [this]

/-- A cell of an owned row. -/
theorem own_field {α : Type} {enc : α → List D} {w : World} {ty : TypeId} {xs : List α} {S : List Nat} {g n c k size : Nat} (hl : ∀ x, (enc x).length = size) (hs : 0 < size) (h : Rep w true (.sl size ty (xs.flatMap enc)) (.slice (some ⟨g, 0, none⟩) n c) S) (hk : k < xs.length) (j : Nat) (hj : j < size) :
    (∃ u, w.cell? ⟨g, k * size + j, none⟩ = some u) ∧ w.frozen? ⟨g, k * size + j, none⟩ = false := by
  obtain ⟨vs, S1, hown, hrl, rfl⟩ := Rep.own hl hs h
  have hn : n = xs.length := by
    rcases hown.2 with ⟨e, _⟩ | ⟨g', cap', cur, e, _⟩
    · cases e
    · simp only [Value.slice.injEq] at e; exact e.2.1
  subst hn
  have hb : k * size + size ≤ xs.length * size := by rw [← Nat.succ_mul]; exact Nat.mul_le_mul_right _ hk
  have := own_there hown (k * size) size hb j hj
  exact ⟨Option.isSome_iff_exists.1 (by simpa using this.1), by simpa using this.2⟩



def mkEd (k : Int) : Ed := ⟨k, k + 1⟩

set_option maxHeartbeats 2000000 in
theorem markEdgeS_c (l : List Ed) (k : Int) (v : Value) (S : List Nat) (B : Nat) (w : World) (ha : Rep w true (encEds l) v S) (hF : Fresh B S) (h0 : 0 ≤ k) (h1 : k + 2 * (l.length : Int) ≤ 4611686018427387904) :
    Calls Try.prog 111 #[v, .int .i64 k] w fun e w' => e = .returned (.int .i64 (k + 2 * (l.length : Int))) ∧ Rep w' true (encEds (mkR mkEd 2 l.length k)) v S ∧ Only S w w' := by
  obtain ⟨A, c, rfl, hc1, hc2, -⟩ := Rep.open_ (size := 2) (enc := encEd) (fun _ => rfl) (by decide) ha
  unfold maxLen at hc2
  have hl1 : l.length ≤ 4611686018427387904 := by omega
  go_enter Try.func111, Try.ntmps111
  go_wp2
  go_loopw [1, 5] (fun q i wr => ∃ j : Nat, j ≤ l.length ∧ i = .int .i64 j ∧ q = .int .i64 (k + 2 * (j : Int)) ∧ Rep wr true (encEds (mh (mkR mkEd 2 l.length k) l j)) (.slice A l.length c) S ∧ Only S w wr) (fun _ i _ => l.length - (intOf i).toNat)
  case atStart => exact ⟨0, by omega, rfl, by simp, by rw [mh_zero]; exact ha, Only.refl _ _⟩
  case round =>
    obtain ⟨i, hi, rfl, rfl, hrep, hon⟩ := hrel
    by_cases hlt : i < l.length
    · obtain ⟨x, hx⟩ := get_some hlt
      have hmx := mh_get (mkR_len mkEd 2 l.length k) hx
      have HM := Lib.hid hmx
      have HX := Lib.hid hx
      obtain ⟨g, rfl, -, hg1, hg, -⟩ := Rep.head (enc := encEd) (size := 2) (xs := mh (mkR mkEd 2 l.length k) l i) (fun _ => rfl) (by decide) hrep (by rw [mh_len (mkR_len _ _ _ _)]; omega)
      · skip
        obtain ⟨⟨u0, hu0⟩, hz0⟩ := own_field (enc := encEd) (size := 2) (fun _ => rfl) (by decide) hrep (by rw [mh_len (mkR_len _ _ _ _)]; exact hlt) 0 (by decide)
        obtain ⟨⟨u1, hu1⟩, hz1⟩ := own_field (enc := encEd) (size := 2) (fun _ => rfl) (by decide) hrep (by rw [mh_len (mkR_len _ _ _ _)]; exact hlt) 1 (by decide)
        rw [Nat.add_zero] at hu0 hz0
        have HR := Lib.hid hrep
        clear hmx hx
        have hq0 : 0 ≤ k + 2 * (i : Int) := by omega
        have hq1 : k + 2 * (i : Int) ≤ 4611686018427387904 := by omega
        go_wp2
        go_roundw
        case rel =>
          have hmx := HM.out
          obtain ⟨hr1, ho1, -⟩ := Rep.setField (enc := encEd) (size := 2) (fun _ => rfl) (by decide) hrep hmx 0 (by decide) (.int .i64 (k + 2 * (i : Int))) (y := (⟨k + 2 * (i : Int), x.dst⟩ : Ed)) (fun vk Sk h => by obtain ⟨rfl, rfl⟩ := ed_cells h; exact ed_mk _ _ _) hF
          rw [Nat.add_zero] at hr1 ho1
          have hm1 := set_get (y := (⟨k + 2 * (i : Int), x.dst⟩ : Ed)) hmx
          obtain ⟨hr2, ho2, -⟩ := Rep.setField (enc := encEd) (size := 2) (fun _ => rfl) (by decide) hr1 hm1 1 (by decide) (.int .i64 (k + 2 * (i : Int) + 1)) (y := (⟨k + 2 * (i : Int), k + 2 * (i : Int) + 1⟩ : Ed)) (fun vk Sk h => by obtain ⟨rfl, rfl⟩ := ed_cells h; exact ed_mk _ _ _) hF
          have hm2 := set_get (y := (⟨k + 2 * (i : Int), k + 2 * (i : Int) + 1⟩ : Ed)) hm1
          simp only [List.set_set] at hr2
          refine ⟨i + 1, by omega, by go_num, by go_num, ?_, hon.trans ((ho1).trans ho2 (fun t h => .inl h)) (fun t h => .inl (by simp only [List.mem_singleton] at h; subst h; exact hg1))⟩
          rw [← mh_set (mkR_len _ _ _ _) (mkR_get mkEd 2 l.length k hlt)]
          exact hr2
        case measure => simp [intOf]; omega
    · obtain rfl : i = l.length := by omega
      go_wp2
      go_ret
      exact ⟨rfl, by rw [← mh_done (mkR_len mkEd 2 l.length k)]; exact hrep, hon⟩

set_option maxHeartbeats 2000000 in
theorem heldEdgeS_c (m : Nat) (k : Int) (v : Value) (S : List Nat) (w : World) (own : Bool) (ha : Rep w own (encEds (mkR mkEd 2 m k)) v S) (h0 : 0 ≤ k) (h1 : k + 2 * (m : Int) ≤ 4611686018427387904) :
    Calls Try.prog 114 #[v, .int .i64 k] w fun e w' => e = .returned (.int .i64 (k + 2 * (m : Int))) ∧ Below w.heap.size w w' := by
  obtain ⟨A, c, rfl, hc1, hc2, hca⟩ := Rep.open_ (size := 2) (enc := encEd) (fun _ => rfl) (by decide) ha
  rw [mkR_len] at *
  unfold maxLen at hc2
  have hl1 : m ≤ 4611686018427387904 := by omega
  clear ha
  go_enter Try.func114, Try.ntmps114
  go_wp2
  go_loopw [1, 5] (fun q i wr => ∃ j : Nat, j ≤ m ∧ i = .int .i64 j ∧ q = .int .i64 (k + 2 * (j : Int)) ∧ Below w.heap.size w wr) (fun _ i _ => m - (intOf i).toNat)
  case atStart => exact ⟨0, by omega, rfl, by simp, Below.refl _ _⟩
  case round =>
    obtain ⟨i, hi, rfl, rfl, hbel⟩ := hrel
    by_cases hlt : i < m
    · obtain ⟨b1, o1, vk1, T1, rfl, -, hr1, -, -, hb1, hx1⟩ := hca i _ (mkR_get mkEd 2 m k hlt)
      clear hca
      · skip
        obtain ⟨rfl, rfl⟩ := ed_cells hr1
        have p0 := ctm (b := b1) (o := o1 + i * 2) hbel (hx1 0 _ rfl)
        have p1 := ctm (b := b1) (o := o1 + i * 2 + 1) hbel (hx1 1 _ rfl)
        simp only [mkEd] at p0 p1
        clear hx1
        have hq0 : 0 ≤ k + 2 * (i : Int) := by omega
        have hq1 : k + 2 * (i : Int) ≤ 4611686018427387904 := by omega
        go_wp2
        go_roundw
        case rel => exact ⟨i + 1, by omega, by go_num, by go_num, hbel⟩
        case measure => simp [intOf]; omega
    · obtain rfl : i = m := by omega
      clear hca
      go_wp2
      go_ret
      exact ⟨rfl, hbel⟩

def mkEn (k : Int) : En := ⟨k, k + 1, k + 1 + 1, k + 1 + 1 + 1⟩

set_option maxHeartbeats 2000000 in
theorem markEntryS_c (l : List En) (k : Int) (v : Value) (S : List Nat) (B : Nat) (w : World) (ha : Rep w true (encEns l) v S) (hF : Fresh B S) (h0 : 0 ≤ k) (h1 : k + 4 * (l.length : Int) ≤ 4611686018427387904) :
    Calls Try.prog 110 #[v, .int .i64 k] w fun e w' => e = .returned (.int .i64 (k + 4 * (l.length : Int))) ∧ Rep w' true (encEns (mkR mkEn 4 l.length k)) v S ∧ Only S w w' := by
  obtain ⟨A, c, rfl, hc1, hc2, -⟩ := Rep.open_ (size := 4) (enc := encEn) (fun _ => rfl) (by decide) ha
  unfold maxLen at hc2
  have hl1 : l.length ≤ 4611686018427387904 := by omega
  go_enter Try.func110, Try.ntmps110
  go_wp2
  go_loopw [1, 5] (fun q i wr => ∃ j : Nat, j ≤ l.length ∧ i = .int .i64 j ∧ q = .int .i64 (k + 4 * (j : Int)) ∧ Rep wr true (encEns (mh (mkR mkEn 4 l.length k) l j)) (.slice A l.length c) S ∧ Only S w wr) (fun _ i _ => l.length - (intOf i).toNat)
  case atStart => exact ⟨0, by omega, rfl, by simp, by rw [mh_zero]; exact ha, Only.refl _ _⟩
  case round =>
    obtain ⟨i, hi, rfl, rfl, hrep, hon⟩ := hrel
    by_cases hlt : i < l.length
    · obtain ⟨x, hx⟩ := get_some hlt
      have hmx := mh_get (mkR_len mkEn 4 l.length k) hx
      have HM := Lib.hid hmx
      have HX := Lib.hid hx
      obtain ⟨g, rfl, -, hg1, hg, -⟩ := Rep.head (enc := encEn) (size := 4) (xs := mh (mkR mkEn 4 l.length k) l i) (fun _ => rfl) (by decide) hrep (by rw [mh_len (mkR_len _ _ _ _)]; omega)
      · skip
        obtain ⟨⟨u0, hu0⟩, hz0⟩ := own_field (enc := encEn) (size := 4) (fun _ => rfl) (by decide) hrep (by rw [mh_len (mkR_len _ _ _ _)]; exact hlt) 0 (by decide)
        obtain ⟨⟨u1, hu1⟩, hz1⟩ := own_field (enc := encEn) (size := 4) (fun _ => rfl) (by decide) hrep (by rw [mh_len (mkR_len _ _ _ _)]; exact hlt) 1 (by decide)
        obtain ⟨⟨u2, hu2⟩, hz2⟩ := own_field (enc := encEn) (size := 4) (fun _ => rfl) (by decide) hrep (by rw [mh_len (mkR_len _ _ _ _)]; exact hlt) 2 (by decide)
        obtain ⟨⟨u3, hu3⟩, hz3⟩ := own_field (enc := encEn) (size := 4) (fun _ => rfl) (by decide) hrep (by rw [mh_len (mkR_len _ _ _ _)]; exact hlt) 3 (by decide)
        rw [Nat.add_zero] at hu0 hz0
        have HR := Lib.hid hrep
        clear hmx hx
        have hq0 : 0 ≤ k + 4 * (i : Int) := by omega
        have hq1 : k + 4 * (i : Int) ≤ 4611686018427387904 := by omega
        go_wp2
        go_roundw
        case rel =>
          have hmx := HM.out
          obtain ⟨hr1, ho1, -⟩ := Rep.setField (enc := encEn) (size := 4) (fun _ => rfl) (by decide) hrep hmx 0 (by decide) (.int .i64 (k + 4 * (i : Int))) (y := (⟨k + 4 * (i : Int), x.seq, x.run, x.task⟩ : En)) (fun vk Sk h => by obtain ⟨rfl, rfl⟩ := en_cells h; exact en_mk _ _ _) hF
          rw [Nat.add_zero] at hr1 ho1
          have hm1 := set_get (y := (⟨k + 4 * (i : Int), x.seq, x.run, x.task⟩ : En)) hmx
          obtain ⟨hr2, ho2, -⟩ := Rep.setField (enc := encEn) (size := 4) (fun _ => rfl) (by decide) hr1 hm1 1 (by decide) (.int .i64 (k + 4 * (i : Int) + 1)) (y := (⟨k + 4 * (i : Int), k + 4 * (i : Int) + 1, x.run, x.task⟩ : En)) (fun vk Sk h => by obtain ⟨rfl, rfl⟩ := en_cells h; exact en_mk _ _ _) hF
          have hm2 := set_get (y := (⟨k + 4 * (i : Int), k + 4 * (i : Int) + 1, x.run, x.task⟩ : En)) hm1
          obtain ⟨hr3, ho3, -⟩ := Rep.setField (enc := encEn) (size := 4) (fun _ => rfl) (by decide) hr2 hm2 2 (by decide) (.int .i64 (k + 4 * (i : Int) + 1 + 1)) (y := (⟨k + 4 * (i : Int), k + 4 * (i : Int) + 1, k + 4 * (i : Int) + 1 + 1, x.task⟩ : En)) (fun vk Sk h => by obtain ⟨rfl, rfl⟩ := en_cells h; exact en_mk _ _ _) hF
          have hm3 := set_get (y := (⟨k + 4 * (i : Int), k + 4 * (i : Int) + 1, k + 4 * (i : Int) + 1 + 1, x.task⟩ : En)) hm2
          obtain ⟨hr4, ho4, -⟩ := Rep.setField (enc := encEn) (size := 4) (fun _ => rfl) (by decide) hr3 hm3 3 (by decide) (.int .i64 (k + 4 * (i : Int) + 1 + 1 + 1)) (y := (⟨k + 4 * (i : Int), k + 4 * (i : Int) + 1, k + 4 * (i : Int) + 1 + 1, k + 4 * (i : Int) + 1 + 1 + 1⟩ : En)) (fun vk Sk h => by obtain ⟨rfl, rfl⟩ := en_cells h; exact en_mk _ _ _) hF
          have hm4 := set_get (y := (⟨k + 4 * (i : Int), k + 4 * (i : Int) + 1, k + 4 * (i : Int) + 1 + 1, k + 4 * (i : Int) + 1 + 1 + 1⟩ : En)) hm3
          simp only [List.set_set] at hr4
          refine ⟨i + 1, by omega, by go_num, by go_num, ?_, hon.trans ((((ho1).trans ho2 (fun t h => .inl h)).trans ho3 (fun t h => .inl h)).trans ho4 (fun t h => .inl h)) (fun t h => .inl (by simp only [List.mem_singleton] at h; subst h; exact hg1))⟩
          rw [← mh_set (mkR_len _ _ _ _) (mkR_get mkEn 4 l.length k hlt)]
          exact hr4
        case measure => simp [intOf]; omega
    · obtain rfl : i = l.length := by omega
      go_wp2
      go_ret
      exact ⟨rfl, by rw [← mh_done (mkR_len mkEn 4 l.length k)]; exact hrep, hon⟩

set_option maxHeartbeats 2000000 in
theorem heldEntryS_c (m : Nat) (k : Int) (v : Value) (S : List Nat) (w : World) (own : Bool) (ha : Rep w own (encEns (mkR mkEn 4 m k)) v S) (h0 : 0 ≤ k) (h1 : k + 4 * (m : Int) ≤ 4611686018427387904) :
    Calls Try.prog 113 #[v, .int .i64 k] w fun e w' => e = .returned (.int .i64 (k + 4 * (m : Int))) ∧ Below w.heap.size w w' := by
  obtain ⟨A, c, rfl, hc1, hc2, hca⟩ := Rep.open_ (size := 4) (enc := encEn) (fun _ => rfl) (by decide) ha
  rw [mkR_len] at *
  unfold maxLen at hc2
  have hl1 : m ≤ 4611686018427387904 := by omega
  clear ha
  go_enter Try.func113, Try.ntmps113
  go_wp2
  go_loopw [1, 5] (fun q i wr => ∃ j : Nat, j ≤ m ∧ i = .int .i64 j ∧ q = .int .i64 (k + 4 * (j : Int)) ∧ Below w.heap.size w wr) (fun _ i _ => m - (intOf i).toNat)
  case atStart => exact ⟨0, by omega, rfl, by simp, Below.refl _ _⟩
  case round =>
    obtain ⟨i, hi, rfl, rfl, hbel⟩ := hrel
    by_cases hlt : i < m
    · obtain ⟨b1, o1, vk1, T1, rfl, -, hr1, -, -, hb1, hx1⟩ := hca i _ (mkR_get mkEn 4 m k hlt)
      clear hca
      · skip
        obtain ⟨rfl, rfl⟩ := en_cells hr1
        have p0 := ctm (b := b1) (o := o1 + i * 4) hbel (hx1 0 _ rfl)
        have p1 := ctm (b := b1) (o := o1 + i * 4 + 1) hbel (hx1 1 _ rfl)
        have p2 := ctm (b := b1) (o := o1 + i * 4 + 2) hbel (hx1 2 _ rfl)
        have p3 := ctm (b := b1) (o := o1 + i * 4 + 3) hbel (hx1 3 _ rfl)
        simp only [mkEn] at p0 p1 p2 p3
        clear hx1
        have hq0 : 0 ≤ k + 4 * (i : Int) := by omega
        have hq1 : k + 4 * (i : Int) ≤ 4611686018427387904 := by omega
        go_wp2
        go_roundw
        case rel => exact ⟨i + 1, by omega, by go_num, by go_num, hbel⟩
        case measure => simp [intOf]; omega
    · obtain rfl : i = m := by omega
      clear hca
      go_wp2
      go_ret
      exact ⟨rfl, hbel⟩

def mkTk (k : Int) : Tk := ⟨k, k + 1, k + 1 + 1, k + 1 + 1 + 1⟩

set_option maxHeartbeats 2000000 in
theorem markTaskS_c (l : List Tk) (k : Int) (v : Value) (S : List Nat) (B : Nat) (w : World) (ha : Rep w true (encTks l) v S) (hF : Fresh B S) (h0 : 0 ≤ k) (h1 : k + 4 * (l.length : Int) ≤ 4611686018427387904) :
    Calls Try.prog 112 #[v, .int .i64 k] w fun e w' => e = .returned (.int .i64 (k + 4 * (l.length : Int))) ∧ Rep w' true (encTks (mkR mkTk 4 l.length k)) v S ∧ Only S w w' := by
  obtain ⟨A, c, rfl, hc1, hc2, -⟩ := Rep.open_ (size := 4) (enc := encTk) (fun _ => rfl) (by decide) ha
  unfold maxLen at hc2
  have hl1 : l.length ≤ 4611686018427387904 := by omega
  go_enter Try.func112, Try.ntmps112
  go_wp2
  go_loopw [1, 5] (fun q i wr => ∃ j : Nat, j ≤ l.length ∧ i = .int .i64 j ∧ q = .int .i64 (k + 4 * (j : Int)) ∧ Rep wr true (encTks (mh (mkR mkTk 4 l.length k) l j)) (.slice A l.length c) S ∧ Only S w wr) (fun _ i _ => l.length - (intOf i).toNat)
  case atStart => exact ⟨0, by omega, rfl, by simp, by rw [mh_zero]; exact ha, Only.refl _ _⟩
  case round =>
    obtain ⟨i, hi, rfl, rfl, hrep, hon⟩ := hrel
    by_cases hlt : i < l.length
    · obtain ⟨x, hx⟩ := get_some hlt
      have hmx := mh_get (mkR_len mkTk 4 l.length k) hx
      have HM := Lib.hid hmx
      have HX := Lib.hid hx
      obtain ⟨g, rfl, -, hg1, hg, -⟩ := Rep.head (enc := encTk) (size := 4) (xs := mh (mkR mkTk 4 l.length k) l i) (fun _ => rfl) (by decide) hrep (by rw [mh_len (mkR_len _ _ _ _)]; omega)
      · skip
        obtain ⟨⟨u0, hu0⟩, hz0⟩ := own_field (enc := encTk) (size := 4) (fun _ => rfl) (by decide) hrep (by rw [mh_len (mkR_len _ _ _ _)]; exact hlt) 0 (by decide)
        obtain ⟨⟨u1, hu1⟩, hz1⟩ := own_field (enc := encTk) (size := 4) (fun _ => rfl) (by decide) hrep (by rw [mh_len (mkR_len _ _ _ _)]; exact hlt) 1 (by decide)
        obtain ⟨⟨u2, hu2⟩, hz2⟩ := own_field (enc := encTk) (size := 4) (fun _ => rfl) (by decide) hrep (by rw [mh_len (mkR_len _ _ _ _)]; exact hlt) 2 (by decide)
        obtain ⟨⟨u3, hu3⟩, hz3⟩ := own_field (enc := encTk) (size := 4) (fun _ => rfl) (by decide) hrep (by rw [mh_len (mkR_len _ _ _ _)]; exact hlt) 3 (by decide)
        rw [Nat.add_zero] at hu0 hz0
        have HR := Lib.hid hrep
        clear hmx hx
        have hq0 : 0 ≤ k + 4 * (i : Int) := by omega
        have hq1 : k + 4 * (i : Int) ≤ 4611686018427387904 := by omega
        go_wp2
        go_roundw
        case rel =>
          have hmx := HM.out
          obtain ⟨hr1, ho1, -⟩ := Rep.setField (enc := encTk) (size := 4) (fun _ => rfl) (by decide) hrep hmx 0 (by decide) (.int .i64 (k + 4 * (i : Int))) (y := (⟨k + 4 * (i : Int), x.need, x.tri, x.til⟩ : Tk)) (fun vk Sk h => by obtain ⟨rfl, rfl⟩ := tk_cells h; exact tk_mk _ _ _) hF
          rw [Nat.add_zero] at hr1 ho1
          have hm1 := set_get (y := (⟨k + 4 * (i : Int), x.need, x.tri, x.til⟩ : Tk)) hmx
          obtain ⟨hr2, ho2, -⟩ := Rep.setField (enc := encTk) (size := 4) (fun _ => rfl) (by decide) hr1 hm1 1 (by decide) (.int .i64 (k + 4 * (i : Int) + 1)) (y := (⟨k + 4 * (i : Int), k + 4 * (i : Int) + 1, x.tri, x.til⟩ : Tk)) (fun vk Sk h => by obtain ⟨rfl, rfl⟩ := tk_cells h; exact tk_mk _ _ _) hF
          have hm2 := set_get (y := (⟨k + 4 * (i : Int), k + 4 * (i : Int) + 1, x.tri, x.til⟩ : Tk)) hm1
          obtain ⟨hr3, ho3, -⟩ := Rep.setField (enc := encTk) (size := 4) (fun _ => rfl) (by decide) hr2 hm2 2 (by decide) (.int .i64 (k + 4 * (i : Int) + 1 + 1)) (y := (⟨k + 4 * (i : Int), k + 4 * (i : Int) + 1, k + 4 * (i : Int) + 1 + 1, x.til⟩ : Tk)) (fun vk Sk h => by obtain ⟨rfl, rfl⟩ := tk_cells h; exact tk_mk _ _ _) hF
          have hm3 := set_get (y := (⟨k + 4 * (i : Int), k + 4 * (i : Int) + 1, k + 4 * (i : Int) + 1 + 1, x.til⟩ : Tk)) hm2
          obtain ⟨hr4, ho4, -⟩ := Rep.setField (enc := encTk) (size := 4) (fun _ => rfl) (by decide) hr3 hm3 3 (by decide) (.int .i64 (k + 4 * (i : Int) + 1 + 1 + 1)) (y := (⟨k + 4 * (i : Int), k + 4 * (i : Int) + 1, k + 4 * (i : Int) + 1 + 1, k + 4 * (i : Int) + 1 + 1 + 1⟩ : Tk)) (fun vk Sk h => by obtain ⟨rfl, rfl⟩ := tk_cells h; exact tk_mk _ _ _) hF
          have hm4 := set_get (y := (⟨k + 4 * (i : Int), k + 4 * (i : Int) + 1, k + 4 * (i : Int) + 1 + 1, k + 4 * (i : Int) + 1 + 1 + 1⟩ : Tk)) hm3
          simp only [List.set_set] at hr4
          refine ⟨i + 1, by omega, by go_num, by go_num, ?_, hon.trans ((((ho1).trans ho2 (fun t h => .inl h)).trans ho3 (fun t h => .inl h)).trans ho4 (fun t h => .inl h)) (fun t h => .inl (by simp only [List.mem_singleton] at h; subst h; exact hg1))⟩
          rw [← mh_set (mkR_len _ _ _ _) (mkR_get mkTk 4 l.length k hlt)]
          exact hr4
        case measure => simp [intOf]; omega
    · obtain rfl : i = l.length := by omega
      go_wp2
      go_ret
      exact ⟨rfl, by rw [← mh_done (mkR_len mkTk 4 l.length k)]; exact hrep, hon⟩

set_option maxHeartbeats 2000000 in
theorem heldTaskS_c (m : Nat) (k : Int) (v : Value) (S : List Nat) (w : World) (own : Bool) (ha : Rep w own (encTks (mkR mkTk 4 m k)) v S) (h0 : 0 ≤ k) (h1 : k + 4 * (m : Int) ≤ 4611686018427387904) :
    Calls Try.prog 115 #[v, .int .i64 k] w fun e w' => e = .returned (.int .i64 (k + 4 * (m : Int))) ∧ Below w.heap.size w w' := by
  obtain ⟨A, c, rfl, hc1, hc2, hca⟩ := Rep.open_ (size := 4) (enc := encTk) (fun _ => rfl) (by decide) ha
  rw [mkR_len] at *
  unfold maxLen at hc2
  have hl1 : m ≤ 4611686018427387904 := by omega
  clear ha
  go_enter Try.func115, Try.ntmps115
  go_wp2
  go_loopw [1, 5] (fun q i wr => ∃ j : Nat, j ≤ m ∧ i = .int .i64 j ∧ q = .int .i64 (k + 4 * (j : Int)) ∧ Below w.heap.size w wr) (fun _ i _ => m - (intOf i).toNat)
  case atStart => exact ⟨0, by omega, rfl, by simp, Below.refl _ _⟩
  case round =>
    obtain ⟨i, hi, rfl, rfl, hbel⟩ := hrel
    by_cases hlt : i < m
    · obtain ⟨b1, o1, vk1, T1, rfl, -, hr1, -, -, hb1, hx1⟩ := hca i _ (mkR_get mkTk 4 m k hlt)
      clear hca
      · skip
        obtain ⟨rfl, rfl⟩ := tk_cells hr1
        have p0 := ctm (b := b1) (o := o1 + i * 4) hbel (hx1 0 _ rfl)
        have p1 := ctm (b := b1) (o := o1 + i * 4 + 1) hbel (hx1 1 _ rfl)
        have p2 := ctm (b := b1) (o := o1 + i * 4 + 2) hbel (hx1 2 _ rfl)
        have p3 := ctm (b := b1) (o := o1 + i * 4 + 3) hbel (hx1 3 _ rfl)
        simp only [mkTk] at p0 p1 p2 p3
        clear hx1
        have hq0 : 0 ≤ k + 4 * (i : Int) := by omega
        have hq1 : k + 4 * (i : Int) ≤ 4611686018427387904 := by omega
        go_wp2
        go_roundw
        case rel => exact ⟨i + 1, by omega, by go_num, by go_num, hbel⟩
        case measure => simp [intOf]; omega
    · obtain rfl : i = m := by omega
      clear hca
      go_wp2
      go_ret
      exact ⟨rfl, hbel⟩
end Go.Proofs.Ytbplebgnkhmemaa
