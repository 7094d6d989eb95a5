/- If days are told the other way round all is the same of the same days -/
import Derived.Laws.StructEq
import Derived.ChangeKeysEq
import Derived.Laws.Append
import Derived.RangeFuncRecord
import Derived.IntWalk
import Derived.Test.YtihahmggfjjkjaaA01
set_option linter.unusedVariables false
set_option linter.unusedSimpArgs false
namespace Go.AM
def valOf (g : Bool) (us : List Value) : Value := if g then .agg ⟨us⟩ else us.headD undef
theorem eqCells_length : ∀ {ks : List SK} {xs ys : List AV} {b : Bool}, eqCells ks xs ys = some b → xs.length = ks.length ∧ ys.length = ks.length
  | [], xs, ys, b, h => by
    cases xs <;> cases ys <;> simp_all [eqCells]
  | k :: ks, [], ys, b, h => by cases k <;> simp [eqCells] at h
  | k :: ks, x :: xs, [], b, h => by cases k <;> cases x <;> simp [eqCells] at h
  | k :: ks, x :: xs, y :: ys, b, h => by
    cases k <;> cases x <;> cases y <;> simp only [eqCells, reduceCtorEq] at h
    all_goals
      try split at h
      all_goals
        simp only [Option.map_eq_some_iff, reduceCtorEq] at h
    all_goals
      obtain ⟨b', h', _⟩ := h
      obtain ⟨h1, h2⟩ := eqCells_length h'
      simp [h1, h2]
theorem eqCells_split : ∀ {k1 k2 : List SK} {xs ys : List AV} {b : Bool}, eqCells (k1 ++ k2) xs ys = some b →
    ∃ b1 b2, eqCells k1 (xs.take k1.length) (ys.take k1.length) = some b1 ∧ eqCells k2 (xs.drop k1.length) (ys.drop k1.length) = some b2 ∧ b = (b1 && b2)
  | [], k2, xs, ys, b, h => ⟨true, b, by simp [eqCells], by simpa using h, by simp⟩
  | k :: k1, k2, [], ys, b, h => by cases k <;> simp [eqCells] at h
  | k :: k1, k2, x :: xs, [], b, h => by cases k <;> cases x <;> simp [eqCells] at h
  | k :: k1, k2, x :: xs, y :: ys, b, h => by
    simp only [List.cons_append] at h
    cases k <;> cases x <;> cases y <;> simp only [eqCells, reduceCtorEq] at h
    case i.int.int j a l c =>
      split at h
      · rename_i hk
        simp only [Option.map_eq_some_iff] at h
        obtain ⟨b', h', rfl⟩ := h
        obtain ⟨b1, b2, h1, h2, rfl⟩ := eqCells_split h'
        exact ⟨(a == c) && b1, b2, by simp [eqCells, h1, hk], by simpa using h2, by simp [Bool.and_assoc]⟩
      · simp at h
    case b.bool.bool a c =>
      simp only [Option.map_eq_some_iff] at h
      obtain ⟨b', h', rfl⟩ := h
      obtain ⟨b1, b2, h1, h2, rfl⟩ := eqCells_split h'
      exact ⟨(a == c) && b1, b2, by simp [eqCells, h1], by simpa using h2, by simp [Bool.and_assoc]⟩
    case s.str.str a c =>
      simp only [Option.map_eq_some_iff] at h
      obtain ⟨b', h', rfl⟩ := h
      obtain ⟨b1, b2, h1, h2, rfl⟩ := eqCells_split h'
      exact ⟨(a.toList == c.toList) && b1, b2, by simp [eqCells, h1], by simpa using h2, by simp [Bool.and_assoc]⟩
section
variable {P : Program} {m : CM}
theorem cellsOf_eq {t : TypeId} {n : Nat} (h : sizeT P t = some n) : P.cellsOf t = n := by
  simp only [sizeT, Option.map_eq_some_iff] at h
  obtain ⟨i, hi, rfl⟩ := h
  simp [Program.cellsOf, hi]
theorem run_part {w : World} {t : TypeId} {g : Bool} {n off : Nat} {us : List Value} (hg : aggT P t = some g) (hn : sizeT P t = some n) (hle : off + n ≤ us.length) (h1 : g = false → n = 1) :
    (part t ⟨us⟩ off).run P w = .ok (valOf g ((us.drop off).take n)) w := by
  cases g with
  | true =>
    simp only [part, Sem.run_bind, run_isAgg' hg, Result.andThen_ok, if_true, run_sizeOf' hn, valOf]
    simp
  | false =>
    obtain rfl := h1 rfl
    simp only [part, Sem.run_bind, run_isAgg' hg, Result.andThen_ok, Bool.false_eq_true, if_false, valOf]
    have : off < us.length := by omega
    have h2 : (⟨us⟩ : Array Value)[off]? = some us[off] := by simp [this]
    simp only [h2, Sem.run_pure]
    rw [List.drop_eq_getElem_cons this]
    rfl
def Sized (P : Program) (t : TypeId) (ks : List SK) : Prop := sizeT P t = some ks.length ∧ ∃ g, aggT P t = some g ∧ (g = false → ks.length = 1)
theorem kindsFs_length {f : TypeId → Option (List SK)} (hf : ∀ t ks, f t = some ks → Sized P t ks) : ∀ (fs : List Field) (o n : Nat) (l : List SK), kindsFs P f fs o n = some l → o + l.length = n
  | [], o, n, l, h => by
    simp only [kindsFs] at h
    split at h
    · simp at h; subst h; simpa
    · simp at h
  | x :: fs, o, n, l, h => by
    simp only [kindsFs] at h
    split at h
    · rename_i z ks hz hk
      split at h
      · split at h
        · rename_i l' hl'
          simp at h; subst h
          have := kindsFs_length hf fs _ _ _ hl'
          have hs := (hf _ _ hk).1
          rw [hz] at hs
          simp only [Option.some.injEq] at hs
          simp; omega
        · simp at h
      · simp at h
    · simp at h
theorem repeatK_length (ks : List SK) : ∀ n, (repeatK ks n).length = n * ks.length
  | 0 => by simp [repeatK]
  | n + 1 => by simp [repeatK, repeatK_length ks n, Nat.add_mul]; omega
theorem kinds_sized : ∀ (d : Nat) (t : TypeId) (ks : List SK), kindsT P d t = some ks → Sized P t ks
  | 0, t, ks, h => by simp [kindsT] at h
  | d + 1, t, ks, h => by
    unfold kindsT at h
    split at h
    · rename_i h1 h2; simp at h; subst h; exact ⟨h2, false, by simp [aggT, h1], fun _ => rfl⟩
    · rename_i h1 h2; simp at h; subst h; exact ⟨h2, false, by simp [aggT, h1], fun _ => rfl⟩
    · rename_i h1 h2; simp at h; subst h; exact ⟨h2, false, by simp [aggT, h1], fun _ => rfl⟩
    · rename_i fs n h1 h2
      split at h
      · simp at h
      · have := kindsFs_length (kinds_sized d) _ _ _ _ h
        exact ⟨by rw [h2]; congr 1; omega, true, by simp [aggT, h1], fun h => by simp at h⟩
    · rename_i len e n h1 h2
      split at h
      · rename_i z ks' hz hk
        split at h
        · rename_i hn
          simp at h; subst h
          have hs := (kinds_sized d _ _ hk).1
          rw [hz] at hs
          simp only [Option.some.injEq] at hs
          exact ⟨by rw [h2, repeatK_length, hn, hs], true, by simp [aggT, h1], fun h => by simp at h⟩
        · simp at h
      · simp at h
    · simp at h
def EqAtA (P : Program) (D : Nat) (t : TypeId) (ks : List SK) : Prop :=
  ∀ (w : World) (m : CM) (g : Bool) (xs ys : List AV) (us zs : List Value) (b : Bool), aggT P t = some g → VRs m xs us → VRs m ys zs → eqCells ks xs ys = some b →
    (Op.equalIn D t (valOf g us) (valOf g zs)).run P w = .ok b w
theorem run_eqFields_flat {D : Nat} {f : TypeId → Option (List SK)} (hf : ∀ t ks, f t = some ks → EqAtA P D t ks ∧ Sized P t ks) :
    ∀ (fs : List Field) (o n : Nat) (l : List SK), kindsFs P f fs o n = some l → ∀ (w : World) (m : CM) (xs ys : List AV) (us zs : List Value) (b : Bool), VRs m xs us → VRs m ys zs → xs.length = n → ys.length = n → eqCells l (xs.drop o) (ys.drop o) = some b →
      (Op.eqFields D ⟨us⟩ ⟨zs⟩ fs).run P w = .ok b w
  | [], o, n, l, h, w, m, xs, ys, us, zs, b, hx, hy, hl1, hl2, he => by
    simp only [kindsFs] at h
    split at h
    · simp at h; subst h
      have := (eqCells_length he).1
      have h2 := (eqCells_length he).2
      rw [List.length_eq_zero_iff.1 this, List.length_eq_zero_iff.1 h2] at he
      simp [eqCells] at he
      subst he
      simp [Op.eqFields]
    · simp at h
  | x :: fs, o, n, l, h, w, m, xs, ys, us, zs, b, hx, hy, hl1, hl2, he => by
    simp only [kindsFs] at h
    split at h
    · rename_i z ks hz hk
      split at h
      · rename_i hname
        obtain ⟨hname, rfl⟩ := hname
        split at h
        · rename_i l' hl'
          simp at h; subst h
          obtain ⟨heq, hs, g, hg, h1⟩ := hf _ _ hk
          rw [hz] at hs
          simp only [Option.some.injEq] at hs
          subst hs
          obtain ⟨b1, b2, e1, e2, rfl⟩ := eqCells_split he
          rw [List.drop_drop, List.drop_drop] at e2
          have hlen := kindsFs_length (fun t ks h => (hf t ks h).2) _ _ _ _ hl'
          have lu := VRs.length hx
          have lz := VRs.length hy
          have p1 := run_part (P := P) (w := w) (off := x.offset) (us := us) hg hz (by omega) h1
          have p2 := run_part (P := P) (w := w) (off := x.offset) (us := zs) hg hz (by omega) h1
          have p3 := heq w m g _ _ _ _ b1 hg ((hx.drop x.offset).take _) ((hy.drop x.offset).take _) e1
          have ih := run_eqFields_flat hf fs _ _ _ hl' w m xs ys us zs b2 hx hy hl1 hl2 e2
          have hname' : x.name ≠ "_" := by simpa using hname
          simp only [Op.eqFields, ne_eq, hname', not_false_eq_true, if_true, Sem.run_bind, p1, p2, p3, Result.andThen_ok]
          cases b1
          · simp
          · simpa using ih
        · simp at h
      · simp at h
    · simp at h
theorem run_eqItems_flat {D : Nat} {e : TypeId} {ks : List SK} {g : Bool} (heq : EqAtA P D e ks) (hz : sizeT P e = some ks.length) (hg : aggT P e = some g) (h1 : g = false → ks.length = 1) :
    ∀ (len k : Nat) (w : World) (m : CM) (xs ys : List AV) (us zs : List Value) (b : Bool), VRs m xs us → VRs m ys zs → xs.length = (k + len) * ks.length → ys.length = (k + len) * ks.length → eqCells (repeatK ks len) (xs.drop (k * ks.length)) (ys.drop (k * ks.length)) = some b →
      (Op.eqItems D e ks.length ⟨us⟩ ⟨zs⟩ (List.range' k len)).run P w = .ok b w
  | 0, k, w, m, xs, ys, us, zs, b, hx, hy, hl1, hl2, he => by
    rw [List.drop_eq_nil_of_le (by simp at hl1; omega), List.drop_eq_nil_of_le (by simp at hl2; omega)] at he
    simp [repeatK, eqCells] at he
    subst he
    simp [Op.eqItems]
  | len + 1, k, w, m, xs, ys, us, zs, b, hx, hy, hl1, hl2, he => by
    have hk1 : (k + 1) * ks.length = k * ks.length + ks.length := by rw [Nat.add_mul]; omega
    have hmul : (k + (len + 1)) * ks.length = k * ks.length + ks.length + len * ks.length := by rw [Nat.add_mul, Nat.add_mul]; omega
    simp only [repeatK] at he
    obtain ⟨b1, b2, e1, e2, rfl⟩ := eqCells_split he
    rw [List.drop_drop, List.drop_drop, ← hk1] at e2
    have lu := VRs.length hx
    have lz := VRs.length hy
    have p1 := run_part (P := P) (w := w) (off := k * ks.length) (us := us) hg hz (by omega) h1
    have p2 := run_part (P := P) (w := w) (off := k * ks.length) (us := zs) hg hz (by omega) h1
    have p3 := heq w m g _ _ _ _ b1 hg ((hx.drop (k * ks.length)).take _) ((hy.drop (k * ks.length)).take _) e1
    have ih := run_eqItems_flat heq hz hg h1 len (k + 1) w m xs ys us zs b2 hx hy (by rw [hl1]; congr 1; omega) (by rw [hl2]; congr 1; omega) e2
    simp only [List.range'_succ, Op.eqItems, Sem.run_bind, p1, p2, p3, Result.andThen_ok]
    cases b1
    · simp
    · simpa using ih
theorem eq_flat : ∀ (d : Nat) (t : TypeId) (ks : List SK), kindsT P d t = some ks → ∀ D, d ≤ D → EqAtA P D t ks
  | 0, t, ks, h, _, _ => by simp [kindsT] at h
  | d + 1, t, ks, h, D, hD => by
    obtain ⟨D, rfl⟩ : ∃ k, D = k + 1 := ⟨D - 1, by omega⟩
    intro w m g xs ys us zs b hg hx hy he
    have hlen := eqCells_length he
    unfold kindsT at h
    split at h
    · rename_i k h1 h2
      simp at h; subst h
      have : g = false := by simp [aggT, h1] at hg; exact hg
      subst this
      obtain ⟨x, rfl⟩ := List.length_eq_one_iff.1 hlen.1
      obtain ⟨y, rfl⟩ := List.length_eq_one_iff.1 hlen.2
      cases x <;> cases y <;> simp only [eqCells, reduceCtorEq] at he
      rename_i j a l c
      split at he
      · rename_i hk; subst hk
        simp at he; subst he
        cases hx with
        | cons hx t1 => cases t1; cases hy with
          | cons hy t2 => cases t2; cases hx; cases hy; exact run_equalIn_int w D t _ _ _ _ h1
      · simp at he
    · rename_i h1 h2
      simp at h; subst h
      have : g = false := by simp [aggT, h1] at hg; exact hg
      subst this
      obtain ⟨x, rfl⟩ := List.length_eq_one_iff.1 hlen.1
      obtain ⟨y, rfl⟩ := List.length_eq_one_iff.1 hlen.2
      cases x <;> cases y <;> simp only [eqCells, reduceCtorEq] at he
      simp at he; subst he
      cases hx with
      | cons hx t1 => cases t1; cases hy with
        | cons hy t2 => cases t2; cases hx; cases hy; exact run_equalIn_bool' w D t _ _ h1
    · rename_i h1 h2
      simp at h; subst h
      have : g = false := by simp [aggT, h1] at hg; exact hg
      subst this
      obtain ⟨x, rfl⟩ := List.length_eq_one_iff.1 hlen.1
      obtain ⟨y, rfl⟩ := List.length_eq_one_iff.1 hlen.2
      cases x <;> cases y <;> simp only [eqCells, reduceCtorEq] at he
      simp at he; subst he
      cases hx with
      | cons hx t1 => cases t1; cases hy with
        | cons hy t2 => cases t2; cases hx; cases hy; exact run_equalIn_string w D t _ _ h1
    · rename_i fs n h1 h2
      have : g = true := by simp [aggT, h1] at hg; exact hg
      subst this
      split at h
      · simp at h
      · rename_i hst
        have hfo : P.fieldsOf t = fs := by simp [Program.fieldsOf, h1]
        have hn := kindsFs_length (kinds_sized d) _ _ _ _ h
        simp only [valOf, if_true]
        rw [run_equalIn_struct w D t ⟨us⟩ ⟨zs⟩ (by rw [hfo]; exact h1) (by simpa using hst), hfo]
        exact run_eqFields_flat (fun t ks hk => ⟨eq_flat d t ks hk D (by omega), kinds_sized d t ks hk⟩) _ _ _ _ h w m xs ys us zs b hx hy (by omega) (by omega) (by simpa using he)
    · rename_i len e n h1 h2
      have : g = true := by simp [aggT, h1] at hg; exact hg
      subst this
      split at h
      · rename_i z ks' hz hk
        split at h
        · rename_i hn
          simp at h; subst h
          obtain ⟨hs, g, hge, hg1⟩ := kinds_sized d _ _ hk
          have hi : ∃ i, P.info? e = some i := by
            simp only [sizeT, Option.map_eq_some_iff] at hz
            obtain ⟨i, hi, _⟩ := hz
            exact ⟨i, hi⟩
          obtain ⟨i, hi⟩ := hi
          simp only [valOf, if_true]
          rw [run_equalIn_array w D ⟨us⟩ ⟨zs⟩ h1 hi, cellsOf_eq hs, List.range_eq_range']
          rw [repeatK_length] at hlen
          exact run_eqItems_flat (eq_flat d e ks' hk D (by omega)) hs hge hg1 len 0 w m xs ys us zs b hx hy (by simpa using hlen.1) (by simpa using hlen.2) (by simpa using he)
        · simp at h
      · simp at h
    · simp at h
end
end Go.AM
namespace Go.AM
section
variable {P : Program} {m : CM}
theorem eqFlat_run {w : World} {g : Bool} {ks : List SK} {x y : AV} {u z : Value} {b : Bool} {t : TypeId} {d D : Nat} (hk : kindsT P d t = some ks) (hg : aggT P t = some g) (hD : d ≤ D) (hx : VR m x u) (hy : VR m y z) (h : eqFlatA g ks x y = some b) :
    (Op.equalIn D t u z).run P w = .ok b w := by
  have H := eq_flat d t ks hk D hD
  cases g with
  | true =>
    cases hx <;> simp only [eqFlatA, reduceCtorEq] at h
    cases hy <;> simp only [eqFlatA, reduceCtorEq] at h
    rename_i h1 _ _ h2
    exact H w m true _ _ _ _ b hg h1 h2 h
  | false =>
    simp only [eqFlatA] at h
    exact H w m false [x] [y] [u] [z] b hg (.cons hx .nil) (.cons hy .nil) h
def CheckAtA (P : Program) (em : Bool) (D : Nat) (t : TypeId) (n : Nat) : Prop :=
  ∀ (w : World) (g : Bool) (us : List Value), aggT P t = some g → us.length = n → (Instr.checkKey em D t (valOf g us)).run P w = .ok () w
theorem kindsFs_names {P : Program} {f : TypeId → Option (List SK)} : ∀ (fs : List Field) (o n : Nat) (l : List SK), kindsFs P f fs o n = some l → ∀ x ∈ fs, x.name ≠ "_" ∧ (∃ ks z, f x.type = some ks ∧ sizeT P x.type = some z)
  | [], o, n, l, h, x, hx => by simp at hx
  | y :: fs, o, n, l, h, x, hx => by
    simp only [kindsFs] at h
    split at h
    · rename_i z ks hz hk
      split at h
      · rename_i hname
        split at h
        · rename_i l' hl'
          simp only [List.mem_cons] at hx
          rcases hx with rfl | hx
          · exact ⟨by simpa using hname.1, ks, z, hk, hz⟩
          · exact kindsFs_names fs _ _ _ hl' x hx
        · simp at h
      · simp at h
    · simp at h
theorem kindsFs_bounds {P : Program} {f : TypeId → Option (List SK)} (hf : ∀ t ks, f t = some ks → Sized P t ks) : ∀ (fs : List Field) (o n : Nat) (l : List SK), kindsFs P f fs o n = some l → ∀ x ∈ fs, ∀ z, sizeT P x.type = some z → x.offset + z ≤ n
  | [], o, n, l, h, x, hx, z, hz => by simp at hx
  | y :: fs, o, n, l, h, x, hx, z, hz => by
    simp only [kindsFs] at h
    split at h
    · rename_i z' ks hz' hk
      split at h
      · rename_i hname
        split at h
        · rename_i l' hl'
          simp only [List.mem_cons] at hx
          rcases hx with rfl | hx
          · rw [hz'] at hz; obtain rfl := Option.some.inj hz
            have := kindsFs_length hf _ _ _ _ hl'
            have h2 := hname.2
            omega
          · exact kindsFs_bounds hf fs _ _ _ hl' x hx z hz
        · simp at h
      · simp at h
    · simp at h
theorem check_flat {em : Bool} : ∀ (d : Nat) (t : TypeId) (ks : List SK), kindsT P d t = some ks → ∀ D, d ≤ D → CheckAtA P em D t ks.length
  | 0, t, ks, h, _, _ => by simp [kindsT] at h
  | d + 1, t, ks, h, D, hD => by
    obtain ⟨D, rfl⟩ : ∃ k, D = k + 1 := ⟨D - 1, by omega⟩
    intro w g us hg hl
    have hs := kinds_sized (d + 1) t ks h
    unfold kindsT at h
    split at h
    · rename_i k h1 h2
      simp only [Instr.checkKey, Sem.run_bind, run_underlying' h1, Result.andThen_ok, Sem.run_pure]
    · rename_i h1 h2
      simp only [Instr.checkKey, Sem.run_bind, run_underlying' h1, Result.andThen_ok, Sem.run_pure]
    · rename_i h1 h2
      simp only [Instr.checkKey, Sem.run_bind, run_underlying' h1, Result.andThen_ok, Sem.run_pure]
    · rename_i fs n h1 h2
      have : g = true := by simp [aggT, h1] at hg; exact hg
      subst this
      split at h
      · simp at h
      · have hnm := kindsFs_names _ _ _ _ h
        have hbd := kindsFs_bounds (kinds_sized d) _ _ _ _ h
        have hn := kindsFs_length (kinds_sized d) _ _ _ _ h
        simp only [valOf, if_true, Instr.checkKey, Sem.run_bind, run_underlying' h1, Result.andThen_ok]
        rw [← Array.forIn_toList]
        have hall : ∀ x ∈ fs.toList, x.name ≠ "_" ∧ ∃ ks' z g', kindsT P d x.type = some ks' ∧ sizeT P x.type = some z ∧ x.offset + z ≤ us.length ∧ aggT P x.type = some g' ∧ z = ks'.length ∧ (g' = false → z = 1) := fun x hx => by
          obtain ⟨hx1, ks', z, hx2, hx3⟩ := hnm x hx
          have hb := hbd x hx z hx3
          obtain ⟨hs1, g', hg', hg1⟩ := kinds_sized d _ _ hx2
          rw [hx3] at hs1
          simp only [Option.some.injEq] at hs1
          exact ⟨hx1, ks', z, g', hx2, hx3, by omega, hg', hs1, fun h => by rw [hs1]; exact hg1 h⟩
        clear hnm hbd hn
        generalize fs.toList = L at hall
        induction L with
        | nil => simp
        | cons x L ih =>
          obtain ⟨hx1, ks', z, g', hx2, hx3, hb, hg', hs1, hg1⟩ := hall x (by simp)
          have p1 := run_part (P := P) (w := w) (off := x.offset) (us := us) hg' hx3 hb hg1
          have p2 := check_flat (em := em) d _ _ hx2 D (by omega) w g' ((us.drop x.offset).take z) hg' (by simp; omega)
          simp only [List.forIn_cons, Sem.run_bind, hx1, ne_eq, not_false_eq_true, if_true, Result.andThen_ok, p1, p2, Sem.run_pure]
          exact ih (fun y hy => hall y (by simp [hy]))
    · rename_i len e n h1 h2
      have : g = true := by simp [aggT, h1] at hg; exact hg
      subst this
      split at h
      · rename_i z ks' hz hk
        split at h
        · rename_i hn
          simp at h; subst h
          obtain ⟨hs1, g', hg', hg1⟩ := kinds_sized d _ _ hk
          have hi := run_sizeOf' (P := P) (w := w) hs1
          rw [repeatK_length] at hl
          simp only [valOf, if_true, Instr.checkKey, Sem.run_bind, run_underlying' h1, Result.andThen_ok]
          simp only [Std.Legacy.Range.forIn_eq_forIn_range', Std.Legacy.Range.size, Nat.sub_zero, Nat.add_one_sub_one, Nat.div_one]
          have hall : ∀ j ∈ List.range' 0 len, j * ks'.length + ks'.length ≤ us.length := fun j hj => by
            simp only [List.mem_range'_1] at hj
            have : j * ks'.length + ks'.length = (j + 1) * ks'.length := by rw [Nat.add_mul]; omega
            rw [this, hl]
            exact Nat.mul_le_mul_right _ (by omega)
          generalize List.range' 0 len = is at hall
          induction is with
          | nil => simp
          | cons j is ih =>
            have hb := hall j (by simp)
            have p1 := run_part (P := P) (w := w) (off := j * ks'.length) (us := us) hg' hs1 hb hg1
            have p2 := check_flat (em := em) d _ _ hk D (by omega) w g' ((us.drop (j * ks'.length)).take ks'.length) hg' (by simp; omega)
            simp only [List.forIn_cons, Sem.run_bind, hi, Result.andThen_ok, p1, p2, Sem.run_pure]
            exact ih (fun y hy => hall y (by simp [hy]))
        · simp at h
      · simp at h
    · simp at h
theorem beqB (a b : ByteArray) : (a == b) = (a.toList == b.toList) := beq_toListBytes a b
theorem eqFlat_shape {g : Bool} {ks : List SK} {x y : AV} {b : Bool} (h : eqFlatA g ks x y = some b) {u : Value} (hx : VR m x u) : ∃ us, u = valOf g us ∧ us.length = ks.length := by
  cases g with
  | true =>
    cases hx <;> simp only [eqFlatA, reduceCtorEq] at h
    rename_i xs us hv
    cases y <;> simp only [reduceCtorEq] at h
    have := (eqCells_length h).1
    exact ⟨us, rfl, by rw [VRs.length hv, this]⟩
  | false =>
    simp only [eqFlatA] at h
    have := (eqCells_length h).1
    exact ⟨[u], rfl, by simpa using this⟩
theorem sameBits_cells {m : CM} : ∀ {ks : List SK} {xs ys : List AV} {us zs : List Value}, VRs m xs us → VRs m ys zs → eqCells ks xs ys = some true → ∀ n, ((zs.zip us).all fun (x, y) => Instr.sameBits n x y) = true
  | ks, [], ys, us, zs, hx, hy, h, n => by cases hx; cases zs <;> simp
  | [], x :: xs, ys, us, zs, hx, hy, h, n => by simp [eqCells] at h
  | k :: ks, x :: xs, [], us, zs, hx, hy, h, n => by cases k <;> cases x <;> simp [eqCells] at h
  | k :: ks, x :: xs, y :: ys, us, zs, hx, hy, h, n => by
    cases hx with
    | cons hx1 hx2 =>
      cases hy with
      | cons hy1 hy2 =>
        cases k <;> cases x <;> cases y <;> simp only [eqCells, reduceCtorEq] at h
        case i.int.int j a l c =>
          split at h
          · rename_i hk
            simp only [Option.map_eq_some_iff, Bool.and_eq_true, beq_iff_eq] at h
            obtain ⟨b', h', rfl, rfl⟩ := h
            cases hx1; cases hy1
            simp only [List.zip_cons_cons, List.all_cons, sameBits_cells hx2 hy2 h' n, Bool.and_true]
            cases n <;> simp [Instr.sameBits, hk]
          · simp at h
        case b.bool.bool a c =>
          simp only [Option.map_eq_some_iff, Bool.and_eq_true, beq_iff_eq] at h
          obtain ⟨b', h', rfl, rfl⟩ := h
          cases hx1; cases hy1
          simp only [List.zip_cons_cons, List.all_cons, sameBits_cells hx2 hy2 h' n, Bool.and_true]
          cases n <;> simp [Instr.sameBits]
        case s.str.str a c =>
          simp only [Option.map_eq_some_iff, Bool.and_eq_true, beq_iff_eq] at h
          obtain ⟨b', h', h2, rfl⟩ := h
          cases hx1; cases hy1
          simp only [List.zip_cons_cons, List.all_cons, sameBits_cells hx2 hy2 h' n, Bool.and_true]
          cases n <;> simp [Instr.sameBits, beqB, h2]
theorem eqFlat_same {g : Bool} {ks : List SK} {x y : AV} {u z : Value} (hx : VR m x u) (hy : VR m y z) (h : eqFlatA g ks x y = some true) : Instr.sameBits 10000 z u = true := by
  cases g with
  | true =>
    cases hx <;> simp only [eqFlatA, reduceCtorEq] at h
    cases hy <;> simp only [reduceCtorEq] at h
    rename_i h1 _ _ h2
    have l1 := VRs.length h1
    have l2 := VRs.length h2
    have l3 := eqCells_length h
    have := sameBits_cells h1 h2 h 9999
    show Instr.sameBits (9999 + 1) _ _ = true
    simp only [Instr.sameBits, Bool.and_eq_true, beq_iff_eq]
    exact ⟨by simp; omega, this⟩
  | false =>
    simp only [eqFlatA] at h
    have := sameBits_cells (.cons hx .nil) (.cons hy .nil) h 10000
    simpa using this
theorem find_run {kt : TypeId} {d : Nat} {g : Bool} {ks : List SK} (hk : kindsT P d kt = some ks) (hg : aggT P kt = some g) (hd : d ≤ 10000) {k : AV} {kc : Value} (hkc : VR m k kc) {w : World} :
    ∀ {es : List (AV × AV)} {es' : List MapEntry}, MapR m es es' → ∀ (i : Nat) (r : Option AV), findA g ks k es = some r →
      ∃ r', (Instr.findAsking kt kc es' i).run P w = .ok r' w ∧
        (match r, r' with
         | none, none => ∀ v, putA g ks k v es = some (es ++ [(k, v)])
         | some v, some (j, u) => VR m v u ∧ ∃ q k' e, j = i + q ∧ es[q]? = some (k', v) ∧ es'[q]? = some e ∧ eqFlatA g ks k k' = some true ∧ ∀ nv, putA g ks k nv es = some (es.set q (k, nv))
         | _, _ => False)
  | [], es', hm, i, r, h => by
    cases hm
    simp only [findA, Option.some.injEq] at h
    subst h
    exact ⟨none, by simp [Instr.findAsking], fun v => by simp [putA]⟩
  | (k', v') :: es, es', hm, i, r, h => by
    cases hm with
    | cons hk' hv' t =>
      rename_i e es''
      simp only [findA] at h
      cases hq : eqFlatA g ks k k' with
      | none => simp [hq] at h
      | some b =>
        have heq := eqFlat_run (w := w) (D := Op.maxDepth) hk hg hd hkc hk' hq
        cases b with
        | true =>
          simp only [hq, Option.some.injEq] at h
          subst h
          refine ⟨some (i, e.val), ?_, hv', 0, k', e, by omega, rfl, rfl, hq, fun nv => by simp [putA, hq]⟩
          simp only [Instr.findAsking, Op.equal, Sem.run_bind, heq, Result.andThen_ok, if_true, Sem.run_pure]
        | false =>
          simp only [hq] at h
          obtain ⟨r', h1, h2⟩ := find_run hk hg hd hkc (w := w) t (i + 1) r h
          refine ⟨r', ?_, ?_⟩
          · simp only [Instr.findAsking, Op.equal, Sem.run_bind, heq, Result.andThen_ok, Bool.false_eq_true, if_false]
            exact h1
          · cases r with
            | none =>
              cases r' with
              | none => exact fun v => by simp [putA, hq, h2 v]
              | some x => exact h2
            | some v =>
              cases r' with
              | none => exact h2
              | some x =>
                obtain ⟨hv, q, k2, e2, hj, hq1, hq2, hq3, hq4⟩ := h2
                exact ⟨hv, q + 1, k2, e2, by omega, by simpa using hq1, by simpa using hq2, hq3, fun nv => by simp [putA, hq, hq4 nv]⟩
theorem sameNow_run {kt : TypeId} {kd : TypeDesc} (hu : P.underlying kt = some kd) {u z : Value} {b : Bool} (h : Instr.sameNow kd u z = some b) {w : World} : (Op.equal kt u z).run P w = .ok b w := by
  have hD : Op.maxDepth = 9999 + 1 := rfl
  unfold Instr.sameNow at h
  split at h
  · split at h
    · rename_i hk
      simp only [Option.some.injEq] at h
      subst h; subst hk
      unfold Op.equal
      rw [hD]
      exact run_equalIn_int w 9999 kt _ _ _ _ hu
    · simp at h
  · simp only [Option.some.injEq] at h
    subst h
    unfold Op.equal
    rw [hD, beqB]
    exact run_equalIn_string w 9999 kt _ _ hu
  · simp only [Option.some.injEq] at h
    subst h
    unfold Op.equal
    rw [hD]
    exact run_equalIn_bool' w 9999 kt _ _ hu
  · simp at h
theorem findNow_run {kt : TypeId} {kd : TypeDesc} (hu : P.underlying kt = some kd) {kc : Value} {w : World} : ∀ {es : List MapEntry} {i : Nat} {r : Option (Nat × Value)}, Instr.findNow kd kc es i = some r → (Instr.findAsking kt kc es i).run P w = .ok r w
  | [], i, r, h => by
    simp only [Instr.findNow, Option.some.injEq] at h
    subst h; simp [Instr.findAsking]
  | e :: es, i, r, h => by
    simp only [Instr.findNow] at h
    split at h
    · rename_i hs
      simp only [Option.some.injEq] at h
      subst h
      simp only [Instr.findAsking, Sem.run_bind, sameNow_run hu hs, Result.andThen_ok, if_true, Sem.run_pure]
    · rename_i hs
      simp only [Instr.findAsking, Sem.run_bind, sameNow_run hu hs, Result.andThen_ok, Bool.false_eq_true, if_false]
      exact findNow_run hu h
    · simp at h
theorem findKey_run {kt : TypeId} {kc : Value} {es : List MapEntry} {r : Option (Nat × Value)} {w : World} {kd : TypeDesc} (hu : P.underlying kt = some kd) (h : (Instr.findAsking kt kc es 0).run P w = .ok r w) :
    (Instr.findKey kt kc es).run P w = .ok r w := by
  simp only [Instr.findKey, Sem.run_bind, run_underlying' hu, Result.andThen_ok]
  split
  · rename_i r' hr'
    rw [findNow_run hu hr'] at h
    rw [Sem.run_pure]; exact h
  · exact h
theorem kinds_under {d : Nat} {t : TypeId} {ks : List SK} (h : kindsT P d t = some ks) : ∃ kd, P.underlying t = some kd := by
  obtain ⟨_, g, hg, _⟩ := kinds_sized d t ks h
  unfold aggT at hg
  split at hg
  · exact ⟨_, by assumption⟩
  · exact ⟨_, by assumption⟩
  · exact ⟨_, by assumption⟩
  · simp at hg
end
section
variable {P : Program} {base : Array Obj} {m : CM} {H H' : AH} {w : World} {v : AV}
theorem run_getObj_map {r : Nat} {es : Array MapEntry} {clk : Nat} (h : w.heap[r]? = some (.map es clk)) : (getObj r).run P w = .ok (.map es clk) w := by
  simp [getObj, Sem.run, h]
theorem val_lookup {t kt et : TypeId} {d : Nat} {g ok : Bool} {ks : List SK} {zv : Value} {zero x k : AV} {u kc : Value} (hr : Rel P base m H w) (ht : P.underlying t = some (.map kt et)) (hk : kindsT P d kt = some ks) (hg : aggT P kt = some g) (hd : d ≤ 10000)
    (hz : zeroT P et = some zv) (hzv : VR m zero zv) (hx : VR m x u) (hkc : VR m k kc) (h : opLookup g ks zero ok x k H = some (v, H')) : Val P base m H w (Instr.lookup t u kc ok) v H' := by
  obtain ⟨kd, hkd⟩ := kinds_under hk
  unfold opLookup at h
  split at h
  · simp at h
  · rename_i bq hq
    obtain ⟨us, rfl, hul⟩ := eqFlat_shape hq hkc
    have hck : ∀ em w, (Instr.checkKey em 10000 kt (valOf g us)).run P w = .ok () w := fun em w => check_flat d kt ks hk 10000 hd w g us hg hul
    have hfin : ∀ (val : AV) (vc : Value) (okb : Bool), VR m val vc → VR m (if ok then .tuple [val, .bool okb] else val) (if ok = true then .tuple #[vc, .bool okb] else vc) := fun val vc okb hv => by
      cases ok with
      | true => exact .tuple (.cons hv (.cons (.bool okb) .nil))
      | false => exact hv
    cases hx <;> simp only [reduceCtorEq] at h
    · rename_i b c n hb
      split at h
      · rename_i es hes
        obtain ⟨_, h2⟩ := hr.blk b c 0 n hb
        rw [hes] at h2
        obtain ⟨_, _, es', clk, h3, h4⟩ := h2
        cases hf : findA g ks k es with
        | none => simp [hf] at h
        | some r =>
          obtain ⟨r', h5, h6⟩ := find_run hk hg hd hkc (w := w) h4 0 r hf
          have h7 := findKey_run hkd h5
          cases r with
          | none =>
            cases r' with
            | some x => exact h6.elim
            | none =>
              simp only [hf, Option.some.injEq, Prod.mk.injEq] at h
              obtain ⟨rfl, rfl⟩ := h
              refine Val.same hr ?_ (hfin zero zv false hzv)
              simp only [Instr.lookup, Sem.run_bind, run_underlying' ht, Result.andThen_ok, run_getObj_map h3, Sem.run_pure, hck, h7, run_zeroValue' hz]
          | some v' =>
            cases r' with
            | none => exact h6.elim
            | some x =>
              obtain ⟨j, uv⟩ := x
              simp only [hf, Option.some.injEq, Prod.mk.injEq] at h
              obtain ⟨rfl, rfl⟩ := h
              refine Val.same hr ?_ (hfin v' uv true h6.1)
              simp only [Instr.lookup, Sem.run_bind, run_underlying' ht, Result.andThen_ok, run_getObj_map h3, Sem.run_pure, hck, h7]
      · simp at h
    · simp only [Option.some.injEq, Prod.mk.injEq] at h
      obtain ⟨rfl, rfl⟩ := h
      refine Val.same hr ?_ (hfin zero zv false hzv)
      have h7 : (Instr.findKey kt (valOf g us) []).run P w = .ok none w := findKey_run hkd (by simp [Instr.findAsking])
      simp only [Instr.lookup, Sem.run_bind, run_underlying' ht, Result.andThen_ok, Sem.run_pure, hck, h7, run_zeroValue' hz]
theorem MapR.push : ∀ {m : CM} {es : List (AV × AV)} {es' : List MapEntry}, MapR m es es' → ∀ {k v : AV} {e : MapEntry}, VR m k e.key → VR m v e.val → MapR m (es ++ [(k, v)]) (es' ++ [e])
  | _, _, _, .nil, _, _, _, hk, hv => .cons hk hv .nil
  | _, _, _, .cons h1 h2 t, _, _, _, hk, hv => .cons h1 h2 (MapR.push t hk hv)
theorem MapR.set : ∀ {m : CM} {es : List (AV × AV)} {es' : List MapEntry}, MapR m es es' → ∀ (q : Nat) {k v : AV} {e : MapEntry}, VR m k e.key → VR m v e.val → MapR m (es.set q (k, v)) (es'.set q e)
  | _, _, _, .nil, _, _, _, _, hk, hv => by simpa using MapR.nil
  | _, _, _, .cons h1 h2 t, 0, _, _, _, hk, hv => .cons hk hv t
  | _, _, _, .cons h1 h2 t, q + 1, _, _, _, hk, hv => .cons h1 h2 (MapR.set t q hk hv)
theorem MapR.get : ∀ {m : CM} {es : List (AV × AV)} {es' : List MapEntry}, MapR m es es' → ∀ (q : Nat) {k v : AV} {e : MapEntry}, es[q]? = some (k, v) → es'[q]? = some e → VR m k e.key ∧ VR m v e.val
  | _, _, _, .nil, q, _, _, _, h, _ => by simp at h
  | _, _, _, .cons h1 h2 t, 0, _, _, _, h, h' => by
    simp at h h'
    obtain ⟨rfl, rfl⟩ := h
    subst h'
    exact ⟨h1, h2⟩
  | _, _, _, .cons h1 h2 t, q + 1, _, _, _, h, h' => MapR.get t q (by simpa using h) (by simpa using h')
theorem run_setObj {r : Nat} {o o' : Obj} (h : w.heap[r]? = some o) (hc : ∀ a b c, o ≠ .cells a b c) : (setObj r o').run P w = .ok () { w with heap := w.heap.setIfInBounds r o' } := by
  cases o <;> first
    | (simp only [setObj, Sem.run, h]; done)
    | exact absurd rfl (hc _ _ _)
theorem putHeap_get {o : Obj} {c k : Nat} (hk : k ≠ c) : ({ w with heap := w.heap.setIfInBounds c o } : World).heap[k]? = w.heap[k]? := by
  show (w.heap.setIfInBounds c o)[k]? = _
  rw [Array.getElem?_setIfInBounds_ne (fun e => hk e.symm)]
theorem putHeap_same {o : Obj} {c : Nat} (hc : c < w.heap.size) : ({ w with heap := w.heap.setIfInBounds c o } : World).heap[c]? = some o := by
  show (w.heap.setIfInBounds c o)[c]? = _
  simp [hc]
theorem put_find {g : Bool} {ks : List SK} {k y : AV} : ∀ {es es2 : List (AV × AV)}, putA g ks k y es = some es2 → ∃ r, findA g ks k es = some r
  | [], _, _ => ⟨none, rfl⟩
  | (k', v') :: es, es2, h => by
    simp only [putA] at h
    cases hq : eqFlatA g ks k k' with
    | none => simp [hq] at h
    | some b =>
      cases b with
      | true => exact ⟨some v', by simp [findA, hq]⟩
      | false =>
        simp only [hq, Option.map_eq_some_iff] at h
        obtain ⟨l, hl, _⟩ := h
        obtain ⟨r, hr⟩ := put_find hl
        exact ⟨r, by simp [findA, hq, hr]⟩
theorem out_update {t kt et : TypeId} {d : Nat} {g : Bool} {ks : List SK} {x k y : AV} {u kc z : Value} (hr : Rel P base m H w) (ht : P.underlying t = some (.map kt et)) (hk : kindsT P d kt = some ks) (hg : aggT P kt = some g) (hd : d ≤ 10000)
    (hx : VR m x u) (hkc : VR m k kc) (hy : VR m y z) (h : opUpdate g ks x k y H = some (v, H')) : Out P base m H w (do Instr.mapUpdate t u kc z; pure .skip) v H' := by
  obtain ⟨kd, hkd⟩ := kinds_under hk
  cases hx <;> simp only [opUpdate, reduceCtorEq] at h
  rename_i b c n hb
  split at h
  · rename_i hq
    obtain ⟨us, rfl, hul⟩ := eqFlat_shape hq hkc
    have hck : ∀ em w, (Instr.checkKey em 10000 kt (valOf g us)).run P w = .ok () w := fun em w => check_flat d kt ks hk 10000 hd w g us hg hul
    split at h
    · rename_i es hes
      split at h
      · rename_i es2 hput
        simp only [Option.some.injEq, Prod.mk.injEq] at h
        obtain ⟨rfl, rfl⟩ := h
        obtain ⟨hc, h2⟩ := hr.blk b c 0 n hb
        rw [hes] at h2
        obtain ⟨hN, _, es', clk, h3, h4⟩ := h2
        obtain ⟨r, hf⟩ := put_find hput
        obtain ⟨r', h5, h6⟩ := find_run hk hg hd hkc (w := w) h4 0 r hf
        have h7 := findKey_run hkd h5
        have hnc : ∀ a b c, Obj.map es' clk ≠ .cells a b c := fun _ _ _ => by simp
        cases r with
        | none =>
          cases r' with
          | some x => exact h6.elim
          | none =>
            have hp := h6 y
            rw [hput, Option.some.injEq] at hp
            subst hp
            obtain ⟨q1, q2⟩ := hr.turn (w' := { w with heap := w.heap.setIfInBounds c (.map (es'.push { key := valOf g us, val := z, born := clk }) (clk + 1)) }) hb ⟨_, hes, rfl⟩ hN (fun k hk => putHeap_get hk) (by simp) (oA := .map (es ++ [(k, y)]))
              ⟨hN, rfl, _, _, putHeap_same hc, by rw [Array.toList_push]; exact h4.push hkc hy⟩
            refine ⟨.skip, undef, _, m, ?_, .inr ⟨rfl, rfl⟩, .tuple .nil, q1, q2⟩
            simp only [Instr.mapUpdate, Sem.run_bind, run_underlying' ht, Result.andThen_ok, run_getObj_map h3, hck, h7, run_setObj h3 hnc, Sem.run_pure]
        | some v' =>
          cases r' with
          | none => exact h6.elim
          | some x =>
            obtain ⟨j, uv⟩ := x
            obtain ⟨_, q, k', e, hj, hq1, hq2, hq3, hq4⟩ := h6
            have hp := hq4 y
            rw [hput, Option.some.injEq] at hp
            subst hp
            obtain rfl : j = q := by omega
            obtain ⟨hke, hve⟩ := h4.get j hq1 hq2
            have hsame := eqFlat_same hkc hke hq3
            have hq2' : es'[j]? = some e := by simpa using hq2
            have hjlt : j < es'.size := by
              rcases Nat.lt_or_ge j es'.size with h | h
              · exact h
              · simp [Array.getElem?_eq_none h] at hq2'
            have hmod : (es'.modify j fun e => { e with key := valOf g us, val := z }).toList = es'.toList.set j { e with key := valOf g us, val := z } := by
              apply List.ext_getElem?
              intro i
              rw [Array.getElem?_toList, Array.getElem?_modify, List.getElem?_set, Array.getElem?_toList]
              by_cases hij : j = i
              · subst hij
                simp only [if_true, hq2', Option.map_some]
                rw [if_pos (by simpa using hjlt)]
              · simp [hij]
            obtain ⟨q1, q2⟩ := hr.turn (w' := { w with heap := w.heap.setIfInBounds c (.map (es'.modify j fun e => { e with key := valOf g us, val := z }) clk) }) hb ⟨_, hes, rfl⟩ hN (fun k hk => putHeap_get hk) (by simp) (oA := .map (es.set j (k, y)))
              ⟨hN, rfl, _, _, putHeap_same hc, by rw [hmod]; exact h4.set j hkc hy⟩
            refine ⟨.skip, undef, _, m, ?_, .inr ⟨rfl, rfl⟩, .tuple .nil, q1, q2⟩
            have hks : (Instr.keyThatStays e.key (valOf g us)).run P w = .ok (valOf g us) w := by
              simp [Instr.keyThatStays, hsame]
            simp only [Instr.mapUpdate, Sem.run_bind, run_underlying' ht, Result.andThen_ok, run_getObj_map h3, hck, h7, hq2', Option.map_some, Option.getD_some, hks, run_setObj h3 hnc, Sem.run_pure]
      · simp at h
    · simp at h
  · simp at h
end
end Go.AM
namespace Go.AM
section
variable {P : Program} {base : Array Obj} {m : CM} {H H' : AH} {w : World} {nt : Nat} {e : Env} {a : Act} {v : AV}
theorem parts_vr (he : EnvR m e a.tmps) {place : Nat → Option (Nat × Nat)} : ∀ {ps : List (Nat × Operand)} {qs : List (Nat × Nat × AOpd)}, cParts nt place ps = some qs → ∀ {rs : List (Nat × Nat × AV)}, partVals e qs = some rs →
    PartsR m place rs (ps.map fun p => (p.1, a.eval p.2))
  | [], qs, h, rs, h2 => by
    simp [cParts] at h; subst h
    simp [partVals] at h2; subst h2
    exact .nil
  | (i, x) :: ps, qs, h, rs, h2 => by
    simp only [cParts] at h
    split at h
    · rename_i o n y hp hy
      split at h
      · rename_i l hl
        simp at h; subst h
        simp only [partVals] at h2
        split at h2
        · rename_i u hu
          split at h2
          · rename_i us hus
            simp at h2; subst h2
            exact .cons hp (opd_vr he hy hu) (parts_vr he hl hus)
          · simp at h2
        · simp at h2
      · simp at h
    · simp at h
theorem map_pair (ρ : Operand → Value) (ps : Array (Nat × Operand)) : (ps.map fun (i, x) => (i, ρ x)).toList = ps.toList.map fun p => (p.1, ρ p.2) := by
  simp
theorem mapM_places {P : Program} {w : World} : ∀ (fs : List Field), (fs.all fun f => (sizeT P f.type).isSome) = true →
    (fs.mapM fun f => (do pure (f.offset, ← sizeOf f.type) : Sem (Nat × Nat))).run P w = .ok (fs.map fun f => (f.offset, (sizeT P f.type).getD 0)) w
  | [], _ => by simp
  | f :: fs, h => by
    simp only [List.all_cons, Bool.and_eq_true] at h
    obtain ⟨n, hn⟩ := Option.isSome_iff_exists.1 h.1
    rw [List.mapM_cons]
    simp only [Sem.run_bind, run_sizeOf' hn, Result.andThen_ok, Sem.run_pure, mapM_places fs h.2, List.map_cons, hn, Option.getD_some]
theorem val_build_struct {t : TypeId} {fs : Array Field} {zero : List AV} {ps : Array (Nat × Operand)} {qs : List (Nat × Nat × AOpd)} {rs : List (Nat × Nat × AV)} (hr : Rel P base m H w) (he : EnvR m e a.tmps) (ht : P.underlying t = some (.struct fs)) (hz : zeroL P t = some zero)
    (hall : (fs.toList.all fun f => (sizeT P f.type).isSome) = true) (hp : cParts nt (fieldPlaces P fs) ps.toList = some qs) (hv : partVals e qs = some rs) (h : opBuild zero rs H = some (v, H')) :
    Val P base m H w (Instr.build t (ps.map fun (i, x) => (i, a.eval x))) v H' := by
  unfold opBuild at h
  split at h
  · rename_i cs hcs
    simp only [Option.some.injEq, Prod.mk.injEq] at h
    obtain ⟨rfl, rfl⟩ := h
    obtain ⟨zv, h1, h2⟩ := zeroL_vrs (m := m) hz
    have hpr := parts_vr he hp hv
    have hplace : ∀ i, fieldPlaces P fs i = ((fs.toList.map fun f => (f.offset, (sizeT P f.type).getD 0)).toArray)[i]? := fun i => by
      simp only [fieldPlaces]
      cases hi : fs[i]? with
      | none => simp [hi]
      | some f =>
        have hmem : f ∈ fs.toList := by
          have := Array.mem_of_getElem? hi
          simpa using this
        have hs := List.all_eq_true.1 hall f hmem
        obtain ⟨n, hn⟩ := Option.isSome_iff_exists.1 hs
        simp [hi, hn]
    have hpr' : PartsR m (fun i => ((fs.toList.map fun f => (f.offset, (sizeT P f.type).getD 0)).toArray)[i]?) rs (ps.toList.map fun p => (p.1, a.eval p.2)) := by
      have : (fun i => ((fs.toList.map fun f => (f.offset, (sizeT P f.type).getD 0)).toArray)[i]?) = fieldPlaces P fs := funext fun i => (hplace i).symm
      rw [this]; exact hpr
    obtain ⟨arr', h3, h4⟩ := fill_run hpr' h2 hcs
    refine Val.same hr ?_ (.agg h4)
    simp only [Instr.build, Sem.run_bind, run_zeroValue' h1, Result.andThen_ok, run_underlying' ht]
    rw [Array.mapM_eq_mapM_toList]
    simp only [Sem.run_map, mapM_places fs.toList hall, Result.andThen_ok]
    rw [map_pair, h3]
    rfl
  · simp at h
theorem val_build_array {t el : TypeId} {len n : Nat} {zero : List AV} {ps : Array (Nat × Operand)} {qs : List (Nat × Nat × AOpd)} {rs : List (Nat × Nat × AV)} (hr : Rel P base m H w) (he : EnvR m e a.tmps) (ht : P.underlying t = some (.array len el)) (hz : zeroL P t = some zero)
    (hn : sizeT P el = some n) (hp : cParts nt (fun i => some (i * n, n)) ps.toList = some qs) (hv : partVals e qs = some rs) (h : opBuild zero rs H = some (v, H')) :
    Val P base m H w (Instr.build t (ps.map fun (i, x) => (i, a.eval x))) v H' := by
  unfold opBuild at h
  split at h
  · rename_i cs hcs
    simp only [Option.some.injEq, Prod.mk.injEq] at h
    obtain ⟨rfl, rfl⟩ := h
    obtain ⟨zv, h1, h2⟩ := zeroL_vrs (m := m) hz
    have hpr := parts_vr he hp hv
    obtain ⟨arr', h3, h4⟩ := fill_run hpr h2 hcs
    refine Val.same hr ?_ (.agg h4)
    simp only [Instr.build, Sem.run_bind, run_zeroValue' h1, Result.andThen_ok, run_underlying' ht, run_sizeOf' hn]
    rw [map_pair, h3]
    rfl
  · simp at h
theorem repeatL_length (z : List AV) : ∀ n, (repeatL z n).length = n * z.length
  | 0 => by simp [repeatL]
  | n + 1 => by simp [repeatL, repeatL_length z n, Nat.add_mul]; omega
theorem repeatL_get (z : List AV) : ∀ (n i : Nat), i < n * z.length → (repeatL z n)[i]? = z[i % z.length]?
  | 0, i, h => by simp at h
  | n + 1, i, h => by
    have hz : 0 < z.length := by
      rcases Nat.eq_zero_or_pos z.length with h0 | h0
      · rw [h0] at h; simp at h
      · exact h0
    simp only [repeatL]
    by_cases hi : i < z.length
    · rw [List.getElem?_append_left hi, Nat.mod_eq_of_lt hi]
    · rw [List.getElem?_append_right (by omega), repeatL_get z n (i - z.length) (by rw [Nat.add_mul] at h; omega)]
      congr 1
      rw [Nat.mod_eq_sub_mod (by omega : z.length ≤ i)]
theorem zeros_vrs {zero : List AV} {zv : Array Value} {k n : Nat} (hz : VRs m zero zv.toList) (hzl : zero.length = n) (hn : 0 < n) : VRs m (repeatL zero k) ((Array.range (k * n)).map (zv[· % zv.size]!)).toList := by
  have hl := VRs.length hz
  simp only [Array.length_toList] at hl
  refine VRs.of_get (by simp [repeatL_length, hzl]) fun i v hv => ?_
  have hi : i < k * n := by
    rcases Nat.lt_or_ge i (k * n) with h | h
    · exact h
    · rw [List.getElem?_eq_none (by rw [repeatL_length, hzl]; exact h)] at hv; simp at hv
  rw [repeatL_get zero k i (by rw [hzl]; exact hi), hzl] at hv
  obtain ⟨u, h1, h2⟩ := VRs.get hz _ _ hv
  refine ⟨u, ?_, h2⟩
  have hlt : i % n < zv.size := by rw [hl, hzl]; exact Nat.mod_lt _ hn
  simp only [Array.getElem?_toList, Array.getElem?_map, Array.getElem?_range, hi, if_true, Option.map_some]
  have hzs : zv.size = n := by omega
  rw [hzs]
  have h1' : zv[i % n]? = some u := by simpa using h1
  congr 1
  rw [getElem!_pos zv (i % n) hlt]
  rw [Array.getElem?_eq_getElem hlt] at h1'
  exact Option.some.inj h1'
theorem fillA_length : ∀ {ps : List (Nat × Nat × AV)} {zero cs : List AV}, fillA zero ps = some cs → cs.length = zero.length
  | [], zero, cs, h => by simp [fillA] at h; subst h; rfl
  | (o, n, v) :: ps, zero, cs, h => by
    simp only [fillA] at h
    split at h
    · split at h
      · split at h
        · rename_i cells' hw
          rw [fillA_length h, (writeN_length hw).1]
        · simp at h
      · simp at h
    · simp at h
theorem made_mkslice {N : Nat} {t el : TypeId} {len n : Nat} {zero cs : List AV} {ps : Array (Nat × Operand)} {qs : List (Nat × Nat × AOpd)} {rs : List (Nat × Nat × AV)} (hN : N ≤ w.heap.size) (he : EnvR m e a.tmps) (ht : P.underlying t = some (.slice el)) (hz : zeroL P el = some zero)
    (hn : sizeT P el = some n) (hzl : zero.length = n) (hn0 : 0 < n) (hmax : len * n ≤ 2 ^ 24) (hp : cParts nt (fun i => some (i * n, n)) ps.toList = some qs) (hv : partVals e qs = some rs) (hcs : fillA (repeatL zero len) rs = some cs) :
    MadeV P N m w (Instr.buildSlice t len (ps.map fun (i, x) => (i, a.eval x))) (fun b => .slice b 0 len n) (.cells false cs) := by
  obtain ⟨zv, h1, h2⟩ := zeroL_vrs (m := m) hz
  have hpr := parts_vr he hp hv
  have hnot : ¬ (len * n > 2 ^ 24) := by omega
  have go : ∀ za : Array Value, VRs m (repeatL zero len) ((Array.range (len * n)).map (za[· % za.size]!)).toList → ((len * n = 0 ∧ za = #[]) ∨ (len * n ≠ 0 ∧ za = zv.cells)) →
      MadeV P N m w (Instr.buildSlice t len (ps.map fun (i, x) => (i, a.eval x))) (fun b => .slice b 0 len n) (.cells false cs) := fun za h6 h5 => by
    obtain ⟨arr', h3, h4⟩ := fill_run hpr h6 hcs
    obtain ⟨r1, r2⟩ := made_newRow (P := P) (N := N) (w := w) el hN h4
    have hlen : arr'.size = len * n := by
      have := VRs.length h4
      rw [fillA_length hcs, repeatL_length, hzl] at this
      simpa using this
    refine ⟨_, _, _, ?_, fun b m' hm' hb => ⟨(r2 b m' hm' hb).2.1 len n len (Nat.le_refl _) (by rw [hlen]; exact Nat.le_refl _), (r2 b m' hm' hb).2.2⟩⟩
    rcases h5 with ⟨h0, rfl⟩ | ⟨h0, rfl⟩
    · simp only [Instr.buildSlice, Sem.run_bind, run_underlying' ht, Result.andThen_ok, run_sizeOf' hn, h0, if_true, (by decide : ¬ (0 > 2 ^ 24)), if_false, Sem.run_pure]
      rw [h0] at h3
      rw [map_pair, h3]
      simp only [Sem.run_bind, Sem.run_pure, Result.andThen_ok, r1]
    · simp only [Instr.buildSlice, Sem.run_bind, run_underlying' ht, Result.andThen_ok, run_sizeOf' hn, hnot, if_false, h0, run_zeroValue' h1, Sem.run_pure]
      rw [map_pair, h3]
      simp only [Sem.run_bind, Sem.run_pure, Result.andThen_ok, r1]
  by_cases h0 : len * n = 0
  · refine go #[] ?_ (.inl ⟨h0, rfl⟩)
    have : len = 0 := by
      rcases Nat.mul_eq_zero.1 h0 with h | h
      · exact h
      · omega
    subst this
    simp [repeatL]; exact .nil
  · exact go zv.cells (zeros_vrs h2 hzl hn0) (.inr ⟨h0, rfl⟩)
end
end Go.AM
namespace Go.AM
section
variable {P : Program} {base : Array Obj} {m : CM} {H H' : AH} {w : World} {nt : Nat} {e : Env} {a : Act} {v : AV}
theorem guard_quiet {op : BinOp} {t : TypeId} {x y : Operand} {u z : Value} (h : ∀ (_ : u = .nilIface), False) (h2 : ∀ cs, u = .agg cs → P.eqGuardType P.depth t = false) : (eqGuard op t x y u z).run P w = .ok () w := by
  cases u with
  | nilIface => exact absurd rfl (fun e => h e)
  | agg cs => cases z <;> cases op <;> simp [eqGuard, h2 cs rfl]
  | _ => cases op <;> simp [eqGuard]
theorem val_bin {op : BinOp} {t : TypeId} {ox oy : Operand} {x y : AV} {u z : Value} (hr : Rel P base m H w) (hx : VR m x u) (hy : VR m y z) (h : binA op x y = some v) :
    Val P base m H w (do eqGuard op t ox oy u z; binOp op t u z) v H := by
  have hg : (eqGuard op t ox oy u z).run P w = .ok () w := guard_quiet (fun e => by subst e; cases hx; cases hy <;> simp [binA] at h) (fun cs e => by subst e; cases hx; cases hy <;> simp [binA] at h)
  cases hx <;> cases hy <;> simp only [binA, reduceCtorEq] at h
  · rename_i j x k y
    cases op <;> simp only at h
    case shl =>
      split at h
      · simp at h
      · rename_i hb
        simp only [Option.some.injEq] at h; subst h
        exact Val.same hr (by simp only [Sem.run_bind, hg, Result.andThen_ok, binOp, Op.shift, hb, if_false, Sem.run_pure]) (.int _ _)
    case shr =>
      split at h
      · simp at h
      · rename_i hb
        simp only [Option.some.injEq] at h; subst h
        exact Val.same hr (by simp only [Sem.run_bind, hg, Result.andThen_ok, binOp, Op.shift, hb, if_false, Sem.run_pure]) (.int _ _)
    all_goals
      split at h
      · rename_i hk
        subst hk
        first
          | (simp only [Option.some.injEq] at h; subst h; refine Val.same hr ?_ (.int _ _); simp only [Sem.run_bind, hg, Result.andThen_ok, binOp, ne_eq, not_true_eq_false, if_false, Op.intArith, Op.intBits, Sem.run_pure]; done)
          | (simp only [Option.some.injEq] at h; subst h; refine Val.same hr ?_ (.bool _); simp only [Sem.run_bind, hg, Result.andThen_ok, binOp, ne_eq, not_true_eq_false, if_false, Op.intCmp, Sem.run_pure]; done)
          | (split at h
             · simp at h
             · rename_i h0
               simp only [Option.some.injEq] at h; subst h
               refine Val.same hr ?_ (.int _ _)
               simp only [Sem.run_bind, hg, Result.andThen_ok, binOp, ne_eq, not_true_eq_false, if_false, Op.intDiv, h0, Sem.run_pure])
          | (simp at h)
      · simp at h
  · rename_i x y
    cases op <;> simp only [reduceCtorEq] at h
    case add =>
      split at h
      · simp at h
      · rename_i h0
        simp only [Option.some.injEq] at h; subst h
        exact Val.same hr (by simp only [Sem.run_bind, hg, Result.andThen_ok, binOp, Op.stringOp, h0, if_false, Sem.run_pure]) (.str _)
    all_goals
      simp only [Option.some.injEq] at h; subst h
      exact Val.same hr (by simp only [Sem.run_bind, hg, Result.andThen_ok, binOp, Op.stringOp, Sem.run_pure]) (.bool _)
theorem boolOf_eq {neg : Bool} {x : Option Bool} {r : AV × AH} (h : boolOf H neg x = some r) : ∃ t, x = some t ∧ r = (.bool (t != neg), H) := by
  cases x with
  | none => simp [boolOf] at h
  | some t => simp [boolOf] at h; exact ⟨t, rfl, h.symm⟩
theorem eql_shape {op : BinOp} {neg : Bool} (hop : (op = .eql ∧ neg = false) ∨ (op = .neq ∧ neg = true)) {t : TypeId} {u z : Value} {b : Bool} (h1 : ∀ k n, u ≠ .int k n) (h2 : ∀ s, u ≠ .string s) (h3 : ∀ k s, u ≠ .float k s) (h4 : ∀ k s r, u ≠ .complex k s r) (he : (Op.equal t u z).run P w = .ok b w) :
    (binOp op t u z).run P w = .ok (.bool (b != neg)) w := by
  rcases hop with ⟨rfl, rfl⟩ | ⟨rfl, rfl⟩
  · have : binOp .eql t u z = (do pure (.bool (← Op.equal t u z))) := by
      cases u <;> first | rfl | exact absurd rfl (h1 _ _) | exact absurd rfl (h2 _) | exact absurd rfl (h3 _ _) | exact absurd rfl (h4 _ _ _)
    rw [this]
    simp [he]
  · have : binOp .neq t u z = (do pure (.bool (!(← Op.equal t u z)))) := by
      cases u <;> first | rfl | exact absurd rfl (h1 _ _) | exact absurd rfl (h2 _) | exact absurd rfl (h3 _ _) | exact absurd rfl (h4 _ _ _)
    rw [this]
    simp [he]
theorem val_eqFlat {op : BinOp} {neg g : Bool} (hop : (op = .eql ∧ neg = false) ∨ (op = .neq ∧ neg = true)) {t : TypeId} {ks : List SK} {d : Nat} {ox oy : Operand} {x y : AV} {u z : Value} (hr : Rel P base m H w) (hk : kindsT P d t = some ks) (hg : aggT P t = some g) (hd : d ≤ 10000)
    (hgt : g = true → P.eqGuardType P.depth t = false) (hni : g = false → P.underlying t = some .bool) (hx : VR m x u) (hy : VR m y z) (h : boolOf H neg (eqFlatA g ks x y) = some (v, H')) :
    Val P base m H w (do eqGuard op t ox oy u z; binOp op t u z) v H' := by
  obtain ⟨b, hb, h2⟩ := boolOf_eq h
  obtain ⟨rfl, rfl⟩ := Prod.mk.inj h2
  have he : (Op.equal t u z).run P w = .ok b w := eqFlat_run hk hg hd hx hy hb
  cases g with
  | true =>
    cases hx <;> simp only [eqFlatA, reduceCtorEq] at hb
    rename_i xs us hus
    have hgd : (eqGuard op t ox oy (.agg ⟨us⟩) z).run P w = .ok () w := guard_quiet (fun e => by simp at e) (fun cs _ => hgt rfl)
    refine Val.same hr ?_ (.bool _)
    simp only [Sem.run_bind, hgd, Result.andThen_ok]
    exact eql_shape hop (by simp) (by simp) (by simp) (by simp) he
  | false =>
    have hu := hni rfl
    have hbool : ∃ q, u = .bool q := by
      simp only [eqFlatA] at hb
      have hks : ks = [.b] := by
        cases d with
        | zero => simp [kindsT] at hk
        | succ d =>
          unfold kindsT at hk
          rw [hu] at hk
          split at hk <;> simp_all
      subst hks
      cases x <;> cases y <;> simp only [eqCells, reduceCtorEq] at hb
      cases hx
      exact ⟨_, rfl⟩
    obtain ⟨q, rfl⟩ := hbool
    have hgd : (eqGuard op t ox oy (.bool q) z).run P w = .ok () w := guard_quiet (fun e => by simp at e) (fun cs e => by simp at e)
    refine Val.same hr ?_ (.bool _)
    simp only [Sem.run_bind, hgd, Result.andThen_ok]
    exact eql_shape hop (by simp) (by simp) (by simp) (by simp) he
def nkOf : TypeDesc → Option NK
  | .pointer _ => some .ptr
  | .slice _ => some .slice
  | .map _ _ => some .map
  | .func _ _ _ => some .func
  | _ => none
theorem val_eqNil {op : BinOp} {neg : Bool} (hop : (op = .eql ∧ neg = false) ∨ (op = .neq ∧ neg = true)) {t : TypeId} {kd : TypeDesc} {nk : NK} {ox oy : Operand} {x y : AV} {u z : Value} (hr : Rel P base m H w) (ht : P.underlying t = some kd) (hnk : nkOf kd = some nk)
    (hx : VR m x u) (hy : VR m y z) (h : boolOf H neg (eqNilA nk x y) = some (v, H')) :
    Val P base m H w (do eqGuard op t ox oy u z; binOp op t u z) v H' := by
  obtain ⟨b, hb, h2⟩ := boolOf_eq h
  obtain ⟨rfl, rfl⟩ := Prod.mk.inj h2
  have hD : Op.maxDepth = 9999 + 1 := rfl
  have hgd : (eqGuard op t ox oy u z).run P w = .ok () w := guard_quiet (fun e => by subst e; cases hx; cases nk <;> simp [eqNilA] at hb) (fun cs e => by subst e; cases hx; cases nk <;> simp [eqNilA] at hb)
  have key : (Op.equal t u z).run P w = .ok b w ∧ (∀ k n, u ≠ .int k n) ∧ (∀ s, u ≠ .string s) ∧ (∀ k s, u ≠ .float k s) ∧ (∀ k s r, u ≠ .complex k s r) := by
    cases kd <;> simp only [nkOf, reduceCtorEq, Option.some.injEq] at hnk <;> subst hnk
    all_goals
      cases hx <;> simp only [eqNilA, reduceCtorEq] at hb
      all_goals
        cases hy <;> simp only [reduceCtorEq, Option.some.injEq] at hb
        all_goals
          subst hb
          refine ⟨?_, by simp, by simp, by simp, by simp⟩
          unfold Op.equal
          rw [hD]
          generalize 9999 = D
          simp only [Op.equalIn, Sem.run_bind, run_underlying' ht, Result.andThen_ok]
          rfl
  obtain ⟨he, h1, h2, h3, h4⟩ := key
  refine Val.same hr ?_ (.bool _)
  simp only [Sem.run_bind, hgd, Result.andThen_ok]
  exact eql_shape hop h1 h2 h3 h4 he
theorem val_un {op : UnOp} {x : AV} {u : Value} (hr : Rel P base m H w) (hx : VR m x u) (h : opUn op x H = some (v, H')) : Val P base m H w (Op.unary op u) v H' := by
  cases op <;> cases hx <;> simp only [opUn, reduceCtorEq, Option.some.injEq, Prod.mk.injEq] at h
  · obtain ⟨rfl, rfl⟩ := h
    exact Val.same hr (by simp [Op.unary, Op.intArith]) (.int _ _)
  · obtain ⟨rfl, rfl⟩ := h
    exact Val.same hr (by simp [Op.unary]) (.bool _)
theorem val_toInt {src dst : TypeId} {k j : IntKind} {x : AV} {u : Value} (hr : Rel P base m H w) (h1 : P.underlying src = some (.int j)) (h2 : P.underlying dst = some (.int k)) (hx : VR m x u) (h : opToInt k x H = some (v, H')) : Val P base m H w (convert src dst u) v H' := by
  cases hx <;> simp only [opToInt, reduceCtorEq, Option.some.injEq, Prod.mk.injEq] at h
  obtain ⟨rfl, rfl⟩ := h
  exact Val.same hr (by simp [convert, run_underlying' h1, run_underlying' h2, Conv.intToInt]) (.int _ _)
theorem val_strId {src dst : TypeId} {x : AV} {u : Value} (hr : Rel P base m H w) (h1 : P.underlying src = some .string) (h2 : P.underlying dst = some .string) (hx : VR m x u) (h : opStrId x H = some (v, H')) : Val P base m H w (convert src dst u) v H' := by
  cases hx <;> simp only [opStrId, reduceCtorEq, Option.some.injEq, Prod.mk.injEq] at h
  obtain ⟨rfl, rfl⟩ := h
  exact Val.same hr (by simp [convert, run_underlying' h1, run_underlying' h2]) (.str _)
theorem made_makeMap {N : Nat} {t : TypeId} (hN : N ≤ w.heap.size) : MadeV P N m w (Instr.makeMap t none) (fun b => .map b) (.map []) :=
  ⟨.map (some w.heap.size), .map #[] 0, 0, by simp [Instr.makeMap], fun b m' _ hb => ⟨.map hb, hN, rfl, #[], 0, by simp, .nil⟩⟩
theorem natOf_eq {x : AV} {n : Nat} (h : natOf x = some n) : x = .int .i64 n := by
  unfold natOf at h
  split at h
  · split at h
    · rename_i k h0
      simp only [Option.some.injEq] at h
      subst h
      rw [Int.toNat_of_nonneg h0]
    · simp at h
  · simp at h
theorem made_makeSlice {N : Nat} {t el : TypeId} {n by_ l c : Nat} {zero : List AV} {x y : AV} {u z : Value} (hN : N ≤ w.heap.size) (ht : P.underlying t = some (.slice el)) (hn : sizeT P el = some n) (hb : bytesT P el = some by_) (hz : zeroL P el = some zero) (hzl : zero.length = n) (hn0 : 0 < n)
    (hx : VR m x u) (hy : VR m y z) (hl : natOf x = some l) (hc : natOf y = some c) (hlc : l ≤ c) (hcr : c ≤ roomA) (hbc : by_ * c ≤ roomA) : MadeV P N m w (Instr.makeSlice t u z) (fun b => .slice b 0 l n) (.cells false (repeatL zero c)) := by
  rw [natOf_eq hl] at hx
  rw [natOf_eq hc] at hy
  cases hx; cases hy
  obtain ⟨zv, h1, h2⟩ := zeroL_vrs (m := m) hz
  simp only [bytesT, Option.map_eq_some_iff] at hb
  obtain ⟨i, hi, hib⟩ := hb
  have hroom : roomA = 140737488355328 := rfl
  have hw1 : IntKind.i64.wrap (c : Int) = c := by
    simp [IntKind.wrap, IntKind.bits, IntKind.signed]; omega
  have hw2 : IntKind.i64.wrap (l : Int) = l := by
    simp [IntKind.wrap, IntKind.bits, IntKind.signed]; omega
  have hti : (typeInfo el).run P w = .ok i w := run_typeInfo' hi
  have hbc' : (i.bytes : Int) * (c : Int) ≤ 140737488355328 := by
    rw [← Int.natCast_mul, hib]
    exact Int.ofNat_le.2 hbc
  have hbig : (281474976710656 : Int) = 2 ^ 48 := by decide
  have hcond : ((decide ((c : Int) < 0) || decide ((i.bytes : Int) * (c : Int) > 2 ^ 48)) || decide ((l : Int) < 0) || decide ((l : Int) > (c : Int))) = false := by
    rw [← hbig]
    simp only [Bool.or_eq_false_iff, decide_eq_false_iff_not]
    omega
  have go : ∀ za : Array Value, VRs m (repeatL zero c) ((Array.range (c * n)).map (za[· % za.size]!)).toList → ((c * n = 0 ∧ za = #[]) ∨ (c * n ≠ 0 ∧ za = zv.cells)) →
      MadeV P N m w (Instr.makeSlice t (.int .i64 l) (.int .i64 c)) (fun b => .slice b 0 l n) (.cells false (repeatL zero c)) := fun za h6 h5 => by
    obtain ⟨r1, r2⟩ := made_newRow (P := P) (N := N) (w := w) el hN h6
    refine ⟨_, _, _, ?_, fun b m' hm' hb => ⟨(r2 b m' hm' hb).2.1 l n c hlc (by simp), (r2 b m' hm' hb).2.2⟩⟩
    rcases h5 with ⟨h0, rfl⟩ | ⟨h0, rfl⟩
    · rw [h0] at r1 ⊢
      simp only [Instr.makeSlice, Sem.run_bind, run_underlying' ht, Result.andThen_ok, asInt, asIntOf, Sem.run_pure, hti, hw1, hw2, hcond, Bool.false_eq_true, if_false, run_askRoom, run_sizeOf' hn, Int.toNat_natCast, h0, if_true, r1]
    · simp only [Instr.makeSlice, Sem.run_bind, run_underlying' ht, Result.andThen_ok, asInt, asIntOf, Sem.run_pure, hti, hw1, hw2, hcond, Bool.false_eq_true, if_false, run_askRoom, run_sizeOf' hn, Int.toNat_natCast, h0, run_zeroValue' h1, r1]
  by_cases h0 : c * n = 0
  · refine go #[] ?_ (.inl ⟨h0, rfl⟩)
    have : c = 0 := by
      rcases Nat.mul_eq_zero.1 h0 with h | h
      · exact h
      · omega
    subst this
    simp [repeatL]; exact .nil
  · exact go zv.cells (zeros_vrs h2 hzl hn0) (.inr ⟨h0, rfl⟩)
end
end Go.AM
namespace Go.AM
section
variable {P : Program} {base : Array Obj} {m : CM} {H H' : AH} {w : World} {nt : Nat} {e : Env} {a : Act} {v : AV}
theorem asInt_nat {x : AV} {u : Value} {n : Nat} (hx : VR m x u) (h : natOf x = some n) : u = .int .i64 n := by
  rw [natOf_eq h] at hx
  cases hx; rfl
theorem run_sliceBound {n y : Nat} (code : BoundsCode) (h : n ≤ y) : (Instr.sliceBound (.int .i64 n) y code).run P w = .ok n w := by
  have : (0 : Int) ≤ n ∧ (n : Int) ≤ y := ⟨by omega, by omega⟩
  simp only [Instr.sliceBound, asIntOf, Sem.run_bind, Sem.run_pure, Result.andThen_ok, this, and_self, if_true, Int.toNat_natCast]
theorem run_sliceBounds {len cap l h : Nat} {lo hi : Option AV} {ulo uhi : Option Value} (isSl : Bool) (hlo : (lo = none ∧ ulo = none) ∨ ∃ x u, lo = some x ∧ ulo = some u ∧ VR m x u) (hhi : (hi = none ∧ uhi = none) ∨ ∃ x u, hi = some x ∧ uhi = some u ∧ VR m x u)
    (h1 : optNat 0 lo = some l) (h2 : optNat len hi = some h) (hle : l ≤ h) (hc : h ≤ cap) : (Instr.sliceBounds isSl len cap ulo uhi none).run P w = .ok (l, h, cap) w := by
  simp only [Instr.sliceBounds]
  simp only [Sem.run_bind, Sem.run_pure, Result.andThen_ok]
  rcases hhi with ⟨rfl, rfl⟩ | ⟨x, u, rfl, rfl, hx⟩
  · simp only [optNat, Option.some.injEq] at h2
    subst h2
    rcases hlo with ⟨rfl, rfl⟩ | ⟨x, u, rfl, rfl, hx⟩
    · simp only [optNat, Option.some.injEq] at h1
      subst h1
      simp
    · simp only [optNat] at h1
      obtain rfl := asInt_nat hx h1
      simp [run_sliceBound _ hle]
  · simp only [optNat] at h2
    obtain rfl := asInt_nat hx h2
    rcases hlo with ⟨rfl, rfl⟩ | ⟨x, u, rfl, rfl, hx⟩
    · simp only [optNat, Option.some.injEq] at h1
      subst h1
      simp [run_sliceBound _ hc]
    · simp only [optNat] at h1
      obtain rfl := asInt_nat hx h1
      simp [run_sliceBound _ hle, run_sliceBound _ hc]
theorem val_sliceStr {t : TypeId} {x : AV} {u : Value} {lo hi : Option AV} {ulo uhi : Option Value} (hr : Rel P base m H w) (ht : P.underlying t = some .string) (hx : VR m x u) (hlo : (lo = none ∧ ulo = none) ∨ ∃ x u, lo = some x ∧ ulo = some u ∧ VR m x u)
    (hhi : (hi = none ∧ uhi = none) ∨ ∃ x u, hi = some x ∧ uhi = some u ∧ VR m x u) (h : opSliceStr x lo hi H = some (v, H')) : Val P base m H w (Instr.sliceAt t u ulo uhi none) v H' := by
  cases hx <;> simp only [opSliceStr, reduceCtorEq] at h
  rename_i s
  split at h
  · rename_i l h' h1 h2
    split at h
    · rename_i hc
      simp only [Option.some.injEq, Prod.mk.injEq] at h
      obtain ⟨rfl, rfl⟩ := h
      refine Val.same hr ?_ (.str _)
      have := run_sliceBounds (P := P) (w := w) false hlo hhi h1 h2 hc.1 hc.2
      simp only [Instr.sliceAt, Instr.slice, Sem.run_bind, run_underlying' ht, Result.andThen_ok, this, Sem.run_pure, Option.isSome_none, Bool.false_eq_true, if_false]
    · simp at h
  · simp at h
theorem val_sliceSl {t el : TypeId} {n : Nat} {x : AV} {u : Value} {lo hi : Option AV} {ulo uhi : Option Value} (hr : Rel P base m H w) (ht : P.underlying t = some (.slice el)) (hn : sizeT P el = some n) (hx : VR m x u) (hlo : (lo = none ∧ ulo = none) ∨ ∃ x u, lo = some x ∧ ulo = some u ∧ VR m x u)
    (hhi : (hi = none ∧ uhi = none) ∨ ∃ x u, hi = some x ∧ uhi = some u ∧ VR m x u) (h : opSliceSl n x lo hi H = some (v, H')) : Val P base m H w (Instr.sliceAt t u ulo uhi none) v H' := by
  have fin : ∀ (len cap l h' : Nat) (ad : Option Addr), optNat 0 lo = some l → optNat len hi = some h' → l ≤ h' → h' ≤ cap →
      (Instr.sliceAt t (.slice ad len cap) ulo uhi none).run P w = .ok (.slice (if cap = l then ad else ad.map (·.add (l * n))) (h' - l) (cap - l)) w := fun len cap l h' ad h1 h2 h3 h4 => by
    have := run_sliceBounds (P := P) (w := w) true hlo hhi h1 h2 h3 h4
    simp only [Instr.sliceAt, Instr.slice, Sem.run_bind, run_underlying' ht, Result.andThen_ok, this, Sem.run_pure, run_sizeOf' hn]
  cases hx <;> simp only [opSliceSl, reduceCtorEq] at h
  · rename_i b i len sz c o n' cap hb hl hc
    split at h
    · rename_i l h' h1 h2
      split at h
      · rename_i hcond
        obtain ⟨rfl, h3, h4⟩ := hcond
        simp only [Option.some.injEq, Prod.mk.injEq] at h
        obtain ⟨rfl, rfl⟩ := h
        refine Val.same hr (fin len cap l h' _ h1 h2 h3 (by omega)) ?_
        by_cases hcl : cap = l
        · rw [if_pos hcl, show h' - l = 0 from by omega, show cap - l = 0 from by omega]
          exact .slice0 _ hb
        · rw [if_neg hcl]
          simp only [Option.map_some, addr_add]
          rw [show o + i + l * sz = o + (i + l * sz) from by omega]
          refine .slice hb (by omega) ?_
          have : cap * sz = l * sz + (cap - l) * sz := by rw [← Nat.add_mul]; congr 1; omega
          omega
      · simp at h
    · simp at h
  · rename_i b i sz x' ad hb
    split at h
    · rename_i l h' h1 h2
      split at h
      · rename_i hcond
        obtain ⟨rfl, h3, h4⟩ := hcond
        simp only [Option.some.injEq, Prod.mk.injEq] at h
        obtain ⟨rfl, rfl⟩ := h
        refine Val.same hr (fin 0 0 l h' _ h1 h2 h3 h4) ?_
        have : l = 0 := by omega
        subst this
        rw [if_pos rfl, show h' - 0 = 0 from by omega]
        exact .slice0 _ hb
      · simp at h
    · simp at h
  · split at h
    · rename_i h1 h2
      simp only [Option.some.injEq, Prod.mk.injEq] at h
      obtain ⟨rfl, rfl⟩ := h
      refine Val.same hr (fin 0 0 0 0 _ h1 h2 (by omega) (by omega)) ?_
      rw [if_pos rfl]
      exact .nilslice
    · simp at h
theorem val_sliceArr {t el : TypeId} {len n : Nat} {x : AV} {u : Value} {lo hi : Option AV} {ulo uhi : Option Value} (hr : Rel P base m H w) (ht : P.underlying t = some (.array len el)) (hn : sizeT P el = some n) (hx : VR m x u) (hlo : (lo = none ∧ ulo = none) ∨ ∃ x u, lo = some x ∧ ulo = some u ∧ VR m x u)
    (hhi : (hi = none ∧ uhi = none) ∨ ∃ x u, hi = some x ∧ uhi = some u ∧ VR m x u) (h : opSliceArr len n x lo hi H = some (v, H')) : Val P base m H w (Instr.sliceAt t u ulo uhi none) v H' := by
  cases hx <;> simp only [opSliceArr, reduceCtorEq] at h
  rename_i b i c o n' hb
  split at h
  · rename_i l h' h1 h2
    split at h
    · rename_i vs hg
      split at h
      · rename_i hcond
        obtain ⟨h3, h4, h5⟩ := hcond
        simp only [Option.some.injEq, Prod.mk.injEq] at h
        obtain ⟨rfl, rfl⟩ := h
        obtain ⟨_, h6⟩ := hr.blk b c o n' hb
        rw [hg] at h6
        obtain ⟨_, arr, e', lo', hi', _, h7, _, h8, _⟩ := h6
        have hb2 := run_sliceBounds (P := P) (w := w) false hlo hhi h1 h2 h3 h4
        refine Val.same hr (u := .slice (some (if len = l then (⟨c, o + i, none⟩ : Addr) else (⟨c, o + i, none⟩ : Addr).add (l * n))) (h' - l) (len - l)) ?_ ?_
        · simp only [Instr.sliceAt, Instr.sureAddr, Sem.run_bind, run_underlying' ht, Result.andThen_ok, hb2, Sem.run_pure, run_sizeOf' hn]
        · by_cases hcl : len = l
          · rw [if_pos hcl, show h' - l = 0 from by omega, show len - l = 0 from by omega]
            exact .slice0 _ hb
          · rw [if_neg hcl, addr_add, show o + i + l * n = o + (i + l * n) from by omega]
            refine .slice hb (by omega) ?_
            have : len * n = l * n + (len - l) * n := by rw [← Nat.add_mul]; congr 1; omega
            omega
      · simp at h
    · simp at h
  · simp at h
theorem val_off {t : TypeId} {fs : Array Field} {f : Field} {k n : Nat} {x : AV} {u : Value} (hr : Rel P base m H w) (ht : P.underlying t = some (.struct fs)) (hf : fs[k]? = some f) (hn : sizeT P f.type = some n) (hn0 : n ≠ 0) (hx : VR m x u) (h : opOff f.offset x H = some (v, H')) :
    Val P base m H w (Instr.fieldAt t u k) v H' := by
  cases hx <;> simp only [opOff, reduceCtorEq, Option.some.injEq, Prod.mk.injEq] at h
  rename_i b i c o n' hb
  obtain ⟨rfl, rfl⟩ := h
  refine Val.same hr (u := .pointer (some ⟨c, o + (i + f.offset), none⟩)) ?_ (.ptr hb)
  simp only [Instr.fieldAt, Sem.run_bind, run_underlying' ht, Result.andThen_ok, hf, Instr.sureAddr, Sem.run_pure, fieldPlace, run_sizeOf' hn, hn0, if_false, addr_add]
  simp only [Nat.add_assoc]
theorem lt_int {k len : Nat} (h : k < len) : (0 : Int) ≤ (k : Int) ∧ (k : Int) < (len : Int) := ⟨by omega, by omega⟩
theorem val_idxSl {t el : TypeId} {n : Nat} {x y : AV} {u z : Value} (hr : Rel P base m H w) (ht : P.underlying t = some (.slice el)) (hn : sizeT P el = some n) (hx : VR m x u) (hy : VR m y z) (h : opIdxSl n x y H = some (v, H')) : Val P base m H w (Instr.indexAt t u z) v H' := by
  unfold opIdxSl at h
  split at h
  · rename_i b j len sz
    split at h
    · rename_i k hk
      split at h
      · rename_i hlt
        simp only [Option.some.injEq, Prod.mk.injEq] at h
        obtain ⟨rfl, rfl⟩ := h
        rw [asInt_nat hy hk]
        cases hx with
        | slice hb hl hc =>
          rename_i c o n' cap
          refine Val.same hr (u := .pointer (some ⟨c, o + (j + k * n), none⟩)) ?_ (.ptr hb)
          simp only [Instr.indexAt, asIntOf, Sem.run_bind, run_underlying' ht, Result.andThen_ok, Sem.run_pure, lt_int hlt, and_self, if_true, run_sizeOf' hn, addr_add, Int.toNat_natCast, Nat.add_assoc]
        | slice0 ad hb => omega
      · simp at h
    · simp at h
  · simp at h
theorem val_idxArr {t el : TypeId} {len n : Nat} {x y : AV} {u z : Value} (hr : Rel P base m H w) (ht : P.underlying t = some (.array len el)) (hn : sizeT P el = some n) (hx : VR m x u) (hy : VR m y z) (h : opIdxArr len n x y H = some (v, H')) : Val P base m H w (Instr.indexAt t u z) v H' := by
  unfold opIdxArr at h
  split at h
  · rename_i b j
    split at h
    · rename_i k hk
      split at h
      · rename_i hlt
        simp only [Option.some.injEq, Prod.mk.injEq] at h
        obtain ⟨rfl, rfl⟩ := h
        rw [asInt_nat hy hk]
        cases hx with
        | ptr hb =>
          rename_i c o n'
          refine Val.same hr (u := .pointer (some ⟨c, o + (j + k * n), none⟩)) ?_ (.ptr hb)
          simp only [Instr.indexAt, Instr.sureAddr, asIntOf, Sem.run_bind, run_underlying' ht, Result.andThen_ok, Sem.run_pure, lt_int hlt, and_self, if_true, run_sizeOf' hn, addr_add, Int.toNat_natCast, Nat.add_assoc]
      · simp at h
    · simp at h
  · simp at h
theorem part_scalar {t : TypeId} {o : Nat} {xs : List AV} {us : List Value} {x : AV} (ht : aggT P t = some false) (hx : VRs m xs us) (h : xs[o]? = some x) : ∃ u, (part t ⟨us⟩ o).run P w = .ok u w ∧ VR m x u := by
  obtain ⟨u, h1, h2⟩ := VRs.get hx _ _ h
  refine ⟨u, ?_, h2⟩
  have h3 : (⟨us⟩ : Array Value)[o]? = some u := by simpa using h1
  simp only [part, Sem.run_bind, run_isAgg' ht, Result.andThen_ok, Bool.false_eq_true, if_false, h3, Sem.run_pure]
theorem part_agg {t : TypeId} {o n : Nat} {xs l : List AV} {us : List Value} (ht : aggT P t = some true) (hn : sizeT P t = some n) (hx : VRs m xs us) (h : readN xs o n = some l) : ∃ u, (part t ⟨us⟩ o).run P w = .ok u w ∧ VR m (.agg l) u := by
  unfold readN at h
  split at h
  · simp only [Option.some.injEq] at h
    subst h
    refine ⟨.agg ⟨(us.drop o).take n⟩, ?_, .agg ((hx.drop o).take n)⟩
    simp only [part, Sem.run_bind, run_isAgg' ht, Result.andThen_ok, if_true, run_sizeOf' hn, Sem.run_pure]
    simp
  · simp at h
theorem val_part {t : TypeId} {fs : Array Field} {f : Field} {k : Nat} {x : AV} {u : Value} (hr : Rel P base m H w) (ht : P.underlying t = some (.struct fs)) (hf : fs[k]? = some f) (hg : aggT P f.type = some false) (hx : VR m x u) (h : opPart f.offset x H = some (v, H')) :
    Val P base m H w (Instr.field t u k) v H' := by
  cases hx <;> simp only [opPart, reduceCtorEq] at h
  rename_i xs us hxs
  obtain ⟨h1, rfl⟩ := pureV_eq h
  obtain ⟨u, h2, h3⟩ := part_scalar (P := P) (w := w) hg hxs h1
  refine Val.same hr ?_ h3
  simp only [Instr.field, Sem.run_bind, run_underlying' ht, Result.andThen_ok, hf, asAgg, Sem.run_pure, h2]
theorem val_partN {t : TypeId} {fs : Array Field} {f : Field} {k n : Nat} {x : AV} {u : Value} (hr : Rel P base m H w) (ht : P.underlying t = some (.struct fs)) (hf : fs[k]? = some f) (hg : aggT P f.type = some true) (hn : sizeT P f.type = some n) (hx : VR m x u) (h : opPartN f.offset n x H = some (v, H')) :
    Val P base m H w (Instr.field t u k) v H' := by
  cases hx <;> simp only [opPartN, reduceCtorEq] at h
  rename_i xs us hxs
  obtain ⟨cs, h1, h2⟩ := aggOf_eq h
  obtain ⟨rfl, rfl⟩ := Prod.mk.inj h2
  obtain ⟨u, h3, h4⟩ := part_agg (P := P) (w := w) hg hn hxs h1
  refine Val.same hr ?_ h4
  simp only [Instr.field, Sem.run_bind, run_underlying' ht, Result.andThen_ok, hf, asAgg, Sem.run_pure, h3]
theorem val_at {t el : TypeId} {len n : Nat} {g : Bool} {x y : AV} {u z : Value} (hr : Rel P base m H w) (ht : P.underlying t = some (.array len el)) (hn : sizeT P el = some n) (hg : aggT P el = some g) (hx : VR m x u) (hy : VR m y z) (h : opAt len n g x y H = some (v, H')) :
    Val P base m H w (Instr.index t u z) v H' := by
  cases hx <;> simp only [opAt, reduceCtorEq] at h
  rename_i xs us hxs
  split at h
  · rename_i k hk
    split at h
    · rename_i hlt
      rw [asInt_nat hy hk]
      have key : ∀ u', (part el ⟨us⟩ (k * n)).run P w = .ok u' w → (Instr.index t (.agg ⟨us⟩) (.int .i64 k)).run P w = .ok u' w := fun u' hu => by
        simp only [Instr.index, asIntOf, Sem.run_bind, run_underlying' ht, Result.andThen_ok, Sem.run_pure, lt_int hlt, and_self, if_true, run_sizeOf' hn, Int.toNat_natCast, hu]
      cases g with
      | true =>
        simp only [if_true] at h
        obtain ⟨cs, h1, h2⟩ := aggOf_eq h
        obtain ⟨rfl, rfl⟩ := Prod.mk.inj h2
        obtain ⟨u, h3, h4⟩ := part_agg (P := P) (w := w) hg hn hxs h1
        exact Val.same hr (key _ h3) h4
      | false =>
        simp only [Bool.false_eq_true, if_false] at h
        obtain ⟨h1, rfl⟩ := pureV_eq h
        obtain ⟨u, h2, h3⟩ := part_scalar (P := P) (w := w) hg hxs h1
        exact Val.same hr (key _ h2) h3
    · simp at h
  · simp at h
theorem val_byteAt {t : TypeId} {x y : AV} {u z : Value} (hr : Rel P base m H w) (ht : P.underlying t = some .string) (hx : VR m x u) (hy : VR m y z) (h : opByteAt x y H = some (v, H')) : Val P base m H w (Instr.index t u z) v H' := by
  cases hx <;> simp only [opByteAt, reduceCtorEq] at h
  rename_i s
  split at h
  · rename_i k hk
    split at h
    · rename_i b hb
      simp only [Option.some.injEq, Prod.mk.injEq] at h
      obtain ⟨rfl, rfl⟩ := h
      rw [asInt_nat hy hk]
      refine Val.same hr ?_ (.int _ _)
      have hs : s[k]? = some b := by
        rw [ByteArray.toList_eq] at hb
        have hlt : k < s.data.toList.length := by
          rcases Nat.lt_or_ge k s.data.toList.length with h | h
          · exact h
          · rw [List.getElem?_eq_none h] at hb; simp at hb
        have hlt' : k < s.size := by simpa using hlt
        rw [getElem?_pos s k hlt']
        rw [List.getElem?_eq_getElem hlt] at hb
        rw [show s[k] = s.data[k] from rfl]
        simpa using hb
      have h0 : (0 : Int) ≤ (k : Int) := by omega
      simp only [Instr.index, asIntOf, Sem.run_bind, run_underlying' ht, Result.andThen_ok, Sem.run_pure, h0, if_true, Int.toNat_natCast, hs]
    · simp at h
  · simp at h
theorem val_extract {i : Nat} {x : AV} {u : Value} (hr : Rel P base m H w) (hx : VR m x u) (h : opExtract i x H = some (v, H')) : Val P base m H w (Instr.extract u i) v H' := by
  cases hx <;> simp only [opExtract, reduceCtorEq] at h
  rename_i xs us hxs
  obtain ⟨h1, rfl⟩ := pureV_eq h
  obtain ⟨u, h2, h3⟩ := VRs.get hxs _ _ h1
  refine Val.same hr ?_ h3
  have h4 : (⟨us⟩ : Array Value)[i]? = some u := by simpa using h2
  simp only [Instr.extract, h4, Sem.run_pure]
theorem lenA_len {x : AV} {u : Value} {n : Nat} (hx : VR m x u) (h : lenA x = some n) : (Builtin.lenOf u).run P w = .ok n w := by
  cases hx <;> simp only [lenA, reduceCtorEq, Option.some.injEq] at h <;> subst h <;> rfl
theorem val_len {t : TypeId} {isStr : Bool} {x : AV} {u : Value} (hr : Rel P base m H w) (ht : if isStr then P.underlying t = some .string else ∃ e, P.underlying t = some (.slice e)) (hx : VR m x u) (h : opLen isStr x H = some (v, H'))
    {b : Array TypeId} {r : TypeId} (hb : b[0]? = some t) : Val P base m H w (Builtin.len_ b r #[u]) v H' := by
  cases isStr with
  | true =>
    have ht' : P.underlying t = some .string := by simpa using ht
    cases hx <;> simp only [opLen, reduceCtorEq, Option.some.injEq, Prod.mk.injEq] at h
    obtain ⟨rfl, rfl⟩ := h
    exact Val.same hr (by simp [Builtin.len_, hb, run_underlying' ht', goInt]) (.int _ _)
  | false =>
    have ht' : ∃ e, P.underlying t = some (.slice e) := by simpa using ht
    obtain ⟨e, he⟩ := ht'
    cases hx <;> simp only [opLen, reduceCtorEq, Option.some.injEq, Prod.mk.injEq] at h
    all_goals
      obtain ⟨rfl, rfl⟩ := h
      exact Val.same hr (by simp [Builtin.len_, hb, run_underlying' he, goInt]) (.int _ _)
end
end Go.AM
namespace Go.AM
section
variable {P : Program} {base : Array Obj} {m : CM} {H H' : AH} {w : World} {nt : Nat} {e : Env} {a : Act} {v : AV}
theorem Rel.addMap (h : Rel P base m H w) {c o n : Nat} {oA : AObj} (hc : c < w.heap.size) (hnl : ∀ b o' n', m b = some (c, o', n') → ¬ Live H b) (hnf : ¬ Free m c) (hob : ∀ m', CM.le m m' → ObjR P base.size m' (some oA) c o n w.heap) :
    Rel P base (CM.add m H.next (c, o, n)) (H.alloc oA) w ∧ Ext m H w (CM.add m H.next (c, o, n)) (H.alloc oA) w := by
  have hm : m H.next = none := h.top _ (Nat.le_refl _)
  have hle := CM.add_le (x := (c, o, n)) hm
  have hlive : ∀ k, k ≠ H.next → Live (H.alloc oA) k → Live H k := fun k hk ⟨x, hx, hl⟩ => by
    rw [AH.get_alloc, if_neg hk] at hx; exact ⟨x, hx, hl⟩
  refine ⟨⟨h.old, h.size, fun k hk => ?_, fun k c' o' n' hk => ?_, fun k k' c' o1 o2 n1 n2 h1 h2 l1 l2 => ?_⟩, ⟨hle, by simp, Nat.le_refl _, fun k hk hf => ⟨fun b o' n' hb => ?_, rfl⟩, fun b hb hn => ⟨?_, by rw [AH.get_alloc, if_neg (by omega)]⟩, fun b hl hb => by rw [AH.get_alloc, if_neg (by omega)]; exact hl, rfl, rfl⟩⟩
  · simp at hk
    rw [CM.add_ne _ _ (by omega)]; exact h.top k (by omega)
  · by_cases hkb : k = H.next
    · subst hkb
      rw [CM.add_same] at hk
      simp only [Option.some.injEq, Prod.mk.injEq] at hk
      obtain ⟨rfl, rfl, rfl⟩ := hk
      rw [AH.get_alloc, if_pos rfl]
      exact ⟨hc, hob _ hle⟩
    · rw [CM.add_ne _ _ hkb] at hk
      rw [AH.get_alloc, if_neg hkb]
      obtain ⟨h1, h2⟩ := h.blk k c' o' n' hk
      exact ⟨h1, h2.mono hle rfl⟩
  · by_cases hk1 : k = H.next
    · by_cases hk2 : k' = H.next
      · rw [hk1, hk2]
      · subst hk1
        rw [CM.add_same] at h1
        rw [CM.add_ne _ _ hk2] at h2
        simp only [Option.some.injEq, Prod.mk.injEq] at h1
        obtain ⟨rfl, rfl, rfl⟩ := h1
        exact absurd (hlive k' hk2 l2) (hnl _ _ _ h2)
    · rw [CM.add_ne _ _ hk1] at h1
      by_cases hk2 : k' = H.next
      · subst hk2
        rw [CM.add_same] at h2
        simp only [Option.some.injEq, Prod.mk.injEq] at h2
        obtain ⟨rfl, rfl, rfl⟩ := h2
        exact absurd (hlive k hk1 l1) (hnl _ _ _ h1)
      · rw [CM.add_ne _ _ hk2] at h2
        exact h.inj k k' c' o1 o2 n1 n2 h1 h2 (hlive k hk1 l1) (hlive k' hk2 l2)
  · by_cases hkb : b = H.next
    · subst hkb
      rw [CM.add_same] at hb
      simp only [Option.some.injEq, Prod.mk.injEq] at hb
      obtain ⟨rfl, _, _⟩ := hb
      exact hnf hf
    · rw [CM.add_ne _ _ hkb] at hb
      exact hf b o' n' hb
  · rw [CM.add_ne _ _ (by omega)]; exact hn
theorem srcCells_run (hr : Rel P base m H w) {sz n : Nat} {x : AV} {u : Value} {cs : List AV} (hx : VR m x u) (h : srcCells H sz n x = some cs) : ∃ us, VRs m cs us ∧ (Builtin.firstCells sz n u).run P w = .ok us.toArray w := by
  cases hx <;> simp only [srcCells, reduceCtorEq] at h
  · rename_i s
    split at h
    · rename_i hc
      obtain ⟨rfl, hn⟩ := hc
      simp only [Option.some.injEq] at h
      subst h
      refine ⟨(s.toList.take n).map fun b => .int .u8 b.toNat, ?_, ?_⟩
      · generalize s.toList.take n = l
        induction l with
        | nil => exact .nil
        | cons b l ih => exact .cons (.int _ _) ih
      · simp only [Builtin.firstCells, Sem.run_pure]
        congr 1
        apply Array.toList_inj.1
        rw [ByteArray.toList_eq]
        simp
    · simp at h
  · rename_i b i len z c o n' cap hb hl hc
    split at h
    · rename_i hcond
      obtain ⟨rfl, hn⟩ := hcond
      obtain ⟨us, h1, h2⟩ := hr.loadCells hb h
      exact ⟨us, h1, by simpa [Builtin.firstCells] using h2⟩
    · simp at h
  · rename_i b i z x ad hb
    split at h
    · rename_i hcond
      obtain ⟨rfl, hn⟩ := hcond
      have : n = 0 := by omega
      subst this
      have hl := read_length h
      simp at hl
      subst hl
      exact ⟨[], .nil, by simp [Builtin.firstCells, loadCells, loadCellsFrom]⟩
    · simp at h
  · split at h
    · simp only [Option.some.injEq] at h
      subst h
      exact ⟨[], .nil, by simp [Builtin.firstCells]⟩
    · simp at h
theorem srcCells_length {sz n : Nat} {x : AV} {cs : List AV} (h : srcCells H sz n x = some cs) (hn : lenA x = some n) : cs.length = n * sz := by
  cases x <;> simp only [srcCells, lenA, reduceCtorEq, Option.some.injEq] at h hn
  · rename_i s
    split at h
    · rename_i hc
      obtain ⟨rfl, _⟩ := hc
      simp only [Option.some.injEq] at h
      subst h; subst hn
      rw [ByteArray.toList_eq]
      simp
    · simp at h
  · split at h
    · rename_i hc
      obtain ⟨rfl, _⟩ := hc
      exact read_length h
    · simp at h
  · split at h
    · simp only [Option.some.injEq] at h
      subst h; subst hn
      simp
    · simp at h
theorem run_append_grows {ts : Array TypeId} {t t2 el ty : TypeId} {i : TypeInfo} {z : Value} {kd : TypeDesc} (h0 : ts[0]? = some t) (h1 : ts[1]? = some t2) (ht : P.underlying t = some (.slice el)) (ht2 : P.underlying t2 = some kd) (hkd : (∃ e2, kd = .slice e2) ∨ kd = .string) (hi : P.info? el = some i) (hz : i.zero = some z)
    {bs : Option Addr} {sLen sCap n : Nat} {x : Value} {olds news : List Value} (hn : (Builtin.lenOf x).run P w = .ok n w) (hold : (Builtin.firstCells i.size sLen (.slice bs sLen sCap)).run P w.drew = .ok olds.toArray w.drew) (hnew : (Builtin.firstCells i.size n x).run P w.drew = .ok news.toArray w.drew)
    (hg : sCap < sLen + n) (h63 : sLen + n ≤ roomA) (hb : (sLen + n) * i.bytes ≤ roomA) :
    ∃ cap, sLen + n ≤ cap ∧ (Builtin.append_ ts ty #[.slice bs sLen sCap, x]).run P w = .ok (.slice (some ⟨w.heap.size, 0, none⟩) (sLen + n) cap) (w.drew.alloc (.cells (olds.toArray ++ news.toArray ++ Builtin.zeroCells z.cells (cap - (sLen + n))) el)) := by
  refine ⟨(Question.appendCap (sLen + n) sCap el).cut (w.tape w.drawn (.appendCap (sLen + n) sCap el)), ?_, ?_⟩
  · simp [Question.cut]
  · have hroom : roomA = 140737488355328 := rfl
    have hgt : ¬ (sLen + n ≤ sCap) := by omega
    have h63' : ¬ (((sLen + n : Nat) : Int) > IntKind.i64.max) := by
      have : IntKind.i64.max = 9223372036854775807 := rfl
      rw [this]; omega
    have h48' : ¬ (Builtin.nextslicecap (sLen + n) sCap * i.bytes > 2 ^ 48) := by
      have := growslice_fits hg (by rw [hroom] at hb; exact hb)
      have h2 : (2 : Nat) ^ 48 = 281474976710656 := by decide
      rw [h2]; omega
    have a0 : (#[Value.slice bs sLen sCap, x] : Array Value)[0]? = some (.slice bs sLen sCap) := rfl
    have a1 : (#[Value.slice bs sLen sCap, x] : Array Value)[1]? = some x := rfl
    have hsz : (sizeOf el).run P w = .ok i.size w := by simp [sizeOf, typeInfo, hi]
    have hti : ∀ w, (typeInfo el).run P w = .ok i w := fun w => run_typeInfo' hi
    have hzv : ∀ w, (zeroValue el).run P w = .ok z w := fun w => by simp [zeroValue, typeInfo, hi, hz]
    rcases hkd with ⟨e2, rfl⟩ | rfl
    all_goals
      simp only [Builtin.append_, h0, a0, a1, Sem.run_bind, run_underlying' ht, Result.andThen_ok, hsz, h1, run_underlying' ht2, Sem.run_pure, Bool.false_eq_true, if_false, hn, hgt, h63', false_and, hti, h48', run_choose, Question.forced, run_askRoom, Bool.not_false, if_true]
      rw [World.drew_eq]
      simp only [hold, hnew, Result.andThen_ok, hzv, newRow, Sem.run_bind, run_newObj, Sem.run_pure, World.alloc_eq]
      rfl
theorem zeroCells_size (z : Array Value) (n : Nat) : (Builtin.zeroCells z n).size = n * z.size := by simp [Builtin.zeroCells]
theorem val_append {ts : Array TypeId} {t t2 el ty : TypeId} {i : TypeInfo} {zv : Value} {kd : TypeDesc} (hr : Rel P base m H w) (h0 : ts[0]? = some t) (h1 : ts[1]? = some t2) (ht : P.underlying t = some (.slice el)) (ht2 : P.underlying t2 = some kd) (hkd : (∃ e2, kd = .slice e2) ∨ kd = .string) (hi : P.info? el = some i) (hz : i.zero = some zv) (hzs : zv.cells.size = i.size) (hs0 : i.size ≠ 0)
    {x y : AV} {u z : Value} (hx : VR m x u) (hy : VR m y z) (h : appendA H i.size i.bytes x y = some (v, H')) : Val P base m H w (Builtin.append_ ts ty #[u, z]) v H' := by
  unfold appendA at h
  split at h
  · simp at h
  · rename_i n hn
    split at h
    · simp at h
    · rename_i new hnew
      have hn' := lenA_len (P := P) (w := w) hy hn
      have hnl := srcCells_length hnew hn
      obtain ⟨news, hv1, hf1⟩ := srcCells_run (hr.drew (w' := w.drew) rfl) hy hnew
      have hf0 := (srcCells_run hr hy hnew)
      have hnewl := VRs.length hv1
      have a0 : ∀ u, (#[u, z] : Array Value)[0]? = some u := fun _ => rfl
      have a1 : ∀ u, (#[u, z] : Array Value)[1]? = some z := fun _ => rfl
      have hsz : (sizeOf el).run P w = .ok i.size w := by simp [sizeOf, typeInfo, hi]
      have none_ : ∀ (bs : Option Addr) (sLen sCap : Nat), n = 0 → sLen ≤ sCap → (Builtin.append_ ts ty #[.slice bs sLen sCap, z]).run P w = .ok (.slice bs sLen sCap) w := fun bs sLen sCap hn0 hle => by
        obtain ⟨nw, q1, q2⟩ := hf0
        subst hn0
        have hnw : nw = [] := by
          have := VRs.length q1
          rw [hnl] at this
          simpa using this
        subst hnw
        cases bs with
        | none => rcases hkd with ⟨e2, rfl⟩ | rfl <;> simp only [Builtin.append_, h0, a0, a1, Sem.run_bind, run_underlying' ht, Result.andThen_ok, hsz, h1, run_underlying' ht2, Sem.run_pure, Bool.false_eq_true, if_false, hn', Nat.add_zero, hle, if_true, Bool.not_false, q2]
        | some ad => rcases hkd with ⟨e2, rfl⟩ | rfl <;> simp only [Builtin.append_, h0, a0, a1, Sem.run_bind, run_underlying' ht, Result.andThen_ok, hsz, h1, run_underlying' ht2, Sem.run_pure, Bool.false_eq_true, if_false, hn', Nat.add_zero, hle, if_true, Bool.not_false, q2, storeCells]
      split at h
      ·
        split at h
        · rename_i hn0
          simp only [Option.some.injEq, Prod.mk.injEq] at h
          obtain ⟨rfl, rfl⟩ := h
          cases hx
          exact Val.same hr (none_ none 0 0 hn0 (Nat.le_refl _)) .nilslice
        · rename_i hn0
          split at h
          · rename_i hcond
            simp only [Option.some.injEq, Prod.mk.injEq] at h
            obtain ⟨rfl, rfl⟩ := h
            cases hx
            obtain ⟨cap, hc1, hc2⟩ := run_append_grows (ty := ty) (bs := none) (sLen := 0) (sCap := 0) (olds := []) h0 h1 ht ht2 hkd hi hz hn' (by simp [Builtin.firstCells]) hf1 (by omega) (by omega) (by simpa using hcond.2)
            simp only [Nat.zero_add] at hc1 hc2
            have hr' := hr.drew (w' := w.drew) rfl
            have hcells : (∀ (j : Nat) (q : AV), new[j]? = some q → ∃ u', (([] : List Value).toArray ++ news.toArray ++ Builtin.zeroCells zv.cells (cap - n))[j]? = some u' ∧ VR m q u') := fun j q hq => by
              obtain ⟨u', r1, r2⟩ := VRs.get hv1 _ _ hq
              refine ⟨u', ?_, r2⟩
              have : j < news.length := by
                rcases Nat.lt_or_ge j news.length with h | h
                · exact h
                · rw [List.getElem?_eq_none h] at r1; simp at r1
              simp [Array.getElem?_append, this] at *
              simpa [this] using r1
            have hsize : (([] : List Value).toArray ++ news.toArray ++ Builtin.zeroCells zv.cells (cap - n)).size = cap * i.size := by
              simp only [Array.size_append, zeroCells_size, hzs, List.size_toArray, List.length_nil, hnewl, hnl]
              have : cap * i.size = n * i.size + (cap - n) * i.size := by rw [← Nat.add_mul]; congr 1; omega
              omega
            obtain ⟨q1, q2⟩ := hr'.newCells el hcells (by rw [hsize, hnl]; exact Nat.mul_le_mul_right _ (by omega))
            refine ⟨_, _, _, hc2, ?_, q1, (Ext.drew (w := w) (w' := w.drew) rfl).trans q2⟩
            refine .slice (CM.add_same _ _ _) (by omega) ?_
            rw [hsize]; omega
          · simp at h
      · rename_i b j len zz
        split at h
        · rename_i hn0
          simp only [Option.some.injEq, Prod.mk.injEq] at h
          obtain ⟨rfl, rfl⟩ := h
          cases hx with
          | slice hb hl hc => exact Val.same hr (none_ _ _ _ hn0 hl) (.slice hb hl hc)
          | slice0 ad hb => exact Val.same hr (none_ _ _ _ hn0 (Nat.le_refl _)) (.slice0 ad hb)
        · rename_i hn0
          split at h
          · rename_i vs hg
            split at h
            · rename_i old hold
              split at h
              · rename_i hcond
                obtain ⟨rfl, hc1, hc2, hcells⟩ := hcond
                simp only [Option.some.injEq, Prod.mk.injEq] at h
                obtain ⟨rfl, rfl⟩ := h
                have hread : H.read b j (len * i.size) = some old := by simp [AH.read, hg, hold]
                have holdl := read_length hread
                have grows : ∀ (bs : Option Addr) (sCap : Nat), sCap < len + n → (∃ olds, VRs m old olds ∧ (Builtin.firstCells i.size len (.slice bs len sCap)).run P w.drew = .ok olds.toArray w.drew) → (∃ x, m b = some x) →
                    Val P base m H w (Builtin.append_ ts ty #[.slice bs len sCap, z]) (.slice H.next 0 (len + n) i.size) ((H.set b .dead).alloc (.cells false (old ++ new))) := fun bs sCap hlt ⟨olds, ho1, ho2⟩ ⟨xb, hxb⟩ => by
                  obtain ⟨cap, hca, hcb⟩ := run_append_grows (ty := ty) h0 h1 ht ht2 hkd hi hz hn' ho2 hf1 hlt hc1 hc2
                  obtain ⟨cb, ob, nb⟩ := xb
                  have hr' := hr.drew (w' := w.drew) rfl
                  obtain ⟨hcs, hob⟩ := hr'.blk b cb ob nb hxb
                  rw [hg] at hob
                  obtain ⟨d1, d2⟩ := hr'.turn (w' := w.drew) hxb ⟨_, hg, rfl⟩ hob.1 (fun _ _ => rfl) rfl (oA := .dead) trivial
                  have hol := VRs.length ho1
                  have hcells : (∀ (j : Nat) (q : AV), (old ++ new)[j]? = some q → ∃ u', (olds.toArray ++ news.toArray ++ Builtin.zeroCells zv.cells (cap - (len + n)))[j]? = some u' ∧ VR m q u') := fun j q hq => by
                    obtain ⟨u', r1, r2⟩ := VRs.get (ho1.append hv1) _ _ hq
                    refine ⟨u', ?_, r2⟩
                    have hlt : j < (olds ++ news).length := by
                      rcases Nat.lt_or_ge j (olds ++ news).length with h | h
                      · exact h
                      · rw [List.getElem?_eq_none h] at r1; simp at r1
                    rw [Array.getElem?_append_left (by simpa using hlt)]
                    simpa using r1
                  have hsize : (olds.toArray ++ news.toArray ++ Builtin.zeroCells zv.cells (cap - (len + n))).size = cap * i.size := by
                    simp only [Array.size_append, zeroCells_size, hzs, List.size_toArray, hnewl, hnl, hol, holdl]
                    have : cap * i.size = len * i.size + n * i.size + (cap - (len + n)) * i.size := by rw [← Nat.add_mul, ← Nat.add_mul]; congr 1; omega
                    omega
                  obtain ⟨q1, q2⟩ := d1.newCells el hcells (by
                    rw [hsize, List.length_append, hnl, holdl, ← Nat.add_mul]; exact Nat.mul_le_mul_right _ (by omega))
                  refine ⟨_, _, _, hcb, ?_, q1, ((Ext.drew (w := w) (w' := w.drew) rfl).trans d2).trans q2⟩
                  refine .slice (CM.add_same _ _ _) hca ?_
                  rw [hsize]; omega
                cases hx with
                | slice0 ad hb =>
                  have hol : old = [] := List.length_eq_zero_iff.1 (by simpa using holdl)
                  subst hol
                  exact grows _ _ (by omega) ⟨[], .nil, by simp [Builtin.firstCells, loadCells, loadCellsFrom]⟩ ⟨_, hb⟩
                | slice hb hl hc =>
                  rename_i c o n' cap
                  by_cases hfit : len + n ≤ cap
                  ·
                    obtain ⟨hcs, hob⟩ := hr.blk b c o n' hb
                    rw [hg] at hob
                    obtain ⟨hN, arr, e', lo, hi', hh, has, hfz, hvl, hcr⟩ := hob
                    have hmul : (len + n) * i.size ≤ cap * i.size := Nat.mul_le_mul_right _ hfit
                    have hmul2 : (len + n) * i.size = len * i.size + n * i.size := Nat.add_mul _ _ _
                    obtain ⟨nw, q1, q2⟩ := hf0
                    have hnwl := VRs.length q1
                    rw [hnl] at hnwl
                    · obtain ⟨w', arr', r1, r2, r3, r4, r5, r7, r6⟩ := run_storeCells (P := P) (c := c) (k := o + j + len * i.size) nw 0 w arr hh (by omega) (by rw [has]; exact hfz) (VRs.oneCell q1 hcells)
                      have hread' : ∀ (k : Nat) (q : AV), (old ++ new)[k]? = some q → ∃ u', arr'[o + j + k]? = some u' ∧ VR m q u' := fun k q hq => by
                        rw [r6]
                        by_cases hk : k < len * i.size
                        · rw [List.getElem?_append_left (by omega)] at hq
                          rw [if_neg (by omega)]
                          unfold readN at hold
                          split at hold
                          · simp only [Option.some.injEq] at hold
                            subst hold
                            rw [List.getElem?_take, if_pos (by omega), List.getElem?_drop] at hq
                            obtain ⟨u', h5, h6⟩ := hcr _ _ hq
                            exact ⟨u', by rw [show o + j + k = o + (j + k) from by omega]; exact h5, h6⟩
                          · simp at hold
                        · rw [List.getElem?_append_right (by omega)] at hq
                          obtain ⟨u', h5, h6⟩ := VRs.get q1 _ _ hq
                          have : k - old.length < nw.length := by
                            rcases Nat.lt_or_ge (k - old.length) nw.length with h | h
                            · exact h
                            · rw [List.getElem?_eq_none h] at h5; simp at h5
                          rw [if_pos (by omega)]
                          exact ⟨u', by rw [show o + j + k - (o + j + len * i.size + 0) = k - old.length from by omega]; exact h5, h6⟩
                      obtain ⟨d1, d2⟩ := hr.turn (w' := w') hb ⟨_, hg, rfl⟩ hN r3 r2 (oA := .dead) trivial (hos := r7)
                      obtain ⟨e1, e2⟩ := d1.addMap (c := c) (o := o + j) (n := n') (oA := .cells false (old ++ new)) (by rw [r2]; exact hcs) (fun b' o2 n2 hb' hl' => by
                          obtain ⟨x', hx', hlx⟩ := hl'
                          rw [AH.get_set] at hx'
                          by_cases hbb : b' = b
                          · rw [if_pos hbb] at hx'
                            simp only [Option.some.injEq] at hx'
                            subst hx'
                            simp [AObj.live] at hlx
                          · rw [if_neg hbb] at hx'
                            exact hbb (hr.inj b' b c o2 o n2 n' hb' hb ⟨x', hx', hlx⟩ ⟨_, hg, rfl⟩))
                        (fun hf => hf b o n' hb) (fun m' hm' => ⟨hN, arr', e', lo, hi', r4, by omega, by rw [← has]; rw [has]; exact hfz, by rw [List.length_append]; omega, fun k q hq => by
                          obtain ⟨u', h5, h6⟩ := hread' k q hq
                          exact ⟨u', h5, h6.mono hm'⟩⟩)
                      refine ⟨.slice (some ⟨c, o + j, none⟩) (len + n) cap, w', _, ?_, ?_, e1, d2.trans e2⟩
                      · rcases hkd with ⟨e2, rfl⟩ | rfl <;> simp only [Builtin.append_, h0, a0, a1, Sem.run_bind, run_underlying' ht, Result.andThen_ok, hsz, h1, run_underlying' ht2, Sem.run_pure, Bool.false_eq_true, if_false, hn', hfit, if_true, Bool.not_false, q2, addr_add, r1]
                      · have := VR.slice (m := CM.add m H.next (c, o + j, n')) (b := H.next) (i := 0) (len := len + n) (sz := i.size) (cap := cap) (CM.add_same _ _ _) hfit (by omega)
                        simpa using this
                  · obtain ⟨us, ho1, ho2⟩ := (hr.drew (w' := w.drew) rfl).loadCells hb hread
                    exact grows _ _ (by omega) ⟨us, ho1, by simpa [Builtin.firstCells] using ho2⟩ ⟨_, hb⟩
              · simp at h
            · simp at h
          · simp at h
      · simp at h
end
end Go.AM
namespace Go.AM
section
variable {P : Program} {base : Array Obj} {m : CM} {H H' : AH} {w : World} {nt : Nat} {e : Env} {a : Act} {v : AV}
theorem val_copy {ts : Array TypeId} {t el ty : TypeId} {sz : Nat} (hr : Rel P base m H w) (h0 : ts[0]? = some t) (ht : P.underlying t = some (.slice el)) (hsz : sizeT P el = some sz)
    {x y : AV} {u z : Value} (hx : VR m x u) (hy : VR m y z) (h : copyA H sz x y = some (v, H')) : Val P base m H w (Builtin.copy_ ts ty #[u, z]) v H' := by
  unfold copyA at h
  split at h
  · rename_i ns nd hns hnd
    unfold copyN at h
    split at h
    · simp at h
    · rename_i new hnew
      have h1 := lenA_len (P := P) (w := w) hy hns
      obtain ⟨us, q1, q2⟩ := srcCells_run hr hy hnew
      have a0 : (#[u, z] : Array Value)[0]? = some u := rfl
      have a1 : (#[u, z] : Array Value)[1]? = some z := rfl
      have hmin : Nat.min ns nd = min ns nd := rfl
      split at h
      · simp only [Option.some.injEq, Prod.mk.injEq] at h
        obtain ⟨rfl, rfl⟩ := h
        cases hx
        simp only [lenA, Option.some.injEq] at hnd
        subst hnd
        exact Val.same hr (by simp only [Builtin.copy_, h0, a0, a1, Sem.run_bind, run_underlying' ht, Result.andThen_ok, h1, run_sizeOf' hsz, hmin, q2, Sem.run_pure, goInt]) (.int _ _)
      · rename_i b i len zz
        simp only [lenA, Option.some.injEq] at hnd
        subst hnd
        split at h
        · rename_i hz
          subst hz
          split at h
          · rename_i H2 hw
            simp only [Option.some.injEq, Prod.mk.injEq] at h
            obtain ⟨rfl, rfl⟩ := h
            cases hx with
            | slice hb hl hc =>
              obtain ⟨w', r1, r2, r3⟩ := hr.write hb hw q1
              exact ⟨_, w', m, by simp only [Builtin.copy_, h0, a0, a1, Sem.run_bind, run_underlying' ht, Result.andThen_ok, h1, run_sizeOf' hsz, hmin, q2, r1, Sem.run_pure, goInt], .int _ _, r2, r3⟩
            | slice0 ad hb =>
              have hnl : new = [] := by
                have hm : min ns 0 = 0 := by omega
                simp only [hm] at hnew
                cases y <;> simp only [srcCells, reduceCtorEq] at hnew
                · split at hnew
                  · simp only [Option.some.injEq] at hnew; subst hnew; simp
                  · simp at hnew
                · split at hnew
                  · have := read_length hnew
                    simpa using this
                  · simp at hnew
                · split at hnew
                  · simp only [Option.some.injEq] at hnew; exact hnew.symm
                  · simp at hnew
              subst hnl
              cases q1
              have hH : H2 = H.set b ((H.get b).getD .dead) := by
                unfold AH.write at hw
                split at hw
                · rename_i vs hg
                  have : writeN vs i [] = some vs := by cases vs <;> simp [writeN]
                  simp only [this, List.all_nil, if_true, Option.some.injEq] at hw
                  rw [hg]; exact hw.symm
                · simp at hw
              obtain ⟨⟨cb, ob, nb⟩, hb⟩ : ∃ x, m b = some x := ⟨_, hb⟩
              obtain ⟨d0, d1⟩ := hr.blk b cb ob nb hb
              have hg : ∃ vs, H.get b = some (.cells false vs) := by
                unfold AH.write at hw
                split at hw
                · rename_i vs hg; exact ⟨vs, hg⟩
                · simp at hw
              obtain ⟨vs, hg⟩ := hg
              rw [hg] at d1
              obtain ⟨r2, r3⟩ := hr.turn (w' := w) hb ⟨_, hg, rfl⟩ d1.1 (fun _ _ => rfl) rfl (oA := .cells false vs) d1
              rw [hH, hg]
              exact ⟨_, w, m, by simp only [Builtin.copy_, h0, a0, a1, Sem.run_bind, run_underlying' ht, Result.andThen_ok, h1, run_sizeOf' hsz, hmin, q2, storeCells, Sem.run_pure, goInt], .int _ _, r2, r3⟩
          · simp at h
        · simp at h
      · simp at h
  · simp at h
theorem val_lenMap {ts : Array TypeId} {t kt et ty : TypeId} (hr : Rel P base m H w) (h0 : ts[0]? = some t) (ht : P.underlying t = some (.map kt et)) {x : AV} {u : Value} (hx : VR m x u) (h : opLenMap x H = some (v, H')) : Val P base m H w (Builtin.len_ ts ty #[u]) v H' := by
  cases hx <;> simp only [opLenMap, reduceCtorEq] at h
  · rename_i b c n hb
    split at h
    · rename_i es hg
      simp only [Option.some.injEq, Prod.mk.injEq] at h
      obtain ⟨rfl, rfl⟩ := h
      obtain ⟨_, d1⟩ := hr.blk b c 0 n hb
      rw [hg] at d1
      obtain ⟨_, _, es', clk, h3, h4⟩ := d1
      have hl : es'.size = es.length := by
        have : ∀ {es : List (AV × AV)} {es' : List MapEntry}, MapR m es es' → es'.length = es.length := by
          intro es es' h
          induction h with
          | nil => rfl
          | cons _ _ _ ih => simp [ih]
        simpa using this h4
      refine Val.same hr (u := .int .i64 es'.size) ?_ (by rw [hl]; exact .int _ _)
      simp [Builtin.len_, h0, run_underlying' ht, run_getObj_map h3, goInt]
    · simp at h
  · simp only [Option.some.injEq, Prod.mk.injEq] at h
    obtain ⟨rfl, rfl⟩ := h
    exact Val.same hr (by simp [Builtin.len_, h0, run_underlying' ht, goInt]) (.int _ _)
theorem val_rangeStr {t : TypeId} (hr : Rel P base m H w) (ht : P.underlying t = some .string) {x : AV} {u : Value} (hx : VR m x u) (h : opRangeStr x H = some (v, H')) : Val P base m H w (Instr.range t u) v H' := by
  cases hx <;> simp only [opRangeStr, reduceCtorEq, Option.some.injEq, Prod.mk.injEq] at h
  rename_i s
  obtain ⟨rfl, rfl⟩ := h
  obtain ⟨q1, q2⟩ := hr.alloc (n := 0) (oA := .strIter s 0) (oC := .stringIter s 0) (fun m' _ => ⟨hr.size, rfl, by simp⟩)
  refine ⟨_, _, _, ?_, .ptr (i := 0) (CM.add_same _ _ _), q1, q2⟩
  simp [Instr.range, run_underlying' ht]
theorem val_nextStr {t : TypeId} (hr : Rel P base m H w) {x : AV} {u : Value} (hx : VR m x u) (h : opNextStr x H = some (v, H')) : Val P base m H w (Instr.next u true t) v H' := by
  unfold opNextStr at h
  split at h
  · rename_i b
    cases hx with
    | ptr hb =>
      rename_i c o n
      split at h
      · rename_i s pos hg
        obtain ⟨d0, d1⟩ := hr.blk b c o n hb
        rw [hg] at d1
        obtain ⟨hN, rfl, hh⟩ := d1
        have hget : (getObj c).run P w = .ok (.stringIter s pos) w := by simp [getObj, Sem.run, hh]
        split at h
        · rename_i hlt
          simp only [Option.some.injEq, Prod.mk.injEq] at h
          obtain ⟨rfl, rfl⟩ := h
          obtain ⟨r2, r3⟩ := hr.turn (w' := { w with heap := w.heap.setIfInBounds c (.stringIter s (pos + (Utf8.decode s pos).2)) }) hb ⟨_, hg, rfl⟩ hN (fun k hk => putHeap_get hk) (by simp) (oA := .strIter s (pos + (Utf8.decode s pos).2))
            ⟨hN, rfl, putHeap_same d0⟩
          refine ⟨_, _, m, ?_, .tuple (.cons (.bool true) (.cons (.int _ _) (.cons (.int _ _) .nil))), r2, r3⟩
          simp only [Instr.next, Sem.run_bind, Sem.run_pure, Result.andThen_ok, Nat.add_zero, hget, hlt, if_true, run_setObj hh (by simp), goInt]
        · rename_i hlt
          simp only [Option.some.injEq, Prod.mk.injEq] at h
          obtain ⟨rfl, rfl⟩ := h
          refine Val.same hr ?_ (.tuple (.cons (.bool false) .nil))
          simp only [Instr.next, Sem.run_bind, Sem.run_pure, Result.andThen_ok, Nat.add_zero, hget, hlt, if_false]
      · simp at h
  · simp at h
theorem max_run (ts : Array TypeId) (ty : TypeId) : ∀ (vs : List AV) (us : List Value) (x y : AV) (u : Value), VRs m vs us → VR m x u → max2A x vs = some y → ∃ z, (us.foldlM Builtin.max2 u).run P w = .ok z w ∧ VR m y z
  | [], us, x, y, u, hv, hx, h => by
    cases hv
    simp only [max2A, Option.some.injEq] at h
    subst h
    exact ⟨u, by simp, hx⟩
  | v :: vs, us, x, y, u, hv, hx, h => by
    cases hv with
    | cons h1 h2 =>
      cases x <;> cases v <;> simp only [max2A, reduceCtorEq] at h
      split at h
      · rename_i hk
        subst hk
        cases hx; cases h1
        obtain ⟨z, h3, h4⟩ := max_run ts ty vs _ _ y _ h2 (.int _ _) h
        exact ⟨z, by simpa [List.foldlM_cons, Builtin.max2] using h3, h4⟩
      · simp at h
theorem min_run (ts : Array TypeId) (ty : TypeId) : ∀ (vs : List AV) (us : List Value) (x y : AV) (u : Value), VRs m vs us → VR m x u → min2A x vs = some y → ∃ z, (us.foldlM Builtin.min2 u).run P w = .ok z w ∧ VR m y z
  | [], us, x, y, u, hv, hx, h => by
    cases hv
    simp only [min2A, Option.some.injEq] at h
    subst h
    exact ⟨u, by simp, hx⟩
  | v :: vs, us, x, y, u, hv, hx, h => by
    cases hv with
    | cons h1 h2 =>
      cases x <;> cases v <;> simp only [min2A, reduceCtorEq] at h
      split at h
      · rename_i hk
        subst hk
        cases hx; cases h1
        obtain ⟨z, h3, h4⟩ := min_run ts ty vs _ _ y _ h2 (.int _ _) h
        exact ⟨z, by simpa [List.foldlM_cons, Builtin.min2] using h3, h4⟩
      · simp at h
theorem cv_map {f : AOpd → AOp} {x : Operand} {ao : AOp} (h : (cOpd nt x).map f = some ao) : ∃ y, cOpd nt x = some y ∧ ao = f y := by
  simp only [Option.map_eq_some_iff] at h
  obtain ⟨y, h1, h2⟩ := h
  exact ⟨y, h1, h2.symm⟩
theorem cOpds_nil {xs : List Operand} (h : cOpds nt xs = some []) : xs = [] := by
  cases xs with
  | nil => rfl
  | cons o os =>
    simp only [cOpds] at h
    split at h
    · split at h <;> simp at h
    · simp at h
theorem cOpds_cons {xs : List Operand} {y : AOpd} {ys : List AOpd} (h : cOpds nt xs = some (y :: ys)) : ∃ o os, xs = o :: os ∧ cOpd nt o = some y ∧ cOpds nt os = some ys := by
  cases xs with
  | nil => simp [cOpds] at h
  | cons o os =>
    simp only [cOpds] at h
    split at h
    · rename_i a ha
      split at h
      · rename_i l hl
        simp only [Option.some.injEq, List.cons.injEq] at h
        obtain ⟨rfl, rfl⟩ := h
        exact ⟨o, os, rfl, ha, hl⟩
      · simp at h
    · simp at h
theorem sim_builtin {call : ACall} {b : Builtin} {ts : Array TypeId} {ty : TypeId} {xs : List Operand} {ao : AOp} {cs : Array Bool} (hc : cBuiltin P nt b ts xs = some ao) (hr : Rel P base m H w) (he : EnvR m e a.tmps) (h : aop call e H ao = some (v, H')) :
    Out P base m H w (builtin b ts ty cs (xs.map a.eval).toArray) v H' := by
  unfold cBuiltin at hc
  split at hc
  ·
    rename_i x hx
    obtain ⟨o, os, rfl, hx', hos⟩ := cOpds_cons hx
    obtain rfl := cOpds_nil hos
    split at hc
    · rename_i t ht
      split at hc
      · rename_i hu
        simp only [Option.some.injEq] at hc; subst hc
        obtain ⟨xv, h1, h2⟩ := with1_eq h
        exact (val_len (isStr := true) hr (by simpa using hu) (opd_vr he hx' h1) h2 ht).out
      · rename_i el hu
        simp only [Option.some.injEq] at hc; subst hc
        obtain ⟨xv, h1, h2⟩ := with1_eq h
        exact (val_len (isStr := false) hr (by simpa using ⟨_, hu⟩) (opd_vr he hx' h1) h2 ht).out
      · rename_i n el hu
        simp only [Option.some.injEq] at hc; subst hc
        simp only [aop, AOpd.val, pureV, Option.some.injEq, Prod.mk.injEq] at h
        obtain ⟨rfl, rfl⟩ := h
        exact (Val.same hr (u := .int .i64 n) (by simp [Builtin.len_, ht, run_underlying' hu, goInt]) (.int _ _)).out
      · rename_i kt et hu
        simp only [Option.some.injEq] at hc; subst hc
        obtain ⟨xv, h1, h2⟩ := with1_eq h
        exact (val_lenMap hr ht hu (opd_vr he hx' h1) h2).out
      · simp at hc
    · simp at hc
  ·
    rename_i s x hx
    obtain ⟨o, os, rfl, ho, hos⟩ := cOpds_cons hx
    obtain ⟨p, os, rfl, hp, hos⟩ := cOpds_cons hos
    obtain rfl := cOpds_nil hos
    split at hc
    · rename_i t t2 ht ht2
      have fin : ∀ el kd, P.underlying t = some (.slice el) → P.underlying t2 = some kd → ((∃ e2, kd = .slice e2) ∨ kd = .string) → (match sizeT P el, bytesT P el, zeroT P el with
          | some z, some by_, some zv => if z = 0 ∨ zv.cells.size ≠ z then none else some (AOp.append z by_ s x)
          | _, _, _ => none) = some ao → Out P base m H w (builtin .append ts ty cs ([o, p].map a.eval).toArray) v H' := fun el kd h1 h2 h3 h4 => by
        split at h4
        · rename_i z by_ zv hz hb hzv
          split at h4
          · simp at h4
          · rename_i hcond
            simp only [Option.some.injEq] at h4; subst h4
            obtain ⟨sv, h5, h6⟩ := with1_eq h
            obtain ⟨xv, h7, h8⟩ := with1_eq h6
            simp only [zeroT, Option.bind_eq_some_iff] at hzv
            obtain ⟨i, hi, hiz⟩ := hzv
            simp only [sizeT, hi, Option.map_some, Option.some.injEq] at hz
            simp only [bytesT, hi, Option.map_some, Option.some.injEq] at hb
            subst hz; subst hb
            have hc1 : ¬ i.size = 0 := fun e => hcond (.inl e)
            have hc2 : zv.cells.size = i.size := by
              by_cases e : zv.cells.size = i.size
              · exact e
              · exact absurd (.inr e) hcond
            exact (val_append hr ht ht2 h1 h2 h3 hi hiz hc2 hc1 (opd_vr he ho h5) (opd_vr he hp h7) h8).out
        · simp at h4
      split at hc
      · rename_i el e2 hu1 hu2; exact fin el _ hu1 hu2 (.inl ⟨e2, rfl⟩) hc
      · rename_i el hu1 hu2; exact fin el _ hu1 hu2 (.inr rfl) hc
      · simp at hc
    · simp at hc
  ·
    rename_i d s hx
    obtain ⟨o, os, rfl, ho, hos⟩ := cOpds_cons hx
    obtain ⟨p, os, rfl, hp, hos⟩ := cOpds_cons hos
    obtain rfl := cOpds_nil hos
    split at hc
    · rename_i t ht
      split at hc
      · rename_i el hu
        split at hc
        · rename_i z hz
          split at hc
          · simp at hc
          · simp only [Option.some.injEq] at hc; subst hc
            obtain ⟨dv, h5, h6⟩ := with1_eq h
            obtain ⟨sv, h7, h8⟩ := with1_eq h6
            exact (val_copy hr ht hu hz (opd_vr he ho h5) (opd_vr he hp h7) h8).out
        · simp at hc
      · simp at hc
    · simp at hc
  ·
    rename_i x as hx
    simp only [Option.some.injEq] at hc; subst hc
    obtain ⟨xv, h1, h2⟩ := with1_eq h
    obtain ⟨vs, h3, h4⟩ := withL_eq h2
    obtain ⟨h5, rfl⟩ := pureV_eq h4
    cases xs with
    | nil => simp [cOpds] at hx
    | cons o os =>
      have hv : vals e (x :: as) = some (xv :: vs) := by simp [vals, h1, h3]
      have hvs := opds_vrs he hx hv
      cases hvs with
      | cons hq hqs =>
        obtain ⟨z, h6, h7⟩ := max_run (P := P) (w := w) ts ty vs _ xv _ _ hqs hq h5
        exact (Val.same hr (u := z) (by simpa [Builtin.max_] using h6) h7).out
  ·
    rename_i x as hx
    simp only [Option.some.injEq] at hc; subst hc
    obtain ⟨xv, h1, h2⟩ := with1_eq h
    obtain ⟨vs, h3, h4⟩ := withL_eq h2
    obtain ⟨h5, rfl⟩ := pureV_eq h4
    cases xs with
    | nil => simp [cOpds] at hx
    | cons o os =>
      have hv : vals e (x :: as) = some (xv :: vs) := by simp [vals, h1, h3]
      have hvs := opds_vrs he hx hv
      cases hvs with
      | cons hq hqs =>
        obtain ⟨z, h6, h7⟩ := min_run (P := P) (w := w) ts ty vs _ xv _ _ hqs hq h5
        exact (Val.same hr (u := z) (by simpa [Builtin.min_] using h6) h7).out
  · simp at hc
end
end Go.AM
namespace Go.AM
section
variable {P : Program} {base : Array Obj} {m : CM} {H H' : AH} {w : World} {nt : Nat} {e : Env} {a : Act} {v : AV}
theorem sim_eql {call : ACall} {op : BinOp} {neg : Bool} (hop : (op = .eql ∧ neg = false) ∨ (op = .neq ∧ neg = true)) {t : TypeId} {x y : Operand} {ao : AOp} (hc : cEql P nt op neg t x y = some ao) (hr : Rel P base m H w) (he : EnvR m e a.tmps) (h : aop call e H ao = some (v, H')) :
    Val P base m H w (do eqGuard op t x y (a.eval x) (a.eval y); binOp op t (a.eval x) (a.eval y)) v H' := by
  unfold cEql at hc
  split at hc
  · rename_i p q hp hq
    have hkinds : ∀ ks, kindsT P eqDepth t = some ks → ∃ g, aggT P t = some g := fun ks hk => by
      obtain ⟨_, g, hg, _⟩ := kinds_sized _ _ _ hk
      exact ⟨g, hg⟩
    split at hc
    · simp only [Option.some.injEq] at hc; subst hc
      obtain ⟨xv, h1, h2⟩ := with1_eq h
      obtain ⟨yv, h3, h4⟩ := with1_eq h2
      obtain ⟨h5, rfl⟩ := pureV_eq h4
      exact val_bin hr (opd_vr he hp h1) (opd_vr he hq h3) h5
    · simp only [Option.some.injEq] at hc; subst hc
      obtain ⟨xv, h1, h2⟩ := with1_eq h
      obtain ⟨yv, h3, h4⟩ := with1_eq h2
      obtain ⟨h5, rfl⟩ := pureV_eq h4
      exact val_bin hr (opd_vr he hp h1) (opd_vr he hq h3) h5
    · rename_i hu
      simp only [Option.map_eq_some_iff] at hc
      obtain ⟨ks, hk, rfl⟩ := hc
      obtain ⟨xv, h1, h2⟩ := with1_eq h
      obtain ⟨yv, h3, h4⟩ := with1_eq h2
      exact val_eqFlat hop hr hk (g := false) (by simp [aggT, hu]) (by decide) (by simp) (fun _ => hu) (opd_vr he hp h1) (opd_vr he hq h3) h4
    · rename_i fs hu
      split at hc
      · simp at hc
      · rename_i hgd
        simp only [Option.map_eq_some_iff] at hc
        obtain ⟨ks, hk, rfl⟩ := hc
        obtain ⟨xv, h1, h2⟩ := with1_eq h
        obtain ⟨yv, h3, h4⟩ := with1_eq h2
        exact val_eqFlat hop hr hk (g := true) (by simp [aggT, hu]) (by decide) (fun _ => by simpa using hgd) (by simp) (opd_vr he hp h1) (opd_vr he hq h3) h4
    · rename_i n el hu
      split at hc
      · simp at hc
      · rename_i hgd
        simp only [Option.map_eq_some_iff] at hc
        obtain ⟨ks, hk, rfl⟩ := hc
        obtain ⟨xv, h1, h2⟩ := with1_eq h
        obtain ⟨yv, h3, h4⟩ := with1_eq h2
        exact val_eqFlat hop hr hk (g := true) (by simp [aggT, hu]) (by decide) (fun _ => by simpa using hgd) (by simp) (opd_vr he hp h1) (opd_vr he hq h3) h4
    all_goals first
      | (simp at hc; done)
      | (rename_i hu
         simp only [Option.some.injEq] at hc; subst hc
         obtain ⟨xv, h1, h2⟩ := with1_eq h
         obtain ⟨yv, h3, h4⟩ := with1_eq h2
         exact val_eqNil hop hr hu rfl (opd_vr he hp h1) (opd_vr he hq h3) h4)
  · simp at hc
theorem cOpt_val (he : EnvR m e a.tmps) {x : Option Operand} {y : Option AOpd} (hc : cOpt nt x = some y) {v : Option AV} (hv : optVal e y = some v) :
    (v = none ∧ x.map a.eval = none) ∨ ∃ w u, v = some w ∧ x.map a.eval = some u ∧ VR m w u := by
  rcases opt_vr he hc hv with ⟨rfl, rfl⟩ | ⟨o, w, rfl, rfl, h⟩
  · exact .inl ⟨rfl, rfl⟩
  · exact .inr ⟨w, _, rfl, rfl, h⟩
theorem toArray_map (xs : Array Operand) (f : Operand → Value) : (xs.toList.map f).toArray = xs.map f := by
  apply Array.ext'
  simp
theorem made_op {call : ACall} {N : Nat} {o : Oper} {ao : AOp} (hc : cOp P nt o.op = some ao) (hcl : ao.cls = .alloc) (hN : N ≤ w.heap.size) (he : EnvR m e a.tmps) (h : aop call e H ao = some (v, H')) :
    ∃ mk obj, v = mk H.next ∧ H' = H.alloc obj ∧ ∃ s : Sem Value, execOp a.eval o = (do pure (.value (← s))) ∧ MadeV P N m w s mk obj := by
  obtain ⟨dst, op, type, pos, after, guard⟩ := o
  simp only at hc
  unfold cOp at hc
  split at hc
  case h_4 t =>
    simp only [Option.map_eq_some_iff] at hc
    obtain ⟨z, hz, rfl⟩ := hc
    simp only [aop, opAlloc, Option.some.injEq, Prod.mk.injEq] at h
    obtain ⟨rfl, rfl⟩ := h
    exact ⟨_, _, rfl, rfl, _, rfl, made_alloc hN hz⟩
  case h_5 t x =>
    obtain ⟨y, hy, rfl⟩ := cv_map hc
    obtain ⟨xv, h1, h2⟩ := with1_eq h
    unfold opBox at h2
    split at h2
    · rename_i cs hcs
      simp only [opAlloc, Option.some.injEq, Prod.mk.injEq] at h2
      obtain ⟨rfl, rfl⟩ := h2
      exact ⟨_, _, rfl, rfl, _, rfl, made_box hN (opd_vr he hy h1) hcs⟩
    · simp at h2
  case h_7 t len ps =>
    split at hc
    · rename_i el hu
      split at hc
      · rename_i n z hn hz
        split at hc
        · rename_i hcond
          simp only [Option.map_eq_some_iff] at hc
          obtain ⟨qs, hq, rfl⟩ := hc
          obtain ⟨rs, h1, h2⟩ := withP_eq h
          unfold opMkslice at h2
          split at h2
          · rename_i cs hcs
            simp only [Option.some.injEq, Prod.mk.injEq] at h2
            obtain ⟨rfl, rfl⟩ := h2
            exact ⟨fun b => .slice b 0 len n, _, rfl, rfl, _, rfl, made_mkslice hN he hu hz hn hcond.1 hcond.2.1 hcond.2.2 hq h1 hcs⟩
          · simp at h2
        · simp at hc
      · simp at hc
    · simp at hc
  case h_17 t =>
    simp only [Option.some.injEq] at hc; subst hc
    simp only [aop, Option.some.injEq, Prod.mk.injEq] at h
    obtain ⟨rfl, rfl⟩ := h
    exact ⟨fun b => .map b, _, rfl, rfl, _, rfl, made_makeMap hN⟩
  case h_18 t l c =>
    split at hc
    · rename_i el hu
      split at hc
      · rename_i n by_ z p q hn hb hz hp hq
        split at hc
        · rename_i hcond
          simp only [Option.some.injEq] at hc; subst hc
          obtain ⟨xv, h1, h2⟩ := with1_eq h
          obtain ⟨yv, h3, h4⟩ := with1_eq h2
          unfold opMakeSlice at h4
          split at h4
          · rename_i l' c' hl' hc'
            split at h4
            · rename_i hcd
              simp only [Option.some.injEq, Prod.mk.injEq] at h4
              obtain ⟨rfl, rfl⟩ := h4
              exact ⟨fun b => .slice b 0 l' n, _, rfl, rfl, _, rfl, made_makeSlice hN hu hn hb hz hcond.1 hcond.2 (opd_vr he hp h1) (opd_vr he hq h3) hl' hc' hcd.1 hcd.2.1 hcd.2.2.1⟩
            · simp at h4
          · simp at h4
        · simp at hc
      · simp at hc
    · simp at hc
  case h_11 => unfold cEql at hc; repeat' split at hc
               all_goals (first | (simp at hc; done) | (simp only [Option.map_eq_some_iff] at hc; obtain ⟨_, _, rfl⟩ := hc; simp [AOp.cls] at hcl) | (simp only [Option.some.injEq] at hc; subst hc; simp [AOp.cls] at hcl))
  case h_12 => unfold cEql at hc; repeat' split at hc
               all_goals (first | (simp at hc; done) | (simp only [Option.map_eq_some_iff] at hc; obtain ⟨_, _, rfl⟩ := hc; simp [AOp.cls] at hcl) | (simp only [Option.some.injEq] at hc; subst hc; simp [AOp.cls] at hcl))
  case h_29 c =>
    split at hc
    · split at hc
      · simp only [Option.some.injEq] at hc; subst hc; simp [AOp.cls] at hcl
      · simp at hc
    · unfold cBuiltin at hc
      repeat' split at hc
      all_goals (first | (simp at hc; done) | (simp only [Option.some.injEq] at hc; subst hc; simp [AOp.cls] at hcl))
    · simp at hc
  all_goals
    repeat' split at hc
    all_goals (first | (simp at hc; done) | (simp only [Option.map_eq_some_iff] at hc; obtain ⟨_, _, rfl⟩ := hc; simp [AOp.cls] at hcl) | (simp only [Option.some.injEq] at hc; subst hc; simp [AOp.cls] at hcl))
theorem sim_op {call : ACall} {o : Oper} {ao : AOp} (hc : cOp P nt o.op = some ao) (hr : Rel P base m H w) (he : EnvR m e a.tmps) (hnc : ∀ f as, ao ≠ .call f as) (h : aop call e H ao = some (v, H')) : Out P base m H w (execOp a.eval o) v H' := by
  by_cases hcl : ao.cls = .alloc
  · obtain ⟨mk, obj, rfl, rfl, sv, h1, h2⟩ := made_op (N := base.size) (w := w) hc hcl hr.size he h
    rw [h1]
    exact (h2.val hr).out
  obtain ⟨dst, op, type, pos, after, guard⟩ := o
  simp only at hc
  unfold cOp at hc
  split at hc
  case h_1 x =>
    obtain ⟨y, hy, rfl⟩ := cv_map hc
    obtain ⟨h1, rfl⟩ := pureV_eq h
    exact Out.same hr rfl (opd_vr he hy h1)
  case h_2 x =>
    obtain ⟨y, hy, rfl⟩ := cv_map hc
    obtain ⟨h1, rfl⟩ := pureV_eq h
    exact Out.same hr rfl (opd_vr he hy h1)
  case h_3 c x y =>
    split at hc
    · rename_i p q r hp hq hr'
      simp only [Option.some.injEq] at hc; subst hc
      obtain ⟨cv, h1, h2⟩ := with1_eq h
      obtain ⟨xv, h3, h4⟩ := with1_eq h2
      obtain ⟨yv, h5, h6⟩ := with1_eq h4
      have k1 := opd_vr he hp h1
      have k2 := opd_vr he hq h3
      have k3 := opd_vr he hr' h5
      cases cv <;> simp only [opPick, reduceCtorEq, Option.some.injEq, Prod.mk.injEq] at h6
      rename_i b
      obtain ⟨rfl, rfl⟩ := h6
      cases hcb : a.eval c with
      | bool b' =>
        rw [hcb] at k1
        cases k1
        refine Out.same hr (u := if b then a.eval x else a.eval y) ?_ ?_
        · simp [execOp, hcb, asBool]
        · cases b
          · exact k3
          · exact k2
      | _ => rw [hcb] at k1; cases k1
    · simp at hc
  case h_4 t =>
    simp only [Option.map_eq_some_iff] at hc
    obtain ⟨z, hz, rfl⟩ := hc
    exact absurd rfl hcl
  case h_5 t x =>
    obtain ⟨y, hy, rfl⟩ := cv_map hc
    exact absurd rfl hcl
  case h_6 t ps =>
    split at hc
    · rename_i z fs hz hu
      split at hc
      · rename_i hall
        simp only [Option.map_eq_some_iff] at hc
        obtain ⟨qs, hq, rfl⟩ := hc
        obtain ⟨rs, h1, h2⟩ := withP_eq h
        exact (val_build_struct hr he hu hz hall hq h1 h2).out
      · simp at hc
    · rename_i z n el hz hu
      split at hc
      · rename_i k hk
        simp only [Option.map_eq_some_iff] at hc
        obtain ⟨qs, hq, rfl⟩ := hc
        obtain ⟨rs, h1, h2⟩ := withP_eq h
        exact (val_build_array hr he hu hz hk hq h1 h2).out
      · simp at hc
    · simp at hc
  case h_7 t len ps =>
    split at hc
    · rename_i el hu
      split at hc
      · rename_i n z hn hz
        split at hc
        · rename_i hcond
          simp only [Option.map_eq_some_iff] at hc
          obtain ⟨qs, hq, rfl⟩ := hc
          exact absurd rfl hcl
        · simp at hc
      · simp at hc
    · simp at hc
  case h_8 t x =>
    split at hc
    · rename_i n y hg hn hy
      simp only [Option.some.injEq] at hc; subst hc
      obtain ⟨xv, h1, h2⟩ := with1_eq h
      exact (val_loadN hr hg hn (opd_vr he hy h1) h2).out
    · rename_i y hg hy _
      simp only [Option.some.injEq] at hc; subst hc
      obtain ⟨xv, h1, h2⟩ := with1_eq h
      exact (val_load hr ‹_› (opd_vr he ‹_› h1) h2).out
    · simp at hc
  case h_9 t x y =>
    split at hc
    · rename_i n p q hn hp hq
      simp only [Option.some.injEq] at hc; subst hc
      obtain ⟨xv, h1, h2⟩ := with1_eq h
      obtain ⟨yv, h3, h4⟩ := with1_eq h2
      exact out_store hr hn (opd_vr he hp h1) (opd_vr he hq h3) h4
    · simp at hc
  case h_10 x =>
    obtain ⟨y, hy, rfl⟩ := cv_map hc
    obtain ⟨xv, h1, h2⟩ := with1_eq h
    have k := opd_vr he hy h1
    have : ∀ u, a.eval x = u → VR m xv u → Out P base m H w (execOp a.eval ⟨dst, .nilCheck x, type, pos, after, guard⟩) v H' := fun u hu hv => by
      have hv' := hv
      cases hv <;> simp only [opNilCheck, reduceCtorEq, Option.some.injEq, Prod.mk.injEq] at h2
      all_goals
        obtain ⟨rfl, rfl⟩ := h2
        exact Out.same hr (by simp only [execOp, hu, Sem.run_pure]) hv'
    exact this _ rfl k
  case h_11 t x y yt => exact (sim_eql (.inl ⟨rfl, rfl⟩) hc hr he h).out
  case h_12 t x y yt => exact (sim_eql (.inr ⟨rfl, rfl⟩) hc hr he h).out
  case h_13 op t x y yt _ _ =>
    split at hc
    · rename_i p q hp hq
      simp only [Option.some.injEq] at hc; subst hc
      obtain ⟨xv, h1, h2⟩ := with1_eq h
      obtain ⟨yv, h3, h4⟩ := with1_eq h2
      obtain ⟨h5, rfl⟩ := pureV_eq h4
      exact (val_bin hr (opd_vr he hp h1) (opd_vr he hq h3) h5).out
    · simp at hc
  case h_14 op t x =>
    obtain ⟨y, hy, rfl⟩ := cv_map hc
    obtain ⟨xv, h1, h2⟩ := with1_eq h
    exact (val_un hr (opd_vr he hy h1) h2).out
  case h_15 src dst' x =>
    split at hc
    · rename_i j k y hu1 hu2 hy
      simp only [Option.some.injEq] at hc; subst hc
      obtain ⟨xv, h1, h2⟩ := with1_eq h
      exact (val_toInt hr hu1 hu2 (opd_vr he hy h1) h2).out
    · rename_i y hu1 hu2 hy
      simp only [Option.some.injEq] at hc; subst hc
      obtain ⟨xv, h1, h2⟩ := with1_eq h
      exact (val_strId hr hu1 hu2 (opd_vr he hy h1) h2).out
    · simp at hc
  case h_16 f first captured =>
    split at hc
    · rename_i p q hp hq
      simp only [Option.some.injEq] at hc; subst hc
      obtain ⟨xs, h1, h2⟩ := withL_eq h
      obtain ⟨ys, h3, h4⟩ := withL_eq h2
      simp only [Option.some.injEq, Prod.mk.injEq] at h4
      obtain ⟨rfl, rfl⟩ := h4
      have k1 := opds_vrs he hp h1
      have k2 := opds_vrs he hq h3
      refine Out.same hr (u := .func (.func f) (first.map a.eval) (captured.map a.eval)) rfl ?_
      rw [← toArray_map, ← toArray_map]
      exact .func f k1 k2
    · simp at hc
  case h_17 t =>
    simp only [Option.some.injEq] at hc; subst hc
    exact absurd rfl hcl
  case h_18 t l c =>
    split at hc
    · rename_i el hu
      split at hc
      · rename_i n by_ z p q hn hb hz hp hq
        split at hc
        · rename_i hcond
          simp only [Option.some.injEq] at hc; subst hc
          exact absurd rfl hcl
        · simp at hc
      · simp at hc
    · simp at hc
  case h_19 t x lo hi =>
    split at hc
    · rename_i p l h' hu hp hl hh
      simp only [Option.some.injEq] at hc; subst hc
      obtain ⟨xv, h1, h2⟩ := with1_eq h
      obtain ⟨lv, h3, h4⟩ := withO_eq h2
      obtain ⟨hv, h5, h6⟩ := withO_eq h4
      exact (val_sliceStr hr hu (opd_vr he hp h1) (cOpt_val he hl h3) (cOpt_val he hh h5) h6).out
    · rename_i el p l h' hu hp hl hh
      simp only [Option.map_eq_some_iff] at hc
      obtain ⟨n, hn, rfl⟩ := hc
      obtain ⟨xv, h1, h2⟩ := with1_eq h
      obtain ⟨lv, h3, h4⟩ := withO_eq h2
      obtain ⟨hv, h5, h6⟩ := withO_eq h4
      exact (val_sliceSl hr hu hn (opd_vr he hp h1) (cOpt_val he hl h3) (cOpt_val he hh h5) h6).out
    · rename_i len el p l h' hu hp hl hh
      simp only [Option.map_eq_some_iff] at hc
      obtain ⟨n, hn, rfl⟩ := hc
      obtain ⟨xv, h1, h2⟩ := with1_eq h
      obtain ⟨lv, h3, h4⟩ := withO_eq h2
      obtain ⟨hv, h5, h6⟩ := withO_eq h4
      exact (val_sliceArr hr hu hn (opd_vr he hp h1) (cOpt_val he hl h3) (cOpt_val he hh h5) h6).out
    · simp at hc
  case h_20 t x k =>
    split at hc
    · rename_i fs p hu hp
      split at hc
      · rename_i f hf
        split at hc
        · rename_i n hn
          split at hc
          · simp at hc
          · rename_i hn0
            simp only [Option.some.injEq] at hc; subst hc
            obtain ⟨xv, h1, h2⟩ := with1_eq h
            exact (val_off hr hu hf hn hn0 (opd_vr he hp h1) h2).out
        · simp at hc
      · simp at hc
    · simp at hc
  case h_21 t x k =>
    split at hc
    · rename_i fs p hu hp
      split at hc
      · rename_i f hf
        split at hc
        · rename_i n hg hn
          simp only [Option.some.injEq] at hc; subst hc
          obtain ⟨xv, h1, h2⟩ := with1_eq h
          exact (val_partN hr hu hf hg hn (opd_vr he hp h1) h2).out
        · rename_i hg _
          simp only [Option.some.injEq] at hc; subst hc
          obtain ⟨xv, h1, h2⟩ := with1_eq h
          exact (val_part hr hu hf ‹_› (opd_vr he hp h1) h2).out
        · simp at hc
      · simp at hc
    · simp at hc
  case h_22 t x i =>
    split at hc
    · rename_i el p q hu hp hq
      simp only [Option.map_eq_some_iff] at hc
      obtain ⟨n, hn, rfl⟩ := hc
      obtain ⟨xv, h1, h2⟩ := with1_eq h
      obtain ⟨yv, h3, h4⟩ := with1_eq h2
      exact (val_idxSl hr hu hn (opd_vr he hp h1) (opd_vr he hq h3) h4).out
    · rename_i len el p q hu hp hq
      simp only [Option.map_eq_some_iff] at hc
      obtain ⟨n, hn, rfl⟩ := hc
      obtain ⟨xv, h1, h2⟩ := with1_eq h
      obtain ⟨yv, h3, h4⟩ := with1_eq h2
      exact (val_idxArr hr hu hn (opd_vr he hp h1) (opd_vr he hq h3) h4).out
    · simp at hc
  case h_23 t x i =>
    split at hc
    · rename_i p q hu hp hq
      simp only [Option.some.injEq] at hc; subst hc
      obtain ⟨xv, h1, h2⟩ := with1_eq h
      obtain ⟨yv, h3, h4⟩ := with1_eq h2
      exact (val_byteAt hr hu (opd_vr he hp h1) (opd_vr he hq h3) h4).out
    · rename_i len el p q hu hp hq
      split at hc
      · rename_i n g hn hg
        simp only [Option.some.injEq] at hc; subst hc
        obtain ⟨xv, h1, h2⟩ := with1_eq h
        obtain ⟨yv, h3, h4⟩ := with1_eq h2
        exact (val_at hr hu hn hg (opd_vr he hp h1) (opd_vr he hq h3) h4).out
      · simp at hc
    · simp at hc
  case h_24 t x k ok =>
    split at hc
    · rename_i kt et p q hu hp hq
      split at hc
      · rename_i ks z g hk hz hg
        simp only [Option.some.injEq] at hc; subst hc
        simp only [Option.bind_eq_some_iff] at hz
        obtain ⟨zv, hz1, hz2⟩ := hz
        obtain ⟨xv, h1, h2⟩ := with1_eq h
        obtain ⟨yv, h3, h4⟩ := with1_eq h2
        exact (val_lookup hr hu hk hg (by decide) hz1 (cv_vr hz2) (opd_vr he hp h1) (opd_vr he hq h3) h4).out
      · simp at hc
    · simp at hc
  case h_25 t x k y =>
    split at hc
    · rename_i kt et p q r hu hp hq hr'
      split at hc
      · rename_i ks g hk hg
        simp only [Option.some.injEq] at hc; subst hc
        obtain ⟨xv, h1, h2⟩ := with1_eq h
        obtain ⟨kv, h3, h4⟩ := with1_eq h2
        obtain ⟨yv, h5, h6⟩ := with1_eq h4
        exact out_update hr hu hk hg (by decide) (opd_vr he hp h1) (opd_vr he hq h3) (opd_vr he hr' h5) h6
      · simp at hc
    · simp at hc
  case h_26 t x =>
    split at hc
    · rename_i p hu hp
      simp only [Option.some.injEq] at hc; subst hc
      obtain ⟨xv, h1, h2⟩ := with1_eq h
      exact (val_rangeStr hr hu (opd_vr he hp h1) h2).out
    · simp at hc
  case h_27 it =>
    obtain ⟨y, hy, rfl⟩ := cv_map hc
    obtain ⟨xv, h1, h2⟩ := with1_eq h
    exact (val_nextStr hr (opd_vr he hy h1) h2).out
  case h_28 x i =>
    obtain ⟨y, hy, rfl⟩ := cv_map (f := fun y => AOp.extract i y) hc
    obtain ⟨xv, h1, h2⟩ := with1_eq h
    exact (val_extract hr (opd_vr he hy h1) h2).out
  case h_29 c =>
    split at hc
    · split at hc
      · simp only [Option.some.injEq] at hc; exact absurd hc.symm (hnc _ _)
      · simp at hc
    · rename_i b hb
      have key : ∀ cs, Out P base m H w (builtin b c.argTypes type cs (c.args.map a.eval)) v H' := fun cs => by
        rw [← toArray_map]; exact sim_builtin hc hr he h
      simp only [execOp, resolve, hb, pure_bind, invoke]
      exact key _
    · simp at hc
  case h_30 => simp at hc
end
end Go.AM
namespace Go.AM
structure WideF (F : Fence) : Prop where
  fn : ∀ f, F.fn f
  depth : F.depth = none
theorem WideF.inRound {F : Fence} (h : WideF F) (l : Nat) : WideF (F.inRound l) := ⟨h.fn, h.depth⟩
theorem WideF.plain {F : Fence} (h : WideF F) : WideF F.plain := ⟨h.fn, h.depth⟩
section
variable {P : Program} {base : Array Obj} {m : CM} {H H' : AH} {w : World} {nt : Nat} {e : Env} {a : Act} {v : AV} {F : Fence} {n : Nat}
def After (P : Program) (base : Array Obj) (m : CM) (H : AH) (w : World) (v : AV) (H' : AH) : Ending → World → Prop :=
  fun e w' => ∃ u m', e = .returned u ∧ VR m' v u ∧ Rel P base m' H' w' ∧ Ext m H w m' H' w'
def CallV (F : Fence) (n : Nat) (P : Program) (uf : Value) (us : Array Value) (w : World) (R : Ending → World → Prop) : Prop :=
  match uf with
  | .func (.func f) first captured => (∃ fn, P.funcs[f]? = some fn ∧ fn.body.isSome = true ∧ (fn.name == "runtime.NumGoroutine") = false) ∧ CallsIn F n P f (first ++ us ++ captured) w R
  | .func (.yield l) first _ => first = #[] ∧ ∃ r, w.heap[l]? = some (.loop r) ∧ us.size = r.params.size ∧ RoundIn F n P l r.fn ((r.params.zip us).foldl (fun tmps (t, a) => tmps.setIfInBounds t a) r.tmps) r.assign r.body w R
  | _ => False
def SimCall (P : Program) (call : ACall) : Prop :=
  ∀ (base : Array Obj) (m : CM) (H : AH) (w : World) (fv : AV) (uf : Value) (args : List AV) (us : List Value) (v : AV) (H' : AH) (F : Fence) (n : Nat), WideF F → F.round = none → call fv args H = some (v, H') → Rel P base m H w → VR m fv uf → VRs m args us →
    CallV F n P uf us.toArray w (After P base m H w v H')
theorem wpIn_call {o : Oper} {f : Operand} {xs : Array Operand} {ts : Array TypeId} (ho : o.op = .call { callee := .value f, args := xs, argTypes := ts }) (hF : WideF F) {next : Act → World → Prop} {Q : Exit → Act → World → Prop} {R : Ending → World → Prop}
    (hc : ∀ n, CallV F.plain n P (a.eval f) (xs.map a.eval) w R) (hR : ∀ e w', R e w' → ∃ u, e = .returned u ∧ next (a.put o.dst u) w') : o.wpIn F n P a w next Q := by
  refine ⟨fun g _ => hF.fn g, ?_⟩
  rw [Oper.semAt_eq _ _ _ (fun c => by rw [ho]; simp)]
  have hd : F.depth.isSome = true → 1 ≤ n := fun h => by rw [hF.depth] at h; simp at h
  have hmono : ∀ (e : Ending) (w' : World), R e w' → (match e, w' with
      | .returned v, w'' => next (a.put o.dst v) w''
      | .panicked chain, w'' => Q (.panic chain) a w''
      | .outgrown, _ => LetsOut Q) := fun e w' h => by
    obtain ⟨u, rfl, h2⟩ := hR e w' h
    exact h2
  cases hf : a.eval f with
  | func fn first captured =>
    cases fn with
    | func g =>
      have hc' := hc (n - 1)
      rw [hf] at hc'
      obtain ⟨⟨fn, h1, h2, h3⟩, h4⟩ := hc'
      have hrun : (execOp a.eval o).run P w = .ok (.enter g (first ++ xs.map a.eval ++ captured)) w := by
        have hb : fn.body.isNone = false := by
          cases hbd : fn.body with
          | none => rw [hbd] at h2; simp at h2
          | some _ => rfl
        simp only [execOp, ho, resolve, hf, Deferred.ofValue, pure_bind, invoke, callFunc, Sem.run_bind, run_program, Result.andThen_ok, h1, h3, hb, Bool.false_eq_true, if_false, Sem.run_pure]
      rw [hrun]
      refine ⟨hd, ?_⟩
      exact CallsIn.mono h4 hmono
    | yield l =>
      have hc' := hc (n - 1)
      rw [hf] at hc'
      obtain ⟨rfl, r, h1, h2, h3⟩ := hc'
      have hrun : (execOp a.eval o).run P w = .ok (.round l r.fn ((r.params.zip (xs.map a.eval)).foldl (fun tmps (t, a) => tmps.setIfInBounds t a) r.tmps) r.assign r.body) w := by
        have := run_yield (P := P) (args := #[] ++ xs.map a.eval) h1 (by simpa using h2)
        simp only [execOp, ho, resolve, hf, Deferred.ofValue, pure_bind, invoke]
        simpa using this
      rw [hrun]
      refine ⟨hd, ?_⟩
      exact RoundIn.mono h3 hmono
    | _ => have hc' := hc 0; rw [hf] at hc'; exact hc'.elim
  | _ => have hc' := hc 0; rw [hf] at hc'; exact hc'.elim
theorem put_defers' (a : Act) (d : Option Tmp) (u : Value) : (a.put d u).defers = a.defers := by cases d <;> rfl
theorem wanted_eq (he : EnvR m e a.tmps) {ops : Array Oper} {o : Oper} {ao : AOper} {id : Nat} {pre : List Nat} (hc : cOper P a.tmps.size ops id pre o = some ao) {b : Bool} (h : ao.wanted e = some b) : Region.wanted o (yielded ops a.tmps) = b := by
  unfold cOper at hc
  split at hc
  · split at hc
    · split at hc
      · rename_i hg
        simp only [Option.some.injEq] at hc; subst hc
        simp only [AOper.wanted, Option.some.injEq] at h
        subst h
        simp [Region.wanted, hg]
      · rename_i j want hg
        split at hc
        · rename_i t ht
          split at hc
          · rename_i hlt
            simp only [Option.some.injEq] at hc; subst hc
            simp only [AOper.wanted] at h
            have hget : a.tmps[t]? = some (a.tmps.getD t undef) := by simp [Array.getD, hlt]
            split at h
            · rename_i b' hb'
              obtain ⟨_, hv⟩ := he t _ hb'
              simp only [Option.some.injEq] at h; subst h
              have hval : a.tmps.getD t undef = .bool b' := by
                cases hq : a.tmps.getD t undef <;> rw [hq] at hv <;> cases hv
                rfl
              rw [hval] at hget
              simp only [Region.wanted, hg, yielded, ht, Option.bind_some, hget]
              cases b' <;> cases want <;> rfl
            · rename_i hb'
              obtain ⟨_, hv⟩ := he t _ hb'
              simp only [Option.some.injEq] at h; subst h
              have hval : ∃ us, a.tmps.getD t undef = .tuple us := by
                cases hq : a.tmps.getD t undef <;> rw [hq] at hv <;> cases hv
                exact ⟨_, rfl⟩
              obtain ⟨us, hval⟩ := hval
              rw [hval] at hget
              simp only [Region.wanted, hg, yielded, ht, Option.bind_some, hget]
              cases want <;> rfl
            · simp at h
          · simp at hc
        · simp at hc
    · simp at hc
  · simp at hc
theorem cOper_op {ops : Array Oper} {o : Oper} {ao : AOper} {id : Nat} {pre : List Nat} (hc : cOper P nt ops id pre o = some ao) : cOp P nt o.op = some ao.op ∧ cDst nt o.dst = true ∧ ao.dst = o.dst := by
  unfold cOper at hc
  split at hc
  · rename_i op hop
    split at hc
    · rename_i hd
      split at hc
      · simp only [Option.some.injEq] at hc; subst hc; exact ⟨hop, hd, rfl⟩
      · split at hc
        · split at hc
          · simp only [Option.some.injEq] at hc; subst hc; exact ⟨hop, hd, rfl⟩
          · simp at hc
        · simp at hc
    · simp at hc
  · simp at hc
theorem cOp_call {o : Oper} {f : AOpd} {xs : List AOpd} (hc : cOp P nt o.op = some (.call f xs)) : ∃ g ys ts, o.op = .call { callee := .value g, args := ys, argTypes := ts } ∧ cOpd nt g = some f ∧ cOpds nt ys.toList = some xs := by
  unfold cOp at hc
  split at hc
  case h_29 c hop =>
    split at hc
    · rename_i g hg
      split at hc
      · rename_i f' as hf has
        simp only [Option.some.injEq, AOp.call.injEq] at hc
        obtain ⟨rfl, rfl⟩ := hc
        obtain ⟨cal, args, ats⟩ := c
        simp only at hg
        subst hg
        exact ⟨g, args, ats, by assumption, hf, has⟩
      · simp at hc
    · rename_i b hb
      unfold cBuiltin at hc
      repeat' split at hc
      all_goals simp at hc
    · simp at hc
  case h_11 => unfold cEql at hc; repeat' split at hc
               all_goals simp at hc
  case h_12 => unfold cEql at hc; repeat' split at hc
               all_goals simp at hc
  all_goals
    repeat' split at hc
    all_goals (simp at hc; done)
theorem sim_oper {call : ACall} (hS : SimCall P call) {o : Oper} {ao : AOp} (hc : cOp P a.tmps.size o.op = some ao) (hF : WideF F) (hr : Rel P base m H w) (he : EnvR m e a.tmps) (h : aop call e H ao = some (v, H')) {next : Act → World → Prop} {Q : Exit → Act → World → Prop}
    (hn : ∀ u m' w', VR m' v u → Rel P base m' H' w' → Ext m H w m' H' w' → next (a.put o.dst u) w') : o.wpIn F n P a w next Q := by
  by_cases hcall : ∃ f xs, ao = .call f xs
  · obtain ⟨f, xs, rfl⟩ := hcall
    obtain ⟨g, ys, ts, hop, hg, hys⟩ := cOp_call hc
    obtain ⟨fv, h1, h2⟩ := with1_eq h
    obtain ⟨vs, h3, h4⟩ := withL_eq h2
    have k1 := opd_vr he hg h1
    have k2 := opds_vrs he hys h3
    have hmap : (ys.toList.map a.eval).toArray = ys.map a.eval := toArray_map _ _
    refine wpIn_call hop hF (R := After P base m H w v H') (fun n => ?_) (fun e w' ⟨u, m', he', h5, h6, h7⟩ => ⟨u, he', hn u m' w' h5 h6 h7⟩)
    rw [← hmap]
    exact hS base m H w fv _ vs _ v H' F.plain n hF.plain rfl h4 hr k1 k2
  · have := sim_op hc hr he (fun f xs h => hcall ⟨f, xs, h⟩) h
    obtain ⟨nx, u, w', m', hrun, hnx, hv, hr', hx⟩ := this
    refine ⟨fun g _ => hF.fn g, ?_⟩
    have hnd : ∀ c, o.op ≠ .defer c := fun c hcd => by rw [hcd] at hc; simp [cOp] at hc
    rw [Oper.semAt_eq _ _ _ hnd, hrun]
    rcases hnx with rfl | ⟨rfl, rfl⟩
    · exact hn u m' w' hv hr' hx
    · exact hn undef m' w' hv hr' hx
theorem sim_ops {call : ACall} (hS : SimCall P call) {ops : Array Oper} (hF : WideF F) {Q : Exit → Act → World → Prop} : ∀ (os : List AOper) (k : Nat) (e : Env) (H : AH) (m : CM) (a : Act) (w : World) (e' : Env) (H' : AH), cOpers P a.tmps.size ops k (ops.toList.drop k) = some os → aops call os e H = some (e', H') →
    Rel P base m H w → EnvR m e a.tmps → (∀ m' a' w', Rel P base m' H' w' → Ext m H w m' H' w' → EnvR m' e' a'.tmps → a'.tmps.size = a.tmps.size → a'.defers = a.defers → Q .normal a' w') →
    wpOpsIn F n P ops Q (List.range' k (ops.size - k)) a w
  | [], k, e, H, m, a, w, e', H', hc, h, hr, he, hq => by
    have hk : ops.size - k = 0 := by
      cases hl : ops.toList.drop k with
      | nil => have := List.drop_eq_nil_iff.1 hl; simp at this; omega
      | cons o l =>
        rw [hl] at hc
        simp only [cOpers] at hc
        split at hc
        · split at hc <;> simp at hc
        · simp at hc
    rw [hk]
    simp only [aops, Option.some.injEq, Prod.mk.injEq] at h
    obtain ⟨rfl, rfl⟩ := h
    exact hq m a w hr (Ext.refl _ _ _) he rfl rfl
  | ao :: os, k, e, H, m, a, w, e', H', hc, h, hr, he, hq => by
    cases hl : ops.toList.drop k with
    | nil => rw [hl] at hc; simp [cOpers] at hc
    | cons o l =>
      rw [hl] at hc
      have hlt : k < ops.size := by
        rcases Nat.lt_or_ge k ops.size with h | h
        · exact h
        · rw [List.drop_eq_nil_of_le (by simpa using h)] at hl; simp at hl
      have hok : ops[k]? = some o := by
        have := congrArg (fun l => l[0]?) hl
        simpa [List.getElem?_drop] using this
      have hl' : ops.toList.drop (k + 1) = l := by
        rw [← List.drop_drop, hl]; rfl
      simp only [cOpers] at hc
      split at hc
      · rename_i ao' hao
        split at hc
        · rename_i os' hos
          simp only [Option.some.injEq, List.cons.injEq] at hc
          obtain ⟨rfl, rfl⟩ := hc
          have hrange : List.range' k (ops.size - k) = k :: List.range' (k + 1) (ops.size - (k + 1)) := by
            rw [show ops.size - k = (ops.size - (k + 1)) + 1 from by omega, List.range'_succ]
          rw [hrange]
          obtain ⟨c1, c2, c3⟩ := cOper_op hao
          simp only [aops] at h
          simp only [wpOpsIn, hok]
          split at h
          · rename_i hw
            rw [wanted_eq he hao hw]
            simp only [if_true]
            split at h
            · rename_i v1 H1 hop
              refine sim_oper hS c1 hF hr he hop fun u m1 w1 hv hr1 hx1 => ?_
              have hsz := Act.put_size a o.dst u
              refine sim_ops hS hF os' (k + 1) _ H1 m1 (a.put o.dst u) w1 e' H' (by rw [hsz, hl']; exact hos) h hr1 ?_ fun m' a' w' q1 q2 q3 q4 q5 => ?_
              · rw [c3]; exact (he.mono hx1.le).putDst c2 hv
              · exact hq m' a' w' q1 (hx1.trans q2) q3 (by rw [q4, hsz]) (by rw [q5, put_defers'])
            · simp at h
          · rename_i hw
            rw [wanted_eq he hao hw]
            simp only [Bool.false_eq_true, if_false]
            refine ⟨fun g _ => hF.fn g, ?_⟩
            have hsz := Act.put_size a o.dst undef
            refine sim_ops hS hF os' (k + 1) _ H m (a.put o.dst undef) w e' H' (by rw [hsz, hl']; exact hos) h hr ?_ fun m' a' w' q1 q2 q3 q4 q5 => ?_
            · rw [c3]; exact he.putDst c2 (.tuple .nil)
            · exact hq m' a' w' q1 q2 q3 (by rw [q4, hsz]) (by rw [q5, put_defers'])
          · simp at h
        · simp at hc
      · simp at hc
end
end Go.AM
namespace Go.AM
theorem val_congr {e1 e2 : Env} {x : AOpd} (h : ∀ t ∈ x.reads, e1.get t = e2.get t) : x.val e1 = x.val e2 := by
  cases x with
  | s t => exact h t (by simp [AOpd.reads])
  | c v => rfl
theorem vals_congr {e1 e2 : Env} : ∀ {xs : List AOpd}, (∀ t ∈ readsL xs, e1.get t = e2.get t) → vals e1 xs = vals e2 xs
  | [], _ => rfl
  | x :: xs, h => by
    have h1 : x.val e1 = x.val e2 := val_congr fun t ht => h t (by simp [readsL, ht])
    have h2 : vals e1 xs = vals e2 xs := vals_congr fun t ht => h t (by simp [readsL, ht])
    simp only [vals, h1, h2]
theorem partVals_congr {e1 e2 : Env} : ∀ {xs : List (Nat × Nat × AOpd)}, (∀ t ∈ readsP xs, e1.get t = e2.get t) → partVals e1 xs = partVals e2 xs
  | [], _ => rfl
  | (o, n, x) :: xs, h => by
    have h1 : x.val e1 = x.val e2 := val_congr fun t ht => h t (by simp [readsP, ht])
    have h2 : partVals e1 xs = partVals e2 xs := partVals_congr fun t ht => h t (by simp [readsP, ht])
    simp only [partVals, h1, h2]
theorem optVal_congr {e1 e2 : Env} {x : Option AOpd} (h : ∀ t ∈ readsO x, e1.get t = e2.get t) : optVal e1 x = optVal e2 x := by
  cases x with
  | none => rfl
  | some x =>
    have h1 : x.val e1 = x.val e2 := val_congr fun t ht => h t (by simp [readsO, ht])
    simp only [optVal, h1]
theorem aop_congr {call : ACall} {e1 e2 : Env} {H : AH} {o : AOp} (h : ∀ t ∈ o.reads, e1.get t = e2.get t) : aop call e1 H o = aop call e2 H o := by
  have v1 : ∀ x : AOpd, (∀ t ∈ x.reads, t ∈ o.reads) → x.val e1 = x.val e2 := fun x hx => val_congr fun t ht => h t (hx t ht)
  have vl : ∀ xs : List AOpd, (∀ t ∈ readsL xs, t ∈ o.reads) → vals e1 xs = vals e2 xs := fun xs hx => vals_congr fun t ht => h t (hx t ht)
  have vp : ∀ xs : List (Nat × Nat × AOpd), (∀ t ∈ readsP xs, t ∈ o.reads) → partVals e1 xs = partVals e2 xs := fun xs hx => partVals_congr fun t ht => h t (hx t ht)
  have vo : ∀ x : Option AOpd, (∀ t ∈ readsO x, t ∈ o.reads) → optVal e1 x = optVal e2 x := fun x hx => optVal_congr fun t ht => h t (hx t ht)
  cases o
  case pick c a b => simp only [aop, v1 c (by simp +contextual [AOp.reads]), v1 a (by simp +contextual [AOp.reads]), v1 b (by simp +contextual [AOp.reads])]
  case build z ps => simp only [aop, vp ps (by simp [AOp.reads])]
  case mkslice a b z ps => simp only [aop, vp ps (by simp [AOp.reads])]
  case func f a b => simp only [aop, vl a (by simp +contextual [AOp.reads]), vl b (by simp +contextual [AOp.reads])]
  case sliceStr x lo hi => simp only [aop, v1 x (by simp +contextual [AOp.reads]), vo lo (by simp +contextual [AOp.reads]), vo hi (by simp +contextual [AOp.reads])]
  case sliceSl z x lo hi => simp only [aop, v1 x (by simp +contextual [AOp.reads]), vo lo (by simp +contextual [AOp.reads]), vo hi (by simp +contextual [AOp.reads])]
  case sliceArr n z x lo hi => simp only [aop, v1 x (by simp +contextual [AOp.reads]), vo lo (by simp +contextual [AOp.reads]), vo hi (by simp +contextual [AOp.reads])]
  case update g ks a b c => simp only [aop, v1 a (by simp +contextual [AOp.reads]), v1 b (by simp +contextual [AOp.reads]), v1 c (by simp +contextual [AOp.reads])]
  case call f xs => simp only [aop, v1 f (by simp +contextual [AOp.reads]), vl xs (by simp +contextual [AOp.reads])]
  case maxInt f xs => simp only [aop, v1 f (by simp +contextual [AOp.reads]), vl xs (by simp +contextual [AOp.reads])]
  case minInt f xs => simp only [aop, v1 f (by simp +contextual [AOp.reads]), vl xs (by simp +contextual [AOp.reads])]
  case alloc z => rfl
  case makeMap => rfl
  all_goals first
    | (rename_i x; simp only [aop, v1 x (by simp [AOp.reads])]; done)
    | (rename_i x y; simp only [aop, v1 x (by simp +contextual [AOp.reads]), v1 y (by simp +contextual [AOp.reads])]; done)
theorem aop_pure {call : ACall} {e : Env} {H H' : AH} {o : AOp} {v : AV} (hc : o.cls = .pure) (h : aop call e H o = some (v, H')) : H' = H ∧ ∀ S, aop call e S o = some (v, S) := by
  cases o <;> simp only [AOp.cls, reduceCtorEq] at hc
  all_goals simp only [aop] at h ⊢
  all_goals
    simp only [with1, withL, withP, withO, pureV, opPick, opBuild, opNilCheck, boolOf, opUn, opToInt, opStrId, opSliceStr, opSliceSl, opOff, opIdxSl, opIdxArr, opPart, opPartN, opAt, opByteAt, opExtract, opLen, aggOf] at h ⊢
    repeat' split at h
    all_goals first
      | (simp at h; done)
      | (simp only [Option.some.injEq, Prod.mk.injEq] at h; obtain ⟨rfl, rfl⟩ := h; simp_all)
theorem aop_load {call : ACall} {e : Env} {H H' : AH} {o : AOp} {v : AV} (hc : o.cls = .load) (h : aop call e H o = some (v, H')) : H' = H := by
  cases o <;> simp only [AOp.cls, reduceCtorEq] at hc
  all_goals simp only [aop] at h
  all_goals
    simp only [with1, withO, opLoad, opLoadN, opLookup, opLenMap, opSliceArr, aggOf, pureV] at h
    repeat' split at h
    all_goals first
      | (simp at h; done)
      | (simp only [Option.some.injEq, Prod.mk.injEq] at h; exact h.2.symm)
end Go.AM
namespace Go.AM
def LeC (c c' : ACall) : Prop := ∀ f a H r, c f a H = some r → c' f a H = some r
theorem with1_mono {x : Option AV} {f g : AV → ORes} {r : AV × AH} (h : ∀ v, f v = some r → g v = some r) (hr : with1 x f = some r) : with1 x g = some r := by
  cases x with
  | none => cases hr
  | some v => exact h v hr
theorem withL_mono {x : Option (List AV)} {f g : List AV → ORes} {r : AV × AH} (h : ∀ v, f v = some r → g v = some r) (hr : withL x f = some r) : withL x g = some r := by
  cases x with
  | none => cases hr
  | some v => exact h v hr
def AOp.isCall : AOp → Bool
  | .call _ _ => true
  | _ => false
theorem aop_nocall {c c' : ACall} {e : Env} {H : AH} {o : AOp} (h : o.isCall = false) : aop c e H o = aop c' e H o := by
  cases o <;> first | rfl | (simp [AOp.isCall] at h)
theorem aop_mono {c c' : ACall} (hc : LeC c c') {e : Env} {H : AH} {o : AOp} {r : AV × AH} (h : aop c e H o = some r) : aop c' e H o = some r := by
  cases ho : o.isCall with
  | false => rw [← aop_nocall (c := c) ho]; exact h
  | true =>
    cases o <;> simp only [AOp.isCall, reduceCtorEq] at ho
    simp only [aop] at h ⊢
    exact with1_mono (fun v => withL_mono fun vs => hc _ _ _ _) h
theorem aops_mono {c c' : ACall} (hc : LeC c c') : ∀ {os : List AOper} {e : Env} {H : AH} {r : Env × AH}, aops c os e H = some r → aops c' os e H = some r
  | [], _, _, _, h => h
  | o :: os, e, H, r, h => by
    simp only [aops] at h ⊢
    split at h
    · rename_i hw
      try simp only [hw]
      cases ho : aop c e H o.op with
      | none => rw [ho] at h; cases h
      | some x =>
        rw [ho] at h
        rw [aop_mono hc ho]
        exact aops_mono hc h
    · rename_i hw
      try simp only [hw]
      exact aops_mono hc h
    · cases h
theorem aopsT_mono {c c' : ACall} (hc : LeC c c') : ∀ {os : List AOper} {e : Env} {H : AH} {r : List Step × Env × AH}, aopsT c os e H = some r → aopsT c' os e H = some r
  | [], _, _, _, h => h
  | o :: os, e, H, r, h => by
    simp only [aopsT] at h ⊢
    split at h
    · rename_i hw
      try simp only [hw]
      cases ho : aop c e H o.op with
      | none => rw [ho] at h; cases h
      | some x =>
        rw [ho] at h
        rw [aop_mono hc ho]
        simp only at h ⊢
        cases hq : aopsT c os (putDst e o.dst x.1) x.2 with
        | none => rw [hq] at h; cases h
        | some y => rw [hq] at h; rw [aopsT_mono hc hq]; exact h
    · rename_i hw
      try simp only [hw]
      cases hq : aopsT c os (putDst e o.dst (.tuple [])) H with
      | none => rw [hq] at h; cases h
      | some y => rw [hq] at h; rw [aopsT_mono hc hq]; exact h
    · cases h
theorem stableIn_same {c c' : ACall} {S : AH} {over todo : List AOper} {s : Step} : stableIn c S over todo s = stableIn c' S over todo s := by
  unfold stableIn
  split
  · rename_i h
    have hl : s.o.op.isCall = false := by
      have : s.o.op.cls = .load := by simp_all
      cases ho : s.o.op <;> rw [ho] at this <;> simp [AOp.cls] at this <;> rfl
    rw [aop_nocall (c := c) (c' := c') hl]
  · rfl
theorem stable_same {c c' : ACall} {all : List Step} {last : AH} : ∀ {l : List Step} {over : List AOper}, stable c all over l last = stable c' all over l last
  | [], over => by
    simp only [stable]
    congr 1
    funext s
    exact stableIn_same
  | s :: l, over => by
    simp only [stable]
    split
    · rw [stable_same (l := l)]
      congr 2
      funext s
      exact stableIn_same
    · exact stable_same
theorem adraw_mono {c c' : ACall} (hc : LeC c c') {os : List AOper} {e : Env} {H : AH} {r : Env × AH} (h : adraw c os e H = some r) : adraw c' os e H = some r := by
  unfold adraw at h ⊢
  cases hq : aopsT c os e H with
  | none => rw [hq] at h; cases h
  | some y =>
    rw [hq] at h
    rw [aopsT_mono hc hq]
    simp only at h ⊢
    rw [stable_same (c := c') (c' := c)]
    exact h
theorem aloop_mono {f g : Env → AH → CRes} (h : ∀ e H r, f e H = some r → g e H = some r) : ∀ {n m : Nat}, n ≤ m → ∀ {e : Env} {H : AH} {r}, aloop n f e H = some r → aloop m g e H = some r
  | 0, _, _, _, _, _, hr => by cases hr
  | n + 1, 0, hm, _, _, _, _ => by omega
  | n + 1, m + 1, hm, e, H, r, hr => by
    simp only [aloop] at hr ⊢
    cases hf : f e H with
    | none => rw [hf] at hr; cases hr
    | some x =>
      rw [hf] at hr
      rw [h _ _ _ hf]
      obtain ⟨x, e', H'⟩ := x
      cases x with
      | normal => exact aloop_mono h (by omega) hr
      | exit i => exact hr
      | ret => exact hr
theorem code_mono {c c' : ACall} (hc : LeC c c') {n m : Nat} (hn : n ≤ m) : ∀ {cd : ACode} {e : Env} {H : AH} {r}, code c n cd e H = some r → code c' m cd e H = some r
  | .skip, _, _, _, h => h
  | .exit _, _, _, _, h => h
  | .ret, _, _, _, h => h
  | .reg ops kp, e, H, r, h => by
    simp only [code] at h ⊢
    cases hq : aops c ops e H with
    | none => rw [hq] at h; cases h
    | some y => rw [hq] at h; rw [aops_mono hc hq]; exact h
  | .draw ops kp, e, H, r, h => by
    simp only [code] at h ⊢
    cases hq : adraw c ops e H with
    | none => rw [hq] at h; cases h
    | some y => rw [hq] at h; rw [adraw_mono hc hq]; exact h
  | .seq a b, e, H, r, h => by
    simp only [code] at h ⊢
    cases hq : code c n a e H with
    | none => rw [hq] at h; cases h
    | some y =>
      rw [hq] at h
      rw [code_mono hc hn hq]
      obtain ⟨x, e', H'⟩ := y
      cases x with
      | normal => exact code_mono hc hn h
      | exit i => exact h
      | ret => exact h
  | .cond x a b, e, H, r, h => by
    simp only [code] at h ⊢
    split at h
    · rename_i t ht
      try simp only [ht]
      cases t with
      | true => exact code_mono hc hn h
      | false => exact code_mono hc hn h
    · cases h
  | .block id a, e, H, r, h => by
    simp only [code] at h ⊢
    cases hq : code c n a e H with
    | none => rw [hq] at h; cases h
    | some y =>
      rw [hq] at h
      rw [code_mono hc hn hq]
      exact h
  | .loop a, e, H, r, h => by
    simp only [code] at h ⊢
    exact aloop_mono (fun e H r h => code_mono hc hn h) hn h
  | .range f ps as bd, e, H, r, h => by
    simp only [code] at h ⊢
    split at h
    · rename_i g fs cs hf
      try simp only [hf]
      cases hq : c (.func g fs cs) [.yield H.next] (H.alloc (.loop { state := .ready, pending := .normal, env := e, params := ps, assign := as, body := bd })) with
      | none => rw [hq] at h; cases h
      | some y =>
        rw [hq] at h
        rw [hc _ _ _ _ hq]
        exact h
    · cases h
theorem acallv_step {prog : Nat → Option AFunc} {n : Nat} (ih : LeC (acallv prog n) (acallv prog (n + 1))) : LeC (acallv prog (n + 1)) (acallv prog (n + 2)) := by
  intro f args H r h
  have cm : ∀ {cd : ACode} {e : Env} {H : AH} {r}, code (acallv prog n) n cd e H = some r → code (acallv prog (n + 1)) (n + 1) cd e H = some r := fun h => code_mono ih (by omega) h
  cases f with
  | func f first captured =>
    simp only [acallv] at h ⊢
    split at h
    · rename_i fn hfn
      split at h
      · rename_i hl
        simp only [hfn, hl, if_true]
        cases hq : code (acallv prog n) n fn.body (envFrom 0 (first ++ args ++ captured)) H with
        | none => rw [hq] at h; cases h
        | some y => rw [hq] at h; rw [cm hq]; exact h
      · cases h
    · cases h
  | yield l =>
    simp only [acallv] at h ⊢
    split at h
    · rename_i L hL
      try simp only [hL]
      split at h
      · rename_i hl
        rw [if_pos hl]
        cases hq : code (acallv prog n) n L.assign (bindAll L.env L.params args) H with
        | none => rw [hq] at h; cases h
        | some y =>
          rw [hq] at h
          rw [cm hq]
          obtain ⟨x, e1, H1⟩ := y
          cases x with
          | normal =>
            simp only at h ⊢
            split at h
            · rename_i L1 hL1
              try simp only [hL1]
              split at h
              · rename_i hs
                rw [if_pos hs]
                cases hq2 : code (acallv prog n) n L.body e1 (H1.set l (.loop { L1 with state := .busy })) with
                | none => rw [hq2] at h; cases h
                | some z => rw [hq2] at h; rw [cm hq2]; exact h
              · cases h
            · cases h
          | exit i => cases h
          | ret => cases h
      · cases h
    · cases h
  | _ => cases h
theorem acallv_succ {prog : Nat → Option AFunc} : ∀ n, LeC (acallv prog n) (acallv prog (n + 1))
  | 0 => fun f a H r h => by simp [acallv] at h
  | n + 1 => acallv_step (acallv_succ n)
theorem acallv_mono {prog : Nat → Option AFunc} {n m : Nat} (h : n ≤ m) : LeC (acallv prog n) (acallv prog m) := by
  induction h with
  | refl => exact fun _ _ _ _ h => h
  | step _ ih => exact fun f a H r h => acallv_succ _ _ _ _ _ (ih f a H r h)
def CallQ (prog : Nat → Option AFunc) (fv : AV) (args : List AV) (H : AH) (R : AV → AH → Prop) : Prop :=
  ∃ n v H', acallv prog n fv args H = some (v, H') ∧ R v H'
def Wp (prog : Nat → Option AFunc) (c : ACode) (e : Env) (H : AH) (Q : AExit → Env → AH → Prop) : Prop :=
  ∃ n x e' H', code (acallv prog n) n c e H = some (x, e', H') ∧ Q x e' H'
def WpOps (prog : Nat → Option AFunc) (os : List AOper) (e : Env) (H : AH) (Q : Env → AH → Prop) : Prop :=
  ∃ n e' H', aops (acallv prog n) os e H = some (e', H') ∧ Q e' H'
section
variable {prog : Nat → Option AFunc} {e : Env} {H : AH} {Q Q' : AExit → Env → AH → Prop} {R R' : AV → AH → Prop}
theorem CallQ.mono {fv : AV} {args : List AV} (h : CallQ prog fv args H R) (hR : ∀ v H', R v H' → R' v H') : CallQ prog fv args H R' :=
  let ⟨n, v, H', h1, h2⟩ := h; ⟨n, v, H', h1, hR _ _ h2⟩
theorem Wp.mono {c : ACode} (h : Wp prog c e H Q) (hQ : ∀ x e' H', Q x e' H' → Q' x e' H') : Wp prog c e H Q' :=
  let ⟨n, x, e', H', h1, h2⟩ := h; ⟨n, x, e', H', h1, hQ _ _ _ h2⟩
theorem WpOps.mono {os : List AOper} {Q Q' : Env → AH → Prop} (h : WpOps prog os e H Q) (hQ : ∀ e' H', Q e' H' → Q' e' H') : WpOps prog os e H Q' :=
  let ⟨n, e', H', h1, h2⟩ := h; ⟨n, e', H', h1, hQ _ _ h2⟩
theorem code_up {n m : Nat} (hn : n ≤ m) {c : ACode} {e : Env} {H : AH} {r} (h : code (acallv prog n) n c e H = some r) : code (acallv prog m) m c e H = some r :=
  code_mono (acallv_mono hn) hn h
theorem WpOps_nil {Q : Env → AH → Prop} : WpOps prog [] e H Q ↔ Q e H :=
  ⟨fun ⟨_, _, _, h, hq⟩ => by simp only [aops, Option.some.injEq, Prod.mk.injEq] at h; obtain ⟨rfl, rfl⟩ := h; exact hq, fun h => ⟨0, e, H, rfl, h⟩⟩
def aop0 (e : Env) (H : AH) (o : AOp) : ORes := aop (fun _ _ _ => none) e H o
theorem WpOps_step {o : AOper} {os : List AOper} {Q : Env → AH → Prop} (hc : o.op.isCall = false) : WpOps prog (o :: os) e H Q ↔
    match o.wanted e with
    | some true => match aop0 e H o.op with
      | some (v, H') => WpOps prog os (putDst e o.dst v) H' Q
      | none => False
    | some false => WpOps prog os (putDst e o.dst (.tuple [])) H Q
    | none => False := by
  unfold WpOps aop0
  simp only [aops]
  cases hw : o.wanted e with
  | none => simp
  | some b =>
    cases b with
    | false => simp
    | true =>
      simp only
      have hn : ∀ n, aop (acallv prog n) e H o.op = aop (fun _ _ _ => none) e H o.op := fun n => aop_nocall hc
      simp only [hn]
      cases aop (fun _ _ _ => none) e H o.op with
      | none => simp
      | some x => simp
theorem WpOps_call {d : Option Nat} {f : AOpd} {xs : List AOpd} {g : Option (Nat × Bool)} {id : Nat} {pre : List Nat} {os : List AOper} {Q : Env → AH → Prop} {fv : AV} {vs : List AV} (hw : AOper.wanted ⟨d, .call f xs, g, id, pre⟩ e = some true) (hf : f.val e = some fv) (hv : vals e xs = some vs)
    (h : CallQ prog fv vs H fun v H' => WpOps prog os (putDst e d v) H' Q) : WpOps prog (⟨d, .call f xs, g, id, pre⟩ :: os) e H Q := by
  obtain ⟨n, v, H1, h1, m, e2, H2, h2, hq⟩ := h
  refine ⟨max n m, e2, H2, ?_, hq⟩
  simp only [aops, hw, aop, hf, hv, with1, withL]
  rw [acallv_mono (Nat.le_max_left n m) _ _ _ _ h1]
  exact aops_mono (acallv_mono (Nat.le_max_right n m)) h2
theorem Wp_skip (h : Q .normal e H) : Wp prog .skip e H Q := ⟨0, _, _, _, rfl, h⟩
theorem Wp_exit {i : Nat} (h : Q (.exit i) e H) : Wp prog (.exit i) e H Q := ⟨0, _, _, _, rfl, h⟩
theorem Wp_ret (h : Q .ret e H) : Wp prog .ret e H Q := ⟨0, _, _, _, rfl, h⟩
theorem Wp_reg {ops : List AOper} {kp : List Nat} (h : WpOps prog ops e H fun e' H' => Q .normal (e'.keep kp) H') : Wp prog (.reg ops kp) e H Q := by
  obtain ⟨n, e', H', h1, h2⟩ := h
  exact ⟨n, _, _, _, by simp only [code, h1], h2⟩
theorem Wp_seq {a b : ACode} (h : Wp prog a e H fun x e' H' => match x with
    | .normal => Wp prog b e' H' Q
    | x => Q x e' H') : Wp prog (.seq a b) e H Q := by
  obtain ⟨n, x, e1, H1, h1, h2⟩ := h
  cases x with
  | normal =>
    obtain ⟨m, y, e2, H2, h3, h4⟩ := h2
    refine ⟨max n m, y, e2, H2, ?_, h4⟩
    simp only [code]
    rw [code_up (Nat.le_max_left n m) h1]
    exact code_up (Nat.le_max_right n m) h3
  | exit i => exact ⟨n, _, _, _, by simp only [code, h1], h2⟩
  | ret => exact ⟨n, _, _, _, by simp only [code, h1], h2⟩
theorem Wp_cond {c : AOpd} {a b : ACode} {t : Bool} (hc : c.val e = some (.bool t)) (h : if t then Wp prog a e H Q else Wp prog b e H Q) : Wp prog (.cond c a b) e H Q := by
  cases t with
  | true =>
    obtain ⟨n, x, e1, H1, h1, h2⟩ := h
    exact ⟨n, x, e1, H1, by simp only [code, hc, if_true]; exact h1, h2⟩
  | false =>
    obtain ⟨n, x, e1, H1, h1, h2⟩ := h
    exact ⟨n, x, e1, H1, by simp only [code, hc]; exact h1, h2⟩
theorem Wp_block {id : Nat} {a : ACode} (h : Wp prog a e H fun x e' H' => match x with
    | .exit i => if i = id then Q .normal e' H' else Q (.exit i) e' H'
    | x => Q x e' H') : Wp prog (.block id a) e H Q := by
  obtain ⟨n, x, e1, H1, h1, h2⟩ := h
  cases x with
  | exit i =>
    by_cases hi : i = id
    · simp only [hi, if_true] at h2
      exact ⟨n, _, _, _, by simp only [code, h1, hi, if_true], h2⟩
    · simp only [hi, if_false] at h2
      exact ⟨n, _, _, _, by simp only [code, h1, hi, if_false], h2⟩
  | normal => exact ⟨n, _, _, _, by simp only [code, h1], h2⟩
  | ret => exact ⟨n, _, _, _, by simp only [code, h1], h2⟩
theorem Wp_loop {a : ACode} (I : Nat → Env → AH → Prop) (step : ∀ k e H, I k e H → Wp prog a e H fun x e' H' => match x with
    | .normal => ∃ k', k' < k ∧ I k' e' H'
    | x => Q x e' H') : ∀ k e H, I k e H → Wp prog (.loop a) e H Q := by
  intro k
  induction k using Nat.strongRecOn with
  | _ k ih =>
    intro e H hI
    obtain ⟨n, x, e1, H1, h1, h2⟩ := step k e H hI
    cases x with
    | normal =>
      obtain ⟨k', hk, hI'⟩ := h2
      obtain ⟨m, y, e2, H2, h3, h4⟩ := ih k' hk e1 H1 hI'
      refine ⟨max n m + 1, y, e2, H2, ?_, h4⟩
      simp only [code] at h3 ⊢
      simp only [aloop]
      rw [code_up (Nat.le_trans (Nat.le_max_left n m) (Nat.le_succ _)) h1]
      exact aloop_mono (fun e H r h => code_up (Nat.le_trans (Nat.le_max_right n m) (Nat.le_succ _)) h) (Nat.le_max_right n m) h3
    | exit i =>
      refine ⟨n + 1, _, _, _, ?_, h2⟩
      simp only [code, aloop]
      rw [code_up (Nat.le_succ n) h1]
    | ret =>
      refine ⟨n + 1, _, _, _, ?_, h2⟩
      simp only [code, aloop]
      rw [code_up (Nat.le_succ n) h1]
theorem Wp_range {f : AOpd} {ps : List Nat} {as bd : ACode} {g : Nat} {fs cs : List AV} (hf : f.val e = some (.func g fs cs))
    (h : CallQ prog (.func g fs cs) [.yield H.next] (H.alloc (.loop { state := .ready, pending := .normal, env := e, params := ps, assign := as, body := bd })) fun _ H2 =>
      ∃ L, H2.get H.next = some (.loop L) ∧ L.state ≠ .busy ∧ Q L.pending e (H2.set H.next (.loop { L with state := .over }))) : Wp prog (.range f ps as bd) e H Q := by
  obtain ⟨n, v, H2, h1, L, hL, hb, hq⟩ := h
  exact ⟨n, _, _, _, by simp only [code, hf, h1, hL, hb, if_false], hq⟩
theorem CallQ_func {f : Nat} {first captured args : List AV} {fn : AFunc} (hp : prog f = some fn) (hl : (first ++ args ++ captured).length ≤ fn.nt)
    (h : Wp prog fn.body (envFrom 0 (first ++ args ++ captured)) H fun x e' H' => match x with
      | .exit _ => False
      | _ => ∃ vs, resVals e' H' fn.res = some vs ∧ R (oneOf vs) H') : CallQ prog (.func f first captured) args H R := by
  obtain ⟨n, x, e1, H1, h1, h2⟩ := h
  cases x with
  | exit i => exact h2.elim
  | normal =>
    obtain ⟨vs, h3, h4⟩ := h2
    exact ⟨n + 1, _, _, by simp only [acallv, hp, hl, if_true, h1, h3], h4⟩
  | ret =>
    obtain ⟨vs, h3, h4⟩ := h2
    exact ⟨n + 1, _, _, by simp only [acallv, hp, hl, if_true, h1, h3], h4⟩
theorem CallQ_yield {l : Nat} {args : List AV} {L : ALoop} (hL : H.get l = some (.loop L)) (hl : args.length = L.params.length)
    (h : Wp prog L.assign (bindAll L.env L.params args) H fun x e1 H1 => x = .normal ∧ ∃ L1, H1.get l = some (.loop L1) ∧ L1.state = .ready ∧
      Wp prog L.body e1 (H1.set l (.loop { L1 with state := .busy })) fun y _ H2 => ∃ L2, H2.get l = some (.loop L2) ∧ match y with
        | .normal => R (.bool true) (H2.set l (.loop { L2 with state := .ready, pending := .normal }))
        | y => R (.bool false) (H2.set l (.loop { L2 with state := .done, pending := y }))) : CallQ prog (.yield l) args H R := by
  obtain ⟨n, x, e1, H1, h1, rfl, L1, hL1, hs, m, y, e2, H2, h2, L2, hL2, hq⟩ := h
  have k1 := code_up (Nat.le_max_left n m) h1
  have k2 := code_up (Nat.le_max_right n m) h2
  cases y with
  | normal => exact ⟨max n m + 1, _, _, by simp only [acallv, hL, hl, if_true, k1, hL1, hs, k2, hL2], hq⟩
  | exit i => exact ⟨max n m + 1, _, _, by simp only [acallv, hL, hl, if_true, k1, hL1, hs, k2, hL2], hq⟩
  | ret => exact ⟨max n m + 1, _, _, by simp only [acallv, hL, hl, if_true, k1, hL1, hs, k2, hL2], hq⟩
end
end Go.AM
namespace Go.AM
def Then (x : ORes) (k : AV → AH → Prop) : Prop :=
  match x with
  | some (v, H) => k v H
  | none => False
def ThenO (prog : Nat → Option AFunc) (x : ORes) (d : Option Nat) (os : List AOper) (e : Env) (Q : Env → AH → Prop) : Prop :=
  match x with
  | some (v, H) => WpOps prog os (putDst e d v) H Q
  | none => False
section
variable {prog : Nat → Option AFunc} {e : Env} {H : AH} {d : Option Nat} {id : Nat} {pre : List Nat} {os : List AOper} {Q : Env → AH → Prop}
theorem WpOps_n {op : AOp} (hc : op.isCall = false) : WpOps prog (⟨d, op, none, id, pre⟩ :: os) e H Q ↔ Then (aop0 e H op) fun v H' => WpOps prog os (putDst e d v) H' Q := by
  rw [WpOps_step hc]
  simp only [AOper.wanted]
  cases aop0 e H op with
  | none => rfl
  | some x => rfl
def GuardO (prog : Nat → Option AFunc) (x : Option AV) (b : Bool) (d : Option Nat) (op : AOp) (id : Nat) (pre : List Nat) (os : List AOper) (e : Env) (H : AH) (Q : Env → AH → Prop) : Prop :=
  match x with
  | some (.bool x) => bif x == b then WpOps prog (⟨d, op, none, id, pre⟩ :: os) e H Q else WpOps prog os (putDst e d (.tuple [])) H Q
  | some (.tuple []) => WpOps prog os (putDst e d (.tuple [])) H Q
  | _ => False
theorem S_guard {op : AOp} {t : Nat} {b : Bool} : WpOps prog (⟨d, op, some (t, b), id, pre⟩ :: os) e H Q ↔ GuardO prog (e.get t) b d op id pre os e H Q := by
  have key : ∀ w, AOper.wanted ⟨d, op, some (t, b), id, pre⟩ e = w → (WpOps prog (⟨d, op, some (t, b), id, pre⟩ :: os) e H Q ↔ match w with
      | some true => WpOps prog (⟨d, op, none, id, pre⟩ :: os) e H Q
      | some false => WpOps prog os (putDst e d (.tuple [])) H Q
      | none => False) := by
    intro w hw
    unfold WpOps
    simp only [aops, hw]
    cases w with
    | none => simp
    | some b => cases b <;> simp [AOper.wanted]
  rw [key _ rfl]
  simp only [AOper.wanted, GuardO]
  cases hg : e.get t with
  | none => rfl
  | some v =>
    cases v <;> try rfl
    · rename_i x
      cases x <;> cases b <;> rfl
    · rename_i vs
      cases vs <;> rfl
end
theorem W :
    (∀ {prog : Nat → Option AFunc} {e : Env} {H : AH} {d : Option Nat} {id : Nat} {pre : List Nat} {os : List AOper} {Q : Env → AH → Prop} (x : AOpd), WpOps prog (⟨d, .move x, none, id, pre⟩ :: os) e H Q ↔ ThenO prog (aop0 e H (.move x)) d os e Q) ∧
    (∀ {prog : Nat → Option AFunc} {e : Env} {H : AH} {d : Option Nat} {id : Nat} {pre : List Nat} {os : List AOper} {Q : Env → AH → Prop} (c a b : AOpd), WpOps prog (⟨d, .pick c a b, none, id, pre⟩ :: os) e H Q ↔ ThenO prog (aop0 e H (.pick c a b)) d os e Q) ∧
    (∀ {prog : Nat → Option AFunc} {e : Env} {H : AH} {d : Option Nat} {id : Nat} {pre : List Nat} {os : List AOper} {Q : Env → AH → Prop} (zero : List AV), WpOps prog (⟨d, .alloc zero, none, id, pre⟩ :: os) e H Q ↔ ThenO prog (aop0 e H (.alloc zero)) d os e Q) ∧
    (∀ {prog : Nat → Option AFunc} {e : Env} {H : AH} {d : Option Nat} {id : Nat} {pre : List Nat} {os : List AOper} {Q : Env → AH → Prop} (x : AOpd), WpOps prog (⟨d, .box x, none, id, pre⟩ :: os) e H Q ↔ ThenO prog (aop0 e H (.box x)) d os e Q) ∧
    (∀ {prog : Nat → Option AFunc} {e : Env} {H : AH} {d : Option Nat} {id : Nat} {pre : List Nat} {os : List AOper} {Q : Env → AH → Prop} (zero : List AV) (parts : List (Nat × Nat × AOpd)), WpOps prog (⟨d, .build zero parts, none, id, pre⟩ :: os) e H Q ↔ ThenO prog (aop0 e H (.build zero parts)) d os e Q) ∧
    (∀ {prog : Nat → Option AFunc} {e : Env} {H : AH} {d : Option Nat} {id : Nat} {pre : List Nat} {os : List AOper} {Q : Env → AH → Prop} (len sz : Nat) (zero : List AV) (parts : List (Nat × Nat × AOpd)), WpOps prog (⟨d, .mkslice len sz zero parts, none, id, pre⟩ :: os) e H Q ↔ ThenO prog (aop0 e H (.mkslice len sz zero parts)) d os e Q) ∧
    (∀ {prog : Nat → Option AFunc} {e : Env} {H : AH} {d : Option Nat} {id : Nat} {pre : List Nat} {os : List AOper} {Q : Env → AH → Prop} (a : AOpd), WpOps prog (⟨d, .load a, none, id, pre⟩ :: os) e H Q ↔ ThenO prog (aop0 e H (.load a)) d os e Q) ∧
    (∀ {prog : Nat → Option AFunc} {e : Env} {H : AH} {d : Option Nat} {id : Nat} {pre : List Nat} {os : List AOper} {Q : Env → AH → Prop} (n : Nat) (a : AOpd), WpOps prog (⟨d, .loadN n a, none, id, pre⟩ :: os) e H Q ↔ ThenO prog (aop0 e H (.loadN n a)) d os e Q) ∧
    (∀ {prog : Nat → Option AFunc} {e : Env} {H : AH} {d : Option Nat} {id : Nat} {pre : List Nat} {os : List AOper} {Q : Env → AH → Prop} (n : Nat) (a x : AOpd), WpOps prog (⟨d, .store n a x, none, id, pre⟩ :: os) e H Q ↔ ThenO prog (aop0 e H (.store n a x)) d os e Q) ∧
    (∀ {prog : Nat → Option AFunc} {e : Env} {H : AH} {d : Option Nat} {id : Nat} {pre : List Nat} {os : List AOper} {Q : Env → AH → Prop} (x : AOpd), WpOps prog (⟨d, .nilCheck x, none, id, pre⟩ :: os) e H Q ↔ ThenO prog (aop0 e H (.nilCheck x)) d os e Q) ∧
    (∀ {prog : Nat → Option AFunc} {e : Env} {H : AH} {d : Option Nat} {id : Nat} {pre : List Nat} {os : List AOper} {Q : Env → AH → Prop} (op : BinOp) (x y : AOpd), WpOps prog (⟨d, .bin op x y, none, id, pre⟩ :: os) e H Q ↔ ThenO prog (aop0 e H (.bin op x y)) d os e Q) ∧
    (∀ {prog : Nat → Option AFunc} {e : Env} {H : AH} {d : Option Nat} {id : Nat} {pre : List Nat} {os : List AOper} {Q : Env → AH → Prop} (g : Bool) (ks : List SK) (neg : Bool) (x y : AOpd), WpOps prog (⟨d, .eqFlat g ks neg x y, none, id, pre⟩ :: os) e H Q ↔ ThenO prog (aop0 e H (.eqFlat g ks neg x y)) d os e Q) ∧
    (∀ {prog : Nat → Option AFunc} {e : Env} {H : AH} {d : Option Nat} {id : Nat} {pre : List Nat} {os : List AOper} {Q : Env → AH → Prop} (k : NK) (neg : Bool) (x y : AOpd), WpOps prog (⟨d, .eqNil k neg x y, none, id, pre⟩ :: os) e H Q ↔ ThenO prog (aop0 e H (.eqNil k neg x y)) d os e Q) ∧
    (∀ {prog : Nat → Option AFunc} {e : Env} {H : AH} {d : Option Nat} {id : Nat} {pre : List Nat} {os : List AOper} {Q : Env → AH → Prop} (op : UnOp) (x : AOpd), WpOps prog (⟨d, .un op x, none, id, pre⟩ :: os) e H Q ↔ ThenO prog (aop0 e H (.un op x)) d os e Q) ∧
    (∀ {prog : Nat → Option AFunc} {e : Env} {H : AH} {d : Option Nat} {id : Nat} {pre : List Nat} {os : List AOper} {Q : Env → AH → Prop} (k : IntKind) (x : AOpd), WpOps prog (⟨d, .toInt k x, none, id, pre⟩ :: os) e H Q ↔ ThenO prog (aop0 e H (.toInt k x)) d os e Q) ∧
    (∀ {prog : Nat → Option AFunc} {e : Env} {H : AH} {d : Option Nat} {id : Nat} {pre : List Nat} {os : List AOper} {Q : Env → AH → Prop} (x : AOpd), WpOps prog (⟨d, .strId x, none, id, pre⟩ :: os) e H Q ↔ ThenO prog (aop0 e H (.strId x)) d os e Q) ∧
    (∀ {prog : Nat → Option AFunc} {e : Env} {H : AH} {d : Option Nat} {id : Nat} {pre : List Nat} {os : List AOper} {Q : Env → AH → Prop} (f : Nat) (first captured : List AOpd), WpOps prog (⟨d, .func f first captured, none, id, pre⟩ :: os) e H Q ↔ ThenO prog (aop0 e H (.func f first captured)) d os e Q) ∧
    (∀ {prog : Nat → Option AFunc} {e : Env} {H : AH} {d : Option Nat} {id : Nat} {pre : List Nat} {os : List AOper} {Q : Env → AH → Prop} , WpOps prog (⟨d, .makeMap, none, id, pre⟩ :: os) e H Q ↔ ThenO prog (aop0 e H .makeMap) d os e Q) ∧
    (∀ {prog : Nat → Option AFunc} {e : Env} {H : AH} {d : Option Nat} {id : Nat} {pre : List Nat} {os : List AOper} {Q : Env → AH → Prop} (sz bytes : Nat) (zero : List AV) (len cap : AOpd), WpOps prog (⟨d, .makeSlice sz bytes zero len cap, none, id, pre⟩ :: os) e H Q ↔ ThenO prog (aop0 e H (.makeSlice sz bytes zero len cap)) d os e Q) ∧
    (∀ {prog : Nat → Option AFunc} {e : Env} {H : AH} {d : Option Nat} {id : Nat} {pre : List Nat} {os : List AOper} {Q : Env → AH → Prop} (x : AOpd) (lo hi : Option AOpd), WpOps prog (⟨d, .sliceStr x lo hi, none, id, pre⟩ :: os) e H Q ↔ ThenO prog (aop0 e H (.sliceStr x lo hi)) d os e Q) ∧
    (∀ {prog : Nat → Option AFunc} {e : Env} {H : AH} {d : Option Nat} {id : Nat} {pre : List Nat} {os : List AOper} {Q : Env → AH → Prop} (sz : Nat) (x : AOpd) (lo hi : Option AOpd), WpOps prog (⟨d, .sliceSl sz x lo hi, none, id, pre⟩ :: os) e H Q ↔ ThenO prog (aop0 e H (.sliceSl sz x lo hi)) d os e Q) ∧
    (∀ {prog : Nat → Option AFunc} {e : Env} {H : AH} {d : Option Nat} {id : Nat} {pre : List Nat} {os : List AOper} {Q : Env → AH → Prop} (n sz : Nat) (x : AOpd) (lo hi : Option AOpd), WpOps prog (⟨d, .sliceArr n sz x lo hi, none, id, pre⟩ :: os) e H Q ↔ ThenO prog (aop0 e H (.sliceArr n sz x lo hi)) d os e Q) ∧
    (∀ {prog : Nat → Option AFunc} {e : Env} {H : AH} {d : Option Nat} {id : Nat} {pre : List Nat} {os : List AOper} {Q : Env → AH → Prop} (n : Nat) (x : AOpd), WpOps prog (⟨d, .off n x, none, id, pre⟩ :: os) e H Q ↔ ThenO prog (aop0 e H (.off n x)) d os e Q) ∧
    (∀ {prog : Nat → Option AFunc} {e : Env} {H : AH} {d : Option Nat} {id : Nat} {pre : List Nat} {os : List AOper} {Q : Env → AH → Prop} (sz : Nat) (x i : AOpd), WpOps prog (⟨d, .idxSl sz x i, none, id, pre⟩ :: os) e H Q ↔ ThenO prog (aop0 e H (.idxSl sz x i)) d os e Q) ∧
    (∀ {prog : Nat → Option AFunc} {e : Env} {H : AH} {d : Option Nat} {id : Nat} {pre : List Nat} {os : List AOper} {Q : Env → AH → Prop} (len sz : Nat) (x i : AOpd), WpOps prog (⟨d, .idxArr len sz x i, none, id, pre⟩ :: os) e H Q ↔ ThenO prog (aop0 e H (.idxArr len sz x i)) d os e Q) ∧
    (∀ {prog : Nat → Option AFunc} {e : Env} {H : AH} {d : Option Nat} {id : Nat} {pre : List Nat} {os : List AOper} {Q : Env → AH → Prop} (off : Nat) (x : AOpd), WpOps prog (⟨d, .part off x, none, id, pre⟩ :: os) e H Q ↔ ThenO prog (aop0 e H (.part off x)) d os e Q) ∧
    (∀ {prog : Nat → Option AFunc} {e : Env} {H : AH} {d : Option Nat} {id : Nat} {pre : List Nat} {os : List AOper} {Q : Env → AH → Prop} (off n : Nat) (x : AOpd), WpOps prog (⟨d, .partN off n x, none, id, pre⟩ :: os) e H Q ↔ ThenO prog (aop0 e H (.partN off n x)) d os e Q) ∧
    (∀ {prog : Nat → Option AFunc} {e : Env} {H : AH} {d : Option Nat} {id : Nat} {pre : List Nat} {os : List AOper} {Q : Env → AH → Prop} (len sz : Nat) (isAgg : Bool) (x i : AOpd), WpOps prog (⟨d, .at len sz isAgg x i, none, id, pre⟩ :: os) e H Q ↔ ThenO prog (aop0 e H (.at len sz isAgg x i)) d os e Q) ∧
    (∀ {prog : Nat → Option AFunc} {e : Env} {H : AH} {d : Option Nat} {id : Nat} {pre : List Nat} {os : List AOper} {Q : Env → AH → Prop} (x i : AOpd), WpOps prog (⟨d, .byteAt x i, none, id, pre⟩ :: os) e H Q ↔ ThenO prog (aop0 e H (.byteAt x i)) d os e Q) ∧
    (∀ {prog : Nat → Option AFunc} {e : Env} {H : AH} {d : Option Nat} {id : Nat} {pre : List Nat} {os : List AOper} {Q : Env → AH → Prop} (g : Bool) (ks : List SK) (zero : AV) (ok : Bool) (m k : AOpd), WpOps prog (⟨d, .lookup g ks zero ok m k, none, id, pre⟩ :: os) e H Q ↔ ThenO prog (aop0 e H (.lookup g ks zero ok m k)) d os e Q) ∧
    (∀ {prog : Nat → Option AFunc} {e : Env} {H : AH} {d : Option Nat} {id : Nat} {pre : List Nat} {os : List AOper} {Q : Env → AH → Prop} (g : Bool) (ks : List SK) (m k v : AOpd), WpOps prog (⟨d, .update g ks m k v, none, id, pre⟩ :: os) e H Q ↔ ThenO prog (aop0 e H (.update g ks m k v)) d os e Q) ∧
    (∀ {prog : Nat → Option AFunc} {e : Env} {H : AH} {d : Option Nat} {id : Nat} {pre : List Nat} {os : List AOper} {Q : Env → AH → Prop} (x : AOpd), WpOps prog (⟨d, .rangeStr x, none, id, pre⟩ :: os) e H Q ↔ ThenO prog (aop0 e H (.rangeStr x)) d os e Q) ∧
    (∀ {prog : Nat → Option AFunc} {e : Env} {H : AH} {d : Option Nat} {id : Nat} {pre : List Nat} {os : List AOper} {Q : Env → AH → Prop} (it : AOpd), WpOps prog (⟨d, .nextStr it, none, id, pre⟩ :: os) e H Q ↔ ThenO prog (aop0 e H (.nextStr it)) d os e Q) ∧
    (∀ {prog : Nat → Option AFunc} {e : Env} {H : AH} {d : Option Nat} {id : Nat} {pre : List Nat} {os : List AOper} {Q : Env → AH → Prop} (i : Nat) (x : AOpd), WpOps prog (⟨d, .extract i x, none, id, pre⟩ :: os) e H Q ↔ ThenO prog (aop0 e H (.extract i x)) d os e Q) ∧
    (∀ {prog : Nat → Option AFunc} {e : Env} {H : AH} {d : Option Nat} {id : Nat} {pre : List Nat} {os : List AOper} {Q : Env → AH → Prop} (isStr : Bool) (x : AOpd), WpOps prog (⟨d, .len isStr x, none, id, pre⟩ :: os) e H Q ↔ ThenO prog (aop0 e H (.len isStr x)) d os e Q) ∧
    (∀ {prog : Nat → Option AFunc} {e : Env} {H : AH} {d : Option Nat} {id : Nat} {pre : List Nat} {os : List AOper} {Q : Env → AH → Prop} (x : AOpd), WpOps prog (⟨d, .lenMap x, none, id, pre⟩ :: os) e H Q ↔ ThenO prog (aop0 e H (.lenMap x)) d os e Q) ∧
    (∀ {prog : Nat → Option AFunc} {e : Env} {H : AH} {d : Option Nat} {id : Nat} {pre : List Nat} {os : List AOper} {Q : Env → AH → Prop} (sz bytes : Nat) (s x : AOpd), WpOps prog (⟨d, .append sz bytes s x, none, id, pre⟩ :: os) e H Q ↔ ThenO prog (aop0 e H (.append sz bytes s x)) d os e Q) ∧
    (∀ {prog : Nat → Option AFunc} {e : Env} {H : AH} {d : Option Nat} {id : Nat} {pre : List Nat} {os : List AOper} {Q : Env → AH → Prop} (sz : Nat) (y s : AOpd), WpOps prog (⟨d, .copy sz y s, none, id, pre⟩ :: os) e H Q ↔ ThenO prog (aop0 e H (.copy sz y s)) d os e Q) ∧
    (∀ {prog : Nat → Option AFunc} {e : Env} {H : AH} {d : Option Nat} {id : Nat} {pre : List Nat} {os : List AOper} {Q : Env → AH → Prop} (x : AOpd) (xs : List AOpd), WpOps prog (⟨d, .maxInt x xs, none, id, pre⟩ :: os) e H Q ↔ ThenO prog (aop0 e H (.maxInt x xs)) d os e Q) ∧
    (∀ {prog : Nat → Option AFunc} {e : Env} {H : AH} {d : Option Nat} {id : Nat} {pre : List Nat} {os : List AOper} {Q : Env → AH → Prop} (x : AOpd) (xs : List AOpd), WpOps prog (⟨d, .minInt x xs, none, id, pre⟩ :: os) e H Q ↔ ThenO prog (aop0 e H (.minInt x xs)) d os e Q) ∧
    (∀ {prog : Nat → Option AFunc} {e : Env} {H : AH} {Q : Env → AH → Prop}, WpOps prog [] e H Q ↔ Q e H) ∧
    (∀ {prog : Nat → Option AFunc} {v : AV} {H : AH} {d : Option Nat} {os : List AOper} {e : Env} {Q : Env → AH → Prop}, ThenO prog (some (v, H)) d os e Q ↔ WpOps prog os (putDst e d v) H Q) ∧
    (∀ {prog : Nat → Option AFunc} {e : Env} {H : AH} {d : Option Nat} {id : Nat} {pre : List Nat} {os : List AOper} {Q : Env → AH → Prop} {op : AOp} {t : Nat} {b : Bool}, WpOps prog (⟨d, op, some (t, b), id, pre⟩ :: os) e H Q ↔ GuardO prog (e.get t) b d op id pre os e H Q) ∧
    (∀ {prog : Nat → Option AFunc} {e : Env} {H : AH} {d : Option Nat} {id : Nat} {pre : List Nat} {os : List AOper} {Q : Env → AH → Prop} {op : AOp}, GuardO prog (some (.bool true)) true d op id pre os e H Q ↔ WpOps prog (⟨d, op, none, id, pre⟩ :: os) e H Q) ∧
    (∀ {prog : Nat → Option AFunc} {e : Env} {H : AH} {d : Option Nat} {id : Nat} {pre : List Nat} {os : List AOper} {Q : Env → AH → Prop} {op : AOp}, GuardO prog (some (.bool false)) false d op id pre os e H Q ↔ WpOps prog (⟨d, op, none, id, pre⟩ :: os) e H Q) ∧
    (∀ {prog : Nat → Option AFunc} {e : Env} {H : AH} {d : Option Nat} {id : Nat} {pre : List Nat} {os : List AOper} {Q : Env → AH → Prop} {op : AOp}, GuardO prog (some (.bool true)) false d op id pre os e H Q ↔ WpOps prog os (putDst e d (.tuple [])) H Q) ∧
    (∀ {prog : Nat → Option AFunc} {e : Env} {H : AH} {d : Option Nat} {id : Nat} {pre : List Nat} {os : List AOper} {Q : Env → AH → Prop} {op : AOp}, GuardO prog (some (.bool false)) true d op id pre os e H Q ↔ WpOps prog os (putDst e d (.tuple [])) H Q) ∧
    (∀ {prog : Nat → Option AFunc} {e : Env} {H : AH} {d : Option Nat} {id : Nat} {pre : List Nat} {os : List AOper} {Q : Env → AH → Prop} {op : AOp} {b : Bool}, GuardO prog (some (.tuple [])) b d op id pre os e H Q ↔ WpOps prog os (putDst e d (.tuple [])) H Q) :=
  ⟨by intros; exact WpOps_n rfl,
   by intros; exact WpOps_n rfl,
   by intros; exact WpOps_n rfl,
   by intros; exact WpOps_n rfl,
   by intros; exact WpOps_n rfl,
   by intros; exact WpOps_n rfl,
   by intros; exact WpOps_n rfl,
   by intros; exact WpOps_n rfl,
   by intros; exact WpOps_n rfl,
   by intros; exact WpOps_n rfl,
   by intros; exact WpOps_n rfl,
   by intros; exact WpOps_n rfl,
   by intros; exact WpOps_n rfl,
   by intros; exact WpOps_n rfl,
   by intros; exact WpOps_n rfl,
   by intros; exact WpOps_n rfl,
   by intros; exact WpOps_n rfl,
   by intros; exact WpOps_n rfl,
   by intros; exact WpOps_n rfl,
   by intros; exact WpOps_n rfl,
   by intros; exact WpOps_n rfl,
   by intros; exact WpOps_n rfl,
   by intros; exact WpOps_n rfl,
   by intros; exact WpOps_n rfl,
   by intros; exact WpOps_n rfl,
   by intros; exact WpOps_n rfl,
   by intros; exact WpOps_n rfl,
   by intros; exact WpOps_n rfl,
   by intros; exact WpOps_n rfl,
   by intros; exact WpOps_n rfl,
   by intros; exact WpOps_n rfl,
   by intros; exact WpOps_n rfl,
   by intros; exact WpOps_n rfl,
   by intros; exact WpOps_n rfl,
   by intros; exact WpOps_n rfl,
   by intros; exact WpOps_n rfl,
   by intros; exact WpOps_n rfl,
   by intros; exact WpOps_n rfl,
   by intros; exact WpOps_n rfl,
   by intros; exact WpOps_n rfl,
   WpOps_nil,
   Iff.rfl,
   S_guard,
   by intros; exact Iff.rfl,
   by intros; exact Iff.rfl,
   by intros; exact Iff.rfl,
   by intros; exact Iff.rfl,
   by intros; exact Iff.rfl⟩
theorem E1 :
    (∀ (e : Env) (H : AH) (x : AOpd), aop0 e H (.move x) = pureV H (x.val e)) ∧
    (∀ (e : Env) (H : AH) (c : AOpd) (a : AOpd) (b : AOpd), aop0 e H (.pick c a b) = with1 (c.val e) fun c => with1 (a.val e) fun a => with1 (b.val e) fun b => opPick c a b H) ∧
    (∀ (e : Env) (H : AH) (zero : List AV), aop0 e H (.alloc zero) = opAlloc zero H) ∧
    (∀ (e : Env) (H : AH) (x : AOpd), aop0 e H (.box x) = with1 (x.val e) fun v => opBox v H) ∧
    (∀ (e : Env) (H : AH) (zero : List AV) (parts : List (Nat × Nat × AOpd)), aop0 e H (.build zero parts) = withP (partVals e parts) fun ps => opBuild zero ps H) ∧
    (∀ (e : Env) (H : AH) (len : Nat) (sz : Nat) (zero : List AV) (parts : List (Nat × Nat × AOpd)), aop0 e H (.mkslice len sz zero parts) = withP (partVals e parts) fun ps => opMkslice len sz zero ps H) ∧
    (∀ (e : Env) (H : AH) (a : AOpd), aop0 e H (.load a) = with1 (a.val e) fun v => opLoad v H) ∧
    (∀ (e : Env) (H : AH) (n : Nat) (a : AOpd), aop0 e H (.loadN n a) = with1 (a.val e) fun v => opLoadN n v H) ∧
    (∀ (e : Env) (H : AH) (n : Nat) (a : AOpd) (x : AOpd), aop0 e H (.store n a x) = with1 (a.val e) fun a => with1 (x.val e) fun v => opStore n a v H) ∧
    (∀ (e : Env) (H : AH) (x : AOpd), aop0 e H (.nilCheck x) = with1 (x.val e) fun v => opNilCheck v H) ∧
    (∀ (e : Env) (H : AH) (op : BinOp) (x : AOpd) (y : AOpd), aop0 e H (.bin op x y) = with1 (x.val e) fun v => with1 (y.val e) fun u => pureV H (binA op v u)) ∧
    (∀ (e : Env) (H : AH) (g : Bool) (ks : List SK) (neg : Bool) (x : AOpd) (y : AOpd), aop0 e H (.eqFlat g ks neg x y) = with1 (x.val e) fun v => with1 (y.val e) fun u => boolOf H neg (eqFlatA g ks v u)) ∧
    (∀ (e : Env) (H : AH) (k : NK) (neg : Bool) (x : AOpd) (y : AOpd), aop0 e H (.eqNil k neg x y) = with1 (x.val e) fun v => with1 (y.val e) fun u => boolOf H neg (eqNilA k v u)) ∧
    (∀ (e : Env) (H : AH) (op : UnOp) (x : AOpd), aop0 e H (.un op x) = with1 (x.val e) fun v => opUn op v H) ∧
    (∀ (e : Env) (H : AH) (k : IntKind) (x : AOpd), aop0 e H (.toInt k x) = with1 (x.val e) fun v => opToInt k v H) ∧
    (∀ (e : Env) (H : AH) (x : AOpd), aop0 e H (.strId x) = with1 (x.val e) fun v => opStrId v H) ∧
    (∀ (e : Env) (H : AH) (f : Nat) (first : List AOpd) (captured : List AOpd), aop0 e H (.func f first captured) = withL (vals e first) fun a => withL (vals e captured) fun b => some (.func f a b, H)) ∧
    (∀ (e : Env) (H : AH) , aop0 e H .makeMap = some (.map H.next, H.alloc (.map []))) ∧
    (∀ (e : Env) (H : AH) (sz : Nat) (bytes : Nat) (zero : List AV) (len : AOpd) (cap : AOpd), aop0 e H (.makeSlice sz bytes zero len cap) = with1 (len.val e) fun l => with1 (cap.val e) fun c => opMakeSlice sz bytes zero l c H) ∧
    (∀ (e : Env) (H : AH) (x : AOpd) (lo : Option AOpd) (hi : Option AOpd), aop0 e H (.sliceStr x lo hi) = with1 (x.val e) fun v => withO (optVal e lo) fun lo => withO (optVal e hi) fun hi => opSliceStr v lo hi H) ∧
    (∀ (e : Env) (H : AH) (sz : Nat) (x : AOpd) (lo : Option AOpd) (hi : Option AOpd), aop0 e H (.sliceSl sz x lo hi) = with1 (x.val e) fun v => withO (optVal e lo) fun lo => withO (optVal e hi) fun hi => opSliceSl sz v lo hi H) ∧
    (∀ (e : Env) (H : AH) (n : Nat) (sz : Nat) (x : AOpd) (lo : Option AOpd) (hi : Option AOpd), aop0 e H (.sliceArr n sz x lo hi) = with1 (x.val e) fun v => withO (optVal e lo) fun lo => withO (optVal e hi) fun hi => opSliceArr n sz v lo hi H) ∧
    (∀ (e : Env) (H : AH) (n : Nat) (x : AOpd), aop0 e H (.off n x) = with1 (x.val e) fun v => opOff n v H) ∧
    (∀ (e : Env) (H : AH) (sz : Nat) (x : AOpd) (i : AOpd), aop0 e H (.idxSl sz x i) = with1 (x.val e) fun v => with1 (i.val e) fun i => opIdxSl sz v i H) ∧
    (∀ (e : Env) (H : AH) (len : Nat) (sz : Nat) (x : AOpd) (i : AOpd), aop0 e H (.idxArr len sz x i) = with1 (x.val e) fun v => with1 (i.val e) fun i => opIdxArr len sz v i H) ∧
    (∀ (e : Env) (H : AH) (o : Nat) (x : AOpd), aop0 e H (.part o x) = with1 (x.val e) fun v => opPart o v H) ∧
    (∀ (e : Env) (H : AH) (o : Nat) (n : Nat) (x : AOpd), aop0 e H (.partN o n x) = with1 (x.val e) fun v => opPartN o n v H) ∧
    (∀ (e : Env) (H : AH) (len : Nat) (sz : Nat) (g : Bool) (x : AOpd) (i : AOpd), aop0 e H (.at len sz g x i) = with1 (x.val e) fun v => with1 (i.val e) fun i => opAt len sz g v i H) ∧
    (∀ (e : Env) (H : AH) (x : AOpd) (i : AOpd), aop0 e H (.byteAt x i) = with1 (x.val e) fun v => with1 (i.val e) fun i => opByteAt v i H) ∧
    (∀ (e : Env) (H : AH) (g : Bool) (ks : List SK) (zero : AV) (ok : Bool) (m : AOpd) (k : AOpd), aop0 e H (.lookup g ks zero ok m k) = with1 (m.val e) fun m => with1 (k.val e) fun k => opLookup g ks zero ok m k H) ∧
    (∀ (e : Env) (H : AH) (g : Bool) (ks : List SK) (m : AOpd) (k : AOpd) (v : AOpd), aop0 e H (.update g ks m k v) = with1 (m.val e) fun m => with1 (k.val e) fun k => with1 (v.val e) fun v => opUpdate g ks m k v H) ∧
    (∀ (e : Env) (H : AH) (x : AOpd), aop0 e H (.rangeStr x) = with1 (x.val e) fun v => opRangeStr v H) ∧
    (∀ (e : Env) (H : AH) (x : AOpd), aop0 e H (.nextStr x) = with1 (x.val e) fun v => opNextStr v H) ∧
    (∀ (e : Env) (H : AH) (i : Nat) (x : AOpd), aop0 e H (.extract i x) = with1 (x.val e) fun v => opExtract i v H) ∧
    (∀ (e : Env) (H : AH) (s : Bool) (x : AOpd), aop0 e H (.len s x) = with1 (x.val e) fun v => opLen s v H) ∧
    (∀ (e : Env) (H : AH) (x : AOpd), aop0 e H (.lenMap x) = with1 (x.val e) fun v => opLenMap v H) ∧
    (∀ (e : Env) (H : AH) (sz : Nat) (bytes : Nat) (s : AOpd) (x : AOpd), aop0 e H (.append sz bytes s x) = with1 (s.val e) fun s => with1 (x.val e) fun x => appendA H sz bytes s x) ∧
    (∀ (e : Env) (H : AH) (sz : Nat) (d : AOpd) (s : AOpd), aop0 e H (.copy sz d s) = with1 (d.val e) fun d => with1 (s.val e) fun s => copyA H sz d s) ∧
    (∀ (e : Env) (H : AH) (x : AOpd) (xs : List AOpd), aop0 e H (.maxInt x xs) = with1 (x.val e) fun v => withL (vals e xs) fun vs => pureV H (max2A v vs)) ∧
    (∀ (e : Env) (H : AH) (x : AOpd) (xs : List AOpd), aop0 e H (.minInt x xs) = with1 (x.val e) fun v => withL (vals e xs) fun vs => pureV H (min2A v vs)) :=
  ⟨fun _ _ _ => rfl,
   fun _ _ _ _ _ => rfl,
   fun _ _ _ => rfl,
   fun _ _ _ => rfl,
   fun _ _ _ _ => rfl,
   fun _ _ _ _ _ _ => rfl,
   fun _ _ _ => rfl,
   fun _ _ _ _ => rfl,
   fun _ _ _ _ _ => rfl,
   fun _ _ _ => rfl,
   fun _ _ _ _ _ => rfl,
   fun _ _ _ _ _ _ _ => rfl,
   fun _ _ _ _ _ _ => rfl,
   fun _ _ _ _ => rfl,
   fun _ _ _ _ => rfl,
   fun _ _ _ => rfl,
   fun _ _ _ _ _ => rfl,
   fun _ _ => rfl,
   fun _ _ _ _ _ _ _ => rfl,
   fun _ _ _ _ _ => rfl,
   fun _ _ _ _ _ _ => rfl,
   fun _ _ _ _ _ _ _ => rfl,
   fun _ _ _ _ => rfl,
   fun _ _ _ _ _ => rfl,
   fun _ _ _ _ _ _ => rfl,
   fun _ _ _ _ => rfl,
   fun _ _ _ _ _ => rfl,
   fun _ _ _ _ _ _ _ => rfl,
   fun _ _ _ _ => rfl,
   fun _ _ _ _ _ _ _ _ => rfl,
   fun _ _ _ _ _ _ _ => rfl,
   fun _ _ _ => rfl,
   fun _ _ _ => rfl,
   fun _ _ _ _ => rfl,
   fun _ _ _ _ => rfl,
   fun _ _ _ => rfl,
   fun _ _ _ _ _ _ => rfl,
   fun _ _ _ _ _ => rfl,
   fun _ _ _ _ => rfl,
   fun _ _ _ _ => rfl⟩
theorem E2 :
    (∀ {v : AV} {f : AV → ORes}, with1 (some v) f = f v) ∧
    (∀ {v : List AV} {f : List AV → ORes}, withL (some v) f = f v) ∧
    (∀ {v : List (Nat × Nat × AV)} {f : List (Nat × Nat × AV) → ORes}, withP (some v) f = f v) ∧
    (∀ {v : Option AV} {f : Option AV → ORes}, withO (some v) f = f v) ∧
    (∀ {H : AH} {v : AV}, pureV H (some v) = some (v, H)) ∧
    (∀ {H : AH} {v : List AV}, aggOf H (some v) = some (.agg v, H)) ∧
    (∀ {H : AH}, unitOf (some H) = some (.tuple [], H)) ∧
    (∀ {H : AH} {n t : Bool}, boolOf H n (some t) = some (.bool (t != n), H)) ∧
    (∀ {e : Env} {t : Nat}, AOpd.val e (.s t) = e.get t) ∧
    (∀ {e : Env} {v : AV}, AOpd.val e (.c v) = some v) ∧
    (∀ {e : Env}, vals e [] = some []) ∧
    (∀ {e : Env}, optVal e none = some none) ∧
    (∀ {e : Env}, partVals e [] = some []) ∧
    (∀ {e : Env} {k t : Nat} {v : AV}, Env.get ((k, v) :: e) t = if k = t then some v else Env.get e t) ∧
    (∀ {t : Nat} {v : AV}, Env.put [] t v = [(t, v)]) ∧
    (∀ {e : Env} {k t : Nat} {u v : AV}, Env.put ((k, u) :: e) t v = if k = t then (k, v) :: e else (k, u) :: Env.put e t v) ∧
    (∀ {l : List Nat}, Env.keep [] l = []) ∧
    (∀ {e : Env} {k : Nat} {u : AV} {l : List Nat}, Env.keep ((k, u) :: e) l = if hasNat l k then (k, u) :: Env.keep e l else Env.keep e l) ∧
    (∀ {t : Nat}, hasNat [] t = false) ∧
    (∀ {k t : Nat} {l : List Nat}, hasNat (k :: l) t = if k = t then true else hasNat l t) ∧
    (∀ {e : Env} {t : Nat} {v : AV}, putDst e (some t) v = e.put t v) ∧
    (∀ {e : Env} {v : AV}, putDst e none v = e) ∧
    (∀ {H : AH} {t : Bool} {a b : AV}, opPick (.bool t) a b H = some (if t then a else b, H)) ∧
    (∀ {H : AH} {cs : List AV}, opAlloc cs H = some (.ptr H.next 0, H.alloc (.cells false cs))) ∧
    (∀ {H : AH} {cs : List AV}, opBox (.agg cs) H = some (.ptr H.next 0, H.alloc (.cells false cs))) ∧
    (∀ {H : AH} {k : IntKind} {n : Int}, opBox (.int k n) H = some (.ptr H.next 0, H.alloc (.cells false [.int k n]))) ∧
    (∀ {H : AH} {b : Bool}, opBox (.bool b) H = some (.ptr H.next 0, H.alloc (.cells false [.bool b]))) ∧
    (∀ {H : AH} {b : ByteArray}, opBox (.str b) H = some (.ptr H.next 0, H.alloc (.cells false [.str b]))) ∧
    (∀ {H : AH} {b i : Nat}, opBox (.ptr b i) H = some (.ptr H.next 0, H.alloc (.cells false [.ptr b i]))) ∧
    (∀ {H : AH} {b i l z : Nat}, opBox (.slice b i l z) H = some (.ptr H.next 0, H.alloc (.cells false [.slice b i l z]))) ∧
    (∀ {H : AH}, opBox .nilslice H = some (.ptr H.next 0, H.alloc (.cells false [.nilslice]))) ∧
    (∀ {H : AH} {f : Nat} {a b : List AV}, opBox (.func f a b) H = some (.ptr H.next 0, H.alloc (.cells false [.func f a b]))) ∧
    (∀ {H : AH} {l : Nat}, opBox (.yield l) H = some (.ptr H.next 0, H.alloc (.cells false [.yield l]))) ∧
    (∀ {H : AH} {b i : Nat}, opLoad (.ptr b i) H = pureV H (H.read1 b i)) ∧
    (∀ {H : AH} {n b i : Nat}, opLoadN n (.ptr b i) H = aggOf H (H.read b i n)) ∧
    (∀ {H : AH} {b i : Nat}, opNilCheck (.ptr b i) H = some (.ptr b i, H)) ∧
    (∀ {H : AH} {f : Nat} {a b : List AV}, opNilCheck (.func f a b) H = some (.func f a b, H)) ∧
    (∀ {H : AH} {l : Nat}, opNilCheck (.yield l) H = some (.yield l, H)) ∧
    (∀ {H : AH} {b i n : Nat}, opOff n (.ptr b i) H = some (.ptr b (i + n), H)) ∧
    (∀ {H : AH} {b : Bool}, opUn .not (.bool b) H = some (.bool !b, H)) ∧
    (∀ {H : AH} {k : IntKind} {n : Int}, opUn .neg (.int k n) H = some (.int k (k.wrap (0 - n)), H)) ∧
    (∀ {H : AH} {j k : IntKind} {n : Int}, opToInt k (.int j n) H = some (.int k (k.wrap n), H)) ∧
    (∀ {H : AH} {s : ByteArray}, opStrId (.str s) H = some (.str s, H)) ∧
    (∀ {H : AH} {o : Nat} {cs : List AV}, opPart o (.agg cs) H = pureV H cs[o]?) ∧
    (∀ {H : AH} {o n : Nat} {cs : List AV}, opPartN o n (.agg cs) H = aggOf H (readN cs o n)) ∧
    (∀ {H : AH} {i : Nat} {vs : List AV}, opExtract i (.tuple vs) H = pureV H vs[i]?) ∧
    (∀ {H : AH} {s : ByteArray}, opLen true (.str s) H = some (.int .i64 s.size, H)) ∧
    (∀ {H : AH} {b i l z : Nat}, opLen false (.slice b i l z) H = some (.int .i64 l, H)) ∧
    (∀ {H : AH}, opLen false .nilslice H = some (.int .i64 0, H)) ∧
    (∀ {H : AH} {s : ByteArray}, opRangeStr (.str s) H = some (.ptr H.next 0, H.alloc (.strIter s 0))) ∧
    (∀ {k : Nat}, natOf (.int .i64 (k : Int)) = some k) ∧
    (∀ {x : AV} , max2A x [] = some x) ∧
    (∀ {x : AV} , min2A x [] = some x) ∧
    (∀ {a b : Int} {k : IntKind} {vs : List AV}, max2A (.int k a) (.int k b :: vs) = max2A (.int k (max a b)) vs) ∧
    (∀ {a b : Int} {k : IntKind} {vs : List AV}, min2A (.int k a) (.int k b :: vs) = min2A (.int k (min a b)) vs) ∧
    (∀ {k : IntKind} {a b : Int}, binA .add (.int k a) (.int k b) = some (.int k (k.wrap (a + b)))) ∧
    (∀ {k : IntKind} {a b : Int}, binA .sub (.int k a) (.int k b) = some (.int k (k.wrap (a - b)))) ∧
    (∀ {k : IntKind} {a b : Int}, binA .mul (.int k a) (.int k b) = some (.int k (k.wrap (a * b)))) ∧
    (∀ {k : IntKind} {a b : Int}, binA .quo (.int k a) (.int k b) = if b = 0 then none else some (.int k (k.wrap (a.tdiv b)))) ∧
    (∀ {k : IntKind} {a b : Int}, binA .rem (.int k a) (.int k b) = if b = 0 then none else some (.int k (a.tmod b))) ∧
    (∀ {k : IntKind} {a b : Int}, binA .eql (.int k a) (.int k b) = some (.bool (decide (a = b)))) ∧
    (∀ {k : IntKind} {a b : Int}, binA .neq (.int k a) (.int k b) = some (.bool (!decide (a = b)))) ∧
    (∀ {k : IntKind} {a b : Int}, binA .lss (.int k a) (.int k b) = some (.bool (decide (a < b)))) ∧
    (∀ {k : IntKind} {a b : Int}, binA .leq (.int k a) (.int k b) = some (.bool (decide (a ≤ b)))) ∧
    (∀ {k : IntKind} {a b : Int}, binA .gtr (.int k a) (.int k b) = some (.bool (decide (b < a)))) ∧
    (∀ {k : IntKind} {a b : Int}, binA .geq (.int k a) (.int k b) = some (.bool (decide (b ≤ a)))) :=
  ⟨by intros; rfl,
   by intros; rfl,
   by intros; rfl,
   by intros; rfl,
   by intros; rfl,
   by intros; rfl,
   by intros; rfl,
   by intros; rfl,
   by intros; rfl,
   by intros; rfl,
   by intros; rfl,
   by intros; rfl,
   by intros; rfl,
   by intros; rfl,
   by intros; rfl,
   by intros; rfl,
   by intros; rfl,
   by intros; rfl,
   by intros; rfl,
   by intros; rfl,
   by intros; rfl,
   by intros; rfl,
   by intros; rfl,
   by intros; rfl,
   by intros; rfl,
   by intros; rfl,
   by intros; rfl,
   by intros; rfl,
   by intros; rfl,
   by intros; rfl,
   by intros; rfl,
   by intros; rfl,
   by intros; rfl,
   by intros; rfl,
   by intros; rfl,
   by intros; rfl,
   by intros; rfl,
   by intros; rfl,
   by intros; rfl,
   by intros; rfl,
   by intros; rfl,
   by intros; rfl,
   by intros; rfl,
   by intros; rfl,
   by intros; rfl,
   by intros; rfl,
   by intros; rfl,
   by intros; rfl,
   by intros; rfl,
   by intros; rfl,
   by intro k; simp [natOf],
   by intro x; cases x <;> rfl,
   by intro x; cases x <;> rfl,
   by intro a b k vs; simp only [max2A, if_true]; congr 2; omega,
   by intro a b k vs; simp only [min2A, if_true]; congr 2; omega,
   by intro k a b; simp [binA],
   by intro k a b; simp [binA],
   by intro k a b; simp [binA],
   by intro k a b; simp [binA],
   by intro k a b; simp [binA],
   by intro k a b; simp [binA]; rfl,
   by intro k a b; simp [binA]; rfl,
   by intro k a b; simp [binA],
   by intro k a b; simp [binA],
   by intro k a b; simp [binA],
   by intro k a b; simp [binA]⟩
theorem vals_cons {e : Env} {x : AOpd} {xs : List AOpd} : vals e (x :: xs) = (match x.val e with
    | some v => match vals e xs with
      | some vs => some (v :: vs)
      | none => none
    | none => none) := rfl
theorem optVal_some {e : Env} {x : AOpd} : optVal e (some x) = (match x.val e with
    | some v => some (some v)
    | none => none) := rfl
theorem partVals_cons {e : Env} {o n : Nat} {x : AOpd} {xs : List (Nat × Nat × AOpd)} : partVals e ((o, n, x) :: xs) = (match x.val e with
    | some v => match partVals e xs with
      | some vs => some ((o, n, v) :: vs)
      | none => none
    | none => none) := rfl
end Go.AM
namespace Go.AM
structure Grew (H H' : AH) : Prop where
  next : H.next ≤ H'.next
  get : ∀ b, b < H.next → H'.get b = H.get b
theorem Grew.refl (H : AH) : Grew H H := ⟨Nat.le_refl _, fun _ _ => rfl⟩
theorem Grew.trans {H H' H'' : AH} (h : Grew H H') (h' : Grew H' H'') : Grew H H'' :=
  ⟨Nat.le_trans h.next h'.next, fun b hb => (h'.get b (Nat.lt_of_lt_of_le hb h.next)).trans (h.get b hb)⟩
theorem Grew.alloc {H H' : AH} (h : Grew H H') (o : AObj) : Grew H (H'.alloc o) :=
  ⟨Nat.le_trans h.next (Nat.le_succ _), fun b hb => by
    have := h.next
    rw [AH.get_alloc, if_neg (by omega)]; exact h.get b hb⟩
theorem Grew.set {H H' : AH} (h : Grew H H') {b : Nat} (o : AObj) (hb : H.next ≤ b) : Grew H (H'.set b o) :=
  ⟨h.next, fun k hk => by rw [AH.get_set, if_neg (by omega)]; exact h.get k hk⟩
theorem Grew.read {H H' : AH} (h : Grew H H') {b i n : Nat} (hb : b < H.next) : H'.read b i n = H.read b i n := by
  unfold AH.read; rw [h.get b hb]
theorem Grew.read1 {H H' : AH} (h : Grew H H') {b i : Nat} (hb : b < H.next) : H'.read1 b i = H.read1 b i := by
  unfold AH.read1; rw [h.get b hb]
theorem get_alloc_new (H : AH) (o : AObj) : (H.alloc o).get H.next = some o := by rw [AH.get_alloc, if_pos rfl]
theorem get_alloc_old {H : AH} {o : AObj} {b : Nat} (h : b < H.next) : (H.alloc o).get b = H.get b := by rw [AH.get_alloc, if_neg (by omega)]
theorem get_set_same (H : AH) (b : Nat) (o : AObj) : (H.set b o).get b = some o := by rw [AH.get_set, if_pos rfl]
theorem get_set_other {H : AH} {o : AObj} {b k : Nat} (h : k ≠ b) : (H.set b o).get k = H.get k := by rw [AH.get_set, if_neg h]
theorem write_of {H : AH} {b : Nat} {vs vs' : List AV} (h : H.get b = some (.cells false vs)) {i : Nat} {xs : List AV} (hw : writeN vs i xs = some vs') (hc : xs.all AV.isCell = true) : H.write b i xs = some (H.set b (.cells false vs')) := by
  unfold AH.write; rw [h]; simp only [hw, hc, if_true]
inductive Rows {α : Type} (z : Nat) (E : List AV → α → Prop) : List AV → List α → Prop where
  | nil : Rows z E [] []
  | cons {cs : List AV} {a : α} {cells : List AV} {l : List α} (hz : cs.length = z) (h : E cs a) (t : Rows z E cells l) : Rows z E (cs ++ cells) (a :: l)
namespace Rows
variable {α : Type} {z : Nat} {E E' : List AV → α → Prop}
theorem mono (h : ∀ cs a, E cs a → E' cs a) : ∀ {cells : List AV} {l : List α}, Rows z E cells l → Rows z E' cells l
  | _, _, .nil => .nil
  | _, _, .cons hz ha t => .cons hz (h _ _ ha) (mono h t)
theorem length : ∀ {cells : List AV} {l : List α}, Rows z E cells l → cells.length = l.length * z
  | _, _, .nil => by simp
  | _, _, .cons hz _ t => by simp [hz, length t, Nat.add_mul]; omega
theorem append : ∀ {c1 : List AV} {l1 : List α} {c2 : List AV} {l2 : List α}, Rows z E c1 l1 → Rows z E c2 l2 → Rows z E (c1 ++ c2) (l1 ++ l2)
  | _, _, _, _, .nil, h => h
  | _, _, _, _, .cons hz ha t, h => by rw [List.append_assoc]; exact .cons hz ha (append t h)
theorem single {cs : List AV} {a : α} (hz : cs.length = z) (h : E cs a) : Rows z E cs [a] := by
  have := Rows.cons hz h (Rows.nil (z := z) (E := E))
  simpa using this
theorem take : ∀ {cells : List AV} {l : List α} (k : Nat), Rows z E cells l → k ≤ l.length → Rows z E (cells.take (k * z)) (l.take k)
  | _, _, 0, _, _ => by simpa using Rows.nil
  | _, _, k + 1, .nil, h => by simp at h
  | _, _, k + 1, .cons (cs := cs) hz ha t, h => by
    have : (k + 1) * z = cs.length + k * z := by rw [hz, Nat.add_mul]; omega
    rw [this, List.take_length_add_append]
    exact .cons hz ha (take k t (by simpa using h))
theorem drop : ∀ {cells : List AV} {l : List α} (k : Nat), Rows z E cells l → k ≤ l.length → Rows z E (cells.drop (k * z)) (l.drop k)
  | _, _, 0, h, _ => by simpa using h
  | _, _, k + 1, .nil, h => by simp at h
  | _, _, k + 1, .cons (cs := cs) hz ha t, h => by
    have : (k + 1) * z = cs.length + k * z := by rw [hz, Nat.add_mul]; omega
    rw [this, List.drop_length_add_append]
    exact drop k t (by simpa using h)
theorem at_ : ∀ {cells : List AV} {l : List α} (k : Nat) (hk : k < l.length), Rows z E cells l → ∃ cs, cs.length = z ∧ E cs l[k] ∧ readN cells (k * z) z = some cs ∧ ∀ j, j < z → cells[k * z + j]? = cs[j]?
  | _, _, k, hk, .nil => by simp at hk
  | _, _, 0, _, .cons (cs := cs) hz ha t => by
    refine ⟨cs, hz, ha, ?_, fun j hj => ?_⟩
    · unfold readN
      rw [Nat.zero_mul, Nat.zero_add, List.length_append, if_pos (by omega), List.drop_zero, ← hz, List.take_left]
    · rw [Nat.zero_mul, Nat.zero_add, List.getElem?_append_left (by omega)]
  | _, _, k + 1, hk, .cons (cs := cs) hz ha t => by
    obtain ⟨c, h1, h2, h3, h4⟩ := at_ k (by simpa using hk) t
    have e : (k + 1) * z = cs.length + k * z := by rw [hz, Nat.add_mul]; omega
    refine ⟨c, h1, by simpa using h2, ?_, fun j hj => ?_⟩
    · unfold readN at h3 ⊢
      rw [e, List.drop_length_add_append, List.length_append]
      split at h3
      · rw [if_pos (by omega)]; exact h3
      · cases h3
    · rw [e, List.getElem?_append_right (by omega), ← h4 j hj]
      congr 1; omega
theorem set : ∀ {cells : List AV} {l : List α} (k : Nat) (_ : k < l.length) {cs : List AV} {a : α}, Rows z E cells l → cs.length = z → E cs a → ∃ cells', writeN cells (k * z) cs = some cells' ∧ Rows z E cells' (l.set k a)
  | _, _, k, hk, _, _, .nil, _, _ => by simp at hk
  | _, _, 0, _, cs', a', .cons (cs := cs) (cells := cells) hz ha t, hz', ha' => by
    have : ∀ (xs ys rest : List AV), xs.length = ys.length → writeN (xs ++ rest) 0 ys = some (ys ++ rest) := fun xs => by
      induction xs with
      | nil =>
        intro ys rest h
        cases ys with
        | nil => cases rest <;> rfl
        | cons y ys => simp at h
      | cons x xs ih => intro ys rest h; cases ys with
        | nil => simp at h
        | cons y ys =>
          have := ih ys rest (by simpa using h)
          simp only [List.cons_append, writeN, this, Option.map_some]
    exact ⟨cs' ++ cells, by rw [Nat.zero_mul]; exact this _ _ _ (by omega), .cons hz' ha' t⟩
  | _, _, k + 1, hk, cs', a', .cons (cs := cs) hz ha t, hz', ha' => by
    obtain ⟨c, h1, h2⟩ := set k (by simpa using hk) t hz' ha'
    have e : (k + 1) * z = cs.length + k * z := by rw [hz, Nat.add_mul]; omega
    have : ∀ (xs rest : List AV) (i : Nat) (ys r : List AV), writeN rest i ys = some r → writeN (xs ++ rest) (xs.length + i) ys = some (xs ++ r) := fun xs => by
      induction xs with
      | nil => intro rest i ys r h; simpa using h
      | cons x xs ih => intro rest i ys r h; cases ys with
        | nil =>
          have : r = rest := by
            have h' : writeN rest i [] = some rest := by cases rest <;> rfl
            rw [h'] at h; exact (Option.some.inj h).symm
          subst this; rfl
        | cons y ys =>
          rw [show (x :: xs).length + i = (xs.length + i) + 1 from by simp; omega]
          have := ih rest i (y :: ys) r h
          simp only [List.cons_append, writeN, this, Option.map_some]
    exact ⟨cs ++ c, by rw [e]; exact this _ _ _ _ _ h1, .cons hz ha h2⟩
end Rows
abbrev Elem (α : Type) := (Nat → Prop) → AH → List AV → α → Prop
def IsSl {α : Type} (z : Nat) (E : Elem α) (F : Nat → Prop) (H : AH) (v : AV) (l : List α) : Prop :=
  (v = .nilslice ∧ l = []) ∨ ∃ b i cells, v = .slice b i l.length z ∧ F b ∧ H.read b i (l.length * z) = some cells ∧ Rows z (E F H) cells l
abbrev Old (H : AH) : Nat → Prop := fun b => b < H.next
def Keeps (F F' : Nat → Prop) (H H' : AH) : Prop := ∀ b, F b → F' b ∧ H'.get b = H.get b
theorem Grew.keeps {H H' : AH} (h : Grew H H') : Keeps (Old H) (Old H') H H' := fun b hb => ⟨Nat.lt_of_lt_of_le hb h.next, h.get b hb⟩
theorem Keeps.refl (F : Nat → Prop) (H : AH) : Keeps F F H H := fun _ h => ⟨h, rfl⟩
theorem Keeps.trans {F F' F'' : Nat → Prop} {H H' H'' : AH} (h : Keeps F F' H H') (h' : Keeps F' F'' H' H'') : Keeps F F'' H H'' := fun b hb => ⟨(h' b (h b hb).1).1, (h' b (h b hb).1).2.trans (h b hb).2⟩
def Stays {α : Type} (E : Elem α) : Prop := ∀ F F' H H' cs a, Keeps F F' H H' → E F H cs a → E F' H' cs a
section
variable {α : Type} {z : Nat} {E : Elem α} {F F' : Nat → Prop} {H H' : AH} {v : AV} {l : List α}
theorem IsSl.move (hE : Stays E) (hk : Keeps F F' H H') (h : IsSl z E F H v l) : IsSl z E F' H' v l := by
  rcases h with h | ⟨b, i, cells, h1, h2, h3, h4⟩
  · exact .inl h
  · refine .inr ⟨b, i, cells, h1, (hk b h2).1, ?_, h4.mono fun cs a h => hE _ _ _ _ _ _ hk h⟩
    unfold AH.read at h3 ⊢
    rw [(hk b h2).2]; exact h3
theorem IsSl.len (h : IsSl z E F H v l) (S : AH) : opLen false v S = some (.int .i64 l.length, S) := by
  rcases h with ⟨rfl, rfl⟩ | ⟨b, i, cells, rfl, _⟩ <;> rfl
theorem IsSl.lenA (h : IsSl z E F H v l) : lenA v = some l.length := by
  rcases h with ⟨rfl, rfl⟩ | ⟨b, i, cells, rfl, _⟩ <;> rfl
theorem IsSl.isCell (h : IsSl z E F H v l) : v.isCell = true := by
  rcases h with ⟨rfl, rfl⟩ | ⟨b, i, cells, rfl, _⟩ <;> rfl
theorem IsSl.cells? (h : IsSl z E F H v l) : v.cells? = some [v] := by
  rcases h with ⟨rfl, rfl⟩ | ⟨b, i, cells, rfl, _⟩ <;> rfl
theorem IsSl.src (h : IsSl z E F H v l) : ∃ cells, srcCells H z l.length v = some cells ∧ Rows z (E F H) cells l := by
  rcases h with ⟨rfl, rfl⟩ | ⟨b, i, cells, rfl, h2, h3, h4⟩
  · exact ⟨[], rfl, .nil⟩
  · exact ⟨cells, by simp [srcCells, h3], h4⟩
theorem IsSl.at_ (h : IsSl z E F H v l) {k : Nat} (hk : k < l.length) : ∃ b i ro vs cs, (∀ S, opIdxSl z v (.int .i64 (k : Int)) S = some (.ptr b i, S)) ∧ F b ∧ H.get b = some (.cells ro vs) ∧ cs.length = z ∧ E F H cs l[k] ∧ i + z ≤ vs.length ∧ (vs.drop i).take z = cs ∧ ∀ j, j < z → vs[i + j]? = cs[j]? := by
  rcases h with ⟨rfl, rfl⟩ | ⟨b, i, cells, rfl, h2, h3, h4⟩
  · simp at hk
  · obtain ⟨cs, q1, q2, q3, q4⟩ := h4.at_ k hk
    unfold AH.read at h3
    split at h3
    · rename_i ro vs hvs
      unfold readN at h3
      split at h3
      · rename_i hle
        simp only [Option.some.injEq] at h3; subst h3
        have hm : (k + 1) * z ≤ l.length * z := Nat.mul_le_mul_right _ hk
        rw [Nat.add_mul] at hm
        refine ⟨b, i + k * z, ro, vs, cs, fun S => by simp [opIdxSl, natOf, hk], h2, hvs, q1, q2, by omega, ?_, fun j hj => ?_⟩
        · unfold readN at q3
          split at q3
          · simp only [Option.some.injEq] at q3
            rw [← q3, List.drop_take, List.drop_drop, List.take_take]
            congr 1; omega
          · cases q3
        · rw [← q4 j hj, List.getElem?_take, if_pos (by omega), List.getElem?_drop]
          congr 1; omega
      · cases h3
    · cases h3
def Own (z : Nat) (E : Elem α) (F : Nat → Prop) (N : Nat) (H : AH) (v : AV) (l : List α) : Prop :=
  (v = .nilslice ∧ l = []) ∨ ∃ b i vs cells, v = .slice b i l.length z ∧ ¬ F b ∧ N ≤ b ∧ b < H.next ∧ H.get b = some (.cells false vs) ∧ readN vs i (l.length * z) = some cells ∧ Rows z (E F H) cells l
theorem Own.sl {N : Nat} (h : Own z E F N H v l) (hE : Stays E) : IsSl z E (fun b => F b ∨ ∃ i n z, v = .slice b i n z) H v l := by
  rcases h with h | ⟨b, i, vs, cells, h1, _, _, _, h2, h3, h4⟩
  · exact .inl h
  · refine .inr ⟨b, i, cells, h1, .inr ⟨_, _, _, h1⟩, ?_, h4.mono fun cs a h => hE _ _ _ _ _ _ (fun b hb => ⟨.inl hb, rfl⟩) h⟩
    unfold AH.read; rw [h2]; exact h3
theorem Own.len {N : Nat} (h : Own z E F N H v l) (S : AH) : opLen false v S = some (.int .i64 l.length, S) := by
  rcases h with ⟨rfl, rfl⟩ | ⟨b, i, vs, cells, rfl, _⟩ <;> rfl
theorem Own.isCell {N : Nat} (h : Own z E F N H v l) : v.isCell = true := by
  rcases h with ⟨rfl, rfl⟩ | ⟨b, i, vs, cells, rfl, _⟩ <;> rfl
theorem Own.spine {N : Nat} (h : Own z E F N H v l) {b i n y : Nat} (hv : v = .slice b i n y) : ¬ F b ∧ N ≤ b ∧ b < H.next := by
  rcases h with ⟨rfl, _⟩ | ⟨b', i', vs, cells, rfl, h2, h3, h4, _⟩
  · cases hv
  · simp only [AV.slice.injEq] at hv
    obtain ⟨rfl, _⟩ := hv
    exact ⟨h2, h3, h4⟩
theorem Own.move {N : Nat} (hE : Stays E) (hk : Keeps F F' H H') (hF : ∀ b i n z, v = .slice b i n z → ¬ F' b ∧ H'.get b = H.get b) (hn : H.next ≤ H'.next) (h : Own z E F N H v l) : Own z E F' N H' v l := by
  rcases h with h | ⟨b, i, vs, cells, h1, h2, hN, h3, h4, h5, h6⟩
  · exact .inl h
  · obtain ⟨q1, q2⟩ := hF _ _ _ _ h1
    exact .inr ⟨b, i, vs, cells, h1, q1, hN, Nat.lt_of_lt_of_le h3 hn, q2.trans h4, h5, h6.mono fun cs a h => hE _ _ _ _ _ _ hk h⟩
theorem Own.alloc {N : Nat} (hE : Stays E) (hF : ∀ b, F b → b < H.next) (o : AObj) (h : Own z E F N H v l) : Own z E F N (H.alloc o) v l :=
  h.move hE (fun b hb => ⟨hb, get_alloc_old (hF b hb)⟩) (fun b i n z hv => ⟨(h.spine hv).1, get_alloc_old (h.spine hv).2.2⟩) (Nat.le_succ _)
theorem Own.append {N bytes : Nat} {x : AV} {new : List AV} {l2 : List α} (hE : Stays E) (h : Own z E F N H v l) (hF : ∀ b, F b → b < H.next) (hN : N ≤ H.next) (hx : AM.lenA x = some l2.length) (hs : srcCells H z l2.length x = some new) (hr : Rows z (E F H) new l2)
    (hc : new.all AV.isCell = true) (hroom : l.length + l2.length ≤ roomA ∧ (l.length + l2.length) * bytes ≤ roomA) :
    ∃ v' H', appendA H z bytes v x = some (v', H') ∧ Own z E F N H' v' (l ++ l2) ∧ H.next ≤ H'.next ∧ (∀ k, k < H.next → (∀ i n z, v ≠ .slice k i n z) → H'.get k = H.get k) := by
  unfold appendA
  simp only [hx, hs]
  rcases h with ⟨rfl, rfl⟩ | ⟨b, i, vs, cells, rfl, h2, hNb, h3, h4, h5, h6⟩
  · by_cases h0 : l2.length = 0
    · simp only [h0, if_true]
      have : l2 = [] := List.length_eq_zero_iff.1 h0
      subst this
      exact ⟨_, _, rfl, .inl ⟨rfl, rfl⟩, Nat.le_refl _, fun _ _ _ => rfl⟩
    · simp only [List.length_nil, Nat.zero_add] at hroom
      simp only [h0, if_false, hroom, and_self, if_true]
      refine ⟨_, _, rfl, .inr ⟨H.next, 0, new, new, rfl, fun hf => absurd (hF _ hf) (by omega), hN, by simp, get_alloc_new _ _, ?_, hr.mono fun cs a h => hE _ _ _ _ _ _ (fun b hb => ⟨hb, get_alloc_old (hF b hb)⟩) h⟩, by simp, fun k hk _ => get_alloc_old hk⟩
      have := hr.length
      simp only [List.nil_append, readN, Nat.zero_add, this, Nat.le_refl, if_true, List.drop_zero]
      rw [← this, List.take_length]
  · by_cases h0 : l2.length = 0
    · simp only [h0, if_true]
      have : l2 = [] := List.length_eq_zero_iff.1 h0
      subst this
      rw [List.append_nil]
      exact ⟨_, _, rfl, .inr ⟨b, i, vs, cells, rfl, h2, hNb, h3, h4, h5, h6⟩, Nat.le_refl _, fun _ _ _ => rfl⟩
    · simp only [h0, if_false, h4, h5, hroom, hc, and_self, if_true]
      have hset : ∀ k, k ≠ b → k < H.next → ((H.set b .dead).alloc (.cells false (cells ++ new))).get k = H.get k := fun k hk hlt => by
        rw [AH.get_alloc, if_neg (by simp; omega), AH.get_set, if_neg hk]
      have hkeep : Keeps F F H ((H.set b .dead).alloc (.cells false (cells ++ new))) := fun k hk => ⟨hk, hset k (fun e => h2 (e ▸ hk)) (hF k hk)⟩
      have hl1 := h6.length
      have hl2 := hr.length
      refine ⟨_, _, rfl, .inr ⟨H.next, 0, cells ++ new, cells ++ new, by simp, fun hf => absurd (hF _ hf) (by omega), hN, by simp, ?_, ?_, (h6.append hr).mono fun cs a h => hE _ _ _ _ _ _ hkeep h⟩, by simp, fun k hk hne => hset k (fun e => hne i l.length z (by rw [e])) hk⟩
      · rw [AH.get_alloc, if_pos (by simp)]
      · simp only [readN, List.length_append, Nat.zero_add, hl1, hl2, Nat.add_mul, Nat.le_refl, if_true, List.drop_zero]
        rw [List.take_of_length_le (by rw [List.length_append, hl1, hl2]; omega)]
end
def EInt : Elem Int := fun _ _ cs n => cs = [.int .i64 n]
theorem EInt.stays : Stays EInt := fun _ _ _ _ _ _ _ h => h
abbrev IsInts (F : Nat → Prop) (H : AH) (v : AV) (l : List Int) : Prop := IsSl 1 EInt F H v l
theorem IsInts.at_ {F : Nat → Prop} {H : AH} {v : AV} {l : List Int} (h : IsSl 1 EInt F H v l) {k : Nat} (hk : k < l.length) : ∃ b i ro vs, (∀ S, opIdxSl 1 v (.int .i64 (k : Int)) S = some (.ptr b i, S)) ∧ F b ∧ H.get b = some (.cells ro vs) ∧ vs[i]? = some (.int .i64 l[k]) := by
  obtain ⟨b, i, ro, vs, cs, h1, h2, h3, h4, h5, _, _, h6⟩ := IsSl.at_ h hk
  refine ⟨b, i, ro, vs, h1, h2, h3, ?_⟩
  have := h6 0 (by omega)
  rw [h5] at this
  simpa using this
def EStr : Elem ByteArray := fun _ _ cs s => cs = [.str s]
theorem EStr.stays : Stays EStr := fun _ _ _ _ _ _ _ h => h
def ESl {α : Type} (z : Nat) (E : Elem α) : Elem (List α) := fun F H cs l => ∃ v, cs = [v] ∧ IsSl z E F H v l
theorem ESl.stays {α : Type} {z : Nat} {E : Elem α} (hE : Stays E) : Stays (ESl z E) := fun _ _ _ _ _ _ hk ⟨v, h1, h2⟩ => ⟨v, h1, h2.move hE hk⟩
end Go.AM
namespace Go.AM
structure LR where
  o : AOper
  f : AH → ORes
  v : AV
structure HR where
  S : AH
  over : List AOper
  todo : List AOper
def okAt (l : LR) (h : HR) : Prop := admits l.o h.over h.todo = true → ∃ H', l.f h.S = some (l.v, H')
def effsO (os : List AOper) : List AOper := os.filter (·.isEff)
def okAll (ls : List LR) (h : HR) : Prop := match ls with
  | [] => True
  | l :: ls => okAt l h ∧ okAll ls h
def okOne (l : LR) (hs : List HR) : Prop := match hs with
  | [] => True
  | h :: hs => okAt l h ∧ okOne l hs
def EffQ (prog : Nat → Option AFunc) (e : Env) (H : AH) (o : AOp) (k : AV → AH → Prop) : Prop :=
  match o with
  | .call f xs => match f.val e, vals e xs with
    | some fv, some vs => CallQ prog fv vs H k
    | _, _ => False
  | o => Then (aop0 e H o) k
def WpD (prog : Nat → Option AFunc) : List AOper → Env → AH → List AOper → List LR → List HR → (Env → AH → Prop) → Prop
  | [], e, H, over, ls, _, Q => okAll ls ⟨H, over, []⟩ ∧ Q e H
  | o :: os, e, H, over, ls, hs, Q =>
    match o.wanted e with
    | some true =>
      match o.op.cls with
      | .eff => okAll ls ⟨H, over, o :: effsO os⟩ ∧ EffQ prog e H o.op fun v H' => WpD prog os (putDst e o.dst v) H' (over ++ [o]) ls (hs ++ [⟨H, over, o :: effsO os⟩]) Q
      | .load => Then (aop0 e H o.op) fun v H' => okOne ⟨o, fun S => aop0 e S o.op, v⟩ hs ∧ WpD prog os (putDst e o.dst v) H' over (ls ++ [⟨o, fun S => aop0 e S o.op, v⟩]) hs Q
      | _ => Then (aop0 e H o.op) fun v H' => WpD prog os (putDst e o.dst v) H' over ls hs Q
    | some false =>
      match o.op.cls with
      | .eff => okAll ls ⟨H, over, o :: effsO os⟩ ∧ WpD prog os (putDst e o.dst (.tuple [])) H (over ++ [o]) ls (hs ++ [⟨H, over, o :: effsO os⟩]) Q
      | _ => WpD prog os (putDst e o.dst (.tuple [])) H over ls hs Q
    | none => False
def heads (last : AH) : List AOper → List Step → List HR
  | over, [] => [⟨last, over, []⟩]
  | over, s :: ss => if s.o.isEff then ⟨s.before, over, s.o :: (ss.filter (·.o.isEff)).map (·.o)⟩ :: heads last (over ++ [s.o]) ss else heads last over ss
theorem stable_heads {c : ACall} {all : List Step} {last : AH} : ∀ {l : List Step} {over : List AOper}, (∀ h ∈ heads last over l, ∀ s ∈ all, stableIn c h.S h.over h.todo s = true) → stable c all over l last = true
  | [], over, h => by
    simp only [stable, List.all_eq_true]
    exact fun s hs => h ⟨last, over, []⟩ (by simp [heads]) s hs
  | x :: l, over, h => by
    simp only [stable]
    by_cases hx : x.o.isEff = true
    · simp only [heads, hx, if_true] at h
      simp only [hx, if_true, Bool.and_eq_true, List.all_eq_true]
      exact ⟨fun s hs => h ⟨x.before, over, _⟩ (List.mem_cons_self ..) s hs, stable_heads fun k hk => h k (by simp [hk])⟩
    · simp only [heads, hx, Bool.false_eq_true, if_false] at h
      simp only [hx, Bool.false_eq_true, if_false]
      exact stable_heads h
def lrOf (s : Step) : LR := ⟨s.o, fun S => aop0 s.env S s.o.op, s.v⟩
def isLd (s : Step) : Prop := s.want = true ∧ s.o.op.cls = .load
theorem stableIn_of {c : ACall} {s : Step} {h : HR} (hok : isLd s → okAt (lrOf s) h) : stableIn c h.S h.over h.todo s = true := by
  unfold stableIn
  split
  · rename_i hc
    simp only [Bool.and_eq_true, decide_eq_true_eq] at hc
    obtain ⟨H', hH⟩ := hok ⟨hc.1.1, hc.1.2⟩ hc.2
    have hn : s.o.op.isCall = false := by
      have := hc.1.2
      cases ho : s.o.op <;> rw [ho] at this <;> simp [AOp.cls] at this <;> rfl
    have : aop c s.env h.S s.o.op = some (s.v, H') := by
      rw [aop_nocall (c := c) (c' := fun _ _ _ => none) hn]; exact hH
    rw [this]
    exact eqA_refl _
  · rfl
theorem okAll_mem : ∀ {ls : List LR} {h : HR}, okAll ls h → ∀ l ∈ ls, okAt l h
  | [], _, _, _, hm => by simp at hm
  | l :: ls, h, hk, x, hm => by
    rcases List.mem_cons.1 hm with rfl | hm
    · exact hk.1
    · exact okAll_mem hk.2 x hm
theorem okOne_mem {l : LR} : ∀ {hs : List HR}, okOne l hs → ∀ h ∈ hs, okAt l h
  | [], _, _, hm => by simp at hm
  | h :: hs, hk, x, hm => by
    rcases List.mem_cons.1 hm with rfl | hm
    · exact hk.1
    · exact okOne_mem hk.2 x hm
theorem aopsT_effs {c : ACall} {os : List AOper} {e : Env} {H : AH} {l : List Step} {e' : Env} {H' : AH} (h : aopsT c os e H = some (l, e', H')) : (l.filter (·.o.isEff)).map (·.o) = effsO os := by
  have hmap : ∀ {os : List AOper} {e : Env} {H : AH} {l : List Step} {e' : Env} {H' : AH}, aopsT c os e H = some (l, e', H') → l.map (·.o) = os := by
    intro os
    induction os with
    | nil => intro e H l e' H' h; simp only [aopsT, Option.some.injEq, Prod.mk.injEq] at h; rw [← h.1]; rfl
    | cons o os ih =>
      intro e H l e' H' h
      simp only [aopsT] at h
      split at h
      · split at h
        · split at h
          · rename_i hq
            simp only [Option.some.injEq, Prod.mk.injEq] at h
            rw [← h.1, List.map_cons, ih hq]
          · cases h
        · cases h
      · split at h
        · rename_i hq
          simp only [Option.some.injEq, Prod.mk.injEq] at h
          rw [← h.1, List.map_cons, ih hq]
        · cases h
      · cases h
  rw [← hmap h]
  unfold effsO
  rw [List.filter_map]
  rfl
theorem EffQ_run {prog : Nat → Option AFunc} {e : Env} {H : AH} {o : AOp} {k : AV → AH → Prop} (h : EffQ prog e H o k) : ∃ n v H', aop (acallv prog n) e H o = some (v, H') ∧ k v H' := by
  cases hc : o.isCall with
  | true =>
    cases o <;> simp only [AOp.isCall, reduceCtorEq] at hc
    simp only [EffQ] at h
    split at h
    · rename_i fv vs h1 h2
      obtain ⟨n, v, H', h3, h4⟩ := h
      exact ⟨n, v, H', by simp only [aop, h1, h2, with1, withL]; exact h3, h4⟩
    · exact h.elim
  | false =>
    have h' : Then (aop0 e H o) k := by cases o <;> first | exact h | (simp [AOp.isCall] at hc)
    cases hq : aop0 e H o with
    | none => rw [hq] at h'; exact h'.elim
    | some x =>
      rw [hq] at h'
      exact ⟨0, x.1, x.2, by rw [aop_nocall (c' := fun _ _ _ => none) hc]; exact hq, h'⟩
theorem Then_run {prog : Nat → Option AFunc} {e : Env} {H : AH} {o : AOp} {k : AV → AH → Prop} (hn : o.isCall = false) (h : Then (aop0 e H o) k) : ∃ v H', (∀ n, aop (acallv prog n) e H o = some (v, H')) ∧ k v H' := by
  cases hq : aop0 e H o with
  | none => rw [hq] at h; exact h.elim
  | some x =>
    rw [hq] at h
    exact ⟨x.1, x.2, fun n => by rw [aop_nocall (c' := fun _ _ _ => none) hn]; exact hq, h⟩
theorem WpD_run {prog : Nat → Option AFunc} {Q : Env → AH → Prop} : ∀ {os : List AOper} {e : Env} {H : AH} {over : List AOper} {ls : List LR} {hs : List HR}, WpD prog os e H over ls hs Q →
    ∃ n l e' H', aopsT (acallv prog n) os e H = some (l, e', H') ∧ Q e' H' ∧ (∀ x ∈ ls, ∀ h ∈ heads H' over l, okAt x h) ∧ (∀ s ∈ l, isLd s → ∀ h ∈ hs ++ heads H' over l, okAt (lrOf s) h)
  | [], e, H, over, ls, hs, h => by
    obtain ⟨h1, h2⟩ := h
    refine ⟨0, [], e, H, rfl, h2, fun x hx k hk => ?_, by simp⟩
    simp only [heads, List.mem_cons, List.not_mem_nil, or_false] at hk
    subst hk
    exact okAll_mem h1 x hx
  | o :: os, e, H, over, ls, hs, h => by
    simp only [WpD] at h
    have up : ∀ {n m : Nat}, n ≤ m → ∀ {os : List AOper} {e : Env} {H : AH} {r}, aopsT (acallv prog n) os e H = some r → aopsT (acallv prog m) os e H = some r := fun hnm _ _ _ _ h => aopsT_mono (acallv_mono hnm) h
    split at h
    · rename_i hw
      split at h
      · rename_i hcl
        have hef : o.isEff = true := by simp [AOper.isEff, hcl]
        obtain ⟨h1, h2⟩ := h
        obtain ⟨n, v, H1, h3, h4⟩ := EffQ_run h2
        obtain ⟨m, l, e', H', q1, q2, q3, q4⟩ := WpD_run h4
        have k1 : aop (acallv prog (max n m)) e H o.op = some (v, H1) := aop_mono (acallv_mono (Nat.le_max_left n m)) h3
        have k2 := up (Nat.le_max_right n m) q1
        have hhead : heads H' over (⟨o, e, true, v, H, H1⟩ :: l) = ⟨H, over, o :: effsO os⟩ :: heads H' (over ++ [o]) l := by
          simp only [heads, hef, if_true, aopsT_effs q1]
        refine ⟨max n m, ⟨o, e, true, v, H, H1⟩ :: l, e', H', by simp only [aopsT, hw, k1, k2], q2, fun x hx k hk => ?_, fun s hs' hld k hk => ?_⟩
        · rw [hhead] at hk
          rcases List.mem_cons.1 hk with rfl | hk
          · exact okAll_mem h1 x hx
          · exact q3 x hx k hk
        · rcases List.mem_cons.1 hs' with rfl | hs'
          · have := hld.2; simp only at this; rw [hcl] at this; cases this
          · rw [hhead] at hk
            refine q4 s hs' hld k ?_
            simp only [List.mem_append, List.mem_cons, List.not_mem_nil, or_false] at hk ⊢
            rcases hk with h | h | h
            · exact .inl (.inl h)
            · exact .inl (.inr h)
            · exact .inr h
      · rename_i hcl
        have hef : o.isEff = false := by simp [AOper.isEff, hcl]
        have hnc : o.op.isCall = false := by cases ho : o.op <;> rw [ho] at hcl <;> simp [AOp.cls] at hcl <;> rfl
        obtain ⟨v, H1, h3, h1, h2⟩ := Then_run (prog := prog) hnc h
        obtain ⟨m, l, e', H', q1, q2, q3, q4⟩ := WpD_run h2
        have hhead : heads H' over (⟨o, e, true, v, H, H1⟩ :: l) = heads H' over l := by simp only [heads, hef, Bool.false_eq_true, if_false]
        refine ⟨m, ⟨o, e, true, v, H, H1⟩ :: l, e', H', by simp only [aopsT, hw, h3, q1], q2, fun x hx k hk => ?_, fun s hs' hld k hk => ?_⟩
        · rw [hhead] at hk
          exact q3 x (by simp [hx]) k hk
        · rw [hhead] at hk
          rcases List.mem_cons.1 hs' with rfl | hs'
          · rcases List.mem_append.1 hk with hk | hk
            · exact okOne_mem h1 k hk
            · exact q3 _ (by simp [lrOf]) k hk
          · exact q4 s hs' hld k hk
      · rename_i hc1 hc2
        have hef : o.isEff = false := by
          simp only [AOper.isEff, decide_eq_false_iff_not]; exact fun h => hc1 h
        have hnc : o.op.isCall = false := by
          cases ho : o.op <;> first | rfl | (rw [ho] at hc1; simp [AOp.cls] at hc1)
        obtain ⟨v, H1, h3, h2⟩ := Then_run (prog := prog) hnc h
        obtain ⟨m, l, e', H', q1, q2, q3, q4⟩ := WpD_run h2
        have hhead : heads H' over (⟨o, e, true, v, H, H1⟩ :: l) = heads H' over l := by simp only [heads, hef, Bool.false_eq_true, if_false]
        refine ⟨m, ⟨o, e, true, v, H, H1⟩ :: l, e', H', by simp only [aopsT, hw, h3, q1], q2, fun x hx k hk => ?_, fun s hs' hld k hk => ?_⟩
        · rw [hhead] at hk; exact q3 x hx k hk
        · rw [hhead] at hk
          rcases List.mem_cons.1 hs' with rfl | hs'
          · exact absurd hld.2 (fun h => hc2 h)
          · exact q4 s hs' hld k hk
    · rename_i hw
      split at h
      · rename_i hcl
        have hef : o.isEff = true := by simp [AOper.isEff, hcl]
        obtain ⟨h1, h2⟩ := h
        obtain ⟨m, l, e', H', q1, q2, q3, q4⟩ := WpD_run h2
        have hhead : heads H' over (⟨o, e, false, .tuple [], H, H⟩ :: l) = ⟨H, over, o :: effsO os⟩ :: heads H' (over ++ [o]) l := by
          simp only [heads, hef, if_true, aopsT_effs q1]
        refine ⟨m, ⟨o, e, false, .tuple [], H, H⟩ :: l, e', H', by simp only [aopsT, hw, q1], q2, fun x hx k hk => ?_, fun s hs' hld k hk => ?_⟩
        · rw [hhead] at hk
          rcases List.mem_cons.1 hk with rfl | hk
          · exact okAll_mem h1 x hx
          · exact q3 x hx k hk
        · rcases List.mem_cons.1 hs' with rfl | hs'
          · cases hld.1
          · rw [hhead] at hk
            refine q4 s hs' hld k ?_
            simp only [List.mem_append, List.mem_cons, List.not_mem_nil, or_false] at hk ⊢
            rcases hk with h | h | h
            · exact .inl (.inl h)
            · exact .inl (.inr h)
            · exact .inr h
      · rename_i hc1
        have hef : o.isEff = false := by
          simp only [AOper.isEff, decide_eq_false_iff_not]; exact fun h => hc1 h
        obtain ⟨m, l, e', H', q1, q2, q3, q4⟩ := WpD_run h
        have hhead : heads H' over (⟨o, e, false, .tuple [], H, H⟩ :: l) = heads H' over l := by simp only [heads, hef, Bool.false_eq_true, if_false]
        refine ⟨m, ⟨o, e, false, .tuple [], H, H⟩ :: l, e', H', by simp only [aopsT, hw, q1], q2, fun x hx k hk => ?_, fun s hs' hld k hk => ?_⟩
        · rw [hhead] at hk; exact q3 x hx k hk
        · rw [hhead] at hk
          rcases List.mem_cons.1 hs' with rfl | hs'
          · cases hld.1
          · exact q4 s hs' hld k hk
    · exact h.elim
theorem Wp_draw {prog : Nat → Option AFunc} {ops : List AOper} {kp : List Nat} {e : Env} {H : AH} {Q : AExit → Env → AH → Prop} (h : WpD prog ops e H [] [] [] fun e' H' => Q .normal (e'.keep kp) H') : Wp prog (.draw ops kp) e H Q := by
  obtain ⟨n, l, e', H', h1, h2, _, h4⟩ := WpD_run h
  refine ⟨n, .normal, e'.keep kp, H', ?_, h2⟩
  simp only [code, adraw, h1]
  rw [if_pos]
  refine stable_heads fun k hk s hs => stableIn_of fun hld => h4 s hs hld k (by simpa using hk)
end Go.AM
